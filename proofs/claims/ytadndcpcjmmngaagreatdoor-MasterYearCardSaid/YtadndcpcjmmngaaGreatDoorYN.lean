/-
  Part of proofs about a town's master: a calculus for Bj beside goroutines that are only leaving, and the Bj. No condition.
-/
import Derived.Test.YtadndcpcjmmngaaGreatDoorYM
import Derived.Test.YtadndcpcjmmngaaGreatDoorRows
import Derived.Lay
import Derived.Lib.LaidTab
import Derived.LaidSub
import Derived.MakeChecks
import Derived.JoinedOf
import Derived.Handed
import Derived.ChangeMaps5
import Derived.ProofKit
import Derived.SevenTiedAt
set_option maxHeartbeats 1600000
set_option maxRecDepth 100000
set_option synthInstance.maxSize 2000
namespace Go.Proofs.YtadndcpcjmmngaaGreatDoor
open Go.Proofs.Tryz
open Go.X Go.X.Ms Go.Conc Go.RowKit Go.ChangeShapes Go.WideShapes Go.ChangeAt Go.Joins
open Go.X.Flow (Ch wcs Wys Am Dz)
open Go.X.Cist (Day Bl dcs)
variable{ms:Array (String×TypeId)}{args:Array Value}{s:ChangeSpec}{C:Checked}{d:DataW Unit}{f:FuncId}{p:List MemPlace}{conds:List PathCond}{cs:List Value}{T base g:Nat}{n:String}{H:Type}{t:TypeId}{v:Value}{W:World}
theorem Pn:ownKnob prog.godebug=none:=by kernel_rfl
theorem yls:laidOutB prog=true:=by kernel_rfl
theorem pCi:prog.cellsOf 3=1:=by kernel_rfl
theorem pCr:prog.cellsOf 105=4:=by kernel_rfl
theorem pCw:prog.cellsOf 93=2:=by kernel_rfl
theorem pCp:prog.cellsOf 45=2:=by kernel_rfl
theorem pCd:prog.cellsOf 48=3:=by kernel_rfl
theorem pCS:prog.cellsOf 25=5:=by kernel_rfl
theorem pCB:prog.cellsOf 28=3:=by kernel_rfl
theorem pCY:prog.cellsOf 31=3:=by kernel_rfl
theorem pCT:prog.cellsOf 33=11:=by kernel_rfl
instance:Inhabited Rk:=⟨rz⟩
section
variable{enc:TypeId×Value->H}
theorem xhg{α:Type}[Inhabited α]{fuel:Nat}{e w:TypeId}{y:DataW H×List MemPlace}(f:α->List Value)(ht:prog.underlying t=some (.slice e))(hw:prog.cellsOf e=w)
 (hQ:∀m cs y,DataW.trod enc prog W 0 (fun _=>true) true m e cs=some y-> ∃x:α,cs=f x)(h:DataW.trod enc prog W 0 (fun _=>true) true fuel t [v]=some y):
 ∃a c xs,v=.slice a (List.length xs) c/\xs.length<=9223372036854775807/\xs.length<=c/\Sl (vwP W) a xs.length w (xs.map f):=by
 rcases Go.Deep.open_slice ht h with⟨e1,_⟩|⟨a,len,cap,m,k,D,Pl,e1,_,hl,V,hm,_,O⟩
 ·obtain rfl:v=.slice none 0 0:=by simpa using e1
  exact⟨none,0,[],rfl,Nat.zero_le _,Nat.le_refl _,ywp⟩
 ·obtain rfl:v=.slice (some a) len cap:=by simpa using e1
  simp only[if_true]at hm;subst hw;obtain⟨E,hE⟩:=Go.Deep.choose_lt (n:=len) (p:=fun i cs=>W.cells? 0 (a.add (i*prog.cellsOf e)) (prog.cellsOf e)=some cs/\ ∃x:α,cs=f x) fun i hi=>by
   obtain⟨cs,h1,h2⟩:=O i om;exact⟨cs,h1,hQ _ _ _ h2⟩
  obtain⟨z,hz⟩:=Go.Deep.choose_lt (n:=len) (p:=fun i x=>E i=f x) fun i hi=>(hE i hi).2;have hs:=ye2 (E:=E) (n:=len) fun i hi=>(hE i hi).1;have M:((List.range len).map z).length=len:=by simp
  refine⟨some a,cap,(List.range len).map z,by rw[M],by rw[M];unfold maxLen at V;omega,by rw[M];exact hl,?_⟩;rw[M];have:(List.range len).map E=((List.range len).map z).map f:=by
   rw[List.map_map];exact List.map_congr_left fun i hi=>hz i (List.mem_range.1 hi)
  rw[<- this];exact hs
theorem xvz{m:Nat}{y:DataW H×List MemPlace}(h:DataW.trod enc prog W 0 (fun _=>true) true m 3 cs=some y):∃x:Int,cs=[.J x]:=yew underlying3 h
theorem yqq{m:Nat}{y:DataW H×List MemPlace}(h:DataW.trod enc prog W 0 (fun _=>true) true m 105 cs=some y):∃x:Rk,cs=x.cells:=by
 obtain⟨y0,y1,y2,y3,n,_,hl,h0,h1,h2,h3⟩:=Go.Joins.trod_struct4 underlying105 h;rw[pCr]at hl;obtain⟨a,M⟩:=xvz h0;obtain⟨b,O⟩:=xvz h1;obtain⟨c,hc⟩:=xvz h2;obtain⟨d,V⟩:=xvz h3
 match cs,hl with
 |[u,v,w,x],_=>
   refine⟨⟨a,b,c,d⟩,?_⟩;simp[pCi]at M O hc V;simp[Rk.cells,M,O,hc,V]
theorem ydw{m:Nat}{y:DataW H×List MemPlace}(h:DataW.trod enc prog W 0 (fun _=>true) true m 93 cs=some y):∃x:Ch,cs=x.cells:=by
 obtain⟨y0,y1,n,_,O,h0,h1⟩:=trod_struct2 underlying93 h;rw[pCw]at O;obtain⟨a,V⟩:=xvz h0;obtain⟨b,M⟩:=xvz h1
 match cs,O with
 |[u,v],_=>
   refine⟨(a,b),?_⟩;simp[pCi]at V M;simp[Flow.Ch.cells,V,M]
theorem yfw{m:Nat}{y:DataW H×List MemPlace}(h:DataW.trod enc prog W 0 (fun _=>true) true m 48 cs=some y):∃x:Day,cs=x.cells:=by
 obtain⟨y0,y1,n,_,V,h0,h1⟩:=trod_struct2 underlying48 h;obtain⟨z0,z1,n',_,a2,h2,h3⟩:=trod_struct2 underlying45 h0;rw[pCd]at V;obtain⟨a,M⟩:=xvz h2;obtain⟨b,O⟩:=xvz h3;obtain⟨c,hc⟩:=xvz h1
 match cs,V with
 |[u,v,w],_=>
   refine⟨⟨a,b,c⟩,?_⟩;simp[pCp,pCi]at M O hc;simp[Cist.Day.cells,M,O,hc]
theorem xjt{f0 O M V f4:Field}{fuel:Nat}{x:DataW H×List MemPlace}(ht:prog.underlying t=some (.struct #[f0,O,M,V,f4]))(h:DataW.trod enc prog W 0 (fun _=>true) true fuel t cs=some x):
 ∃y0 y1 y2 y3 y4 n,cs.length=prog.cellsOf t/\DataW.trod enc prog W 0 (fun _=>true) true n f0.type ((cs.drop f0.offset).take (prog.cellsOf f0.type))=some y0/\
  DataW.trod enc prog W 0 (fun _=>true) true n O.type ((cs.drop O.offset).take (prog.cellsOf O.type))=some y1/\DataW.trod enc prog W 0 (fun _=>true) true n M.type ((cs.drop M.offset).take (prog.cellsOf M.type))=some y2/\
  DataW.trod enc prog W 0 (fun _=>true) true n V.type ((cs.drop V.offset).take (prog.cellsOf V.type))=some y3/\DataW.trod enc prog W 0 (fun _=>true) true n f4.type ((cs.drop f4.offset).take (prog.cellsOf f4.type))=some y4:=by
 obtain⟨xs,n,_,rfl,hl,hlen,hf⟩:=DataW.trod_struct ht h
 match xs,hlen with
 |[y0,y1,y2,y3,y4],_=>exact⟨y0,y1,y2,y3,y4,n,hl,by simpa using hf 0 f0 rfl,by simpa using hf 1 O rfl,by simpa using hf 2 M rfl,by simpa using hf 3 V rfl,by simpa using hf 4 f4 rfl⟩
theorem xh8{m:Nat}{y:DataW H×List MemPlace}(h:DataW.trod enc prog W 0 (fun _=>true) true m 25 cs=some y):
 ∃a ca b cb s,cs=[.slice a (Shf.Ai s).length ca,.slice b s.Af.length cb,.J s.deep,.J s.Cs,.J s.rest]/\(s.Ai.length<=9223372036854775807/\s.Af.length<=9223372036854775807)/\(s.Ai.length<=ca/\s.Af.length<=cb)/\Cz (vwP W) a b s:=by
 obtain⟨y0,y1,y2,y3,y4,n,hl,O,M,h2,h3,h4⟩:=xjt underlying25 h;rw[pCS]at hl;obtain⟨x,V⟩:=xvz h2;obtain⟨y,hy⟩:=xvz h3;obtain⟨z,hz⟩:=xvz h4
 match cs,hl with
 |[c0,c1,c2,c3,c4],_=>
   have O:DataW.trod enc prog W 0 (fun _=>true) true n 22 [c0]=some y0:=O;have M:DataW.trod enc prog W 0 (fun _=>true) true n 23 [c1]=some y1:=M;obtain⟨a,ca,rs,rfl,b1,b2,S1⟩:=xhg Rk.cells underlying22 pCr (fun m cs y h=>yqq h) O;obtain⟨b,cb,fs,rfl,b3,b4,S2⟩:=xhg (fun x=>[Value.J x]) underlying23 pCi (fun m cs y h=>xvz h) M;simp[pCi]at V hy hz;exact⟨a,ca,b,cb,⟨rs,fs,x,y,z⟩,by rw[V,hy,hz],⟨b1,b3⟩,⟨b2,b4⟩,⟨S1,S2⟩⟩
theorem xm0{m:Nat}{y:DataW H×List MemPlace}(h:DataW.trod enc prog W 0 (fun _=>true) true m 28 cs=some y):
 ∃a1 c1 a2 c2 a3 c3 t,cs=[.slice a1 (Flow.Tn.nH t) c1,.slice a2 t.nW c2,.slice a3 t.m c3]/\(t.nH<=9223372036854775807/\t.nW<=9223372036854775807/\t.m<=9223372036854775807)/\(t.nH<=c1/\t.nW<=c2/\t.m<=c3)/\Am (vwP W) a1 t.nH a2 t.nW a3 t.m t:=by
 obtain⟨y0,y1,y2,n,_,hl,O,M,V⟩:=Go.Deep.trod_struct3 underlying28 h;rw[pCB]at hl
 match cs,hl with
 |[c0,c1,c2],_=>
   have O:DataW.trod enc prog W 0 (fun _=>true) true n 23 [c0]=some y0:=O;have M:DataW.trod enc prog W 0 (fun _=>true) true n 23 [c1]=some y1:=M;have V:DataW.trod enc prog W 0 (fun _=>true) true n 26 [c2]=some y2:=V;obtain⟨a1,d1,hs,rfl,b1,b2,S1⟩:=xhg (fun x=>[Value.J x]) underlying23 pCi (fun m cs y h=>xvz h) O;obtain⟨a2,d2,ws,rfl,b3,b4,S2⟩:=xhg (fun x=>[Value.J x]) underlying23 pCi (fun m cs y h=>xvz h) M;obtain⟨a3,d3,wy,rfl,b5,b6,S3⟩:=xhg Flow.Ch.cells underlying26 pCw (fun m cs y h=>ydw h) V;exact⟨a1,d1,a2,d2,a3,d3,⟨hs,ws,wy⟩,rfl,⟨b1,b3,b5⟩,⟨b2,b4,b6⟩,⟨S1,S2,S3⟩⟩
theorem ypz{m:Nat}{y:DataW H×List MemPlace}(h:DataW.trod enc prog W 0 (fun _=>true) true m 31 cs=some y):
 ∃a c M,cs=[.J (Yr.size M),.J M.start,.slice a M.days.length c]/\M.days.length<=9223372036854775807/\M.days.length<=c/\Bl (vwP W) a M.days.length M.days:=by
 obtain⟨y0,y1,y2,n,_,hl,h0,h1,O⟩:=Go.Deep.trod_struct3 underlying31 h;rw[pCY]at hl;obtain⟨x,V⟩:=xvz h0;obtain⟨y,hy⟩:=xvz h1
 match cs,hl with
 |[c0,c1,c2],_=>
   have O:DataW.trod enc prog W 0 (fun _=>true) true n 29 [c2]=some y2:=O;obtain⟨a,c,ds,rfl,b1,b2,S⟩:=xhg Cist.Day.cells underlying29 pCd (fun m cs y h=>yfw h) O;simp[pCi]at V hy;exact⟨a,c,⟨x,y,ds⟩,by rw[V,hy],b1,b2,S⟩
theorem xem{d:DataW H}(hv:Value.okWide prog W .any base 33 v)(h:DataW.Trod enc prog W 0 (fun _=>true) true 33 v d p):
 ∃A t,v=twV A t/\t.fit 9223372036854775807/\TwP (vwP W) A t:=by
 obtain⟨cs,rfl,a7⟩:=okWide_struct underlying33 hv;obtain⟨fuel,hf⟩:=h;obtain⟨y0,y1,y2,n,_,O,h0,V,h2⟩:=Go.Deep.trod_struct3 underlying33 hf;rw[pCT]at O;obtain⟨l⟩:=cs
 match l,O with
 |[c0,c1,c2,c3,c4,c5,c6,c7,c8,c9,c10],_=>
   simp only[pCS]at h0;simp only[pCB]at V;simp only[pCY]at h2;obtain⟨a1,d1,a2,d2,s,e0,b0,k0,S⟩:=xh8 h0;obtain⟨a3,d3,a4,d4,a5,d5,t,M,b1,k1,B⟩:=xm0 V;obtain⟨a6,d6,yr,e2,b2,k2,Y⟩:=ypz h2;simp[Value.cells]at e0 M e2;obtain⟨rfl,rfl,rfl,rfl,rfl⟩:=e0;obtain⟨rfl,rfl,rfl⟩:=M;obtain⟨rfl,rfl,rfl⟩:=e2;exact⟨⟨(a1,d1),(a2,d2),(a3,d3),(a4,d4),(a5,d5),(a6,d6)⟩,⟨s,t,yr⟩,rfl,⟨b0,b1,b2⟩,⟨S,B,Y,⟨k0,k1,k2⟩⟩⟩
theorem xl5{d:DataW H}(hv:Value.okWide prog W .any base 3 v)(h:DataW.Trod enc prog W 0 (fun _=>true) true 3 v d p):∃n:Int,v=.J n/\(-9223372036854775808<=n/\n<=9223372036854775807):=by
 obtain⟨n,rfl,_,_,hw⟩:=open_int underlying3 hv h;refine⟨n,rfl,?_⟩;simpa[Lit.wf,IntKind.min,IntKind.max,IntKind.signed,IntKind.bits]using hw
end
theorem xw3{cs:Array Value}(M:prog.globalNamed n=some g)(h:W.var? prog n=some cs)(O:cs.size≠0):∃t z,vwP W g=some (.cells cs t z):=by
 unfold World.var? at h;rw[M]at h;simp only[Option.bind_some]at h;split at h
 ·rename_i c t f e;obtain rfl:=Option.some.inj h;refine⟨t,f,?_⟩;have H:¬ Empty W.heap g:=by
   rintro⟨t',f',h'⟩;rw[e]at h';obtain⟨rfl,_⟩:c=#[]/\_:=by simpa using h'
   exact O rfl
  unfold vwP;rw[xwd H,e]
 ·cases h
theorem xb4{a b c:Int}{f0 V f2:Field}(hg:prog.globalNamed n=some g)(hT:(prog.globals[g]?).map (·.type)=some T)(hu:prog.underlying T=some (.struct #[f0,V,f2]))(hc:prog.cellsOf T=3)
 (k0:prog.underlying f0.type=some (.int .i64))(k1:prog.underlying V.type=some (.int .i64))(k2:prog.underlying f2.type=some (.int .i64))(o:f0.offset=0/\V.offset=1/\f2.offset=2)(oc:prog.cellsOf f0.type=1/\prog.cellsOf V.type=1/\prog.cellsOf f2.type=1)
 (h:laidMet prog [(n,.agg [.lit (.int .i64 a),.lit (.int .i64 b),.lit (.int .i64 c)])] W):∃t z,vwP W g=some (.cells #[.J a,.J b,.J c] t z):=by
 obtain⟨ps,⟨g',t',cs,fuel,p,q,a2,a3,M,hd,_,_⟩,_⟩:=h;obtain rfl:=Option.some.inj (hg.symm.trans a2);obtain rfl:t'=T:=Option.some.inj (a3.symm.trans hT);obtain⟨y0,y1,y2,n,O,hl,h0,h1,h2⟩:=Go.Deep.trod_struct3 hu hd;rw[hc]at hl;obtain⟨a',ha,ea,_⟩:=DataW.trod_int k0 h0;obtain⟨b',hb,eb,_⟩:=DataW.trod_int k1 h1;obtain⟨c',H,ec,_⟩:=DataW.trod_int k2 h2;obtain⟨l⟩:=cs
 match l,hl with
 |[u,v,w],_=>
   rw[o.1,oc.1]at ha;rw[o.2.1,oc.2.1]at hb;rw[o.2.2,oc.2.2]at H;simp at ha hb H;rw[ea,eb,ec]at O;simp at O;obtain⟨t,z,h4⟩:=xw3 hg M s_;refine⟨t,z,?_⟩;rw[h4,ha,hb,H,<- O.1.1,<- O.1.2.1,<- O.1.2.2]
theorem xe6{name:String}(hg:prog.globalNamed n=some g)(hT:(prog.globals[g]?).map (·.type)=some T)(hu:prog.underlying T=some (.interface ms))
 (h:laidMet prog [(n,.iface name d)] W):∃O M tE zE,vwP W g=some (.cells #[.iface O M] tE zE):=by
 obtain⟨ps,⟨g',t',cs,fuel,p,q,a2,a3,H,V,_,_⟩,_⟩:=h;obtain rfl:=Option.some.inj (hg.symm.trans a2);obtain rfl:t'=T:=Option.some.inj (a3.symm.trans hT);have key:∃O M,cs=#[.iface O M]:=by
  obtain⟨l⟩:=cs;cases fuel with
  |zero=>simp[DataW.trod]at V
  |succ fuel=>
    match l with
    |[]=>simp[DataW.trod,hu]at V
    |[v]=>
      cases v<;>first|exact⟨_,_,rfl⟩|(simp[DataW.trod,hu]at V)
    |a::b::r=>simp[DataW.trod,hu]at V
 obtain⟨O,M,rfl⟩:=key;obtain⟨t,z,h4⟩:=xw3 hg H s_;exact⟨O,M,t,z,h4⟩
theorem xwp(h:laidMetH prog Rows.masterBucketRow.laid W):GlP (vwP W):=by
 rw[MakeChecks.laidMetH_plain _ _ _ k_]at h;have flt:∀(n:String)(d:DataW Unit),(Rows.masterBucketRow.laid.filter fun x=>x.1==n)=[(n,d)]->laidMet prog [(n,d)] W:=fun n d e=>by
  have h2:=laidMet.filter (fun x=>x.1==n) h;rw[e]at h2;exact h2
 refine⟨?_,?_,?_,?_,?_,?_⟩
 ·exact xb4 (n := "steening/shafts.none") (T := 210) k_ k_ underlying210 k_ underlying3 underlying3 underlying3 ⟨rfl, rfl, rfl⟩ ⟨pCi, pCi, pCi⟩ (flt _ _ k_)
 ·exact xb4 (n := "steening/buckets.none") (T := 221) k_ k_ underlying221 k_ underlying3 underlying3 underlying3 ⟨rfl, rfl, rfl⟩ ⟨pCi, pCi, pCi⟩ (flt _ _ k_)
 ·have h3 := Lib.tabIs_of_head (g := 7) (t := 345) (e := 5) (n := 64) k_ k_ k_ k_ k_ k_ (flt "math/bits.deBruijn64tab" (Lib.tabData .u8 (Dz.map fun n => ((n : Nat) : Int))) k_)
  obtain⟨t,z,h4⟩:=xw3 (g:=7) k_ h3 (by decide +kernel);exact⟨t,z,by rw[h4];simp⟩
 ·have h3 := Lib.tabIs_of_head (g := 5) (t := 338) (e := 279) (n := 20) k_ k_ k_ k_ k_ k_ (flt "internal/strconv.uint64pow10" (Lib.tabData .u64 Lib.pow10Tab) k_)
  obtain⟨t,z,h4⟩:=xw3 (g:=5) k_ h3 (by decide +kernel);exact⟨t,z,h4⟩
 ·exact xe6 (n := "strconv.ErrSyntax") (name := "*errors.errorString") (d := .ptr (.agg [.lit (.string [105, 110, 118, 97, 108, 105, 100, 32, 115, 121, 110, 116, 97, 120])])) (T := 244) k_ k_ underlying244 (flt _ _ k_)
 ·exact xe6 (n := "strconv.ErrRange") (name := "*errors.errorString") (d := .ptr (.agg [.lit (.string [118, 97, 108, 117, 101, 32, 111, 117, 116, 32, 111, 102, 32, 114, 97, 110, 103, 101])])) (T := 244) k_ k_ underlying244 (flt _ _ k_)
noncomputable def Nj(os:Os):World:=World.laidAll prog os Rows.masterBucketRow.laid
theorem xs0(os:Os):laidMetH prog Rows.masterBucketRow.laid ((Nj os).forCall (fun _ _=>0) ⟨#[],args,[]⟩).memory:=by
 rw[MakeChecks.laidMetH_plain _ _ _ k_];exact laidMet_laidAll _ k_ k_
theorem xmm{enc:TypeId×Value->H}{a:Assume}{os:Os}{fn:Func}{O a6 a3 a4:Bool}{X:World->Array Value->Prop}
 (hX:∀(w w':World)(args:Array Value),w.heap=w'.heap->X w args->X w' args)(own:ownKnob C.prog.godebug=none)(a5:os.Started)(b4:C.prog.funcs[f]?=some fn)
 (a7:∃(w:World)(V:Tape)(i:Input),w.os=os/\(w.forCall V i).Shaped C.prog/\i.vars=[]/\Input.okWide C.prog (w.forCall V i) .any w.heap.size f i/\
  ((s.pre enc C.prog fn conds O (w.forCall V i).memory i.args/\X (w.forCall V i).memory i.args)/\sizedMet enc C.prog fn (OpenSpec.ofChange s) O (w.forCall V i).memory i.args)/\a.holds C.prog (lone (Frame.enter C.prog f i.args .normal) [] (w.forCall V i)))
 (a8:∀(W:World)(base:Nat)(args:Array Value)(ds gs:List (DataW H))(a2:List MemPlace),
  (∀(j:Nat)t v,fn.params[j]?=some t->args[j]?=some v->Value.okWide C.prog W .any base t v)->DataW.Whole enc C.prog fn.params.toList s.vars O W args.toList ds gs a2->X W args->
  ∃M last o w' t',runNT C.prog (M+1) (solo (G (Frame.enter C.prog f args .normal) []) W) #[]=(.ended o w',t')/\runN C.prog M (solo (G (Frame.enter C.prog f args .normal) []) W)=.next last/\
   step C.prog last=.ended o w'/\Conc.Good C.prog (fun v W'=>s.post enc C.prog fn O a6 a3 a4 W args v W') last o w' t'):
 ReturnsInLeavingWide a C os f .any (fun w args=>(s.pre enc C.prog fn conds O w args/\X w args)/\sizedMet enc C.prog fn (OpenSpec.ofChange s) O w args) (s.post enc C.prog fn O a6 a3 a4):=by
 refine returnsInLeavingWide_of_good own a5 a7 ?_;intro w V i _ _ _ b6 a9 _;obtain⟨_,_,_,fn',b0,_,_,_,_,b3⟩:=b6;have e:fn'=fn:=Option.some.inj (b0.symm.trans b4);subst e;obtain⟨⟨⟨ds,gs,a2,hw,_⟩,hx⟩,_⟩:=a9;have b5:=DataW.Whole.of_heap (w':=w.forCall V i) (by rfl) hw;obtain⟨M,last,o,w',t',h1,h2,h3,h4⟩:=a8 (w.forCall V i) w.heap.size i.args ds gs a2 b3 b5 (hX _ _ _ (by rfl) hx);exact⟨M,last,o,w',t',h1,h2,h3,h4.mono fun v hp=>ChangeSpec.post_blind hp⟩
theorem xkt(Lk:Looks){p:Pinned}{s:OpenSpec}{c:OpenClaim}(kinds:List LaidKind)(M:Bool)(H:Bool×String)(lk:Bool)(hc:c.holds p s)(hw:c.wfByText s=true)(O:c.laidByTextAt Lk p kinds M)
 (a2:c.start=.entering)(V:c.noBlocks=false/\c.again=false)(hm:p.checked.prog.mainIs=some (H.1,H.2.toList))(hn:(!H.1&&H.2.isEmpty&&!lk)=false)
 (hl:∀f fn,p.checked.prog.funcNamed c.func=some f->p.checked.prog.funcs[f]?=some fn->lk=p.checked.prog.looks []/\ ∀(j:Nat)t,fn.params[j]?=some t->p.checked.prog.wantsStandIn t=false)(hg:true=c.goesBy p.checked.prog):
 Claim7.holds p (.plain s) {stood:={row:=c,standIns:=[],harness:=H,looks:=lk},kinds:=[],alts:=[],goes:=true,laidByText:=true,laidKinds:=kinds,laidTests:=M,laidLooks:=Lk}:=by
 have h6:Claim7.isSixth {stood:={row:=c,standIns:=[],harness:=H,looks:=lk},kinds:=[]}=false:=by simpa[Claim7.isSixth]using hn
 exact⟨Claim7.tied_new_at Lk kinds M (Claim7.new_of_sixth hc H lk a2 V hm h6 hl) hw,fun D hD=>(by cases hD),O,fun h=>(by cases h),hg⟩
end Go.Proofs.YtadndcpcjmmngaaGreatDoor
namespace Go.X.Ms
variable{d:Dsk}{l vs:List Int}{args ls:List Str}{n:Nat}{o:Od}{w:Str}{t:Twn}
theorem Twn.fit.up{t:Twn}{n n':Nat}(h:t.fit n)(hn:n<=n'):t.fit n':=⟨⟨Nat.le_trans h.1.1 hn,Nat.le_trans h.1.2 hn⟩,⟨Nat.le_trans h.2.1.1 hn,Nat.le_trans h.2.1.2.1 hn,Nat.le_trans h.2.1.2.2 hn⟩,Nat.le_trans h.2.2 hn⟩
theorem xv5{α:Type}{xs H:List α}{d:α}(O:xs.length=H.length)(h:∀i,i<xs.length->xs.getD i d=H.getD i d):xs=H:=by
 apply List.ext_getElem O;intro i M V;have:=h i M;rwa[List.getD_eq_getElem?_getD,List.getD_eq_getElem?_getD,List.getElem?_eq_getElem M,List.getElem?_eq_getElem V]at this
theorem xyb:∀{w:Str}(s:Str),(32:UInt8)∉w->Ad (w++32::s)=w::Ad s
 |[],s,_=>by rw[List.nil_append,Ad,if_pos rfl]
 |c::w,s,h=>by
   have hc:c≠32:=fun e=>h (by rw[e];simp);have hw:(32:UInt8)∉w:=fun e=>h (List.mem_cons_of_mem _ e);rw[List.cons_append,Ad,if_neg hc,xyb s hw];rfl
theorem xxb:∀{w:Str},(32:UInt8)∉w->Ad w=[w]
 |[],_=>rfl
 |c::w,h=>by
   have hc:c≠32:=fun e=>h (by rw[e];simp);have hw:(32:UInt8)∉w:=fun e=>h (List.mem_cons_of_mem _ e);rw[Ad,if_neg hc,xxb hw];rfl
theorem xol:∀(s:Str){x:Str},(32:UInt8)∉x->Ad (s++32::x)=Ad s++[x]
 |[],x,h=>(xyb (w:=[]) x s_).trans (by rw[xxb h];rfl)
 |c::s,x,h=>by
   have H:=xol s h;rw[List.cons_append,Ad,Ad,H];by_cases hc:c=32
   ·rw[if_pos hc,if_pos hc];rfl
   ·rw[if_neg hc,if_neg hc];cases e:Ad s with
    |nil=>exact absurd e (xej s)
    |cons a t=>rfl
theorem yrp{n:Int}:(32:UInt8)∉txt n:=by
 intro h;have H:(32:UInt8)∈Dk n.natAbs:=by
  unfold txt at h;split at h
  ·rcases List.mem_cons.1 h with e|h
   ·cases e
   ·exact h
  ·exact h
 exact absurd (xwb _ H) d_
def sayK(w:Str)(l:List Int):Nat->Str
 |0=>w
 |k+1=>sayK w l k++(32::txt (l.getD k 0))
theorem xxh{w:Str}{l:List Int}(h:∀i,i<l.length->i64 (l.getD i 0)):∀k,k<=l.length->(sayK w l k).length<=w.length+21*k
 |0,_=>Nat.le_refl _
 |k+1,hk=>by
   have:=xxh (w:=w) h k om;have:=xbk (h k om);rw[sayK,List.length_append,List.length_cons];omega
theorem xzf{w:Str}(hw:(32:UInt8)∉w){l:List Int}:∀k,k<=l.length->Ad (sayK w l k)=w::(l.take k).map txt
 |0,_=>by rw[sayK,xxb hw];rfl
 |k+1,hk=>by
   have e:l.take (k+1)=l.take k++[l.getD k 0]:=by rw[List.take_add_one,List.getElem?_eq_getElem om,Flow.A8 om];rfl
   rw[sayK,xol _ (yrp),xzf hw k om,e,List.map_append];rfl
abbrev sm6(l:List Int):Prop:=∀x∈l,-999999<=x/\x<=999999
theorem yjj(n:Int):isLet (txt n)=false:=by
 rw[Bool.eq_false_iff];intro h;have h:=xcf.1 h;unfold txt at h;split at h
 ·have:=xfd n.natAbs;rw[List.length_cons]at h;omega
 ·cases e:Dk n.natAbs with
  |nil=>rw[e]at h;simp at h
  |cons d t=>
    have H:=xwb d (by rw[e];simp);rw[e]at h;unfold Eo at H;simp at h H;omega
theorem xhn(h:sm6 l):(l.map txt).all Bc=true:=by
 rw[List.all_eq_true];intro s hs;obtain⟨n,hn,rfl⟩:=List.mem_map.1 hs;unfold Bc;rw[xww (h n hn)];rfl
theorem xdd{d:Eg}:∀{l:List Int},sm6 l->Br d (l.map txt)=some l
 |[],_=>rfl
 |n::l,h=>by
   rw[List.map_cons,Br,xqh (by rw[yjj];simp),xww (h n s_),xdd fun x H=>h x (List.mem_cons_of_mem _ H)];rfl
section
variable{x k:Str}
theorem xcn(hs:Ad x=w::args)(H:w≠Cl):doD d x=Cr d [] (w::args):=by
 unfold doD;simp only[hs,List.headD_cons];rw[if_neg H]
theorem xps(hs:Ad x=Cl::k::w::args)(H:isLet k=true):doD d x=Cr d k (w::args):=by
 unfold doD;simp only[hs,List.headD_cons,if_true];rw[if_neg]
 ·simp
 ·simp[H]
theorem xtk{q:Qn}(H:qn (w++txt args.length)=some q)(hc:args.all Bc=true)(hv:Br d.now args=some vs):Cr d k (w::args)=De d q vs k:=by
 rw[xuk,H,hc,if_neg s_,hv]
theorem xyd(hc:args.all Bc=true)(H:qn (w++txt args.length)≠none\/k=[]/\od (w++txt args.length)≠none)(hv:Br d.now args=none):Cr d k (w::args)=(d,B8):=by
 rw[xuk,hc,if_neg,hv];rintro(h|⟨h1,h2⟩)
 ·cases h
 ·rcases H with H|⟨e1,e2⟩
  ·exact H h1
  ·rcases h2 with h2|h2
   ·exact h2 e1
   ·exact e2 h2.1
theorem xow(M:qn (w++txt args.length)=none)(O:od (w++txt args.length)=some o)(H:Cq w args.length=false)(hc:args.all Bc=true)(hv:Br d.now args=some vs):
 Cr d [] (w::args)=match C4 o d.now.t vs with
  |none=>(d,wNo)
  |some t=>if Bp t=0 then({d with now:={d.now with t:=t}},wOk)else(d,wNo):=by
 rw[xuk,M,O,hc,if_neg s_,hv];simp only;rw[if_neg (by rw[H];simp)];rfl
theorem xas(M:qn (w++txt ((0:Nat):Int))=none)(H:Cq w 0=true):Cr d [] [w]=((tryD d w).1,Hs (tryD d w).2):=by
 have e:=xuk d [] w [];rw[show(([]:List Str).length:Nat)=0 from rfl,M]at e;rw[e,if_neg,Br]
 ·exact if_pos H
 ·rintro(h|⟨_,h|h⟩)
  ·cases h
  ·exact h rfl
  ·have:Cq w 0=false:=h.2;rw[H]at this;cases this
end
theorem xcj(h:n<10):txt ((n:Nat):Int)=[UInt8.ofNat (48+n)]:=by unfold txt;rw[if_neg om,Int.natAbs_natCast,xsj h]
theorem yrg(hw:(32:UInt8)∉w)(H:w≠Cl):doD d (sayK w l l.length)=Cr d [] (w::l.map txt):=by
 unfold doD;simp only[xzf hw l.length (Nat.le_refl _),List.headD_cons,List.take_length];rw[if_neg H]
theorem ylt{q:Qn}(hw:(32:UInt8)∉w)(M:w≠Cl)(H:sm6 l)(O:qn (w++txt l.length)=some q):doD d (sayK w l l.length)=De d q l []:=by
 rw[yrg hw M];exact xtk (by rw[List.length_map];exact O) (xhn H) (xdd H)
theorem xos(hw:(32:UInt8)∉w)(O:w≠Cl)(M:sm6 l)(V:qn (w++txt l.length)=none)(ho:od (w++txt l.length)=some o)(H:Cq w l.length=false):
 doD d (sayK w l l.length)=match C4 o d.now.t l with
  |none=>(d,wNo)
  |some t=>if Bp t=0 then({d with now:={d.now with t:=t}},wOk)else(d,wNo):=by
 rw[yrg hw O];exact xow (by rw[List.length_map];exact V) (by rw[List.length_map];exact ho) (by rw[List.length_map];exact H) (xhn M) (xdd M)
def okD(d:Dsk):Prop:=Bp d.now.t=0/\ ∀s∈d.Cu,Bp s.t=0
theorem xub(d:Dsk)(q:Qn)(a:List Int)(l:Str):(De d q a l).1.now.t=d.now.t/\(De d q a l).1.Cu=d.Cu:=by
 refine⟨?_,xm1 d q a l⟩;unfold De;split
 ·rfl
 ·split
  ·rfl
  ·split
   ·cases(By q d.now.t a).1<;>rfl
   ·rfl
theorem ywl(h:okD d){q a l}:okD (De d q a l).1:=by
 obtain⟨H,M⟩:=xub d q a l;unfold okD;rw[H,M];exact h
theorem yvl(h:okD d){w}:okD (tryD d w).1:=by
 unfold tryD;split
 ·refine⟨h.1,fun s hs=>?_⟩;rcases List.mem_append.1 hs with hs|hs
  ·exact h.2 s hs
  ·rw[List.mem_singleton.1 hs];exact h.1
 ·split
  ·exact h
  ·rename_i x H;have M:x∈d.Cu:=List.mem_of_getLast? H;split
   ·exact⟨h.2 x M,fun s hs=>h.2 s (List.mem_of_mem_take hs)⟩
   ·exact⟨h.1,fun s hs=>h.2 s (List.mem_of_mem_take hs)⟩
theorem xm5(h:okD d)(l w:Str)(args:List Str):okD (Cr d l (w::args)).1:=by
 rw[xuk];split
 ·exact h
 ·cases Br d.now args with
  |none=>exact h
  |some vs=>
    cases qn (w++txt args.length)with
    |some q=>exact ywl h
    |none=>
      simp only;split
      ·exact yvl h
      ·cases od (w++txt args.length)with
       |none=>exact h
       |some o=>
         simp only;cases C4 o d.now.t vs with
         |none=>exact h
         |some t=>
           simp only;split
           ·rename_i c;exact⟨c,h.2⟩
           ·exact h
theorem yos(h:okD d)(x:Str):okD (doD d x).1:=by
 have e:∀(l:Str)(H:List Str),okD (Cr d l H).1:=fun l H=>by
  cases H with
  |nil=>exact xm5 h l [] []
  |cons w args=>exact xm5 h l w args
 unfold doD;simp only;split
 ·split
  ·exact h
  ·exact e _ _
 ·exact e _ _
theorem ysz:∀{xs:List Str}{d:Dsk},okD d->okD (Bw d xs).1
 |[],_,h=>h
 |x::xs,_,h=>ysz (xs:=xs) (yos h x)
theorem yrz(h:Bp t=0):okD (Ah t):=⟨h,by simp[Ah]⟩
theorem xkb(h:Bp t=0)(H:ls.length<=30):E0 t ls=((Bw (Ah t) ls).2,(Bw (Ah t) ls).1.now.t):=by unfold E0;rw[if_neg (by rw[h];simp;omega)]
theorem ybx(h:Bp t=0)(H:ls.length<=30):Mj t ls=0:=by unfold Mj;rw[if_neg (by rw[h];simp),if_neg om]
theorem ysw(h:Bp t=0)(H:ls.length<=30):(E0 t ls).1.length=ls.length:=by rw[xkb h H];exact xir _ _
theorem ytw(h:Bp t=0)(H:ls.length<=30):Bp (E0 t ls).2=0:=by rw[xkb h H];exact(ysz (yrz h)).1
def setD(d:Dsk)(t:Twn):Dsk:={d with now:={d.now with t:=t}}
theorem yfv{s:Shf}:Hd s=0<->s.ok:=by unfold Hd;split<;>simp_all
end Go.X.Ms
namespace Go.X.Flow
open Go.X
def exB:Tn:=⟨[5,4,3],[4,3],[(0,0),(1,0),(1,1),(2,1)]⟩
theorem vdB:Vd exB:=⟨d_,d_,d_,d_,by unfold YOk;decide⟩
theorem K2:C6 exB=0:=Cf d_ vdB
theorem Ni:Oq exB=7:=by decide +kernel
end Go.X.Flow
namespace Go.X.Ms
open Go.X.Flow (Tn exB)
open Go.X.Cist (Day)
variable{d:Dsk}
def exS:Shf:=⟨[⟨1,2,2,9⟩,⟨1,2,2,0⟩],[1,0,1,0],0,0,2⟩
def exY:Yr:=⟨10,5,[⟨0,2,1⟩,⟨6,9,2⟩,⟨0,0,7⟩,⟨4,4,3⟩]⟩
def exT:Twn:=⟨exS,exB,exY⟩
def M6:Tn:=⟨exB.hs,[7,3],exB.wy⟩
def N4:Shf:={exS with Af:=[1,0,1,0,1]}
def Gh:Str:=[99,104,101,97,112]
def exL:List Str:=[Gh,Dy,[102,111,111,116,32,49],Gh,F5,Ox,[107,101,101,112,32,109,32,109,111,115,116],[104,97,115,32,48,32,109],[108,97,99,107,115],[115,112,97,114,101,32,51],[115,105,122,101,32,120],[108,101,118,101,108,32,52]]
def exR:List Str:=[[49,55],wOk,wOk,[49,48],wOk,wNo,[55],wOk,[49,32,49,32,48],[50],B8,Gk]
theorem ynn:Flow.C6 M6=0:=Flow.Cf d_ ⟨d_,d_,d_,d_,by unfold Flow.YOk;decide⟩
theorem Pf:Cist.chk exY.size exY.start exY.days=0:=Cist.A7.2 (by unfold Cist.Ok Cist.Di;decide +kernel)
theorem xk3:Bp exT=0:=xxq.2 ⟨by decide +kernel,Flow.K2,Pf⟩
theorem yyd:Bp {exT with s:=N4}=0:=xxq.2 ⟨by decide +kernel,Flow.K2,Pf⟩
theorem yxd:Bp {exT with b:=M6}=0:=xxq.2 ⟨by decide +kernel,ynn,Pf⟩
theorem xg7:B7 ltC exS=0/\Cg exS=17/\B7 ltC N4=0/\Cg N4=10:=by decide +kernel
theorem P8:Flow.LK M6=[1,1,0]:=by decide +kernel
theorem tx0:txt ((0:Nat):Int)=[48]:=xcj d_
theorem tx1:txt ((1:Nat):Int)=[49]:=xcj d_
theorem tx2:txt ((2:Nat):Int)=[50]:=xcj d_
theorem xa7:doD d Gh=De d .cheap [] []:=
 (xcn (w:=Gh) (args:=[]) (by decide +kernel) d_).trans (xtk (q:=.cheap) (by show qn (Gh++txt ((0:Nat):Int))=_;rw[tx0];kernel_rfl) rfl rfl)
theorem yfn{w:Str}(hs:Ad w=[w])(M:w≠Cl)(H:qn (w++[48])=none)(O:Cq w 0=true):doD d w=((tryD d w).1,Hs (tryD d w).2):=
 (xcn hs M).trans (xas (by rw[tx0];exact H) O)
theorem xln{q:Qn}{a:List Int}{l:Str}(h:(By q d.now.t a).2=0):De d q a l=(if l≠[]then F9 d l (By q d.now.t a).1 else d,(By q d.now.t a).1.text):=by
 unfold De;rw[if_neg (by rw[h];decide),if_neg (by rw[h];simp)]
def k0:List Int:=List.replicate 26 0
def dA:Dsk:=Ah exT
def dB:Dsk:=⟨⟨exT,k0,k0⟩,[⟨exT,k0,k0⟩]⟩
def dC:Dsk:=⟨⟨{exT with s:=N4},k0,k0⟩,[⟨exT,k0,k0⟩]⟩
def dD:Dsk:=⟨⟨exT,k0.set 12 7,k0.set 12 1⟩,[]⟩
def dE:Dsk:=⟨⟨{exT with b:=M6},k0.set 12 7,k0.set 12 1⟩,[]⟩
theorem P6:txt 17=[49,55]:=by unfold txt;rw[if_neg d_,show(17:Int).natAbs=17 from rfl,xkv d_,xsj d_];rfl
theorem P9:txt 10=[49,48]:=by unfold txt;rw[if_neg d_,show(10:Int).natAbs=10 from rfl,xkv d_,xsj d_];rfl
theorem s1:doD dA Gh=(dA,[49,55]):=by
 rw[xa7,xln (d:=dA) (q:=.cheap) (a:=[]) (l:=[]) xg7.1];show(dA,txt (Cg exS))=_;rw[xg7.2.1,P6]
theorem s2:doD dA Dy=(dB,wOk):=by
 rw[yfn (by decide +kernel) d_ k_ d_];rfl
theorem s3:doD dB [102,111,111,116,32,49]=(dC,wOk):=by
 rw[xcn (w:=[102,111,111,116]) (args:=[[49]]) (by decide +kernel) d_,xow (o:=.Fm) (vs:=[1]) (by show qn (_++txt ((1:Nat):Int))=_;rw[tx1];kernel_rfl) (by show od (_++txt ((1:Nat):Int))=_;rw[tx1];kernel_rfl) d_ (by decide +kernel) (by decide +kernel)];show(if Bp {exT with s:=N4}=0 then _ else _)=_;rw[if_pos yyd];rfl
theorem s4:doD dC Gh=(dC,[49,48]):=by
 rw[xa7,xln (d:=dC) (q:=.cheap) (a:=[]) (l:=[]) xg7.2.2.1];show(dC,txt (Cg N4))=_;rw[xg7.2.2.2,P9]
theorem s5:doD dC F5=(dA,wOk):=by
 rw[yfn (by decide +kernel) d_ k_ d_];rfl
theorem s6:doD dA Ox=(dA,wNo):=by
 rw[yfn (by decide +kernel) d_ k_ d_];rfl
theorem s7:doD dA [107,101,101,112,32,109,32,109,111,115,116]=(dD,[55]):=by
 rw[xps (k:=[109]) (w:=[109,111,115,116]) (args:=[]) (by decide +kernel) d_,xtk (q:=.Ea) (vs:=[]) (by show qn (_++txt ((0:Nat):Int))=_;rw[tx0];kernel_rfl) rfl rfl,xln (d:=dA) (q:=.Ea) (a:=[]) (l:=[109]) Flow.K2];show(F9 dA [109] (.num (Flow.Cc exB)),txt (Flow.Cc exB))=_;rw[show Flow.Cc exB=7 by rw[Flow.Cc,if_pos Flow.K2,Flow.Ni]];show(_,txt ((7:Nat):Int))=_;rw[xcj d_];rfl
theorem s8:doD dD [104,97,115,32,48,32,109]=(dE,wOk):=by
 rw[xcn (w:=[104,97,115]) (args:=[[48],[109]]) (by decide +kernel) d_,xow (o:=.has) (vs:=[0,7]) (by show qn (_++txt ((2:Nat):Int))=_;rw[tx2];kernel_rfl) (by show od (_++txt ((2:Nat):Int))=_;rw[tx2];kernel_rfl) d_ (by decide +kernel) (by decide +kernel)];show(if Bp {exT with b:=M6}=0 then _ else _)=_;rw[if_pos yxd];rfl
theorem s9:doD dE [108,97,99,107,115]=(dE,[49,32,49,32,48]):=by
 rw[xcn (w:=[108,97,99,107,115]) (args:=[]) (by decide +kernel) d_,xtk (q:=.Ca) (vs:=[]) (by show qn (_++txt ((0:Nat):Int))=_;rw[tx0];kernel_rfl) rfl rfl,xln (d:=dE) (q:=.Ca) (a:=[]) (l:=[]) ynn];show(dE,Ny (Flow.LKc M6))=_;rw[Flow.Lv ynn,P8];show(dE,txt ((1:Nat):Int)++32::(txt ((1:Nat):Int)++32::(txt ((0:Nat):Int)++[])))=_;rw[tx0,tx1];rfl
theorem spE:Cist.Cn exY.size exY.start exY.days 3=(2,0):=by decide +kernel
theorem s10:doD dE [115,112,97,114,101,32,51]=(dE,[50]):=by
 rw[xcn (w:=[115,112,97,114,101]) (args:=[[51]]) (by decide +kernel) d_,xtk (q:=.spare) (vs:=[3]) (by show qn (_++txt ((1:Nat):Int))=_;rw[tx1];kernel_rfl) (by decide +kernel) (by decide +kernel),xln (d:=dE) (q:=.spare) (a:=[3]) (l:=[]) (show(Cist.Cn exY.size exY.start exY.days 3).2=0 by rw[spE])];show(dE,txt (Cist.Cn exY.size exY.start exY.days 3).1)=_;rw[spE];show(dE,txt ((2:Nat):Int))=_;rw[tx2]
theorem s11:doD dE [115,105,122,101,32,120]=(dE,B8):=by
 rw[xcn (w:=[115,105,122,101]) (args:=[[120]]) (by decide +kernel) d_,xyd (by decide +kernel) (.inr ⟨rfl,by show od (_++txt ((1:Nat):Int))≠_;rw[tx1,show od ([115,105,122,101]++[49])=some .size by kernel_rfl];simp⟩) (by decide +kernel)]
theorem lvE:(Cist.Hh exY.size exY.start exY.days 4).2=1:=by decide +kernel
theorem s12:doD dE [108,101,118,101,108,32,52]=(dE,Gk):=by
 rw[xcn (w:=[108,101,118,101,108]) (args:=[[52]]) (by decide +kernel) d_,xtk (q:=.level) (vs:=[4]) (by show qn (_++txt ((1:Nat):Int))=_;rw[tx1];kernel_rfl) (by decide +kernel) (by decide +kernel)];unfold De;rw[show(By .level dE.now.t [4]).2=1 from lvE];rfl
theorem ycx:(Bw (Ah exT) exL).2=exR/\(Bw (Ah exT) exL).1.now.t={exT with b:=M6}:=by
 unfold exL;simp only[Bw,show Ah exT=dA from rfl,s1,s2,s3,s4,s5,s6,s7,s8,s9,s10,s11,s12];exact⟨rfl,rfl⟩
theorem yyp:E0 exT exL=(exR,{exT with b:=M6}):=by rw[xkb xk3 d_,ycx.1,ycx.2]
end Go.X.Ms
namespace Go.Proofs.YtadndcpcjmmngaaGreatDoor
open Go.Proofs.Tryz
open Go.X Go.X.Ms Go.Conc
open Go.X.Flow (Ch Wys wz ics Am Dr)
open Go.X.Cist (Day Bl dz)
variable{h:Heap}{md:Md}{c1 c2 c3 ca cb n:Nat}{b:Option Addr}{p:Aa}
theorem cf28{n lo hi:Int}:Dc prog md p 28 #[.J n,.J lo,.J hi] (.bool (decide (lo<=n/\n<=hi))):=by
 refine xlq func28 fun K=>?_;refine K.q ?_;exact congrArg Value.bool (by rw[Bool.eq_iff_iff];simp)
theorem cf46{n lo hi:Int}:Dc prog md p 46 #[.J n,.J lo,.J hi] (.bool (decide (lo<=n/\n<=hi))):=by
 refine xlq func46 fun K=>?_;refine cdq cf28 ?_;exact K.q rfl
theorem cf16{n lo hi:Int}:Dc prog md p 16 #[.J n,.J lo,.J hi] (.bool (decide (lo<=n/\n<=hi))):=by
 refine xlq func16 fun K=>?_;refine cdq cf28 ?_;exact K.q rfl
theorem cf23{n lo hi:Int}:Dc prog md p 23 #[.J n,.J lo,.J hi] (.bool (decide (lo<=n/\n<=hi))):=by
 refine xlq func23 fun K=>?_;refine cdq cf28 ?_;exact K.q rfl
theorem cf47{a:Option Addr}(s:Shf)(hn:s.Ai.length<=2^40)(x:Int):Dc prog md p 47 #[.agg #[.slice a s.Ai.length ca,.slice b s.Af.length cb,.J s.deep,.J s.Cs,.J s.rest],.J x] (.bool (decide (okF s.Ai.length x))):=by
 refine xkq func47 fun K b1=>?_;refine cdq cf46 ?_;exact K.q rfl
theorem xtg{α:Type}{l:List α}{z:α}{P:α->Prop}:(∀x∈l,P x)<-> ∀i,i<l.length->P (l.getD i z):=by
 constructor
 ·intro h i hi;rw[List.getD_eq_getElem?_getD,List.getElem?_eq_getElem hi];exact h _ (List.getElem_mem hi)
 ·intro h x H;obtain⟨i,hi,rfl⟩:=List.mem_iff_getElem.1 H;have:=h i hi;rwa[List.getD_eq_getElem?_getD,List.getElem?_eq_getElem hi]at this
theorem cf26{a:Option Addr}(s:Shf)(S:Cz p a b s)(hn:s.Ai.length<=2^20/\s.Af.length<=2^20):Dc prog md p 26 #[.agg #[.slice a s.Ai.length ca,.slice b s.Af.length cb,.J s.deep,.J s.Cs,.J s.rest]] (.J (Hd s)):=by
 intro h hp;have Sr:=S.r;have Sf:=S.f;have a2:Sl p a s.Ai.length 4 (rcs s.Ai):=S.r;refine xez hp func26 fun zq cs Stop K=>?_;have M:∀{h_:Heap},As h h_-> ¬ s.ok->X.Reach prog md (G (zq.finish (.J 20)) cs) h_ Stop:=fun k z=>K _ _ ⟨by rw[Hd,if_neg z],k⟩;refine bq fun b1=>?_;refine cgq (fun _=>cf46) ?_;refine cgq (fun _=>cf46) ?_;refine cgq (fun _=>cf46) ?_;refine cq (fun V=>?_) (fun V=>?_)
 ·refine ax ?_;exact xrq func26 rfl rfl fun h_ O=>M O.kept fun z=>by
   obtain⟨z1,_,z3,_,z5,z6,z7,z8⟩:=z;omega
 have hb:s.Ai.length<=4/\s.Af.length<=12/\(0<=s.deep/\s.deep<=9)/\(0<=s.Cs/\s.Cs<=9)/\0<=s.rest/\s.rest<=9:=om;clear V;refine ax ?_;refine xjq (fun m_ l p_ L_=>∃j:Nat,m_=s.Ai.length-j/\l=[(1,none,w_ b1 0),(3,none,.J ((j:Nat):Int))]/\p_=p/\L_=[[(b1,.cells #[.slice a s.Ai.length ca,.slice b s.Af.length cb,.J s.deep,.J s.Cs,.J s.rest] 25 (0,0))]]/\j<=s.Ai.length/\ ∀i,i<j->okR (s.Ai.getD i rz)) ⟨0,rfl,rfl,rfl,rfl,Nat.zero_le _,om⟩ sb ?_;rintro _ _ p _ IH ⟨j,rfl,rfl,rfl,rfl,hj,hq⟩;refine cq (fun V=>?_) (fun V=>?_)
 ·have H:j<s.Ai.length:=om;refine ax ?_;refine ro_y rfl (xlk rfl (Sr.all H)) ?_;refine lq fun b4=>?_;refine cdq cf46 ?_;refine cgq (fun _=>cf46) ?_;refine cgq (fun _=>cf46) ?_;refine cgq (fun _=>cf46) ?_;refine cq (fun cd=>?_) (fun cd=>?_)
  ·refine ax ?_;exact xrq func26 rfl rfl fun h_ O=>M O.kept fun z=>by
    have:=(xtg (z:=rz)).1 z.2.1 j H;unfold okR at this;omega
  ·have h1:okR (s.Ai.getD j rz):=by unfold okR;omega
   exact bkq (IH _ _ _ om ⟨j+1,rfl,rfl,rfl,rfl,om,fun i hi=>by
    rcases Nat.lt_or_ge i j with z|z
    ·exact hq i z
    ·obtain rfl:i=j:=om;exact h1⟩)
 have hr:∀r∈s.Ai,okR r:=(xtg (z:=rz)).2 fun i hi=>hq i om;clear hq IH V;refine ax ?_;refine xjq (fun m_ l p_ L_=>∃j:Nat,m_=s.Af.length-j/\l=[(1,none,w_ b1 0),(5,none,.J ((j:Nat):Int))]/\p_=p/\L_=[[(b1,.cells #[.slice a s.Ai.length ca,.slice b s.Af.length cb,.J s.deep,.J s.Cs,.J s.rest] 25 (0,0))]]/\j<=s.Af.length/\ ∀i,i<j->okF s.Ai.length (s.Af.getD i 0)) ⟨0,rfl,rfl,rfl,rfl,Nat.zero_le _,om⟩ sb ?_;rintro _ _ p _ IH ⟨j,rfl,rfl,rfl,rfl,hj,hq⟩;refine cq (fun V=>?_) (fun V=>?_)
 ·have H:j<s.Af.length:=om;refine drq [] R6 ?_;refine ax ?_;refine xrx rfl rfl (cf47 s om _) ?_;refine cq (fun cd=>?_) (fun cd=>?_)
  ·refine ax ?_;exact xrq func26 rfl rfl fun h_ O=>M O.kept fun z=>cd (xtg.1 z.2.2.2.1 j H)
  ·exact bkq (IH _ _ _ om ⟨j+1,rfl,rfl,rfl,rfl,om,fun i hi=>by
    rcases Nat.lt_or_ge i j with z|z
    ·exact hq i z
    ·obtain rfl:i=j:=om;exact Classical.not_not.1 cd⟩)
 refine ax ?_;exact xrq func26 rfl rfl fun h_ O=>K _ _ ⟨by
  rw[Hd,if_pos ⟨hb.1,hr,hb.2.1,(xtg (z:=0)).2 fun i hi=>hq i om,hb.2.2.1,hb.2.2.2.1,hb.2.2.2.2⟩];rfl,O.kept⟩
open Go.X.Flow (Ch Wys wz ics Am Dr Tn Vd YOk C6 Cf Fr)
variable{a1 a2 a3:Option Addr}
theorem cf7(t:Tn)(hn:t.nH<=2^40)(z:Int):Dc prog md p 7 #[.agg #[.slice a1 t.nH c1,.slice a2 t.nW c2,.slice a3 t.m c3],.J z] (.bool (decide (0<=z/\z<=(t.nH:Int)-1))):=by
 refine xkq func7 fun K b1=>?_;refine cdq cf16 ?_;exact K.q rfl
theorem cf6(t:Tn)(hn:t.nW<=2^40)(z:Int):Dc prog md p 6 #[.agg #[.slice a1 t.nH c1,.slice a2 t.nW c2,.slice a3 t.m c3],.J z] (.bool (decide (0<=z/\z<=(t.nW:Int)-1))):=by
 refine xkq func6 fun K b1=>?_;refine cdq cf16 ?_;exact K.q rfl
theorem cf89(x y:Ch):Dc prog md p 89 #[.agg #[.J x.1,.J x.2],.agg #[.J y.1,.J y.2]] (.bool (Ml x y)):=by
 refine xkq func89 fun K b1=>?_;refine bq fun b2=>?_;refine K.q ?_;refine congrArg Value.bool ?_;unfold Ml;rw[Bool.eq_iff_iff];simp
theorem cf13(size start:Int){a:Option Addr}(c:Nat)(ds:List Day)(D:Bl p a n ds)(hn:n<=2^20):Dc prog md p 13 #[.agg #[.J size,.J start,.slice a n c]] (.J (Cist.chk size start ds)):=by
 intro h hp;have hl:=D.len;have D2:Sl p a n 3 (Cist.dcs ds):=D;refine xez hp func13 fun zq cs Stop K=>?_;have H:∀{O:Heap},As h O-> ¬ Cist.Ok size start ds->X.Reach prog md (G (zq.finish (.J 100)) cs) O Stop:=fun k z=>K _ _ ⟨by rw[Cist.Hu z],k⟩;refine bq fun b1=>?_;refine cdq cf23 ?_;refine cgq (fun _=>cf23) ?_;refine cq (fun cc=>?_) (fun cc=>?_)
 ·refine ax ?_;exact xrq func13 rfl rfl fun O M=>H M.kept fun z=>by
   have:=z.1;have:=z.2.1;have:=z.2.2.1;have:=z.2.2.2.1;have:=z.2.2.2.2.1
   omega
 refine ax ?_;refine xjq (fun m_ l p_ L_=>∃j:Nat,m_=n-j/\l=[(1,none,w_ b1 0),(3,none,.J ((j:Nat):Int))]/\p_=p/\L_=[[(b1,.cells #[.J size,.J start,.slice a n c] 31 (0,0))]]/\j<=n/\ ∀i,i<j->Cist.Di (ds.getD i dz)) ⟨0,rfl,rfl,rfl,rfl,Nat.zero_le _,om⟩ sb ?_;rintro _ _ p _ IH ⟨j,rfl,rfl,rfl,rfl,hj,hq⟩;refine cq (fun ce=>?_) (fun ce=>?_)
 ·have V:j<n:=om;refine ax ?_;refine ro_y rfl (xlk rfl (D.all V)) ?_;refine lq fun b4=>?_;refine cdq cf23 ?_;refine cgq (fun _=>cf23) ?_;refine cgq (fun _=>cf23) ?_;refine cq (fun cd=>?_) (fun cd=>?_)
  ·refine ax ?_;exact xrq func13 rfl rfl fun O M=>H M.kept fun z=>by
    have:=z.2.2.2.2.2 j om;unfold Cist.Di at this;omega
  ·have h1:Cist.Di (ds.getD j dz):=by unfold Cist.Di;omega
   exact bkq (IH _ _ _ om ⟨j+1,rfl,rfl,rfl,rfl,om,Cist.Lx hq h1⟩)
 refine ax ?_;exact xrq func13 rfl rfl fun O M=>K _ _ ⟨by
  rw[Cist.Ei ⟨om,om,om,om,om,fun i hi=>hq i om⟩];rfl,M.kept⟩
theorem cf48(c1 c2 c3:Nat)(t:Tn)(T:Am p a1 t.nH a2 t.nW a3 t.m t)(hn:t.nH<=2^20/\t.nW<=2^20/\t.m<=2^20):Kc prog md p 48 #[.agg #[.slice a1 t.nH c1,.slice a2 t.nW c2,.slice a3 t.m c3]] (fun v=>(∃q:Bool,v=.bool q/\(q=true<->Vd t))):=by
 intro h hp;have Th:=T.h;have Tw:=T.w;have Ty:Sl p a3 t.m 2 (Flow.wcs t.wy):=T.y;refine xez hp func48 fun zq cs Stop K=>?_;have V:∀{h_:Heap},As h h_-> ¬ Vd t->X.Reach prog md (G (zq.finish (.bool false)) cs) h_ Stop:=fun k z=>K _ _ ⟨⟨false,rfl,by simp[z]⟩,k⟩;refine bq fun b1=>?_;refine cq (fun cc=>?_) (fun cc=>?_)
 ·refine ax ?_;exact xrq func48 rfl rfl fun h_ H_=>V H_.kept fun z=>by
   have:=z.nh;have:=z.nw;omega
 refine ax ?_;refine xjq (fun m_ l p_ L_=>∃j:Nat,m_=t.nH-j/\l=[(1,none,w_ b1 0),(3,none,.J ((j:Nat):Int))]/\p_=p/\L_=[[(b1,.cells #[.slice a1 t.nH c1,.slice a2 t.nW c2,.slice a3 t.m c3] 28 (0,0))]]/\j<=t.nH/\ ∀i,i<j->0<=t.hs.getD i 0/\t.hs.getD i 0<=9) ⟨0,rfl,rfl,rfl,rfl,Nat.zero_le _,om⟩ sb ?_;rintro _ _ p _ IH ⟨j,rfl,rfl,rfl,rfl,hj,O⟩;refine cq (fun ce=>?_) (fun ce=>?_)
 ·have M:j<t.nH:=om;refine cdq cf16 ?_;refine cq (fun H=>?_) (fun H=>?_)
  ·refine ax ?_;exact xrq func48 rfl rfl fun h_ H_=>V H_.kept fun z=>H (z.h j M)
  ·exact bkq (IH _ _ _ om ⟨j+1,rfl,rfl,rfl,rfl,om,fun i hi=>by
    rcases Nat.lt_or_ge i j with z|z
    ·exact O i z
    ·obtain rfl:i=j:=om;exact Classical.not_not.1 H⟩)
 have hH:∀i,i<t.nH->0<=t.hs.getD i 0/\t.hs.getD i 0<=9:=fun i hi=>O i om;clear O IH ce;refine ax ?_;refine xjq (fun m_ l p_ L_=>∃j:Nat,m_=t.nW-j/\l=[(1,none,w_ b1 0),(4,none,.J ((j:Nat):Int))]/\p_=p/\L_=[[(b1,.cells #[.slice a1 t.nH c1,.slice a2 t.nW c2,.slice a3 t.m c3] 28 (0,0))]]/\j<=t.nW/\ ∀i,i<j->0<=t.ws.getD i 0/\t.ws.getD i 0<=20) ⟨0,rfl,rfl,rfl,rfl,Nat.zero_le _,om⟩ sb ?_;rintro _ _ p _ IH ⟨j,rfl,rfl,rfl,rfl,hj,O⟩;refine cq (fun ce=>?_) (fun ce=>?_)
 ·have M:j<t.nW:=om;refine cdq cf16 ?_;refine cq (fun H=>?_) (fun H=>?_)
  ·refine ax ?_;exact xrq func48 rfl rfl fun h_ H_=>V H_.kept fun z=>H (z.w j M)
  ·exact bkq (IH _ _ _ om ⟨j+1,rfl,rfl,rfl,rfl,om,fun i hi=>by
    rcases Nat.lt_or_ge i j with z|z
    ·exact O i z
    ·obtain rfl:i=j:=om;exact Classical.not_not.1 H⟩)
 have hW:∀i,i<t.nW->0<=t.ws.getD i 0/\t.ws.getD i 0<=20:=fun i hi=>O i om;clear O IH ce;refine ax ?_;refine xjq (fun m_ l p_ L_=>∃j:Nat,m_=t.m-j/\l=[(1,none,w_ b1 0),(5,none,.J ((j:Nat):Int))]/\p_=p/\L_=[[(b1,.cells #[.slice a1 t.nH c1,.slice a2 t.nW c2,.slice a3 t.m c3] 28 (0,0))]]/\j<=t.m/\ ∀i,i<j->YOk t i) ⟨0,rfl,rfl,rfl,rfl,Nat.zero_le _,om⟩ sb ?_;rintro _ _ p _ IH ⟨j,rfl,rfl,rfl,rfl,hj,O⟩;refine cq (fun ce=>?_) (fun ce=>?_)
 ·have M:j<t.m:=om;refine ax ?_;refine ro_y rfl (xlk rfl (T.y.all M)) ?_;refine lq fun b6=>?_;refine drq [] R23 ?_;refine xaj rfl rfl rfl (cf7 t om _) ?_;refine ex ?_;refine xxk rfl rfl rfl rfl sdu (fun _=>cf6 t om _) ?_;refine ex ?_;refine de_y rfl rfl (xkz rfl rfl sdu sdu (fun hc=>⟨⟨by simp at hc;omega,om⟩,Sl.ne Ty om⟩)) ?_;refine ex ?_;refine de_y rfl rfl (xzc rfl sdu (fun _=>T.y.all (k:=((j:Int)-1).toNat) om) (vs:=[.J (t.wy.getD ((j:Int)-1).toNat wz).1,.J (t.wy.getD ((j:Int)-1).toNat wz).2])) ?_;refine xa ?_;refine cgq (fun _=>cf89 _ _) ?_;refine cq (fun H=>?_) (fun H=>?_)
  ·refine ax ?_;exact xrq func48 rfl rfl fun h_ H_=>V H_.kept fun z=>by
    have z:=z.y j M;rcases H with(c|c)|c
    ·exact c z.1
    ·exact c z.2.1
    ·exact c.2 (decide_eq_true (z.2.2 om))
  ·have h1:YOk t j:=⟨Classical.not_not.1 fun c=>H (.inl (.inl c)),Classical.not_not.1 fun c=>H (.inl (.inr c)),fun h0=>of_decide_eq_true (Classical.not_not.1 fun c=>H (.inr ⟨om,c⟩))⟩
   exact bkq (IH _ _ _ om ⟨j+1,rfl,rfl,rfl,rfl,om,fun i hi=>by
    rcases Nat.lt_or_ge i j with z|z
    ·exact O i z
    ·obtain rfl:i=j:=om;exact h1⟩)
 refine ax ?_;exact xrq func48 rfl rfl fun h_ H_=>K _ _ ⟨⟨true,rfl,by simp;exact⟨om,om,hH,hW,fun i hi=>O i om⟩⟩,H_.kept⟩
open Classical in
theorem d48(M:Per p h)(t:Tn)(T:Am p a1 t.nH a2 t.nW a3 t.m t)(hn:t.nH<=2^20/\t.nW<=2^20/\t.m<=2^20):
 Ac prog md 48 #[.agg #[.slice a1 t.nH c1,.slice a2 t.nW c2,.slice a3 t.m c3]] h fun v V=>v=.bool (decide (Vd t))/\As h V:=
 (cf48 c1 c2 c3 t T hn h M).mono fun _ _⟨⟨_,H,e⟩,O⟩=>⟨H.trans (congrArg Value.bool (by rw[Bool.eq_iff_iff,decide_eq_true_iff];exact e)),O⟩
open Classical in
theorem cf27(t:Tn)(T:Am p a1 t.nH a2 t.nW a3 t.m t)(hn:t.nH<=2^20/\t.nW<=2^20/\t.m<=2^20):Dc prog md p 27 #[.agg #[.slice a1 t.nH c1,.slice a2 t.nW c2,.slice a3 t.m c3]] (.J (C6 t)):=by
 refine xkq func27 fun K b1=>?_;refine cgq (fun _ _ M=>d48 M t T hn) ?_;refine cq (fun H=>?_) (fun H=>?_)
 ·refine K.q ?_;rw[Fr fun z=>by rcases H with c|c;exact absurd z.1 om;exact c z.2];rfl
 ·refine K.q ?_;rw[Cf om (Classical.not_not.1 fun c=>H (.inr c))];rfl
theorem cf15(A:TA)(t:Twn)(T:TwP p A t)(hn:t.fit (2^20)):Dc prog md p 15 #[twV A t] (.J (Bp t)):=by
 obtain⟨⟨O,n2⟩,⟨V,n4,M⟩,n6⟩:=hn;refine xkq func15 fun K b1=>?_;refine ax ?_;refine xrx rfl rfl (cf26 t.s T.s ⟨om,om⟩) ?_;refine ax ?_;refine xxj rfl rfl rfl sdt (fun _=>cf27 t.b T.b ⟨om,om,om⟩) ?_;refine ax ?_;refine xxj rfl rfl rfl sdt (fun _=>cf13 _ _ _ _ T.d om) ?_;refine cq (fun H=>?_) (fun H=>?_)
 ·refine K.q ?_;rw[Bp,if_neg (fun z=>by simp[z]at H)];rfl
 ·refine K.q ?_;rw[Bp,if_pos (by simp at H;exact⟨H.1.1,H.1.2,H.2⟩)];rfl
open Go.X.Flow (Ch Wys wz ics Am Tn)
open Go.X.Cist (Day Bl dz dcs Ct Aj)
variable{ds:List Day}
theorem cf37{size start:Int}{a:Option Addr}{c:Nat}(D:Bl p a n ds)(hn:n<=2^20):Nc prog md p 37 #[.agg #[.J size,.J start,.slice a n c]] (fun v Y=>(∃a' O,v=.agg #[.J size,.J start,.slice a' n O]/\Ab 48 3 (.slice a' n O) (dcs ds) Y)):=by
 have hl:=D.len;refine xkq func37 fun K b1=>?_;refine lq fun b2=>?_;refine lq fun b3=>?_;refine ax ?_;refine xtx rfl fun V Y1 M=>?_;have M:Ab 48 3 V [] Y1:=M;refine ax ?_;refine xmw rfl rfl M D (Ct ds) (by simp;omega) fun v2 Y2 H=>?_;rw[List.nil_append]at H;obtain⟨a2,c2,rfl,-⟩:=H.val;rw[Aj,hl]at H⊢;refine ax ?_;exact K.e rfl (xoq rfl .nil) fun _ H_=>⟨Y2,⟨a2,c2,rfl,H⟩,El H_⟩
theorem cf35{a:Option Addr}(s:Shf)(S:Cz p a b s)(hn:s.Ai.length<=2^20/\s.Af.length<=2^20):Nc prog md p 35 #[.agg #[.slice a s.Ai.length ca,.slice b s.Af.length cb,.J s.deep,.J s.Cs,.J s.rest]] (fun v Y=>(∃a' a3 b' a4 Y1 Y2,v=.agg #[.slice a' s.Ai.length a3,.slice b' s.Af.length a4,.J s.deep,.J s.Cs,.J s.rest]/\Ab 105 4 (.slice a' s.Ai.length a3) (rcs s.Ai) Y1/\Ab 3 1 (.slice b' s.Af.length a4) (ics s.Af) Y2/\Y=Y1++Y2)):=by
 refine xkq func35 fun K b1=>?_;refine lq fun b2=>?_;refine lq fun b3=>?_;refine ax ?_
 refine xqd 9 [3,7] [1,2,5,6,8] [0,3,4,7] (fun i=>match i with|3=>[0]|7=>[4]|_=>[]) (fun i=>match i with|2=>[1]|3=>[0,2]|6=>[5]|7=>[4,6]|_=>[])
  (fun i _ _ v x=>match i with
   |0=>Ab 105 4 v [] x
   |1=>v=w_ b1 0/\x=[]
   |2=>v=.slice a s.Ai.length ca/\x=[]
   |3=>Ab 105 4 v (rcs s.Ai) x
   |4=>Ab 3 1 v [] x
   |5=>v=w_ b1 1/\x=[]
   |6=>v=.slice b s.Af.length cb/\x=[]
   |7=>Ab 3 1 v (ics s.Af) x
   |8=>v=w_ b3 0/\x=[]
   |_=>True) (fun i hi val piece H=>?_) (fun val piece j hj v x q=>?_) (fun val piece H=>?_)
 ·match i,hi with
  |0,_=>
   refine xjk rfl rfl fun v Y o=>?_;have o:Ab 105 4 v [] Y:=o;exact xjz ⟨⟨_,rfl⟩,fun v' e=>by
    have O:=xqx e;subst O;show Ab _ _ _ _ ([Y]++[]).flatten;have V:([Y]++([]:List Pcs)).flatten=Y:=by simp
    rw[V];exact o⟩
  |1,_=>
   exact det
  |2,_=>
   refine de_y rfl rfl (y_ld (by show some ([],val 1)=_;rw[(H 1 rfl).1]) sdt (b:=b1) (off:=0) (cs:=#[.slice a s.Ai.length ca,.slice b s.Af.length cb,.J s.deep,.J s.Cs,.J s.rest]) (T:=25) (z:=(0,0))) ?_;exact det
  |3,_=>
   have M:Ab 105 4 (val 0) [] (piece 0):=H 0 rfl;show DE _ _ _ _ _ _ _ _ _ [piece 0];refine xsf rfl rfl (by show some ([],val 2)=_;rw[(H 2 rfl).1]) M S.r (xm2 _) (by simp;omega) fun v Y o=>?_;rw[List.nil_append]at o;exact xjz ⟨⟨_,rfl⟩,fun v' e=>by
    have O:=xqx e;subst O;show Ab _ _ _ _ ([Y]++[]).flatten;have V:([Y]++([]:List Pcs)).flatten=Y:=by simp
    rw[V];exact o⟩
  |4,_=>
   refine xjk rfl rfl fun v Y o=>?_;have o:Ab 3 1 v [] Y:=o;exact xjz ⟨⟨_,rfl⟩,fun v' e=>by
    have O:=xqx e;subst O;show Ab _ _ _ _ ([Y]++[]).flatten;have V:([Y]++([]:List Pcs)).flatten=Y:=by simp
    rw[V];exact o⟩
  |5,_=>
   exact det
  |6,_=>
   refine de_y rfl rfl (y_ld (by show some ([],val 5)=_;rw[(H 5 rfl).1]) sdt (b:=b1) (off:=1) (cs:=#[.slice a s.Ai.length ca,.slice b s.Af.length cb,.J s.deep,.J s.Cs,.J s.rest]) (T:=25) (z:=(0,0))) ?_;exact det
  |7,_=>
   have M:Ab 3 1 (val 4) [] (piece 4):=H 4 rfl;show DE _ _ _ _ _ _ _ _ _ [piece 4];refine xsf rfl rfl (by show some ([],val 6)=_;rw[(H 6 rfl).1]) M S.f (xcv _) (by simp;omega) fun v Y o=>?_;rw[List.nil_append]at o;exact xjz ⟨⟨_,rfl⟩,fun v' e=>by
    have O:=xqx e;subst O;show Ab _ _ _ _ ([Y]++[]).flatten;have V:([Y]++([]:List Pcs)).flatten=Y:=by simp
    rw[V];exact o⟩
  |8,_=>
   exact det
 ·simp only[List.mem_cons,List.not_mem_nil,or_false]at hj;rcases hj with rfl|rfl|rfl|rfl|rfl<;>exact q.2
 have M:Ab 105 4 (val 3) (rcs s.Ai) (piece 3):=H 3 d_;have o2:Ab 3 1 (val 7) (ics s.Af) (piece 7):=H 7 d_;refine xkw (l':=[(2,none,w_ b2 0),(3,none,w_ b3 0),(8,none,val 3),(12,none,val 7),(13,none,w_ b3 0)]) ?_ ⟨rfl,rfl,rfl,rfl,by show some (none,val 8)=_;rw[(H 8 d_).1],trivial⟩;clear H;generalize val 3=v1 at*;generalize val 7=v2 at*;show RO _ _ _ _ _ _ [piece 3,piece 7,[(b3,.cells #[.slice a s.Ai.length ca,.slice b s.Af.length cb,.J s.deep,.J s.Cs,.J s.rest] 25 (0,0))],[(b2,.cells #[.slice none 0 0,.slice none 0 0,.J 0,.J 0,.J 0] 25 (0,0))],[(b1,.cells #[.slice a s.Ai.length ca,.slice b s.Af.length cb,.J s.deep,.J s.Cs,.J s.rest] 25 (0,0))]];generalize piece 3=Y1 at*;generalize piece 7=Y2 at*;obtain⟨a1,c1,rfl,-⟩:=M.val;obtain⟨a2,c2,rfl,-⟩:=o2.val;rw[xqv]at M;rw[xpq]at o2;rw[xqv,xpq];refine ax ?_;exact K.e rfl (xoq rfl .nil) fun _ H_=>⟨_,⟨a1,c1,a2,c2,Y1,Y2,rfl,M,o2,rfl⟩,yqs H_⟩
theorem cf36(t:Tn)(S:Am p a1 t.nH a2 t.nW a3 t.m t)(hn:t.nH<=2^20/\t.nW<=2^20/\t.m<=2^20):Nc prog md p 36 #[.agg #[.slice a1 t.nH c1,.slice a2 t.nW c2,.slice a3 t.m c3]] (fun v Y=>(∃x1 y1 x2 y2 x3 y3 Y1 Y2 Y3,v=.agg #[.slice x1 t.nH y1,.slice x2 t.nW y2,.slice x3 t.m y3]/\Ab 3 1 (.slice x1 t.nH y1) (ics t.hs) Y1/\Ab 3 1 (.slice x2 t.nW y2) (ics t.ws) Y2/\Ab 93 2 (.slice x3 t.m y3) (Flow.wcs t.wy) Y3/\Y=(Y1++Y2)++Y3)):=by
 refine xkq func36 fun K b1=>?_;refine lq fun b2=>?_;refine ax ?_
 refine xqd 12 [3,7,11] [1,2,5,6,9,10] [0,3,4,7,8,11] (fun i=>match i with|3=>[0]|7=>[4]|11=>[8]|_=>[]) (fun i=>match i with|2=>[1]|3=>[0,2]|6=>[5]|7=>[4,6]|10=>[9]|11=>[8,10]|_=>[])
  (fun i _ _ v x=>match i with
   |0=>Ab 3 1 v [] x
   |1=>v=w_ b1 0/\x=[]
   |2=>v=.slice a1 t.nH c1/\x=[]
   |3=>Ab 3 1 v (ics t.hs) x
   |4=>Ab 3 1 v [] x
   |5=>v=w_ b1 1/\x=[]
   |6=>v=.slice a2 t.nW c2/\x=[]
   |7=>Ab 3 1 v (ics t.ws) x
   |8=>Ab 93 2 v [] x
   |9=>v=w_ b1 2/\x=[]
   |10=>v=.slice a3 t.m c3/\x=[]
   |11=>Ab 93 2 v (Flow.wcs t.wy) x
   |_=>True) (fun i hi val piece H=>?_) (fun val piece j hj v x q=>?_) (fun val piece H=>?_)
 ·match i,hi with
  |0,_=>
    refine xjk rfl rfl fun v Y o=>?_;have o:Ab 3 1 v [] Y:=o;exact xjz ⟨⟨_,rfl⟩,fun v' e=>by
     have O:=xqx e;subst O;show Ab _ _ _ _ ([Y]++[]).flatten;have M:([Y]++([]:List Pcs)).flatten=Y:=by simp
     rw[M];exact o⟩
  |1,_=>
    exact det
  |2,_=>
    refine de_y rfl rfl (y_ld (by show some ([],val 1)=_;rw[(H 1 rfl).1]) sdt (b:=b1) (off:=0) (cs:=#[.slice a1 t.nH c1,.slice a2 t.nW c2,.slice a3 t.m c3]) (T:=28) (z:=(0,0))) ?_;exact det
  |3,_=>
    have V:Ab 3 1 (val 0) [] (piece 0):=H 0 rfl;show DE _ _ _ _ _ _ _ _ _ [piece 0];refine xsf rfl rfl (by show some ([],val 2)=_;rw[(H 2 rfl).1]) V S.h (xcv _) (by simp;omega) fun v Y o=>?_;rw[List.nil_append]at o;exact xjz ⟨⟨_,rfl⟩,fun v' e=>by
     have O:=xqx e;subst O;show Ab _ _ _ _ ([Y]++[]).flatten;have M:([Y]++([]:List Pcs)).flatten=Y:=by simp
     rw[M];exact o⟩
  |4,_=>
    refine xjk rfl rfl fun v Y o=>?_;have o:Ab 3 1 v [] Y:=o;exact xjz ⟨⟨_,rfl⟩,fun v' e=>by
     have O:=xqx e;subst O;show Ab _ _ _ _ ([Y]++[]).flatten;have M:([Y]++([]:List Pcs)).flatten=Y:=by simp
     rw[M];exact o⟩
  |5,_=>
    exact det
  |6,_=>
    refine de_y rfl rfl (y_ld (by show some ([],val 5)=_;rw[(H 5 rfl).1]) sdt (b:=b1) (off:=1) (cs:=#[.slice a1 t.nH c1,.slice a2 t.nW c2,.slice a3 t.m c3]) (T:=28) (z:=(0,0))) ?_;exact det
  |7,_=>
    have V:Ab 3 1 (val 4) [] (piece 4):=H 4 rfl;show DE _ _ _ _ _ _ _ _ _ [piece 4];refine xsf rfl rfl (by show some ([],val 6)=_;rw[(H 6 rfl).1]) V S.w (xcv _) (by simp;omega) fun v Y o=>?_;rw[List.nil_append]at o;exact xjz ⟨⟨_,rfl⟩,fun v' e=>by
     have O:=xqx e;subst O;show Ab _ _ _ _ ([Y]++[]).flatten;have M:([Y]++([]:List Pcs)).flatten=Y:=by simp
     rw[M];exact o⟩
  |8,_=>
    refine xjk rfl rfl fun v Y o=>?_;have o:Ab 93 2 v [] Y:=o;exact xjz ⟨⟨_,rfl⟩,fun v' e=>by
     have O:=xqx e;subst O;show Ab _ _ _ _ ([Y]++[]).flatten;have M:([Y]++([]:List Pcs)).flatten=Y:=by simp
     rw[M];exact o⟩
  |9,_=>
    exact det
  |10,_=>
    refine de_y rfl rfl (y_ld (by show some ([],val 9)=_;rw[(H 9 rfl).1]) sdt (b:=b1) (off:=2) (cs:=#[.slice a1 t.nH c1,.slice a2 t.nW c2,.slice a3 t.m c3]) (T:=28) (z:=(0,0))) ?_;exact det
  |11,_=>
    have V:Ab 93 2 (val 8) [] (piece 8):=H 8 rfl;show DE _ _ _ _ _ _ _ _ _ [piece 8];refine xsf rfl rfl (by show some ([],val 10)=_;rw[(H 10 rfl).1]) V S.y (xtm _) (by simp;omega) fun v Y o=>?_;rw[List.nil_append]at o;exact xjz ⟨⟨_,rfl⟩,fun v' e=>by
     have O:=xqx e;subst O;show Ab _ _ _ _ ([Y]++[]).flatten;have M:([Y]++([]:List Pcs)).flatten=Y:=by simp
     rw[M];exact o⟩
 ·simp only[List.mem_cons,List.not_mem_nil,or_false]at hj;rcases hj with rfl|rfl|rfl|rfl|rfl|rfl<;>exact q.2
 have V:Ab 3 1 (val 3) (ics t.hs) (piece 3):=H 3 d_;have o2:Ab 3 1 (val 7) (ics t.ws) (piece 7):=H 7 d_;have o3:Ab 93 2 (val 11) (Flow.wcs t.wy) (piece 11):=H 11 d_;refine xkw (l':=[(2,none,w_ b2 0),(6,none,val 3),(10,none,val 7),(14,none,val 11)]) ?_ ⟨rfl,rfl,rfl,rfl,trivial⟩;clear H;generalize val 3=v1 at*;generalize val 7=v2 at*;generalize val 11=v3 at*;show RO _ _ _ _ _ _ [piece 3,piece 7,piece 11,[(b2,.cells #[.slice none 0 0,.slice none 0 0,.slice none 0 0] 28 (0,0))],[(b1,.cells #[.slice a1 t.nH c1,.slice a2 t.nW c2,.slice a3 t.m c3] 28 (0,0))]];generalize piece 3=Y1 at*;generalize piece 7=Y2 at*;generalize piece 11=Y3 at*;obtain⟨x1,y1,rfl,-⟩:=V.val;obtain⟨x2,y2,rfl,-⟩:=o2.val;obtain⟨x3,y3,rfl,-⟩:=o3.val;rw[xpq]at V o2;rw[Flow.Ap]at o3;rw[xpq,xpq,Flow.Ap];refine ax ?_;exact K.e rfl (xoq rfl .nil) fun _ H_=>⟨_,⟨x1,y1,x2,y2,x3,y3,Y1,Y2,Y3,rfl,V,o2,o3,rfl⟩,(xj7 H_).new⟩
theorem cf22(A:TA)(t:Twn)(T:TwP p A t)(hn:t.fit (2^20)):Lc prog md p 22 #[twV A t] (fun v p'=>∃A',v=twV A' t/\TwP p' A' t):=by
 obtain⟨⟨n1,n2⟩,⟨n3,n4,n5⟩,n6⟩:=hn;refine xkq func22 fun K b1=>?_;refine lq fun b2=>?_;refine drq [2,5] [0,1,3,4,6,7,2,5] ?_;refine xsk rfl rfl rfl (cf35 t.s T.s ⟨n1,n2⟩) ?_;rintro _ _ ⟨a1,c1,a2,c2,Y1,Y2,rfl,o1,o2,rfl⟩;refine ex ?_;refine xsk rfl rfl rfl (cf36 t.b T.b ⟨n3,n4,n5⟩) ?_;rintro _ _ ⟨a3,c3,a4,c4,a5,c5,Y3,Y4,Y5,rfl,o3,o4,o5,rfl⟩;refine xa ?_;refine coq (cf37 T.d n6) ?_;rintro _ Y6 ⟨a6,c6,rfl,o6⟩;refine ax ?_;refine xqz Y1 Y2 ?_;refine xqz (Y3++Y4) Y5 ?_;refine xqz Y3 Y4 ?_;refine xiq o1 (m:=t.s.Ai.length) (xqv _) d_ fun p1 _ _ g1 e1 b3 S1=>?_;cases e1;refine xiq o2 (m:=t.s.Af.length) (xpq _) d_ fun p2 _ _ g2 e2 a9 S2=>?_;cases e2;refine xiq o3 (m:=t.b.nH) (xpq _) d_ fun p3 _ _ g3 e3 b0 S3=>?_;cases e3;refine xiq o4 (m:=t.b.nW) (xpq _) d_ fun p4 _ _ O e4 a7 S4=>?_;cases e4;refine xiq o5 (m:=t.b.m) (Flow.Ap _) d_ fun p5 _ _ M e5 a8 S5=>?_;cases e5;refine xiq o6 (m:=t.y.days.length) (Aj _) d_ fun p6 _ _ H e6 V S6=>?_;cases e6
 exact K.e rfl (xoq rfl .nil) fun _ H_=>(xqq H_ (((((g1.trans g2).trans g3).trans O).trans M).trans H) ⟨⟨(a1,c1),(a2,c2),(a3,c3),(a4,c4),(a5,c5),(a6,c6)⟩,rfl,
  ⟨⟨Sl.mono ((((g2.trans g3).trans O).trans M).trans H).le S1,Sl.mono (((g3.trans O).trans M).trans H).le S2⟩,⟨Sl.mono ((O.trans M).trans H).le S3,Sl.mono (M.trans H).le S4,Sl.mono H.le S5⟩,S6,⟨b3,a9⟩,⟨b0,a7,a8⟩,V⟩⟩)
open Go.X.Flow (Ch Wys wz ics Am Tn C6)
theorem xt5{x y A B:Int}(M:0<=x/\x<=A)(H:0<=y/\y<=B):0<=x*y/\x*y<=A*B:=
 ⟨Int.mul_nonneg M.1 H.1,Int.mul_le_mul M.2 H.2 H.1 om⟩
theorem cf66{a:Option Addr}(s:Shf)(hn:s.Ai.length<=9223372036854775807/\s.Af.length<=9223372036854775807):Dc prog md p 66 #[.agg #[.slice a s.Ai.length ca,.slice b s.Af.length cb,.J s.deep,.J s.Cs,.J s.rest],.slice none 0 0] (.bool (decide (40<s.Ai.length\/40<s.Af.length))):=by
 refine xkq func66 fun K b1=>?_;refine K.q ?_;exact congrArg Value.bool (by rw[Bool.eq_iff_iff];simp;omega)
theorem cf38{a:Option Addr}(s:Shf)(S:Cz p a b s)(hn:s.Ai.length<=9223372036854775807/\s.Af.length<=9223372036854775807):Dc prog md p 38 #[.agg #[.slice a s.Ai.length ca,.slice b s.Af.length cb,.J s.deep,.J s.Cs,.J s.rest]] (.bool (decide ((40<s.Ai.length\/40<s.Af.length)\/(8<s.Af.length/\Hd s=0)))):=by
 refine xkq func38 fun K b1=>?_;refine cdq (cf66 s hn) ?_;refine ax ?_;refine xxj rfl rfl rfl sdu (fun H=>cf26 s S (by simp at H;omega)) ?_;refine K.q ?_;exact congrArg Value.bool (by rw[Bool.eq_iff_iff];simp;omega)
theorem cf67(t:Tn)(hn:t.nH<=9223372036854775807/\t.nW<=9223372036854775807/\t.m<=9223372036854775807):Dc prog md p 67 #[.agg #[.slice a1 t.nH c1,.slice a2 t.nW c2,.slice a3 t.m c3]] (.bool (decide ((40<t.nH\/40<t.nW)\/40<t.m))):=by
 refine xkq func67 fun K b1=>?_;refine K.q ?_;exact congrArg Value.bool (by rw[Bool.eq_iff_iff];simp;omega)
theorem cf40{size start:Int}{a:Option Addr}{c:Nat}(D:Bl p a n ds)(hn:n<=9223372036854775807):Kc prog md p 40 #[.agg #[.J size,.J start,.slice a n c]] (fun v=>(∃q:Bool,v=.bool q/\(q=false->n<=40))):=by
 have hl:=D.len;have D2:Sl p a n 3 (Cist.dcs ds):=D;refine xkq func40 fun K b1=>?_;refine cq (fun cc=>?_) (fun cc=>?_)
 ·refine K.q ?_;exact⟨true,rfl,s_⟩
 refine ax ?_;refine xrx rfl rfl (cf13 _ _ _ _ D om) ?_;refine cq (fun M=>?_) (fun M=>?_)
 ·refine K.q ?_;exact⟨false,rfl,fun _=>om⟩
 have Y:Cist.Ok size start ds:=Cist.A7.1 (by simpa using M);refine ax ?_;refine xjq (fun m_ l p_ L_=>∃(j:Nat)(x:Int),m_=n-j/\l=[(1,none,w_ b1 0),(3,none,.J x),(4,none,.J ((j:Nat):Int))]/\p_=p/\L_=[[(b1,.cells #[.J size,.J start,.slice a n c] 31 (0,0))]]/\j<=n/\0<=x/\x<=60) ⟨0,1,rfl,rfl,rfl,rfl,Nat.zero_le _,d_,d_⟩ sb ?_;rintro _ _ p _ IH ⟨j,x,rfl,rfl,rfl,rfl,hj,O,h1⟩;refine cq (fun ce=>?_) (fun ce=>?_)
 ·have H:j<n:=om;have hd:=Y.2.2.2.2.2 j om;unfold Cist.Di at hd;refine drq [] R17 ?_;refine de_y rfl rfl (xoz rfl sdt (Cist.Bl.at D H rfl) (u:=.J (ds.getD j dz).hi)) ?_;refine ex ?_;refine de_y rfl rfl (xoz rfl sdt (Cist.Bl.at D H (j:=0) rfl) (u:=.J (ds.getD j dz).lo)) ?_;refine xa ?_;have V:=xt5 (x:=x) (y:=(ds.getD j dz).hi-(ds.getD j dz).lo+1) (A:=60) (B:=21) ⟨O,h1⟩ ⟨om,om⟩;refine ro_y rfl (y_pv rfl ⟨wrZ om,trivial⟩) ?_;refine cq (fun cf=>?_) (fun cf=>?_)
  ·refine K.q ?_;exact⟨true,rfl,s_⟩
  ·exact bkq (IH _ _ _ om ⟨j+1,_,rfl,rfl,rfl,rfl,om,V.1,om⟩)
 refine K.q ?_;exact⟨false,rfl,fun _=>om⟩
theorem cf39(t:Tn)(T:Am p a1 t.nH a2 t.nW a3 t.m t)(hn:t.nH<=9223372036854775807/\t.nW<=9223372036854775807/\t.m<=9223372036854775807):Kc prog md p 39 #[.agg #[.slice a1 t.nH c1,.slice a2 t.nW c2,.slice a3 t.m c3]] (fun v=>(∃q:Bool,v=.bool q/\(q=false->t.nH<=40/\t.nW<=40/\t.m<=40))):=by
 have O:=T.h;have Tw:=T.w;have Ty:Sl p a3 t.m 2 (Flow.wcs t.wy):=T.y;refine xkq func39 fun K b1=>?_;refine cdq (cf67 t hn) ?_;refine cq (fun cc=>?_) (fun cc=>?_)
 ·refine K.q ?_;exact⟨true,rfl,s_⟩
 refine ax ?_;refine xrx rfl rfl (cf27 t T om) ?_;refine cq (fun cd=>?_) (fun cd=>?_)
 ·refine K.q ?_;exact⟨false,rfl,fun _=>om⟩
 obtain⟨hm,V⟩:=Flow.Em (t:=t) (by simpa using cd);refine ax ?_;refine xjq (fun m_ l p_ L_=>∃(j:Nat)(x:Int),m_=t.m-j/\l=[(1,none,w_ b1 0),(3,none,.J x),(4,none,.J ((j:Nat):Int))]/\p_=p/\L_=[[(b1,.cells #[.slice a1 t.nH c1,.slice a2 t.nW c2,.slice a3 t.m c3] 28 (0,0))]]/\j<=t.m/\0<=x/\x<=2000) ⟨0,1,rfl,rfl,rfl,rfl,Nat.zero_le _,d_,d_⟩ sb ?_;rintro _ _ p _ IH ⟨j,x,rfl,rfl,rfl,rfl,hj,h0,h1⟩;refine cq (fun ce=>?_) (fun ce=>?_)
 ·have H:j<t.m:=om;have hy:=V.y j H;have y1:=hy.1;have y2:=hy.2.1;have bh:=V.h (t.wy.getD j wz).1.toNat om;have bw:=V.w (t.wy.getD j wz).2.toNat om;refine drq [] R23 ?_;refine de_y rfl rfl (xoz rfl sdt (T.y.at H (j:=0) rfl) (u:=.J (t.wy.getD j wz).1)) ?_;refine ex ?_;refine de_y rfl rfl (xkz rfl rfl sdt sdt ⟨⟨y1.1,om⟩,Sl.ne O om⟩) ?_;refine de_y rfl rfl (xoz rfl sdt (Ar.get O om) (u:=.J (t.hs.getD (t.wy.getD j wz).1.toNat 0))) ?_;refine ex ?_;refine de_y rfl rfl (xoz rfl sdt (T.y.at H (j:=1) rfl) (u:=.J (t.wy.getD j wz).2)) ?_;refine ex ?_;refine de_y rfl rfl (xkz rfl rfl sdt sdt ⟨⟨y2.1,om⟩,Sl.ne Tw om⟩) ?_;refine de_y rfl rfl (xoz rfl sdt (Ar.get Tw om) (u:=.J (t.ws.getD (t.wy.getD j wz).2.toNat 0))) ?_;refine xa ?_;have M:=xt5 (x:=x) (y:=min (t.hs.getD (t.wy.getD j wz).1.toNat 0) (t.ws.getD (t.wy.getD j wz).2.toNat 0)+1) (A:=2000) (B:=10) ⟨h0,h1⟩ ⟨om,om⟩;refine ro_y rfl (y_pv rfl ⟨wrZ om,trivial⟩) ?_;refine cq (fun cf=>?_) (fun cf=>?_)
  ·refine K.q ?_;exact⟨true,rfl,s_⟩
  ·exact bkq (IH _ _ _ om ⟨j+1,_,rfl,rfl,rfl,rfl,om,M.1,om⟩)
 refine K.q ?_;exact⟨false,rfl,fun _=>om⟩
theorem cf24(A:TA)(t:Twn)(T:TwP p A t)(hn:t.fit 9223372036854775807):Kc prog md p 24 #[twV A t] (fun v=>(∃q:Bool,v=.bool q/\(q=false->t.fit 40))):=by
 intro h hp;obtain⟨⟨n1,n2⟩,⟨n3,n4,n5⟩,n6⟩:=hn;refine xsq hp func24 fun K b1=>?_;refine cdq (cf38 t.s T.s ⟨n1,n2⟩) ?_;refine ax ?_;refine ykx rfl rfl rfl sdu (fun h pe=>(cf39 t.b T.b ⟨n3,n4,n5⟩ h pe).mono fun _ _ x=>⟨x.1,x.2⟩) fun q1 h1=>?_;refine ax ?_;refine ykx rfl rfl rfl sdu (fun h pe=>(cf40 T.d n6 h pe).mono fun _ _ x=>⟨x.1,x.2⟩) fun q2 h2=>?_;refine cq (fun cc=>?_) (fun cc=>?_)
 ·refine K.q ?_;exact⟨true,rfl,fun z=>by cases z⟩
 have M:t.fit 40:=by
  simp at cc;obtain⟨⟨⟨⟨r1,r2⟩,r3⟩,rfl⟩,rfl⟩:=cc;have r4:t.s.Af.length<=8\/ ¬Hd t.s=0:=by
   rcases Nat.lt_or_ge 8 t.s.Af.length with z|z
   ·exact .inr (r3 z)
   ·exact .inl z
  exact⟨⟨r1,r2⟩,h1 (by simp;exact⟨⟨r1,r2⟩,r4⟩) rfl,h2 (by simp;exact⟨⟨r1,r2⟩,r4⟩) rfl⟩
 have O:=M.up (n':=2^20) om;refine cdq (cf15 A t T O) ?_;refine cq (fun cd=>?_) (fun cd=>?_)
 ·refine K.q ?_;exact⟨false,rfl,fun _=>M⟩
 refine ax ?_;have hv:Bp t=0:=by simpa using cd
 obtain⟨_,hB,hC⟩:=xxq.1 hv;obtain⟨hm,V⟩:=Flow.Em hB;have Y:Cist.Ok t.y.size t.y.start t.y.days:=Cist.A7.1 hC;have Th:=T.b.h;have Tw:=T.b.w;have Ty:Sl p A.y.1 t.b.m 2 (Flow.wcs t.b.wy):=T.b.y;have Td:Sl p A.d.1 t.y.days.length 3 (Cist.dcs t.y.days):=T.d;refine xjq (fun m_ l p_ L_=>∃(j:Nat)(x:Int),m_=t.b.m-j/\l=[(1,none,w_ b1 0),(3,none,.J x),(4,none,.J ((j:Nat):Int))]/\p_=p/\L_=[[(b1,.cells (tcs A t).toArray 33 (0,0))]]/\j<=t.b.m/\0<=x/\x<=((10^j:Nat):Int)) ⟨0,1,rfl,rfl,rfl,rfl,Nat.zero_le _,d_,d_⟩ sb ?_;rintro _ _ p _ IH ⟨j,x,rfl,rfl,rfl,rfl,hj,h0,h1⟩;refine cq (fun ce=>?_) (fun ce=>?_)
 ·have a4:j<t.b.m:=om;have hy:=V.y j a4;have y1:=hy.1;have y2:=hy.2.1;have bh:=V.h (t.b.wy.getD j wz).1.toNat om;have bw:=V.w (t.b.wy.getD j wz).2.toNat om;refine ax ?_;refine ro_y rfl (xlk rfl (T.b.y.all a4)) ?_;refine lq fun b5=>?_;refine drq [] R17 ?_;refine de_y rfl rfl (xkz rfl rfl sdt sdt ⟨⟨y1.1,om⟩,Sl.ne Th om⟩) ?_;refine de_y rfl rfl (xoz rfl sdt (Ar.get Th om) (u:=.J (t.b.hs.getD (t.b.wy.getD j wz).1.toNat 0))) ?_;refine ex ?_;refine de_y rfl rfl (xkz rfl rfl sdt sdt ⟨⟨y2.1,om⟩,Sl.ne Tw om⟩) ?_;refine de_y rfl rfl (xoz rfl sdt (Ar.get Tw om) (u:=.J (t.b.ws.getD (t.b.wy.getD j wz).2.toNat 0))) ?_;refine xa ?_;have H:=xt5 (x:=x) (y:=min (t.b.hs.getD (t.b.wy.getD j wz).1.toNat 0) (t.b.ws.getD (t.b.wy.getD j wz).2.toNat 0)+1) (A:=((10^j:Nat):Int)) (B:=10) ⟨h0,h1⟩ ⟨om,om⟩;have a5:10^j<=10^12:=Nat.pow_le_pow_right d_ om;have a6:(10:Nat)^12=1000000000000:=by decide
  have a2:((10^(j+1):Nat):Int)=((10^j:Nat):Int)*10:=by rw[Nat.pow_succ];rfl
  refine ro_y rfl (y_pv rfl ⟨wrZ om,trivial⟩) ?_;exact bkq (IH _ _ _ om ⟨j+1,_,rfl,rfl,rfl,rfl,om,H.1,by rw[a2];exact H.2⟩)
 clear IH h1;refine ax ?_;have a7:=Y.2.2.2.2.1;refine xjq (fun m_ l p_ L_=>∃(j:Nat)(z:Int),m_=t.y.days.length-j/\l=[(1,none,w_ b1 0),(3,none,.J x),(6,none,.J z),(7,none,.J ((j:Nat):Int))]/\p_=p/\L_=[[(b1,.cells (tcs A t).toArray 33 (0,0))]]/\j<=t.y.days.length/\0<=z/\z<=((21^j:Nat):Int)) ⟨0,1,rfl,rfl,rfl,rfl,Nat.zero_le _,d_,d_⟩ sb ?_;rintro _ _ p _ IH ⟨i,z,rfl,rfl,rfl,rfl,hi,z0,z1⟩;refine cq (fun cf=>?_) (fun cf=>?_)
 ·have a3:i<t.y.days.length:=om;have hd:=Y.2.2.2.2.2 i om;unfold Cist.Di at hd;refine drq [] R19 ?_;refine de_y rfl rfl (xoz rfl sdt (Cist.Bl.at T.d a3 (j:=1) rfl) (u:=.J (t.y.days.getD i dz).hi)) ?_;refine ex ?_;refine de_y rfl rfl (xoz rfl sdt (Cist.Bl.at T.d a3 (j:=0) rfl) (u:=.J (t.y.days.getD i dz).lo)) ?_;refine xa ?_;have H:=xt5 (x:=z) (y:=(t.y.days.getD i dz).hi-(t.y.days.getD i dz).lo+1) (A:=((21^i:Nat):Int)) (B:=21) ⟨z0,z1⟩ ⟨om,om⟩;have a5:21^i<=21^8:=Nat.pow_le_pow_right d_ om;have a6:(21:Nat)^8=37822859361:=by decide
  have a2:((21^(i+1):Nat):Int)=((21^i:Nat):Int)*21:=by rw[Nat.pow_succ];rfl
  refine ro_y rfl (y_pv rfl ⟨wrZ om,trivial⟩) ?_;exact bkq (IH _ _ _ om ⟨i+1,_,rfl,rfl,rfl,rfl,om,H.1,by rw[a2];exact H.2⟩)
 refine K.q ?_;exact⟨_,rfl,fun _=>M⟩
open Go.X.Flow (ics)
theorem cf20{a:Option Addr}{m:Nat}(xs M:List Str)(S:Bs p a n xs)(O:Bs p b m M)(hn:n<=2^30/\m<=2^30):Dc prog md p 20 #[.slice a n ca,.slice b m cb] (.bool (decide (xs=M))):=by
 have hl:=S.len;have a2:=O.len;have S1:Sl p a n 1 (scs xs):=S;have S2:Sl p b m 1 (scs M):=O;refine xlq func20 fun K=>?_;refine cq (fun cc=>?_) (fun cc=>?_)
 ·refine K.q ?_;rw[decide_eq_false (fun e=>by rw[e]at hl;omega)];rfl
 obtain rfl:n=m:=om;refine ax ?_;refine xnq (fun m_ l=>∃j:Nat,m_=n-j/\l=[(0,none,.slice a n ca),(1,none,.slice b n cb),(5,none,.J ((j:Nat):Int))]/\j<=n/\ ∀i,i<j->xs.getD i []=M.getD i []) ⟨0,rfl,rfl,Nat.zero_le _,om⟩ sb ?_;rintro _ _ IH ⟨j,rfl,rfl,hj,hq⟩;refine cq (fun cd=>?_) (fun cd=>?_)
 ·have H:j<n:=om;refine drq [] R8 ?_;refine de_y rfl rfl (y_lp rfl (Bs.get S H)) ?_;refine ex ?_;refine de_y rfl rfl (y_lp rfl (Bs.get O H)) ?_;refine ex ?_;refine cq (fun V=>?_) (fun V=>?_)
  ·refine K.q ?_;rw[decide_eq_false (fun e=>V (by rw[e]))];rfl
  ·exact bkq (IH _ om ⟨j+1,rfl,rfl,om,fun i hi=>by
    rcases Nat.lt_or_ge i j with z|z
    ·exact hq i z
    ·obtain rfl:i=j:=om;exact Classical.not_not.1 V⟩)
 refine K.q ?_;rw[decide_eq_true (xv5 (d:=[]) om fun i hi=>hq i om)];rfl
theorem cf19{a:Option Addr}{m:Nat}(xs H:List Int)(S:Ar p a n xs)(O:Ar p b m H)(hn:n<=2^30/\m<=2^30):Dc prog md p 19 #[.slice a n ca,.slice b m cb] (.bool (decide (xs=H))):=by
 have hl:=S.len;have a3:=O.len;have S1:Sl p a n 1 (ics xs):=S;have S2:Sl p b m 1 (ics H):=O;refine xlq func19 fun K=>?_;refine cq (fun cc=>?_) (fun cc=>?_)
 ·refine K.q ?_;rw[decide_eq_false (fun e=>by rw[e]at hl;omega)];rfl
 obtain rfl:n=m:=om;refine ax ?_;refine xnq (fun m_ l=>∃j:Nat,m_=n-j/\l=[(0,none,.slice a n ca),(1,none,.slice b n cb),(5,none,.J ((j:Nat):Int))]/\j<=n/\ ∀i,i<j->xs.getD i 0=H.getD i 0) ⟨0,rfl,rfl,Nat.zero_le _,om⟩ sb ?_;rintro _ _ IH ⟨j,rfl,rfl,hj,V⟩;refine cq (fun cd=>?_) (fun cd=>?_)
 ·have a2:j<n:=om;refine drq [] R8 ?_;refine cq (fun M=>?_) (fun M=>?_)
  ·refine K.q ?_;rw[decide_eq_false (fun e=>M (by rw[e]))];rfl
  ·exact bkq (IH _ om ⟨j+1,rfl,rfl,om,fun i hi=>by
    rcases Nat.lt_or_ge i j with z|z
    ·exact V i z
    ·obtain rfl:i=j:=om;exact Classical.not_not.1 M⟩)
 refine K.q ?_;rw[decide_eq_true (xv5 (d:=0) om fun i hi=>V i om)];rfl
theorem cf12{a:Option Addr}(n ca:Nat)(xs:List Int)(S:Ar p a n xs)(hn:n<=2^30):Dc prog md p 12 #[.slice a n ca] (.bool (decide (∀x∈xs,-1000000<x/\x<1000000))):=by
 have hl:=S.len;refine xlq func12 fun K=>?_;refine xnq (fun O l=>∃j:Nat,O=n-j/\l=[(0,none,.slice a n ca),(3,none,.J ((j:Nat):Int))]/\j<=n/\ ∀i,i<j-> -1000000<xs.getD i 0/\xs.getD i 0<1000000) ⟨0,rfl,rfl,Nat.zero_le _,om⟩ sb ?_;rintro _ _ IH ⟨j,rfl,rfl,hj,H⟩;refine cq (fun M=>?_) (fun M=>?_)
 ·have a2:j<n:=om;refine cq (fun V=>?_) (fun V=>?_)
  ·refine K.q ?_;rw[decide_eq_false (fun e=>by have:=(xtg (z:=0)).1 e j om;omega)];rfl
  ·exact bkq (IH _ om ⟨j+1,rfl,rfl,om,fun i hi=>by
    rcases Nat.lt_or_ge i j with z|z
    ·exact H i z
    ·obtain rfl:i=j:=om;omega⟩)
 refine K.q ?_;rw[decide_eq_true ((xtg (z:=0)).2 fun i hi=>H i om)];rfl
theorem eqRk(a b c d:Int):∀h(K:Bool->Heap->Prop),K true h->wpS prog (Op.equalIn (9999+1) 105 (.agg #[.J a,.J b,.J c,.J d]) (.agg #[.J a,.J b,.J c,.J d])) h K:=fun h K k=>
 xvj underlying105 k_ (xqf fun f hf=>by
  simp only[List.mem_cons,List.not_mem_nil,or_false]at hf;rcases hf with rfl|rfl|rfl|rfl<;>exact⟨d_,underlying3,k_,_,rfl⟩) k
theorem eqFw(a b:Int):∀h(K:Bool->Heap->Prop),K true h->wpS prog (Op.equalIn (9999+1) 93 (.agg #[.J a,.J b]) (.agg #[.J a,.J b])) h K:=fun h K k=>
 xvj underlying93 k_ (xqf fun f hf=>by
  simp only[List.mem_cons,List.not_mem_nil,or_false]at hf;rcases hf with rfl|rfl<;>exact⟨d_,underlying3,k_,_,rfl⟩) k
theorem Pu(n:Nat)(a b:Int):∀h(K:Bool->Heap->Prop),K true h->wpS prog (Op.equalIn (n+2) 45 (.agg #[.J a,.J b]) (.agg #[.J a,.J b])) h K:=fun h K k=>
 xvj underlying45 k_ (xqf fun f hf=>by
  simp only[List.mem_cons,List.not_mem_nil,or_false]at hf;rcases hf with rfl|rfl<;>exact⟨d_,underlying3,k_,_,rfl⟩) k
theorem eqDy(a b c:Int):∀h(K:Bool->Heap->Prop),K true h->wpS prog (Op.equalIn (9999+1) 48 (.agg #[.J a,.J b,.J c]) (.agg #[.J a,.J b,.J c])) h K:=fun h K k=>
 xvj underlying48 k_ (r:=true) ⟨d_,_,_,true,fun h K k=>xct k_ (n:=2) k_ k,fun h K k=>xct k_ (n:=2) k_ k,fun h K k=>Pu 9997 a b h K k,.inr ⟨rfl,d_,_,_,true,fun h K k=>xlz k_ rfl k,fun h K k=>xlz k_ rfl k,fun h K k=>xjv underlying3 (by simpa using k),.inr ⟨rfl,rfl⟩⟩⟩ k
theorem ygw(md:Md):∀(f n:Nat),n<f->n<=1000000000-> ∀(h:Heap)(p:Aa),Per p h->Ac prog md 21 #[.J ((n:Nat):Int)] h fun v h'=>v=sv (Dk n)/\As h h'
 |0,n,hf,_,_,_,_=>absurd hf (Nat.not_lt_zero _)
 |f+1,n,hf,hb,h,p,hp=>by
   refine xxx hp func21 fun K=>?_;refine xjx rfl (fun O=>absurd O om) (fun _=>?_);refine cq (fun O=>?_) (fun O=>?_)
   ·refine ax ?_;refine ro_y rfl (xq1 ((48+n:Nat):Int) rfl (wr8 om) (hs:=⟨_,underlying3⟩)) ?_;refine ax ?_;refine xtx rfl fun v Y o=>?_;have o:Ab 5 1 v (bcs [UInt8.ofNat (48+n)]) Y:=by
     have e:bcs [UInt8.ofNat (48+n)]=[[.int .u8 ((48+n:Nat):Int)]]:=by
      have z:(UInt8.ofNat (48+n)).toNat=48+n:=by show(48+n)%256=_;omega
      show [[Value.int .u8 (((UInt8.ofNat (48+n)).toNat:Nat):Int)]]=_;rw[z]
     rw[e];exact o
    obtain⟨-,⟨-,e,-⟩|⟨b,cs',cap,a2,rfl,rfl,H,-,-⟩⟩:=o
    ·cases e
    refine ax ?_;refine xe2 (a:=[UInt8.ofNat (48+n)]) rfl (fun j v V=>?_) ?_
    ·rw[List.getElem?_toArray,H,Nat.zero_add,List.getElem?_append_left (List.getElem?_eq_some_iff.1 V).1];exact V
    refine K.q ?_;rw[xsj om];rfl
   refine ax ?_;refine xah 10 rfl rfl rfl d_ (wrZ om) ?_;refine xrx rfl rfl (fun h M=>ygw md f (n / 10) om om h _ M) ?_;refine ax ?_;refine xzg 10 rfl rfl rfl d_ ?_;refine xrx rfl rfl (fun h M=>ygw md f (n%10) om om h _ M) ?_;refine ax ?_;refine ro_y rfl (xwf rfl rfl (by have:=xdj (k:=9) (n:=n / 10) om;have:=xdj (k:=9) (n:=n%10) om;omega)) ?_;refine K.q ?_;rw[xkv (n:=n) om,xsj (n:=n%10) om];rfl
theorem cf21(n:Int)(hn: -1000000000<=n/\n<=1000000000):Dc prog md p 21 #[.J n] (sv (txt n)):=by
 intro h M;by_cases H:n<0
 ·refine xxx M func21 fun K=>?_;refine xjx rfl (fun _=>?_) (fun cc=>absurd H cc);refine ax ?_;refine ro_y rfl (ytv ((n.natAbs:Nat):Int) rfl (by rw[wrZ om];omega)) ?_;refine ax ?_;refine xrx rfl rfl (fun h O=>ygw md (n.natAbs+1) n.natAbs om om h _ O) ?_;refine ax ?_;refine ro_y rfl (xwf rfl rfl (by have:=xdj (k:=9) (n:=n.natAbs) om;simp;omega) (a:=[45])) ?_;refine K.q ?_;unfold txt;rw[if_pos H];rfl
 ·have e:n=((n.natAbs:Nat):Int):=om;have V:txt n=Dk n.natAbs:=by unfold txt;rw[if_neg H]
  rw[V];have c:=ygw md (n.natAbs+1) n.natAbs om om h p M;rw[<- e]at c;exact c
theorem cf9(hp:Per p h)(w:Str)(hw:w.length<=1000){a:Option Addr}(n c:Nat)(l:List Int)(I:Ar p a n l)(hn:n<=100)(M:∀i,i<n-> -1000000000<=l.getD i 0/\l.getD i 0<=1000000000):
 Ac prog md 9 #[sv w,.slice a n c] h fun v h'=>v=sv (sayK w l n)/\As h h':=by
 have hl:=I.len;refine xxx hp func9 fun K=>?_;refine xnq (fun m_ l'=>∃j:Nat,m_=n-j/\l'=[(0,none,sv (sayK w l j)),(1,none,.slice a n c),(5,none,.J ((j:Nat):Int))]/\j<=n) ⟨0,rfl,rfl,Nat.zero_le _⟩ sb ?_;rintro _ _ IH ⟨j,rfl,rfl,hj⟩;refine cq (fun V=>?_) (fun V=>?_)
 ·have O:j<n:=om;have H:=M j O;have hlen:=xxh (w:=w) (l:=l) (fun i hi=>⟨by have:=M i om;omega,by have:=M i om;omega⟩) j om;have ht:=xbk (n:=l.getD j 0) ⟨om,om⟩;refine cdq (cf21 _ H) ?_;refine ax ?_;refine ro_y rfl (xwf rfl rfl (by simp only[List.length_cons,List.length_nil];omega) (a:=[32])) ?_;refine ax ?_;refine ro_y rfl (xwf rfl rfl (by simp only[List.length_append,List.length_cons,List.length_nil];omega)) ?_;exact bkq (IH _ om ⟨j+1,rfl,rfl,om⟩)
 obtain rfl:j=n:=om;exact K.q rfl
open Go.X.Flow (Ch Wys wz ics Am Tn exB)
theorem cf32:Lc prog md p 32 #[] (fun v p'=>∃x1 y1 x2 y2 a c b d,v=.tuple #[.agg #[.slice x1 3 y1,.slice x2 5 y2,.J 1,.J 1,.J 3],.agg #[.slice a 2 c,.slice b 4 d,.J 0,.J 0,.J 2]]/\(2<=c/\4<=d)/\Cz p' a b exS):=by
 refine xlq func32 fun K=>?_;refine xbx fun b0=>?_;refine lq fun b1=>?_;refine ax ?_;refine xtx rfl fun v1 Y1 V=>?_;obtain⟨a1,c1,rfl,-⟩:=V.val;refine ax ?_;refine xtx rfl fun v2 Y2 o2=>?_;obtain⟨a2,c2,rfl,-⟩:=o2.val;refine ax ?_;refine xtx rfl fun v3 Y3 M=>?_;have M:Ab 105 4 v3 (rcs exS.Ai) Y3:=M;refine xhx M (m:=2) rfl d_ fun p1 a3 c3 g1 e3 h3 S3=>?_;subst e3;refine ax ?_;refine xtx rfl fun v4 Y4 H=>?_;have H:Ab 3 1 v4 (ics exS.Af) Y4:=H;refine xhx H (m:=4) rfl d_ fun p2 a4 c4 O e4 h4 S4=>?_;subst e4;refine ax ?_;refine xpv [2] [0,1,2] b0 ?_;refine ex ?_;refine yzk rfl rfl rfl trivial ?_;refine xa ?_;exact K.e rfl (xoq rfl (xoq rfl .nil)) fun _ H_=>(xqq H_ (g1.trans O) ⟨a1,c1,a2,c2,a3,c3,a4,c4,rfl,⟨h3,h4⟩,⟨Sl.mono O.le S3,S4⟩⟩)
theorem cf33:Lc prog md p 33 #[] (fun v p'=>∃x1 y1 x2 y2 x3 y3 x4 y4 x5 y5 x6 y6 a1 c1 a2 c2 a3 c3,v=.tuple #[.agg #[.slice a1 3 c1,.slice a2 2 c2,.slice a3 4 c3],.agg #[.slice x1 2 y1,.slice x2 2 y2,.slice x3 2 y3],.agg #[.slice x4 1 y4,.slice x5 2 y5,.slice x6 2 y6]]/\(3<=c1/\2<=c2/\4<=c3)/\Am p' a1 3 a2 2 a3 4 exB):=by
 refine xlq func33 fun K=>?_;refine xbx fun b0=>?_;refine lq fun b1=>?_;refine lq fun b2=>?_;refine ax ?_;refine xtx rfl fun v1 Y1 H=>?_;have H:Ab 3 1 v1 (ics exB.hs) Y1:=H;refine xhx H (m:=3) rfl d_ fun p1 a1 c1 g1 e1 h1 S1=>?_;subst e1;refine ax ?_;refine xtx rfl fun v2 Y2 M=>?_;have M:Ab 3 1 v2 (ics exB.ws) Y2:=M;refine xhx M (m:=2) rfl d_ fun p2 a2 c2 g2 e2 h2 S2=>?_;subst e2;refine ax ?_;refine xtx rfl fun v3 Y3 V=>?_;have V:Ab 93 2 v3 (Flow.wcs exB.wy) Y3:=V;refine xhx V (m:=4) rfl d_ fun p3 a3 c3 O e3 h3 S3=>?_;subst e3;refine ax ?_;refine xtx rfl fun v4 Y4 o4=>?_;obtain⟨a4,c4,rfl,-⟩:=o4.val;refine ax ?_;refine xtx rfl fun v5 Y5 o5=>?_;obtain⟨a5,c5,rfl,-⟩:=o5.val;refine ax ?_;refine xtx rfl fun v6 Y6 o6=>?_;obtain⟨a6,c6,rfl,-⟩:=o6.val;refine ax ?_;refine xtx rfl fun v7 Y7 o7=>?_;obtain⟨a7,c7,rfl,-⟩:=o7.val;refine ax ?_;refine xtx rfl fun v8 Y8 o8=>?_;obtain⟨a8,c8,rfl,-⟩:=o8.val;refine ax ?_;refine xtx rfl fun v9 Y9 o9=>?_;obtain⟨a9,c9,rfl,-⟩:=o9.val;refine drq [3,4] R5 ?_;refine ysg rfl rfl rfl rfl ?_;refine ysg rfl rfl rfl rfl ?_;refine xa ?_;exact K.e rfl (xoq rfl (xoq rfl (xoq rfl .nil))) fun _ H_=>(xqq H_ ((g1.trans g2).trans O) ⟨a4,c4,a5,c5,a6,c6,a7,c7,a8,c8,a9,c9,a1,c1,a2,c2,a3,c3,rfl,⟨h1,h2,h3⟩,⟨Sl.mono (g2.trans O).le S1,Sl.mono O.le S2,S3⟩⟩)
theorem cf65{a b c:Int}:Dc prog md p 65 #[.J a,.J b,.J c] (.agg #[.J a,.J b,.J c]):=by
 refine xlq func65 fun K=>?_;refine xbx fun M=>?_;refine ax ?_;exact K.e rfl (xoq rfl .nil) fun _ H=>⟨rfl,H.kept⟩
theorem cf34:Lc prog md p 34 #[] (fun v p'=>∃x1 y1 a c,v=.tuple #[.agg #[.J 10,.J 4,.slice x1 4 y1],.agg #[.J 10,.J 5,.slice a 4 c]]/\4<=c/\Bl p' a 4 exY.days):=by
 refine xlq func34 fun K=>?_;refine xbx fun b0=>?_;refine lq fun b1=>?_;refine cdq cf65 ?_;refine cdq cf65 ?_;refine cdq cf65 ?_;refine cdq cf65 ?_;refine ax ?_;refine xtx rfl fun v1 Y1 M=>?_;obtain⟨a1,c1,rfl,-⟩:=M.val;refine cdq cf65 ?_;refine cdq cf65 ?_;refine cdq cf65 ?_;refine cdq cf65 ?_;refine ax ?_;refine xtx rfl fun v2 V H=>?_;have H:Ab 48 3 v2 (Cist.dcs exY.days) V:=H;refine xhx H (m:=4) rfl d_ fun p2 a2 c2 g2 e2 h2 O=>?_;subst e2;refine ax ?_;refine xpv [2] [0,1,2] b0 ?_;refine ex ?_;refine yzk rfl rfl rfl trivial ?_;refine xa ?_;exact K.e rfl (xoq rfl (xoq rfl .nil)) fun _ H_=>(xqq H_ g2 ⟨a1,c1,a2,c2,rfl,h2,O⟩)
theorem cf18:Lc prog md p 18 #[] (fun v p'=>∃A,v=twV A exT/\TwP p' A exT):=by
 refine xlq func18 fun K=>?_;refine xbx fun b0=>?_;refine cpq cf32 ?_;rintro _ p1 g1 ⟨x1,y1,x2,y2,a,ca,b,cb,rfl,q1,S1⟩;refine lq fun b1=>?_;refine lq fun b2=>?_;refine cpq cf33 ?_;rintro _ p2 O ⟨x3,y3,x4,y4,x5,y5,x6,y6,x7,y7,x8,y8,a1,c1,a2,c2,a3,c3,rfl,V,M⟩;refine lq fun b3=>?_;refine lq fun b4=>?_;refine lq fun b5=>?_;refine cpq cf34 ?_;rintro _ p3 H ⟨x9,y9,a4,c4,rfl,q3,S3⟩;refine lq fun b6=>?_;refine lq fun b7=>?_;refine ax ?_;exact K.e rfl (xoq rfl .nil) fun _ H_=>(xqq H_ ((g1.trans O).trans H) ⟨⟨(a,ca),(b,cb),(a1,c1),(a2,c2),(a3,c3),(a4,c4)⟩,rfl,⟨S1.mono (O.trans H).le,⟨Sl.mono H.le M.h,Sl.mono H.le M.w,Sl.mono H.le M.y⟩,S3,q1,V,q3⟩⟩)
theorem yth(ls:List Str):∀u∈(scs ls).flatten,Be u=true:=fun u H=>by
 obtain⟨l,M,H⟩:=List.mem_flatten.1 H;obtain⟨x,_,rfl⟩:=List.mem_map.1 M;rw[List.mem_singleton.1 H];rfl
def Pp(t:Twn)(ls:List Str)(v:Value)(p':Aa):Prop:=∃(a:Option Addr)(c:Nat)(A:TA),v=.tuple #[.slice a ls.length c,twV A (E0 t ls).2,.bool true]/\ls.length<=c/\Bs p' a ls.length (E0 t ls).1/\TwP p' A (E0 t ls).2
theorem yxp(h:Heap)(p:Aa)(hp:Per p h)(q:Aa)(hq:Per q h)(le:PLe p q)(A:TA)(t:Twn)(T:TwP p A t)(g:GlP p)(a:Option Addr)(c:Nat)(ls:List Str)(S:Bs q a ls.length ls)(a4:∀s∈ls,s.length<=900)(hv:Bp t=0)(H:ls.length<=30):
 Ac prog (.main true) 10 #[twV A t,.slice a ls.length c] h (Cm p h (Pp t ls)):=by
 have hn:t.fit (2^20):=(xhz hv).up om;have S1:Sl q a ls.length 1 (scs ls):=S;refine xez hp func10 fun _ _ _ K=>?_;refine bq fun b2=>?_;refine lq fun b5=>?_;refine cpq (cf22 A t T hn) ?_;rintro _ p1 V ⟨A1,rfl,T1⟩;refine ax ?_;refine xtx rfl fun v1 Y1 O=>?_;have O:Ab 9 1 v1 [] Y1:=O;refine ax ?_;refine xnr (p':=pun p1 q) ?_ fun _ s=>s.pun hq;refine xmw rfl rfl O (Sl.mono (yj2 le hq V) S1) (yth ls) (by simp;omega) (fun v2 Y2 o2=>?_);rw[List.nil_append]at o2;refine xnr (p':=p1) ?_ fun _ s=>s.forget yk2;refine ax ?_;refine xhx o2 (m:=ls.length) (xwx _) d_ fun p2 a2 c2 g2 e2 a5 S2=>?_;subst e2;refine xwv rfl rfl (cf17 A1 t (T1.mono g2.le) hn (g.mono (V.trans g2).le) c2 ls S2 om a4 yzg) ?_;rintro _ p3 g3 ⟨a3,c3,A3,rfl,M,S3,T3⟩;have el:=ysw hv H;have ek:=ytw hv H;rw[el]at S3 M⊢;rw[ybx hv H];refine lq fun b8=>?_;refine ax ?_;refine xpv [17] R18 b5 ?_;refine ex ?_;refine xxk rfl rfl rfl rfl sdu (fun _=>cf15 A3 _ T3 ((xhz ek).up om)) ?_;refine xa ?_;exact xbz func10 rfl (.tmp rfl (xoq rfl (.tmp rfl .nil))) fun _ H_=>K _ _ (xqq H_ ((V.trans g2).trans g3) ⟨a3,c3,A3,by rw[ek,decide_eq_true (show((ls.length:Nat):Int)=ls.length from rfl)];rfl,M,S3,T3⟩)
theorem cf10(O:Per p h)(A:TA)(t:Twn)(T:TwP p A t)(g:GlP p){a:Option Addr}(c:Nat)(ls:List Str)(S:Bs p a ls.length ls)(H:∀s∈ls,s.length<=900)(hv:Bp t=0)(M:ls.length<=30):
 Ac prog (.main true) 10 #[twV A t,.slice a ls.length c] h (Cm p h (Pp t ls)):=yxp h p O p O (.refl p) A t T g a c ls S H hv M
theorem cf8(g:GlP p):Dc prog (.main true) p 8 #[] (.bool true):=by
 refine xlq func8 fun K=>?_;refine cpq cf18 ?_;rintro _ p1 g1 ⟨A1,rfl,T1⟩;refine ax ?_;refine xtx rfl fun v1 Y1 H=>?_;have H:Ab 9 1 v1 (scs exL) Y1:=H;refine xhx H (m:=12) rfl d_ fun p2 a2 c2 g2 e2 a8 S2=>?_;subst e2;refine ax ?_;refine xwv rfl rfl (cf17 A1 exT (T1.mono g2.le) ((xhz xk3).up om) (g.mono (g1.trans g2).le) c2 exL S2 d_ d_ yzg) ?_;rintro _ p3 g3 ⟨a3,c3,A3,rfl,V,S3,T3⟩;rw[yyp]at S3 V T3⊢;rw[ybx xk3 d_];have Sw:Ar p3 A3.w.1 2 [7,3]:=T3.b.w;refine lq fun b8=>?_;refine ax ?_;refine ylx rfl rfl trivial fun v4 Y4 M=>?_;have M:Ab 3 1 v4 (ics [7,3]) Y4:=M;refine xhx M (m:=2) rfl d_ fun p4 a4 c4 g4 e4 a6 S4=>?_;subst e4;refine ax ?_;refine xxj rfl rfl rfl sdu (fun _=>cf19 [7,3] [7,3] (Sl.mono g4.le Sw) S4 ⟨d_,d_⟩) ?_;refine ax ?_;refine ylx rfl rfl trivial fun v5 Y5 O=>?_;have O:Ab 9 1 v5 (scs exR) Y5:=O;refine xhx O (m:=12) rfl d_ fun p5 a5 c5 g5 e5 a7 S5=>?_;subst e5;refine ax ?_;refine xxj rfl rfl rfl sdu (fun _=>cf20 exR exR (Sl.mono (g4.trans g5).le S3) S5 ⟨d_,d_⟩) ?_;refine K.q ?_;rfl
end Go.Proofs.YtadndcpcjmmngaaGreatDoor
