/-
  Part of proofs about a town's master: a calculus for Bc beside goroutines that are only leaving, and the Bc. No condition.
-/
import Derived.Test.YtofhlcococeifaaGreatDoorYM
import Derived.Test.YtofhlcococeifaaGreatDoorRows
import Derived.Lay
import Derived.Lib.LaidTab
import Derived.LaidSub
import Derived.MakeChecks
import Derived.JoinedOf
import Derived.Handed
import Derived.ChangeMaps5
import Derived.ProofKit
import Derived.SevenTiedAt
set_option maxHeartbeats 1600000
set_option maxRecDepth 100000
set_option synthInstance.maxSize 2000
namespace Go.Proofs.YtofhlcococeifaaGreatDoor
open Go.Proofs.Tryz
open Go.X Go.X.Ms Go.Conc Go.RowKit Go.ChangeShapes Go.WideShapes Go.ChangeAt Go.Joins
open Go.X.Flow (Cl wcs Wys Al Dy)
open Go.X.Cist (Day Bp dcs)
variable{ms:Array (String×TypeId)}{args:Array Value}{s:ChangeSpec}{C:Checked}{d:DataW Unit}{f:FuncId}{p:List MemPlace}{conds:List PathCond}{cs:List Value}{T g:Nat}{n:String}{H:Type}{t:TypeId}{v:Value}{W:World}
theorem Pi:ownKnob prog.godebug=none:=by kernel_rfl
theorem ydd:laidOutB prog=true:=by kernel_rfl
theorem pCi:prog.cellsOf 3=1:=by kernel_rfl
theorem pCr:prog.cellsOf 96=4:=by kernel_rfl
theorem pCw:prog.cellsOf 98=2:=by kernel_rfl
theorem pCp:prog.cellsOf 100=2:=by kernel_rfl
theorem pCd:prog.cellsOf 102=3:=by kernel_rfl
theorem pCS:prog.cellsOf 25=5:=by kernel_rfl
theorem pCB:prog.cellsOf 28=3:=by kernel_rfl
theorem pCY:prog.cellsOf 31=3:=by kernel_rfl
theorem pCT:prog.cellsOf 33=11:=by kernel_rfl
instance:Inhabited Rk:=⟨rz⟩
section
variable{enc:TypeId×Value->H}
theorem xmd{α:Type}[Inhabited α]{fuel:Nat}{e w:TypeId}{y:DataW H×List MemPlace}(f:α->List Value)(ht:prog.underlying t=some (.slice e))(hw:prog.cellsOf e=w)
 (hQ:∀m cs y,DataW.trod enc prog W 0 (fun _=>true) true m e cs=some y-> ∃x:α,cs=f x)(h:DataW.trod enc prog W 0 (fun _=>true) true fuel t [v]=some y):
 ∃a c xs,v=.slice a (List.length xs) c/\xs.length<=9223372036854775807/\xs.length<=c/\Sl (vwP W) a xs.length w (xs.map f):=by
 rcases Go.Deep.open_slice ht h with⟨e1,_⟩|⟨a,len,cap,m,k,D,Pl,e1,_,hl,O,hm,_,V⟩
 ·obtain rfl:v=.slice none 0 0:=by simpa using e1
  exact⟨none,0,[],rfl,Nat.zero_le _,Nat.le_refl _,yns⟩
 ·obtain rfl:v=.slice (some a) len cap:=by simpa using e1
  simp only[if_true]at hm;subst hw;obtain⟨E,hE⟩:=Go.Deep.choose_lt (n:=len) (p:=fun i cs=>W.cells? 0 (a.add (i*prog.cellsOf e)) (prog.cellsOf e)=some cs/\ ∃x:α,cs=f x) fun i hi=>by
   obtain⟨cs,h1,h2⟩:=V i om;exact⟨cs,h1,hQ _ _ _ h2⟩
  obtain⟨z,hz⟩:=Go.Deep.choose_lt (n:=len) (p:=fun i x=>E i=f x) fun i hi=>(hE i hi).2;have hs:=yp3 (E:=E) (n:=len) fun i hi=>(hE i hi).1;have M:((List.range len).map z).length=len:=by simp
  refine⟨some a,cap,(List.range len).map z,by rw[M],by rw[M];unfold maxLen at O;omega,by rw[M];exact hl,?_⟩;rw[M];have:(List.range len).map E=((List.range len).map z).map f:=by
   rw[List.map_map];exact List.map_congr_left fun i hi=>hz i (List.mem_range.1 hi)
  rw[<- this];exact hs
theorem xwz{m:Nat}{y:DataW H×List MemPlace}(h:DataW.trod enc prog W 0 (fun _=>true) true m 3 cs=some y):∃x:Int,cs=[.J x]:=yob underlying3 h
theorem yrx{m:Nat}{y:DataW H×List MemPlace}(h:DataW.trod enc prog W 0 (fun _=>true) true m 96 cs=some y):∃x:Rk,cs=x.cells:=by
 obtain⟨y0,y1,y2,y3,n,_,O,h0,h1,h2,h3⟩:=Go.Joins.trod_struct4 underlying96 h;rw[pCr]at O;obtain⟨a,ha⟩:=xwz h0;obtain⟨b,V⟩:=xwz h1;obtain⟨c,hc⟩:=xwz h2;obtain⟨d,M⟩:=xwz h3
 match cs,O with
 |[u,v,w,x],_=>
   refine⟨⟨a,b,c,d⟩,?_⟩;simp[pCi]at ha V hc M;simp[Rk.cells,ha,V,hc,M]
theorem ymb{m:Nat}{y:DataW H×List MemPlace}(h:DataW.trod enc prog W 0 (fun _=>true) true m 98 cs=some y):∃x:Cl,cs=x.cells:=by
 obtain⟨y0,y1,n,_,O,h0,h1⟩:=trod_struct2 underlying98 h;rw[pCw]at O;obtain⟨a,M⟩:=xwz h0;obtain⟨b,V⟩:=xwz h1
 match cs,O with
 |[u,v],_=>
   refine⟨(a,b),?_⟩;simp[pCi]at M V;simp[Flow.Cl.cells,M,V]
theorem ypb{m:Nat}{y:DataW H×List MemPlace}(h:DataW.trod enc prog W 0 (fun _=>true) true m 102 cs=some y):∃x:Day,cs=x.cells:=by
 obtain⟨y0,y1,n,_,M,h0,h1⟩:=trod_struct2 underlying102 h;obtain⟨z0,z1,n',_,a2,h2,h3⟩:=trod_struct2 underlying100 h0;rw[pCd]at M;obtain⟨a,V⟩:=xwz h2;obtain⟨b,O⟩:=xwz h3;obtain⟨c,hc⟩:=xwz h1
 match cs,M with
 |[u,v,w],_=>
   refine⟨⟨a,b,c⟩,?_⟩;simp[pCp,pCi]at V O hc;simp[Cist.Day.cells,V,O,hc]
theorem xj0{f0 O M f3 V:Field}{fuel:Nat}{x:DataW H×List MemPlace}(ht:prog.underlying t=some (.struct #[f0,O,M,f3,V]))(h:DataW.trod enc prog W 0 (fun _=>true) true fuel t cs=some x):
 ∃y0 y1 y2 y3 y4 n,cs.length=prog.cellsOf t/\DataW.trod enc prog W 0 (fun _=>true) true n f0.type ((cs.drop f0.offset).take (prog.cellsOf f0.type))=some y0/\
  DataW.trod enc prog W 0 (fun _=>true) true n O.type ((cs.drop O.offset).take (prog.cellsOf O.type))=some y1/\DataW.trod enc prog W 0 (fun _=>true) true n M.type ((cs.drop M.offset).take (prog.cellsOf M.type))=some y2/\
  DataW.trod enc prog W 0 (fun _=>true) true n f3.type ((cs.drop f3.offset).take (prog.cellsOf f3.type))=some y3/\DataW.trod enc prog W 0 (fun _=>true) true n V.type ((cs.drop V.offset).take (prog.cellsOf V.type))=some y4:=by
 obtain⟨xs,n,_,rfl,hl,hlen,hf⟩:=DataW.trod_struct ht h
 match xs,hlen with
 |[y0,y1,y2,y3,y4],_=>exact⟨y0,y1,y2,y3,y4,n,hl,by simpa using hf 0 f0 rfl,by simpa using hf 1 O rfl,by simpa using hf 2 M rfl,by simpa using hf 3 f3 rfl,by simpa using hf 4 V rfl⟩
theorem xp9{m:Nat}{y:DataW H×List MemPlace}(h:DataW.trod enc prog W 0 (fun _=>true) true m 25 cs=some y):
 ∃a ca b cb s,cs=[.slice a (Shf.Ah s).length ca,.slice b s.Af.length cb,.J s.deep,.J s.Cp,.J s.rest]/\(s.Ah.length<=9223372036854775807/\s.Af.length<=9223372036854775807)/\(s.Ah.length<=ca/\s.Af.length<=cb)/\Cy (vwP W) a b s:=by
 obtain⟨y0,y1,y2,y3,y4,n,hl,M,O,h2,h3,h4⟩:=xj0 underlying25 h;rw[pCS]at hl;obtain⟨x,V⟩:=xwz h2;obtain⟨y,hy⟩:=xwz h3;obtain⟨z,hz⟩:=xwz h4
 match cs,hl with
 |[c0,c1,c2,c3,c4],_=>
   have M:DataW.trod enc prog W 0 (fun _=>true) true n 22 [c0]=some y0:=M;have O:DataW.trod enc prog W 0 (fun _=>true) true n 23 [c1]=some y1:=O;obtain⟨a,ca,rs,rfl,b1,b2,S1⟩:=xmd Rk.cells underlying22 pCr (fun m cs y h=>yrx h) M;obtain⟨b,cb,fs,rfl,b3,b4,S2⟩:=xmd (fun x=>[Value.J x]) underlying23 pCi (fun m cs y h=>xwz h) O;simp[pCi]at V hy hz;exact⟨a,ca,b,cb,⟨rs,fs,x,y,z⟩,by rw[V,hy,hz],⟨b1,b3⟩,⟨b2,b4⟩,⟨S1,S2⟩⟩
theorem xm1{m:Nat}{y:DataW H×List MemPlace}(h:DataW.trod enc prog W 0 (fun _=>true) true m 28 cs=some y):
 ∃a1 c1 a2 c2 a3 c3 t,cs=[.slice a1 (Flow.Tn.nH t) c1,.slice a2 t.nW c2,.slice a3 t.m c3]/\(t.nH<=9223372036854775807/\t.nW<=9223372036854775807/\t.m<=9223372036854775807)/\(t.nH<=c1/\t.nW<=c2/\t.m<=c3)/\Al (vwP W) a1 t.nH a2 t.nW a3 t.m t:=by
 obtain⟨y0,y1,y2,n,_,hl,M,V,O⟩:=Go.Deep.trod_struct3 underlying28 h;rw[pCB]at hl
 match cs,hl with
 |[c0,c1,c2],_=>
   have M:DataW.trod enc prog W 0 (fun _=>true) true n 23 [c0]=some y0:=M;have V:DataW.trod enc prog W 0 (fun _=>true) true n 23 [c1]=some y1:=V;have O:DataW.trod enc prog W 0 (fun _=>true) true n 26 [c2]=some y2:=O;obtain⟨a1,d1,hs,rfl,b1,b2,S1⟩:=xmd (fun x=>[Value.J x]) underlying23 pCi (fun m cs y h=>xwz h) M;obtain⟨a2,d2,ws,rfl,b3,b4,S2⟩:=xmd (fun x=>[Value.J x]) underlying23 pCi (fun m cs y h=>xwz h) V;obtain⟨a3,d3,wy,rfl,b5,b6,S3⟩:=xmd Flow.Cl.cells underlying26 pCw (fun m cs y h=>ymb h) O;exact⟨a1,d1,a2,d2,a3,d3,⟨hs,ws,wy⟩,rfl,⟨b1,b3,b5⟩,⟨b2,b4,b6⟩,⟨S1,S2,S3⟩⟩
theorem yvj{m:Nat}{y:DataW H×List MemPlace}(h:DataW.trod enc prog W 0 (fun _=>true) true m 31 cs=some y):
 ∃a c M,cs=[.J (Yr.size M),.J M.start,.slice a M.days.length c]/\M.days.length<=9223372036854775807/\M.days.length<=c/\Bp (vwP W) a M.days.length M.days:=by
 obtain⟨y0,y1,y2,n,_,hl,h0,h1,O⟩:=Go.Deep.trod_struct3 underlying31 h;rw[pCY]at hl;obtain⟨x,V⟩:=xwz h0;obtain⟨y,hy⟩:=xwz h1
 match cs,hl with
 |[c0,c1,c2],_=>
   have O:DataW.trod enc prog W 0 (fun _=>true) true n 29 [c2]=some y2:=O;obtain⟨a,c,ds,rfl,b1,b2,S⟩:=xmd Cist.Day.cells underlying29 pCd (fun m cs y h=>ypb h) O;simp[pCi]at V hy;exact⟨a,c,⟨x,y,ds⟩,by rw[V,hy],b1,b2,S⟩
theorem xab{M:Nat}{d:DataW H}(hv:Value.okWide prog W .any M 33 v)(h:DataW.Trod enc prog W 0 (fun _=>true) true 33 v d p):
 ∃A t,v=twV A t/\t.fit 9223372036854775807/\TwP (vwP W) A t:=by
 obtain⟨cs,rfl,a7⟩:=okWide_struct underlying33 hv;obtain⟨fuel,hf⟩:=h;obtain⟨y0,y1,y2,n,_,hl,O,h1,h2⟩:=Go.Deep.trod_struct3 underlying33 hf;rw[pCT]at hl;obtain⟨l⟩:=cs
 match l,hl with
 |[c0,c1,c2,c3,c4,c5,c6,c7,c8,c9,c10],_=>
   simp only[pCS]at O;simp only[pCB]at h1;simp only[pCY]at h2;obtain⟨a1,d1,a2,d2,s,e0,b0,k0,S⟩:=xp9 O;obtain⟨a3,d3,a4,d4,a5,d5,t,V,b1,k1,B⟩:=xm1 h1;obtain⟨a6,d6,yr,e2,b2,k2,Y⟩:=yvj h2;simp[Value.cells]at e0 V e2;obtain⟨rfl,rfl,rfl,rfl,rfl⟩:=e0;obtain⟨rfl,rfl,rfl⟩:=V;obtain⟨rfl,rfl,rfl⟩:=e2;exact⟨⟨(a1,d1),(a2,d2),(a3,d3),(a4,d4),(a5,d5),(a6,d6)⟩,⟨s,t,yr⟩,rfl,⟨b0,b1,b2⟩,⟨S,B,Y,⟨k0,k1,k2⟩⟩⟩
end
theorem xw4{cs:Array Value}(O:prog.globalNamed n=some g)(h:W.var? prog n=some cs)(M:cs.size≠0):∃t z,vwP W g=some (.cells cs t z):=by
 unfold World.var? at h;rw[O]at h;simp only[Option.bind_some]at h;split at h
 ·rename_i c t f e;obtain rfl:=Option.some.inj h;refine⟨t,f,?_⟩;have H:¬ Empty W.heap g:=by
   rintro⟨t',f',h'⟩;rw[e]at h';obtain⟨rfl,_⟩:c=#[]/\_:=by simpa using h'
   exact M rfl
  unfold vwP;rw[xqf H,e]
 ·cases h
theorem xd5{a b c:Int}{f0 f1 V:Field}(hg:prog.globalNamed n=some g)(hT:(prog.globals[g]?).map (·.type)=some T)(hu:prog.underlying T=some (.struct #[f0,f1,V]))(hc:prog.cellsOf T=3)
 (k0:prog.underlying f0.type=some (.int .i64))(k1:prog.underlying f1.type=some (.int .i64))(k2:prog.underlying V.type=some (.int .i64))(o:f0.offset=0/\f1.offset=1/\V.offset=2)(oc:prog.cellsOf f0.type=1/\prog.cellsOf f1.type=1/\prog.cellsOf V.type=1)
 (h:laidMet prog [(n,.agg [.lit (.int .i64 a),.lit (.int .i64 b),.lit (.int .i64 c)])] W):∃t z,vwP W g=some (.cells #[.J a,.J b,.J c] t z):=by
 obtain⟨ps,⟨g',t',cs,fuel,p,q,a2,a3,O,hd,_,_⟩,_⟩:=h;obtain rfl:=Option.some.inj (hg.symm.trans a2);obtain rfl:t'=T:=Option.some.inj (a3.symm.trans hT);obtain⟨y0,y1,y2,n,M,hl,h0,h1,h2⟩:=Go.Deep.trod_struct3 hu hd;rw[hc]at hl;obtain⟨a',ha,ea,_⟩:=DataW.trod_int k0 h0;obtain⟨b',hb,eb,_⟩:=DataW.trod_int k1 h1;obtain⟨c',H,ec,_⟩:=DataW.trod_int k2 h2;obtain⟨l⟩:=cs
 match l,hl with
 |[u,v,w],_=>
   rw[o.1,oc.1]at ha;rw[o.2.1,oc.2.1]at hb;rw[o.2.2,oc.2.2]at H;simp at ha hb H;rw[ea,eb,ec]at M;simp at M;obtain⟨t,z,h4⟩:=xw4 hg O s_;refine⟨t,z,?_⟩;rw[h4,ha,hb,H,<- M.1.1,<- M.1.2.1,<- M.1.2.2]
theorem xh7{name:String}(hg:prog.globalNamed n=some g)(hT:(prog.globals[g]?).map (·.type)=some T)(hu:prog.underlying T=some (.interface ms))
 (h:laidMet prog [(n,.iface name d)] W):∃O M tE zE,vwP W g=some (.cells #[.iface O M] tE zE):=by
 obtain⟨ps,⟨g',t',cs,fuel,p,q,a3,a2,H,V,_,_⟩,_⟩:=h;obtain rfl:=Option.some.inj (hg.symm.trans a3);obtain rfl:t'=T:=Option.some.inj (a2.symm.trans hT);have key:∃O M,cs=#[.iface O M]:=by
  obtain⟨l⟩:=cs;cases fuel with
  |zero=>simp[DataW.trod]at V
  |succ fuel=>
    match l with
    |[]=>simp[DataW.trod,hu]at V
    |[v]=>
      cases v<;>first|exact⟨_,_,rfl⟩|(simp[DataW.trod,hu]at V)
    |a::b::r=>simp[DataW.trod,hu]at V
 obtain⟨O,M,rfl⟩:=key;obtain⟨t,z,h4⟩:=xw4 hg H s_;exact⟨O,M,t,z,h4⟩
theorem xtc(h:laidMetH prog Rows.masterHalvesRow.laid W):GlP (vwP W):=by
 rw[MakeChecks.laidMetH_plain _ _ _ k_]at h;have flt:∀(n:String)(d:DataW Unit),(Rows.masterHalvesRow.laid.filter fun x=>x.1==n)=[(n,d)]->laidMet prog [(n,d)] W:=fun n d e=>by
  have h2:=laidMet.filter (fun x=>x.1==n) h;rw[e]at h2;exact h2
 refine⟨?_,?_,?_,?_,?_,?_⟩
 ·exact xd5 (n := "steening/shafts.none") (T := 217) k_ k_ underlying217 k_ underlying3 underlying3 underlying3 ⟨rfl, rfl, rfl⟩ ⟨pCi, pCi, pCi⟩ (flt _ _ k_)
 ·exact xd5 (n := "steening/buckets.none") (T := 228) k_ k_ underlying228 k_ underlying3 underlying3 underlying3 ⟨rfl, rfl, rfl⟩ ⟨pCi, pCi, pCi⟩ (flt _ _ k_)
 ·have h3 := Lib.tabIs_of_head (g := 7) (t := 352) (e := 5) (n := 64) k_ k_ k_ k_ k_ k_ (flt "math/bits.deBruijn64tab" (Lib.tabData .u8 (Dy.map fun n => ((n : Nat) : Int))) k_)
  obtain⟨t,z,h4⟩:=xw4 (g:=7) k_ h3 (by decide +kernel);exact⟨t,z,by rw[h4];simp⟩
 ·have h3 := Lib.tabIs_of_head (g := 5) (t := 345) (e := 286) (n := 20) k_ k_ k_ k_ k_ k_ (flt "internal/strconv.uint64pow10" (Lib.tabData .u64 Lib.pow10Tab) k_)
  obtain⟨t,z,h4⟩:=xw4 (g:=5) k_ h3 (by decide +kernel);exact⟨t,z,h4⟩
 ·exact xh7 (n := "strconv.ErrSyntax") (name := "*errors.errorString") (d := .ptr (.agg [.lit (.string [105, 110, 118, 97, 108, 105, 100, 32, 115, 121, 110, 116, 97, 120])])) (T := 251) k_ k_ underlying251 (flt _ _ k_)
 ·exact xh7 (n := "strconv.ErrRange") (name := "*errors.errorString") (d := .ptr (.agg [.lit (.string [118, 97, 108, 117, 101, 32, 111, 117, 116, 32, 111, 102, 32, 114, 97, 110, 103, 101])])) (T := 251) k_ k_ underlying251 (flt _ _ k_)
noncomputable def Me(os:Os):World:=World.laidAll prog os Rows.masterHalvesRow.laid
theorem xyf(os:Os):laidMetH prog Rows.masterHalvesRow.laid ((Me os).forCall (fun _ _=>0) ⟨#[],args,[]⟩).memory:=by
 rw[MakeChecks.laidMetH_plain _ _ _ k_];exact laidMet_laidAll _ k_ k_
theorem xbb{enc:TypeId×Value->H}{a:Assume}{os:Os}{fn:Func}{O a4 a3 a5:Bool}{X:World->Array Value->Prop}
 (hX:∀(w w':World)(args:Array Value),w.heap=w'.heap->X w args->X w' args)(own:ownKnob C.prog.godebug=none)(a6:os.Started)(b6:C.prog.funcs[f]?=some fn)
 (a7:∃(w:World)(V:Tape)(i:Input),w.os=os/\(w.forCall V i).Shaped C.prog/\i.vars=[]/\Input.okWide C.prog (w.forCall V i) .any w.heap.size f i/\
  ((s.pre enc C.prog fn conds O (w.forCall V i).memory i.args/\X (w.forCall V i).memory i.args)/\sizedMet enc C.prog fn (OpenSpec.ofChange s) O (w.forCall V i).memory i.args)/\a.holds C.prog (lone (Frame.enter C.prog f i.args .normal) [] (w.forCall V i)))
 (b3:∀(W:World)(a9:Nat)(args:Array Value)(ds gs:List (DataW H))(a2:List MemPlace),
  (∀(j:Nat)t v,fn.params[j]?=some t->args[j]?=some v->Value.okWide C.prog W .any a9 t v)->DataW.Whole enc C.prog fn.params.toList s.vars O W args.toList ds gs a2->X W args->
  ∃M last o w' t',runNT C.prog (M+1) (solo (G (Frame.enter C.prog f args .normal) []) W) #[]=(.ended o w',t')/\runN C.prog M (solo (G (Frame.enter C.prog f args .normal) []) W)=.next last/\
   step C.prog last=.ended o w'/\Conc.Good C.prog (fun v W'=>s.post enc C.prog fn O a4 a3 a5 W args v W') last o w' t'):
 ReturnsInLeavingWide a C os f .any (fun w args=>(s.pre enc C.prog fn conds O w args/\X w args)/\sizedMet enc C.prog fn (OpenSpec.ofChange s) O w args) (s.post enc C.prog fn O a4 a3 a5):=by
 refine returnsInLeavingWide_of_good own a6 a7 ?_;intro w V i _ _ _ b7 b4 _;obtain⟨_,_,_,fn',a8,_,_,_,_,b0⟩:=b7;have e:fn'=fn:=Option.some.inj (a8.symm.trans b6);subst e;obtain⟨⟨⟨ds,gs,a2,hw,_⟩,hx⟩,_⟩:=b4;have b5:=DataW.Whole.of_heap (w':=w.forCall V i) (by rfl) hw;obtain⟨M,last,o,w',t',h1,h2,h3,h4⟩:=b3 (w.forCall V i) w.heap.size i.args ds gs a2 b0 b5 (hX _ _ _ (by rfl) hx);exact⟨M,last,o,w',t',h1,h2,h3,h4.mono fun v hp=>ChangeSpec.post_blind hp⟩
theorem xaf(Lk:Looks){p:Pinned}{s:OpenSpec}{c:OpenClaim}(kinds:List LaidKind)(H:Bool)(M:Bool×String)(lk:Bool)(hc:c.holds p s)(hw:c.wfByText s=true)(O:c.laidByTextAt Lk p kinds H)
 (a2:c.start=.entering)(V:c.noBlocks=false/\c.again=false)(hm:p.checked.prog.mainIs=some (M.1,M.2.toList))(hn:(!M.1&&M.2.isEmpty&&!lk)=false)
 (hl:∀f fn,p.checked.prog.funcNamed c.func=some f->p.checked.prog.funcs[f]?=some fn->lk=p.checked.prog.looks []/\ ∀(j:Nat)t,fn.params[j]?=some t->p.checked.prog.wantsStandIn t=false)(hg:true=c.goesBy p.checked.prog):
 Claim7.holds p (.plain s) {stood:={row:=c,standIns:=[],harness:=M,looks:=lk},kinds:=[],alts:=[],goes:=true,laidByText:=true,laidKinds:=kinds,laidTests:=H,laidLooks:=Lk}:=by
 have h6:Claim7.isSixth {stood:={row:=c,standIns:=[],harness:=M,looks:=lk},kinds:=[]}=false:=by simpa[Claim7.isSixth]using hn
 exact⟨Claim7.tied_new_at Lk kinds H (Claim7.new_of_sixth hc M lk a2 V hm h6 hl) hw,fun D hD=>(by cases hD),O,fun h=>(by cases h),hg⟩
end Go.Proofs.YtofhlcococeifaaGreatDoor
namespace Go.X.Ms
variable{d:Dsk}{l vs:List Int}{args ls:List Str}{n:Nat}{w:Str}{t:Twn}
theorem Twn.fit.up{t:Twn}{n n':Nat}(h:t.fit n)(hn:n<=n'):t.fit n':=⟨⟨Nat.le_trans h.1.1 hn,Nat.le_trans h.1.2 hn⟩,⟨Nat.le_trans h.2.1.1 hn,Nat.le_trans h.2.1.2.1 hn,Nat.le_trans h.2.1.2.2 hn⟩,Nat.le_trans h.2.2 hn⟩
theorem xc7{α:Type}{xs H:List α}{d:α}(V:xs.length=H.length)(h:∀i,i<xs.length->xs.getD i d=H.getD i d):xs=H:=by
 apply List.ext_getElem V;intro i M O;have:=h i M;rwa[List.getD_eq_getElem?_getD,List.getD_eq_getElem?_getD,List.getElem?_eq_getElem M,List.getElem?_eq_getElem O]at this
theorem xmc:∀{w:Str}(s:Str),(32:UInt8)∉w->Ad (w++32::s)=w::Ad s
 |[],s,_=>by rw[List.nil_append,Ad,if_pos rfl]
 |c::w,s,h=>by
   have hc:c≠32:=fun e=>h (by rw[e];simp);have hw:(32:UInt8)∉w:=fun e=>h (List.mem_cons_of_mem _ e);rw[List.cons_append,Ad,if_neg hc,xmc s hw];rfl
theorem xvg:∀{w:Str},(32:UInt8)∉w->Ad w=[w]
 |[],_=>rfl
 |c::w,h=>by
   have hc:c≠32:=fun e=>h (by rw[e];simp);have hw:(32:UInt8)∉w:=fun e=>h (List.mem_cons_of_mem _ e);rw[Ad,if_neg hc,xvg hw];rfl
theorem xqm:∀(s:Str){x:Str},(32:UInt8)∉x->Ad (s++32::x)=Ad s++[x]
 |[],x,h=>(xmc (w:=[]) x s_).trans (by rw[xvg h];rfl)
 |c::s,x,h=>by
   have H:=xqm s h;rw[List.cons_append,Ad,Ad,H];by_cases hc:c=32
   ·rw[if_pos hc,if_pos hc];rfl
   ·rw[if_neg hc,if_neg hc];cases e:Ad s with
    |nil=>exact absurd e (xaj s)
    |cons a t=>rfl
theorem yjs(n:Int):(32:UInt8)∉txt n:=by
 intro h;have H:(32:UInt8)∈C9 n.natAbs:=by
  unfold txt at h;split at h
  ·rcases List.mem_cons.1 h with e|h
   ·cases e
   ·exact h
  ·exact h
 exact absurd (xlc _ H) d_
theorem ysk(n:Int):isLet (txt n)=false:=by
 rw[Bool.eq_false_iff];intro h;have h:=xbg.1 h;unfold txt at h;split at h
 ·have:=xkc n.natAbs;rw[List.length_cons]at h;omega
 ·cases e:C9 n.natAbs with
  |nil=>rw[e]at h;simp at h
  |cons d t=>
    have H:=xlc d (by rw[e];simp);rw[e]at h;unfold C7 at H;simp at h H;omega
section
variable{x k:Str}
theorem xg2(hs:Ad x=w::args)(H:w≠D7):doD d x=C0 d [] (w::args):=by
 unfold doD;simp only[hs,List.headD_cons];rw[if_neg H]
theorem ywp(hs:Ad x=D7::k::w::args)(H:isLet k=true):doD d x=C0 d k (w::args):=by
 unfold doD;simp only[hs,List.headD_cons,if_true];rw[if_neg]
 ·simp
 ·simp[H]
theorem xsc{q:Qn}(H:qn (w++txt args.length)=some q)(hc:args.all Ba=true)(hv:A5 d.now args=some vs):C0 d k (w::args)=C5 d q vs k:=by
 rw[xvk,H,hc,if_neg s_,hv]
theorem xbt(hc:args.all Ba=true)(H:qn (w++txt args.length)≠none\/k=[]/\od (w++txt args.length)≠none)(hv:A5 d.now args=none):C0 d k (w::args)=(d,Ay):=by
 rw[xvk,hc,if_neg,hv];rintro(h|⟨h1,h2⟩)
 ·cases h
 ·rcases H with H|⟨e1,e2⟩
  ·exact H h1
  ·rcases h2 with h2|h2
   ·exact h2 e1
   ·exact e2 h2.1
theorem xjn{o:Od}(M:qn (w++txt args.length)=none)(O:od (w++txt args.length)=some o)(H:C2 w args.length=false)(hc:args.all Ba=true)(hv:A5 d.now args=some vs):
 C0 d [] (w::args)=match Ct o d.now.t vs with
  |none=>(d,wNo)
  |some t=>if Cj t=0 then({d with now:={d.now with t:=t}},wOk)else(d,wNo):=by
 rw[xvk,M,O,hc,if_neg s_,hv];simp only;rw[if_neg (by rw[H];simp)];rfl
theorem xd7(M:qn (w++txt ((0:Nat):Int))=none)(H:C2 w 0=true):C0 d [] [w]=((tryD d w).1,Ek (tryD d w).2):=by
 have e:=xvk d [] w [];rw[show(([]:List Str).length:Nat)=0 from rfl,M]at e;rw[e,if_neg,A5]
 ·exact if_pos H
 ·rintro(h|⟨_,h|h⟩)
  ·cases h
  ·exact h rfl
  ·have:C2 w 0=false:=h.2;rw[H]at this;cases this
end
theorem xmm(h:n<10):txt ((n:Nat):Int)=[UInt8.ofNat (48+n)]:=by unfold txt;rw[if_neg om,Int.natAbs_natCast,xzj h]
def okD(d:Dsk):Prop:=Cj d.now.t=0/\ ∀s∈d.Bz,Cj s.t=0
theorem xhc(d:Dsk)(q:Qn)(a:List Int)(l:Str):(C5 d q a l).1.now.t=d.now.t/\(C5 d q a l).1.Bz=d.Bz:=by
 refine⟨?_,xp2 d q a l⟩;unfold C5;split
 ·rfl
 ·split
  ·rfl
  ·split
   ·cases(B2 q d.now.t a).1<;>rfl
   ·rfl
theorem ymn(h:okD d){q a l}:okD (C5 d q a l).1:=by
 obtain⟨H,M⟩:=xhc d q a l;unfold okD;rw[H,M];exact h
theorem yln(h:okD d){w}:okD (tryD d w).1:=by
 unfold tryD;split
 ·refine⟨h.1,fun s hs=>?_⟩;rcases List.mem_append.1 hs with hs|hs
  ·exact h.2 s hs
  ·rw[List.mem_singleton.1 hs];exact h.1
 ·split
  ·exact h
  ·rename_i x M;have H:x∈d.Bz:=List.mem_of_getLast? M;split
   ·exact⟨h.2 x H,fun s hs=>h.2 s (List.mem_of_mem_take hs)⟩
   ·exact⟨h.1,fun s hs=>h.2 s (List.mem_of_mem_take hs)⟩
theorem xr6(h:okD d)(l w:Str)(args:List Str):okD (C0 d l (w::args)).1:=by
 rw[xvk];split
 ·exact h
 ·cases A5 d.now args with
  |none=>exact h
  |some vs=>
    cases qn (w++txt args.length)with
    |some q=>exact ymn h
    |none=>
      simp only;split
      ·exact yln h
      ·cases od (w++txt args.length)with
       |none=>exact h
       |some o=>
         simp only;cases Ct o d.now.t vs with
         |none=>exact h
         |some t=>
           simp only;split
           ·rename_i c;exact⟨c,h.2⟩
           ·exact h
theorem yb0(h:okD d)(x:Str):okD (doD d x).1:=by
 have e:∀(l:Str)(H:List Str),okD (C0 d l H).1:=fun l H=>by
  cases H with
  |nil=>exact xr6 h l [] []
  |cons w args=>exact xr6 h l w args
 unfold doD;simp only;split
 ·split
  ·exact h
  ·exact e _ _
 ·exact e _ _
theorem yxj:∀{xs:List Str}{d:Dsk},okD d->okD (Az d xs).1
 |[],_,h=>h
 |x::xs,_,h=>yxj (xs:=xs) (yb0 h x)
theorem ywj(h:Cj t=0):okD (Ai t):=⟨h,by simp[Ai]⟩
theorem xfj(h:Cj t=0)(H:ls.length<=30):Bt t ls=((Az (Ai t) ls).2,(Az (Ai t) ls).1.now.t):=by unfold Bt;rw[if_neg (by rw[h];simp;omega)]
theorem ygz(h:Cj t=0)(H:ls.length<=30):M0 t ls=0:=by unfold M0;rw[if_neg (by rw[h];simp),if_neg om]
theorem xxw(h:Cj t=0)(H:ls.length<=30):(Bt t ls).1.length=ls.length:=by rw[xfj h H];exact xpc _ _
theorem xhw(h:Cj t=0)(H:ls.length<=30):Cj (Bt t ls).2=0:=by rw[xfj h H];exact(yxj (ywj h)).1
theorem ypw{s:Shf}:Hx s=0<->s.ok:=by unfold Hx;split<;>simp_all
end Go.X.Ms
namespace Go.X.Flow
open Go.X
def exB:Tn:=⟨[5,4,3],[4,3],[(0,0),(1,0),(1,1),(2,1)]⟩
theorem vdB:Vd exB:=⟨d_,d_,d_,d_,by unfold YOk;decide⟩
theorem Lf:Et exB=0:=Cw d_ vdB
theorem Oa:O7 exB=7:=by decide +kernel
end Go.X.Flow
namespace Go.X.Ms
open Go.X.Flow (Tn exB)
open Go.X.Cist (Day)
variable{d:Dsk}
def exS:Shf:=⟨[⟨1,2,2,9⟩,⟨1,2,2,0⟩],[1,0,1,0],0,0,2⟩
def exY:Yr:=⟨10,5,[⟨0,2,1⟩,⟨6,9,2⟩,⟨0,0,7⟩,⟨4,4,3⟩]⟩
def exT:Twn:=⟨exS,exB,exY⟩
def Ny:Tn:=⟨exB.hs,[7,3],exB.wy⟩
def Ov:Shf:={exS with Af:=[1,0,1,0,1]}
def Gi:Str:=[99,104,101,97,112]
def exL:List Str:=[Gi,Ap,[102,111,111,116,32,49],Gi,Cc,Fl,[107,101,101,112,32,109,32,109,111,115,116],[104,97,115,32,48,32,109],[108,97,99,107,115],[115,112,97,114,101,32,51],[115,105,122,101,32,120],[108,101,118,101,108,32,52]]
def exR:List Str:=[[49,55],wOk,wOk,[49,48],wOk,wNo,[55],wOk,[49,32,49,32,48],[50],Ay,Er]
theorem yer:Flow.Et Ny=0:=Flow.Cw d_ ⟨d_,d_,d_,d_,by unfold Flow.YOk;decide⟩
theorem Pz:Cist.chk exY.size exY.start exY.days=0:=Cist.B5.2 (by unfold Cist.Ok Cist.Dq;decide +kernel)
theorem xm4:Cj exT=0:=xcw.2 ⟨by decide +kernel,Flow.Lf,Pz⟩
theorem yjg:Cj {exT with s:=Ov}=0:=xcw.2 ⟨by decide +kernel,Flow.Lf,Pz⟩
theorem yig:Cj {exT with b:=Ny}=0:=xcw.2 ⟨by decide +kernel,yer,Pz⟩
theorem xl8:Ck ltC exS=0/\Cs exS=17/\Ck ltC Ov=0/\Cs Ov=10:=by decide +kernel
theorem Q4:Flow.LK Ny=[1,1,0]:=by decide +kernel
theorem tx0:txt ((0:Nat):Int)=[48]:=xmm d_
theorem tx1:txt ((1:Nat):Int)=[49]:=xmm d_
theorem tx2:txt ((2:Nat):Int)=[50]:=xmm d_
theorem xf8:doD d Gi=C5 d .cheap [] []:=
 (xg2 (w:=Gi) (args:=[]) (by decide +kernel) d_).trans (xsc (q:=.cheap) (by show qn (Gi++txt ((0:Nat):Int))=_;rw[tx0];kernel_rfl) rfl rfl)
theorem yvp{w:Str}(hs:Ad w=[w])(M:w≠D7)(H:qn (w++[48])=none)(O:C2 w 0=true):doD d w=((tryD d w).1,Ek (tryD d w).2):=
 (xg2 hs M).trans (xd7 (by rw[tx0];exact H) O)
theorem xep{q:Qn}{a:List Int}{l:Str}(h:(B2 q d.now.t a).2=0):C5 d q a l=(if l≠[]then Hi d l (B2 q d.now.t a).1 else d,(B2 q d.now.t a).1.text):=by
 unfold C5;rw[if_neg (by rw[h];decide),if_neg (by rw[h];simp)]
def k0:List Int:=List.replicate 26 0
def dA:Dsk:=Ai exT
def dB:Dsk:=⟨⟨exT,k0,k0⟩,[⟨exT,k0,k0⟩]⟩
def dC:Dsk:=⟨⟨{exT with s:=Ov},k0,k0⟩,[⟨exT,k0,k0⟩]⟩
def dD:Dsk:=⟨⟨exT,k0.set 12 7,k0.set 12 1⟩,[]⟩
def dE:Dsk:=⟨⟨{exT with b:=Ny},k0.set 12 7,k0.set 12 1⟩,[]⟩
theorem Qs:txt 17=[49,55]:=by unfold txt;rw[if_neg d_,show(17:Int).natAbs=17 from rfl,xqv d_,xzj d_];rfl
theorem Qu:txt 10=[49,48]:=by unfold txt;rw[if_neg d_,show(10:Int).natAbs=10 from rfl,xqv d_,xzj d_];rfl
theorem s1:doD dA Gi=(dA,[49,55]):=by
 rw[xf8,xep (d:=dA) (q:=.cheap) (a:=[]) (l:=[]) xl8.1];show(dA,txt (Cs exS))=_;rw[xl8.2.1,Qs]
theorem s2:doD dA Ap=(dB,wOk):=by
 rw[yvp (by decide +kernel) d_ k_ d_];rfl
theorem s3:doD dB [102,111,111,116,32,49]=(dC,wOk):=by
 rw[xg2 (w:=[102,111,111,116]) (args:=[[49]]) (by decide +kernel) d_,xjn (o:=.Fu) (vs:=[1]) (by show qn (_++txt ((1:Nat):Int))=_;rw[tx1];kernel_rfl) (by show od (_++txt ((1:Nat):Int))=_;rw[tx1];kernel_rfl) d_ (by decide +kernel) (by decide +kernel)];show(if Cj {exT with s:=Ov}=0 then _ else _)=_;rw[if_pos yjg];rfl
theorem s4:doD dC Gi=(dC,[49,48]):=by
 rw[xf8,xep (d:=dC) (q:=.cheap) (a:=[]) (l:=[]) xl8.2.2.1];show(dC,txt (Cs Ov))=_;rw[xl8.2.2.2,Qu]
theorem s5:doD dC Cc=(dA,wOk):=by
 rw[yvp (by decide +kernel) d_ k_ d_];rfl
theorem s6:doD dA Fl=(dA,wNo):=by
 rw[yvp (by decide +kernel) d_ k_ d_];rfl
theorem s7:doD dA [107,101,101,112,32,109,32,109,111,115,116]=(dD,[55]):=by
 rw[ywp (k:=[109]) (w:=[109,111,115,116]) (args:=[]) (by decide +kernel) d_,xsc (q:=.Fh) (vs:=[]) (by show qn (_++txt ((0:Nat):Int))=_;rw[tx0];kernel_rfl) rfl rfl,xep (d:=dA) (q:=.Fh) (a:=[]) (l:=[109]) Flow.Lf];show(Hi dA [109] (.num (Flow.Gk exB)),txt (Flow.Gk exB))=_;rw[show Flow.Gk exB=7 by rw[Flow.Gk,if_pos Flow.Lf,Flow.Oa]];show(_,txt ((7:Nat):Int))=_;rw[xmm d_];rfl
theorem s8:doD dD [104,97,115,32,48,32,109]=(dE,wOk):=by
 rw[xg2 (w:=[104,97,115]) (args:=[[48],[109]]) (by decide +kernel) d_,xjn (o:=.has) (vs:=[0,7]) (by show qn (_++txt ((2:Nat):Int))=_;rw[tx2];kernel_rfl) (by show od (_++txt ((2:Nat):Int))=_;rw[tx2];kernel_rfl) d_ (by decide +kernel) (by decide +kernel)];show(if Cj {exT with b:=Ny}=0 then _ else _)=_;rw[if_pos yig];rfl
theorem s9:doD dE [108,97,99,107,115]=(dE,[49,32,49,32,48]):=by
 rw[xg2 (w:=[108,97,99,107,115]) (args:=[]) (by decide +kernel) d_,xsc (q:=.Ed) (vs:=[]) (by show qn (_++txt ((0:Nat):Int))=_;rw[tx0];kernel_rfl) rfl rfl,xep (d:=dE) (q:=.Ed) (a:=[]) (l:=[]) yer];show(dE,Nt (Flow.LKc Ny))=_;rw[Flow.Mq yer,Q4];show(dE,txt ((1:Nat):Int)++32::(txt ((1:Nat):Int)++32::(txt ((0:Nat):Int)++[])))=_;rw[tx0,tx1];rfl
theorem spE:Cist.C8 exY.size exY.start exY.days 3=(2,0):=by decide +kernel
theorem s10:doD dE [115,112,97,114,101,32,51]=(dE,[50]):=by
 rw[xg2 (w:=[115,112,97,114,101]) (args:=[[51]]) (by decide +kernel) d_,xsc (q:=.spare) (vs:=[3]) (by show qn (_++txt ((1:Nat):Int))=_;rw[tx1];kernel_rfl) (by decide +kernel) (by decide +kernel),xep (d:=dE) (q:=.spare) (a:=[3]) (l:=[]) (show(Cist.C8 exY.size exY.start exY.days 3).2=0 by rw[spE])];show(dE,txt (Cist.C8 exY.size exY.start exY.days 3).1)=_;rw[spE];show(dE,txt ((2:Nat):Int))=_;rw[tx2]
theorem s11:doD dE [115,105,122,101,32,120]=(dE,Ay):=by
 rw[xg2 (w:=[115,105,122,101]) (args:=[[120]]) (by decide +kernel) d_,xbt (by decide +kernel) (.inr ⟨rfl,by show od (_++txt ((1:Nat):Int))≠_;rw[tx1,show od ([115,105,122,101]++[49])=some .size by kernel_rfl];simp⟩) (by decide +kernel)]
theorem lvE:(Cist.Lr exY.size exY.start exY.days 4).2=1:=by decide +kernel
theorem s12:doD dE [108,101,118,101,108,32,52]=(dE,Er):=by
 rw[xg2 (w:=[108,101,118,101,108]) (args:=[[52]]) (by decide +kernel) d_,xsc (q:=.level) (vs:=[4]) (by show qn (_++txt ((1:Nat):Int))=_;rw[tx1];kernel_rfl) (by decide +kernel) (by decide +kernel)];unfold C5;rw[show(B2 .level dE.now.t [4]).2=1 from lvE];rfl
theorem yhz:(Az (Ai exT) exL).2=exR/\(Az (Ai exT) exL).1.now.t={exT with b:=Ny}:=by
 unfold exL;simp only[Az,show Ai exT=dA from rfl,s1,s2,s3,s4,s5,s6,s7,s8,s9,s10,s11,s12];exact⟨rfl,rfl⟩
theorem yos:Bt exT exL=(exR,{exT with b:=Ny}):=by rw[xfj xm4 d_,yhz.1,yhz.2]
end Go.X.Ms
namespace Go.Proofs.YtofhlcococeifaaGreatDoor
open Go.Proofs.Tryz
open Go.X Go.X.Ms Go.Conc
open Go.X.Flow (Cl Wys wz ics Al Dt)
open Go.X.Cist (Day Bp dz)
variable{h:Heap}{z:Int}{md:Md}{c1 c2 c3 ca cb n:Nat}{b:Option Addr}{p:Ab}
theorem cf95{n lo hi:Int}:Dc prog md p 95 #[.J n,.J lo,.J hi] (.bool (decide (lo<=n/\n<=hi))):=by
 refine xlq func95 fun K=>?_;refine K.q ?_;exact congrArg Value.bool (by rw[Bool.eq_iff_iff];simp)
theorem cf51{n lo hi:Int}:Dc prog md p 51 #[.J n,.J lo,.J hi] (.bool (decide (lo<=n/\n<=hi))):=by
 refine xlq func51 fun K=>?_;refine cdq cf95 ?_;exact K.q rfl
theorem cf96{n lo hi:Int}:Dc prog md p 96 #[.J n,.J lo,.J hi] (.bool (decide (lo<=n/\n<=hi))):=by
 refine xlq func96 fun K=>?_;refine cdq cf95 ?_;exact K.q rfl
theorem cf54{n lo hi:Int}:Dc prog md p 54 #[.J n,.J lo,.J hi] (.bool (decide (lo<=n/\n<=hi))):=by
 refine xlq func54 fun K=>?_;refine cdq cf95 ?_;exact K.q rfl
theorem cf52{a:Option Addr}(s:Shf)(hn:s.Ah.length<=2^40)(x:Int):Dc prog md p 52 #[.agg #[.slice a s.Ah.length ca,.slice b s.Af.length cb,.J s.deep,.J s.Cp,.J s.rest],.J x] (.bool (decide (okF s.Ah.length x))):=by
 refine xkq func52 fun K b1=>?_;refine cdq cf51 ?_;exact K.q rfl
theorem xwt{α:Type}{l:List α}{z:α}{P:α->Prop}:(∀x∈l,P x)<-> ∀i,i<l.length->P (l.getD i z):=by
 constructor
 ·intro h i hi;rw[List.getD_eq_getElem?_getD,List.getElem?_eq_getElem hi];exact h _ (List.getElem_mem hi)
 ·intro h x H;obtain⟨i,hi,rfl⟩:=List.mem_iff_getElem.1 H;have:=h i hi;rwa[List.getD_eq_getElem?_getD,List.getElem?_eq_getElem hi]at this
theorem cf32{a:Option Addr}(s:Shf)(S:Cy p a b s)(hn:s.Ah.length<=2^20/\s.Af.length<=2^20):Dc prog md p 32 #[.agg #[.slice a s.Ah.length ca,.slice b s.Af.length cb,.J s.deep,.J s.Cp,.J s.rest]] (.J (Hx s)):=by
 intro h hp;have Sr:=S.r;have Sf:=S.f;have a2:Sl p a s.Ah.length 4 (rcs s.Ah):=S.r;refine xhz hp func32 fun zq cs Stop K=>?_;have O:∀{h_:Heap},Av h h_-> ¬ s.ok->X.Reach prog md (G (zq.finish (.J 20)) cs) h_ Stop:=fun k z=>K _ _ ⟨by rw[Hx,if_neg z],k⟩;refine bq fun b1=>?_;refine cgq (fun _=>cf51) ?_;refine cgq (fun _=>cf51) ?_;refine cgq (fun _=>cf51) ?_;refine cq (fun V=>?_) (fun V=>?_)
 ·refine ax ?_;exact xsq func32 rfl rfl fun h_ M=>O M.kept fun z=>by
   obtain⟨z1,_,z3,_,z5,z6,z7,z8⟩:=z;omega
 have hb:s.Ah.length<=4/\s.Af.length<=12/\(0<=s.deep/\s.deep<=9)/\(0<=s.Cp/\s.Cp<=9)/\0<=s.rest/\s.rest<=9:=om;clear V;refine ax ?_;refine xhq (fun m_ l p_ L_=>∃j:Nat,m_=s.Ah.length-j/\l=[(1,none,w_ b1 0),(3,none,.J ((j:Nat):Int))]/\p_=p/\L_=[[(b1,.cells #[.slice a s.Ah.length ca,.slice b s.Af.length cb,.J s.deep,.J s.Cp,.J s.rest] 25 (0,0))]]/\j<=s.Ah.length/\ ∀i,i<j->okR (s.Ah.getD i rz)) ⟨0,rfl,rfl,rfl,rfl,Nat.zero_le _,om⟩ sb ?_;rintro _ _ p _ IH ⟨j,rfl,rfl,rfl,rfl,hj,hq⟩;refine cq (fun V=>?_) (fun V=>?_)
 ·have H:j<s.Ah.length:=om;refine ax ?_;refine ro_y rfl (xmj rfl (Sr.all H)) ?_;refine lq fun b4=>?_;refine cdq cf51 ?_;refine cgq (fun _=>cf51) ?_;refine cgq (fun _=>cf51) ?_;refine cgq (fun _=>cf51) ?_;refine cq (fun cd=>?_) (fun cd=>?_)
  ·refine ax ?_;exact xsq func32 rfl rfl fun h_ M=>O M.kept fun z=>by
    have:=(xwt (z:=rz)).1 z.2.1 j H;unfold okR at this;omega
  ·have h1:okR (s.Ah.getD j rz):=by unfold okR;omega
   exact bkq (IH _ _ _ om ⟨j+1,rfl,rfl,rfl,rfl,om,fun i hi=>by
    rcases Nat.lt_or_ge i j with z|z
    ·exact hq i z
    ·obtain rfl:i=j:=om;exact h1⟩)
 have hr:∀r∈s.Ah,okR r:=(xwt (z:=rz)).2 fun i hi=>hq i om;clear hq IH V;refine ax ?_;refine xhq (fun m_ l p_ L_=>∃j:Nat,m_=s.Af.length-j/\l=[(1,none,w_ b1 0),(5,none,.J ((j:Nat):Int))]/\p_=p/\L_=[[(b1,.cells #[.slice a s.Ah.length ca,.slice b s.Af.length cb,.J s.deep,.J s.Cp,.J s.rest] 25 (0,0))]]/\j<=s.Af.length/\ ∀i,i<j->okF s.Ah.length (s.Af.getD i 0)) ⟨0,rfl,rfl,rfl,rfl,Nat.zero_le _,om⟩ sb ?_;rintro _ _ p _ IH ⟨j,rfl,rfl,rfl,rfl,hj,hq⟩;refine cq (fun V=>?_) (fun V=>?_)
 ·have H:j<s.Af.length:=om;refine drq [] R6 ?_;refine ax ?_;refine xpx rfl rfl (cf52 s om _) ?_;refine cq (fun cd=>?_) (fun cd=>?_)
  ·refine ax ?_;exact xsq func32 rfl rfl fun h_ M=>O M.kept fun z=>cd (xwt.1 z.2.2.2.1 j H)
  ·exact bkq (IH _ _ _ om ⟨j+1,rfl,rfl,rfl,rfl,om,fun i hi=>by
    rcases Nat.lt_or_ge i j with z|z
    ·exact hq i z
    ·obtain rfl:i=j:=om;exact Classical.not_not.1 cd⟩)
 refine ax ?_;exact xsq func32 rfl rfl fun h_ M=>K _ _ ⟨by
  rw[Hx,if_pos ⟨hb.1,hr,hb.2.1,(xwt (z:=0)).2 fun i hi=>hq i om,hb.2.2.1,hb.2.2.2.1,hb.2.2.2.2⟩];rfl,M.kept⟩
open Go.X.Flow (Cl Wys wz ics Al Dt Tn Vd YOk Et Cw Fq)
variable{ds:List Day}{a1 a2 a3:Option Addr}
theorem cf91(t:Tn)(hn:t.nH<=2^40):Dc prog md p 91 #[.agg #[.slice a1 t.nH c1,.slice a2 t.nW c2,.slice a3 t.m c3],.J z] (.bool (decide (0<=z/\z<=(t.nH:Int)-1))):=by
 refine xkq func91 fun K b1=>?_;refine cdq cf96 ?_;exact K.q rfl
theorem cf92(t:Tn)(hn:t.nW<=2^40):Dc prog md p 92 #[.agg #[.slice a1 t.nH c1,.slice a2 t.nW c2,.slice a3 t.m c3],.J z] (.bool (decide (0<=z/\z<=(t.nW:Int)-1))):=by
 refine xkq func92 fun K b1=>?_;refine cdq cf96 ?_;exact K.q rfl
theorem cf97(x y:Cl):Dc prog md p 97 #[.agg #[.J x.1,.J x.2],.agg #[.J y.1,.J y.2]] (.bool (Mt x y)):=by
 refine xkq func97 fun K b1=>?_;refine bq fun b2=>?_;refine K.q ?_;refine congrArg Value.bool ?_;unfold Mt;rw[Bool.eq_iff_iff];simp
theorem cf34{size start:Int}{a:Option Addr}{c:Nat}(D:Bp p a n ds)(hn:n<=2^20):Dc prog md p 34 #[.agg #[.J size,.J start,.slice a n c]] (.J (Cist.chk size start ds)):=by
 intro h hp;have hl:=D.len;have D2:Sl p a n 3 (Cist.dcs ds):=D;refine xhz hp func34 fun zq cs Stop K=>?_;have M:∀{O:Heap},Av h O-> ¬ Cist.Ok size start ds->X.Reach prog md (G (zq.finish (.J 100)) cs) O Stop:=fun k z=>K _ _ ⟨by rw[Cist.Kj z],k⟩;refine bq fun b1=>?_;refine cdq cf54 ?_;refine cgq (fun _=>cf54) ?_;refine cq (fun cc=>?_) (fun cc=>?_)
 ·refine ax ?_;exact xsq func34 rfl rfl fun O H=>M H.kept fun z=>by
   have:=z.1;have:=z.2.1;have:=z.2.2.1;have:=z.2.2.2.1;have:=z.2.2.2.2.1
   omega
 refine ax ?_;refine xhq (fun m_ l p_ L_=>∃j:Nat,m_=n-j/\l=[(1,none,w_ b1 0),(3,none,.J ((j:Nat):Int))]/\p_=p/\L_=[[(b1,.cells #[.J size,.J start,.slice a n c] 31 (0,0))]]/\j<=n/\ ∀i,i<j->Cist.Dq (ds.getD i dz)) ⟨0,rfl,rfl,rfl,rfl,Nat.zero_le _,om⟩ sb ?_;rintro _ _ p _ IH ⟨j,rfl,rfl,rfl,rfl,hj,hq⟩;refine cq (fun ce=>?_) (fun ce=>?_)
 ·have V:j<n:=om;refine ax ?_;refine ro_y rfl (xmj rfl (D.all V)) ?_;refine lq fun b4=>?_;refine cdq cf54 ?_;refine cgq (fun _=>cf54) ?_;refine cgq (fun _=>cf54) ?_;refine cq (fun cd=>?_) (fun cd=>?_)
  ·refine ax ?_;exact xsq func34 rfl rfl fun O H=>M H.kept fun z=>by
    have:=z.2.2.2.2.2 j om;unfold Cist.Dq at this;omega
  ·have h1:Cist.Dq (ds.getD j dz):=by unfold Cist.Dq;omega
   exact bkq (IH _ _ _ om ⟨j+1,rfl,rfl,rfl,rfl,om,Cist.Mk hq h1⟩)
 refine ax ?_;exact xsq func34 rfl rfl fun O H=>K _ _ ⟨by
  rw[Cist.Fv ⟨om,om,om,om,om,fun i hi=>hq i om⟩];rfl,H.kept⟩
theorem cf53(c1 c2 c3:Nat)(t:Tn)(T:Al p a1 t.nH a2 t.nW a3 t.m t)(hn:t.nH<=2^20/\t.nW<=2^20/\t.m<=2^20):Kc prog md p 53 #[.agg #[.slice a1 t.nH c1,.slice a2 t.nW c2,.slice a3 t.m c3]] (fun v=>(∃q:Bool,v=.bool q/\(q=true<->Vd t))):=by
 intro h hp;have Th:=T.h;have Tw:=T.w;have Ty:Sl p a3 t.m 2 (Flow.wcs t.wy):=T.y;refine xhz hp func53 fun zq cs Stop K=>?_;have a4:∀{h_:Heap},Av h h_-> ¬ Vd t->X.Reach prog md (G (zq.finish (.bool false)) cs) h_ Stop:=fun k z=>K _ _ ⟨⟨false,rfl,by simp[z]⟩,k⟩;refine bq fun b1=>?_;refine cq (fun cc=>?_) (fun cc=>?_)
 ·refine ax ?_;exact xsq func53 rfl rfl fun h_ V=>a4 V.kept fun z=>by
   have:=z.nh;have:=z.nw;omega
 refine ax ?_;refine xhq (fun m_ l p_ L_=>∃j:Nat,m_=t.nH-j/\l=[(1,none,w_ b1 0),(3,none,.J ((j:Nat):Int))]/\p_=p/\L_=[[(b1,.cells #[.slice a1 t.nH c1,.slice a2 t.nW c2,.slice a3 t.m c3] 28 (0,0))]]/\j<=t.nH/\ ∀i,i<j->0<=t.hs.getD i 0/\t.hs.getD i 0<=9) ⟨0,rfl,rfl,rfl,rfl,Nat.zero_le _,om⟩ sb ?_;rintro _ _ p _ IH ⟨j,rfl,rfl,rfl,rfl,hj,O⟩;refine cq (fun ce=>?_) (fun ce=>?_)
 ·have H:j<t.nH:=om;refine cdq cf96 ?_;refine cq (fun M=>?_) (fun M=>?_)
  ·refine ax ?_;exact xsq func53 rfl rfl fun h_ V=>a4 V.kept fun z=>M (z.h j H)
  ·exact bkq (IH _ _ _ om ⟨j+1,rfl,rfl,rfl,rfl,om,fun i hi=>by
    rcases Nat.lt_or_ge i j with z|z
    ·exact O i z
    ·obtain rfl:i=j:=om;exact Classical.not_not.1 M⟩)
 have hH:∀i,i<t.nH->0<=t.hs.getD i 0/\t.hs.getD i 0<=9:=fun i hi=>O i om;clear O IH ce;refine ax ?_;refine xhq (fun m_ l p_ L_=>∃j:Nat,m_=t.nW-j/\l=[(1,none,w_ b1 0),(4,none,.J ((j:Nat):Int))]/\p_=p/\L_=[[(b1,.cells #[.slice a1 t.nH c1,.slice a2 t.nW c2,.slice a3 t.m c3] 28 (0,0))]]/\j<=t.nW/\ ∀i,i<j->0<=t.ws.getD i 0/\t.ws.getD i 0<=20) ⟨0,rfl,rfl,rfl,rfl,Nat.zero_le _,om⟩ sb ?_;rintro _ _ p _ IH ⟨j,rfl,rfl,rfl,rfl,hj,O⟩;refine cq (fun ce=>?_) (fun ce=>?_)
 ·have H:j<t.nW:=om;refine cdq cf96 ?_;refine cq (fun M=>?_) (fun M=>?_)
  ·refine ax ?_;exact xsq func53 rfl rfl fun h_ V=>a4 V.kept fun z=>M (z.w j H)
  ·exact bkq (IH _ _ _ om ⟨j+1,rfl,rfl,rfl,rfl,om,fun i hi=>by
    rcases Nat.lt_or_ge i j with z|z
    ·exact O i z
    ·obtain rfl:i=j:=om;exact Classical.not_not.1 M⟩)
 have hW:∀i,i<t.nW->0<=t.ws.getD i 0/\t.ws.getD i 0<=20:=fun i hi=>O i om;clear O IH ce;refine ax ?_;refine xhq (fun m_ l p_ L_=>∃j:Nat,m_=t.m-j/\l=[(1,none,w_ b1 0),(5,none,.J ((j:Nat):Int))]/\p_=p/\L_=[[(b1,.cells #[.slice a1 t.nH c1,.slice a2 t.nW c2,.slice a3 t.m c3] 28 (0,0))]]/\j<=t.m/\ ∀i,i<j->YOk t i) ⟨0,rfl,rfl,rfl,rfl,Nat.zero_le _,om⟩ sb ?_;rintro _ _ p _ IH ⟨j,rfl,rfl,rfl,rfl,hj,O⟩;refine cq (fun ce=>?_) (fun ce=>?_)
 ·have H:j<t.m:=om;refine ax ?_;refine ro_y rfl (xmj rfl (T.y.all H)) ?_;refine lq fun b6=>?_;refine drq [] R23 ?_;refine xzz rfl rfl rfl (cf91 t om) ?_;refine ex ?_;refine xhv rfl rfl rfl rfl sdu (fun _=>cf92 t om) ?_;refine ex ?_;refine de_y rfl rfl (xfv rfl rfl sdu sdu (fun hc=>⟨⟨by simp at hc;omega,om⟩,Sl.ne Ty om⟩)) ?_;refine ex ?_;refine de_y rfl rfl (xud rfl sdu (fun _=>T.y.all (k:=((j:Int)-1).toNat) om) (vs:=[.J (t.wy.getD ((j:Int)-1).toNat wz).1,.J (t.wy.getD ((j:Int)-1).toNat wz).2])) ?_;refine xa ?_;refine cgq (fun _=>cf97 _ _) ?_;refine cq (fun M=>?_) (fun M=>?_)
  ·refine ax ?_;exact xsq func53 rfl rfl fun h_ V=>a4 V.kept fun z=>by
    have z:=z.y j H;rcases M with(c|c)|c
    ·exact c z.1
    ·exact c z.2.1
    ·exact c.2 (decide_eq_true (z.2.2 om))
  ·have h1:YOk t j:=⟨Classical.not_not.1 fun c=>M (.inl (.inl c)),Classical.not_not.1 fun c=>M (.inl (.inr c)),fun h0=>of_decide_eq_true (Classical.not_not.1 fun c=>M (.inr ⟨om,c⟩))⟩
   exact bkq (IH _ _ _ om ⟨j+1,rfl,rfl,rfl,rfl,om,fun i hi=>by
    rcases Nat.lt_or_ge i j with z|z
    ·exact O i z
    ·obtain rfl:i=j:=om;exact h1⟩)
 refine ax ?_;exact xsq func53 rfl rfl fun h_ V=>K _ _ ⟨⟨true,rfl,by simp;exact⟨om,om,hH,hW,fun i hi=>O i om⟩⟩,V.kept⟩
open Classical in
theorem d53(V:Per p h)(t:Tn)(T:Al p a1 t.nH a2 t.nW a3 t.m t)(hn:t.nH<=2^20/\t.nW<=2^20/\t.m<=2^20):
 Ac prog md 53 #[.agg #[.slice a1 t.nH c1,.slice a2 t.nW c2,.slice a3 t.m c3]] h fun v O=>v=.bool (decide (Vd t))/\Av h O:=
 (cf53 c1 c2 c3 t T hn h V).mono fun _ _⟨⟨_,M,e⟩,H⟩=>⟨M.trans (congrArg Value.bool (by rw[Bool.eq_iff_iff,decide_eq_true_iff];exact e)),H⟩
open Classical in
theorem cf33(t:Tn)(T:Al p a1 t.nH a2 t.nW a3 t.m t)(hn:t.nH<=2^20/\t.nW<=2^20/\t.m<=2^20):Dc prog md p 33 #[.agg #[.slice a1 t.nH c1,.slice a2 t.nW c2,.slice a3 t.m c3]] (.J (Et t)):=by
 refine xkq func33 fun K b1=>?_;refine cgq (fun _ _ M=>d53 M t T hn) ?_;refine cq (fun H=>?_) (fun H=>?_)
 ·refine K.q ?_;rw[Fq fun z=>by rcases H with c|c;exact absurd z.1 om;exact c z.2];rfl
 ·refine K.q ?_;rw[Cw om (Classical.not_not.1 fun c=>H (.inr c))];rfl
theorem cf20(A:TA)(t:Twn)(T:TwP p A t)(hn:t.fit (2^20)):Dc prog md p 20 #[twV A t] (.J (Cj t)):=by
 obtain⟨⟨n1,n2⟩,⟨M,O,n5⟩,V⟩:=hn;refine xkq func20 fun K b1=>?_;refine ax ?_;refine xpx rfl rfl (cf32 t.s T.s ⟨om,om⟩) ?_;refine ax ?_;refine xqz rfl rfl rfl sdt (fun _=>cf33 t.b T.b ⟨om,om,om⟩) ?_;refine ax ?_;refine xqz rfl rfl rfl sdt (fun _=>cf34 T.d om) ?_;refine cq (fun H=>?_) (fun H=>?_)
 ·refine K.q ?_;rw[Cj,if_neg (fun z=>by simp[z]at H)];rfl
 ·refine K.q ?_;rw[Cj,if_pos (by simp at H;exact⟨H.1.1,H.1.2,H.2⟩)];rfl
open Go.X.Flow (Cl Wys wz ics Al Tn)
open Go.X.Cist (Day Bp dz dcs D9 Aj)
theorem cf43{size start:Int}{a:Option Addr}{c:Nat}(D:Bp p a n ds)(hn:n<=2^20):Nc prog md p 43 #[.agg #[.J size,.J start,.slice a n c]] (fun v Y=>(∃a' O,v=.agg #[.J size,.J start,.slice a' n O]/\Aa 102 3 (.slice a' n O) (dcs ds) Y)):=by
 have hl:=D.len;refine xkq func43 fun K b1=>?_;refine lq fun b2=>?_;refine lq fun b3=>?_;refine ax ?_;refine xxx rfl fun v1 V M=>?_;have M:Aa 102 3 v1 [] V:=M;refine ax ?_;refine xiw rfl rfl M D (D9 ds) (by simp;omega) fun v2 Y2 H=>?_;rw[List.nil_append]at H;obtain⟨a2,c2,rfl,-⟩:=H.val;rw[Aj,hl]at H⊢;refine ax ?_;exact K.e rfl (xpq rfl .nil) fun _ H_=>⟨Y2,⟨a2,c2,rfl,H⟩,Eu H_⟩
theorem cf41{a:Option Addr}(s:Shf)(S:Cy p a b s)(hn:s.Ah.length<=2^20/\s.Af.length<=2^20):Nc prog md p 41 #[.agg #[.slice a s.Ah.length ca,.slice b s.Af.length cb,.J s.deep,.J s.Cp,.J s.rest]] (fun v Y=>(∃a' a3 b' a4 Y1 Y2,v=.agg #[.slice a' s.Ah.length a3,.slice b' s.Af.length a4,.J s.deep,.J s.Cp,.J s.rest]/\Aa 96 4 (.slice a' s.Ah.length a3) (rcs s.Ah) Y1/\Aa 3 1 (.slice b' s.Af.length a4) (ics s.Af) Y2/\Y=Y1++Y2)):=by
 refine xkq func41 fun K b1=>?_;refine lq fun b2=>?_;refine lq fun b3=>?_;refine ax ?_
 refine xzh 9 [3,7] [1,2,5,6,8] [0,3,4,7] (fun i=>match i with|3=>[0]|7=>[4]|_=>[]) (fun i=>match i with|2=>[1]|3=>[0,2]|6=>[5]|7=>[4,6]|_=>[])
  (fun i _ _ v x=>match i with
   |0=>Aa 96 4 v [] x
   |1=>v=w_ b1 0/\x=[]
   |2=>v=.slice a s.Ah.length ca/\x=[]
   |3=>Aa 96 4 v (rcs s.Ah) x
   |4=>Aa 3 1 v [] x
   |5=>v=w_ b1 1/\x=[]
   |6=>v=.slice b s.Af.length cb/\x=[]
   |7=>Aa 3 1 v (ics s.Af) x
   |8=>v=w_ b3 0/\x=[]
   |_=>True) (fun i hi val piece H=>?_) (fun val piece j hj v x q=>?_) (fun val piece H=>?_)
 ·match i,hi with
  |0,_=>
   refine xvz rfl rfl fun v Y o=>?_;have o:Aa 96 4 v [] Y:=o;exact xuq ⟨⟨_,rfl⟩,fun v' e=>by
    have V:=xmq e;subst V;show Aa _ _ _ _ ([Y]++[]).flatten;have O:([Y]++([]:List Pcs)).flatten=Y:=by simp
    rw[O];exact o⟩
  |1,_=>
   exact det
  |2,_=>
   refine de_y rfl rfl (y_ld (by show some ([],val 1)=_;rw[(H 1 rfl).1]) sdt (b:=b1) (off:=0) (cs:=#[.slice a s.Ah.length ca,.slice b s.Af.length cb,.J s.deep,.J s.Cp,.J s.rest]) (T:=25) (z:=(0,0))) ?_;exact det
  |3,_=>
   have M:Aa 96 4 (val 0) [] (piece 0):=H 0 rfl;show DE _ _ _ _ _ _ _ _ _ [piece 0];refine xgl rfl rfl (by show some ([],val 2)=_;rw[(H 2 rfl).1]) M S.r (xn3 _) (by simp;omega) fun v Y o=>?_;rw[List.nil_append]at o;exact xuq ⟨⟨_,rfl⟩,fun v' e=>by
    have V:=xmq e;subst V;show Aa _ _ _ _ ([Y]++[]).flatten;have O:([Y]++([]:List Pcs)).flatten=Y:=by simp
    rw[O];exact o⟩
  |4,_=>
   refine xvz rfl rfl fun v Y o=>?_;have o:Aa 3 1 v [] Y:=o;exact xuq ⟨⟨_,rfl⟩,fun v' e=>by
    have V:=xmq e;subst V;show Aa _ _ _ _ ([Y]++[]).flatten;have O:([Y]++([]:List Pcs)).flatten=Y:=by simp
    rw[O];exact o⟩
  |5,_=>
   exact det
  |6,_=>
   refine de_y rfl rfl (y_ld (by show some ([],val 5)=_;rw[(H 5 rfl).1]) sdt (b:=b1) (off:=1) (cs:=#[.slice a s.Ah.length ca,.slice b s.Af.length cb,.J s.deep,.J s.Cp,.J s.rest]) (T:=25) (z:=(0,0))) ?_;exact det
  |7,_=>
   have M:Aa 3 1 (val 4) [] (piece 4):=H 4 rfl;show DE _ _ _ _ _ _ _ _ _ [piece 4];refine xgl rfl rfl (by show some ([],val 6)=_;rw[(H 6 rfl).1]) M S.f (xev _) (by simp;omega) fun v Y o=>?_;rw[List.nil_append]at o;exact xuq ⟨⟨_,rfl⟩,fun v' e=>by
    have V:=xmq e;subst V;show Aa _ _ _ _ ([Y]++[]).flatten;have O:([Y]++([]:List Pcs)).flatten=Y:=by simp
    rw[O];exact o⟩
  |8,_=>
   exact det
 ·simp only[List.mem_cons,List.not_mem_nil,or_false]at hj;rcases hj with rfl|rfl|rfl|rfl|rfl<;>exact q.2
 have M:Aa 96 4 (val 3) (rcs s.Ah) (piece 3):=H 3 d_;have o2:Aa 3 1 (val 7) (ics s.Af) (piece 7):=H 7 d_;refine xdk (l':=[(2,none,w_ b2 0),(3,none,w_ b3 0),(8,none,val 3),(12,none,val 7),(13,none,w_ b3 0)]) ?_ ⟨rfl,rfl,rfl,rfl,by show some (none,val 8)=_;rw[(H 8 d_).1],trivial⟩;clear H;generalize val 3=v1 at*;generalize val 7=v2 at*;show RO _ _ _ _ _ _ [piece 3,piece 7,[(b3,.cells #[.slice a s.Ah.length ca,.slice b s.Af.length cb,.J s.deep,.J s.Cp,.J s.rest] 25 (0,0))],[(b2,.cells #[.slice none 0 0,.slice none 0 0,.J 0,.J 0,.J 0] 25 (0,0))],[(b1,.cells #[.slice a s.Ah.length ca,.slice b s.Af.length cb,.J s.deep,.J s.Cp,.J s.rest] 25 (0,0))]];generalize piece 3=Y1 at*;generalize piece 7=Y2 at*;obtain⟨a1,c1,rfl,-⟩:=M.val;obtain⟨a2,c2,rfl,-⟩:=o2.val;rw[xvv]at M;rw[xrq]at o2;rw[xvv,xrq];refine ax ?_;exact K.e rfl (xpq rfl .nil) fun _ H_=>⟨_,⟨a1,c1,a2,c2,Y1,Y2,rfl,M,o2,rfl⟩,ye0 H_⟩
theorem cf42(t:Tn)(S:Al p a1 t.nH a2 t.nW a3 t.m t)(hn:t.nH<=2^20/\t.nW<=2^20/\t.m<=2^20):Nc prog md p 42 #[.agg #[.slice a1 t.nH c1,.slice a2 t.nW c2,.slice a3 t.m c3]] (fun v Y=>(∃x1 y1 x2 y2 x3 y3 Y1 Y2 Y3,v=.agg #[.slice x1 t.nH y1,.slice x2 t.nW y2,.slice x3 t.m y3]/\Aa 3 1 (.slice x1 t.nH y1) (ics t.hs) Y1/\Aa 3 1 (.slice x2 t.nW y2) (ics t.ws) Y2/\Aa 98 2 (.slice x3 t.m y3) (Flow.wcs t.wy) Y3/\Y=(Y1++Y2)++Y3)):=by
 refine xkq func42 fun K b1=>?_;refine lq fun b2=>?_;refine ax ?_
 refine xzh 12 [3,7,11] [1,2,5,6,9,10] [0,3,4,7,8,11] (fun i=>match i with|3=>[0]|7=>[4]|11=>[8]|_=>[]) (fun i=>match i with|2=>[1]|3=>[0,2]|6=>[5]|7=>[4,6]|10=>[9]|11=>[8,10]|_=>[])
  (fun i _ _ v x=>match i with
   |0=>Aa 3 1 v [] x
   |1=>v=w_ b1 0/\x=[]
   |2=>v=.slice a1 t.nH c1/\x=[]
   |3=>Aa 3 1 v (ics t.hs) x
   |4=>Aa 3 1 v [] x
   |5=>v=w_ b1 1/\x=[]
   |6=>v=.slice a2 t.nW c2/\x=[]
   |7=>Aa 3 1 v (ics t.ws) x
   |8=>Aa 98 2 v [] x
   |9=>v=w_ b1 2/\x=[]
   |10=>v=.slice a3 t.m c3/\x=[]
   |11=>Aa 98 2 v (Flow.wcs t.wy) x
   |_=>True) (fun i hi val piece H=>?_) (fun val piece j hj v x q=>?_) (fun val piece H=>?_)
 ·match i,hi with
  |0,_=>
    refine xvz rfl rfl fun v Y o=>?_;have o:Aa 3 1 v [] Y:=o;exact xuq ⟨⟨_,rfl⟩,fun v' e=>by
     have O:=xmq e;subst O;show Aa _ _ _ _ ([Y]++[]).flatten;have M:([Y]++([]:List Pcs)).flatten=Y:=by simp
     rw[M];exact o⟩
  |1,_=>
    exact det
  |2,_=>
    refine de_y rfl rfl (y_ld (by show some ([],val 1)=_;rw[(H 1 rfl).1]) sdt (b:=b1) (off:=0) (cs:=#[.slice a1 t.nH c1,.slice a2 t.nW c2,.slice a3 t.m c3]) (T:=28) (z:=(0,0))) ?_;exact det
  |3,_=>
    have V:Aa 3 1 (val 0) [] (piece 0):=H 0 rfl;show DE _ _ _ _ _ _ _ _ _ [piece 0];refine xgl rfl rfl (by show some ([],val 2)=_;rw[(H 2 rfl).1]) V S.h (xev _) (by simp;omega) fun v Y o=>?_;rw[List.nil_append]at o;exact xuq ⟨⟨_,rfl⟩,fun v' e=>by
     have O:=xmq e;subst O;show Aa _ _ _ _ ([Y]++[]).flatten;have M:([Y]++([]:List Pcs)).flatten=Y:=by simp
     rw[M];exact o⟩
  |4,_=>
    refine xvz rfl rfl fun v Y o=>?_;have o:Aa 3 1 v [] Y:=o;exact xuq ⟨⟨_,rfl⟩,fun v' e=>by
     have O:=xmq e;subst O;show Aa _ _ _ _ ([Y]++[]).flatten;have M:([Y]++([]:List Pcs)).flatten=Y:=by simp
     rw[M];exact o⟩
  |5,_=>
    exact det
  |6,_=>
    refine de_y rfl rfl (y_ld (by show some ([],val 5)=_;rw[(H 5 rfl).1]) sdt (b:=b1) (off:=1) (cs:=#[.slice a1 t.nH c1,.slice a2 t.nW c2,.slice a3 t.m c3]) (T:=28) (z:=(0,0))) ?_;exact det
  |7,_=>
    have V:Aa 3 1 (val 4) [] (piece 4):=H 4 rfl;show DE _ _ _ _ _ _ _ _ _ [piece 4];refine xgl rfl rfl (by show some ([],val 6)=_;rw[(H 6 rfl).1]) V S.w (xev _) (by simp;omega) fun v Y o=>?_;rw[List.nil_append]at o;exact xuq ⟨⟨_,rfl⟩,fun v' e=>by
     have O:=xmq e;subst O;show Aa _ _ _ _ ([Y]++[]).flatten;have M:([Y]++([]:List Pcs)).flatten=Y:=by simp
     rw[M];exact o⟩
  |8,_=>
    refine xvz rfl rfl fun v Y o=>?_;have o:Aa 98 2 v [] Y:=o;exact xuq ⟨⟨_,rfl⟩,fun v' e=>by
     have O:=xmq e;subst O;show Aa _ _ _ _ ([Y]++[]).flatten;have M:([Y]++([]:List Pcs)).flatten=Y:=by simp
     rw[M];exact o⟩
  |9,_=>
    exact det
  |10,_=>
    refine de_y rfl rfl (y_ld (by show some ([],val 9)=_;rw[(H 9 rfl).1]) sdt (b:=b1) (off:=2) (cs:=#[.slice a1 t.nH c1,.slice a2 t.nW c2,.slice a3 t.m c3]) (T:=28) (z:=(0,0))) ?_;exact det
  |11,_=>
    have V:Aa 98 2 (val 8) [] (piece 8):=H 8 rfl;show DE _ _ _ _ _ _ _ _ _ [piece 8];refine xgl rfl rfl (by show some ([],val 10)=_;rw[(H 10 rfl).1]) V S.y (xun _) (by simp;omega) fun v Y o=>?_;rw[List.nil_append]at o;exact xuq ⟨⟨_,rfl⟩,fun v' e=>by
     have O:=xmq e;subst O;show Aa _ _ _ _ ([Y]++[]).flatten;have M:([Y]++([]:List Pcs)).flatten=Y:=by simp
     rw[M];exact o⟩
 ·simp only[List.mem_cons,List.not_mem_nil,or_false]at hj;rcases hj with rfl|rfl|rfl|rfl|rfl|rfl<;>exact q.2
 have V:Aa 3 1 (val 3) (ics t.hs) (piece 3):=H 3 d_;have o2:Aa 3 1 (val 7) (ics t.ws) (piece 7):=H 7 d_;have o3:Aa 98 2 (val 11) (Flow.wcs t.wy) (piece 11):=H 11 d_;refine xdk (l':=[(2,none,w_ b2 0),(6,none,val 3),(10,none,val 7),(14,none,val 11)]) ?_ ⟨rfl,rfl,rfl,rfl,trivial⟩;clear H;generalize val 3=v1 at*;generalize val 7=v2 at*;generalize val 11=v3 at*;show RO _ _ _ _ _ _ [piece 3,piece 7,piece 11,[(b2,.cells #[.slice none 0 0,.slice none 0 0,.slice none 0 0] 28 (0,0))],[(b1,.cells #[.slice a1 t.nH c1,.slice a2 t.nW c2,.slice a3 t.m c3] 28 (0,0))]];generalize piece 3=Y1 at*;generalize piece 7=Y2 at*;generalize piece 11=Y3 at*;obtain⟨x1,y1,rfl,-⟩:=V.val;obtain⟨x2,y2,rfl,-⟩:=o2.val;obtain⟨x3,y3,rfl,-⟩:=o3.val;rw[xrq]at V o2;rw[Flow.Ar]at o3;rw[xrq,xrq,Flow.Ar];refine ax ?_;exact K.e rfl (xpq rfl .nil) fun _ H_=>⟨_,⟨x1,y1,x2,y2,x3,y3,Y1,Y2,Y3,rfl,V,o2,o3,rfl⟩,(xn8 H_).new⟩
theorem cf24(A:TA)(t:Twn)(T:TwP p A t)(hn:t.fit (2^20)):Lc prog md p 24 #[twV A t] (fun v p'=>∃A',v=twV A' t/\TwP p' A' t):=by
 obtain⟨⟨n1,n2⟩,⟨n3,n4,n5⟩,n6⟩:=hn;refine xkq func24 fun K b1=>?_;refine lq fun b2=>?_;refine drq [2,5] [0,1,3,4,6,7,2,5] ?_;refine xuk rfl rfl rfl (cf41 t.s T.s ⟨n1,n2⟩) ?_;rintro _ _ ⟨a1,c1,a2,c2,Y1,Y2,rfl,o1,o2,rfl⟩;refine ex ?_;refine xuk rfl rfl rfl (cf42 t.b T.b ⟨n3,n4,n5⟩) ?_;rintro _ _ ⟨a3,c3,a4,c4,a5,c5,Y3,Y4,Y5,rfl,o3,o4,o5,rfl⟩;refine xa ?_;refine coq (cf43 T.d n6) ?_;rintro _ Y6 ⟨a6,c6,rfl,o6⟩;refine ax ?_;refine xrz Y1 Y2 ?_;refine xrz (Y3++Y4) Y5 ?_;refine xrz Y3 Y4 ?_;refine xiq o1 (m:=t.s.Ah.length) (xvv _) d_ fun p1 _ _ g1 e1 a9 S1=>?_;cases e1;refine xiq o2 (m:=t.s.Af.length) (xrq _) d_ fun p2 _ _ g2 e2 b3 S2=>?_;cases e2;refine xiq o3 (m:=t.b.nH) (xrq _) d_ fun p3 _ _ g3 e3 V S3=>?_;cases e3;refine xiq o4 (m:=t.b.nW) (xrq _) d_ fun p4 _ _ O e4 a8 S4=>?_;cases e4;refine xiq o5 (m:=t.b.m) (Flow.Ar _) d_ fun p5 _ _ M e5 a7 S5=>?_;cases e5;refine xiq o6 (m:=t.y.days.length) (Aj _) d_ fun p6 _ _ H e6 b0 S6=>?_;cases e6
 exact K.e rfl (xpq rfl .nil) fun _ H_=>(xqq H_ (((((g1.trans g2).trans g3).trans O).trans M).trans H) ⟨⟨(a1,c1),(a2,c2),(a3,c3),(a4,c4),(a5,c5),(a6,c6)⟩,rfl,
  ⟨⟨Sl.mono ((((g2.trans g3).trans O).trans M).trans H).le S1,Sl.mono (((g3.trans O).trans M).trans H).le S2⟩,⟨Sl.mono ((O.trans M).trans H).le S3,Sl.mono (M.trans H).le S4,Sl.mono H.le S5⟩,S6,⟨a9,b3⟩,⟨V,a8,a7⟩,b0⟩⟩)
open Go.X.Flow (Cl Wys wz ics Al Tn Et)
theorem xa7{x y A B:Int}(M:0<=x/\x<=A)(H:0<=y/\y<=B):0<=x*y/\x*y<=A*B:=
 ⟨Int.mul_nonneg M.1 H.1,Int.mul_le_mul M.2 H.2 H.1 om⟩
theorem cf72{a:Option Addr}(s:Shf)(hn:s.Ah.length<=9223372036854775807/\s.Af.length<=9223372036854775807):Dc prog md p 72 #[.agg #[.slice a s.Ah.length ca,.slice b s.Af.length cb,.J s.deep,.J s.Cp,.J s.rest],.slice none 0 0] (.bool (decide (40<s.Ah.length\/40<s.Af.length))):=by
 refine xkq func72 fun K b1=>?_;refine K.q ?_;exact congrArg Value.bool (by rw[Bool.eq_iff_iff];simp;omega)
theorem cf44{a:Option Addr}(s:Shf)(S:Cy p a b s)(hn:s.Ah.length<=9223372036854775807/\s.Af.length<=9223372036854775807):Dc prog md p 44 #[.agg #[.slice a s.Ah.length ca,.slice b s.Af.length cb,.J s.deep,.J s.Cp,.J s.rest]] (.bool (decide ((40<s.Ah.length\/40<s.Af.length)\/(8<s.Af.length/\Hx s=0)))):=by
 refine xkq func44 fun K b1=>?_;refine cdq (cf72 s hn) ?_;refine ax ?_;refine xqz rfl rfl rfl sdu (fun H=>cf32 s S (by simp at H;omega)) ?_;refine K.q ?_;exact congrArg Value.bool (by rw[Bool.eq_iff_iff];simp;omega)
theorem cf73(t:Tn)(hn:t.nH<=9223372036854775807/\t.nW<=9223372036854775807/\t.m<=9223372036854775807):Dc prog md p 73 #[.agg #[.slice a1 t.nH c1,.slice a2 t.nW c2,.slice a3 t.m c3]] (.bool (decide ((40<t.nH\/40<t.nW)\/40<t.m))):=by
 refine xkq func73 fun K b1=>?_;refine K.q ?_;exact congrArg Value.bool (by rw[Bool.eq_iff_iff];simp;omega)
theorem cf46{size start:Int}{a:Option Addr}{c:Nat}(D:Bp p a n ds)(hn:n<=9223372036854775807):Kc prog md p 46 #[.agg #[.J size,.J start,.slice a n c]] (fun v=>(∃q:Bool,v=.bool q/\(q=false->n<=40))):=by
 have hl:=D.len;have D2:Sl p a n 3 (Cist.dcs ds):=D;refine xkq func46 fun K b1=>?_;refine cq (fun cc=>?_) (fun cc=>?_)
 ·refine K.q ?_;exact⟨true,rfl,s_⟩
 refine ax ?_;refine xpx rfl rfl (cf34 D om) ?_;refine cq (fun M=>?_) (fun M=>?_)
 ·refine K.q ?_;exact⟨false,rfl,fun _=>om⟩
 have Y:Cist.Ok size start ds:=Cist.B5.1 (by simpa using M);refine ax ?_;refine xhq (fun m_ l O V=>∃(j:Nat)(x:Int),m_=n-j/\l=[(1,none,w_ b1 0),(3,none,.J x),(4,none,.J ((j:Nat):Int))]/\O=p/\V=[[(b1,.cells #[.J size,.J start,.slice a n c] 31 (0,0))]]/\j<=n/\0<=x/\x<=60) ⟨0,1,rfl,rfl,rfl,rfl,Nat.zero_le _,d_,d_⟩ sb ?_;rintro _ _ p _ IH ⟨j,x,rfl,rfl,rfl,rfl,hj,h0,h1⟩;refine cq (fun ce=>?_) (fun ce=>?_)
 ·have H:j<n:=om;have hd:=Y.2.2.2.2.2 j om;unfold Cist.Dq at hd;refine drq [] R17 ?_;refine de_y rfl rfl (xdj rfl sdt (Cist.Bp.at D H rfl) (u:=.J (ds.getD j dz).hi)) ?_;refine ex ?_;refine de_y rfl rfl (xdj rfl sdt (Cist.Bp.at D H (j:=0) rfl) (u:=.J (ds.getD j dz).lo)) ?_;refine xa ?_;have hm:=xa7 (x:=x) (y:=(ds.getD j dz).hi-(ds.getD j dz).lo+1) (A:=60) (B:=21) ⟨h0,h1⟩ ⟨om,om⟩;refine ro_y rfl (y_pv rfl ⟨wrZ om,trivial⟩) ?_;refine cq (fun cf=>?_) (fun cf=>?_)
  ·refine K.q ?_;exact⟨true,rfl,s_⟩
  ·exact bkq (IH _ _ _ om ⟨j+1,_,rfl,rfl,rfl,rfl,om,hm.1,om⟩)
 refine K.q ?_;exact⟨false,rfl,fun _=>om⟩
theorem cf45(t:Tn)(T:Al p a1 t.nH a2 t.nW a3 t.m t)(hn:t.nH<=9223372036854775807/\t.nW<=9223372036854775807/\t.m<=9223372036854775807):Kc prog md p 45 #[.agg #[.slice a1 t.nH c1,.slice a2 t.nW c2,.slice a3 t.m c3]] (fun v=>(∃q:Bool,v=.bool q/\(q=false->t.nH<=40/\t.nW<=40/\t.m<=40))):=by
 have O:=T.h;have Tw:=T.w;have Ty:Sl p a3 t.m 2 (Flow.wcs t.wy):=T.y;refine xkq func45 fun K b1=>?_;refine cdq (cf73 t hn) ?_;refine cq (fun cc=>?_) (fun cc=>?_)
 ·refine K.q ?_;exact⟨true,rfl,s_⟩
 refine ax ?_;refine xpx rfl rfl (cf33 t T om) ?_;refine cq (fun cd=>?_) (fun cd=>?_)
 ·refine K.q ?_;exact⟨false,rfl,fun _=>om⟩
 obtain⟨hm,V⟩:=Flow.M7 (t:=t) (by simpa using cd);refine ax ?_;refine xhq (fun m_ l p_ L_=>∃(j:Nat)(x:Int),m_=t.m-j/\l=[(1,none,w_ b1 0),(3,none,.J x),(4,none,.J ((j:Nat):Int))]/\p_=p/\L_=[[(b1,.cells #[.slice a1 t.nH c1,.slice a2 t.nW c2,.slice a3 t.m c3] 28 (0,0))]]/\j<=t.m/\0<=x/\x<=2000) ⟨0,1,rfl,rfl,rfl,rfl,Nat.zero_le _,d_,d_⟩ sb ?_;rintro _ _ p _ IH ⟨j,x,rfl,rfl,rfl,rfl,hj,h0,h1⟩;refine cq (fun ce=>?_) (fun ce=>?_)
 ·have H:j<t.m:=om;have hy:=V.y j H;have y1:=hy.1;have y2:=hy.2.1;have bh:=V.h (t.wy.getD j wz).1.toNat om;have bw:=V.w (t.wy.getD j wz).2.toNat om;refine drq [] R23 ?_;refine de_y rfl rfl (xdj rfl sdt (T.y.at H (j:=0) rfl) (u:=.J (t.wy.getD j wz).1)) ?_;refine ex ?_;refine de_y rfl rfl (xfv rfl rfl sdt sdt ⟨⟨y1.1,om⟩,Sl.ne O om⟩) ?_;refine de_y rfl rfl (xdj rfl sdt (Ax.get O om) (u:=.J (t.hs.getD (t.wy.getD j wz).1.toNat 0))) ?_;refine ex ?_;refine de_y rfl rfl (xdj rfl sdt (T.y.at H (j:=1) rfl) (u:=.J (t.wy.getD j wz).2)) ?_;refine ex ?_;refine de_y rfl rfl (xfv rfl rfl sdt sdt ⟨⟨y2.1,om⟩,Sl.ne Tw om⟩) ?_;refine de_y rfl rfl (xdj rfl sdt (Ax.get Tw om) (u:=.J (t.ws.getD (t.wy.getD j wz).2.toNat 0))) ?_;refine xa ?_;have M:=xa7 (x:=x) (y:=min (t.hs.getD (t.wy.getD j wz).1.toNat 0) (t.ws.getD (t.wy.getD j wz).2.toNat 0)+1) (A:=2000) (B:=10) ⟨h0,h1⟩ ⟨om,om⟩;refine ro_y rfl (y_pv rfl ⟨wrZ om,trivial⟩) ?_;refine cq (fun cf=>?_) (fun cf=>?_)
  ·refine K.q ?_;exact⟨true,rfl,s_⟩
  ·exact bkq (IH _ _ _ om ⟨j+1,_,rfl,rfl,rfl,rfl,om,M.1,om⟩)
 refine K.q ?_;exact⟨false,rfl,fun _=>om⟩
theorem cf30(A:TA)(t:Twn)(T:TwP p A t)(hn:t.fit 9223372036854775807):Kc prog md p 30 #[twV A t] (fun v=>(∃q:Bool,v=.bool q/\(q=false->t.fit 40))):=by
 intro h hp;obtain⟨⟨n1,n2⟩,⟨n3,n4,n5⟩,n6⟩:=hn;refine xtq hp func30 fun K b1=>?_;refine cdq (cf44 t.s T.s ⟨n1,n2⟩) ?_;refine ax ?_;refine xdr rfl rfl rfl sdu (fun h pe=>(cf45 t.b T.b ⟨n3,n4,n5⟩ h pe).mono fun _ _ x=>⟨x.1,x.2⟩) fun q1 h1=>?_;refine ax ?_;refine xdr rfl rfl rfl sdu (fun h pe=>(cf46 T.d n6 h pe).mono fun _ _ x=>⟨x.1,x.2⟩) fun q2 h2=>?_;refine cq (fun cc=>?_) (fun cc=>?_)
 ·refine K.q ?_;exact⟨true,rfl,fun z=>by cases z⟩
 have M:t.fit 40:=by
  simp at cc;obtain⟨⟨⟨⟨r1,r2⟩,r3⟩,rfl⟩,rfl⟩:=cc;have r4:t.s.Af.length<=8\/ ¬Hx t.s=0:=by
   rcases Nat.lt_or_ge 8 t.s.Af.length with z|z
   ·exact .inr (r3 z)
   ·exact .inl z
  exact⟨⟨r1,r2⟩,h1 (by simp;exact⟨⟨r1,r2⟩,r4⟩) rfl,h2 (by simp;exact⟨⟨r1,r2⟩,r4⟩) rfl⟩
 have a2:=M.up (n':=2^20) om;refine cdq (cf20 A t T a2) ?_;refine cq (fun cd=>?_) (fun cd=>?_)
 ·refine K.q ?_;exact⟨false,rfl,fun _=>M⟩
 refine ax ?_;have hv:Cj t=0:=by simpa using cd
 obtain⟨_,hB,hC⟩:=xcw.1 hv;obtain⟨hm,V⟩:=Flow.M7 hB;have Y:Cist.Ok t.y.size t.y.start t.y.days:=Cist.B5.1 hC;have Th:=T.b.h;have Tw:=T.b.w;have Ty:Sl p A.y.1 t.b.m 2 (Flow.wcs t.b.wy):=T.b.y;have Td:Sl p A.d.1 t.y.days.length 3 (Cist.dcs t.y.days):=T.d;refine xhq (fun m_ l p_ L_=>∃(j:Nat)(x:Int),m_=t.b.m-j/\l=[(1,none,w_ b1 0),(3,none,.J x),(4,none,.J ((j:Nat):Int))]/\p_=p/\L_=[[(b1,.cells (tcs A t).toArray 33 (0,0))]]/\j<=t.b.m/\0<=x/\x<=((10^j:Nat):Int)) ⟨0,1,rfl,rfl,rfl,rfl,Nat.zero_le _,d_,d_⟩ sb ?_;rintro _ _ p _ IH ⟨j,x,rfl,rfl,rfl,rfl,hj,h0,h1⟩;refine cq (fun ce=>?_) (fun ce=>?_)
 ·have a3:j<t.b.m:=om;have hy:=V.y j a3;have y1:=hy.1;have y2:=hy.2.1;have bh:=V.h (t.b.wy.getD j wz).1.toNat om;have bw:=V.w (t.b.wy.getD j wz).2.toNat om;refine ax ?_;refine ro_y rfl (xmj rfl (T.b.y.all a3)) ?_;refine lq fun b5=>?_;refine drq [] R17 ?_;refine de_y rfl rfl (xfv rfl rfl sdt sdt ⟨⟨y1.1,om⟩,Sl.ne Th om⟩) ?_;refine de_y rfl rfl (xdj rfl sdt (Ax.get Th om) (u:=.J (t.b.hs.getD (t.b.wy.getD j wz).1.toNat 0))) ?_;refine ex ?_;refine de_y rfl rfl (xfv rfl rfl sdt sdt ⟨⟨y2.1,om⟩,Sl.ne Tw om⟩) ?_;refine de_y rfl rfl (xdj rfl sdt (Ax.get Tw om) (u:=.J (t.b.ws.getD (t.b.wy.getD j wz).2.toNat 0))) ?_;refine xa ?_;have H:=xa7 (x:=x) (y:=min (t.b.hs.getD (t.b.wy.getD j wz).1.toNat 0) (t.b.ws.getD (t.b.wy.getD j wz).2.toNat 0)+1) (A:=((10^j:Nat):Int)) (B:=10) ⟨h0,h1⟩ ⟨om,om⟩;have a5:10^j<=10^12:=Nat.pow_le_pow_right d_ om;have a6:(10:Nat)^12=1000000000000:=by decide
  have O:((10^(j+1):Nat):Int)=((10^j:Nat):Int)*10:=by rw[Nat.pow_succ];rfl
  refine ro_y rfl (y_pv rfl ⟨wrZ om,trivial⟩) ?_;exact bkq (IH _ _ _ om ⟨j+1,_,rfl,rfl,rfl,rfl,om,H.1,by rw[O];exact H.2⟩)
 clear IH h1;refine ax ?_;have a7:=Y.2.2.2.2.1;refine xhq (fun m_ l p_ L_=>∃(j:Nat)(z:Int),m_=t.y.days.length-j/\l=[(1,none,w_ b1 0),(3,none,.J x),(6,none,.J z),(7,none,.J ((j:Nat):Int))]/\p_=p/\L_=[[(b1,.cells (tcs A t).toArray 33 (0,0))]]/\j<=t.y.days.length/\0<=z/\z<=((21^j:Nat):Int)) ⟨0,1,rfl,rfl,rfl,rfl,Nat.zero_le _,d_,d_⟩ sb ?_;rintro _ _ p _ IH ⟨i,z,rfl,rfl,rfl,rfl,hi,z0,z1⟩;refine cq (fun cf=>?_) (fun cf=>?_)
 ·have a4:i<t.y.days.length:=om;have hd:=Y.2.2.2.2.2 i om;unfold Cist.Dq at hd;refine drq [] R19 ?_;refine de_y rfl rfl (xdj rfl sdt (Cist.Bp.at T.d a4 (j:=1) rfl) (u:=.J (t.y.days.getD i dz).hi)) ?_;refine ex ?_;refine de_y rfl rfl (xdj rfl sdt (Cist.Bp.at T.d a4 (j:=0) rfl) (u:=.J (t.y.days.getD i dz).lo)) ?_;refine xa ?_;have H:=xa7 (x:=z) (y:=(t.y.days.getD i dz).hi-(t.y.days.getD i dz).lo+1) (A:=((21^i:Nat):Int)) (B:=21) ⟨z0,z1⟩ ⟨om,om⟩;have a5:21^i<=21^8:=Nat.pow_le_pow_right d_ om;have a6:(21:Nat)^8=37822859361:=by decide
  have O:((21^(i+1):Nat):Int)=((21^i:Nat):Int)*21:=by rw[Nat.pow_succ];rfl
  refine ro_y rfl (y_pv rfl ⟨wrZ om,trivial⟩) ?_;exact bkq (IH _ _ _ om ⟨i+1,_,rfl,rfl,rfl,rfl,om,H.1,by rw[O];exact H.2⟩)
 refine K.q ?_;exact⟨_,rfl,fun _=>M⟩
open Go.X.Flow (ics)
variable{a':Option Addr}
theorem cf13{a:Option Addr}{m:Nat}(xs M:List Str)(S:At p a n xs)(V:At p b m M)(hn:n<=2^30/\m<=2^30):Dc prog md p 13 #[.slice a n ca,.slice b m cb] (.bool (decide (xs=M))):=by
 have hl:=S.len;have a2:=V.len;have S1:Sl p a n 1 (scs xs):=S;have S2:Sl p b m 1 (scs M):=V;refine xlq func13 fun K=>?_;refine cq (fun cc=>?_) (fun cc=>?_)
 ·refine K.q ?_;rw[decide_eq_false (fun e=>by rw[e]at hl;omega)];rfl
 obtain rfl:n=m:=om;refine ax ?_;refine xnq (fun m_ l=>∃j:Nat,m_=n-j/\l=[(0,none,.slice a n ca),(1,none,.slice b n cb),(5,none,.J ((j:Nat):Int))]/\j<=n/\ ∀i,i<j->xs.getD i []=M.getD i []) ⟨0,rfl,rfl,Nat.zero_le _,om⟩ sb ?_;rintro _ _ IH ⟨j,rfl,rfl,hj,hq⟩;refine cq (fun cd=>?_) (fun cd=>?_)
 ·have H:j<n:=om;refine drq [] R8 ?_;refine de_y rfl rfl (y_lp rfl (At.get S H)) ?_;refine ex ?_;refine de_y rfl rfl (y_lp rfl (At.get V H)) ?_;refine ex ?_;refine cq (fun O=>?_) (fun O=>?_)
  ·refine K.q ?_;rw[decide_eq_false (fun e=>O (by rw[e]))];rfl
  ·exact bkq (IH _ om ⟨j+1,rfl,rfl,om,fun i hi=>by
    rcases Nat.lt_or_ge i j with z|z
    ·exact hq i z
    ·obtain rfl:i=j:=om;exact Classical.not_not.1 O⟩)
 refine K.q ?_;rw[decide_eq_true (xc7 (d:=[]) om fun i hi=>hq i om)];rfl
theorem cf23{a:Option Addr}{m:Nat}(xs H:List Int)(S:Ax p a n xs)(O:Ax p b m H)(hn:n<=2^30/\m<=2^30):Dc prog md p 23 #[.slice a n ca,.slice b m cb] (.bool (decide (xs=H))):=by
 have hl:=S.len;have a2:=O.len;have S1:Sl p a n 1 (ics xs):=S;have S2:Sl p b m 1 (ics H):=O;refine xlq func23 fun K=>?_;refine cq (fun cc=>?_) (fun cc=>?_)
 ·refine K.q ?_;rw[decide_eq_false (fun e=>by rw[e]at hl;omega)];rfl
 obtain rfl:n=m:=om;refine ax ?_;refine xnq (fun m_ l=>∃j:Nat,m_=n-j/\l=[(0,none,.slice a n ca),(1,none,.slice b n cb),(5,none,.J ((j:Nat):Int))]/\j<=n/\ ∀i,i<j->xs.getD i 0=H.getD i 0) ⟨0,rfl,rfl,Nat.zero_le _,om⟩ sb ?_;rintro _ _ IH ⟨j,rfl,rfl,hj,V⟩;refine cq (fun cd=>?_) (fun cd=>?_)
 ·have a3:j<n:=om;refine drq [] R8 ?_;refine cq (fun M=>?_) (fun M=>?_)
  ·refine K.q ?_;rw[decide_eq_false (fun e=>M (by rw[e]))];rfl
  ·exact bkq (IH _ om ⟨j+1,rfl,rfl,om,fun i hi=>by
    rcases Nat.lt_or_ge i j with z|z
    ·exact V i z
    ·obtain rfl:i=j:=om;exact Classical.not_not.1 M⟩)
 refine K.q ?_;rw[decide_eq_true (xc7 (d:=0) om fun i hi=>V i om)];rfl
theorem Qh{a b c d:Int}:∀h(K:Bool->Heap->Prop),K true h->wpS prog (Op.equalIn (9999+1) 96 (.agg #[.J a,.J b,.J c,.J d]) (.agg #[.J a,.J b,.J c,.J d])) h K:=fun h K k=>
 xbk underlying96 k_ (xrg fun f hf=>by
  simp only[List.mem_cons,List.not_mem_nil,or_false]at hf;rcases hf with rfl|rfl|rfl|rfl<;>exact⟨d_,underlying3,k_,_,rfl⟩) k
theorem Qm{a b:Int}:∀h(K:Bool->Heap->Prop),K true h->wpS prog (Op.equalIn (9999+1) 98 (.agg #[.J a,.J b]) (.agg #[.J a,.J b])) h K:=fun h K k=>
 xbk underlying98 k_ (xrg fun f hf=>by
  simp only[List.mem_cons,List.not_mem_nil,or_false]at hf;rcases hf with rfl|rfl<;>exact⟨d_,underlying3,k_,_,rfl⟩) k
theorem Qj(n:Nat)(a b:Int):∀h(K:Bool->Heap->Prop),K true h->wpS prog (Op.equalIn (n+2) 100 (.agg #[.J a,.J b]) (.agg #[.J a,.J b])) h K:=fun h K k=>
 xbk underlying100 k_ (xrg fun f hf=>by
  simp only[List.mem_cons,List.not_mem_nil,or_false]at hf;rcases hf with rfl|rfl<;>exact⟨d_,underlying3,k_,_,rfl⟩) k
theorem Qi{a b c:Int}:∀h(K:Bool->Heap->Prop),K true h->wpS prog (Op.equalIn (9999+1) 102 (.agg #[.J a,.J b,.J c]) (.agg #[.J a,.J b,.J c])) h K:=fun h K k=>
 xbk underlying102 k_ (r:=true) ⟨d_,_,_,true,fun h K k=>xc0 k_ (n:=2) k_ k,fun h K k=>xc0 k_ (n:=2) k_ k,fun h K k=>Qj 9997 a b h K k,.inr ⟨rfl,d_,_,_,true,fun h K k=>xlz k_ rfl k,fun h K k=>xlz k_ rfl k,fun h K k=>xpv underlying3 (by simpa using k),.inr ⟨rfl,rfl⟩⟩⟩ k
theorem cf25{a V:Option Addr}{H M:Nat}(s:Shf)(S:Cy p a b s)(S':Cy p a' V s)(hn:s.Ah.length<=2^20/\s.Af.length<=2^20):Dc prog md p 25 #[.agg #[.slice a s.Ah.length ca,.slice b s.Af.length cb,.J s.deep,.J s.Cp,.J s.rest],.agg #[.slice a' s.Ah.length H,.slice V s.Af.length M,.J s.deep,.J s.Cp,.J s.rest]] (.bool true):=by
 have S1:Sl p a s.Ah.length 4 (rcs s.Ah):=S.r;have S2:Sl p a' s.Ah.length 4 (rcs s.Ah):=S'.r;refine xkq func25 fun K b1=>?_;refine bq fun b2=>?_;refine ax ?_;refine xqz rfl rfl rfl sdu (fun _=>cf23 s.Af s.Af S.f S'.f om) ?_;refine ax ?_;refine xcx rfl (fun cc=>absurd cc s_) (fun _=>?_);refine ax ?_;refine xhq (fun m_ l p_ L_=>∃j:Nat,m_=s.Ah.length-j/\l=[(2,none,w_ b1 0),(3,none,w_ b2 0),(5,none,.J ((j:Nat):Int))]/\p_=p/\L_=[[(b2,.cells #[.slice a' s.Ah.length H,.slice V s.Af.length M,.J s.deep,.J s.Cp,.J s.rest] 25 (0,0))],[(b1,.cells #[.slice a s.Ah.length ca,.slice b s.Af.length cb,.J s.deep,.J s.Cp,.J s.rest] 25 (0,0))]]/\j<=s.Ah.length) ⟨0,rfl,rfl,rfl,rfl,Nat.zero_le _⟩ sb ?_;rintro _ _ p _ IH ⟨j,rfl,rfl,rfl,rfl,hj⟩;refine cq (fun cd=>?_) (fun cd=>?_)
 ·have O:j<s.Ah.length:=om;refine drq [] R10 ?_;refine de_y rfl rfl (xmj rfl (S.r.all O)) ?_;refine ex ?_;refine de_y rfl rfl (xmj rfl (S'.r.all O)) ?_;refine xa ?_;refine ro_y rfl (yol rfl rfl sdt sdt (Qh)) ?_;refine ax ?_;refine xcx rfl (fun cc=>absurd cc s_) (fun _=>?_);exact bkq (IH _ _ _ om ⟨j+1,rfl,rfl,rfl,rfl,om⟩)
 exact K.q rfl
theorem cf26{a4 O M:Option Addr}{c4 c5 c6:Nat}(t:Tn)(T:Al p a1 t.nH a2 t.nW a3 t.m t)(T':Al p a4 t.nH O t.nW M t.m t)(hn:t.nH<=2^20/\t.nW<=2^20/\t.m<=2^20):Dc prog md p 26 #[.agg #[.slice a1 t.nH c1,.slice a2 t.nW c2,.slice a3 t.m c3],.agg #[.slice a4 t.nH c4,.slice O t.nW c5,.slice M t.m c6]] (.bool true):=by
 have S1:Sl p a3 t.m 2 (Flow.wcs t.wy):=T.y;have S2:Sl p M t.m 2 (Flow.wcs t.wy):=T'.y;refine xkq func26 fun K b1=>?_;refine bq fun b2=>?_;refine ax ?_;refine xpx rfl rfl (cf23 t.hs t.hs T.h T'.h om) ?_;refine ax ?_;refine xqz rfl rfl rfl sdu (fun _=>cf23 t.ws t.ws T.w T'.w om) ?_;refine ax ?_;refine xcx rfl (fun V=>absurd V s_) (fun _=>?_);refine ax ?_;refine xhq (fun m_ l p_ L_=>∃j:Nat,m_=t.m-j/\l=[(2,none,w_ b1 0),(3,none,w_ b2 0),(5,none,.J ((j:Nat):Int))]/\p_=p/\L_=[[(b2,.cells #[.slice a4 t.nH c4,.slice O t.nW c5,.slice M t.m c6] 28 (0,0))],[(b1,.cells #[.slice a1 t.nH c1,.slice a2 t.nW c2,.slice a3 t.m c3] 28 (0,0))]]/\j<=t.m) ⟨0,rfl,rfl,rfl,rfl,Nat.zero_le _⟩ sb ?_;rintro _ _ p _ IH ⟨j,rfl,rfl,rfl,rfl,hj⟩;refine cq (fun cd=>?_) (fun cd=>?_)
 ·have H:j<t.m:=om;refine drq [] R10 ?_;refine de_y rfl rfl (xmj rfl (T.y.all H)) ?_;refine ex ?_;refine de_y rfl rfl (xmj rfl (T'.y.all H)) ?_;refine xa ?_;refine ro_y rfl (yol rfl rfl sdt sdt (Qm)) ?_;refine ax ?_;refine xcx rfl (fun V=>absurd V s_) (fun _=>?_);exact bkq (IH _ _ _ om ⟨j+1,rfl,rfl,rfl,rfl,om⟩)
 exact K.q rfl
theorem cf27{size start:Int}{a:Option Addr}{c V:Nat}(D:Bp p a n ds)(O:Bp p a' n ds)(hn:n<=2^20):Dc prog md p 27 #[.agg #[.J size,.J start,.slice a n c],.agg #[.J size,.J start,.slice a' n V]] (.bool true):=by
 have S1:Sl p a n 3 (Cist.dcs ds):=D;have S2:Sl p a' n 3 (Cist.dcs ds):=O;refine xkq func27 fun K b1=>?_;refine bq fun b2=>?_;refine ax ?_;refine xcx rfl (fun M=>absurd M s_) (fun _=>?_);refine ax ?_;refine xhq (fun m_ l p_ L_=>∃j:Nat,m_=n-j/\l=[(2,none,w_ b1 0),(3,none,w_ b2 0),(5,none,.J ((j:Nat):Int))]/\p_=p/\L_=[[(b2,.cells #[.J size,.J start,.slice a' n V] 31 (0,0))],[(b1,.cells #[.J size,.J start,.slice a n c] 31 (0,0))]]/\j<=n) ⟨0,rfl,rfl,rfl,rfl,Nat.zero_le _⟩ sb ?_;rintro _ _ p _ IH ⟨j,rfl,rfl,rfl,rfl,hj⟩;refine cq (fun cd=>?_) (fun cd=>?_)
 ·have H:j<n:=om;refine drq [] R10 ?_;refine de_y rfl rfl (xmj rfl (Cist.Bp.all D H)) ?_;refine ex ?_;refine de_y rfl rfl (xmj rfl (Cist.Bp.all O H)) ?_;refine xa ?_;refine ro_y rfl (yol rfl rfl sdt sdt (Qi)) ?_;refine ax ?_;refine xcx rfl (fun M=>absurd M s_) (fun _=>?_);exact bkq (IH _ _ _ om ⟨j+1,rfl,rfl,rfl,rfl,om⟩)
 exact K.q rfl
theorem cf15(A H:TA)(t:Twn)(T:TwP p A t)(T':TwP p H t)(hn:t.fit (2^20)):Dc prog md p 15 #[twV A t,twV H t] (.bool true):=by
 refine xkq func15 fun K b1=>?_;refine bq fun b2=>?_;refine cdq (cf25 t.s T.s T'.s hn.1) ?_;refine cgq (fun _=>cf26 t.b T.b T'.b hn.2.1) ?_;refine cgq (fun _=>cf27 T.d T'.d hn.2.2) ?_;exact K.q rfl
theorem ytb(md:Md):∀(f n:Nat),n<f->n<=1000000000-> ∀(h:Heap)(p:Ab),Per p h->Ac prog md 90 #[.J ((n:Nat):Int)] h fun v h'=>v=sv (C9 n)/\Av h h'
 |0,n,hf,_,_,_,_=>absurd hf (Nat.not_lt_zero _)
 |f+1,n,hf,hb,h,p,hp=>by
   refine xaz hp func90 fun K=>?_;refine xcx rfl (fun H=>absurd H om) (fun _=>?_);refine cq (fun H=>?_) (fun H=>?_)
   ·refine ax ?_;refine ro_y rfl (xu2 ((48+n:Nat):Int) rfl (wr8 om) (hs:=⟨_,underlying3⟩)) ?_;refine ax ?_;refine xxx rfl fun v Y o=>?_;have o:Aa 5 1 v (bcs [UInt8.ofNat (48+n)]) Y:=by
     have e:bcs [UInt8.ofNat (48+n)]=[[.int .u8 ((48+n:Nat):Int)]]:=by
      have z:(UInt8.ofNat (48+n)).toNat=48+n:=by show(48+n)%256=_;omega
      show [[Value.int .u8 (((UInt8.ofNat (48+n)).toNat:Nat):Int)]]=_;rw[z]
     rw[e];exact o
    obtain⟨-,⟨-,e,-⟩|⟨b,cs',cap,a2,rfl,rfl,M,-,-⟩⟩:=o
    ·cases e
    refine ax ?_;refine xg3 (a:=[UInt8.ofNat (48+n)]) rfl (fun j v V=>?_) ?_
    ·rw[List.getElem?_toArray,M,Nat.zero_add,List.getElem?_append_left (List.getElem?_eq_some_iff.1 V).1];exact V
    refine K.q ?_;rw[xzj om];rfl
   refine ax ?_;refine xxh 10 rfl rfl rfl d_ (wrZ om) ?_;refine xpx rfl rfl (fun h O=>ytb md f (n / 10) om om h _ O) ?_;refine ax ?_;refine xwh 10 rfl rfl rfl d_ ?_;refine xpx rfl rfl (fun h O=>ytb md f (n%10) om om h _ O) ?_;refine ax ?_;refine ro_y rfl (xow rfl rfl (by have:=xhj (k:=9) (n:=n / 10) om;have:=xhj (k:=9) (n:=n%10) om;omega)) ?_;refine K.q ?_;rw[xqv (n:=n) om,xzj (n:=n%10) om];rfl
theorem cf90(n:Int)(hn: -1000000000<=n/\n<=1000000000):Dc prog md p 90 #[.J n] (sv (txt n)):=by
 intro h M;by_cases H:n<0
 ·refine xaz M func90 fun K=>?_;refine xcx rfl (fun _=>?_) (fun V=>absurd H V);refine ax ?_;refine ro_y rfl (ydb ((n.natAbs:Nat):Int) rfl (by rw[wrZ om];omega)) ?_;refine ax ?_;refine xpx rfl rfl (fun h O=>ytb md (n.natAbs+1) n.natAbs om om h _ O) ?_;refine ax ?_;refine ro_y rfl (xow rfl rfl (by have:=xhj (k:=9) (n:=n.natAbs) om;simp;omega) (a:=[45])) ?_;refine K.q ?_;unfold txt;rw[if_pos H];rfl
 ·have e:n=((n.natAbs:Nat):Int):=om;have e2:txt n=C9 n.natAbs:=by unfold txt;rw[if_neg H]
  rw[e2];have c:=ytb md (n.natAbs+1) n.natAbs om om h p M;rw[<- e]at c;exact c
open Go.X.Flow (Cl Wys wz ics Al Tn exB)
theorem cf38:Lc prog md p 38 #[] (fun v p'=>∃x1 y1 x2 y2 a c b d,v=.tuple #[.agg #[.slice x1 3 y1,.slice x2 5 y2,.J 1,.J 1,.J 3],.agg #[.slice a 2 c,.slice b 4 d,.J 0,.J 0,.J 2]]/\(2<=c/\4<=d)/\Cy p' a b exS):=by
 refine xlq func38 fun K=>?_;refine xfx fun b0=>?_;refine lq fun b1=>?_;refine ax ?_;refine xxx rfl fun v1 Y1 o1=>?_;obtain⟨a1,c1,rfl,-⟩:=o1.val;refine ax ?_;refine xxx rfl fun v2 Y2 o2=>?_;obtain⟨a2,c2,rfl,-⟩:=o2.val;refine ax ?_;refine xxx rfl fun v3 Y3 M=>?_;have M:Aa 96 4 v3 (rcs exS.Ah) Y3:=M;refine xzq M (m:=2) rfl d_ fun p1 a3 c3 g1 e3 h3 S3=>?_;subst e3;refine ax ?_;refine xxx rfl fun V Y4 H=>?_;have H:Aa 3 1 V (ics exS.Af) Y4:=H;refine xzq H (m:=4) rfl d_ fun p2 a4 c4 O e4 h4 S4=>?_;subst e4;refine ax ?_;refine xuv [2] [0,1,2] b0 ?_;refine ex ?_;refine yjw rfl rfl rfl trivial ?_;refine xa ?_;exact K.e rfl (xpq rfl (xpq rfl .nil)) fun _ H_=>(xqq H_ (g1.trans O) ⟨a1,c1,a2,c2,a3,c3,a4,c4,rfl,⟨h3,h4⟩,⟨Sl.mono O.le S3,S4⟩⟩)
theorem cf39:Lc prog md p 39 #[] (fun v p'=>∃x1 y1 x2 y2 x3 y3 x4 y4 x5 y5 x6 y6 a1 c1 a2 c2 a3 c3,v=.tuple #[.agg #[.slice a1 3 c1,.slice a2 2 c2,.slice a3 4 c3],.agg #[.slice x1 2 y1,.slice x2 2 y2,.slice x3 2 y3],.agg #[.slice x4 1 y4,.slice x5 2 y5,.slice x6 2 y6]]/\(3<=c1/\2<=c2/\4<=c3)/\Al p' a1 3 a2 2 a3 4 exB):=by
 refine xlq func39 fun K=>?_;refine xfx fun b0=>?_;refine lq fun b1=>?_;refine lq fun b2=>?_;refine ax ?_;refine xxx rfl fun v1 Y1 H=>?_;have H:Aa 3 1 v1 (ics exB.hs) Y1:=H;refine xzq H (m:=3) rfl d_ fun p1 a1 c1 g1 e1 h1 S1=>?_;subst e1;refine ax ?_;refine xxx rfl fun v2 Y2 O=>?_;have O:Aa 3 1 v2 (ics exB.ws) Y2:=O;refine xzq O (m:=2) rfl d_ fun p2 a2 c2 g2 e2 h2 S2=>?_;subst e2;refine ax ?_;refine xxx rfl fun v3 Y3 M=>?_;have M:Aa 98 2 v3 (Flow.wcs exB.wy) Y3:=M;refine xzq M (m:=4) rfl d_ fun p3 a3 c3 V e3 h3 S3=>?_;subst e3;refine ax ?_;refine xxx rfl fun v4 Y4 o4=>?_;obtain⟨a4,c4,rfl,-⟩:=o4.val;refine ax ?_;refine xxx rfl fun v5 Y5 o5=>?_;obtain⟨a5,c5,rfl,-⟩:=o5.val;refine ax ?_;refine xxx rfl fun v6 Y6 o6=>?_;obtain⟨a6,c6,rfl,-⟩:=o6.val;refine ax ?_;refine xxx rfl fun v7 Y7 o7=>?_;obtain⟨a7,c7,rfl,-⟩:=o7.val;refine ax ?_;refine xxx rfl fun v8 Y8 o8=>?_;obtain⟨a8,c8,rfl,-⟩:=o8.val;refine ax ?_;refine xxx rfl fun v9 Y9 o9=>?_;obtain⟨a9,c9,rfl,-⟩:=o9.val;refine drq [3,4] R5 ?_;refine yel rfl rfl rfl rfl ?_;refine yel rfl rfl rfl rfl ?_;refine xa ?_;exact K.e rfl (xpq rfl (xpq rfl (xpq rfl .nil))) fun _ H_=>(xqq H_ ((g1.trans g2).trans V) ⟨a4,c4,a5,c5,a6,c6,a7,c7,a8,c8,a9,c9,a1,c1,a2,c2,a3,c3,rfl,⟨h1,h2,h3⟩,⟨Sl.mono (g2.trans V).le S1,Sl.mono V.le S2,S3⟩⟩)
theorem cf71{a b c:Int}:Dc prog md p 71 #[.J a,.J b,.J c] (.agg #[.J a,.J b,.J c]):=by
 refine xlq func71 fun K=>?_;refine xfx fun M=>?_;refine ax ?_;exact K.e rfl (xpq rfl .nil) fun _ H=>⟨rfl,H.kept⟩
theorem cf40:Lc prog md p 40 #[] (fun v p'=>∃O V a c,v=.tuple #[.agg #[.J 10,.J 4,.slice O 4 V],.agg #[.J 10,.J 5,.slice a 4 c]]/\4<=c/\Bp p' a 4 exY.days):=by
 refine xlq func40 fun K=>?_;refine xfx fun b0=>?_;refine lq fun b1=>?_;refine cdq cf71 ?_;refine cdq cf71 ?_;refine cdq cf71 ?_;refine cdq cf71 ?_;refine ax ?_;refine xxx rfl fun v1 Y1 o1=>?_;obtain⟨a1,c1,rfl,-⟩:=o1.val;refine cdq cf71 ?_;refine cdq cf71 ?_;refine cdq cf71 ?_;refine cdq cf71 ?_;refine ax ?_;refine xxx rfl fun v2 Y2 H=>?_;have H:Aa 102 3 v2 (Cist.dcs exY.days) Y2:=H;refine xzq H (m:=4) rfl d_ fun p2 a2 c2 M e2 h2 S2=>?_;subst e2;refine ax ?_;refine xuv [2] [0,1,2] b0 ?_;refine ex ?_;refine yjw rfl rfl rfl trivial ?_;refine xa ?_;exact K.e rfl (xpq rfl (xpq rfl .nil)) fun _ H_=>(xqq H_ M ⟨a1,c1,a2,c2,rfl,h2,S2⟩)
theorem cf22:Lc prog md p 22 #[] (fun v p'=>∃A,v=twV A exT/\TwP p' A exT):=by
 refine xlq func22 fun K=>?_;refine xfx fun b0=>?_;refine cpq cf38 ?_;rintro _ p1 g1 ⟨x1,y1,x2,y2,a,ca,b,cb,rfl,V,S1⟩;refine lq fun b1=>?_;refine lq fun b2=>?_;refine cpq cf39 ?_;rintro _ p2 O ⟨x3,y3,x4,y4,x5,y5,x6,y6,x7,y7,x8,y8,a1,c1,a2,c2,a3,c3,rfl,q2,M⟩;refine lq fun b3=>?_;refine lq fun b4=>?_;refine lq fun b5=>?_;refine cpq cf40 ?_;rintro _ p3 H ⟨x9,y9,a4,c4,rfl,q3,S3⟩;refine lq fun b6=>?_;refine lq fun b7=>?_;refine ax ?_;exact K.e rfl (xpq rfl .nil) fun _ H_=>(xqq H_ ((g1.trans O).trans H) ⟨⟨(a,ca),(b,cb),(a1,c1),(a2,c2),(a3,c3),(a4,c4)⟩,rfl,⟨S1.mono (O.trans H).le,⟨Sl.mono H.le M.h,Sl.mono H.le M.w,Sl.mono H.le M.y⟩,S3,V,q2,q3⟩⟩)
theorem yfz(ls:List Str):∀u∈(scs ls).flatten,Bj u=true:=fun u H=>by
 obtain⟨l,M,H⟩:=List.mem_flatten.1 H;obtain⟨x,_,rfl⟩:=List.mem_map.1 M;rw[List.mem_singleton.1 H];rfl
def P9(t:Twn)(ls:List Str)(v:Value)(p':Ab):Prop:=∃(a:Option Addr)(c:Nat)(A:TA),v=.tuple #[.slice a ls.length c,twV A (Bt t ls).2,.bool true]/\ls.length<=c/\At p' a ls.length (Bt t ls).1/\TwP p' A (Bt t ls).2
theorem yr3(h:Heap)(p:Ab)(hp:Per p h)(q:Ab)(hq:Per q h)(le:PLe p q)(A:TA)(t:Twn)(T:TwP p A t)(g:GlP p)(a:Option Addr)(c:Nat)(ls:List Str)(S:At q a ls.length ls)(a4:∀s∈ls,s.length<=900)(hv:Cj t=0)(H:ls.length<=30):
 Ac prog (.main true) 10 #[twV A t,.slice a ls.length c] h (Cn p h (P9 t ls)):=by
 have hn:t.fit (2^20):=(xdz hv).up om;have S1:Sl q a ls.length 1 (scs ls):=S;refine xhz hp func10 fun _ _ _ K=>?_;refine bq fun b2=>?_;refine lq fun b5=>?_;refine cpq (cf24 A t T hn) ?_;rintro _ p1 V ⟨A1,rfl,T1⟩;refine ax ?_;refine xxx rfl fun v1 Y1 o1=>?_;have o1:Aa 9 1 v1 [] Y1:=o1;refine ax ?_;refine xos (p':=pun p1 q) ?_ fun _ s=>s.pun hq;refine xiw rfl rfl o1 (Sl.mono (yu3 le hq V) S1) (yfz ls) (by simp;omega) (fun v2 Y2 o2=>?_);rw[List.nil_append]at o2;refine xos (p':=p1) ?_ fun _ s=>s.forget yv3;refine ax ?_;refine xzq o2 (m:=ls.length) (xmx _) d_ fun p2 a2 c2 O e2 a5 S2=>?_;subst e2;refine xqk rfl rfl (cf21 A1 t (T1.mono O.le) hn (g.mono (V.trans O).le) c2 ls S2 om a4 ykl) ?_;rintro _ p3 g3 ⟨a3,c3,A3,rfl,M,S3,T3⟩;have el:=xxw hv H;have ek:=xhw hv H;rw[el]at S3 M⊢;rw[ygz hv H];refine lq fun b8=>?_;refine ax ?_;refine xuv [17] R18 b5 ?_;refine ex ?_;refine xhv rfl rfl rfl rfl sdu (fun _=>cf20 A3 _ T3 ((xdz ek).up om)) ?_;refine xa ?_;exact xez func10 rfl (.tmp rfl (xpq rfl (.tmp rfl .nil))) fun _ H_=>K _ _ (xqq H_ ((V.trans O).trans g3) ⟨a3,c3,A3,by rw[ek,decide_eq_true (show((ls.length:Nat):Int)=ls.length from rfl)];rfl,M,S3,T3⟩)
theorem cf10(O:Per p h)(A:TA)(t:Twn)(T:TwP p A t)(g:GlP p){a:Option Addr}(c:Nat)(ls:List Str)(S:At p a ls.length ls)(H:∀s∈ls,s.length<=900)(hv:Cj t=0)(M:ls.length<=30):
 Ac prog (.main true) 10 #[twV A t,.slice a ls.length c] h (Cn p h (P9 t ls)):=yr3 h p O p O (.refl p) A t T g a c ls S H hv M
theorem cf9(g:GlP p):Dc prog (.main true) p 9 #[] (.bool true):=by
 refine xlq func9 fun K=>?_;refine cpq cf22 ?_;rintro _ p1 g1 ⟨A1,rfl,T1⟩;refine ax ?_;refine xxx rfl fun v1 Y1 V=>?_;have V:Aa 9 1 v1 (scs exL) Y1:=V;refine xzq V (m:=12) rfl d_ fun p2 a2 c2 g2 e2 a8 S2=>?_;subst e2;refine ax ?_;refine xqk rfl rfl (cf21 A1 exT (T1.mono g2.le) ((xdz xm4).up om) (g.mono (g1.trans g2).le) c2 exL S2 d_ d_ ykl) ?_;rintro _ p3 g3 ⟨a3,c3,A3,rfl,H,S3,T3⟩;rw[yos]at S3 H T3⊢;rw[ygz xm4 d_];have Sw:Ax p3 A3.w.1 2 [7,3]:=T3.b.w;refine lq fun b8=>?_;refine ax ?_;refine xy0 rfl rfl trivial fun v4 Y4 O=>?_;have O:Aa 3 1 v4 (ics [7,3]) Y4:=O;refine xzq O (m:=2) rfl d_ fun p4 a4 c4 g4 e4 a7 S4=>?_;subst e4;refine ax ?_;refine xqz rfl rfl rfl sdu (fun _=>cf23 [7,3] [7,3] (Sl.mono g4.le Sw) S4 ⟨d_,d_⟩) ?_;refine ax ?_;refine xy0 rfl rfl trivial fun v5 Y5 M=>?_;have M:Aa 9 1 v5 (scs exR) Y5:=M;refine xzq M (m:=12) rfl d_ fun p5 a5 c5 g5 e5 a6 S5=>?_;subst e5;refine ax ?_;refine xqz rfl rfl rfl sdu (fun _=>cf13 exR exR (Sl.mono (g4.trans g5).le S3) S5 ⟨d_,d_⟩) ?_;refine K.q ?_;rfl
end Go.Proofs.YtofhlcococeifaaGreatDoor
