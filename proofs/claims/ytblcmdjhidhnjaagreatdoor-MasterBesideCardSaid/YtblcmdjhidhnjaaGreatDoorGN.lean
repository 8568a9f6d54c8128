/-
  Part of proofs about a town's master: a calculus for Be beside goroutines that are only leaving, and the Be. No condition.
-/
import Derived.Test.YtblcmdjhidhnjaaGreatDoorGM
import Derived.Test.YtblcmdjhidhnjaaGreatDoorRows
import Derived.Lay
import Derived.Lib.LaidTab
import Derived.LaidSub
import Derived.MakeChecks
import Derived.JoinedOf
import Derived.Handed
import Derived.ChangeMaps5
import Derived.ProofKit
import Derived.SevenTiedAt
set_option maxRecDepth 100000
set_option synthInstance.maxSize 2000
namespace Go.Proofs.YtblcmdjhidhnjaaGreatDoor
open Go.Proofs.Tryz
open Go.X Go.X.Ms Go.Conc Go.RowKit Go.ChangeShapes Go.WideShapes Go.ChangeAt Go.Joins
open Go.X.Flow (Cc wcs Wys Ao Dz)
open Go.X.Cist (Day Ba dcs)
theorem V4:ownKnob prog.godebug=none:=by kernel_rfl
theorem yas:laidOutB prog=true:=by kernel_rfl
theorem pCi:prog.cellsOf 3=1:=by kernel_rfl
theorem pCr:prog.cellsOf 92=4:=by kernel_rfl
theorem pCw:prog.cellsOf 94=2:=by kernel_rfl
theorem pCp:prog.cellsOf 96=2:=by kernel_rfl
theorem pCd:prog.cellsOf 98=3:=by kernel_rfl
theorem pCS:prog.cellsOf 25=5:=by kernel_rfl
theorem pCB:prog.cellsOf 28=3:=by kernel_rfl
theorem pCY:prog.cellsOf 31=3:=by kernel_rfl
theorem pCT:prog.cellsOf 33=11:=by kernel_rfl
instance:Inhabited Rk:=⟨rz⟩
section
variable{H:Type}{enc:TypeId×Value->H}{W:World}
theorem xxf{α:Type}[Inhabited α]{fuel:Nat}{t e w:TypeId}{v:Value}{y:DataW H×List MemPlace}(f:α->List Value)(ht:prog.underlying t=some (.slice e))(hw:prog.cellsOf e=w)
 (hQ:∀m cs y,DataW.trod enc prog W 0 (fun _=>true) true m e cs=some y-> ∃x:α,cs=f x)(h:DataW.trod enc prog W 0 (fun _=>true) true fuel t [v]=some y):
 ∃a c xs,v=.slice a (List.length xs) c/\xs.length<=9223372036854775807/\xs.length<=c/\Sl (vwP W) a xs.length w (xs.map f):=by
 rcases Go.Deep.open_slice ht h with⟨e1,_⟩|⟨a,len,cap,m,k,D,Pl,e1,_,hl,O,hm,_,V⟩
 ·obtain rfl:v=.slice none 0 0:=by simpa using e1
  exact⟨none,0,[],rfl,Nat.zero_le _,Nat.le_refl _,yjm⟩
 ·obtain rfl:v=.slice (some a) len cap:=by simpa using e1
  simp only[if_true]at hm;subst hw;obtain⟨E,hE⟩:=Go.Deep.choose_lt (n:=len) (p:=fun i cs=>W.cells? 0 (a.add (i*prog.cellsOf e)) (prog.cellsOf e)=some cs/\ ∃x:α,cs=f x) fun i hi=>by
   obtain⟨cs,h1,h2⟩:=V i om;exact⟨cs,h1,hQ _ _ _ h2⟩
  obtain⟨z,hz⟩:=Go.Deep.choose_lt (n:=len) (p:=fun i x=>E i=f x) fun i hi=>(hE i hi).2;have hs:=yur (E:=E) (n:=len) fun i hi=>(hE i hi).1;have M:((List.range len).map z).length=len:=by simp
  refine⟨some a,cap,(List.range len).map z,by rw[M],by rw[M];unfold maxLen at O;omega,by rw[M];exact hl,?_⟩;rw[M];have:(List.range len).map E=((List.range len).map z).map f:=by
   rw[List.map_map];exact List.map_congr_left fun i hi=>hz i (List.mem_range.1 hi)
  rw[<- this];exact hs
theorem xcj{m:Nat}{cs:List Value}{y:DataW H×List MemPlace}(h:DataW.trod enc prog W 0 (fun _=>true) true m 3 cs=some y):∃x:Int,cs=[.J x]:=ylk underlying3 h
theorem xq8{m:Nat}{cs:List Value}{y:DataW H×List MemPlace}(h:DataW.trod enc prog W 0 (fun _=>true) true m 92 cs=some y):∃x:Rk,cs=x.cells:=by
 obtain⟨y0,y1,y2,y3,n,_,O,h0,h1,h2,h3⟩:=Go.Joins.trod_struct4 underlying92 h;rw[pCr]at O;obtain⟨a,M⟩:=xcj h0;obtain⟨b,V⟩:=xcj h1;obtain⟨c,hc⟩:=xcj h2;obtain⟨d,hd⟩:=xcj h3
 match cs,O with
 |[u,v,w,x],_=>
   refine⟨⟨a,b,c,d⟩,?_⟩;simp[pCi]at M V hc hd;simp[Rk.cells,M,V,hc,hd]
theorem ykk{m:Nat}{cs:List Value}{y:DataW H×List MemPlace}(h:DataW.trod enc prog W 0 (fun _=>true) true m 94 cs=some y):∃x:Cc,cs=x.cells:=by
 obtain⟨y0,y1,n,_,O,h0,h1⟩:=trod_struct2 underlying94 h;rw[pCw]at O;obtain⟨a,M⟩:=xcj h0;obtain⟨b,V⟩:=xcj h1
 match cs,O with
 |[u,v],_=>
   refine⟨(a,b),?_⟩;simp[pCi]at M V;simp[Flow.Cc.cells,M,V]
theorem ymk{m:Nat}{cs:List Value}{y:DataW H×List MemPlace}(h:DataW.trod enc prog W 0 (fun _=>true) true m 98 cs=some y):∃x:Day,cs=x.cells:=by
 obtain⟨y0,y1,n,_,O,h0,h1⟩:=trod_struct2 underlying98 h;obtain⟨z0,z1,n',_,a2,h2,h3⟩:=trod_struct2 underlying96 h0;rw[pCd]at O;obtain⟨a,M⟩:=xcj h2;obtain⟨b,V⟩:=xcj h3;obtain⟨c,hc⟩:=xcj h1
 match cs,O with
 |[u,v,w],_=>
   refine⟨⟨a,b,c⟩,?_⟩;simp[pCp,pCi]at M V hc;simp[Cist.Day.cells,M,V,hc]
theorem xis{t:TypeId}{O V f2 f3 M:Field}{fuel:Nat}{cs:List Value}{x:DataW H×List MemPlace}(ht:prog.underlying t=some (.struct #[O,V,f2,f3,M]))(h:DataW.trod enc prog W 0 (fun _=>true) true fuel t cs=some x):
 ∃y0 y1 y2 y3 y4 n,cs.length=prog.cellsOf t/\DataW.trod enc prog W 0 (fun _=>true) true n O.type ((cs.drop O.offset).take (prog.cellsOf O.type))=some y0/\
  DataW.trod enc prog W 0 (fun _=>true) true n V.type ((cs.drop V.offset).take (prog.cellsOf V.type))=some y1/\DataW.trod enc prog W 0 (fun _=>true) true n f2.type ((cs.drop f2.offset).take (prog.cellsOf f2.type))=some y2/\
  DataW.trod enc prog W 0 (fun _=>true) true n f3.type ((cs.drop f3.offset).take (prog.cellsOf f3.type))=some y3/\DataW.trod enc prog W 0 (fun _=>true) true n M.type ((cs.drop M.offset).take (prog.cellsOf M.type))=some y4:=by
 obtain⟨xs,n,_,rfl,hl,hlen,hf⟩:=DataW.trod_struct ht h
 match xs,hlen with
 |[y0,y1,y2,y3,y4],_=>exact⟨y0,y1,y2,y3,y4,n,hl,by simpa using hf 0 O rfl,by simpa using hf 1 V rfl,by simpa using hf 2 f2 rfl,by simpa using hf 3 f3 rfl,by simpa using hf 4 M rfl⟩
theorem xv6{m:Nat}{cs:List Value}{y:DataW H×List MemPlace}(h:DataW.trod enc prog W 0 (fun _=>true) true m 25 cs=some y):
 ∃a O b M s,cs=[.slice a (Shf.Ah s).length O,.slice b s.Ag.length M,.J s.deep,.J s.Cf,.J s.rest]/\(s.Ah.length<=9223372036854775807/\s.Ag.length<=9223372036854775807)/\(s.Ah.length<=O/\s.Ag.length<=M)/\Ck (vwP W) a b s:=by
 obtain⟨y0,y1,y2,y3,y4,n,hl,V,h1,h2,h3,h4⟩:=xis underlying25 h;rw[pCS]at hl;obtain⟨x,hx⟩:=xcj h2;obtain⟨y,hy⟩:=xcj h3;obtain⟨z,hz⟩:=xcj h4
 match cs,hl with
 |[c0,c1,c2,c3,c4],_=>
   have V:DataW.trod enc prog W 0 (fun _=>true) true n 22 [c0]=some y0:=V;have h1:DataW.trod enc prog W 0 (fun _=>true) true n 23 [c1]=some y1:=h1;obtain⟨a,O,rs,rfl,b1,b2,S1⟩:=xxf Rk.cells underlying22 pCr (fun m cs y h=>xq8 h) V;obtain⟨b,M,fs,rfl,b3,b4,S2⟩:=xxf (fun x=>[Value.J x]) underlying23 pCi (fun m cs y h=>xcj h) h1;simp[pCi]at hx hy hz;exact⟨a,O,b,M,⟨rs,fs,x,y,z⟩,by rw[hx,hy,hz],⟨b1,b3⟩,⟨b2,b4⟩,⟨S1,S2⟩⟩
theorem xkt{m:Nat}{cs:List Value}{y:DataW H×List MemPlace}(h:DataW.trod enc prog W 0 (fun _=>true) true m 28 cs=some y):
 ∃a1 c1 O M V c3 t,cs=[.slice a1 (Flow.Tn.nH t) c1,.slice O t.nW M,.slice V t.m c3]/\(t.nH<=9223372036854775807/\t.nW<=9223372036854775807/\t.m<=9223372036854775807)/\(t.nH<=c1/\t.nW<=M/\t.m<=c3)/\Ao (vwP W) a1 t.nH O t.nW V t.m t:=by
 obtain⟨y0,y1,y2,n,_,hl,h0,h1,h2⟩:=Go.Deep.trod_struct3 underlying28 h;rw[pCB]at hl
 match cs,hl with
 |[c0,c1,M],_=>
   have h0:DataW.trod enc prog W 0 (fun _=>true) true n 23 [c0]=some y0:=h0;have h1:DataW.trod enc prog W 0 (fun _=>true) true n 23 [c1]=some y1:=h1;have h2:DataW.trod enc prog W 0 (fun _=>true) true n 26 [M]=some y2:=h2;obtain⟨a1,d1,hs,rfl,b1,b2,S1⟩:=xxf (fun x=>[Value.J x]) underlying23 pCi (fun m cs y h=>xcj h) h0;obtain⟨O,d2,ws,rfl,b3,b4,S2⟩:=xxf (fun x=>[Value.J x]) underlying23 pCi (fun m cs y h=>xcj h) h1;obtain⟨V,d3,wy,rfl,b5,b6,S3⟩:=xxf Flow.Cc.cells underlying26 pCw (fun m cs y h=>ykk h) h2;exact⟨a1,d1,O,d2,V,d3,⟨hs,ws,wy⟩,rfl,⟨b1,b3,b5⟩,⟨b2,b4,b6⟩,⟨S1,S2,S3⟩⟩
theorem yax{m:Nat}{cs:List Value}{y:DataW H×List MemPlace}(h:DataW.trod enc prog W 0 (fun _=>true) true m 31 cs=some y):
 ∃a c M,cs=[.J (Yr.size M),.J M.start,.slice a M.days.length c]/\M.days.length<=9223372036854775807/\M.days.length<=c/\Ba (vwP W) a M.days.length M.days:=by
 obtain⟨y0,y1,y2,n,_,hl,h0,h1,O⟩:=Go.Deep.trod_struct3 underlying31 h;rw[pCY]at hl;obtain⟨x,hx⟩:=xcj h0;obtain⟨y,V⟩:=xcj h1
 match cs,hl with
 |[c0,c1,c2],_=>
   have O:DataW.trod enc prog W 0 (fun _=>true) true n 29 [c2]=some y2:=O;obtain⟨a,c,ds,rfl,b1,b2,S⟩:=xxf Cist.Day.cells underlying29 pCd (fun m cs y h=>ymk h) O;simp[pCi]at hx V;exact⟨a,c,⟨x,y,ds⟩,by rw[hx,V],b1,b2,S⟩
theorem xm1{M:Nat}{v:Value}{d:DataW H}{p:List MemPlace}(hv:Value.okWide prog W .any M 33 v)(h:DataW.Trod enc prog W 0 (fun _=>true) true 33 v d p):
 ∃A t,v=twV A t/\t.fit 9223372036854775807/\TwP (vwP W) A t:=by
 obtain⟨cs,rfl,a7⟩:=okWide_struct underlying33 hv;obtain⟨fuel,hf⟩:=h;obtain⟨y0,y1,y2,n,_,O,V,h1,h2⟩:=Go.Deep.trod_struct3 underlying33 hf;rw[pCT]at O;obtain⟨l⟩:=cs
 match l,O with
 |[c0,c1,c2,c3,c4,c5,c6,c7,c8,c9,c10],_=>
   simp only[pCS]at V;simp only[pCB]at h1;simp only[pCY]at h2;obtain⟨a1,d1,a2,d2,s,e0,b0,k0,S⟩:=xv6 V;obtain⟨a3,d3,a4,d4,a5,d5,t,e1,b1,k1,B⟩:=xkt h1;obtain⟨a6,d6,yr,e2,b2,k2,Y⟩:=yax h2;simp[Value.cells]at e0 e1 e2;obtain⟨rfl,rfl,rfl,rfl,rfl⟩:=e0;obtain⟨rfl,rfl,rfl⟩:=e1;obtain⟨rfl,rfl,rfl⟩:=e2;exact⟨⟨(a1,d1),(a2,d2),(a3,d3),(a4,d4),(a5,d5),(a6,d6)⟩,⟨s,t,yr⟩,rfl,⟨b0,b1,b2⟩,⟨S,B,Y,⟨k0,k1,k2⟩⟩⟩
end
theorem xo2{W:World}{n:String}{g:Nat}{cs:Array Value}(O:prog.globalNamed n=some g)(h:W.var? prog n=some cs)(V:cs.size≠0):∃t z,vwP W g=some (.cells cs t z):=by
 unfold World.var? at h;rw[O]at h;simp only[Option.bind_some]at h;split at h
 ·rename_i c t f e;obtain rfl:=Option.some.inj h;refine⟨t,f,?_⟩;have M:¬ Empty W.heap g:=by
   rintro⟨t',f',h'⟩;rw[e]at h';obtain⟨rfl,_⟩:c=#[]/\_:=by simpa using h'
   exact V rfl
  unfold vwP;rw[xwd M,e]
 ·cases h
theorem xw2{W:World}{n:String}{g T:Nat}{a b c:Int}{f0 f1 f2:Field}(hg:prog.globalNamed n=some g)(hT:(prog.globals[g]?).map (·.type)=some T)(hu:prog.underlying T=some (.struct #[f0,f1,f2]))(hc:prog.cellsOf T=3)
 (k0:prog.underlying f0.type=some (.int .i64))(k1:prog.underlying f1.type=some (.int .i64))(k2:prog.underlying f2.type=some (.int .i64))(o:f0.offset=0/\f1.offset=1/\f2.offset=2)(oc:prog.cellsOf f0.type=1/\prog.cellsOf f1.type=1/\prog.cellsOf f2.type=1)
 (h:laidMet prog [(n,.agg [.lit (.int .i64 a),.lit (.int .i64 b),.lit (.int .i64 c)])] W):∃t z,vwP W g=some (.cells #[.J a,.J b,.J c] t z):=by
 obtain⟨ps,⟨g',t',cs,fuel,p,q,a2,a3,O,hd,_,_⟩,_⟩:=h;obtain rfl:=Option.some.inj (hg.symm.trans a2);obtain rfl:t'=T:=Option.some.inj (a3.symm.trans hT);obtain⟨y0,y1,y2,n,V,hl,h0,h1,h2⟩:=Go.Deep.trod_struct3 hu hd;rw[hc]at hl;obtain⟨a',ha,ea,_⟩:=DataW.trod_int k0 h0;obtain⟨b',hb,eb,_⟩:=DataW.trod_int k1 h1;obtain⟨c',M,ec,_⟩:=DataW.trod_int k2 h2;obtain⟨l⟩:=cs
 match l,hl with
 |[u,v,w],_=>
   rw[o.1,oc.1]at ha;rw[o.2.1,oc.2.1]at hb;rw[o.2.2,oc.2.2]at M;simp at ha hb M;rw[ea,eb,ec]at V;simp at V;obtain⟨t,z,h4⟩:=xo2 hg O s_;refine⟨t,z,?_⟩;rw[h4,ha,hb,M,<- V.1.1,<- V.1.2.1,<- V.1.2.2]
theorem xu4{W:World}{n name:String}{g T:Nat}{d:DataW Unit}{ms:Array (String×TypeId)}(hg:prog.globalNamed n=some g)(hT:(prog.globals[g]?).map (·.type)=some T)(hu:prog.underlying T=some (.interface ms))
 (h:laidMet prog [(n,.iface name d)] W):∃M O tE zE,vwP W g=some (.cells #[.iface M O] tE zE):=by
 obtain⟨ps,⟨g',t',cs,fuel,p,q,a2,a3,V,hd,_,_⟩,_⟩:=h;obtain rfl:=Option.some.inj (hg.symm.trans a2);obtain rfl:t'=T:=Option.some.inj (a3.symm.trans hT);have key:∃M O,cs=#[.iface M O]:=by
  obtain⟨l⟩:=cs;cases fuel with
  |zero=>simp[DataW.trod]at hd
  |succ fuel=>
    match l with
    |[]=>simp[DataW.trod,hu]at hd
    |[v]=>
      cases v<;>first|exact⟨_,_,rfl⟩|(simp[DataW.trod,hu]at hd)
    |a::b::r=>simp[DataW.trod,hu]at hd
 obtain⟨M,O,rfl⟩:=key;obtain⟨t,z,h4⟩:=xo2 hg V s_;exact⟨M,O,t,z,h4⟩
theorem xd7{W:World}(h:laidMetH prog Rows.masterBesideRow.laid W):GlP (vwP W):=by
 rw[MakeChecks.laidMetH_plain _ _ _ k_]at h;have flt:∀(n:String)(d:DataW Unit),(Rows.masterBesideRow.laid.filter fun x=>x.1==n)=[(n,d)]->laidMet prog [(n,d)] W:=fun n d e=>by
  have h2:=laidMet.filter (fun x=>x.1==n) h;rw[e]at h2;exact h2
 refine⟨?_,?_,?_,?_,?_,?_⟩
 ·exact xw2 (n := "steening/shafts.none") (T := 189) k_ k_ underlying189 k_ underlying3 underlying3 underlying3 ⟨rfl, rfl, rfl⟩ ⟨pCi, pCi, pCi⟩ (flt _ _ k_)
 ·exact xw2 (n := "steening/buckets.none") (T := 201) k_ k_ underlying201 k_ underlying3 underlying3 underlying3 ⟨rfl, rfl, rfl⟩ ⟨pCi, pCi, pCi⟩ (flt _ _ k_)
 ·have h3 := Lib.tabIs_of_head (g := 7) (t := 345) (e := 5) (n := 64) k_ k_ k_ k_ k_ k_ (flt "math/bits.deBruijn64tab" (Lib.tabData .u8 (Dz.map fun n => ((n : Nat) : Int))) k_)
  obtain⟨t,z,h4⟩:=xo2 (g:=7) k_ h3 (by decide +kernel);exact⟨t,z,by rw[h4];simp⟩
 ·have h3 := Lib.tabIs_of_head (g := 5) (t := 338) (e := 273) (n := 20) k_ k_ k_ k_ k_ k_ (flt "internal/strconv.uint64pow10" (Lib.tabData .u64 Lib.pow10Tab) k_)
  obtain⟨t,z,h4⟩:=xo2 (g:=5) k_ h3 (by decide +kernel);exact⟨t,z,h4⟩
 ·exact xu4 (n := "strconv.ErrSyntax") (name := "*errors.errorString") (d := .ptr (.agg [.lit (.string [105, 110, 118, 97, 108, 105, 100, 32, 115, 121, 110, 116, 97, 120])])) (T := 227) k_ k_ underlying227 (flt _ _ k_)
 ·exact xu4 (n := "strconv.ErrRange") (name := "*errors.errorString") (d := .ptr (.agg [.lit (.string [118, 97, 108, 117, 101, 32, 111, 117, 116, 32, 111, 102, 32, 114, 97, 110, 103, 101])])) (T := 227) k_ k_ underlying227 (flt _ _ k_)
noncomputable def Oe(os:Os):World:=World.laidAll prog os Rows.masterBesideRow.laid
theorem yrx(os:Os){args:Array Value}:laidMetH prog Rows.masterBesideRow.laid ((Oe os).forCall (fun _ _=>0) ⟨#[],args,[]⟩).memory:=by
 rw[MakeChecks.laidMetH_plain _ _ _ k_];exact laidMet_laidAll _ k_ k_
theorem xq1{H:Type}{enc:TypeId×Value->H}{a:Assume}{C:Checked}{os:Os}{f:FuncId}{fn:Func}{s:ChangeSpec}{a5:List PathCond}{O a8 a3 a4:Bool}{X:World->Array Value->Prop}
 (hX:∀(w w':World)(args:Array Value),w.heap=w'.heap->X w args->X w' args)(own:ownKnob C.prog.godebug=none)(a6:os.Started)(b6:C.prog.funcs[f]?=some fn)
 (a7:∃(w:World)(V:Tape)(i:Input),w.os=os/\(w.forCall V i).Shaped C.prog/\i.vars=[]/\Input.okWide C.prog (w.forCall V i) .any w.heap.size f i/\
  ((s.pre enc C.prog fn a5 O (w.forCall V i).memory i.args/\X (w.forCall V i).memory i.args)/\sizedMet enc C.prog fn (OpenSpec.ofChange s) O (w.forCall V i).memory i.args)/\a.holds C.prog (lone (Frame.enter C.prog f i.args .normal) [] (w.forCall V i)))
 (b0:∀(W:World)(b5:Nat)(args:Array Value)(ds gs:List (DataW H))(a2:List MemPlace),
  (∀(j:Nat)t v,fn.params[j]?=some t->args[j]?=some v->Value.okWide C.prog W .any b5 t v)->DataW.Whole enc C.prog fn.params.toList s.vars O W args.toList ds gs a2->X W args->
  ∃M last o w' t',runNT C.prog (M+1) (solo (G (Frame.enter C.prog f args .normal) []) W) #[]=(.ended o w',t')/\runN C.prog M (solo (G (Frame.enter C.prog f args .normal) []) W)=.next last/\
   step C.prog last=.ended o w'/\Conc.Good C.prog (fun v W'=>s.post enc C.prog fn O a8 a3 a4 W args v W') last o w' t'):
 ReturnsInLeavingWide a C os f .any (fun w args=>(s.pre enc C.prog fn a5 O w args/\X w args)/\sizedMet enc C.prog fn (OpenSpec.ofChange s) O w args) (s.post enc C.prog fn O a8 a3 a4):=by
 refine returnsInLeavingWide_of_good own a6 a7 ?_;intro w V i _ _ _ b8 a9 _;obtain⟨_,_,_,fn',b4,_,_,_,_,b3⟩:=b8;have e:fn'=fn:=Option.some.inj (b4.symm.trans b6);subst e;obtain⟨⟨⟨ds,gs,a2,hw,_⟩,hx⟩,_⟩:=a9;have b7:=DataW.Whole.of_heap (w':=w.forCall V i) (by rfl) hw;obtain⟨M,last,o,w',t',h1,h2,h3,h4⟩:=b0 (w.forCall V i) w.heap.size i.args ds gs a2 b3 b7 (hX _ _ _ (by rfl) hx);exact⟨M,last,o,w',t',h1,h2,h3,h4.mono fun v hp=>ChangeSpec.post_blind hp⟩
theorem xr8(Lk:Looks){p:Pinned}{s:OpenSpec}{c:OpenClaim}(kinds:List LaidKind)(M:Bool)(O:Bool×String)(lk:Bool)(hc:c.holds p s)(hw:c.wfByText s=true)(V:c.laidByTextAt Lk p kinds M)
 (a3:c.start=.entering)(a2:c.noBlocks=false/\c.again=false)(hm:p.checked.prog.mainIs=some (O.1,O.2.toList))(hn:(!O.1&&O.2.isEmpty&&!lk)=false)
 (hl:∀f fn,p.checked.prog.funcNamed c.func=some f->p.checked.prog.funcs[f]?=some fn->lk=p.checked.prog.looks []/\ ∀(j:Nat)t,fn.params[j]?=some t->p.checked.prog.wantsStandIn t=false)(hg:true=c.goesBy p.checked.prog):
 Claim7.holds p (.plain s) {stood:={row:=c,standIns:=[],harness:=O,looks:=lk},kinds:=[],alts:=[],goes:=true,laidByText:=true,laidKinds:=kinds,laidTests:=M,laidLooks:=Lk}:=by
 have h6:Claim7.isSixth {stood:={row:=c,standIns:=[],harness:=O,looks:=lk},kinds:=[]}=false:=by simpa[Claim7.isSixth]using hn
 exact⟨Claim7.tied_new_at Lk kinds M (Claim7.new_of_sixth hc O lk a3 a2 hm h6 hl) hw,fun D hD=>(by cases hD),V,fun h=>(by cases h),hg⟩
end Go.Proofs.YtblcmdjhidhnjaaGreatDoor
namespace Go.X.Ms
theorem Twn.fit.up{t:Twn}{n n':Nat}(h:t.fit n)(hn:n<=n'):t.fit n':=⟨⟨Nat.le_trans h.1.1 hn,Nat.le_trans h.1.2 hn⟩,⟨Nat.le_trans h.2.1.1 hn,Nat.le_trans h.2.1.2.1 hn,Nat.le_trans h.2.1.2.2 hn⟩,Nat.le_trans h.2.2 hn⟩
theorem xp4{α:Type}{xs M:List α}{d:α}(V:xs.length=M.length)(h:∀i,i<xs.length->xs.getD i d=M.getD i d):xs=M:=by
 apply List.ext_getElem V;intro i O h2;have:=h i O;rwa[List.getD_eq_getElem?_getD,List.getD_eq_getElem?_getD,List.getElem?_eq_getElem O,List.getElem?_eq_getElem h2]at this
section
variable{d:Dsk}{x k w:Str}{args:List Str}{vs:List Int}
theorem xzt(hs:Ad x=w::args)(M:w≠Er):doD d x=Cl d [] (w::args):=by
 unfold doD;simp only[hs,List.headD_cons];rw[if_neg M]
theorem yjl(hs:Ad x=Er::k::w::args)(M:isLet k=true):doD d x=Cl d k (w::args):=by
 unfold doD;simp only[hs,List.headD_cons,if_true];rw[if_neg]
 ·simp
 ·simp[M]
theorem xfc{q:Qn}(M:qn (w++txt args.length)=some q)(hc:args.all Bb=true)(hv:Bo d.now args=some vs):Cl d k (w::args)=Eu d q vs k:=by
 rw[xwk,M,hc,if_neg s_,hv]
theorem xhr(hc:args.all Bb=true)(M:qn (w++txt args.length)≠none\/k=[]/\od (w++txt args.length)≠none)(hv:Bo d.now args=none):Cl d k (w::args)=(d,D4):=by
 rw[xwk,hc,if_neg,hv];rintro(h|⟨h1,h2⟩)
 ·cases h
 ·rcases M with M|⟨e1,e2⟩
  ·exact M h1
  ·rcases h2 with h2|h2
   ·exact h2 e1
   ·exact e2 h2.1
theorem xtl{o:Od}(V:qn (w++txt args.length)=none)(O:od (w++txt args.length)=some o)(M:Co w args.length=false)(hc:args.all Bb=true)(hv:Bo d.now args=some vs):
 Cl d [] (w::args)=match B7 o d.now.t vs with
  |none=>(d,wNo)
  |some t=>if B9 t=0 then({d with now:={d.now with t:=t}},wOk)else(d,wNo):=by
 rw[xwk,V,O,hc,if_neg s_,hv];simp only;rw[if_neg (by rw[M];simp)];rfl
theorem xq4(O:qn (w++txt ((0:Nat):Int))=none)(M:Co w 0=true):Cl d [] [w]=((tryD d w).1,Ki (tryD d w).2):=by
 have e:=xwk d [] w [];rw[show(([]:List Str).length:Nat)=0 from rfl,O]at e;rw[e,if_neg,Bo]
 ·exact if_pos M
 ·rintro(h|⟨_,h|h⟩)
  ·cases h
  ·exact h rfl
  ·have:Co w 0=false:=h.2;rw[M]at this;cases this
end
theorem xwh{n:Nat}(h:n<10):txt ((n:Nat):Int)=[UInt8.ofNat (48+n)]:=by unfold txt;rw[if_neg om,Int.natAbs_natCast,xuj h]
section
variable{d:Dsk}{w:Str}{l:List Int}
end
def okD(d:Dsk):Prop:=B9 d.now.t=0/\ ∀s∈d.Ci,B9 s.t=0
theorem xuw(d:Dsk)(q:Qn)(a:List Int)(l:Str):(Eu d q a l).1.now.t=d.now.t/\(Eu d q a l).1.Ci=d.Ci:=by
 refine⟨?_,xg0 d q a l⟩;unfold Eu;split
 ·rfl
 ·split
  ·rfl
  ·split
   ·cases(Bs q d.now.t a).1<;>rfl
   ·rfl
theorem yxg{d:Dsk}(h:okD d){q a l}:okD (Eu d q a l).1:=by
 obtain⟨M,O⟩:=xuw d q a l;unfold okD;rw[M,O];exact h
theorem ywg{d:Dsk}(h:okD d){w}:okD (tryD d w).1:=by
 unfold tryD;split
 ·refine⟨h.1,fun s hs=>?_⟩;rcases List.mem_append.1 hs with hs|hs
  ·exact h.2 s hs
  ·rw[List.mem_singleton.1 hs];exact h.1
 ·split
  ·exact h
  ·rename_i x O;have M:x∈d.Ci:=List.mem_of_getLast? O;split
   ·exact⟨h.2 x M,fun s hs=>h.2 s (List.mem_of_mem_take hs)⟩
   ·exact⟨h.1,fun s hs=>h.2 s (List.mem_of_mem_take hs)⟩
theorem xg4{d:Dsk}(h:okD d)(l w:Str)(args:List Str):okD (Cl d l (w::args)).1:=by
 rw[xwk];split
 ·exact h
 ·cases Bo d.now args with
  |none=>exact h
  |some vs=>
    cases qn (w++txt args.length)with
    |some q=>exact yxg h
    |none=>
      simp only;split
      ·exact ywg h
      ·cases od (w++txt args.length)with
       |none=>exact h
       |some o=>
         simp only;cases B7 o d.now.t vs with
         |none=>exact h
         |some t=>
           simp only;split
           ·rename_i c;exact⟨c,h.2⟩
           ·exact h
theorem ybd{d:Dsk}(h:okD d)(x:Str):okD (doD d x).1:=by
 have e:∀(l:Str)(M:List Str),okD (Cl d l M).1:=fun l M=>by
  cases M with
  |nil=>exact xg4 h l [] []
  |cons w args=>exact xg4 h l w args
 unfold doD;simp only;split
 ·split
  ·exact h
  ·exact e _ _
 ·exact e _ _
theorem ybx:∀{xs:List Str}{d:Dsk},okD d->okD (Ds d xs).1
 |[],_,h=>h
 |x::xs,_,h=>ybx (xs:=xs) (ybd h x)
theorem xlt{t:Twn}(h:B9 t=0):okD (Al t):=⟨h,by simp[Al]⟩
theorem xop{t:Twn}{ls:List Str}(h:B9 t=0)(M:ls.length<=30):Gi t ls=((Ds (Al t) ls).2,(Ds (Al t) ls).1.now.t):=by unfold Gi;rw[if_neg (by rw[h];simp;omega)]
theorem xa9{t:Twn}{ls:List Str}(h:B9 t=0)(M:ls.length<=30):Mb t ls=0:=by unfold Mb;rw[if_neg (by rw[h];simp),if_neg om]
theorem ybv{t:Twn}{ls:List Str}(h:B9 t=0)(M:ls.length<=30):(Gi t ls).1.length=ls.length:=by rw[xop h M];exact xpp _ _
theorem xf3{t:Twn}{ls:List Str}(h:B9 t=0)(M:ls.length<=30):B9 (Gi t ls).2=0:=by rw[xop h M];exact(ybx (xlt h)).1
theorem ysj{s:Shf}:Hc s=0<->s.ok:=by unfold Hc;split<;>simp_all
end Go.X.Ms
namespace Go.X.Flow
open Go.X
def exB:Tn:=⟨[5,4,3],[4,3],[(0,0),(1,0),(1,1),(2,1)]⟩
theorem vdB:Vd exB:=⟨d_,d_,d_,d_,by unfold YOk;decide⟩
theorem Kv:D5 exB=0:=Cj d_ vdB
theorem Nv:Ow exB=7:=by decide +kernel
end Go.X.Flow
namespace Go.X.Ms
open Go.X.Flow (Tn exB)
open Go.X.Cist (Day)
def exS:Shf:=⟨[⟨1,2,2,9⟩,⟨1,2,2,0⟩],[1,0,1,0],0,0,2⟩
def exY:Yr:=⟨10,5,[⟨0,2,1⟩,⟨6,9,2⟩,⟨0,0,7⟩,⟨4,4,3⟩]⟩
def exT:Twn:=⟨exS,exB,exY⟩
def M4:Tn:=⟨exB.hs,[7,3],exB.wy⟩
def N4:Shf:={exS with Ag:=[1,0,1,0,1]}
def Ga:Str:=[99,104,101,97,112]
def exL:List Str:=[Ga,Ei,[102,111,111,116,32,49],Ga,Gw,Oo,[107,101,101,112,32,109,32,109,111,115,116],[104,97,115,32,48,32,109],[108,97,99,107,115],[115,112,97,114,101,32,51],[115,105,122,101,32,120],[108,101,118,101,108,32,52]]
def exR:List Str:=[[49,55],wOk,wOk,[49,48],wOk,wNo,[55],wOk,[49,32,49,32,48],[50],D4,Gs]
theorem yvl:Flow.D5 M4=0:=Flow.Cj d_ ⟨d_,d_,d_,d_,by unfold Flow.YOk;decide⟩
theorem P3:Cist.chk exY.size exY.start exY.days=0:=Cist.Bu.2 (by unfold Cist.Ok Cist.C7;decide +kernel)
theorem xf2:B9 exT=0:=xhj.2 ⟨by decide +kernel,Flow.Kv,P3⟩
theorem yac:B9 {exT with s:=N4}=0:=xhj.2 ⟨by decide +kernel,Flow.Kv,P3⟩
theorem yzb:B9 {exT with b:=M4}=0:=xhj.2 ⟨by decide +kernel,yvl,P3⟩
theorem xx5:Cb ltC exS=0/\Ch exS=17/\Cb ltC N4=0/\Ch N4=10:=by decide +kernel
theorem Ts:Flow.LK M4=[1,1,0]:=by decide +kernel
section
variable{d:Dsk}
theorem tx0:txt ((0:Nat):Int)=[48]:=xwh d_
theorem tx1:txt ((1:Nat):Int)=[49]:=xwh d_
theorem tx2:txt ((2:Nat):Int)=[50]:=xwh d_
theorem xp5:doD d Ga=Eu d .cheap [] []:=
 (xzt (w:=Ga) (args:=[]) (by decide +kernel) d_).trans (xfc (q:=.cheap) (by show qn (Ga++txt ((0:Nat):Int))=_;rw[tx0];kernel_rfl) rfl rfl)
theorem yil{w:Str}(hs:Ad w=[w])(M:w≠Er)(V:qn (w++[48])=none)(O:Co w 0=true):doD d w=((tryD d w).1,Ki (tryD d w).2):=
 (xzt hs M).trans (xq4 (by rw[tx0];exact V) O)
end
theorem xnm{d:Dsk}{q:Qn}{a:List Int}{l:Str}(h:(Bs q d.now.t a).2=0):Eu d q a l=(if l≠[]then Ka d l (Bs q d.now.t a).1 else d,(Bs q d.now.t a).1.text):=by
 unfold Eu;rw[if_neg (by rw[h];decide),if_neg (by rw[h];simp)]
def k0:List Int:=List.replicate 26 0
def dA:Dsk:=Al exT
def dB:Dsk:=⟨⟨exT,k0,k0⟩,[⟨exT,k0,k0⟩]⟩
def dC:Dsk:=⟨⟨{exT with s:=N4},k0,k0⟩,[⟨exT,k0,k0⟩]⟩
def dD:Dsk:=⟨⟨exT,k0.set 12 7,k0.set 12 1⟩,[]⟩
def dE:Dsk:=⟨⟨{exT with b:=M4},k0.set 12 7,k0.set 12 1⟩,[]⟩
theorem Ul:txt 17=[49,55]:=by unfold txt;rw[if_neg d_,show(17:Int).natAbs=17 from rfl,xov d_,xuj d_];rfl
theorem Vx:txt 10=[49,48]:=by unfold txt;rw[if_neg d_,show(10:Int).natAbs=10 from rfl,xov d_,xuj d_];rfl
theorem s1:doD dA Ga=(dA,[49,55]):=by
 rw[xp5,xnm (d:=dA) (q:=.cheap) (a:=[]) (l:=[]) xx5.1];show(dA,txt (Ch exS))=_;rw[xx5.2.1,Ul]
theorem s2:doD dA Ei=(dB,wOk):=by
 rw[yil (by decide +kernel) d_ k_ d_];rfl
theorem s3:doD dB [102,111,111,116,32,49]=(dC,wOk):=by
 rw[xzt (w:=[102,111,111,116]) (args:=[[49]]) (by decide +kernel) d_,xtl (o:=.E7) (vs:=[1]) (by show qn (_++txt ((1:Nat):Int))=_;rw[tx1];kernel_rfl) (by show od (_++txt ((1:Nat):Int))=_;rw[tx1];kernel_rfl) d_ (by decide +kernel) (by decide +kernel)];show(if B9 {exT with s:=N4}=0 then _ else _)=_;rw[if_pos yac];rfl
theorem s4:doD dC Ga=(dC,[49,48]):=by
 rw[xp5,xnm (d:=dC) (q:=.cheap) (a:=[]) (l:=[]) xx5.2.2.1];show(dC,txt (Ch N4))=_;rw[xx5.2.2.2,Vx]
theorem s5:doD dC Gw=(dA,wOk):=by
 rw[yil (by decide +kernel) d_ k_ d_];rfl
theorem s6:doD dA Oo=(dA,wNo):=by
 rw[yil (by decide +kernel) d_ k_ d_];rfl
theorem s7:doD dA [107,101,101,112,32,109,32,109,111,115,116]=(dD,[55]):=by
 rw[yjl (k:=[109]) (w:=[109,111,115,116]) (args:=[]) (by decide +kernel) d_,xfc (q:=.E8) (vs:=[]) (by show qn (_++txt ((0:Nat):Int))=_;rw[tx0];kernel_rfl) rfl rfl,xnm (d:=dA) (q:=.E8) (a:=[]) (l:=[109]) Flow.Kv];show(Ka dA [109] (.num (Flow.Fx exB)),txt (Flow.Fx exB))=_;rw[show Flow.Fx exB=7 by rw[Flow.Fx,if_pos Flow.Kv,Flow.Nv]];show(_,txt ((7:Nat):Int))=_;rw[xwh d_];rfl
theorem s8:doD dD [104,97,115,32,48,32,109]=(dE,wOk):=by
 rw[xzt (w:=[104,97,115]) (args:=[[48],[109]]) (by decide +kernel) d_,xtl (o:=.has) (vs:=[0,7]) (by show qn (_++txt ((2:Nat):Int))=_;rw[tx2];kernel_rfl) (by show od (_++txt ((2:Nat):Int))=_;rw[tx2];kernel_rfl) d_ (by decide +kernel) (by decide +kernel)];show(if B9 {exT with b:=M4}=0 then _ else _)=_;rw[if_pos yzb];rfl
theorem s9:doD dE [108,97,99,107,115]=(dE,[49,32,49,32,48]):=by
 rw[xzt (w:=[108,97,99,107,115]) (args:=[]) (by decide +kernel) d_,xfc (q:=.Dy) (vs:=[]) (by show qn (_++txt ((0:Nat):Int))=_;rw[tx0];kernel_rfl) rfl rfl,xnm (d:=dE) (q:=.Dy) (a:=[]) (l:=[]) yvl];show(dE,Nx (Flow.LKc M4))=_;rw[Flow.Ll yvl,Ts];show(dE,txt ((1:Nat):Int)++32::(txt ((1:Nat):Int)++32::(txt ((0:Nat):Int)++[])))=_;rw[tx0,tx1];rfl
theorem spE:Cist.Cy exY.size exY.start exY.days 3=(2,0):=by decide +kernel
theorem s10:doD dE [115,112,97,114,101,32,51]=(dE,[50]):=by
 rw[xzt (w:=[115,112,97,114,101]) (args:=[[51]]) (by decide +kernel) d_,xfc (q:=.spare) (vs:=[3]) (by show qn (_++txt ((1:Nat):Int))=_;rw[tx1];kernel_rfl) (by decide +kernel) (by decide +kernel),xnm (d:=dE) (q:=.spare) (a:=[3]) (l:=[]) (show(Cist.Cy exY.size exY.start exY.days 3).2=0 by rw[spE])];show(dE,txt (Cist.Cy exY.size exY.start exY.days 3).1)=_;rw[spE];show(dE,txt ((2:Nat):Int))=_;rw[tx2]
theorem s11:doD dE [115,105,122,101,32,120]=(dE,D4):=by
 rw[xzt (w:=[115,105,122,101]) (args:=[[120]]) (by decide +kernel) d_,xhr (by decide +kernel) (.inr ⟨rfl,by show od (_++txt ((1:Nat):Int))≠_;rw[tx1,show od ([115,105,122,101]++[49])=some .size by kernel_rfl];simp⟩) (by decide +kernel)]
theorem lvE:(Cist.K5 exY.size exY.start exY.days 4).2=1:=by decide +kernel
theorem s12:doD dE [108,101,118,101,108,32,52]=(dE,Gs):=by
 rw[xzt (w:=[108,101,118,101,108]) (args:=[[52]]) (by decide +kernel) d_,xfc (q:=.level) (vs:=[4]) (by show qn (_++txt ((1:Nat):Int))=_;rw[tx1];kernel_rfl) (by decide +kernel) (by decide +kernel)];unfold Eu;rw[show(Bs .level dE.now.t [4]).2=1 from lvE];rfl
theorem xb9:(Ds (Al exT) exL).2=exR/\(Ds (Al exT) exL).1.now.t={exT with b:=M4}:=by
 unfold exL;simp only[Ds,show Al exT=dA from rfl,s1,s2,s3,s4,s5,s6,s7,s8,s9,s10,s11,s12];exact⟨rfl,rfl⟩
theorem ykm:Gi exT exL=(exR,{exT with b:=M4}):=by rw[xop xf2 d_,xb9.1,xb9.2]
end Go.X.Ms
namespace Go.Proofs.YtblcmdjhidhnjaaGreatDoor
open Go.Proofs.Tryz
open Go.X Go.X.Ms Go.Conc
open Go.X.Flow (Cc Wys wz ics Ao C3)
open Go.X.Cist (Day Ba dz)
section
variable{h:Heap}{md:Md}{p:Ab}
theorem Pf(O:Per p h){n lo hi:Int}:Aa prog md 156 #[.J n,.J lo,.J hi] h fun v V=>v=.bool (decide (lo<=n/\n<=hi))/\Af h V:=by
 refine xdq O func156 fun _ _ _ K=>?_;exact K.r rfl rfl fun _ M=>⟨congrArg Value.bool (by rw[Bool.eq_iff_iff];simp),M.kept⟩
theorem c63(O:Per p h){n lo hi:Int}:Aa prog md 63 #[.J n,.J lo,.J hi] h fun v V=>v=.bool (decide (lo<=n/\n<=hi))/\Af h V:=by
 refine xdq O func63 fun _ _ _ K=>?_;refine xiq rfl rfl (fun _ pe=>Pf pe) ?_;refine ax ?_;exact K.r rfl rfl fun _ M=>⟨rfl,M.kept⟩
theorem O2(O:Per p h){n lo hi:Int}:Aa prog md 157 #[.J n,.J lo,.J hi] h fun v V=>v=.bool (decide (lo<=n/\n<=hi))/\Af h V:=by
 refine xdq O func157 fun _ _ _ K=>?_;refine xiq rfl rfl (fun _ pe=>Pf pe) ?_;refine ax ?_;exact K.r rfl rfl fun _ M=>⟨rfl,M.kept⟩
theorem c66(O:Per p h){n lo hi:Int}:Aa prog md 66 #[.J n,.J lo,.J hi] h fun v V=>v=.bool (decide (lo<=n/\n<=hi))/\Af h V:=by
 refine xdq O func66 fun _ _ _ K=>?_;refine xiq rfl rfl (fun _ pe=>Pf pe) ?_;refine ax ?_;exact K.r rfl rfl fun _ M=>⟨rfl,M.kept⟩
theorem c64(V:Per p h){a b:Option Addr}{M cb:Nat}(s:Shf)(hn:s.Ah.length<=2^40)(x:Int):
 Aa prog md 64 #[.agg #[.slice a s.Ah.length M,.slice b s.Ag.length cb,.J s.deep,.J s.Cf,.J s.rest],.J x] h fun v h'=>v=.bool (decide (okF s.Ah.length x))/\Af h h':=by
 refine xdq V func64 fun _ _ _ K=>?_;refine xgq rfl fun b1=>?_;refine ax ?_;refine xiq rfl rfl (fun _ pe=>c63 pe) ?_;refine ax ?_;exact K.r rfl rfl fun _ O=>⟨rfl,O.kept⟩
theorem xzr{α:Type}{l:List α}{z:α}{P:α->Prop}:(∀x∈l,P x)<-> ∀i,i<l.length->P (l.getD i z):=by
 constructor
 ·intro h i hi;rw[List.getD_eq_getElem?_getD,List.getElem?_eq_getElem hi];exact h _ (List.getElem_mem hi)
 ·intro h x M;obtain⟨i,hi,rfl⟩:=List.mem_iff_getElem.1 M;have:=h i hi;rwa[List.getD_eq_getElem?_getD,List.getElem?_eq_getElem hi]at this
set_option maxHeartbeats 400000 in
theorem c33(hp:Per p h){a b:Option Addr}{ca cb:Nat}(s:Shf)(S:Ck p a b s)(hn:s.Ah.length<=2^20/\s.Ag.length<=2^20):
 Aa prog md 33 #[.agg #[.slice a s.Ah.length ca,.slice b s.Ag.length cb,.J s.deep,.J s.Cf,.J s.rest]] h fun v h'=>v=.J (Hc s)/\Af h h':=by
 have Sr:=S.r;have Sf:=S.f;have a3:Sl p a s.Ah.length 4 (rcs s.Ah):=S.r;refine xfz hp func33 fun zq cs Stop K=>?_;have a2:∀{h_:Heap},Af h h_-> ¬ s.ok->X.Reach prog md (G (zq.finish (.J 20)) cs) h_ Stop:=fun k z=>K _ _ ⟨by rw[Hc,if_neg z],k⟩;refine bq fun b1=>?_;refine ax ?_;refine xfx rfl rfl rfl sdu (fun _ _ M=>c63 M) ?_;refine ax ?_;refine xfx rfl rfl rfl sdu (fun _ _ M=>c63 M) ?_;refine ax ?_;refine xfx rfl rfl rfl sdu (fun _ _ M=>c63 M) ?_;refine cq (fun cc=>?_) (fun cc=>?_)
 ·refine ax ?_;exact xxq func33 rfl rfl fun h_ V=>a2 V.kept fun z=>by
   obtain⟨z1,_,z3,_,z5,z6,z7,z8⟩:=z;omega
 have hb:s.Ah.length<=4/\s.Ag.length<=12/\(0<=s.deep/\s.deep<=9)/\(0<=s.Cf/\s.Cf<=9)/\0<=s.rest/\s.rest<=9:=om;clear cc;refine ax ?_;refine xmq (fun m_ l p_ L_=>∃j:Nat,m_=s.Ah.length-j/\l=[(1,none,w_ b1 0),(3,none,.J ((j:Nat):Int))]/\p_=p/\L_=[[(b1,.cells #[.slice a s.Ah.length ca,.slice b s.Ag.length cb,.J s.deep,.J s.Cf,.J s.rest] 25 (0,0))]]/\j<=s.Ah.length/\ ∀i,i<j->okR (s.Ah.getD i rz)) ⟨0,rfl,rfl,rfl,rfl,Nat.zero_le _,om⟩ sb ?_;rintro _ _ p _ IH ⟨j,rfl,rfl,rfl,rfl,hj,hq⟩;refine cq (fun cc=>?_) (fun cc=>?_)
 ·have O:j<s.Ah.length:=om;refine ax ?_;refine xfk rfl (Sr.all O) ?_;refine lq fun b4=>?_;refine ax ?_;refine xiq rfl rfl (fun _ M=>c63 M) ?_;refine ax ?_;refine xfx rfl rfl rfl sdu (fun _ _ M=>c63 M) ?_;refine ax ?_;refine xfx rfl rfl rfl sdu (fun _ _ M=>c63 M) ?_;refine ax ?_;refine xfx rfl rfl rfl sdu (fun _ _ M=>c63 M) ?_;refine cq (fun cd=>?_) (fun cd=>?_)
  ·refine ax ?_;exact xxq func33 rfl rfl fun h_ V=>a2 V.kept fun z=>by
    have:=(xzr (z:=rz)).1 z.2.1 j O;unfold okR at this;omega
  ·have h1:okR (s.Ah.getD j rz):=by unfold okR;omega
   refine ax ?_;exact xhq (IH _ _ _ om ⟨j+1,rfl,rfl,rfl,rfl,om,fun i hi=>by
    rcases Nat.lt_or_ge i j with z|z
    ·exact hq i z
    ·obtain rfl:i=j:=om;exact h1⟩)
 have hr:∀r∈s.Ah,okR r:=(xzr (z:=rz)).2 fun i hi=>hq i om;clear hq IH cc;refine ax ?_;refine xmq (fun m_ l p_ L_=>∃j:Nat,m_=s.Ag.length-j/\l=[(1,none,w_ b1 0),(5,none,.J ((j:Nat):Int))]/\p_=p/\L_=[[(b1,.cells #[.slice a s.Ah.length ca,.slice b s.Ag.length cb,.J s.deep,.J s.Cf,.J s.rest] 25 (0,0))]]/\j<=s.Ag.length/\ ∀i,i<j->okF s.Ah.length (s.Ag.getD i 0)) ⟨0,rfl,rfl,rfl,rfl,Nat.zero_le _,om⟩ sb ?_;rintro _ _ p _ IH ⟨j,rfl,rfl,rfl,rfl,hj,hq⟩;refine cq (fun cc=>?_) (fun cc=>?_)
 ·have O:j<s.Ag.length:=om;refine ax ?_;refine xqq [] R6 ?_;refine ex ?_;refine ax ?_;refine xiq rfl rfl (fun _ M=>c64 M s om _) ?_;refine cq (fun cd=>?_) (fun cd=>?_)
  ·refine ax ?_;exact xxq func33 rfl rfl fun h_ V=>a2 V.kept fun z=>cd (xzr.1 z.2.2.2.1 j O)
  ·refine ax ?_;exact xhq (IH _ _ _ om ⟨j+1,rfl,rfl,rfl,rfl,om,fun i hi=>by
    rcases Nat.lt_or_ge i j with z|z
    ·exact hq i z
    ·obtain rfl:i=j:=om;exact Classical.not_not.1 cd⟩)
 refine ax ?_;exact xxq func33 rfl rfl fun h_ V=>K _ _ ⟨by
  rw[Hc,if_pos ⟨hb.1,hr,hb.2.1,(xzr (z:=0)).2 fun i hi=>hq i om,hb.2.2.1,hb.2.2.2.1,hb.2.2.2.2⟩];rfl,V.kept⟩
end
open Go.X.Flow (Cc Wys wz ics Ao C3 Tn Vd YOk D5 Cj Fj)
section
variable{h:Heap}{md:Md}{p:Ab}
theorem Pp(hp:Per p h){a1 V a3:Option Addr}{c1 O c3:Nat}(t:Tn)(hn:t.nH<=2^40){z:Int}:
 Aa prog md 152 #[.agg #[.slice a1 t.nH c1,.slice V t.nW O,.slice a3 t.m c3],.J z] h fun v h'=>v=.bool (decide (0<=z/\z<=(t.nH:Int)-1))/\Af h h':=by
 refine xdq hp func152 fun _ _ _ K=>?_;refine xgq rfl fun b1=>?_;refine ax ?_;refine xiq rfl rfl (fun _ pe=>O2 pe) ?_;refine ax ?_;exact K.r rfl rfl fun _ M=>⟨rfl,M.kept⟩
theorem Pv(hp:Per p h){a1 V a3:Option Addr}{c1 O c3:Nat}(t:Tn)(hn:t.nW<=2^40){z:Int}:
 Aa prog md 153 #[.agg #[.slice a1 t.nH c1,.slice V t.nW O,.slice a3 t.m c3],.J z] h fun v h'=>v=.bool (decide (0<=z/\z<=(t.nW:Int)-1))/\Af h h':=by
 refine xdq hp func153 fun _ _ _ K=>?_;refine xgq rfl fun b1=>?_;refine ax ?_;refine xiq rfl rfl (fun _ pe=>O2 pe) ?_;refine ax ?_;exact K.r rfl rfl fun _ M=>⟨rfl,M.kept⟩
theorem Qb(O:Per p h)(x y:Cc):
 Aa prog md 158 #[.agg #[.J x.1,.J x.2],.agg #[.J y.1,.J y.2]] h fun v V=>v=.bool (Mg x y)/\Af h V:=by
 refine xdq O func158 fun _ _ _ K=>?_;refine xgq rfl fun b1=>?_;refine bq fun b2=>?_;refine ax ?_;exact K.r rfl rfl fun _ M=>⟨by
  refine congrArg Value.bool ?_;unfold Mg;rw[Bool.eq_iff_iff];simp,M.kept⟩
theorem c35(hp:Per p h){size start:Int}{a:Option Addr}{n c:Nat}{ds:List Day}(D:Ba p a n ds)(hn:n<=2^20):
 Aa prog md 35 #[.agg #[.J size,.J start,.slice a n c]] h fun v h'=>v=.J (Cist.chk size start ds)/\Af h h':=by
 have hl:=D.len;have D2:Sl p a n 3 (Cist.dcs ds):=D;refine xfz hp func35 fun zq cs Stop K=>?_;have a2:∀{V:Heap},Af h V-> ¬ Cist.Ok size start ds->X.Reach prog md (G (zq.finish (.J 100)) cs) V Stop:=fun k z=>K _ _ ⟨by rw[Cist.Hi z],k⟩;refine bq fun b1=>?_;refine ax ?_;refine xiq rfl rfl (fun _ M=>c66 M) ?_;refine ax ?_;refine xfx rfl rfl rfl sdu (fun _ _ M=>c66 M) ?_;refine cq (fun cc=>?_) (fun cc=>?_)
 ·refine ax ?_;exact xxq func35 rfl rfl fun V O=>a2 O.kept fun z=>by
   have:=z.1;have:=z.2.1;have:=z.2.2.1;have:=z.2.2.2.1;have:=z.2.2.2.2.1
   omega
 refine ax ?_;refine xmq (fun m_ l p_ L_=>∃j:Nat,m_=n-j/\l=[(1,none,w_ b1 0),(3,none,.J ((j:Nat):Int))]/\p_=p/\L_=[[(b1,.cells #[.J size,.J start,.slice a n c] 31 (0,0))]]/\j<=n/\ ∀i,i<j->Cist.C7 (ds.getD i dz)) ⟨0,rfl,rfl,rfl,rfl,Nat.zero_le _,om⟩ sb ?_;rintro _ _ p _ IH ⟨j,rfl,rfl,rfl,rfl,hj,hq⟩;refine cq (fun ce=>?_) (fun ce=>?_)
 ·have a3:j<n:=om;refine ax ?_;refine xfk rfl (D.all a3) ?_;refine lq fun b4=>?_;refine ax ?_;refine xiq rfl rfl (fun _ M=>c66 M) ?_;refine ax ?_;refine xfx rfl rfl rfl sdu (fun _ _ M=>c66 M) ?_;refine ax ?_;refine xfx rfl rfl rfl sdu (fun _ _ M=>c66 M) ?_;refine cq (fun cd=>?_) (fun cd=>?_)
  ·refine ax ?_;exact xxq func35 rfl rfl fun V O=>a2 O.kept fun z=>by
    have:=z.2.2.2.2.2 j om;unfold Cist.C7 at this;omega
  ·have h1:Cist.C7 (ds.getD j dz):=by unfold Cist.C7;omega
   refine ax ?_;exact xhq (IH _ _ _ om ⟨j+1,rfl,rfl,rfl,rfl,om,Cist.La hq h1⟩)
 refine ax ?_;exact xxq func35 rfl rfl fun V O=>K _ _ ⟨by
  rw[Cist.Fg ⟨om,om,om,om,om,fun i hi=>hq i om⟩];rfl,O.kept⟩
set_option maxHeartbeats 400000 in
theorem c65(hp:Per p h){a1 a2 a3:Option Addr}(c1 c2 c3:Nat)(t:Tn)(T:Ao p a1 t.nH a2 t.nW a3 t.m t)(hn:t.nH<=2^20/\t.nW<=2^20/\t.m<=2^20):
 Aa prog md 65 #[.agg #[.slice a1 t.nH c1,.slice a2 t.nW c2,.slice a3 t.m c3]] h fun v h'=>(∃q:Bool,v=.bool q/\(q=true<->Vd t))/\Af h h':=by
 have Th:=T.h;have Tw:=T.w;have Ty:Sl p a3 t.m 2 (Flow.wcs t.wy):=T.y;refine xfz hp func65 fun zq cs Stop K=>?_;have a4:∀{h_:Heap},Af h h_-> ¬ Vd t->X.Reach prog md (G (zq.finish (.bool false)) cs) h_ Stop:=fun k z=>K _ _ ⟨⟨false,rfl,by simp[z]⟩,k⟩;refine bq fun b1=>?_;refine cq (fun cc=>?_) (fun cc=>?_)
 ·refine ax ?_;exact xxq func65 rfl rfl fun h_ H_=>a4 H_.kept fun z=>by
   have:=z.nh;have:=z.nw;omega
 refine ax ?_;refine xmq (fun m_ l p_ L_=>∃j:Nat,m_=t.nH-j/\l=[(1,none,w_ b1 0),(3,none,.J ((j:Nat):Int))]/\p_=p/\L_=[[(b1,.cells #[.slice a1 t.nH c1,.slice a2 t.nW c2,.slice a3 t.m c3] 28 (0,0))]]/\j<=t.nH/\ ∀i,i<j->0<=t.hs.getD i 0/\t.hs.getD i 0<=9) ⟨0,rfl,rfl,rfl,rfl,Nat.zero_le _,om⟩ sb ?_;rintro _ _ p _ IH ⟨j,rfl,rfl,rfl,rfl,hj,V⟩;refine cq (fun ce=>?_) (fun ce=>?_)
 ·have O:j<t.nH:=om;refine ax ?_;refine xiq rfl rfl (fun _ pe=>O2 pe) ?_;refine cq (fun M=>?_) (fun M=>?_)
  ·refine ax ?_;exact xxq func65 rfl rfl fun h_ H_=>a4 H_.kept fun z=>M (z.h j O)
  ·refine ax ?_;exact xhq (IH _ _ _ om ⟨j+1,rfl,rfl,rfl,rfl,om,fun i hi=>by
    rcases Nat.lt_or_ge i j with z|z
    ·exact V i z
    ·obtain rfl:i=j:=om;exact Classical.not_not.1 M⟩)
 have hH:∀i,i<t.nH->0<=t.hs.getD i 0/\t.hs.getD i 0<=9:=fun i hi=>V i om;clear V IH ce;refine ax ?_;refine xmq (fun m_ l p_ L_=>∃j:Nat,m_=t.nW-j/\l=[(1,none,w_ b1 0),(4,none,.J ((j:Nat):Int))]/\p_=p/\L_=[[(b1,.cells #[.slice a1 t.nH c1,.slice a2 t.nW c2,.slice a3 t.m c3] 28 (0,0))]]/\j<=t.nW/\ ∀i,i<j->0<=t.ws.getD i 0/\t.ws.getD i 0<=20) ⟨0,rfl,rfl,rfl,rfl,Nat.zero_le _,om⟩ sb ?_;rintro _ _ p _ IH ⟨j,rfl,rfl,rfl,rfl,hj,V⟩;refine cq (fun ce=>?_) (fun ce=>?_)
 ·have O:j<t.nW:=om;refine ax ?_;refine xiq rfl rfl (fun _ pe=>O2 pe) ?_;refine cq (fun M=>?_) (fun M=>?_)
  ·refine ax ?_;exact xxq func65 rfl rfl fun h_ H_=>a4 H_.kept fun z=>M (z.w j O)
  ·refine ax ?_;exact xhq (IH _ _ _ om ⟨j+1,rfl,rfl,rfl,rfl,om,fun i hi=>by
    rcases Nat.lt_or_ge i j with z|z
    ·exact V i z
    ·obtain rfl:i=j:=om;exact Classical.not_not.1 M⟩)
 have hW:∀i,i<t.nW->0<=t.ws.getD i 0/\t.ws.getD i 0<=20:=fun i hi=>V i om;clear V IH ce;refine ax ?_;refine xmq (fun m_ l p_ L_=>∃j:Nat,m_=t.m-j/\l=[(1,none,w_ b1 0),(5,none,.J ((j:Nat):Int))]/\p_=p/\L_=[[(b1,.cells #[.slice a1 t.nH c1,.slice a2 t.nW c2,.slice a3 t.m c3] 28 (0,0))]]/\j<=t.m/\ ∀i,i<j->YOk t i) ⟨0,rfl,rfl,rfl,rfl,Nat.zero_le _,om⟩ sb ?_;rintro _ _ p _ IH ⟨j,rfl,rfl,rfl,rfl,hj,V⟩;refine cq (fun ce=>?_) (fun ce=>?_)
 ·have O:j<t.m:=om;refine ax ?_;refine xfk rfl (T.y.all O) ?_;refine lq fun b6=>?_;refine ax ?_;refine xqq [] R23 ?_;refine ex ?_;refine xvz rfl rfl rfl (fun _ pe=>Pp pe t om) ?_;refine ex ?_;refine xbv rfl rfl rfl rfl sdu (fun _ _ pe=>Pv pe t om) ?_;refine ex ?_;refine xtk rfl rfl rfl rfl sdu sdu (fun hc=>⟨⟨by simp at hc;omega,om⟩,Sl.ne Ty om⟩) ?_;refine ex ?_;refine xkw (vs:=[.J (t.wy.getD ((j:Int)-1).toNat wz).1,.J (t.wy.getD ((j:Int)-1).toNat wz).2]) rfl rfl rfl sdu (fun _=>T.y.all (k:=((j:Int)-1).toNat) om) ?_;refine ex ?_;refine ax ?_;refine xfx rfl rfl rfl sdu (fun _ _ pe=>Qb pe _ _) ?_;refine cq (fun M=>?_) (fun M=>?_)
  ·refine ax ?_;exact xxq func65 rfl rfl fun h_ H_=>a4 H_.kept fun z=>by
    have z:=z.y j O;rcases M with(c|c)|c
    ·exact c z.1
    ·exact c z.2.1
    ·exact c.2 (decide_eq_true (z.2.2 om))
  ·have h1:YOk t j:=⟨Classical.not_not.1 fun c=>M (.inl (.inl c)),Classical.not_not.1 fun c=>M (.inl (.inr c)),fun h0=>of_decide_eq_true (Classical.not_not.1 fun c=>M (.inr ⟨om,c⟩))⟩
   refine ax ?_;exact xhq (IH _ _ _ om ⟨j+1,rfl,rfl,rfl,rfl,om,fun i hi=>by
    rcases Nat.lt_or_ge i j with z|z
    ·exact V i z
    ·obtain rfl:i=j:=om;exact h1⟩)
 refine ax ?_;exact xxq func65 rfl rfl fun h_ H_=>K _ _ ⟨⟨true,rfl,by simp;exact⟨om,om,hH,hW,fun i hi=>V i om⟩⟩,H_.kept⟩
open Classical in
theorem d65(hp:Per p h){a1 O a3:Option Addr}{c1 M V:Nat}(t:Tn)(T:Ao p a1 t.nH O t.nW a3 t.m t)(hn:t.nH<=2^20/\t.nW<=2^20/\t.m<=2^20):
 Aa prog md 65 #[.agg #[.slice a1 t.nH c1,.slice O t.nW M,.slice a3 t.m V]] h fun v h'=>v=.bool (decide (Vd t))/\Af h h':=
 (c65 hp c1 M V t T hn).mono fun _ _⟨⟨_,e1,e⟩,kk⟩=>⟨e1.trans (congrArg Value.bool (by rw[Bool.eq_iff_iff,decide_eq_true_iff];exact e)),kk⟩
open Classical in
theorem c34(hp:Per p h){a1 V a3:Option Addr}{c1 c2 c3:Nat}(t:Tn)(T:Ao p a1 t.nH V t.nW a3 t.m t)(hn:t.nH<=2^20/\t.nW<=2^20/\t.m<=2^20):
 Aa prog md 34 #[.agg #[.slice a1 t.nH c1,.slice V t.nW c2,.slice a3 t.m c3]] h fun v h'=>v=.J (D5 t)/\Af h h':=by
 refine xdq hp func34 fun _ _ _ K=>?_;refine xgq rfl fun b1=>?_;refine ax ?_;refine xfx rfl rfl rfl sdu (fun _ _ pe=>d65 pe t T hn) ?_;refine cq (fun O=>?_) (fun O=>?_)
 ·refine ax ?_;exact K.r rfl rfl fun _ M=>⟨by rw[Fj fun z=>by rcases O with c|c;exact absurd z.1 om;exact c z.2];rfl,M.kept⟩
 ·refine ax ?_;exact K.r rfl rfl fun _ M=>⟨by rw[Cj om (Classical.not_not.1 fun c=>O (.inr c))];rfl,M.kept⟩
theorem c20(hp:Per p h)(A:TA)(t:Twn)(T:TwP p A t)(hn:t.fit (2^20)):
 Aa prog md 20 #[twV A t] h fun v h'=>v=.J (B9 t)/\Af h h':=by
 obtain⟨⟨n1,n2⟩,⟨n3,n4,n5⟩,n6⟩:=hn;refine xdq hp func20 fun _ _ _ K=>?_;refine xgq rfl fun b1=>?_;refine ax ?_;refine xiq rfl rfl (fun _ O=>c33 O t.s T.s ⟨om,om⟩) ?_;refine ax ?_;refine xfx rfl rfl rfl sdt (fun _ _ O=>c34 O t.b T.b ⟨om,om,om⟩) ?_;refine ax ?_;refine xfx rfl rfl rfl sdt (fun _ _ O=>c35 O T.d om) ?_;refine cq (fun M=>?_) (fun M=>?_)
 ·refine ax ?_;exact K.r rfl rfl fun _ V=>⟨by rw[B9,if_neg (fun z=>by simp[z]at M)];rfl,V.kept⟩
 ·refine ax ?_;exact K.r rfl rfl fun _ V=>⟨by rw[B9,if_pos (by simp at M;exact⟨M.1.1,M.1.2,M.2⟩)];rfl,V.kept⟩
end
open Go.X.Flow (Cc Wys wz ics Ao Tn)
open Go.X.Cist (Day Ba dz dcs Dm Aj)
theorem c38{md:Md}{h:Heap}{p:Ab}(hp:Per p h){size start:Int}{a:Option Addr}{n c:Nat}{ds:List Day}(D:Ba p a n ds)(hn:n<=2^20):
 Aa prog md 38 #[.agg #[.J size,.J start,.slice a n c]] h fun v h'=>∃Y,(∃a' V,v=.agg #[.J size,.J start,.slice a' n V]/\Ac 98 3 (.slice a' n V) (dcs ds) Y)/\New h h' Y:=by
 have hl:=D.len;refine xdq hp func38 fun _ _ _ K=>?_;refine xgq rfl fun b1=>?_;refine lq fun b2=>?_;refine lq fun b3=>?_;refine ax ?_;refine xbz rfl fun v1 Y1 O=>?_;have O:Ac 98 3 v1 [] Y1:=O;refine ax ?_;refine xow rfl rfl O D (Dm ds) (by simp;omega) fun v2 Y2 M=>?_;rw[List.nil_append]at M;obtain⟨a2,c2,rfl,-⟩:=M.val;rw[Aj,hl]at M⊢;refine ax ?_;exact K.e rfl (xtq rfl .nil) fun _ H_=>⟨Y2,⟨a2,c2,rfl,M⟩,D6 H_⟩
set_option maxHeartbeats 400000 in
theorem c36{md:Md}{h:Heap}{p:Ab}(hp:Per p h){a b:Option Addr}{ca cb:Nat}(s:Shf)(S:Ck p a b s)(hn:s.Ah.length<=2^20/\s.Ag.length<=2^20):
 Aa prog md 36 #[.agg #[.slice a s.Ah.length ca,.slice b s.Ag.length cb,.J s.deep,.J s.Cf,.J s.rest]] h fun v h'=>∃Y,(∃a' a4 b' a3 Y1 Y2,v=.agg #[.slice a' s.Ah.length a4,.slice b' s.Ag.length a3,.J s.deep,.J s.Cf,.J s.rest]/\Ac 92 4 (.slice a' s.Ah.length a4) (rcs s.Ah) Y1/\Ac 3 1 (.slice b' s.Ag.length a3) (ics s.Ag) Y2/\Y=Y1++Y2)/\New h h' Y:=by
 refine xdq hp func36 fun _ _ _ K=>?_;refine xgq rfl fun b1=>?_;refine lq fun b2=>?_;refine lq fun b3=>?_;refine ax ?_
 refine xpg 9 [3,7] [1,2,5,6,8] [0,3,4,7] (fun i=>match i with|3=>[0]|7=>[4]|_=>[]) (fun i=>match i with|2=>[1]|3=>[0,2]|6=>[5]|7=>[4,6]|_=>[])
  (fun i _ _ v x=>match i with
   |0=>Ac 92 4 v [] x
   |1=>v=w_ b1 0/\x=[]
   |2=>v=.slice a s.Ah.length ca/\x=[]
   |3=>Ac 92 4 v (rcs s.Ah) x
   |4=>Ac 3 1 v [] x
   |5=>v=w_ b1 1/\x=[]
   |6=>v=.slice b s.Ag.length cb/\x=[]
   |7=>Ac 3 1 v (ics s.Ag) x
   |8=>v=w_ b3 0/\x=[]
   |_=>True) (fun i hi val piece M=>?_) (fun val piece j hj v x q=>?_) (fun val piece M=>?_)
 ·match i,hi with
  |0,_=>
   refine xvk rfl rfl fun v Y o=>?_;have o:Ac 92 4 v [] Y:=o;exact xzq ⟨⟨_,rfl⟩,fun v' e=>by
    have V:=xpq e;subst V;show Ac _ _ _ _ ([Y]++[]).flatten;have ey:([Y]++([]:List Pcs)).flatten=Y:=by simp
    rw[ey];exact o⟩
  |1,_=>
   refine ex ?_;exact xzq ⟨⟨_,rfl⟩,fun v e=>⟨xpq e,rfl⟩⟩
  |2,_=>
   refine xnf (b:=b1) (off:=0) (cs:=#[.slice a s.Ah.length ca,.slice b s.Ag.length cb,.J s.deep,.J s.Cf,.J s.rest]) (T:=25) (z:=(0,0)) rfl rfl (by show some ([],val 1)=_;rw[(M 1 rfl).1]) sdt ?_;exact xzq ⟨⟨_,rfl⟩,fun v e=>⟨xpq e,rfl⟩⟩
  |3,_=>
   have O:Ac 92 4 (val 0) [] (piece 0):=M 0 rfl;show DE _ _ _ _ _ _ _ _ _ [piece 0];refine xxg rfl rfl (by show some ([],val 2)=_;rw[(M 2 rfl).1]) O S.r (xh1 _) (by simp;omega) fun v Y o=>?_;rw[List.nil_append]at o;exact xzq ⟨⟨_,rfl⟩,fun v' e=>by
    have V:=xpq e;subst V;show Ac _ _ _ _ ([Y]++[]).flatten;have ey:([Y]++([]:List Pcs)).flatten=Y:=by simp
    rw[ey];exact o⟩
  |4,_=>
   refine xvk rfl rfl fun v Y o=>?_;have o:Ac 3 1 v [] Y:=o;exact xzq ⟨⟨_,rfl⟩,fun v' e=>by
    have V:=xpq e;subst V;show Ac _ _ _ _ ([Y]++[]).flatten;have ey:([Y]++([]:List Pcs)).flatten=Y:=by simp
    rw[ey];exact o⟩
  |5,_=>
   refine ex ?_;exact xzq ⟨⟨_,rfl⟩,fun v e=>⟨xpq e,rfl⟩⟩
  |6,_=>
   refine xnf (b:=b1) (off:=1) (cs:=#[.slice a s.Ah.length ca,.slice b s.Ag.length cb,.J s.deep,.J s.Cf,.J s.rest]) (T:=25) (z:=(0,0)) rfl rfl (by show some ([],val 5)=_;rw[(M 5 rfl).1]) sdt ?_;exact xzq ⟨⟨_,rfl⟩,fun v e=>⟨xpq e,rfl⟩⟩
  |7,_=>
   have O:Ac 3 1 (val 4) [] (piece 4):=M 4 rfl;show DE _ _ _ _ _ _ _ _ _ [piece 4];refine xxg rfl rfl (by show some ([],val 6)=_;rw[(M 6 rfl).1]) O S.f (xdv _) (by simp;omega) fun v Y o=>?_;rw[List.nil_append]at o;exact xzq ⟨⟨_,rfl⟩,fun v' e=>by
    have V:=xpq e;subst V;show Ac _ _ _ _ ([Y]++[]).flatten;have ey:([Y]++([]:List Pcs)).flatten=Y:=by simp
    rw[ey];exact o⟩
  |8,_=>
   refine ex ?_;exact xzq ⟨⟨_,rfl⟩,fun v e=>⟨xpq e,rfl⟩⟩
 ·simp only[List.mem_cons,List.not_mem_nil,or_false]at hj;rcases hj with rfl|rfl|rfl|rfl|rfl<;>exact q.2
 have O:Ac 92 4 (val 3) (rcs s.Ah) (piece 3):=M 3 d_;have o2:Ac 3 1 (val 7) (ics s.Ag) (piece 7):=M 7 d_;refine xgb (l':=[(2,none,w_ b2 0),(3,none,w_ b3 0),(8,none,val 3),(12,none,val 7),(13,none,w_ b3 0)]) ?_ ⟨rfl,rfl,rfl,rfl,by show some (none,val 8)=_;rw[(M 8 d_).1],trivial⟩;clear M;generalize val 3=v1 at*;generalize val 7=v2 at*;show RO _ _ _ _ _ _ [piece 3,piece 7,[(b3,.cells #[.slice a s.Ah.length ca,.slice b s.Ag.length cb,.J s.deep,.J s.Cf,.J s.rest] 25 (0,0))],[(b2,.cells #[.slice none 0 0,.slice none 0 0,.J 0,.J 0,.J 0] 25 (0,0))],[(b1,.cells #[.slice a s.Ah.length ca,.slice b s.Ag.length cb,.J s.deep,.J s.Cf,.J s.rest] 25 (0,0))]];generalize piece 3=Y1 at*;generalize piece 7=Y2 at*;obtain⟨a1,c1,rfl,-⟩:=O.val;obtain⟨a2,c2,rfl,-⟩:=o2.val;rw[xvv]at O;rw[xvq]at o2;rw[xvv,xvq];refine ax ?_;exact K.e rfl (xtq rfl .nil) fun _ H_=>⟨_,⟨a1,c1,a2,c2,Y1,Y2,rfl,O,o2,rfl⟩,ygp H_⟩
set_option maxHeartbeats 400000 in
theorem c37{md:Md}{h:Heap}{p:Ab}(hp:Per p h){a1 a2 a3:Option Addr}{c1 c2 c3:Nat}(t:Tn)(S:Ao p a1 t.nH a2 t.nW a3 t.m t)(hn:t.nH<=2^20/\t.nW<=2^20/\t.m<=2^20):
 Aa prog md 37 #[.agg #[.slice a1 t.nH c1,.slice a2 t.nW c2,.slice a3 t.m c3]] h fun v h'=>∃Y,(∃x1 y1 x2 y2 x3 y3 Y1 Y2 Y3,v=.agg #[.slice x1 t.nH y1,.slice x2 t.nW y2,.slice x3 t.m y3]/\Ac 3 1 (.slice x1 t.nH y1) (ics t.hs) Y1/\Ac 3 1 (.slice x2 t.nW y2) (ics t.ws) Y2/\Ac 94 2 (.slice x3 t.m y3) (Flow.wcs t.wy) Y3/\Y=(Y1++Y2)++Y3)/\New h h' Y:=by
 refine xdq hp func37 fun _ _ _ K=>?_;refine xgq rfl fun b1=>?_;refine lq fun b2=>?_;refine ax ?_
 refine xpg 12 [3,7,11] [1,2,5,6,9,10] [0,3,4,7,8,11] (fun i=>match i with|3=>[0]|7=>[4]|11=>[8]|_=>[]) (fun i=>match i with|2=>[1]|3=>[0,2]|6=>[5]|7=>[4,6]|10=>[9]|11=>[8,10]|_=>[])
  (fun i _ _ v x=>match i with
   |0=>Ac 3 1 v [] x
   |1=>v=w_ b1 0/\x=[]
   |2=>v=.slice a1 t.nH c1/\x=[]
   |3=>Ac 3 1 v (ics t.hs) x
   |4=>Ac 3 1 v [] x
   |5=>v=w_ b1 1/\x=[]
   |6=>v=.slice a2 t.nW c2/\x=[]
   |7=>Ac 3 1 v (ics t.ws) x
   |8=>Ac 94 2 v [] x
   |9=>v=w_ b1 2/\x=[]
   |10=>v=.slice a3 t.m c3/\x=[]
   |11=>Ac 94 2 v (Flow.wcs t.wy) x
   |_=>True) (fun i hi val piece M=>?_) (fun val piece j hj v x q=>?_) (fun val piece M=>?_)
 ·match i,hi with
  |0,_=>
    refine xvk rfl rfl fun v Y o=>?_;have o:Ac 3 1 v [] Y:=o;exact xzq ⟨⟨_,rfl⟩,fun v' e=>by
     have O:=xpq e;subst O;show Ac _ _ _ _ ([Y]++[]).flatten;have V:([Y]++([]:List Pcs)).flatten=Y:=by simp
     rw[V];exact o⟩
  |1,_=>
    refine ex ?_;exact xzq ⟨⟨_,rfl⟩,fun v e=>⟨xpq e,rfl⟩⟩
  |2,_=>
    refine xnf (b:=b1) (off:=0) (cs:=#[.slice a1 t.nH c1,.slice a2 t.nW c2,.slice a3 t.m c3]) (T:=28) (z:=(0,0)) rfl rfl (by show some ([],val 1)=_;rw[(M 1 rfl).1]) sdt ?_;exact xzq ⟨⟨_,rfl⟩,fun v e=>⟨xpq e,rfl⟩⟩
  |3,_=>
    have o1:Ac 3 1 (val 0) [] (piece 0):=M 0 rfl;show DE _ _ _ _ _ _ _ _ _ [piece 0];refine xxg rfl rfl (by show some ([],val 2)=_;rw[(M 2 rfl).1]) o1 S.h (xdv _) (by simp;omega) fun v Y o=>?_;rw[List.nil_append]at o;exact xzq ⟨⟨_,rfl⟩,fun v' e=>by
     have O:=xpq e;subst O;show Ac _ _ _ _ ([Y]++[]).flatten;have V:([Y]++([]:List Pcs)).flatten=Y:=by simp
     rw[V];exact o⟩
  |4,_=>
    refine xvk rfl rfl fun v Y o=>?_;have o:Ac 3 1 v [] Y:=o;exact xzq ⟨⟨_,rfl⟩,fun v' e=>by
     have O:=xpq e;subst O;show Ac _ _ _ _ ([Y]++[]).flatten;have V:([Y]++([]:List Pcs)).flatten=Y:=by simp
     rw[V];exact o⟩
  |5,_=>
    refine ex ?_;exact xzq ⟨⟨_,rfl⟩,fun v e=>⟨xpq e,rfl⟩⟩
  |6,_=>
    refine xnf (b:=b1) (off:=1) (cs:=#[.slice a1 t.nH c1,.slice a2 t.nW c2,.slice a3 t.m c3]) (T:=28) (z:=(0,0)) rfl rfl (by show some ([],val 5)=_;rw[(M 5 rfl).1]) sdt ?_;exact xzq ⟨⟨_,rfl⟩,fun v e=>⟨xpq e,rfl⟩⟩
  |7,_=>
    have o1:Ac 3 1 (val 4) [] (piece 4):=M 4 rfl;show DE _ _ _ _ _ _ _ _ _ [piece 4];refine xxg rfl rfl (by show some ([],val 6)=_;rw[(M 6 rfl).1]) o1 S.w (xdv _) (by simp;omega) fun v Y o=>?_;rw[List.nil_append]at o;exact xzq ⟨⟨_,rfl⟩,fun v' e=>by
     have O:=xpq e;subst O;show Ac _ _ _ _ ([Y]++[]).flatten;have V:([Y]++([]:List Pcs)).flatten=Y:=by simp
     rw[V];exact o⟩
  |8,_=>
    refine xvk rfl rfl fun v Y o=>?_;have o:Ac 94 2 v [] Y:=o;exact xzq ⟨⟨_,rfl⟩,fun v' e=>by
     have O:=xpq e;subst O;show Ac _ _ _ _ ([Y]++[]).flatten;have V:([Y]++([]:List Pcs)).flatten=Y:=by simp
     rw[V];exact o⟩
  |9,_=>
    refine ex ?_;exact xzq ⟨⟨_,rfl⟩,fun v e=>⟨xpq e,rfl⟩⟩
  |10,_=>
    refine xnf (b:=b1) (off:=2) (cs:=#[.slice a1 t.nH c1,.slice a2 t.nW c2,.slice a3 t.m c3]) (T:=28) (z:=(0,0)) rfl rfl (by show some ([],val 9)=_;rw[(M 9 rfl).1]) sdt ?_;exact xzq ⟨⟨_,rfl⟩,fun v e=>⟨xpq e,rfl⟩⟩
  |11,_=>
    have o1:Ac 94 2 (val 8) [] (piece 8):=M 8 rfl;show DE _ _ _ _ _ _ _ _ _ [piece 8];refine xxg rfl rfl (by show some ([],val 10)=_;rw[(M 10 rfl).1]) o1 S.y (xdm _) (by simp;omega) fun v Y o=>?_;rw[List.nil_append]at o;exact xzq ⟨⟨_,rfl⟩,fun v' e=>by
     have O:=xpq e;subst O;show Ac _ _ _ _ ([Y]++[]).flatten;have V:([Y]++([]:List Pcs)).flatten=Y:=by simp
     rw[V];exact o⟩
 ·simp only[List.mem_cons,List.not_mem_nil,or_false]at hj;rcases hj with rfl|rfl|rfl|rfl|rfl|rfl<;>exact q.2
 have o1:Ac 3 1 (val 3) (ics t.hs) (piece 3):=M 3 d_;have o2:Ac 3 1 (val 7) (ics t.ws) (piece 7):=M 7 d_;have o3:Ac 94 2 (val 11) (Flow.wcs t.wy) (piece 11):=M 11 d_;refine xgb (l':=[(2,none,w_ b2 0),(6,none,val 3),(10,none,val 7),(14,none,val 11)]) ?_ ⟨rfl,rfl,rfl,rfl,trivial⟩;clear M;generalize val 3=v1 at*;generalize val 7=v2 at*;generalize val 11=v3 at*;show RO _ _ _ _ _ _ [piece 3,piece 7,piece 11,[(b2,.cells #[.slice none 0 0,.slice none 0 0,.slice none 0 0] 28 (0,0))],[(b1,.cells #[.slice a1 t.nH c1,.slice a2 t.nW c2,.slice a3 t.m c3] 28 (0,0))]];generalize piece 3=Y1 at*;generalize piece 7=Y2 at*;generalize piece 11=Y3 at*;obtain⟨x1,y1,rfl,-⟩:=o1.val;obtain⟨x2,y2,rfl,-⟩:=o2.val;obtain⟨x3,y3,rfl,-⟩:=o3.val;rw[xvq]at o1 o2;rw[Flow.Ap]at o3;rw[xvq,xvq,Flow.Ap];refine ax ?_;exact K.e rfl (xtq rfl .nil) fun _ H_=>⟨_,⟨x1,y1,x2,y2,x3,y3,Y1,Y2,Y3,rfl,o1,o2,o3,rfl⟩,(xa6 H_).new⟩
theorem c21{md:Md}{h:Heap}{p:Ab}(hp:Per p h)(A:TA)(t:Twn)(T:TwP p A t)(hn:t.fit (2^20)):
 Aa prog md 21 #[twV A t] h (Ar p h fun v p'=>∃A',v=twV A' t/\TwP p' A' t):=by
 obtain⟨⟨n1,n2⟩,⟨n3,n4,n5⟩,n6⟩:=hn;refine xdq hp func21 fun _ _ _ K=>?_;refine xgq rfl fun b1=>?_;refine lq fun b2=>?_;refine ax ?_;refine xqq [2,5] [0,1,3,4,6,7,2,5] ?_;refine ex ?_;refine xuk rfl rfl rfl (fun _ V=>c36 V t.s T.s ⟨n1,n2⟩) ?_;rintro _ _ ⟨a1,c1,a2,c2,Y1,Y2,rfl,o1,o2,rfl⟩;refine ex ?_;refine xuk rfl rfl rfl (fun _ V=>c37 V t.b T.b ⟨n3,n4,n5⟩) ?_;rintro _ _ ⟨a3,c3,a4,c4,a5,c5,Y3,Y4,Y5,rfl,o3,o4,o5,rfl⟩;refine ex ?_;refine ax ?_;refine xdj rfl rfl (fun _ V=>c38 V T.d n6) ?_;rintro _ Y6 ⟨a6,c6,rfl,o6⟩;refine ax ?_;refine xpz Y1 Y2 ?_;refine xpz (Y3++Y4) Y5 ?_;refine xpz Y3 Y4 ?_;refine xoq o1 (m:=t.s.Ah.length) (xvv _) d_ fun p1 _ _ g1 e1 b4 S1=>?_;cases e1;refine xoq o2 (m:=t.s.Ag.length) (xvq _) d_ fun p2 _ _ g2 e2 a9 S2=>?_;cases e2;refine xoq o3 (m:=t.b.nH) (xvq _) d_ fun p3 _ _ g3 e3 b3 S3=>?_;cases e3;refine xoq o4 (m:=t.b.nW) (xvq _) d_ fun p4 _ _ g4 e4 a7 S4=>?_;cases e4;refine xoq o5 (m:=t.b.m) (Flow.Ap _) d_ fun p5 _ _ O e5 a8 S5=>?_;cases e5;refine xoq o6 (m:=t.y.days.length) (Aj _) d_ fun p6 _ _ M e6 b0 S6=>?_;cases e6
 exact K.e rfl (xtq rfl .nil) fun _ H_=>(xwq H_ (((((g1.trans g2).trans g3).trans g4).trans O).trans M) ⟨⟨(a1,c1),(a2,c2),(a3,c3),(a4,c4),(a5,c5),(a6,c6)⟩,rfl,
  ⟨⟨Sl.mono ((((g2.trans g3).trans g4).trans O).trans M).le S1,Sl.mono (((g3.trans g4).trans O).trans M).le S2⟩,⟨Sl.mono ((g4.trans O).trans M).le S3,Sl.mono (O.trans M).le S4,Sl.mono M.le S5⟩,S6,⟨b4,a9⟩,⟨b3,a7,a8⟩,b0⟩⟩)
open Go.X.Flow (Cc Wys wz ics Ao Tn D5)
theorem xn4{x y A B:Int}(O:0<=x/\x<=A)(M:0<=y/\y<=B):0<=x*y/\x*y<=A*B:=
 ⟨Int.mul_nonneg O.1 M.1,Int.mul_le_mul O.2 M.2 M.1 om⟩
theorem Ss{md:Md}{h:Heap}{p:Ab}(V:Per p h){a b:Option Addr}{M cb:Nat}(s:Shf)(hn:s.Ah.length<=9223372036854775807/\s.Ag.length<=9223372036854775807):
 Aa prog md 133 #[.agg #[.slice a s.Ah.length M,.slice b s.Ag.length cb,.J s.deep,.J s.Cf,.J s.rest],.slice none 0 0] h fun v h'=>v=.bool (decide (40<s.Ah.length\/40<s.Ag.length))/\Af h h':=by
 refine xdq V func133 fun _ _ _ K=>?_;refine xgq rfl fun b1=>?_;refine ax ?_;exact K.r rfl rfl fun _ O=>⟨congrArg Value.bool (by rw[Bool.eq_iff_iff];simp;omega),O.kept⟩
theorem c56{md:Md}{h:Heap}{p:Ab}(hp:Per p h){a b:Option Addr}{ca cb:Nat}(s:Shf)(S:Ck p a b s)(hn:s.Ah.length<=9223372036854775807/\s.Ag.length<=9223372036854775807):
 Aa prog md 56 #[.agg #[.slice a s.Ah.length ca,.slice b s.Ag.length cb,.J s.deep,.J s.Cf,.J s.rest]] h fun v h'=>v=.bool (decide ((40<s.Ah.length\/40<s.Ag.length)\/(8<s.Ag.length/\Hc s=0)))/\Af h h':=by
 refine xdq hp func56 fun _ _ _ K=>?_;refine xgq rfl fun b1=>?_;refine ax ?_;refine xiq rfl rfl (fun _ M=>Ss M s hn) ?_;refine ax ?_;refine xfx rfl rfl rfl sdu (fun O _ M=>c33 M s S (by simp at O;omega)) ?_;refine ax ?_;exact K.r rfl rfl fun _ V=>⟨congrArg Value.bool (by rw[Bool.eq_iff_iff];simp;omega),V.kept⟩
theorem Tf{md:Md}{h:Heap}{p:Ab}(hp:Per p h){a1 a2 a3:Option Addr}{O c2 c3:Nat}(t:Tn)(hn:t.nH<=9223372036854775807/\t.nW<=9223372036854775807/\t.m<=9223372036854775807):
 Aa prog md 134 #[.agg #[.slice a1 t.nH O,.slice a2 t.nW c2,.slice a3 t.m c3]] h fun v V=>v=.bool (decide ((40<t.nH\/40<t.nW)\/40<t.m))/\Af h V:=by
 refine xdq hp func134 fun _ _ _ K=>?_;refine xgq rfl fun b1=>?_;refine ax ?_;exact K.r rfl rfl fun _ M=>⟨congrArg Value.bool (by rw[Bool.eq_iff_iff];simp;omega),M.kept⟩
theorem c58{md:Md}{h:Heap}{p:Ab}(hp:Per p h){size start:Int}{a:Option Addr}{n c:Nat}{ds:List Day}(D:Ba p a n ds)(hn:n<=9223372036854775807):
 Aa prog md 58 #[.agg #[.J size,.J start,.slice a n c]] h fun v h'=>(∃q:Bool,v=.bool q/\(q=false->n<=40))/\Af h h':=by
 have hl:=D.len;have D2:Sl p a n 3 (Cist.dcs ds):=D;refine xdq hp func58 fun _ _ _ K=>?_;refine xgq rfl fun b1=>?_;refine cq (fun cc=>?_) (fun cc=>?_)
 ·refine ax ?_;exact K.r rfl rfl fun _ M=>⟨⟨true,rfl,s_⟩,M.kept⟩
 refine ax ?_;refine xiq rfl rfl (fun _ pe=>c35 pe D om) ?_;refine cq (fun V=>?_) (fun V=>?_)
 ·refine ax ?_;exact K.r rfl rfl fun _ M=>⟨⟨false,rfl,fun _=>om⟩,M.kept⟩
 have Y:Cist.Ok size start ds:=Cist.Bu.1 (by simpa using V);refine ax ?_;refine xmq (fun m_ l p_ L_=>∃(j:Nat)(x:Int),m_=n-j/\l=[(1,none,w_ b1 0),(3,none,.J x),(4,none,.J ((j:Nat):Int))]/\p_=p/\L_=[[(b1,.cells #[.J size,.J start,.slice a n c] 31 (0,0))]]/\j<=n/\0<=x/\x<=60) ⟨0,1,rfl,rfl,rfl,rfl,Nat.zero_le _,d_,d_⟩ sb ?_;rintro _ _ p _ IH ⟨j,x,rfl,rfl,rfl,rfl,hj,h0,h1⟩;refine cq (fun ce=>?_) (fun ce=>?_)
 ·have O:j<n:=om;have hd:=Y.2.2.2.2.2 j om;unfold Cist.C7 at hd;refine ax ?_;refine xqq [] R17 ?_;refine ex ?_;refine xak (u:=.J (ds.getD j dz).hi) rfl rfl rfl sdt (Cist.Ba.at D O rfl) ?_;refine ex ?_;refine xak (u:=.J (ds.getD j dz).lo) rfl rfl rfl sdt (Cist.Ba.at D O (j:=0) rfl) ?_;refine ex ?_;refine ax ?_;have hm:=xn4 (x:=x) (y:=(ds.getD j dz).hi-(ds.getD j dz).lo+1) (A:=60) (B:=21) ⟨h0,h1⟩ ⟨om,om⟩;refine xrv rfl rfl ⟨wrZ om,trivial⟩ ?_;refine cq (fun cf=>?_) (fun cf=>?_)
  ·refine ax ?_;exact K.r rfl rfl fun _ M=>⟨⟨true,rfl,s_⟩,M.kept⟩
  ·refine ax ?_;exact xhq (IH _ _ _ om ⟨j+1,_,rfl,rfl,rfl,rfl,om,hm.1,om⟩)
 refine ax ?_;exact K.r rfl rfl fun _ M=>⟨⟨false,rfl,fun _=>om⟩,M.kept⟩
theorem c57{md:Md}{h:Heap}{p:Ab}(hp:Per p h){a1 a2 a3:Option Addr}{c1 c2 c3:Nat}(t:Tn)(T:Ao p a1 t.nH a2 t.nW a3 t.m t)(hn:t.nH<=9223372036854775807/\t.nW<=9223372036854775807/\t.m<=9223372036854775807):
 Aa prog md 57 #[.agg #[.slice a1 t.nH c1,.slice a2 t.nW c2,.slice a3 t.m c3]] h fun v h'=>(∃q:Bool,v=.bool q/\(q=false->t.nH<=40/\t.nW<=40/\t.m<=40))/\Af h h':=by
 have Th:=T.h;have Tw:=T.w;have Ty:Sl p a3 t.m 2 (Flow.wcs t.wy):=T.y;refine xdq hp func57 fun _ _ _ K=>?_;refine xgq rfl fun b1=>?_;refine ax ?_;refine xiq rfl rfl (fun _ pe=>Tf pe t hn) ?_;refine cq (fun cc=>?_) (fun cc=>?_)
 ·refine ax ?_;exact K.r rfl rfl fun _ M=>⟨⟨true,rfl,s_⟩,M.kept⟩
 refine ax ?_;refine xiq rfl rfl (fun _ pe=>c34 pe t T om) ?_;refine cq (fun cd=>?_) (fun cd=>?_)
 ·refine ax ?_;exact K.r rfl rfl fun _ M=>⟨⟨false,rfl,fun _=>om⟩,M.kept⟩
 obtain⟨hm,V⟩:=Flow.Mk (t:=t) (by simpa using cd);refine ax ?_;refine xmq (fun m_ l p_ L_=>∃(j:Nat)(x:Int),m_=t.m-j/\l=[(1,none,w_ b1 0),(3,none,.J x),(4,none,.J ((j:Nat):Int))]/\p_=p/\L_=[[(b1,.cells #[.slice a1 t.nH c1,.slice a2 t.nW c2,.slice a3 t.m c3] 28 (0,0))]]/\j<=t.m/\0<=x/\x<=2000) ⟨0,1,rfl,rfl,rfl,rfl,Nat.zero_le _,d_,d_⟩ sb ?_;rintro _ _ p _ IH ⟨j,x,rfl,rfl,rfl,rfl,hj,h0,h1⟩;refine cq (fun ce=>?_) (fun ce=>?_)
 ·have O:j<t.m:=om;have hy:=V.y j O;have y1:=hy.1;have y2:=hy.2.1;have bh:=V.h (t.wy.getD j wz).1.toNat om;have bw:=V.w (t.wy.getD j wz).2.toNat om;refine ax ?_;refine xqq [] R23 ?_;refine ex ?_;refine xak (u:=.J (t.wy.getD j wz).1) rfl rfl rfl sdt (T.y.at O (j:=0) rfl) ?_;refine ex ?_;refine xtk rfl rfl rfl rfl sdt sdt ⟨⟨y1.1,om⟩,Sl.ne Th om⟩ ?_;refine xak (u:=.J (t.hs.getD (t.wy.getD j wz).1.toNat 0)) rfl rfl rfl sdt (As.get Th om) ?_;refine ex ?_;refine xak (u:=.J (t.wy.getD j wz).2) rfl rfl rfl sdt (T.y.at O (j:=1) rfl) ?_;refine ex ?_;refine xtk rfl rfl rfl rfl sdt sdt ⟨⟨y2.1,om⟩,Sl.ne Tw om⟩ ?_;refine xak (u:=.J (t.ws.getD (t.wy.getD j wz).2.toNat 0)) rfl rfl rfl sdt (As.get Tw om) ?_;refine ex ?_;refine ax ?_;have a4:=xn4 (x:=x) (y:=min (t.hs.getD (t.wy.getD j wz).1.toNat 0) (t.ws.getD (t.wy.getD j wz).2.toNat 0)+1) (A:=2000) (B:=10) ⟨h0,h1⟩ ⟨om,om⟩;refine xrv rfl rfl ⟨wrZ om,trivial⟩ ?_;refine cq (fun cf=>?_) (fun cf=>?_)
  ·refine ax ?_;exact K.r rfl rfl fun _ M=>⟨⟨true,rfl,s_⟩,M.kept⟩
  ·refine ax ?_;exact xhq (IH _ _ _ om ⟨j+1,_,rfl,rfl,rfl,rfl,om,a4.1,om⟩)
 refine ax ?_;exact K.r rfl rfl fun _ M=>⟨⟨false,rfl,fun _=>om⟩,M.kept⟩
set_option maxHeartbeats 400000 in
theorem c31{md:Md}{h:Heap}{p:Ab}(hp:Per p h)(A:TA)(t:Twn)(T:TwP p A t)(hn:t.fit 9223372036854775807):
 Aa prog md 31 #[twV A t] h fun v h'=>(∃q:Bool,v=.bool q/\(q=false->t.fit 40))/\Af h h':=by
 obtain⟨⟨n1,n2⟩,⟨n3,n4,n5⟩,n6⟩:=hn;refine xdq hp func31 fun _ _ _ K=>?_;refine xgq rfl fun b1=>?_;refine ax ?_;refine xiq rfl rfl (fun _ pe=>c56 pe t.s T.s ⟨n1,n2⟩) ?_;refine ax ?_;refine xxs rfl rfl rfl sdu (fun h pe=>(c57 pe t.b T.b ⟨n3,n4,n5⟩).mono fun _ _ x=>⟨x.1,x.2⟩) fun q1 h1=>?_;refine ax ?_;refine xxs rfl rfl rfl sdu (fun h pe=>(c58 pe T.d n6).mono fun _ _ x=>⟨x.1,x.2⟩) fun q2 h2=>?_;refine cq (fun cc=>?_) (fun cc=>?_)
 ·refine ax ?_;exact K.r rfl rfl fun _ H_=>⟨⟨true,rfl,fun z=>by cases z⟩,H_.kept⟩
 have M:t.fit 40:=by
  simp at cc;obtain⟨⟨⟨⟨r1,r2⟩,r3⟩,rfl⟩,rfl⟩:=cc;have r4:t.s.Ag.length<=8\/ ¬Hc t.s=0:=by
   rcases Nat.lt_or_ge 8 t.s.Ag.length with z|z
   ·exact .inr (r3 z)
   ·exact .inl z
  exact⟨⟨r1,r2⟩,h1 (by simp;exact⟨⟨r1,r2⟩,r4⟩) rfl,h2 (by simp;exact⟨⟨r1,r2⟩,r4⟩) rfl⟩
 have a2:=M.up (n':=2^20) om;refine ax ?_;refine xiq rfl rfl (fun _ pe=>c20 pe A t T a2) ?_;refine cq (fun cd=>?_) (fun cd=>?_)
 ·refine ax ?_;exact K.r rfl rfl fun _ H_=>⟨⟨false,rfl,fun _=>M⟩,H_.kept⟩
 refine ax ?_;have hv:B9 t=0:=by simpa using cd
 obtain⟨_,hB,hC⟩:=xhj.1 hv;obtain⟨hm,V⟩:=Flow.Mk hB;have Y:Cist.Ok t.y.size t.y.start t.y.days:=Cist.Bu.1 hC;have Th:=T.b.h;have Tw:=T.b.w;have Ty:Sl p A.y.1 t.b.m 2 (Flow.wcs t.b.wy):=T.b.y;have Td:Sl p A.d.1 t.y.days.length 3 (Cist.dcs t.y.days):=T.d;refine xmq (fun m_ l p_ L_=>∃(j:Nat)(x:Int),m_=t.b.m-j/\l=[(1,none,w_ b1 0),(3,none,.J x),(4,none,.J ((j:Nat):Int))]/\p_=p/\L_=[[(b1,.cells (tcs A t).toArray 33 (0,0))]]/\j<=t.b.m/\0<=x/\x<=((10^j:Nat):Int)) ⟨0,1,rfl,rfl,rfl,rfl,Nat.zero_le _,d_,d_⟩ sb ?_;rintro _ _ p _ IH ⟨j,x,rfl,rfl,rfl,rfl,hj,h0,h1⟩;refine cq (fun ce=>?_) (fun ce=>?_)
 ·have a5:j<t.b.m:=om;have hy:=V.y j a5;have y1:=hy.1;have y2:=hy.2.1;have bh:=V.h (t.b.wy.getD j wz).1.toNat om;have bw:=V.w (t.b.wy.getD j wz).2.toNat om;refine ax ?_;refine xfk rfl (T.b.y.all a5) ?_;refine lq fun b5=>?_;refine ax ?_;refine xqq [] R17 ?_;refine ex ?_;refine xtk rfl rfl rfl rfl sdt sdt ⟨⟨y1.1,om⟩,Sl.ne Th om⟩ ?_;refine xak (u:=.J (t.b.hs.getD (t.b.wy.getD j wz).1.toNat 0)) rfl rfl rfl sdt (As.get Th om) ?_;refine ex ?_;refine xtk rfl rfl rfl rfl sdt sdt ⟨⟨y2.1,om⟩,Sl.ne Tw om⟩ ?_;refine xak (u:=.J (t.b.ws.getD (t.b.wy.getD j wz).2.toNat 0)) rfl rfl rfl sdt (As.get Tw om) ?_;refine ex ?_;refine ax ?_;have O:=xn4 (x:=x) (y:=min (t.b.hs.getD (t.b.wy.getD j wz).1.toNat 0) (t.b.ws.getD (t.b.wy.getD j wz).2.toNat 0)+1) (A:=((10^j:Nat):Int)) (B:=10) ⟨h0,h1⟩ ⟨om,om⟩;have a6:10^j<=10^12:=Nat.pow_le_pow_right d_ om;have a7:(10:Nat)^12=1000000000000:=by decide
  have a3:((10^(j+1):Nat):Int)=((10^j:Nat):Int)*10:=by rw[Nat.pow_succ];rfl
  refine xrv rfl rfl ⟨wrZ om,trivial⟩ ?_;refine ax ?_;exact xhq (IH _ _ _ om ⟨j+1,_,rfl,rfl,rfl,rfl,om,O.1,by rw[a3];exact O.2⟩)
 clear IH h1;refine ax ?_;have a8:=Y.2.2.2.2.1;refine xmq (fun m_ l p_ L_=>∃(j:Nat)(z:Int),m_=t.y.days.length-j/\l=[(1,none,w_ b1 0),(3,none,.J x),(6,none,.J z),(7,none,.J ((j:Nat):Int))]/\p_=p/\L_=[[(b1,.cells (tcs A t).toArray 33 (0,0))]]/\j<=t.y.days.length/\0<=z/\z<=((21^j:Nat):Int)) ⟨0,1,rfl,rfl,rfl,rfl,Nat.zero_le _,d_,d_⟩ sb ?_;rintro _ _ p _ IH ⟨i,z,rfl,rfl,rfl,rfl,hi,z0,z1⟩;refine cq (fun cf=>?_) (fun cf=>?_)
 ·have a4:i<t.y.days.length:=om;have hd:=Y.2.2.2.2.2 i om;unfold Cist.C7 at hd;refine ax ?_;refine xqq [] R19 ?_;refine ex ?_;refine xak (u:=.J (t.y.days.getD i dz).hi) rfl rfl rfl sdt (Cist.Ba.at T.d a4 (j:=1) rfl) ?_;refine ex ?_;refine xak (u:=.J (t.y.days.getD i dz).lo) rfl rfl rfl sdt (Cist.Ba.at T.d a4 (j:=0) rfl) ?_;refine ex ?_;refine ax ?_;have O:=xn4 (x:=z) (y:=(t.y.days.getD i dz).hi-(t.y.days.getD i dz).lo+1) (A:=((21^i:Nat):Int)) (B:=21) ⟨z0,z1⟩ ⟨om,om⟩;have a6:21^i<=21^8:=Nat.pow_le_pow_right d_ om;have a7:(21:Nat)^8=37822859361:=by decide
  have a3:((21^(i+1):Nat):Int)=((21^i:Nat):Int)*21:=by rw[Nat.pow_succ];rfl
  refine xrv rfl rfl ⟨wrZ om,trivial⟩ ?_;refine ax ?_;exact xhq (IH _ _ _ om ⟨i+1,_,rfl,rfl,rfl,rfl,om,O.1,by rw[a3];exact O.2⟩)
 refine ax ?_;exact K.r rfl rfl fun _ H_=>⟨⟨_,rfl,fun _=>M⟩,H_.kept⟩
open Go.X.Flow (ics)
theorem c14{md:Md}{h:Heap}{p:Ab}(hp:Per p h){a b:Option Addr}{n m ca cb:Nat}(xs V:List Str)(S:B4 p a n xs)(S':B4 p b m V)(hn:n<=2^30/\m<=2^30):
 Aa prog md 14 #[.slice a n ca,.slice b m cb] h fun v h'=>v=.bool (decide (xs=V))/\Af h h':=by
 have hl:=S.len;have a2:=S'.len;have S1:Sl p a n 1 (scs xs):=S;have S2:Sl p b m 1 (scs V):=S';refine xdq hp func14 fun _ _ _ K=>?_;refine xlq rfl (fun cc=>?_) (fun cc=>?_)
 ·refine ax ?_;exact K.r rfl rfl fun _ O=>⟨by rw[decide_eq_false (fun e=>by rw[e]at hl;omega)];rfl,O.kept⟩
 obtain rfl:n=m:=om;refine ax ?_;refine xsq (fun m_ l=>∃j:Nat,m_=n-j/\l=[(0,none,.slice a n ca),(1,none,.slice b n cb),(5,none,.J ((j:Nat):Int))]/\j<=n/\ ∀i,i<j->xs.getD i []=V.getD i []) ⟨0,rfl,rfl,Nat.zero_le _,om⟩ sb ?_;rintro _ _ IH ⟨j,rfl,rfl,hj,hq⟩;refine cq (fun cd=>?_) (fun cd=>?_)
 ·have M:j<n:=om;refine ax ?_;refine xqq [] R8 ?_;refine ex ?_;refine xgj rfl rfl (B4.get S M) ?_;refine ex ?_;refine xgj rfl rfl (B4.get S' M) ?_;refine ex ?_;refine cq (fun ce=>?_) (fun ce=>?_)
  ·refine ax ?_;exact K.r rfl rfl fun _ O=>⟨by rw[decide_eq_false (fun e=>ce (by rw[e]))];rfl,O.kept⟩
  ·refine ax ?_;exact xhq (IH _ om ⟨j+1,rfl,rfl,om,fun i hi=>by
    rcases Nat.lt_or_ge i j with z|z
    ·exact hq i z
    ·obtain rfl:i=j:=om;exact Classical.not_not.1 ce⟩)
 refine ax ?_;exact K.r rfl rfl fun _ O=>⟨by rw[decide_eq_true (xp4 (d:=[]) om fun i hi=>hq i om)];rfl,O.kept⟩
theorem c13(md:Md)(h:Heap)(p:Ab)(hp:Per p h)(a b:Option Addr)(n m ca cb:Nat)(xs O:List Int)(S:As p a n xs)(S':As p b m O)(hn:n<=2^30/\m<=2^30):
 Aa prog md 13 #[.slice a n ca,.slice b m cb] h fun v h'=>v=.bool (decide (xs=O))/\Af h h':=by
 have hl:=S.len;have a2:=S'.len;have S1:Sl p a n 1 (ics xs):=S;have S2:Sl p b m 1 (ics O):=S';refine xdq hp func13 fun _ _ _ K=>?_;refine xlq rfl (fun cc=>?_) (fun cc=>?_)
 ·refine ax ?_;exact K.r rfl rfl fun _ M=>⟨by rw[decide_eq_false (fun e=>by rw[e]at hl;omega)];rfl,M.kept⟩
 obtain rfl:n=m:=om;refine ax ?_;refine xsq (fun m_ l=>∃j:Nat,m_=n-j/\l=[(0,none,.slice a n ca),(1,none,.slice b n cb),(5,none,.J ((j:Nat):Int))]/\j<=n/\ ∀i,i<j->xs.getD i 0=O.getD i 0) ⟨0,rfl,rfl,Nat.zero_le _,om⟩ sb ?_;rintro _ _ IH ⟨j,rfl,rfl,hj,hq⟩;refine cq (fun cd=>?_) (fun cd=>?_)
 ·have a3:j<n:=om;refine ax ?_;refine xqq [] R8 ?_;refine ex ?_;refine cq (fun V=>?_) (fun V=>?_)
  ·refine ax ?_;exact K.r rfl rfl fun _ M=>⟨by rw[decide_eq_false (fun e=>V (by rw[e]))];rfl,M.kept⟩
  ·refine ax ?_;exact xhq (IH _ om ⟨j+1,rfl,rfl,om,fun i hi=>by
    rcases Nat.lt_or_ge i j with z|z
    ·exact hq i z
    ·obtain rfl:i=j:=om;exact Classical.not_not.1 V⟩)
 refine ax ?_;exact K.r rfl rfl fun _ M=>⟨by rw[decide_eq_true (xp4 (d:=0) om fun i hi=>hq i om)];rfl,M.kept⟩
theorem Se{a b c d:Int}:∀h(K:Bool->Heap->Prop),K true h->wpS prog (Op.equalIn (9999+1) 92 (.agg #[.J a,.J b,.J c,.J d]) (.agg #[.J a,.J b,.J c,.J d])) h K:=fun h K k=>
 xxj underlying92 k_ (xlf fun f hf=>by
  simp only[List.mem_cons,List.not_mem_nil,or_false]at hf;rcases hf with rfl|rfl|rfl|rfl<;>exact⟨d_,underlying3,k_,_,rfl⟩) k
theorem Sm{a b:Int}:∀h(K:Bool->Heap->Prop),K true h->wpS prog (Op.equalIn (9999+1) 94 (.agg #[.J a,.J b]) (.agg #[.J a,.J b])) h K:=fun h K k=>
 xxj underlying94 k_ (xlf fun f hf=>by
  simp only[List.mem_cons,List.not_mem_nil,or_false]at hf;rcases hf with rfl|rfl<;>exact⟨d_,underlying3,k_,_,rfl⟩) k
theorem U6(n:Nat)(a b:Int):∀h(K:Bool->Heap->Prop),K true h->wpS prog (Op.equalIn (n+2) 96 (.agg #[.J a,.J b]) (.agg #[.J a,.J b])) h K:=fun h K k=>
 xxj underlying96 k_ (xlf fun f hf=>by
  simp only[List.mem_cons,List.not_mem_nil,or_false]at hf;rcases hf with rfl|rfl<;>exact⟨d_,underlying3,k_,_,rfl⟩) k
theorem Ut{a b c:Int}:∀h(K:Bool->Heap->Prop),K true h->wpS prog (Op.equalIn (9999+1) 98 (.agg #[.J a,.J b,.J c]) (.agg #[.J a,.J b,.J c])) h K:=fun h K k=>
 xxj underlying98 k_ (r:=true) ⟨d_,_,_,true,fun h K k=>xds k_ (n:=2) k_ k,fun h K k=>xds k_ (n:=2) k_ k,fun h K k=>U6 9997 a b h K k,.inr ⟨rfl,d_,_,_,true,fun h K k=>xkz k_ rfl k,fun h K k=>xkz k_ rfl k,fun h K k=>xmv underlying3 (by simpa using k),.inr ⟨rfl,rfl⟩⟩⟩ k
theorem c22{md:Md}{h:Heap}{p:Ab}(hp:Per p h){a b a' b':Option Addr}{ca cb V M:Nat}(s:Shf)(S:Ck p a b s)(S':Ck p a' b' s)(hn:s.Ah.length<=2^20/\s.Ag.length<=2^20):
 Aa prog md 22 #[.agg #[.slice a s.Ah.length ca,.slice b s.Ag.length cb,.J s.deep,.J s.Cf,.J s.rest],.agg #[.slice a' s.Ah.length V,.slice b' s.Ag.length M,.J s.deep,.J s.Cf,.J s.rest]] h fun v h'=>v=.bool true/\Af h h':=by
 have S1:Sl p a s.Ah.length 4 (rcs s.Ah):=S.r;have S2:Sl p a' s.Ah.length 4 (rcs s.Ah):=S'.r;refine xdq hp func22 fun _ _ _ K=>?_;refine xgq rfl fun b1=>?_;refine bq fun b2=>?_;refine ax ?_;refine xfx rfl rfl rfl sdu (fun _ _ pe=>c13 md _ _ pe _ _ _ _ _ _ s.Ag s.Ag S.f S'.f om) ?_;refine ax ?_;refine xlq rfl (fun cc=>absurd cc s_) (fun _=>?_);refine ax ?_;refine xmq (fun m_ l p_ L_=>∃j:Nat,m_=s.Ah.length-j/\l=[(2,none,w_ b1 0),(3,none,w_ b2 0),(5,none,.J ((j:Nat):Int))]/\p_=p/\L_=[[(b2,.cells #[.slice a' s.Ah.length V,.slice b' s.Ag.length M,.J s.deep,.J s.Cf,.J s.rest] 25 (0,0))],[(b1,.cells #[.slice a s.Ah.length ca,.slice b s.Ag.length cb,.J s.deep,.J s.Cf,.J s.rest] 25 (0,0))]]/\j<=s.Ah.length) ⟨0,rfl,rfl,rfl,rfl,Nat.zero_le _⟩ sb ?_;rintro _ _ p _ IH ⟨j,rfl,rfl,rfl,rfl,hj⟩;refine cq (fun cd=>?_) (fun cd=>?_)
 ·have O:j<s.Ah.length:=om;refine ax ?_;refine xqq [] R10 ?_;refine ex ?_;refine xbw rfl rfl (S.r.all O) ?_;refine ex ?_;refine xbw rfl rfl (S'.r.all O) ?_;refine ex ?_;refine ax ?_;refine xg9 rfl rfl rfl sdt sdt (Se) ?_;refine ax ?_;refine xlq rfl (fun cc=>absurd cc s_) (fun _=>?_);refine ax ?_;exact xhq (IH _ _ _ om ⟨j+1,rfl,rfl,rfl,rfl,om⟩)
 refine ax ?_;exact K.r rfl rfl fun _ H_=>⟨rfl,H_.kept⟩
theorem c23{md:Md}{h:Heap}{p:Ab}(hp:Per p h){a1 a2 V a4 a5 O:Option Addr}{c1 c2 c3 c4 c5 c6:Nat}(t:Tn)(T:Ao p a1 t.nH a2 t.nW V t.m t)(T':Ao p a4 t.nH a5 t.nW O t.m t)(hn:t.nH<=2^20/\t.nW<=2^20/\t.m<=2^20):
 Aa prog md 23 #[.agg #[.slice a1 t.nH c1,.slice a2 t.nW c2,.slice V t.m c3],.agg #[.slice a4 t.nH c4,.slice a5 t.nW c5,.slice O t.m c6]] h fun v h'=>v=.bool true/\Af h h':=by
 have S1:Sl p V t.m 2 (Flow.wcs t.wy):=T.y;have S2:Sl p O t.m 2 (Flow.wcs t.wy):=T'.y;refine xdq hp func23 fun _ _ _ K=>?_;refine xgq rfl fun b1=>?_;refine bq fun b2=>?_;refine ax ?_;refine xiq rfl rfl (fun _ pe=>c13 md _ _ pe _ _ _ _ _ _ t.hs t.hs T.h T'.h om) ?_;refine ax ?_;refine xfx rfl rfl rfl sdu (fun _ _ pe=>c13 md _ _ pe _ _ _ _ _ _ t.ws t.ws T.w T'.w om) ?_;refine ax ?_;refine xlq rfl (fun cc=>absurd cc s_) (fun _=>?_);refine ax ?_;refine xmq (fun m_ l p_ L_=>∃j:Nat,m_=t.m-j/\l=[(2,none,w_ b1 0),(3,none,w_ b2 0),(5,none,.J ((j:Nat):Int))]/\p_=p/\L_=[[(b2,.cells #[.slice a4 t.nH c4,.slice a5 t.nW c5,.slice O t.m c6] 28 (0,0))],[(b1,.cells #[.slice a1 t.nH c1,.slice a2 t.nW c2,.slice V t.m c3] 28 (0,0))]]/\j<=t.m) ⟨0,rfl,rfl,rfl,rfl,Nat.zero_le _⟩ sb ?_;rintro _ _ p _ IH ⟨j,rfl,rfl,rfl,rfl,hj⟩;refine cq (fun cd=>?_) (fun cd=>?_)
 ·have M:j<t.m:=om;refine ax ?_;refine xqq [] R10 ?_;refine ex ?_;refine xbw rfl rfl (T.y.all M) ?_;refine ex ?_;refine xbw rfl rfl (T'.y.all M) ?_;refine ex ?_;refine ax ?_;refine xg9 rfl rfl rfl sdt sdt (Sm) ?_;refine ax ?_;refine xlq rfl (fun cc=>absurd cc s_) (fun _=>?_);refine ax ?_;exact xhq (IH _ _ _ om ⟨j+1,rfl,rfl,rfl,rfl,om⟩)
 refine ax ?_;exact K.r rfl rfl fun _ H_=>⟨rfl,H_.kept⟩
theorem c24{md:Md}{h:Heap}{p:Ab}(hp:Per p h){size start:Int}{a a':Option Addr}{n c c':Nat}{ds:List Day}(D:Ba p a n ds)(V:Ba p a' n ds)(hn:n<=2^20):
 Aa prog md 24 #[.agg #[.J size,.J start,.slice a n c],.agg #[.J size,.J start,.slice a' n c']] h fun v h'=>v=.bool true/\Af h h':=by
 have S1:Sl p a n 3 (Cist.dcs ds):=D;have S2:Sl p a' n 3 (Cist.dcs ds):=V;refine xdq hp func24 fun _ _ _ K=>?_;refine xgq rfl fun b1=>?_;refine bq fun b2=>?_;refine ax ?_;refine xlq rfl (fun O=>absurd O s_) (fun _=>?_);refine ax ?_;refine xmq (fun m_ l p_ L_=>∃j:Nat,m_=n-j/\l=[(2,none,w_ b1 0),(3,none,w_ b2 0),(5,none,.J ((j:Nat):Int))]/\p_=p/\L_=[[(b2,.cells #[.J size,.J start,.slice a' n c'] 31 (0,0))],[(b1,.cells #[.J size,.J start,.slice a n c] 31 (0,0))]]/\j<=n) ⟨0,rfl,rfl,rfl,rfl,Nat.zero_le _⟩ sb ?_;rintro _ _ p _ IH ⟨j,rfl,rfl,rfl,rfl,hj⟩;refine cq (fun cd=>?_) (fun cd=>?_)
 ·have M:j<n:=om;refine ax ?_;refine xqq [] R10 ?_;refine ex ?_;refine xbw rfl rfl (Cist.Ba.all D M) ?_;refine ex ?_;refine xbw rfl rfl (Cist.Ba.all V M) ?_;refine ex ?_;refine ax ?_;refine xg9 rfl rfl rfl sdt sdt (Ut) ?_;refine ax ?_;refine xlq rfl (fun O=>absurd O s_) (fun _=>?_);refine ax ?_;exact xhq (IH _ _ _ om ⟨j+1,rfl,rfl,rfl,rfl,om⟩)
 refine ax ?_;exact K.r rfl rfl fun _ H_=>⟨rfl,H_.kept⟩
theorem c10(md:Md)(h:Heap)(p:Ab)(hp:Per p h)(A O:TA)(t:Twn)(T:TwP p A t)(T':TwP p O t)(hn:t.fit (2^20)):
 Aa prog md 10 #[twV A t,twV O t] h fun v h'=>v=.bool true/\Af h h':=by
 refine xdq hp func10 fun _ _ _ K=>?_;refine xgq rfl fun b1=>?_;refine bq fun b2=>?_;refine ax ?_;refine xiq rfl rfl (fun _ M=>c22 M t.s T.s T'.s hn.1) ?_;refine ax ?_;refine xfx rfl rfl rfl sdu (fun _ _ M=>c23 M t.b T.b T'.b hn.2.1) ?_;refine ax ?_;refine xfx rfl rfl rfl sdu (fun _ _ M=>c24 M T.d T'.d hn.2.2) ?_;refine ax ?_;exact K.r rfl rfl fun _ V=>⟨rfl,V.kept⟩
theorem c19{md:Md}{h:Heap}{p:Ab}(hp:Per p h)(A:TA)(t:Twn)(T:TwP p A t)(hn:t.fit 9223372036854775807):
 Aa prog md 19 #[twV A t,.slice none 0 0] h fun v h'=>(∃q:Bool,v=.bool q/\(q=false->t.fit 40))/\Af h h':=by
 refine xdq hp func19 fun _ _ _ K=>?_;refine xgq rfl fun b1=>?_;refine ax ?_;refine xrz rfl rfl (fun h pe=>c31 pe A t T hn) ?_;rintro _ ⟨q,rfl,hq⟩;refine cq (fun cc=>?_) (fun cc=>?_)
 ·refine ax ?_;exact K.r rfl rfl fun _ V=>⟨⟨true,rfl,fun z=>by cases z⟩,V.kept⟩
 have M:t.fit 40:=hq (by simpa using cc);have O:=M.up (n':=2^20) om;refine ax ?_;refine xmq (fun _ l p_ L_=>l=[(1,none,.slice none 0 0),(2,none,w_ b1 0),(5,none,.J 0)]/\p_=p/\L_=[[(b1,.cells (tcs A t).toArray 33 (0,0))]]) (m₀:=0) ⟨rfl,rfl,rfl⟩ sb ?_;rintro _ _ p _ _ ⟨rfl,rfl,rfl⟩;refine ax ?_;refine xlq rfl (fun cd=>absurd cd s_) (fun _=>?_);refine ax ?_;refine xiq rfl rfl (fun _ pe=>c20 pe A t T O) ?_;refine cq (fun ce=>?_) (fun ce=>?_)
 ·refine ax ?_;exact K.r rfl rfl fun _ V=>⟨⟨false,rfl,fun _=>M⟩,V.kept⟩
 refine lq fun b6=>?_;refine ax ?_;refine xmq (fun _ l p_ _=>l=[(1,none,.slice none 0 0),(7,none,.J 0)]/\p_=p) (m₀:=0) ⟨rfl,rfl⟩ sb ?_;rintro _ _ p _ _ ⟨rfl,rfl⟩;refine ax ?_;refine xlq rfl (fun cd=>absurd cd s_) (fun _=>?_);refine ax ?_;exact K.r rfl rfl fun _ V=>⟨⟨false,rfl,fun _=>M⟩,V.kept⟩
theorem c8(md:Md)(h:Heap)(p:Ab)(hp:Per p h)(A:TA)(t:Twn)(T:TwP p A t)(hn:t.fit 9223372036854775807):
 Aa prog md 8 #[twV A t,.slice none 0 0] h fun v h'=>(∃q:Bool,v=.bool q/\(q=true->B9 t=0))/\Af h h':=by
 refine xdq hp func8 fun _ _ _ K=>?_;refine xgq rfl fun b1=>?_;refine ax ?_;refine xrz rfl rfl (fun h M=>c19 M A t T hn) ?_;rintro _ ⟨q,rfl,hq⟩;refine ax ?_;refine xfx rfl rfl rfl sdu (fun O _ M=>c20 M A t T ((hq (by simpa using O)).up om)) ?_;refine ax ?_;exact K.r rfl rfl fun _ V=>⟨⟨_,rfl,fun e=>by simp at e;exact e.2⟩,V.kept⟩
theorem ynk(md:Md):∀(f n:Nat),n<f->n<=1000000000-> ∀(h:Heap)(p:Ab),Per p h->Aa prog md 151 #[.J ((n:Nat):Int)] h fun v h'=>v=sv (Dk n)/\Af h h'
 |0,n,hf,_,_,_,_=>absurd hf (Nat.not_lt_zero _)
 |f+1,n,hf,hb,h,p,hp=>by
   refine xdq hp func151 fun _ _ _ K=>?_;refine xlq rfl (fun O=>absurd O om) (fun _=>?_);refine cq (fun O=>?_) (fun O=>?_)
   ·refine ax ?_;refine xil ((48+n:Nat):Int) rfl (wr8 om) ?_ (hs:=⟨_,underlying3⟩);refine ax ?_;refine xbz rfl fun v Y o=>?_;have o:Ac 5 1 v (bcs [UInt8.ofNat (48+n)]) Y:=by
     have e:bcs [UInt8.ofNat (48+n)]=[[.int .u8 ((48+n:Nat):Int)]]:=by
      have z:(UInt8.ofNat (48+n)).toNat=48+n:=by show(48+n)%256=_;omega
      show [[Value.int .u8 (((UInt8.ofNat (48+n)).toNat:Nat):Int)]]=_;rw[z]
     rw[e];exact o
    obtain⟨-,⟨-,e,-⟩|⟨b,cs',cap,a3,rfl,rfl,a2,-,-⟩⟩:=o
    ·cases e
    refine ax ?_;refine xw0 (a:=[UInt8.ofNat (48+n)]) rfl (fun j v hj=>?_) ?_
    ·rw[List.getElem?_toArray,a2,Nat.zero_add,List.getElem?_append_left (List.getElem?_eq_some_iff.1 hj).1];exact hj
    refine ax ?_;exact K.r rfl rfl fun _ M=>⟨by rw[xuj om];rfl,M.kept⟩
   refine ax ?_;refine xng 10 rfl rfl rfl d_ (wrZ om) ?_;refine xiq rfl rfl (fun h V=>ynk md f (n / 10) om om h _ V) ?_;refine ax ?_;refine xmg 10 rfl rfl rfl d_ ?_;refine xiq rfl rfl (fun h V=>ynk md f (n%10) om om h _ V) ?_;refine ax ?_;refine xmd rfl rfl (by have:=xbj (k:=9) (n:=n / 10) om;have:=xbj (k:=9) (n:=n%10) om;omega) ?_;refine ax ?_;exact K.r rfl rfl fun _ M=>⟨by rw[xov (n:=n) om,xuj (n:=n%10) om];rfl,M.kept⟩
theorem Oa{md:Md}{h:Heap}{p:Ab}(O:Per p h)(n:Int)(hn: -1000000000<=n/\n<=1000000000):
 Aa prog md 151 #[.J n] h fun v h'=>v=sv (txt n)/\Af h h':=by
 by_cases M:n<0
 ·refine xdq O func151 fun _ _ _ K=>?_;refine xlq rfl (fun _=>?_) (fun cc=>absurd M cc);refine ax ?_;refine xn3 ((n.natAbs:Nat):Int) rfl (by rw[wrZ om];omega) ?_;refine ax ?_;refine xiq rfl rfl (fun h pe=>ynk md (n.natAbs+1) n.natAbs om om h _ pe) ?_;refine ax ?_;refine xmd (a:=[45]) rfl rfl (by have:=xbj (k:=9) (n:=n.natAbs) om;simp;omega) ?_;refine ax ?_;exact K.r rfl rfl fun _ V=>⟨by unfold txt;rw[if_pos M];rfl,V.kept⟩
 ·have e:n=((n.natAbs:Nat):Int):=om;have e2:txt n=Dk n.natAbs:=by unfold txt;rw[if_neg M]
  rw[e2];have c:=ynk md (n.natAbs+1) n.natAbs om om h p O;rw[<- e]at c;exact c
open Go.X.Flow (Cc Wys wz ics Ao Tn exB)
theorem c28{md:Md}{h:Heap}{p:Ab}(hp:Per p h):
 Aa prog md 28 #[] h (Ar p h fun v p'=>∃x1 y1 x2 y2 a c b d,v=.tuple #[.agg #[.slice x1 3 y1,.slice x2 5 y2,.J 1,.J 1,.J 3],.agg #[.slice a 2 c,.slice b 4 d,.J 0,.J 0,.J 2]]/\(2<=c/\4<=d)/\Ck p' a b exS):=by
 refine xdq hp func28 fun _ _ _ K=>?_;refine xyq fun b0=>?_;refine lq fun b1=>?_;refine ax ?_;refine xbz rfl fun v1 Y1 o1=>?_;obtain⟨a1,c1,rfl,-⟩:=o1.val;refine ax ?_;refine xbz rfl fun v2 Y2 o2=>?_;obtain⟨a2,c2,rfl,-⟩:=o2.val;refine ax ?_;refine xbz rfl fun v3 Y3 M=>?_;have M:Ac 92 4 v3 (rcs exS.Ah) Y3:=M;refine xpx M (m:=2) rfl d_ fun p1 a3 c3 g1 e3 h3 S3=>?_;subst e3;refine ax ?_;refine xbz rfl fun v4 Y4 O=>?_;have O:Ac 3 1 v4 (ics exS.Ag) Y4:=O;refine xpx O (m:=4) rfl d_ fun p2 a4 c4 V e4 h4 S4=>?_;subst e4;refine ax ?_;refine xuv [2] [0,1,2] b0 ?_;refine ex ?_;refine ylj rfl rfl rfl trivial ?_;refine ex ?_;refine ax ?_;exact K.e rfl (xtq rfl (xtq rfl .nil)) fun _ H_=>(xwq H_ (g1.trans V) ⟨a1,c1,a2,c2,a3,c3,a4,c4,rfl,⟨h3,h4⟩,⟨Sl.mono V.le S3,S4⟩⟩)
theorem c29{md:Md}{h:Heap}{p:Ab}(hp:Per p h):
 Aa prog md 29 #[] h (Ar p h fun v p'=>∃x1 y1 x2 y2 x3 y3 x4 y4 x5 y5 x6 y6 a1 M V O a3 c3,v=.tuple #[.agg #[.slice a1 3 M,.slice V 2 O,.slice a3 4 c3],.agg #[.slice x1 2 y1,.slice x2 2 y2,.slice x3 2 y3],.agg #[.slice x4 1 y4,.slice x5 2 y5,.slice x6 2 y6]]/\(3<=M/\2<=O/\4<=c3)/\Ao p' a1 3 V 2 a3 4 exB):=by
 refine xdq hp func29 fun _ _ _ K=>?_;refine xyq fun b0=>?_;refine lq fun b1=>?_;refine lq fun b2=>?_;refine ax ?_;refine xbz rfl fun v1 Y1 o1=>?_;have o1:Ac 3 1 v1 (ics exB.hs) Y1:=o1;refine xpx o1 (m:=3) rfl d_ fun p1 a1 M g1 e1 h1 S1=>?_;subst e1;refine ax ?_;refine xbz rfl fun v2 Y2 o2=>?_;have o2:Ac 3 1 v2 (ics exB.ws) Y2:=o2;refine xpx o2 (m:=2) rfl d_ fun p2 V O g2 e2 h2 S2=>?_;subst e2;refine ax ?_;refine xbz rfl fun v3 Y3 o3=>?_;have o3:Ac 94 2 v3 (Flow.wcs exB.wy) Y3:=o3;refine xpx o3 (m:=4) rfl d_ fun p3 a3 c3 g3 e3 h3 S3=>?_;subst e3;refine ax ?_;refine xbz rfl fun v4 Y4 o4=>?_;obtain⟨a4,c4,rfl,-⟩:=o4.val;refine ax ?_;refine xbz rfl fun v5 Y5 o5=>?_;obtain⟨a5,c5,rfl,-⟩:=o5.val;refine ax ?_;refine xbz rfl fun v6 Y6 o6=>?_;obtain⟨a6,c6,rfl,-⟩:=o6.val;refine ax ?_;refine xbz rfl fun v7 Y7 o7=>?_;obtain⟨a7,c7,rfl,-⟩:=o7.val;refine ax ?_;refine xbz rfl fun v8 Y8 o8=>?_;obtain⟨a8,c8,rfl,-⟩:=o8.val;refine ax ?_;refine xbz rfl fun v9 Y9 o9=>?_;obtain⟨a9,c9,rfl,-⟩:=o9.val;refine ax ?_;refine xqq [3,4] R5 ?_;refine ex ?_;refine ynd rfl rfl rfl rfl ?_;refine ynd rfl rfl rfl rfl ?_;refine ex ?_;refine ax ?_;exact K.e rfl (xtq rfl (xtq rfl (xtq rfl .nil))) fun _ H_=>(xwq H_ ((g1.trans g2).trans g3) ⟨a4,c4,a5,c5,a6,c6,a7,c7,a8,c8,a9,c9,a1,M,V,O,a3,c3,rfl,⟨h1,h2,h3⟩,⟨Sl.mono (g2.trans g3).le S1,Sl.mono g3.le S2,S3⟩⟩)
theorem c55{md:Md}{h:Heap}{p:Ab}(O:Per p h){a b c:Int}:
 Aa prog md 55 #[.J a,.J b,.J c] h fun v V=>v=.agg #[.J a,.J b,.J c]/\Af h V:=by
 refine xdq O func55 fun _ _ _ K=>?_;refine xyq fun b6=>?_;refine ax ?_;exact K.e rfl (xtq rfl .nil) fun _ M=>⟨rfl,M.kept⟩
theorem c30{md:Md}{h:Heap}{p:Ab}(hp:Per p h):
 Aa prog md 30 #[] h (Ar p h fun v p'=>∃x1 y1 a c,v=.tuple #[.agg #[.J 10,.J 4,.slice x1 4 y1],.agg #[.J 10,.J 5,.slice a 4 c]]/\4<=c/\Ba p' a 4 exY.days):=by
 refine xdq hp func30 fun _ _ _ K=>?_;refine xyq fun b0=>?_;refine lq fun b1=>?_;refine ax ?_;refine xiq rfl rfl (fun _ M=>c55 M) ?_;refine ax ?_;refine xiq rfl rfl (fun _ M=>c55 M) ?_;refine ax ?_;refine xiq rfl rfl (fun _ M=>c55 M) ?_;refine ax ?_;refine xiq rfl rfl (fun _ M=>c55 M) ?_;refine ax ?_;refine xbz rfl fun v1 Y1 o1=>?_;obtain⟨a1,c1,rfl,-⟩:=o1.val;refine ax ?_;refine xiq rfl rfl (fun _ M=>c55 M) ?_;refine ax ?_;refine xiq rfl rfl (fun _ M=>c55 M) ?_;refine ax ?_;refine xiq rfl rfl (fun _ M=>c55 M) ?_;refine ax ?_;refine xiq rfl rfl (fun _ M=>c55 M) ?_;refine ax ?_;refine xbz rfl fun v2 Y2 O=>?_;have O:Ac 98 3 v2 (Cist.dcs exY.days) Y2:=O;refine xpx O (m:=4) rfl d_ fun p2 a2 c2 g2 e2 h2 S2=>?_;subst e2;refine ax ?_;refine xuv [2] [0,1,2] b0 ?_;refine ex ?_;refine ylj rfl rfl rfl trivial ?_;refine ex ?_;refine ax ?_;exact K.e rfl (xtq rfl (xtq rfl .nil)) fun _ V=>(xwq V g2 ⟨a1,c1,a2,c2,rfl,h2,S2⟩)
theorem c12(md:Md)(h:Heap)(p:Ab)(hp:Per p h):
 Aa prog md 12 #[] h (Ar p h fun v p'=>∃A,v=twV A exT/\TwP p' A exT):=by
 refine xdq hp func12 fun _ _ _ K=>?_;refine xyq fun b0=>?_;refine ax ?_;refine xvx rfl rfl (fun _ O=>c28 O) ?_;rintro _ p1 g1 ⟨x1,y1,x2,y2,a,ca,b,cb,rfl,q1,S1⟩;refine lq fun b1=>?_;refine lq fun b2=>?_;refine ax ?_;refine xvx rfl rfl (fun _ O=>c29 O) ?_;rintro _ p2 g2 ⟨x3,y3,x4,y4,x5,y5,x6,y6,x7,y7,x8,y8,a1,c1,a2,c2,a3,c3,rfl,q2,V⟩;refine lq fun b3=>?_;refine lq fun b4=>?_;refine lq fun b5=>?_;refine ax ?_;refine xvx rfl rfl (fun _ O=>c30 O) ?_;rintro _ p3 M ⟨x9,y9,a4,c4,rfl,q3,S3⟩;refine lq fun b6=>?_;refine lq fun b7=>?_;refine ax ?_;exact K.e rfl (xtq rfl .nil) fun _ H_=>(xwq H_ ((g1.trans g2).trans M) ⟨⟨(a,ca),(b,cb),(a1,c1),(a2,c2),(a3,c3),(a4,c4)⟩,rfl,⟨S1.mono (g2.trans M).le,⟨Sl.mono M.le V.h,Sl.mono M.le V.w,Sl.mono M.le V.y⟩,S3,q1,q2,q3⟩⟩)
theorem ylf(ls:List Str):∀u∈(scs ls).flatten,A7 u=true:=fun u M=>by
 obtain⟨l,O,M⟩:=List.mem_flatten.1 M;obtain⟨x,_,rfl⟩:=List.mem_map.1 O;rw[List.mem_singleton.1 M];rfl
def Qu(t:Twn)(ls:List Str)(v:Value)(p':Ab):Prop:=∃(a:Option Addr)(c:Nat)(A:TA),v=.tuple #[.slice a ls.length c,twV A (Gi t ls).2,.bool true]/\ls.length<=c/\B4 p' a ls.length (Gi t ls).1/\TwP p' A (Gi t ls).2
set_option maxHeartbeats 400000 in
theorem ywr(h:Heap)(p:Ab)(hp:Per p h)(q:Ab)(hq:Per q h)(le:PLe p q)(A:TA)(t:Twn)(T:TwP p A t)(g:GlP p)(a:Option Addr)(c:Nat)(ls:List Str)(S:B4 q a ls.length ls)(a4:∀s∈ls,s.length<=900)(hv:B9 t=0)(M:ls.length<=30):
 Aa prog (.main true) 9 #[twV A t,.slice a ls.length c] h (Ar p h (Qu t ls)):=by
 have hn:t.fit (2^20):=(xsz hv).up om;have S1:Sl q a ls.length 1 (scs ls):=S;refine xfz hp func9 fun _ _ _ K=>?_;refine bq fun b2=>?_;refine lq fun b5=>?_;refine ax ?_;refine xvx rfl rfl (fun _ V=>c21 V A t T hn) ?_;rintro _ p1 g1 ⟨A1,rfl,T1⟩;refine ax ?_;refine xbz rfl fun v1 Y1 o1=>?_;have o1:Ac 9 1 v1 [] Y1:=o1;refine ax ?_;refine xup (p':=pun p1 q) ?_ fun _ s=>s.pun hq;refine xow rfl rfl o1 (Sl.mono (yyr le hq g1) S1) (ylf ls) (by simp;omega) (fun v2 Y2 o2=>?_);rw[List.nil_append]at o2;refine xup (p':=p1) ?_ fun _ s=>s.forget yzr;refine ax ?_;refine xpx o2 (m:=ls.length) (xdz _) d_ fun p2 a2 c2 g2 e2 a5 S2=>?_;subst e2;refine xvx rfl rfl (fun h V=>c11 h _ V A1 t (T1.mono g2.le) hn (g.mono (g1.trans g2).le) a2 c2 ls S2 om a4 ywd) ?_;rintro _ p3 g3 ⟨a3,c3,A3,rfl,O,S3,T3⟩;have el:=ybv hv M;have ek:=xf3 hv M;rw[el]at S3 O⊢;rw[xa9 hv M];refine lq fun b8=>?_;refine ax ?_;refine xuv [17] R18 b5 ?_;refine ex ?_;refine xbv rfl rfl rfl rfl sdu (fun _ _ V=>c20 V A3 _ T3 ((xsz ek).up om)) ?_;refine ex ?_;refine ax ?_;exact xgz func9 rfl (.tmp rfl (xtq rfl (.tmp rfl .nil))) fun _ H_=>K _ _ (xwq H_ ((g1.trans g2).trans g3) ⟨a3,c3,A3,by rw[ek,decide_eq_true (show((ls.length:Nat):Int)=ls.length from rfl)];rfl,O,S3,T3⟩)
theorem c9(h:Heap)(p:Ab)(V:Per p h)(A:TA)(t:Twn)(T:TwP p A t)(g:GlP p)(a:Option Addr)(c:Nat)(ls:List Str)(S:B4 p a ls.length ls)(O:∀s∈ls,s.length<=900)(hv:B9 t=0)(M:ls.length<=30):
 Aa prog (.main true) 9 #[twV A t,.slice a ls.length c] h (Ar p h (Qu t ls)):=ywr h p V p V (.refl p) A t T g a c ls S O hv M
set_option maxHeartbeats 400000 in
theorem c4(h:Heap)(p:Ab)(hp:Per p h)(g:GlP p):Aa prog (.main true) 4 #[] h fun v h'=>v=.bool true/\Af h h':=by
 refine xdq hp func4 fun _ _ _ K=>?_;refine xvx rfl rfl (fun _ M=>c12 _ _ _ M) ?_;rintro _ p1 g1 ⟨A1,rfl,T1⟩;refine ax ?_;refine xbz rfl fun v1 Y1 O=>?_;have O:Ac 9 1 v1 (scs exL) Y1:=O;refine xpx O (m:=12) rfl d_ fun p2 a2 c2 g2 e2 a9 S2=>?_;subst e2;refine ax ?_;refine xvx rfl rfl (fun h M=>c11 h _ M A1 exT (T1.mono g2.le) ((xsz xf2).up om) (g.mono (g1.trans g2).le) a2 c2 exL S2 d_ d_ ywd) ?_;rintro _ p3 g3 ⟨a3,c3,A3,rfl,a6,S3,T3⟩;rw[ykm]at S3 a6 T3⊢;rw[xa9 xf2 d_];have Sw:As p3 A3.w.1 2 [7,3]:=T3.b.w;refine lq fun b8=>?_;refine ax ?_;refine xys rfl rfl trivial fun v4 Y4 V=>?_;have V:Ac 3 1 v4 (ics [7,3]) Y4:=V;refine xpx V (m:=2) rfl d_ fun p4 a4 c4 g4 e4 a7 S4=>?_;subst e4;refine ax ?_;refine xfx rfl rfl rfl sdu (fun _ _ M=>c13 _ _ _ M _ _ _ _ _ _ [7,3] [7,3] (Sl.mono g4.le Sw) S4 ⟨d_,d_⟩) ?_;refine ax ?_;refine xys rfl rfl trivial fun v5 Y5 o5=>?_;have o5:Ac 9 1 v5 (scs exR) Y5:=o5;refine xpx o5 (m:=12) rfl d_ fun p5 a5 c5 g5 e5 a8 S5=>?_;subst e5;refine ax ?_;refine xfx rfl rfl rfl sdu (fun _ _ M=>c14 M exR exR (Sl.mono (g4.trans g5).le S3) S5 ⟨d_,d_⟩) ?_;refine ax ?_;exact K.r rfl rfl fun _ H_=>⟨by rfl,H_.kept⟩
end Go.Proofs.YtblcmdjhidhnjaaGreatDoor
