/-
  Part of proofs about a town's master: a calculus for walks beside goroutines that are only leaving, and the walks. No condition.
-/
import Derived.Test.YtjcakmlipohaeaaGreatDoorGM
import Derived.Test.YtjcakmlipohaeaaGreatDoorRows
import Derived.Lay
import Derived.Lib.LaidTab
import Derived.LaidSub
import Derived.MakeChecks
import Derived.JoinedOf
import Derived.Handed
import Derived.ChangeMaps5
import Derived.ProofKit
import Derived.SevenTiedAt
set_option maxRecDepth 100000
set_option synthInstance.maxSize 2000
namespace Go.Proofs.YtjcakmlipohaeaaGreatDoor
open Go.Proofs.Tryz
open Go.X Go.X.Ms Go.Conc Go.RowKit Go.ChangeShapes Go.WideShapes Go.ChangeAt Go.Joins
open Go.X.Flow (FWay wcs Wys TownP tab64)
open Go.X.Cist (Day Days dcs)
theorem pOwn:ownKnob prog.godebug=none:=by kernel_rfl
theorem ybl:laidOutB prog=true:=by kernel_rfl
theorem pCi:prog.cellsOf 3=1:=by kernel_rfl
theorem pCr:prog.cellsOf 93=4:=by kernel_rfl
theorem pCw:prog.cellsOf 91=2:=by kernel_rfl
theorem pCp:prog.cellsOf 62=2:=by kernel_rfl
theorem pCd:prog.cellsOf 89=3:=by kernel_rfl
theorem pCS:prog.cellsOf 25=5:=by kernel_rfl
theorem pCB:prog.cellsOf 28=3:=by kernel_rfl
theorem pCY:prog.cellsOf 31=3:=by kernel_rfl
theorem pCT:prog.cellsOf 33=11:=by kernel_rfl
instance:Inhabited Rk:=⟨rz⟩
section
variable{H:Type}{enc:TypeId×Value->H}{W:World}
theorem xng{α:Type}[Inhabited α]{fuel:Nat}{t e w:TypeId}{v:Value}{y:DataW H×List MemPlace}(f:α->List Value)(ht:prog.underlying t=some (.slice e))(hw:prog.cellsOf e=w)
 (hQ:∀m cs y,DataW.trod enc prog W 0 (fun _=>true) true m e cs=some y-> ∃x:α,cs=f x)(h:DataW.trod enc prog W 0 (fun _=>true) true fuel t [v]=some y):
 ∃a c xs,v=.slice a (List.length xs) c/\xs.length<=9223372036854775807/\xs.length<=c/\Sl (vwP W) a xs.length w (xs.map f):=by
 rcases Go.Deep.open_slice ht h with⟨e1,_⟩|⟨a,len,cap,m,k,D,Pl,e1,_,hl,hcap,hm,_,hall⟩
 ·obtain rfl:v=.slice none 0 0:=by simpa using e1
  exact⟨none,0,[],rfl,Nat.zero_le _,Nat.le_refl _,yqn _ _⟩
 ·obtain rfl:v=.slice (some a) len cap:=by simpa using e1
  simp only[if_true]at hm
  subst hw
  obtain⟨E,hE⟩:=Go.Deep.choose_lt (n:=len) (p:=fun i cs=>W.cells? 0 (a.add (i*prog.cellsOf e)) (prog.cellsOf e)=some cs/\ ∃x:α,cs=f x) fun i hi=>by
   obtain⟨cs,h1,h2⟩:=hall i om
   exact⟨cs,h1,hQ _ _ _ h2⟩
  obtain⟨z,hz⟩:=Go.Deep.choose_lt (n:=len) (p:=fun i x=>E i=f x) fun i hi=>(hE i hi).2
  have hs:=yct (E:=E) (n:=len) fun i hi=>(hE i hi).1
  have hl2:((List.range len).map z).length=len:=by simp
  refine⟨some a,cap,(List.range len).map z,by rw[hl2],by rw[hl2];unfold maxLen at hcap;omega,by rw[hl2];exact hl,?_⟩
  rw[hl2]
  have:(List.range len).map E=((List.range len).map z).map f:=by
   rw[List.map_map]
   exact List.map_congr_left fun i hi=>hz i (List.mem_range.1 hi)
  rw[<- this];exact hs
theorem xkz{m:Nat}{cs:List Value}{y:DataW H×List MemPlace}(h:DataW.trod enc prog W 0 (fun _=>true) true m 3 cs=some y):∃x:Int,cs=[.int .i64 x]:=ytv underlying3 h
theorem xk9{m:Nat}{cs:List Value}{y:DataW H×List MemPlace}(h:DataW.trod enc prog W 0 (fun _=>true) true m 93 cs=some y):∃x:Rk,cs=x.cells:=by
 obtain⟨y0,y1,y2,y3,n,_,hl,h0,h1,h2,h3⟩:=Go.Joins.trod_struct4 underlying93 h
 rw[pCr]at hl
 obtain⟨a,ha⟩:=xkz h0
 obtain⟨b,hb⟩:=xkz h1
 obtain⟨c,hc⟩:=xkz h2
 obtain⟨d,hd⟩:=xkz h3
 match cs,hl with
 |[u,v,w,x],_=>
   refine⟨⟨a,b,c,d⟩,?_⟩
   simp[pCi]at ha hb hc hd
   simp[Rk.cells,ha,hb,hc,hd]
theorem ysv{m:Nat}{cs:List Value}{y:DataW H×List MemPlace}(h:DataW.trod enc prog W 0 (fun _=>true) true m 91 cs=some y):∃x:FWay,cs=x.cells:=by
 obtain⟨y0,y1,n,_,hl,h0,h1⟩:=trod_struct2 underlying91 h
 rw[pCw]at hl
 obtain⟨a,ha⟩:=xkz h0
 obtain⟨b,hb⟩:=xkz h1
 match cs,hl with
 |[u,v],_=>
   refine⟨(a,b),?_⟩
   simp[pCi]at ha hb
   simp[Flow.FWay.cells,ha,hb]
theorem yuv{m:Nat}{cs:List Value}{y:DataW H×List MemPlace}(h:DataW.trod enc prog W 0 (fun _=>true) true m 89 cs=some y):∃x:Day,cs=x.cells:=by
 obtain⟨y0,y1,n,_,hl,h0,h1⟩:=trod_struct2 underlying89 h
 obtain⟨z0,z1,n',_,hl',h2,h3⟩:=trod_struct2 underlying62 h0
 rw[pCd]at hl
 obtain⟨a,ha⟩:=xkz h2
 obtain⟨b,hb⟩:=xkz h3
 obtain⟨c,hc⟩:=xkz h1
 match cs,hl with
 |[u,v,w],_=>
   refine⟨⟨a,b,c⟩,?_⟩
   simp[pCp,pCi]at ha hb hc
   simp[Cist.Day.cells,ha,hb,hc]
theorem xch{t:TypeId}{f0 f1 f2 f3 f4:Field}{fuel:Nat}{cs:List Value}{x:DataW H×List MemPlace}(ht:prog.underlying t=some (.struct #[f0,f1,f2,f3,f4]))(h:DataW.trod enc prog W 0 (fun _=>true) true fuel t cs=some x):
 ∃y0 y1 y2 y3 y4 n,cs.length=prog.cellsOf t/\DataW.trod enc prog W 0 (fun _=>true) true n f0.type ((cs.drop f0.offset).take (prog.cellsOf f0.type))=some y0/\
  DataW.trod enc prog W 0 (fun _=>true) true n f1.type ((cs.drop f1.offset).take (prog.cellsOf f1.type))=some y1/\DataW.trod enc prog W 0 (fun _=>true) true n f2.type ((cs.drop f2.offset).take (prog.cellsOf f2.type))=some y2/\
  DataW.trod enc prog W 0 (fun _=>true) true n f3.type ((cs.drop f3.offset).take (prog.cellsOf f3.type))=some y3/\DataW.trod enc prog W 0 (fun _=>true) true n f4.type ((cs.drop f4.offset).take (prog.cellsOf f4.type))=some y4:=by
 obtain⟨xs,n,_,rfl,hl,hlen,hf⟩:=DataW.trod_struct ht h
 match xs,hlen with
 |[y0,y1,y2,y3,y4],_=>exact⟨y0,y1,y2,y3,y4,n,hl,by simpa using hf 0 f0 rfl,by simpa using hf 1 f1 rfl,by simpa using hf 2 f2 rfl,by simpa using hf 3 f3 rfl,by simpa using hf 4 f4 rfl⟩
theorem xt7{m:Nat}{cs:List Value}{y:DataW H×List MemPlace}(h:DataW.trod enc prog W 0 (fun _=>true) true m 25 cs=some y):
 ∃a ca b cb s,cs=[.slice a (Shf.rocks s).length ca,.slice b s.feet.length cb,.int .i64 s.deep,.int .i64 s.haul,.int .i64 s.rest]/\(s.rocks.length<=9223372036854775807/\s.feet.length<=9223372036854775807)/\(s.rocks.length<=ca/\s.feet.length<=cb)/\ShfP (vwP W) a b s:=by
 obtain⟨y0,y1,y2,y3,y4,n,hl,h0,h1,h2,h3,h4⟩:=xch underlying25 h
 rw[pCS]at hl
 obtain⟨x,hx⟩:=xkz h2
 obtain⟨y,hy⟩:=xkz h3
 obtain⟨z,hz⟩:=xkz h4
 match cs,hl with
 |[c0,c1,c2,c3,c4],_=>
   have h0:DataW.trod enc prog W 0 (fun _=>true) true n 22 [c0]=some y0:=h0
   have h1:DataW.trod enc prog W 0 (fun _=>true) true n 23 [c1]=some y1:=h1
   obtain⟨a,ca,rs,rfl,b1,b2,S1⟩:=xng Rk.cells underlying22 pCr (fun m cs y h=>xk9 h) h0
   obtain⟨b,cb,fs,rfl,b3,b4,S2⟩:=xng (fun x=>[Value.int .i64 x]) underlying23 pCi (fun m cs y h=>xkz h) h1
   simp[pCi]at hx hy hz
   exact⟨a,ca,b,cb,⟨rs,fs,x,y,z⟩,by rw[hx,hy,hz],⟨b1,b3⟩,⟨b2,b4⟩,⟨S1,S2⟩⟩
theorem xi0{m:Nat}{cs:List Value}{y:DataW H×List MemPlace}(h:DataW.trod enc prog W 0 (fun _=>true) true m 28 cs=some y):
 ∃a1 c1 a2 c2 a3 c3 t,cs=[.slice a1 (Flow.Tn.nH t) c1,.slice a2 t.nW c2,.slice a3 t.m c3]/\(t.nH<=9223372036854775807/\t.nW<=9223372036854775807/\t.m<=9223372036854775807)/\(t.nH<=c1/\t.nW<=c2/\t.m<=c3)/\TownP (vwP W) a1 t.nH a2 t.nW a3 t.m t:=by
 obtain⟨y0,y1,y2,n,_,hl,h0,h1,h2⟩:=Go.Deep.trod_struct3 underlying28 h
 rw[pCB]at hl
 match cs,hl with
 |[c0,c1,c2],_=>
   have h0:DataW.trod enc prog W 0 (fun _=>true) true n 23 [c0]=some y0:=h0
   have h1:DataW.trod enc prog W 0 (fun _=>true) true n 23 [c1]=some y1:=h1
   have h2:DataW.trod enc prog W 0 (fun _=>true) true n 26 [c2]=some y2:=h2
   obtain⟨a1,d1,hs,rfl,b1,b2,S1⟩:=xng (fun x=>[Value.int .i64 x]) underlying23 pCi (fun m cs y h=>xkz h) h0
   obtain⟨a2,d2,ws,rfl,b3,b4,S2⟩:=xng (fun x=>[Value.int .i64 x]) underlying23 pCi (fun m cs y h=>xkz h) h1
   obtain⟨a3,d3,wy,rfl,b5,b6,S3⟩:=xng Flow.FWay.cells underlying26 pCw (fun m cs y h=>ysv h) h2
   exact⟨a1,d1,a2,d2,a3,d3,⟨hs,ws,wy⟩,rfl,⟨b1,b3,b5⟩,⟨b2,b4,b6⟩,⟨S1,S2,S3⟩⟩
theorem yxx{m:Nat}{cs:List Value}{y:DataW H×List MemPlace}(h:DataW.trod enc prog W 0 (fun _=>true) true m 31 cs=some y):
 ∃a c yr,cs=[.int .i64 (Yr.size yr),.int .i64 yr.start,.slice a yr.days.length c]/\yr.days.length<=9223372036854775807/\yr.days.length<=c/\Days (vwP W) a yr.days.length yr.days:=by
 obtain⟨y0,y1,y2,n,_,hl,h0,h1,h2⟩:=Go.Deep.trod_struct3 underlying31 h
 rw[pCY]at hl
 obtain⟨x,hx⟩:=xkz h0
 obtain⟨y,hy⟩:=xkz h1
 match cs,hl with
 |[c0,c1,c2],_=>
   have h2:DataW.trod enc prog W 0 (fun _=>true) true n 29 [c2]=some y2:=h2
   obtain⟨a,c,ds,rfl,b1,b2,S⟩:=xng Cist.Day.cells underlying29 pCd (fun m cs y h=>yuv h) h2
   simp[pCi]at hx hy
   exact⟨a,c,⟨x,y,ds⟩,by rw[hx,hy],b1,b2,S⟩
theorem xld{base:Nat}{v:Value}{d:DataW H}{p:List MemPlace}(hv:Value.okWide prog W .any base 33 v)(h:DataW.Trod enc prog W 0 (fun _=>true) true 33 v d p):
 ∃A t,v=twV A t/\t.fit 9223372036854775807/\TwP (vwP W) A t:=by
 obtain⟨cs,rfl,hsz⟩:=okWide_struct underlying33 hv
 obtain⟨fuel,hf⟩:=h
 obtain⟨y0,y1,y2,n,_,hl,h0,h1,h2⟩:=Go.Deep.trod_struct3 underlying33 hf
 rw[pCT]at hl
 obtain⟨l⟩:=cs
 match l,hl with
 |[c0,c1,c2,c3,c4,c5,c6,c7,c8,c9,c10],_=>
   simp only[pCS]at h0
   simp only[pCB]at h1
   simp only[pCY]at h2
   obtain⟨a1,d1,a2,d2,s,e0,b0,k0,S⟩:=xt7 h0
   obtain⟨a3,d3,a4,d4,a5,d5,t,e1,b1,k1,B⟩:=xi0 h1
   obtain⟨a6,d6,yr,e2,b2,k2,Y⟩:=yxx h2
   simp[Value.cells]at e0 e1 e2
   obtain⟨rfl,rfl,rfl,rfl,rfl⟩:=e0
   obtain⟨rfl,rfl,rfl⟩:=e1
   obtain⟨rfl,rfl,rfl⟩:=e2
   exact⟨⟨(a1,d1),(a2,d2),(a3,d3),(a4,d4),(a5,d5),(a6,d6)⟩,⟨s,t,yr⟩,rfl,⟨b0,b1,b2⟩,⟨S,B,Y,⟨k0,k1,k2⟩⟩⟩
theorem yib{base:Nat}{v:Value}{d:DataW H}{p:List MemPlace}(hv:Value.okWide prog W .any base 3 v)(h:DataW.Trod enc prog W 0 (fun _=>true) true 3 v d p):∃n:Int,v=.int .i64 n/\(-9223372036854775808<=n/\n<=9223372036854775807):=by
 obtain⟨n,rfl,_,_,hw⟩:=open_int underlying3 hv h
 refine⟨n,rfl,?_⟩
 simpa[Lit.wf,IntKind.min,IntKind.max,IntKind.signed,IntKind.bits]using hw
end
theorem xm3{W:World}{n:String}{g:Nat}{cs:Array Value}(hg:prog.globalNamed n=some g)(h:W.var? prog n=some cs)(h0:cs.size≠0):∃t z,vwP W g=some (.cells cs t z):=by
 unfold World.var? at h
 rw[hg]at h
 simp only[Option.bind_some]at h
 split at h
 ·rename_i c t f e
  obtain rfl:=Option.some.inj h
  refine⟨t,f,?_⟩
  have hne:¬ Empty W.heap g:=by
   rintro⟨t',f',h'⟩
   rw[e]at h'
   obtain⟨rfl,_⟩:c=#[]/\_:=by simpa using h'
   exact h0 rfl
  unfold vwP
  rw[xkf hne,e]
 ·cases h
theorem xq3{W:World}{n:String}{g T:Nat}{a b c:Int}{f0 f1 f2:Field}(hg:prog.globalNamed n=some g)(hT:(prog.globals[g]?).map (·.type)=some T)(hu:prog.underlying T=some (.struct #[f0,f1,f2]))(hc:prog.cellsOf T=3)
 (k0:prog.underlying f0.type=some (.int .i64))(k1:prog.underlying f1.type=some (.int .i64))(k2:prog.underlying f2.type=some (.int .i64))(o:f0.offset=0/\f1.offset=1/\f2.offset=2)(oc:prog.cellsOf f0.type=1/\prog.cellsOf f1.type=1/\prog.cellsOf f2.type=1)
 (h:laidMet prog [(n,.agg [.lit (.int .i64 a),.lit (.int .i64 b),.lit (.int .i64 c)])] W):∃t z,vwP W g=some (.cells #[.int .i64 a,.int .i64 b,.int .i64 c] t z):=by
 obtain⟨ps,⟨g',t',cs,fuel,p,q,hg',ht',hvar,hd,_,_⟩,_⟩:=h
 obtain rfl:=Option.some.inj (hg.symm.trans hg')
 obtain rfl:t'=T:=Option.some.inj (ht'.symm.trans hT)
 obtain⟨y0,y1,y2,n,hx,hl,h0,h1,h2⟩:=Go.Deep.trod_struct3 hu hd
 rw[hc]at hl
 obtain⟨a',ha,ea,_⟩:=DataW.trod_int k0 h0
 obtain⟨b',hb,eb,_⟩:=DataW.trod_int k1 h1
 obtain⟨c',hc',ec,_⟩:=DataW.trod_int k2 h2
 obtain⟨l⟩:=cs
 match l,hl with
 |[u,v,w],_=>
   rw[o.1,oc.1]at ha
   rw[o.2.1,oc.2.1]at hb
   rw[o.2.2,oc.2.2]at hc'
   simp at ha hb hc'
   rw[ea,eb,ec]at hx
   simp at hx
   obtain⟨t,z,h4⟩:=xm3 hg hvar (by simp)
   refine⟨t,z,?_⟩
   rw[h4,ha,hb,hc',<- hx.1.1,<- hx.1.2.1,<- hx.1.2.2]
theorem xp5{W:World}{n name:String}{g T:Nat}{d:DataW Unit}{ms:Array (String×TypeId)}(hg:prog.globalNamed n=some g)(hT:(prog.globals[g]?).map (·.type)=some T)(hu:prog.underlying T=some (.interface ms))
 (h:laidMet prog [(n,.iface name d)] W):∃te ue tE zE,vwP W g=some (.cells #[.iface te ue] tE zE):=by
 obtain⟨ps,⟨g',t',cs,fuel,p,q,hg',ht',hvar,hd,_,_⟩,_⟩:=h
 obtain rfl:=Option.some.inj (hg.symm.trans hg')
 obtain rfl:t'=T:=Option.some.inj (ht'.symm.trans hT)
 have key:∃te ue,cs=#[.iface te ue]:=by
  obtain⟨l⟩:=cs
  cases fuel with
  |zero=>simp[DataW.trod]at hd
  |succ fuel=>
    match l with
    |[]=>simp[DataW.trod,hu]at hd
    |[v]=>
      cases v<;>first|exact⟨_,_,rfl⟩|(simp[DataW.trod,hu]at hd)
    |a::b::r=>simp[DataW.trod,hu]at hd
 obtain⟨te,ue,rfl⟩:=key
 obtain⟨t,z,h4⟩:=xm3 hg hvar (by simp)
 exact⟨te,ue,t,z,h4⟩
theorem xrg{W:World}(h:laidMetH prog Rows.topMasteredRow.laid W):GlP (vwP W):=by
 rw[MakeChecks.laidMetH_plain _ _ _ (by kernel_rfl)]at h
 have flt:∀(n:String)(d:DataW Unit),(Rows.topMasteredRow.laid.filter fun x=>x.1==n)=[(n,d)]->laidMet prog [(n,d)] W:=fun n d e=>by
  have h2:=laidMet.filter (fun x=>x.1==n) h
  rw[e]at h2
  exact h2
 refine⟨?_,?_,?_,?_,?_,?_⟩
 ·exact xq3 (n := "steening/shafts.none") (T := 100) (by kernel_rfl) (by kernel_rfl) underlying100 (by kernel_rfl) underlying3 underlying3 underlying3 ⟨rfl, rfl, rfl⟩ ⟨pCi, pCi, pCi⟩ (flt _ _ (by kernel_rfl))
 ·exact xq3 (n := "steening/buckets.none") (T := 110) (by kernel_rfl) (by kernel_rfl) underlying110 (by kernel_rfl) underlying3 underlying3 underlying3 ⟨rfl, rfl, rfl⟩ ⟨pCi, pCi, pCi⟩ (flt _ _ (by kernel_rfl))
 ·have h3 := Lib.tabIs_of_head (g := 3) (t := 323) (e := 5) (n := 64) (by kernel_rfl) (by kernel_rfl) (by kernel_rfl) (by kernel_rfl) (by kernel_rfl) (by kernel_rfl) (flt "math/bits.deBruijn64tab" (Lib.tabData .u8 (tab64.map fun n => ((n : Nat) : Int))) (by kernel_rfl))
  obtain⟨t,z,h4⟩:=xm3 (g:=3) (by kernel_rfl) h3 (by decide +kernel)
  exact⟨t,z,by rw[h4];simp⟩
 ·have h3 := Lib.tabIs_of_head (g := 7) (t := 380) (e := 213) (n := 20) (by kernel_rfl) (by kernel_rfl) (by kernel_rfl) (by kernel_rfl) (by kernel_rfl) (by kernel_rfl) (flt "internal/strconv.uint64pow10" (Lib.tabData .u64 Lib.pow10Tab) (by kernel_rfl))
  obtain⟨t,z,h4⟩:=xm3 (g:=7) (by kernel_rfl) h3 (by decide +kernel)
  exact⟨t,z,h4⟩
 ·exact xp5 (n := "strconv.ErrSyntax") (name := "*errors.errorString") (d := .ptr (.agg [.lit (.string [105, 110, 118, 97, 108, 105, 100, 32, 115, 121, 110, 116, 97, 120])])) (T := 317) (by kernel_rfl) (by kernel_rfl) underlying317 (flt _ _ (by kernel_rfl))
 ·exact xp5 (n := "strconv.ErrRange") (name := "*errors.errorString") (d := .ptr (.agg [.lit (.string [118, 97, 108, 117, 101, 32, 111, 117, 116, 32, 111, 102, 32, 114, 97, 110, 103, 101])])) (T := 317) (by kernel_rfl) (by kernel_rfl) underlying317 (flt _ _ (by kernel_rfl))
noncomputable def laidW(os:Os):World:=World.laidAll prog os Rows.topMasteredRow.laid
theorem xlm(os:Os)(args:Array Value):laidMetH prog Rows.topMasteredRow.laid ((laidW os).forCall (fun _ _=>0) ⟨#[],args,[]⟩).memory:=by
 rw[MakeChecks.laidMetH_plain _ _ _ (by kernel_rfl)]
 exact laidMet_laidAll _ (by kernel_rfl) (by kernel_rfl)
theorem xnd{H:Type}{enc:TypeId×Value->H}{a:Assume}{C:Checked}{os:Os}{f:FuncId}{fn:Func}{s:ChangeSpec}{conds:List PathCond}{apart fresh handsOn again:Bool}{X:World->Array Value->Prop}
 (hX:∀(w w':World)(args:Array Value),w.heap=w'.heap->X w args->X w' args)(own:ownKnob C.prog.godebug=none)(started:os.Started)(hfn:C.prog.funcs[f]?=some fn)
 (witness:∃(w:World)(tape:Tape)(i:Input),w.os=os/\(w.forCall tape i).Shaped C.prog/\i.vars=[]/\Input.okWide C.prog (w.forCall tape i) .any w.heap.size f i/\
  ((s.pre enc C.prog fn conds apart (w.forCall tape i).memory i.args/\X (w.forCall tape i).memory i.args)/\sizedMet enc C.prog fn (OpenSpec.ofChange s) apart (w.forCall tape i).memory i.args)/\a.holds C.prog (lone (Frame.enter C.prog f i.args .normal) [] (w.forCall tape i)))
 (runs:∀(W:World)(base:Nat)(args:Array Value)(ds gs:List (DataW H))(before:List MemPlace),
  (∀(j:Nat)t v,fn.params[j]?=some t->args[j]?=some v->Value.okWide C.prog W .any base t v)->DataW.Whole enc C.prog fn.params.toList s.vars apart W args.toList ds gs before->X W args->
  ∃M last o w' t',runNT C.prog (M+1) (solo (G (Frame.enter C.prog f args .normal) []) W) #[]=(.ended o w',t')/\runN C.prog M (solo (G (Frame.enter C.prog f args .normal) []) W)=.next last/\
   step C.prog last=.ended o w'/\Conc.Good C.prog (fun v W'=>s.post enc C.prog fn apart fresh handsOn again W args v W') last o w' t'):
 ReturnsInLeavingWide a C os f .any (fun w args=>(s.pre enc C.prog fn conds apart w args/\X w args)/\sizedMet enc C.prog fn (OpenSpec.ofChange s) apart w args) (s.post enc C.prog fn apart fresh handsOn again):=by
 refine returnsInLeavingWide_of_good own started witness ?_
 intro w tape i _ _ _ hok hpre _
 obtain⟨_,_,_,fn',hfn',_,_,_,_,hval⟩:=hok
 have e:fn'=fn:=Option.some.inj (hfn'.symm.trans hfn)
 subst e
 obtain⟨⟨⟨ds,gs,before,hw,_⟩,hx⟩,_⟩:=hpre
 have hw':=DataW.Whole.of_heap (w':=w.forCall tape i) (by rfl) hw
 obtain⟨M,last,o,w',t',h1,h2,h3,h4⟩:=runs (w.forCall tape i) w.heap.size i.args ds gs before hval hw' (hX _ _ _ (by rfl) hx)
 exact⟨M,last,o,w',t',h1,h2,h3,h4.mono fun v hp=>ChangeSpec.post_blind hp⟩
theorem xll(Lk:Looks){p:Pinned}{s:OpenSpec}{c:OpenClaim}(kinds:List LaidKind)(tests:Bool)(har:Bool×String)(lk:Bool)(hc:c.holds p s)(hw:c.wfByText s=true)(htie:c.laidByTextAt Lk p kinds tests)
 (hst:c.start=.entering)(hnb:c.noBlocks=false/\c.again=false)(hm:p.checked.prog.mainIs=some (har.1,har.2.toList))(hn:(!har.1&&har.2.isEmpty&&!lk)=false)
 (hl:∀f fn,p.checked.prog.funcNamed c.func=some f->p.checked.prog.funcs[f]?=some fn->lk=p.checked.prog.looks []/\ ∀(j:Nat)t,fn.params[j]?=some t->p.checked.prog.wantsStandIn t=false)(hg:true=c.goesBy p.checked.prog):
 Claim7.holds p (.plain s) {stood:={row:=c,standIns:=[],harness:=har,looks:=lk},kinds:=[],alts:=[],goes:=true,laidByText:=true,laidKinds:=kinds,laidTests:=tests,laidLooks:=Lk}:=by
 have h6:Claim7.isSixth {stood:={row:=c,standIns:=[],harness:=har,looks:=lk},kinds:=[]}=false:=by simpa[Claim7.isSixth]using hn
 exact⟨Claim7.tied_new_at Lk kinds tests (Claim7.new_of_sixth hc har lk hst hnb hm h6 hl) hw,fun D hD=>(by cases hD),htie,fun h=>(by cases h),hg⟩
end Go.Proofs.YtjcakmlipohaeaaGreatDoor
namespace Go.Proofs.YtjcakmlipohaeaaGreatDoor
open Go.Proofs.Tryz
open Go.X Go.X.Ms Go.Conc
open Go.X.Flow (FWay Wys wz ics TownP upto_st)
open Go.X.Cist (Day Days dz)
theorem c169(md:Md)(h:Heap)(p:PHeap)(hp:Per p h)(n lo hi:Int):CallsX prog md 169 #[.int .i64 n,.int .i64 lo,.int .i64 hi] h fun v h'=>v=.bool (decide (lo<=n/\n<=hi))/\Keep h h':=by
 refine xfq hp func169 fun _ _ _ K=>?_
 exact K.r rfl rfl fun _ H_=>⟨congrArg Value.bool (by rw[Bool.eq_iff_iff];simp),H_.kept⟩
theorem c96(md:Md)(h:Heap)(p:PHeap)(hp:Per p h)(n lo hi:Int):CallsX prog md 96 #[.int .i64 n,.int .i64 lo,.int .i64 hi] h fun v h'=>v=.bool (decide (lo<=n/\n<=hi))/\Keep h h':=by
 refine xfq hp func96 fun _ _ _ K=>?_
 refine xlq rfl rfl (fun _ pe=>c169 md _ _ pe _ _ _) ?_
 refine ax ?_
 exact K.r rfl rfl fun _ H_=>⟨rfl,H_.kept⟩
theorem c170(md:Md)(h:Heap)(p:PHeap)(hp:Per p h)(n lo hi:Int):CallsX prog md 170 #[.int .i64 n,.int .i64 lo,.int .i64 hi] h fun v h'=>v=.bool (decide (lo<=n/\n<=hi))/\Keep h h':=by
 refine xfq hp func170 fun _ _ _ K=>?_
 refine xlq rfl rfl (fun _ pe=>c169 md _ _ pe _ _ _) ?_
 refine ax ?_
 exact K.r rfl rfl fun _ H_=>⟨rfl,H_.kept⟩
theorem c99(md:Md)(h:Heap)(p:PHeap)(hp:Per p h)(n lo hi:Int):CallsX prog md 99 #[.int .i64 n,.int .i64 lo,.int .i64 hi] h fun v h'=>v=.bool (decide (lo<=n/\n<=hi))/\Keep h h':=by
 refine xfq hp func99 fun _ _ _ K=>?_
 refine xlq rfl rfl (fun _ pe=>c169 md _ _ pe _ _ _) ?_
 refine ax ?_
 exact K.r rfl rfl fun _ H_=>⟨rfl,H_.kept⟩
theorem c97(md:Md)(h:Heap)(p:PHeap)(hp:Per p h)(a b:Option Addr)(ca cb:Nat)(s:Shf)(hn:s.rocks.length<=2^40)(x:Int):
 CallsX prog md 97 #[.agg #[.slice a s.rocks.length ca,.slice b s.feet.length cb,.int .i64 s.deep,.int .i64 s.haul,.int .i64 s.rest],.int .i64 x] h fun v h'=>v=.bool (decide (okF s.rocks.length x))/\Keep h h':=by
 refine xfq hp func97 fun _ _ _ K=>?_
 refine xjq rfl fun b1=>?_
 refine ax ?_
 refine xlq rfl rfl (fun _ pe=>c96 md _ _ pe _ _ _) ?_
 refine ax ?_
 exact K.r rfl rfl fun _ H_=>⟨rfl,H_.kept⟩
theorem xyg{α:Type}{l:List α}{z:α}{P:α->Prop}:(∀x∈l,P x)<-> ∀i,i<l.length->P (l.getD i z):=by
 constructor
 ·intro h i hi
  rw[List.getD_eq_getElem?_getD,List.getElem?_eq_getElem hi];exact h _ (List.getElem_mem hi)
 ·intro h x hx
  obtain⟨i,hi,rfl⟩:=List.mem_iff_getElem.1 hx
  have:=h i hi
  rwa[List.getD_eq_getElem?_getD,List.getElem?_eq_getElem hi]at this
set_option maxHeartbeats 400000 in
theorem c43(md:Md)(h:Heap)(p:PHeap)(hp:Per p h)(a b:Option Addr)(ca cb:Nat)(s:Shf)(S:ShfP p a b s)(hn:s.rocks.length<=2^20/\s.feet.length<=2^20):
 CallsX prog md 43 #[.agg #[.slice a s.rocks.length ca,.slice b s.feet.length cb,.int .i64 s.deep,.int .i64 s.haul,.int .i64 s.rest]] h fun v h'=>v=.int .i64 (chkF s)/\Keep h h':=by
 have Sr:=S.r
 have Sf:=S.f
 have Sr2:Sl p a s.rocks.length 4 (rcs s.rocks):=S.r
 refine xez hp func43 fun c₀ cs Stop K=>?_
 have bad:∀{h_:Heap},Keep h h_-> ¬ s.ok->X.Reach prog md (G (c₀.finish (.int .i64 20)) cs) h_ Stop:=fun k z=>K _ _ ⟨by rw[chkF,if_neg z],k⟩
 refine bq fun b1=>?_
 refine ax ?_
 refine xvq rfl rfl rfl sdu (fun _ _ pe=>c96 md _ _ pe _ _ _) ?_
 refine ax ?_
 refine xvq rfl rfl rfl sdu (fun _ _ pe=>c96 md _ _ pe _ _ _) ?_
 refine ax ?_
 refine xvq rfl rfl rfl sdu (fun _ _ pe=>c96 md _ _ pe _ _ _) ?_
 refine cq (fun cc=>?_) (fun cc=>?_)
 ·refine ax ?_
  exact xqq func43 rfl rfl fun h_ H_=>bad H_.kept fun z=>by
   obtain⟨z1,_,z3,_,z5,z6,z7,z8⟩:=z
   omega
 have hb:s.rocks.length<=4/\s.feet.length<=12/\(0<=s.deep/\s.deep<=9)/\(0<=s.haul/\s.haul<=9)/\0<=s.rest/\s.rest<=9:=om
 clear cc
 refine ax ?_
 refine xpq (fun m_ l p_ L_=>∃j:Nat,m_=s.rocks.length-j/\l=[(1,none,.pointer (some ⟨b1,0,none⟩)),(3,none,.int .i64 ((j:Nat):Int))]/\p_=p/\L_=[[(b1,.cells #[.slice a s.rocks.length ca,.slice b s.feet.length cb,.int .i64 s.deep,.int .i64 s.haul,.int .i64 s.rest] 25 (0,0))]]/\j<=s.rocks.length/\ ∀i,i<j->okR (s.rocks.getD i rz)) ⟨0,rfl,rfl,rfl,rfl,Nat.zero_le _,om⟩ sb ?_
 rintro _ _ p _ IH ⟨j,rfl,rfl,rfl,rfl,hj,hq⟩
 refine cq (fun cc=>?_) (fun cc=>?_)
 ·have hjl:j<s.rocks.length:=om
  refine ax ?_
  refine xqk rfl (Sr.all hjl) ?_
  refine lq fun b4=>?_
  refine ax ?_
  refine xlq rfl rfl (fun _ pe=>c96 md _ _ pe _ _ _) ?_
  refine ax ?_
  refine xvq rfl rfl rfl sdu (fun _ _ pe=>c96 md _ _ pe _ _ _) ?_
  refine ax ?_
  refine xvq rfl rfl rfl sdu (fun _ _ pe=>c96 md _ _ pe _ _ _) ?_
  refine ax ?_
  refine xvq rfl rfl rfl sdu (fun _ _ pe=>c96 md _ _ pe _ _ _) ?_
  refine cq (fun cd=>?_) (fun cd=>?_)
  ·refine ax ?_
   exact xqq func43 rfl rfl fun h_ H_=>bad H_.kept fun z=>by
    have:=(xyg (z:=rz)).1 z.2.1 j hjl
    unfold okR at this
    omega
  ·have h1:okR (s.rocks.getD j rz):=by unfold okR;omega
   refine ax ?_
   exact xnq (IH _ _ _ om ⟨j+1,rfl,rfl,rfl,rfl,om,fun i hi=>by
    rcases Nat.lt_or_ge i j with z|z
    ·exact hq i z
    ·obtain rfl:i=j:=om
     exact h1⟩)
 have hr:∀r∈s.rocks,okR r:=(xyg (z:=rz)).2 fun i hi=>hq i om
 clear hq IH cc
 refine ax ?_
 refine xpq (fun m_ l p_ L_=>∃j:Nat,m_=s.feet.length-j/\l=[(1,none,.pointer (some ⟨b1,0,none⟩)),(5,none,.int .i64 ((j:Nat):Int))]/\p_=p/\L_=[[(b1,.cells #[.slice a s.rocks.length ca,.slice b s.feet.length cb,.int .i64 s.deep,.int .i64 s.haul,.int .i64 s.rest] 25 (0,0))]]/\j<=s.feet.length/\ ∀i,i<j->okF s.rocks.length (s.feet.getD i 0)) ⟨0,rfl,rfl,rfl,rfl,Nat.zero_le _,om⟩ sb ?_
 rintro _ _ p _ IH ⟨j,rfl,rfl,rfl,rfl,hj,hq⟩
 refine cq (fun cc=>?_) (fun cc=>?_)
 ·have hjl:j<s.feet.length:=om
  refine ax ?_
  refine xjx [] R6 ?_
  refine ex ?_
  refine ax ?_
  refine xlq rfl rfl (fun _ pe=>c97 md _ _ pe _ _ _ _ s om _) ?_
  refine cq (fun cd=>?_) (fun cd=>?_)
  ·refine ax ?_
   exact xqq func43 rfl rfl fun h_ H_=>bad H_.kept fun z=>cd (xyg.1 z.2.2.2.1 j hjl)
  ·refine ax ?_
   exact xnq (IH _ _ _ om ⟨j+1,rfl,rfl,rfl,rfl,om,fun i hi=>by
    rcases Nat.lt_or_ge i j with z|z
    ·exact hq i z
    ·obtain rfl:i=j:=om
     exact Classical.not_not.1 cd⟩)
 refine ax ?_
 exact xqq func43 rfl rfl fun h_ H_=>K _ _ ⟨by
  rw[chkF,if_pos ⟨hb.1,hr,hb.2.1,(xyg (z:=0)).2 fun i hi=>hq i om,hb.2.2.1,hb.2.2.2.1,hb.2.2.2.2⟩];rfl,H_.kept⟩
end Go.Proofs.YtjcakmlipohaeaaGreatDoor
namespace Go.Proofs.YtjcakmlipohaeaaGreatDoor
open Go.Proofs.Tryz
open Go.X Go.X.Ms Go.Conc
open Go.X.Flow (FWay Wys wz ics TownP upto_st Tn Vd YOk chkB chkB_yes chkB_no)
open Go.X.Cist (Day Days dz)
theorem c165(md:Md)(h:Heap)(p:PHeap)(hp:Per p h)(a1 a2 a3:Option Addr)(c1 c2 c3:Nat)(t:Tn)(hn:t.nH<=2^40)(z:Int):
 CallsX prog md 165 #[.agg #[.slice a1 t.nH c1,.slice a2 t.nW c2,.slice a3 t.m c3],.int .i64 z] h fun v h'=>v=.bool (decide (0<=z/\z<=(t.nH:Int)-1))/\Keep h h':=by
 refine xfq hp func165 fun _ _ _ K=>?_
 refine xjq rfl fun b1=>?_
 refine ax ?_
 refine xlq rfl rfl (fun _ pe=>c170 md _ _ pe _ _ _) ?_
 refine ax ?_
 exact K.r rfl rfl fun _ H_=>⟨rfl,H_.kept⟩
theorem c166(md:Md)(h:Heap)(p:PHeap)(hp:Per p h)(a1 a2 a3:Option Addr)(c1 c2 c3:Nat)(t:Tn)(hn:t.nW<=2^40)(z:Int):
 CallsX prog md 166 #[.agg #[.slice a1 t.nH c1,.slice a2 t.nW c2,.slice a3 t.m c3],.int .i64 z] h fun v h'=>v=.bool (decide (0<=z/\z<=(t.nW:Int)-1))/\Keep h h':=by
 refine xfq hp func166 fun _ _ _ K=>?_
 refine xjq rfl fun b1=>?_
 refine ax ?_
 refine xlq rfl rfl (fun _ pe=>c170 md _ _ pe _ _ _) ?_
 refine ax ?_
 exact K.r rfl rfl fun _ H_=>⟨rfl,H_.kept⟩
theorem c171(md:Md)(h:Heap)(p:PHeap)(hp:Per p h)(x y:FWay):
 CallsX prog md 171 #[.agg #[.int .i64 x.1,.int .i64 x.2],.agg #[.int .i64 y.1,.int .i64 y.2]] h fun v h'=>v=.bool (behW x y)/\Keep h h':=by
 refine xfq hp func171 fun _ _ _ K=>?_
 refine xjq rfl fun b1=>?_
 refine bq fun b2=>?_
 refine ax ?_
 exact K.r rfl rfl fun _ H_=>⟨by
  refine congrArg Value.bool ?_
  unfold behW
  rw[Bool.eq_iff_iff]
  simp,H_.kept⟩
theorem c45(md:Md)(h:Heap)(p:PHeap)(hp:Per p h)(size start:Int)(a:Option Addr)(n c:Nat)(ds:List Day)(D:Days p a n ds)(hn:n<=2^20):
 CallsX prog md 45 #[.agg #[.int .i64 size,.int .i64 start,.slice a n c]] h fun v h'=>v=.int .i64 (Cist.chk size start ds)/\Keep h h':=by
 have hl:=D.len
 have D2:Sl p a n 3 (Cist.dcs ds):=D
 refine xez hp func45 fun c₀ cs Stop K=>?_
 have bad:∀{h_:Heap},Keep h h_-> ¬ Cist.Ok size start ds->X.Reach prog md (G (c₀.finish (.int .i64 100)) cs) h_ Stop:=fun k z=>K _ _ ⟨by rw[Cist.chk_no z],k⟩
 refine bq fun b1=>?_
 refine ax ?_
 refine xlq rfl rfl (fun _ pe=>c99 md _ _ pe _ _ _) ?_
 refine ax ?_
 refine xvq rfl rfl rfl sdu (fun _ _ pe=>c99 md _ _ pe _ _ _) ?_
 refine cq (fun cc=>?_) (fun cc=>?_)
 ·refine ax ?_
  exact xqq func45 rfl rfl fun h_ H_=>bad H_.kept fun z=>by
   have:=z.1;have:=z.2.1;have:=z.2.2.1;have:=z.2.2.2.1;have:=z.2.2.2.2.1
   omega
 refine ax ?_
 refine xpq (fun m_ l p_ L_=>∃j:Nat,m_=n-j/\l=[(1,none,.pointer (some ⟨b1,0,none⟩)),(3,none,.int .i64 ((j:Nat):Int))]/\p_=p/\L_=[[(b1,.cells #[.int .i64 size,.int .i64 start,.slice a n c] 31 (0,0))]]/\j<=n/\ ∀i,i<j->Cist.DayOk (ds.getD i dz)) ⟨0,rfl,rfl,rfl,rfl,Nat.zero_le _,om⟩ sb ?_
 rintro _ _ p _ IH ⟨j,rfl,rfl,rfl,rfl,hj,hq⟩
 refine cq (fun ce=>?_) (fun ce=>?_)
 ·have hjl:j<n:=om
  refine ax ?_
  refine xqk rfl (D.all hjl) ?_
  refine lq fun b4=>?_
  refine ax ?_
  refine xlq rfl rfl (fun _ pe=>c99 md _ _ pe _ _ _) ?_
  refine ax ?_
  refine xvq rfl rfl rfl sdu (fun _ _ pe=>c99 md _ _ pe _ _ _) ?_
  refine ax ?_
  refine xvq rfl rfl rfl sdu (fun _ _ pe=>c99 md _ _ pe _ _ _) ?_
  refine cq (fun cd=>?_) (fun cd=>?_)
  ·refine ax ?_
   exact xqq func45 rfl rfl fun h_ H_=>bad H_.kept fun z=>by
    have:=z.2.2.2.2.2 j om
    unfold Cist.DayOk at this
    omega
  ·have h1:Cist.DayOk (ds.getD j dz):=by unfold Cist.DayOk;omega
   refine ax ?_
   exact xnq (IH _ _ _ om ⟨j+1,rfl,rfl,rfl,rfl,om,Cist.days_step hq h1⟩)
 refine ax ?_
 exact xqq func45 rfl rfl fun h_ H_=>K _ _ ⟨by
  rw[Cist.chk_yes ⟨om,om,om,om,om,fun i hi=>hq i om⟩];rfl,H_.kept⟩
set_option maxHeartbeats 400000 in
theorem c98(md:Md)(h:Heap)(p:PHeap)(hp:Per p h)(a1 a2 a3:Option Addr)(c1 c2 c3:Nat)(t:Tn)(T:TownP p a1 t.nH a2 t.nW a3 t.m t)(hn:t.nH<=2^20/\t.nW<=2^20/\t.m<=2^20):
 CallsX prog md 98 #[.agg #[.slice a1 t.nH c1,.slice a2 t.nW c2,.slice a3 t.m c3]] h fun v h'=>(∃q:Bool,v=.bool q/\(q=true<->Vd t))/\Keep h h':=by
 have Th:=T.h
 have Tw:=T.w
 have Ty:Sl p a3 t.m 2 (Flow.wcs t.wy):=T.y
 refine xez hp func98 fun c₀ cs Stop K=>?_
 have bad:∀{h_:Heap},Keep h h_-> ¬ Vd t->X.Reach prog md (G (c₀.finish (.bool false)) cs) h_ Stop:=fun k z=>K _ _ ⟨⟨false,rfl,by simp[z]⟩,k⟩
 refine bq fun b1=>?_
 refine cq (fun cc=>?_) (fun cc=>?_)
 ·refine ax ?_
  exact xqq func98 rfl rfl fun h_ H_=>bad H_.kept fun z=>by
   have:=z.nh;have:=z.nw;omega
 refine ax ?_
 refine xpq (fun m_ l p_ L_=>∃j:Nat,m_=t.nH-j/\l=[(1,none,.pointer (some ⟨b1,0,none⟩)),(3,none,.int .i64 ((j:Nat):Int))]/\p_=p/\L_=[[(b1,.cells #[.slice a1 t.nH c1,.slice a2 t.nW c2,.slice a3 t.m c3] 28 (0,0))]]/\j<=t.nH/\ ∀i,i<j->0<=t.hs.getD i 0/\t.hs.getD i 0<=9) ⟨0,rfl,rfl,rfl,rfl,Nat.zero_le _,om⟩ sb ?_
 rintro _ _ p _ IH ⟨j,rfl,rfl,rfl,rfl,hj,hq⟩
 refine cq (fun ce=>?_) (fun ce=>?_)
 ·have hjl:j<t.nH:=om
  refine ax ?_
  refine xlq rfl rfl (fun _ pe=>c170 md _ _ pe _ _ _) ?_
  refine cq (fun cd=>?_) (fun cd=>?_)
  ·refine ax ?_
   exact xqq func98 rfl rfl fun h_ H_=>bad H_.kept fun z=>cd (z.h j hjl)
  ·refine ax ?_
   exact xnq (IH _ _ _ om ⟨j+1,rfl,rfl,rfl,rfl,om,fun i hi=>by
    rcases Nat.lt_or_ge i j with z|z
    ·exact hq i z
    ·obtain rfl:i=j:=om
     exact Classical.not_not.1 cd⟩)
 have hH:∀i,i<t.nH->0<=t.hs.getD i 0/\t.hs.getD i 0<=9:=fun i hi=>hq i om
 clear hq IH ce
 refine ax ?_
 refine xpq (fun m_ l p_ L_=>∃j:Nat,m_=t.nW-j/\l=[(1,none,.pointer (some ⟨b1,0,none⟩)),(4,none,.int .i64 ((j:Nat):Int))]/\p_=p/\L_=[[(b1,.cells #[.slice a1 t.nH c1,.slice a2 t.nW c2,.slice a3 t.m c3] 28 (0,0))]]/\j<=t.nW/\ ∀i,i<j->0<=t.ws.getD i 0/\t.ws.getD i 0<=20) ⟨0,rfl,rfl,rfl,rfl,Nat.zero_le _,om⟩ sb ?_
 rintro _ _ p _ IH ⟨j,rfl,rfl,rfl,rfl,hj,hq⟩
 refine cq (fun ce=>?_) (fun ce=>?_)
 ·have hjl:j<t.nW:=om
  refine ax ?_
  refine xlq rfl rfl (fun _ pe=>c170 md _ _ pe _ _ _) ?_
  refine cq (fun cd=>?_) (fun cd=>?_)
  ·refine ax ?_
   exact xqq func98 rfl rfl fun h_ H_=>bad H_.kept fun z=>cd (z.w j hjl)
  ·refine ax ?_
   exact xnq (IH _ _ _ om ⟨j+1,rfl,rfl,rfl,rfl,om,fun i hi=>by
    rcases Nat.lt_or_ge i j with z|z
    ·exact hq i z
    ·obtain rfl:i=j:=om
     exact Classical.not_not.1 cd⟩)
 have hW:∀i,i<t.nW->0<=t.ws.getD i 0/\t.ws.getD i 0<=20:=fun i hi=>hq i om
 clear hq IH ce
 refine ax ?_
 refine xpq (fun m_ l p_ L_=>∃j:Nat,m_=t.m-j/\l=[(1,none,.pointer (some ⟨b1,0,none⟩)),(5,none,.int .i64 ((j:Nat):Int))]/\p_=p/\L_=[[(b1,.cells #[.slice a1 t.nH c1,.slice a2 t.nW c2,.slice a3 t.m c3] 28 (0,0))]]/\j<=t.m/\ ∀i,i<j->YOk t i) ⟨0,rfl,rfl,rfl,rfl,Nat.zero_le _,om⟩ sb ?_
 rintro _ _ p _ IH ⟨j,rfl,rfl,rfl,rfl,hj,hq⟩
 refine cq (fun ce=>?_) (fun ce=>?_)
 ·have hjl:j<t.m:=om
  refine ax ?_
  refine xqk rfl (T.y.all hjl) ?_
  refine lq fun b6=>?_
  refine ax ?_
  refine xjx [] R23 ?_
  refine ex ?_
  refine xiz rfl rfl rfl (fun _ pe=>c165 md _ _ pe _ _ _ _ _ _ t om _) ?_
  refine ex ?_
  refine xak rfl rfl rfl rfl sdu (fun _ _ pe=>c166 md _ _ pe _ _ _ _ _ _ t om _) ?_
  refine ex ?_
  refine xsj rfl rfl rfl rfl sdu sdu (fun hc=>⟨⟨by simp at hc;omega,om⟩,Sl.ne Ty om⟩) ?_
  refine ex ?_
  refine xbb (vs:=[.int .i64 (t.wy.getD ((j:Int)-1).toNat wz).1,.int .i64 (t.wy.getD ((j:Int)-1).toNat wz).2]) rfl rfl rfl sdu (fun _=>T.y.all (k:=((j:Int)-1).toNat) om) ?_
  refine ex ?_
  refine ax ?_
  refine xvq rfl rfl rfl sdu (fun _ _ pe=>c171 md _ _ pe _ _) ?_
  refine cq (fun cd=>?_) (fun cd=>?_)
  ·refine ax ?_
   exact xqq func98 rfl rfl fun h_ H_=>bad H_.kept fun z=>by
    have z:=z.y j hjl
    rcases cd with(c|c)|c
    ·exact c z.1
    ·exact c z.2.1
    ·exact c.2 (decide_eq_true (z.2.2 om))
  ·have h1:YOk t j:=⟨Classical.not_not.1 fun c=>cd (.inl (.inl c)),Classical.not_not.1 fun c=>cd (.inl (.inr c)),fun h0=>of_decide_eq_true (Classical.not_not.1 fun c=>cd (.inr ⟨om,c⟩))⟩
   refine ax ?_
   exact xnq (IH _ _ _ om ⟨j+1,rfl,rfl,rfl,rfl,om,fun i hi=>by
    rcases Nat.lt_or_ge i j with z|z
    ·exact hq i z
    ·obtain rfl:i=j:=om
     exact h1⟩)
 refine ax ?_
 exact xqq func98 rfl rfl fun h_ H_=>K _ _ ⟨⟨true,rfl,by simp;exact⟨om,om,hH,hW,fun i hi=>hq i om⟩⟩,H_.kept⟩
open Classical in
theorem d98(md:Md)(h:Heap)(p:PHeap)(hp:Per p h)(a1 a2 a3:Option Addr)(c1 c2 c3:Nat)(t:Tn)(T:TownP p a1 t.nH a2 t.nW a3 t.m t)(hn:t.nH<=2^20/\t.nW<=2^20/\t.m<=2^20):
 CallsX prog md 98 #[.agg #[.slice a1 t.nH c1,.slice a2 t.nW c2,.slice a3 t.m c3]] h fun v h'=>v=.bool (decide (Vd t))/\Keep h h':=
 (c98 md h p hp a1 a2 a3 c1 c2 c3 t T hn).mono fun _ _⟨⟨_,e1,e⟩,kk⟩=>⟨e1.trans (congrArg Value.bool (by rw[Bool.eq_iff_iff,decide_eq_true_iff];exact e)),kk⟩
open Classical in
theorem c44(md:Md)(h:Heap)(p:PHeap)(hp:Per p h)(a1 a2 a3:Option Addr)(c1 c2 c3:Nat)(t:Tn)(T:TownP p a1 t.nH a2 t.nW a3 t.m t)(hn:t.nH<=2^20/\t.nW<=2^20/\t.m<=2^20):
 CallsX prog md 44 #[.agg #[.slice a1 t.nH c1,.slice a2 t.nW c2,.slice a3 t.m c3]] h fun v h'=>v=.int .i64 (chkB t)/\Keep h h':=by
 refine xfq hp func44 fun _ _ _ K=>?_
 refine xjq rfl fun b1=>?_
 refine ax ?_
 refine xvq rfl rfl rfl sdu (fun _ _ pe=>d98 md _ _ pe _ _ _ _ _ _ t T hn) ?_
 refine cq (fun cc=>?_) (fun cc=>?_)
 ·refine ax ?_
  exact K.r rfl rfl fun _ H_=>⟨by rw[chkB_no fun z=>by rcases cc with c|c;exact absurd z.1 om;exact c z.2];rfl,H_.kept⟩
 ·refine ax ?_
  exact K.r rfl rfl fun _ H_=>⟨by rw[chkB_yes om (Classical.not_not.1 fun c=>cc (.inr c))];rfl,H_.kept⟩
theorem c7(md:Md)(h:Heap)(p:PHeap)(hp:Per p h)(A:TA)(t:Twn)(T:TwP p A t)(hn:t.fit (2^20)):
 CallsX prog md 7 #[twV A t] h fun v h'=>v=.int .i64 (chkT t)/\Keep h h':=by
 obtain⟨⟨n1,n2⟩,⟨n3,n4,n5⟩,n6⟩:=hn
 refine xfq hp func7 fun _ _ _ K=>?_
 refine xjq rfl fun b1=>?_
 refine ax ?_
 refine xlq rfl rfl (fun _ pe=>c43 md _ _ pe _ _ _ _ t.s T.s ⟨om,om⟩) ?_
 refine ax ?_
 refine xvq rfl rfl rfl sdt (fun _ _ pe=>c44 md _ _ pe _ _ _ _ _ _ t.b T.b ⟨om,om,om⟩) ?_
 refine ax ?_
 refine xvq rfl rfl rfl sdt (fun _ _ pe=>c45 md _ _ pe _ _ _ _ _ _ T.d om) ?_
 refine cq (fun cc=>?_) (fun cc=>?_)
 ·refine ax ?_
  exact K.r rfl rfl fun _ H_=>⟨by rw[chkT,if_neg (fun z=>by simp[z]at cc)];rfl,H_.kept⟩
 ·refine ax ?_
  exact K.r rfl rfl fun _ H_=>⟨by rw[chkT,if_pos (by simp at cc;exact⟨cc.1.1,cc.1.2,cc.2⟩)];rfl,H_.kept⟩
end Go.Proofs.YtjcakmlipohaeaaGreatDoor
namespace Go.Proofs.YtjcakmlipohaeaaGreatDoor
open Go.Proofs.Tryz
open Go.X Go.X.Ms Go.Conc
open Go.X.Flow (FWay Wys wz ics TownP Tn)
open Go.X.Cist (Day Days dz dcs dcs_ones dcs_length)
theorem c40(md:Md)(h:Heap)(p:PHeap)(hp:Per p h)(size start:Int)(a:Option Addr)(n c:Nat)(ds:List Day)(D:Days p a n ds)(hn:n<=2^20):
 CallsX prog md 40 #[.agg #[.int .i64 size,.int .i64 start,.slice a n c]] h fun v h'=>∃Y,(∃a' c',v=.agg #[.int .i64 size,.int .i64 start,.slice a' n c']/\OwnS 89 3 (.slice a' n c') (dcs ds) Y)/\New h h' Y:=by
 have hl:=D.len
 refine xfq hp func40 fun _ _ _ K=>?_
 refine xjq rfl fun b1=>?_
 refine lq fun b2=>?_
 refine lq fun b3=>?_
 refine ax ?_
 refine xdz rfl fun v1 Y1 o1=>?_
 have o1:OwnS 89 3 v1 [] Y1:=o1
 refine ax ?_
 refine xhh rfl rfl o1 D (dcs_ones ds) (by simp;omega) fun v2 Y2 o2=>?_
 rw[List.nil_append]at o2
 obtain⟨a2,c2,rfl,-⟩:=o2.val
 rw[dcs_length,hl]at o2⊢
 refine ax ?_
 exact K.e rfl (xqx rfl .nil) fun _ H_=>⟨Y2,⟨a2,c2,rfl,o2⟩,newR H_⟩
set_option maxHeartbeats 400000 in
theorem c61(md:Md)(h:Heap)(p:PHeap)(hp:Per p h)(a b:Option Addr)(ca cb:Nat)(s:Shf)(S:ShfP p a b s)(hn:s.rocks.length<=2^20/\s.feet.length<=2^20):
 CallsX prog md 61 #[.agg #[.slice a s.rocks.length ca,.slice b s.feet.length cb,.int .i64 s.deep,.int .i64 s.haul,.int .i64 s.rest]] h fun v h'=>∃Y,(∃a' ca' b' cb' Y1 Y2,v=.agg #[.slice a' s.rocks.length ca',.slice b' s.feet.length cb',.int .i64 s.deep,.int .i64 s.haul,.int .i64 s.rest]/\OwnS 93 4 (.slice a' s.rocks.length ca') (rcs s.rocks) Y1/\OwnS 3 1 (.slice b' s.feet.length cb') (ics s.feet) Y2/\Y=Y1++Y2)/\New h h' Y:=by
 refine xfq hp func61 fun _ _ _ K=>?_
 refine xjq rfl fun b1=>?_
 refine lq fun b2=>?_
 refine lq fun b3=>?_
 refine ax ?_
 refine xap 9 [3,7] [1,2,5,6,8] [0,3,4,7] (fun i=>match i with|3=>[0]|7=>[4]|_=>[]) (fun i=>match i with|2=>[1]|3=>[0,2]|6=>[5]|7=>[4,6]|_=>[])
  (fun i _ _ v x=>match i with
   |0=>OwnS 93 4 v [] x
   |1=>v=.pointer (some ⟨b1,0,none⟩)/\x=[]
   |2=>v=.slice a s.rocks.length ca/\x=[]
   |3=>OwnS 93 4 v (rcs s.rocks) x
   |4=>OwnS 3 1 v [] x
   |5=>v=.pointer (some ⟨b1,1,none⟩)/\x=[]
   |6=>v=.slice b s.feet.length cb/\x=[]
   |7=>OwnS 3 1 v (ics s.feet) x
   |8=>v=.pointer (some ⟨b3,0,none⟩)/\x=[]
   |_=>True) (fun i hi val piece hq=>?_) (fun val piece j hj v x q=>?_) (fun val piece hq=>?_)
 ·match i,hi with
  |0,_=>
   refine xjb rfl rfl fun v Y o=>?_
   have o:OwnS 93 4 v [] Y:=o
   exact xmx ⟨⟨_,rfl⟩,fun v' e=>by
    have e':=xrq e
    subst e'
    show OwnS _ _ _ _ ([Y]++[]).flatten
    have ey:([Y]++([]:List Pcs)).flatten=Y:=by simp
    rw[ey];exact o⟩
  |1,_=>
   refine ex ?_
   exact xmx ⟨⟨_,rfl⟩,fun v e=>⟨xrq e,rfl⟩⟩
  |2,_=>
   refine xwc (b:=b1) (off:=0) (cs:=#[.slice a s.rocks.length ca,.slice b s.feet.length cb,.int .i64 s.deep,.int .i64 s.haul,.int .i64 s.rest]) (T:=25) (z:=(0,0)) rfl rfl (by show some ([],val 1)=_;rw[(hq 1 rfl).1]) sdt ?_
   exact xmx ⟨⟨_,rfl⟩,fun v e=>⟨xrq e,rfl⟩⟩
  |3,_=>
   have o1:OwnS 93 4 (val 0) [] (piece 0):=hq 0 rfl
   show DE _ _ _ _ _ _ _ _ _ [piece 0]
   refine xv0 rfl rfl (by show some ([],val 2)=_;rw[(hq 2 rfl).1]) o1 S.r (ylx _) (by simp;omega) fun v Y o=>?_
   rw[List.nil_append]at o
   exact xmx ⟨⟨_,rfl⟩,fun v' e=>by
    have e':=xrq e
    subst e'
    show OwnS _ _ _ _ ([Y]++[]).flatten
    have ey:([Y]++([]:List Pcs)).flatten=Y:=by simp
    rw[ey];exact o⟩
  |4,_=>
   refine xjb rfl rfl fun v Y o=>?_
   have o:OwnS 3 1 v [] Y:=o
   exact xmx ⟨⟨_,rfl⟩,fun v' e=>by
    have e':=xrq e
    subst e'
    show OwnS _ _ _ _ ([Y]++[]).flatten
    have ey:([Y]++([]:List Pcs)).flatten=Y:=by simp
    rw[ey];exact o⟩
  |5,_=>
   refine ex ?_
   exact xmx ⟨⟨_,rfl⟩,fun v e=>⟨xrq e,rfl⟩⟩
  |6,_=>
   refine xwc (b:=b1) (off:=1) (cs:=#[.slice a s.rocks.length ca,.slice b s.feet.length cb,.int .i64 s.deep,.int .i64 s.haul,.int .i64 s.rest]) (T:=25) (z:=(0,0)) rfl rfl (by show some ([],val 5)=_;rw[(hq 5 rfl).1]) sdt ?_
   exact xmx ⟨⟨_,rfl⟩,fun v e=>⟨xrq e,rfl⟩⟩
  |7,_=>
   have o1:OwnS 3 1 (val 4) [] (piece 4):=hq 4 rfl
   show DE _ _ _ _ _ _ _ _ _ [piece 4]
   refine xv0 rfl rfl (by show some ([],val 6)=_;rw[(hq 6 rfl).1]) o1 S.f (xfs _) (by simp;omega) fun v Y o=>?_
   rw[List.nil_append]at o
   exact xmx ⟨⟨_,rfl⟩,fun v' e=>by
    have e':=xrq e
    subst e'
    show OwnS _ _ _ _ ([Y]++[]).flatten
    have ey:([Y]++([]:List Pcs)).flatten=Y:=by simp
    rw[ey];exact o⟩
  |8,_=>
   refine ex ?_
   exact xmx ⟨⟨_,rfl⟩,fun v e=>⟨xrq e,rfl⟩⟩
 ·simp only[List.mem_cons,List.not_mem_nil,or_false]at hj
  rcases hj with rfl|rfl|rfl|rfl|rfl<;>exact q.2
 have o1:OwnS 93 4 (val 3) (rcs s.rocks) (piece 3):=hq 3 (by decide)
 have o2:OwnS 3 1 (val 7) (ics s.feet) (piece 7):=hq 7 (by decide)
 refine xzd (l':=[(2,none,.pointer (some ⟨b2,0,none⟩)),(3,none,.pointer (some ⟨b3,0,none⟩)),(8,none,val 3),(12,none,val 7),(13,none,.pointer (some ⟨b3,0,none⟩))]) ?_ ⟨rfl,rfl,rfl,rfl,by show some (none,val 8)=_;rw[(hq 8 (by decide)).1],trivial⟩
 clear hq
 generalize val 3=v1 at*
 generalize val 7=v2 at*
 show RO _ _ _ _ _ _ [piece 3,piece 7,[(b3,.cells #[.slice a s.rocks.length ca,.slice b s.feet.length cb,.int .i64 s.deep,.int .i64 s.haul,.int .i64 s.rest] 25 (0,0))],[(b2,.cells #[.slice none 0 0,.slice none 0 0,.int .i64 0,.int .i64 0,.int .i64 0] 25 (0,0))],[(b1,.cells #[.slice a s.rocks.length ca,.slice b s.feet.length cb,.int .i64 s.deep,.int .i64 s.haul,.int .i64 s.rest] 25 (0,0))]]
 generalize piece 3=Y1 at*
 generalize piece 7=Y2 at*
 obtain⟨a1,c1,rfl,-⟩:=o1.val
 obtain⟨a2,c2,rfl,-⟩:=o2.val
 rw[xjd]at o1
 rw[xnx]at o2
 rw[xjd,xnx]
 refine ax ?_
 exact K.e rfl (xqx rfl .nil) fun _ H_=>⟨_,⟨a1,c1,a2,c2,Y1,Y2,rfl,o1,o2,rfl⟩,ymr H_⟩
set_option maxHeartbeats 400000 in
theorem c87(md:Md)(h:Heap)(p:PHeap)(hp:Per p h)(a1 a2 a3:Option Addr)(c1 c2 c3:Nat)(t:Tn)(S:TownP p a1 t.nH a2 t.nW a3 t.m t)(hn:t.nH<=2^20/\t.nW<=2^20/\t.m<=2^20):
 CallsX prog md 87 #[.agg #[.slice a1 t.nH c1,.slice a2 t.nW c2,.slice a3 t.m c3]] h fun v h'=>∃Y,(∃x1 y1 x2 y2 x3 y3 Y1 Y2 Y3,v=.agg #[.slice x1 t.nH y1,.slice x2 t.nW y2,.slice x3 t.m y3]/\OwnS 3 1 (.slice x1 t.nH y1) (ics t.hs) Y1/\OwnS 3 1 (.slice x2 t.nW y2) (ics t.ws) Y2/\OwnS 91 2 (.slice x3 t.m y3) (Flow.wcs t.wy) Y3/\Y=(Y1++Y2)++Y3)/\New h h' Y:=by
 refine xfq hp func87 fun _ _ _ K=>?_
 refine xjq rfl fun b1=>?_
 refine lq fun b2=>?_
 refine ax ?_
 refine xap 12 [3,7,11] [1,2,5,6,9,10] [0,3,4,7,8,11] (fun i=>match i with|3=>[0]|7=>[4]|11=>[8]|_=>[]) (fun i=>match i with|2=>[1]|3=>[0,2]|6=>[5]|7=>[4,6]|10=>[9]|11=>[8,10]|_=>[])
  (fun i _ _ v x=>match i with
   |0=>OwnS 3 1 v [] x
   |1=>v=.pointer (some ⟨b1,0,none⟩)/\x=[]
   |2=>v=.slice a1 t.nH c1/\x=[]
   |3=>OwnS 3 1 v (ics t.hs) x
   |4=>OwnS 3 1 v [] x
   |5=>v=.pointer (some ⟨b1,1,none⟩)/\x=[]
   |6=>v=.slice a2 t.nW c2/\x=[]
   |7=>OwnS 3 1 v (ics t.ws) x
   |8=>OwnS 91 2 v [] x
   |9=>v=.pointer (some ⟨b1,2,none⟩)/\x=[]
   |10=>v=.slice a3 t.m c3/\x=[]
   |11=>OwnS 91 2 v (Flow.wcs t.wy) x
   |_=>True) (fun i hi val piece hq=>?_) (fun val piece j hj v x q=>?_) (fun val piece hq=>?_)
 ·match i,hi with
  |0,_=>
    refine xjb rfl rfl fun v Y o=>?_
    have o:OwnS 3 1 v [] Y:=o
    exact xmx ⟨⟨_,rfl⟩,fun v' e=>by
     have e':=xrq e
     subst e'
     show OwnS _ _ _ _ ([Y]++[]).flatten
     have ey:([Y]++([]:List Pcs)).flatten=Y:=by simp
     rw[ey];exact o⟩
  |1,_=>
    refine ex ?_
    exact xmx ⟨⟨_,rfl⟩,fun v e=>⟨xrq e,rfl⟩⟩
  |2,_=>
    refine xwc (b:=b1) (off:=0) (cs:=#[.slice a1 t.nH c1,.slice a2 t.nW c2,.slice a3 t.m c3]) (T:=28) (z:=(0,0)) rfl rfl (by show some ([],val 1)=_;rw[(hq 1 rfl).1]) sdt ?_
    exact xmx ⟨⟨_,rfl⟩,fun v e=>⟨xrq e,rfl⟩⟩
  |3,_=>
    have o1:OwnS 3 1 (val 0) [] (piece 0):=hq 0 rfl
    show DE _ _ _ _ _ _ _ _ _ [piece 0]
    refine xv0 rfl rfl (by show some ([],val 2)=_;rw[(hq 2 rfl).1]) o1 S.h (xfs _) (by simp;omega) fun v Y o=>?_
    rw[List.nil_append]at o
    exact xmx ⟨⟨_,rfl⟩,fun v' e=>by
     have e':=xrq e
     subst e'
     show OwnS _ _ _ _ ([Y]++[]).flatten
     have ey:([Y]++([]:List Pcs)).flatten=Y:=by simp
     rw[ey];exact o⟩
  |4,_=>
    refine xjb rfl rfl fun v Y o=>?_
    have o:OwnS 3 1 v [] Y:=o
    exact xmx ⟨⟨_,rfl⟩,fun v' e=>by
     have e':=xrq e
     subst e'
     show OwnS _ _ _ _ ([Y]++[]).flatten
     have ey:([Y]++([]:List Pcs)).flatten=Y:=by simp
     rw[ey];exact o⟩
  |5,_=>
    refine ex ?_
    exact xmx ⟨⟨_,rfl⟩,fun v e=>⟨xrq e,rfl⟩⟩
  |6,_=>
    refine xwc (b:=b1) (off:=1) (cs:=#[.slice a1 t.nH c1,.slice a2 t.nW c2,.slice a3 t.m c3]) (T:=28) (z:=(0,0)) rfl rfl (by show some ([],val 5)=_;rw[(hq 5 rfl).1]) sdt ?_
    exact xmx ⟨⟨_,rfl⟩,fun v e=>⟨xrq e,rfl⟩⟩
  |7,_=>
    have o1:OwnS 3 1 (val 4) [] (piece 4):=hq 4 rfl
    show DE _ _ _ _ _ _ _ _ _ [piece 4]
    refine xv0 rfl rfl (by show some ([],val 6)=_;rw[(hq 6 rfl).1]) o1 S.w (xfs _) (by simp;omega) fun v Y o=>?_
    rw[List.nil_append]at o
    exact xmx ⟨⟨_,rfl⟩,fun v' e=>by
     have e':=xrq e
     subst e'
     show OwnS _ _ _ _ ([Y]++[]).flatten
     have ey:([Y]++([]:List Pcs)).flatten=Y:=by simp
     rw[ey];exact o⟩
  |8,_=>
    refine xjb rfl rfl fun v Y o=>?_
    have o:OwnS 91 2 v [] Y:=o
    exact xmx ⟨⟨_,rfl⟩,fun v' e=>by
     have e':=xrq e
     subst e'
     show OwnS _ _ _ _ ([Y]++[]).flatten
     have ey:([Y]++([]:List Pcs)).flatten=Y:=by simp
     rw[ey];exact o⟩
  |9,_=>
    refine ex ?_
    exact xmx ⟨⟨_,rfl⟩,fun v e=>⟨xrq e,rfl⟩⟩
  |10,_=>
    refine xwc (b:=b1) (off:=2) (cs:=#[.slice a1 t.nH c1,.slice a2 t.nW c2,.slice a3 t.m c3]) (T:=28) (z:=(0,0)) rfl rfl (by show some ([],val 9)=_;rw[(hq 9 rfl).1]) sdt ?_
    exact xmx ⟨⟨_,rfl⟩,fun v e=>⟨xrq e,rfl⟩⟩
  |11,_=>
    have o1:OwnS 91 2 (val 8) [] (piece 8):=hq 8 rfl
    show DE _ _ _ _ _ _ _ _ _ [piece 8]
    refine xv0 rfl rfl (by show some ([],val 10)=_;rw[(hq 10 rfl).1]) o1 S.y (ykj _) (by simp;omega) fun v Y o=>?_
    rw[List.nil_append]at o
    exact xmx ⟨⟨_,rfl⟩,fun v' e=>by
     have e':=xrq e
     subst e'
     show OwnS _ _ _ _ ([Y]++[]).flatten
     have ey:([Y]++([]:List Pcs)).flatten=Y:=by simp
     rw[ey];exact o⟩
 ·simp only[List.mem_cons,List.not_mem_nil,or_false]at hj
  rcases hj with rfl|rfl|rfl|rfl|rfl|rfl<;>exact q.2
 have o1:OwnS 3 1 (val 3) (ics t.hs) (piece 3):=hq 3 (by decide)
 have o2:OwnS 3 1 (val 7) (ics t.ws) (piece 7):=hq 7 (by decide)
 have o3:OwnS 91 2 (val 11) (Flow.wcs t.wy) (piece 11):=hq 11 (by decide)
 refine xzd (l':=[(2,none,.pointer (some ⟨b2,0,none⟩)),(6,none,val 3),(10,none,val 7),(14,none,val 11)]) ?_ ⟨rfl,rfl,rfl,rfl,trivial⟩
 clear hq
 generalize val 3=v1 at*
 generalize val 7=v2 at*
 generalize val 11=v3 at*
 show RO _ _ _ _ _ _ [piece 3,piece 7,piece 11,[(b2,.cells #[.slice none 0 0,.slice none 0 0,.slice none 0 0] 28 (0,0))],[(b1,.cells #[.slice a1 t.nH c1,.slice a2 t.nW c2,.slice a3 t.m c3] 28 (0,0))]]
 generalize piece 3=Y1 at*
 generalize piece 7=Y2 at*
 generalize piece 11=Y3 at*
 obtain⟨x1,y1,rfl,-⟩:=o1.val
 obtain⟨x2,y2,rfl,-⟩:=o2.val
 obtain⟨x3,y3,rfl,-⟩:=o3.val
 rw[xnx]at o1 o2
 rw[Flow.wcs_length]at o3
 rw[xnx,xnx,Flow.wcs_length]
 refine ax ?_
 exact K.e rfl (xqx rfl .nil) fun _ H_=>⟨_,⟨x1,y1,x2,y2,x3,y3,Y1,Y2,Y3,rfl,o1,o2,o3,rfl⟩,(ygv H_).new⟩
theorem c38(md:Md)(h:Heap)(p:PHeap)(hp:Per p h)(A:TA)(t:Twn)(T:TwP p A t)(hn:t.fit (2^20)):
 CallsX prog md 38 #[twV A t] h (LastR p h fun v p'=>∃A',v=twV A' t/\TwP p' A' t):=by
 obtain⟨⟨n1,n2⟩,⟨n3,n4,n5⟩,n6⟩:=hn
 refine xfq hp func38 fun _ _ _ K=>?_
 refine xjq rfl fun b1=>?_
 refine lq fun b2=>?_
 refine ax ?_
 refine xjx [2,5] [0,1,3,4,6,7,2,5] ?_
 refine ex ?_
 refine xqv rfl rfl rfl (fun _ pe=>c61 md _ _ pe _ _ _ _ t.s T.s ⟨n1,n2⟩) ?_
 rintro _ _ ⟨a1,c1,a2,c2,Y1,Y2,rfl,o1,o2,rfl⟩
 refine ex ?_
 refine xqv rfl rfl rfl (fun _ pe=>c87 md _ _ pe _ _ _ _ _ _ t.b T.b ⟨n3,n4,n5⟩) ?_
 rintro _ _ ⟨a3,c3,a4,c4,a5,c5,Y3,Y4,Y5,rfl,o3,o4,o5,rfl⟩
 refine ex ?_
 refine ax ?_
 refine xck rfl rfl (fun _ pe=>c40 md _ _ pe _ _ _ _ _ _ T.d n6) ?_
 rintro _ Y6 ⟨a6,c6,rfl,o6⟩
 refine ax ?_
 refine xwk Y1 Y2 ?_
 refine xwk (Y3++Y4) Y5 ?_
 refine xwk Y3 Y4 ?_
 refine xtx o1 (m:=t.s.rocks.length) (xjd _) (by decide) fun p1 _ _ g1 e1 hc1 S1=>?_
 cases e1
 refine xtx o2 (m:=t.s.feet.length) (xnx _) (by decide) fun p2 _ _ g2 e2 hc2 S2=>?_
 cases e2
 refine xtx o3 (m:=t.b.nH) (xnx _) (by decide) fun p3 _ _ g3 e3 hc3 S3=>?_
 cases e3
 refine xtx o4 (m:=t.b.nW) (xnx _) (by decide) fun p4 _ _ g4 e4 hc4 S4=>?_
 cases e4
 refine xtx o5 (m:=t.b.m) (Flow.wcs_length _) (by decide) fun p5 _ _ g5 e5 hc5 S5=>?_
 cases e5
 refine xtx o6 (m:=t.y.days.length) (dcs_length _) (by decide) fun p6 _ _ g6 e6 hc6 S6=>?_
 cases e6
 exact K.e rfl (xqx rfl .nil) fun _ H_=>(xzx H_ (((((g1.trans g2).trans g3).trans g4).trans g5).trans g6) ⟨⟨(a1,c1),(a2,c2),(a3,c3),(a4,c4),(a5,c5),(a6,c6)⟩,rfl,
  ⟨⟨Sl.mono ((((g2.trans g3).trans g4).trans g5).trans g6).le S1,Sl.mono (((g3.trans g4).trans g5).trans g6).le S2⟩,⟨Sl.mono ((g4.trans g5).trans g6).le S3,Sl.mono (g5.trans g6).le S4,Sl.mono g6.le S5⟩,S6,⟨hc1,hc2⟩,⟨hc3,hc4,hc5⟩,hc6⟩⟩)
end Go.Proofs.YtjcakmlipohaeaaGreatDoor
namespace Go.Proofs.YtjcakmlipohaeaaGreatDoor
open Go.Proofs.Tryz
open Go.X Go.X.Ms Go.Conc
open Go.X.Flow (FWay Wys wz ics TownP Tn chkB)
open Go.X.Cist (Day Days dz)
theorem xe5{x y A B:Int}(hx:0<=x/\x<=A)(hy:0<=y/\y<=B):0<=x*y/\x*y<=A*B:=
 ⟨Int.mul_nonneg hx.1 hy.1,Int.mul_le_mul hx.2 hy.2 hy.1 om⟩
theorem c143(md:Md)(h:Heap)(p:PHeap)(hp:Per p h)(a b:Option Addr)(ca cb:Nat)(s:Shf)(hn:s.rocks.length<=9223372036854775807/\s.feet.length<=9223372036854775807):
 CallsX prog md 143 #[.agg #[.slice a s.rocks.length ca,.slice b s.feet.length cb,.int .i64 s.deep,.int .i64 s.haul,.int .i64 s.rest],.slice none 0 0] h fun v h'=>v=.bool (decide (40<s.rocks.length\/40<s.feet.length))/\Keep h h':=by
 refine xfq hp func143 fun _ _ _ K=>?_
 refine xjq rfl fun b1=>?_
 refine ax ?_
 exact K.r rfl rfl fun _ H_=>⟨congrArg Value.bool (by rw[Bool.eq_iff_iff];simp;omega),H_.kept⟩
theorem c88(md:Md)(h:Heap)(p:PHeap)(hp:Per p h)(a b:Option Addr)(ca cb:Nat)(s:Shf)(S:ShfP p a b s)(hn:s.rocks.length<=9223372036854775807/\s.feet.length<=9223372036854775807):
 CallsX prog md 88 #[.agg #[.slice a s.rocks.length ca,.slice b s.feet.length cb,.int .i64 s.deep,.int .i64 s.haul,.int .i64 s.rest]] h fun v h'=>v=.bool (decide ((40<s.rocks.length\/40<s.feet.length)\/(8<s.feet.length/\chkF s=0)))/\Keep h h':=by
 refine xfq hp func88 fun _ _ _ K=>?_
 refine xjq rfl fun b1=>?_
 refine ax ?_
 refine xlq rfl rfl (fun _ pe=>c143 md _ _ pe _ _ _ _ s hn) ?_
 refine ax ?_
 refine xvq rfl rfl rfl sdu (fun cg _ pe=>c43 md _ _ pe _ _ _ _ s S (by simp at cg;omega)) ?_
 refine ax ?_
 exact K.r rfl rfl fun _ H_=>⟨congrArg Value.bool (by rw[Bool.eq_iff_iff];simp;omega),H_.kept⟩
theorem c144(md:Md)(h:Heap)(p:PHeap)(hp:Per p h)(a1 a2 a3:Option Addr)(c1 c2 c3:Nat)(t:Tn)(hn:t.nH<=9223372036854775807/\t.nW<=9223372036854775807/\t.m<=9223372036854775807):
 CallsX prog md 144 #[.agg #[.slice a1 t.nH c1,.slice a2 t.nW c2,.slice a3 t.m c3]] h fun v h'=>v=.bool (decide ((40<t.nH\/40<t.nW)\/40<t.m))/\Keep h h':=by
 refine xfq hp func144 fun _ _ _ K=>?_
 refine xjq rfl fun b1=>?_
 refine ax ?_
 exact K.r rfl rfl fun _ H_=>⟨congrArg Value.bool (by rw[Bool.eq_iff_iff];simp;omega),H_.kept⟩
theorem c90(md:Md)(h:Heap)(p:PHeap)(hp:Per p h)(size start:Int)(a:Option Addr)(n c:Nat)(ds:List Day)(D:Days p a n ds)(hn:n<=9223372036854775807):
 CallsX prog md 90 #[.agg #[.int .i64 size,.int .i64 start,.slice a n c]] h fun v h'=>(∃q:Bool,v=.bool q/\(q=false->n<=40))/\Keep h h':=by
 have hl:=D.len
 have D2:Sl p a n 3 (Cist.dcs ds):=D
 refine xfq hp func90 fun _ _ _ K=>?_
 refine xjq rfl fun b1=>?_
 refine cq (fun cc=>?_) (fun cc=>?_)
 ·refine ax ?_
  exact K.r rfl rfl fun _ H_=>⟨⟨true,rfl,by simp⟩,H_.kept⟩
 refine ax ?_
 refine xlq rfl rfl (fun _ pe=>c45 md _ _ pe _ _ _ _ _ _ D om) ?_
 refine cq (fun cd=>?_) (fun cd=>?_)
 ·refine ax ?_
  exact K.r rfl rfl fun _ H_=>⟨⟨false,rfl,fun _=>om⟩,H_.kept⟩
 have Y:Cist.Ok size start ds:=Cist.chk_zero.1 (by simpa using cd)
 refine ax ?_
 refine xpq (fun m_ l p_ L_=>∃(j:Nat)(x:Int),m_=n-j/\l=[(1,none,.pointer (some ⟨b1,0,none⟩)),(3,none,.int .i64 x),(4,none,.int .i64 ((j:Nat):Int))]/\p_=p/\L_=[[(b1,.cells #[.int .i64 size,.int .i64 start,.slice a n c] 31 (0,0))]]/\j<=n/\0<=x/\x<=60) ⟨0,1,rfl,rfl,rfl,rfl,Nat.zero_le _,by decide,by decide⟩ sb ?_
 rintro _ _ p _ IH ⟨j,x,rfl,rfl,rfl,rfl,hj,h0,h1⟩
 refine cq (fun ce=>?_) (fun ce=>?_)
 ·have hjl:j<n:=om
  have hd:=Y.2.2.2.2.2 j om
  unfold Cist.DayOk at hd
  refine ax ?_
  refine xjx [] R17 ?_
  refine ex ?_
  refine xdj (u:=.int .i64 (ds.getD j dz).hi) rfl rfl rfl sdt (Cist.Days.at D hjl rfl) ?_
  refine ex ?_
  refine xdj (u:=.int .i64 (ds.getD j dz).lo) rfl rfl rfl sdt (Cist.Days.at D hjl (j:=0) rfl) ?_
  refine ex ?_
  refine ax ?_
  have hm:=xe5 (x:=x) (y:=(ds.getD j dz).hi-(ds.getD j dz).lo+1) (A:=60) (B:=21) ⟨h0,h1⟩ ⟨om,om⟩
  refine xyv rfl rfl ⟨wrZ om,trivial⟩ ?_
  refine cq (fun cf=>?_) (fun cf=>?_)
  ·refine ax ?_
   exact K.r rfl rfl fun _ H_=>⟨⟨true,rfl,by simp⟩,H_.kept⟩
  ·refine ax ?_
   exact xnq (IH _ _ _ om ⟨j+1,_,rfl,rfl,rfl,rfl,om,hm.1,om⟩)
 refine ax ?_
 exact K.r rfl rfl fun _ H_=>⟨⟨false,rfl,fun _=>om⟩,H_.kept⟩
theorem c89(md:Md)(h:Heap)(p:PHeap)(hp:Per p h)(a1 a2 a3:Option Addr)(c1 c2 c3:Nat)(t:Tn)(T:TownP p a1 t.nH a2 t.nW a3 t.m t)(hn:t.nH<=9223372036854775807/\t.nW<=9223372036854775807/\t.m<=9223372036854775807):
 CallsX prog md 89 #[.agg #[.slice a1 t.nH c1,.slice a2 t.nW c2,.slice a3 t.m c3]] h fun v h'=>(∃q:Bool,v=.bool q/\(q=false->t.nH<=40/\t.nW<=40/\t.m<=40))/\Keep h h':=by
 have Th:=T.h
 have Tw:=T.w
 have Ty:Sl p a3 t.m 2 (Flow.wcs t.wy):=T.y
 refine xfq hp func89 fun _ _ _ K=>?_
 refine xjq rfl fun b1=>?_
 refine ax ?_
 refine xlq rfl rfl (fun _ pe=>c144 md _ _ pe _ _ _ _ _ _ t hn) ?_
 refine cq (fun cc=>?_) (fun cc=>?_)
 ·refine ax ?_
  exact K.r rfl rfl fun _ H_=>⟨⟨true,rfl,by simp⟩,H_.kept⟩
 refine ax ?_
 refine xlq rfl rfl (fun _ pe=>c44 md _ _ pe _ _ _ _ _ _ t T om) ?_
 refine cq (fun cd=>?_) (fun cd=>?_)
 ·refine ax ?_
  exact K.r rfl rfl fun _ H_=>⟨⟨false,rfl,fun _=>om⟩,H_.kept⟩
 obtain⟨hm,V⟩:=Flow.vd_of (t:=t) (by simpa using cd)
 refine ax ?_
 refine xpq (fun m_ l p_ L_=>∃(j:Nat)(x:Int),m_=t.m-j/\l=[(1,none,.pointer (some ⟨b1,0,none⟩)),(3,none,.int .i64 x),(4,none,.int .i64 ((j:Nat):Int))]/\p_=p/\L_=[[(b1,.cells #[.slice a1 t.nH c1,.slice a2 t.nW c2,.slice a3 t.m c3] 28 (0,0))]]/\j<=t.m/\0<=x/\x<=2000) ⟨0,1,rfl,rfl,rfl,rfl,Nat.zero_le _,by decide,by decide⟩ sb ?_
 rintro _ _ p _ IH ⟨j,x,rfl,rfl,rfl,rfl,hj,h0,h1⟩
 refine cq (fun ce=>?_) (fun ce=>?_)
 ·have hjl:j<t.m:=om
  have hy:=V.y j hjl
  have y1:=hy.1
  have y2:=hy.2.1
  have bh:=V.h (t.wy.getD j wz).1.toNat om
  have bw:=V.w (t.wy.getD j wz).2.toNat om
  refine ax ?_
  refine xjx [] R23 ?_
  refine ex ?_
  refine xdj (u:=.int .i64 (t.wy.getD j wz).1) rfl rfl rfl sdt (T.y.at hjl (j:=0) rfl) ?_
  refine ex ?_
  refine xsj rfl rfl rfl rfl sdt sdt ⟨⟨y1.1,om⟩,Sl.ne Th om⟩ ?_
  refine xdj (u:=.int .i64 (t.hs.getD (t.wy.getD j wz).1.toNat 0)) rfl rfl rfl sdt (Ints.get Th om) ?_
  refine ex ?_
  refine xdj (u:=.int .i64 (t.wy.getD j wz).2) rfl rfl rfl sdt (T.y.at hjl (j:=1) rfl) ?_
  refine ex ?_
  refine xsj rfl rfl rfl rfl sdt sdt ⟨⟨y2.1,om⟩,Sl.ne Tw om⟩ ?_
  refine xdj (u:=.int .i64 (t.ws.getD (t.wy.getD j wz).2.toNat 0)) rfl rfl rfl sdt (Ints.get Tw om) ?_
  refine ex ?_
  refine ax ?_
  have hmu:=xe5 (x:=x) (y:=min (t.hs.getD (t.wy.getD j wz).1.toNat 0) (t.ws.getD (t.wy.getD j wz).2.toNat 0)+1) (A:=2000) (B:=10) ⟨h0,h1⟩ ⟨om,om⟩
  refine xyv rfl rfl ⟨wrZ om,trivial⟩ ?_
  refine cq (fun cf=>?_) (fun cf=>?_)
  ·refine ax ?_
   exact K.r rfl rfl fun _ H_=>⟨⟨true,rfl,by simp⟩,H_.kept⟩
  ·refine ax ?_
   exact xnq (IH _ _ _ om ⟨j+1,_,rfl,rfl,rfl,rfl,om,hmu.1,om⟩)
 refine ax ?_
 exact K.r rfl rfl fun _ H_=>⟨⟨false,rfl,fun _=>om⟩,H_.kept⟩
end Go.Proofs.YtjcakmlipohaeaaGreatDoor
namespace Go.X.Ms
theorem Twn.fit.up{t:Twn}{n n':Nat}(h:t.fit n)(hn:n<=n'):t.fit n':=⟨⟨Nat.le_trans h.1.1 hn,Nat.le_trans h.1.2 hn⟩,⟨Nat.le_trans h.2.1.1 hn,Nat.le_trans h.2.1.2.1 hn,Nat.le_trans h.2.1.2.2 hn⟩,Nat.le_trans h.2.2 hn⟩
end Go.X.Ms
namespace Go.Proofs.YtjcakmlipohaeaaGreatDoor
open Go.Proofs.Tryz
open Go.X Go.X.Ms Go.Conc
open Go.X.Flow (FWay Wys wz ics TownP Tn chkB)
open Go.X.Cist (Day Days dz)
set_option maxHeartbeats 400000 in
theorem c41(md:Md)(h:Heap)(p:PHeap)(hp:Per p h)(A:TA)(t:Twn)(T:TwP p A t)(hn:t.fit 9223372036854775807):
 CallsX prog md 41 #[twV A t] h fun v h'=>(∃q:Bool,v=.bool q/\(q=false->t.fit 40))/\Keep h h':=by
 obtain⟨⟨n1,n2⟩,⟨n3,n4,n5⟩,n6⟩:=hn
 refine xfq hp func41 fun _ _ _ K=>?_
 refine xjq rfl fun b1=>?_
 refine ax ?_
 refine xlq rfl rfl (fun _ pe=>c88 md _ _ pe _ _ _ _ t.s T.s ⟨n1,n2⟩) ?_
 refine ax ?_
 refine ykf rfl rfl rfl sdu (fun h pe=>(c89 md h _ pe _ _ _ _ _ _ t.b T.b ⟨n3,n4,n5⟩).mono fun _ _ x=>⟨x.1,x.2⟩) fun q1 h1=>?_
 refine ax ?_
 refine ykf rfl rfl rfl sdu (fun h pe=>(c90 md h _ pe _ _ _ _ _ _ T.d n6).mono fun _ _ x=>⟨x.1,x.2⟩) fun q2 h2=>?_
 refine cq (fun cc=>?_) (fun cc=>?_)
 ·refine ax ?_
  exact K.r rfl rfl fun _ H_=>⟨⟨true,rfl,fun z=>by cases z⟩,H_.kept⟩
 have hfit:t.fit 40:=by
  simp at cc
  obtain⟨⟨⟨⟨r1,r2⟩,r3⟩,rfl⟩,rfl⟩:=cc
  have r4:t.s.feet.length<=8\/ ¬chkF t.s=0:=by
   rcases Nat.lt_or_ge 8 t.s.feet.length with z|z
   ·exact .inr (r3 z)
   ·exact .inl z
  exact⟨⟨r1,r2⟩,h1 (by simp;exact⟨⟨r1,r2⟩,r4⟩) rfl,h2 (by simp;exact⟨⟨r1,r2⟩,r4⟩) rfl⟩
 have hfit2:=hfit.up (n':=2^20) om
 refine ax ?_
 refine xlq rfl rfl (fun _ pe=>c7 md _ _ pe A t T hfit2) ?_
 refine cq (fun cd=>?_) (fun cd=>?_)
 ·refine ax ?_
  exact K.r rfl rfl fun _ H_=>⟨⟨false,rfl,fun _=>hfit⟩,H_.kept⟩
 refine ax ?_
 have hv:chkT t=0:=by simpa using cd
 obtain⟨_,hB,hC⟩:=xvx.1 hv
 obtain⟨hm,V⟩:=Flow.vd_of hB
 have Y:Cist.Ok t.y.size t.y.start t.y.days:=Cist.chk_zero.1 hC
 have Th:=T.b.h
 have Tw:=T.b.w
 have Ty:Sl p A.y.1 t.b.m 2 (Flow.wcs t.b.wy):=T.b.y
 have Td:Sl p A.d.1 t.y.days.length 3 (Cist.dcs t.y.days):=T.d
 refine xpq (fun m_ l p_ L_=>∃(j:Nat)(x:Int),m_=t.b.m-j/\l=[(1,none,.pointer (some ⟨b1,0,none⟩)),(3,none,.int .i64 x),(4,none,.int .i64 ((j:Nat):Int))]/\p_=p/\L_=[[(b1,.cells (tcs A t).toArray 33 (0,0))]]/\j<=t.b.m/\0<=x/\x<=((10^j:Nat):Int)) ⟨0,1,rfl,rfl,rfl,rfl,Nat.zero_le _,by decide,by decide⟩ sb ?_
 rintro _ _ p _ IH ⟨j,x,rfl,rfl,rfl,rfl,hj,h0,h1⟩
 refine cq (fun ce=>?_) (fun ce=>?_)
 ·have hjl:j<t.b.m:=om
  have hy:=V.y j hjl
  have y1:=hy.1
  have y2:=hy.2.1
  have bh:=V.h (t.b.wy.getD j wz).1.toNat om
  have bw:=V.w (t.b.wy.getD j wz).2.toNat om
  refine ax ?_
  refine xqk rfl (T.b.y.all hjl) ?_
  refine lq fun b5=>?_
  refine ax ?_
  refine xjx [] R17 ?_
  refine ex ?_
  refine xsj rfl rfl rfl rfl sdt sdt ⟨⟨y1.1,om⟩,Sl.ne Th om⟩ ?_
  refine xdj (u:=.int .i64 (t.b.hs.getD (t.b.wy.getD j wz).1.toNat 0)) rfl rfl rfl sdt (Ints.get Th om) ?_
  refine ex ?_
  refine xsj rfl rfl rfl rfl sdt sdt ⟨⟨y2.1,om⟩,Sl.ne Tw om⟩ ?_
  refine xdj (u:=.int .i64 (t.b.ws.getD (t.b.wy.getD j wz).2.toNat 0)) rfl rfl rfl sdt (Ints.get Tw om) ?_
  refine ex ?_
  refine ax ?_
  have hmu:=xe5 (x:=x) (y:=min (t.b.hs.getD (t.b.wy.getD j wz).1.toNat 0) (t.b.ws.getD (t.b.wy.getD j wz).2.toNat 0)+1) (A:=((10^j:Nat):Int)) (B:=10) ⟨h0,h1⟩ ⟨om,om⟩
  have hpw:10^j<=10^12:=Nat.pow_le_pow_right (by decide) om
  have h12:(10:Nat)^12=1000000000000:=by decide
  have hsu:((10^(j+1):Nat):Int)=((10^j:Nat):Int)*10:=by rw[Nat.pow_succ];rfl
  refine xyv rfl rfl ⟨wrZ om,trivial⟩ ?_
  refine ax ?_
  exact xnq (IH _ _ _ om ⟨j+1,_,rfl,rfl,rfl,rfl,om,hmu.1,by rw[hsu];exact hmu.2⟩)
 clear IH h1
 refine ax ?_
 have hdl:=Y.2.2.2.2.1
 refine xpq (fun m_ l p_ L_=>∃(j:Nat)(z:Int),m_=t.y.days.length-j/\l=[(1,none,.pointer (some ⟨b1,0,none⟩)),(3,none,.int .i64 x),(6,none,.int .i64 z),(7,none,.int .i64 ((j:Nat):Int))]/\p_=p/\L_=[[(b1,.cells (tcs A t).toArray 33 (0,0))]]/\j<=t.y.days.length/\0<=z/\z<=((21^j:Nat):Int)) ⟨0,1,rfl,rfl,rfl,rfl,Nat.zero_le _,by decide,by decide⟩ sb ?_
 rintro _ _ p _ IH ⟨i,z,rfl,rfl,rfl,rfl,hi,z0,z1⟩
 refine cq (fun cf=>?_) (fun cf=>?_)
 ·have hil:i<t.y.days.length:=om
  have hd:=Y.2.2.2.2.2 i om
  unfold Cist.DayOk at hd
  refine ax ?_
  refine xjx [] R19 ?_
  refine ex ?_
  refine xdj (u:=.int .i64 (t.y.days.getD i dz).hi) rfl rfl rfl sdt (Cist.Days.at T.d hil (j:=1) rfl) ?_
  refine ex ?_
  refine xdj (u:=.int .i64 (t.y.days.getD i dz).lo) rfl rfl rfl sdt (Cist.Days.at T.d hil (j:=0) rfl) ?_
  refine ex ?_
  refine ax ?_
  have hmu:=xe5 (x:=z) (y:=(t.y.days.getD i dz).hi-(t.y.days.getD i dz).lo+1) (A:=((21^i:Nat):Int)) (B:=21) ⟨z0,z1⟩ ⟨om,om⟩
  have hpw:21^i<=21^8:=Nat.pow_le_pow_right (by decide) om
  have h12:(21:Nat)^8=37822859361:=by decide
  have hsu:((21^(i+1):Nat):Int)=((21^i:Nat):Int)*21:=by rw[Nat.pow_succ];rfl
  refine xyv rfl rfl ⟨wrZ om,trivial⟩ ?_
  refine ax ?_
  exact xnq (IH _ _ _ om ⟨i+1,_,rfl,rfl,rfl,rfl,om,hmu.1,by rw[hsu];exact hmu.2⟩)
 refine ax ?_
 exact K.r rfl rfl fun _ H_=>⟨⟨_,rfl,fun _=>hfit⟩,H_.kept⟩
end Go.Proofs.YtjcakmlipohaeaaGreatDoor
namespace Go.X.Ms
theorem xh5{α:Type}{xs ys:List α}{d:α}(hl:xs.length=ys.length)(h:∀i,i<xs.length->xs.getD i d=ys.getD i d):xs=ys:=by
 apply List.ext_getElem hl
 intro i h1 h2
 have:=h i h1
 rwa[List.getD_eq_getElem?_getD,List.getD_eq_getElem?_getD,List.getElem?_eq_getElem h1,List.getElem?_eq_getElem h2]at this
end Go.X.Ms
namespace Go.Proofs.YtjcakmlipohaeaaGreatDoor
open Go.Proofs.Tryz
open Go.X Go.X.Ms Go.Conc
open Go.X.Flow (ics)
theorem c37(md:Md)(h:Heap)(p:PHeap)(hp:Per p h)(a b:Option Addr)(n m ca cb:Nat)(xs ys:List Str)(S:Strs p a n xs)(S':Strs p b m ys)(hn:n<=2^30/\m<=2^30):
 CallsX prog md 37 #[.slice a n ca,.slice b m cb] h fun v h'=>v=.bool (decide (xs=ys))/\Keep h h':=by
 have hl:=S.len
 have hl':=S'.len
 have S1:Sl p a n 1 (scs xs):=S
 have S2:Sl p b m 1 (scs ys):=S'
 refine xfq hp func37 fun _ _ _ K=>?_
 refine xiq rfl (fun cc=>?_) (fun cc=>?_)
 ·refine ax ?_
  exact K.r rfl rfl fun _ H_=>⟨by rw[decide_eq_false (fun e=>by rw[e]at hl;omega)];rfl,H_.kept⟩
 obtain rfl:n=m:=om
 refine ax ?_
 refine xbz (fun m_ l=>∃j:Nat,m_=n-j/\l=[(0,none,.slice a n ca),(1,none,.slice b n cb),(5,none,.int .i64 ((j:Nat):Int))]/\j<=n/\ ∀i,i<j->xs.getD i []=ys.getD i []) ⟨0,rfl,rfl,Nat.zero_le _,om⟩ sb ?_
 rintro _ _ IH ⟨j,rfl,rfl,hj,hq⟩
 refine cq (fun cd=>?_) (fun cd=>?_)
 ·have hjl:j<n:=om
  refine ax ?_
  refine xjx [] R8 ?_
  refine ex ?_
  refine xag rfl rfl (Strs.get S hjl) ?_
  refine ex ?_
  refine xag rfl rfl (Strs.get S' hjl) ?_
  refine ex ?_
  refine cq (fun ce=>?_) (fun ce=>?_)
  ·refine ax ?_
   exact K.r rfl rfl fun _ H_=>⟨by rw[decide_eq_false (fun e=>ce (by rw[e]))];rfl,H_.kept⟩
  ·refine ax ?_
   exact xnq (IH _ om ⟨j+1,rfl,rfl,om,fun i hi=>by
    rcases Nat.lt_or_ge i j with z|z
    ·exact hq i z
    ·obtain rfl:i=j:=om
     exact Classical.not_not.1 ce⟩)
 refine ax ?_
 exact K.r rfl rfl fun _ H_=>⟨by rw[decide_eq_true (xh5 (d:=[]) om fun i hi=>hq i om)];rfl,H_.kept⟩
theorem c62(md:Md)(h:Heap)(p:PHeap)(hp:Per p h)(a b:Option Addr)(n m ca cb:Nat)(xs ys:List Int)(S:Ints p a n xs)(S':Ints p b m ys)(hn:n<=2^30/\m<=2^30):
 CallsX prog md 62 #[.slice a n ca,.slice b m cb] h fun v h'=>v=.bool (decide (xs=ys))/\Keep h h':=by
 have hl:=S.len
 have hl':=S'.len
 have S1:Sl p a n 1 (ics xs):=S
 have S2:Sl p b m 1 (ics ys):=S'
 refine xfq hp func62 fun _ _ _ K=>?_
 refine xiq rfl (fun cc=>?_) (fun cc=>?_)
 ·refine ax ?_
  exact K.r rfl rfl fun _ H_=>⟨by rw[decide_eq_false (fun e=>by rw[e]at hl;omega)];rfl,H_.kept⟩
 obtain rfl:n=m:=om
 refine ax ?_
 refine xbz (fun m_ l=>∃j:Nat,m_=n-j/\l=[(0,none,.slice a n ca),(1,none,.slice b n cb),(5,none,.int .i64 ((j:Nat):Int))]/\j<=n/\ ∀i,i<j->xs.getD i 0=ys.getD i 0) ⟨0,rfl,rfl,Nat.zero_le _,om⟩ sb ?_
 rintro _ _ IH ⟨j,rfl,rfl,hj,hq⟩
 refine cq (fun cd=>?_) (fun cd=>?_)
 ·have hjl:j<n:=om
  refine ax ?_
  refine xjx [] R8 ?_
  refine ex ?_
  refine cq (fun ce=>?_) (fun ce=>?_)
  ·refine ax ?_
   exact K.r rfl rfl fun _ H_=>⟨by rw[decide_eq_false (fun e=>ce (by rw[e]))];rfl,H_.kept⟩
  ·refine ax ?_
   exact xnq (IH _ om ⟨j+1,rfl,rfl,om,fun i hi=>by
    rcases Nat.lt_or_ge i j with z|z
    ·exact hq i z
    ·obtain rfl:i=j:=om
     exact Classical.not_not.1 ce⟩)
 refine ax ?_
 exact K.r rfl rfl fun _ H_=>⟨by rw[decide_eq_true (xh5 (d:=0) om fun i hi=>hq i om)];rfl,H_.kept⟩
theorem c19(md:Md)(h:Heap)(p:PHeap)(hp:Per p h)(a:Option Addr)(n ca:Nat)(xs:List Int)(S:Ints p a n xs)(hn:n<=2^30):
 CallsX prog md 19 #[.slice a n ca] h fun v h'=>v=.bool (decide (∀x∈xs,-1000000<x/\x<1000000))/\Keep h h':=by
 have hl:=S.len
 refine xfq hp func19 fun _ _ _ K=>?_
 refine xbz (fun m_ l=>∃j:Nat,m_=n-j/\l=[(0,none,.slice a n ca),(3,none,.int .i64 ((j:Nat):Int))]/\j<=n/\ ∀i,i<j-> -1000000<xs.getD i 0/\xs.getD i 0<1000000) ⟨0,rfl,rfl,Nat.zero_le _,om⟩ sb ?_
 rintro _ _ IH ⟨j,rfl,rfl,hj,hq⟩
 refine cq (fun cd=>?_) (fun cd=>?_)
 ·have hjl:j<n:=om
  refine cq (fun ce=>?_) (fun ce=>?_)
  ·refine ax ?_
   exact K.r rfl rfl fun _ H_=>⟨by rw[decide_eq_false (fun e=>by have:=(xyg (z:=0)).1 e j om;omega)];rfl,H_.kept⟩
  ·refine ax ?_
   exact xnq (IH _ om ⟨j+1,rfl,rfl,om,fun i hi=>by
    rcases Nat.lt_or_ge i j with z|z
    ·exact hq i z
    ·obtain rfl:i=j:=om
     omega⟩)
 refine ax ?_
 exact K.r rfl rfl fun _ H_=>⟨by rw[decide_eq_true ((xyg (z:=0)).2 fun i hi=>hq i om)];rfl,H_.kept⟩
end Go.Proofs.YtjcakmlipohaeaaGreatDoor
namespace Go.Proofs.YtjcakmlipohaeaaGreatDoor
open Go.Proofs.Tryz
open Go.X Go.X.Ms Go.Conc
open Go.X.Flow (FWay Wys wz ics TownP Tn)
open Go.X.Cist (Day Days dz)
theorem eqRk(a b c d:Int):∀h(K:Bool->Heap->Prop),K true h->wpS prog (Op.equalIn (9999+1) 93 (.agg #[.int .i64 a,.int .i64 b,.int .i64 c,.int .i64 d]) (.agg #[.int .i64 a,.int .i64 b,.int .i64 c,.int .i64 d])) h K:=fun h K k=>
 xmk underlying93 (by kernel_rfl) (xyf fun f hf=>by
  simp only[List.mem_cons,List.not_mem_nil,or_false]at hf
  rcases hf with rfl|rfl|rfl|rfl<;>exact⟨by decide,underlying3,by kernel_rfl,_,rfl⟩) k
theorem eqFw(a b:Int):∀h(K:Bool->Heap->Prop),K true h->wpS prog (Op.equalIn (9999+1) 91 (.agg #[.int .i64 a,.int .i64 b]) (.agg #[.int .i64 a,.int .i64 b])) h K:=fun h K k=>
 xmk underlying91 (by kernel_rfl) (xyf fun f hf=>by
  simp only[List.mem_cons,List.not_mem_nil,or_false]at hf
  rcases hf with rfl|rfl<;>exact⟨by decide,underlying3,by kernel_rfl,_,rfl⟩) k
theorem eqSp(n:Nat)(a b:Int):∀h(K:Bool->Heap->Prop),K true h->wpS prog (Op.equalIn (n+2) 62 (.agg #[.int .i64 a,.int .i64 b]) (.agg #[.int .i64 a,.int .i64 b])) h K:=fun h K k=>
 xmk underlying62 (by kernel_rfl) (xyf fun f hf=>by
  simp only[List.mem_cons,List.not_mem_nil,or_false]at hf
  rcases hf with rfl|rfl<;>exact⟨by decide,underlying3,by kernel_rfl,_,rfl⟩) k
theorem eqDy(a b c:Int):∀h(K:Bool->Heap->Prop),K true h->wpS prog (Op.equalIn (9999+1) 89 (.agg #[.int .i64 a,.int .i64 b,.int .i64 c]) (.agg #[.int .i64 a,.int .i64 b,.int .i64 c])) h K:=fun h K k=>
 xmk underlying89 (by kernel_rfl) (r:=true) ⟨by decide,_,_,true,fun h K k=>xat (by kernel_rfl) (n:=2) (by kernel_rfl) k,fun h K k=>xat (by kernel_rfl) (n:=2) (by kernel_rfl) k,fun h K k=>eqSp 9997 a b h K k,.inr ⟨rfl,by decide,_,_,true,fun h K k=>xhj (by kernel_rfl) rfl k,fun h K k=>xhj (by kernel_rfl) rfl k,fun h K k=>xlb underlying3 (by simpa using k),.inr ⟨rfl,rfl⟩⟩⟩ k
theorem c47(md:Md)(h:Heap)(p:PHeap)(hp:Per p h)(a b a' b':Option Addr)(ca cb ca' cb':Nat)(s:Shf)(S:ShfP p a b s)(S':ShfP p a' b' s)(hn:s.rocks.length<=2^20/\s.feet.length<=2^20):
 CallsX prog md 47 #[.agg #[.slice a s.rocks.length ca,.slice b s.feet.length cb,.int .i64 s.deep,.int .i64 s.haul,.int .i64 s.rest],.agg #[.slice a' s.rocks.length ca',.slice b' s.feet.length cb',.int .i64 s.deep,.int .i64 s.haul,.int .i64 s.rest]] h fun v h'=>v=.bool true/\Keep h h':=by
 have S1:Sl p a s.rocks.length 4 (rcs s.rocks):=S.r
 have S2:Sl p a' s.rocks.length 4 (rcs s.rocks):=S'.r
 refine xfq hp func47 fun _ _ _ K=>?_
 refine xjq rfl fun b1=>?_
 refine bq fun b2=>?_
 refine ax ?_
 refine xvq rfl rfl rfl sdu (fun _ _ pe=>c62 md _ _ pe _ _ _ _ _ _ s.feet s.feet S.f S'.f om) ?_
 refine ax ?_
 refine xiq rfl (fun cc=>absurd cc (by simp)) (fun _=>?_)
 refine ax ?_
 refine xpq (fun m_ l p_ L_=>∃j:Nat,m_=s.rocks.length-j/\l=[(2,none,.pointer (some ⟨b1,0,none⟩)),(3,none,.pointer (some ⟨b2,0,none⟩)),(5,none,.int .i64 ((j:Nat):Int))]/\p_=p/\L_=[[(b2,.cells #[.slice a' s.rocks.length ca',.slice b' s.feet.length cb',.int .i64 s.deep,.int .i64 s.haul,.int .i64 s.rest] 25 (0,0))],[(b1,.cells #[.slice a s.rocks.length ca,.slice b s.feet.length cb,.int .i64 s.deep,.int .i64 s.haul,.int .i64 s.rest] 25 (0,0))]]/\j<=s.rocks.length) ⟨0,rfl,rfl,rfl,rfl,Nat.zero_le _⟩ sb ?_
 rintro _ _ p _ IH ⟨j,rfl,rfl,rfl,rfl,hj⟩
 refine cq (fun cd=>?_) (fun cd=>?_)
 ·have hjl:j<s.rocks.length:=om
  refine ax ?_
  refine xjx [] R10 ?_
  refine ex ?_
  refine xhb rfl rfl (S.r.all hjl) ?_
  refine ex ?_
  refine xhb rfl rfl (S'.r.all hjl) ?_
  refine ex ?_
  refine ax ?_
  refine yfq rfl rfl rfl sdt sdt (eqRk _ _ _ _) ?_
  refine ax ?_
  refine xiq rfl (fun cc=>absurd cc (by simp)) (fun _=>?_)
  refine ax ?_
  exact xnq (IH _ _ _ om ⟨j+1,rfl,rfl,rfl,rfl,om⟩)
 refine ax ?_
 exact K.r rfl rfl fun _ H_=>⟨rfl,H_.kept⟩
theorem c48(md:Md)(h:Heap)(p:PHeap)(hp:Per p h)(a1 a2 a3 a4 a5 a6:Option Addr)(c1 c2 c3 c4 c5 c6:Nat)(t:Tn)(T:TownP p a1 t.nH a2 t.nW a3 t.m t)(T':TownP p a4 t.nH a5 t.nW a6 t.m t)(hn:t.nH<=2^20/\t.nW<=2^20/\t.m<=2^20):
 CallsX prog md 48 #[.agg #[.slice a1 t.nH c1,.slice a2 t.nW c2,.slice a3 t.m c3],.agg #[.slice a4 t.nH c4,.slice a5 t.nW c5,.slice a6 t.m c6]] h fun v h'=>v=.bool true/\Keep h h':=by
 have S1:Sl p a3 t.m 2 (Flow.wcs t.wy):=T.y
 have S2:Sl p a6 t.m 2 (Flow.wcs t.wy):=T'.y
 refine xfq hp func48 fun _ _ _ K=>?_
 refine xjq rfl fun b1=>?_
 refine bq fun b2=>?_
 refine ax ?_
 refine xlq rfl rfl (fun _ pe=>c62 md _ _ pe _ _ _ _ _ _ t.hs t.hs T.h T'.h om) ?_
 refine ax ?_
 refine xvq rfl rfl rfl sdu (fun _ _ pe=>c62 md _ _ pe _ _ _ _ _ _ t.ws t.ws T.w T'.w om) ?_
 refine ax ?_
 refine xiq rfl (fun cc=>absurd cc (by simp)) (fun _=>?_)
 refine ax ?_
 refine xpq (fun m_ l p_ L_=>∃j:Nat,m_=t.m-j/\l=[(2,none,.pointer (some ⟨b1,0,none⟩)),(3,none,.pointer (some ⟨b2,0,none⟩)),(5,none,.int .i64 ((j:Nat):Int))]/\p_=p/\L_=[[(b2,.cells #[.slice a4 t.nH c4,.slice a5 t.nW c5,.slice a6 t.m c6] 28 (0,0))],[(b1,.cells #[.slice a1 t.nH c1,.slice a2 t.nW c2,.slice a3 t.m c3] 28 (0,0))]]/\j<=t.m) ⟨0,rfl,rfl,rfl,rfl,Nat.zero_le _⟩ sb ?_
 rintro _ _ p _ IH ⟨j,rfl,rfl,rfl,rfl,hj⟩
 refine cq (fun cd=>?_) (fun cd=>?_)
 ·have hjl:j<t.m:=om
  refine ax ?_
  refine xjx [] R10 ?_
  refine ex ?_
  refine xhb rfl rfl (T.y.all hjl) ?_
  refine ex ?_
  refine xhb rfl rfl (T'.y.all hjl) ?_
  refine ex ?_
  refine ax ?_
  refine yfq rfl rfl rfl sdt sdt (eqFw _ _) ?_
  refine ax ?_
  refine xiq rfl (fun cc=>absurd cc (by simp)) (fun _=>?_)
  refine ax ?_
  exact xnq (IH _ _ _ om ⟨j+1,rfl,rfl,rfl,rfl,om⟩)
 refine ax ?_
 exact K.r rfl rfl fun _ H_=>⟨rfl,H_.kept⟩
theorem c49(md:Md)(h:Heap)(p:PHeap)(hp:Per p h)(size start:Int)(a a':Option Addr)(n c c':Nat)(ds:List Day)(D:Days p a n ds)(D':Days p a' n ds)(hn:n<=2^20):
 CallsX prog md 49 #[.agg #[.int .i64 size,.int .i64 start,.slice a n c],.agg #[.int .i64 size,.int .i64 start,.slice a' n c']] h fun v h'=>v=.bool true/\Keep h h':=by
 have S1:Sl p a n 3 (Cist.dcs ds):=D
 have S2:Sl p a' n 3 (Cist.dcs ds):=D'
 refine xfq hp func49 fun _ _ _ K=>?_
 refine xjq rfl fun b1=>?_
 refine bq fun b2=>?_
 refine ax ?_
 refine xiq rfl (fun cc=>absurd cc (by simp)) (fun _=>?_)
 refine ax ?_
 refine xpq (fun m_ l p_ L_=>∃j:Nat,m_=n-j/\l=[(2,none,.pointer (some ⟨b1,0,none⟩)),(3,none,.pointer (some ⟨b2,0,none⟩)),(5,none,.int .i64 ((j:Nat):Int))]/\p_=p/\L_=[[(b2,.cells #[.int .i64 size,.int .i64 start,.slice a' n c'] 31 (0,0))],[(b1,.cells #[.int .i64 size,.int .i64 start,.slice a n c] 31 (0,0))]]/\j<=n) ⟨0,rfl,rfl,rfl,rfl,Nat.zero_le _⟩ sb ?_
 rintro _ _ p _ IH ⟨j,rfl,rfl,rfl,rfl,hj⟩
 refine cq (fun cd=>?_) (fun cd=>?_)
 ·have hjl:j<n:=om
  refine ax ?_
  refine xjx [] R10 ?_
  refine ex ?_
  refine xhb rfl rfl (Cist.Days.all D hjl) ?_
  refine ex ?_
  refine xhb rfl rfl (Cist.Days.all D' hjl) ?_
  refine ex ?_
  refine ax ?_
  refine yfq rfl rfl rfl sdt sdt (eqDy _ _ _) ?_
  refine ax ?_
  refine xiq rfl (fun cc=>absurd cc (by simp)) (fun _=>?_)
  refine ax ?_
  exact xnq (IH _ _ _ om ⟨j+1,rfl,rfl,rfl,rfl,om⟩)
 refine ax ?_
 exact K.r rfl rfl fun _ H_=>⟨rfl,H_.kept⟩
theorem c11(md:Md)(h:Heap)(p:PHeap)(hp:Per p h)(A A':TA)(t:Twn)(T:TwP p A t)(T':TwP p A' t)(hn:t.fit (2^20)):
 CallsX prog md 11 #[twV A t,twV A' t] h fun v h'=>v=.bool true/\Keep h h':=by
 refine xfq hp func11 fun _ _ _ K=>?_
 refine xjq rfl fun b1=>?_
 refine bq fun b2=>?_
 refine ax ?_
 refine xlq rfl rfl (fun _ pe=>c47 md _ _ pe _ _ _ _ _ _ _ _ t.s T.s T'.s hn.1) ?_
 refine ax ?_
 refine xvq rfl rfl rfl sdu (fun _ _ pe=>c48 md _ _ pe _ _ _ _ _ _ _ _ _ _ _ _ t.b T.b T'.b hn.2.1) ?_
 refine ax ?_
 refine xvq rfl rfl rfl sdu (fun _ _ pe=>c49 md _ _ pe _ _ _ _ _ _ _ _ T.d T'.d hn.2.2) ?_
 refine ax ?_
 exact K.r rfl rfl fun _ H_=>⟨rfl,H_.kept⟩
end Go.Proofs.YtjcakmlipohaeaaGreatDoor
namespace Go.Proofs.YtjcakmlipohaeaaGreatDoor
open Go.Proofs.Tryz
open Go.X Go.X.Ms Go.Conc
theorem c6(md:Md)(h:Heap)(p:PHeap)(hp:Per p h)(A:TA)(t:Twn)(T:TwP p A t)(hn:t.fit 9223372036854775807):
 CallsX prog md 6 #[twV A t,.slice none 0 0] h fun v h'=>(∃q:Bool,v=.bool q/\(q=false->t.fit 40))/\Keep h h':=by
 refine xfq hp func6 fun _ _ _ K=>?_
 refine xjq rfl fun b1=>?_
 refine ax ?_
 refine xxl rfl rfl (fun h pe=>c41 md h _ pe A t T hn) ?_
 rintro _ ⟨q,rfl,hq⟩
 refine cq (fun cc=>?_) (fun cc=>?_)
 ·refine ax ?_
  exact K.r rfl rfl fun _ H_=>⟨⟨true,rfl,fun z=>by cases z⟩,H_.kept⟩
 have hfit:t.fit 40:=hq (by simpa using cc)
 have hfit2:=hfit.up (n':=2^20) om
 refine ax ?_
 refine xpq (fun _ l p_ L_=>l=[(1,none,.slice none 0 0),(2,none,.pointer (some ⟨b1,0,none⟩)),(5,none,.int .i64 0)]/\p_=p/\L_=[[(b1,.cells (tcs A t).toArray 33 (0,0))]]) (m₀:=0) ⟨rfl,rfl,rfl⟩ sb ?_
 rintro _ _ p _ _ ⟨rfl,rfl,rfl⟩
 refine ax ?_
 refine xiq rfl (fun cd=>absurd cd (by simp)) (fun _=>?_)
 refine ax ?_
 refine xlq rfl rfl (fun _ pe=>c7 md _ _ pe A t T hfit2) ?_
 refine cq (fun ce=>?_) (fun ce=>?_)
 ·refine ax ?_
  exact K.r rfl rfl fun _ H_=>⟨⟨false,rfl,fun _=>hfit⟩,H_.kept⟩
 refine lq fun b6=>?_
 refine ax ?_
 refine xpq (fun _ l p_ _=>l=[(1,none,.slice none 0 0),(7,none,.int .i64 0)]/\p_=p) (m₀:=0) ⟨rfl,rfl⟩ sb ?_
 rintro _ _ p _ _ ⟨rfl,rfl⟩
 refine ax ?_
 refine xiq rfl (fun cd=>absurd cd (by simp)) (fun _=>?_)
 refine ax ?_
 exact K.r rfl rfl fun _ H_=>⟨⟨false,rfl,fun _=>hfit⟩,H_.kept⟩
theorem c18(md:Md)(h:Heap)(p:PHeap)(hp:Per p h)(A:TA)(t:Twn)(T:TwP p A t)(hn:t.fit 9223372036854775807):
 CallsX prog md 18 #[twV A t,.slice none 0 0] h fun v h'=>(∃q:Bool,v=.bool q/\(q=true->chkT t=0))/\Keep h h':=by
 refine xfq hp func18 fun _ _ _ K=>?_
 refine xjq rfl fun b1=>?_
 refine ax ?_
 refine xxl rfl rfl (fun h pe=>c6 md h _ pe A t T hn) ?_
 rintro _ ⟨q,rfl,hq⟩
 refine ax ?_
 refine xvq rfl rfl rfl sdu (fun cg _ pe=>c7 md _ _ pe A t T ((hq (by simpa using cg)).up om)) ?_
 refine ax ?_
 exact K.r rfl rfl fun _ H_=>⟨⟨_,rfl,fun e=>by simp at e;exact e.2⟩,H_.kept⟩
theorem ywv(md:Md):∀(f n:Nat),n<f->n<=1000000000-> ∀(h:Heap)(p:PHeap),Per p h->CallsX prog md 16 #[.int .i64 ((n:Nat):Int)] h fun v h'=>v=sv (txtN n)/\Keep h h'
 |0,n,hf,_,_,_,_=>absurd hf (Nat.not_lt_zero _)
 |f+1,n,hf,hb,h,p,hp=>by
   refine xfq hp func16 fun _ _ _ K=>?_
   refine xiq rfl (fun cc=>absurd cc om) (fun _=>?_)
   refine cq (fun cc=>?_) (fun cc=>?_)
   ·refine ax ?_
    refine xzn ((48+n:Nat):Int) rfl (wr8 om) ?_ (hs:=⟨_,underlying3⟩)
    refine ax ?_
    refine xdz rfl fun v Y o=>?_
    have o:OwnS 5 1 v (bcs [UInt8.ofNat (48+n)]) Y:=by
     have e:bcs [UInt8.ofNat (48+n)]=[[.int .u8 ((48+n:Nat):Int)]]:=by
      have z:(UInt8.ofNat (48+n)).toNat=48+n:=by show(48+n)%256=_;omega
      show [[Value.int .u8 (((UInt8.ofNat (48+n)).toNat:Nat):Int)]]=_
      rw[z]
     rw[e];exact o
    obtain⟨-,⟨-,e,-⟩|⟨b,cs',cap,rest,rfl,rfl,hcs,-,-⟩⟩:=o
    ·cases e
    refine ax ?_
    refine xy1 (a:=[UInt8.ofNat (48+n)]) rfl (fun j v hj=>?_) ?_
    ·rw[List.getElem?_toArray,hcs,Nat.zero_add,List.getElem?_append_left (List.getElem?_eq_some_iff.1 hj).1];exact hj
    refine ax ?_
    exact K.r rfl rfl fun _ H_=>⟨by rw[xpj om];rfl,H_.kept⟩
   refine ax ?_
   refine xfh 10 rfl rfl rfl (by decide) (wrZ om) ?_
   refine xlq rfl rfl (fun h pe=>ywv md f (n / 10) om om h _ pe) ?_
   refine ax ?_
   refine xeh 10 rfl rfl rfl (by decide) ?_
   refine xlq rfl rfl (fun h pe=>ywv md f (n%10) om om h _ pe) ?_
   refine ax ?_
   refine xeb rfl rfl (by have:=xyz (k:=9) (n:=n / 10) om;have:=xyz (k:=9) (n:=n%10) om;omega) ?_
   refine ax ?_
   exact K.r rfl rfl fun _ H_=>⟨by rw[xgv (n:=n) om,xpj (n:=n%10) om];rfl,H_.kept⟩
theorem c16(md:Md)(h:Heap)(p:PHeap)(hp:Per p h)(n:Int)(hn: -1000000000<=n/\n<=1000000000):
 CallsX prog md 16 #[.int .i64 n] h fun v h'=>v=sv (txt n)/\Keep h h':=by
 by_cases h0:n<0
 ·refine xfq hp func16 fun _ _ _ K=>?_
  refine xiq rfl (fun _=>?_) (fun cc=>absurd h0 cc)
  refine ax ?_
  refine xg4 ((n.natAbs:Nat):Int) rfl (by rw[wrZ om];omega) ?_
  refine ax ?_
  refine xlq rfl rfl (fun h pe=>ywv md (n.natAbs+1) n.natAbs om om h _ pe) ?_
  refine ax ?_
  refine xeb (a:=[45]) rfl rfl (by have:=xyz (k:=9) (n:=n.natAbs) om;simp;omega) ?_
  refine ax ?_
  exact K.r rfl rfl fun _ H_=>⟨by unfold txt;rw[if_pos h0];rfl,H_.kept⟩
 ·have e:n=((n.natAbs:Nat):Int):=om
  have e2:txt n=txtN n.natAbs:=by unfold txt;rw[if_neg h0]
  rw[e2]
  have c:=ywv md (n.natAbs+1) n.natAbs om om h p hp
  rw[<- e]at c
  exact c
end Go.Proofs.YtjcakmlipohaeaaGreatDoor
namespace Go.X.Ms
theorem xgc:∀{w:Str}(s:Str),(32:UInt8)∉w->splitS (w++32::s)=w::splitS s
 |[],s,_=>by rw[List.nil_append,splitS,if_pos rfl]
 |c::w,s,h=>by
   have hc:c≠32:=fun e=>h (by rw[e];simp)
   have hw:(32:UInt8)∉w:=fun e=>h (List.mem_cons_of_mem _ e)
   rw[List.cons_append,splitS,if_neg hc,xgc s hw];rfl
theorem xec:∀{w:Str},(32:UInt8)∉w->splitS w=[w]
 |[],_=>rfl
 |c::w,h=>by
   have hc:c≠32:=fun e=>h (by rw[e];simp)
   have hw:(32:UInt8)∉w:=fun e=>h (List.mem_cons_of_mem _ e)
   rw[splitS,if_neg hc,xec hw];rfl
theorem xnl:∀(s:Str){x:Str},(32:UInt8)∉x->splitS (s++32::x)=splitS s++[x]
 |[],x,h=>(xgc (w:=[]) x (by simp)).trans (by rw[xec h];rfl)
 |c::s,x,h=>by
   have ih:=xnl s h
   rw[List.cons_append,splitS,splitS,ih]
   by_cases hc:c=32
   ·rw[if_pos hc,if_pos hc];rfl
   ·rw[if_neg hc,if_neg hc]
    cases e:splitS s with
    |nil=>exact absurd e (xpl s)
    |cons a t=>rfl
theorem ykn(n:Int):(32:UInt8)∉txt n:=by
 intro h
 have h2:(32:UInt8)∈txtN n.natAbs:=by
  unfold txt at h
  split at h
  ·rcases List.mem_cons.1 h with e|h
   ·cases e
   ·exact h
  ·exact h
 exact absurd (xdc _ h2) (by decide)
def sayK(w:Str)(l:List Int):Nat->Str
 |0=>w
 |k+1=>sayK w l k++(32::txt (l.getD k 0))
theorem xkc{w:Str}{l:List Int}(h:∀i,i<l.length->i64 (l.getD i 0)):∀k,k<=l.length->(sayK w l k).length<=w.length+21*k
 |0,_=>Nat.le_refl _
 |k+1,hk=>by
   have:=xkc (w:=w) h k om
   have:=xnk (h k om)
   rw[sayK,List.length_append,List.length_cons]
   omega
theorem xfg{w:Str}(hw:(32:UInt8)∉w){l:List Int}:∀k,k<=l.length->splitS (sayK w l k)=w::(l.take k).map txt
 |0,_=>by rw[sayK,xec hw];rfl
 |k+1,hk=>by
   have e:l.take (k+1)=l.take k++[l.getD k 0]:=by rw[List.take_add_one,List.getElem?_eq_getElem om,Flow.getD_at om];rfl
   rw[sayK,xnl _ (ykn _),xfg hw k om,e,List.map_append];rfl
abbrev sm6(l:List Int):Prop:=∀x∈l,-999999<=x/\x<=999999
theorem yvz(n:Int):isLet (txt n)=false:=by
 rw[Bool.eq_false_iff]
 intro h
 have h:=xmm.1 h
 unfold txt at h
 split at h
 ·have:=xwd n.natAbs
  rw[List.length_cons]at h
  omega
 ·cases e:txtN n.natAbs with
  |nil=>rw[e]at h;simp at h
  |cons d t=>
    have hd:=xdc d (by rw[e];simp)
    rw[e]at h
    unfold isDig at hd
    simp at h hd
    omega
theorem xzm{l:List Int}(h:sm6 l):(l.map txt).all clearS=true:=by
 rw[List.all_eq_true]
 intro s hs
 obtain⟨n,hn,rfl⟩:=List.mem_map.1 hs
 unfold clearS
 rw[xzr (h n hn)];rfl
theorem xud{d:Snap}:∀{l:List Int},sm6 l->valsS d (l.map txt)=some l
 |[],_=>rfl
 |n::l,h=>by
   rw[List.map_cons,valsS,xn3 (by rw[yvz];simp),xzr (h n (by simp)),xud fun x hx=>h x (List.mem_cons_of_mem _ hx)];rfl
section
variable{d:Dsk}{x k w:Str}{args:List Str}{vs:List Int}
theorem xkn(hs:splitS x=w::args)(hk:w≠wKeep):doD d x=lineD d [] (w::args):=by
 unfold doD
 simp only[hs,List.headD_cons]
 rw[if_neg hk]
theorem xy2(hs:splitS x=wKeep::k::w::args)(hl:isLet k=true):doD d x=lineD d k (w::args):=by
 unfold doD
 simp only[hs,List.headD_cons,if_true]
 rw[if_neg]
 ·simp
 ·simp[hl]
theorem xwv{q:Qn}(hq:qn (w++txt args.length)=some q)(hc:args.all clearS=true)(hv:valsS d.now args=some vs):lineD d k (w::args)=askD d q vs k:=by
 rw[xxv,hq,hc,if_neg (by simp),hv]
theorem xk5(hc:args.all clearS=true)(hq:qn (w++txt args.length)≠none\/k=[]/\od (w++txt args.length)≠none)(hv:valsS d.now args=none):lineD d k (w::args)=(d,wUnknown):=by
 rw[xxv,hc,if_neg,hv]
 rintro(h|⟨h1,h2⟩)
 ·cases h
 ·rcases hq with hq|⟨e1,e2⟩
  ·exact hq h1
  ·rcases h2 with h2|h2
   ·exact h2 e1
   ·exact e2 h2.1
theorem xlf{o:Od}(hq:qn (w++txt args.length)=none)(ho:od (w++txt args.length)=some o)(hop:opensW w args.length=false)(hc:args.all clearS=true)(hv:valsS d.now args=some vs):
 lineD d [] (w::args)=match turnO o d.now.t vs with
  |none=>(d,wNo)
  |some t=>if chkT t=0 then({d with now:={d.now with t:=t}},wOk)else(d,wNo):=by
 rw[xxv,hq,ho,hc,if_neg (by simp),hv]
 simp only
 rw[if_neg (by rw[hop];simp)]
 rfl
theorem xl5(hq:qn (w++txt ((0:Nat):Int))=none)(ho:opensW w 0=true):lineD d [] [w]=((tryD d w).1,doneW (tryD d w).2):=by
 have e:=xxv d [] w []
 rw[show(([]:List Str).length:Nat)=0 from rfl,hq]at e
 rw[e,if_neg,valsS]
 ·exact if_pos ho
 ·rintro(h|⟨_,h|h⟩)
  ·cases h
  ·exact h rfl
  ·have:opensW w 0=false:=h.2
   rw[ho]at this;cases this
end
theorem xfv{n:Nat}(h:n<10):txt ((n:Nat):Int)=[UInt8.ofNat (48+n)]:=by unfold txt;rw[if_neg om,Int.natAbs_natCast,xpj h]
section
variable{d:Dsk}{w:Str}{l:List Int}
theorem yzf(hw:(32:UInt8)∉w)(hk:w≠wKeep):doD d (sayK w l l.length)=lineD d [] (w::l.map txt):=by
 unfold doD
 simp only[xfg hw l.length (Nat.le_refl _),List.headD_cons,List.take_length]
 rw[if_neg hk]
theorem yfs{q:Qn}(hw:(32:UInt8)∉w)(hk:w≠wKeep)(hl:sm6 l)(hq:qn (w++txt l.length)=some q):doD d (sayK w l l.length)=askD d q l []:=by
 rw[yzf hw hk]
 exact xwv (by rw[List.length_map];exact hq) (xzm hl) (xud hl)
theorem ygk{o:Od}(hw:(32:UInt8)∉w)(hk:w≠wKeep)(hl:sm6 l)(hq:qn (w++txt l.length)=none)(ho:od (w++txt l.length)=some o)(hop:opensW w l.length=false):
 doD d (sayK w l l.length)=match turnO o d.now.t l with
  |none=>(d,wNo)
  |some t=>if chkT t=0 then({d with now:={d.now with t:=t}},wOk)else(d,wNo):=by
 rw[yzf hw hk]
 exact xlf (by rw[List.length_map];exact hq) (by rw[List.length_map];exact ho) (by rw[List.length_map];exact hop) (xzm hl) (xud hl)
end
def okD(d:Dsk):Prop:=chkT d.now.t=0/\ ∀s∈d.past,chkT s.t=0
theorem xc1(d:Dsk)(q:Qn)(a:List Int)(l:Str):(askD d q a l).1.now.t=d.now.t/\(askD d q a l).1.past=d.past:=by
 refine⟨?_,xd1 d q a l⟩
 unfold askD
 split
 ·rfl
 ·split
  ·rfl
  ·split
   ·cases(askQ q d.now.t a).1<;>rfl
   ·rfl
theorem yfl{d:Dsk}(h:okD d){q a l}:okD (askD d q a l).1:=by
 obtain⟨e1,e2⟩:=xc1 d q a l
 unfold okD
 rw[e1,e2];exact h
theorem yel{d:Dsk}(h:okD d){w}:okD (tryD d w).1:=by
 unfold tryD
 split
 ·refine⟨h.1,fun s hs=>?_⟩
  rcases List.mem_append.1 hs with hs|hs
  ·exact h.2 s hs
  ·rw[List.mem_singleton.1 hs];exact h.1
 ·split
  ·exact h
  ·rename_i x hx
   have hm:x∈d.past:=List.mem_of_getLast? hx
   split
   ·exact⟨h.2 x hm,fun s hs=>h.2 s (List.mem_of_mem_take hs)⟩
   ·exact⟨h.1,fun s hs=>h.2 s (List.mem_of_mem_take hs)⟩
theorem xx4{d:Dsk}(h:okD d)(l w:Str)(args:List Str):okD (lineD d l (w::args)).1:=by
 rw[xxv]
 split
 ·exact h
 ·cases valsS d.now args with
  |none=>exact h
  |some vs=>
    cases qn (w++txt args.length)with
    |some q=>exact yfl h
    |none=>
      simp only
      split
      ·exact yel h
      ·cases od (w++txt args.length)with
       |none=>exact h
       |some o=>
         simp only
         cases turnO o d.now.t vs with
         |none=>exact h
         |some t=>
           simp only
           split
           ·rename_i c;exact⟨c,h.2⟩
           ·exact h
theorem ylr{d:Dsk}(h:okD d)(x:Str):okD (doD d x).1:=by
 have e:∀(l:Str)(qs:List Str),okD (lineD d l qs).1:=fun l qs=>by
  cases qs with
  |nil=>exact xx4 h l [] []
  |cons w args=>exact xx4 h l w args
 unfold doD
 simp only
 split
 ·split
  ·exact h
  ·exact e _ _
 ·exact e _ _
theorem yaz:∀{xs:List Str}{d:Dsk},okD d->okD (runD d xs).1
 |[],_,h=>h
 |x::xs,_,h=>yaz (xs:=xs) (ylr h x)
theorem yzx{t:Twn}(h:chkT t=0):okD (startD t):=⟨h,by simp[startD]⟩
theorem xqb{t:Twn}{ls:List Str}(h:chkT t=0)(hl:ls.length<=30):runR t ls=((runD (startD t) ls).2,(runD (startD t) ls).1.now.t):=by unfold runR;rw[if_neg (by rw[h];simp;omega)]
theorem xig{t:Twn}{ls:List Str}(h:chkT t=0)(hl:ls.length<=30):runE t ls=0:=by unfold runE;rw[if_neg (by rw[h];simp),if_neg om]
theorem yiw{t:Twn}{ls:List Str}(h:chkT t=0)(hl:ls.length<=30):(runR t ls).1.length=ls.length:=by rw[xqb h hl];exact xgr _ _
theorem yjw{t:Twn}{ls:List Str}(h:chkT t=0)(hl:ls.length<=30):chkT (runR t ls).2=0:=by rw[xqb h hl];exact(yaz (yzx h)).1
def setD(d:Dsk)(t:Twn):Dsk:={d with now:={d.now with t:=t}}
theorem xnw{s:Shf}:chkF s=0<->s.ok:=by unfold chkF;split<;>simp_all
end Go.X.Ms
namespace Go.Proofs.YtjcakmlipohaeaaGreatDoor
open Go.Proofs.Tryz
open Go.X Go.X.Ms Go.Conc
theorem c35(md:Md)(h:Heap)(p:PHeap)(hp:Per p h)(w:Str)(hw:w.length<=1000)(a:Option Addr)(n c:Nat)(l:List Int)(I:Ints p a n l)(hn:n<=100)(hb:∀i,i<n-> -1000000000<=l.getD i 0/\l.getD i 0<=1000000000):
 CallsX prog md 35 #[sv w,.slice a n c] h fun v h'=>v=sv (sayK w l n)/\Keep h h':=by
 have hl:=I.len
 refine xfq hp func35 fun _ _ _ K=>?_
 refine xbz (fun m_ l'=>∃j:Nat,m_=n-j/\l'=[(0,none,sv (sayK w l j)),(1,none,.slice a n c),(5,none,.int .i64 ((j:Nat):Int))]/\j<=n) ⟨0,rfl,rfl,Nat.zero_le _⟩ sb ?_
 rintro _ _ IH ⟨j,rfl,rfl,hj⟩
 refine cq (fun cd=>?_) (fun cd=>?_)
 ·have hjl:j<n:=om
  have hbj:=hb j hjl
  have hlen:=xkc (w:=w) (l:=l) (fun i hi=>⟨by have:=hb i om;omega,by have:=hb i om;omega⟩) j om
  have ht:=xnk (n:=l.getD j 0) ⟨om,om⟩
  refine ax ?_
  refine xlq rfl rfl (fun h pe=>c16 md h _ pe _ hbj) ?_
  refine ax ?_
  refine xeb (a:=[32]) rfl rfl (by simp only[List.length_cons,List.length_nil];omega) ?_
  refine ax ?_
  refine xeb rfl rfl (by simp only[List.length_append,List.length_cons,List.length_nil];omega) ?_
  refine ax ?_
  exact xnq (IH _ om ⟨j+1,rfl,rfl,om⟩)
 obtain rfl:j=n:=om
 refine ax ?_
 exact K.r rfl rfl fun _ H_=>⟨rfl,H_.kept⟩
end Go.Proofs.YtjcakmlipohaeaaGreatDoor
namespace Go.X.Flow
open Go.X
def exB:Tn:=⟨[5,4,3],[4,3],[(0,0),(1,0),(1,1),(2,1)]⟩
theorem vdB:Vd exB:=⟨by decide,by decide,by decide,by decide,by unfold YOk;decide⟩
theorem chkE_B:chkB exB=0:=chkB_yes (by decide) vdB
theorem mostE_B:mostV exB=7:=by decide +kernel
end Go.X.Flow
namespace Go.X.Ms
open Go.X.Flow (Tn exB)
open Go.X.Cist (Day)
def exS:Shf:=⟨[⟨1,2,2,9⟩,⟨1,2,2,0⟩],[1,0,1,0],0,0,2⟩
def exY:Yr:=⟨10,5,[⟨0,2,1⟩,⟨6,9,2⟩,⟨0,0,7⟩,⟨4,4,3⟩]⟩
def exT:Twn:=⟨exS,exB,exY⟩
def exB7:Tn:=⟨exB.hs,[7,3],exB.wy⟩
def exS1:Shf:={exS with feet:=[1,0,1,0,1]}
def wCheap:Str:=[99,104,101,97,112]
def exL:List Str:=[wCheap,wBegin,[102,111,111,116,32,49],wCheap,wDrop,wEnd,[107,101,101,112,32,109,32,109,111,115,116],[104,97,115,32,48,32,109],[108,97,99,107,115],[115,112,97,114,101,32,51],[115,105,122,101,32,120],[108,101,118,101,108,32,52]]
def exR:List Str:=[[49,55],wOk,wOk,[49,48],wOk,wNo,[55],wOk,[49,32,49,32,48],[50],wUnknown,wWrong]
theorem yym:Flow.chkB exB7=0:=Flow.chkB_yes (by decide) ⟨by decide,by decide,by decide,by decide,by unfold Flow.YOk;decide⟩
theorem chkY:Cist.chk exY.size exY.start exY.days=0:=Cist.chk_zero.2 (by unfold Cist.Ok Cist.DayOk;decide +kernel)
theorem xtg:chkT exT=0:=xvx.2 ⟨by decide +kernel,Flow.chkE_B,chkY⟩
theorem ykd:chkT {exT with s:=exS1}=0:=xvx.2 ⟨by decide +kernel,Flow.chkE_B,chkY⟩
theorem yjd:chkT {exT with b:=exB7}=0:=xvx.2 ⟨by decide +kernel,yym,chkY⟩
theorem xsp:findE ltC exS=0/\cheapF exS=17/\findE ltC exS1=0/\cheapF exS1=10:=by decide +kernel
theorem lkB7:Flow.LK exB7=[1,1,0]:=by decide +kernel
section
variable{d:Dsk}
theorem tx0:txt ((0:Nat):Int)=[48]:=xfv (by decide)
theorem tx1:txt ((1:Nat):Int)=[49]:=xfv (by decide)
theorem tx2:txt ((2:Nat):Int)=[50]:=xfv (by decide)
theorem xm6:doD d wCheap=askD d .cheap [] []:=
 (xkn (w:=wCheap) (args:=[]) (by decide +kernel) (by decide)).trans (xwv (q:=.cheap) (by show qn (wCheap++txt ((0:Nat):Int))=_;rw[tx0];kernel_rfl) rfl rfl)
theorem ylm{w:Str}(hs:splitS w=[w])(hk:w≠wKeep)(hq:qn (w++[48])=none)(ho:opensW w 0=true):doD d w=((tryD d w).1,doneW (tryD d w).2):=
 (xkn hs hk).trans (xl5 (by rw[tx0];exact hq) ho)
end
theorem xcn{d:Dsk}{q:Qn}{a:List Int}{l:Str}(h:(askQ q d.now.t a).2=0):askD d q a l=(if l≠[]then keepD d l (askQ q d.now.t a).1 else d,(askQ q d.now.t a).1.text):=by
 unfold askD
 rw[if_neg (by rw[h];decide),if_neg (by rw[h];simp)]
def k0:List Int:=List.replicate 26 0
def dA:Dsk:=startD exT
def dB:Dsk:=⟨⟨exT,k0,k0⟩,[⟨exT,k0,k0⟩]⟩
def dC:Dsk:=⟨⟨{exT with s:=exS1},k0,k0⟩,[⟨exT,k0,k0⟩]⟩
def dD:Dsk:=⟨⟨exT,k0.set 12 7,k0.set 12 1⟩,[]⟩
def dE:Dsk:=⟨⟨{exT with b:=exB7},k0.set 12 7,k0.set 12 1⟩,[]⟩
theorem tx17:txt 17=[49,55]:=by unfold txt;rw[if_neg (by decide),show(17:Int).natAbs=17 from rfl,xgv (by decide),xpj (by decide)];rfl
theorem tx10:txt 10=[49,48]:=by unfold txt;rw[if_neg (by decide),show(10:Int).natAbs=10 from rfl,xgv (by decide),xpj (by decide)];rfl
theorem s1:doD dA wCheap=(dA,[49,55]):=by
 rw[xm6,xcn (d:=dA) (q:=.cheap) (a:=[]) (l:=[]) xsp.1]
 show(dA,txt (cheapF exS))=_
 rw[xsp.2.1,tx17]
theorem s2:doD dA wBegin=(dB,wOk):=by
 rw[ylm (by decide +kernel) (by decide) (by kernel_rfl) (by decide)];rfl
theorem s3:doD dB [102,111,111,116,32,49]=(dC,wOk):=by
 rw[xkn (w:=[102,111,111,116]) (args:=[[49]]) (by decide +kernel) (by decide),xlf (o:=.foot) (vs:=[1]) (by show qn (_++txt ((1:Nat):Int))=_;rw[tx1];kernel_rfl) (by show od (_++txt ((1:Nat):Int))=_;rw[tx1];kernel_rfl) (by decide) (by decide +kernel) (by decide +kernel)]
 show(if chkT {exT with s:=exS1}=0 then _ else _)=_
 rw[if_pos ykd];rfl
theorem s4:doD dC wCheap=(dC,[49,48]):=by
 rw[xm6,xcn (d:=dC) (q:=.cheap) (a:=[]) (l:=[]) xsp.2.2.1]
 show(dC,txt (cheapF exS1))=_
 rw[xsp.2.2.2,tx10]
theorem s5:doD dC wDrop=(dA,wOk):=by
 rw[ylm (by decide +kernel) (by decide) (by kernel_rfl) (by decide)];rfl
theorem s6:doD dA wEnd=(dA,wNo):=by
 rw[ylm (by decide +kernel) (by decide) (by kernel_rfl) (by decide)];rfl
theorem s7:doD dA [107,101,101,112,32,109,32,109,111,115,116]=(dD,[55]):=by
 rw[xy2 (k:=[109]) (w:=[109,111,115,116]) (args:=[]) (by decide +kernel) (by decide),xwv (q:=.most) (vs:=[]) (by show qn (_++txt ((0:Nat):Int))=_;rw[tx0];kernel_rfl) rfl rfl,xcn (d:=dA) (q:=.most) (a:=[]) (l:=[109]) Flow.chkE_B]
 show(keepD dA [109] (.num (Flow.mostC exB)),txt (Flow.mostC exB))=_
 rw[show Flow.mostC exB=7 by rw[Flow.mostC,if_pos Flow.chkE_B,Flow.mostE_B]]
 show(_,txt ((7:Nat):Int))=_
 rw[xfv (by decide)];rfl
theorem s8:doD dD [104,97,115,32,48,32,109]=(dE,wOk):=by
 rw[xkn (w:=[104,97,115]) (args:=[[48],[109]]) (by decide +kernel) (by decide),xlf (o:=.has) (vs:=[0,7]) (by show qn (_++txt ((2:Nat):Int))=_;rw[tx2];kernel_rfl) (by show od (_++txt ((2:Nat):Int))=_;rw[tx2];kernel_rfl) (by decide) (by decide +kernel) (by decide +kernel)]
 show(if chkT {exT with b:=exB7}=0 then _ else _)=_
 rw[if_pos yjd];rfl
theorem s9:doD dE [108,97,99,107,115]=(dE,[49,32,49,32,48]):=by
 rw[xkn (w:=[108,97,99,107,115]) (args:=[]) (by decide +kernel) (by decide),xwv (q:=.lacks) (vs:=[]) (by show qn (_++txt ((0:Nat):Int))=_;rw[tx0];kernel_rfl) rfl rfl,xcn (d:=dE) (q:=.lacks) (a:=[]) (l:=[]) yym]
 show(dE,txtL (Flow.LKc exB7))=_
 rw[Flow.LKc_yes yym,lkB7]
 show(dE,txt ((1:Nat):Int)++32::(txt ((1:Nat):Int)++32::(txt ((0:Nat):Int)++[])))=_
 rw[tx0,tx1];rfl
theorem spE:Cist.spareR exY.size exY.start exY.days 3=(2,0):=by decide +kernel
theorem s10:doD dE [115,112,97,114,101,32,51]=(dE,[50]):=by
 rw[xkn (w:=[115,112,97,114,101]) (args:=[[51]]) (by decide +kernel) (by decide),xwv (q:=.spare) (vs:=[3]) (by show qn (_++txt ((1:Nat):Int))=_;rw[tx1];kernel_rfl) (by decide +kernel) (by decide +kernel),xcn (d:=dE) (q:=.spare) (a:=[3]) (l:=[]) (show(Cist.spareR exY.size exY.start exY.days 3).2=0 by rw[spE])]
 show(dE,txt (Cist.spareR exY.size exY.start exY.days 3).1)=_
 rw[spE]
 show(dE,txt ((2:Nat):Int))=_
 rw[tx2]
theorem s11:doD dE [115,105,122,101,32,120]=(dE,wUnknown):=by
 rw[xkn (w:=[115,105,122,101]) (args:=[[120]]) (by decide +kernel) (by decide),xk5 (by decide +kernel) (.inr ⟨rfl,by show od (_++txt ((1:Nat):Int))≠_;rw[tx1,show od ([115,105,122,101]++[49])=some .size by kernel_rfl];simp⟩) (by decide +kernel)]
theorem lvE:(Cist.levY exY.size exY.start exY.days 4).2=1:=by decide +kernel
theorem s12:doD dE [108,101,118,101,108,32,52]=(dE,wWrong):=by
 rw[xkn (w:=[108,101,118,101,108]) (args:=[[52]]) (by decide +kernel) (by decide),xwv (q:=.level) (vs:=[4]) (by show qn (_++txt ((1:Nat):Int))=_;rw[tx1];kernel_rfl) (by decide +kernel) (by decide +kernel)]
 unfold askD
 rw[show(askQ .level dE.now.t [4]).2=1 from lvE];rfl
theorem xy9:(runD (startD exT) exL).2=exR/\(runD (startD exT) exL).1.now.t={exT with b:=exB7}:=by
 unfold exL
 simp only[runD,show startD exT=dA from rfl,s1,s2,s3,s4,s5,s6,s7,s8,s9,s10,s11,s12]
 exact⟨rfl,rfl⟩
theorem ysn:runR exT exL=(exR,{exT with b:=exB7}):=by rw[xqb xtg (by decide),xy9.1,xy9.2]
end Go.X.Ms
namespace Go.Proofs.YtjcakmlipohaeaaGreatDoor
open Go.Proofs.Tryz
open Go.X Go.X.Ms Go.Conc
open Go.X.Flow (FWay Wys wz ics TownP Tn exB)
open Go.X.Cist (Day Days dz)
theorem c100(md:Md)(h:Heap)(p:PHeap)(hp:Per p h):
 CallsX prog md 100 #[] h (LastR p h fun v p'=>∃x1 y1 x2 y2 a c b d,v=.tuple #[.agg #[.slice x1 3 y1,.slice x2 5 y2,.int .i64 1,.int .i64 1,.int .i64 3],.agg #[.slice a 2 c,.slice b 4 d,.int .i64 0,.int .i64 0,.int .i64 2]]/\(2<=c/\4<=d)/\ShfP p' a b exS):=by
 refine xfq hp func100 fun _ _ _ K=>?_
 refine xtq fun b0=>?_
 refine lq fun b1=>?_
 refine ax ?_
 refine xdz rfl fun v1 Y1 o1=>?_
 obtain⟨a1,c1,rfl,-⟩:=o1.val
 refine ax ?_
 refine xdz rfl fun v2 Y2 o2=>?_
 obtain⟨a2,c2,rfl,-⟩:=o2.val
 refine ax ?_
 refine xdz rfl fun v3 Y3 o3=>?_
 have o3:OwnS 93 4 v3 (rcs exS.rocks) Y3:=o3
 refine xbx o3 (m:=2) rfl (by decide) fun p1 a3 c3 g1 e3 h3 S3=>?_
 subst e3
 refine ax ?_
 refine xdz rfl fun v4 Y4 o4=>?_
 have o4:OwnS 3 1 v4 (ics exS.feet) Y4:=o4
 refine xbx o4 (m:=4) rfl (by decide) fun p2 a4 c4 g2 e4 h4 S4=>?_
 subst e4
 refine ax ?_
 refine xgb [2] [0,1,2] b0 ?_
 refine ex ?_
 refine ypk rfl rfl rfl trivial ?_
 refine ex ?_
 refine ax ?_
 exact K.e rfl (xqx rfl (xqx rfl .nil)) fun _ H_=>(xzx H_ (g1.trans g2) ⟨a1,c1,a2,c2,a3,c3,a4,c4,rfl,⟨h3,h4⟩,⟨Sl.mono g2.le S3,S4⟩⟩)
theorem c101(md:Md)(h:Heap)(p:PHeap)(hp:Per p h):
 CallsX prog md 101 #[] h (LastR p h fun v p'=>∃x1 y1 x2 y2 x3 y3 x4 y4 x5 y5 x6 y6 a1 c1 a2 c2 a3 c3,v=.tuple #[.agg #[.slice a1 3 c1,.slice a2 2 c2,.slice a3 4 c3],.agg #[.slice x1 2 y1,.slice x2 2 y2,.slice x3 2 y3],.agg #[.slice x4 1 y4,.slice x5 2 y5,.slice x6 2 y6]]/\(3<=c1/\2<=c2/\4<=c3)/\TownP p' a1 3 a2 2 a3 4 exB):=by
 refine xfq hp func101 fun _ _ _ K=>?_
 refine xtq fun b0=>?_
 refine lq fun b1=>?_
 refine lq fun b2=>?_
 refine ax ?_
 refine xdz rfl fun v1 Y1 o1=>?_
 have o1:OwnS 3 1 v1 (ics exB.hs) Y1:=o1
 refine xbx o1 (m:=3) rfl (by decide) fun p1 a1 c1 g1 e1 h1 S1=>?_
 subst e1
 refine ax ?_
 refine xdz rfl fun v2 Y2 o2=>?_
 have o2:OwnS 3 1 v2 (ics exB.ws) Y2:=o2
 refine xbx o2 (m:=2) rfl (by decide) fun p2 a2 c2 g2 e2 h2 S2=>?_
 subst e2
 refine ax ?_
 refine xdz rfl fun v3 Y3 o3=>?_
 have o3:OwnS 91 2 v3 (Flow.wcs exB.wy) Y3:=o3
 refine xbx o3 (m:=4) rfl (by decide) fun p3 a3 c3 g3 e3 h3 S3=>?_
 subst e3
 refine ax ?_
 refine xdz rfl fun v4 Y4 o4=>?_
 obtain⟨a4,c4,rfl,-⟩:=o4.val
 refine ax ?_
 refine xdz rfl fun v5 Y5 o5=>?_
 obtain⟨a5,c5,rfl,-⟩:=o5.val
 refine ax ?_
 refine xdz rfl fun v6 Y6 o6=>?_
 obtain⟨a6,c6,rfl,-⟩:=o6.val
 refine ax ?_
 refine xdz rfl fun v7 Y7 o7=>?_
 obtain⟨a7,c7,rfl,-⟩:=o7.val
 refine ax ?_
 refine xdz rfl fun v8 Y8 o8=>?_
 obtain⟨a8,c8,rfl,-⟩:=o8.val
 refine ax ?_
 refine xdz rfl fun v9 Y9 o9=>?_
 obtain⟨a9,c9,rfl,-⟩:=o9.val
 refine ax ?_
 refine xjx [3,4] R5 ?_
 refine ex ?_
 refine yag rfl rfl rfl rfl ?_
 refine yag rfl rfl rfl rfl ?_
 refine ex ?_
 refine ax ?_
 exact K.e rfl (xqx rfl (xqx rfl (xqx rfl .nil))) fun _ H_=>(xzx H_ ((g1.trans g2).trans g3) ⟨a4,c4,a5,c5,a6,c6,a7,c7,a8,c8,a9,c9,a1,c1,a2,c2,a3,c3,rfl,⟨h1,h2,h3⟩,⟨Sl.mono (g2.trans g3).le S1,Sl.mono g3.le S2,S3⟩⟩)
theorem c172(md:Md)(h:Heap)(p:PHeap)(hp:Per p h)(a b c:Int):
 CallsX prog md 172 #[.int .i64 a,.int .i64 b,.int .i64 c] h fun v h'=>v=.agg #[.int .i64 a,.int .i64 b,.int .i64 c]/\Keep h h':=by
 refine xfq hp func172 fun _ _ _ K=>?_
 refine xtq fun b6=>?_
 refine ax ?_
 exact K.e rfl (xqx rfl .nil) fun _ H_=>⟨rfl,H_.kept⟩
theorem c102(md:Md)(h:Heap)(p:PHeap)(hp:Per p h):
 CallsX prog md 102 #[] h (LastR p h fun v p'=>∃x1 y1 a c,v=.tuple #[.agg #[.int .i64 10,.int .i64 4,.slice x1 4 y1],.agg #[.int .i64 10,.int .i64 5,.slice a 4 c]]/\4<=c/\Days p' a 4 exY.days):=by
 refine xfq hp func102 fun _ _ _ K=>?_
 refine xtq fun b0=>?_
 refine lq fun b1=>?_
 refine ax ?_
 refine xlq rfl rfl (fun _ pe=>c172 md _ _ pe _ _ _) ?_
 refine ax ?_
 refine xlq rfl rfl (fun _ pe=>c172 md _ _ pe _ _ _) ?_
 refine ax ?_
 refine xlq rfl rfl (fun _ pe=>c172 md _ _ pe _ _ _) ?_
 refine ax ?_
 refine xlq rfl rfl (fun _ pe=>c172 md _ _ pe _ _ _) ?_
 refine ax ?_
 refine xdz rfl fun v1 Y1 o1=>?_
 obtain⟨a1,c1,rfl,-⟩:=o1.val
 refine ax ?_
 refine xlq rfl rfl (fun _ pe=>c172 md _ _ pe _ _ _) ?_
 refine ax ?_
 refine xlq rfl rfl (fun _ pe=>c172 md _ _ pe _ _ _) ?_
 refine ax ?_
 refine xlq rfl rfl (fun _ pe=>c172 md _ _ pe _ _ _) ?_
 refine ax ?_
 refine xlq rfl rfl (fun _ pe=>c172 md _ _ pe _ _ _) ?_
 refine ax ?_
 refine xdz rfl fun v2 Y2 o2=>?_
 have o2:OwnS 89 3 v2 (Cist.dcs exY.days) Y2:=o2
 refine xbx o2 (m:=4) rfl (by decide) fun p2 a2 c2 g2 e2 h2 S2=>?_
 subst e2
 refine ax ?_
 refine xgb [2] [0,1,2] b0 ?_
 refine ex ?_
 refine ypk rfl rfl rfl trivial ?_
 refine ex ?_
 refine ax ?_
 exact K.e rfl (xqx rfl (xqx rfl .nil)) fun _ H_=>(xzx H_ g2 ⟨a1,c1,a2,c2,rfl,h2,S2⟩)
theorem c46(md:Md)(h:Heap)(p:PHeap)(hp:Per p h):
 CallsX prog md 46 #[] h (LastR p h fun v p'=>∃A,v=twV A exT/\TwP p' A exT):=by
 refine xfq hp func46 fun _ _ _ K=>?_
 refine xtq fun b0=>?_
 refine ax ?_
 refine xrz rfl rfl (fun _ pe=>c100 md _ _ pe) ?_
 rintro _ p1 g1 ⟨x1,y1,x2,y2,a,ca,b,cb,rfl,q1,S1⟩
 refine lq fun b1=>?_
 refine lq fun b2=>?_
 refine ax ?_
 refine xrz rfl rfl (fun _ pe=>c101 md _ _ pe) ?_
 rintro _ p2 g2 ⟨x3,y3,x4,y4,x5,y5,x6,y6,x7,y7,x8,y8,a1,c1,a2,c2,a3,c3,rfl,q2,S2⟩
 refine lq fun b3=>?_
 refine lq fun b4=>?_
 refine lq fun b5=>?_
 refine ax ?_
 refine xrz rfl rfl (fun _ pe=>c102 md _ _ pe) ?_
 rintro _ p3 g3 ⟨x9,y9,a4,c4,rfl,q3,S3⟩
 refine lq fun b6=>?_
 refine lq fun b7=>?_
 refine ax ?_
 exact K.e rfl (xqx rfl .nil) fun _ H_=>(xzx H_ ((g1.trans g2).trans g3) ⟨⟨(a,ca),(b,cb),(a1,c1),(a2,c2),(a3,c3),(a4,c4)⟩,rfl,⟨S1.mono (g2.trans g3).le,⟨Sl.mono g3.le S2.h,Sl.mono g3.le S2.w,Sl.mono g3.le S2.y⟩,S3,q1,q2,q3⟩⟩)
end Go.Proofs.YtjcakmlipohaeaaGreatDoor
namespace Go.Proofs.YtjcakmlipohaeaaGreatDoor
open Go.Proofs.Tryz
open Go.X Go.X.Ms Go.Conc
open Go.X.Flow (ics)
theorem xx9(ls:List Str):∀u∈(scs ls).flatten,isOne u=true:=fun u hu=>by
 obtain⟨l,hl,hu⟩:=List.mem_flatten.1 hu
 obtain⟨x,_,rfl⟩:=List.mem_map.1 hl
 rw[List.mem_singleton.1 hu];rfl
def runV(t:Twn)(ls:List Str)(v:Value)(p':PHeap):Prop:=∃(a:Option Addr)(c:Nat)(A:TA),v=.tuple #[.slice a ls.length c,twV A (runR t ls).2,.bool true]/\ls.length<=c/\Strs p' a ls.length (runR t ls).1/\TwP p' A (runR t ls).2
set_option maxHeartbeats 400000 in
theorem yrn(h:Heap)(p:PHeap)(hp:Per p h)(q:PHeap)(hq:Per q h)(le:PLe p q)(A:TA)(t:Twn)(T:TwP p A t)(g:GlP p)(a:Option Addr)(c:Nat)(ls:List Str)(S:Strs q a ls.length ls)(hlm:∀s∈ls,s.length<=900)(hv:chkT t=0)(h30:ls.length<=30):
 CallsX prog (.main true) 36 #[twV A t,.slice a ls.length c] h (LastR p h (runV t ls)):=by
 have hn:t.fit (2^20):=(xcz hv).up om
 have S1:Sl q a ls.length 1 (scs ls):=S
 refine xez hp func36 fun _ _ _ K=>?_
 refine bq fun b2=>?_
 refine lq fun b5=>?_
 refine ax ?_
 refine xrz rfl rfl (fun _ pe=>c38 _ _ _ pe A t T hn) ?_
 rintro _ p1 g1 ⟨A1,rfl,T1⟩
 refine ax ?_
 refine xdz rfl fun v1 Y1 o1=>?_
 have o1:OwnS 9 1 v1 [] Y1:=o1
 refine ax ?_
 refine xmr (p':=pun p1 q) ?_ fun _ s=>s.pun hq
 refine xhh rfl rfl o1 (Sl.mono (ygt le hq g1) S1) (xx9 ls) (by simp;omega) (fun v2 Y2 o2=>?_)
 rw[List.nil_append]at o2
 refine xmr (p':=p1) ?_ fun _ s=>s.forget yht
 refine ax ?_
 refine xbx o2 (m:=ls.length) (xuq _) (by decide) fun p2 a2 c2 g2 e2 hc2 S2=>?_
 subst e2
 refine xrz rfl rfl (fun h pe=>c15 h _ pe A1 t (T1.mono g2.le) hn (g.mono (g1.trans g2).le) a2 c2 ls S2 om hlm xup) ?_
 rintro _ p3 g3 ⟨a3,c3,A3,rfl,hc3,S3,T3⟩
 have el:=yiw hv h30
 have ek:=yjw hv h30
 rw[el]at S3 hc3⊢
 rw[xig hv h30]
 refine lq fun b8=>?_
 refine ax ?_
 refine xgb [17] R18 b5 ?_
 refine ex ?_
 refine xak rfl rfl rfl rfl sdu (fun _ _ pe=>c7 _ _ _ pe A3 _ T3 ((xcz ek).up om)) ?_
 refine ex ?_
 refine ax ?_
 exact xnz func36 rfl (.tmp rfl (xqx rfl (.tmp rfl .nil))) fun _ H_=>K _ _ (xzx H_ ((g1.trans g2).trans g3) ⟨a3,c3,A3,by rw[ek,decide_eq_true (show((ls.length:Nat):Int)=ls.length from rfl)];rfl,hc3,S3,T3⟩)
theorem c36(h:Heap)(p:PHeap)(hp:Per p h)(A:TA)(t:Twn)(T:TwP p A t)(g:GlP p)(a:Option Addr)(c:Nat)(ls:List Str)(S:Strs p a ls.length ls)(hlm:∀s∈ls,s.length<=900)(hv:chkT t=0)(h30:ls.length<=30):
 CallsX prog (.main true) 36 #[twV A t,.slice a ls.length c] h (LastR p h (runV t ls)):=yrn h p hp p hp (.refl p) A t T g a c ls S hlm hv h30
set_option maxHeartbeats 400000 in
theorem c20(h:Heap)(p:PHeap)(hp:Per p h)(g:GlP p):CallsX prog (.main true) 20 #[] h fun v h'=>v=.bool true/\Keep h h':=by
 refine xfq hp func20 fun _ _ _ K=>?_
 refine xrz rfl rfl (fun _ pe=>c46 _ _ _ pe) ?_
 rintro _ p1 g1 ⟨A1,rfl,T1⟩
 refine ax ?_
 refine xdz rfl fun v1 Y1 o1=>?_
 have o1:OwnS 9 1 v1 (scs exL) Y1:=o1
 refine xbx o1 (m:=12) rfl (by decide) fun p2 a2 c2 g2 e2 hc2 S2=>?_
 subst e2
 refine ax ?_
 refine xrz rfl rfl (fun h pe=>c15 h _ pe A1 exT (T1.mono g2.le) ((xcz xtg).up om) (g.mono (g1.trans g2).le) a2 c2 exL S2 (by decide) (by decide) xup) ?_
 rintro _ p3 g3 ⟨a3,c3,A3,rfl,hc3,S3,T3⟩
 rw[ysn]at S3 hc3 T3⊢
 rw[xig xtg (by decide)]
 have Sw:Ints p3 A3.w.1 2 [7,3]:=T3.b.w
 refine lq fun b8=>?_
 refine ax ?_
 refine xwt rfl rfl trivial fun v4 Y4 o4=>?_
 have o4:OwnS 3 1 v4 (ics [7,3]) Y4:=o4
 refine xbx o4 (m:=2) rfl (by decide) fun p4 a4 c4 g4 e4 hc4 S4=>?_
 subst e4
 refine ax ?_
 refine xvq rfl rfl rfl sdu (fun _ _ pe=>c62 _ _ _ pe _ _ _ _ _ _ [7,3] [7,3] (Sl.mono g4.le Sw) S4 ⟨by decide,by decide⟩) ?_
 refine ax ?_
 refine xwt rfl rfl trivial fun v5 Y5 o5=>?_
 have o5:OwnS 9 1 v5 (scs exR) Y5:=o5
 refine xbx o5 (m:=12) rfl (by decide) fun p5 a5 c5 g5 e5 hc5 S5=>?_
 subst e5
 refine ax ?_
 refine xvq rfl rfl rfl sdu (fun _ _ pe=>c37 _ _ _ pe _ _ _ _ _ _ exR exR (Sl.mono (g4.trans g5).le S3) S5 ⟨by decide,by decide⟩) ?_
 refine ax ?_
 exact K.r rfl rfl fun _ H_=>⟨by rfl,H_.kept⟩
end Go.Proofs.YtjcakmlipohaeaaGreatDoor
namespace Go.Proofs.YtjcakmlipohaeaaGreatDoor
open Go.Proofs.Tryz
open Go.X Go.X.Ms Go.Conc Go.RowKit Go.ChangeShapes Go.WideShapes Go.ChangeAt Go.Joins
open Go.X.Flow (FWay wcs Wys TownP tab64)
open Go.X.Cist (Day Days dcs)
theorem pCA:prog.cellsOf 53=5:=by kernel_rfl
theorem yyx{H:Type}{enc:TypeId×Value->H}{W:World}{base:Nat}{v:Value}{d:DataW H}{p:List MemPlace}(hv:Value.okWide prog W .any base 53 v)(h:DataW.Trod enc prog W 0 (fun _=>true) true 53 v d p):
 ∃a b c d e:Int,v=.agg #[.int .i64 a,.int .i64 b,.int .i64 c,.int .i64 d,.int .i64 e]:=by
 obtain⟨cs,rfl,hsz⟩:=okWide_struct underlying53 hv
 obtain⟨fuel,hf⟩:=h
 obtain⟨y0,y1,y2,y3,y4,n,hl,h0,h1,h2,h3,h4⟩:=xch underlying53 hf
 rw[pCA]at hl
 obtain⟨a,ha⟩:=xkz h0
 obtain⟨b,hb⟩:=xkz h1
 obtain⟨c,hc⟩:=xkz h2
 obtain⟨d,hd⟩:=xkz h3
 obtain⟨e,he⟩:=xkz h4
 obtain⟨l⟩:=cs
 match l,hl with
 |[c0,c1,c2,c3,c4],_=>
   simp[pCi,Value.cells]at ha hb hc hd he
   exact⟨a,b,c,d,e,by rw[ha,hb,hc,hd,he]⟩
end Go.Proofs.YtjcakmlipohaeaaGreatDoor
