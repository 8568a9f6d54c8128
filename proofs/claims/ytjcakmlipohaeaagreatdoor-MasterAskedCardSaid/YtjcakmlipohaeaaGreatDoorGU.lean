/-
  Part of proofs about a town's master: a calculus for walks beside goroutines that are only leaving, and the walks. No condition.
-/
import Derived.Test.YtjcakmlipohaeaaGreatDoorGK
import Derived.Test.YtjcakmlipohaeaaGreatDoorGT
set_option maxRecDepth 20000
set_option synthInstance.maxSize 2000
namespace Go.X.Cist
open Go.Conc
structure Day where
 lo:Int
 hi:Int
 want:Int
 deriving DecidableEq,Inhabited
def Day.cells(d:Day):List Value:=[.int .i64 d.lo,.int .i64 d.hi,.int .i64 d.want]
def dz:Day:=⟨0,0,0⟩
def dcs(ds:List Day):List (List Value):=ds.map Day.cells
def Days(p:PHeap)(a:Option Addr)(n:Nat)(ds:List Day):Prop:=Sl p a n 3 (dcs ds)
section
variable{p p':PHeap}{a:Option Addr}{n k:Nat}{ds:List Day}
theorem Days.len(s:Days p a n ds):ds.length=n:=by have:=Sl.len s;simpa[dcs]using this
theorem Days.mono(hp:PLe p p')(s:Days p a n ds):Days p' a n ds:=Sl.mono hp s
theorem Days.ne(s:Days p a n ds)(hk:0<n):a=some (adr a):=Sl.ne s hk
theorem Days.at(s:Days p a n ds)(hk:k<n){j:Nat}{v:Value}(hv:(ds.getD k dz).cells[j]?=some v):pcell p (((adr a).add (k*3)).add j)=some v:=by
 have hl:=s.len
 refine Sl.get s k (ds.getD k dz).cells ?_ j v hv
 rw[dcs,List.getElem?_map,List.getD_eq_getElem?_getD,List.getElem?_eq_getElem om];rfl
theorem Days.lo(s:Days p a n ds)(hk:k<n):pcell p ((adr a).add (k*3))=some (.int .i64 (ds.getD k dz).lo):=s.at hk (j:=0) rfl
theorem Days.hi(s:Days p a n ds)(hk:k<n):pcell p (((adr a).add (k*3)).add 1)=some (.int .i64 (ds.getD k dz).hi):=s.at hk (j:=1) rfl
theorem Days.all(s:Days p a n ds)(hk:k<n):∀j v,[Value.int .i64 (ds.getD k dz).lo,.int .i64 (ds.getD k dz).hi,.int .i64 (ds.getD k dz).want][j]?=some v->pcell p (((adr a).add (k*3)).add j)=some v:=fun _ _ hv=>s.at hk hv
theorem dcs_ones(ds:List Day):∀u∈(dcs ds).flatten,isOne u=true:=by
 intro u hu
 rw[List.mem_flatten]at hu
 obtain⟨l,hl,hu⟩:=hu
 obtain⟨x,_,rfl⟩:=List.mem_map.1 hl
 simp[Day.cells]at hu
 rcases hu with rfl|rfl|rfl<;>rfl
theorem dcs_length(ds:List Day):(dcs ds).length=ds.length:=by simp[dcs]
end
def DayOk(d:Day):Prop:=0<=d.lo/\d.lo<=20/\d.lo<=d.hi/\d.hi<=20/\0<=d.want/\d.want<=20
instance(d:Day):Decidable (DayOk d):=by unfold DayOk;infer_instance
def Ok(size start:Int)(ds:List Day):Prop:=0<=size/\size<=60/\0<=start/\start<=size/\ds.length<=8/\ ∀i,i<ds.length->DayOk (ds.getD i dz)
instance(a b:Int)(ds:List Day):Decidable (Ok a b ds):=by unfold Ok;infer_instance
def IsDay(ds:List Day)(n:Int):Prop:=0<=n/\n<ds.length
instance(ds:List Day)(n:Int):Decidable (IsDay ds n):=by unfold IsDay;infer_instance
def lev(size start:Int)(want rain:Nat->Int):Nat->Int
 |0=>start
 |i+1=>lev size start want rain i+rain i-max 0 (lev size start want rain i+rain i-size)-(want i-max 0 (want i-(lev size start want rain i+rain i-max 0 (lev size start want rain i+rain i-size))))
def ovr(size start:Int)(want rain:Nat->Int)(i:Nat):Int:=max 0 (lev size start want rain i+rain i-size)
def lack(size start:Int)(want rain:Nat->Int)(i:Nat):Int:=max 0 (want i-(lev size start want rain i+rain i-ovr size start want rain i))
def sumTo(f:Nat->Int):Nat->Int
 |0=>0
 |k+1=>sumTo f k+f k
def chk(size start:Int)(ds:List Day):Int:=if Ok size start ds then 0 else 100
def askd(size start:Int)(ds:List Day)(b:Bool):Int:=if Ok size start ds then(if b=true then 0 else 1)else 100
theorem chk_yes{size start:Int}{ds:List Day}(h:Ok size start ds):chk size start ds=0:=if_pos h
theorem chk_no{size start:Int}{ds:List Day}(h:¬ Ok size start ds):chk size start ds=100:=if_neg h
theorem chk_zero{size start:Int}{ds:List Day}:chk size start ds=0<->Ok size start ds:=by
 unfold chk;split<;>simp_all
theorem days_step{ds:List Day}{k:Nat}(h:∀i,i<k->DayOk (ds.getD i dz))(e:DayOk (ds.getD k dz)):∀i,i<k+1->DayOk (ds.getD i dz):=fun i hi=>by
 by_cases c:i=k
 ·subst c;exact e
 ·exact h i om
def wantOf(ds:List Day)(i:Nat):Int:=(ds.getD i dz).want
theorem yqb(size start:Int)(want rain:Nat->Int)(k:Nat)(h:0<=lev size start want rain k/\lev size start want rain k<=size)(hw:0<=want k):
 0<=lev size start want rain (k+1)/\lev size start want rain (k+1)<=size:=by simp only[lev];omega
theorem lev_bound{size start:Int}{want rain:Nat->Int}{n:Nat}(hs:0<=start/\start<=size)(h:∀i,i<n->0<=want i):∀k,k<=n->0<=lev size start want rain k/\lev size start want rain k<=size
 |0,_=>hs
 |k+1,hk=>yqb _ _ _ _ _ (lev_bound hs h k om) (h k om)
def loOf(ds:List Day)(i:Nat):Int:=(ds.getD i dz).lo
def hiOf(ds:List Day)(i:Nat):Int:=(ds.getD i dz).hi
def Lasts(size start:Int)(ds:List Day):Prop:=∀i,i<ds.length-> ¬ 0<lack size (min start size) (wantOf ds) (loOf ds) i
instance(size start:Int)(ds:List Day):Decidable (Lasts size start ds):=by unfold Lasts;infer_instance
theorem yfz{P:Nat->Prop}{k:Nat}(h:∀i,i<k-> ¬ P i)(e:¬ P k):∀i,i<k+1-> ¬ P i:=fun i hi=>by
 by_cases c:i=k
 ·subst c;exact e
 ·exact h i om
def Dok(ds:List Day):Prop:=∀i,i<ds.length->(0<=(ds.getD i dz).lo/\(ds.getD i dz).lo<=(ds.getD i dz).hi/\(ds.getD i dz).hi<=20)/\0<=(ds.getD i dz).want/\(ds.getD i dz).want<=200
theorem Ok.dok{size start:Int}{ds:List Day}(h:Ok size start ds):Dok ds:=fun i hi=>by have:=h.2.2.2.2.2 i hi;unfold DayOk at this;omega
def setWant(ds:List Day)(i:Nat)(w:Int):List Day:=ds.set i {ds.getD i dz with want:=w}
theorem ywm{ds:List Day}{i:Nat}{w:Int}:(dcs ds).set i ((ds.getD i dz).cells.set 2 (.int .i64 w))=dcs (setWant ds i w):=by
 simp only[dcs,setWant,List.map_set];rfl
theorem yvk{ds:List Day}{i:Nat}(h:i<ds.length):(dcs ds)[i]?=some (ds.getD i dz).cells:=by
 rw[dcs,List.getElem?_map,List.getD_eq_getElem?_getD,List.getElem?_eq_getElem h];rfl
def wpre(wf:Nat->Int->Int)(ds:List Day)(k:Nat):List Day:=(List.range ds.length).map fun i=>if i<k then {ds.getD i dz with want:=wf i (ds.getD i dz).want}else ds.getD i dz
def wmap(wf:Nat->Int->Int)(ds:List Day):List Day:=wpre wf ds ds.length
theorem xxz(wf:Nat->Int->Int)(ds:List Day)(k:Nat):(wpre wf ds k).length=ds.length:=by simp[wpre]
theorem xbv{wf:Nat->Int->Int}{ds:List Day}{k i:Nat}(h:i<ds.length):(wpre wf ds k).getD i dz=if i<k then {ds.getD i dz with want:=wf i (ds.getD i dz).want}else ds.getD i dz:=by
 simp[wpre,List.getD_eq_getElem?_getD,h]
theorem xy8(wf:Nat->Int->Int)(ds:List Day):wpre wf ds 0=ds:=by
 refine xsf (d:=dz) (xxz _ _ _) fun i hi=>?_
 rw[xxz]at hi
 rw[xbv hi,if_neg om]
theorem xz8{wf:Nat->Int->Int}{ds:List Day}{k:Nat}(h:k<ds.length):setWant (wpre wf ds k) k (wf k (ds.getD k dz).want)=wpre wf ds (k+1):=by
 refine xsf (d:=dz) (by simp[setWant,xxz]) fun i hi=>?_
 have hi':i<ds.length:=by simpa[setWant,xxz]using hi
 rw[xbv hi']
 unfold setWant
 rw[List.getD_eq_getElem?_getD,List.getElem?_set]
 by_cases e:k=i
 ·subst e
  rw[if_pos rfl,if_pos (by rw[xxz];exact h),if_pos om,xbv h,if_neg om];rfl
 ·rw[if_neg e,<- List.getD_eq_getElem?_getD,xbv hi']
  by_cases c:i<k
  ·rw[if_pos c,if_pos om]
  ·rw[if_neg c,if_neg om]
theorem xev(wf:Nat->Int->Int)(ds:List Day):(wmap wf ds).length=ds.length:=xxz _ _ _
theorem xob{wf:Nat->Int->Int}{ds:List Day}{i:Nat}(h:i<ds.length):(wmap wf ds).getD i dz={ds.getD i dz with want:=wf i (ds.getD i dz).want}:=by
 unfold wmap;rw[xbv h,if_pos h]
theorem xa9{wf:Nat->Int->Int}{ds:List Day}{k:Nat}(h:k<ds.length):(dcs (wpre wf ds k))[k]?=some [.int .i64 (ds.getD k dz).lo,.int .i64 (ds.getD k dz).hi,.int .i64 (ds.getD k dz).want]:=by
 rw[yvk (by rw[xxz];exact h),xbv h,if_neg om];rfl
theorem ynv{wf:Nat->Int->Int}{ds:List Day}{k:Nat}(h:k<ds.length):
 (dcs (wpre wf ds k)).set k ([Value.int .i64 (ds.getD k dz).lo,.int .i64 (ds.getD k dz).hi,.int .i64 (ds.getD k dz).want].set 2 (.int .i64 (wf k (ds.getD k dz).want)))=dcs (wpre wf ds (k+1)):=by
 rw[<- xz8 h,<- ywm,xbv h,if_neg om];rfl
theorem xk6{wf:Nat->Int->Int}{ds:List Day}(h:Dok ds)(hw:∀i,i<ds.length->0<=wf i (ds.getD i dz).want/\wf i (ds.getD i dz).want<=200):Dok (wmap wf ds):=fun i hi=>by
 rw[xev]at hi
 rw[xob hi]
 exact⟨(h i hi).1,hw i hi⟩
def rationed(n:Int)(ds:List Day):List Day:=wmap (fun _ w=>min w n) ds
def ratDown(size start:Int)(ds:List Day):Nat->Int
 |0=>0
 |k+1=>if Lasts size start (rationed ((k+1:Nat):Int) ds)then((k+1:Nat):Int)else ratDown size start ds k
theorem xx7{size start:Int}{want rain:Nat->Int}{n:Nat}(hs:0<=start/\start<=size)(h:∀i,i<n->0<=want i)(k:Nat)(hk:k<=n):0<=lev size start want rain k:=(lev_bound hs h k hk).1
theorem xz7{size start:Int}{ds:List Day}(hs:0<=size/\0<=start)(hd:Dok ds):Lasts size start (rationed 0 ds):=by
 intro i hi
 unfold rationed at hi
 rw[xev]at hi
 have hw:∀j,j<ds.length->wantOf (rationed 0 ds) j=0:=fun j hj=>by
  unfold wantOf rationed;rw[xob hj]
  have:=(hd j hj).2
  show min (ds.getD j dz).want 0=0
  omega
 have hl:=xx7 (size:=size) (start:=min start size) (want:=wantOf (rationed 0 ds)) (rain:=loOf (rationed 0 ds)) (n:=ds.length) ⟨om,om⟩ (fun j hj=>by rw[hw j hj];exact Int.le_refl _) i om
 have hr:0<=loOf (rationed 0 ds) i:=by unfold loOf rationed;rw[xob hi];exact(hd i hi).1.1
 unfold lack ovr
 rw[hw i hi]
 omega
theorem yyp{size start:Int}{ds:List Day}{k:Nat}(h:Lasts size start (rationed (k:Nat) ds)):ratDown size start ds k=k:=by
 cases k with
 |zero=>rfl
 |succ k=>unfold ratDown;rw[if_pos h]
theorem yab{size start:Int}{ds:List Day}{k:Nat}(hs:0<=size/\0<=start)(hd:Dok ds)(h:¬ Lasts size start (rationed (k:Nat) ds)):0<k/\ratDown size start ds k=ratDown size start ds (k-1):=by
 cases k with
 |zero=>exact absurd (xz7 hs hd) h
 |succ k=>exact⟨om,by rw[Nat.add_sub_cancel];show(if _ then _ else _)=_;rw[if_neg h]⟩
def upTo(q:Nat->Bool):Nat->Nat->Option Nat
 |_,0=>none
 |k,f+1=>if q k=true then some k else upTo q (k+1) f
theorem xo3{q:Nat->Bool}{k n:Nat}(hk:k<n)(h:q k=true):upTo q k (n-k)=some k:=by
 rw[show n-k=(n-k-1)+1 from by omega];unfold upTo;rw[if_pos h]
theorem xft{q:Nat->Bool}{k n:Nat}(hk:k<n)(h:q k=false):upTo q k (n-k)=upTo q (k+1) (n-(k+1)):=by
 rw[show n-k=(n-(k+1))+1 from by omega];conv=>lhs;unfold upTo
 rw[if_neg (by rw[h];simp)]
theorem yqv{q:Nat->Bool}{k n:Nat}(hk:n<=k):upTo q k (n-k)=none:=by
 rw[show n-k=0 from by omega];rfl
def found:Option Nat->Int×Int
 |some k=>((k:Nat),0)
 |none=>(0,3)
def sizeR(size start:Int)(ds:List Day):Int×Int:=if Ok size start ds then found (upTo (fun k=>decide (Lasts (k:Nat) start ds)) 0 61)else(0,100)
def moreF(day more:Int)(i:Nat)(w:Int):Int:=if((i:Nat):Int)=day then w+more else w
def wanted(day more:Int)(ds:List Day):List Day:=wmap (moreF day more) ds
def spUp(size start:Int)(ds:List Day)(day:Int):Option Nat:=upTo (fun k=>decide (¬ Lasts size start (wanted day ((k:Nat)+1) ds))) 0 100
theorem xin{size start day:Int}{ds:List Day}{more:Int}(hs:0<=size/\size<=60/\0<=start)(hd:Dok ds)(hday:IsDay ds day)(hm:60<more):¬ Lasts size start (wanted day more ds):=by
 intro hl
 obtain⟨h0,h1⟩:=hday
 have hi:day.toNat<ds.length:=om
 have hlen:(wanted day more ds).length=ds.length:=xev _ _
 have:=hl day.toNat (by rw[hlen];exact hi)
 have hw:wantOf (wanted day more ds) day.toNat=(ds.getD day.toNat dz).want+more:=by
  unfold wantOf wanted;rw[xob hi]
  show moreF day more day.toNat _=_
  unfold moreF;rw[if_pos om]
 have hwn:∀i,i<ds.length->0<=wantOf (wanted day more ds) i:=fun i hi=>by
  unfold wantOf wanted;rw[xob hi]
  show 0<=moreF day more i _
  have:=(hd i hi).2.1
  unfold moreF;split<;>omega
 have hb:=lev_bound (size:=size) (start:=min start size) (want:=wantOf (wanted day more ds)) (rain:=loOf (wanted day more ds)) (n:=ds.length) ⟨om,om⟩ hwn day.toNat om
 have h2:=(hd day.toNat hi).2.1
 unfold lack ovr at this
 rw[hw]at this
 omega
def spareR(size start:Int)(ds:List Day)(day:Int):Int×Int:=
 if askd size start ds (decide (IsDay ds day))=0 then(if Lasts size start ds then found (spUp size start ds day)else(0,3))else(0,askd size start ds (decide (IsDay ds day)))
def cnt(ds:List Day):Nat->Int
 |0=>1
 |k+1=>cnt ds k*(hiOf ds k-loOf ds k+1)
end Go.X.Cist
namespace Go.X.Cist
def badDay'(d:Day):Bool:=!decide (DayOk d)
end Go.X.Cist
namespace Go.Proofs.YtjcakmlipohaeaaGreatDoor
open Go.Proofs.Tryz
open Go.X Go.X.Cist Go.Conc
open Go.X.Flow (idxA idxA_some idxA_none idxA_iff upto_st)
theorem c113(md:Md)(h:Heap)(p:PHeap)(hp:Per p h)(n lo hi:Int):CallsX prog md 113 #[.int .i64 n,.int .i64 lo,.int .i64 hi] h fun v h'=>v=.bool (decide (lo<=n/\n<=hi))/\Keep h h':=by
 refine xax hp func113 fun _ _ _ K=>?_
 refine aw ?_
 exact K.r rfl rfl fun _ H_=>⟨congrArg _ (bpe Iff.rfl),H_.kept⟩
theorem c112(md:Md)(h:Heap)(p:PHeap)(hp:Per p h)(d:Day):CallsX prog md 112 #[.agg #[.int .i64 d.lo,.int .i64 d.hi,.int .i64 d.want]] h fun v h'=>v=.bool (badDay' d)/\Keep h h':=by
 refine xez hp func112 fun _ _ _ K=>?_
 refine bq fun b1=>?_
 refine ax ?_
 refine xlq rfl rfl (fun _ pe=>c113 md _ _ pe _ _ _) ?_
 refine ax ?_
 refine xvq rfl rfl rfl sdu (fun _ _ pe=>c113 md _ _ pe _ _ _) ?_
 refine ax ?_
 refine xvq rfl rfl rfl sdu (fun _ _ pe=>c113 md _ _ pe _ _ _) ?_
 refine ax ?_
 refine xqq func112 rfl rfl fun _ H_=>K _ _ ⟨?_,H_.kept⟩
 refine congrArg Value.bool ?_
 unfold badDay'
 rw[Bool.eq_iff_iff]
 simp only[Bool.or_eq_true,Bool.not_eq_true',decide_eq_false_iff_not]
 unfold DayOk
 omega
theorem c177(md:Md)(h:Heap)(p:PHeap)(hp:Per p h)(fv:Value)(a:Option Addr)(n c:Nat)(xs:List Day)(S:Days p a n xs)(hn:n<=2^40)(q:Day->Bool)
 (hf:∀h,Per p h-> ∀i,i<n->CallV prog md fv [.agg #[.int .i64 (xs.getD i dz).lo,.int .i64 (xs.getD i dz).hi,.int .i64 (xs.getD i dz).want]] h fun v h'=>v=.bool (q (xs.getD i dz))/\Keep h h'):
 CallsX prog md 177 #[.slice a n c,fv] h fun v h'=>v=.int .i64 (idxA q xs)/\Keep h h':=by
 have hl:=S.len
 refine xfq hp func177 fun _ _ _ K=>?_
 refine xbz (fun m l=>∃j:Nat,m=n-j/\l=[(0,none,.slice a n c),(1,none,fv),(7,none,.int .i64 n),(8,none,.int .i64 j)]/\j<=n/\ ∀i,i<j->q (xs.getD i dz)=false) ⟨0,rfl,rfl,Nat.zero_le _,om⟩ sb ?_
 rintro _ _ IH ⟨j,rfl,rfl,hj,h1⟩
 refine cq (fun cc=>?_) (fun cc=>?_)
 ·refine ax ?_
  refine xqk rfl (S.all om) ?_
  refine xhn rfl rfl (fun h_ pe=>hf h_ pe j om) ?_
  refine cq (fun ce=>?_) (fun ce=>?_)
  ·refine ax ?_
   exact K.r rfl rfl fun h_ H_=>⟨by rw[idxA_some (z:=dz) (k:=j) om ce h1];rfl,H_.kept⟩
  ·refine ax ?_
   exact xnq (IH _ om ⟨j+1,rfl,rfl,om,upto_st h1 (by simpa using ce)⟩)
 refine ax ?_
 exact K.r rfl rfl fun h_ H_=>⟨by rw[idxA_none (z:=dz) (fun i hi=>h1 i om)];rfl,H_.kept⟩
theorem c114(md:Md)(h:Heap)(p:PHeap)(hp:Per p h)(fv:Value)(a:Option Addr)(n c:Nat)(xs:List Day)(S:Days p a n xs)(hn:n<=2^40)(q:Day->Bool)
 (hf:∀h,Per p h-> ∀i,i<n->CallV prog md fv [.agg #[.int .i64 (xs.getD i dz).lo,.int .i64 (xs.getD i dz).hi,.int .i64 (xs.getD i dz).want]] h fun v h'=>v=.bool (q (xs.getD i dz))/\Keep h h'):
 CallsX prog md 114 #[.slice a n c,fv] h fun v h'=>v=.bool (decide (0<=idxA q xs))/\Keep h h':=by
 refine xfq hp func114 fun _ _ _ K=>?_
 refine xlq rfl rfl (fun _ pe=>c177 md _ _ pe fv _ _ _ xs S hn q hf) ?_
 refine ax ?_
 exact K.r rfl rfl fun _ H_=>⟨rfl,H_.kept⟩
theorem c85(md:Md)(h:Heap)(p:PHeap)(hp:Per p h)(size start:Int)(a:Option Addr)(n c:Nat)(hn:n<=2^40)(x:Int):
 CallsX prog md 85 #[.agg #[.int .i64 size,.int .i64 start,.slice a n c],.int .i64 x] h fun v h'=>v=.bool (decide (0<=x/\x<=(n:Int)-1))/\Keep h h':=by
 refine xfq hp func85 fun _ _ _ K=>?_
 refine xjq rfl fun b1=>?_
 refine ax ?_
 refine xlq rfl rfl (fun _ pe=>c113 md _ _ pe _ _ _) ?_
 refine ax ?_
 exact K.r rfl rfl fun _ H_=>⟨rfl,H_.kept⟩
theorem c56(md:Md)(h:Heap)(p:PHeap)(hp:Per p h)(size start:Int)(a:Option Addr)(n c:Nat)(ds:List Day)(D:Days p a n ds)(hn:n<=2^40):
 CallsX prog md 56 #[.agg #[.int .i64 size,.int .i64 start,.slice a n c]] h fun v h'=>v=.int .i64 (chk size start ds)/\Keep h h':=by
 have hl:=D.len
 refine xfq hp func56 fun _ _ _ K=>?_
 refine xjq rfl fun b1=>?_
 refine ax ?_
 refine xlq rfl rfl (fun _ pe=>c113 md _ _ pe _ _ _) ?_
 refine ax ?_
 refine xvq rfl rfl rfl sdu (fun _ _ pe=>c113 md _ _ pe _ _ _) ?_
 refine ax ?_
 refine xvq rfl rfl rfl sdu (fun _ _ pe=>c114 md _ _ pe _ _ _ _ ds D hn badDay' (fun h_ pe i hi=>xgq (by kernel_rfl) (c112 md _ _ pe (ds.getD i dz)))) ?_
 refine ax ?_
 have key:(0<=idxA badDay' ds)<-> ¬ ∀i,i<ds.length->DayOk (ds.getD i dz):=by
  rw[idxA_iff]
  constructor
  ·rintro⟨z,hz,y⟩ H
   obtain⟨i,hi,rfl⟩:=List.mem_iff_getElem.1 hz
   have:=H i hi
   rw[List.getD_eq_getElem?_getD,List.getElem?_eq_getElem hi]at this
   simp only[badDay',Bool.not_eq_true',decide_eq_false_iff_not]at y
   exact y this
  ·intro H
   apply Classical.byContradiction
   intro z
   apply H
   intro i hi
   apply Classical.byContradiction
   intro y
   apply z
   rw[List.getD_eq_getElem?_getD,List.getElem?_eq_getElem hi]at y
   exact⟨ds[i],List.getElem_mem hi,by simpa[badDay']using y⟩
 refine xiq rfl (fun cc=>?_) (fun cc=>?_)
 ·have hno:¬ Ok size start ds:=fun e=>by
   unfold Ok at e
   obtain⟨e1,e2,e3,e4,e5,e6⟩:=e
   have k:¬ 0<=idxA badDay' ds:=fun z=>key.1 z e6
   omega
  refine ax ?_
  exact K.r rfl rfl fun h_ H_=>⟨by rw[chk_no hno];rfl,H_.kept⟩
 ·have hyes:Ok size start ds:=by
   have k:∀i,i<ds.length->DayOk (ds.getD i dz):=Classical.byContradiction fun z=>cc (.inr (key.2 z))
   unfold Ok
   exact⟨om,om,om,om,om,k⟩
  refine ax ?_
  exact K.r rfl rfl fun h_ H_=>⟨by rw[chk_yes hyes];rfl,H_.kept⟩
theorem c84(md:Md)(h:Heap)(p:PHeap)(hp:Per p h)(size start:Int)(a:Option Addr)(n c:Nat)(ds:List Day)(D:Days p a n ds)(hn:n<=2^40)(b:Bool):
 CallsX prog md 84 #[.agg #[.int .i64 size,.int .i64 start,.slice a n c],.bool b] h fun v h'=>v=.int .i64 (askd size start ds b)/\Keep h h':=by
 refine xfq hp func84 fun _ _ _ K=>?_
 refine xjq rfl fun b1=>?_
 refine ax ?_
 refine xlq rfl rfl (fun _ pe=>c56 md _ _ pe size start a n c ds D hn) ?_
 refine cq (fun cc=>?_) (fun cc=>?_)
 ·have hno:¬ Ok size start ds:=fun e=>cc (chk_yes e)
  refine ax ?_
  exact K.r rfl rfl fun _ H_=>⟨by rw[askd,if_neg hno,chk_no hno];rfl,H_.kept⟩
 have hyes:Ok size start ds:=chk_zero.1 (Classical.not_not.1 cc)
 refine cq (fun cd=>?_) (fun cd=>?_)
 ·refine ax ?_
  exact K.r rfl rfl fun _ H_=>⟨by rw[askd,if_pos hyes,if_neg cd];rfl,H_.kept⟩
 refine ax ?_
 exact K.r rfl rfl fun _ H_=>⟨by rw[askd,if_pos hyes,if_pos (Classical.not_not.1 cd)];rfl,H_.kept⟩
end Go.Proofs.YtjcakmlipohaeaaGreatDoor
namespace Go.Proofs.YtjcakmlipohaeaaGreatDoor
open Go.Proofs.Tryz
open Go.X Go.X.Cist Go.Conc
theorem c179(md:Md){h h₀:Heap}{B₀:List Nat}{p:PHeap}{C₀:Pcs}(b:Nat)(z l n:Int)(hz:0<=z/\z<=1000/\0<=l/\l<=1000/\0<=n/\n<=1000)(T:TypeId)
 (s₀:St h₀ B₀ p h ([(b,.cells #[.int .i64 z,.int .i64 l] T (0,0))]++C₀)):
 CallsX prog md 179 #[.pointer (some ⟨b,0,none⟩),.int .i64 n] h fun v h'=>∃X',(v=.int .i64 (max 0 (l+n-z))/\X'=[(b,.cells #[.int .i64 z,.int .i64 (l+n-max 0 (l+n-z))] T (0,0))])/\St h₀ B₀ p h' (X'++C₀):=by
 refine xcj s₀ func179 fun _ _ _ K=>?_
 refine ax ?_
 refine xjx [] R8 ?_
 refine ex ?_
 refine ax ?_
 exact xqq func179 rfl rfl fun _ H_=>K _ _ ⟨_,⟨rfl,rfl⟩,by simp only[List.flatten_cons,List.flatten_nil,List.append_nil]at H_;exact H_⟩
theorem c180(md:Md){h h₀:Heap}{B₀:List Nat}{p:PHeap}{C₀:Pcs}(b:Nat)(z l n:Int)(hz:0<=z/\z<=1000/\0<=l/\l<=1000/\0<=n/\n<=1000)(T:TypeId)
 (s₀:St h₀ B₀ p h ([(b,.cells #[.int .i64 z,.int .i64 l] T (0,0))]++C₀)):
 CallsX prog md 180 #[.pointer (some ⟨b,0,none⟩),.int .i64 n] h fun v h'=>∃X',(v=.int .i64 (n-min n l)/\X'=[(b,.cells #[.int .i64 z,.int .i64 (l-min n l)] T (0,0))])/\St h₀ B₀ p h' (X'++C₀):=by
 refine xcj s₀ func180 fun _ _ _ K=>?_
 refine ax ?_
 exact xqq func180 rfl rfl fun _ H_=>K _ _ ⟨_,⟨rfl,rfl⟩,by simp only[List.flatten_cons,List.flatten_nil,List.append_nil]at H_;exact H_⟩
set_option maxHeartbeats 2000000 in
theorem c178(md:Md){h h₀:Heap}{B₀:List Nat}{p:PHeap}{X₀ C₀:Pcs}(yv rv:Value)(bY bR:Nat)(size start:Int)(a:Option Addr)(n c:Nat)(ds:List Day)(D:Days p a n ds)(hn:n<=40)(rain:Nat->Int)(T1 T2:TypeId)(q1 q2:Nat×Nat)
 (hb1:p bY=some (.cells #[.int .i64 size,.int .i64 start,.slice a n c] T1 q1))(hb2:p bR=some (.cells #[rv] T2 q2))(hs:0<=size/\size<=60/\0<=start)(hd:∀i,i<n->0<=(ds.getD i dz).want/\(ds.getD i dz).want<=200)(hr0:∀i,i<n->0<=rain i/\rain i<=20)
 (hr:∀h,Per p h-> ∀i:Nat,i<n->CallV prog md rv [.int .i64 (i:Nat)] h fun v h'=>v=.int .i64 (rain i)/\Keep h h')(I:Nat->Pcs->Prop)(J:Pcs->Prop)(hI0:I 0 X₀)
 (hy:∀i:Nat,i<n-> ∀h X C,I i X->St h₀ B₀ p h (X++C)->CallV prog md yv [.int .i64 (i:Nat),.agg #[.int .i64 (lev size (min start size) (wantOf ds) rain (i+1)),.int .i64 (lack size (min start size) (wantOf ds) rain i),.int .i64 (ovr size (min start size) (wantOf ds) rain i)]] h
  fun v h'=>∃X',((v=.bool true/\I (i+1) X')\/(v=.bool false/\J X'))/\St h₀ B₀ p h' (X'++C))(s₀:St h₀ B₀ p h (X₀++C₀)):
 CallsX prog md 178 #[yv,.pointer (some ⟨bY,0,none⟩),.pointer (some ⟨bR,0,none⟩)] h fun _ h'=>∃X',(I n X'\/J X')/\St h₀ B₀ p h' (X'++C₀):=by
 have hl:=D.len
 refine xcj s₀ func178 fun _ _ _ K=>?_
 refine lq fun b4=>?_
 refine ax ?_
 refine xpq (fun m_ l p_ L_=>∃(k:Nat)(Z:Pcs),m_=n-k/\l=[(0,none,yv),(1,none,.pointer (some ⟨bY,0,none⟩)),(2,none,.pointer (some ⟨bR,0,none⟩)),(4,none,.pointer (some ⟨b4,0,none⟩)),(18,none,.slice a n c),(19,none,.int .i64 (n:Nat)),(20,none,.int .i64 (k:Nat))]/\p_=p/\L_=[[(b4,.cells #[.int .i64 size,.int .i64 (lev size (min start size) (wantOf ds) rain k)] 245 (0,0))],Z,C₀]/\k<=n/\I k Z) ⟨0,X₀,rfl,rfl,rfl,rfl,Nat.zero_le _,hI0⟩ sb ?_
 rintro _ _ p _ IH ⟨k,Z,rfl,rfl,rfl,rfl,hk,hI⟩
 refine cq (fun cc=>?_) (fun cc=>?_)
 ·have hlv:=lev_bound (want:=wantOf ds) (rain:=rain) (size:=size) (start:=min start size) (n:=n) ⟨om,om⟩ (fun i hi=>(hd i hi).1) k hk
  have hdk:=hd k om
  have hrk:=hr0 k om
  refine ax ?_
  refine xqk rfl (D.all om) ?_
  refine xtq fun b6=>?_
  refine ax ?_
  refine xhn rfl rfl (fun _ pe=>hr _ pe k om) ?_
  refine xyl [(b4,.cells #[.int .i64 size,.int .i64 (lev size (min start size) (wantOf ds) rain k)] 245 (0,0))] rfl rfl (fun h C s=>c179 md b4 size _ (rain k) om _ s) ?_
  rintro _ _ ⟨rfl,rfl⟩
  refine ax ?_
  refine xyl [(b4,.cells #[.int .i64 size,.int .i64 (lev size (min start size) (wantOf ds) rain k+rain k-max 0 (lev size (min start size) (wantOf ds) rain k+rain k-size))] 245 (0,0))] rfl rfl (fun h C s=>c180 md b4 size _ (ds.getD k dz).want om _ s) ?_
  rintro _ _ ⟨rfl,rfl⟩
  refine ax ?_
  have e1:lev size (min start size) (wantOf ds) rain k+rain k-max 0 (lev size (min start size) (wantOf ds) rain k+rain k-size)-min (ds.getD k dz).want (lev size (min start size) (wantOf ds) rain k+rain k-max 0 (lev size (min start size) (wantOf ds) rain k+rain k-size))=lev size (min start size) (wantOf ds) rain (k+1):=by
   simp only[lev,wantOf];omega
  have e2:(ds.getD k dz).want-min (ds.getD k dz).want (lev size (min start size) (wantOf ds) rain k+rain k-max 0 (lev size (min start size) (wantOf ds) rain k+rain k-size))=lack size (min start size) (wantOf ds) rain k:=by
   simp only[lack,ovr,wantOf];omega
  refine yjf Z rfl rfl (Q:=fun v Z'=>(v=.bool true/\I (k+1) Z')\/(v=.bool false/\J Z')) (fun h C s=>?_) ?_
  ·have y:=hy k om h Z C hI s
   rw[<- e1,<- e2]at y
   exact y
  rw[e1]
  rintro _ Z1 (⟨rfl,hI1⟩|⟨rfl,hJ⟩)
  ·refine ax ?_
   refine xiq rfl (fun cd=>absurd cd (by simp)) (fun cd=>?_)
   refine ax ?_
   exact xnq (IH _ _ _ om ⟨k+1,Z1,rfl,rfl,rfl,rfl,om,hI1⟩)
  ·refine ax ?_
   refine xiq rfl (fun cd=>?_) (fun cd=>absurd (by simp) cd)
   exact xqq func178 rfl rfl fun _ H_=>K _ _ ⟨Z1,.inr hJ,xwg H_⟩
 obtain rfl:k=n:=om
 refine ax ?_
 exact xtb (f:=178) rfl rfl fun _ H_=>K _ _ ⟨Z,.inl hI,xwg H_⟩
end Go.Proofs.YtjcakmlipohaeaaGreatDoor
namespace Go.X.Cist
theorem xxs{a:Addr}:a.add 0=a:=by unfold Addr.add;cases a.spot<;>simp
end Go.X.Cist
namespace Go.Proofs.YtjcakmlipohaeaaGreatDoor
open Go.Proofs.Tryz
open Go.X Go.X.Cist Go.Conc
theorem c115(md:Md)(h:Heap)(p:PHeap)(hp:Per p h)(size start:Int)(a:Option Addr)(n c:Nat)(rv:Value)(h1:rv.cells=#[rv]):
 CallsX prog md 115 #[.agg #[.int .i64 size,.int .i64 start,.slice a n c],rv] h fun v h'=>LastR p h (fun v p'=>∃(b1 b2:Nat)(T1 T2:TypeId),v=.func (.func 178) #[] #[.pointer (some ⟨b1,0,none⟩),.pointer (some ⟨b2,0,none⟩)]/\p' b1=some (.cells #[.int .i64 size,.int .i64 start,.slice a n c] T1 (0,0))/\p' b2=some (.cells #[rv] T2 (0,0))) v h':=by
 refine xfq hp func115 fun _ _ _ K=>?_
 refine xjq rfl fun b1=>?_
 refine bq fun b2=>?_
 rw[h1]
 refine xz1 (b:=b1) fun p1 g1 k1=>?_
 refine xz1 (b:=b2) fun p2 g2 k2=>?_
 refine ax ?_
 exact K.r rfl rfl fun _ H_=>(xzx (p:=p) (p':=p2) (Q:=fun v p'=>∃(b1 b2:Nat)(T1 T2:TypeId),v=.func (.func 178) #[] #[.pointer (some ⟨b1,0,none⟩),.pointer (some ⟨b2,0,none⟩)]/\p' b1=some (.cells #[.int .i64 size,.int .i64 start,.slice a n c] T1 (0,0))/\p' b2=some (.cells #[rv] T2 (0,0))) H_ (g1.trans g2) ⟨b1,b2,_,_,rfl,g2.le _ _ k1,k2⟩)
theorem c116(md:Md)(h:Heap)(p:PHeap)(hp:Per p h)(size start:Int)(a:Option Addr)(n c:Nat)(ds:List Day)(D:Days p a n ds)(bY:Nat)(T1:TypeId)(q1:Nat×Nat)(hb1:p bY=some (.cells #[.int .i64 size,.int .i64 start,.slice a n c] T1 q1))(k:Nat)(hk:k<n):
 CallsX prog md 116 #[.int .i64 (k:Nat),.pointer (some ⟨bY,0,none⟩)] h fun v h'=>v=.int .i64 (ds.getD k dz).lo/\Keep h h':=by
 refine xfq hp func116 fun _ _ _ K=>?_
 refine xvk rfl (by show pcell p ((((adr a).add (k*3)).add 0).add 0)=_;rw[xxs,xxs];exact D.lo hk) ?_
 refine ax ?_
 exact K.r rfl rfl fun _ H_=>⟨rfl,H_.kept⟩
theorem c81(md:Md)(h:Heap)(p:PHeap)(hp:Per p h)(l k o:Int):CallsX prog md 81 #[.agg #[.int .i64 l,.int .i64 k,.int .i64 o]] h fun v h'=>v=.bool (decide (0<k))/\Keep h h':=by
 refine xfq hp func81 fun _ _ _ K=>?_
 refine xjq rfl fun b1=>?_
 refine ax ?_
 exact K.r rfl rfl fun _ H_=>⟨rfl,H_.kept⟩
theorem c79(md:Md)(h:Heap)(p:PHeap)(hp:Per p h)(n:Int):CallsX prog md 79 #[.int .i64 n] h fun v h'=>v=.tuple #[.int .i64 (if n<0 then 0 else n),.int .i64 (if n<0 then 3 else 0)]/\Keep h h':=by
 refine xfq hp func79 fun _ _ _ K=>?_
 refine xiq rfl (fun cc=>?_) (fun cc=>?_)
 ·refine ax ?_
  exact K.r rfl rfl fun _ H_=>⟨by rw[if_pos cc,if_pos cc];rfl,H_.kept⟩
 ·refine ax ?_
  exact K.r rfl rfl fun _ H_=>⟨by rw[if_neg cc,if_neg cc];rfl,H_.kept⟩
theorem c83(md:Md)(h:Heap)(p:PHeap)(hp:Per p h)(i w r:Int)(b:Nat)(T:TypeId)(q:Nat×Nat)(hb:p b=some (.cells #[.int .i64 r] T q)):CallsX prog md 83 #[.int .i64 i,.int .i64 w,.pointer (some ⟨b,0,none⟩)] h fun v h'=>v=.int .i64 (min w r)/\Keep h h':=by
 refine xfq hp func83 fun _ _ _ K=>?_
 exact K.r rfl rfl fun _ H_=>⟨rfl,H_.kept⟩
theorem c86(md:Md)(h:Heap)(p:PHeap)(hp:Per p h)(i w d e:Int)(hw:0<=w/\w<=1000/\0<=e/\e<=1000)(b1 b2:Nat)(T1 T2:TypeId)(q1 q2:Nat×Nat)(hb1:p b1=some (.cells #[.int .i64 d] T1 q1))(hb2:p b2=some (.cells #[.int .i64 e] T2 q2)):
 CallsX prog md 86 #[.int .i64 i,.int .i64 w,.pointer (some ⟨b1,0,none⟩),.pointer (some ⟨b2,0,none⟩)] h fun v h'=>v=.int .i64 (if i=d then w+e+1 else w)/\Keep h h':=by
 refine xfq hp func86 fun _ _ _ K=>?_
 refine xiq rfl (fun cc=>?_) (fun cc=>?_)
 ·refine ax ?_
  exact K.r rfl rfl fun _ H_=>⟨by rw[if_pos cc];rfl,H_.kept⟩
 ·refine ax ?_
  exact K.r rfl rfl fun _ H_=>⟨by rw[if_neg cc];rfl,H_.kept⟩
def dayV(size start:Int)(want rain:Nat->Int)(i:Nat):List Value:=[.int .i64 (i:Nat),.agg #[.int .i64 (lev size start want rain (i+1)),.int .i64 (Cist.lack size start want rain i),.int .i64 (ovr size start want rain i)]]
theorem yfg{md:Md}{p:PHeap}{rv:Value}{bY bR:Nat}{size start:Int}{a:Option Addr}{n c:Nat}{ds:List Day}(D:Days p a n ds)(hn:n<=40)(rain:Nat->Int){T1 T2:TypeId}{q1 q2:Nat×Nat}
 (hb1:p bY=some (.cells #[.int .i64 size,.int .i64 start,.slice a n c] T1 q1))(hb2:p bR=some (.cells #[rv] T2 q2))(hs:0<=size/\size<=60/\0<=start)(hd:∀i,i<n->0<=(ds.getD i dz).want/\(ds.getD i dz).want<=200)(hr0:∀i,i<n->0<=rain i/\rain i<=20)
 (hr:∀p',PLe p p'-> ∀h,Per p' h-> ∀i:Nat,i<n->CallV prog md rv [.int .i64 (i:Nat)] h fun v h'=>v=.int .i64 (rain i)/\Keep h h'):
 IterX prog md p (.func (.func 178) #[] #[.pointer (some ⟨bY,0,none⟩),.pointer (some ⟨bR,0,none⟩)]) ((List.range n).map (dayV size (min start size) (wantOf ds) rain)):=by
 intro h h₀ B₀ p' X₀ C₀ yv I Ex le h0 hy s
 refine xgq (first:=[]) (cap:=[.pointer (some ⟨bY,0,none⟩),.pointer (some ⟨bR,0,none⟩)]) (by kernel_rfl) ((c178 md yv rv bY bR size start a n c ds (Sl.mono le D) hn rain _ _ _ _ (le _ _ hb1) (le _ _ hb2) hs hd hr0 (hr p' le) I Ex h0 (fun i hi h X C hI s'=>?_) s).mono fun _ _⟨X',q,s'⟩=>⟨X',by rw[List.length_map,List.length_range];exact q,s'⟩)
 have z:=hy i (by simpa using hi) p' h X C (PLe.refl _) hI s'
 have e:((List.range n).map (dayV size (min start size) (wantOf ds) rain)).getD i []=dayV size (min start size) (wantOf ds) rain i:=by simp[List.getD_eq_getElem?_getD,hi]
 rw[e]at z
 exact z
theorem c57(md:Md)(h:Heap)(p:PHeap)(hp:Per p h)(size start:Int)(a:Option Addr)(n c:Nat)(ds:List Day)(D:Days p a n ds)(hn:n<=40)(hs:0<=size/\size<=60/\0<=start)(hd:Dok ds):
 CallsX prog md 57 #[.agg #[.int .i64 size,.int .i64 start,.slice a n c]] h fun v h'=>v=.bool (decide (Lasts size start ds))/\Keep h h':=by
 have hl:=D.len
 refine xez hp func57 fun _ _ _ K=>?_
 refine bq fun b1=>?_
 refine lq fun b2=>?_
 refine ax ?_
 refine xfw (b:=b1) fun p1 le1 h1=>?_
 refine xrz rfl rfl (fun h pe=>c115 md h _ pe size start a n c _ rfl) ?_
 rintro _ p2 g2 ⟨bY,bR,T1,T2,rfl,hY,hR⟩
 have D2:Days p2 a n ds:=Sl.mono (le1.trans g2.le) D
 have h2:=g2.le _ _ h1
 refine ax ?_
 refine ykx (fun i L=>L=[[(b2,.cells #[.bool false] 4 (0,0))]]/\ ∀j,j<i-> ¬ 0<Cist.lack size (min start size) (wantOf ds) (loOf ds) j) (fun L=>L=[[(b2,.cells #[.bool false] 4 (0,0))]]/\ ¬ Lasts size start ds) rfl (yfg D2 hn (loOf ds) hY hR hs (fun i hi=>(hd i om).2) (fun i hi=>by have z:=(hd i om).1;show 0<=(ds.getD i dz).lo/\(ds.getD i dz).lo<=20;omega) (fun p' le h pe i hi=>xgq (first:=[]) (cap:=[.pointer (some ⟨b1,0,none⟩)]) (by kernel_rfl) (c116 md h p' pe size start a n c ds (Sl.mono le D2) b1 _ _ (le _ _ h2) i hi))) ⟨rfl,om⟩ ?_ ?_ ?_ rfl ?_
 ·intro lo lp i _ p' C c₁ cs₁ Stop₁ hi le ⟨e,hq⟩ hrd nx nr
  subst e
  have e:((List.range n).map (dayV size (min start size) (wantOf ds) (loOf ds))).getD i []=dayV size (min start size) (wantOf ds) (loOf ds) i:=by
   rw[List.length_map,List.length_range]at hi
   simp[List.getD_eq_getElem?_getD,hi]
  rw[e]
  show RE _ _ ((9,none,.agg #[.int .i64 (lev size (min start size) (wantOf ds) (loOf ds) (i+1)),.int .i64 (Cist.lack size (min start size) (wantOf ds) (loOf ds) i),.int .i64 (ovr size (min start size) (wantOf ds) (loOf ds) i)])::_) _ _
  refine lq fun b4=>?_
  refine ax ?_
  dsimp only at nx nr⊢
  refine xrr hrd ?_
  refine ax ?_
  refine xlq rfl rfl (fun _ pe=>c81 md _ _ pe _ _ _) ?_
  refine cq (fun cc=>?_) (fun cc=>?_)
  ·refine ax ?_
   rw[List.length_map,List.length_range]at hi
   exact xnq (nr _ [] _ ⟨rfl,fun z=>z i om cc⟩)
  ·refine ax ?_
   exact xnq (nx [] _ ⟨rfl,yfz hq cc⟩)
 ·rintro r _ ⟨e,hq⟩
  subst e
  rw[List.length_map,List.length_range]at hq
  dsimp only
  refine ax ?_
  refine xhw (LL':=[marksP [r],[(b2,.cells #[.bool true] 4 (0,0))]]) ?_ (fun h s=>by
   refine s.perm ?_
   simp only[marksP,List.map_cons,List.map_nil,List.flatten_cons,List.flatten_nil,List.append_nil]
   exact List.Perm.swap _ _ _)
  exact xpr (rs:=[r]) (vs:=[.bool true]) func57 rfl (xb0 rfl .nil) fun _ H_=>K _ _ ⟨by rw[decide_eq_true (show Lasts size start ds from fun i hi=>hq i om)];rfl,H_.kept⟩
 ·rintro r _ ⟨e,hq⟩
  subst e
  dsimp only
  refine xhw (LL':=[marksP [r],[(b2,.cells #[.bool false] 4 (0,0))]]) ?_ (fun h s=>by simpa[marksP]using s)
  exact xpr (rs:=[r]) (vs:=[.bool false]) func57 rfl (xb0 rfl .nil) fun _ H_=>K _ _ ⟨by rw[decide_eq_false hq];rfl,H_.kept⟩
 ·intro i hi
  rw[List.length_map,List.length_range]at hi
  simp[List.getD_eq_getElem?_getD,hi,dayV]
theorem c130(md:Md)(h:Heap)(p:PHeap)(hp:Per p h)(a:Option Addr)(n c:Nat)(xs:List Day)(S:Days p a n xs)(hn:n<=2^20):
 CallsX prog md 130 #[.slice a n c] h fun v h'=>∃Y,OwnS 89 3 v (dcs xs) Y/\New h h' Y:=by
 have hl:=S.len
 refine xfq hp func130 fun _ _ _ K=>?_
 refine xut rfl ?_
 refine cq (fun cc=>?_) (fun cc=>?_)
 ·refine ax ?_
  have e:xs=[]:=by
   by_cases h0:0<n
   ·rw[S.ne h0]at cc;cases cc
   ·exact List.eq_nil_of_length_eq_zero om
  subst e
  refine xfb 89 3 fun o=>?_
  exact K.r rfl rfl fun _ H_=>⟨_,o,newR H_⟩
 refine ax ?_
 refine xdz rfl fun v Y o=>?_
 refine ax ?_
 refine xhh rfl rfl o S (dcs_ones xs) (by simp[chs];omega) (fun v' Y' o'=>?_)
 refine ax ?_
 exact K.r rfl rfl fun _ H_=>⟨_,o',newR H_⟩
theorem c82(md:Md)(h:Heap)(p:PHeap)(hp:Per p h)(size start:Int)(a:Option Addr)(n c:Nat)(ds:List Day)(D:Days p a n ds)(hn:n<=40)(fv:Value)(wf:Nat->Int->Int)
 (hf:∀h,Per p h-> ∀i:Nat,i<n->CallV prog md fv [.int .i64 (i:Nat),.int .i64 (ds.getD i dz).want] h fun v h'=>v=.int .i64 (wf i (ds.getD i dz).want)/\Keep h h'):
 CallsX prog md 82 #[.agg #[.int .i64 size,.int .i64 start,.slice a n c],fv] h fun v h'=>∃Y,(∃w,v=.agg #[.int .i64 size,.int .i64 start,w]/\OwnS 89 3 w (dcs (wmap wf ds)) Y)/\New h h' Y:=by
 have hl:=D.len
 refine xfq hp func82 fun _ _ _ K=>?_
 refine xjq rfl fun b2=>?_
 refine lq fun b4=>?_
 refine ax ?_
 refine xck rfl rfl (fun _ pe=>c130 md _ _ pe a n c ds D om) ?_
 intro v Y o
 obtain⟨a5,c5,rfl,-⟩:=o.val
 rw[dcs_length,hl]at o⊢
 refine ax ?_
 refine xpq (fun m_ l p_ L_=>∃(k:Nat)(Y:Pcs),m_=n-k/\l=[(1,none,fv),(2,none,.pointer (some ⟨b2,0,none⟩)),(4,none,.pointer (some ⟨b4,0,none⟩)),(12,none,.int .i64 (n:Nat)),(13,none,.int .i64 (k:Nat))]/\p_=p/\L_=[[(b2,.cells #[.int .i64 size,.int .i64 start,.slice a5 n c5] 31 (0,0))],Y,[(b4,.cells #[.int .i64 0,.int .i64 0,.slice none 0 0] 31 (0,0))]]/\k<=n/\OwnS 89 3 (.slice a5 n c5) (dcs (wpre wf ds k)) Y) ⟨0,Y,rfl,rfl,rfl,rfl,Nat.zero_le _,by rw[xy8];exact o⟩ sb ?_
 clear o
 rintro _ _ p _ IH ⟨k,Y,rfl,rfl,rfl,rfl,hk,o1⟩
 have hlk:(dcs (wpre wf ds k)).length=n:=by rw[dcs_length,xxz,hl]
 refine cq (fun cc=>?_) (fun cc=>?_)
 ·refine ax ?_
  refine xjx [] R12 ?_
  refine ex ?_
  refine xkk rfl rfl rfl rfl sdt sdt o1 om ?_
  refine ex ?_
  refine xcw (q:=2) rfl rfl rfl sdt o1 rfl (xa9 om) rfl ?_
  refine ex ?_
  refine xq6 rfl rfl rfl sdt rfl sdt (xpx fun h_ pe=>hf h_ pe k om) ?_
  refine ex ?_
  refine ax ?_
  refine xuk rfl rfl o1 om ?_
  refine ax ?_
  refine xjv (j:=2) rfl rfl o1 rfl rfl rfl rfl (xa9 om) (Nat.le_refl _) fun Y3 o3=>?_
  have o3:=o3.as (show _=dcs (wpre wf ds (k+1)) from ynv om)
  refine ax ?_
  exact xnq (IH _ _ _ om ⟨k+1,Y3,rfl,rfl,rfl,rfl,om,o3⟩)
 obtain rfl:n=k:=om
 refine ax ?_
 exact K.e rfl (xqx rfl .nil) fun h_ H_=>⟨Y,⟨.slice a5 n c5,rfl,o1.as (by rw[wmap,hl])⟩,newR H_⟩
end Go.Proofs.YtjcakmlipohaeaaGreatDoor
namespace Go.X.Cist
open Go.X
def sideDay(size start:Int)(want rain:Nat->Int)(i:Nat):Day:=⟨lev size start want rain (i+1),lack size start want rain i,sumTo (ovr size start want rain) (i+1)⟩
def side(size start:Int)(want rain:Nat->Int)(k:Nat):List Day:=(List.range k).map (sideDay size start want rain)
theorem side_length{size start:Int}{want rain:Nat->Int}{k:Nat}:(side size start want rain k).length=k:=by simp[side]
theorem xt9{size start:Int}{want rain:Nat->Int}{k i:Nat}(h:i<k):(side size start want rain k).getD i dz=sideDay size start want rain i:=by
 simp[side,List.getD_eq_getElem?_getD,h]
theorem xvs(size start:Int)(want rain:Nat->Int)(k:Nat):dcs (side size start want rain (k+1))=
 dcs (side size start want rain k)++[[.int .i64 (lev size start want rain (k+1)),.int .i64 (lack size start want rain k),.int .i64 (sumTo (ovr size start want rain) k+ovr size start want rain k)]]:=by
 simp[side,dcs,List.range_succ,sideDay,Day.cells,sumTo]
theorem xg0{size start:Int}{want rain:Nat->Int}{n:Nat}(hs:0<=start/\start<=size)(hw:∀i,i<n->0<=want i)(hr:∀i,i<n->0<=rain i/\rain i<=20){i:Nat}(hi:i<n):0<=ovr size start want rain i/\ovr size start want rain i<=20:=by
 have:=lev_bound (rain:=rain) hs hw i om
 have:=hr i hi
 unfold ovr;omega
theorem xht{size start:Int}{want rain:Nat->Int}{n:Nat}(hs:0<=start/\start<=size)(hw:∀i,i<n->0<=want i)(hr:∀i,i<n->0<=rain i/\rain i<=20):∀k,k<=n->0<=sumTo (ovr size start want rain) k/\sumTo (ovr size start want rain) k<=20*k
 |0,_=>by simp[sumTo]
 |k+1,hk=>by
   have:=xht hs hw hr k om
   have:=xg0 (i:=k) hs hw hr om
   simp only[sumTo];omega
end Go.X.Cist
namespace Go.Proofs.YtjcakmlipohaeaaGreatDoor
open Go.Proofs.Tryz
open Go.X Go.X.Cist Go.Conc
open Go.X.Flow (idxA idxA_some idxA_none idxA_iff upto_st)
theorem c142(md:Md)(h:Heap)(p:PHeap)(hp:Per p h)(fv:Value)(a:Option Addr)(n c:Nat)(xs:List Day)(S:Days p a n xs)(hn:n<=2^40)(q:Day->Bool)
 (hf:∀h,Per p h-> ∀i,i<n->CallV prog md fv [.agg #[.int .i64 (xs.getD i dz).lo,.int .i64 (xs.getD i dz).hi,.int .i64 (xs.getD i dz).want]] h fun v h'=>v=.bool (q (xs.getD i dz))/\Keep h h'):
 CallsX prog md 142 #[.slice a n c,fv] h fun v h'=>v=.int .i64 (idxA q xs)/\Keep h h':=by
 have hl:=S.len
 refine xfq hp func142 fun _ _ _ K=>?_
 refine xbz (fun m l=>∃j:Nat,m=n-j/\l=[(0,none,.slice a n c),(1,none,fv),(7,none,.int .i64 n),(8,none,.int .i64 j)]/\j<=n/\ ∀i,i<j->q (xs.getD i dz)=false) ⟨0,rfl,rfl,Nat.zero_le _,om⟩ sb ?_
 rintro _ _ IH ⟨j,rfl,rfl,hj,h1⟩
 refine cq (fun cc=>?_) (fun cc=>?_)
 ·refine ax ?_
  refine xqk rfl (S.all om) ?_
  refine xhn rfl rfl (fun h_ pe=>hf h_ pe j om) ?_
  refine cq (fun ce=>?_) (fun ce=>?_)
  ·refine ax ?_
   exact K.r rfl rfl fun h_ H_=>⟨by rw[idxA_some (z:=dz) (k:=j) om ce h1];rfl,H_.kept⟩
  ·refine ax ?_
   exact xnq (IH _ om ⟨j+1,rfl,rfl,om,upto_st h1 (by simpa using ce)⟩)
 refine ax ?_
 exact K.r rfl rfl fun h_ H_=>⟨by rw[idxA_none (z:=dz) (fun i hi=>h1 i om)];rfl,H_.kept⟩
theorem c80(md:Md)(h:Heap)(p:PHeap)(hp:Per p h)(fv:Value)(a:Option Addr)(n c:Nat)(xs:List Day)(S:Days p a n xs)(hn:n<=2^40)(q:Day->Bool)
 (hf:∀h,Per p h-> ∀i,i<n->CallV prog md fv [.agg #[.int .i64 (xs.getD i dz).lo,.int .i64 (xs.getD i dz).hi,.int .i64 (xs.getD i dz).want]] h fun v h'=>v=.bool (q (xs.getD i dz))/\Keep h h'):
 CallsX prog md 80 #[.slice a n c,fv] h fun v h'=>v=.int .i64 (idxA q xs)/\Keep h h':=by
 refine xfq hp func80 fun _ _ _ K=>?_
 refine xlq rfl rfl (fun _ pe=>c142 md _ _ pe fv _ _ _ xs S hn q hf) ?_
 refine ax ?_
 exact K.r rfl rfl fun _ H_=>⟨rfl,H_.kept⟩
end Go.Proofs.YtjcakmlipohaeaaGreatDoor
namespace Go.Proofs.YtjcakmlipohaeaaGreatDoor
open Go.Proofs.Tryz
open Go.X Go.X.Cist Go.Conc
theorem c32(md:Md)(h:Heap)(p:PHeap)(hp:Per p h)(size start:Int)(a:Option Addr)(n c:Nat)(ds:List Day)(D:Days p a n ds)(hn:n<=40):
 CallsX prog md 32 #[.agg #[.int .i64 size,.int .i64 start,.slice a n c]] h fun v h'=>v=.tuple #[.int .i64 (if Ok size start ds then ratDown size start ds 20 else 0),.int .i64 (chk size start ds)]/\Keep h h':=by
 have hl:=D.len
 refine xfq hp func32 fun _ _ _ K=>?_
 refine xjq rfl fun b1=>?_
 refine ax ?_
 refine xlq rfl rfl (fun _ pe=>c56 md _ _ pe size start a n c ds D om) ?_
 refine cq (fun cc=>?_) (fun cc=>?_)
 ·have hno:¬ Ok size start ds:=fun e=>cc (chk_yes e)
  refine ax ?_
  exact K.r rfl rfl fun h_ H_=>⟨by rw[if_neg hno];rfl,H_.kept⟩
 have c0:=Classical.not_not.1 cc
 have O:Ok size start ds:=chk_zero.1 c0
 have hsz:0<=size/\size<=60/\0<=start:=⟨O.1,O.2.1,O.2.2.1⟩
 have hdk:=O.dok
 refine lq fun b5=>?_
 refine xfw (b:=b1) fun p1 le1 h1=>?_
 have D:=D.mono le1
 refine ax ?_
 refine xpq (fun m_ l p_ L_=>∃(k:Nat)(nn:Int),m_=k+1/\l=[(1,none,.pointer (some ⟨b1,0,none⟩)),(5,none,.pointer (some ⟨b5,0,none⟩))]/\p_=p1/\L_=[[(b5,.cells #[.int .i64 nn] 3 (0,0))]]/\nn=k/\k<=20/\ratDown size start ds k=ratDown size start ds 20) ⟨20,20,rfl,rfl,rfl,rfl,rfl,Nat.le_refl _,rfl⟩ sb ?_
 rintro _ _ p1 _ IH ⟨k,nn,rfl,rfl,rfl,rfl,hnn,hk,hR⟩
 refine ax ?_
 refine xwl (Q:=fun v Y=>∃w,v=.agg #[.int .i64 size,.int .i64 start,w]/\OwnS 89 3 w (dcs (rationed nn ds)) Y) (first:=[]) rfl rfl (fun h s=>xas (Z:=[(b5,.cells #[.int .i64 nn] 3 (0,0))]) s (by simp) fun p' hp' le hz=>c82 md h p' hp' size start a n c ds (D.mono le) hn _ (fun _ w=>min w nn) (fun h_ pe i hi=>xgq (first:=[]) (cap:=[.pointer (some ⟨b5,0,none⟩)]) (by kernel_rfl) (c83 md h_ p' pe i _ nn b5 _ _ (hz (b5,.cells #[.int .i64 nn] 3 (0,0)) (by simp))))) ?_
 rintro _ Y ⟨w,rfl,o⟩
 refine xrb o (by rw[dcs_length,rationed,xev,hl]) fun p2 a6 c6 le2 ev D2=>?_
 subst ev
 have hdr:Dok (rationed nn ds):=xk6 hdk fun i hi=>by have z:=(hdk i hi).2;show 0<=min _ _/\min _ _<=_;omega
 refine xlq rfl rfl (fun _ pe=>c57 md _ _ pe size start a6 n c6 (rationed nn ds) D2 hn hsz hdr) ?_
 refine cq (fun cd=>?_) (fun cd=>?_)
 ·have cd:¬ Lasts size start (rationed (k:Nat) ds):=by rw[<- hnn];simpa using cd
  obtain⟨hk0,e⟩:=yab ⟨hsz.1,hsz.2.2⟩ hdk cd
  refine ax ?_
  refine xkv le2 ?_
  exact xnq (IH _ _ _ om ⟨k-1,nn-1,rfl,rfl,rfl,rfl,om,om,by rw[<- e];exact hR⟩)
 ·have cd:Lasts size start (rationed (k:Nat) ds):=by rw[<- hnn];exact Classical.not_not.1 (by simpa using cd)
  refine ax ?_
  exact K.r rfl rfl fun h_ H_=>⟨by rw[if_pos O,<- hR,yyp cd,c0,<- hnn];rfl,H_.kept⟩
theorem c14(md:Md)(h:Heap)(p:PHeap)(hp:Per p h)(size start:Int)(a:Option Addr)(n c:Nat)(ds:List Day)(D:Days p a n ds)(hn:n<=40):
 CallsX prog md 14 #[.agg #[.int .i64 size,.int .i64 start,.slice a n c]] h fun v h'=>v=.tuple #[.int .i64 (sizeR size start ds).1,.int .i64 (sizeR size start ds).2]/\Keep h h':=by
 have hl:=D.len
 refine xfq hp func14 fun _ _ _ K=>?_
 refine xjq rfl fun b1=>?_
 refine ax ?_
 refine xlq rfl rfl (fun _ pe=>c56 md _ _ pe size start a n c ds D om) ?_
 refine cq (fun cc=>?_) (fun cc=>?_)
 ·have hno:¬ Ok size start ds:=fun e=>cc (chk_yes e)
  refine ax ?_
  exact K.r rfl rfl fun _ H_=>⟨by rw[sizeR,if_neg hno,chk_no hno];rfl,H_.kept⟩
 have c0:=Classical.not_not.1 cc
 have O:Ok size start ds:=chk_zero.1 c0
 have hs0:0<=start:=O.2.2.1
 have hdk:=O.dok
 refine ax ?_
 refine xpq (fun m_ l p_ L_=>∃(k:Nat)(nn:Int),m_=61-k/\l=[(1,none,.pointer (some ⟨b1,0,none⟩))]/\p_=p/\L_=[[(b1,.cells #[.int .i64 nn,.int .i64 start,.slice a n c] 31 (0,0))]]/\nn=k/\k<=61/\upTo (fun k=>decide (Lasts (k:Nat) start ds)) k (61-k)=upTo (fun k=>decide (Lasts (k:Nat) start ds)) 0 61) ⟨0,0,rfl,rfl,rfl,rfl,rfl,Nat.zero_le _,rfl⟩ sb ?_
 rintro _ _ p _ IH ⟨k,nn,rfl,rfl,rfl,rfl,hnn,hk,hR⟩
 refine cq (fun cd=>?_) (fun cd=>?_)
 ·refine ax ?_
  refine xlq rfl rfl (fun _ pe=>c57 md _ _ pe nn start a n c ds D hn ⟨om,om,hs0⟩ hdk) ?_
  refine cq (fun ce=>?_) (fun ce=>?_)
  ·have ce:Lasts (k:Nat) start ds:=by rw[<- hnn];simpa using ce
   refine ax ?_
   exact K.r rfl rfl fun _ H_=>⟨by rw[sizeR,if_pos O,<- hR,xo3 om (decide_eq_true ce),found,<- hnn];rfl,H_.kept⟩
  ·have ce:¬ Lasts (k:Nat) start ds:=by rw[<- hnn];simpa using ce
   refine ax ?_
   exact xnq (IH _ _ _ om ⟨k+1,nn+1,rfl,rfl,rfl,rfl,om,om,by rw[<- xft om (decide_eq_false ce)];exact hR⟩)
 refine ax ?_
 exact K.r rfl rfl fun _ H_=>⟨by rw[sizeR,if_pos O,<- hR,yqv om];rfl,H_.kept⟩
theorem c33(md:Md)(h:Heap)(p:PHeap)(hp:Per p h)(size start:Int)(a:Option Addr)(n c:Nat)(ds:List Day)(D:Days p a n ds)(hn:n<=40)(day:Int):
 CallsX prog md 33 #[.agg #[.int .i64 size,.int .i64 start,.slice a n c],.int .i64 day] h fun v h'=>v=.tuple #[.int .i64 (spareR size start ds day).1,.int .i64 (spareR size start ds day).2]/\Keep h h':=by
 have hl:=D.len
 refine xfq hp func33 fun _ _ _ K=>?_
 refine xjq rfl fun b2=>?_
 refine bq fun b3=>?_
 refine ax ?_
 refine xjx [] R4 ?_
 refine ex ?_
 refine xak rfl rfl rfl rfl trivial (fun _ pe=>c85 md _ _ pe size start a n c om day) ?_
 refine ex ?_
 have eD:decide (0<=day/\day<=(n:Int)-1)=decide (IsDay ds day):=decide_eq_decide.2 (by unfold IsDay;omega)
 rw[eD]
 refine xlq rfl rfl (fun _ pe=>c84 md _ _ pe size start a n c ds D om (decide (IsDay ds day))) ?_
 refine cq (fun cc=>?_) (fun cc=>?_)
 ·refine ax ?_
  exact K.r rfl rfl fun h_ H_=>⟨by rw[spareR,if_neg cc];rfl,H_.kept⟩
 have c0:=Classical.not_not.1 cc
 have O:Ok size start ds:=Classical.byContradiction fun z=>by rw[askd,if_neg z]at c0;omega
 have hday:IsDay ds day:=Classical.byContradiction fun z=>by rw[askd,if_pos O,decide_eq_false z]at c0;simp at c0
 have hsz:0<=size/\size<=60/\0<=start:=⟨O.1,O.2.1,O.2.2.1⟩
 have hdk:=O.dok
 refine ax ?_
 refine xlq rfl rfl (fun _ pe=>c57 md _ _ pe size start a n c ds D hn hsz hdk) ?_
 refine cq (fun cd=>?_) (fun cd=>?_)
 ·have cd:¬ Lasts size start ds:=by simpa using cd
  refine ax ?_
  exact K.r rfl rfl fun h_ H_=>⟨by rw[spareR,if_pos c0,if_neg cd];rfl,H_.kept⟩
 have cd:Lasts size start ds:=Classical.not_not.1 (by simpa using cd)
 refine lq fun b7=>?_
 refine xfw (b:=b3) fun p1 le1 h1=>?_
 have D:=D.mono le1
 refine ax ?_
 refine xpq (fun m_ l p_ L_=>∃(k:Nat)(nn:Int),m_=100-k/\l=[(2,none,.pointer (some ⟨b2,0,none⟩)),(3,none,.pointer (some ⟨b3,0,none⟩)),(7,none,.pointer (some ⟨b7,0,none⟩))]/\p_=p1/\L_=[[(b7,.cells #[.int .i64 nn] 3 (0,0))],[(b2,.cells #[.int .i64 size,.int .i64 start,.slice a n c] 31 (0,0))]]/\nn=k/\k<=60/\upTo (fun k=>decide (¬ Lasts size start (wanted day ((k:Nat)+1) ds))) k (100-k)=spUp size start ds day) ⟨0,0,rfl,rfl,rfl,rfl,rfl,Nat.zero_le _,rfl⟩ sb ?_
 rintro _ _ p1 _ IH ⟨k,nn,rfl,rfl,rfl,rfl,hnn,hk,hR⟩
 refine ax ?_
 have hw20:∀i,i<n->0<=(ds.getD i dz).want/\(ds.getD i dz).want<=20:=fun i hi=>by have z:=O.2.2.2.2.2 i om;unfold DayOk at z;omega
 refine xwl (Q:=fun v Y=>∃w,v=.agg #[.int .i64 size,.int .i64 start,w]/\OwnS 89 3 w (dcs (wanted day (nn+1) ds)) Y) (first:=[]) rfl rfl (fun h s=>xas (Z:=[(b7,.cells #[.int .i64 nn] 3 (0,0))]) s (by simp) fun p' hp' le hz=>c82 md h p' hp' size start a n c ds (D.mono le) hn _ (Cist.moreF day (nn+1)) (fun h_ pe i hi=>xgq (first:=[]) (cap:=[.pointer (some ⟨b3,0,none⟩),.pointer (some ⟨b7,0,none⟩)]) (by kernel_rfl) ((c86 md h_ p' pe i _ day nn (by have z:=hw20 i hi;omega) b3 b7 _ _ _ _ (le _ _ h1) (hz (b7,.cells #[.int .i64 nn] 3 (0,0)) (by simp))).mono fun v h' e=>⟨e.1.trans (by unfold Cist.moreF;rw[Int.add_assoc]),e.2⟩))) ?_
 rintro _ Y ⟨w,rfl,o⟩
 refine xrb o (by rw[dcs_length,wanted,xev,hl]) fun p2 a6 c6 le2 ev D2=>?_
 subst ev
 have hdr:Dok (wanted day (nn+1) ds):=xk6 hdk fun i hi=>by
  have z:=hw20 i om
  unfold Cist.moreF;split<;>omega
 refine xlq rfl rfl (fun _ pe=>c57 md _ _ pe size start a6 n c6 (wanted day (nn+1) ds) D2 hn hsz hdr) ?_
 refine cq (fun ce=>?_) (fun ce=>?_)
 ·have ce:Lasts size start (wanted day ((k:Nat)+1) ds):=by rw[<- hnn];simpa using ce
  have hk2:k<60:=by
   apply Classical.byContradiction
   intro z
   exact xin hsz hdk hday (show 60<(k:Int)+1 by omega) ce
  refine ax ?_
  refine xkv le2 ?_
  exact xnq (IH _ _ _ om ⟨k+1,nn+1,rfl,rfl,rfl,rfl,om,om,by rw[<- xft om (decide_eq_false (fun z=>z ce))];exact hR⟩)
 ·have ce:¬ Lasts size start (wanted day ((k:Nat)+1) ds):=by rw[<- hnn];simpa using ce
  refine ax ?_
  exact K.r rfl rfl fun h_ H_=>⟨by rw[spareR,if_pos c0,if_pos cd,<- hR,xo3 om (decide_eq_true ce),found,<- hnn];rfl,H_.kept⟩
theorem c136(md:Md)(h:Heap)(p:PHeap)(hp:Per p h)(size start:Int)(a:Option Addr)(n c:Nat)(ds:List Day)(D:Days p a n ds)(bY:Nat)(T1:TypeId)(q1:Nat×Nat)(hb1:p bY=some (.cells #[.int .i64 size,.int .i64 start,.slice a n c] T1 q1))(k:Nat)(hk:k<n):
 CallsX prog md 136 #[.int .i64 (k:Nat),.pointer (some ⟨bY,0,none⟩)] h fun v h'=>v=.int .i64 (ds.getD k dz).lo/\Keep h h':=by
 refine xfq hp func136 fun _ _ _ K=>?_
 refine xvk rfl (by show pcell p ((((adr a).add (k*3)).add 0).add 0)=_;rw[xxs,xxs];exact D.lo hk) ?_
 refine ax ?_
 exact K.r rfl rfl fun _ H_=>⟨rfl,H_.kept⟩
theorem c137(md:Md)(h:Heap)(p:PHeap)(hp:Per p h)(size start:Int)(a:Option Addr)(n c:Nat)(ds:List Day)(D:Days p a n ds)(bY:Nat)(T1:TypeId)(q1:Nat×Nat)(hb1:p bY=some (.cells #[.int .i64 size,.int .i64 start,.slice a n c] T1 q1))(k:Nat)(hk:k<n):
 CallsX prog md 137 #[.int .i64 (k:Nat),.pointer (some ⟨bY,0,none⟩)] h fun v h'=>v=.int .i64 (ds.getD k dz).hi/\Keep h h':=by
 refine xfq hp func137 fun _ _ _ K=>?_
 refine xvk rfl (by show pcell p ((((adr a).add (k*3)).add 0).add 1)=_;rw[xxs];exact D.hi hk) ?_
 refine ax ?_
 exact K.r rfl rfl fun _ H_=>⟨rfl,H_.kept⟩
def sideΨ(H bD:Nat)(ds:List Day)(h:Heap):Prop:=∃w X,OwnS 149 3 w (dcs ds) X/\(ds.length=0->X=[])/\h[bD]?=some (.cells #[w] 138 (0,0))/\ ∀x∈X,h[x.1]?=some x.2/\H<=x.1
theorem xgg{H bD:Nat}{ds:List Day}{h h':Heap}(k:Keep h h')(x:sideΨ H bD ds h):sideΨ H bD ds h':=by
 obtain⟨w,X,o,h0,hb,hX⟩:=x
 exact⟨w,X,o,h0,(k.keep _ (xix hb)).trans hb,fun x hx=>⟨(k.keep _ (xix (hX x hx).1)).trans (hX x hx).1,(hX x hx).2⟩⟩
def bothΨ(H bD bE:Nat)(d e:List Day)(k:Nat)(h:Heap):Prop:=if k=0 then sideΨ H bD d h else sideΨ H bE e h
theorem xt8{H bD bE:Nat}{d e:List Day}(k:Nat)(h h':Heap)(hk:Keep h h')(x:bothΨ H bD bE d e k h):bothΨ H bD bE d e k h':=by
 unfold bothΨ at x⊢
 split at x
 ·rename_i h0;rw[if_pos h0];exact xgg hk x
 ·rename_i h0;rw[if_neg h0];exact xgg hk x
instance{hb:Heap}:Stb (fun h=>Keep hb h):=⟨fun _ _ a b=>a.trans b⟩
theorem c139(md:Md)(h:Heap)(p:PHeap)(bW bD bY bO:Nat)(zY zO:Nat×Nat)(size start:Int)(a:Option Addr)(n c:Nat)(ds:List Day)(D:Days p a n ds)(hn:n<=40)(rv:Value)(h1:rv.cells=#[rv])(rain:Nat->Int)
 (hY:p bY=some (.cells #[.int .i64 size,.int .i64 start,.slice a n c] 31 zY))(hO:p bO=some (.cells #[.pointer (some ⟨bD,0,none⟩),rv] 220 zO))(hs:0<=size/\size<=60/\0<=start)(hd:∀i,i<n->0<=(ds.getD i dz).want/\(ds.getD i dz).want<=200)(hr0:∀i,i<n->0<=rain i/\rain i<=20)
 (hr:∀(p':PHeap),PLe p p'-> ∀h i,Per p' h->i<n->CallV prog md rv [.int .i64 ((i:Nat):Int)] h fun v h'=>v=.int .i64 (rain i)/\Keep h h')(s₀:St h [bD] p h [(bD,.cells #[.slice none 0 0] 138 (0,0))])(c₀:Frame)(cs:List Frame)(Stop:Goroutine->Heap->Prop)
 (K:∀tm td h' w X(A:Pcs)p',OwnS 149 3 w (dcs (side size (min start size) (wantOf ds) rain n)) X->(n=0->X=[])->St h [bD] p' h' (A++((bD,.cells #[w] 138 (0,0))::(X++[])))->Go.X.Reach prog md (G (FR (B 139 .dfd) tm [dcall 140 #[.pointer (some ⟨bW,0,none⟩)]] td) (c₀::cs)) h' Stop):
 Go.X.Reach prog md (G (Frame.enter prog 139 #[.pointer (some ⟨bW,0,none⟩),.pointer (some ⟨bY,0,none⟩),.pointer (some ⟨bO,0,none⟩)] .deferred) (c₀::cs)) h Stop:=by
 refine go_E (LL:=[[(bD,.cells #[.slice none 0 0] 138 (0,0))]]) s₀ func139 ?_
 refine ax ?_
 refine yow rfl ?_
 refine lq fun b1=>?_
 refine ax ?_
 refine xrz rfl rfl (fun h pe=>c115 md h _ pe size start a n c _ h1) ?_
 rintro _ p2 g2 ⟨bY2,bR,T1,T2,rfl,hY2,hR⟩
 have D2:Days p2 a n ds:=Sl.mono g2.le D
 have hO2:=g2.le _ _ hO
 refine ax ?_
 refine xhw (LL':=[[(b1,.cells #[.int .i64 0] 3 (0,0))],[(bD,.cells #[.slice none 0 0] 138 (0,0))],[]]) ?_ (fun h s=>s)
 refine xm4 (fun i L=>∃(sm:Int)(w:Value)(X1:Pcs),L=[[(b1,.cells #[.int .i64 sm] 3 (0,0))],[(bD,.cells #[w] 138 (0,0))],X1]/\OwnS 149 3 w (dcs (side size (min start size) (wantOf ds) rain i)) X1/\sm=sumTo (ovr size (min start size) (wantOf ds) rain) i/\(i=0->X1=[])) rfl (yfg D2 hn rain hY2 hR hs hd hr0 (fun p' le h pe i hi=>hr p' (g2.le.trans le) h i pe hi)).c ⟨0,_,[],rfl,OwnS.empty _ _,rfl,fun _=>rfl⟩ ?_ ?_ rfl ?_
 ·intro lo lp i _ p' C c₁ cs₁ Stop₁ hi le ⟨sm,w,X1,e,o1,hsm,hx0⟩ hrd nx
  subst e
  rw[List.length_map,List.length_range]at hi
  have e:((List.range n).map (dayV size (min start size) (wantOf ds) rain)).getD i []=dayV size (min start size) (wantOf ds) rain i:=by simp[List.getD_eq_getElem?_getD,hi]
  rw[e]
  have hsum:=xht (size:=size) (start:=min start size) (want:=wantOf ds) (rain:=rain) (n:=n) ⟨om,om⟩ (fun i hi=>(hd i hi).1) hr0 i om
  have hov:=xg0 (size:=size) (start:=min start size) (want:=wantOf ds) (rain:=rain) (n:=n) ⟨om,om⟩ (fun i hi=>(hd i hi).1) hr0 hi
  rw[<- hsm]at hsum
  have hO3:=le _ _ hO2
  show RE _ _ ((11,none,.agg #[.int .i64 (lev size (min start size) (wantOf ds) rain (i+1)),.int .i64 (Cist.lack size (min start size) (wantOf ds) rain i),.int .i64 (ovr size (min start size) (wantOf ds) rain i)])::_) _ _
  refine lq fun b5=>?_
  refine ax ?_
  dsimp only at nx⊢
  refine xrr hrd ?_
  refine ax ?_
  refine xp4 [7,8] R9 X1 ?_
  refine ex ?_
  refine xjb rfl rfl fun v2 Y2 o2=>?_
  refine ytt rfl rfl rfl o1 o2 (xl2 rfl) (by rw[dcs_length,side_length];have:(chs 3 1 [Value.int .i64 0,.int .i64 0,.int .i64 0]).length=1:=rfl;simp only[List.length_cons,List.length_nil,chs];omega) fun v3 Y3 o3=>?_
  have o3:=o3.as (show _=dcs (side size (min start size) (wantOf ds) rain (i+1)) by rw[xvs,<- hsm];rfl)
  obtain⟨a3,c3,rfl,_⟩:=o3.val
  refine ex ?_
  refine ax ?_
  exact xnq (nx [] _ ⟨_,_,Y3,rfl,o3,by rw[sumTo,<- hsm],om⟩)
 ·rintro r _ ⟨sm,w,X1,e,o1,_,hx0⟩
  subst e
  rw[List.length_map,List.length_range]at o1 hx0
  dsimp only
  refine ax ?_
  exact yyw fun tm td h' s=>K _ _ _ _ _ [_,_] _ o1 hx0 s
 ·intro i hi
  rw[List.length_map,List.length_range]at hi
  simp[List.getD_eq_getElem?_getD,hi,dayV]
theorem xtp{S:Nat->Prop}{h₀ hb:Heap}{Z:List Nat}{pp n₀ bW bD bY bO:Nat}{size start:Int}{a:Option Addr}{n c:Nat}{ds:List Day}(D:Days (Hp hb) a n ds)(hn:n<=40)(g:FuncId)(rain:Nat->Int)
 (hbD:hb[bD]?=some (.cells #[.slice none 0 0] 138 (0,0)))(hY:HC hb bY #[.int .i64 size,.int .i64 start,.slice a n c] 31)(hO:HC hb bO #[.pointer (some ⟨bD,0,none⟩),.func (.func g) #[] #[.pointer (some ⟨bY,0,none⟩)]] 220)
 (hne:bY≠bD/\bO≠bD)(hnD:0<n->(adr a).block≠bD)(hs:0<=size/\size<=60/\0<=start)(hd:∀i,i<n->0<=(ds.getD i dz).want/\(ds.getD i dz).want<=200)(hr0:∀i,i<n->0<=rain i/\rain i<=20)
 (hr:∀(p:PHeap)(z:Nat×Nat),Days p a n ds->p bY=some (.cells #[.int .i64 size,.int .i64 start,.slice a n c] 31 z)-> ∀h i,Per p h->i<n->
  CallV prog (.own false) (.func (.func g) #[] #[.pointer (some ⟨bY,0,none⟩)]) [.int .i64 ((i:Nat):Int)] h fun v h'=>v=.int .i64 (rain i)/\Keep h h')
 {Φ:Heap->Prop}(hΦ:∀h,sideΨ hb.size bD (side size (min start size) (wantOf ds) rain n) h->Φ h):
 Go.X.Reach prog (.own false) (born prog {target:=.fn (.func 139) #[.pointer (some ⟨bW,0,none⟩),.pointer (some ⟨bY,0,none⟩),.pointer (some ⟨bO,0,none⟩)],args:=#[]}) hb (WDone prog ⟨218,bW,S,h₀,Z,pp,n₀⟩ Φ):=by
 refine xu8 (Φ:=fun h=>Keep hb h) func139 (by kernel_rfl) (by kernel_rfl) (fun h hk=>?_) hb (.refl _)
 have hbD':h[bD]?=some (.cells #[.slice none 0 0] 138 (0,0)):=(hk.keep _ (xix hbD)).trans hbD
 obtain⟨zY,hY'⟩:=hY.keep hk
 obtain⟨zO,hO'⟩:=hO.keep hk
 let p:PHeap:=fun b=>if b=bD then none else h[b]?
 have hpY:p bY=some (.cells #[.int .i64 size,.int .i64 start,.slice a n c] 31 zY):=by simp only[p,if_neg hne.1];exact hY'
 have hpO:p bO=some (.cells #[.pointer (some ⟨bD,0,none⟩),.func (.func g) #[] #[.pointer (some ⟨bY,0,none⟩)]] 220 zO):=by simp only[p,if_neg hne.2];exact hO'
 have Dp:Days p a n ds:=by
  refine⟨Sl.len D,Sl.wid D,Sl.ne D,fun i e hi j v hj=>?_⟩
  have hx:=(xen hk).cell (Sl.get D i e hi j v hj)
  have hn0:0<n:=by have:=(List.getElem?_eq_some_iff.1 hi).1;have:=Sl.len D;omega
  have hne':(((adr a).add (i*3)).add j).block≠bD:=by rw[xzg,xzg];exact hnD hn0
  unfold pcell at hx⊢
  simp only[p,if_neg hne']
  exact hx
 have s₀:St h [bD] p h [(bD,.cells #[.slice none 0 0] 138 (0,0))]:=by
  refine⟨fun _ _ _=>rfl,Nat.le_refl _,fun b o e=>?_,fun x hx=>?_,by simp⟩
  ·simp only[p]at e
   split at e
   ·cases e
   ·exact e
  ·obtain rfl:=List.mem_singleton.1 hx
   exact⟨hbD',by simp[p],.inr (by simp)⟩
 refine c139 (.own false) h p bW bD bY bO zY zO size start a n c ds Dp hn _ rfl rain hpY hpO hs hd hr0 (fun p' le h₂ i hp2 hi=>hr p' zY (Sl.mono le Dp) (le _ _ hpY) h₂ i hp2 hi) s₀ _ _ _ fun tm td h₂ w X A p' o h0 s₂=>?_
 refine yzg (Φ:=fun h₃=>Keep h₂ h₃) Tryz.wgLib func139 rfl (fun ge hge h₃ hk3=>xhk ⟨hge,hΦ h₃ (xgg hk3 ⟨w,X,o,fun e=>h0 (by rw[side_length]at e;exact e),?_,fun x hx=>?_⟩)⟩) h₂ (.refl _)
 ·exact(s₂.own (bD,.cells #[w] 138 (0,0)) (by simp)).1
 ·obtain⟨h1,h2,h3⟩:=s₂.own x (by simp[hx])
  refine⟨h1,Nat.le_trans hk.size (h3.resolve_right fun hm=>?_)⟩
  have hnd:=s₂.nod
  rw[List.map_append,List.nodup_append]at hnd
  have hnd2:=hnd.2.1
  simp only[List.map_cons,List.nodup_cons]at hnd2
  refine hnd2.1 ?_
  have e:x.1=bD:=by simpa using hm
  rw[<- e]
  exact List.mem_map.2 ⟨x,by simp[hx],rfl⟩
theorem ycl{w:Value}{ds:List Day}{X:Pcs}{h:Heap}(o:OwnS 149 3 w (dcs ds) X)(hn:0<ds.length)(hX:∀x∈X,h[x.1]?=some x.2):∃b o',X=[(b,o')]/\Exc h b:=by
 have hl:(dcs ds).length=ds.length:=dcs_length ds
 obtain⟨hw,⟨_,h0,_⟩|⟨b,cs,cap,rest,_,rfl,hcs,hlen,_⟩⟩:=o
 ·rw[h0]at hl;simp at hl;omega
 ·refine⟨b,_,rfl,cs.toArray,149,hX (b,.cells cs.toArray 149 (0,0)) (by simp),?_⟩
  have:(dcs ds).flatten.length=(dcs ds).length*3:=xmq hw
  simp only[List.size_toArray,hcs,List.length_append]
  omega
theorem xv4{w:Value}{ds:List Day}{X:Pcs}{h:Heap}(o:OwnS 149 3 w (dcs ds) X)(h0:ds.length=0->X=[])(hX:∀x∈X,h[x.1]?=some x.2):(∀x∈X,Exc h x.1)/\(X.map (·.1)).Nodup:=by
 by_cases e:ds.length=0
 ·rw[h0 e];simp
 ·obtain⟨b,o',rfl,ex⟩:=ycl o om hX
  exact⟨fun x hx=>by rw[List.mem_singleton.1 hx];exact ex,by simp⟩
theorem ybv{h h₁ he:Heap}{p p8:PHeap}{L:Pcs}{S:Nat->Prop}{q n₀ bW bD bE:Nat}{d e:List Day}{hw:Nat->Heap}(s₁:St h [] p8 h₁ L)(le:PLe p p8)(hlo:h.size<=bW/\h.size<=bD/\h.size<=bE)(hlt:bD<h₁.size/\bE<h₁.size)(hne:bD≠bE)
 (hp:p8 bW=none/\p8 bD=none/\p8 bE=none)(J:Joined ⟨218,bW,S,h₁,[bD,bE],q,n₀⟩ (bothΨ h₁.size bD bE d e) hw he):
 ∃w1 w2 X1 X2,OwnS 149 3 w1 (dcs d) X1/\OwnS 149 3 w2 (dcs e) X2/\St h [] p he (([(bD,.cells #[w1] 138 (0,0)),(bE,.cells #[w2] 138 (0,0))]:Pcs)++(X1++(X2++[]))):=by
 obtain⟨J1,J2,J3,J4⟩:=J
 obtain⟨w1,X1,o1,h01,hb1,hX1⟩:=(J3 0 om).1
 obtain⟨w2,X2,o2,h02,hb2,hX2⟩:sideΨ h₁.size bE e (hw 1):=(J3 1 om).1
 have j0:=fun b hb=>((J3 0 om).2 b hb).1
 have j1:=fun b hb=>((J3 1 om).2 b hb).1
 obtain⟨ex1,nd1⟩:=xv4 o1 h01 fun x hx=>(hX1 x hx).1
 obtain⟨ex2,nd2⟩:=xv4 o2 h02 fun x hx=>(hX2 x hx).1
 have old:∀b,b<h₁.size->b≠bW->b≠bD->b≠bE->he[b]?=h₁[b]?:=fun b h1 h2 h3 h4=>J2 b ⟨h1,h2,by simp[h3,h4]⟩
 have heD:=(j0 bD (Exc.of hb1 (by simp))).trans hb1
 have heE:=(j1 bE (Exc.of hb2 (by simp))).trans hb2
 simp only at J1
 have hsz:h.size<=h₁.size:=s₁.size
 have pnone:∀b,h₁.size<=b->p b=none:=fun b hb=>by
  cases hpb:p b with
  |none=>rfl
  |some o=>exact absurd (xix (s₁.per _ _ (le _ _ hpb))) (Nat.not_lt.2 hb)
 have pn:∀b,p8 b=none->p b=none:=fun b hb=>by
  cases hpb:p b with
  |none=>rfl
  |some o=>rw[le _ _ hpb]at hb;cases hb
 refine⟨w1,w2,_,_,o1,o2,⟨fun b hb _=>(old b om om om om).trans (s₁.keep b hb (by simp)),om,fun b o hb=>?_,fun x hx=>?_,?_⟩⟩
 ·have hb8:=le _ _ hb
  have:=s₁.per _ _ hb8
  refine(old b (xix this) ?_ ?_ ?_).trans this
  ·rintro rfl;rw[hp.1]at hb8;cases hb8
  ·rintro rfl;rw[hp.2.1]at hb8;cases hb8
  ·rintro rfl;rw[hp.2.2]at hb8;cases hb8
 ·simp only[List.append_nil,List.cons_append,List.nil_append,List.mem_cons,List.mem_append]at hx
  rcases hx with rfl|rfl|hx|hx
  ·exact⟨heD,pn _ hp.2.1,.inl hlo.2.1⟩
  ·exact⟨heE,pn _ hp.2.2,.inl hlo.2.2⟩
  ·have h1:=hX1 x hx
   exact⟨(j0 _ (ex1 x hx)).trans h1.1,pnone _ h1.2,.inl om⟩
  ·have h1:=hX2 x hx
   exact⟨(j1 _ (ex2 x hx)).trans h1.1,pnone _ h1.2,.inl om⟩
 ·have m1:∀b,b∈X1.map (·.1)->h₁.size<=b:=fun b hb=>by obtain⟨x,hx,rfl⟩:=List.mem_map.1 hb;exact(hX1 x hx).2
  have m2:∀b,b∈X2.map (·.1)->h₁.size<=b:=fun b hb=>by obtain⟨x,hx,rfl⟩:=List.mem_map.1 hb;exact(hX2 x hx).2
  simp only[List.append_nil,List.cons_append,List.nil_append,List.map_cons,List.map_append,List.nodup_cons,List.mem_cons,List.mem_append,not_or]
  refine⟨⟨hne,fun hb=>by have:=m1 _ hb;omega,fun hb=>by have:=m2 _ hb;omega⟩,⟨fun hb=>by have:=m1 _ hb;omega,fun hb=>by have:=m2 _ hb;omega⟩,List.nodup_append.2 ⟨nd1,nd2,?_⟩⟩
  intro b hb c hc e
  subst e
  obtain⟨x,hx,e1⟩:=List.mem_map.1 hb
  obtain⟨y,hy,e2⟩:=List.mem_map.1 hc
  exact J4 b (e1 ▸ ex1 x hx) (e2 ▸ ex2 y hy)
set_option maxHeartbeats 4000000 in
theorem c78(h:Heap)(p:PHeap)(hp:Per p h)(size start:Int)(a:Option Addr)(n c:Nat)(ds:List Day)(D:Days p a n ds)(hn:n<=40)(hs:0<=size/\size<=60/\0<=start)(hd:∀i,i<n->0<=(ds.getD i dz).want/\(ds.getD i dz).want<=200)(hlo:∀i,i<n->0<=loOf ds i/\loOf ds i<=20)(hhi:∀i,i<n->0<=hiOf ds i/\hiOf ds i<=20):
 CallsX prog (.main true) 78 #[.agg #[.int .i64 size,.int .i64 start,.slice a n c]] h fun v h'=>∃Y,(∃w1 w2 X1 X2,v=.tuple #[w1,w2]/\OwnS 149 3 w1 (dcs (side size (min start size) (wantOf ds) (loOf ds) n)) X1/\OwnS 149 3 w2 (dcs (side size (min start size) (wantOf ds) (hiOf ds) n)) X2/\Y=X1++X2)/\New h h' Y:=by
 refine xez hp func78 fun c₀ cs Stop K=>?_
 refine bq fun b1=>?_
 refine xtq fun b2=>?_
 refine xtq fun b3=>?_
 refine lq fun b4=>?_
 refine ax ?_
 refine xdz rfl fun v5 Y5 o5=>?_
 refine xbx o5 (m:=2) rfl (by decide) fun p8 a9 cp10 g11 ev D12=>?_
 intro D12
 subst ev
 have le11:=g11.le
 refine ax ?_
 refine yxw ?_
 refine ax ?_
 refine xiq rfl (fun _=>?_) (fun cc=>absurd om cc)
 refine ax ?_
 refine xqk rfl (D12.get 0 _ rfl) ?_
 refine xtq fun b13=>?_
 refine ax ?_
 refine ylf (L:=Tryz.link) Tryz.wgLib rfl (by kernel_rfl) fun ge gb way beh h1 H1=>?_
 have Fb1:=H1.own _ (List.mem_of_getElem? (i:=4) rfl)
 have Fb2:=H1.own _ (List.mem_of_getElem? (i:=3) rfl)
 have Fb3:=H1.own _ (List.mem_of_getElem? (i:=2) rfl)
 have Fb4:=H1.own _ (List.mem_of_getElem? (i:=1) rfl)
 have Fb13:=H1.own _ (List.mem_of_getElem? (i:=0) rfl)
 simp only at Fb1 Fb2 Fb3 Fb4 Fb13
 have nd_:=H1.nod
 simp only[List.flatten_cons,List.flatten_nil,List.append_nil,List.cons_append,List.nil_append,List.map_cons,List.map_nil,List.nodup_cons,List.mem_cons,List.not_mem_nil,or_false,not_or,not_false_eq_true,List.nodup_nil,and_true]at nd_
 have D1:=D.mono le11
 have dn4:0<n->(adr a).block≠b4:=xhc D1 om Fb4.2.1
 have dn2:0<n->(adr a).block≠b2:=xhc D1 om Fb2.2.1
 have dn3:0<n->(adr a).block≠b3:=xhc D1 om Fb3.2.1
 have ln4:(adr a9).block≠b4:=xhc D12 om Fb4.2.1 (by simp)
 have ln2:(adr a9).block≠b2:=xhc D12 om Fb2.2.1 (by simp)
 have ln3:(adr a9).block≠b3:=xhc D12 om Fb3.2.1 (by simp)
 have lt2:=xix Fb2.1
 have lt3:=xix Fb3.1
 refine xe2 (Ψ:=bothΨ h1.size b2 b3 (side size (min start size) (wantOf ds) (loOf ds) n) (side size (min start size) (wantOf ds) (hiOf ds) n))
  (Kon:=fun gb=>gb.status=.running/\ ∀he w1 w2 X1 X2,OwnS 149 3 w1 (dcs (side size (min start size) (wantOf ds) (loOf ds) n)) X1->OwnS 149 3 w2 (dcs (side size (min start size) (wantOf ds) (hiOf ds) n)) X2->St h [] p he ([[(b2,.cells #[w1] 138 (0,0))],[(b3,.cells #[w2] 138 (0,0))],X1,X2]:List Pcs).flatten->Go.X.Reach prog (.main true) gb he Stop)
  218 b4 [b2,b3] Fb4.1 ?_ xt8 (fun _ e_=>e_.1) (fun S_ q_ n₀_=>?_) (fun S_ q_ n₀_ gb_ hgb_ hw_ he_ HJ_=>?_)
 ·intro b_ hb_;simp only[List.mem_cons,List.not_mem_nil,or_false]at hb_;rcases hb_ with hb_|hb_<;>rw[hb_]
  ·exact Exc.of Fb2.1 (by show 0<1;decide)
  ·exact Exc.of Fb3.1 (by show 0<1;decide)
 ·refine⟨gb,way,fun h2 k2=>?_⟩
  have Db:Days (Hp (cutV [b4] [b2,b3] h1)) a n ds:=xun D1 H1.per fun h_=>xtz (dn4 h_)
  have Lb:=xun (A:=[b4]) (K:=[b2,b3]) D12 H1.per fun _=>xtz ln4
  have Yb:HC (cutV [b4] [b2,b3] h1) b1 _ _:=HC.cut ⟨_,Fb1.1⟩ (xtz om)
  have Ob:HC (cutV [b4] [b2,b3] h1) b13 _ _:=HC.cut ⟨_,Fb13.1⟩ (xtz om)
  have Wb:(cutV [b4] [b2,b3] h1)[b2]?=_:=xmf Fb2.1 (xtz om) (by simp)
  have Eb:(cutV [b4] [b2,b3] h1)[b3]?=_:=xmf Fb3.1 (xtz om) (by simp)
  have zb:(cutV [b4] [b2,b3] h1).size=h1.size:=xac
  generalize cutV [b4] [b2,b3] h1=hb at*
  refine beh _ _ hb [] (Hp hb) [] h2 ?_ ((St.start hb _ (fun _ _ e_=>e_)).call k2)
  dsimp only
  refine ax ?_
  refine yhp rfl rfl fun ga gn hrun_ hsp_ beh h3 H3=>xhk ⟨hrun_,gn,_,[b2],[b3],hsp_,?_,?_,fun h4 k4=>⟨?_,?_⟩⟩
  ·intro b_ hb_;rw[List.mem_singleton.1 hb_];exact(Exc.of Wb (by show 0<1;decide)).stay H3.kept
  ·intro b_ hb_;rw[List.mem_singleton.1 hb_];exact(Exc.of Eb (by show 0<1;decide)).stay H3.kept
  ·have kk:Keep hb h4:=H3.kept.trans k4
   refine xtp (xun (Sl.mono (xen kk) Db) (xx6 h4) fun h_=>xtz (dn3 h_)) hn 136 (loOf ds) (xmf ((kk.keep _ (xix Wb)).trans Wb) (xtz om) (by simp)) ((Yb.keep kk).cut (xtz om)) ((Ob.keep kk).cut (xtz om)) ⟨om,om⟩ dn2 hs hd hlo (fun p_ z_ D_ hY_ h_ i_ hp_ hi_=>xgq (first:=[]) (cap:=[.pointer (some ⟨b1,0,none⟩)]) (by kernel_rfl) (c136 (.own false) h_ p_ hp_ size start a n c ds D_ b1 _ z_ hY_ i_ hi_)) fun h_ x_=>?_
   obtain⟨w_,X_,o_,h0_,hb_,hX_⟩:=x_
   exact⟨w_,X_,o_,h0_,hb_,fun x_ hx_=>⟨(hX_ x_ hx_).1,by have:=(hX_ x_ hx_).2;rw[xac]at this;have:=kk.size;omega⟩⟩
  have kk:Keep hb h4:=H3.kept.trans k4
  have Dc:Days (Hp (cutV [b2] [b3] h4)) a n ds:=xun (Sl.mono (xen kk) Db) (xx6 h4) fun h_=>xtz (dn2 h_)
  have Lc:=xun (A:=[b2]) (K:=[b3]) (Sl.mono (xen kk) Lb) (xx6 h4) fun _=>xtz ln2
  have Yc:HC (cutV [b2] [b3] h4) b1 _ _:=(Yb.keep kk).cut (xtz om)
  have Ec:(cutV [b2] [b3] h4)[b3]?=_:=xmf ((kk.keep _ (xix Eb)).trans Eb) (xtz om) (by simp)
  have zc:h1.size<=(cutV [b2] [b3] h4).size:=by rw[xac];have:=kk.size;omega
  refine beh _ _ (cutV [b2] [b3] h4) [] (Hp (cutV [b2] [b3] h4)) [] _ ?_ (St.start _ _ (fun _ _ e_=>e_))
  generalize cutV [b2] [b3] h4=hc at*
  dsimp only
  refine ax ?_
  refine xbp ?_
  refine ax ?_
  refine xiq rfl (fun _=>?_) (fun cc=>absurd om cc)
  refine ax ?_
  refine xqk rfl (Lc.get 1 _ rfl) ?_
  refine xtq fun b14=>?_
  refine ax ?_
  refine ylf (L:=Tryz.link) Tryz.wgLib rfl (by kernel_rfl) fun ge gb way beh h5 H5=>xhk ⟨gb,way,fun h6 k6=>?_⟩
  refine beh _ _ hc [] (Hp hc) _ h6 ?_ (H5.call k6)
  dsimp only
  refine ax ?_
  refine yhp rfl rfl fun ga gn hrun_ hsp_ beh h7 H7=>xhk ⟨hrun_,gn,_,[b3],[],hsp_,?_,(fun _ hb_=>by cases hb_),fun h8 k8=>⟨?_,?_⟩⟩
  ·intro b_ hb_;rw[List.mem_singleton.1 hb_];exact(Exc.of Ec (by show 0<1;decide)).stay H7.kept
  ·have kk:Keep hc h8:=H7.kept.trans k8
   have O_:=(H7.own _ (List.mem_of_getElem? (i:=0) rfl))
   simp only at O_
   have Oc:HC h8 b14 _ _:=HC.keep ⟨_,O_.1⟩ k8
   have lt14:=xix Ec
   have hne14:b14≠b3:=by have:=O_.2.2.resolve_right (by simp);omega
   refine xtp (xun (Sl.mono (xen kk) Dc) (xx6 h8) fun _=>by simp) hn 137 (hiOf ds) (xmf ((kk.keep _ (xix Ec)).trans Ec) (by simp) (by simp)) ((Yc.keep kk).cut (by simp)) (Oc.cut (by simp)) ⟨om,hne14⟩ dn3 hs hd hhi (fun p_ z_ D_ hY_ h_ i_ hp_ hi_=>xgq (first:=[]) (cap:=[.pointer (some ⟨b1,0,none⟩)]) (by kernel_rfl) (c137 (.own false) h_ p_ hp_ size start a n c ds D_ b1 _ z_ hY_ i_ hi_)) fun h_ x_=>?_
   obtain⟨w_,X_,o_,h0_,hb_,hX_⟩:=x_
   exact⟨w_,X_,o_,h0_,hb_,fun x_ hx_=>⟨(hX_ x_ hx_).1,by have:=(hX_ x_ hx_).2;rw[xac]at this;have:=kk.size;omega⟩⟩
  refine beh _ _ (cutV [b3] [] h8) [] (Hp (cutV [b3] [] h8)) [] _ ?_ (St.start _ _ (fun _ _ e_=>e_))
  dsimp only
  refine ax ?_
  refine xbp ?_
  refine ax ?_
  refine xiq rfl (fun cc=>absurd cc om) (fun _=>?_)
  refine ax ?_
  refine ych (L:=Tryz.link) Tryz.wgLib rfl (by kernel_rfl) fun ge gb An a1_ a2_ a3_ hrun cont h9 H9=>xhk ⟨gb,An,⟨a1_,a2_,hrun,fun he w1 w2 X1 X2 o1 o2 HS=>?_⟩,a3_⟩
  refine cont (.main true) Stop h [] p _ he ?_ HS
  dsimp only
  obtain⟨a1,c1,rfl,_⟩:=o1.val
  obtain⟨a2,c2,rfl,_⟩:=o2.val
  refine ax ?_
  refine xnz func78 rfl (xb0 rfl (xb0 rfl .nil)) ?_
  exact fun h_ H_=>K _ _ ⟨X1++X2,⟨_,_,X1,X2,rfl,o1,o2,rfl⟩,newR (LL:=[X1++X2]) (H_.sub (by simp))⟩
 ·obtain⟨w1,w2,X1,X2,o1,o2,HS⟩:=ybv H1 le11 ⟨Fb4.2.2.resolve_right (by simp),Fb2.2.2.resolve_right (by simp),Fb3.2.2.resolve_right (by simp)⟩ ⟨lt2,lt3⟩ om ⟨Fb4.2.1,Fb2.2.1,Fb3.2.1⟩ HJ_
  exact hgb_.2 _ w1 w2 X1 X2 o1 o2 (by simpa using HS)
end Go.Proofs.YtjcakmlipohaeaaGreatDoor
namespace Go.X.Cist
def dryX(size start:Int)(ds:List Day):Int:=Flow.idxA (fun d=>decide (0<d.hi)) (side size (min start size) (wantOf ds) (loOf ds) ds.length)
def dryY(size start:Int)(ds:List Day):Int×Int:=if Ok size start ds then(if dryX size start ds<0 then 0 else dryX size start ds,if dryX size start ds<0 then 3 else 0)else(0,100)
def levY(size start:Int)(ds:List Day)(day:Int):(Int×Int)×Int:=
 if askd size start ds (decide (IsDay ds day))=0 then((lev size (min start size) (wantOf ds) (loOf ds) (day.toNat+1),lev size (min start size) (wantOf ds) (hiOf ds) (day.toNat+1)),0)else((0,0),askd size start ds (decide (IsDay ds day)))
theorem Ok.both{size start:Int}{ds:List Day}(O:Ok size start ds){n:Nat}(hn:ds.length=n):(0<=size/\size<=60/\0<=start)/\(∀i,i<n->0<=(ds.getD i dz).want/\(ds.getD i dz).want<=200)/\(∀i,i<n->0<=loOf ds i/\loOf ds i<=20)/\ ∀i,i<n->0<=hiOf ds i/\hiOf ds i<=20:=by
 have d:=O.dok
 refine⟨⟨O.1,O.2.1,O.2.2.1⟩,fun i hi=>(d i om).2,fun i hi=>?_,fun i hi=>?_⟩
 ·have z:=(d i om).1
  unfold loOf;omega
 ·have z:=(d i om).1
  unfold hiOf;omega
end Go.X.Cist
namespace Go.Proofs.YtjcakmlipohaeaaGreatDoor
open Go.Proofs.Tryz
open Go.X Go.X.Cist Go.Conc
theorem c31(h:Heap)(p:PHeap)(hp:Per p h)(size start:Int)(a:Option Addr)(n c:Nat)(ds:List Day)(D:Days p a n ds)(hn:n<=40):
 CallsX prog (.main true) 31 #[.agg #[.int .i64 size,.int .i64 start,.slice a n c]] h fun v h'=>v=.tuple #[.int .i64 (dryY size start ds).1,.int .i64 (dryY size start ds).2]/\Keep h h':=by
 have hl:=D.len
 refine xfq hp func31 fun _ _ _ K=>?_
 refine xjq rfl fun b1=>?_
 refine ax ?_
 refine xlq rfl rfl (fun _ pe=>c56 _ _ _ pe size start a n c ds D om) ?_
 refine cq (fun cc=>?_) (fun cc=>?_)
 ·have hno:¬ Ok size start ds:=fun e=>cc (chk_yes e)
  refine ax ?_
  exact K.r rfl rfl fun h_ H_=>⟨by rw[dryY,if_neg hno,chk_no hno];rfl,H_.kept⟩
 have O:Ok size start ds:=chk_zero.1 (Classical.not_not.1 cc)
 obtain⟨h1,h2,h3,h4⟩:=O.both hl
 refine ax ?_
 refine xck rfl rfl (fun _ pe=>c78 _ _ pe size start a n c ds D hn h1 h2 h3 h4) ?_
 rintro _ _ ⟨w1,w2,X1,X2,rfl,o1,o2,rfl⟩
 refine xaf X1 X2 ?_
 refine xbx o1 (m:=n) (by rw[dcs_length,side_length]) (by decide) fun p' a1 cap1 g ev hcap S=>?_
 subst ev
 refine ax ?_
 refine xlq rfl rfl (fun _ pe=>c80 _ _ _ pe (.func (.func 81) #[] #[]) a1 n cap1 _ S om (fun d=>decide (0<d.hi)) (fun h_ pe i hi=>xgq (first:=[]) (cap:=[]) (by kernel_rfl) (c81 _ _ _ pe _ _ _))) ?_
 refine ax ?_
 refine xlq rfl rfl (fun _ pe=>c79 _ _ _ pe _) ?_
 refine ax ?_
 exact K.r rfl rfl fun h_ H_=>⟨by rw[dryY,if_pos O,dryX,hl];rfl,H_.kept⟩
theorem c34(h:Heap)(p:PHeap)(hp:Per p h)(size start:Int)(a:Option Addr)(n c:Nat)(ds:List Day)(D:Days p a n ds)(hn:n<=40)(day:Int):
 CallsX prog (.main true) 34 #[.agg #[.int .i64 size,.int .i64 start,.slice a n c],.int .i64 day] h fun v h'=>v=.tuple #[.agg #[.int .i64 (levY size start ds day).1.1,.int .i64 (levY size start ds day).1.2],.int .i64 (levY size start ds day).2]/\Keep h h':=by
 have hl:=D.len
 refine xez hp func34 fun _ _ _ K=>?_
 refine bq fun b2=>?_
 refine lq fun b4=>?_
 refine ax ?_
 refine xjx [] R5 ?_
 refine ex ?_
 refine xak rfl rfl rfl rfl trivial (fun _ pe=>c85 _ _ _ pe size start a n c om day) ?_
 refine ex ?_
 have eD:decide (0<=day/\day<=(n:Int)-1)=decide (IsDay ds day):=decide_eq_decide.2 (by unfold IsDay;omega)
 rw[eD]
 refine xak rfl rfl rfl rfl trivial (fun _ pe=>c84 _ _ _ pe size start a n c ds D om (decide (IsDay ds day))) ?_
 refine ex ?_
 refine cq (fun cc=>?_) (fun cc=>?_)
 ·refine ax ?_
  refine xnz func34 rfl (xqx rfl (.tmp rfl .nil)) ?_
  exact fun _ H_=>K _ _ ⟨by rw[levY,if_neg cc];rfl,H_.kept⟩
 have c0:=Classical.not_not.1 cc
 have O:Ok size start ds:=Classical.byContradiction fun z=>by rw[askd,if_neg z]at c0;omega
 have hday:IsDay ds day:=Classical.byContradiction fun z=>by rw[askd,if_pos O,decide_eq_false z]at c0;simp at c0
 obtain⟨h1,h2,h3,h4⟩:=O.both hl
 have hd0:0<=day/\day<n:=by unfold IsDay at hday;omega
 refine ax ?_
 refine xck rfl rfl (fun _ pe=>c78 _ _ pe size start a n c ds D hn h1 h2 h3 h4) ?_
 rintro _ _ ⟨w1,w2,X1,X2,rfl,o1,o2,rfl⟩
 refine xaf X1 X2 ?_
 refine xbx o1 (m:=n) (by rw[dcs_length,side_length]) (by decide) fun p1 a1 cap1 g1 ev hcap1 S1=>?_
 subst ev
 refine xbx o2 (m:=n) (by rw[dcs_length,side_length]) (by decide) fun p2 a2 cap2 g2 ev hcap2 S2=>?_
 subst ev
 have S1:=Sl.mono g2.le S1
 have e1:=S1.get day.toNat _ (yvk (by rw[side_length];omega)) 0 _ rfl
 have e2:=S2.get day.toNat _ (yvk (by rw[side_length];omega)) 0 _ rfl
 rw[xt9 om]at e1 e2
 refine ax ?_
 refine xjx [] R10 ?_
 refine ex ?_
 refine xrp rfl rfl rfl om om (Sl.ne S1 om) ?_
 refine ex ?_
 refine xag rfl rfl (by rw[xxs];rw[xxs]at e1;exact e1) ?_
 refine ex ?_
 refine xrp rfl rfl rfl om om (Sl.ne S2 om) ?_
 refine ex ?_
 refine xag rfl rfl (by rw[xxs];rw[xxs]at e2;exact e2) ?_
 refine ex ?_
 refine ax ?_
 refine xnz func34 rfl (xqx rfl (.tmp rfl .nil)) ?_
 exact fun _ H_=>K _ _ ⟨by rw[levY,if_pos c0];rfl,H_.kept⟩
end Go.Proofs.YtjcakmlipohaeaaGreatDoor
