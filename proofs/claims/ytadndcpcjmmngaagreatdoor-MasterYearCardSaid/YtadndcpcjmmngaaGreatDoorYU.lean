/-
  Part of proofs about a town's master: a calculus for Bj beside goroutines that are only leaving, and the Bj. No condition.
-/
import Derived.Test.YtadndcpcjmmngaaGreatDoorYK
import Derived.Test.YtadndcpcjmmngaaGreatDoorYT
set_option maxHeartbeats 4000000
set_option maxRecDepth 20000
set_option synthInstance.maxSize 2000
namespace Go.X.Cist
open Go.Conc
variable{i n:Nat}{rain:Nat->Int}{P:Nat->Prop}{v:Value}
structure Day where
 lo:Int
 hi:Int
 want:Int
 deriving DecidableEq,Inhabited
variable{ds:List Day}
def Day.cells(d:Day):List Value:=[.J d.lo,.J d.hi,.J d.want]
def dz:Day:=⟨0,0,0⟩
def dcs(ds:List Day):List (List Value):=ds.map Day.cells
def Bl(p:Aa)(a:Option Addr)(n:Nat)(ds:List Day):Prop:=Sl p a n 3 (dcs ds)
section
variable{p p':Aa}{a:Option Addr}{k:Nat}
theorem Bl.len(s:Bl p a n ds):ds.length=n:=by have:=Sl.len s;simpa[dcs]using this
theorem Bl.mono(H:PLe p p')(s:Bl p a n ds):Bl p' a n ds:=Sl.mono H s
theorem Bl.ne(s:Bl p a n ds)(H:0<n):a=some (adr a):=Sl.ne s H
theorem Bl.at(s:Bl p a n ds)(H:k<n){j:Nat}{v:Value}(hv:(ds.getD k dz).cells[j]?=some v):Au p (((adr a).add (k*3)).add j)=some v:=by
 have M:=s.len;refine Sl.get s k (ds.getD k dz).cells ?_ j v hv;rw[dcs,List.getElem?_map,List.getD_eq_getElem?_getD,List.getElem?_eq_getElem om];rfl
theorem Bl.lo(s:Bl p a n ds)(H:k<n):Au p ((adr a).add (k*3))=some (.J (ds.getD k dz).lo):=s.at H (j:=0) rfl
theorem Bl.hi(s:Bl p a n ds)(H:k<n):Au p (((adr a).add (k*3)).add 1)=some (.J (ds.getD k dz).hi):=s.at H (j:=1) rfl
theorem Bl.want(s:Bl p a n ds)(H:k<n):Au p (((adr a).add (k*3)).add 2)=some (.J (ds.getD k dz).want):=s.at H (j:=2) rfl
theorem Bl.all(s:Bl p a n ds)(H:k<n):∀j v,[Value.J (ds.getD k dz).lo,.J (ds.getD k dz).hi,.J (ds.getD k dz).want][j]?=some v->Au p (((adr a).add (k*3)).add j)=some v:=fun _ _ hv=>s.at H hv
theorem Ct(ds:List Day):∀u∈(dcs ds).flatten,Be u=true:=by
 intro u H;rw[List.mem_flatten]at H;obtain⟨l,M,H⟩:=H;obtain⟨x,_,rfl⟩:=List.mem_map.1 M;simp[Day.cells]at H;rcases H with rfl|rfl|rfl<;>rfl
theorem Aj(ds:List Day):(dcs ds).length=ds.length:=by simp[dcs]
end
def Di(d:Day):Prop:=0<=d.lo/\d.lo<=20/\d.lo<=d.hi/\d.hi<=20/\0<=d.want/\d.want<=20
instance(d:Day):Decidable (Di d):=by unfold Di;infer_instance
def Ok(size start:Int)(ds:List Day):Prop:=0<=size/\size<=60/\0<=start/\start<=size/\ds.length<=8/\ ∀i,i<ds.length->Di (ds.getD i dz)
instance(a b:Int)(ds:List Day):Decidable (Ok a b ds):=by unfold Ok;infer_instance
def Dx(ds:List Day)(n:Int):Prop:=0<=n/\n<ds.length
instance(ds:List Day)(n:Int):Decidable (Dx ds n):=by unfold Dx;infer_instance
def lev(size start:Int)(want rain:Nat->Int):Nat->Int
 |0=>start
 |i+1=>lev size start want rain i+rain i-max 0 (lev size start want rain i+rain i-size)-(want i-max 0 (want i-(lev size start want rain i+rain i-max 0 (lev size start want rain i+rain i-size))))
def ovr(size start:Int)(want rain:Nat->Int)(i:Nat):Int:=max 0 (lev size start want rain i+rain i-size)
def Al(size start:Int)(want rain:Nat->Int)(i:Nat):Int:=max 0 (want i-(lev size start want rain i+rain i-ovr size start want rain i))
def sumTo(f:Nat->Int):Nat->Int
 |0=>0
 |k+1=>sumTo f k+f k
def chk(size start:Int)(ds:List Day):Int:=if Ok size start ds then 0 else 100
def Kj(size start:Int)(ds:List Day)(b:Bool):Int:=if Ok size start ds then(if b=true then 0 else 1)else 100
theorem Ei{size start:Int}(h:Ok size start ds):chk size start ds=0:=if_pos h
theorem Hu{size start:Int}(h:¬ Ok size start ds):chk size start ds=100:=if_neg h
theorem A7{size start:Int}:chk size start ds=0<->Ok size start ds:=by
 unfold chk;split<;>simp_all
theorem Lx{k:Nat}(h:∀i,i<k->Di (ds.getD i dz))(e:Di (ds.getD k dz)):∀i,i<k+1->Di (ds.getD i dz):=fun i hi=>by
 by_cases c:i=k
 ·subst c;exact e
 ·exact h i om
def Ag(ds:List Day)(i:Nat):Int:=(ds.getD i dz).want
theorem ycc{size start:Int}{want:Nat->Int}{k:Nat}(h:0<=lev size start want rain k/\lev size start want rain k<=size)(hw:0<=want k):
 0<=lev size start want rain (k+1)/\lev size start want rain (k+1)<=size:=by simp only[lev];omega
theorem Cv{size start:Int}{want rain:Nat->Int}{n:Nat}(hs:0<=start/\start<=size)(h:∀i,i<n->0<=want i):∀k,k<=n->0<=lev size start want rain k/\lev size start want rain k<=size
 |0,_=>hs
 |k+1,hk=>ycc (Cv hs h k om) (h k om)
def C7(ds:List Day)(i:Nat):Int:=(ds.getD i dz).lo
def Lg(ds:List Day)(i:Nat):Int:=(ds.getD i dz).hi
def Bg(size start:Int)(ds:List Day):Prop:=∀i,i<ds.length-> ¬ 0<Al size (min start size) (Ag ds) (C7 ds) i
instance(size start:Int)(ds:List Day):Decidable (Bg size start ds):=by unfold Bg;infer_instance
theorem yxz{k:Nat}(h:∀i,i<k-> ¬ P i)(e:¬ P k):∀i,i<k+1-> ¬ P i:=fun i hi=>by
 by_cases c:i=k
 ·subst c;exact e
 ·exact h i om
def Dok(ds:List Day):Prop:=∀i,i<ds.length->(0<=(ds.getD i dz).lo/\(ds.getD i dz).lo<=(ds.getD i dz).hi/\(ds.getD i dz).hi<=20)/\0<=(ds.getD i dz).want/\(ds.getD i dz).want<=200
theorem Ok.dok{size start:Int}{ds:List Day}(h:Ok size start ds):Dok ds:=fun i hi=>by have:=h.2.2.2.2.2 i hi;unfold Di at this;omega
def B6(ds:List Day)(i:Nat)(w:Int):List Day:=ds.set i {ds.getD i dz with want:=w}
theorem Lq{w:Int}:(dcs ds).set i ((ds.getD i dz).cells.set 2 (.J w))=dcs (B6 ds i w):=by
 simp only[dcs,B6,List.map_set];rfl
theorem K1(h:i<ds.length):(dcs ds)[i]?=some (ds.getD i dz).cells:=by
 rw[dcs,List.getElem?_map,List.getD_eq_getElem?_getD,List.getElem?_eq_getElem h];rfl
def Hl(wf:Nat->Int->Int)(ds:List Day)(k:Nat):List Day:=(List.range ds.length).map fun i=>if i<k then {ds.getD i dz with want:=wf i (ds.getD i dz).want}else ds.getD i dz
def Fq(wf:Nat->Int->Int)(ds:List Day):List Day:=Hl wf ds ds.length
theorem Bt(wf:Nat->Int->Int)(ds:List Day)(k:Nat):(Hl wf ds k).length=ds.length:=by simp[Hl]
theorem xwz{wf:Nat->Int->Int}{k:Nat}(h:i<ds.length):(Hl wf ds k).getD i dz=if i<k then {ds.getD i dz with want:=wf i (ds.getD i dz).want}else ds.getD i dz:=by
 simp[Hl,List.getD_eq_getElem?_getD,h]
theorem Ho(wf:Nat->Int->Int)(ds:List Day):Hl wf ds 0=ds:=by
 refine xdc (d:=dz) (Bt _ _ _) fun i hi=>?_;rw[Bt]at hi;rw[xwz hi,if_neg om]
theorem xy9{wf:Nat->Int->Int}{k:Nat}(h:k<ds.length):B6 (Hl wf ds k) k (wf k (ds.getD k dz).want)=Hl wf ds (k+1):=by
 refine xdc (d:=dz) (by simp[B6,Bt]) fun i hi=>?_;have H:i<ds.length:=by simpa[B6,Bt]using hi
 rw[xwz H];unfold B6;rw[List.getD_eq_getElem?_getD,List.getElem?_set];by_cases e:k=i
 ·subst e;rw[if_pos rfl,if_pos (by rw[Bt];exact h),if_pos om,xwz h,if_neg om];rfl
 ·rw[if_neg e,<- List.getD_eq_getElem?_getD,xwz H];by_cases c:i<k
  ·rw[if_pos c,if_pos om]
  ·rw[if_neg c,if_neg om]
theorem A5(wf:Nat->Int->Int)(ds:List Day):(Fq wf ds).length=ds.length:=Bt _ _ _
theorem xjb{wf:Nat->Int->Int}(h:i<ds.length):(Fq wf ds).getD i dz={ds.getD i dz with want:=wf i (ds.getD i dz).want}:=by
 unfold Fq;rw[xwz h,if_pos h]
theorem Ft{wf:Nat->Int->Int}{k:Nat}(h:k<ds.length):(dcs (Hl wf ds k))[k]?=some [.J (ds.getD k dz).lo,.J (ds.getD k dz).hi,.J (ds.getD k dz).want]:=by
 rw[K1 (by rw[Bt];exact h),xwz h,if_neg om];rfl
theorem Hf{wf:Nat->Int->Int}{k:Nat}(h:k<ds.length):
 (dcs (Hl wf ds k)).set k ([Value.J (ds.getD k dz).lo,.J (ds.getD k dz).hi,.J (ds.getD k dz).want].set 2 (.J (wf k (ds.getD k dz).want)))=dcs (Hl wf ds (k+1)):=by
 rw[<- xy9 h,<- Lq,xwz h,if_neg om];rfl
theorem xx6{wf:Nat->Int->Int}(h:Dok ds)(hw:∀i,i<ds.length->0<=wf i (ds.getD i dz).want/\wf i (ds.getD i dz).want<=200):Dok (Fq wf ds):=fun i hi=>by
 rw[A5]at hi;rw[xjb hi];exact⟨(h i hi).1,hw i hi⟩
def At(n:Int)(ds:List Day):List Day:=Fq (fun _ w=>min w n) ds
def Bi(size start:Int)(ds:List Day):Nat->Int
 |0=>0
 |k+1=>if Bg size start (At ((k+1:Nat):Int) ds)then((k+1:Nat):Int)else Bi size start ds k
theorem xl8{size start:Int}{want:Nat->Int}(hs:0<=start/\start<=size)(h:∀i,i<n->0<=want i)(k:Nat)(H:k<=n):0<=lev size start want rain k:=(Cv hs h k H).1
theorem xn8{size start:Int}(hs:0<=size/\0<=start)(M:Dok ds):Bg size start (At 0 ds):=by
 intro i hi;unfold At at hi;rw[A5]at hi;have hw:∀j,j<ds.length->Ag (At 0 ds) j=0:=fun j H=>by
  unfold Ag At;rw[xjb H];have:=(M j H).2;show min (ds.getD j dz).want 0=0;omega
 have V:=xl8 (size:=size) (start:=min start size) (want:=Ag (At 0 ds)) (rain:=C7 (At 0 ds)) (n:=ds.length) ⟨om,om⟩ (fun j H=>by rw[hw j H];exact Int.le_refl _) i om;have O:0<=C7 (At 0 ds) i:=by unfold C7 At;rw[xjb hi];exact(M i hi).1.1
 unfold Al ovr;rw[hw i hi];omega
theorem yas{size start:Int}{k:Nat}(h:Bg size start (At (k:Nat) ds)):Bi size start ds k=k:=by
 cases k with
 |zero=>rfl
 |succ k=>unfold Bi;rw[if_pos h]
theorem ykb{size start:Int}{k:Nat}(hs:0<=size/\0<=start)(H:Dok ds)(h:¬ Bg size start (At (k:Nat) ds)):0<k/\Bi size start ds k=Bi size start ds (k-1):=by
 cases k with
 |zero=>exact absurd (xn8 hs H) h
 |succ k=>exact⟨om,by rw[Nat.add_sub_cancel];show(if _ then _ else _)=_;rw[if_neg h]⟩
def Gx(q:Nat->Bool):Nat->Nat->Option Nat
 |_,0=>none
 |k,f+1=>if q k=true then some k else Gx q (k+1) f
theorem xx3{q:Nat->Bool}{k:Nat}(H:k<n)(h:q k=true):Gx q k (n-k)=some k:=by
 rw[show n-k=(n-k-1)+1 from by omega];unfold Gx;rw[if_pos h]
theorem xht{q:Nat->Bool}{k:Nat}(H:k<n)(h:q k=false):Gx q k (n-k)=Gx q (k+1) (n-(k+1)):=by
 rw[show n-k=(n-(k+1))+1 from by omega];conv=>lhs;unfold Gx
 rw[if_neg (by rw[h];simp)]
theorem yzv{q:Nat->Bool}{k:Nat}(H:n<=k):Gx q k (n-k)=none:=by
 rw[show n-k=0 from by omega];rfl
def found:Option Nat->Int×Int
 |some k=>((k:Nat),0)
 |none=>(0,3)
def Av(size start:Int)(ds:List Day):Int×Int:=if Ok size start ds then found (Gx (fun k=>decide (Bg (k:Nat) start ds)) 0 61)else(0,100)
def Dq(M H:Int)(i:Nat)(w:Int):Int:=if((i:Nat):Int)=M then w+H else w
def wanted(M H:Int)(ds:List Day):List Day:=Fq (Dq M H) ds
def Pb(size start:Int)(ds:List Day)(H:Int):Option Nat:=Gx (fun k=>decide (¬ Bg size start (wanted H ((k:Nat)+1) ds))) 0 100
theorem xrn{size start H:Int}{M:Int}(hs:0<=size/\size<=60/\0<=start)(hd:Dok ds)(O:Dx ds H)(hm:60<M):¬ Bg size start (wanted H M ds):=by
 intro hl;obtain⟨h0,h1⟩:=O;have hi:H.toNat<ds.length:=om;have hlen:(wanted H M ds).length=ds.length:=A5 _ _;have:=hl H.toNat (by rw[hlen];exact hi);have hw:Ag (wanted H M ds) H.toNat=(ds.getD H.toNat dz).want+M:=by
  unfold Ag wanted;rw[xjb hi];show Dq H M H.toNat _=_;unfold Dq;rw[if_pos om]
 have V:∀i,i<ds.length->0<=Ag (wanted H M ds) i:=fun i hi=>by
  unfold Ag wanted;rw[xjb hi];show 0<=Dq H M i _;have:=(hd i hi).2.1;unfold Dq;split<;>omega
 have hb:=Cv (size:=size) (start:=min start size) (want:=Ag (wanted H M ds)) (rain:=C7 (wanted H M ds)) (n:=ds.length) ⟨om,om⟩ V H.toNat om;have h2:=(hd H.toNat hi).2.1;unfold Al ovr at this;rw[hw]at this;omega
def Cn(size start:Int)(ds:List Day)(H:Int):Int×Int:=
 if Kj size start ds (decide (Dx ds H))=0 then(if Bg size start ds then found (Pb size start ds H)else(0,3))else(0,Kj size start ds (decide (Dx ds H)))
def cnt(ds:List Day):Nat->Int
 |0=>1
 |k+1=>cnt ds k*(Lg ds k-C7 ds k+1)
def E6(d:Day):Bool:=!decide (Di d)
theorem xws{a:Addr}:a.add 0=a:=by unfold Addr.add;cases a.spot<;>simp
open Go.X
def C0(size start:Int)(want rain:Nat->Int)(i:Nat):Day:=⟨lev size start want rain (i+1),Al size start want rain i,sumTo (ovr size start want rain) (i+1)⟩
def side(size start:Int)(want rain:Nat->Int)(k:Nat):List Day:=(List.range k).map (C0 size start want rain)
theorem B5{size start:Int}{want:Nat->Int}{k:Nat}:(side size start want rain k).length=k:=by simp[side]
theorem yxq{size start:Int}{want:Nat->Int}{k:Nat}(h:i<k):(side size start want rain k).getD i dz=C0 size start want rain i:=by
 simp[side,List.getD_eq_getElem?_getD,h]
theorem xts(size start:Int)(want rain:Nat->Int)(k:Nat):dcs (side size start want rain (k+1))=
 dcs (side size start want rain k)++[[.J (lev size start want rain (k+1)),.J (Al size start want rain k),.J (sumTo (ovr size start want rain) k+ovr size start want rain k)]]:=by
 simp[side,dcs,List.range_succ,C0,Day.cells,sumTo]
theorem xk0{size start:Int}{want:Nat->Int}(hs:0<=start/\start<=size)(hw:∀i,i<n->0<=want i)(H:∀i,i<n->0<=rain i/\rain i<=20)(hi:i<n):0<=ovr size start want rain i/\ovr size start want rain i<=20:=by
 have:=Cv (rain:=rain) hs hw i om;have:=H i hi;unfold ovr;omega
theorem xlt{size start:Int}{want rain:Nat->Int}{n:Nat}(hs:0<=start/\start<=size)(hw:∀i,i<n->0<=want i)(H:∀i,i<n->0<=rain i/\rain i<=20):∀k,k<=n->0<=sumTo (ovr size start want rain) k/\sumTo (ovr size start want rain) k<=20*k
 |0,_=>by simp[sumTo]
 |k+1,hk=>by
   have:=xlt hs hw H k om;have:=xk0 (i:=k) hs hw H om;simp only[sumTo];omega
end Go.X.Cist
namespace Go.Proofs.YtadndcpcjmmngaaGreatDoor
open Go.Proofs.Tryz
open Go.X Go.X.Cist Go.Conc
open Go.X.Flow (Cp Df Da Dl Dr)
variable{zq:Frame}{Stop:Goroutine->Heap->Prop}{h z9:Heap}{Φ:Heap->Prop}{l:Int}{d ds xs:List Day}{cs:List Frame}{Z zz:List Nat}{md:Md}{bD n:Nat}{hw:Nat->Heap}{S:Nat->Prop}{q1 q2:Nat×Nat}{p:Aa}{zx:Pcs}{T T1 T2:TypeId}{fv rv w:Value}
theorem xm9{n lo hi:Int}:Dc prog md p 102 #[.J n,.J lo,.J hi] (.bool (decide (lo<=n/\n<=hi))):=by
 refine xlq func102 fun K=>?_;refine K.q ?_;exact congrArg _ (bpe Iff.rfl)
theorem yk8(d:Day):Dc prog md p 101 #[.agg #[.J d.lo,.J d.hi,.J d.want]] (.bool (E6 d)):=by
 intro h M;refine xez M func101 fun _ _ _ K=>?_;refine bq fun b1=>?_;refine cdq xm9 ?_;refine cgq (fun _=>xm9) ?_;refine cgq (fun _=>xm9) ?_;refine ax ?_;refine xrq func101 rfl rfl fun _ H=>K _ _ ⟨?_,H.kept⟩;refine congrArg Value.bool ?_;unfold E6;rw[Bool.eq_iff_iff];simp only[Bool.or_eq_true,Bool.not_eq_true',decide_eq_false_iff_not];unfold Di;omega
theorem yb6(hp:Per p h)(fv:Value){a:Option Addr}{c:Nat}(xs:List Day)(S:Bl p a n xs)(hn:n<=2^40)(q:Day->Bool)
 (hf:∀h,Per p h-> ∀i,i<n->Ay prog md fv [.agg #[.J (xs.getD i dz).lo,.J (xs.getD i dz).hi,.J (xs.getD i dz).want]] h fun v O=>v=.bool (q (xs.getD i dz))/\As h O):
 Ac prog md 186 #[.slice a n c,fv] h fun v O=>v=.J (Cp q xs)/\As h O:=by
 have hl:=S.len;refine xxx hp func186 fun K=>?_;refine xnq (fun m l=>∃j:Nat,m=n-j/\l=[(0,none,.slice a n c),(1,none,fv),(7,none,.J n),(8,none,.J j)]/\j<=n/\ ∀i,i<j->q (xs.getD i dz)=false) ⟨0,rfl,rfl,Nat.zero_le _,om⟩ sb ?_;rintro _ _ IH ⟨j,rfl,rfl,hj,M⟩;refine cq (fun cc=>?_) (fun cc=>?_)
 ·refine ax ?_;refine ro_y rfl (xlk rfl (S.all om)) ?_;refine xqn rfl rfl (fun h_ V=>hf h_ V j om) ?_;refine cq (fun H=>?_) (fun H=>?_)
  ·refine K.q ?_;rw[Df (z:=dz) (k:=j) om H M];rfl
  ·exact bkq (IH _ om ⟨j+1,rfl,rfl,om,Dr M (by simpa using H)⟩)
 refine K.q ?_;rw[Da (z:=dz) (fun i hi=>M i om)];rfl
theorem yj8(O:Per p h){a:Option Addr}{c:Nat}(xs:List Day)(S:Bl p a n xs)(hn:n<=2^40)(q:Day->Bool)
 (hf:∀h,Per p h-> ∀i,i<n->Ay prog md fv [.agg #[.J (xs.getD i dz).lo,.J (xs.getD i dz).hi,.J (xs.getD i dz).want]] h fun v H=>v=.bool (q (xs.getD i dz))/\As h H):
 Ac prog md 103 #[.slice a n c,fv] h fun v H=>v=.bool (decide (0<=Cp q xs))/\As h H:=by
 refine xxx O func103 fun K=>?_;refine cdq (fun _ M=>yb6 M fv xs S hn q hf) ?_;exact K.q rfl
theorem yh0(size start:Int){a:Option Addr}(n c:Nat)(hn:n<=2^40)(x:Int):Dc prog md p 217 #[.agg #[.J size,.J start,.slice a n c],.J x] (.bool (decide (0<=x/\x<=(n:Int)-1))):=by
 refine xkq func217 fun K b1=>?_;refine cdq xm9 ?_;exact K.q rfl
theorem cf51(size start:Int){a:Option Addr}(n c:Nat)(ds:List Day)(D:Bl p a n ds)(hn:n<=2^40):Dc prog md p 51 #[.agg #[.J size,.J start,.slice a n c]] (.J (chk size start ds)):=by
 have hl:=D.len;refine xkq func51 fun K b1=>?_;refine cdq xm9 ?_;refine cgq (fun _=>xm9) ?_;refine ax ?_;refine xxj rfl rfl rfl sdu (fun _ _ O=>yj8 O ds D hn E6 (fun h_ O i hi=>xgq k_ (yk8 (ds.getD i dz) _ O))) ?_;refine ax ?_;have key:(0<=Cp E6 ds)<-> ¬ ∀i,i<ds.length->Di (ds.getD i dz):=by
  rw[Dl];constructor
  ·rintro⟨z,hz,y⟩ H;obtain⟨i,hi,rfl⟩:=List.mem_iff_getElem.1 hz;have:=H i hi;rw[List.getD_eq_getElem?_getD,List.getElem?_eq_getElem hi]at this;simp only[E6,Bool.not_eq_true',decide_eq_false_iff_not]at y;exact y this
  ·intro H;apply Classical.byContradiction;intro z;apply H;intro i hi;apply Classical.byContradiction;intro y;apply z;rw[List.getD_eq_getElem?_getD,List.getElem?_eq_getElem hi]at y;exact⟨ds[i],List.getElem_mem hi,by simpa[E6]using y⟩
 refine cq (fun cc=>?_) (fun cc=>?_)
 ·have V:¬ Ok size start ds:=fun e=>by
   unfold Ok at e;obtain⟨e1,e2,e3,e4,e5,e6⟩:=e;have k:¬ 0<=Cp E6 ds:=fun z=>key.1 z e6;omega
  refine K.q ?_;rw[Hu V];rfl
 ·have M:Ok size start ds:=by
   have k:∀i,i<ds.length->Di (ds.getD i dz):=Classical.byContradiction fun z=>cc (.inr (key.2 z));unfold Ok;exact⟨om,om,om,om,om,k⟩
  refine K.q ?_;rw[Ei M];rfl
theorem yi0(size start:Int){a:Option Addr}(n c:Nat)(ds:List Day)(D:Bl p a n ds)(hn:n<=2^40)(b:Bool):Dc prog md p 216 #[.agg #[.J size,.J start,.slice a n c],.bool b] (.J (Kj size start ds b)):=by
 refine xkq func216 fun K b1=>?_;refine cdq (cf51 size start n c ds D hn) ?_;refine cq (fun O=>?_) (fun O=>?_)
 ·have M:¬ Ok size start ds:=fun e=>O (Ei e);refine K.q ?_;rw[Kj,if_neg M,Hu M];rfl
 have H:Ok size start ds:=A7.1 (Classical.not_not.1 O);refine cq (fun V=>?_) (fun V=>?_)
 ·refine K.q ?_;rw[Kj,if_pos H,if_neg V];rfl
 refine K.q ?_;rw[Kj,if_pos H,if_pos (Classical.not_not.1 V)];rfl
theorem ya4(b:Nat)(z:Int)(n:Int)(hz:0<=z/\z<=1000/\0<=l/\l<=1000/\0<=n/\n<=1000)
 (H:St z9 zz p h ([(b,.cells #[.J z,.J l] T (0,0))]++zx)):
 Ac prog md 296 #[w_ b 0,.J n] h fun v V=>∃M,(v=.J (max 0 (l+n-z))/\M=[(b,.cells #[.J z,.J (l+n-max 0 (l+n-z))] T (0,0))])/\St z9 zz p V (M++zx):=by
 refine xjj H func296 fun _ _ _ K=>?_;refine drq [] R8 ?_;refine ax ?_;exact xrq func296 rfl rfl fun _ O=>K _ _ ⟨_,⟨rfl,rfl⟩,by simp only[List.flatten_cons,List.flatten_nil,List.append_nil]at O;exact O⟩
theorem yz3(b:Nat)(z:Int)(n:Int)(hz:0<=z/\z<=1000/\0<=l/\l<=1000/\0<=n/\n<=1000)
 (H:St z9 zz p h ([(b,.cells #[.J z,.J l] T (0,0))]++zx)):
 Ac prog md 297 #[w_ b 0,.J n] h fun v V=>∃M,(v=.J (n-min n l)/\M=[(b,.cells #[.J z,.J (l-min n l)] T (0,0))])/\St z9 zz p V (M++zx):=by
 refine xjj H func297 fun _ _ _ K=>?_;refine ax ?_;exact xrq func297 rfl rfl fun _ O=>K _ _ ⟨_,⟨rfl,rfl⟩,by simp only[List.flatten_cons,List.flatten_nil,List.append_nil]at O;exact O⟩
theorem yb4{q7:Pcs}(yv rv:Value)(bY bR:Nat)(size start:Int){a:Option Addr}(n c:Nat)(ds:List Day)(D:Bl p a n ds)(hn:n<=40)(rain:Nat->Int)
 (a5:p bY=some (.cells #[.J size,.J start,.slice a n c] T1 q1))(a9:p bR=some (.cells #[rv] T2 q2))(hs:0<=size/\size<=60/\0<=start)(hd:∀i,i<n->0<=(ds.getD i dz).want/\(ds.getD i dz).want<=200)(a3:∀i,i<n->0<=rain i/\rain i<=20)
 (hr:∀h,Per p h-> ∀i:Nat,i<n->Ay prog md rv [.J (i:Nat)] h fun v h'=>v=.J (rain i)/\As h h')(I:Nat->Pcs->Prop)(J:Pcs->Prop)(a2:I 0 q7)
 (hy:∀i:Nat,i<n-> ∀h X C,I i X->St z9 zz p h (X++C)->Ay prog md yv [.J (i:Nat),.agg #[.J (lev size (min start size) (Ag ds) rain (i+1)),.J (Al size (min start size) (Ag ds) rain i),.J (ovr size (min start size) (Ag ds) rain i)]] h
  fun v h'=>∃H,((v=.bool true/\I (i+1) H)\/(v=.bool false/\J H))/\St z9 zz p h' (H++C))(V:St z9 zz p h (q7++zx)):
 Ac prog md 295 #[yv,w_ bY 0,w_ bR 0] h fun _ h'=>∃H,(I n H\/J H)/\St z9 zz p h' (H++zx):=by
 have hl:=D.len;refine xjj V func295 fun _ _ _ K=>?_;refine lq fun M=>?_;refine ax ?_;refine xjq (fun m_ l p_ L_=>∃(k:Nat)(Z:Pcs),m_=n-k/\l=[(0,none,yv),(1,none,w_ bY 0),(2,none,w_ bR 0),(4,none,w_ M 0),(18,none,.slice a n c),(19,none,.J (n:Nat)),(20,none,.J (k:Nat))]/\p_=p/\L_=[[(M,.cells #[.J size,.J (lev size (min start size) (Ag ds) rain k)] 318 (0,0))],Z,zx]/\k<=n/\I k Z) ⟨0,q7,rfl,rfl,rfl,rfl,Nat.zero_le _,a2⟩ sb ?_;rintro _ _ p _ IH ⟨k,Z,rfl,rfl,rfl,rfl,hk,hI⟩;refine cq (fun cc=>?_) (fun cc=>?_)
 ·have a8:=Cv (want:=Ag ds) (rain:=rain) (size:=size) (start:=min start size) (n:=n) ⟨om,om⟩ (fun i hi=>(hd i hi).1) k hk;have a7:=hd k om;have a6:=a3 k om;refine ax ?_;refine ro_y rfl (xlk rfl (D.all om)) ?_;refine xbx fun b6=>?_;refine ax ?_;refine xqn rfl rfl (fun _ pe=>hr _ pe k om) ?_;refine xwl [(M,.cells #[.J size,.J (lev size (min start size) (Ag ds) rain k)] 318 (0,0))] rfl rfl (fun h C s=>ya4 M size (rain k) om s) ?_;rintro _ _ ⟨rfl,rfl⟩;refine ax ?_;refine xwl [(M,.cells #[.J size,.J (lev size (min start size) (Ag ds) rain k+rain k-max 0 (lev size (min start size) (Ag ds) rain k+rain k-size))] 318 (0,0))] rfl rfl (fun h C s=>yz3 M size (ds.getD k dz).want om s) ?_;rintro _ _ ⟨rfl,rfl⟩;refine ax ?_;have e1:lev size (min start size) (Ag ds) rain k+rain k-max 0 (lev size (min start size) (Ag ds) rain k+rain k-size)-min (ds.getD k dz).want (lev size (min start size) (Ag ds) rain k+rain k-max 0 (lev size (min start size) (Ag ds) rain k+rain k-size))=lev size (min start size) (Ag ds) rain (k+1):=by
   simp only[lev,Ag];omega
  have e2:(ds.getD k dz).want-min (ds.getD k dz).want (lev size (min start size) (Ag ds) rain k+rain k-max 0 (lev size (min start size) (Ag ds) rain k+rain k-size))=Al size (min start size) (Ag ds) rain k:=by
   simp only[Al,ovr,Ag];omega
  refine ycg Z rfl rfl (Q:=fun v Z'=>(v=.bool true/\I (k+1) Z')\/(v=.bool false/\J Z')) (fun h C s=>?_) ?_
  ·have y:=hy k om h Z C hI s;rw[<- e1,<- e2]at y;exact y
  rw[e1];rintro _ Z1 (⟨rfl,a4⟩|⟨rfl,hJ⟩)
  ·refine ax ?_;refine xjx rfl (fun O=>absurd O s_) (fun O=>?_);exact bkq (IH _ _ _ om ⟨k+1,Z1,rfl,rfl,rfl,rfl,om,a4⟩)
  ·refine ax ?_;refine xjx rfl (fun O=>?_) (fun O=>absurd s_ O);exact xrq func295 rfl rfl fun _ H_=>K _ _ ⟨Z1,.inr hJ,xrg H_⟩
 obtain rfl:k=n:=om;refine ax ?_;exact xob (f:=295) rfl rfl fun _ H_=>K _ _ ⟨Z,.inl hI,xrg H_⟩
theorem ye0(size start:Int){a:Option Addr}(n c:Nat)(h1:rv.cells=#[rv]):Lc prog md p 253 #[.agg #[.J size,.J start,.slice a n c],rv] (fun v p'=>∃(b1 b2:Nat)(T1 T2:TypeId),v=.func (.func 295) #[] #[w_ b1 0,w_ b2 0]/\p' b1=some (.cells #[.J size,.J start,.slice a n c] T1 (0,0))/\p' b2=some (.cells #[rv] T2 (0,0))):=by
 refine xkq func253 fun K b1=>?_;refine bq fun b2=>?_;rw[h1];refine xf2 (b:=b1) fun p1 M k1=>?_;refine xf2 (b:=b2) fun V H k2=>?_;refine ax ?_;exact K.r rfl rfl fun _ O=>(xqq (p:=p) (p':=V) (Q:=fun v p'=>∃(b1 b2:Nat)(T1 T2:TypeId),v=.func (.func 295) #[] #[w_ b1 0,w_ b2 0]/\p' b1=some (.cells #[.J size,.J start,.slice a n c] T1 (0,0))/\p' b2=some (.cells #[rv] T2 (0,0))) O (M.trans H) ⟨b1,b2,_,_,rfl,H.le _ _ k1,k2⟩)
theorem yp4(size start:Int){a:Option Addr}(n c:Nat)(ds:List Day)(D:Bl p a n ds)(H:Nat)(M:p H=some (.cells #[.J size,.J start,.slice a n c] T1 q1))(k:Nat)(O:k<n):Dc prog md p 256 #[.J (k:Nat),w_ H 0] (.J (ds.getD k dz).lo):=by
 refine xlq func256 fun K=>?_;refine ro_y rfl (y_lp rfl (by show Au p ((((adr a).add (k*3)).add 0).add 0)=_;rw[xws,xws];exact D.lo O)) ?_;exact K.q rfl
theorem yk0{k o:Int}:Dc prog md p 212 #[.agg #[.J l,.J k,.J o]] (.bool (decide (0<k))):=by
 refine xkq func212 fun K b1=>?_;exact K.q rfl
theorem ys5{n:Int}:Dc prog md p 210 #[.J n] (.tuple #[.J (if n<0 then 0 else n),.J (if n<0 then 3 else 0)]):=by
 refine xlq func210 fun K=>?_;refine cq (fun H=>?_) (fun H=>?_)
 ·refine K.q ?_;rw[if_pos H,if_pos H];rfl
 ·refine K.q ?_;rw[if_neg H,if_neg H];rfl
theorem yq5(i:Int){w:Int}(r:Int)(b:Nat){q:Nat×Nat}(H:p b=some (.cells #[.J r] T q)):Dc prog md p 215 #[.J i,.J w,w_ b 0] (.J (min w r)):=by
 refine xlq func215 fun K=>?_;exact K.q rfl
theorem yp5(i:Int){w:Int}(d e:Int)(hw:0<=w/\w<=1000/\0<=e/\e<=1000)(b1 b2:Nat)(M:p b1=some (.cells #[.J d] T1 q1))(O:p b2=some (.cells #[.J e] T2 q2)):Dc prog md p 218 #[.J i,.J w,w_ b1 0,w_ b2 0] (.J (if i=d then w+e+1 else w)):=by
 refine xlq func218 fun K=>?_;refine cq (fun H=>?_) (fun H=>?_)
 ·refine K.q ?_;rw[if_pos H];rfl
 ·refine K.q ?_;rw[if_neg H];rfl
def M5(size start:Int)(want rain:Nat->Int)(i:Nat):List Value:=[.J (i:Nat),.agg #[.J (lev size start want rain (i+1)),.J (Cist.Al size start want rain i),.J (ovr size start want rain i)]]
theorem ywg{O M:Nat}{size start:Int}{a:Option Addr}{c:Nat}(D:Bl p a n ds)(hn:n<=40)(rain:Nat->Int)
 (a2:p O=some (.cells #[.J size,.J start,.slice a n c] T1 q1))(a4:p M=some (.cells #[rv] T2 q2))(hs:0<=size/\size<=60/\0<=start)(hd:∀i,i<n->0<=(ds.getD i dz).want/\(ds.getD i dz).want<=200)(a3:∀i,i<n->0<=rain i/\rain i<=20)
 (hr:∀p',PLe p p'-> ∀h,Per p' h-> ∀i:Nat,i<n->Ay prog md rv [.J (i:Nat)] h fun v h'=>v=.J (rain i)/\As h h'):
 M4 prog md p (.func (.func 295) #[] #[w_ O 0,w_ M 0]) ((List.range n).map (M5 size (min start size) (Ag ds) rain)):=by
 intro h z9 zz p' q7 zx yv I Ex H h0 hy s;refine xgq (first:=[]) (cap:=[w_ O 0,w_ M 0]) k_ ((yb4 yv rv O M size start n c ds (Sl.mono H D) hn rain (H _ _ a2) (H _ _ a4) hs hd a3 (hr p' H) I Ex h0 (fun i hi h X C hI V=>?_) s).mono fun _ _⟨X',q,V⟩=>⟨X',by rw[List.length_map,List.length_range];exact q,V⟩);have z:=hy i (by simpa using hi) p' h X C (PLe.refl _) hI V;have e:((List.range n).map (M5 size (min start size) (Ag ds) rain)).getD i []=M5 size (min start size) (Ag ds) rain i:=by simp[List.getD_eq_getElem?_getD,hi]
 rw[e]at z;exact z
theorem ydf(size start:Int){a:Option Addr}(n c:Nat)(ds:List Day)(D:Bl p a n ds)(hn:n<=40)(hs:0<=size/\size<=60/\0<=start)(hd:Dok ds):Dc prog md p 213 #[.agg #[.J size,.J start,.slice a n c]] (.bool (decide (Bg size start ds))):=by
 intro h hp;have hl:=D.len;refine xez hp func213 fun _ _ _ K=>?_;refine bq fun b1=>?_;refine lq fun b2=>?_;refine ax ?_;refine xlw (b:=b1) fun p1 a3 h1=>?_;refine cpq (ye0 size start n c rfl) ?_;rintro _ p2 g2 ⟨bY,bR,T1,T2,rfl,hY,hR⟩;have D2:Bl p2 a n ds:=Sl.mono (a3.trans g2.le) D;have h2:=g2.le _ _ h1;refine ax ?_;refine yaz (fun i L=>L=[[(b2,.cells #[.bool false] 4 (0,0))]]/\ ∀j,j<i-> ¬ 0<Cist.Al size (min start size) (Ag ds) (C7 ds) j) (fun L=>L=[[(b2,.cells #[.bool false] 4 (0,0))]]/\ ¬ Bg size start ds) rfl (ywg D2 hn (C7 ds) hY hR hs (fun i hi=>(hd i om).2) (fun i hi=>by have z:=(hd i om).1;show 0<=(ds.getD i dz).lo/\(ds.getD i dz).lo<=20;omega) (fun p' le h pe i hi=>xgq (first:=[]) (cap:=[w_ b1 0]) k_ (yp4 size start n c ds (Sl.mono le D2) b1 (le _ _ h2) i hi h pe))) ⟨rfl,om⟩ ?_ ?_ ?_ rfl ?_
 ·intro lo lp i _ p' C a4 a2 M hi le ⟨e,H⟩ O nx nr;subst e;have e:((List.range n).map (M5 size (min start size) (Ag ds) (C7 ds))).getD i []=M5 size (min start size) (Ag ds) (C7 ds) i:=by
   rw[List.length_map,List.length_range]at hi;simp[List.getD_eq_getElem?_getD,hi]
  rw[e];show RE _ _ ((9,none,.agg #[.J (lev size (min start size) (Ag ds) (C7 ds) (i+1)),.J (Cist.Al size (min start size) (Ag ds) (C7 ds) i),.J (ovr size (min start size) (Ag ds) (C7 ds) i)])::_) _ _;refine lq fun b4=>?_;refine ax ?_;dsimp only at nx nr⊢;refine xqr O ?_;refine cdq yk0 ?_;refine cq (fun cc=>?_) (fun cc=>?_)
  ·refine ax ?_;rw[List.length_map,List.length_range]at hi;exact bkq (nr _ [] _ ⟨rfl,fun z=>z i om cc⟩)
  ·exact bkq (nx [] _ ⟨rfl,yxz H cc⟩)
 ·rintro r _ ⟨e,H⟩;subst e;rw[List.length_map,List.length_range]at H;dsimp only;refine ax ?_;refine xfk (LL':=[C8 [r],[(b2,.cells #[.bool true] 4 (0,0))]]) ?_ (fun h s=>by
   refine s.perm ?_;simp only[C8,List.map_cons,List.map_nil,List.flatten_cons,List.flatten_nil,List.append_nil];exact List.Perm.swap _ _ _)
  exact xpr (rs:=[r]) (vs:=[.bool true]) func213 rfl (xe0 rfl .nil) fun _ V=>K _ _ ⟨by rw[decide_eq_true (show Bg size start ds from fun i hi=>H i om)];rfl,V.kept⟩
 ·rintro r _ ⟨e,H⟩;subst e;dsimp only;refine xfk (LL':=[C8 [r],[(b2,.cells #[.bool false] 4 (0,0))]]) ?_ (fun h s=>by simpa[C8]using s);exact xpr (rs:=[r]) (vs:=[.bool false]) func213 rfl (xe0 rfl .nil) fun _ V=>K _ _ ⟨by rw[decide_eq_false H];rfl,V.kept⟩
 ·intro i hi;rw[List.length_map,List.length_range]at hi;simp[List.getD_eq_getElem?_getD,hi,M5]
theorem cf64{a:Option Addr}(n c:Nat)(xs:List Day)(S:Bl p a n xs)(hn:n<=2^20):Nc prog md p 64 #[.slice a n c] (fun v Y=>Ab 48 3 v (dcs xs) Y):=by
 have hl:=S.len;refine xlq func64 fun K=>?_;refine ro_y rfl (xx9 rfl) ?_;refine cq (fun M=>?_) (fun M=>?_)
 ·refine ax ?_;have e:xs=[]:=by
   by_cases V:0<n
   ·rw[S.ne V]at M;cases M
   ·exact List.eq_nil_of_length_eq_zero om
  subst e;refine xyj 48 3 fun o=>?_;exact K.r rfl rfl fun _ H=>⟨_,o,El H⟩
 refine ax ?_;refine xtx rfl fun v Y o=>?_;refine ax ?_;refine xmw rfl rfl o S (Ct xs) (by simp[chs];omega) (fun v' Y' O=>?_);refine ax ?_;exact K.r rfl rfl fun _ H=>⟨_,O,El H⟩
theorem yj0(hp:Per p h)(size start:Int){a:Option Addr}(n c:Nat)(ds:List Day)(D:Bl p a n ds)(hn:n<=40)(wf:Nat->Int->Int)
 (hf:∀h,Per p h-> ∀i:Nat,i<n->Ay prog md fv [.J (i:Nat),.J (ds.getD i dz).want] h fun v V=>v=.J (wf i (ds.getD i dz).want)/\As h V):
 Ac prog md 214 #[.agg #[.J size,.J start,.slice a n c],fv] h fun v V=>∃Y,(∃w,v=.agg #[.J size,.J start,w]/\Ab 48 3 w (dcs (Fq wf ds)) Y)/\New h V Y:=by
 have O:=D.len;refine xsq hp func214 fun K b2=>?_;refine lq fun b4=>?_;refine ax ?_;refine xeb rfl rfl (cf64 n c ds D om) ?_;intro v Y o;obtain⟨M,c5,rfl,-⟩:=o.val;rw[Aj,O]at o⊢;refine ax ?_;refine xjq (fun m_ l p_ L_=>∃(k:Nat)(Y:Pcs),m_=n-k/\l=[(1,none,fv),(2,none,w_ b2 0),(4,none,w_ b4 0),(12,none,.J (n:Nat)),(13,none,.J (k:Nat))]/\p_=p/\L_=[[(b2,.cells #[.J size,.J start,.slice M n c5] 31 (0,0))],Y,[(b4,.cells #[.J 0,.J 0,.slice none 0 0] 31 (0,0))]]/\k<=n/\Ab 48 3 (.slice M n c5) (dcs (Hl wf ds k)) Y) ⟨0,Y,rfl,rfl,rfl,rfl,Nat.zero_le _,by rw[Ho];exact o⟩ sb ?_;clear o;rintro _ _ p _ IH ⟨k,Y,rfl,rfl,rfl,rfl,hk,H⟩;have a2:(dcs (Hl wf ds k)).length=n:=by rw[Aj,Bt,O]
 refine cq (fun cc=>?_) (fun cc=>?_)
 ·refine drq [] R12 ?_;refine de_y rfl rfl (xxv rfl rfl sdt sdt H om) ?_;refine ex ?_;refine de_y rfl rfl (xcb rfl sdt H rfl (Ft om) rfl (q:=2)) ?_;refine ex ?_;refine xe7 rfl rfl rfl sdt rfl sdt (xdz fun h_ pe=>hf h_ pe k om) ?_;refine xa ?_;refine ro_y rfl (xfb rfl rfl H om) ?_;refine ax ?_;refine xck (j:=2) rfl rfl H rfl rfl rfl rfl (Ft om) (Nat.le_refl _) fun Y3 o3=>?_;have o3:=o3.as (show _=dcs (Hl wf ds (k+1)) from Hf om);exact bkq (IH _ _ _ om ⟨k+1,Y3,rfl,rfl,rfl,rfl,om,o3⟩)
 obtain rfl:n=k:=om;refine ax ?_;exact K.e rfl (xoq rfl .nil) fun h_ H_=>⟨Y,⟨.slice M n c5,rfl,H.as (by rw[Fq,O])⟩,El H_⟩
theorem yq4(hp:Per p h)(fv:Value){a:Option Addr}{c:Nat}(xs:List Day)(S:Bl p a n xs)(hn:n<=2^40)(q:Day->Bool)
 (hf:∀h,Per p h-> ∀i,i<n->Ay prog md fv [.agg #[.J (xs.getD i dz).lo,.J (xs.getD i dz).hi,.J (xs.getD i dz).want]] h fun v O=>v=.bool (q (xs.getD i dz))/\As h O):
 Ac prog md 255 #[.slice a n c,fv] h fun v O=>v=.J (Cp q xs)/\As h O:=by
 have hl:=S.len;refine xxx hp func255 fun K=>?_;refine xnq (fun m l=>∃j:Nat,m=n-j/\l=[(0,none,.slice a n c),(1,none,fv),(7,none,.J n),(8,none,.J j)]/\j<=n/\ ∀i,i<j->q (xs.getD i dz)=false) ⟨0,rfl,rfl,Nat.zero_le _,om⟩ sb ?_;rintro _ _ IH ⟨j,rfl,rfl,hj,M⟩;refine cq (fun cc=>?_) (fun cc=>?_)
 ·refine ax ?_;refine ro_y rfl (xlk rfl (S.all om)) ?_;refine xqn rfl rfl (fun h_ V=>hf h_ V j om) ?_;refine cq (fun H=>?_) (fun H=>?_)
  ·refine K.q ?_;rw[Df (z:=dz) (k:=j) om H M];rfl
  ·exact bkq (IH _ om ⟨j+1,rfl,rfl,om,Dr M (by simpa using H)⟩)
 refine K.q ?_;rw[Da (z:=dz) (fun i hi=>M i om)];rfl
theorem yr5(O:Per p h)(fv:Value){a:Option Addr}(n c:Nat)(S:Bl p a n xs)(hn:n<=2^40)(q:Day->Bool)
 (hf:∀h,Per p h-> ∀i,i<n->Ay prog md fv [.agg #[.J (xs.getD i dz).lo,.J (xs.getD i dz).hi,.J (xs.getD i dz).want]] h fun v H=>v=.bool (q (xs.getD i dz))/\As h H):
 Ac prog md 211 #[.slice a n c,fv] h fun v H=>v=.J (Cp q xs)/\As h H:=by
 refine xxx O func211 fun K=>?_;refine cdq (fun _ M=>yq4 M fv xs S hn q hf) ?_;exact K.q rfl
theorem yl7{size start:Int}{a:Option Addr}{c:Nat}(D:Bl p a n ds)(hn:n<=40):Dc prog md p 132 #[.agg #[.J size,.J start,.slice a n c]] (.tuple #[.J (if Ok size start ds then Bi size start ds 20 else 0),.J (chk size start ds)]):=by
 intro h hp;have hl:=D.len;refine xsq hp func132 fun K b1=>?_;refine ax ?_;refine xrx rfl rfl (cf51 size start n c ds D om) ?_;refine cq (fun cc=>?_) (fun cc=>?_)
 ·have a8:¬ Ok size start ds:=fun e=>cc (Ei e);refine K.q ?_;rw[if_neg a8];rfl
 have c0:=Classical.not_not.1 cc;have O:Ok size start ds:=A7.1 c0;have a3:0<=size/\size<=60/\0<=start:=⟨O.1,O.2.1,O.2.2.1⟩
 have a2:=O.dok;refine lq fun b5=>?_;refine xlw (b:=b1) fun p1 a9 h1=>?_;have D:=D.mono a9;refine ax ?_;refine xjq (fun m_ l p_ L_=>∃(k:Nat)(H:Int),m_=k+1/\l=[(1,none,w_ b1 0),(5,none,w_ b5 0)]/\p_=p1/\L_=[[(b5,.cells #[.J H] 3 (0,0))]]/\H=k/\k<=20/\Bi size start ds k=Bi size start ds 20) ⟨20,20,rfl,rfl,rfl,rfl,rfl,Nat.le_refl _,rfl⟩ sb ?_;rintro _ _ p1 _ IH ⟨k,H,rfl,rfl,rfl,rfl,V,hk,hR⟩;refine ax ?_;refine xzt (Q:=fun v Y=>∃w,v=.agg #[.J size,.J start,w]/\Ab 48 3 w (dcs (At H ds)) Y) (first:=[]) rfl rfl (fun h s=>xcs (Z:=[(b5,.cells #[.J H] 3 (0,0))]) s s_ fun p' a5 le hz=>yj0 a5 size start n c ds (D.mono le) hn (fun _ w=>min w H) (fun h_ pe i hi=>xgq (first:=[]) (cap:=[w_ b5 0]) k_ (yq5 i H b5 (hz (b5,.cells #[.J H] 3 (0,0)) s_) h_ pe))) ?_;rintro _ Y ⟨w,rfl,o⟩;refine xlb o (by rw[Aj,At,A5,hl]) fun p2 a6 c6 a7 ev D2=>?_;subst ev;have a4:Dok (At H ds):=xx6 a2 fun i hi=>by have z:=(a2 i hi).2;show 0<=min _ _/\min _ _<=_;omega
 refine cdq (ydf size start n c6 (At H ds) D2 hn a3 a4) ?_;refine cq (fun M=>?_) (fun M=>?_)
 ·have M:¬ Bg size start (At (k:Nat) ds):=by rw[<- V];simpa using M
  obtain⟨b0,e⟩:=ykb ⟨a3.1,a3.2.2⟩ a2 M;refine ax ?_;refine xov a7 ?_;exact bkq (IH _ _ _ om ⟨k-1,H-1,rfl,rfl,rfl,rfl,om,om,by rw[<- e];exact hR⟩)
 ·have M:Bg size start (At (k:Nat) ds):=by rw[<- V];exact Classical.not_not.1 (by simpa using M)
  refine K.q ?_;rw[if_pos O,<- hR,yas M,c0,<- V];rfl
theorem yn7{size start:Int}{a:Option Addr}{c:Nat}(D:Bl p a n ds)(hn:n<=40):Dc prog md p 130 #[.agg #[.J size,.J start,.slice a n c]] (.tuple #[.J (Av size start ds).1,.J (Av size start ds).2]):=by
 have hl:=D.len;refine xkq func130 fun K b1=>?_;refine ax ?_;refine xrx rfl rfl (cf51 size start n c ds D om) ?_;refine cq (fun cc=>?_) (fun cc=>?_)
 ·have a2:¬ Ok size start ds:=fun e=>cc (Ei e);refine K.q ?_;rw[Av,if_neg a2,Hu a2];rfl
 have c0:=Classical.not_not.1 cc;have O:Ok size start ds:=A7.1 c0;have a4:0<=start:=O.2.2.1;have a3:=O.dok;refine ax ?_;refine xjq (fun m_ l p_ L_=>∃(k:Nat)(V:Int),m_=61-k/\l=[(1,none,w_ b1 0)]/\p_=p/\L_=[[(b1,.cells #[.J V,.J start,.slice a n c] 31 (0,0))]]/\V=k/\k<=61/\Gx (fun k=>decide (Bg (k:Nat) start ds)) k (61-k)=Gx (fun k=>decide (Bg (k:Nat) start ds)) 0 61) ⟨0,0,rfl,rfl,rfl,rfl,rfl,Nat.zero_le _,rfl⟩ sb ?_;rintro _ _ p _ IH ⟨k,V,rfl,rfl,rfl,rfl,H,hk,hR⟩;refine cq (fun cd=>?_) (fun cd=>?_)
 ·refine ax ?_;refine xrx rfl rfl (ydf V start n c ds D hn ⟨om,om,a4⟩ a3) ?_;refine cq (fun M=>?_) (fun M=>?_)
  ·have M:Bg (k:Nat) start ds:=by rw[<- H];simpa using M
   refine K.q ?_;rw[Av,if_pos O,<- hR,xx3 om (decide_eq_true M),found,<- H];rfl
  ·have M:¬ Bg (k:Nat) start ds:=by rw[<- H];simpa using M
   exact bkq (IH _ _ _ om ⟨k+1,V+1,rfl,rfl,rfl,rfl,om,om,by rw[<- xht om (decide_eq_false M)];exact hR⟩)
 refine K.q ?_;rw[Av,if_pos O,<- hR,yzv om];rfl
theorem yj7{size start:Int}{a:Option Addr}{c:Nat}(D:Bl p a n ds)(hn:n<=40)(H:Int):Dc prog md p 134 #[.agg #[.J size,.J start,.slice a n c],.J H] (.tuple #[.J (Cn size start ds H).1,.J (Cn size start ds H).2]):=by
 intro h hp;have hl:=D.len;refine xsq hp func134 fun K b2=>?_;refine bq fun b3=>?_;refine drq [] R4 ?_;refine xxk rfl rfl rfl rfl trivial (yh0 size start n c om H) ?_;refine ex ?_;have eD:decide (0<=H/\H<=(n:Int)-1)=decide (Dx ds H):=decide_eq_decide.2 (by unfold Dx;omega);rw[eD];refine xrx rfl rfl (yi0 size start n c ds D om (decide (Dx ds H))) ?_;refine cq (fun cc=>?_) (fun cc=>?_)
 ·refine K.q ?_;rw[Cn,if_neg cc];rfl
 have c0:=Classical.not_not.1 cc;have O:Ok size start ds:=Classical.byContradiction fun z=>by rw[Kj,if_neg z]at c0;omega
 have a7:Dx ds H:=Classical.byContradiction fun z=>by rw[Kj,if_pos O,decide_eq_false z]at c0;simp at c0
 have a5:0<=size/\size<=60/\0<=start:=⟨O.1,O.2.1,O.2.2.1⟩
 have a4:=O.dok;refine cdq (ydf size start n c ds D hn a5 a4) ?_;refine cq (fun cd=>?_) (fun cd=>?_)
 ·have cd:¬ Bg size start ds:=by simpa using cd
  refine K.q ?_;rw[Cn,if_pos c0,if_neg cd];rfl
 have cd:Bg size start ds:=Classical.not_not.1 (by simpa using cd);refine lq fun b7=>?_;refine xlw (b:=b3) fun p1 b4 h1=>?_;have D:=D.mono b4;refine ax ?_;refine xjq (fun m_ l p_ L_=>∃(k:Nat)(M:Int),m_=100-k/\l=[(2,none,w_ b2 0),(3,none,w_ b3 0),(7,none,w_ b7 0)]/\p_=p1/\L_=[[(b7,.cells #[.J M] 3 (0,0))],[(b2,.cells #[.J size,.J start,.slice a n c] 31 (0,0))]]/\M=k/\k<=60/\Gx (fun k=>decide (¬ Bg size start (wanted H ((k:Nat)+1) ds))) k (100-k)=Pb size start ds H) ⟨0,0,rfl,rfl,rfl,rfl,rfl,Nat.zero_le _,rfl⟩ sb ?_;rintro _ _ p1 _ IH ⟨k,M,rfl,rfl,rfl,rfl,a3,hk,hR⟩;refine ax ?_;have a2:∀i,i<n->0<=(ds.getD i dz).want/\(ds.getD i dz).want<=20:=fun i hi=>by have z:=O.2.2.2.2.2 i om;unfold Di at z;omega
 refine xzt (Q:=fun v Y=>∃w,v=.agg #[.J size,.J start,w]/\Ab 48 3 w (dcs (wanted H (M+1) ds)) Y) (first:=[]) rfl rfl (fun h s=>xcs (Z:=[(b7,.cells #[.J M] 3 (0,0))]) s s_ fun p' a9 le hz=>yj0 a9 size start n c ds (D.mono le) hn (Cist.Dq H (M+1)) (fun h_ pe i hi=>xgq (first:=[]) (cap:=[w_ b3 0,w_ b7 0]) k_ ((yp5 i H M (by have z:=a2 i hi;omega) b3 b7 (le _ _ h1) (hz (b7,.cells #[.J M] 3 (0,0)) s_) h_ pe).mono fun v h' e=>⟨e.1.trans (by unfold Cist.Dq;rw[Int.add_assoc]),e.2⟩))) ?_;rintro _ Y ⟨w,rfl,o⟩;refine xlb o (by rw[Aj,wanted,A5,hl]) fun p2 a6 c6 b0 ev D2=>?_;subst ev;have a8:Dok (wanted H (M+1) ds):=xx6 a4 fun i hi=>by
  have z:=a2 i om;unfold Cist.Dq;split<;>omega
 refine cdq (ydf size start n c6 (wanted H (M+1) ds) D2 hn a5 a8) ?_;refine cq (fun V=>?_) (fun V=>?_)
 ·have V:Bg size start (wanted H ((k:Nat)+1) ds):=by rw[<- a3];simpa using V
  have b5:k<60:=by
   apply Classical.byContradiction;intro z;exact xrn a5 a4 a7 (show 60<(k:Int)+1 by omega) V
  refine ax ?_;refine xov b0 ?_;exact bkq (IH _ _ _ om ⟨k+1,M+1,rfl,rfl,rfl,rfl,om,om,by rw[<- xht om (decide_eq_false (fun z=>z V))];exact hR⟩)
 ·have V:¬ Bg size start (wanted H ((k:Nat)+1) ds):=by rw[<- a3];simpa using V
  refine K.q ?_;rw[Cn,if_pos c0,if_pos cd,<- hR,xx3 om (decide_eq_true V),found,<- a3];rfl
theorem yt4(md:Md)(size start:Int){a:Option Addr}(n c:Nat)(ds:List Day)(D:Bl p a n ds)(H:Nat)(q1:Nat×Nat)(M:p H=some (.cells #[.J size,.J start,.slice a n c] T1 q1))(k:Nat)(O:k<n):Dc prog md p 248 #[.J (k:Nat),w_ H 0] (.J (ds.getD k dz).lo):=by
 refine xlq func248 fun K=>?_;refine ro_y rfl (y_lp rfl (by show Au p ((((adr a).add (k*3)).add 0).add 0)=_;rw[xws,xws];exact D.lo O)) ?_;exact K.q rfl
theorem ys4(md:Md)(size start:Int){a:Option Addr}(n c:Nat)(ds:List Day)(D:Bl p a n ds)(H:Nat)(q1:Nat×Nat)(M:p H=some (.cells #[.J size,.J start,.slice a n c] T1 q1))(k:Nat)(O:k<n):Dc prog md p 249 #[.J (k:Nat),w_ H 0] (.J (ds.getD k dz).hi):=by
 refine xlq func249 fun K=>?_;refine ro_y rfl (y_lp rfl (by show Au p ((((adr a).add (k*3)).add 0).add 1)=_;rw[xws];exact D.hi O)) ?_;exact K.q rfl
def K6(H bD:Nat)(ds:List Day)(h:Heap):Prop:=∃w X,Ab 240 3 w (dcs ds) X/\(ds.length=0->X=[])/\h[bD]?=some (.cells #[w] 232 (0,0))/\ ∀x∈X,h[x.1]?=some x.2/\H<=x.1
theorem xbg{H:Nat}{h':Heap}(k:As h h')(x:K6 H bD ds h):K6 H bD ds h':=by
 obtain⟨w,X,o,h0,V,M⟩:=x;exact⟨w,X,o,h0,(k.C3 _ (xex V)).trans V,fun x O=>⟨(k.C3 _ (xex (M x O).1)).trans (M x O).1,(M x O).2⟩⟩
def Mb(H bD M:Nat)(d e:List Day)(k:Nat)(h:Heap):Prop:=if k=0 then K6 H bD d h else K6 H M e h
theorem xn9{H O:Nat}{e:List Day}(k:Nat)(h h':Heap)(V:As h h')(x:Mb H bD O d e k h):Mb H bD O d e k h':=by
 unfold Mb at x⊢;split at x
 ·rename_i M;rw[if_pos M];exact xbg V x
 ·rename_i M;rw[if_neg M];exact xbg V x
instance{H:Heap}:Stb (fun h=>As H h):=⟨fun _ _ a b=>a.trans b⟩
theorem yr4(md:Md)(bW bD bY bO:Nat)(zY zO:Nat×Nat)(size start:Int){a:Option Addr}(n c:Nat)(ds:List Day)(D:Bl p a n ds)(hn:n<=40)(h1:rv.cells=#[rv])(rain:Nat->Int)
 (hY:p bY=some (.cells #[.J size,.J start,.slice a n c] 31 zY))(hO:p bO=some (.cells #[w_ bD 0,rv] 286 zO))(hs:0<=size/\size<=60/\0<=start)(hd:∀i,i<n->0<=(ds.getD i dz).want/\(ds.getD i dz).want<=200)(H:∀i,i<n->0<=rain i/\rain i<=20)
 (hr:∀(p':Aa),PLe p p'-> ∀h i,Per p' h->i<n->Ay prog md rv [.J ((i:Nat):Int)] h fun v h'=>v=.J (rain i)/\As h h')(a4:St h [bD] p h [(bD,.cells #[.slice none 0 0] 232 (0,0))])
 (K:∀tm td h' w X(A:Pcs)p',Ab 240 3 w (dcs (side size (min start size) (Ag ds) rain n)) X->(n=0->X=[])->St h [bD] p' h' (A++((bD,.cells #[w] 232 (0,0))::(X++[])))->Go.X.Reach prog md (G (FR (B 251 .dfd) tm [dcall 252 #[w_ bW 0]] td) (zq::cs)) h' Stop):
 Go.X.Reach prog md (G (Frame.enter prog 251 #[w_ bW 0,w_ bY 0,w_ bO 0] .deferred) (zq::cs)) h Stop:=by
 refine P3 (LL:=[[(bD,.cells #[.slice none 0 0] 232 (0,0))]]) a4 func251 ?_;refine ax ?_;refine yyw rfl ?_;refine lq fun b1=>?_;refine cpq (ye0 size start n c h1) ?_;rintro _ p2 g2 ⟨b3,bR,T1,T2,rfl,a9,hR⟩;have D2:Bl p2 a n ds:=Sl.mono g2.le D;have a7:=g2.le _ _ hO;refine ax ?_;refine xfk (LL':=[[(b1,.cells #[.J 0] 3 (0,0))],[(bD,.cells #[.slice none 0 0] 232 (0,0))],[]]) ?_ (fun h s=>s);refine xy4 (fun i L=>∃(sm:Int)(w:Value)(V:Pcs),L=[[(b1,.cells #[.J sm] 3 (0,0))],[(bD,.cells #[w] 232 (0,0))],V]/\Ab 240 3 w (dcs (side size (min start size) (Ag ds) rain i)) V/\sm=sumTo (ovr size (min start size) (Ag ds) rain) i/\(i=0->V=[])) rfl (ywg D2 hn rain a9 hR hs hd H (fun p' le h pe i hi=>hr p' (g2.le.trans le) h i pe hi)).c ⟨0,_,[],rfl,Ab.empty _ _,rfl,fun _=>rfl⟩ ?_ ?_ rfl ?_
 ·intro lo lp i _ p' C b0 a8 a5 hi le ⟨sm,w,V,e,o1,M,O⟩ a6 nx;subst e;rw[List.length_map,List.length_range]at hi;have e:((List.range n).map (M5 size (min start size) (Ag ds) rain)).getD i []=M5 size (min start size) (Ag ds) rain i:=by simp[List.getD_eq_getElem?_getD,hi]
  rw[e];have a2:=xlt (size:=size) (start:=min start size) (want:=Ag ds) (rain:=rain) (n:=n) ⟨om,om⟩ (fun i hi=>(hd i hi).1) H i om;have b6:=xk0 (size:=size) (start:=min start size) (want:=Ag ds) (rain:=rain) (n:=n) ⟨om,om⟩ (fun i hi=>(hd i hi).1) H hi;rw[<- M]at a2;have b4:=le _ _ a7;show RE _ _ ((11,none,.agg #[.J (lev size (min start size) (Ag ds) rain (i+1)),.J (Cist.Al size (min start size) (Ag ds) rain i),.J (ovr size (min start size) (Ag ds) rain i)])::_) _ _;refine lq fun b5=>?_;refine ax ?_;dsimp only at nx⊢;refine xqr a6 ?_;refine ax ?_;refine xb5 [7,8] R9 V ?_;refine ex ?_;refine xjk rfl rfl fun v2 Y2 o2=>?_;refine xk9 rfl rfl rfl o1 o2 (xt2 rfl) (by rw[Aj,B5];have:(chs 3 1 [Value.J 0,.J 0,.J 0]).length=1:=rfl;simp only[List.length_cons,List.length_nil,chs];omega) fun v3 Y3 o3=>?_;have o3:=o3.as (show _=dcs (side size (min start size) (Ag ds) rain (i+1)) by rw[xts,<- M];rfl);obtain⟨a3,c3,rfl,_⟩:=o3.val;refine ex ?_;exact bkq (nx [] _ ⟨_,_,Y3,rfl,o3,by rw[sumTo,<- M],om⟩)
 ·rintro r _ ⟨sm,w,V,e,o1,_,O⟩;subst e;rw[List.length_map,List.length_range]at o1 O;dsimp only;refine ax ?_;exact yib fun tm td h' s=>K _ _ _ _ _ [_,_] _ o1 O s
 ·intro i hi;rw[List.length_map,List.length_range]at hi;simp[List.getD_eq_getElem?_getD,hi,M5]
theorem xbr{V:Heap}{pp q8 bW bY bO:Nat}{size start:Int}{a:Option Addr}{c:Nat}(D:Bl (Hp V) a n ds)(hn:n<=40)(g:FuncId)(rain:Nat->Int)
 (a3:V[bD]?=some (.cells #[.slice none 0 0] 232 (0,0)))(hY:HC V bY #[.J size,.J start,.slice a n c] 31)(hO:HC V bO #[w_ bD 0,.func (.func g) #[] #[w_ bY 0]] 286)
 (a4:bY≠bD/\bO≠bD)(c1:0<n->(adr a).block≠bD)(hs:0<=size/\size<=60/\0<=start)(hd:∀i,i<n->0<=(ds.getD i dz).want/\(ds.getD i dz).want<=200)(b7:∀i,i<n->0<=rain i/\rain i<=20)
 (hr:∀(p:Aa)(z:Nat×Nat),Bl p a n ds->p bY=some (.cells #[.J size,.J start,.slice a n c] 31 z)-> ∀h i,Per p h->i<n->
  Ay prog (.own false) (.func (.func g) #[] #[w_ bY 0]) [.J ((i:Nat):Int)] h fun v h'=>v=.J (rain i)/\As h h')
 (b9:∀h,K6 V.size bD (side size (min start size) (Ag ds) rain n) h->Φ h):
 Go.X.Reach prog (.own false) (born prog {target:=.fn (.func 251) #[w_ bW 0,w_ bY 0,w_ bO 0],args:=#[]}) V (Fk prog ⟨284,bW,S,z9,Z,pp,q8⟩ Φ):=by
 refine xo9 (Φ:=fun h=>As V h) func251 k_ k_ (fun h hk=>?_) V (.refl _);have a8:h[bD]?=some (.cells #[.slice none 0 0] 232 (0,0)):=(hk.C3 _ (xex a3)).trans a3;obtain⟨zY,b3⟩:=hY.C3 hk;obtain⟨zO,b8⟩:=hO.C3 hk
 let p:Aa:=fun b=>if b=bD then none else h[b]?
 have a9:p bY=some (.cells #[.J size,.J start,.slice a n c] 31 zY):=by simp only[p,if_neg a4.1];exact b3
 have c2:p bO=some (.cells #[w_ bD 0,.func (.func g) #[] #[w_ bY 0]] 286 zO):=by simp only[p,if_neg a4.2];exact b8
 have Dp:Bl p a n ds:=by
  refine⟨Sl.len D,Sl.wid D,Sl.ne D,fun i e hi j v hj=>?_⟩;have hx:=(xnn hk).cell (Sl.get D i e hi j v hj);have b5:0<n:=by have:=(List.getElem?_eq_some_iff.1 hi).1;have:=Sl.len D;omega
  have a5:(((adr a).add (i*3)).add j).block≠bD:=by rw[xug,xug];exact c1 b5
  unfold Au at hx⊢;simp only[p,if_neg a5];exact hx
 have a6:St h [bD] p h [(bD,.cells #[.slice none 0 0] 232 (0,0))]:=by
  refine⟨fun _ _ _=>rfl,Nat.le_refl _,fun b o e=>?_,fun x hx=>?_,s_⟩
  ·simp only[p]at e;split at e
   ·cases e
   ·exact e
  ·obtain rfl:=List.mem_singleton.1 hx;exact⟨a8,by simp[p],.inr s_⟩
 refine yr4 (.own false) bW bD bY bO zY zO size start n c ds Dp hn rfl rain a9 c2 hs hd b7 (fun p' le H i b6 hi=>hr p' zY (Sl.mono le Dp) (le _ _ a9) H i b6 hi) a6 fun tm td H w X A p' o h0 O=>?_;refine yyh (Φ:=fun M=>As H M) Tryz.Mv func251 rfl (fun ge b4 M b0=>xnk ⟨b4,b9 M (xbg b0 ⟨w,X,o,fun e=>h0 (by rw[B5]at e;exact e),?_,fun x hx=>?_⟩)⟩) H (.refl _)
 ·exact(O.own (bD,.cells #[w] 232 (0,0)) s_).1
 ·obtain⟨h1,h2,h3⟩:=O.own x (by simp[hx]);refine⟨h1,Nat.le_trans hk.size (h3.resolve_right fun hm=>?_)⟩;have a7:=O.nod;rw[List.map_append,List.nodup_append]at a7;have a2:=a7.2.1;simp only[List.map_cons,List.nodup_cons]at a2;refine a2.1 ?_;have e:x.1=bD:=by simpa using hm
  rw[<- e];exact List.mem_map.2 ⟨x,by simp[hx],rfl⟩
theorem ytl{X:Pcs}(o:Ab 240 3 w (dcs ds) X)(hn:0<ds.length)(V:∀x∈X,h[x.1]?=some x.2):∃b o',X=[(b,o')]/\Exc h b:=by
 have M:(dcs ds).length=ds.length:=Aj ds;obtain⟨hw,⟨_,h0,_⟩|⟨b,cs,cap,O,_,rfl,H,hlen,_⟩⟩:=o
 ·rw[h0]at M;simp at M;omega
 ·refine⟨b,_,rfl,cs.toArray,240,V (b,.cells cs.toArray 240 (0,0)) s_,?_⟩;have:(dcs ds).flatten.length=(dcs ds).length*3:=xhq hw;simp only[List.size_toArray,H,List.length_append];omega
theorem xj5{X:Pcs}(o:Ab 240 3 w (dcs ds) X)(M:ds.length=0->X=[])(H:∀x∈X,h[x.1]?=some x.2):(∀x∈X,Exc h x.1)/\(X.map (·.1)).Nodup:=by
 by_cases e:ds.length=0
 ·rw[M e];simp
 ·obtain⟨b,V,rfl,ex⟩:=ytl o om H;exact⟨fun x O=>by rw[List.mem_singleton.1 O];exact ex,s_⟩
theorem yiv{zj he:Heap}{p8:Aa}{L:Pcs}{q q8 bW bE:Nat}{e:List Day}(V:St h [] p8 zj L)(le:PLe p p8)(a7:h.size<=bW/\h.size<=bD/\h.size<=bE)(c1:bD<zj.size/\bE<zj.size)(b5:bD≠bE)
 (hp:p8 bW=none/\p8 bD=none/\p8 bE=none)(J:Joined ⟨284,bW,S,zj,[bD,bE],q,q8⟩ (Mb zj.size bD bE d e) hw he):
 ∃w1 w2 X1 X2,Ab 240 3 w1 (dcs d) X1/\Ab 240 3 w2 (dcs e) X2/\St h [] p he (([(bD,.cells #[w1] 232 (0,0)),(bE,.cells #[w2] 232 (0,0))]:Pcs)++(X1++(X2++[]))):=by
 obtain⟨J1,J2,J3,J4⟩:=J;obtain⟨w1,X1,o1,b6,a6,a3⟩:=(J3 0 om).1;obtain⟨w2,X2,o2,b7,a9,a5⟩:K6 zj.size bE e (hw 1):=(J3 1 om).1;have j0:=fun b H=>((J3 0 om).2 b H).1;have j1:=fun b H=>((J3 1 om).2 b H).1;obtain⟨b0,b9⟩:=xj5 o1 b6 fun x M=>(a3 x M).1;obtain⟨a8,b3⟩:=xj5 o2 b7 fun x M=>(a5 x M).1;have old:∀b,b<zj.size->b≠bW->b≠bD->b≠bE->he[b]?=zj[b]?:=fun b h1 h2 h3 h4=>J2 b ⟨h1,h2,by simp[h3,h4]⟩;have b4:=(j0 bD (Exc.of a6 s_)).trans a6;have b8:=(j1 bE (Exc.of a9 s_)).trans a9;simp only at J1;have c2:h.size<=zj.size:=V.size;have a2:∀b,zj.size<=b->p b=none:=fun b H=>by
  cases a4:p b with
  |none=>rfl
  |some o=>exact absurd (xex (V.per _ _ (le _ _ a4))) (Nat.not_lt.2 H)
 have pn:∀b,p8 b=none->p b=none:=fun b H=>by
  cases a4:p b with
  |none=>rfl
  |some o=>rw[le _ _ a4]at H;cases H
 refine⟨w1,w2,_,_,o1,o2,⟨fun b H _=>(old b om om om om).trans (V.C3 b H s_),om,fun b o H=>?_,fun x M=>?_,?_⟩⟩
 ·have O:=le _ _ H;have:=V.per _ _ O;refine(old b (xex this) ?_ ?_ ?_).trans this
  ·rintro rfl;rw[hp.1]at O;cases O
  ·rintro rfl;rw[hp.2.1]at O;cases O
  ·rintro rfl;rw[hp.2.2]at O;cases O
 ·simp only[List.append_nil,List.cons_append,List.nil_append,List.mem_cons,List.mem_append]at M;rcases M with rfl|rfl|M|M
  ·exact⟨b4,pn _ hp.2.1,.inl a7.2.1⟩
  ·exact⟨b8,pn _ hp.2.2,.inl a7.2.2⟩
  ·have h1:=a3 x M;exact⟨(j0 _ (b0 x M)).trans h1.1,a2 _ h1.2,.inl om⟩
  ·have h1:=a5 x M;exact⟨(j1 _ (a8 x M)).trans h1.1,a2 _ h1.2,.inl om⟩
 ·have m1:∀b,b∈X1.map (·.1)->zj.size<=b:=fun b H=>by obtain⟨x,M,rfl⟩:=List.mem_map.1 H;exact(a3 x M).2
  have m2:∀b,b∈X2.map (·.1)->zj.size<=b:=fun b H=>by obtain⟨x,M,rfl⟩:=List.mem_map.1 H;exact(a5 x M).2
  simp only[List.append_nil,List.cons_append,List.nil_append,List.map_cons,List.map_append,List.nodup_cons,List.mem_cons,List.mem_append,not_or];refine⟨⟨b5,fun H=>by have:=m1 _ H;omega,fun H=>by have:=m2 _ H;omega⟩,⟨fun H=>by have:=m1 _ H;omega,fun H=>by have:=m2 _ H;omega⟩,List.nodup_append.2 ⟨b9,b3,?_⟩⟩;intro b H c hc e;subst e;obtain⟨x,M,e1⟩:=List.mem_map.1 H;obtain⟨y,hy,e2⟩:=List.mem_map.1 hc;exact J4 b (e1 ▸ b0 x M) (e2 ▸ a8 y hy)
theorem yl0(size start:Int){a:Option Addr}(n c:Nat)(ds:List Day)(D:Bl p a n ds)(hn:n<=40)(hs:0<=size/\size<=60/\0<=start)(hd:∀i,i<n->0<=(ds.getD i dz).want/\(ds.getD i dz).want<=200)(e3:∀i,i<n->0<=C7 ds i/\C7 ds i<=20)(d9:∀i,i<n->0<=Lg ds i/\Lg ds i<=20):Nc prog (.main true) p 209 #[.agg #[.J size,.J start,.slice a n c]] (fun v Y=>(∃w1 w2 X1 X2,v=.tuple #[w1,w2]/\Ab 240 3 w1 (dcs (side size (min start size) (Ag ds) (C7 ds) n)) X1/\Ab 240 3 w2 (dcs (side size (min start size) (Ag ds) (Lg ds) n)) X2/\Y=X1++X2)):=by
 intro h hp;refine xez hp func209 fun zq cs Stop K=>?_;refine bq fun b1=>?_;refine xbx fun b2=>?_;refine xbx fun M=>?_;refine lq fun b4=>?_;refine ax ?_;refine xtx rfl fun v5 Y5 o5=>?_;refine xhx o5 (m:=2) rfl d_ fun p8 a9 f3 e4 ev a6=>?_;intro a6;subst ev;have b5:=e4.le;refine ax ?_;refine yhb ?_;refine ax ?_;refine xjx rfl (fun _=>?_) (fun cc=>absurd om cc);refine ax ?_;refine ro_y rfl (xlk rfl (a6.get 0 _ rfl)) ?_;refine xbx fun e6=>?_;refine ax ?_;refine ydg (L:=Tryz.link) Tryz.Mv rfl k_ fun ge gb c3 a3 h1 H1=>?_;have d6:=H1.own _ (List.mem_of_getElem? (i:=4) rfl);have O:=H1.own _ (List.mem_of_getElem? (i:=3) rfl);have V:=H1.own _ (List.mem_of_getElem? (i:=2) rfl);have a5:=H1.own _ (List.mem_of_getElem? (i:=1) rfl);have b6:=H1.own _ (List.mem_of_getElem? (i:=0) rfl);simp only at d6 O V a5 b6;have e5:=H1.nod;simp only[List.flatten_cons,List.flatten_nil,List.append_nil,List.cons_append,List.nil_append,List.map_cons,List.map_nil,List.nodup_cons,List.mem_cons,List.not_mem_nil,or_false,not_or,not_false_eq_true,List.nodup_nil,and_true]at e5;have D1:=D.mono b5;have e9:0<n->(adr a).block≠b4:=xzb D1 om a5.2.1;have c8:0<n->(adr a).block≠b2:=xzb D1 om O.2.1;have c9:0<n->(adr a).block≠M:=xzb D1 om V.2.1;have e7:(adr a9).block≠b4:=xzb a6 om a5.2.1 s_;have f1:(adr a9).block≠b2:=xzb a6 om O.2.1 s_;have f7:(adr a9).block≠M:=xzb a6 om V.2.1 s_;have e0:=xex O.1;have f0:=xex V.1
 refine xi2 (Ψ:=Mb h1.size b2 M (side size (min start size) (Ag ds) (C7 ds) n) (side size (min start size) (Ag ds) (Lg ds) n))
  (Kon:=fun gb=>gb.status=.running/\ ∀he w1 w2 X1 X2,Ab 240 3 w1 (dcs (side size (min start size) (Ag ds) (C7 ds) n)) X1->Ab 240 3 w2 (dcs (side size (min start size) (Ag ds) (Lg ds) n)) X2->St h [] p he ([[(b2,.cells #[w1] 232 (0,0))],[(M,.cells #[w2] 232 (0,0))],X1,X2]:List Pcs).flatten->Go.X.Reach prog (.main true) gb he Stop)
  284 b4 [b2,M] a5.1 ?_ xn9 (fun _ e_=>e_.1) (fun S_ q_ b7=>?_) (fun S_ q_ b7 f5 d5 f4 f6 e1=>?_)
 ·intro b_ H;simp only[List.mem_cons,List.not_mem_nil,or_false]at H;rcases H with H|H<;>rw[H]
  ·exact Exc.of O.1 (by show 0<1;decide)
  ·exact Exc.of V.1 (by show 0<1;decide)
 ·refine⟨gb,c3,fun h2 k2=>?_⟩;have Db:Bl (Hp (Dn [b4] [b2,M] h1)) a n ds:=xjp D1 H1.per fun h_=>xbj (e9 h_);have Lb:=xjp (A:=[b4]) (K:=[b2,M]) a6 H1.per fun _=>xbj e7;have Yb:HC (Dn [b4] [b2,M] h1) b1 _ _:=HC.cut ⟨_,d6.1⟩ (xbj om);have Ob:HC (Dn [b4] [b2,M] h1) e6 _ _:=HC.cut ⟨_,b6.1⟩ (xbj om);have Wb:(Dn [b4] [b2,M] h1)[b2]?=_:=xbf O.1 (xbj om) s_;have Eb:(Dn [b4] [b2,M] h1)[M]?=_:=xbf V.1 (xbj om) s_;have zb:(Dn [b4] [b2,M] h1).size=h1.size:=xsb;generalize Dn [b4] [b2,M] h1=hb at*;refine a3 _ _ hb [] (Hp hb) [] h2 ?_ ((St.start hb _ (fun _ _ e_=>e_)).call k2);dsimp only;refine ax ?_;refine yhr rfl rfl fun ga gn a4 a7 a3 h3 H3=>xnk ⟨a4,gn,_,[b2],[M],a7,?_,?_,fun h4 k4=>⟨?_,?_⟩⟩
  ·intro b_ H;rw[List.mem_singleton.1 H];exact(Exc.of Wb (by show 0<1;decide)).stay H3.kept
  ·intro b_ H;rw[List.mem_singleton.1 H];exact(Exc.of Eb (by show 0<1;decide)).stay H3.kept
  ·have kk:As hb h4:=H3.kept.trans k4;refine xbr (xjp (Sl.mono (xnn kk) Db) xn7 fun h_=>xbj (c9 h_)) hn 248 (C7 ds) (xbf ((kk.C3 _ (xex Wb)).trans Wb) (xbj om) s_) ((Yb.C3 kk).cut (xbj om)) ((Ob.C3 kk).cut (xbj om)) ⟨om,om⟩ c8 hs hd e3 (fun p_ z_ D_ c6 h_ i_ b8 b9=>xgq (first:=[]) (cap:=[w_ b1 0]) k_ (yt4 (.own false) size start n c ds D_ b1 z_ c6 i_ b9 h_ b8)) fun h_ x_=>?_;obtain⟨w_,X_,o_,c4,H,b0⟩:=x_;exact⟨w_,X_,o_,c4,H,fun x_ a8=>⟨(b0 x_ a8).1,by have:=(b0 x_ a8).2;rw[xsb]at this;have:=kk.size;omega⟩⟩
  have kk:As hb h4:=H3.kept.trans k4;have Dc:Bl (Hp (Dn [b2] [M] h4)) a n ds:=xjp (Sl.mono (xnn kk) Db) xn7 fun h_=>xbj (c8 h_);have Lc:=xjp (A:=[b2]) (K:=[M]) (Sl.mono (xnn kk) Lb) xn7 fun _=>xbj f1;have Yc:HC (Dn [b2] [M] h4) b1 _ _:=(Yb.C3 kk).cut (xbj om);have Ec:(Dn [b2] [M] h4)[M]?=_:=xbf ((kk.C3 _ (xex Eb)).trans Eb) (xbj om) s_;have zc:h1.size<=(Dn [b2] [M] h4).size:=by rw[xsb];have:=kk.size;omega
  refine a3 _ _ (Dn [b2] [M] h4) [] (Hp (Dn [b2] [M] h4)) [] _ ?_ (St.start _ _ (fun _ _ e_=>e_));generalize Dn [b2] [M] h4=hc at*;dsimp only;refine ax ?_;refine xnp ?_;refine ax ?_;refine xjx rfl (fun _=>?_) (fun cc=>absurd om cc);refine ax ?_;refine ro_y rfl (xlk rfl (Lc.get 1 _ rfl)) ?_;refine xbx fun d0=>?_;refine ax ?_;refine ydg (L:=Tryz.link) Tryz.Mv rfl k_ fun ge gb c3 a3 h5 H5=>xnk ⟨gb,c3,fun h6 k6=>?_⟩;refine a3 _ _ hc [] (Hp hc) _ h6 ?_ (H5.call k6);dsimp only;refine ax ?_;refine yhr rfl rfl fun ga gn a4 a7 a3 h7 H7=>xnk ⟨a4,gn,_,[M],[],a7,?_,(fun _ H=>by cases H),fun h8 k8=>⟨?_,?_⟩⟩
  ·intro b_ H;rw[List.mem_singleton.1 H];exact(Exc.of Ec (by show 0<1;decide)).stay H7.kept
  ·have kk:As hc h8:=H7.kept.trans k8;have O_:=(H7.own _ (List.mem_of_getElem? (i:=0) rfl))
   simp only at O_;have Oc:HC h8 d0 _ _:=HC.C3 ⟨_,O_.1⟩ k8;have f2:=xex Ec;have c5:d0≠M:=by have:=O_.2.2.resolve_right s_;omega
   refine xbr (xjp (Sl.mono (xnn kk) Dc) xn7 fun _=>by simp) hn 249 (Lg ds) (xbf ((kk.C3 _ (xex Ec)).trans Ec) s_ s_) ((Yc.C3 kk).cut s_) (Oc.cut s_) ⟨om,c5⟩ c9 hs hd d9 (fun p_ z_ D_ c6 h_ i_ b8 b9=>xgq (first:=[]) (cap:=[w_ b1 0]) k_ (ys4 (.own false) size start n c ds D_ b1 z_ c6 i_ b9 h_ b8)) fun h_ x_=>?_;obtain⟨w_,X_,o_,c4,H,b0⟩:=x_;exact⟨w_,X_,o_,c4,H,fun x_ a8=>⟨(b0 x_ a8).1,by have:=(b0 x_ a8).2;rw[xsb]at this;have:=kk.size;omega⟩⟩
  refine a3 _ _ (Dn [M] [] h8) [] (Hp (Dn [M] [] h8)) [] _ ?_ (St.start _ _ (fun _ _ e_=>e_));dsimp only;refine ax ?_;refine xnp ?_;refine ax ?_;refine xjx rfl (fun cc=>absurd cc om) (fun _=>?_);refine ax ?_;refine ybl (L:=Tryz.link) Tryz.Mv rfl k_ fun ge gb An d8 e2 e8 d7 c7 h9 H9=>xnk ⟨gb,An,⟨d8,e2,d7,fun he w1 w2 X1 X2 o1 o2 HS=>?_⟩,e8⟩;refine c7 (.main true) Stop h [] p _ he ?_ HS;dsimp only;obtain⟨a1,c1,rfl,_⟩:=o1.val;obtain⟨a2,c2,rfl,_⟩:=o2.val;refine ax ?_;refine xbz func209 rfl (xe0 rfl (xe0 rfl .nil)) ?_;exact fun h_ H_=>K _ _ ⟨X1++X2,⟨_,_,X1,X2,rfl,o1,o2,rfl⟩,El (LL:=[X1++X2]) (H_.sub s_)⟩
 ·obtain⟨w1,w2,X1,X2,o1,o2,HS⟩:=yiv H1 b5 ⟨a5.2.2.resolve_right s_,O.2.2.resolve_right s_,V.2.2.resolve_right s_⟩ ⟨e0,f0⟩ om ⟨a5.2.1,O.2.1,V.2.1⟩ e1;exact d5.2 _ w1 w2 X1 X2 o1 o2 (by simpa using HS)
end Go.Proofs.YtadndcpcjmmngaaGreatDoor
namespace Go.X.Cist
def Le(size start:Int)(ds:List Day):Int:=Flow.Cp (fun d=>decide (0<d.hi)) (side size (min start size) (Ag ds) (C7 ds) ds.length)
def Gp(size start:Int)(ds:List Day):Int×Int:=if Ok size start ds then(if Le size start ds<0 then 0 else Le size start ds,if Le size start ds<0 then 3 else 0)else(0,100)
def Hh(size start:Int)(ds:List Day)(H:Int):(Int×Int)×Int:=
 if Kj size start ds (decide (Dx ds H))=0 then((lev size (min start size) (Ag ds) (C7 ds) (H.toNat+1),lev size (min start size) (Ag ds) (Lg ds) (H.toNat+1)),0)else((0,0),Kj size start ds (decide (Dx ds H)))
theorem Ok.both{size start:Int}{ds:List Day}(O:Ok size start ds){n:Nat}(hn:ds.length=n):(0<=size/\size<=60/\0<=start)/\(∀i,i<n->0<=(ds.getD i dz).want/\(ds.getD i dz).want<=200)/\(∀i,i<n->0<=C7 ds i/\C7 ds i<=20)/\ ∀i,i<n->0<=Lg ds i/\Lg ds i<=20:=by
 have d:=O.dok;refine⟨⟨O.1,O.2.1,O.2.2.1⟩,fun i hi=>(d i om).2,fun i hi=>?_,fun i hi=>?_⟩
 ·have z:=(d i om).1;unfold C7;omega
 ·have z:=(d i om).1;unfold Lg;omega
end Go.X.Cist
namespace Go.Proofs.YtadndcpcjmmngaaGreatDoor
open Go.Proofs.Tryz
open Go.X Go.X.Cist Go.Conc
variable{ds:List Day}{n:Nat}{p:Aa}
theorem yp7{size start:Int}{a:Option Addr}{c:Nat}(D:Bl p a n ds)(hn:n<=40):Dc prog (.main true) p 128 #[.agg #[.J size,.J start,.slice a n c]] (.tuple #[.J (Gp size start ds).1,.J (Gp size start ds).2]):=by
 have hl:=D.len;refine xkq func128 fun K b1=>?_;refine ax ?_;refine xrx rfl rfl (cf51 size start n c ds D om) ?_;refine cq (fun cc=>?_) (fun cc=>?_)
 ·have M:¬ Ok size start ds:=fun e=>cc (Ei e);refine K.q ?_;rw[Gp,if_neg M,Hu M];rfl
 have O:Ok size start ds:=A7.1 (Classical.not_not.1 cc);obtain⟨h1,h2,h3,h4⟩:=O.both hl;refine coq (yl0 size start n c ds D hn h1 h2 h3 h4) ?_;rintro _ _ ⟨w1,w2,X1,X2,rfl,o1,o2,rfl⟩;refine xbc X1 X2 ?_;refine xhx o1 (m:=n) (by rw[Aj,B5]) d_ fun p' a1 H g ev a2 S=>?_;subst ev;refine ax ?_;refine xrx rfl rfl (fun _ V=>yr5 V (.func (.func 212) #[] #[]) n H S om (fun d=>decide (0<d.hi)) (fun h_ V i hi=>xgq (first:=[]) (cap:=[]) k_ (yk0 _ V))) ?_;refine cdq ys5 ?_;refine K.q ?_;rw[Gp,if_pos O,Le,hl];rfl
theorem yh7{size start:Int}{a:Option Addr}{c:Nat}(D:Bl p a n ds)(hn:n<=40)(H:Int):Dc prog (.main true) p 136 #[.agg #[.J size,.J start,.slice a n c],.J H] (.tuple #[.agg #[.J (Hh size start ds H).1.1,.J (Hh size start ds H).1.2],.J (Hh size start ds H).2]):=by
 intro h hp;have hl:=D.len;refine xez hp func136 fun _ _ _ K=>?_;refine bq fun b2=>?_;refine lq fun b4=>?_;refine drq [] R5 ?_;refine xxk rfl rfl rfl rfl trivial (yh0 size start n c om H) ?_;refine ex ?_;have eD:decide (0<=H/\H<=(n:Int)-1)=decide (Dx ds H):=decide_eq_decide.2 (by unfold Dx;omega);rw[eD];refine xxk rfl rfl rfl rfl trivial (yi0 size start n c ds D om (decide (Dx ds H))) ?_;refine ex ?_;refine cq (fun cc=>?_) (fun cc=>?_)
 ·refine ax ?_;refine xbz func136 rfl (xoq rfl (.tmp rfl .nil)) ?_;exact fun _ H_=>K _ _ ⟨by rw[Hh,if_neg cc];rfl,H_.kept⟩
 have c0:=Classical.not_not.1 cc;have O:Ok size start ds:=Classical.byContradiction fun z=>by rw[Kj,if_neg z]at c0;omega
 have M:Dx ds H:=Classical.byContradiction fun z=>by rw[Kj,if_pos O,decide_eq_false z]at c0;simp at c0
 obtain⟨h1,h2,h3,h4⟩:=O.both hl;have a7:0<=H/\H<n:=by unfold Dx at M;omega
 refine coq (yl0 size start n c ds D hn h1 h2 h3 h4) ?_;rintro _ _ ⟨w1,w2,X1,X2,rfl,o1,o2,rfl⟩;refine xbc X1 X2 ?_;refine xhx o1 (m:=n) (by rw[Aj,B5]) d_ fun p1 a1 a6 g1 ev a3 V=>?_;subst ev;refine xhx o2 (m:=n) (by rw[Aj,B5]) d_ fun p2 a2 a5 g2 ev a4 S2=>?_;subst ev;have V:=Sl.mono g2.le V;have e1:=V.get H.toNat _ (K1 (by rw[B5];omega)) 0 _ rfl;have e2:=S2.get H.toNat _ (K1 (by rw[B5];omega)) 0 _ rfl;rw[yxq om]at e1 e2;refine drq [] R10 ?_;refine de_y rfl rfl (xpc rfl rfl om om (Sl.ne V om)) ?_;refine ex ?_;refine de_y rfl rfl (y_lp rfl (by rw[xws];rw[xws]at e1;exact e1)) ?_;refine ex ?_;refine de_y rfl rfl (xpc rfl rfl om om (Sl.ne S2 om)) ?_;refine ex ?_;refine de_y rfl rfl (y_lp rfl (by rw[xws];rw[xws]at e2;exact e2)) ?_;refine xa ?_;refine xbz func136 rfl (xoq rfl (.tmp rfl .nil)) ?_;exact fun _ H_=>K _ _ ⟨by rw[Hh,if_pos c0];rfl,H_.kept⟩
end Go.Proofs.YtadndcpcjmmngaaGreatDoor
