/-
  Part of proofs about a town's master: a calculus for Be beside goroutines that are only leaving, and the Be. No condition.
-/
import Derived.Test.YtblcmdjhidhnjaaGreatDoorGK
import Derived.Test.YtblcmdjhidhnjaaGreatDoorGT
set_option maxRecDepth 20000
set_option synthInstance.maxSize 2000
namespace Go.X.Cist
open Go.Conc
structure Day where
 lo:Int
 hi:Int
 want:Int
 deriving DecidableEq,Inhabited
def Day.cells(d:Day):List Value:=[.J d.lo,.J d.hi,.J d.want]
def dz:Day:=⟨0,0,0⟩
def dcs(ds:List Day):List (List Value):=ds.map Day.cells
def Ba(p:Ab)(a:Option Addr)(n:Nat)(ds:List Day):Prop:=Sl p a n 3 (dcs ds)
section
variable{p p':Ab}{a:Option Addr}{n k:Nat}{ds:List Day}
theorem Ba.len(s:Ba p a n ds):ds.length=n:=by have:=Sl.len s;simpa[dcs]using this
theorem Ba.mono(H:PLe p p')(s:Ba p a n ds):Ba p' a n ds:=Sl.mono H s
theorem Ba.ne(s:Ba p a n ds)(H:0<n):a=some (adr a):=Sl.ne s H
theorem Ba.at(s:Ba p a n ds)(H:k<n){j:Nat}{v:Value}(hv:(ds.getD k dz).cells[j]?=some v):At p (((adr a).add (k*3)).add j)=some v:=by
 have M:=s.len;refine Sl.get s k (ds.getD k dz).cells ?_ j v hv;rw[dcs,List.getElem?_map,List.getD_eq_getElem?_getD,List.getElem?_eq_getElem om];rfl
theorem Ba.lo(s:Ba p a n ds)(H:k<n):At p ((adr a).add (k*3))=some (.J (ds.getD k dz).lo):=s.at H (j:=0) rfl
theorem Ba.hi(s:Ba p a n ds)(H:k<n):At p (((adr a).add (k*3)).add 1)=some (.J (ds.getD k dz).hi):=s.at H (j:=1) rfl
theorem Ba.want(s:Ba p a n ds)(H:k<n):At p (((adr a).add (k*3)).add 2)=some (.J (ds.getD k dz).want):=s.at H (j:=2) rfl
theorem Ba.all(s:Ba p a n ds)(H:k<n):∀j v,[Value.J (ds.getD k dz).lo,.J (ds.getD k dz).hi,.J (ds.getD k dz).want][j]?=some v->At p (((adr a).add (k*3)).add j)=some v:=fun _ _ hv=>s.at H hv
theorem Dm(ds:List Day):∀u∈(dcs ds).flatten,A7 u=true:=by
 intro u H;rw[List.mem_flatten]at H;obtain⟨l,M,H⟩:=H;obtain⟨x,_,rfl⟩:=List.mem_map.1 M;simp[Day.cells]at H;rcases H with rfl|rfl|rfl<;>rfl
theorem Aj(ds:List Day):(dcs ds).length=ds.length:=by simp[dcs]
end
def C7(d:Day):Prop:=0<=d.lo/\d.lo<=20/\d.lo<=d.hi/\d.hi<=20/\0<=d.want/\d.want<=20
instance(d:Day):Decidable (C7 d):=by unfold C7;infer_instance
def Ok(size start:Int)(ds:List Day):Prop:=0<=size/\size<=60/\0<=start/\start<=size/\ds.length<=8/\ ∀i,i<ds.length->C7 (ds.getD i dz)
instance(a b:Int)(ds:List Day):Decidable (Ok a b ds):=by unfold Ok;infer_instance
def Df(ds:List Day)(n:Int):Prop:=0<=n/\n<ds.length
instance(ds:List Day)(n:Int):Decidable (Df ds n):=by unfold Df;infer_instance
def lev(size start:Int)(want rain:Nat->Int):Nat->Int
 |0=>start
 |i+1=>lev size start want rain i+rain i-max 0 (lev size start want rain i+rain i-size)-(want i-max 0 (want i-(lev size start want rain i+rain i-max 0 (lev size start want rain i+rain i-size))))
def ovr(size start:Int)(want rain:Nat->Int)(i:Nat):Int:=max 0 (lev size start want rain i+rain i-size)
def Au(size start:Int)(want rain:Nat->Int)(i:Nat):Int:=max 0 (want i-(lev size start want rain i+rain i-ovr size start want rain i))
def sumTo(f:Nat->Int):Nat->Int
 |0=>0
 |k+1=>sumTo f k+f k
def chk(size start:Int)(ds:List Day):Int:=if Ok size start ds then 0 else 100
def Kg(size start:Int)(ds:List Day)(b:Bool):Int:=if Ok size start ds then(if b=true then 0 else 1)else 100
theorem Fg{size start:Int}{ds:List Day}(h:Ok size start ds):chk size start ds=0:=if_pos h
theorem Hi{size start:Int}{ds:List Day}(h:¬ Ok size start ds):chk size start ds=100:=if_neg h
theorem Bu{size start:Int}{ds:List Day}:chk size start ds=0<->Ok size start ds:=by
 unfold chk;split<;>simp_all
theorem La{ds:List Day}{k:Nat}(h:∀i,i<k->C7 (ds.getD i dz))(e:C7 (ds.getD k dz)):∀i,i<k+1->C7 (ds.getD i dz):=fun i hi=>by
 by_cases c:i=k
 ·subst c;exact e
 ·exact h i om
def Ak(ds:List Day)(i:Nat):Int:=(ds.getD i dz).want
theorem yjw{size start:Int}{want rain:Nat->Int}{k:Nat}(h:0<=lev size start want rain k/\lev size start want rain k<=size)(hw:0<=want k):
 0<=lev size start want rain (k+1)/\lev size start want rain (k+1)<=size:=by simp only[lev];omega
theorem Cw{size start:Int}{want rain:Nat->Int}{n:Nat}(hs:0<=start/\start<=size)(h:∀i,i<n->0<=want i):∀k,k<=n->0<=lev size start want rain k/\lev size start want rain k<=size
 |0,_=>hs
 |k+1,hk=>yjw (Cw hs h k om) (h k om)
def Fo(ds:List Day)(i:Nat):Int:=(ds.getD i dz).lo
def K8(ds:List Day)(i:Nat):Int:=(ds.getD i dz).hi
def Cn(size start:Int)(ds:List Day):Prop:=∀i,i<ds.length-> ¬ 0<Au size (min start size) (Ak ds) (Fo ds) i
instance(size start:Int)(ds:List Day):Decidable (Cn size start ds):=by unfold Cn;infer_instance
theorem ygx{P:Nat->Prop}{k:Nat}(h:∀i,i<k-> ¬ P i)(e:¬ P k):∀i,i<k+1-> ¬ P i:=fun i hi=>by
 by_cases c:i=k
 ·subst c;exact e
 ·exact h i om
def Dok(ds:List Day):Prop:=∀i,i<ds.length->(0<=(ds.getD i dz).lo/\(ds.getD i dz).lo<=(ds.getD i dz).hi/\(ds.getD i dz).hi<=20)/\0<=(ds.getD i dz).want/\(ds.getD i dz).want<=200
theorem Ok.dok{size start:Int}{ds:List Day}(h:Ok size start ds):Dok ds:=fun i hi=>by have:=h.2.2.2.2.2 i hi;unfold C7 at this;omega
def By(ds:List Day)(i:Nat)(w:Int):List Day:=ds.set i {ds.getD i dz with want:=w}
theorem Ls{ds:List Day}{i:Nat}{w:Int}:(dcs ds).set i ((ds.getD i dz).cells.set 2 (.J w))=dcs (By ds i w):=by
 simp only[dcs,By,List.map_set];rfl
theorem Kt{ds:List Day}{i:Nat}(h:i<ds.length):(dcs ds)[i]?=some (ds.getD i dz).cells:=by
 rw[dcs,List.getElem?_map,List.getD_eq_getElem?_getD,List.getElem?_eq_getElem h];rfl
def Hd(wf:Nat->Int->Int)(ds:List Day)(k:Nat):List Day:=(List.range ds.length).map fun i=>if i<k then {ds.getD i dz with want:=wf i (ds.getD i dz).want}else ds.getD i dz
def Gp(wf:Nat->Int->Int)(ds:List Day):List Day:=Hd wf ds ds.length
theorem Bl(wf:Nat->Int->Int)(ds:List Day)(k:Nat):(Hd wf ds k).length=ds.length:=by simp[Hd]
theorem xck{wf:Nat->Int->Int}{ds:List Day}{k i:Nat}(h:i<ds.length):(Hd wf ds k).getD i dz=if i<k then {ds.getD i dz with want:=wf i (ds.getD i dz).want}else ds.getD i dz:=by
 simp[Hd,List.getD_eq_getElem?_getD,h]
theorem Hj(wf:Nat->Int->Int)(ds:List Day):Hd wf ds 0=ds:=by
 refine xff (d:=dz) (Bl _ _ _) fun i hi=>?_;rw[Bl]at hi;rw[xck hi,if_neg om]
theorem xb8{wf:Nat->Int->Int}{ds:List Day}{k:Nat}(h:k<ds.length):By (Hd wf ds k) k (wf k (ds.getD k dz).want)=Hd wf ds (k+1):=by
 refine xff (d:=dz) (by simp[By,Bl]) fun i hi=>?_;have H:i<ds.length:=by simpa[By,Bl]using hi
 rw[xck H];unfold By;rw[List.getD_eq_getElem?_getD,List.getElem?_set];by_cases e:k=i
 ·subst e;rw[if_pos rfl,if_pos (by rw[Bl];exact h),if_pos om,xck h,if_neg om];rfl
 ·rw[if_neg e,<- List.getD_eq_getElem?_getD,xck H];by_cases c:i<k
  ·rw[if_pos c,if_pos om]
  ·rw[if_neg c,if_neg om]
theorem B0(wf:Nat->Int->Int)(ds:List Day):(Gp wf ds).length=ds.length:=Bl _ _ _
theorem xmb{wf:Nat->Int->Int}{ds:List Day}{i:Nat}(h:i<ds.length):(Gp wf ds).getD i dz={ds.getD i dz with want:=wf i (ds.getD i dz).want}:=by
 unfold Gp;rw[xck h,if_pos h]
theorem E9{wf:Nat->Int->Int}{ds:List Day}{k:Nat}(h:k<ds.length):(dcs (Hd wf ds k))[k]?=some [.J (ds.getD k dz).lo,.J (ds.getD k dz).hi,.J (ds.getD k dz).want]:=by
 rw[Kt (by rw[Bl];exact h),xck h,if_neg om];rfl
theorem G9{wf:Nat->Int->Int}{ds:List Day}{k:Nat}(h:k<ds.length):
 (dcs (Hd wf ds k)).set k ([Value.J (ds.getD k dz).lo,.J (ds.getD k dz).hi,.J (ds.getD k dz).want].set 2 (.J (wf k (ds.getD k dz).want)))=dcs (Hd wf ds (k+1)):=by
 rw[<- xb8 h,<- Ls,xck h,if_neg om];rfl
theorem xo5{wf:Nat->Int->Int}{ds:List Day}(h:Dok ds)(hw:∀i,i<ds.length->0<=wf i (ds.getD i dz).want/\wf i (ds.getD i dz).want<=200):Dok (Gp wf ds):=fun i hi=>by
 rw[B0]at hi;rw[xmb hi];exact⟨(h i hi).1,hw i hi⟩
def Bj(n:Int)(ds:List Day):List Day:=Gp (fun _ w=>min w n) ds
def B8(size start:Int)(ds:List Day):Nat->Int
 |0=>0
 |k+1=>if Cn size start (Bj ((k+1:Nat):Int) ds)then((k+1:Nat):Int)else B8 size start ds k
theorem xz6{size start:Int}{want rain:Nat->Int}{n:Nat}(hs:0<=start/\start<=size)(h:∀i,i<n->0<=want i)(k:Nat)(H:k<=n):0<=lev size start want rain k:=(Cw hs h k H).1
theorem xb7{size start:Int}{ds:List Day}(hs:0<=size/\0<=start)(M:Dok ds):Cn size start (Bj 0 ds):=by
 intro i hi;unfold Bj at hi;rw[B0]at hi;have hw:∀j,j<ds.length->Ak (Bj 0 ds) j=0:=fun j H=>by
  unfold Ak Bj;rw[xmb H];have:=(M j H).2;show min (ds.getD j dz).want 0=0;omega
 have O:=xz6 (size:=size) (start:=min start size) (want:=Ak (Bj 0 ds)) (rain:=Fo (Bj 0 ds)) (n:=ds.length) ⟨om,om⟩ (fun j H=>by rw[hw j H];exact Int.le_refl _) i om;have V:0<=Fo (Bj 0 ds) i:=by unfold Fo Bj;rw[xmb hi];exact(M i hi).1.1
 unfold Au ovr;rw[hw i hi];omega
theorem yrn{size start:Int}{ds:List Day}{k:Nat}(h:Cn size start (Bj (k:Nat) ds)):B8 size start ds k=k:=by
 cases k with
 |zero=>rfl
 |succ k=>unfold B8;rw[if_pos h]
theorem ysv{size start:Int}{ds:List Day}{k:Nat}(hs:0<=size/\0<=start)(H:Dok ds)(h:¬ Cn size start (Bj (k:Nat) ds)):0<k/\B8 size start ds k=B8 size start ds (k-1):=by
 cases k with
 |zero=>exact absurd (xb7 hs H) h
 |succ k=>exact⟨om,by rw[Nat.add_sub_cancel];show(if _ then _ else _)=_;rw[if_neg h]⟩
def Kl(q:Nat->Bool):Nat->Nat->Option Nat
 |_,0=>none
 |k,f+1=>if q k=true then some k else Kl q (k+1) f
theorem xq2{q:Nat->Bool}{k n:Nat}(H:k<n)(h:q k=true):Kl q k (n-k)=some k:=by
 rw[show n-k=(n-k-1)+1 from by omega];unfold Kl;rw[if_pos h]
theorem xgs{q:Nat->Bool}{k n:Nat}(H:k<n)(h:q k=false):Kl q k (n-k)=Kl q (k+1) (n-(k+1)):=by
 rw[show n-k=(n-(k+1))+1 from by omega];conv=>lhs;unfold Kl
 rw[if_neg (by rw[h];simp)]
theorem yik{q:Nat->Bool}{k n:Nat}(H:n<=k):Kl q k (n-k)=none:=by
 rw[show n-k=0 from by omega];rfl
def found:Option Nat->Int×Int
 |some k=>((k:Nat),0)
 |none=>(0,3)
def Gm(size start:Int)(ds:List Day):Int×Int:=if Ok size start ds then found (Kl (fun k=>decide (Cn (k:Nat) start ds)) 0 61)else(0,100)
def C5(M H:Int)(i:Nat)(w:Int):Int:=if((i:Nat):Int)=M then w+H else w
def wanted(M H:Int)(ds:List Day):List Day:=Gp (C5 M H) ds
def Pm(size start:Int)(ds:List Day)(H:Int):Option Nat:=Kl (fun k=>decide (¬ Cn size start (wanted H ((k:Nat)+1) ds))) 0 100
theorem xtm{size start H:Int}{ds:List Day}{M:Int}(hs:0<=size/\size<=60/\0<=start)(hd:Dok ds)(O:Df ds H)(hm:60<M):¬ Cn size start (wanted H M ds):=by
 intro hl;obtain⟨h0,h1⟩:=O;have hi:H.toNat<ds.length:=om;have hlen:(wanted H M ds).length=ds.length:=B0 _ _;have:=hl H.toNat (by rw[hlen];exact hi);have hw:Ak (wanted H M ds) H.toNat=(ds.getD H.toNat dz).want+M:=by
  unfold Ak wanted;rw[xmb hi];show C5 H M H.toNat _=_;unfold C5;rw[if_pos om]
 have V:∀i,i<ds.length->0<=Ak (wanted H M ds) i:=fun i hi=>by
  unfold Ak wanted;rw[xmb hi];show 0<=C5 H M i _;have:=(hd i hi).2.1;unfold C5;split<;>omega
 have hb:=Cw (size:=size) (start:=min start size) (want:=Ak (wanted H M ds)) (rain:=Fo (wanted H M ds)) (n:=ds.length) ⟨om,om⟩ V H.toNat om;have h2:=(hd H.toNat hi).2.1;unfold Au ovr at this;rw[hw]at this;omega
def Cy(size start:Int)(ds:List Day)(H:Int):Int×Int:=
 if Kg size start ds (decide (Df ds H))=0 then(if Cn size start ds then found (Pm size start ds H)else(0,3))else(0,Kg size start ds (decide (Df ds H)))
def cnt(ds:List Day):Nat->Int
 |0=>1
 |k+1=>cnt ds k*(K8 ds k-Fo ds k+1)
def Em(d:Day):Bool:=!decide (C7 d)
theorem xas{a:Addr}:a.add 0=a:=by unfold Addr.add;cases a.spot<;>simp
open Go.X
def Kf(size start:Int)(want rain:Nat->Int)(i:Nat):Day:=⟨lev size start want rain (i+1),Au size start want rain i,sumTo (ovr size start want rain) (i+1)⟩
def side(size start:Int)(want rain:Nat->Int)(k:Nat):List Day:=(List.range k).map (Kf size start want rain)
theorem B2{size start:Int}{want rain:Nat->Int}{k:Nat}:(side size start want rain k).length=k:=by simp[side]
theorem xw8{size start:Int}{want rain:Nat->Int}{k i:Nat}(h:i<k):(side size start want rain k).getD i dz=Kf size start want rain i:=by
 simp[side,List.getD_eq_getElem?_getD,h]
theorem xxr(size start:Int)(want rain:Nat->Int)(k:Nat):dcs (side size start want rain (k+1))=
 dcs (side size start want rain k)++[[.J (lev size start want rain (k+1)),.J (Au size start want rain k),.J (sumTo (ovr size start want rain) k+ovr size start want rain k)]]:=by
 simp[side,dcs,List.range_succ,Kf,Day.cells,sumTo]
theorem xit{size start:Int}{want rain:Nat->Int}{n:Nat}(hs:0<=start/\start<=size)(hw:∀i,i<n->0<=want i)(H:∀i,i<n->0<=rain i/\rain i<=20){i:Nat}(hi:i<n):0<=ovr size start want rain i/\ovr size start want rain i<=20:=by
 have:=Cw (rain:=rain) hs hw i om;have:=H i hi;unfold ovr;omega
theorem xjs{size start:Int}{want rain:Nat->Int}{n:Nat}(hs:0<=start/\start<=size)(hw:∀i,i<n->0<=want i)(H:∀i,i<n->0<=rain i/\rain i<=20):∀k,k<=n->0<=sumTo (ovr size start want rain) k/\sumTo (ovr size start want rain) k<=20*k
 |0,_=>by simp[sumTo]
 |k+1,hk=>by
   have:=xjs hs hw H k om;have:=xit (i:=k) hs hw H om;simp only[sumTo];omega
end Go.X.Cist
namespace Go.Proofs.YtblcmdjhidhnjaaGreatDoor
open Go.Proofs.Tryz
open Go.X Go.X.Cist Go.Conc
open Go.X.Flow (C2 Cu Cs Dn C3)
section
variable{h:Heap}{md:Md}{p:Ab}
theorem c79(M:Per p h){n lo hi:Int}:Aa prog md 79 #[.J n,.J lo,.J hi] h fun v O=>v=.bool (decide (lo<=n/\n<=hi))/\Af h O:=by
 refine xex M func79 fun _ _ _ K=>?_;refine aw ?_;exact K.r rfl rfl fun _ H=>⟨congrArg _ (bpe Iff.rfl),H.kept⟩
theorem c78(O:Per p h)(d:Day):Aa prog md 78 #[.agg #[.J d.lo,.J d.hi,.J d.want]] h fun v V=>v=.bool (Em d)/\Af h V:=by
 refine xfz O func78 fun _ _ _ K=>?_;refine bq fun b1=>?_;refine ax ?_;refine xiq rfl rfl (fun _ H=>c79 H) ?_;refine ax ?_;refine xfx rfl rfl rfl sdu (fun _ _ H=>c79 H) ?_;refine ax ?_;refine xfx rfl rfl rfl sdu (fun _ _ H=>c79 H) ?_;refine ax ?_;refine xxq func78 rfl rfl fun _ M=>K _ _ ⟨?_,M.kept⟩;refine congrArg Value.bool ?_;unfold Em;rw[Bool.eq_iff_iff];simp only[Bool.or_eq_true,Bool.not_eq_true',decide_eq_false_iff_not];unfold C7;omega
theorem Vl(hp:Per p h)(fv:Value){a:Option Addr}{n c:Nat}(xs:List Day)(S:Ba p a n xs)(hn:n<=2^40)(q:Day->Bool)
 (hf:∀h,Per p h-> ∀i,i<n->Az prog md fv [.agg #[.J (xs.getD i dz).lo,.J (xs.getD i dz).hi,.J (xs.getD i dz).want]] h fun v V=>v=.bool (q (xs.getD i dz))/\Af h V):
 Aa prog md 163 #[.slice a n c,fv] h fun v V=>v=.J (C2 q xs)/\Af h V:=by
 have hl:=S.len;refine xdq hp func163 fun _ _ _ K=>?_;refine xsq (fun m l=>∃j:Nat,m=n-j/\l=[(0,none,.slice a n c),(1,none,fv),(7,none,.J n),(8,none,.J j)]/\j<=n/\ ∀i,i<j->q (xs.getD i dz)=false) ⟨0,rfl,rfl,Nat.zero_le _,om⟩ sb ?_;rintro _ _ IH ⟨j,rfl,rfl,hj,h1⟩;refine cq (fun cc=>?_) (fun cc=>?_)
 ·refine ax ?_;refine xfk rfl (S.all om) ?_;refine xsm rfl rfl (fun M pe=>hf M pe j om) ?_;refine cq (fun O=>?_) (fun O=>?_)
  ·refine ax ?_;exact K.r rfl rfl fun M H=>⟨by rw[Cu (z:=dz) (k:=j) om O h1];rfl,H.kept⟩
  ·refine ax ?_;exact xhq (IH _ om ⟨j+1,rfl,rfl,om,C3 h1 (by simpa using O)⟩)
 refine ax ?_;exact K.r rfl rfl fun M H=>⟨by rw[Cs (z:=dz) (fun i hi=>h1 i om)];rfl,H.kept⟩
theorem c80(V:Per p h){M:Value}{a:Option Addr}{n c:Nat}(xs:List Day)(S:Ba p a n xs)(hn:n<=2^40)(q:Day->Bool)
 (hf:∀h,Per p h-> ∀i,i<n->Az prog md M [.agg #[.J (xs.getD i dz).lo,.J (xs.getD i dz).hi,.J (xs.getD i dz).want]] h fun v H=>v=.bool (q (xs.getD i dz))/\Af h H):
 Aa prog md 80 #[.slice a n c,M] h fun v H=>v=.bool (decide (0<=C2 q xs))/\Af h H:=by
 refine xdq V func80 fun _ _ _ K=>?_;refine xiq rfl rfl (fun _ pe=>Vl pe M xs S hn q hf) ?_;refine ax ?_;exact K.r rfl rfl fun _ O=>⟨rfl,O.kept⟩
theorem Qi(M:Per p h)(size start:Int){a:Option Addr}(n c:Nat)(hn:n<=2^40)(x:Int):
 Aa prog md 194 #[.agg #[.J size,.J start,.slice a n c],.J x] h fun v O=>v=.bool (decide (0<=x/\x<=(n:Int)-1))/\Af h O:=by
 refine xdq M func194 fun _ _ _ K=>?_;refine xgq rfl fun b1=>?_;refine ax ?_;refine xiq rfl rfl (fun _ V=>c79 V) ?_;refine ax ?_;exact K.r rfl rfl fun _ H=>⟨rfl,H.kept⟩
theorem c41(hp:Per p h)(size start:Int){a:Option Addr}(n c:Nat)(ds:List Day)(D:Ba p a n ds)(hn:n<=2^40):
 Aa prog md 41 #[.agg #[.J size,.J start,.slice a n c]] h fun v h'=>v=.J (chk size start ds)/\Af h h':=by
 have hl:=D.len;refine xdq hp func41 fun _ _ _ K=>?_;refine xgq rfl fun b1=>?_;refine ax ?_;refine xiq rfl rfl (fun _ M=>c79 M) ?_;refine ax ?_;refine xfx rfl rfl rfl sdu (fun _ _ M=>c79 M) ?_;refine ax ?_;refine xfx rfl rfl rfl sdu (fun _ _ M=>c80 M ds D hn Em (fun h_ M i hi=>xkq k_ (c78 M (ds.getD i dz)))) ?_;refine ax ?_;have key:(0<=C2 Em ds)<-> ¬ ∀i,i<ds.length->C7 (ds.getD i dz):=by
  rw[Dn];constructor
  ·rintro⟨z,hz,y⟩ H;obtain⟨i,hi,rfl⟩:=List.mem_iff_getElem.1 hz;have:=H i hi;rw[List.getD_eq_getElem?_getD,List.getElem?_eq_getElem hi]at this;simp only[Em,Bool.not_eq_true',decide_eq_false_iff_not]at y;exact y this
  ·intro H;apply Classical.byContradiction;intro z;apply H;intro i hi;apply Classical.byContradiction;intro y;apply z;rw[List.getD_eq_getElem?_getD,List.getElem?_eq_getElem hi]at y;exact⟨ds[i],List.getElem_mem hi,by simpa[Em]using y⟩
 refine xlq rfl (fun cc=>?_) (fun cc=>?_)
 ·have a2:¬ Ok size start ds:=fun e=>by
   unfold Ok at e;obtain⟨e1,e2,e3,e4,e5,e6⟩:=e;have k:¬ 0<=C2 Em ds:=fun z=>key.1 z e6;omega
  refine ax ?_;exact K.r rfl rfl fun h_ V=>⟨by rw[Hi a2];rfl,V.kept⟩
 ·have O:Ok size start ds:=by
   have k:∀i,i<ds.length->C7 (ds.getD i dz):=Classical.byContradiction fun z=>cc (.inr (key.2 z));unfold Ok;exact⟨om,om,om,om,om,k⟩
  refine ax ?_;exact K.r rfl rfl fun h_ V=>⟨by rw[Fg O];rfl,V.kept⟩
theorem Qc(hp:Per p h)(size start:Int){a:Option Addr}(n c:Nat)(ds:List Day)(D:Ba p a n ds)(hn:n<=2^40)(b:Bool):
 Aa prog md 193 #[.agg #[.J size,.J start,.slice a n c],.bool b] h fun v h'=>v=.J (Kg size start ds b)/\Af h h':=by
 refine xdq hp func193 fun _ _ _ K=>?_;refine xgq rfl fun b1=>?_;refine ax ?_;refine xiq rfl rfl (fun _ pe=>c41 pe size start n c ds D hn) ?_;refine cq (fun V=>?_) (fun V=>?_)
 ·have O:¬ Ok size start ds:=fun e=>V (Fg e);refine ax ?_;exact K.r rfl rfl fun _ M=>⟨by rw[Kg,if_neg O,Hi O];rfl,M.kept⟩
 have H:Ok size start ds:=Bu.1 (Classical.not_not.1 V);refine cq (fun cd=>?_) (fun cd=>?_)
 ·refine ax ?_;exact K.r rfl rfl fun _ M=>⟨by rw[Kg,if_pos H,if_neg cd];rfl,M.kept⟩
 refine ax ?_;exact K.r rfl rfl fun _ M=>⟨by rw[Kg,if_pos H,if_pos (Classical.not_not.1 cd)];rfl,M.kept⟩
end
theorem c294{md:Md}{h z9:Heap}{zz:List Nat}{p:Ab}{V:Pcs}(b:Nat)(z:Int){l:Int}(n:Int)(hz:0<=z/\z<=1000/\0<=l/\l<=1000/\0<=n/\n<=1000){T:TypeId}
 (H:St z9 zz p h ([(b,.cells #[.J z,.J l] T (0,0))]++V)):
 Aa prog md 294 #[w_ b 0,.J n] h fun v h'=>∃O,(v=.J (max 0 (l+n-z))/\O=[(b,.cells #[.J z,.J (l+n-max 0 (l+n-z))] T (0,0))])/\St z9 zz p h' (O++V):=by
 refine xkj H func294 fun _ _ _ K=>?_;refine ax ?_;refine xqq [] R8 ?_;refine ex ?_;refine ax ?_;exact xxq func294 rfl rfl fun _ M=>K _ _ ⟨_,⟨rfl,rfl⟩,by simp only[List.flatten_cons,List.flatten_nil,List.append_nil]at M;exact M⟩
theorem Ug{md:Md}{h z9:Heap}{zz:List Nat}{p:Ab}{V:Pcs}(b:Nat)(z:Int){l:Int}(n:Int)(hz:0<=z/\z<=1000/\0<=l/\l<=1000/\0<=n/\n<=1000){T:TypeId}
 (H:St z9 zz p h ([(b,.cells #[.J z,.J l] T (0,0))]++V)):
 Aa prog md 295 #[w_ b 0,.J n] h fun v h'=>∃O,(v=.J (n-min n l)/\O=[(b,.cells #[.J z,.J (l-min n l)] T (0,0))])/\St z9 zz p h' (O++V):=by
 refine xkj H func295 fun _ _ _ K=>?_;refine ax ?_;exact xxq func295 rfl rfl fun _ M=>K _ _ ⟨_,⟨rfl,rfl⟩,by simp only[List.flatten_cons,List.flatten_nil,List.append_nil]at M;exact M⟩
set_option maxHeartbeats 2000000 in
theorem Wa{md:Md}{h z9:Heap}{zz:List Nat}{p:Ab}{q7 zx:Pcs}(yv rv:Value)(bY bR:Nat)(size start:Int){a:Option Addr}(n c:Nat)(ds:List Day)(D:Ba p a n ds)(hn:n<=40)(rain:Nat->Int){T1 T2:TypeId}{q1 q2:Nat×Nat}
 (a7:p bY=some (.cells #[.J size,.J start,.slice a n c] T1 q1))(a8:p bR=some (.cells #[rv] T2 q2))(hs:0<=size/\size<=60/\0<=start)(hd:∀i,i<n->0<=(ds.getD i dz).want/\(ds.getD i dz).want<=200)(a3:∀i,i<n->0<=rain i/\rain i<=20)
 (hr:∀h,Per p h-> ∀i:Nat,i<n->Az prog md rv [.J (i:Nat)] h fun v h'=>v=.J (rain i)/\Af h h')(I:Nat->Pcs->Prop)(J:Pcs->Prop)(a2:I 0 q7)
 (hy:∀i:Nat,i<n-> ∀h X C,I i X->St z9 zz p h (X++C)->Az prog md yv [.J (i:Nat),.agg #[.J (lev size (min start size) (Ak ds) rain (i+1)),.J (Au size (min start size) (Ak ds) rain i),.J (ovr size (min start size) (Ak ds) rain i)]] h
  fun v h'=>∃H,((v=.bool true/\I (i+1) H)\/(v=.bool false/\J H))/\St z9 zz p h' (H++C))(V:St z9 zz p h (q7++zx)):
 Aa prog md 293 #[yv,w_ bY 0,w_ bR 0] h fun _ h'=>∃H,(I n H\/J H)/\St z9 zz p h' (H++zx):=by
 have hl:=D.len;refine xkj V func293 fun _ _ _ K=>?_;refine lq fun M=>?_;refine ax ?_;refine xmq (fun m_ l p_ L_=>∃(k:Nat)(Z:Pcs),m_=n-k/\l=[(0,none,yv),(1,none,w_ bY 0),(2,none,w_ bR 0),(4,none,w_ M 0),(18,none,.slice a n c),(19,none,.J (n:Nat)),(20,none,.J (k:Nat))]/\p_=p/\L_=[[(M,.cells #[.J size,.J (lev size (min start size) (Ak ds) rain k)] 318 (0,0))],Z,zx]/\k<=n/\I k Z) ⟨0,q7,rfl,rfl,rfl,rfl,Nat.zero_le _,a2⟩ sb ?_;rintro _ _ p _ IH ⟨k,Z,rfl,rfl,rfl,rfl,hk,hI⟩;refine cq (fun cc=>?_) (fun cc=>?_)
 ·have a5:=Cw (want:=Ak ds) (rain:=rain) (size:=size) (start:=min start size) (n:=n) ⟨om,om⟩ (fun i hi=>(hd i hi).1) k hk;have a9:=hd k om;have a6:=a3 k om;refine ax ?_;refine xfk rfl (D.all om) ?_;refine xyq fun b6=>?_;refine ax ?_;refine xsm rfl rfl (fun _ pe=>hr _ pe k om) ?_;refine xjl [(M,.cells #[.J size,.J (lev size (min start size) (Ak ds) rain k)] 318 (0,0))] rfl rfl (fun h C s=>c294 M size (rain k) om s) ?_;rintro _ _ ⟨rfl,rfl⟩;refine ax ?_;refine xjl [(M,.cells #[.J size,.J (lev size (min start size) (Ak ds) rain k+rain k-max 0 (lev size (min start size) (Ak ds) rain k+rain k-size))] 318 (0,0))] rfl rfl (fun h C s=>Ug M size (ds.getD k dz).want om s) ?_;rintro _ _ ⟨rfl,rfl⟩;refine ax ?_;have e1:lev size (min start size) (Ak ds) rain k+rain k-max 0 (lev size (min start size) (Ak ds) rain k+rain k-size)-min (ds.getD k dz).want (lev size (min start size) (Ak ds) rain k+rain k-max 0 (lev size (min start size) (Ak ds) rain k+rain k-size))=lev size (min start size) (Ak ds) rain (k+1):=by
   simp only[lev,Ak];omega
  have e2:(ds.getD k dz).want-min (ds.getD k dz).want (lev size (min start size) (Ak ds) rain k+rain k-max 0 (lev size (min start size) (Ak ds) rain k+rain k-size))=Au size (min start size) (Ak ds) rain k:=by
   simp only[Au,ovr,Ak];omega
  refine ywc Z rfl rfl (Q:=fun v Z'=>(v=.bool true/\I (k+1) Z')\/(v=.bool false/\J Z')) (fun h C s=>?_) ?_
  ·have y:=hy k om h Z C hI s;rw[<- e1,<- e2]at y;exact y
  rw[e1];rintro _ Z1 (⟨rfl,a4⟩|⟨rfl,hJ⟩)
  ·refine ax ?_;refine xlq rfl (fun O=>absurd O s_) (fun O=>?_);refine ax ?_;exact xhq (IH _ _ _ om ⟨k+1,Z1,rfl,rfl,rfl,rfl,om,a4⟩)
  ·refine ax ?_;refine xlq rfl (fun O=>?_) (fun O=>absurd s_ O);exact xxq func293 rfl rfl fun _ H_=>K _ _ ⟨Z1,.inr hJ,xfg H_⟩
 obtain rfl:k=n:=om;refine ax ?_;exact xrb (f:=293) rfl rfl fun _ H_=>K _ _ ⟨Z,.inl hI,xfg H_⟩
section
variable{h:Heap}{md:Md}{a:Option Addr}
theorem Qf{p:Ab}(hp:Per p h)(size start:Int)(n c:Nat){H:Value}(h1:H.cells=#[H]):
 Aa prog md 245 #[.agg #[.J size,.J start,.slice a n c],H] h fun v h'=>Ar p h (fun v p'=>∃(b1 b2:Nat)(M O:TypeId),v=.func (.func 293) #[] #[w_ b1 0,w_ b2 0]/\p' b1=some (.cells #[.J size,.J start,.slice a n c] M (0,0))/\p' b2=some (.cells #[H] O (0,0))) v h':=by
 refine xdq hp func245 fun _ _ _ K=>?_;refine xgq rfl fun b1=>?_;refine bq fun b2=>?_;rw[h1];refine xx0 (b:=b1) fun p1 g1 k1=>?_;refine xx0 (b:=b2) fun p2 V k2=>?_;refine ax ?_;exact K.r rfl rfl fun _ H_=>(xwq (p:=p) (p':=p2) (Q:=fun v p'=>∃(b1 b2:Nat)(M O:TypeId),v=.func (.func 293) #[] #[w_ b1 0,w_ b2 0]/\p' b1=some (.cells #[.J size,.J start,.slice a n c] M (0,0))/\p' b2=some (.cells #[H] O (0,0))) H_ (g1.trans V) ⟨b1,b2,_,_,rfl,V.le _ _ k1,k2⟩)
theorem Um{p:Ab}(hp:Per p h)(size start:Int)(n c:Nat)(ds:List Day)(D:Ba p a n ds)(H:Nat){T1:TypeId}{O:Nat×Nat}(a2:p H=some (.cells #[.J size,.J start,.slice a n c] T1 O))(k:Nat)(hk:k<n):
 Aa prog md 248 #[.J (k:Nat),w_ H 0] h fun v V=>v=.J (ds.getD k dz).lo/\Af h V:=by
 refine xdq hp func248 fun _ _ _ K=>?_;refine xoz rfl (by show At p ((((adr a).add (k*3)).add 0).add 0)=_;rw[xas,xas];exact D.lo hk) ?_;refine ax ?_;exact K.r rfl rfl fun _ M=>⟨rfl,M.kept⟩
theorem Qh{p:Ab}(M:Per p h){l k o:Int}:Aa prog md 189 #[.agg #[.J l,.J k,.J o]] h fun v O=>v=.bool (decide (0<k))/\Af h O:=by
 refine xdq M func189 fun _ _ _ K=>?_;refine xgq rfl fun b1=>?_;refine ax ?_;exact K.r rfl rfl fun _ H=>⟨rfl,H.kept⟩
theorem V7{p:Ab}(O:Per p h){n:Int}:Aa prog md 187 #[.J n] h fun v V=>v=.tuple #[.J (if n<0 then 0 else n),.J (if n<0 then 3 else 0)]/\Af h V:=by
 refine xdq O func187 fun _ _ _ K=>?_;refine xlq rfl (fun H=>?_) (fun H=>?_)
 ·refine ax ?_;exact K.r rfl rfl fun _ M=>⟨by rw[if_pos H,if_pos H];rfl,M.kept⟩
 ·refine ax ?_;exact K.r rfl rfl fun _ M=>⟨by rw[if_neg H,if_neg H];rfl,M.kept⟩
theorem U3{p:Ab}(M:Per p h)(i:Int){w:Int}(r:Int)(b:Nat){T:TypeId}{q:Nat×Nat}(V:p b=some (.cells #[.J r] T q)):Aa prog md 192 #[.J i,.J w,w_ b 0] h fun v O=>v=.J (min w r)/\Af h O:=by
 refine xdq M func192 fun _ _ _ K=>?_;exact K.r rfl rfl fun _ H=>⟨rfl,H.kept⟩
theorem Uh{p:Ab}(hp:Per p h)(i:Int){w:Int}(d e:Int)(hw:0<=w/\w<=1000/\0<=e/\e<=1000)(b1 b2:Nat){T1 T2:TypeId}{O q2:Nat×Nat}(a2:p b1=some (.cells #[.J d] T1 O))(a3:p b2=some (.cells #[.J e] T2 q2)):
 Aa prog md 195 #[.J i,.J w,w_ b1 0,w_ b2 0] h fun v V=>v=.J (if i=d then w+e+1 else w)/\Af h V:=by
 refine xdq hp func195 fun _ _ _ K=>?_;refine xlq rfl (fun M=>?_) (fun M=>?_)
 ·refine ax ?_;exact K.r rfl rfl fun _ H=>⟨by rw[if_pos M];rfl,H.kept⟩
 ·refine ax ?_;exact K.r rfl rfl fun _ H=>⟨by rw[if_neg M];rfl,H.kept⟩
def Mv(size start:Int)(want rain:Nat->Int)(i:Nat):List Value:=[.J (i:Nat),.agg #[.J (lev size start want rain (i+1)),.J (Cist.Au size start want rain i),.J (ovr size start want rain i)]]
theorem yud{p:Ab}{rv:Value}{M H:Nat}{size start:Int}{n c:Nat}{ds:List Day}(D:Ba p a n ds)(hn:n<=40)(rain:Nat->Int){T1 T2:TypeId}{q1 q2:Nat×Nat}
 (V:p M=some (.cells #[.J size,.J start,.slice a n c] T1 q1))(a2:p H=some (.cells #[rv] T2 q2))(hs:0<=size/\size<=60/\0<=start)(hd:∀i,i<n->0<=(ds.getD i dz).want/\(ds.getD i dz).want<=200)(a3:∀i,i<n->0<=rain i/\rain i<=20)
 (hr:∀p',PLe p p'-> ∀h,Per p' h-> ∀i:Nat,i<n->Az prog md rv [.J (i:Nat)] h fun v h'=>v=.J (rain i)/\Af h h'):
 Mj prog md p (.func (.func 293) #[] #[w_ M 0,w_ H 0]) ((List.range n).map (Mv size (min start size) (Ak ds) rain)):=by
 intro h z9 zz p' q7 zx yv I Ex O h0 hy s;refine xkq (first:=[]) (cap:=[w_ M 0,w_ H 0]) k_ ((Wa yv rv M H size start n c ds (Sl.mono O D) hn rain (O _ _ V) (O _ _ a2) hs hd a3 (hr p' O) I Ex h0 (fun i hi h X C hI s'=>?_) s).mono fun _ _⟨X',q,s'⟩=>⟨X',by rw[List.length_map,List.length_range];exact q,s'⟩);have z:=hy i (by simpa using hi) p' h X C (PLe.refl _) hI s';have e:((List.range n).map (Mv size (min start size) (Ak ds) rain)).getD i []=Mv size (min start size) (Ak ds) rain i:=by simp[List.getD_eq_getElem?_getD,hi]
 rw[e]at z;exact z
theorem O5{p:Ab}(hp:Per p h)(size start:Int)(n c:Nat)(ds:List Day)(D:Ba p a n ds)(hn:n<=40)(hs:0<=size/\size<=60/\0<=start)(hd:Dok ds):
 Aa prog md 190 #[.agg #[.J size,.J start,.slice a n c]] h fun v h'=>v=.bool (decide (Cn size start ds))/\Af h h':=by
 have hl:=D.len;refine xfz hp func190 fun _ _ _ K=>?_;refine bq fun b1=>?_;refine lq fun b2=>?_;refine ax ?_;refine xnw (b:=b1) fun p1 a2 h1=>?_;refine xvx rfl rfl (fun h M=>Qf M size start n c rfl) ?_;rintro _ p2 g2 ⟨bY,bR,T1,T2,rfl,hY,hR⟩;have D2:Ba p2 a n ds:=Sl.mono (a2.trans g2.le) D;have h2:=g2.le _ _ h1;refine ax ?_;refine yoq (fun i L=>L=[[(b2,.cells #[.bool false] 4 (0,0))]]/\ ∀j,j<i-> ¬ 0<Cist.Au size (min start size) (Ak ds) (Fo ds) j) (fun L=>L=[[(b2,.cells #[.bool false] 4 (0,0))]]/\ ¬ Cn size start ds) rfl (yud D2 hn (Fo ds) hY hR hs (fun i hi=>(hd i om).2) (fun i hi=>by have z:=(hd i om).1;show 0<=(ds.getD i dz).lo/\(ds.getD i dz).lo<=20;omega) (fun p' le h M i hi=>xkq (first:=[]) (cap:=[w_ b1 0]) k_ (Um M size start n c ds (Sl.mono le D2) b1 (le _ _ h2) i hi))) ⟨rfl,om⟩ ?_ ?_ ?_ rfl ?_
 ·intro lo lp i _ p' C a5 a3 O hi le ⟨e,H⟩ a4 nx nr;subst e;have e:((List.range n).map (Mv size (min start size) (Ak ds) (Fo ds))).getD i []=Mv size (min start size) (Ak ds) (Fo ds) i:=by
   rw[List.length_map,List.length_range]at hi;simp[List.getD_eq_getElem?_getD,hi]
  rw[e];show RE _ _ ((9,none,.agg #[.J (lev size (min start size) (Ak ds) (Fo ds) (i+1)),.J (Cist.Au size (min start size) (Ak ds) (Fo ds) i),.J (ovr size (min start size) (Ak ds) (Fo ds) i)])::_) _ _;refine lq fun b4=>?_;refine ax ?_;dsimp only at nx nr⊢;refine xzp a4 ?_;refine ax ?_;refine xiq rfl rfl (fun _ M=>Qh M) ?_;refine cq (fun cc=>?_) (fun cc=>?_)
  ·refine ax ?_;rw[List.length_map,List.length_range]at hi;exact xhq (nr _ [] _ ⟨rfl,fun z=>z i om cc⟩)
  ·refine ax ?_;exact xhq (nx [] _ ⟨rfl,ygx H cc⟩)
 ·rintro r _ ⟨e,H⟩;subst e;rw[List.length_map,List.length_range]at H;dsimp only;refine ax ?_;refine xik (LL':=[Cv [r],[(b2,.cells #[.bool true] 4 (0,0))]]) ?_ (fun h s=>by
   refine s.perm ?_;simp only[Cv,List.map_cons,List.map_nil,List.flatten_cons,List.flatten_nil,List.append_nil];exact List.Perm.swap _ _ _)
  exact xxp (rs:=[r]) (vs:=[.bool true]) func190 rfl (xdt rfl .nil) fun _ V=>K _ _ ⟨by rw[decide_eq_true (show Cn size start ds from fun i hi=>H i om)];rfl,V.kept⟩
 ·rintro r _ ⟨e,H⟩;subst e;dsimp only;refine xik (LL':=[Cv [r],[(b2,.cells #[.bool false] 4 (0,0))]]) ?_ (fun h s=>by simpa[Cv]using s);exact xxp (rs:=[r]) (vs:=[.bool false]) func190 rfl (xdt rfl .nil) fun _ V=>K _ _ ⟨by rw[decide_eq_false H];rfl,V.kept⟩
 ·intro i hi;rw[List.length_map,List.length_range]at hi;simp[List.getD_eq_getElem?_getD,hi,Mv]
theorem c54{p:Ab}(hp:Per p h)(n c:Nat)(xs:List Day)(S:Ba p a n xs)(hn:n<=2^20):
 Aa prog md 54 #[.slice a n c] h fun v O=>∃Y,Ac 98 3 v (dcs xs) Y/\New h O Y:=by
 have hl:=S.len;refine xdq hp func54 fun _ _ _ K=>?_;refine xvs rfl ?_;refine cq (fun M=>?_) (fun M=>?_)
 ·refine ax ?_;have e:xs=[]:=by
   by_cases V:0<n
   ·rw[S.ne V]at M;cases M
   ·exact List.eq_nil_of_length_eq_zero om
  subst e;refine xzj 98 3 fun o=>?_;exact K.r rfl rfl fun _ H=>⟨_,o,D6 H⟩
 refine ax ?_;refine xbz rfl fun v Y o=>?_;refine ax ?_;refine xow rfl rfl o S (Dm xs) (by simp[chs];omega) (fun v' Y' o'=>?_);refine ax ?_;exact K.r rfl rfl fun _ H=>⟨_,o',D6 H⟩
theorem Q3{p:Ab}(hp:Per p h)(size start:Int)(n c:Nat)(ds:List Day)(D:Ba p a n ds)(hn:n<=40){V:Value}(wf:Nat->Int->Int)
 (hf:∀h,Per p h-> ∀i:Nat,i<n->Az prog md V [.J (i:Nat),.J (ds.getD i dz).want] h fun v h'=>v=.J (wf i (ds.getD i dz).want)/\Af h h'):
 Aa prog md 191 #[.agg #[.J size,.J start,.slice a n c],V] h fun v h'=>∃Y,(∃w,v=.agg #[.J size,.J start,w]/\Ac 98 3 w (dcs (Gp wf ds)) Y)/\New h h' Y:=by
 have M:=D.len;refine xdq hp func191 fun _ _ _ K=>?_;refine xgq rfl fun b2=>?_;refine lq fun b4=>?_;refine ax ?_;refine xdj rfl rfl (fun _ pe=>c54 pe n c ds D om) ?_;intro v Y o;obtain⟨a5,c5,rfl,-⟩:=o.val;rw[Aj,M]at o⊢;refine ax ?_;refine xmq (fun m_ l p_ L_=>∃(k:Nat)(Y:Pcs),m_=n-k/\l=[(1,none,V),(2,none,w_ b2 0),(4,none,w_ b4 0),(12,none,.J (n:Nat)),(13,none,.J (k:Nat))]/\p_=p/\L_=[[(b2,.cells #[.J size,.J start,.slice a5 n c5] 31 (0,0))],Y,[(b4,.cells #[.J 0,.J 0,.slice none 0 0] 31 (0,0))]]/\k<=n/\Ac 98 3 (.slice a5 n c5) (dcs (Hd wf ds k)) Y) ⟨0,Y,rfl,rfl,rfl,rfl,Nat.zero_le _,by rw[Hj];exact o⟩ sb ?_;clear o;rintro _ _ p _ IH ⟨k,Y,rfl,rfl,rfl,rfl,hk,H⟩;have a2:(dcs (Hd wf ds k)).length=n:=by rw[Aj,Bl,M]
 refine cq (fun cc=>?_) (fun cc=>?_)
 ·refine ax ?_;refine xqq [] R12 ?_;refine ex ?_;refine xlk rfl rfl rfl rfl sdt sdt H om ?_;refine ex ?_;refine xev (q:=2) rfl rfl rfl sdt H rfl (E9 om) rfl ?_;refine ex ?_;refine xu5 rfl rfl rfl sdt rfl sdt (xtx fun h_ pe=>hf h_ pe k om) ?_;refine ex ?_;refine ax ?_;refine xzk rfl rfl H om ?_;refine ax ?_;refine xek (j:=2) rfl rfl H rfl rfl rfl rfl (E9 om) (Nat.le_refl _) fun Y3 O=>?_;have O:=O.as (show _=dcs (Hd wf ds (k+1)) from G9 om);refine ax ?_;exact xhq (IH _ _ _ om ⟨k+1,Y3,rfl,rfl,rfl,rfl,om,O⟩)
 obtain rfl:n=k:=om;refine ax ?_;exact K.e rfl (xtq rfl .nil) fun h_ H_=>⟨Y,⟨.slice a5 n c5,rfl,H.as (by rw[Gp,M])⟩,D6 H_⟩
end
theorem Rh{md:Md}{h:Heap}{p:Ab}(hp:Per p h)(fv:Value){a:Option Addr}{n c:Nat}(xs:List Day)(S:Ba p a n xs)(hn:n<=2^40)(q:Day->Bool)
 (hf:∀h,Per p h-> ∀i,i<n->Az prog md fv [.agg #[.J (xs.getD i dz).lo,.J (xs.getD i dz).hi,.J (xs.getD i dz).want]] h fun v V=>v=.bool (q (xs.getD i dz))/\Af h V):
 Aa prog md 247 #[.slice a n c,fv] h fun v V=>v=.J (C2 q xs)/\Af h V:=by
 have hl:=S.len;refine xdq hp func247 fun _ _ _ K=>?_;refine xsq (fun m l=>∃j:Nat,m=n-j/\l=[(0,none,.slice a n c),(1,none,fv),(7,none,.J n),(8,none,.J j)]/\j<=n/\ ∀i,i<j->q (xs.getD i dz)=false) ⟨0,rfl,rfl,Nat.zero_le _,om⟩ sb ?_;rintro _ _ IH ⟨j,rfl,rfl,hj,h1⟩;refine cq (fun cc=>?_) (fun cc=>?_)
 ·refine ax ?_;refine xfk rfl (S.all om) ?_;refine xsm rfl rfl (fun M pe=>hf M pe j om) ?_;refine cq (fun O=>?_) (fun O=>?_)
  ·refine ax ?_;exact K.r rfl rfl fun M H=>⟨by rw[Cu (z:=dz) (k:=j) om O h1];rfl,H.kept⟩
  ·refine ax ?_;exact xhq (IH _ om ⟨j+1,rfl,rfl,om,C3 h1 (by simpa using O)⟩)
 refine ax ?_;exact K.r rfl rfl fun M H=>⟨by rw[Cs (z:=dz) (fun i hi=>h1 i om)];rfl,H.kept⟩
theorem Vh{md:Md}{h:Heap}{p:Ab}(V:Per p h)(M:Value){a:Option Addr}(n c:Nat){xs:List Day}(S:Ba p a n xs)(hn:n<=2^40)(q:Day->Bool)
 (hf:∀h,Per p h-> ∀i,i<n->Az prog md M [.agg #[.J (xs.getD i dz).lo,.J (xs.getD i dz).hi,.J (xs.getD i dz).want]] h fun v H=>v=.bool (q (xs.getD i dz))/\Af h H):
 Aa prog md 188 #[.slice a n c,M] h fun v H=>v=.J (C2 q xs)/\Af h H:=by
 refine xdq V func188 fun _ _ _ K=>?_;refine xiq rfl rfl (fun _ pe=>Rh pe M xs S hn q hf) ?_;refine ax ?_;exact K.r rfl rfl fun _ O=>⟨rfl,O.kept⟩
section
variable{h:Heap}{ds:List Day}{a:Option Addr}{p:Ab}
theorem Rb{md:Md}(hp:Per p h){size start:Int}{n c:Nat}(D:Ba p a n ds)(hn:n<=40):
 Aa prog md 109 #[.agg #[.J size,.J start,.slice a n c]] h fun v h'=>v=.tuple #[.J (if Ok size start ds then B8 size start ds 20 else 0),.J (chk size start ds)]/\Af h h':=by
 have hl:=D.len;refine xdq hp func109 fun _ _ _ K=>?_;refine xgq rfl fun b1=>?_;refine ax ?_;refine xiq rfl rfl (fun _ pe=>c41 pe size start n c ds D om) ?_;refine cq (fun cc=>?_) (fun cc=>?_)
 ·have a7:¬ Ok size start ds:=fun e=>cc (Fg e);refine ax ?_;exact K.r rfl rfl fun h_ H_=>⟨by rw[if_neg a7];rfl,H_.kept⟩
 have c0:=Classical.not_not.1 cc;have O:Ok size start ds:=Bu.1 c0;have a2:0<=size/\size<=60/\0<=start:=⟨O.1,O.2.1,O.2.2.1⟩
 have a3:=O.dok;refine lq fun b5=>?_;refine xnw (b:=b1) fun p1 a4 h1=>?_;have D:=D.mono a4;refine ax ?_;refine xmq (fun m_ l p_ L_=>∃(k:Nat)(H:Int),m_=k+1/\l=[(1,none,w_ b1 0),(5,none,w_ b5 0)]/\p_=p1/\L_=[[(b5,.cells #[.J H] 3 (0,0))]]/\H=k/\k<=20/\B8 size start ds k=B8 size start ds 20) ⟨20,20,rfl,rfl,rfl,rfl,rfl,Nat.le_refl _,rfl⟩ sb ?_;rintro _ _ p1 _ IH ⟨k,H,rfl,rfl,rfl,rfl,M,hk,hR⟩;refine ax ?_;refine ygg (Q:=fun v Y=>∃w,v=.agg #[.J size,.J start,w]/\Ac 98 3 w (dcs (Bj H ds)) Y) (first:=[]) rfl rfl (fun h s=>xir (Z:=[(b5,.cells #[.J H] 3 (0,0))]) s s_ fun p' a9 le hz=>Q3 a9 size start n c ds (D.mono le) hn (fun _ w=>min w H) (fun h_ pe i hi=>xkq (first:=[]) (cap:=[w_ b5 0]) k_ (U3 pe i H b5 (hz (b5,.cells #[.J H] 3 (0,0)) s_)))) ?_;rintro _ Y ⟨w,rfl,o⟩;refine xpb o (by rw[Aj,Bj,B0,hl]) fun p2 a6 c6 a8 ev D2=>?_;subst ev;have a5:Dok (Bj H ds):=xo5 a3 fun i hi=>by have z:=(a3 i hi).2;show 0<=min _ _/\min _ _<=_;omega
 refine xiq rfl rfl (fun _ pe=>O5 pe size start n c6 (Bj H ds) D2 hn a2 a5) ?_;refine cq (fun V=>?_) (fun V=>?_)
 ·have V:¬ Cn size start (Bj (k:Nat) ds):=by rw[<- M];simpa using V
  obtain⟨b0,e⟩:=ysv ⟨a2.1,a2.2.2⟩ a3 V;refine ax ?_;refine xtv a8 ?_;exact xhq (IH _ _ _ om ⟨k-1,H-1,rfl,rfl,rfl,rfl,om,om,by rw[<- e];exact hR⟩)
 ·have V:Cn size start (Bj (k:Nat) ds):=by rw[<- M];exact Classical.not_not.1 (by simpa using V)
  refine ax ?_;exact K.r rfl rfl fun h_ H_=>⟨by rw[if_pos O,<- hR,yrn V,c0,<- M];rfl,H_.kept⟩
theorem Te{md:Md}(hp:Per p h){size start:Int}{n c:Nat}(D:Ba p a n ds)(hn:n<=40):
 Aa prog md 107 #[.agg #[.J size,.J start,.slice a n c]] h fun v h'=>v=.tuple #[.J (Gm size start ds).1,.J (Gm size start ds).2]/\Af h h':=by
 have hl:=D.len;refine xdq hp func107 fun _ _ _ K=>?_;refine xgq rfl fun b1=>?_;refine ax ?_;refine xiq rfl rfl (fun _ pe=>c41 pe size start n c ds D om) ?_;refine cq (fun cc=>?_) (fun cc=>?_)
 ·have a2:¬ Ok size start ds:=fun e=>cc (Fg e);refine ax ?_;exact K.r rfl rfl fun _ V=>⟨by rw[Gm,if_neg a2,Hi a2];rfl,V.kept⟩
 have c0:=Classical.not_not.1 cc;have O:Ok size start ds:=Bu.1 c0;have a3:0<=start:=O.2.2.1;have a4:=O.dok;refine ax ?_;refine xmq (fun m_ l p_ L_=>∃(k:Nat)(nn:Int),m_=61-k/\l=[(1,none,w_ b1 0)]/\p_=p/\L_=[[(b1,.cells #[.J nn,.J start,.slice a n c] 31 (0,0))]]/\nn=k/\k<=61/\Kl (fun k=>decide (Cn (k:Nat) start ds)) k (61-k)=Kl (fun k=>decide (Cn (k:Nat) start ds)) 0 61) ⟨0,0,rfl,rfl,rfl,rfl,rfl,Nat.zero_le _,rfl⟩ sb ?_;rintro _ _ p _ IH ⟨k,nn,rfl,rfl,rfl,rfl,M,hk,hR⟩;refine cq (fun cd=>?_) (fun cd=>?_)
 ·refine ax ?_;refine xiq rfl rfl (fun _ pe=>O5 pe nn start n c ds D hn ⟨om,om,a3⟩ a4) ?_;refine cq (fun H=>?_) (fun H=>?_)
  ·have H:Cn (k:Nat) start ds:=by rw[<- M];simpa using H
   refine ax ?_;exact K.r rfl rfl fun _ V=>⟨by rw[Gm,if_pos O,<- hR,xq2 om (decide_eq_true H),found,<- M];rfl,V.kept⟩
  ·have H:¬ Cn (k:Nat) start ds:=by rw[<- M];simpa using H
   refine ax ?_;exact xhq (IH _ _ _ om ⟨k+1,nn+1,rfl,rfl,rfl,rfl,om,om,by rw[<- xgs om (decide_eq_false H)];exact hR⟩)
 refine ax ?_;exact K.r rfl rfl fun _ V=>⟨by rw[Gm,if_pos O,<- hR,yik om];rfl,V.kept⟩
theorem Sj{md:Md}(hp:Per p h){size start:Int}{n c:Nat}(D:Ba p a n ds)(hn:n<=40)(H:Int):
 Aa prog md 111 #[.agg #[.J size,.J start,.slice a n c],.J H] h fun v h'=>v=.tuple #[.J (Cy size start ds H).1,.J (Cy size start ds H).2]/\Af h h':=by
 have hl:=D.len;refine xdq hp func111 fun _ _ _ K=>?_;refine xgq rfl fun b2=>?_;refine bq fun b3=>?_;refine ax ?_;refine xqq [] R4 ?_;refine ex ?_;refine xbv rfl rfl rfl rfl trivial (fun _ V=>Qi V size start n c om H) ?_;refine ex ?_;have eD:decide (0<=H/\H<=(n:Int)-1)=decide (Df ds H):=decide_eq_decide.2 (by unfold Df;omega);rw[eD];refine xiq rfl rfl (fun _ V=>Qc V size start n c ds D om (decide (Df ds H))) ?_;refine cq (fun cc=>?_) (fun cc=>?_)
 ·refine ax ?_;exact K.r rfl rfl fun h_ H_=>⟨by rw[Cy,if_neg cc];rfl,H_.kept⟩
 have c0:=Classical.not_not.1 cc;have O:Ok size start ds:=Classical.byContradiction fun z=>by rw[Kg,if_neg z]at c0;omega
 have a7:Df ds H:=Classical.byContradiction fun z=>by rw[Kg,if_pos O,decide_eq_false z]at c0;simp at c0
 have a4:0<=size/\size<=60/\0<=start:=⟨O.1,O.2.1,O.2.2.1⟩
 have a5:=O.dok;refine ax ?_;refine xiq rfl rfl (fun _ V=>O5 V size start n c ds D hn a4 a5) ?_;refine cq (fun cd=>?_) (fun cd=>?_)
 ·have cd:¬ Cn size start ds:=by simpa using cd
  refine ax ?_;exact K.r rfl rfl fun h_ H_=>⟨by rw[Cy,if_pos c0,if_neg cd];rfl,H_.kept⟩
 have cd:Cn size start ds:=Classical.not_not.1 (by simpa using cd);refine lq fun b7=>?_;refine xnw (b:=b3) fun p1 a8 h1=>?_;have D:=D.mono a8;refine ax ?_;refine xmq (fun m_ l p_ L_=>∃(k:Nat)(M:Int),m_=100-k/\l=[(2,none,w_ b2 0),(3,none,w_ b3 0),(7,none,w_ b7 0)]/\p_=p1/\L_=[[(b7,.cells #[.J M] 3 (0,0))],[(b2,.cells #[.J size,.J start,.slice a n c] 31 (0,0))]]/\M=k/\k<=60/\Kl (fun k=>decide (¬ Cn size start (wanted H ((k:Nat)+1) ds))) k (100-k)=Pm size start ds H) ⟨0,0,rfl,rfl,rfl,rfl,rfl,Nat.zero_le _,rfl⟩ sb ?_;rintro _ _ p1 _ IH ⟨k,M,rfl,rfl,rfl,rfl,a3,hk,hR⟩;refine ax ?_;have a2:∀i,i<n->0<=(ds.getD i dz).want/\(ds.getD i dz).want<=20:=fun i hi=>by have z:=O.2.2.2.2.2 i om;unfold C7 at z;omega
 refine ygg (Q:=fun v Y=>∃w,v=.agg #[.J size,.J start,w]/\Ac 98 3 w (dcs (wanted H (M+1) ds)) Y) (first:=[]) rfl rfl (fun h s=>xir (Z:=[(b7,.cells #[.J M] 3 (0,0))]) s s_ fun p' b4 le hz=>Q3 b4 size start n c ds (D.mono le) hn (Cist.C5 H (M+1)) (fun h_ V i hi=>xkq (first:=[]) (cap:=[w_ b3 0,w_ b7 0]) k_ ((Uh V i H M (by have z:=a2 i hi;omega) b3 b7 (le _ _ h1) (hz (b7,.cells #[.J M] 3 (0,0)) s_)).mono fun v h' e=>⟨e.1.trans (by unfold Cist.C5;rw[Int.add_assoc]),e.2⟩))) ?_;rintro _ Y ⟨w,rfl,o⟩;refine xpb o (by rw[Aj,wanted,B0,hl]) fun p2 a6 c6 b0 ev D2=>?_;subst ev;have a9:Dok (wanted H (M+1) ds):=xo5 a5 fun i hi=>by
  have z:=a2 i om;unfold Cist.C5;split<;>omega
 refine xiq rfl rfl (fun _ V=>O5 V size start n c6 (wanted H (M+1) ds) D2 hn a4 a9) ?_;refine cq (fun ce=>?_) (fun ce=>?_)
 ·have ce:Cn size start (wanted H ((k:Nat)+1) ds):=by rw[<- a3];simpa using ce
  have b5:k<60:=by
   apply Classical.byContradiction;intro z;exact xtm a4 a5 a7 (show 60<(k:Int)+1 by omega) ce
  refine ax ?_;refine xtv b0 ?_;exact xhq (IH _ _ _ om ⟨k+1,M+1,rfl,rfl,rfl,rfl,om,om,by rw[<- xgs om (decide_eq_false (fun z=>z ce))];exact hR⟩)
 ·have ce:¬ Cn size start (wanted H ((k:Nat)+1) ds):=by rw[<- a3];simpa using ce
  refine ax ?_;exact K.r rfl rfl fun h_ H_=>⟨by rw[Cy,if_pos c0,if_pos cd,<- hR,xq2 om (decide_eq_true ce),found,<- a3];rfl,H_.kept⟩
theorem Vk(md:Md)(hp:Per p h)(size start:Int)(n c:Nat)(ds:List Day)(D:Ba p a n ds)(H:Nat){T1:TypeId}(O:Nat×Nat)(a2:p H=some (.cells #[.J size,.J start,.slice a n c] T1 O))(k:Nat)(hk:k<n):
 Aa prog md 240 #[.J (k:Nat),w_ H 0] h fun v V=>v=.J (ds.getD k dz).lo/\Af h V:=by
 refine xdq hp func240 fun _ _ _ K=>?_;refine xoz rfl (by show At p ((((adr a).add (k*3)).add 0).add 0)=_;rw[xas,xas];exact D.lo hk) ?_;refine ax ?_;exact K.r rfl rfl fun _ M=>⟨rfl,M.kept⟩
theorem Ua(md:Md)(hp:Per p h)(size start:Int)(n c:Nat)(ds:List Day)(D:Ba p a n ds)(H:Nat){T1:TypeId}(O:Nat×Nat)(a2:p H=some (.cells #[.J size,.J start,.slice a n c] T1 O))(k:Nat)(hk:k<n):
 Aa prog md 241 #[.J (k:Nat),w_ H 0] h fun v V=>v=.J (ds.getD k dz).hi/\Af h V:=by
 refine xdq hp func241 fun _ _ _ K=>?_;refine xoz rfl (by show At p ((((adr a).add (k*3)).add 0).add 1)=_;rw[xas];exact D.hi hk) ?_;refine ax ?_;exact K.r rfl rfl fun _ M=>⟨rfl,M.kept⟩
def K6(H M:Nat)(ds:List Day)(h:Heap):Prop:=∃w X,Ac 223 3 w (dcs ds) X/\(ds.length=0->X=[])/\h[M]?=some (.cells #[w] 213 (0,0))/\ ∀x∈X,h[x.1]?=some x.2/\H<=x.1
theorem xsf{H bD:Nat}{V:Heap}(k:Af h V)(x:K6 H bD ds h):K6 H bD ds V:=by
 obtain⟨w,X,o,h0,hb,O⟩:=x;exact⟨w,X,o,h0,(k.Cq _ (xmx hb)).trans hb,fun x M=>⟨(k.Cq _ (xmx (O x M).1)).trans (O x M).1,(O x M).2⟩⟩
def Lx(H M O:Nat)(d e:List Day)(k:Nat)(h:Heap):Prop:=if k=0 then K6 H M d h else K6 H O e h
theorem xw7{H bD bE:Nat}{d e:List Day}(k:Nat)(h O:Heap)(V:Af h O)(x:Lx H bD bE d e k h):Lx H bD bE d e k O:=by
 unfold Lx at x⊢;split at x
 ·rename_i M;rw[if_pos M];exact xsf V x
 ·rename_i M;rw[if_neg M];exact xsf V x
instance{H:Heap}:Stb (fun h=>Af H h):=⟨fun _ _ a b=>a.trans b⟩
theorem We(md:Md)(bW H bY bO:Nat)(zY zO:Nat×Nat)(size start:Int)(n c:Nat)(ds:List Day)(D:Ba p a n ds)(hn:n<=40){rv:Value}(h1:rv.cells=#[rv])(rain:Nat->Int)
 (hY:p bY=some (.cells #[.J size,.J start,.slice a n c] 31 zY))(hO:p bO=some (.cells #[w_ H 0,rv] 280 zO))(hs:0<=size/\size<=60/\0<=start)(hd:∀i,i<n->0<=(ds.getD i dz).want/\(ds.getD i dz).want<=200)(V:∀i,i<n->0<=rain i/\rain i<=20)
 (hr:∀(p':Ab),PLe p p'-> ∀h i,Per p' h->i<n->Az prog md rv [.J ((i:Nat):Int)] h fun v h'=>v=.J (rain i)/\Af h h')(a4:St h [H] p h [(H,.cells #[.slice none 0 0] 213 (0,0))]){zq:Frame}{cs:List Frame}{Stop:Goroutine->Heap->Prop}
 (K:∀tm td h' w X(A:Pcs)p',Ac 223 3 w (dcs (side size (min start size) (Ak ds) rain n)) X->(n=0->X=[])->St h [H] p' h' (A++((H,.cells #[w] 213 (0,0))::(X++[])))->Go.X.Reach prog md (G (FR (B 243 .dfd) tm [dcall 244 #[w_ bW 0]] td) (zq::cs)) h' Stop):
 Go.X.Reach prog md (G (Frame.enter prog 243 #[w_ bW 0,w_ bY 0,w_ bO 0] .deferred) (zq::cs)) h Stop:=by
 refine T5 (LL:=[[(H,.cells #[.slice none 0 0] 213 (0,0))]]) a4 func243 ?_;refine ax ?_;refine ygv rfl ?_;refine lq fun b1=>?_;refine ax ?_;refine xvx rfl rfl (fun h pe=>Qf pe size start n c h1) ?_;rintro _ p2 g2 ⟨b4,bR,T1,T2,rfl,a8,hR⟩;have D2:Ba p2 a n ds:=Sl.mono g2.le D;have a9:=g2.le _ _ hO;refine ax ?_;refine xik (LL':=[[(b1,.cells #[.J 0] 3 (0,0))],[(H,.cells #[.slice none 0 0] 213 (0,0))],[]]) ?_ (fun h s=>s);refine xt3 (fun i L=>∃(sm:Int)(w:Value)(X1:Pcs),L=[[(b1,.cells #[.J sm] 3 (0,0))],[(H,.cells #[w] 213 (0,0))],X1]/\Ac 223 3 w (dcs (side size (min start size) (Ak ds) rain i)) X1/\sm=sumTo (ovr size (min start size) (Ak ds) rain) i/\(i=0->X1=[])) rfl (yud D2 hn rain a8 hR hs hd V (fun p' le h pe i hi=>hr p' (g2.le.trans le) h i pe hi)).c ⟨0,_,[],rfl,Ac.empty _ _,rfl,fun _=>rfl⟩ ?_ ?_ rfl ?_
 ·intro lo lp i _ p' C b0 a6 a5 hi le ⟨sm,w,X1,e,o1,O,M⟩ a7 nx;subst e;rw[List.length_map,List.length_range]at hi;have e:((List.range n).map (Mv size (min start size) (Ak ds) rain)).getD i []=Mv size (min start size) (Ak ds) rain i:=by simp[List.getD_eq_getElem?_getD,hi]
  rw[e];have a2:=xjs (size:=size) (start:=min start size) (want:=Ak ds) (rain:=rain) (n:=n) ⟨om,om⟩ (fun i hi=>(hd i hi).1) V i om;have b6:=xit (size:=size) (start:=min start size) (want:=Ak ds) (rain:=rain) (n:=n) ⟨om,om⟩ (fun i hi=>(hd i hi).1) V hi;rw[<- O]at a2;have b3:=le _ _ a9;show RE _ _ ((11,none,.agg #[.J (lev size (min start size) (Ak ds) rain (i+1)),.J (Cist.Au size (min start size) (Ak ds) rain i),.J (ovr size (min start size) (Ak ds) rain i)])::_) _ _;refine lq fun b5=>?_;refine ax ?_;dsimp only at nx⊢;refine xzp a7 ?_;refine ax ?_;refine xw3 [7,8] R9 X1 ?_;refine ex ?_;refine xvk rfl rfl fun v2 Y2 o2=>?_;refine xu7 rfl rfl rfl o1 o2 (xn1 rfl) (by rw[Aj,B2];have:(chs 3 1 [Value.J 0,.J 0,.J 0]).length=1:=rfl;simp only[List.length_cons,List.length_nil,chs];omega) fun v3 Y3 o3=>?_;have o3:=o3.as (show _=dcs (side size (min start size) (Ak ds) rain (i+1)) by rw[xxr,<- O];rfl);obtain⟨a3,c3,rfl,_⟩:=o3.val;refine ex ?_;refine ax ?_;exact xhq (nx [] _ ⟨_,_,Y3,rfl,o3,by rw[sumTo,<- O],om⟩)
 ·rintro r _ ⟨sm,w,X1,e,o1,_,M⟩;subst e;rw[List.length_map,List.length_range]at o1 M;dsimp only;refine ax ?_;exact yqv fun tm td h' s=>K _ _ _ _ _ [_,_] _ o1 M s
 ·intro i hi;rw[List.length_map,List.length_range]at hi;simp[List.getD_eq_getElem?_getD,hi,Mv]
theorem xep{S:Nat->Prop}{z9 hb:Heap}{Z:List Nat}{pp q8 bW H bY bO:Nat}{size start:Int}{n c:Nat}(D:Ba (Hp hb) a n ds)(hn:n<=40)(g:FuncId)(rain:Nat->Int)
 (a3:hb[H]?=some (.cells #[.slice none 0 0] 213 (0,0)))(hY:HC hb bY #[.J size,.J start,.slice a n c] 31)(hO:HC hb bO #[w_ H 0,.func (.func g) #[] #[w_ bY 0]] 280)
 (a6:bY≠H/\bO≠H)(b7:0<n->(adr a).block≠H)(hs:0<=size/\size<=60/\0<=start)(hd:∀i,i<n->0<=(ds.getD i dz).want/\(ds.getD i dz).want<=200)(b4:∀i,i<n->0<=rain i/\rain i<=20)
 (hr:∀(p:Ab)(z:Nat×Nat),Ba p a n ds->p bY=some (.cells #[.J size,.J start,.slice a n c] 31 z)-> ∀h i,Per p h->i<n->
  Az prog (.own false) (.func (.func g) #[] #[w_ bY 0]) [.J ((i:Nat):Int)] h fun v h'=>v=.J (rain i)/\Af h h')
 {Φ:Heap->Prop}(b3:∀h,K6 hb.size H (side size (min start size) (Ak ds) rain n) h->Φ h):
 Go.X.Reach prog (.own false) (born prog {target:=.fn (.func 243) #[w_ bW 0,w_ bY 0,w_ bO 0],args:=#[]}) hb (E3 prog ⟨278,bW,S,z9,Z,pp,q8⟩ Φ):=by
 refine xx7 (Φ:=fun h=>Af hb h) func243 k_ k_ (fun h hk=>?_) hb (.refl _);have a7:h[H]?=some (.cells #[.slice none 0 0] 213 (0,0)):=(hk.Cq _ (xmx a3)).trans a3;obtain⟨zY,c2⟩:=hY.Cq hk;obtain⟨zO,b6⟩:=hO.Cq hk
 let p:Ab:=fun b=>if b=H then none else h[b]?
 have a9:p bY=some (.cells #[.J size,.J start,.slice a n c] 31 zY):=by simp only[p,if_neg a6.1];exact c2
 have b5:p bO=some (.cells #[w_ H 0,.func (.func g) #[] #[w_ bY 0]] 280 zO):=by simp only[p,if_neg a6.2];exact b6
 have Dp:Ba p a n ds:=by
  refine⟨Sl.len D,Sl.wid D,Sl.ne D,fun i e hi j v hj=>?_⟩;have hx:=(xpm hk).cell (Sl.get D i e hi j v hj);have b8:0<n:=by have:=(List.getElem?_eq_some_iff.1 hi).1;have:=Sl.len D;omega
  have a4:(((adr a).add (i*3)).add j).block≠H:=by rw[xhg,xhg];exact b7 b8
  unfold At at hx⊢;simp only[p,if_neg a4];exact hx
 have a5:St h [H] p h [(H,.cells #[.slice none 0 0] 213 (0,0))]:=by
  refine⟨fun _ _ _=>rfl,Nat.le_refl _,fun b o e=>?_,fun x hx=>?_,s_⟩
  ·simp only[p]at e;split at e
   ·cases e
   ·exact e
  ·obtain rfl:=List.mem_singleton.1 hx;exact⟨a7,by simp[p],.inr s_⟩
 refine We (.own false) bW H bY bO zY zO size start n c ds Dp hn rfl rain a9 b5 hs hd b4 (fun p' le M i b0 hi=>hr p' zY (Sl.mono le Dp) (le _ _ a9) M i b0 hi) a5 fun tm td M w X A p' o h0 V=>?_;refine yqf (Φ:=fun O=>Af M O) Tryz.M3 func243 rfl (fun ge b9 O c1=>xpk ⟨b9,b3 O (xsf c1 ⟨w,X,o,fun e=>h0 (by rw[B2]at e;exact e),?_,fun x hx=>?_⟩)⟩) M (.refl _)
 ·exact(V.own (H,.cells #[w] 213 (0,0)) s_).1
 ·obtain⟨h1,h2,h3⟩:=V.own x (by simp[hx]);refine⟨h1,Nat.le_trans hk.size (h3.resolve_right fun hm=>?_)⟩;have a8:=V.nod;rw[List.map_append,List.nodup_append]at a8;have a2:=a8.2.1;simp only[List.map_cons,List.nodup_cons]at a2;refine a2.1 ?_;have e:x.1=H:=by simpa using hm
  rw[<- e];exact List.mem_map.2 ⟨x,by simp[hx],rfl⟩
theorem yug{w:Value}{X:Pcs}(o:Ac 223 3 w (dcs ds) X)(hn:0<ds.length)(hX:∀x∈X,h[x.1]?=some x.2):∃b o',X=[(b,o')]/\Exc h b:=by
 have M:(dcs ds).length=ds.length:=Aj ds;obtain⟨hw,⟨_,V,_⟩|⟨b,cs,cap,O,_,rfl,H,hlen,_⟩⟩:=o
 ·rw[V]at M;simp at M;omega
 ·refine⟨b,_,rfl,cs.toArray,223,hX (b,.cells cs.toArray 223 (0,0)) s_,?_⟩;have:(dcs ds).flatten.length=(dcs ds).length*3:=xnq hw;simp only[List.size_toArray,H,List.length_append];omega
theorem xd4{w:Value}{X:Pcs}(o:Ac 223 3 w (dcs ds) X)(M:ds.length=0->X=[])(O:∀x∈X,h[x.1]?=some x.2):(∀x∈X,Exc h x.1)/\(X.map (·.1)).Nodup:=by
 by_cases e:ds.length=0
 ·rw[M e];simp
 ·obtain⟨b,V,rfl,ex⟩:=yug o om O;exact⟨fun x H=>by rw[List.mem_singleton.1 H];exact ex,s_⟩
theorem ywj{zj he:Heap}{p8:Ab}{L:Pcs}{S:Nat->Prop}{q q8 bW bD bE:Nat}{d e:List Day}{hw:Nat->Heap}(V:St h [] p8 zj L)(le:PLe p p8)(b0:h.size<=bW/\h.size<=bD/\h.size<=bE)(c2:bD<zj.size/\bE<zj.size)(b8:bD≠bE)
 (hp:p8 bW=none/\p8 bD=none/\p8 bE=none)(J:Joined ⟨278,bW,S,zj,[bD,bE],q,q8⟩ (Lx zj.size bD bE d e) hw he):
 ∃w1 w2 X1 X2,Ac 223 3 w1 (dcs d) X1/\Ac 223 3 w2 (dcs e) X2/\St h [] p he (([(bD,.cells #[w1] 213 (0,0)),(bE,.cells #[w2] 213 (0,0))]:Pcs)++(X1++(X2++[]))):=by
 obtain⟨J1,J2,J3,J4⟩:=J;obtain⟨w1,X1,o1,b5,a7,a3⟩:=(J3 0 om).1;obtain⟨w2,X2,o2,b9,a8,a5⟩:K6 zj.size bE e (hw 1):=(J3 1 om).1;have j0:=fun b H=>((J3 0 om).2 b H).1;have j1:=fun b H=>((J3 1 om).2 b H).1;obtain⟨a9,b6⟩:=xd4 o1 b5 fun x M=>(a3 x M).1;obtain⟨a6,b3⟩:=xd4 o2 b9 fun x M=>(a5 x M).1;have old:∀b,b<zj.size->b≠bW->b≠bD->b≠bE->he[b]?=zj[b]?:=fun b h1 h2 h3 h4=>J2 b ⟨h1,h2,by simp[h3,h4]⟩;have b7:=(j0 bD (Exc.of a7 s_)).trans a7;have b4:=(j1 bE (Exc.of a8 s_)).trans a8;simp only at J1;have c1:h.size<=zj.size:=V.size;have a2:∀b,zj.size<=b->p b=none:=fun b H=>by
  cases a4:p b with
  |none=>rfl
  |some o=>exact absurd (xmx (V.per _ _ (le _ _ a4))) (Nat.not_lt.2 H)
 have pn:∀b,p8 b=none->p b=none:=fun b H=>by
  cases a4:p b with
  |none=>rfl
  |some o=>rw[le _ _ a4]at H;cases H
 refine⟨w1,w2,_,_,o1,o2,⟨fun b H _=>(old b om om om om).trans (V.Cq b H s_),om,fun b o H=>?_,fun x M=>?_,?_⟩⟩
 ·have O:=le _ _ H;have:=V.per _ _ O;refine(old b (xmx this) ?_ ?_ ?_).trans this
  ·rintro rfl;rw[hp.1]at O;cases O
  ·rintro rfl;rw[hp.2.1]at O;cases O
  ·rintro rfl;rw[hp.2.2]at O;cases O
 ·simp only[List.append_nil,List.cons_append,List.nil_append,List.mem_cons,List.mem_append]at M;rcases M with rfl|rfl|M|M
  ·exact⟨b7,pn _ hp.2.1,.inl b0.2.1⟩
  ·exact⟨b4,pn _ hp.2.2,.inl b0.2.2⟩
  ·have h1:=a3 x M;exact⟨(j0 _ (a9 x M)).trans h1.1,a2 _ h1.2,.inl om⟩
  ·have h1:=a5 x M;exact⟨(j1 _ (a6 x M)).trans h1.1,a2 _ h1.2,.inl om⟩
 ·have m1:∀b,b∈X1.map (·.1)->zj.size<=b:=fun b H=>by obtain⟨x,M,rfl⟩:=List.mem_map.1 H;exact(a3 x M).2
  have m2:∀b,b∈X2.map (·.1)->zj.size<=b:=fun b H=>by obtain⟨x,M,rfl⟩:=List.mem_map.1 H;exact(a5 x M).2
  simp only[List.append_nil,List.cons_append,List.nil_append,List.map_cons,List.map_append,List.nodup_cons,List.mem_cons,List.mem_append,not_or];refine⟨⟨b8,fun H=>by have:=m1 _ H;omega,fun H=>by have:=m2 _ H;omega⟩,⟨fun H=>by have:=m1 _ H;omega,fun H=>by have:=m2 _ H;omega⟩,List.nodup_append.2 ⟨b6,b3,?_⟩⟩;intro b H c hc e;subst e;obtain⟨x,M,e1⟩:=List.mem_map.1 H;obtain⟨y,hy,e2⟩:=List.mem_map.1 hc;exact J4 b (e1 ▸ a9 x M) (e2 ▸ a6 y hy)
set_option maxHeartbeats 4000000 in
theorem Q2(hp:Per p h)(size start:Int)(n c:Nat)(ds:List Day)(D:Ba p a n ds)(hn:n<=40)(hs:0<=size/\size<=60/\0<=start)(hd:∀i,i<n->0<=(ds.getD i dz).want/\(ds.getD i dz).want<=200)(e5:∀i,i<n->0<=Fo ds i/\Fo ds i<=20)(f6:∀i,i<n->0<=K8 ds i/\K8 ds i<=20):
 Aa prog (.main true) 186 #[.agg #[.J size,.J start,.slice a n c]] h fun v h'=>∃Y,(∃w1 w2 X1 X2,v=.tuple #[w1,w2]/\Ac 223 3 w1 (dcs (side size (min start size) (Ak ds) (Fo ds) n)) X1/\Ac 223 3 w2 (dcs (side size (min start size) (Ak ds) (K8 ds) n)) X2/\Y=X1++X2)/\New h h' Y:=by
 refine xfz hp func186 fun zq cs Stop K=>?_;refine bq fun b1=>?_;refine xyq fun b2=>?_;refine xyq fun M=>?_;refine lq fun b4=>?_;refine ax ?_;refine xbz rfl fun v5 Y5 o5=>?_;refine xpx o5 (m:=2) rfl d_ fun p8 a9 f9 f1 ev a6=>?_;intro a6;subst ev;have b6:=f1.le;refine ax ?_;refine ypv ?_;refine ax ?_;refine xlq rfl (fun _=>?_) (fun cc=>absurd om cc);refine ax ?_;refine xfk rfl (a6.get 0 _ rfl) ?_;refine xyq fun f5=>?_;refine ax ?_;refine yxc (L:=Tryz.link) Tryz.M3 rfl k_ fun ge gb b7 a4 h1 H1=>?_;have e1:=H1.own _ (List.mem_of_getElem? (i:=4) rfl);have V:=H1.own _ (List.mem_of_getElem? (i:=3) rfl);have O:=H1.own _ (List.mem_of_getElem? (i:=2) rfl);have a5:=H1.own _ (List.mem_of_getElem? (i:=1) rfl);have b5:=H1.own _ (List.mem_of_getElem? (i:=0) rfl);simp only at e1 V O a5 b5;have f0:=H1.nod;simp only[List.flatten_cons,List.flatten_nil,List.append_nil,List.cons_append,List.nil_append,List.map_cons,List.map_nil,List.nodup_cons,List.mem_cons,List.not_mem_nil,or_false,not_or,not_false_eq_true,List.nodup_nil,and_true]at f0;have D1:=D.mono b6;have f3:0<n->(adr a).block≠b4:=xac D1 om a5.2.1;have e3:0<n->(adr a).block≠b2:=xac D1 om V.2.1;have e2:0<n->(adr a).block≠M:=xac D1 om O.2.1;have f7:(adr a9).block≠b4:=xac a6 om a5.2.1 s_;have e8:(adr a9).block≠b2:=xac a6 om V.2.1 s_;have g3:(adr a9).block≠M:=xac a6 om O.2.1 s_;have f2:=xmx V.1;have e6:=xmx O.1
 refine xc1 (Ψ:=Lx h1.size b2 M (side size (min start size) (Ak ds) (Fo ds) n) (side size (min start size) (Ak ds) (K8 ds) n))
  (Kon:=fun gb=>gb.status=.running/\ ∀he w1 w2 X1 X2,Ac 223 3 w1 (dcs (side size (min start size) (Ak ds) (Fo ds) n)) X1->Ac 223 3 w2 (dcs (side size (min start size) (Ak ds) (K8 ds) n)) X2->St h [] p he ([[(b2,.cells #[w1] 213 (0,0))],[(M,.cells #[w2] 213 (0,0))],X1,X2]:List Pcs).flatten->Go.X.Reach prog (.main true) gb he Stop)
  278 b4 [b2,M] a5.1 ?_ xw7 (fun _ e_=>e_.1) (fun S_ q_ d0=>?_) (fun S_ q_ d0 g0 e0 g2 g1 f4=>?_)
 ·intro b_ H;simp only[List.mem_cons,List.not_mem_nil,or_false]at H;rcases H with H|H<;>rw[H]
  ·exact Exc.of V.1 (by show 0<1;decide)
  ·exact Exc.of O.1 (by show 0<1;decide)
 ·refine⟨gb,b7,fun h2 k2=>?_⟩;have Db:Ba (Hp (C6 [b4] [b2,M] h1)) a n ds:=xin D1 H1.per fun h_=>xzz (f3 h_);have Lb:=xin (A:=[b4]) (K:=[b2,M]) a6 H1.per fun _=>xzz f7;have Yb:HC (C6 [b4] [b2,M] h1) b1 _ _:=HC.cut ⟨_,e1.1⟩ (xzz om);have Ob:HC (C6 [b4] [b2,M] h1) f5 _ _:=HC.cut ⟨_,b5.1⟩ (xzz om);have Wb:(C6 [b4] [b2,M] h1)[b2]?=_:=xzd V.1 (xzz om) s_;have Eb:(C6 [b4] [b2,M] h1)[M]?=_:=xzd O.1 (xzz om) s_;have zb:(C6 [b4] [b2,M] h1).size=h1.size:=xxb;generalize C6 [b4] [b2,M] h1=hb at*;refine a4 _ _ hb [] (Hp hb) [] h2 ?_ ((St.start hb _ (fun _ _ e_=>e_)).call k2);dsimp only;refine ax ?_;refine yym rfl rfl fun ga gn a3 b0 a4 h3 H3=>xpk ⟨a3,gn,_,[b2],[M],b0,?_,?_,fun h4 k4=>⟨?_,?_⟩⟩
  ·intro b_ H;rw[List.mem_singleton.1 H];exact(Exc.of Wb (by show 0<1;decide)).stay H3.kept
  ·intro b_ H;rw[List.mem_singleton.1 H];exact(Exc.of Eb (by show 0<1;decide)).stay H3.kept
  ·have kk:Af hb h4:=H3.kept.trans k4;refine xep (xin (Sl.mono (xpm kk) Db) (xd6) fun h_=>xzz (e2 h_)) hn 240 (Fo ds) (xzd ((kk.Cq _ (xmx Wb)).trans Wb) (xzz om) s_) ((Yb.Cq kk).cut (xzz om)) ((Ob.Cq kk).cut (xzz om)) ⟨om,om⟩ e3 hs hd e5 (fun p_ z_ D_ b8 h_ i_ d6 b9=>xkq (first:=[]) (cap:=[w_ b1 0]) k_ (Vk (.own false) d6 size start n c ds D_ b1 z_ b8 i_ b9)) fun h_ x_=>?_;obtain⟨w_,X_,o_,d5,H,a7⟩:=x_;exact⟨w_,X_,o_,d5,H,fun x_ a8=>⟨(a7 x_ a8).1,by have:=(a7 x_ a8).2;rw[xxb]at this;have:=kk.size;omega⟩⟩
  have kk:Af hb h4:=H3.kept.trans k4;have Dc:Ba (Hp (C6 [b2] [M] h4)) a n ds:=xin (Sl.mono (xpm kk) Db) (xd6) fun h_=>xzz (e3 h_);have Lc:=xin (A:=[b2]) (K:=[M]) (Sl.mono (xpm kk) Lb) (xd6) fun _=>xzz e8;have Yc:HC (C6 [b2] [M] h4) b1 _ _:=(Yb.Cq kk).cut (xzz om);have Ec:(C6 [b2] [M] h4)[M]?=_:=xzd ((kk.Cq _ (xmx Eb)).trans Eb) (xzz om) s_;have zc:h1.size<=(C6 [b2] [M] h4).size:=by rw[xxb];have:=kk.size;omega
  refine a4 _ _ (C6 [b2] [M] h4) [] (Hp (C6 [b2] [M] h4)) [] _ ?_ (St.start _ _ (fun _ _ e_=>e_));generalize C6 [b2] [M] h4=hc at*;dsimp only;refine ax ?_;refine xon ?_;refine ax ?_;refine xlq rfl (fun _=>?_) (fun cc=>absurd om cc);refine ax ?_;refine xfk rfl (Lc.get 1 _ rfl) ?_;refine xyq fun d8=>?_;refine ax ?_;refine yxc (L:=Tryz.link) Tryz.M3 rfl k_ fun ge gb b7 a4 h5 H5=>xpk ⟨gb,b7,fun h6 k6=>?_⟩;refine a4 _ _ hc [] (Hp hc) _ h6 ?_ (H5.call k6);dsimp only;refine ax ?_;refine yym rfl rfl fun ga gn a3 b0 a4 h7 H7=>xpk ⟨a3,gn,_,[M],[],b0,?_,(fun _ H=>by cases H),fun h8 k8=>⟨?_,?_⟩⟩
  ·intro b_ H;rw[List.mem_singleton.1 H];exact(Exc.of Ec (by show 0<1;decide)).stay H7.kept
  ·have kk:Af hc h8:=H7.kept.trans k8;have O_:=(H7.own _ (List.mem_of_getElem? (i:=0) rfl))
   simp only at O_;have Oc:HC h8 d8 _ _:=HC.Cq ⟨_,O_.1⟩ k8;have f8:=xmx Ec;have c3:d8≠M:=by have:=O_.2.2.resolve_right s_;omega
   refine xep (xin (Sl.mono (xpm kk) Dc) (xd6) fun _=>by simp) hn 241 (K8 ds) (xzd ((kk.Cq _ (xmx Ec)).trans Ec) s_ s_) ((Yc.Cq kk).cut s_) (Oc.cut s_) ⟨om,c3⟩ e2 hs hd f6 (fun p_ z_ D_ b8 h_ i_ d6 b9=>xkq (first:=[]) (cap:=[w_ b1 0]) k_ (Ua (.own false) d6 size start n c ds D_ b1 z_ b8 i_ b9)) fun h_ x_=>?_;obtain⟨w_,X_,o_,d5,H,a7⟩:=x_;exact⟨w_,X_,o_,d5,H,fun x_ a8=>⟨(a7 x_ a8).1,by have:=(a7 x_ a8).2;rw[xxb]at this;have:=kk.size;omega⟩⟩
  refine a4 _ _ (C6 [M] [] h8) [] (Hp (C6 [M] [] h8)) [] _ ?_ (St.start _ _ (fun _ _ e_=>e_));dsimp only;refine ax ?_;refine xon ?_;refine ax ?_;refine xlq rfl (fun cc=>absurd cc om) (fun _=>?_);refine ax ?_;refine ytf (L:=Tryz.link) Tryz.M3 rfl k_ fun ge gb An e7 e9 e4 d7 d9 h9 H9=>xpk ⟨gb,An,⟨e7,e9,d7,fun he w1 w2 X1 X2 o1 o2 HS=>?_⟩,e4⟩;refine d9 (.main true) Stop h [] p _ he ?_ HS;dsimp only;obtain⟨a1,c1,rfl,_⟩:=o1.val;obtain⟨a2,c2,rfl,_⟩:=o2.val;refine ax ?_;refine xgz func186 rfl (xdt rfl (xdt rfl .nil)) ?_;exact fun h_ H_=>K _ _ ⟨X1++X2,⟨_,_,X1,X2,rfl,o1,o2,rfl⟩,D6 (LL:=[X1++X2]) (H_.sub s_)⟩
 ·obtain⟨w1,w2,X1,X2,o1,o2,HS⟩:=ywj H1 b6 ⟨a5.2.2.resolve_right s_,V.2.2.resolve_right s_,O.2.2.resolve_right s_⟩ ⟨f2,e6⟩ om ⟨a5.2.1,V.2.1,O.2.1⟩ f4;exact e0.2 _ w1 w2 X1 X2 o1 o2 (by simpa using HS)
end
end Go.Proofs.YtblcmdjhidhnjaaGreatDoor
namespace Go.X.Cist
def Nk(size start:Int)(ds:List Day):Int:=Flow.C2 (fun d=>decide (0<d.hi)) (side size (min start size) (Ak ds) (Fo ds) ds.length)
def Mi(size start:Int)(ds:List Day):Int×Int:=if Ok size start ds then(if Nk size start ds<0 then 0 else Nk size start ds,if Nk size start ds<0 then 3 else 0)else(0,100)
def K5(size start:Int)(ds:List Day)(H:Int):(Int×Int)×Int:=
 if Kg size start ds (decide (Df ds H))=0 then((lev size (min start size) (Ak ds) (Fo ds) (H.toNat+1),lev size (min start size) (Ak ds) (K8 ds) (H.toNat+1)),0)else((0,0),Kg size start ds (decide (Df ds H)))
theorem Ok.both{size start:Int}{ds:List Day}(O:Ok size start ds){n:Nat}(hn:ds.length=n):(0<=size/\size<=60/\0<=start)/\(∀i,i<n->0<=(ds.getD i dz).want/\(ds.getD i dz).want<=200)/\(∀i,i<n->0<=Fo ds i/\Fo ds i<=20)/\ ∀i,i<n->0<=K8 ds i/\K8 ds i<=20:=by
 have d:=O.dok;refine⟨⟨O.1,O.2.1,O.2.2.1⟩,fun i hi=>(d i om).2,fun i hi=>?_,fun i hi=>?_⟩
 ·have z:=(d i om).1;unfold Fo;omega
 ·have z:=(d i om).1;unfold K8;omega
end Go.X.Cist
namespace Go.Proofs.YtblcmdjhidhnjaaGreatDoor
open Go.Proofs.Tryz
open Go.X Go.X.Cist Go.Conc
theorem U5{h:Heap}{p:Ab}(hp:Per p h){size start:Int}{a:Option Addr}{n c:Nat}{ds:List Day}(D:Ba p a n ds)(hn:n<=40):
 Aa prog (.main true) 105 #[.agg #[.J size,.J start,.slice a n c]] h fun v h'=>v=.tuple #[.J (Mi size start ds).1,.J (Mi size start ds).2]/\Af h h':=by
 have hl:=D.len;refine xdq hp func105 fun _ _ _ K=>?_;refine xgq rfl fun b1=>?_;refine ax ?_;refine xiq rfl rfl (fun _ H=>c41 H size start n c ds D om) ?_;refine cq (fun cc=>?_) (fun cc=>?_)
 ·have M:¬ Ok size start ds:=fun e=>cc (Fg e);refine ax ?_;exact K.r rfl rfl fun h_ H_=>⟨by rw[Mi,if_neg M,Hi M];rfl,H_.kept⟩
 have O:Ok size start ds:=Bu.1 (Classical.not_not.1 cc);obtain⟨h1,h2,h3,h4⟩:=O.both hl;refine ax ?_;refine xdj rfl rfl (fun _ H=>Q2 H size start n c ds D hn h1 h2 h3 h4) ?_;rintro _ _ ⟨w1,w2,X1,X2,rfl,o1,o2,rfl⟩;refine xcc X1 X2 ?_;refine xpx o1 (m:=n) (by rw[Aj,B2]) d_ fun p' a1 V g ev a2 S=>?_;subst ev;refine ax ?_;refine xiq rfl rfl (fun _ H=>Vh H (.func (.func 189) #[] #[]) n V S om (fun d=>decide (0<d.hi)) (fun h_ H i hi=>xkq (first:=[]) (cap:=[]) k_ (Qh H))) ?_;refine ax ?_;refine xiq rfl rfl (fun _ H=>V7 H) ?_;refine ax ?_;exact K.r rfl rfl fun h_ H_=>⟨by rw[Mi,if_pos O,Nk,hl];rfl,H_.kept⟩
theorem U7{h:Heap}{p:Ab}(hp:Per p h){size start:Int}{a:Option Addr}{n c:Nat}{ds:List Day}(D:Ba p a n ds)(hn:n<=40)(H:Int):
 Aa prog (.main true) 113 #[.agg #[.J size,.J start,.slice a n c],.J H] h fun v h'=>v=.tuple #[.agg #[.J (K5 size start ds H).1.1,.J (K5 size start ds H).1.2],.J (K5 size start ds H).2]/\Af h h':=by
 have hl:=D.len;refine xfz hp func113 fun _ _ _ K=>?_;refine bq fun b2=>?_;refine lq fun b4=>?_;refine ax ?_;refine xqq [] R5 ?_;refine ex ?_;refine xbv rfl rfl rfl rfl trivial (fun _ V=>Qi V size start n c om H) ?_;refine ex ?_;have eD:decide (0<=H/\H<=(n:Int)-1)=decide (Df ds H):=decide_eq_decide.2 (by unfold Df;omega);rw[eD];refine xbv rfl rfl rfl rfl trivial (fun _ V=>Qc V size start n c ds D om (decide (Df ds H))) ?_;refine ex ?_;refine cq (fun cc=>?_) (fun cc=>?_)
 ·refine ax ?_;refine xgz func113 rfl (xtq rfl (.tmp rfl .nil)) ?_;exact fun _ H_=>K _ _ ⟨by rw[K5,if_neg cc];rfl,H_.kept⟩
 have c0:=Classical.not_not.1 cc;have O:Ok size start ds:=Classical.byContradiction fun z=>by rw[Kg,if_neg z]at c0;omega
 have M:Df ds H:=Classical.byContradiction fun z=>by rw[Kg,if_pos O,decide_eq_false z]at c0;simp at c0
 obtain⟨h1,h2,h3,h4⟩:=O.both hl;have a7:0<=H/\H<n:=by unfold Df at M;omega
 refine ax ?_;refine xdj rfl rfl (fun _ V=>Q2 V size start n c ds D hn h1 h2 h3 h4) ?_;rintro _ _ ⟨w1,w2,X1,X2,rfl,o1,o2,rfl⟩;refine xcc X1 X2 ?_;refine xpx o1 (m:=n) (by rw[Aj,B2]) d_ fun p1 a1 a5 g1 ev a3 S1=>?_;subst ev;refine xpx o2 (m:=n) (by rw[Aj,B2]) d_ fun p2 a2 a6 g2 ev a4 S2=>?_;subst ev;have S1:=Sl.mono g2.le S1;have e1:=S1.get H.toNat _ (Kt (by rw[B2];omega)) 0 _ rfl;have e2:=S2.get H.toNat _ (Kt (by rw[B2];omega)) 0 _ rfl;rw[xw8 om]at e1 e2;refine ax ?_;refine xqq [] R10 ?_;refine ex ?_;refine xrc rfl rfl rfl om om (Sl.ne S1 om) ?_;refine ex ?_;refine xgj rfl rfl (by rw[xas];rw[xas]at e1;exact e1) ?_;refine ex ?_;refine xrc rfl rfl rfl om om (Sl.ne S2 om) ?_;refine ex ?_;refine xgj rfl rfl (by rw[xas];rw[xas]at e2;exact e2) ?_;refine ex ?_;refine ax ?_;refine xgz func113 rfl (xtq rfl (.tmp rfl .nil)) ?_;exact fun _ H_=>K _ _ ⟨by rw[K5,if_pos c0];rfl,H_.kept⟩
end Go.Proofs.YtblcmdjhidhnjaaGreatDoor
