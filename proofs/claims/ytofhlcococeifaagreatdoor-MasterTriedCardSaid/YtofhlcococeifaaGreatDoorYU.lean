/-
  Part of proofs about a town's master: a calculus for Bc beside goroutines that are only leaving, and the Bc. No condition.
-/
import Derived.Test.YtofhlcococeifaaGreatDoorYK
import Derived.Test.YtofhlcococeifaaGreatDoorYT
set_option maxHeartbeats 4000000
set_option maxRecDepth 20000
set_option synthInstance.maxSize 2000
namespace Go.X.Cist
open Go.Conc
variable{i n:Nat}{rain:Nat->Int}{P:Nat->Prop}{v:Value}
structure Day where
 lo:Int
 hi:Int
 want:Int
 deriving DecidableEq,Inhabited
variable{ds:List Day}
def Day.cells(d:Day):List Value:=[.J d.lo,.J d.hi,.J d.want]
def dz:Day:=⟨0,0,0⟩
def dcs(ds:List Day):List (List Value):=ds.map Day.cells
def Bp(p:Ab)(a:Option Addr)(n:Nat)(ds:List Day):Prop:=Sl p a n 3 (dcs ds)
section
variable{p p':Ab}{a:Option Addr}{k:Nat}
theorem Bp.len(s:Bp p a n ds):ds.length=n:=by have:=Sl.len s;simpa[dcs]using this
theorem Bp.mono(H:PLe p p')(s:Bp p a n ds):Bp p' a n ds:=Sl.mono H s
theorem Bp.ne(s:Bp p a n ds)(H:0<n):a=some (adr a):=Sl.ne s H
theorem Bp.at(s:Bp p a n ds)(M:k<n){j:Nat}{v:Value}(hv:(ds.getD k dz).cells[j]?=some v):Aw p (((adr a).add (k*3)).add j)=some v:=by
 have H:=s.len;refine Sl.get s k (ds.getD k dz).cells ?_ j v hv;rw[dcs,List.getElem?_map,List.getD_eq_getElem?_getD,List.getElem?_eq_getElem om];rfl
theorem Bp.lo(s:Bp p a n ds)(H:k<n):Aw p ((adr a).add (k*3))=some (.J (ds.getD k dz).lo):=s.at H (j:=0) rfl
theorem Bp.hi(s:Bp p a n ds)(H:k<n):Aw p (((adr a).add (k*3)).add 1)=some (.J (ds.getD k dz).hi):=s.at H (j:=1) rfl
theorem Bp.want(s:Bp p a n ds)(H:k<n):Aw p (((adr a).add (k*3)).add 2)=some (.J (ds.getD k dz).want):=s.at H (j:=2) rfl
theorem Bp.all(s:Bp p a n ds)(H:k<n):∀j v,[Value.J (ds.getD k dz).lo,.J (ds.getD k dz).hi,.J (ds.getD k dz).want][j]?=some v->Aw p (((adr a).add (k*3)).add j)=some v:=fun _ _ hv=>s.at H hv
theorem D9(ds:List Day):∀u∈(dcs ds).flatten,Bj u=true:=by
 intro u H;rw[List.mem_flatten]at H;obtain⟨l,M,H⟩:=H;obtain⟨x,_,rfl⟩:=List.mem_map.1 M;simp[Day.cells]at H;rcases H with rfl|rfl|rfl<;>rfl
theorem Aj(ds:List Day):(dcs ds).length=ds.length:=by simp[dcs]
end
def Dq(d:Day):Prop:=0<=d.lo/\d.lo<=20/\d.lo<=d.hi/\d.hi<=20/\0<=d.want/\d.want<=20
instance(d:Day):Decidable (Dq d):=by unfold Dq;infer_instance
def Ok(size start:Int)(ds:List Day):Prop:=0<=size/\size<=60/\0<=start/\start<=size/\ds.length<=8/\ ∀i,i<ds.length->Dq (ds.getD i dz)
instance(a b:Int)(ds:List Day):Decidable (Ok a b ds):=by unfold Ok;infer_instance
def Dx(ds:List Day)(n:Int):Prop:=0<=n/\n<ds.length
instance(ds:List Day)(n:Int):Decidable (Dx ds n):=by unfold Dx;infer_instance
def lev(size start:Int)(want rain:Nat->Int):Nat->Int
 |0=>start
 |i+1=>lev size start want rain i+rain i-max 0 (lev size start want rain i+rain i-size)-(want i-max 0 (want i-(lev size start want rain i+rain i-max 0 (lev size start want rain i+rain i-size))))
def ovr(size start:Int)(want rain:Nat->Int)(i:Nat):Int:=max 0 (lev size start want rain i+rain i-size)
def As(size start:Int)(want rain:Nat->Int)(i:Nat):Int:=max 0 (want i-(lev size start want rain i+rain i-ovr size start want rain i))
def sumTo(f:Nat->Int):Nat->Int
 |0=>0
 |k+1=>sumTo f k+f k
def chk(size start:Int)(ds:List Day):Int:=if Ok size start ds then 0 else 100
def K0(size start:Int)(ds:List Day)(b:Bool):Int:=if Ok size start ds then(if b=true then 0 else 1)else 100
theorem Fv{size start:Int}(h:Ok size start ds):chk size start ds=0:=if_pos h
theorem Kj{size start:Int}(h:¬ Ok size start ds):chk size start ds=100:=if_neg h
theorem B5{size start:Int}:chk size start ds=0<->Ok size start ds:=by
 unfold chk;split<;>simp_all
theorem Mk{k:Nat}(h:∀i,i<k->Dq (ds.getD i dz))(e:Dq (ds.getD k dz)):∀i,i<k+1->Dq (ds.getD i dz):=fun i hi=>by
 by_cases c:i=k
 ·subst c;exact e
 ·exact h i om
def Am(ds:List Day)(i:Nat):Int:=(ds.getD i dz).want
theorem yqd{size start:Int}{want:Nat->Int}{k:Nat}(h:0<=lev size start want rain k/\lev size start want rain k<=size)(hw:0<=want k):
 0<=lev size start want rain (k+1)/\lev size start want rain (k+1)<=size:=by simp only[lev];omega
theorem Di{size start:Int}{want rain:Nat->Int}{n:Nat}(hs:0<=start/\start<=size)(h:∀i,i<n->0<=want i):∀k,k<=n->0<=lev size start want rain k/\lev size start want rain k<=size
 |0,_=>hs
 |k+1,hk=>yqd (Di hs h k om) (h k om)
def Fz(ds:List Day)(i:Nat):Int:=(ds.getD i dz).lo
def Lv(ds:List Day)(i:Nat):Int:=(ds.getD i dz).hi
def C1(size start:Int)(ds:List Day):Prop:=∀i,i<ds.length-> ¬ 0<As size (min start size) (Am ds) (Fz ds) i
instance(size start:Int)(ds:List Day):Decidable (C1 size start ds):=by unfold C1;infer_instance
theorem yck{k:Nat}(h:∀i,i<k-> ¬ P i)(e:¬ P k):∀i,i<k+1-> ¬ P i:=fun i hi=>by
 by_cases c:i=k
 ·subst c;exact e
 ·exact h i om
def Dok(ds:List Day):Prop:=∀i,i<ds.length->(0<=(ds.getD i dz).lo/\(ds.getD i dz).lo<=(ds.getD i dz).hi/\(ds.getD i dz).hi<=20)/\0<=(ds.getD i dz).want/\(ds.getD i dz).want<=200
theorem Ok.dok{size start:Int}{ds:List Day}(h:Ok size start ds):Dok ds:=fun i hi=>by have:=h.2.2.2.2.2 i hi;unfold Dq at this;omega
def B8(ds:List Day)(i:Nat)(w:Int):List Day:=ds.set i {ds.getD i dz with want:=w}
theorem Mc{w:Int}:(dcs ds).set i ((ds.getD i dz).cells.set 2 (.J w))=dcs (B8 ds i w):=by
 simp only[dcs,B8,List.map_set];rfl
theorem K8(h:i<ds.length):(dcs ds)[i]?=some (ds.getD i dz).cells:=by
 rw[dcs,List.getElem?_map,List.getD_eq_getElem?_getD,List.getElem?_eq_getElem h];rfl
def Hy(wf:Nat->Int->Int)(ds:List Day)(k:Nat):List Day:=(List.range ds.length).map fun i=>if i<k then {ds.getD i dz with want:=wf i (ds.getD i dz).want}else ds.getD i dz
def Hb(wf:Nat->Int->Int)(ds:List Day):List Day:=Hy wf ds ds.length
theorem By(wf:Nat->Int->Int)(ds:List Day)(k:Nat):(Hy wf ds k).length=ds.length:=by simp[Hy]
theorem xik{wf:Nat->Int->Int}{k:Nat}(h:i<ds.length):(Hy wf ds k).getD i dz=if i<k then {ds.getD i dz with want:=wf i (ds.getD i dz).want}else ds.getD i dz:=by
 simp[Hy,List.getD_eq_getElem?_getD,h]
theorem Hz(wf:Nat->Int->Int)(ds:List Day):Hy wf ds 0=ds:=by
 refine xjg (d:=dz) (By _ _ _) fun i hi=>?_;rw[By]at hi;rw[xik hi,if_neg om]
theorem yex{wf:Nat->Int->Int}{k:Nat}(h:k<ds.length):B8 (Hy wf ds k) k (wf k (ds.getD k dz).want)=Hy wf ds (k+1):=by
 refine xjg (d:=dz) (by simp[B8,By]) fun i hi=>?_;have H:i<ds.length:=by simpa[B8,By]using hi
 rw[xik H];unfold B8;rw[List.getD_eq_getElem?_getD,List.getElem?_set];by_cases e:k=i
 ·subst e;rw[if_pos rfl,if_pos (by rw[By];exact h),if_pos om,xik h,if_neg om];rfl
 ·rw[if_neg e,<- List.getD_eq_getElem?_getD,xik H];by_cases c:i<k
  ·rw[if_pos c,if_pos om]
  ·rw[if_neg c,if_neg om]
theorem B7(wf:Nat->Int->Int)(ds:List Day):(Hb wf ds).length=ds.length:=By _ _ _
theorem xob{wf:Nat->Int->Int}(h:i<ds.length):(Hb wf ds).getD i dz={ds.getD i dz with want:=wf i (ds.getD i dz).want}:=by
 unfold Hb;rw[xik h,if_pos h]
theorem Fp{wf:Nat->Int->Int}{k:Nat}(h:k<ds.length):(dcs (Hy wf ds k))[k]?=some [.J (ds.getD k dz).lo,.J (ds.getD k dz).hi,.J (ds.getD k dz).want]:=by
 rw[K8 (by rw[By];exact h),xik h,if_neg om];rfl
theorem Hr{wf:Nat->Int->Int}{k:Nat}(h:k<ds.length):
 (dcs (Hy wf ds k)).set k ([Value.J (ds.getD k dz).lo,.J (ds.getD k dz).hi,.J (ds.getD k dz).want].set 2 (.J (wf k (ds.getD k dz).want)))=dcs (Hy wf ds (k+1)):=by
 rw[<- yex h,<- Mc,xik h,if_neg om];rfl
theorem xe8{wf:Nat->Int->Int}(h:Dok ds)(hw:∀i,i<ds.length->0<=wf i (ds.getD i dz).want/\wf i (ds.getD i dz).want<=200):Dok (Hb wf ds):=fun i hi=>by
 rw[B7]at hi;rw[xob hi];exact⟨(h i hi).1,hw i hi⟩
def Bw(n:Int)(ds:List Day):List Day:=Hb (fun _ w=>min w n) ds
def Cg(size start:Int)(ds:List Day):Nat->Int
 |0=>0
 |k+1=>if C1 size start (Bw ((k+1:Nat):Int) ds)then((k+1:Nat):Int)else Cg size start ds k
theorem xv9{size start:Int}{want:Nat->Int}(hs:0<=start/\start<=size)(h:∀i,i<n->0<=want i)(k:Nat)(H:k<=n):0<=lev size start want rain k:=(Di hs h k H).1
theorem xy9{size start:Int}(hs:0<=size/\0<=start)(M:Dok ds):C1 size start (Bw 0 ds):=by
 intro i hi;unfold Bw at hi;rw[B7]at hi;have hw:∀j,j<ds.length->Am (Bw 0 ds) j=0:=fun j H=>by
  unfold Am Bw;rw[xob H];have:=(M j H).2;show min (ds.getD j dz).want 0=0;omega
 have O:=xv9 (size:=size) (start:=min start size) (want:=Am (Bw 0 ds)) (rain:=Fz (Bw 0 ds)) (n:=ds.length) ⟨om,om⟩ (fun j H=>by rw[hw j H];exact Int.le_refl _) i om;have V:0<=Fz (Bw 0 ds) i:=by unfold Fz Bw;rw[xob hi];exact(M i hi).1.1
 unfold As ovr;rw[hw i hi];omega
theorem ypt{size start:Int}{k:Nat}(h:C1 size start (Bw (k:Nat) ds)):Cg size start ds k=k:=by
 cases k with
 |zero=>rfl
 |succ k=>unfold Cg;rw[if_pos h]
theorem yyc{size start:Int}{k:Nat}(hs:0<=size/\0<=start)(H:Dok ds)(h:¬ C1 size start (Bw (k:Nat) ds)):0<k/\Cg size start ds k=Cg size start ds (k-1):=by
 cases k with
 |zero=>exact absurd (xy9 hs H) h
 |succ k=>exact⟨om,by rw[Nat.add_sub_cancel];show(if _ then _ else _)=_;rw[if_neg h]⟩
def K9(q:Nat->Bool):Nat->Nat->Option Nat
 |_,0=>none
 |k,f+1=>if q k=true then some k else K9 q (k+1) f
theorem xy4{q:Nat->Bool}{k:Nat}(H:k<n)(h:q k=true):K9 q k (n-k)=some k:=by
 rw[show n-k=(n-k-1)+1 from by omega];unfold K9;rw[if_pos h]
theorem xg0{q:Nat->Bool}{k:Nat}(H:k<n)(h:q k=false):K9 q k (n-k)=K9 q (k+1) (n-(k+1)):=by
 rw[show n-k=(n-(k+1))+1 from by omega];conv=>lhs;unfold K9
 rw[if_neg (by rw[h];simp)]
theorem yib{q:Nat->Bool}{k:Nat}(H:n<=k):K9 q k (n-k)=none:=by
 rw[show n-k=0 from by omega];rfl
def found:Option Nat->Int×Int
 |some k=>((k:Nat),0)
 |none=>(0,3)
def Gy(size start:Int)(ds:List Day):Int×Int:=if Ok size start ds then found (K9 (fun k=>decide (C1 (k:Nat) start ds)) 0 61)else(0,100)
def Do(M H:Int)(i:Nat)(w:Int):Int:=if((i:Nat):Int)=M then w+H else w
def wanted(M H:Int)(ds:List Day):List Day:=Hb (Do M H) ds
def Pu(size start:Int)(ds:List Day)(H:Int):Option Nat:=K9 (fun k=>decide (¬ C1 size start (wanted H ((k:Nat)+1) ds))) 0 100
theorem xkp{size start H:Int}{M:Int}(hs:0<=size/\size<=60/\0<=start)(hd:Dok ds)(O:Dx ds H)(hm:60<M):¬ C1 size start (wanted H M ds):=by
 intro hl;obtain⟨h0,h1⟩:=O;have hi:H.toNat<ds.length:=om;have hlen:(wanted H M ds).length=ds.length:=B7 _ _;have:=hl H.toNat (by rw[hlen];exact hi);have hw:Am (wanted H M ds) H.toNat=(ds.getD H.toNat dz).want+M:=by
  unfold Am wanted;rw[xob hi];show Do H M H.toNat _=_;unfold Do;rw[if_pos om]
 have V:∀i,i<ds.length->0<=Am (wanted H M ds) i:=fun i hi=>by
  unfold Am wanted;rw[xob hi];show 0<=Do H M i _;have:=(hd i hi).2.1;unfold Do;split<;>omega
 have hb:=Di (size:=size) (start:=min start size) (want:=Am (wanted H M ds)) (rain:=Fz (wanted H M ds)) (n:=ds.length) ⟨om,om⟩ V H.toNat om;have h2:=(hd H.toNat hi).2.1;unfold As ovr at this;rw[hw]at this;omega
def C8(size start:Int)(ds:List Day)(H:Int):Int×Int:=
 if K0 size start ds (decide (Dx ds H))=0 then(if C1 size start ds then found (Pu size start ds H)else(0,3))else(0,K0 size start ds (decide (Dx ds H)))
def cnt(ds:List Day):Nat->Int
 |0=>1
 |k+1=>cnt ds k*(Lv ds k-Fz ds k+1)
def E5(d:Day):Bool:=!decide (Dq d)
theorem xxt{a:Addr}:a.add 0=a:=by unfold Addr.add;cases a.spot<;>simp
open Go.X
def Kw(size start:Int)(want rain:Nat->Int)(i:Nat):Day:=⟨lev size start want rain (i+1),As size start want rain i,sumTo (ovr size start want rain) (i+1)⟩
def side(size start:Int)(want rain:Nat->Int)(k:Nat):List Day:=(List.range k).map (Kw size start want rain)
theorem B9{size start:Int}{want:Nat->Int}{k:Nat}:(side size start want rain k).length=k:=by simp[side]
theorem ybz{size start:Int}{want:Nat->Int}{k:Nat}(h:i<k):(side size start want rain k).getD i dz=Kw size start want rain i:=by
 simp[side,List.getD_eq_getElem?_getD,h]
theorem xtt(size start:Int)(want rain:Nat->Int)(k:Nat):dcs (side size start want rain (k+1))=
 dcs (side size start want rain k)++[[.J (lev size start want rain (k+1)),.J (As size start want rain k),.J (sumTo (ovr size start want rain) k+ovr size start want rain k)]]:=by
 simp[side,dcs,List.range_succ,Kw,Day.cells,sumTo]
theorem xk1{size start:Int}{want:Nat->Int}(hs:0<=start/\start<=size)(hw:∀i,i<n->0<=want i)(H:∀i,i<n->0<=rain i/\rain i<=20)(hi:i<n):0<=ovr size start want rain i/\ovr size start want rain i<=20:=by
 have:=Di (rain:=rain) hs hw i om;have:=H i hi;unfold ovr;omega
theorem xk0{size start:Int}{want rain:Nat->Int}{n:Nat}(hs:0<=start/\start<=size)(hw:∀i,i<n->0<=want i)(H:∀i,i<n->0<=rain i/\rain i<=20):∀k,k<=n->0<=sumTo (ovr size start want rain) k/\sumTo (ovr size start want rain) k<=20*k
 |0,_=>by simp[sumTo]
 |k+1,hk=>by
   have:=xk0 hs hw H k om;have:=xk1 (i:=k) hs hw H om;simp only[sumTo];omega
end Go.X.Cist
namespace Go.Proofs.YtofhlcococeifaaGreatDoor
open Go.Proofs.Tryz
open Go.X Go.X.Cist Go.Conc
open Go.X.Flow (Dn Df De Ea Dt)
variable{zq:Frame}{Stop:Goroutine->Heap->Prop}{h z9:Heap}{Φ:Heap->Prop}{l:Int}{d ds xs:List Day}{cs:List Frame}{Z zz:List Nat}{md:Md}{bD n:Nat}{hw:Nat->Heap}{S:Nat->Prop}{q1 q2:Nat×Nat}{p:Ab}{zx:Pcs}{T T1 T2:TypeId}{fv rv w:Value}
theorem ysq{n lo hi:Int}:Dc prog md p 110 #[.J n,.J lo,.J hi] (.bool (decide (lo<=n/\n<=hi))):=by
 refine xlq func110 fun K=>?_;refine K.q ?_;exact congrArg _ (bpe Iff.rfl)
theorem ys9(d:Day):Dc prog md p 109 #[.agg #[.J d.lo,.J d.hi,.J d.want]] (.bool (E5 d)):=by
 intro h H;refine xhz H func109 fun _ _ _ K=>?_;refine bq fun b1=>?_;refine cdq ysq ?_;refine cgq (fun _=>ysq) ?_;refine cgq (fun _=>ysq) ?_;refine ax ?_;refine xsq func109 rfl rfl fun _ M=>K _ _ ⟨?_,M.kept⟩;refine congrArg Value.bool ?_;unfold E5;rw[Bool.eq_iff_iff];simp only[Bool.or_eq_true,Bool.not_eq_true',decide_eq_false_iff_not];unfold Dq;omega
theorem yj7(hp:Per p h)(fv:Value){a:Option Addr}{c:Nat}(xs:List Day)(S:Bp p a n xs)(hn:n<=2^40)(q:Day->Bool)
 (hf:∀h,Per p h-> ∀i,i<n->Be prog md fv [.agg #[.J (xs.getD i dz).lo,.J (xs.getD i dz).hi,.J (xs.getD i dz).want]] h fun v O=>v=.bool (q (xs.getD i dz))/\Av h O):
 Ac prog md 194 #[.slice a n c,fv] h fun v O=>v=.J (Dn q xs)/\Av h O:=by
 have hl:=S.len;refine xaz hp func194 fun K=>?_;refine xnq (fun m l=>∃j:Nat,m=n-j/\l=[(0,none,.slice a n c),(1,none,fv),(7,none,.J n),(8,none,.J j)]/\j<=n/\ ∀i,i<j->q (xs.getD i dz)=false) ⟨0,rfl,rfl,Nat.zero_le _,om⟩ sb ?_;rintro _ _ IH ⟨j,rfl,rfl,hj,H⟩;refine cq (fun V=>?_) (fun V=>?_)
 ·refine ax ?_;refine ro_y rfl (xmj rfl (S.all om)) ?_;refine xjp rfl rfl (fun h_ pe=>hf h_ pe j om) ?_;refine cq (fun M=>?_) (fun M=>?_)
  ·refine K.q ?_;rw[Df (z:=dz) (k:=j) om M H];rfl
  ·exact bkq (IH _ om ⟨j+1,rfl,rfl,om,Dt H (by simpa using M)⟩)
 refine K.q ?_;rw[De (z:=dz) (fun i hi=>H i om)];rfl
theorem yr9(O:Per p h){a:Option Addr}{c:Nat}(xs:List Day)(S:Bp p a n xs)(hn:n<=2^40)(q:Day->Bool)
 (hf:∀h,Per p h-> ∀i,i<n->Be prog md fv [.agg #[.J (xs.getD i dz).lo,.J (xs.getD i dz).hi,.J (xs.getD i dz).want]] h fun v H=>v=.bool (q (xs.getD i dz))/\Av h H):
 Ac prog md 111 #[.slice a n c,fv] h fun v H=>v=.bool (decide (0<=Dn q xs))/\Av h H:=by
 refine xaz O func111 fun K=>?_;refine cdq (fun _ M=>yj7 M fv xs S hn q hf) ?_;exact K.q rfl
theorem yt1(size start:Int){a:Option Addr}(n c:Nat)(hn:n<=2^40)(x:Int):Dc prog md p 225 #[.agg #[.J size,.J start,.slice a n c],.J x] (.bool (decide (0<=x/\x<=(n:Int)-1))):=by
 refine xkq func225 fun K b1=>?_;refine cdq ysq ?_;exact K.q rfl
theorem cf57(size start:Int){a:Option Addr}(n c:Nat)(ds:List Day)(D:Bp p a n ds)(hn:n<=2^40):Dc prog md p 57 #[.agg #[.J size,.J start,.slice a n c]] (.J (chk size start ds)):=by
 have hl:=D.len;refine xkq func57 fun K b1=>?_;refine cdq ysq ?_;refine cgq (fun _=>ysq) ?_;refine ax ?_;refine xqz rfl rfl rfl sdu (fun _ _ V=>yr9 V ds D hn E5 (fun h_ V i hi=>xgq k_ (ys9 (ds.getD i dz) _ V))) ?_;refine ax ?_;have key:(0<=Dn E5 ds)<-> ¬ ∀i,i<ds.length->Dq (ds.getD i dz):=by
  rw[Ea];constructor
  ·rintro⟨z,hz,y⟩ H;obtain⟨i,hi,rfl⟩:=List.mem_iff_getElem.1 hz;have:=H i hi;rw[List.getD_eq_getElem?_getD,List.getElem?_eq_getElem hi]at this;simp only[E5,Bool.not_eq_true',decide_eq_false_iff_not]at y;exact y this
  ·intro H;apply Classical.byContradiction;intro z;apply H;intro i hi;apply Classical.byContradiction;intro y;apply z;rw[List.getD_eq_getElem?_getD,List.getElem?_eq_getElem hi]at y;exact⟨ds[i],List.getElem_mem hi,by simpa[E5]using y⟩
 refine cq (fun cc=>?_) (fun cc=>?_)
 ·have O:¬ Ok size start ds:=fun e=>by
   unfold Ok at e;obtain⟨e1,e2,e3,e4,e5,e6⟩:=e;have k:¬ 0<=Dn E5 ds:=fun z=>key.1 z e6;omega
  refine K.q ?_;rw[Kj O];rfl
 ·have M:Ok size start ds:=by
   have k:∀i,i<ds.length->Dq (ds.getD i dz):=Classical.byContradiction fun z=>cc (.inr (key.2 z));unfold Ok;exact⟨om,om,om,om,om,k⟩
  refine K.q ?_;rw[Fv M];rfl
theorem yu1(size start:Int){a:Option Addr}(n c:Nat)(ds:List Day)(D:Bp p a n ds)(hn:n<=2^40)(b:Bool):Dc prog md p 224 #[.agg #[.J size,.J start,.slice a n c],.bool b] (.J (K0 size start ds b)):=by
 refine xkq func224 fun K b1=>?_;refine cdq (cf57 size start n c ds D hn) ?_;refine cq (fun V=>?_) (fun V=>?_)
 ·have M:¬ Ok size start ds:=fun e=>V (Fv e);refine K.q ?_;rw[K0,if_neg M,Kj M];rfl
 have H:Ok size start ds:=B5.1 (Classical.not_not.1 V);refine cq (fun O=>?_) (fun O=>?_)
 ·refine K.q ?_;rw[K0,if_pos H,if_neg O];rfl
 refine K.q ?_;rw[K0,if_pos H,if_pos (Classical.not_not.1 O)];rfl
theorem yi5(b:Nat)(z:Int)(n:Int)(hz:0<=z/\z<=1000/\0<=l/\l<=1000/\0<=n/\n<=1000)
 (H:St z9 zz p h ([(b,.cells #[.J z,.J l] T (0,0))]++zx)):
 Ac prog md 304 #[w_ b 0,.J n] h fun v V=>∃M,(v=.J (max 0 (l+n-z))/\M=[(b,.cells #[.J z,.J (l+n-max 0 (l+n-z))] T (0,0))])/\St z9 zz p V (M++zx):=by
 refine xpj H func304 fun _ _ _ K=>?_;refine drq [] R8 ?_;refine ax ?_;exact xsq func304 rfl rfl fun _ O=>K _ _ ⟨_,⟨rfl,rfl⟩,by simp only[List.flatten_cons,List.flatten_nil,List.append_nil]at O;exact O⟩
theorem yh5(b:Nat)(z:Int)(n:Int)(hz:0<=z/\z<=1000/\0<=l/\l<=1000/\0<=n/\n<=1000)
 (H:St z9 zz p h ([(b,.cells #[.J z,.J l] T (0,0))]++zx)):
 Ac prog md 305 #[w_ b 0,.J n] h fun v V=>∃M,(v=.J (n-min n l)/\M=[(b,.cells #[.J z,.J (l-min n l)] T (0,0))])/\St z9 zz p V (M++zx):=by
 refine xpj H func305 fun _ _ _ K=>?_;refine ax ?_;exact xsq func305 rfl rfl fun _ O=>K _ _ ⟨_,⟨rfl,rfl⟩,by simp only[List.flatten_cons,List.flatten_nil,List.append_nil]at O;exact O⟩
theorem yj5{q7:Pcs}(yv rv:Value)(bY bR:Nat)(size start:Int){a:Option Addr}(n c:Nat)(ds:List Day)(D:Bp p a n ds)(hn:n<=40)(rain:Nat->Int)
 (a9:p bY=some (.cells #[.J size,.J start,.slice a n c] T1 q1))(a6:p bR=some (.cells #[rv] T2 q2))(hs:0<=size/\size<=60/\0<=start)(hd:∀i,i<n->0<=(ds.getD i dz).want/\(ds.getD i dz).want<=200)(a3:∀i,i<n->0<=rain i/\rain i<=20)
 (hr:∀h,Per p h-> ∀i:Nat,i<n->Be prog md rv [.J (i:Nat)] h fun v h'=>v=.J (rain i)/\Av h h')(I:Nat->Pcs->Prop)(J:Pcs->Prop)(a4:I 0 q7)
 (hy:∀i:Nat,i<n-> ∀h X C,I i X->St z9 zz p h (X++C)->Be prog md yv [.J (i:Nat),.agg #[.J (lev size (min start size) (Am ds) rain (i+1)),.J (As size (min start size) (Am ds) rain i),.J (ovr size (min start size) (Am ds) rain i)]] h
  fun v h'=>∃H,((v=.bool true/\I (i+1) H)\/(v=.bool false/\J H))/\St z9 zz p h' (H++C))(O:St z9 zz p h (q7++zx)):
 Ac prog md 303 #[yv,w_ bY 0,w_ bR 0] h fun _ h'=>∃H,(I n H\/J H)/\St z9 zz p h' (H++zx):=by
 have hl:=D.len;refine xpj O func303 fun _ _ _ K=>?_;refine lq fun M=>?_;refine ax ?_;refine xhq (fun m_ l p_ L_=>∃(k:Nat)(Z:Pcs),m_=n-k/\l=[(0,none,yv),(1,none,w_ bY 0),(2,none,w_ bR 0),(4,none,w_ M 0),(18,none,.slice a n c),(19,none,.J (n:Nat)),(20,none,.J (k:Nat))]/\p_=p/\L_=[[(M,.cells #[.J size,.J (lev size (min start size) (Am ds) rain k)] 325 (0,0))],Z,zx]/\k<=n/\I k Z) ⟨0,q7,rfl,rfl,rfl,rfl,Nat.zero_le _,a4⟩ sb ?_;rintro _ _ p _ IH ⟨k,Z,rfl,rfl,rfl,rfl,hk,hI⟩;refine cq (fun cc=>?_) (fun cc=>?_)
 ·have a5:=Di (want:=Am ds) (rain:=rain) (size:=size) (start:=min start size) (n:=n) ⟨om,om⟩ (fun i hi=>(hd i hi).1) k hk;have a7:=hd k om;have a8:=a3 k om;refine ax ?_;refine ro_y rfl (xmj rfl (D.all om)) ?_;refine xfx fun b6=>?_;refine ax ?_;refine xjp rfl rfl (fun _ pe=>hr _ pe k om) ?_;refine xxm [(M,.cells #[.J size,.J (lev size (min start size) (Am ds) rain k)] 325 (0,0))] rfl rfl (fun h C s=>yi5 M size (rain k) om s) ?_;rintro _ _ ⟨rfl,rfl⟩;refine ax ?_;refine xxm [(M,.cells #[.J size,.J (lev size (min start size) (Am ds) rain k+rain k-max 0 (lev size (min start size) (Am ds) rain k+rain k-size))] 325 (0,0))] rfl rfl (fun h C s=>yh5 M size (ds.getD k dz).want om s) ?_;rintro _ _ ⟨rfl,rfl⟩;refine ax ?_;have e1:lev size (min start size) (Am ds) rain k+rain k-max 0 (lev size (min start size) (Am ds) rain k+rain k-size)-min (ds.getD k dz).want (lev size (min start size) (Am ds) rain k+rain k-max 0 (lev size (min start size) (Am ds) rain k+rain k-size))=lev size (min start size) (Am ds) rain (k+1):=by
   simp only[lev,Am];omega
  have e2:(ds.getD k dz).want-min (ds.getD k dz).want (lev size (min start size) (Am ds) rain k+rain k-max 0 (lev size (min start size) (Am ds) rain k+rain k-size))=As size (min start size) (Am ds) rain k:=by
   simp only[As,ovr,Am];omega
  refine ynh Z rfl rfl (Q:=fun v Z'=>(v=.bool true/\I (k+1) Z')\/(v=.bool false/\J Z')) (fun h C s=>?_) ?_
  ·have y:=hy k om h Z C hI s;rw[<- e1,<- e2]at y;exact y
  rw[e1];rintro _ Z1 (⟨rfl,a2⟩|⟨rfl,hJ⟩)
  ·refine ax ?_;refine xcx rfl (fun V=>absurd V s_) (fun V=>?_);exact bkq (IH _ _ _ om ⟨k+1,Z1,rfl,rfl,rfl,rfl,om,a2⟩)
  ·refine ax ?_;refine xcx rfl (fun V=>?_) (fun V=>absurd s_ V);exact xsq func303 rfl rfl fun _ H_=>K _ _ ⟨Z1,.inr hJ,xoh H_⟩
 obtain rfl:k=n:=om;refine ax ?_;exact xvb (f:=303) rfl rfl fun _ H_=>K _ _ ⟨Z,.inl hI,xoh H_⟩
theorem yq1(size start:Int){a:Option Addr}(n c:Nat)(M:rv.cells=#[rv]):Lc prog md p 261 #[.agg #[.J size,.J start,.slice a n c],rv] (fun v p'=>∃(b1 b2:Nat)(T1 T2:TypeId),v=.func (.func 303) #[] #[w_ b1 0,w_ b2 0]/\p' b1=some (.cells #[.J size,.J start,.slice a n c] T1 (0,0))/\p' b2=some (.cells #[rv] T2 (0,0))):=by
 refine xkq func261 fun K b1=>?_;refine bq fun b2=>?_;rw[M];refine xh3 (b:=b1) fun p1 O k1=>?_;refine xh3 (b:=b2) fun V H k2=>?_;refine ax ?_;exact K.r rfl rfl fun _ H_=>(xqq (p:=p) (p':=V) (Q:=fun v p'=>∃(b1 b2:Nat)(T1 T2:TypeId),v=.func (.func 303) #[] #[w_ b1 0,w_ b2 0]/\p' b1=some (.cells #[.J size,.J start,.slice a n c] T1 (0,0))/\p' b2=some (.cells #[rv] T2 (0,0))) H_ (O.trans H) ⟨b1,b2,_,_,rfl,H.le _ _ k1,k2⟩)
theorem yx5(size start:Int){a:Option Addr}(n c:Nat)(ds:List Day)(D:Bp p a n ds)(H:Nat)(O:p H=some (.cells #[.J size,.J start,.slice a n c] T1 q1))(k:Nat)(M:k<n):Dc prog md p 264 #[.J (k:Nat),w_ H 0] (.J (ds.getD k dz).lo):=by
 refine xlq func264 fun K=>?_;refine ro_y rfl (y_lp rfl (by show Aw p ((((adr a).add (k*3)).add 0).add 0)=_;rw[xxt,xxt];exact D.lo M)) ?_;exact K.q rfl
theorem yw1{k o:Int}:Dc prog md p 220 #[.agg #[.J l,.J k,.J o]] (.bool (decide (0<k))):=by
 refine xkq func220 fun K b1=>?_;exact K.q rfl
theorem ya7{n:Int}:Dc prog md p 218 #[.J n] (.tuple #[.J (if n<0 then 0 else n),.J (if n<0 then 3 else 0)]):=by
 refine xlq func218 fun K=>?_;refine cq (fun H=>?_) (fun H=>?_)
 ·refine K.q ?_;rw[if_pos H,if_pos H];rfl
 ·refine K.q ?_;rw[if_neg H,if_neg H];rfl
theorem yy6(i:Int){w:Int}(r:Int)(b:Nat){q:Nat×Nat}(H:p b=some (.cells #[.J r] T q)):Dc prog md p 223 #[.J i,.J w,w_ b 0] (.J (min w r)):=by
 refine xlq func223 fun K=>?_;exact K.q rfl
theorem yx6(i:Int){w:Int}(d e:Int)(hw:0<=w/\w<=1000/\0<=e/\e<=1000)(b1 b2:Nat)(O:p b1=some (.cells #[.J d] T1 q1))(M:p b2=some (.cells #[.J e] T2 q2)):Dc prog md p 226 #[.J i,.J w,w_ b1 0,w_ b2 0] (.J (if i=d then w+e+1 else w)):=by
 refine xlq func226 fun K=>?_;refine cq (fun H=>?_) (fun H=>?_)
 ·refine K.q ?_;rw[if_pos H];rfl
 ·refine K.q ?_;rw[if_neg H];rfl
def Nk(size start:Int)(want rain:Nat->Int)(i:Nat):List Value:=[.J (i:Nat),.agg #[.J (lev size start want rain (i+1)),.J (Cist.As size start want rain i),.J (ovr size start want rain i)]]
theorem yil{O H:Nat}{size start:Int}{a:Option Addr}{c:Nat}(D:Bp p a n ds)(hn:n<=40)(rain:Nat->Int)
 (a3:p O=some (.cells #[.J size,.J start,.slice a n c] T1 q1))(a2:p H=some (.cells #[rv] T2 q2))(hs:0<=size/\size<=60/\0<=start)(hd:∀i,i<n->0<=(ds.getD i dz).want/\(ds.getD i dz).want<=200)(V:∀i,i<n->0<=rain i/\rain i<=20)
 (hr:∀p',PLe p p'-> ∀h,Per p' h-> ∀i:Nat,i<n->Be prog md rv [.J (i:Nat)] h fun v h'=>v=.J (rain i)/\Av h h'):
 Nm prog md p (.func (.func 303) #[] #[w_ O 0,w_ H 0]) ((List.range n).map (Nk size (min start size) (Am ds) rain)):=by
 intro h z9 zz p' q7 zx yv I Ex M h0 hy s;refine xgq (first:=[]) (cap:=[w_ O 0,w_ H 0]) k_ ((yj5 yv rv O H size start n c ds (Sl.mono M D) hn rain (M _ _ a3) (M _ _ a2) hs hd V (hr p' M) I Ex h0 (fun i hi h X C hI s'=>?_) s).mono fun _ _⟨X',q,s'⟩=>⟨X',by rw[List.length_map,List.length_range];exact q,s'⟩);have z:=hy i (by simpa using hi) p' h X C (PLe.refl _) hI s';have e:((List.range n).map (Nk size (min start size) (Am ds) rain)).getD i []=Nk size (min start size) (Am ds) rain i:=by simp[List.getD_eq_getElem?_getD,hi]
 rw[e]at z;exact z
theorem yog(size start:Int){a:Option Addr}(n c:Nat)(ds:List Day)(D:Bp p a n ds)(hn:n<=40)(hs:0<=size/\size<=60/\0<=start)(hd:Dok ds):Dc prog md p 221 #[.agg #[.J size,.J start,.slice a n c]] (.bool (decide (C1 size start ds))):=by
 intro h hp;have hl:=D.len;refine xhz hp func221 fun _ _ _ K=>?_;refine bq fun b1=>?_;refine lq fun b2=>?_;refine ax ?_;refine xqw (b:=b1) fun p1 V h1=>?_;refine cpq (yq1 size start n c rfl) ?_;rintro _ p2 g2 ⟨bY,bR,T1,T2,rfl,hY,hR⟩;have D2:Bp p2 a n ds:=Sl.mono (V.trans g2.le) D;have h2:=g2.le _ _ h1;refine ax ?_;refine yej (fun i L=>L=[[(b2,.cells #[.bool false] 4 (0,0))]]/\ ∀j,j<i-> ¬ 0<Cist.As size (min start size) (Am ds) (Fz ds) j) (fun L=>L=[[(b2,.cells #[.bool false] 4 (0,0))]]/\ ¬ C1 size start ds) rfl (yil D2 hn (Fz ds) hY hR hs (fun i hi=>(hd i om).2) (fun i hi=>by have z:=(hd i om).1;show 0<=(ds.getD i dz).lo/\(ds.getD i dz).lo<=20;omega) (fun p' le h pe i hi=>xgq (first:=[]) (cap:=[w_ b1 0]) k_ (yx5 size start n c ds (Sl.mono le D2) b1 (le _ _ h2) i hi h pe))) ⟨rfl,om⟩ ?_ ?_ ?_ rfl ?_
 ·intro lo lp i _ p' C a4 a3 M hi le ⟨e,H⟩ a2 nx nr;subst e;have e:((List.range n).map (Nk size (min start size) (Am ds) (Fz ds))).getD i []=Nk size (min start size) (Am ds) (Fz ds) i:=by
   rw[List.length_map,List.length_range]at hi;simp[List.getD_eq_getElem?_getD,hi]
  rw[e];show RE _ _ ((9,none,.agg #[.J (lev size (min start size) (Am ds) (Fz ds) (i+1)),.J (Cist.As size (min start size) (Am ds) (Fz ds) i),.J (ovr size (min start size) (Am ds) (Fz ds) i)])::_) _ _;refine lq fun b4=>?_;refine ax ?_;dsimp only at nx nr⊢;refine xts a2 ?_;refine cdq yw1 ?_;refine cq (fun cc=>?_) (fun cc=>?_)
  ·refine ax ?_;rw[List.length_map,List.length_range]at hi;exact bkq (nr _ [] _ ⟨rfl,fun z=>z i om cc⟩)
  ·exact bkq (nx [] _ ⟨rfl,yck H cc⟩)
 ·rintro r _ ⟨e,H⟩;subst e;rw[List.length_map,List.length_range]at H;dsimp only;refine ax ?_;refine xhk (LL':=[Dg [r],[(b2,.cells #[.bool true] 4 (0,0))]]) ?_ (fun h s=>by
   refine s.perm ?_;simp only[Dg,List.map_cons,List.map_nil,List.flatten_cons,List.flatten_nil,List.append_nil];exact List.Perm.swap _ _ _)
  exact xqs (rs:=[r]) (vs:=[.bool true]) func221 rfl (xd1 rfl .nil) fun _ O=>K _ _ ⟨by rw[decide_eq_true (show C1 size start ds from fun i hi=>H i om)];rfl,O.kept⟩
 ·rintro r _ ⟨e,H⟩;subst e;dsimp only;refine xhk (LL':=[Dg [r],[(b2,.cells #[.bool false] 4 (0,0))]]) ?_ (fun h s=>by simpa[Dg]using s);exact xqs (rs:=[r]) (vs:=[.bool false]) func221 rfl (xd1 rfl .nil) fun _ O=>K _ _ ⟨by rw[decide_eq_false H];rfl,O.kept⟩
 ·intro i hi;rw[List.length_map,List.length_range]at hi;simp[List.getD_eq_getElem?_getD,hi,Nk]
theorem cf70{a:Option Addr}(n c:Nat)(xs:List Day)(S:Bp p a n xs)(hn:n<=2^20):Nc prog md p 70 #[.slice a n c] (fun v Y=>Aa 102 3 v (dcs xs) Y):=by
 have hl:=S.len;refine xlq func70 fun K=>?_;refine ro_y rfl (ydx rfl) ?_;refine cq (fun M=>?_) (fun M=>?_)
 ·refine ax ?_;have e:xs=[]:=by
   by_cases O:0<n
   ·rw[S.ne O]at M;cases M
   ·exact List.eq_nil_of_length_eq_zero om
  subst e;refine xjj 102 3 fun o=>?_;exact K.r rfl rfl fun _ H=>⟨_,o,Eu H⟩
 refine ax ?_;refine xxx rfl fun v Y o=>?_;refine ax ?_;refine xiw rfl rfl o S (D9 xs) (by simp[chs];omega) (fun v' Y' V=>?_);refine ax ?_;exact K.r rfl rfl fun _ H=>⟨_,V,Eu H⟩
theorem yv1(hp:Per p h)(size start:Int){a:Option Addr}(n c:Nat)(ds:List Day)(D:Bp p a n ds)(hn:n<=40)(wf:Nat->Int->Int)
 (hf:∀h,Per p h-> ∀i:Nat,i<n->Be prog md fv [.J (i:Nat),.J (ds.getD i dz).want] h fun v h'=>v=.J (wf i (ds.getD i dz).want)/\Av h h'):
 Ac prog md 222 #[.agg #[.J size,.J start,.slice a n c],fv] h fun v h'=>∃Y,(∃w,v=.agg #[.J size,.J start,w]/\Aa 102 3 w (dcs (Hb wf ds)) Y)/\New h h' Y:=by
 have O:=D.len;refine xtq hp func222 fun K b2=>?_;refine lq fun b4=>?_;refine ax ?_;refine xjb rfl rfl (cf70 n c ds D om) ?_;intro v Y o;obtain⟨V,M,rfl,-⟩:=o.val;rw[Aj,O]at o⊢;refine ax ?_;refine xhq (fun m_ l p_ L_=>∃(k:Nat)(Y:Pcs),m_=n-k/\l=[(1,none,fv),(2,none,w_ b2 0),(4,none,w_ b4 0),(12,none,.J (n:Nat)),(13,none,.J (k:Nat))]/\p_=p/\L_=[[(b2,.cells #[.J size,.J start,.slice V n M] 31 (0,0))],Y,[(b4,.cells #[.J 0,.J 0,.slice none 0 0] 31 (0,0))]]/\k<=n/\Aa 102 3 (.slice V n M) (dcs (Hy wf ds k)) Y) ⟨0,Y,rfl,rfl,rfl,rfl,Nat.zero_le _,by rw[Hz];exact o⟩ sb ?_;clear o;rintro _ _ p _ IH ⟨k,Y,rfl,rfl,rfl,rfl,hk,H⟩;have a2:(dcs (Hy wf ds k)).length=n:=by rw[Aj,By,O]
 refine cq (fun cc=>?_) (fun cc=>?_)
 ·refine drq [] R12 ?_;refine de_y rfl rfl (xew rfl rfl sdt sdt H om) ?_;refine ex ?_;refine de_y rfl rfl (xgb rfl sdt H rfl (Fp om) rfl (q:=2)) ?_;refine ex ?_;refine xk8 rfl rfl rfl sdt rfl sdt (xgz fun h_ pe=>hf h_ pe k om) ?_;refine xa ?_;refine ro_y rfl (xkb rfl rfl H om) ?_;refine ax ?_;refine xkk (j:=2) rfl rfl H rfl rfl rfl rfl (Fp om) (Nat.le_refl _) fun Y3 o3=>?_;have o3:=o3.as (show _=dcs (Hy wf ds (k+1)) from Hr om);exact bkq (IH _ _ _ om ⟨k+1,Y3,rfl,rfl,rfl,rfl,om,o3⟩)
 obtain rfl:n=k:=om;refine ax ?_;exact K.e rfl (xpq rfl .nil) fun h_ H_=>⟨Y,⟨.slice V n M,rfl,H.as (by rw[Hb,O])⟩,Eu H_⟩
theorem yy5(hp:Per p h)(fv:Value){a:Option Addr}{c:Nat}(xs:List Day)(S:Bp p a n xs)(hn:n<=2^40)(q:Day->Bool)
 (hf:∀h,Per p h-> ∀i,i<n->Be prog md fv [.agg #[.J (xs.getD i dz).lo,.J (xs.getD i dz).hi,.J (xs.getD i dz).want]] h fun v O=>v=.bool (q (xs.getD i dz))/\Av h O):
 Ac prog md 263 #[.slice a n c,fv] h fun v O=>v=.J (Dn q xs)/\Av h O:=by
 have hl:=S.len;refine xaz hp func263 fun K=>?_;refine xnq (fun m l=>∃j:Nat,m=n-j/\l=[(0,none,.slice a n c),(1,none,fv),(7,none,.J n),(8,none,.J j)]/\j<=n/\ ∀i,i<j->q (xs.getD i dz)=false) ⟨0,rfl,rfl,Nat.zero_le _,om⟩ sb ?_;rintro _ _ IH ⟨j,rfl,rfl,hj,H⟩;refine cq (fun V=>?_) (fun V=>?_)
 ·refine ax ?_;refine ro_y rfl (xmj rfl (S.all om)) ?_;refine xjp rfl rfl (fun h_ pe=>hf h_ pe j om) ?_;refine cq (fun M=>?_) (fun M=>?_)
  ·refine K.q ?_;rw[Df (z:=dz) (k:=j) om M H];rfl
  ·exact bkq (IH _ om ⟨j+1,rfl,rfl,om,Dt H (by simpa using M)⟩)
 refine K.q ?_;rw[De (z:=dz) (fun i hi=>H i om)];rfl
theorem yz6(O:Per p h)(fv:Value){a:Option Addr}(n c:Nat)(S:Bp p a n xs)(hn:n<=2^40)(q:Day->Bool)
 (hf:∀h,Per p h-> ∀i,i<n->Be prog md fv [.agg #[.J (xs.getD i dz).lo,.J (xs.getD i dz).hi,.J (xs.getD i dz).want]] h fun v H=>v=.bool (q (xs.getD i dz))/\Av h H):
 Ac prog md 219 #[.slice a n c,fv] h fun v H=>v=.J (Dn q xs)/\Av h H:=by
 refine xaz O func219 fun K=>?_;refine cdq (fun _ M=>yy5 M fv xs S hn q hf) ?_;exact K.q rfl
theorem yt8{size start:Int}{a:Option Addr}{c:Nat}(D:Bp p a n ds)(hn:n<=40):Dc prog md p 140 #[.agg #[.J size,.J start,.slice a n c]] (.tuple #[.J (if Ok size start ds then Cg size start ds 20 else 0),.J (chk size start ds)]):=by
 intro h hp;have hl:=D.len;refine xtq hp func140 fun K b1=>?_;refine ax ?_;refine xpx rfl rfl (cf57 size start n c ds D om) ?_;refine cq (fun cc=>?_) (fun cc=>?_)
 ·have a4:¬ Ok size start ds:=fun e=>cc (Fv e);refine K.q ?_;rw[if_neg a4];rfl
 have c0:=Classical.not_not.1 cc;have O:Ok size start ds:=B5.1 c0;have a3:0<=size/\size<=60/\0<=start:=⟨O.1,O.2.1,O.2.2.1⟩
 have M:=O.dok;refine lq fun b5=>?_;refine xqw (b:=b1) fun p1 a7 h1=>?_;have D:=D.mono a7;refine ax ?_;refine xhq (fun m_ l p_ L_=>∃(k:Nat)(H:Int),m_=k+1/\l=[(1,none,w_ b1 0),(5,none,w_ b5 0)]/\p_=p1/\L_=[[(b5,.cells #[.J H] 3 (0,0))]]/\H=k/\k<=20/\Cg size start ds k=Cg size start ds 20) ⟨20,20,rfl,rfl,rfl,rfl,rfl,Nat.le_refl _,rfl⟩ sb ?_;rintro _ _ p1 _ IH ⟨k,H,rfl,rfl,rfl,rfl,a2,hk,hR⟩;refine ax ?_;refine ytm (Q:=fun v Y=>∃w,v=.agg #[.J size,.J start,w]/\Aa 102 3 w (dcs (Bw H ds)) Y) (first:=[]) rfl rfl (fun h s=>xct (Z:=[(b5,.cells #[.J H] 3 (0,0))]) s s_ fun p' a5 le hz=>yv1 a5 size start n c ds (D.mono le) hn (fun _ w=>min w H) (fun h_ pe i hi=>xgq (first:=[]) (cap:=[w_ b5 0]) k_ (yy6 i H b5 (hz (b5,.cells #[.J H] 3 (0,0)) s_) h_ pe))) ?_;rintro _ Y ⟨w,rfl,o⟩;refine xsb o (by rw[Aj,Bw,B7,hl]) fun p2 a6 c6 a8 ev D2=>?_;subst ev;have a9:Dok (Bw H ds):=xe8 M fun i hi=>by have z:=(M i hi).2;show 0<=min _ _/\min _ _<=_;omega
 refine cdq (yog size start n c6 (Bw H ds) D2 hn a3 a9) ?_;refine cq (fun V=>?_) (fun V=>?_)
 ·have V:¬ C1 size start (Bw (k:Nat) ds):=by rw[<- a2];simpa using V
  obtain⟨b0,e⟩:=yyc ⟨a3.1,a3.2.2⟩ M V;refine ax ?_;refine xtv a8 ?_;exact bkq (IH _ _ _ om ⟨k-1,H-1,rfl,rfl,rfl,rfl,om,om,by rw[<- e];exact hR⟩)
 ·have V:C1 size start (Bw (k:Nat) ds):=by rw[<- a2];exact Classical.not_not.1 (by simpa using V)
  refine K.q ?_;rw[if_pos O,<- hR,ypt V,c0,<- a2];rfl
theorem yv8{size start:Int}{a:Option Addr}{c:Nat}(D:Bp p a n ds)(hn:n<=40):Dc prog md p 138 #[.agg #[.J size,.J start,.slice a n c]] (.tuple #[.J (Gy size start ds).1,.J (Gy size start ds).2]):=by
 have hl:=D.len;refine xkq func138 fun K b1=>?_;refine ax ?_;refine xpx rfl rfl (cf57 size start n c ds D om) ?_;refine cq (fun cc=>?_) (fun cc=>?_)
 ·have V:¬ Ok size start ds:=fun e=>cc (Fv e);refine K.q ?_;rw[Gy,if_neg V,Kj V];rfl
 have c0:=Classical.not_not.1 cc;have O:Ok size start ds:=B5.1 c0;have a2:0<=start:=O.2.2.1;have a3:=O.dok;refine ax ?_;refine xhq (fun m_ l p_ L_=>∃(k:Nat)(nn:Int),m_=61-k/\l=[(1,none,w_ b1 0)]/\p_=p/\L_=[[(b1,.cells #[.J nn,.J start,.slice a n c] 31 (0,0))]]/\nn=k/\k<=61/\K9 (fun k=>decide (C1 (k:Nat) start ds)) k (61-k)=K9 (fun k=>decide (C1 (k:Nat) start ds)) 0 61) ⟨0,0,rfl,rfl,rfl,rfl,rfl,Nat.zero_le _,rfl⟩ sb ?_;rintro _ _ p _ IH ⟨k,nn,rfl,rfl,rfl,rfl,M,hk,hR⟩;refine cq (fun cd=>?_) (fun cd=>?_)
 ·refine ax ?_;refine xpx rfl rfl (yog nn start n c ds D hn ⟨om,om,a2⟩ a3) ?_;refine cq (fun H=>?_) (fun H=>?_)
  ·have H:C1 (k:Nat) start ds:=by rw[<- M];simpa using H
   refine K.q ?_;rw[Gy,if_pos O,<- hR,xy4 om (decide_eq_true H),found,<- M];rfl
  ·have H:¬ C1 (k:Nat) start ds:=by rw[<- M];simpa using H
   exact bkq (IH _ _ _ om ⟨k+1,nn+1,rfl,rfl,rfl,rfl,om,om,by rw[<- xg0 om (decide_eq_false H)];exact hR⟩)
 refine K.q ?_;rw[Gy,if_pos O,<- hR,yib om];rfl
theorem yr8{size start:Int}{a:Option Addr}{c:Nat}(D:Bp p a n ds)(hn:n<=40)(H:Int):Dc prog md p 142 #[.agg #[.J size,.J start,.slice a n c],.J H] (.tuple #[.J (C8 size start ds H).1,.J (C8 size start ds H).2]):=by
 intro h hp;have hl:=D.len;refine xtq hp func142 fun K b2=>?_;refine bq fun b3=>?_;refine drq [] R4 ?_;refine xhv rfl rfl rfl rfl trivial (yt1 size start n c om H) ?_;refine ex ?_;have eD:decide (0<=H/\H<=(n:Int)-1)=decide (Dx ds H):=decide_eq_decide.2 (by unfold Dx;omega);rw[eD];refine xpx rfl rfl (yu1 size start n c ds D om (decide (Dx ds H))) ?_;refine cq (fun cc=>?_) (fun cc=>?_)
 ·refine K.q ?_;rw[C8,if_neg cc];rfl
 have c0:=Classical.not_not.1 cc;have O:Ok size start ds:=Classical.byContradiction fun z=>by rw[K0,if_neg z]at c0;omega
 have a5:Dx ds H:=Classical.byContradiction fun z=>by rw[K0,if_pos O,decide_eq_false z]at c0;simp at c0
 have a4:0<=size/\size<=60/\0<=start:=⟨O.1,O.2.1,O.2.2.1⟩
 have a2:=O.dok;refine cdq (yog size start n c ds D hn a4 a2) ?_;refine cq (fun cd=>?_) (fun cd=>?_)
 ·have cd:¬ C1 size start ds:=by simpa using cd
  refine K.q ?_;rw[C8,if_pos c0,if_neg cd];rfl
 have cd:C1 size start ds:=Classical.not_not.1 (by simpa using cd);refine lq fun b7=>?_;refine xqw (b:=b3) fun p1 a8 h1=>?_;have D:=D.mono a8;refine ax ?_;refine xhq (fun m_ l p_ L_=>∃(k:Nat)(M:Int),m_=100-k/\l=[(2,none,w_ b2 0),(3,none,w_ b3 0),(7,none,w_ b7 0)]/\p_=p1/\L_=[[(b7,.cells #[.J M] 3 (0,0))],[(b2,.cells #[.J size,.J start,.slice a n c] 31 (0,0))]]/\M=k/\k<=60/\K9 (fun k=>decide (¬ C1 size start (wanted H ((k:Nat)+1) ds))) k (100-k)=Pu size start ds H) ⟨0,0,rfl,rfl,rfl,rfl,rfl,Nat.zero_le _,rfl⟩ sb ?_;rintro _ _ p1 _ IH ⟨k,M,rfl,rfl,rfl,rfl,a3,hk,hR⟩;refine ax ?_;have V:∀i,i<n->0<=(ds.getD i dz).want/\(ds.getD i dz).want<=20:=fun i hi=>by have z:=O.2.2.2.2.2 i om;unfold Dq at z;omega
 refine ytm (Q:=fun v Y=>∃w,v=.agg #[.J size,.J start,w]/\Aa 102 3 w (dcs (wanted H (M+1) ds)) Y) (first:=[]) rfl rfl (fun h s=>xct (Z:=[(b7,.cells #[.J M] 3 (0,0))]) s s_ fun p' a7 le hz=>yv1 a7 size start n c ds (D.mono le) hn (Cist.Do H (M+1)) (fun h_ pe i hi=>xgq (first:=[]) (cap:=[w_ b3 0,w_ b7 0]) k_ ((yx6 i H M (by have z:=V i hi;omega) b3 b7 (le _ _ h1) (hz (b7,.cells #[.J M] 3 (0,0)) s_) h_ pe).mono fun v h' e=>⟨e.1.trans (by unfold Cist.Do;rw[Int.add_assoc]),e.2⟩))) ?_;rintro _ Y ⟨w,rfl,o⟩;refine xsb o (by rw[Aj,wanted,B7,hl]) fun p2 a6 c6 a9 ev D2=>?_;subst ev;have b0:Dok (wanted H (M+1) ds):=xe8 a2 fun i hi=>by
  have z:=V i om;unfold Cist.Do;split<;>omega
 refine cdq (yog size start n c6 (wanted H (M+1) ds) D2 hn a4 b0) ?_;refine cq (fun ce=>?_) (fun ce=>?_)
 ·have ce:C1 size start (wanted H ((k:Nat)+1) ds):=by rw[<- a3];simpa using ce
  have b4:k<60:=by
   apply Classical.byContradiction;intro z;exact xkp a4 a2 a5 (show 60<(k:Int)+1 by omega) ce
  refine ax ?_;refine xtv a9 ?_;exact bkq (IH _ _ _ om ⟨k+1,M+1,rfl,rfl,rfl,rfl,om,om,by rw[<- xg0 om (decide_eq_false (fun z=>z ce))];exact hR⟩)
 ·have ce:¬ C1 size start (wanted H ((k:Nat)+1) ds):=by rw[<- a3];simpa using ce
  refine K.q ?_;rw[C8,if_pos c0,if_pos cd,<- hR,xy4 om (decide_eq_true ce),found,<- a3];rfl
theorem yb6(md:Md)(size start:Int){a:Option Addr}(n c:Nat)(ds:List Day)(D:Bp p a n ds)(H:Nat)(q1:Nat×Nat)(O:p H=some (.cells #[.J size,.J start,.slice a n c] T1 q1))(k:Nat)(M:k<n):Dc prog md p 256 #[.J (k:Nat),w_ H 0] (.J (ds.getD k dz).lo):=by
 refine xlq func256 fun K=>?_;refine ro_y rfl (y_lp rfl (by show Aw p ((((adr a).add (k*3)).add 0).add 0)=_;rw[xxt,xxt];exact D.lo M)) ?_;exact K.q rfl
theorem ya6(md:Md)(size start:Int){a:Option Addr}(n c:Nat)(ds:List Day)(D:Bp p a n ds)(H:Nat)(q1:Nat×Nat)(O:p H=some (.cells #[.J size,.J start,.slice a n c] T1 q1))(k:Nat)(M:k<n):Dc prog md p 257 #[.J (k:Nat),w_ H 0] (.J (ds.getD k dz).hi):=by
 refine xlq func257 fun K=>?_;refine ro_y rfl (y_lp rfl (by show Aw p ((((adr a).add (k*3)).add 0).add 1)=_;rw[xxt];exact D.hi M)) ?_;exact K.q rfl
def Ll(H bD:Nat)(ds:List Day)(h:Heap):Prop:=∃w X,Aa 247 3 w (dcs ds) X/\(ds.length=0->X=[])/\h[bD]?=some (.cells #[w] 239 (0,0))/\ ∀x∈X,h[x.1]?=some x.2/\H<=x.1
theorem xwg{H:Nat}{h':Heap}(k:Av h h')(x:Ll H bD ds h):Ll H bD ds h':=by
 obtain⟨w,X,o,h0,V,M⟩:=x;exact⟨w,X,o,h0,(k.C3 _ (xix V)).trans V,fun x O=>⟨(k.C3 _ (xix (M x O).1)).trans (M x O).1,(M x O).2⟩⟩
def Mi(H bD M:Nat)(d e:List Day)(k:Nat)(h:Heap):Prop:=if k=0 then Ll H bD d h else Ll H M e h
theorem ytq{H O:Nat}{e:List Day}(k:Nat)(h h':Heap)(V:Av h h')(x:Mi H bD O d e k h):Mi H bD O d e k h':=by
 unfold Mi at x⊢;split at x
 ·rename_i M;rw[if_pos M];exact xwg V x
 ·rename_i M;rw[if_neg M];exact xwg V x
instance{H:Heap}:Stb (fun h=>Av H h):=⟨fun _ _ a b=>a.trans b⟩
theorem yz5(md:Md)(bW bD bY bO:Nat)(zY zO:Nat×Nat)(size start:Int){a:Option Addr}(n c:Nat)(ds:List Day)(D:Bp p a n ds)(hn:n<=40)(h1:rv.cells=#[rv])(rain:Nat->Int)
 (hY:p bY=some (.cells #[.J size,.J start,.slice a n c] 31 zY))(hO:p bO=some (.cells #[w_ bD 0,rv] 293 zO))(hs:0<=size/\size<=60/\0<=start)(hd:∀i,i<n->0<=(ds.getD i dz).want/\(ds.getD i dz).want<=200)(O:∀i,i<n->0<=rain i/\rain i<=20)
 (hr:∀(p':Ab),PLe p p'-> ∀h i,Per p' h->i<n->Be prog md rv [.J ((i:Nat):Int)] h fun v h'=>v=.J (rain i)/\Av h h')(a4:St h [bD] p h [(bD,.cells #[.slice none 0 0] 239 (0,0))])
 (K:∀tm td h' w X(A:Pcs)p',Aa 247 3 w (dcs (side size (min start size) (Am ds) rain n)) X->(n=0->X=[])->St h [bD] p' h' (A++((bD,.cells #[w] 239 (0,0))::(X++[])))->Go.X.Reach prog md (G (FR (B 259 .dfd) tm [dcall 260 #[w_ bW 0]] td) (zq::cs)) h' Stop):
 Go.X.Reach prog md (G (Frame.enter prog 259 #[w_ bW 0,w_ bY 0,w_ bO 0] .deferred) (zq::cs)) h Stop:=by
 refine Qf (LL:=[[(bD,.cells #[.slice none 0 0] 239 (0,0))]]) a4 func259 ?_;refine ax ?_;refine ylc rfl ?_;refine lq fun b1=>?_;refine cpq (yq1 size start n c h1) ?_;rintro _ p2 g2 ⟨b3,bR,T1,T2,rfl,a6,hR⟩;have D2:Bp p2 a n ds:=Sl.mono g2.le D;have a8:=g2.le _ _ hO;refine ax ?_;refine xhk (LL':=[[(b1,.cells #[.J 0] 3 (0,0))],[(bD,.cells #[.slice none 0 0] 239 (0,0))],[]]) ?_ (fun h s=>s);refine xc6 (fun i L=>∃(sm:Int)(w:Value)(V:Pcs),L=[[(b1,.cells #[.J sm] 3 (0,0))],[(bD,.cells #[w] 239 (0,0))],V]/\Aa 247 3 w (dcs (side size (min start size) (Am ds) rain i)) V/\sm=sumTo (ovr size (min start size) (Am ds) rain) i/\(i=0->V=[])) rfl (yil D2 hn rain a6 hR hs hd O (fun p' le h pe i hi=>hr p' (g2.le.trans le) h i pe hi)).c ⟨0,_,[],rfl,Aa.empty _ _,rfl,fun _=>rfl⟩ ?_ ?_ rfl ?_
 ·intro lo lp i _ p' C b0 a7 a2 hi le ⟨sm,w,V,e,o1,M,H⟩ a9 nx;subst e;rw[List.length_map,List.length_range]at hi;have e:((List.range n).map (Nk size (min start size) (Am ds) rain)).getD i []=Nk size (min start size) (Am ds) rain i:=by simp[List.getD_eq_getElem?_getD,hi]
  rw[e];have a5:=xk0 (size:=size) (start:=min start size) (want:=Am ds) (rain:=rain) (n:=n) ⟨om,om⟩ (fun i hi=>(hd i hi).1) O i om;have b4:=xk1 (size:=size) (start:=min start size) (want:=Am ds) (rain:=rain) (n:=n) ⟨om,om⟩ (fun i hi=>(hd i hi).1) O hi;rw[<- M]at a5;have b6:=le _ _ a8;show RE _ _ ((11,none,.agg #[.J (lev size (min start size) (Am ds) rain (i+1)),.J (Cist.As size (min start size) (Am ds) rain i),.J (ovr size (min start size) (Am ds) rain i)])::_) _ _;refine lq fun b5=>?_;refine ax ?_;dsimp only at nx⊢;refine xts a9 ?_;refine ax ?_;refine xf6 [7,8] R9 V ?_;refine ex ?_;refine xvz rfl rfl fun v2 Y2 o2=>?_;refine xj2 rfl rfl rfl o1 o2 (xu3 rfl) (by rw[Aj,B9];have:(chs 3 1 [Value.J 0,.J 0,.J 0]).length=1:=rfl;simp only[List.length_cons,List.length_nil,chs];omega) fun v3 Y3 o3=>?_;have o3:=o3.as (show _=dcs (side size (min start size) (Am ds) rain (i+1)) by rw[xtt,<- M];rfl);obtain⟨a3,c3,rfl,_⟩:=o3.val;refine ex ?_;exact bkq (nx [] _ ⟨_,_,Y3,rfl,o3,by rw[sumTo,<- M],om⟩)
 ·rintro r _ ⟨sm,w,V,e,o1,_,H⟩;subst e;rw[List.length_map,List.length_range]at o1 H;dsimp only;refine ax ?_;exact ywc fun tm td h' s=>K _ _ _ _ _ [_,_] _ o1 H s
 ·intro i hi;rw[List.length_map,List.length_range]at hi;simp[List.getD_eq_getElem?_getD,hi,Nk]
theorem xur{V:Heap}{pp q8 bW bY bO:Nat}{size start:Int}{a:Option Addr}{c:Nat}(D:Bp (Hp V) a n ds)(hn:n<=40)(g:FuncId)(rain:Nat->Int)
 (a8:V[bD]?=some (.cells #[.slice none 0 0] 239 (0,0)))(hY:HC V bY #[.J size,.J start,.slice a n c] 31)(hO:HC V bO #[w_ bD 0,.func (.func g) #[] #[w_ bY 0]] 293)
 (a3:bY≠bD/\bO≠bD)(b5:0<n->(adr a).block≠bD)(hs:0<=size/\size<=60/\0<=start)(hd:∀i,i<n->0<=(ds.getD i dz).want/\(ds.getD i dz).want<=200)(b0:∀i,i<n->0<=rain i/\rain i<=20)
 (hr:∀(p:Ab)(z:Nat×Nat),Bp p a n ds->p bY=some (.cells #[.J size,.J start,.slice a n c] 31 z)-> ∀h i,Per p h->i<n->
  Be prog (.own false) (.func (.func g) #[] #[w_ bY 0]) [.J ((i:Nat):Int)] h fun v h'=>v=.J (rain i)/\Av h h')
 (b6:∀h,Ll V.size bD (side size (min start size) (Am ds) rain n) h->Φ h):
 Go.X.Reach prog (.own false) (born prog {target:=.fn (.func 259) #[w_ bW 0,w_ bY 0,w_ bO 0],args:=#[]}) V (Fj prog ⟨291,bW,S,z9,Z,pp,q8⟩ Φ):=by
 refine yuq (Φ:=fun h=>Av V h) func259 k_ k_ (fun h hk=>?_) V (.refl _);have a7:h[bD]?=some (.cells #[.slice none 0 0] 239 (0,0)):=(hk.C3 _ (xix a8)).trans a8;obtain⟨zY,b8⟩:=hY.C3 hk;obtain⟨zO,b9⟩:=hO.C3 hk
 let p:Ab:=fun b=>if b=bD then none else h[b]?
 have a4:p bY=some (.cells #[.J size,.J start,.slice a n c] 31 zY):=by simp only[p,if_neg a3.1];exact b8
 have c2:p bO=some (.cells #[w_ bD 0,.func (.func g) #[] #[w_ bY 0]] 293 zO):=by simp only[p,if_neg a3.2];exact b9
 have Dp:Bp p a n ds:=by
  refine⟨Sl.len D,Sl.wid D,Sl.ne D,fun i e hi j v hj=>?_⟩;have hx:=(xgp hk).cell (Sl.get D i e hi j v hj);have b3:0<n:=by have:=(List.getElem?_eq_some_iff.1 hi).1;have:=Sl.len D;omega
  have a6:(((adr a).add (i*3)).add j).block≠bD:=by rw[xqh,xqh];exact b5 b3
  unfold Aw at hx⊢;simp only[p,if_neg a6];exact hx
 have a5:St h [bD] p h [(bD,.cells #[.slice none 0 0] 239 (0,0))]:=by
  refine⟨fun _ _ _=>rfl,Nat.le_refl _,fun b o e=>?_,fun x hx=>?_,s_⟩
  ·simp only[p]at e;split at e
   ·cases e
   ·exact e
  ·obtain rfl:=List.mem_singleton.1 hx;exact⟨a7,by simp[p],.inr s_⟩
 refine yz5 (.own false) bW bD bY bO zY zO size start n c ds Dp hn rfl rain a4 c2 hs hd b0 (fun p' le H i b4 hi=>hr p' zY (Sl.mono le Dp) (le _ _ a4) H i b4 hi) a5 fun tm td H w X A p' o h0 O=>?_;refine ykm (Φ:=fun M=>Av H M) Tryz.M4 func259 rfl (fun ge c1 M b7=>xrk ⟨c1,b6 M (xwg b7 ⟨w,X,o,fun e=>h0 (by rw[B9]at e;exact e),?_,fun x hx=>?_⟩)⟩) H (.refl _)
 ·exact(O.own (bD,.cells #[w] 239 (0,0)) s_).1
 ·obtain⟨h1,h2,h3⟩:=O.own x (by simp[hx]);refine⟨h1,Nat.le_trans hk.size (h3.resolve_right fun hm=>?_)⟩;have a9:=O.nod;rw[List.map_append,List.nodup_append]at a9;have a2:=a9.2.1;simp only[List.map_cons,List.nodup_cons]at a2;refine a2.1 ?_;have e:x.1=bD:=by simpa using hm
  rw[<- e];exact List.mem_map.2 ⟨x,by simp[hx],rfl⟩
theorem yjn{X:Pcs}(o:Aa 247 3 w (dcs ds) X)(hn:0<ds.length)(hX:∀x∈X,h[x.1]?=some x.2):∃b o',X=[(b,o')]/\Exc h b:=by
 have M:(dcs ds).length=ds.length:=Aj ds;obtain⟨hw,⟨_,V,_⟩|⟨b,cs,cap,O,_,rfl,H,hlen,_⟩⟩:=o
 ·rw[V]at M;simp at M;omega
 ·refine⟨b,_,rfl,cs.toArray,247,hX (b,.cells cs.toArray 247 (0,0)) s_,?_⟩;have:(dcs ds).flatten.length=(dcs ds).length*3:=xjq hw;simp only[List.size_toArray,H,List.length_append];omega
theorem xm6{X:Pcs}(o:Aa 247 3 w (dcs ds) X)(O:ds.length=0->X=[])(H:∀x∈X,h[x.1]?=some x.2):(∀x∈X,Exc h x.1)/\(X.map (·.1)).Nodup:=by
 by_cases e:ds.length=0
 ·rw[O e];simp
 ·obtain⟨b,V,rfl,ex⟩:=yjn o om H;exact⟨fun x M=>by rw[List.mem_singleton.1 M];exact ex,s_⟩
theorem ysw{zj he:Heap}{p8:Ab}{L:Pcs}{q q8 bW bE:Nat}{e:List Day}(V:St h [] p8 zj L)(le:PLe p p8)(b0:h.size<=bW/\h.size<=bD/\h.size<=bE)(c1:bD<zj.size/\bE<zj.size)(b3:bD≠bE)
 (hp:p8 bW=none/\p8 bD=none/\p8 bE=none)(J:Joined ⟨291,bW,S,zj,[bD,bE],q,q8⟩ (Mi zj.size bD bE d e) hw he):
 ∃w1 w2 X1 X2,Aa 247 3 w1 (dcs d) X1/\Aa 247 3 w2 (dcs e) X2/\St h [] p he (([(bD,.cells #[w1] 239 (0,0)),(bE,.cells #[w2] 239 (0,0))]:Pcs)++(X1++(X2++[]))):=by
 obtain⟨J1,J2,J3,J4⟩:=J;obtain⟨w1,X1,o1,b9,a9,a3⟩:=(J3 0 om).1;obtain⟨w2,X2,o2,b7,a6,a4⟩:Ll zj.size bE e (hw 1):=(J3 1 om).1;have j0:=fun b H=>((J3 0 om).2 b H).1;have j1:=fun b H=>((J3 1 om).2 b H).1;obtain⟨a8,b4⟩:=xm6 o1 b9 fun x M=>(a3 x M).1;obtain⟨a7,b5⟩:=xm6 o2 b7 fun x M=>(a4 x M).1;have old:∀b,b<zj.size->b≠bW->b≠bD->b≠bE->he[b]?=zj[b]?:=fun b h1 h2 h3 h4=>J2 b ⟨h1,h2,by simp[h3,h4]⟩;have b8:=(j0 bD (Exc.of a9 s_)).trans a9;have b6:=(j1 bE (Exc.of a6 s_)).trans a6;simp only at J1;have c2:h.size<=zj.size:=V.size;have a2:∀b,zj.size<=b->p b=none:=fun b H=>by
  cases a5:p b with
  |none=>rfl
  |some o=>exact absurd (xix (V.per _ _ (le _ _ a5))) (Nat.not_lt.2 H)
 have pn:∀b,p8 b=none->p b=none:=fun b H=>by
  cases a5:p b with
  |none=>rfl
  |some o=>rw[le _ _ a5]at H;cases H
 refine⟨w1,w2,_,_,o1,o2,⟨fun b H _=>(old b om om om om).trans (V.C3 b H s_),om,fun b o H=>?_,fun x M=>?_,?_⟩⟩
 ·have O:=le _ _ H;have:=V.per _ _ O;refine(old b (xix this) ?_ ?_ ?_).trans this
  ·rintro rfl;rw[hp.1]at O;cases O
  ·rintro rfl;rw[hp.2.1]at O;cases O
  ·rintro rfl;rw[hp.2.2]at O;cases O
 ·simp only[List.append_nil,List.cons_append,List.nil_append,List.mem_cons,List.mem_append]at M;rcases M with rfl|rfl|M|M
  ·exact⟨b8,pn _ hp.2.1,.inl b0.2.1⟩
  ·exact⟨b6,pn _ hp.2.2,.inl b0.2.2⟩
  ·have h1:=a3 x M;exact⟨(j0 _ (a8 x M)).trans h1.1,a2 _ h1.2,.inl om⟩
  ·have h1:=a4 x M;exact⟨(j1 _ (a7 x M)).trans h1.1,a2 _ h1.2,.inl om⟩
 ·have m1:∀b,b∈X1.map (·.1)->zj.size<=b:=fun b H=>by obtain⟨x,M,rfl⟩:=List.mem_map.1 H;exact(a3 x M).2
  have m2:∀b,b∈X2.map (·.1)->zj.size<=b:=fun b H=>by obtain⟨x,M,rfl⟩:=List.mem_map.1 H;exact(a4 x M).2
  simp only[List.append_nil,List.cons_append,List.nil_append,List.map_cons,List.map_append,List.nodup_cons,List.mem_cons,List.mem_append,not_or];refine⟨⟨b3,fun H=>by have:=m1 _ H;omega,fun H=>by have:=m2 _ H;omega⟩,⟨fun H=>by have:=m1 _ H;omega,fun H=>by have:=m2 _ H;omega⟩,List.nodup_append.2 ⟨b4,b5,?_⟩⟩;intro b H c hc e;subst e;obtain⟨x,M,e1⟩:=List.mem_map.1 H;obtain⟨y,hy,e2⟩:=List.mem_map.1 hc;exact J4 b (e1 ▸ a8 x M) (e2 ▸ a7 y hy)
theorem yx1(size start:Int){a:Option Addr}(n c:Nat)(ds:List Day)(D:Bp p a n ds)(hn:n<=40)(hs:0<=size/\size<=60/\0<=start)(hd:∀i,i<n->0<=(ds.getD i dz).want/\(ds.getD i dz).want<=200)(f1:∀i,i<n->0<=Fz ds i/\Fz ds i<=20)(e2:∀i,i<n->0<=Lv ds i/\Lv ds i<=20):Nc prog (.main true) p 217 #[.agg #[.J size,.J start,.slice a n c]] (fun v Y=>(∃w1 w2 X1 X2,v=.tuple #[w1,w2]/\Aa 247 3 w1 (dcs (side size (min start size) (Am ds) (Fz ds) n)) X1/\Aa 247 3 w2 (dcs (side size (min start size) (Am ds) (Lv ds) n)) X2/\Y=X1++X2)):=by
 intro h hp;refine xhz hp func217 fun zq cs Stop K=>?_;refine bq fun b1=>?_;refine xfx fun b2=>?_;refine xfx fun M=>?_;refine lq fun b4=>?_;refine ax ?_;refine xxx rfl fun v5 Y5 o5=>?_;refine xzq o5 (m:=2) rfl d_ fun p8 a9 f2 e1 ev a5=>?_;intro a5;subst ev;have b5:=e1.le;refine ax ?_;refine yvc ?_;refine ax ?_;refine xcx rfl (fun _=>?_) (fun cc=>absurd om cc);refine ax ?_;refine ro_y rfl (xmj rfl (a5.get 0 _ rfl)) ?_;refine xfx fun e3=>?_;refine ax ?_;refine yph (L:=Tryz.link) Tryz.M4 rfl k_ fun ge gb c3 a4 h1 H1=>?_;have d6:=H1.own _ (List.mem_of_getElem? (i:=4) rfl);have V:=H1.own _ (List.mem_of_getElem? (i:=3) rfl);have O:=H1.own _ (List.mem_of_getElem? (i:=2) rfl);have a6:=H1.own _ (List.mem_of_getElem? (i:=1) rfl);have b6:=H1.own _ (List.mem_of_getElem? (i:=0) rfl);simp only at d6 V O a6 b6;have e6:=H1.nod;simp only[List.flatten_cons,List.flatten_nil,List.append_nil,List.cons_append,List.nil_append,List.map_cons,List.map_nil,List.nodup_cons,List.mem_cons,List.not_mem_nil,or_false,not_or,not_false_eq_true,List.nodup_nil,and_true]at e6;have D1:=D.mono b5;have d9:0<n->(adr a).block≠b4:=xnc D1 om a6.2.1;have c8:0<n->(adr a).block≠b2:=xnc D1 om V.2.1;have c9:0<n->(adr a).block≠M:=xnc D1 om O.2.1;have e5:(adr a9).block≠b4:=xnc a5 om a6.2.1 s_;have f0:(adr a9).block≠b2:=xnc a5 om V.2.1 s_;have f5:(adr a9).block≠M:=xnc a5 om O.2.1 s_;have e4:=xix V.1;have d8:=xix O.1
 refine xk3 (Ψ:=Mi h1.size b2 M (side size (min start size) (Am ds) (Fz ds) n) (side size (min start size) (Am ds) (Lv ds) n))
  (Kon:=fun gb=>gb.status=.running/\ ∀he w1 w2 X1 X2,Aa 247 3 w1 (dcs (side size (min start size) (Am ds) (Fz ds) n)) X1->Aa 247 3 w2 (dcs (side size (min start size) (Am ds) (Lv ds) n)) X2->St h [] p he ([[(b2,.cells #[w1] 239 (0,0))],[(M,.cells #[w2] 239 (0,0))],X1,X2]:List Pcs).flatten->Go.X.Reach prog (.main true) gb he Stop)
  291 b4 [b2,M] a6.1 ?_ ytq (fun _ e_=>e_.1) (fun S_ q_ c6=>?_) (fun S_ q_ c6 f6 d7 f4 f7 e7=>?_)
 ·intro b_ H;simp only[List.mem_cons,List.not_mem_nil,or_false]at H;rcases H with H|H<;>rw[H]
  ·exact Exc.of V.1 (by show 0<1;decide)
  ·exact Exc.of O.1 (by show 0<1;decide)
 ·refine⟨gb,c3,fun h2 k2=>?_⟩;have Db:Bp (Hp (Dr [b4] [b2,M] h1)) a n ds:=xar D1 H1.per fun h_=>xgj (d9 h_);have Lb:=xar (A:=[b4]) (K:=[b2,M]) a5 H1.per fun _=>xgj e5;have Yb:HC (Dr [b4] [b2,M] h1) b1 _ _:=HC.cut ⟨_,d6.1⟩ (xgj om);have Ob:HC (Dr [b4] [b2,M] h1) e3 _ _:=HC.cut ⟨_,b6.1⟩ (xgj om);have Wb:(Dr [b4] [b2,M] h1)[b2]?=_:=xag V.1 (xgj om) s_;have Eb:(Dr [b4] [b2,M] h1)[M]?=_:=xag O.1 (xgj om) s_;have zb:(Dr [b4] [b2,M] h1).size=h1.size:=xfc;generalize Dr [b4] [b2,M] h1=hb at*;refine a4 _ _ hb [] (Hp hb) [] h2 ?_ ((St.start hb _ (fun _ _ e_=>e_)).call k2);dsimp only;refine ax ?_;refine yxs rfl rfl fun ga gn a3 a8 a4 h3 H3=>xrk ⟨a3,gn,_,[b2],[M],a8,?_,?_,fun h4 k4=>⟨?_,?_⟩⟩
  ·intro b_ H;rw[List.mem_singleton.1 H];exact(Exc.of Wb (by show 0<1;decide)).stay H3.kept
  ·intro b_ H;rw[List.mem_singleton.1 H];exact(Exc.of Eb (by show 0<1;decide)).stay H3.kept
  ·have kk:Av hb h4:=H3.kept.trans k4;refine xur (xar (Sl.mono (xgp kk) Db) xq8 fun h_=>xgj (c9 h_)) hn 256 (Fz ds) (xag ((kk.C3 _ (xix Wb)).trans Wb) (xgj om) s_) ((Yb.C3 kk).cut (xgj om)) ((Ob.C3 kk).cut (xgj om)) ⟨om,om⟩ c8 hs hd f1 (fun p_ z_ D_ c5 h_ i_ b8 b7=>xgq (first:=[]) (cap:=[w_ b1 0]) k_ (yb6 (.own false) size start n c ds D_ b1 z_ c5 i_ b7 h_ b8)) fun h_ x_=>?_;obtain⟨w_,X_,o_,b9,H,a7⟩:=x_;exact⟨w_,X_,o_,b9,H,fun x_ b0=>⟨(a7 x_ b0).1,by have:=(a7 x_ b0).2;rw[xfc]at this;have:=kk.size;omega⟩⟩
  have kk:Av hb h4:=H3.kept.trans k4;have Dc:Bp (Hp (Dr [b2] [M] h4)) a n ds:=xar (Sl.mono (xgp kk) Db) xq8 fun h_=>xgj (c8 h_);have Lc:=xar (A:=[b2]) (K:=[M]) (Sl.mono (xgp kk) Lb) xq8 fun _=>xgj f0;have Yc:HC (Dr [b2] [M] h4) b1 _ _:=(Yb.C3 kk).cut (xgj om);have Ec:(Dr [b2] [M] h4)[M]?=_:=xag ((kk.C3 _ (xix Eb)).trans Eb) (xgj om) s_;have zc:h1.size<=(Dr [b2] [M] h4).size:=by rw[xfc];have:=kk.size;omega
  refine a4 _ _ (Dr [b2] [M] h4) [] (Hp (Dr [b2] [M] h4)) [] _ ?_ (St.start _ _ (fun _ _ e_=>e_));generalize Dr [b2] [M] h4=hc at*;dsimp only;refine ax ?_;refine xfr ?_;refine ax ?_;refine xcx rfl (fun _=>?_) (fun cc=>absurd om cc);refine ax ?_;refine ro_y rfl (xmj rfl (Lc.get 1 _ rfl)) ?_;refine xfx fun d5=>?_;refine ax ?_;refine yph (L:=Tryz.link) Tryz.M4 rfl k_ fun ge gb c3 a4 h5 H5=>xrk ⟨gb,c3,fun h6 k6=>?_⟩;refine a4 _ _ hc [] (Hp hc) _ h6 ?_ (H5.call k6);dsimp only;refine ax ?_;refine yxs rfl rfl fun ga gn a3 a8 a4 h7 H7=>xrk ⟨a3,gn,_,[M],[],a8,?_,(fun _ H=>by cases H),fun h8 k8=>⟨?_,?_⟩⟩
  ·intro b_ H;rw[List.mem_singleton.1 H];exact(Exc.of Ec (by show 0<1;decide)).stay H7.kept
  ·have kk:Av hc h8:=H7.kept.trans k8;have O_:=(H7.own _ (List.mem_of_getElem? (i:=0) rfl))
   simp only at O_;have Oc:HC h8 d5 _ _:=HC.C3 ⟨_,O_.1⟩ k8;have f3:=xix Ec;have c4:d5≠M:=by have:=O_.2.2.resolve_right s_;omega
   refine xur (xar (Sl.mono (xgp kk) Dc) xq8 fun _=>by simp) hn 257 (Lv ds) (xag ((kk.C3 _ (xix Ec)).trans Ec) s_ s_) ((Yc.C3 kk).cut s_) (Oc.cut s_) ⟨om,c4⟩ c9 hs hd e2 (fun p_ z_ D_ c5 h_ i_ b8 b7=>xgq (first:=[]) (cap:=[w_ b1 0]) k_ (ya6 (.own false) size start n c ds D_ b1 z_ c5 i_ b7 h_ b8)) fun h_ x_=>?_;obtain⟨w_,X_,o_,b9,H,a7⟩:=x_;exact⟨w_,X_,o_,b9,H,fun x_ b0=>⟨(a7 x_ b0).1,by have:=(a7 x_ b0).2;rw[xfc]at this;have:=kk.size;omega⟩⟩
  refine a4 _ _ (Dr [M] [] h8) [] (Hp (Dr [M] [] h8)) [] _ ?_ (St.start _ _ (fun _ _ e_=>e_));dsimp only;refine ax ?_;refine xfr ?_;refine ax ?_;refine xcx rfl (fun cc=>absurd cc om) (fun _=>?_);refine ax ?_;refine ynm (L:=Tryz.link) Tryz.M4 rfl k_ fun ge gb An e9 e0 e8 d0 c7 h9 H9=>xrk ⟨gb,An,⟨e9,e0,d0,fun he w1 w2 X1 X2 o1 o2 HS=>?_⟩,e8⟩;refine c7 (.main true) Stop h [] p _ he ?_ HS;dsimp only;obtain⟨a1,c1,rfl,_⟩:=o1.val;obtain⟨a2,c2,rfl,_⟩:=o2.val;refine ax ?_;refine xez func217 rfl (xd1 rfl (xd1 rfl .nil)) ?_;exact fun h_ H_=>K _ _ ⟨X1++X2,⟨_,_,X1,X2,rfl,o1,o2,rfl⟩,Eu (LL:=[X1++X2]) (H_.sub s_)⟩
 ·obtain⟨w1,w2,X1,X2,o1,o2,HS⟩:=ysw H1 b5 ⟨a6.2.2.resolve_right s_,V.2.2.resolve_right s_,O.2.2.resolve_right s_⟩ ⟨e4,d8⟩ om ⟨a6.2.1,V.2.1,O.2.1⟩ e7;exact d7.2 _ w1 w2 X1 X2 o1 o2 (by simpa using HS)
end Go.Proofs.YtofhlcococeifaaGreatDoor
namespace Go.X.Cist
def N0(size start:Int)(ds:List Day):Int:=Flow.Dn (fun d=>decide (0<d.hi)) (side size (min start size) (Am ds) (Fz ds) ds.length)
def Nh(size start:Int)(ds:List Day):Int×Int:=if Ok size start ds then(if N0 size start ds<0 then 0 else N0 size start ds,if N0 size start ds<0 then 3 else 0)else(0,100)
def Lr(size start:Int)(ds:List Day)(H:Int):(Int×Int)×Int:=
 if K0 size start ds (decide (Dx ds H))=0 then((lev size (min start size) (Am ds) (Fz ds) (H.toNat+1),lev size (min start size) (Am ds) (Lv ds) (H.toNat+1)),0)else((0,0),K0 size start ds (decide (Dx ds H)))
theorem Ok.both{size start:Int}{ds:List Day}(O:Ok size start ds){n:Nat}(hn:ds.length=n):(0<=size/\size<=60/\0<=start)/\(∀i,i<n->0<=(ds.getD i dz).want/\(ds.getD i dz).want<=200)/\(∀i,i<n->0<=Fz ds i/\Fz ds i<=20)/\ ∀i,i<n->0<=Lv ds i/\Lv ds i<=20:=by
 have d:=O.dok;refine⟨⟨O.1,O.2.1,O.2.2.1⟩,fun i hi=>(d i om).2,fun i hi=>?_,fun i hi=>?_⟩
 ·have z:=(d i om).1;unfold Fz;omega
 ·have z:=(d i om).1;unfold Lv;omega
end Go.X.Cist
namespace Go.Proofs.YtofhlcococeifaaGreatDoor
open Go.Proofs.Tryz
open Go.X Go.X.Cist Go.Conc
variable{ds:List Day}{n:Nat}{p:Ab}
theorem yx8{size start:Int}{a:Option Addr}{c:Nat}(D:Bp p a n ds)(hn:n<=40):Dc prog (.main true) p 136 #[.agg #[.J size,.J start,.slice a n c]] (.tuple #[.J (Nh size start ds).1,.J (Nh size start ds).2]):=by
 have hl:=D.len;refine xkq func136 fun K b1=>?_;refine ax ?_;refine xpx rfl rfl (cf57 size start n c ds D om) ?_;refine cq (fun V=>?_) (fun V=>?_)
 ·have M:¬ Ok size start ds:=fun e=>V (Fv e);refine K.q ?_;rw[Nh,if_neg M,Kj M];rfl
 have O:Ok size start ds:=B5.1 (Classical.not_not.1 V);obtain⟨h1,h2,h3,h4⟩:=O.both hl;refine coq (yx1 size start n c ds D hn h1 h2 h3 h4) ?_;rintro _ _ ⟨w1,w2,X1,X2,rfl,o1,o2,rfl⟩;refine xqc X1 X2 ?_;refine xzq o1 (m:=n) (by rw[Aj,B9]) d_ fun p' a1 H g ev a2 S=>?_;subst ev;refine ax ?_;refine xpx rfl rfl (fun _ pe=>yz6 pe (.func (.func 220) #[] #[]) n H S om (fun d=>decide (0<d.hi)) (fun h_ pe i hi=>xgq (first:=[]) (cap:=[]) k_ (yw1 _ pe))) ?_;refine cdq ya7 ?_;refine K.q ?_;rw[Nh,if_pos O,N0,hl];rfl
theorem yp8{size start:Int}{a:Option Addr}{c:Nat}(D:Bp p a n ds)(hn:n<=40)(H:Int):Dc prog (.main true) p 144 #[.agg #[.J size,.J start,.slice a n c],.J H] (.tuple #[.agg #[.J (Lr size start ds H).1.1,.J (Lr size start ds H).1.2],.J (Lr size start ds H).2]):=by
 intro h hp;have hl:=D.len;refine xhz hp func144 fun _ _ _ K=>?_;refine bq fun b2=>?_;refine lq fun b4=>?_;refine drq [] R5 ?_;refine xhv rfl rfl rfl rfl trivial (yt1 size start n c om H) ?_;refine ex ?_;have eD:decide (0<=H/\H<=(n:Int)-1)=decide (Dx ds H):=decide_eq_decide.2 (by unfold Dx;omega);rw[eD];refine xhv rfl rfl rfl rfl trivial (yu1 size start n c ds D om (decide (Dx ds H))) ?_;refine ex ?_;refine cq (fun cc=>?_) (fun cc=>?_)
 ·refine ax ?_;refine xez func144 rfl (xpq rfl (.tmp rfl .nil)) ?_;exact fun _ H_=>K _ _ ⟨by rw[Lr,if_neg cc];rfl,H_.kept⟩
 have c0:=Classical.not_not.1 cc;have O:Ok size start ds:=Classical.byContradiction fun z=>by rw[K0,if_neg z]at c0;omega
 have M:Dx ds H:=Classical.byContradiction fun z=>by rw[K0,if_pos O,decide_eq_false z]at c0;simp at c0
 obtain⟨h1,h2,h3,h4⟩:=O.both hl;have a7:0<=H/\H<n:=by unfold Dx at M;omega
 refine coq (yx1 size start n c ds D hn h1 h2 h3 h4) ?_;rintro _ _ ⟨w1,w2,X1,X2,rfl,o1,o2,rfl⟩;refine xqc X1 X2 ?_;refine xzq o1 (m:=n) (by rw[Aj,B9]) d_ fun p1 a1 a6 g1 ev a3 V=>?_;subst ev;refine xzq o2 (m:=n) (by rw[Aj,B9]) d_ fun p2 a2 a5 g2 ev a4 S2=>?_;subst ev;have V:=Sl.mono g2.le V;have e1:=V.get H.toNat _ (K8 (by rw[B9];omega)) 0 _ rfl;have e2:=S2.get H.toNat _ (K8 (by rw[B9];omega)) 0 _ rfl;rw[ybz om]at e1 e2;refine drq [] R10 ?_;refine de_y rfl rfl (xed rfl rfl om om (Sl.ne V om)) ?_;refine ex ?_;refine de_y rfl rfl (y_lp rfl (by rw[xxt];rw[xxt]at e1;exact e1)) ?_;refine ex ?_;refine de_y rfl rfl (xed rfl rfl om om (Sl.ne S2 om)) ?_;refine ex ?_;refine de_y rfl rfl (y_lp rfl (by rw[xxt];rw[xxt]at e2;exact e2)) ?_;refine xa ?_;refine xez func144 rfl (xpq rfl (.tmp rfl .nil)) ?_;exact fun _ H_=>K _ _ ⟨by rw[Lr,if_pos c0];rfl,H_.kept⟩
end Go.Proofs.YtofhlcococeifaaGreatDoor
