/-
  Part of proofs about a town's master: a calculus for walks beside goroutines that are only leaving, and the walks. No condition.
-/
import Derived.Test.YtjcakmlipohaeaaGreatDoorGI
import Derived.Test.YtjcakmlipohaeaaGreatDoorGF
set_option maxRecDepth 10000
namespace Go.X
open Go.Conc
structure Rk where
 hr:Int
 pe:Int
 sd:Int
 st:Int
def Rk.cells(r:Rk):List Value:=[.int .i64 r.hr,.int .i64 r.pe,.int .i64 r.sd,.int .i64 r.st]
def rz:Rk:=⟨0,0,0,0⟩
def rcs(xs:List Rk):List (List Value):=xs.map Rk.cells
def Rks(p:PHeap)(a:Option Addr)(n:Nat)(xs:List Rk):Prop:=Sl p a n 4 (rcs xs)
section
variable{p p':PHeap}{a:Option Addr}{n k:Nat}{xs:List Rk}
theorem Rks.len(s:Rks p a n xs):xs.length=n:=by have:=Sl.len s;simpa[rcs]using this
theorem Rks.mono(hp:PLe p p')(s:Rks p a n xs):Rks p' a n xs:=Sl.mono hp s
theorem Rks.all(s:Rks p a n xs)(hk:k<n):∀j v,[Value.int .i64 (xs.getD k rz).hr,.int .i64 (xs.getD k rz).pe,.int .i64 (xs.getD k rz).sd,.int .i64 (xs.getD k rz).st][j]?=some v->pcell p (((adr a).add (k*4)).add j)=some v:=fun j v h=>by
 refine Sl.get s k (xs.getD k rz).cells ?_ j v h
 have hl:=s.len
 rw[rcs,List.getElem?_map,List.getD_eq_getElem?_getD,List.getElem?_eq_getElem om];rfl
end
structure Shf where
 rocks:List Rk
 feet:List Int
 deep:Int
 haul:Int
 rest:Int
structure ShfP(p:PHeap)(a b:Option Addr)(s:Shf):Prop where
 r:Rks p a s.rocks.length s.rocks
 f:Ints p b s.feet.length s.feet
theorem ShfP.mono{p p':PHeap}{a b:Option Addr}{s:Shf}(h:ShfP p a b s)(le:PLe p p'):ShfP p' a b s:=⟨h.r.mono le,h.f.mono le⟩
def okR(r:Rk):Prop:=(0<=r.hr/\r.hr<=9)/\(0<=r.pe/\r.pe<=99)/\(0<=r.sd/\r.sd<=12)/\ -1<=r.st/\r.st<=99
instance(r):Decidable (okR r):=by unfold okR;infer_instance
def okF(n:Nat)(x:Int):Prop:=0<=x/\x<=(n:Int)-1
instance(n x):Decidable (okF n x):=by unfold okF;infer_instance
def Shf.ok(s:Shf):Prop:=s.rocks.length<=4/\(∀r∈s.rocks,okR r)/\s.feet.length<=12/\(∀x∈s.feet,okF s.rocks.length x)/\(0<=s.deep/\s.deep<=9)/\(0<=s.haul/\s.haul<=9)/\0<=s.rest/\s.rest<=9
instance(s):Decidable (Shf.ok s):=by unfold Shf.ok;infer_instance
def chkF(s:Shf):Int:=if s.ok then 0 else 20
theorem xw9{s:Shf}:((((((4<(s.rocks.length:Int)\/0<=Flow.idxA (fun r=>!decide (okR r)) s.rocks)\/12<(s.feet.length:Int))\/0<=Flow.idxA (fun x=>!decide (okF s.rocks.length x)) s.feet)\/ ¬(0<=s.deep/\s.deep<=9))\/ ¬(0<=s.haul/\s.haul<=9))\/ ¬(0<=s.rest/\s.rest<=9))<-> ¬ s.ok:=by
 rw[Flow.idxA_iff,Flow.idxA_iff]
 simp only[Bool.not_eq_true',decide_eq_false_iff_not]
 constructor
 ·intro cc z
  unfold Shf.ok at z
  rcases cc with(((((cc|⟨r,h1,h2⟩)|cc)|⟨r,h1,h2⟩)|cc)|cc)|cc<;>first|exact h2 (z.2.1 _ h1)|exact h2 (z.2.2.2.1 _ h1)|omega
 ·intro z
  refine Classical.byContradiction fun n=>z ?_
  simp only[not_or,not_exists,not_and,Classical.not_not]at n
  obtain⟨⟨⟨⟨⟨⟨a,b⟩,c⟩,d⟩,e⟩,f⟩,g⟩:=n
  exact⟨om,b,om,d,om,om,om⟩
def Shf.rk(s:Shf)(i:Nat):Rk:=s.rocks.getD (s.feet.getD i 0).toNat rz
def openE(s:Shf)(is:Prop)[Decidable is]:Int:=if s.ok then(if is then 0 else 1)else 20
theorem Shf.ok.foot{s:Shf}(h:s.ok){i:Nat}(hi:i<s.feet.length):0<=s.feet.getD i 0/\(s.feet.getD i 0).toNat<s.rocks.length/\s.feet.getD i 0<s.rocks.length:=by
 have:=h.2.2.2.1 (s.feet.getD i 0) (by rw[Flow.getD_at hi];exact List.getElem_mem hi)
 unfold okF at this;omega
theorem Shf.ok.rock{s:Shf}(h:s.ok){i:Nat}(hi:i<s.feet.length):okR (s.rk i):=by
 refine h.2.1 _ ?_
 unfold Shf.rk
 rw[Flow.getD_at (h.foot hi).2.1];exact List.getElem_mem _
def fallR(s:Shf)(fr:Nat):Nat->Nat->Int->Nat
 |0,foot,_=>foot
 |r+1,foot,st=>if((foot:Int)-fr+1>min st (s.rk foot).sd)then foot else fallR s fr r (foot+1) (min st (s.rk foot).sd)
def fallsF(s:Shf)(fr:Nat):Nat:=fallR s fr (s.feet.length-fr) fr 12
def digK(s:Shf):Nat->Int×Int
 |0=>(0,0)
 |i+1=>((digK s i).1+((s.rk i).pe+i*s.deep),(digK s i).2+(s.rk i).hr)
theorem mul9{i:Nat}{d:Int}(hi:i<=12)(h:0<=d/\d<=9):0<=(i:Int)*d/\(i:Int)*d<=108:=by
 have h1:(i:Int)*d<=12*9:=Int.mul_le_mul om h.2 h.1 om
 exact⟨Int.mul_nonneg om h.1,om⟩
theorem xrs{s:Shf}(h:s.ok):∀{i:Nat},i<=s.feet.length->(0<=(digK s i).1/\(digK s i).1<=207*i)/\0<=(digK s i).2/\(digK s i).2<=9*i
 |0,_=>by simp[digK]
 |i+1,hi=>by
   have ih:=xrs h (i:=i) om
   have hr:=h.rock (i:=i) om
   have hl:=h.2.2.1
   have hm:=mul9 (i:=i) om h.2.2.2.2.1
   unfold okR at hr
   simp only[digK]
   omega
end Go.X
namespace Go.Proofs.YtjcakmlipohaeaaGreatDoor
open Go.Proofs.Tryz
open Go.X Go.X.Flow Go.Conc
theorem c66(md:Md)(h:Heap)(p:PHeap)(hp:Per p h)(n lo hi:Int):CallsX prog md 66 #[.int .i64 n,.int .i64 lo,.int .i64 hi] h fun v h'=>v=.bool (decide (lo<=n/\n<=hi))/\Keep h h':=by
 refine xax hp func66 fun _ _ _ K=>?_
 refine au ?_
 exact K.r rfl rfl fun _ H_=>⟨congrArg _ (bpe Iff.rfl),H_.kept⟩
theorem c181(md:Md)(h:Heap)(p:PHeap)(hp:Per p h)(r:Rk):CallsX prog md 181 #[.agg #[.int .i64 r.hr,.int .i64 r.pe,.int .i64 r.sd,.int .i64 r.st]] h fun v h'=>v=.bool (!decide (okR r))/\Keep h h':=by
 refine xax hp func181 fun _ _ _ K=>?_
 refine au ?_
 refine xjq rfl fun b1=>?_
 refine au ?_
 refine xlq rfl rfl (fun _ pe=>c66 md _ _ pe _ _ _) ?_
 refine au ?_
 refine xvq rfl rfl rfl sdt (fun _ _ pe=>c66 md _ _ pe _ _ _) ?_
 refine au ?_
 refine xvq rfl rfl rfl sdt (fun _ _ pe=>c66 md _ _ pe _ _ _) ?_
 refine au ?_
 refine xvq rfl rfl rfl sdt (fun _ _ pe=>c66 md _ _ pe _ _ _) ?_
 refine au ?_
 exact K.r rfl rfl fun _ H_=>⟨congrArg _ (bpn (by unfold okR;omega)),H_.kept⟩
theorem c277(md:Md)(h:Heap)(p:PHeap)(hp:Per p h)(fv:Value)(a:Option Addr)(n c:Nat)(xs:List Rk)(S:Rks p a n xs)(hn:n<=2^40)(q:Rk->Bool)
 (hf:∀h,Per p h-> ∀i,i<n->CallV prog md fv [.agg #[.int .i64 (xs.getD i rz).hr,.int .i64 (xs.getD i rz).pe,.int .i64 (xs.getD i rz).sd,.int .i64 (xs.getD i rz).st]] h fun v h'=>v=.bool (q (xs.getD i rz))/\Keep h h'):
 CallsX prog md 277 #[.slice a n c,fv] h fun v h'=>v=.int .i64 (idxA q xs)/\Keep h h':=by
 have hl:=S.len
 refine xax hp func277 fun _ _ _ K=>?_
 refine au ?_
 refine xbz (fun m l=>∃j:Nat,m=n-j/\l=[(0,none,.slice a n c),(1,none,fv),(7,none,.int .i64 n),(8,none,.int .i64 j)]/\j<=n/\ ∀i,i<j->q (xs.getD i rz)=false) ⟨0,rfl,rfl,Nat.zero_le _,om⟩ sb ?_
 rintro _ _ IH ⟨j,rfl,rfl,hj,h1⟩
 refine au ?_
 refine xiq rfl (fun cc=>?_) (fun cc=>?_)
 ·refine au ?_
  refine xqk rfl (S.all om) ?_
  refine xhn rfl rfl (fun h_ pe=>hf h_ pe j om) ?_
  refine au ?_
  refine xiq rfl (fun ce=>?_) (fun ce=>?_)
  ·refine au ?_
   exact K.r rfl rfl fun h_ H_=>⟨by rw[idxA_some (z:=rz) (k:=j) om ce h1];rfl,H_.kept⟩
  ·refine au ?_
   exact xnq (IH _ om ⟨j+1,rfl,rfl,om,upto_st h1 (by simpa using ce)⟩)
 refine au ?_
 exact K.r rfl rfl fun h_ H_=>⟨by rw[idxA_none (z:=rz) (fun i hi=>h1 i om)];rfl,H_.kept⟩
theorem c183(md:Md)(h:Heap)(p:PHeap)(hp:Per p h)(fv:Value)(a:Option Addr)(n c:Nat)(xs:List Rk)(S:Rks p a n xs)(hn:n<=2^40)(q:Rk->Bool)
 (hf:∀h,Per p h-> ∀i,i<n->CallV prog md fv [.agg #[.int .i64 (xs.getD i rz).hr,.int .i64 (xs.getD i rz).pe,.int .i64 (xs.getD i rz).sd,.int .i64 (xs.getD i rz).st]] h fun v h'=>v=.bool (q (xs.getD i rz))/\Keep h h'):
 CallsX prog md 183 #[.slice a n c,fv] h fun v h'=>v=.bool (decide (0<=idxA q xs))/\Keep h h':=by
 refine xax hp func183 fun _ _ _ K=>?_
 refine au ?_
 refine xlq rfl rfl (fun _ pe=>c277 md _ _ pe fv _ _ _ xs S hn q hf) ?_
 refine au ?_
 exact K.r rfl rfl fun _ H_=>⟨rfl,H_.kept⟩
theorem c175(md:Md)(h:Heap)(p:PHeap)(hp:Per p h)(fv:Value)(a:Option Addr)(n c:Nat)(xs:List Int)(S:Ints p a n xs)(hn:n<=2^40)(q:Int->Bool)
 (hf:∀h,Per p h-> ∀i,i<n->CallV prog md fv [.int .i64 (xs.getD i 0)] h fun v h'=>v=.bool (q (xs.getD i 0))/\Keep h h'):CallsX prog md 175 #[.slice a n c,fv] h fun v h'=>v=.int .i64 (idxA q xs)/\Keep h h':=by
 have hl:=S.len
 refine xax hp func175 fun _ _ _ K=>?_
 refine au ?_
 refine xbz (fun m l=>∃j:Nat,m=n-j/\l=[(0,none,.slice a n c),(1,none,fv),(7,none,.int .i64 n),(8,none,.int .i64 j)]/\j<=n/\ ∀i,i<j->q (xs.getD i 0)=false) ⟨0,rfl,rfl,Nat.zero_le _,om⟩ sb ?_
 rintro _ _ IH ⟨j,rfl,rfl,hj,h1⟩
 refine au ?_
 refine xiq rfl (fun cc=>?_) (fun cc=>?_)
 ·refine au ?_
  refine xhn rfl rfl (fun h_ pe=>hf h_ pe j om) ?_
  refine au ?_
  refine xiq rfl (fun ce=>?_) (fun ce=>?_)
  ·refine au ?_
   exact K.r rfl rfl fun h_ H_=>⟨by rw[idxA_some (z:=0) (k:=j) om ce h1];rfl,H_.kept⟩
  ·refine au ?_
   exact xnq (IH _ om ⟨j+1,rfl,rfl,om,upto_st h1 (by simpa using ce)⟩)
 refine au ?_
 exact K.r rfl rfl fun h_ H_=>⟨by rw[idxA_none (z:=0) (fun i hi=>h1 i om)];rfl,H_.kept⟩
theorem c106(md:Md)(h:Heap)(p:PHeap)(hp:Per p h)(fv:Value)(a:Option Addr)(n c:Nat)(xs:List Int)(S:Ints p a n xs)(hn:n<=2^40)(q:Int->Bool)
 (hf:∀h,Per p h-> ∀i,i<n->CallV prog md fv [.int .i64 (xs.getD i 0)] h fun v h'=>v=.bool (q (xs.getD i 0))/\Keep h h'):CallsX prog md 106 #[.slice a n c,fv] h fun v h'=>v=.bool (decide (0<=idxA q xs))/\Keep h h':=by
 refine xax hp func106 fun _ _ _ K=>?_
 refine au ?_
 refine xlq rfl rfl (fun _ pe=>c175 md _ _ pe fv _ _ _ xs S hn q hf) ?_
 refine au ?_
 exact K.r rfl rfl fun _ H_=>⟨rfl,H_.kept⟩
theorem c182(md:Md)(h:Heap)(p:PHeap)(hp:Per p h)(a b:Option Addr)(ca cb:Nat)(s:Shf)(hn:s.rocks.length<=2^40)(bt:Nat)(hb:p bt=some (.cells #[.slice a s.rocks.length ca,.slice b s.feet.length cb,.int .i64 s.deep,.int .i64 s.haul,.int .i64 s.rest] 25 (0,0)))(x:Int):
 CallsX prog md 182 #[.int .i64 x,.pointer (some ⟨bt,0,none⟩)] h fun v h'=>v=.bool (!decide (okF s.rocks.length x))/\Keep h h':=by
 refine xax hp func182 fun _ _ _ K=>?_
 refine au ?_
 refine xlq rfl rfl (fun _ pe=>c66 md _ _ pe _ _ _) ?_
 refine au ?_
 exact K.r rfl rfl fun _ H_=>⟨rfl,H_.kept⟩
theorem c117(md:Md)(h:Heap)(p:PHeap)(hp:Per p h)(a b:Option Addr)(ca cb:Nat)(s:Shf)(S:ShfP p a b s)(hn:s.rocks.length<=2^40/\s.feet.length<=2^40):
 CallsX prog md 117 #[.agg #[.slice a s.rocks.length ca,.slice b s.feet.length cb,.int .i64 s.deep,.int .i64 s.haul,.int .i64 s.rest]] h fun v h'=>v=.int .i64 (chkF s)/\Keep h h':=by
 refine xax hp func117 fun _ _ _ K=>?_
 refine au ?_
 refine xjq rfl fun b1=>?_
 refine xfw (b:=b1) fun p' le hb=>?_
 have S:=S.mono le
 refine au ?_
 refine xvq rfl rfl rfl sdt (fun _ _ pe=>c183 md _ _ pe _ _ _ _ _ S.r hn.1 (fun r=>!decide (okR r)) fun _ pe _ _=>xgq (by kernel_rfl) (c181 md _ _ pe _)) ?_
 refine au ?_
 refine xvq rfl rfl rfl sdt (fun _ _ pe=>c106 md _ _ pe _ _ _ _ _ S.f hn.2 (fun x=>!decide (okF s.rocks.length x)) fun _ pe _ _=>xgq (by kernel_rfl) (c182 md _ _ pe _ _ _ _ s hn.1 _ hb _)) ?_
 refine au ?_
 refine xvq rfl rfl rfl sdt (fun _ _ pe=>c66 md _ _ pe _ _ _) ?_
 refine au ?_
 refine xvq rfl rfl rfl sdt (fun _ _ pe=>c66 md _ _ pe _ _ _) ?_
 refine au ?_
 refine xvq rfl rfl rfl sdt (fun _ _ pe=>c66 md _ _ pe _ _ _) ?_
 refine au ?_
 refine xiq rfl (fun cc=>?_) (fun cc=>?_)
 ·refine au ?_
  exact K.r rfl rfl fun _ H_=>⟨congrArg _ (show chkF s=20 from if_neg (xw9.1 cc)).symm,H_.kept⟩
 ·refine au ?_
  exact K.r rfl rfl fun _ H_=>⟨congrArg _ (show chkF s=0 from if_pos (Classical.not_not.1 fun z=>cc (xw9.2 z))).symm,H_.kept⟩
theorem c174(md:Md)(h:Heap)(p:PHeap)(hp:Per p h)(a b:Option Addr)(ca cb:Nat)(s:Shf)(S:ShfP p a b s)(hk:s.ok)(i:Nat)(hi:i<s.feet.length):
 CallsX prog md 174 #[.agg #[.slice a s.rocks.length ca,.slice b s.feet.length cb,.int .i64 s.deep,.int .i64 s.haul,.int .i64 s.rest],.int .i64 (i:Nat)] h fun v h'=>v=.agg #[.int .i64 (s.rk i).hr,.int .i64 (s.rk i).pe,.int .i64 (s.rk i).sd,.int .i64 (s.rk i).st]/\Keep h h':=by
 have hf:=hk.foot hi
 have Sf:=S.f
 refine xez hp func174 fun _ _ _ K=>?_
 refine au ?_
 refine xjq rfl fun b1=>?_
 refine xtq fun b2=>?_
 refine au ?_
 refine xaw 11 [] [] [0,1,2,3,4,5,6,7,8,9,10] ?_
 refine ad ?_
 refine xrp rfl rfl rfl om om (S.r.ne om) ?_
 refine xhb rfl rfl (S.r.all hf.2.1) ?_
 refine ad ?_
 refine au ?_
 refine xnz func174 rfl (xqx rfl ResE.nil) ?_
 exact fun _ H_=>K _ _ ⟨rfl,H_.kept⟩
theorem c104(md:Md)(h:Heap)(p:PHeap)(hp:Per p h)(a b c d:Int)(hb:(-1000000<=a/\a<=1000000)/\(-1000000<=b/\b<=1000000)/\(-1000000<=c/\c<=1000000)/\ -1000000<=d/\d<=1000000):
 CallsX prog md 104 #[.agg #[.int .i64 a,.int .i64 b],.agg #[.int .i64 c,.int .i64 d]] h fun v h'=>v=.agg #[.int .i64 (a+c),.int .i64 (b+d)]/\Keep h h':=by
 refine xez hp func104 fun _ _ _ K=>?_
 refine au ?_
 refine xjq rfl fun b1=>?_
 refine xjq rfl fun b2=>?_
 refine xtq fun b3=>?_
 refine au ?_
 refine xnz func104 rfl (xqx rfl ResE.nil) ?_
 exact fun _ H_=>K _ _ ⟨rfl,H_.kept⟩
theorem c105(md:Md)(h:Heap)(p:PHeap)(hp:Per p h)(a b:Option Addr)(ca cb:Nat)(s:Shf)(S:ShfP p a b s)(hk:s.ok)(i:Nat)(hi:i<s.feet.length):
 CallsX prog md 105 #[.agg #[.slice a s.rocks.length ca,.slice b s.feet.length cb,.int .i64 s.deep,.int .i64 s.haul,.int .i64 s.rest],.int .i64 (i:Nat)] h fun v h'=>v=.agg #[.int .i64 ((s.rk i).pe+i*s.deep),.int .i64 (s.rk i).hr]/\Keep h h':=by
 have hr:=hk.rock hi
 have hl:=hk.2.2.1
 have hm:=mul9 (i:=i) om hk.2.2.2.2.1
 unfold okR at hr
 refine xez hp func105 fun _ _ _ K=>?_
 refine au ?_
 refine xjq rfl fun b1=>?_
 refine xtq fun b2=>?_
 refine au ?_
 refine xlq rfl rfl (fun _ pe=>c174 md _ _ pe _ _ _ _ s S hk i hi) ?_
 refine xtq fun b3=>?_
 refine au ?_
 refine xnz func105 rfl (xqx rfl ResE.nil) ?_
 exact fun _ H_=>K _ _ ⟨rfl,H_.kept⟩
theorem c273(md:Md)(h:Heap)(p:PHeap)(hp:Per p h)(a b:Option Addr)(ca cb:Nat)(s:Shf)(S:ShfP p a b s)(hk:s.ok)(i:Nat)(hi:i<s.feet.length)(x:Int)(hx:x=(i:Int)+1):
 CallsX prog md 273 #[.agg #[.slice a s.rocks.length ca,.slice b s.feet.length cb,.int .i64 s.deep,.int .i64 s.haul,.int .i64 s.rest],.int .i64 x] h fun v h'=>v=.bool (decide ((s.rk i).st≠ -1))/\Keep h h':=by
 have hl:=hk.2.2.1
 refine xax hp func273 fun _ _ _ K=>?_
 refine au ?_
 refine xjq rfl fun b1=>?_
 refine au ?_
 refine xlq rfl rfl (fun _ pe=>show CallsX _ _ _ #[_,.int .i64 (x-1)] _ _ from by rw[show x-1=(i:Int) by omega];exact c174 md _ _ pe _ _ _ _ s S hk i hi) ?_
 refine au ?_
 exact K.r rfl rfl fun _ H_=>⟨rfl,H_.kept⟩
theorem c52(md:Md)(h:Heap)(p:PHeap)(hp:Per p h)(a b:Option Addr)(ca cb:Nat)(s:Shf)(S:ShfP p a b s)(hk:s.ok):
 CallsX prog md 52 #[.agg #[.slice a s.rocks.length ca,.slice b s.feet.length cb,.int .i64 s.deep,.int .i64 s.haul,.int .i64 s.rest]] h fun v h'=>v=.agg #[.int .i64 (digK s s.feet.length).1,.int .i64 (digK s s.feet.length).2]/\Keep h h':=by
 have hl:=hk.2.2.1
 refine xez hp func52 fun _ _ _ K=>?_
 refine au ?_
 refine xjq rfl fun b1=>?_
 refine xtq fun b2=>?_
 refine au ?_
 refine xpq (fun m l p_ L_=>∃j:Nat,m=s.feet.length-j/\l=[(1,none,.pointer (some ⟨b1,0,none⟩)),(2,none,.pointer (some ⟨b2,0,none⟩)),(7,none,.int .i64 s.feet.length),(8,none,.int .i64 j)]/\p_=p/\
  L_=[[(b2,.cells #[.int .i64 (digK s j).1,.int .i64 (digK s j).2] 105 (0,0))],[(b1,.cells #[.slice a s.rocks.length ca,.slice b s.feet.length cb,.int .i64 s.deep,.int .i64 s.haul,.int .i64 s.rest] 98 (0,0))]]/\j<=s.feet.length) ⟨0,rfl,rfl,rfl,rfl,Nat.zero_le _⟩ sb ?_
 rintro _ _ _ _ IH ⟨j,rfl,rfl,rfl,rfl,hj⟩
 refine au ?_
 refine xiq rfl (fun cc=>?_) (fun cc=>?_)
 ·have hd:=xrs hk hj
  have hr:=hk.rock (i:=j) om
  have hm:=mul9 (i:=j) om hk.2.2.2.2.1
  unfold okR at hr
  refine au ?_
  refine xaw 5 [] [] [0,1,2,3,4] ?_
  refine ad ?_
  refine xiz rfl rfl rfl (fun _ pe=>c105 md _ _ pe _ _ _ _ s S hk j om) ?_
  refine xiz rfl rfl rfl (fun _ pe=>c104 md _ _ pe _ _ _ _ om) ?_
  refine ad ?_
  refine au ?_
  exact xnq (IH _ _ _ om ⟨j+1,rfl,rfl,rfl,rfl,om⟩)
 obtain rfl:j=s.feet.length:=om
 refine au ?_
 refine xnz func52 rfl (xqx rfl ResE.nil) ?_
 exact fun _ H_=>K _ _ ⟨rfl,H_.kept⟩
theorem c274(md:Md)(h:Heap)(p:PHeap)(hp:Per p h)(a b:Option Addr)(ca cb:Nat)(s:Shf)(S:ShfP p a b s)(hk:s.ok)(i:Nat)(hi:i<s.feet.length)(x:Int)(hx:x=(i:Int)+1):
 CallsX prog md 274 #[.agg #[.slice a s.rocks.length ca,.slice b s.feet.length cb,.int .i64 s.deep,.int .i64 s.haul,.int .i64 s.rest],.int .i64 x] h fun v h'=>v=.agg #[.int .i64 ((s.rk i).st+x*s.haul),.int .i64 s.rest]/\Keep h h':=by
 have hl:=hk.2.2.1
 have hr:=hk.rock hi
 have hm:=mul9 (i:=i+1) om hk.2.2.2.2.2.1
 rw[show((i+1:Nat):Int)=x by omega]at hm
 unfold okR at hr
 refine xez hp func274 fun _ _ _ K=>?_
 refine au ?_
 refine xjq rfl fun b1=>?_
 refine xtq fun b2=>?_
 refine au ?_
 refine xaw 15 [] [] [0,1,2,3,4,5,6,7,8,9,10,11,12,13,14] ?_
 refine ad ?_
 refine xiz rfl rfl rfl (fun _ pe=>show CallsX _ _ _ #[_,.int .i64 (x-1)] _ _ from by rw[show x-1=(i:Int) by omega];exact c174 md _ _ pe _ _ _ _ s S hk i hi) ?_
 refine ad ?_
 refine au ?_
 refine xnz func274 rfl (xqx rfl ResE.nil) ?_
 exact fun _ H_=>K _ _ ⟨rfl,H_.kept⟩
theorem c272(md:Md)(h:Heap)(p:PHeap)(hp:Per p h)(a b:Option Addr)(ca cb:Nat)(s:Shf)(S:ShfP p a b s)(hk:s.ok)(fr:Nat)(hf:fr<=s.feet.length):
 CallsX prog md 272 #[.agg #[.slice a s.rocks.length ca,.slice b s.feet.length cb,.int .i64 s.deep,.int .i64 s.haul,.int .i64 s.rest],.int .i64 (fr:Nat)] h fun v h'=>v=.int .i64 (fallsF s fr:Nat)/\Keep h h':=by
 have hl:=hk.2.2.1
 refine xax hp func272 fun _ _ _ K=>?_
 refine au ?_
 refine xjq rfl fun b1=>?_
 refine au ?_
 refine xbz (fun m l=>∃(j:Nat)(st:Int),m=s.feet.length-j/\l=[(1,none,.int .i64 (fr:Nat)),(2,none,.pointer (some ⟨b1,0,none⟩)),(5,none,.int .i64 st),(6,none,.int .i64 j)]/\fr<=j/\j<=s.feet.length/\fallR s fr (s.feet.length-j) j st=fallsF s fr) ⟨fr,12,rfl,rfl,Nat.le_refl _,hf,rfl⟩ sb ?_
 rintro _ _ IH ⟨j,st,rfl,rfl,h1,h2,h3⟩
 refine au ?_
 refine xiq rfl (fun cc=>?_) (fun cc=>?_)
 ·have e:s.feet.length-j=(s.feet.length-(j+1))+1:=om
  rw[e,fallR]at h3
  refine au ?_
  refine xlq rfl rfl (fun _ pe=>c174 md _ _ pe _ _ _ _ s S hk j om) ?_
  refine au ?_
  refine xiq rfl (fun ce=>?_) (fun ce=>?_)
  ·rw[if_pos om]at h3
   refine au ?_
   exact K.r rfl rfl fun _ H_=>⟨by rw[<- h3];rfl,H_.kept⟩
  ·rw[if_neg om]at h3
   refine au ?_
   exact xnq (IH _ om ⟨j+1,_,rfl,rfl,om,om,h3⟩)
 obtain rfl:j=s.feet.length:=om
 rw[Nat.sub_self,fallR]at h3
 refine au ?_
 exact K.r rfl rfl fun _ H_=>⟨by rw[<- h3];rfl,H_.kept⟩
theorem c64(md:Md)(h:Heap)(p:PHeap)(hp:Per p h)(a b c a' b' c':Int):
 CallsX prog md 64 #[.agg #[.int .i64 a,.int .i64 b,.int .i64 c],.agg #[.int .i64 a',.int .i64 b',.int .i64 c']] h fun v h'=>v=.bool (decide (a<a'))/\Keep h h':=by
 refine xax hp func64 fun _ _ _ K=>?_
 refine au ?_
 refine xjq rfl fun b1=>?_
 refine xjq rfl fun b2=>?_
 refine au ?_
 exact K.r rfl rfl fun _ H_=>⟨rfl,H_.kept⟩
theorem c51(md:Md)(h:Heap)(p:PHeap)(hp:Per p h)(a b c a' b' c':Int):
 CallsX prog md 51 #[.agg #[.int .i64 a,.int .i64 b,.int .i64 c],.agg #[.int .i64 a',.int .i64 b',.int .i64 c']] h fun v h'=>v=.bool (decide (b<b'))/\Keep h h':=by
 refine xax hp func51 fun _ _ _ K=>?_
 refine au ?_
 refine xjq rfl fun b1=>?_
 refine xjq rfl fun b2=>?_
 refine au ?_
 exact K.r rfl rfl fun _ H_=>⟨rfl,H_.kept⟩
def opened(a b:Option Addr)(ca cb:Nat)(s:Shf)(e:Int):Value:=if e=0 then .agg #[.slice a s.rocks.length ca,.slice b s.feet.length cb,.int .i64 s.deep,.int .i64 s.haul,.int .i64 s.rest]else .agg #[.slice none 0 0,.slice none 0 0,.int .i64 0,.int .i64 0,.int .i64 0]
theorem c65(md:Md)(h:Heap)(p:PHeap)(hp:Per p h)(a b:Option Addr)(ca cb:Nat)(s:Shf)(S:ShfP p a b s)(hn:s.rocks.length<=2^40/\s.feet.length<=2^40)(is:Prop)[Decidable is]:
 CallsX prog md 65 #[.agg #[.slice a s.rocks.length ca,.slice b s.feet.length cb,.int .i64 s.deep,.int .i64 s.haul,.int .i64 s.rest],.bool (decide is)] h fun v h'=>v=.tuple #[opened a b ca cb s (openE s is),.int .i64 (openE s is)]/\Keep h h':=by
 refine xez hp func65 fun _ _ _ K=>?_
 refine au ?_
 refine xjq rfl fun b1=>?_
 refine xtq fun b2=>?_
 refine au ?_
 refine xlq rfl rfl (fun _ pe=>c117 md _ _ pe _ _ _ _ s S hn) ?_
 refine au ?_
 refine xiq rfl (fun cc=>?_) (fun cc=>?_)
 ·have hk:¬ s.ok:=fun z=>cc (if_pos z)
  have e:openE s is=20:=if_neg hk
  have e':chkF s=20:=if_neg hk
  rw[e']
  refine au ?_
  refine xnz func65 rfl (xqx rfl (ResE.tmp rfl ResE.nil)) ?_
  exact fun _ H_=>K _ _ ⟨by rw[e];rfl,H_.kept⟩
 have hk:s.ok:=Classical.not_not.1 fun z=>cc (by rw[chkF,if_neg z];decide)
 refine au ?_
 refine xiq rfl (fun ci=>?_) (fun ci=>?_)
 ·have e:openE s is=1:=by rw[openE,if_pos hk,if_neg ci]
  refine au ?_
  refine xnz func65 rfl (xqx rfl (ResE.tmp rfl ResE.nil)) ?_
  exact fun _ H_=>K _ _ ⟨by rw[e];rfl,H_.kept⟩
 ·have e:openE s is=0:=by rw[openE,if_pos hk,if_pos (Classical.not_not.1 ci)]
  refine au ?_
  refine xnz func65 rfl (xqx rfl (ResE.tmp rfl ResE.nil)) ?_
  exact fun _ H_=>K _ _ ⟨by rw[e];rfl,H_.kept⟩
end Go.Proofs.YtjcakmlipohaeaaGreatDoor
namespace Go.X
structure Wy where
 rings:Int
 pence:Int
 next:Int
deriving DecidableEq
def nW:Wy:=⟨-1,0,0⟩
def zW:Wy:=⟨0,0,0⟩
def candW(s:Shf)(out:List Wy)(next:Nat):Option Wy:=
 if out.getD next nW=nW\/(s.rk (next-1)).st= -1 then none else some ⟨(out.getD next nW).rings+1,(out.getD next nW).pence+((s.rk (next-1)).st+next*s.haul),next⟩
def updW(lt:Wy->Wy->Bool)(m:Wy):Option Wy->Wy
 |none=>m
 |some w=>if m=nW\/lt w m=true then w else m
def inW(lt:Wy->Wy->Bool)(s:Shf)(out:List Wy):Nat->Nat->Wy->Wy
 |0,_,m=>m
 |r+1,next,m=>inW lt s out r (next+1) (updW lt m (candW s out next))
def depW(lt:Wy->Wy->Bool)(s:Shf)(out:List Wy)(d:Nat):Wy:=inW lt s out (fallsF s d-d) (d+1) (out.getD d nW)
def rndW(lt:Wy->Wy->Bool)(s:Shf)(out:List Wy):Nat->List Wy
 |0=>out
 |d+1=>(rndW lt s out d).set d (depW lt s out d)
def waysF(lt:Wy->Wy->Bool)(s:Shf):Nat->List Wy
 |0=>(List.replicate (s.feet.length+1) nW).set s.feet.length zW
 |k+1=>rndW lt s (waysF lt s k) s.feet.length
def okW(k:Nat)(w:Wy):Prop:=(-1<=w.rings/\w.rings<=k)/\(0<=w.pence/\w.pence<=300*k)/\0<=w.next/\w.next<=12
theorem okW.up{k:Nat}{w:Wy}(h:okW k w):okW (k+1) w:=by unfold okW at *;omega
theorem xnr{lt s out d}:(rndW lt s out d).length=out.length:=by
 induction d with
 |zero=>rfl
 |succ d ih=>rw[rndW,List.length_set,ih]
theorem xij{lt s k}:(waysF lt s k).length=s.feet.length+1:=by
 induction k with
 |zero=>simp[waysF]
 |succ k ih=>rw[waysF,xnr,ih]
theorem xz5{s:Shf}{fr:Nat}:∀{r foot:Nat}{st:Int},foot+r=s.feet.length->foot<=fallR s fr r foot st/\fallR s fr r foot st<=s.feet.length
 |0,foot,st,h=>by rw[fallR];omega
 |r+1,foot,st,h=>by
   rw[fallR]
   split
   ·omega
   ·have:=xz5 (s:=s) (fr:=fr) (r:=r) (foot:=foot+1) (st:=min st (s.rk foot).sd) om
    omega
theorem xum{s:Shf}{fr:Nat}(h:fr<=s.feet.length):fr<=fallsF s fr/\fallsF s fr<=s.feet.length:=xz5 om
theorem yld{s:Shf}(hk:s.ok){out:List Wy}{k next:Nat}(ho:okW k (out.getD next nW))(h1:1<=next)(h2:next<=s.feet.length){w:Wy}(h:candW s out next=some w):okW (k+1) w:=by
 unfold candW at h
 split at h
 ·cases h
 ·cases h
  have hr:=hk.rock (i:=next-1) om
  have hl:=hk.2.2.1
  have hm:=mul9 (i:=next) om hk.2.2.2.2.2.1
  have hn:(s.rk (next-1)).st≠ -1:=fun z=>by simp_all
  unfold okR at hr
  unfold okW at*
  refine⟨?_,?_,?_⟩<;>simp only<;>omega
theorem ylg{lt:Wy->Wy->Bool}{k:Nat}{m:Wy}{c:Option Wy}(hm:okW k m)(hc:∀w,c=some w->okW k w):okW k (updW lt m c):=by
 cases c with
 |none=>exact hm
 |some w=>
   rw[updW]
   split
   ·exact hc w rfl
   ·exact hm
theorem yuf{lt:Wy->Wy->Bool}{s:Shf}(hk:s.ok){out:List Wy}{k:Nat}(ho:∀i,okW k (out.getD i nW)):∀{r next:Nat}{m:Wy},1<=next->next+r<=s.feet.length+1->okW (k+1) m->okW (k+1) (inW lt s out r next m)
 |0,_,_,_,_,h=>h
 |r+1,next,m,h1,h2,h=>by
   rw[inW]
   exact yuf hk ho om om (ylg h fun w e=>yld hk (ho next) h1 om e)
theorem ykt{k:Nat}:okW k nW:=by unfold okW nW;simp only;omega
theorem xjw{l:List Wy}{d i:Nat}{w:Wy}:(l.set d w).getD i nW=if d=i/\i<l.length then w else l.getD i nW:=by
 rw[List.getD_eq_getElem?_getD,List.getElem?_set,List.getD_eq_getElem?_getD]
 by_cases h:d=i
 ·subst h
  by_cases h2:d<l.length
  ·simp[h2]
  ·simp[h2]
 ·simp[h]
theorem yyq{lt:Wy->Wy->Bool}{s:Shf}(hk:s.ok){out:List Wy}{k:Nat}(ho:∀i,okW k (out.getD i nW)):∀{d:Nat},d<=s.feet.length-> ∀i,okW (k+1) ((rndW lt s out d).getD i nW)
 |0,_,i=>(ho i).up
 |d+1,hd,i=>by
   rw[rndW,xjw]
   split
   ·have:=xum (s:=s) (fr:=d) om
    exact yuf hk ho om om (ho d).up
   ·exact yyq hk ho om i
theorem xcc{lt:Wy->Wy->Bool}{s:Shf}(hk:s.ok):∀{k:Nat}(i:Nat),okW k ((waysF lt s k).getD i nW)
 |0,i=>by
   rw[waysF,xjw]
   split
   ·unfold okW zW;simp
   ·rw[List.getD_eq_getElem?_getD,List.getElem?_replicate]
    split<;>exact ykt
 |k+1,i=>yyq hk (fun i=>xcc hk i) (Nat.le_refl _) i
theorem yzq{lt s out i}:∀{d:Nat},d<=i->(rndW lt s out d).getD i nW=out.getD i nW
 |0,_=>rfl
 |d+1,h=>by rw[rndW,xjw,if_neg om,yzq om]
theorem yxq{lt s out d}(h:d<out.length):(rndW lt s out d).set d (out.getD d nW)=rndW lt s out d:=by
 rw[<- yzq (lt:=lt) (s:=s) (Nat.le_refl d),List.getD_eq_getElem?_getD,List.getElem?_eq_getElem (by rw[xnr];exact h)]
 simp
end Go.X
namespace Go.X
open Go.Conc
def Wy.cells(w:Wy):List Value:=[.int .i64 w.rings,.int .i64 w.pence,.int .i64 w.next]
def wcs(xs:List Wy):List (List Value):=xs.map Wy.cells
theorem xc9(xs:List Wy):∀u∈(wcs xs).flatten,isOne u=true:=by
 intro u hu
 simp only[wcs,List.mem_flatten,List.mem_map]at hu
 obtain⟨_,⟨w,_,rfl⟩,hu⟩:=hu
 simp only[Wy.cells,List.mem_cons,List.not_mem_nil,or_false]at hu
 rcases hu with rfl|rfl|rfl<;>rfl
theorem xed(xs:List Wy):(wcs xs).length=xs.length:=by simp[wcs]
theorem xkl{xs:List Wy}{i:Nat}(h:i<xs.length):(wcs xs)[i]?=some (xs.getD i nW).cells:=by
 rw[wcs,List.getElem?_map,List.getD_eq_getElem?_getD,List.getElem?_eq_getElem h];rfl
end Go.X
namespace Go.Proofs.YtjcakmlipohaeaaGreatDoor
open Go.Proofs.Tryz
open Go.X Go.X.Flow Go.Conc
theorem c271(md:Md)(h:Heap)(p:PHeap)(hp:Per p h)(a:Option Addr)(n c:Nat)(xs:List Wy)(S:Sl p a n 3 (wcs xs))(hn:n<=2^20)(h0:0<n):
 CallsX prog md 271 #[.slice a n c] h fun v h'=>∃Y,OwnS 100 3 v (wcs xs) Y/\New h h' Y:=by
 refine xax hp func271 fun _ _ _ K=>?_
 refine au ?_
 refine xut rfl ?_
 refine au ?_
 refine xiq rfl (fun cc=>?_) (fun cc=>?_)
 ·exact absurd cc (by rw[S.ne h0];simp)
 refine au ?_
 refine xdz rfl fun v Y o=>?_
 refine au ?_
 refine xhh rfl rfl o S (xc9 xs) (by simp[chs];omega) (fun v' Y' o'=>?_)
 refine au ?_
 exact K.r rfl rfl fun _ H_=>⟨_,o',newR H_⟩
theorem c333(md:Md)(h:Heap)(p:PHeap)(hp:Per p h)(y:Int)(hy:0<=y/\y<=1048576):
 CallsX prog md 333 #[.int .u64 1,.int .u64 y] h fun v h'=>v=.tuple #[.int .u64 0,.int .u64 y]/\Keep h h':=by
 refine xax hp func333 fun _ _ _ K=>?_
 refine au ?_
 refine ylh rfl (by decide) ?_
 refine au ?_
 refine ynq rfl (by decide) ?_
 refine au ?_
 refine ylh rfl om ?_
 refine au ?_
 refine ynq rfl om ?_
 refine au ?_
 refine ynq rfl om ?_
 refine au ?_
 refine ylh rfl om ?_
 refine au ?_
 refine ynq rfl om ?_
 refine au ?_
 refine ynq rfl om ?_
 refine au ?_
 exact K.r rfl rfl fun _ H_=>⟨by simp[packs,Int.one_mul],H_.kept⟩
theorem c307(md:Md)(h:Heap)(p:PHeap)(hp:Per p h)(y:Int)(hy:0<=y/\y<=1048576):
 CallsX prog md 307 #[.int .u64 1,.int .u64 y] h fun v h'=>v=.tuple #[.int .u64 0,.int .u64 y]/\Keep h h':=by
 refine xax hp func307 fun _ _ _ K=>?_
 refine au ?_
 refine xiq rfl (fun cc=>?_) (fun cc=>?_)
 ·cases cc
 refine au ?_
 refine xlq rfl rfl (fun _ pe=>c333 md _ _ pe _ hy) ?_
 refine au ?_
 exact K.r rfl rfl fun _ H_=>⟨rfl,H_.kept⟩
end Go.Proofs.YtjcakmlipohaeaaGreatDoor
namespace Go.X
open Go.Conc
theorem ywp{α:Type}{e z:α}{n j k:Nat}(hk:k<=j):(List.replicate j e++List.replicate (n-j) z).take j++((List.replicate j e++List.replicate (n-j) z).take k++(List.replicate j e++List.replicate (n-j) z).drop (j+k))=List.replicate (j+k) e++List.replicate (n-(j+k)) z:=by
 have e1:(List.replicate j e++List.replicate (n-j) z).take j=List.replicate j e:=by rw[List.take_append_of_le_length (by simp)];simp
 have e2:(List.replicate j e++List.replicate (n-j) z).take k=List.replicate k e:=by rw[List.take_append_of_le_length (by simp;omega),List.take_replicate,Nat.min_eq_left hk]
 have e3:(List.replicate j e++List.replicate (n-j) z).drop (j+k)=List.replicate (n-(j+k)) z:=by
  rw[List.drop_append,List.drop_eq_nil_of_le (by simp),List.nil_append,List.drop_replicate]
  congr 1
  simp;omega
 rw[e1,e2,e3,<- List.append_assoc,List.replicate_append_replicate]
end Go.X
namespace Go.Proofs.YtjcakmlipohaeaaGreatDoor
open Go.Proofs.Tryz
open Go.X Go.X.Flow Go.Conc
theorem c270(md:Md)(h:Heap)(p:PHeap)(hp:Per p h)(a:Option Addr)(c:Nat)(w:Wy)(S:Sl p a 1 3 [w.cells])(n:Nat)(hn:1<=n/\n<=20):
 CallsX prog md 270 #[.slice a 1 c,.int .i64 (n:Nat)] h fun v h'=>∃Y,OwnS 100 3 v (List.replicate n w.cells) Y/\New h h' Y:=by
 refine xax hp func270 fun _ _ _ K=>?_
 refine au ?_
 refine xiq rfl (fun cc=>?_) (fun cc=>?_)
 ·omega
 refine au ?_
 refine xdk ⟨_,underlying3⟩ underlying132 rfl (by decide) ?_
 refine au ?_
 refine xdk ⟨_,underlying3⟩ underlying132 rfl (wrU0 om) ?_
 refine xlq rfl rfl (fun _ pe=>c307 md _ _ pe _ om) ?_
 refine au ?_
 refine xiq rfl (fun cd=>?_) (fun cd=>?_)
 ·omega
 refine au ?_
 refine xdk ⟨_,underlying132⟩ underlying3 rfl (wrZ om) ?_
 refine yhh (n:=n) (zc:=[.int .i64 0,.int .i64 0,.int .i64 0]) rfl rfl om fun v Y o=>?_
 obtain⟨b,cap,e,hcap,_⟩:=o.at0 (by rw[List.length_replicate];omega) (by decide)
 rw[List.length_replicate]at e hcap
 subst e
 refine au ?_
 have one:∀u∈[w.cells].flatten,isOne u=true:=xc9 [w]
 refine ykp rfl rfl o S (by simp;omega) (by simp;omega) one fun Y1 o1=>?_
 refine au ?_
 refine xpq (fun m l p_ L_=>∃(j:Nat)(Y:Pcs),m=n-j/\l=[(7,none,.slice (some ⟨b,0,none⟩) n cap),(8,none,.int .i64 j)]/\p_=p/\L_=[Y]/\1<=j/\j<=n/\OwnS 100 3 (.slice (some ⟨b,0,none⟩) n cap) (List.replicate j w.cells++List.replicate (n-j) [.int .i64 0,.int .i64 0,.int .i64 0]) Y) ⟨1,Y1,rfl,rfl,rfl,rfl,om,om,by rw[List.drop_replicate]at o1;exact o1⟩ sb ?_
 rintro _ _ _ _ IH ⟨j,Y,rfl,rfl,rfl,rfl,h1,h2,o⟩
 have hl:(List.replicate j w.cells++List.replicate (n-j) [Value.int .i64 0,.int .i64 0,.int .i64 0]).length=n:=by simp;omega
 refine au ?_
 refine xiq rfl (fun cc=>?_) (fun cc=>?_)
 ·refine au ?_
  refine xo4 9 [] [7] [0,1,2,3,4,5,6,7,8] Y ?_
  refine ad ?_
  refine yls rfl rfl rfl om ?_
  refine ad ?_
  refine yks rfl rfl rfl om ?_
  have hk:Nat.min j (n-j)<=n-j/\Nat.min j (n-j)<=j/\0<Nat.min j (n-j):=⟨Nat.min_le_right _ _,Nat.min_le_left _ _,by show 0<min j (n-j);omega⟩
  refine yps hl rfl o rfl rfl om (by decide) rfl om om (fun u hu=>?_) fun Y' o'=>?_
  ·obtain⟨e,h3,h4⟩:=List.mem_flatten.1 hu
   rcases List.mem_append.1 h3 with h5|h5
   ·rw[List.eq_of_mem_replicate h5]at h4;exact one u (by simpa using h4)
   ·rw[List.eq_of_mem_replicate h5]at h4
    simp only[List.mem_cons,List.not_mem_nil,or_false]at h4
    rcases h4 with rfl|rfl|rfl<;>rfl
  rw[ywp hk.2.1]at o'
  refine ad ?_
  refine au ?_
  exact xnq (IH _ _ _ om ⟨j+Nat.min j (n-j),Y',rfl,rfl,rfl,rfl,om,om,o'⟩)
 obtain rfl:j=n:=om
 refine au ?_
 rw[Nat.sub_self,List.replicate_zero,List.append_nil]at o
 exact K.r rfl rfl fun _ H_=>⟨_,o,newR H_⟩
theorem eqWy(a b c a' b' c':Int):∀h(K:Bool->Heap->Prop),K (decide ((⟨a,b,c⟩:Wy)=⟨a',b',c'⟩)) h->wpS prog (Op.equalIn (9999+1) 100 (.agg #[.int .i64 a,.int .i64 b,.int .i64 c]) (.agg #[.int .i64 a',.int .i64 b',.int .i64 c'])) h K:=fun h K k=>by
 have e:decide ((⟨a,b,c⟩:Wy)=⟨a',b',c'⟩)=decide (a=a'/\b=b'/\c=c'):=by congr 1;simp
 rw[e]at k
 exact xmk underlying100 (by kernel_rfl) (yrt underlying3 underlying3 underlying3 rfl rfl rfl (by decide) (by decide) (by decide) (by kernel_rfl) (by kernel_rfl) (by kernel_rfl)) k
theorem yjg{xs:List Wy}{d:Nat}{w:Wy}{c:List Value}(hc:c=w.cells:=by rfl):(X.wcs xs).set d c=X.wcs (xs.set d w):=by subst hc;simp[X.wcs,List.map_set]
theorem c173(md:Md)(h:Heap)(p:PHeap)(hp:Per p h)(a b:Option Addr)(ca cb:Nat)(s:Shf)(S:ShfP p a b s)(hk:s.ok){tN:TypeId}(z:Nat×Nat)(hG:p 1=some (.cells #[.int .i64 (-1),.int .i64 0,.int .i64 0] tN z))(fv:Value)(lt:Wy->Wy->Bool)
 (hlt:∀h_,Per p h_-> ∀a b c a' b' c':Int,CallV prog md fv [.agg #[.int .i64 a,.int .i64 b,.int .i64 c],.agg #[.int .i64 a',.int .i64 b',.int .i64 c']] h_ fun v h'=>v=.bool (lt ⟨a,b,c⟩ ⟨a',b',c'⟩)/\Keep h_ h')(most:Int)(hm:0<=most/\most<=99):
 CallsX prog md 173 #[.agg #[.slice a s.rocks.length ca,.slice b s.feet.length cb,.int .i64 s.deep,.int .i64 s.haul,.int .i64 s.rest],fv,.int .i64 most] h fun v h'=>∃Y,OwnS 100 3 v (wcs (waysF lt s (min most.toNat s.feet.length))) Y/\New h h' Y:=by
 have hl:=hk.2.2.1
 refine xax hp func173 fun _ _ _ K=>?_
 refine au ?_
 refine xjq rfl fun b1=>?_
 refine au ?_
 refine xhd rfl rfl sdt (xpx (xsz (n:=3) hG)) ?_
 refine xdz rfl fun v Y o=>?_
 refine au ?_
 refine xrb o rfl fun p' a1 cap1 le e1 S1=>?_
 subst e1
 have S:=S.mono le
 have hG:=le _ _ hG
 refine xck rfl rfl (fun _ pe=>c270 md _ _ pe _ _ nW S1 (s.feet.length+1) om) fun v Y o=>?_
 refine au ?_
 obtain⟨b2,cap2,e2,hcap2,_⟩:=o.at0 (by rw[List.length_replicate];omega) (by decide)
 rw[List.length_replicate]at e2 hcap2
 subst e2
 refine xuk rfl rfl o (by rw[List.length_replicate];omega) ?_
 refine xjv (i:=s.feet.length) (j:=0) (e:=nW.cells) (vs:=zW.cells) rfl rfl o rfl rfl rfl rfl (by simp) (by decide) fun Y' o'=>?_
 refine au ?_
 have o0:OwnS 100 3 (.slice (some ⟨b2,0,none⟩) (s.feet.length+1) cap2) (wcs (waysF lt s 0)) Y':=by
  have e:wcs (waysF lt s 0)=(List.replicate (s.feet.length+1) nW.cells).set s.feet.length zW.cells:=by simp[X.wcs,waysF,List.map_set,List.map_replicate]
  rw[e];exact o'
 have hmn:min most (s.feet.length:Int)=((min most.toNat s.feet.length:Nat):Int):=om
 generalize hK:min most.toNat s.feet.length=kk at*
 rw[hmn]
 refine xpq (fun m l p_ L_=>∃(k:Nat)(v:Value)(Y:Pcs),m=kk-k/\l=[(1,none,fv),(3,none,.pointer (some ⟨b1,0,none⟩)),(7,none,.int .i64 s.feet.length),(8,none,v),(28,none,.int .i64 (kk:Nat)),(29,none,.int .i64 (k:Nat))]/\PLe p' p_/\
  L_=[Y,[(b1,.cells #[.slice a s.rocks.length ca,.slice b s.feet.length cb,.int .i64 s.deep,.int .i64 s.haul,.int .i64 s.rest] 98 (0,0))]]/\k<=kk/\OwnS 100 3 v (wcs (waysF lt s k)) Y) ⟨0,_,Y',rfl,rfl,fun _ _ h=>h,rfl,Nat.zero_le _,o0⟩ sb ?_
 rintro _ _ p1 _ IH ⟨k,v,Y,rfl,rfl,le1,rfl,hkk,o⟩
 refine au ?_
 refine xiq rfl (fun cc=>?_) (fun cc=>?_)
 ·refine au ?_
  refine xrb o (m:=s.feet.length+1) (by rw[xed,xij]) fun p2 a2 cap2 le2 e2 So=>?_
  subst e2
  have hG:=le2 _ _ (le1 _ _ hG)
  have S:=(S.mono le1).mono le2
  refine xck rfl rfl (fun _ pe=>c271 md _ _ pe _ _ _ _ So om om) fun v2 Y2 o2=>?_
  obtain⟨b3,cap3,e3,hcap3,_⟩:=o2.at0 (by rw[xed,xij];omega) (by decide)
  rw[xed,xij]at e3 hcap3
  subst e3
  refine au ?_
  refine xpq (fun m l p_ L_=>∃(d:Nat)(Y:Pcs),m=s.feet.length-d/\l=[(1,none,fv),(3,none,.pointer (some ⟨b1,0,none⟩)),(7,none,.int .i64 s.feet.length),(8,none,.slice a2 (s.feet.length+1) cap2),(9,none,.slice (some ⟨b3,0,none⟩) (s.feet.length+1) cap3),(28,none,.int .i64 (kk:Nat)),(29,none,.int .i64 (k:Nat)),(33,none,.int .i64 s.feet.length),(34,none,.int .i64 (d:Nat))]/\p2=p_/\L_=[Y,[(b1,.cells #[.slice a s.rocks.length ca,.slice b s.feet.length cb,.int .i64 s.deep,.int .i64 s.haul,.int .i64 s.rest] 98 (0,0))]]/\d<=s.feet.length/\OwnS 100 3 (.slice (some ⟨b3,0,none⟩) (s.feet.length+1) cap3) (wcs (rndW lt s (waysF lt s k) d)) Y) ⟨0,Y2,rfl,rfl,rfl,rfl,Nat.zero_le _,o2⟩ sb ?_
  rintro _ _ _ _ IHd ⟨d,Y3,rfl,rfl,rfl,rfl,hd,o3⟩
  refine au ?_
  refine xiq rfl (fun cd=>?_) (fun cd=>?_)
  ·refine au ?_
   have hf:=xum (s:=s) (fr:=d) om
   refine xpq (fun m l p_ L_=>∃(next:Nat)(w:Wy)(Y:Pcs),m=s.feet.length+1-next/\l=[(1,none,fv),(3,none,.pointer (some ⟨b1,0,none⟩)),(7,none,.int .i64 s.feet.length),(8,none,.slice a2 (s.feet.length+1) cap2),(9,none,.slice (some ⟨b3,0,none⟩) (s.feet.length+1) cap3),(10,none,.int .i64 (d:Nat)),(11,none,.int .i64 (next:Nat)),(28,none,.int .i64 (kk:Nat)),(29,none,.int .i64 (k:Nat)),(33,none,.int .i64 s.feet.length),(34,none,.int .i64 (d:Nat))]/\p2=p_/\L_=[Y,[(b1,.cells #[.slice a s.rocks.length ca,.slice b s.feet.length cb,.int .i64 s.deep,.int .i64 s.haul,.int .i64 s.rest] 98 (0,0))]]/\d<next/\next<=fallsF s d+1/\inW lt s (waysF lt s k) (fallsF s d+1-next) next w=depW lt s (waysF lt s k) d/\
    OwnS 100 3 (.slice (some ⟨b3,0,none⟩) (s.feet.length+1) cap3) (wcs ((rndW lt s (waysF lt s k) d).set d w)) Y) ⟨d+1,(waysF lt s k).getD d nW,Y3,rfl,rfl,rfl,rfl,om,om,?_,?_⟩ sb ?_
   ·rw[depW,Nat.add_sub_add_right]
   ·rw[yxq (by rw[xij];omega)];exact o3
   rintro _ _ _ _ IHn ⟨next,w,Y4,rfl,rfl,rfl,rfl,hn1,hn2,hin,o4⟩
   refine au ?_
   refine xlq rfl rfl (fun _ pe=>c272 md _ _ pe _ _ _ _ s S hk d om) ?_
   refine au ?_
   refine xiq rfl (fun ce=>?_) (fun ce=>?_)
   ·refine au ?_
    refine xaw 12 [] [] [0,1,2,3,4,5,6,7,8,9,10,11] ?_
    refine ad ?_
    refine xhb (vs:=((waysF lt s k).getD next nW).cells) rfl rfl (So.get next _ (xkl (xs:=waysF lt s k) (i:=next) (by rw[xij];have:=hf.2;omega))) ?_
    refine xhb (vs:=[.int .i64 (-1),.int .i64 0,.int .i64 0]) rfl rfl (xsz (off:=0) (n:=3) hG) ?_
    refine ysk rfl rfl rfl (eqWy _ _ _ _ _ _) ?_
    refine ad ?_
    refine xak rfl rfl rfl rfl sdt (fun _ _ pe=>c273 md _ _ pe _ _ _ _ s S hk (next-1) om _ om) ?_
    refine ad ?_
    refine au ?_
    refine xiq rfl (fun cf=>?_) (fun cf=>?_)
    ·have hc:candW s (waysF lt s k) next=none:=if_pos (cf.imp (fun z=>z) Classical.not_not.1)
     refine au ?_
     exact xnq (IHn _ _ _ om ⟨next+1,w,Y4,rfl,rfl,rfl,rfl,om,om,by rw[<- hin,show fallsF s d+1-next=(fallsF s d+1-(next+1))+1 by omega,inW,hc];rfl,o4⟩)
    have hb:=xcc (lt:=lt) hk (k:=k) next
    have hw:=xkl (xs:=waysF lt s k) (i:=next) (by rw[xij];omega)
    have hr:=hk.rock (i:=next-1) om
    have hm:=mul9 (i:=next) om hk.2.2.2.2.2.1
    unfold okR at hr
    unfold okW at hb
    refine au ?_
    have hc:candW s (waysF lt s k) next=some ⟨((waysF lt s k).getD next nW).rings+1,((waysF lt s k).getD next nW).pence+((s.rk (next-1)).st+next*s.haul),next⟩:=if_neg fun z=>cf (z.imp (fun z=>z) fun z1 z2=>z2 z1)
    have hin2:inW lt s (waysF lt s k) (fallsF s d+1-(next+1)) (next+1) (updW lt w (candW s (waysF lt s k) next))=depW lt s (waysF lt s k) d:=by rw[<- hin,show fallsF s d+1-next=(fallsF s d+1-(next+1))+1 by omega];rfl
    rw[hc,updW]at hin2
    have hlen:d<((rndW lt s (waysF lt s k) d).set d w).length:=by rw[List.length_set,xnr,xij];omega
    refine xaw 19 [] [18] [0,1,2,3,4,5,6,7,8,9,10,11,12,13,14,15,16,17,18] ?_
    refine ad ?_
    refine xag rfl rfl (So.get next _ hw 0 _ rfl) ?_
    refine ad ?_
    refine xag rfl rfl (So.get next _ hw 1 _ rfl) ?_
    refine ad ?_
    refine xiz rfl rfl rfl (fun _ pe=>c274 md _ _ pe _ _ _ _ s S hk (next-1) om _ om) ?_
    refine ad ?_
    refine xus rfl fun b4=>?_
    refine ad ?_
    refine au ?_
    have ho:(wcs ((rndW lt s (waysF lt s k) d).set d w))[d]?=some w.cells:=(xkl hlen).trans (by rw[xjw,if_pos ⟨rfl,by simpa using hlen⟩])
    refine xaw 15 [] [] [0,1,2,3,4,5,6,7,8,9,10,11,12,13,14] ?_
    refine ad ?_
    refine xkk rfl rfl rfl rfl sdt sdt o4 (by rw[xed];exact hlen) ?_
    refine xp6 rfl rfl rfl sdt o4 rfl ho ?_
    refine xhb (vs:=[.int .i64 (-1),.int .i64 0,.int .i64 0]) rfl rfl (xsz (off:=0) (n:=3) hG) ?_
    refine ysk rfl rfl rfl (eqWy _ _ _ _ _ _) ?_
    refine ad ?_
    refine xkk rfl rfl rfl rfl sdt sdt o4 (by rw[xed];exact hlen) ?_
    refine xp6 rfl rfl rfl sdt o4 rfl ho ?_
    refine xq6 rfl rfl rfl sdt rfl sdt (xpx fun _ pe=>hlt _ (fun b o e=>pe b o (le2 b o (le1 b o (le b o e)))) _ _ _ _ _ _) ?_
    refine ad ?_
    refine au ?_
    refine xiq rfl (fun cg=>?_) (fun cg=>?_)
    ·rw[if_pos (show w=nW\/lt _ w=true from cg)]at hin2
     refine au ?_
     refine xuk rfl rfl o4 (by rw[xed];exact hlen) ?_
     refine xjv (i:=d) (j:=0) rfl rfl o4 rfl rfl rfl rfl ho (Nat.le_of_ble_eq_true rfl) fun Y5 o5=>?_
     refine au ?_
     exact xnq (IHn _ _ _ om ⟨next+1,⟨((waysF lt s k).getD next nW).rings+1,((waysF lt s k).getD next nW).pence+((s.rk (next-1)).st+next*s.haul),next⟩,Y5,rfl,rfl,rfl,rfl,om,om,hin2,o5.as ((yjg (w:=⟨((waysF lt s k).getD next nW).rings+1,((waysF lt s k).getD next nW).pence+((s.rk (next-1)).st+next*s.haul),next⟩) rfl).trans (congrArg X.wcs (List.set_set _)))⟩)
    refine au ?_
    exact xnq (IHn _ _ _ om ⟨next+1,w,Y4,rfl,rfl,rfl,rfl,om,om,by rw[<- hin2,if_neg (show ¬ (w=nW\/lt _ w=true) from cg)],o4⟩)
   ·obtain rfl:next=fallsF s d+1:=om
    rw[Nat.sub_self,inW]at hin
    subst hin
    refine au ?_
    exact xnq (IHd _ _ _ om ⟨d+1,Y4,rfl,rfl,rfl,rfl,om,o4⟩)
  ·obtain rfl:d=s.feet.length:=om
   refine au ?_
   exact xnq (IH _ _ _ om ⟨k+1,_,Y3,rfl,rfl,fun b o h=>le2 b o (le1 b o h),rfl,om,o3⟩)
 ·obtain rfl:k=kk:=om
  refine au ?_
  exact K.r rfl rfl fun h_ H_=>⟨_,o,newR H_⟩
end Go.Proofs.YtjcakmlipohaeaaGreatDoor
namespace Go.X
def okN(e d:Nat)(w:Wy):Prop:=w.next=0\/((d:Int)<w.next/\w.next<=e)
theorem xo5{lt:Wy->Wy->Bool}{s:Shf}{out:List Wy}{e d:Nat}:∀{r next:Nat}{m:Wy},d<next->next+r<=e+1->okN e d m->okN e d (inW lt s out r next m)
 |0,_,_,_,_,h=>h
 |r+1,next,m,h1,h2,h=>by
   rw[inW]
   refine xo5 om om ?_
   unfold updW
   split
   ·exact h
   ·rename_i w hw
    split
    ·unfold candW at hw
     split at hw
     ·cases hw
     ·cases hw
      exact .inr ⟨by simp only;omega,by simp only;omega⟩
    ·exact h
theorem xyt{lt:Wy->Wy->Bool}{s:Shf}{out:List Wy}(ho:∀i,okN s.feet.length i (out.getD i nW)):∀{d:Nat},d<=s.feet.length-> ∀i,okN s.feet.length i ((rndW lt s out d).getD i nW)
 |0,_,i=>ho i
 |d+1,hd,i=>by
   rw[rndW,xjw]
   split
   ·rename_i h
    rw[<- h.1]
    have:=xum (s:=s) (fr:=d) om
    exact xo5 om om (ho d)
   ·exact xyt ho om i
theorem xon{lt:Wy->Wy->Bool}{s:Shf}:∀{k:Nat}(i:Nat),okN s.feet.length i ((waysF lt s k).getD i nW)
 |0,i=>by
   rw[waysF,xjw]
   split
   ·exact .inl rfl
   ·rw[List.getD_eq_getElem?_getD,List.getElem?_replicate]
    split<;>exact .inl rfl
 |k+1,i=>xyt (fun i=>xon i) (Nat.le_refl _) i
def bestW(lt:Wy->Wy->Bool)(s:Shf)(most:Nat):Wy:=(waysF lt s (min most s.feet.length)).getD 0 nW
def findE(lt:Wy->Wy->Bool)(s:Shf):Int:=if s.ok then(if bestW lt s 12=nW then 3 else 0)else 20
def findW(lt:Wy->Wy->Bool)(s:Shf):Wy:=if findE lt s=0 then bestW lt s 12 else nW
def ltF(a b:Wy):Bool:=decide (a.rings<b.rings)
def ltC(a b:Wy):Bool:=decide (a.pence<b.pence)
def fewestF(s:Shf):Int:=if findE ltF s=0 then(bestW ltF s 12).rings else 0
def cheapF(s:Shf):Int:=if findE ltC s=0 then(digK s s.feet.length).1+(bestW ltC s 12).pence else 0
def firstF(s:Shf)(d:Nat):Shf:={s with feet:=s.feet.take d}
def deepR(s:Shf)(pence:Int):Nat->Nat
 |0=>0
 |d+1=>if findE ltC (firstF s (d+1))=0/\cheapF (firstF s (d+1))<=pence then d+1 else deepR s pence d
def deepE(s:Shf)(pence:Int):Int:=openE s (0<=pence/\pence<=9999)
def deepF(s:Shf)(pence:Int):Int:=if deepE s pence=0 then deepR s pence s.feet.length else 0
def moreF(s:Shf)(r:Int):Shf:={s with feet:=s.feet++[r]}
def nextE(s:Shf)(r:Int):Int:=if openE s (0<=r/\r<=(s.rocks.length:Int)-1)≠0 then openE s (0<=r/\r<=(s.rocks.length:Int)-1)else if s.feet.length=12 then 2 else if findE ltC s≠0 then findE ltC s else findE ltC (moreF s r)
def nextF(s:Shf)(r:Int):Int:=if nextE s r=0 then cheapF (moreF s r)-cheapF s else 0
theorem xsm(lt:Wy->Wy->Bool)(s:Shf):(¬ s.ok/\findE lt s=20)\/(s.ok/\bestW lt s 12=nW/\findE lt s=3)\/(s.ok/\bestW lt s 12≠nW/\findE lt s=0):=by
 unfold findE
 by_cases h:s.ok
 ·by_cases w:bestW lt s 12=nW
  ·exact .inr (.inl ⟨h,w,by rw[if_pos h,if_pos w]⟩)
  ·exact .inr (.inr ⟨h,w,by rw[if_pos h,if_neg w]⟩)
 ·exact .inl ⟨h,if_neg h⟩
end Go.X
namespace Go.Proofs.YtjcakmlipohaeaaGreatDoor
open Go.Proofs.Tryz
open Go.X Go.X.Flow Go.Conc
theorem c103(md:Md)(h:Heap)(p:PHeap)(hp:Per p h)(a b:Option Addr)(ca cb:Nat)(s:Shf)(S:ShfP p a b s)(hk:s.ok){tN:TypeId}(z:Nat×Nat)(hG:p 1=some (.cells #[.int .i64 (-1),.int .i64 0,.int .i64 0] tN z))(fv:Value)(lt:Wy->Wy->Bool)
 (hlt:∀h_,Per p h_-> ∀a b c a' b' c':Int,CallV prog md fv [.agg #[.int .i64 a,.int .i64 b,.int .i64 c],.agg #[.int .i64 a',.int .i64 b',.int .i64 c']] h_ fun v h'=>v=.bool (lt ⟨a,b,c⟩ ⟨a',b',c'⟩)/\Keep h_ h'):
 CallsX prog md 103 #[.agg #[.slice a s.rocks.length ca,.slice b s.feet.length cb,.int .i64 s.deep,.int .i64 s.haul,.int .i64 s.rest],fv,.int .i64 12] h fun v h'=>∃Y,(∃w es,v=.tuple #[.agg #[.int .i64 (bestW lt s 12).rings,.int .i64 (bestW lt s 12).pence,.int .i64 (bestW lt s 12).next],w,.bool (!decide (bestW lt s 12=nW))]/\OwnS 3 1 w es Y)/\New h h' Y:=by
 have hl:=hk.2.2.1
 refine xez hp func103 fun _ _ _ K=>?_
 refine aw ?_
 refine xjq rfl fun b1=>?_
 refine xtq fun b2=>?_
 refine aw ?_
 refine xck rfl rfl (fun _ pe=>c173 md _ _ pe _ _ _ _ s S hk z hG fv lt hlt 12 om) fun v Y o=>?_
 refine aw ?_
 rw[show(12:Int).toNat=12 from rfl]at o
 refine yyh o (m:=s.feet.length+1) (by rw[xed,xij]) fun p' a2 cap2 le e2 So=>?_
 subst e2
 have hG:=le _ _ hG
 have hB:bestW lt s 12=(waysF lt s (min 12 s.feet.length)).getD 0 nW:=rfl
 generalize hK:min 12 s.feet.length=kk at*
 have hw0:=xkl (xs:=waysF lt s kk) (i:=0) (by rw[xij];omega)
 have ho:=xcc (lt:=lt) hk (k:=kk) 0
 refine xaw 5 [] [] [0,1,2,3,4] ?_
 refine ae ?_
 refine xhb (vs:=((waysF lt s kk).getD 0 nW).cells) rfl rfl (So.get 0 _ hw0) ?_
 refine xhb (vs:=[.int .i64 (-1),.int .i64 0,.int .i64 0]) rfl rfl (xsz (off:=0) (n:=3) hG) ?_
 refine ysk rfl rfl rfl (eqWy _ _ _ _ _ _) ?_
 refine ae ?_
 refine aw ?_
 refine xiq rfl (fun cc=>?_) (fun cc=>?_)
 ·have e0:(waysF lt s kk).getD 0 nW=nW:=cc
  refine aw ?_
  refine xhd rfl rfl sdt (xpx (xsz (n:=3) hG)) ?_
  refine aw ?_
  refine xfb 3 1 fun o=>?_
  refine xnz func103 rfl (xqx rfl (.tmp rfl (.tmp rfl ResE.nil))) ?_
  exact fun h_ H_=>K _ _ ⟨_,⟨_,_,by rw[hB,e0];rfl,o⟩,newR H_⟩
 have e0:(waysF lt s kk).getD 0 nW≠nW:=cc
 refine aw ?_
 refine xfb 3 1 fun o=>?_
 refine xpq (fun m l p_ L_=>∃(d:Nat)(w:Value)(es:List (List Value))(Y:Pcs),m=s.feet.length+1-d/\l=[(9,none,.slice a2 (s.feet.length+1) cap2),(10,none,w),(11,none,.int .i64 (d:Nat)),(6,none,.pointer (some ⟨b2,0,none⟩))]/\p_=p'/\
  L_=[Y,[(b2,.cells #[.int .i64 0,.int .i64 0,.int .i64 0] 100 (0,0))],[(b1,.cells #[.slice a s.rocks.length ca,.slice b s.feet.length cb,.int .i64 s.deep,.int .i64 s.haul,.int .i64 s.rest] 98 (0,0))]]/\d<=s.feet.length/\es.length<=d/\OwnS 3 1 w es Y) ⟨0,_,[],_,rfl,rfl,rfl,rfl,Nat.zero_le _,Nat.zero_le _,o⟩ sb ?_
 rintro _ _ _ _ IH ⟨d,w,es,Y,rfl,rfl,rfl,rfl,hd,hes,o⟩
 have hw:=xkl (xs:=waysF lt s kk) (i:=d) (by rw[xij];omega)
 have hnx:=xon (lt:=lt) (s:=s) (k:=kk) d
 unfold okN at hnx
 refine aw ?_
 refine xvk rfl (So.get d _ hw 2 _ rfl) ?_
 refine aw ?_
 refine xiq rfl (fun cd=>?_) (fun cd=>?_)
 ·have hw2:(wcs (waysF lt s kk))[d]?=some ((waysF lt s kk).getD d nW).cells:=hw
  obtain⟨d2,hd2⟩:∃d2:Nat,((waysF lt s kk).getD d nW).next=(d2:Int):=⟨((waysF lt s kk).getD d nW).next.toNat,om⟩
  refine aw ?_
  refine xvk rfl (So.get d _ hw 2 _ rfl) ?_
  refine xdz rfl fun v2 Y2 o2=>?_
  have o2:OwnS 3 1 v2 [[.int .i64 ((waysF lt s kk).getD d nW).next]] Y2:=o2
  refine xcf rfl rfl o o2 (fun u hu=>by rw[List.mem_singleton.1 hu];rfl) (by simp;omega) fun v3 Y3 o3=>?_
  refine aw ?_
  refine xvk rfl (So.get d _ hw 2 _ rfl) ?_
  refine aw ?_
  rw[hd2]at hnx cd
  rw[hd2]
  exact xnq (IH _ _ _ om ⟨d2,v3,_,Y3,rfl,rfl,rfl,rfl,om,by simp;omega,o3⟩)
 refine aw ?_
 refine xqk (vs:=((waysF lt s kk).getD 0 nW).cells) rfl (So.get 0 _ hw0) ?_
 refine aw ?_
 refine xnz func103 rfl (xqx rfl (.tmp rfl (.tmp rfl ResE.nil))) ?_
 exact fun h_ H_=>K _ _ ⟨_,⟨_,_,by rw[hB,decide_eq_false e0];rfl,o⟩,newR H_⟩
theorem xyr(md:Md)(h:Heap)(p:PHeap)(hp:Per p h)(a b:Option Addr)(ca cb:Nat)(s:Shf)(S:ShfP p a b s)(hk:s.ok)(is:Prop)[Decidable is](hi:is):
 CallsX prog md 65 #[.agg #[.slice a s.rocks.length ca,.slice b s.feet.length cb,.int .i64 s.deep,.int .i64 s.haul,.int .i64 s.rest],.bool (decide is)] h fun v h'=>v=.tuple #[.agg #[.slice a s.rocks.length ca,.slice b s.feet.length cb,.int .i64 s.deep,.int .i64 s.haul,.int .i64 s.rest],.int .i64 0]/\Keep h h':=by
 have c:=c65 md h p hp a b ca cb s S ⟨by have:=hk.1;omega,by have:=hk.2.2.1;omega⟩ is
 rw[show openE s is=0 from by rw[openE,if_pos hk,if_pos hi]]at c
 exact c
theorem xk2(md:Md)(h:Heap)(p:PHeap)(hp:Per p h)(a b:Option Addr)(ca cb:Nat)(s:Shf)(S:ShfP p a b s)(hn:s.rocks.length<=2^40/\s.feet.length<=2^40)(is:Prop)[Decidable is](e:Int)(he:openE s is=e)(h0:e≠0):
 CallsX prog md 65 #[.agg #[.slice a s.rocks.length ca,.slice b s.feet.length cb,.int .i64 s.deep,.int .i64 s.haul,.int .i64 s.rest],.bool (decide is)] h fun v h'=>v=.tuple #[.agg #[.slice none 0 0,.slice none 0 0,.int .i64 0,.int .i64 0,.int .i64 0],.int .i64 e]/\Keep h h':=by
 have c:=c65 md h p hp a b ca cb s S hn is
 rw[he,show opened a b ca cb s e=.agg #[.slice none 0 0,.slice none 0 0,.int .i64 0,.int .i64 0,.int .i64 0] from if_neg h0]at c
 exact c
theorem c50(md:Md)(h:Heap)(p:PHeap)(hp:Per p h)(a b:Option Addr)(ca cb:Nat)(s:Shf)(S:ShfP p a b s)(hn:s.rocks.length<=2^40/\s.feet.length<=2^40){tN:TypeId}(z:Nat×Nat)(hG:p 1=some (.cells #[.int .i64 (-1),.int .i64 0,.int .i64 0] tN z))(fv:Value)(lt:Wy->Wy->Bool)
 (hlt:∀h_,Per p h_-> ∀a b c a' b' c':Int,CallV prog md fv [.agg #[.int .i64 a,.int .i64 b,.int .i64 c],.agg #[.int .i64 a',.int .i64 b',.int .i64 c']] h_ fun v h'=>v=.bool (lt ⟨a,b,c⟩ ⟨a',b',c'⟩)/\Keep h_ h'):
 CallsX prog md 50 #[.agg #[.slice a s.rocks.length ca,.slice b s.feet.length cb,.int .i64 s.deep,.int .i64 s.haul,.int .i64 s.rest],fv] h fun v h'=>∃Y,(∃w es,v=.tuple #[opened a b ca cb s (findE lt s),.agg #[.int .i64 (findW lt s).rings,.int .i64 (findW lt s).pence,.int .i64 (findW lt s).next],w,.int .i64 (findE lt s)]/\OwnS 3 1 w es Y)/\New h h' Y:=by
 have hf:=xsm lt s
 refine xez hp func50 fun _ _ _ K=>?_
 refine aw ?_
 refine xjq rfl fun b1=>?_
 refine xtq fun b2=>?_
 refine xtq fun b3=>?_
 refine aw ?_
 rcases hf with⟨hk,hf⟩|hk
 ·refine xlq rfl rfl (fun _ pe=>xk2 md _ _ pe _ _ _ _ s S hn True 20 (if_neg hk) (by decide)) ?_
  refine aw ?_
  refine xtq fun b4=>?_
  refine aw ?_
  refine xiq rfl (fun cc=>?_) (fun cc=>absurd (by decide) cc)
  refine aw ?_
  refine xdm 6 [] [3,4] [0,1,2,3,4,5] b2 b3 ?_
  refine ae ?_
  refine xbb rfl rfl rfl sdt (xpx (xsz (n:=3) hG)) ?_
  refine ae ?_
  refine aw ?_
  refine xfb 3 1 fun o=>?_
  refine xnz func50 rfl (xqx rfl (xqx rfl (.tmp rfl (.tmp rfl ResE.nil)))) ?_
  exact fun h_ H_=>K _ _ ⟨_,⟨_,_,by rw[findW,hf];rfl,o⟩,newR H_⟩
 have hk':s.ok:=by rcases hk with hk|hk<;>exact hk.1
 refine xlq rfl rfl (fun _ pe=>xyr md _ _ pe _ _ _ _ s S hk' True trivial) ?_
 refine aw ?_
 refine xtq fun b4=>?_
 refine aw ?_
 refine xiq rfl (fun cc=>absurd rfl cc) (fun cc=>?_)
 refine aw ?_
 refine xck rfl rfl (fun _ pe=>c103 md _ _ pe _ _ _ _ s S hk' z hG fv lt hlt) ?_
 rintro _ Y ⟨w,es,rfl,o⟩
 refine aw ?_
 refine xtq fun b5=>?_
 refine aw ?_
 rcases hk with⟨_,hw,hf⟩|⟨_,hw,hf⟩
 ·refine xiq rfl (fun cd=>?_) (fun cd=>absurd (by simpa using hw) cd)
  refine aw ?_
  refine xdm 5 [] [2,3] [0,1,2,3,4] b2 b3 ?_
  refine ae ?_
  refine xbb rfl rfl rfl sdt (xpx (xsz (n:=3) hG)) ?_
  refine ae ?_
  refine aw ?_
  refine xfb 3 1 fun o=>?_
  refine xnz func50 rfl (xqx rfl (xqx rfl (.tmp rfl (.tmp rfl ResE.nil)))) ?_
  exact fun h_ H_=>K _ _ ⟨_,⟨_,_,by rw[findW,hf];rfl,o⟩,newR H_⟩
 refine xiq rfl (fun cd=>absurd cd (by simpa using hw)) (fun cd=>?_)
 refine aw ?_
 refine xdm 6 [] [3,4] [0,1,2,3,4,5] b2 b3 ?_
 refine ae ?_
 refine aw ?_
 refine xnz func50 rfl (xqx rfl (xqx rfl (.tmp rfl (.tmp rfl ResE.nil)))) ?_
 exact fun h_ H_=>K _ _ ⟨_,⟨_,_,by rw[findW,hf];rfl,o⟩,newR H_⟩
theorem xx5(md:Md)(h:Heap)(p:PHeap)(hp:Per p h)(a b:Option Addr)(ca cb:Nat)(s:Shf)(S:ShfP p a b s)(hn:s.rocks.length<=2^40/\s.feet.length<=2^40){tN:TypeId}(z:Nat×Nat)(hG:p 1=some (.cells #[.int .i64 (-1),.int .i64 0,.int .i64 0] tN z))(fv:Value)(lt:Wy->Wy->Bool)
 (hlt:∀h_,Per p h_-> ∀a b c a' b' c':Int,CallV prog md fv [.agg #[.int .i64 a,.int .i64 b,.int .i64 c],.agg #[.int .i64 a',.int .i64 b',.int .i64 c']] h_ fun v h'=>v=.bool (lt ⟨a,b,c⟩ ⟨a',b',c'⟩)/\Keep h_ h')(he:findE lt s=0):
 CallsX prog md 50 #[.agg #[.slice a s.rocks.length ca,.slice b s.feet.length cb,.int .i64 s.deep,.int .i64 s.haul,.int .i64 s.rest],fv] h fun v h'=>∃Y,(∃w es,v=.tuple #[.agg #[.slice a s.rocks.length ca,.slice b s.feet.length cb,.int .i64 s.deep,.int .i64 s.haul,.int .i64 s.rest],.agg #[.int .i64 (bestW lt s 12).rings,.int .i64 (bestW lt s 12).pence,.int .i64 (bestW lt s 12).next],w,.int .i64 0]/\OwnS 3 1 w es Y)/\New h h' Y:=by
 have c:=c50 md h p hp a b ca cb s S hn z hG fv lt hlt
 rw[findW,if_pos he,he]at c
 exact c
theorem yhj(md:Md)(h:Heap)(p:PHeap)(hp:Per p h)(a b:Option Addr)(ca cb:Nat)(s:Shf)(S:ShfP p a b s)(hn:s.rocks.length<=2^40/\s.feet.length<=2^40){tN:TypeId}(z:Nat×Nat)(hG:p 1=some (.cells #[.int .i64 (-1),.int .i64 0,.int .i64 0] tN z))(fv:Value)(lt:Wy->Wy->Bool)
 (hlt:∀h_,Per p h_-> ∀a b c a' b' c':Int,CallV prog md fv [.agg #[.int .i64 a,.int .i64 b,.int .i64 c],.agg #[.int .i64 a',.int .i64 b',.int .i64 c']] h_ fun v h'=>v=.bool (lt ⟨a,b,c⟩ ⟨a',b',c'⟩)/\Keep h_ h')(he:findE lt s≠0):
 CallsX prog md 50 #[.agg #[.slice a s.rocks.length ca,.slice b s.feet.length cb,.int .i64 s.deep,.int .i64 s.haul,.int .i64 s.rest],fv] h fun v h'=>∃Y,(∃w es,v=.tuple #[.agg #[.slice none 0 0,.slice none 0 0,.int .i64 0,.int .i64 0,.int .i64 0],.agg #[.int .i64 (-1),.int .i64 0,.int .i64 0],w,.int .i64 (findE lt s)]/\OwnS 3 1 w es Y)/\New h h' Y:=by
 have c:=c50 md h p hp a b ca cb s S hn z hG fv lt hlt
 rw[findW,if_neg he,show opened a b ca cb s (findE lt s)=.agg #[.slice none 0 0,.slice none 0 0,.int .i64 0,.int .i64 0,.int .i64 0] from if_neg he]at c
 exact c
theorem ykr{lt:Wy->Wy->Bool}{s:Shf}(h:findE lt s=0):s.ok:=by
 rcases xsm lt s with⟨_,e⟩|⟨k,_,e⟩|⟨k,_,e⟩
 ·rw[e]at h;cases h
 ·exact k
 ·exact k
theorem c22(md:Md)(h:Heap)(p:PHeap)(hp:Per p h)(a b:Option Addr)(ca cb:Nat)(s:Shf)(S:ShfP p a b s)(hn:s.rocks.length<=2^40/\s.feet.length<=2^40){tN:TypeId}(z:Nat×Nat)(hG:p 1=some (.cells #[.int .i64 (-1),.int .i64 0,.int .i64 0] tN z)):
 CallsX prog md 22 #[.agg #[.slice a s.rocks.length ca,.slice b s.feet.length cb,.int .i64 s.deep,.int .i64 s.haul,.int .i64 s.rest]] h fun v h'=>v=.tuple #[.int .i64 (fewestF s),.int .i64 (findE ltF s)]/\Keep h h':=by
 refine xax hp func22 fun _ _ _ K=>?_
 refine aw ?_
 refine xjq rfl fun b1=>?_
 refine aw ?_
 by_cases he:findE ltF s=0
 ·refine xck rfl rfl (fun _ pe=>xx5 md _ _ pe _ _ _ _ s S hn z hG _ ltF (fun h_ pe a b c a' b' c'=>xgq (by kernel_rfl) (c64 md h_ p pe a b c a' b' c')) he) ?_
  rintro _ Y ⟨w,es,rfl,o⟩
  refine aw ?_
  refine xtq fun b2=>?_
  refine xtq fun b3=>?_
  refine aw ?_
  refine xiq rfl (fun cc=>absurd rfl cc) (fun cc=>?_)
  refine aw ?_
  exact K.r rfl rfl fun h_ H_=>⟨by rw[fewestF,if_pos he,he];rfl,H_.kept⟩
 ·refine xck rfl rfl (fun _ pe=>yhj md _ _ pe _ _ _ _ s S hn z hG _ ltF (fun h_ pe a b c a' b' c'=>xgq (by kernel_rfl) (c64 md h_ p pe a b c a' b' c')) he) ?_
  rintro _ Y ⟨w,es,rfl,o⟩
  refine aw ?_
  refine xtq fun b2=>?_
  refine xtq fun b3=>?_
  refine aw ?_
  refine xiq rfl (fun cc=>?_) (fun cc=>absurd he cc)
  refine aw ?_
  exact K.r rfl rfl fun h_ H_=>⟨by rw[fewestF,if_neg he];rfl,H_.kept⟩
theorem c12(md:Md)(h:Heap)(p:PHeap)(hp:Per p h)(a b:Option Addr)(ca cb:Nat)(s:Shf)(S:ShfP p a b s)(hn:s.rocks.length<=2^40/\s.feet.length<=2^40){tN:TypeId}(z:Nat×Nat)(hG:p 1=some (.cells #[.int .i64 (-1),.int .i64 0,.int .i64 0] tN z)):
 CallsX prog md 12 #[.agg #[.slice a s.rocks.length ca,.slice b s.feet.length cb,.int .i64 s.deep,.int .i64 s.haul,.int .i64 s.rest]] h fun v h'=>v=.tuple #[.int .i64 (cheapF s),.int .i64 (findE ltC s)]/\Keep h h':=by
 refine xax hp func12 fun _ _ _ K=>?_
 refine aw ?_
 refine xjq rfl fun b1=>?_
 refine aw ?_
 by_cases he:findE ltC s=0
 ·have hk:=ykr he
  have hl:=hk.2.2.1
  have hd:=xrs hk (i:=s.feet.length) (Nat.le_refl _)
  have hw:okW _ (bestW ltC s 12):=xcc (lt:=ltC) hk (k:=min 12 s.feet.length) 0
  unfold okW at hw
  refine xck rfl rfl (fun _ pe=>xx5 md _ _ pe _ _ _ _ s S hn z hG _ ltC (fun h_ pe a b c a' b' c'=>xgq (by kernel_rfl) (c51 md h_ p pe a b c a' b' c')) he) ?_
  rintro _ Y ⟨w,es,rfl,o⟩
  refine aw ?_
  refine xtq fun b2=>?_
  refine xtq fun b3=>?_
  refine aw ?_
  refine xiq rfl (fun cc=>absurd rfl cc) (fun cc=>?_)
  refine aw ?_
  refine xaw 6 [] [] [0,1,2,3,4,5] ?_
  refine ae ?_
  refine xiz rfl rfl rfl (fun _ pe=>c52 md _ _ pe _ _ _ _ s S hk) ?_
  refine ae ?_
  refine aw ?_
  exact K.r rfl rfl fun h_ H_=>⟨by rw[cheapF,if_pos he,he];rfl,H_.kept⟩
 ·refine xck rfl rfl (fun _ pe=>yhj md _ _ pe _ _ _ _ s S hn z hG _ ltC (fun h_ pe a b c a' b' c'=>xgq (by kernel_rfl) (c51 md h_ p pe a b c a' b' c')) he) ?_
  rintro _ Y ⟨w,es,rfl,o⟩
  refine aw ?_
  refine xtq fun b2=>?_
  refine xtq fun b3=>?_
  refine aw ?_
  refine xiq rfl (fun cc=>?_) (fun cc=>absurd he cc)
  refine aw ?_
  exact K.r rfl rfl fun h_ H_=>⟨by rw[cheapF,if_neg he];rfl,H_.kept⟩
theorem xow{s:Shf}(he:findE ltC s=0):0<=cheapF s/\cheapF s<=10000:=by
 have hk:=ykr he
 have hl:=hk.2.2.1
 have hd:=xrs hk (i:=s.feet.length) (Nat.le_refl _)
 have hw:okW _ (bestW ltC s 12):=xcc (lt:=ltC) hk (k:=min 12 s.feet.length) 0
 unfold okW at hw
 rw[cheapF,if_pos he]
 omega
theorem ypn{p:PHeap}{a:Option Addr}{n w:Nat}{es:List (List Value)}(s:Sl p a n w es){d:Nat}(h:d<=n):Sl p a d w (es.take d):=by
 have:=s.part (c:=n) (l:=0) (r:=d) (Nat.le_refl n) (Nat.zero_le d) h
 rwa[ycd,Nat.sub_zero,List.drop_zero]at this
theorem yvr{p:PHeap}{a b:Option Addr}{s:Shf}(S:ShfP p a b s){d:Nat}(h:d<=s.feet.length):ShfP p a b (firstF s d):=
 ⟨S.r,by have:=ypn S.f h;rw[<- List.map_take]at this;show Sl p b (s.feet.take d).length 1 _;rw[List.length_take,Nat.min_eq_left h];exact this⟩
theorem c23(md:Md)(h:Heap)(p:PHeap)(hp:Per p h)(a b:Option Addr)(ca cb:Nat)(s:Shf)(S:ShfP p a b s)(hn:s.rocks.length<=2^40/\s.feet.length<=2^40)(hc:s.feet.length<=cb){tN:TypeId}(z:Nat×Nat)(hG:p 1=some (.cells #[.int .i64 (-1),.int .i64 0,.int .i64 0] tN z))(pence:Int):
 CallsX prog md 23 #[.agg #[.slice a s.rocks.length ca,.slice b s.feet.length cb,.int .i64 s.deep,.int .i64 s.haul,.int .i64 s.rest],.int .i64 pence] h fun v h'=>v=.tuple #[.int .i64 (deepF s pence),.int .i64 (deepE s pence)]/\Keep h h':=by
 refine xax hp func23 fun _ _ _ K=>?_
 refine aw ?_
 refine xjq rfl fun b1=>?_
 refine aw ?_
 refine xaw 9 [] [7,8] [0,1,2,3,4,5,6,7,8] ?_
 refine ae ?_
 refine xiz rfl rfl rfl (fun _ pe=>c66 md _ _ pe _ _ _) ?_
 by_cases he:deepE s pence=0
 ·have hk:s.ok/\(0<=pence/\pence<=9999):=by
   unfold deepE openE at he
   split at he
   ·rename_i h1
    split at he
    ·rename_i h2;exact⟨h1,h2⟩
    ·cases he
   ·cases he
  refine xiz rfl rfl rfl (fun _ pe=>xyr md _ _ pe _ _ _ _ s S hk.1 _ hk.2) ?_
  refine ae ?_
  refine xus rfl fun b2=>?_
  refine ae ?_
  refine aw ?_
  refine xiq rfl (fun cc=>absurd rfl cc) (fun cc=>?_)
  refine aw ?_
  refine xpq (fun m l p_ L_=>∃(d:Nat)(A:Pcs),m=d/\l=[(1,none,.int .i64 pence),(2,none,.pointer (some ⟨b1,0,none⟩)),(8,none,.int .i64 (d:Nat))]/\p_=p/\L_=[[(b1,.cells #[.slice a s.rocks.length ca,.slice b s.feet.length cb,.int .i64 s.deep,.int .i64 s.haul,.int .i64 s.rest] 25 (0,0))],A]/\d<=s.feet.length/\deepR s pence d=deepR s pence s.feet.length) ⟨s.feet.length,_,rfl,rfl,rfl,rfl,Nat.le_refl _,rfl⟩ sb ?_
  rintro d _ _ _ IH ⟨_,A,rfl,rfl,rfl,rfl,hd,hR⟩
  refine aw ?_
  refine xiq rfl (fun cd=>?_) (fun cd=>?_)
  ·obtain⟨e0,rfl⟩:∃e0,d=e0+1:=⟨d-1,om⟩
   have e:(firstF s (e0+1)).feet.length=e0+1:=by simp[firstF];omega
   refine aw ?_
   refine xtq fun b3=>?_
   refine aw ?_
   refine xxn (j:=e0+1) rfl rfl om ?_
   refine aw ?_
   refine xlq rfl rfl (fun _ pe=>by have c:=c12 md _ _ pe a b ca cb (firstF s (e0+1)) (yvr S hd) ⟨hn.1,om⟩ z hG;rw[e]at c;exact c) ?_
   refine aw ?_
   rw[deepR]at hR
   refine xiq rfl (fun ce=>?_) (fun ce=>?_)
   ·refine aw ?_
    rw[if_pos ce]at hR
    exact K.r rfl rfl fun _ H_=>⟨by rw[deepF,if_pos he,he,<- hR];rfl,H_.kept⟩
   ·rw[if_neg ce]at hR
    refine aw ?_
    rw[show((e0+1:Nat):Int)-1=(e0:Nat) by omega]
    exact xnq (IH _ _ _ (Nat.lt_succ_self e0) ⟨e0,A,rfl,rfl,rfl,rfl,om,hR⟩)
  obtain rfl:d=0:=om
  refine aw ?_
  exact K.r rfl rfl fun _ H_=>⟨by rw[deepF,if_pos he,he,<- hR];rfl,H_.kept⟩
 ·refine xiz rfl rfl rfl (fun _ pe=>xk2 md _ _ pe _ _ _ _ s S hn _ _ rfl he) ?_
  refine ae ?_
  refine xus rfl fun b2=>?_
  refine ae ?_
  refine aw ?_
  refine xiq rfl (fun cc=>?_) (fun cc=>absurd he cc)
  refine aw ?_
  exact K.r rfl rfl fun _ H_=>⟨by rw[deepF,if_neg he];rfl,H_.kept⟩
theorem ylt{p:PHeap}{a b b':Option Addr}{n:Nat}{s:Shf}{r:Int}(S:ShfP p a b s)(F:Sl p b' n 1 (s.feet.map (fun x=>[.int .i64 x])++[[.int .i64 r]])):ShfP p a b' (moreF s r):=
 ⟨S.r,by
  have hl:=F.len
  simp only[List.length_append,List.length_map,List.length_cons,List.length_nil]at hl
  have e:(moreF s r).feet.length=n:=by rw[<- hl];simp[moreF]
  rw[e]
  show Sl p b' n 1 _
  rw[show(moreF s r).feet=s.feet++[r] from rfl,List.map_append]
  exact F⟩
theorem c24(md:Md)(h:Heap)(p:PHeap)(hp:Per p h)(a b:Option Addr)(ca cb:Nat)(s:Shf)(S:ShfP p a b s)(hn:s.rocks.length<=2^30/\s.feet.length<=2^30)(hc:s.feet.length<=cb){tN:TypeId}(z:Nat×Nat)(hG:p 1=some (.cells #[.int .i64 (-1),.int .i64 0,.int .i64 0] tN z))(r:Int):
 CallsX prog md 24 #[.agg #[.slice a s.rocks.length ca,.slice b s.feet.length cb,.int .i64 s.deep,.int .i64 s.haul,.int .i64 s.rest],.int .i64 r] h fun v h'=>v=.tuple #[.int .i64 (nextF s r),.int .i64 (nextE s r)]/\Keep h h':=by
 refine xax hp func24 fun _ _ _ K=>?_
 refine aw ?_
 refine xjq rfl fun b1=>?_
 refine aw ?_
 refine xaw 13 [] [11,12] [0,1,2,3,4,5,6,7,8,9,10,11,12] ?_
 refine ae ?_
 refine xiz rfl rfl rfl (fun _ pe=>c66 md _ _ pe _ _ _) ?_
 by_cases he:openE s (0<=r/\r<=(s.rocks.length:Int)-1)=0
 ·have hk:s.ok/\(0<=r/\r<=(s.rocks.length:Int)-1):=by
   unfold openE at he
   split at he
   ·rename_i h1
    split at he
    ·rename_i h2;exact⟨h1,h2⟩
    ·cases he
   ·cases he
  have hl:=hk.1.2.2.1
  refine xiz rfl rfl rfl (fun _ pe=>xyr md _ _ pe _ _ _ _ s S hk.1 _ hk.2) ?_
  refine ae ?_
  refine xus rfl fun b2=>?_
  refine ae ?_
  refine aw ?_
  refine xiq rfl (fun cc=>absurd rfl cc) (fun cc=>?_)
  refine aw ?_
  refine xiq rfl (fun cd=>?_) (fun cd=>?_)
  ·refine aw ?_
   have e:nextE s r=2:=by rw[nextE,if_neg (fun z=>z he),if_pos om]
   exact K.r rfl rfl fun _ H_=>⟨by rw[nextF,e,if_neg (by decide)];rfl,H_.kept⟩
  refine aw ?_
  refine xlq rfl rfl (fun _ pe=>c12 md _ _ pe _ _ _ _ s S ⟨om,om⟩ z hG) ?_
  refine aw ?_
  refine xiq rfl (fun ce=>?_) (fun ce=>?_)
  ·refine aw ?_
   have e:nextE s r=findE ltC s:=by rw[nextE,if_neg (fun z=>z he),if_neg om,if_pos ce]
   exact K.r rfl rfl fun _ H_=>⟨by rw[nextF,e,if_neg ce];rfl,H_.kept⟩
  have ce:=Classical.not_not.1 ce
  refine aw ?_
  refine yef rfl rfl rfl hc ?_
  refine aw ?_
  refine xdz rfl fun v2 Y2 o2=>?_
  have o2:OwnS 3 1 v2 [[.int .i64 r]] Y2:=o2
  refine xxt rfl rfl S.f o2 (Nat.succ_pos _) (by simp;omega) fun v3 Y3 o3=>?_
  refine xbx o3 (m:=s.feet.length+1) (by simp) (by decide) fun p' b3 c3 g e3 hc3 F=>?_
  subst e3
  have S':=ylt (S.mono g.le) F
  have hG':=g.le _ _ hG
  refine aw ?_
  refine xlq rfl rfl (fun _ pe=>by have c:=c12 md _ _ pe a b3 ca c3 (moreF s r) S' ⟨by simp only[moreF];omega,by simp[moreF];omega⟩ z hG';rw[show(moreF s r).feet.length=s.feet.length+1 from by simp[moreF]]at c;exact c) ?_
  refine aw ?_
  have e:nextE s r=findE ltC (moreF s r):=by rw[nextE,if_neg (fun z=>z he),if_neg om,if_neg (fun z=>z ce)]
  refine xiq rfl (fun cf=>?_) (fun cf=>?_)
  ·refine aw ?_
   exact K.r rfl rfl fun _ H_=>⟨by rw[nextF,e,if_neg cf];rfl,H_.kept⟩
  have cf:=Classical.not_not.1 cf
  have hb1:=xow ce
  have hb2:=xow cf
  refine aw ?_
  exact K.r rfl rfl fun _ H_=>⟨by rw[nextF,e,if_pos cf,cf];rfl,H_.kept⟩
 ·refine xiz rfl rfl rfl (fun _ pe=>xk2 md _ _ pe _ _ _ _ s S ⟨om,om⟩ _ _ rfl he) ?_
  refine ae ?_
  refine xus rfl fun b2=>?_
  refine ae ?_
  refine aw ?_
  refine xiq rfl (fun cc=>?_) (fun cc=>absurd he cc)
  refine aw ?_
  have e:nextE s r=openE s (0<=r/\r<=(s.rocks.length:Int)-1):=by rw[nextE,if_pos he]
  exact K.r rfl rfl fun _ H_=>⟨by rw[nextF,e,if_neg he];rfl,H_.kept⟩
end Go.Proofs.YtjcakmlipohaeaaGreatDoor
