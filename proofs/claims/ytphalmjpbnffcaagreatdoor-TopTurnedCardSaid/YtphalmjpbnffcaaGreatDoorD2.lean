/-
  Part of proofs about cords and rosters in a file: a lone run, and what it computes. No condition.
-/
import Derived.Test.YtphalmjpbnffcaaGreatDoorD1
import Derived.Shelf.Strings.BuilderK
import Derived.Lib.ConvBytes
namespace Go.X.Hr
open Go.X Go.X.Kn
def leftA (L hs:List Int):Nat→List Int
  | 0=>L
  | k+1=>less (leftA L hs k) (hs.getD k 0)
def okA (r:Rst) (hs:List Int) (i:Nat):Prop:=((r.sts.getD i sz).lo≤hs.getD i 0∧hs.getD i 0≤(r.sts.getD i sz).hi)∧(leftA r.room hs i).getD (hs.getD i 0).toNat 0≠0
instance (r hs i):Decidable (okA r hs i):=by unfold okA;infer_instance
def goodP (r:Rst) (hs:List Int):Prop:=hs.length=r.sts.length∧ ∀ i,i<hs.length→okA r hs i
instance (r hs):Decidable (goodP r hs):=by unfold goodP;infer_instance
def costK (r:Rst) (hs:List Int):Nat→Int
  | 0=>0
  | k+1=>costK r hs k+stepsI (r.sts.getD k sz) (hs.getD k 0)
def givH (r:Rst) (hs:List Int):Int:=askH r (decide (goodP r hs))
theorem yzk {p:PHeap} {a:Option Addr} {n:Nat} {xs:List Int} (A:Ints p a n xs) (h:a.isNone=true):xs=[]:=by
  have hl:=A.len
  by_cases c:0<n
  · have:=A.ne c;rw [this] at h;cases h
  · cases xs with
    | nil=>rfl
    | cons x l=>simp at hl;omega
theorem zkz (L h):(less L h).length=L.length:=by simp [less]
theorem xvx (L hs): ∀ k,(leftA L hs k).length=L.length
  | 0=>rfl
  | k+1=>by rw [leftA,zkz,xvx L hs k]
theorem yiz (L:List Int) (h:Int) (i:Nat):(less L h).getD i 0=if i=h.toNat∧i<L.length then L.getD i 0-1 else L.getD i 0:=by
  unfold less
  simp only [List.getD_eq_getElem?_getD,List.getElem?_set]
  by_cases e:h.toNat=i
  · subst e
    by_cases c:h.toNat<L.length
    · simp [c]
    · simp [c]
  · rw [if_neg e,if_neg (fun z=>e z.1.symm)]
theorem ytx {r:Rst} (h:rosB r) (i:Nat):0≤r.room.getD i 0∧r.room.getD i 0≤6:=by
  by_cases c:i<r.room.length
  · have:=h.2.1 _ (xmw (d:=0) c)
    unfold badR at this
    by_cases z:0≤r.room.getD i 0∧r.room.getD i 0≤6
    · exact z
    · rw [decide_eq_false z] at this;exact Bool.noConfusion this
  · rw [List.getD_eq_getElem?_getD,List.getElem?_eq_none (by omega)];exact ⟨Int.le_refl _,by decide⟩
theorem yij {r:Rst} {hs:List Int} (h:rosB r): ∀ {k:Nat},(∀ i,i<k→okA r hs i)→ ∀ i,0≤(leftA r.room hs k).getD i 0∧(leftA r.room hs k).getD i 0≤6
  | 0,_,i=>ytx h i
  | k+1,hk,i=>by
    have ih:=yij h (k:=k) (fun i hi=>hk i (by omega)) i
    have h0:=(hk k (by omega)).2
    rw [leftA,yiz]
    by_cases c:i=(hs.getD k 0).toNat∧i<(leftA r.room hs k).length
    · rw [if_pos c];rw [← c.1] at h0;omega
    · rw [if_neg c];exact ih
theorem rosB.rng {r:Rst} (h:rosB r) {i:Nat} (hi:i<r.sts.length):0≤(r.sts.getD i sz).lo∧(r.sts.getD i sz).hi≤(r.room.length:Int)-1∧(r.sts.getD i sz).lo≤(r.sts.getD i sz).hi∧(r.sts.getD i sz).hi≤7∧0≤(r.sts.getD i sz).cost∧(r.sts.getD i sz).cost≤9∧ -1≤(r.sts.getD i sz).has∧(r.sts.getD i sz).has≤7:=by
  have hs:=h.st hi
  have hr:=h.1
  unfold okS at hs
  omega
theorem goodP.rng {r:Rst} {hs:List Int} (h:rosB r) (g:goodP r hs) {i:Nat} (hi:i<hs.length): -100≤(r.sts.getD i sz).has∧(r.sts.getD i sz).has≤100∧ -100≤hs.getD i 0∧hs.getD i 0≤100∧0≤(r.sts.getD i sz).cost∧(r.sts.getD i sz).cost≤9:=by
  have a:=h.rng (i:=i) (by rw [← g.1];exact hi)
  have b:=(g.2 i hi).1
  omega
theorem yvz {r:Rst} {hs:List Int} (h:rosB r) (g:goodP r hs): ∀ {k:Nat},k≤hs.length→0≤costK r hs k∧costK r hs k≤1800*k
  | 0,_=>⟨Int.le_refl _,Int.le_refl _⟩
  | k+1,hk=>by
    have ih:=yvz h g (k:=k) (by omega)
    have:=yhk (g.rng h (i:=k) (by omega))
    show 0≤costK r hs k+moveI _ _*_∧costK r hs k+moveI _ _*_≤_
    omega
theorem zav {r:Rst} {hs:List Int} (h:rosB r) (g:goodP r hs):givH r hs=0:=by
  unfold givH askH;rw [if_pos (show chkH r=0 from if_pos h),decide_eq_true g];rfl
theorem xmq {r:Rst} {hs:List Int} (h: ¬ hs.length=r.sts.length): ¬ goodP r hs:=fun z=>h z.1
theorem xkj {r:Rst} {hs:List Int} {i:Nat} (hi:i<hs.length) (h: ¬ okA r hs i): ¬ goodP r hs:=fun z=>h (z.2 i hi)
def fullA (hs:List Int):Nat→List Int→List Int
  | 0,F=>F
  | k+1,F=>(fullA hs k F).set (hs.getD k 0).toNat ((fullA hs k F).getD (hs.getD k 0).toNat 0+1)
theorem xsw (hs F): ∀ k,(fullA hs k F).length=F.length
  | 0=>rfl
  | k+1=>by rw [fullA,List.length_set,xsw hs F k]
theorem ymz {L hs:List Int}: ∀ (k:Nat) (i:Nat),i<L.length→(fullA hs k (List.replicate L.length 0)).getD i 0+(leftA L hs k).getD i 0=L.getD i 0
  | 0,i,hi=>by
    show (List.replicate L.length (0:Int)).getD i 0+L.getD i 0=_
    rw [List.getD_eq_getElem?_getD,List.getElem?_replicate,if_pos hi];simp
  | k+1,i,hi=>by
    have ih:=ymz (L:=L) (hs:=hs) k i hi
    have hl:=xvx L hs k
    have hf:=xsw hs (List.replicate L.length 0) k
    rw [List.length_replicate] at hf
    rw [leftA,yiz,fullA]
    by_cases e:i=(hs.getD k 0).toNat
    · rw [if_pos ⟨e,by omega⟩,List.getD_eq_getElem?_getD,List.getElem?_set,if_pos e.symm,if_pos (by omega),← e]
      show _+1+_=_
      omega
    · rw [if_neg (fun z=>e z.1),List.getD_eq_getElem?_getD,List.getElem?_set,if_neg (fun z=>e z.symm),← List.getD_eq_getElem?_getD]
      exact ih
theorem zxz {n:Nat} {hs:List Int}: ∀ (k i:Nat),0≤(fullA hs k (List.replicate n 0)).getD i 0
  | 0,i=>by
    show 0≤(List.replicate n (0:Int)).getD i 0
    rw [List.getD_eq_getElem?_getD,List.getElem?_replicate];split <;> exact Int.le_refl _
  | k+1,i=>by
    have ih:=zxz (n:=n) (hs:=hs) k i
    rw [fullA,List.getD_eq_getElem?_getD,List.getElem?_set]
    by_cases e:(hs.getD k 0).toNat=i
    · rw [if_pos e]
      by_cases c:i<(fullA hs k (List.replicate n 0)).length
      · rw [if_pos (by omega)];rw [e];show 0≤_+1;omega
      · rw [if_neg (by omega)];exact Int.le_refl _
    · rw [if_neg e,← List.getD_eq_getElem?_getD];exact ih
theorem wgq {r:Rst} {hs:List Int} (h:rosB r) {k:Nat} (hk: ∀ i,i<k→okA r hs i) {i:Nat} (hi:i<r.room.length):0≤(fullA hs k (List.replicate r.room.length 0)).getD i 0∧(fullA hs k (List.replicate r.room.length 0)).getD i 0≤6:=by
  have a:=ymz (L:=r.room) (hs:=hs) k i hi
  have b:=yij h hk i
  have c:=ytx h i
  have d:=zxz (n:=r.room.length) (hs:=hs) k i
  omega
theorem zxj {r:Rst} {hs:List Int} {k:Nat} (hi:(hs.getD k 0).toNat<r.room.length):(fullA hs (k+1) (List.replicate r.room.length 0)).getD (hs.getD k 0).toNat 0=(fullA hs k (List.replicate r.room.length 0)).getD (hs.getD k 0).toNat 0+1:=by
  have hf:=xsw hs (List.replicate r.room.length 0) k
  rw [List.length_replicate] at hf
  rw [fullA,List.getD_eq_getElem?_getD,List.getElem?_set,if_pos rfl,if_pos (by omega)];rfl
theorem wfq {r:Rst} {hs:List Int} (h:rosB r) {k:Nat} (hk: ∀ i,i<k→okA r hs i) (h1:(r.sts.getD k sz).lo≤hs.getD k 0∧hs.getD k 0≤(r.sts.getD k sz).hi) (hi:(hs.getD k 0).toNat<r.room.length):
    okA r hs k↔ ¬ r.room.getD (hs.getD k 0).toNat 0<(fullA hs (k+1) (List.replicate r.room.length 0)).getD (hs.getD k 0).toNat 0:=by
  have a:=ymz (L:=r.room) (hs:=hs) k _ hi
  have b:=yij h hk (hs.getD k 0).toNat
  rw [zxj hi]
  constructor
  · intro z;have:=z.2;omega
  · intro z;exact ⟨h1,by omega⟩
theorem wjx {r:Rst} (h:rosB r):askH r true=0:=by unfold askH;rw [if_pos (show chkH r=0 from if_pos h)];rfl
end Go.X.Hr
namespace Go.X
open Go.Conc

section
variable {P:Program} {h:Heap}

theorem yjj {t:TypeId} {cs:Array Value} {off n:Nat} {K:Value→Heap→Prop} (ha:aggT P t=some true) (hs:sizeT P t=some n) (x:K (.agg (cs.extract off (off+n))) h):wpS P (part t cs off) h K:=by
  unfold part
  refine xbq (xyq ha ?_)
  rw [if_pos rfl]
  exact xbq (xik hs (xbz x))
theorem xux {t:TypeId} {cs:Array Value} {off:Nat} {v:Value} {K:Value→Heap→Prop} (ha:aggT P t=some false) (hv:cs[off]?=some v) (x:K v h):wpS P (part t cs off) h K:=by
  unfold part
  refine xbq (xyq ha ?_)
  rw [if_neg (by simp),hv]
  exact xbz x

theorem zcw {K:Program→Heap→Prop} (x:K P h):wpS P program h K:=by simp only [program,wpS];exact x

def EqOk (P:Program) (d:Nat) (xs ys:Array Value):List Field→Bool→Prop
  | [],r=>r=true
  | f :: fs, r => f.name ≠ "_" ∧ ∃ a b q, (∀ h (K : Value → Heap → Prop), K a h → wpS P (part f.type xs f.offset) h K) ∧ (∀ h (K : Value → Heap → Prop), K b h → wpS P (part f.type ys f.offset) h K) ∧
      (∀ h (K:Bool→Heap→Prop),K q h→wpS P (Op.equalIn d f.type a b) h K)∧(q=false∧r=false∨q=true∧EqOk P d xs ys fs r)

theorem yxx {d:Nat} {t:TypeId} {fs:Array Field} {xs ys:Array Value} {r:Bool} {K:Bool→Heap→Prop} (ht:P.underlying t=some (.struct fs)) (hp:P.stoodInHeld t=false) (e:EqOk P d xs ys fs.toList r) (k:K r h):
    wpS P (Op.equalIn (d+1) t (.agg xs) (.agg ys)) h K:=by
  simp only [Op.equalIn]
  refine xbq (xdv ht ?_)
  simp only
  refine xbq (zcw ?_)
  rw [if_neg (by rw [hp];simp)]
  rw [← Array.forIn_toList]
  generalize fs.toList=l at e
  refine xbq ?_
  induction l generalizing h with
  | nil=>
    rw [show r=true from e] at k
    simp only [List.forIn_nil]
    exact xbz (xbz k)
  | cons f l ih=>
    obtain ⟨hn,a,b,q,ha,hb,hq,hr⟩:=e
    simp only [List.forIn_cons]
    refine xbq ?_
    rw [if_pos hn]
    refine xbq (ha _ _ ?_)
    refine xbq (hb _ _ ?_)
    refine xbq (hq _ _ ?_)
    rcases hr with ⟨rfl,rfl⟩ | ⟨rfl,hr⟩
    · exact xbz (xbz (xbz k))
    · exact xbz (ih k hr)

theorem yxz {d:Nat} {t:TypeId} {k:IntKind} {a b:Int} {K:Bool→Heap→Prop} (ht:P.underlying t=some (.int k)) (x:K (decide (a=b)) h):wpS P (Op.equalIn (d+1) t (.int k a) (.int k b)) h K:=by
  simp only [Op.equalIn]
  refine xbq (xdv ht ?_)
  simp only [if_true,ibeq]
  exact xbz x

variable {tm:List Value} {d:Option Tmp} {ty:TypeId} {pos:String} {aft:Array Edge} {gd:Option (Nat × Bool)}
end
end Go.X
namespace Go.X
open Go.Conc

def ci (l:List Int):Array Value:=(l.map fun x=>Value.int .i64 x).toArray
def kV (l:List Int):Value:=.agg (ci l)
def aV (a:Int × Int):Value:=.agg #[.int .i64 a.1,.int .i64 a.2]
theorem wow {l:List Int} {k:Nat} (h:k<l.length):(ci l)[k]?=some (.int .i64 (l.getD k 0)):=by
  simp [ci,List.getD_eq_getElem?_getD,List.getElem?_eq_getElem h]
theorem zgv (i:Int) (l:List Int) {n:Nat} (h:l.length=n):(ci (i::l)).extract 1 (1+n)=ci l:=by
  simp [ci,← h,List.take_of_length_le]
section
variable {P:Program} {h:Heap}
theorem zrq {d:Nat} {t eT:TypeId} {n:Nat} {a b:List Int} {K:Bool→Heap→Prop} (ht:P.underlying t=some (.array n eT)) (te:P.underlying eT=some (.int .i64)) (ae:aggT P eT=some false) (se:sizeT P eT=some 1) (ha:a.length=n) (hb:b.length=n)
    (x:K (decide (a=b)) h):wpS P (Op.equalIn (d+1+1) t (.agg (ci a)) (.agg (ci b))) h K:=by
  have hx:decide (a=b)=decide (∀ k∈List.range' 0 n,a.getD k 0=b.getD k 0):=by
    rw [decide_eq_decide]
    constructor
    · rintro rfl _ _;rfl
    · intro z
      refine List.ext_getElem? fun k=>?_
      by_cases c:k<n
      · have:=z k (by simp [List.mem_range'];omega)
        rw [List.getD_eq_getElem?_getD,List.getD_eq_getElem?_getD,List.getElem?_eq_getElem (by omega),List.getElem?_eq_getElem (by omega)] at this
        rw [List.getElem?_eq_getElem (by omega),List.getElem?_eq_getElem (by omega)]
        exact congrArg some this
      · rw [List.getElem?_eq_none (by omega),List.getElem?_eq_none (by omega)]
  rw [hx] at x
  rw [Op.equalIn]
  refine xbq (xdv ht ?_)
  simp only
  refine xbq (xik se ?_)
  rw [Std.Legacy.Range.forIn_eq_forIn_range']
  have hl: ∀ k∈List.range' 0 n,k<n:=fun k hk=>by simp [List.mem_range'] at hk;omega
  simp only [Std.Legacy.Range.size]
  rw [show (n-0+1-1) / 1=n from by omega]
  generalize List.range' 0 n=l at x hl
  refine xbq ?_
  induction l generalizing h with
  | nil=>
    simp only [List.forIn_nil]
    exact xbz (xbz (by simpa using x))
  | cons k l ih=>
    have hk:=hl k (List.mem_cons_self ..)
    simp only [List.forIn_cons]
    refine xbq ?_
    refine xbq (xux ae (by rw [Nat.mul_one];exact wow (by omega)) ?_)
    refine xbq (xux ae (by rw [Nat.mul_one];exact wow (by omega)) ?_)
    refine xbq (yxz te ?_)
    by_cases c:a.getD k 0=b.getD k 0
    · rw [decide_eq_true c]
      refine xbz ?_
      refine ih ?_ (fun k z=>hl k (List.mem_cons_of_mem _ z))
      have e:decide (∀ z∈k::l,a.getD z 0=b.getD z 0)=decide (∀ z∈l,a.getD z 0=b.getD z 0):=by
        rw [decide_eq_decide]
        exact ⟨fun z q hq=>z q (List.mem_cons_of_mem _ hq),fun z q hq=>by rcases List.mem_cons.1 hq with rfl | hq;exact c;exact z q hq⟩
      rw [← e];exact x
    · rw [decide_eq_false c]
      rw [decide_eq_false (fun z=>c (z k (List.mem_cons_self ..)))] at x
      exact xbz (xbz (xbz x))
theorem yov {b:Bool} {n:Nat} {t:TypeId} {v:Value} {K:Unit→Heap→Prop} {k:IntKind} (ht:P.underlying t=some (.int k)) (x:K () h):wpS P (Instr.checkKey b (n+1) t v) h K:=by
  unfold Instr.checkKey
  refine xbq (xdv ht ?_)
  exact xbz x
theorem znv {q:Bool} {d:Nat} {t eT:TypeId} {n:Nat} {a:List Int} {K:Unit→Heap→Prop} (ht:P.underlying t=some (.array n eT)) (te:P.underlying eT=some (.int .i64)) (ae:aggT P eT=some false) (se:sizeT P eT=some 1) (ha:a.length=n)
    (x:K () h):wpS P (Instr.checkKey q (d+1+1) t (.agg (ci a))) h K:=by
  rw [Instr.checkKey]
  refine xbq (xdv ht ?_)
  simp only
  rw [Std.Legacy.Range.forIn_eq_forIn_range']
  have hl: ∀ k∈List.range' 0 n,k<n:=fun k hk=>by simp [List.mem_range'] at hk;omega
  simp only [Std.Legacy.Range.size]
  rw [show (n-0+1-1) / 1=n from by omega]
  generalize List.range' 0 n=l at hl
  refine xbq ?_
  induction l generalizing h with
  | nil=>simp only [List.forIn_nil];exact xbz (xbz x)
  | cons k l ih=>
    have hk:=hl k (List.mem_cons_self ..)
    simp only [List.forIn_cons]
    refine xbq ?_
    refine xbq (xik se ?_)
    refine xbq (xux ae (by rw [Nat.mul_one];exact wow (by omega)) ?_)
    refine xbq (yov te ?_)
    refine xbz ?_
    exact ih x (fun k z=>hl k (List.mem_cons_of_mem _ z))
structure KeyT (P:Program) (kT:TypeId) (n:Nat):Prop where
  ut: ∃ fs,P.underlying kT=some (.struct fs)
  eqn: ∀ {x y:List Int} {h:Heap} {K:Bool→Heap→Prop},x.length=n→y.length=n→K (decide (x=y)) h→wpS P (Op.equal kT (kV x) (kV y)) h K
  chk: ∀ {b:Bool} {x:List Int} {h:Heap} {K:Unit→Heap→Prop},x.length=n→K () h→wpS P (Instr.checkKey b 10000 kT (kV x)) h K
theorem wnv {kT eT : TypeId} {f0 f1 : Field} {n : Nat} (hu : P.underlying kT = some (.struct #[f0, f1])) (hp : P.stoodInHeld kT = false) (n0 : f0.name ≠ "_") (n1 : f1.name ≠ "_") (o0 : f0.offset = 0) (o1 : f1.offset = 1)
    (t0:P.underlying f0.type=some (.int .i64)) (a0:aggT P f0.type=some false) (t1:P.underlying f1.type=some (.array n eT)) (a1:aggT P f1.type=some true) (s1:sizeT P f1.type=some n) (te:P.underlying eT=some (.int .i64)) (ae:aggT P eT=some false) (se:sizeT P eT=some 1):KeyT P kT (n+1) where
  ut:=⟨_,hu⟩
  eqn:=fun {x y h K} hx hy k=>by
    match x,y,hx,hy,k with
    | i::x,j::y,hx,hy,k=>
      have lx:x.length=n:=by simpa using hx
      have ly:y.length=n:=by simpa using hy
      unfold Op.equal Op.maxDepth
      refine yxx (d:=9999) hu hp ?_ k
      refine ⟨n0,.int .i64 i,.int .i64 j,decide (i=j),fun h K z=>xux a0 (by rw [o0];rfl) z,fun h K z=>xux a0 (by rw [o0];rfl) z,fun h K z=>yxz (d:=9998) t0 z,?_⟩
      by_cases c:i=j
      · refine .inr ⟨decide_eq_true c,n1,.agg (ci x),.agg (ci y),decide (x=y),fun h K z=>yjj a1 s1 (by rw [o1,zgv i x lx];exact z),fun h K z=>yjj a1 s1 (by rw [o1,zgv j y ly];exact z),fun h K z=>zrq (d:=9997) t1 te ae se lx ly z,?_⟩
        by_cases c2:x=y
        · exact .inr ⟨decide_eq_true c2,by show decide (i::x=j::y)=true;simp [c,c2]⟩
        · exact .inl ⟨decide_eq_false c2,by simp [c2]⟩
      · exact .inl ⟨decide_eq_false c,by simp [c]⟩
  chk:=fun {b x h K} hx k=>by
    match x,hx with
    | i::x,hx=>
      have lx:x.length=n:=by simpa using hx
      unfold Instr.checkKey
      refine xbq (xdv hu ?_)
      simp only [kV]
      rw [← Array.forIn_toList]
      simp only [List.forIn_cons,List.forIn_nil]
      refine xbq ?_
      refine xbq ?_
      rw [if_pos n0]
      refine xbq (xux a0 (v:=.int .i64 i) (by rw [o0];rfl) ?_)
      refine xbq (yov (n:=9998) t0 ?_)
      refine xbz ?_
      refine xbq ?_
      rw [if_pos n1]
      refine xbq (yjj a1 s1 ?_)
      rw [o1,zgv i x lx]
      refine xbq (znv (d:=9997) t1 te ae se lx ?_)
      exact xbz (xbz (xbz k))
def findK (ms:List (List Int × (Int × Int))) (k:List Int):Option (Int × Int):=(ms.find? fun e=>decide (k=e.1)).map (·.2)
def MapK (n:Nat) (ms:List (List Int × (Int × Int))) (o:Obj):Prop:=(∀ e∈ms,e.1.length=n)∧ ∃ (es:List MapEntry) (clock:Nat),o= .map es.toArray clock∧es.map (fun e=>(e.key,e.val))=ms.map fun x=>(kV x.1,aV x.2)
theorem MapK.nil {n:Nat}:MapK n [] (.map #[] 0):=⟨fun _ h=>(List.not_mem_nil h).elim,[],0,rfl,rfl⟩
theorem ygq {kT:TypeId} {n:Nat} (T:KeyT P kT n) {k:List Int} (hk:k.length=n): ∀ {ms:List (List Int × (Int × Int))} {es:List MapEntry} {i:Nat} {K:Option (Nat × Value)→Heap→Prop},(∀ e∈ms,e.1.length=n)→es.map (fun e=>(e.key,e.val))=ms.map (fun x=>(kV x.1,aV x.2))→
    (∀ j,K ((findK ms k).map fun v=>(j,aV v)) h)→wpS P (Instr.findAsking kT (kV k) es i) h K
  | [],es,i,K,_,he,x=>by
    obtain rfl:es=[]:=by simpa using he
    exact xbz (x 0)
  | (k',v')::ms,[],i,K,_,he,x=>by simp at he
  | (k',v')::ms,e::es,i,K,hl,he,x=>by
    simp only [List.map_cons,List.cons.injEq,Prod.mk.injEq] at he
    obtain ⟨⟨h1,h2⟩,h3⟩:=he
    unfold Instr.findAsking
    rw [h1,h2]
    refine xbq (T.eqn hk (hl _ (List.mem_cons_self ..)) ?_)
    by_cases c:k=k'
    · rw [decide_eq_true c,if_pos rfl]
      have:=x i
      rw [findK,List.find?_cons_of_pos (by simpa using c)] at this
      exact xbz this
    · rw [decide_eq_false c,if_neg (by simp)]
      refine ygq T hk (fun e z=>hl e (List.mem_cons_of_mem _ z)) h3 fun j=>?_
      have:=x j
      rw [findK,List.find?_cons_of_neg (by simpa using c)] at this
      exact this
theorem zbz {fs:Array Field} {k:Value}: ∀ {es:List MapEntry} {i:Nat},Instr.findNow (.struct fs) k es i=none∨es=[]
  | [],_=>.inr rfl
  | e::es,i=>.inl (by unfold Instr.findNow;simp [Instr.sameNow])
theorem yfw {kT:TypeId} {n:Nat} (T:KeyT P kT n) {k:List Int} (hk:k.length=n) {ms:List (List Int × (Int × Int))} {es:List MapEntry} {K:Option (Nat × Value)→Heap→Prop} (hl: ∀ e∈ms,e.1.length=n) (he:es.map (fun e=>(e.key,e.val))=ms.map (fun x=>(kV x.1,aV x.2)))
    (x: ∀ j,K ((findK ms k).map fun v=>(j,aV v)) h):wpS P (Instr.findKey kT (kV k) es) h K:=by
  obtain ⟨fs,hu⟩:=T.ut
  unfold Instr.findKey
  refine xbq (xdv hu ?_)
  rcases zbz (fs:=fs) (k:=kV k) (es:=es) (i:=0) with e | e
  · rw [e];exact ygq T hk hl he x
  · subst e
    have:ms=[]:=by cases ms with | nil=>rfl | cons=>simp at he
    subst this
    exact xbz (x 0)
end
section
variable {P:Program} {h h₀:Heap} {B₀:List Nat} {p:PHeap} {L:List (Nat × Obj)} {tm:List Value} {d:Option Tmp} {ty:TypeId} {pos:String} {aft:Array Edge} {gd:Option (Nat × Bool)} {k:List Int} {ms:List (List Int × (Int × Int))} {o:Obj} {i r n:Nat}
theorem zgk {mT kT eT:TypeId} {x y:Operand} {v:Value} (T:KeyT P kT n) (hkl:k.length=n) (s:St h₀ B₀ p h L) (hL:L[i]?=some (r,o)) (hM:MapK n ms o) (hm:P.underlying mT=some (.map kT eT)) (hz:zeroT P eT=some (aV (0,0)))
    (hx:evl tm x= .map (some r)) (hy:evl tm y=kV k) (hv: .tuple #[aV ((findK ms k).getD (0,0)),.bool (findK ms k).isSome]=v):Exd P tm ⟨d,.lookup mT x y true,ty,pos,aft,gd⟩ h v:=by
  refine xqx (s:=Instr.lookup mT (.map (some r)) (kV k) true) (by simp only [execOp,hx,hy]) ?_
  obtain ⟨hl,es,clock,rfl,he⟩:=hM
  unfold Instr.lookup
  refine xbq (xdv hm ?_)
  simp only
  refine xbq (xuj (s.at hL) ?_)
  simp only
  refine xbq (xbz ?_)
  refine xbq (T.chk hkl ?_)
  refine xbq (yfw T hkl hl (by simpa using he) fun j=>?_)
  cases e:findK ms k with
  | none=>
    simp only [Option.map_none]
    refine xbq (xlz hz ?_)
    refine xbq (xbz ?_)
    refine xbz (P:=P) ?_
    rw [e] at hv;exact ⟨hv,rfl⟩
  | some v=>
    simp only [Option.map_some]
    refine xbq (xbz ?_)
    refine xbz (P:=P) ?_
    rw [e] at hv;exact ⟨hv,rfl⟩
end
section
variable {P:Program} {md:Md} {f:FuncId} {r:Rd} {df:List Deferred} {k:List Item} {cs:List Frame} {Stop:Goroutine→Heap→Prop} {ops rest:List Oper} {tm:List Value}
  {h₀:Heap} {B₀:List Nat} {p:PHeap} {L:Pcs} {ty:TypeId} {pos:String} {aft:Array Edge} {gd:Option (Nat × Bool)} {key:List Int} {ms:List (List Int × (Int × Int))} {o:Obj} {i q n:Nat} {z:Int × Int}
theorem zpz {mT kT eT:TypeId} {x y w:Operand} (T:KeyT P kT n) (hkl:key.length=n) (hm:Met ops tm ⟨none,.mapUpdate mT x y w,ty,pos,aft,gd⟩ true) (hT:P.underlying mT=some (.map kT eT))
    (hL:L[i]?=some (q,o)) (hM:MapK n ms o) (hx:evl tm x= .map (some q)) (hy:evl tm y=kV key) (hw:evl tm w=aV z) (hf:findK ms key=none)
    (nn: ∀ o',MapK n (ms++[(key,z)]) o'→RL P md f r df k cs Stop ops rest tm (fun h=>St h₀ B₀ p h (L.set i (q,o')))):
    RL P md f r df k cs Stop ops (⟨none,.mapUpdate mT x y w,ty,pos,aft,gd⟩::rest) tm (fun h=>St h₀ B₀ p h L):=by
  obtain ⟨hl,es,clock,rfl,he⟩:=hM
  have hM':MapK n (ms++[(key,z)]) (.map (es.toArray.push { key:=kV key,val:=aV z,born:=clock }) (clock+1)):=
    ⟨fun e he => by rcases List.mem_append.1 he with he | he
                    · exact hl e he
                    · simp at he;subst he;exact hkl,es++[{ key:=kV key,val:=aV z,born:=clock }],clock+1,by simp,by simp [he]⟩
  refine zew (K:=fun h'=>St h₀ B₀ p h' (L.set i (q,.map (es.toArray.push { key:=kV key,val:=aV z,born:=clock }) (clock+1)))) hm rfl (fun h s=>?_) rfl (nn _ hM')
  have e:execOp (evl tm) ⟨none,.mapUpdate mT x y w,ty,pos,aft,gd⟩=(do Instr.mapUpdate mT (.map (some q)) (kV key) (aV z);pure Next.skip):=by simp only [execOp,hx,hy,hw]
  rw [e]
  refine xbq ?_
  unfold Instr.mapUpdate
  refine xbq (xdv hT ?_)
  simp only
  refine xbq (xuj (s.at hL) ?_)
  simp only
  refine xbq (T.chk hkl ?_)
  refine xbq (yfw T hkl hl (by simpa using he) fun j=>?_)
  rw [hf]
  simp only [Option.map_none]
  simp only [setObj,wpS,s.at hL]
  refine ⟨rfl,rfl,?_⟩
  have hq:=xmk (s.at hL)
  refine xbz ⟨rfl,s.turn hL ?_ (by simp) fun c hc=>?_⟩
  · simp [hq]
  · simp only [Array.getElem?_setIfInBounds]
    rw [if_neg (fun e=>hc e.symm)]
end
end Go.X
namespace Go.X.Hr
open Go.X Go.X.Kn
def key (i:Nat) (L:List Int):List Int:=[((i:Nat):Int),L.getD 0 0,L.getD 1 0,L.getD 2 0,L.getD 3 0,L.getD 4 0,L.getD 5 0,L.getD 6 0,L.getD 7 0]
abbrev Ms:=List (List Int × (Int × Int))
def HInv (r:Rst) (ms:Ms):Prop:=∀ e∈ms,∃ i L,e.1=key i L∧L.length=r.room.length∧e.2=bestF (r.sts.drop i) L
def HExt (i:Nat) (ms ms':Ms):Prop:=∃ new:Ms,ms'=ms++new∧ ∀ e∈new,∃ j L,i≤j∧e.1=key j L
theorem wnk {i j:Nat} {L M:List Int} (h:key i L=key j M) (hl:L.length=M.length) (h8:L.length≤8):i=j∧L=M:=by
  simp only [key,List.cons.injEq,and_true] at h
  obtain ⟨h0,h1,h2,h3,h4,h5,h6,h7,h9⟩:=h
  refine ⟨by omega,List.ext_getElem? fun k=>?_⟩
  by_cases c:k<L.length
  · have:L.getD k 0=M.getD k 0:=by
      obtain e | e | e | e | e | e | e | e:k=0∨k=1∨k=2∨k=3∨k=4∨k=5∨k=6∨k=7:=by omega
      all_goals subst e;assumption
    rw [List.getD_eq_getElem?_getD,List.getD_eq_getElem?_getD,List.getElem?_eq_getElem c,List.getElem?_eq_getElem (by omega)] at this
    rw [List.getElem?_eq_getElem c,List.getElem?_eq_getElem (by omega)]
    exact congrArg some this
  · rw [List.getElem?_eq_none (by omega),List.getElem?_eq_none (by omega)]
theorem wox {ms:Ms} {k:List Int} {v:Int × Int} (h:findK ms k=some v):(k,v)∈ms:=by
  unfold findK at h
  cases e:ms.find? fun e=>decide (k=e.1) with
  | none=>rw [e] at h;cases h
  | some x=>
    rw [e] at h
    have h1:=List.mem_of_find?_eq_some e
    have h2:=List.find?_some e
    simp only [decide_eq_true_eq] at h2
    simp only [Option.map_some,Option.some.injEq] at h
    subst h h2;exact h1
theorem zyk {ms:Ms} {k:List Int}:findK ms k=none↔ ∀ e∈ms,k≠e.1:=by
  unfold findK
  rw [Option.map_eq_none_iff,List.find?_eq_none]
  simp
theorem HInv.find {r:Rst} {ms:Ms} (H:HInv r ms) {i:Nat} {L:List Int} {v:Int × Int} (h:findK ms (key i L)=some v) (hl:L.length=r.room.length) (h8:r.room.length≤8):v=bestF (r.sts.drop i) L:=by
  obtain ⟨j,M,h1,h2,h3⟩:=H _ (wox h)
  obtain ⟨rfl,rfl⟩:=wnk h1 (by omega) (by omega)
  exact h3
theorem HExt.refl (i ms):HExt i ms ms:=⟨[],by simp,by simp⟩
theorem HExt.trans {i:Nat} {a b c:Ms} (h:HExt i a b) (g:HExt i b c):HExt i a c:=by
  obtain ⟨n,rfl,hn⟩:=h
  obtain ⟨m,rfl,hm⟩:=g
  exact ⟨n++m,by rw [List.append_assoc],fun e he=>(List.mem_append.1 he).elim (hn e) (hm e)⟩
theorem HExt.mono {i j:Nat} (hij:j≤i) {a b:Ms} (h:HExt i a b):HExt j a b:=by
  obtain ⟨n,e,hn⟩:=h
  exact ⟨n,e,fun e he=>by obtain ⟨k,L,h1,h2⟩:=hn e he;exact ⟨k,L,by omega,h2⟩⟩
theorem HExt.none {i:Nat} {a b:Ms} (h:HExt (i+1) a b) {L:List Int} (hf:findK a (key i L)=none):findK b (key i L)=none:=by
  obtain ⟨n,rfl,hn⟩:=h
  rw [zyk] at*
  intro e he
  rcases List.mem_append.1 he with he | he
  · exact hf e he
  · obtain ⟨k,M,h1,h2⟩:=hn e he
    rw [h2]
    intro z
    simp only [key,List.cons.injEq] at z
    have:=z.1
    omega
theorem HExt.snoc {i:Nat} {a b:Ms} (h:HExt (i+1) a b) (L:List Int) (v:Int × Int):HExt i a (b++[(key i L,v)]):=
  (h.mono (Nat.le_succ i)).trans ⟨_,rfl,fun e he=>by simp at he;subst he;exact ⟨i,L,Nat.le_refl _,rfl⟩⟩
theorem HInv.snoc {r:Rst} {ms:Ms} (H:HInv r ms) {i:Nat} {L:List Int} (hl:L.length=r.room.length):HInv r (ms++[(key i L,bestF (r.sts.drop i) L)]):=fun e he=>by
  rcases List.mem_append.1 he with he | he
  · exact H e he
  · simp at he;subst he;exact ⟨i,L,rfl,hl,rfl⟩
theorem HInv.nil (r:Rst):HInv r []:=fun _ he=>(List.not_mem_nil he).elim
def LRm (r:Rst) (L:List Int):Prop:=L.length=r.room.length∧ ∀ k,0≤L.getD k 0∧L.getD k 0≤6
theorem LRm.less {r:Rst} {L:List Int} (h:LRm r L) {z:Int} (hz:L.getD z.toNat 0≠0):LRm r (less L z):=by
  refine ⟨(zkz _ _).trans h.1,fun k=>?_⟩
  have:=h.2 k
  rw [yiz]
  split
  · rename_i c;rw [← c.1] at hz;omega
  · exact this
theorem znq {f:List Int→Int × Int} {s:Str4} {L:List Int} {N:Int} (hs: -1≤s.has∧s.has≤7∧0≤s.lo∧0≤s.cost∧s.cost≤9) (hf: ∀ M,0≤(f M).1∧(f M).1≤N) (hN:0≤N): ∀ j:Nat,s.lo+j≤50→0≤(bestJ f s L j).1∧(bestJ f s L j).1≤1800+N∧ -1≤(bestJ f s L j).2∧(bestJ f s L j).2≤50
  | 0,_=>⟨Int.le_refl _,by show (0:Int)≤_;omega,by show (-1:Int)≤ -1;omega,by show (-1:Int)≤_;omega⟩
  | j+1,hj=>by
    have ih:=znq (L:=L) hs hf hN j (by omega)
    have st:=yhk (s:=s) (x:=s.lo+j) (by omega)
    have h2:=hf (less L (s.lo+j))
    rw [bestJ]
    split
    · exact ih
    · split
      · exact ih
      · split
        · refine ⟨?_,?_,?_,?_⟩
          · show 0≤moveI s (s.lo+j)*s.cost+_;omega
          · show moveI s (s.lo+j)*s.cost+_≤_;omega
          · show -1≤s.lo+(j:Int);omega
          · show s.lo+(j:Int)≤50;omega
        · exact ih
theorem znx: ∀ {ss:List Str4} (L:List Int),(∀ s∈ss,-1≤s.has∧s.has≤7∧0≤s.lo∧0≤s.cost∧s.cost≤9∧s.lo≤s.hi∧s.hi≤7)→0≤(bestF ss L).1∧(bestF ss L).1≤1800*ss.length∧ -1≤(bestF ss L).2∧(bestF ss L).2≤50
  | [],L,_=>⟨Int.le_refl _,Int.le_refl _,by show (-1:Int)≤0;decide,by show (0:Int)≤50;decide⟩
  | s::ss,L,hs=>by
    have b:=hs s (List.mem_cons_self ..)
    have:=znq (f:=bestF ss) (L:=L) (N:=1800*ss.length) (s:=s) (by omega) (fun M=>by have:=znx M (fun s z=>hs s (List.mem_cons_of_mem _ z));omega) (by omega) (s.hi-s.lo+1).toNat (by omega)
    rw [bestF,List.length_cons]
    omega
theorem yfj {r:Rst} {i:Nat} (hi:i<r.sts.length):r.sts.drop i=r.sts.getD i sz::r.sts.drop (i+1):=by
  rw [List.drop_eq_getElem_cons hi,ytv hi]
theorem rosB.all {r:Rst} (h:rosB r) (i:Nat): ∀ s∈r.sts.drop i,-1≤s.has∧s.has≤7∧0≤s.lo∧0≤s.cost∧s.cost≤9∧s.lo≤s.hi∧s.hi≤7:=fun s hs=>by
  have:=h.2.2.2 s (List.mem_of_mem_drop hs)
  have hr:=h.1
  unfold okS at this
  omega
end Go.X.Hr
namespace Go.X
open Go.Conc

end Go.X
namespace Go.X
open Go.Conc
def marksL (rs:List Nat):List Deferred:=rs.map mark
def marksP (rs:List Nat):Pcs:=rs.map fun r=>(r,.deferred (some []))
section
variable {P:Program} {md:Md} {f:FuncId} {r:Rd} {k:List Item} {cs:List Frame} {Stop:Goroutine→Heap→Prop} {tm:List Value} {Φ:Heap→Prop} [Stb Φ]
  {h₀ h:Heap} {B₀:List Nat} {p:PHeap} {L A C X Y M:Pcs}
theorem St.marked {r:Nat} {rs:List Nat} (s:St h₀ B₀ p h ((r,.deferred (some []))::(A++(X++(Y++(marksP rs++C)))))):St h₀ B₀ p h (A++(X++(Y++(marksP (r::rs)++C)))):=
  s.perm (by
    have e:(A++(X++(Y++(marksP (r::rs)++C))))=(A++(X++Y))++((r,.deferred (some []))::(marksP rs++C)):=by simp [marksP]
    have e2:(A++(X++(Y++(marksP rs++C))))=(A++(X++Y))++(marksP rs++C):=by simp
    rw [e,e2]
    exact List.perm_middle.symm)
end
end Go.X
namespace Go.X
open Go.Conc
section
variable {P:Program} {tm:List Value} {h:Heap} {d:Option Tmp} {ty:TypeId} {pos:String} {aft:Array Edge} {gd:Option (Nat × Bool)}
theorem zcq {t e:TypeId} {x y:Operand} {w len i:Nat} {k:IntKind} {a:Addr} (ht:P.underlying t=some (.array len e)) (hs:sizeT P e=some w) (hx:evl tm x= .pointer (some a)) (hy:evl tm y= .int k ((i:Nat):Int)) (h1:i<len):
    Exd P tm ⟨d,.indexAddr t x y,ty,pos,aft,gd⟩ h (.pointer (some (a.add (i*w)))):=by
  refine xqx (s:=Instr.indexAt t (.pointer (some a)) (.int k ((i:Nat):Int))) (by simp only [execOp,hx,hy]) ?_
  unfold Instr.indexAt
  refine xbq (xbz ?_)
  simp only
  refine xbq (xdv ht ?_)
  simp only [Instr.sureAddr]
  refine xbq ?_
  refine xbq (xbz ?_)
  simp only
  refine xbq (xdv ht ?_)
  simp only
  rw [if_pos ⟨by omega,by omega⟩]
  refine xbq (xik hs ?_)
  exact xbz ⟨by rw [Int.toNat_natCast],rfl⟩
end
end Go.X
namespace Go.X
open Go.Conc
section
variable {P:Program} {h h₀:Heap} {B₀:List Nat} {p:PHeap} {L:List (Nat × Obj)} {tm:List Value} {d:Option Tmp} {ty:TypeId} {pos:String} {aft:Array Edge} {gd:Option (Nat × Bool)}
theorem xwv {t e:TypeId} {x y:Operand} {w len:Nat} {z:Int} {k:IntKind} {a:Addr} (ht:P.underlying t=some (.array len e)) (hs:sizeT P e=some w) (hx:evl tm x= .pointer (some a)) (hy:evl tm y= .int k z) (h0:0≤z) (h1:z.toNat<len):
    Exd P tm ⟨d,.indexAddr t x y,ty,pos,aft,gd⟩ h (.pointer (some (a.add (z.toNat*w)))):=
  zcq (k:=k) ht hs hx (by rw [hy,Int.toNat_of_nonneg h0]) h1
theorem ynq {t:TypeId} {x:Operand} {i b o j:Nat} {cs:Array Value} {T:TypeId} {z:Nat × Nat} {v:Value} (s:St h₀ B₀ p h L) (ht:aggT P t=some false) (hx:evl tm x= .pointer (some ((⟨b,o,none⟩:Addr).add (j*1))))
    (hL:L[i]?=some (b,.cells cs T z)) (hv:cs[o+j]?=some v):Exd P tm ⟨d,.load t x,ty,pos,aft,gd⟩ h v:=
  xbx s ht (hx.trans (by rw [xjv])) hL (by rw [Nat.mul_one];exact hv)
theorem zbk {t e:TypeId} {x:Operand} {n w b o:Nat} (ht:P.underlying t=some (.array n e)) (hs:sizeT P e=some w) (hx:evl tm x= .pointer (some ⟨b,o,none⟩)):
    Exd P tm ⟨d,.slice t x none none none,ty,pos,aft,gd⟩ h (.slice (some ⟨b,o,none⟩) n n):=by
  refine xqx (s:=Instr.sliceAt t (.pointer (some ⟨b,o,none⟩)) none none none) (by simp only [execOp,hx,Option.map_none]) ?_
  unfold Instr.sliceAt
  refine xbq (xdv ht ?_)
  simp only [Instr.sureAddr]
  refine xbq (xbz ?_)
  refine xbq (xsj (tm:=tm) (lo:=none) (hi:=none) (.none 0) (.none n) (Nat.zero_le _) (Nat.le_refl _) ?_)
  simp only
  refine xbq (xik hs ?_)
  refine xbz ⟨?_,rfl⟩
  split <;> simp [xjv]
end
section
variable {P:Program} {md:Md} {f:FuncId} {r:Rd} {df:List Deferred} {k:List Item} {cs:List Frame} {Stop:Goroutine→Heap→Prop} {ops rest:List Oper} {tm:List Value}
  {h₀:Heap} {B₀:List Nat} {p:PHeap} {L:Pcs} {ty:TypeId} {pos:String} {aft:Array Edge} {gd:Option (Nat × Bool)}
theorem zfq {T T':TypeId} {x y:Operand} {i b o j:Nat} {cs' cs2:List Value} {v:Value} (hm:Met ops tm ⟨none,.store T x y,ty,pos,aft,gd⟩ true) (hs:sizeT P T=some 1)
    (hx:evl tm x= .pointer (some ((⟨b,o,none⟩:Addr).add (j*1)))) (hy:evl tm y=v) (hL:L[i]?=some (b,.cells cs'.toArray T' (0,0))) (hv:v.cells=#[v]) (h1:isOne v=true) (hlen:o+j<cs'.length) (h2:cs'.set (o+j) v=cs2)
    (n:RL P md f r df k cs Stop ops rest tm (fun h=>St h₀ B₀ p h (L.set i (b,.cells cs2.toArray T' (0,0))))):
    RL P md f r df k cs Stop ops (⟨none,.store T x y,ty,pos,aft,gd⟩::rest) tm (fun h=>St h₀ B₀ p h L):=
  xfv hm hs (hx.trans (by rw [xjv,Nat.mul_one])) hy hL (by rw [hv];rfl) (by rw [hv];simp [h1]) (by rw [hv];exact hlen) (by rw [hv];exact h2) n
theorem zpj {dd:Nat} {T xT eT:TypeId} {x y:Operand} {i b o m n c c':Nat} {a:Option Addr} {es:List (List Value)} {T':TypeId} {cs' cs2:List Value} (hm:Met ops tm ⟨some dd,.call ⟨.builtin .copy,#[x,y],#[T,xT]⟩,ty,pos,aft,gd⟩ true)
    (hT:P.underlying T=some (.slice eT)) (hs:sizeT P eT=some 1) (hx:evl tm x= .slice (some ⟨b,o,none⟩) m c) (hy:evl tm y= .slice a n c') (S:Sl p a n 1 es) (h1: ∀ u∈es.flatten,isOne u=true)
    (hL:L[i]?=some (b,.cells cs'.toArray T' (0,0))) (hn:n≤m) (hlen:o+n≤cs'.length) (h2:setl cs' o es.flatten=cs2)
    (nx:RL P md f r df k cs Stop ops rest (tm.set dd (.int .i64 ((n:Nat):Int))) (fun h=>St h₀ B₀ p h (L.set i (b,.cells cs2.toArray T' (0,0))))):
    RL P md f r df k cs Stop ops (⟨some dd,.call ⟨.builtin .copy,#[x,y],#[T,xT]⟩,ty,pos,aft,gd⟩::rest) tm (fun h=>St h₀ B₀ p h L):=by
  refine xtw (K:=fun v' h'=>v'= .int .i64 ((n:Nat):Int)∧St h₀ B₀ p h' (L.set i (b,.cells cs2.toArray T' (0,0)))) hm rfl (fun h s=>?_) fun v'=>xez fun e=>by subst e;exact nx
  unfold Ex
  simp only [execOp,resolve]
  refine xbq (xbz ?_)
  simp only [invoke,builtin]
  refine xbq ?_
  have e:(#[x,y]:Array Operand).map (evl tm)=#[.slice (some ⟨b,o,none⟩) m c,.slice a n c']:=by simp [hx,hy]
  rw [e]
  have src:=zdw (P:=P) (cap:=c') s (Nat.zero_lt_one) S
  unfold Builtin.copy_
  simp only [List.getElem?_toArray,List.getElem?_cons_zero,List.getElem?_cons_succ]
  refine xbq (xdv hT ?_)
  simp only
  refine xbq (src.lenOf _ ?_)
  refine xbq (xik hs ?_)
  rw [show Nat.min n m=n from Nat.min_eq_left hn]
  refine xbq (src.cells _ ?_)
  simp only
  refine xbq ?_
  refine xmv s hL ?_ (fun u hu=>h1 u (by simpa using hu)) fun h' s'=>?_
  · have hf:es.flatten.length=n:=by
      have:=xiv (w:=1) S.wid
      rw [this,S.len];omega
    simpa [hf] using hlen
  · rw [Nat.add_zero] at s'
    simp only [goInt]
    refine xbz ?_
    exact xbz ⟨_,rfl,rfl,by rw [← h2];simpa using s'⟩
end
end Go.X
namespace Go.X
open Go.Conc

theorem ztz {xs ys:List Int} {k:Nat} (h: ∀ i,i<k→xs.getD i 0=ys.getD i 0) (e:xs.getD k 0=ys.getD k 0): ∀ i,i<k+1→xs.getD i 0=ys.getD i 0:=fun i hi=>by
  by_cases c:i=k
  · subst c;exact e
  · exact h i (by omega)
theorem wgv {α:Type} {d:α} {xs ys:List α} (h1:xs.length=ys.length) (h2: ∀ i,i<xs.length→xs.getD i d=ys.getD i d):xs=ys:=by
  refine List.ext_getElem h1 fun i a b=>?_
  have:=h2 i a
  rw [List.getD_eq_getElem?_getD,List.getD_eq_getElem?_getD,List.getElem?_eq_getElem a,List.getElem?_eq_getElem b] at this
  exact this
theorem zez {xs ys:List Int} {m n:Nat} (h1:xs.length=m) (h2:ys.length=n) (h:(m:Int)≠n):(Value.bool false)= .bool (decide (xs=ys)):=by
  rw [decide_eq_false];intro e;subst e;omega
theorem ysj {xs ys:List Int} {k:Nat} (h:xs.getD k 0≠ys.getD k 0):(Value.bool false)= .bool (decide (xs=ys)):=by
  rw [decide_eq_false];intro e;subst e;exact h rfl
theorem ysz {xs ys:List Int} {m n k:Nat} (h1:xs.length=m) (h2:ys.length=n) (h:(m:Int)=n) (hk:m≤k) (hs: ∀ i,i<k→xs.getD i 0=ys.getD i 0):(Value.bool true)= .bool (decide (xs=ys)):=by
  rw [decide_eq_true];exact wgv (by omega) fun i hi=>hs i (by omega)
end Go.X
namespace Go.X.Hr
open Go.X Go.X.Kn
def stC (z:Int) (L:List Int):List Value:=[.int .i64 z,.int .i64 (L.getD 0 0),.int .i64 (L.getD 1 0),.int .i64 (L.getD 2 0),.int .i64 (L.getD 3 0),.int .i64 (L.getD 4 0),.int .i64 (L.getD 5 0),.int .i64 (L.getD 6 0),.int .i64 (L.getD 7 0)]
theorem wqk {z:Int} {L:List Int} {k:Nat} (h:k<8):(stC z L).toArray[1+k]?=some (.int .i64 (L.getD k 0)):=by
  obtain e | e | e | e | e | e | e | e:k=0∨k=1∨k=2∨k=3∨k=4∨k=5∨k=6∨k=7:=by omega
  all_goals subst e;rfl
theorem wqj {z x:Int} {L:List Int} (h:x.toNat<L.length) (h8:L.length≤8):(stC z L).set (1+x.toNat) (.int .i64 (L.getD x.toNat 0-1))=stC z (less L x):=by
  unfold stC
  simp only [yiz]
  obtain e | e | e | e | e | e | e | e:x.toNat=0∨x.toNat=1∨x.toNat=2∨x.toNat=3∨x.toNat=4∨x.toNat=5∨x.toNat=6∨x.toNat=7:=by omega
  all_goals (rw [e] at h;rw [e];simp [h])
theorem wkx {L:List Int} (h:L.length≤8):setl (stC 0 []) 1 (L.map fun x=>[Value.int .i64 x]).flatten=stC 0 L:=by
  match L,h with
  | [],_=>rfl
  | [_],_=>rfl
  | [_,_],_=>rfl
  | [_,_,_],_=>rfl
  | [_,_,_,_],_=>rfl
  | [_,_,_,_,_],_=>rfl
  | [_,_,_,_,_,_],_=>rfl
  | [_,_,_,_,_,_,_],_=>rfl
  | [_,_,_,_,_,_,_,_],_=>rfl
  | _::_::_::_::_::_::_::_::_::_,h=>simp at h
section
variable {f:List Int→Int × Int} {s:Str4} {L:List Int} {j:Nat} {o:Int × Int} {z:Int}
theorem bJ_a (ho:o=bestJ f s L j) (hz:z=s.lo+j) (c:L.getD z.toNat 0=0):o=bestJ f s L (j+1):=by subst hz;rw [bestJ,if_pos c];exact ho
theorem bJ_b (ho:o=bestJ f s L j) (hz:z=s.lo+j) (c: ¬ L.getD z.toNat 0=0) (c2:(f (less L z)).2<0):o=bestJ f s L (j+1):=by subst hz;rw [bestJ,if_neg c,if_pos c2];exact ho
theorem bJ_c (ho:o=bestJ f s L j) (hz:z=s.lo+j) (c: ¬ L.getD z.toNat 0=0) (c2: ¬ (f (less L z)).2<0) (c3:o.2<0∨stepsI s z+(f (less L z)).1<o.1):(stepsI s z+(f (less L z)).1,z)=bestJ f s L (j+1):=by
  subst hz ho;rw [bestJ,if_neg c,if_neg c2,if_pos c3]
theorem bJ_d (ho:o=bestJ f s L j) (hz:z=s.lo+j) (c: ¬ L.getD z.toNat 0=0) (c2: ¬ (f (less L z)).2<0) (c3: ¬ o.2<0) (c4: ¬ stepsI s z+(f (less L z)).1<o.1):o=bestJ f s L (j+1):=by
  subst hz;rw [bestJ,if_neg c,if_neg c2,if_neg (fun q=>by rw [← ho] at q;exact q.elim c3 c4)];exact ho
end
theorem HInv.hit {r:Rst} {ms:Ms} (H:HInv r ms) {i:Nat} {L:List Int} (hl:L.length=r.room.length) (h8:r.room.length≤8) (h:(findK ms (key i L)).isSome=true):(findK ms (key i L)).getD (0,0)=bestF (r.sts.drop i) L:=by
  cases e:findK ms (key i L) with
  | none=>rw [e] at h;cases h
  | some v=>exact H.find e hl h8
theorem miss {ms:Ms} {k:List Int} (h:(findK ms k).isSome=false):findK ms k=none:=by
  cases e:findK ms k with
  | none=>rfl
  | some v=>rw [e] at h;cases h
theorem rosB.sb {r:Rst} (h:rosB r) {i:Nat} (hi:i<r.sts.length) {z:Int} (hz:0≤z∧z≤50): -100≤(r.sts.getD i sz).has∧(r.sts.getD i sz).has≤100∧ -100≤z∧z≤100∧0≤(r.sts.getD i sz).cost∧(r.sts.getD i sz).cost≤9:=by
  have:=h.rng hi
  omega
theorem whv {r:Rst} {i:Nat} {L:List Int} {o:Int × Int} {j:Nat} (hi:i<r.sts.length) (ho:o=bestJ (bestF (r.sts.drop (i+1))) (r.sts.getD i sz) L j) (hj:j=((r.sts.getD i sz).hi-(r.sts.getD i sz).lo+1).toNat):bestF (r.sts.drop i) L=o:=by
  rw [yfj hi,ho,hj];rfl
theorem whk {r:Rst} {i:Nat} {L:List Int} (hi:i=r.sts.length):bestF (r.sts.drop i) L=(0,0):=by
  rw [List.drop_of_length_le (by omega)];rfl
end Go.X.Hr
namespace Go.X
theorem St.mid {h₀ h:Heap} {B₀:List Nat} {p:PHeap} {A B X:Pcs} (s:St h₀ B₀ p h (A++(B++X))):St h₀ B₀ p h (B++((A++X)++[])):=s.perm (by rw [List.append_nil];exact List.perm_append_comm_assoc _ _ _)
theorem St.mid' {h₀ h:Heap} {B₀:List Nat} {p:PHeap} {A B X:Pcs} (s:St h₀ B₀ p h (B++((A++X)++[]))):St h₀ B₀ p h (A++(B++X)):=s.perm (by rw [List.append_nil];exact List.perm_append_comm_assoc _ _ _)
theorem St.midX {h₀ h:Heap} {B₀:List Nat} {p:PHeap} {A B X Y:Pcs} (s:St h₀ B₀ p h (B++(Y++((A++X)++[])))):St h₀ B₀ p h (A++(B++(Y++X))):=s.perm (by
  rw [List.append_nil,← List.append_assoc A B]
  refine ((List.perm_append_comm_assoc Y A X).append_left B).trans ?_
  rw [← List.append_assoc B A]
  exact (List.perm_append_comm).append_right _)
end Go.X
namespace Go.Proofs.YtphalmjpbnffcaaGreatDoor
open Go.X Go.Conc
theorem zxq:KeyT Tryz.prog 132 9:=wnv Tryz.underlying132 (by kernel_rfl) (by decide) (by decide) rfl rfl Tryz.underlying3 tA3 Tryz.underlying130 wtx wsw Tryz.underlying3 tA3 tS3
end Go.Proofs.YtphalmjpbnffcaaGreatDoor
namespace Go.X.Hr
open Go.X Go.X.Kn
def lftF (r:Rst):Nat→List Int
  | 0=>r.room
  | i+1=>less (lftF r i) (bestF (r.sts.drop i) (lftF r i)).2
theorem zvv {r:Rst} (hB:rosB r) {i:Nat} (hi:i<r.sts.length) {L:List Int} (h:0≤(bestF (r.sts.drop i) L).2):
    (r.sts.getD i sz).lo≤(bestF (r.sts.drop i) L).2∧(bestF (r.sts.drop i) L).2≤(r.sts.getD i sz).hi∧L.getD (bestF (r.sts.drop i) L).2.toNat 0≠0∧0≤(bestF (r.sts.drop (i+1)) (less L (bestF (r.sts.drop i) L).2)).2:=by
  have hr:=hB.rng hi
  rw [yfj hi] at*
  rw [bestF] at*
  rcases ywq (f:=bestF (r.sts.drop (i+1))) (s:=r.sts.getD i sz) (L:=L) hr.1 ((r.sts.getD i sz).hi-(r.sts.getD i sz).lo+1).toNat with g | ⟨g1,g2,g3,g4,_⟩
  · omega
  · exact ⟨g1,by omega,g3,g4⟩
theorem zek {r:Rst} (hB:rosB r) (hne:0≤(bestF r.sts r.room).2): ∀ {i:Nat},i≤r.sts.length→LRm r (lftF r i)∧0≤(bestF (r.sts.drop i) (lftF r i)).2
  | 0,_=>⟨⟨rfl,ytx hB⟩,hne⟩
  | i+1,hi=>by
    have ih:=zek hB hne (i:=i) (by omega)
    have n:=zvv hB (by omega) ih.2
    exact ⟨ih.1.less n.2.2.1,n.2.2.2⟩
theorem wdx {r:Rst} (hB:rosB r) (hne:0≤(bestF r.sts r.room).2) {i:Nat} (hi:i≤r.sts.length):LRm r (lftF r i):=(zek hB hne hi).1
theorem wdz {r:Rst} (hB:rosB r) (hne:0≤(bestF r.sts r.room).2) {i:Nat} (hi:i<r.sts.length):0≤(bestF (r.sts.drop i) (lftF r i)).2∧(bestF (r.sts.drop i) (lftF r i)).2≤7∧(bestF (r.sts.drop i) (lftF r i)).2.toNat<r.room.length:=by
  have a:=zek hB hne (Nat.le_of_lt hi)
  have n:=zvv hB hi a.2
  have hr:=hB.rng hi
  omega
theorem ziw (r:Rst): ∀ {i:Nat},i≤r.sts.length→(rosF r.sts r.room).drop i=rosF (r.sts.drop i) (lftF r i)
  | 0,_=>rfl
  | i+1,hi=>by
    have ih:=ziw r (i:=i) (by omega)
    rw [← List.drop_drop,ih,yfj (by omega)]
    rw [rosF,List.drop_succ_cons,List.drop_zero,lftF,yfj (r:=r) (i:=i) (by omega)]
theorem wdq {r:Rst} {i:Nat} (hi:i<r.sts.length):(rosF r.sts r.room).take i++[(bestF (r.sts.drop i) (lftF r i)).2]=(rosF r.sts r.room).take (i+1):=by
  have h:=ziw r (Nat.le_of_lt hi)
  have hl:i<(rosF r.sts r.room).length:=by rw [xpj];exact hi
  rw [List.drop_eq_getElem_cons hl,yfj hi,rosF] at h
  rw [yfj hi,List.take_succ_eq_append_getElem hl,(List.cons.inj h).1]
end Go.X.Hr
namespace Go.X.Kn
open Go.X
theorem wpz {k:Bk} {s:Sp} (h1:0≤s.2∧s.2≤k.base-1) (h2:0≤s.1∧s.1≤s.2):badS k s=false:=decide_eq_false (by omega)
theorem yjx {k:Bk} {s:Sp} (h: ¬ (0≤s.2∧s.2≤k.base-1)∨ ¬ (0≤s.1∧s.1≤s.2)):badS k s=true:=decide_eq_true (by omega)
theorem yjq {k:Bk} {l:List Sp} (h:(l.length:Int)=k.places) (hs: ∀ i,i<l.length→badS k (l.getD i spz)=false):cordB k l:=⟨h,(xrv (d:=spz)).2 hs⟩
theorem xzv {k:Bk} {l:List Sp} (h: ¬ (l.length:Int)=k.places): ¬ cordB k l:=fun z=>h z.1
theorem yvj {k:Bk} {l:List Sp} {i:Nat} (hi:i<l.length) (h:badS k (l.getD i spz)=true): ¬ cordB k l:=fun z=>by
  have:=z.2 _ (xmw (d:=spz) hi);rw [h] at this;cases this
theorem zmv {k:Bk} (h1: ¬ 40<k.cords.length) (h2: ¬ 40<k.top.length) (h3: ∀ i,i<k.cords.length→(k.cords.getD i []).length≤40): ¬ bigK k:=by
  rintro (z | z | ⟨l,hl,z⟩)
  · exact h1 z
  · exact h2 z
  · have:=(xrv (d:=[]) (q:=fun l:List Sp=>l.length≤40)).2 h3 l hl;omega
theorem zmj {k:Bk} {l:List Sp} (h:(l.length:Int)=k.places):(!decide (0≤idxA (badS k) l))=decide (cordB k l):=by
  by_cases c:0≤idxA (badS k) l
  · rw [decide_eq_true c]
    obtain ⟨t,ht,e⟩:=xzx.1 c
    exact (decide_eq_false fun z=>by have:=z.2 t ht;rw [e] at this;cases this).symm
  · rw [decide_eq_false c];exact (decide_eq_true ⟨h,xzq.1 c⟩).symm
def notCord (k:Bk) (l:List Sp):Bool:=!decide (cordB k l)
theorem xxx {k:Bk} {l:List Sp} (h:notCord k l=false):cordB k l:=by simpa [notCord] using h
theorem yfk {k:Bk} {l:List Sp} {P:Prop} (h:cordB k l) (e:notCord k l=true):P:=absurd h (by simpa [notCord] using e)
theorem xwx {k:Bk} {ls:List (List Sp)} (h: ¬ 0≤idxA (notCord k) ls): ∀ l∈ls,cordB k l:=fun l hl=>xxx (xzq.1 h l hl)
theorem xzk {k:Bk} {ls:List (List Sp)} (h: ∀ l∈ls,cordB k l): ¬ 0≤idxA (notCord k) ls:=xzq.2 fun t ht=>by simp [notCord,h t ht]
def badD (k:Bk) (d:Int):Bool:=!decide (0≤d∧d≤k.base-1)
def digK (k:Bk) (l:List Int):Prop:=(l.length:Int)=k.places∧ ∀ d∈l,badD k d=false
instance (k l):Decidable (digK k l):=by unfold digK;infer_instance
theorem wpk {k:Bk} {d:Int} (h:badD k d=false):0≤d∧d≤k.base-1:=by simpa [badD] using h
theorem wax {k:Bk} {l:List Int} (h: ¬ (l.length:Int)=k.places): ¬ digK k l:=fun z=>h z.1
theorem waz {k:Bk} {l:List Int} (h:(l.length:Int)=k.places):(!decide (0≤idxA (badD k) l))=decide (digK k l):=by
  by_cases c:0≤idxA (badD k) l
  · rw [decide_eq_true c]
    obtain ⟨t,ht,e⟩:=xzx.1 c
    exact (decide_eq_false fun z=>by have:=z.2 t ht;rw [e] at this;cases this).symm
  · rw [decide_eq_false c];exact (decide_eq_true ⟨h,xzq.1 c⟩).symm
end Go.X.Kn
namespace Go.X.Kn
open Go.X
def numJ (base:Int) (l:List Int):Nat→Int
  | 0=>0
  | j+1=>numJ base l j*base+l.getD j 0
def rdK (k:Bk) (l:List Int):Int:=if chkK k=0∧digK k l then numJ k.base l l.length else 0
theorem zvz {b:Int} (h:2≤b∧b≤10): ∀ {j:Nat},j≤4→1≤b ^ j∧b ^ j≤10000:=by
  intro j hj
  have a:(1:Int)≤b:=by omega
  have h1:b ^ 1=b:=by rw [Int.pow_succ,Int.pow_zero];omega
  have m: ∀ {x y:Int} {B:Int},1≤x→x≤B→1≤y→y≤10→1≤x*y∧x*y≤B*10:=fun {x y B} p q r s=>by
    have e1:=Int.mul_le_mul p r (by decide) (by omega)
    have e2:=Int.mul_le_mul q s (by omega) (by omega)
    omega
  have p0:b ^ 0=1:=Int.pow_zero b
  have s1:=m (x:=b ^ 0) (B:=1) (by omega) (by omega) a h.2
  have s2:=m (x:=b ^ 0*b) s1.1 s1.2 a h.2
  have s3:=m (x:=b ^ 0*b*b) s2.1 s2.2 a h.2
  have s4:=m (x:=b ^ 0*b*b*b) s3.1 s3.2 a h.2
  match j,hj with
  | 0,_=>omega
  | 1,_=>rw [Int.pow_succ];omega
  | 2,_=>rw [Int.pow_succ,Int.pow_succ];omega
  | 3,_=>rw [Int.pow_succ,Int.pow_succ,Int.pow_succ];omega
  | 4,_=>rw [Int.pow_succ,Int.pow_succ,Int.pow_succ,Int.pow_succ];omega
  | n+5,h=>omega
theorem wiv {b:Int} (h:2≤b∧b≤10) {l:List Int}: ∀ {j:Nat},(∀ i,i<j→0≤l.getD i 0∧l.getD i 0≤b-1)→0≤numJ b l j∧numJ b l j≤b ^ j-1
  | 0,_=>by rw [numJ,Int.pow_zero];omega
  | j+1,hd=>by
    have ih:=wiv h (j:=j) fun i hi=>hd i (by omega)
    have d:=hd j (by omega)
    have e1:=Int.mul_nonneg ih.1 (show 0≤b by omega)
    have e2:=Int.mul_le_mul_of_nonneg_right ih.2 (show 0≤b by omega)
    rw [Int.sub_mul,Int.one_mul] at e2
    rw [numJ,Int.pow_succ];omega
theorem yzj {b:Int} (h:2≤b∧b≤10) {l:List Int} {j:Nat} (hj:j≤4) (hd: ∀ i,i<j→0≤l.getD i 0∧l.getD i 0≤b-1):0≤numJ b l j∧numJ b l j≤9999:=by
  have a:=wiv h hd;have p:=zvz h hj;omega
theorem wnx {b:Int} (h:2≤b∧b≤10) {l:List Int} {j:Nat} (hj:j≤4) (hd: ∀ i,i<j→0≤l.getD i 0∧l.getD i 0≤b-1):0≤numJ b l j*b∧numJ b l j*b≤99990:=by
  have a:=yzj h hj hd
  have e1:=Int.mul_nonneg a.1 (show 0≤b by omega)
  have e2:=Int.mul_le_mul a.2 h.2 (by omega) (by omega)
  omega
theorem yzv {s f M:Int} (h:1≤s∧s≤M) (g:1≤f∧f≤10):1≤s*f∧s*f≤M*10:=by
  have e1:=Int.mul_le_mul h.1 g.1 (by decide) (by omega)
  have e2:=Int.mul_le_mul h.2 g.2 (by omega) (by omega)
  omega
theorem wcz {k:Bk} (h:bookB k) {i p:Nat} (hi:i<k.cords.length) (hp:p<(k.cords.getD i []).length):0≤((k.cords.getD i []).getD p spz).1∧((k.cords.getD i []).getD p spz).1≤((k.cords.getD i []).getD p spz).2∧((k.cords.getD i []).getD p spz).2≤9:=by
  have c:=(h.2.2.2.2 _ (xmw (d:=[]) hi)).2 _ (xmw (d:=spz) hp)
  have:=of_decide_eq_false c
  have:=h.1
  omega
def digs (b:Int):Nat→Int→List Int
  | 0,_=>[]
  | j+1,n=>digs b j (n / b)++[n % b]
def leftN (b n:Int):Nat→Int
  | 0=>n
  | j+1=>leftN b n j / b
def tieJ (b n:Int) (P j:Nat):List Int:=List.replicate (P-j) 0++digs b j n
theorem wpv {k:Bk} {b:Bool} (h:askK k b=0):chkK k=0∧b=true:=by
  unfold askK at h;split at h
  · rename_i c;cases b with
    | true=>exact ⟨c,rfl⟩
    | false=>simp at h
  · rename_i c;exact absurd h c
theorem wsk {k:Bk} {b:Bool} (h: ¬ askK k b=0):chkK k=0→b=true→False:=fun c e=>h (by unfold askK;rw [if_pos c,e];rfl)
theorem wvj {k:Bk} (h: ¬ bigK k):k.cords.length≤40∧k.top.length≤40∧ ∀ l∈k.cords,l.length≤40:=by
  unfold bigK at h
  exact ⟨by omega,by omega,fun l hl=>by
    have: ¬ 40<l.length:=fun z=>h (.inr (.inr ⟨l,hl,z⟩))
    omega⟩
def revK (n j:Nat):List Nat:=(List.range n).reverse.take j
end Go.X.Kn
namespace Go.X
end Go.X
namespace Go.X.Cent
open Go.X

abbrev By:=List UInt8

def lpFrom (ph:List By) (s:By):Nat→Nat→Nat
  | 0,k=>k
  | f+1,k=>if k<s.length∧s.take (k+1)∈ph then lpFrom ph s f (k+1) else k
def lp (ph:List By) (s:By):Nat:=lpFrom ph s s.length 0
def pcs:Nat→List By→By→List (By × Option UInt8)
  | 0,_,_=>[]
  | f+1,ph,s=>
    if s=[] then [] else
    if lp ph s<s.length then (s.take (lp ph s),some (s.getD (lp ph s) 0))::pcs f (ph++[s.take (lp ph s+1)]) (s.drop (lp ph s+1))
    else [(s,none)]
def pieces (s:By):List (By × Option UInt8):=pcs s.length [[]] s
def pbytes (x:By × Option UInt8):By:=x.1++x.2.toList

theorem zaj {ph:List By} {s:By}: ∀ {f k:Nat},k≤s.length→k≤lpFrom ph s f k∧lpFrom ph s f k≤s.length
  | 0,k,h=>⟨Nat.le_refl _,h⟩
  | f+1,k,h=>by
    unfold lpFrom
    split
    · rename_i c
      have:=zaj (ph:=ph) (s:=s) (f:=f) (k:=k+1) (by omega)
      exact ⟨by omega,this.2⟩
    · exact ⟨Nat.le_refl _,h⟩
theorem wrv (ph:List By) (s:By):lp ph s≤s.length:=(zaj (f:=s.length) (k:=0) (by omega)).2
theorem ylv {ph:List By} {s:By}: ∀ {f k:Nat},s.length≤k+f→k≤s.length→(∀ i,i≤k→s.take i∈ph)→
    (∀ i,i≤lpFrom ph s f k→s.take i∈ph)∧(lpFrom ph s f k<s.length→s.take (lpFrom ph s f k+1) ∉ ph)
  | 0,k,h,h2,hp=>by
    unfold lpFrom
    exact ⟨hp,fun c=>absurd c (by omega)⟩
  | f+1,k,h,h2,hp=>by
    unfold lpFrom
    split
    · rename_i c
      refine ylv (by omega) (by omega) fun i hi=>?_
      by_cases e:i=k+1
      · subst e;exact c.2
      · exact hp i (by omega)
    · rename_i c
      exact ⟨hp,fun d x=>c ⟨d,x⟩⟩
theorem ybv {ph:List By} {s:By} (h0:[]∈ph):(∀ i,i≤lp ph s→s.take i∈ph)∧(lp ph s<s.length→s.take (lp ph s+1) ∉ ph):=
  ylv (by omega) (by omega) fun i hi=>by
    obtain rfl:i=0:=by omega
    simpa using h0

structure Phr (ph:List By):Prop where
  nil:ph.head?=some []
  nod:ph.Nodup
  pre: ∀ w∈ph,∀ i,i≤w.length→w.take i∈ph
theorem Phr.mem {ph:List By} (h:Phr ph):[]∈ph:=List.mem_of_mem_head? (by rw [h.nil];rfl)
theorem Phr.one:Phr [[]]:=⟨rfl,by simp,fun w hw i _=>by rw [List.mem_singleton.1 hw];simp⟩
theorem Phr.snoc {ph:List By} {s:By} (h:Phr ph) (hl:lp ph s<s.length):Phr (ph++[s.take (lp ph s+1)]):=by
  have hs:=ybv (s:=s) h.mem
  refine ⟨?_,?_,fun w hw i hi=>?_⟩
  · have:=h.nil
    cases ph with
    | nil=>cases this
    | cons a l=>simpa using this
  · rw [List.nodup_append]
    refine ⟨h.nod,by simp,fun a ha b hb e=>?_⟩
    subst e
    rw [List.mem_singleton.1 hb] at ha
    exact hs.2 hl ha
  · rcases List.mem_append.1 hw with hw | hw
    · exact List.mem_append_left _ (h.pre w hw i hi)
    · rw [List.mem_singleton.1 hw] at hi ⊢
      rw [List.take_take]
      by_cases c:i≤lp ph s
      · rw [Nat.min_eq_left (by omega)]
        exact List.mem_append_left _ (hs.1 i c)
      · rw [List.length_take] at hi
        rw [show min i (lp ph s+1)=lp ph s+1 from by omega]
        exact List.mem_append_right _ (by simp)
theorem wrk {ph:List By} {s:By} (h:Phr ph) {i:Nat} (hi:lp ph s<i) (hl:i≤s.length):s.take i ∉ ph:=fun x=>by
  have hs:=(ybv (s:=s) h.mem).2 (by omega)
  have:=h.pre _ x (lp ph s+1) (by rw [List.length_take];omega)
  rw [List.take_take,Nat.min_eq_left (by omega)] at this
  exact hs this

end Go.X.Cent
namespace Go.X.Cent
open Go.X

section
variable {p p':PHeap} {a:Option Addr} {n c k l r:Nat} {ts:List By}

def scs (ts:List By):List (List Value):=ts.map fun t=>[sv t]
def Strs (p:PHeap) (a:Option Addr) (n:Nat) (ts:List By):Prop:=Sl p a n 1 (scs ts)
theorem xgq (ts:List By):(scs ts).length=ts.length:=by simp [scs]
theorem Strs.len (s:Strs p a n ts):ts.length=n:=by have:=Sl.len s;simpa [scs] using this
theorem Strs.mono (hp:PLe p p') (s:Strs p a n ts):Strs p' a n ts:=Sl.mono hp s
theorem Strs.ne (s:Strs p a n ts) (hk:0<n):a=some (adr a):=Sl.ne s hk
theorem Strs.get (s:Strs p a n ts) (hk:k<n):pcell p ((adr a).add (k*1))=some (sv (ts.getD k [])):=by
  have hl:=s.len
  exact Sl.get s k [sv (ts.getD k [])] (by rw [scs,List.getElem?_map,List.getD_eq_getElem?_getD,List.getElem?_eq_getElem (by omega)];rfl) 0 _ rfl

abbrev Pie:=Int × Int
def Pie.cells (x:Pie):List Value:=[.int .i64 x.1,.int .i64 x.2]
def pies (xs:List Pie):List (List Value):=xs.map Pie.cells
def Pies (p:PHeap) (a:Option Addr) (n:Nat) (xs:List Pie):Prop:=Sl p a n 2 (pies xs)
def pz:Pie:=(0,0)
variable {xs:List Pie}
theorem xwz (xs:List Pie):(pies xs).length=xs.length:=by simp [pies]
theorem Pies.len (s:Pies p a n xs):xs.length=n:=by have:=Sl.len s;simpa [pies] using this
theorem Pies.mono (hp:PLe p p') (s:Pies p a n xs):Pies p' a n xs:=Sl.mono hp s
theorem Pies.ne (s:Pies p a n xs) (hk:0<n):a=some (adr a):=Sl.ne s hk
theorem Pies.at (s:Pies p a n xs) (hk:k<n) {j:Nat} {v:Value} (hv:(xs.getD k pz).cells[j]?=some v):pcell p (((adr a).add (k*2)).add j)=some v:=by
  have hl:=s.len
  exact Sl.get s k (xs.getD k pz).cells (by rw [pies,List.getElem?_map,List.getD_eq_getElem?_getD,List.getElem?_eq_getElem (by omega)];rfl) j v hv
theorem Pies.ph (s:Pies p a n xs) (hk:k<n):pcell p ((adr a).add (k*2))=some (.int .i64 (xs.getD k pz).1):=s.at hk (j:=0) rfl
theorem Pies.by (s:Pies p a n xs) (hk:k<n):pcell p (((adr a).add (k*2)).add 1)=some (.int .i64 (xs.getD k pz).2):=s.at hk (j:=1) rfl
theorem Pies.all (s:Pies p a n xs) (hk:k<n): ∀ j v,[Value.int .i64 (xs.getD k pz).1,.int .i64 (xs.getD k pz).2][j]?=some v→pcell p (((adr a).add (k*2)).add j)=some v:=fun _ _ hv=>s.at hk hv
end
end Go.X.Cent
namespace Go.X.Cent
open Go.X

def wsumTo (l:By):Nat→Nat
  | 0=>0
  | k+1=>wsumTo l k+(l.getD k 0).toNat*(k+1)
def total (l:By):Nat:=wsumTo l l.length
theorem zrw (l:By) {k:Nat} (hk:k<4096):(l.getD k 0).toNat*(k+1)≤1044480:=by
  have h1:=zhx (l.getD k 0)
  have:=Nat.mul_le_mul h1 (show k+1≤4096 by omega)
  omega
theorem ywk (l:By): ∀ {k:Nat},k≤4096→wsumTo l k≤k*1044480
  | 0,_=>by simp [wsumTo]
  | k+1,h=>by
    have:=ywk l (k:=k) (by omega)
    have:=zrw l (k:=k) (by omega)
    simp only [wsumTo]
    omega
end Go.X.Cent
namespace Go.X.Cent
open Go.X

section
variable {α:Type} {d:α} {xs ys:List α} {m n k:Nat}
theorem gall {P:α→Prop} (h: ∀ i,i<xs.length→P (xs.getD i d)): ∀ x∈xs,P x:=fun x hx=>by
  obtain ⟨i,hi,rfl⟩:=List.mem_iff_getElem.1 hx
  have:=h i hi
  rwa [List.getD_eq_getElem?_getD,List.getElem?_eq_getElem hi] at this
theorem gmem (h:k<xs.length):xs.getD k d∈xs:=by
  rw [List.getD_eq_getElem?_getD,List.getElem?_eq_getElem h]
  exact List.getElem_mem h
end
def isText (t:By):Prop:=t.length≤40∧ ∀ b∈t,32≤b.toNat∧b.toNat≤125
instance (t:By):Decidable (isText t):=inferInstanceAs (Decidable (_∧_))
def far (ts:List By):Prop:=60<ts.length∨ ∃ t∈ts,200<t.length
instance (ts:List By):Decidable (far ts):=inferInstanceAs (Decidable (_∨_))
theorem yrz {t:By} {k:Nat} (hk:k<t.length) (h:(((t.getD k 0).toNat:Nat):Int)<32): ¬ isText t:=fun x=>by have:=(x.2 _ (gmem (d:=0) hk)).1;omega
theorem ykz {t:By} {k:Nat} (hk:k<t.length) (h:(125:Int)<(((t.getD k 0).toNat:Nat):Int)): ¬ isText t:=fun x=>by have:=(x.2 _ (gmem (d:=0) hk)).2;omega
theorem yrj {t:By} {k:Nat} (hk:t.length≤k) (h: ∀ i,i<k→32≤(t.getD i 0).toNat∧(t.getD i 0).toNat≤125):decide (((t.length:Nat):Int)≤40)=decide (isText t):=by
  rw [decide_eq_decide]
  exact ⟨fun c=>⟨by omega,gall (d:=0) fun i hi=>h i (by omega)⟩,fun c=>by have:=c.1;omega⟩
theorem ykx {P:Nat→Prop} {k:Nat} (h: ∀ i,i<k→P i) (e:P k): ∀ i,i<k+1→P i:=fun i hi=>by
  by_cases c:i=k
  · subst c;exact e
  · exact h i (by omega)
def idxT (q:By→Bool):List By→Int
  | []=>-1
  | d::ds=>if q d=true then 0 else if idxT q ds<0 then -1 else idxT q ds+1
theorem ymx {q:By→Bool}: ∀ {ds:List By},(∀ i,i<ds.length→q (ds.getD i [])=false)→idxT q ds= -1
  | [],_=>rfl
  | d::ds,h=>by
    have h0:q d=false:=h 0 (by simp)
    have:=ymx (ds:=ds) fun i hi=>by simpa using h (i+1) (by simpa using hi)
    simp only [idxT,h0,this];simp
theorem ymq {q:By→Bool}: ∀ {ds:List By} {k:Nat},k<ds.length→q (ds.getD k [])=true→(∀ i,i<k→q (ds.getD i [])=false)→idxT q ds=k
  | [],_,h,_,_=>by simp at h
  | d::ds,0,_,h,_=>by
    have h0:q d=true:=by simpa using h
    simp [idxT,h0]
  | d::ds,k+1,hk,h,hi=>by
    have h0:q d=false:=hi 0 (by omega)
    have:=ymq (ds:=ds) (k:=k) (by simpa using hk) (by simpa using h) fun i hlt=>by simpa using hi (i+1) (by omega)
    simp only [idxT,h0,this]
    simp
    omega
theorem ytj {q:By→Bool}: ∀ {ds:List By},0≤idxT q ds↔ ∃ t∈ds,q t=true
  | []=>by simp [idxT]
  | d::ds=>by
    have ih:=ytj (q:=q) (ds:=ds)
    unfold idxT
    by_cases h:q d=true
    · simp [h]
    · rw [if_neg h]
      simp only [List.mem_cons,exists_eq_or_imp,h,← ih]
      split <;> simp <;> omega
def badT (t:By):Bool:=!decide (isText t)
def chkT (ts:List By):Int:=if 20<ts.length then 2 else if 0≤idxT badT ts then 1 else 0
end Go.X.Cent
namespace Go.X.Cent
open Go.X

structure Best (ph:List By) (s:By) (k b:Nat):Prop where
  lt:b<ph.length
  pre:ph.getD b [] <+: s
  max: ∀ i,i<k→ph.getD i [] <+: s→(ph.getD i []).length≤(ph.getD b []).length
  low:b=0∨b<k
theorem Best.zero {ph:List By} {s:By} (h:ph.head?=some []):Best ph s 0 0:=by
  cases ph with
  | nil=>cases h
  | cons a l=>
    obtain rfl:a=[]:=by simpa using h
    exact ⟨by simp,by simp,fun i hi=>absurd hi (Nat.not_lt_zero i),.inl rfl⟩
theorem Best.take {ph:List By} {s:By} {k b:Nat} (B:Best ph s k b) (hk:k<ph.length) (h1:(ph.getD b []).length<(ph.getD k []).length) (h2:ph.getD k [] <+: s):Best ph s (k+1) k:=
  ⟨hk,h2,fun i hi hp=>by
    by_cases e:i=k
    · subst e;exact Nat.le_refl _
    · have:=B.max i (by omega) hp;omega,.inr (by omega)⟩
theorem Best.keep {ph:List By} {s:By} {k b:Nat} (B:Best ph s k b) (h:ph.getD k [] <+: s→(ph.getD k []).length≤(ph.getD b []).length):Best ph s (k+1) b:=
  ⟨B.lt,B.pre,fun i hi hp=>by
    by_cases e:i=k
    · subst e;exact h hp
    · exact B.max i (by omega) hp,B.low.imp id (by omega)⟩
theorem Best.fin {ph:List By} {s:By} {b:Nat} (B:Best ph s ph.length b) (h:Phr ph):ph.getD b []=s.take (lp ph s):=by
  have h1:=ybv (s:=s) h.mem
  have h2:=B.pre
  have hb:ph.getD b []∈ph:=gmem (d:=[]) B.lt
  have hle:(ph.getD b []).length≤lp ph s:=by
    rcases Nat.lt_or_ge (lp ph s) (ph.getD b []).length with c | c
    · have hl:=h2.length_le
      have:=wrk h c hl
      rw [← List.prefix_iff_eq_take.1 h2] at this
      exact absurd hb this
    · exact c
  obtain ⟨i,hi,e⟩:=List.mem_iff_getElem.1 (h1.1 (lp ph s) (Nat.le_refl _))
  have e':ph.getD i []=s.take (lp ph s):=by rw [List.getD_eq_getElem?_getD,List.getElem?_eq_getElem hi];exact e
  have h3:=B.max i hi (by rw [e'];exact List.take_prefix _ _)
  rw [e',List.length_take,Nat.min_eq_left (wrv ph s)] at h3
  rw [List.prefix_iff_eq_take.1 h2,show (ph.getD b []).length=lp ph s from by omega]
end Go.X.Cent
namespace Go.X.Cent
open Go.X

def mapFrom:Nat→List By→List (By × Int)
  | _,[]=>[]
  | n,w::ph=>(w,((n:Nat):Int))::mapFrom (n+1) ph
theorem yax: ∀ {n:Nat} {ph:List By},(mapFrom n ph).length=ph.length
  | _,[]=>rfl
  | n,w::ph=>by simp [mapFrom,yax]
theorem ygw {w:By}: ∀ {n:Nat} {ph:List By},mapFrom n (ph++[w])=mapFrom n ph++[(w,((n+ph.length:Nat):Int))]
  | n,[]=>by simp [mapFrom]
  | n,x::ph=>by
    simp only [List.cons_append,mapFrom,ygw (n:=n+1) (ph:=ph),List.length_cons,List.cons.injEq,true_and]
    rw [show n+1+ph.length=n+(ph.length+1) from by omega]
theorem xzz {k:By}: ∀ {n:Nat} {ph:List By},findM (mapFrom n ph) k=if k∈ph then some (((n+ph.idxOf k:Nat)):Int) else none
  | n,[]=>rfl
  | n,x::ph=>by
    have ih:=xzz (k:=k) (n:=n+1) (ph:=ph)
    by_cases h:x=k
    · subst h
      simp [findM,mapFrom]
    · have hb:(x == k)=false:=by simpa using h
      have e:findM (mapFrom n (x::ph)) k=findM (mapFrom (n+1) ph) k:=by simp [findM,mapFrom,hb]
      have hi:(x::ph).idxOf k=ph.idxOf k+1:=by rw [List.idxOf_cons,hb];rfl
      rw [e,ih,hi]
      have hm:k∈x::ph↔k∈ph:=by
        rw [List.mem_cons]
        exact ⟨fun y=>y.resolve_left fun z=>h z.symm,.inr⟩
      by_cases c:k∈ph
      · rw [if_pos c,if_pos (hm.2 c)]
        congr 2
        omega
      · rw [if_neg c,if_neg fun z=>c (hm.1 z)]
def enc:Nat→List By→By→List Pie
  | 0,_,_=>[]
  | f+1,ph,s=>
    if s=[] then [] else
    if lp ph s<s.length then (((ph.idxOf (s.take (lp ph s)):Nat):Int),(((s.getD (lp ph s) 0).toNat:Nat):Int))::enc f (ph++[s.take (lp ph s+1)]) (s.drop (lp ph s+1))
    else [(((ph.idxOf s:Nat):Int),-1)]
theorem zlw: ∀ {f g:Nat} {ph:List By} {s:By},s.length≤f→s.length≤g→enc f ph s=enc g ph s
  | 0,g,ph,s,h,_=>by
    have:s=[]:=List.eq_nil_of_length_eq_zero (by omega)
    subst this
    cases g <;> simp [enc]
  | f+1,0,ph,s,_,h=>by
    have:s=[]:=List.eq_nil_of_length_eq_zero (by omega)
    subst this
    simp [enc]
  | f+1,g+1,ph,s,h1,h2=>by
    unfold enc
    split
    · rfl
    · split
      · rw [zlw (f:=f) (g:=g) (by rw [List.length_drop];omega) (by rw [List.length_drop];omega)]
      · rfl
def encS (ph:List By) (s:By):List Pie:=enc s.length ph s
theorem yuw (ph:List By):encS ph []=[]:=rfl
theorem ydk {ph:List By} {s:By} (hl:lp ph s<s.length):
    encS ph s=(((ph.idxOf (s.take (lp ph s)):Nat):Int),(((s.getD (lp ph s) 0).toNat:Nat):Int))::encS (ph++[s.take (lp ph s+1)]) (s.drop (lp ph s+1)):=by
  have hs:s≠[]:=fun e=>by subst e;simp at hl
  unfold encS
  obtain ⟨f,hf⟩: ∃ f,s.length=f+1:=⟨s.length-1,by omega⟩
  rw [hf]
  conv=>lhs;unfold enc
  rw [if_neg hs,if_pos hl]
  congr 1
  exact zlw (by rw [List.length_drop];omega) (Nat.le_refl _)
theorem ydv {ph:List By} {s:By} (hs:s≠[]) (hl: ¬ lp ph s<s.length):encS ph s=[(((ph.idxOf s:Nat):Int),-1)]:=by
  unfold encS
  obtain ⟨f,hf⟩: ∃ f,s.length=f+1:=⟨s.length-1,by have:=List.length_pos_iff.2 hs;omega⟩
  rw [hf]
  unfold enc
  rw [if_neg hs,if_neg hl]
theorem zkx {ph:List By} {s:By} {k:Nat} (h0:[]∈ph) (hk:k≤s.length) (h: ∀ i,i≤k→s.take i∈ph) (he:k<s.length→s.take (k+1) ∉ ph):lp ph s=k:=by
  have hs:=ybv (s:=s) h0
  have hl:=wrv ph s
  rcases Nat.lt_trichotomy (lp ph s) k with c | c | c
  · exact absurd (h (lp ph s+1) (by omega)) (hs.2 (by omega))
  · exact c
  · exact absurd (hs.1 (k+1) (by omega)) (he (by omega))
theorem nf {ph:List By} {k:By} {n:Nat} (h:(findM (mapFrom n ph) k).isSome=false):k ∉ ph:=fun x=>by
  rw [xzz,if_pos x] at h
  cases h
theorem nfS {ph:List By} {k:By} {n:Nat} (h:(findM (mapFrom n ph) k).isSome=true):k∈ph:=by
  rw [xzz] at h
  split at h
  · assumption
  · cases h
theorem nfN {ph:List By} {k:By} {n:Nat} (h:(findM (mapFrom n ph) k).isSome=false):findM (mapFrom n ph) k=none:=by
  cases e:findM (mapFrom n ph) k with
  | none=>rfl
  | some v=>rw [e] at h;cases h
theorem zaw {ph:List By} {k:By} (h:k∈ph):(findM (mapFrom 0 ph) k).getD 0=((ph.idxOf k:Nat):Int):=by
  rw [xzz,if_pos h,Nat.zero_add];rfl
theorem zzk {ph:List By} {s:By} {k:Nat} (hl:lp ph s=k) (h0:[]∈ph) (hk:k<s.length):
    encS ph s=((findM (mapFrom 0 ph) (s.take k)).getD 0,(((s.getD k 0).toNat:Nat):Int))::encS (ph++[s.take (k+1)]) (s.drop (k+1)):=by
  subst hl
  rw [ydk hk,zaw ((ybv h0).1 _ (Nat.le_refl _))]
theorem waq {ph:List By} {s:By} {k:Nat} (hl:lp ph s=k) (h0:[]∈ph) (hs:s≠[]) (hk: ¬ k<s.length):
    encS ph s=((findM (mapFrom 0 ph) (s.take k)).getD 0,-1)::encS ph (s.drop k):=by
  subst hl
  have e:s.take (lp ph s)=s:=List.take_of_length_le (by omega)
  have e2:s.drop (lp ph s)=[]:=List.drop_of_length_le (by omega)
  rw [ydv hs hk,zaw ((ybv h0).1 _ (Nat.le_refl _)),e,e2];rfl
theorem wbk {ph:List By} {s:By} {k:Nat} (h: ∀ i,i≤k→s.take i∈ph) (h1:s.take (k+1)∈ph): ∀ i,i≤k+1→s.take i∈ph:=fun i hi=>by
  by_cases e:i=k+1
  · subst e;exact h1
  · exact h i (by omega)
theorem zvx {α:Type} (a:List α) (x:α) (b:List α):a++[x] <+: a++x::b:=⟨b,by simp⟩
theorem zwj {ph:List By} {w:By} {o:Obj} (h:MapO (mapFrom 0 ph++[(w,(((mapFrom 0 ph).length:Nat):Int))]) o):MapO (mapFrom 0 (ph++[w])) o:=by
  rw [ygw,Nat.zero_add]
  rw [yax] at h
  exact h
theorem zzw: ∀ {f:Nat} {ph:List By} {s:By},(enc f ph s).length≤f
  | 0,_,_=>Nat.le_refl _
  | f+1,ph,s=>by
    unfold enc
    split
    · simp
    · split
      · have:=zzw (f:=f) (ph:=ph++[s.take (lp ph s+1)]) (s:=s.drop (lp ph s+1))
        simp only [List.length_cons];omega
      · simp
theorem yvq {ph:List By} {s:By}:(encS ph s).length≤s.length:=zzw
theorem wmv {α:Type} {a:List α} {x:α} {b:List α} (h:a++[x] <+: b):a.length+1≤b.length:=by
  have:=h.length_le
  simpa using this
theorem ylz (xs:List Pie) (x:Pie):pies xs++[[.int .i64 x.1,.int .i64 x.2]]=pies (xs++[x]):=by simp [pies,Pie.cells]
theorem St.lend {h₀ h:Heap} {B₀:List Nat} {p:PHeap} {L Y:Pcs} {x:Nat × Obj} {i:Nat} (s:St h₀ B₀ p h L) (hx:L[i]?=some x) (e:L.eraseIdx i=Y):St h₀ B₀ p h ([x]++(Y++[])):=
  s.perm (by subst e;simpa using xwj hx)
end Go.X.Cent
namespace Go.X.Cent
open Go.X

def pT (ph:List By) (x:Pie):By:=ph.getD x.1.toNat []++(if x.2= -1 then [] else [UInt8.ofNat x.2.toNat])
def rd1 (ph:List By) (x:Pie):Option By:=if ((ph.length:Nat):Int)≤x.1 then none else if pT ph x=[] then none else some (pT ph x)
def rdTo:List By→List Pie→Option (List By)
  | e,[]=>some e
  | e,x::l=>match rd1 ([]::e) x with
    | none=>none
    | some t=>rdTo (e++[t]) l
theorem ydw {α:Type} {l:List α} {k:Nat} {d:α} (h:k<l.length):l.drop k=l.getD k d::l.drop (k+1):=by
  rw [List.drop_eq_getElem_cons h,List.getD_eq_getElem?_getD,List.getElem?_eq_getElem h];rfl
section
variable {e:List By} {xs:List Pie} {k:Nat}
theorem zuv (he:e.length=k) (hk:k<xs.length) (h:((k+1:Nat):Int)≤(xs.getD k pz).1):rdTo e (xs.drop k)=none:=by
  rw [ydw (d:=pz) hk,rdTo,rd1,if_pos (by simp only [List.length_cons];omega)]
theorem zfz (he:e.length=k) (hk:k<xs.length) (h1: ¬ ((k+1:Nat):Int)≤(xs.getD k pz).1) (h2:(xs.getD k pz).2= -1) (h3:([]::e).getD (xs.getD k pz).1.toNat []=[]):rdTo e (xs.drop k)=none:=by
  rw [ydw (d:=pz) hk,rdTo,rd1,if_neg (by simp only [List.length_cons];omega),pT,if_pos h2,h3,List.append_nil,if_pos rfl]
theorem wez (he:e.length=k) (hk:k<xs.length) (h1: ¬ ((k+1:Nat):Int)≤(xs.getD k pz).1) (h2:(xs.getD k pz).2= -1) (h3: ¬ ([]::e).getD (xs.getD k pz).1.toNat []=[]):
    rdTo e (xs.drop k)=rdTo (e++[([]::e).getD (xs.getD k pz).1.toNat []]) (xs.drop (k+1)):=by
  rw [ydw (d:=pz) hk,rdTo,rd1,if_neg (by simp only [List.length_cons];omega),pT,if_pos h2,List.append_nil,if_neg h3]
theorem wex (he:e.length=k) (hk:k<xs.length) (h1: ¬ ((k+1:Nat):Int)≤(xs.getD k pz).1) (h2: ¬ (xs.getD k pz).2= -1):
    rdTo e (xs.drop k)=rdTo (e++[([]::e).getD (xs.getD k pz).1.toNat []++[UInt8.ofNat (xs.getD k pz).2.toNat]]) (xs.drop (k+1)):=by
  rw [ydw (d:=pz) hk,rdTo,rd1,if_neg (by simp only [List.length_cons];omega),pT,if_neg h2,if_neg (by simp)]
theorem wrz (hk:xs.length≤k) (h:rdTo e (xs.drop k)=rdTo [] xs):rdTo [] xs=some e:=by
  rw [List.drop_of_length_le hk,rdTo] at h
  exact h.symm
theorem ygk (he:e.length=k):(scs ([]::e)).length=k+1:=by rw [xgq,List.length_cons,he]
theorem zij {l:List By} {i:Nat} (h:i<l.length):(scs l)[i]?=some [sv (l.getD i [])]:=by
  rw [scs,List.getElem?_map,List.getD_eq_getElem?_getD,List.getElem?_eq_getElem h];rfl
theorem ysx (l:List By) (t:By):scs l++[[sv t]]=scs (l++[t]):=by simp [scs]
theorem yyj (l:List By) (t:By):scs ([]::l)++[[sv t]]=scs ([]::(l++[t])):=by simp [scs]
theorem wik {m i:Nat} (h: ∀ t∈e,t.length≤m):(([]::e).getD i []).length≤m:=by
  rw [List.getD_eq_getElem?_getD]
  cases c:([]::e)[i]? with
  | none=>simp
  | some t=>
    rcases List.mem_cons.1 (List.mem_of_getElem? c) with h1 | h1
    · subst h1;simp
    · exact h t h1
theorem ywj {m:Nat} {t:By} (h: ∀ t∈e,t.length≤m) (ht:t.length≤m+1): ∀ s∈e++[t],s.length≤m+1:=fun s hs=>by
  rcases List.mem_append.1 hs with h1 | h1
  · have:=h s h1;omega
  · rw [List.mem_singleton.1 h1];exact ht
theorem zbx (t:By):(e++[t]).flatten=e.flatten++t:=by simp
end
theorem _root_.Go.X.St.dropX {h₀ h:Heap} {B₀:List Nat} {p:PHeap} {A X C:Pcs} (s:St h₀ B₀ p h (A++(X++C))):St h₀ B₀ p h (A++C):=s.sub (List.Sublist.append_left (List.sublist_append_right X C) A)
end Go.X.Cent
namespace Go.X.Cent
open Go.X

def isL (c:UInt8):Prop:=65≤c.toNat∧c.toNat≤90
instance (c:UInt8):Decidable (isL c):=inferInstanceAs (Decidable (_∧_))
def phN (s:By):Int:=((((s.getD 0 0).toNat:Nat):Int)-65)*26+((((s.getD 1 0).toNat:Nat):Int)-65)
def pie1 (s:By):Option (Pie × By):=
  if s.length<2∨ ¬ isL (s.getD 0 0)∨ ¬ isL (s.getD 1 0) then none
  else if s.drop 2=[] then some ((phN s,-1),s.drop 2)
  else if ((s.drop 2).getD 0 0).toNat=126 then some ((phN s,10),(s.drop 2).drop 1)
  else if ((s.drop 2).getD 0 0).toNat<32∨125<((s.drop 2).getD 0 0).toNat then none
  else some ((phN s,((((s.drop 2).getD 0 0).toNat:Nat):Int)),(s.drop 2).drop 1)
def prs:Nat→List Pie→By→Option (List Pie)
  | 0,out,_=>some out
  | f+1,out,s=>if s=[] then some out else match pie1 s with
    | none=>none
    | some (x,r)=>prs f (out++[x]) r
def prsS (out:List Pie) (s:By):Option (List Pie):=prs s.length out s
def formB (s:By):Option (List Pie):=
  if 1400<s.length∨s.length<5∨(s.getD (s.length-5) 0).toNat≠61 then none
  else if ∃ c∈s.drop (s.length-4),c.toNat<48∨57<c.toNat then none
  else prsS [] (s.take (s.length-5))
theorem ygv {s:By} {x:Pie} {r:By} (h:pie1 s=some (x,r)):r.length<s.length:=by
  unfold pie1 at h
  split at h
  · cases h
  rename_i h0
  have: ¬ s.length<2:=fun z=>h0 (.inl z)
  split at h
  · cases h;rw [List.length_drop];omega
  split at h
  · cases h;rw [List.length_drop,List.length_drop];omega
  split at h
  · cases h
  · cases h;rw [List.length_drop,List.length_drop];omega
theorem zjj: ∀ {f g:Nat} {out:List Pie} {s:By},s.length≤f→s.length≤g→prs f out s=prs g out s
  | 0,0,_,_,_,_=>rfl
  | 0,g+1,out,s,h,_=>by
    have:s=[]:=List.eq_nil_of_length_eq_zero (by omega)
    subst this;rfl
  | f+1,0,out,s,_,h=>by
    have:s=[]:=List.eq_nil_of_length_eq_zero (by omega)
    subst this;rfl
  | f+1,g+1,out,s,h1,h2=>by
    unfold prs
    split
    · rfl
    · cases e:pie1 s with
      | none=>rfl
      | some q=>
        obtain ⟨x,r⟩:=q
        have:=ygv e
        exact zjj (by omega) (by omega)
theorem wmj (out:List Pie):prsS out []=some out:=rfl
theorem ydq {out:List Pie} {s:By} (h0:s≠[]) (h:pie1 s=none):prsS out s=none:=by
  unfold prsS
  obtain ⟨f,hf⟩: ∃ f,s.length=f+1:=⟨s.length-1,by have:=List.length_pos_iff.2 h0;omega⟩
  rw [hf,prs,if_neg h0,h]
theorem yiq {out:List Pie} {s:By} {x:Pie} {r:By} (h:pie1 s=some (x,r)):prsS out s=prsS (out++[x]) r:=by
  have hs:=ygv h
  have h0:s≠[]:=fun e=>by subst e;simp at hs
  unfold prsS
  obtain ⟨f,hf⟩: ∃ f,s.length=f+1:=⟨s.length-1,by have:=List.length_pos_iff.2 h0;omega⟩
  rw [hf,prs,if_neg h0,h]
  exact zjj (by omega) (Nat.le_refl _)
section
variable {s:By}
theorem xok (h:s.length<2∨ ¬ (65≤(((s.getD 0 0).toNat:Nat):Int)∧(((s.getD 0 0).toNat:Nat):Int)≤90)∨ ¬ (65≤(((s.getD 1 0).toNat:Nat):Int)∧(((s.getD 1 0).toNat:Nat):Int)≤90)):pie1 s=none:=by
  unfold pie1
  rw [if_pos]
  rcases h with h | h | h
  · exact .inl h
  · exact .inr (.inl fun z=>h (by have:=z.1;have:=z.2;omega))
  · exact .inr (.inr fun z=>h (by have:=z.1;have:=z.2;omega))
theorem wij (h0: ¬ s.length<2) (h1:65≤(((s.getD 0 0).toNat:Nat):Int)∧(((s.getD 0 0).toNat:Nat):Int)≤90) (h2:65≤(((s.getD 1 0).toNat:Nat):Int)∧(((s.getD 1 0).toNat:Nat):Int)≤90):
    pie1 s=if s.drop 2=[] then some ((phN s,-1),s.drop 2) else if ((s.drop 2).getD 0 0).toNat=126 then some ((phN s,10),(s.drop 2).drop 1)
      else if ((s.drop 2).getD 0 0).toNat<32∨125<((s.drop 2).getD 0 0).toNat then none else some ((phN s,((((s.drop 2).getD 0 0).toNat:Nat):Int)),(s.drop 2).drop 1):=by
  unfold pie1
  rw [if_neg]
  rintro (z | z | z)
  · exact h0 z
  · exact z ⟨by omega,by omega⟩
  · exact z ⟨by omega,by omega⟩
end
end Go.X.Cent
namespace Go.X.Cent
open Go.X Go.Proofs

def dig (n:Nat):UInt8:=UInt8.ofNat (48+n % 10)
def four (n:Nat):By:=[dig (n / 1000),dig (n / 100),dig (n / 10),dig n]
def sealB (l:By):By:=l++61::four (total l % 9973)
theorem dec1 {n:Nat} (h:n<10):Lib.decDigits n=[dig n]:=by
  rw [Lib.decDigits,dif_pos h,dig,Nat.mod_eq_of_lt h]
theorem dec2 {n:Nat} (h: ¬ n<10):Lib.decDigits n=Lib.decDigits (n / 10)++[dig n]:=by
  rw [Lib.decDigits,dif_neg h,dig]
theorem xwq {n m:Nat} (h:n<m) (_:0<m):dig (n / m)=48:=by
  rw [Nat.div_eq_of_lt h];rfl
theorem zak {n:Nat} (h:n<10000):(Lib.itoa (n:Int)).length≤4∧Lib.repeatL [48] (4-(Lib.itoa (n:Int)).length)++Lib.itoa (n:Int)=four n:=by
  have e:Lib.itoa (n:Int)=Lib.decDigits n:=by rw [Lib.itoa,if_neg (by omega)];rfl
  rw [e]
  by_cases h1:n<10
  · rw [dec1 h1,four,xwq (n:=n) (m:=1000) (by omega) (by omega),xwq (n:=n) (m:=100) (by omega) (by omega),xwq (n:=n) (m:=10) (by omega) (by omega)]
    exact ⟨by simp,rfl⟩
  rw [dec2 h1]
  by_cases h2:n<100
  · rw [dec1 (n:=n / 10) (by omega),four,xwq (n:=n) (m:=1000) (by omega) (by omega),xwq (n:=n) (m:=100) (by omega) (by omega)]
    exact ⟨by simp,rfl⟩
  rw [dec2 (n:=n / 10) (by omega),Nat.div_div_eq_div_mul]
  by_cases h3:n<1000
  · rw [dec1 (n:=n / (10*10)) (by omega),four,xwq (n:=n) (m:=1000) (by omega) (by omega)]
    exact ⟨by simp,rfl⟩
  rw [dec2 (n:=n / (10*10)) (by omega),Nat.div_div_eq_div_mul,dec1 (n:=n / (10*10*10)) (by omega)]
  exact ⟨by simp,rfl⟩
theorem zqk (l:By):((l++[61])++Lib.repeatL [48] ((4:Int)-(((Lib.itoa ((total l % 9973:Nat):Int)).length:Nat):Int)).toNat)++Lib.itoa ((total l % 9973:Nat):Int)=sealB l:=by
  have h:=zak (n:=total l % 9973) (by omega)
  have e:((4:Int)-(((Lib.itoa ((total l % 9973:Nat):Int)).length:Nat):Int)).toNat=4-(Lib.itoa ((total l % 9973:Nat):Int)).length:=by omega
  rw [e,List.append_assoc (l++[61]),h.2,sealB]
  simp
def fourTo (n:Nat):Nat→By
  | 0=>[]
  | k+1=>dig (n / 10 ^ k)::fourTo n k
def two (n:Int):By:=[UInt8.ofNat (65+n / 26).toNat,UInt8.ofNat (65+n % 26).toNat]
theorem c70i (h:Heap) (l:By) (z:Int) (h0:0≤z) (h1:z≤4096) (hl:l.length≤4096):CallsX Tryz.prog .lone 70 #[sv l,.int .i64 z] h fun v h'=>v=sv (Lib.repeatL l z.toNat)∧Keep h h':=by
  have e:z=((z.toNat:Nat):Int):=by omega
  have:=c70 h l z.toNat (by omega) (by have:=Nat.mul_le_mul hl (show z.toNat≤4096 by omega);omega)
  rw [← e] at this
  exact this
end Go.X.Cent
namespace Go.X.Cent
open Go.X Go.Proofs Go.RowKit

def selfP (b:Nat):Value:=.pointer (some ⟨b,0,none⟩)
def Bld (b:Nat) (l:By) (X:Pcs):Prop:=∃ a v Y,X=(b,.cells #[a,v] 108 (0,0))::Y∧(a= .pointer none∨a=selfP b)∧OwnS 5 1 v (bcs l) Y
theorem Bld.new (b:Nat):Bld b [] [(b,.cells #[.pointer none,.slice none 0 0] 108 (0,0))]:=⟨_,_,[],rfl,.inl rfl,.empty 5 1⟩

section
variable {h h₀:Heap} {B₀:List Nat} {p:PHeap} {L C:Pcs} {b:Nat} {a v:Value}
theorem wak {w:World} {c:Array Value} {t:TypeId} {f:Nat × Nat} {i:Nat} (e:w.heap[b]?=some (.cells c t f)):w.cell? ⟨b,i,none⟩=c[i]?:=by
  unfold World.cell?
  simp [e]
theorem c93 (ha:a= .pointer none∨a=selfP b) (s₀:St h₀ B₀ p h ((b,.cells #[a,v] 108 (0,0))::C)):CallsX Tryz.prog .lone 93 #[selfP b] h fun r h'=>r= .tuple #[]∧St h₀ B₀ p h' ((b,.cells #[selfP b,v] 108 (0,0))::C):=by
  have hb:=s₀.at (i:=0) rfl
  rcases ha with rfl | rfl
  · refine xkx fun w hw=>?_
    subst hw
    refine (Any.Builder_copyCheck_fresh { Tryz.lays105 with } Tryz.Builder_Extra_105.toX72 b w (by rw [wak hb];rfl) ?_ ?_).mono ?_
    · unfold World.shape?
      simp [hb]
      rfl
    · unfold World.frozen?
      simp [hb]
    · rintro e w' ⟨rfl,rfl⟩
      exact ⟨_,rfl,⟨rfl,s₀.store (i:=0) (off:=0) (v:=selfP b) rfl⟩,⟨rfl,rfl,rfl,by simp [World.setCell]⟩⟩
  · refine xkx fun w hw=>?_
    subst hw
    refine (Any.Builder_copyCheck_used { Tryz.lays105 with } Tryz.Builder_Extra_105.toX72 b w (by rw [wak hb];rfl)).mono ?_
    rintro e w' ⟨rfl,rfl⟩
    exact ⟨_,rfl,⟨rfl,s₀⟩,.refl _⟩
theorem ytw: ∀ l:By,(bcs l).flatten=Lib.byteCells l
  | []=>rfl
  | x::l=>by
    have:=ytw l
    simp only [bcs,Lib.byteCells] at this ⊢
    simp [this]
theorem wjq {l:By} {Y:Pcs} (ha:a= .pointer none∨a=selfP b) (hO:OwnS 5 1 v (bcs l) Y) {w:World} (s₀:St h₀ [] p w.heap ((b,.cells #[a,v] 108 (0,0))::Y++C)):Lib.IsBuilder 108 5 h₀.size b (Lib.byteCells l) w:=by
  have hb:=s₀.at (i:=0) rfl
  have ob:=s₀.own _ (List.mem_of_getElem? (i:=0) rfl)
  have hbB:h₀.size≤b:=ob.2.2.resolve_right (by simp)
  have hrow:w.ownsRow h₀.size 5 1 v (Lib.byteCells l).length (Lib.byteCells l)∧v.ownBlock≠some b:=by
    obtain ⟨hw1,⟨rfl,h0,rfl⟩ | ⟨g,cs,cap,rest,rfl,rfl,hcs,hlen,hcap⟩⟩:=hO
    · have:l=[]:=by simpa [bcs] using h0
      subst this
      exact ⟨⟨rfl,.inl ⟨rfl,rfl⟩⟩,by simp [Value.ownBlock]⟩
    · have og:=s₀.own (g,.cells cs.toArray 5 (0,0)) (by simp)
      have hgB:h₀.size≤g:=og.2.2.resolve_right (by simp)
      have hne:g≠b:=fun e=>by
        have:=s₀.nod
        simp [e] at this
      have hll:(bcs l).flatten.length=l.length:=by rw [ytw];simp [Lib.byteCells]
      have hle:l.length≤cap:=by
        have:cs.length=(bcs l).flatten.length+rest.length:=by rw [hcs];simp
        omega
      refine ⟨⟨by simp [Lib.byteCells],.inr ⟨g,cap,cs.toArray,by simp [Lib.byteCells,bcs],hgB,og.1,by simpa [Lib.byteCells] using hle,by have:=hcap rfl;unfold maxLen;omega,by simpa using hlen,?_⟩⟩,by simp [Value.ownBlock,hne]⟩
      rw [← ytw,List.take_left' (by rw [hll];simp) |> fun e=>(by rw [hcs];exact e:(cs.take ((bcs l).flatten.length*1))=(bcs l).flatten)]
  · rcases ha with rfl | rfl
    · exact .inl ⟨hbB,v,hb,hrow⟩
    · exact .inr ⟨hbB,v,hb,hrow⟩
theorem c66k {l:By} {X:Pcs} (B:Bld b l X) (hp: ∀ b o,p b=some o→h₀[b]?=some o) (hC: ∀ x∈C,∀ c z,x.2≠ .cells c 5 z) (s₀:St h₀ [] p h (X++C)):CallsX Tryz.prog .lone 66 #[selfP b] h fun r h'=>r=sv l∧St h₀ [] p h' C:=by
  obtain ⟨a,v,Y,rfl,ha,hO⟩:=B
  refine xkx fun w hw=>?_
  subst hw
  have hI:=wjq ha hO s₀
  refine (Any.Builder_String_any_k { Tryz.lays105 with } Tryz.Builder_Extra_105 h₀.size b l w (Lib.IsBuilderF.of hI) s₀.size).mono ?_
  rintro e w' ⟨rfl,_,bl,ok⟩
  have hB: ∀ k,k<h₀.size→w'.heap[k]?=h₀[k]?:=fun k hk=>(bl.block k hk).trans (s₀.keep k hk (by simp))
  have hn:=s₀.nod
  refine ⟨_,rfl,⟨rfl,fun k hk _=>hB k hk,Nat.le_trans s₀.size bl.size,fun k o e=>?_,fun x hx=>?_,?_⟩,xzw bl⟩
  · have:=hp k o e
    rw [hB k (xmk this)];exact this
  · have o:=s₀.own x (by simp [hx])
    refine ⟨ok x.1 x.2 o.1 (fun e=>?_) (fun c z=>hC x hx c z),o.2⟩
    have e:x.1=b:=by simpa using e
    simp only [List.cons_append,List.map_cons,List.nodup_cons,List.map_append,List.mem_append] at hn
    exact hn.1 (.inr (e ▸ List.mem_map_of_mem hx))
  · simp only [List.map_append] at hn
    exact (List.nodup_append.1 hn).2.1
theorem c66 {l:By} {X:Pcs} (B:Bld b l X) (s₀:St h₀ [] p h (X++C)):CallsX Tryz.prog .lone 66 #[selfP b] h fun r h'=>r=sv l∧Keep h₀ h':=by
  obtain ⟨a,v,Y,rfl,ha,hO⟩:=B
  refine xkx fun w hw=>?_
  subst hw
  have hI:=wjq ha hO s₀
  refine (Any.Builder_String_any { Tryz.lays105 with } Tryz.Builder_Extra_105 h₀.size b l w hI s₀.size).mono ?_
  rintro e w' ⟨rfl,bl⟩
  exact ⟨_,rfl,⟨rfl,⟨Nat.le_trans s₀.size bl.size,fun k hk=>(bl.block k hk).trans (s₀.keep k hk (by simp))⟩⟩,xzw bl⟩
end
end Go.X.Cent
namespace Go.Proofs.YtphalmjpbnffcaaGreatDoor
open Go.X Go.X.Cent Go.Conc
set_option maxRecDepth 10000

theorem c65 (h h₀:Heap) (B₀:List Nat) (p:PHeap) (b:Nat) (a v:Value) (l:By) (Y C:Pcs) (ha:a= .pointer none∨a=selfP b) (hO:OwnS 5 1 v (bcs l) Y) (c:UInt8) (hl:l.length+4096≤2 ^ 30) (s₀:St h₀ B₀ p h (([(b,.cells #[a,v] 108 (0,0))]:Pcs)++(Y++(C++[])))):CallsX Tryz.prog .lone 65 #[.pointer (some ⟨b,0,none⟩),.int .u8 (((c.toNat:Nat):Int))] h fun v_ h'=>∃ v' Y',v_= .nilIface∧OwnS 5 1 v' (bcs (l++[c])) Y'∧St h₀ B₀ p h' ((b,.cells #[selfP b,v'] 108 (0,0))::(Y'++C)):=by
  refine xbv (Φ:=fun h_=>St h₀ B₀ p h_ (([(b,.cells #[a,v] 108 (0,0))]:Pcs)++(Y++(C++[])))) Tryz.func65 rfl (tm:=[_,_,_,_,_,_,_,_,_,_,_,_,_,_,_,_,_]) rfl ?_ s₀
  intro c₀ cs Stop K
  refine xbj ?_
  refine xav ?_
  refine xaj (xaz rfl) (fun h_ H_=>xaq (v:=.nilIface) rfl) rfl ?_
  refine xak ?_
  refine xbj ?_
  refine xav ?_
  refine xaj (xaz rfl) (fun h_ H_=>xax (v:=.pointer (some ⟨b,0,none⟩)) rfl) rfl ?_
  refine xgv (xaz rfl) (first:=[]) (cap:=[]) rfl rfl fC93 (fun h_ H_=>c93 ha H_) ?_
  refine fun v_=>xez fun ev_=>xcz (L':=([(b,.cells #[selfP b,v] 108 (0,0))]:Pcs)++(Y++(C++[]))) rfl ?_
  subst ev_
  refine xfz (tm':=_::_::_::_::_::_::_::_) rfl ?_
  refine xak ?_
  refine xbj ?_
  refine xav ?_
  refine xaj (xaz rfl) (fun h_ H_=>xax (v:=.pointer (some ⟨b,0,none⟩)) rfl) rfl ?_
  refine xaj (xaz rfl) (fun h_ H_=>xax (v:=.pointer (some ⟨b,0,none⟩)) rfl) rfl ?_
  refine xaj (xaz rfl) (fun h_ H_=>xkq rfl) (tm':=_::_::_::_::_::_::_::_::_::_::_) rfl ?_
  refine xaj (xaz rfl) (fun h_ H_=>xaw ysq rfl (a':=⟨b,1,none⟩) rfl) rfl ?_
  refine xaj (xaz rfl) (fun h_ H_=>xbx H_ tA47 rfl (i:=0) rfl (v:=v) rfl) rfl ?_
  refine xaj (xaz rfl) (fun h_ H_=>xax (v:=.int .u8 (((c.toNat:Nat):Int))) rfl) (tm':=[_,_,_,_,_,_,_,_,_,_,_,_,_,_,_,_,_]) rfl ?_
  refine xhv ([(b,.cells #[selfP b,v] 108 (0,0))]:Pcs) (xaz rfl) Tryz.underlying47 tS5 tZ5 (Nat.le_of_ble_eq_true rfl) (vs:=[(0,.int .u8 (((c.toNat:Nat):Int)))]) rfl rfl (es:=[[.int .u8 (((c.toNat:Nat):Int))]]) rfl rfl rfl fun v1 X2 o3=>?_
  refine xjw (List.Perm.append_left _ (List.perm_append_comm_assoc _ _ _)) ?_
  refine xcz (L':=([(b,.cells #[selfP b,v] 108 (0,0))]:Pcs)++(Y++(X2++(C++[])))) rfl ?_
  refine xkw ([(b,.cells #[selfP b,v] 108 (0,0))]:Pcs) Y X2 (xaz rfl) Tryz.underlying47 tS5 tZ5 rfl tB5 Tryz.underlying47 rfl rfl hO o3 (xrk rfl) (by rw [yaq];simp;omega) (by decide) fun v4 X5 o6=>?_
  refine xaj (xaz rfl) (fun h_ H_=>xkq rfl) (tm':=[_,_,_,_,_,_,_,_,_,_,_,_,_,_,_,_,_]) rfl ?_
  refine xaj (xaz rfl) (fun h_ H_=>xaw ysq rfl (a':=⟨b,1,none⟩) rfl) rfl ?_
  refine ykw (xaz rfl) tS47 rfl (v:=v4) rfl o6.one (i:=0) rfl (Nat.succ_le_iff.1 (Nat.le_of_ble_eq_true rfl)) (cs2:=[selfP b,v4]) rfl (xcz (L':=([(b,.cells #[selfP b,v4] 108 (0,0))]:Pcs)++(X5++(C++[]))) rfl ?_)
  refine xak ?_
  refine xbj ?_
  refine xav ?_
  refine xaj (xaz rfl) (fun h_ H_=>xaq (v:=.nilIface) rfl) rfl ?_
  refine xak ?_
  refine xcj Tryz.func65 rfl (vs:=[.nilIface]) (fun h_ H_=>⟨.nilIface,_,rfl,rfl,rfl⟩) (v:=.nilIface) rfl ?_
  exact fun h_ H_=>K _ _ ⟨_,_,rfl,o6.as (yqw l [c]).symm,by simpa using H_⟩
theorem c92 (h h₀:Heap) (B₀:List Nat) (p:PHeap) (b:Nat) (a v:Value) (l:By) (Y C:Pcs) (ha:a= .pointer none∨a=selfP b) (hO:OwnS 5 1 v (bcs l) Y) (m:By) (hl:l.length+4096≤2 ^ 30) (hm:m.length≤4096) (s₀:St h₀ B₀ p h (([(b,.cells #[a,v] 108 (0,0))]:Pcs)++(Y++(C++[])))):CallsX Tryz.prog .lone 92 #[.pointer (some ⟨b,0,none⟩),sv m] h fun v_ h'=>∃ v' Y',v_= .tuple #[.int .i64 ((m.length:Nat):Int),.nilIface]∧OwnS 5 1 v' (bcs (l++m)) Y'∧St h₀ B₀ p h' ((b,.cells #[selfP b,v'] 108 (0,0))::(Y'++C)):=by
  refine xbv (Φ:=fun h_=>St h₀ B₀ p h_ (([(b,.cells #[a,v] 108 (0,0))]:Pcs)++(Y++(C++[])))) Tryz.func92 rfl (tm:=[_,_,_,_,_,_,_,_,_,_,_,_,_,_,_,_,_,_,_]) rfl ?_ s₀
  intro c₀ cs Stop K
  refine xbj ?_
  refine xav ?_
  refine xaj (xaz rfl) (fun h_ H_=>xaq (v:=.int .i64 0) rfl) (tm':=_::_::_::_::_::_) rfl ?_
  refine xaj (xaz rfl) (fun h_ H_=>xaq (v:=.nilIface) rfl) rfl ?_
  refine xak ?_
  refine xbj ?_
  refine xav ?_
  refine xaj (xaz rfl) (fun h_ H_=>xax (v:=.pointer (some ⟨b,0,none⟩)) rfl) rfl ?_
  refine xgv (xaz rfl) (first:=[]) (cap:=[]) rfl rfl fC93 (fun h_ H_=>c93 ha H_) ?_
  refine fun v_=>xez fun ev_=>xcz (L':=([(b,.cells #[selfP b,v] 108 (0,0))]:Pcs)++(Y++(C++[]))) rfl ?_
  subst ev_
  refine xfz (tm':=_::_::_::_::_::_::_::_::_) rfl ?_
  refine xak ?_
  refine xbj ?_
  refine xav ?_
  refine xaj (xaz rfl) (fun h_ H_=>xax (v:=.pointer (some ⟨b,0,none⟩)) rfl) rfl ?_
  refine xaj (xaz rfl) (fun h_ H_=>xax (v:=.pointer (some ⟨b,0,none⟩)) rfl) rfl ?_
  refine xaj (xaz rfl) (fun h_ H_=>xkq rfl) (tm':=_::_::_::_::_::_::_::_::_::_::_::_) rfl ?_
  refine xaj (xaz rfl) (fun h_ H_=>xaw ysq rfl (a':=⟨b,1,none⟩) rfl) rfl ?_
  refine xaj (xaz rfl) (fun h_ H_=>xbx H_ tA47 rfl (i:=0) rfl (v:=v) rfl) rfl ?_
  refine xaj (xaz rfl) (fun h_ H_=>xax (v:=sv m) rfl) (tm':=[_,_,_,_,_,_,_,_,_,_,_,_,_,_,_,_,_,_,_]) rfl ?_
  refine yzx (X:=Y) ([(b,.cells #[selfP b,v] 108 (0,0))]:Pcs) (xaz rfl) Tryz.underlying47 tS5 tZ5 rfl tB5 Tryz.underlying9 rfl (t:=bs m) rfl hO (by rw [yaq,xqz];omega) (by decide) fun v1 X2 o3=>?_
  have o4:OwnS 5 1 v1 (bcs l++bcs m) X2:=o3
  refine xaj (xaz rfl) (fun h_ H_=>xkq rfl) rfl ?_
  refine xaj (xaz rfl) (fun h_ H_=>xaw ysq rfl (a':=⟨b,1,none⟩) rfl) (tm':=[_,_,_,_,_,_,_,_,_,_,_,_,_,_,_,_,_,_,_]) rfl ?_
  refine ykw (xaz rfl) tS47 rfl (v:=v1) rfl o4.one (i:=0) rfl (Nat.succ_le_iff.1 (Nat.le_of_ble_eq_true rfl)) (cs2:=[selfP b,v1]) rfl (xcz (L':=([(b,.cells #[selfP b,v1] 108 (0,0))]:Pcs)++(X2++(C++[]))) rfl ?_)
  refine xak ?_
  refine xbj ?_
  refine xav ?_
  refine xaj (xaz rfl) (fun h_ H_=>xax (v:=sv m) rfl) rfl ?_
  refine xaj (xaz rfl) (fun h_ H_=>xkz (l:=m) Tryz.underlying9 rfl) rfl ?_
  refine xaj (xaz rfl) (fun h_ H_=>xaq (v:=.int .i64 (((m.length:Nat):Int))) rfl) (tm':=_::_::_::_::_::_) rfl ?_
  refine xaj (xaz rfl) (fun h_ H_=>xaq (v:=.nilIface) rfl) rfl ?_
  refine xak ?_
  refine xcj Tryz.func92 rfl (vs:=[.int .i64 (((m.length:Nat):Int)),.nilIface]) (fun h_ H_=>⟨.int .i64 (((m.length:Nat):Int)),_,rfl,rfl,⟨.nilIface,_,rfl,rfl,rfl⟩⟩) (v:=.tuple #[.int .i64 (((m.length:Nat):Int)),.nilIface]) rfl ?_
  exact fun h_ H_=>K _ _ ⟨_,_,rfl,o4.as (yqw l m).symm,by simpa using H_⟩
end Go.Proofs.YtphalmjpbnffcaaGreatDoor
namespace Go.X.Cent
open Go.X Go.Proofs Go.Proofs.YtphalmjpbnffcaaGreatDoor

theorem wmq {P:Program} {md:Md} {f:FuncId} {r:Rd} {df:List Deferred} {k:List Item} {cs:List Frame} {Stop:Goroutine→Heap→Prop} {ops rest:List Oper} {tm:List Value} {Φ Ψ:Heap→Prop} (x: ∀ h,Φ h→Ψ h)
    (n:RL P md f r df k cs Stop ops rest tm Ψ):RL P md f r df k cs Stop ops rest tm Φ:=fun pre e h y=>n pre e h (x h y)
theorem wfw {α:Type} {l:List α} {k:Nat} {d:α} (h:k<l.length):l.getD k d∈l:=by
  rw [List.getD_eq_getElem?_getD,List.getElem?_eq_getElem h]
  exact List.getElem_mem h
section
variable {h h₀:Heap} {B₀:List Nat} {p:PHeap} {A C X:Pcs} {b:Nat} {l:By}
theorem yvw (B:Bld b l X) (s₀:St h₀ B₀ p h (A++(X++C))) (hl:l.length+4096≤2 ^ 30) (c:UInt8):
    CallsX Tryz.prog .lone 65 #[selfP b,.int .u8 ((c.toNat:Nat):Int)] h fun r h'=>r= .nilIface∧ ∃ X',Bld b (l++[c]) X'∧St h₀ B₀ p h' (A++(X'++C)):=by
  obtain ⟨a,v,Y,rfl,ha,hO⟩:=B
  have s1:St h₀ B₀ p h ((b,.cells #[a,v] 108 (0,0))::(Y++(A++C))):=s₀.perm (by
    have:=List.perm_append_comm_assoc A ((b,Obj.cells #[a,v] 108 (0,0))::Y) C
    simpa using this)
  refine (c65 h h₀ B₀ p b a v l Y (A++C) ha hO c hl (by simpa using s1)).mono ?_
  rintro r h' ⟨v',Y',rfl,o',s'⟩
  refine ⟨rfl,_,⟨selfP b,v',Y',rfl,.inr rfl,o'⟩,s'.perm ?_⟩
  have:=(List.perm_append_comm_assoc A ((b,Obj.cells #[selfP b,v'] 108 (0,0))::Y') C).symm
  simpa using this
theorem wpq (B:Bld b l X) (s₀:St h₀ B₀ p h (A++(X++C))) (hl:l.length+4096≤2 ^ 30) (m:By) (hm:m.length≤4096):
    CallsX Tryz.prog .lone 92 #[selfP b,sv m] h fun r h'=>r= .tuple #[.int .i64 ((m.length:Nat):Int),.nilIface]∧ ∃ X',Bld b (l++m) X'∧St h₀ B₀ p h' (A++(X'++C)):=by
  obtain ⟨a,v,Y,rfl,ha,hO⟩:=B
  have s1:St h₀ B₀ p h ((b,.cells #[a,v] 108 (0,0))::(Y++(A++C))):=s₀.perm (by
    have:=List.perm_append_comm_assoc A ((b,Obj.cells #[a,v] 108 (0,0))::Y) C
    simpa using this)
  refine (c92 h h₀ B₀ p b a v l Y (A++C) ha hO m hl hm (by simpa using s1)).mono ?_
  rintro r h' ⟨v',Y',rfl,o',s'⟩
  refine ⟨rfl,_,⟨selfP b,v',Y',rfl,.inr rfl,o'⟩,s'.perm ?_⟩
  have:=(List.perm_append_comm_assoc A ((b,Obj.cells #[selfP b,v'] 108 (0,0))::Y') C).symm
  simpa using this
def wholeB:List By→By
  | []=>[]
  | t::ts=>t++10::wholeB ts
theorem ykq: ∀ (ts:List By) (t:By),wholeB (ts++[t])=wholeB ts++(t++[10])
  | [],t=>by simp [wholeB]
  | x::ts,t=>by simp [wholeB,ykq ts t]
theorem zdq {ts:List By} {k:Nat} (hk:k<ts.length):wholeB (ts.take (k+1))=wholeB (ts.take k)++ts.getD k []++[10]:=by
  rw [List.take_add_one,List.getElem?_eq_getElem hk,List.getD_eq_getElem?_getD,List.getElem?_eq_getElem hk]
  show wholeB (ts.take k++[ts[k]])=_
  rw [ykq,List.append_assoc]
  rfl
theorem yow {ts:List By} {m:Nat} (h: ∀ t∈ts,t.length≤m):(wholeB ts).length≤ts.length*(m+1):=by
  induction ts with
  | nil=>simp [wholeB]
  | cons t ts ih=>
    have h1:=h t (by simp)
    have h2:=ih fun x hx=>h x (by simp [hx])
    simp only [wholeB,List.length_append,List.length_cons]
    rw [Nat.add_mul]
    omega
end
end Go.X.Cent
namespace Go.X.Cent
open Go.X Go.Proofs Go.Proofs.YtphalmjpbnffcaaGreatDoor

def pieB (x:Pie):By:=two x.1++(if x.2= -1 then [] else if x.2=10 then [126] else [UInt8.ofNat x.2.toNat])
def filP (l:List Pie):By:=l.flatMap pieB
def fileB (ts:List By):By:=sealB (filP (encS [[]] (wholeB ts)))
theorem ymv (l:List Pie) (x:Pie):filP (l++[x])=filP l++pieB x:=by simp [filP]
theorem yux {l:List Pie} {x:Pie} (h:x.2= -1):filP l++[UInt8.ofNat (65+x.1 / 26).toNat]++[UInt8.ofNat (65+x.1 % 26).toNat]=filP (l++[x]):=by
  rw [ymv,pieB,if_pos h];simp [two]
theorem yuz {l:List Pie} {x:Pie} (h:x.2=10):filP l++[UInt8.ofNat (65+x.1 / 26).toNat]++[UInt8.ofNat (65+x.1 % 26).toNat]++[126]=filP (l++[x]):=by
  rw [ymv,pieB,if_neg (by omega),if_pos h];simp [two]
theorem yuj {l:List Pie} {x:Pie} (h1: ¬ x.2= -1) (h2: ¬ x.2=10):filP l++[UInt8.ofNat (65+x.1 / 26).toNat]++[UInt8.ofNat (65+x.1 % 26).toNat]++[UInt8.ofNat x.2.toNat]=filP (l++[x]):=by
  rw [ymv,pieB,if_neg h1,if_neg h2];simp [two]
theorem wej (x:Pie):(pieB x).length≤3:=by
  unfold pieB two
  split
  · simp
  · split <;> simp
theorem yik: ∀ l:List Pie,(filP l).length≤3*l.length
  | []=>by simp [filP]
  | x::l=>by
    have h1:=wej x
    have h2:=yik l
    simp only [filP,List.flatMap_cons,List.length_append,List.length_cons] at h2 ⊢
    omega
theorem Bld.as {b:Nat} {l m:By} {X:Pcs} (B:Bld b l X) (e:l=m):Bld b m X:=e ▸ B
theorem zzv: ∀ {f:Nat} {ph:List By} {s:By} {x:Pie},x∈enc f ph s→0≤x.1∧x.1≤((ph.length+f:Nat):Int)∧ -1≤x.2∧x.2≤255
  | 0,_,_,x,h=>by simp [enc] at h
  | f+1,ph,s,x,h=>by
    unfold enc at h
    split at h
    · simp at h
    · split at h
      · rcases List.mem_cons.1 h with rfl | h
        · have:=List.idxOf_le_length (l:=ph) (a:=s.take (lp ph s))
          have hb:=(s.getD (lp ph s) 0).toNat_lt
          simp only
          omega
        · have:=zzv h
          simp only [List.length_append,List.length_singleton] at this
          omega
      · obtain rfl:=List.mem_singleton.1 h
        have:=List.idxOf_le_length (l:=ph) (a:=s)
        simp only
        omega
theorem zmq {s:By} {x:Pie} (h:x∈encS [[]] s):0≤x.1∧x.1≤((1+s.length:Nat):Int)∧ -1≤x.2∧x.2≤255:=zzv h
theorem wmk {α:Type} {a b:List α} {x:α} (h:a++[x] <+: b):x∈b:=h.subset (by simp)
theorem ynw {h h₀:Heap} {B₀:List Nat} {p:PHeap} {A C X:Pcs} {b:Nat} {l:By} (B:Bld b l X) (s₀:St h₀ B₀ p h (A++(X++C))) (hl:l.length+4096≤2 ^ 30) (z:Int) (h0:0≤z) (h1:z≤255):
    CallsX Tryz.prog .lone 65 #[selfP b,.int .u8 z] h fun r h'=>r= .nilIface∧ ∃ X',Bld b (l++[UInt8.ofNat z.toNat]) X'∧St h₀ B₀ p h' (A++(X'++C)):=by
  have e:(((UInt8.ofNat z.toNat).toNat:Nat):Int)=z:=by
    rw [UInt8.toNat_ofNat_of_lt' (show z.toNat<256 by omega)];omega
  have:=yvw B s₀ hl (UInt8.ofNat z.toNat)
  rwa [e] at this
theorem xtv {ts:List By} (h:chkT ts=0):ts.length≤20∧ ∀ t∈ts,isText t:=by
  unfold chkT at h
  by_cases c:20<ts.length
  · rw [if_pos c] at h;cases h
  rw [if_neg c] at h
  by_cases d:0≤idxT badT ts
  · rw [if_pos d] at h;cases h
  refine ⟨by omega,fun t ht=>?_⟩
  by_cases e:isText t
  · exact e
  · exact absurd (ytj.2 ⟨t,ht,by unfold badT;rw [decide_eq_false e];rfl⟩) d
theorem yjw {ts:List By} (h:ts.length≤20) (h2: ∀ t∈ts,t.length≤40):(wholeB ts).length≤820:=by
  have:=yow h2
  have:=Nat.mul_le_mul_right 41 h
  omega
end Go.X.Cent
namespace Go.X.Cent
open Go.X Go.Proofs

def trim1 (t:By):By:=Lib.trimSuffix t [10]
def trimTo (k:Nat) (ts:List By):List By:=(ts.take k).map trim1++ts.drop k
def linesB (all:By):List By:=((cutAfter 10 all).take ((cutAfter 10 all).length-1)).map trim1
def readB (s:By):Int × List By:=
  match formB s with
  | none=>(140,[])
  | some l=>if sealB (s.take (s.length-5))≠s then (141,[]) else
    match rdTo [] l with
    | none=>(142,[])
    | some e=>if chkT (linesB e.flatten)≠0∨fileB (linesB e.flatten)≠s then (142,[]) else (0,linesB e.flatten)
theorem yex (k:Nat) (ts:List By):(trimTo k ts).length=ts.length:=by
  simp only [trimTo,List.length_append,List.length_map,List.length_take,List.length_drop];omega
theorem zrj {k:Nat} {ts:List By} (h:k<ts.length):(trimTo k ts).getD k []=ts.getD k []:=by
  rw [trimTo,List.getD_eq_getElem?_getD,List.getElem?_append_right (by simp only [List.length_map,List.length_take];omega)]
  simp only [List.length_map,List.length_take,Nat.min_eq_left (Nat.le_of_lt h),Nat.sub_self,List.getElem?_drop,Nat.add_zero,List.getD_eq_getElem?_getD]
theorem zdz (ts:List By):trimTo 0 ts=ts:=by simp [trimTo]
theorem zoz {k:Nat} {ts:List By} (h:ts.length≤k):trimTo k ts=ts.map trim1:=by
  rw [trimTo,List.take_of_length_le h,List.drop_of_length_le h,List.append_nil]
theorem zox {k:Nat} {ts:List By} (h:k<ts.length):(scs (trimTo k ts)).set k ([sv (ts.getD k [])].set 0 (sv (trim1 (ts.getD k []))))=scs (trimTo (k+1) ts):=by
  have e:[sv (ts.getD k [])].set 0 (sv (trim1 (ts.getD k [])))=[sv (trim1 (ts.getD k []))]:=rfl
  rw [e,scs,scs,← List.map_set,trimTo,trimTo,List.set_append_right _ _ (by simp only [List.length_map,List.length_take];omega)]
  congr 1
  simp only [List.length_map,List.length_take,Nat.min_eq_left (Nat.le_of_lt h),Nat.sub_self]
  rw [List.drop_eq_getElem_cons h,List.set_cons_zero,List.take_add_one,List.getElem?_eq_getElem h,List.map_append,List.append_assoc,List.getD_eq_getElem?_getD,List.getElem?_eq_getElem h]
  rfl
theorem zmz (l:By):1≤(cutAfter 10 l).length∧(cutAfter 10 l).length≤l.length+1:=by
  rw [xtk]
  have:l.count 10≤l.length:=List.count_le_length
  omega
theorem xyv: ∀ {l t:By},t∈cutAfter 10 l→t.length≤l.length
  | [],t,h=>by simp [cutAfter] at h;subst h;simp
  | b::l,t,h=>by
    unfold cutAfter at h
    split at h
    · rcases List.mem_cons.1 h with rfl | h
      · simp
      · have:=xyv h;simp only [List.length_cons];omega
    · split at h
      · rename_i e;exact absurd e (ynz _ _)
      · rename_i x r e
        rcases List.mem_cons.1 h with rfl | h
        · have:=xyv (l:=l) (t:=x) (by rw [e];simp)
          simp only [List.length_cons];omega
        · have:=xyv (l:=l) (t:=t) (by rw [e];simp [h])
          simp only [List.length_cons];omega
theorem zrk (t:By):(trim1 t).length≤t.length:=by
  unfold trim1 Lib.trimSuffix
  split
  · rw [List.length_take];omega
  · exact Nat.le_refl _
theorem zwv {all t:By} (h:t∈linesB all):t.length≤all.length:=by
  obtain ⟨u,hu,rfl⟩:=List.mem_map.1 h
  exact Nat.le_trans (zrk u) (xyv (List.mem_of_mem_take hu))
theorem zgq (all:By):(linesB all).length≤all.length:=by
  have:=zmz all
  rw [linesB,List.length_map,List.length_take];omega
theorem zix (l:List By) (k:Nat):(scs l).take k=scs (l.take k):=by rw [scs,scs,List.map_take]
theorem ztx {k:Nat} {ts:List By} (h:k<ts.length):(scs (trimTo k ts))[k]?=some [sv (ts.getD k [])]:=by
  rw [zij (by rw [yex];exact h),zrj h]
theorem zxw {s:By} (h:(formB s).isSome=false):formB s=none:=by
  cases e:formB s with
  | none=>rfl
  | some l=>rw [e] at h;cases h
theorem zbq {s:By} {l:List Pie} (h:formB s=some l):5≤s.length∧s.length≤1400:=by
  unfold formB at h
  split at h
  · cases h
  · rename_i c
    exact ⟨Nat.le_of_not_lt fun z=>c (.inr (.inl z)),Nat.le_of_not_lt fun z=>c (.inl z)⟩
theorem zvq {Q:Pie→Prop} (hq: ∀ s x r,pie1 s=some (x,r)→Q x): ∀ {f:Nat} {out:List Pie} {s:By} {l:List Pie},(∀ x∈out,Q x)→prs f out s=some l→(∀ x∈l,Q x)∧l.length≤out.length+f
  | 0,out,s,l,h,e=>by
    obtain rfl:=Option.some.inj e
    exact ⟨h,by omega⟩
  | f+1,out,s,l,h,e=>by
    unfold prs at e
    split at e
    · obtain rfl:=Option.some.inj e
      exact ⟨h,by omega⟩
    · split at e
      · cases e
      · rename_i x r e1
        have:=zvq hq (f:=f) (out:=out++[x]) (s:=r) (l:=l) (fun y hy=>by
          rcases List.mem_append.1 hy with z | z
          · exact h y z
          · rw [List.mem_singleton.1 z];exact hq _ _ _ e1) e
        rw [List.length_append,List.length_singleton] at this
        exact ⟨this.1,by omega⟩
theorem zjz: ∀ {f:Nat} {out:List Pie} {s:By} {l:List Pie},prs f out s=some l→2*l.length≤2*out.length+s.length
  | 0,out,s,l,e=>by
    obtain rfl:=Option.some.inj e
    omega
  | f+1,out,s,l,e=>by
    unfold prs at e
    split at e
    · obtain rfl:=Option.some.inj e
      omega
    · split at e
      · cases e
      · rename_i x r e1
        have:=zjz (f:=f) e
        have h2:r.length+2≤s.length:=by
          unfold pie1 at e1
          split at e1
          · cases e1
          rename_i h0
          have: ¬ s.length<2:=fun z=>h0 (.inl z)
          split at e1
          · cases e1;rw [List.length_drop];omega
          split at e1
          · cases e1;rw [List.length_drop,List.length_drop];omega
          split at e1
          · cases e1
          · cases e1;rw [List.length_drop,List.length_drop];omega
        rw [List.length_append,List.length_singleton] at this
        omega
theorem wmw {s:By} {x:Pie} {r:By} (h:pie1 s=some (x,r)):0≤x.1∧x.1≤675∧ -1≤x.2∧x.2≤125:=by
  unfold pie1 at h
  split at h
  · cases h
  rename_i h0
  have h1:isL (s.getD 0 0):=Decidable.not_not.1 fun z=>h0 (.inr (.inl z))
  have h2:isL (s.getD 1 0):=Decidable.not_not.1 fun z=>h0 (.inr (.inr z))
  obtain ⟨a1,a2⟩:=h1
  obtain ⟨b1,b2⟩:=h2
  have hp:0≤phN s∧phN s≤675:=by unfold phN;omega
  split at h
  · cases h;exact ⟨hp.1,hp.2,by omega,by omega⟩
  split at h
  · cases h;exact ⟨hp.1,hp.2,by omega,by omega⟩
  split at h
  · cases h
  · rename_i h3
    cases h;exact ⟨hp.1,hp.2,by omega,by omega⟩
theorem zxv (s:By):((formB s).getD []).length≤700∧ ∀ x∈(formB s).getD [],0≤x.1∧x.1≤675∧ -1≤x.2∧x.2≤125:=by
  cases e:formB s with
  | none=>simp
  | some l=>
    have h5:=zbq e
    unfold formB at e
    split at e
    · cases e
    split at e
    · cases e
    · have h1:=zvq (Q:=fun x=>0≤x.1∧x.1≤675∧ -1≤x.2∧x.2≤125) (fun _ _ _=>wmw) (by simp) e
      have h2:=zjz e
      rw [List.length_take] at h2
      exact ⟨by show l.length≤700;simp only [List.length_nil] at h2;omega,h1.1⟩
theorem wgx (s:By): ∀ x∈(formB s).getD [],0≤x.1∧ -1≤x.2∧x.2≤255:=fun x hx=>by have:=(zxv s).2 x hx;omega
theorem zuk: ∀ {l:List Pie} {e r:List By},rdTo e l=some r→(∀ t∈e,t.length≤e.length)→(∀ t∈r,t.length≤r.length)∧r.length=e.length+l.length
  | [],e,r,h,hm=>by
    obtain rfl:=Option.some.inj h
    exact ⟨hm,by simp⟩
  | x::l,e,r,h,hm=>by
    unfold rdTo at h
    split at h
    · cases h
    · rename_i t ht
      have h1:t.length≤e.length+1:=by
        unfold rd1 at ht
        split at ht
        · cases ht
        split at ht
        · cases ht
        · obtain rfl:=Option.some.inj ht
          have:=wik (i:=x.1.toNat) hm
          unfold pT
          rw [List.length_append]
          split
          · simp only [List.length_nil];omega
          · simp only [List.length_singleton];omega
      have:=zuk h (by rw [List.length_append,List.length_singleton];exact ywj hm h1)
      rw [List.length_append,List.length_singleton] at this
      exact ⟨this.1,by rw [this.2,List.length_cons];omega⟩
theorem zyx {m:Nat}: ∀ {r:List By},(∀ t∈r,t.length≤m)→r.flatten.length≤r.length*m
  | [],_=>by simp
  | t::r,h=>by
    have h1:=h t (by simp)
    have h2:=zyx (r:=r) fun x hx=>h x (by simp [hx])
    rw [List.flatten_cons,List.length_append,List.length_cons,Nat.add_mul]
    omega
theorem wmx {l:List Pie} {r:List By} (h:rdTo [] l=some r) (hl:l.length≤1000):r.flatten.length≤1000000:=by
  have:=zuk h (by simp)
  simp only [List.length_nil,Nat.zero_add] at this
  have h1:=zyx (r:=r) (m:=1000) fun t ht=>by have:=this.1 t ht;omega
  have h2:=Nat.mul_le_mul_right 1000 (show r.length≤1000 by omega)
  omega
end Go.X.Cent
namespace Go.X.Cent
open Go.X

def errT (ts:List By):Prop:=chkT ts≠0
instance (ts:List By):Decidable (errT ts):=inferInstanceAs (Decidable (_≠_))
def writeB (ts:List By):By × Int:=if chkT ts≠0 then ([],chkT ts) else (fileB ts,0)
def pcB (ts:List By):List By:=if chkT ts≠0 then [] else (rdTo [] (encS [[]] (wholeB ts))).getD []
def savesB (ts:List By):Int × Int:=if chkT ts≠0 then (0,chkT ts) else ((((wholeB ts).length:Nat):Int)-(((fileB ts).length:Nat):Int),0)
def badN (l:List Pie) (n:Int):Prop:=n<0∨((l.length:Nat):Int)<n∨0<n∧(l.getD (n-1).toNat pz).2= -1
instance (l:List Pie) (n:Int):Decidable (badN l n):=inferInstanceAs (Decidable (_∨_))
def cntN (l:List Pie) (n:Int):Nat:=l.countP fun x=>decide (x.1=n)
def usesB (ts:List By) (n:Int):Int × Int:=
  if chkT ts≠0 then (0,chkT ts) else if badN (encS [[]] (wholeB ts)) n then (0,1) else (((cntN (encS [[]] (wholeB ts)) n:Nat):Int),0)
def longB (l:List By):Nat:=l.foldl (fun n t=>max n t.length) 0
def sumB (s:By):Int × Int:=if 1400<s.length then (0,1) else (((total s % 9973:Nat):Int),0)
def parseB (s:By):Int:=if (formB s).isSome then 0 else 140
def stateB (s:By):Int:=if (readB s).1=0 then 1 else if (readB s).1=140 then 2 else if (readB s).1=141 then 3 else 4
def addB (s t:By):By × Int:=if (readB s).1≠0 then ([],(readB s).1) else writeB ((readB s).2++[t])
theorem wfv {ts:List By} (h: ¬ chkT ts≠0):(∀ t∈ts,t.length≤40)∧(∀ t∈ts,t.length≤200)∧(wholeB ts).length≤820∧ts.length≤20∧(encS [[]] (wholeB ts)).length≤820∧ ∀ x∈encS [[]] (wholeB ts),0≤x.1∧ -1≤x.2∧x.2≤255:=by
  have g:=xtv (Decidable.not_not.1 h)
  have h40: ∀ t∈ts,t.length≤40:=fun t z=>(g.2 t z).1
  have hw:=yjw g.1 h40
  exact ⟨h40,fun t z=>by have:=h40 t z;omega,hw,g.1,Nat.le_trans yvq hw,fun x hx=>by have:=zmq hx;omega⟩
theorem ycv (l:By):(sealB l).length=l.length+5:=by simp [sealB,four]
theorem zuj {s:By} (h:(readB s).1=0):(readB s).2.length≤20∧ ∀ t∈(readB s).2,isText t:=by
  unfold readB at h ⊢
  split at h
  · cases h
  rename_i l hl
  split at h
  · cases h
  rename_i h1
  split at h
  · cases h
  rename_i e he
  split at h
  · cases h
  · rename_i h2
    rw [if_neg h1,if_neg h2]
    exact xtv (Decidable.not_not.1 fun z=>h2 (.inl z))
theorem zuz {l:List By} {t:By} (h:l.length≤20∧ ∀ t∈l,isText t) (ht:t.length≤2 ^ 60): ∀ i,i<(l++[t]).length→((l++[t]).getD i []).length≤2 ^ 60:=fun i hi=>by
  rcases List.mem_append.1 (gmem (d:=[]) hi) with z | z
  · have:=(h.2 _ z).1;omega
  · rw [List.mem_singleton.1 z];exact ht
end Go.X.Cent
namespace Go.Proofs.YtphalmjpbnffcaaGreatDoor
open Go.X Go.X.Cent Go.Conc
set_option maxRecDepth 10000

theorem c8 (md:Md) (h:Heap) (n lo hi:Int):CallsX Tryz.prog md 8 #[.int .i64 (n),.int .i64 (lo),.int .i64 (hi)] h fun v h'=>v= .bool (decide (lo≤n∧n≤hi))∧Keep h h':=by
  refine xbv (Φ:=fun h_=>St h [] (fun _=>none) h_ []) Tryz.func8 rfl (tm:=[_,_,_,_,_,_,_,_,_,_,_,_,_,_,_]) rfl ?_ (St.start h _ (fun _ _ e=>by cases e))
  intro c₀ cs Stop K
  refine xbj ?_
  refine xav ?_
  refine xaj (xaz rfl) (fun h_ H_=>xaq (v:=.bool (false)) rfl) rfl ?_
  refine xak ?_
  refine xbj ?_
  refine xav ?_
  refine xaj (xaz rfl) (fun h_ H_=>xax (v:=.int .i64 (lo)) rfl) rfl ?_
  refine xaj (xaz rfl) (fun h_ H_=>xax (v:=.int .i64 (n)) rfl) (tm':=_::_::_::_::_::_::_::_::_::_) rfl ?_
  refine xaj (xaz rfl) (fun h_ H_=>xyk rfl rfl) rfl ?_
  refine xaj (xaz rfl) (fun h_ H_=>xax (v:=.bool (decide (lo≤n))) rfl) rfl ?_
  by_cases cc1:lo≤n
  · refine xaj (xhz rfl rfl (decide_eq_true cc1)) (fun h_ H_=>xax (v:=.int .i64 (n)) rfl) (tm':=[_,_,_,_,_,_,_,_,_,_,_,_,_,_,_]) rfl ?_
    refine xaj (xhz rfl rfl (decide_eq_true cc1)) (fun h_ H_=>xax (v:=.int .i64 (hi)) rfl) rfl ?_
    refine xaj (xhz rfl rfl (decide_eq_true cc1)) (fun h_ H_=>xyk rfl rfl) rfl ?_
    refine xaj (xaz rfl) (fun h_ H_=>xbw rfl (decide_eq_true cc1) (v:=.bool (decide (n≤hi))) rfl) (tm':=[_,_,_,_,_,_,_,_,_,_,_,_,_,_,_]) rfl ?_
    refine xaj (xaz rfl) (fun h_ H_=>xaq (v:=.bool (decide (n≤hi))) rfl) rfl ?_
    refine xak ?_
    refine xcj Tryz.func8 rfl (vs:=[.bool (decide (n≤hi))]) (fun h_ H_=>⟨.bool (decide (n≤hi)),_,rfl,rfl,rfl⟩) (v:=.bool (decide (n≤hi))) rfl ?_
    exact fun h_ H_=>K _ _ ⟨by simp [*],H_.kept⟩
  · refine xck (xhx rfl rfl (decide_eq_false cc1)) rfl ?_
    refine xck (xhx rfl rfl (decide_eq_false cc1)) (tm':=[_,_,_,_,_,_,_,_,_,_,_,_,_,_,_]) rfl ?_
    refine xck (xhx rfl rfl (decide_eq_false cc1)) rfl ?_
    refine xaj (xaz rfl) (fun h_ H_=>xdq rfl (decide_eq_false cc1) (v:=.bool (false)) rfl) rfl ?_
    refine xaj (xaz rfl) (fun h_ H_=>xaq (v:=.bool (false)) rfl) (tm':=_::_::_::_::_::_::_::_) rfl ?_
    refine xak ?_
    refine xcj Tryz.func8 rfl (vs:=[.bool (false)]) (fun h_ H_=>⟨.bool (false),_,rfl,rfl,rfl⟩) (v:=.bool (false)) rfl ?_
    exact fun h_ H_=>K _ _ ⟨by simp [*],H_.kept⟩
theorem c67 (md:Md) (h:Heap) (c:Int):CallsX Tryz.prog md 67 #[.int .u8 (c)] h fun v h'=>v= .bool (decide (65≤c∧c≤90))∧Keep h h':=by
  refine xbv (Φ:=fun h_=>St h [] (fun _=>none) h_ []) Tryz.func67 rfl (tm:=[_,_,_,_,_,_,_,_,_]) rfl ?_ (St.start h _ (fun _ _ e=>by cases e))
  intro c₀ cs Stop K
  refine xbj ?_
  refine xav ?_
  refine xaj (xaz rfl) (fun h_ H_=>xaq (v:=.bool (false)) rfl) rfl ?_
  refine xak ?_
  refine xbj ?_
  refine xav ?_
  refine xaj (xaz rfl) (fun h_ H_=>xax (v:=.int .u8 (c)) rfl) rfl ?_
  refine xaj (xaz rfl) (fun h_ H_=>xuq rfl rfl) (tm':=_::_::_::_::_::_) rfl ?_
  refine xaj (xaz rfl) (fun h_ H_=>xax (v:=.bool (decide (65≤c))) rfl) rfl ?_
  by_cases cc1:65≤c
  · refine xaj (xhz rfl rfl (decide_eq_true cc1)) (fun h_ H_=>xax (v:=.int .u8 (c)) rfl) rfl ?_
    refine xaj (xhz rfl rfl (decide_eq_true cc1)) (fun h_ H_=>xyk rfl rfl) (tm':=[_,_,_,_,_,_,_,_,_]) rfl ?_
    refine xaj (xaz rfl) (fun h_ H_=>xbw rfl (decide_eq_true cc1) (v:=.bool (decide (c≤90))) rfl) rfl ?_
    refine xaj (xaz rfl) (fun h_ H_=>xaq (v:=.bool (decide (c≤90))) rfl) rfl ?_
    refine xak ?_
    refine xcj Tryz.func67 rfl (vs:=[.bool (decide (c≤90))]) (fun h_ H_=>⟨.bool (decide (c≤90)),_,rfl,rfl,rfl⟩) (v:=.bool (decide (c≤90))) rfl ?_
    exact fun h_ H_=>K _ _ ⟨by simp [*],H_.kept⟩
  · refine xck (xhx rfl rfl (decide_eq_false cc1)) (tm':=[_,_,_,_,_,_,_,_,_]) rfl ?_
    refine xck (xhx rfl rfl (decide_eq_false cc1)) rfl ?_
    refine xaj (xaz rfl) (fun h_ H_=>xdq rfl (decide_eq_false cc1) (v:=.bool (false)) rfl) rfl ?_
    refine xaj (xaz rfl) (fun h_ H_=>xaq (v:=.bool (false)) rfl) (tm':=_::_::_::_) rfl ?_
    refine xak ?_
    refine xcj Tryz.func67 rfl (vs:=[.bool (false)]) (fun h_ H_=>⟨.bool (false),_,rfl,rfl,rfl⟩) (v:=.bool (false)) rfl ?_
    exact fun h_ H_=>K _ _ ⟨by simp [*],H_.kept⟩
theorem c69 (md:Md) (h:Heap) (l:By) (hl:l.length≤4096):CallsX Tryz.prog md 69 #[sv l] h fun v h'=>v= .int .i64 ((total l % 9973:Nat):Int)∧Keep h h':=by
  refine xbv (Φ:=fun h_=>St h [] (fun _=>none) h_ []) Tryz.func69 rfl (tm:=[_,_,_,_,_,_,_,_,_,_,_,_,_,_,_,_,_,_,_,_,_,_]) rfl ?_ (St.start h _ (fun _ _ e=>by cases e))
  intro c₀ cs Stop K
  refine xbj ?_
  refine xav ?_
  refine xaj (xaz rfl) (fun h_ H_=>xaq (v:=.int .i64 0) rfl) rfl ?_
  refine xak ?_
  refine xbj ?_
  refine xav ?_
  refine xaj (xaz rfl) (fun h_ H_=>xaq (v:=.int .i64 0) rfl) rfl ?_
  refine xak ?_
  refine xbj ?_
  refine xbj ?_
  refine xav ?_
  refine xaj (xaz rfl) (fun h_ H_=>xax (v:=sv l) rfl) (tm':=_::_::_::_::_::_::_) rfl ?_
  refine xaj (xaz rfl) (fun h_ H_=>xkz (l:=l) Tryz.underlying9 rfl) rfl ?_
  refine xaj (xaz rfl) (fun h_ H_=>xax (v:=.int .i64 0) rfl) rfl ?_
  refine xak ?_
  refine xeq ?_
  refine xhk (m₀:=l.length-0) (fun m_ tm_ h_=>∃ (k:Nat),m_=l.length-k∧(∃ y1:Nat→Value,tm_=[sv l,undef,.int .i64 0,.int .i64 (((wsumTo l k:Nat):Int)),(y1 4),sv l,.int .i64 (((l.length:Nat):Int)),.int .i64 (((k:Nat):Int)),(y1 8),(y1 9),(y1 10),(y1 11),(y1 12),(y1 13),(y1 14),(y1 15),(y1 16),(y1 17),(y1 18),(y1 19),undef,undef])∧(k≤l.length)∧St h [] (fun _=>none) h_ ([])) (fun h_ H_=>⟨0,rfl,(y_of rfl),Nat.zero_le _,H_⟩) ?_
  intro m_ tm_ IH2
  refine xhq fun k=>xdj fun hm_=>xdj fun ht_=>xdj fun hk=>?_
  subst hm_;obtain ⟨y1,ht_⟩:=ht_;subst ht_
  have hb:=zhx (l.getD k 0)
  have hs:=ywk l (k:=k) (by omega)
  have ht:k<l.length→(l.getD k 0).toNat*(k+1)≤1044480:=fun z=>zrw l (by omega)
  refine xbj ?_
  refine xav ?_
  refine xaj (xaz rfl) (fun h_ H_=>xfk rfl rfl) (tm':=_::_::_::_::_::_::_::_::_::_) rfl ?_
  refine xak ?_
  refine xbj ?_
  by_cases cc3:((k:Nat):Int)<((l.length:Nat):Int)
  · refine xcx rfl (decide_eq_true cc3) ?_
    refine xdz ?_
    refine xbj ?_
    refine xeq ?_
    refine xbj ?_
    refine xav ?_
    refine xaj (xaz rfl) (fun h_ H_=>xax (v:=.int .i64 (((k:Nat):Int))) rfl) rfl ?_
    refine xaj (xaz rfl) (fun h_ H_=>xaq (v:=.int .i64 (((k:Nat):Int))) rfl) rfl ?_
    refine xak ?_
    refine xav ?_
    refine xaj (xaz rfl) (fun h_ H_=>xax (v:=.int .i64 (((wsumTo l k:Nat):Int))) rfl) (tm':=_::_::_::_::_::_::_::_::_::_::_::_) rfl ?_
    refine xaj (xaz rfl) (fun h_ H_=>xax (v:=sv l) rfl) rfl ?_
    refine xaj (xaz rfl) (fun h_ H_=>xax (v:=.int .i64 (((k:Nat):Int))) rfl) rfl ?_
    refine xaj (xaz rfl) (fun h_ H_=>xiq (l:=l) (i:=k) Tryz.underlying9 rfl rfl (by omega)) (tm':=_::_::_::_::_::_::_::_::_::_::_::_::_::_::_) rfl ?_
    refine xaj (xaz rfl) (fun h_ H_=>xoz ⟨_,Tryz.underlying5⟩ Tryz.underlying3 rfl (n:=(((l.getD k 0).toNat:Nat):Int)) (wrB _)) rfl ?_
    refine xaj (xaz rfl) (fun h_ H_=>xax (v:=.int .i64 (((k:Nat):Int))) rfl) rfl ?_
    refine xaj (xaz rfl) (fun h_ H_=>xev rfl rfl (n:=((k+1:Nat):Int)) (wr (by omega))) (tm':=[_,_,_,_,_,_,_,_,_,_,_,_,_,_,_,_,_,_,_,_,_,_]) rfl ?_
    refine xaj (xaz rfl) (fun h_ H_=>xwk rfl rfl (wr (by omega))) rfl ?_
    refine xaj (xaz rfl) (fun h_ H_=>xev rfl rfl (wr (by omega))) rfl ?_
    refine xaj (xaz rfl) (fun h_ H_=>xaq (v:=.int .i64 (((wsumTo l k:Nat):Int)+((((l.getD k 0).toNat:Nat):Int)*((k+1:Nat):Int)))) rfl) (tm':=_::_::_::_::_) rfl ?_
    refine xak ?_
    refine xex ?_
    refine xav ?_
    refine xaj (xaz rfl) (fun h_ H_=>xev rfl rfl (n:=((k+1:Nat):Int)) (wr (by omega))) rfl ?_
    refine xaj (xaz rfl) (fun h_ H_=>xax (v:=.int .i64 (((k+1:Nat):Int))) rfl) rfl ?_
    refine xak ?_
    exact fun h_ H_=>IH2 _ _ (by omega) h_ ⟨k+1,rfl,(y_of rfl),(by omega),H_⟩
  · refine xcv rfl (decide_eq_false cc3) ?_
    refine xgk rfl ?_
    refine xbj ?_
    refine xav ?_
    refine xaj (xaz rfl) (fun h_ H_=>xax (v:=.int .i64 (((wsumTo l k:Nat):Int))) rfl) (tm':=[_,_,_,_,_,_,_,_,_,_,_,_,_,_,_,_,_,_,_,_,_,_]) rfl ?_
    refine xaj (xaz rfl) (fun h_ H_=>zzx rfl rfl (by decide) (n:=((wsumTo l k:Nat):Int) % 9973) (Int.tmod_eq_emod_of_nonneg (by omega))) rfl ?_
    refine xaj (xaz rfl) (fun h_ H_=>xaq (v:=.int .i64 (((wsumTo l k:Nat):Int) % 9973)) rfl) rfl ?_
    refine xak ?_
    refine xcj Tryz.func69 rfl (vs:=[.int .i64 (((wsumTo l k:Nat):Int) % 9973)]) (fun h_ H_=>⟨.int .i64 (((wsumTo l k:Nat):Int) % 9973),_,rfl,rfl,rfl⟩) (v:=.int .i64 (((wsumTo l k:Nat):Int) % 9973)) rfl ?_
    exact fun h_ H_=>K _ _ ⟨(by cases (show k=l.length from (by omega));rfl),H_.kept⟩
end Go.Proofs.YtphalmjpbnffcaaGreatDoor
namespace Go.Proofs.YtphalmjpbnffcaaGreatDoor
open Go.X Go.X.Cent Go.Conc
set_option maxRecDepth 10000

end Go.Proofs.YtphalmjpbnffcaaGreatDoor
namespace Go.X
open Go.Conc
section
variable {P:Program} {md:Md} {ops:List Oper} {tm:List Value} {h₀:Heap} {B₀:List Nat} {p:PHeap} {A:Pcs} {ty:TypeId} {pos:String} {aft:Array Edge} {gd:Option (Nat × Bool)}
theorem zwq {T T':TypeId} {x y:Operand} {b off nsz:Nat} {cs' cs2:List Value} {v:Value} {q:Value→Pcs→Prop} (hm:Met ops tm ⟨none,.store T x y,ty,pos,aft,gd⟩ true) (hs:sizeT P T=some nsz)
    (hx:evl tm x= .pointer (some ⟨b,off,none⟩)) (hy:evl tm y=v) (hv:v.cells.size=nsz) (h1:v.cells.toList.all isOne=true) (hlen:off+v.cells.size≤cs'.length) (h2:setl cs' off v.cells.toList=cs2)
    (hq:q undef [(b,.cells cs2.toArray T' (0,0))]):Mix P md ops tm h₀ B₀ p A ([(b,.cells cs'.toArray T' (0,0))]++[]) q ⟨none,.store T x y,ty,pos,aft,gd⟩:=
  .inl ⟨hm,fun C h s=>.inl (by
    unfold Exv
    simp only [execOp,hx,hy]
    refine xbq ?_
    unfold Instr.storeAt
    refine xbq (xbz ?_)
    unfold storeVar
    refine xbq (xik hs ?_)
    rw [if_neg (by simpa using hv)]
    refine xmv (i:=0) s rfl (by simpa using hlen) (fun u hu=>List.all_eq_true.1 h1 u hu) fun h' s'=>?_
    refine xbz ⟨undef,.inr ⟨rfl,rfl⟩,_,hq,?_⟩
    rw [Nat.add_zero,h2] at s'
    exact s')⟩
end
end Go.X
namespace Go.X
open Go.Conc

def Qr (anc:Nat→List Nat) (Q:Nat→(Nat→Value)→(Nat→Pcs)→Value→Pcs→Prop) (val:Nat→Value) (piece:Nat→Pcs) (i:Nat):Value→Pcs→Prop:=
  Q i (fun j=>if (anc i).contains j=true then val j else undef) (fun j=>if (anc i).contains j=true then piece j else [])
theorem wix {anc:Nat→List Nat} {Q:Nat→(Nat→Value)→(Nat→Pcs)→Value→Pcs→Prop} {val val':Nat→Value} {piece piece':Nat→Pcs} {i:Nat} (h: ∀ y,(anc i).contains y=true→val y=val' y∧piece y=piece' y):
    Qr anc Q val piece i=Qr anc Q val' piece' i:=by
  unfold Qr
  have e1:(fun j=>if (anc i).contains j=true then val j else undef)=(fun j=>if (anc i).contains j=true then val' j else undef):=by
    funext j;split
    · rename_i hj;exact (h j hj).1
    · rfl
  have e2:(fun j=>if (anc i).contains j=true then piece j else [])=(fun j=>if (anc i).contains j=true then piece' j else []):=by
    funext j;split
    · rename_i hj;exact (h j hj).2
    · rfl
  rw [e1,e2]
def ancok (ops:List Oper) (m:Nat) (cl:List (List Nat)) (anc:Nat→List Nat):Bool:=
  ops.zipIdx.all fun (o,i)=>!decide (i<m) || (anc i).all fun j=>behind cl o j
theorem znz {ops:List Oper} {m:Nat} {cl:List (List Nat)} {anc:Nat→List Nat} (h:ancok ops m cl anc=true) {i j:Nat} {o:Oper} (hi:i<m) (ho:ops[i]?=some o) (hj:(anc i).contains j=true):behind cl o j=true:=by
  unfold ancok at h
  rw [List.all_eq_true] at h
  have:=h (o,i) (by rw [List.mem_zipIdx_iff_getElem?];exact ho)
  simp only [hi,decide_true,Bool.not_true,Bool.false_or,List.all_eq_true] at this
  exact this j (by simpa using hj)
theorem wbx {ops:List Oper} {m:Nat} {cl:List (List Nat)} (hs:stable ops m cl=true) {i j:Nat} {o:Oper} (ho:ops[i]?=some o) (h:behind cl o j=true):j<i:=by
  rcases (yfv).1 h with h | ⟨k,hk,h⟩
  · exact (xiz hs ho).1 j h
  · have h1:=(xiz hs ho).1 k hk
    obtain ⟨ok,hok⟩: ∃ ok,ops[k]?=some ok:=⟨_,List.getElem?_eq_getElem (Nat.lt_trans h1 (List.getElem?_eq_some_iff.1 ho).1)⟩
    exact Nat.lt_trans (yxw hs hok h).1 h1

def OpMix2 (P:Program) (md:Md) (ops:List Oper) (tmF:(Nat→Value)→List Value) (h₀:Heap) (B₀:List Nat) (p:PHeap) (A:Pcs) (ini:List Nat) (X:Nat→Pcs) (use:Nat→List Nat) (anc:Nat→List Nat) (Q:Nat→(Nat→Value)→(Nat→Pcs)→Value→Pcs→Prop) (i:Nat) (o:Oper):Prop:=
  ∀ val piece,(∀ j,(anc i).contains j=true→Qr anc Q val piece j (val j) (piece j))→(∀ j∈ini,piece j=X j)→
    (Met ops (tmF val) o true∧ ∀ C h,St h₀ B₀ p h ((use i).flatMap piece++(A++C))→
      Exv P (tmF val) o h (fun v h'=>∃ x,Qr anc Q val piece i v x∧St h₀ B₀ p h' (x++(A++C)))∨
      (∃ g args,(wpS P (execOp (evl (tmF val)) o) h fun n h'=>n= .enter g args∧h'=h)∧CallsX P md g args h (fun v h'=>∃ x,Qr anc Q val piece i v x∧St h₀ B₀ p h' (x++(A++C)))))∨
    (Met ops (tmF val) o false∧(use i).flatMap piece=[]∧Qr anc Q val piece i undef [])

section
variable {P:Program} {md:Md} {ops:List Oper} {m:Nat} {f:FuncId} {r:Rd} {df:List Deferred} {k:List Item} {cs:List Frame} {Stop:Goroutine→Heap→Prop} {tm:List Value}
  {h₀:Heap} {B₀:List Nat} {p:PHeap} {A C:Pcs} {ini:List Nat} {X:Nat→Pcs} {use:Nat→List Nat} {anc:Nat→List Nat} {Q:Nat→(Nat→Value)→(Nat→Pcs)→Value→Pcs→Prop} {tmF:(Nat→Value)→List Value}

theorem xqq {rid:Nat} (m:Nat) (cl:List (List Nat)) (ini fin emp:List Nat) (X:Nat→Pcs) (use:Nat→List Nat) (anc:Nat→List Nat) (Q:Nat→(Nat→Value)→(Nat→Pcs)→Value→Pcs→Prop) (tmF:(Nat→Value)→List Value)
    (hmix:P.follows .mixedOrders=true) (hst:stable ops m cl=true) (hm:m≤ops.length) (hk:mixok ops m ini use (fin++emp)=true) (hemp:emp.all (fun j=>decide (j<m))=true) (hanc:ancok ops m cl anc=true) (hemp2: ∀ val piece,Emp (Qr anc Q val piece) emp) (htm: ∀ val,fills ops val m tm=tmF val)
    (hdl:(ops.all fun o=>match o.dst with | some d=>decide (d<tm.length) | none=>true)=true)
    (st:Mixes (OpMix2 P md ops tmF h₀ B₀ p A ini X use anc Q) 0 (ops.take m))
    (n: ∀ val piece,(∀ j<m,Qr anc Q val piece j (val j) (piece j))→(∀ j∈ini,piece j=X j)→RL P md f r df k cs Stop ops (ops.drop m) (tmF val) (fun h=>St h₀ B₀ p h (fin.flatMap piece++(A++C)))):
    RS P md (G (FL f r tm df (.code (.region rid ops.toArray true)::k)) cs) (fun h=>St h₀ B₀ p h (ini.flatMap X++(A++C))) Stop:=by
  refine ytq fun t=>?_
  unfold Region.schedule
  rw [hmix]
  simp only [Bool.true_or,if_true]
  obtain ⟨s,e,hord⟩:=ylj hst hm t
  rw [e]
  obtain ⟨k1,k2,k3,k4,k5,k6⟩:=wfz hk
  have hops: ∀ {i:Nat} {o:Oper},i<m→ops[i]?=some o→noDefer o.op=true∧OpMix2 P md ops tmF h₀ B₀ p A ini X use anc Q i o:=fun {i o} hi ho=>by
    have:=Mixes.at (i:=i) st (by rw [List.getElem?_take,if_pos hi];exact ho)
    rw [Nat.zero_add] at this;exact this
  have hdist: ∀ (i j:Nat) (o o':Oper) (d:Nat),i<m→j<m→ops[i]?=some o→ops[j]?=some o'→o.dst=some d→o'.dst=some d→i=j:=fun i j o o' d hi hj ho ho' hd hd'=>
    (((xiz hst ho).2.2 hi).2 j o' d hj ho' hd').1.resolve_right fun hne=>hne hd
  have hdlt: ∀ {i:Nat} {o:Oper} {d:Nat},ops[i]?=some o→o.dst=some d→d<tm.length:=fun {i o d} ho hd=>by
    have:=List.all_eq_true.1 hdl o (List.mem_of_getElem? ho)
    simpa [hd] using this
  have main: ∀ (s:List Nat) (l:Array Bool) (tmc:List Value) (val:Nat→Value) (piece:Nat→Pcs) (ls:List Nat),Ord ops m l s→l.size=ops.length→tmc.length=tm.length→
      (∀ x,(∃ (j:Nat) (o:Oper),j<m∧l.getD j false=true∧ops[j]?=some o∧o.dst=some x)→tmc[x]?=(tmF val)[x]?)→
      (∀ x,(∀ (j:Nat) (o:Oper),j<m→l.getD j false=true→ops[j]?=some o→o.dst≠some x)→tmc[x]?=tm[x]?)→
      (∀ j<m,l.getD j false=true→Qr anc Q val piece j (val j) (piece j))→(∀ j∈ini,piece j=X j)→ls.Nodup→
      (∀ x,x∈ls↔(x∈ini∨(x<m∧l.getD x false=true))∧ ∀ k<m,l.getD k false=true→x ∉ use k)→
      (∀ k<m,l.getD k false=true→ ∀ x∈use k,x∈ini∨(x<m∧l.getD x false=true))→
      (∀ (k:Nat) (o:Oper),l.getD k false=true→ops[k]?=some o→ ∀ x∈preds o,l.getD x false=true)→
      RS P md (G (FL f r tmc df (.inRegion ops.toArray (s++List.range' m (ops.length-m))::k)) cs) (fun h=>St h₀ B₀ p h (ls.flatMap piece++(A++C))) Stop:=by
    intro s
    induction s with
    | nil=>
      intro l tmc val piece ls hord _ hl h1 h2 hQ hX hnd hls _ _
      cases hord with
      | nil hall=>
      have:tmc=tmF val:=by
        refine List.ext_getElem? fun x=>?_
        by_cases hx: ∃ (j:Nat) (o:Oper),j<m∧ops[j]?=some o∧o.dst=some x
        · obtain ⟨j,o,hj,ho,hd⟩:=hx
          exact h1 x ⟨j,o,hj,hall j hj,ho,hd⟩
        · rw [h2 x fun j o hj _ ho hd=>hx ⟨j,o,hj,ho,hd⟩,← htm,ymk]
          exact fun j o hj ho hd=>hx ⟨j,o,hj,ho,hd⟩
      subst this
      rw [List.nil_append]
      have hp:ls.Perm (fin++emp):=by
        refine (List.perm_ext_iff_of_nodup hnd k3).2 fun x=>?_
        rw [hls]
        constructor
        · rintro ⟨hx,hu⟩
          rcases k6 x (hx.elim .inr fun y=>.inl y.1) with y | ⟨k,hk,y⟩
          · exact y
          · exact absurd y (hu k hk (hall k hk))
        · intro hx
          obtain ⟨y,z⟩:=k5 x hx
          exact ⟨y.imp id fun y=>⟨y,hall x y⟩,fun k hk _=>z k hk⟩
      have:=n val piece (fun j hj=>hQ j hj (hall j hj)) hX (ops.take m) (List.take_append_drop m ops).symm
      rw [List.length_take,Nat.min_eq_left hm,List.length_drop] at this
      have he:emp.flatMap piece=[]:=(hemp2 val piece).flat fun j hj=>hQ j (by simpa using List.all_eq_true.1 hemp j hj) (hall j (by simpa using List.all_eq_true.1 hemp j hj))
      exact fun h y=>this h (y.perm (by
        have:=(hp.flatMap_right piece).append_right (A++C)
        rwa [List.flatMap_append,he,List.append_nil] at this))
    | cons i s ih=>
      intro l tmc val piece ls hord hsz hl h1 h2 hQ hX hnd hls hcl hpc
      cases hord with
      | @cons _ _ _ o hi ho hn hp hs=>
      have hil:=(List.getElem?_eq_some_iff.1 ho).1
      have hni:l.getD i false=false:=by rw [← ybw (by omega)];exact hn
      have hlooks:=((xiz hst ho).2.2 hi)
      have hag: ∀ x∈looks ops o,tmc[x]?=(tmF val)[x]?:=by
        intro x hx
        by_cases hw: ∃ (j:Nat) (o':Oper),j<m∧ops[j]?=some o'∧o'.dst=some x
        · obtain ⟨j,o',hj,ho',hd⟩:=hw
          have hpj:=(hlooks.2 j o' x hj ho' hd).2 hx
          exact h1 x ⟨j,o',hj,hp j hpj,ho',hd⟩
        · rw [h2 x fun j o' hj _ ho' hd=>hw ⟨j,o',hj,ho',hd⟩,← htm,ymk]
          exact fun j o hj ho hd=>hw ⟨j,o,hj,ho,hd⟩
      have hset: ∀ j,i≠j→(l.setIfInBounds i true).getD j false=l.getD j false:=fun j e=>getD_set_ne false e
      have hself:(l.setIfInBounds i true).getD i false=true:=by simp [Array.getD,hsz,hil]
      obtain ⟨u1,u2⟩:=k4 i o hi ho
      have husein: ∀ x∈use i,x∈ls:=fun x hx=>by
        rw [hls]
        obtain ⟨a,b⟩:=u2 x hx
        refine ⟨a.imp id fun a=>⟨a.1,hp x a.2⟩,fun k hk hd hxk=>?_⟩
        by_cases e:k=i
        · subst e;rw [hni] at hd;cases hd
        · exact b k hk e hxk
      obtain ⟨rest,hperm⟩:=zjk u1 husein
      have hnd2:=hperm.nodup_iff.1 hnd
      have hrest: ∀ x,x∈rest↔x∈ls∧x ∉ use i:=fun x=>by
        rw [hperm.mem_iff,List.mem_append]
        constructor
        · intro hx
          exact ⟨.inr hx,fun hu=>(List.nodup_append.1 hnd2).2.2 x hu x hx rfl⟩
        · rintro ⟨a | a,b⟩
          · exact absurd a b
          · exact a
      have hiini:i ∉ ini:=fun e=>by have:=k2 i e;omega
      have hils:i ∉ ls:=fun e=>by
        have:=((hls i).1 e).1
        rcases this with a | a
        · exact hiini a
        · rw [hni] at a;cases a.2
      have hanl: ∀ (j:Nat) (oj:Oper),j<m→ops[j]?=some oj→(j=i∨l.getD j false=true)→ ∀ y,(anc j).contains y=true→l.getD y false=true:=fun j oj hj hoj hjl y hy=>by
        have hb:=znz hanc hj hoj hy
        refine xqj hst hsz hpc j oj y (fun x hx=>⟨(xiz hst hoj).1 x hx,?_⟩) hb
        rcases hjl with rfl | hjl
        · rw [ho] at hoj;cases hoj;exact hp x hx
        · exact hpc j oj hjl hoj x hx
      have next: ∀ v x,Qr anc Q val piece i v x→RS P md (G (FL f r (putl tmc o.dst v) df (.inRegion ops.toArray (s++List.range' m (ops.length-m))::k)) cs) (fun h=>St h₀ B₀ p h (x++(A++(rest.flatMap piece++C)))) Stop:=by
        intro v x hq
        have hv: ∀ j,i≠j→(fun j=>if j=i then v else val j) j=val j:=fun j e=>if_neg fun e'=>e e'.symm
        have hx': ∀ j,i≠j→(fun j=>if j=i then x else piece j) j=piece j:=fun j e=>if_neg fun e'=>e e'.symm
        have:=ih (l.setIfInBounds i true) (putl tmc o.dst v) (fun j=>if j=i then v else val j) (fun j=>if j=i then x else piece j) (i::rest) hs (by simpa using hsz) (by rw [xnx];exact hl)
          (fun y hy=>by
            obtain ⟨j,o',hj,hlj,ho',hd⟩:=hy
            rw [← htm,yuq hj ho' hd (fun j' o'' hj' ho'' hd'=>hdist j' j o'' o' y hj' hj ho'' ho' hd' hd) (hdlt ho' hd)]
            by_cases e:i=j
            · subst e
              rw [ho] at ho';cases ho'
              rw [hd]
              simp only [putl,if_true]
              rw [List.getElem?_set_self (by rw [hl];exact hdlt ho hd)]
            · have hne:o.dst≠some y:=fun hd'=>e (hdist i j o o' y hi hj ho ho' hd' hd)
              rw [hset j e] at hlj
              rw [xrj hne,h1 y ⟨j,o',hj,hlj,ho',hd⟩,← htm,yuq hj ho' hd (fun j' o'' hj' ho'' hd'=>hdist j' j o'' o' y hj' hj ho'' ho' hd' hd) (hdlt ho' hd)]
              rw [if_neg fun e'=>e e'.symm])
          (fun y hy=>by
            have hne:o.dst≠some y:=hy i o hi hself ho
            rw [xrj hne]
            refine h2 y fun j o' hj hlj ho'=>hy j o' hj ?_ ho'
            by_cases e:i=j
            · subst e;exact hself
            · rw [hset j e];exact hlj)
          (fun j hj hlj=>by
            obtain ⟨oj,hoj⟩: ∃ oj,ops[j]?=some oj:=⟨_,List.getElem?_eq_getElem (Nat.lt_of_lt_of_le hj hm)⟩
            have hjl:j=i∨l.getD j false=true:=by
              by_cases e:i=j
              · exact .inl e.symm
              · rw [hset j e] at hlj;exact .inr hlj
            have hne: ∀ y,(anc j).contains y=true→i≠y:=fun y hy e=>by
              have:=hanl j oj hj hoj hjl y hy
              subst e;rw [hni] at this;cases this
            have hr:=wix (Q:=Q) (anc:=anc) (i:=j) (val:=val) (piece:=piece) (val':=fun j=>if j=i then v else val j) (piece':=fun j=>if j=i then x else piece j) fun y hy=>⟨(hv y (hne y hy)).symm,(hx' y (hne y hy)).symm⟩
            by_cases e:i=j
            · subst e;simp only [if_true];rw [← hr];exact hq
            · rw [hset j e] at hlj
              have:=hQ j hj hlj;rw [← hr,if_neg (fun e'=>e e'.symm),if_neg (fun e'=>e e'.symm)];exact this)
          (fun j hj=>(hx' j (fun e=>by subst e;exact hiini hj)).trans (hX j hj))
          (List.nodup_cons.2 ⟨fun e=>hils ((hrest i).1 e).1,(List.nodup_append.1 hnd2).2.1⟩)
          (fun y=>by
            rw [List.mem_cons,hrest,hls]
            constructor
            · rintro (rfl | ⟨⟨a,b⟩,c⟩)
              · refine ⟨.inr ⟨hi,hself⟩,fun k' hk' hd hy=>?_⟩
                by_cases e:y=k'
                · subst e
                  rcases (u2 y hy).1 with a | a
                  · exact hiini a
                  · exact absurd ((xiz hst ho).1 y a.2) (Nat.lt_irrefl _)
                · rw [hset k' e] at hd
                  rcases hcl k' hk' hd y hy with a | a
                  · exact hiini a
                  · rw [hni] at a;cases a.2
              · refine ⟨a.imp id fun a=>⟨a.1,?_⟩,fun k' hk' hd=>?_⟩
                · by_cases e:i=y
                  · subst e;exact hself
                  · rw [hset y e];exact a.2
                · by_cases e:i=k'
                  · subst e;exact c
                  · rw [hset k' e] at hd;exact b k' hk' hd
            · rintro ⟨a,b⟩
              by_cases e:y=i
              · exact .inl e
              · refine .inr ⟨⟨a.imp id fun a=>⟨a.1,?_⟩,fun k' hk' hd=>b k' hk' ?_⟩,b i hi hself⟩
                · have:=a.2;rw [hset y (fun e'=>e e'.symm)] at this;exact this
                · by_cases e':i=k'
                  · subst e';exact hself
                  · rw [hset k' e'];exact hd)
          (fun k' hk' hd y hy=>by
            by_cases e:i=k'
            · subst e
              obtain ⟨a,_⟩:=u2 y hy
              refine a.imp id fun a=>⟨a.1,?_⟩
              by_cases e':i=y
              · subst e';exact hself
              · rw [hset y e'];exact hp y a.2
            · rw [hset k' e] at hd
              refine (hcl k' hk' hd y hy).imp id fun a=>⟨a.1,?_⟩
              by_cases e':i=y
              · subst e';exact hself
              · rw [hset y e'];exact a.2)
          (fun k' o' hd ho' y hy=>by
            have hy2:l.getD y false=true:=by
              by_cases e:i=k'
              · subst e;rw [ho] at ho';cases ho';exact hp y hy
              · rw [hset k' e] at hd;exact hpc k' o' hd ho' y hy
            by_cases e':i=y
            · subst e';exact hself
            · rw [hset y e'];exact hy2)
        have hfm:rest.flatMap (fun j=>if j=i then x else piece j)=rest.flatMap piece:=by
          have hni':i ∉ rest:=fun e=>hils ((hrest i).1 e).1
          clear this hperm hnd2 hrest
          induction rest with
          | nil=>rfl
          | cons a r ih'=>
            simp only [List.flatMap_cons]
            rw [ih' (fun e=>hni' (by simp [e])),if_neg (fun e=>hni' (by simp [e]))]
        intro h y
        refine this h ?_
        rw [List.flatMap_cons,hfm]
        simp only [if_true]
        refine y.perm ?_
        rw [List.append_assoc]
        refine List.Perm.append_left x ?_
        rw [← List.append_assoc,← List.append_assoc]
        exact List.Perm.append_right C List.perm_append_comm
      have hmixi:=hops hi ho
      have ho2:ops.toArray[i]?=some o:=by simpa using ho
      have hpre: ∀ h,St h₀ B₀ p h (ls.flatMap piece++(A++C))→St h₀ B₀ p h ((use i).flatMap piece++(A++(rest.flatMap piece++C))):=fun h y=>by
        refine y.perm ?_
        refine ((hperm.flatMap_right piece).append_right _).trans ?_
        rw [List.flatMap_append,List.append_assoc]
        refine List.Perm.append_left _ ?_
        rw [← List.append_assoc,← List.append_assoc]
        exact List.Perm.append_right C List.perm_append_comm
      have hnd:=hmixi.1
      rcases hmixi.2 val piece (fun j hj=>by
          have hlj:=hanl i o hi ho (.inl rfl) j hj
          exact hQ j (Nat.lt_trans (wbx hst ho (znz hanc hi ho hj)) hi) hlj) hX with ⟨hmet,hop⟩ | ⟨hmet,hu,hq⟩
      · have hmet':=ylk hag hmet
        refine yyk ho2 (xix hmet') yaz (.inr (by revert hnd;cases o.op <;> simp [noDefer])) fun h hb=>?_
        rw [xlw,yuk (ops:=ops) hlooks.1 hag]
        rcases hop _ h (hpre h hb) with hx | ⟨g,args,hx,hc⟩
        · refine xjk hx fun n' h' ⟨v',e',x,hq,hb'⟩=>?_
          rcases e' with rfl | ⟨rfl,rfl⟩
          · show Reach P md (G ((F (B f r) tmc.toArray df _).finish v') cs) h' Stop
            rw [xgz ho2,xgj]
            exact next v' x hq h' hb'
          · show Reach P md (G ((F (B f r) tmc.toArray df _).finish undef) cs) h' Stop
            rw [xgz ho2,xgj]
            exact next undef x hq h' hb'
        · refine xjk hx fun n' h' ⟨e',e2⟩=>?_
          subst e';subst e2
          refine hc _ _ _ fun v' h' ⟨x,hq,hb'⟩=>?_
          rw [xgz ho2,xgj]
          exact next v' x hq h' hb'
      · refine ysv ho2 (xix (ylk hag hmet)) ?_
        rw [xgj]
        intro h hb
        have:=next undef [] hq h
        refine this ?_
        have:=hpre h hb
        rw [hu] at this
        simpa using this
  intro h y
  refine main s _ tm (fun _=>undef) X ini hord (by simp) rfl (fun x hx=>by obtain ⟨j,o,hj,hl,_⟩:=hx;simp [Array.getD] at hl) (fun _ _=>rfl) (fun j _ hl=>by simp [Array.getD] at hl) (fun _ _=>rfl) k1
    (fun x=>⟨fun hx=>⟨.inl hx,fun k _ hl=>by simp [Array.getD] at hl⟩,fun hx=>hx.1.elim id fun a=>by simp [Array.getD] at a⟩) (fun k _ hl=>by simp [Array.getD] at hl) (fun k _ hl=>by simp [Array.getD] at hl) h y

theorem xew {i:Nat} {o:Oper} (x: ∀ val piece,(∀ j,(anc i).contains j=true→Qr anc Q val piece j (val j) (piece j))→(∀ j∈ini,piece j=X j)→
    ∃ tm' U q,tmF val=tm'∧(use i).flatMap piece=U∧(∀ v x,q v x→Qr anc Q val piece i v x)∧Mix P md ops tm' h₀ B₀ p A U q o):OpMix2 P md ops tmF h₀ B₀ p A ini X use anc Q i o:=fun val piece hQ hX=>by
  obtain ⟨tm',U,q,e1,e2,e3,h⟩:=x val piece hQ hX
  rw [e1,e2]
  rcases h with ⟨h1,h2⟩ | ⟨h1,h2,h3⟩
  · refine .inl ⟨h1,fun C h s=>?_⟩
    rcases h2 C h s with y | ⟨g,args,y,z⟩
    · exact .inl (xjk y fun n h' ⟨v,a,x,b,c⟩=>⟨v,a,x,e3 v x b,c⟩)
    · exact .inr ⟨g,args,y,z.mono fun v h' ⟨x,b,c⟩=>⟨x,e3 v x b,c⟩⟩
  · exact .inr ⟨h1,h2,e3 _ _ h3⟩
theorem ydx {dd:Nat} {T:TypeId} {z:Value} {cells:Array Value} {ty:TypeId} {pos:String} {aft:Array Edge} {gd:Option (Nat × Bool)} {tm':List Value} {q:Value→Pcs→Prop} (hm:Met ops tm' ⟨some dd,.alloc T,ty,pos,aft,gd⟩ true) (hz:zeroT P T=some z) (hc:z.cells=cells)
    (hq: ∀ b,q (.pointer (some ⟨b,0,none⟩)) [(b,.cells cells T (0,0))]):Mix P md ops tm' h₀ B₀ p A [] q ⟨some dd,.alloc T,ty,pos,aft,gd⟩:=
  zwx hm fun C h s=>by
    unfold Ex
    simp only [execOp]
    refine xbq ?_
    unfold Instr.alloc
    refine xbq (xlz hz ?_)
    simp only
    unfold newVar
    rw [hc]
    refine xbq (xpq ?_)
    refine xbz ?_
    exact xbz ⟨_,rfl,_,hq _,s.push _⟩
end
theorem sk1 {α β γ1:Type} [Nonempty γ1] (R:α→β→γ1→Prop): ∃ (G1:α→β→γ1),∀ a b,(∃ c1,R a b c1)→R a b (G1 a b):=by
  have key: ∀ ab:α × β,∃ y:γ1,(∃ c1,R ab.1 ab.2 c1)→R ab.1 ab.2 (y):=fun ab=>by
    by_cases h: ∃ c1,R ab.1 ab.2 c1
    · obtain ⟨c1,h⟩:=h
      exact ⟨c1,fun _=>h⟩
    · exact ⟨Classical.choice inferInstance,fun x=>absurd x h⟩
  obtain ⟨G,hG⟩:=Classical.axiomOfChoice key
  exact ⟨fun a b=>(G (a,b)),fun a b h=>hG (a,b) h⟩
theorem sk5 {α β γ1 γ2 γ3 γ4 γ5:Type} [Nonempty γ1] [Nonempty γ2] [Nonempty γ3] [Nonempty γ4] [Nonempty γ5] (R:α→β→γ1→γ2→γ3→γ4→γ5→Prop): ∃ (G1:α→β→γ1) (G2:α→β→γ2) (G3:α→β→γ3) (G4:α→β→γ4) (G5:α→β→γ5),∀ a b,(∃ c1 c2 c3 c4 c5,R a b c1 c2 c3 c4 c5)→R a b (G1 a b) (G2 a b) (G3 a b) (G4 a b) (G5 a b):=by
  have key: ∀ ab:α × β,∃ y:γ1 × γ2 × γ3 × γ4 × γ5,(∃ c1 c2 c3 c4 c5,R ab.1 ab.2 c1 c2 c3 c4 c5)→R ab.1 ab.2 (y.1) (y.2.1) (y.2.2.1) (y.2.2.2.1) (y.2.2.2.2):=fun ab=>by
    by_cases h: ∃ c1 c2 c3 c4 c5,R ab.1 ab.2 c1 c2 c3 c4 c5
    · obtain ⟨c1,c2,c3,c4,c5,h⟩:=h
      exact ⟨(c1,c2,c3,c4,c5),fun _=>h⟩
    · exact ⟨(Classical.choice inferInstance,Classical.choice inferInstance,Classical.choice inferInstance,Classical.choice inferInstance,Classical.choice inferInstance),fun x=>absurd x h⟩
  obtain ⟨G,hG⟩:=Classical.axiomOfChoice key
  exact ⟨fun a b=>(G (a,b)).1,fun a b=>(G (a,b)).2.1,fun a b=>(G (a,b)).2.2.1,fun a b=>(G (a,b)).2.2.2.1,fun a b=>(G (a,b)).2.2.2.2,fun a b h=>hG (a,b) h⟩
end Go.X
namespace Go.X
open Go.Conc

section
variable {P:Program} {md:Md} {f:FuncId} {r:Rd} {df:List Deferred} {k:List Item} {cs:List Frame} {Stop:Goroutine→Heap→Prop} {ops rest:List Oper} {tm:List Value}
  {h₀:Heap} {B₀:List Nat} {p:PHeap} {A X C:Pcs} {T:TypeId} {w:Nat} {v:Value} {es:List (List Value)} {d:Option Tmp} {ty:TypeId} {pos:String} {aft:Array Edge} {gd:Option (Nat × Bool)} {h:Heap}
theorem xmz {t e:TypeId} {x y:Operand} {i:Int} (o:OwnS T w v es X) (ht:P.underlying t=some (.slice e)) (hs:sizeT P e=some w) (hx:evl tm x=v) (hy:evl tm y= .int .i64 i) (h0:0≤i) (hi:i.toNat<es.length):
    Exd P tm ⟨d,.indexAddr t x y,ty,pos,aft,gd⟩ h (.pointer (some ((adrV v).add (i.toNat*w)))):=
  xnj (i:=i.toNat) o ht hs hx (by rw [hy,Int.toNat_of_nonneg h0]) hi
end
end Go.X
namespace Go.X
open Go.Conc

section
variable {T:TypeId} {w:Nat} {v:Value} {es:List (List Value)} {X:Pcs} {p p':PHeap}
theorem OwnS.inP (o:OwnS T w v es X) (hp: ∀ x∈X,p x.1=some x.2): ∃ a cap,v= .slice a es.length cap∧Sl p a es.length w es:=by
  obtain ⟨hw,⟨rfl,rfl,rfl⟩ | ⟨b,cs,cap,rest,rfl,rfl,hcs,hlen,hcap⟩⟩:=o
  · exact ⟨none,0,rfl,.nil _ _ _⟩
  · refine ⟨some ⟨b,0,none⟩,cap,rfl,rfl,hw,fun _=>rfl,?_⟩
    intro i e hi j x hj
    show pcell _ (((⟨b,0,none⟩:Addr).add (i*w)).add j)=_
    rw [xjv,xjv]
    unfold pcell
    simp only [hp (b,.cells cs.toArray T (0,0)) (by simp),Option.isSome_none,Bool.false_eq_true,if_false,List.getElem?_toArray,Nat.zero_add]
    rw [hcs,List.getElem?_append_left]
    · exact xlk hw hi hj
    · exact (List.getElem?_eq_some_iff.1 (xlk hw hi hj)).1
theorem OwnS.lend {h₀ h:Heap} {B₀:List Nat} {L:Pcs} (o:OwnS T w v es X) (hn:0<es.length) (s:St h₀ B₀ p h (X++L)):
    ∃ a cap b ob,v= .slice a es.length cap∧X=[(b,ob)]∧Per (padd p b ob) h∧PLe p (padd p b ob)∧Sl (padd p b ob) a es.length w es:=by
  obtain ⟨b,cs,cap,rest,e1,e2,_,_⟩:=o.has hn
  have h1:(X++L)[0]?=some (b,.cells (List.toArray cs) T (0,0)):=by rw [e2];rfl
  obtain ⟨a,cap',e3,sl⟩:=o.inP (p:=padd p b (.cells (List.toArray cs) T (0,0))) (by rw [e2];intro x hx;rw [List.mem_singleton.1 hx];exact xyz)
  exact ⟨a,cap',b,_,e3,e2,s.perO h1,s.leO h1,sl⟩
end

def Refs (p:PHeap) (es:List (List Value)) (xss:List (List Int)):Prop:=es.length=xss.length∧ ∀ i,i<xss.length→ ∃ a c,es[i]?=some [.slice a (xss.getD i []).length c]∧Ints p a (xss.getD i []).length (xss.getD i [])
def Inn (p:PHeap) (es:List (List Value)) (xss:List (List Int)) (Z:Pcs):Prop:=∀ p',PLe p p'→(∀ x∈Z,p' x.1=some x.2)→Refs p' es xss
section
variable {p:PHeap} {es fs:List (List Value)} {xss yss:List (List Int)} {Z Y:Pcs}
theorem Inn.nil:Inn p [] [] []:=fun _ _ _=>⟨rfl,fun i hi=>absurd hi (by simp)⟩
theorem Inn.one {a:Option Addr} {n c:Nat} {xs:List Int} (D:Ints p a n xs):Inn p [[.slice a n c]] [xs] []:=fun p' le _=>by
  have hl:=D.len
  refine ⟨rfl,fun i hi=>?_⟩
  obtain rfl:i=0:=by simpa using hi
  exact ⟨a,c,by simp [hl],by simpa [hl] using D.mono le⟩
theorem Inn.lent {b:Nat} {o:Obj} (hle:PLe p (padd p b o)) (x:Inn (padd p b o) es xss Z):Inn p es xss (Z++[(b,o)]):=fun p' le hz=>by
  refine x p' (fun c q hc=>?_) fun y hy=>hz y (by simp [hy])
  unfold padd at hc
  split at hc
  · rename_i e;subst e;cases hc;exact hz (c,o) (by simp)
  · exact le c q hc
theorem Inn.as {Y:Pcs} (x:Inn p es xss Z) (e:xss=yss) (e2:Z=Y):Inn p es yss Y:=by subst e;subst e2;exact x

structure Tab1 (p:PHeap) (a:Option Addr) (k:Nat) (A:Nat→Option Addr) (C:Nat→Nat) (N:Nat→Nat) (xss:Nat→List Int):Prop where
  ne:0<k→a=some (adr a)
  cell: ∀ i,i<k→pcell p ((adr a).add (i*1))=some (.slice (A i) (N i) (C i))
  ints: ∀ i,i<k→Ints p (A i) (N i) (xss i)
theorem Tab1.mono {p':PHeap} {a:Option Addr} {k:Nat} {A:Nat→Option Addr} {C N:Nat→Nat} {xs:Nat→List Int} (h:PLe p p') (t:Tab1 p a k A C N xs):Tab1 p' a k A C N xs:=
  ⟨t.ne,fun i hi=>h.cell (t.cell i hi),fun i hi=>(t.ints i hi).mono h⟩
end
end Go.X
namespace Go.X
open Go.Conc
theorem yfq {Q:Prop} {T:TypeId} {w n:Nat} {v:Value} {es:List (List Value)} {X L:Pcs} {p:PHeap} {h₀ h:Heap} {B₀:List Nat} (o:OwnS T w v es X) (hn:es.length=n) (s:St h₀ B₀ p h L) (hX: ∀ x∈X,x∈L)
    (c: ∀ p' a cap,Per p' h→PLe p p'→v= .slice a n cap→Sl p' a n w es→Q):Q:=by
  subst hn
  rcases o.2 with ⟨_,_,e⟩ | ⟨b,cs,cap,rest,_,e,_⟩
  · obtain ⟨a,cap,e1,sl⟩:=o.inP (p:=p) (by rw [e];simp)
    exact c p a cap s.per (.refl p) e1 sl
  · obtain ⟨i,hi⟩:=List.mem_iff_getElem?.1 (hX (b,.cells (List.toArray cs) T (0,0)) (by rw [e];simp))
    obtain ⟨a,cap',e3,sl⟩:=o.inP (p:=padd p b (.cells (List.toArray cs) T (0,0))) (by rw [e];intro x hx;rw [List.mem_singleton.1 hx];exact xyz)
    exact c _ a cap' (s.perO hi) (s.leO hi) e3 sl
end Go.X
namespace Go.X.Cent
open Go.X

def each:Nat→List By→By→List By
  | 0,_,_=>[]
  | f+1,ph,s=>
    if s=[] then [] else
    if lp ph s<s.length then s.take (lp ph s+1)::each f (ph++[s.take (lp ph s+1)]) (s.drop (lp ph s+1))
    else [s]
theorem zcz: ∀ {f g:Nat} {ph:List By} {s:By},s.length≤f→s.length≤g→each f ph s=each g ph s
  | 0,g,ph,s,h,_=>by
    have:s=[]:=List.eq_nil_of_length_eq_zero (by omega)
    subst this
    cases g <;> simp [each]
  | f+1,0,ph,s,_,h=>by
    have:s=[]:=List.eq_nil_of_length_eq_zero (by omega)
    subst this
    simp [each]
  | f+1,g+1,ph,s,h1,h2=>by
    unfold each
    split
    · rfl
    · split
      · rw [zcz (f:=f) (g:=g) (by rw [List.length_drop];omega) (by rw [List.length_drop];omega)]
      · rfl
def eachS (ph:List By) (s:By):List By:=each s.length ph s
theorem zcj (ph:List By):eachS ph []=[]:=rfl
theorem xvv {ph:List By} {s:By} (hl:lp ph s<s.length):eachS ph s=s.take (lp ph s+1)::eachS (ph++[s.take (lp ph s+1)]) (s.drop (lp ph s+1)):=by
  have hs:s≠[]:=fun e=>by subst e;simp at hl
  unfold eachS
  obtain ⟨f,hf⟩: ∃ f,s.length=f+1:=⟨s.length-1,by omega⟩
  rw [hf]
  conv=>lhs;unfold each
  rw [if_neg hs,if_pos hl]
  congr 1
  exact zcz (by rw [List.length_drop];omega) (Nat.le_refl _)
theorem xvw {ph:List By} {s:By} (hs:s≠[]) (hl: ¬ lp ph s<s.length):eachS ph s=[s]:=by
  unfold eachS
  obtain ⟨f,hf⟩: ∃ f,s.length=f+1:=⟨s.length-1,by have:=List.length_pos_iff.2 hs;omega⟩
  rw [hf]
  unfold each
  rw [if_neg hs,if_neg hl]
theorem zwk {ph:List By} (s:By) (h:Phr ph):s.take (lp ph s)∈ph:=(ybv h.mem).1 _ (Nat.le_refl _)
section
variable {s:By} {m:Nat} {ph:List By}
end
end Go.X.Cent
namespace Go.X.Cent
open Go.X

def okAt (s:By) (e i:Nat):Prop:=
  (e<i→48≤(s.getD i 0).toNat∧(s.getD i 0).toNat≤57)∧(i<e→i % 3<2→65≤(s.getD i 0).toNat∧(s.getD i 0).toNat≤90)∧(i<e→ ¬ i % 3<2→32≤(s.getD i 0).toNat∧(s.getD i 0).toNat≤126)
instance (s:By) (e i:Nat):Decidable (okAt s e i):=inferInstanceAs (Decidable ((_→_)∧(_→_→_)∧(_→_→_)))
def okUp (s:By) (e k:Nat):Prop:=∀ i,i<k→okAt s e i
def bodyOk (s:By):Prop:=5≤s.length∧s.length≤1400∧(s.getD (s.length-5) 0).toNat=61∧(s.length-5) % 3≠1∧ ∀ i,i<s.length→okAt s (s.length-5) i
instance (s:By):Decidable (bodyOk s):=inferInstanceAs (Decidable (_∧_∧_∧_∧_))
def bodyB (s:By):By:=if bodyOk s then s.take (s.length-5) else []
def byB (b:Int):Int:=if b=126 then 10 else b
def pieR (s:By):Pie:=(26*((((s.getD 0 0).toNat:Nat):Int)-65)+((((s.getD 1 0).toNat:Nat):Int)-65),byB (if 2<s.length then (((s.getD 2 0).toNat:Nat):Int) else -1))
def refP:Nat→By→List Pie
  | 0,_=>[]
  | f+1,s=>if s=[] then [] else pieR s::refP f (s.drop 3)
def refS (s:By):List Pie:=refP s.length s
def parseR (s:By):List Pie:=if bodyOk s then refS (s.take (s.length-5)) else []
def perR (s:By):Int:=if bodyOk s then 0 else 140
def rdR:List By→By→List Pie→Option By
  | _,w,[]=>some w
  | ph,w,x::l=>if ((ph.length:Nat):Int)≤x.1∨820<w.length then none else rdR (ph++[pT ph x]) (w++pT ph x) l
def lnR:List By→By→By→List By × By
  | out,t,[]=>(out,t)
  | out,t,b::w=>if b=10 then lnR (out++[t]) [] w else lnR out (t++[b]) w
def texR (xs:List Pie):List By × Bool:=match rdR [[]] [] xs with
  | none=>([],false)
  | some w=>((lnR [] [] w).1,decide ((lnR [] [] w).2=[]))
def readR (s:By):Int × List By:=
  if ¬ bodyOk s then (140,[]) else if sealB (bodyB s)≠s then (141,[]) else
  if (texR (parseR s)).2=false∨chkT (texR (parseR s)).1≠0∨fileB (texR (parseR s)).1≠s then (142,[]) else (0,(texR (parseR s)).1)
def stateR (s:By):Int:=if (readR s).1=140 then 2 else if (readR s).1=141 then 3 else if (readR s).1=142 then 4 else 1
def addR (s t:By):By × Int:=if (readR s).1≠0 then ([],(readR s).1) else writeB ((readR s).2++[t])
def pcR (ts:List By):List By:=if chkT ts≠0 then [] else eachS [[]] (wholeB ts)
section
variable {ph:List By} {w:By} {xs:List Pie} {k:Nat}
end
theorem ziz (l:List By): ∀ u∈(scs l).flatten,isOne u=true:=fun u hu=>by
  obtain ⟨e,he,hu⟩:=List.mem_flatten.1 hu
  obtain ⟨t,_,rfl⟩:=List.mem_map.1 he
  rw [List.mem_singleton.1 hu];rfl
end Go.X.Cent
namespace Go.X.Cent
open Go.X

def readyT (ts:List By):Prop:=¬ far ts∧chkT ts=0
instance (ts:List By):Decidable (readyT ts):=inferInstanceAs (Decidable (_∧_))
def wrOk (ts:List By):Prop:=(writeB ts).2=0∧5≤(((writeB ts).1.length:Nat):Int)∧(((writeB ts).1.length:Nat):Int)≤1400
instance (ts:List By):Decidable (wrOk ts):=inferInstanceAs (Decidable (_∧_∧_))
def fndT (l:List By) (s:By):Int:=if s∈l then ((l.idxOf s:Nat):Int) else -1
theorem ypk (a b:List By):scs a++scs b=scs (a++b):=by simp [scs]
end Go.X.Cent
namespace Go.X.Cent
open Go.X Go.Proofs

theorem zkw {ph:List By} {x:By} (h:x∈ph):ph.getD (ph.idxOf x) []=x:=by
  have hl:=List.idxOf_lt_length_iff.2 h
  rw [List.getD_eq_getElem?_getD,List.getElem?_eq_getElem hl]
  exact List.getElem_idxOf hl
theorem zsq {s:By} {k:Nat} (hk:k<s.length):s.take k++[s.getD k 0]=s.take (k+1):=by
  rw [List.take_add_one,List.getElem?_eq_getElem hk,List.getD_eq_getElem?_getD,List.getElem?_eq_getElem hk];rfl
theorem wiz: ∀ {n:Nat} {e:List By} {s:By},s.length≤n→Phr ([]::e)→rdTo e (encS ([]::e) s)=some (e++eachS ([]::e) s)
  | 0,e,s,h,_=>by
    have:s=[]:=List.eq_nil_of_length_eq_zero (by omega)
    subst this
    rw [yuw,zcj,List.append_nil];rfl
  | n+1,e,s,h,hP=>by
    by_cases h0:s=[]
    · subst h0;rw [yuw,zcj,List.append_nil];rfl
    have hm:=zwk s hP
    have hi:=List.idxOf_lt_length_iff.2 hm
    by_cases hk:lp ([]::e) s<s.length
    · rw [ydk hk,xvv hk,rdTo]
      have hT:pT ([]::e) (((([]::e).idxOf (s.take (lp ([]::e) s)):Nat):Int),(((s.getD (lp ([]::e) s) 0).toNat:Nat):Int))=s.take (lp ([]::e) s+1):=by
        unfold pT
        simp only [Int.toNat_natCast]
        rw [zkw hm,if_neg (by omega),UInt8.ofNat_toNat,zsq hk]
      have hne:s.take (lp ([]::e) s+1)≠[]:=fun z=>by
        have:=congrArg List.length z
        rw [List.length_take] at this;simp only [List.length_nil] at this;omega
      have h1:rd1 ([]::e) (((([]::e).idxOf (s.take (lp ([]::e) s)):Nat):Int),(((s.getD (lp ([]::e) s) 0).toNat:Nat):Int))=some (s.take (lp ([]::e) s+1)):=by
        rw [rd1,if_neg (by show ¬ _≤(((([]::e).idxOf (s.take (lp ([]::e) s)):Nat):Int));omega),hT,if_neg hne]
      rw [h1]
      have hP2:=hP.snoc hk
      simp only []
      have:=wiz (n:=n) (e:=e++[s.take (lp ([]::e) s+1)]) (s:=s.drop (lp ([]::e) s+1)) (by rw [List.length_drop];omega) hP2
      rw [List.cons_append] at*
      rw [this]
      simp
    · have e1:s.take (lp ([]::e) s)=s:=List.take_of_length_le (by omega)
      rw [e1] at hm hi
      rw [ydv h0 hk,xvw h0 hk,rdTo]
      have h1:rd1 ([]::e) (((([]::e).idxOf s:Nat):Int),-1)=some s:=by
        have hT:pT ([]::e) (((([]::e).idxOf s:Nat):Int),-1)=s:=by
          unfold pT
          simp only [Int.toNat_natCast]
          rw [zkw hm,if_pos trivial,List.append_nil]
        rw [rd1,if_neg (by show ¬ _≤(((([]::e).idxOf s:Nat):Int));omega),hT,if_neg h0]
      rw [h1]
      rfl
theorem wmz (s:By):rdTo [] (encS [[]] s)=some (eachS [[]] s):=by
  have:=wiz (n:=s.length) (e:=[]) (s:=s) (Nat.le_refl _) Phr.one
  simpa using this
theorem zcx: ∀ {n:Nat} {ph:List By} {s:By},s.length≤n→(eachS ph s).flatten=s
  | 0,ph,s,h=>by
    have:s=[]:=List.eq_nil_of_length_eq_zero (by omega)
    subst this;rfl
  | n+1,ph,s,h=>by
    by_cases h0:s=[]
    · subst h0;rfl
    by_cases hk:lp ph s<s.length
    · rw [xvv hk,List.flatten_cons,zcx (n:=n) (by rw [List.length_drop];omega),List.take_append_drop]
    · rw [xvw h0 hk];simp
theorem yqk (ph:List By) (s:By):(eachS ph s).flatten=s:=zcx (Nat.le_refl _)
theorem yqj: ∀ {n:Nat} {ph:List By} {s:By},s.length≤n→Phr ph→ ∃ l t,eachS ph s=l++t∧t.length≤1∧(∀ x∈t,x∈ph++l)∧(ph++l).Nodup∧(∀ x∈l,x≠[])∧Phr (ph++l)
  | 0,ph,s,h,hP=>by
    have:s=[]:=List.eq_nil_of_length_eq_zero (by omega)
    subst this
    exact ⟨[],[],rfl,by simp,by simp,by simpa using hP.nod,by simp,by simpa using hP⟩
  | n+1,ph,s,h,hP=>by
    by_cases h0:s=[]
    · subst h0
      exact ⟨[],[],rfl,by simp,by simp,by simpa using hP.nod,by simp,by simpa using hP⟩
    by_cases hk:lp ph s<s.length
    · obtain ⟨l,t,e1,e2,e3,e4,e5,e6⟩:=yqj (n:=n) (ph:=ph++[s.take (lp ph s+1)]) (s:=s.drop (lp ph s+1)) (by rw [List.length_drop];omega) (hP.snoc hk)
      refine ⟨s.take (lp ph s+1)::l,t,by rw [xvv hk,e1,List.cons_append],e2,by simpa using e3,by simpa using e4,fun x hx=>?_,by simpa using e6⟩
      rcases List.mem_cons.1 hx with rfl | hx
      · intro z
        have:=congrArg List.length z
        rw [List.length_take] at this;simp only [List.length_nil] at this;omega
      · exact e5 x hx
    · have e1:s.take (lp ph s)=s:=List.take_of_length_le (by omega)
      have hm:=zwk s hP
      rw [e1] at hm
      exact ⟨[],[s],by rw [xvw h0 hk];rfl,by simp,by simpa using hm,by simpa using hP.nod,by simp,by simpa using hP⟩
theorem zjw {α:Type} [BEq α] [LawfulBEq α]: ∀ {l m:List α},l.Nodup→(∀ x∈l,x∈m)→l.length≤m.length
  | [],_,_,_=>by simp
  | x::l,m,hn,hs=>by
    have hx:=hs x (by simp)
    rw [List.nodup_cons] at hn
    have:=zjw (l:=l) (m:=m.erase x) hn.2 fun y hy=>by
      have h1:=hs y (by simp [hy])
      have h2:y≠x:=fun e=>hn.1 (e ▸ hy)
      exact (List.mem_erase_of_ne h2).2 h1
    rw [List.length_erase_of_mem hx] at this
    have:=List.length_pos_of_mem hx
    rw [List.length_cons];omega
def alphabet:By:=10::(List.range 94).map fun i=>UInt8.ofNat (32+i)
theorem wbz {b:UInt8} (h:b=10∨32≤b.toNat∧b.toNat≤125):b∈alphabet:=by
  rcases h with rfl | ⟨h1,h2⟩
  · simp [alphabet]
  · refine List.mem_cons_of_mem _ (List.mem_map.2 ⟨b.toNat-32,by rw [List.mem_range];omega,?_⟩)
    rw [show 32+(b.toNat-32)=b.toNat from by omega,UInt8.ofNat_toNat]
theorem few: ∀ {l:List By},l.Nodup→(∀ x∈l,x≠[])→(∀ x∈l,∀ b∈x,b=10∨32≤b.toNat∧b.toNat≤125)→2*l.length≤l.flatten.length+95:=fun {l} hn h0 hb=>by
  have split: ∀ m:List By,(∀ x∈m,x≠[])→2*m.length≤m.flatten.length+(m.filter fun x=>x.length == 1).length:=by
    intro m
    induction m with
    | nil=>simp
    | cons x m ih=>
      intro hm
      have hx:=List.length_pos_iff.2 (hm x (by simp))
      have:=ih fun y hy=>hm y (by simp [hy])
      rw [List.length_cons,List.flatten_cons,List.length_append]
      by_cases c:x.length=1
      · rw [List.filter_cons_of_pos (by simp [c]),List.length_cons];omega
      · rw [List.filter_cons_of_neg (by simp [c])];omega
  have h1:(l.filter fun x=>x.length == 1).length≤(alphabet.map fun b=>[b]).length:=by
    refine zjw (hn.sublist List.filter_sublist) fun x hx=>?_
    obtain ⟨hx,hl⟩:=List.mem_filter.1 hx
    have hl:x.length=1:=by simpa using hl
    obtain ⟨b,rfl⟩:=List.length_eq_one_iff.1 hl
    exact List.mem_map.2 ⟨b,wbz (hb _ hx b (by simp)),rfl⟩
  have h2:=split l h0
  have h3:(alphabet.map fun b=>[b]).length=95:=by simp [alphabet]
  omega
theorem yhx: ∀ {n:Nat} {ph:List By} {s:By},s.length≤n→(encS ph s).length=(eachS ph s).length
  | 0,ph,s,h=>by
    have:s=[]:=List.eq_nil_of_length_eq_zero (by omega)
    subst this;rfl
  | n+1,ph,s,h=>by
    by_cases h0:s=[]
    · subst h0;rfl
    by_cases hk:lp ph s<s.length
    · rw [ydk hk,xvv hk,List.length_cons,List.length_cons,yhx (n:=n) (by rw [List.length_drop];omega)]
    · rw [ydv h0 hk,xvw h0 hk];rfl
theorem yvx (ph:List By) (s:By):(encS ph s).length=(eachS ph s).length:=yhx (Nat.le_refl _)
def Fine (s:By):Prop:=∀ b∈s,b=10∨32≤b.toNat∧b.toNat≤125
theorem zpw {s:By} (h:s.length≤820) (hf:Fine s):(eachS [[]] s).length≤458:=by
  obtain ⟨l,t,e1,e2,e3,e4,e5,e6⟩:=yqj (n:=s.length) (ph:=[[]]) (s:=s) (Nat.le_refl _) Phr.one
  have hj:=yqk [[]] s
  rw [e1,List.flatten_append] at hj
  have h1:=few (l:=l) (List.nodup_append.1 e4).2.1 e5 fun x hx b hb=>hf b (by rw [← hj];exact List.mem_append_left _ (List.mem_flatten.2 ⟨x,hx,hb⟩))
  have h2:=congrArg List.length hj
  rw [List.length_append] at h2
  rw [e1,List.length_append]
  omega
theorem zoq {ts:List By} (h: ∀ t∈ts,isText t):Fine (wholeB ts):=by
  induction ts with
  | nil=>intro b hb;simp [wholeB] at hb
  | cons t ts ih=>
    intro b hb
    rcases List.mem_append.1 hb with hb | hb
    · exact .inr ((h t (by simp)).2 b hb)
    · rcases List.mem_cons.1 hb with rfl | hb
      · exact .inl rfl
      · exact ih (fun x hx=>h x (by simp [hx])) b hb
def GoodL:List Pie→Prop
  | []=>True
  | x::l=>(0≤x.1∧x.1≤675)∧((x.2= -1∧l=[])∨((x.2=10∨32≤x.2∧x.2≤125)∧GoodL l))
theorem zlv: ∀ {n:Nat} {ph:List By} {s:By},s.length≤n→Phr ph→Fine s→ph.length+(eachS ph s).length≤676→GoodL (encS ph s)
  | 0,ph,s,h,_,_,_=>by
    have:s=[]:=List.eq_nil_of_length_eq_zero (by omega)
    subst this;trivial
  | n+1,ph,s,h,hP,hf,hl=>by
    by_cases h0:s=[]
    · subst h0;trivial
    have hm:=zwk s hP
    have hi:=List.idxOf_lt_length_iff.2 hm
    by_cases hk:lp ph s<s.length
    · rw [xvv hk,List.length_cons] at hl
      rw [ydk hk]
      have hb:s.getD (lp ph s) 0∈s:=gmem (d:=0) hk
      refine ⟨⟨by show (0:Int)≤((_:Nat):Int);omega,by show ((_:Nat):Int)≤675;omega⟩,.inr ⟨?_,zlv (n:=n) (by rw [List.length_drop];omega) (hP.snoc hk) (fun b hb=>hf b (List.mem_of_mem_drop hb)) (by rw [List.length_append,List.length_singleton];omega)⟩⟩
      show (((s.getD (lp ph s) 0).toNat:Nat):Int)=10∨32≤(((s.getD (lp ph s) 0).toNat:Nat):Int)∧(((s.getD (lp ph s) 0).toNat:Nat):Int)≤125
      rcases hf _ hb with e | ⟨e1,e2⟩
      · rw [e];exact .inl rfl
      · exact .inr ⟨by omega,by omega⟩
    · rw [ydv h0 hk]
      have e1:s.take (lp ph s)=s:=List.take_of_length_le (by omega)
      rw [e1] at hi
      rw [xvw h0 hk,List.length_singleton] at hl
      exact ⟨⟨by show (0:Int)≤((_:Nat):Int);omega,by show ((_:Nat):Int)≤675;omega⟩,.inl ⟨rfl,rfl⟩⟩

theorem ylw {z:Int} (h0:0≤z) (h1:z≤255):(((UInt8.ofNat z.toNat).toNat:Nat):Int)=z:=by
  rw [UInt8.toNat_ofNat_of_lt' (show z.toNat<256 by omega)];omega
theorem wek {x:Pie} {r:By} (h1:0≤x.1∧x.1≤675) (h2:(x.2= -1∧r=[])∨(x.2=10∨32≤x.2∧x.2≤125)):pie1 (pieB x++r)=some (x,r):=by
  have a1:=ylw (z:=65+x.1 / 26) (by omega) (by omega)
  have a2:=ylw (z:=65+x.1 % 26) (by omega) (by omega)
  have g0:(pieB x++r).getD 0 0=UInt8.ofNat (65+x.1 / 26).toNat:=by simp [pieB,two]
  have g1:(pieB x++r).getD 1 0=UInt8.ofNat (65+x.1 % 26).toNat:=by simp [pieB,two]
  have gd:(pieB x++r).drop 2=(if x.2= -1 then [] else if x.2=10 then [126] else [UInt8.ofNat x.2.toNat])++r:=by simp [pieB,two]
  have hl: ¬ (pieB x++r).length<2:=by simp only [pieB,two,List.length_append,List.length_cons];omega
  rw [wij hl (by rw [g0,a1];omega) (by rw [g1,a2];omega),gd]
  have hph:phN (pieB x++r)=x.1:=by unfold phN;rw [g0,g1,a1,a2];omega
  rw [hph]
  rcases h2 with ⟨e1,e2⟩ | h2
  · rw [if_pos e1,e2,List.append_nil,if_pos rfl,← e1]
  · have hn: ¬ x.2= -1:=by omega
    rw [if_neg hn]
    by_cases c:x.2=10
    · rw [if_pos c,if_neg (by simp)]
      have:(([126]++r:By).getD 0 0).toNat=126:=rfl
      rw [if_pos this,← c]
      rfl
    · rw [if_neg c,if_neg (by simp)]
      have hb:=ylw (z:=x.2) (by omega) (by omega)
      have e:([UInt8.ofNat x.2.toNat]++r:By).getD 0 0=UInt8.ofNat x.2.toNat:=rfl
      rw [e,if_neg (by omega),if_neg (by omega),hb]
      rfl
theorem zuw: ∀ {l out:List Pie},GoodL l→prsS out (filP l)=some (out++l)
  | [],out,_=>by rw [List.append_nil];rfl
  | x::l,out,h=>by
    obtain ⟨h1,h2⟩:=h
    have e:filP (x::l)=pieB x++filP l:=by simp [filP]
    have hp:pie1 (pieB x++filP l)=some (x,filP l):=wek h1 (h2.imp (fun z=>⟨z.1,by rw [z.2];rfl⟩) (·.1))
    have hg:GoodL l:=by
      rcases h2 with ⟨_,e2⟩ | h2
      · rw [e2];trivial
      · exact h2.2
    rw [e,yiq hp,zuw hg]
    simp
theorem zmx (n:Nat):48≤(dig n).toNat∧(dig n).toNat≤57:=by
  unfold dig
  rw [UInt8.toNat_ofNat_of_lt' (show 48+n % 10<256 by omega)]
  omega
theorem yyz (l:By):(sealB l).take ((sealB l).length-5)=l:=by
  rw [ycv,Nat.add_sub_cancel,sealB,List.take_left' rfl]
theorem wkj (l:By):(sealB l).getD ((sealB l).length-5) 0=61:=by
  rw [ycv,Nat.add_sub_cancel,sealB,List.getD_eq_getElem?_getD,List.getElem?_append_right (Nat.le_refl _)]
  simp
theorem ztq (l:By):(sealB l).drop ((sealB l).length-4)=four (total l % 9973):=by
  rw [ycv,show l.length+5-4=l.length+1 from by omega,sealB,← List.drop_drop,List.drop_left' rfl]
  rfl
theorem zxk {l:List Pie} (hg:GoodL l) (hl:(filP l).length≤1395):formB (sealB (filP l))=some l:=by
  have h1:=ycv (filP l)
  rw [formB,if_neg (by rw [wkj,h1];rintro (z | z | z) <;> first | omega | exact z rfl),if_neg,yyz,zuw hg,List.nil_append]
  rintro ⟨c,hc,z⟩
  rw [ztq,four] at hc
  simp only [List.mem_cons,List.not_mem_nil,or_false] at hc
  rcases hc with rfl | rfl | rfl | rfl
  all_goals (have:=zmx (total (filP l) % 9973 / 1000);have:=zmx (total (filP l) % 9973 / 100);have:=zmx (total (filP l) % 9973 / 10);have:=zmx (total (filP l) % 9973);omega)

theorem whj {t r:By} (h:(10:UInt8) ∉ t):cutAfter 10 (t++10::r)=(t++[10])::cutAfter 10 r:=by
  induction t with
  | nil=>rw [List.nil_append,cutAfter,if_pos rfl];rfl
  | cons b t ih=>
    rw [List.mem_cons,not_or] at h
    rw [List.cons_append,cutAfter,if_neg (fun e=>h.1 e.symm),ih h.2]
    rfl
theorem zrz {t:By}:trim1 (t++[10])=t:=by
  unfold trim1 Lib.trimSuffix
  have h:Lib.hasSuffix (t++[10]) [10]=true:=by simp [Lib.hasSuffix]
  rw [if_pos h]
  simp
theorem zck: ∀ {ts:List By},(∀ t∈ts,(10:UInt8) ∉ t)→cutAfter 10 (wholeB ts)=ts.map (· ++ [10])++[[]]
  | [],_=>rfl
  | t::ts,h=>by
    rw [wholeB,whj (h t (by simp)),zck fun x hx=>h x (by simp [hx])]
    rfl
theorem zfw {ts:List By} (h: ∀ t∈ts,(10:UInt8) ∉ t):linesB (wholeB ts)=ts:=by
  rw [linesB,zck h,List.length_append,List.length_map,List.length_singleton,Nat.add_sub_cancel,List.take_left' (by simp),List.map_map]
  have:(trim1 ∘ fun x:By=>x++[10])=id:=funext fun t=>zrz
  rw [this,List.map_id]
theorem zrv {t:By} (h:isText t):(10:UInt8) ∉ t:=fun z=>by
  have:=(h.2 _ z).1
  exact absurd this (by decide)

theorem zkk {ts:List By} (h:chkT ts=0):GoodL (encS [[]] (wholeB ts))∧(filP (encS [[]] (wholeB ts))).length≤1374∧(encS [[]] (wholeB ts)).length≤458:=by
  have g:=xtv h
  have hw:=yjw g.1 fun t z=>(g.2 t z).1
  have hf:=zoq g.2
  have h1:=zpw hw hf
  have h2:=yvx [[]] (wholeB ts)
  have h3:=yik (encS [[]] (wholeB ts))
  exact ⟨zlv (Nat.le_refl _) Phr.one hf (by simp only [List.length_singleton];omega),by omega,by omega⟩
theorem zyq {ts:List By} (h:chkT ts=0):formB (fileB ts)=some (encS [[]] (wholeB ts)):=by
  have g:=zkk h
  exact zxk g.1 (by omega)
theorem zgj {ts:List By} (h:chkT ts=0):5≤(fileB ts).length∧(fileB ts).length≤1379:=by
  have g:=zkk h
  rw [fileB,ycv];omega
theorem yzz {ts:List By} (h:chkT ts=0):readB (fileB ts)=(0,ts):=by
  have g:=xtv h
  have hL:linesB (wholeB ts)=ts:=zfw fun t z=>zrv (g.2 t z)
  unfold readB
  rw [zyq h]
  simp only []
  have e1:(fileB ts).take ((fileB ts).length-5)=filP (encS [[]] (wholeB ts)):=yyz _
  rw [e1,if_neg (fun z=>z rfl),wmz]
  simp only []
  rw [yqk,hL,if_neg]
  rintro (z | z)
  · exact z h
  · exact z rfl
theorem xsx {ts:List By} (h:chkT ts=0):writeB ts=(fileB ts,0):=by rw [writeB,if_neg fun z=>z h]
theorem zpk {ts:List By} (h:chkT ts=0):readB (writeB ts).1=(0,ts):=by rw [xsx h];exact yzz h
end Go.X.Cent
namespace Go.X.Cent
open Go.X Go.Proofs

def ChOk (b:By):Prop:=b.length % 3≠1∧ ∀ i,i<b.length→(i % 3<2→isL (b.getD i 0))∧(¬ i % 3<2→32≤(b.getD i 0).toNat∧(b.getD i 0).toNat≤126)
theorem wiw {ts:List By} (h1:ts.length≤20) (h2: ∀ t∈ts,isText t):chkT ts=0:=by
  unfold chkT
  rw [if_neg (by omega),if_neg]
  intro z
  obtain ⟨t,ht,hb⟩:=ytj.1 z
  have:=h2 t ht
  simp [badT,this] at hb
theorem yvk {ts:List By} (h:chkT ts=0) (k:Nat):chkT (ts.take k)=0:=by
  have g:=xtv h
  exact wiw (by rw [List.length_take];omega) fun t z=>g.2 t (List.mem_of_mem_take z)
theorem wiq {ts:List By} {k:Nat} (h:chkT ts=0) (hk:k<ts.length):addB (fileB (ts.take k)) (ts.getD k [])=(fileB (ts.take (k+1)),0):=by
  have e:ts.take k++[ts.getD k []]=ts.take (k+1):=by
    rw [List.take_add_one,List.getElem?_eq_getElem hk,List.getD_eq_getElem?_getD,List.getElem?_eq_getElem hk];rfl
  have hr:=yzz (yvk h k)
  rw [addB,hr,if_neg (by simp)]
  show writeB (ts.take k++[ts.getD k []])=_
  rw [e,xsx (yvk h (k+1))]
end Go.X.Cent
namespace Go.X.Cent
open Go.X Go.Proofs

def alphaI:List Int:=alphabet.map fun b=>((b.toNat:Nat):Int)
structure Spl (L l t:List Pie):Prop where
  eq:L=l++t
  one:t.length≤1
  tm: ∀ x∈t,x.2= -1
  lm: ∀ x∈l,x.2≠ -1
  rng: ∀ x∈L,0≤x.1∧x.1≤((l.length:Nat):Int)
  few: ∀ n,cntN L n≤96
section
variable {L l t:List Pie}
theorem Spl.len (S:Spl L l t):L.length=l.length+t.length:=by rw [S.eq,List.length_append]
theorem Spl.no (S:Spl L l t) (h:0<L.length→(L.getD (L.length-1) pz).2≠ -1):L.length=l.length:=by
  have hl:=S.len
  have h1:=S.one
  rcases Nat.eq_zero_or_pos t.length with z | z
  · omega
  · exfalso
    have h0:0<L.length:=by omega
    refine h h0 (S.tm _ ?_)
    rw [List.getD_eq_getElem?_getD,S.eq,List.getElem?_append_right (by rw [List.length_append];omega),List.length_append]
    rw [show l.length+t.length-1-l.length=0 from by omega]
    obtain ⟨x,rfl⟩:=List.length_eq_one_iff.1 (show t.length=1 by omega)
    simp
end
def sumC (L:List Pie):Nat→Nat
  | 0=>0
  | k+1=>sumC L k+cntN L ((k:Nat):Int)
theorem ypz: ∀ (k:Nat) (L:List Pie),sumC L k=L.countP fun x=>decide (0≤x.1∧x.1<((k:Nat):Int))
  | 0,L=>by
    rw [sumC,List.countP_eq_zero.2]
    intro x _
    simp
  | k+1,L=>by
    rw [sumC,ypz k L]
    induction L with
    | nil=>rfl
    | cons x L ih=>
      simp only [cntN,List.countP_cons] at ih ⊢
      have:(if decide (0≤x.1∧x.1<((k+1:Nat):Int))=true then 1 else 0)=(if decide (0≤x.1∧x.1<((k:Nat):Int))=true then 1 else 0)+(if decide (x.1=((k:Nat):Int))=true then 1 else 0):=by
        simp only [decide_eq_true_eq]
        by_cases c:x.1=((k:Nat):Int)
        · rw [if_pos (by omega),if_neg (by omega),if_pos c]
        · by_cases d:0≤x.1∧x.1<((k:Nat):Int)
          · rw [if_pos (by omega),if_pos d,if_neg c]
          · rw [if_neg (by omega),if_neg d,if_neg c]
      omega
theorem Spl.sum {L l t:List Pie} (S:Spl L l t):sumC L (l.length+1)=L.length:=by
  rw [ypz,List.countP_eq_length]
  intro x hx
  have:=S.rng x hx
  simp only [decide_eq_true_eq]
  omega
end Go.X.Cent
namespace Go.X.Cent
open Go.X Go.Proofs

section
variable {B t:By}
end
end Go.X.Cent
namespace Go.X.Cent
open Go.X Go.Proofs

def fstP (L:List Pie) (E:List By) (i:Nat):By:=if 0<(L.getD i pz).1 then E.getD ((L.getD i pz).1-1).toNat [] else []
structure PF (L:List Pie) (E:List By):Prop where
  len:E.length=L.length
  lo: ∀ i,i<L.length→0≤(L.getD i pz).1∧(L.getD i pz).1≤((i:Nat):Int)
  byt: ∀ i,i<L.length→(L.getD i pz).2= -1∨0≤(L.getD i pz).2∧(L.getD i pz).2≤255
  piece: ∀ i,i<L.length→E.getD i []=fstP L E i++(if (L.getD i pz).2= -1 then [] else [UInt8.ofNat (L.getD i pz).2.toNat])
  last: ∀ i,i<L.length→(L.getD i pz).2= -1→i+1=L.length∧E.getD i []∈E.take i
  new: ∀ i,i<L.length→(L.getD i pz).2≠ -1→E.getD i [] ∉ E.take i
  short: ∀ i,i<L.length→(E.getD i []).length≤i+1
section
variable {L:List Pie} {E:List By} {i:Nat}
theorem PF.back (p:PF L E) (hi:i<L.length) (hb:(L.getD i pz).2= -1):E.getD i []=fstP L E i:=by
  have h1:=p.piece i hi
  rwa [if_pos hb,List.append_nil] at h1
end
theorem Strs.pre {p:PHeap} {a:Option Addr} {n c r:Nat} {ts:List By} (T:Strs p a n ts) (hc:n≤c) (h2:r≤n):Strs p (cutA a c 0 1) r (ts.take r):=by
  have h:=Sl.part (l:=0) (r:=r) T hc (Nat.zero_le _) h2
  rw [List.drop_zero,Nat.sub_zero] at h
  unfold Strs
  rw [← zix]
  exact h
end Go.X.Cent
namespace Go.X.Cent
open Go.X Go.Proofs

structure Beg (K L:List By):Prop where
  len:K.length≤L.length
  eq: ∀ i,i+1<K.length→K.getD i []=L.getD i []
  pre: ∀ i,i<K.length→K.getD i [] <+: L.getD i []
end Go.X.Cent
namespace Go.X.Kn
open Go.X Go.X.Cent

def exK:Bk:=⟨10,2,[[(1,1),(2,3)],[(0,1),(5,5)]],[(2,2),(7,8)]⟩
def mk (d:Int):UInt8:=UInt8.ofNat (48+d).toNat
def tx (l:List Int):By:=l.map mk
theorem zax {d:Int} (h:0≤d∧d≤9):(((mk d).toNat:Nat):Int)=48+d:=by
  have:(48+d).toNat<256:=by omega
  unfold mk;rw [UInt8.toNat_ofNat',Nat.mod_eq_of_lt this];omega
def nt (k:Bk) (n:Int):By:=tx (digs k.base k.places.toNat n)
def nts (k:Bk) (ns:List Int):List By:=ns.map (nt k)
theorem wbv {l:List Int} {j:Nat} (h:j<l.length):l.take j++[l.getD j 0]=l.take (j+1):=by
  rw [List.take_add_one,List.getD_eq_getElem?_getD,List.getElem?_eq_getElem h];rfl
theorem zbj {ts:List By} (h:chkT ts=0):(writeB ts).1.length≤1379:=by rw [xsx h];exact (zgj h).2
end Go.X.Kn
namespace Go.X.Kn
open Go.X Go.X.Cent
def InR (k:Bk) (ns:List Int) (i:Nat):Prop:=∀ j,j<i→0≤ns.getD j 0∧ns.getD j 0≤k.base ^ k.places.toNat-1
end Go.X.Kn
namespace Go.X.Hr
open Go.X Go.X.Kn Go.X.Cent
def splitK (l:By):Nat→List By
  | 0=>[[]]
  | k+1=>if (l.getD k 0).toNat=32 then splitK l k++[[]] else (splitK l k).set ((splitK l k).length-1) ((splitK l k).getD ((splitK l k).length-1) []++[l.getD k 0])
theorem yyq (l:By): ∀ k,1≤(splitK l k).length∧(splitK l k).length≤k+1
  | 0=>⟨Nat.le_refl _,Nat.le_refl _⟩
  | k+1=>by
    have ih:=yyq l k
    rw [splitK]
    split
    · rw [List.length_append,List.length_singleton];omega
    · rw [List.length_set];omega
theorem ziq (l:By): ∀ k i,((splitK l k).getD i []).length≤k
  | 0,i=>by
    show (([[]]:List By).getD i []).length≤0
    cases i <;> exact Nat.le_refl _
  | k+1,i=>by
    have ih:=ziq l k
    rw [splitK]
    split
    · rw [List.getD_eq_getElem?_getD,List.getElem?_append]
      split
      · have:=ih i;rw [List.getD_eq_getElem?_getD] at this;omega
      · cases i-(splitK l k).length <;> exact Nat.zero_le _
    · rw [List.getD_eq_getElem?_getD,List.getElem?_set]
      by_cases e:(splitK l k).length-1=i
      · rw [if_pos e]
        split
        · show (_++[_]).length≤k+1
          rw [List.length_append,List.length_singleton]
          have:=ih ((splitK l k).length-1)
          omega
        · exact Nat.zero_le _
      · rw [if_neg e,← List.getD_eq_getElem?_getD];have:=ih i;omega
theorem wkk (ts:List By) (i:Nat) (x:Value) (y:By):(scs ts).set i ([x].set 0 (sv y))=scs (ts.set i y):=by simp [scs,List.map_set]
theorem zhv {l:By} {k:Nat} (h:(((l.getD k 0).toNat:Nat):Int)=32):scs (splitK l k)++[[sv []]]=scs (splitK l (k+1)):=by
  rw [splitK,if_pos (by omega),← ypk];rfl
theorem zhw {l:By} {k:Nat} (h: ¬ (((l.getD k 0).toNat:Nat):Int)=32) (x:Value):(scs (splitK l k)).set ((splitK l k).length-1) ([x].set 0 (sv ((splitK l k).getD ((splitK l k).length-1) []++[l.getD k 0])))=scs (splitK l (k+1)):=by
  rw [wkk,splitK,if_neg (by omega)]
theorem zsw {a b:UInt8} (ha:a.toNat≠32) (hb:b.toNat≠32):splitK [a,32,b] 3=[[a],[b]]:=by
  have h1:splitK [a,32,b] 1=[[a]]:=by rw [splitK,if_neg (show ¬ ([a,32,b].getD 0 0).toNat=32 from ha)];rfl
  have h2:splitK [a,32,b] 2=[[a],[]]:=by rw [splitK,if_pos (show ([a,32,b].getD 1 0).toNat=32 from rfl),h1];rfl
  rw [splitK,if_neg (show ¬ ([a,32,b].getD 2 0).toNat=32 from hb),h2];rfl
end Go.X.Hr
namespace Go.X.Hr
open Go.X Go.X.Kn Go.X.Cent
def exR:Rst:=⟨[1,2,1,1],[⟨0,0,2,2⟩,⟨0,0,1,3⟩,⟨1,0,3,1⟩,⟨2,1,2,2⟩]⟩
theorem wsx:rosB exR:=by decide
theorem wok:0≤(bestF exR.sts exR.room).2:=by decide +kernel
end Go.X.Hr
namespace Go.X.Hr
open Go.X Go.X.Kn Go.X.Cent
theorem ywz: ∀ (ss:List Str4) (L hs:List Int),Asg ss L hs↔hs.length=ss.length∧ ∀ i,i<hs.length→((ss.getD i sz).lo≤hs.getD i 0∧hs.getD i 0≤(ss.getD i sz).hi)∧(leftA L hs i).getD (hs.getD i 0).toNat 0≠0
  | [],L,hs=>by
    show hs=[]↔_
    constructor
    · rintro rfl;exact ⟨rfl,fun i hi=>absurd hi (Nat.not_lt_zero i)⟩
    · rintro ⟨h,_⟩;exact List.eq_nil_of_length_eq_zero h
  | s::ss,L,[]=>by
    constructor
    · rintro ⟨h,t,e,_⟩;cases e
    · rintro ⟨h,_⟩;cases h
  | s::ss,L,h::t=>by
    have sh: ∀ i,leftA L (h::t) (i+1)=leftA (less L h) t i:=by
      intro i
      induction i with
      | zero=>rfl
      | succ i ih=>rw [leftA,ih];rfl
    constructor
    · rintro ⟨h',t',e,h1,h2,h3,h4⟩
      cases e
      obtain ⟨g1,g2⟩:=(ywz ss (less L h) t).1 h4
      refine ⟨by simp [g1],fun i hi=>?_⟩
      match i,hi with
      | 0,_=>exact ⟨⟨h1,h2⟩,h3⟩
      | i+1,hi=>rw [sh];exact g2 i (by simpa using hi)
    · rintro ⟨g1,g2⟩
      have g0:=g2 0 (by simp)
      refine ⟨h,t,rfl,g0.1.1,g0.1.2,g0.2,(ywz ss (less L h) t).2 ⟨by simpa using g1,fun i hi=>?_⟩⟩
      have:=g2 (i+1) (by simpa using hi)
      rw [sh] at this
      exact this
theorem zkv {r:Rst} {hs:List Int}:goodP r hs↔Asg r.sts r.room hs:=(ywz r.sts r.room hs).symm
theorem ynj: ∀ {ss:List Str4} {hs:List Int} {room:List Int},hs.length=ss.length→costK ⟨room,ss⟩ hs hs.length=costH ss hs
  | [],[],_,_=>rfl
  | s::ss,h::t,room,e=>by
    have sh: ∀ i,costK ⟨room,s::ss⟩ (h::t) (i+1)=stepsI s h+costK ⟨room,ss⟩ t i:=by
      intro i
      induction i with
      | zero=>show (0:Int)+stepsI s h=stepsI s h+0;omega
      | succ i ih=>rw [costK,ih,costK];exact Int.add_assoc _ _ _
    rw [List.length_cons,sh,ynj (by simpa using e)];rfl
theorem rosB.lohi {r:Rst} (h:rosB r): ∀ s∈r.sts,0≤s.lo∧s.lo≤s.hi:=fun s hs=>by have:=h.2.2.2 s hs;unfold okS at this;omega
section
variable {r:Rst} (hB:rosB r) (hne:0≤(bestF r.sts r.room).2)
include hB hne
theorem ziv:goodP r (rosF r.sts r.room):=zkv.2 (zev hB.lohi hne).1
theorem zjq:costK r (rosF r.sts r.room) r.sts.length=(bestF r.sts r.room).1:=by
  have h:=ynj (ss:=r.sts) (hs:=rosF r.sts r.room) (room:=r.room) (xpj _ _)
  rw [xpj] at h
  exact h.trans (zev hB.lohi hne).2
theorem wlv (l:List Int) (g:goodP r l):costK r (rosF r.sts r.room) r.sts.length≤costK r l r.sts.length:=by
  rw [zjq hB hne]
  have h:=ynj (ss:=r.sts) (hs:=l) (room:=r.room) g.1
  rw [g.1] at h
  exact Int.le_trans (yqv hB.lohi (zkv.1 g)).2 (Int.le_of_eq h.symm)
theorem wlw {i:Nat} (hi:i<r.sts.length):0≤(rosF r.sts r.room).getD i 0∧(rosF r.sts r.room).getD i 0≤7:=by
  have g:=((ziv hB hne).2 i (by rw [xpj];exact hi)).1
  have:=hB.rng hi
  omega
end
def rowT (l:List Int) (i:Nat):By:=[mk i,32,mk (l.getD i 0)]
def rows (l:List Int):List By:=(List.range l.length).map (rowT l)
theorem xyw (l:List Int):(rows l).length=l.length:=by simp [rows]
theorem zej {l:List Int} {i:Nat} (h:i<l.length):(rows l).getD i []=rowT l i:=by
  rw [List.getD_eq_getElem?_getD,rows,List.getElem?_map,List.getElem?_range h];rfl
theorem ztw {l:List Int} {i:Nat} (h:i<l.length):(rows l).take i++[rowT l i]=(rows l).take (i+1):=by
  rw [List.take_succ_eq_append_getElem (by rw [xyw];exact h),← zej h,ytv (by rw [xyw];exact h)]
end Go.X.Hr
namespace Go.X.Hr
open Go.X Go.X.Kn Go.X.Cent
def DigL (l:List Int):Prop:=l.length≤6∧ ∀ i,i<l.length→0≤l.getD i 0∧l.getD i 0≤7
theorem DigL.row {l:List Int} (d:DigL l) {i:Nat} (h:i<l.length):(0≤(i:Int)∧(i:Int)≤9)∧0≤l.getD i 0∧l.getD i 0≤9:=by
  have:=d.2 i h;have:=d.1;omega
theorem yhv {l:List Int} (d:DigL l):chkT (rows l)=0:=by
  refine wiw (by rw [xyw];have:=d.1;omega) fun t ht=>?_
  obtain ⟨i,hi,rfl⟩:=List.mem_map.1 ht
  have hi:=List.mem_range.1 hi
  have r:=d.row hi
  have h1:=zax r.1
  have h2:=zax r.2
  refine ⟨show 3≤40 from by decide,fun b hb=>?_⟩
  have hb:b=mk i∨b=32∨b=mk (l.getD i 0):=by simpa [rowT] using hb
  rcases hb with rfl | rfl | rfl
  · omega
  · decide
  · omega
theorem file_nil:fileB []=[61,48,48,48,48]:=by decide +kernel
theorem wcw {l:List Int} (d:DigL l) {i:Nat} (h:i<l.length) {t:By} (e:t=rowT l i):addB (fileB ((rows l).take i)) t=(fileB ((rows l).take (i+1)),0):=by
  rw [e,← zej h];exact wiq (yhv d) (by rw [xyw];exact h)
theorem ypv {l:List Int} (d:DigL l) (i:Nat):(fileB ((rows l).take i)).length≤1379:=by
  have h:=yvk (yhv d) i
  have:=zbj h
  rw [xsx h] at this;exact this
theorem xsv {l:List Int} (d:DigL l) {i:Nat} (h:l.length≤i):fileB ((rows l).take i)=(writeB (rows l)).1:=by
  rw [List.take_of_length_le (by rw [xyw];exact h),xsx (yhv d)]
theorem zuq {l:List Int} (d:DigL l) {i:Nat} (h:i<l.length):splitK (rowT l i) 3=[[mk i],[mk (l.getD i 0)]]:=by
  have r:=d.row h
  have h1:=zax r.1
  have h2:=zax r.2
  exact zsw (by omega) (by omega)
theorem wdj {r:Rst} (hB:rosB r) (hne:0≤(bestF r.sts r.room).2):DigL (rosF r.sts r.room):=
  ⟨by rw [xpj];exact hB.2.2.1,fun i hi=>wlw hB hne (by rw [xpj] at hi;exact hi)⟩
end Go.X.Hr
namespace Go.X
open Go.Conc

section
variable {P:Program} {b:Frame} {tm:Array Value} {df:List Deferred} {k:List Item} {cs:List Frame} {Φ:Heap→Prop} {Stop:Goroutine→Heap→Prop}
theorem wkv {ops:Array Oper} {i:Nat} {rest:List Nat} {o:Oper} (ho:ops[i]?=some o) (hw:Region.wanted o (yielded ops tm)=true) (hk:b.kind≠ .early)
    (hnd:(match o.op with | .defer _=>false | _=>true)=true)
    (x: ∀ h,Φ h→ ∀ w:World,w.heap=h→ ∃ v w' es,(execOp (ev tm) o).runT P w #[]=(.ok (.value v) w',es)∧Calm w w'∧Reach P .lone (G (F b (put tm o.dst v) df (.inRegion ops rest::k)) cs) w'.heap Stop):
    RS P .lone (G (F b tm df (.inRegion ops (i::rest)::k)) cs) Φ Stop:=by
  intro h y w hwh
  obtain ⟨v,w',es,e1,c,r⟩:=x h y w hwh
  have hk':(b.kind == CallKind.early)=false:=by simpa using hk
  have he:Frame.eval (F b tm df (.inRegion ops (i::rest)::k))=ev tm:=zlk
  have hs:stepG P true (G (F b tm df (.inRegion ops (i::rest)::k)) cs) w=stepG.apply P true (F b tm df (.inRegion ops (i::rest)::k)) cs none (execOp (ev tm) o) w:=by
    simp only [F] at he
    simp only [G,stepG,stepG.exec,F,ho,Option.map_some,hw,Option.getD_some,if_true,stepG.oper,Frame.oper?,he]
    cases hrn:b.roundOf with
    | none=>rfl
    | some l=>
      revert hnd
      cases o.op <;> simp
  have hgo:stepG P true (G (F b tm df (.inRegion ops (i::rest)::k)) cs) w= .go (G ((F b tm df (.inRegion ops (i::rest)::k)).finish v) cs) w' (seen P b.fn es):=by
    rw [hs]
    simp only [stepG.apply,if_true,e1,GStep.after,G,Array.append_empty]
    rw [if_neg (show ¬ ((F b tm df (.inRegion ops (i::rest)::k)).kind == CallKind.early)=true from fun z=>by rw [show (F b tm df (.inRegion ops (i::rest)::k)).kind=b.kind from rfl,hk'] at z;cases z)]
    rfl
  rw [xgz ho] at hgo
  obtain ⟨g2,w2,a2,b2,c2⟩:=r w' rfl
  exact ⟨g2,w2,.head (yxv rfl hgo) a2,b2,c.trans c2⟩
end
end Go.X
namespace Go.X
open Go.Conc

section
variable {P:Program} {f:FuncId} {r:Rd} {df:List Deferred} {k:List Item} {cs:List Frame} {Stop:Goroutine→Heap→Prop} {ops rest:List Oper} {tm:List Value}
  {h₀:Heap} {B₀:List Nat} {p:PHeap} {L:Pcs} {ty:TypeId} {pos:String} {aft:Array Edge} {gd:Option (Nat × Bool)}
theorem wdk {o:Oper} {Φ:Heap→Prop} {K:Value→Heap→Prop} (hm:Met ops tm o true) (hd:noDefer o.op=true) (hx: ∀ h,Φ h→ ∀ w:World,w.heap=h→ ∃ v w',(execOp (evl tm) o).run P w= .ok (.value v) w'∧Calm w w'∧K v w'.heap)
    (n: ∀ v,RL P .lone f r df k cs Stop ops rest (putl tm o.dst v) (K v)):RL P .lone f r df k cs Stop ops (o::rest) tm Φ:=by
  intro pre e
  rw [yev]
  refine wkv (zfx e) (xix hm) yaz (by revert hd;cases o.op <;> simp [noDefer]) fun h y w hw=>?_
  rw [xlw]
  obtain ⟨v,w',e1,c,hK⟩:=hx h y w hw
  refine ⟨v,w',((execOp (evl tm) o).runT P w #[]).2,Prod.ext ?_ rfl,c,?_⟩
  · rw [Sem.runT_fst];exact e1
  have:=n v (pre++[o]) (by simp [e]) w'.heap hK
  rw [xgj]
  simpa [FL] using this

theorem zux {dd:Nat} {src dst e:TypeId} {x:Operand} {l:List UInt8} (hm:Met ops tm ⟨some dd,.convert src dst x,ty,pos,aft,gd⟩ true) (hs:P.underlying src=some .string) (hd:P.underlying dst=some (.slice e)) (he:P.underlying e=some (.int .u8)) (hx:evl tm x=sv l)
    (n: ∀ b cap rest' z,((bcs l).flatten++rest').length=cap→RL P .lone f r df k cs Stop ops rest (tm.set dd (.slice (some ⟨b,0,none⟩) l.length cap)) (fun h=>St h₀ B₀ p h ((b,.cells ((bcs l).flatten++rest').toArray e z)::L))):
    RL P .lone f r df k cs Stop ops (⟨some dd,.convert src dst x,ty,pos,aft,gd⟩::rest) tm (fun h=>St h₀ B₀ p h L):=by
  have hf: ∀ l:List UInt8,(bcs l).flatten=l.map fun b=>Value.int .u8 ((b.toNat:Nat):Int):=fun l=>by
    induction l with
    | nil=>rfl
    | cons a l ih=>simp only [bcs] at ih ⊢;simp [ih]
  refine wdk (K:=fun v h=>∃ b cap rest' z,((bcs l).flatten++rest').length=cap∧v= .slice (some ⟨b,0,none⟩) l.length cap∧St h₀ B₀ p h ((b,.cells ((bcs l).flatten++rest').toArray e z)::L)) hm rfl (fun h s w hw=>?_)
    fun v=>xgx fun b=>xgx fun cap=>xgx fun rest'=>xgx fun z=>xez fun h1=>xez fun h2=>by subst h2;exact n b cap rest' z h1
  subst hw
  have hrun:=Lib.run_convert_string_bytes (P:=P) w src dst e (bs l) hs hd he
  have hg:l.length≤grownCap w (bs l).size 0 e:=by have:=grownCap_ge w (bs l).size 0 e;rw [xqz] at this ⊢;exact this
  have hc:Lib.bytesCells w e (bs l)=((bcs l).flatten++List.replicate (grownCap w (bs l).size 0 e-l.length) (Value.int .u8 0)).toArray:=by
    unfold Lib.bytesCells
    apply Array.ext'
    rw [hf,xqz]
    simp [bs]
  refine ⟨.slice (some ⟨w.heap.size,0,none⟩) (bs l).size (grownCap w (bs l).size 0 e),Lib.bytesWorld w e (bs l),?_,?_,w.heap.size,grownCap w (bs l).size 0 e,List.replicate (grownCap w (bs l).size 0 e-l.length) (Value.int .u8 0),((Lib.bytesCells w e (bs l)).size,(Lib.bytesCells w e (bs l)).size+1),?_,by rw [xqz],?_⟩
  · simp only [execOp,hx,sv]
    simp [hrun]
  · exact ⟨by simp [Lib.bytesWorld,World.freeze];rfl,by simp [Lib.bytesWorld,World.freeze],by simp [Lib.bytesWorld,World.freeze];rfl,by rw [Lib.bytesWorld_size];omega⟩
  · rw [hf,List.length_append,List.length_map,List.length_replicate]
    omega
  · have hn:=Lib.bytesWorld_at_new w e (bs l)
    have nw:New w.heap (Lib.bytesWorld w e (bs l)).heap [(w.heap.size,.cells ((bcs l).flatten++List.replicate (grownCap w (bs l).size 0 e-l.length) (Value.int .u8 0)).toArray e ((Lib.bytesCells w e (bs l)).size,(Lib.bytesCells w e (bs l)).size+1))]:=by
      refine ⟨⟨by rw [Lib.bytesWorld_size];omega,fun b hb=>Lib.bytesWorld_at_old w e (bs l) b hb⟩,fun x hx=>?_,by simp⟩
      rw [List.mem_singleton.1 hx]
      refine ⟨?_,Nat.le_refl _⟩
      rw [hn,← hc]
    exact s.callN nw
def Byts (p:PHeap) (a:Option Addr) (n:Nat) (l:List UInt8):Prop:=Sl p a n 1 (bcs l)
theorem Byts.len {a:Option Addr} {n:Nat} {l:List UInt8} (s:Byts p a n l):l.length=n:=by have:=Sl.len s;simpa [bcs] using this
theorem Byts.mono {p':PHeap} {a:Option Addr} {n:Nat} {l:List UInt8} (hp:PLe p p') (s:Byts p a n l):Byts p' a n l:=Sl.mono hp s
theorem Byts.ne {a:Option Addr} {n:Nat} {l:List UInt8} (s:Byts p a n l) (hk:0<n):a=some (adr a):=Sl.ne s hk
theorem Byts.get {a:Option Addr} {n i:Nat} {l:List UInt8} (s:Byts p a n l) (hk:i<n):pcell p ((adr a).add (i*1))=some (.int .u8 (((l.getD i 0).toNat:Nat):Int)):=by
  have hl:=s.len
  exact Sl.get s i [.int .u8 (((l.getD i 0).toNat:Nat):Int)] (by rw [bcs,List.getElem?_map,List.getD_eq_getElem?_getD,List.getElem?_eq_getElem (by omega)];rfl) 0 _ rfl
theorem yzq {dd:Nat} {src dst e:TypeId} {x:Operand} {l:List UInt8} (hm:Met ops tm ⟨some dd,.convert src dst x,ty,pos,aft,gd⟩ true) (hs:P.underlying src=some .string) (hd:P.underlying dst=some (.slice e)) (he:P.underlying e=some (.int .u8)) (hx:evl tm x=sv l)
    (n: ∀ p' a cap,PLe p p'→Byts p' a l.length l→l.length≤cap→RL P .lone f r df k cs Stop ops rest (tm.set dd (.slice a l.length cap)) (fun h=>St h₀ B₀ p' h L)):
    RL P .lone f r df k cs Stop ops (⟨some dd,.convert src dst x,ty,pos,aft,gd⟩::rest) tm (fun h=>St h₀ B₀ p h L):=by
  refine zux hm hs hd he hx fun b cap rest' z hcap=>fun pre e h s=>?_
  obtain ⟨le,s'⟩:=s.last
  have hw: ∀ e∈bcs l,e.length=1:=fun e he=>by
    obtain ⟨x,_,rfl⟩:=List.mem_map.1 he
    rfl
  have hfl:=xiv hw
  refine n _ (some ⟨b,0,none⟩) cap le ⟨by simp [bcs],hw,fun _=>rfl,fun i e' hi j x hj=>?_⟩ (by rw [← hcap,List.length_append,hfl,yaq];omega) pre e h s'
  show pcell _ (((⟨b,0,none⟩:Addr).add (i*1)).add j)=_
  rw [xjv,xjv]
  unfold pcell
  simp only [xyz,Option.isSome_none,Bool.false_eq_true,if_false,List.getElem?_toArray,Nat.zero_add]
  have:=xlk hw hi hj
  rw [List.getElem?_append_left (List.getElem?_eq_some_iff.1 this).1]
  exact this
end
end Go.X
namespace Go.X
open Go.Conc

section
variable {P:Program} {h h₀:Heap} {B₀:List Nat} {p:PHeap} {A X C:Pcs} {tm:List Value} {d:Option Tmp} {ty:TypeId} {pos:String} {aft:Array Edge} {gd:Option (Nat × Bool)}
theorem yxq (f:Value→ByteArray→Sem (ForInStep ByteArray)) (hf: ∀ (n:Int) (r:ByteArray) (K:ForInStep ByteArray→Heap→Prop),K (.yield (r.push (UInt8.ofNat n.toNat))) h→wpS P (f (.int .u8 n) r) h K):
    ∀ (l:List UInt8) (m:List UInt8) (K:ByteArray→Heap→Prop),K (bs (m++l)) h→wpS P (forIn (l.map fun b=>Value.int .u8 ((b.toNat:Nat):Int)) (bs m) f) h K:=by
  intro l
  induction l with
  | nil=>intro m K k;rw [List.append_nil] at k;exact xbz k
  | cons b l ih=>
    intro m K k
    rw [List.map_cons,List.forIn_cons]
    refine xbq (hf _ _ _ ?_)
    have e:(bs m).push (UInt8.ofNat (((b.toNat:Nat):Int)).toNat)=bs (m++[b]):=by
      apply ByteArray.ext
      simp [bs]
    rw [e]
    refine ih _ _ ?_
    rw [List.append_assoc]
    exact k
theorem xvj {src dst e:TypeId} {x:Operand} {v:Value} {l:List UInt8} (o:OwnS e 1 v (bcs l) X) (s:St h₀ B₀ p h (A++(X++C))) (hs:P.underlying src=some (.slice e)) (hd:P.underlying dst=some .string) (he:P.underlying e=some (.int .u8)) (hx:evl tm x=v):
    Exd P tm ⟨d,.convert src dst x,ty,pos,aft,gd⟩ h (sv l):=by
  refine xqx (s:=convert src dst v) (by simp only [execOp,hx]) ?_
  unfold convert
  refine xbq (xdv hs ?_)
  refine xbq (xdv hd ?_)
  obtain ⟨hw,⟨rfl,h0,rfl⟩ | ⟨b,cs,cap,rest,rfl,rfl,hcs,hlen,_⟩⟩:=o
  · have:l=[]:=by simpa [bcs] using h0
    subst this
    simp only
    refine xbq (xdv he ?_)
    exact xbz ⟨rfl,rfl⟩
  · simp only
    refine xbq (xdv he ?_)
    simp only [Conv.bytesToString]
    have hfl:=xiv hw
    have hL:(A++([(b,Obj.cells (List.toArray cs) e (0,0))]++C))[A.length]?=some (b,.cells (List.toArray cs) e (0,0)):=by
      rw [List.getElem?_append_right (Nat.le_refl _)];simp
    refine xbq (xnz (vs:=(bcs l).flatten) (by rw [hfl];simp) (fun j u hj=>?_) ?_)
    · rw [xjv]
      refine s.ocell hL ?_
      rw [List.getElem?_toArray,hcs,Nat.zero_add,List.getElem?_append_left (List.getElem?_eq_some_iff.1 hj).1]
      exact hj
    · have hf: ∀ l:List UInt8,(bcs l).flatten=l.map fun b=>Value.int .u8 ((b.toNat:Nat):Int):=fun l=>by
        induction l with
        | nil=>rfl
        | cons a l ih=>simp only [bcs] at ih ⊢;simp [ih]
      rw [hf]
      simp only [List.forIn_toArray]
      refine xbq ?_
      exact yxq _ (fun n r K k=>xbz k) l [] _ (xbz ⟨rfl,rfl⟩)
theorem zmk {z:Int} (h0:0≤z) (h1:z≤255):[[Value.int .u8 z]]=bcs [UInt8.ofNat z.toNat]:=by
  have e:(((UInt8.ofNat z.toNat).toNat:Nat):Int)=z:=by
    rw [UInt8.toNat_ofNat_of_lt' (by show z.toNat<256;omega)]
    omega
  simp only [bcs,List.map_cons,List.map_nil,e]
end
end Go.X
namespace Go.X
open Go.Conc

def tkV (v:Value) (k:Nat):Value:=match v with
  | .slice a _ c=>.slice a k c
  | v=>v
theorem OwnS.take {T:TypeId} {w:Nat} {v:Value} {es:List (List Value)} {X:Pcs} (o:OwnS T w v es X) {k:Nat} (hk:k≤es.length):OwnS T w (tkV v k) (es.take k) X:=by
  obtain ⟨h1,⟨rfl,rfl,rfl⟩ | ⟨b,cs,cap,rest,rfl,rfl,hcs,hlen,hcap⟩⟩:=o
  · obtain rfl:k=0:=by simpa using hk
    exact ⟨by simp,.inl ⟨rfl,rfl,rfl⟩⟩
  · refine ⟨fun e he=>h1 e (List.mem_of_mem_take he),.inr ⟨b,cs,cap,(es.drop k).flatten++rest,?_,rfl,?_,hlen,hcap⟩⟩
    · simp [tkV,Nat.min_eq_left hk]
    · rw [hcs,← List.append_assoc,← List.flatten_append,List.take_append_drop]
section
variable {P:Program} {h:Heap} {tm:List Value} {d:Option Tmp} {ty:TypeId} {pos:String} {aft:Array Edge} {gd:Option (Nat × Bool)}
theorem zzq {t e:TypeId} {x:Operand} {hi:Option Operand} {T:TypeId} {w k n:Nat} {v:Value} {es:List (List Value)} {X:Pcs} (hw:0<w) (o:OwnS T w v es X) (hn:es.length=n) (ht:P.underlying t=some (.slice e)) (hs:sizeT P e=some w) (hx:evl tm x=v)
    (bh:Bd tm hi n k) (hk:k≤n):Exd P tm ⟨d,.slice t x none hi none,ty,pos,aft,gd⟩ h (tkV v k):=by
  obtain ⟨h1,⟨rfl,rfl,rfl⟩ | ⟨b,cs,cap,rest,rfl,rfl,hcs,hlen,hcap⟩⟩:=o
  · have hn0:n=0:=hn.symm
    subst hn0
    obtain rfl:k=0:=by omega
    have:=zbv (P:=P) (tm:=tm) (d:=d) (ty:=ty) (pos:=pos) (aft:=aft) (gd:=gd) (h:=h) (w:=w) ht hs hx (.none _) bh (Nat.le_refl 0) (Nat.le_refl 0)
    exact this
  · subst hn
    have hle:k≤cap:=by
      have:=xiv h1
      rw [hcs,List.length_append,this] at hlen
      exact Nat.le_trans hk (Nat.le_of_mul_le_mul_right (by omega) hw)
    have:=zbv (P:=P) (tm:=tm) (d:=d) (ty:=ty) (pos:=pos) (aft:=aft) (gd:=gd) (h:=h) (w:=w) ht hs hx (.none _) bh (Nat.zero_le _) hle
    have e:cutA (some (⟨b,0,none⟩:Addr)) cap 0 w=some ⟨b,0,none⟩:=by
      unfold cutA
      split
      · rfl
      · simp [Addr.add]
    rw [e] at this
    exact this
theorem zvw {md:Md} {ops:List Oper} {tm':List Value} {h₀:Heap} {B₀:List Nat} {p:PHeap} {A U:Pcs} {q:Value→Pcs→Prop} {o:Oper} {v:Value} (hm:Met ops tm' o true) (hx: ∀ C h,St h₀ B₀ p h (U++(A++C))→Exd P tm' o h v) (hq:q v []):Mix P md ops tm' h₀ B₀ p A U q o:=
  .inl ⟨hm,fun C h s=>.inl (xjk (hx C h s) fun _ _ ⟨v',e1,e2,e3⟩=>⟨v',.inl e1,[],by rw [e2];exact hq,by rw [e3];exact s.dropA⟩)⟩
theorem St.one1 {h₀ h:Heap} {B₀:List Nat} {p:PHeap} {X C:Pcs} (s:St h₀ B₀ p h ((X++[])++C)):St h₀ B₀ p h (([]:Pcs)++(X++C)):=by simpa using s
theorem St.assoc {h₀ h:Heap} {B₀:List Nat} {p:PHeap} {A X C:Pcs} (s:St h₀ B₀ p h (A++(X++C))):St h₀ B₀ p h ((A++X)++C):=by rwa [List.append_assoc]
theorem St.assoc' {h₀ h:Heap} {B₀:List Nat} {p:PHeap} {A X C:Pcs} (s:St h₀ B₀ p h ((A++X)++C)):St h₀ B₀ p h (A++(X++C)):=by rwa [List.append_assoc] at s
end
end Go.X
namespace Go.X
open Go.Conc

def OwnB (v:Value) (l:List UInt8) (X:Pcs):Prop:=∃ b cs cap rest,v= .slice (some ⟨b,0,none⟩) l.length cap∧X=[(b,.cells (List.toArray cs) 5 (cap,cap+1))]∧cs=(bcs l).flatten++rest∧cs.length=cap
theorem ywx (l:List UInt8):(bcs l).flatten=l.map fun b=>Value.int .u8 ((b.toNat:Nat):Int):=by
  induction l with
  | nil=>rfl
  | cons a l ih=>simp only [bcs] at ih ⊢;simp [ih]
section
variable {P:Program} {f:FuncId} {r:Rd} {df:List Deferred} {k:List Item} {cs:List Frame} {Stop:Goroutine→Heap→Prop} {ops rest:List Oper} {tm:List Value}
  {h₀:Heap} {B₀:List Nat} {p:PHeap} {A C:Pcs} {L:Pcs} {ty:TypeId} {pos:String} {aft:Array Edge} {gd:Option (Nat × Bool)} {v:Value} {l:List UInt8} {X:Pcs}
theorem znj {b off i z1 z2:Nat} {T:TypeId} {h:Heap} {cs:List Value} {u:Value} {K:Unit→Heap→Prop} (s:St h₀ B₀ p h L) (hL:L[i]?=some (b,.cells cs.toArray T (z1,z2))) (hlen:off<cs.length) (hz:off<z1) (h1:isOne u=true)
    (n: ∀ h',St h₀ B₀ p h' (L.set i (b,.cells (cs.set off u).toArray T (z1,z2)))→K () h'):wpS P (storeCells ⟨b,off,none⟩ [u] 0) h K:=by
  unfold storeCells
  refine xbq ?_
  rw [xjv,Nat.add_zero]
  refine ⟨rfl,h1,⟨cs[off],s.ocell hL (by simp)⟩,?_,?_⟩
  · unfold frozenAt;rw [s.at hL]
    have:decide (z1≤off)=false:=decide_eq_false (by omega)
    simp [this]
  · have s':=s.store (off:=off) (v:=u) hL
    rw [xxk] at s'
    exact xbz (n _ s')
theorem OwnB.store {i:Nat} {c:UInt8} {h:Heap} {K:Heap→Prop} {T:TypeId} {x y:Operand} {u:Int} (o:OwnB v l X) (s:St h₀ B₀ p h (A++(X++C))) (hs:sizeT P T=some 1) (hx:evl tm x= .pointer (some ((adrV v).add (i*1)))) (hy:evl tm y= .int .u8 u) (hu:u=((c.toNat:Nat):Int)) (hi:i<l.length)
    (n: ∀ X' h',OwnB v (l.set i c) X'→St h₀ B₀ p h' (A++(X'++C))→K h'):wpS P (execOp (evl tm) ⟨none,.store T x y,ty,pos,aft,gd⟩) h fun n h'=>n= .skip∧K h':=by
  obtain ⟨b,cs,cap,rest,rfl,rfl,hcs,hlen⟩:=o
  have hx':evl tm x= .pointer (some ⟨b,i,none⟩):=by rw [hx];simp only [adrV];rw [xjv,Nat.zero_add,Nat.mul_one]
  have hfl:(bcs l).flatten.length=l.length:=by rw [ywx];simp
  have hle:l.length≤cap:=by rw [← hlen,hcs,List.length_append,hfl];omega
  simp only [execOp,hx',hy]
  refine xbq ?_
  unfold Instr.storeAt
  refine xbq (xbz ?_)
  unfold storeVar
  refine xbq (xik hs ?_)
  rw [if_neg (by simp [Value.cells])]
  have hL:(A++([(b,Obj.cells (List.toArray cs) 5 (cap,cap+1))]++C))[A.length]?=some (b,.cells (List.toArray cs) 5 (cap,cap+1)):=by
    rw [List.getElem?_append_right (Nat.le_refl _)];simp
  have hc:(Value.int IntKind.u8 u).cells.toList=[.int .u8 u]:=rfl
  rw [hc]
  refine znj s hL (by omega) (by omega) rfl fun h' s'=>?_
  refine xbz ⟨rfl,n [(b,.cells (cs.set i (.int .u8 u)).toArray 5 (cap,cap+1))] h' ⟨b,cs.set i (.int .u8 u),cap,rest,by simp,rfl,?_,by simpa using hlen⟩ ?_⟩
  · rw [hcs,List.set_append_left _ _ (by omega),ywx,ywx,List.map_set,hu]
  · have e6:(A++([(b,Obj.cells (List.toArray cs) 5 (cap,cap+1))]++C)).set A.length (b,.cells (cs.set i (.int .u8 u)).toArray 5 (cap,cap+1))=A++([(b,.cells (cs.set i (.int .u8 u)).toArray 5 (cap,cap+1))]++C):=by
      rw [List.set_append_right _ _ (Nat.le_refl _)];simp
    rw [e6] at s'
    exact s'
end
end Go.X
namespace Go.X
open Go.Conc
section
variable {P:Program} {h:Heap} {tm:List Value} {d:Option Tmp} {ty:TypeId} {pos:String} {aft:Array Edge} {gd:Option (Nat × Bool)}
end
end Go.X
namespace Go.Proofs.YtphalmjpbnffcaaGreatDoor
open Go.X Go.X.Kn Go.Conc
set_option maxRecDepth 10000
set_option synthInstance.maxSize 2000

set_option maxHeartbeats 2000000
theorem c30 (md:Md) (h:Heap) (n lo hi:Int):CallsX Tryz.prog md 30 #[.int .i64 (n),.int .i64 (lo),.int .i64 (hi)] h fun v h'=>v= .bool (decide (lo≤n∧n≤hi))∧Keep h h':=by
 refine xbv (Φ:=fun h_=>St h [] (fun _=>none) h_ []) Tryz.func30 rfl (tm:=zq1 (zq2 (zq8 []))) rfl ?_ (St.start h _ (fun _ _ e=>by cases e))
 intro c₀ cs Stop K
 refine fsr <| ro (xaq (v:=.bool (false)) rfl) <| ren <| xav <| ro (xax (v:=.int .i64 (n)) rfl) <| rt (xax (v:=.int .i64 (lo)) rfl) (tm':=zq1 (zq2 (zq8 []))) rfl ?_
 refine ro (xax (v:=.int .i64 (hi)) rfl) ?_
 refine xcw mn (first:=[]) (cap:=[]) rfl rfl fC8 (fun h_ H_=>c8 md _ (n) (lo) (hi)) rfl ?_
 refine rt (xaq (v:=.bool (decide (lo≤n∧n≤hi))) rfl) (tm':=zq1 (zq2 (zq4 _))) rfl <| xak ?_
 refine xcj Tryz.func30 rfl (vs:=[.bool (decide (lo≤n∧n≤hi))]) (fun h_ H_=>⟨.bool (decide (lo≤n∧n≤hi)),_,rfl,rfl,rfl⟩) (v:=.bool (decide (lo≤n∧n≤hi))) rfl ?_
 exact fun h_ H_=>K _ _ ⟨by first | rfl | simp [*],H_.kept⟩
theorem c35 (md:Md) (h:Heap) (n lo hi:Int):CallsX Tryz.prog md 35 #[.int .i64 (n),.int .i64 (lo),.int .i64 (hi)] h fun v h'=>v= .bool (decide (lo≤n∧n≤hi))∧Keep h h':=by
 refine xbv (Φ:=fun h_=>St h [] (fun _=>none) h_ []) Tryz.func35 rfl (tm:=zq1 (zq2 (zq4 (zq8 [])))) rfl ?_ (St.start h _ (fun _ _ e=>by cases e))
 intro c₀ cs Stop K
 refine fsr <| ro (xaq (v:=.bool (false)) rfl) <| ren <| xav <| ro (xax (v:=.int .i64 (lo)) rfl) <| rt (xax (v:=.int .i64 (n)) rfl) (tm':=zq1 (zq8 _)) rfl ?_
 refine ro (xyk rfl rfl) <| ro (xax (v:=.bool (decide (lo≤n))) rfl) ?_
 by_cases cc1:lo≤n
 ·
  refine xaj (ms rfl rfl (dtt cc1)) (fun h_ H_=>xax (v:=.int .i64 (n)) rfl) (tm':=zq1 (zq2 (zq4 (zq8 [])))) rfl ?_
  refine xaj (ms rfl rfl (dtt cc1)) (fun h_ H_=>xax (v:=.int .i64 (hi)) rfl) rfl ?_
  refine xaj (ms rfl rfl (dtt cc1)) (fun h_ H_=>xyk rfl rfl) rfl ?_
  refine rt (xbw rfl (dtt cc1) (v:=.bool (decide (n≤hi))) rfl) (tm':=zq1 (zq2 (zq4 (zq8 [])))) rfl <| ro (xaq (v:=.bool (decide (n≤hi))) rfl) <| xak ?_
  refine xcj Tryz.func35 rfl (vs:=[.bool (decide (n≤hi))]) (fun h_ H_=>⟨.bool (decide (n≤hi)),_,rfl,rfl,rfl⟩) (v:=.bool (decide (n≤hi))) rfl ?_
  exact fun h_ H_=>K _ _ ⟨by first | rfl | simp [*],H_.kept⟩
 ·
  refine rp (mo rfl rfl (dff cc1)) <| xck (mo rfl rfl (dff cc1)) (tm':=zq1 (zq2 (zq4 (zq8 [])))) rfl <| rp (mo rfl rfl (dff cc1)) <| ro (xdq rfl (dff cc1) (v:=.bool (false)) rfl) <| rt (xaq (v:=.bool (false)) rfl) (tm':=zq1 (zq2 (zq4 _))) rfl <| xak ?_
  refine xcj Tryz.func35 rfl (vs:=[.bool (false)]) (fun h_ H_=>⟨.bool (false),_,rfl,rfl,rfl⟩) (v:=.bool (false)) rfl ?_
  exact fun h_ H_=>K _ _ ⟨by first | rfl | simp [*],H_.kept⟩
theorem c31 (md:Md) (h:Heap) (p:PHeap) (hp:Per p h) (a:Option Addr) (ca:Nat) (A:Nat→Option Addr) (C:Nat→Nat) (b:Option Addr) (cb:Nat) (k:Bk) (_B:BookP p a k.cords.length A C b k.top.length k) (e:Option Addr) (m ce:Nat) (l:List Sp) (S:Sps p e m l) (hm:m≤40) (hb:2≤k.base∧k.base≤10):CallsX Tryz.prog md 31 #[.agg #[.int .i64 (k.base),.int .i64 (k.places),.slice a k.cords.length ca,.slice b k.top.length cb],.slice e m ce] h fun v h'=>v= .bool (decide (cordB k l))∧Keep h h':=by
 refine xbv (Φ:=fun h_=>St h [] p h_ []) Tryz.func31 rfl (tm:=zq1 (zq8 (zq32 []))) rfl ?_ (St.start h _ hp)
 intro c₀ cs Stop K
 have hs:=S.len
 refine fsr ?_
 refine xjq mn (v:=.agg #[.int .i64 (k.base),.int .i64 (k.places),.slice a k.cords.length ca,.slice b k.top.length cb]) rfl fun b1=>xcz (L':=[(b1,.cells #[.int .i64 (k.base),.int .i64 (k.places),.slice a k.cords.length ca,.slice b k.top.length cb] 25 (0,0))]) rfl ?_
 refine ro (xaq (v:=.bool (false)) rfl) <| ren <| fsr <| rt (xax (v:=.slice e m ce) rfl) (tm':=zq1 (zq2 (zq4 _))) rfl <| ro (xfj Tryz.underlying23 rfl) <| ro (xaw ypx rfl (a':=⟨b1,1,none⟩) rfl) ?_
 refine xaj mn (fun h_ H_=>xbx H_ tA3 rfl (i:=0) rfl (v:=.int .i64 (k.places)) rfl) (tm':=zq2 (zq8 _)) rfl ?_
 refine ro (xgw rfl rfl) <| xak ?_
 by_cases cc2:((m:Nat):Int)≠k.places
 ·
  refine xcx rfl (dtt cc2) <| fsr <| ro (xaq (v:=.bool (false)) rfl) <| xak ?_
  refine xcj Tryz.func31 rfl (vs:=[.bool (false)]) (fun h_ H_=>⟨.bool (false),_,rfl,rfl,rfl⟩) (v:=.bool (false)) rfl ?_
  exact fun h_ H_=>K _ _ ⟨by first | (rw [decide_eq_true (yjq (by omega) (fun i hi=>h1 i (by omega)))]) | (rw [decide_eq_false (xzv (by omega))]) | (rw [decide_eq_false (yvj (i:=j) (by omega) (yjx (by omega)))]),H_.kept⟩
 ·
  refine xcv rfl (dff cc2) <| xdz <| xbj <| fsr <| rt (xaq (v:=.int .i64 0) rfl) (tm':=zq2 (zq4 _)) rfl <| xak ?_
  refine xeq ?_
  refine xhk (m₀:=m-0) (fun m_ tm_ h_=>∃ (j:Nat),m_=m-j∧(∃ y3:Nat→Value,tm_=[.agg #[.int .i64 (k.base),.int .i64 (k.places),.slice a k.cords.length ca,.slice b k.top.length cb],.slice e m ce,.pointer (some ⟨b1,0,none⟩),undef,(y3 4),.int .i64 (((j:Nat):Int)),.slice e m ce,.int .i64 (((m:Nat):Int)),.pointer (some ⟨b1,1,none⟩),.int .i64 (k.places),.bool (decide (((m:Nat):Int)≠k.places)),(y3 11),(y3 12),(y3 13),(y3 14),(y3 15),(y3 16),(y3 17),(y3 18),(y3 19),(y3 20),(y3 21),(y3 22),(y3 23),(y3 24),(y3 25),(y3 26),(y3 27),(y3 28),(y3 29),(y3 30),(y3 31),(y3 32),(y3 33),(y3 34),(y3 35),(y3 36),(y3 37),(y3 38),(y3 39),(y3 40)])∧(j≤m)∧(∀ i,i<j→badS k (l.getD i spz)=false)∧St h [] p h_ ([(b1,.cells #[.int .i64 (k.base),.int .i64 (k.places),.slice a k.cords.length ca,.slice b k.top.length cb] 25 (0,0))])) (fun h_ H_=>⟨0,rfl,(y_of rfl),Nat.zero_le _,(fun i hi=>absurd hi (Nat.not_lt_zero i)),H_⟩) ?_
  intro m_ tm_ IH4
  refine xhq fun j=>xdj fun hm_=>xdj fun ht_=>xdj fun hkj=>xdj fun h1=>?_
  subst hm_;obtain ⟨y3,ht_⟩:=ht_;subst ht_
  refine xbj <| fsr <| ro (xax (v:=.int .i64 (((j:Nat):Int))) rfl) <| ro (xax (v:=.slice e m ce) rfl) <| rt (xfj Tryz.underlying23 rfl) (tm':=zq2 (zq4 (zq8 _))) rfl <| ro (xfk rfl rfl) ?_
  refine xak ?_
  by_cases cc5:((j:Nat):Int)<((m:Nat):Int)
  ·
   refine xcx rfl (dtt cc5) <| xdz <| xbj <| xeq <| xbj ?_
   by_cases cc6:0≤(l.getD j spz).2∧(l.getD j spz).2≤k.base-1
   ·
    refine xhw 21 [[],[],[0,1],[0,1,2],[0,1,2,3],[],[5],[5,6],[0,1,2,3,4,5,6,7],[0,1,2,3,4,5,6,7],[0,1,2,3,4,5,6,7,8,9],[],[],[11,12],[11,12,13],[11,12,13,14],[],[0,1,2,3,4,5,6,7,8,9],[0,1,2,3,4,5,6,7,8,9,16,17],[0,1,2,3,4,5,6,7,8,9,16,17,18],[0,1,2,3,4,5,6,7,8,9,16,17,18,19],[0,1,2,3,4,5,6,7,8,9,11,12,13,14,15,16,17,18,19,20],[0,1,2,3,4,5,6,7,8,9,11,12,13,14,15,16,17,18,19,20,21],[]] mixed (by kernel_rfl) (Nat.le_of_ble_eq_true rfl) ?_
    refine wt (xax (v:=.slice e m ce) rfl) (tm':=zq2 (zq16 _)) rfl <| wo (xax (v:=.int .i64 (((j:Nat):Int))) rfl) ?_
    refine wt (xdx (i:=j) Tryz.underlying23 tS68 (xlx e m ce (S.ne (by omega))) rfl (by omega)) (tm':=zq4 (zq16 _)) rfl ?_
    refine wo (xaw ypq rfl (a':=((adr e).add (j*2)).add 1) rfl) ?_
    refine xfq mn (fun h_ H_=>xdk H_ tA3 rfl (v:=.int .i64 ((l.getD j spz).2)) (S.hi (by omega))) (tm':=zq2 (zq4 (zq16 _))) rfl ?_
    refine wo (xaw ygj rfl (a':=⟨b1,0,none⟩) rfl) ?_
    refine xfq mn (fun h_ H_=>xbx H_ tA3 rfl (i:=0) rfl (v:=.int .i64 (k.base)) rfl) (tm':=zq8 (zq16 _)) rfl ?_
    refine wo (xlv rfl rfl (wr (by omega))) ?_
    refine xox mn (first:=[]) (cap:=[]) rfl rfl fC30 (fun h_ H_=>(c30 md _ ((l.getD j spz).2) (0) (k.base-1)).mono fun v_ h2_ ⟨e_,k_⟩=>⟨e_,H_.call k_⟩) (tm':=zq2 (zq8 (zq16 _))) rfl ?_
    refine wo (xfw rfl) <| wt (xax (v:=.bool (!(decide (0≤(l.getD j spz).2∧(l.getD j spz).2≤k.base-1)))) rfl) (tm':=zq1 (zq8 (zq32 []))) rfl ?_
    refine xfq (ms rfl rfl (xej (dtt cc6))) (fun h_ H_=>xax (v:=.slice e m ce) rfl) rfl ?_
    refine xfq (ms rfl rfl (xej (dtt cc6))) (fun h_ H_=>xax (v:=.int .i64 (((j:Nat):Int))) rfl) (tm':=zq1 (zq8 (zq32 []))) rfl ?_
    refine xfq (ms rfl rfl (xej (dtt cc6))) (fun h_ H_=>xdx (i:=j) Tryz.underlying23 tS68 (xlx e m ce (S.ne (by omega))) rfl (by omega)) rfl ?_
    refine xfq (ms rfl rfl (xej (dtt cc6))) (fun h_ H_=>xaw zsx rfl (a':=(adr e).add (j*2)) rfl) (tm':=zq1 (zq8 (zq32 []))) rfl ?_
    refine xfq (ms rfl rfl (xej (dtt cc6))) (fun h_ H_=>xdk H_ tA3 rfl (v:=.int .i64 ((l.getD j spz).1)) (S.lo (by omega))) rfl ?_
    refine xfq (ms rfl rfl (xej (dtt cc6))) (fun h_ H_=>xax (v:=.slice e m ce) rfl) (tm':=zq1 (zq8 (zq32 []))) rfl ?_
    refine xfq (ms rfl rfl (xej (dtt cc6))) (fun h_ H_=>xax (v:=.int .i64 (((j:Nat):Int))) rfl) rfl ?_
    refine xfq (ms rfl rfl (xej (dtt cc6))) (fun h_ H_=>xdx (i:=j) Tryz.underlying23 tS68 (xlx e m ce (S.ne (by omega))) rfl (by omega)) (tm':=zq1 (zq8 (zq32 []))) rfl ?_
    refine xfq (ms rfl rfl (xej (dtt cc6))) (fun h_ H_=>xaw ypq rfl (a':=((adr e).add (j*2)).add 1) rfl) rfl ?_
    refine xfq (ms rfl rfl (xej (dtt cc6))) (fun h_ H_=>xdk H_ tA3 rfl (v:=.int .i64 ((l.getD j spz).2)) (S.hi (by omega))) (tm':=zq1 (zq8 (zq32 []))) rfl ?_
    refine xlq rfl ?_
    refine xcw (ms rfl rfl (xej (dtt cc6))) (first:=[]) (cap:=[]) rfl rfl fC30 (fun h_ H_=>c30 md _ ((l.getD j spz).1) (0) ((l.getD j spz).2)) rfl ?_
    refine xaj (ms rfl rfl (xej (dtt cc6))) (fun h_ H_=>xfw rfl) rfl ?_
    refine rt (xdq rfl (xej (dtt cc6)) (v:=.bool (!(decide (0≤(l.getD j spz).1∧(l.getD j spz).1≤(l.getD j spz).2)))) rfl) (tm':=zq1 (zq8 (zq32 []))) rfl <| xak ?_
    by_cases cc7:0≤(l.getD j spz).1∧(l.getD j spz).1≤(l.getD j spz).2
    ·
     refine xcv rfl (xej (dtt cc7)) <| xdz <| xex <| xav <| ro (xax (v:=.int .i64 (((j:Nat):Int))) rfl) ?_
     refine ro (xev rfl rfl (n:=((j+1:Nat):Int)) (wr (by omega))) ?_
     refine rt (xaq (v:=.int .i64 (((j+1:Nat):Int))) rfl) (tm':=zq2 (zq4 _)) rfl <| xak ?_
     exact fun h_ H_=>IH4 _ _ (by omega) h_ ⟨j+1,rfl,(y_of rfl),(by omega),(xrz h1 (wpz (by omega) (by omega))),H_⟩
    ·
     refine xcx rfl (xek (dff cc7)) <| fsr <| ro (xaq (v:=.bool (false)) rfl) <| xak ?_
     refine xcj Tryz.func31 rfl (vs:=[.bool (false)]) (fun h_ H_=>⟨.bool (false),_,rfl,rfl,rfl⟩) (v:=.bool (false)) rfl ?_
     exact fun h_ H_=>K _ _ ⟨by first | (rw [decide_eq_true (yjq (by omega) (fun i hi=>h1 i (by omega)))]) | (rw [decide_eq_false (xzv (by omega))]) | (rw [decide_eq_false (yvj (i:=j) (by omega) (yjx (by omega)))]),H_.kept⟩
   ·
    refine xhw 21 [[],[],[0,1],[0,1,2],[0,1,2,3],[],[5],[5,6],[0,1,2,3,4,5,6,7],[0,1,2,3,4,5,6,7],[0,1,2,3,4,5,6,7,8,9],[],[],[11,12],[11,12,13],[11,12,13,14],[],[0,1,2,3,4,5,6,7,8,9],[0,1,2,3,4,5,6,7,8,9,16,17],[0,1,2,3,4,5,6,7,8,9,16,17,18],[0,1,2,3,4,5,6,7,8,9,16,17,18,19],[0,1,2,3,4,5,6,7,8,9,11,12,13,14,15,16,17,18,19,20],[0,1,2,3,4,5,6,7,8,9,11,12,13,14,15,16,17,18,19,20,21],[]] mixed (by kernel_rfl) (Nat.le_of_ble_eq_true rfl) ?_
    refine wt (xax (v:=.slice e m ce) rfl) (tm':=zq2 (zq16 _)) rfl <| wo (xax (v:=.int .i64 (((j:Nat):Int))) rfl) ?_
    refine wt (xdx (i:=j) Tryz.underlying23 tS68 (xlx e m ce (S.ne (by omega))) rfl (by omega)) (tm':=zq4 (zq16 _)) rfl ?_
    refine wo (xaw ypq rfl (a':=((adr e).add (j*2)).add 1) rfl) ?_
    refine xfq mn (fun h_ H_=>xdk H_ tA3 rfl (v:=.int .i64 ((l.getD j spz).2)) (S.hi (by omega))) (tm':=zq2 (zq4 (zq16 _))) rfl ?_
    refine wo (xaw ygj rfl (a':=⟨b1,0,none⟩) rfl) ?_
    refine xfq mn (fun h_ H_=>xbx H_ tA3 rfl (i:=0) rfl (v:=.int .i64 (k.base)) rfl) (tm':=zq8 (zq16 _)) rfl ?_
    refine wo (xlv rfl rfl (wr (by omega))) ?_
    refine xox mn (first:=[]) (cap:=[]) rfl rfl fC30 (fun h_ H_=>(c30 md _ ((l.getD j spz).2) (0) (k.base-1)).mono fun v_ h2_ ⟨e_,k_⟩=>⟨e_,H_.call k_⟩) (tm':=zq2 (zq8 (zq16 _))) rfl ?_
    refine wo (xfw rfl) <| wt (xax (v:=.bool (!(decide (0≤(l.getD j spz).2∧(l.getD j spz).2≤k.base-1)))) rfl) (tm':=zq1 (zq8 (zq32 []))) rfl <| wp (mo rfl rfl (xek (dff cc6))) <| xrw (mo rfl rfl (xek (dff cc6))) (tm':=zq1 (zq8 (zq32 []))) rfl <| wp (mo rfl rfl (xek (dff cc6))) <| xrw (mo rfl rfl (xek (dff cc6))) (tm':=zq1 (zq8 (zq32 []))) rfl ?_
    refine wp (mo rfl rfl (xek (dff cc6))) <| xrw (mo rfl rfl (xek (dff cc6))) (tm':=zq1 (zq8 (zq32 []))) rfl <| wp (mo rfl rfl (xek (dff cc6))) <| xrw (mo rfl rfl (xek (dff cc6))) (tm':=zq1 (zq8 (zq32 []))) rfl <| wp (mo rfl rfl (xek (dff cc6))) <| xrw (mo rfl rfl (xek (dff cc6))) (tm':=zq1 (zq8 (zq32 []))) rfl ?_
    refine xlq rfl ?_
    refine rp (mo rfl rfl (xek (dff cc6))) <| xck (mo rfl rfl (xek (dff cc6))) (tm':=zq1 (zq8 (zq32 []))) rfl <| ro (xbw rfl (xek (dff cc6)) (v:=.bool (true)) rfl) <| xak <| xcx rfl rfl <| fsr ?_
    refine ro (xaq (v:=.bool (false)) rfl) <| xak ?_
    refine xcj Tryz.func31 rfl (vs:=[.bool (false)]) (fun h_ H_=>⟨.bool (false),_,rfl,rfl,rfl⟩) (v:=.bool (false)) rfl ?_
    exact fun h_ H_=>K _ _ ⟨by first | (rw [decide_eq_true (yjq (by omega) (fun i hi=>h1 i (by omega)))]) | (rw [decide_eq_false (xzv (by omega))]) | (rw [decide_eq_false (yvj (i:=j) (by omega) (yjx (by omega)))]),H_.kept⟩
  ·
   refine xcv rfl (dff cc5) <| xgk rfl <| fsr <| rt (xaq (v:=.bool (true)) rfl) (tm':=zq1 (zq4 _)) rfl <| xak ?_
   refine xcj Tryz.func31 rfl (vs:=[.bool (true)]) (fun h_ H_=>⟨.bool (true),_,rfl,rfl,rfl⟩) (v:=.bool (true)) rfl ?_
   exact fun h_ H_=>K _ _ ⟨by first | (rw [decide_eq_true (yjq (by omega) (fun i hi=>h1 i (by omega)))]) | (rw [decide_eq_false (xzv (by omega))]) | (rw [decide_eq_false (yvj (i:=j) (by omega) (yjx (by omega)))]),H_.kept⟩
theorem c6 (md:Md) (h:Heap) (p:PHeap) (hp:Per p h) (a:Option Addr) (ca:Nat) (A:Nat→Option Addr) (C:Nat→Nat) (b:Option Addr) (cb:Nat) (k:Bk) (B:BookP p a k.cords.length A C b k.top.length k) (hn:k.cords.length≤40∧k.top.length≤40∧ ∀ l∈k.cords,l.length≤40):CallsX Tryz.prog md 6 #[.agg #[.int .i64 (k.base),.int .i64 (k.places),.slice a k.cords.length ca,.slice b k.top.length cb]] h fun v h'=>v= .int .i64 (chkK k)∧Keep h h':=by
 refine xbv (Φ:=fun h_=>St h [] p h_ []) Tryz.func6 rfl (tm:=zq2 (zq8 (zq32 []))) rfl ?_ (St.start h _ hp)
 intro c₀ cs Stop K
 refine fsr ?_
 refine xjq mn (v:=.agg #[.int .i64 (k.base),.int .i64 (k.places),.slice a k.cords.length ca,.slice b k.top.length cb]) rfl fun b1=>xcz (L':=[(b1,.cells #[.int .i64 (k.base),.int .i64 (k.places),.slice a k.cords.length ca,.slice b k.top.length cb] 25 (0,0))]) rfl ?_
 refine ro (xaq (v:=.int .i64 0) rfl) <| ren <| fsr <| rt (xaw ygj rfl (a':=⟨b1,0,none⟩) rfl) (tm':=zq1 (zq4 _)) rfl <| rd (fun h_ H_=>xbx H_ tA3 rfl (i:=0) rfl (v:=.int .i64 (k.base)) rfl) ?_
 refine xcw mn (first:=[]) (cap:=[]) rfl rfl fC30 (fun h_ H_=>c30 md _ (k.base) (2) (10)) rfl ?_
 refine rt (xfw rfl) (tm':=zq8 _) rfl <| ro (xax (v:=.bool (!(decide (2≤k.base∧k.base≤10)))) rfl) ?_
 by_cases cc2:2≤k.base∧k.base≤10
 ·
  refine xaj (ms rfl rfl (xej (dtt cc2))) (fun h_ H_=>xaw ypx rfl (a':=⟨b1,1,none⟩) rfl) rfl ?_
  refine xaj (ms rfl rfl (xej (dtt cc2))) (fun h_ H_=>xbx H_ tA3 rfl (i:=0) rfl (v:=.int .i64 (k.places)) rfl) (tm':=zq1 (zq2 (zq8 _))) rfl ?_
  refine xcw (ms rfl rfl (xej (dtt cc2))) (first:=[]) (cap:=[]) rfl rfl fC30 (fun h_ H_=>c30 md _ (k.places) (1) (4)) rfl ?_
  refine xaj (ms rfl rfl (xej (dtt cc2))) (fun h_ H_=>xfw rfl) rfl ?_
  refine rt (xdq rfl (xej (dtt cc2)) (v:=.bool (!(decide (1≤k.places∧k.places≤4)))) rfl) (tm':=zq2 (zq4 (zq8 _))) rfl <| ro (xax (v:=.bool (!(decide (1≤k.places∧k.places≤4)))) rfl) ?_
  by_cases cc3:1≤k.places∧k.places≤4
  ·
   refine xaj (ms rfl rfl (xej (dtt cc3))) (fun h_ H_=>xaw xxj rfl (a':=⟨b1,2,none⟩) rfl) rfl ?_
   refine xaj (ms rfl rfl (xej (dtt cc3))) (fun h_ H_=>xbx H_ tA22 rfl (i:=0) rfl (v:=.slice a k.cords.length ca) rfl) (tm':=zq1 (zq16 _)) rfl ?_
   refine xaj (ms rfl rfl (xej (dtt cc3))) (fun h_ H_=>xfj Tryz.underlying22 rfl) rfl ?_
   refine xaj (ms rfl rfl (xej (dtt cc3))) (fun h_ H_=>xjx rfl rfl) rfl ?_
   refine rt (xdq rfl (xej (dtt cc3)) (v:=.bool (decide (4<((k.cords.length:Nat):Int)))) rfl) (tm':=zq4 (zq16 _)) rfl <| ro (xax (v:=.bool (decide (4<((k.cords.length:Nat):Int)))) rfl) ?_
   by_cases cc4:4<((k.cords.length:Nat):Int)
   ·
    refine rp (mo rfl rfl (dtt cc4)) <| xck (mo rfl rfl (dtt cc4)) (tm':=zq1 (zq2 (zq4 (zq16 _)))) rfl <| rp (mo rfl rfl (dtt cc4)) <| rp (mo rfl rfl (dtt cc4)) <| xck (mo rfl rfl (dtt cc4)) (tm':=zq2 (zq8 (zq16 _))) rfl <| ro (xbw rfl (dtt cc4) (v:=.bool (true)) rfl) ?_
    refine xak <| xcx rfl rfl <| fsr <| ro (xaq (v:=.int .i64 110) rfl) <| xak ?_
    refine xcj Tryz.func6 rfl (vs:=[.int .i64 110]) (fun h_ H_=>⟨.int .i64 110,_,rfl,rfl,rfl⟩) (v:=.int .i64 110) rfl ?_
    exact fun h_ H_=>K _ _ ⟨by first | (rw [xoj ⟨by omega,by omega,by omega,by assumption,(xrv (d:=[])).2 (fun i hi=>h1 i (by omega))⟩]) | (rw [xqv (fun z=>by have z1:=z.1;have z2:=z.2.1;have z3:=z.2.2.1;first | omega | exact absurd z.2.2.2.1 ‹_› | exact absurd ((xrv (d:=[])).1 z.2.2.2.2 j (by omega)) ‹_›)]),H_.kept⟩
   ·
    refine xaj (ms rfl rfl (dff cc4)) (fun h_ H_=>xbk H_ tA25 tS25 rfl (i:=0) rfl (vs:=[.int .i64 (k.base),.int .i64 (k.places),.slice a k.cords.length ca,.slice b k.top.length cb]) rfl rfl) (tm':=zq2 (zq4 (zq16 _))) rfl ?_
    refine xaj (ms rfl rfl (dff cc4)) (fun h_ H_=>xaw zsz rfl (a':=⟨b1,3,none⟩) rfl) rfl ?_
    refine xaj (ms rfl rfl (dff cc4)) (fun h_ H_=>xbx H_ tA23 rfl (i:=0) rfl (v:=.slice b k.top.length cb) rfl) rfl ?_
    refine xcw (ms rfl rfl (dff cc4)) (first:=[]) (cap:=[]) rfl rfl fC31 (fun h_ H_=>c31 md _ _ H_.pe _ _ _ _ _ _ k (show BookP _ _ _ _ _ _ _ k from ⟨B.t,B.u⟩) _ _ _ _ B.u (by first | omega | exact hn.2.2 _ (xmw (by omega))) (by omega)) (tm':=zq1 (zq8 (zq16 _))) rfl ?_
    refine xaj (ms rfl rfl (dff cc4)) (fun h_ H_=>xfw rfl) rfl ?_
    refine ro (xdq rfl (dff cc4) (v:=.bool (!(decide (cordB k k.top)))) rfl) <| xak ?_
    by_cases cc5:cordB k k.top
    ·
     refine xcv rfl (xej (dtt cc5)) <| xdz <| xbj <| fsr <| rt (xaq (v:=.int .i64 0) rfl) (tm':=zq4 _) rfl <| xak ?_
     refine xeq ?_
     refine xhk (m₀:=k.cords.length-0) (fun m_ tm_ h_=>∃ (j:Nat),m_=k.cords.length-j∧(∃ y6:Nat→Value,tm_=[.agg #[.int .i64 (k.base),.int .i64 (k.places),.slice a k.cords.length ca,.slice b k.top.length cb],.pointer (some ⟨b1,0,none⟩),(y6 2),.int .i64 (((j:Nat):Int)),.pointer (some ⟨b1,0,none⟩),.int .i64 (k.base),.bool (decide (2≤k.base∧k.base≤10)),.bool (!(decide (2≤k.base∧k.base≤10))),.bool (!(decide (2≤k.base∧k.base≤10))),.pointer (some ⟨b1,1,none⟩),.int .i64 (k.places),.bool (decide (1≤k.places∧k.places≤4)),.bool (!(decide (1≤k.places∧k.places≤4))),.bool (!(decide (1≤k.places∧k.places≤4))),.bool (!(decide (1≤k.places∧k.places≤4))),.pointer (some ⟨b1,2,none⟩),.slice a k.cords.length ca,.int .i64 (((k.cords.length:Nat):Int)),.bool (decide (4<((k.cords.length:Nat):Int))),.bool (decide (4<((k.cords.length:Nat):Int))),.bool (decide (4<((k.cords.length:Nat):Int))),.agg #[.int .i64 (k.base),.int .i64 (k.places),.slice a k.cords.length ca,.slice b k.top.length cb],.pointer (some ⟨b1,3,none⟩),.slice b k.top.length cb,.bool (decide (cordB k k.top)),.bool (!(decide (cordB k k.top))),.bool (!(decide (cordB k k.top))),(y6 27),(y6 28),(y6 29),(y6 30),(y6 31),(y6 32),(y6 33),(y6 34),(y6 35),(y6 36),(y6 37),(y6 38),(y6 39),(y6 40),(y6 41)])∧(j≤k.cords.length)∧(∀ i,i<j→cordB k (k.cords.getD i []))∧St h [] p h_ ([(b1,.cells #[.int .i64 (k.base),.int .i64 (k.places),.slice a k.cords.length ca,.slice b k.top.length cb] 25 (0,0))])) (fun h_ H_=>⟨0,rfl,(y_of rfl),Nat.zero_le _,(fun i hi=>absurd hi (Nat.not_lt_zero i)),H_⟩) ?_
     intro m_ tm_ IH7
     refine xhq fun j=>xdj fun hm_=>xdj fun ht_=>xdj fun hkj=>xdj fun h1=>?_
     subst hm_;obtain ⟨y6,ht_⟩:=ht_;subst ht_
     refine xbj <| fsr <| ro (xax (v:=.int .i64 (((j:Nat):Int))) rfl) <| ro (xaw xxj rfl (a':=⟨b1,2,none⟩) rfl) ?_
     refine xaj mn (fun h_ H_=>xbx H_ tA22 rfl (i:=0) rfl (v:=.slice a k.cords.length ca) rfl) (tm':=zq2 (zq8 (zq32 []))) rfl ?_
     refine ro (xfj Tryz.underlying22 rfl) <| ro (xfk rfl rfl) <| xak ?_
     by_cases cc8:((j:Nat):Int)<((k.cords.length:Nat):Int)
     ·
      refine xcx rfl (dtt cc8) <| xdz <| xbj <| xeq <| xbj ?_
      refine xhw 6 [[],[],[1],[],[1,2,3],[1,2,3,4],[0,1,2,3,4,5],[]] mixed (by kernel_rfl) (Nat.le_of_ble_eq_true rfl) ?_
      refine xfq mn (fun h_ H_=>xbk H_ tA25 tS25 rfl (i:=0) rfl (vs:=[.int .i64 (k.base),.int .i64 (k.places),.slice a k.cords.length ca,.slice b k.top.length cb]) rfl rfl) (tm':=zq2 (zq8 (zq32 []))) rfl ?_
      refine wo (xaw xxj rfl (a':=⟨b1,2,none⟩) rfl) ?_
      refine xfq mn (fun h_ H_=>xbx H_ tA22 rfl (i:=0) rfl (v:=.slice a k.cords.length ca) rfl) (tm':=zq2 (zq8 (zq32 []))) rfl ?_
      refine wo (xax (v:=.int .i64 (((j:Nat):Int))) rfl) ?_
      refine wt (xdx (i:=j) Tryz.underlying22 tS23 (xlx a k.cords.length ca (B.t.ne (by omega))) rfl (by omega)) (tm':=zq2 (zq8 (zq32 []))) rfl ?_
      refine wd (fun h_ H_=>xdk H_ tA23 rfl (v:=.slice (A j) ((k.cords.getD j []).length) (C j)) (B.t.cell _ (by omega))) ?_
      refine xlq rfl ?_
      refine xcw mn (first:=[]) (cap:=[]) rfl rfl fC31 (fun h_ H_=>c31 md _ _ H_.pe _ _ _ _ _ _ k (show BookP _ _ _ _ _ _ _ k from ⟨B.t,B.u⟩) _ _ _ _ (B.t.sps _ (by omega)) (by first | omega | exact hn.2.2 _ (xmw (by omega))) (by omega)) (tm':=zq2 (zq8 (zq32 []))) rfl ?_
      refine ro (xfw rfl) <| xak ?_
      by_cases cc9:cordB k (k.cords.getD j [])
      ·
       refine xcv rfl (xej (dtt cc9)) <| xdz <| xex <| xav <| ro (xax (v:=.int .i64 (((j:Nat):Int))) rfl) ?_
       refine rt (xev rfl rfl (n:=((j+1:Nat):Int)) (wr (by omega))) (tm':=zq2 (zq8 (zq32 []))) rfl ?_
       refine ro (xaq (v:=.int .i64 (((j+1:Nat):Int))) rfl) <| xak ?_
       exact fun h_ H_=>IH7 _ _ (by omega) h_ ⟨j+1,rfl,(y_of rfl),(by omega),(xrz h1 ‹_›),H_⟩
      ·
       refine xcx rfl (xek (dff cc9)) <| fsr <| ro (xaq (v:=.int .i64 110) rfl) <| xak ?_
       refine xcj Tryz.func6 rfl (vs:=[.int .i64 110]) (fun h_ H_=>⟨.int .i64 110,_,rfl,rfl,rfl⟩) (v:=.int .i64 110) rfl ?_
       exact fun h_ H_=>K _ _ ⟨by first | (rw [xoj ⟨by omega,by omega,by omega,by assumption,(xrv (d:=[])).2 (fun i hi=>h1 i (by omega))⟩]) | (rw [xqv (fun z=>by have z1:=z.1;have z2:=z.2.1;have z3:=z.2.2.1;first | omega | exact absurd z.2.2.2.1 ‹_› | exact absurd ((xrv (d:=[])).1 z.2.2.2.2 j (by omega)) ‹_›)]),H_.kept⟩
     ·
      refine xcv rfl (dff cc8) <| xgk rfl <| fsr <| rt (xaq (v:=.int .i64 0) rfl) (tm':=_::_::_::_) rfl <| xak ?_
      refine xcj Tryz.func6 rfl (vs:=[.int .i64 0]) (fun h_ H_=>⟨.int .i64 0,_,rfl,rfl,rfl⟩) (v:=.int .i64 0) rfl ?_
      exact fun h_ H_=>K _ _ ⟨by first | (rw [xoj ⟨by omega,by omega,by omega,by assumption,(xrv (d:=[])).2 (fun i hi=>h1 i (by omega))⟩]) | (rw [xqv (fun z=>by have z1:=z.1;have z2:=z.2.1;have z3:=z.2.2.1;first | omega | exact absurd z.2.2.2.1 ‹_› | exact absurd ((xrv (d:=[])).1 z.2.2.2.2 j (by omega)) ‹_›)]),H_.kept⟩
    ·
     refine xcx rfl (xek (dff cc5)) <| fsr <| ro (xaq (v:=.int .i64 110) rfl) <| xak ?_
     refine xcj Tryz.func6 rfl (vs:=[.int .i64 110]) (fun h_ H_=>⟨.int .i64 110,_,rfl,rfl,rfl⟩) (v:=.int .i64 110) rfl ?_
     exact fun h_ H_=>K _ _ ⟨by first | (rw [xoj ⟨by omega,by omega,by omega,by assumption,(xrv (d:=[])).2 (fun i hi=>h1 i (by omega))⟩]) | (rw [xqv (fun z=>by have z1:=z.1;have z2:=z.2.1;have z3:=z.2.2.1;first | omega | exact absurd z.2.2.2.1 ‹_› | exact absurd ((xrv (d:=[])).1 z.2.2.2.2 j (by omega)) ‹_›)]),H_.kept⟩
  ·
   refine rp (mo rfl rfl (xek (dff cc3))) <| xck (mo rfl rfl (xek (dff cc3))) (tm':=zq1 (zq16 _)) rfl <| rp (mo rfl rfl (xek (dff cc3))) <| rp (mo rfl rfl (xek (dff cc3))) <| rt (xbw rfl (xek (dff cc3)) (v:=.bool (true)) rfl) (tm':=zq4 (zq16 _)) rfl <| ro (xax (v:=.bool (true)) rfl) ?_
   refine rp (mo rfl rfl rfl) <| xck (mo rfl rfl rfl) (tm':=zq1 (zq2 (zq4 (zq16 _)))) rfl <| rp (mo rfl rfl rfl) <| rp (mo rfl rfl rfl) <| xck (mo rfl rfl rfl) (tm':=zq2 (zq8 (zq16 _))) rfl <| ro (xbw rfl rfl (v:=.bool (true)) rfl) ?_
   refine xak <| xcx rfl rfl <| fsr <| ro (xaq (v:=.int .i64 110) rfl) <| xak ?_
   refine xcj Tryz.func6 rfl (vs:=[.int .i64 110]) (fun h_ H_=>⟨.int .i64 110,_,rfl,rfl,rfl⟩) (v:=.int .i64 110) rfl ?_
   exact fun h_ H_=>K _ _ ⟨by first | (rw [xoj ⟨by omega,by omega,by omega,by assumption,(xrv (d:=[])).2 (fun i hi=>h1 i (by omega))⟩]) | (rw [xqv (fun z=>by have z1:=z.1;have z2:=z.2.1;have z3:=z.2.2.1;first | omega | exact absurd z.2.2.2.1 ‹_› | exact absurd ((xrv (d:=[])).1 z.2.2.2.2 j (by omega)) ‹_›)]),H_.kept⟩
 ·
  refine xck (mo rfl rfl (xek (dff cc2))) (tm':=zq2 (zq8 _)) rfl <| rp (mo rfl rfl (xek (dff cc2))) <| rp (mo rfl rfl (xek (dff cc2))) <| xck (mo rfl rfl (xek (dff cc2))) (tm':=zq1 (zq4 (zq8 _))) rfl <| ro (xbw rfl (xek (dff cc2)) (v:=.bool (true)) rfl) <| ro (xax (v:=.bool (true)) rfl) ?_
  refine xck (mo rfl rfl rfl) (tm':=zq16 _) rfl <| rp (mo rfl rfl rfl) <| rp (mo rfl rfl rfl) <| xck (mo rfl rfl rfl) (tm':=zq1 (zq2 (zq16 _))) rfl <| ro (xbw rfl rfl (v:=.bool (true)) rfl) <| ro (xax (v:=.bool (true)) rfl) ?_
  refine xck (mo rfl rfl rfl) (tm':=zq2 (zq4 (zq16 _))) rfl <| rp (mo rfl rfl rfl) <| rp (mo rfl rfl rfl) <| xck (mo rfl rfl rfl) (tm':=zq1 (zq8 (zq16 _))) rfl <| rp (mo rfl rfl rfl) <| ro (xbw rfl rfl (v:=.bool (true)) rfl) ?_
  refine xak <| xcx rfl rfl <| fsr <| rt (xaq (v:=.int .i64 110) rfl) (tm':=_::_::_::_) rfl <| xak ?_
  refine xcj Tryz.func6 rfl (vs:=[.int .i64 110]) (fun h_ H_=>⟨.int .i64 110,_,rfl,rfl,rfl⟩) (v:=.int .i64 110) rfl ?_
  exact fun h_ H_=>K _ _ ⟨by first | (rw [xoj ⟨by omega,by omega,by omega,by assumption,(xrv (d:=[])).2 (fun i hi=>h1 i (by omega))⟩]) | (rw [xqv (fun z=>by have z1:=z.1;have z2:=z.2.1;have z3:=z.2.2.1;first | omega | exact absurd z.2.2.2.1 ‹_› | exact absurd ((xrv (d:=[])).1 z.2.2.2.2 j (by omega)) ‹_›)]),H_.kept⟩
theorem c29 (md:Md) (h:Heap) (p:PHeap) (hp:Per p h) (a:Option Addr) (ca:Nat) (A:Nat→Option Addr) (C:Nat→Nat) (b:Option Addr) (cb:Nat) (k:Bk) (B:BookP p a k.cords.length A C b k.top.length k) (hl:k.cords.length≤9223372036854775807∧k.top.length≤9223372036854775807):CallsX Tryz.prog md 29 #[.agg #[.int .i64 (k.base),.int .i64 (k.places),.slice a k.cords.length ca,.slice b k.top.length cb]] h fun v h'=>v= .bool (decide (bigK k))∧Keep h h':=by
 refine xbv (Φ:=fun h_=>St h [] p h_ []) Tryz.func29 rfl (tm:=zq4 (zq8 (zq16 []))) rfl ?_ (St.start h _ hp)
 intro c₀ cs Stop K
 refine fsr ?_
 refine xjq mn (v:=.agg #[.int .i64 (k.base),.int .i64 (k.places),.slice a k.cords.length ca,.slice b k.top.length cb]) rfl fun b1=>xcz (L':=[(b1,.cells #[.int .i64 (k.base),.int .i64 (k.places),.slice a k.cords.length ca,.slice b k.top.length cb] 25 (0,0))]) rfl ?_
 refine ro (xaq (v:=.bool (false)) rfl) <| ren <| fsr <| rt (xaw xxj rfl (a':=⟨b1,2,none⟩) rfl) (tm':=zq1 (zq4 _)) rfl <| rd (fun h_ H_=>xbx H_ tA22 rfl (i:=0) rfl (v:=.slice a k.cords.length ca) rfl) <| ro (xfj Tryz.underlying22 rfl) ?_
 refine rt (xjx rfl rfl) (tm':=zq8 _) rfl <| ro (xax (v:=.bool (decide (40<((k.cords.length:Nat):Int)))) rfl) ?_
 by_cases cc2:40<((k.cords.length:Nat):Int)
 ·
  refine rp (mo rfl rfl (dtt cc2)) <| xck (mo rfl rfl (dtt cc2)) (tm':=zq1 (zq2 (zq8 _))) rfl <| rp (mo rfl rfl (dtt cc2)) <| rp (mo rfl rfl (dtt cc2)) <| rt (xbw rfl (dtt cc2) (v:=.bool (true)) rfl) (tm':=zq2 (zq4 (zq8 _))) rfl <| xak ?_
  refine xcx rfl rfl <| fsr <| ro (xaq (v:=.bool (true)) rfl) <| xak ?_
  refine xcj Tryz.func29 rfl (vs:=[.bool (true)]) (fun h_ H_=>⟨.bool (true),_,rfl,rfl,rfl⟩) (v:=.bool (true)) rfl ?_
  exact fun h_ H_=>K _ _ ⟨by first | (rw [decide_eq_true (show bigK k from by first | exact .inl (by omega) | exact .inr (.inl (by omega)) | exact .inr (.inr ⟨_,xmw (i:=j) (d:=[]) (by omega),by omega⟩))]) | (rw [decide_eq_false (zmv (by omega) (by omega) (fun i hi=>h1 i (by omega)))]),H_.kept⟩
 ·
  refine xaj (ms rfl rfl (dff cc2)) (fun h_ H_=>xaw zsz rfl (a':=⟨b1,3,none⟩) rfl) rfl ?_
  refine xaj (ms rfl rfl (dff cc2)) (fun h_ H_=>xbx H_ tA23 rfl (i:=0) rfl (v:=.slice b k.top.length cb) rfl) (tm':=zq1 (zq2 (zq8 _))) rfl ?_
  refine xaj (ms rfl rfl (dff cc2)) (fun h_ H_=>xfj Tryz.underlying23 rfl) rfl ?_
  refine xaj (ms rfl rfl (dff cc2)) (fun h_ H_=>xjx rfl rfl) rfl ?_
  refine rt (xdq rfl (dff cc2) (v:=.bool (decide (40<((k.top.length:Nat):Int)))) rfl) (tm':=zq2 (zq4 (zq8 _))) rfl <| xak ?_
  by_cases cc3:40<((k.top.length:Nat):Int)
  ·
   refine xcx rfl (dtt cc3) <| fsr <| ro (xaq (v:=.bool (true)) rfl) <| xak ?_
   refine xcj Tryz.func29 rfl (vs:=[.bool (true)]) (fun h_ H_=>⟨.bool (true),_,rfl,rfl,rfl⟩) (v:=.bool (true)) rfl ?_
   exact fun h_ H_=>K _ _ ⟨by first | (rw [decide_eq_true (show bigK k from by first | exact .inl (by omega) | exact .inr (.inl (by omega)) | exact .inr (.inr ⟨_,xmw (i:=j) (d:=[]) (by omega),by omega⟩))]) | (rw [decide_eq_false (zmv (by omega) (by omega) (fun i hi=>h1 i (by omega)))]),H_.kept⟩
  ·
   refine xcv rfl (dff cc3) <| xdz <| xbj <| fsr <| ro (xaq (v:=.int .i64 0) rfl) <| xak ?_
   refine xeq ?_
   refine xhk (m₀:=k.cords.length-0) (fun m_ tm_ h_=>∃ (j:Nat),m_=k.cords.length-j∧(∃ y4:Nat→Value,tm_=[.agg #[.int .i64 (k.base),.int .i64 (k.places),.slice a k.cords.length ca,.slice b k.top.length cb],.pointer (some ⟨b1,0,none⟩),(y4 2),.int .i64 (((j:Nat):Int)),.pointer (some ⟨b1,2,none⟩),.slice a k.cords.length ca,.int .i64 (((k.cords.length:Nat):Int)),.bool (decide (40<((k.cords.length:Nat):Int))),.bool (decide (40<((k.cords.length:Nat):Int))),.pointer (some ⟨b1,3,none⟩),.slice b k.top.length cb,.int .i64 (((k.top.length:Nat):Int)),.bool (decide (40<((k.top.length:Nat):Int))),.bool (decide (40<((k.top.length:Nat):Int))),(y4 14),(y4 15),(y4 16),(y4 17),(y4 18),(y4 19),(y4 20),(y4 21),(y4 22),(y4 23),(y4 24),(y4 25),(y4 26),(y4 27)])∧(j≤k.cords.length)∧(∀ i,i<j→(k.cords.getD i []).length≤40)∧St h [] p h_ ([(b1,.cells #[.int .i64 (k.base),.int .i64 (k.places),.slice a k.cords.length ca,.slice b k.top.length cb] 25 (0,0))])) (fun h_ H_=>⟨0,rfl,(y_of rfl),Nat.zero_le _,(fun i hi=>absurd hi (Nat.not_lt_zero i)),H_⟩) ?_
   intro m_ tm_ IH5
   refine xhq fun j=>xdj fun hm_=>xdj fun ht_=>xdj fun hkj=>xdj fun h1=>?_
   subst hm_;obtain ⟨y4,ht_⟩:=ht_;subst ht_
   refine xbj <| fsr <| rt (xax (v:=.int .i64 (((j:Nat):Int))) rfl) (tm':=zq1 (zq2 (zq4 (zq8 _)))) rfl <| ro (xaw xxj rfl (a':=⟨b1,2,none⟩) rfl) <| rd (fun h_ H_=>xbx H_ tA22 rfl (i:=0) rfl (v:=.slice a k.cords.length ca) rfl) <| rt (xfj Tryz.underlying22 rfl) (tm':=zq2 (zq16 _)) rfl ?_
   refine ro (xfk rfl rfl) <| xak ?_
   by_cases cc6:((j:Nat):Int)<((k.cords.length:Nat):Int)
   ·
    refine xcx rfl (dtt cc6) <| xdz <| xbj <| xeq <| fsr <| ro (xaw xxj rfl (a':=⟨b1,2,none⟩) rfl) ?_
    refine xaj mn (fun h_ H_=>xbx H_ tA22 rfl (i:=0) rfl (v:=.slice a k.cords.length ca) rfl) (tm':=zq4 (zq8 (zq16 []))) rfl ?_
    refine ro (xax (v:=.int .i64 (((j:Nat):Int))) rfl) ?_
    refine ro (xdx (i:=j) Tryz.underlying22 tS23 (xlx a k.cords.length ca (B.t.ne (by omega))) rfl (by omega)) ?_
    refine xaj mn (fun h_ H_=>xdk H_ tA23 rfl (v:=.slice (A j) ((k.cords.getD j []).length) (C j)) (B.t.cell _ (by omega))) (tm':=zq4 (zq8 (zq16 []))) rfl ?_
    refine ro (xfj Tryz.underlying23 rfl) <| ro (xjx rfl rfl) <| xak ?_
    by_cases cc7:40<(((k.cords.getD j []).length:Nat):Int)
    ·
     refine xcx rfl (dtt cc7) <| fsr <| rt (xaq (v:=.bool (true)) rfl) (tm':=_::_::_::_) rfl <| xak ?_
     refine xcj Tryz.func29 rfl (vs:=[.bool (true)]) (fun h_ H_=>⟨.bool (true),_,rfl,rfl,rfl⟩) (v:=.bool (true)) rfl ?_
     exact fun h_ H_=>K _ _ ⟨by first | (rw [decide_eq_true (show bigK k from by first | exact .inl (by omega) | exact .inr (.inl (by omega)) | exact .inr (.inr ⟨_,xmw (i:=j) (d:=[]) (by omega),by omega⟩))]) | (rw [decide_eq_false (zmv (by omega) (by omega) (fun i hi=>h1 i (by omega)))]),H_.kept⟩
    ·
     refine xcv rfl (dff cc7) <| xdz <| xex <| xav <| ro (xax (v:=.int .i64 (((j:Nat):Int))) rfl) ?_
     refine ro (xev rfl rfl (n:=((j+1:Nat):Int)) (wr (by omega))) ?_
     refine rt (xaq (v:=.int .i64 (((j+1:Nat):Int))) rfl) (tm':=zq4 _) rfl <| xak ?_
     exact fun h_ H_=>IH5 _ _ (by omega) h_ ⟨j+1,rfl,(y_of rfl),(by omega),(xrz h1 (by omega)),H_⟩
   ·
    refine xcv rfl (dff cc6) <| xgk rfl <| fsr <| ro (xaq (v:=.bool (false)) rfl) <| xak ?_
    refine xcj Tryz.func29 rfl (vs:=[.bool (false)]) (fun h_ H_=>⟨.bool (false),_,rfl,rfl,rfl⟩) (v:=.bool (false)) rfl ?_
    exact fun h_ H_=>K _ _ ⟨by first | (rw [decide_eq_true (show bigK k from by first | exact .inl (by omega) | exact .inr (.inl (by omega)) | exact .inr (.inr ⟨_,xmw (i:=j) (d:=[]) (by omega),by omega⟩))]) | (rw [decide_eq_false (zmv (by omega) (by omega) (fun i hi=>h1 i (by omega)))]),H_.kept⟩
end Go.Proofs.YtphalmjpbnffcaaGreatDoor
namespace Go.Proofs.YtphalmjpbnffcaaGreatDoor
open Go.X Go.X.Kn Go.Conc
set_option maxRecDepth 10000
set_option synthInstance.maxSize 2000

set_option maxHeartbeats 2000000
theorem c110 (md:Md) (h:Heap) (p:PHeap) (hp:Per p h) (a:Option Addr) (ca:Nat) (A:Nat→Option Addr) (C:Nat→Nat) (b:Option Addr) (cb:Nat) (k:Bk) (_B:BookP p a k.cords.length A C b k.top.length k) (bt:Nat) (hbt:p bt=some (.cells #[.int .i64 k.base,.int .i64 k.places,.slice a k.cords.length ca,.slice b k.top.length cb] 25 (0,0))) (x y:Int):CallsX Tryz.prog md 110 #[.agg #[.int .i64 (x),.int .i64 (y)],.pointer (some ⟨bt,0,none⟩)] h fun v h'=>v= .bool (badS k (x,y))∧Keep h h':=by
 refine xbv (Φ:=fun h_=>St h [] p h_ []) Tryz.func110 rfl (tm:=zq1 (zq16 [])) rfl ?_ (St.start h _ hp)
 intro c₀ cs Stop K
 refine fsr ?_
 refine xjq mn (v:=.agg #[.int .i64 (x),.int .i64 (y)]) rfl fun b1=>xcz (L':=[(b1,.cells #[.int .i64 (x),.int .i64 (y)] 68 (0,0))]) rfl ?_
 refine ro (xaq (v:=.bool (false)) rfl) <| ren <| xav <| rt (xaw zsx rfl (a':=⟨b1,0,none⟩) rfl) (tm':=zq1 (zq4 _)) rfl <| rd (fun h_ H_=>xbx H_ tA3 rfl (i:=0) rfl (v:=.int .i64 (x)) rfl) <| ro (xaw ypq rfl (a':=⟨b1,1,none⟩) rfl) ?_
 refine xaj mn (fun h_ H_=>xbx H_ tA3 rfl (i:=0) rfl (v:=.int .i64 (y)) rfl) (tm':=zq8 _) rfl ?_
 refine xcw mn (first:=[]) (cap:=[]) rfl rfl fC35 (fun h_ H_=>c35 md _ (x) (0) (y)) rfl ?_
 refine ro (xfw rfl) <| rt (xax (v:=.bool (!(decide (0≤x∧x≤y)))) rfl) (tm':=zq1 (zq2 (zq8 _))) rfl ?_
 by_cases cc2:0≤x∧x≤y
 ·
  refine xaj (ms rfl rfl (xej (dtt cc2))) (fun h_ H_=>xaw ypq rfl (a':=⟨b1,1,none⟩) rfl) rfl ?_
  refine xaj (ms rfl rfl (xej (dtt cc2))) (fun h_ H_=>xbx H_ tA3 rfl (i:=0) rfl (v:=.int .i64 (y)) rfl) rfl ?_
  refine xaj (ms rfl rfl (xej (dtt cc2))) (fun h_ H_=>xaw ygj rfl (a':=⟨bt,0,none⟩) rfl) (tm':=zq1 (zq16 [])) rfl ?_
  refine xaj (ms rfl rfl (xej (dtt cc2))) (fun h_ H_=>xdk H_ tA3 rfl (v:=.int .i64 (k.base)) (xnq hbt rfl)) rfl ?_
  refine xaj (ms rfl rfl (xej (dtt cc2))) (fun h_ H_=>xuq rfl rfl) rfl ?_
  refine rt (xdq rfl (xej (dtt cc2)) (v:=.bool (decide (k.base≤y))) rfl) (tm':=zq1 (zq16 [])) rfl <| ro (xaq (v:=.bool (decide (k.base≤y))) rfl) <| xak ?_
  refine xcj Tryz.func110 rfl (vs:=[.bool (decide (k.base≤y))]) (fun h_ H_=>⟨.bool (decide (k.base≤y)),_,rfl,rfl,rfl⟩) (v:=.bool (decide (k.base≤y))) rfl ?_
  exact fun h_ H_=>K _ _ ⟨congrArg Value.bool (by unfold badS;rw [Bool.eq_iff_iff,decide_eq_true_eq];first | (simp [*];done) | (simp [*];omega) | (simp;omega)),H_.kept⟩
 ·
  refine rp (mo rfl rfl (xek (dff cc2))) <| xck (mo rfl rfl (xek (dff cc2))) (tm':=zq1 (zq16 [])) rfl <| rp (mo rfl rfl (xek (dff cc2))) <| rp (mo rfl rfl (xek (dff cc2))) <| xck (mo rfl rfl (xek (dff cc2))) (tm':=zq1 (zq16 [])) rfl <| ro (xbw rfl (xek (dff cc2)) (v:=.bool (true)) rfl) ?_
  refine ro (xaq (v:=.bool (true)) rfl) <| xak ?_
  refine xcj Tryz.func110 rfl (vs:=[.bool (true)]) (fun h_ H_=>⟨.bool (true),_,rfl,rfl,rfl⟩) (v:=.bool (true)) rfl ?_
  exact fun h_ H_=>K _ _ ⟨congrArg Value.bool (by unfold badS;rw [Bool.eq_iff_iff,decide_eq_true_eq];first | (simp [*];done) | (simp [*];omega) | (simp;omega)),H_.kept⟩
theorem c124 (md:Md) (h:Heap) (p:PHeap) (hp:Per p h) (fv:Value) (e:Option Addr) (n ce:Nat) (xs:List Sp) (S:Sps p e n xs) (hn:n≤2 ^ 40) (q:Sp→Bool) (hf: ∀ h,Per p h→ ∀ i,i<n→CallV Tryz.prog md fv [.agg #[.int .i64 (xs.getD i spz).1,.int .i64 (xs.getD i spz).2]] h fun v h'=>v= .bool (q ((xs.getD i spz)))∧Keep h h'):CallsX Tryz.prog md 124 #[.slice e n ce,fv] h fun v h'=>v= .int .i64 (idxA q xs)∧Keep h h':=by
 refine xbv (Φ:=fun h_=>St h [] p h_ []) Tryz.func124 rfl (tm:=zq1 (zq2 (zq16 []))) rfl ?_ (St.start h _ hp)
 intro c₀ cs Stop K
 refine fsr <| rt (xaq (v:=.int .i64 0) rfl) (tm':=zq1 (zq4 _)) rfl <| ren <| fsr <| ro (xax (v:=.slice e n ce) rfl) <| ro (xfj Tryz.underlying23 rfl) ?_
 refine rt (xax (v:=.int .i64 0) rfl) (tm':=zq1 (zq8 _)) rfl <| xak <| xeq ?_
 refine xhk (m₀:=n-0) (fun m_ tm_ h_=>∃ (j:Nat),m_=n-j∧(∃ y1:Nat→Value,tm_=[.slice e n ce,fv,undef,undef,(y1 4),(y1 5),.slice e n ce,.int .i64 (((n:Nat):Int)),.int .i64 (((j:Nat):Int)),(y1 9),(y1 10),(y1 11),(y1 12),(y1 13),(y1 14),(y1 15),(y1 16),(y1 17),(y1 18)])∧(j≤n)∧(∀ i,i<j→q ((xs.getD i spz))=false)∧St h [] p h_ ([])) (fun h_ H_=>⟨0,rfl,(y_of rfl),Nat.zero_le _,(fun i hi=>absurd hi (Nat.not_lt_zero i)),H_⟩) ?_
 intro m_ tm_ IH2
 refine xhq fun j=>xdj fun hm_=>xdj fun ht_=>xdj fun hk=>xdj fun hs=>?_
 subst hm_;obtain ⟨y1,ht_⟩:=ht_;subst ht_
 refine fsr <| ro (xfk rfl rfl) <| ren ?_
 by_cases cc3:((j:Nat):Int)<((n:Nat):Int)
 ·
  refine xcx rfl (dtt cc3) <| xdz <| xbj <| xeq <| fsr <| ro (xax (v:=.int .i64 (((j:Nat):Int))) rfl) ?_
  refine rt (xaq (v:=.int .i64 (((j:Nat):Int))) rfl) (tm':=zq2 (zq4 _)) rfl <| ren <| xav <| ro (xax (v:=fv) rfl) <| ro (xax (v:=.slice e n ce) rfl) <| rt (xax (v:=.int .i64 (((j:Nat):Int))) rfl) (tm':=zq1 (zq2 (zq16 []))) rfl ?_
  refine ro (xdx (i:=j) Tryz.underlying23 tS68 (xlx e n ce (S.ne (by omega))) rfl (by omega)) ?_
  refine rd (fun h_ H_=>xiw H_ tA68 tS68 rfl (vs:=[.int .i64 ((xs.getD j spz).1),.int .i64 ((xs.getD j spz).2)]) rfl (S.all (by omega))) ?_
  refine xyx mn rfl (vs:=[.agg #[.int .i64 ((xs.getD j spz).1),.int .i64 ((xs.getD j spz).2)]]) rfl (fun h_ H_=>hf h_ H_.per j (show j<n by omega)) (tm':=zq1 (zq2 (zq16 []))) rfl ?_
  refine xak ?_
  rcases xtx ((q ((xs.getD j spz)))) with cc4 | cc4
  ·
   refine xcx rfl cc4 <| fsr <| ro (xax (v:=.int .i64 (((j:Nat):Int))) rfl) <| ro (xaq (v:=.int .i64 (((j:Nat):Int))) rfl) <| xak ?_
   refine xcj Tryz.func124 rfl (vs:=[.int .i64 (((j:Nat):Int))]) (fun h_ H_=>⟨.int .i64 (((j:Nat):Int)),_,rfl,rfl,rfl⟩) (v:=.int .i64 (((j:Nat):Int))) rfl ?_
   have hl:=S.len
   exact fun h_ H_=>K _ _ ⟨by first | (rw [xpv (z:=spz) (k:=j) (by omega) ‹_› hs]) | (rw [xpw (z:=spz) (fun i hi=>hs i (by omega))]),H_.kept⟩
  ·
   refine xcv rfl cc4 <| xdz <| xex <| xav ?_
   refine rt (xev rfl rfl (n:=((j+1:Nat):Int)) (wr (by omega))) (tm':=zq1 (zq2 (zq16 []))) rfl ?_
   refine ro (xax (v:=.int .i64 (((j+1:Nat):Int))) rfl) <| xak ?_
   exact fun h_ H_=>IH2 _ _ (by omega) h_ ⟨j+1,rfl,(y_of rfl),(by omega),(xrz (q:=fun i=>q ((xs.getD i spz))=false) hs ‹_›),H_⟩
 ·
  refine xcv rfl (dff cc3) <| xgk rfl <| fsr <| ro (xaq (v:=.int .i64 (-1)) rfl) <| xak ?_
  refine xcj Tryz.func124 rfl (vs:=[.int .i64 (-1)]) (fun h_ H_=>⟨.int .i64 (-1),_,rfl,rfl,rfl⟩) (v:=.int .i64 (-1)) rfl ?_
  have hl:=S.len
  exact fun h_ H_=>K _ _ ⟨by first | (rw [xpv (z:=spz) (k:=j) (by omega) ‹_› hs]) | (rw [xpw (z:=spz) (fun i hi=>hs i (by omega))]),H_.kept⟩
theorem c111 (md:Md) (h:Heap) (p:PHeap) (hp:Per p h) (fv:Value) (e:Option Addr) (n ce:Nat) (xs:List Sp) (S:Sps p e n xs) (hn:n≤2 ^ 40) (q:Sp→Bool) (hf: ∀ h,Per p h→ ∀ i,i<n→CallV Tryz.prog md fv [.agg #[.int .i64 (xs.getD i spz).1,.int .i64 (xs.getD i spz).2]] h fun v h'=>v= .bool (q ((xs.getD i spz)))∧Keep h h'):CallsX Tryz.prog md 111 #[.slice e n ce,fv] h fun v h'=>v= .bool (decide (0≤idxA q xs))∧Keep h h':=by
 refine xbv (Φ:=fun h_=>St h [] p h_ []) Tryz.func111 rfl (tm:=zq1 (zq8 [])) rfl ?_ (St.start h _ hp)
 intro c₀ cs Stop K
 refine fsr <| rt (xaq (v:=.bool (false)) rfl) (tm':=zq1 (zq4 _)) rfl <| ren <| xav <| ro (xax (v:=.slice e n ce) rfl) <| ro (xax (v:=fv) rfl) ?_
 refine xcw mn (first:=[]) (cap:=[]) rfl rfl wtw (fun h_ H_=>c124 md _ _ H_.pe fv _ _ _ _ S (by omega) q hf) (tm':=zq1 (zq8 [])) rfl ?_
 refine ro (xuq rfl rfl) <| ro (xaq (v:=.bool (decide (0≤idxA q xs))) rfl) <| xak ?_
 refine xcj Tryz.func111 rfl (vs:=[.bool (decide (0≤idxA q xs))]) (fun h_ H_=>⟨.bool (decide (0≤idxA q xs)),_,rfl,rfl,rfl⟩) (v:=.bool (decide (0≤idxA q xs))) rfl ?_
 exact fun h_ H_=>K _ _ ⟨rfl,H_.kept⟩
theorem c112 (md:Md) (h:Heap) (p:PHeap) (hp:Per p h) (fv:Value) (e:Option Addr) (n ce:Nat) (A:Nat→Option Addr) (C:Nat→Nat) (xs:List (List Sp)) (S:TabS p e n A C xs) (hn:n≤2 ^ 40) (q:List Sp→Bool) (hf: ∀ h,Per p h→ ∀ i,i<n→CallV Tryz.prog md fv [.slice (A i) (xs.getD i []).length (C i)] h fun v h'=>v= .bool (q ((xs.getD i [])))∧Keep h h'):CallsX Tryz.prog md 112 #[.slice e n ce,fv] h fun v h'=>v= .int .i64 (idxA q xs)∧Keep h h':=by
 refine xbv (Φ:=fun h_=>St h [] p h_ []) Tryz.func112 rfl (tm:=zq1 (zq2 (zq16 []))) rfl ?_ (St.start h _ hp)
 intro c₀ cs Stop K
 refine fsr <| rt (xaq (v:=.int .i64 0) rfl) (tm':=zq1 (zq4 _)) rfl <| ren <| fsr <| ro (xax (v:=.slice e n ce) rfl) <| ro (xfj Tryz.underlying22 rfl) ?_
 refine rt (xax (v:=.int .i64 0) rfl) (tm':=zq1 (zq8 _)) rfl <| xak <| xeq ?_
 refine xhk (m₀:=n-0) (fun m_ tm_ h_=>∃ (j:Nat),m_=n-j∧(∃ y1:Nat→Value,tm_=[.slice e n ce,fv,undef,undef,(y1 4),(y1 5),.slice e n ce,.int .i64 (((n:Nat):Int)),.int .i64 (((j:Nat):Int)),(y1 9),(y1 10),(y1 11),(y1 12),(y1 13),(y1 14),(y1 15),(y1 16),(y1 17),(y1 18)])∧(j≤n)∧(∀ i,i<j→q ((xs.getD i []))=false)∧St h [] p h_ ([])) (fun h_ H_=>⟨0,rfl,(y_of rfl),Nat.zero_le _,(fun i hi=>absurd hi (Nat.not_lt_zero i)),H_⟩) ?_
 intro m_ tm_ IH2
 refine xhq fun j=>xdj fun hm_=>xdj fun ht_=>xdj fun hk=>xdj fun hs=>?_
 subst hm_;obtain ⟨y1,ht_⟩:=ht_;subst ht_
 refine fsr <| ro (xfk rfl rfl) <| ren ?_
 by_cases cc3:((j:Nat):Int)<((n:Nat):Int)
 ·
  refine xcx rfl (dtt cc3) <| xdz <| xbj <| xeq <| fsr <| ro (xax (v:=.int .i64 (((j:Nat):Int))) rfl) ?_
  refine rt (xaq (v:=.int .i64 (((j:Nat):Int))) rfl) (tm':=zq2 (zq4 _)) rfl <| ren <| xav <| ro (xax (v:=fv) rfl) <| ro (xax (v:=.slice e n ce) rfl) <| rt (xax (v:=.int .i64 (((j:Nat):Int))) rfl) (tm':=zq1 (zq2 (zq16 []))) rfl ?_
  refine ro (xdx (i:=j) Tryz.underlying22 tS23 (xlx e n ce (S.ne (by omega))) rfl (by omega)) ?_
  refine rd (fun h_ H_=>xdk H_ tA23 rfl (v:=.slice (A j) ((xs.getD j []).length) (C j)) (S.cell _ (by omega))) ?_
  refine xyx mn rfl (vs:=[.slice (A j) ((xs.getD j []).length) (C j)]) rfl (fun h_ H_=>hf h_ H_.per j (show j<n by omega)) (tm':=zq1 (zq2 (zq16 []))) rfl ?_
  refine xak ?_
  rcases xtx ((q ((xs.getD j [])))) with cc4 | cc4
  ·
   refine xcx rfl cc4 <| fsr <| ro (xax (v:=.int .i64 (((j:Nat):Int))) rfl) <| ro (xaq (v:=.int .i64 (((j:Nat):Int))) rfl) <| xak ?_
   refine xcj Tryz.func112 rfl (vs:=[.int .i64 (((j:Nat):Int))]) (fun h_ H_=>⟨.int .i64 (((j:Nat):Int)),_,rfl,rfl,rfl⟩) (v:=.int .i64 (((j:Nat):Int))) rfl ?_
   have hl:=S.len
   exact fun h_ H_=>K _ _ ⟨by first | (rw [xpv (z:=[]) (k:=j) (by omega) ‹_› hs]) | (rw [xpw (z:=[]) (fun i hi=>hs i (by omega))]),H_.kept⟩
  ·
   refine xcv rfl cc4 <| xdz <| xex <| xav ?_
   refine rt (xev rfl rfl (n:=((j+1:Nat):Int)) (wr (by omega))) (tm':=zq1 (zq2 (zq16 []))) rfl ?_
   refine ro (xax (v:=.int .i64 (((j+1:Nat):Int))) rfl) <| xak ?_
   exact fun h_ H_=>IH2 _ _ (by omega) h_ ⟨j+1,rfl,(y_of rfl),(by omega),(xrz (q:=fun i=>q ((xs.getD i []))=false) hs ‹_›),H_⟩
 ·
  refine xcv rfl (dff cc3) <| xgk rfl <| fsr <| ro (xaq (v:=.int .i64 (-1)) rfl) <| xak ?_
  refine xcj Tryz.func112 rfl (vs:=[.int .i64 (-1)]) (fun h_ H_=>⟨.int .i64 (-1),_,rfl,rfl,rfl⟩) (v:=.int .i64 (-1)) rfl ?_
  have hl:=S.len
  exact fun h_ H_=>K _ _ ⟨by first | (rw [xpv (z:=[]) (k:=j) (by omega) ‹_› hs]) | (rw [xpw (z:=[]) (fun i hi=>hs i (by omega))]),H_.kept⟩
theorem c89 (md:Md) (h:Heap) (p:PHeap) (hp:Per p h) (fv:Value) (e:Option Addr) (n ce:Nat) (A:Nat→Option Addr) (C:Nat→Nat) (xs:List (List Sp)) (S:TabS p e n A C xs) (hn:n≤2 ^ 40) (q:List Sp→Bool) (hf: ∀ h,Per p h→ ∀ i,i<n→CallV Tryz.prog md fv [.slice (A i) (xs.getD i []).length (C i)] h fun v h'=>v= .bool (q ((xs.getD i [])))∧Keep h h'):CallsX Tryz.prog md 89 #[.slice e n ce,fv] h fun v h'=>v= .bool (decide (0≤idxA q xs))∧Keep h h':=by
 refine xbv (Φ:=fun h_=>St h [] p h_ []) Tryz.func89 rfl (tm:=zq1 (zq8 [])) rfl ?_ (St.start h _ hp)
 intro c₀ cs Stop K
 refine fsr <| rt (xaq (v:=.bool (false)) rfl) (tm':=zq1 (zq4 _)) rfl <| ren <| xav <| ro (xax (v:=.slice e n ce) rfl) <| ro (xax (v:=fv) rfl) ?_
 refine xcw mn (first:=[]) (cap:=[]) rfl rfl wux (fun h_ H_=>c112 md _ _ H_.pe fv _ _ _ _ _ _ S (by omega) q hf) (tm':=zq1 (zq8 [])) rfl ?_
 refine ro (xuq rfl rfl) <| ro (xaq (v:=.bool (decide (0≤idxA q xs))) rfl) <| xak ?_
 refine xcj Tryz.func89 rfl (vs:=[.bool (decide (0≤idxA q xs))]) (fun h_ H_=>⟨.bool (decide (0≤idxA q xs)),_,rfl,rfl,rfl⟩) (v:=.bool (decide (0≤idxA q xs))) rfl ?_
 exact fun h_ H_=>K _ _ ⟨rfl,H_.kept⟩
theorem c103 (md:Md) (h:Heap) (p:PHeap) (hp:Per p h) (fv:Value) (e:Option Addr) (n ce:Nat) (xs:List Int) (S:Ints p e n xs) (hn:n≤2 ^ 40) (q:Int→Bool) (hf: ∀ h,Per p h→ ∀ i,i<n→CallV Tryz.prog md fv [.int .i64 (xs.getD i 0)] h fun v h'=>v= .bool (q ((xs.getD i 0)))∧Keep h h'):CallsX Tryz.prog md 103 #[.slice e n ce,fv] h fun v h'=>v= .int .i64 (idxA q xs)∧Keep h h':=by
 refine xbv (Φ:=fun h_=>St h [] p h_ []) Tryz.func103 rfl (tm:=zq1 (zq2 (zq16 []))) rfl ?_ (St.start h _ hp)
 intro c₀ cs Stop K
 refine fsr <| rt (xaq (v:=.int .i64 0) rfl) (tm':=zq1 (zq4 _)) rfl <| ren <| fsr <| ro (xax (v:=.slice e n ce) rfl) <| ro (xfj Tryz.underlying26 rfl) ?_
 refine rt (xax (v:=.int .i64 0) rfl) (tm':=zq1 (zq8 _)) rfl <| xak <| xeq ?_
 refine xhk (m₀:=n-0) (fun m_ tm_ h_=>∃ (j:Nat),m_=n-j∧(∃ y1:Nat→Value,tm_=[.slice e n ce,fv,undef,undef,(y1 4),(y1 5),.slice e n ce,.int .i64 (((n:Nat):Int)),.int .i64 (((j:Nat):Int)),(y1 9),(y1 10),(y1 11),(y1 12),(y1 13),(y1 14),(y1 15),(y1 16),(y1 17),(y1 18)])∧(j≤n)∧(∀ i,i<j→q ((xs.getD i 0))=false)∧St h [] p h_ ([])) (fun h_ H_=>⟨0,rfl,(y_of rfl),Nat.zero_le _,(fun i hi=>absurd hi (Nat.not_lt_zero i)),H_⟩) ?_
 intro m_ tm_ IH2
 refine xhq fun j=>xdj fun hm_=>xdj fun ht_=>xdj fun hk=>xdj fun hs=>?_
 subst hm_;obtain ⟨y1,ht_⟩:=ht_;subst ht_
 refine fsr <| ro (xfk rfl rfl) <| ren ?_
 by_cases cc3:((j:Nat):Int)<((n:Nat):Int)
 ·
  refine xcx rfl (dtt cc3) <| xdz <| xbj <| xeq <| fsr <| ro (xax (v:=.int .i64 (((j:Nat):Int))) rfl) ?_
  refine rt (xaq (v:=.int .i64 (((j:Nat):Int))) rfl) (tm':=zq2 (zq4 _)) rfl <| ren <| xav <| ro (xax (v:=fv) rfl) <| ro (xax (v:=.slice e n ce) rfl) <| rt (xax (v:=.int .i64 (((j:Nat):Int))) rfl) (tm':=zq1 (zq2 (zq16 []))) rfl ?_
  refine ro (xdx (i:=j) Tryz.underlying26 tS3 (xlx e n ce (S.ne (by omega))) rfl (by omega)) ?_
  refine rd (fun h_ H_=>xdk H_ tA3 rfl (v:=.int .i64 (xs.getD j 0)) (S.get (by omega))) ?_
  refine xyx mn rfl (vs:=[.int .i64 (xs.getD j 0)]) rfl (fun h_ H_=>hf h_ H_.per j (show j<n by omega)) (tm':=zq1 (zq2 (zq16 []))) rfl ?_
  refine xak ?_
  rcases xtx ((q ((xs.getD j 0)))) with cc4 | cc4
  ·
   refine xcx rfl cc4 <| fsr <| ro (xax (v:=.int .i64 (((j:Nat):Int))) rfl) <| ro (xaq (v:=.int .i64 (((j:Nat):Int))) rfl) <| xak ?_
   refine xcj Tryz.func103 rfl (vs:=[.int .i64 (((j:Nat):Int))]) (fun h_ H_=>⟨.int .i64 (((j:Nat):Int)),_,rfl,rfl,rfl⟩) (v:=.int .i64 (((j:Nat):Int))) rfl ?_
   have hl:=S.len
   exact fun h_ H_=>K _ _ ⟨by first | (rw [xpv (z:=0) (k:=j) (by omega) ‹_› hs]) | (rw [xpw (z:=0) (fun i hi=>hs i (by omega))]),H_.kept⟩
  ·
   refine xcv rfl cc4 <| xdz <| xex <| xav ?_
   refine rt (xev rfl rfl (n:=((j+1:Nat):Int)) (wr (by omega))) (tm':=zq1 (zq2 (zq16 []))) rfl ?_
   refine ro (xax (v:=.int .i64 (((j+1:Nat):Int))) rfl) <| xak ?_
   exact fun h_ H_=>IH2 _ _ (by omega) h_ ⟨j+1,rfl,(y_of rfl),(by omega),(xrz (q:=fun i=>q ((xs.getD i 0))=false) hs ‹_›),H_⟩
 ·
  refine xcv rfl (dff cc3) <| xgk rfl <| fsr <| ro (xaq (v:=.int .i64 (-1)) rfl) <| xak ?_
  refine xcj Tryz.func103 rfl (vs:=[.int .i64 (-1)]) (fun h_ H_=>⟨.int .i64 (-1),_,rfl,rfl,rfl⟩) (v:=.int .i64 (-1)) rfl ?_
  have hl:=S.len
  exact fun h_ H_=>K _ _ ⟨by first | (rw [xpv (z:=0) (k:=j) (by omega) ‹_› hs]) | (rw [xpw (z:=0) (fun i hi=>hs i (by omega))]),H_.kept⟩
theorem c73 (md:Md) (h:Heap) (p:PHeap) (hp:Per p h) (fv:Value) (e:Option Addr) (n ce:Nat) (xs:List Int) (S:Ints p e n xs) (hn:n≤2 ^ 40) (q:Int→Bool) (hf: ∀ h,Per p h→ ∀ i,i<n→CallV Tryz.prog md fv [.int .i64 (xs.getD i 0)] h fun v h'=>v= .bool (q ((xs.getD i 0)))∧Keep h h'):CallsX Tryz.prog md 73 #[.slice e n ce,fv] h fun v h'=>v= .bool (decide (0≤idxA q xs))∧Keep h h':=by
 refine xbv (Φ:=fun h_=>St h [] p h_ []) Tryz.func73 rfl (tm:=zq1 (zq8 [])) rfl ?_ (St.start h _ hp)
 intro c₀ cs Stop K
 refine fsr <| rt (xaq (v:=.bool (false)) rfl) (tm':=zq1 (zq4 _)) rfl <| ren <| xav <| ro (xax (v:=.slice e n ce) rfl) <| ro (xax (v:=fv) rfl) ?_
 refine xcw mn (first:=[]) (cap:=[]) rfl rfl wvx (fun h_ H_=>c103 md _ _ H_.pe fv _ _ _ _ S (by omega) q hf) (tm':=zq1 (zq8 [])) rfl ?_
 refine ro (xuq rfl rfl) <| ro (xaq (v:=.bool (decide (0≤idxA q xs))) rfl) <| xak ?_
 refine xcj Tryz.func73 rfl (vs:=[.bool (decide (0≤idxA q xs))]) (fun h_ H_=>⟨.bool (decide (0≤idxA q xs)),_,rfl,rfl,rfl⟩) (v:=.bool (decide (0≤idxA q xs))) rfl ?_
 exact fun h_ H_=>K _ _ ⟨rfl,H_.kept⟩
theorem c88 (md:Md) (h:Heap) (p:PHeap) (hp:Per p h) (a:Option Addr) (ca:Nat) (A:Nat→Option Addr) (C:Nat→Nat) (b:Option Addr) (cb:Nat) (k:Bk) (B:BookP p a k.cords.length A C b k.top.length k) (e:Option Addr) (m ce:Nat) (l:List Sp) (S:Sps p e m l) (hm:m≤40):CallsX Tryz.prog md 88 #[.agg #[.int .i64 (k.base),.int .i64 (k.places),.slice a k.cords.length ca,.slice b k.top.length cb],.slice e m ce] h fun v h'=>v= .bool (decide (cordB k l))∧Keep h h':=by
 refine xbv (Φ:=fun h_=>St h [] p h_ []) Tryz.func88 rfl (tm:=zq2 (zq16 [])) rfl ?_ (St.start h _ hp)
 intro c₀ cs Stop K
 have hs:=S.len
 refine fsr ?_
 refine xjq mn (v:=.agg #[.int .i64 (k.base),.int .i64 (k.places),.slice a k.cords.length ca,.slice b k.top.length cb]) rfl fun b1=>xcz (L':=[(b1,.cells #[.int .i64 (k.base),.int .i64 (k.places),.slice a k.cords.length ca,.slice b k.top.length cb] 25 (0,0))]) rfl ?_
 refine xfz (tm':=_::_::_::_) rfl ?_
 refine ro (xaq (v:=.bool (false)) rfl) <| ren ?_
 refine ysw 0 rfl (L':=[]) rfl fun p2 le3 hb4=>?_
 refine xav <| ro (xrx (a:=[]) (b:=[.pointer (some ⟨b1,0,none⟩)]) rfl rfl) <| rt (xaq (v:=.func (.func 110) #[] #[.pointer (some ⟨b1,0,none⟩)]) rfl) (tm':=zq2 (zq4 _)) rfl <| ren <| xav <| ro (xax (v:=.slice e m ce) rfl) ?_
 refine ro (xfj Tryz.underlying23 rfl) <| rt (xaw ypx rfl (a':=⟨b1,1,none⟩) rfl) (tm':=zq2 (zq8 _)) rfl <| rd (fun h_ H_=>xdk H_ tA3 rfl (v:=.int .i64 (k.places)) (xnq hb4 rfl)) <| ro (xmj rfl rfl) <| rt (xax (v:=.bool (decide (((m:Nat):Int)=k.places))) rfl) (tm':=zq2 (zq16 [])) rfl ?_
 by_cases cc5:((m:Nat):Int)=k.places
 ·
  refine xaj (ms rfl rfl (dtt cc5)) (fun h_ H_=>xax (v:=.slice e m ce) rfl) rfl ?_
  refine xaj (ms rfl rfl (dtt cc5)) (fun h_ H_=>xax (v:=.func (.func 110) #[] #[.pointer (some ⟨b1,0,none⟩)]) rfl) rfl ?_
  refine xcw (ms rfl rfl (dtt cc5)) (first:=[]) (cap:=[]) rfl rfl wuz (fun h_ H_=>c111 md _ _ H_.pe (.func (.func 110) #[] #[.pointer (some ⟨b1,0,none⟩)]) _ _ _ _ (S.mono le3) (by omega) (badS k) (fun h_ hp_ i_ hi_=>xxz wuj (c110 md _ _ hp_ _ _ _ _ _ _ k (show BookP _ _ _ _ _ _ _ k from ⟨(B.t.mono le3),(B.u.mono le3)⟩) _ hb4 _ _))) (tm':=zq2 (zq16 [])) rfl ?_
  refine xaj (ms rfl rfl (dtt cc5)) (fun h_ H_=>xfw rfl) rfl ?_
  refine ro (xbw rfl (dtt cc5) (v:=.bool (!(decide (0≤idxA (badS k) l)))) rfl) <| rt (xaq (v:=.bool (!(decide (0≤idxA (badS k) l)))) rfl) (tm':=zq1 (zq4 _)) rfl <| xak ?_
  refine xcj Tryz.func88 rfl (vs:=[.bool (!(decide (0≤idxA (badS k) l)))]) (fun h_ H_=>⟨.bool (!(decide (0≤idxA (badS k) l))),_,rfl,rfl,rfl⟩) (v:=.bool (!(decide (0≤idxA (badS k) l)))) rfl ?_
  exact fun h_ H_=>K _ _ ⟨congrArg Value.bool (by first | exact (zmj (by omega)) | exact (decide_eq_false (xzv (by omega))).symm),H_.kept⟩
 ·
  refine rp (mo rfl rfl (dff cc5)) <| rp (mo rfl rfl (dff cc5)) <| xck (mo rfl rfl (dff cc5)) (tm':=zq2 (zq16 [])) rfl <| rp (mo rfl rfl (dff cc5)) <| ro (xdq rfl (dff cc5) (v:=.bool (false)) rfl) <| rt (xaq (v:=.bool (false)) rfl) (tm':=zq1 (zq4 _)) rfl ?_
  refine xak ?_
  refine xcj Tryz.func88 rfl (vs:=[.bool (false)]) (fun h_ H_=>⟨.bool (false),_,rfl,rfl,rfl⟩) (v:=.bool (false)) rfl ?_
  exact fun h_ H_=>K _ _ ⟨congrArg Value.bool (by first | exact (zmj (by omega)) | exact (decide_eq_false (xzv (by omega))).symm),H_.kept⟩
theorem c87 (md:Md) (h:Heap) (p:PHeap) (hp:Per p h) (a:Option Addr) (ca:Nat) (A:Nat→Option Addr) (C:Nat→Nat) (b:Option Addr) (cb:Nat) (k:Bk) (B:BookP p a k.cords.length A C b k.top.length k) (bt:Nat) (hbt:p bt=some (.cells #[.int .i64 k.base,.int .i64 k.places,.slice a k.cords.length ca,.slice b k.top.length cb] 25 (0,0))) (e:Option Addr) (m ce:Nat) (l:List Sp) (S:Sps p e m l) (hm:m≤40):CallsX Tryz.prog md 87 #[.slice e m ce,.pointer (some ⟨bt,0,none⟩)] h fun v h'=>v= .bool (notCord k l)∧Keep h h':=by
 refine xbv (Φ:=fun h_=>St h [] p h_ []) Tryz.func87 rfl (tm:=zq8 []) rfl ?_ (St.start h _ hp)
 intro c₀ cs Stop K
 refine fsr <| ro (xaq (v:=.bool (false)) rfl) <| ren <| xav <| rd (fun h_ H_=>xiw H_ tA25 tS25 rfl (vs:=[.int .i64 (k.base),.int .i64 (k.places),.slice a k.cords.length ca,.slice b k.top.length cb]) rfl (xvq (n:=4) hbt rfl)) <| rt (xax (v:=.slice e m ce) rfl) (tm':=zq8 []) rfl ?_
 refine xcw mn (first:=[]) (cap:=[]) rfl rfl fC88 (fun h_ H_=>c88 md _ _ H_.pe _ _ _ _ _ _ k (show BookP _ _ _ _ _ _ _ k from ⟨B.t,B.u⟩) _ _ _ _ S (by omega)) rfl ?_
 refine ro (xfw rfl) <| rt (xaq (v:=.bool (!(decide (cordB k l)))) rfl) (tm':=zq4 _) rfl <| xak ?_
 refine xcj Tryz.func87 rfl (vs:=[.bool (!(decide (cordB k l)))]) (fun h_ H_=>⟨.bool (!(decide (cordB k l))),_,rfl,rfl,rfl⟩) (v:=.bool (!(decide (cordB k l)))) rfl ?_
 exact fun h_ H_=>K _ _ ⟨by first | rfl | simp [notCord, *],H_.kept⟩
theorem c58 (md:Md) (h:Heap) (p:PHeap) (hp:Per p h) (a:Option Addr) (ca:Nat) (A:Nat→Option Addr) (C:Nat→Nat) (b:Option Addr) (cb:Nat) (k:Bk) (B:BookP p a k.cords.length A C b k.top.length k) (hn:k.cords.length≤40∧k.top.length≤40∧ ∀ l∈k.cords,l.length≤40):CallsX Tryz.prog md 58 #[.agg #[.int .i64 (k.base),.int .i64 (k.places),.slice a k.cords.length ca,.slice b k.top.length cb]] h fun v h'=>v= .int .i64 (chkK k)∧Keep h h':=by
 refine xbv (Φ:=fun h_=>St h [] p h_ []) Tryz.func58 rfl (tm:=zq1 (zq32 [])) rfl ?_ (St.start h _ hp)
 intro c₀ cs Stop K
 refine fsr ?_
 refine xjq mn (v:=.agg #[.int .i64 (k.base),.int .i64 (k.places),.slice a k.cords.length ca,.slice b k.top.length cb]) rfl fun b1=>xcz (L':=[(b1,.cells #[.int .i64 (k.base),.int .i64 (k.places),.slice a k.cords.length ca,.slice b k.top.length cb] 25 (0,0))]) rfl ?_
 refine ro (xaq (v:=.int .i64 0) rfl) <| ren ?_
 refine ysw 0 rfl (L':=[]) rfl fun p2 le3 hb4=>?_
 refine xav <| rt (xrx (a:=[]) (b:=[.pointer (some ⟨b1,0,none⟩)]) rfl rfl) (tm':=zq1 (zq4 _)) rfl <| ro (xaq (v:=.func (.func 87) #[] #[.pointer (some ⟨b1,0,none⟩)]) rfl) <| ren <| fsr <| ro (xaw ygj rfl (a':=⟨b1,0,none⟩) rfl) ?_
 refine xaj mn (fun h_ H_=>xdk H_ tA3 rfl (v:=.int .i64 (k.base)) (xnq hb4 rfl)) (tm':=zq1 (zq2 (zq4 _))) rfl ?_
 refine xcw mn (first:=[]) (cap:=[]) rfl rfl fC35 (fun h_ H_=>c35 md _ (k.base) (2) (10)) rfl ?_
 refine ro (xfw rfl) <| rt (xax (v:=.bool (!(decide (2≤k.base∧k.base≤10)))) rfl) (tm':=zq2 (zq8 _)) rfl ?_
 by_cases cc5:2≤k.base∧k.base≤10
 ·
  refine xaj (ms rfl rfl (xej (dtt cc5))) (fun h_ H_=>xaw ypx rfl (a':=⟨b1,1,none⟩) rfl) rfl ?_
  refine xaj (ms rfl rfl (xej (dtt cc5))) (fun h_ H_=>xdk H_ tA3 rfl (v:=.int .i64 (k.places)) (xnq hb4 rfl)) rfl ?_
  refine xcw (ms rfl rfl (xej (dtt cc5))) (first:=[]) (cap:=[]) rfl rfl fC35 (fun h_ H_=>c35 md _ (k.places) (1) (4)) (tm':=zq1 (zq4 (zq8 _))) rfl ?_
  refine xaj (ms rfl rfl (xej (dtt cc5))) (fun h_ H_=>xfw rfl) rfl ?_
  refine ro (xdq rfl (xej (dtt cc5)) (v:=.bool (!(decide (1≤k.places∧k.places≤4)))) rfl) <| rt (xax (v:=.bool (!(decide (1≤k.places∧k.places≤4)))) rfl) (tm':=zq16 _) rfl ?_
  by_cases cc6:1≤k.places∧k.places≤4
  ·
   refine xaj (ms rfl rfl (xej (dtt cc6))) (fun h_ H_=>xaw xxj rfl (a':=⟨b1,2,none⟩) rfl) rfl ?_
   refine xaj (ms rfl rfl (xej (dtt cc6))) (fun h_ H_=>xdk H_ tA22 rfl (v:=.slice a k.cords.length ca) (xnq hb4 rfl)) rfl ?_
   refine xaj (ms rfl rfl (xej (dtt cc6))) (fun h_ H_=>xfj Tryz.underlying22 rfl) (tm':=zq1 (zq2 (zq16 _))) rfl ?_
   refine xaj (ms rfl rfl (xej (dtt cc6))) (fun h_ H_=>xjx rfl rfl) rfl ?_
   refine ro (xdq rfl (xej (dtt cc6)) (v:=.bool (decide (4<((k.cords.length:Nat):Int)))) rfl) <| rt (xax (v:=.bool (decide (4<((k.cords.length:Nat):Int)))) rfl) (tm':=zq2 (zq4 (zq16 _))) rfl ?_
   by_cases cc7:4<((k.cords.length:Nat):Int)
   ·
    refine rp (mo rfl rfl (dtt cc7)) <| rp (mo rfl rfl (dtt cc7)) <| xck (mo rfl rfl (dtt cc7)) (tm':=zq1 (zq32 [])) rfl <| rp (mo rfl rfl (dtt cc7)) <| ro (xbw rfl (dtt cc7) (v:=.bool (true)) rfl) <| rt (xax (v:=.bool (true)) rfl) (tm':=zq1 (zq32 [])) rfl ?_
    refine rp (mo rfl rfl rfl) <| rp (mo rfl rfl rfl) <| xck (mo rfl rfl rfl) (tm':=zq1 (zq32 [])) rfl <| rp (mo rfl rfl rfl) <| ro (xbw rfl rfl (v:=.bool (true)) rfl) <| xak ?_
    refine xcx rfl rfl <| fsr <| rt (xaq (v:=.int .i64 110) rfl) (tm':=_::_::_::_) rfl <| xak ?_
    refine xcj Tryz.func58 rfl (vs:=[.int .i64 110]) (fun h_ H_=>⟨.int .i64 110,_,rfl,rfl,rfl⟩) (v:=.int .i64 110) rfl ?_
    exact fun h_ H_=>K _ _ ⟨by first | (rw [xoj ⟨by omega,by omega,by omega,xxx (by assumption),xwx (by assumption)⟩]) | (rw [xqv (fun z=>by have z1:=z.1;have z2:=z.2.1;have z3:=z.2.2.1;first | omega | exact yfk z.2.2.2.1 ‹_› | exact absurd ‹_› (xzk z.2.2.2.2))]),H_.kept⟩
   ·
    refine xaj (ms rfl rfl (dff cc7)) (fun h_ H_=>xaw xxj rfl (a':=⟨b1,2,none⟩) rfl) rfl ?_
    refine xaj (ms rfl rfl (dff cc7)) (fun h_ H_=>xdk H_ tA22 rfl (v:=.slice a k.cords.length ca) (xnq hb4 rfl)) rfl ?_
    refine xaj (ms rfl rfl (dff cc7)) (fun h_ H_=>xax (v:=.func (.func 87) #[] #[.pointer (some ⟨b1,0,none⟩)]) rfl) (tm':=zq1 (zq32 [])) rfl ?_
    refine xcw (ms rfl rfl (dff cc7)) (first:=[]) (cap:=[]) rfl rfl fC89 (fun h_ H_=>c89 md _ _ H_.pe (.func (.func 87) #[] #[.pointer (some ⟨b1,0,none⟩)]) _ _ _ _ _ _ (B.t.mono le3) (by omega) (notCord k) (fun h_ hp_ i_ hi_=>xxz fC87 (c87 md _ _ hp_ _ _ _ _ _ _ k (show BookP _ _ _ _ _ _ _ k from ⟨(B.t.mono le3),(B.u.mono le3)⟩) _ hb4 _ _ _ _ ((B.t.mono le3).sps _ hi_) (hn.2.2 _ (xmw (by omega)))))) rfl ?_
    refine ro (xdq rfl (dff cc7) (v:=.bool (decide (0≤idxA (notCord k) k.cords))) rfl) <| rt (xax (v:=.bool (decide (0≤idxA (notCord k) k.cords))) rfl) (tm':=zq1 (zq32 [])) rfl ?_
    by_cases cc8:0≤idxA (notCord k) k.cords
    ·
     refine rp (mo rfl rfl (dtt cc8)) <| rp (mo rfl rfl (dtt cc8)) <| xck (mo rfl rfl (dtt cc8)) (tm':=zq1 (zq32 [])) rfl <| rp (mo rfl rfl (dtt cc8)) <| ro (xbw rfl (dtt cc8) (v:=.bool (true)) rfl) <| xak ?_
     refine xcx rfl rfl <| fsr <| rt (xaq (v:=.int .i64 110) rfl) (tm':=_::_::_::_) rfl <| xak ?_
     refine xcj Tryz.func58 rfl (vs:=[.int .i64 110]) (fun h_ H_=>⟨.int .i64 110,_,rfl,rfl,rfl⟩) (v:=.int .i64 110) rfl ?_
     exact fun h_ H_=>K _ _ ⟨by first | (rw [xoj ⟨by omega,by omega,by omega,xxx (by assumption),xwx (by assumption)⟩]) | (rw [xqv (fun z=>by have z1:=z.1;have z2:=z.2.1;have z3:=z.2.2.1;first | omega | exact yfk z.2.2.2.1 ‹_› | exact absurd ‹_› (xzk z.2.2.2.2))]),H_.kept⟩
    ·
     refine xaj (ms rfl rfl (dff cc8)) (fun h_ H_=>xax (v:=.func (.func 87) #[] #[.pointer (some ⟨b1,0,none⟩)]) rfl) rfl ?_
     refine xaj (ms rfl rfl (dff cc8)) (fun h_ H_=>xaw zsz rfl (a':=⟨b1,3,none⟩) rfl) rfl ?_
     refine xaj (ms rfl rfl (dff cc8)) (fun h_ H_=>xdk H_ tA23 rfl (v:=.slice b k.top.length cb) (xnq hb4 rfl)) (tm':=zq1 (zq32 [])) rfl ?_
     refine xcw (ms rfl rfl (dff cc8)) (first:=[]) (cap:=[.pointer (some ⟨b1,0,none⟩)]) rfl rfl fC87 (fun h_ H_=>c87 md _ _ H_.pe _ _ _ _ _ _ k (show BookP _ _ _ _ _ _ _ k from ⟨(B.t.mono le3),(B.u.mono le3)⟩) _ hb4 _ _ _ _ (B.u.mono le3) (by omega)) rfl ?_
     refine ro (xdq rfl (dff cc8) (v:=.bool (notCord k k.top)) rfl) <| xak ?_
     rcases xtx (notCord k k.top) with cc9 | cc9
     ·
      refine xcx rfl cc9 <| fsr <| rt (xaq (v:=.int .i64 110) rfl) (tm':=_::_::_::_) rfl <| xak ?_
      refine xcj Tryz.func58 rfl (vs:=[.int .i64 110]) (fun h_ H_=>⟨.int .i64 110,_,rfl,rfl,rfl⟩) (v:=.int .i64 110) rfl ?_
      exact fun h_ H_=>K _ _ ⟨by first | (rw [xoj ⟨by omega,by omega,by omega,xxx (by assumption),xwx (by assumption)⟩]) | (rw [xqv (fun z=>by have z1:=z.1;have z2:=z.2.1;have z3:=z.2.2.1;first | omega | exact yfk z.2.2.2.1 ‹_› | exact absurd ‹_› (xzk z.2.2.2.2))]),H_.kept⟩
     ·
      refine xcv rfl cc9 <| xdz <| fsr <| ro (xaq (v:=.int .i64 0) rfl) <| xak ?_
      refine xcj Tryz.func58 rfl (vs:=[.int .i64 0]) (fun h_ H_=>⟨.int .i64 0,_,rfl,rfl,rfl⟩) (v:=.int .i64 0) rfl ?_
      exact fun h_ H_=>K _ _ ⟨by first | (rw [xoj ⟨by omega,by omega,by omega,xxx (by assumption),xwx (by assumption)⟩]) | (rw [xqv (fun z=>by have z1:=z.1;have z2:=z.2.1;have z3:=z.2.2.1;first | omega | exact yfk z.2.2.2.1 ‹_› | exact absurd ‹_› (xzk z.2.2.2.2))]),H_.kept⟩
  ·
   refine rp (mo rfl rfl (xek (dff cc6))) <| xck (mo rfl rfl (xek (dff cc6))) (tm':=zq2 (zq16 _)) rfl <| rp (mo rfl rfl (xek (dff cc6))) <| rp (mo rfl rfl (xek (dff cc6))) <| rt (xbw rfl (xek (dff cc6)) (v:=.bool (true)) rfl) (tm':=zq1 (zq4 (zq16 _))) rfl <| ro (xax (v:=.bool (true)) rfl) ?_
   refine rp (mo rfl rfl rfl) <| xck (mo rfl rfl rfl) (tm':=zq1 (zq32 [])) rfl <| rp (mo rfl rfl rfl) <| rp (mo rfl rfl rfl) <| rt (xbw rfl rfl (v:=.bool (true)) rfl) (tm':=zq1 (zq32 [])) rfl <| ro (xax (v:=.bool (true)) rfl) ?_
   refine rp (mo rfl rfl rfl) <| xck (mo rfl rfl rfl) (tm':=zq1 (zq32 [])) rfl <| rp (mo rfl rfl rfl) <| rp (mo rfl rfl rfl) <| rt (xbw rfl rfl (v:=.bool (true)) rfl) (tm':=zq1 (zq32 [])) rfl <| xak ?_
   refine xcx rfl rfl <| fsr <| ro (xaq (v:=.int .i64 110) rfl) <| xak ?_
   refine xcj Tryz.func58 rfl (vs:=[.int .i64 110]) (fun h_ H_=>⟨.int .i64 110,_,rfl,rfl,rfl⟩) (v:=.int .i64 110) rfl ?_
   exact fun h_ H_=>K _ _ ⟨by first | (rw [xoj ⟨by omega,by omega,by omega,xxx (by assumption),xwx (by assumption)⟩]) | (rw [xqv (fun z=>by have z1:=z.1;have z2:=z.2.1;have z3:=z.2.2.1;first | omega | exact yfk z.2.2.2.1 ‹_› | exact absurd ‹_› (xzk z.2.2.2.2))]),H_.kept⟩
 ·
  refine rp (mo rfl rfl (xek (dff cc5))) <| xck (mo rfl rfl (xek (dff cc5))) (tm':=zq4 (zq8 _)) rfl <| rp (mo rfl rfl (xek (dff cc5))) <| rp (mo rfl rfl (xek (dff cc5))) <| rt (xbw rfl (xek (dff cc5)) (v:=.bool (true)) rfl) (tm':=zq1 (zq2 (zq4 (zq8 _)))) rfl <| ro (xax (v:=.bool (true)) rfl) ?_
  refine rp (mo rfl rfl rfl) <| xck (mo rfl rfl rfl) (tm':=zq2 (zq16 _)) rfl <| rp (mo rfl rfl rfl) <| rp (mo rfl rfl rfl) <| rt (xbw rfl rfl (v:=.bool (true)) rfl) (tm':=zq1 (zq4 (zq16 _))) rfl <| ro (xax (v:=.bool (true)) rfl) ?_
  refine rp (mo rfl rfl rfl) <| xck (mo rfl rfl rfl) (tm':=zq1 (zq32 [])) rfl <| rp (mo rfl rfl rfl) <| rp (mo rfl rfl rfl) <| rt (xbw rfl rfl (v:=.bool (true)) rfl) (tm':=zq1 (zq32 [])) rfl <| ro (xax (v:=.bool (true)) rfl) ?_
  refine rp (mo rfl rfl rfl) <| xck (mo rfl rfl rfl) (tm':=zq1 (zq32 [])) rfl <| rp (mo rfl rfl rfl) <| rp (mo rfl rfl rfl) <| rt (xbw rfl rfl (v:=.bool (true)) rfl) (tm':=zq1 (zq32 [])) rfl <| xak ?_
  refine xcx rfl rfl <| fsr <| ro (xaq (v:=.int .i64 110) rfl) <| xak ?_
  refine xcj Tryz.func58 rfl (vs:=[.int .i64 110]) (fun h_ H_=>⟨.int .i64 110,_,rfl,rfl,rfl⟩) (v:=.int .i64 110) rfl ?_
  exact fun h_ H_=>K _ _ ⟨by first | (rw [xoj ⟨by omega,by omega,by omega,xxx (by assumption),xwx (by assumption)⟩]) | (rw [xqv (fun z=>by have z1:=z.1;have z2:=z.2.1;have z3:=z.2.2.1;first | omega | exact yfk z.2.2.2.1 ‹_› | exact absurd ‹_› (xzk z.2.2.2.2))]),H_.kept⟩
theorem c34 (md:Md) (h:Heap) (p:PHeap) (hp:Per p h) (a:Option Addr) (ca:Nat) (A:Nat→Option Addr) (C:Nat→Nat) (b:Option Addr) (cb:Nat) (k:Bk) (B:BookP p a k.cords.length A C b k.top.length k) (hn:k.cords.length≤40∧k.top.length≤40∧ ∀ l∈k.cords,l.length≤40) (q:Bool):CallsX Tryz.prog md 34 #[.agg #[.int .i64 (k.base),.int .i64 (k.places),.slice a k.cords.length ca,.slice b k.top.length cb],.bool (q)] h fun v h'=>v= .int .i64 (askK k q)∧Keep h h':=by
 refine xbv (Φ:=fun h_=>St h [] p h_ []) Tryz.func34 rfl (tm:=zq1 (zq4 (zq8 []))) rfl ?_ (St.start h _ hp)
 intro c₀ cs Stop K
 refine fsr ?_
 refine xjq mn (v:=.agg #[.int .i64 (k.base),.int .i64 (k.places),.slice a k.cords.length ca,.slice b k.top.length cb]) rfl fun b1=>xcz (L':=[(b1,.cells #[.int .i64 (k.base),.int .i64 (k.places),.slice a k.cords.length ca,.slice b k.top.length cb] 25 (0,0))]) rfl ?_
 refine rt (xaq (v:=.int .i64 0) rfl) (tm':=zq1 (zq4 _)) rfl <| ren <| fsr <| rd (fun h_ H_=>xbk H_ tA25 tS25 rfl (i:=0) rfl (vs:=[.int .i64 (k.base),.int .i64 (k.places),.slice a k.cords.length ca,.slice b k.top.length cb]) rfl rfl) ?_
 refine xcw mn (first:=[]) (cap:=[]) rfl rfl fC58 (fun h_ H_=>c58 md _ _ H_.pe _ _ _ _ _ _ k (show BookP _ _ _ _ _ _ _ k from ⟨B.t,B.u⟩) hn) rfl ?_
 refine rt (xaq (v:=.int .i64 (chkK k)) rfl) (tm':=zq2 (zq4 _)) rfl <| ren <| xav <| ro (xax (v:=.int .i64 (chkK k)) rfl) <| ro (xgw rfl rfl) <| xak ?_
 by_cases cc2:chkK k≠0
 ·
  refine xcx rfl (dtt cc2) <| fsr <| rt (xax (v:=.int .i64 (chkK k)) rfl) (tm':=zq1 (zq4 (zq8 []))) rfl <| ro (xaq (v:=.int .i64 (chkK k)) rfl) <| xak ?_
  refine xcj Tryz.func34 rfl (vs:=[.int .i64 (chkK k)]) (fun h_ H_=>⟨.int .i64 (chkK k),_,rfl,rfl,rfl⟩) (v:=.int .i64 (chkK k)) rfl ?_
  exact fun h_ H_=>K _ _ ⟨by unfold askK;first | (rw [if_neg ‹_›]) | (rw [if_pos (by omega)];simp [*]),H_.kept⟩
 ·
  refine xcv rfl (dff cc2) <| xdz <| xbj <| fsr <| ro (xax (v:=.bool (q)) rfl) <| rt (xfw rfl) (tm':=zq1 (zq4 (zq8 []))) rfl ?_
  refine xak ?_
  rcases xtx (q) with cc3 | cc3
  ·
   refine xcv rfl (xej cc3) <| xdz <| fsr <| ro (xaq (v:=.int .i64 0) rfl) <| xak ?_
   refine xcj Tryz.func34 rfl (vs:=[.int .i64 0]) (fun h_ H_=>⟨.int .i64 0,_,rfl,rfl,rfl⟩) (v:=.int .i64 0) rfl ?_
   exact fun h_ H_=>K _ _ ⟨by unfold askK;first | (rw [if_neg ‹_›]) | (rw [if_pos (by omega)];simp [*]),H_.kept⟩
  ·
   refine xcx rfl (xek cc3) <| fsr <| ro (xaq (v:=.int .i64 1) rfl) <| xak ?_
   refine xcj Tryz.func34 rfl (vs:=[.int .i64 1]) (fun h_ H_=>⟨.int .i64 1,_,rfl,rfl,rfl⟩) (v:=.int .i64 1) rfl ?_
   exact fun h_ H_=>K _ _ ⟨by unfold askK;first | (rw [if_neg ‹_›]) | (rw [if_pos (by omega)];simp [*]),H_.kept⟩
theorem c74 (md:Md) (h:Heap) (p:PHeap) (hp:Per p h) (a:Option Addr) (ca:Nat) (A:Nat→Option Addr) (C:Nat→Nat) (b:Option Addr) (cb:Nat) (k:Bk) (_B:BookP p a k.cords.length A C b k.top.length k) (bt:Nat) (hbt:p bt=some (.cells #[.int .i64 k.base,.int .i64 k.places,.slice a k.cords.length ca,.slice b k.top.length cb] 25 (0,0))) (d:Int) (hb:2≤k.base∧k.base≤10):CallsX Tryz.prog md 74 #[.int .i64 (d),.pointer (some ⟨bt,0,none⟩)] h fun v h'=>v= .bool (badD k d)∧Keep h h':=by
 refine xbv (Φ:=fun h_=>St h [] p h_ []) Tryz.func74 rfl (tm:=zq2 (zq8 [])) rfl ?_ (St.start h _ hp)
 intro c₀ cs Stop K
 refine fsr <| rt (xaq (v:=.bool (false)) rfl) (tm':=zq4 _) rfl <| ren <| xav <| ro (xax (v:=.int .i64 (d)) rfl) <| ro (xaw ygj rfl (a':=⟨bt,0,none⟩) rfl) ?_
 refine xaj mn (fun h_ H_=>xdk H_ tA3 rfl (v:=.int .i64 (k.base)) (xnq hbt rfl)) (tm':=zq2 (zq8 [])) rfl ?_
 refine ro (xlv rfl rfl (wr (by omega))) ?_
 refine xcw mn (first:=[]) (cap:=[]) rfl rfl fC35 (fun h_ H_=>c35 md _ (d) (0) (k.base-1)) rfl ?_
 refine rt (xfw rfl) (tm':=zq2 (zq8 [])) rfl <| ro (xaq (v:=.bool (!(decide (0≤d∧d≤k.base-1)))) rfl) <| xak ?_
 refine xcj Tryz.func74 rfl (vs:=[.bool (!(decide (0≤d∧d≤k.base-1)))]) (fun h_ H_=>⟨.bool (!(decide (0≤d∧d≤k.base-1))),_,rfl,rfl,rfl⟩) (v:=.bool (!(decide (0≤d∧d≤k.base-1)))) rfl ?_
 exact fun h_ H_=>K _ _ ⟨by first | rfl | (unfold badD;simp [*]),H_.kept⟩
theorem c44 (md:Md) (h:Heap) (p:PHeap) (hp:Per p h) (a:Option Addr) (ca:Nat) (A:Nat→Option Addr) (C:Nat→Nat) (b:Option Addr) (cb:Nat) (k:Bk) (B:BookP p a k.cords.length A C b k.top.length k) (e:Option Addr) (m ce:Nat) (l:List Int) (S:Ints p e m l) (hm:m≤2 ^ 40) (hb:2≤k.base∧k.base≤10):CallsX Tryz.prog md 44 #[.agg #[.int .i64 (k.base),.int .i64 (k.places),.slice a k.cords.length ca,.slice b k.top.length cb],.slice e m ce] h fun v h'=>v= .bool (decide (digK k l))∧Keep h h':=by
 refine xbv (Φ:=fun h_=>St h [] p h_ []) Tryz.func44 rfl (tm:=zq16 []) rfl ?_ (St.start h _ hp)
 intro c₀ cs Stop K
 have hs:=S.len
 refine fsr ?_
 refine xjq mn (v:=.agg #[.int .i64 (k.base),.int .i64 (k.places),.slice a k.cords.length ca,.slice b k.top.length cb]) rfl fun b1=>xcz (L':=[(b1,.cells #[.int .i64 (k.base),.int .i64 (k.places),.slice a k.cords.length ca,.slice b k.top.length cb] 25 (0,0))]) rfl ?_
 refine rt (xaq (v:=.bool (false)) rfl) (tm':=zq1 (zq4 _)) rfl <| ren ?_
 refine ysw 0 rfl (L':=[]) rfl fun p2 le3 hb4=>?_
 refine xav <| ro (xax (v:=.slice e m ce) rfl) <| ro (xfj Tryz.underlying26 rfl) <| rt (xaw ypx rfl (a':=⟨b1,1,none⟩) rfl) (tm':=zq8 _) rfl <| rd (fun h_ H_=>xdk H_ tA3 rfl (v:=.int .i64 (k.places)) (xnq hb4 rfl)) <| ro (xmj rfl rfl) ?_
 refine rt (xax (v:=.bool (decide (((m:Nat):Int)=k.places))) rfl) (tm':=zq16 []) rfl ?_
 by_cases cc5:((m:Nat):Int)=k.places
 ·
  refine xaj (ms rfl rfl (dtt cc5)) (fun h_ H_=>xax (v:=.slice e m ce) rfl) rfl ?_
  refine xaj (ms rfl rfl (dtt cc5)) (fun h_ H_=>xrx (a:=[]) (b:=[.pointer (some ⟨b1,0,none⟩)]) rfl rfl) rfl ?_
  refine xcw (ms rfl rfl (dtt cc5)) (first:=[]) (cap:=[]) rfl rfl fC73 (fun h_ H_=>c73 md _ _ H_.pe (.func (.func 74) #[] #[.pointer (some ⟨b1,0,none⟩)]) _ _ _ _ (S.mono le3) (by omega) (badD k) (fun h_ hp_ i_ hi_=>xxz fC74 (c74 md _ _ hp_ _ _ _ _ _ _ k (show BookP _ _ _ _ _ _ _ k from ⟨(B.t.mono le3),(B.u.mono le3)⟩) _ hb4 _ hb))) (tm':=zq16 []) rfl ?_
  refine xaj (ms rfl rfl (dtt cc5)) (fun h_ H_=>xfw rfl) rfl ?_
  refine ro (xbw rfl (dtt cc5) (v:=.bool (!(decide (0≤idxA (badD k) l)))) rfl) <| rt (xaq (v:=.bool (!(decide (0≤idxA (badD k) l)))) rfl) (tm':=zq1 (zq4 _)) rfl <| xak ?_
  refine xcj Tryz.func44 rfl (vs:=[.bool (!(decide (0≤idxA (badD k) l)))]) (fun h_ H_=>⟨.bool (!(decide (0≤idxA (badD k) l))),_,rfl,rfl,rfl⟩) (v:=.bool (!(decide (0≤idxA (badD k) l)))) rfl ?_
  exact fun h_ H_=>K _ _ ⟨congrArg Value.bool (by first | exact (waz (by omega)) | exact (decide_eq_false (wax (by omega))).symm),H_.kept⟩
 ·
  refine rp (mo rfl rfl (dff cc5)) <| rp (mo rfl rfl (dff cc5)) <| xck (mo rfl rfl (dff cc5)) (tm':=zq16 []) rfl <| rp (mo rfl rfl (dff cc5)) <| ro (xdq rfl (dff cc5) (v:=.bool (false)) rfl) <| rt (xaq (v:=.bool (false)) rfl) (tm':=zq1 (zq4 _)) rfl ?_
  refine xak ?_
  refine xcj Tryz.func44 rfl (vs:=[.bool (false)]) (fun h_ H_=>⟨.bool (false),_,rfl,rfl,rfl⟩) (v:=.bool (false)) rfl ?_
  exact fun h_ H_=>K _ _ ⟨congrArg Value.bool (by first | exact (waz (by omega)) | exact (decide_eq_false (wax (by omega))).symm),H_.kept⟩
end Go.Proofs.YtphalmjpbnffcaaGreatDoor
