/-
  Part of proofs about cords and rosters in a file: a lone run, and what it computes. No condition.
-/
import Derived.Conc.Beside
import Derived.IntWalk
import Derived.Conc.LeavingOf
import Derived.Carry
import Derived.Deep.Slices
import Derived.Lib.SmallJoins
import Derived.Orders
import Derived.Shelf.LaysM
import Derived.Shelf.Strconv.Itoa3
import Derived.Shelf.Strings.Search3
import Derived.Shelf.Strings.Count
import Derived.Shelf.Strings.Prefix
import Derived.Shelf.Strings.Split
import Derived.Shelf.Strings.Repeat
import Derived.Test.YtphalmjpbnffcaaGreatDoorProg
import Derived.Calls
import Derived.Laws.StructEq
import Derived.Lib.AppendIntMem
import Derived.Test.YtphalmjpbnffcaaGreatDoorRows
import Derived.Lay
import Derived.Lib.LaidTab
import Derived.LaidSub
import Derived.MakeChecks
import Derived.JoinedOf
import Derived.Handed
import Derived.ChangeMaps5
import Derived.ProofKit
import Derived.KernelRfl
namespace Go.X
open Go.Conc

abbrev Heap:=Array Obj

def cell? (h:Heap) (a:Addr):Option Value:=
  match h[a.block]? with
  | some (.cells c _ _)=>if a.spot.isSome then none else c[a.off]?
  | _=>none

def frozenAt (h:Heap) (a:Addr):Bool:=
  match h[a.block]? with
  | some (.cells _ _ (lo,hi))=>lo≤a.off && a.off<hi
  | _=>false

def setCell (h:Heap) (a:Addr) (v:Value):Heap:=
  h.modify a.block fun
    | .cells c elem frozen=>.cells (if a.spot.isSome then c else c.setIfInBounds a.off v) elem frozen
    | o=>o

def freezeH (h:Heap) (a:Addr) (n:Nat):Heap:=
  if n=0 then h else
  h.modify a.block fun
    | .cells c elem (lo,hi)=>.cells c elem (if lo == hi then (a.off,a.off+n) else (min lo a.off,max hi (a.off+n)))
    | o=>o

def isOne:Value→Bool
  | .agg _=>false
  | .tuple _=>false
  | _=>true

def seenAt (h:Heap) (a:Addr):Prop:=∃ c e f,h[a.block]?=some (.cells c e f)∧0<c.size

def okMark:Mark→Bool
  | .extern _=>true
  | .noRoom=>true
  | _=>false

def wpS {α:Type} (P:Program):Sem α→Heap→(α→Heap→Prop)→Prop
  | .pure a,h,K=>K a h
  | .load m a k,h,K=>m= .plain∧ ∃ v,cell? h a=some v∧wpS P (k v) h K
  | .store m a v k,h,K=>m= .plain∧isOne v=true∧(∃ u,cell? h a=some u)∧frozenAt h a=false∧wpS P k (setCell h a v) K
  | .new o k,h,K=>wpS P (k h.size) (h.push o) K
  | .shape r k,h,K=>match h[r]? with
    | some (.cells c e _)=>0<c.size∧wpS P (k (some (e,c.size))) h K
    | _=>wpS P (k none) h K
  | .freeze a n k,h,K=>(∃ c e f,h[a.block]?=some (.cells c e f)∧0<c.size∧f≠(0,c.size))∧wpS P k (freezeH h a n) K
  | .frozen a k,h,K=>seenAt h a∧((cell? h a).isSome=true∧frozenAt h a=false→wpS P (k false) h K)∧(¬ ((cell? h a).isSome=true∧frozenAt h a=false)→ ∀ b,wpS P (k b) h K)
  | .getObj r k,h,K=>match h[r]? with
    | some (.cells ..)=>False
    | some o=>o.isChan=false∧wpS P (k o) h K
    | none=>False
  | .setObj r o k,h,K=>match h[r]? with
    | some (.cells ..)=>False
    | some o'=>o'.isChan=false∧o.isChan=false∧wpS P k (h.setIfInBounds r o) K
    | none=>False
  | .choose q k,h,K=>if q.forced then wpS P (k 0) h K else ∀ t,wpS P (k (q.cut t)) h K
  | .sys _ _,_,_=>False
  | .program k,h,K=>wpS P (k P) h K
  | .mark m k,h,K=>okMark m=true∧wpS P k h K
  | .halt _,_,_=>False

section
variable {α β:Type} {P:Program}

theorem xjk {s:Sem α}: ∀ {h:Heap} {K K':α→Heap→Prop},wpS P s h K→(∀ a h,K a h→K' a h)→wpS P s h K':=by
  induction s with
  | pure a=>exact fun x y=>y _ _ x
  | load m a k ih=>exact fun ⟨x,v,y,z⟩ q=>⟨x,v,y,ih v z q⟩
  | store m a v k ih=>exact fun ⟨x,o,y,z,t⟩ q=>⟨x,o,y,z,ih t q⟩
  | new o k ih=>exact fun x q=>ih _ x q
  | shape r k ih=>
    intro h K K' x q
    unfold wpS at x ⊢
    split at x
    · exact ⟨x.1,ih _ x.2 q⟩
    · exact ih _ x q
  | freeze a n k ih=>exact fun x q=>⟨x.1,ih x.2 q⟩
  | frozen a k ih=>exact fun x q=>⟨x.1,fun e=>ih _ (x.2.1 e) q,fun e b=>ih _ (x.2.2 e b) q⟩
  | getObj r k ih=>
    intro h K K' x q
    unfold wpS at x ⊢
    split at x
    · exact x
    · exact ⟨x.1,ih _ x.2 q⟩
    · exact x
  | setObj r o k ih=>
    intro h K K' x q
    unfold wpS at x ⊢
    split at x
    · exact x
    · exact ⟨x.1,x.2.1,ih x.2.2 q⟩
    · exact x
  | choose qn k ih=>
    intro h K K' x q
    unfold wpS at x ⊢
    split at x
    · rename_i hf;rw [if_pos hf];exact ih _ x q
    · rename_i hf;rw [if_neg hf];exact fun t=>ih _ (x t) q
  | sys c k ih=>exact fun x _=>x.elim
  | program k ih=>exact fun x q=>ih _ x q
  | mark m k ih=>exact fun ⟨x,y⟩ q=>⟨x,ih y q⟩
  | halt h=>exact fun x _=>x.elim

theorem ycx {s:Sem α} {f:α→Sem β}: ∀ {h:Heap} {K:β→Heap→Prop},wpS P s h (fun a h'=>wpS P (f a) h' K)→wpS P (s.bind f) h K:=by
  induction s with
  | pure a=>exact id
  | load m a k ih=>exact fun ⟨x,v,y,z⟩=>⟨x,v,y,ih v z⟩
  | store m a v k ih=>exact fun ⟨x,o,y,z,t⟩=>⟨x,o,y,z,ih t⟩
  | new o k ih=>exact fun x=>ih _ x
  | shape r k ih=>
    intro h K x
    unfold Sem.bind
    unfold wpS at x ⊢
    split at x
    · exact ⟨x.1,ih _ x.2⟩
    · exact ih _ x
  | freeze a n k ih=>exact fun x=>⟨x.1,ih x.2⟩
  | frozen a k ih=>exact fun x=>⟨x.1,fun e=>ih _ (x.2.1 e),fun e b=>ih _ (x.2.2 e b)⟩
  | getObj r k ih=>
    intro h K x
    unfold Sem.bind
    unfold wpS at x ⊢
    split at x
    · exact x
    · exact ⟨x.1,ih _ x.2⟩
    · exact x
  | setObj r o k ih=>
    intro h K x
    unfold Sem.bind
    unfold wpS at x ⊢
    split at x
    · exact x
    · exact ⟨x.1,x.2.1,ih x.2.2⟩
    · exact x
  | choose qn k ih=>
    intro h K x
    unfold Sem.bind
    unfold wpS at x ⊢
    split at x
    · rename_i hf;rw [if_pos hf];exact ih _ x
    · rename_i hf;rw [if_neg hf];exact fun t=>ih _ (x t)
  | sys c k ih=>exact fun x=>x.elim
  | program k ih=>exact fun x=>ih _ x
  | mark m k ih=>exact fun ⟨x,y⟩=>⟨x,ih y⟩
  | halt h=>exact fun x=>x.elim

theorem xbq {s:Sem α} {f:α→Sem β} {h:Heap} {K:β→Heap→Prop} (x:wpS P s h (fun a h'=>wpS P (f a) h' K)):wpS P (s >>= f) h K:=ycx x

theorem xbz {a:α} {h:Heap} {K:α→Heap→Prop} (x:K a h):wpS P (pure a) h K:=x

structure Vw where
  dead:Nat→Prop
  still:Nat→Prop

def Vw.of (S:Nat→Prop):Vw:=⟨S,fun _=>False⟩

structure Veil (S:Vw) (h r:Heap):Prop where
  size:h.size=r.size
  same: ∀ b,¬ S.dead b→ ¬ S.still b→h[b]?=r[b]?
  shun: ∀ b,S.dead b→h[b]?=some (.cells #[] 0 (0,0))
  frz: ∀ b,S.still b→ ∃ c e f,r[b]?=some (.cells c e f)∧h[b]?=some (.cells c e (0,c.size))

theorem Veil.refl (h:Heap):Veil (.of fun _=>False) h h:=⟨rfl,fun _ _ _=>rfl,fun _ x=>x.elim,fun _ x=>x.elim⟩

variable {S:Vw} {h r:Heap}

theorem Veil.cell (V:Veil S h r) {a:Addr} {v:Value} (x:cell? h a=some v):cell? r a=some v∧ ¬ S.dead a.block:=by
  by_cases hs:S.dead a.block
  · have hb:=V.shun _ hs
    unfold cell? at x
    rw [hb] at x
    simp at x
  · refine ⟨?_,hs⟩
    by_cases ht:S.still a.block
    · obtain ⟨c,e,f,hr,hh⟩:=V.frz _ ht
      unfold cell? at x ⊢
      rw [hh] at x;rw [hr]
      exact x
    · unfold cell? at x ⊢
      rw [← V.same _ hs ht]
      exact x

theorem wav {a:Addr} {v:Value} (x:cell? h a=some v):a.block<h.size:=by
  unfold cell? at x
  split at x
  · rename_i c e f hb;exact (Array.getElem?_eq_some_iff.1 hb).1
  · cases x

theorem Veil.seen (V:Veil S h r) {a:Addr} (x:seenAt h a): ¬ S.dead a.block:=by
  intro hs
  obtain ⟨c,e,f,hb,hc⟩:=x
  rw [V.shun _ hs] at hb
  cases hb
  simp at hc

theorem Veil.frozen (V:Veil S h r) {a:Addr} (hs: ¬ S.dead a.block) (ht: ¬ S.still a.block):frozenAt h a=frozenAt r a:=by
  unfold frozenAt;rw [V.same _ hs ht]

theorem Veil.thaw (V:Veil S h r) {a:Addr} {v:Value} (x:cell? h a=some v) (hf:frozenAt h a=false): ¬ S.still a.block:=by
  intro ht
  obtain ⟨c,e,f,hr,hh⟩:=V.frz _ ht
  unfold cell? at x
  unfold frozenAt at hf
  rw [hh] at x hf
  simp only at x hf
  split at x
  · cases x
  · have:=(Array.getElem?_eq_some_iff.1 x).1
    simp at hf
    omega

theorem getElem?_modify' (h:Heap) (i j:Nat) (f:Obj→Obj):(h.modify i f)[j]?=if i=j then h[j]?.map f else h[j]?:=by
  rw [Array.getElem?_modify]

theorem Veil.modify (V:Veil S h r) {i:Nat} (f:Obj→Obj) (hs: ¬ S.dead i) (ht: ¬ S.still i):Veil S (h.modify i f) (r.modify i f):=by
  refine ⟨by simp [V.size],fun b hb hb'=>?_,fun b hb=>?_,fun b hb=>?_⟩
  · rw [getElem?_modify',getElem?_modify',V.same _ hb hb']
  · have hne:i≠b:=fun e=>hs (e ▸ hb)
    rw [getElem?_modify',if_neg hne]
    exact V.shun _ hb
  · have hne:i≠b:=fun e=>ht (e ▸ hb)
    rw [getElem?_modify',if_neg hne,getElem?_modify',if_neg hne]
    exact V.frz _ hb

theorem Veil.setCell (V:Veil S h r) {a:Addr} (v:Value) (hs: ¬ S.dead a.block) (ht: ¬ S.still a.block):Veil S (X.setCell h a v) (X.setCell r a v):=V.modify _ hs ht

theorem Veil.freeze (V:Veil S h r) {a:Addr} (n:Nat) (hs: ¬ S.dead a.block) (ht: ¬ S.still a.block):Veil S (freezeH h a n) (freezeH r a n):=by
  unfold freezeH
  split
  · exact V
  · exact V.modify _ hs ht

theorem Veil.lt (V:Veil S h r) {b:Nat} (hb:S.dead b):b<r.size:=by
  rw [← V.size];exact (Array.getElem?_eq_some_iff.1 (V.shun _ hb)).1
theorem Veil.lts (V:Veil S h r) {b:Nat} (hb:S.still b):b<r.size:=by
  obtain ⟨c,e,f,hr,_⟩:=V.frz _ hb
  exact (Array.getElem?_eq_some_iff.1 hr).1

theorem Veil.push (V:Veil S h r) (o:Obj):Veil S (h.push o) (r.push o):=by
  refine ⟨by simp [V.size],fun b hb hb'=>?_,fun b hb=>?_,fun b hb=>?_⟩
  · rw [Array.getElem?_push,Array.getElem?_push,V.size,V.same _ hb hb']
  · have:=V.lt hb
    rw [Array.getElem?_push,V.size,if_neg (by omega)]
    exact V.shun _ hb
  · have:=V.lts hb
    rw [Array.getElem?_push,Array.getElem?_push,V.size,if_neg (by omega),if_neg (by omega)]
    exact V.frz _ hb

theorem Veil.setObj (V:Veil S h r) {b:Nat} (o:Obj) (hs: ¬ S.dead b) (ht: ¬ S.still b):Veil S (h.setIfInBounds b o) (r.setIfInBounds b o):=by
  refine ⟨by simp [V.size],fun c hc hc'=>?_,fun c hc=>?_,fun c hc=>?_⟩
  · rw [Array.getElem?_setIfInBounds,Array.getElem?_setIfInBounds,V.size,V.same _ hc hc']
  · have hne:b≠c:=fun e=>hs (e ▸ hc)
    rw [Array.getElem?_setIfInBounds_ne hne]
    exact V.shun _ hc
  · have hne:b≠c:=fun e=>ht (e ▸ hc)
    rw [Array.getElem?_setIfInBounds_ne hne,Array.getElem?_setIfInBounds_ne hne]
    exact V.frz _ hc

theorem Veil.obj (V:Veil S h r) {b:Nat} {o:Obj} (hn: ∀ c e f,o= .cells c e f→False) (ho:h[b]?=some o): ¬ S.dead b∧ ¬ S.still b:=by
  refine ⟨fun hs=>?_,fun ht=>?_⟩
  · rw [V.shun _ hs] at ho
    exact hn _ _ _ (Option.some.inj ho).symm
  · obtain ⟨c,e,f,_,hh⟩:=V.frz _ ht
    rw [hh] at ho
    exact hn _ _ _ (Option.some.inj ho).symm

structure Keep (h h':Heap):Prop where
  size:h.size≤h'.size
  keep: ∀ b,b<h.size→h'[b]?=h[b]?

theorem Keep.refl (h:Heap):Keep h h:=⟨Nat.le_refl _,fun _ _=>rfl⟩
theorem Keep.trans {a b c:Heap} (x:Keep a b) (y:Keep b c):Keep a c:=⟨Nat.le_trans x.size y.size,fun i hi=>(y.keep i (Nat.lt_of_lt_of_le hi x.size)).trans (x.keep i hi)⟩

def ShunOf (S:Nat→Prop):Loc→Prop:=fun l=>∃ a:Addr,l= .cell a∧S a.block

structure Calm (w w':World):Prop where
  os:w'.os=w.os
  tape:w'.tape=w.tape
  output:w'.output=w.output
  size:w.heap.size≤w'.heap.size

theorem Calm.refl (w:World):Calm w w:=⟨rfl,rfl,rfl,Nat.le_refl _⟩
theorem Calm.trans {a b c:World} (x:Calm a b) (y:Calm b c):Calm a c:=
  ⟨y.os.trans x.os,y.tape.trans x.tape,y.output.trans x.output,Nat.le_trans x.size y.size⟩

structure Quiet (S:Vw) (w w':World):Prop where
  calm:Calm w w'
  stand: ∀ b,b<w.heap.size→S.dead b∨S.still b→w'.heap[b]?=w.heap[b]?

theorem Quiet.size {S:Vw} {w w':World} (x:Quiet S w w'):w.heap.size≤w'.heap.size:=x.calm.size
theorem Quiet.refl {S:Vw} (w:World):Quiet S w w:=⟨.refl w,fun _ _ _=>rfl⟩
theorem Quiet.trans {S:Vw} {a b c:World} (x:Quiet S a b) (y:Quiet S b c):Quiet S a c:=
  ⟨x.calm.trans y.calm,fun i hi z=>(y.stand i (Nat.lt_of_lt_of_le hi x.size) z).trans (x.stand i hi z)⟩

def EvX (S:Vw) (B:Nat) (e:Event):Prop:=
  match e.loc with
  | .cell a=>e.sync=false∧ ¬ S.dead a.block∧a.block<B∧(e.write=true→ ¬ S.still a.block)
  | .obj b=>e.sync=false∧ ¬ S.dead b∧b<B∧ ¬ S.still b
  | .mark m=>okMark m=true
  | _=>False

theorem whz {S:Vw} {B B':Nat} (hB:B≤B') {e:Event} (x:EvX S B e):EvX S B' e:=by
  unfold EvX at x ⊢
  split at x
  · exact ⟨x.1,x.2.1,Nat.lt_of_lt_of_le x.2.2.1 hB,x.2.2.2⟩
  · exact ⟨x.1,x.2.1,Nat.lt_of_lt_of_le x.2.2.1 hB,x.2.2.2⟩
  · exact x
  · exact x.elim

theorem wov {S:Vw} {B:Nat} {e:Event} (x:EvX S B e):EvL (ShunOf S.dead) B e:=by
  obtain ⟨loc,wr,sy⟩:=e
  unfold EvX at x
  split at x
  · rename_i a ha
    simp only at ha x;subst ha
    obtain ⟨rfl,hs,hb,_⟩:=x
    refine ⟨?_,by simp,by simp,hb⟩
    intro y hy hsh
    simp [MemAct.ofEvent,MemAct.touch?] at hy
    subst hy
    obtain ⟨b,hb',hsb⟩:=hsh
    cases hb'
    exact absurd hsb hs
  · rename_i b hb'
    simp only at hb' x;subst hb'
    obtain ⟨rfl,hs,hb,_⟩:=x
    refine ⟨?_,by simp,by simp,by simpa [MemAct.ofEvent,MemAct.low,Loc.low] using hb⟩
    intro y hy hsh
    simp [MemAct.ofEvent,MemAct.touch?] at hy
    subst hy
    obtain ⟨_,hb',_⟩:=hsh
    cases hb'
  · rename_i m hm
    simp only at hm;subst hm
    cases m <;> simp_all [okMark]
    all_goals
      refine ⟨?_,by simp,by simp,trivial⟩
      intro x hx
      simp [MemAct.ofEvent,MemAct.touch?] at hx
  · exact x.elim

theorem zeq {h:Heap} {a:Addr} {v:Value} {b:Nat} (hne:b≠a.block):(setCell h a v)[b]?=h[b]?:=by
  unfold setCell;rw [getElem?_modify',if_neg (Ne.symm hne)]
theorem zqx {h:Heap} {a:Addr} {n b:Nat} (hne:b≠a.block):(freezeH h a n)[b]?=h[b]?:=by
  unfold freezeH;split
  · rfl
  · rw [getElem?_modify',if_neg (Ne.symm hne)]

theorem yak (s:Sem α): ∀ {h:Heap} {K:α→Heap→Prop} {w:World} (es₀:Array Event),wpS P s h K→Veil S h w.heap→
    ∃ a h' w' es,s.runT P w es₀=(.ok a w',es₀++es)∧s.run P w= .ok a w'∧K a h'∧Veil S h' w'.heap∧Quiet S w w'∧ ∀ e∈es,EvX S w'.heap.size e:=by
  induction s with
  | pure a=>exact fun {h K w} es₀ x V=>⟨a,h,w,#[],by simp [Sem.runT],rfl,x,V,.refl _,by simp⟩
  | load m a k ih=>
    intro h K w es₀ ⟨hm,v,hc,x⟩ V
    obtain ⟨hcr,hs⟩:=V.cell hc
    have hcw:w.cell? a=some v:=hcr
    obtain ⟨y,h',w',es,e1,e2,e3,e4,e5,e6⟩:=ih v (es₀.push ⟨.cell a,false,m == .atomic⟩) x V
    subst hm
    refine ⟨y,h',w',#[⟨.cell a,false,false⟩]++es,?_,?_,e3,e4,e5,?_⟩
    · simp only [Sem.runT,hcw,e1,Prod.mk.injEq,true_and]
      rw [← Array.append_assoc];congr 1
    · simp only [Sem.run,hcw,e2]
    · intro e he
      rcases Array.mem_append.1 he with he | he
      · simp at he;subst he
        exact ⟨rfl,hs,Nat.lt_of_lt_of_le (wav hcr) e5.size,fun x=>by cases x⟩
      · exact e6 e he
  | store m a v k ih=>
    intro h K w es₀ ⟨hm,hv,⟨u,hu⟩,hf,x⟩ V
    obtain ⟨hur,hs⟩:=V.cell hu
    have huw:w.cell? a=some u:=hur
    have ht:=V.thaw hu hf
    have hfw:w.frozen? a=false:=(V.frozen hs ht).symm.trans hf
    have V':Veil S (X.setCell h a v) (w.setCell a v).heap:=V.setCell v hs ht
    obtain ⟨y,h',w',es,e1,e2,e3,e4,e5,e6⟩:=ih (es₀.push ⟨.cell a,true,m == .atomic⟩) x V'
    subst hm
    have hsz:(w.setCell a v).heap.size=w.heap.size:=by simp [World.setCell]
    refine ⟨y,h',w',#[⟨.cell a,true,false⟩]++es,?_,?_,e3,e4,⟨⟨e5.calm.os,e5.calm.tape,e5.calm.output,by rw [← hsz];exact e5.size⟩,fun b hb z=>(e5.stand b (by rw [hsz];exact hb) z).trans (zeq (h:=w.heap) fun e=>by subst e;exact z.elim hs ht)⟩,?_⟩
    · cases v <;> simp [isOne] at hv
      all_goals
        simp only [Sem.runT,huw,hfw,Bool.false_eq_true,if_false,e1,Prod.mk.injEq,true_and]
        rw [← Array.append_assoc];congr 1
    · cases v <;> simp [isOne] at hv
      all_goals simp only [Sem.run,huw,hfw,Bool.false_eq_true,if_false,e2]
    · intro e he
      rcases Array.mem_append.1 he with he | he
      · simp at he;subst he
        exact ⟨rfl,hs,Nat.lt_of_lt_of_le (wav hur) (by rw [← hsz];exact e5.size),fun _=>ht⟩
      · exact e6 e he
  | new o k ih=>
    intro h K w es₀ x V
    have V':Veil S (h.push o) ({ w with heap:=w.heap.push o }:World).heap:=V.push o
    have x':wpS P (k w.heap.size) (h.push o) K:=by rw [← V.size];exact x
    obtain ⟨y,h',w',es,e1,e2,e3,e4,e5,e6⟩:=ih w.heap.size es₀ x' V'
    exact ⟨y,h',w',es,by simp only [Sem.runT,e1],by simp only [Sem.run,e2],e3,e4,⟨⟨e5.calm.os,e5.calm.tape,e5.calm.output,by have:=e5.size;simp at this;omega⟩,fun b hb z=>(e5.stand b (by simp;omega) z).trans (by simp only [Array.getElem?_push];rw [if_neg (by omega)])⟩,e6⟩
  | shape r k ih=>
    intro h K w es₀ x V
    unfold wpS at x
    have key: ∃ z,w.shape? r=z∧wpS P (k z) h K:=by
      split at x
      · rename_i c e f hr
        have hs: ¬ S.dead r:=by
          intro hs
          have hb:=V.shun _ hs
          rw [hr] at hb
          simp at hb
          have:=x.1
          rw [hb.1] at this
          simp at this
        refine ⟨_,?_,x.2⟩
        unfold World.shape?
        by_cases ht:S.still r
        · obtain ⟨c',e',f',hr',hh⟩:=V.frz _ ht
          rw [hh] at hr
          cases hr
          rw [hr']
        · rw [← V.same _ hs ht,hr]
      · rename_i hn
        refine ⟨_,?_,x⟩
        have hs: ¬ S.dead r:=by
          intro hs
          exact hn _ _ _ (V.shun _ hs)
        have ht: ¬ S.still r:=by
          intro ht
          obtain ⟨c',e',f',hr',hh⟩:=V.frz _ ht
          exact hn _ _ _ hh
        unfold World.shape?
        rw [← V.same _ hs ht]
        split
        · rename_i c e f hr
          exact absurd hr (hn _ _ _)
        · rfl
    obtain ⟨z,hz,x'⟩:=key
    obtain ⟨y,h',w',es,e1,e2,e3,e4,e5,e6⟩:=ih z es₀ x' V
    exact ⟨y,h',w',es,by simp only [Sem.runT,hz,e1],by simp only [Sem.run,hz,e2],e3,e4,e5,e6⟩
  | freeze a n k ih=>
    intro h K w es₀ ⟨⟨c,e,f,hc,hc0,hcf⟩,x⟩ V
    have hs:=V.seen ⟨c,e,f,hc,hc0⟩
    have ht: ¬ S.still a.block:=by
      intro ht
      obtain ⟨c',e',f',_,hh⟩:=V.frz _ ht
      rw [hh] at hc
      cases hc
      exact hcf rfl
    have hfz:(w.freeze a n).heap=freezeH w.heap a n:=by unfold World.freeze freezeH;split <;> rfl
    have V':Veil S (freezeH h a n) (w.freeze a n).heap:=by rw [hfz];exact V.freeze n hs ht
    obtain ⟨y,h',w',es,e1,e2,e3,e4,e5,e6⟩:=ih es₀ x V'
    have h1:(w.freeze a n).os=w.os:=by unfold World.freeze;split <;> rfl
    have h2:(w.freeze a n).tape=w.tape:=by unfold World.freeze;split <;> rfl
    have h3:(w.freeze a n).output=w.output:=by unfold World.freeze;split <;> rfl
    have h4:(w.freeze a n).heap.size=w.heap.size:=by unfold World.freeze;split <;> simp
    exact ⟨y,h',w',es,by simp only [Sem.runT,e1],by simp only [Sem.run,e2],e3,e4,⟨⟨e5.calm.os.trans h1,e5.calm.tape.trans h2,e5.calm.output.trans h3,by rw [← h4];exact e5.size⟩,fun b hb z=>(e5.stand b (by rw [h4];exact hb) z).trans (by rw [hfz];exact zqx fun e=>by subst e;exact z.elim hs ht)⟩,e6⟩
  | frozen a k ih=>
    intro h K w es₀ ⟨hsee,xt,xf⟩ V
    have x:wpS P (k (w.frozen? a)) h K:=by
      by_cases hc:(cell? h a).isSome=true∧frozenAt h a=false
      · obtain ⟨v,hv⟩:=Option.isSome_iff_exists.1 hc.1
        have hfw:w.frozen? a=false:=(V.frozen (V.seen hsee) (V.thaw hv hc.2)).symm.trans hc.2
        rw [hfw]
        exact xt hc
      · exact xf hc _
    obtain ⟨y,h',w',es,e1,e2,e3,e4,e5,e6⟩:=ih (w.frozen? a) es₀ x V
    exact ⟨y,h',w',es,by simp only [Sem.runT,e1],by simp only [Sem.run,e2],e3,e4,e5,e6⟩
  | getObj r k ih=>
    intro h K w es₀ x V
    unfold wpS at x
    split at x
    · exact x.elim
    · rename_i o hn ho
      obtain ⟨hs,ht⟩:=V.obj hn ho
      have how:w.heap[r]?=some o:=(V.same _ hs ht).symm.trans ho
      obtain ⟨y,h',w',es,e1,e2,e3,e4,e5,e6⟩:=ih o (es₀.push ⟨.obj r,false,o.isChan⟩) x.2 V
      refine ⟨y,h',w',#[⟨.obj r,false,false⟩]++es,?_,?_,e3,e4,e5,?_⟩
      · rw [x.1] at e1
        simp only [Sem.runT,how,x.1]
        cases o <;> first | exact absurd rfl (hn _ _ _) | (simp only [e1,Prod.mk.injEq,true_and];rw [← Array.append_assoc];congr 1)
      · simp only [Sem.run,how]
        cases o <;> first | exact absurd rfl (hn _ _ _) | exact e2
      · intro e he
        rcases Array.mem_append.1 he with he | he
        · simp at he;subst he
          exact ⟨rfl,hs,Nat.lt_of_lt_of_le (Array.getElem?_eq_some_iff.1 how).1 e5.size,ht⟩
        · exact e6 e he
    · exact x.elim
  | setObj r o k ih=>
    intro h K w es₀ x V
    unfold wpS at x
    split at x
    · exact x.elim
    · rename_i o' hn ho
      obtain ⟨hs,ht⟩:=V.obj hn ho
      have how:w.heap[r]?=some o':=(V.same _ hs ht).symm.trans ho
      have V':Veil S (h.setIfInBounds r o) ({ w with heap:=w.heap.setIfInBounds r o }:World).heap:=V.setObj o hs ht
      obtain ⟨y,h',w',es,e1,e2,e3,e4,e5,e6⟩:=ih (es₀.push ⟨.obj r,true,o.isChan⟩) x.2.2 V'
      have hsz:w.heap.size≤w'.heap.size:=by have:=e5.size;simp at this;exact this
      refine ⟨y,h',w',#[⟨.obj r,true,false⟩]++es,?_,?_,e3,e4,⟨⟨e5.calm.os,e5.calm.tape,e5.calm.output,hsz⟩,fun b hb z=>(e5.stand b (by simp;exact hb) z).trans (by simp only;rw [Array.getElem?_setIfInBounds_ne fun e=>by subst e;exact z.elim hs ht])⟩,?_⟩
      · rw [x.2.1] at e1
        simp only [Sem.runT,how,x.2.1]
        cases o' <;> first | exact absurd rfl (hn _ _ _) | (simp only [e1,Prod.mk.injEq,true_and];rw [← Array.append_assoc];congr 1)
      · simp only [Sem.run,how]
        cases o' <;> first | exact absurd rfl (hn _ _ _) | exact e2
      · intro e he
        rcases Array.mem_append.1 he with he | he
        · simp at he;subst he
          exact ⟨rfl,hs,Nat.lt_of_lt_of_le (Array.getElem?_eq_some_iff.1 how).1 hsz,ht⟩
        · exact e6 e he
    · exact x.elim
  | choose q k ih=>
    intro h K w es₀ x V
    unfold wpS at x
    by_cases hf:q.forced=true
    · rw [if_pos hf] at x
      obtain ⟨y,h',w',es,e1,e2,e3,e4,e5,e6⟩:=ih 0 es₀ x V
      exact ⟨y,h',w',es,by simp only [Sem.runT,hf,if_true,e1],by simp only [Sem.run,hf,if_true,e2],e3,e4,e5,e6⟩
    · rw [if_neg hf] at x
      have V':Veil S h ({ w with drawn:=w.drawn+1 }:World).heap:=V
      obtain ⟨y,h',w',es,e1,e2,e3,e4,e5,e6⟩:=ih _ es₀ (x (w.tape w.drawn q)) V'
      exact ⟨y,h',w',es,by simp only [Sem.runT,if_neg hf,e1],by simp only [Sem.run,if_neg hf,e2],e3,e4,⟨⟨e5.calm.os,e5.calm.tape,e5.calm.output,e5.size⟩,e5.stand⟩,e6⟩
  | sys c k ih=>exact fun es₀ x=>x.elim
  | program k ih=>
    intro h K w es₀ x V
    obtain ⟨y,h',w',es,e1,e2,e3,e4,e5,e6⟩:=ih P es₀ x V
    exact ⟨y,h',w',es,by simp only [Sem.runT,e1],by simp only [Sem.run,e2],e3,e4,e5,e6⟩
  | mark m k ih=>
    intro h K w es₀ ⟨hm,x⟩ V
    obtain ⟨y,h',w',es,e1,e2,e3,e4,e5,e6⟩:=ih (es₀.push ⟨.mark m,false,true⟩) x V
    refine ⟨y,h',w',#[⟨.mark m,false,true⟩]++es,?_,by simp only [Sem.run,e2],e3,e4,e5,?_⟩
    · simp only [Sem.runT,e1,Prod.mk.injEq,true_and]
      rw [← Array.append_assoc];congr 1
    · intro e he
      rcases Array.mem_append.1 he with he | he
      · simp at he;subst he;exact hm
      · exact e6 e he
  | halt h=>exact fun es₀ x=>x.elim
end
end Go.X
namespace Go.X
open Go.Conc
open Go.ConcN (sumTo upd sumTo_upd upd_ne upd_same)

structure Scene (P:Program) (S:Nat→Prop) (gs:Array Goroutine) (w:World) (t:Trace) (q:Nat→Nat) (g:Goroutine) (h:Heap):Prop where
  main:gs[0]?=some g
  leav:Leavers P t gs q
  past:Past (ShunOf S) w.heap.size t
  veil:Veil (.of S) h w.heap

inductive Md where
  | main (sp:Bool)
  | own (m:Bool)
  | lone

def Md.isMain:Md→Bool
  | .main _=>true
  | .own m=>m
  | .lone=>true

def Own (P:Program) (main:Bool) (g:Goroutine) (h:Heap) (K:Goroutine→Heap→Prop):Prop:=
  g.status= .running∧ ∀ h₁,Keep h h₁→ ∀ (S:Vw) (w:World),Veil S h₁ w.heap→
    ∃ g' h' w' es,stepG P main g w= .go g' w' es∧K g' h'∧Veil S h' w'.heap∧Quiet S w w'∧ ∀ e∈es,EvX S w'.heap.size e

theorem Own.mono {P:Program} {main:Bool} {g:Goroutine} {h:Heap} {K K':Goroutine→Heap→Prop} (x:Own P main g h K) (y: ∀ g h,K g h→K' g h):Own P main g h K':=
  ⟨x.1,fun h₁ k S w V=>by obtain ⟨g',h',w',es,a,b,c⟩:=x.2 h₁ k S w V;exact ⟨g',h',w',es,a,y _ _ b,c⟩⟩

def Reach (P:Program):Md→(g:Goroutine)→(h:Heap)→(Stop:Goroutine→Heap→Prop)→Prop
  | .main sp,g,h,Stop=>
    ∀ (S:Nat→Prop) (gs:Array Goroutine) (w:World) (sl:Option (Nat × Nat)) (t:Trace) (q:Nat→Nat),Scene P S gs w t q g h→
      ∃ (N:Nat) (S':Nat→Prop) (gs':Array Goroutine) (w':World) (sl':Option (Nat × Nat)) (t':Trace) (q':Nat→Nat) (g':Goroutine) (h':Heap),
        runNT P N (crowd gs w sl) t=(.next (crowd gs' w' sl'),t')∧Scene P S' gs' w' t' q' g' h'∧Stop g' h'∧Quiet (.of S) w w'∧
        (sp=false→gs'.size=gs.size)∧ ∀ b,S b→S' b
  | .own m,g,h,Stop=>∀ Z:Goroutine→Heap→Prop,(∀ g h,Stop g h→Z g h)→(∀ g h,Own P m g h Z→Z g h)→Z g h
  | .lone,g,h,Stop=>∀ w:World,w.heap=h→ ∃ g' w',Steps P (solo g w) (solo g' w')∧Stop g' w'.heap∧Calm w w'

theorem zjx {S:Vw} (w:World) (d:Nat):Quiet S w (w.at d):=⟨⟨rfl,rfl,rfl,Nat.le_refl _⟩,fun _ _ _=>rfl⟩
theorem Quiet.mono {S S':Vw} {w w':World} (x:Quiet S w w') (h: ∀ b,S'.dead b∨S'.still b→S.dead b∨S.still b):Quiet S' w w':=⟨x.calm,fun b hb y=>x.stand b hb (h b y)⟩
theorem Quiet.of {S S':Nat→Prop} {w w':World} (x:Quiet (.of S) w w') (h: ∀ b,S' b→S b):Quiet (.of S') w w':=x.mono fun b y=>y.imp (h b) id

section
variable {P:Program} {md:Md} {sp:Bool} {g:Goroutine} {h:Heap} {Stop Stop':Goroutine→Heap→Prop}

theorem zpv (x:Stop g h):Reach P md g h Stop:=by
  cases md with
  | main sp=>exact fun S gs w sl t q sc=>⟨0,S,gs,w,sl,t,q,g,h,rfl,sc,x,.refl _,fun _=>rfl,fun _ y=>y⟩
  | own m=>exact fun Z z1 _=>z1 _ _ x
  | lone=>exact fun w hw=>⟨g,w,.refl _ _,hw ▸ x,.refl _⟩

theorem ylq (x:Own P true g h fun g' h'=>Reach P (.main sp) g' h' Stop):Reach P (.main sp) g h Stop:=by
  obtain ⟨hrun,hown⟩:=x
  intro S gs w sl t q sc
  suffices H: ∀ (M:Nat) (gs:Array Goroutine) (w:World) (sl:Option (Nat × Nat)) (t:Trace) (q:Nat→Nat),sumTo gs.size q≤M→Scene P S gs w t q g h→
      ∃ (N:Nat) (S':Nat→Prop) (gs':Array Goroutine) (w':World) (sl':Option (Nat × Nat)) (t':Trace) (q':Nat→Nat) (g':Goroutine) (h':Heap),
        runNT P N (crowd gs w sl) t=(.next (crowd gs' w' sl'),t')∧Scene P S' gs' w' t' q' g' h'∧Stop g' h'∧Quiet (.of S) w w'∧
        (sp=false→gs'.size=gs.size)∧ ∀ b,S b→S' b from H _ gs w sl t q (Nat.le_refl _) sc
  intro M
  induction M using Nat.strongRecOn with
  | _ M ih=>
    intro gs w sl t q hM sc
    obtain ⟨h0,hL,hP,hV⟩:=sc
    have haw: ∀ g∈gs,awake g:=by
      intro y hy
      obtain ⟨i,hi,rfl⟩:=Array.mem_iff_getElem.1 hy
      rcases Nat.eq_zero_or_pos i with rfl | hpos
      · have:gs[0]=g:=by simpa [Array.getElem?_eq_getElem hi] using h0
        rw [this];exact awake_of (.inl hrun)
      · exact awake_of ((hL.old i _ hpos (Array.getElem?_eq_getElem hi)).status.elim .inl fun x=>.inr (.inr x))
    obtain ⟨i,a,d,sl',hi,ha,hst⟩:=crowd_pick (P:=P) (w:=w) (sl:=sl) haw ⟨0,g,h0,hrun⟩
    rcases Nat.eq_zero_or_pos i with rfl | hpos
    · obtain rfl:a=g:=by rw [h0] at hi;exact (Option.some.inj hi).symm
      obtain ⟨g',h',w',es,hgo,hK,hV',hc,hes⟩:=hown h (.refl _) (.of S) (w.at d) hV
      have hrunT:=runT_crowd_go (P:=P) (sl:=sl') (i:=0) hi (show stepG P (0 == 0) a (w.at d)=_ from hgo)
      have hsz:((gs.map (woken P a g' w')).setIfInBounds 0 g').size=gs.size:=by simp
      have hlt:0<gs.size:=(Array.getElem?_eq_some_iff.1 h0).1
      have sc':Scene P S ((gs.map (woken P a g' w')).setIfInBounds 0 g') w' (t++MemOp.ofEvents 0 a.frame.fn a.frame.place es) q g' h':=by
        refine ⟨by simp [hlt],⟨fun j x hj hx=>?_,fun j hj=>?_⟩,(hP.mono hc.size).own fun e he=>wov (hes e he),hV'⟩
        · have hne:0≠j:=by omega
          rw [Array.getElem?_setIfInBounds_ne hne,Array.getElem?_map] at hx
          obtain ⟨y,hy,rfl⟩:=Option.map_eq_some_iff.1 hx
          have hq:=hL.old j y hj hy
          rw [woken_quitsD hq,Deaf_other t (by omega) _ (fun op hop=>by obtain ⟨e,_,rfl⟩:=Go.Conc.mem_ofEvents hop;rfl)]
          exact hq
        · rw [Deaf_other t (g':=0) (by simp at hj;omega) _ (fun op hop=>by obtain ⟨e,_,rfl⟩:=Go.Conc.mem_ofEvents hop;rfl)]
          exact hL.above j (by simpa using hj)
      obtain ⟨N,S2,gs2,w2,sl2,t2,q2,g2,h2,a2,b2,c2,d2,e2,f2⟩:=hK S _ w' sl' _ q sc'
      refine ⟨N+1,S2,gs2,w2,sl2,t2,q2,g2,h2,by simp only [runNT,hst,hrunT];exact a2,b2,c2,((zjx w d).trans hc).trans d2,fun z=>(e2 z).trans hsz,f2⟩
    · have hq:=hL.old i a hpos hi
      have hi0:(i == 0)=false:=by simp;omega
      have hlt:i<gs.size:=(Array.getElem?_eq_some_iff.1 hi).1
      cases hqi:q i with
      | zero=>rw [hqi] at hq;rw [hq.1] at ha;cases ha
      | succ k=>
        rw [hqi] at hq
        rcases hq with ⟨hf,_⟩ | ⟨_,g',es,hm,hstp,hq'⟩
        · rw [hf] at ha;cases ha
        have hrunT:=runT_crowd_go (P:=P) (sl:=sl') (i:=i) hi (by rw [hi0];exact hstp (w.at d))
        have hsz:((gs.map (woken P a g' (w.at d))).setIfInBounds i g').size=gs.size:=by simp
        have hsum:sumTo gs.size (upd q i k)+(k+1)=sumTo gs.size q+k:=by
          have:=sumTo_upd q k id hlt
          simpa [hqi] using this
        have sc':Scene P S ((gs.map (woken P a g' (w.at d))).setIfInBounds i g') (w.at d) (t++MemOp.ofEvents i a.frame.fn a.frame.place es) (upd q i k) g h:=by
          refine ⟨?_,⟨fun j x hj hx=>?_,fun j hj=>?_⟩,hP.mute (by omega) hm,hV⟩
          · have hne:i≠0:=by omega
            rw [Array.getElem?_setIfInBounds_ne hne,Array.getElem?_map,h0]
            simp [woken_run hrun]
          · by_cases hji:i=j
            · subst hji
              rw [Array.getElem?_setIfInBounds_self_of_lt (by simpa using hlt)] at hx
              obtain rfl:=Option.some.inj hx
              rw [upd_same,Deaf_own]
              exact hq'
            · rw [Array.getElem?_setIfInBounds_ne hji,Array.getElem?_map] at hx
              obtain ⟨y,hy,rfl⟩:=Option.map_eq_some_iff.1 hx
              have hqj:=hL.old j y hj hy
              rw [woken_quitsD hqj,upd_ne q k (Ne.symm hji),Deaf_other t hji _ (fun op hop=>by obtain ⟨e,_,rfl⟩:=Go.Conc.mem_ofEvents hop;rfl)]
              exact hqj
          · rw [Deaf_other t (g':=i) (by simp at hj;omega) _ (fun op hop=>by obtain ⟨e,_,rfl⟩:=Go.Conc.mem_ofEvents hop;rfl)]
            exact hL.above j (by simpa using hj)
        obtain ⟨N,S2,gs2,w2,sl2,t2,q2,g2,h2,a2,b2,c2,d2,e2,f2⟩:=ih (sumTo gs.size (upd q i k)) (by omega) _ (w.at d) sl' _ (upd q i k) (by rw [hsz];exact Nat.le_refl _) sc'
        exact ⟨N+1,S2,gs2,w2,sl2,t2,q2,g2,h2,by simp only [runNT,hst,hrunT];exact a2,b2,c2,(zjx w d).trans d2,fun z=>(e2 z).trans hsz,f2⟩

theorem yxv {g g':Goroutine} {w w':World} {es:Array Event} (hr:g.status= .running) (x:stepG P true g w= .go g' w' es):step P (solo g w)= .next (solo g' w'):=by
  rw [step,stepT_solo hr,runT_solo_go x]

theorem ylx (x:Own P true g h fun g' h'=>Reach P .lone g' h' Stop):Reach P .lone g h Stop:=by
  obtain ⟨hr,ho⟩:=x
  rintro w rfl
  obtain ⟨g',h',w',es,e,k,V,q,_⟩:=ho w.heap (.refl _) (.of fun _=>False) w (.refl _)
  obtain rfl:h'=w'.heap:=by
    apply Array.ext_getElem?
    exact fun i=>V.same i (fun z=>z) (fun z=>z)
  obtain ⟨g2,w2,a2,b2,c2⟩:=k w' rfl
  exact ⟨g2,w2,.head (yxv hr e) a2,b2,q.calm.trans c2⟩

theorem xpx (x:Own P md.isMain g h fun g' h'=>Reach P md g' h' Stop):Reach P md g h Stop:=by
  cases md with
  | main sp=>exact ylq x
  | own m=>exact fun Z z1 z2=>z2 _ _ (x.mono fun g' h' r=>r Z z1 z2)
  | lone=>exact ylx x
end
end Go.X
namespace Go.X
open Go.Conc

def F (b:Frame) (tm:Array Value) (df:List Deferred) (k:List Item):Frame:={ b with tmps:=tm,defers:=df,todo:=k,mode:=.run }
def FR (b:Frame) (tm:Array Value) (df:List Deferred) (k:List Item):Frame:={ b with tmps:=tm,defers:=df,todo:=k,mode:=.returning }

def ev (tm:Array Value):Operand→Value
  | .tmp t=>tm.getD t undef
  | .const v=>v
  | .global g=>.pointer (some ⟨g,0,none⟩)
  | .func f=>.func (.func f) #[] #[]

def put (tm:Array Value) (dst:Option Tmp) (v:Value):Array Value:=
  match dst with
  | some d=>tm.setIfInBounds d v
  | none=>tm

class Stb (Φ:Heap→Prop):Prop where
  stb: ∀ h h',Φ h→Keep h h'→Φ h'

def RS (P:Program) (md:Md) (g:Goroutine) (Φ:Heap→Prop) (Stop:Goroutine→Heap→Prop):Prop:=∀ h,Φ h→Reach P md g h Stop

instance {α:Type} {Φ:α→Heap→Prop} [s: ∀ x,Stb (Φ x)]:Stb (fun h=>∃ x,Φ x h):=⟨fun h h' ⟨x,y⟩ k=>⟨x,(s x).stb h h' y k⟩⟩
instance {c:Prop} {Φ:Heap→Prop} [s:Stb Φ]:Stb (fun h=>c∧Φ h):=⟨fun h h' ⟨x,y⟩ k=>⟨x,s.stb h h' y k⟩⟩
theorem xhq {α:Type} {P:Program} {md:Md} {g:Goroutine} {Ψ:α→Heap→Prop} {Stop:Goroutine→Heap→Prop} (n: ∀ x,RS P md g (Ψ x) Stop):RS P md g (fun h=>∃ x,Ψ x h) Stop:=fun h ⟨x,y⟩=>n x h y
theorem xdj {c:Prop} {P:Program} {md:Md} {g:Goroutine} {Φ:Heap→Prop} {Stop:Goroutine→Heap→Prop} (n:c→RS P md g Φ Stop):RS P md g (fun h=>c∧Φ h) Stop:=fun h ⟨x,y⟩=>n x h y

section
variable {P:Program} {md:Md} {b:Frame} {tm:Array Value} {df:List Deferred} {k:List Item} {cs:List Frame} {h:Heap} {Φ:Heap→Prop} {Stop:Goroutine→Heap→Prop}

theorem zlk:(F b tm df k).eval=ev tm:=by funext x;cases x <;> rfl

theorem xxq {S:Vw} {fn:FuncId} {B:Nat} {es:Array Event} (x: ∀ e∈es,EvX S B e): ∀ e∈seen P fn es,EvX S B e:=by
  unfold seen
  refine Array.foldl_induction (motive:=fun _ (s:Bool × Array Event)=>∀ e∈s.2,EvX S B e) (by simp) ?_
  rintro i ⟨q,kept⟩ hs
  simp only at hs ⊢
  split
  · exact hs
  · simp only
    split
    · exact hs
    · intro e he
      rcases Array.mem_push.1 he with he | rfl
      · exact hs e he
      · exact x _ (Array.getElem_mem _)

theorem yek [hs:Stb Φ] {g g':Goroutine} (hr:g.status= .running) (he: ∀ w,stepG P md.isMain g w= .go g' w #[]) (x:RS P md g' Φ Stop):RS P md g Φ Stop:=
  fun h y=>xpx ⟨hr,fun h₁ k₁ S w V=>⟨g',h₁,w,#[],he w,x h₁ (hs.stb _ _ y k₁),V,.refl _,by simp⟩⟩

section
variable [Stb Φ]
theorem wrq {x y:Code} (r:RS P md (G (F b tm df (.code x:: .code y::k)) cs) Φ Stop):RS P md (G (F b tm df (.code (.seq x y)::k)) cs) Φ Stop:=
  yek rfl (fun w=>by simp [G,stepG,stepG.exec,F]) r
theorem wlq (r:RS P md (G (F b tm df k) cs) Φ Stop):RS P md (G (F b tm df (.code .skip::k)) cs) Φ Stop:=
  yek rfl (fun w=>by simp [G,stepG,stepG.exec,F]) r
theorem zpx {id:Nat} (r:RS P md (G (F b tm df k) cs) Φ Stop):RS P md (G (F b tm df (.inBlock id::k)) cs) Φ Stop:=
  yek rfl (fun w=>by simp [G,stepG,stepG.exec,F]) r
theorem wcv {id:Nat} {c:Code} (r:RS P md (G (F b tm df (.code c:: .inBlock id::k)) cs) Φ Stop):RS P md (G (F b tm df (.code (.block id c)::k)) cs) Φ Stop:=
  yek rfl (fun w=>by simp [G,stepG,stepG.exec,F]) r
theorem wlx {c:Code} (r:RS P md (G (F b tm df (.code c:: .inLoop c::k)) cs) Φ Stop):RS P md (G (F b tm df (.code (.loop c)::k)) cs) Φ Stop:=
  yek rfl (fun w=>by simp [G,stepG,stepG.exec,F]) r
theorem ztv {c:Code} (r:RS P md (G (F b tm df (.code c:: .inLoop c::k)) cs) Φ Stop):RS P md (G (F b tm df (.inLoop c::k)) cs) Φ Stop:=
  yek rfl (fun w=>by simp [G,stepG,stepG.exec,F]) r
theorem wlz {id:Nat} {k':List Item} (hk:exitTo id k=some k') (r:RS P md (G (F b tm df k') cs) Φ Stop):RS P md (G (F b tm df (.code (.exit id)::k)) cs) Φ Stop:=
  yek rfl (fun w=>by simp [G,stepG,stepG.exec,F,hk]) r
theorem wlj {c:Operand} {x y:Code} {t:Bool} (hc:ev tm c= .bool t) (r:RS P md (G (F b tm df (.code (if t then x else y)::k)) cs) Φ Stop):
    RS P md (G (F b tm df (.code (.cond c x y)::k)) cs) Φ Stop:=
  yek rfl (fun w=>by
    have h':(F b tm df (.code (.cond c x y)::k)).eval c= .bool t:=by rw [zlk];exact hc
    simp only [F] at h'
    simp [G,stepG,stepG.exec,F,h']) r
theorem ztk {id:Nat} {ops:Array Oper} (r:RS P md (G (F b tm df (.inRegion ops (List.range ops.size)::k)) cs) Φ Stop):
    RS P md (G (F b tm df (.code (.region id ops false)::k)) cs) Φ Stop:=
  yek rfl (fun w=>by simp [G,stepG,stepG.exec,F]) r
theorem ysk {ops:Array Oper} (r:RS P md (G (F b tm df k) cs) Φ Stop):RS P md (G (F b tm df (.inRegion ops []::k)) cs) Φ Stop:=
  yek rfl (fun w=>by simp [G,stepG,stepG.exec,F]) r
theorem ytq {id:Nat} {ops:Array Oper} (r: ∀ t,RS P md (G (F b tm df (.inRegion ops (Region.schedule (P.follows .mixedOrders) ops t)::k)) cs) Φ Stop):
    RS P md (G (F b tm df (.code (.region id ops true)::k)) cs) Φ Stop:=
  fun h y=>xpx ⟨rfl,fun h₁ k₁ S w V=>⟨_,h₁,{ w with drawn:=w.drawn+1 },#[],by
    simp [G,stepG,stepG.exec,F,choose,Sem.run,Question.forced,Question.cut],r (w.tape w.drawn (.order b.fn id)) h₁ (Stb.stb _ _ y k₁),V,⟨⟨rfl,rfl,rfl,Nat.le_refl _⟩,fun _ _ _=>rfl⟩,by simp⟩⟩
theorem ysv {ops:Array Oper} {i:Nat} {rest:List Nat} {o:Oper} (ho:ops[i]?=some o) (hw:Region.wanted o (yielded ops tm)=false)
    (r:RS P md (G (F b (put tm o.dst undef) df (.inRegion ops rest::k)) cs) Φ Stop):RS P md (G (F b tm df (.inRegion ops (i::rest)::k)) cs) Φ Stop:=
  yek rfl (fun w=>by
    simp only [G,stepG,stepG.exec,F,ho,Option.map_some,hw,Option.getD_some,Frame.finish,Option.bind_some,put]
    rfl) r

theorem xgz {ops:Array Oper} {i:Nat} {rest:List Nat} {o:Oper} (ho:ops[i]?=some o) (v:Value):
    (F b tm df (.inRegion ops (i::rest)::k)).finish v=F b (put tm o.dst v) df (.inRegion ops rest::k):=by
  simp only [Frame.finish,F,ho,Option.bind_some,put]
  cases o.dst <;> rfl

def Upon (P:Program) (md:Md) (fr:Frame) (cs:List Frame) (Stop:Goroutine→Heap→Prop):Next→Heap→Prop
  | .value v,h=>Reach P md (G (fr.finish v) cs) h Stop
  | .skip,h=>Reach P md (G (fr.finish undef) cs) h Stop
  | .enter f args,h=>Reach P md (G (Frame.enter P f args .normal) (fr::cs)) h Stop
  | .round l f tmps assign body,h=>Reach P md (G (Frame.round l f tmps assign body .normal) (fr::cs)) h Stop
  | _,_=>False

theorem zik {fr:Frame} {s:Sem Next} (hk:fr.kind≠ .early) (hnc:(match fr.todo with | .call _ true _ _::_=>false | _=>true)=true)
    (hs: ∀ w,stepG P md.isMain (G fr cs) w=stepG.apply P true fr cs none s w) (x: ∀ h,Φ h→wpS P s h (Upon P md fr cs Stop)):RS P md (G fr cs) Φ Stop:=by
  intro h y
  refine xpx ⟨rfl,fun h₁ k₁ S w V=>?_⟩
  obtain ⟨n,h',w',es,e1,e2,e3,e4,e5,e6⟩:=yak s #[] (x h₁ (Stb.stb _ _ y k₁)) V
  have hk':(fr.kind == CallKind.early)=false:=by simpa using hk
  rw [hs w]
  simp only [Array.empty_append] at e1
  cases n <;> first | exact e3.elim | skip
  all_goals
    refine ⟨_,h',w',seen P fr.fn es,?_,e3,e4,e5,xxq e6⟩
    simp only [stepG.apply,if_true,e1,hk',Bool.false_eq_true,if_false,GStep.after,G,Array.append_empty]
    try
      split
      · rename_i he;rw [he] at hnc;simp at hnc
      · rfl

theorem yyk {ops:Array Oper} {i:Nat} {rest:List Nat} {o:Oper} (ho:ops[i]?=some o) (hw:Region.wanted o (yielded ops tm)=true) (hk:b.kind≠ .early)
    (hnd:b.roundOf=none∨(match o.op with | .defer _=>false | _=>true)=true)
    (x: ∀ h,Φ h→wpS P (execOp (ev tm) o) h (Upon P md (F b tm df (.inRegion ops (i::rest)::k)) cs Stop)):
    RS P md (G (F b tm df (.inRegion ops (i::rest)::k)) cs) Φ Stop:=by
  refine zik hk rfl (fun w=>?_) x
  have he:Frame.eval (F b tm df (.inRegion ops (i::rest)::k))=ev tm:=zlk
  simp only [F] at he
  simp only [G,stepG,stepG.exec,F,ho,Option.map_some,hw,Option.getD_some,if_true,stepG.oper,Frame.oper?,he]
  rcases hnd with hn | hn
  · rw [hn]
  · cases hrn:b.roundOf with
    | none=>rfl
    | some l=>
      revert hn
      cases o.op <;> simp

theorem wqw {ops:Array Oper} {i:Nat} {rest:List Nat} {o:Oper} (ho:ops[i]?=some o) (hw:Region.wanted o (yielded ops tm)=true) (hk:b.kind≠ .early)
    (hnd:(match o.op with | .defer _=>false | _=>true)=true)
    (x: ∀ h,Φ h→wpS P (execOp (ev tm) o) h fun n h'=>∃ v,n= .value v∧Reach P md (G (F b (put tm o.dst v) df (.inRegion ops rest::k)) cs) h' Stop):
    RS P md (G (F b tm df (.inRegion ops (i::rest)::k)) cs) Φ Stop:=
  yyk ho hw hk (.inr hnd) fun h y=>xjk (x h y) fun n h' ⟨v,e,r⟩=>by subst e;show Reach P md (G ((F b tm df _).finish v) cs) h' Stop;rw [xgz ho];exact r
theorem wkw {ops:Array Oper} {i:Nat} {rest:List Nat} {o:Oper} (ho:ops[i]?=some o) (hw:Region.wanted o (yielded ops tm)=true) (hk:b.kind≠ .early)
    (hnd:(match o.op with | .defer _=>false | _=>true)=true)
    (x: ∀ h,Φ h→wpS P (execOp (ev tm) o) h fun n h'=>n= .skip∧Reach P md (G (F b (put tm o.dst undef) df (.inRegion ops rest::k)) cs) h' Stop):
    RS P md (G (F b tm df (.inRegion ops (i::rest)::k)) cs) Φ Stop:=
  yyk ho hw hk (.inr hnd) fun h y=>xjk (x h y) fun n h' ⟨e,r⟩=>by subst e;show Reach P md (G ((F b tm df _).finish undef) cs) h' Stop;rw [xgz ho];exact r

def CallsX (P:Program) (md:Md) (f:FuncId) (args:Array Value) (h:Heap) (R:Value→Heap→Prop):Prop:=
  ∀ (c:Frame) (cs:List Frame) (Stop:Goroutine→Heap→Prop),(∀ v h',R v h'→Reach P md (G (c.finish v) cs) h' Stop)→
    Reach P md (G (Frame.enter P f args .normal) (c::cs)) h Stop

theorem CallsX.mono {f:FuncId} {args:Array Value} {R R':Value→Heap→Prop} (x:CallsX P md f args h R) (y: ∀ v h',R v h'→R' v h'):CallsX P md f args h R':=
  fun c cs Stop z=>x c cs Stop fun v h' r=>z v h' (y v h' r)

theorem wlk {ops:Array Oper} {i:Nat} {rest:List Nat} {o:Oper} {f:FuncId} {args:Array Value} {R:Value→Heap→Prop}
    (ho:ops[i]?=some o) (hw:Region.wanted o (yielded ops tm)=true) (hk:b.kind≠ .early)
    (hnd:(match o.op with | .defer _=>false | _=>true)=true)
    (x: ∀ h,Φ h→wpS P (execOp (ev tm) o) h fun n h'=>n= .enter f args∧h'=h) (c: ∀ h,Φ h→CallsX P md f args h R)
    (r: ∀ v h',R v h'→Reach P md (G (F b (put tm o.dst v) df (.inRegion ops rest::k)) cs) h' Stop):
    RS P md (G (F b tm df (.inRegion ops (i::rest)::k)) cs) Φ Stop:=
  yyk ho hw hk (.inr hnd) fun h y=>xjk (x h y) fun n h' ⟨e,eh⟩=>by
    subst e;subst eh
    exact c _ y _ _ _ fun v h' q=>by rw [xgz ho];exact r v h' q

theorem ykv {c:Frame} {fn:Func} {td:List Item} (hf:P.funcs[b.fn]?=some fn) (hk:b.kind= .normal)
    (x: ∀ h,Φ h→wpS P (results fn tm) h fun v h'=>Reach P md (G (c.finish v) cs) h' Stop):RS P md (G (FR b tm [] td) (c::cs)) Φ Stop:=by
  intro h y
  refine xpx ⟨rfl,fun h₁ k₁ S w V=>?_⟩
  obtain ⟨v,h',w',es,e1,e2,e3,e4,e5,e6⟩:=yak (results fn tm) #[] (x h₁ (Stb.stb _ _ y k₁)) V
  refine ⟨_,h',w',seen P b.fn es,?_,e3,e4,e5,xxq e6⟩
  simp only [Array.empty_append] at e1
  simp only [G,stepG,unwind,FR,hf,e1,doReturn,hk,GStep.after,Array.append_empty]

theorem yyv {c:Frame} {td:List Item} {r:Nat} {ds:List Deferred} (hr: ∀ h,Φ h→h[r]?=some (.deferred (some [])))
    (x: ∀ h,Φ h→Reach P md (G (FR b tm ds td) (c::cs)) (h.setIfInBounds r (.deferred none)) Stop):RS P md (G (FR b tm ({ target:=.collected r,args:=#[] }::ds) td) (c::cs)) Φ Stop:=by
  intro h y
  refine xpx ⟨rfl,fun h₁ k₁ S w V=>?_⟩
  have y₁:=Stb.stb _ _ y k₁
  have hr₁:=hr h₁ y₁
  have hx:wpS P (Instr.takeDeferred r) h₁ fun l h'=>l=[]∧h'=h₁.setIfInBounds r (.deferred none):=by
    unfold Instr.takeDeferred
    refine xbq ?_
    simp only [getObj,wpS,hr₁]
    refine ⟨rfl,?_⟩
    refine xbq ?_
    simp only [setObj,wpS,hr₁]
    refine ⟨rfl,rfl,?_⟩
    exact xbz ⟨rfl,rfl⟩
  obtain ⟨v,h',w',es,e1,e2,⟨rfl,rfl⟩,e4,e5,e6⟩:=yak _ #[] hx V
  refine ⟨_,_,w',seen P b.fn es,?_,x h₁ y₁,e4,e5,xxq e6⟩
  simp only [Array.empty_append] at e1
  simp only [G,stepG,unwind,FR,e1,GStep.after,Array.append_empty,List.nil_append]

theorem ztj {hro:b.roundOf=none} (x: ∀ td,RS P md (G (FR b tm df td) cs) Φ Stop):RS P md (G (F b tm df (.code .ret::k)) cs) Φ Stop:=
  yek rfl (fun w=>by simp [G,stepG,stepG.exec,F,FR,hro]) (x (.code .ret::k))
theorem wrx {hro:b.roundOf=none} (x: ∀ td,RS P md (G (FR b tm df td) cs) Φ Stop):RS P md (G (F b tm df []) cs) Φ Stop:=
  yek rfl (fun w=>by simp [G,stepG,stepG.exec,F,FR,hro]) (x [])
end
end
end Go.X
namespace Go.X
open Go.Conc

inductive Rd where
  | none
  | some (l:Nat)
  | dfd
def Rd.round:Rd→Option Nat
  | .some l=>Option.some l
  | _=>Option.none
def Rd.kind:Rd→CallKind
  | .dfd=>.deferred
  | _=>.normal
def B (f:FuncId) (r:Rd):Frame:={ fn:=f,tmps:=#[],todo:=[],defers:=[],mode:=.run,kind:=r.kind,roundOf:=r.round }
theorem yaz {f:FuncId} {r:Rd}:(B f r).kind≠ .early:=by cases r <;> simp [B,Rd.kind]
def FL (f:FuncId) (r:Rd) (tm:List Value) (df:List Deferred) (k:List Item):Frame:=F (B f r) tm.toArray df k

def evl (tm:List Value):Operand→Value
  | .tmp t=>tm.getD t undef
  | .const v=>v
  | .global g=>.pointer (some ⟨g,0,none⟩)
  | .func f=>.func (.func f) #[] #[]

def putl (tm:List Value) (dst:Option Tmp) (v:Value):List Value:=
  match dst with
  | some d=>tm.set d v
  | none=>tm

theorem xlw (tm:List Value):ev tm.toArray=evl tm:=by
  funext x
  cases x <;> simp [ev,evl,Array.getD_eq_getD_getElem?,List.getD_eq_getElem?_getD]

theorem xgj (tm:List Value) (dst:Option Tmp) (v:Value):put tm.toArray dst v=(putl tm dst v).toArray:=by
  cases dst <;> simp [put,putl]

def yieldl (ops:List Oper) (tm:List Value) (j:Nat):Option Bool:=
  match ((ops[j]?).bind (·.dst)).bind (tm[·]?) with
  | some (.bool b)=>some b
  | _=>none

def Met (ops:List Oper) (tm:List Value) (o:Oper) (t:Bool):Prop:=
  match o.guard with
  | none=>t=true
  | some (j,want)=>(yieldl ops tm j == some want)=t

theorem yjz (ops:List Oper) (tm:List Value):yielded ops.toArray tm.toArray=yieldl ops tm:=by
  funext j;simp [yielded,yieldl];rfl

theorem xix {ops:List Oper} {tm:List Value} {o:Oper} {t:Bool} (m:Met ops tm o t):Region.wanted o (yielded ops.toArray tm.toArray)=t:=by
  rw [yjz]
  unfold Met at m
  unfold Region.wanted
  split at m
  · rename_i e;rw [e];exact m.symm
  · rename_i e;rw [e];exact m

theorem xaz {ops:List Oper} {tm:List Value} {o:Oper} (h:o.guard=none):Met ops tm o true:=by unfold Met;rw [h]
theorem xhz {ops:List Oper} {tm:List Value} {o:Oper} {j:Nat} {want b:Bool} (h:o.guard=some (j,want)) (hy:yieldl ops tm j=some b) (hb:b=want):Met ops tm o true:=by
  unfold Met;rw [h];subst hb;simp only [hy,beq_self_eq_true]
theorem xhx {ops:List Oper} {tm:List Value} {o:Oper} {j:Nat} {want b:Bool} (h:o.guard=some (j,want)) (hy:yieldl ops tm j=some b) (hb:b= !want):Met ops tm o false:=by
  unfold Met;rw [h];subst hb;simp only [hy];cases want <;> rfl
theorem zwz {ops:List Oper} {tm:List Value} {o:Oper} {j:Nat} {want:Bool} (h:o.guard=some (j,want)) (hy:yieldl ops tm j=none):Met ops tm o false:=by
  unfold Met;rw [h];simp only [hy];rfl

def Ex (P:Program) (tm:List Value) (o:Oper) (h:Heap) (K:Value→Heap→Prop):Prop:=
  wpS P (execOp (evl tm) o) h fun n h'=>∃ v,n= .value v∧K v h'
def Exd (P:Program) (tm:List Value) (o:Oper) (h:Heap) (v:Value):Prop:=Ex P tm o h fun v' h'=>v'=v∧h'=h

def noDefer:Op→Bool
  | .defer _=>false
  | _=>true

section
variable (P:Program) (md:Md) (f:FuncId) (r:Rd) (df:List Deferred) (k:List Item) (cs:List Frame) (Stop:Goroutine→Heap→Prop)
def RL (ops rest:List Oper) (tm:List Value) (Φ:Heap→Prop):Prop:=
  ∀ pre,ops=pre++rest→RS P md (G (FL f r tm df (.inRegion ops.toArray (List.range' pre.length rest.length)::k)) cs) Φ Stop
end

section
variable {P:Program} {md:Md} {f:FuncId} {r:Rd} {df:List Deferred} {k:List Item} {cs:List Frame} {Stop:Goroutine→Heap→Prop}
  {ops rest:List Oper} {tm tm':List Value} {h:Heap} {Φ:Heap→Prop} {o:Oper}

theorem xav [Stb Φ] {id:Nat} {l:List Oper} (x:RL P md f r df k cs Stop l l tm Φ):RS P md (G (FL f r tm df (.code (.region id l.toArray false)::k)) cs) Φ Stop:=by
  refine ztk ?_
  have:=x [] rfl
  simpa [FL,List.range_eq_range'] using this

theorem xak [Stb Φ] (x:RS P md (G (FL f r tm df k) cs) Φ Stop):RL P md f r df k cs Stop ops [] tm Φ:=
  fun _ _=>ysk x

theorem zfx {pre:List Oper} (e:ops=pre++o::rest):ops.toArray[pre.length]?=some o:=by subst e;simp

theorem yev {pre:List Oper}:List.range' pre.length (o::rest).length=pre.length::List.range' (pre.length+1) rest.length:=by simp [List.range'_succ]

theorem xtw [Stb Φ] {K:Value→Heap→Prop} (hm:Met ops tm o true) (hd:noDefer o.op=true) (hx: ∀ h,Φ h→Ex P tm o h K)
    (n: ∀ v,RL P md f r df k cs Stop ops rest (putl tm o.dst v) (K v)):RL P md f r df k cs Stop ops (o::rest) tm Φ:=by
  intro pre e
  rw [yev]
  refine wqw (zfx e) (xix hm) yaz (by revert hd;cases o.op <;> simp [noDefer]) fun h y=>?_
  rw [xlw]
  refine xjk (hx h y) fun n' h' ⟨v,e',hK⟩=>⟨v,e',?_⟩
  have:=n v (pre++[o]) (by simp [e]) h' hK
  rw [xgj]
  simpa [FL] using this

theorem xaj [Stb Φ] {v:Value} (hm:Met ops tm o true) (hx: ∀ h,Φ h→Exd P tm o h v) (ht:putl tm o.dst v=tm') (n:RL P md f r df k cs Stop ops rest tm' Φ) (hd:noDefer o.op=true:=by rfl):
    RL P md f r df k cs Stop ops (o::rest) tm Φ:=
  xtw (K:=fun v' h'=>v'=v∧Φ h') hm hd (fun h y=>xjk (hx h y) fun _ _ ⟨v',e1,e2,e3⟩=>⟨v',e1,e2,by rw [e3];exact y⟩) fun v' pre e h ⟨e1,y⟩=>by subst e1;rw [ht];exact n pre e h y

theorem zew [Stb Φ] {K:Heap→Prop} (hm:Met ops tm o true) (hd:noDefer o.op=true) (hx: ∀ h,Φ h→wpS P (execOp (evl tm) o) h fun n h'=>n= .skip∧K h')
    (ht:putl tm o.dst undef=tm') (n:RL P md f r df k cs Stop ops rest tm' K):RL P md f r df k cs Stop ops (o::rest) tm Φ:=by
  intro pre e
  rw [yev]
  refine wkw (zfx e) (xix hm) yaz (by revert hd;cases o.op <;> simp [noDefer]) fun h y=>?_
  rw [xlw]
  refine xjk (hx h y) fun n' h' ⟨e',hK⟩=>⟨e',?_⟩
  have:=n (pre++[o]) (by simp [e]) h' hK
  rw [xgj,ht]
  simpa [FL] using this

theorem xck [Stb Φ] (hm:Met ops tm o false) (ht:putl tm o.dst undef=tm') (n:RL P md f r df k cs Stop ops rest tm' Φ):RL P md f r df k cs Stop ops (o::rest) tm Φ:=by
  intro pre e
  rw [yev]
  refine ysv (zfx e) (xix hm) ?_
  have:=n (pre++[o]) (by simp [e])
  rw [xgj,ht]
  simpa [FL] using this

theorem xgx {α:Type} {Ψ:α→Heap→Prop} (n: ∀ x,RL P md f r df k cs Stop ops rest tm (Ψ x)):RL P md f r df k cs Stop ops rest tm (fun h=>∃ x,Ψ x h):=fun pre e h ⟨x,y⟩=>n x pre e h y
theorem xez {c:Prop} (n:c→RL P md f r df k cs Stop ops rest tm Φ):RL P md f r df k cs Stop ops rest tm (fun h=>c∧Φ h):=fun pre e h ⟨x,y⟩=>n x pre e h y
theorem yok {Ψ:Heap→Prop} (n:RL P md f r df k cs Stop ops rest tm Φ) (hi: ∀ h,Ψ h→Φ h):RL P md f r df k cs Stop ops rest tm Ψ:=fun pre e h y=>n pre e h (hi h y)
theorem yoj {g:Goroutine} {Ψ:Heap→Prop} (n:RS P md g Φ Stop) (hi: ∀ h,Ψ h→Φ h):RS P md g Ψ Stop:=fun h y=>n h (hi h y)
theorem xfz (e:tm=tm') (x:RL P md f r df k cs Stop ops rest tm' Φ):RL P md f r df k cs Stop ops rest tm Φ:=by subst e;exact x

def callable (P:Program) (g:FuncId):Bool:=
  match P.funcs[g]? with
  | some fn => fn.name != "runtime.NumGoroutine" && fn.body.isSome
  | none=>false

theorem ygz {g:FuncId} {args:Array Value} {K:Next→Heap→Prop} (hc:callable P g=true) (x:K (.enter g args) h):wpS P (callFunc g args) h K:=by
  unfold callable at hc
  unfold callFunc
  refine xbq ?_
  show wpS P program h _
  simp only [program,wpS]
  split at hc
  · rename_i fn hfn
    simp only [Bool.and_eq_true,bne_iff_ne,ne_eq] at hc
    rw [hfn]
    simp only
    rw [if_neg (by simpa using hc.1),if_neg (by have:=hc.2;cases hb:fn.body <;> simp_all)]
    exact xbz x
  · cases hc

theorem yrx {args:List Operand} {ats:Array TypeId} {d:Option Tmp} {ty:TypeId} {pos:String} {aft:Array Edge} {gd:Option (Nat × Bool)} {x:Operand} {g:FuncId} {first cap vs:List Value}
    (hx:evl tm x= .func (.func g) first.toArray cap.toArray) (hvs:first++(args.map (evl tm)++cap)=vs) (hg:callable P g=true):
    wpS P (execOp (evl tm) ⟨d,.call ⟨.value x,args.toArray,ats⟩,ty,pos,aft,gd⟩) h fun n h'=>n= .enter g vs.toArray∧h'=h:=by
  simp only [execOp]
  refine xbq ?_
  unfold resolve
  simp only [hx,Deferred.ofValue]
  refine xbz ?_
  simp only [invoke]
  refine ygz hg ⟨?_,rfl⟩
  rw [← hvs];simp

theorem xgv [Stb Φ] {args:List Operand} {ats:Array TypeId} {d:Option Tmp} {ty:TypeId} {pos:String} {aft:Array Edge} {gd:Option (Nat × Bool)} {x:Operand} {g:FuncId} {first cap vs:List Value} {R:Value→Heap→Prop}
    (hm:Met ops tm ⟨d,.call ⟨.value x,args.toArray,ats⟩,ty,pos,aft,gd⟩ true) (hx:evl tm x= .func (.func g) first.toArray cap.toArray) (hvs:first++(args.map (evl tm)++cap)=vs) (hg:callable P g=true)
    (hc: ∀ h,Φ h→CallsX P md g vs.toArray h R) (n: ∀ v,RL P md f r df k cs Stop ops rest (putl tm d v) (R v)):
    RL P md f r df k cs Stop ops (⟨d,.call ⟨.value x,args.toArray,ats⟩,ty,pos,aft,gd⟩::rest) tm Φ:=by
  intro pre e
  rw [yev]
  refine wlk (zfx e) (xix hm) yaz rfl (fun h y=>by rw [xlw];exact yrx hx hvs hg) hc fun v h' hR=>?_
  have:=n v (pre++[⟨d,.call ⟨.value x,args.toArray,ats⟩,ty,pos,aft,gd⟩]) (by simp [e]) h' hR
  rw [xgj]
  simpa [FL] using this

theorem xcw [sb:Stb Φ] {args:List Operand} {ats:Array TypeId} {d:Option Tmp} {ty:TypeId} {pos:String} {aft:Array Edge} {gd:Option (Nat × Bool)} {x:Operand} {g:FuncId} {first cap vs:List Value} {v:Value}
    (hm:Met ops tm ⟨d,.call ⟨.value x,args.toArray,ats⟩,ty,pos,aft,gd⟩ true) (hx:evl tm x= .func (.func g) first.toArray cap.toArray) (hvs:first++(args.map (evl tm)++cap)=vs) (hg:callable P g=true)
    (hc: ∀ h,Φ h→CallsX P md g vs.toArray h fun v' h'=>v'=v∧Keep h h') (ht:putl tm d v=tm') (n:RL P md f r df k cs Stop ops rest tm' Φ):
    RL P md f r df k cs Stop ops (⟨d,.call ⟨.value x,args.toArray,ats⟩,ty,pos,aft,gd⟩::rest) tm Φ:=
  xgv (R:=fun v' h'=>v'=v∧Φ h') hm hx hvs hg (fun h y=>(hc h y).mono fun _ h' ⟨e1,e2⟩=>⟨e1,sb.stb _ _ y e2⟩) fun v' pre e h ⟨e1,y⟩=>by subst e1;rw [ht];exact n pre e h y

section
variable [Stb Φ]
theorem xbj {x y:Code} (z:RS P md (G (FL f r tm df (.code x:: .code y::k)) cs) Φ Stop):RS P md (G (FL f r tm df (.code (.seq x y)::k)) cs) Φ Stop:=wrq z
theorem xdz (z:RS P md (G (FL f r tm df k) cs) Φ Stop):RS P md (G (FL f r tm df (.code .skip::k)) cs) Φ Stop:=wlq z
theorem xex {id:Nat} (z:RS P md (G (FL f r tm df k) cs) Φ Stop):RS P md (G (FL f r tm df (.inBlock id::k)) cs) Φ Stop:=zpx z
theorem xeq {id:Nat} {c:Code} (z:RS P md (G (FL f r tm df (.code c:: .inBlock id::k)) cs) Φ Stop):RS P md (G (FL f r tm df (.code (.block id c)::k)) cs) Φ Stop:=wcv z
theorem xgk {id:Nat} {k':List Item} (hk:exitTo id k=some k') (z:RS P md (G (FL f r tm df k') cs) Φ Stop):RS P md (G (FL f r tm df (.code (.exit id)::k)) cs) Φ Stop:=wlz hk z
theorem wrw {c:Operand} {x y:Code} {t:Bool} (hc:evl tm c= .bool t) (h1:t=true→RS P md (G (FL f r tm df (.code x::k)) cs) Φ Stop) (h2:t=false→RS P md (G (FL f r tm df (.code y::k)) cs) Φ Stop):
    RS P md (G (FL f r tm df (.code (.cond c x y)::k)) cs) Φ Stop:=by
  refine wlj (t:=t) (by rw [xlw];exact hc) ?_
  cases t
  · exact h2 rfl
  · exact h1 rfl
theorem xcx {c:Operand} {x y:Code} {t:Bool} (hc:evl tm c= .bool t) (ht:t=true) (z:RS P md (G (FL f r tm df (.code x::k)) cs) Φ Stop):
    RS P md (G (FL f r tm df (.code (.cond c x y)::k)) cs) Φ Stop:=wrw hc (fun _=>z) (fun e=>by rw [ht] at e;cases e)
theorem xcv {c:Operand} {x y:Code} {t:Bool} (hc:evl tm c= .bool t) (ht:t=false) (z:RS P md (G (FL f r tm df (.code y::k)) cs) Φ Stop):
    RS P md (G (FL f r tm df (.code (.cond c x y)::k)) cs) Φ Stop:=wrw hc (fun e=>by rw [ht] at e;cases e) (fun _=>z)

theorem xhk {c:Code} {m₀:Nat} (I:Nat→List Value→Heap→Prop) [sI: ∀ m tm,Stb (I m tm)] (start: ∀ h,Φ h→I m₀ tm h)
    (round: ∀ m tm,(∀ m' tm',m'<m→RS P md (G (FL f r tm' df (.inLoop c::k)) cs) (I m' tm') Stop)→RS P md (G (FL f r tm df (.code c:: .inLoop c::k)) cs) (I m tm) Stop):
    RS P md (G (FL f r tm df (.code (.loop c)::k)) cs) Φ Stop:=by
  refine wlx ?_
  suffices H: ∀ m tm,RS P md (G (FL f r tm df (.code c:: .inLoop c::k)) cs) (I m tm) Stop from fun h y=>H _ _ h (start h y)
  intro m
  induction m using Nat.strongRecOn with
  | _ m ih=>exact fun tm=>round m tm fun m' tm' hlt=>ztv (ih m' hlt tm')
end

theorem xbv {fn:Func} {c:Code} {args:Array Value} {tm:List Value} {R:Value→Heap→Prop} (hf:P.funcs[f]?=some fn) (hb:fn.body=some c)
    (ht:args.toList++List.replicate (fn.ntmps-args.size) undef=tm)
    (x: ∀ (c₀:Frame) (cs:List Frame) (Stop:Goroutine→Heap→Prop),(∀ v h',R v h'→Reach P md (G (c₀.finish v) cs) h' Stop)→
      RS P md (G (FL f .none tm [] [.code c]) (c₀::cs)) Φ Stop) (h0:Φ h):CallsX P md f args h R:=by
  intro c₀ cs Stop K
  have:=x c₀ cs Stop K h h0
  have e:Frame.enter P f args .normal=FL f .none tm [] [.code c]:=by
    unfold Frame.enter
    simp only [hf,hb,Option.map_some,Option.bind_some,Option.getD_some,FL,F,B,← ht]
    simp [Rd.kind,Rd.round]
  rw [e];exact this

def Res (P:Program) (h:Heap) (tm:List Value):List ResultVar→List Value→Prop
  | [],vs=>vs=[]
  | .tmp t::rs,vs=>∃ v vs',vs=v::vs'∧tm.getD t undef=v∧Res P h tm rs vs'
  | .cell a t::rs,vs=>∃ v vs',vs=v::vs'∧wpS P (do loadVar t (← asAddr (tm.getD a undef))) h (fun v' h'=>v'=v∧h'=h)∧Res P h tm rs vs'

theorem ywv {rs:List ResultVar}: ∀ {vs:List Value} {acc:Array Value} {K:Array Value→Heap→Prop},Res P h tm rs vs→K (acc++vs.toArray) h→
    wpS P (rs.foldlM (fun (bs:Array Value) a=>bs.push <$> (match a with
      | .tmp t=>pure (tm.toArray.getD t undef)
      | .cell a t=>do loadVar t (← asAddr (tm.toArray.getD a undef)):Sem Value)) acc) h K:=by
  induction rs with
  | nil=>intro vs acc K e x;simp only [Res] at e;subst e;exact xbz (by simpa using x)
  | cons a rs ih=>
    intro vs acc K e x
    rw [List.foldlM_cons]
    have hget: ∀ t,tm.toArray.getD t undef=tm.getD t undef:=fun t=>by simp [Array.getD_eq_getD_getElem?,List.getD_eq_getElem?_getD]
    cases a with
    | tmp t=>
      obtain ⟨v,vs',rfl,hv,hr⟩:=e
      refine xbq ?_
      show wpS P (Sem.bind _ _) h _
      refine ycx ?_
      refine xbz ?_
      refine xbz ?_
      refine ih hr ?_
      rw [hget,hv]
      simpa using x
    | cell a t=>
      obtain ⟨v,vs',rfl,hv,hr⟩:=e
      refine xbq ?_
      show wpS P (Sem.bind _ _) h _
      refine ycx ?_
      have hv':wpS P (do loadVar t (← asAddr (tm.toArray.getD a undef))) h (fun v' h'=>v'=v∧h'=h):=by rw [hget];exact hv
      refine xjk hv' fun v' h' ⟨e1,e2⟩=>?_
      subst e1;subst e2
      refine xbz ?_
      refine ih hr ?_
      simpa using x

def packs:List Value→Value
  | [v]=>v
  | vs=>.tuple vs.toArray

theorem yav {fn:Func} {rs:List ResultVar} {vs:List Value} {v:Value} {K:Value→Heap→Prop} (hr:fn.results=rs.toArray) (e:Res P h tm rs vs) (hv:packs vs=v) (x:K v h):
    wpS P (results fn tm.toArray) h K:=by
  unfold results
  refine xbq ?_
  rw [hr,Array.mapM_eq_foldlM,List.foldlM_toArray]
  refine ywv e ?_
  refine xbz ?_
  subst hv
  simp only [Array.empty_append]
  match vs,x with
  | [],x=>exact x
  | [_],x=>exact x
  | _::_::_,x=>simpa [packs] using x

theorem xcj [Stb Φ] {c₀:Frame} {fn:Func} {rs:List ResultVar} {vs:List Value} {v:Value} (hf:P.funcs[f]?=some fn) (hr:fn.results=rs.toArray) (e: ∀ h,Φ h→Res P h tm rs vs) (hv:packs vs=v)
    (x:RS P md (G (c₀.finish v) cs) Φ Stop):RS P md (G (FL f .none tm [] (.code .ret::k)) (c₀::cs)) Φ Stop:=
  ztj (hro:=rfl) fun _=>ykv hf rfl fun h y=>yav hr (e h y) hv (x h y)
theorem woq [Stb Φ] {c₀:Frame} {fn:Func} {rs:List ResultVar} {vs:List Value} {v:Value} (hf:P.funcs[f]?=some fn) (hr:fn.results=rs.toArray) (e: ∀ h,Φ h→Res P h tm rs vs) (hv:packs vs=v)
    (x:RS P md (G (c₀.finish v) cs) Φ Stop):RS P md (G (FL f .none tm [] []) (c₀::cs)) Φ Stop:=
  wrx (hro:=rfl) fun _=>ykv hf rfl fun h y=>yav hr (e h y) hv (x h y)
end
end Go.X
namespace Go.X
open Go.Conc Go.RowKit

def AtFin (P:Program) (v:Value) (g:Goroutine):Prop:=g.status= .running∧ ∀ w:World,stepG P true g w= .ended (.done v) w #[]
def StopE (P:Program) (R:Value→Heap→Prop) (g:Goroutine) (h:Heap):Prop:=∃ v,AtFin P v g∧R v h
def EntersX (P:Program) (md:Md) (f:FuncId) (args:Array Value) (h:Heap) (R:Value→Heap→Prop):Prop:=Reach P md (G (Frame.enter P f args .normal) []) h (StopE P R)

section
variable {P:Program} {md:Md} {f:FuncId} {h:Heap} {Φ:Heap→Prop} {tm:List Value} {k:List Item} {R:Value→Heap→Prop}

end

def nilO:Obj→Obj
  | .cells c e f=>if c.size=0 then .cells #[] 0 (0,0) else .cells c e f
  | o=>o
def nilV (r:Heap):Heap:=r.map nilO
def Empty (r:Heap) (b:Nat):Prop:=∃ e f,r[b]?=some (.cells #[] e f)
section
variable {P:Program} {f:FuncId} {args:Array Value} {w:World} {R:Value→Heap→Prop}
end
end Go.X
namespace Go.X
open Go.Conc

abbrev PHeap:=Nat→Option Obj

def pcell (p:PHeap) (a:Addr):Option Value:=
  match p a.block with
  | some (.cells c _ _)=>if a.spot.isSome then none else c[a.off]?
  | _=>none

def PLe (p p':PHeap):Prop:=∀ b o,p b=some o→p' b=some o
theorem PLe.refl (p:PHeap):PLe p p:=fun _ _ x=>x
theorem PLe.trans {p q r:PHeap} (x:PLe p q) (y:PLe q r):PLe p r:=fun b o z=>y b o (x b o z)
theorem PLe.cell {p p':PHeap} (x:PLe p p') {a:Addr} {v:Value} (y:pcell p a=some v):pcell p' a=some v:=by
  unfold pcell at y ⊢
  split at y
  · rename_i c t z hb;rw [x _ _ hb];exact y
  · cases y

structure St (h₀:Heap) (B₀:List Nat) (p:PHeap) (h:Heap) (L:List (Nat × Obj)):Prop where
  keep: ∀ b,b<h₀.size→b ∉ B₀→h[b]?=h₀[b]?
  size:h₀.size≤h.size
  per: ∀ b o,p b=some o→h[b]?=some o
  own: ∀ x∈L,h[x.1]?=some x.2∧p x.1=none∧(h₀.size≤x.1∨x.1∈B₀)
  nod:(L.map (·.1)).Nodup

section
variable {h₀ h h':Heap} {B₀:List Nat} {p p':PHeap} {L:List (Nat × Obj)}

theorem xmk {b:Nat} {o:Obj} (x:h[b]?=some o):b<h.size:=(Array.getElem?_eq_some_iff.1 x).1

theorem St.kept (s:St h₀ [] p h L):Keep h₀ h:=⟨s.size,fun b hb=>s.keep b hb (by simp)⟩

theorem St.start (h:Heap) (p:PHeap) (hp: ∀ b o,p b=some o→h[b]?=some o):St h [] p h []:=
  ⟨fun _ _ _=>rfl,Nat.le_refl _,hp,by simp,by simp⟩

theorem St.drop {x:Nat × Obj} (s:St h₀ B₀ p h (x::L)):St h₀ B₀ p h L:=
  ⟨s.keep,s.size,s.per,fun y hy=>s.own y (by simp [hy]),by have:=s.nod;simp at this;exact this.2⟩

theorem St.sub {L':List (Nat × Obj)} (s:St h₀ B₀ p h L) (hs:L'.Sublist L):St h₀ B₀ p h L':=
  ⟨s.keep,s.size,s.per,fun y hy=>s.own y (hs.subset hy),s.nod.sublist (hs.map _)⟩

theorem St.perm {L':List (Nat × Obj)} (s:St h₀ B₀ p h L) (hs:L.Perm L'):St h₀ B₀ p h L':=
  ⟨s.keep,s.size,s.per,fun y hy=>s.own y (hs.mem_iff.2 hy),(hs.map (·.1)).nodup_iff.1 s.nod⟩

theorem St.call (s:St h₀ B₀ p h L) (k:Keep h h'):St h₀ B₀ p h' L:=
  ⟨fun b hb hn=>(k.keep b (Nat.lt_of_lt_of_le hb s.size)).trans (s.keep b hb hn),Nat.le_trans s.size k.size,
    fun b o x=>(k.keep b (xmk (s.per b o x))).trans (s.per b o x),
    fun x hx=>⟨(k.keep _ (xmk (s.own x hx).1)).trans (s.own x hx).1,(s.own x hx).2⟩,s.nod⟩

instance:Stb (fun h=>St h₀ B₀ p h L):=⟨fun _ _ s k=>s.call k⟩

theorem St.push (s:St h₀ B₀ p h L) (o:Obj):St h₀ B₀ p (h.push o) ((h.size,o)::L):=by
  have k:Keep h (h.push o):=⟨by simp,fun b hb=>by rw [Array.getElem?_push,if_neg (by omega)]⟩
  have s':=s.call k
  refine ⟨s'.keep,s'.size,s'.per,?_,?_⟩
  · intro x hx
    rcases List.mem_cons.1 hx with rfl | hx
    · refine ⟨by simp,?_,.inl s.size⟩
      cases hp:p h.size with
      | none=>rfl
      | some y=>exact absurd (xmk (s.per _ _ hp)) (by simp)
    · exact s'.own x hx
  · simp only [List.map_cons,List.nodup_cons]
    refine ⟨?_,s.nod⟩
    intro hm
    obtain ⟨x,hx,e⟩:=List.mem_map.1 hm
    have:=xmk (s.own x hx).1
    omega

theorem mem_of_get? {α:Type} {l:List α} {i:Nat} {x:α} (h:l[i]?=some x):x∈l:=List.mem_of_getElem? h

theorem St.at (s:St h₀ B₀ p h L) {i b:Nat} {o:Obj} (hL:L[i]?=some (b,o)):h[b]?=some o:=(s.own _ (mem_of_get? hL)).1

theorem zvk {l:List Nat} (hn:l.Nodup) {i j x:Nat} (hi:l[i]?=some x) (hj:l[j]?=some x):i=j:=by
  obtain ⟨hi',ei⟩:=List.getElem?_eq_some_iff.1 hi
  obtain ⟨hj',ej⟩:=List.getElem?_eq_some_iff.1 hj
  have h:=List.pairwise_iff_getElem.1 hn
  rcases Nat.lt_trichotomy i j with hlt | rfl | hlt
  · exact absurd (ei.trans ej.symm) (h i j hi' hj' hlt)
  · rfl
  · exact absurd (ej.trans ei.symm) (h j i hj' hi' hlt)

theorem St.turn (s:St h₀ B₀ p h L) {i b:Nat} {o o':Obj} (hL:L[i]?=some (b,o)) (hb:h'[b]?=some o') (hs:h'.size=h.size)
    (hne: ∀ c,c≠b→h'[c]?=h[c]?):St h₀ B₀ p h' (L.set i (b,o')):=by
  have ho:=s.own _ (mem_of_get? hL)
  have hp: ∀ c o,p c=some o→c≠b:=fun c o hc e=>by subst e;rw [ho.2.1] at hc;cases hc
  refine ⟨fun c hc hn=>?_,by rw [hs];exact s.size,fun c o hc=>by rw [hne c (hp c o hc)];exact s.per c o hc,?_,?_⟩
  · by_cases e:c=b
    · subst e
      rcases ho.2.2 with x | x
      · omega
      · exact absurd x hn
    · rw [hne c e];exact s.keep c hc hn
  · intro x hx
    obtain ⟨j,hj⟩:=List.getElem?_of_mem hx
    rw [List.getElem?_set] at hj
    split at hj
    · split at hj
      · cases hj;exact ⟨hb,ho.2⟩
      · cases hj
    · rename_i hij
      have hx':=s.own x (mem_of_get? hj)
      have hxb:x.1≠b:=by
        intro e
        refine hij (zvk s.nod (i:=i) (j:=j) (x:=b) ?_ ?_)
        · rw [List.getElem?_map,hL];rfl
        · rw [List.getElem?_map,hj];simp [e]
      rw [hne _ hxb];exact hx'
  · have:(L.set i (b,o')).map (·.1)=L.map (·.1):=by
      rw [List.map_set]
      refine List.ext_getElem? fun j=>?_
      rw [List.getElem?_set]
      split
      · rename_i e;subst e
        simp only [List.length_map,List.getElem?_map,hL,Option.map_some]
        rw [if_pos (List.getElem?_eq_some_iff.1 hL).1]
      · rfl
    rw [this];exact s.nod

theorem zex {b off:Nat} {cs:Array Value} {T:TypeId} {z:Nat × Nat} {v:Value} (hb:h[b]?=some (.cells cs T z)):
    (setCell h ⟨b,off,none⟩ v)[b]?=some (.cells (cs.setIfInBounds off v) T z):=by
  unfold setCell
  rw [getElem?_modify',if_pos rfl,hb];rfl
theorem zpq {b off c:Nat} {v:Value} (hc:c≠b):(setCell h ⟨b,off,none⟩ v)[c]?=h[c]?:=by
  unfold setCell
  rw [getElem?_modify',if_neg (fun e=>hc e.symm)]
theorem yyx {a:Addr} {v:Value}:(setCell h a v).size=h.size:=by simp [setCell]

theorem St.store (s:St h₀ B₀ p h L) {i b off:Nat} {cs:Array Value} {T:TypeId} {z:Nat × Nat} {v:Value} (hL:L[i]?=some (b,.cells cs T z)):
    St h₀ B₀ p (setCell h ⟨b,off,none⟩ v) (L.set i (b,.cells (cs.setIfInBounds off v) T z)):=
  s.turn hL (zex (s.at hL)) yyx fun _=>zpq

theorem St.grow (s:St h₀ B₀ p h L) (_hle:PLe p p') (hp: ∀ b o,p' b=some o→h[b]?=some o) (hn: ∀ x∈L,p' x.1=none):St h₀ B₀ p' h L:=
  ⟨s.keep,s.size,hp,fun x hx=>⟨(s.own x hx).1,hn x hx,(s.own x hx).2.2⟩,s.nod⟩

def padd (p:PHeap) (b:Nat) (o:Obj):PHeap:=fun c=>if c=b then some o else p c
theorem zfj {b:Nat} {o:Obj} (hb:p b=none):PLe p (padd p b o):=fun c x hc=>by
  unfold padd;rw [if_neg];exact hc
  intro e;subst e;rw [hb] at hc;cases hc
theorem xyz {b:Nat} {o:Obj}:padd p b o b=some o:=if_pos rfl

theorem St.last {b:Nat} {o:Obj} (s:St h₀ B₀ p h ((b,o)::L)):PLe p (padd p b o)∧St h₀ B₀ (padd p b o) h L:=by
  have ho:=s.own (b,o) (by simp)
  refine ⟨zfj ho.2.1,s.drop.grow (zfj ho.2.1) ?_ ?_⟩
  · intro c x hc
    unfold padd at hc
    split at hc
    · rename_i e;subst e;cases hc;exact ho.1
    · exact s.per c x hc
  · intro x hx
    unfold padd
    have hn:=s.nod
    simp only [List.map_cons,List.nodup_cons] at hn
    rw [if_neg (fun e=>hn.1 (List.mem_map.2 ⟨x,hx,e⟩))]
    exact (s.own x (by simp [hx])).2.1

structure Grow (p:PHeap) (h:Heap) (p':PHeap) (h':Heap):Prop where
  keep:Keep h h'
  le:PLe p p'
  per: ∀ b o,p' b=some o→h'[b]?=some o
  new: ∀ b,p b=none→b<h.size→p' b=none

theorem St.Grow (s:St h₀ [] p' h L) {p₀:PHeap} (hp:PLe p₀ p') (hn: ∀ b,p₀ b=none→b<h₀.size→p' b=none):Grow p₀ h₀ p' h:=⟨s.kept,hp,s.per,hn⟩

theorem St.cell (s:St h₀ B₀ p h L) {a:Addr} {v:Value} (x:pcell p a=some v):cell? h a=some v:=by
  unfold pcell at x
  unfold cell?
  split at x
  · rename_i c t z hb;rw [s.per _ _ hb];exact x
  · cases x
theorem St.ocell (s:St h₀ B₀ p h L) {i b off:Nat} {cs:Array Value} {T:TypeId} {z:Nat × Nat} {v:Value} (hL:L[i]?=some (b,.cells cs T z)) (hv:cs[off]?=some v):
    cell? h ⟨b,off,none⟩=some v:=by
  unfold cell?;rw [s.at hL];exact hv
end

def aggT (P:Program) (t:TypeId):Option Bool:=(P.underlying t).map fun | .struct _=>true | .array _ _=>true | _=>false
def sizeT (P:Program) (t:TypeId):Option Nat:=(P.info? t).map (·.size)
def bytesT (P:Program) (t:TypeId):Option Nat:=(P.info? t).map (·.bytes)
def zeroT (P:Program) (t:TypeId):Option Value:=(P.info? t).bind (·.zero)
def placesT (P:Program) (t:TypeId):Option (List (Nat × Nat)):=
  match P.underlying t with
  | some (.struct fs)=>fs.toList.mapM fun f=>(sizeT P f.type).map fun n=>(f.offset,n)
  | _=>none

section
variable {P:Program} {h:Heap}

theorem xdv {t:TypeId} {d:TypeDesc} {K:TypeDesc→Heap→Prop} (ht:P.underlying t=some d) (x:K d h):wpS P (underlying t) h K:=by
  unfold underlying
  refine xbq ?_
  simp only [program,wpS,ht]
  exact xbz x
theorem xow {t:TypeId} {i:TypeInfo} {K:TypeInfo→Heap→Prop} (ht:P.info? t=some i) (x:K i h):wpS P (typeInfo t) h K:=by
  unfold typeInfo
  refine xbq ?_
  simp only [program,wpS,ht]
  exact xbz x
theorem xik {t:TypeId} {n:Nat} {K:Nat→Heap→Prop} (ht:sizeT P t=some n) (x:K n h):wpS P (sizeOf t) h K:=by
  unfold sizeT at ht
  cases hi:P.info? t with
  | none=>rw [hi] at ht;cases ht
  | some i=>
    rw [hi] at ht;cases ht
    unfold sizeOf
    refine xbq (xow hi ?_)
    exact xbz x
theorem xlz {t:TypeId} {v:Value} {K:Value→Heap→Prop} (ht:zeroT P t=some v) (x:K v h):wpS P (zeroValue t) h K:=by
  unfold zeroT at ht
  cases hi:P.info? t with
  | none=>rw [hi] at ht;cases ht
  | some i=>
    rw [hi] at ht
    unfold zeroValue
    refine xbq (xow hi ?_)
    simp only [Option.bind_some] at ht
    simp only [ht]
    exact xbz x
theorem xyq {t:TypeId} {b:Bool} {K:Bool→Heap→Prop} (ht:aggT P t=some b) (x:K b h):wpS P (isAgg t) h K:=by
  unfold aggT at ht
  cases hu:P.underlying t with
  | none=>rw [hu] at ht;cases ht
  | some d=>
    rw [hu] at ht
    unfold isAgg
    refine xbq (xdv hu ?_)
    cases d <;> simp at ht <;> subst ht <;> exact xbz x

theorem xuz {a:Addr}: ∀ {n i:Nat} {vs:List Value} {acc:Array Value} {K:Array Value→Heap→Prop},vs.length=n→
    (∀ j v,vs[j]?=some v→cell? h (a.add (i+j))=some v)→K (acc++vs.toArray) h→wpS P (loadCellsFrom a i n acc) h K
  | 0,i,vs,acc,K,hn,_,x=>by
    obtain rfl:=List.eq_nil_of_length_eq_zero hn
    exact xbz (by simpa using x)
  | n+1,i,vs,acc,K,hn,hc,x=>by
    match vs,hn with
    | v::vs,hn=>
      unfold loadCellsFrom
      refine xbq ?_
      refine ⟨rfl,v,by simpa using hc 0 v rfl,?_⟩
      refine xuz (vs:=vs) (by simpa using hn) (fun j u hj=>?_) (by simpa using x)
      have:=hc (j+1) u (by simpa using hj)
      rwa [show i+1+j=i+(j+1) from by omega]

theorem xnz {a:Addr} {n:Nat} {vs:List Value} {K:Array Value→Heap→Prop} (hn:vs.length=n) (hc: ∀ j v,vs[j]?=some v→cell? h (a.add j)=some v) (x:K vs.toArray h):
    wpS P (loadCells a n) h K:=xuz hn (by simpa using hc) (by simpa using x)

theorem yww {t:TypeId} {a:Addr} {v:Value} {K:Value→Heap→Prop} (ht:aggT P t=some false) (hc:cell? h a=some v) (x:K v h):wpS P (loadVar t a) h K:=by
  unfold loadVar
  refine xbq (xyq ht ?_)
  exact ⟨rfl,v,hc,x⟩
theorem xij {t:TypeId} {a:Addr} {n:Nat} {vs:List Value} {K:Value→Heap→Prop} (ht:aggT P t=some true) (hs:sizeT P t=some n) (hn:vs.length=n)
    (hc: ∀ j v,vs[j]?=some v→cell? h (a.add j)=some v) (x:K (.agg vs.toArray) h):wpS P (loadVar t a) h K:=by
  unfold loadVar
  refine xbq (xyq ht ?_)
  simp only [if_true]
  refine xbq (xik hs ?_)
  refine xbq (xnz hn hc ?_)
  exact xbz x

theorem xjv (b off n:Nat):(⟨b,off,none⟩:Addr).add n=⟨b,off+n,none⟩:=by unfold Addr.add;split <;> simp_all
end
end Go.X
namespace Go.X
open Go.Conc
open Go.RowKit (wrap64)

section
variable {P:Program} {tm:List Value} {h:Heap} {d:Option Tmp} {ty:TypeId} {pos:String} {aft:Array Edge} {gd:Option (Nat × Bool)}

theorem y_of {tm:List Value} {F:(Nat→Value)→List Value} (h:tm=F (fun i=>tm.getD i undef)): ∃ y:Nat→Value,tm=F y:=⟨_,h⟩
theorem xek {x:Bool} (h:x=false):(!x)=true:=by rw [h];rfl
theorem xej {x:Bool} (h:x=true):(!x)=false:=by rw [h];rfl
theorem xtx (b:Bool):b=true∨b=false:=by cases b <;> simp
theorem wr {n:Int} (h: -9223372036854775808≤n∧n≤9223372036854775807):IntKind.i64.wrap n=n:=IntWalk.i64_in n h

theorem xqx {o:Oper} {v:Value} {s:Sem Value} (e:execOp (evl tm) o=(do pure (.value (← s)))) (x:wpS P s h fun v' h'=>v'=v∧h'=h):Exd P tm o h v:=by
  unfold Exd Ex
  rw [e]
  refine xbq (xjk x fun v' h' ⟨e1,e2⟩=>?_)
  exact xbz ⟨v',rfl,e1,e2⟩

theorem xax {x:Operand} {v:Value} (hx:evl tm x=v):Exd P tm ⟨d,.move x,ty,pos,aft,gd⟩ h v:=by
  unfold Exd Ex;simp only [execOp];exact xbz ⟨_,rfl,hx,rfl⟩
theorem xaq {x:Operand} {v:Value} (hx:evl tm x=v):Exd P tm ⟨d,.assign x,ty,pos,aft,gd⟩ h v:=by
  unfold Exd Ex;simp only [execOp];exact xbz ⟨_,rfl,hx,rfl⟩

theorem zlx {c a b:Operand} {t:Bool} {v:Value} (hc:evl tm c= .bool t) (hv:(if t then evl tm a else evl tm b)=v):Exd P tm ⟨d,.pick c a b,ty,pos,aft,gd⟩ h v:=by
  unfold Exd Ex
  simp only [execOp,hc]
  refine xbq ?_
  refine xbz ?_
  refine xbz ⟨_,rfl,?_,rfl⟩
  rw [← hv]
theorem xbw {c a b:Operand} {t:Bool} {v:Value} (hc:evl tm c= .bool t) (ht:t=true) (ha:evl tm a=v):Exd P tm ⟨d,.pick c a b,ty,pos,aft,gd⟩ h v:=zlx hc (by rw [ht];exact ha)
theorem xdq {c a b:Operand} {t:Bool} {v:Value} (hc:evl tm c= .bool t) (ht:t=false) (hb:evl tm b=v):Exd P tm ⟨d,.pick c a b,ty,pos,aft,gd⟩ h v:=zlx hc (by rw [ht];exact hb)

theorem xov {op:BinOp} {T T':TypeId} {x y:Operand} {v a b:Value} (hx:evl tm x=a) (hy:evl tm y=b) (hg: ∀ K:Unit→Heap→Prop,K () h→wpS P (eqGuard op T x y a b) h K)
    (hv:wpS P (binOp op T a b) h fun v' h'=>v'=v∧h'=h):Exd P tm ⟨d,.binOp op T x y T',ty,pos,aft,gd⟩ h v:=by
  refine xqx (s:=do eqGuard op T x y a b;binOp op T a b) (by simp only [execOp,hx,hy]) ?_
  refine xbq (hg _ ?_)
  exact hv

theorem xkv {op:BinOp} {T:TypeId} {x y:Operand} {a b:Value} (ho:(match op with | .eql=>false | .neq=>false | _=>true)=true) {K:Unit→Heap→Prop} (k:K () h):wpS P (eqGuard op T x y a b) h K:=by
  unfold eqGuard
  cases op <;> first | exact absurd ho (by decide) | (rw [if_pos (by rfl)];exact xbz k)
theorem xpz {op:BinOp} {T:TypeId} {x y:Operand} {k k':IntKind} {a b:Int} {K:Unit→Heap→Prop} (z:K () h):wpS P (eqGuard op T x y (.int k a) (.int k' b)) h K:=by
  unfold eqGuard
  cases op <;> first | (rw [if_pos (by rfl)];exact xbz z) | (rw [if_neg (by decide)];exact xbz z)

theorem ibeq (a b:Int):(a == b)=decide (a=b):=by rw [Bool.eq_iff_iff];simp

theorem xev {k:IntKind} {T T':TypeId} {x y:Operand} {a b n:Int} (hx:evl tm x= .int k a) (hy:evl tm y= .int k b) (hn:k.wrap (a+b)=n):Exd P tm ⟨d,.binOp .add T x y T',ty,pos,aft,gd⟩ h (.int k n):=
  xov hx hy (fun K z=>xkv rfl z) (by simp only [binOp,ne_eq,not_true_eq_false,if_false,Op.intArith,hn];exact xbz ⟨rfl,rfl⟩)
theorem xlv {k:IntKind} {T T':TypeId} {x y:Operand} {a b n:Int} (hx:evl tm x= .int k a) (hy:evl tm y= .int k b) (hn:k.wrap (a-b)=n):Exd P tm ⟨d,.binOp .sub T x y T',ty,pos,aft,gd⟩ h (.int k n):=
  xov hx hy (fun K z=>xkv rfl z) (by simp only [binOp,ne_eq,not_true_eq_false,if_false,Op.intArith,hn];exact xbz ⟨rfl,rfl⟩)
theorem xwk {k:IntKind} {T T':TypeId} {x y:Operand} {a b n:Int} (hx:evl tm x= .int k a) (hy:evl tm y= .int k b) (hn:k.wrap (a*b)=n):Exd P tm ⟨d,.binOp .mul T x y T',ty,pos,aft,gd⟩ h (.int k n):=
  xov hx hy (fun K z=>xkv rfl z) (by simp only [binOp,ne_eq,not_true_eq_false,if_false,Op.intArith,hn];exact xbz ⟨rfl,rfl⟩)
theorem xfk {k:IntKind} {T T':TypeId} {x y:Operand} {a b:Int} (hx:evl tm x= .int k a) (hy:evl tm y= .int k b):Exd P tm ⟨d,.binOp .lss T x y T',ty,pos,aft,gd⟩ h (.bool (decide (a<b))):=
  xov hx hy (fun K z=>xkv rfl z) (by simp only [binOp,ne_eq,not_true_eq_false,if_false,Op.intCmp];exact xbz ⟨rfl,rfl⟩)
theorem xyk {k:IntKind} {T T':TypeId} {x y:Operand} {a b:Int} (hx:evl tm x= .int k a) (hy:evl tm y= .int k b):Exd P tm ⟨d,.binOp .leq T x y T',ty,pos,aft,gd⟩ h (.bool (decide (a≤b))):=
  xov hx hy (fun K z=>xkv rfl z) (by simp only [binOp,ne_eq,not_true_eq_false,if_false,Op.intCmp];exact xbz ⟨rfl,rfl⟩)
theorem xjx {k:IntKind} {T T':TypeId} {x y:Operand} {a b:Int} (hx:evl tm x= .int k a) (hy:evl tm y= .int k b):Exd P tm ⟨d,.binOp .gtr T x y T',ty,pos,aft,gd⟩ h (.bool (decide (b<a))):=
  xov hx hy (fun K z=>xkv rfl z) (by simp only [binOp,ne_eq,not_true_eq_false,if_false,Op.intCmp];exact xbz ⟨rfl,rfl⟩)
theorem xuq {k:IntKind} {T T':TypeId} {x y:Operand} {a b:Int} (hx:evl tm x= .int k a) (hy:evl tm y= .int k b):Exd P tm ⟨d,.binOp .geq T x y T',ty,pos,aft,gd⟩ h (.bool (decide (b≤a))):=
  xov hx hy (fun K z=>xkv rfl z) (by simp only [binOp,ne_eq,not_true_eq_false,if_false,Op.intCmp];exact xbz ⟨rfl,rfl⟩)
theorem xmj {k:IntKind} {T T':TypeId} {x y:Operand} {a b:Int} (hx:evl tm x= .int k a) (hy:evl tm y= .int k b):Exd P tm ⟨d,.binOp .eql T x y T',ty,pos,aft,gd⟩ h (.bool (decide (a=b))):=
  xov hx hy (fun K z=>xpz z) (by simp only [binOp,ne_eq,not_true_eq_false,if_false,Op.intCmp];exact xbz ⟨by rw [ibeq],rfl⟩)
theorem xgw {k:IntKind} {T T':TypeId} {x y:Operand} {a b:Int} (hx:evl tm x= .int k a) (hy:evl tm y= .int k b):Exd P tm ⟨d,.binOp .neq T x y T',ty,pos,aft,gd⟩ h (.bool (decide (a≠b))):=
  xov hx hy (fun K z=>xpz z) (by simp only [binOp,ne_eq,not_true_eq_false,if_false,Op.intCmp];exact xbz ⟨by simp [bne,ibeq],rfl⟩)

theorem xfw {T:TypeId} {x:Operand} {b:Bool} (hx:evl tm x= .bool b):Exd P tm ⟨d,.unOp .not T x,ty,pos,aft,gd⟩ h (.bool (!b)):=
  xqx (s:=pure (.bool (!b))) (by simp only [execOp,hx,Op.unary]) (xbz ⟨rfl,rfl⟩)
theorem xww {b:Builtin} {args:Array Operand} {ats:Array TypeId} {v:Value} {s:Sem Value}
    (e: ∀ cs,builtin b ats ty cs (args.map (evl tm))=(do pure (.value (← s)))) (x:wpS P s h fun v' h'=>v'=v∧h'=h):
    Exd P tm ⟨d,.call { callee:=.builtin b,args:=args,argTypes:=ats },ty,pos,aft,gd⟩ h v:=by
  unfold Exd Ex
  simp only [execOp,resolve]
  refine xbq (xbz ?_)
  simp only [invoke]
  rw [e]
  refine xbq (xjk x fun v' h' ⟨e1,e2⟩=>?_)
  exact xbz ⟨v',rfl,e1,e2⟩

theorem xfj {t e:TypeId} {x:Operand} {a:Option Addr} {n c:Nat} (ht:P.underlying t=some (.slice e)) (hx:evl tm x= .slice a n c):
    Exd P tm ⟨d,.call { callee:=.builtin .len,args:=#[x],argTypes:=#[t] },ty,pos,aft,gd⟩ h (.int .i64 n):=by
  refine xww (s:=Builtin.len_ #[t] ty #[.slice a n c]) (fun cs=>by simp only [builtin,List.map_toArray,List.map_cons,List.map_nil,hx]) ?_
  simp only [Builtin.len_]
  refine xbq (xdv ht ?_)
  exact xbz ⟨rfl,rfl⟩
theorem wgw {t:TypeId} {x:Operand} {s:ByteArray} (ht:P.underlying t=some .string) (hx:evl tm x= .string s):
    Exd P tm ⟨d,.call { callee:=.builtin .len,args:=#[x],argTypes:=#[t] },ty,pos,aft,gd⟩ h (.int .i64 s.size):=by
  refine xww (s:=Builtin.len_ #[t] ty #[.string s]) (fun cs=>by simp only [builtin,List.map_toArray,List.map_cons,List.map_nil,hx]) ?_
  simp only [Builtin.len_]
  refine xbq (xdv ht ?_)
  exact xbz ⟨rfl,rfl⟩

theorem woj {ats:Array TypeId} {k k':IntKind} {x y:Operand} {a b:Int} (hx:evl tm x= .int k a) (hy:evl tm y= .int k' b):
    Exd P tm ⟨d,.call { callee:=.builtin .max,args:=#[x,y],argTypes:=ats },ty,pos,aft,gd⟩ h (.int k (max a b)):=by
  refine xww (s:=pure (.int k (max a b))) (fun cs=>?_) (xbz ⟨rfl,rfl⟩)
  have e:(if b>a then b else a)=max a b:=by rw [Int.max_def];split <;> split <;> omega
  simp [builtin,hx,hy,Builtin.max_,Builtin.max2,e]

theorem xdw {x:Operand} {i:Nat} {vs:Array Value} {v:Value} (hx:evl tm x= .tuple vs) (hv:vs[i]?=some v):Exd P tm ⟨d,.extract x i,ty,pos,aft,gd⟩ h v:=
  xqx (s:=pure v) (by simp only [execOp,hx,Instr.extract,hv]) (xbz ⟨rfl,rfl⟩)

theorem xrx {fn:Fn} {first cap:List Operand} {a b:List Value} (ha:first.map (evl tm)=a) (hb:cap.map (evl tm)=b):Exd P tm ⟨d,.makeFunc fn first.toArray cap.toArray,ty,pos,aft,gd⟩ h (.func fn a.toArray b.toArray):=
  xqx (s:=pure (.func fn a.toArray b.toArray)) (by simp only [execOp,Instr.makeFunc,← ha,← hb,List.map_toArray]) (xbz ⟨rfl,rfl⟩)

theorem yhj {fs:List Field}: ∀ {pl:List (Nat × Nat)} {acc:Array (Nat × Nat)} {K:Array (Nat × Nat)→Heap→Prop},
    (fs.mapM fun f=>(sizeT P f.type).map fun n=>(f.offset,n))=some pl→K (acc++pl.toArray) h→
    wpS P (fs.foldlM (fun (bs:Array (Nat × Nat)) f=>bs.push <$> (do pure (f.offset,← sizeOf f.type):Sem (Nat × Nat))) acc) h K:=by
  induction fs with
  | nil=>intro pl acc K e x;simp at e;subst e;exact xbz (by simpa using x)
  | cons f fs ih=>
    intro pl acc K e x
    simp only [List.mapM_cons,Option.bind_eq_bind] at e
    cases hs:sizeT P f.type with
    | none=>rw [hs] at e;cases e
    | some n=>
      rw [hs] at e
      simp only [Option.map_some,Option.bind_some] at e
      cases hr:(fs.mapM fun f=>(sizeT P f.type).map fun n=>(f.offset,n)) with
      | none=>rw [hr] at e;cases e
      | some pl'=>
        rw [hr] at e
        simp at e
        subst e
        rw [List.foldlM_cons]
        refine xbq ?_
        show wpS P (Sem.bind _ _) h _
        refine ycx ?_
        refine xbq (xik hs ?_)
        refine xbz ?_
        refine xbz ?_
        exact ih hr (by simpa using x)

theorem xlj {t:TypeId} {parts:List (Nat × Operand)} {z:Value} {pl:List (Nat × Nat)} {cells:Array Value} {vs:List (Nat × Value)} (hz:zeroT P t=some z) (hp:placesT P t=some pl)
    (hvs:(parts.map fun (i,x)=>(i,evl tm x))=vs) (hf:Instr.fill (fun i=>pl[i]?) z.cells vs=some cells):Exd P tm ⟨d,.build t parts.toArray,ty,pos,aft,gd⟩ h (.agg cells):=by
  unfold placesT at hp
  split at hp
  · rename_i fs hu
    refine xqx (s:=Instr.build t (parts.toArray.map fun (i,x)=>(i,evl tm x))) rfl ?_
    unfold Instr.build
    refine xbq (xlz hz ?_)
    refine xbq (xdv hu ?_)
    refine xbq ?_
    rw [Array.mapM_eq_foldlM,← Array.foldlM_toList]
    refine yhj hp ?_
    simp only [Array.empty_append,List.map_toArray,hvs,List.getElem?_toArray,hf]
    exact xbz ⟨rfl,rfl⟩
  · cases hp

theorem zzz {t ft:TypeId} {x:Operand} {i:Nat} {cs:Array Value} {off:Nat} {v:Value} {fs:Array Field} {fd:Field} (hu:P.underlying t=some (.struct fs)) (hi:fs[i]?=some fd) (hft:fd.type=ft) (hof:fd.offset=off)
    (ha:aggT P ft=some false) (hx:evl tm x= .agg cs) (hv:cs[off]?=some v):Exd P tm ⟨d,.field t x i,ty,pos,aft,gd⟩ h v:=by
  refine xqx (s:=Instr.field t (.agg cs) i) (by simp only [execOp,hx]) ?_
  unfold Instr.field
  refine xbq (xdv hu ?_)
  simp only [hi,asAgg,part,hft,hof]
  refine xbq (xbz ?_)
  refine xbq (xyq ha ?_)
  simp only [Bool.false_eq_true,if_false,hv]
  exact xbz ⟨rfl,rfl⟩

def fieldT (P:Program) (s:TypeId) (i:Nat):Option (Nat × Nat):=
  match P.underlying s with
  | some (.struct fs)=>(fs[i]?).bind fun f=>(sizeT P f.type).map fun n=>(f.offset,n)
  | _=>none

theorem xaw {s:TypeId} {x:Operand} {i o n:Nat} {a a':Addr} (hf:fieldT P s i=some (o,n+1)) (hx:evl tm x= .pointer (some a)) (ha:a.add o=a'):
    Exd P tm ⟨d,.fieldAddr s x i,ty,pos,aft,gd⟩ h (.pointer (some a')):=by
  unfold fieldT at hf
  split at hf
  · rename_i fs hu
    cases hi:fs[i]? with
    | none=>rw [hi] at hf;cases hf
    | some fd=>
      rw [hi] at hf
      cases hs:sizeT P fd.type with
      | none=>simp [hs] at hf
      | some m=>
        simp [hs] at hf
        obtain ⟨h1,rfl⟩:=hf
        refine xqx (s:=Instr.fieldAt s (.pointer (some a)) i) (by simp only [execOp,hx]) ?_
        unfold Instr.fieldAt
        refine xbq (xdv hu ?_)
        simp only [hi,Instr.sureAddr]
        refine xbq (xbz ?_)
        refine xbq ?_
        unfold fieldPlace
        refine xbq (xik hs ?_)
        rw [if_neg (by omega)]
        refine xbz ?_
        refine xbz ⟨?_,rfl⟩
        rw [h1,ha]
  · cases hf

theorem ydz {t e:TypeId} {x y:Operand} {w n c:Nat} {k:IntKind} {i:Int} {a a':Addr} (ht:P.underlying t=some (.slice e)) (hs:sizeT P e=some w) (hx:evl tm x= .slice (some a) n c) (hy:evl tm y= .int k i)
    (h0:0≤i) (h1:i<n) (ha:a.add (i.toNat*w)=a'):Exd P tm ⟨d,.indexAddr t x y,ty,pos,aft,gd⟩ h (.pointer (some a')):=by
  refine xqx (s:=Instr.indexAt t (.slice (some a) n c) (.int k i)) (by simp only [execOp,hx,hy]) ?_
  unfold Instr.indexAt
  refine xbq (xbz ?_)
  simp only
  refine xbq (xdv ht ?_)
  simp only
  refine xbq (xbz ?_)
  simp only
  refine xbq (xdv ht ?_)
  rw [if_pos ⟨h0,h1⟩]
  refine xbq (xik hs ?_)
  exact xbz ⟨by rw [ha],rfl⟩

theorem xdx {t e:TypeId} {x y:Operand} {w n c i:Nat} {k:IntKind} {a:Addr} (ht:P.underlying t=some (.slice e)) (hs:sizeT P e=some w) (hx:evl tm x= .slice (some a) n c) (hy:evl tm y= .int k (i:Nat))
    (h1:i<n):Exd P tm ⟨d,.indexAddr t x y,ty,pos,aft,gd⟩ h (.pointer (some (a.add (i*w)))):=
  ydz ht hs hx hy (by omega) (by omega) (by rw [Int.toNat_natCast])

theorem yiv {t:TypeId} {x:Operand} {a:Addr} {v:Value} (ht:aggT P t=some false) (hx:evl tm x= .pointer (some a)) (hc:cell? h a=some v):Exd P tm ⟨d,.load t x,ty,pos,aft,gd⟩ h v:=by
  refine xqx (s:=Instr.loadAt t (.pointer (some a))) (by simp only [execOp,hx]) ?_
  unfold Instr.loadAt
  refine xbq (xbz ?_)
  exact yww ht hc ⟨rfl,rfl⟩
theorem zbw {t:TypeId} {x:Operand} {a:Addr} {n:Nat} {vs:List Value} (ht:aggT P t=some true) (hs:sizeT P t=some n) (hn:vs.length=n) (hx:evl tm x= .pointer (some a))
    (hc: ∀ j v,vs[j]?=some v→cell? h (a.add j)=some v):Exd P tm ⟨d,.load t x,ty,pos,aft,gd⟩ h (.agg vs.toArray):=by
  refine xqx (s:=Instr.loadAt t (.pointer (some a))) (by simp only [execOp,hx]) ?_
  unfold Instr.loadAt
  refine xbq (xbz ?_)
  exact xij ht hs hn hc ⟨rfl,rfl⟩

section
variable {h₀:Heap} {B₀:List Nat} {p:PHeap} {L:List (Nat × Obj)}

theorem xbx {t:TypeId} {x:Operand} {i b off:Nat} {cs:Array Value} {T:TypeId} {z:Nat × Nat} {v:Value} (s:St h₀ B₀ p h L) (ht:aggT P t=some false) (hx:evl tm x= .pointer (some ⟨b,off,none⟩))
    (hL:L[i]?=some (b,.cells cs T z)) (hv:cs[off]?=some v):Exd P tm ⟨d,.load t x,ty,pos,aft,gd⟩ h v:=
  yiv ht hx (s.ocell hL hv)
theorem xbk {t:TypeId} {x:Operand} {i b off n:Nat} {cs:Array Value} {T:TypeId} {z:Nat × Nat} {vs:List Value} (s:St h₀ B₀ p h L) (ht:aggT P t=some true) (hs:sizeT P t=some n) (hx:evl tm x= .pointer (some ⟨b,off,none⟩))
    (hL:L[i]?=some (b,.cells cs T z)) (hv:(cs.toList.drop off).take n=vs) (hn:vs.length=n):Exd P tm ⟨d,.load t x,ty,pos,aft,gd⟩ h (.agg vs.toArray):=
  zbw ht hs hn hx fun j v hj=>by
    rw [xjv]
    refine s.ocell hL ?_
    subst hv
    rw [List.getElem?_take] at hj
    split at hj
    · rw [List.getElem?_drop] at hj;simpa using hj
    · cases hj
theorem xdk {t:TypeId} {x:Operand} {a:Addr} {v:Value} (s:St h₀ B₀ p h L) (ht:aggT P t=some false) (hx:evl tm x= .pointer (some a)) (hv:pcell p a=some v):Exd P tm ⟨d,.load t x,ty,pos,aft,gd⟩ h v:=
  yiv ht hx (s.cell hv)
theorem xiw {t:TypeId} {x:Operand} {a:Addr} {n:Nat} {vs:List Value} (s:St h₀ B₀ p h L) (ht:aggT P t=some true) (hs:sizeT P t=some n) (hx:evl tm x= .pointer (some a))
    (hn:vs.length=n) (hv: ∀ j v,vs[j]?=some v→pcell p (a.add j)=some v):Exd P tm ⟨d,.load t x,ty,pos,aft,gd⟩ h (.agg vs.toArray):=
  zbw ht hs hn hx fun j v hj=>s.cell (hv j v hj)

variable {md:Md} {f:FuncId} {r:Rd} {df:List Deferred} {k:List Item} {cs:List Frame} {Stop:Goroutine→Heap→Prop} {ops rest:List Oper} {tm':List Value}

theorem xpq {T:TypeId} {cells:Array Value} {K:Addr→Heap→Prop} (x:K ⟨h.size,0,none⟩ (h.push (.cells cells T))):wpS P (newRow T cells) h K:=by
  unfold newRow
  refine xbq ?_
  exact xbz (P:=P) x

theorem xjq {dd:Nat} {T:TypeId} {x:Operand} {v:Value} (hm:Met ops tm ⟨some dd,.box T x,ty,pos,aft,gd⟩ true) (hx:evl tm x=v)
    (n: ∀ b,RL P md f r df k cs Stop ops rest (tm.set dd (.pointer (some ⟨b,0,none⟩))) (fun h=>St h₀ B₀ p h ((b,.cells v.cells T (0,0))::L))):
    RL P md f r df k cs Stop ops (⟨some dd,.box T x,ty,pos,aft,gd⟩::rest) tm (fun h=>St h₀ B₀ p h L):=by
  refine xtw (K:=fun v' h'=>∃ b,v'= .pointer (some ⟨b,0,none⟩)∧St h₀ B₀ p h' ((b,.cells v.cells T (0,0))::L)) hm rfl (fun h s=>?_) fun v'=>xgx fun b=>xez fun e=>by subst e;exact n b
  unfold Ex
  simp only [execOp,hx]
  refine xbq ?_
  unfold Instr.box newVar
  refine xbq (xpq ?_)
  refine xbz ?_
  exact xbz ⟨_,rfl,_,rfl,s.push _⟩

theorem xjj {dd:Nat} {T:TypeId} {z:Value} {cells:Array Value} (hm:Met ops tm ⟨some dd,.alloc T,ty,pos,aft,gd⟩ true) (hz:zeroT P T=some z) (hc:z.cells=cells)
    (n: ∀ b,RL P md f r df k cs Stop ops rest (tm.set dd (.pointer (some ⟨b,0,none⟩))) (fun h=>St h₀ B₀ p h ((b,.cells cells T (0,0))::L))):
    RL P md f r df k cs Stop ops (⟨some dd,.alloc T,ty,pos,aft,gd⟩::rest) tm (fun h=>St h₀ B₀ p h L):=by
  refine xtw (K:=fun v' h'=>∃ b,v'= .pointer (some ⟨b,0,none⟩)∧St h₀ B₀ p h' ((b,.cells cells T (0,0))::L)) hm rfl (fun h s=>?_) fun v'=>xgx fun b=>xez fun e=>by subst e;exact n b
  unfold Ex
  simp only [execOp]
  refine xbq ?_
  unfold Instr.alloc
  refine xbq (xlz hz ?_)
  simp only
  unfold newVar
  rw [hc]
  refine xbq (xpq ?_)
  refine xbz ?_
  exact xbz ⟨_,rfl,_,rfl,s.push _⟩

theorem xxk (cs:Array Value) (i:Nat) (v:Value):cs.setIfInBounds i v=(cs.toList.set i v).toArray:=by
  apply Array.ext';simp

def setl (cs:List Value) (off:Nat):List Value→List Value
  | []=>cs
  | v::vs=>setl (cs.set off v) (off+1) vs

theorem xmv {b:Nat} {T:TypeId} {i:Nat}: ∀ {vs:List Value} {off j:Nat} {h:Heap} {cs:List Value} {L:List (Nat × Obj)} {K:Unit→Heap→Prop},St h₀ B₀ p h L→L[i]?=some (b,.cells cs.toArray T (0,0))→
    off+j+vs.length≤cs.length→(∀ v∈vs,isOne v=true)→
    (∀ h',St h₀ B₀ p h' (L.set i (b,.cells (setl cs (off+j) vs).toArray T (0,0)))→K () h')→wpS P (storeCells ⟨b,off,none⟩ vs j) h K
  | [],off,j,h,cs,L,K,s,hL,_,_,n=>by
    refine xbz (n h ?_)
    have:L.set i (b,.cells (setl cs (off+j) []).toArray T (0,0))=L:=by
      refine List.ext_getElem? fun m=>?_
      rw [List.getElem?_set]
      split
      · rename_i e;subst e;rw [if_pos (List.getElem?_eq_some_iff.1 hL).1,hL];rfl
      · rfl
    rw [this];exact s
  | v::vs,off,j,h,cs,L,K,s,hL,hlen,h1,n=>by
    unfold storeCells
    refine xbq ?_
    rw [xjv]
    have hi:i<L.length:=(List.getElem?_eq_some_iff.1 hL).1
    simp only [List.length_cons] at hlen
    refine ⟨rfl,h1 v (by simp),⟨cs[off+j],s.ocell hL (by simp)⟩,?_,?_⟩
    · unfold frozenAt;rw [s.at hL];simp
    · show wpS P (storeCells _ vs (j+1)) _ K
      have s':=s.store (off:=off+j) (v:=v) hL
      rw [xxk] at s'
      refine xmv (i:=i) (T:=T) s' (cs:=cs.set (off+j) v) (by rw [List.getElem?_set_self hi]) (by simp;omega) (fun u hu=>h1 u (by simp [hu])) fun h' s''=>n h' ?_
      rw [List.set_set] at s''
      exact s''

theorem xfv {T T':TypeId} {x y:Operand} {i b off:Nat} {cs' cs2:List Value} {v:Value} {nsz:Nat} (hm:Met ops tm ⟨none,.store T x y,ty,pos,aft,gd⟩ true) (hs:sizeT P T=some nsz)
    (hx:evl tm x= .pointer (some ⟨b,off,none⟩)) (hy:evl tm y=v) (hL:L[i]?=some (b,.cells cs'.toArray T' (0,0))) (hv:v.cells.size=nsz) (h1:v.cells.toList.all isOne=true) (hlen:off+v.cells.size≤cs'.length) (h2:setl cs' off v.cells.toList=cs2)
    (n:RL P md f r df k cs Stop ops rest tm (fun h=>St h₀ B₀ p h (L.set i (b,.cells cs2.toArray T' (0,0))))):
    RL P md f r df k cs Stop ops (⟨none,.store T x y,ty,pos,aft,gd⟩::rest) tm (fun h=>St h₀ B₀ p h L):=by
  refine zew (K:=fun h'=>St h₀ B₀ p h' (L.set i (b,.cells cs2.toArray T' (0,0)))) hm rfl (fun h s=>?_) rfl n
  simp only [execOp,hx,hy]
  refine xbq ?_
  unfold Instr.storeAt
  refine xbq (xbz ?_)
  unfold storeVar
  refine xbq (xik hs ?_)
  rw [if_neg (by simpa using hv)]
  refine xmv s hL (by simpa using hlen) (fun u hu=>List.all_eq_true.1 h1 u hu) fun h' s'=>?_
  refine xbz ⟨rfl,?_⟩
  rw [Nat.add_zero,h2] at s'
  exact s'
theorem xcz {L':List (Nat × Obj)} (e:L=L') (n:RL P md f r df k cs Stop ops rest tm (fun h=>St h₀ B₀ p h L')):RL P md f r df k cs Stop ops rest tm (fun h=>St h₀ B₀ p h L):=by subst e;exact n
end
end
end Go.X
namespace Go.X
open Go.Conc

def adr (a:Option Addr):Addr:=a.getD ⟨0,0,none⟩

theorem xlx (a:Option Addr) (n c:Nat) (h:a=some (adr a)):Value.slice a n c= .slice (some (adr a)) n c:=by rw [← h]

def Per (p:PHeap) (h:Heap):Prop:=∀ b o,p b=some o→h[b]?=some o

structure Sl (p:PHeap) (a:Option Addr) (n:Nat) (w:Nat) (es:List (List Value)):Prop where
  len:es.length=n
  wid: ∀ e∈es,e.length=w
  ne:0<n→a=some (adr a)
  get: ∀ i e,es[i]?=some e→ ∀ j x,e[j]?=some x→pcell p ((((adr a).add (i*w))).add j)=some x

theorem Sl.mono {p p':PHeap} {a:Option Addr} {n w:Nat} {es:List (List Value)} (hp:PLe p p') (s:Sl p a n w es):Sl p' a n w es:=
  ⟨s.len,s.wid,s.ne,fun i e hi j x hj=>hp.cell (s.get i e hi j x hj)⟩

theorem Sl.nil (p:PHeap) (w:Nat) (a:Option Addr):Sl p a 0 w []:=⟨rfl,by simp,fun h=>absurd h (by omega),by simp⟩

theorem wbj (a:Addr) (m n:Nat):(a.add m).add n=a.add (m+n):=by
  unfold Addr.add
  by_cases hm:m=0
  · subst hm;simp
  · by_cases hn:n=0
    · subst hn;simp
    · rw [if_neg hm,if_neg hn,if_neg (by omega)]
      simp [Nat.add_assoc]

theorem Sl.cut {p:PHeap} {a:Option Addr} {n w:Nat} {es:List (List Value)} (s:Sl p a n w es) {lo hi:Nat} (h1:lo≤hi) (h2:hi≤n) {a':Option Addr} (ha:lo<hi→a'=some ((adr a).add (lo*w))):
    Sl p a' (hi-lo) w ((es.drop lo).take (hi-lo)):=by
  refine ⟨by rw [List.length_take,List.length_drop,s.len];omega,fun e he=>s.wid e (List.mem_of_mem_drop (List.mem_of_mem_take he)),fun h=>by rw [ha (by omega)];rfl,?_⟩
  intro i e hi' j x hj
  rw [List.getElem?_take] at hi'
  split at hi'
  · rename_i hlt
    rw [List.getElem?_drop] at hi'
    have:=s.get _ e hi' j x hj
    rw [ha (by omega)]
    show pcell p ((((adr a).add (lo*w)).add (i*w)).add j)=_
    rw [wbj (adr a),← Nat.add_mul]
    exact this
  · cases hi'

def Ints (p:PHeap) (a:Option Addr) (n:Nat) (xs:List Int):Prop:=Sl p a n 1 (xs.map fun x=>[.int .i64 x])

theorem Ints.len {p:PHeap} {a:Option Addr} {n:Nat} {xs:List Int} (s:Ints p a n xs):xs.length=n:=by have:=Sl.len s;simpa using this
theorem Ints.mono {p p':PHeap} {a:Option Addr} {n:Nat} {xs:List Int} (hp:PLe p p') (s:Ints p a n xs):Ints p' a n xs:=Sl.mono hp s
theorem Ints.ne {p:PHeap} {a:Option Addr} {n:Nat} {xs:List Int} (s:Ints p a n xs) (hk:0<n):a=some (adr a):=Sl.ne s hk
theorem Ints.get {p:PHeap} {a:Option Addr} {n k:Nat} {xs:List Int} (s:Ints p a n xs) (hk:k<n):pcell p ((adr a).add (k*1))=some (.int .i64 (xs.getD k 0)):=by
  have hl:=s.len
  have:=Sl.get s k [.int .i64 (xs.getD k 0)] (by rw [List.getElem?_map,List.getD_eq_getElem?_getD,List.getElem?_eq_getElem (by omega)];rfl) 0 _ rfl
  exact this

def OwnS (T:TypeId) (w:Nat) (v:Value) (es:List (List Value)) (X:List (Nat × Obj)):Prop:=
  (∀ e∈es,e.length=w)∧
  ((v= .slice none 0 0∧es=[]∧X=[])∨
   ∃ b cs cap rest,v= .slice (some ⟨b,0,none⟩) es.length cap∧X=[(b,.cells (List.toArray cs) T (0,0))]∧cs=es.flatten++rest∧cs.length=cap*w∧(w=1→cap≤9223372036854775807))

theorem OwnS.empty (T:TypeId) (w:Nat):OwnS T w (.slice none 0 0) [] []:=⟨by simp,.inl ⟨rfl,rfl,rfl⟩⟩

theorem xiv {es:List (List Value)} {w:Nat} (h: ∀ e∈es,e.length=w):es.flatten.length=es.length*w:=by
  induction es with
  | nil=>simp
  | cons e es ih=>simp only [List.flatten_cons,List.length_append,List.length_cons,ih fun x hx=>h x (by simp [hx]),h e (by simp),Nat.add_mul,Nat.one_mul];omega

theorem xlk {w:Nat}: ∀ {es:List (List Value)},(∀ e∈es,e.length=w)→ ∀ {i:Nat} {e:List Value},es[i]?=some e→ ∀ {j:Nat} {x:Value},e[j]?=some x→es.flatten[i*w+j]?=some x
  | [],_,i,e,hi,_,_,_=>by simp at hi
  | e₀::es,h,i,e,hi,j,x,hj=>by
    have h0:=h e₀ (by simp)
    cases i with
    | zero=>
      simp at hi;subst hi
      rw [List.flatten_cons,Nat.zero_mul,Nat.zero_add,List.getElem?_append_left (List.getElem?_eq_some_iff.1 hj).1]
      exact hj
    | succ i=>
      simp at hi
      have:=xlk (fun x hx=>h x (by simp [hx])) hi hj
      rw [List.flatten_cons,List.getElem?_append_right (by rw [h0,Nat.succ_mul];omega),h0,Nat.succ_mul]
      rw [show i*w+w+j-w=i*w+j from by omega]
      exact this

theorem OwnS.last {h₀ h:Heap} {B₀:List Nat} {p:PHeap} {L X:List (Nat × Obj)} {T:TypeId} {w:Nat} {v:Value} {es:List (List Value)} (o:OwnS T w v es X) (s:St h₀ B₀ p h (X++L)):
    ∃ p' a cap,PLe p p'∧St h₀ B₀ p' h L∧v= .slice a es.length cap∧Sl p' a es.length w es∧(∀ b,p b=none→b<h₀.size→b ∉ B₀→p' b=none):=by
  obtain ⟨hw,⟨rfl,rfl,rfl⟩ | ⟨b,cs,cap,rest,rfl,rfl,hcs,hlen,_⟩⟩:=o
  · exact ⟨p,none,0,.refl _,s,rfl,.nil _ _ _,fun b hb _ _=>hb⟩
  · have hb:=s.own (b,.cells cs.toArray T (0,0)) (by simp)
    obtain ⟨hle,s'⟩:=s.last
    refine ⟨_,some ⟨b,0,none⟩,cap,hle,s',rfl,⟨rfl,hw,fun _=>rfl,?_⟩,?_⟩
    · intro i e hi j x hj
      show pcell _ (((⟨b,0,none⟩:Addr).add (i*w)).add j)=_
      rw [xjv,xjv]
      unfold pcell
      simp only [xyz,Option.isSome_none,Bool.false_eq_true,if_false,List.getElem?_toArray,Nat.zero_add]
      rw [hcs,List.getElem?_append_left]
      · exact xlk hw hi hj
      · exact (List.getElem?_eq_some_iff.1 (xlk hw hi hj)).1
    · intro c hc hlt hn
      unfold padd
      rw [if_neg]
      · exact hc
      · intro e;subst e
        rcases hb.2.2 with x | x
        · exact absurd hlt (by omega)
        · exact hn x

section
variable {P:Program} {h₀ h:Heap} {B₀:List Nat} {p:PHeap} {A X C:List (Nat × Obj)}

theorem wnz {need cap by':Nat} (hc:cap<need) (hn:need*by'≤2 ^ 40) (hb:by'≤2 ^ 20):Builtin.nextslicecap need cap*by'≤2 ^ 48:=by
  have g: ∀ r c,c≤need→Builtin.growBy need r c≤2*need+192*1+192:=by
    intro r
    induction r with
    | zero=>intro c hc;simp only [Builtin.growBy];omega
    | succ r ih=>
      intro c hc
      simp only [Builtin.growBy]
      split
      · omega
      · rename_i hlt
        by_cases h2:c+(c+768) / 4≤need
        · exact ih _ h2
        · cases r with
          | zero=>simp only [Builtin.growBy];omega
          | succ r=>simp only [Builtin.growBy];rw [if_pos (by omega)];omega
  have h1:Builtin.nextslicecap need cap≤2*need+384:=by
    unfold Builtin.nextslicecap
    split
    · omega
    · split
      · omega
      · have:=g 4 cap (by omega);omega
  calc Builtin.nextslicecap need cap*by'≤(2*need+384)*by':=Nat.mul_le_mul_right _ h1
    _=2*(need*by')+384*by':=by rw [Nat.add_mul,Nat.mul_assoc]
    _≤2 ^ 48:=by omega

theorem yhz (z:Array Value) (n:Nat):(Builtin.zeroCells z n).toList.length=n*z.size:=by simp [Builtin.zeroCells]

theorem ybj: ∀ {vs:List Value} {a r:List Value},vs.length≤r.length→setl (a++r) a.length vs=a++(vs++r.drop vs.length)
  | [],a,r,_=>by simp [setl]
  | v::vs,a,r,hl=>by
    match r,hl with
    | x::r,hl=>
      simp only [setl]
      rw [List.set_append_right _ _ (Nat.le_refl _),Nat.sub_self,List.set_cons_zero]
      have:=ybj (vs:=vs) (a:=a++[v]) (r:=r) (by simpa using hl)
      simp only [List.length_append,List.length_singleton,List.append_assoc,List.singleton_append] at this
      rw [this];simp

theorem yjv {sT xT eT ty:TypeId} {D:TypeDesc} {w m by':Nat} {v x z:Value} {es news:List (List Value)} {K:Value→Heap→Prop} (hT:P.underlying sT=some (.slice eT)) (hs:sizeT P eT=some w) (hz:zeroT P eT=some z) (hzs:z.cells.size=w)
    (hby:bytesT P eT=some by') (hx:P.underlying xT=some D) (hD: ∀ k,D≠ .int k) (o:OwnS eT w v es X) (s:St h₀ B₀ p h (A++(X++C)))
    (hlen: ∀ K:Nat→Heap→Prop,K m h→wpS P (Builtin.lenOf x) h K) (hsrc: ∀ K:Array Value→Heap→Prop,K news.flatten.toArray h→wpS P (Builtin.firstCells w m x) h K)
    (hm:news.length=m) (hw: ∀ e∈news,e.length=w) (h1: ∀ u∈news.flatten,isOne u=true) (room:(es.length+m)*by'≤2 ^ 40) (hb2:0<by'∧by'≤2 ^ 20)
    (n: ∀ v' X' h',OwnS eT w v' (es++news) X'→St h₀ B₀ p h' (A++(X'++C))→K v' h'):wpS P (Builtin.append_ #[sT,xT] ty #[v,x]) h K:=by
  have hinfo: ∃ i,P.info? eT=some i∧i.bytes=by':=by
    unfold bytesT at hby
    cases hi:P.info? eT with
    | none=>rw [hi] at hby;cases hby
    | some i=>rw [hi] at hby;exact ⟨i,rfl,by simpa using hby⟩
  obtain ⟨i,hi,hib⟩:=hinfo
  have hnf:=xiv hw
  have hwe:=o.1
  have hfl:es.flatten.length=es.length*w:=xiv hwe
  have hwall: ∀ e∈es++news,e.length=w:=fun e he=>(List.mem_append.1 he).elim (o.1 e) (hw e)
  have hneed:es.length+m≤2 ^ 40:=Nat.le_trans (Nat.le_mul_of_pos_right _ hb2.1) room
  have base: ∃ base cap,v= .slice base es.length cap∧(∀ K:Array Value→Heap→Prop,K es.flatten.toArray h→wpS P (Builtin.firstCells w es.length v) h K)∧
      ((base=none∧es=[]∧X=[]∧cap=0)∨ ∃ b cs rest,base=some ⟨b,0,none⟩∧X=[(b,.cells (List.toArray cs) eT (0,0))]∧cs=es.flatten++rest∧cs.length=cap*w∧(w=1→cap≤9223372036854775807)):=by
    obtain ⟨_,⟨rfl,rfl,rfl⟩ | ⟨b,cs,cap,rest,rfl,rfl,hcs,hcl,hcc⟩⟩:=o
    · exact ⟨none,0,rfl,fun K hK=>xbz hK,.inl ⟨rfl,rfl,rfl,rfl⟩⟩
    · refine ⟨_,cap,rfl,fun K hK=>?_,.inr ⟨b,cs,rest,rfl,rfl,hcs,hcl,hcc⟩⟩
      have hL:(A++([(b,Obj.cells (List.toArray cs) eT (0,0))]++C))[A.length]?=some (b,.cells (List.toArray cs) eT (0,0)):=by
        rw [List.getElem?_append_right (Nat.le_refl _)];simp
      show wpS P (loadCells ⟨b,0,none⟩ (es.length*w)) h K
      refine xnz hfl (fun j u hj=>?_) hK
      rw [xjv]
      refine s.ocell hL ?_
      rw [List.getElem?_toArray,hcs,Nat.zero_add,List.getElem?_append_left (List.getElem?_eq_some_iff.1 hj).1]
      exact hj
  obtain ⟨base,cap,rfl,hold,hbase⟩:=base
  unfold Builtin.append_
  simp only [List.getElem?_toArray,List.getElem?_cons_zero,List.getElem?_cons_succ]
  refine xbq (xdv hT ?_)
  simp only
  refine xbq (xik hs ?_)
  refine xbq (xdv hx ?_)
  refine xbq (xjk (K:=fun zr h'=>zr=false∧h'=h) (xbz ⟨by cases D <;> first | rfl | exact absurd rfl (hD _),rfl⟩) fun zr h' ⟨ez,eh⟩=>?_)
  subst ez
  have eh:=eh.symm
  subst eh
  simp only [Bool.false_eq_true,if_false,Bool.not_false,if_true]
  refine xbq (hlen _ ?_)
  by_cases hc:es.length+m≤cap
  · rw [if_pos hc]
    refine xbq (hsrc _ ?_)
    rcases hbase with ⟨rfl,rfl,rfl,rfl⟩ | ⟨b,cs,rest,rfl,rfl,hcs,hcl,hcc⟩
    · have hm0:m=0:=by simp at hc;exact hc
      have:news=[]:=List.eq_nil_of_length_eq_zero (by omega)
      subst this
      subst hm0
      exact xbz (n _ [] h (OwnS.empty _ _) s)
    · have hL:(A++([(b,Obj.cells (List.toArray cs) eT (0,0))]++C))[A.length]?=some (b,.cells (List.toArray cs) eT (0,0)):=by
        rw [List.getElem?_append_right (Nat.le_refl _)];simp
      refine xbq ?_
      rw [xjv]
      have hmul:(es.length+m)*w≤cap*w:=Nat.mul_le_mul_right _ hc
      rw [Nat.add_mul] at hmul
      have hrl:rest.length=cap*w-es.length*w:=by
        have:cs.length=es.flatten.length+rest.length:=by rw [hcs];simp
        omega
      refine xmv (i:=A.length) s hL (by simp only [Nat.zero_add,Nat.add_zero,hnf,hm,hcl];omega) h1 fun h' s'=>?_
      refine xbz (n _ [(b,.cells (List.toArray (setl cs (0+es.length*w+0) news.flatten)) eT (0,0))] h' ⟨hwall,.inr ⟨b,_,cap,rest.drop news.flatten.length,?_,rfl,?_,?_,hcc⟩⟩ ?_)
      · simp [hm]
      · rw [Nat.zero_add,Nat.add_zero,hcs,← hfl,ybj (by rw [hnf,hm];omega)]
        simp
      · rw [Nat.zero_add,Nat.add_zero,hcs,← hfl,ybj (by rw [hnf,hm];omega)]
        simp only [List.length_append,List.length_drop,hfl,hnf,hm,hrl]
        omega
      · have e2:(A++([(b,Obj.cells (List.toArray cs) eT (0,0))]++C)).set A.length (b,.cells (List.toArray (setl cs (0+es.length*w+0) news.flatten)) eT (0,0))=A++([(b,.cells (List.toArray (setl cs (0+es.length*w+0) news.flatten)) eT (0,0))]++C):=by
          rw [List.set_append_right _ _ (Nat.le_refl _)];simp
        rw [e2] at s'
        exact s'
  · rw [if_neg hc]
    refine xbq (xow hi ?_)
    rw [if_neg (by
      intro hh
      have:(IntKind.i64.max:Int)=9223372036854775807:=by decide
      rw [this] at hh
      omega)]
    refine xbq (xow hi ?_)
    rw [hib,if_neg (by have:=wnz (by':=by') (by omega:cap<es.length+m) room hb2.2;omega)]
    refine xbq ?_
    show wpS P (choose _) h _
    simp only [choose,wpS,Question.forced,Bool.false_eq_true,if_false,Question.cut]
    intro t
    generalize hnc:es.length+m+t % (2 ^ 63-(es.length+m))=nc
    have hnc':es.length+m≤nc:=by omega
    have hncl:nc≤9223372036854775807:=by
      have:t % (2 ^ 63-(es.length+m))<2 ^ 63-(es.length+m):=Nat.mod_lt _ (by omega)
      omega
    refine xbq (xow hi ?_)
    refine xbq ?_
    have ask: ∀ (b:Nat) (K:Unit→Heap→Prop),K () h→wpS P (askRoom b) h K:=by
      intro b K hK
      unfold askRoom
      split
      · exact ⟨rfl,hK⟩
      · exact xbz hK
    refine ask _ _ ?_
    refine xbq (hold _ ?_)
    refine xbq (hsrc _ ?_)
    refine xbq (xlz hz ?_)
    refine xbq (xpq ?_)
    refine xbz (n _ [(h.size,.cells (List.toArray (es.flatten++news.flatten++(Builtin.zeroCells z.cells (nc-(es.length+m))).toList)) eT (0,0))] _ ⟨hwall,.inr ⟨h.size,_,nc,(Builtin.zeroCells z.cells (nc-(es.length+m))).toList,?_,rfl,by simp,?_,fun _=>hncl⟩⟩ ?_)
    · simp [hm]
    · simp only [List.length_append,xiv o.1,hnf,hm,yhz,hzs]
      rw [← Nat.add_mul,← Nat.add_mul];congr 1;omega
    · have s1:=s.push (.cells (List.toArray (es.flatten++news.flatten++(Builtin.zeroCells z.cells (nc-(es.length+m))).toList)) eT (0,0))
      have s2:=s1.sub (L':=(h.size,.cells (List.toArray (es.flatten++news.flatten++(Builtin.zeroCells z.cells (nc-(es.length+m))).toList)) eT (0,0))::(A++C)) (by
        refine List.Sublist.cons_cons _ ?_
        exact (List.Sublist.refl A).append (List.sublist_append_right X C))
      have s3:=s2.perm (L':=A++([(h.size,.cells (List.toArray (es.flatten++news.flatten++(Builtin.zeroCells z.cells (nc-(es.length+m))).toList)) eT (0,0))]++C)) (by
        simpa using (List.perm_middle (l₁:=A) (l₂:=C)).symm)
      have e1:(List.toArray es.flatten++List.toArray news.flatten++Builtin.zeroCells z.cells (nc-(es.length+m)))=List.toArray (es.flatten++news.flatten++(Builtin.zeroCells z.cells (nc-(es.length+m))).toList):=by
        apply Array.ext';simp
      rw [e1];exact s3

structure Src (P:Program) (h:Heap) (w m:Nat) (x:Value) (news:List (List Value)):Prop where
  lenOf: ∀ K:Nat→Heap→Prop,K m h→wpS P (Builtin.lenOf x) h K
  cells: ∀ K:Array Value→Heap→Prop,K news.flatten.toArray h→wpS P (Builtin.firstCells w m x) h K
  len:news.length=m
  wid: ∀ e∈news,e.length=w

theorem znw {sT xT eT eX ty:TypeId} {w m by':Nat} {v x z:Value} {es news:List (List Value)} {K:Value→Heap→Prop} (hT:P.underlying sT=some (.slice eT)) (hs:sizeT P eT=some w) (hz:zeroT P eT=some z) (hzs:z.cells.size=w)
    (hby:bytesT P eT=some by') (hx:P.underlying xT=some (.slice eX)) (o:OwnS eT w v es X) (s:St h₀ B₀ p h (A++(X++C)))
    (hlen: ∀ K:Nat→Heap→Prop,K m h→wpS P (Builtin.lenOf x) h K) (hsrc: ∀ K:Array Value→Heap→Prop,K news.flatten.toArray h→wpS P (Builtin.firstCells w m x) h K)
    (hm:news.length=m) (hw: ∀ e∈news,e.length=w) (h1: ∀ u∈news.flatten,isOne u=true) (room:(es.length+m)*by'≤2 ^ 40) (hb2:0<by'∧by'≤2 ^ 20)
    (n: ∀ v' X' h',OwnS eT w v' (es++news) X'→St h₀ B₀ p h' (A++(X'++C))→K v' h'):wpS P (Builtin.append_ #[sT,xT] ty #[v,x]) h K:=
  yjv hT hs hz hzs hby hx (fun _ e=>by cases e) o s hlen hsrc hm hw h1 room hb2 n

theorem yqx {w:Nat} (hw0:0<w): ∀ {es:List (List Value)},(∀ e∈es,e.length=w)→ ∀ {j:Nat} {x:Value},es.flatten[j]?=some x→ ∃ e,es[j / w]?=some e∧e[j % w]?=some x
  | [],_,j,x,hj=>by simp at hj
  | e::es,h,j,x,hj=>by
    have h0:=h e (by simp)
    rw [List.flatten_cons] at hj
    by_cases hlt:j<w
    · rw [List.getElem?_append_left (by omega)] at hj
      exact ⟨e,by rw [Nat.div_eq_of_lt hlt];rfl,by rw [Nat.mod_eq_of_lt hlt];exact hj⟩
    · rw [List.getElem?_append_right (by omega),h0] at hj
      obtain ⟨e',h1,h2⟩:=yqx hw0 (fun x hx=>h x (by simp [hx])) hj
      refine ⟨e',?_,?_⟩
      · rw [show j / w=(j-w) / w+1 from by
          rw [← Nat.add_div_right _ hw0];congr 1;omega]
        simpa using h1
      · rw [show j % w=(j-w) % w from by
          rw [← Nat.add_mod_right (j-w)];congr 1;omega]
        exact h2

theorem zdw {a:Option Addr} {m cap w:Nat} {news:List (List Value)} (s:St h₀ B₀ p h C) (hw0:0<w) (d:Sl p a m w news):Src P h w m (.slice a m cap) news:=by
  refine ⟨fun K hK=>xbz hK,fun K hK=>?_,d.len,d.wid⟩
  by_cases h0:m=0
  · subst h0
    have:news=[]:=List.eq_nil_of_length_eq_zero d.len
    subst this
    cases a with
    | none=>exact xbz hK
    | some a=>
      show wpS P (loadCells a (0*w)) h K
      exact xnz (vs:=[]) (by simp) (by simp) hK
  · rw [d.ne (by omega)]
    show wpS P (loadCells (adr a) (m*w)) h K
    refine xnz (by rw [xiv d.wid,d.len]) (fun j u hj=>?_) hK
    obtain ⟨e,h1,h2⟩:=yqx hw0 d.wid hj
    have:=s.cell (d.get _ e h1 _ u h2)
    rw [wbj] at this
    rwa [show j / w*w+j % w=j from by rw [Nat.mul_comm];exact Nat.div_add_mod j w] at this

theorem wkz {w:Nat}:Src P h w 0 (.slice none 0 0) []:=⟨fun K hK=>xbz hK,fun K hK=>xbz hK,rfl,by simp⟩

section
variable {md:Md} {f:FuncId} {r:Rd} {df:List Deferred} {k:List Item} {cs:List Frame} {Stop:Goroutine→Heap→Prop} {ops rest:List Oper} {tm:List Value}
  {ty:TypeId} {pos:String} {aft:Array Edge} {gd:Option (Nat × Bool)}

def bcs (l:List UInt8):List (List Value):=l.map fun x=>[.int .u8 ((x.toNat:Nat):Int)]
theorem yaq (l:List UInt8):(bcs l).length=l.length:=by simp [bcs]
theorem yqw (l m:List UInt8):bcs (l++m)=bcs l++bcs m:=by simp [bcs]
theorem yzx {dd:Nat} {sT xT eT:TypeId} {by':Nat} {xo yo:Operand} {v z:Value} {t:ByteArray} {es:List (List Value)} (A:List (Nat × Obj)) (hm:Met ops tm ⟨some dd,.call ⟨.builtin .append,#[xo,yo],#[sT,xT]⟩,ty,pos,aft,gd⟩ true)
    (hT:P.underlying sT=some (.slice eT)) (hs:sizeT P eT=some 1) (hz:zeroT P eT=some z) (hzs:z.cells.size=1) (hby:bytesT P eT=some by') (hx:P.underlying xT=some .string)
    (ev1:evl tm xo=v) (ev2:evl tm yo= .string t) (o:OwnS eT 1 v es X)
    (room:(es.length+t.size)*by'≤2 ^ 40) (hb2:0<by'∧by'≤2 ^ 20)
    (n: ∀ v' X',OwnS eT 1 v' (es++bcs t.data.toList) X'→RL P md f r df k cs Stop ops rest (tm.set dd v') (fun h=>St h₀ B₀ p h (A++(X'++C)))):
    RL P md f r df k cs Stop ops (⟨some dd,.call ⟨.builtin .append,#[xo,yo],#[sT,xT]⟩,ty,pos,aft,gd⟩::rest) tm (fun h=>St h₀ B₀ p h (A++(X++C))):=by
  refine xtw (K:=fun v' h'=>∃ X',OwnS eT 1 v' (es++bcs t.data.toList) X'∧St h₀ B₀ p h' (A++(X'++C))) hm rfl (fun h s=>?_) fun v'=>xgx fun X'=>xez fun o'=>n v' X' o'
  unfold Ex
  simp only [execOp,resolve]
  refine xbq (xbz ?_)
  simp only [invoke,builtin]
  refine xbq ?_
  have e:(#[xo,yo]:Array Operand).map (evl tm)=#[v,.string t]:=by simp [ev1,ev2]
  rw [e]
  have hl:t.data.toList.length=t.size:=by rw [Array.length_toList];rfl
  refine yjv (m:=t.size) (news:=bcs t.data.toList) hT hs hz hzs hby hx (fun _ e=>by cases e) o s (fun K k=>xbz k) (fun K k=>?_) ((yaq _).trans hl) (fun e he=>?_) (fun u hu=>?_) room hb2 fun v' X' h' o' s'=>?_
  · have e2:((t.extract 0 t.size).data.map fun b=>Value.int .u8 ((b.toNat:Nat):Int))=(bcs t.data.toList).flatten.toArray:=by
      have e3: ∀ l:List UInt8,(l.map fun b=>[Value.int .u8 ((b.toNat:Nat):Int)]).flatten=l.map fun b=>Value.int .u8 ((b.toNat:Nat):Int):=fun l=>by induction l with
        | nil=>rfl
        | cons a l ih=>simp [ih]
      rw [bcs,e3]
      have e4:t.extract 0 t.size=t:=by simp
      rw [e4]
      apply Array.ext'
      simp
    show wpS P (pure _) h K
    rw [e2]
    exact xbz k
  · obtain ⟨b,_,rfl⟩:=List.mem_map.1 he
    rfl
  · obtain ⟨e,he,hu⟩:=List.mem_flatten.1 hu
    obtain ⟨b,_,rfl⟩:=List.mem_map.1 he
    rw [List.mem_singleton.1 hu]
    rfl
  · exact xbz ⟨v',rfl,X',o',s'⟩

end
end
end Go.X
namespace Go.X
open Go.Conc Go.RowKit Go.ChangeShapes Go.WideShapes Go.ChangeAt

def vwP (W:World):PHeap:=fun b=>(nilV W.heap)[b]?
theorem zkq {f:Nat→Option Value}: ∀ {l:List Nat} {r:List Value},l.mapM f=some r→r.length=l.length∧ ∀ (j:Nat) (x:Value),r[j]?=some x→ ∃ i,l[j]?=some i∧f i=some x
  | [],r,h=>by simp at h;subst h;simp
  | i::l,r,h=>by
    simp only [List.mapM_cons,Option.bind_eq_bind,Option.bind_eq_some_iff] at h
    obtain ⟨y,hy,ys,hys,e⟩:=h
    obtain rfl:y::ys=r:=by simpa using e
    obtain ⟨h1,h2⟩:=zkq hys
    refine ⟨by simp [h1],fun j x hx=>?_⟩
    cases j with
    | zero=>simp at hx;subst hx;exact ⟨i,rfl,hy⟩
    | succ j=>exact h2 j x (by simpa using hx)

theorem zcv {W:World} {a:Addr} {n:Nat} {cs:List Value} (h:W.cells? 0 a n=some cs):cs.length=n∧ ∀ (j:Nat) (x:Value),cs[j]?=some x→W.cell? (a.add j)=some x:=by
  unfold World.cells? at h
  rw [if_pos (Nat.zero_le _)] at h
  obtain ⟨h1,h2⟩:=zkq h
  refine ⟨by simpa using h1,fun j x hx=>?_⟩
  obtain ⟨i,hi,hf⟩:=h2 j x hx
  obtain ⟨_,rfl⟩:j<n∧j=i:=by simpa [List.getElem?_range'] using List.getElem?_eq_some_iff.1 hi
  exact hf

theorem wqv (p:PHeap) (w:Nat):Sl p none 0 w []:=⟨rfl,by simp,fun h=>absurd h (by omega),fun i e he=>by simp at he⟩

section
variable {H:Type} {enc:TypeId × Value→H} {P:Program} {W:World}
theorem ycz {t:TypeId} {m:Nat} {cs:List Value} {y:DataW H × List MemPlace} (ht:P.underlying t=some (.int .i64)) (h:DataW.trod enc P W 0 (fun _=>true) true m t cs=some y): ∃ n:Int,cs=[.int .i64 n]:=by
  obtain ⟨n,e,_,_⟩:=DataW.trod_int ht h
  exact ⟨n,e⟩
theorem ycj (hl:laidOutB P=true) {W':World} (hB:Below W.heap.size W W'): ∀ {ts:List TypeId} {vs:List Value} {ds:List (DataW H)} {ps:List MemPlace},(∀ t∈ts,P.readableRec t=true∧t<P.types.size)→(∀ x∈ps,x.block<W.heap.size)→
    DataW.TrodAll enc P W 0 (fun _=>true) true ts vs ds ps→DataW.TrodAll enc P W' 0 (fun b=>decide (b<W.heap.size)) true ts vs ds ps
  | [],[],[],_,_,_,h=>h
  | _::_,[],_,_,_,_,h=>by cases h
  | [],_::_,_,_,_,_,h=>by cases h
  | [],[],_::_,_,_,_,h=>by cases h
  | _::_,_::_,[],_,_,_,h=>by cases h
  | t::ts,v::vs,d::ds,ps,hr,hlt,⟨p,q,h1,h2,e⟩=>by
    subst e
    exact ⟨p,q,Below.trod hl (hr t (by simp)).1 (hr t (by simp)).2 h1 hB (fun x hx=>hlt x (by simp [hx])),ycj hl hB (fun t' ht'=>hr t' (by simp [ht'])) (fun x hx=>hlt x (by simp [hx])) h2,rfl⟩

theorem wfk {fn:Func} {s:ChangeSpec} {W':World} {args:Array Value} {ds gs:List (DataW H)} {before:List MemPlace} {fresh handsOn:Bool} {tb:TypeId} (hl:laidOutB P=true) (hvars:s.vars=[])
    (hts: ∀ t∈fn.params.toList,P.readableRec t=true∧t<P.types.size) (hrt:fn.resultTypes=#[tb]) (hub:P.underlying tb=some .bool) (hW:DataW.Whole enc P fn.params.toList s.vars false W args.toList ds gs before)
    (hs:s.fn H (ds++gs)={ results:=[.lit (.bool true)],args:=ds }) (hB:Below W.heap.size W W'):s.post enc P fn false fresh handsOn false W args (.bool true) W':=by
  have hW':=hW
  obtain ⟨p,q,hA,hV,rfl,_,_⟩:=hW
  rw [hvars] at hV
  obtain rfl:q=[]:=by
    cases gs with
    | nil=>exact hV
    | cons _ _=>exact hV.elim
  refine ⟨ds,gs,p++[],[],p,[],hW',?_,?_,?_,hB.frame _,fun h=>by cases h⟩
  · rw [hs,hrt]
    exact ⟨[],[],⟨1,by simp [DataW.trod,hub,Value.cells]⟩,rfl,rfl⟩
  · rw [hs]
    exact ycj hl hB hts (fun x hx=>hW'.lt x (by simp [hx])) hA
  · rw [hs,hvars];rfl
end
end Go.X
namespace Go.X
open Go.Conc

def preds (o:Oper):List Nat:=(o.after.toList.filter (Region.binds .any)).map (·.on)

def looks (ops:List Oper) (o:Oper):List Tmp:=
  o.op.operands.toList.filterMap (fun | .tmp t=>some t | _=>none)++(match o.guard with | some (j,_)=>((ops[j]?).bind (·.dst)).toList | none=>[])

def noSel:Op→Bool
  | .select .. => false
  | _=>true

def behind (cl:List (List Nat)) (o:Oper) (j:Nat):Bool:=(preds o).contains j || (preds o).any fun k=>(cl.getD k []).contains j

def stable (ops:List Oper) (m:Nat) (cl:List (List Nat)):Bool:=
  (ops.zipIdx.all fun (o,i)=>
    (preds o).all (· < i) && (cl.getD i []).all (fun j=>decide (j<i) && behind cl o j) &&
    (if m≤i then (List.range i).all fun j=>behind cl o j else
      noSel o.op && ops.zipIdx.all fun (o',j)=>!decide (j<m) || (match o'.dst with
        | some d=>(decide (i=j) || decide (o.dst≠some d)) && (!(looks ops o).contains d || (preds o).contains j)
        | none=>true)))

theorem zaz {o:Oper} {j:Nat}:j∈preds o↔ ∃ e∈o.after,Region.binds .any e=true∧e.on=j:=by
  unfold preds
  simp only [List.mem_map,List.mem_filter,Array.mem_toList_iff]
  constructor
  · rintro ⟨e,⟨h1,h2⟩,h3⟩;exact ⟨e,h1,h2,h3⟩
  · rintro ⟨e,h1,h2,h3⟩;exact ⟨e,⟨h1,h2⟩,h3⟩

section
variable {ops:List Oper} {m:Nat} {cl:List (List Nat)}

theorem xiz (hs:stable ops m cl=true) {i:Nat} {o:Oper} (ho:ops[i]?=some o):
    (∀ j∈preds o,j<i)∧(m≤i→ ∀ j<i,behind cl o j=true)∧
    (i<m→noSel o.op=true∧ ∀ (j:Nat) (o':Oper) (d:Nat),j<m→ops[j]?=some o'→o'.dst=some d→(i=j∨o.dst≠some d)∧(d∈looks ops o→j∈preds o)):=by
  unfold stable at hs
  rw [List.all_eq_true] at hs
  have hmem:(o,i)∈ops.zipIdx:=by rw [List.mem_zipIdx_iff_getElem?];exact ho
  have h:=hs (o,i) hmem
  simp only [Bool.and_eq_true,List.all_eq_true,decide_eq_true_eq] at h
  refine ⟨h.1.1,fun hm=>?_,fun hm=>?_⟩
  · rw [if_pos hm] at h
    intro j hj
    exact List.all_eq_true.1 h.2 j (List.mem_range.2 hj)
  · rw [if_neg (by omega)] at h
    have h2:=h.2
    rw [Bool.and_eq_true] at h2
    refine ⟨h2.1,fun j o' d hj ho' hd=>?_⟩
    have hmem':(o',j)∈ops.zipIdx:=by rw [List.mem_zipIdx_iff_getElem?];exact ho'
    have h3:=List.all_eq_true.1 h2.2 (o',j) hmem'
    simp only [hd,hj,decide_true,Bool.not_true,Bool.false_or,Bool.and_eq_true,Bool.or_eq_true,decide_eq_true_eq,Bool.not_eq_true',List.contains_eq_mem,decide_eq_false_iff_not] at h3
    refine ⟨h3.1,fun hl=>?_⟩
    rcases h3.2 with x | x
    · exact absurd hl (by simpa using x)
    · simpa using x

theorem yxw (hs:stable ops m cl=true) {i j:Nat} {o:Oper} (ho:ops[i]?=some o) (hj:j∈cl.getD i []):j<i∧behind cl o j=true:=by
  unfold stable at hs
  rw [List.all_eq_true] at hs
  have hmem:(o,i)∈ops.zipIdx:=by rw [List.mem_zipIdx_iff_getElem?];exact ho
  have h:=hs (o,i) hmem
  simp only [Bool.and_eq_true,List.all_eq_true,decide_eq_true_eq] at h
  exact h.1.2 j hj

theorem yfv {o:Oper} {j:Nat}:behind cl o j=true↔j∈preds o∨ ∃ k∈preds o,j∈cl.getD k []:=by
  unfold behind
  simp only [Bool.or_eq_true,List.any_eq_true,List.contains_iff_mem]

theorem xqj (hs:stable ops m cl=true) {l:Array Bool} (hsz:l.size=ops.length) (hl: ∀ (j:Nat) (o:Oper),l.getD j false=true→ops[j]?=some o→ ∀ x∈preds o,l.getD x false=true):
    ∀ (n:Nat) (o:Oper) (j:Nat),(∀ x∈preds o,x<n∧l.getD x false=true)→behind cl o j=true→l.getD j false=true:=by
  intro n
  induction n with
  | zero=>
    intro o j hp hb
    rcases yfv.1 hb with h | ⟨k,h,_⟩
    · exact (hp j h).2
    · exact absurd (hp k h).1 (by omega)
  | succ n ih=>
    intro o j hp hb
    rcases yfv.1 hb with h | ⟨k,h,h2⟩
    · exact (hp j h).2
    · obtain ⟨hk,hkl⟩:=hp k h
      have hk2:k<ops.length:=by
        rcases Nat.lt_or_ge k l.size with h | h
        · omega
        · simp [Array.getD,Nat.not_lt.2 h] at hkl
      have ho:=List.getElem?_eq_getElem hk2
      exact ih ops[k] j (fun x hx=>⟨Nat.lt_of_lt_of_le ((xiz hs ho).1 x hx) (by omega),hl k _ hkl ho x hx⟩) (yxw hs ho h2).2

inductive Ord (ops:List Oper) (m:Nat):Array Bool→List Nat→Prop
  | nil {l:Array Bool} (h: ∀ j<m,l.getD j false=true):Ord ops m l []
  | cons {l:Array Bool} {i:Nat} {s:List Nat} {o:Oper} (hi:i<m) (ho:ops[i]?=some o) (hn:l.getD i true=false) (hp: ∀ j∈preds o,l.getD j false=true) (hs:Ord ops m (l.setIfInBounds i true) s):Ord ops m l (i::s)

theorem ybw {l:Array Bool} {i:Nat} (hi:i<l.size):l.getD i true=l.getD i false:=by simp [Array.getD,hi]

theorem ycw {l:Array Bool} {i:Nat}:i∈Region.ready .any ops.toArray l↔l.getD i true=false∧ ∃ o,ops[i]?=some o∧ ∀ j∈preds o,l.getD j false=true:=by
  rw [mem_ready]
  constructor
  · rintro ⟨h1,o,h2,h3⟩
    refine ⟨h1,o,by simpa using h2,fun j hj=>?_⟩
    obtain ⟨e,he,hb,rfl⟩:=zaz.1 hj
    exact h3 e he hb
  · rintro ⟨h1,o,h2,h3⟩
    exact ⟨h1,o,by simpa using h2,fun e he hb=>h3 _ (zaz.2 ⟨e,he,hb,rfl⟩)⟩

theorem zxx (fuel t:Nat) (l:Array Bool):Region.linearise.go .any ops.toArray (fuel+1) t l []=(match (Region.ready .any ops.toArray l)[t % (Region.ready .any ops.toArray l).length]? with
      | some i=>i::Region.linearise.go .any ops.toArray fuel (t / (Region.ready .any ops.toArray l).length) (l.setIfInBounds i true) []
      | none=>[]):=by
  simp only [Region.linearise.go]
  change (match (Region.ready .any ops.toArray l)[t % (Region.ready .any ops.toArray l).length]? with
      | some i=>Region.linearise.go .any ops.toArray fuel (t / (Region.ready .any ops.toArray l).length) (l.setIfInBounds i true) [i]
      | none=>[].reverse)=_
  split
  · rw [linearise_go_acc];simp
  · rfl

def openN (l:Array Bool) (n:Nat):Nat:=(List.range n).countP fun i=>!l.getD i false

theorem wev {l:Array Bool} {n i:Nat} (hi:i<n) (hl:l.size=n) (h:l.getD i true=false):openN (l.setIfInBounds i true) n+1≤openN l n:=by
  unfold openN
  have key: ∀ k,k≤n→(List.range k).countP (fun j=>!(l.setIfInBounds i true).getD j false)+(if i<k then 1 else 0)≤(List.range k).countP (fun j=>!l.getD j false):=by
    intro k
    induction k with
    | zero=>intro _;simp
    | succ k ih=>
      intro hk
      have ih:=ih (by omega)
      rw [List.range_succ,List.countP_append,List.countP_append]
      simp only [List.countP_singleton]
      by_cases e:i=k
      · subst e
        have h1:(l.setIfInBounds i true).getD i false=true:=by simp [Array.getD,hl,hi]
        have h2:l.getD i false=false:=by rw [← ybw (by omega)];exact h
        rw [h1,h2]
        simp at ih ⊢
        omega
      · rw [getD_set_ne false e]
        have h3:(if i<k+1 then 1 else 0)=(if i<k then 1 else 0):=by
          by_cases h:i<k
          · rw [if_pos h,if_pos (by omega)]
          · rw [if_neg h,if_neg (by omega)]
        rw [h3];omega
  have:=key n (Nat.le_refl _)
  rw [if_pos hi] at this
  exact this

theorem wew {l:Array Bool} {n i:Nat} (hi:i<n) (h:l.getD i false=false):0<openN l n:=by
  unfold openN
  rw [List.countP_pos_iff]
  exact ⟨i,by simpa using hi,by simp [h]⟩

theorem zoj (hs:stable ops m cl=true): ∀ (fuel t c:Nat) (l:Array Bool),m≤c→c≤ops.length→l.size=ops.length→(∀ j,l.getD j false=decide (j<c))→ops.length-c≤fuel→
    Region.linearise.go .any ops.toArray fuel t l []=List.range' c (ops.length-c):=by
  intro fuel
  induction fuel with
  | zero=>intro t c l _ _ _ _ hf;rw [show ops.length-c=0 from by omega];rfl
  | succ fuel ih=>
    intro t c l hm hc hl hd hf
    rw [zxx]
    by_cases he:c=ops.length
    · have:Region.ready .any ops.toArray l=[]:=by
        rw [List.eq_nil_iff_forall_not_mem]
        intro i hi
        obtain ⟨h1,o,ho,_⟩:=ycw.1 hi
        have hlt:=(List.getElem?_eq_some_iff.1 ho).1
        rw [ybw (by omega),hd] at h1
        simp at h1;omega
      rw [this,show ops.length-c=0 from by omega];rfl
    · have hlt:c<ops.length:=by omega
      have hr:Region.ready .any ops.toArray l=[c]:=by
        have hmem: ∀ i,i∈Region.ready .any ops.toArray l↔i=c:=by
          intro i
          rw [ycw]
          constructor
          · rintro ⟨h1,o,ho,hp⟩
            have hil:=(List.getElem?_eq_some_iff.1 ho).1
            rw [ybw (by omega),hd] at h1
            simp at h1
            rcases Nat.lt_or_ge c i with hci | hci
            · have:=xqj hs hl (fun j o' hj ho' x hx=>by
                rw [hd] at hj ⊢;simp at hj ⊢;exact Nat.lt_trans ((xiz hs ho').1 x hx) hj) i o c (fun x hx=>⟨(xiz hs ho).1 x hx,hp x hx⟩) ((xiz hs ho).2.1 (by omega) c hci)
              rw [hd] at this;simp at this
            · omega
          · rintro rfl
            refine ⟨by rw [ybw (by omega),hd];simp,_,List.getElem?_eq_getElem hlt,fun j hj=>?_⟩
            rw [hd];simpa using (xiz hs (List.getElem?_eq_getElem hlt)).1 j hj
        have hnd:(Region.ready .any ops.toArray l).Nodup:=by unfold Region.ready;exact List.nodup_range.sublist List.filter_sublist
        match hre:Region.ready .any ops.toArray l,hmem,hnd with
        | [],hmem,_=>exact absurd ((hmem c).2 rfl) (by simp)
        | [x],hmem,_=>rw [(hmem x).1 (by simp)]
        | x::y::z,hmem,hnd=>
          have h1:=(hmem x).1 (by simp)
          have h2:=(hmem y).1 (by simp)
          subst h1;subst h2
          simp at hnd
      rw [hr]
      simp only [List.length_singleton,Nat.mod_one,List.getElem?_cons_zero]
      rw [ih _ (c+1) _ (by omega) (by omega) (by simpa using hl) (fun j=>?_) (by omega)]
      · rw [show ops.length-c=ops.length-(c+1)+1 from by omega,List.range'_succ]
      · by_cases e:c=j
        · subst e;simp [Array.getD,hl,hlt]
        · rw [getD_set_ne false e,hd]
          by_cases h:j<c
          · rw [decide_eq_true h,decide_eq_true (by omega)]
          · rw [decide_eq_false h,decide_eq_false (by omega)]

theorem zfk (hs:stable ops m cl=true) (hm:m≤ops.length): ∀ (fuel t:Nat) (l:Array Bool),l.size=ops.length→(∀ j,m≤j→l.getD j false=false)→(∀ (j:Nat) (o:Oper),l.getD j false=true→ops[j]?=some o→ ∀ x∈preds o,l.getD x false=true)→openN l ops.length≤fuel→
    ∃ s,Region.linearise.go .any ops.toArray fuel t l []=s++List.range' m (ops.length-m)∧Ord ops m l s:=by
  intro fuel
  induction fuel with
  | zero=>
    intro t l hl htail _ hf
    have hall: ∀ j,j<ops.length→l.getD j false=true:=fun j hj=>by
      cases h:l.getD j false
      · have:=wew hj h;omega
      · rfl
    have hme:m=ops.length:=by
      rcases Nat.lt_or_ge m ops.length with h | h
      · have:=hall m h;rw [htail m (Nat.le_refl _)] at this;cases this
      · omega
    exact ⟨[],by rw [hme,Nat.sub_self];rfl,.nil fun j hj=>hall j (by omega)⟩
  | succ fuel ih=>
    intro t l hl htail hcl hf
    by_cases hall: ∀ j<m,l.getD j false=true
    · refine ⟨[],?_,.nil hall⟩
      rw [List.nil_append]
      refine zoj hs _ _ m l (Nat.le_refl _) hm hl (fun j=>?_) ?_
      · by_cases h:j<m
        · rw [hall j h,decide_eq_true h]
        · rw [htail j (by omega),decide_eq_false h]
      · have:ops.length-m≤openN l ops.length:=by
          unfold openN
          have e:List.range ops.length=List.range m++(List.range (ops.length-m)).map (m+ ·):=by
            rw [← List.range_add,show m+(ops.length-m)=ops.length from by omega]
          rw [e,List.countP_append]
          have:((List.range (ops.length-m)).map (m+ ·)).countP (fun i=>!l.getD i false)=ops.length-m:=by
            rw [List.countP_eq_length.2]
            · simp
            · intro x hx
              obtain ⟨y,_,rfl⟩:=List.mem_map.1 hx
              rw [htail _ (by omega)];rfl
          omega
        omega
    ·
      have hex: ∃ i,i<m∧l.getD i false=false∧ ∀ j<i,l.getD j false=true:=by
        have: ∃ i,i<m∧l.getD i false=false:=by
          refine Classical.byContradiction fun hn=>hall fun j hj=>?_
          cases h:l.getD j false
          · exact absurd ⟨j,hj,h⟩ hn
          · rfl
        obtain ⟨i,hi,hf⟩:=this
        induction i using Nat.strongRecOn with
        | _ i ih=>
          by_cases hlow: ∀ j<i,l.getD j false=true
          · exact ⟨i,hi,hf,hlow⟩
          · have: ∃ j,j<i∧l.getD j false=false:=by
              refine Classical.byContradiction fun hn=>hlow fun j hj=>?_
              cases h:l.getD j false
              · exact absurd ⟨j,hj,h⟩ hn
              · rfl
            obtain ⟨j,hj,hjf⟩:=this
            exact ih j hj (by omega) hjf
      obtain ⟨i₀,hi₀,hf₀,hlow₀⟩:=hex
      have hr₀:i₀∈Region.ready .any ops.toArray l:=by
        rw [ycw]
        refine ⟨by rw [ybw (by omega)];exact hf₀,_,List.getElem?_eq_getElem (by omega),fun j hj=>hlow₀ j ((xiz hs (List.getElem?_eq_getElem (by omega))).1 j hj)⟩
      rw [zxx]
      cases hre:(Region.ready .any ops.toArray l)[t % (Region.ready .any ops.toArray l).length]? with
      | none=>
        have hlen:0<(Region.ready .any ops.toArray l).length:=List.length_pos_of_mem hr₀
        have:=Nat.mod_lt t hlen
        rw [List.getElem?_eq_none_iff] at hre
        omega
      | some i=>
        obtain ⟨h1,o,ho,hp⟩:=ycw.1 (List.mem_of_getElem? hre)
        have hil:=(List.getElem?_eq_some_iff.1 ho).1
        have him:i<m:=by
          rcases Nat.lt_or_ge i m with h | h
          · exact h
          · have:=xqj hs hl hcl i o i₀ (fun x hx=>⟨(xiz hs ho).1 x hx,hp x hx⟩) ((xiz hs ho).2.1 h i₀ (by omega))
            rw [hf₀] at this;cases this
        obtain ⟨s,e,hord⟩:=ih (t / (Region.ready .any ops.toArray l).length) (l.setIfInBounds i true) (by simpa using hl) (fun j hj=>by rw [getD_set_ne false (by omega)];exact htail j hj) (fun j o' hj ho' x hx=>by
          by_cases e':i=j
          · subst e'
            rw [ho] at ho';cases ho'
            have hx':=hp x hx
            by_cases e2:i=x
            · subst e2;simp [Array.getD,hl,hil]
            · rw [getD_set_ne false e2];exact hx'
          · rw [getD_set_ne false e'] at hj
            by_cases e2:i=x
            · subst e2;simp [Array.getD,hl,hil]
            · rw [getD_set_ne false e2];exact hcl j o' hj ho' x hx) (by
          have:=wev hil hl h1;omega)
        refine ⟨i::s,?_,.cons him ho h1 hp hord⟩
        simp only
        rw [e];rfl

theorem ylj (hs:stable ops m cl=true) (hm:m≤ops.length) (t:Nat):
    ∃ s,Region.linearise .any ops.toArray t=s++List.range' m (ops.length-m)∧Ord ops m (Array.replicate ops.length false) s:=by
  unfold Region.linearise
  have:=zfk hs hm ops.length t (Array.replicate ops.length false) (by simp) (fun j _=>by simp [Array.getD]) (fun j _ hj=>by simp [Array.getD] at hj) (by
    unfold openN;have:=List.countP_le_length (p:=fun i=>!(Array.replicate ops.length false).getD i false) (l:=List.range ops.length);simpa using this)
  simpa using this
end

def OpTo (P:Program) (md:Md) (tm:List Value) (o:Oper) (Base:Heap→Prop) (v:Value):Prop:=
  ∀ h,Base h→Ex P tm o h (fun v' h'=>v'=v∧Base h')∨
    (∃ g args,(wpS P (execOp (evl tm) o) h fun n h'=>n= .enter g args∧h'=h)∧CallsX P md g args h (fun v' h'=>v'=v∧Base h'))∨
    ∀ (c:Frame) (cs:List Frame) (Stop:Goroutine→Heap→Prop),(∀ v' h',v'=v∧Base h'→Reach P md (G (c.finish v') cs) h' Stop)→wpS P (execOp (evl tm) o) h (Upon P md c cs Stop)

def SW (P:Program) (md:Md) (ops:List Oper) (Base:Heap→Prop):List Oper→List Value→List Value→Prop
  | [],tm,tm'=>tm=tm'
  | o::rest,tm,tm'=>noDefer o.op=true∧((Met ops tm o true∧ ∃ v,OpTo P md tm o Base v∧SW P md ops Base rest (putl tm o.dst v) tm')∨(Met ops tm o false∧SW P md ops Base rest (putl tm o.dst undef) tm'))

section
variable {P:Program} {md:Md} {Base:Heap→Prop} {ops:List Oper} {m:Nat}

def Turn (P:Program) (md:Md) (ops:List Oper) (Base:Heap→Prop) (o:Oper) (tm:List Value) (v:Value):Prop:=
  noDefer o.op=true∧((Met ops tm o true∧OpTo P md tm o Base v)∨(Met ops tm o false∧v=undef))

theorem xnx (tm:List Value) (d:Option Tmp) (v:Value):(putl tm d v).length=tm.length:=by cases d <;> simp [putl]
theorem xrj {tm:List Value} {d:Option Tmp} {v:Value} {x:Nat} (h:d≠some x):(putl tm d v)[x]?=tm[x]?:=by
  cases d with
  | none=>rfl
  | some y=>simp only [putl];rw [List.getElem?_set_ne];intro e;exact h (by rw [e])

theorem zhz: ∀ {rest:List Oper} {tm tmF:List Value},SW P md ops Base rest tm tmF→
    (∀ (i j:Nat) (o o':Oper) (d:Nat),rest[i]?=some o→rest[j]?=some o'→o.dst=some d→o'.dst=some d→i=j)→
    tmF.length=tm.length∧(∀ x,(∀ (j:Nat) (o:Oper),rest[j]?=some o→o.dst≠some x)→tmF[x]?=tm[x]?)∧
    ∀ (i:Nat) (o:Oper),rest[i]?=some o→ ∃ tmi v,Turn P md ops Base o tmi v∧tmi.length=tm.length∧(∀ x,(∃ (j:Nat) (o':Oper),j<i∧rest[j]?=some o'∧o'.dst=some x)→tmi[x]?=tmF[x]?)∧
      (∀ x,(∀ (j:Nat) (o':Oper),j<i→rest[j]?=some o'→o'.dst≠some x)→tmi[x]?=tm[x]?)∧ ∀ x,o.dst=some x→tmF[x]?=(putl tmi o.dst v)[x]?
  | [],tm,tmF,h,_=>by
    subst h
    exact ⟨rfl,fun _ _=>rfl,fun i o hi=>by simp at hi⟩
  | o₀::rest,tm,tmF,h,hd=>by
    obtain ⟨hnd,hcase⟩:=h
    have step: ∀ v,Turn P md ops Base o₀ tm v→SW P md ops Base rest (putl tm o₀.dst v) tmF→
        tmF.length=tm.length∧(∀ x,(∀ (j:Nat) (o:Oper),(o₀::rest)[j]?=some o→o.dst≠some x)→tmF[x]?=tm[x]?)∧
        ∀ (i:Nat) (o:Oper),(o₀::rest)[i]?=some o→ ∃ tmi v,Turn P md ops Base o tmi v∧tmi.length=tm.length∧(∀ x,(∃ (j:Nat) (o':Oper),j<i∧(o₀::rest)[j]?=some o'∧o'.dst=some x)→tmi[x]?=tmF[x]?)∧
          (∀ x,(∀ (j:Nat) (o':Oper),j<i→(o₀::rest)[j]?=some o'→o'.dst≠some x)→tmi[x]?=tm[x]?)∧ ∀ x,o.dst=some x→tmF[x]?=(putl tmi o.dst v)[x]?:=by
      intro v ht hs
      obtain ⟨h1,h2,h3⟩:=zhz hs fun i j o o' d hi hj ho ho'=>by
        have:=hd (i+1) (j+1) o o' d (by simpa using hi) (by simpa using hj) ho ho'
        omega
      have hfresh: ∀ x,o₀.dst=some x→ ∀ (j:Nat) (o:Oper),rest[j]?=some o→o.dst≠some x:=fun x hx j o hj ho=>by
        have:=hd 0 (j+1) o₀ o x rfl (by simpa using hj) hx ho
        omega
      have hF0: ∀ x,o₀.dst=some x→tmF[x]?=(putl tm o₀.dst v)[x]?:=fun x hx=>h2 x (hfresh x hx)
      refine ⟨by rw [h1,xnx],fun x hx=>?_,fun i o hi=>?_⟩
      · rw [h2 x fun j o hj=>hx (j+1) o (by simpa using hj),xrj (hx 0 o₀ rfl)]
      · cases i with
        | zero=>
          simp at hi;subst hi
          refine ⟨tm,v,ht,rfl,fun x hx=>?_,fun _ _=>rfl,hF0⟩
          obtain ⟨j,_,hj,_⟩:=hx
          omega
        | succ i=>
          obtain ⟨tmi,v',t1,t2,t3,t4,t5⟩:=h3 i o (by simpa using hi)
          refine ⟨tmi,v',t1,by rw [t2,xnx],fun x hx=>?_,fun x hx=>?_,t5⟩
          · obtain ⟨j,o',hj,ho',hx'⟩:=hx
            cases j with
            | zero=>
              simp at ho';subst ho'
              rw [t4 x fun j o' _ hj'=>hfresh x hx' j o' hj',hF0 x hx']
            | succ j=>exact t3 x ⟨j,o',by omega,by simpa using ho',hx'⟩
          · rw [t4 x fun j o' hj ho'=>hx (j+1) o' (by omega) (by simpa using ho'),xrj (hx 0 o₀ (by omega) rfl)]
    rcases hcase with ⟨hm,v,ho,hs⟩ | ⟨hm,hs⟩
    · exact step v ⟨hnd,.inl ⟨hm,ho⟩⟩ hs
    · exact step undef ⟨hnd,.inr ⟨hm,rfl⟩⟩ hs

theorem wsz {tm tm':List Value} {t:Nat} (h:tm[t]?=tm'[t]?):evl tm (.tmp t)=evl tm' (.tmp t):=by
  simp only [evl,List.getD_eq_getElem?_getD,h]

theorem wfx {o:Op} (h:noSel o=true) (cs:Array SelectCase) (b:Bool):o≠ .select cs b:=by intro e;subst e;simp [noSel] at h

theorem yuk {tm tm':List Value} {o:Oper} (hs:noSel o.op=true) (h: ∀ t∈looks ops o,tm[t]?=tm'[t]?):execOp (evl tm) o=execOp (evl tm') o:=by
  refine execOp_congr o (wfx hs) fun x hx=>?_
  cases x with
  | tmp t=>exact wsz (h t (by unfold looks;rw [List.mem_append];exact .inl (List.mem_filterMap.2 ⟨.tmp t,by simpa using hx,rfl⟩)))
  | const v=>rfl
  | global g=>rfl
  | func f=>rfl

theorem ylk {tm tm':List Value} {o:Oper} {t:Bool} (h: ∀ x∈looks ops o,tm[x]?=tm'[x]?) (m:Met ops tm' o t):Met ops tm o t:=by
  unfold Met at m ⊢
  split at m
  · exact m
  · rename_i j want hg
    rw [← m]
    unfold yieldl
    cases hd:(ops[j]?).bind (·.dst) with
    | none=>rfl
    | some d=>
      have:tm[d]?=tm'[d]?:=h d (by unfold looks;rw [hg,List.mem_append];exact .inr (by simp [hd]))
      simp only [Option.bind_some,this]

section
variable {f:FuncId} {r:Rd} {df:List Deferred} {k:List Item} {cs:List Frame} {Stop:Goroutine→Heap→Prop} {tm tmF:List Value}

theorem wgj [Stb Base] {id:Nat} (m:Nat) (cl:List (List Nat)) (hmix:P.follows .mixedOrders=true) (hst:stable ops m cl=true) (hm:m≤ops.length) (sw:SW P md ops Base (ops.take m) tm tmF)
    (n:RL P md f r df k cs Stop ops (ops.drop m) tmF Base):RS P md (G (FL f r tm df (.code (.region id ops.toArray true)::k)) cs) Base Stop:=by
  refine ytq fun t=>?_
  unfold Region.schedule
  rw [hmix]
  simp only [Bool.true_or,if_true]
  obtain ⟨s,e,hord⟩:=ylj hst hm t
  rw [e]
  have hget: ∀ {i:Nat} {o:Oper},i<m→ops[i]?=some o→(ops.take m)[i]?=some o:=fun hi ho=>by rw [List.getElem?_take,if_pos hi];exact ho
  have hget': ∀ {i:Nat} {o:Oper},(ops.take m)[i]?=some o→i<m∧ops[i]?=some o:=fun ho=>by
    rw [List.getElem?_take] at ho
    split at ho
    · exact ⟨by assumption,ho⟩
    · cases ho
  have hdist: ∀ (i j:Nat) (o o':Oper) (d:Nat),(ops.take m)[i]?=some o→(ops.take m)[j]?=some o'→o.dst=some d→o'.dst=some d→i=j:=fun i j o o' d hi hj ho ho'=>by
    obtain ⟨hi,hio⟩:=hget' hi
    obtain ⟨hj,hjo⟩:=hget' hj
    exact (((xiz hst hio).2.2 hi).2 j o' d hj hjo ho').1.resolve_right fun hne=>hne ho
  obtain ⟨hlen,hrest,hturn⟩:=zhz sw hdist
  have main: ∀ (s:List Nat) (l:Array Bool) (tmc:List Value),Ord ops m l s→l.size=ops.length→tmc.length=tm.length→
      (∀ x,(∃ (j:Nat) (o:Oper),j<m∧l.getD j false=true∧ops[j]?=some o∧o.dst=some x)→tmc[x]?=tmF[x]?)→
      (∀ x,(∀ (j:Nat) (o:Oper),j<m→l.getD j false=true→ops[j]?=some o→o.dst≠some x)→tmc[x]?=tm[x]?)→
      RS P md (G (FL f r tmc df (.inRegion ops.toArray (s++List.range' m (ops.length-m))::k)) cs) Base Stop:=by
    intro s
    induction s with
    | nil=>
      intro l tmc hord _ hl h1 h2
      cases hord with
      | nil hall=>
      have:tmc=tmF:=by
        refine List.ext_getElem? fun x=>?_
        by_cases hx: ∃ (j:Nat) (o:Oper),j<m∧ops[j]?=some o∧o.dst=some x
        · obtain ⟨j,o,hj,ho,hd⟩:=hx
          exact h1 x ⟨j,o,hj,hall j hj,ho,hd⟩
        · rw [h2 x fun j o hj _ ho hd=>hx ⟨j,o,hj,ho,hd⟩]
          exact (hrest x fun j o hjo hd=>hx ⟨j,o,(hget' hjo).1,(hget' hjo).2,hd⟩).symm
      subst this
      rw [List.nil_append]
      have:=n (ops.take m) (List.take_append_drop m ops).symm
      rw [List.length_take,Nat.min_eq_left hm,List.length_drop] at this
      exact this
    | cons i s ih=>
      intro l tmc hord hsz hl h1 h2
      cases hord with
      | @cons _ _ _ o hi ho hn hp hs=>
      have hil:=(List.getElem?_eq_some_iff.1 ho).1
      have hlooks:=((xiz hst ho).2.2 hi)
      obtain ⟨tmi,v,ht,t2,t3,t4,t5⟩:=hturn i o (hget hi ho)
      have hag: ∀ x∈looks ops o,tmc[x]?=tmi[x]?:=by
        intro x hx
        by_cases hw: ∃ (j:Nat) (o':Oper),j<m∧ops[j]?=some o'∧o'.dst=some x
        · obtain ⟨j,o',hj,ho',hd⟩:=hw
          have hpj:=(hlooks.2 j o' x hj ho' hd).2 hx
          rw [h1 x ⟨j,o',hj,hp j hpj,ho',hd⟩,t3 x ⟨j,o',(xiz hst ho).1 j hpj,hget hj ho',hd⟩]
        · rw [h2 x fun j o' hj _ ho' hd=>hw ⟨j,o',hj,ho',hd⟩,t4 x fun j o' _ ho' hd=>hw ⟨j,o',(hget' ho').1,(hget' ho').2,hd⟩]
      have next:RS P md (G (FL f r (putl tmc o.dst v) df (.inRegion ops.toArray (s++List.range' m (ops.length-m))::k)) cs) Base Stop:=by
        refine ih (l.setIfInBounds i true) _ hs (by simpa using hsz) (by rw [xnx];exact hl) (fun x hx=>?_) (fun x hx=>?_)
        · obtain ⟨j,o',hj,hlj,ho',hd⟩:=hx
          by_cases e:i=j
          · subst e
            rw [ho] at ho';cases ho'
            rw [t5 x hd,hd]
            simp only [putl]
            by_cases hxl:x<tm.length
            · rw [List.getElem?_set_self (by rw [hl];exact hxl),List.getElem?_set_self (by rw [t2];exact hxl)]
            · rw [List.getElem?_eq_none (by rw [List.length_set,hl];exact Nat.le_of_not_lt hxl),List.getElem?_eq_none (by rw [List.length_set,t2];exact Nat.le_of_not_lt hxl)]
          · have hne:o.dst≠some x:=(hlooks.2 j o' x hj ho' hd).1.resolve_left e
            rw [getD_set_ne false e] at hlj
            rw [xrj hne]
            exact h1 x ⟨j,o',hj,hlj,ho',hd⟩
        · have hne:o.dst≠some x:=hx i o hi (by simp [Array.getD,hsz,hil]) ho
          rw [xrj hne]
          refine h2 x fun j o' hj hlj ho'=>hx j o' hj ?_ ho'
          by_cases e:i=j
          · subst e;simp [Array.getD,hsz,hil]
          · rw [getD_set_ne false e];exact hlj
      have ho2:ops.toArray[i]?=some o:=by simpa using ho
      rcases ht.2 with ⟨hmet,hop⟩ | ⟨hmet,hv⟩
      · have hmet':=ylk hag hmet
        have hnd:=ht.1
        refine yyk ho2 (xix hmet') yaz (.inr (by revert hnd;cases o.op <;> simp [noDefer])) fun h hb=>?_
        rw [xlw,yuk (ops:=ops) hlooks.1 hag]
        rcases hop h hb with hx | ⟨g,args,hx,hc⟩ | hx
        · refine xjk hx fun n' h' ⟨v',e',e2,hb'⟩=>?_
          subst e';subst e2
          show Reach P md (G ((F (B f r) tmc.toArray df _).finish v') cs) h' Stop
          rw [xgz ho2,xgj]
          exact next h' hb'
        · refine xjk hx fun n' h' ⟨e',e2⟩=>?_
          subst e';subst e2
          refine hc _ _ _ fun v' h' ⟨e2,hb'⟩=>?_
          subst e2
          rw [xgz ho2,xgj]
          exact next h' hb'
        · refine hx _ _ _ fun v' h' ⟨e2,hb'⟩=>?_
          subst e2
          rw [xgz ho2,xgj]
          exact next h' hb'
      · refine ysv ho2 (xix (ylk hag hmet)) ?_
        rw [xgj,← hv]
        exact next
  exact main s _ tm hord (by simp) rfl (fun x hx=>by obtain ⟨j,o,hj,hl,_⟩:=hx;simp [Array.getD] at hl) (fun _ _=>rfl)

theorem wqx {rest:List Oper} (e:rest=[]) (e2:tm=tmF):SW P md ops Base rest tm tmF:=by subst e;exact e2
theorem wqz {tm':List Value} {o:Oper} {rest:List Oper} {v:Value} (hm:Met ops tm o true) (hx: ∀ h,Base h→Exd P tm o h v) (ht:putl tm o.dst v=tm') (n:SW P md ops Base rest tm' tmF) (hd:noDefer o.op=true:=by rfl):
    SW P md ops Base (o::rest) tm tmF:=
  ⟨hd,.inl ⟨hm,v,fun h hb=>.inl (xjk (hx h hb) fun _ _ ⟨v',e1,e2,e3⟩=>⟨v',e1,e2,by rw [e3];exact hb⟩),by rw [ht];exact n⟩⟩
theorem wjv {tm':List Value} {o:Oper} {rest:List Oper} (hm:Met ops tm o false) (ht:putl tm o.dst undef=tm') (n:SW P md ops Base rest tm' tmF) (hd:noDefer o.op=true:=by rfl):
    SW P md ops Base (o::rest) tm tmF:=⟨hd,.inr ⟨hm,by rw [ht];exact n⟩⟩
theorem wjw {tm':List Value} {rest:List Oper} {args:List Operand} {ats:Array TypeId} {d:Option Tmp} {ty:TypeId} {pos:String} {aft:Array Edge} {gd:Option (Nat × Bool)} {x:Operand} {g:FuncId} {first cap vs:List Value} {v:Value}
    (hm:Met ops tm ⟨d,.call ⟨.value x,args.toArray,ats⟩,ty,pos,aft,gd⟩ true) (hx:evl tm x= .func (.func g) first.toArray cap.toArray) (hvs:first++(args.map (evl tm)++cap)=vs) (hg:callable P g=true)
    (hc: ∀ h,Base h→CallsX P md g vs.toArray h fun v' h'=>v'=v∧Base h') (ht:putl tm d v=tm') (n:SW P md ops Base rest tm' tmF):
    SW P md ops Base (⟨d,.call ⟨.value x,args.toArray,ats⟩,ty,pos,aft,gd⟩::rest) tm tmF:=
  ⟨rfl,.inl ⟨hm,v,fun h hb=>.inr (.inl ⟨g,vs.toArray,yrx hx hvs hg,hc h hb⟩),by rw [ht];exact n⟩⟩
end
end

section
variable {P:Program} {md:Md} {Base:Heap→Prop} {ops full rest:List Oper} {f:FuncId} {r:Rd} {df:List Deferred} {k:List Item} {cs:List Frame} {Stop:Goroutine→Heap→Prop} {tm tm':List Value}

def SWR (P:Program) (md:Md) (f:FuncId) (r:Rd) (df:List Deferred) (k:List Item) (cs:List Frame) (Stop:Goroutine→Heap→Prop) (Base:Heap→Prop) (ops full rest:List Oper) (tm:List Value):Prop:=
  ∃ tmF,SW P md ops Base rest tm tmF∧RL P md f r df k cs Stop ops full tmF Base
theorem xhw [Stb Base] {id:Nat} (m:Nat) (cl:List (List Nat)) (hmix:P.follows .mixedOrders=true) (hst:stable ops m cl=true) (hm:m≤ops.length) (sw:SWR P md f r df k cs Stop Base ops (ops.drop m) (ops.take m) tm):
    RS P md (G (FL f r tm df (.code (.region id ops.toArray true)::k)) cs) Base Stop:=by
  obtain ⟨tmF,s,n⟩:=sw
  exact wgj m cl hmix hst hm s n
theorem xlq (e:rest=[]) (n:RL P md f r df k cs Stop ops full tm Base):SWR P md f r df k cs Stop Base ops full rest tm:=⟨tm,wqx e rfl,n⟩
theorem xfq {o:Oper} {v:Value} (hm:Met ops tm o true) (hx: ∀ h,Base h→Exd P tm o h v) (ht:putl tm o.dst v=tm') (n:SWR P md f r df k cs Stop Base ops full rest tm') (hd:noDefer o.op=true:=by rfl):SWR P md f r df k cs Stop Base ops full (o::rest) tm:=by
  obtain ⟨tmF,s,n⟩:=n
  exact ⟨tmF,wqz hm hx ht s hd,n⟩
theorem xrw {o:Oper} (hm:Met ops tm o false) (ht:putl tm o.dst undef=tm') (n:SWR P md f r df k cs Stop Base ops full rest tm') (hd:noDefer o.op=true:=by rfl):SWR P md f r df k cs Stop Base ops full (o::rest) tm:=by
  obtain ⟨tmF,s,n⟩:=n
  exact ⟨tmF,wjv hm ht s hd,n⟩
theorem xox {args:List Operand} {ats:Array TypeId} {d:Option Tmp} {ty:TypeId} {pos:String} {aft:Array Edge} {gd:Option (Nat × Bool)} {x:Operand} {g:FuncId} {first cap vs:List Value} {v:Value}
    (hm:Met ops tm ⟨d,.call ⟨.value x,args.toArray,ats⟩,ty,pos,aft,gd⟩ true) (hx:evl tm x= .func (.func g) first.toArray cap.toArray) (hvs:first++(args.map (evl tm)++cap)=vs) (hg:callable P g=true)
    (hc: ∀ h,Base h→CallsX P md g vs.toArray h fun v' h'=>v'=v∧Base h') (ht:putl tm d v=tm') (n:SWR P md f r df k cs Stop Base ops full rest tm'):
    SWR P md f r df k cs Stop Base ops full (⟨d,.call ⟨.value x,args.toArray,ats⟩,ty,pos,aft,gd⟩::rest) tm:=by
  obtain ⟨tmF,s,n⟩:=n
  exact ⟨tmF,wjw hm hx hvs hg hc ht s,n⟩
end
end Go.X
namespace Go.X
open Go.Conc

abbrev Pcs:=List (Nat × Obj)

def fills (ops:List Oper) (val:Nat→Value):Nat→List Value→List Value
  | 0,tm=>tm
  | m+1,tm=>putl (fills ops val m tm) ((ops[m]?).bind (·.dst)) (val m)

theorem yhq (ops:List Oper) (val:Nat→Value) (tm:List Value): ∀ m,(fills ops val m tm).length=tm.length
  | 0=>rfl
  | m+1=>by simp only [fills,xnx,yhq ops val tm m]

theorem ymk {ops:List Oper} {val:Nat→Value} {tm:List Value} {x:Nat}: ∀ {m:Nat},(∀ (j:Nat) (o:Oper),j<m→ops[j]?=some o→o.dst≠some x)→(fills ops val m tm)[x]?=tm[x]?
  | 0,_=>rfl
  | m+1,h=>by
    simp only [fills]
    rw [xrj,ymk fun j o hj=>h j o (by omega)]
    intro e
    cases ho:ops[m]? with
    | none=>rw [ho] at e;cases e
    | some o=>rw [ho] at e;exact h m o (by omega) ho e

theorem yuq {ops:List Oper} {val:Nat→Value} {tm:List Value} {x i:Nat} {o:Oper}: ∀ {m:Nat},i<m→ops[i]?=some o→o.dst=some x→(∀ (j:Nat) (o':Oper),j<m→ops[j]?=some o'→o'.dst=some x→j=i)→x<tm.length→
    (fills ops val m tm)[x]?=some (val i)
  | 0,h,_,_,_,_=>by omega
  | m+1,h,ho,hd,hu,hx=>by
    simp only [fills]
    by_cases e:i=m
    · subst e
      rw [ho]
      simp only [Option.bind_some,hd,putl]
      rw [List.getElem?_set_self (by rw [yhq];exact hx)]
    · rw [xrj,yuq (by omega) ho hd (fun j o' hj=>hu j o' (by omega)) hx]
      intro e'
      cases ho':ops[m]? with
      | none=>rw [ho'] at e';cases e'
      | some o'=>rw [ho'] at e';exact e (hu m o' (by omega) ho' e').symm

def mixok (ops:List Oper) (m:Nat) (ini:List Nat) (use:Nat→List Nat) (fin:List Nat):Bool:=
  decide ini.Nodup && ini.all (fun x=>decide (m≤x)) && decide fin.Nodup &&
  (ops.zipIdx.all fun (o,i)=>!decide (i<m) || ((decide (use i).Nodup) && (use i).all fun x=>(ini.contains x || (decide (x<m) && (preds o).contains x)) && (List.range m).all fun k=>decide (k=i) || !(use k).contains x)) &&
  (fin.all fun x=>(ini.contains x || decide (x<m)) && (List.range m).all fun k=>!(use k).contains x) &&
  ((List.range m++ini).all fun x=>fin.contains x || (List.range m).any fun k=>(use k).contains x)

theorem zjk {α:Type} [DecidableEq α]: ∀ {u ls:List α},u.Nodup→(∀ x∈u,x∈ls)→ ∃ r,ls.Perm (u++r)
  | [],ls,_,_=>⟨ls,.refl _⟩
  | x::u,ls,hn,hs=>by
    have h1:=List.perm_cons_erase (hs x (by simp))
    have hn':=List.nodup_cons.1 hn
    obtain ⟨r,hr⟩:=zjk (ls:=ls.erase x) hn'.2 fun y hy=>by
      rw [List.mem_erase_of_ne (fun e=>by subst e;exact hn'.1 hy)];exact hs y (by simp [hy])
    exact ⟨r,h1.trans (hr.cons x)⟩

def Exv (P:Program) (tm:List Value) (o:Oper) (h:Heap) (K:Value→Heap→Prop):Prop:=
  wpS P (execOp (evl tm) o) h fun n h'=>∃ v,(n= .value v∨(n= .skip∧v=undef))∧K v h'
theorem Ex.exv {P:Program} {tm:List Value} {o:Oper} {h:Heap} {K:Value→Heap→Prop} (x:Ex P tm o h K):Exv P tm o h K:=xjk x fun _ _ ⟨v,e,y⟩=>⟨v,.inl e,y⟩

def OpMix (P:Program) (md:Md) (ops:List Oper) (tmF:(Nat→Value)→List Value) (h₀:Heap) (B₀:List Nat) (p:PHeap) (A:Pcs) (ini:List Nat) (X:Nat→Pcs) (use:Nat→List Nat) (Q:Nat→Value→Pcs→Prop) (i:Nat) (o:Oper):Prop:=
  ∀ val piece,(∀ j,(preds o).contains j=true→Q j (val j) (piece j))→(∀ j∈ini,piece j=X j)→
    (Met ops (tmF val) o true∧ ∀ C h,St h₀ B₀ p h ((use i).flatMap piece++(A++C))→
      Exv P (tmF val) o h (fun v h'=>∃ x,Q i v x∧St h₀ B₀ p h' (x++(A++C)))∨
      (∃ g args,(wpS P (execOp (evl (tmF val)) o) h fun n h'=>n= .enter g args∧h'=h)∧CallsX P md g args h (fun v h'=>∃ x,Q i v x∧St h₀ B₀ p h' (x++(A++C)))))∨
    (Met ops (tmF val) o false∧(use i).flatMap piece=[]∧Q i undef [])

def Mixes (F:Nat→Oper→Prop):Nat→List Oper→Prop
  | _,[]=>True
  | i,o::rest=>(noDefer o.op=true∧F i o)∧Mixes F (i+1) rest

theorem Mixes.at {F:Nat→Oper→Prop}: ∀ {l:List Oper} {b i:Nat} {o:Oper},Mixes F b l→l[i]?=some o→noDefer o.op=true∧F (b+i) o
  | [],_,_,_,_,h=>by simp at h
  | o::l,b,0,_,m,h=>by simp at h;subst h;exact m.1
  | o::l,b,i+1,_,m,h=>by
    have:=Mixes.at (i:=i) m.2 (by simpa using h)
    rw [show b+(i+1)=b+1+i from by omega];exact this

section
variable {P:Program} {md:Md} {ops:List Oper} {m:Nat} {f:FuncId} {r:Rd} {df:List Deferred} {k:List Item} {cs:List Frame} {Stop:Goroutine→Heap→Prop} {tm:List Value}
  {h₀:Heap} {B₀:List Nat} {p:PHeap} {A C:Pcs} {ini fin:List Nat} {X:Nat→Pcs} {use:Nat→List Nat} {Q:Nat→Value→Pcs→Prop} {tmF:(Nat→Value)→List Value}

theorem wfz (hk:mixok ops m ini use fin=true):ini.Nodup∧(∀ x∈ini,m≤x)∧fin.Nodup∧
    (∀ (i:Nat) (o:Oper),i<m→ops[i]?=some o→(use i).Nodup∧ ∀ x∈use i,(x∈ini∨(x<m∧x∈preds o))∧ ∀ k<m,k≠i→x ∉ use k)∧
    (∀ x∈fin,(x∈ini∨x<m)∧ ∀ k<m,x ∉ use k)∧(∀ x,(x<m∨x∈ini)→x∈fin∨ ∃ k<m,x∈use k):=by
  unfold mixok at hk
  simp only [Bool.and_eq_true,decide_eq_true_eq,List.all_eq_true] at hk
  obtain ⟨⟨⟨⟨⟨h1,h2⟩,h3⟩,h4⟩,h5⟩,h6⟩:=hk
  refine ⟨h1,h2,h3,fun i o hi ho=>?_,fun x hx=>?_,fun x hx=>?_⟩
  · have hmem:(o,i)∈ops.zipIdx:=by rw [List.mem_zipIdx_iff_getElem?];exact ho
    have h:=h4 (o,i) hmem
    simp only [hi,decide_true,Bool.not_true,Bool.false_or,Bool.and_eq_true,decide_eq_true_eq,List.all_eq_true,Bool.or_eq_true,List.mem_range,Bool.not_eq_true',List.contains_eq_mem,decide_eq_false_iff_not] at h
    exact ⟨h.1,fun x hx=>⟨(h.2 x hx).1,fun k hk hne=>((h.2 x hx).2 k hk).resolve_left hne⟩⟩
  · have h:=h5 x hx
    simp only [Bool.or_eq_true,decide_eq_true_eq,List.mem_range,Bool.not_eq_true',List.contains_eq_mem,decide_eq_false_iff_not] at h
    exact h
  · have h:=h6 x (by rw [List.mem_append,List.mem_range];exact hx)
    simp only [Bool.or_eq_true,List.any_eq_true,List.mem_range,List.contains_eq_mem,decide_eq_true_eq] at h
    exact h

def Emp (Q:Nat→Value→Pcs→Prop):List Nat→Prop
  | []=>True
  | j::l=>(∀ v x,Q j v x→x=[])∧Emp Q l
theorem Emp.flat {Q:Nat→Value→Pcs→Prop} {val:Nat→Value} {piece:Nat→Pcs}: ∀ {l:List Nat},Emp Q l→(∀ j∈l,Q j (val j) (piece j))→l.flatMap piece=[]
  | [],_,_=>rfl
  | j::l,e,h=>by
    rw [List.flatMap_cons,e.1 _ _ (h j (by simp)),Emp.flat e.2 fun i hi=>h i (by simp [hi])];rfl

def Mix (P:Program) (md:Md) (ops:List Oper) (tm:List Value) (h₀:Heap) (B₀:List Nat) (p:PHeap) (A U:Pcs) (Q:Value→Pcs→Prop) (o:Oper):Prop:=
  (Met ops tm o true∧ ∀ C h,St h₀ B₀ p h (U++(A++C))→
      Exv P tm o h (fun v h'=>∃ x,Q v x∧St h₀ B₀ p h' (x++(A++C)))∨
      (∃ g args,(wpS P (execOp (evl tm) o) h fun n h'=>n= .enter g args∧h'=h)∧CallsX P md g args h (fun v h'=>∃ x,Q v x∧St h₀ B₀ p h' (x++(A++C)))))∨
    (Met ops tm o false∧U=[]∧Q undef [])

theorem xpk {F:Nat→Oper→Prop} {b:Nat} {l:List Oper} (e:l=[]):Mixes F b l:=by subst e;trivial
theorem xcq {F:Nat→Oper→Prop} {b:Nat} {o:Oper} {l:List Oper} (hd:noDefer o.op=true) (x:F b o) (n:Mixes F (b+1) l):Mixes F b (o::l):=⟨⟨hd,x⟩,n⟩

section
variable {tm':List Value} {U:Pcs} {q:Value→Pcs→Prop} {o:Oper} {ty:TypeId} {pos:String} {aft:Array Edge} {gd:Option (Nat × Bool)}

theorem xfx {v:Value} (hm:Met ops tm' o true) (hx: ∀ C h,St h₀ B₀ p h (A++C)→Exd P tm' o h v) (hq:q v []):Mix P md ops tm' h₀ B₀ p A [] q o:=
  .inl ⟨hm,fun C h s=>.inl (xjk (hx C h s) fun _ _ ⟨v',e1,e2,e3⟩=>⟨v',.inl e1,[],by rw [e2];exact hq,by rw [e3];exact s⟩)⟩
theorem zwx (hm:Met ops tm' o true) (hx: ∀ C h,St h₀ B₀ p h (U++(A++C))→Ex P tm' o h (fun v h'=>∃ x,q v x∧St h₀ B₀ p h' (x++(A++C)))):Mix P md ops tm' h₀ B₀ p A U q o:=
  .inl ⟨hm,fun C h s=>.inl (hx C h s).exv⟩
theorem yix {args:List Operand} {ats:Array TypeId} {d:Option Tmp} {x:Operand} {g:FuncId} {first cap vs:List Value}
    (hm:Met ops tm' ⟨d,.call ⟨.value x,args.toArray,ats⟩,ty,pos,aft,gd⟩ true) (hx:evl tm' x= .func (.func g) first.toArray cap.toArray) (hvs:first++(args.map (evl tm')++cap)=vs) (hg:callable P g=true)
    (hc: ∀ C h,St h₀ B₀ p h (U++(A++C))→CallsX P md g vs.toArray h fun v h'=>∃ x,q v x∧St h₀ B₀ p h' (x++(A++C))):
    Mix P md ops tm' h₀ B₀ p A U q ⟨d,.call ⟨.value x,args.toArray,ats⟩,ty,pos,aft,gd⟩:=
  .inl ⟨hm,fun C h s=>.inr ⟨g,vs.toArray,yrx hx hvs hg,hc C h s⟩⟩

theorem OwnS.build {T:TypeId} {w b n:Nat} {es:List (List Value)} {cells:Array Value} (hc:cells=es.flatten.toArray) (hw: ∀ e∈es,e.length=w) (hn:es.length=n) (hb:n*w≤2 ^ 24):OwnS T w (.slice (some ⟨b,0,none⟩) n n) es [(b,.cells cells T (0,0))]:=by
  subst hn
  exact ⟨hw,.inr ⟨b,es.flatten,es.length,[],rfl,by rw [hc],by simp,xiv hw,fun e=>by subst e;omega⟩⟩

theorem wcx {h:Heap} {w:Nat} {T:TypeId} {x:Value} {news:List (List Value)} {Y L₁ L₂:Pcs} (o:OwnS T w x news Y) (s:St h₀ B₀ p h (L₁++(Y++L₂))):Src P h w news.length x news:=by
  obtain ⟨hw,⟨rfl,rfl,rfl⟩ | ⟨b,cs,cap,rest,rfl,rfl,hcs,hlen,hcap⟩⟩:=o
  · exact wkz
  · refine ⟨fun K hK=>xbz hK,fun K hK=>?_,rfl,hw⟩
    show wpS P (loadCells ⟨b,0,none⟩ (news.length*w)) h K
    refine xnz (xiv hw) (fun j u hj=>?_) hK
    rw [xjv]
    refine s.ocell (i:=L₁.length) (cs:=cs.toArray) (T:=T) (z:=(0,0)) ?_ ?_
    · rw [List.getElem?_append_right (Nat.le_refl _)];simp
    · rw [List.getElem?_toArray,hcs,Nat.zero_add,List.getElem?_append_left (List.getElem?_eq_some_iff.1 hj).1]
      exact hj

theorem ynx {dd:Nat} {sT xT eT eX:TypeId} {w m' by':Nat} {xo yo:Operand} {v x z:Value} {es news:List (List Value)} {h:Heap} {X' C':Pcs} (A':Pcs)
    (hT:P.underlying sT=some (.slice eT)) (hs:sizeT P eT=some w) (hz:zeroT P eT=some z) (hzs:z.cells.size=w) (hby:bytesT P eT=some by') (hx:P.underlying xT=some (.slice eX))
    (ev1:evl tm' xo=v) (ev2:evl tm' yo=x) (o:OwnS eT w v es X') (s:St h₀ B₀ p h (A'++(X'++C'))) (src:Src P h w m' x news) (h1: ∀ u∈news.flatten,isOne u=true)
    (room:(es.length+m')*by'≤2 ^ 40) (hb2:0<by'∧by'≤2 ^ 20) {K:Value→Heap→Prop}
    (n: ∀ v' X' h',OwnS eT w v' (es++news) X'→St h₀ B₀ p h' (A'++(X'++C'))→K v' h'):
    Ex P tm' ⟨some dd,.call ⟨.builtin .append,#[xo,yo],#[sT,xT]⟩,ty,pos,aft,gd⟩ h K:=by
  unfold Ex
  simp only [execOp,resolve]
  refine xbq (xbz ?_)
  simp only [invoke,builtin]
  refine xbq ?_
  have e:(#[xo,yo]:Array Operand).map (evl tm')=#[v,x]:=by simp [ev1,ev2]
  rw [e]
  refine znw hT hs hz hzs hby hx o s src.lenOf src.cells src.len src.wid h1 room hb2 fun v' X' h' o' s'=>?_
  exact xbz ⟨v',rfl,n v' X' h' o' s'⟩

theorem ybk {dd:Nat} {sT xT eT eX:TypeId} {w by' n cap:Nat} {a:Option Addr} {xo yo:Operand} {v z:Value} {es news:List (List Value)} {X₁:Pcs} (hm:Met ops tm' ⟨some dd,.call ⟨.builtin .append,#[xo,yo],#[sT,xT]⟩,ty,pos,aft,gd⟩ true)
    (hT:P.underlying sT=some (.slice eT)) (hs:sizeT P eT=some w) (hz:zeroT P eT=some z) (hzs:z.cells.size=w) (hby:bytesT P eT=some by') (hx:P.underlying xT=some (.slice eX))
    (ev1:evl tm' xo=v) (ev2:evl tm' yo= .slice a n cap) (o1:OwnS eT w v es X₁) (o2:Sl p a n w news) (h1: ∀ u∈news.flatten,isOne u=true)
    (room:(es.length+n)*by'≤2 ^ 40) (hb2:0<by'∧by'≤2 ^ 20) (hw0:0<w) (hq: ∀ v x,OwnS eT w v (es++news) x→q v x):
    Mix P md ops tm' h₀ B₀ p A (X₁++[]) q ⟨some dd,.call ⟨.builtin .append,#[xo,yo],#[sT,xT]⟩,ty,pos,aft,gd⟩:=
  zwx hm fun C h s=>by
    rw [List.append_nil] at s
    exact ynx [] hT hs hz hzs hby hx ev1 ev2 o1 s (zdw s hw0 o2) h1 room hb2 fun v' X' h' o' s'=>⟨X',hq _ _ o',s'⟩

theorem St.swap {h:Heap} {A U:Pcs} (s:St h₀ B₀ p h (A++U)):St h₀ B₀ p h (U++(A++[])):=s.perm (by rw [List.append_nil];exact List.perm_append_comm)
theorem St.swap' {h:Heap} {A U:Pcs} (s:St h₀ B₀ p h (U++(A++[]))):St h₀ B₀ p h (A++U):=s.perm (by rw [List.append_nil];exact List.perm_append_comm)
end
end
end Go.X
namespace Go.X
open Go.Conc

theorem xrk {l:List Value} (h:l.all isOne=true): ∀ u∈l,isOne u=true:=fun u hu=>List.all_eq_true.1 h u hu

theorem xkk {v:Value} {l:List Value} (h:isOne v=true) (h2:l.all isOne=true):(v::l).all isOne=true:=by simp [h,h2]

def nums (f:Nat→Int) (k:Nat):List Int:=(List.range k).map f
def ns (f:Nat→Int) (k:Nat):List (List Value):=(nums f k).map fun x=>[.int .i64 x]
theorem xyj (xs:List Int): ∀ u∈(xs.map fun x=>[Value.int .i64 x]).flatten,isOne u=true:=by
  intro u hu
  rw [List.mem_flatten] at hu
  obtain ⟨l,hl,hu⟩:=hu
  obtain ⟨x,_,rfl⟩:=List.mem_map.1 hl
  rw [List.mem_singleton.1 hu];rfl
theorem OwnS.as {T:TypeId} {w:Nat} {v:Value} {es es':List (List Value)} {X:List (Nat × Obj)} (o:OwnS T w v es X) (e:es=es'):OwnS T w v es' X:=by subst e;exact o
theorem OwnS.val {T:TypeId} {w:Nat} {v:Value} {es:List (List Value)} {X:List (Nat × Obj)} (o:OwnS T w v es X): ∃ a cap,v= .slice a es.length cap∧(0<es.length→a=some (adr a)):=by
  obtain ⟨_,⟨rfl,rfl,rfl⟩ | ⟨b,cs,cap,rest,rfl,rfl,hcs,hlen,hcap⟩⟩:=o
  · exact ⟨_,_,rfl,fun h=>absurd h (by simp)⟩
  · exact ⟨_,_,rfl,fun _=>rfl⟩
theorem OwnS.one {T:TypeId} {w:Nat} {v:Value} {es:List (List Value)} {X:List (Nat × Obj)} (o:OwnS T w v es X):v.cells=#[v]∧isOne v=true:=by
  obtain ⟨a,cap,rfl,_⟩:=o.val
  exact ⟨rfl,rfl⟩

structure New (h h':Heap) (X:Pcs):Prop where
  keep:Keep h h'
  own: ∀ x∈X,h'[x.1]?=some x.2∧h.size≤x.1
  nod:(X.map (·.1)).Nodup

section
variable {h₀ h h':Heap} {B₀:List Nat} {p:PHeap} {A X C L:Pcs}
theorem St.new (s:St h₀ [] p h X):New h₀ h X:=⟨s.kept,fun x hx=>⟨(s.own x hx).1,(s.own x hx).2.2.resolve_right (by simp)⟩,s.nod⟩
theorem St.callN (s:St h₀ B₀ p h L) (n:New h h' X):St h₀ B₀ p h' (X++L):=by
  have s':=s.call n.keep
  refine ⟨s'.keep,s'.size,s'.per,fun x hx=>?_,?_⟩
  · rcases List.mem_append.1 hx with hx | hx
    · obtain ⟨h1,h2⟩:=n.own x hx
      refine ⟨h1,?_,.inl (Nat.le_trans s.size h2)⟩
      cases hp:p x.1 with
      | none=>rfl
      | some o=>exact absurd (xmk (s.per _ _ hp)) (Nat.not_lt.2 h2)
    · exact s'.own x hx
  · rw [List.map_append,List.nodup_append]
    refine ⟨n.nod,s.nod,fun a ha b hb e=>?_⟩
    subst e
    obtain ⟨x,hx,rfl⟩:=List.mem_map.1 ha
    obtain ⟨y,hy,e⟩:=List.mem_map.1 hb
    have h1:=(n.own x hx).2
    have h2:=xmk (s.own y hy).1
    omega
theorem St.callNA (s:St h₀ B₀ p h (A++C)) (n:New h h' X):St h₀ B₀ p h' (A++(X++C)):=(s.callN n).perm (by
  rw [← List.append_assoc,← List.append_assoc];exact List.Perm.append_right C List.perm_append_comm)
theorem St.dropA (s:St h₀ B₀ p h (A++C)):St h₀ B₀ p h C:=s.sub (List.sublist_append_right A C)
end

section
variable {P:Program} {md:Md} {ops rest:List Oper} {f:FuncId} {r:Rd} {df:List Deferred} {k:List Item} {cs:List Frame} {Stop:Goroutine→Heap→Prop} {tm:List Value}
  {h₀:Heap} {B₀:List Nat} {p:PHeap} {A C X Y:Pcs} {ty:TypeId} {pos:String} {aft:Array Edge} {gd:Option (Nat × Bool)}

theorem xjw {L L':Pcs} (e:L.Perm L') (n:RL P md f r df k cs Stop ops rest tm (fun h=>St h₀ B₀ p h L')):RL P md f r df k cs Stop ops rest tm (fun h=>St h₀ B₀ p h L):=yok n fun _ s=>s.perm e

theorem wpx (n:Nat) (g:Nat→Value):(Array.range n).map g=((List.range n).map g).toArray:=by apply Array.ext';simp

theorem ykw {T T':TypeId} {x y:Operand} {i b off:Nat} {cs' cs2:List Value} {v:Value} {L:Pcs} (hm:Met ops tm ⟨none,.store T x y,ty,pos,aft,gd⟩ true) (hs:sizeT P T=some 1)
    (hx:evl tm x= .pointer (some ⟨b,off,none⟩)) (hy:evl tm y=v) (hv:v.cells=#[v]∧isOne v=true) (hL:L[i]?=some (b,.cells cs'.toArray T' (0,0))) (hlen:off<cs'.length) (h2:cs'.set off v=cs2)
    (n:RL P md f r df k cs Stop ops rest tm (fun h=>St h₀ B₀ p h (L.set i (b,.cells cs2.toArray T' (0,0))))):
    RL P md f r df k cs Stop ops (⟨none,.store T x y,ty,pos,aft,gd⟩::rest) tm (fun h=>St h₀ B₀ p h L):=
  xfv hm hs hx hy hL (by rw [hv.1];rfl) (by rw [hv.1];simp [hv.2]) (by rw [hv.1];exact hlen) (by rw [hv.1];simpa [setl] using h2) n

theorem zlj {dd:Nat} {sT eT:TypeId} {w n:Nat} {parts:List (Nat × Operand)} {vs:List (Nat × Value)} {z:Value} {cells:Array Value} {es:List (List Value)} {h:Heap}
    (hT:P.underlying sT=some (.slice eT)) (hs:sizeT P eT=some w) (hz:zeroT P eT=some z) (hsm:n*w≤2 ^ 24) (hvs:(parts.map fun (i,x)=>(i,evl tm x))=vs)
    (hf:Instr.fill (fun i=>some (i*w,w)) ((List.range (n*w)).map (z.cells[· % z.cells.size]!)).toArray vs=some cells) (hc:cells=es.flatten.toArray) (hw:(es.all fun e=>e.length == w)=true) (hn:es.length=n)
    (s:St h₀ B₀ p h C) {K:Value→Heap→Prop} (nx: ∀ v X h',OwnS eT w v es X→St h₀ B₀ p h' (X++C)→K v h'):Ex P tm ⟨some dd,.buildSlice sT n parts.toArray,ty,pos,aft,gd⟩ h K:=by
  have hw': ∀ e∈es,e.length=w:=fun e he=>by simpa using List.all_eq_true.1 hw e he
  have fin: ∀ b,OwnS eT w (.slice (some ⟨b,0,none⟩) n n) es [(b,.cells cells eT (0,0))]:=fun b=>OwnS.build hc hw' hn (by simpa using hsm)
  rw [← wpx] at hf
  unfold Ex
  simp only [execOp]
  refine xbq ?_
  unfold Instr.buildSlice
  refine xbq (xdv hT ?_)
  simp only
  refine xbq (xik hs ?_)
  rw [if_neg (by omega)]
  by_cases h0:n*w=0
  · rw [if_pos h0]
    refine xbq (xbz ?_)
    have hcell:Instr.fill (fun i=>some (i*w,w)) ((Array.range (n*w)).map ((#[]:Array Value)[· % (#[]:Array Value).size]!)) vs=some cells:=by
      rw [← hf,h0,show Array.range 0=(#[]:Array Nat) from by simp,Array.map_empty,Array.map_empty]
    simp only [List.map_toArray,hvs,hcell]
    refine xbq (xpq ?_)
    refine xbz ?_
    exact xbz ⟨_,rfl,nx _ _ _ (fin _) (s.push _)⟩
  · rw [if_neg h0]
    refine xbq (xlz hz ?_)
    refine xbq (xbz ?_)
    simp only [List.map_toArray,hvs,hf]
    refine xbq (xpq ?_)
    refine xbz ?_
    exact xbz ⟨_,rfl,nx _ _ _ (fin _) (s.push _)⟩

theorem xhv {dd:Nat} {sT eT:TypeId} {w n:Nat} {parts:List (Nat × Operand)} {vs:List (Nat × Value)} {z:Value} {cells:Array Value} {es:List (List Value)} (A:Pcs)
    (hm:Met ops tm ⟨some dd,.buildSlice sT n parts.toArray,ty,pos,aft,gd⟩ true)
    (hT:P.underlying sT=some (.slice eT)) (hs:sizeT P eT=some w) (hz:zeroT P eT=some z) (hsm:n*w≤2 ^ 24) (hvs:(parts.map fun (i,x)=>(i,evl tm x))=vs)
    (hf:Instr.fill (fun i=>some (i*w,w)) ((List.range (n*w)).map (z.cells[· % z.cells.size]!)).toArray vs=some cells) (hc:cells=es.flatten.toArray) (hw:(es.all fun e=>e.length == w)=true) (hn:es.length=n)
    (nx: ∀ v X,OwnS eT w v es X→RL P md f r df k cs Stop ops rest (tm.set dd v) (fun h=>St h₀ B₀ p h (A++(X++C)))):
    RL P md f r df k cs Stop ops (⟨some dd,.buildSlice sT n parts.toArray,ty,pos,aft,gd⟩::rest) tm (fun h=>St h₀ B₀ p h (A++C)):=
  xtw (K:=fun v h'=>∃ X,OwnS eT w v es X∧St h₀ B₀ p h' (A++(X++C))) hm rfl (fun h s=>zlj hT hs hz hsm hvs hf hc hw hn s fun v X h' o s'=>⟨X,o,s'.perm (by
    rw [← List.append_assoc,← List.append_assoc];exact List.Perm.append_right C List.perm_append_comm)⟩) fun v=>xgx fun X=>xez fun o=>nx v X o

theorem xsz {dd:Nat} {sT eT:TypeId} {w n:Nat} {parts:List (Nat × Operand)} {vs:List (Nat × Value)} {z:Value} {cells:Array Value} {es:List (List Value)} {q:Value→Pcs→Prop} (hm:Met ops tm ⟨some dd,.buildSlice sT n parts.toArray,ty,pos,aft,gd⟩ true)
    (hT:P.underlying sT=some (.slice eT)) (hs:sizeT P eT=some w) (hz:zeroT P eT=some z) (hsm:n*w≤2 ^ 24) (hvs:(parts.map fun (i,x)=>(i,evl tm x))=vs)
    (hf:Instr.fill (fun i=>some (i*w,w)) ((List.range (n*w)).map (z.cells[· % z.cells.size]!)).toArray vs=some cells) (hc:cells=es.flatten.toArray) (hw:(es.all fun e=>e.length == w)=true) (hn:es.length=n)
    (hq: ∀ v x,OwnS eT w v es x→q v x):Mix P md ops tm h₀ B₀ p A [] q ⟨some dd,.buildSlice sT n parts.toArray,ty,pos,aft,gd⟩:=
  zwx hm fun _ _ s=>zlj hT hs hz hsm hvs hf hc hw hn s fun _ X _ o s'=>⟨X,hq _ _ o,s'⟩

theorem xkw {dd:Nat} {sT xT eT eX:TypeId} {w by':Nat} {xo yo:Operand} {v x z:Value} {es news:List (List Value)} (A X Y:Pcs) (hm:Met ops tm ⟨some dd,.call ⟨.builtin .append,#[xo,yo],#[sT,xT]⟩,ty,pos,aft,gd⟩ true)
    (hT:P.underlying sT=some (.slice eT)) (hs:sizeT P eT=some w) (hz:zeroT P eT=some z) (hzs:z.cells.size=w) (hby:bytesT P eT=some by') (hx:P.underlying xT=some (.slice eX))
    (ev1:evl tm xo=v) (ev2:evl tm yo=x) (o1:OwnS eT w v es X) (o2:OwnS eT w x news Y) (h1: ∀ u∈news.flatten,isOne u=true)
    (room:(es.length+news.length)*by'≤2 ^ 40) (hb2:0<by'∧by'≤2 ^ 20)
    (nx: ∀ v' X',OwnS eT w v' (es++news) X'→RL P md f r df k cs Stop ops rest (tm.set dd v') (fun h=>St h₀ B₀ p h (A++(X'++C)))):
    RL P md f r df k cs Stop ops (⟨some dd,.call ⟨.builtin .append,#[xo,yo],#[sT,xT]⟩,ty,pos,aft,gd⟩::rest) tm (fun h=>St h₀ B₀ p h (A++(X++(Y++C)))):=
  xtw (K := fun v' h' => ∃ X', OwnS eT w v' (es ++ news) X' ∧ St h₀ B₀ p h' (A ++ (X' ++ C))) hm rfl (fun h s => ynx A hT hs hz hzs hby hx ev1 ev2 o1 s (wcx (L₁ := A ++ X) o2 (by rw [List.append_assoc]; exact s)) h1 room hb2 fun v' X' h' o' s' => ⟨X', o', s'.sub
      ((List.Sublist.refl A).append ((List.Sublist.refl X').append (List.sublist_append_right Y C)))⟩) fun v'=>xgx fun X'=>xez fun o'=>nx v' X' o'

theorem yew {dd:Nat} {sT xT eT eX:TypeId} {w by' n cap:Nat} {a:Option Addr} {xo yo:Operand} {v z:Value} {es news:List (List Value)} (A X:Pcs) (hm:Met ops tm ⟨some dd,.call ⟨.builtin .append,#[xo,yo],#[sT,xT]⟩,ty,pos,aft,gd⟩ true)
    (hT:P.underlying sT=some (.slice eT)) (hs:sizeT P eT=some w) (hz:zeroT P eT=some z) (hzs:z.cells.size=w) (hby:bytesT P eT=some by') (hx:P.underlying xT=some (.slice eX))
    (ev1:evl tm xo=v) (ev2:evl tm yo= .slice a n cap) (o1:OwnS eT w v es X) (o2:Sl p a n w news) (h1: ∀ u∈news.flatten,isOne u=true)
    (room:(es.length+n)*by'≤2 ^ 40) (hb2:0<by'∧by'≤2 ^ 20) (hw0:0<w)
    (nx: ∀ v' X',OwnS eT w v' (es++news) X'→RL P md f r df k cs Stop ops rest (tm.set dd v') (fun h=>St h₀ B₀ p h (A++(X'++C)))):
    RL P md f r df k cs Stop ops (⟨some dd,.call ⟨.builtin .append,#[xo,yo],#[sT,xT]⟩,ty,pos,aft,gd⟩::rest) tm (fun h=>St h₀ B₀ p h (A++(X++C))):=
  xtw (K:=fun v' h'=>∃ X',OwnS eT w v' (es++news) X'∧St h₀ B₀ p h' (A++(X'++C))) hm rfl (fun _ s=>ynx A hT hs hz hzs hby hx ev1 ev2 o1 s (zdw s hw0 o2) h1 room hb2 fun _ X' _ o' s'=>⟨X',o',s'⟩) fun v'=>xgx fun X'=>xez fun o'=>nx v' X' o'
end
end Go.X
namespace Go.X
open Go.Conc

def CallV (P:Program) (md:Md) (fv:Value) (args:List Value) (h:Heap) (R:Value→Heap→Prop):Prop:=
  ∀ (c:Frame) (cs:List Frame) (Stop:Goroutine→Heap→Prop),(∀ v h',R v h'→Reach P md (G (c.finish v) cs) h' Stop)→
    wpS P (do let d ← Deferred.ofValue fv args.toArray;invoke d.target d.args) h (Upon P md c cs Stop)

section
variable {P:Program} {md:Md} {h:Heap} {R R':Value→Heap→Prop}
theorem CallV.mono {fv:Value} {args:List Value} (x:CallV P md fv args h R) (y: ∀ v h',R v h'→R' v h'):CallV P md fv args h R':=
  fun c cs Stop z=>x c cs Stop fun v h' r=>z v h' (y v h' r)

theorem xxz {g:FuncId} {first cap args:List Value} (hg:callable P g=true) (x:CallsX P md g (first++(args++cap)).toArray h R):CallV P md (.func (.func g) first.toArray cap.toArray) args h R:=by
  intro c cs Stop z
  refine xbq ?_
  unfold Deferred.ofValue
  refine xbz ?_
  simp only [invoke]
  refine ygz hg ?_
  show Reach P md (G (Frame.enter P g _ .normal) (c::cs)) h Stop
  have e:(first.toArray++args.toArray++cap.toArray)=(first++(args++cap)).toArray:=by simp
  rw [e]
  exact x c cs Stop z
end

section
variable {P:Program} {md:Md} {f:FuncId} {r:Rd} {df:List Deferred} {k:List Item} {cs:List Frame} {Stop:Goroutine→Heap→Prop}
  {ops rest:List Oper} {tm tm':List Value} {h:Heap} {Φ:Heap→Prop} {h₀:Heap} {B₀:List Nat} {p:PHeap} {L:Pcs}

theorem ytz [Stb Φ] {args:List Operand} {ats:Array TypeId} {d:Option Tmp} {ty:TypeId} {pos:String} {aft:Array Edge} {gd:Option (Nat × Bool)} {x:Operand} {fv:Value} {vs:List Value} {R:Value→Heap→Prop}
    (hm:Met ops tm ⟨d,.call ⟨.value x,args.toArray,ats⟩,ty,pos,aft,gd⟩ true) (hx:evl tm x=fv) (hvs:args.map (evl tm)=vs)
    (hc: ∀ h,Φ h→CallV P md fv vs h R) (n: ∀ v,RL P md f r df k cs Stop ops rest (putl tm d v) (R v)):
    RL P md f r df k cs Stop ops (⟨d,.call ⟨.value x,args.toArray,ats⟩,ty,pos,aft,gd⟩::rest) tm Φ:=by
  intro pre e
  rw [yev]
  refine yyk (zfx e) (xix hm) yaz (.inr rfl) fun h y=>?_
  rw [xlw]
  have:=hc h y (F (B f r) tm.toArray df (.inRegion ops.toArray (pre.length::List.range' (pre.length+1) rest.length)::k)) cs Stop fun v h' hR=>by
    rw [xgz (zfx e),xgj]
    have:=n v (pre++[⟨d,.call ⟨.value x,args.toArray,ats⟩,ty,pos,aft,gd⟩]) (by simp [e]) h' hR
    simpa [FL] using this
  simp only [execOp,resolve,hx,List.map_toArray,hvs]
  exact this

theorem zgw {l:Nat} {lp:Loop} {vs:List Value} {R:Value→Heap→Prop} (hl:h[l]?=some (.loop lp)) (hp:vs.length=lp.params.size)
    (ht:((lp.params.zip vs.toArray).foldl (fun tmps (t,a)=>tmps.setIfInBounds t a) lp.tmps)=tm'.toArray)
    (x: ∀ (c:Frame) (cs:List Frame) (Stop:Goroutine→Heap→Prop),(∀ v h',R v h'→Reach P md (G (c.finish v) cs) h' Stop)→
      RS P md (G (FL lp.fn (.some l) tm' [] [.code lp.assign,.beginRound,.code lp.body]) (c::cs)) Φ Stop) (h0:Φ h):CallV P md (.func (.yield l) #[] #[]) vs h R:=by
  intro c cs Stop z
  refine xbq ?_
  unfold Deferred.ofValue
  refine xbz ?_
  simp only [invoke]
  unfold Instr.yield Instr.getLoop
  refine xbq ?_
  refine xbq ?_
  simp only [getObj,wpS,hl]
  refine ⟨rfl,?_⟩
  refine xbz ?_
  rw [if_neg (by simpa using hp)]
  refine xbz ?_
  show Reach P md (G (Frame.round l lp.fn _ lp.assign lp.body .normal) (c::cs)) h Stop
  have e:(#[]:Array Value)++vs.toArray=vs.toArray:=by simp
  rw [e,ht]
  exact x c cs Stop z h h0

theorem yaw {l:Nat} {lp:Loop} {K:Loop→Heap→Prop} (hl:h[l]?=some (.loop lp)) (x:K lp h):wpS P (Instr.getLoop l) h K:=by
  unfold Instr.getLoop
  refine xbq ?_
  simp only [getObj,wpS,hl]
  exact ⟨rfl,xbz x⟩
theorem yaj {l:Nat} {lp lp':Loop} {K:Unit→Heap→Prop} (hl:h[l]?=some (.loop lp)) (x:K () (h.setIfInBounds l (.loop lp'))):wpS P (setObj l (.loop lp')) h K:=by
  simp only [setObj,wpS,hl]
  exact ⟨rfl,rfl,x⟩

theorem St.setObj (s:St h₀ B₀ p h L) {i b:Nat} {o o':Obj} (hL:L[i]?=some (b,o)):St h₀ B₀ p (h.setIfInBounds b o') (L.set i (b,o')):=
  s.turn hL (by rw [Array.getElem?_setIfInBounds_self_of_lt (xmk (s.at hL))]) (by simp) fun c hc=>by rw [Array.getElem?_setIfInBounds_ne (Ne.symm hc)]

theorem wgk {l i:Nat} {lp:Loop} (hL:L[i]?=some (l,.loop lp)) (hr:lp.state= .ready)
    (x:RS P md (G (FL f (.some l) tm df k) cs) (fun h=>St h₀ B₀ p h (L.set i (l,.loop { lp with state:=.busy }))) Stop):
    RS P md (G (FL f (.some l) tm df (.beginRound::k)) cs) (fun h=>St h₀ B₀ p h L) Stop:=by
  refine zik (show (B f (.some l)).kind≠ .early from yaz) rfl (fun w=>rfl) fun h s=>?_
  show wpS P (do Instr.beginRound l;pure Next.skip) h _
  refine xbq ?_
  unfold Instr.beginRound
  refine xbq (yaw (s.at hL) ?_)
  refine xbq (yaj (s.at hL) ?_)
  rw [hr]
  refine xbz ?_
  refine xbz ?_
  exact x _ (s.setObj hL)

theorem wcj {l i:Nat} {lp lp':Loop} {c:Frame} {jump:Option Code} {v:Value} (hL:L[i]?=some (l,.loop lp)) (hv:v= .bool jump.isNone) (hl:{ lp with state:=if jump.isNone then .ready else .done,pending:=jump }=lp')
    (hstep: ∀ w,stepG P md.isMain (G (FL f (.some l) tm df k) (c::cs)) w=(let (r,es):=(Instr.endRound l jump).runT P w #[]
        GStep.after (seen P f es) <| match r with
        | .ok v w=>doReturn P md.isMain (FL f (.some l) tm df k) (c::cs) none v w
        | .halt _ w => .ended (.stuck "range over a function: no such loop" ((FL f (.some l) tm df k).pos P)) w))
    (x:RS P md (G (c.finish v) cs) (fun h=>St h₀ B₀ p h (L.set i (l,.loop lp'))) Stop):
    RS P md (G (FL f (.some l) tm df k) (c::cs)) (fun h=>St h₀ B₀ p h L) Stop:=by
  intro h s
  refine xpx ⟨rfl,fun h₁ k₁ S w V=>?_⟩
  have s₁:=s.call k₁
  have hx:wpS P (Instr.endRound l jump) h₁ fun v' h'=>v'=v∧St h₀ B₀ p h' (L.set i (l,.loop lp')):=by
    unfold Instr.endRound
    refine xbq (yaw (s₁.at hL) ?_)
    refine xbq (yaj (s₁.at hL) ?_)
    refine xbz ⟨hv.symm,?_⟩
    rw [← hl]
    exact s₁.setObj hL
  obtain ⟨v',h',w',es,e1,e2,⟨e3,e4⟩,e5,e6,e7⟩:=yak _ #[] hx V
  subst e3
  refine ⟨_,h',w',seen P f es,?_,x h' e4,e5,e6,xxq e7⟩
  rw [hstep w]
  simp only [Array.empty_append] at e1
  simp only [e1,GStep.after,doReturn,FL,F,B,Rd.kind,Rd.round,G,Array.append_empty]

theorem zgx {l i:Nat} {lp lp':Loop} {c:Frame} (hL:L[i]?=some (l,.loop lp)) (hl:{ lp with state:=.ready,pending:=none }=lp')
    (x:RS P md (G (c.finish (.bool true)) cs) (fun h=>St h₀ B₀ p h (L.set i (l,.loop lp'))) Stop):
    RS P md (G (FL f (.some l) tm df []) (c::cs)) (fun h=>St h₀ B₀ p h L) Stop:=
  wcj hL rfl (jump:=none) (by simpa using hl) (fun _=>rfl) x
theorem zgz {l i:Nat} {lp:Loop} (hL:L[i]?=some (l,.loop lp)) (hb:lp.state≠ .busy)
    (x:RS P md (G (FL f r tm df ((lp.pending.map Item.code).toList++k)) cs) (fun h=>St h₀ B₀ p h (L.set i (l,.loop { lp with state:=.exhausted }))) Stop):
    RS P md (G (FL f r tm df (.endRangeFunc l::k)) cs) (fun h=>St h₀ B₀ p h L) Stop:=by
  intro h s
  refine xpx ⟨rfl,fun h₁ k₁ S w V=>?_⟩
  have s₁:=s.call k₁
  have hx:wpS P (Instr.endLoop l) h₁ fun v' h'=>v'=lp.pending∧St h₀ B₀ p h' (L.set i (l,.loop { lp with state:=.exhausted })):=by
    unfold Instr.endLoop
    refine xbq (yaw (s₁.at hL) ?_)
    rw [if_neg (by cases h:lp.state <;> simp_all)]
    refine xbq (yaj (s₁.at hL) ?_)
    exact xbz ⟨rfl,s₁.setObj hL⟩
  obtain ⟨v',h',w',es,e1,e2,⟨e3,e4⟩,e5,e6,e7⟩:=yak _ #[] hx V
  subst e3
  refine ⟨_,h',w',seen P f es,?_,x h' e4,e5,e6,xxq e7⟩
  simp only [Array.empty_append] at e1
  simp only [G,stepG,stepG.exec,FL,F,B,e1,GStep.after,Array.append_empty]

def loopOf (f:FuncId) (tm:List Value) (params:Array Tmp) (assign body:Code) (r:Nat):Loop:={ state:=.ready,pending:=none,fn:=f,tmps:=tm.toArray,params,assign,body,defers:=r }

theorem zqw: ∀ (l:List (Nat × Value)) (tm:List Value),l.foldl (fun (tmps:Array Value) (q:Nat × Value)=>tmps.setIfInBounds q.1 q.2) tm.toArray=(l.foldl (fun tm q=>tm.set q.1 q.2) tm).toArray
  | [],_=>rfl
  | q::l,tm=>by
    simp only [List.foldl_cons]
    rw [← zqw l];simp

theorem zhq {l d:Nat} {lp:Loop} {vs:List Value} {R:Value→Heap→Prop} {params:List Tmp} {assign body:Code} (hl:h[l]?=some (.loop lp)) (e:lp=loopOf f tm params.toArray assign body d) (hp:vs.length=params.length)
    (ht:(params.zip vs).foldl (fun tm q=>tm.set q.1 q.2) tm=tm')
    (x: ∀ (c:Frame) (cs:List Frame) (Stop:Goroutine→Heap→Prop),(∀ v h',R v h'→Reach P md (G (c.finish v) cs) h' Stop)→
      RS P md (G (FL f (.some l) tm' [] [.code assign,.beginRound,.code body]) (c::cs)) Φ Stop) (h0:Φ h):CallV P md (.func (.yield l) #[] #[]) vs h R:=by
  subst e;exact zgw hl (by simpa [loopOf] using hp) (by
    show ((params.toArray.zip vs.toArray).foldl (fun (tmps:Array Value) (q:Nat × Value)=>tmps.setIfInBounds q.1 q.2) tm.toArray)=_
    rw [List.zip_toArray,List.foldl_toArray,zqw,ht]) x h0

theorem zqz {l i:Nat} {lp:Loop} (hL:L[i]?=some (l,.loop lp)) (hb:lp.state≠ .busy) (hp:lp.pending=none)
    (x:RS P md (G (FL f r tm df k) cs) (fun h=>St h₀ B₀ p h (L.set i (l,.loop { lp with state:=.exhausted }))) Stop):
    RS P md (G (FL f r tm df (.endRangeFunc l::k)) cs) (fun h=>St h₀ B₀ p h L) Stop:=zgz hL hb (by
  have e:(lp.pending.map Item.code).toList++k=k:=by rw [hp];rfl
  rw [e];exact x)
theorem xwj {α:Type}: ∀ {l:List α} {i:Nat} {x:α},l[i]?=some x→l.Perm (x::l.eraseIdx i)
  | [],_,_,h=>by simp at h
  | a::l,0,x,h=>by simp at h;subst h;exact .refl _
  | a::l,i+1,x,h=>((xwj (l:=l) (i:=i) (by simpa using h)).cons a).trans (.swap _ _ _)

theorem ysw {g:Goroutine} {b:Nat} {o:Obj} (i:Nat) (hL:L[i]?=some (b,o)) {L':Pcs} (he:L.eraseIdx i=L')
    (n: ∀ p',PLe p p'→p' b=some o→RS P md g (fun h=>St h₀ B₀ p' h L') Stop):RS P md g (fun h=>St h₀ B₀ p h L) Stop:=fun h s=>by
  subst he
  have s':St h₀ B₀ p h ((b,o)::L.eraseIdx i):=s.perm (xwj hL)
  exact n _ s'.last.1 xyz h s'.last.2

theorem xrq {g:Goroutine} {L':Pcs} (e:L=L') (n:RS P md g (fun h=>St h₀ B₀ p h L') Stop):RS P md g (fun h=>St h₀ B₀ p h L) Stop:=by subst e;exact n

theorem xqk {g:Goroutine} {L':Pcs} (e:L.Perm L') (n:RS P md g (fun h=>St h₀ B₀ p h L') Stop):RS P md g (fun h=>St h₀ B₀ p h L) Stop:=fun h s=>n h (s.perm e)

theorem St.rot {Z A U:Pcs} (s:St h₀ B₀ p h (Z++((A++U)++[]))):St h₀ B₀ p h (A++(U++(Z++[]))):=s.perm (by
  rw [List.append_nil,List.append_nil,← List.append_assoc A U Z];exact List.perm_append_comm)
theorem St.rot' {Z A U:Pcs} (s:St h₀ B₀ p h (A++(U++(Z++[])))):St h₀ B₀ p h (Z++((A++U)++[])):=s.perm (by
  rw [List.append_nil,List.append_nil,← List.append_assoc A U Z];exact List.perm_append_comm)

def mark (r:Nat):Deferred:={ target:=.collected r,args:=#[] }

theorem wgz {rr:Rd} {fop:Operand} {params:Array Tmp} {assign body:Code} {R:Nat→Nat→Loop→Value→Heap→Prop}
    (hc: ∀ r l lp h,lp=loopOf f tm params assign body r→St h₀ B₀ p h ((l,.loop lp)::(r,.deferred (some []))::L)→CallV P md (evl tm fop) [.func (.yield l) #[] #[]] h (R r l lp))
    (n: ∀ r l lp v,lp=loopOf f tm params assign body r→RS P md (G (FL f rr tm (mark r::df) (.endRangeFunc l::k)) cs) (R r l lp v) Stop) (hrr:rr.round=Option.none:=by rfl):
    RS P md (G (FL f rr tm df (.code (.rangeFunc fop params assign body)::k)) cs) (fun h=>St h₀ B₀ p h L) Stop:=by
  intro h s
  refine xpx ⟨rfl,fun h₁ k₁ S w V=>?_⟩
  have s₁:=s.call k₁
  have hx:wpS P (Instr.enterLoop f tm.toArray params assign body none) h₁ fun a h'=>∃ r l,a=(l,[mark r])∧
      St h₀ B₀ p h' ((l,.loop (loopOf f tm params assign body r))::(r,.deferred (some []))::L):=by
    unfold Instr.enterLoop
    refine xbq ?_
    refine xbq ?_
    simp only [newObj]
    refine xbz ?_
    refine xbq ?_
    simp only [wpS]
    exact xbz ⟨_,_,rfl,(s₁.push _).push _⟩
  obtain ⟨a,h',w',es,e1,e2,⟨r,l,rfl,e4⟩,e5,e6,e7⟩:=yak _ #[] hx V
  have hup:=hc r l _ h' rfl e4 (FL f rr tm (mark r::df) (.inRangeFunc l::k)) cs Stop fun v h2 y=>n r l _ v rfl h2 y
  obtain ⟨nx,h2,w2,es2,g1,g2,g3,g4,g5,g6⟩:=yak _ #[] hup e5
  simp only [Array.empty_append] at e1 g1
  have hstep:stepG P md.isMain (G (FL f rr tm df (.code (.rangeFunc fop params assign body)::k)) cs) w=
      GStep.after (seen P f es) (stepG.apply P true (FL f rr tm (mark r::df) (.inRangeFunc l::k)) cs none (do let d ← Deferred.ofValue (evl tm fop) #[.func (.yield l) #[] #[]];invoke d.target d.args) w'):=by
    have he:Frame.eval (FL f rr tm (mark r::df) (.inRangeFunc l::k))=evl tm:=by rw [← xlw];exact zlk
    simp only [G,stepG,stepG.exec,FL,F,B,hrr,e1]
    simp only [FL,F,B,hrr] at he
    simp only [resolve,List.map_toArray,List.map_cons,List.map_nil]
    have e3:({ fn:=f,tmps:=tm.toArray,todo:=.inRangeFunc l::k,defers:=[mark r]++df,mode:=.run,kind:=rr.kind,roundOf:=Option.none }:Frame).eval=evl tm:=he
    rw [e3]
    rfl
  have hev: ∀ e∈seen P f es++seen P f es2,EvX S w2.heap.size e:=fun e he=>by
    rcases Array.mem_append.1 he with he | he
    · exact whz g5.size (xxq e7 e he)
    · exact xxq g6 e he
  have hkk:(rr.kind == CallKind.early)=false:=by cases rr <;> rfl
  rw [hstep]
  cases nx <;> first | exact g3.elim | skip
  all_goals
    refine ⟨_,h2,w2,seen P f es++seen P f es2,?_,g3,g4,e6.trans g5,hev⟩
    simp only [stepG.apply,if_true]
    simp only [g1,GStep.after,FL,F,B,hrr,hkk,Bool.false_eq_true,if_false,G,Array.append_empty]
    try rfl

theorem wnw {c₀:Frame} {fn:Func} {rs:List ResultVar} {vs:List Value} {v:Value} {m i:Nat} (hf:P.funcs[f]?=some fn) (hr:fn.results=rs.toArray) (hL:L[i]?=some (m,.deferred (some [])))
    (e: ∀ h,St h₀ B₀ p h (L.set i (m,.deferred none))→Res P h tm rs vs) (hv:packs vs=v)
    (x:RS P md (G (c₀.finish v) cs) (fun h=>St h₀ B₀ p h (L.set i (m,.deferred none))) Stop):RS P md (G (FL f .none tm [mark m] (.code .ret::k)) (c₀::cs)) (fun h=>St h₀ B₀ p h L) Stop:=
  ztj (hro:=rfl) fun _=>yyv (fun _ s=>s.at hL) fun _ s=>ykv (Φ:=fun h=>St h₀ B₀ p h (L.set i (m,.deferred none))) hf rfl (fun h y=>yav hr (e h y) hv (x h y)) _ (s.setObj hL)
end

structure Turned (h h':Heap) (b:Nat) (o:Obj):Prop where
  size:h.size≤h'.size
  keep: ∀ c,c<h.size→c≠b→h'[c]?=h[c]?
  here:h'[b]?=some o

section
variable {h₀ h h':Heap} {B₀:List Nat} {p:PHeap} {L:Pcs}
theorem St.turned {b:Nat} {o:Obj} (s:St h₀ [b] p h L) (i:Nat) (hL:L[i]?=some (b,o)):Turned h₀ h b o:=
  ⟨s.size,fun c hc hn=>s.keep c hc (by simpa using hn),s.at hL⟩
end

theorem xnq {p:PHeap} {b off:Nat} {c:Array Value} {t:TypeId} {z:Nat × Nat} {v:Value} (hb:p b=some (.cells c t z)) (hv:c[off]?=some v):pcell p ⟨b,off,none⟩=some v:=by
  unfold pcell;rw [hb];exact hv

theorem xvq {p:PHeap} {b off n:Nat} {c:Array Value} {t:TypeId} {z:Nat × Nat} {vs:List Value} (hb:p b=some (.cells c t z)) (hv:(c.toList.drop off).take n=vs):
    ∀ j v,vs[j]?=some v→pcell p ((⟨b,off,none⟩:Addr).add j)=some v:=fun j v hj=>by
  rw [xjv]
  refine xnq hb ?_
  subst hv
  rw [List.getElem?_take] at hj
  split at hj
  · rw [List.getElem?_drop] at hj;simpa using hj
  · cases hj

section
variable {P:Program} {tm:List Value} {d:Option Tmp} {ty:TypeId} {pos:String} {aft:Array Edge} {gd:Option (Nat × Bool)} {h:Heap}
theorem xkq {x:Operand} {a:Addr} (hx:evl tm x= .pointer (some a)):Exd P tm ⟨d,.nilCheck x,ty,pos,aft,gd⟩ h (.pointer (some a)):=by
  unfold Exd Ex;simp only [execOp,hx];exact xbz ⟨_,rfl,rfl,rfl⟩

variable {md:Md} {f:FuncId} {r:Rd} {df:List Deferred} {k:List Item} {cs:List Frame} {Stop:Goroutine→Heap→Prop} {ops rest:List Oper} {tm':List Value} {Φ:Heap→Prop}
theorem xyx [sb:Stb Φ] {args:List Operand} {ats:Array TypeId} {x:Operand} {fv v:Value} {vs:List Value}
    (hm:Met ops tm ⟨d,.call ⟨.value x,args.toArray,ats⟩,ty,pos,aft,gd⟩ true) (hx:evl tm x=fv) (hvs:args.map (evl tm)=vs)
    (hc: ∀ h,Φ h→CallV P md fv vs h fun v' h'=>v'=v∧Keep h h') (ht:putl tm d v=tm') (n:RL P md f r df k cs Stop ops rest tm' Φ):
    RL P md f r df k cs Stop ops (⟨d,.call ⟨.value x,args.toArray,ats⟩,ty,pos,aft,gd⟩::rest) tm Φ:=
  ytz (R:=fun v' h'=>v'=v∧Φ h') hm hx hvs (fun h y=>(hc h y).mono fun _ h' ⟨e1,e2⟩=>⟨e1,sb.stb _ _ y e2⟩) fun v' pre e h ⟨e1,y⟩=>by subst e1;rw [ht];exact n pre e h y
end
end Go.X
namespace Go.X
open Go.Conc

def adrV:Value→Addr
  | .slice (some a) _ _=>a
  | _=>⟨0,0,none⟩

theorem ycq {w:Nat} {y:Value}: ∀ {es:List (List Value)},(∀ e∈es,e.length=w)→ ∀ {i j:Nat} {e:List Value},es[i]?=some e→j<e.length→es.flatten.set (i*w+j) y=(es.set i (e.set j y)).flatten
  | [],_,i,_,e,hi,_=>by simp at hi
  | e₀::es,h,i,j,e,hi,hj=>by
    have h0:=h e₀ (by simp)
    cases i with
    | zero=>
      simp at hi;subst hi
      rw [Nat.zero_mul,Nat.zero_add,List.flatten_cons,List.set_cons_zero,List.flatten_cons,List.set_append_left _ _ hj]
    | succ i=>
      simp at hi
      have:=ycq (y:=y) (fun x hx=>h x (by simp [hx])) hi hj
      rw [List.flatten_cons,List.set_cons_succ,List.flatten_cons,List.set_append_right _ _ (by rw [h0,Nat.succ_mul];omega),← this]
      congr 2
      rw [h0,Nat.succ_mul];omega

theorem OwnS.has {T:TypeId} {w i:Nat} {v:Value} {es:List (List Value)} {X:List (Nat × Obj)} (o:OwnS T w v es X) (hi:i<es.length):
    ∃ b cs cap rest,v= .slice (some ⟨b,0,none⟩) es.length cap∧X=[(b,.cells (List.toArray cs) T (0,0))]∧cs=es.flatten++rest∧cs.length=cap*w∧(w=1→cap≤9223372036854775807):=by
  obtain ⟨_,⟨_,h,_⟩ | h⟩:=o
  · subst h;simp at hi
  · exact h

section
variable {P:Program} {md:Md} {f:FuncId} {r:Rd} {df:List Deferred} {k:List Item} {cs:List Frame} {Stop:Goroutine→Heap→Prop}
  {ops rest:List Oper} {tm tm':List Value} {h:Heap} {h₀:Heap} {B₀:List Nat} {p:PHeap} {A X C L:Pcs} {d:Option Tmp} {ty:TypeId} {pos:String} {aft:Array Edge} {gd:Option (Nat × Bool)}
  {T:TypeId} {w:Nat} {v:Value} {es:List (List Value)}

theorem whq {t e:TypeId} {x:Operand} (o:OwnS T w v es X) (ht:P.underlying t=some (.slice e)) (hx:evl tm x=v):
    Exd P tm ⟨d,.call ⟨.builtin .len,#[x],#[t]⟩,ty,pos,aft,gd⟩ h (.int .i64 (es.length:Nat)):=by
  obtain ⟨a,cap,e,_⟩:=o.val
  exact xfj ht (hx.trans e)

theorem yiw {t e:TypeId} {x:Operand} {n:Nat} (o:OwnS T w v es X) (hn:es.length=n) (ht:P.underlying t=some (.slice e)) (hx:evl tm x=v):
    Exd P tm ⟨d,.call ⟨.builtin .len,#[x],#[t]⟩,ty,pos,aft,gd⟩ h (.int .i64 (n:Nat)):=by subst hn;exact whq o ht hx

theorem xnj {t e:TypeId} {x y:Operand} {i:Nat} (o:OwnS T w v es X) (ht:P.underlying t=some (.slice e)) (hs:sizeT P e=some w) (hx:evl tm x=v) (hy:evl tm y= .int .i64 (i:Nat)) (hi:i<es.length):
    Exd P tm ⟨d,.indexAddr t x y,ty,pos,aft,gd⟩ h (.pointer (some ((adrV v).add (i*w)))):=by
  obtain ⟨b,cs,cap,rest,e1,_⟩:=o.has hi
  rw [e1] at hx ⊢
  exact xdx ht hs hx hy hi

theorem xtq {t:TypeId} {x:Operand} {i j:Nat} {e:List Value} {u:Value} {a:Addr} (o:OwnS T w v es X) (s:St h₀ B₀ p h (A++(X++C))) (ht:aggT P t=some false) (hx:evl tm x= .pointer (some a)) (ha:((adrV v).add (i*w)).add j=a)
    (hi:es[i]?=some e) (hj:e[j]?=some u):Exd P tm ⟨d,.load t x,ty,pos,aft,gd⟩ h u:=by
  obtain ⟨b,cs,cap,rest,e1,e2,e3,e4,e5⟩:=o.has (List.getElem?_eq_some_iff.1 hi).1
  subst e1;subst e2;subst ha
  refine yiv ht hx ?_
  simp only [adrV]
  rw [xjv,xjv]
  refine s.ocell (i:=A.length) (cs:=cs.toArray) (T:=T) (z:=(0,0)) (by rw [List.getElem?_append_right (Nat.le_refl _)];simp) ?_
  have:=xlk o.1 hi hj
  rw [List.getElem?_toArray,e3,Nat.zero_add,List.getElem?_append_left (List.getElem?_eq_some_iff.1 this).1]
  exact this

theorem xuw {T':TypeId} {x y:Operand} {i j:Nat} {e:List Value} {u:Value} {a:Addr} (o:OwnS T w v es X) (hm:Met ops tm ⟨none,.store T' x y,ty,pos,aft,gd⟩ true) (hs:sizeT P T'=some 1) (hx:evl tm x= .pointer (some a)) (ha:((adrV v).add (i*w)).add j=a)
    (hy:evl tm y=u) (hv:u.cells=#[u]∧isOne u=true) (hi:es[i]?=some e) (hj:j<e.length)
    (n: ∀ X',OwnS T w v (es.set i (e.set j u)) X'→RL P md f r df k cs Stop ops rest tm (fun h=>St h₀ B₀ p h (A++(X'++C)))):
    RL P md f r df k cs Stop ops (⟨none,.store T' x y,ty,pos,aft,gd⟩::rest) tm (fun h=>St h₀ B₀ p h (A++(X++C))):=by
  have hil:=(List.getElem?_eq_some_iff.1 hi).1
  obtain ⟨b,cs',cap,rs,e1,e2,e3,e4,ec⟩:=o.has hil
  have hlt:i*w+j<es.flatten.length:=(List.getElem?_eq_some_iff.1 (xlk o.1 hi (List.getElem?_eq_getElem hj))).1
  have he:e.length=w:=o.1 e (List.mem_of_getElem? hi)
  subst e1;subst e2;subst ha
  have e5:cs'.set (i*w+j) u=(es.set i (e.set j u)).flatten++rs:=by
    rw [e3,List.set_append_left _ _ hlt,ycq o.1 hi hj]
  have o':OwnS T w (.slice (some ⟨b,0,none⟩) es.length cap) (es.set i (e.set j u)) [(b,.cells (cs'.set (i*w+j) u).toArray T (0,0))]:=by
    refine ⟨fun z hz=>?_,.inr ⟨b,cs'.set (i*w+j) u,cap,rs,by simp,rfl,e5,by simpa using e4,ec⟩⟩
    rcases List.mem_or_eq_of_mem_set hz with h | h
    · exact o.1 z h
    · subst h;simpa using he
  have hx':evl tm x= .pointer (some ⟨b,i*w+j,none⟩):=by
    rw [hx];simp only [adrV];rw [xjv,xjv,Nat.zero_add]
  refine ykw (i:=A.length) (b:=b) (off:=i*w+j) (cs':=cs') (T':=T) hm hs hx' hy hv (by rw [List.getElem?_append_right (Nat.le_refl _)];simp) (by rw [e3,List.length_append];omega) rfl ?_
  have e6:(A++([(b,Obj.cells (List.toArray cs') T (0,0))]++C)).set A.length (b,.cells (cs'.set (i*w+j) u).toArray T (0,0))=A++([(b,.cells (cs'.set (i*w+j) u).toArray T (0,0))]++C):=by
    rw [List.set_append_right _ _ (Nat.le_refl _)];simp
  rw [e6]
  exact n _ o'

theorem weq (o:OwnS T w v es X) (n: ∀ p' a cap,PLe p p'→v= .slice a es.length cap→Sl p' a es.length w es→RL P md f r df k cs Stop ops rest tm (fun h=>St h₀ B₀ p' h (A++C))):
    RL P md f r df k cs Stop ops rest tm (fun h=>St h₀ B₀ p h (A++(X++C))):=fun pre e h s=>by
  obtain ⟨p',a,cap,h1,h2,h3,h4,_⟩:=o.last (s.perm (by rw [← List.append_assoc,← List.append_assoc];exact List.Perm.append_right C List.perm_append_comm):St h₀ B₀ p h (X++(A++C)))
  exact n p' a cap h1 h3 h4 pre e h h2
theorem wck {g:Goroutine} (o:OwnS T w v es X) (n: ∀ p' a cap,PLe p p'→v= .slice a es.length cap→Sl p' a es.length w es→RS P md g (fun h=>St h₀ B₀ p' h (A++C)) Stop):
    RS P md g (fun h=>St h₀ B₀ p h (A++(X++C))) Stop:=fun h s=>by
  obtain ⟨p',a,cap,h1,h2,h3,h4,_⟩:=o.last (s.perm (by rw [← List.append_assoc,← List.append_assoc];exact List.Perm.append_right C List.perm_append_comm):St h₀ B₀ p h (X++(A++C)))
  exact n p' a cap h1 h3 h4 h h2

theorem yhw {n:Nat} (o:OwnS T w v es X) (hn:es.length=n) (nx: ∀ p' a cap,PLe p p'→v= .slice a n cap→Sl p' a n w es→RL P md f r df k cs Stop ops rest tm (fun h=>St h₀ B₀ p' h (A++C))):
    RL P md f r df k cs Stop ops rest tm (fun h=>St h₀ B₀ p h (A++(X++C))):=by subst hn;exact weq o nx

theorem St.forget {p':PHeap} (s:St h₀ B₀ p' h L) (le:PLe p p'):St h₀ B₀ p h L:=
  ⟨s.keep,s.size,fun b o e=>s.per b o (le b o e),fun x hx=>⟨(s.own x hx).1,(by
    cases e:p x.1 with
    | none=>rfl
    | some o=>have h:=(s.own x hx).2.1;rw [le _ _ e] at h;cases h),(s.own x hx).2.2⟩,s.nod⟩
theorem St.perO {b i:Nat} {o:Obj} (s:St h₀ B₀ p h L) (hL:L[i]?=some (b,o)):Per (padd p b o) h:=fun c x hc=>by
  unfold padd at hc
  split at hc
  · rename_i e;subst e;cases hc;exact s.at hL
  · exact s.per c x hc
theorem St.leO {b i:Nat} {o:Obj} (s:St h₀ B₀ p h L) (hL:L[i]?=some (b,o)):PLe p (padd p b o):=zfj (s.own _ (mem_of_get? hL)).2.1
end

section
variable {P:Program} {md:Md} {Base:Heap→Prop} {ops rest:List Oper} {tm tm' tmF:List Value} {d:Option Tmp} {ty:TypeId} {pos:String} {aft:Array Edge} {gd:Option (Nat × Bool)}
theorem zzj {T e T':TypeId} {x:Operand} {a:Option Addr} {n c:Nat} {h:Heap} (hT:P.underlying T=some (.slice e)) (hx:evl tm x= .slice a n c):
    Exd P tm ⟨d,.binOp .eql T x (.const (.slice none 0 0)) T',ty,pos,aft,gd⟩ h (.bool a.isNone):=by
  refine xov hx rfl (fun K z=>?_) ?_
  · unfold eqGuard
    rw [if_neg (by decide)]
    exact xbz z
  · simp only [evl,binOp,Op.equal,Op.maxDepth]
    refine xbq ?_
    rw [show (10000:Nat)=9999+1 from rfl]
    unfold Op.equalIn
    refine xbq (xdv hT ?_)
    cases a with
    | none=>exact xbz (xbz ⟨rfl,rfl⟩)
    | some a=>exact xbz (xbz ⟨rfl,rfl⟩)
end
section
variable {P:Program} {md:Md} {Base:Heap→Prop} {ops full rest:List Oper} {f:FuncId} {r:Rd} {df:List Deferred} {k:List Item} {cs:List Frame} {Stop:Goroutine→Heap→Prop} {tm tm':List Value}
end
end Go.X
namespace Go.X
open Go.Conc
theorem xtj {P:Program} {md:Md} {Stop:Goroutine→Heap→Prop} {h₀:Heap} {B₀:List Nat} {p:PHeap} {A X C:Pcs} {T:TypeId} {w:Nat} {v:Value} {es:List (List Value)} {g:Goroutine} {n:Nat} (o:OwnS T w v es X) (hn:es.length=n)
    (nx: ∀ p' a cap,PLe p p'→v= .slice a n cap→Sl p' a n w es→RS P md g (fun h=>St h₀ B₀ p' h (A++C)) Stop):RS P md g (fun h=>St h₀ B₀ p h (A++(X++C))) Stop:=by
  subst hn;exact wck o nx
section
variable {P:Program} {h₀ h:Heap} {B₀:List Nat} {p:PHeap} {A X C L:Pcs} {T:TypeId} {w:Nat} {v:Value} {es:List (List Value)}
variable {tm:List Value} {d:Option Tmp} {ty:TypeId} {pos:String} {aft:Array Edge} {gd:Option (Nat × Bool)}
theorem ymw {t:TypeId} {x:Operand} {i j:Nat} {e:List Value} {u:Value} {a:Addr} (o:OwnS T w v es X) (s:St h₀ B₀ p h L) (hX: ∀ x∈X,x∈L) (ht:aggT P t=some false) (hx:evl tm x= .pointer (some a)) (ha:((adrV v).add (i*w)).add j=a)
    (hi:es[i]?=some e) (hj:e[j]?=some u):Exd P tm ⟨d,.load t x,ty,pos,aft,gd⟩ h u:=by
  obtain ⟨b,cs,cap,rest,e1,e2,e3,e4,_⟩:=o.has (List.getElem?_eq_some_iff.1 hi).1
  subst e1;subst e2;subst ha
  refine yiv ht hx ?_
  simp only [adrV]
  rw [xjv,xjv]
  obtain ⟨q,hq⟩:=List.getElem?_of_mem (hX (b,.cells cs.toArray T (0,0)) (by simp))
  refine s.ocell (i:=q) (cs:=cs.toArray) (T:=T) (z:=(0,0)) hq ?_
  have:=xlk o.1 hi hj
  rw [List.getElem?_toArray,e3,Nat.zero_add,List.getElem?_append_left (List.getElem?_eq_some_iff.1 this).1]
  exact this
end
end Go.X
namespace Go.X
open Go.Conc

inductive Bd (tm:List Value):Option Operand→Nat→Nat→Prop
  | none (d:Nat):Bd tm none d d
  | some {o:Operand} {k:IntKind} {z:Int} (d:Nat) (h:evl tm o= .int k z) (h0:0≤z):Bd tm (some o) d z.toNat
  | nat {o:Operand} {k:IntKind} {z:Nat} (d:Nat) (h:evl tm o= .int k (z:Nat)):Bd tm (some o) d z
def cutA (a:Option Addr) (c l w:Nat):Option Addr:=if c=l then a else a.map (·.add (l*w))

section
variable {P:Program} {h:Heap} {tm:List Value} {d:Option Tmp} {ty:TypeId} {pos:String} {aft:Array Edge} {gd:Option (Nat × Bool)}
theorem xqw {k:IntKind} {z:Int} {y:Nat} {code:BoundsCode} {K:Nat→Heap→Prop} (h0:0≤z) (h1:z≤(y:Nat)) (x:K z.toNat h):wpS P (Instr.sliceBound (.int k z) y code) h K:=by
  unfold Instr.sliceBound
  refine xbq (xbz ?_)
  simp only
  rw [if_pos ⟨h0,h1⟩]
  exact xbz x
theorem xsj {b:Bool} {n c l r:Nat} {lo hi:Option Operand} {K:Nat × Nat × Nat→Heap→Prop} (bl:Bd tm lo 0 l) (bh:Bd tm hi n r) (h1:l≤r) (h2:r≤c) (x:K (l,r,c) h):
    wpS P (Instr.sliceBounds b n c (lo.map (evl tm)) (hi.map (evl tm)) none) h K:=by
  unfold Instr.sliceBounds
  refine xbq (xbz ?_)
  have low: ∀ (b':Bool),wpS P (match lo.map (evl tm) with | some v=>do { let l ← Instr.sliceBound v r (if b' then .slice3C else .sliceB);pure (l,r,c) } | none=>do { let l ← pure 0;pure (l,r,c) }) h K:=by
    intro b'
    cases bl with
    | none=>exact xbq (xbz (xbz x))
    | some _ e h0=>simp only [Option.map_some,e];exact xbq (xqw h0 (by omega) (xbz x))
    | nat _ e=>simp only [Option.map_some,e];exact xbq (xqw (Int.natCast_nonneg _) (by omega) (xbz (by simpa using x)))
  cases bh with
  | none=>
    simp only [Option.map_none]
    refine xbq (xbz ?_)
    exact low _
  | some _ e h0=>
    simp only [Option.map_some,e]
    refine xbq (xqw h0 (by omega) ?_)
    exact low _
  | nat _ e=>
    simp only [Option.map_some,e]
    refine xbq (xqw (Int.natCast_nonneg _) (by omega) ?_)
    rw [Int.toNat_natCast]
    exact low _

theorem zbv {t e:TypeId} {x:Operand} {lo hi:Option Operand} {w n c l r:Nat} {a:Option Addr} (ht:P.underlying t=some (.slice e)) (hs:sizeT P e=some w) (hx:evl tm x= .slice a n c) (bl:Bd tm lo 0 l) (bh:Bd tm hi n r)
    (h1:l≤r) (h2:r≤c):Exd P tm ⟨d,.slice t x lo hi none,ty,pos,aft,gd⟩ h (.slice (cutA a c l w) (r-l) (c-l)):=by
  refine xqx (s:=Instr.sliceAt t (.slice a n c) (lo.map (evl tm)) (hi.map (evl tm)) none) (by simp only [execOp,hx,Option.map_none]) ?_
  unfold Instr.sliceAt
  refine xbq (xdv ht ?_)
  simp only
  unfold Instr.slice
  refine xbq (xdv ht ?_)
  simp only
  refine xbq (xsj bl bh h1 h2 ?_)
  simp only
  refine xbq (xik hs ?_)
  exact xbz ⟨rfl,rfl⟩
theorem zqj {t:TypeId} {x:Operand} {lo hi:Option Operand} {l r:Nat} {s:ByteArray} (ht:P.underlying t=some .string) (hx:evl tm x= .string s) (bl:Bd tm lo 0 l) (bh:Bd tm hi s.size r)
    (h1:l≤r) (h2:r≤s.size):Exd P tm ⟨d,.slice t x lo hi none,ty,pos,aft,gd⟩ h (.string (s.extract l r)):=by
  refine xqx (s:=Instr.sliceAt t (.string s) (lo.map (evl tm)) (hi.map (evl tm)) none) (by simp only [execOp,hx,Option.map_none]) ?_
  unfold Instr.sliceAt
  refine xbq (xdv ht ?_)
  simp only
  unfold Instr.slice
  refine xbq (xdv ht ?_)
  simp only [Option.isSome_none,Bool.false_eq_true,if_false]
  refine xbq (xsj bl bh h1 h2 ?_)
  exact xbz ⟨rfl,rfl⟩
theorem Sl.part {p:PHeap} {a:Option Addr} {n c w l r:Nat} {es:List (List Value)} (s:Sl p a n w es) (hc:n≤c) (h1:l≤r) (h2:r≤n):Sl p (cutA a c l w) (r-l) w ((es.drop l).take (r-l)):=
  s.cut h1 h2 fun hlt=>by unfold cutA;rw [if_neg (by omega),s.ne (by omega)];rfl
end

section
variable {P:Program} {md:Md} {f:FuncId} {r:Rd} {df:List Deferred} {k:List Item} {cs:List Frame} {Stop:Goroutine→Heap→Prop} {ops rest:List Oper} {tm:List Value}
  {h₀:Heap} {B₀:List Nat} {p:PHeap} {A X C:Pcs} {T:TypeId} {w:Nat} {v:Value} {es:List (List Value)} {n:Nat} {g:Goroutine}
theorem OwnS.room (o:OwnS T w v es X) (hw:0<w) {a:Option Addr} {m cap:Nat} (e:v= .slice a m cap):m≤cap:=by
  obtain ⟨h1,⟨rfl,rfl,rfl⟩ | ⟨b,cs,cap',rest,rfl,rfl,hcs,hlen,hcap⟩⟩:=o
  · cases e;exact Nat.le_refl _
  · cases e
    have h2:=xiv h1
    have h3:cs.length=es.flatten.length+rest.length:=by rw [hcs];simp
    have:es.length*w≤cap*w:=by omega
    exact Nat.le_of_mul_le_mul_right this hw
end
end Go.X
namespace Go.X.Kn
open Go.X

theorem xrz {q:Nat→Prop} {k:Nat} (hs: ∀ i,i<k→q i) (h:q k): ∀ i,i<k+1→q i:=fun i hi=>by
  by_cases e:i=k
  · subst e;exact h
  · exact hs i (by omega)
theorem ytv {α:Type} {l:List α} {i:Nat} {d:α} (h:i<l.length):l.getD i d=l[i]:=by
  rw [List.getD_eq_getElem?_getD,List.getElem?_eq_getElem h];rfl
theorem xmw {α:Type} {l:List α} {i:Nat} {d:α} (h:i<l.length):l.getD i d∈l:=by rw [ytv h];exact List.getElem_mem h
theorem xrv {α:Type} {l:List α} {d:α} {q:α→Prop}:(∀ x∈l,q x)↔ ∀ i,i<l.length→q (l.getD i d):=
  ⟨fun h _ hi=>h _ (xmw hi),fun h x hx=>by
    obtain ⟨i,hi,rfl⟩:=List.mem_iff_getElem.1 hx
    have:=h i hi;rwa [ytv hi] at this⟩
def idxA {α:Type} (q:α→Bool):List α→Int
  | []=>-1
  | d::ds=>if q d=true then 0 else if idxA q ds<0 then -1 else idxA q ds+1
theorem xpw {α:Type} {q:α→Bool} {z:α}: ∀ {ds:List α},(∀ i,i<ds.length→q (ds.getD i z)=false)→idxA q ds= -1
  | [],_=>rfl
  | d::ds,h=>by
    have h0:q d=false:=h 0 (by simp)
    have:=xpw (ds:=ds) fun i hi=>h (i+1) (by simp;omega)
    simp only [idxA,h0,this];simp
theorem xpv {α:Type} {q:α→Bool} {z:α}: ∀ {ds:List α} {k:Nat},k<ds.length→q (ds.getD k z)=true→(∀ i,i<k→q (ds.getD i z)=false)→idxA q ds=k
  | [],_,h,_,_=>by simp at h
  | d::ds,0,_,h,_=>by
    have h0:q d=true:=h
    simp [idxA,h0]
  | d::ds,k+1,hk,h,hs=>by
    have h0:q d=false:=hs 0 (by omega)
    have:=xpv (ds:=ds) (k:=k) (by simp at hk;omega) h fun i hi=>hs (i+1) (by omega)
    simp only [idxA,h0,this]
    rw [if_neg (by simp),if_neg (by omega)];omega
theorem xzx {α:Type} {q:α→Bool}: ∀ {ds:List α},0≤idxA q ds↔ ∃ t∈ds,q t=true
  | []=>by simp [idxA]
  | d::ds=>by
    have ih:=xzx (q:=q) (ds:=ds)
    rw [idxA]
    by_cases h:q d=true
    · rw [if_pos h];exact ⟨fun _=>⟨d,List.mem_cons_self ..,h⟩,fun _=>Int.le_refl _⟩
    · rw [if_neg h]
      constructor
      · intro c
        split at c
        · omega
        · obtain ⟨t,ht,e⟩:=ih.1 (by omega)
          exact ⟨t,List.mem_cons_of_mem _ ht,e⟩
      · rintro ⟨t,ht,e⟩
        rcases List.mem_cons.1 ht with q | q
        · exact absurd (q ▸ e) h
        · have:=ih.2 ⟨t,q,e⟩
          rw [if_neg (by omega)];omega
theorem xzq {α:Type} {q:α→Bool} {ds:List α}: ¬ 0≤idxA q ds↔ ∀ t∈ds,q t=false:=by
  rw [xzx]
  constructor
  · exact fun h t ht=>Bool.eq_false_iff.2 fun e=>h ⟨t,ht,e⟩
  · rintro h ⟨t,ht,e⟩;rw [h t ht] at e;cases e

def ics (xs:List Int):List (List Value):=xs.map fun x=>[.int .i64 x]
theorem xhj (xs:List Int):(ics xs).length=xs.length:=by simp [ics]
theorem xxv {xs:List Int} {j:Nat} (h:j<xs.length):(ics xs)[j]?=some [.int .i64 (xs.getD j 0)]:=by
  rw [ics,List.getElem?_map,List.getD_eq_getElem?_getD,List.getElem?_eq_getElem h];rfl
theorem ytk {xs:List Int} {j:Nat} {z:Int}:(ics xs).set j [.int .i64 z]=ics (xs.set j z):=by simp [ics,List.map_set]
theorem zkj (xs:List Int) (z:Int):ics xs++[[.int .i64 z]]=ics (xs++[z]):=by simp [ics]
abbrev Sp:=Int × Int
def Sp.cells (x:Sp):List Value:=[.int .i64 x.1,.int .i64 x.2]
def spz:Sp:=(0,0)
def spcs (xs:List Sp):List (List Value):=xs.map Sp.cells
def Sps (p:PHeap) (a:Option Addr) (n:Nat) (xs:List Sp):Prop:=Sl p a n 2 (spcs xs)
section
variable {p p':PHeap} {a:Option Addr} {n k:Nat} {xs:List Sp}
theorem Sps.len (s:Sps p a n xs):xs.length=n:=by have:=Sl.len s;simpa [spcs] using this
theorem Sps.mono (hp:PLe p p') (s:Sps p a n xs):Sps p' a n xs:=Sl.mono hp s
theorem Sps.ne (s:Sps p a n xs) (hk:0<n):a=some (adr a):=Sl.ne s hk
theorem Sps.at (s:Sps p a n xs) (hk:k<n) {j:Nat} {v:Value} (hv:(xs.getD k spz).cells[j]?=some v):pcell p (((adr a).add (k*2)).add j)=some v:=by
  have hl:=s.len
  exact Sl.get s k (xs.getD k spz).cells (by rw [spcs,List.getElem?_map,List.getD_eq_getElem?_getD,List.getElem?_eq_getElem (by omega)];rfl) j v hv
theorem Sps.lo (s:Sps p a n xs) (hk:k<n):pcell p ((adr a).add (k*2))=some (.int .i64 (xs.getD k spz).1):=s.at hk (j:=0) rfl
theorem Sps.hi (s:Sps p a n xs) (hk:k<n):pcell p (((adr a).add (k*2)).add 1)=some (.int .i64 (xs.getD k spz).2):=s.at hk (j:=1) rfl
theorem Sps.all (s:Sps p a n xs) (hk:k<n): ∀ j v,[Value.int .i64 (xs.getD k spz).1,.int .i64 (xs.getD k spz).2][j]?=some v→pcell p (((adr a).add (k*2)).add j)=some v:=fun _ _ hv=>s.at hk hv
end
structure TabS (p:PHeap) (a:Option Addr) (k:Nat) (A:Nat→Option Addr) (C:Nat→Nat) (xss:List (List Sp)):Prop where
  len:xss.length=k
  ne:0<k→a=some (adr a)
  cell: ∀ i,i<k→pcell p ((adr a).add (i*1))=some (.slice (A i) (xss.getD i []).length (C i))
  sps: ∀ i,i<k→Sps p (A i) (xss.getD i []).length (xss.getD i [])
theorem TabS.mono {p p':PHeap} {a:Option Addr} {k:Nat} {A:Nat→Option Addr} {C:Nat→Nat} {xs:List (List Sp)} (h:PLe p p') (t:TabS p a k A C xs):TabS p' a k A C xs:=
  ⟨t.len,t.ne,fun i hi=>h.cell (t.cell i hi),fun i hi=>(t.sps i hi).mono h⟩
structure Bk where
  base:Int
  places:Int
  cords:List (List Sp)
  top:List Sp
structure BookP (p:PHeap) (a:Option Addr) (n:Nat) (A:Nat→Option Addr) (C:Nat→Nat) (b:Option Addr) (m:Nat) (k:Bk):Prop where
  t:TabS p a n A C k.cords
  u:Sps p b m k.top
theorem BookP.n {p a n A C b m k} (B:BookP p a n A C b m k):k.cords.length=n:=B.t.len
theorem BookP.m {p a n A C b m k} (B:BookP p a n A C b m k):k.top.length=m:=B.u.len
def badS (k:Bk) (s:Sp):Bool:=decide (¬ (0≤s.1∧s.1≤s.2)∨k.base≤s.2)
def cordB (k:Bk) (l:List Sp):Prop:=(l.length:Int)=k.places∧ ∀ s∈l,badS k s=false
instance (k l):Decidable (cordB k l):=by unfold cordB;infer_instance
def bookB (k:Bk):Prop:=(2≤k.base∧k.base≤10)∧(1≤k.places∧k.places≤4)∧k.cords.length≤4∧cordB k k.top∧ ∀ l∈k.cords,cordB k l
instance (k):Decidable (bookB k):=by unfold bookB;infer_instance
def chkK (k:Bk):Int:=if bookB k then 0 else 110
theorem xoj {k} (h:bookB k):chkK k=0:=if_pos h
theorem xqv {k} (h: ¬ bookB k):chkK k=110:=if_neg h
theorem waj {k} (h:chkK k=0):bookB k:=Classical.byContradiction fun z=>by rw [xqv z] at h;cases h
def askK (k:Bk) (b:Bool):Int:=if chkK k=0 then (if b then 0 else 1) else chkK k
def bigK (k:Bk):Prop:=40<k.cords.length∨40<k.top.length∨ ∃ l∈k.cords,40<l.length
instance (k):Decidable (bigK k):=by unfold bigK;infer_instance
end Go.X.Kn
namespace Go.Proofs
open Go.Shelf
def Tryz.laysM171_ren:Go.Shelf.Ren:=⟨fun | 171=>68 | 243=>94 | 246=>114 | 283=>125 | 284=>126 | 285=>127 | 286=>128 | 129=>136 | 317=>135 | 318=>137 | 319=>138 | 320=>139 | 337=>142 | 338=>143 | n=>n,fun | 3=>3 | 9=>9 | 2=>2 | 4=>4 | 171=>181 | 0=>0 | 53=>173 | 37=>47 | 5=>5 | 173=>184 | 212=>189 | 51=>170 | 20=>20 | 213=>190 | 46=>149 | 232=>198 | 233=>199 | n=>n,fun | 17=>1 | 18=>4 | 19=>5 | n=>n⟩
theorem Tryz.laysM171:Go.Proofs.LaysM.n171 Tryz.prog Tryz.laysM171_ren:={
  mixed:=by kernel_rfl
  f129:=Tryz.func136.trans (congrArg some (by kernel_rfl))
  f171:=Tryz.func68.trans (congrArg some (by kernel_rfl))
  f243:=Tryz.func94.trans (congrArg some (by kernel_rfl))
  f246:=Tryz.func114.trans (congrArg some (by kernel_rfl))
  f283:=Tryz.func125.trans (congrArg some (by kernel_rfl))
  f284:=Tryz.func126.trans (congrArg some (by kernel_rfl))
  f285:=Tryz.func127.trans (congrArg some (by kernel_rfl))
  f286:=Tryz.func128.trans (congrArg some (by kernel_rfl))
  f317:=Tryz.func135.trans (congrArg some (by kernel_rfl))
  f318:=Tryz.func137.trans (congrArg some (by kernel_rfl))
  f319:=Tryz.func138.trans (congrArg some (by kernel_rfl))
  f320:=Tryz.func139.trans (congrArg some (by kernel_rfl))
  f337:=Tryz.func142.trans (congrArg some (by kernel_rfl))
  f338:=Tryz.func143.trans (congrArg some (by kernel_rfl))
  t0:=Tryz.underlying0
  a0:=Tryz.isAgg0
  z0:=Tryz.sizeOf0
  v0:=Tryz.zeroValue0
  t2:=Tryz.underlying2
  a2:=Tryz.isAgg2
  z2:=Tryz.sizeOf2
  v2:=Tryz.zeroValue2
  t3:=Tryz.underlying3
  a3:=Tryz.isAgg3
  z3:=Tryz.sizeOf3
  v3:=Tryz.zeroValue3
  t4:=Tryz.underlying4
  a4:=Tryz.isAgg4
  z4:=Tryz.sizeOf4
  v4:=Tryz.zeroValue4
  t5:=Tryz.underlying5
  a5:=Tryz.isAgg5
  z5:=Tryz.sizeOf5
  v5:=Tryz.zeroValue5
  t9:=Tryz.underlying9
  a9:=Tryz.isAgg9
  z9:=Tryz.sizeOf9
  v9:=Tryz.zeroValue9
  t20:=Tryz.underlying20
  a20:=Tryz.isAgg20
  z20:=Tryz.sizeOf20
  v20:=Tryz.zeroValue20
  t37:=Tryz.underlying47
  a37:=Tryz.isAgg47
  z37:=Tryz.sizeOf47
  v37:=Tryz.zeroValue47
  t46:=Tryz.underlying149
  a46:=Tryz.isAgg149
  z46:=Tryz.sizeOf149
  v46:=Tryz.zeroValue149
  t51:=Tryz.underlying170
  a51:=Tryz.isAgg170
  z51:=Tryz.sizeOf170
  v51:=Tryz.zeroValue170
  t53:=Tryz.underlying173
  a53:=Tryz.isAgg173
  z53:=Tryz.sizeOf173
  v53:=Tryz.zeroValue173
  t171:=Tryz.underlying181
  a171:=Tryz.isAgg181
  z171:=Tryz.sizeOf181
  v171:=Tryz.zeroValue181
  t173:=Tryz.underlying184
  a173:=Tryz.isAgg184
  z173:=Tryz.sizeOf184
  v173:=Tryz.zeroValue184
  t212:=Tryz.underlying189
  a212:=Tryz.isAgg189
  z212:=Tryz.sizeOf189
  v212:=Tryz.zeroValue189
  t213:=Tryz.underlying190
  a213:=Tryz.isAgg190
  z213:=Tryz.sizeOf190
  t232:=Tryz.underlying198
  a232:=Tryz.isAgg198
  z232:=Tryz.sizeOf198
  v232:=Tryz.zeroValue198
  t233:=Tryz.underlying199
  a233:=Tryz.isAgg199
  z233:=Tryz.sizeOf199
  v233:=Tryz.zeroValue199
  g17:=by kernel_rfl
  g18:=by kernel_rfl
  g19:=by kernel_rfl
  i0:=by kernel_rfl
  i2:=by kernel_rfl
  i3:=by kernel_rfl
  i4:=by kernel_rfl
  i5:=by kernel_rfl
  i9:=by kernel_rfl
  i20:=by kernel_rfl
  i37:=by kernel_rfl
  i46:=by kernel_rfl
  i51:=by kernel_rfl
  i53:=by kernel_rfl
  i171:=by kernel_rfl
  i173:=by kernel_rfl
  i212:=by kernel_rfl
  i232:=by kernel_rfl
  i233:=by kernel_rfl
  m17:=by kernel_rfl
  m18:=by kernel_rfl
  m19:=by kernel_rfl }
open Go.RowKit Go.Sort Go.Lib in
theorem Tryz.strconv_Itoa (n : Int) (h0 : -9223372036854775808 ≤ n) (h1 : n ≤ 9223372036854775807) (w : World) (htab : Lib.TabIs Tryz.prog w "internal/strconv.uint64pow10" .u64 Lib.pow10Tab) :
    Calls Tryz.prog 68 #[.int .i64 n] w fun e w'=>e= .returned (.string ⟨(Lib.itoa n).toArray⟩)∧ ∃ k os,w'=grow (w.drewN k) os:=Any.strconv_Itoa Tryz.laysM171 n h0 h1 w htab
def Tryz.lays143_ren:Go.Shelf.Ren:=⟨fun | 143=>101 | 219=>122 | 217=>131 | 225=>132 | 224=>133 | 267=>134 | 266=>140 | 314=>141 | n=>n,fun | 9=>9 | 3=>3 | 4=>4 | 5=>5 | 46=>149 | 146=>171 | 51=>170 | n=>n,fun | 1=>0 | n=>n⟩
theorem Tryz.lays143:Go.Proofs.Lays.n143 Tryz.prog Tryz.lays143_ren:={
  mixed:=by kernel_rfl
  f143:=Tryz.func101.trans (congrArg some (by kernel_rfl))
  f217:=Tryz.func131.trans (congrArg some (by kernel_rfl))
  f219:=Tryz.func122.trans (congrArg some (by kernel_rfl))
  f224:=Tryz.func133.trans (congrArg some (by kernel_rfl))
  f225:=Tryz.func132.trans (congrArg some (by kernel_rfl))
  f266:=Tryz.func140.trans (congrArg some (by kernel_rfl))
  f267:=Tryz.func134.trans (congrArg some (by kernel_rfl))
  f314:=Tryz.func141.trans (congrArg some (by kernel_rfl))
  t3:=Tryz.underlying3
  a3:=Tryz.isAgg3
  z3:=Tryz.sizeOf3
  v3:=Tryz.zeroValue3
  t4:=Tryz.underlying4
  a4:=Tryz.isAgg4
  z4:=Tryz.sizeOf4
  v4:=Tryz.zeroValue4
  t5:=Tryz.underlying5
  a5:=Tryz.isAgg5
  z5:=Tryz.sizeOf5
  v5:=Tryz.zeroValue5
  t9:=Tryz.underlying9
  a9:=Tryz.isAgg9
  z9:=Tryz.sizeOf9
  v9:=Tryz.zeroValue9
  t46:=Tryz.underlying149
  a46:=Tryz.isAgg149
  z46:=Tryz.sizeOf149
  v46:=Tryz.zeroValue149
  t51:=Tryz.underlying170
  a51:=Tryz.isAgg170
  z51:=Tryz.sizeOf170
  v51:=Tryz.zeroValue170
  t146:=Tryz.underlying171
  a146:=Tryz.isAgg171
  z146:=Tryz.sizeOf171
  v146:=Tryz.zeroValue171
  g1:=by kernel_rfl }
open Go.RowKit Go.Lib in
theorem Tryz.strings_Index_one (s:ByteArray) (c:UInt8) (w:World):
    Calls Tryz.prog 101 #[.string s,.string ⟨#[c]⟩] w fun e w'=>e= .returned (.int .i64 (Lib.indexByte s.data.toList c))∧w'=w:=Any.strings_Index_one Tryz.lays143 s c w
def Tryz.lays138_ren:Go.Shelf.Ren:=⟨fun | 138=>100 | 195=>119 | 218=>121 | 143=>101 | 219=>122 | 217=>131 | 225=>132 | 224=>133 | 267=>134 | 266=>140 | 314=>141 | n=>n,fun | 9=>9 | 3=>3 | 4=>4 | 5=>5 | 0=>0 | 46=>149 | 146=>171 | 51=>170 | n=>n,fun | 1=>0 | n=>n⟩
theorem Tryz.lays138:Go.Proofs.Lays.n138 Tryz.prog Tryz.lays138_ren:={
  mixed:=by kernel_rfl
  f138:=Tryz.func100.trans (congrArg some (by kernel_rfl))
  f143:=Tryz.func101.trans (congrArg some (by kernel_rfl))
  f195:=Tryz.func119.trans (congrArg some (by kernel_rfl))
  f217:=Tryz.func131.trans (congrArg some (by kernel_rfl))
  f218:=Tryz.func121.trans (congrArg some (by kernel_rfl))
  f219:=Tryz.func122.trans (congrArg some (by kernel_rfl))
  f224:=Tryz.func133.trans (congrArg some (by kernel_rfl))
  f225:=Tryz.func132.trans (congrArg some (by kernel_rfl))
  f266:=Tryz.func140.trans (congrArg some (by kernel_rfl))
  f267:=Tryz.func134.trans (congrArg some (by kernel_rfl))
  f314:=Tryz.func141.trans (congrArg some (by kernel_rfl))
  t0:=Tryz.underlying0
  a0:=Tryz.isAgg0
  z0:=Tryz.sizeOf0
  v0:=Tryz.zeroValue0
  t3:=Tryz.underlying3
  a3:=Tryz.isAgg3
  z3:=Tryz.sizeOf3
  v3:=Tryz.zeroValue3
  t4:=Tryz.underlying4
  a4:=Tryz.isAgg4
  z4:=Tryz.sizeOf4
  v4:=Tryz.zeroValue4
  t5:=Tryz.underlying5
  a5:=Tryz.isAgg5
  z5:=Tryz.sizeOf5
  v5:=Tryz.zeroValue5
  t9:=Tryz.underlying9
  a9:=Tryz.isAgg9
  z9:=Tryz.sizeOf9
  v9:=Tryz.zeroValue9
  t46:=Tryz.underlying149
  a46:=Tryz.isAgg149
  z46:=Tryz.sizeOf149
  v46:=Tryz.zeroValue149
  t51:=Tryz.underlying170
  a51:=Tryz.isAgg170
  z51:=Tryz.sizeOf170
  v51:=Tryz.zeroValue170
  t146:=Tryz.underlying171
  a146:=Tryz.isAgg171
  z146:=Tryz.sizeOf171
  v146:=Tryz.zeroValue171
  g1:=by kernel_rfl }
open Go.RowKit Go.Lib in
theorem Tryz.strings_Count_one (s:ByteArray) (c:UInt8) (w:World):
    Calls Tryz.prog 100 #[.string s,.string ⟨#[c]⟩] w fun e w'=>e= .returned (.int .i64 (Lib.countByte s.data.toList c))∧w'=w:=Any.strings_Count_one Tryz.lays138 s c w
def Tryz.lays102_ren:Go.Shelf.Ren:=⟨fun | 102=>43 | 209=>72 | 207=>102 | n=>n,fun | 9=>9 | 4=>4 | 3=>3 | n=>n,fun | n=>n⟩
theorem Tryz.lays102:Go.Proofs.Lays.n102 Tryz.prog Tryz.lays102_ren:={
  mixed:=by kernel_rfl
  f102:=Tryz.func43.trans (congrArg some (by kernel_rfl))
  f207:=Tryz.func102.trans (congrArg some (by kernel_rfl))
  f209:=Tryz.func72.trans (congrArg some (by kernel_rfl))
  t3:=Tryz.underlying3
  a3:=Tryz.isAgg3
  z3:=Tryz.sizeOf3
  v3:=Tryz.zeroValue3
  t4:=Tryz.underlying4
  a4:=Tryz.isAgg4
  z4:=Tryz.sizeOf4
  v4:=Tryz.zeroValue4
  t9:=Tryz.underlying9
  a9:=Tryz.isAgg9
  z9:=Tryz.sizeOf9
  v9:=Tryz.zeroValue9 }
open Go.RowKit Go.Lib in
theorem Tryz.strings_TrimSuffix (s p:ByteArray) (w:World) (hs:s.size≤9223372036854775807):
    Calls Tryz.prog 43 #[.string s,.string p] w fun e w'=>e= .returned (.string ⟨(Lib.trimSuffix s.data.toList p.data.toList).toArray⟩)∧w'=w:=Any.strings_TrimSuffix Tryz.lays102 s p w hs
def Tryz.lays221_ren:Go.Shelf.Ren:=⟨fun | 221=>71 | 268=>99 | 138=>100 | 143=>101 | 195=>119 | 197=>120 | 218=>121 | 219=>122 | 260=>130 | 217=>131 | 225=>132 | 224=>133 | 267=>134 | 266=>140 | 314=>141 | n=>n,fun | 9=>9 | 3=>3 | 31=>33 | 4=>4 | 0=>0 | 105=>176 | 21=>21 | 5=>5 | 46=>149 | 119=>192 | 139=>195 | 138=>194 | 146=>171 | 51=>170 | n=>n,fun | 1=>0 | 3=>2 | 4=>3 | n=>n⟩
theorem Tryz.lays221:Go.Proofs.Lays.n221 Tryz.prog Tryz.lays221_ren:={
  mixed:=by kernel_rfl
  f138:=Tryz.func100.trans (congrArg some (by kernel_rfl))
  f143:=Tryz.func101.trans (congrArg some (by kernel_rfl))
  f195:=Tryz.func119.trans (congrArg some (by kernel_rfl))
  f197:=Tryz.func120.trans (congrArg some (by kernel_rfl))
  f217:=Tryz.func131.trans (congrArg some (by kernel_rfl))
  f218:=Tryz.func121.trans (congrArg some (by kernel_rfl))
  f219:=Tryz.func122.trans (congrArg some (by kernel_rfl))
  f221:=Tryz.func71.trans (congrArg some (by kernel_rfl))
  f224:=Tryz.func133.trans (congrArg some (by kernel_rfl))
  f225:=Tryz.func132.trans (congrArg some (by kernel_rfl))
  f260:=Tryz.func130.trans (congrArg some (by kernel_rfl))
  f266:=Tryz.func140.trans (congrArg some (by kernel_rfl))
  f267:=Tryz.func134.trans (congrArg some (by kernel_rfl))
  f268:=Tryz.func99.trans (congrArg some (by kernel_rfl))
  f314:=Tryz.func141.trans (congrArg some (by kernel_rfl))
  t0:=Tryz.underlying0
  a0:=Tryz.isAgg0
  z0:=Tryz.sizeOf0
  v0:=Tryz.zeroValue0
  t3:=Tryz.underlying3
  a3:=Tryz.isAgg3
  z3:=Tryz.sizeOf3
  v3:=Tryz.zeroValue3
  t4:=Tryz.underlying4
  a4:=Tryz.isAgg4
  z4:=Tryz.sizeOf4
  v4:=Tryz.zeroValue4
  t5:=Tryz.underlying5
  a5:=Tryz.isAgg5
  z5:=Tryz.sizeOf5
  v5:=Tryz.zeroValue5
  t9:=Tryz.underlying9
  a9:=Tryz.isAgg9
  z9:=Tryz.sizeOf9
  v9:=Tryz.zeroValue9
  t21:=Tryz.underlying21
  a21:=Tryz.isAgg21
  z21:=Tryz.sizeOf21
  v21:=Tryz.zeroValue21
  t31:=Tryz.underlying33
  a31:=Tryz.isAgg33
  z31:=Tryz.sizeOf33
  v31:=Tryz.zeroValue33
  t46:=Tryz.underlying149
  a46:=Tryz.isAgg149
  z46:=Tryz.sizeOf149
  v46:=Tryz.zeroValue149
  t51:=Tryz.underlying170
  a51:=Tryz.isAgg170
  z51:=Tryz.sizeOf170
  v51:=Tryz.zeroValue170
  t105:=Tryz.underlying176
  a105:=Tryz.isAgg176
  z105:=Tryz.sizeOf176
  v105:=Tryz.zeroValue176
  t119:=Tryz.underlying192
  a119:=Tryz.isAgg192
  z119:=Tryz.sizeOf192
  t138:=Tryz.underlying194
  a138:=Tryz.isAgg194
  z138:=Tryz.sizeOf194
  v138:=Tryz.zeroValue194
  t139:=Tryz.underlying195
  a139:=Tryz.isAgg195
  z139:=Tryz.sizeOf195
  v139:=Tryz.zeroValue195
  t146:=Tryz.underlying171
  a146:=Tryz.isAgg171
  z146:=Tryz.sizeOf171
  v146:=Tryz.zeroValue171
  g1:=by kernel_rfl
  g3:=by kernel_rfl
  g4:=by kernel_rfl }
def Tryz.lays105_ren:Go.Shelf.Ren:=⟨fun | 105=>70 | 212=>95 | 99=>96 | 165=>97 | 166=>92 | 170=>98 | 169=>66 | 263=>115 | 264=>116 | 206=>117 | 240=>93 | 241=>118 | 276=>113 | 277=>129 | n=>n,fun | 9=>9 | 3=>3 | 4=>4 | 20=>20 | 0=>0 | 46=>149 | 109=>150 | 5=>5 | 72=>108 | 76=>146 | 51=>170 | 146=>171 | 53=>173 | 148=>174 | 70=>106 | 37=>47 | 75=>114 | 127=>148 | 164=>167 | 80=>116 | n=>n,fun | n=>n⟩
theorem Tryz.lays105:Go.Proofs.Lays.n105 Tryz.prog Tryz.lays105_ren:={
  mixed:=by kernel_rfl
  f99:=Tryz.func96.trans (congrArg some (by kernel_rfl))
  f105:=Tryz.func70.trans (congrArg some (by kernel_rfl))
  f165:=Tryz.func97.trans (congrArg some (by kernel_rfl))
  f166:=Tryz.func92.trans (congrArg some (by kernel_rfl))
  f169:=Tryz.func66.trans (congrArg some (by kernel_rfl))
  f170:=Tryz.func98.trans (congrArg some (by kernel_rfl))
  f206:=Tryz.func117.trans (congrArg some (by kernel_rfl))
  f212:=Tryz.func95.trans (congrArg some (by kernel_rfl))
  f240:=Tryz.func93.trans (congrArg some (by kernel_rfl))
  f241:=Tryz.func118.trans (congrArg some (by kernel_rfl))
  f263:=Tryz.func115.trans (congrArg some (by kernel_rfl))
  f264:=Tryz.func116.trans (congrArg some (by kernel_rfl))
  f276:=Tryz.func113.trans (congrArg some (by kernel_rfl))
  f277:=Tryz.func129.trans (congrArg some (by kernel_rfl))
  t0:=Tryz.underlying0
  a0:=Tryz.isAgg0
  z0:=Tryz.sizeOf0
  v0:=Tryz.zeroValue0
  t3:=Tryz.underlying3
  a3:=Tryz.isAgg3
  z3:=Tryz.sizeOf3
  v3:=Tryz.zeroValue3
  t4:=Tryz.underlying4
  a4:=Tryz.isAgg4
  z4:=Tryz.sizeOf4
  v4:=Tryz.zeroValue4
  t5:=Tryz.underlying5
  a5:=Tryz.isAgg5
  z5:=Tryz.sizeOf5
  v5:=Tryz.zeroValue5
  t9:=Tryz.underlying9
  a9:=Tryz.isAgg9
  z9:=Tryz.sizeOf9
  v9:=Tryz.zeroValue9
  t20:=Tryz.underlying20
  a20:=Tryz.isAgg20
  z20:=Tryz.sizeOf20
  v20:=Tryz.zeroValue20
  t37:=Tryz.underlying47
  a37:=Tryz.isAgg47
  z37:=Tryz.sizeOf47
  v37:=Tryz.zeroValue47
  t46:=Tryz.underlying149
  a46:=Tryz.isAgg149
  z46:=Tryz.sizeOf149
  v46:=Tryz.zeroValue149
  t51:=Tryz.underlying170
  a51:=Tryz.isAgg170
  z51:=Tryz.sizeOf170
  v51:=Tryz.zeroValue170
  t53:=Tryz.underlying173
  a53:=Tryz.isAgg173
  z53:=Tryz.sizeOf173
  v53:=Tryz.zeroValue173
  t70:=Tryz.underlying106
  a70:=Tryz.isAgg106
  z70:=Tryz.sizeOf106
  v70:=Tryz.zeroValue106
  t72:=Tryz.underlying108
  a72:=Tryz.isAgg108
  z72:=Tryz.sizeOf108
  v72:=Tryz.zeroValue108
  t75:=Tryz.underlying114
  a75:=Tryz.isAgg114
  z75:=Tryz.sizeOf114
  v75:=Tryz.zeroValue114
  t76:=Tryz.underlying146
  a76:=Tryz.isAgg146
  z76:=Tryz.sizeOf146
  v76:=Tryz.zeroValue146
  t109:=Tryz.underlying150
  a109:=Tryz.isAgg150
  z109:=Tryz.sizeOf150
  v109:=Tryz.zeroValue150
  t127:=Tryz.underlying148
  a127:=Tryz.isAgg148
  z127:=Tryz.sizeOf148
  v127:=Tryz.zeroValue148
  t146:=Tryz.underlying171
  a146:=Tryz.isAgg171
  z146:=Tryz.sizeOf171
  v146:=Tryz.zeroValue171
  t148:=Tryz.underlying174
  a148:=Tryz.isAgg174
  z148:=Tryz.sizeOf174
  v148:=Tryz.zeroValue174
  t164:=Tryz.underlying167
  a164:=Tryz.isAgg167
  z164:=Tryz.sizeOf167
  v164:=Tryz.zeroValue167 }
theorem Tryz.Builder_Extra_105:Builder.Extra Tryz.prog Tryz.lays105_ren:={
  sizeBuilder:=by kernel_rfl
  liesBuilder:=by kernel_rfl
  t5:=Tryz.underlying5
  a5:=Tryz.isAgg5
  z5:=Tryz.sizeOf5
  v5:=Tryz.zeroValue5
  infoByte:=by kernel_rfl
  cellsByte:=by kernel_rfl
  sizeByte:=by kernel_rfl
  neB5:=by decide }
open Go.RowKit Go.Lib in
theorem Tryz.strings_Repeat (s:ByteArray) (c:Nat) (w:World) (hc:c≤9223372036854775807) (hlen:s.size*c≤140737488355328):
    Calls Tryz.prog 70 #[.string s,.int .i64 c] w fun e w'=>e= .returned (.string ⟨(Lib.repeatL s.data.toList c).toArray⟩)∧Below w.heap.size w w':=Any.strings_Repeat Tryz.lays105 Tryz.Builder_Extra_105 s c w hc hlen
end Go.Proofs
namespace Go.X
open Go.Conc Go.RowKit

section
variable {P:Program} {f:FuncId} {args:Array Value} {h:Heap} {w:World} {R:Value→Heap→Prop}

theorem xkx (x: ∀ w:World,w.heap=h→Calls P f args w fun e w'=>∃ v,e= .returned v∧R v w'.heap∧Calm w w'):CallsX P .lone f args h R:=by
  intro c cs Stop z w hw
  obtain ⟨e,w',fr,⟨v,rfl,hR,hc⟩,hs,_,hl⟩:=x w hw (c::cs)
  obtain ⟨g2,w2,a2,b2,c2⟩:=z v w'.heap hR w' rfl
  have hs':Steps P (solo (G (Frame.enter P f args .normal) (c::cs)) w) (solo (G fr (c::cs)) w'):=hs
  have h1:step P (solo (G fr (c::cs)) w')= .next (solo (G (c.finish v) cs) w'):=step_leave_returned hl
  exact ⟨g2,w2,hs'.trans (.head h1 a2),b2,hc.trans c2⟩

def StopL (P:Program) (f:FuncId) (cs:List Frame) (R:Value→Heap→Prop) (g:Goroutine) (h:Heap):Prop:=
  ∃ fr v,g=G fr cs∧fr.fn=f∧(∀ w,fr.leaving P w (.returned v))∧R v h
def EntersL (P:Program) (f:FuncId) (args:Array Value) (h:Heap) (R:Value→Heap→Prop):Prop:=∀ cs,Reach P .lone (G (Frame.enter P f args .normal) cs) h (StopL P f cs R)

theorem ynv (x:EntersL P f args w.heap R):Calls P f args w fun e w'=>∃ v,e= .returned v∧R v w'.heap∧Calm w w':=by
  intro cs
  obtain ⟨g',w',a,⟨fr,v,rfl,hf,hl,hR⟩,c⟩:=x cs w rfl
  exact ⟨.returned v,w',fr,⟨v,rfl,hR,c⟩,a,hf,hl w'⟩

theorem ydj {Φ:Heap→Prop} {tm:List Value} {fn:Func} {c:Code} (hf:P.funcs[f]?=some fn) (hb:fn.body=some c) (ht:args.toList++List.replicate (fn.ntmps-args.size) undef=tm)
    (x: ∀ cs,RS P .lone (G (FL f .none tm [] [.code c]) cs) Φ (StopL P f cs R)) (h0:Φ h):EntersL P f args h R:=by
  intro cs
  have:=x cs h h0
  have e:Frame.enter P f args .normal=FL f .none tm [] [.code c]:=by
    unfold Frame.enter
    simp only [hf,hb,Option.map_some,Option.bind_some,Option.getD_some,FL,F,B,← ht]
    simp [Rd.kind,Rd.round]
  rw [e];exact this

theorem yfx {Φ:Heap→Prop} [Stb Φ] {cs:List Frame} {tm:List Value} {k:List Item} {fn:Func} {t:Nat} {vs:List Value} {v:Value} (hf:P.funcs[f]?=some fn) (hr:fn.results=#[.tmp t]) (e: ∀ h,Φ h→Res P h tm [.tmp t] vs) (hv:packs vs=v)
    (x: ∀ h,Φ h→R v h):RS P .lone (G (FL f .none tm [] (.code .ret::k)) cs) Φ (StopL P f cs R):=
  ztj (hro:=rfl) fun _=>fun h y=>zpv (by
    obtain ⟨v',vs',rfl,h1,h2⟩:=e h y
    obtain rfl:vs'=[]:=h2
    subst hv
    refine ⟨_,v',rfl,rfl,fun w=>⟨rfl,rfl,rfl,fn,hf,?_⟩,x h y⟩
    unfold results
    simp only [hr,FR,B,← h1]
    simp)
end
end Go.X
namespace Go.X
open Go.Conc

def bs (l:List UInt8):ByteArray:=⟨l.toArray⟩
theorem xqz (l:List UInt8):(bs l).size=l.length:=by simp [bs,ByteArray.size]
theorem wvz (s:ByteArray):bs s.data.toList=s:=by cases s;simp [bs]
theorem wsj (l:List UInt8) (i:Nat):(bs l)[i]?=l[i]?:=by
  by_cases h:i<l.length
  · rw [getElem?_pos (bs l) i (by rw [xqz];exact h),List.getElem?_eq_getElem h];rfl
  · rw [getElem?_neg (bs l) i (by rw [xqz];exact h),List.getElem?_eq_none (by omega)]
theorem wbq (l m:List UInt8):bs l++bs m=bs (l++m):=by
  apply ByteArray.ext
  simp [bs]
theorem zqv (l:List UInt8) (a b:Nat):(bs l).extract a b=bs ((l.drop a).take (b-a)):=by
  apply ByteArray.ext
  rw [ByteArray.data_extract]
  apply Array.ext'
  simp [bs]
theorem waw (l m:List UInt8):((bs l).toList == (bs m).toList)=decide (l=m):=by
  rw [← beq_toListBytes]
  have e:(bs l == bs m)=(l.toArray == m.toArray):=rfl
  rw [e,Bool.eq_iff_iff]
  simp
def sv (l:List UInt8):Value:=.string (bs l)

section
variable {P:Program} {h:Heap} {tm:List Value} {d:Option Tmp} {ty:TypeId} {pos:String} {aft:Array Edge} {gd:Option (Nat × Bool)} {l m:List UInt8}
theorem xkz {t:TypeId} {x:Operand} (ht:P.underlying t=some .string) (hx:evl tm x=sv l):Exd P tm ⟨d,.call ⟨.builtin .len,#[x],#[t]⟩,ty,pos,aft,gd⟩ h (.int .i64 (l.length:Nat)):=by
  have:=wgw (P:=P) (tm:=tm) (d:=d) (ty:=ty) (pos:=pos) (aft:=aft) (gd:=gd) (h:=h) ht hx
  rwa [xqz] at this
theorem zlz {t:TypeId} {x:Operand} {lo hi:Option Operand} {a r:Nat} (ht:P.underlying t=some .string) (hx:evl tm x=sv l) (bl:Bd tm lo 0 a) (bh:Bd tm hi l.length r) (h1:a≤r) (h2:r≤l.length):
    Exd P tm ⟨d,.slice t x lo hi none,ty,pos,aft,gd⟩ h (sv ((l.drop a).take (r-a))):=by
  have:=zqj (P:=P) (tm:=tm) (d:=d) (ty:=ty) (pos:=pos) (aft:=aft) (gd:=gd) (h:=h) ht hx bl (by rw [xqz];exact bh) h1 (by rw [xqz];exact h2)
  rwa [zqv] at this
theorem yqz {t:TypeId} {x y:Operand} {k:IntKind} {i:Int} (ht:P.underlying t=some .string) (hx:evl tm x=sv l) (hy:evl tm y= .int k i) (h0:0≤i) (h1:i<l.length):
    Exd P tm ⟨d,.index t x y,ty,pos,aft,gd⟩ h (.int .u8 ((l.getD i.toNat 0).toNat:Nat)):=by
  refine xqx (s:=Instr.index t (sv l) (.int k i)) (by simp only [execOp,hx,hy]) ?_
  unfold Instr.index
  refine xbq (xbz ?_)
  simp only
  refine xbq (xdv ht ?_)
  simp only [sv]
  have e:(bs l)[i.toNat]?=some (l.getD i.toNat 0):=by
    rw [wsj,List.getD_eq_getElem?_getD,List.getElem?_eq_getElem (by omega)];rfl
  rw [if_pos h0,e]
  exact xbz ⟨rfl,rfl⟩
theorem xiq {t:TypeId} {x y:Operand} {k:IntKind} {i:Nat} (ht:P.underlying t=some .string) (hx:evl tm x=sv l) (hy:evl tm y= .int k (i:Nat)) (h1:i<l.length):
    Exd P tm ⟨d,.index t x y,ty,pos,aft,gd⟩ h (.int .u8 ((l.getD i 0).toNat:Nat)):=by
  have:=yqz (P:=P) (tm:=tm) (d:=d) (ty:=ty) (pos:=pos) (aft:=aft) (gd:=gd) (h:=h) ht hx hy (by omega) (by omega)
  rwa [Int.toNat_natCast] at this
theorem xsq {T T':TypeId} {x y:Operand} (hx:evl tm x=sv l) (hy:evl tm y=sv m) (hb:l.length+m.length≤9223372036854775807):Exd P tm ⟨d,.binOp .add T x y T',ty,pos,aft,gd⟩ h (sv (l++m)):=by
  refine xov hx hy (fun K z=>xkv rfl z) ?_
  simp only [sv,binOp,Op.stringOp,xqz]
  rw [if_neg (by
    have:(IntKind.i64.max:Int)=9223372036854775807:=by decide
    rw [this];omega),wbq]
  exact xbz ⟨rfl,rfl⟩
theorem zhk {op:BinOp} {T:TypeId} {x y:Operand} {a b:ByteArray} {K:Unit→Heap→Prop} (z:K () h):wpS P (eqGuard op T x y (.string a) (.string b)) h K:=by
  unfold eqGuard
  cases op <;> first | (rw [if_pos (by rfl)];exact xbz z) | (rw [if_neg (by decide)];exact xbz z)
theorem yuv {T T':TypeId} {x y:Operand} (hx:evl tm x=sv l) (hy:evl tm y=sv m):Exd P tm ⟨d,.binOp .eql T x y T',ty,pos,aft,gd⟩ h (.bool (decide (l=m))):=by
  refine xov hx hy (fun K z=>zhk z) ?_
  simp only [sv,binOp,Op.stringOp,waw]
  exact xbz ⟨rfl,rfl⟩
theorem xzj {T T':TypeId} {x y:Operand} (hx:evl tm x=sv l) (hy:evl tm y=sv m):Exd P tm ⟨d,.binOp .neq T x y T',ty,pos,aft,gd⟩ h (.bool (!decide (l=m))):=by
  refine xov hx hy (fun K z=>zhk z) ?_
  simp only [sv,binOp,Op.stringOp,waw]
  exact xbz ⟨rfl,rfl⟩
theorem xoz {src dst:TypeId} {x:Operand} {k k':IntKind} {a n:Int} (hs: ∃ t,P.underlying src=some t) (hd:P.underlying dst=some (.int k')) (hx:evl tm x= .int k a) (hn:k'.wrap a=n):Exd P tm ⟨d,.convert src dst x,ty,pos,aft,gd⟩ h (.int k' n):=by
  obtain ⟨t,hs⟩:=hs
  refine xqx (s:=convert src dst (.int k a)) (by simp only [execOp,hx]) ?_
  unfold convert
  refine xbq (xdv hs ?_)
  refine xbq (xdv hd ?_)
  simp only [Conv.intToInt]
  exact xbz ⟨by rw [hn],rfl⟩
theorem woz {k:IntKind} {T T':TypeId} {x y:Operand} {a b n:Int} (hx:evl tm x= .int k a) (hy:evl tm y= .int k b) (h0:b≠0) (hn:k.wrap (a.tdiv b)=n):Exd P tm ⟨d,.binOp .quo T x y T',ty,pos,aft,gd⟩ h (.int k n):=by
  refine xov hx hy (fun K z=>xpz z) ?_
  simp only [binOp,ne_eq,not_true,if_false,Op.intDiv,h0]
  exact xbz ⟨by rw [hn],rfl⟩
theorem zzx {k:IntKind} {T T':TypeId} {x y:Operand} {a b n:Int} (hx:evl tm x= .int k a) (hy:evl tm y= .int k b) (h0:b≠0) (hn:a.tmod b=n):Exd P tm ⟨d,.binOp .rem T x y T',ty,pos,aft,gd⟩ h (.int k n):=by
  refine xov hx hy (fun K z=>xpz z) ?_
  simp only [binOp,ne_eq,not_true,if_false,Op.intDiv,h0]
  exact xbz ⟨by rw [hn],rfl⟩
theorem xvz {t:TypeId} {x hi:Operand} {r:Nat} (ht:P.underlying t=some .string) (hx:evl tm x=sv l) (bh:Bd tm (some hi) l.length r) (h2:r≤l.length):Exd P tm ⟨d,.slice t x none (some hi) none,ty,pos,aft,gd⟩ h (sv (l.take r)):=by
  have:=zlz (P:=P) (tm:=tm) (d:=d) (ty:=ty) (pos:=pos) (aft:=aft) (gd:=gd) (h:=h) ht hx (.none 0) bh (Nat.zero_le _) h2
  simpa using this
theorem xvk {t:TypeId} {x lo:Operand} {a:Nat} (ht:P.underlying t=some .string) (hx:evl tm x=sv l) (bl:Bd tm (some lo) 0 a) (h2:a≤l.length):Exd P tm ⟨d,.slice t x (some lo) none none,ty,pos,aft,gd⟩ h (sv (l.drop a)):=by
  have:=zlz (P:=P) (tm:=tm) (d:=d) (ty:=ty) (pos:=pos) (aft:=aft) (gd:=gd) (h:=h) ht hx bl (.none l.length) h2 (Nat.le_refl _)
  rwa [List.take_of_length_le (by simp)] at this
theorem zhx (b:UInt8):b.toNat≤255:=by have:b.toNat<256:=b.toNat_lt;omega
theorem wrB (b:UInt8):IntKind.i64.wrap ((b.toNat:Nat):Int)=((b.toNat:Nat):Int):=wr (by have:=zhx b;omega)
theorem wr8 {n:Int} (h:0≤n∧n≤255):IntKind.u8.wrap n=n:=by
  simp only [IntKind.wrap,IntKind.bits,IntKind.signed]
  simp
  omega
end
end Go.X
namespace Go.X
open Go.Conc

def findM (ms:List (List UInt8 × Int)) (k:List UInt8):Option Int:=(ms.find? fun e=>e.1 == k).map (·.2)
def MapO (ms:List (List UInt8 × Int)) (o:Obj):Prop:=∃ (es:List MapEntry) (clock:Nat),o= .map es.toArray clock∧es.map (fun e=>(e.key,e.val))=ms.map fun x=>(sv x.1,Value.int .i64 x.2)
theorem MapO.nil:MapO [] (.map #[] 0):=⟨[],0,rfl,rfl⟩
theorem wtj (l m:List UInt8):(bs l == bs m)=(m == l):=by
  rw [beq_toListBytes,waw,Bool.eq_iff_iff]
  simp only [decide_eq_true_eq,beq_iff_eq]
  exact eq_comm
theorem ymj {k:List UInt8}: ∀ {ms:List (List UInt8 × Int)} {es:List MapEntry} {i:Nat},es.map (fun e=>(e.key,e.val))=ms.map (fun x=>(sv x.1,Value.int .i64 x.2))→
    ∃ j,Instr.findNow .string (sv k) es i=some ((findM ms k).map fun v=>(j,Value.int .i64 v))
  | [],es,i,h=>by
    obtain rfl:es=[]:=by simpa using h
    exact ⟨0,rfl⟩
  | (k',v')::ms,[],i,h=>by simp at h
  | (k',v')::ms,e::es,i,h=>by
    simp only [List.map_cons,List.cons.injEq,Prod.mk.injEq] at h
    obtain ⟨⟨h1,h2⟩,h3⟩:=h
    unfold Instr.findNow
    rw [h1,h2]
    simp only [sv,Instr.sameNow,wtj]
    by_cases c:k'=k
    · subst c
      refine ⟨i,?_⟩
      simp [findM]
    · have hc:(k' == k)=false:=by simpa using c
      obtain ⟨j,hj⟩:=ymj (k:=k) (i:=i+1) h3
      refine ⟨j,?_⟩
      rw [hc]
      simp only [sv] at hj
      rw [hj]
      simp [findM,hc]

section
variable {P:Program} {h h₀:Heap} {B₀:List Nat} {p:PHeap} {L:List (Nat × Obj)} {tm:List Value} {d:Option Tmp} {ty:TypeId} {pos:String} {aft:Array Edge} {gd:Option (Nat × Bool)} {k:List UInt8} {ms:List (List UInt8 × Int)} {o:Obj} {i r:Nat}
theorem xuj {es:Array MapEntry} {c:Nat} {K:Obj→Heap→Prop} (hb:h[r]?=some (.map es c)) (x:K (.map es c) h):wpS P (getObj r) h K:=by
  simp only [getObj,wpS,hb]
  exact ⟨rfl,x⟩
theorem ygx {b:Bool} {n:Nat} {t:TypeId} {K:Unit→Heap→Prop} (ht:P.underlying t=some .string) (x:K () h):wpS P (Instr.checkKey b (n+1) t (sv k)) h K:=by
  unfold Instr.checkKey
  refine xbq (xdv ht ?_)
  exact xbz x
theorem yjk {t:TypeId} {es:List MapEntry} {K:Option (Nat × Value)→Heap→Prop} (ht:P.underlying t=some .string) (he:es.map (fun e=>(e.key,e.val))=ms.map (fun x=>(sv x.1,Value.int .i64 x.2))) (x: ∀ j,K ((findM ms k).map fun v=>(j,Value.int .i64 v)) h):
    wpS P (Instr.findKey t (sv k) es) h K:=by
  obtain ⟨j,hj⟩:=ymj (k:=k) (i:=0) he
  unfold Instr.findKey
  refine xbq (xdv ht ?_)
  simp only [hj]
  exact xbz (x j)
theorem znk {mT kT eT:TypeId} {ok:Bool} {K:Value→Heap→Prop} (hm:P.underlying mT=some (.map kT eT)) (hk:P.underlying kT=some .string) (hz:zeroT P eT=some (.int .i64 0)) (hb:h[r]?=some o) (hM:MapO ms o)
    (x:K (if ok then .tuple #[.int .i64 ((findM ms k).getD 0),.bool (findM ms k).isSome] else .int .i64 ((findM ms k).getD 0)) h):wpS P (Instr.lookup mT (.map (some r)) (sv k) ok) h K:=by
  obtain ⟨es,clock,rfl,he⟩:=hM
  unfold Instr.lookup
  refine xbq (xdv hm ?_)
  simp only
  refine xbq (xuj hb ?_)
  simp only
  refine xbq (xbz ?_)
  refine xbq (ygx hk ?_)
  refine xbq (yjk hk (by simpa using he) fun j=>?_)
  cases e:findM ms k with
  | none=>
    simp only [Option.map_none]
    refine xbq (xlz hz ?_)
    refine xbq (xbz ?_)
    refine xbz (P:=P) ?_
    rw [e] at x;exact x
  | some v=>
    simp only [Option.map_some]
    refine xbq (xbz ?_)
    refine xbz (P:=P) ?_
    rw [e] at x;exact x
theorem yfz {mT kT eT:TypeId} {x y:Operand} {ok:Bool} {v:Value} (s:St h₀ B₀ p h L) (hL:L[i]?=some (r,o)) (hM:MapO ms o) (hm:P.underlying mT=some (.map kT eT)) (hk:P.underlying kT=some .string) (hz:zeroT P eT=some (.int .i64 0))
    (hx:evl tm x= .map (some r)) (hy:evl tm y=sv k) (hv:(if ok then .tuple #[.int .i64 ((findM ms k).getD 0),.bool (findM ms k).isSome] else .int .i64 ((findM ms k).getD 0))=v):Exd P tm ⟨d,.lookup mT x y ok,ty,pos,aft,gd⟩ h v:=by
  refine xqx (s:=Instr.lookup mT (.map (some r)) (sv k) ok) (by simp only [execOp,hx,hy]) ?_
  exact znk hm hk hz (s.at hL) hM ⟨hv,rfl⟩
theorem whx {t kT eT:TypeId} {x:Operand} (s:St h₀ B₀ p h L) (hL:L[i]?=some (r,o)) (hM:MapO ms o) (ht:P.underlying t=some (.map kT eT)) (hx:evl tm x= .map (some r)):Exd P tm ⟨d,.call ⟨.builtin .len,#[x],#[t]⟩,ty,pos,aft,gd⟩ h (.int .i64 (ms.length:Nat)):=by
  obtain ⟨es,clock,rfl,he⟩:=hM
  have hl:es.length=ms.length:=by have:=congrArg List.length he;simpa using this
  refine xww (s:=Builtin.len_ #[t] ty #[.map (some r)]) ?_ ?_
  · simp [builtin,hx]
  · unfold Builtin.len_
    simp only [List.getElem?_toArray,List.getElem?_cons_zero]
    refine xbq (xdv ht ?_)
    simp only
    refine xbq (xuj (s.at hL) ?_)
    simp only [goInt]
    exact xbz ⟨by rw [List.size_toArray,hl],rfl⟩
end

section
variable {P:Program} {md:Md} {f:FuncId} {r:Rd} {df:List Deferred} {k:List Item} {cs:List Frame} {Stop:Goroutine→Heap→Prop} {ops rest:List Oper} {tm:List Value}
  {h₀:Heap} {B₀:List Nat} {p:PHeap} {L:Pcs} {ty:TypeId} {pos:String} {aft:Array Edge} {gd:Option (Nat × Bool)} {key:List UInt8} {ms:List (List UInt8 × Int)} {o:Obj} {i q:Nat} {z:Int}
theorem ypw {dd:Nat} {mT:TypeId} (hm:Met ops tm ⟨some dd,.makeMap mT none,ty,pos,aft,gd⟩ true)
    (n: ∀ b,RL P md f r df k cs Stop ops rest (tm.set dd (.map (some b))) (fun h=>St h₀ B₀ p h ((b,.map #[] 0)::L))):
    RL P md f r df k cs Stop ops (⟨some dd,.makeMap mT none,ty,pos,aft,gd⟩::rest) tm (fun h=>St h₀ B₀ p h L):=by
  refine xtw (K:=fun v' h'=>∃ b,v'= .map (some b)∧St h₀ B₀ p h' ((b,.map #[] 0)::L)) hm rfl (fun h s=>?_) fun v'=>xgx fun b=>xez fun e=>by subst e;exact n b
  unfold Ex
  simp only [execOp]
  refine xbq ?_
  unfold Instr.makeMap
  refine xbq ?_
  simp only [newObj,wpS]
  refine xbz ?_
  exact xbz ⟨_,rfl,_,rfl,s.push _⟩
theorem yyw {mT kT eT:TypeId} {x y w:Operand} {op:Op} (hop:op= .mapUpdate mT x y w∨op= .insert mT x y w) (hm:Met ops tm ⟨none,op,ty,pos,aft,gd⟩ true) (hT:P.underlying mT=some (.map kT eT)) (hk:P.underlying kT=some .string)
    (hL:L[i]?=some (q,o)) (hM:MapO ms o) (hx:evl tm x= .map (some q)) (hy:evl tm y=sv key) (hw:evl tm w= .int .i64 z) (hf:findM ms key=none)
    (n: ∀ o',MapO (ms++[(key,z)]) o'→RL P md f r df k cs Stop ops rest tm (fun h=>St h₀ B₀ p h (L.set i (q,o')))):
    RL P md f r df k cs Stop ops (⟨none,op,ty,pos,aft,gd⟩::rest) tm (fun h=>St h₀ B₀ p h L):=by
  obtain ⟨es,clock,rfl,he⟩:=hM
  have hM':MapO (ms++[(key,z)]) (.map (es.toArray.push { key:=sv key,val:=.int .i64 z,born:=clock }) (clock+1)):=⟨es++[{ key:=sv key,val:=.int .i64 z,born:=clock }],clock+1,by simp,by simp [he]⟩
  refine zew (K:=fun h'=>St h₀ B₀ p h' (L.set i (q,.map (es.toArray.push { key:=sv key,val:=.int .i64 z,born:=clock }) (clock+1)))) hm ?_ (fun h s=>?_) rfl (n _ hM')
  · rcases hop with rfl | rfl <;> rfl
  · have e:execOp (evl tm) ⟨none,op,ty,pos,aft,gd⟩=(do Instr.mapUpdate mT (.map (some q)) (sv key) (.int .i64 z);pure Next.skip):=by
      rcases hop with rfl | rfl <;> simp only [execOp,hx,hy,hw]
    rw [e]
    refine xbq ?_
    unfold Instr.mapUpdate
    refine xbq (xdv hT ?_)
    simp only
    refine xbq (xuj (s.at hL) ?_)
    simp only
    refine xbq (ygx hk ?_)
    refine xbq (yjk hk (by simpa using he) fun j=>?_)
    rw [hf]
    simp only [Option.map_none]
    simp only [setObj,wpS,s.at hL]
    refine ⟨rfl,rfl,?_⟩
    have hq:=xmk (s.at hL)
    refine xbz ⟨rfl,s.turn hL ?_ (by simp) fun c hc=>?_⟩
    · simp [hq]
    · simp only [Array.getElem?_setIfInBounds]
      rw [if_neg (fun e=>hc e.symm)]
end
end Go.X
namespace Go.X.Cent
open Go.X Go.Proofs Go.RowKit

def Tab (h:Heap):Prop:=∃ t f,h[1]?=some (.cells (Lib.pow10Tab.map fun z=>Value.int .u64 z).toArray t f)
theorem Tab.keep {h h':Heap} (x:Tab h) (k:Keep h h'):Tab h':=by
  obtain ⟨t,f,e⟩:=x
  exact ⟨t,f,(k.keep 1 (xmk e)).trans e⟩
theorem yej : Tryz.prog.globalNamed "internal/strconv.uint64pow10" = some 1 := by kernel_rfl
theorem Tab.is {h : Heap} (x : Tab h) {w : World} (hw : w.heap = h) : Lib.TabIs Tryz.prog w "internal/strconv.uint64pow10" .u64 Lib.pow10Tab := by
  obtain ⟨t,f,e⟩:=x
  subst hw
  unfold Lib.TabIs World.var?
  rw [yej]
  simp only [Option.bind_some,e]
theorem Tab.of {w : World} (x : Lib.TabIs Tryz.prog w "internal/strconv.uint64pow10" .u64 Lib.pow10Tab) : Tab w.heap := by
  unfold Lib.TabIs World.var? at x
  rw [yej] at x
  simp only [Option.bind_some] at x
  split at x
  · rename_i c t f e
    obtain rfl:=Option.some.inj x
    exact ⟨t,f,e⟩
  · cases x

theorem xzw {B:Nat} {w w':World} (b:Below B w w'):Calm w w':=⟨b.os,b.tape,b.output,b.size⟩
theorem yqq {w w':World} (b:Below w.heap.size w w'):Keep w.heap w'.heap:=⟨b.size,b.block⟩

theorem c68 (h:Heap) (ht:Tab h) (n:Int) (h0: -9223372036854775808≤n) (h1:n≤9223372036854775807):CallsX Tryz.prog .lone 68 #[.int .i64 n] h fun v h'=>v=sv (Lib.itoa n)∧Keep h h':=by
  refine xkx fun w hw=>(Tryz.strconv_Itoa n h0 h1 w (ht.is hw)).mono ?_
  rintro e w' ⟨rfl,k,os,rfl⟩
  subst hw
  have b:=Lib.below_grow w.heap.size w (Nat.le_refl _) k os
  exact ⟨_,rfl,⟨rfl,yqq b⟩,xzw b⟩
theorem c70 (h:Heap) (l:List UInt8) (c:Nat) (hc:c≤9223372036854775807) (hl:l.length*c≤140737488355328):CallsX Tryz.prog .lone 70 #[sv l,.int .i64 (c:Nat)] h fun v h'=>v=sv (Lib.repeatL l c)∧Keep h h':=by
  refine xkx fun w hw=>(Tryz.strings_Repeat (bs l) c w hc (by rw [xqz];exact hl)).mono ?_
  rintro e w' ⟨rfl,b⟩
  subst hw
  exact ⟨_,rfl,⟨rfl,yqq b⟩,xzw b⟩
theorem c43 (h:Heap) (l m:List UInt8) (hl:l.length≤9223372036854775807):CallsX Tryz.prog .lone 43 #[sv l,sv m] h fun v h'=>v=sv (Lib.trimSuffix l m)∧Keep h h':=by
  refine xkx fun w hw=>(Tryz.strings_TrimSuffix (bs l) (bs m) w (by rw [xqz];exact hl)).mono ?_
  rintro e w' ⟨rfl,rfl⟩
  subst hw
  exact ⟨_,rfl,⟨rfl,.refl _⟩,.refl _⟩

theorem yrq (w:World) (o:Obj):(w.alloc o).heap=w.heap.push o:=rfl

def cutAfter (c:UInt8):List UInt8→List (List UInt8)
  | []=>[[]]
  | b::l=>if b=c then [b]::cutAfter c l else match cutAfter c l with
    | []=>[[b]]
    | x::r=>(b::x)::r
theorem ynz (c:UInt8): ∀ l,cutAfter c l≠[]
  | []=>by simp [cutAfter]
  | b::l=>by
    unfold cutAfter
    split
    · simp
    · split <;> simp
theorem xtk (c:UInt8): ∀ l,(cutAfter c l).length=l.count c+1
  | []=>rfl
  | b::l=>by
    have ih:=xtk c l
    unfold cutAfter
    by_cases h:b=c
    · subst h;rw [if_pos rfl];simp [ih]
    · rw [if_neg h]
      have:(b == c)=false:=by simpa using h
      cases e:cutAfter c l with
      | nil=>exact absurd e (ynz c l)
      | cons x r=>rw [e] at ih;simp [List.count_cons,this] at ih ⊢;exact ih
theorem ypj (c:UInt8): ∀ l:List UInt8,Lib.splitK [c] 1 (l.count c) l=cutAfter c l
  | []=>rfl
  | b::l=>by
    have ih:=ypj c l
    by_cases h:b=c
    · subst h
      rw [List.count_cons_self]
      unfold Lib.splitK
      have e:Lib.index (b::l) [b]=0:=by rw [Lib.index_one];simp [Lib.indexByte]
      rw [e,if_neg (by decide)]
      simp [ih,cutAfter]
    · have hb:(b == c)=false:=by simpa using h
      rw [List.count_cons_of_ne (by simpa using h)]
      unfold cutAfter
      rw [if_neg h,← ih]
      cases hk:l.count c with
      | zero=>rfl
      | succ k=>
        have hm:Lib.index l [c]≠ -1:=fun e=>by
          have:=Lib.count_miss e
          rw [Lib.count_one] at this
          omega
        have hx:Lib.index (b::l) [c]=Lib.index l [c]+1:=by
          rw [Lib.index_one] at hm ⊢
          rw [Lib.index_one]
          conv=>lhs;unfold Lib.indexByte
          rw [hb]
          simp [hm]
        have hg: -1≤Lib.index l [c]:=by rw [Lib.index_one];exact Lib.indexByte_ge l c
        obtain ⟨i,hi⟩: ∃ i:Nat,Lib.index l [c]=i:=⟨(Lib.index l [c]).toNat,by omega⟩
        unfold Lib.splitK
        rw [hx,hi,if_neg (by simp;omega),if_neg (by simp)]
        have e1:((i:Int)+1).toNat=i+1:=by omega
        rw [e1]
        simp
theorem zow (c:UInt8) (l:List UInt8):(Lib.splitB ⟨#[c]⟩ 1 (l.count c) (bs l)).map Value.string=(cutAfter c l).map sv:=by
  rw [← ypj c l]
  have:=Lib.splitB_data ⟨#[c]⟩ 1 (l.count c) (bs l)
  have e:(Lib.splitK [c] 1 (l.count c) l)=(Lib.splitB ⟨#[c]⟩ 1 (l.count c) (bs l)).map (·.data.toList):=by rw [this];simp [bs]
  rw [e,List.map_map]
  exact List.map_congr_left fun s _=>by show Value.string s=sv s.data.toList;rw [sv,wvz]

theorem c71 (h:Heap) (l:List UInt8) (c:UInt8) (hl:l.length<4294967281):CallsX Tryz.prog .lone 71 #[sv l,sv [c],.int .i64 1,.int .i64 (-1)] h fun v h'=>
    ∃ w X,v=w∧OwnS 9 1 w ((cutAfter c l).map fun x=>[sv x]) X∧New h h' X:=by
  refine xkx fun w hw=>?_
  have hcb:Lib.countB (bs l) ⟨#[c]⟩=l.count c:=by
    show Lib.count (bs l).data.toList [c]=_
    rw [Lib.count_one];simp [bs]
  have hle:l.count c≤l.length:=List.count_le_length
  refine (Any.strings_genSplit_core Tryz.lays221 (by kernel_rfl) (bs l) ⟨#[c]⟩ 1 (-1) (l.count c+1) w (by rw [xqz];exact hl) (Nat.le_refl 1) (Nat.le_refl 1) ?_ ?_ (by decide) (by decide) ?_).mono ?_
  · intro x z _
    refine (Any.strings_Index_one Tryz.lays143 x c _).mono ?_
    rintro e w' ⟨rfl,rfl⟩
    refine ⟨?_,rfl⟩
    show _=Ending.returned (Value.int .i64 (Lib.index x.data.toList [c]))
    rw [Lib.index_one]
  · refine (Any.strings_Count_one Tryz.lays138 (bs l) c w).mono ?_
    rintro e w' ⟨rfl,rfl⟩
    refine ⟨?_,rfl⟩
    rw [hcb]
    simp [Lib.countByte,bs]
  · rw [hcb,if_pos (by decide),xqz]
    omega
  · rintro e w' ⟨rfl,rfl⟩
    subst hw
    rw [Nat.add_sub_cancel]
    have hn:(Lib.splitB ⟨#[c]⟩ 1 (l.count c) (bs l)).length=l.count c+1:=Lib.splitB_all ⟨#[c]⟩ (Nat.le_refl 1) _ _ _ hcb
    have e2:Lib.cellsOf (Lib.splitB ⟨#[c]⟩ 1 (l.count c) (bs l)) (l.count c+1)=((cutAfter c l).map sv).toArray:=by rw [← hn,Lib.cellsOf_full,zow]
    rw [e2,hn]
    refine ⟨_,rfl,⟨_,[(w.heap.size,.cells ((cutAfter c l).map sv).toArray 9 (0,0))],rfl,⟨by simp,.inr ⟨w.heap.size,(cutAfter c l).map sv,l.count c+1,[],?_,rfl,?_,?_,fun _=>by omega⟩⟩,?_⟩,⟨rfl,rfl,rfl,?_⟩⟩
    · simp [xtk]
    · simp only [List.append_nil]
      induction cutAfter c l with
      | nil=>rfl
      | cons x r ih=>simp [← ih]
    · simp [xtk]
    · rw [yrq]
      refine ⟨⟨by simp,fun b hb=>by rw [Array.getElem?_push,if_neg (by omega)]⟩,?_,by simp⟩
      intro x hx
      rw [List.mem_singleton.1 hx]
      refine ⟨?_,Nat.le_refl _⟩
      simp only [Array.getElem?_push_size]
      rfl
    · rw [yrq];simp
end Go.X.Cent
namespace Go.Proofs.YtphalmjpbnffcaaGreatDoor
open Go.X Go.X.Kn Go.X.Cent Go.Conc Go.RowKit Go.ChangeShapes Go.WideShapes Go.ChangeAt Go.Joins

set_option maxRecDepth 100000

theorem pOwn:ownKnob Tryz.prog.godebug=none:=by kernel_rfl
theorem wtk:laidOutB Tryz.prog=true:=by kernel_rfl
theorem pC3: Tryz.prog.cellsOf 3=1:=by kernel_rfl
def pW (W:World):PHeap:=fun b=>W.heap[b]?
theorem wrj (W:World):Per (pW W) W.heap:=fun _ _ e=>e
theorem wnq {W:World} {a:Addr} {v:Value} (h:W.cell? a=some v):pcell (pW W) a=some v:=by
  unfold World.cell? at h
  unfold pcell pW
  cases e:W.heap[a.block]? with
  | none=>rw [e] at h;cases h
  | some o=>
    rw [e] at h
    cases o with
    | cells c t f=>exact h
    | _=>cases h
theorem sl_W {W:World} {a:Addr} {n w:Nat} {E:Nat→List Value} (h: ∀ i,i<n→W.cells? 0 (a.add (i*w)) w=some (E i)):Sl (pW W) (some a) n w ((List.range n).map E):=by
  refine ⟨by simp,fun e he=>?_,fun _=>rfl,fun i e he j x hx=>?_⟩
  · obtain ⟨i,hi,rfl⟩:=List.mem_map.1 he
    exact (zcv (h i (List.mem_range.1 hi))).1
  · rw [List.getElem?_map] at he
    obtain ⟨i',hi',rfl⟩:=Option.map_eq_some_iff.1 he
    obtain ⟨hlt,rfl⟩:i<n∧i=i':=by simpa using List.getElem?_eq_some_iff.1 hi'
    exact wnq ((zcv (h i hlt)).2 j x hx)

section
variable {H:Type} {enc:TypeId × Value→H} {W:World}
theorem zjv {fuel:Nat} {t e w:TypeId} {v:Value} {y:DataW H × List MemPlace} {Q:List Value→Prop} (ht: Tryz.prog.underlying t=some (.slice e)) (hw: Tryz.prog.cellsOf e=w)
    (hQ: ∀ m cs y,DataW.trod enc Tryz.prog W 0 (fun _=>true) true m e cs=some y→Q cs) (h:DataW.trod enc Tryz.prog W 0 (fun _=>true) true fuel t [v]=some y):
    ∃ a n c E,v= .slice a n c∧n≤9223372036854775807∧n≤c∧(∀ i,i<n→Q (E i))∧Sl (pW W) a n w ((List.range n).map E):=by
  rcases Go.Deep.open_slice ht h with ⟨e1,_⟩ | ⟨a,len,cap,m,k,D,Pl,e1,_,hl,hcap,hm,_,hall⟩
  · obtain rfl:v= .slice none 0 0:=by simpa using e1
    exact ⟨none,0,0,fun _=>[],rfl,by omega,Nat.le_refl _,fun i hi=>absurd hi (by omega),wqv _ _⟩
  · obtain rfl:v= .slice (some a) len cap:=by simpa using e1
    simp only [if_true] at hm
    subst hw
    obtain ⟨E,hE⟩:=Go.Deep.choose_lt (n:=len) (p:=fun i cs=>W.cells? 0 (a.add (i* Tryz.prog.cellsOf e)) (Tryz.prog.cellsOf e)=some cs∧Q cs) fun i hi=>by
      obtain ⟨cs,h1,h2⟩:=hall i (by omega)
      exact ⟨cs,h1,hQ _ _ _ h2⟩
    exact ⟨_,_,_,E,rfl,by unfold maxLen at hcap;omega,hl,fun i hi=>(hE i hi).2,sl_W fun i hi=>(hE i hi).1⟩
theorem zqq {fuel:Nat} {v:Value} {y:DataW H × List MemPlace} (h:DataW.trod enc Tryz.prog W 0 (fun _=>true) true fuel 26 [v]=some y):
    ∃ a n c xs,v= .slice a n c∧n≤9223372036854775807∧n≤c∧Ints (pW W) a n xs:=by
  obtain ⟨a,n,c,E,rfl,hb,hc,hQ,s⟩:=zjv Tryz.underlying26 pC3 (Q:=fun cs=>∃ n:Int,cs=[.int .i64 n]) (fun m cs y h=>ycz Tryz.underlying3 h) h
  obtain ⟨z,hz⟩:=Go.Deep.choose_lt hQ
  refine ⟨a,n,c,(List.range n).map z,rfl,hb,hc,?_⟩
  have:(List.range n).map E=((List.range n).map z).map fun x=>[Value.int .i64 x]:=by
    rw [List.map_map]
    exact List.map_congr_left fun i hi=>hz i (List.mem_range.1 hi)
  unfold Ints
  rw [← this];exact s
end

theorem zdj {W:World} (h:laidMetH Tryz.prog Rows.topKeptRow.laid W):Tab W.heap:=by
  rw [MakeChecks.laidMetH_plain _ _ _ (by kernel_rfl)] at h
  have h2 := laidMet.filter (fun x => x.1 == "internal/strconv.uint64pow10") h
  have e : (Rows.topKeptRow.laid.filter fun x => x.1 == "internal/strconv.uint64pow10") = [("internal/strconv.uint64pow10", Lib.tabData .u64 Lib.pow10Tab)] := by kernel_rfl
  rw [e] at h2
  exact Tab.of (Lib.tabIs_of_head (t:=189) (e:=173) (n:=20) yej (by kernel_rfl) (by kernel_rfl) (by kernel_rfl) (by kernel_rfl) (by kernel_rfl) h2)
noncomputable def laidW (os:Os):World:=World.laidAll Tryz.prog os Rows.topKeptRow.laid
theorem zww (os:Os) (args:Array Value):laidMetH Tryz.prog Rows.topKeptRow.laid ((laidW os).forCall (fun _ _=>0) ⟨#[],args,[]⟩).memory:=by
  rw [MakeChecks.laidMetH_plain _ _ _ (by kernel_rfl)]
  exact laidMet_laidAll _ (by kernel_rfl) (by kernel_rfl)
theorem whw {w w':World} (k:Keep w.heap w'.heap) (c:Go.X.Calm w w'):Below w.heap.size w w':=⟨c.os,c.tape,c.output,c.size,fun b hb=>k.keep b hb⟩
end Go.Proofs.YtphalmjpbnffcaaGreatDoor
namespace Go.X.Hr
open Go.X

structure Str4 where
  has:Int
  lo:Int
  hi:Int
  cost:Int
deriving DecidableEq
def Str4.cells (x:Str4):List Value:=[.int .i64 x.has,.int .i64 x.lo,.int .i64 x.hi,.int .i64 x.cost]
def sz:Str4:=⟨0,0,0,0⟩
def stcs (xs:List Str4):List (List Value):=xs.map Str4.cells
def Sts (p:PHeap) (a:Option Addr) (n:Nat) (xs:List Str4):Prop:=Sl p a n 4 (stcs xs)
section
variable {p p':PHeap} {a:Option Addr} {n k:Nat} {xs:List Str4}
theorem Sts.len (s:Sts p a n xs):xs.length=n:=by have:=Sl.len s;simpa [stcs] using this
theorem Sts.mono (hp:PLe p p') (s:Sts p a n xs):Sts p' a n xs:=Sl.mono hp s
theorem Sts.ne (s:Sts p a n xs) (hk:0<n):a=some (adr a):=Sl.ne s hk
theorem Sts.at (s:Sts p a n xs) (hk:k<n) {j:Nat} {v:Value} (hv:(xs.getD k sz).cells[j]?=some v):pcell p (((adr a).add (k*4)).add j)=some v:=by
  have hl:=s.len
  exact Sl.get s k (xs.getD k sz).cells (by rw [stcs,List.getElem?_map,List.getD_eq_getElem?_getD,List.getElem?_eq_getElem (by omega)];rfl) j v hv
theorem Sts.all (s:Sts p a n xs) (hk:k<n): ∀ j v,[Value.int .i64 (xs.getD k sz).has,.int .i64 (xs.getD k sz).lo,.int .i64 (xs.getD k sz).hi,.int .i64 (xs.getD k sz).cost][j]?=some v→pcell p (((adr a).add (k*4)).add j)=some v:=fun _ _ hv=>s.at hk hv
end
structure Rst where
  room:List Int
  sts:List Str4
structure RstP (p:PHeap) (a:Option Addr) (n:Nat) (b:Option Addr) (m:Nat) (q:Rst):Prop where
  r:Ints p a n q.room
  s:Sts p b m q.sts
def badR (x:Int):Bool:=!decide (0≤x∧x≤6)
def okS (n:Nat) (s:Str4):Prop:=(s.has= -1∨0≤s.has∧s.has≤(n:Int)-1)∧(0≤s.lo∧s.lo≤(n:Int)-1)∧(0≤s.hi∧s.hi≤(n:Int)-1)∧s.lo≤s.hi∧0≤s.cost∧s.cost≤9
instance (n s):Decidable (okS n s):=by unfold okS;infer_instance
def rosB (r:Rst):Prop:=r.room.length≤8∧(∀ x∈r.room,badR x=false)∧r.sts.length≤6∧ ∀ s∈r.sts,okS r.room.length s
instance (r):Decidable (rosB r):=by unfold rosB;infer_instance
def chkH (r:Rst):Int:=if rosB r then 0 else 80
def moveI (s:Str4) (h:Int):Int:=if s.has= -1 then 0 else max (s.has-h) (h-s.has)
def stepsI (s:Str4) (h:Int):Int:=moveI s h*s.cost
def less (L:List Int) (h:Int):List Int:=L.set h.toNat (L.getD h.toNat 0-1)
def bestJ (f:List Int→Int × Int) (s:Str4) (L:List Int):Nat→Int × Int
  | 0=>(0,-1)
  | j+1=>
    if L.getD (s.lo+j).toNat 0=0 then bestJ f s L j
    else if (f (less L (s.lo+j))).2<0 then bestJ f s L j
    else if (bestJ f s L j).2<0∨stepsI s (s.lo+j)+(f (less L (s.lo+j))).1<(bestJ f s L j).1 then (stepsI s (s.lo+j)+(f (less L (s.lo+j))).1,s.lo+j) else bestJ f s L j
def bestF:List Str4→List Int→Int × Int
  | [],_=>(0,0)
  | s::ss,L=>bestJ (bestF ss) s L (s.hi-s.lo+1).toNat
def rosF:List Str4→List Int→List Int
  | [],_=>[]
  | s::ss,L=>(bestF (s::ss) L).2::rosF ss (less L (bestF (s::ss) L).2)
def Asg:List Str4→List Int→List Int→Prop
  | [],_,hs=>hs=[]
  | s::ss,L,hs=>∃ h t,hs=h::t∧s.lo≤h∧h≤s.hi∧L.getD h.toNat 0≠0∧Asg ss (less L h) t
def costH:List Str4→List Int→Int
  | s::ss,h::hs=>stepsI s h+costH ss hs
  | _,_=>0
def BG (f:List Int→Int × Int) (s:Str4) (L:List Int) (j:Nat) (x:Int × Int):Prop:=x.2<0∨(s.lo≤x.2∧x.2<s.lo+j∧L.getD x.2.toNat 0≠0∧0≤(f (less L x.2)).2∧x.1=stepsI s x.2+(f (less L x.2)).1)
theorem BG.up {f s L j x} (h:BG f s L j x):BG f s L (j+1) x:=by
  rcases h with h | ⟨a,b,c⟩
  · exact .inl h
  · exact .inr ⟨a,by omega,c⟩
theorem ywq {f:List Int→Int × Int} {s:Str4} {L:List Int} (h0:0≤s.lo): ∀ j,BG f s L j (bestJ f s L j)
  | 0=>.inl (by show (-1:Int)<0;decide)
  | j+1=>by
    have ih:=ywq (f:=f) (L:=L) h0 j
    rw [bestJ]
    by_cases c1:L.getD (s.lo+j).toNat 0=0
    · rw [if_pos c1];exact ih.up
    · rw [if_neg c1]
      by_cases c2:(f (less L (s.lo+j))).2<0
      · rw [if_pos c2];exact ih.up
      · rw [if_neg c2]
        by_cases c3:(bestJ f s L j).2<0∨stepsI s (s.lo+j)+(f (less L (s.lo+j))).1<(bestJ f s L j).1
        · rw [if_pos c3]
          exact .inr ⟨by show s.lo≤s.lo+(j:Int);omega,by show s.lo+(j:Int)<s.lo+((j+1:Nat):Int);omega,c1,Int.not_lt.1 c2,rfl⟩
        · rw [if_neg c3];exact ih.up
theorem zmw {f:List Int→Int × Int} {s:Str4} {L:List Int} (h0:0≤s.lo): ∀ {j:Nat} {h:Int},s.lo≤h→h<s.lo+j→L.getD h.toNat 0≠0→0≤(f (less L h)).2→0≤(bestJ f s L j).2∧(bestJ f s L j).1≤stepsI s h+(f (less L h)).1
  | 0,h,h1,h2,_,_=>by omega
  | j+1,h,h1,h2,hr,ha=>by
    rw [bestJ]
    by_cases e:h=s.lo+j
    · subst e
      rw [if_neg hr,if_neg (Int.not_lt.2 ha)]
      by_cases c3:(bestJ f s L j).2<0∨stepsI s (s.lo+j)+(f (less L (s.lo+j))).1<(bestJ f s L j).1
      · rw [if_pos c3];exact ⟨by show 0≤s.lo+(j:Int);omega,Int.le_refl _⟩
      · rw [if_neg c3];omega
    · have ih:=zmw (f:=f) (L:=L) h0 (j:=j) h1 (by omega) hr ha
      by_cases c1:L.getD (s.lo+j).toNat 0=0
      · rw [if_pos c1];exact ih
      · rw [if_neg c1]
        by_cases c2:(f (less L (s.lo+j))).2<0
        · rw [if_pos c2];exact ih
        · rw [if_neg c2]
          by_cases c3:(bestJ f s L j).2<0∨stepsI s (s.lo+j)+(f (less L (s.lo+j))).1<(bestJ f s L j).1
          · rw [if_pos c3];exact ⟨by show 0≤s.lo+(j:Int);omega,by show stepsI s (s.lo+j)+(f (less L (s.lo+j))).1≤_;omega⟩
          · rw [if_neg c3];exact ih
theorem zev: ∀ {ss:List Str4} {L:List Int},(∀ s∈ss,0≤s.lo∧s.lo≤s.hi)→0≤(bestF ss L).2→Asg ss L (rosF ss L)∧costH ss (rosF ss L)=(bestF ss L).1
  | [],L,_,_=>⟨rfl,rfl⟩
  | s::ss,L,hs,h=>by
    have hb:=hs s (List.mem_cons_self ..)
    have h:0≤(bestJ (bestF ss) s L (s.hi-s.lo+1).toNat).2:=h
    rcases ywq (f:=bestF ss) (L:=L) hb.1 (s.hi-s.lo+1).toNat with g | ⟨g1,g2,g3,g4,g5⟩
    · omega
    · have ih:=zev (fun s z=>hs s (List.mem_cons_of_mem _ z)) g4
      refine ⟨⟨_,_,rfl,g1,?_,g3,ih.1⟩,?_⟩
      · show (bestJ (bestF ss) s L (s.hi-s.lo+1).toNat).2≤s.hi;omega
      · show stepsI s (bestJ (bestF ss) s L (s.hi-s.lo+1).toNat).2+costH ss (rosF ss (less L (bestJ (bestF ss) s L (s.hi-s.lo+1).toNat).2))=(bestJ (bestF ss) s L (s.hi-s.lo+1).toNat).1
        rw [ih.2,g5]
theorem yqv: ∀ {ss:List Str4} {L hs:List Int},(∀ s∈ss,0≤s.lo∧s.lo≤s.hi)→Asg ss L hs→0≤(bestF ss L).2∧(bestF ss L).1≤costH ss hs
  | [],L,hs,_,h=>by obtain rfl:hs=[]:=h;exact ⟨Int.le_refl _,Int.le_refl _⟩
  | s::ss,L,hs,hb,h=>by
    obtain ⟨h,t,rfl,h1,h2,h3,h4⟩:=h
    have ih:=yqv (fun s z=>hb s (List.mem_cons_of_mem _ z)) h4
    have b:=hb s (List.mem_cons_self ..)
    have:=zmw (f:=bestF ss) (s:=s) (L:=L) b.1 (j:=(s.hi-s.lo+1).toNat) h1 (by omega) h3 ih.1
    exact ⟨this.1,Int.le_trans this.2 (Int.add_le_add_left ih.2 _)⟩
theorem xpj: ∀ (ss:List Str4) (L:List Int),(rosF ss L).length=ss.length
  | [],_=>rfl
  | s::ss,L=>by rw [rosF,List.length_cons,xpj ss,List.length_cons]
end Go.X.Hr
namespace Go.Proofs.YtphalmjpbnffcaaGreatDoor
open Go.X Go.X.Kn Go.X.Hr Go.X.Cent Go.Conc Go.RowKit Go.ChangeShapes Go.WideShapes Go.ChangeAt Go.Joins
set_option maxRecDepth 100000
instance:Inhabited Str4:=⟨sz⟩
theorem pC91: Tryz.prog.cellsOf 91=4:=by kernel_rfl
theorem pC51: Tryz.prog.cellsOf 51=2:=by kernel_rfl
section
variable {H:Type} {enc:TypeId × Value→H} {W:World}
theorem zdx {m:Nat} {cs:List Value} {y:DataW H × List MemPlace} (h:DataW.trod enc Tryz.prog W 0 (fun _=>true) true m 91 cs=some y): ∃ x:Str4,cs=x.cells:=by
  obtain ⟨y0,y1,y2,y3,n,_,hl,h0,h1,h2,h3⟩:=Go.Joins.trod_struct4 Tryz.underlying91 h
  rw [pC91] at hl
  obtain ⟨a,ha⟩:=ycz Tryz.underlying3 h0
  obtain ⟨b,hb⟩:=ycz Tryz.underlying3 h1
  obtain ⟨c,hc⟩:=ycz Tryz.underlying3 h2
  obtain ⟨d,hd⟩:=ycz Tryz.underlying3 h3
  match cs,hl with
  | [u,v,w,x],_=>
    refine ⟨⟨a,b,c,d⟩,?_⟩
    simp [pC3] at ha hb hc hd
    simp [Str4.cells,ha,hb,hc,hd]
theorem zvj {fuel:Nat} {t:TypeId} (ht: Tryz.prog.underlying t=some (.slice 91)) {v:Value} {y:DataW H × List MemPlace} (h:DataW.trod enc Tryz.prog W 0 (fun _=>true) true fuel t [v]=some y):
    ∃ a n c xs,v= .slice a n c∧n≤9223372036854775807∧n≤c∧Sts (pW W) a n xs:=by
  obtain ⟨a,n,c,E,rfl,hb,hc,hQ,s⟩:=zjv ht pC91 (Q:=fun cs=>∃ x:Str4,cs=x.cells) (fun m cs y h=>zdx h) h
  obtain ⟨z,hz⟩:=Go.Deep.choose_lt hQ
  refine ⟨a,n,c,(List.range n).map z,rfl,hb,hc,?_⟩
  have:(List.range n).map E=stcs ((List.range n).map z):=by
    unfold stcs
    rw [List.map_map]
    exact List.map_congr_left fun i hi=>hz i (List.mem_range.1 hi)
  unfold Sts
  rw [← this];exact s
theorem zfv {base:Nat} {v:Value} {d:DataW H} {p:List MemPlace} (hv:Value.okWide Tryz.prog W .any base 51 v) (h:DataW.Trod enc Tryz.prog W 0 (fun _=>true) true 51 v d p):
    ∃ a ca b cb r,v= .agg #[.slice a r.room.length ca,.slice b r.sts.length cb]∧(r.room.length≤9223372036854775807∧r.sts.length≤9223372036854775807)∧RstP (pW W) a r.room.length b r.sts.length r:=by
  obtain ⟨v0,v1,y0,y1,n,rfl,_,_,h0,h1⟩:=open_agg2 Tryz.underlying51 (by kernel_rfl) pC51 hv h
  obtain ⟨a,n2,c,xs,rfl,b2,_,T2⟩:=zqq h0
  obtain ⟨b,n3,c3,ss,rfl,b3,_,T3⟩:=zvj Tryz.underlying49 h1
  obtain rfl:=T2.len
  obtain rfl:=T3.len
  exact ⟨a,c,b,c3,⟨xs,ss⟩,rfl,⟨b2,b3⟩,⟨T2,T3⟩⟩
end
end Go.Proofs.YtphalmjpbnffcaaGreatDoor
namespace Go.X
open Go.Conc

abbrev zq1 {a:Value} (l:List Value):List Value:=a::l
abbrev zq2 {a b:Value} (l:List Value):List Value:=a::b::l
abbrev zq4 {a b c d:Value} (l:List Value):List Value:=a::b::c::d::l
abbrev zq8 {a b c d e f g h:Value} (l:List Value):List Value:=a::b::c::d::e::f::g::h::l
abbrev zq16 {a b c d e f g h i j k m n o p q:Value} (l:List Value):List Value:=a::b::c::d::e::f::g::h::i::j::k::m::n::o::p::q::l
abbrev zq32 {a b c d e f g h i j k m n o p q a' b' c' d' e' f' g' h' i' j' k' m' n' o' p' q':Value} (l:List Value):List Value:=
  a::b::c::d::e::f::g::h::i::j::k::m::n::o::p::q::a'::b'::c'::d'::e'::f'::g'::h'::i'::j'::k'::m'::n'::o'::p'::q'::l
abbrev zu4 (l:List Value):List Value:=undef::undef::undef::undef::l
abbrev zu8 (l:List Value):List Value:=undef::undef::undef::undef::undef::undef::undef::undef::l
abbrev zu16 (l:List Value):List Value:=undef::undef::undef::undef::undef::undef::undef::undef::undef::undef::undef::undef::undef::undef::undef::undef::l

theorem mn {ops:List Oper} {tm:List Value} {o:Oper} (h:o.guard=none:=by rfl):Met ops tm o true:=xaz h
theorem ms {ops:List Oper} {tm:List Value} {o:Oper} {j:Nat} {want b:Bool} (h:o.guard=some (j,want)) (hy:yieldl ops tm j=some b) (hb:b=want):Met ops tm o true:=xhz h hy hb
theorem mo {ops:List Oper} {tm:List Value} {o:Oper} {j:Nat} {want b:Bool} (h:o.guard=some (j,want)) (hy:yieldl ops tm j=some b) (hb:b= !want):Met ops tm o false:=xhx h hy hb
theorem dtt {p:Prop} [i:Decidable p] (h:p):decide p=true:=decide_eq_true h
theorem dff {p:Prop} [i:Decidable p] (h: ¬ p):decide p=false:=decide_eq_false h
section
variable {P:Program} {md:Md} {Φ Base:Heap→Prop} {ops full rest:List Oper} {f:FuncId} {r:Rd} {df:List Deferred} {k:List Item} {cs:List Frame} {Stop:Goroutine→Heap→Prop} {tm tm':List Value} {o:Oper} {v:Value}
theorem rd [Stb Φ] (hx: ∀ h,Φ h→Exd P tm o h v) (n:RL P md f r df k cs Stop ops rest (putl tm o.dst v) Φ) (hm:o.guard=none:=by rfl) (hd:noDefer o.op=true:=by rfl):RL P md f r df k cs Stop ops (o::rest) tm Φ:=
  xaj (xaz hm) hx rfl n hd
theorem ro [Stb Φ] (hx: ∀ {h},Exd P tm o h v) (n:RL P md f r df k cs Stop ops rest (putl tm o.dst v) Φ) (hm:o.guard=none:=by rfl) (hd:noDefer o.op=true:=by rfl):RL P md f r df k cs Stop ops (o::rest) tm Φ:=
  xaj (xaz hm) (fun _ _=>hx) rfl n hd
theorem rt [Stb Φ] (hx: ∀ {h},Exd P tm o h v) (ht:putl tm o.dst v=tm') (n:RL P md f r df k cs Stop ops rest tm' Φ) (hm:o.guard=none:=by rfl) (hd:noDefer o.op=true:=by rfl):RL P md f r df k cs Stop ops (o::rest) tm Φ:=
  xaj (xaz hm) (fun _ _=>hx) ht n hd
theorem wd (hx: ∀ h,Base h→Exd P tm o h v) (n:SWR P md f r df k cs Stop Base ops full rest (putl tm o.dst v)) (hm:o.guard=none:=by rfl) (hd:noDefer o.op=true:=by rfl):SWR P md f r df k cs Stop Base ops full (o::rest) tm:=
  xfq (xaz hm) hx rfl n hd
theorem wo (hx: ∀ {h},Exd P tm o h v) (n:SWR P md f r df k cs Stop Base ops full rest (putl tm o.dst v)) (hm:o.guard=none:=by rfl) (hd:noDefer o.op=true:=by rfl):SWR P md f r df k cs Stop Base ops full (o::rest) tm:=
  xfq (xaz hm) (fun _ _=>hx) rfl n hd
theorem wt (hx: ∀ {h},Exd P tm o h v) (ht:putl tm o.dst v=tm') (n:SWR P md f r df k cs Stop Base ops full rest tm') (hm:o.guard=none:=by rfl) (hd:noDefer o.op=true:=by rfl):SWR P md f r df k cs Stop Base ops full (o::rest) tm:=
  xfq (xaz hm) (fun _ _=>hx) ht n hd
theorem rp [Stb Φ] (hm:Met ops tm o false) (n:RL P md f r df k cs Stop ops rest (putl tm o.dst undef) Φ):RL P md f r df k cs Stop ops (o::rest) tm Φ:=xck hm rfl n
theorem wp (hm:Met ops tm o false) (n:SWR P md f r df k cs Stop Base ops full rest (putl tm o.dst undef)) (hd:noDefer o.op=true:=by rfl):SWR P md f r df k cs Stop Base ops full (o::rest) tm:=xrw hm rfl n hd
theorem fsr [Stb Φ] {y:Code} {id:Nat} {l:List Oper} (x:RL P md f r df (.code y::k) cs Stop l l tm Φ):RS P md (G (FL f r tm df (.code (.seq (.region id l.toArray false) y)::k)) cs) Φ Stop:=xbj (xav x)
theorem ren [Stb Φ] {x y:Code} (z:RS P md (G (FL f r tm df (.code x:: .code y::k)) cs) Φ Stop):RL P md f r df (.code (.seq x y)::k) cs Stop ops [] tm Φ:=xak (xbj z)
end
theorem St.pe {h₀:Heap} {B₀:List Nat} {p:PHeap} {h:Heap} {L:List (Nat × Obj)} (s:St h₀ B₀ p h L):Per p h:=fun b o e=>s.per b o e
end Go.X
namespace Go.Proofs.YtphalmjpbnffcaaGreatDoor
open Go.X

theorem mixed: Tryz.prog.follows .mixedOrders=true:=by kernel_rfl
theorem tA3:aggT Tryz.prog 3=some false:=by kernel_rfl
theorem tS3:sizeT Tryz.prog 3=some 1:=by kernel_rfl
theorem tZ3:zeroT Tryz.prog 3=some (.int .i64 0):=by kernel_rfl
theorem tA5:aggT Tryz.prog 5=some false:=by kernel_rfl
theorem tS5:sizeT Tryz.prog 5=some 1:=by kernel_rfl
theorem tZ5:zeroT Tryz.prog 5=some (.int .u8 0):=by kernel_rfl
theorem tA9:aggT Tryz.prog 9=some false:=by kernel_rfl
theorem tS9:sizeT Tryz.prog 9=some 1:=by kernel_rfl
theorem tZ9:zeroT Tryz.prog 9=some (.string ⟨#[]⟩):=by kernel_rfl
theorem tA22:aggT Tryz.prog 22=some false:=by kernel_rfl
theorem tA23:aggT Tryz.prog 23=some false:=by kernel_rfl
theorem tS23:sizeT Tryz.prog 23=some 1:=by kernel_rfl
theorem tA25:aggT Tryz.prog 25=some true:=by kernel_rfl
theorem tS25:sizeT Tryz.prog 25=some 4:=by kernel_rfl
theorem ygj:fieldT Tryz.prog 25 0=some (0,1):=by kernel_rfl
theorem ypx:fieldT Tryz.prog 25 1=some (1,1):=by kernel_rfl
theorem xxj:fieldT Tryz.prog 25 2=some (2,1):=by kernel_rfl
theorem zsz:fieldT Tryz.prog 25 3=some (3,1):=by kernel_rfl
theorem tA26:aggT Tryz.prog 26=some false:=by kernel_rfl
theorem tA47:aggT Tryz.prog 47=some false:=by kernel_rfl
theorem tS47:sizeT Tryz.prog 47=some 1:=by kernel_rfl
theorem tA49:aggT Tryz.prog 49=some false:=by kernel_rfl
theorem tA51:aggT Tryz.prog 51=some true:=by kernel_rfl
theorem tS51:sizeT Tryz.prog 51=some 2:=by kernel_rfl
theorem tZ51:zeroT Tryz.prog 51=some (.agg #[.slice none 0 0,.slice none 0 0]):=by kernel_rfl
theorem tP51:placesT Tryz.prog 51=some [(0,1),(1,1)]:=by kernel_rfl
theorem xtz:fieldT Tryz.prog 51 0=some (0,1):=by kernel_rfl
theorem xoq:fieldT Tryz.prog 51 1=some (1,1):=by kernel_rfl
theorem tA63:aggT Tryz.prog 63=some true:=by kernel_rfl
theorem tS63:sizeT Tryz.prog 63=some 2:=by kernel_rfl
theorem tZ63:zeroT Tryz.prog 63=some (.agg #[.int .i64 0,.int .i64 0]):=by kernel_rfl
theorem tP63:placesT Tryz.prog 63=some [(0,1),(1,1)]:=by kernel_rfl
theorem tA68:aggT Tryz.prog 68=some true:=by kernel_rfl
theorem tS68:sizeT Tryz.prog 68=some 2:=by kernel_rfl
theorem zsx:fieldT Tryz.prog 68 0=some (0,1):=by kernel_rfl
theorem ypq:fieldT Tryz.prog 68 1=some (1,1):=by kernel_rfl
theorem tA91:aggT Tryz.prog 91=some true:=by kernel_rfl
theorem tS91:sizeT Tryz.prog 91=some 4:=by kernel_rfl
theorem tZ91:zeroT Tryz.prog 91=some (.agg #[.int .i64 0,.int .i64 0,.int .i64 0,.int .i64 0]):=by kernel_rfl
theorem tP91:placesT Tryz.prog 91=some [(0,1),(1,1),(2,1),(3,1)]:=by kernel_rfl
theorem ykj:fieldT Tryz.prog 91 0=some (0,1):=by kernel_rfl
theorem xuv:fieldT Tryz.prog 91 1=some (1,1):=by kernel_rfl
theorem xuk:fieldT Tryz.prog 91 2=some (2,1):=by kernel_rfl
theorem yxj:fieldT Tryz.prog 91 3=some (3,1):=by kernel_rfl
theorem wpw:zeroT Tryz.prog 108=some (.agg #[.pointer none,.slice none 0 0]):=by kernel_rfl
theorem ysq:fieldT Tryz.prog 108 1=some (1,1):=by kernel_rfl
theorem zov:aggT Tryz.prog 112=some true:=by kernel_rfl
theorem xxw:sizeT Tryz.prog 112=some 2:=by kernel_rfl
theorem yck:zeroT Tryz.prog 112=some (.agg #[.int .i64 0,.int .i64 0]):=by kernel_rfl
theorem wjz:placesT Tryz.prog 112=some [(0,1),(1,1)]:=by kernel_rfl
theorem yrw:fieldT Tryz.prog 112 0=some (0,1):=by kernel_rfl
theorem ybz:fieldT Tryz.prog 112 1=some (1,1):=by kernel_rfl
theorem wtz:aggT Tryz.prog 126=some false:=by kernel_rfl
theorem wtx:aggT Tryz.prog 130=some true:=by kernel_rfl
theorem wsw:sizeT Tryz.prog 130=some 8:=by kernel_rfl
theorem yoz:aggT Tryz.prog 132=some true:=by kernel_rfl
theorem ybx:sizeT Tryz.prog 132=some 9:=by kernel_rfl
theorem wbw:zeroT Tryz.prog 132=some (.agg #[.int .i64 0,.int .i64 0,.int .i64 0,.int .i64 0,.int .i64 0,.int .i64 0,.int .i64 0,.int .i64 0,.int .i64 0]):=by kernel_rfl
theorem ykk:fieldT Tryz.prog 132 0=some (0,1):=by kernel_rfl
theorem yrv:fieldT Tryz.prog 132 1=some (1,8):=by kernel_rfl
theorem wqq:aggT Tryz.prog 134=some false:=by kernel_rfl
theorem wsv:zeroT Tryz.prog 136=some (.agg #[.slice none 0 0,.slice none 0 0,.nilFunc,.map none]):=by kernel_rfl
theorem wtq:placesT Tryz.prog 136=some [(0,2),(2,1),(3,1)]:=by kernel_rfl
theorem yrk:fieldT Tryz.prog 136 0=some (0,2):=by kernel_rfl
theorem wjj:fieldT Tryz.prog 136 1=some (2,1):=by kernel_rfl
theorem zsj:fieldT Tryz.prog 136 2=some (3,1):=by kernel_rfl
theorem zok:aggT Tryz.prog 138=some true:=by kernel_rfl
theorem ybq:sizeT Tryz.prog 138=some 2:=by kernel_rfl
theorem yox:zeroT Tryz.prog 138=some (.agg #[.int .i64 0,.int .i64 0]):=by kernel_rfl
theorem wcq:placesT Tryz.prog 138=some [(0,1),(1,1)]:=by kernel_rfl
theorem zdv:fieldT Tryz.prog 138 0=some (0,1):=by kernel_rfl
theorem zdk:fieldT Tryz.prog 138 1=some (1,1):=by kernel_rfl
theorem tB3:bytesT Tryz.prog 3=some 8:=by kernel_rfl
theorem tB5:bytesT Tryz.prog 5=some 1:=by kernel_rfl
theorem tB9:bytesT Tryz.prog 9=some 16:=by kernel_rfl
theorem tB91:bytesT Tryz.prog 91=some 32:=by kernel_rfl
theorem wjk:bytesT Tryz.prog 112=some 16:=by kernel_rfl
theorem fC6:callable Tryz.prog 6=true:=by kernel_rfl
theorem fC8:callable Tryz.prog 8=true:=by kernel_rfl
theorem fC9:callable Tryz.prog 9=true:=by kernel_rfl
theorem fC12:callable Tryz.prog 12=true:=by kernel_rfl
theorem fC13:callable Tryz.prog 13=true:=by kernel_rfl
theorem fC14:callable Tryz.prog 14=true:=by kernel_rfl
theorem fC17:callable Tryz.prog 17=true:=by kernel_rfl
theorem fC18:callable Tryz.prog 18=true:=by kernel_rfl
theorem fC19:callable Tryz.prog 19=true:=by kernel_rfl
theorem fC20:callable Tryz.prog 20=true:=by kernel_rfl
theorem fC21:callable Tryz.prog 21=true:=by kernel_rfl
theorem fC22:callable Tryz.prog 22=true:=by kernel_rfl
theorem fC23:callable Tryz.prog 23=true:=by kernel_rfl
theorem fC24:callable Tryz.prog 24=true:=by kernel_rfl
theorem fC25:callable Tryz.prog 25=true:=by kernel_rfl
theorem fC26:callable Tryz.prog 26=true:=by kernel_rfl
theorem fC27:callable Tryz.prog 27=true:=by kernel_rfl
theorem fC28:callable Tryz.prog 28=true:=by kernel_rfl
theorem fC29:callable Tryz.prog 29=true:=by kernel_rfl
theorem fC30:callable Tryz.prog 30=true:=by kernel_rfl
theorem fC31:callable Tryz.prog 31=true:=by kernel_rfl
theorem fC34:callable Tryz.prog 34=true:=by kernel_rfl
theorem fC35:callable Tryz.prog 35=true:=by kernel_rfl
theorem fC37:callable Tryz.prog 37=true:=by kernel_rfl
theorem fC38:callable Tryz.prog 38=true:=by kernel_rfl
theorem fC39:callable Tryz.prog 39=true:=by kernel_rfl
theorem fC40:callable Tryz.prog 40=true:=by kernel_rfl
theorem fC41:callable Tryz.prog 41=true:=by kernel_rfl
theorem fC42:callable Tryz.prog 42=true:=by kernel_rfl
theorem fC43:callable Tryz.prog 43=true:=by kernel_rfl
theorem fC44:callable Tryz.prog 44=true:=by kernel_rfl
theorem fC45:callable Tryz.prog 45=true:=by kernel_rfl
theorem fC47:callable Tryz.prog 47=true:=by kernel_rfl
theorem fC48:callable Tryz.prog 48=true:=by kernel_rfl
theorem fC49:callable Tryz.prog 49=true:=by kernel_rfl
theorem fC50:callable Tryz.prog 50=true:=by kernel_rfl
theorem fC51:callable Tryz.prog 51=true:=by kernel_rfl
theorem fC52:callable Tryz.prog 52=true:=by kernel_rfl
theorem fC53:callable Tryz.prog 53=true:=by kernel_rfl
theorem fC54:callable Tryz.prog 54=true:=by kernel_rfl
theorem fC55:callable Tryz.prog 55=true:=by kernel_rfl
theorem fC56:callable Tryz.prog 56=true:=by kernel_rfl
theorem fC57:callable Tryz.prog 57=true:=by kernel_rfl
theorem fC58:callable Tryz.prog 58=true:=by kernel_rfl
theorem fC60:callable Tryz.prog 60=true:=by kernel_rfl
theorem fC61:callable Tryz.prog 61=true:=by kernel_rfl
theorem fC62:callable Tryz.prog 62=true:=by kernel_rfl
theorem fC63:callable Tryz.prog 63=true:=by kernel_rfl
theorem fC64:callable Tryz.prog 64=true:=by kernel_rfl
theorem fC65:callable Tryz.prog 65=true:=by kernel_rfl
theorem fC66:callable Tryz.prog 66=true:=by kernel_rfl
theorem fC67:callable Tryz.prog 67=true:=by kernel_rfl
theorem fC68:callable Tryz.prog 68=true:=by kernel_rfl
theorem fC69:callable Tryz.prog 69=true:=by kernel_rfl
theorem fC70:callable Tryz.prog 70=true:=by kernel_rfl
theorem fC71:callable Tryz.prog 71=true:=by kernel_rfl
theorem fC73:callable Tryz.prog 73=true:=by kernel_rfl
theorem fC74:callable Tryz.prog 74=true:=by kernel_rfl
theorem fC76:callable Tryz.prog 76=true:=by kernel_rfl
theorem fC77:callable Tryz.prog 77=true:=by kernel_rfl
theorem fC78:callable Tryz.prog 78=true:=by kernel_rfl
theorem fC79:callable Tryz.prog 79=true:=by kernel_rfl
theorem fC80:callable Tryz.prog 80=true:=by kernel_rfl
theorem fC81:callable Tryz.prog 81=true:=by kernel_rfl
theorem fC82:callable Tryz.prog 82=true:=by kernel_rfl
theorem fC83:callable Tryz.prog 83=true:=by kernel_rfl
theorem fC84:callable Tryz.prog 84=true:=by kernel_rfl
theorem fC85:callable Tryz.prog 85=true:=by kernel_rfl
theorem fC86:callable Tryz.prog 86=true:=by kernel_rfl
theorem fC87:callable Tryz.prog 87=true:=by kernel_rfl
theorem fC88:callable Tryz.prog 88=true:=by kernel_rfl
theorem fC89:callable Tryz.prog 89=true:=by kernel_rfl
theorem fC90:callable Tryz.prog 90=true:=by kernel_rfl
theorem fC91:callable Tryz.prog 91=true:=by kernel_rfl
theorem fC92:callable Tryz.prog 92=true:=by kernel_rfl
theorem fC93:callable Tryz.prog 93=true:=by kernel_rfl
theorem wvx:callable Tryz.prog 103=true:=by kernel_rfl
theorem wvq:callable Tryz.prog 105=true:=by kernel_rfl
theorem wuw:callable Tryz.prog 106=true:=by kernel_rfl
theorem wuv:callable Tryz.prog 107=true:=by kernel_rfl
theorem zyw:callable Tryz.prog 108=true:=by kernel_rfl
theorem wuk:callable Tryz.prog 109=true:=by kernel_rfl
theorem wuj:callable Tryz.prog 110=true:=by kernel_rfl
theorem wuz:callable Tryz.prog 111=true:=by kernel_rfl
theorem wux:callable Tryz.prog 112=true:=by kernel_rfl
theorem wuq:callable Tryz.prog 123=true:=by kernel_rfl
theorem wtw:callable Tryz.prog 124=true:=by kernel_rfl
end Go.Proofs.YtphalmjpbnffcaaGreatDoor
namespace Go.X.Hr
open Go.X Go.X.Kn
theorem zsv (xs:List Str4): ∀ u∈(stcs xs).flatten,isOne u=true:=fun u hu=>by
  obtain ⟨e,he,hu⟩:=List.mem_flatten.1 hu
  obtain ⟨x,_,rfl⟩:=List.mem_map.1 he
  simp [Str4.cells] at hu;rcases hu with rfl | rfl | rfl | rfl <;> rfl
section
variable {p:PHeap} {a:Option Addr} {n k:Nat} {xs:List Str4}
theorem Sts.has (s:Sts p a n xs) (hk:k<n):pcell p ((adr a).add (k*4))=some (.int .i64 (xs.getD k sz).has):=s.at hk (j:=0) rfl
theorem Sts.lo (s:Sts p a n xs) (hk:k<n):pcell p (((adr a).add (k*4)).add 1)=some (.int .i64 (xs.getD k sz).lo):=s.at hk (j:=1) rfl
theorem Sts.hi (s:Sts p a n xs) (hk:k<n):pcell p (((adr a).add (k*4)).add 2)=some (.int .i64 (xs.getD k sz).hi):=s.at hk (j:=2) rfl
theorem Sts.cost (s:Sts p a n xs) (hk:k<n):pcell p (((adr a).add (k*4)).add 3)=some (.int .i64 (xs.getD k sz).cost):=s.at hk (j:=3) rfl
end
def badT (r:Rst) (s:Str4):Bool:=!decide (okS r.room.length s)
def askH (r:Rst) (q:Bool):Int:=if chkH r=0 then (if q then 0 else 1) else 80
theorem zaq {s:Str4} {x:Int} (h:s.has= -1):moveI s x=0:=if_pos h
theorem yzw {s:Str4} {x:Int} (h: ¬ s.has= -1):moveI s x=max (s.has-x) (x-s.has):=if_neg h
theorem yhk {s:Str4} {x:Int} (h: -100≤s.has∧s.has≤100∧ -100≤x∧x≤100∧0≤s.cost∧s.cost≤9):0≤moveI s x*s.cost∧moveI s x*s.cost≤1800:=by
  have h0:0≤moveI s x∧moveI s x≤200:=by unfold moveI;split <;> omega
  exact ⟨Int.mul_nonneg h0.1 h.2.2.2.2.1,by have:=Int.mul_le_mul h0.2 h.2.2.2.2.2 h.2.2.2.2.1 (by decide);omega⟩
theorem wpj {x:Int} (h:0≤x∧x≤6):badR x=false:=by simp [badR,h]
theorem yeq {r:Rst} (h1:r.room.length≤8) (h2: ¬ 0≤idxA badR r.room) (h3:r.sts.length≤6) (h4: ¬ 0≤idxA (badT r) r.sts):chkH r=0:=
  if_pos ⟨h1,xzq.1 h2,h3,fun s hs=>by simpa [badT] using xzq.1 h4 s hs⟩
theorem xjz {r:Rst} (h:8<r.room.length∨0≤idxA badR r.room∨6<r.sts.length∨0≤idxA (badT r) r.sts):chkH r=80:=by
  refine if_neg fun z=>?_
  rcases h with h | h | h | h
  · exact absurd z.1 (by omega)
  · obtain ⟨t,ht,e⟩:=xzx.1 h;rw [z.2.1 t ht] at e;exact Bool.noConfusion e
  · exact absurd z.2.2.1 (by omega)
  · obtain ⟨t,ht,e⟩:=xzx.1 h;have:=z.2.2.2 t ht;simp [badT,this] at e
theorem xnw {r:Rst} (h1:r.room.length≤8) (h2: ∀ i,i<r.room.length→badR (r.room.getD i 0)=false) (h3:r.sts.length≤6) (h4: ∀ i,i<r.sts.length→okS r.room.length (r.sts.getD i sz)):chkH r=0:=
  if_pos ⟨h1,(xrv (d:=0)).2 h2,h3,(xrv (d:=sz)).2 h4⟩
theorem xnv {r:Rst} {i:Nat} (hi:i<r.room.length) (h: ¬ (0≤r.room.getD i 0∧r.room.getD i 0≤6)):chkH r=80:=
  if_neg fun z=>by have:=z.2.1 _ (xmw (d:=0) hi);unfold badR at this;rw [decide_eq_false h] at this;exact Bool.noConfusion this
theorem xnk {r:Rst} {i:Nat} (hi:i<r.sts.length) (h: ¬ okS r.room.length (r.sts.getD i sz)):chkH r=80:=
  if_neg fun z=>h (z.2.2.2 _ (xmw (d:=sz) hi))
theorem yvv {r:Rst} (h:chkH r=0):rosB r:=by
  by_cases c:rosB r
  · exact c
  · rw [chkH,if_neg c] at h;exact absurd h (by decide)
theorem ynk (r:Rst):chkH r=0∨chkH r=80:=by unfold chkH;split <;> simp
theorem rosB.st {r:Rst} (h:rosB r) {i:Nat} (hi:i<r.sts.length):okS r.room.length (r.sts.getD i sz):=h.2.2.2 _ (xmw hi)
theorem zyv {r:Rst} (h:rosB r) {i:Nat} (hi:i<r.sts.length) {n:Int} (h0:0≤n) (h1:n≤8 ^ i):0≤n*((r.sts.getD i sz).hi-(r.sts.getD i sz).lo+1)∧n*((r.sts.getD i sz).hi-(r.sts.getD i sz).lo+1)≤8 ^ (i+1):=by
  have hs:=h.st hi
  have hr:=h.1
  obtain ⟨_,h2,h3,h4,_⟩:=hs
  refine ⟨Int.mul_nonneg h0 (by omega),?_⟩
  rw [Int.pow_succ]
  exact Int.mul_le_mul h1 (by omega) (by omega) (Int.le_of_lt (Int.pow_pos (by decide)))
theorem wsq {r:Rst} (h:rosB r) {i:Nat} (hi:i<r.sts.length) {n:Int} (h0:0≤n) (h1:n≤8 ^ i):0≤n*((r.sts.getD i sz).hi-(r.sts.getD i sz).lo+1)∧n*((r.sts.getD i sz).hi-(r.sts.getD i sz).lo+1)≤262144∧0≤(r.sts.getD i sz).lo∧(r.sts.getD i sz).lo≤8∧0≤(r.sts.getD i sz).hi∧(r.sts.getD i sz).hi≤8:=by
  have hs:=h.st hi
  have hr:=h.1
  have h6:=h.2.2.1
  obtain ⟨_,h2,h3,h4,_⟩:=hs
  have h5:=zyv h hi h0 h1
  have:(8:Int) ^ (i+1)≤262144:=by
    have:(8:Nat) ^ (i+1)≤8 ^ 6:=Nat.pow_le_pow_right (by decide) (by omega)
    have e:((8 ^ (i+1):Nat):Int)=8 ^ (i+1):=Int.natCast_pow 8 (i+1)
    have e6:(8:Nat) ^ 6=262144:=by decide
    omega
  exact ⟨h5.1,by omega,by omega,by omega,by omega,by omega⟩
end Go.X.Hr
