/-
  Part of proofs about the century: a lone run, and what it computes. No condition.
-/
import Derived.Conc.Beside
import Derived.IntWalk
import Derived.Conc.LeavingOf
import Derived.Carry
import Derived.Deep.Slices
import Derived.Lib.SmallJoins
import Derived.Orders
import Derived.Laws.StructEq
namespace Go.X
open Go.Conc

abbrev Heap := Array Obj

def cell? (h : Heap) (a : Addr) : Option Value :=
  match h[a.block]? with
  | some (.cells c _ _) => if a.spot.isSome then none else c[a.off]?
  | _ => none

def frozenAt (h : Heap) (a : Addr) : Bool :=
  match h[a.block]? with
  | some (.cells _ _ (lo, hi)) => lo ≤ a.off && a.off < hi
  | _ => false

def setCell (h : Heap) (a : Addr) (v : Value) : Heap :=
  h.modify a.block fun
    | .cells c elem frozen => .cells (if a.spot.isSome then c else c.setIfInBounds a.off v) elem frozen
    | o => o

def freezeH (h : Heap) (a : Addr) (n : Nat) : Heap :=
  if n = 0 then h else
  h.modify a.block fun
    | .cells c elem (lo, hi) => .cells c elem (if lo == hi then (a.off, a.off + n) else (min lo a.off, max hi (a.off + n)))
    | o => o

def isOne : Value → Bool
  | .agg _ => false
  | .tuple _ => false
  | _ => true

/-- There are cells in the address's block. -/
def seenAt (h : Heap) (a : Addr) : Prop := ∃ c e f, h[a.block]? = some (.cells c e f) ∧ 0 < c.size

def okMark : Mark → Bool
  | .extern _ => true
  | .noRoom => true
  | _ => false

/-- What 's' does to heap 'h', whatever is drawn: 'K' of what it yields and of the heap that it leaves. Nothing halts. -/
def wpS {α : Type} (P : Program) : Sem α → Heap → (α → Heap → Prop) → Prop
  | .pure a, h, K => K a h
  | .load m a k, h, K => m = .plain ∧ ∃ v, cell? h a = some v ∧ wpS P (k v) h K
  | .store m a v k, h, K => m = .plain ∧ isOne v = true ∧ (∃ u, cell? h a = some u) ∧ frozenAt h a = false ∧ wpS P k (setCell h a v) K
  | .new o k, h, K => wpS P (k h.size) (h.push o) K
  | .shape r k, h, K => match h[r]? with
    | some (.cells c e _) => 0 < c.size ∧ wpS P (k (some (e, c.size))) h K
    | _ => wpS P (k none) h K
  | .freeze a n k, h, K => (∃ c e f, h[a.block]? = some (.cells c e f) ∧ 0 < c.size ∧ f ≠ (0, c.size)) ∧ wpS P k (freezeH h a n) K
  | .frozen a k, h, K => seenAt h a ∧ ((cell? h a).isSome = true ∧ frozenAt h a = false → wpS P (k false) h K) ∧ (¬ ((cell? h a).isSome = true ∧ frozenAt h a = false) → ∀ b, wpS P (k b) h K)
  | .getObj r k, h, K => match h[r]? with
    | some (.cells ..) => False
    | some o => o.isChan = false ∧ wpS P (k o) h K
    | none => False
  | .setObj r o k, h, K => match h[r]? with
    | some (.cells ..) => False
    | some o' => o'.isChan = false ∧ o.isChan = false ∧ wpS P k (h.setIfInBounds r o) K
    | none => False
  | .choose q k, h, K => if q.forced then wpS P (k 0) h K else ∀ t, wpS P (k (q.cut t)) h K
  | .sys _ _, _, _ => False
  | .program k, h, K => wpS P (k P) h K
  | .mark m k, h, K => okMark m = true ∧ wpS P k h K
  | .halt _, _, _ => False

section
variable {α β : Type} {P : Program}

theorem wpS_mono {s : Sem α} : ∀ {h : Heap} {K K' : α → Heap → Prop}, wpS P s h K → (∀ a h, K a h → K' a h) → wpS P s h K' := by
  induction s with
  | pure a => exact fun x y => y _ _ x
  | load m a k ih => exact fun ⟨x, v, y, z⟩ q => ⟨x, v, y, ih v z q⟩
  | store m a v k ih => exact fun ⟨x, o, y, z, t⟩ q => ⟨x, o, y, z, ih t q⟩
  | new o k ih => exact fun x q => ih _ x q
  | shape r k ih =>
    intro h K K' x q
    unfold wpS at x ⊢
    split at x
    · exact ⟨x.1, ih _ x.2 q⟩
    · exact ih _ x q
  | freeze a n k ih => exact fun x q => ⟨x.1, ih x.2 q⟩
  | frozen a k ih => exact fun x q => ⟨x.1, fun e => ih _ (x.2.1 e) q, fun e b => ih _ (x.2.2 e b) q⟩
  | getObj r k ih =>
    intro h K K' x q
    unfold wpS at x ⊢
    split at x
    · exact x
    · exact ⟨x.1, ih _ x.2 q⟩
    · exact x
  | setObj r o k ih =>
    intro h K K' x q
    unfold wpS at x ⊢
    split at x
    · exact x
    · exact ⟨x.1, x.2.1, ih x.2.2 q⟩
    · exact x
  | choose qn k ih =>
    intro h K K' x q
    unfold wpS at x ⊢
    split at x
    · rename_i hf; rw [if_pos hf]; exact ih _ x q
    · rename_i hf; rw [if_neg hf]; exact fun t => ih _ (x t) q
  | sys c k ih => exact fun x _ => x.elim
  | program k ih => exact fun x q => ih _ x q
  | mark m k ih => exact fun ⟨x, y⟩ q => ⟨x, ih y q⟩
  | halt h => exact fun x _ => x.elim

theorem wpS_bind' {s : Sem α} {f : α → Sem β} : ∀ {h : Heap} {K : β → Heap → Prop}, wpS P s h (fun a h' => wpS P (f a) h' K) → wpS P (s.bind f) h K := by
  induction s with
  | pure a => exact id
  | load m a k ih => exact fun ⟨x, v, y, z⟩ => ⟨x, v, y, ih v z⟩
  | store m a v k ih => exact fun ⟨x, o, y, z, t⟩ => ⟨x, o, y, z, ih t⟩
  | new o k ih => exact fun x => ih _ x
  | shape r k ih =>
    intro h K x
    unfold Sem.bind
    unfold wpS at x ⊢
    split at x
    · exact ⟨x.1, ih _ x.2⟩
    · exact ih _ x
  | freeze a n k ih => exact fun x => ⟨x.1, ih x.2⟩
  | frozen a k ih => exact fun x => ⟨x.1, fun e => ih _ (x.2.1 e), fun e b => ih _ (x.2.2 e b)⟩
  | getObj r k ih =>
    intro h K x
    unfold Sem.bind
    unfold wpS at x ⊢
    split at x
    · exact x
    · exact ⟨x.1, ih _ x.2⟩
    · exact x
  | setObj r o k ih =>
    intro h K x
    unfold Sem.bind
    unfold wpS at x ⊢
    split at x
    · exact x
    · exact ⟨x.1, x.2.1, ih x.2.2⟩
    · exact x
  | choose qn k ih =>
    intro h K x
    unfold Sem.bind
    unfold wpS at x ⊢
    split at x
    · rename_i hf; rw [if_pos hf]; exact ih _ x
    · rename_i hf; rw [if_neg hf]; exact fun t => ih _ (x t)
  | sys c k ih => exact fun x => x.elim
  | program k ih => exact fun x => ih _ x
  | mark m k ih => exact fun ⟨x, y⟩ => ⟨x, ih y⟩
  | halt h => exact fun x => x.elim

theorem wpS_bind {s : Sem α} {f : α → Sem β} {h : Heap} {K : β → Heap → Prop} (x : wpS P s h (fun a h' => wpS P (f a) h' K)) : wpS P (s >>= f) h K := wpS_bind' x

theorem wpS_pure {a : α} {h : Heap} {K : α → Heap → Prop} (x : K a h) : wpS P (pure a) h K := x

/-- What a goroutine sees of the heap: 'dead' blocks not at all, 'still' ones as frozen ones. -/
structure Vw where
  dead : Nat → Prop
  still : Nat → Prop

def Vw.of (S : Nat → Prop) : Vw := ⟨S, fun _ => False⟩

/-- The heap 'h' is how 'r' is seen. -/
structure Veil (S : Vw) (h r : Heap) : Prop where
  size : h.size = r.size
  same : ∀ b, ¬ S.dead b → ¬ S.still b → h[b]? = r[b]?
  shun : ∀ b, S.dead b → h[b]? = some (.cells #[] 0 (0, 0))
  frz : ∀ b, S.still b → ∃ c e f, r[b]? = some (.cells c e f) ∧ h[b]? = some (.cells c e (0, c.size))

theorem Veil.refl (h : Heap) : Veil (.of fun _ => False) h h := ⟨rfl, fun _ _ _ => rfl, fun _ x => x.elim, fun _ x => x.elim⟩

variable {S : Vw} {h r : Heap}

theorem Veil.cell (V : Veil S h r) {a : Addr} {v : Value} (x : cell? h a = some v) : cell? r a = some v ∧ ¬ S.dead a.block := by
  by_cases hs : S.dead a.block
  · have hb := V.shun _ hs
    unfold cell? at x
    rw [hb] at x
    simp at x
  · refine ⟨?_, hs⟩
    by_cases ht : S.still a.block
    · obtain ⟨c, e, f, hr, hh⟩ := V.frz _ ht
      unfold cell? at x ⊢
      rw [hh] at x; rw [hr]
      exact x
    · unfold cell? at x ⊢
      rw [← V.same _ hs ht]
      exact x

theorem cell_lt {a : Addr} {v : Value} (x : cell? h a = some v) : a.block < h.size := by
  unfold cell? at x
  split at x
  · rename_i c e f hb; exact (Array.getElem?_eq_some_iff.1 hb).1
  · cases x

theorem Veil.seen (V : Veil S h r) {a : Addr} (x : seenAt h a) : ¬ S.dead a.block := by
  intro hs
  obtain ⟨c, e, f, hb, hc⟩ := x
  rw [V.shun _ hs] at hb
  cases hb
  simp at hc

theorem Veil.frozen (V : Veil S h r) {a : Addr} (hs : ¬ S.dead a.block) (ht : ¬ S.still a.block) : frozenAt h a = frozenAt r a := by
  unfold frozenAt; rw [V.same _ hs ht]

/-- A cell that may be written is not still. -/
theorem Veil.thaw (V : Veil S h r) {a : Addr} {v : Value} (x : cell? h a = some v) (hf : frozenAt h a = false) : ¬ S.still a.block := by
  intro ht
  obtain ⟨c, e, f, hr, hh⟩ := V.frz _ ht
  unfold cell? at x
  unfold frozenAt at hf
  rw [hh] at x hf
  simp only at x hf
  split at x
  · cases x
  · have := (Array.getElem?_eq_some_iff.1 x).1
    simp at hf
    omega

theorem getElem?_modify' (h : Heap) (i j : Nat) (f : Obj → Obj) : (h.modify i f)[j]? = if i = j then h[j]?.map f else h[j]? := by
  rw [Array.getElem?_modify]

theorem Veil.modify (V : Veil S h r) {i : Nat} (f : Obj → Obj) (hs : ¬ S.dead i) (ht : ¬ S.still i) : Veil S (h.modify i f) (r.modify i f) := by
  refine ⟨by simp [V.size], fun b hb hb' => ?_, fun b hb => ?_, fun b hb => ?_⟩
  · rw [getElem?_modify', getElem?_modify', V.same _ hb hb']
  · have hne : i ≠ b := fun e => hs (e ▸ hb)
    rw [getElem?_modify', if_neg hne]
    exact V.shun _ hb
  · have hne : i ≠ b := fun e => ht (e ▸ hb)
    rw [getElem?_modify', if_neg hne, getElem?_modify', if_neg hne]
    exact V.frz _ hb

theorem Veil.setCell (V : Veil S h r) {a : Addr} (v : Value) (hs : ¬ S.dead a.block) (ht : ¬ S.still a.block) : Veil S (X.setCell h a v) (X.setCell r a v) := V.modify _ hs ht

theorem Veil.freeze (V : Veil S h r) {a : Addr} (n : Nat) (hs : ¬ S.dead a.block) (ht : ¬ S.still a.block) : Veil S (freezeH h a n) (freezeH r a n) := by
  unfold freezeH
  split
  · exact V
  · exact V.modify _ hs ht

theorem Veil.lt (V : Veil S h r) {b : Nat} (hb : S.dead b) : b < r.size := by
  rw [← V.size]; exact (Array.getElem?_eq_some_iff.1 (V.shun _ hb)).1
theorem Veil.lts (V : Veil S h r) {b : Nat} (hb : S.still b) : b < r.size := by
  obtain ⟨c, e, f, hr, _⟩ := V.frz _ hb
  exact (Array.getElem?_eq_some_iff.1 hr).1

theorem Veil.push (V : Veil S h r) (o : Obj) : Veil S (h.push o) (r.push o) := by
  refine ⟨by simp [V.size], fun b hb hb' => ?_, fun b hb => ?_, fun b hb => ?_⟩
  · rw [Array.getElem?_push, Array.getElem?_push, V.size, V.same _ hb hb']
  · have := V.lt hb
    rw [Array.getElem?_push, V.size, if_neg (by omega)]
    exact V.shun _ hb
  · have := V.lts hb
    rw [Array.getElem?_push, Array.getElem?_push, V.size, if_neg (by omega), if_neg (by omega)]
    exact V.frz _ hb

theorem Veil.setObj (V : Veil S h r) {b : Nat} (o : Obj) (hs : ¬ S.dead b) (ht : ¬ S.still b) : Veil S (h.setIfInBounds b o) (r.setIfInBounds b o) := by
  refine ⟨by simp [V.size], fun c hc hc' => ?_, fun c hc => ?_, fun c hc => ?_⟩
  · rw [Array.getElem?_setIfInBounds, Array.getElem?_setIfInBounds, V.size, V.same _ hc hc']
  · have hne : b ≠ c := fun e => hs (e ▸ hc)
    rw [Array.getElem?_setIfInBounds_ne hne]
    exact V.shun _ hc
  · have hne : b ≠ c := fun e => ht (e ▸ hc)
    rw [Array.getElem?_setIfInBounds_ne hne, Array.getElem?_setIfInBounds_ne hne]
    exact V.frz _ hc

/-- What is seen and has no cells is neither dead nor still. -/
theorem Veil.obj (V : Veil S h r) {b : Nat} {o : Obj} (hn : ∀ c e f, o = .cells c e f → False) (ho : h[b]? = some o) : ¬ S.dead b ∧ ¬ S.still b := by
  refine ⟨fun hs => ?_, fun ht => ?_⟩
  · rw [V.shun _ hs] at ho
    exact hn _ _ _ (Option.some.inj ho).symm
  · obtain ⟨c, e, f, _, hh⟩ := V.frz _ ht
    rw [hh] at ho
    exact hn _ _ _ (Option.some.inj ho).symm

/-- What stands of a heap: it grows; what was there is as it was. -/
structure Keep (h h' : Heap) : Prop where
  size : h.size ≤ h'.size
  keep : ∀ b, b < h.size → h'[b]? = h[b]?

theorem Keep.refl (h : Heap) : Keep h h := ⟨Nat.le_refl _, fun _ _ => rfl⟩
theorem Keep.trans {a b c : Heap} (x : Keep a b) (y : Keep b c) : Keep a c := ⟨Nat.le_trans x.size y.size, fun i hi => (y.keep i (Nat.lt_of_lt_of_le hi x.size)).trans (x.keep i hi)⟩

def ShunOf (S : Nat → Prop) : Loc → Prop := fun l => ∃ a : Addr, l = .cell a ∧ S a.block

/-- The world but for its heap and the count of its draws. -/
structure Calm (w w' : World) : Prop where
  os : w'.os = w.os
  tape : w'.tape = w.tape
  output : w'.output = w.output
  size : w.heap.size ≤ w'.heap.size

theorem Calm.refl (w : World) : Calm w w := ⟨rfl, rfl, rfl, Nat.le_refl _⟩
theorem Calm.trans {a b c : World} (x : Calm a b) (y : Calm b c) : Calm a c :=
  ⟨y.os.trans x.os, y.tape.trans x.tape, y.output.trans x.output, Nat.le_trans x.size y.size⟩

/-- .. what is dead or still to it stands. -/
structure Quiet (S : Vw) (w w' : World) : Prop where
  calm : Calm w w'
  stand : ∀ b, b < w.heap.size → S.dead b ∨ S.still b → w'.heap[b]? = w.heap[b]?

theorem Quiet.size {S : Vw} {w w' : World} (x : Quiet S w w') : w.heap.size ≤ w'.heap.size := x.calm.size
theorem Quiet.refl {S : Vw} (w : World) : Quiet S w w := ⟨.refl w, fun _ _ _ => rfl⟩
theorem Quiet.trans {S : Vw} {a b c : World} (x : Quiet S a b) (y : Quiet S b c) : Quiet S a c :=
  ⟨x.calm.trans y.calm, fun i hi z => (y.stand i (Nat.lt_of_lt_of_le hi x.size) z).trans (x.stand i hi z)⟩

/-- What a step may list: plain touches of what is seen; no writes to what is still. -/
def EvX (S : Vw) (B : Nat) (e : Event) : Prop :=
  match e.loc with
  | .cell a => e.sync = false ∧ ¬ S.dead a.block ∧ a.block < B ∧ (e.write = true → ¬ S.still a.block)
  | .obj b => e.sync = false ∧ ¬ S.dead b ∧ b < B ∧ ¬ S.still b
  | .mark m => okMark m = true
  | _ => False

theorem evX_mono {S : Vw} {B B' : Nat} (hB : B ≤ B') {e : Event} (x : EvX S B e) : EvX S B' e := by
  unfold EvX at x ⊢
  split at x
  · exact ⟨x.1, x.2.1, Nat.lt_of_lt_of_le x.2.2.1 hB, x.2.2.2⟩
  · exact ⟨x.1, x.2.1, Nat.lt_of_lt_of_le x.2.2.1 hB, x.2.2.2⟩
  · exact x
  · exact x.elim

theorem evX_evL {S : Vw} {B : Nat} {e : Event} (x : EvX S B e) : EvL (ShunOf S.dead) B e := by
  obtain ⟨loc, wr, sy⟩ := e
  unfold EvX at x
  split at x
  · rename_i a ha
    simp only at ha x; subst ha
    obtain ⟨rfl, hs, hb, _⟩ := x
    refine ⟨?_, by simp, by simp, hb⟩
    intro y hy hsh
    simp [MemAct.ofEvent, MemAct.touch?] at hy
    subst hy
    obtain ⟨b, hb', hsb⟩ := hsh
    cases hb'
    exact absurd hsb hs
  · rename_i b hb'
    simp only at hb' x; subst hb'
    obtain ⟨rfl, hs, hb, _⟩ := x
    refine ⟨?_, by simp, by simp, by simpa [MemAct.ofEvent, MemAct.low, Loc.low] using hb⟩
    intro y hy hsh
    simp [MemAct.ofEvent, MemAct.touch?] at hy
    subst hy
    obtain ⟨_, hb', _⟩ := hsh
    cases hb'
  · rename_i m hm
    simp only at hm; subst hm
    cases m <;> simp_all [okMark]
    all_goals
      refine ⟨?_, by simp, by simp, trivial⟩
      intro x hx
      simp [MemAct.ofEvent, MemAct.touch?] at hx
  · exact x.elim

theorem setCell_ne0 {h : Heap} {a : Addr} {v : Value} {b : Nat} (hne : b ≠ a.block) : (setCell h a v)[b]? = h[b]? := by
  unfold setCell; rw [getElem?_modify', if_neg (Ne.symm hne)]
theorem freezeH_ne {h : Heap} {a : Addr} {n b : Nat} (hne : b ≠ a.block) : (freezeH h a n)[b]? = h[b]? := by
  unfold freezeH; split
  · rfl
  · rw [getElem?_modify', if_neg (Ne.symm hne)]

/-- THE MODEL's RUN DOES WHAT 'wpS' SAYS, whatever is veiled. -/
theorem wpS_run (s : Sem α) : ∀ {h : Heap} {K : α → Heap → Prop} {w : World} (es₀ : Array Event), wpS P s h K → Veil S h w.heap →
    ∃ a h' w' es, s.runT P w es₀ = (.ok a w', es₀ ++ es) ∧ s.run P w = .ok a w' ∧ K a h' ∧ Veil S h' w'.heap ∧ Quiet S w w' ∧ ∀ e ∈ es, EvX S w'.heap.size e := by
  induction s with
  | pure a => exact fun {h K w} es₀ x V => ⟨a, h, w, #[], by simp [Sem.runT], rfl, x, V, .refl _, by simp⟩
  | load m a k ih =>
    intro h K w es₀ ⟨hm, v, hc, x⟩ V
    obtain ⟨hcr, hs⟩ := V.cell hc
    have hcw : w.cell? a = some v := hcr
    obtain ⟨y, h', w', es, e1, e2, e3, e4, e5, e6⟩ := ih v (es₀.push ⟨.cell a, false, m == .atomic⟩) x V
    subst hm
    refine ⟨y, h', w', #[⟨.cell a, false, false⟩] ++ es, ?_, ?_, e3, e4, e5, ?_⟩
    · simp only [Sem.runT, hcw, e1, Prod.mk.injEq, true_and]
      rw [← Array.append_assoc]; congr 1
    · simp only [Sem.run, hcw, e2]
    · intro e he
      rcases Array.mem_append.1 he with he | he
      · simp at he; subst he
        exact ⟨rfl, hs, Nat.lt_of_lt_of_le (cell_lt hcr) e5.size, fun x => by cases x⟩
      · exact e6 e he
  | store m a v k ih =>
    intro h K w es₀ ⟨hm, hv, ⟨u, hu⟩, hf, x⟩ V
    obtain ⟨hur, hs⟩ := V.cell hu
    have huw : w.cell? a = some u := hur
    have ht := V.thaw hu hf
    have hfw : w.frozen? a = false := (V.frozen hs ht).symm.trans hf
    have V' : Veil S (X.setCell h a v) (w.setCell a v).heap := V.setCell v hs ht
    obtain ⟨y, h', w', es, e1, e2, e3, e4, e5, e6⟩ := ih (es₀.push ⟨.cell a, true, m == .atomic⟩) x V'
    subst hm
    have hsz : (w.setCell a v).heap.size = w.heap.size := by simp [World.setCell]
    refine ⟨y, h', w', #[⟨.cell a, true, false⟩] ++ es, ?_, ?_, e3, e4, ⟨⟨e5.calm.os, e5.calm.tape, e5.calm.output, by rw [← hsz]; exact e5.size⟩, fun b hb z => (e5.stand b (by rw [hsz]; exact hb) z).trans (setCell_ne0 (h := w.heap) fun e => by subst e; exact z.elim hs ht)⟩, ?_⟩
    · cases v <;> simp [isOne] at hv
      all_goals
        simp only [Sem.runT, huw, hfw, Bool.false_eq_true, if_false, e1, Prod.mk.injEq, true_and]
        rw [← Array.append_assoc]; congr 1
    · cases v <;> simp [isOne] at hv
      all_goals simp only [Sem.run, huw, hfw, Bool.false_eq_true, if_false, e2]
    · intro e he
      rcases Array.mem_append.1 he with he | he
      · simp at he; subst he
        exact ⟨rfl, hs, Nat.lt_of_lt_of_le (cell_lt hur) (by rw [← hsz]; exact e5.size), fun _ => ht⟩
      · exact e6 e he
  | new o k ih =>
    intro h K w es₀ x V
    have V' : Veil S (h.push o) ({ w with heap := w.heap.push o } : World).heap := V.push o
    have x' : wpS P (k w.heap.size) (h.push o) K := by rw [← V.size]; exact x
    obtain ⟨y, h', w', es, e1, e2, e3, e4, e5, e6⟩ := ih w.heap.size es₀ x' V'
    exact ⟨y, h', w', es, by simp only [Sem.runT, e1], by simp only [Sem.run, e2], e3, e4, ⟨⟨e5.calm.os, e5.calm.tape, e5.calm.output, by have := e5.size; simp at this; omega⟩, fun b hb z => (e5.stand b (by simp; omega) z).trans (by simp only [Array.getElem?_push]; rw [if_neg (by omega)])⟩, e6⟩
  | shape r k ih =>
    intro h K w es₀ x V
    unfold wpS at x
    have key : ∃ z, w.shape? r = z ∧ wpS P (k z) h K := by
      split at x
      · rename_i c e f hr
        have hs : ¬ S.dead r := by
          intro hs
          have hb := V.shun _ hs
          rw [hr] at hb
          simp at hb
          have := x.1
          rw [hb.1] at this
          simp at this
        refine ⟨_, ?_, x.2⟩
        unfold World.shape?
        by_cases ht : S.still r
        · obtain ⟨c', e', f', hr', hh⟩ := V.frz _ ht
          rw [hh] at hr
          cases hr
          rw [hr']
        · rw [← V.same _ hs ht, hr]
      · rename_i hn
        refine ⟨_, ?_, x⟩
        have hs : ¬ S.dead r := by
          intro hs
          exact hn _ _ _ (V.shun _ hs)
        have ht : ¬ S.still r := by
          intro ht
          obtain ⟨c', e', f', hr', hh⟩ := V.frz _ ht
          exact hn _ _ _ hh
        unfold World.shape?
        rw [← V.same _ hs ht]
        split
        · rename_i c e f hr
          exact absurd hr (hn _ _ _)
        · rfl
    obtain ⟨z, hz, x'⟩ := key
    obtain ⟨y, h', w', es, e1, e2, e3, e4, e5, e6⟩ := ih z es₀ x' V
    exact ⟨y, h', w', es, by simp only [Sem.runT, hz, e1], by simp only [Sem.run, hz, e2], e3, e4, e5, e6⟩
  | freeze a n k ih =>
    intro h K w es₀ ⟨⟨c, e, f, hc, hc0, hcf⟩, x⟩ V
    have hs := V.seen ⟨c, e, f, hc, hc0⟩
    have ht : ¬ S.still a.block := by
      intro ht
      obtain ⟨c', e', f', _, hh⟩ := V.frz _ ht
      rw [hh] at hc
      cases hc
      exact hcf rfl
    have hfz : (w.freeze a n).heap = freezeH w.heap a n := by unfold World.freeze freezeH; split <;> rfl
    have V' : Veil S (freezeH h a n) (w.freeze a n).heap := by rw [hfz]; exact V.freeze n hs ht
    obtain ⟨y, h', w', es, e1, e2, e3, e4, e5, e6⟩ := ih es₀ x V'
    have h1 : (w.freeze a n).os = w.os := by unfold World.freeze; split <;> rfl
    have h2 : (w.freeze a n).tape = w.tape := by unfold World.freeze; split <;> rfl
    have h3 : (w.freeze a n).output = w.output := by unfold World.freeze; split <;> rfl
    have h4 : (w.freeze a n).heap.size = w.heap.size := by unfold World.freeze; split <;> simp
    exact ⟨y, h', w', es, by simp only [Sem.runT, e1], by simp only [Sem.run, e2], e3, e4, ⟨⟨e5.calm.os.trans h1, e5.calm.tape.trans h2, e5.calm.output.trans h3, by rw [← h4]; exact e5.size⟩, fun b hb z => (e5.stand b (by rw [h4]; exact hb) z).trans (by rw [hfz]; exact freezeH_ne fun e => by subst e; exact z.elim hs ht)⟩, e6⟩
  | frozen a k ih =>
    intro h K w es₀ ⟨hsee, xt, xf⟩ V
    have x : wpS P (k (w.frozen? a)) h K := by
      by_cases hc : (cell? h a).isSome = true ∧ frozenAt h a = false
      · obtain ⟨v, hv⟩ := Option.isSome_iff_exists.1 hc.1
        have hfw : w.frozen? a = false := (V.frozen (V.seen hsee) (V.thaw hv hc.2)).symm.trans hc.2
        rw [hfw]
        exact xt hc
      · exact xf hc _
    obtain ⟨y, h', w', es, e1, e2, e3, e4, e5, e6⟩ := ih (w.frozen? a) es₀ x V
    exact ⟨y, h', w', es, by simp only [Sem.runT, e1], by simp only [Sem.run, e2], e3, e4, e5, e6⟩
  | getObj r k ih =>
    intro h K w es₀ x V
    unfold wpS at x
    split at x
    · exact x.elim
    · rename_i o hn ho
      obtain ⟨hs, ht⟩ := V.obj hn ho
      have how : w.heap[r]? = some o := (V.same _ hs ht).symm.trans ho
      obtain ⟨y, h', w', es, e1, e2, e3, e4, e5, e6⟩ := ih o (es₀.push ⟨.obj r, false, o.isChan⟩) x.2 V
      refine ⟨y, h', w', #[⟨.obj r, false, false⟩] ++ es, ?_, ?_, e3, e4, e5, ?_⟩
      · rw [x.1] at e1
        simp only [Sem.runT, how, x.1]
        cases o <;> first | exact absurd rfl (hn _ _ _) | (simp only [e1, Prod.mk.injEq, true_and]; rw [← Array.append_assoc]; congr 1)
      · simp only [Sem.run, how]
        cases o <;> first | exact absurd rfl (hn _ _ _) | exact e2
      · intro e he
        rcases Array.mem_append.1 he with he | he
        · simp at he; subst he
          exact ⟨rfl, hs, Nat.lt_of_lt_of_le (Array.getElem?_eq_some_iff.1 how).1 e5.size, ht⟩
        · exact e6 e he
    · exact x.elim
  | setObj r o k ih =>
    intro h K w es₀ x V
    unfold wpS at x
    split at x
    · exact x.elim
    · rename_i o' hn ho
      obtain ⟨hs, ht⟩ := V.obj hn ho
      have how : w.heap[r]? = some o' := (V.same _ hs ht).symm.trans ho
      have V' : Veil S (h.setIfInBounds r o) ({ w with heap := w.heap.setIfInBounds r o } : World).heap := V.setObj o hs ht
      obtain ⟨y, h', w', es, e1, e2, e3, e4, e5, e6⟩ := ih (es₀.push ⟨.obj r, true, o.isChan⟩) x.2.2 V'
      have hsz : w.heap.size ≤ w'.heap.size := by have := e5.size; simp at this; exact this
      refine ⟨y, h', w', #[⟨.obj r, true, false⟩] ++ es, ?_, ?_, e3, e4, ⟨⟨e5.calm.os, e5.calm.tape, e5.calm.output, hsz⟩, fun b hb z => (e5.stand b (by simp; exact hb) z).trans (by simp only; rw [Array.getElem?_setIfInBounds_ne fun e => by subst e; exact z.elim hs ht])⟩, ?_⟩
      · rw [x.2.1] at e1
        simp only [Sem.runT, how, x.2.1]
        cases o' <;> first | exact absurd rfl (hn _ _ _) | (simp only [e1, Prod.mk.injEq, true_and]; rw [← Array.append_assoc]; congr 1)
      · simp only [Sem.run, how]
        cases o' <;> first | exact absurd rfl (hn _ _ _) | exact e2
      · intro e he
        rcases Array.mem_append.1 he with he | he
        · simp at he; subst he
          exact ⟨rfl, hs, Nat.lt_of_lt_of_le (Array.getElem?_eq_some_iff.1 how).1 hsz, ht⟩
        · exact e6 e he
    · exact x.elim
  | choose q k ih =>
    intro h K w es₀ x V
    unfold wpS at x
    by_cases hf : q.forced = true
    · rw [if_pos hf] at x
      obtain ⟨y, h', w', es, e1, e2, e3, e4, e5, e6⟩ := ih 0 es₀ x V
      exact ⟨y, h', w', es, by simp only [Sem.runT, hf, if_true, e1], by simp only [Sem.run, hf, if_true, e2], e3, e4, e5, e6⟩
    · rw [if_neg hf] at x
      have V' : Veil S h ({ w with drawn := w.drawn + 1 } : World).heap := V
      obtain ⟨y, h', w', es, e1, e2, e3, e4, e5, e6⟩ := ih _ es₀ (x (w.tape w.drawn q)) V'
      exact ⟨y, h', w', es, by simp only [Sem.runT, if_neg hf, e1], by simp only [Sem.run, if_neg hf, e2], e3, e4, ⟨⟨e5.calm.os, e5.calm.tape, e5.calm.output, e5.size⟩, e5.stand⟩, e6⟩
  | sys c k ih => exact fun es₀ x => x.elim
  | program k ih =>
    intro h K w es₀ x V
    obtain ⟨y, h', w', es, e1, e2, e3, e4, e5, e6⟩ := ih P es₀ x V
    exact ⟨y, h', w', es, by simp only [Sem.runT, e1], by simp only [Sem.run, e2], e3, e4, e5, e6⟩
  | mark m k ih =>
    intro h K w es₀ ⟨hm, x⟩ V
    obtain ⟨y, h', w', es, e1, e2, e3, e4, e5, e6⟩ := ih (es₀.push ⟨.mark m, false, true⟩) x V
    refine ⟨y, h', w', #[⟨.mark m, false, true⟩] ++ es, ?_, by simp only [Sem.run, e2], e3, e4, e5, ?_⟩
    · simp only [Sem.runT, e1, Prod.mk.injEq, true_and]
      rw [← Array.append_assoc]; congr 1
    · intro e he
      rcases Array.mem_append.1 he with he | he
      · simp at he; subst he; exact hm
      · exact e6 e he
  | halt h => exact fun es₀ x => x.elim
end
end Go.X
namespace Go.X
open Go.Conc
open Go.ConcN (sumTo upd sumTo_upd upd_ne upd_same)

/-- Goroutine 0 is 'g', the heap is 'h' but for what is veiled; all others only leave; the trace is clean. -/
structure Scene (P : Program) (S : Nat → Prop) (gs : Array Goroutine) (w : World) (t : Trace) (q : Nat → Nat) (g : Goroutine) (h : Heap) : Prop where
  main : gs[0]? = some g
  leav : Leavers P t gs q
  past : Past (ShunOf S) w.heap.size t
  veil : Veil (.of S) h w.heap

/-- Whose walk it is: goroutine 0's (may it start others?), a worker's, or goroutine 0's where there is no other. -/
inductive Md where
  | main (sp : Bool)
  | own (m : Bool)
  | lone

def Md.isMain : Md → Bool
  | .main _ => true
  | .own m => m
  | .lone => true

/-- A step of a goroutine's own, whatever the others have laid meanwhile: it goes on, and 'K' of where it stands then. -/
def Own (P : Program) (main : Bool) (g : Goroutine) (h : Heap) (K : Goroutine → Heap → Prop) : Prop :=
  g.status = .running ∧ ∀ h₁, Keep h h₁ → ∀ (S : Vw) (w : World), Veil S h₁ w.heap →
    ∃ g' h' w' es, stepG P main g w = .go g' w' es ∧ K g' h' ∧ Veil S h' w'.heap ∧ Quiet S w w' ∧ ∀ e ∈ es, EvX S w'.heap.size e

theorem Own.mono {P : Program} {main : Bool} {g : Goroutine} {h : Heap} {K K' : Goroutine → Heap → Prop} (x : Own P main g h K) (y : ∀ g h, K g h → K' g h) : Own P main g h K' :=
  ⟨x.1, fun h₁ k S w V => by obtain ⟨g', h', w', es, a, b, c⟩ := x.2 h₁ k S w V; exact ⟨g', h', w', es, a, y _ _ b, c⟩⟩

def Reach (P : Program) : Md → (g : Goroutine) → (h : Heap) → (Stop : Goroutine → Heap → Prop) → Prop
  | .main sp, g, h, Stop =>
    ∀ (S : Nat → Prop) (gs : Array Goroutine) (w : World) (sl : Option (Nat × Nat)) (t : Trace) (q : Nat → Nat), Scene P S gs w t q g h →
      ∃ (N : Nat) (S' : Nat → Prop) (gs' : Array Goroutine) (w' : World) (sl' : Option (Nat × Nat)) (t' : Trace) (q' : Nat → Nat) (g' : Goroutine) (h' : Heap),
        runNT P N (crowd gs w sl) t = (.next (crowd gs' w' sl'), t') ∧ Scene P S' gs' w' t' q' g' h' ∧ Stop g' h' ∧ Quiet (.of S) w w' ∧
        (sp = false → gs'.size = gs.size) ∧ ∀ b, S b → S' b
  | .own m, g, h, Stop => ∀ Z : Goroutine → Heap → Prop, (∀ g h, Stop g h → Z g h) → (∀ g h, Own P m g h Z → Z g h) → Z g h
  | .lone, g, h, Stop => ∀ w : World, w.heap = h → ∃ g' w', Steps P (solo g w) (solo g' w') ∧ Stop g' w'.heap ∧ Calm w w'

theorem quiet_at {S : Vw} (w : World) (d : Nat) : Quiet S w (w.at d) := ⟨⟨rfl, rfl, rfl, Nat.le_refl _⟩, fun _ _ _ => rfl⟩
theorem Quiet.mono {S S' : Vw} {w w' : World} (x : Quiet S w w') (h : ∀ b, S'.dead b ∨ S'.still b → S.dead b ∨ S.still b) : Quiet S' w w' := ⟨x.calm, fun b hb y => x.stand b hb (h b y)⟩
theorem Quiet.of {S S' : Nat → Prop} {w w' : World} (x : Quiet (.of S) w w') (h : ∀ b, S' b → S b) : Quiet (.of S') w w' := x.mono fun b y => y.imp (h b) id

section
variable {P : Program} {md : Md} {sp : Bool} {g : Goroutine} {h : Heap} {Stop Stop' : Goroutine → Heap → Prop}

theorem reach_stop (x : Stop g h) : Reach P md g h Stop := by
  cases md with
  | main sp => exact fun S gs w sl t q sc => ⟨0, S, gs, w, sl, t, q, g, h, rfl, sc, x, .refl _, fun _ => rfl, fun _ y => y⟩
  | own m => exact fun Z z1 _ => z1 _ _ x
  | lone => exact fun w hw => ⟨g, w, .refl _ _, hw ▸ x, .refl _⟩

/-- ONE STEP OF ITS OWN; the others may slip in ahead of it. -/
theorem reach_step_main (x : Own P true g h fun g' h' => Reach P (.main sp) g' h' Stop) : Reach P (.main sp) g h Stop := by
  obtain ⟨hrun, hown⟩ := x
  intro S gs w sl t q sc
  suffices H : ∀ (M : Nat) (gs : Array Goroutine) (w : World) (sl : Option (Nat × Nat)) (t : Trace) (q : Nat → Nat), sumTo gs.size q ≤ M → Scene P S gs w t q g h →
      ∃ (N : Nat) (S' : Nat → Prop) (gs' : Array Goroutine) (w' : World) (sl' : Option (Nat × Nat)) (t' : Trace) (q' : Nat → Nat) (g' : Goroutine) (h' : Heap),
        runNT P N (crowd gs w sl) t = (.next (crowd gs' w' sl'), t') ∧ Scene P S' gs' w' t' q' g' h' ∧ Stop g' h' ∧ Quiet (.of S) w w' ∧
        (sp = false → gs'.size = gs.size) ∧ ∀ b, S b → S' b from H _ gs w sl t q (Nat.le_refl _) sc
  intro M
  induction M using Nat.strongRecOn with
  | _ M ih =>
    intro gs w sl t q hM sc
    obtain ⟨h0, hL, hP, hV⟩ := sc
    have haw : ∀ g ∈ gs, awake g := by
      intro y hy
      obtain ⟨i, hi, rfl⟩ := Array.mem_iff_getElem.1 hy
      rcases Nat.eq_zero_or_pos i with rfl | hpos
      · have : gs[0] = g := by simpa [Array.getElem?_eq_getElem hi] using h0
        rw [this]; exact awake_of (.inl hrun)
      · exact awake_of ((hL.old i _ hpos (Array.getElem?_eq_getElem hi)).status.elim .inl fun x => .inr (.inr x))
    obtain ⟨i, a, d, sl', hi, ha, hst⟩ := crowd_pick (P := P) (w := w) (sl := sl) haw ⟨0, g, h0, hrun⟩
    rcases Nat.eq_zero_or_pos i with rfl | hpos
    · obtain rfl : a = g := by rw [h0] at hi; exact (Option.some.inj hi).symm
      obtain ⟨g', h', w', es, hgo, hK, hV', hc, hes⟩ := hown h (.refl _) (.of S) (w.at d) hV
      have hrunT := runT_crowd_go (P := P) (sl := sl') (i := 0) hi (show stepG P (0 == 0) a (w.at d) = _ from hgo)
      have hsz : ((gs.map (woken P a g' w')).setIfInBounds 0 g').size = gs.size := by simp
      have hlt : 0 < gs.size := (Array.getElem?_eq_some_iff.1 h0).1
      have sc' : Scene P S ((gs.map (woken P a g' w')).setIfInBounds 0 g') w' (t ++ MemOp.ofEvents 0 a.frame.fn a.frame.place es) q g' h' := by
        refine ⟨by simp [hlt], ⟨fun j x hj hx => ?_, fun j hj => ?_⟩, (hP.mono hc.size).own fun e he => evX_evL (hes e he), hV'⟩
        · have hne : 0 ≠ j := by omega
          rw [Array.getElem?_setIfInBounds_ne hne, Array.getElem?_map] at hx
          obtain ⟨y, hy, rfl⟩ := Option.map_eq_some_iff.1 hx
          have hq := hL.old j y hj hy
          rw [woken_quitsD hq, Deaf_other t (by omega) _ (fun op hop => by obtain ⟨e, _, rfl⟩ := Go.Conc.mem_ofEvents hop; rfl)]
          exact hq
        · rw [Deaf_other t (g' := 0) (by simp at hj; omega) _ (fun op hop => by obtain ⟨e, _, rfl⟩ := Go.Conc.mem_ofEvents hop; rfl)]
          exact hL.above j (by simpa using hj)
      obtain ⟨N, S2, gs2, w2, sl2, t2, q2, g2, h2, a2, b2, c2, d2, e2, f2⟩ := hK S _ w' sl' _ q sc'
      refine ⟨N + 1, S2, gs2, w2, sl2, t2, q2, g2, h2, by simp only [runNT, hst, hrunT]; exact a2, b2, c2, ((quiet_at w d).trans hc).trans d2, fun z => (e2 z).trans hsz, f2⟩
    · have hq := hL.old i a hpos hi
      have hi0 : (i == 0) = false := by simp; omega
      have hlt : i < gs.size := (Array.getElem?_eq_some_iff.1 hi).1
      cases hqi : q i with
      | zero => rw [hqi] at hq; rw [hq.1] at ha; cases ha
      | succ k =>
        rw [hqi] at hq
        rcases hq with ⟨hf, _⟩ | ⟨_, g', es, hm, hstp, hq'⟩
        · rw [hf] at ha; cases ha
        have hrunT := runT_crowd_go (P := P) (sl := sl') (i := i) hi (by rw [hi0]; exact hstp (w.at d))
        have hsz : ((gs.map (woken P a g' (w.at d))).setIfInBounds i g').size = gs.size := by simp
        have hsum : sumTo gs.size (upd q i k) + (k + 1) = sumTo gs.size q + k := by
          have := sumTo_upd q k id hlt
          simpa [hqi] using this
        have sc' : Scene P S ((gs.map (woken P a g' (w.at d))).setIfInBounds i g') (w.at d) (t ++ MemOp.ofEvents i a.frame.fn a.frame.place es) (upd q i k) g h := by
          refine ⟨?_, ⟨fun j x hj hx => ?_, fun j hj => ?_⟩, hP.mute (by omega) hm, hV⟩
          · have hne : i ≠ 0 := by omega
            rw [Array.getElem?_setIfInBounds_ne hne, Array.getElem?_map, h0]
            simp [woken_run hrun]
          · by_cases hji : i = j
            · subst hji
              rw [Array.getElem?_setIfInBounds_self_of_lt (by simpa using hlt)] at hx
              obtain rfl := Option.some.inj hx
              rw [upd_same, Deaf_own]
              exact hq'
            · rw [Array.getElem?_setIfInBounds_ne hji, Array.getElem?_map] at hx
              obtain ⟨y, hy, rfl⟩ := Option.map_eq_some_iff.1 hx
              have hqj := hL.old j y hj hy
              rw [woken_quitsD hqj, upd_ne q k (Ne.symm hji), Deaf_other t hji _ (fun op hop => by obtain ⟨e, _, rfl⟩ := Go.Conc.mem_ofEvents hop; rfl)]
              exact hqj
          · rw [Deaf_other t (g' := i) (by simp at hj; omega) _ (fun op hop => by obtain ⟨e, _, rfl⟩ := Go.Conc.mem_ofEvents hop; rfl)]
            exact hL.above j (by simpa using hj)
        obtain ⟨N, S2, gs2, w2, sl2, t2, q2, g2, h2, a2, b2, c2, d2, e2, f2⟩ := ih (sumTo gs.size (upd q i k)) (by omega) _ (w.at d) sl' _ (upd q i k) (by rw [hsz]; exact Nat.le_refl _) sc'
        exact ⟨N + 1, S2, gs2, w2, sl2, t2, q2, g2, h2, by simp only [runNT, hst, hrunT]; exact a2, b2, c2, (quiet_at w d).trans d2, fun z => (e2 z).trans hsz, f2⟩

theorem step_solo {g g' : Goroutine} {w w' : World} {es : Array Event} (hr : g.status = .running) (x : stepG P true g w = .go g' w' es) : step P (solo g w) = .next (solo g' w') := by
  rw [step, stepT_solo hr, runT_solo_go x]

/-- Alone. -/
theorem reach_step_lone (x : Own P true g h fun g' h' => Reach P .lone g' h' Stop) : Reach P .lone g h Stop := by
  obtain ⟨hr, ho⟩ := x
  rintro w rfl
  obtain ⟨g', h', w', es, e, k, V, q, _⟩ := ho w.heap (.refl _) (.of fun _ => False) w (.refl _)
  obtain rfl : h' = w'.heap := by
    apply Array.ext_getElem?
    exact fun i => V.same i (fun z => z) (fun z => z)
  obtain ⟨g2, w2, a2, b2, c2⟩ := k w' rfl
  exact ⟨g2, w2, .head (step_solo hr e) a2, b2, q.calm.trans c2⟩

theorem reach_step (x : Own P md.isMain g h fun g' h' => Reach P md g' h' Stop) : Reach P md g h Stop := by
  cases md with
  | main sp => exact reach_step_main x
  | own m => exact fun Z z1 z2 => z2 _ _ (x.mono fun g' h' r => r Z z1 z2)
  | lone => exact reach_step_lone x
end
end Go.X
namespace Go.X
open Go.Conc

def F (b : Frame) (tm : Array Value) (df : List Deferred) (k : List Item) : Frame := { b with tmps := tm, defers := df, todo := k, mode := .run }
def FR (b : Frame) (tm : Array Value) (df : List Deferred) (k : List Item) : Frame := { b with tmps := tm, defers := df, todo := k, mode := .returning }

def ev (tm : Array Value) : Operand → Value
  | .tmp t => tm.getD t undef
  | .const v => v
  | .global g => .pointer (some ⟨g, 0, none⟩)
  | .func f => .func (.func f) #[] #[]

def put (tm : Array Value) (dst : Option Tmp) (v : Value) : Array Value :=
  match dst with
  | some d => tm.setIfInBounds d v
  | none => tm

/-- What is said of the heap abides what the others lay. -/
class Stb (Φ : Heap → Prop) : Prop where
  stb : ∀ h h', Φ h → Keep h h' → Φ h'

/-- From wherever 'Φ' holds of the heap. -/
def RS (P : Program) (md : Md) (g : Goroutine) (Φ : Heap → Prop) (Stop : Goroutine → Heap → Prop) : Prop := ∀ h, Φ h → Reach P md g h Stop

instance {α : Type} {Φ : α → Heap → Prop} [s : ∀ x, Stb (Φ x)] : Stb (fun h => ∃ x, Φ x h) := ⟨fun h h' ⟨x, y⟩ k => ⟨x, (s x).stb h h' y k⟩⟩
instance {c : Prop} {Φ : Heap → Prop} [s : Stb Φ] : Stb (fun h => c ∧ Φ h) := ⟨fun h h' ⟨x, y⟩ k => ⟨x, s.stb h h' y k⟩⟩
theorem rs_ex {α : Type} {P : Program} {md : Md} {g : Goroutine} {Ψ : α → Heap → Prop} {Stop : Goroutine → Heap → Prop} (n : ∀ x, RS P md g (Ψ x) Stop) : RS P md g (fun h => ∃ x, Ψ x h) Stop := fun h ⟨x, y⟩ => n x h y
theorem rs_and {c : Prop} {P : Program} {md : Md} {g : Goroutine} {Φ : Heap → Prop} {Stop : Goroutine → Heap → Prop} (n : c → RS P md g Φ Stop) : RS P md g (fun h => c ∧ Φ h) Stop := fun h ⟨x, y⟩ => n x h y

section
variable {P : Program} {md : Md} {b : Frame} {tm : Array Value} {df : List Deferred} {k : List Item} {cs : List Frame} {h : Heap} {Φ : Heap → Prop} {Stop : Goroutine → Heap → Prop}

theorem eval_F : (F b tm df k).eval = ev tm := by funext x; cases x <;> rfl

theorem evL_seen {S : Vw} {fn : FuncId} {B : Nat} {es : Array Event} (x : ∀ e ∈ es, EvX S B e) : ∀ e ∈ seen P fn es, EvX S B e := by
  unfold seen
  refine Array.foldl_induction (motive := fun _ (s : Bool × Array Event) => ∀ e ∈ s.2, EvX S B e) (by simp) ?_
  rintro i ⟨q, kept⟩ hs
  simp only at hs ⊢
  split
  · exact hs
  · simp only
    split
    · exact hs
    · intro e he
      rcases Array.mem_push.1 he with he | rfl
      · exact hs e he
      · exact x _ (Array.getElem_mem _)

/-- A step of control: nothing is touched. -/
theorem rs_go [hs : Stb Φ] {g g' : Goroutine} (hr : g.status = .running) (he : ∀ w, stepG P md.isMain g w = .go g' w #[]) (x : RS P md g' Φ Stop) : RS P md g Φ Stop :=
  fun h y => reach_step ⟨hr, fun h₁ k₁ S w V => ⟨g', h₁, w, #[], he w, x h₁ (hs.stb _ _ y k₁), V, .refl _, by simp⟩⟩

section
variable [Stb Φ]
theorem rs_seq {x y : Code} (r : RS P md (G (F b tm df (.code x :: .code y :: k)) cs) Φ Stop) : RS P md (G (F b tm df (.code (.seq x y) :: k)) cs) Φ Stop :=
  rs_go rfl (fun w => by simp [G, stepG, stepG.exec, F]) r
theorem rs_skip (r : RS P md (G (F b tm df k) cs) Φ Stop) : RS P md (G (F b tm df (.code .skip :: k)) cs) Φ Stop :=
  rs_go rfl (fun w => by simp [G, stepG, stepG.exec, F]) r
theorem rs_inBlock {id : Nat} (r : RS P md (G (F b tm df k) cs) Φ Stop) : RS P md (G (F b tm df (.inBlock id :: k)) cs) Φ Stop :=
  rs_go rfl (fun w => by simp [G, stepG, stepG.exec, F]) r
theorem rs_block {id : Nat} {c : Code} (r : RS P md (G (F b tm df (.code c :: .inBlock id :: k)) cs) Φ Stop) : RS P md (G (F b tm df (.code (.block id c) :: k)) cs) Φ Stop :=
  rs_go rfl (fun w => by simp [G, stepG, stepG.exec, F]) r
theorem rs_loop {c : Code} (r : RS P md (G (F b tm df (.code c :: .inLoop c :: k)) cs) Φ Stop) : RS P md (G (F b tm df (.code (.loop c) :: k)) cs) Φ Stop :=
  rs_go rfl (fun w => by simp [G, stepG, stepG.exec, F]) r
theorem rs_inLoop {c : Code} (r : RS P md (G (F b tm df (.code c :: .inLoop c :: k)) cs) Φ Stop) : RS P md (G (F b tm df (.inLoop c :: k)) cs) Φ Stop :=
  rs_go rfl (fun w => by simp [G, stepG, stepG.exec, F]) r
theorem rs_exit {id : Nat} {k' : List Item} (hk : exitTo id k = some k') (r : RS P md (G (F b tm df k') cs) Φ Stop) : RS P md (G (F b tm df (.code (.exit id) :: k)) cs) Φ Stop :=
  rs_go rfl (fun w => by simp [G, stepG, stepG.exec, F, hk]) r
theorem rs_cond {c : Operand} {x y : Code} {t : Bool} (hc : ev tm c = .bool t) (r : RS P md (G (F b tm df (.code (if t then x else y) :: k)) cs) Φ Stop) :
    RS P md (G (F b tm df (.code (.cond c x y) :: k)) cs) Φ Stop :=
  rs_go rfl (fun w => by
    have h' : (F b tm df (.code (.cond c x y) :: k)).eval c = .bool t := by rw [eval_F]; exact hc
    simp only [F] at h'
    simp [G, stepG, stepG.exec, F, h']) r
theorem rs_region {id : Nat} {ops : Array Oper} (r : RS P md (G (F b tm df (.inRegion ops (List.range ops.size) :: k)) cs) Φ Stop) :
    RS P md (G (F b tm df (.code (.region id ops false) :: k)) cs) Φ Stop :=
  rs_go rfl (fun w => by simp [G, stepG, stepG.exec, F]) r
theorem rs_region_end {ops : Array Oper} (r : RS P md (G (F b tm df k) cs) Φ Stop) : RS P md (G (F b tm df (.inRegion ops [] :: k)) cs) Φ Stop :=
  rs_go rfl (fun w => by simp [G, stepG, stepG.exec, F]) r
theorem rs_drawn {id : Nat} {ops : Array Oper} (r : ∀ t, RS P md (G (F b tm df (.inRegion ops (Region.schedule (P.follows .mixedOrders) ops t) :: k)) cs) Φ Stop) :
    RS P md (G (F b tm df (.code (.region id ops true) :: k)) cs) Φ Stop :=
  fun h y => reach_step ⟨rfl, fun h₁ k₁ S w V => ⟨_, h₁, { w with drawn := w.drawn + 1 }, #[], by
    simp [G, stepG, stepG.exec, F, choose, Sem.run, Question.forced, Question.cut], r (w.tape w.drawn (.order b.fn id)) h₁ (Stb.stb _ _ y k₁), V, ⟨⟨rfl, rfl, rfl, Nat.le_refl _⟩, fun _ _ _ => rfl⟩, by simp⟩⟩
/-- An operation whose guard is not met is passed over. -/
theorem rs_pass {ops : Array Oper} {i : Nat} {rest : List Nat} {o : Oper} (ho : ops[i]? = some o) (hw : Region.wanted o (yielded ops tm) = false)
    (r : RS P md (G (F b (put tm o.dst undef) df (.inRegion ops rest :: k)) cs) Φ Stop) : RS P md (G (F b tm df (.inRegion ops (i :: rest) :: k)) cs) Φ Stop :=
  rs_go rfl (fun w => by
    simp only [G, stepG, stepG.exec, F, ho, Option.map_some, hw, Option.getD_some, Frame.finish, Option.bind_some, put]
    rfl) r

theorem finish_region {ops : Array Oper} {i : Nat} {rest : List Nat} {o : Oper} (ho : ops[i]? = some o) (v : Value) :
    (F b tm df (.inRegion ops (i :: rest) :: k)).finish v = F b (put tm o.dst v) df (.inRegion ops rest :: k) := by
  simp only [Frame.finish, F, ho, Option.bind_some, put]
  cases o.dst <;> rfl

/-- What an operation that has come to its end leads to. -/
def Upon (P : Program) (md : Md) (fr : Frame) (cs : List Frame) (Stop : Goroutine → Heap → Prop) : Next → Heap → Prop
  | .value v, h => Reach P md (G (fr.finish v) cs) h Stop
  | .skip, h => Reach P md (G (fr.finish undef) cs) h Stop
  | .enter f args, h => Reach P md (G (Frame.enter P f args .normal) (fr :: cs)) h Stop
  | .round l f tmps assign body, h => Reach P md (G (Frame.round l f tmps assign body .normal) (fr :: cs)) h Stop
  | _, _ => False

theorem rs_apply {fr : Frame} {s : Sem Next} (hk : fr.kind ≠ .early) (hnc : (match fr.todo with | .call _ true _ _ :: _ => false | _ => true) = true)
    (hs : ∀ w, stepG P md.isMain (G fr cs) w = stepG.apply P true fr cs none s w) (x : ∀ h, Φ h → wpS P s h (Upon P md fr cs Stop)) : RS P md (G fr cs) Φ Stop := by
  intro h y
  refine reach_step ⟨rfl, fun h₁ k₁ S w V => ?_⟩
  obtain ⟨n, h', w', es, e1, e2, e3, e4, e5, e6⟩ := wpS_run s #[] (x h₁ (Stb.stb _ _ y k₁)) V
  have hk' : (fr.kind == CallKind.early) = false := by simpa using hk
  rw [hs w]
  simp only [Array.empty_append] at e1
  cases n <;> first | exact e3.elim | skip
  all_goals
    refine ⟨_, h', w', seen P fr.fn es, ?_, e3, e4, e5, evL_seen e6⟩
    simp only [stepG.apply, if_true, e1, hk', Bool.false_eq_true, if_false, GStep.after, G, Array.append_empty]
    try
      split
      · rename_i he; rw [he] at hnc; simp at hnc
      · rfl

theorem rs_op {ops : Array Oper} {i : Nat} {rest : List Nat} {o : Oper} (ho : ops[i]? = some o) (hw : Region.wanted o (yielded ops tm) = true) (hk : b.kind ≠ .early)
    (hnd : b.roundOf = none ∨ (match o.op with | .defer _ => false | _ => true) = true)
    (x : ∀ h, Φ h → wpS P (execOp (ev tm) o) h (Upon P md (F b tm df (.inRegion ops (i :: rest) :: k)) cs Stop)) :
    RS P md (G (F b tm df (.inRegion ops (i :: rest) :: k)) cs) Φ Stop := by
  refine rs_apply hk rfl (fun w => ?_) x
  have he : Frame.eval (F b tm df (.inRegion ops (i :: rest) :: k)) = ev tm := eval_F
  simp only [F] at he
  simp only [G, stepG, stepG.exec, F, ho, Option.map_some, hw, Option.getD_some, if_true, stepG.oper, Frame.oper?, he]
  rcases hnd with hn | hn
  · rw [hn]
  · cases hrn : b.roundOf with
    | none => rfl
    | some l =>
      revert hn
      cases o.op <;> simp

/-- .. that yields a value. -/
theorem rs_val {ops : Array Oper} {i : Nat} {rest : List Nat} {o : Oper} (ho : ops[i]? = some o) (hw : Region.wanted o (yielded ops tm) = true) (hk : b.kind ≠ .early)
    (hnd : (match o.op with | .defer _ => false | _ => true) = true)
    (x : ∀ h, Φ h → wpS P (execOp (ev tm) o) h fun n h' => ∃ v, n = .value v ∧ Reach P md (G (F b (put tm o.dst v) df (.inRegion ops rest :: k)) cs) h' Stop) :
    RS P md (G (F b tm df (.inRegion ops (i :: rest) :: k)) cs) Φ Stop :=
  rs_op ho hw hk (.inr hnd) fun h y => wpS_mono (x h y) fun n h' ⟨v, e, r⟩ => by subst e; show Reach P md (G ((F b tm df _).finish v) cs) h' Stop; rw [finish_region ho]; exact r
theorem rs_unit {ops : Array Oper} {i : Nat} {rest : List Nat} {o : Oper} (ho : ops[i]? = some o) (hw : Region.wanted o (yielded ops tm) = true) (hk : b.kind ≠ .early)
    (hnd : (match o.op with | .defer _ => false | _ => true) = true)
    (x : ∀ h, Φ h → wpS P (execOp (ev tm) o) h fun n h' => n = .skip ∧ Reach P md (G (F b (put tm o.dst undef) df (.inRegion ops rest :: k)) cs) h' Stop) :
    RS P md (G (F b tm df (.inRegion ops (i :: rest) :: k)) cs) Φ Stop :=
  rs_op ho hw hk (.inr hnd) fun h y => wpS_mono (x h y) fun n h' ⟨e, r⟩ => by subst e; show Reach P md (G ((F b tm df _).finish undef) cs) h' Stop; rw [finish_region ho]; exact r

/-- A call: whoever calls 'f' with these arguments in heap 'h' gets back a value and a heap of which 'R' holds. -/
def CallsX (P : Program) (md : Md) (f : FuncId) (args : Array Value) (h : Heap) (R : Value → Heap → Prop) : Prop :=
  ∀ (c : Frame) (cs : List Frame) (Stop : Goroutine → Heap → Prop), (∀ v h', R v h' → Reach P md (G (c.finish v) cs) h' Stop) →
    Reach P md (G (Frame.enter P f args .normal) (c :: cs)) h Stop

theorem CallsX.mono {f : FuncId} {args : Array Value} {R R' : Value → Heap → Prop} (x : CallsX P md f args h R) (y : ∀ v h', R v h' → R' v h') : CallsX P md f args h R' :=
  fun c cs Stop z => x c cs Stop fun v h' r => z v h' (y v h' r)

theorem rs_call {ops : Array Oper} {i : Nat} {rest : List Nat} {o : Oper} {f : FuncId} {args : Array Value} {R : Value → Heap → Prop}
    (ho : ops[i]? = some o) (hw : Region.wanted o (yielded ops tm) = true) (hk : b.kind ≠ .early)
    (hnd : (match o.op with | .defer _ => false | _ => true) = true)
    (x : ∀ h, Φ h → wpS P (execOp (ev tm) o) h fun n h' => n = .enter f args ∧ h' = h) (c : ∀ h, Φ h → CallsX P md f args h R)
    (r : ∀ v h', R v h' → Reach P md (G (F b (put tm o.dst v) df (.inRegion ops rest :: k)) cs) h' Stop) :
    RS P md (G (F b tm df (.inRegion ops (i :: rest) :: k)) cs) Φ Stop :=
  rs_op ho hw hk (.inr hnd) fun h y => wpS_mono (x h y) fun n h' ⟨e, eh⟩ => by
    subst e; subst eh
    exact c _ y _ _ _ fun v h' q => by rw [finish_region ho]; exact r v h' q

/-- A function that stands at its return, nothing deferred. -/
theorem rs_return {c : Frame} {fn : Func} {td : List Item} (hf : P.funcs[b.fn]? = some fn) (hk : b.kind = .normal)
    (x : ∀ h, Φ h → wpS P (results fn tm) h fun v h' => Reach P md (G (c.finish v) cs) h' Stop) : RS P md (G (FR b tm [] td) (c :: cs)) Φ Stop := by
  intro h y
  refine reach_step ⟨rfl, fun h₁ k₁ S w V => ?_⟩
  obtain ⟨v, h', w', es, e1, e2, e3, e4, e5, e6⟩ := wpS_run (results fn tm) #[] (x h₁ (Stb.stb _ _ y k₁)) V
  refine ⟨_, h', w', seen P b.fn es, ?_, e3, e4, e5, evL_seen e6⟩
  simp only [Array.empty_append] at e1
  simp only [G, stepG, unwind, FR, hf, e1, doReturn, hk, GStep.after, Array.append_empty]

theorem rs_collected {c : Frame} {td : List Item} {r : Nat} {ds : List Deferred} (hr : ∀ h, Φ h → h[r]? = some (.deferred (some [])))
    (x : ∀ h, Φ h → Reach P md (G (FR b tm ds td) (c :: cs)) (h.setIfInBounds r (.deferred none)) Stop) : RS P md (G (FR b tm ({ target := .collected r, args := #[] } :: ds) td) (c :: cs)) Φ Stop := by
  intro h y
  refine reach_step ⟨rfl, fun h₁ k₁ S w V => ?_⟩
  have y₁ := Stb.stb _ _ y k₁
  have hr₁ := hr h₁ y₁
  have hx : wpS P (Instr.takeDeferred r) h₁ fun l h' => l = [] ∧ h' = h₁.setIfInBounds r (.deferred none) := by
    unfold Instr.takeDeferred
    refine wpS_bind ?_
    simp only [getObj, wpS, hr₁]
    refine ⟨rfl, ?_⟩
    refine wpS_bind ?_
    simp only [setObj, wpS, hr₁]
    refine ⟨rfl, rfl, ?_⟩
    exact wpS_pure ⟨rfl, rfl⟩
  obtain ⟨v, h', w', es, e1, e2, ⟨rfl, rfl⟩, e4, e5, e6⟩ := wpS_run _ #[] hx V
  refine ⟨_, _, w', seen P b.fn es, ?_, x h₁ y₁, e4, e5, evL_seen e6⟩
  simp only [Array.empty_append] at e1
  simp only [G, stepG, unwind, FR, e1, GStep.after, Array.append_empty, List.nil_append]

theorem rs_ret {hro : b.roundOf = none} (x : ∀ td, RS P md (G (FR b tm df td) cs) Φ Stop) : RS P md (G (F b tm df (.code .ret :: k)) cs) Φ Stop :=
  rs_go rfl (fun w => by simp [G, stepG, stepG.exec, F, FR, hro]) (x (.code .ret :: k))
theorem rs_end {hro : b.roundOf = none} (x : ∀ td, RS P md (G (FR b tm df td) cs) Φ Stop) : RS P md (G (F b tm df []) cs) Φ Stop :=
  rs_go rfl (fun w => by simp [G, stepG, stepG.exec, F, FR, hro]) (x [])
end
end
end Go.X
namespace Go.X
open Go.Conc

/-- Whose frame: a function's that was called; a loop's round; a function's that was deferred, or started. -/
inductive Rd where
  | none
  | some (l : Nat)
  | dfd
def Rd.round : Rd → Option Nat
  | .some l => Option.some l
  | _ => Option.none
def Rd.kind : Rd → CallKind
  | .dfd => .deferred
  | _ => .normal
def B (f : FuncId) (r : Rd) : Frame := { fn := f, tmps := #[], todo := [], defers := [], mode := .run, kind := r.kind, roundOf := r.round }
theorem B_kind {f : FuncId} {r : Rd} : (B f r).kind ≠ .early := by cases r <;> simp [B, Rd.kind]
def FL (f : FuncId) (r : Rd) (tm : List Value) (df : List Deferred) (k : List Item) : Frame := F (B f r) tm.toArray df k

def evl (tm : List Value) : Operand → Value
  | .tmp t => tm.getD t undef
  | .const v => v
  | .global g => .pointer (some ⟨g, 0, none⟩)
  | .func f => .func (.func f) #[] #[]

def putl (tm : List Value) (dst : Option Tmp) (v : Value) : List Value :=
  match dst with
  | some d => tm.set d v
  | none => tm

theorem ev_toArray (tm : List Value) : ev tm.toArray = evl tm := by
  funext x
  cases x <;> simp [ev, evl, Array.getD_eq_getD_getElem?, List.getD_eq_getElem?_getD]

theorem put_toArray (tm : List Value) (dst : Option Tmp) (v : Value) : put tm.toArray dst v = (putl tm dst v).toArray := by
  cases dst <;> simp [put, putl]

def yieldl (ops : List Oper) (tm : List Value) (j : Nat) : Option Bool :=
  match ((ops[j]?).bind (·.dst)).bind (tm[·]?) with
  | some (.bool b) => some b
  | _ => none

/-- Is the operation's guard met? -/
def Met (ops : List Oper) (tm : List Value) (o : Oper) (t : Bool) : Prop :=
  match o.guard with
  | none => t = true
  | some (j, want) => (yieldl ops tm j == some want) = t

theorem yielded_toArray (ops : List Oper) (tm : List Value) : yielded ops.toArray tm.toArray = yieldl ops tm := by
  funext j; simp [yielded, yieldl]; rfl

theorem wanted_of_met {ops : List Oper} {tm : List Value} {o : Oper} {t : Bool} (m : Met ops tm o t) : Region.wanted o (yielded ops.toArray tm.toArray) = t := by
  rw [yielded_toArray]
  unfold Met at m
  unfold Region.wanted
  split at m
  · rename_i e; rw [e]; exact m.symm
  · rename_i e; rw [e]; exact m

theorem met_none {ops : List Oper} {tm : List Value} {o : Oper} (h : o.guard = none) : Met ops tm o true := by unfold Met; rw [h]
theorem met_some {ops : List Oper} {tm : List Value} {o : Oper} {j : Nat} {want b : Bool} (h : o.guard = some (j, want)) (hy : yieldl ops tm j = some b) (hb : b = want) : Met ops tm o true := by
  unfold Met; rw [h]; subst hb; simp only [hy, beq_self_eq_true]
theorem met_not {ops : List Oper} {tm : List Value} {o : Oper} {j : Nat} {want b : Bool} (h : o.guard = some (j, want)) (hy : yieldl ops tm j = some b) (hb : b = !want) : Met ops tm o false := by
  unfold Met; rw [h]; subst hb; simp only [hy]; cases want <;> rfl
/-- .. an operation that was not done yields nothing. -/
theorem met_undef {ops : List Oper} {tm : List Value} {o : Oper} {j : Nat} {want : Bool} (h : o.guard = some (j, want)) (hy : yieldl ops tm j = none) : Met ops tm o false := by
  unfold Met; rw [h]; simp only [hy]; rfl

/-- 'o' yields a value, and 'K' of it and of the heap. -/
def Ex (P : Program) (tm : List Value) (o : Oper) (h : Heap) (K : Value → Heap → Prop) : Prop :=
  wpS P (execOp (evl tm) o) h fun n h' => ∃ v, n = .value v ∧ K v h'
/-- 'o' yields just 'v', and leaves the heap. -/
def Exd (P : Program) (tm : List Value) (o : Oper) (h : Heap) (v : Value) : Prop := Ex P tm o h fun v' h' => v' = v ∧ h' = h

def noDefer : Op → Bool
  | .defer _ => false
  | _ => true

section
variable (P : Program) (md : Md) (f : FuncId) (r : Rd) (df : List Deferred) (k : List Item) (cs : List Frame) (Stop : Goroutine → Heap → Prop)
/-- The region 'ops' with 'rest' still to do, in the text's order. -/
def RL (ops rest : List Oper) (tm : List Value) (Φ : Heap → Prop) : Prop :=
  ∀ pre, ops = pre ++ rest → RS P md (G (FL f r tm df (.inRegion ops.toArray (List.range' pre.length rest.length) :: k)) cs) Φ Stop
end

section
variable {P : Program} {md : Md} {f : FuncId} {r : Rd} {df : List Deferred} {k : List Item} {cs : List Frame} {Stop : Goroutine → Heap → Prop}
  {ops rest : List Oper} {tm tm' : List Value} {h : Heap} {Φ : Heap → Prop} {o : Oper}

theorem rl_start [Stb Φ] {id : Nat} {l : List Oper} (x : RL P md f r df k cs Stop l l tm Φ) : RS P md (G (FL f r tm df (.code (.region id l.toArray false) :: k)) cs) Φ Stop := by
  refine rs_region ?_
  have := x [] rfl
  simpa [FL, List.range_eq_range'] using this

theorem rl_end [Stb Φ] (x : RS P md (G (FL f r tm df k) cs) Φ Stop) : RL P md f r df k cs Stop ops [] tm Φ :=
  fun _ _ => rs_region_end x

theorem rl_at {pre : List Oper} (e : ops = pre ++ o :: rest) : ops.toArray[pre.length]? = some o := by subst e; simp

theorem rl_next {pre : List Oper} : List.range' pre.length (o :: rest).length = pre.length :: List.range' (pre.length + 1) rest.length := by simp [List.range'_succ]

theorem rl_step [Stb Φ] {K : Value → Heap → Prop} (hm : Met ops tm o true) (hd : noDefer o.op = true) (hx : ∀ h, Φ h → Ex P tm o h K)
    (n : ∀ v, RL P md f r df k cs Stop ops rest (putl tm o.dst v) (K v)) : RL P md f r df k cs Stop ops (o :: rest) tm Φ := by
  intro pre e
  rw [rl_next]
  refine rs_val (rl_at e) (wanted_of_met hm) B_kind (by revert hd; cases o.op <;> simp [noDefer]) fun h y => ?_
  rw [ev_toArray]
  refine wpS_mono (hx h y) fun n' h' ⟨v, e', hK⟩ => ⟨v, e', ?_⟩
  have := n v (pre ++ [o]) (by simp [e]) h' hK
  rw [put_toArray]
  simpa [FL] using this

theorem rl_det [Stb Φ] {v : Value} (hm : Met ops tm o true) (hx : ∀ h, Φ h → Exd P tm o h v) (ht : putl tm o.dst v = tm') (n : RL P md f r df k cs Stop ops rest tm' Φ) (hd : noDefer o.op = true := by rfl) :
    RL P md f r df k cs Stop ops (o :: rest) tm Φ :=
  rl_step (K := fun v' h' => v' = v ∧ Φ h') hm hd (fun h y => wpS_mono (hx h y) fun _ _ ⟨v', e1, e2, e3⟩ => ⟨v', e1, e2, by rw [e3]; exact y⟩) fun v' pre e h ⟨e1, y⟩ => by subst e1; rw [ht]; exact n pre e h y

theorem rl_unit [Stb Φ] {K : Heap → Prop} (hm : Met ops tm o true) (hd : noDefer o.op = true) (hx : ∀ h, Φ h → wpS P (execOp (evl tm) o) h fun n h' => n = .skip ∧ K h')
    (ht : putl tm o.dst undef = tm') (n : RL P md f r df k cs Stop ops rest tm' K) : RL P md f r df k cs Stop ops (o :: rest) tm Φ := by
  intro pre e
  rw [rl_next]
  refine rs_unit (rl_at e) (wanted_of_met hm) B_kind (by revert hd; cases o.op <;> simp [noDefer]) fun h y => ?_
  rw [ev_toArray]
  refine wpS_mono (hx h y) fun n' h' ⟨e', hK⟩ => ⟨e', ?_⟩
  have := n (pre ++ [o]) (by simp [e]) h' hK
  rw [put_toArray, ht]
  simpa [FL] using this

theorem rl_pass [Stb Φ] (hm : Met ops tm o false) (ht : putl tm o.dst undef = tm') (n : RL P md f r df k cs Stop ops rest tm' Φ) : RL P md f r df k cs Stop ops (o :: rest) tm Φ := by
  intro pre e
  rw [rl_next]
  refine rs_pass (rl_at e) (wanted_of_met hm) ?_
  have := n (pre ++ [o]) (by simp [e])
  rw [put_toArray, ht]
  simpa [FL] using this

/-! what is said of the heap may be opened -/
theorem rl_ex {α : Type} {Ψ : α → Heap → Prop} (n : ∀ x, RL P md f r df k cs Stop ops rest tm (Ψ x)) : RL P md f r df k cs Stop ops rest tm (fun h => ∃ x, Ψ x h) := fun pre e h ⟨x, y⟩ => n x pre e h y
theorem rl_and {c : Prop} (n : c → RL P md f r df k cs Stop ops rest tm Φ) : RL P md f r df k cs Stop ops rest tm (fun h => c ∧ Φ h) := fun pre e h ⟨x, y⟩ => n x pre e h y
theorem rl_as {Ψ : Heap → Prop} (n : RL P md f r df k cs Stop ops rest tm Φ) (hi : ∀ h, Ψ h → Φ h) : RL P md f r df k cs Stop ops rest tm Ψ := fun pre e h y => n pre e h (hi h y)
theorem rs_as {g : Goroutine} {Ψ : Heap → Prop} (n : RS P md g Φ Stop) (hi : ∀ h, Ψ h → Φ h) : RS P md g Ψ Stop := fun h y => n h (hi h y)
theorem rl_norm (e : tm = tm') (x : RL P md f r df k cs Stop ops rest tm' Φ) : RL P md f r df k cs Stop ops rest tm Φ := by subst e; exact x

/-! ### calls -/
/-- May the function be entered? -/
def callable (P : Program) (g : FuncId) : Bool :=
  match P.funcs[g]? with
  | some fn => fn.name != "runtime.NumGoroutine" && fn.body.isSome
  | none => false

theorem wpS_callFunc {g : FuncId} {args : Array Value} {K : Next → Heap → Prop} (hc : callable P g = true) (x : K (.enter g args) h) : wpS P (callFunc g args) h K := by
  unfold callable at hc
  unfold callFunc
  refine wpS_bind ?_
  show wpS P program h _
  simp only [program, wpS]
  split at hc
  · rename_i fn hfn
    simp only [Bool.and_eq_true, bne_iff_ne, ne_eq] at hc
    rw [hfn]
    simp only
    rw [if_neg (by simpa using hc.1), if_neg (by have := hc.2; cases hb : fn.body <;> simp_all)]
    exact wpS_pure x
  · cases hc

theorem wpS_call {args : List Operand} {ats : Array TypeId} {d : Option Tmp} {ty : TypeId} {pos : String} {aft : Array Edge} {gd : Option (Nat × Bool)} {x : Operand} {g : FuncId} {first cap vs : List Value}
    (hx : evl tm x = .func (.func g) first.toArray cap.toArray) (hvs : first ++ (args.map (evl tm) ++ cap) = vs) (hg : callable P g = true) :
    wpS P (execOp (evl tm) ⟨d, .call ⟨.value x, args.toArray, ats⟩, ty, pos, aft, gd⟩) h fun n h' => n = .enter g vs.toArray ∧ h' = h := by
  simp only [execOp]
  refine wpS_bind ?_
  unfold resolve
  simp only [hx, Deferred.ofValue]
  refine wpS_pure ?_
  simp only [invoke]
  refine wpS_callFunc hg ⟨?_, rfl⟩
  rw [← hvs]; simp

theorem rl_call [Stb Φ] {args : List Operand} {ats : Array TypeId} {d : Option Tmp} {ty : TypeId} {pos : String} {aft : Array Edge} {gd : Option (Nat × Bool)} {x : Operand} {g : FuncId} {first cap vs : List Value} {R : Value → Heap → Prop}
    (hm : Met ops tm ⟨d, .call ⟨.value x, args.toArray, ats⟩, ty, pos, aft, gd⟩ true) (hx : evl tm x = .func (.func g) first.toArray cap.toArray) (hvs : first ++ (args.map (evl tm) ++ cap) = vs) (hg : callable P g = true)
    (hc : ∀ h, Φ h → CallsX P md g vs.toArray h R) (n : ∀ v, RL P md f r df k cs Stop ops rest (putl tm d v) (R v)) :
    RL P md f r df k cs Stop ops (⟨d, .call ⟨.value x, args.toArray, ats⟩, ty, pos, aft, gd⟩ :: rest) tm Φ := by
  intro pre e
  rw [rl_next]
  refine rs_call (rl_at e) (wanted_of_met hm) B_kind rfl (fun h y => by rw [ev_toArray]; exact wpS_call hx hvs hg) hc fun v h' hR => ?_
  have := n v (pre ++ [⟨d, .call ⟨.value x, args.toArray, ats⟩, ty, pos, aft, gd⟩]) (by simp [e]) h' hR
  rw [put_toArray]
  simpa [FL] using this

/-- A call whose value is known, and which leaves what was there. -/
theorem rl_calld [sb : Stb Φ] {args : List Operand} {ats : Array TypeId} {d : Option Tmp} {ty : TypeId} {pos : String} {aft : Array Edge} {gd : Option (Nat × Bool)} {x : Operand} {g : FuncId} {first cap vs : List Value} {v : Value}
    (hm : Met ops tm ⟨d, .call ⟨.value x, args.toArray, ats⟩, ty, pos, aft, gd⟩ true) (hx : evl tm x = .func (.func g) first.toArray cap.toArray) (hvs : first ++ (args.map (evl tm) ++ cap) = vs) (hg : callable P g = true)
    (hc : ∀ h, Φ h → CallsX P md g vs.toArray h fun v' h' => v' = v ∧ Keep h h') (ht : putl tm d v = tm') (n : RL P md f r df k cs Stop ops rest tm' Φ) :
    RL P md f r df k cs Stop ops (⟨d, .call ⟨.value x, args.toArray, ats⟩, ty, pos, aft, gd⟩ :: rest) tm Φ :=
  rl_call (R := fun v' h' => v' = v ∧ Φ h') hm hx hvs hg (fun h y => (hc h y).mono fun _ h' ⟨e1, e2⟩ => ⟨e1, sb.stb _ _ y e2⟩) fun v' pre e h ⟨e1, y⟩ => by subst e1; rw [ht]; exact n pre e h y

/-! ### control -/
section
variable [Stb Φ]
theorem fl_seq {x y : Code} (z : RS P md (G (FL f r tm df (.code x :: .code y :: k)) cs) Φ Stop) : RS P md (G (FL f r tm df (.code (.seq x y) :: k)) cs) Φ Stop := rs_seq z
theorem fl_skip (z : RS P md (G (FL f r tm df k) cs) Φ Stop) : RS P md (G (FL f r tm df (.code .skip :: k)) cs) Φ Stop := rs_skip z
theorem fl_inBlock {id : Nat} (z : RS P md (G (FL f r tm df k) cs) Φ Stop) : RS P md (G (FL f r tm df (.inBlock id :: k)) cs) Φ Stop := rs_inBlock z
theorem fl_block {id : Nat} {c : Code} (z : RS P md (G (FL f r tm df (.code c :: .inBlock id :: k)) cs) Φ Stop) : RS P md (G (FL f r tm df (.code (.block id c) :: k)) cs) Φ Stop := rs_block z
theorem fl_exit {id : Nat} {k' : List Item} (hk : exitTo id k = some k') (z : RS P md (G (FL f r tm df k') cs) Φ Stop) : RS P md (G (FL f r tm df (.code (.exit id) :: k)) cs) Φ Stop := rs_exit hk z
theorem fl_if {c : Operand} {x y : Code} {t : Bool} (hc : evl tm c = .bool t) (h1 : t = true → RS P md (G (FL f r tm df (.code x :: k)) cs) Φ Stop) (h2 : t = false → RS P md (G (FL f r tm df (.code y :: k)) cs) Φ Stop) :
    RS P md (G (FL f r tm df (.code (.cond c x y) :: k)) cs) Φ Stop := by
  refine rs_cond (t := t) (by rw [ev_toArray]; exact hc) ?_
  cases t
  · exact h2 rfl
  · exact h1 rfl
theorem fl_then {c : Operand} {x y : Code} {t : Bool} (hc : evl tm c = .bool t) (ht : t = true) (z : RS P md (G (FL f r tm df (.code x :: k)) cs) Φ Stop) :
    RS P md (G (FL f r tm df (.code (.cond c x y) :: k)) cs) Φ Stop := fl_if hc (fun _ => z) (fun e => by rw [ht] at e; cases e)
theorem fl_else {c : Operand} {x y : Code} {t : Bool} (hc : evl tm c = .bool t) (ht : t = false) (z : RS P md (G (FL f r tm df (.code y :: k)) cs) Φ Stop) :
    RS P md (G (FL f r tm df (.code (.cond c x y) :: k)) cs) Φ Stop := fl_if hc (fun e => by rw [ht] at e; cases e) (fun _ => z)

/-- A loop, by what holds at its head ('I', with a measure). -/
theorem fl_loop {c : Code} {m₀ : Nat} (I : Nat → List Value → Heap → Prop) [sI : ∀ m tm, Stb (I m tm)] (start : ∀ h, Φ h → I m₀ tm h)
    (round : ∀ m tm, (∀ m' tm', m' < m → RS P md (G (FL f r tm' df (.inLoop c :: k)) cs) (I m' tm') Stop) → RS P md (G (FL f r tm df (.code c :: .inLoop c :: k)) cs) (I m tm) Stop) :
    RS P md (G (FL f r tm df (.code (.loop c) :: k)) cs) Φ Stop := by
  refine rs_loop ?_
  suffices H : ∀ m tm, RS P md (G (FL f r tm df (.code c :: .inLoop c :: k)) cs) (I m tm) Stop from fun h y => H _ _ h (start h y)
  intro m
  induction m using Nat.strongRecOn with
  | _ m ih => exact fun tm => round m tm fun m' tm' hlt => rs_inLoop (ih m' hlt tm')
end

/-! ### entering and leaving -/
theorem calls_intro {fn : Func} {c : Code} {args : Array Value} {tm : List Value} {R : Value → Heap → Prop} (hf : P.funcs[f]? = some fn) (hb : fn.body = some c)
    (ht : args.toList ++ List.replicate (fn.ntmps - args.size) undef = tm)
    (x : ∀ (c₀ : Frame) (cs : List Frame) (Stop : Goroutine → Heap → Prop), (∀ v h', R v h' → Reach P md (G (c₀.finish v) cs) h' Stop) →
      RS P md (G (FL f .none tm [] [.code c]) (c₀ :: cs)) Φ Stop) (h0 : Φ h) : CallsX P md f args h R := by
  intro c₀ cs Stop K
  have := x c₀ cs Stop K h h0
  have e : Frame.enter P f args .normal = FL f .none tm [] [.code c] := by
    unfold Frame.enter
    simp only [hf, hb, Option.map_some, Option.bind_some, Option.getD_some, FL, F, B, ← ht]
    simp [Rd.kind, Rd.round]
  rw [e]; exact this

/-- What a result variable holds. -/
def Res (P : Program) (h : Heap) (tm : List Value) : List ResultVar → List Value → Prop
  | [], vs => vs = []
  | .tmp t :: rs, vs => ∃ v vs', vs = v :: vs' ∧ tm.getD t undef = v ∧ Res P h tm rs vs'
  | .cell a t :: rs, vs => ∃ v vs', vs = v :: vs' ∧ wpS P (do loadVar t (← asAddr (tm.getD a undef))) h (fun v' h' => v' = v ∧ h' = h) ∧ Res P h tm rs vs'

theorem wpS_mapM_res {rs : List ResultVar} : ∀ {vs : List Value} {acc : Array Value} {K : Array Value → Heap → Prop}, Res P h tm rs vs → K (acc ++ vs.toArray) h →
    wpS P (rs.foldlM (fun (bs : Array Value) a => bs.push <$> (match a with
      | .tmp t => pure (tm.toArray.getD t undef)
      | .cell a t => do loadVar t (← asAddr (tm.toArray.getD a undef)) : Sem Value)) acc) h K := by
  induction rs with
  | nil => intro vs acc K e x; simp only [Res] at e; subst e; exact wpS_pure (by simpa using x)
  | cons a rs ih =>
    intro vs acc K e x
    rw [List.foldlM_cons]
    have hget : ∀ t, tm.toArray.getD t undef = tm.getD t undef := fun t => by simp [Array.getD_eq_getD_getElem?, List.getD_eq_getElem?_getD]
    cases a with
    | tmp t =>
      obtain ⟨v, vs', rfl, hv, hr⟩ := e
      refine wpS_bind ?_
      show wpS P (Sem.bind _ _) h _
      refine wpS_bind' ?_
      refine wpS_pure ?_
      refine wpS_pure ?_
      refine ih hr ?_
      rw [hget, hv]
      simpa using x
    | cell a t =>
      obtain ⟨v, vs', rfl, hv, hr⟩ := e
      refine wpS_bind ?_
      show wpS P (Sem.bind _ _) h _
      refine wpS_bind' ?_
      have hv' : wpS P (do loadVar t (← asAddr (tm.toArray.getD a undef))) h (fun v' h' => v' = v ∧ h' = h) := by rw [hget]; exact hv
      refine wpS_mono hv' fun v' h' ⟨e1, e2⟩ => ?_
      subst e1; subst e2
      refine wpS_pure ?_
      refine ih hr ?_
      simpa using x

def packs : List Value → Value
  | [v] => v
  | vs => .tuple vs.toArray

theorem wpS_results {fn : Func} {rs : List ResultVar} {vs : List Value} {v : Value} {K : Value → Heap → Prop} (hr : fn.results = rs.toArray) (e : Res P h tm rs vs) (hv : packs vs = v) (x : K v h) :
    wpS P (results fn tm.toArray) h K := by
  unfold results
  refine wpS_bind ?_
  rw [hr, Array.mapM_eq_foldlM, List.foldlM_toArray]
  refine wpS_mapM_res e ?_
  refine wpS_pure ?_
  subst hv
  simp only [Array.empty_append]
  match vs, x with
  | [], x => exact x
  | [_], x => exact x
  | _ :: _ :: _, x => simpa [packs] using x

theorem fl_ret [Stb Φ] {c₀ : Frame} {fn : Func} {rs : List ResultVar} {vs : List Value} {v : Value} (hf : P.funcs[f]? = some fn) (hr : fn.results = rs.toArray) (e : ∀ h, Φ h → Res P h tm rs vs) (hv : packs vs = v)
    (x : RS P md (G (c₀.finish v) cs) Φ Stop) : RS P md (G (FL f .none tm [] (.code .ret :: k)) (c₀ :: cs)) Φ Stop :=
  rs_ret (hro := rfl) fun _ => rs_return hf rfl fun h y => wpS_results hr (e h y) hv (x h y)
theorem fl_fall [Stb Φ] {c₀ : Frame} {fn : Func} {rs : List ResultVar} {vs : List Value} {v : Value} (hf : P.funcs[f]? = some fn) (hr : fn.results = rs.toArray) (e : ∀ h, Φ h → Res P h tm rs vs) (hv : packs vs = v)
    (x : RS P md (G (c₀.finish v) cs) Φ Stop) : RS P md (G (FL f .none tm [] []) (c₀ :: cs)) Φ Stop :=
  rs_end (hro := rfl) fun _ => rs_return hf rfl fun h y => wpS_results hr (e h y) hv (x h y)
end
end Go.X
namespace Go.X
open Go.Conc Go.RowKit

/-- It stands at its last return. -/
def AtFin (P : Program) (v : Value) (g : Goroutine) : Prop := g.status = .running ∧ ∀ w : World, stepG P true g w = .ended (.done v) w #[]
def StopE (P : Program) (R : Value → Heap → Prop) (g : Goroutine) (h : Heap) : Prop := ∃ v, AtFin P v g ∧ R v h
/-- The contract of the function that is called first. -/
def EntersX (P : Program) (md : Md) (f : FuncId) (args : Array Value) (h : Heap) (R : Value → Heap → Prop) : Prop := Reach P md (G (Frame.enter P f args .normal) []) h (StopE P R)

section
variable {P : Program} {md : Md} {f : FuncId} {h : Heap} {Φ : Heap → Prop} {tm : List Value} {k : List Item} {R : Value → Heap → Prop}

end

/-! ### the run -/
def nilO : Obj → Obj
  | .cells c e f => if c.size = 0 then .cells #[] 0 (0, 0) else .cells c e f
  | o => o
/-- The heap as the call sees it: blocks without cells are dead. -/
def nilV (r : Heap) : Heap := r.map nilO
def Empty (r : Heap) (b : Nat) : Prop := ∃ e f, r[b]? = some (.cells #[] e f)
section
variable {P : Program} {f : FuncId} {args : Array Value} {w : World} {R : Value → Heap → Prop}
end
end Go.X
namespace Go.X
open Go.Conc

abbrev PHeap := Nat → Option Obj

def pcell (p : PHeap) (a : Addr) : Option Value :=
  match p a.block with
  | some (.cells c _ _) => if a.spot.isSome then none else c[a.off]?
  | _ => none

def PLe (p p' : PHeap) : Prop := ∀ b o, p b = some o → p' b = some o
theorem PLe.refl (p : PHeap) : PLe p p := fun _ _ x => x
theorem PLe.trans {p q r : PHeap} (x : PLe p q) (y : PLe q r) : PLe p r := fun b o z => y b o (x b o z)
theorem PLe.cell {p p' : PHeap} (x : PLe p p') {a : Addr} {v : Value} (y : pcell p a = some v) : pcell p' a = some v := by
  unfold pcell at y ⊢
  split at y
  · rename_i c t z hb; rw [x _ _ hb]; exact y
  · cases y

/-- 'h₀': the heap as the call began; 'B₀': blocks of it that the call may turn; 'p': blocks that last; 'L': blocks that are the call's own just now. -/
structure St (h₀ : Heap) (B₀ : List Nat) (p : PHeap) (h : Heap) (L : List (Nat × Obj)) : Prop where
  keep : ∀ b, b < h₀.size → b ∉ B₀ → h[b]? = h₀[b]?
  size : h₀.size ≤ h.size
  per : ∀ b o, p b = some o → h[b]? = some o
  own : ∀ x ∈ L, h[x.1]? = some x.2 ∧ p x.1 = none ∧ (h₀.size ≤ x.1 ∨ x.1 ∈ B₀)
  nod : (L.map (·.1)).Nodup

section
variable {h₀ h h' : Heap} {B₀ : List Nat} {p p' : PHeap} {L : List (Nat × Obj)}

theorem lt_of_get {b : Nat} {o : Obj} (x : h[b]? = some o) : b < h.size := (Array.getElem?_eq_some_iff.1 x).1

theorem St.kept (s : St h₀ [] p h L) : Keep h₀ h := ⟨s.size, fun b hb => s.keep b hb (by simp)⟩

theorem St.start (h : Heap) (p : PHeap) (hp : ∀ b o, p b = some o → h[b]? = some o) : St h [] p h [] :=
  ⟨fun _ _ _ => rfl, Nat.le_refl _, hp, by simp, by simp⟩

theorem St.drop {x : Nat × Obj} (s : St h₀ B₀ p h (x :: L)) : St h₀ B₀ p h L :=
  ⟨s.keep, s.size, s.per, fun y hy => s.own y (by simp [hy]), by have := s.nod; simp at this; exact this.2⟩

theorem St.sub {L' : List (Nat × Obj)} (s : St h₀ B₀ p h L) (hs : L'.Sublist L) : St h₀ B₀ p h L' :=
  ⟨s.keep, s.size, s.per, fun y hy => s.own y (hs.subset hy), s.nod.sublist (hs.map _)⟩

theorem St.perm {L' : List (Nat × Obj)} (s : St h₀ B₀ p h L) (hs : L.Perm L') : St h₀ B₀ p h L' :=
  ⟨s.keep, s.size, s.per, fun y hy => s.own y (hs.mem_iff.2 hy), (hs.map (·.1)).nodup_iff.1 s.nod⟩

theorem St.call (s : St h₀ B₀ p h L) (k : Keep h h') : St h₀ B₀ p h' L :=
  ⟨fun b hb hn => (k.keep b (Nat.lt_of_lt_of_le hb s.size)).trans (s.keep b hb hn), Nat.le_trans s.size k.size,
    fun b o x => (k.keep b (lt_of_get (s.per b o x))).trans (s.per b o x),
    fun x hx => ⟨(k.keep _ (lt_of_get (s.own x hx).1)).trans (s.own x hx).1, (s.own x hx).2⟩, s.nod⟩

instance : Stb (fun h => St h₀ B₀ p h L) := ⟨fun _ _ s k => s.call k⟩

theorem St.push (s : St h₀ B₀ p h L) (o : Obj) : St h₀ B₀ p (h.push o) ((h.size, o) :: L) := by
  have k : Keep h (h.push o) := ⟨by simp, fun b hb => by rw [Array.getElem?_push, if_neg (by omega)]⟩
  have s' := s.call k
  refine ⟨s'.keep, s'.size, s'.per, ?_, ?_⟩
  · intro x hx
    rcases List.mem_cons.1 hx with rfl | hx
    · refine ⟨by simp, ?_, .inl s.size⟩
      cases hp : p h.size with
      | none => rfl
      | some y => exact absurd (lt_of_get (s.per _ _ hp)) (by simp)
    · exact s'.own x hx
  · simp only [List.map_cons, List.nodup_cons]
    refine ⟨?_, s.nod⟩
    intro hm
    obtain ⟨x, hx, e⟩ := List.mem_map.1 hm
    have := lt_of_get (s.own x hx).1
    omega

theorem mem_of_get? {α : Type} {l : List α} {i : Nat} {x : α} (h : l[i]? = some x) : x ∈ l := List.mem_of_getElem? h

theorem St.at (s : St h₀ B₀ p h L) {i b : Nat} {o : Obj} (hL : L[i]? = some (b, o)) : h[b]? = some o := (s.own _ (mem_of_get? hL)).1

theorem nodup_idx {l : List Nat} (hn : l.Nodup) {i j x : Nat} (hi : l[i]? = some x) (hj : l[j]? = some x) : i = j := by
  obtain ⟨hi', ei⟩ := List.getElem?_eq_some_iff.1 hi
  obtain ⟨hj', ej⟩ := List.getElem?_eq_some_iff.1 hj
  have h := List.pairwise_iff_getElem.1 hn
  rcases Nat.lt_trichotomy i j with hlt | rfl | hlt
  · exact absurd (ei.trans ej.symm) (h i j hi' hj' hlt)
  · rfl
  · exact absurd (ej.trans ei.symm) (h j i hj' hi' hlt)

/-- One block of the call's own is turned. -/
theorem St.turn (s : St h₀ B₀ p h L) {i b : Nat} {o o' : Obj} (hL : L[i]? = some (b, o)) (hb : h'[b]? = some o') (hs : h'.size = h.size)
    (hne : ∀ c, c ≠ b → h'[c]? = h[c]?) : St h₀ B₀ p h' (L.set i (b, o')) := by
  have ho := s.own _ (mem_of_get? hL)
  have hp : ∀ c o, p c = some o → c ≠ b := fun c o hc e => by subst e; rw [ho.2.1] at hc; cases hc
  refine ⟨fun c hc hn => ?_, by rw [hs]; exact s.size, fun c o hc => by rw [hne c (hp c o hc)]; exact s.per c o hc, ?_, ?_⟩
  · by_cases e : c = b
    · subst e
      rcases ho.2.2 with x | x
      · omega
      · exact absurd x hn
    · rw [hne c e]; exact s.keep c hc hn
  · intro x hx
    obtain ⟨j, hj⟩ := List.getElem?_of_mem hx
    rw [List.getElem?_set] at hj
    split at hj
    · split at hj
      · cases hj; exact ⟨hb, ho.2⟩
      · cases hj
    · rename_i hij
      have hx' := s.own x (mem_of_get? hj)
      have hxb : x.1 ≠ b := by
        intro e
        refine hij (nodup_idx s.nod (i := i) (j := j) (x := b) ?_ ?_)
        · rw [List.getElem?_map, hL]; rfl
        · rw [List.getElem?_map, hj]; simp [e]
      rw [hne _ hxb]; exact hx'
  · have : (L.set i (b, o')).map (·.1) = L.map (·.1) := by
      rw [List.map_set]
      refine List.ext_getElem? fun j => ?_
      rw [List.getElem?_set]
      split
      · rename_i e; subst e
        simp only [List.length_map, List.getElem?_map, hL, Option.map_some]
        rw [if_pos (List.getElem?_eq_some_iff.1 hL).1]
      · rfl
    rw [this]; exact s.nod

theorem setCell_get {b off : Nat} {cs : Array Value} {T : TypeId} {z : Nat × Nat} {v : Value} (hb : h[b]? = some (.cells cs T z)) :
    (setCell h ⟨b, off, none⟩ v)[b]? = some (.cells (cs.setIfInBounds off v) T z) := by
  unfold setCell
  rw [getElem?_modify', if_pos rfl, hb]; rfl
theorem setCell_ne {b off c : Nat} {v : Value} (hc : c ≠ b) : (setCell h ⟨b, off, none⟩ v)[c]? = h[c]? := by
  unfold setCell
  rw [getElem?_modify', if_neg (fun e => hc e.symm)]
theorem setCell_size {a : Addr} {v : Value} : (setCell h a v).size = h.size := by simp [setCell]

theorem St.store (s : St h₀ B₀ p h L) {i b off : Nat} {cs : Array Value} {T : TypeId} {z : Nat × Nat} {v : Value} (hL : L[i]? = some (b, .cells cs T z)) :
    St h₀ B₀ p (setCell h ⟨b, off, none⟩ v) (L.set i (b, .cells (cs.setIfInBounds off v) T z)) :=
  s.turn hL (setCell_get (s.at hL)) setCell_size fun _ => setCell_ne

/-- What lasts may grow. -/
theorem St.grow (s : St h₀ B₀ p h L) (_hle : PLe p p') (hp : ∀ b o, p' b = some o → h[b]? = some o) (hn : ∀ x ∈ L, p' x.1 = none) : St h₀ B₀ p' h L :=
  ⟨s.keep, s.size, hp, fun x hx => ⟨(s.own x hx).1, hn x hx, (s.own x hx).2.2⟩, s.nod⟩

/-- A block of the call's own lasts from now on. -/
def padd (p : PHeap) (b : Nat) (o : Obj) : PHeap := fun c => if c = b then some o else p c
theorem padd_le {b : Nat} {o : Obj} (hb : p b = none) : PLe p (padd p b o) := fun c x hc => by
  unfold padd; rw [if_neg]; exact hc
  intro e; subst e; rw [hb] at hc; cases hc
theorem padd_self {b : Nat} {o : Obj} : padd p b o b = some o := if_pos rfl

theorem St.last {b : Nat} {o : Obj} (s : St h₀ B₀ p h ((b, o) :: L)) : PLe p (padd p b o) ∧ St h₀ B₀ (padd p b o) h L := by
  have ho := s.own (b, o) (by simp)
  refine ⟨padd_le ho.2.1, s.drop.grow (padd_le ho.2.1) ?_ ?_⟩
  · intro c x hc
    unfold padd at hc
    split at hc
    · rename_i e; subst e; cases hc; exact ho.1
    · exact s.per c x hc
  · intro x hx
    unfold padd
    have hn := s.nod
    simp only [List.map_cons, List.nodup_cons] at hn
    rw [if_neg (fun e => hn.1 (List.mem_map.2 ⟨x, hx, e⟩))]
    exact (s.own x (by simp [hx])).2.1

/-- What a call that makes memory leaves: 'p'' lasts behind it. -/
structure Grow (p : PHeap) (h : Heap) (p' : PHeap) (h' : Heap) : Prop where
  keep : Keep h h'
  le : PLe p p'
  per : ∀ b o, p' b = some o → h'[b]? = some o
  new : ∀ b, p b = none → b < h.size → p' b = none

theorem St.Grow (s : St h₀ [] p' h L) {p₀ : PHeap} (hp : PLe p₀ p') (hn : ∀ b, p₀ b = none → b < h₀.size → p' b = none) : Grow p₀ h₀ p' h := ⟨s.kept, hp, s.per, hn⟩

theorem St.cell (s : St h₀ B₀ p h L) {a : Addr} {v : Value} (x : pcell p a = some v) : cell? h a = some v := by
  unfold pcell at x
  unfold cell?
  split at x
  · rename_i c t z hb; rw [s.per _ _ hb]; exact x
  · cases x
theorem St.ocell (s : St h₀ B₀ p h L) {i b off : Nat} {cs : Array Value} {T : TypeId} {z : Nat × Nat} {v : Value} (hL : L[i]? = some (b, .cells cs T z)) (hv : cs[off]? = some v) :
    cell? h ⟨b, off, none⟩ = some v := by
  unfold cell?; rw [s.at hL]; exact hv
end

/-! ### types -/
def aggT (P : Program) (t : TypeId) : Option Bool := (P.underlying t).map fun | .struct _ => true | .array _ _ => true | _ => false
def sizeT (P : Program) (t : TypeId) : Option Nat := (P.info? t).map (·.size)
def bytesT (P : Program) (t : TypeId) : Option Nat := (P.info? t).map (·.bytes)
def zeroT (P : Program) (t : TypeId) : Option Value := (P.info? t).bind (·.zero)
/-- A struct's fields: where each begins, and how many cells it has. -/
def placesT (P : Program) (t : TypeId) : Option (List (Nat × Nat)) :=
  match P.underlying t with
  | some (.struct fs) => fs.toList.mapM fun f => (sizeT P f.type).map fun n => (f.offset, n)
  | _ => none

section
variable {P : Program} {h : Heap}

theorem wpS_underlying {t : TypeId} {d : TypeDesc} {K : TypeDesc → Heap → Prop} (ht : P.underlying t = some d) (x : K d h) : wpS P (underlying t) h K := by
  unfold underlying
  refine wpS_bind ?_
  simp only [program, wpS, ht]
  exact wpS_pure x
theorem wpS_typeInfo {t : TypeId} {i : TypeInfo} {K : TypeInfo → Heap → Prop} (ht : P.info? t = some i) (x : K i h) : wpS P (typeInfo t) h K := by
  unfold typeInfo
  refine wpS_bind ?_
  simp only [program, wpS, ht]
  exact wpS_pure x
theorem wpS_sizeOf {t : TypeId} {n : Nat} {K : Nat → Heap → Prop} (ht : sizeT P t = some n) (x : K n h) : wpS P (sizeOf t) h K := by
  unfold sizeT at ht
  cases hi : P.info? t with
  | none => rw [hi] at ht; cases ht
  | some i =>
    rw [hi] at ht; cases ht
    unfold sizeOf
    refine wpS_bind (wpS_typeInfo hi ?_)
    exact wpS_pure x
theorem wpS_zeroValue {t : TypeId} {v : Value} {K : Value → Heap → Prop} (ht : zeroT P t = some v) (x : K v h) : wpS P (zeroValue t) h K := by
  unfold zeroT at ht
  cases hi : P.info? t with
  | none => rw [hi] at ht; cases ht
  | some i =>
    rw [hi] at ht
    unfold zeroValue
    refine wpS_bind (wpS_typeInfo hi ?_)
    simp only [Option.bind_some] at ht
    simp only [ht]
    exact wpS_pure x
theorem wpS_isAgg {t : TypeId} {b : Bool} {K : Bool → Heap → Prop} (ht : aggT P t = some b) (x : K b h) : wpS P (isAgg t) h K := by
  unfold aggT at ht
  cases hu : P.underlying t with
  | none => rw [hu] at ht; cases ht
  | some d =>
    rw [hu] at ht
    unfold isAgg
    refine wpS_bind (wpS_underlying hu ?_)
    cases d <;> simp at ht <;> subst ht <;> exact wpS_pure x

theorem wpS_loadCellsFrom {a : Addr} : ∀ {n i : Nat} {vs : List Value} {acc : Array Value} {K : Array Value → Heap → Prop}, vs.length = n →
    (∀ j v, vs[j]? = some v → cell? h (a.add (i + j)) = some v) → K (acc ++ vs.toArray) h → wpS P (loadCellsFrom a i n acc) h K
  | 0, i, vs, acc, K, hn, _, x => by
    obtain rfl := List.eq_nil_of_length_eq_zero hn
    exact wpS_pure (by simpa using x)
  | n + 1, i, vs, acc, K, hn, hc, x => by
    match vs, hn with
    | v :: vs, hn =>
      unfold loadCellsFrom
      refine wpS_bind ?_
      refine ⟨rfl, v, by simpa using hc 0 v rfl, ?_⟩
      refine wpS_loadCellsFrom (vs := vs) (by simpa using hn) (fun j u hj => ?_) (by simpa using x)
      have := hc (j + 1) u (by simpa using hj)
      rwa [show i + 1 + j = i + (j + 1) from by omega]

theorem wpS_loadCells {a : Addr} {n : Nat} {vs : List Value} {K : Array Value → Heap → Prop} (hn : vs.length = n) (hc : ∀ j v, vs[j]? = some v → cell? h (a.add j) = some v) (x : K vs.toArray h) :
    wpS P (loadCells a n) h K := wpS_loadCellsFrom hn (by simpa using hc) (by simpa using x)

theorem wpS_loadVar1 {t : TypeId} {a : Addr} {v : Value} {K : Value → Heap → Prop} (ht : aggT P t = some false) (hc : cell? h a = some v) (x : K v h) : wpS P (loadVar t a) h K := by
  unfold loadVar
  refine wpS_bind (wpS_isAgg ht ?_)
  exact ⟨rfl, v, hc, x⟩
theorem wpS_loadVarN {t : TypeId} {a : Addr} {n : Nat} {vs : List Value} {K : Value → Heap → Prop} (ht : aggT P t = some true) (hs : sizeT P t = some n) (hn : vs.length = n)
    (hc : ∀ j v, vs[j]? = some v → cell? h (a.add j) = some v) (x : K (.agg vs.toArray) h) : wpS P (loadVar t a) h K := by
  unfold loadVar
  refine wpS_bind (wpS_isAgg ht ?_)
  simp only [if_true]
  refine wpS_bind (wpS_sizeOf hs ?_)
  refine wpS_bind (wpS_loadCells hn hc ?_)
  exact wpS_pure x

theorem add_mk (b off n : Nat) : (⟨b, off, none⟩ : Addr).add n = ⟨b, off + n, none⟩ := by unfold Addr.add; split <;> simp_all
end
end Go.X
namespace Go.X
open Go.Conc
open Go.RowKit (wrap64)

section
variable {P : Program} {tm : List Value} {h : Heap} {d : Option Tmp} {ty : TypeId} {pos : String} {aft : Array Edge} {gd : Option (Nat × Bool)}

/-- What a list holds, as a function of the place. -/
theorem y_of {tm : List Value} {F : (Nat → Value) → List Value} (h : tm = F (fun i => tm.getD i undef)) : ∃ y : Nat → Value, tm = F y := ⟨_, h⟩
theorem not_t {x : Bool} (h : x = false) : (!x) = true := by rw [h]; rfl
theorem not_f {x : Bool} (h : x = true) : (!x) = false := by rw [h]; rfl
theorem bcases (b : Bool) : b = true ∨ b = false := by cases b <;> simp
theorem wr {n : Int} (h : -9223372036854775808 ≤ n ∧ n ≤ 9223372036854775807) : IntKind.i64.wrap n = n := IntWalk.i64_in n h

theorem exd_of {o : Oper} {v : Value} {s : Sem Value} (e : execOp (evl tm) o = (do pure (.value (← s)))) (x : wpS P s h fun v' h' => v' = v ∧ h' = h) : Exd P tm o h v := by
  unfold Exd Ex
  rw [e]
  refine wpS_bind (wpS_mono x fun v' h' ⟨e1, e2⟩ => ?_)
  exact wpS_pure ⟨v', rfl, e1, e2⟩

theorem exd_move {x : Operand} {v : Value} (hx : evl tm x = v) : Exd P tm ⟨d, .move x, ty, pos, aft, gd⟩ h v := by
  unfold Exd Ex; simp only [execOp]; exact wpS_pure ⟨_, rfl, hx, rfl⟩
theorem exd_assign {x : Operand} {v : Value} (hx : evl tm x = v) : Exd P tm ⟨d, .assign x, ty, pos, aft, gd⟩ h v := by
  unfold Exd Ex; simp only [execOp]; exact wpS_pure ⟨_, rfl, hx, rfl⟩

theorem exd_pick {c a b : Operand} {t : Bool} {v : Value} (hc : evl tm c = .bool t) (hv : (if t then evl tm a else evl tm b) = v) : Exd P tm ⟨d, .pick c a b, ty, pos, aft, gd⟩ h v := by
  unfold Exd Ex
  simp only [execOp, hc]
  refine wpS_bind ?_
  refine wpS_pure ?_
  refine wpS_pure ⟨_, rfl, ?_, rfl⟩
  rw [← hv]
theorem exd_pick_t {c a b : Operand} {t : Bool} {v : Value} (hc : evl tm c = .bool t) (ht : t = true) (ha : evl tm a = v) : Exd P tm ⟨d, .pick c a b, ty, pos, aft, gd⟩ h v := exd_pick hc (by rw [ht]; exact ha)
theorem exd_pick_f {c a b : Operand} {t : Bool} {v : Value} (hc : evl tm c = .bool t) (ht : t = false) (hb : evl tm b = v) : Exd P tm ⟨d, .pick c a b, ty, pos, aft, gd⟩ h v := exd_pick hc (by rw [ht]; exact hb)

theorem exd_bin {op : BinOp} {T T' : TypeId} {x y : Operand} {v a b : Value} (hx : evl tm x = a) (hy : evl tm y = b) (hg : ∀ K : Unit → Heap → Prop, K () h → wpS P (eqGuard op T x y a b) h K)
    (hv : wpS P (binOp op T a b) h fun v' h' => v' = v ∧ h' = h) : Exd P tm ⟨d, .binOp op T x y T', ty, pos, aft, gd⟩ h v := by
  refine exd_of (s := do eqGuard op T x y a b; binOp op T a b) (by simp only [execOp, hx, hy]) ?_
  refine wpS_bind (hg _ ?_)
  exact hv

theorem wpS_eqGuard_no {op : BinOp} {T : TypeId} {x y : Operand} {a b : Value} (ho : (match op with | .eql => false | .neq => false | _ => true) = true) {K : Unit → Heap → Prop} (k : K () h) : wpS P (eqGuard op T x y a b) h K := by
  unfold eqGuard
  cases op <;> first | exact absurd ho (by decide) | (rw [if_pos (by rfl)]; exact wpS_pure k)
theorem wpS_eqGuard_int {op : BinOp} {T : TypeId} {x y : Operand} {k k' : IntKind} {a b : Int} {K : Unit → Heap → Prop} (z : K () h) : wpS P (eqGuard op T x y (.int k a) (.int k' b)) h K := by
  unfold eqGuard
  cases op <;> first | (rw [if_pos (by rfl)]; exact wpS_pure z) | (rw [if_neg (by decide)]; exact wpS_pure z)

theorem ibeq (a b : Int) : (a == b) = decide (a = b) := by rw [Bool.eq_iff_iff]; simp

theorem exd_add {k : IntKind} {T T' : TypeId} {x y : Operand} {a b n : Int} (hx : evl tm x = .int k a) (hy : evl tm y = .int k b) (hn : k.wrap (a + b) = n) : Exd P tm ⟨d, .binOp .add T x y T', ty, pos, aft, gd⟩ h (.int k n) :=
  exd_bin hx hy (fun K z => wpS_eqGuard_no rfl z) (by simp only [binOp, ne_eq, not_true_eq_false, if_false, Op.intArith, hn]; exact wpS_pure ⟨rfl, rfl⟩)
theorem exd_sub {k : IntKind} {T T' : TypeId} {x y : Operand} {a b n : Int} (hx : evl tm x = .int k a) (hy : evl tm y = .int k b) (hn : k.wrap (a - b) = n) : Exd P tm ⟨d, .binOp .sub T x y T', ty, pos, aft, gd⟩ h (.int k n) :=
  exd_bin hx hy (fun K z => wpS_eqGuard_no rfl z) (by simp only [binOp, ne_eq, not_true_eq_false, if_false, Op.intArith, hn]; exact wpS_pure ⟨rfl, rfl⟩)
theorem exd_mul {k : IntKind} {T T' : TypeId} {x y : Operand} {a b n : Int} (hx : evl tm x = .int k a) (hy : evl tm y = .int k b) (hn : k.wrap (a * b) = n) : Exd P tm ⟨d, .binOp .mul T x y T', ty, pos, aft, gd⟩ h (.int k n) :=
  exd_bin hx hy (fun K z => wpS_eqGuard_no rfl z) (by simp only [binOp, ne_eq, not_true_eq_false, if_false, Op.intArith, hn]; exact wpS_pure ⟨rfl, rfl⟩)
theorem exd_lss {k : IntKind} {T T' : TypeId} {x y : Operand} {a b : Int} (hx : evl tm x = .int k a) (hy : evl tm y = .int k b) : Exd P tm ⟨d, .binOp .lss T x y T', ty, pos, aft, gd⟩ h (.bool (decide (a < b))) :=
  exd_bin hx hy (fun K z => wpS_eqGuard_no rfl z) (by simp only [binOp, ne_eq, not_true_eq_false, if_false, Op.intCmp]; exact wpS_pure ⟨rfl, rfl⟩)
theorem exd_leq {k : IntKind} {T T' : TypeId} {x y : Operand} {a b : Int} (hx : evl tm x = .int k a) (hy : evl tm y = .int k b) : Exd P tm ⟨d, .binOp .leq T x y T', ty, pos, aft, gd⟩ h (.bool (decide (a ≤ b))) :=
  exd_bin hx hy (fun K z => wpS_eqGuard_no rfl z) (by simp only [binOp, ne_eq, not_true_eq_false, if_false, Op.intCmp]; exact wpS_pure ⟨rfl, rfl⟩)
theorem exd_gtr {k : IntKind} {T T' : TypeId} {x y : Operand} {a b : Int} (hx : evl tm x = .int k a) (hy : evl tm y = .int k b) : Exd P tm ⟨d, .binOp .gtr T x y T', ty, pos, aft, gd⟩ h (.bool (decide (b < a))) :=
  exd_bin hx hy (fun K z => wpS_eqGuard_no rfl z) (by simp only [binOp, ne_eq, not_true_eq_false, if_false, Op.intCmp]; exact wpS_pure ⟨rfl, rfl⟩)
theorem exd_geq {k : IntKind} {T T' : TypeId} {x y : Operand} {a b : Int} (hx : evl tm x = .int k a) (hy : evl tm y = .int k b) : Exd P tm ⟨d, .binOp .geq T x y T', ty, pos, aft, gd⟩ h (.bool (decide (b ≤ a))) :=
  exd_bin hx hy (fun K z => wpS_eqGuard_no rfl z) (by simp only [binOp, ne_eq, not_true_eq_false, if_false, Op.intCmp]; exact wpS_pure ⟨rfl, rfl⟩)
theorem exd_eql {k : IntKind} {T T' : TypeId} {x y : Operand} {a b : Int} (hx : evl tm x = .int k a) (hy : evl tm y = .int k b) : Exd P tm ⟨d, .binOp .eql T x y T', ty, pos, aft, gd⟩ h (.bool (decide (a = b))) :=
  exd_bin hx hy (fun K z => wpS_eqGuard_int z) (by simp only [binOp, ne_eq, not_true_eq_false, if_false, Op.intCmp]; exact wpS_pure ⟨by rw [ibeq], rfl⟩)
theorem exd_neq {k : IntKind} {T T' : TypeId} {x y : Operand} {a b : Int} (hx : evl tm x = .int k a) (hy : evl tm y = .int k b) : Exd P tm ⟨d, .binOp .neq T x y T', ty, pos, aft, gd⟩ h (.bool (decide (a ≠ b))) :=
  exd_bin hx hy (fun K z => wpS_eqGuard_int z) (by simp only [binOp, ne_eq, not_true_eq_false, if_false, Op.intCmp]; exact wpS_pure ⟨by simp [bne, ibeq], rfl⟩)

theorem exd_not {T : TypeId} {x : Operand} {b : Bool} (hx : evl tm x = .bool b) : Exd P tm ⟨d, .unOp .not T x, ty, pos, aft, gd⟩ h (.bool (!b)) :=
  exd_of (s := pure (.bool (!b))) (by simp only [execOp, hx, Op.unary]) (wpS_pure ⟨rfl, rfl⟩)
theorem exd_builtin {b : Builtin} {args : Array Operand} {ats : Array TypeId} {v : Value} {s : Sem Value}
    (e : ∀ cs, builtin b ats ty cs (args.map (evl tm)) = (do pure (.value (← s)))) (x : wpS P s h fun v' h' => v' = v ∧ h' = h) :
    Exd P tm ⟨d, .call { callee := .builtin b, args := args, argTypes := ats }, ty, pos, aft, gd⟩ h v := by
  unfold Exd Ex
  simp only [execOp, resolve]
  refine wpS_bind (wpS_pure ?_)
  simp only [invoke]
  rw [e]
  refine wpS_bind (wpS_mono x fun v' h' ⟨e1, e2⟩ => ?_)
  exact wpS_pure ⟨v', rfl, e1, e2⟩

theorem exd_len {t e : TypeId} {x : Operand} {a : Option Addr} {n c : Nat} (ht : P.underlying t = some (.slice e)) (hx : evl tm x = .slice a n c) :
    Exd P tm ⟨d, .call { callee := .builtin .len, args := #[x], argTypes := #[t] }, ty, pos, aft, gd⟩ h (.int .i64 n) := by
  refine exd_builtin (s := Builtin.len_ #[t] ty #[.slice a n c]) (fun cs => by simp only [builtin, List.map_toArray, List.map_cons, List.map_nil, hx]) ?_
  simp only [Builtin.len_]
  refine wpS_bind (wpS_underlying ht ?_)
  exact wpS_pure ⟨rfl, rfl⟩
theorem exd_lens {t : TypeId} {x : Operand} {s : ByteArray} (ht : P.underlying t = some .string) (hx : evl tm x = .string s) :
    Exd P tm ⟨d, .call { callee := .builtin .len, args := #[x], argTypes := #[t] }, ty, pos, aft, gd⟩ h (.int .i64 s.size) := by
  refine exd_builtin (s := Builtin.len_ #[t] ty #[.string s]) (fun cs => by simp only [builtin, List.map_toArray, List.map_cons, List.map_nil, hx]) ?_
  simp only [Builtin.len_]
  refine wpS_bind (wpS_underlying ht ?_)
  exact wpS_pure ⟨rfl, rfl⟩

theorem exd_extract {x : Operand} {i : Nat} {vs : Array Value} {v : Value} (hx : evl tm x = .tuple vs) (hv : vs[i]? = some v) : Exd P tm ⟨d, .extract x i, ty, pos, aft, gd⟩ h v :=
  exd_of (s := pure v) (by simp only [execOp, hx, Instr.extract, hv]) (wpS_pure ⟨rfl, rfl⟩)

theorem exd_makeFunc {fn : Fn} {first cap : List Operand} {a b : List Value} (ha : first.map (evl tm) = a) (hb : cap.map (evl tm) = b) : Exd P tm ⟨d, .makeFunc fn first.toArray cap.toArray, ty, pos, aft, gd⟩ h (.func fn a.toArray b.toArray) :=
  exd_of (s := pure (.func fn a.toArray b.toArray)) (by simp only [execOp, Instr.makeFunc, ← ha, ← hb, List.map_toArray]) (wpS_pure ⟨rfl, rfl⟩)

theorem wpS_fieldsPlaces {fs : List Field} : ∀ {pl : List (Nat × Nat)} {acc : Array (Nat × Nat)} {K : Array (Nat × Nat) → Heap → Prop},
    (fs.mapM fun f => (sizeT P f.type).map fun n => (f.offset, n)) = some pl → K (acc ++ pl.toArray) h →
    wpS P (fs.foldlM (fun (bs : Array (Nat × Nat)) f => bs.push <$> (do pure (f.offset, ← sizeOf f.type) : Sem (Nat × Nat))) acc) h K := by
  induction fs with
  | nil => intro pl acc K e x; simp at e; subst e; exact wpS_pure (by simpa using x)
  | cons f fs ih =>
    intro pl acc K e x
    simp only [List.mapM_cons, Option.bind_eq_bind] at e
    cases hs : sizeT P f.type with
    | none => rw [hs] at e; cases e
    | some n =>
      rw [hs] at e
      simp only [Option.map_some, Option.bind_some] at e
      cases hr : (fs.mapM fun f => (sizeT P f.type).map fun n => (f.offset, n)) with
      | none => rw [hr] at e; cases e
      | some pl' =>
        rw [hr] at e
        simp at e
        subst e
        rw [List.foldlM_cons]
        refine wpS_bind ?_
        show wpS P (Sem.bind _ _) h _
        refine wpS_bind' ?_
        refine wpS_bind (wpS_sizeOf hs ?_)
        refine wpS_pure ?_
        refine wpS_pure ?_
        exact ih hr (by simpa using x)

theorem exd_build {t : TypeId} {parts : List (Nat × Operand)} {z : Value} {pl : List (Nat × Nat)} {cells : Array Value} {vs : List (Nat × Value)} (hz : zeroT P t = some z) (hp : placesT P t = some pl)
    (hvs : (parts.map fun (i, x) => (i, evl tm x)) = vs) (hf : Instr.fill (fun i => pl[i]?) z.cells vs = some cells) : Exd P tm ⟨d, .build t parts.toArray, ty, pos, aft, gd⟩ h (.agg cells) := by
  unfold placesT at hp
  split at hp
  · rename_i fs hu
    refine exd_of (s := Instr.build t (parts.toArray.map fun (i, x) => (i, evl tm x))) rfl ?_
    unfold Instr.build
    refine wpS_bind (wpS_zeroValue hz ?_)
    refine wpS_bind (wpS_underlying hu ?_)
    refine wpS_bind ?_
    rw [Array.mapM_eq_foldlM, ← Array.foldlM_toList]
    refine wpS_fieldsPlaces hp ?_
    simp only [Array.empty_append, List.map_toArray, hvs, List.getElem?_toArray, hf]
    exact wpS_pure ⟨rfl, rfl⟩
  · cases hp

/-- The place of a struct's field: its offset and the cells of its type (at least one). -/
def fieldT (P : Program) (s : TypeId) (i : Nat) : Option (Nat × Nat) :=
  match P.underlying s with
  | some (.struct fs) => (fs[i]?).bind fun f => (sizeT P f.type).map fun n => (f.offset, n)
  | _ => none

theorem exd_fieldAddr {s : TypeId} {x : Operand} {i o n : Nat} {a a' : Addr} (hf : fieldT P s i = some (o, n + 1)) (hx : evl tm x = .pointer (some a)) (ha : a.add o = a') :
    Exd P tm ⟨d, .fieldAddr s x i, ty, pos, aft, gd⟩ h (.pointer (some a')) := by
  unfold fieldT at hf
  split at hf
  · rename_i fs hu
    cases hi : fs[i]? with
    | none => rw [hi] at hf; cases hf
    | some fd =>
      rw [hi] at hf
      cases hs : sizeT P fd.type with
      | none => simp [hs] at hf
      | some m =>
        simp [hs] at hf
        obtain ⟨h1, rfl⟩ := hf
        refine exd_of (s := Instr.fieldAt s (.pointer (some a)) i) (by simp only [execOp, hx]) ?_
        unfold Instr.fieldAt
        refine wpS_bind (wpS_underlying hu ?_)
        simp only [hi, Instr.sureAddr]
        refine wpS_bind (wpS_pure ?_)
        refine wpS_bind ?_
        unfold fieldPlace
        refine wpS_bind (wpS_sizeOf hs ?_)
        rw [if_neg (by omega)]
        refine wpS_pure ?_
        refine wpS_pure ⟨?_, rfl⟩
        rw [h1, ha]
  · cases hf

theorem exd_indexAddr {t e : TypeId} {x y : Operand} {w n c : Nat} {k : IntKind} {i : Int} {a a' : Addr} (ht : P.underlying t = some (.slice e)) (hs : sizeT P e = some w) (hx : evl tm x = .slice (some a) n c) (hy : evl tm y = .int k i)
    (h0 : 0 ≤ i) (h1 : i < n) (ha : a.add (i.toNat * w) = a') : Exd P tm ⟨d, .indexAddr t x y, ty, pos, aft, gd⟩ h (.pointer (some a')) := by
  refine exd_of (s := Instr.indexAt t (.slice (some a) n c) (.int k i)) (by simp only [execOp, hx, hy]) ?_
  unfold Instr.indexAt
  refine wpS_bind (wpS_pure ?_)
  simp only
  refine wpS_bind (wpS_underlying ht ?_)
  simp only
  refine wpS_bind (wpS_pure ?_)
  simp only
  refine wpS_bind (wpS_underlying ht ?_)
  rw [if_pos ⟨h0, h1⟩]
  refine wpS_bind (wpS_sizeOf hs ?_)
  exact wpS_pure ⟨by rw [ha], rfl⟩

theorem exd_indexAddrN {t e : TypeId} {x y : Operand} {w n c i : Nat} {k : IntKind} {a : Addr} (ht : P.underlying t = some (.slice e)) (hs : sizeT P e = some w) (hx : evl tm x = .slice (some a) n c) (hy : evl tm y = .int k (i : Nat))
    (h1 : i < n) : Exd P tm ⟨d, .indexAddr t x y, ty, pos, aft, gd⟩ h (.pointer (some (a.add (i * w)))) :=
  exd_indexAddr ht hs hx hy (by omega) (by omega) (by rw [Int.toNat_natCast])

theorem exd_load {t : TypeId} {x : Operand} {a : Addr} {v : Value} (ht : aggT P t = some false) (hx : evl tm x = .pointer (some a)) (hc : cell? h a = some v) : Exd P tm ⟨d, .load t x, ty, pos, aft, gd⟩ h v := by
  refine exd_of (s := Instr.loadAt t (.pointer (some a))) (by simp only [execOp, hx]) ?_
  unfold Instr.loadAt
  refine wpS_bind (wpS_pure ?_)
  exact wpS_loadVar1 ht hc ⟨rfl, rfl⟩
theorem exd_loadN {t : TypeId} {x : Operand} {a : Addr} {n : Nat} {vs : List Value} (ht : aggT P t = some true) (hs : sizeT P t = some n) (hn : vs.length = n) (hx : evl tm x = .pointer (some a))
    (hc : ∀ j v, vs[j]? = some v → cell? h (a.add j) = some v) : Exd P tm ⟨d, .load t x, ty, pos, aft, gd⟩ h (.agg vs.toArray) := by
  refine exd_of (s := Instr.loadAt t (.pointer (some a))) (by simp only [execOp, hx]) ?_
  unfold Instr.loadAt
  refine wpS_bind (wpS_pure ?_)
  exact wpS_loadVarN ht hs hn hc ⟨rfl, rfl⟩

section
variable {h₀ : Heap} {B₀ : List Nat} {p : PHeap} {L : List (Nat × Obj)}

/-- Out of the call's own block number 'i'. -/
theorem exd_load_own {t : TypeId} {x : Operand} {i b off : Nat} {cs : Array Value} {T : TypeId} {z : Nat × Nat} {v : Value} (s : St h₀ B₀ p h L) (ht : aggT P t = some false) (hx : evl tm x = .pointer (some ⟨b, off, none⟩))
    (hL : L[i]? = some (b, .cells cs T z)) (hv : cs[off]? = some v) : Exd P tm ⟨d, .load t x, ty, pos, aft, gd⟩ h v :=
  exd_load ht hx (s.ocell hL hv)
theorem exd_loadN_own {t : TypeId} {x : Operand} {i b off n : Nat} {cs : Array Value} {T : TypeId} {z : Nat × Nat} {vs : List Value} (s : St h₀ B₀ p h L) (ht : aggT P t = some true) (hs : sizeT P t = some n) (hx : evl tm x = .pointer (some ⟨b, off, none⟩))
    (hL : L[i]? = some (b, .cells cs T z)) (hv : (cs.toList.drop off).take n = vs) (hn : vs.length = n) : Exd P tm ⟨d, .load t x, ty, pos, aft, gd⟩ h (.agg vs.toArray) :=
  exd_loadN ht hs hn hx fun j v hj => by
    rw [add_mk]
    refine s.ocell hL ?_
    subst hv
    rw [List.getElem?_take] at hj
    split at hj
    · rw [List.getElem?_drop] at hj; simpa using hj
    · cases hj
/-- Out of memory that lasts. -/
theorem exd_load_per {t : TypeId} {x : Operand} {a : Addr} {v : Value} (s : St h₀ B₀ p h L) (ht : aggT P t = some false) (hx : evl tm x = .pointer (some a)) (hv : pcell p a = some v) : Exd P tm ⟨d, .load t x, ty, pos, aft, gd⟩ h v :=
  exd_load ht hx (s.cell hv)
theorem exd_loadN_per {t : TypeId} {x : Operand} {a : Addr} {n : Nat} {vs : List Value} (s : St h₀ B₀ p h L) (ht : aggT P t = some true) (hs : sizeT P t = some n) (hx : evl tm x = .pointer (some a))
    (hn : vs.length = n) (hv : ∀ j v, vs[j]? = some v → pcell p (a.add j) = some v) : Exd P tm ⟨d, .load t x, ty, pos, aft, gd⟩ h (.agg vs.toArray) :=
  exd_loadN ht hs hn hx fun j v hj => s.cell (hv j v hj)

variable {md : Md} {f : FuncId} {r : Rd} {df : List Deferred} {k : List Item} {cs : List Frame} {Stop : Goroutine → Heap → Prop} {ops rest : List Oper} {tm' : List Value}

theorem wpS_newRow {T : TypeId} {cells : Array Value} {K : Addr → Heap → Prop} (x : K ⟨h.size, 0, none⟩ (h.push (.cells cells T))) : wpS P (newRow T cells) h K := by
  unfold newRow
  refine wpS_bind ?_
  exact wpS_pure (P := P) x

theorem rl_box {dd : Nat} {T : TypeId} {x : Operand} {v : Value} (hm : Met ops tm ⟨some dd, .box T x, ty, pos, aft, gd⟩ true) (hx : evl tm x = v)
    (n : ∀ b, RL P md f r df k cs Stop ops rest (tm.set dd (.pointer (some ⟨b, 0, none⟩))) (fun h => St h₀ B₀ p h ((b, .cells v.cells T (0, 0)) :: L))) :
    RL P md f r df k cs Stop ops (⟨some dd, .box T x, ty, pos, aft, gd⟩ :: rest) tm (fun h => St h₀ B₀ p h L) := by
  refine rl_step (K := fun v' h' => ∃ b, v' = .pointer (some ⟨b, 0, none⟩) ∧ St h₀ B₀ p h' ((b, .cells v.cells T (0, 0)) :: L)) hm rfl (fun h s => ?_) fun v' => rl_ex fun b => rl_and fun e => by subst e; exact n b
  unfold Ex
  simp only [execOp, hx]
  refine wpS_bind ?_
  unfold Instr.box newVar
  refine wpS_bind (wpS_newRow ?_)
  refine wpS_pure ?_
  exact wpS_pure ⟨_, rfl, _, rfl, s.push _⟩

theorem rl_alloc {dd : Nat} {T : TypeId} {z : Value} {cells : Array Value} (hm : Met ops tm ⟨some dd, .alloc T, ty, pos, aft, gd⟩ true) (hz : zeroT P T = some z) (hc : z.cells = cells)
    (n : ∀ b, RL P md f r df k cs Stop ops rest (tm.set dd (.pointer (some ⟨b, 0, none⟩))) (fun h => St h₀ B₀ p h ((b, .cells cells T (0, 0)) :: L))) :
    RL P md f r df k cs Stop ops (⟨some dd, .alloc T, ty, pos, aft, gd⟩ :: rest) tm (fun h => St h₀ B₀ p h L) := by
  refine rl_step (K := fun v' h' => ∃ b, v' = .pointer (some ⟨b, 0, none⟩) ∧ St h₀ B₀ p h' ((b, .cells cells T (0, 0)) :: L)) hm rfl (fun h s => ?_) fun v' => rl_ex fun b => rl_and fun e => by subst e; exact n b
  unfold Ex
  simp only [execOp]
  refine wpS_bind ?_
  unfold Instr.alloc
  refine wpS_bind (wpS_zeroValue hz ?_)
  simp only
  unfold newVar
  rw [hc]
  refine wpS_bind (wpS_newRow ?_)
  refine wpS_pure ?_
  exact wpS_pure ⟨_, rfl, _, rfl, s.push _⟩

theorem setIfInBounds_mk (cs : Array Value) (i : Nat) (v : Value) : cs.setIfInBounds i v = (cs.toList.set i v).toArray := by
  apply Array.ext'; simp

/-- Cells stored one behind the other. -/
def setl (cs : List Value) (off : Nat) : List Value → List Value
  | [] => cs
  | v :: vs => setl (cs.set off v) (off + 1) vs

theorem wpS_storeCells {b : Nat} {T : TypeId} {i : Nat} : ∀ {vs : List Value} {off j : Nat} {h : Heap} {cs : List Value} {L : List (Nat × Obj)} {K : Unit → Heap → Prop}, St h₀ B₀ p h L → L[i]? = some (b, .cells cs.toArray T (0, 0)) →
    off + j + vs.length ≤ cs.length → (∀ v ∈ vs, isOne v = true) →
    (∀ h', St h₀ B₀ p h' (L.set i (b, .cells (setl cs (off + j) vs).toArray T (0, 0))) → K () h') → wpS P (storeCells ⟨b, off, none⟩ vs j) h K
  | [], off, j, h, cs, L, K, s, hL, _, _, n => by
    refine wpS_pure (n h ?_)
    have : L.set i (b, .cells (setl cs (off + j) []).toArray T (0, 0)) = L := by
      refine List.ext_getElem? fun m => ?_
      rw [List.getElem?_set]
      split
      · rename_i e; subst e; rw [if_pos (List.getElem?_eq_some_iff.1 hL).1, hL]; rfl
      · rfl
    rw [this]; exact s
  | v :: vs, off, j, h, cs, L, K, s, hL, hlen, h1, n => by
    unfold storeCells
    refine wpS_bind ?_
    rw [add_mk]
    have hi : i < L.length := (List.getElem?_eq_some_iff.1 hL).1
    simp only [List.length_cons] at hlen
    refine ⟨rfl, h1 v (by simp), ⟨cs[off + j], s.ocell hL (by simp)⟩, ?_, ?_⟩
    · unfold frozenAt; rw [s.at hL]; simp
    · show wpS P (storeCells _ vs (j + 1)) _ K
      have s' := s.store (off := off + j) (v := v) hL
      rw [setIfInBounds_mk] at s'
      refine wpS_storeCells (i := i) (T := T) s' (cs := cs.set (off + j) v) (by rw [List.getElem?_set_self hi]) (by simp; omega) (fun u hu => h1 u (by simp [hu])) fun h' s'' => n h' ?_
      rw [List.set_set] at s''
      exact s''

theorem rl_store {T T' : TypeId} {x y : Operand} {i b off : Nat} {cs' cs2 : List Value} {v : Value} {nsz : Nat} (hm : Met ops tm ⟨none, .store T x y, ty, pos, aft, gd⟩ true) (hs : sizeT P T = some nsz)
    (hx : evl tm x = .pointer (some ⟨b, off, none⟩)) (hy : evl tm y = v) (hL : L[i]? = some (b, .cells cs'.toArray T' (0, 0))) (hv : v.cells.size = nsz) (h1 : v.cells.toList.all isOne = true) (hlen : off + v.cells.size ≤ cs'.length) (h2 : setl cs' off v.cells.toList = cs2)
    (n : RL P md f r df k cs Stop ops rest tm (fun h => St h₀ B₀ p h (L.set i (b, .cells cs2.toArray T' (0, 0))))) :
    RL P md f r df k cs Stop ops (⟨none, .store T x y, ty, pos, aft, gd⟩ :: rest) tm (fun h => St h₀ B₀ p h L) := by
  refine rl_unit (K := fun h' => St h₀ B₀ p h' (L.set i (b, .cells cs2.toArray T' (0, 0)))) hm rfl (fun h s => ?_) rfl n
  simp only [execOp, hx, hy]
  refine wpS_bind ?_
  unfold Instr.storeAt
  refine wpS_bind (wpS_pure ?_)
  unfold storeVar
  refine wpS_bind (wpS_sizeOf hs ?_)
  rw [if_neg (by simpa using hv)]
  refine wpS_storeCells s hL (by simpa using hlen) (fun u hu => List.all_eq_true.1 h1 u hu) fun h' s' => ?_
  refine wpS_pure ⟨rfl, ?_⟩
  rw [Nat.add_zero, h2] at s'
  exact s'
/-- What is the call's own, written otherwise. -/
theorem rl_own {L' : List (Nat × Obj)} (e : L = L') (n : RL P md f r df k cs Stop ops rest tm (fun h => St h₀ B₀ p h L')) : RL P md f r df k cs Stop ops rest tm (fun h => St h₀ B₀ p h L) := by subst e; exact n
end
end
end Go.X
namespace Go.X
open Go.Conc

def adr (a : Option Addr) : Addr := a.getD ⟨0, 0, none⟩

theorem sl_ne (a : Option Addr) (n c : Nat) (h : a = some (adr a)) : Value.slice a n c = .slice (some (adr a)) n c := by rw [← h]

/-- 'p' lies in the heap. -/
def Per (p : PHeap) (h : Heap) : Prop := ∀ b o, p b = some o → h[b]? = some o

/-- The slice value 'v' reads, in memory that lasts, as elements with just these cells (each has 'w'). -/
structure Sl (p : PHeap) (a : Option Addr) (n : Nat) (w : Nat) (es : List (List Value)) : Prop where
  len : es.length = n
  wid : ∀ e ∈ es, e.length = w
  ne : 0 < n → a = some (adr a)
  get : ∀ i e, es[i]? = some e → ∀ j x, e[j]? = some x → pcell p ((((adr a).add (i * w))).add j) = some x

theorem Sl.mono {p p' : PHeap} {a : Option Addr} {n w : Nat} {es : List (List Value)} (hp : PLe p p') (s : Sl p a n w es) : Sl p' a n w es :=
  ⟨s.len, s.wid, s.ne, fun i e hi j x hj => hp.cell (s.get i e hi j x hj)⟩

theorem Sl.nil (p : PHeap) (w : Nat) (a : Option Addr) : Sl p a 0 w [] := ⟨rfl, by simp, fun h => absurd h (by omega), by simp⟩

theorem add_add (a : Addr) (m n : Nat) : (a.add m).add n = a.add (m + n) := by
  unfold Addr.add
  by_cases hm : m = 0
  · subst hm; simp
  · by_cases hn : n = 0
    · subst hn; simp
    · rw [if_neg hm, if_neg hn, if_neg (by omega)]
      simp [Nat.add_assoc]

/-- A part of a slice. -/
theorem Sl.cut {p : PHeap} {a : Option Addr} {n w : Nat} {es : List (List Value)} (s : Sl p a n w es) {lo hi : Nat} (h1 : lo ≤ hi) (h2 : hi ≤ n) {a' : Option Addr} (ha : lo < hi → a' = some ((adr a).add (lo * w))) :
    Sl p a' (hi - lo) w ((es.drop lo).take (hi - lo)) := by
  refine ⟨by rw [List.length_take, List.length_drop, s.len]; omega, fun e he => s.wid e (List.mem_of_mem_drop (List.mem_of_mem_take he)), fun h => by rw [ha (by omega)]; rfl, ?_⟩
  intro i e hi' j x hj
  rw [List.getElem?_take] at hi'
  split at hi'
  · rename_i hlt
    rw [List.getElem?_drop] at hi'
    have := s.get _ e hi' j x hj
    rw [ha (by omega)]
    show pcell p ((((adr a).add (lo * w)).add (i * w)).add j) = _
    rw [add_add (adr a), ← Nat.add_mul]
    exact this
  · cases hi'

/-- ints. -/
def Ints (p : PHeap) (a : Option Addr) (n : Nat) (xs : List Int) : Prop := Sl p a n 1 (xs.map fun x => [.int .i64 x])

theorem Ints.len {p : PHeap} {a : Option Addr} {n : Nat} {xs : List Int} (s : Ints p a n xs) : xs.length = n := by have := Sl.len s; simpa using this
theorem Ints.mono {p p' : PHeap} {a : Option Addr} {n : Nat} {xs : List Int} (hp : PLe p p') (s : Ints p a n xs) : Ints p' a n xs := Sl.mono hp s
theorem Ints.ne {p : PHeap} {a : Option Addr} {n : Nat} {xs : List Int} (s : Ints p a n xs) (hk : 0 < n) : a = some (adr a) := Sl.ne s hk
theorem Ints.get {p : PHeap} {a : Option Addr} {n k : Nat} {xs : List Int} (s : Ints p a n xs) (hk : k < n) : pcell p ((adr a).add (k * 1)) = some (.int .i64 (xs.getD k 0)) := by
  have hl := s.len
  have := Sl.get s k [.int .i64 (xs.getD k 0)] (by rw [List.getElem?_map, List.getD_eq_getElem?_getD, List.getElem?_eq_getElem (by omega)]; rfl) 0 _ rfl
  exact this

/-! ### a slice of the call's own -/
/-- 'v' is nil and owns nothing; or it begins at the head of a block 'X' of the call's own, whose first cells are those of its elements. -/
def OwnS (T : TypeId) (w : Nat) (v : Value) (es : List (List Value)) (X : List (Nat × Obj)) : Prop :=
  (∀ e ∈ es, e.length = w) ∧
  ((v = .slice none 0 0 ∧ es = [] ∧ X = []) ∨
   ∃ b cs cap rest, v = .slice (some ⟨b, 0, none⟩) es.length cap ∧ X = [(b, .cells (List.toArray cs) T (0, 0))] ∧ cs = es.flatten ++ rest ∧ cs.length = cap * w ∧ (w = 1 → cap ≤ 9223372036854775807))

theorem OwnS.empty (T : TypeId) (w : Nat) : OwnS T w (.slice none 0 0) [] [] := ⟨by simp, .inl ⟨rfl, rfl, rfl⟩⟩

theorem flatten_length {es : List (List Value)} {w : Nat} (h : ∀ e ∈ es, e.length = w) : es.flatten.length = es.length * w := by
  induction es with
  | nil => simp
  | cons e es ih => simp only [List.flatten_cons, List.length_append, List.length_cons, ih fun x hx => h x (by simp [hx]), h e (by simp), Nat.add_mul, Nat.one_mul]; omega

/-- Element 'i', cell 'j' of what lies flat. -/
theorem flatten_get {w : Nat} : ∀ {es : List (List Value)}, (∀ e ∈ es, e.length = w) → ∀ {i : Nat} {e : List Value}, es[i]? = some e → ∀ {j : Nat} {x : Value}, e[j]? = some x → es.flatten[i * w + j]? = some x
  | [], _, i, e, hi, _, _, _ => by simp at hi
  | e₀ :: es, h, i, e, hi, j, x, hj => by
    have h0 := h e₀ (by simp)
    cases i with
    | zero =>
      simp at hi; subst hi
      rw [List.flatten_cons, Nat.zero_mul, Nat.zero_add, List.getElem?_append_left (List.getElem?_eq_some_iff.1 hj).1]
      exact hj
    | succ i =>
      simp at hi
      have := flatten_get (fun x hx => h x (by simp [hx])) hi hj
      rw [List.flatten_cons, List.getElem?_append_right (by rw [h0, Nat.succ_mul]; omega), h0, Nat.succ_mul]
      rw [show i * w + w + j - w = i * w + j from by omega]
      exact this

/-- What a call's own slice lasts as, once its block does. -/
theorem OwnS.last {h₀ h : Heap} {B₀ : List Nat} {p : PHeap} {L X : List (Nat × Obj)} {T : TypeId} {w : Nat} {v : Value} {es : List (List Value)} (o : OwnS T w v es X) (s : St h₀ B₀ p h (X ++ L)) :
    ∃ p' a cap, PLe p p' ∧ St h₀ B₀ p' h L ∧ v = .slice a es.length cap ∧ Sl p' a es.length w es ∧ (∀ b, p b = none → b < h₀.size → b ∉ B₀ → p' b = none) := by
  obtain ⟨hw, ⟨rfl, rfl, rfl⟩ | ⟨b, cs, cap, rest, rfl, rfl, hcs, hlen, _⟩⟩ := o
  · exact ⟨p, none, 0, .refl _, s, rfl, .nil _ _ _, fun b hb _ _ => hb⟩
  · have hb := s.own (b, .cells cs.toArray T (0, 0)) (by simp)
    obtain ⟨hle, s'⟩ := s.last
    refine ⟨_, some ⟨b, 0, none⟩, cap, hle, s', rfl, ⟨rfl, hw, fun _ => rfl, ?_⟩, ?_⟩
    · intro i e hi j x hj
      show pcell _ (((⟨b, 0, none⟩ : Addr).add (i * w)).add j) = _
      rw [add_mk, add_mk]
      unfold pcell
      simp only [padd_self, Option.isSome_none, Bool.false_eq_true, if_false, List.getElem?_toArray, Nat.zero_add]
      rw [hcs, List.getElem?_append_left]
      · exact flatten_get hw hi hj
      · exact (List.getElem?_eq_some_iff.1 (flatten_get hw hi hj)).1
    · intro c hc hlt hn
      unfold padd
      rw [if_neg]
      · exact hc
      · intro e; subst e
        rcases hb.2.2 with x | x
        · exact absurd hlt (by omega)
        · exact hn x

section
variable {P : Program} {h₀ h : Heap} {B₀ : List Nat} {p : PHeap} {A X C : List (Nat × Obj)}

theorem next_le {need cap by' : Nat} (hc : cap < need) (hn : need * by' ≤ 2 ^ 40) (hb : by' ≤ 2 ^ 20) : Builtin.nextslicecap need cap * by' ≤ 2 ^ 48 := by
  have g : ∀ r c, c ≤ need → Builtin.growBy need r c ≤ 2 * need + 192 * 1 + 192 := by
    intro r
    induction r with
    | zero => intro c hc; simp only [Builtin.growBy]; omega
    | succ r ih =>
      intro c hc
      simp only [Builtin.growBy]
      split
      · omega
      · rename_i hlt
        by_cases h2 : c + (c + 768) / 4 ≤ need
        · exact ih _ h2
        · cases r with
          | zero => simp only [Builtin.growBy]; omega
          | succ r => simp only [Builtin.growBy]; rw [if_pos (by omega)]; omega
  have h1 : Builtin.nextslicecap need cap ≤ 2 * need + 384 := by
    unfold Builtin.nextslicecap
    split
    · omega
    · split
      · omega
      · have := g 4 cap (by omega); omega
  calc Builtin.nextslicecap need cap * by' ≤ (2 * need + 384) * by' := Nat.mul_le_mul_right _ h1
    _ = 2 * (need * by') + 384 * by' := by rw [Nat.add_mul, Nat.mul_assoc]
    _ ≤ 2 ^ 48 := by omega

theorem zeroCells_toList (z : Array Value) (n : Nat) : (Builtin.zeroCells z n).toList.length = n * z.size := by simp [Builtin.zeroCells]

theorem setl_append : ∀ {vs : List Value} {a r : List Value}, vs.length ≤ r.length → setl (a ++ r) a.length vs = a ++ (vs ++ r.drop vs.length)
  | [], a, r, _ => by simp [setl]
  | v :: vs, a, r, hl => by
    match r, hl with
    | x :: r, hl =>
      simp only [setl]
      rw [List.set_append_right _ _ (Nat.le_refl _), Nat.sub_self, List.set_cons_zero]
      have := setl_append (vs := vs) (a := a ++ [v]) (r := r) (by simpa using hl)
      simp only [List.length_append, List.length_singleton, List.append_assoc, List.singleton_append] at this
      rw [this]; simp

/-- APPEND TO A SLICE OF THE CALL's OWN (or to nil): it is the call's own again, and reads as both. -/
theorem wpS_appendG {sT xT eT ty : TypeId} {D : TypeDesc} {w m by' : Nat} {v x z : Value} {es news : List (List Value)} {K : Value → Heap → Prop} (hT : P.underlying sT = some (.slice eT)) (hs : sizeT P eT = some w) (hz : zeroT P eT = some z) (hzs : z.cells.size = w)
    (hby : bytesT P eT = some by') (hx : P.underlying xT = some D) (hD : ∀ k, D ≠ .int k) (o : OwnS eT w v es X) (s : St h₀ B₀ p h (A ++ (X ++ C)))
    (hlen : ∀ K : Nat → Heap → Prop, K m h → wpS P (Builtin.lenOf x) h K) (hsrc : ∀ K : Array Value → Heap → Prop, K news.flatten.toArray h → wpS P (Builtin.firstCells w m x) h K)
    (hm : news.length = m) (hw : ∀ e ∈ news, e.length = w) (h1 : ∀ u ∈ news.flatten, isOne u = true) (room : (es.length + m) * by' ≤ 2 ^ 40) (hb2 : 0 < by' ∧ by' ≤ 2 ^ 20)
    (n : ∀ v' X' h', OwnS eT w v' (es ++ news) X' → St h₀ B₀ p h' (A ++ (X' ++ C)) → K v' h') : wpS P (Builtin.append_ #[sT, xT] ty #[v, x]) h K := by
  have hinfo : ∃ i, P.info? eT = some i ∧ i.bytes = by' := by
    unfold bytesT at hby
    cases hi : P.info? eT with
    | none => rw [hi] at hby; cases hby
    | some i => rw [hi] at hby; exact ⟨i, rfl, by simpa using hby⟩
  obtain ⟨i, hi, hib⟩ := hinfo
  have hnf := flatten_length hw
  have hwe := o.1
  have hfl : es.flatten.length = es.length * w := flatten_length hwe
  have hwall : ∀ e ∈ es ++ news, e.length = w := fun e he => (List.mem_append.1 he).elim (o.1 e) (hw e)
  have hneed : es.length + m ≤ 2 ^ 40 := Nat.le_trans (Nat.le_mul_of_pos_right _ hb2.1) room
  have base : ∃ base cap, v = .slice base es.length cap ∧ (∀ K : Array Value → Heap → Prop, K es.flatten.toArray h → wpS P (Builtin.firstCells w es.length v) h K) ∧
      ((base = none ∧ es = [] ∧ X = [] ∧ cap = 0) ∨ ∃ b cs rest, base = some ⟨b, 0, none⟩ ∧ X = [(b, .cells (List.toArray cs) eT (0, 0))] ∧ cs = es.flatten ++ rest ∧ cs.length = cap * w ∧ (w = 1 → cap ≤ 9223372036854775807)) := by
    obtain ⟨_, ⟨rfl, rfl, rfl⟩ | ⟨b, cs, cap, rest, rfl, rfl, hcs, hcl, hcc⟩⟩ := o
    · exact ⟨none, 0, rfl, fun K hK => wpS_pure hK, .inl ⟨rfl, rfl, rfl, rfl⟩⟩
    · refine ⟨_, cap, rfl, fun K hK => ?_, .inr ⟨b, cs, rest, rfl, rfl, hcs, hcl, hcc⟩⟩
      have hL : (A ++ ([(b, Obj.cells (List.toArray cs) eT (0, 0))] ++ C))[A.length]? = some (b, .cells (List.toArray cs) eT (0, 0)) := by
        rw [List.getElem?_append_right (Nat.le_refl _)]; simp
      show wpS P (loadCells ⟨b, 0, none⟩ (es.length * w)) h K
      refine wpS_loadCells hfl (fun j u hj => ?_) hK
      rw [add_mk]
      refine s.ocell hL ?_
      rw [List.getElem?_toArray, hcs, Nat.zero_add, List.getElem?_append_left (List.getElem?_eq_some_iff.1 hj).1]
      exact hj
  obtain ⟨base, cap, rfl, hold, hbase⟩ := base
  unfold Builtin.append_
  simp only [List.getElem?_toArray, List.getElem?_cons_zero, List.getElem?_cons_succ]
  refine wpS_bind (wpS_underlying hT ?_)
  simp only
  refine wpS_bind (wpS_sizeOf hs ?_)
  refine wpS_bind (wpS_underlying hx ?_)
  refine wpS_bind (wpS_mono (K := fun zr h' => zr = false ∧ h' = h) (wpS_pure ⟨by cases D <;> first | rfl | exact absurd rfl (hD _), rfl⟩) fun zr h' ⟨ez, eh⟩ => ?_)
  subst ez
  have eh := eh.symm
  subst eh
  simp only [Bool.false_eq_true, if_false, Bool.not_false, if_true]
  refine wpS_bind (hlen _ ?_)
  by_cases hc : es.length + m ≤ cap
  · rw [if_pos hc]
    refine wpS_bind (hsrc _ ?_)
    rcases hbase with ⟨rfl, rfl, rfl, rfl⟩ | ⟨b, cs, rest, rfl, rfl, hcs, hcl, hcc⟩
    · have hm0 : m = 0 := by simp at hc; exact hc
      have : news = [] := List.eq_nil_of_length_eq_zero (by omega)
      subst this
      subst hm0
      exact wpS_pure (n _ [] h (OwnS.empty _ _) s)
    · have hL : (A ++ ([(b, Obj.cells (List.toArray cs) eT (0, 0))] ++ C))[A.length]? = some (b, .cells (List.toArray cs) eT (0, 0)) := by
        rw [List.getElem?_append_right (Nat.le_refl _)]; simp
      refine wpS_bind ?_
      rw [add_mk]
      have hmul : (es.length + m) * w ≤ cap * w := Nat.mul_le_mul_right _ hc
      rw [Nat.add_mul] at hmul
      have hrl : rest.length = cap * w - es.length * w := by
        have : cs.length = es.flatten.length + rest.length := by rw [hcs]; simp
        omega
      refine wpS_storeCells (i := A.length) s hL (by simp only [Nat.zero_add, Nat.add_zero, hnf, hm, hcl]; omega) h1 fun h' s' => ?_
      refine wpS_pure (n _ [(b, .cells (List.toArray (setl cs (0 + es.length * w + 0) news.flatten)) eT (0, 0))] h' ⟨hwall, .inr ⟨b, _, cap, rest.drop news.flatten.length, ?_, rfl, ?_, ?_, hcc⟩⟩ ?_)
      · simp [hm]
      · rw [Nat.zero_add, Nat.add_zero, hcs, ← hfl, setl_append (by rw [hnf, hm]; omega)]
        simp
      · rw [Nat.zero_add, Nat.add_zero, hcs, ← hfl, setl_append (by rw [hnf, hm]; omega)]
        simp only [List.length_append, List.length_drop, hfl, hnf, hm, hrl]
        omega
      · have e2 : (A ++ ([(b, Obj.cells (List.toArray cs) eT (0, 0))] ++ C)).set A.length (b, .cells (List.toArray (setl cs (0 + es.length * w + 0) news.flatten)) eT (0, 0)) = A ++ ([(b, .cells (List.toArray (setl cs (0 + es.length * w + 0) news.flatten)) eT (0, 0))] ++ C) := by
          rw [List.set_append_right _ _ (Nat.le_refl _)]; simp
        rw [e2] at s'
        exact s'
  · rw [if_neg hc]
    refine wpS_bind (wpS_typeInfo hi ?_)
    rw [if_neg (by
      intro hh
      have : (IntKind.i64.max : Int) = 9223372036854775807 := by decide
      rw [this] at hh
      omega)]
    refine wpS_bind (wpS_typeInfo hi ?_)
    rw [hib, if_neg (by have := next_le (by' := by') (by omega : cap < es.length + m) room hb2.2; omega)]
    refine wpS_bind ?_
    show wpS P (choose _) h _
    simp only [choose, wpS, Question.forced, Bool.false_eq_true, if_false, Question.cut]
    intro t
    generalize hnc : es.length + m + t % (2 ^ 63 - (es.length + m)) = nc
    have hnc' : es.length + m ≤ nc := by omega
    have hncl : nc ≤ 9223372036854775807 := by
      have : t % (2 ^ 63 - (es.length + m)) < 2 ^ 63 - (es.length + m) := Nat.mod_lt _ (by omega)
      omega
    refine wpS_bind (wpS_typeInfo hi ?_)
    refine wpS_bind ?_
    have ask : ∀ (b : Nat) (K : Unit → Heap → Prop), K () h → wpS P (askRoom b) h K := by
      intro b K hK
      unfold askRoom
      split
      · exact ⟨rfl, hK⟩
      · exact wpS_pure hK
    refine ask _ _ ?_
    refine wpS_bind (hold _ ?_)
    refine wpS_bind (hsrc _ ?_)
    refine wpS_bind (wpS_zeroValue hz ?_)
    refine wpS_bind (wpS_newRow ?_)
    refine wpS_pure (n _ [(h.size, .cells (List.toArray (es.flatten ++ news.flatten ++ (Builtin.zeroCells z.cells (nc - (es.length + m))).toList)) eT (0, 0))] _ ⟨hwall, .inr ⟨h.size, _, nc, (Builtin.zeroCells z.cells (nc - (es.length + m))).toList, ?_, rfl, by simp, ?_, fun _ => hncl⟩⟩ ?_)
    · simp [hm]
    · simp only [List.length_append, flatten_length o.1, hnf, hm, zeroCells_toList, hzs]
      rw [← Nat.add_mul, ← Nat.add_mul]; congr 1; omega
    · have s1 := s.push (.cells (List.toArray (es.flatten ++ news.flatten ++ (Builtin.zeroCells z.cells (nc - (es.length + m))).toList)) eT (0, 0))
      have s2 := s1.sub (L' := (h.size, .cells (List.toArray (es.flatten ++ news.flatten ++ (Builtin.zeroCells z.cells (nc - (es.length + m))).toList)) eT (0, 0)) :: (A ++ C)) (by
        refine List.Sublist.cons_cons _ ?_
        exact (List.Sublist.refl A).append (List.sublist_append_right X C))
      have s3 := s2.perm (L' := A ++ ([(h.size, .cells (List.toArray (es.flatten ++ news.flatten ++ (Builtin.zeroCells z.cells (nc - (es.length + m))).toList)) eT (0, 0))] ++ C)) (by
        simpa using (List.perm_middle (l₁ := A) (l₂ := C)).symm)
      have e1 : (List.toArray es.flatten ++ List.toArray news.flatten ++ Builtin.zeroCells z.cells (nc - (es.length + m))) = List.toArray (es.flatten ++ news.flatten ++ (Builtin.zeroCells z.cells (nc - (es.length + m))).toList) := by
        apply Array.ext'; simp
      rw [e1]; exact s3

/-- What is appended: a value of 'm' elements whose cells are 'news'. -/
structure Src (P : Program) (h : Heap) (w m : Nat) (x : Value) (news : List (List Value)) : Prop where
  lenOf : ∀ K : Nat → Heap → Prop, K m h → wpS P (Builtin.lenOf x) h K
  cells : ∀ K : Array Value → Heap → Prop, K news.flatten.toArray h → wpS P (Builtin.firstCells w m x) h K
  len : news.length = m
  wid : ∀ e ∈ news, e.length = w

theorem wpS_append {sT xT eT eX ty : TypeId} {w m by' : Nat} {v x z : Value} {es news : List (List Value)} {K : Value → Heap → Prop} (hT : P.underlying sT = some (.slice eT)) (hs : sizeT P eT = some w) (hz : zeroT P eT = some z) (hzs : z.cells.size = w)
    (hby : bytesT P eT = some by') (hx : P.underlying xT = some (.slice eX)) (o : OwnS eT w v es X) (s : St h₀ B₀ p h (A ++ (X ++ C)))
    (hlen : ∀ K : Nat → Heap → Prop, K m h → wpS P (Builtin.lenOf x) h K) (hsrc : ∀ K : Array Value → Heap → Prop, K news.flatten.toArray h → wpS P (Builtin.firstCells w m x) h K)
    (hm : news.length = m) (hw : ∀ e ∈ news, e.length = w) (h1 : ∀ u ∈ news.flatten, isOne u = true) (room : (es.length + m) * by' ≤ 2 ^ 40) (hb2 : 0 < by' ∧ by' ≤ 2 ^ 20)
    (n : ∀ v' X' h', OwnS eT w v' (es ++ news) X' → St h₀ B₀ p h' (A ++ (X' ++ C)) → K v' h') : wpS P (Builtin.append_ #[sT, xT] ty #[v, x]) h K :=
  wpS_appendG hT hs hz hzs hby hx (fun _ e => by cases e) o s hlen hsrc hm hw h1 room hb2 n

theorem flatten_at {w : Nat} (hw0 : 0 < w) : ∀ {es : List (List Value)}, (∀ e ∈ es, e.length = w) → ∀ {j : Nat} {x : Value}, es.flatten[j]? = some x → ∃ e, es[j / w]? = some e ∧ e[j % w]? = some x
  | [], _, j, x, hj => by simp at hj
  | e :: es, h, j, x, hj => by
    have h0 := h e (by simp)
    rw [List.flatten_cons] at hj
    by_cases hlt : j < w
    · rw [List.getElem?_append_left (by omega)] at hj
      exact ⟨e, by rw [Nat.div_eq_of_lt hlt]; rfl, by rw [Nat.mod_eq_of_lt hlt]; exact hj⟩
    · rw [List.getElem?_append_right (by omega), h0] at hj
      obtain ⟨e', h1, h2⟩ := flatten_at hw0 (fun x hx => h x (by simp [hx])) hj
      refine ⟨e', ?_, ?_⟩
      · rw [show j / w = (j - w) / w + 1 from by
          rw [← Nat.add_div_right _ hw0]; congr 1; omega]
        simpa using h1
      · rw [show j % w = (j - w) % w from by
          rw [← Nat.add_mod_right (j - w)]; congr 1; omega]
        exact h2

/-- A slice that lasts. -/
theorem src_per {a : Option Addr} {m cap w : Nat} {news : List (List Value)} (s : St h₀ B₀ p h C) (hw0 : 0 < w) (d : Sl p a m w news) : Src P h w m (.slice a m cap) news := by
  refine ⟨fun K hK => wpS_pure hK, fun K hK => ?_, d.len, d.wid⟩
  by_cases h0 : m = 0
  · subst h0
    have : news = [] := List.eq_nil_of_length_eq_zero d.len
    subst this
    cases a with
    | none => exact wpS_pure hK
    | some a =>
      show wpS P (loadCells a (0 * w)) h K
      exact wpS_loadCells (vs := []) (by simp) (by simp) hK
  · rw [d.ne (by omega)]
    show wpS P (loadCells (adr a) (m * w)) h K
    refine wpS_loadCells (by rw [flatten_length d.wid, d.len]) (fun j u hj => ?_) hK
    obtain ⟨e, h1, h2⟩ := flatten_at hw0 d.wid hj
    have := s.cell (d.get _ e h1 _ u h2)
    rw [add_add] at this
    rwa [show j / w * w + j % w = j from by rw [Nat.mul_comm]; exact Nat.div_add_mod j w] at this

theorem src_nil {w : Nat} : Src P h w 0 (.slice none 0 0) [] := ⟨fun K hK => wpS_pure hK, fun K hK => wpS_pure hK, rfl, by simp⟩

section
variable {md : Md} {f : FuncId} {r : Rd} {df : List Deferred} {k : List Item} {cs : List Frame} {Stop : Goroutine → Heap → Prop} {ops rest : List Oper} {tm : List Value}
  {ty : TypeId} {pos : String} {aft : Array Edge} {gd : Option (Nat × Bool)}

/-- Bytes as the elements of a slice. -/
def bcs (l : List UInt8) : List (List Value) := l.map fun x => [.int .u8 ((x.toNat : Nat) : Int)]
theorem bcs_length (l : List UInt8) : (bcs l).length = l.length := by simp [bcs]
theorem bcs_append (l m : List UInt8) : bcs (l ++ m) = bcs l ++ bcs m := by simp [bcs]
/-- append(buf, string...) -/
theorem rl_appendStr {dd : Nat} {sT xT eT : TypeId} {by' : Nat} {xo yo : Operand} {v z : Value} {t : ByteArray} {es : List (List Value)} (A : List (Nat × Obj)) (hm : Met ops tm ⟨some dd, .call ⟨.builtin .append, #[xo, yo], #[sT, xT]⟩, ty, pos, aft, gd⟩ true)
    (hT : P.underlying sT = some (.slice eT)) (hs : sizeT P eT = some 1) (hz : zeroT P eT = some z) (hzs : z.cells.size = 1) (hby : bytesT P eT = some by') (hx : P.underlying xT = some .string)
    (ev1 : evl tm xo = v) (ev2 : evl tm yo = .string t) (o : OwnS eT 1 v es X)
    (room : (es.length + t.size) * by' ≤ 2 ^ 40) (hb2 : 0 < by' ∧ by' ≤ 2 ^ 20)
    (n : ∀ v' X', OwnS eT 1 v' (es ++ bcs t.data.toList) X' → RL P md f r df k cs Stop ops rest (tm.set dd v') (fun h => St h₀ B₀ p h (A ++ (X' ++ C)))) :
    RL P md f r df k cs Stop ops (⟨some dd, .call ⟨.builtin .append, #[xo, yo], #[sT, xT]⟩, ty, pos, aft, gd⟩ :: rest) tm (fun h => St h₀ B₀ p h (A ++ (X ++ C))) := by
  refine rl_step (K := fun v' h' => ∃ X', OwnS eT 1 v' (es ++ bcs t.data.toList) X' ∧ St h₀ B₀ p h' (A ++ (X' ++ C))) hm rfl (fun h s => ?_) fun v' => rl_ex fun X' => rl_and fun o' => n v' X' o'
  unfold Ex
  simp only [execOp, resolve]
  refine wpS_bind (wpS_pure ?_)
  simp only [invoke, builtin]
  refine wpS_bind ?_
  have e : (#[xo, yo] : Array Operand).map (evl tm) = #[v, .string t] := by simp [ev1, ev2]
  rw [e]
  have hl : t.data.toList.length = t.size := by rw [Array.length_toList]; rfl
  refine wpS_appendG (m := t.size) (news := bcs t.data.toList) hT hs hz hzs hby hx (fun _ e => by cases e) o s (fun K k => wpS_pure k) (fun K k => ?_) ((bcs_length _).trans hl) (fun e he => ?_) (fun u hu => ?_) room hb2 fun v' X' h' o' s' => ?_
  · have e2 : ((t.extract 0 t.size).data.map fun b => Value.int .u8 ((b.toNat : Nat) : Int)) = (bcs t.data.toList).flatten.toArray := by
      have e3 : ∀ l : List UInt8, (l.map fun b => [Value.int .u8 ((b.toNat : Nat) : Int)]).flatten = l.map fun b => Value.int .u8 ((b.toNat : Nat) : Int) := fun l => by induction l with
        | nil => rfl
        | cons a l ih => simp [ih]
      rw [bcs, e3]
      have e4 : t.extract 0 t.size = t := by simp
      rw [e4]
      apply Array.ext'
      simp
    show wpS P (pure _) h K
    rw [e2]
    exact wpS_pure k
  · obtain ⟨b, _, rfl⟩ := List.mem_map.1 he
    rfl
  · obtain ⟨e, he, hu⟩ := List.mem_flatten.1 hu
    obtain ⟨b, _, rfl⟩ := List.mem_map.1 he
    rw [List.mem_singleton.1 hu]
    rfl
  · exact wpS_pure ⟨v', rfl, X', o', s'⟩

end
end
end Go.X
namespace Go.X
open Go.Conc Go.RowKit Go.ChangeShapes Go.WideShapes Go.ChangeAt

/-- Memory as the call finds it. -/
def vwP (W : World) : PHeap := fun b => (nilV W.heap)[b]?
theorem mapM_get {f : Nat → Option Value} : ∀ {l : List Nat} {r : List Value}, l.mapM f = some r → r.length = l.length ∧ ∀ (j : Nat) (x : Value), r[j]? = some x → ∃ i, l[j]? = some i ∧ f i = some x
  | [], r, h => by simp at h; subst h; simp
  | i :: l, r, h => by
    simp only [List.mapM_cons, Option.bind_eq_bind, Option.bind_eq_some_iff] at h
    obtain ⟨y, hy, ys, hys, e⟩ := h
    obtain rfl : y :: ys = r := by simpa using e
    obtain ⟨h1, h2⟩ := mapM_get hys
    refine ⟨by simp [h1], fun j x hx => ?_⟩
    cases j with
    | zero => simp at hx; subst hx; exact ⟨i, rfl, hy⟩
    | succ j => exact h2 j x (by simpa using hx)

theorem cells_get {W : World} {a : Addr} {n : Nat} {cs : List Value} (h : W.cells? 0 a n = some cs) : cs.length = n ∧ ∀ (j : Nat) (x : Value), cs[j]? = some x → W.cell? (a.add j) = some x := by
  unfold World.cells? at h
  rw [if_pos (Nat.zero_le _)] at h
  obtain ⟨h1, h2⟩ := mapM_get h
  refine ⟨by simpa using h1, fun j x hx => ?_⟩
  obtain ⟨i, hi, hf⟩ := h2 j x hx
  obtain ⟨_, rfl⟩ : j < n ∧ j = i := by simpa [List.getElem?_range'] using List.getElem?_eq_some_iff.1 hi
  exact hf

theorem sl_nil (p : PHeap) (w : Nat) : Sl p none 0 w [] := ⟨rfl, by simp, fun h => absurd h (by omega), fun i e he => by simp at he⟩

section
variable {H : Type} {enc : TypeId × Value → H} {P : Program} {W : World}
theorem trodAll_below (hl : laidOutB P = true) {W' : World} (hB : Below W.heap.size W W') : ∀ {ts : List TypeId} {vs : List Value} {ds : List (DataW H)} {ps : List MemPlace}, (∀ t ∈ ts, P.readableRec t = true ∧ t < P.types.size) → (∀ x ∈ ps, x.block < W.heap.size) →
    DataW.TrodAll enc P W 0 (fun _ => true) true ts vs ds ps → DataW.TrodAll enc P W' 0 (fun b => decide (b < W.heap.size)) true ts vs ds ps
  | [], [], [], _, _, _, h => h
  | _ :: _, [], _, _, _, _, h => by cases h
  | [], _ :: _, _, _, _, _, h => by cases h
  | [], [], _ :: _, _, _, _, h => by cases h
  | _ :: _, _ :: _, [], _, _, _, h => by cases h
  | t :: ts, v :: vs, d :: ds, ps, hr, hlt, ⟨p, q, h1, h2, e⟩ => by
    subst e
    exact ⟨p, q, Below.trod hl (hr t (by simp)).1 (hr t (by simp)).2 h1 hB (fun x hx => hlt x (by simp [hx])), trodAll_below hl hB (fun t' ht' => hr t' (by simp [ht'])) (fun x hx => hlt x (by simp [hx])) h2, rfl⟩

/-- A law's row: it returned true, and all old memory stands. -/
theorem law_post {fn : Func} {s : ChangeSpec} {W' : World} {args : Array Value} {ds gs : List (DataW H)} {before : List MemPlace} {fresh handsOn : Bool} {tb : TypeId} (hl : laidOutB P = true) (hvars : s.vars = [])
    (hts : ∀ t ∈ fn.params.toList, P.readableRec t = true ∧ t < P.types.size) (hrt : fn.resultTypes = #[tb]) (hub : P.underlying tb = some .bool) (hW : DataW.Whole enc P fn.params.toList s.vars false W args.toList ds gs before)
    (hs : s.fn H (ds ++ gs) = { results := [.lit (.bool true)], args := ds }) (hB : Below W.heap.size W W') : s.post enc P fn false fresh handsOn false W args (.bool true) W' := by
  have hW' := hW
  obtain ⟨p, q, hA, hV, rfl, _, _⟩ := hW
  rw [hvars] at hV
  obtain rfl : q = [] := by
    cases gs with
    | nil => exact hV
    | cons _ _ => exact hV.elim
  refine ⟨ds, gs, p ++ [], [], p, [], hW', ?_, ?_, ?_, hB.frame _, fun h => by cases h⟩
  · rw [hs, hrt]
    exact ⟨[], [], ⟨1, by simp [DataW.trod, hub, Value.cells]⟩, rfl, rfl⟩
  · rw [hs]
    exact trodAll_below hl hB hts (fun x hx => hW'.lt x (by simp [hx])) hA
  · rw [hs, hvars]; rfl
end
end Go.X
namespace Go.X
open Go.Conc

/-- The numbers of the operations behind which 'o' comes. -/
def preds (o : Oper) : List Nat := (o.after.toList.filter (Region.binds .any)).map (·.on)

/-- The temporaries that 'o' looks at, its guard's among them. -/
def looks (ops : List Oper) (o : Oper) : List Tmp :=
  o.op.operands.toList.filterMap (fun | .tmp t => some t | _ => none) ++ (match o.guard with | some (j, _) => ((ops[j]?).bind (·.dst)).toList | none => [])

def noSel : Op → Bool
  | .select .. => false
  | _ => true

/-- Does 'o' come behind 'j', by 'cl' (behind whom each comes)? -/
def behind (cl : List (List Nat)) (o : Oper) (j : Nat) : Bool := (preds o).contains j || (preds o).any fun k => (cl.getD k []).contains j

/-- Operations 'm' and on come last, in the text's order; those ahead of them write each a temporary of its own, and look at none of each other's but behind it. -/
def stable (ops : List Oper) (m : Nat) (cl : List (List Nat)) : Bool :=
  (ops.zipIdx.all fun (o, i) =>
    (preds o).all (· < i) && (cl.getD i []).all (fun j => decide (j < i) && behind cl o j) &&
    (if m ≤ i then (List.range i).all fun j => behind cl o j else
      noSel o.op && ops.zipIdx.all fun (o', j) => !decide (j < m) || (match o'.dst with
        | some d => (decide (i = j) || decide (o.dst ≠ some d)) && (!(looks ops o).contains d || (preds o).contains j)
        | none => true)))

theorem mem_preds {o : Oper} {j : Nat} : j ∈ preds o ↔ ∃ e ∈ o.after, Region.binds .any e = true ∧ e.on = j := by
  unfold preds
  simp only [List.mem_map, List.mem_filter, Array.mem_toList_iff]
  constructor
  · rintro ⟨e, ⟨h1, h2⟩, h3⟩; exact ⟨e, h1, h2, h3⟩
  · rintro ⟨e, h1, h2, h3⟩; exact ⟨e, ⟨h1, h2⟩, h3⟩

section
variable {ops : List Oper} {m : Nat} {cl : List (List Nat)}

theorem stable_at (hs : stable ops m cl = true) {i : Nat} {o : Oper} (ho : ops[i]? = some o) :
    (∀ j ∈ preds o, j < i) ∧ (m ≤ i → ∀ j < i, behind cl o j = true) ∧
    (i < m → noSel o.op = true ∧ ∀ (j : Nat) (o' : Oper) (d : Nat), j < m → ops[j]? = some o' → o'.dst = some d → (i = j ∨ o.dst ≠ some d) ∧ (d ∈ looks ops o → j ∈ preds o)) := by
  unfold stable at hs
  rw [List.all_eq_true] at hs
  have hmem : (o, i) ∈ ops.zipIdx := by rw [List.mem_zipIdx_iff_getElem?]; exact ho
  have h := hs (o, i) hmem
  simp only [Bool.and_eq_true, List.all_eq_true, decide_eq_true_eq] at h
  refine ⟨h.1.1, fun hm => ?_, fun hm => ?_⟩
  · rw [if_pos hm] at h
    intro j hj
    exact List.all_eq_true.1 h.2 j (List.mem_range.2 hj)
  · rw [if_neg (by omega)] at h
    have h2 := h.2
    rw [Bool.and_eq_true] at h2
    refine ⟨h2.1, fun j o' d hj ho' hd => ?_⟩
    have hmem' : (o', j) ∈ ops.zipIdx := by rw [List.mem_zipIdx_iff_getElem?]; exact ho'
    have h3 := List.all_eq_true.1 h2.2 (o', j) hmem'
    simp only [hd, hj, decide_true, Bool.not_true, Bool.false_or, Bool.and_eq_true, Bool.or_eq_true, decide_eq_true_eq, Bool.not_eq_true', List.contains_eq_mem, decide_eq_false_iff_not] at h3
    refine ⟨h3.1, fun hl => ?_⟩
    rcases h3.2 with x | x
    · exact absurd hl (by simpa using x)
    · simpa using x

theorem stable_cl (hs : stable ops m cl = true) {i j : Nat} {o : Oper} (ho : ops[i]? = some o) (hj : j ∈ cl.getD i []) : j < i ∧ behind cl o j = true := by
  unfold stable at hs
  rw [List.all_eq_true] at hs
  have hmem : (o, i) ∈ ops.zipIdx := by rw [List.mem_zipIdx_iff_getElem?]; exact ho
  have h := hs (o, i) hmem
  simp only [Bool.and_eq_true, List.all_eq_true, decide_eq_true_eq] at h
  exact h.1.2 j hj

theorem behind_iff {o : Oper} {j : Nat} : behind cl o j = true ↔ j ∈ preds o ∨ ∃ k ∈ preds o, j ∈ cl.getD k [] := by
  unfold behind
  simp only [Bool.or_eq_true, List.any_eq_true, List.contains_iff_mem]

/-- What is listed is closed. -/
theorem behind_listed (hs : stable ops m cl = true) {l : Array Bool} (hsz : l.size = ops.length) (hl : ∀ (j : Nat) (o : Oper), l.getD j false = true → ops[j]? = some o → ∀ x ∈ preds o, l.getD x false = true) :
    ∀ (n : Nat) (o : Oper) (j : Nat), (∀ x ∈ preds o, x < n ∧ l.getD x false = true) → behind cl o j = true → l.getD j false = true := by
  intro n
  induction n with
  | zero =>
    intro o j hp hb
    rcases behind_iff.1 hb with h | ⟨k, h, _⟩
    · exact (hp j h).2
    · exact absurd (hp k h).1 (by omega)
  | succ n ih =>
    intro o j hp hb
    rcases behind_iff.1 hb with h | ⟨k, h, h2⟩
    · exact (hp j h).2
    · obtain ⟨hk, hkl⟩ := hp k h
      have hk2 : k < ops.length := by
        rcases Nat.lt_or_ge k l.size with h | h
        · omega
        · simp [Array.getD, Nat.not_lt.2 h] at hkl
      have ho := List.getElem?_eq_getElem hk2
      exact ih ops[k] j (fun x hx => ⟨Nat.lt_of_lt_of_le ((stable_at hs ho).1 x hx) (by omega), hl k _ hkl ho x hx⟩) (stable_cl hs ho h2).2

/-- 's' brings what is ahead of the tail and not yet listed, each behind what it must come behind. -/
inductive Ord (ops : List Oper) (m : Nat) : Array Bool → List Nat → Prop
  | nil {l : Array Bool} (h : ∀ j < m, l.getD j false = true) : Ord ops m l []
  | cons {l : Array Bool} {i : Nat} {s : List Nat} {o : Oper} (hi : i < m) (ho : ops[i]? = some o) (hn : l.getD i true = false) (hp : ∀ j ∈ preds o, l.getD j false = true) (hs : Ord ops m (l.setIfInBounds i true) s) : Ord ops m l (i :: s)

theorem getD_lt {l : Array Bool} {i : Nat} (hi : i < l.size) : l.getD i true = l.getD i false := by simp [Array.getD, hi]

theorem ready_iff {l : Array Bool} {i : Nat} : i ∈ Region.ready .any ops.toArray l ↔ l.getD i true = false ∧ ∃ o, ops[i]? = some o ∧ ∀ j ∈ preds o, l.getD j false = true := by
  rw [mem_ready]
  constructor
  · rintro ⟨h1, o, h2, h3⟩
    refine ⟨h1, o, by simpa using h2, fun j hj => ?_⟩
    obtain ⟨e, he, hb, rfl⟩ := mem_preds.1 hj
    exact h3 e he hb
  · rintro ⟨h1, o, h2, h3⟩
    exact ⟨h1, o, by simpa using h2, fun e he hb => h3 _ (mem_preds.2 ⟨e, he, hb, rfl⟩)⟩

theorem go_succ (fuel t : Nat) (l : Array Bool) : Region.linearise.go .any ops.toArray (fuel + 1) t l [] = (match (Region.ready .any ops.toArray l)[t % (Region.ready .any ops.toArray l).length]? with
      | some i => i :: Region.linearise.go .any ops.toArray fuel (t / (Region.ready .any ops.toArray l).length) (l.setIfInBounds i true) []
      | none => []) := by
  simp only [Region.linearise.go]
  change (match (Region.ready .any ops.toArray l)[t % (Region.ready .any ops.toArray l).length]? with
      | some i => Region.linearise.go .any ops.toArray fuel (t / (Region.ready .any ops.toArray l).length) (l.setIfInBounds i true) [i]
      | none => [].reverse) = _
  split
  · rw [linearise_go_acc]; simp
  · rfl

/-- how many are not listed yet -/
def openN (l : Array Bool) (n : Nat) : Nat := (List.range n).countP fun i => !l.getD i false

theorem open_set {l : Array Bool} {n i : Nat} (hi : i < n) (hl : l.size = n) (h : l.getD i true = false) : openN (l.setIfInBounds i true) n + 1 ≤ openN l n := by
  unfold openN
  have key : ∀ k, k ≤ n → (List.range k).countP (fun j => !(l.setIfInBounds i true).getD j false) + (if i < k then 1 else 0) ≤ (List.range k).countP (fun j => !l.getD j false) := by
    intro k
    induction k with
    | zero => intro _; simp
    | succ k ih =>
      intro hk
      have ih := ih (by omega)
      rw [List.range_succ, List.countP_append, List.countP_append]
      simp only [List.countP_singleton]
      by_cases e : i = k
      · subst e
        have h1 : (l.setIfInBounds i true).getD i false = true := by simp [Array.getD, hl, hi]
        have h2 : l.getD i false = false := by rw [← getD_lt (by omega)]; exact h
        rw [h1, h2]
        simp at ih ⊢
        omega
      · rw [getD_set_ne false e]
        have h3 : (if i < k + 1 then 1 else 0) = (if i < k then 1 else 0) := by
          by_cases h : i < k
          · rw [if_pos h, if_pos (by omega)]
          · rw [if_neg h, if_neg (by omega)]
        rw [h3]; omega
  have := key n (Nat.le_refl _)
  rw [if_pos hi] at this
  exact this

theorem open_pos {l : Array Bool} {n i : Nat} (hi : i < n) (h : l.getD i false = false) : 0 < openN l n := by
  unfold openN
  rw [List.countP_pos_iff]
  exact ⟨i, by simpa using hi, by simp [h]⟩

theorem tail_order (hs : stable ops m cl = true) : ∀ (fuel t c : Nat) (l : Array Bool), m ≤ c → c ≤ ops.length → l.size = ops.length → (∀ j, l.getD j false = decide (j < c)) → ops.length - c ≤ fuel →
    Region.linearise.go .any ops.toArray fuel t l [] = List.range' c (ops.length - c) := by
  intro fuel
  induction fuel with
  | zero => intro t c l _ _ _ _ hf; rw [show ops.length - c = 0 from by omega]; rfl
  | succ fuel ih =>
    intro t c l hm hc hl hd hf
    rw [go_succ]
    by_cases he : c = ops.length
    · have : Region.ready .any ops.toArray l = [] := by
        rw [List.eq_nil_iff_forall_not_mem]
        intro i hi
        obtain ⟨h1, o, ho, _⟩ := ready_iff.1 hi
        have hlt := (List.getElem?_eq_some_iff.1 ho).1
        rw [getD_lt (by omega), hd] at h1
        simp at h1; omega
      rw [this, show ops.length - c = 0 from by omega]; rfl
    · have hlt : c < ops.length := by omega
      have hr : Region.ready .any ops.toArray l = [c] := by
        have hmem : ∀ i, i ∈ Region.ready .any ops.toArray l ↔ i = c := by
          intro i
          rw [ready_iff]
          constructor
          · rintro ⟨h1, o, ho, hp⟩
            have hil := (List.getElem?_eq_some_iff.1 ho).1
            rw [getD_lt (by omega), hd] at h1
            simp at h1
            rcases Nat.lt_or_ge c i with hci | hci
            · have := behind_listed hs hl (fun j o' hj ho' x hx => by
                rw [hd] at hj ⊢; simp at hj ⊢; exact Nat.lt_trans ((stable_at hs ho').1 x hx) hj) i o c (fun x hx => ⟨(stable_at hs ho).1 x hx, hp x hx⟩) ((stable_at hs ho).2.1 (by omega) c hci)
              rw [hd] at this; simp at this
            · omega
          · rintro rfl
            refine ⟨by rw [getD_lt (by omega), hd]; simp, _, List.getElem?_eq_getElem hlt, fun j hj => ?_⟩
            rw [hd]; simpa using (stable_at hs (List.getElem?_eq_getElem hlt)).1 j hj
        have hnd : (Region.ready .any ops.toArray l).Nodup := by unfold Region.ready; exact List.nodup_range.sublist List.filter_sublist
        match hre : Region.ready .any ops.toArray l, hmem, hnd with
        | [], hmem, _ => exact absurd ((hmem c).2 rfl) (by simp)
        | [x], hmem, _ => rw [(hmem x).1 (by simp)]
        | x :: y :: z, hmem, hnd =>
          have h1 := (hmem x).1 (by simp)
          have h2 := (hmem y).1 (by simp)
          subst h1; subst h2
          simp at hnd
      rw [hr]
      simp only [List.length_singleton, Nat.mod_one, List.getElem?_cons_zero]
      rw [ih _ (c + 1) _ (by omega) (by omega) (by simpa using hl) (fun j => ?_) (by omega)]
      · rw [show ops.length - c = ops.length - (c + 1) + 1 from by omega, List.range'_succ]
      · by_cases e : c = j
        · subst e; simp [Array.getD, hl, hlt]
        · rw [getD_set_ne false e, hd]
          by_cases h : j < c
          · rw [decide_eq_true h, decide_eq_true (by omega)]
          · rw [decide_eq_false h, decide_eq_false (by omega)]

theorem order_split (hs : stable ops m cl = true) (hm : m ≤ ops.length) : ∀ (fuel t : Nat) (l : Array Bool), l.size = ops.length → (∀ j, m ≤ j → l.getD j false = false) → (∀ (j : Nat) (o : Oper), l.getD j false = true → ops[j]? = some o → ∀ x ∈ preds o, l.getD x false = true) → openN l ops.length ≤ fuel →
    ∃ s, Region.linearise.go .any ops.toArray fuel t l [] = s ++ List.range' m (ops.length - m) ∧ Ord ops m l s := by
  intro fuel
  induction fuel with
  | zero =>
    intro t l hl htail _ hf
    have hall : ∀ j, j < ops.length → l.getD j false = true := fun j hj => by
      cases h : l.getD j false
      · have := open_pos hj h; omega
      · rfl
    have hme : m = ops.length := by
      rcases Nat.lt_or_ge m ops.length with h | h
      · have := hall m h; rw [htail m (Nat.le_refl _)] at this; cases this
      · omega
    exact ⟨[], by rw [hme, Nat.sub_self]; rfl, .nil fun j hj => hall j (by omega)⟩
  | succ fuel ih =>
    intro t l hl htail hcl hf
    by_cases hall : ∀ j < m, l.getD j false = true
    · refine ⟨[], ?_, .nil hall⟩
      rw [List.nil_append]
      refine tail_order hs _ _ m l (Nat.le_refl _) hm hl (fun j => ?_) ?_
      · by_cases h : j < m
        · rw [hall j h, decide_eq_true h]
        · rw [htail j (by omega), decide_eq_false h]
      · have : ops.length - m ≤ openN l ops.length := by
          unfold openN
          have e : List.range ops.length = List.range m ++ (List.range (ops.length - m)).map (m + ·) := by
            rw [← List.range_add, show m + (ops.length - m) = ops.length from by omega]
          rw [e, List.countP_append]
          have : ((List.range (ops.length - m)).map (m + ·)).countP (fun i => !l.getD i false) = ops.length - m := by
            rw [List.countP_eq_length.2]
            · simp
            · intro x hx
              obtain ⟨y, _, rfl⟩ := List.mem_map.1 hx
              rw [htail _ (by omega)]; rfl
          omega
        omega
    · -- somebody ahead of the tail stands open: the least of them is ready
      have hex : ∃ i, i < m ∧ l.getD i false = false ∧ ∀ j < i, l.getD j false = true := by
        have : ∃ i, i < m ∧ l.getD i false = false := by
          refine Classical.byContradiction fun hn => hall fun j hj => ?_
          cases h : l.getD j false
          · exact absurd ⟨j, hj, h⟩ hn
          · rfl
        obtain ⟨i, hi, hf⟩ := this
        induction i using Nat.strongRecOn with
        | _ i ih =>
          by_cases hlow : ∀ j < i, l.getD j false = true
          · exact ⟨i, hi, hf, hlow⟩
          · have : ∃ j, j < i ∧ l.getD j false = false := by
              refine Classical.byContradiction fun hn => hlow fun j hj => ?_
              cases h : l.getD j false
              · exact absurd ⟨j, hj, h⟩ hn
              · rfl
            obtain ⟨j, hj, hjf⟩ := this
            exact ih j hj (by omega) hjf
      obtain ⟨i₀, hi₀, hf₀, hlow₀⟩ := hex
      have hr₀ : i₀ ∈ Region.ready .any ops.toArray l := by
        rw [ready_iff]
        refine ⟨by rw [getD_lt (by omega)]; exact hf₀, _, List.getElem?_eq_getElem (by omega), fun j hj => hlow₀ j ((stable_at hs (List.getElem?_eq_getElem (by omega))).1 j hj)⟩
      rw [go_succ]
      cases hre : (Region.ready .any ops.toArray l)[t % (Region.ready .any ops.toArray l).length]? with
      | none =>
        have hlen : 0 < (Region.ready .any ops.toArray l).length := List.length_pos_of_mem hr₀
        have := Nat.mod_lt t hlen
        rw [List.getElem?_eq_none_iff] at hre
        omega
      | some i =>
        obtain ⟨h1, o, ho, hp⟩ := ready_iff.1 (List.mem_of_getElem? hre)
        have hil := (List.getElem?_eq_some_iff.1 ho).1
        have him : i < m := by
          rcases Nat.lt_or_ge i m with h | h
          · exact h
          · have := behind_listed hs hl hcl i o i₀ (fun x hx => ⟨(stable_at hs ho).1 x hx, hp x hx⟩) ((stable_at hs ho).2.1 h i₀ (by omega))
            rw [hf₀] at this; cases this
        obtain ⟨s, e, hord⟩ := ih (t / (Region.ready .any ops.toArray l).length) (l.setIfInBounds i true) (by simpa using hl) (fun j hj => by rw [getD_set_ne false (by omega)]; exact htail j hj) (fun j o' hj ho' x hx => by
          by_cases e' : i = j
          · subst e'
            rw [ho] at ho'; cases ho'
            have hx' := hp x hx
            by_cases e2 : i = x
            · subst e2; simp [Array.getD, hl, hil]
            · rw [getD_set_ne false e2]; exact hx'
          · rw [getD_set_ne false e'] at hj
            by_cases e2 : i = x
            · subst e2; simp [Array.getD, hl, hil]
            · rw [getD_set_ne false e2]; exact hcl j o' hj ho' x hx) (by
          have := open_set hil hl h1; omega)
        refine ⟨i :: s, ?_, .cons him ho h1 hp hord⟩
        simp only
        rw [e]; rfl

theorem order_all (hs : stable ops m cl = true) (hm : m ≤ ops.length) (t : Nat) :
    ∃ s, Region.linearise .any ops.toArray t = s ++ List.range' m (ops.length - m) ∧ Ord ops m (Array.replicate ops.length false) s := by
  unfold Region.linearise
  have := order_split hs hm ops.length t (Array.replicate ops.length false) (by simp) (fun j _ => by simp [Array.getD]) (fun j _ hj => by simp [Array.getD] at hj) (by
    unfold openN; have := List.countP_le_length (p := fun i => !(Array.replicate ops.length false).getD i false) (l := List.range ops.length); simpa using this)
  simpa using this
end

/-- 'o' yields 'v' wherever 'Base' holds, and keeps 'Base': an operation, or a call. -/
def OpTo (P : Program) (md : Md) (tm : List Value) (o : Oper) (Base : Heap → Prop) (v : Value) : Prop :=
  ∀ h, Base h → Ex P tm o h (fun v' h' => v' = v ∧ Base h') ∨
    (∃ g args, (wpS P (execOp (evl tm) o) h fun n h' => n = .enter g args ∧ h' = h) ∧ CallsX P md g args h (fun v' h' => v' = v ∧ Base h')) ∨
    ∀ (c : Frame) (cs : List Frame) (Stop : Goroutine → Heap → Prop), (∀ v' h', v' = v ∧ Base h' → Reach P md (G (c.finish v') cs) h' Stop) → wpS P (execOp (evl tm) o) h (Upon P md c cs Stop)

/-- The operations in the text's order, each where 'Base' holds. -/
def SW (P : Program) (md : Md) (ops : List Oper) (Base : Heap → Prop) : List Oper → List Value → List Value → Prop
  | [], tm, tm' => tm = tm'
  | o :: rest, tm, tm' => noDefer o.op = true ∧ ((Met ops tm o true ∧ ∃ v, OpTo P md tm o Base v ∧ SW P md ops Base rest (putl tm o.dst v) tm') ∨ (Met ops tm o false ∧ SW P md ops Base rest (putl tm o.dst undef) tm'))

section
variable {P : Program} {md : Md} {Base : Heap → Prop} {ops : List Oper} {m : Nat}

/-- What is known of an operation at its turn in the text's order. -/
def Turn (P : Program) (md : Md) (ops : List Oper) (Base : Heap → Prop) (o : Oper) (tm : List Value) (v : Value) : Prop :=
  noDefer o.op = true ∧ ((Met ops tm o true ∧ OpTo P md tm o Base v) ∨ (Met ops tm o false ∧ v = undef))

theorem putl_length (tm : List Value) (d : Option Tmp) (v : Value) : (putl tm d v).length = tm.length := by cases d <;> simp [putl]
theorem putl_ne {tm : List Value} {d : Option Tmp} {v : Value} {x : Nat} (h : d ≠ some x) : (putl tm d v)[x]? = tm[x]? := by
  cases d with
  | none => rfl
  | some y => simp only [putl]; rw [List.getElem?_set_ne]; intro e; exact h (by rw [e])

theorem sw_facts : ∀ {rest : List Oper} {tm tmF : List Value}, SW P md ops Base rest tm tmF →
    (∀ (i j : Nat) (o o' : Oper) (d : Nat), rest[i]? = some o → rest[j]? = some o' → o.dst = some d → o'.dst = some d → i = j) →
    tmF.length = tm.length ∧ (∀ x, (∀ (j : Nat) (o : Oper), rest[j]? = some o → o.dst ≠ some x) → tmF[x]? = tm[x]?) ∧
    ∀ (i : Nat) (o : Oper), rest[i]? = some o → ∃ tmi v, Turn P md ops Base o tmi v ∧ tmi.length = tm.length ∧ (∀ x, (∃ (j : Nat) (o' : Oper), j < i ∧ rest[j]? = some o' ∧ o'.dst = some x) → tmi[x]? = tmF[x]?) ∧
      (∀ x, (∀ (j : Nat) (o' : Oper), j < i → rest[j]? = some o' → o'.dst ≠ some x) → tmi[x]? = tm[x]?) ∧ ∀ x, o.dst = some x → tmF[x]? = (putl tmi o.dst v)[x]?
  | [], tm, tmF, h, _ => by
    subst h
    exact ⟨rfl, fun _ _ => rfl, fun i o hi => by simp at hi⟩
  | o₀ :: rest, tm, tmF, h, hd => by
    obtain ⟨hnd, hcase⟩ := h
    have step : ∀ v, Turn P md ops Base o₀ tm v → SW P md ops Base rest (putl tm o₀.dst v) tmF →
        tmF.length = tm.length ∧ (∀ x, (∀ (j : Nat) (o : Oper), (o₀ :: rest)[j]? = some o → o.dst ≠ some x) → tmF[x]? = tm[x]?) ∧
        ∀ (i : Nat) (o : Oper), (o₀ :: rest)[i]? = some o → ∃ tmi v, Turn P md ops Base o tmi v ∧ tmi.length = tm.length ∧ (∀ x, (∃ (j : Nat) (o' : Oper), j < i ∧ (o₀ :: rest)[j]? = some o' ∧ o'.dst = some x) → tmi[x]? = tmF[x]?) ∧
          (∀ x, (∀ (j : Nat) (o' : Oper), j < i → (o₀ :: rest)[j]? = some o' → o'.dst ≠ some x) → tmi[x]? = tm[x]?) ∧ ∀ x, o.dst = some x → tmF[x]? = (putl tmi o.dst v)[x]? := by
      intro v ht hs
      obtain ⟨h1, h2, h3⟩ := sw_facts hs fun i j o o' d hi hj ho ho' => by
        have := hd (i + 1) (j + 1) o o' d (by simpa using hi) (by simpa using hj) ho ho'
        omega
      have hfresh : ∀ x, o₀.dst = some x → ∀ (j : Nat) (o : Oper), rest[j]? = some o → o.dst ≠ some x := fun x hx j o hj ho => by
        have := hd 0 (j + 1) o₀ o x rfl (by simpa using hj) hx ho
        omega
      have hF0 : ∀ x, o₀.dst = some x → tmF[x]? = (putl tm o₀.dst v)[x]? := fun x hx => h2 x (hfresh x hx)
      refine ⟨by rw [h1, putl_length], fun x hx => ?_, fun i o hi => ?_⟩
      · rw [h2 x fun j o hj => hx (j + 1) o (by simpa using hj), putl_ne (hx 0 o₀ rfl)]
      · cases i with
        | zero =>
          simp at hi; subst hi
          refine ⟨tm, v, ht, rfl, fun x hx => ?_, fun _ _ => rfl, hF0⟩
          obtain ⟨j, _, hj, _⟩ := hx
          omega
        | succ i =>
          obtain ⟨tmi, v', t1, t2, t3, t4, t5⟩ := h3 i o (by simpa using hi)
          refine ⟨tmi, v', t1, by rw [t2, putl_length], fun x hx => ?_, fun x hx => ?_, t5⟩
          · obtain ⟨j, o', hj, ho', hx'⟩ := hx
            cases j with
            | zero =>
              simp at ho'; subst ho'
              rw [t4 x fun j o' _ hj' => hfresh x hx' j o' hj', hF0 x hx']
            | succ j => exact t3 x ⟨j, o', by omega, by simpa using ho', hx'⟩
          · rw [t4 x fun j o' hj ho' => hx (j + 1) o' (by omega) (by simpa using ho'), putl_ne (hx 0 o₀ (by omega) rfl)]
    rcases hcase with ⟨hm, v, ho, hs⟩ | ⟨hm, hs⟩
    · exact step v ⟨hnd, .inl ⟨hm, ho⟩⟩ hs
    · exact step undef ⟨hnd, .inr ⟨hm, rfl⟩⟩ hs

theorem evl_eq {tm tm' : List Value} {t : Nat} (h : tm[t]? = tm'[t]?) : evl tm (.tmp t) = evl tm' (.tmp t) := by
  simp only [evl, List.getD_eq_getElem?_getD, h]

theorem noSel_ne {o : Op} (h : noSel o = true) (cs : Array SelectCase) (b : Bool) : o ≠ .select cs b := by intro e; subst e; simp [noSel] at h

theorem exec_eq {tm tm' : List Value} {o : Oper} (hs : noSel o.op = true) (h : ∀ t ∈ looks ops o, tm[t]? = tm'[t]?) : execOp (evl tm) o = execOp (evl tm') o := by
  refine execOp_congr o (noSel_ne hs) fun x hx => ?_
  cases x with
  | tmp t => exact evl_eq (h t (by unfold looks; rw [List.mem_append]; exact .inl (List.mem_filterMap.2 ⟨.tmp t, by simpa using hx, rfl⟩)))
  | const v => rfl
  | global g => rfl
  | func f => rfl

theorem met_eq {tm tm' : List Value} {o : Oper} {t : Bool} (h : ∀ x ∈ looks ops o, tm[x]? = tm'[x]?) (m : Met ops tm' o t) : Met ops tm o t := by
  unfold Met at m ⊢
  split at m
  · exact m
  · rename_i j want hg
    rw [← m]
    unfold yieldl
    cases hd : (ops[j]?).bind (·.dst) with
    | none => rfl
    | some d =>
      have : tm[d]? = tm'[d]? := h d (by unfold looks; rw [hg, List.mem_append]; exact .inr (by simp [hd]))
      simp only [Option.bind_some, this]

section
variable {f : FuncId} {r : Rd} {df : List Deferred} {k : List Item} {cs : List Frame} {Stop : Goroutine → Heap → Prop} {tm tmF : List Value}

/-- A REGION THAT DRAWS ITS ORDER, the first 'm' of its operations reading what lasts. -/
theorem fl_drawn [Stb Base] {id : Nat} (m : Nat) (cl : List (List Nat)) (hmix : P.follows .mixedOrders = true) (hst : stable ops m cl = true) (hm : m ≤ ops.length) (sw : SW P md ops Base (ops.take m) tm tmF)
    (n : RL P md f r df k cs Stop ops (ops.drop m) tmF Base) : RS P md (G (FL f r tm df (.code (.region id ops.toArray true) :: k)) cs) Base Stop := by
  refine rs_drawn fun t => ?_
  unfold Region.schedule
  rw [hmix]
  simp only [Bool.true_or, if_true]
  obtain ⟨s, e, hord⟩ := order_all hst hm t
  rw [e]
  have hget : ∀ {i : Nat} {o : Oper}, i < m → ops[i]? = some o → (ops.take m)[i]? = some o := fun hi ho => by rw [List.getElem?_take, if_pos hi]; exact ho
  have hget' : ∀ {i : Nat} {o : Oper}, (ops.take m)[i]? = some o → i < m ∧ ops[i]? = some o := fun ho => by
    rw [List.getElem?_take] at ho
    split at ho
    · exact ⟨by assumption, ho⟩
    · cases ho
  have hdist : ∀ (i j : Nat) (o o' : Oper) (d : Nat), (ops.take m)[i]? = some o → (ops.take m)[j]? = some o' → o.dst = some d → o'.dst = some d → i = j := fun i j o o' d hi hj ho ho' => by
    obtain ⟨hi, hio⟩ := hget' hi
    obtain ⟨hj, hjo⟩ := hget' hj
    exact (((stable_at hst hio).2.2 hi).2 j o' d hj hjo ho').1.resolve_right fun hne => hne ho
  obtain ⟨hlen, hrest, hturn⟩ := sw_facts sw hdist
  -- the walk in the order that was drawn
  have main : ∀ (s : List Nat) (l : Array Bool) (tmc : List Value), Ord ops m l s → l.size = ops.length → tmc.length = tm.length →
      (∀ x, (∃ (j : Nat) (o : Oper), j < m ∧ l.getD j false = true ∧ ops[j]? = some o ∧ o.dst = some x) → tmc[x]? = tmF[x]?) →
      (∀ x, (∀ (j : Nat) (o : Oper), j < m → l.getD j false = true → ops[j]? = some o → o.dst ≠ some x) → tmc[x]? = tm[x]?) →
      RS P md (G (FL f r tmc df (.inRegion ops.toArray (s ++ List.range' m (ops.length - m)) :: k)) cs) Base Stop := by
    intro s
    induction s with
    | nil =>
      intro l tmc hord _ hl h1 h2
      cases hord with
      | nil hall =>
      have : tmc = tmF := by
        refine List.ext_getElem? fun x => ?_
        by_cases hx : ∃ (j : Nat) (o : Oper), j < m ∧ ops[j]? = some o ∧ o.dst = some x
        · obtain ⟨j, o, hj, ho, hd⟩ := hx
          exact h1 x ⟨j, o, hj, hall j hj, ho, hd⟩
        · rw [h2 x fun j o hj _ ho hd => hx ⟨j, o, hj, ho, hd⟩]
          exact (hrest x fun j o hjo hd => hx ⟨j, o, (hget' hjo).1, (hget' hjo).2, hd⟩).symm
      subst this
      rw [List.nil_append]
      have := n (ops.take m) (List.take_append_drop m ops).symm
      rw [List.length_take, Nat.min_eq_left hm, List.length_drop] at this
      exact this
    | cons i s ih =>
      intro l tmc hord hsz hl h1 h2
      cases hord with
      | @cons _ _ _ o hi ho hn hp hs =>
      have hil := (List.getElem?_eq_some_iff.1 ho).1
      have hlooks := ((stable_at hst ho).2.2 hi)
      obtain ⟨tmi, v, ht, t2, t3, t4, t5⟩ := hturn i o (hget hi ho)
      have hag : ∀ x ∈ looks ops o, tmc[x]? = tmi[x]? := by
        intro x hx
        by_cases hw : ∃ (j : Nat) (o' : Oper), j < m ∧ ops[j]? = some o' ∧ o'.dst = some x
        · obtain ⟨j, o', hj, ho', hd⟩ := hw
          have hpj := (hlooks.2 j o' x hj ho' hd).2 hx
          rw [h1 x ⟨j, o', hj, hp j hpj, ho', hd⟩, t3 x ⟨j, o', (stable_at hst ho).1 j hpj, hget hj ho', hd⟩]
        · rw [h2 x fun j o' hj _ ho' hd => hw ⟨j, o', hj, ho', hd⟩, t4 x fun j o' _ ho' hd => hw ⟨j, o', (hget' ho').1, (hget' ho').2, hd⟩]
      have next : RS P md (G (FL f r (putl tmc o.dst v) df (.inRegion ops.toArray (s ++ List.range' m (ops.length - m)) :: k)) cs) Base Stop := by
        refine ih (l.setIfInBounds i true) _ hs (by simpa using hsz) (by rw [putl_length]; exact hl) (fun x hx => ?_) (fun x hx => ?_)
        · obtain ⟨j, o', hj, hlj, ho', hd⟩ := hx
          by_cases e : i = j
          · subst e
            rw [ho] at ho'; cases ho'
            rw [t5 x hd, hd]
            simp only [putl]
            by_cases hxl : x < tm.length
            · rw [List.getElem?_set_self (by rw [hl]; exact hxl), List.getElem?_set_self (by rw [t2]; exact hxl)]
            · rw [List.getElem?_eq_none (by rw [List.length_set, hl]; exact Nat.le_of_not_lt hxl), List.getElem?_eq_none (by rw [List.length_set, t2]; exact Nat.le_of_not_lt hxl)]
          · have hne : o.dst ≠ some x := (hlooks.2 j o' x hj ho' hd).1.resolve_left e
            rw [getD_set_ne false e] at hlj
            rw [putl_ne hne]
            exact h1 x ⟨j, o', hj, hlj, ho', hd⟩
        · have hne : o.dst ≠ some x := hx i o hi (by simp [Array.getD, hsz, hil]) ho
          rw [putl_ne hne]
          refine h2 x fun j o' hj hlj ho' => hx j o' hj ?_ ho'
          by_cases e : i = j
          · subst e; simp [Array.getD, hsz, hil]
          · rw [getD_set_ne false e]; exact hlj
      have ho2 : ops.toArray[i]? = some o := by simpa using ho
      rcases ht.2 with ⟨hmet, hop⟩ | ⟨hmet, hv⟩
      · have hmet' := met_eq hag hmet
        have hnd := ht.1
        refine rs_op ho2 (wanted_of_met hmet') B_kind (.inr (by revert hnd; cases o.op <;> simp [noDefer])) fun h hb => ?_
        rw [ev_toArray, exec_eq (ops := ops) hlooks.1 hag]
        rcases hop h hb with hx | ⟨g, args, hx, hc⟩ | hx
        · refine wpS_mono hx fun n' h' ⟨v', e', e2, hb'⟩ => ?_
          subst e'; subst e2
          show Reach P md (G ((F (B f r) tmc.toArray df _).finish v') cs) h' Stop
          rw [finish_region ho2, put_toArray]
          exact next h' hb'
        · refine wpS_mono hx fun n' h' ⟨e', e2⟩ => ?_
          subst e'; subst e2
          refine hc _ _ _ fun v' h' ⟨e2, hb'⟩ => ?_
          subst e2
          rw [finish_region ho2, put_toArray]
          exact next h' hb'
        · refine hx _ _ _ fun v' h' ⟨e2, hb'⟩ => ?_
          subst e2
          rw [finish_region ho2, put_toArray]
          exact next h' hb'
      · refine rs_pass ho2 (wanted_of_met (met_eq hag hmet)) ?_
        rw [put_toArray, ← hv]
        exact next
  exact main s _ tm hord (by simp) rfl (fun x hx => by obtain ⟨j, o, hj, hl, _⟩ := hx; simp [Array.getD] at hl) (fun _ _ => rfl)

/-! the steps of such a walk -/
theorem sw_nil {rest : List Oper} (e : rest = []) (e2 : tm = tmF) : SW P md ops Base rest tm tmF := by subst e; exact e2
theorem sw_det {tm' : List Value} {o : Oper} {rest : List Oper} {v : Value} (hm : Met ops tm o true) (hx : ∀ h, Base h → Exd P tm o h v) (ht : putl tm o.dst v = tm') (n : SW P md ops Base rest tm' tmF) (hd : noDefer o.op = true := by rfl) :
    SW P md ops Base (o :: rest) tm tmF :=
  ⟨hd, .inl ⟨hm, v, fun h hb => .inl (wpS_mono (hx h hb) fun _ _ ⟨v', e1, e2, e3⟩ => ⟨v', e1, e2, by rw [e3]; exact hb⟩), by rw [ht]; exact n⟩⟩
end
end

section
variable {P : Program} {md : Md} {Base : Heap → Prop} {ops full rest : List Oper} {f : FuncId} {r : Rd} {df : List Deferred} {k : List Item} {cs : List Frame} {Stop : Goroutine → Heap → Prop} {tm tm' : List Value}

def SWR (P : Program) (md : Md) (f : FuncId) (r : Rd) (df : List Deferred) (k : List Item) (cs : List Frame) (Stop : Goroutine → Heap → Prop) (Base : Heap → Prop) (ops full rest : List Oper) (tm : List Value) : Prop :=
  ∃ tmF, SW P md ops Base rest tm tmF ∧ RL P md f r df k cs Stop ops full tmF Base
theorem fl_drawn2 [Stb Base] {id : Nat} (m : Nat) (cl : List (List Nat)) (hmix : P.follows .mixedOrders = true) (hst : stable ops m cl = true) (hm : m ≤ ops.length) (sw : SWR P md f r df k cs Stop Base ops (ops.drop m) (ops.take m) tm) :
    RS P md (G (FL f r tm df (.code (.region id ops.toArray true) :: k)) cs) Base Stop := by
  obtain ⟨tmF, s, n⟩ := sw
  exact fl_drawn m cl hmix hst hm s n
theorem swr_nil (e : rest = []) (n : RL P md f r df k cs Stop ops full tm Base) : SWR P md f r df k cs Stop Base ops full rest tm := ⟨tm, sw_nil e rfl, n⟩
theorem swr_det {o : Oper} {v : Value} (hm : Met ops tm o true) (hx : ∀ h, Base h → Exd P tm o h v) (ht : putl tm o.dst v = tm') (n : SWR P md f r df k cs Stop Base ops full rest tm') (hd : noDefer o.op = true := by rfl) : SWR P md f r df k cs Stop Base ops full (o :: rest) tm := by
  obtain ⟨tmF, s, n⟩ := n
  exact ⟨tmF, sw_det hm hx ht s hd, n⟩
end
end Go.X
namespace Go.X
open Go.Conc

abbrev Pcs := List (Nat × Obj)

/-- The temporaries behind the first 'm' operations, if the 'i'-th has yielded 'val i'. -/
def fills (ops : List Oper) (val : Nat → Value) : Nat → List Value → List Value
  | 0, tm => tm
  | m + 1, tm => putl (fills ops val m tm) ((ops[m]?).bind (·.dst)) (val m)

theorem fills_length (ops : List Oper) (val : Nat → Value) (tm : List Value) : ∀ m, (fills ops val m tm).length = tm.length
  | 0 => rfl
  | m + 1 => by simp only [fills, putl_length, fills_length ops val tm m]

theorem fills_out {ops : List Oper} {val : Nat → Value} {tm : List Value} {x : Nat} : ∀ {m : Nat}, (∀ (j : Nat) (o : Oper), j < m → ops[j]? = some o → o.dst ≠ some x) → (fills ops val m tm)[x]? = tm[x]?
  | 0, _ => rfl
  | m + 1, h => by
    simp only [fills]
    rw [putl_ne, fills_out fun j o hj => h j o (by omega)]
    intro e
    cases ho : ops[m]? with
    | none => rw [ho] at e; cases e
    | some o => rw [ho] at e; exact h m o (by omega) ho e

theorem fills_in {ops : List Oper} {val : Nat → Value} {tm : List Value} {x i : Nat} {o : Oper} : ∀ {m : Nat}, i < m → ops[i]? = some o → o.dst = some x → (∀ (j : Nat) (o' : Oper), j < m → ops[j]? = some o' → o'.dst = some x → j = i) → x < tm.length →
    (fills ops val m tm)[x]? = some (val i)
  | 0, h, _, _, _, _ => by omega
  | m + 1, h, ho, hd, hu, hx => by
    simp only [fills]
    by_cases e : i = m
    · subst e
      rw [ho]
      simp only [Option.bind_some, hd, putl]
      rw [List.getElem?_set_self (by rw [fills_length]; exact hx)]
    · rw [putl_ne, fills_in (by omega) ho hd (fun j o' hj => hu j o' (by omega)) hx]
      intro e'
      cases ho' : ops[m]? with
      | none => rw [ho'] at e'; cases e'
      | some o' => rw [ho'] at e'; exact e (hu m o' (by omega) ho' e').symm

/-- Each piece is used once at most, behind the operation that it comes of; 'fin' are those that are left. -/
def mixok (ops : List Oper) (m : Nat) (ini : List Nat) (use : Nat → List Nat) (fin : List Nat) : Bool :=
  decide ini.Nodup && ini.all (fun x => decide (m ≤ x)) && decide fin.Nodup &&
  (ops.zipIdx.all fun (o, i) => !decide (i < m) || ((decide (use i).Nodup) && (use i).all fun x => (ini.contains x || (decide (x < m) && (preds o).contains x)) && (List.range m).all fun k => decide (k = i) || !(use k).contains x)) &&
  (fin.all fun x => (ini.contains x || decide (x < m)) && (List.range m).all fun k => !(use k).contains x) &&
  ((List.range m ++ ini).all fun x => fin.contains x || (List.range m).any fun k => (use k).contains x)

theorem perm_use {α : Type} [DecidableEq α] : ∀ {u ls : List α}, u.Nodup → (∀ x ∈ u, x ∈ ls) → ∃ r, ls.Perm (u ++ r)
  | [], ls, _, _ => ⟨ls, .refl _⟩
  | x :: u, ls, hn, hs => by
    have h1 := List.perm_cons_erase (hs x (by simp))
    have hn' := List.nodup_cons.1 hn
    obtain ⟨r, hr⟩ := perm_use (ls := ls.erase x) hn'.2 fun y hy => by
      rw [List.mem_erase_of_ne (fun e => by subst e; exact hn'.1 hy)]; exact hs y (by simp [hy])
    exact ⟨r, h1.trans (hr.cons x)⟩

/-- 'o' yields a value, or comes to its end without one; and 'K' of it and of the heap. -/
def Exv (P : Program) (tm : List Value) (o : Oper) (h : Heap) (K : Value → Heap → Prop) : Prop :=
  wpS P (execOp (evl tm) o) h fun n h' => ∃ v, (n = .value v ∨ (n = .skip ∧ v = undef)) ∧ K v h'
theorem Ex.exv {P : Program} {tm : List Value} {o : Oper} {h : Heap} {K : Value → Heap → Prop} (x : Ex P tm o h K) : Exv P tm o h K := wpS_mono x fun _ _ ⟨v, e, y⟩ => ⟨v, .inl e, y⟩

/-- What is asked of an operation whose turn it is. -/
def OpMix (P : Program) (md : Md) (ops : List Oper) (tmF : (Nat → Value) → List Value) (h₀ : Heap) (B₀ : List Nat) (p : PHeap) (A : Pcs) (ini : List Nat) (X : Nat → Pcs) (use : Nat → List Nat) (Q : Nat → Value → Pcs → Prop) (i : Nat) (o : Oper) : Prop :=
  ∀ val piece, (∀ j, (preds o).contains j = true → Q j (val j) (piece j)) → (∀ j ∈ ini, piece j = X j) →
    (Met ops (tmF val) o true ∧ ∀ C h, St h₀ B₀ p h ((use i).flatMap piece ++ (A ++ C)) →
      Exv P (tmF val) o h (fun v h' => ∃ x, Q i v x ∧ St h₀ B₀ p h' (x ++ (A ++ C))) ∨
      (∃ g args, (wpS P (execOp (evl (tmF val)) o) h fun n h' => n = .enter g args ∧ h' = h) ∧ CallsX P md g args h (fun v h' => ∃ x, Q i v x ∧ St h₀ B₀ p h' (x ++ (A ++ C))))) ∨
    (Met ops (tmF val) o false ∧ (use i).flatMap piece = [] ∧ Q i undef [])

def Mixes (F : Nat → Oper → Prop) : Nat → List Oper → Prop
  | _, [] => True
  | i, o :: rest => (noDefer o.op = true ∧ F i o) ∧ Mixes F (i + 1) rest

theorem Mixes.at {F : Nat → Oper → Prop} : ∀ {l : List Oper} {b i : Nat} {o : Oper}, Mixes F b l → l[i]? = some o → noDefer o.op = true ∧ F (b + i) o
  | [], _, _, _, _, h => by simp at h
  | o :: l, b, 0, _, m, h => by simp at h; subst h; exact m.1
  | o :: l, b, i + 1, _, m, h => by
    have := Mixes.at (i := i) m.2 (by simpa using h)
    rw [show b + (i + 1) = b + 1 + i from by omega]; exact this

section
variable {P : Program} {md : Md} {ops : List Oper} {m : Nat} {f : FuncId} {r : Rd} {df : List Deferred} {k : List Item} {cs : List Frame} {Stop : Goroutine → Heap → Prop} {tm : List Value}
  {h₀ : Heap} {B₀ : List Nat} {p : PHeap} {A C : Pcs} {ini fin : List Nat} {X : Nat → Pcs} {use : Nat → List Nat} {Q : Nat → Value → Pcs → Prop} {tmF : (Nat → Value) → List Value}

theorem mixok_at (hk : mixok ops m ini use fin = true) : ini.Nodup ∧ (∀ x ∈ ini, m ≤ x) ∧ fin.Nodup ∧
    (∀ (i : Nat) (o : Oper), i < m → ops[i]? = some o → (use i).Nodup ∧ ∀ x ∈ use i, (x ∈ ini ∨ (x < m ∧ x ∈ preds o)) ∧ ∀ k < m, k ≠ i → x ∉ use k) ∧
    (∀ x ∈ fin, (x ∈ ini ∨ x < m) ∧ ∀ k < m, x ∉ use k) ∧ (∀ x, (x < m ∨ x ∈ ini) → x ∈ fin ∨ ∃ k < m, x ∈ use k) := by
  unfold mixok at hk
  simp only [Bool.and_eq_true, decide_eq_true_eq, List.all_eq_true] at hk
  obtain ⟨⟨⟨⟨⟨h1, h2⟩, h3⟩, h4⟩, h5⟩, h6⟩ := hk
  refine ⟨h1, h2, h3, fun i o hi ho => ?_, fun x hx => ?_, fun x hx => ?_⟩
  · have hmem : (o, i) ∈ ops.zipIdx := by rw [List.mem_zipIdx_iff_getElem?]; exact ho
    have h := h4 (o, i) hmem
    simp only [hi, decide_true, Bool.not_true, Bool.false_or, Bool.and_eq_true, decide_eq_true_eq, List.all_eq_true, Bool.or_eq_true, List.mem_range, Bool.not_eq_true', List.contains_eq_mem, decide_eq_false_iff_not] at h
    exact ⟨h.1, fun x hx => ⟨(h.2 x hx).1, fun k hk hne => ((h.2 x hx).2 k hk).resolve_left hne⟩⟩
  · have h := h5 x hx
    simp only [Bool.or_eq_true, decide_eq_true_eq, List.mem_range, Bool.not_eq_true', List.contains_eq_mem, decide_eq_false_iff_not] at h
    exact h
  · have h := h6 x (by rw [List.mem_append, List.mem_range]; exact hx)
    simp only [Bool.or_eq_true, List.any_eq_true, List.mem_range, List.contains_eq_mem, decide_eq_true_eq] at h
    exact h

def Emp (Q : Nat → Value → Pcs → Prop) : List Nat → Prop
  | [] => True
  | j :: l => (∀ v x, Q j v x → x = []) ∧ Emp Q l
theorem Emp.flat {Q : Nat → Value → Pcs → Prop} {val : Nat → Value} {piece : Nat → Pcs} : ∀ {l : List Nat}, Emp Q l → (∀ j ∈ l, Q j (val j) (piece j)) → l.flatMap piece = []
  | [], _, _ => rfl
  | j :: l, e, h => by
    rw [List.flatMap_cons, e.1 _ _ (h j (by simp)), Emp.flat e.2 fun i hi => h i (by simp [hi])]; rfl

/-! ### the steps of such a walk -/
/-- What is asked of an operation, its temporaries and pieces spelt out. -/
def Mix (P : Program) (md : Md) (ops : List Oper) (tm : List Value) (h₀ : Heap) (B₀ : List Nat) (p : PHeap) (A U : Pcs) (Q : Value → Pcs → Prop) (o : Oper) : Prop :=
  (Met ops tm o true ∧ ∀ C h, St h₀ B₀ p h (U ++ (A ++ C)) →
      Exv P tm o h (fun v h' => ∃ x, Q v x ∧ St h₀ B₀ p h' (x ++ (A ++ C))) ∨
      (∃ g args, (wpS P (execOp (evl tm) o) h fun n h' => n = .enter g args ∧ h' = h) ∧ CallsX P md g args h (fun v h' => ∃ x, Q v x ∧ St h₀ B₀ p h' (x ++ (A ++ C))))) ∨
    (Met ops tm o false ∧ U = [] ∧ Q undef [])

theorem mixes_nil {F : Nat → Oper → Prop} {b : Nat} {l : List Oper} (e : l = []) : Mixes F b l := by subst e; trivial
theorem mixes_cons {F : Nat → Oper → Prop} {b : Nat} {o : Oper} {l : List Oper} (hd : noDefer o.op = true) (x : F b o) (n : Mixes F (b + 1) l) : Mixes F b (o :: l) := ⟨⟨hd, x⟩, n⟩

section
variable {tm' : List Value} {U : Pcs} {q : Value → Pcs → Prop} {o : Oper} {ty : TypeId} {pos : String} {aft : Array Edge} {gd : Option (Nat × Bool)}

theorem mix_det {v : Value} (hm : Met ops tm' o true) (hx : ∀ C h, St h₀ B₀ p h (A ++ C) → Exd P tm' o h v) (hq : q v []) : Mix P md ops tm' h₀ B₀ p A [] q o :=
  .inl ⟨hm, fun C h s => .inl (wpS_mono (hx C h s) fun _ _ ⟨v', e1, e2, e3⟩ => ⟨v', .inl e1, [], by rw [e2]; exact hq, by rw [e3]; exact s⟩)⟩
theorem mix_ex (hm : Met ops tm' o true) (hx : ∀ C h, St h₀ B₀ p h (U ++ (A ++ C)) → Ex P tm' o h (fun v h' => ∃ x, q v x ∧ St h₀ B₀ p h' (x ++ (A ++ C)))) : Mix P md ops tm' h₀ B₀ p A U q o :=
  .inl ⟨hm, fun C h s => .inl (hx C h s).exv⟩
theorem mix_call {args : List Operand} {ats : Array TypeId} {d : Option Tmp} {x : Operand} {g : FuncId} {first cap vs : List Value}
    (hm : Met ops tm' ⟨d, .call ⟨.value x, args.toArray, ats⟩, ty, pos, aft, gd⟩ true) (hx : evl tm' x = .func (.func g) first.toArray cap.toArray) (hvs : first ++ (args.map (evl tm') ++ cap) = vs) (hg : callable P g = true)
    (hc : ∀ C h, St h₀ B₀ p h (U ++ (A ++ C)) → CallsX P md g vs.toArray h fun v h' => ∃ x, q v x ∧ St h₀ B₀ p h' (x ++ (A ++ C))) :
    Mix P md ops tm' h₀ B₀ p A U q ⟨d, .call ⟨.value x, args.toArray, ats⟩, ty, pos, aft, gd⟩ :=
  .inl ⟨hm, fun C h s => .inr ⟨g, vs.toArray, wpS_call hx hvs hg, hc C h s⟩⟩

theorem OwnS.build {T : TypeId} {w b n : Nat} {es : List (List Value)} {cells : Array Value} (hc : cells = es.flatten.toArray) (hw : ∀ e ∈ es, e.length = w) (hn : es.length = n) (hb : n * w ≤ 2 ^ 24) : OwnS T w (.slice (some ⟨b, 0, none⟩) n n) es [(b, .cells cells T (0, 0))] := by
  subst hn
  exact ⟨hw, .inr ⟨b, es.flatten, es.length, [], rfl, by rw [hc], by simp, flatten_length hw, fun e => by subst e; omega⟩⟩

/-- A slice of the call's own is a source. -/
theorem src_ownS {h : Heap} {w : Nat} {T : TypeId} {x : Value} {news : List (List Value)} {Y L₁ L₂ : Pcs} (o : OwnS T w x news Y) (s : St h₀ B₀ p h (L₁ ++ (Y ++ L₂))) : Src P h w news.length x news := by
  obtain ⟨hw, ⟨rfl, rfl, rfl⟩ | ⟨b, cs, cap, rest, rfl, rfl, hcs, hlen, hcap⟩⟩ := o
  · exact src_nil
  · refine ⟨fun K hK => wpS_pure hK, fun K hK => ?_, rfl, hw⟩
    show wpS P (loadCells ⟨b, 0, none⟩ (news.length * w)) h K
    refine wpS_loadCells (flatten_length hw) (fun j u hj => ?_) hK
    rw [add_mk]
    refine s.ocell (i := L₁.length) (cs := cs.toArray) (T := T) (z := (0, 0)) ?_ ?_
    · rw [List.getElem?_append_right (Nat.le_refl _)]; simp
    · rw [List.getElem?_toArray, hcs, Nat.zero_add, List.getElem?_append_left (List.getElem?_eq_some_iff.1 hj).1]
      exact hj

theorem ex_append {dd : Nat} {sT xT eT eX : TypeId} {w m' by' : Nat} {xo yo : Operand} {v x z : Value} {es news : List (List Value)} {h : Heap} {X' C' : Pcs} (A' : Pcs)
    (hT : P.underlying sT = some (.slice eT)) (hs : sizeT P eT = some w) (hz : zeroT P eT = some z) (hzs : z.cells.size = w) (hby : bytesT P eT = some by') (hx : P.underlying xT = some (.slice eX))
    (ev1 : evl tm' xo = v) (ev2 : evl tm' yo = x) (o : OwnS eT w v es X') (s : St h₀ B₀ p h (A' ++ (X' ++ C'))) (src : Src P h w m' x news) (h1 : ∀ u ∈ news.flatten, isOne u = true)
    (room : (es.length + m') * by' ≤ 2 ^ 40) (hb2 : 0 < by' ∧ by' ≤ 2 ^ 20) {K : Value → Heap → Prop}
    (n : ∀ v' X' h', OwnS eT w v' (es ++ news) X' → St h₀ B₀ p h' (A' ++ (X' ++ C')) → K v' h') :
    Ex P tm' ⟨some dd, .call ⟨.builtin .append, #[xo, yo], #[sT, xT]⟩, ty, pos, aft, gd⟩ h K := by
  unfold Ex
  simp only [execOp, resolve]
  refine wpS_bind (wpS_pure ?_)
  simp only [invoke, builtin]
  refine wpS_bind ?_
  have e : (#[xo, yo] : Array Operand).map (evl tm') = #[v, x] := by simp [ev1, ev2]
  rw [e]
  refine wpS_append hT hs hz hzs hby hx o s src.lenOf src.cells src.len src.wid h1 room hb2 fun v' X' h' o' s' => ?_
  exact wpS_pure ⟨v', rfl, n v' X' h' o' s'⟩

theorem St.swap {h : Heap} {A U : Pcs} (s : St h₀ B₀ p h (A ++ U)) : St h₀ B₀ p h (U ++ (A ++ [])) := s.perm (by rw [List.append_nil]; exact List.perm_append_comm)
theorem St.swap' {h : Heap} {A U : Pcs} (s : St h₀ B₀ p h (U ++ (A ++ []))) : St h₀ B₀ p h (A ++ U) := s.perm (by rw [List.append_nil]; exact List.perm_append_comm)
end
end
end Go.X
namespace Go.X
open Go.Conc

theorem ones_of {l : List Value} (h : l.all isOne = true) : ∀ u ∈ l, isOne u = true := fun u hu => List.all_eq_true.1 h u hu

/-- ints, by their numbers -/
def nums (f : Nat → Int) (k : Nat) : List Int := (List.range k).map f
def ns (f : Nat → Int) (k : Nat) : List (List Value) := (nums f k).map fun x => [.int .i64 x]
theorem OwnS.as {T : TypeId} {w : Nat} {v : Value} {es es' : List (List Value)} {X : List (Nat × Obj)} (o : OwnS T w v es X) (e : es = es') : OwnS T w v es' X := by subst e; exact o
theorem OwnS.val {T : TypeId} {w : Nat} {v : Value} {es : List (List Value)} {X : List (Nat × Obj)} (o : OwnS T w v es X) : ∃ a cap, v = .slice a es.length cap ∧ (0 < es.length → a = some (adr a)) := by
  obtain ⟨_, ⟨rfl, rfl, rfl⟩ | ⟨b, cs, cap, rest, rfl, rfl, hcs, hlen, hcap⟩⟩ := o
  · exact ⟨_, _, rfl, fun h => absurd h (by simp)⟩
  · exact ⟨_, _, rfl, fun _ => rfl⟩
theorem OwnS.one {T : TypeId} {w : Nat} {v : Value} {es : List (List Value)} {X : List (Nat × Obj)} (o : OwnS T w v es X) : v.cells = #[v] ∧ isOne v = true := by
  obtain ⟨a, cap, rfl, _⟩ := o.val
  exact ⟨rfl, rfl⟩

/-- What a call that makes memory leaves: the pieces 'X' are new. -/
structure New (h h' : Heap) (X : Pcs) : Prop where
  keep : Keep h h'
  own : ∀ x ∈ X, h'[x.1]? = some x.2 ∧ h.size ≤ x.1
  nod : (X.map (·.1)).Nodup

section
variable {h₀ h h' : Heap} {B₀ : List Nat} {p : PHeap} {A X C L : Pcs}
theorem St.new (s : St h₀ [] p h X) : New h₀ h X := ⟨s.kept, fun x hx => ⟨(s.own x hx).1, (s.own x hx).2.2.resolve_right (by simp)⟩, s.nod⟩
theorem St.callN (s : St h₀ B₀ p h L) (n : New h h' X) : St h₀ B₀ p h' (X ++ L) := by
  have s' := s.call n.keep
  refine ⟨s'.keep, s'.size, s'.per, fun x hx => ?_, ?_⟩
  · rcases List.mem_append.1 hx with hx | hx
    · obtain ⟨h1, h2⟩ := n.own x hx
      refine ⟨h1, ?_, .inl (Nat.le_trans s.size h2)⟩
      cases hp : p x.1 with
      | none => rfl
      | some o => exact absurd (lt_of_get (s.per _ _ hp)) (Nat.not_lt.2 h2)
    · exact s'.own x hx
  · rw [List.map_append, List.nodup_append]
    refine ⟨n.nod, s.nod, fun a ha b hb e => ?_⟩
    subst e
    obtain ⟨x, hx, rfl⟩ := List.mem_map.1 ha
    obtain ⟨y, hy, e⟩ := List.mem_map.1 hb
    have h1 := (n.own x hx).2
    have h2 := lt_of_get (s.own y hy).1
    omega
theorem St.callNA (s : St h₀ B₀ p h (A ++ C)) (n : New h h' X) : St h₀ B₀ p h' (A ++ (X ++ C)) := (s.callN n).perm (by
  rw [← List.append_assoc, ← List.append_assoc]; exact List.Perm.append_right C List.perm_append_comm)
theorem St.dropA (s : St h₀ B₀ p h (A ++ C)) : St h₀ B₀ p h C := s.sub (List.sublist_append_right A C)
end

section
variable {P : Program} {md : Md} {ops rest : List Oper} {f : FuncId} {r : Rd} {df : List Deferred} {k : List Item} {cs : List Frame} {Stop : Goroutine → Heap → Prop} {tm : List Value}
  {h₀ : Heap} {B₀ : List Nat} {p : PHeap} {A C X Y : Pcs} {ty : TypeId} {pos : String} {aft : Array Edge} {gd : Option (Nat × Bool)}

theorem rl_perm {L L' : Pcs} (e : L.Perm L') (n : RL P md f r df k cs Stop ops rest tm (fun h => St h₀ B₀ p h L')) : RL P md f r df k cs Stop ops rest tm (fun h => St h₀ B₀ p h L) := rl_as n fun _ s => s.perm e

theorem base_eq (n : Nat) (g : Nat → Value) : (Array.range n).map g = ((List.range n).map g).toArray := by apply Array.ext'; simp

/-- A store of one cell. -/
theorem rl_store1 {T T' : TypeId} {x y : Operand} {i b off : Nat} {cs' cs2 : List Value} {v : Value} {L : Pcs} (hm : Met ops tm ⟨none, .store T x y, ty, pos, aft, gd⟩ true) (hs : sizeT P T = some 1)
    (hx : evl tm x = .pointer (some ⟨b, off, none⟩)) (hy : evl tm y = v) (hv : v.cells = #[v] ∧ isOne v = true) (hL : L[i]? = some (b, .cells cs'.toArray T' (0, 0))) (hlen : off < cs'.length) (h2 : cs'.set off v = cs2)
    (n : RL P md f r df k cs Stop ops rest tm (fun h => St h₀ B₀ p h (L.set i (b, .cells cs2.toArray T' (0, 0))))) :
    RL P md f r df k cs Stop ops (⟨none, .store T x y, ty, pos, aft, gd⟩ :: rest) tm (fun h => St h₀ B₀ p h L) :=
  rl_store hm hs hx hy hL (by rw [hv.1]; rfl) (by rw [hv.1]; simp [hv.2]) (by rw [hv.1]; exact hlen) (by rw [hv.1]; simpa [setl] using h2) n

/-- The literal '[]T{..}' -/
theorem ex_build {dd : Nat} {sT eT : TypeId} {w n : Nat} {parts : List (Nat × Operand)} {vs : List (Nat × Value)} {z : Value} {cells : Array Value} {es : List (List Value)} {h : Heap}
    (hT : P.underlying sT = some (.slice eT)) (hs : sizeT P eT = some w) (hz : zeroT P eT = some z) (hsm : n * w ≤ 2 ^ 24) (hvs : (parts.map fun (i, x) => (i, evl tm x)) = vs)
    (hf : Instr.fill (fun i => some (i * w, w)) ((List.range (n * w)).map (z.cells[· % z.cells.size]!)).toArray vs = some cells) (hc : cells = es.flatten.toArray) (hw : (es.all fun e => e.length == w) = true) (hn : es.length = n)
    (s : St h₀ B₀ p h C) {K : Value → Heap → Prop} (nx : ∀ v X h', OwnS eT w v es X → St h₀ B₀ p h' (X ++ C) → K v h') : Ex P tm ⟨some dd, .buildSlice sT n parts.toArray, ty, pos, aft, gd⟩ h K := by
  have hw' : ∀ e ∈ es, e.length = w := fun e he => by simpa using List.all_eq_true.1 hw e he
  have fin : ∀ b, OwnS eT w (.slice (some ⟨b, 0, none⟩) n n) es [(b, .cells cells eT (0, 0))] := fun b => OwnS.build hc hw' hn (by simpa using hsm)
  rw [← base_eq] at hf
  unfold Ex
  simp only [execOp]
  refine wpS_bind ?_
  unfold Instr.buildSlice
  refine wpS_bind (wpS_underlying hT ?_)
  simp only
  refine wpS_bind (wpS_sizeOf hs ?_)
  rw [if_neg (by omega)]
  by_cases h0 : n * w = 0
  · rw [if_pos h0]
    refine wpS_bind (wpS_pure ?_)
    have hcell : Instr.fill (fun i => some (i * w, w)) ((Array.range (n * w)).map ((#[] : Array Value)[· % (#[] : Array Value).size]!)) vs = some cells := by
      rw [← hf, h0, show Array.range 0 = (#[] : Array Nat) from by simp, Array.map_empty, Array.map_empty]
    simp only [List.map_toArray, hvs, hcell]
    refine wpS_bind (wpS_newRow ?_)
    refine wpS_pure ?_
    exact wpS_pure ⟨_, rfl, nx _ _ _ (fin _) (s.push _)⟩
  · rw [if_neg h0]
    refine wpS_bind (wpS_zeroValue hz ?_)
    refine wpS_bind (wpS_pure ?_)
    simp only [List.map_toArray, hvs, hf]
    refine wpS_bind (wpS_newRow ?_)
    refine wpS_pure ?_
    exact wpS_pure ⟨_, rfl, nx _ _ _ (fin _) (s.push _)⟩

theorem rl_buildO {dd : Nat} {sT eT : TypeId} {w n : Nat} {parts : List (Nat × Operand)} {vs : List (Nat × Value)} {z : Value} {cells : Array Value} {es : List (List Value)} (A : Pcs)
    (hm : Met ops tm ⟨some dd, .buildSlice sT n parts.toArray, ty, pos, aft, gd⟩ true)
    (hT : P.underlying sT = some (.slice eT)) (hs : sizeT P eT = some w) (hz : zeroT P eT = some z) (hsm : n * w ≤ 2 ^ 24) (hvs : (parts.map fun (i, x) => (i, evl tm x)) = vs)
    (hf : Instr.fill (fun i => some (i * w, w)) ((List.range (n * w)).map (z.cells[· % z.cells.size]!)).toArray vs = some cells) (hc : cells = es.flatten.toArray) (hw : (es.all fun e => e.length == w) = true) (hn : es.length = n)
    (nx : ∀ v X, OwnS eT w v es X → RL P md f r df k cs Stop ops rest (tm.set dd v) (fun h => St h₀ B₀ p h (A ++ (X ++ C)))) :
    RL P md f r df k cs Stop ops (⟨some dd, .buildSlice sT n parts.toArray, ty, pos, aft, gd⟩ :: rest) tm (fun h => St h₀ B₀ p h (A ++ C)) :=
  rl_step (K := fun v h' => ∃ X, OwnS eT w v es X ∧ St h₀ B₀ p h' (A ++ (X ++ C))) hm rfl (fun h s => ex_build hT hs hz hsm hvs hf hc hw hn s fun v X h' o s' => ⟨X, o, s'.perm (by
    rw [← List.append_assoc, ← List.append_assoc]; exact List.Perm.append_right C List.perm_append_comm)⟩) fun v => rl_ex fun X => rl_and fun o => nx v X o

theorem mix_buildO {dd : Nat} {sT eT : TypeId} {w n : Nat} {parts : List (Nat × Operand)} {vs : List (Nat × Value)} {z : Value} {cells : Array Value} {es : List (List Value)} {q : Value → Pcs → Prop} (hm : Met ops tm ⟨some dd, .buildSlice sT n parts.toArray, ty, pos, aft, gd⟩ true)
    (hT : P.underlying sT = some (.slice eT)) (hs : sizeT P eT = some w) (hz : zeroT P eT = some z) (hsm : n * w ≤ 2 ^ 24) (hvs : (parts.map fun (i, x) => (i, evl tm x)) = vs)
    (hf : Instr.fill (fun i => some (i * w, w)) ((List.range (n * w)).map (z.cells[· % z.cells.size]!)).toArray vs = some cells) (hc : cells = es.flatten.toArray) (hw : (es.all fun e => e.length == w) = true) (hn : es.length = n)
    (hq : ∀ v x, OwnS eT w v es x → q v x) : Mix P md ops tm h₀ B₀ p A [] q ⟨some dd, .buildSlice sT n parts.toArray, ty, pos, aft, gd⟩ :=
  mix_ex hm fun _ _ s => ex_build hT hs hz hsm hvs hf hc hw hn s fun _ X _ o s' => ⟨X, hq _ _ o, s'⟩

theorem rl_appendO {dd : Nat} {sT xT eT eX : TypeId} {w by' : Nat} {xo yo : Operand} {v x z : Value} {es news : List (List Value)} (A X Y : Pcs) (hm : Met ops tm ⟨some dd, .call ⟨.builtin .append, #[xo, yo], #[sT, xT]⟩, ty, pos, aft, gd⟩ true)
    (hT : P.underlying sT = some (.slice eT)) (hs : sizeT P eT = some w) (hz : zeroT P eT = some z) (hzs : z.cells.size = w) (hby : bytesT P eT = some by') (hx : P.underlying xT = some (.slice eX))
    (ev1 : evl tm xo = v) (ev2 : evl tm yo = x) (o1 : OwnS eT w v es X) (o2 : OwnS eT w x news Y) (h1 : ∀ u ∈ news.flatten, isOne u = true)
    (room : (es.length + news.length) * by' ≤ 2 ^ 40) (hb2 : 0 < by' ∧ by' ≤ 2 ^ 20)
    (nx : ∀ v' X', OwnS eT w v' (es ++ news) X' → RL P md f r df k cs Stop ops rest (tm.set dd v') (fun h => St h₀ B₀ p h (A ++ (X' ++ C)))) :
    RL P md f r df k cs Stop ops (⟨some dd, .call ⟨.builtin .append, #[xo, yo], #[sT, xT]⟩, ty, pos, aft, gd⟩ :: rest) tm (fun h => St h₀ B₀ p h (A ++ (X ++ (Y ++ C)))) :=
  rl_step (K := fun v' h' => ∃ X', OwnS eT w v' (es ++ news) X' ∧ St h₀ B₀ p h' (A ++ (X' ++ C))) hm rfl (fun h s => ex_append A hT hs hz hzs hby hx ev1 ev2 o1 s (src_ownS (L₁ := A ++ X) o2 (by rw [List.append_assoc]; exact s)) h1 room hb2 fun v' X' h' o' s' => ⟨X', o', s'.sub
      ((List.Sublist.refl A).append ((List.Sublist.refl X').append (List.sublist_append_right Y C)))⟩) fun v' => rl_ex fun X' => rl_and fun o' => nx v' X' o'

theorem rl_appendP {dd : Nat} {sT xT eT eX : TypeId} {w by' n cap : Nat} {a : Option Addr} {xo yo : Operand} {v z : Value} {es news : List (List Value)} (A X : Pcs) (hm : Met ops tm ⟨some dd, .call ⟨.builtin .append, #[xo, yo], #[sT, xT]⟩, ty, pos, aft, gd⟩ true)
    (hT : P.underlying sT = some (.slice eT)) (hs : sizeT P eT = some w) (hz : zeroT P eT = some z) (hzs : z.cells.size = w) (hby : bytesT P eT = some by') (hx : P.underlying xT = some (.slice eX))
    (ev1 : evl tm xo = v) (ev2 : evl tm yo = .slice a n cap) (o1 : OwnS eT w v es X) (o2 : Sl p a n w news) (h1 : ∀ u ∈ news.flatten, isOne u = true)
    (room : (es.length + n) * by' ≤ 2 ^ 40) (hb2 : 0 < by' ∧ by' ≤ 2 ^ 20) (hw0 : 0 < w)
    (nx : ∀ v' X', OwnS eT w v' (es ++ news) X' → RL P md f r df k cs Stop ops rest (tm.set dd v') (fun h => St h₀ B₀ p h (A ++ (X' ++ C)))) :
    RL P md f r df k cs Stop ops (⟨some dd, .call ⟨.builtin .append, #[xo, yo], #[sT, xT]⟩, ty, pos, aft, gd⟩ :: rest) tm (fun h => St h₀ B₀ p h (A ++ (X ++ C))) :=
  rl_step (K := fun v' h' => ∃ X', OwnS eT w v' (es ++ news) X' ∧ St h₀ B₀ p h' (A ++ (X' ++ C))) hm rfl (fun _ s => ex_append A hT hs hz hzs hby hx ev1 ev2 o1 s (src_per s hw0 o2) h1 room hb2 fun _ X' _ o' s' => ⟨X', o', s'⟩) fun v' => rl_ex fun X' => rl_and fun o' => nx v' X' o'
end
end Go.X
namespace Go.X
open Go.Conc

/-- A call of a function value. -/
def CallV (P : Program) (md : Md) (fv : Value) (args : List Value) (h : Heap) (R : Value → Heap → Prop) : Prop :=
  ∀ (c : Frame) (cs : List Frame) (Stop : Goroutine → Heap → Prop), (∀ v h', R v h' → Reach P md (G (c.finish v) cs) h' Stop) →
    wpS P (do let d ← Deferred.ofValue fv args.toArray; invoke d.target d.args) h (Upon P md c cs Stop)

section
variable {P : Program} {md : Md} {h : Heap} {R R' : Value → Heap → Prop}
theorem CallV.mono {fv : Value} {args : List Value} (x : CallV P md fv args h R) (y : ∀ v h', R v h' → R' v h') : CallV P md fv args h R' :=
  fun c cs Stop z => x c cs Stop fun v h' r => z v h' (y v h' r)

theorem callv_of {g : FuncId} {first cap args : List Value} (hg : callable P g = true) (x : CallsX P md g (first ++ (args ++ cap)).toArray h R) : CallV P md (.func (.func g) first.toArray cap.toArray) args h R := by
  intro c cs Stop z
  refine wpS_bind ?_
  unfold Deferred.ofValue
  refine wpS_pure ?_
  simp only [invoke]
  refine wpS_callFunc hg ?_
  show Reach P md (G (Frame.enter P g _ .normal) (c :: cs)) h Stop
  have e : (first.toArray ++ args.toArray ++ cap.toArray) = (first ++ (args ++ cap)).toArray := by simp
  rw [e]
  exact x c cs Stop z
end

section
variable {P : Program} {md : Md} {f : FuncId} {r : Rd} {df : List Deferred} {k : List Item} {cs : List Frame} {Stop : Goroutine → Heap → Prop}
  {ops rest : List Oper} {tm tm' : List Value} {h : Heap} {Φ : Heap → Prop} {h₀ : Heap} {B₀ : List Nat} {p : PHeap} {L : Pcs}

theorem rl_callv [Stb Φ] {args : List Operand} {ats : Array TypeId} {d : Option Tmp} {ty : TypeId} {pos : String} {aft : Array Edge} {gd : Option (Nat × Bool)} {x : Operand} {fv : Value} {vs : List Value} {R : Value → Heap → Prop}
    (hm : Met ops tm ⟨d, .call ⟨.value x, args.toArray, ats⟩, ty, pos, aft, gd⟩ true) (hx : evl tm x = fv) (hvs : args.map (evl tm) = vs)
    (hc : ∀ h, Φ h → CallV P md fv vs h R) (n : ∀ v, RL P md f r df k cs Stop ops rest (putl tm d v) (R v)) :
    RL P md f r df k cs Stop ops (⟨d, .call ⟨.value x, args.toArray, ats⟩, ty, pos, aft, gd⟩ :: rest) tm Φ := by
  intro pre e
  rw [rl_next]
  refine rs_op (rl_at e) (wanted_of_met hm) B_kind (.inr rfl) fun h y => ?_
  rw [ev_toArray]
  have := hc h y (F (B f r) tm.toArray df (.inRegion ops.toArray (pre.length :: List.range' (pre.length + 1) rest.length) :: k)) cs Stop fun v h' hR => by
    rw [finish_region (rl_at e), put_toArray]
    have := n v (pre ++ [⟨d, .call ⟨.value x, args.toArray, ats⟩, ty, pos, aft, gd⟩]) (by simp [e]) h' hR
    simpa [FL] using this
  simp only [execOp, resolve, hx, List.map_toArray, hvs]
  exact this

/-- 'yield': a round of the loop. -/
theorem callv_yield {l : Nat} {lp : Loop} {vs : List Value} {R : Value → Heap → Prop} (hl : h[l]? = some (.loop lp)) (hp : vs.length = lp.params.size)
    (ht : ((lp.params.zip vs.toArray).foldl (fun tmps (t, a) => tmps.setIfInBounds t a) lp.tmps) = tm'.toArray)
    (x : ∀ (c : Frame) (cs : List Frame) (Stop : Goroutine → Heap → Prop), (∀ v h', R v h' → Reach P md (G (c.finish v) cs) h' Stop) →
      RS P md (G (FL lp.fn (.some l) tm' [] [.code lp.assign, .beginRound, .code lp.body]) (c :: cs)) Φ Stop) (h0 : Φ h) : CallV P md (.func (.yield l) #[] #[]) vs h R := by
  intro c cs Stop z
  refine wpS_bind ?_
  unfold Deferred.ofValue
  refine wpS_pure ?_
  simp only [invoke]
  unfold Instr.yield Instr.getLoop
  refine wpS_bind ?_
  refine wpS_bind ?_
  simp only [getObj, wpS, hl]
  refine ⟨rfl, ?_⟩
  refine wpS_pure ?_
  rw [if_neg (by simpa using hp)]
  refine wpS_pure ?_
  show Reach P md (G (Frame.round l lp.fn _ lp.assign lp.body .normal) (c :: cs)) h Stop
  have e : (#[] : Array Value) ++ vs.toArray = vs.toArray := by simp
  rw [e, ht]
  exact x c cs Stop z h h0

theorem wpS_getLoop {l : Nat} {lp : Loop} {K : Loop → Heap → Prop} (hl : h[l]? = some (.loop lp)) (x : K lp h) : wpS P (Instr.getLoop l) h K := by
  unfold Instr.getLoop
  refine wpS_bind ?_
  simp only [getObj, wpS, hl]
  exact ⟨rfl, wpS_pure x⟩
theorem wpS_setLoop {l : Nat} {lp lp' : Loop} {K : Unit → Heap → Prop} (hl : h[l]? = some (.loop lp)) (x : K () (h.setIfInBounds l (.loop lp'))) : wpS P (setObj l (.loop lp')) h K := by
  simp only [setObj, wpS, hl]
  exact ⟨rfl, rfl, x⟩

theorem St.setObj (s : St h₀ B₀ p h L) {i b : Nat} {o o' : Obj} (hL : L[i]? = some (b, o)) : St h₀ B₀ p (h.setIfInBounds b o') (L.set i (b, o')) :=
  s.turn hL (by rw [Array.getElem?_setIfInBounds_self_of_lt (lt_of_get (s.at hL))]) (by simp) fun c hc => by rw [Array.getElem?_setIfInBounds_ne (Ne.symm hc)]

/-- A round begins. -/
theorem fl_begin {l i : Nat} {lp : Loop} (hL : L[i]? = some (l, .loop lp)) (hr : lp.state = .ready)
    (x : RS P md (G (FL f (.some l) tm df k) cs) (fun h => St h₀ B₀ p h (L.set i (l, .loop { lp with state := .busy }))) Stop) :
    RS P md (G (FL f (.some l) tm df (.beginRound :: k)) cs) (fun h => St h₀ B₀ p h L) Stop := by
  refine rs_apply (show (B f (.some l)).kind ≠ .early from B_kind) rfl (fun w => rfl) fun h s => ?_
  show wpS P (do Instr.beginRound l; pure Next.skip) h _
  refine wpS_bind ?_
  unfold Instr.beginRound
  refine wpS_bind (wpS_getLoop (s.at hL) ?_)
  refine wpS_bind (wpS_setLoop (s.at hL) ?_)
  rw [hr]
  refine wpS_pure ?_
  refine wpS_pure ?_
  exact x _ (s.setObj hL)

theorem rs_leave {l i : Nat} {lp lp' : Loop} {c : Frame} {jump : Option Code} {v : Value} (hL : L[i]? = some (l, .loop lp)) (hv : v = .bool jump.isNone) (hl : { lp with state := if jump.isNone then .ready else .done, pending := jump } = lp')
    (hstep : ∀ w, stepG P md.isMain (G (FL f (.some l) tm df k) (c :: cs)) w = (let (r, es) := (Instr.endRound l jump).runT P w #[]
        GStep.after (seen P f es) <| match r with
        | .ok v w => doReturn P md.isMain (FL f (.some l) tm df k) (c :: cs) none v w
        | .halt _ w => .ended (.stuck "range over a function: no such loop" ((FL f (.some l) tm df k).pos P)) w))
    (x : RS P md (G (c.finish v) cs) (fun h => St h₀ B₀ p h (L.set i (l, .loop lp'))) Stop) :
    RS P md (G (FL f (.some l) tm df k) (c :: cs)) (fun h => St h₀ B₀ p h L) Stop := by
  intro h s
  refine reach_step ⟨rfl, fun h₁ k₁ S w V => ?_⟩
  have s₁ := s.call k₁
  have hx : wpS P (Instr.endRound l jump) h₁ fun v' h' => v' = v ∧ St h₀ B₀ p h' (L.set i (l, .loop lp')) := by
    unfold Instr.endRound
    refine wpS_bind (wpS_getLoop (s₁.at hL) ?_)
    refine wpS_bind (wpS_setLoop (s₁.at hL) ?_)
    refine wpS_pure ⟨hv.symm, ?_⟩
    rw [← hl]
    exact s₁.setObj hL
  obtain ⟨v', h', w', es, e1, e2, ⟨e3, e4⟩, e5, e6, e7⟩ := wpS_run _ #[] hx V
  subst e3
  refine ⟨_, h', w', seen P f es, ?_, x h' e4, e5, e6, evL_seen e7⟩
  rw [hstep w]
  simp only [Array.empty_append] at e1
  simp only [e1, GStep.after, doReturn, FL, F, B, Rd.kind, Rd.round, G, Array.append_empty]

/-- A round comes to its end. -/
theorem fl_rend {l i : Nat} {lp lp' : Loop} {c : Frame} (hL : L[i]? = some (l, .loop lp)) (hl : { lp with state := .ready, pending := none } = lp')
    (x : RS P md (G (c.finish (.bool true)) cs) (fun h => St h₀ B₀ p h (L.set i (l, .loop lp'))) Stop) :
    RS P md (G (FL f (.some l) tm df []) (c :: cs)) (fun h => St h₀ B₀ p h L) Stop :=
  rs_leave hL rfl (jump := none) (by simpa using hl) (fun _ => rfl) x
/-- Behind the loop. -/
theorem fl_endRange {l i : Nat} {lp : Loop} (hL : L[i]? = some (l, .loop lp)) (hb : lp.state ≠ .busy)
    (x : RS P md (G (FL f r tm df ((lp.pending.map Item.code).toList ++ k)) cs) (fun h => St h₀ B₀ p h (L.set i (l, .loop { lp with state := .exhausted }))) Stop) :
    RS P md (G (FL f r tm df (.endRangeFunc l :: k)) cs) (fun h => St h₀ B₀ p h L) Stop := by
  intro h s
  refine reach_step ⟨rfl, fun h₁ k₁ S w V => ?_⟩
  have s₁ := s.call k₁
  have hx : wpS P (Instr.endLoop l) h₁ fun v' h' => v' = lp.pending ∧ St h₀ B₀ p h' (L.set i (l, .loop { lp with state := .exhausted })) := by
    unfold Instr.endLoop
    refine wpS_bind (wpS_getLoop (s₁.at hL) ?_)
    rw [if_neg (by cases h : lp.state <;> simp_all)]
    refine wpS_bind (wpS_setLoop (s₁.at hL) ?_)
    exact wpS_pure ⟨rfl, s₁.setObj hL⟩
  obtain ⟨v', h', w', es, e1, e2, ⟨e3, e4⟩, e5, e6, e7⟩ := wpS_run _ #[] hx V
  subst e3
  refine ⟨_, h', w', seen P f es, ?_, x h' e4, e5, e6, evL_seen e7⟩
  simp only [Array.empty_append] at e1
  simp only [G, stepG, stepG.exec, FL, F, B, e1, GStep.after, Array.append_empty]

def loopOf (f : FuncId) (tm : List Value) (params : Array Tmp) (assign body : Code) (r : Nat) : Loop := { state := .ready, pending := none, fn := f, tmps := tm.toArray, params, assign, body, defers := r }

theorem zip_set : ∀ (l : List (Nat × Value)) (tm : List Value), l.foldl (fun (tmps : Array Value) (q : Nat × Value) => tmps.setIfInBounds q.1 q.2) tm.toArray = (l.foldl (fun tm q => tm.set q.1 q.2) tm).toArray
  | [], _ => rfl
  | q :: l, tm => by
    simp only [List.foldl_cons]
    rw [← zip_set l]; simp

theorem callv_round {l d : Nat} {lp : Loop} {vs : List Value} {R : Value → Heap → Prop} {params : List Tmp} {assign body : Code} (hl : h[l]? = some (.loop lp)) (e : lp = loopOf f tm params.toArray assign body d) (hp : vs.length = params.length)
    (ht : (params.zip vs).foldl (fun tm q => tm.set q.1 q.2) tm = tm')
    (x : ∀ (c : Frame) (cs : List Frame) (Stop : Goroutine → Heap → Prop), (∀ v h', R v h' → Reach P md (G (c.finish v) cs) h' Stop) →
      RS P md (G (FL f (.some l) tm' [] [.code assign, .beginRound, .code body]) (c :: cs)) Φ Stop) (h0 : Φ h) : CallV P md (.func (.yield l) #[] #[]) vs h R := by
  subst e; exact callv_yield hl (by simpa [loopOf] using hp) (by
    show ((params.toArray.zip vs.toArray).foldl (fun (tmps : Array Value) (q : Nat × Value) => tmps.setIfInBounds q.1 q.2) tm.toArray) = _
    rw [List.zip_toArray, List.foldl_toArray, zip_set, ht]) x h0

theorem fl_endNone {l i : Nat} {lp : Loop} (hL : L[i]? = some (l, .loop lp)) (hb : lp.state ≠ .busy) (hp : lp.pending = none)
    (x : RS P md (G (FL f r tm df k) cs) (fun h => St h₀ B₀ p h (L.set i (l, .loop { lp with state := .exhausted }))) Stop) :
    RS P md (G (FL f r tm df (.endRangeFunc l :: k)) cs) (fun h => St h₀ B₀ p h L) Stop := fl_endRange hL hb (by
  have e : (lp.pending.map Item.code).toList ++ k = k := by rw [hp]; rfl
  rw [e]; exact x)
theorem perm_eraseIdx {α : Type} : ∀ {l : List α} {i : Nat} {x : α}, l[i]? = some x → l.Perm (x :: l.eraseIdx i)
  | [], _, _, h => by simp at h
  | a :: l, 0, x, h => by simp at h; subst h; exact .refl _
  | a :: l, i + 1, x, h => ((perm_eraseIdx (l := l) (i := i) (by simpa using h)).cons a).trans (.swap _ _ _)

theorem rs_own {g : Goroutine} {L' : Pcs} (e : L = L') (n : RS P md g (fun h => St h₀ B₀ p h L') Stop) : RS P md g (fun h => St h₀ B₀ p h L) Stop := by subst e; exact n

theorem rs_perm {g : Goroutine} {L' : Pcs} (e : L.Perm L') (n : RS P md g (fun h => St h₀ B₀ p h L') Stop) : RS P md g (fun h => St h₀ B₀ p h L) Stop := fun h s => n h (s.perm e)

theorem St.rot {Z A U : Pcs} (s : St h₀ B₀ p h (Z ++ ((A ++ U) ++ []))) : St h₀ B₀ p h (A ++ (U ++ (Z ++ []))) := s.perm (by
  rw [List.append_nil, List.append_nil, ← List.append_assoc A U Z]; exact List.perm_append_comm)
theorem St.rot' {Z A U : Pcs} (s : St h₀ B₀ p h (A ++ (U ++ (Z ++ [])))) : St h₀ B₀ p h (Z ++ ((A ++ U) ++ [])) := s.perm (by
  rw [List.append_nil, List.append_nil, ← List.append_assoc A U Z]; exact List.perm_append_comm)

def mark (r : Nat) : Deferred := { target := .collected r, args := #[] }

/-- A loop over a function is entered. -/
theorem fl_range {rr : Rd} {fop : Operand} {params : Array Tmp} {assign body : Code} {R : Nat → Nat → Loop → Value → Heap → Prop}
    (hc : ∀ r l lp h, lp = loopOf f tm params assign body r → St h₀ B₀ p h ((l, .loop lp) :: (r, .deferred (some [])) :: L) → CallV P md (evl tm fop) [.func (.yield l) #[] #[]] h (R r l lp))
    (n : ∀ r l lp v, lp = loopOf f tm params assign body r → RS P md (G (FL f rr tm (mark r :: df) (.endRangeFunc l :: k)) cs) (R r l lp v) Stop) (hrr : rr.round = Option.none := by rfl) :
    RS P md (G (FL f rr tm df (.code (.rangeFunc fop params assign body) :: k)) cs) (fun h => St h₀ B₀ p h L) Stop := by
  intro h s
  refine reach_step ⟨rfl, fun h₁ k₁ S w V => ?_⟩
  have s₁ := s.call k₁
  have hx : wpS P (Instr.enterLoop f tm.toArray params assign body none) h₁ fun a h' => ∃ r l, a = (l, [mark r]) ∧
      St h₀ B₀ p h' ((l, .loop (loopOf f tm params assign body r)) :: (r, .deferred (some [])) :: L) := by
    unfold Instr.enterLoop
    refine wpS_bind ?_
    refine wpS_bind ?_
    simp only [newObj]
    refine wpS_pure ?_
    refine wpS_bind ?_
    simp only [wpS]
    exact wpS_pure ⟨_, _, rfl, (s₁.push _).push _⟩
  obtain ⟨a, h', w', es, e1, e2, ⟨r, l, rfl, e4⟩, e5, e6, e7⟩ := wpS_run _ #[] hx V
  have hup := hc r l _ h' rfl e4 (FL f rr tm (mark r :: df) (.inRangeFunc l :: k)) cs Stop fun v h2 y => n r l _ v rfl h2 y
  obtain ⟨nx, h2, w2, es2, g1, g2, g3, g4, g5, g6⟩ := wpS_run _ #[] hup e5
  simp only [Array.empty_append] at e1 g1
  have hstep : stepG P md.isMain (G (FL f rr tm df (.code (.rangeFunc fop params assign body) :: k)) cs) w =
      GStep.after (seen P f es) (stepG.apply P true (FL f rr tm (mark r :: df) (.inRangeFunc l :: k)) cs none (do let d ← Deferred.ofValue (evl tm fop) #[.func (.yield l) #[] #[]]; invoke d.target d.args) w') := by
    have he : Frame.eval (FL f rr tm (mark r :: df) (.inRangeFunc l :: k)) = evl tm := by rw [← ev_toArray]; exact eval_F
    simp only [G, stepG, stepG.exec, FL, F, B, hrr, e1]
    simp only [FL, F, B, hrr] at he
    simp only [resolve, List.map_toArray, List.map_cons, List.map_nil]
    have e3 : ({ fn := f, tmps := tm.toArray, todo := .inRangeFunc l :: k, defers := [mark r] ++ df, mode := .run, kind := rr.kind, roundOf := Option.none } : Frame).eval = evl tm := he
    rw [e3]
    rfl
  have hev : ∀ e ∈ seen P f es ++ seen P f es2, EvX S w2.heap.size e := fun e he => by
    rcases Array.mem_append.1 he with he | he
    · exact evX_mono g5.size (evL_seen e7 e he)
    · exact evL_seen g6 e he
  have hkk : (rr.kind == CallKind.early) = false := by cases rr <;> rfl
  rw [hstep]
  cases nx <;> first | exact g3.elim | skip
  all_goals
    refine ⟨_, h2, w2, seen P f es ++ seen P f es2, ?_, g3, g4, e6.trans g5, hev⟩
    simp only [stepG.apply, if_true]
    simp only [g1, GStep.after, FL, F, B, hrr, hkk, Bool.false_eq_true, if_false, G, Array.append_empty]
    try rfl

/-- What a return that a mark stands ahead of leaves of it. -/
theorem fl_retD {c₀ : Frame} {fn : Func} {rs : List ResultVar} {vs : List Value} {v : Value} {m i : Nat} (hf : P.funcs[f]? = some fn) (hr : fn.results = rs.toArray) (hL : L[i]? = some (m, .deferred (some [])))
    (e : ∀ h, St h₀ B₀ p h (L.set i (m, .deferred none)) → Res P h tm rs vs) (hv : packs vs = v)
    (x : RS P md (G (c₀.finish v) cs) (fun h => St h₀ B₀ p h (L.set i (m, .deferred none))) Stop) : RS P md (G (FL f .none tm [mark m] (.code .ret :: k)) (c₀ :: cs)) (fun h => St h₀ B₀ p h L) Stop :=
  rs_ret (hro := rfl) fun _ => rs_collected (fun _ s => s.at hL) fun _ s => rs_return (Φ := fun h => St h₀ B₀ p h (L.set i (m, .deferred none))) hf rfl (fun h y => wpS_results hr (e h y) hv (x h y)) _ (s.setObj hL)
end

/-! ### blocks of the caller's that a call turns -/
/-- Block 'b' has been turned into 'o', all else stands. -/
structure Turned (h h' : Heap) (b : Nat) (o : Obj) : Prop where
  size : h.size ≤ h'.size
  keep : ∀ c, c < h.size → c ≠ b → h'[c]? = h[c]?
  here : h'[b]? = some o

section
variable {h₀ h h' : Heap} {B₀ : List Nat} {p : PHeap} {L : Pcs}
theorem St.turned {b : Nat} {o : Obj} (s : St h₀ [b] p h L) (i : Nat) (hL : L[i]? = some (b, o)) : Turned h₀ h b o :=
  ⟨s.size, fun c hc hn => s.keep c hc (by simpa using hn), s.at hL⟩
end

section
variable {P : Program} {tm : List Value} {d : Option Tmp} {ty : TypeId} {pos : String} {aft : Array Edge} {gd : Option (Nat × Bool)} {h : Heap}
theorem exd_nilCheck {x : Operand} {a : Addr} (hx : evl tm x = .pointer (some a)) : Exd P tm ⟨d, .nilCheck x, ty, pos, aft, gd⟩ h (.pointer (some a)) := by
  unfold Exd Ex; simp only [execOp, hx]; exact wpS_pure ⟨_, rfl, rfl, rfl⟩

variable {md : Md} {f : FuncId} {r : Rd} {df : List Deferred} {k : List Item} {cs : List Frame} {Stop : Goroutine → Heap → Prop} {ops rest : List Oper} {tm' : List Value} {Φ : Heap → Prop}
theorem rl_callvd [sb : Stb Φ] {args : List Operand} {ats : Array TypeId} {x : Operand} {fv v : Value} {vs : List Value}
    (hm : Met ops tm ⟨d, .call ⟨.value x, args.toArray, ats⟩, ty, pos, aft, gd⟩ true) (hx : evl tm x = fv) (hvs : args.map (evl tm) = vs)
    (hc : ∀ h, Φ h → CallV P md fv vs h fun v' h' => v' = v ∧ Keep h h') (ht : putl tm d v = tm') (n : RL P md f r df k cs Stop ops rest tm' Φ) :
    RL P md f r df k cs Stop ops (⟨d, .call ⟨.value x, args.toArray, ats⟩, ty, pos, aft, gd⟩ :: rest) tm Φ :=
  rl_callv (R := fun v' h' => v' = v ∧ Φ h') hm hx hvs (fun h y => (hc h y).mono fun _ h' ⟨e1, e2⟩ => ⟨e1, sb.stb _ _ y e2⟩) fun v' pre e h ⟨e1, y⟩ => by subst e1; rw [ht]; exact n pre e h y
end
end Go.X
namespace Go.X
open Go.Conc

def adrV : Value → Addr
  | .slice (some a) _ _ => a
  | _ => ⟨0, 0, none⟩

theorem flatten_set {w : Nat} {y : Value} : ∀ {es : List (List Value)}, (∀ e ∈ es, e.length = w) → ∀ {i j : Nat} {e : List Value}, es[i]? = some e → j < e.length → es.flatten.set (i * w + j) y = (es.set i (e.set j y)).flatten
  | [], _, i, _, e, hi, _ => by simp at hi
  | e₀ :: es, h, i, j, e, hi, hj => by
    have h0 := h e₀ (by simp)
    cases i with
    | zero =>
      simp at hi; subst hi
      rw [Nat.zero_mul, Nat.zero_add, List.flatten_cons, List.set_cons_zero, List.flatten_cons, List.set_append_left _ _ hj]
    | succ i =>
      simp at hi
      have := flatten_set (y := y) (fun x hx => h x (by simp [hx])) hi hj
      rw [List.flatten_cons, List.set_cons_succ, List.flatten_cons, List.set_append_right _ _ (by rw [h0, Nat.succ_mul]; omega), ← this]
      congr 2
      rw [h0, Nat.succ_mul]; omega

theorem OwnS.has {T : TypeId} {w i : Nat} {v : Value} {es : List (List Value)} {X : List (Nat × Obj)} (o : OwnS T w v es X) (hi : i < es.length) :
    ∃ b cs cap rest, v = .slice (some ⟨b, 0, none⟩) es.length cap ∧ X = [(b, .cells (List.toArray cs) T (0, 0))] ∧ cs = es.flatten ++ rest ∧ cs.length = cap * w ∧ (w = 1 → cap ≤ 9223372036854775807) := by
  obtain ⟨_, ⟨_, h, _⟩ | h⟩ := o
  · subst h; simp at hi
  · exact h

section
variable {P : Program} {md : Md} {f : FuncId} {r : Rd} {df : List Deferred} {k : List Item} {cs : List Frame} {Stop : Goroutine → Heap → Prop}
  {ops rest : List Oper} {tm tm' : List Value} {h : Heap} {h₀ : Heap} {B₀ : List Nat} {p : PHeap} {A X C L : Pcs} {d : Option Tmp} {ty : TypeId} {pos : String} {aft : Array Edge} {gd : Option (Nat × Bool)}
  {T : TypeId} {w : Nat} {v : Value} {es : List (List Value)}

theorem exd_lenO {t e : TypeId} {x : Operand} (o : OwnS T w v es X) (ht : P.underlying t = some (.slice e)) (hx : evl tm x = v) :
    Exd P tm ⟨d, .call ⟨.builtin .len, #[x], #[t]⟩, ty, pos, aft, gd⟩ h (.int .i64 (es.length : Nat)) := by
  obtain ⟨a, cap, e, _⟩ := o.val
  exact exd_len ht (hx.trans e)

theorem exd_lenN {t e : TypeId} {x : Operand} {n : Nat} (o : OwnS T w v es X) (hn : es.length = n) (ht : P.underlying t = some (.slice e)) (hx : evl tm x = v) :
    Exd P tm ⟨d, .call ⟨.builtin .len, #[x], #[t]⟩, ty, pos, aft, gd⟩ h (.int .i64 (n : Nat)) := by subst hn; exact exd_lenO o ht hx

theorem exd_indexO {t e : TypeId} {x y : Operand} {i : Nat} (o : OwnS T w v es X) (ht : P.underlying t = some (.slice e)) (hs : sizeT P e = some w) (hx : evl tm x = v) (hy : evl tm y = .int .i64 (i : Nat)) (hi : i < es.length) :
    Exd P tm ⟨d, .indexAddr t x y, ty, pos, aft, gd⟩ h (.pointer (some ((adrV v).add (i * w)))) := by
  obtain ⟨b, cs, cap, rest, e1, _⟩ := o.has hi
  rw [e1] at hx ⊢
  exact exd_indexAddrN ht hs hx hy hi

theorem exd_loadO {t : TypeId} {x : Operand} {i j : Nat} {e : List Value} {u : Value} {a : Addr} (o : OwnS T w v es X) (s : St h₀ B₀ p h (A ++ (X ++ C))) (ht : aggT P t = some false) (hx : evl tm x = .pointer (some a)) (ha : ((adrV v).add (i * w)).add j = a)
    (hi : es[i]? = some e) (hj : e[j]? = some u) : Exd P tm ⟨d, .load t x, ty, pos, aft, gd⟩ h u := by
  obtain ⟨b, cs, cap, rest, e1, e2, e3, e4, e5⟩ := o.has (List.getElem?_eq_some_iff.1 hi).1
  subst e1; subst e2; subst ha
  refine exd_load ht hx ?_
  simp only [adrV]
  rw [add_mk, add_mk]
  refine s.ocell (i := A.length) (cs := cs.toArray) (T := T) (z := (0, 0)) (by rw [List.getElem?_append_right (Nat.le_refl _)]; simp) ?_
  have := flatten_get o.1 hi hj
  rw [List.getElem?_toArray, e3, Nat.zero_add, List.getElem?_append_left (List.getElem?_eq_some_iff.1 this).1]
  exact this

/-- A store into an element's cell. -/
theorem rl_storeO {T' : TypeId} {x y : Operand} {i j : Nat} {e : List Value} {u : Value} {a : Addr} (o : OwnS T w v es X) (hm : Met ops tm ⟨none, .store T' x y, ty, pos, aft, gd⟩ true) (hs : sizeT P T' = some 1) (hx : evl tm x = .pointer (some a)) (ha : ((adrV v).add (i * w)).add j = a)
    (hy : evl tm y = u) (hv : u.cells = #[u] ∧ isOne u = true) (hi : es[i]? = some e) (hj : j < e.length)
    (n : ∀ X', OwnS T w v (es.set i (e.set j u)) X' → RL P md f r df k cs Stop ops rest tm (fun h => St h₀ B₀ p h (A ++ (X' ++ C)))) :
    RL P md f r df k cs Stop ops (⟨none, .store T' x y, ty, pos, aft, gd⟩ :: rest) tm (fun h => St h₀ B₀ p h (A ++ (X ++ C))) := by
  have hil := (List.getElem?_eq_some_iff.1 hi).1
  obtain ⟨b, cs', cap, rs, e1, e2, e3, e4, ec⟩ := o.has hil
  have hlt : i * w + j < es.flatten.length := (List.getElem?_eq_some_iff.1 (flatten_get o.1 hi (List.getElem?_eq_getElem hj))).1
  have he : e.length = w := o.1 e (List.mem_of_getElem? hi)
  subst e1; subst e2; subst ha
  have e5 : cs'.set (i * w + j) u = (es.set i (e.set j u)).flatten ++ rs := by
    rw [e3, List.set_append_left _ _ hlt, flatten_set o.1 hi hj]
  have o' : OwnS T w (.slice (some ⟨b, 0, none⟩) es.length cap) (es.set i (e.set j u)) [(b, .cells (cs'.set (i * w + j) u).toArray T (0, 0))] := by
    refine ⟨fun z hz => ?_, .inr ⟨b, cs'.set (i * w + j) u, cap, rs, by simp, rfl, e5, by simpa using e4, ec⟩⟩
    rcases List.mem_or_eq_of_mem_set hz with h | h
    · exact o.1 z h
    · subst h; simpa using he
  have hx' : evl tm x = .pointer (some ⟨b, i * w + j, none⟩) := by
    rw [hx]; simp only [adrV]; rw [add_mk, add_mk, Nat.zero_add]
  refine rl_store1 (i := A.length) (b := b) (off := i * w + j) (cs' := cs') (T' := T) hm hs hx' hy hv (by rw [List.getElem?_append_right (Nat.le_refl _)]; simp) (by rw [e3, List.length_append]; omega) rfl ?_
  have e6 : (A ++ ([(b, Obj.cells (List.toArray cs') T (0, 0))] ++ C)).set A.length (b, .cells (cs'.set (i * w + j) u).toArray T (0, 0)) = A ++ ([(b, .cells (cs'.set (i * w + j) u).toArray T (0, 0))] ++ C) := by
    rw [List.set_append_right _ _ (Nat.le_refl _)]; simp
  rw [e6]
  exact n _ o'

/-- A slice of one's own lasts from now on. -/
theorem rl_lastO (o : OwnS T w v es X) (n : ∀ p' a cap, PLe p p' → v = .slice a es.length cap → Sl p' a es.length w es → RL P md f r df k cs Stop ops rest tm (fun h => St h₀ B₀ p' h (A ++ C))) :
    RL P md f r df k cs Stop ops rest tm (fun h => St h₀ B₀ p h (A ++ (X ++ C))) := fun pre e h s => by
  obtain ⟨p', a, cap, h1, h2, h3, h4, _⟩ := o.last (s.perm (by rw [← List.append_assoc, ← List.append_assoc]; exact List.Perm.append_right C List.perm_append_comm) : St h₀ B₀ p h (X ++ (A ++ C)))
  exact n p' a cap h1 h3 h4 pre e h h2
theorem rs_lastO {g : Goroutine} (o : OwnS T w v es X) (n : ∀ p' a cap, PLe p p' → v = .slice a es.length cap → Sl p' a es.length w es → RS P md g (fun h => St h₀ B₀ p' h (A ++ C)) Stop) :
    RS P md g (fun h => St h₀ B₀ p h (A ++ (X ++ C))) Stop := fun h s => by
  obtain ⟨p', a, cap, h1, h2, h3, h4, _⟩ := o.last (s.perm (by rw [← List.append_assoc, ← List.append_assoc]; exact List.Perm.append_right C List.perm_append_comm) : St h₀ B₀ p h (X ++ (A ++ C)))
  exact n p' a cap h1 h3 h4 h h2

theorem rl_lastN {n : Nat} (o : OwnS T w v es X) (hn : es.length = n) (nx : ∀ p' a cap, PLe p p' → v = .slice a n cap → Sl p' a n w es → RL P md f r df k cs Stop ops rest tm (fun h => St h₀ B₀ p' h (A ++ C))) :
    RL P md f r df k cs Stop ops rest tm (fun h => St h₀ B₀ p h (A ++ (X ++ C))) := by subst hn; exact rl_lastO o nx

/-- For a call, a block of one's own lasts. -/
theorem St.perO {b i : Nat} {o : Obj} (s : St h₀ B₀ p h L) (hL : L[i]? = some (b, o)) : Per (padd p b o) h := fun c x hc => by
  unfold padd at hc
  split at hc
  · rename_i e; subst e; cases hc; exact s.at hL
  · exact s.per c x hc
theorem St.leO {b i : Nat} {o : Obj} (s : St h₀ B₀ p h L) (hL : L[i]? = some (b, o)) : PLe p (padd p b o) := padd_le (s.own _ (mem_of_get? hL)).2.1
end

section
variable {P : Program} {md : Md} {Base : Heap → Prop} {ops rest : List Oper} {tm tm' tmF : List Value} {d : Option Tmp} {ty : TypeId} {pos : String} {aft : Array Edge} {gd : Option (Nat × Bool)}
end
section
variable {P : Program} {md : Md} {Base : Heap → Prop} {ops full rest : List Oper} {f : FuncId} {r : Rd} {df : List Deferred} {k : List Item} {cs : List Frame} {Stop : Goroutine → Heap → Prop} {tm tm' : List Value}
end
end Go.X
namespace Go.X
open Go.Conc
theorem rs_lastN {P : Program} {md : Md} {Stop : Goroutine → Heap → Prop} {h₀ : Heap} {B₀ : List Nat} {p : PHeap} {A X C : Pcs} {T : TypeId} {w : Nat} {v : Value} {es : List (List Value)} {g : Goroutine} {n : Nat} (o : OwnS T w v es X) (hn : es.length = n)
    (nx : ∀ p' a cap, PLe p p' → v = .slice a n cap → Sl p' a n w es → RS P md g (fun h => St h₀ B₀ p' h (A ++ C)) Stop) : RS P md g (fun h => St h₀ B₀ p h (A ++ (X ++ C))) Stop := by
  subst hn; exact rs_lastO o nx
section
variable {P : Program} {h₀ h : Heap} {B₀ : List Nat} {p : PHeap} {A X C L : Pcs} {T : TypeId} {w : Nat} {v : Value} {es : List (List Value)}
variable {tm : List Value} {d : Option Tmp} {ty : TypeId} {pos : String} {aft : Array Edge} {gd : Option (Nat × Bool)}
/-- A load from a slice of one's own, wherever it stands. -/
theorem exd_loadM {t : TypeId} {x : Operand} {i j : Nat} {e : List Value} {u : Value} {a : Addr} (o : OwnS T w v es X) (s : St h₀ B₀ p h L) (hX : ∀ x ∈ X, x ∈ L) (ht : aggT P t = some false) (hx : evl tm x = .pointer (some a)) (ha : ((adrV v).add (i * w)).add j = a)
    (hi : es[i]? = some e) (hj : e[j]? = some u) : Exd P tm ⟨d, .load t x, ty, pos, aft, gd⟩ h u := by
  obtain ⟨b, cs, cap, rest, e1, e2, e3, e4, _⟩ := o.has (List.getElem?_eq_some_iff.1 hi).1
  subst e1; subst e2; subst ha
  refine exd_load ht hx ?_
  simp only [adrV]
  rw [add_mk, add_mk]
  obtain ⟨q, hq⟩ := List.getElem?_of_mem (hX (b, .cells cs.toArray T (0, 0)) (by simp))
  refine s.ocell (i := q) (cs := cs.toArray) (T := T) (z := (0, 0)) hq ?_
  have := flatten_get o.1 hi hj
  rw [List.getElem?_toArray, e3, Nat.zero_add, List.getElem?_append_left (List.getElem?_eq_some_iff.1 this).1]
  exact this
end
end Go.X
namespace Go.X
open Go.Conc

/-- A bound of a part: none, or a number. -/
inductive Bd (tm : List Value) : Option Operand → Nat → Nat → Prop
  | none (d : Nat) : Bd tm none d d
  | some {o : Operand} {k : IntKind} {z : Int} (d : Nat) (h : evl tm o = .int k z) (h0 : 0 ≤ z) : Bd tm (some o) d z.toNat
  | nat {o : Operand} {k : IntKind} {z : Nat} (d : Nat) (h : evl tm o = .int k (z : Nat)) : Bd tm (some o) d z
def cutA (a : Option Addr) (c l w : Nat) : Option Addr := if c = l then a else a.map (·.add (l * w))

section
variable {P : Program} {h : Heap} {tm : List Value} {d : Option Tmp} {ty : TypeId} {pos : String} {aft : Array Edge} {gd : Option (Nat × Bool)}
theorem wpS_sliceBound {k : IntKind} {z : Int} {y : Nat} {code : BoundsCode} {K : Nat → Heap → Prop} (h0 : 0 ≤ z) (h1 : z ≤ (y : Nat)) (x : K z.toNat h) : wpS P (Instr.sliceBound (.int k z) y code) h K := by
  unfold Instr.sliceBound
  refine wpS_bind (wpS_pure ?_)
  simp only
  rw [if_pos ⟨h0, h1⟩]
  exact wpS_pure x
theorem wpS_sliceBounds {b : Bool} {n c l r : Nat} {lo hi : Option Operand} {K : Nat × Nat × Nat → Heap → Prop} (bl : Bd tm lo 0 l) (bh : Bd tm hi n r) (h1 : l ≤ r) (h2 : r ≤ c) (x : K (l, r, c) h) :
    wpS P (Instr.sliceBounds b n c (lo.map (evl tm)) (hi.map (evl tm)) none) h K := by
  unfold Instr.sliceBounds
  refine wpS_bind (wpS_pure ?_)
  have low : ∀ (b' : Bool), wpS P (match lo.map (evl tm) with | some v => do { let l ← Instr.sliceBound v r (if b' then .slice3C else .sliceB); pure (l, r, c) } | none => do { let l ← pure 0; pure (l, r, c) }) h K := by
    intro b'
    cases bl with
    | none => exact wpS_bind (wpS_pure (wpS_pure x))
    | some _ e h0 => simp only [Option.map_some, e]; exact wpS_bind (wpS_sliceBound h0 (by omega) (wpS_pure x))
    | nat _ e => simp only [Option.map_some, e]; exact wpS_bind (wpS_sliceBound (Int.natCast_nonneg _) (by omega) (wpS_pure (by simpa using x)))
  cases bh with
  | none =>
    simp only [Option.map_none]
    refine wpS_bind (wpS_pure ?_)
    exact low _
  | some _ e h0 =>
    simp only [Option.map_some, e]
    refine wpS_bind (wpS_sliceBound h0 (by omega) ?_)
    exact low _
  | nat _ e =>
    simp only [Option.map_some, e]
    refine wpS_bind (wpS_sliceBound (Int.natCast_nonneg _) (by omega) ?_)
    rw [Int.toNat_natCast]
    exact low _

theorem exd_slice {t e : TypeId} {x : Operand} {lo hi : Option Operand} {w n c l r : Nat} {a : Option Addr} (ht : P.underlying t = some (.slice e)) (hs : sizeT P e = some w) (hx : evl tm x = .slice a n c) (bl : Bd tm lo 0 l) (bh : Bd tm hi n r)
    (h1 : l ≤ r) (h2 : r ≤ c) : Exd P tm ⟨d, .slice t x lo hi none, ty, pos, aft, gd⟩ h (.slice (cutA a c l w) (r - l) (c - l)) := by
  refine exd_of (s := Instr.sliceAt t (.slice a n c) (lo.map (evl tm)) (hi.map (evl tm)) none) (by simp only [execOp, hx, Option.map_none]) ?_
  unfold Instr.sliceAt
  refine wpS_bind (wpS_underlying ht ?_)
  simp only
  unfold Instr.slice
  refine wpS_bind (wpS_underlying ht ?_)
  simp only
  refine wpS_bind (wpS_sliceBounds bl bh h1 h2 ?_)
  simp only
  refine wpS_bind (wpS_sizeOf hs ?_)
  exact wpS_pure ⟨rfl, rfl⟩
theorem exd_sliceS {t : TypeId} {x : Operand} {lo hi : Option Operand} {l r : Nat} {s : ByteArray} (ht : P.underlying t = some .string) (hx : evl tm x = .string s) (bl : Bd tm lo 0 l) (bh : Bd tm hi s.size r)
    (h1 : l ≤ r) (h2 : r ≤ s.size) : Exd P tm ⟨d, .slice t x lo hi none, ty, pos, aft, gd⟩ h (.string (s.extract l r)) := by
  refine exd_of (s := Instr.sliceAt t (.string s) (lo.map (evl tm)) (hi.map (evl tm)) none) (by simp only [execOp, hx, Option.map_none]) ?_
  unfold Instr.sliceAt
  refine wpS_bind (wpS_underlying ht ?_)
  simp only
  unfold Instr.slice
  refine wpS_bind (wpS_underlying ht ?_)
  simp only [Option.isSome_none, Bool.false_eq_true, if_false]
  refine wpS_bind (wpS_sliceBounds bl bh h1 h2 ?_)
  exact wpS_pure ⟨rfl, rfl⟩
theorem Sl.part {p : PHeap} {a : Option Addr} {n c w l r : Nat} {es : List (List Value)} (s : Sl p a n w es) (hc : n ≤ c) (h1 : l ≤ r) (h2 : r ≤ n) : Sl p (cutA a c l w) (r - l) w ((es.drop l).take (r - l)) :=
  s.cut h1 h2 fun hlt => by unfold cutA; rw [if_neg (by omega), s.ne (by omega)]; rfl
end

section
variable {P : Program} {md : Md} {f : FuncId} {r : Rd} {df : List Deferred} {k : List Item} {cs : List Frame} {Stop : Goroutine → Heap → Prop} {ops rest : List Oper} {tm : List Value}
  {h₀ : Heap} {B₀ : List Nat} {p : PHeap} {A X C : Pcs} {T : TypeId} {w : Nat} {v : Value} {es : List (List Value)} {n : Nat} {g : Goroutine}
theorem OwnS.room (o : OwnS T w v es X) (hw : 0 < w) {a : Option Addr} {m cap : Nat} (e : v = .slice a m cap) : m ≤ cap := by
  obtain ⟨h1, ⟨rfl, rfl, rfl⟩ | ⟨b, cs, cap', rest, rfl, rfl, hcs, hlen, hcap⟩⟩ := o
  · cases e; exact Nat.le_refl _
  · cases e
    have h2 := flatten_length h1
    have h3 : cs.length = es.flatten.length + rest.length := by rw [hcs]; simp
    have : es.length * w ≤ cap * w := by omega
    exact Nat.le_of_mul_le_mul_right this hw
end
end Go.X
namespace Go.X
open Go.Conc

/-- The string of these bytes. -/
def bs (l : List UInt8) : ByteArray := ⟨l.toArray⟩
theorem bs_size (l : List UInt8) : (bs l).size = l.length := by simp [bs, ByteArray.size]
theorem bs_of (s : ByteArray) : bs s.data.toList = s := by cases s; simp [bs]
theorem bs_get (l : List UInt8) (i : Nat) : (bs l)[i]? = l[i]? := by
  by_cases h : i < l.length
  · rw [getElem?_pos (bs l) i (by rw [bs_size]; exact h), List.getElem?_eq_getElem h]; rfl
  · rw [getElem?_neg (bs l) i (by rw [bs_size]; exact h), List.getElem?_eq_none (by omega)]
theorem bs_append (l m : List UInt8) : bs l ++ bs m = bs (l ++ m) := by
  apply ByteArray.ext
  simp [bs]
theorem bs_extract (l : List UInt8) (a b : Nat) : (bs l).extract a b = bs ((l.drop a).take (b - a)) := by
  apply ByteArray.ext
  rw [ByteArray.data_extract]
  apply Array.ext'
  simp [bs]
theorem bs_beq (l m : List UInt8) : ((bs l).toList == (bs m).toList) = decide (l = m) := by
  rw [← beq_toListBytes]
  have e : (bs l == bs m) = (l.toArray == m.toArray) := rfl
  rw [e, Bool.eq_iff_iff]
  simp
/-- A string value of these bytes. -/
def sv (l : List UInt8) : Value := .string (bs l)

section
variable {P : Program} {h : Heap} {tm : List Value} {d : Option Tmp} {ty : TypeId} {pos : String} {aft : Array Edge} {gd : Option (Nat × Bool)} {l m : List UInt8}
theorem exd_lenS {t : TypeId} {x : Operand} (ht : P.underlying t = some .string) (hx : evl tm x = sv l) : Exd P tm ⟨d, .call ⟨.builtin .len, #[x], #[t]⟩, ty, pos, aft, gd⟩ h (.int .i64 (l.length : Nat)) := by
  have := exd_lens (P := P) (tm := tm) (d := d) (ty := ty) (pos := pos) (aft := aft) (gd := gd) (h := h) ht hx
  rwa [bs_size] at this
theorem exd_cutS {t : TypeId} {x : Operand} {lo hi : Option Operand} {a r : Nat} (ht : P.underlying t = some .string) (hx : evl tm x = sv l) (bl : Bd tm lo 0 a) (bh : Bd tm hi l.length r) (h1 : a ≤ r) (h2 : r ≤ l.length) :
    Exd P tm ⟨d, .slice t x lo hi none, ty, pos, aft, gd⟩ h (sv ((l.drop a).take (r - a))) := by
  have := exd_sliceS (P := P) (tm := tm) (d := d) (ty := ty) (pos := pos) (aft := aft) (gd := gd) (h := h) ht hx bl (by rw [bs_size]; exact bh) h1 (by rw [bs_size]; exact h2)
  rwa [bs_extract] at this
theorem exd_indexS {t : TypeId} {x y : Operand} {k : IntKind} {i : Int} (ht : P.underlying t = some .string) (hx : evl tm x = sv l) (hy : evl tm y = .int k i) (h0 : 0 ≤ i) (h1 : i < l.length) :
    Exd P tm ⟨d, .index t x y, ty, pos, aft, gd⟩ h (.int .u8 ((l.getD i.toNat 0).toNat : Nat)) := by
  refine exd_of (s := Instr.index t (sv l) (.int k i)) (by simp only [execOp, hx, hy]) ?_
  unfold Instr.index
  refine wpS_bind (wpS_pure ?_)
  simp only
  refine wpS_bind (wpS_underlying ht ?_)
  simp only [sv]
  have e : (bs l)[i.toNat]? = some (l.getD i.toNat 0) := by
    rw [bs_get, List.getD_eq_getElem?_getD, List.getElem?_eq_getElem (by omega)]; rfl
  rw [if_pos h0, e]
  exact wpS_pure ⟨rfl, rfl⟩
theorem exd_indexSN {t : TypeId} {x y : Operand} {k : IntKind} {i : Nat} (ht : P.underlying t = some .string) (hx : evl tm x = sv l) (hy : evl tm y = .int k (i : Nat)) (h1 : i < l.length) :
    Exd P tm ⟨d, .index t x y, ty, pos, aft, gd⟩ h (.int .u8 ((l.getD i 0).toNat : Nat)) := by
  have := exd_indexS (P := P) (tm := tm) (d := d) (ty := ty) (pos := pos) (aft := aft) (gd := gd) (h := h) ht hx hy (by omega) (by omega)
  rwa [Int.toNat_natCast] at this
theorem exd_catS {T T' : TypeId} {x y : Operand} (hx : evl tm x = sv l) (hy : evl tm y = sv m) (hb : l.length + m.length ≤ 9223372036854775807) : Exd P tm ⟨d, .binOp .add T x y T', ty, pos, aft, gd⟩ h (sv (l ++ m)) := by
  refine exd_bin hx hy (fun K z => wpS_eqGuard_no rfl z) ?_
  simp only [sv, binOp, Op.stringOp, bs_size]
  rw [if_neg (by
    have : (IntKind.i64.max : Int) = 9223372036854775807 := by decide
    rw [this]; omega), bs_append]
  exact wpS_pure ⟨rfl, rfl⟩
theorem strGuard {op : BinOp} {T : TypeId} {x y : Operand} {a b : ByteArray} {K : Unit → Heap → Prop} (z : K () h) : wpS P (eqGuard op T x y (.string a) (.string b)) h K := by
  unfold eqGuard
  cases op <;> first | (rw [if_pos (by rfl)]; exact wpS_pure z) | (rw [if_neg (by decide)]; exact wpS_pure z)
theorem exd_eqlS {T T' : TypeId} {x y : Operand} (hx : evl tm x = sv l) (hy : evl tm y = sv m) : Exd P tm ⟨d, .binOp .eql T x y T', ty, pos, aft, gd⟩ h (.bool (decide (l = m))) := by
  refine exd_bin hx hy (fun K z => strGuard z) ?_
  simp only [sv, binOp, Op.stringOp, bs_beq]
  exact wpS_pure ⟨rfl, rfl⟩
theorem exd_neqS {T T' : TypeId} {x y : Operand} (hx : evl tm x = sv l) (hy : evl tm y = sv m) : Exd P tm ⟨d, .binOp .neq T x y T', ty, pos, aft, gd⟩ h (.bool (!decide (l = m))) := by
  refine exd_bin hx hy (fun K z => strGuard z) ?_
  simp only [sv, binOp, Op.stringOp, bs_beq]
  exact wpS_pure ⟨rfl, rfl⟩
/-- int to int -/
theorem exd_conv {src dst : TypeId} {x : Operand} {k k' : IntKind} {a n : Int} (hs : ∃ t, P.underlying src = some t) (hd : P.underlying dst = some (.int k')) (hx : evl tm x = .int k a) (hn : k'.wrap a = n) : Exd P tm ⟨d, .convert src dst x, ty, pos, aft, gd⟩ h (.int k' n) := by
  obtain ⟨t, hs⟩ := hs
  refine exd_of (s := convert src dst (.int k a)) (by simp only [execOp, hx]) ?_
  unfold convert
  refine wpS_bind (wpS_underlying hs ?_)
  refine wpS_bind (wpS_underlying hd ?_)
  simp only [Conv.intToInt]
  exact wpS_pure ⟨by rw [hn], rfl⟩
theorem exd_quo {k : IntKind} {T T' : TypeId} {x y : Operand} {a b n : Int} (hx : evl tm x = .int k a) (hy : evl tm y = .int k b) (h0 : b ≠ 0) (hn : k.wrap (a.tdiv b) = n) : Exd P tm ⟨d, .binOp .quo T x y T', ty, pos, aft, gd⟩ h (.int k n) := by
  refine exd_bin hx hy (fun K z => wpS_eqGuard_int z) ?_
  simp only [binOp, ne_eq, not_true, if_false, Op.intDiv, h0]
  exact wpS_pure ⟨by rw [hn], rfl⟩
theorem exd_rem {k : IntKind} {T T' : TypeId} {x y : Operand} {a b n : Int} (hx : evl tm x = .int k a) (hy : evl tm y = .int k b) (h0 : b ≠ 0) (hn : a.tmod b = n) : Exd P tm ⟨d, .binOp .rem T x y T', ty, pos, aft, gd⟩ h (.int k n) := by
  refine exd_bin hx hy (fun K z => wpS_eqGuard_int z) ?_
  simp only [binOp, ne_eq, not_true, if_false, Op.intDiv, h0]
  exact wpS_pure ⟨by rw [hn], rfl⟩
theorem exd_takeS {t : TypeId} {x hi : Operand} {r : Nat} (ht : P.underlying t = some .string) (hx : evl tm x = sv l) (bh : Bd tm (some hi) l.length r) (h2 : r ≤ l.length) : Exd P tm ⟨d, .slice t x none (some hi) none, ty, pos, aft, gd⟩ h (sv (l.take r)) := by
  have := exd_cutS (P := P) (tm := tm) (d := d) (ty := ty) (pos := pos) (aft := aft) (gd := gd) (h := h) ht hx (.none 0) bh (Nat.zero_le _) h2
  simpa using this
theorem exd_dropS {t : TypeId} {x lo : Operand} {a : Nat} (ht : P.underlying t = some .string) (hx : evl tm x = sv l) (bl : Bd tm (some lo) 0 a) (h2 : a ≤ l.length) : Exd P tm ⟨d, .slice t x (some lo) none none, ty, pos, aft, gd⟩ h (sv (l.drop a)) := by
  have := exd_cutS (P := P) (tm := tm) (d := d) (ty := ty) (pos := pos) (aft := aft) (gd := gd) (h := h) ht hx bl (.none l.length) h2 (Nat.le_refl _)
  rwa [List.take_of_length_le (by simp)] at this
theorem byte_le (b : UInt8) : b.toNat ≤ 255 := by have : b.toNat < 256 := b.toNat_lt; omega
theorem wrB (b : UInt8) : IntKind.i64.wrap ((b.toNat : Nat) : Int) = ((b.toNat : Nat) : Int) := wr (by have := byte_le b; omega)
theorem wr8 {n : Int} (h : 0 ≤ n ∧ n ≤ 255) : IntKind.u8.wrap n = n := by
  simp only [IntKind.wrap, IntKind.bits, IntKind.signed]
  simp
  omega
end
end Go.X
namespace Go.X
open Go.Conc

def findM (ms : List (List UInt8 × Int)) (k : List UInt8) : Option Int := (ms.find? fun e => e.1 == k).map (·.2)
/-- The object is a map of these keys and elements, in the order in which they came. -/
def MapO (ms : List (List UInt8 × Int)) (o : Obj) : Prop := ∃ (es : List MapEntry) (clock : Nat), o = .map es.toArray clock ∧ es.map (fun e => (e.key, e.val)) = ms.map fun x => (sv x.1, Value.int .i64 x.2)
theorem MapO.nil : MapO [] (.map #[] 0) := ⟨[], 0, rfl, rfl⟩
theorem sv_eq (l m : List UInt8) : (bs l == bs m) = (m == l) := by
  rw [beq_toListBytes, bs_beq, Bool.eq_iff_iff]
  simp only [decide_eq_true_eq, beq_iff_eq]
  exact eq_comm
theorem findNow_map {k : List UInt8} : ∀ {ms : List (List UInt8 × Int)} {es : List MapEntry} {i : Nat}, es.map (fun e => (e.key, e.val)) = ms.map (fun x => (sv x.1, Value.int .i64 x.2)) →
    ∃ j, Instr.findNow .string (sv k) es i = some ((findM ms k).map fun v => (j, Value.int .i64 v))
  | [], es, i, h => by
    obtain rfl : es = [] := by simpa using h
    exact ⟨0, rfl⟩
  | (k', v') :: ms, [], i, h => by simp at h
  | (k', v') :: ms, e :: es, i, h => by
    simp only [List.map_cons, List.cons.injEq, Prod.mk.injEq] at h
    obtain ⟨⟨h1, h2⟩, h3⟩ := h
    unfold Instr.findNow
    rw [h1, h2]
    simp only [sv, Instr.sameNow, sv_eq]
    by_cases c : k' = k
    · subst c
      refine ⟨i, ?_⟩
      simp [findM]
    · have hc : (k' == k) = false := by simpa using c
      obtain ⟨j, hj⟩ := findNow_map (k := k) (i := i + 1) h3
      refine ⟨j, ?_⟩
      rw [hc]
      simp only [sv] at hj
      rw [hj]
      simp [findM, hc]

section
variable {P : Program} {h h₀ : Heap} {B₀ : List Nat} {p : PHeap} {L : List (Nat × Obj)} {tm : List Value} {d : Option Tmp} {ty : TypeId} {pos : String} {aft : Array Edge} {gd : Option (Nat × Bool)} {k : List UInt8} {ms : List (List UInt8 × Int)} {o : Obj} {i r : Nat}
theorem wpS_getMap {es : Array MapEntry} {c : Nat} {K : Obj → Heap → Prop} (hb : h[r]? = some (.map es c)) (x : K (.map es c) h) : wpS P (getObj r) h K := by
  simp only [getObj, wpS, hb]
  exact ⟨rfl, x⟩
theorem wpS_checkKey {b : Bool} {n : Nat} {t : TypeId} {K : Unit → Heap → Prop} (ht : P.underlying t = some .string) (x : K () h) : wpS P (Instr.checkKey b (n + 1) t (sv k)) h K := by
  unfold Instr.checkKey
  refine wpS_bind (wpS_underlying ht ?_)
  exact wpS_pure x
theorem wpS_findKey {t : TypeId} {es : List MapEntry} {K : Option (Nat × Value) → Heap → Prop} (ht : P.underlying t = some .string) (he : es.map (fun e => (e.key, e.val)) = ms.map (fun x => (sv x.1, Value.int .i64 x.2))) (x : ∀ j, K ((findM ms k).map fun v => (j, Value.int .i64 v)) h) :
    wpS P (Instr.findKey t (sv k) es) h K := by
  obtain ⟨j, hj⟩ := findNow_map (k := k) (i := 0) he
  unfold Instr.findKey
  refine wpS_bind (wpS_underlying ht ?_)
  simp only [hj]
  exact wpS_pure (x j)
theorem wpS_lookup {mT kT eT : TypeId} {ok : Bool} {K : Value → Heap → Prop} (hm : P.underlying mT = some (.map kT eT)) (hk : P.underlying kT = some .string) (hz : zeroT P eT = some (.int .i64 0)) (hb : h[r]? = some o) (hM : MapO ms o)
    (x : K (if ok then .tuple #[.int .i64 ((findM ms k).getD 0), .bool (findM ms k).isSome] else .int .i64 ((findM ms k).getD 0)) h) : wpS P (Instr.lookup mT (.map (some r)) (sv k) ok) h K := by
  obtain ⟨es, clock, rfl, he⟩ := hM
  unfold Instr.lookup
  refine wpS_bind (wpS_underlying hm ?_)
  simp only
  refine wpS_bind (wpS_getMap hb ?_)
  simp only
  refine wpS_bind (wpS_pure ?_)
  refine wpS_bind (wpS_checkKey hk ?_)
  refine wpS_bind (wpS_findKey hk (by simpa using he) fun j => ?_)
  cases e : findM ms k with
  | none =>
    simp only [Option.map_none]
    refine wpS_bind (wpS_zeroValue hz ?_)
    refine wpS_bind (wpS_pure ?_)
    refine wpS_pure (P := P) ?_
    rw [e] at x; exact x
  | some v =>
    simp only [Option.map_some]
    refine wpS_bind (wpS_pure ?_)
    refine wpS_pure (P := P) ?_
    rw [e] at x; exact x
theorem exd_lookup {mT kT eT : TypeId} {x y : Operand} {ok : Bool} {v : Value} (s : St h₀ B₀ p h L) (hL : L[i]? = some (r, o)) (hM : MapO ms o) (hm : P.underlying mT = some (.map kT eT)) (hk : P.underlying kT = some .string) (hz : zeroT P eT = some (.int .i64 0))
    (hx : evl tm x = .map (some r)) (hy : evl tm y = sv k) (hv : (if ok then .tuple #[.int .i64 ((findM ms k).getD 0), .bool (findM ms k).isSome] else .int .i64 ((findM ms k).getD 0)) = v) : Exd P tm ⟨d, .lookup mT x y ok, ty, pos, aft, gd⟩ h v := by
  refine exd_of (s := Instr.lookup mT (.map (some r)) (sv k) ok) (by simp only [execOp, hx, hy]) ?_
  exact wpS_lookup hm hk hz (s.at hL) hM ⟨hv, rfl⟩
theorem exd_lenM {t kT eT : TypeId} {x : Operand} (s : St h₀ B₀ p h L) (hL : L[i]? = some (r, o)) (hM : MapO ms o) (ht : P.underlying t = some (.map kT eT)) (hx : evl tm x = .map (some r)) : Exd P tm ⟨d, .call ⟨.builtin .len, #[x], #[t]⟩, ty, pos, aft, gd⟩ h (.int .i64 (ms.length : Nat)) := by
  obtain ⟨es, clock, rfl, he⟩ := hM
  have hl : es.length = ms.length := by have := congrArg List.length he; simpa using this
  refine exd_builtin (s := Builtin.len_ #[t] ty #[.map (some r)]) ?_ ?_
  · simp [builtin, hx]
  · unfold Builtin.len_
    simp only [List.getElem?_toArray, List.getElem?_cons_zero]
    refine wpS_bind (wpS_underlying ht ?_)
    simp only
    refine wpS_bind (wpS_getMap (s.at hL) ?_)
    simp only [goInt]
    exact wpS_pure ⟨by rw [List.size_toArray, hl], rfl⟩
end

section
variable {P : Program} {md : Md} {f : FuncId} {r : Rd} {df : List Deferred} {k : List Item} {cs : List Frame} {Stop : Goroutine → Heap → Prop} {ops rest : List Oper} {tm : List Value}
  {h₀ : Heap} {B₀ : List Nat} {p : PHeap} {L : Pcs} {ty : TypeId} {pos : String} {aft : Array Edge} {gd : Option (Nat × Bool)} {key : List UInt8} {ms : List (List UInt8 × Int)} {o : Obj} {i q : Nat} {z : Int}
theorem rl_makeMap {dd : Nat} {mT : TypeId} (hm : Met ops tm ⟨some dd, .makeMap mT none, ty, pos, aft, gd⟩ true)
    (n : ∀ b, RL P md f r df k cs Stop ops rest (tm.set dd (.map (some b))) (fun h => St h₀ B₀ p h ((b, .map #[] 0) :: L))) :
    RL P md f r df k cs Stop ops (⟨some dd, .makeMap mT none, ty, pos, aft, gd⟩ :: rest) tm (fun h => St h₀ B₀ p h L) := by
  refine rl_step (K := fun v' h' => ∃ b, v' = .map (some b) ∧ St h₀ B₀ p h' ((b, .map #[] 0) :: L)) hm rfl (fun h s => ?_) fun v' => rl_ex fun b => rl_and fun e => by subst e; exact n b
  unfold Ex
  simp only [execOp]
  refine wpS_bind ?_
  unfold Instr.makeMap
  refine wpS_bind ?_
  simp only [newObj, wpS]
  refine wpS_pure ?_
  exact wpS_pure ⟨_, rfl, _, rfl, s.push _⟩
/-- A new key. -/
theorem rl_mapNew {mT kT eT : TypeId} {x y w : Operand} {op : Op} (hop : op = .mapUpdate mT x y w ∨ op = .insert mT x y w) (hm : Met ops tm ⟨none, op, ty, pos, aft, gd⟩ true) (hT : P.underlying mT = some (.map kT eT)) (hk : P.underlying kT = some .string)
    (hL : L[i]? = some (q, o)) (hM : MapO ms o) (hx : evl tm x = .map (some q)) (hy : evl tm y = sv key) (hw : evl tm w = .int .i64 z) (hf : findM ms key = none)
    (n : ∀ o', MapO (ms ++ [(key, z)]) o' → RL P md f r df k cs Stop ops rest tm (fun h => St h₀ B₀ p h (L.set i (q, o')))) :
    RL P md f r df k cs Stop ops (⟨none, op, ty, pos, aft, gd⟩ :: rest) tm (fun h => St h₀ B₀ p h L) := by
  obtain ⟨es, clock, rfl, he⟩ := hM
  have hM' : MapO (ms ++ [(key, z)]) (.map (es.toArray.push { key := sv key, val := .int .i64 z, born := clock }) (clock + 1)) := ⟨es ++ [{ key := sv key, val := .int .i64 z, born := clock }], clock + 1, by simp, by simp [he]⟩
  refine rl_unit (K := fun h' => St h₀ B₀ p h' (L.set i (q, .map (es.toArray.push { key := sv key, val := .int .i64 z, born := clock }) (clock + 1)))) hm ?_ (fun h s => ?_) rfl (n _ hM')
  · rcases hop with rfl | rfl <;> rfl
  · have e : execOp (evl tm) ⟨none, op, ty, pos, aft, gd⟩ = (do Instr.mapUpdate mT (.map (some q)) (sv key) (.int .i64 z); pure Next.skip) := by
      rcases hop with rfl | rfl <;> simp only [execOp, hx, hy, hw]
    rw [e]
    refine wpS_bind ?_
    unfold Instr.mapUpdate
    refine wpS_bind (wpS_underlying hT ?_)
    simp only
    refine wpS_bind (wpS_getMap (s.at hL) ?_)
    simp only
    refine wpS_bind (wpS_checkKey hk ?_)
    refine wpS_bind (wpS_findKey hk (by simpa using he) fun j => ?_)
    rw [hf]
    simp only [Option.map_none]
    simp only [setObj, wpS, s.at hL]
    refine ⟨rfl, rfl, ?_⟩
    have hq := lt_of_get (s.at hL)
    refine wpS_pure ⟨rfl, s.turn hL ?_ (by simp) fun c hc => ?_⟩
    · simp [hq]
    · simp only [Array.getElem?_setIfInBounds]
      rw [if_neg (fun e => hc e.symm)]
end
end Go.X
namespace Go.X.Cent
open Go.X

abbrev By := List UInt8

/-- How long a beginning of 's' is a phrase, all shorter ones being phrases, too: from 'k' on. -/
def lpFrom (ph : List By) (s : By) : Nat → Nat → Nat
  | 0, k => k
  | f + 1, k => if k < s.length ∧ s.take (k + 1) ∈ ph then lpFrom ph s f (k + 1) else k
def lp (ph : List By) (s : By) : Nat := lpFrom ph s s.length 0
/-- The pieces of what is left: the phrase with which each begins, and its byte. -/
def pcs : Nat → List By → By → List (By × Option UInt8)
  | 0, _, _ => []
  | f + 1, ph, s =>
    if s = [] then [] else
    if lp ph s < s.length then (s.take (lp ph s), some (s.getD (lp ph s) 0)) :: pcs f (ph ++ [s.take (lp ph s + 1)]) (s.drop (lp ph s + 1))
    else [(s, none)]
def pieces (s : By) : List (By × Option UInt8) := pcs s.length [[]] s
/-- A piece, as bytes. -/
def pbytes (x : By × Option UInt8) : By := x.1 ++ x.2.toList

theorem lpFrom_le {ph : List By} {s : By} : ∀ {f k : Nat}, k ≤ s.length → k ≤ lpFrom ph s f k ∧ lpFrom ph s f k ≤ s.length
  | 0, k, h => ⟨Nat.le_refl _, h⟩
  | f + 1, k, h => by
    unfold lpFrom
    split
    · rename_i c
      have := lpFrom_le (ph := ph) (s := s) (f := f) (k := k + 1) (by omega)
      exact ⟨by omega, this.2⟩
    · exact ⟨Nat.le_refl _, h⟩
theorem lp_le (ph : List By) (s : By) : lp ph s ≤ s.length := (lpFrom_le (f := s.length) (k := 0) (by omega)).2
theorem lpFrom_spec {ph : List By} {s : By} : ∀ {f k : Nat}, s.length ≤ k + f → k ≤ s.length → (∀ i, i ≤ k → s.take i ∈ ph) →
    (∀ i, i ≤ lpFrom ph s f k → s.take i ∈ ph) ∧ (lpFrom ph s f k < s.length → s.take (lpFrom ph s f k + 1) ∉ ph)
  | 0, k, h, h2, hp => by
    unfold lpFrom
    exact ⟨hp, fun c => absurd c (by omega)⟩
  | f + 1, k, h, h2, hp => by
    unfold lpFrom
    split
    · rename_i c
      refine lpFrom_spec (by omega) (by omega) fun i hi => ?_
      by_cases e : i = k + 1
      · subst e; exact c.2
      · exact hp i (by omega)
    · rename_i c
      exact ⟨hp, fun d x => c ⟨d, x⟩⟩
theorem lp_spec {ph : List By} {s : By} (h0 : [] ∈ ph) : (∀ i, i ≤ lp ph s → s.take i ∈ ph) ∧ (lp ph s < s.length → s.take (lp ph s + 1) ∉ ph) :=
  lpFrom_spec (by omega) (by omega) fun i hi => by
    obtain rfl : i = 0 := by omega
    simpa using h0

/-- What the phrases always are: all different, the empty one first, each but it one that came before and one byte more. -/
structure Phr (ph : List By) : Prop where
  nil : ph.head? = some []
  nod : ph.Nodup
  pre : ∀ w ∈ ph, ∀ i, i ≤ w.length → w.take i ∈ ph
theorem Phr.mem {ph : List By} (h : Phr ph) : [] ∈ ph := List.mem_of_mem_head? (by rw [h.nil]; rfl)
theorem Phr.one : Phr [[]] := ⟨rfl, by simp, fun w hw i _ => by rw [List.mem_singleton.1 hw]; simp⟩
theorem Phr.snoc {ph : List By} {s : By} (h : Phr ph) (hl : lp ph s < s.length) : Phr (ph ++ [s.take (lp ph s + 1)]) := by
  have hs := lp_spec (s := s) h.mem
  refine ⟨?_, ?_, fun w hw i hi => ?_⟩
  · have := h.nil
    cases ph with
    | nil => cases this
    | cons a l => simpa using this
  · rw [List.nodup_append]
    refine ⟨h.nod, by simp, fun a ha b hb e => ?_⟩
    subst e
    rw [List.mem_singleton.1 hb] at ha
    exact hs.2 hl ha
  · rcases List.mem_append.1 hw with hw | hw
    · exact List.mem_append_left _ (h.pre w hw i hi)
    · rw [List.mem_singleton.1 hw] at hi ⊢
      rw [List.take_take]
      by_cases c : i ≤ lp ph s
      · rw [Nat.min_eq_left (by omega)]
        exact List.mem_append_left _ (hs.1 i c)
      · rw [List.length_take] at hi
        rw [show min i (lp ph s + 1) = lp ph s + 1 from by omega]
        exact List.mem_append_right _ (by simp)
/-- A longer beginning is no phrase. -/
theorem lp_max {ph : List By} {s : By} (h : Phr ph) {i : Nat} (hi : lp ph s < i) (hl : i ≤ s.length) : s.take i ∉ ph := fun x => by
  have hs := (lp_spec (s := s) h.mem).2 (by omega)
  have := h.pre _ x (lp ph s + 1) (by rw [List.length_take]; omega)
  rw [List.take_take, Nat.min_eq_left (by omega)] at this
  exact hs this

/-! ### all pieces, one behind the other -/
end Go.X.Cent
namespace Go.X.Cent
open Go.X

section
variable {p p' : PHeap} {a : Option Addr} {n c k l r : Nat} {ts : List By}

def scs (ts : List By) : List (List Value) := ts.map fun t => [sv t]
def Strs (p : PHeap) (a : Option Addr) (n : Nat) (ts : List By) : Prop := Sl p a n 1 (scs ts)
theorem scs_length (ts : List By) : (scs ts).length = ts.length := by simp [scs]
theorem Strs.len (s : Strs p a n ts) : ts.length = n := by have := Sl.len s; simpa [scs] using this
theorem Strs.mono (hp : PLe p p') (s : Strs p a n ts) : Strs p' a n ts := Sl.mono hp s
theorem Strs.ne (s : Strs p a n ts) (hk : 0 < n) : a = some (adr a) := Sl.ne s hk
theorem Strs.get (s : Strs p a n ts) (hk : k < n) : pcell p ((adr a).add (k * 1)) = some (sv (ts.getD k [])) := by
  have hl := s.len
  exact Sl.get s k [sv (ts.getD k [])] (by rw [scs, List.getElem?_map, List.getD_eq_getElem?_getD, List.getElem?_eq_getElem (by omega)]; rfl) 0 _ rfl

/-- A piece: the number of its phrase, and its byte (below 0: none). -/
abbrev Pie := Int × Int
def Pie.cells (x : Pie) : List Value := [.int .i64 x.1, .int .i64 x.2]
def pies (xs : List Pie) : List (List Value) := xs.map Pie.cells
def Pies (p : PHeap) (a : Option Addr) (n : Nat) (xs : List Pie) : Prop := Sl p a n 2 (pies xs)
def pz : Pie := (0, 0)
variable {xs : List Pie}
theorem pies_length (xs : List Pie) : (pies xs).length = xs.length := by simp [pies]
theorem Pies.len (s : Pies p a n xs) : xs.length = n := by have := Sl.len s; simpa [pies] using this
theorem Pies.mono (hp : PLe p p') (s : Pies p a n xs) : Pies p' a n xs := Sl.mono hp s
theorem Pies.ne (s : Pies p a n xs) (hk : 0 < n) : a = some (adr a) := Sl.ne s hk
theorem Pies.at (s : Pies p a n xs) (hk : k < n) {j : Nat} {v : Value} (hv : (xs.getD k pz).cells[j]? = some v) : pcell p (((adr a).add (k * 2)).add j) = some v := by
  have hl := s.len
  exact Sl.get s k (xs.getD k pz).cells (by rw [pies, List.getElem?_map, List.getD_eq_getElem?_getD, List.getElem?_eq_getElem (by omega)]; rfl) j v hv
theorem Pies.ph (s : Pies p a n xs) (hk : k < n) : pcell p ((adr a).add (k * 2)) = some (.int .i64 (xs.getD k pz).1) := s.at hk (j := 0) rfl
theorem Pies.by (s : Pies p a n xs) (hk : k < n) : pcell p (((adr a).add (k * 2)).add 1) = some (.int .i64 (xs.getD k pz).2) := s.at hk (j := 1) rfl
theorem Pies.all (s : Pies p a n xs) (hk : k < n) : ∀ j v, [Value.int .i64 (xs.getD k pz).1, .int .i64 (xs.getD k pz).2][j]? = some v → pcell p (((adr a).add (k * 2)).add j) = some v := fun _ _ hv => s.at hk hv
end
end Go.X.Cent
namespace Go.X.Cent
open Go.X

def wsumTo (l : By) : Nat → Nat
  | 0 => 0
  | k + 1 => wsumTo l k + (l.getD k 0).toNat * (k + 1)
def total (l : By) : Nat := wsumTo l l.length
theorem term_le (l : By) {k : Nat} (hk : k < 4096) : (l.getD k 0).toNat * (k + 1) ≤ 1044480 := by
  have h1 := byte_le (l.getD k 0)
  have := Nat.mul_le_mul h1 (show k + 1 ≤ 4096 by omega)
  omega
theorem wsumTo_le (l : By) : ∀ {k : Nat}, k ≤ 4096 → wsumTo l k ≤ k * 1044480
  | 0, _ => by simp [wsumTo]
  | k + 1, h => by
    have := wsumTo_le l (k := k) (by omega)
    have := term_le l (k := k) (by omega)
    simp only [wsumTo]
    omega
theorem sumof_step (l : By) (k : Nat) : (((wsumTo l k % 9973 : Nat) : Int) + ((l.getD k 0).toNat : Int) * ((k + 1 : Nat) : Int)).tmod 9973 = ((wsumTo l (k + 1) % 9973 : Nat) : Int) := by
  have e : ((wsumTo l k % 9973 : Nat) : Int) + ((l.getD k 0).toNat : Int) * ((k + 1 : Nat) : Int) = ((wsumTo l k % 9973 + (l.getD k 0).toNat * (k + 1) : Nat) : Int) := by simp
  rw [e, Int.tmod_eq_emod_of_nonneg (by omega)]
  simp only [wsumTo]
  omega
end Go.X.Cent
namespace Go.X
open Go.Conc

end Go.X
namespace Go.X.Cent
open Go.X

section
variable {α : Type} {d : α} {xs ys : List α} {m n k : Nat}
theorem gstep (h : ∀ i, i < k → xs.getD i d = ys.getD i d) (e : xs.getD k d = ys.getD k d) : ∀ i, i < k + 1 → xs.getD i d = ys.getD i d := fun i hi => by
  by_cases c : i = k
  · subst c; exact e
  · exact h i (by omega)
theorem gext (h1 : xs.length = ys.length) (h : ∀ i, i < xs.length → xs.getD i d = ys.getD i d) : xs = ys := by
  apply List.ext_getElem?
  intro i
  by_cases c : i < xs.length
  · have := h i c
    rw [List.getD_eq_getElem?_getD, List.getD_eq_getElem?_getD, List.getElem?_eq_getElem c, List.getElem?_eq_getElem (by omega)] at this
    rw [List.getElem?_eq_getElem c, List.getElem?_eq_getElem (by omega)]
    exact congrArg some this
  · rw [List.getElem?_eq_none (by omega), List.getElem?_eq_none (by omega)]
theorem gall {P : α → Prop} (h : ∀ i, i < xs.length → P (xs.getD i d)) : ∀ x ∈ xs, P x := fun x hx => by
  obtain ⟨i, hi, rfl⟩ := List.mem_iff_getElem.1 hx
  have := h i hi
  rwa [List.getD_eq_getElem?_getD, List.getElem?_eq_getElem hi] at this
theorem gmem (h : k < xs.length) : xs.getD k d ∈ xs := by
  rw [List.getD_eq_getElem?_getD, List.getElem?_eq_getElem h]
  exact List.getElem_mem h
end
def isText (t : By) : Prop := t.length ≤ 40 ∧ ∀ b ∈ t, 32 ≤ b.toNat ∧ b.toNat ≤ 125
instance (t : By) : Decidable (isText t) := inferInstanceAs (Decidable (_ ∧ _))
def far (ts : List By) : Prop := 60 < ts.length ∨ ∃ t ∈ ts, 200 < t.length
instance (ts : List By) : Decidable (far ts) := inferInstanceAs (Decidable (_ ∨ _))
theorem far_many {p : PHeap} {a : Option Addr} {n : Nat} {ts : List By} (T : Strs p a n ts) (h : (60 : Int) < ((n : Nat) : Int)) : far ts := .inl (by rw [T.len]; omega)
theorem far_at {p : PHeap} {a : Option Addr} {n k : Nat} {ts : List By} (T : Strs p a n ts) (hk : k < n) (h : (200 : Int) < (((ts.getD k []).length : Nat) : Int)) : far ts := .inr ⟨_, gmem (d := []) (by rw [T.len]; exact hk), by omega⟩
theorem far_no {p : PHeap} {a : Option Addr} {n k : Nat} {ts : List By} (T : Strs p a n ts) (hk : n ≤ k) (h0 : ¬ (60 : Int) < ((n : Nat) : Int)) (h : ∀ i, i < k → (ts.getD i []).length ≤ 200) : ¬ far ts := fun x => by
  rcases x with x | ⟨t, ht, x⟩
  · rw [T.len] at x; omega
  · have := gall (P := fun t => t.length ≤ 200) (fun i hi => h i (by rw [T.len] at hi; omega)) t ht
    omega
theorem text_len {t : By} (h : (40 : Int) < ((t.length : Nat) : Int)) : ¬ isText t := fun x => by have := x.1; omega
theorem text_low {t : By} {k : Nat} (hk : k < t.length) (h : (((t.getD k 0).toNat : Nat) : Int) < 32) : ¬ isText t := fun x => by have := (x.2 _ (gmem (d := 0) hk)).1; omega
theorem text_high {t : By} {k : Nat} (hk : k < t.length) (h : (125 : Int) < (((t.getD k 0).toNat : Nat) : Int)) : ¬ isText t := fun x => by have := (x.2 _ (gmem (d := 0) hk)).2; omega
theorem text_yes {t : By} {k : Nat} (hk : t.length ≤ k) (h0 : ¬ (40 : Int) < ((t.length : Nat) : Int)) (h : ∀ i, i < k → 32 ≤ (t.getD i 0).toNat ∧ (t.getD i 0).toNat ≤ 125) : isText t :=
  ⟨by omega, gall (d := 0) fun i hi => h i (by omega)⟩
theorem text_end {t : By} {k : Nat} (hk : t.length ≤ k) (h : ∀ i, i < k → 32 ≤ (t.getD i 0).toNat ∧ (t.getD i 0).toNat ≤ 125) : decide (((t.length : Nat) : Int) ≤ 40) = decide (isText t) := by
  rw [decide_eq_decide]
  exact ⟨fun c => ⟨by omega, gall (d := 0) fun i hi => h i (by omega)⟩, fun c => by have := c.1; omega⟩
theorem upto_step {P : Nat → Prop} {k : Nat} (h : ∀ i, i < k → P i) (e : P k) : ∀ i, i < k + 1 → P i := fun i hi => by
  by_cases c : i = k
  · subst c; exact e
  · exact h i (by omega)
/-- The first text of which 'q' holds; below 0: none. -/
def idxT (q : By → Bool) : List By → Int
  | [] => -1
  | d :: ds => if q d = true then 0 else if idxT q ds < 0 then -1 else idxT q ds + 1
theorem idxT_none {q : By → Bool} : ∀ {ds : List By}, (∀ i, i < ds.length → q (ds.getD i []) = false) → idxT q ds = -1
  | [], _ => rfl
  | d :: ds, h => by
    have h0 : q d = false := h 0 (by simp)
    have := idxT_none (ds := ds) fun i hi => by simpa using h (i + 1) (by simpa using hi)
    simp only [idxT, h0, this]; simp
theorem idxT_some {q : By → Bool} : ∀ {ds : List By} {k : Nat}, k < ds.length → q (ds.getD k []) = true → (∀ i, i < k → q (ds.getD i []) = false) → idxT q ds = k
  | [], _, h, _, _ => by simp at h
  | d :: ds, 0, _, h, _ => by
    have h0 : q d = true := by simpa using h
    simp [idxT, h0]
  | d :: ds, k + 1, hk, h, hi => by
    have h0 : q d = false := hi 0 (by omega)
    have := idxT_some (ds := ds) (k := k) (by simpa using hk) (by simpa using h) fun i hlt => by simpa using hi (i + 1) (by omega)
    simp only [idxT, h0, this]
    simp
    omega
theorem idxT_iff {q : By → Bool} : ∀ {ds : List By}, 0 ≤ idxT q ds ↔ ∃ t ∈ ds, q t = true
  | [] => by simp [idxT]
  | d :: ds => by
    have ih := idxT_iff (q := q) (ds := ds)
    unfold idxT
    by_cases h : q d = true
    · simp [h]
    · rw [if_neg h]
      simp only [List.mem_cons, exists_eq_or_imp, h, ← ih]
      split <;> simp <;> omega
def badT (t : By) : Bool := !decide (isText t)
/-- The error of a list of texts. -/
def chkT (ts : List By) : Int := if 20 < ts.length then 2 else if 0 ≤ idxT badT ts then 1 else 0
theorem chkT_many {ts : List By} (h : 20 < ts.length) : chkT ts = 2 := if_pos h
theorem chkT_bad {ts : List By} {k : Nat} (h0 : ¬ 20 < ts.length) (hk : k < ts.length) (h : ¬ isText (ts.getD k [])) : chkT ts = 1 := by
  unfold chkT
  rw [if_neg h0, if_pos (idxT_iff.2 ⟨_, gmem (d := []) hk, by unfold badT; rw [decide_eq_false h]; rfl⟩)]
theorem chkT_good {ts : List By} {k : Nat} (h0 : ¬ 20 < ts.length) (hk : ts.length ≤ k) (h : ∀ i, i < k → isText (ts.getD i [])) : chkT ts = 0 := by
  unfold chkT
  rw [if_neg h0, if_neg fun x => ?_]
  obtain ⟨t, ht, hb⟩ := idxT_iff.1 x
  have := gall (d := []) (P := isText) (fun i hi => h i (by omega)) t ht
  simp [badT, this] at hb
end Go.X.Cent
namespace Go.X.Cent
open Go.X

/-- 'b' is the number of a longest one of the first 'k' phrases with which 's' begins (or 0). -/
structure Best (ph : List By) (s : By) (k b : Nat) : Prop where
  lt : b < ph.length
  pre : ph.getD b [] <+: s
  max : ∀ i, i < k → ph.getD i [] <+: s → (ph.getD i []).length ≤ (ph.getD b []).length
  low : b = 0 ∨ b < k
theorem Best.zero {ph : List By} {s : By} (h : ph.head? = some []) : Best ph s 0 0 := by
  cases ph with
  | nil => cases h
  | cons a l =>
    obtain rfl : a = [] := by simpa using h
    exact ⟨by simp, by simp, fun i hi => absurd hi (Nat.not_lt_zero i), .inl rfl⟩
theorem Best.take {ph : List By} {s : By} {k b : Nat} (B : Best ph s k b) (hk : k < ph.length) (h1 : (ph.getD b []).length < (ph.getD k []).length) (h2 : ph.getD k [] <+: s) : Best ph s (k + 1) k :=
  ⟨hk, h2, fun i hi hp => by
    by_cases e : i = k
    · subst e; exact Nat.le_refl _
    · have := B.max i (by omega) hp; omega, .inr (by omega)⟩
theorem Best.keep {ph : List By} {s : By} {k b : Nat} (B : Best ph s k b) (h : ph.getD k [] <+: s → (ph.getD k []).length ≤ (ph.getD b []).length) : Best ph s (k + 1) b :=
  ⟨B.lt, B.pre, fun i hi hp => by
    by_cases e : i = k
    · subst e; exact h hp
    · exact B.max i (by omega) hp, B.low.imp id (by omega)⟩
/-- Of phrases as they are: it is the longest beginning that is one. -/
theorem Best.fin {ph : List By} {s : By} {b : Nat} (B : Best ph s ph.length b) (h : Phr ph) : ph.getD b [] = s.take (lp ph s) := by
  have h1 := lp_spec (s := s) h.mem
  have h2 := B.pre
  have hb : ph.getD b [] ∈ ph := gmem (d := []) B.lt
  have hle : (ph.getD b []).length ≤ lp ph s := by
    rcases Nat.lt_or_ge (lp ph s) (ph.getD b []).length with c | c
    · have hl := h2.length_le
      have := lp_max h c hl
      rw [← List.prefix_iff_eq_take.1 h2] at this
      exact absurd hb this
    · exact c
  obtain ⟨i, hi, e⟩ := List.mem_iff_getElem.1 (h1.1 (lp ph s) (Nat.le_refl _))
  have e' : ph.getD i [] = s.take (lp ph s) := by rw [List.getD_eq_getElem?_getD, List.getElem?_eq_getElem hi]; exact e
  have h3 := B.max i hi (by rw [e']; exact List.take_prefix _ _)
  rw [e', List.length_take, Nat.min_eq_left (lp_le ph s)] at h3
  rw [List.prefix_iff_eq_take.1 h2, show (ph.getD b []).length = lp ph s from by omega]
end Go.X.Cent
namespace Go.X.Cent
open Go.X

def mapFrom : Nat → List By → List (By × Int)
  | _, [] => []
  | n, w :: ph => (w, ((n : Nat) : Int)) :: mapFrom (n + 1) ph
theorem mapFrom_length : ∀ {n : Nat} {ph : List By}, (mapFrom n ph).length = ph.length
  | _, [] => rfl
  | n, w :: ph => by simp [mapFrom, mapFrom_length]
theorem mapFrom_snoc {w : By} : ∀ {n : Nat} {ph : List By}, mapFrom n (ph ++ [w]) = mapFrom n ph ++ [(w, ((n + ph.length : Nat) : Int))]
  | n, [] => by simp [mapFrom]
  | n, x :: ph => by
    simp only [List.cons_append, mapFrom, mapFrom_snoc (n := n + 1) (ph := ph), List.length_cons, List.cons.injEq, true_and]
    rw [show n + 1 + ph.length = n + (ph.length + 1) from by omega]
theorem findM_from {k : By} : ∀ {n : Nat} {ph : List By}, findM (mapFrom n ph) k = if k ∈ ph then some (((n + ph.idxOf k : Nat)) : Int) else none
  | n, [] => rfl
  | n, x :: ph => by
    have ih := findM_from (k := k) (n := n + 1) (ph := ph)
    by_cases h : x = k
    · subst h
      simp [findM, mapFrom]
    · have hb : (x == k) = false := by simpa using h
      have e : findM (mapFrom n (x :: ph)) k = findM (mapFrom (n + 1) ph) k := by simp [findM, mapFrom, hb]
      have hi : (x :: ph).idxOf k = ph.idxOf k + 1 := by rw [List.idxOf_cons, hb]; rfl
      rw [e, ih, hi]
      have hm : k ∈ x :: ph ↔ k ∈ ph := by
        rw [List.mem_cons]
        exact ⟨fun y => y.resolve_left fun z => h z.symm, .inr⟩
      by_cases c : k ∈ ph
      · rw [if_pos c, if_pos (hm.2 c)]
        congr 2
        omega
      · rw [if_neg c, if_neg fun z => c (hm.1 z)]
/-- The pieces of what is left, as the program yields them: the number of the phrase, and the byte (-1: none). -/
def enc : Nat → List By → By → List Pie
  | 0, _, _ => []
  | f + 1, ph, s =>
    if s = [] then [] else
    if lp ph s < s.length then (((ph.idxOf (s.take (lp ph s)) : Nat) : Int), (((s.getD (lp ph s) 0).toNat : Nat) : Int)) :: enc f (ph ++ [s.take (lp ph s + 1)]) (s.drop (lp ph s + 1))
    else [(((ph.idxOf s : Nat) : Int), -1)]
theorem enc_fuel : ∀ {f g : Nat} {ph : List By} {s : By}, s.length ≤ f → s.length ≤ g → enc f ph s = enc g ph s
  | 0, g, ph, s, h, _ => by
    have : s = [] := List.eq_nil_of_length_eq_zero (by omega)
    subst this
    cases g <;> simp [enc]
  | f + 1, 0, ph, s, _, h => by
    have : s = [] := List.eq_nil_of_length_eq_zero (by omega)
    subst this
    simp [enc]
  | f + 1, g + 1, ph, s, h1, h2 => by
    unfold enc
    split
    · rfl
    · split
      · rw [enc_fuel (f := f) (g := g) (by rw [List.length_drop]; omega) (by rw [List.length_drop]; omega)]
      · rfl
def encS (ph : List By) (s : By) : List Pie := enc s.length ph s
theorem encS_nil (ph : List By) : encS ph [] = [] := rfl
theorem encS_more {ph : List By} {s : By} (hl : lp ph s < s.length) :
    encS ph s = (((ph.idxOf (s.take (lp ph s)) : Nat) : Int), (((s.getD (lp ph s) 0).toNat : Nat) : Int)) :: encS (ph ++ [s.take (lp ph s + 1)]) (s.drop (lp ph s + 1)) := by
  have hs : s ≠ [] := fun e => by subst e; simp at hl
  unfold encS
  obtain ⟨f, hf⟩ : ∃ f, s.length = f + 1 := ⟨s.length - 1, by omega⟩
  rw [hf]
  conv => lhs; unfold enc
  rw [if_neg hs, if_pos hl]
  congr 1
  exact enc_fuel (by rw [List.length_drop]; omega) (Nat.le_refl _)
theorem encS_last {ph : List By} {s : By} (hs : s ≠ []) (hl : ¬ lp ph s < s.length) : encS ph s = [(((ph.idxOf s : Nat) : Int), -1)] := by
  unfold encS
  obtain ⟨f, hf⟩ : ∃ f, s.length = f + 1 := ⟨s.length - 1, by have := List.length_pos_iff.2 hs; omega⟩
  rw [hf]
  unfold enc
  rw [if_neg hs, if_neg hl]
theorem lp_found {ph : List By} {s : By} {k : Nat} (h0 : [] ∈ ph) (hk : k ≤ s.length) (h : ∀ i, i ≤ k → s.take i ∈ ph) (he : k < s.length → s.take (k + 1) ∉ ph) : lp ph s = k := by
  have hs := lp_spec (s := s) h0
  have hl := lp_le ph s
  rcases Nat.lt_trichotomy (lp ph s) k with c | c | c
  · exact absurd (h (lp ph s + 1) (by omega)) (hs.2 (by omega))
  · exact c
  · exact absurd (hs.1 (k + 1) (by omega)) (he (by omega))
theorem nf {ph : List By} {k : By} {n : Nat} (h : (findM (mapFrom n ph) k).isSome = false) : k ∉ ph := fun x => by
  rw [findM_from, if_pos x] at h
  cases h
theorem nfS {ph : List By} {k : By} {n : Nat} (h : (findM (mapFrom n ph) k).isSome = true) : k ∈ ph := by
  rw [findM_from] at h
  split at h
  · assumption
  · cases h
theorem nfN {ph : List By} {k : By} {n : Nat} (h : (findM (mapFrom n ph) k).isSome = false) : findM (mapFrom n ph) k = none := by
  cases e : findM (mapFrom n ph) k with
  | none => rfl
  | some v => rw [e] at h; cases h
theorem getD_from {ph : List By} {k : By} (h : k ∈ ph) : (findM (mapFrom 0 ph) k).getD 0 = ((ph.idxOf k : Nat) : Int) := by
  rw [findM_from, if_pos h, Nat.zero_add]; rfl
theorem enc_more' {ph : List By} {s : By} {k : Nat} (hl : lp ph s = k) (h0 : [] ∈ ph) (hk : k < s.length) :
    encS ph s = ((findM (mapFrom 0 ph) (s.take k)).getD 0, (((s.getD k 0).toNat : Nat) : Int)) :: encS (ph ++ [s.take (k + 1)]) (s.drop (k + 1)) := by
  subst hl
  rw [encS_more hk, getD_from ((lp_spec h0).1 _ (Nat.le_refl _))]
theorem enc_last' {ph : List By} {s : By} {k : Nat} (hl : lp ph s = k) (h0 : [] ∈ ph) (hs : s ≠ []) (hk : ¬ k < s.length) :
    encS ph s = ((findM (mapFrom 0 ph) (s.take k)).getD 0, -1) :: encS ph (s.drop k) := by
  subst hl
  have e : s.take (lp ph s) = s := List.take_of_length_le (by omega)
  have e2 : s.drop (lp ph s) = [] := List.drop_of_length_le (by omega)
  rw [encS_last hs hk, getD_from ((lp_spec h0).1 _ (Nat.le_refl _)), e, e2]; rfl
theorem upto_mem {ph : List By} {s : By} {k : Nat} (h : ∀ i, i ≤ k → s.take i ∈ ph) (h1 : s.take (k + 1) ∈ ph) : ∀ i, i ≤ k + 1 → s.take i ∈ ph := fun i hi => by
  by_cases e : i = k + 1
  · subst e; exact h1
  · exact h i (by omega)
theorem pre_one {α : Type} (a : List α) (x : α) (b : List α) : a ++ [x] <+: a ++ x :: b := ⟨b, by simp⟩
theorem mapO_snoc {ph : List By} {w : By} {o : Obj} (h : MapO (mapFrom 0 ph ++ [(w, (((mapFrom 0 ph).length : Nat) : Int))]) o) : MapO (mapFrom 0 (ph ++ [w])) o := by
  rw [mapFrom_snoc, Nat.zero_add]
  rw [mapFrom_length] at h
  exact h
theorem enc_len : ∀ {f : Nat} {ph : List By} {s : By}, (enc f ph s).length ≤ f
  | 0, _, _ => Nat.le_refl _
  | f + 1, ph, s => by
    unfold enc
    split
    · simp
    · split
      · have := enc_len (f := f) (ph := ph ++ [s.take (lp ph s + 1)]) (s := s.drop (lp ph s + 1))
        simp only [List.length_cons]; omega
      · simp
theorem encS_len {ph : List By} {s : By} : (encS ph s).length ≤ s.length := enc_len
theorem pre_len {α : Type} {a : List α} {x : α} {b : List α} (h : a ++ [x] <+: b) : a.length + 1 ≤ b.length := by
  have := h.length_le
  simpa using this
theorem pies_snoc (xs : List Pie) (x : Pie) : pies xs ++ [[.int .i64 x.1, .int .i64 x.2]] = pies (xs ++ [x]) := by simp [pies, Pie.cells]
theorem St.lend {h₀ h : Heap} {B₀ : List Nat} {p : PHeap} {L Y : Pcs} {x : Nat × Obj} {i : Nat} (s : St h₀ B₀ p h L) (hx : L[i]? = some x) (e : L.eraseIdx i = Y) : St h₀ B₀ p h ([x] ++ (Y ++ [])) :=
  s.perm (by subst e; simpa using perm_eraseIdx hx)
end Go.X.Cent
namespace Go.X.Cent
open Go.X

/-- What a piece is, where the phrases are these. -/
def pT (ph : List By) (x : Pie) : By := ph.getD x.1.toNat [] ++ (if x.2 = -1 then [] else [UInt8.ofNat x.2.toNat])
def rd1 (ph : List By) (x : Pie) : Option By := if ((ph.length : Nat) : Int) ≤ x.1 then none else if pT ph x = [] then none else some (pT ph x)
def rdTo : List By → List Pie → Option (List By)
  | e, [] => some e
  | e, x :: l => match rd1 ([] :: e) x with
    | none => none
    | some t => rdTo (e ++ [t]) l
theorem drop_cons {α : Type} {l : List α} {k : Nat} {d : α} (h : k < l.length) : l.drop k = l.getD k d :: l.drop (k + 1) := by
  rw [List.drop_eq_getElem_cons h, List.getD_eq_getElem?_getD, List.getElem?_eq_getElem h]; rfl
section
variable {e : List By} {xs : List Pie} {k : Nat}
theorem rd_big (he : e.length = k) (hk : k < xs.length) (h : ((k + 1 : Nat) : Int) ≤ (xs.getD k pz).1) : rdTo e (xs.drop k) = none := by
  rw [drop_cons (d := pz) hk, rdTo, rd1, if_pos (by simp only [List.length_cons]; omega)]
theorem rd_nil0 (he : e.length = k) (hk : k < xs.length) (h1 : ¬ ((k + 1 : Nat) : Int) ≤ (xs.getD k pz).1) (h2 : (xs.getD k pz).2 = -1) (h3 : ([] :: e).getD (xs.getD k pz).1.toNat [] = []) : rdTo e (xs.drop k) = none := by
  rw [drop_cons (d := pz) hk, rdTo, rd1, if_neg (by simp only [List.length_cons]; omega), pT, if_pos h2, h3, List.append_nil, if_pos rfl]
theorem rd_step0 (he : e.length = k) (hk : k < xs.length) (h1 : ¬ ((k + 1 : Nat) : Int) ≤ (xs.getD k pz).1) (h2 : (xs.getD k pz).2 = -1) (h3 : ¬ ([] :: e).getD (xs.getD k pz).1.toNat [] = []) :
    rdTo e (xs.drop k) = rdTo (e ++ [([] :: e).getD (xs.getD k pz).1.toNat []]) (xs.drop (k + 1)) := by
  rw [drop_cons (d := pz) hk, rdTo, rd1, if_neg (by simp only [List.length_cons]; omega), pT, if_pos h2, List.append_nil, if_neg h3]
theorem rd_step1 (he : e.length = k) (hk : k < xs.length) (h1 : ¬ ((k + 1 : Nat) : Int) ≤ (xs.getD k pz).1) (h2 : ¬ (xs.getD k pz).2 = -1) :
    rdTo e (xs.drop k) = rdTo (e ++ [([] :: e).getD (xs.getD k pz).1.toNat [] ++ [UInt8.ofNat (xs.getD k pz).2.toNat]]) (xs.drop (k + 1)) := by
  rw [drop_cons (d := pz) hk, rdTo, rd1, if_neg (by simp only [List.length_cons]; omega), pT, if_neg h2, if_neg (by simp)]
theorem rd_end (hk : xs.length ≤ k) (h : rdTo e (xs.drop k) = rdTo [] xs) : rdTo [] xs = some e := by
  rw [List.drop_of_length_le hk, rdTo] at h
  exact h.symm
theorem scs_cons_len (he : e.length = k) : (scs ([] :: e)).length = k + 1 := by rw [scs_length, List.length_cons, he]
theorem scs_at {l : List By} {i : Nat} (h : i < l.length) : (scs l)[i]? = some [sv (l.getD i [])] := by
  rw [scs, List.getElem?_map, List.getD_eq_getElem?_getD, List.getElem?_eq_getElem h]; rfl
theorem scs_snoc (l : List By) (t : By) : scs l ++ [[sv t]] = scs (l ++ [t]) := by simp [scs]
theorem scs_snoc1 (l : List By) (t : By) : scs ([] :: l) ++ [[sv t]] = scs ([] :: (l ++ [t])) := by simp [scs]
theorem ph_len {m i : Nat} (h : ∀ t ∈ e, t.length ≤ m) : (([] :: e).getD i []).length ≤ m := by
  rw [List.getD_eq_getElem?_getD]
  cases c : ([] :: e)[i]? with
  | none => simp
  | some t =>
    rcases List.mem_cons.1 (List.mem_of_getElem? c) with h1 | h1
    · subst h1; simp
    · exact h t h1
theorem all_snoc {m : Nat} {t : By} (h : ∀ t ∈ e, t.length ≤ m) (ht : t.length ≤ m + 1) : ∀ s ∈ e ++ [t], s.length ≤ m + 1 := fun s hs => by
  rcases List.mem_append.1 hs with h1 | h1
  · have := h s h1; omega
  · rw [List.mem_singleton.1 h1]; exact ht
theorem flat_snoc (t : By) : (e ++ [t]).flatten = e.flatten ++ t := by simp
end
theorem _root_.Go.X.St.dropX {h₀ h : Heap} {B₀ : List Nat} {p : PHeap} {A X C : Pcs} (s : St h₀ B₀ p h (A ++ (X ++ C))) : St h₀ B₀ p h (A ++ C) := s.sub (List.Sublist.append_left (List.sublist_append_right X C) A)
end Go.X.Cent
namespace Go.X.Cent
open Go.X

def isL (c : UInt8) : Prop := 65 ≤ c.toNat ∧ c.toNat ≤ 90
instance (c : UInt8) : Decidable (isL c) := inferInstanceAs (Decidable (_ ∧ _))
def phN (s : By) : Int := ((((s.getD 0 0).toNat : Nat) : Int) - 65) * 26 + ((((s.getD 1 0).toNat : Nat) : Int) - 65)
def pie1 (s : By) : Option (Pie × By) :=
  if s.length < 2 ∨ ¬ isL (s.getD 0 0) ∨ ¬ isL (s.getD 1 0) then none
  else if s.drop 2 = [] then some ((phN s, -1), s.drop 2)
  else if ((s.drop 2).getD 0 0).toNat = 126 then some ((phN s, 10), (s.drop 2).drop 1)
  else if ((s.drop 2).getD 0 0).toNat < 32 ∨ 125 < ((s.drop 2).getD 0 0).toNat then none
  else some ((phN s, ((((s.drop 2).getD 0 0).toNat : Nat) : Int)), (s.drop 2).drop 1)
def prs : Nat → List Pie → By → Option (List Pie)
  | 0, out, _ => some out
  | f + 1, out, s => if s = [] then some out else match pie1 s with
    | none => none
    | some (x, r) => prs f (out ++ [x]) r
def prsS (out : List Pie) (s : By) : Option (List Pie) := prs s.length out s
def formB (s : By) : Option (List Pie) :=
  if 1400 < s.length ∨ s.length < 5 ∨ (s.getD (s.length - 5) 0).toNat ≠ 61 then none
  else if ∃ c ∈ s.drop (s.length - 4), c.toNat < 48 ∨ 57 < c.toNat then none
  else prsS [] (s.take (s.length - 5))
theorem pie1_shorter {s : By} {x : Pie} {r : By} (h : pie1 s = some (x, r)) : r.length < s.length := by
  unfold pie1 at h
  split at h
  · cases h
  rename_i h0
  have : ¬ s.length < 2 := fun z => h0 (.inl z)
  split at h
  · cases h; rw [List.length_drop]; omega
  split at h
  · cases h; rw [List.length_drop, List.length_drop]; omega
  split at h
  · cases h
  · cases h; rw [List.length_drop, List.length_drop]; omega
theorem prs_fuel : ∀ {f g : Nat} {out : List Pie} {s : By}, s.length ≤ f → s.length ≤ g → prs f out s = prs g out s
  | 0, 0, _, _, _, _ => rfl
  | 0, g + 1, out, s, h, _ => by
    have : s = [] := List.eq_nil_of_length_eq_zero (by omega)
    subst this; rfl
  | f + 1, 0, out, s, _, h => by
    have : s = [] := List.eq_nil_of_length_eq_zero (by omega)
    subst this; rfl
  | f + 1, g + 1, out, s, h1, h2 => by
    unfold prs
    split
    · rfl
    · cases e : pie1 s with
      | none => rfl
      | some q =>
        obtain ⟨x, r⟩ := q
        have := pie1_shorter e
        exact prs_fuel (by omega) (by omega)
theorem prs_end (out : List Pie) : prsS out [] = some out := rfl
theorem prs_none {out : List Pie} {s : By} (h0 : s ≠ []) (h : pie1 s = none) : prsS out s = none := by
  unfold prsS
  obtain ⟨f, hf⟩ : ∃ f, s.length = f + 1 := ⟨s.length - 1, by have := List.length_pos_iff.2 h0; omega⟩
  rw [hf, prs, if_neg h0, h]
theorem prs_step {out : List Pie} {s : By} {x : Pie} {r : By} (h : pie1 s = some (x, r)) : prsS out s = prsS (out ++ [x]) r := by
  have hs := pie1_shorter h
  have h0 : s ≠ [] := fun e => by subst e; simp at hs
  unfold prsS
  obtain ⟨f, hf⟩ : ∃ f, s.length = f + 1 := ⟨s.length - 1, by have := List.length_pos_iff.2 h0; omega⟩
  rw [hf, prs, if_neg h0, h]
  exact prs_fuel (by omega) (Nat.le_refl _)
section
variable {s : By}
theorem pie_bad (h : s.length < 2 ∨ ¬ (65 ≤ (((s.getD 0 0).toNat : Nat) : Int) ∧ (((s.getD 0 0).toNat : Nat) : Int) ≤ 90) ∨ ¬ (65 ≤ (((s.getD 1 0).toNat : Nat) : Int) ∧ (((s.getD 1 0).toNat : Nat) : Int) ≤ 90)) : pie1 s = none := by
  unfold pie1
  rw [if_pos]
  rcases h with h | h | h
  · exact .inl h
  · exact .inr (.inl fun z => h (by have := z.1; have := z.2; omega))
  · exact .inr (.inr fun z => h (by have := z.1; have := z.2; omega))
theorem pie_ok (h0 : ¬ s.length < 2) (h1 : 65 ≤ (((s.getD 0 0).toNat : Nat) : Int) ∧ (((s.getD 0 0).toNat : Nat) : Int) ≤ 90) (h2 : 65 ≤ (((s.getD 1 0).toNat : Nat) : Int) ∧ (((s.getD 1 0).toNat : Nat) : Int) ≤ 90) :
    pie1 s = if s.drop 2 = [] then some ((phN s, -1), s.drop 2) else if ((s.drop 2).getD 0 0).toNat = 126 then some ((phN s, 10), (s.drop 2).drop 1)
      else if ((s.drop 2).getD 0 0).toNat < 32 ∨ 125 < ((s.drop 2).getD 0 0).toNat then none else some ((phN s, ((((s.drop 2).getD 0 0).toNat : Nat) : Int)), (s.drop 2).drop 1) := by
  unfold pie1
  rw [if_neg]
  rintro (z | z | z)
  · exact h0 z
  · exact z ⟨by omega, by omega⟩
  · exact z ⟨by omega, by omega⟩
end
end Go.X.Cent
