/-
  Part of proofs about cisterns, beside goroutines that are only leaving. No condition.
-/
import Derived.Conc.Beside
import Derived.Conc.CrowdRun
import Derived.Conc.TokenTrace
import Derived.Conc.WgGenN3
import Derived.Conc.CrowdStepC2
namespace Go.X
open Go.Conc

abbrev Heap := Array Obj

def cell? (h : Heap) (a : Addr) : Option Value :=
  match h[a.block]? with
  | some (.cells c _ _) => if a.spot.isSome then none else c[a.off]?
  | _ => none

def frozenAt (h : Heap) (a : Addr) : Bool :=
  match h[a.block]? with
  | some (.cells _ _ (lo, hi)) => lo ≤ a.off && a.off < hi
  | _ => false

def setCell (h : Heap) (a : Addr) (v : Value) : Heap :=
  h.modify a.block fun
    | .cells c elem frozen => .cells (if a.spot.isSome then c else c.setIfInBounds a.off v) elem frozen
    | o => o

def freezeH (h : Heap) (a : Addr) (n : Nat) : Heap :=
  if n = 0 then h else
  h.modify a.block fun
    | .cells c elem (lo, hi) => .cells c elem (if lo == hi then (a.off, a.off + n) else (min lo a.off, max hi (a.off + n)))
    | o => o

def isOne : Value → Bool
  | .agg _ => false
  | .tuple _ => false
  | _ => true

/-- There are cells in the address's block. -/
def seenAt (h : Heap) (a : Addr) : Prop := ∃ c e f, h[a.block]? = some (.cells c e f) ∧ 0 < c.size

def okMark : Mark → Bool
  | .extern _ => true
  | .noRoom => true
  | _ => false

/-- What 's' does to heap 'h', whatever is drawn: 'K' of what it yields and of the heap that it leaves. Nothing halts. -/
def wpS {α : Type} (P : Program) : Sem α → Heap → (α → Heap → Prop) → Prop
  | .pure a, h, K => K a h
  | .load m a k, h, K => m = .plain ∧ ∃ v, cell? h a = some v ∧ wpS P (k v) h K
  | .store m a v k, h, K => m = .plain ∧ isOne v = true ∧ (∃ u, cell? h a = some u) ∧ frozenAt h a = false ∧ wpS P k (setCell h a v) K
  | .new o k, h, K => wpS P (k h.size) (h.push o) K
  | .shape r k, h, K => match h[r]? with
    | some (.cells c e _) => 0 < c.size ∧ wpS P (k (some (e, c.size))) h K
    | _ => wpS P (k none) h K
  | .freeze a n k, h, K => (∃ c e f, h[a.block]? = some (.cells c e f) ∧ 0 < c.size ∧ f ≠ (0, c.size)) ∧ wpS P k (freezeH h a n) K
  | .frozen a k, h, K => seenAt h a ∧ ((cell? h a).isSome = true ∧ frozenAt h a = false → wpS P (k false) h K) ∧ (¬ ((cell? h a).isSome = true ∧ frozenAt h a = false) → ∀ b, wpS P (k b) h K)
  | .getObj r k, h, K => match h[r]? with
    | some (.cells ..) => False
    | some o => o.isChan = false ∧ wpS P (k o) h K
    | none => False
  | .setObj r o k, h, K => match h[r]? with
    | some (.cells ..) => False
    | some o' => o'.isChan = false ∧ o.isChan = false ∧ wpS P k (h.setIfInBounds r o) K
    | none => False
  | .choose q k, h, K => if q.forced then wpS P (k 0) h K else ∀ t, wpS P (k (q.cut t)) h K
  | .sys _ _, _, _ => False
  | .program k, h, K => wpS P (k P) h K
  | .mark m k, h, K => okMark m = true ∧ wpS P k h K
  | .halt _, _, _ => False

section
variable {α β : Type} {P : Program}

theorem wpS_mono {s : Sem α} : ∀ {h : Heap} {K K' : α → Heap → Prop}, wpS P s h K → (∀ a h, K a h → K' a h) → wpS P s h K' := by
  induction s with
  | pure a => exact fun x y => y _ _ x
  | load m a k ih => exact fun ⟨x, v, y, z⟩ q => ⟨x, v, y, ih v z q⟩
  | store m a v k ih => exact fun ⟨x, o, y, z, t⟩ q => ⟨x, o, y, z, ih t q⟩
  | new o k ih => exact fun x q => ih _ x q
  | shape r k ih =>
    intro h K K' x q
    unfold wpS at x ⊢
    split at x
    · exact ⟨x.1, ih _ x.2 q⟩
    · exact ih _ x q
  | freeze a n k ih => exact fun x q => ⟨x.1, ih x.2 q⟩
  | frozen a k ih => exact fun x q => ⟨x.1, fun e => ih _ (x.2.1 e) q, fun e b => ih _ (x.2.2 e b) q⟩
  | getObj r k ih =>
    intro h K K' x q
    unfold wpS at x ⊢
    split at x
    · exact x
    · exact ⟨x.1, ih _ x.2 q⟩
    · exact x
  | setObj r o k ih =>
    intro h K K' x q
    unfold wpS at x ⊢
    split at x
    · exact x
    · exact ⟨x.1, x.2.1, ih x.2.2 q⟩
    · exact x
  | choose qn k ih =>
    intro h K K' x q
    unfold wpS at x ⊢
    split at x
    · rename_i hf; rw [if_pos hf]; exact ih _ x q
    · rename_i hf; rw [if_neg hf]; exact fun t => ih _ (x t) q
  | sys c k ih => exact fun x _ => x.elim
  | program k ih => exact fun x q => ih _ x q
  | mark m k ih => exact fun ⟨x, y⟩ q => ⟨x, ih y q⟩
  | halt h => exact fun x _ => x.elim

theorem wpS_bind' {s : Sem α} {f : α → Sem β} : ∀ {h : Heap} {K : β → Heap → Prop}, wpS P s h (fun a h' => wpS P (f a) h' K) → wpS P (s.bind f) h K := by
  induction s with
  | pure a => exact id
  | load m a k ih => exact fun ⟨x, v, y, z⟩ => ⟨x, v, y, ih v z⟩
  | store m a v k ih => exact fun ⟨x, o, y, z, t⟩ => ⟨x, o, y, z, ih t⟩
  | new o k ih => exact fun x => ih _ x
  | shape r k ih =>
    intro h K x
    unfold Sem.bind
    unfold wpS at x ⊢
    split at x
    · exact ⟨x.1, ih _ x.2⟩
    · exact ih _ x
  | freeze a n k ih => exact fun x => ⟨x.1, ih x.2⟩
  | frozen a k ih => exact fun x => ⟨x.1, fun e => ih _ (x.2.1 e), fun e b => ih _ (x.2.2 e b)⟩
  | getObj r k ih =>
    intro h K x
    unfold Sem.bind
    unfold wpS at x ⊢
    split at x
    · exact x
    · exact ⟨x.1, ih _ x.2⟩
    · exact x
  | setObj r o k ih =>
    intro h K x
    unfold Sem.bind
    unfold wpS at x ⊢
    split at x
    · exact x
    · exact ⟨x.1, x.2.1, ih x.2.2⟩
    · exact x
  | choose qn k ih =>
    intro h K x
    unfold Sem.bind
    unfold wpS at x ⊢
    split at x
    · rename_i hf; rw [if_pos hf]; exact ih _ x
    · rename_i hf; rw [if_neg hf]; exact fun t => ih _ (x t)
  | sys c k ih => exact fun x => x.elim
  | program k ih => exact fun x => ih _ x
  | mark m k ih => exact fun ⟨x, y⟩ => ⟨x, ih y⟩
  | halt h => exact fun x => x.elim

theorem wpS_bind {s : Sem α} {f : α → Sem β} {h : Heap} {K : β → Heap → Prop} (x : wpS P s h (fun a h' => wpS P (f a) h' K)) : wpS P (s >>= f) h K := wpS_bind' x

theorem wpS_pure {a : α} {h : Heap} {K : α → Heap → Prop} (x : K a h) : wpS P (pure a) h K := x

/-- What a goroutine sees of the heap: 'dead' blocks not at all, 'still' ones as frozen ones. -/
structure Vw where
  dead : Nat → Prop
  still : Nat → Prop

def Vw.of (S : Nat → Prop) : Vw := ⟨S, fun _ => False⟩

/-- The heap 'h' is how 'r' is seen. -/
structure Veil (S : Vw) (h r : Heap) : Prop where
  size : h.size = r.size
  same : ∀ b, ¬ S.dead b → ¬ S.still b → h[b]? = r[b]?
  shun : ∀ b, S.dead b → h[b]? = some (.cells #[] 0 (0, 0))
  frz : ∀ b, S.still b → ∃ c e f, r[b]? = some (.cells c e f) ∧ h[b]? = some (.cells c e (0, c.size))

theorem Veil.refl (h : Heap) : Veil (.of fun _ => False) h h := ⟨rfl, fun _ _ _ => rfl, fun _ x => x.elim, fun _ x => x.elim⟩

variable {S : Vw} {h r : Heap}

theorem Veil.cell (V : Veil S h r) {a : Addr} {v : Value} (x : cell? h a = some v) : cell? r a = some v ∧ ¬ S.dead a.block := by
  by_cases hs : S.dead a.block
  · have hb := V.shun _ hs
    unfold cell? at x
    rw [hb] at x
    simp at x
  · refine ⟨?_, hs⟩
    by_cases ht : S.still a.block
    · obtain ⟨c, e, f, hr, hh⟩ := V.frz _ ht
      unfold cell? at x ⊢
      rw [hh] at x; rw [hr]
      exact x
    · unfold cell? at x ⊢
      rw [← V.same _ hs ht]
      exact x

theorem cell_lt {a : Addr} {v : Value} (x : cell? h a = some v) : a.block < h.size := by
  unfold cell? at x
  split at x
  · rename_i c e f hb; exact (Array.getElem?_eq_some_iff.1 hb).1
  · cases x

theorem Veil.seen (V : Veil S h r) {a : Addr} (x : seenAt h a) : ¬ S.dead a.block := by
  intro hs
  obtain ⟨c, e, f, hb, hc⟩ := x
  rw [V.shun _ hs] at hb
  cases hb
  simp at hc

theorem Veil.frozen (V : Veil S h r) {a : Addr} (hs : ¬ S.dead a.block) (ht : ¬ S.still a.block) : frozenAt h a = frozenAt r a := by
  unfold frozenAt; rw [V.same _ hs ht]

/-- A cell that may be written is not still. -/
theorem Veil.thaw (V : Veil S h r) {a : Addr} {v : Value} (x : cell? h a = some v) (hf : frozenAt h a = false) : ¬ S.still a.block := by
  intro ht
  obtain ⟨c, e, f, hr, hh⟩ := V.frz _ ht
  unfold cell? at x
  unfold frozenAt at hf
  rw [hh] at x hf
  simp only at x hf
  split at x
  · cases x
  · have := (Array.getElem?_eq_some_iff.1 x).1
    simp at hf
    omega

theorem getElem?_modify' (h : Heap) (i j : Nat) (f : Obj → Obj) : (h.modify i f)[j]? = if i = j then h[j]?.map f else h[j]? := by
  rw [Array.getElem?_modify]

theorem Veil.modify (V : Veil S h r) {i : Nat} (f : Obj → Obj) (hs : ¬ S.dead i) (ht : ¬ S.still i) : Veil S (h.modify i f) (r.modify i f) := by
  refine ⟨by simp [V.size], fun b hb hb' => ?_, fun b hb => ?_, fun b hb => ?_⟩
  · rw [getElem?_modify', getElem?_modify', V.same _ hb hb']
  · have hne : i ≠ b := fun e => hs (e ▸ hb)
    rw [getElem?_modify', if_neg hne]
    exact V.shun _ hb
  · have hne : i ≠ b := fun e => ht (e ▸ hb)
    rw [getElem?_modify', if_neg hne, getElem?_modify', if_neg hne]
    exact V.frz _ hb

theorem Veil.setCell (V : Veil S h r) {a : Addr} (v : Value) (hs : ¬ S.dead a.block) (ht : ¬ S.still a.block) : Veil S (X.setCell h a v) (X.setCell r a v) := V.modify _ hs ht

theorem Veil.freeze (V : Veil S h r) {a : Addr} (n : Nat) (hs : ¬ S.dead a.block) (ht : ¬ S.still a.block) : Veil S (freezeH h a n) (freezeH r a n) := by
  unfold freezeH
  split
  · exact V
  · exact V.modify _ hs ht

theorem Veil.lt (V : Veil S h r) {b : Nat} (hb : S.dead b) : b < r.size := by
  rw [← V.size]; exact (Array.getElem?_eq_some_iff.1 (V.shun _ hb)).1
theorem Veil.lts (V : Veil S h r) {b : Nat} (hb : S.still b) : b < r.size := by
  obtain ⟨c, e, f, hr, _⟩ := V.frz _ hb
  exact (Array.getElem?_eq_some_iff.1 hr).1

theorem Veil.push (V : Veil S h r) (o : Obj) : Veil S (h.push o) (r.push o) := by
  refine ⟨by simp [V.size], fun b hb hb' => ?_, fun b hb => ?_, fun b hb => ?_⟩
  · rw [Array.getElem?_push, Array.getElem?_push, V.size, V.same _ hb hb']
  · have := V.lt hb
    rw [Array.getElem?_push, V.size, if_neg (by omega)]
    exact V.shun _ hb
  · have := V.lts hb
    rw [Array.getElem?_push, Array.getElem?_push, V.size, if_neg (by omega), if_neg (by omega)]
    exact V.frz _ hb

theorem Veil.setObj (V : Veil S h r) {b : Nat} (o : Obj) (hs : ¬ S.dead b) (ht : ¬ S.still b) : Veil S (h.setIfInBounds b o) (r.setIfInBounds b o) := by
  refine ⟨by simp [V.size], fun c hc hc' => ?_, fun c hc => ?_, fun c hc => ?_⟩
  · rw [Array.getElem?_setIfInBounds, Array.getElem?_setIfInBounds, V.size, V.same _ hc hc']
  · have hne : b ≠ c := fun e => hs (e ▸ hc)
    rw [Array.getElem?_setIfInBounds_ne hne]
    exact V.shun _ hc
  · have hne : b ≠ c := fun e => ht (e ▸ hc)
    rw [Array.getElem?_setIfInBounds_ne hne, Array.getElem?_setIfInBounds_ne hne]
    exact V.frz _ hc

/-- What is seen and has no cells is neither dead nor still. -/
theorem Veil.obj (V : Veil S h r) {b : Nat} {o : Obj} (hn : ∀ c e f, o = .cells c e f → False) (ho : h[b]? = some o) : ¬ S.dead b ∧ ¬ S.still b := by
  refine ⟨fun hs => ?_, fun ht => ?_⟩
  · rw [V.shun _ hs] at ho
    exact hn _ _ _ (Option.some.inj ho).symm
  · obtain ⟨c, e, f, _, hh⟩ := V.frz _ ht
    rw [hh] at ho
    exact hn _ _ _ (Option.some.inj ho).symm

/-- What stands of a heap: it grows; what was there is as it was. -/
structure Keep (h h' : Heap) : Prop where
  size : h.size ≤ h'.size
  keep : ∀ b, b < h.size → h'[b]? = h[b]?

theorem Keep.refl (h : Heap) : Keep h h := ⟨Nat.le_refl _, fun _ _ => rfl⟩
theorem Keep.trans {a b c : Heap} (x : Keep a b) (y : Keep b c) : Keep a c := ⟨Nat.le_trans x.size y.size, fun i hi => (y.keep i (Nat.lt_of_lt_of_le hi x.size)).trans (x.keep i hi)⟩

def ShunOf (S : Nat → Prop) : Loc → Prop := fun l => ∃ a : Addr, l = .cell a ∧ S a.block

/-- The world but for its heap and the count of its draws. -/
structure Calm (w w' : World) : Prop where
  os : w'.os = w.os
  tape : w'.tape = w.tape
  output : w'.output = w.output
  size : w.heap.size ≤ w'.heap.size

theorem Calm.refl (w : World) : Calm w w := ⟨rfl, rfl, rfl, Nat.le_refl _⟩
theorem Calm.trans {a b c : World} (x : Calm a b) (y : Calm b c) : Calm a c :=
  ⟨y.os.trans x.os, y.tape.trans x.tape, y.output.trans x.output, Nat.le_trans x.size y.size⟩

/-- .. what is dead or still to it stands. -/
structure Quiet (S : Vw) (w w' : World) : Prop where
  calm : Calm w w'
  stand : ∀ b, b < w.heap.size → S.dead b ∨ S.still b → w'.heap[b]? = w.heap[b]?

theorem Quiet.size {S : Vw} {w w' : World} (x : Quiet S w w') : w.heap.size ≤ w'.heap.size := x.calm.size
theorem Quiet.refl {S : Vw} (w : World) : Quiet S w w := ⟨.refl w, fun _ _ _ => rfl⟩
theorem Quiet.trans {S : Vw} {a b c : World} (x : Quiet S a b) (y : Quiet S b c) : Quiet S a c :=
  ⟨x.calm.trans y.calm, fun i hi z => (y.stand i (Nat.lt_of_lt_of_le hi x.size) z).trans (x.stand i hi z)⟩

/-- What a step may list: plain touches of what is seen; no writes to what is still. -/
def EvX (S : Vw) (B : Nat) (e : Event) : Prop :=
  match e.loc with
  | .cell a => e.sync = false ∧ ¬ S.dead a.block ∧ a.block < B ∧ (e.write = true → ¬ S.still a.block)
  | .obj b => e.sync = false ∧ ¬ S.dead b ∧ b < B ∧ ¬ S.still b
  | .mark m => okMark m = true
  | _ => False

theorem evX_mono {S : Vw} {B B' : Nat} (hB : B ≤ B') {e : Event} (x : EvX S B e) : EvX S B' e := by
  unfold EvX at x ⊢
  split at x
  · exact ⟨x.1, x.2.1, Nat.lt_of_lt_of_le x.2.2.1 hB, x.2.2.2⟩
  · exact ⟨x.1, x.2.1, Nat.lt_of_lt_of_le x.2.2.1 hB, x.2.2.2⟩
  · exact x
  · exact x.elim

theorem evX_evL {S : Vw} {B : Nat} {e : Event} (x : EvX S B e) : EvL (ShunOf S.dead) B e := by
  obtain ⟨loc, wr, sy⟩ := e
  unfold EvX at x
  split at x
  · rename_i a ha
    simp only at ha x; subst ha
    obtain ⟨rfl, hs, hb, _⟩ := x
    refine ⟨?_, by simp, by simp, hb⟩
    intro y hy hsh
    simp [MemAct.ofEvent, MemAct.touch?] at hy
    subst hy
    obtain ⟨b, hb', hsb⟩ := hsh
    cases hb'
    exact absurd hsb hs
  · rename_i b hb'
    simp only at hb' x; subst hb'
    obtain ⟨rfl, hs, hb, _⟩ := x
    refine ⟨?_, by simp, by simp, by simpa [MemAct.ofEvent, MemAct.low, Loc.low] using hb⟩
    intro y hy hsh
    simp [MemAct.ofEvent, MemAct.touch?] at hy
    subst hy
    obtain ⟨_, hb', _⟩ := hsh
    cases hb'
  · rename_i m hm
    simp only at hm; subst hm
    cases m <;> simp_all [okMark]
    all_goals
      refine ⟨?_, by simp, by simp, trivial⟩
      intro x hx
      simp [MemAct.ofEvent, MemAct.touch?] at hx
  · exact x.elim

theorem setCell_ne0 {h : Heap} {a : Addr} {v : Value} {b : Nat} (hne : b ≠ a.block) : (setCell h a v)[b]? = h[b]? := by
  unfold setCell; rw [getElem?_modify', if_neg (Ne.symm hne)]
theorem freezeH_ne {h : Heap} {a : Addr} {n b : Nat} (hne : b ≠ a.block) : (freezeH h a n)[b]? = h[b]? := by
  unfold freezeH; split
  · rfl
  · rw [getElem?_modify', if_neg (Ne.symm hne)]

/-- THE MODEL's RUN DOES WHAT 'wpS' SAYS, whatever is veiled. -/
theorem wpS_run (s : Sem α) : ∀ {h : Heap} {K : α → Heap → Prop} {w : World} (es₀ : Array Event), wpS P s h K → Veil S h w.heap →
    ∃ a h' w' es, s.runT P w es₀ = (.ok a w', es₀ ++ es) ∧ s.run P w = .ok a w' ∧ K a h' ∧ Veil S h' w'.heap ∧ Quiet S w w' ∧ ∀ e ∈ es, EvX S w'.heap.size e := by
  induction s with
  | pure a => exact fun {h K w} es₀ x V => ⟨a, h, w, #[], by simp [Sem.runT], rfl, x, V, .refl _, by simp⟩
  | load m a k ih =>
    intro h K w es₀ ⟨hm, v, hc, x⟩ V
    obtain ⟨hcr, hs⟩ := V.cell hc
    have hcw : w.cell? a = some v := hcr
    obtain ⟨y, h', w', es, e1, e2, e3, e4, e5, e6⟩ := ih v (es₀.push ⟨.cell a, false, m == .atomic⟩) x V
    subst hm
    refine ⟨y, h', w', #[⟨.cell a, false, false⟩] ++ es, ?_, ?_, e3, e4, e5, ?_⟩
    · simp only [Sem.runT, hcw, e1, Prod.mk.injEq, true_and]
      rw [← Array.append_assoc]; congr 1
    · simp only [Sem.run, hcw, e2]
    · intro e he
      rcases Array.mem_append.1 he with he | he
      · simp at he; subst he
        exact ⟨rfl, hs, Nat.lt_of_lt_of_le (cell_lt hcr) e5.size, fun x => by cases x⟩
      · exact e6 e he
  | store m a v k ih =>
    intro h K w es₀ ⟨hm, hv, ⟨u, hu⟩, hf, x⟩ V
    obtain ⟨hur, hs⟩ := V.cell hu
    have huw : w.cell? a = some u := hur
    have ht := V.thaw hu hf
    have hfw : w.frozen? a = false := (V.frozen hs ht).symm.trans hf
    have V' : Veil S (X.setCell h a v) (w.setCell a v).heap := V.setCell v hs ht
    obtain ⟨y, h', w', es, e1, e2, e3, e4, e5, e6⟩ := ih (es₀.push ⟨.cell a, true, m == .atomic⟩) x V'
    subst hm
    have hsz : (w.setCell a v).heap.size = w.heap.size := by simp [World.setCell]
    refine ⟨y, h', w', #[⟨.cell a, true, false⟩] ++ es, ?_, ?_, e3, e4, ⟨⟨e5.calm.os, e5.calm.tape, e5.calm.output, by rw [← hsz]; exact e5.size⟩, fun b hb z => (e5.stand b (by rw [hsz]; exact hb) z).trans (setCell_ne0 (h := w.heap) fun e => by subst e; exact z.elim hs ht)⟩, ?_⟩
    · cases v <;> simp [isOne] at hv
      all_goals
        simp only [Sem.runT, huw, hfw, Bool.false_eq_true, if_false, e1, Prod.mk.injEq, true_and]
        rw [← Array.append_assoc]; congr 1
    · cases v <;> simp [isOne] at hv
      all_goals simp only [Sem.run, huw, hfw, Bool.false_eq_true, if_false, e2]
    · intro e he
      rcases Array.mem_append.1 he with he | he
      · simp at he; subst he
        exact ⟨rfl, hs, Nat.lt_of_lt_of_le (cell_lt hur) (by rw [← hsz]; exact e5.size), fun _ => ht⟩
      · exact e6 e he
  | new o k ih =>
    intro h K w es₀ x V
    have V' : Veil S (h.push o) ({ w with heap := w.heap.push o } : World).heap := V.push o
    have x' : wpS P (k w.heap.size) (h.push o) K := by rw [← V.size]; exact x
    obtain ⟨y, h', w', es, e1, e2, e3, e4, e5, e6⟩ := ih w.heap.size es₀ x' V'
    exact ⟨y, h', w', es, by simp only [Sem.runT, e1], by simp only [Sem.run, e2], e3, e4, ⟨⟨e5.calm.os, e5.calm.tape, e5.calm.output, by have := e5.size; simp at this; omega⟩, fun b hb z => (e5.stand b (by simp; omega) z).trans (by simp only [Array.getElem?_push]; rw [if_neg (by omega)])⟩, e6⟩
  | shape r k ih =>
    intro h K w es₀ x V
    unfold wpS at x
    have key : ∃ z, w.shape? r = z ∧ wpS P (k z) h K := by
      split at x
      · rename_i c e f hr
        have hs : ¬ S.dead r := by
          intro hs
          have hb := V.shun _ hs
          rw [hr] at hb
          simp at hb
          have := x.1
          rw [hb.1] at this
          simp at this
        refine ⟨_, ?_, x.2⟩
        unfold World.shape?
        by_cases ht : S.still r
        · obtain ⟨c', e', f', hr', hh⟩ := V.frz _ ht
          rw [hh] at hr
          cases hr
          rw [hr']
        · rw [← V.same _ hs ht, hr]
      · rename_i hn
        refine ⟨_, ?_, x⟩
        have hs : ¬ S.dead r := by
          intro hs
          exact hn _ _ _ (V.shun _ hs)
        have ht : ¬ S.still r := by
          intro ht
          obtain ⟨c', e', f', hr', hh⟩ := V.frz _ ht
          exact hn _ _ _ hh
        unfold World.shape?
        rw [← V.same _ hs ht]
        split
        · rename_i c e f hr
          exact absurd hr (hn _ _ _)
        · rfl
    obtain ⟨z, hz, x'⟩ := key
    obtain ⟨y, h', w', es, e1, e2, e3, e4, e5, e6⟩ := ih z es₀ x' V
    exact ⟨y, h', w', es, by simp only [Sem.runT, hz, e1], by simp only [Sem.run, hz, e2], e3, e4, e5, e6⟩
  | freeze a n k ih =>
    intro h K w es₀ ⟨⟨c, e, f, hc, hc0, hcf⟩, x⟩ V
    have hs := V.seen ⟨c, e, f, hc, hc0⟩
    have ht : ¬ S.still a.block := by
      intro ht
      obtain ⟨c', e', f', _, hh⟩ := V.frz _ ht
      rw [hh] at hc
      cases hc
      exact hcf rfl
    have hfz : (w.freeze a n).heap = freezeH w.heap a n := by unfold World.freeze freezeH; split <;> rfl
    have V' : Veil S (freezeH h a n) (w.freeze a n).heap := by rw [hfz]; exact V.freeze n hs ht
    obtain ⟨y, h', w', es, e1, e2, e3, e4, e5, e6⟩ := ih es₀ x V'
    have h1 : (w.freeze a n).os = w.os := by unfold World.freeze; split <;> rfl
    have h2 : (w.freeze a n).tape = w.tape := by unfold World.freeze; split <;> rfl
    have h3 : (w.freeze a n).output = w.output := by unfold World.freeze; split <;> rfl
    have h4 : (w.freeze a n).heap.size = w.heap.size := by unfold World.freeze; split <;> simp
    exact ⟨y, h', w', es, by simp only [Sem.runT, e1], by simp only [Sem.run, e2], e3, e4, ⟨⟨e5.calm.os.trans h1, e5.calm.tape.trans h2, e5.calm.output.trans h3, by rw [← h4]; exact e5.size⟩, fun b hb z => (e5.stand b (by rw [h4]; exact hb) z).trans (by rw [hfz]; exact freezeH_ne fun e => by subst e; exact z.elim hs ht)⟩, e6⟩
  | frozen a k ih =>
    intro h K w es₀ ⟨hsee, xt, xf⟩ V
    have x : wpS P (k (w.frozen? a)) h K := by
      by_cases hc : (cell? h a).isSome = true ∧ frozenAt h a = false
      · obtain ⟨v, hv⟩ := Option.isSome_iff_exists.1 hc.1
        have hfw : w.frozen? a = false := (V.frozen (V.seen hsee) (V.thaw hv hc.2)).symm.trans hc.2
        rw [hfw]
        exact xt hc
      · exact xf hc _
    obtain ⟨y, h', w', es, e1, e2, e3, e4, e5, e6⟩ := ih (w.frozen? a) es₀ x V
    exact ⟨y, h', w', es, by simp only [Sem.runT, e1], by simp only [Sem.run, e2], e3, e4, e5, e6⟩
  | getObj r k ih =>
    intro h K w es₀ x V
    unfold wpS at x
    split at x
    · exact x.elim
    · rename_i o hn ho
      obtain ⟨hs, ht⟩ := V.obj hn ho
      have how : w.heap[r]? = some o := (V.same _ hs ht).symm.trans ho
      obtain ⟨y, h', w', es, e1, e2, e3, e4, e5, e6⟩ := ih o (es₀.push ⟨.obj r, false, o.isChan⟩) x.2 V
      refine ⟨y, h', w', #[⟨.obj r, false, false⟩] ++ es, ?_, ?_, e3, e4, e5, ?_⟩
      · rw [x.1] at e1
        simp only [Sem.runT, how, x.1]
        cases o <;> first | exact absurd rfl (hn _ _ _) | (simp only [e1, Prod.mk.injEq, true_and]; rw [← Array.append_assoc]; congr 1)
      · simp only [Sem.run, how]
        cases o <;> first | exact absurd rfl (hn _ _ _) | exact e2
      · intro e he
        rcases Array.mem_append.1 he with he | he
        · simp at he; subst he
          exact ⟨rfl, hs, Nat.lt_of_lt_of_le (Array.getElem?_eq_some_iff.1 how).1 e5.size, ht⟩
        · exact e6 e he
    · exact x.elim
  | setObj r o k ih =>
    intro h K w es₀ x V
    unfold wpS at x
    split at x
    · exact x.elim
    · rename_i o' hn ho
      obtain ⟨hs, ht⟩ := V.obj hn ho
      have how : w.heap[r]? = some o' := (V.same _ hs ht).symm.trans ho
      have V' : Veil S (h.setIfInBounds r o) ({ w with heap := w.heap.setIfInBounds r o } : World).heap := V.setObj o hs ht
      obtain ⟨y, h', w', es, e1, e2, e3, e4, e5, e6⟩ := ih (es₀.push ⟨.obj r, true, o.isChan⟩) x.2.2 V'
      have hsz : w.heap.size ≤ w'.heap.size := by have := e5.size; simp at this; exact this
      refine ⟨y, h', w', #[⟨.obj r, true, false⟩] ++ es, ?_, ?_, e3, e4, ⟨⟨e5.calm.os, e5.calm.tape, e5.calm.output, hsz⟩, fun b hb z => (e5.stand b (by simp; exact hb) z).trans (by simp only; rw [Array.getElem?_setIfInBounds_ne fun e => by subst e; exact z.elim hs ht])⟩, ?_⟩
      · rw [x.2.1] at e1
        simp only [Sem.runT, how, x.2.1]
        cases o' <;> first | exact absurd rfl (hn _ _ _) | (simp only [e1, Prod.mk.injEq, true_and]; rw [← Array.append_assoc]; congr 1)
      · simp only [Sem.run, how]
        cases o' <;> first | exact absurd rfl (hn _ _ _) | exact e2
      · intro e he
        rcases Array.mem_append.1 he with he | he
        · simp at he; subst he
          exact ⟨rfl, hs, Nat.lt_of_lt_of_le (Array.getElem?_eq_some_iff.1 how).1 hsz, ht⟩
        · exact e6 e he
    · exact x.elim
  | choose q k ih =>
    intro h K w es₀ x V
    unfold wpS at x
    by_cases hf : q.forced = true
    · rw [if_pos hf] at x
      obtain ⟨y, h', w', es, e1, e2, e3, e4, e5, e6⟩ := ih 0 es₀ x V
      exact ⟨y, h', w', es, by simp only [Sem.runT, hf, if_true, e1], by simp only [Sem.run, hf, if_true, e2], e3, e4, e5, e6⟩
    · rw [if_neg hf] at x
      have V' : Veil S h ({ w with drawn := w.drawn + 1 } : World).heap := V
      obtain ⟨y, h', w', es, e1, e2, e3, e4, e5, e6⟩ := ih _ es₀ (x (w.tape w.drawn q)) V'
      exact ⟨y, h', w', es, by simp only [Sem.runT, if_neg hf, e1], by simp only [Sem.run, if_neg hf, e2], e3, e4, ⟨⟨e5.calm.os, e5.calm.tape, e5.calm.output, e5.size⟩, e5.stand⟩, e6⟩
  | sys c k ih => exact fun es₀ x => x.elim
  | program k ih =>
    intro h K w es₀ x V
    obtain ⟨y, h', w', es, e1, e2, e3, e4, e5, e6⟩ := ih P es₀ x V
    exact ⟨y, h', w', es, by simp only [Sem.runT, e1], by simp only [Sem.run, e2], e3, e4, e5, e6⟩
  | mark m k ih =>
    intro h K w es₀ ⟨hm, x⟩ V
    obtain ⟨y, h', w', es, e1, e2, e3, e4, e5, e6⟩ := ih (es₀.push ⟨.mark m, false, true⟩) x V
    refine ⟨y, h', w', #[⟨.mark m, false, true⟩] ++ es, ?_, by simp only [Sem.run, e2], e3, e4, e5, ?_⟩
    · simp only [Sem.runT, e1, Prod.mk.injEq, true_and]
      rw [← Array.append_assoc]; congr 1
    · intro e he
      rcases Array.mem_append.1 he with he | he
      · simp at he; subst he; exact hm
      · exact e6 e he
  | halt h => exact fun es₀ x => x.elim
end
end Go.X
namespace Go.X
open Go.Conc
open Go.ConcN (sumTo upd sumTo_upd upd_ne upd_same)

/-- Goroutine 0 is 'g', the heap is 'h' but for what is veiled; all others only leave; the trace is clean. -/
structure Scene (P : Program) (S : Nat → Prop) (gs : Array Goroutine) (w : World) (t : Trace) (q : Nat → Nat) (g : Goroutine) (h : Heap) : Prop where
  main : gs[0]? = some g
  leav : Leavers P t gs q
  past : Past (ShunOf S) w.heap.size t
  veil : Veil (.of S) h w.heap

/-- Whose walk it is: goroutine 0's (may it start others?), or a worker's. -/
inductive Md where
  | main (sp : Bool)
  | own (m : Bool)

def Md.isMain : Md → Bool
  | .main _ => true
  | .own m => m

/-- A step of a goroutine's own, whatever the others have laid meanwhile: it goes on, and 'K' of where it stands then. -/
def Own (P : Program) (main : Bool) (g : Goroutine) (h : Heap) (K : Goroutine → Heap → Prop) : Prop :=
  g.status = .running ∧ ∀ h₁, Keep h h₁ → ∀ (S : Vw) (w : World), Veil S h₁ w.heap →
    ∃ g' h' w' es, stepG P main g w = .go g' w' es ∧ K g' h' ∧ Veil S h' w'.heap ∧ Quiet S w w' ∧ ∀ e ∈ es, EvX S w'.heap.size e

theorem Own.mono {P : Program} {main : Bool} {g : Goroutine} {h : Heap} {K K' : Goroutine → Heap → Prop} (x : Own P main g h K) (y : ∀ g h, K g h → K' g h) : Own P main g h K' :=
  ⟨x.1, fun h₁ k S w V => by obtain ⟨g', h', w', es, a, b, c⟩ := x.2 h₁ k S w V; exact ⟨g', h', w', es, a, y _ _ b, c⟩⟩

def Reach (P : Program) : Md → (g : Goroutine) → (h : Heap) → (Stop : Goroutine → Heap → Prop) → Prop
  | .main sp, g, h, Stop =>
    ∀ (S : Nat → Prop) (gs : Array Goroutine) (w : World) (sl : Option (Nat × Nat)) (t : Trace) (q : Nat → Nat), Scene P S gs w t q g h →
      ∃ (N : Nat) (S' : Nat → Prop) (gs' : Array Goroutine) (w' : World) (sl' : Option (Nat × Nat)) (t' : Trace) (q' : Nat → Nat) (g' : Goroutine) (h' : Heap),
        runNT P N (crowd gs w sl) t = (.next (crowd gs' w' sl'), t') ∧ Scene P S' gs' w' t' q' g' h' ∧ Stop g' h' ∧ Quiet (.of S) w w' ∧
        (sp = false → gs'.size = gs.size) ∧ ∀ b, S b → S' b
  | .own m, g, h, Stop => ∀ Z : Goroutine → Heap → Prop, (∀ g h, Stop g h → Z g h) → (∀ g h, Own P m g h Z → Z g h) → Z g h

theorem quiet_at {S : Vw} (w : World) (d : Nat) : Quiet S w (w.at d) := ⟨⟨rfl, rfl, rfl, Nat.le_refl _⟩, fun _ _ _ => rfl⟩
theorem Quiet.mono {S S' : Vw} {w w' : World} (x : Quiet S w w') (h : ∀ b, S'.dead b ∨ S'.still b → S.dead b ∨ S.still b) : Quiet S' w w' := ⟨x.calm, fun b hb y => x.stand b hb (h b y)⟩
theorem Quiet.of {S S' : Nat → Prop} {w w' : World} (x : Quiet (.of S) w w') (h : ∀ b, S' b → S b) : Quiet (.of S') w w' := x.mono fun b y => y.imp (h b) id

section
variable {P : Program} {md : Md} {sp : Bool} {g : Goroutine} {h : Heap} {Stop Stop' : Goroutine → Heap → Prop}

theorem reach_stop (x : Stop g h) : Reach P md g h Stop := by
  cases md with
  | main sp => exact fun S gs w sl t q sc => ⟨0, S, gs, w, sl, t, q, g, h, rfl, sc, x, .refl _, fun _ => rfl, fun _ y => y⟩
  | own m => exact fun Z z1 _ => z1 _ _ x

/-- ONE STEP OF ITS OWN; the others may slip in ahead of it. -/
theorem reach_step_main (x : Own P true g h fun g' h' => Reach P (.main sp) g' h' Stop) : Reach P (.main sp) g h Stop := by
  obtain ⟨hrun, hown⟩ := x
  intro S gs w sl t q sc
  suffices H : ∀ (M : Nat) (gs : Array Goroutine) (w : World) (sl : Option (Nat × Nat)) (t : Trace) (q : Nat → Nat), sumTo gs.size q ≤ M → Scene P S gs w t q g h →
      ∃ (N : Nat) (S' : Nat → Prop) (gs' : Array Goroutine) (w' : World) (sl' : Option (Nat × Nat)) (t' : Trace) (q' : Nat → Nat) (g' : Goroutine) (h' : Heap),
        runNT P N (crowd gs w sl) t = (.next (crowd gs' w' sl'), t') ∧ Scene P S' gs' w' t' q' g' h' ∧ Stop g' h' ∧ Quiet (.of S) w w' ∧
        (sp = false → gs'.size = gs.size) ∧ ∀ b, S b → S' b from H _ gs w sl t q (Nat.le_refl _) sc
  intro M
  induction M using Nat.strongRecOn with
  | _ M ih =>
    intro gs w sl t q hM sc
    obtain ⟨h0, hL, hP, hV⟩ := sc
    have haw : ∀ g ∈ gs, awake g := by
      intro y hy
      obtain ⟨i, hi, rfl⟩ := Array.mem_iff_getElem.1 hy
      rcases Nat.eq_zero_or_pos i with rfl | hpos
      · have : gs[0] = g := by simpa [Array.getElem?_eq_getElem hi] using h0
        rw [this]; exact awake_of (.inl hrun)
      · exact awake_of ((hL.old i _ hpos (Array.getElem?_eq_getElem hi)).status.elim .inl fun x => .inr (.inr x))
    obtain ⟨i, a, d, sl', hi, ha, hst⟩ := crowd_pick (P := P) (w := w) (sl := sl) haw ⟨0, g, h0, hrun⟩
    rcases Nat.eq_zero_or_pos i with rfl | hpos
    · obtain rfl : a = g := by rw [h0] at hi; exact (Option.some.inj hi).symm
      obtain ⟨g', h', w', es, hgo, hK, hV', hc, hes⟩ := hown h (.refl _) (.of S) (w.at d) hV
      have hrunT := runT_crowd_go (P := P) (sl := sl') (i := 0) hi (show stepG P (0 == 0) a (w.at d) = _ from hgo)
      have hsz : ((gs.map (woken P a g' w')).setIfInBounds 0 g').size = gs.size := by simp
      have hlt : 0 < gs.size := (Array.getElem?_eq_some_iff.1 h0).1
      have sc' : Scene P S ((gs.map (woken P a g' w')).setIfInBounds 0 g') w' (t ++ MemOp.ofEvents 0 a.frame.fn a.frame.place es) q g' h' := by
        refine ⟨by simp [hlt], ⟨fun j x hj hx => ?_, fun j hj => ?_⟩, (hP.mono hc.size).own fun e he => evX_evL (hes e he), hV'⟩
        · have hne : 0 ≠ j := by omega
          rw [Array.getElem?_setIfInBounds_ne hne, Array.getElem?_map] at hx
          obtain ⟨y, hy, rfl⟩ := Option.map_eq_some_iff.1 hx
          have hq := hL.old j y hj hy
          rw [woken_quitsD hq, Deaf_other t (by omega) _ (fun op hop => by obtain ⟨e, _, rfl⟩ := Go.Conc.mem_ofEvents hop; rfl)]
          exact hq
        · rw [Deaf_other t (g' := 0) (by simp at hj; omega) _ (fun op hop => by obtain ⟨e, _, rfl⟩ := Go.Conc.mem_ofEvents hop; rfl)]
          exact hL.above j (by simpa using hj)
      obtain ⟨N, S2, gs2, w2, sl2, t2, q2, g2, h2, a2, b2, c2, d2, e2, f2⟩ := hK S _ w' sl' _ q sc'
      refine ⟨N + 1, S2, gs2, w2, sl2, t2, q2, g2, h2, by simp only [runNT, hst, hrunT]; exact a2, b2, c2, ((quiet_at w d).trans hc).trans d2, fun z => (e2 z).trans hsz, f2⟩
    · have hq := hL.old i a hpos hi
      have hi0 : (i == 0) = false := by simp; omega
      have hlt : i < gs.size := (Array.getElem?_eq_some_iff.1 hi).1
      cases hqi : q i with
      | zero => rw [hqi] at hq; rw [hq.1] at ha; cases ha
      | succ k =>
        rw [hqi] at hq
        rcases hq with ⟨hf, _⟩ | ⟨_, g', es, hm, hstp, hq'⟩
        · rw [hf] at ha; cases ha
        have hrunT := runT_crowd_go (P := P) (sl := sl') (i := i) hi (by rw [hi0]; exact hstp (w.at d))
        have hsz : ((gs.map (woken P a g' (w.at d))).setIfInBounds i g').size = gs.size := by simp
        have hsum : sumTo gs.size (upd q i k) + (k + 1) = sumTo gs.size q + k := by
          have := sumTo_upd q k id hlt
          simpa [hqi] using this
        have sc' : Scene P S ((gs.map (woken P a g' (w.at d))).setIfInBounds i g') (w.at d) (t ++ MemOp.ofEvents i a.frame.fn a.frame.place es) (upd q i k) g h := by
          refine ⟨?_, ⟨fun j x hj hx => ?_, fun j hj => ?_⟩, hP.mute (by omega) hm, hV⟩
          · have hne : i ≠ 0 := by omega
            rw [Array.getElem?_setIfInBounds_ne hne, Array.getElem?_map, h0]
            simp [woken_run hrun]
          · by_cases hji : i = j
            · subst hji
              rw [Array.getElem?_setIfInBounds_self_of_lt (by simpa using hlt)] at hx
              obtain rfl := Option.some.inj hx
              rw [upd_same, Deaf_own]
              exact hq'
            · rw [Array.getElem?_setIfInBounds_ne hji, Array.getElem?_map] at hx
              obtain ⟨y, hy, rfl⟩ := Option.map_eq_some_iff.1 hx
              have hqj := hL.old j y hj hy
              rw [woken_quitsD hqj, upd_ne q k (Ne.symm hji), Deaf_other t hji _ (fun op hop => by obtain ⟨e, _, rfl⟩ := Go.Conc.mem_ofEvents hop; rfl)]
              exact hqj
          · rw [Deaf_other t (g' := i) (by simp at hj; omega) _ (fun op hop => by obtain ⟨e, _, rfl⟩ := Go.Conc.mem_ofEvents hop; rfl)]
            exact hL.above j (by simpa using hj)
        obtain ⟨N, S2, gs2, w2, sl2, t2, q2, g2, h2, a2, b2, c2, d2, e2, f2⟩ := ih (sumTo gs.size (upd q i k)) (by omega) _ (w.at d) sl' _ (upd q i k) (by rw [hsz]; exact Nat.le_refl _) sc'
        exact ⟨N + 1, S2, gs2, w2, sl2, t2, q2, g2, h2, by simp only [runNT, hst, hrunT]; exact a2, b2, c2, (quiet_at w d).trans d2, fun z => (e2 z).trans hsz, f2⟩

theorem reach_step (x : Own P md.isMain g h fun g' h' => Reach P md g' h' Stop) : Reach P md g h Stop := by
  cases md with
  | main sp => exact reach_step_main x
  | own m => exact fun Z z1 z2 => z2 _ _ (x.mono fun g' h' r => r Z z1 z2)
end
end Go.X
namespace Go.X
open Go.Conc
open Go.ConcN (RelBy fork_knows)
open Go.ConcR (stA)

def LocIn (b : Nat) : Loc → Prop
  | .cell a => a.block = b
  | .obj r => r = b
  | _ => False

theorem LocIn.mem {b : Nat} : ∀ {l : Loc}, LocIn b l → l.isMemory = true
  | .cell _, _ | .obj _, _ => rfl
theorem exists_locIn : ∀ {l : Loc}, l.isMemory = true → ∃ b, LocIn b l
  | .cell a, _ => ⟨a.block, rfl⟩
  | .obj r, _ => ⟨r, rfl⟩

/-- The number of the goroutine: 0 is the starter, 'k + 1' its worker number k. -/
def gn (p : Nat) : Nat → Nat
  | 0 => 0
  | k + 1 => p + k

theorem evX_touch {S : Vw} {B : Nat} {e : Event} (x : EvX S B e) {y : Touch} (h : (MemAct.ofEvent e).touch? = some y) :
    ∃ b, LocIn b y.loc ∧ ¬ S.dead b ∧ b < B ∧ (y.write = true → ¬ S.still b) ∧ y.kind = .plain := by
  obtain ⟨loc, wr, sy⟩ := e
  unfold EvX at x
  split at x
  · rename_i a ha
    simp only at ha x; subst ha
    obtain ⟨rfl, hs, hb, ht⟩ := x
    simp [MemAct.ofEvent, MemAct.touch?] at h
    subst h
    exact ⟨a.block, rfl, hs, hb, ht, rfl⟩
  · rename_i b hb'
    simp only at hb' x; subst hb'
    obtain ⟨rfl, hs, hb, ht⟩ := x
    simp [MemAct.ofEvent, MemAct.touch?] at h
    subst h
    exact ⟨b, rfl, hs, hb, fun _ => ht, rfl⟩
  · rename_i m hm
    simp only at hm; subst hm
    cases m <;> simp_all [okMark, MemAct.ofEvent, MemAct.touch?]
  · exact x.elim

theorem evX_act {S : Vw} {B : Nat} {e : Event} (x : EvX S B e) : (∀ a, MemAct.ofEvent e ≠ .mark (.release a)) ∧ e.loc ≠ .mark .disable ∧ e.loc ≠ .mark .enable := by
  obtain ⟨loc, wr, sy⟩ := e
  unfold EvX at x
  split at x
  · rename_i a ha
    simp only at ha x; subst ha
    obtain ⟨rfl, hs, hb, ht⟩ := x
    exact ⟨by simp [MemAct.ofEvent], by simp, by simp⟩
  · rename_i b hb'
    simp only at hb' x; subst hb'
    obtain ⟨rfl, hs, hb, ht⟩ := x
    exact ⟨by simp [MemAct.ofEvent], by simp, by simp⟩
  · rename_i m hm
    simp only at hm; subst hm
    cases m <;> simp_all [okMark, MemAct.ofEvent]
  · exact x.elim

structure TI (Sh : Nat → Prop) (Wg n₀ p j : Nat) (V : Nat → Vw) (B : Nat) (t : Trace) : Prop where
  clean : ∀ said, ¬ Race said t
  mine : ∀ k, k ≤ j → ∀ i a b, touchAt t i = some a → LocIn b a.loc → ¬ (V k).dead b → ((V k).still b → a.write = true) → Knows t (gn p k) i
  known : ∀ i a b, touchAt t i = some a → LocIn b a.loc → Knows t 0 i ∨ ((Sh b ∨ b = Wg) ∧ (∃ x, a.loc = .cell x) ∧ a.kind = .atomic) ∨ ∃ k, k < j ∧ t.g? i = some (p + k) ∧ t.counts i
  over : ∀ i g, t.g? i = some g → g ≠ 0 → t.counts i → (∃ q, t.g? q = some 0 ∧ HappensBefore t i q) ∨ ∃ k, k < j ∧ g = p + k
  wgq : ∀ i a, touchAt t i = some a → LocIn Wg a.loc → (a.kind ≠ .plain ∧ (a.kind = .said → t.g? i = some 0)) ∨ ∀ k, k ≤ j → Knows t (gn p k) i
  seen : ∀ op ∈ t, op.act.low B
  norel : ∀ k, n₀ ≤ k → t.act? k ≠ some (.mark (.release (stA Wg)))
  size : n₀ ≤ t.size

section
variable {Sh : Nat → Prop} {Wg n₀ p j : Nat} {V V' : Nat → Vw} {B B' : Nat} {t u : Trace}

theorem LocIn.uniq {b c : Nat} : ∀ {l : Loc}, LocIn b l → LocIn c l → b = c
  | .cell _, x, y | .obj _, x, y => by cases x; cases y; rfl

theorem lt_of_g {i g : Nat} (h : t.g? i = some g) : i < t.size := by
  obtain ⟨z, hz, _⟩ := Option.map_eq_some_iff.1 h
  exact lt_size_of_getElem? hz

theorem hb_appE {i : Nat} (h : ∃ q, t.g? q = some 0 ∧ HappensBefore t i q) : ∃ q, (t ++ u).g? q = some 0 ∧ HappensBefore (t ++ u) i q := by
  obtain ⟨q, hq, hb⟩ := h
  exact ⟨q, by rw [g?_old (lt_of_g hq)]; exact hq, hb_app u hb⟩

theorem norel_app (h : ∀ k, n₀ ≤ k → t.act? k ≠ some (.mark (.release (stA Wg)))) (hu : ∀ op ∈ u, op.act ≠ .mark (.release (stA Wg))) : ∀ k, n₀ ≤ k → (t ++ u).act? k ≠ some (.mark (.release (stA Wg))) := by
  intro k hk hi
  obtain ⟨op, ho, hoa⟩ := Option.map_eq_some_iff.1 hi
  rcases getElem?_append_cases ho with ⟨_, ho'⟩ | ⟨_, hou⟩
  · exact h k hk (by rw [act?_of ho', hoa])
  · exact hu op hou hoa

/-- The common make of 'it grows': each new touch is accounted for. -/
theorem TI.grow (h : TI Sh Wg n₀ p j V B t) (hB : B ≤ B') (hV : ∀ m, m ≤ j → (∀ b, (V m).dead b → (V' m).dead b) ∧ ∀ b, (V m).still b → (V' m).still b)
    (clean : ∀ said, ¬ Race said (t ++ u))
    (mine : ∀ m, m ≤ j → ∀ i op x b, t.size ≤ i → (t ++ u)[i]? = some op → op ∈ u → op.act.touch? = some x → LocIn b x.loc → ¬ (V' m).dead b → ((V' m).still b → x.write = true) → Knows (t ++ u) (gn p m) i)
    (known : ∀ i op x b, t.size ≤ i → (t ++ u)[i]? = some op → op ∈ u → op.act.touch? = some x → LocIn b x.loc →
      Knows (t ++ u) 0 i ∨ ((Sh b ∨ b = Wg) ∧ (∃ y, x.loc = .cell y) ∧ x.kind = .atomic) ∨ ∃ k, k < j ∧ (t ++ u).g? i = some (p + k) ∧ (t ++ u).counts i)
    (over : ∀ i op, t.size ≤ i → (t ++ u)[i]? = some op → op ∈ u → op.g ≠ 0 → (t ++ u).counts i → ∃ k, k < j ∧ op.g = p + k)
    (wgq : ∀ i op x, t.size ≤ i → (t ++ u)[i]? = some op → op ∈ u → op.act.touch? = some x → LocIn Wg x.loc → x.kind ≠ .plain ∧ (x.kind = .said → op.g = 0))
    (seen : ∀ op ∈ u, op.act.low B') (norel : ∀ op ∈ u, op.act ≠ .mark (.release (stA Wg))) : TI Sh Wg n₀ p j V' B' (t ++ u) := by
  refine ⟨clean, fun m hm i a b ha hb hd hs => ?_, fun i a b ha hb => ?_, fun i g hg hne hc => ?_, fun i a ha hb => ?_, fun op hop => ?_, norel_app h.norel norel, by simp only [Array.size_append]; have := h.size; omega⟩
  · obtain ⟨x, hx, hxa⟩ := touch_of ha
    rcases getElem?_append_cases hx with ⟨_, hx'⟩ | ⟨hi, hxu⟩
    · exact (h.mine m hm i a b (by rw [touchAt_of hx']; exact hxa) hb (fun z => hd ((hV m hm).1 b z)) (fun z => hs ((hV m hm).2 b z))).app u
    · exact mine m hm i x a b hi hx hxu hxa hb hd hs
  · obtain ⟨x, hx, hxa⟩ := touch_of ha
    rcases getElem?_append_cases hx with ⟨hi, hx'⟩ | ⟨hi, hxu⟩
    · rcases h.known i a b (by rw [touchAt_of hx']; exact hxa) hb with z | z | ⟨k, hk, z1, z2⟩
      · exact .inl (z.app u)
      · exact .inr (.inl z)
      · exact .inr (.inr ⟨k, hk, by rw [g?_old hi]; exact z1, (counts_old hi).2 z2⟩)
    · exact known i x a b hi hx hxu hxa hb
  · obtain ⟨x, hx, rfl⟩ := Option.map_eq_some_iff.1 hg
    rcases getElem?_append_cases hx with ⟨hi, hx'⟩ | ⟨hi, hxu⟩
    · exact (h.over i x.g (by simp [Trace.g?, hx']) hne ((counts_old hi).1 hc)).imp hb_appE id
    · exact .inr (over i x hi hx hxu hne hc)
  · obtain ⟨x, hx, hxa⟩ := touch_of ha
    rcases getElem?_append_cases hx with ⟨hi, hx'⟩ | ⟨hi, hxu⟩
    · exact (h.wgq i a (by rw [touchAt_of hx']; exact hxa) hb).imp (fun z => ⟨z.1, fun y => by rw [g?_old hi]; exact z.2 y⟩) fun z k hk => (z k hk).app u
    · have := wgq i x a hi hx hxu hxa hb
      exact .inl ⟨this.1, fun y => by simp [Trace.g?, hx, this.2 y]⟩
  · rcases Array.mem_append.1 hop with hop | hop
    · exact MemAct.low_mono hB (h.seen op hop)
    · exact seen op hop

/-- A STEP OF ONE's OWN. -/
theorem TI.step (h : TI Sh Wg n₀ p j V B t) {k : Nat} (hk : k ≤ j) (hB : B ≤ B') (hV : ∀ m, m ≤ j → (∀ b, (V m).dead b → (V' m).dead b) ∧ ∀ b, (V m).still b → (V' m).still b)
    (hd : ∀ m, m ≤ j → m ≠ k → ∀ b, b < B' → ¬ (V k).dead b → ¬ (V' m).dead b → (V k).still b ∧ (V' m).still b) (hw : (V k).dead Wg)
    {fn : FuncId} {pos : String} {es : Array Event} (hes : ∀ e ∈ es, EvX (V k) B' e) : TI Sh Wg n₀ p j V' B' (t ++ MemOp.ofEvents (gn p k) fn pos es) := by
  have hu : ∀ op ∈ MemOp.ofEvents (gn p k) fn pos es, op.g = gn p k ∧ ∃ e ∈ es, op.act = .ofEvent e := fun op hop => by
    obtain ⟨e, he, rfl⟩ := Go.Conc.mem_ofEvents hop; exact ⟨rfl, e, he, rfl⟩
  have ht : ∀ op ∈ MemOp.ofEvents (gn p k) fn pos es, ∀ x, op.act.touch? = some x → ∃ b, LocIn b x.loc ∧ ¬ (V k).dead b ∧ b < B' ∧ (x.write = true → ¬ (V k).still b) ∧ x.kind = .plain := fun op hop x hx => by
    obtain ⟨_, e, he, ha⟩ := hu op hop
    exact evX_touch (hes e he) (ha ▸ hx)
  refine h.grow hB hV (fun said => ?_) ?_ ?_ ?_ ?_ ?_ ?_
  · refine noRace_append (h.clean said) (fun op hop => (hu op hop).1) fun i a ha op hop b hb hc => ?_
    obtain ⟨c, hc1, hc2, _, hc4, _⟩ := ht op hop b hb
    refine h.mine k hk i a c ha (by rw [hc.1]; exact hc1) hc2 fun hs => ?_
    rcases hc.2.2.1 with z | z
    · exact z
    · exact absurd hs (hc4 z)
  · intro m hm i op x b hi hx hop hxa hb hdd hss
    by_cases e : m = k
    · subst e
      have := knows_own hx
      rw [(hu op hop).1] at this
      exact this
    · obtain ⟨c, hc1, hc2, hc3, hc4, _⟩ := ht op hop x hxa
      obtain rfl := hb.uniq hc1
      have := hd m hm e b hc3 hc2 hdd
      exact absurd this.1 (hc4 (hss this.2))
  · intro i op x b hi hx hop hxa hb
    obtain ⟨c, hc1, hc2, hc3, hc4, hc5⟩ := ht op hop x hxa
    cases k with
    | zero =>
      have := knows_own hx
      rw [(hu op hop).1] at this
      exact .inl this
    | succ k' => exact .inr (.inr ⟨k', by omega, by unfold Trace.g?; rw [hx, Option.map_some, (hu op hop).1]; rfl, x, by simp [Trace.act?, hx, hxa], hb.mem, .inl (by rw [hc5]; simp)⟩)
  · intro i op hi hx hop hne hc
    rw [(hu op hop).1] at hne ⊢
    cases k with
    | zero => exact absurd rfl hne
    | succ k' => exact ⟨k', by omega, rfl⟩
  · intro i op x hi hx hop hxa hb
    obtain ⟨c, hc1, hc2, _⟩ := ht op hop x hxa
    obtain rfl := hb.uniq hc1
    exact absurd hw hc2
  · intro op hop
    obtain ⟨_, e, he, ha⟩ := hu op hop
    rw [ha]; exact (evX_evL (hes e he)).2.2.2
  · intro op hop
    obtain ⟨_, e, he, ha⟩ := hu op hop
    rw [ha]; exact (evX_act (hes e he)).1 _

/-- Operations that touch nothing. -/
theorem TI.mute (h : TI Sh Wg n₀ p j V B t) (hn : ∀ op ∈ u, op.act.touch? = none) (hl : ∀ op ∈ u, op.act.low B) (hr : ∀ op ∈ u, op.act ≠ .mark (.release (stA Wg))) : TI Sh Wg n₀ p j V B (t ++ u) := by
  refine h.grow (Nat.le_refl _) (fun _ _ => ⟨fun _ z => z, fun _ z => z⟩) (fun said => noRace_appendMute (h.clean said) hn) ?_ ?_ ?_ ?_ hl hr
  · intro m hm i op x b hi hx hop hxa; rw [hn op hop] at hxa; cases hxa
  · intro i op x b hi hx hop hxa; rw [hn op hop] at hxa; cases hxa
  · intro i op hi hx hop hne hc
    obtain ⟨x, hx', _⟩ := hc
    simp only [Trace.act?, hx, Option.map_some, Option.bind_some] at hx'
    rw [hn op hop] at hx'; cases hx'
  · intro i op x hi hx hop hxa; rw [hn op hop] at hxa; cases hxa

/-- The library's own touches of the group's block. -/
theorem TI.wg (h : TI Sh Wg n₀ p j V B t) {k : Nat} (hk : k ≤ j) (hw : ∀ m, m ≤ j → (V m).dead Wg) (hu : ∀ op ∈ u, op.g = gn p k)
    (ht : ∀ op ∈ u, ∀ x, op.act.touch? = some x → (∃ a : Addr, x.loc = .cell a ∧ a.block = Wg) ∧ x.kind ≠ .plain ∧ (x.kind = .said → gn p k = 0))
    (hl : ∀ op ∈ u, op.act.low B) (hr : ∀ op ∈ u, op.act ≠ .mark (.release (stA Wg))) : TI Sh Wg n₀ p j V B (t ++ u) := by
  refine h.grow (Nat.le_refl _) (fun _ _ => ⟨fun _ z => z, fun _ z => z⟩) (fun said => ?_) ?_ ?_ ?_ ?_ hl hr
  · refine noRace_append (h.clean said) hu fun i a ha op hop b hb hcf => ?_
    obtain ⟨⟨c, hc1, hc2⟩, h2, h3⟩ := ht op hop b hb
    have hin : LocIn Wg a.loc := by rw [hcf.1, hc1]; exact hc2
    rcases h.wgq i a ha hin with ⟨z1, z2⟩ | z
    · rcases hcf.2.2.2 with y | y | ⟨_, y1, y2⟩
      · exact absurd y z1
      · exact absurd y h2
      · have hg := z2 y1
        obtain ⟨x, hx, hxg⟩ := Option.map_eq_some_iff.1 hg
        have := knows_own hx
        rw [hxg] at this
        rw [h3 y2]; exact this
    · exact z k hk
  · intro m hm i op x b hi hx hop hxa hb hdd _
    obtain ⟨⟨c, hc1, hc2⟩, _⟩ := ht op hop x hxa
    rw [hc1] at hb
    obtain rfl : Wg = b := hc2.symm.trans hb
    exact absurd (hw m hm) hdd
  · intro i op x b hi hx hop hxa hb
    obtain ⟨⟨c, hc1, hc2⟩, h2, h3⟩ := ht op hop x hxa
    have hbW : b = Wg := by rw [hc1] at hb; exact hb.symm.trans hc2
    cases hkd : x.kind with
    | plain => exact absurd hkd h2
    | atomic => exact .inr (.inl ⟨.inr hbW, ⟨c, hc1⟩, rfl⟩)
    | said =>
      have := knows_own hx
      rw [hu op hop, h3 hkd] at this
      exact .inl this
  · intro i op _ _ hop hne _
    rw [hu op hop] at hne ⊢
    cases k with
    | zero => exact absurd rfl hne
    | succ k' => exact ⟨k', by omega, rfl⟩
  · intro i op x hi hx hop hxa _
    obtain ⟨_, h2, h3⟩ := ht op hop x hxa
    exact ⟨h2, fun y => by rw [hu op hop, h3 y]⟩

/-- A go statement: worker number 'j'. -/
theorem TI.fork (h : TI Sh Wg n₀ p j V B t) {x y : MemOp} (hx : x.g = 0 ∧ x.act = .go (p + j)) (hy : y.g = p + j ∧ y.act = .start) (h0 : Deaf t 0 = 0) (hk_ : Deaf t (p + j) = 0)
    (hV : ∀ m, m ≤ j → (∀ b, (V m).dead b → (V' m).dead b) ∧ ∀ b, (V m).still b → (V' m).still b)
    (hc : ∀ b, ¬ (V' (j + 1)).dead b → ¬ (V 0).dead b ∧ ((V 0).still b → (V' (j + 1)).still b)) : TI Sh Wg n₀ p (j + 1) V' B (t ++ #[x, y]) := by
  have hnt : ∀ op ∈ #[x, y], op.act.touch? = none := by
    intro op hop
    simp only [List.mem_toArray, List.mem_cons, List.not_mem_nil, or_false] at hop
    rcases hop with rfl | rfl
    · rw [hx.2]; rfl
    · rw [hy.2]; rfl
  have hlow : ∀ op ∈ #[x, y], op.act.low B := by
    intro op hop
    simp only [List.mem_toArray, List.mem_cons, List.not_mem_nil, or_false] at hop
    rcases hop with rfl | rfl
    · rw [hx.2]; trivial
    · rw [hy.2]; trivial
  have hr : ∀ op ∈ #[x, y], op.act ≠ .mark (.release (stA Wg)) := by
    intro op hop
    simp only [List.mem_toArray, List.mem_cons, List.not_mem_nil, or_false] at hop
    rcases hop with rfl | rfl
    · rw [hx.2]; simp
    · rw [hy.2]; simp
  have T := h.mute hnt hlow hr
  have old : ∀ {i : Nat} {a : Touch}, touchAt (t ++ #[x, y]) i = some a → touchAt t i = some a := by
    intro i a ha
    obtain ⟨z, hz, hza⟩ := touch_of ha
    rcases getElem?_append_cases hz with ⟨_, hz'⟩ | ⟨_, hzu⟩
    · rw [touchAt_of hz']; exact hza
    · rw [hnt z hzu] at hza; cases hza
  refine ⟨T.clean, fun m hm i a b ha hb hd hs => ?_, fun i a b ha hb => ?_, fun i g hg hne hcn => (T.over i g hg hne hcn).imp id fun ⟨k, a, b⟩ => ⟨k, by omega, b⟩, fun i a ha hb => ?_, T.seen, T.norel, T.size⟩
  · rcases Nat.lt_or_ge j m with hlt | hge
    · obtain rfl : m = j + 1 := by omega
      obtain ⟨h1, h2⟩ := hc b hd
      exact fork_knows hx hy h0 hk_ (h.mine 0 (Nat.zero_le _) i a b (old ha) hb h1 fun z => hs (h2 z))
    · exact T.mine m hge i a b ha hb (fun z => hd ((hV m hge).1 b z)) fun z => hs ((hV m hge).2 b z)
  · exact (T.known i a b ha hb).imp id (Or.imp id fun ⟨k, hk, z⟩ => ⟨k, by omega, z⟩)
  · rcases h.wgq i a (old ha) hb with z | z
    · refine .inl ⟨z.1, fun q => ?_⟩
      have hg := z.2 q
      rw [g?_old (lt_of_g hg)]; exact hg
    · refine .inr fun k hk => ?_
      rcases Nat.lt_or_ge j k with hlt | hge
      · obtain rfl : k = j + 1 := by omega
        exact fork_knows hx hy h0 hk_ (z 0 (Nat.zero_le _))
      · exact (z k hge).app _

/-- From goroutine 0 alone, beside leavers. -/
theorem TI.start {S : Nat → Prop} (h : Past (ShunOf S) B t) (hW : ¬ S Wg) {V0 : Vw} (hV : ∀ b, ¬ V0.dead b → ¬ S b) : TI S Wg t.size p 0 (fun _ => V0) B t := by
  have key : ∀ i a b, touchAt t i = some a → LocIn b a.loc → Knows t 0 i ∨ (S b ∧ (∃ x, a.loc = .cell x) ∧ a.kind = .atomic) := fun i a b ha hb => by
    rcases h.known i a ha hb.mem with z | ⟨⟨x, hx, hs⟩, z⟩
    · exact .inl z
    · refine .inr ⟨?_, ⟨x, hx⟩, z⟩
      rw [hx] at hb
      obtain rfl : x.block = b := hb
      exact hs
  refine ⟨h.clean, fun k hk i a b ha hb hd _ => ?_, fun i a b ha hb => (key i a b ha hb).imp id fun z => .inl ⟨.inl z.1, z.2⟩, fun i g hg hne hc => .inl (h.over i g hg hne hc), fun i a ha hb => .inr fun k hk => ?_, h.seen, fun k hk e => ?_, Nat.le_refl _⟩
  · obtain rfl : k = 0 := by omega
    exact (key i a b ha hb).elim id fun z => absurd z.1 (hV b hd)
  · obtain rfl : k = 0 := by omega
    exact (key i a Wg ha hb).elim id fun z => absurd z.1 hW
  · have := lt_of_act? e
    omega

/-- Goroutine 0 has said 'acquire', heard, behind every worker's release. -/
def AcqAt (Wg n₀ p j : Nat) (t : Trace) : Prop :=
  ∃ q, t.act? q = some (.mark (.acquire (stA Wg))) ∧ t.g? q = some 0 ∧ t.heard q ∧ ∀ k, k < j → ∃ r, n₀ ≤ r ∧ RelBy (stA Wg) t (p + k) r ∧ r < q

theorem TI.finish (h : TI Sh Wg n₀ p j V B t) (ha : AcqAt Wg n₀ p j t) (h0 : Deaf t 0 = 0) {S : Nat → Prop} (hS : ∀ b, Sh b ∨ b = Wg → S b) : Past (ShunOf S) B t := by
  obtain ⟨q, hq, hqg, hqh, hall⟩ := ha
  obtain ⟨z, hz, hzg⟩ := Option.map_eq_some_iff.1 hqg
  have key : ∀ i k, k < j → t.g? i = some (p + k) → t.counts i → HappensBefore t i q := fun i k hk hg hc => by
    obtain ⟨r, hr0, hr, hrq⟩ := hall k hk
    have edge : HappensBefore t r q := .single (.inr ⟨.marked hrq (.inr hr.act) hq (fun m hm _ => h.norel m (by omega)), hr.heard, hqh⟩)
    have hle : i ≤ r := Nat.le_of_not_lt fun hlt => hr.after i hlt hg hc
    rcases Nat.lt_or_ge i r with hlt | hge
    · exact .trans (.single (.inl ⟨hlt, p + k, hg, hr.g⟩)) edge
    · obtain rfl : i = r := by omega
      exact edge
  refine ⟨h.clean, fun i a hi hm => ?_, fun i g hg hne hc => ?_, h0, h.seen⟩
  · obtain ⟨b, hb⟩ := exists_locIn hm
    rcases h.known i a b hi hb with y | ⟨y1, ⟨x, hx⟩, y2⟩ | ⟨k, hk, y1, y2⟩
    · exact .inl y
    · refine .inr ⟨⟨x, hx, hS _ ?_⟩, y2⟩
      rw [hx] at hb
      obtain rfl : x.block = b := hb
      exact y1
    · exact .inl ⟨q, z, hz, hzg, .inr (key i k hk y1 y2)⟩
  · rcases h.over i g hg hne hc with y | ⟨k, hk, rfl⟩
    · exact y
    · exact ⟨q, hqg, key i k hk hg hc⟩
end
end Go.X
namespace Go.X
open Go.Conc

def nil0 : Obj := .cells #[] 0 (0, 0)
def frzO : Obj → Obj
  | .cells c e _ => .cells c e (0, c.size)
  | _ => nil0

/-- Blocks of 'A' are hidden, those of 'K' kept as they are, all else is frozen. -/
def cutV (A K : List Nat) (h : Heap) : Heap := h.mapIdx fun b o => if b ∈ A then nil0 else if b ∈ K then o else frzO o

theorem cutV_size {A K : List Nat} {h : Heap} : (cutV A K h).size = h.size := by simp [cutV]
theorem cutV_get {A K : List Nat} {h : Heap} {b : Nat} : (cutV A K h)[b]? = (h[b]?).map fun o => if b ∈ A then nil0 else if b ∈ K then o else frzO o := by
  simp [cutV, Array.getElem?_mapIdx]

/-- A block that one may write. -/
def Exc (h : Heap) (b : Nat) : Prop := ∃ c e, h[b]? = some (.cells c e (0, 0)) ∧ 0 < c.size

theorem Veil.exc {V : Vw} {h r : Heap} (v : Veil V h r) {b : Nat} (x : Exc h b) : ¬ V.dead b ∧ ¬ V.still b := by
  obtain ⟨c, e, hb, hc⟩ := x
  refine ⟨fun hs => ?_, fun ht => ?_⟩
  · rw [v.shun _ hs] at hb
    cases hb
    simp at hc
  · obtain ⟨c', e', f', _, hh⟩ := v.frz _ ht
    rw [hh] at hb
    simp only [Option.some.injEq, Obj.cells.injEq, Prod.mk.injEq] at hb
    obtain ⟨rfl, _, _, hz⟩ := hb
    omega

def isCells : Obj → Bool
  | .cells .. => true
  | _ => false

/-- How 'cutV' is seen. -/
def cutW (A K : List Nat) (h : Heap) (V : Vw) : Vw :=
  ⟨fun b => V.dead b ∨ (b < h.size ∧ (b ∈ A ∨ (b ∉ K ∧ ∀ o, h[b]? = some o → isCells o = false))), fun b => b < h.size ∧ ¬ V.dead b ∧ b ∉ A ∧ b ∉ K ∧ ∃ o, h[b]? = some o ∧ isCells o = true⟩

section
variable {A K : List Nat} {h r r' : Heap} {V : Vw}

theorem Veil.cut (v : Veil V h r) (hK : ∀ b ∈ K, Exc h b) : Veil (cutW A K h V) (cutV A K h) r := by
  refine ⟨by rw [cutV_size]; exact v.size, fun b hd hs => ?_, fun b hd => ?_, fun b hs => ?_⟩
  · rw [cutV_get]
    rcases Nat.lt_or_ge b h.size with hlt | hge
    · have hnd : ¬ V.dead b := fun x => hd (.inl x)
      have hnA : b ∉ A := fun x => hd (.inr ⟨hlt, .inl x⟩)
      have hbK : b ∈ K := by
        refine Classical.byContradiction fun hn => ?_
        cases ho : h[b]? with
        | none => have := Array.getElem?_eq_none_iff.1 ho; omega
        | some o =>
          cases hc : isCells o with
          | true => exact hs ⟨hlt, hnd, hnA, hn, o, ho, hc⟩
          | false => exact hd (.inr ⟨hlt, .inr ⟨hn, fun o' ho' => by rw [ho] at ho'; cases ho'; exact hc⟩⟩)
      have hnt := (v.exc (hK b hbK)).2
      rw [v.same b hnd hnt]
      cases r[b]? <;> simp [hnA, hbK]
    · rw [Array.getElem?_eq_none hge, Array.getElem?_eq_none (by rw [← v.size]; exact hge)]; rfl
  · rw [cutV_get]
    rcases hd with hd | ⟨hlt, hd⟩
    · rw [v.shun b hd]
      simp only [Option.map_some]
      by_cases h1 : b ∈ A
      · rw [if_pos h1]; rfl
      · rw [if_neg h1]
        by_cases h2 : b ∈ K
        · rw [if_pos h2]
        · rw [if_neg h2]; rfl
    · rw [Array.getElem?_eq_getElem hlt]
      simp only [Option.map_some]
      rcases hd with h1 | ⟨h2, h3⟩
      · rw [if_pos h1]; rfl
      · by_cases h1 : b ∈ A
        · rw [if_pos h1]; rfl
        · rw [if_neg h1, if_neg h2]
          have := h3 _ (Array.getElem?_eq_getElem hlt)
          cases ho : h[b] <;> first | rfl | (rw [ho] at this; cases this)
  · obtain ⟨hlt, hnd, h1, h2, o, ho, hc⟩ := hs
    cases o <;> first | (cases hc; done) | skip
    rename_i c e f
    have hc' : (cutV A K h)[b]? = some (.cells c e (0, c.size)) := by rw [cutV_get, ho]; simp [h1, h2, frzO]
    by_cases ht : V.still b
    · obtain ⟨c', e', f', hr, hh⟩ := v.frz b ht
      rw [hh] at ho
      cases ho
      exact ⟨_, _, _, hr, hc'⟩
    · exact ⟨c, e, f, by rw [← v.same b hnd ht]; exact ho, hc'⟩

theorem cutW_apart {b : Nat} (x : (cutW A K h V).still b) : ¬ (cutW A K h V).dead b := by
  obtain ⟨hlt, h1, h2, h3, o, ho, hc⟩ := x
  rintro (y | ⟨_, y | ⟨_, y⟩⟩)
  · exact h1 y
  · exact h2 y
  · rw [y o ho] at hc; cases hc
theorem Veil.cut_still (v : Veil V h r) (ap : ∀ b, V.still b → ¬ V.dead b) (hA : ∀ b ∈ A, Exc h b) (hK : ∀ b ∈ K, Exc h b) {b : Nat} (x : V.still b) : (cutW A K h V).still b := by
  obtain ⟨c, e, f, hr, hh⟩ := v.frz b x
  exact ⟨(Array.getElem?_eq_some_iff.1 hh).1, ap b x, fun y => (v.exc (hA b y)).2 x, fun y => (v.exc (hK b y)).2 x, _, hh, rfl⟩
/-- What is seen and not kept is still. -/
theorem cutW_vis {b : Nat} (hlt : b < h.size) (hd : ¬ (cutW A K h V).dead b) (hn : b ∉ K) : (cutW A K h V).still b := by
  have h1 : ¬ V.dead b := fun x => hd (.inl x)
  have h2 : b ∉ A := fun x => hd (.inr ⟨hlt, .inl x⟩)
  refine ⟨hlt, h1, h2, hn, h[b], Array.getElem?_eq_getElem hlt, ?_⟩
  cases hc : isCells h[b] with
  | true => rfl
  | false => exact absurd (.inr ⟨hlt, .inr ⟨hn, fun o ho => by rw [Array.getElem?_eq_getElem hlt] at ho; cases ho; exact hc⟩⟩) hd

/-! ### what others lay is not seen -/
def extV (B B' : Nat) (V : Vw) : Vw := ⟨fun b => V.dead b ∨ (B ≤ b ∧ b < B'), V.still⟩
def padH (n : Nat) (h : Heap) : Heap := h ++ Array.replicate (n - h.size) nil0
theorem padH_keep {n : Nat} : Keep h (padH n h) := ⟨by simp [padH], fun b hb => by unfold padH; rw [Array.getElem?_append_left hb]⟩
theorem padH_size {n : Nat} (hn : h.size ≤ n) : (padH n h).size = n := by simp [padH]; omega

theorem Veil.ext (v : Veil V h r) (ap : ∀ b, V.still b → ¬ V.dead b) (hsz : r.size ≤ r'.size) (hs : ∀ b, b < r.size → ¬ V.dead b → r'[b]? = r[b]?) : Veil (extV r.size r'.size V) (padH r'.size h) r' := by
  have hz := v.size
  refine ⟨by rw [padH_size (by omega)], fun b hd ht => ?_, fun b hd => ?_, fun b ht => ?_⟩
  · rcases Nat.lt_or_ge b r.size with hlt | hge
    · rw [padH_keep.keep b (by omega), v.same b (fun x => hd (.inl x)) ht, hs b hlt fun x => hd (.inl x)]
    · have : r'.size ≤ b := Nat.le_of_not_lt fun x => hd (.inr ⟨hge, x⟩)
      rw [Array.getElem?_eq_none (by rw [padH_size (by omega)]; exact this), Array.getElem?_eq_none this]
  · rcases hd with hd | ⟨h1, h2⟩
    · rw [padH_keep.keep b (by have := v.lt hd; omega)]; exact v.shun b hd
    · unfold padH
      rw [Array.getElem?_append_right (by omega), Array.getElem?_replicate, if_pos (by omega)]; rfl
  · obtain ⟨c, e, f, hr, hh⟩ := v.frz b ht
    have hlt := v.lts ht
    exact ⟨c, e, f, (hs b hlt (ap b ht)).trans hr, by rw [padH_keep.keep b (by omega)]; exact hh⟩

/-- Nothing that is seen has turned. -/
theorem Veil.on (v : Veil V h r) (ap : ∀ b, V.still b → ¬ V.dead b) (hsz : r'.size = r.size) (hs : ∀ b, ¬ V.dead b → r'[b]? = r[b]?) : Veil V h r' :=
  ⟨v.size.trans hsz.symm, fun b hd ht => (v.same b hd ht).trans (hs b hd).symm, v.shun, fun b ht => by obtain ⟨c, e, f, hr, hh⟩ := v.frz b ht; exact ⟨c, e, f, (hs b (ap b ht)).trans hr, hh⟩⟩
end

/-! ### the nest -/
section
variable {P : Program} (st : Nat → Option (Goroutine → Heap → Prop))
def RK (P : Program) (k : Nat) (x : Goroutine × Heap) : Prop := ∀ S, st k = some S → Reach P (.own (k == 0)) x.1 x.2 S

variable {st}
def Ahead (P : Program) (st : Nat → Option (Goroutine → Heap → Prop)) (J : (Nat → Goroutine × Heap) → Prop) (c : Nat → Goroutine × Heap) (k : Nat) : Prop :=
  ∀ S, st k = some S → S (c k).1 (c k).2 ∨ Own P (k == 0) (c k).1 (c k).2 fun g h => Reach P (.own (k == 0)) g h S ∧ ∀ c', c' k = (g, h) → (∀ m, m < k → c' m = c m) → (∀ m, RK st P m (c' m)) → J c'

theorem nest_one {J : (Nat → Goroutine × Heap) → Prop} {i : Nat} (H : ∀ c, (∀ k, RK st P k (c k)) → (∀ k, k < i + 1 → Ahead P st J c k) → J c) :
    ∀ c, (∀ k, RK st P k (c k)) → (∀ k, k < i → Ahead P st J c k) → J c := by
  intro c hR hA
  cases hs : st i with
  | none =>
    refine H c hR fun k hk => ?_
    rcases Nat.lt_or_ge k i with hlt | hge
    · exact hA k hlt
    · obtain rfl : k = i := by omega
      intro S hS; rw [hs] at hS; cases hS
  | some S =>
    have key : ∀ g h, Reach P (.own (i == 0)) g h S → ∀ c : Nat → Goroutine × Heap, c i = (g, h) → (∀ k, RK st P k (c k)) → (∀ k, k < i → Ahead P st J c k) → J c := by
      intro g h r
      refine (r (fun g h => Reach P (.own (i == 0)) g h S ∧ ∀ c : Nat → Goroutine × Heap, c i = (g, h) → (∀ k, RK st P k (c k)) → (∀ k, k < i → Ahead P st J c k) → J c) (fun g h s => ⟨reach_stop s, fun c e hR hA => ?_⟩) (fun g h o => ⟨?_, fun c e hR hA => ?_⟩)).2
      · refine H c hR fun k hk => ?_
        rcases Nat.lt_or_ge k i with hlt | hge
        · exact hA k hlt
        · obtain rfl : k = i := by omega
          intro S' hS'; rw [hs] at hS'; cases hS'
          exact .inl (by rw [e]; exact s)
      · exact reach_step (md := .own (i == 0)) (o.mono fun _ _ x => x.1)
      · refine H c hR fun k hk => ?_
        rcases Nat.lt_or_ge k i with hlt | hge
        · exact hA k hlt
        · obtain rfl : k = i := by omega
          intro S' hS'; rw [hs] at hS'; cases hS'
          refine .inr ?_
          rw [e]
          refine o.mono fun g' h' x => ⟨x.1, fun c' e' hm hR' => x.2 c' e' hR' fun m hm' => ?_⟩
          intro S'' hS''
          have := hA m hm' S'' hS''
          rw [hm m hm']
          exact this.imp id fun o' => o'.mono fun g'' h'' y => ⟨y.1, fun c'' e'' hm'' hR'' => y.2 c'' e'' (fun a ha => (hm'' a ha).trans (hm a (Nat.lt_trans ha hm'))) hR''⟩
    exact key _ _ (hR i S hs) c rfl hR hA

theorem nest {J : (Nat → Goroutine × Heap) → Prop} {n : Nat} (H : ∀ c, (∀ k, RK st P k (c k)) → (∀ k, k < n → Ahead P st J c k) → J c) : ∀ c, (∀ k, RK st P k (c k)) → J c := by
  induction n with
  | zero => exact fun c hR => H c hR fun k hk => absurd hk (Nat.not_lt_zero k)
  | succ n ih => exact ih (nest_one H)
end
end Go.X
namespace Go.X
open Go.Conc
open Go.ConcN (RelBy sumTo upd sumTo_upd upd_ne upd_same)
open Go.ConcR (KK wgBlock WgAt stA smA rd wr mk)

/-- What stands of the place where all began. -/
structure Site where
  ty : TypeId
  Wg : Nat
  S : Nat → Prop
  h₀ : Heap
  Z : List Nat
  p : Nat
  n₀ : Nat

/-- A block that is nobody's to turn. -/
def Site.Old (s : Site) (b : Nat) : Prop := b < s.h₀.size ∧ b ≠ s.Wg ∧ b ∉ s.Z

structure Crew (s : Site) (P : Program) (j : Nat) (V : Nat → Vw) (hv : Nat → Heap) (g : Nat → Goroutine) (dd : Nat → Nat) (q : Nat → Nat) (gs : Array Goroutine) (w : World) (t : Trace) : Prop where
  pos : 0 < s.p
  size : gs.size = s.p + j
  at' : ∀ k, k ≤ j → gs[gn s.p k]? = some (g k)
  lv : ∀ i x, 0 < i → i < s.p → gs[i]? = some x → QuitsD P (q i) (Deaf t i) x
  above : ∀ i, gs.size ≤ i → Deaf t i = 0
  veil : ∀ k, k ≤ j → Veil (V k) (hv k) w.heap
  apart : ∀ k, k ≤ j → ∀ b, (V k).still b → ¬ (V k).dead b
  dis : ∀ k m, k ≤ j → m ≤ j → k ≠ m → ∀ b, b < w.heap.size → ¬ (V k).dead b → ¬ (V m).dead b → (V k).still b ∧ (V m).still b
  wgd : ∀ k, k ≤ j → (V k).dead s.Wg
  old : ∀ b, s.Old b → ¬ s.S b → w.heap[b]? = s.h₀[b]?
  oldV : ∀ k, k ≤ j → ∀ b, s.Old b → (V k).dead b ∨ (V k).still b
  sd : ∀ k, k ≤ j → ∀ b, s.S b → (V k).dead b
  h0sz : s.h₀.size ≤ w.heap.size
  ti : TI s.S s.Wg s.n₀ s.p j V w.heap.size t
  deaf : ∀ k, k ≤ j → Deaf t (gn s.p k) = dd k

theorem mute_norel {e : Event} (h : e.mute = true) (a : Addr) : MemAct.ofEvent e ≠ .mark (.release a) := by
  obtain ⟨loc, wr, sy⟩ := e
  cases loc <;> simp_all [Event.mute, MemAct.ofEvent]
  all_goals
    rename_i m
    cases m <;> simp_all

theorem gn_inj {p k m : Nat} (hp : 0 < p) (h : gn p k = gn p m) : k = m := by
  cases k <;> cases m <;> simp only [gn] at h <;> omega
theorem gn_lt {p k j : Nat} (hp : 0 < p) (h : k ≤ j) : gn p k < p + j := by
  cases k <;> simp only [gn] <;> omega
theorem gn_zero {p k : Nat} (hp : 0 < p) : gn p k = 0 ↔ k = 0 := by
  cases k <;> simp only [gn] <;> omega
theorem gn_not {p k i : Nat} (hi : 0 < i) (hip : i < p) : gn p k ≠ i := by
  cases k <;> simp only [gn] <;> omega
theorem gn_main {p k : Nat} (hp : 0 < p) : (gn p k == 0) = (k == 0) := by
  cases k <;> simp only [gn] <;> simp; omega

section
variable {s : Site} {P : Program} {j : Nat} {V : Nat → Vw} {hv : Nat → Heap} {g : Nat → Goroutine} {dd q : Nat → Nat} {gs : Array Goroutine} {w w' : World} {t : Trace} {sl : Option (Nat × Nat)}

/-- Whoever is not the mover: as it stood, or let try again. -/
def wok (P : Program) (a a' : Goroutine) (w' : World) (k : Nat) (g : Nat → Goroutine) : Nat → Goroutine := upd (fun m => woken P a a' w' (g m)) k a'

theorem get_map (f : Goroutine → Goroutine) (a : Nat) (x : Goroutine) (b : Nat) (hb : a ≠ b) : ((gs.map f).setIfInBounds a x)[b]? = (gs[b]?).map f := by
  rw [Array.getElem?_setIfInBounds_ne hb, Array.getElem?_map]
theorem get_same (f : Goroutine → Goroutine) (a : Nat) (x : Goroutine) (ha : a < gs.size) : ((gs.map f).setIfInBounds a x)[a]? = some x := by simp [ha]

theorem ops_g {i : Nat} {fn : FuncId} {pos : String} {es : Array Event} : ∀ op ∈ MemOp.ofEvents i fn pos es, op.g = i := fun op hop => by
  obtain ⟨e, _, rfl⟩ := Go.Conc.mem_ofEvents hop; rfl

/-- What the goroutines and their hearing make of a step of number k. -/
theorem Crew.gs_step (C : Crew s P j V hv g dd q gs w t) {k : Nat} (hk : k ≤ j) {a' : Goroutine} {fn : FuncId} {pos : String} {es : Array Event} :
    ((gs.map (woken P (g k) a' w')).setIfInBounds (gn s.p k) a').size = s.p + j ∧
    (∀ m, m ≤ j → ((gs.map (woken P (g k) a' w')).setIfInBounds (gn s.p k) a')[gn s.p m]? = some (wok P (g k) a' w' k g m)) ∧
    (∀ i x, 0 < i → i < s.p → ((gs.map (woken P (g k) a' w')).setIfInBounds (gn s.p k) a')[i]? = some x → QuitsD P (q i) (Deaf (t ++ MemOp.ofEvents (gn s.p k) fn pos es) i) x) ∧
    (∀ i, ((gs.map (woken P (g k) a' w')).setIfInBounds (gn s.p k) a').size ≤ i → Deaf (t ++ MemOp.ofEvents (gn s.p k) fn pos es) i = 0) ∧
    ∀ m, m ≤ j → Deaf (t ++ MemOp.ofEvents (gn s.p k) fn pos es) (gn s.p m) = upd dd k (deafBehind (dd k) es) m := by
  have hsz : ((gs.map (woken P (g k) a' w')).setIfInBounds (gn s.p k) a').size = gs.size := by simp
  have hlt : gn s.p k < gs.size := by rw [C.size]; exact gn_lt C.pos hk
  refine ⟨hsz.trans C.size, fun m hm => ?_, fun i x hi hip hx => ?_, fun i hi => ?_, fun m hm => ?_⟩
  · by_cases e : m = k
    · subst e; rw [get_same _ _ _ hlt]; simp [wok, upd_same]
    · rw [get_map _ _ _ _ (fun x => e (gn_inj C.pos x).symm), C.at' m hm]; simp [wok, upd_ne _ _ e]
  · rw [get_map _ _ _ _ (gn_not hi hip)] at hx
    obtain ⟨y, hy, rfl⟩ := Option.map_eq_some_iff.1 hx
    have hq := C.lv i y hi hip hy
    rw [woken_quitsD hq, Deaf_other t (gn_not hi hip) _ ops_g]
    exact hq
  · rw [hsz] at hi
    rw [Deaf_other t (by omega) _ ops_g]
    exact C.above i hi
  · by_cases e : m = k
    · subst e; rw [Deaf_own, C.deaf m hm, upd_same]
    · rw [Deaf_other t (fun x => e (gn_inj C.pos x).symm) _ ops_g, C.deaf m hm, upd_ne _ _ e]

/-- A STEP OF NUMBER k's OWN, within its view. -/
theorem Crew.own (C : Crew s P j V hv g dd q gs w t) {k : Nat} (hk : k ≤ j) {a' : Goroutine} {h' : Heap} {fn : FuncId} {pos : String} {es : Array Event}
    (hV : Veil (V k) h' w'.heap) (hq : Quiet (V k) w w') (hes : ∀ e ∈ es, EvX (V k) w'.heap.size e) :
    Crew s P j (fun m => if m = k then V k else extV w.heap.size w'.heap.size (V m)) (fun m => if m = k then h' else padH w'.heap.size (hv m)) (wok P (g k) a' w' k g) dd q
      ((gs.map (woken P (g k) a' w')).setIfInBounds (gn s.p k) a') w' (t ++ MemOp.ofEvents (gn s.p k) fn pos es) := by
  obtain ⟨g1, g2, g3, g4, g5⟩ := C.gs_step (w' := w') hk (a' := a') (fn := fn) (pos := pos) (es := es)
  have hd : deafBehind (dd k) es = dd k := deafBehind_still (fun e he => ⟨(evX_act (hes e he)).2.1, (evX_act (hes e he)).2.2⟩) _
  have same : ∀ m, m ≤ j → m ≠ k → ∀ b, b < w.heap.size → ¬ (V m).dead b → w'.heap[b]? = w.heap[b]? := fun m hm e b hb hdd => by
    refine hq.stand b hb ?_
    by_cases hkd : (V k).dead b
    · exact .inl hkd
    · exact .inr (C.dis k m hk hm (Ne.symm e) b hb hkd hdd).1
  refine ⟨C.pos, g1, g2, g3, g4, fun m hm => ?_, fun m hm b hs => ?_, fun m n hm hn hmn b hb h1 h2 => ?_, fun m hm => ?_, fun b hb hS => ?_, fun m hm b hb => ?_, fun m hm b hb => ?_, Nat.le_trans C.h0sz hq.size, ?_, fun m hm => ?_⟩
  · by_cases e : m = k
    · subst e; simp only [if_true]; exact hV
    · simp only [if_neg e]
      exact (C.veil m hm).ext (C.apart m hm) hq.size (same m hm e)
  · by_cases e : m = k
    · subst e; simp only [if_true] at hs ⊢; exact C.apart m hm b hs
    · simp only [if_neg e] at hs ⊢
      rintro (x | ⟨x, _⟩)
      · exact C.apart m hm b hs x
      · have := (C.veil m hm).lts hs; omega
  · have hmn' : ∀ a, a ≤ j → a ≠ k → ¬ (extV w.heap.size w'.heap.size (V a)).dead b → ¬ (V a).dead b ∧ b < w.heap.size := fun a _ _ x => by
      refine ⟨fun y => x (.inl y), Nat.lt_of_not_le fun y => x (.inr ⟨y, hb⟩)⟩
    by_cases e : m = k
    · subst e
      have en : n ≠ m := Ne.symm hmn
      simp only [if_true, if_neg en] at h1 h2 ⊢
      obtain ⟨h2, hb'⟩ := hmn' n hn en h2
      exact C.dis m n hm hn hmn b hb' h1 h2
    · by_cases en : n = k
      · subst en
        simp only [if_true, if_neg e] at h1 h2 ⊢
        obtain ⟨h1, hb'⟩ := hmn' m hm e h1
        exact C.dis m n hm hn hmn b hb' h1 h2
      · simp only [if_neg e, if_neg en] at h1 h2 ⊢
        obtain ⟨h1, hb'⟩ := hmn' m hm e h1
        obtain ⟨h2, _⟩ := hmn' n hn en h2
        exact C.dis m n hm hn hmn b hb' h1 h2
  · by_cases e : m = k
    · subst e; simp only [if_true]; exact C.wgd m hm
    · simp only [if_neg e]; exact .inl (C.wgd m hm)
  · exact (hq.stand b (Nat.lt_of_lt_of_le hb.1 C.h0sz) (C.oldV k hk b hb)).trans (C.old b hb hS)
  · by_cases e : m = k
    · subst e; simp only [if_true]; exact C.oldV m hm b hb
    · simp only [if_neg e]; exact (C.oldV m hm b hb).imp .inl id
  · by_cases e : m = k
    · subst e; simp only [if_true]; exact C.sd m hm b hb
    · simp only [if_neg e]; exact .inl (C.sd m hm b hb)
  · refine (C.ti).step hk hq.size (fun m _ => ?_) (fun m hm e b hb h1 h2 => ?_) (C.wgd k hk) hes
    · by_cases e : m = k
      · subst e; simp only [if_true]; exact ⟨fun _ x => x, fun _ x => x⟩
      · simp only [if_neg e]; exact ⟨fun _ x => .inl x, fun _ x => x⟩
    · simp only [if_neg e] at h2 ⊢
      exact C.dis k m hk hm (Ne.symm e) b (Nat.lt_of_not_le fun y => h2 (.inr ⟨y, hb⟩)) h1 (fun y => h2 (.inl y))
  · rw [g5 m hm, hd]
    by_cases e : m = k
    · subst e; rw [upd_same]
    · rw [upd_ne _ _ e]

/-- A STEP OF THE LIBRARY's BOOKKEEPING: at most the group's block turns. -/
theorem Crew.book (C : Crew s P j V hv g dd q gs w t) {k : Nat} (hk : k ≤ j) {a' : Goroutine} {fn : FuncId} {pos : String} {es : Array Event}
    (hsz : w'.heap.size = w.heap.size) (hb : ∀ b, b ≠ s.Wg → w'.heap[b]? = w.heap[b]?)
    (ht : ∀ e ∈ es, ∀ x, (MemAct.ofEvent e).touch? = some x → (∃ a : Addr, x.loc = .cell a ∧ a.block = s.Wg) ∧ x.kind ≠ .plain ∧ (x.kind = .said → k = 0))
    (hl : ∀ e ∈ es, (MemAct.ofEvent e).low w.heap.size) (hr : ∀ e ∈ es, MemAct.ofEvent e ≠ .mark (.release (stA s.Wg))) :
    Crew s P j V hv (wok P (g k) a' w' k g) (upd dd k (deafBehind (dd k) es)) q ((gs.map (woken P (g k) a' w')).setIfInBounds (gn s.p k) a') w' (t ++ MemOp.ofEvents (gn s.p k) fn pos es) := by
  obtain ⟨g1, g2, g3, g4, g5⟩ := C.gs_step (w' := w') hk (a' := a') (fn := fn) (pos := pos) (es := es)
  refine ⟨C.pos, g1, g2, g3, g4, fun m hm => (C.veil m hm).on (C.apart m hm) hsz fun b hd => hb b fun e => hd (e ▸ C.wgd m hm), C.apart, fun m n hm hn hmn b hlt => C.dis m n hm hn hmn b (hsz ▸ hlt), C.wgd, fun b hbo hS => (hb b hbo.2.1).trans (C.old b hbo hS), C.oldV, C.sd, by rw [hsz]; exact C.h0sz, ?_, g5⟩
  rw [hsz]
  refine C.ti.wg hk C.wgd ops_g (fun op hop x hx => ?_) (fun op hop => ?_) fun op hop => ?_
  · obtain ⟨e, he, rfl⟩ := Go.Conc.mem_ofEvents hop
    obtain ⟨a, b, c⟩ := ht e he x hx
    exact ⟨a, b, fun y => (gn_zero C.pos).2 (c y)⟩
  · obtain ⟨e, he, rfl⟩ := Go.Conc.mem_ofEvents hop
    exact hl e he
  · obtain ⟨e, he, rfl⟩ := Go.Conc.mem_ofEvents hop
    exact hr e he

/-- A LEAVER SLIPS. -/
theorem Crew.slip (C : Crew s P j V hv g dd q gs w t) {i m : Nat} (hi : 0 < i) (hip : i < s.p) {a a' : Goroutine} {fn : FuncId} {pos : String} {es : Array Event} (hm : ∀ e ∈ es, e.mute = true) (hq : QuitsD P m (deafBehind (Deaf t i) es) a') :
    Crew s P j V hv (fun k => woken P a a' w (g k)) dd (upd q i m) ((gs.map (woken P a a' w)).setIfInBounds i a') w (t ++ MemOp.ofEvents i fn pos es) := by
  have hsz : ((gs.map (woken P a a' w)).setIfInBounds i a').size = gs.size := by simp
  refine ⟨C.pos, hsz.trans C.size, fun k hk => ?_, fun i' x hi' hip' hx => ?_, fun i' hi' => ?_, C.veil, C.apart, C.dis, C.wgd, C.old, C.oldV, C.sd, C.h0sz, ?_, fun k hk => ?_⟩
  · rw [get_map _ _ _ _ (Ne.symm (gn_not hi hip)), C.at' k hk]; rfl
  · by_cases e : i' = i
    · subst e
      rw [get_same _ _ _ (by rw [C.size]; omega)] at hx
      cases hx
      rw [upd_same, Deaf_own]; exact hq
    · rw [get_map _ _ _ _ (Ne.symm e)] at hx
      obtain ⟨y, hy, rfl⟩ := Option.map_eq_some_iff.1 hx
      have hq' := C.lv i' y hi' hip' hy
      rw [woken_quitsD hq', Deaf_other t (Ne.symm e) _ ops_g, upd_ne _ _ e]
      exact hq'
  · rw [hsz] at hi'
    rw [Deaf_other t (by have := C.size; omega) _ ops_g]
    exact C.above i' hi'
  · refine C.ti.mute (fun op hop => ?_) (fun op hop => ?_) fun op hop => ?_
    · obtain ⟨e, he, rfl⟩ := Go.Conc.mem_ofEvents hop; exact touch_mute (hm e he)
    · obtain ⟨e, he, rfl⟩ := Go.Conc.mem_ofEvents hop; exact low_mute (hm e he) _
    · obtain ⟨e, he, rfl⟩ := Go.Conc.mem_ofEvents hop
      exact mute_norel (hm e he) _
  · rw [Deaf_other t (Ne.symm (gn_not hi hip)) _ ops_g]; exact C.deaf k hk

/-- A go STATEMENT: of what the starter may turn, the new worker is given 'X', the starter keeps 'Z'; all else is still from now on. -/
theorem Crew.fork (C : Crew s P j V hv g dd q gs w t) {X Z : List Nat} (hX : ∀ b ∈ X, Exc (hv 0) b) (hZ : ∀ b ∈ Z, Exc (hv 0) b) (h0 : dd 0 = 0) {a' child : Goroutine} {x y : MemOp}
    (hx : x.g = 0 ∧ x.act = .go (s.p + j)) (hy : y.g = s.p + j ∧ y.act = .start) :
    Crew s P (j + 1) (fun m => if m = 0 then cutW X Z (hv 0) (V 0) else if m = j + 1 then cutW Z X (hv 0) (V 0) else V m) (fun m => if m = 0 then cutV X Z (hv 0) else if m = j + 1 then cutV Z X (hv 0) else hv m)
      (fun m => if m = 0 then a' else if m = j + 1 then child else g m) (fun m => if m = j + 1 then 0 else dd m) q ((gs.setIfInBounds 0 a').push child) w (t ++ #[x, y]) := by
  have hst : ∀ op ∈ #[x, y], op.act ≠ .mark .disable ∧ op.act ≠ .mark .enable := by
    intro op hop
    simp only [List.mem_toArray, List.mem_cons, List.not_mem_nil, or_false] at hop
    rcases hop with rfl | rfl
    · rw [hx.2]; exact ⟨by simp, by simp⟩
    · rw [hy.2]; exact ⟨by simp, by simp⟩
  have hD : ∀ i, Deaf (t ++ #[x, y]) i = Deaf t i := fun i => Go.ConcN.Deaf_still t i _ hst
  have v0 := C.veil 0 (Nat.zero_le _)
  have ap0 := C.apart 0 (Nat.zero_le _)
  have hsz0 := v0.size
  have hp := C.pos
  have hgs := C.size
  have stl : ∀ b, (V 0).still b → (cutW X Z (hv 0) (V 0)).still b := fun b z => v0.cut_still ap0 hX hZ z
  have stl' : ∀ b, (V 0).still b → (cutW Z X (hv 0) (V 0)).still b := fun b z => v0.cut_still ap0 hZ hX z
  -- of any two that see a block
  have disX : ∀ b, b < w.heap.size → ¬ (cutW X Z (hv 0) (V 0)).dead b → ¬ (cutW Z X (hv 0) (V 0)).dead b → (cutW X Z (hv 0) (V 0)).still b ∧ (cutW Z X (hv 0) (V 0)).still b := fun b hb h1 h2 => by
    have hb' : b < (hv 0).size := by omega
    have n1 : b ∉ X := fun z => h1 (.inr ⟨hb', .inl z⟩)
    have n2 : b ∉ Z := fun z => h2 (.inr ⟨hb', .inl z⟩)
    exact ⟨cutW_vis hb' h1 n2, cutW_vis hb' h2 n1⟩
  have disO : ∀ (A K : List Nat), (∀ b ∈ A, Exc (hv 0) b) → (∀ b ∈ K, Exc (hv 0) b) → ∀ m, m ≤ j → m ≠ 0 → ∀ b, b < w.heap.size → ¬ (cutW A K (hv 0) (V 0)).dead b → ¬ (V m).dead b → (cutW A K (hv 0) (V 0)).still b ∧ (V m).still b := fun A K hA hK m hm e b hb h1 h2 => by
    have := C.dis 0 m (Nat.zero_le _) hm (Ne.symm e) b hb (fun z => h1 (.inl z)) h2
    exact ⟨v0.cut_still ap0 hA hK this.1, this.2⟩
  refine ⟨hp, by simp [hgs]; omega, fun m hm => ?_, fun i z hi hip hz => ?_, fun i hi => ?_, fun m hm => ?_, fun m hm b hs => ?_, fun m n hm hn hmn b hb h1 h2 => ?_, fun m hm => ?_, C.old, fun m hm b hb => ?_, fun m hm b hb => ?_, C.h0sz, ?_, fun m hm => ?_⟩
  · by_cases e0 : m = 0
    · subst e0
      simp only [gn, if_true]
      rw [Array.getElem?_push, if_neg (by simp; omega), Array.getElem?_setIfInBounds_self_of_lt (by omega)]
    · simp only [if_neg e0]
      by_cases e1 : m = j + 1
      · subst e1
        simp only [gn, if_true]
        rw [Array.getElem?_push, if_pos (by simp [hgs])]
      · simp only [if_neg e1]
        have hmj : m ≤ j := by omega
        have hlt := gn_lt hp hmj
        have hne : gn s.p m ≠ 0 := fun z => e0 ((gn_zero hp).1 z)
        rw [Array.getElem?_push, if_neg (by simp [hgs]; omega), Array.getElem?_setIfInBounds_ne (Ne.symm hne)]
        exact C.at' m hmj
  · rw [Array.getElem?_push, if_neg (by simp [hgs]; omega), Array.getElem?_setIfInBounds_ne (by omega)] at hz
    rw [hD]; exact C.lv i z hi hip hz
  · rw [hD]; exact C.above i (by simp at hi; omega)
  · by_cases e0 : m = 0
    · subst e0; simp only [if_true]; exact v0.cut hZ
    · simp only [if_neg e0]
      by_cases e1 : m = j + 1
      · simp only [if_pos e1]; exact v0.cut hX
      · simp only [if_neg e1]; exact C.veil m (by omega)
  · by_cases e0 : m = 0
    · subst e0; simp only [if_true] at hs ⊢; exact cutW_apart hs
    · simp only [if_neg e0] at hs ⊢
      by_cases e1 : m = j + 1
      · simp only [if_pos e1] at hs ⊢; exact cutW_apart hs
      · simp only [if_neg e1] at hs ⊢; exact C.apart m (by omega) b hs
  · by_cases m0 : m = 0
    · subst m0
      simp only [if_true] at h1 ⊢
      have n0 : n ≠ 0 := Ne.symm hmn
      simp only [if_neg n0] at h2 ⊢
      by_cases n1 : n = j + 1
      · simp only [if_pos n1] at h2 ⊢; exact disX b hb h1 h2
      · simp only [if_neg n1] at h2 ⊢; exact disO X Z hX hZ n (by omega) n0 b hb h1 h2
    · simp only [if_neg m0] at h1 ⊢
      by_cases m1 : m = j + 1
      · simp only [if_pos m1] at h1 ⊢
        by_cases n0 : n = 0
        · subst n0
          simp only [if_true] at h2 ⊢
          exact (disX b hb h2 h1).symm
        · simp only [if_neg n0] at h2 ⊢
          have n1 : n ≠ j + 1 := fun z => hmn (m1.trans z.symm)
          simp only [if_neg n1] at h2 ⊢
          exact disO Z X hZ hX n (by omega) n0 b hb h1 h2
      · simp only [if_neg m1] at h1 ⊢
        by_cases n0 : n = 0
        · subst n0
          simp only [if_true] at h2 ⊢
          exact (disO X Z hX hZ m (by omega) m0 b hb h2 h1).symm
        · simp only [if_neg n0] at h2 ⊢
          by_cases n1 : n = j + 1
          · simp only [if_pos n1] at h2 ⊢
            exact (disO Z X hZ hX m (by omega) m0 b hb h2 h1).symm
          · simp only [if_neg n1] at h2 ⊢
            exact C.dis m n (by omega) (by omega) hmn b hb h1 h2
  · by_cases e0 : m = 0
    · subst e0; simp only [if_true]; exact .inl (C.wgd 0 (Nat.zero_le _))
    · simp only [if_neg e0]
      by_cases e1 : m = j + 1
      · simp only [if_pos e1]; exact .inl (C.wgd 0 (Nat.zero_le _))
      · simp only [if_neg e1]; exact C.wgd m (by omega)
  · by_cases e0 : m = 0
    · subst e0; simp only [if_true]; exact (C.oldV 0 (Nat.zero_le _) b hb).imp .inl (stl b)
    · simp only [if_neg e0]
      by_cases e1 : m = j + 1
      · simp only [if_pos e1]; exact (C.oldV 0 (Nat.zero_le _) b hb).imp .inl (stl' b)
      · simp only [if_neg e1]; exact C.oldV m (by omega) b hb
  · by_cases e0 : m = 0
    · subst e0; simp only [if_true]; exact .inl (C.sd 0 (Nat.zero_le _) b hb)
    · simp only [if_neg e0]
      by_cases e1 : m = j + 1
      · simp only [if_pos e1]; exact .inl (C.sd 0 (Nat.zero_le _) b hb)
      · simp only [if_neg e1]; exact C.sd m (by omega) b hb
  · refine C.ti.fork hx hy ((C.deaf 0 (Nat.zero_le _)).trans h0) (C.above _ (by omega)) (fun m hm => ?_) fun b hd => ?_
    · by_cases e0 : m = 0
      · subst e0; simp only [if_true]; exact ⟨fun _ z => .inl z, stl⟩
      · simp only [if_neg e0]
        rw [if_neg (by omega)]
        exact ⟨fun _ z => z, fun _ z => z⟩
    · have : ¬ (j + 1 = 0) := by omega
      simp only [if_neg this, if_true] at hd ⊢
      exact ⟨fun z => hd (.inl z), stl' b⟩
  · rw [hD]
    by_cases e1 : m = j + 1
    · subst e1; simp only [if_true, gn]; exact C.above _ (by omega)
    · simp only [if_neg e1]; exact C.deaf m (by omega)
  
end
end Go.X
namespace Go.X
open Go.Conc Go.RowKit Go.Conc.Lib Go.ConcR.Gen Go.ConcN.Gen
open Go.ConcR (KK wgBlock WgAt stA smA rd wr mk DC0)
open Go.ConcN (WgLive st_flag st_waiters)
open Go.ConcN.Gen

/-- What the starter suffers, as far as the library minds: the group's block stays one. -/
def RLv (ty : TypeId) (Wg : Nat) (w w₁ : World) : Prop := WgLive ty Wg w → WgLive ty Wg w₁
theorem lv_rely {ty : TypeId} {Wg : Nat} {w w₁ : World} (h : WgLive ty Wg w) (r : RLv ty Wg w w₁) : WgLive ty Wg w₁ := r h

section
variable (P : Program) (ty : TypeId) (Wg : Nat) (gb : Goroutine)
def AtBack (g : Goroutine) (w : World) : Prop := g = gb ∧ WgLive ty Wg w
/-! ### Add(1) -/
def AtKeS (g : Goroutine) (w : World) : Prop := g.status = .running ∧ ∃ g', stepG P true g w = .go g' w #[mk .enable] ∧ ∃ m, Goes P true (RLv ty Wg) DC0 (AtBack ty Wg gb) m g' w
def AtRdS (g : Goroutine) (w : World) : Prop := g.status = .running ∧ ∃ g', stepG P true g w = .go g' w #[mk (.read (smA Wg))] ∧ ∃ m, Goes P true (RLv ty Wg) DC0 (AtKeS P ty Wg gb) m g' w
def AtA1 (g : Goroutine) (w : World) : Prop :=
  g.status = .running ∧ ∀ v : Nat, v < 2147483647 → WgAt ty Wg w (v * KK) 0 →
    ∃ g', stepG P true g w = .go g' (w.setCell (stA Wg) (.int .u64 ((v + 1) * KK))) #[rd (stA Wg), wr (stA Wg)] ∧
      (v = 0 → ∃ m, Goes P true (RLv ty Wg) DC0 (AtRdS P ty Wg gb) m g' (w.setCell (stA Wg) (.int .u64 ((v + 1) * KK)))) ∧ (v ≠ 0 → ∃ m, Goes P true (RLv ty Wg) DC0 (AtKeS P ty Wg gb) m g' (w.setCell (stA Wg) (.int .u64 ((v + 1) * KK))))
def AtKdS (g : Goroutine) (w : World) : Prop := g.status = .running ∧ ∃ g', stepG P true g w = .go g' w #[mk .disable] ∧ ∃ m, Goes P true (RLv ty Wg) DC0 (AtA1 P ty Wg gb) m g' w
/-! ### Wait -/
variable (AnchW : Goroutine → World → Prop)
def AtAcq (g : Goroutine) (w : World) : Prop := g.status = .running ∧ ∃ g', stepG P true g w = .go g' w #[mk (.acquire (stA Wg))] ∧ ∃ m, Goes P true (RLv ty Wg) DC0 (AtBack ty Wg gb) m g' w
def AtKe (g : Goroutine) (w : World) : Prop := g.status = .running ∧ ∃ g', stepG P true g w = .go g' w #[mk .enable] ∧ ∃ m, Goes P true (RLv ty Wg) DC0 (AtAcq P ty Wg gb) m g' w
def AtW4 (g : Goroutine) (w : World) : Prop := g.status = .running ∧ (WgAt ty Wg w 0 0 → ∃ g', stepG P true g w = .go g' w #[rd (stA Wg)] ∧ ∃ m, Goes P true (RLv ty Wg) DC0 (AtKe P ty Wg gb) m g' w)
def AtW3 (g : Goroutine) (w : World) : Prop :=
  g.status = .running ∧ g.offers = none ∧ ((∃ st, WgAt ty Wg w st 0) → stepG P true g w = .go { g with status := .blocked } w #[]) ∧
    (WgAt ty Wg w 0 1 → ∃ g', stepG P true g w = .go g' (w.setCell (smA Wg) (.int .u32 0)) (semEvents (smA Wg)) ∧ ∃ m, Goes P true (RLv ty Wg) DC0 (AtW4 P ty Wg gb) m g' (w.setCell (smA Wg) (.int .u32 0)))
def AtWr (g : Goroutine) (w : World) : Prop := g.status = .running ∧ ∃ g', stepG P true g w = .go g' w #[mk (.write (smA Wg))] ∧ ∃ m, Goes P true (RLv ty Wg) DC0 (AtW3 P ty Wg gb) m g' w
def AtW2 (vs : Nat) (g : Goroutine) (w : World) : Prop :=
  g.status = .running ∧ ∀ v : Nat, v < 2147483648 → WgAt ty Wg w (v * KK) 0 →
    (v = vs → ∃ g', stepG P true g w = .go g' (w.setCell (stA Wg) (.int .u64 (v * KK + 1))) #[rd (stA Wg), wr (stA Wg)] ∧ ∃ m, Goes P true (RLv ty Wg) DC0 (AtWr P ty Wg gb) m g' (w.setCell (stA Wg) (.int .u64 (v * KK + 1)))) ∧
    (v ≠ vs → ∃ g', stepG P true g w = .go g' w #[rd (stA Wg)] ∧ ∃ m, Goes P true (RLv ty Wg) DC0 AnchW m g' w)
def AtW1 (g : Goroutine) (w : World) : Prop :=
  g.status = .running ∧ ∀ v : Nat, v < 2147483648 → WgAt ty Wg w (v * KK) 0 → ∃ g', stepG P true g w = .go g' w #[rd (stA Wg)] ∧
    (v = 0 → ∃ m, Goes P true (RLv ty Wg) DC0 (AtKe P ty Wg gb) m g' w) ∧ (v ≠ 0 → ∃ m, Goes P true (RLv ty Wg) DC0 (AtW2 P ty Wg gb AnchW v) m g' w)
def AtKd (g : Goroutine) (w : World) : Prop := g.status = .running ∧ ∃ g', stepG P true g w = .go g' w #[mk .disable] ∧ ∃ m, Goes P true (RLv ty Wg) DC0 AnchW m g' w
end

section
variable (P : Program) (ty : TypeId) (Wg : Nat)
/-! ### a worker's Done -/
def AtD4 (g : Goroutine) (w : World) : Prop :=
  g.status = .running ∧ mayWake P g = true ∧ (WgAt ty Wg w 0 0 → ∃ g', stepG P false g w = .go g' (w.setCell (smA Wg) (.int .u32 1)) (semEvents (smA Wg)) ∧ ∃ q, QuitsD P q 1 g')
def AtD3 (g : Goroutine) (w : World) : Prop :=
  g.status = .running ∧ (WgAt ty Wg w 1 0 → ∃ g', stepG P false g w = .go g' (w.setCell (stA Wg) (.int .u64 0)) #[wr (stA Wg)] ∧ ∃ m, Goes P false (RLv ty Wg) DC0 (AtD4 P ty Wg) m g' (w.setCell (stA Wg) (.int .u64 0)))
def AtD2 (g : Goroutine) (w : World) : Prop := g.status = .running ∧ (WgAt ty Wg w 1 0 → ∃ g', stepG P false g w = .go g' w #[rd (stA Wg)] ∧ ∃ m, Goes P false (RLv ty Wg) DC0 (AtD3 P ty Wg) m g' w)
def AtD1 (g : Goroutine) (w : World) : Prop :=
  g.status = .running ∧ ∀ v wt : Nat, wt ≤ 1 → v < 2147483647 → WgAt ty Wg w ((v + 1) * KK + wt) 0 →
    ∃ g', stepG P false g w = .go g' (w.setCell (stA Wg) (.int .u64 (v * KK + wt))) #[rd (stA Wg), wr (stA Wg)] ∧
      ((v = 0 ∧ wt = 1) → ∃ m, Goes P false (RLv ty Wg) DC0 (AtD2 P ty Wg) m g' (w.setCell (stA Wg) (.int .u64 (v * KK + wt)))) ∧ (¬ (v = 0 ∧ wt = 1) → ∃ q, QuitsD P q 1 g')
def AtK1 (g : Goroutine) (w : World) : Prop := g.status = .running ∧ ∃ g', stepG P false g w = .go g' w #[mk .disable] ∧ ∃ m, Goes P false (RLv ty Wg) DC0 (AtD1 P ty Wg) m g' w
def AtR0 (g : Goroutine) (w : World) : Prop := g.status = .running ∧ ∃ g', stepG P false g w = .go g' w #[mk (.releaseMerge (stA Wg))] ∧ ∃ m, Goes P false (RLv ty Wg) DC0 (AtK1 P ty Wg) m g' w
end

/-- At the head of Wait's loop. -/
def AnchX (L : WgLink) (Wg : Nat) (c : Frame) (cs : List Frame) (g : Goroutine) (w : World) : Prop :=
  ∃ T : Array Value, g = G ((base L.wait).at ⟨T, []⟩ [.code (L7 L), .inLoop (L7 L), .inBlock 0]) (c :: cs) ∧ T.size = 84 ∧ T[0]? = some (.pointer (some ⟨Wg, 0, none⟩)) ∧ WgLive L.tWg Wg w

end Go.X
namespace Go.X
open Go.Conc
open Go.ConcN (RelBy WD CTag Vc Ssum Fsum phi cnt sumTo upd sumTo_upd upd_ne upd_same WgLive)
open Go.ConcR (KK wgBlock WgAt stA smA rd wr mk DC0 Bk)

theorem rlv_refl {ty : TypeId} {Wg : Nat} (w : World) : RLv ty Wg w w := id
theorem rlv_trans {ty : TypeId} {Wg : Nat} (a b c : World) (x : RLv ty Wg a b) (y : RLv ty Wg b c) : RLv ty Wg a c := fun z => y (x z)
theorem rlv_at {ty : TypeId} {Wg : Nat} (w : World) (d : Nat) : RLv ty Wg w (w.at d) := id

section
variable (P : Program) (s : Site) (Ψ : Nat → Heap → Prop) (Kon : Goroutine → Prop)

/-- A worker has done its work: it stands at its 'Done'. -/
def WDone (Φ : Heap → Prop) (g : Goroutine) (h : Heap) : Prop :=
  (∀ w, WgLive s.ty s.Wg w → ∃ m, Goes P false (RLv s.ty s.Wg) DC0 (AtR0 P s.ty s.Wg) m g w) ∧ Φ h

/-- What is known of the loop of Wait. -/
def WC (gb : Goroutine) (AnchW : Goroutine → World → Prop) : Prop :=
  (∀ g w, AnchW g w → g.status = .running) ∧ (∀ g w, AnchW g w → ∃ m, Goes P true (RLv s.ty s.Wg) DC0 (AtW1 P s.ty s.Wg gb AnchW) m g w) ∧ Kon gb

def AtWaitX (g : Goroutine) (_ : Heap) : Prop :=
  ∃ gb AnchW, WC P s Kon gb AnchW ∧ ∀ w, WgLive s.ty s.Wg w → ∃ m, Goes P true (RLv s.ty s.Wg) DC0 (AtKd P s.ty s.Wg AnchW) m g w

def AtGoX (k : Nat) (Next : Goroutine → Heap → Prop) (g : Goroutine) (h : Heap) : Prop :=
  g.status = .running ∧ ∃ g' child X Z, (∀ w, stepG P true g w = .spawn g' child w #[]) ∧ (∀ b ∈ X, Exc h b) ∧ (∀ b ∈ Z, Exc h b) ∧
    ∀ h', Keep h h' → Reach P (.own false) child (cutV Z X h') (WDone P s (Ψ k)) ∧ Next g' (cutV X Z h')

def Cont (k : Nat) (Next : Goroutine → Heap → Prop) (gb : Goroutine) (h : Heap) : Prop := ∀ h', Keep h h' → Reach P (.own true) gb h' (AtGoX P s Ψ k Next)

def AtAddX (k : Nat) (Next : Goroutine → Heap → Prop) (g : Goroutine) (h : Heap) : Prop :=
  ∃ gb, (∀ w, WgLive s.ty s.Wg w → ∃ m, Goes P true (RLv s.ty s.Wg) DC0 (AtKdS P s.ty s.Wg gb) m g w) ∧ Cont P s Ψ k Next gb h

/-- The starter's whole way, 'r' workers still to be started. -/
def Scr : Nat → Goroutine → Heap → Prop
  | 0, g, h => Reach P (.own true) g h (AtWaitX P s Kon)
  | r + 1, g, h => Reach P (.own true) g h (AtAddX P s Ψ (1 - r) (Scr r))

/-- A worker: its stage (7 working, 6 released, 5 deaf: these are counted; 4, 3, 2 the last one's way; 1 leaving), whether it walks, fuel, deafness. -/
inductive WSx (Φ : Heap → Prop) (key : Goroutine × Heap) : Nat → Bool → Nat → Nat → Goroutine → Heap → World → Prop
  | walk {g : Goroutine} {h : Heap} {w : World} : g = key.1 → Keep key.2 h → WSx Φ key 7 true 0 0 g h w
  | r0 {m : Nat} {g : Goroutine} {h : Heap} {w : World} : Φ h → Goes P false (RLv s.ty s.Wg) DC0 (AtR0 P s.ty s.Wg) m g w → WSx Φ key 7 false m 0 g h w
  | k1 {m : Nat} {g : Goroutine} {h : Heap} {w : World} : Φ h → Goes P false (RLv s.ty s.Wg) DC0 (AtK1 P s.ty s.Wg) m g w → WSx Φ key 6 false m 0 g h w
  | d1 {m : Nat} {g : Goroutine} {h : Heap} {w : World} : Φ h → Goes P false (RLv s.ty s.Wg) DC0 (AtD1 P s.ty s.Wg) m g w → WSx Φ key 5 false m 1 g h w
  | d2 {m : Nat} {g : Goroutine} {h : Heap} {w : World} : Φ h → Goes P false (RLv s.ty s.Wg) DC0 (AtD2 P s.ty s.Wg) m g w → WSx Φ key 4 false m 1 g h w
  | d3 {m : Nat} {g : Goroutine} {h : Heap} {w : World} : Φ h → Goes P false (RLv s.ty s.Wg) DC0 (AtD3 P s.ty s.Wg) m g w → WSx Φ key 3 false m 1 g h w
  | d4 {m : Nat} {g : Goroutine} {h : Heap} {w : World} : Φ h → Goes P false (RLv s.ty s.Wg) DC0 (AtD4 P s.ty s.Wg) m g w → WSx Φ key 2 false m 1 g h w
  | quit {q d : Nat} {g : Goroutine} {h : Heap} {w : World} : Φ h → QuitsD P q d g → WSx Φ key 1 false q d g h w

/-- What the starter walks towards. -/
inductive Wk0 where
  | none
  | add (r : Nat)
  | go (r : Nat)
  | wait

def stop0 : Wk0 → Option (Goroutine → Heap → Prop)
  | .none => .none
  | .add r => some (AtAddX P s Ψ (1 - r) (Scr P s Ψ Kon r))
  | .go r => some (AtGoX P s Ψ (1 - r) (Scr P s Ψ Kon r))
  | .wait => some (AtWaitX P s Kon)

def stf (w0 : Wk0) (j : Nat) (wk : Nat → Bool) : Nat → Option (Goroutine → Heap → Prop)
  | 0 => stop0 P s Ψ Kon w0
  | k + 1 => if k < j ∧ wk k = true then some (WDone P s (Ψ k)) else .none

/-- The starter: tag, what it walks towards, a flag that falls within a tag, how many are started, fuel, deafness. -/
inductive MSx (key : Goroutine × Heap) : CTag → Wk0 → Nat → Nat → Nat → Nat → Goroutine → Heap → World → Prop
  | wk5 {r : Nat} {g : Goroutine} {h : Heap} {w : World} : r < 2 → g = key.1 → Keep key.2 h → MSx key (.sp r 5) (.add r) 1 (1 - r) 0 0 g h w
  | kd5 {r m : Nat} {gb g : Goroutine} {h : Heap} {w : World} : r < 2 → Goes P true (RLv s.ty s.Wg) DC0 (AtKdS P s.ty s.Wg gb) m g w → Cont P s Ψ (1 - r) (Scr P s Ψ Kon r) gb h → MSx key (.sp r 5) .none 0 (1 - r) m 0 g h w
  | a1 {r m : Nat} {gb g : Goroutine} {h : Heap} {w : World} : r < 2 → Goes P true (RLv s.ty s.Wg) DC0 (AtA1 P s.ty s.Wg gb) m g w → Cont P s Ψ (1 - r) (Scr P s Ψ Kon r) gb h → MSx key (.sp r 4) .none 0 (1 - r) m 1 g h w
  | rd {r m : Nat} {gb g : Goroutine} {h : Heap} {w : World} : r < 2 → Goes P true (RLv s.ty s.Wg) DC0 (AtRdS P s.ty s.Wg gb) m g w → Cont P s Ψ (1 - r) (Scr P s Ψ Kon r) gb h → MSx key (.sp r 3) .none 1 (1 - r) m 1 g h w
  | kes {r m : Nat} {gb g : Goroutine} {h : Heap} {w : World} : r < 2 → Goes P true (RLv s.ty s.Wg) DC0 (AtKeS P s.ty s.Wg gb) m g w → Cont P s Ψ (1 - r) (Scr P s Ψ Kon r) gb h → MSx key (.sp r 3) .none 0 (1 - r) m 1 g h w
  | bk {r m : Nat} {gb g : Goroutine} {h : Heap} {w : World} : r < 2 → Goes P true (RLv s.ty s.Wg) DC0 (AtBack s.ty s.Wg gb) m g w → Cont P s Ψ (1 - r) (Scr P s Ψ Kon r) gb h → MSx key (.sp r 2) .none 1 (1 - r) m 0 g h w
  | wk2 {r : Nat} {g : Goroutine} {h : Heap} {w : World} : r < 2 → g = key.1 → Keep key.2 h → MSx key (.sp r 2) (.go r) 0 (1 - r) 0 0 g h w
  | wkW {g : Goroutine} {h : Heap} {w : World} : g = key.1 → Keep key.2 h → MSx key .kd .wait 1 2 0 0 g h w
  | kd {m : Nat} {gb g : Goroutine} {AnchW : Goroutine → World → Prop} {h : Heap} {w : World} : WC P s Kon gb AnchW → Goes P true (RLv s.ty s.Wg) DC0 (AtKd P s.ty s.Wg AnchW) m g w → MSx key .kd .none 0 2 m 0 g h w
  | anch {m : Nat} {gb g : Goroutine} {AnchW : Goroutine → World → Prop} {h : Heap} {w : World} : WC P s Kon gb AnchW → Goes P true (RLv s.ty s.Wg) DC0 AnchW m g w → MSx key .anch .none 0 2 m 1 g h w
  | w1 {m : Nat} {gb g : Goroutine} {AnchW : Goroutine → World → Prop} {h : Heap} {w : World} : WC P s Kon gb AnchW → Goes P true (RLv s.ty s.Wg) DC0 (AtW1 P s.ty s.Wg gb AnchW) m g w → MSx key .w1 .none 0 2 m 1 g h w
  | w2 {vs m : Nat} {gb g : Goroutine} {AnchW : Goroutine → World → Prop} {h : Heap} {w : World} : WC P s Kon gb AnchW → Goes P true (RLv s.ty s.Wg) DC0 (AtW2 P s.ty s.Wg gb AnchW vs) m g w → MSx key (.w2 vs) .none 0 2 m 1 g h w
  | wr {m : Nat} {gb g : Goroutine} {h : Heap} {w : World} : Kon gb → Goes P true (RLv s.ty s.Wg) DC0 (AtWr P s.ty s.Wg gb) m g w → MSx key .w3 .none 1 2 (m + 1) 1 g h w
  | w3 {m : Nat} {gb g : Goroutine} {h : Heap} {w : World} : Kon gb → Goes P true (RLv s.ty s.Wg) DC0 (AtW3 P s.ty s.Wg gb) m g w → MSx key .w3 .none 0 2 (m + 1) 1 g h w
  | blk {gb g : Goroutine} {h : Heap} {w : World} : Kon gb → (∀ w₁, RLv s.ty s.Wg w w₁ → AtW3 P s.ty s.Wg gb g w₁) → MSx key .blk .none 0 2 0 1 { g with status := .blocked } h w
  | w4 {m : Nat} {gb g : Goroutine} {h : Heap} {w : World} : Kon gb → Goes P true (RLv s.ty s.Wg) DC0 (AtW4 P s.ty s.Wg gb) m g w → MSx key .w4 .none 0 2 m 1 g h w
  | ke {m : Nat} {gb g : Goroutine} {h : Heap} {w : World} : Kon gb → Goes P true (RLv s.ty s.Wg) DC0 (AtKe P s.ty s.Wg gb) m g w → MSx key .ke .none 0 2 m 1 g h w
  | acq {m : Nat} {gb g : Goroutine} {h : Heap} {w : World} : Kon gb → Goes P true (RLv s.ty s.Wg) DC0 (AtAcq P s.ty s.Wg gb) m g w → MSx key .acq .none 0 2 m 0 g h w
  | ret {m : Nat} {gb g : Goroutine} {h : Heap} {w : World} : Kon gb → Goes P true (RLv s.ty s.Wg) DC0 (AtBack s.ty s.Wg gb) m g w → MSx key .ret .none 0 2 m 0 g h w
end

section
variable {P : Program} {s : Site} {Ψ : Nat → Heap → Prop} {Kon : Goroutine → Prop} {Φ : Heap → Prop} {key : Goroutine × Heap} {tag : CTag} {w0 : Wk0} {fl j f d st m : Nat} {b : Bool} {g : Goroutine} {h h' : Heap} {w w' : World}

theorem WDone.stay (hΦ : ∀ h h', Keep h h' → Φ h → Φ h') (x : WDone P s Φ g h) (k : Keep h h') : WDone P s Φ g h' := ⟨x.1, hΦ _ _ k x.2⟩
theorem Exc.stay {i : Nat} (x : Exc h i) (k : Keep h h') : Exc h' i := by
  obtain ⟨c, e, hb, hc⟩ := x
  exact ⟨c, e, (k.keep i (Array.getElem?_eq_some_iff.1 hb).1).trans hb, hc⟩
theorem Cont.stay {k : Nat} {Next : Goroutine → Heap → Prop} (x : Cont P s Ψ k Next g h) (y : Keep h h') : Cont P s Ψ k Next g h' := fun h2 z => x h2 (y.trans z)
theorem AtAddX.stay {k : Nat} {Next : Goroutine → Heap → Prop} (x : AtAddX P s Ψ k Next g h) (y : Keep h h') : AtAddX P s Ψ k Next g h' := by
  obtain ⟨gb, a, c⟩ := x
  exact ⟨gb, a, c.stay y⟩
theorem AtGoX.stay {k : Nat} {Next : Goroutine → Heap → Prop} (x : AtGoX P s Ψ k Next g h) (y : Keep h h') : AtGoX P s Ψ k Next g h' := by
  obtain ⟨r, g', child, X, Z, a, b, c, d⟩ := x
  exact ⟨r, g', child, X, Z, a, fun i hi => (b i hi).stay y, fun i hi => (c i hi).stay y, fun h2 z => d h2 (y.trans z)⟩

theorem WSx.rely (hΦ : ∀ h h', Keep h h' → Φ h → Φ h') (x : WSx P s Φ key st b m d g h w) (r : RLv s.ty s.Wg w w') (k : Keep h h') : WSx P s Φ key st b m d g h' w' := by
  cases x with
  | walk a c => exact .walk a (c.trans k)
  | r0 a c => exact .r0 (hΦ _ _ k a) (Goes.rely rlv_trans c r)
  | k1 a c => exact .k1 (hΦ _ _ k a) (Goes.rely rlv_trans c r)
  | d1 a c => exact .d1 (hΦ _ _ k a) (Goes.rely rlv_trans c r)
  | d2 a c => exact .d2 (hΦ _ _ k a) (Goes.rely rlv_trans c r)
  | d3 a c => exact .d3 (hΦ _ _ k a) (Goes.rely rlv_trans c r)
  | d4 a c => exact .d4 (hΦ _ _ k a) (Goes.rely rlv_trans c r)
  | quit a c => exact .quit (hΦ _ _ k a) c

theorem reach_running {b : Bool} {Stop : Goroutine → Heap → Prop} (hs : ∀ g h, Stop g h → g.status = .running) (x : Reach P (.own b) g h Stop) : g.status = .running :=
  x (fun g _ => g.status = .running) hs fun _ _ o => o.1

theorem WDone.running (hl : ∃ w, WgLive s.ty s.Wg w) (x : WDone P s Φ g h) : g.status = .running := by
  obtain ⟨w, hw⟩ := hl
  obtain ⟨m, hm⟩ := x.1 w hw
  exact Goes.running (fun _ _ x => x.1) w (rlv_refl w) hm

theorem WSx.status (hl : WgLive s.ty s.Wg w) (hk : b = true → Reach P (.own false) key.1 key.2 (WDone P s Φ)) (x : WSx P s Φ key st b m d g h w) : g.status = .running ∨ (g.status = .finished ∧ st = 1) := by
  cases x with
  | walk a c => subst a; exact .inl (reach_running (fun _ _ z => z.running ⟨w, hl⟩) (hk rfl))
  | r0 a c => exact .inl (Goes.running (fun _ _ x => x.1) w (rlv_refl w) c)
  | k1 a c => exact .inl (Goes.running (fun _ _ x => x.1) w (rlv_refl w) c)
  | d1 a c => exact .inl (Goes.running (fun _ _ x => x.1) w (rlv_refl w) c)
  | d2 a c => exact .inl (Goes.running (fun _ _ x => x.1) w (rlv_refl w) c)
  | d3 a c => exact .inl (Goes.running (fun _ _ x => x.1) w (rlv_refl w) c)
  | d4 a c => exact .inl (Goes.running (fun _ _ x => x.1) w (rlv_refl w) c)
  | quit a c => exact c.status.imp id fun z => ⟨z, rfl⟩

theorem WSx.woken (hl : WgLive s.ty s.Wg w) (hk : b = true → Reach P (.own false) key.1 key.2 (WDone P s Φ)) (x : WSx P s Φ key st b m d g h w) (a a' : Goroutine) (w' : World) : woken P a a' w' g = g := by
  unfold Go.Conc.woken
  split
  · exact again_running _ ((x.status hl hk).imp id fun z => z.1)
  · rfl

theorem MSx.rely (x : MSx P s Ψ Kon key tag w0 fl j f d g h w) (r : RLv s.ty s.Wg w w') (k : Keep h h') : MSx P s Ψ Kon key tag w0 fl j f d g h' w' := by
  cases x with
  | wk5 a c e => exact .wk5 a c (e.trans k)
  | kd5 a c e => exact .kd5 a (Goes.rely rlv_trans c r) (e.stay k)
  | a1 a c e => exact .a1 a (Goes.rely rlv_trans c r) (e.stay k)
  | rd a c e => exact .rd a (Goes.rely rlv_trans c r) (e.stay k)
  | kes a c e => exact .kes a (Goes.rely rlv_trans c r) (e.stay k)
  | bk a c e => exact .bk a (Goes.rely rlv_trans c r) (e.stay k)
  | wk2 a c e => exact .wk2 a c (e.trans k)
  | wkW c e => exact .wkW c (e.trans k)
  | kd a c => exact .kd a (Goes.rely rlv_trans c r)
  | anch a c => exact .anch a (Goes.rely rlv_trans c r)
  | w1 a c => exact .w1 a (Goes.rely rlv_trans c r)
  | w2 a c => exact .w2 a (Goes.rely rlv_trans c r)
  | wr a c => exact .wr a (Goes.rely rlv_trans c r)
  | w3 a c => exact .w3 a (Goes.rely rlv_trans c r)
  | blk a c => exact .blk a fun w₂ h₂ => c w₂ (rlv_trans _ _ _ r h₂)
  | w4 a c => exact .w4 a (Goes.rely rlv_trans c r)
  | ke a c => exact .ke a (Goes.rely rlv_trans c r)
  | acq a c => exact .acq a (Goes.rely rlv_trans c r)
  | ret a c => exact .ret a (Goes.rely rlv_trans c r)

/-- It is running, or it is blocked at the semaphore. -/
theorem MSx.status (hl : WgLive s.ty s.Wg w) (hkon : ∀ gb, Kon gb → gb.status = .running) (hk : ∀ S, stop0 P s Ψ Kon w0 = some S → Reach P (.own true) key.1 key.2 S) (x : MSx P s Ψ Kon key tag w0 fl j f d g h w) : (g.status = .running ∧ tag ≠ .blk) ∨ (g.status = .blocked ∧ tag = .blk) := by
  have hb : ∀ {r : Nat} {gb : Goroutine} {h : Heap}, Cont P s Ψ (1 - r) (Scr P s Ψ Kon r) gb h → gb.status = .running := fun c => reach_running (fun _ _ z => z.1) (c _ (.refl _))
  cases x with
  | wk5 a c e =>
    subst c
    refine .inl ⟨reach_running (fun g h z => ?_) (hk _ rfl), by simp⟩
    obtain ⟨gb, z, _⟩ := z
    obtain ⟨m, hm⟩ := z w hl
    exact Goes.running (fun _ _ x => x.1) w (rlv_refl w) hm
  | kd5 a c e => exact .inl ⟨Goes.running (fun _ _ x => x.1) w (rlv_refl w) c, by simp⟩
  | a1 a c e => exact .inl ⟨Goes.running (fun _ _ x => x.1) w (rlv_refl w) c, by simp⟩
  | rd a c e => exact .inl ⟨Goes.running (fun _ _ x => x.1) w (rlv_refl w) c, by simp⟩
  | kes a c e => exact .inl ⟨Goes.running (fun _ _ x => x.1) w (rlv_refl w) c, by simp⟩
  | bk a c e => exact .inl ⟨Goes.running (fun _ _ x => by rw [x.1]; exact hb e) w (rlv_refl w) c, by simp⟩
  | wk2 a c e => subst c; exact .inl ⟨reach_running (fun _ _ z => z.1) (hk _ rfl), by simp⟩
  | wkW c e =>
    subst c
    refine .inl ⟨reach_running (fun g h z => ?_) (hk _ rfl), by simp⟩
    obtain ⟨gb, An, _, z⟩ := z
    obtain ⟨m, hm⟩ := z w hl
    exact Goes.running (fun _ _ x => x.1) w (rlv_refl w) hm
  | kd a c => exact .inl ⟨Goes.running (fun _ _ x => x.1) w (rlv_refl w) c, by simp⟩
  | anch a c => exact .inl ⟨Goes.running a.1 w (rlv_refl w) c, by simp⟩
  | w1 a c => exact .inl ⟨Goes.running (fun _ _ x => x.1) w (rlv_refl w) c, by simp⟩
  | w2 a c => exact .inl ⟨Goes.running (fun _ _ x => x.1) w (rlv_refl w) c, by simp⟩
  | wr a c => exact .inl ⟨Goes.running (fun _ _ x => x.1) w (rlv_refl w) c, by simp⟩
  | w3 a c => exact .inl ⟨Goes.running (fun _ _ x => x.1) w (rlv_refl w) c, by simp⟩
  | blk a c => exact .inr ⟨rfl, rfl⟩
  | w4 a c => exact .inl ⟨Goes.running (fun _ _ x => x.1) w (rlv_refl w) c, by simp⟩
  | ke a c => exact .inl ⟨Goes.running (fun _ _ x => x.1) w (rlv_refl w) c, by simp⟩
  | acq a c => exact .inl ⟨Goes.running (fun _ _ x => x.1) w (rlv_refl w) c, by simp⟩
  | ret a c => exact .inl ⟨Goes.running (fun _ _ x => by rw [x.1]; exact hkon _ a) w (rlv_refl w) c, by simp⟩

/-- Under another's step: as it stood; or, blocked, it is let try again. -/
theorem MSx.wokenBy (hl : WgLive s.ty s.Wg w) (hkon : ∀ gb, Kon gb → gb.status = .running) (hk : ∀ S, stop0 P s Ψ Kon w0 = some S → Reach P (.own true) key.1 key.2 S) (x : MSx P s Ψ Kon key tag w0 fl j f d g h w) (r : RLv s.ty s.Wg w w') (k : Keep h h') (a a' : Goroutine) :
    ∃ tag' f', MSx P s Ψ Kon key tag' w0 fl j f' d (woken P a a' w' g) h' w' ∧ f' ≤ f + 1 ∧ (tag' = tag ∨ (tag = .blk ∧ tag' = .w3)) ∧ (mayWake P a = true → a'.status = .running → tag' ≠ .blk) := by
  have x' := x.rely r k
  unfold Go.Conc.woken
  split
  · rcases x'.status (r hl) hkon hk with ⟨hs, hne⟩ | ⟨_, rfl⟩
    · exact ⟨tag, f, by rw [again_running _ (.inl hs)]; exact x', by omega, .inl rfl, fun _ _ => hne⟩
    · cases x' with
      | blk hb1 hb =>
        have h3 := hb w' (rlv_refl w')
        exact ⟨.w3, 0 + 1, by rw [Go.ConcR.again_blocked h3.1 h3.2.1]; exact .w3 hb1 (Goes.stop hb), by omega, .inr ⟨rfl, rfl⟩, fun _ _ => by simp⟩
  · rename_i hc
    exact ⟨tag, f, x', by omega, .inl rfl, fun h1 h2 => absurd (by simp [h1, h2]) hc⟩
end
end Go.X
namespace Go.X
open Go.Conc
open Go.ConcN (RelBy WD CTag Vc Ssum Fsum phi cnt sumTo upd sumTo_upd upd_ne upd_same WgLive)
open Go.ConcR (KK wgBlock WgAt stA smA rd wr mk DC0 Bk)

section
variable (P : Program) (s : Site) (Ψ : Nat → Heap → Prop) (Kon : Goroutine → Prop)

/-- What the workers have left. -/
def Joined (hw : Nat → Heap) (he : Heap) : Prop :=
  s.h₀.size ≤ he.size ∧ (∀ b, s.Old b → he[b]? = s.h₀[b]?) ∧ (∀ k, k < 2 → Ψ k (hw k) ∧ ∀ b, Exc (hw k) b → he[b]? = (hw k)[b]? ∧ (b < s.h₀.size → b ∈ s.Z)) ∧ ∀ b, Exc (hw 0) b → ¬ Exc (hw 1) b

def Fin (gs : Array Goroutine) (w : World) (sl : Option (Nat × Nat)) (t : Trace) : Prop :=
  ∃ (N : Nat) (S' : Nat → Prop) (gs' : Array Goroutine) (w' : World) (sl' : Option (Nat × Nat)) (t' : Trace) (q' : Nat → Nat) (gb : Goroutine) (he : Heap) (hw : Nat → Heap),
    runNT P N (crowd gs w sl) t = (.next (crowd gs' w' sl'), t') ∧ Scene P S' gs' w' t' q' gb he ∧ Kon gb ∧ Joined s Ψ hw he ∧ Quiet (.of s.S) w w' ∧ ∀ b, s.S b → S' b

structure InvAt (w0 : Wk0) (j : Nat) (wk : Nat → Bool) (c : Nat → Goroutine × Heap) (V : Nat → Vw) (hv : Nat → Heap) (g : Nat → Goroutine) (dd q : Nat → Nat) (D : Nat → WD) (tag : CTag) (fl f0 : Nat) (st sm : Int)
    (gs : Array Goroutine) (w : World) (t : Trace) : Prop where
  crew : Crew s P j V hv g dd q gs w t
  main : MSx P s Ψ Kon (c 0) tag w0 fl j f0 (dd 0) (g 0) (hv 0) w
  work : ∀ k, k < j → WSx P s (Ψ k) (c (k + 1)) (D k).stage (wk k) (D k).fuel (dd (k + 1)) (g (k + 1)) (hv (k + 1)) w
  rel : ∀ k, k < j → (D k).stage ≤ 6 → ∃ r, s.n₀ ≤ r ∧ RelBy (stA s.Wg) t (s.p + k) r
  wg : WgAt s.ty s.Wg w st sm
  mode : Go.ConcN.Mode j D tag st sm
  acq : tag = .ret → AcqAt s.Wg s.n₀ s.p j t

def walks (j : Nat) (wk : Nat → Bool) : Nat := sumTo j fun k => if wk k then 1 else 0
def rank (tag : CTag) (fl j : Nat) (wk : Nat → Bool) (D : Nat → WD) : Nat := 4 * (phi 2 (Vc j D) tag + Ssum j D) + fl + walks j wk
def fuel (p f0 j : Nat) (D : Nat → WD) (q : Nat → Nat) : Nat := f0 + 2 * Fsum j D + 2 * sumTo p q

def Good' (M : Nat) (w0 : Wk0) (j : Nat) (wk : Nat → Bool) (c : Nat → Goroutine × Heap) (μ : Nat) (gs : Array Goroutine) (w : World) (t : Trace) : Prop :=
  ∃ V hv g dd q D tag fl f0 st sm, InvAt P s Ψ Kon w0 j wk c V hv g dd q D tag fl f0 st sm gs w t ∧ rank tag fl j wk D = M ∧ fuel s.p f0 j D q = μ

def Lower (M μ : Nat) (w0 : Wk0) (j : Nat) (wk : Nat → Bool) (c : Nat → Goroutine × Heap) (gs : Array Goroutine) (w : World) (t : Trace) : Prop :=
  (∃ M' w0' j' wk' c' μ', M' < M ∧ (∀ k, RK (stf P s Ψ Kon w0' j' wk') P k (c' k)) ∧ Good' P s Ψ Kon M' w0' j' wk' c' μ' gs w t) ∨ ∃ μ', μ' < μ ∧ Good' P s Ψ Kon M w0 j wk c μ' gs w t
end

section
variable {P : Program} {s : Site} {Ψ : Nat → Heap → Prop} {Kon : Goroutine → Prop} {w0 : Wk0} {j : Nat} {wk : Nat → Bool} {c : Nat → Goroutine × Heap} {V : Nat → Vw} {hv : Nat → Heap} {g : Nat → Goroutine} {dd q : Nat → Nat} {D : Nat → WD}
  {tag : CTag} {fl f0 : Nat} {st sm : Int} {gs : Array Goroutine} {w w' : World} {t : Trace} {M μ : Nat} {sl : Option (Nat × Nat)}

theorem MSx.le {key : Goroutine × Heap} {f d : Nat} {g : Goroutine} {h : Heap} (x : MSx P s Ψ Kon key tag w0 fl j f d g h w) : j ≤ 2 ∧ fl ≤ 1 ∧ (j + Go.ConcN.pend tag ≤ 2) := by
  cases x <;> simp only [Go.ConcN.pend] <;> (try simp) <;> omega

theorem walks_le (j : Nat) (wk : Nat → Bool) : walks j wk ≤ j := by
  have := Go.ConcN.sumTo_le (f := fun k => if wk k then 1 else 0) (c := 1) (j := j) fun i _ => by split <;> omega
  simpa [walks] using this

theorem Crew.draw (C : Crew s P j V hv g dd q gs w t) (d : Nat) : Crew s P j V hv g dd q gs (w.at d) t :=
  ⟨C.pos, C.size, C.at', C.lv, C.above, C.veil, C.apart, C.dis, C.wgd, C.old, C.oldV, C.sd, C.h0sz, C.ti, C.deaf⟩

theorem InvAt.draw (hΨ : ∀ k h h', Keep h h' → Ψ k h → Ψ k h') (I : InvAt P s Ψ Kon w0 j wk c V hv g dd q D tag fl f0 st sm gs w t) (d : Nat) : InvAt P s Ψ Kon w0 j wk c V hv g dd q D tag fl f0 st sm gs (w.at d) t :=
  ⟨I.crew.draw d, I.main.rely (rlv_at w d) (.refl _), fun k hk => (I.work k hk).rely (hΨ k) (rlv_at w d) (.refl _), I.rel, I.wg, I.mode, I.acq⟩

theorem fin_step {gs' : Array Goroutine} {sl' : Option (Nat × Nat)} {ops : Trace} (h : stepT P (crowd gs w sl) = (.next (crowd gs' w' sl'), ops)) (hc : Quiet (.of s.S) w w') (x : Fin P s Ψ Kon gs' w' sl' (t ++ ops)) : Fin P s Ψ Kon gs w sl t := by
  obtain ⟨N, S', gs2, w2, sl2, t2, q2, gb, he, hw, a, b, e, f, i, k⟩ := x
  exact ⟨N + 1, S', gs2, w2, sl2, t2, q2, gb, he, hw, by simp only [runNT, h]; exact a, b, e, f, hc.trans i, k⟩

theorem AcqAt.app {u : Trace} {Wg n₀ p : Nat} (h : AcqAt Wg n₀ p j t) (hu : ∀ k r, k < j → RelBy (stA Wg) t (p + k) r → RelBy (stA Wg) (t ++ u) (p + k) r) : AcqAt Wg n₀ p j (t ++ u) := by
  obtain ⟨q, h1, h2, h3, h4⟩ := h
  have hq := lt_of_act? h1
  exact ⟨q, by rw [act?_old hq]; exact h1, by rw [g?_old hq]; exact h2, (heard_old hq).2 h3, fun k hk => let ⟨r, hr0, hr, hrq⟩ := h4 k hk; ⟨r, hr0, hu k r hk hr, hrq⟩⟩

/-- What the library's bookkeeping lists. -/
def BkX (Wg k : Nat) (e : Event) : Prop := Bk Wg e ∨ e = mk (.acquire (stA Wg)) ∨ e = mk (.releaseMerge (stA Wg)) ∨ (k = 0 ∧ (e = mk (.read (smA Wg)) ∨ e = mk (.write (smA Wg))))
theorem BkX.ok {Wg k B : Nat} {e : Event} (h : BkX Wg k e) (hB : Wg < B) :
    (∀ x, (MemAct.ofEvent e).touch? = some x → (∃ a : Addr, x.loc = .cell a ∧ a.block = Wg) ∧ x.kind ≠ .plain ∧ (x.kind = .said → k = 0)) ∧ (MemAct.ofEvent e).low B ∧ MemAct.ofEvent e ≠ .mark (.release (stA Wg)) := by
  rcases h with (h | h | ⟨a, wr, rfl, ha⟩) | rfl | rfl | ⟨hk, rfl | rfl⟩
  · obtain ⟨loc, wr, sy⟩ := e; simp only at h; subst h
    exact ⟨by intro x hx; simp [MemAct.ofEvent, MemAct.touch?] at hx, trivial, by simp [MemAct.ofEvent]⟩
  · obtain ⟨loc, wr, sy⟩ := e; simp only at h; subst h
    exact ⟨by intro x hx; simp [MemAct.ofEvent, MemAct.touch?] at hx, trivial, by simp [MemAct.ofEvent]⟩
  · refine ⟨fun x hx => ?_, ?_, by simp [MemAct.ofEvent]⟩
    · simp [MemAct.ofEvent, MemAct.touch?] at hx
      subst hx
      exact ⟨⟨a, rfl, ha⟩, by simp, by simp⟩
    · show a.block < B
      omega
  · exact ⟨by intro x hx; simp [mk, MemAct.ofEvent, MemAct.touch?] at hx, hB, by simp [mk, MemAct.ofEvent]⟩
  · exact ⟨by intro x hx; simp [mk, MemAct.ofEvent, MemAct.touch?] at hx, hB, by simp [mk, MemAct.ofEvent]⟩
  · refine ⟨fun x hx => ?_, hB, by simp [mk, MemAct.ofEvent]⟩
    simp [mk, MemAct.ofEvent, MemAct.touch?] at hx
    subst hx
    exact ⟨⟨_, rfl, rfl⟩, by simp, fun _ => hk⟩
  · refine ⟨fun x hx => ?_, hB, by simp [mk, MemAct.ofEvent]⟩
    simp [mk, MemAct.ofEvent, MemAct.touch?] at hx
    subst hx
    exact ⟨⟨_, rfl, rfl⟩, by simp, fun _ => hk⟩

theorem InvAt.lt (I : InvAt P s Ψ Kon w0 j wk c V hv g dd q D tag fl f0 st sm gs w t) : s.Wg < w.heap.size := (Array.getElem?_eq_some_iff.1 I.wg).1
theorem InvAt.live (I : InvAt P s Ψ Kon w0 j wk c V hv g dd q D tag fl f0 st sm gs w t) : WgLive s.ty s.Wg w := ⟨_, _, I.wg⟩

theorem rk_work (hR : ∀ k, RK (stf P s Ψ Kon w0 j wk) P k (c k)) {k : Nat} (hk : k < j) : wk k = true → Reach P (.own false) (c (k + 1)).1 (c (k + 1)).2 (WDone P s (Ψ k)) :=
  fun h => hR (k + 1) _ (by simp [stf, hk, h])
theorem rk_main (hR : ∀ k, RK (stf P s Ψ Kon w0 j wk) P k (c k)) : ∀ S, stop0 P s Ψ Kon w0 = some S → Reach P (.own true) (c 0).1 (c 0).2 S := fun S h => hR 0 S h

/-- A STEP OF WORKER k's IN THE LIBRARY. -/
theorem work_book (hΨ : ∀ k h h', Keep h h' → Ψ k h → Ψ k h') (hkon : ∀ gb, Kon gb → gb.status = .running) (hR : ∀ k, RK (stf P s Ψ Kon w0 j wk) P k (c k)) (I : InvAt P s Ψ Kon w0 j wk c V hv g dd q D tag fl f0 st sm gs w t) {k : Nat} (hk : k < j) (hwk : wk k = false)
    {a' : Goroutine} {es : Array Event} {s' m' d' : Nat} {st' sm' : Int} {fn : FuncId} {pos : String} (hAs : Aside s.Wg w w') (hbk : ∀ e ∈ es, BkX s.Wg (k + 1) e)
    (hs' : WSx P s (Ψ k) (c (k + 1)) s' false m' d' a' (hv (k + 1)) w') (hdd : deafBehind (dd (k + 1)) es = d')
    (hrel : s' ≤ 6 → ∃ r, s.n₀ ≤ r ∧ RelBy (stA s.Wg) (t ++ MemOp.ofEvents (s.p + k) fn pos es) (s.p + k) r) (hwg : WgAt s.ty s.Wg w' st' sm')
    (hmode : ∀ tag', (tag' = tag ∨ (tag = .blk ∧ tag' = .w3)) → (mayWake P (g (k + 1)) = true → a'.status = .running → tag' ≠ .blk) → Go.ConcN.Mode j (upd D k ⟨s', m', 0⟩) tag' st' sm')
    (hacq : tag = .ret → AcqAt s.Wg s.n₀ s.p j (t ++ MemOp.ofEvents (s.p + k) fn pos es))
    (hlt : (s' < (D k).stage ∧ cnt ⟨s', m', 0⟩ ≤ cnt (D k)) ∨ (s' = (D k).stage ∧ m' + 1 = (D k).fuel)) :
    Lower P s Ψ Kon (rank tag fl j wk D) (fuel s.p f0 j D q) w0 j wk c ((gs.map (woken P (g (k + 1)) a' w')).setIfInBounds (s.p + k) a') w' (t ++ MemOp.ofEvents (s.p + k) fn pos es) := by
  have hRL : RLv s.ty s.Wg w w' := fun _ => ⟨_, _, hwg⟩
  obtain ⟨tag', f', hm', hf', htag, hwake⟩ := I.main.wokenBy I.live hkon (rk_main hR) hRL (.refl _) (g (k + 1)) a'
  have C' := I.crew.book (k := k + 1) (a' := a') (fn := fn) (pos := pos) (by omega) hAs.size hAs.block (fun e he => ((hbk e he).ok I.lt).1) (fun e he => ((hbk e he).ok I.lt).2.1) fun e he => ((hbk e he).ok I.lt).2.2
  have hN : InvAt P s Ψ Kon w0 j wk c V hv (wok P (g (k + 1)) a' w' (k + 1) g) (upd dd (k + 1) (deafBehind (dd (k + 1)) es)) q (upd D k ⟨s', m', 0⟩) tag' fl f' st' sm' ((gs.map (woken P (g (k + 1)) a' w')).setIfInBounds (s.p + k) a') w' (t ++ MemOp.ofEvents (s.p + k) fn pos es) := by
    refine ⟨C', ?_, fun m hm => ?_, fun m hm hst => ?_, hwg, hmode tag' htag hwake, fun e => ?_⟩
    · have e0 : wok P (g (k + 1)) a' w' (k + 1) g 0 = woken P (g (k + 1)) a' w' (g 0) := by unfold wok; rw [upd_ne _ _ (by omega)]
      rw [e0, upd_ne _ _ (by omega : (0 : Nat) ≠ k + 1)]
      exact hm'
    · by_cases e : m = k
      · subst e
        have e1 : wok P (g (m + 1)) a' w' (m + 1) g (m + 1) = a' := by unfold wok; rw [upd_same]
        rw [e1, upd_same, upd_same, hwk, hdd]
        exact hs'
      · have e1 : wok P (g (k + 1)) a' w' (k + 1) g (m + 1) = g (m + 1) := by
          unfold wok; rw [upd_ne _ _ (by omega)]
          exact (I.work m hm).woken I.live (rk_work hR hm) _ _ _
        rw [e1, upd_ne _ _ (by omega : m + 1 ≠ k + 1), upd_ne _ _ e]
        exact (I.work m hm).rely (hΨ m) hRL (.refl _)
    · by_cases e : m = k
      · subst e; rw [upd_same] at hst; exact hrel hst
      · rw [upd_ne _ _ e] at hst
        obtain ⟨r, hr0, hr⟩ := I.rel m hm hst
        exact ⟨r, hr0, hr.appOther ops_g (by omega)⟩
    · rcases htag with rfl | ⟨_, rfl⟩
      · exact hacq e
      · cases e
  have e1 := sumTo_upd D (⟨s', m', 0⟩ : WD) cnt hk
  have e2 := sumTo_upd D (⟨s', m', 0⟩ : WD) WD.stage hk
  have e3 := sumTo_upd D (⟨s', m', 0⟩ : WD) WD.fuel hk
  have hw := walks_le j wk
  have hl := I.main.le
  rcases hlt with ⟨h1, h2⟩ | ⟨h1, h2⟩
  · refine .inl ⟨_, w0, j, wk, c, _, ?_, hR, _, _, _, _, _, _, _, _, _, _, _, hN, rfl, rfl⟩
    simp only [rank]
    rw [Go.ConcN.phi_retag 2 _ htag]
    simp only [Vc, Ssum] at *
    have := Go.ConcN.phi_mono 2 (v' := sumTo j fun a => cnt (upd D k ⟨s', m', 0⟩ a)) (v := sumTo j fun a => cnt (D a)) (by omega) tag
    omega
  · have ec : cnt (⟨s', m', 0⟩ : WD) = cnt (D k) := by simp only [cnt, h1]
    have ev : Vc j (upd D k ⟨s', m', 0⟩) = Vc j D := by simp only [Vc] at *; omega
    have es' : Ssum j (upd D k ⟨s', m', 0⟩) = Ssum j D := by simp only [Ssum] at *; omega
    refine .inr ⟨_, ?_, _, _, _, _, _, _, _, _, _, _, _, hN, ?_, rfl⟩
    · simp only [fuel, Fsum] at *
      omega
    · simp only [rank]; rw [Go.ConcN.phi_retag 2 _ htag, ev, es']

/-- A STEP OF THE STARTER's IN THE LIBRARY. -/
theorem main_book (hΨ : ∀ k h h', Keep h h' → Ψ k h → Ψ k h') (hR : ∀ k, RK (stf P s Ψ Kon w0 j wk) P k (c k)) (I : InvAt P s Ψ Kon w0 j wk c V hv g dd q D tag fl f0 st sm gs w t)
    {a' : Goroutine} {es : Array Event} {tag' : CTag} {fl' f' : Nat} {w0' : Wk0} {c0 : Goroutine × Heap} {st' sm' : Int} {fn : FuncId} {pos : String} (hAs : Aside s.Wg w w') (hbk : ∀ e ∈ es, BkX s.Wg 0 e)
    (hm' : MSx P s Ψ Kon c0 tag' w0' fl' j f' (deafBehind (dd 0) es) a' (hv 0) w') (h0 : ∀ S, stop0 P s Ψ Kon w0' = some S → Reach P (.own true) c0.1 c0.2 S) (hwg : WgAt s.ty s.Wg w' st' sm') (hmode : Go.ConcN.Mode j D tag' st' sm')
    (hacq : tag' = .ret → AcqAt s.Wg s.n₀ s.p j (t ++ MemOp.ofEvents 0 fn pos es))
    (hlt : phi 2 (Vc j D) tag' < phi 2 (Vc j D) tag ∨ (phi 2 (Vc j D) tag' = phi 2 (Vc j D) tag ∧ fl' < fl) ∨ (phi 2 (Vc j D) tag' = phi 2 (Vc j D) tag ∧ fl' = fl ∧ f' < f0 ∧ w0' = w0 ∧ c0 = c 0)) :
    Lower P s Ψ Kon (rank tag fl j wk D) (fuel s.p f0 j D q) w0 j wk c ((gs.map (woken P (g 0) a' w')).setIfInBounds 0 a') w' (t ++ MemOp.ofEvents 0 fn pos es) := by
  have hRL : RLv s.ty s.Wg w w' := fun _ => ⟨_, _, hwg⟩
  have C' := I.crew.book (k := 0) (a' := a') (fn := fn) (pos := pos) (Nat.zero_le _) hAs.size hAs.block (fun e he => ((hbk e he).ok I.lt).1) (fun e he => ((hbk e he).ok I.lt).2.1) fun e he => ((hbk e he).ok I.lt).2.2
  have hN : InvAt P s Ψ Kon w0' j wk (upd c 0 c0) V hv (wok P (g 0) a' w' 0 g) (upd dd 0 (deafBehind (dd 0) es)) q D tag' fl' f' st' sm' ((gs.map (woken P (g 0) a' w')).setIfInBounds 0 a') w' (t ++ MemOp.ofEvents 0 fn pos es) := by
    refine ⟨C', ?_, fun m hm => ?_, fun m hm hst => ?_, hwg, hmode, hacq⟩
    · have e0 : wok P (g 0) a' w' 0 g 0 = a' := by unfold wok; rw [upd_same]
      rw [e0, upd_same, upd_same]; exact hm'
    · have e1 : wok P (g 0) a' w' 0 g (m + 1) = g (m + 1) := by
        unfold wok; rw [upd_ne _ _ (by omega)]
        exact (I.work m hm).woken I.live (rk_work hR hm) _ _ _
      rw [e1, upd_ne _ _ (by omega : m + 1 ≠ 0), upd_ne _ _ (by omega : m + 1 ≠ 0)]
      exact (I.work m hm).rely (hΨ m) hRL (.refl _)
    · obtain ⟨r, hr0, hr⟩ := I.rel m hm hst
      exact ⟨r, hr0, hr.appOther ops_g (by have := I.crew.pos; omega)⟩
  have hR' : ∀ k, RK (stf P s Ψ Kon w0' j wk) P k (upd c 0 c0 k) := fun k => by
    cases k with
    | zero => rw [upd_same]; exact h0
    | succ k => rw [upd_ne _ _ (by omega : k + 1 ≠ 0)]; exact hR (k + 1)
  have hw := walks_le j wk
  have hl := I.main.le
  have hl' := hm'.le
  rcases hlt with h1 | ⟨h1, h2⟩ | ⟨h1, h2, h3, h4, h5⟩
  · refine .inl ⟨_, w0', j, wk, _, _, ?_, hR', _, _, _, _, _, _, _, _, _, _, _, hN, rfl, rfl⟩
    simp only [rank]; omega
  · refine .inl ⟨_, w0', j, wk, _, _, ?_, hR', _, _, _, _, _, _, _, _, _, _, _, hN, rfl, rfl⟩
    simp only [rank]; omega
  · subst h2; subst h4; subst h5
    have ec : upd c 0 (c 0) = c := by funext k; unfold upd; split <;> simp_all
    rw [ec] at hN
    exact .inr ⟨_, by simp only [fuel]; omega, _, _, _, _, _, _, _, _, _, _, _, hN, by simp only [rank, h1], rfl⟩
end
end Go.X
namespace Go.X
open Go.Conc
open Go.ConcN (RelBy WD CTag Vc Ssum Fsum phi cnt pend sumTo upd sumTo_upd upd_ne upd_same WgLive isW3 isFin isOpen OpenSt AllQuit bk_dis bk_en bk_rd bk_rw bk_sem bk_cell Vc_upd Vc_le others_uncounted le_sumTo allQuit_of)
open Go.ConcR (KK wgBlock WgAt stA smA rd wr mk DC0 Bk bk_of_mute ofEvent_loc_mark ofEvent_mk)

theorem aside_quiet {S : Nat → Prop} {b : Nat} {w w' : World} (hb : ¬ S b) (h : Aside b w w') : Quiet (.of S) w w' := ⟨⟨h.os, h.tape, h.output, by rw [h.size]; exact Nat.le_refl _⟩, fun k _ y => h.block k fun e => hb (e ▸ y.elim id fun z => z.elim)⟩
theorem bkx {Wg k : Nat} {es : Array Event} (h : ∀ e ∈ es, Bk Wg e) : ∀ e ∈ es, BkX Wg k e := fun e he => .inl (h e he)

section
variable {P : Program} {s : Site} {Ψ : Nat → Heap → Prop} {Kon : Goroutine → Prop} {w0 : Wk0} {j : Nat} {wk : Nat → Bool} {c : Nat → Goroutine × Heap} {V : Nat → Vw} {hv : Nat → Heap} {g : Nat → Goroutine} {dd q : Nat → Nat} {D : Nat → WD}
  {tag : CTag} {fl f0 : Nat} {st sm : Int} {gs : Array Goroutine} {w w' : World} {t : Trace} {M μ : Nat} {sl : Option (Nat × Nat)}

/-- A step of the library's, in whatever world the scheduler's draws have made. -/
def MainGo (P : Program) (s : Site) (Ψ : Nat → Heap → Prop) (Kon : Goroutine → Prop) (M μ : Nat) (w0 : Wk0) (j : Nat) (wk : Nat → Bool) (c : Nat → Goroutine × Heap) (gs : Array Goroutine) (w : World) (t : Trace) (i : Nat) (a : Goroutine) : Prop :=
  ∀ d, ∃ a' w' es, stepG P (i == 0) a (w.at d) = .go a' w' es ∧ Quiet (.of s.S) (w.at d) w' ∧ ∀ fn pos, Lower P s Ψ Kon M μ w0 j wk c ((gs.map (woken P a a' w')).setIfInBounds i a') w' (t ++ MemOp.ofEvents i fn pos es)

set_option maxHeartbeats 1600000 in
theorem main_lib (hSW : ¬ s.S s.Wg) (hΨ : ∀ k h h', Keep h h' → Ψ k h → Ψ k h') (hR : ∀ k, RK (stf P s Ψ Kon w0 j wk) P k (c k)) (I : InvAt P s Ψ Kon w0 j wk c V hv g dd q D tag fl f0 st sm gs w t) (hrun : (g 0).status = .running) (hw0 : w0 = .none) :
    MainGo P s Ψ Kon (rank tag fl j wk D) (fuel s.p f0 j D q) w0 j wk c gs w t 0 (g 0) ∨ Lower P s Ψ Kon (rank tag fl j wk D) (fuel s.p f0 j D q) w0 j wk c gs w t ∨ (tag = .ret ∧ j = 2 ∧ Kon (g 0)) := by
  subst hw0
  have hm := I.main
  have hmode := I.mode
  have hwg := I.wg
  have hVj := Vc_le j D
  generalize hd : dd 0 = d0 at hm
  generalize hg : g 0 = g0 at hm hrun ⊢
  generalize hc : c 0 = c0 at hm
  generalize hh : hv 0 = h0 at hm
  -- a step
  have go : ∀ (d : Nat) {a' : Goroutine} {w' : World} {es : Array Event} {tag' : CTag} {fl' f' : Nat} {st' sm' : Int}, stepG P true g0 (w.at d) = .go a' w' es → Aside s.Wg (w.at d) w' → (∀ e ∈ es, BkX s.Wg 0 e) → MSx P s Ψ Kon c0 tag' .none fl' j f' (deafBehind d0 es) a' h0 w' →
      WgAt s.ty s.Wg w' st' sm' → Go.ConcN.Mode j D tag' st' sm' → (tag' = .ret → ∀ fn pos, AcqAt s.Wg s.n₀ s.p j (t ++ MemOp.ofEvents 0 fn pos es)) →
      (phi 2 (Vc j D) tag' < phi 2 (Vc j D) tag ∨ (phi 2 (Vc j D) tag' = phi 2 (Vc j D) tag ∧ fl' < fl) ∨ (phi 2 (Vc j D) tag' = phi 2 (Vc j D) tag ∧ fl' = fl ∧ f' < f0)) →
      ∃ a' w' es, stepG P (0 == 0) g0 (w.at d) = .go a' w' es ∧ Quiet (.of s.S) (w.at d) w' ∧ ∀ fn pos, Lower P s Ψ Kon (rank tag fl j wk D) (fuel s.p f0 j D q) .none j wk c ((gs.map (woken P g0 a' w')).setIfInBounds 0 a') w' (t ++ MemOp.ofEvents 0 fn pos es) := by
    intro d a' w' es tag' fl' f' st' sm' hgo hAs hbk hm' hwg' hmode' hacq hlt
    refine ⟨a', w', es, hgo, aside_quiet hSW hAs, fun fn pos => ?_⟩
    have := main_book (fn := fn) (pos := pos) (a' := a') (w0' := .none) (c0 := c 0) hΨ hR (I.draw hΨ d) hAs hbk (by rw [hd, hc, hh]; exact hm') (fun S hS => by cases hS) hwg' hmode' (fun e => hacq e fn pos)
      (hlt.imp id (Or.imp id fun ⟨x, y, z⟩ => ⟨x, y, z, rfl, rfl⟩))
    rw [hg] at this
    exact this
  have nr : tag ≠ .ret → ∀ d, tag = .ret → ∀ fn pos, AcqAt s.Wg s.n₀ s.p j (t ++ MemOp.ofEvents 0 fn pos d) := fun h _ e => absurd e h
  cases hm with
  | kd5 hr h e =>
    rcases Goes.cases h with hstop | ⟨m', rfl, hstep⟩
    · refine .inl fun d => ?_
      obtain ⟨_, a', hgo, m₂, hk⟩ := hstop (w.at d) (rlv_at w d)
      exact go d hgo (.refl _ _) (bkx bk_dis) (.a1 hr hk e) hwg (hmode.reopen trivial trivial rfl (by simp)) (by simp) (.inl (by simp only [phi]; omega))
    · refine .inl fun d => ?_
      obtain ⟨a', w', es, hgo, ⟨rfl, rfl⟩, hg'⟩ := hstep (w.at d) (rlv_at w d)
      exact go d hgo (.refl _ _) (by simp) (.kd5 hr hg' e) hwg hmode (nr (by simp) _) (.inr (.inr ⟨rfl, rfl, by omega⟩))
  | a1 hr h e =>
    rename_i r gb
    rcases Goes.cases h with hstop | ⟨m', rfl, hstep⟩
    · refine .inl fun d => ?_
      obtain ⟨_, hall⟩ := hstop (w.at d) (rlv_at w d)
      obtain ⟨ho, rfl, rfl, _⟩ := hmode.open_inv trivial
      have hwg' : WgAt s.ty s.Wg (w.at d) (((Vc (1 - r) D + pend (.sp r 4) : Nat) : Int) * KK) 0 := hwg
      obtain ⟨a', hgo, h1, h2⟩ := hall (Vc (1 - r) D) (by omega) (by simpa [pend] using hwg')
      have eM : ((((Vc (1 - r) D : Nat) : Int) + 1) * KK) = ((Vc (1 - r) D + pend (.sp r 3) : Nat) : Int) * KK := by simp [pend]
      have hmd : Go.ConcN.Mode (1 - r) D (.sp r 3) ((((Vc (1 - r) D : Nat) : Int) + 1) * KK) 0 := by rw [eM]; exact .opn trivial ho (by simp)
      by_cases hv0 : Vc (1 - r) D = 0
      · obtain ⟨m₂, hk⟩ := h1 hv0
        exact go d hgo (aside_setCell _ (stA s.Wg) _) (bkx bk_rw) (.rd hr hk e) (hwg'.setSt _) hmd (by simp) (.inl (by simp only [phi]; omega))
      · obtain ⟨m₂, hk⟩ := h2 hv0
        exact go d hgo (aside_setCell _ (stA s.Wg) _) (bkx bk_rw) (.kes hr hk e) (hwg'.setSt _) hmd (by simp) (.inl (by simp only [phi]; omega))
    · refine .inl fun d => ?_
      obtain ⟨a', w', es, hgo, ⟨rfl, rfl⟩, hg'⟩ := hstep (w.at d) (rlv_at w d)
      exact go d hgo (.refl _ _) (by simp) (.a1 hr hg' e) hwg hmode (nr (by simp) _) (.inr (.inr ⟨rfl, rfl, by omega⟩))
  | rd hr h e =>
    rcases Goes.cases h with hstop | ⟨m', rfl, hstep⟩
    · refine .inl fun d => ?_
      obtain ⟨_, a', hgo, m₂, hk⟩ := hstop (w.at d) (rlv_at w d)
      exact go d hgo (.refl _ _) (by intro x hx; simp at hx; subst hx; exact .inr (.inr (.inr ⟨rfl, .inl rfl⟩))) (.kes hr hk e) hwg hmode (by simp) (.inr (.inl ⟨rfl, by omega⟩))
    · refine .inl fun d => ?_
      obtain ⟨a', w', es, hgo, ⟨rfl, rfl⟩, hg'⟩ := hstep (w.at d) (rlv_at w d)
      exact go d hgo (.refl _ _) (by simp) (.rd hr hg' e) hwg hmode (nr (by simp) _) (.inr (.inr ⟨rfl, rfl, by omega⟩))
  | kes hr h e =>
    rcases Goes.cases h with hstop | ⟨m', rfl, hstep⟩
    · refine .inl fun d => ?_
      obtain ⟨_, a', hgo, m₂, hk⟩ := hstop (w.at d) (rlv_at w d)
      exact go d hgo (.refl _ _) (bkx bk_en) (.bk hr hk e) hwg (hmode.reopen trivial trivial rfl (by simp)) (by simp) (.inl (by simp only [phi]; omega))
    · refine .inl fun d => ?_
      obtain ⟨a', w', es, hgo, ⟨rfl, rfl⟩, hg'⟩ := hstep (w.at d) (rlv_at w d)
      exact go d hgo (.refl _ _) (by simp) (.kes hr hg' e) hwg hmode (nr (by simp) _) (.inr (.inr ⟨rfl, rfl, by omega⟩))
  | bk hr h e =>
    rename_i r gb
    rcases Goes.cases h with hstop | ⟨m', rfl, hstep⟩
    · -- back at the caller: it walks again
      refine .inr (.inl (.inl ⟨_, .go r, _, wk, upd c 0 (gb, h0), _, ?_, fun k => ?_, V, hv, g, dd, q, D, .sp r 2, 0, 0, st, sm, ⟨I.crew, ?_, fun m hm => by rw [upd_ne _ _ (by omega : m + 1 ≠ 0)]; exact I.work m hm, I.rel, hwg, hmode, by simp⟩, rfl, rfl⟩))
      · simp only [rank]; omega
      · cases k with
        | zero => intro S hS; rw [upd_same]; cases hS; exact e _ (.refl _)
        | succ k => rw [upd_ne _ _ (by omega : k + 1 ≠ 0)]; exact hR (k + 1)
      · rw [upd_same, hd, hh]
        have := (hstop w (rlv_refl w)).1
        rw [hg]; exact .wk2 (key := (gb, h0)) hr this (.refl _)
    · refine .inl fun d => ?_
      obtain ⟨a', w', es, hgo, ⟨rfl, rfl⟩, hg'⟩ := hstep (w.at d) (rlv_at w d)
      exact go d hgo (.refl _ _) (by simp) (.bk hr hg' e) hwg hmode (nr (by simp) _) (.inr (.inr ⟨rfl, rfl, by omega⟩))
  | kd e h =>
    rcases Goes.cases h with hstop | ⟨m', rfl, hstep⟩
    · refine .inl fun d => ?_
      obtain ⟨_, a', hgo, m₂, hk⟩ := hstop (w.at d) (rlv_at w d)
      exact go d hgo (.refl _ _) (bkx bk_dis) (.anch e hk) hwg (hmode.reopen trivial trivial rfl (by simp)) (by simp) (.inl (by simp only [phi]; omega))
    · refine .inl fun d => ?_
      obtain ⟨a', w', es, hgo, ⟨rfl, rfl⟩, hg'⟩ := hstep (w.at d) (rlv_at w d)
      exact go d hgo (.refl _ _) (by simp) (.kd e hg') hwg hmode (nr (by simp) _) (.inr (.inr ⟨rfl, rfl, by omega⟩))
  | anch e h =>
    rename_i gb An
    rcases Goes.cases h with hstop | ⟨m', rfl, hstep⟩
    · -- at the loop's head: the round begins
      obtain ⟨m₂, hk⟩ := e.2.1 _ w (hstop w (rlv_refl w))
      refine .inr (.inl (.inl ⟨_, .none, _, wk, c, _, ?_, hR, V, hv, g, dd, q, D, .w1, 0, _, st, sm, ⟨I.crew, by rw [hd, hc, hh, hg]; exact .w1 e hk, I.work, I.rel, hwg, hmode.reopen trivial trivial rfl (by simp), by simp⟩, rfl, rfl⟩))
      simp only [rank, phi]; omega
    · refine .inl fun d => ?_
      obtain ⟨a', w', es, hgo, ⟨rfl, rfl⟩, hg'⟩ := hstep (w.at d) (rlv_at w d)
      exact go d hgo (.refl _ _) (by simp) (.anch e hg') hwg hmode (nr (by simp) _) (.inr (.inr ⟨rfl, rfl, by omega⟩))
  | w1 e h =>
    rcases Goes.cases h with hstop | ⟨m', rfl, hstep⟩
    · refine .inl fun d => ?_
      obtain ⟨_, hall⟩ := hstop (w.at d) (rlv_at w d)
      obtain ⟨ho, rfl, rfl, _⟩ := hmode.open_inv trivial
      have hwg' : WgAt s.ty s.Wg (w.at d) (((Vc 2 D + pend .w1 : Nat) : Int) * KK) 0 := hwg
      obtain ⟨a', hgo, h0', hne⟩ := hall (Vc 2 D) (by omega) (by simpa [pend] using hwg')
      by_cases hv : Vc 2 D = 0
      · obtain ⟨m₂, hk⟩ := h0' hv
        refine go d hgo (.refl _ _) (bkx bk_rd) (.ke e.2.2 hk) hwg ?_ (by simp) (.inl (by simp only [phi]; omega))
        have e : ((Vc 2 D + pend .w1 : Nat) : Int) * KK = 0 := by rw [hv]; simp [pend]
        rw [e]
        exact .fin trivial (allQuit_of ho hv)
      · obtain ⟨m₂, hk⟩ := hne hv
        exact go d hgo (.refl _ _) (bkx bk_rd) (.w2 e hk) hwg (hmode.reopen trivial trivial rfl (fun vs e => by cases e; omega)) (by simp) (.inl (by simp only [phi]; omega))
    · refine .inl fun d => ?_
      obtain ⟨a', w', es, hgo, ⟨rfl, rfl⟩, hg'⟩ := hstep (w.at d) (rlv_at w d)
      exact go d hgo (.refl _ _) (by simp) (.w1 e hg') hwg hmode (nr (by simp) _) (.inr (.inr ⟨rfl, rfl, by omega⟩))
  | w2 e h =>
    rename_i vs gb An
    rcases Goes.cases h with hstop | ⟨m', rfl, hstep⟩
    · refine .inl fun d => ?_
      obtain ⟨_, hall⟩ := hstop (w.at d) (rlv_at w d)
      obtain ⟨ho, rfl, rfl, hw2⟩ := hmode.open_inv trivial
      obtain ⟨hle, h1⟩ := hw2 vs rfl
      have hwg' : WgAt s.ty s.Wg (w.at d) (((Vc 2 D + pend (.w2 vs) : Nat) : Int) * KK) 0 := hwg
      obtain ⟨hhit, hmiss⟩ := hall (Vc 2 D) (by omega) (by simpa [pend] using hwg')
      by_cases ev : Vc 2 D = vs
      · obtain ⟨a', hgo, m₂, hk⟩ := hhit ev
        exact go d hgo (aside_setCell _ (stA s.Wg) _) (bkx bk_rw) (.wr e.2.2 hk) (hwg'.setSt _) (.reg trivial ho (by omega)) (by simp) (.inl (by simp only [phi]; omega))
      · obtain ⟨a', hgo, m₂, hk⟩ := hmiss ev
        exact go d hgo (.refl _ _) (bkx bk_rd) (.anch e hk) hwg (hmode.reopen trivial trivial rfl (by simp)) (by simp) (.inl (by simp only [phi]; omega))
    · refine .inl fun d => ?_
      obtain ⟨a', w', es, hgo, ⟨rfl, rfl⟩, hg'⟩ := hstep (w.at d) (rlv_at w d)
      exact go d hgo (.refl _ _) (by simp) (.w2 e hg') hwg hmode (nr (by simp) _) (.inr (.inr ⟨rfl, rfl, by omega⟩))
  | wr e h =>
    rcases Goes.cases h with hstop | ⟨m', rfl, hstep⟩
    · refine .inl fun d => ?_
      obtain ⟨_, a', hgo, m₂, hk⟩ := hstop (w.at d) (rlv_at w d)
      exact go d hgo (.refl _ _) (by intro x hx; simp at hx; subst hx; exact .inr (.inr (.inr ⟨rfl, .inr rfl⟩))) (.w3 e hk) hwg hmode (by simp) (.inr (.inl ⟨rfl, by omega⟩))
    · refine .inl fun d => ?_
      obtain ⟨a', w', es, hgo, ⟨rfl, rfl⟩, hg'⟩ := hstep (w.at d) (rlv_at w d)
      exact go d hgo (.refl _ _) (by simp) (.wr e hg') hwg hmode (nr (by simp) _) (.inr (.inr ⟨rfl, rfl, by omega⟩))
  | w3 e h =>
    rcases Goes.cases h with hstop | ⟨m', rfl, hstep⟩
    · refine .inl fun d => ?_
      obtain ⟨_, hoff, hblk, htake⟩ := hstop (w.at d) (rlv_at w d)
      cases hmode with
      | opn h1 _ _ => exact h1.elim
      | reg h1 h2 h3 => exact go d (hblk ⟨_, hwg⟩) (.refl _ _) (by simp) (.blk e fun w₁ h₁ => hstop w₁ (rlv_trans _ _ _ (rlv_at w d) h₁)) hwg (.reg trivial h2 h3) (by simp) (.inr (.inr ⟨rfl, rfl, by omega⟩))
      | last L h1 h2 h3 h4 => exact go d (hblk ⟨_, hwg⟩) (.refl _ _) (by simp) (.blk e fun w₁ h₁ => hstop w₁ (rlv_trans _ _ _ (rlv_at w d) h₁)) hwg (.last L trivial h2 h3 h4) (by simp) (.inr (.inr ⟨rfl, rfl, by omega⟩))
      | sema h2 =>
        obtain ⟨a', hgo, m₂, hk⟩ := htake hwg
        have hwg' : WgAt s.ty s.Wg (w.at d) 0 1 := hwg
        exact go d hgo (aside_setCell _ (smA s.Wg) _) (bkx bk_sem) (.w4 e hk) (hwg'.setSm 0) (.fin trivial h2) (by simp) (.inl (by simp only [phi]; omega))
      | fin h1 _ => exact h1.elim
    · refine .inl fun d => ?_
      obtain ⟨a', w', es, hgo, ⟨rfl, rfl⟩, hg'⟩ := hstep (w.at d) (rlv_at w d)
      exact go d hgo (.refl _ _) (by simp) (.w3 e hg') hwg hmode (nr (by simp) _) (.inr (.inr ⟨rfl, rfl, by omega⟩))
  | blk e h => simp at hrun
  | w4 e h =>
    rcases Goes.cases h with hstop | ⟨m', rfl, hstep⟩
    · refine .inl fun d => ?_
      obtain ⟨_, hx⟩ := hstop (w.at d) (rlv_at w d)
      obtain ⟨hq, rfl, rfl⟩ := hmode.fin_inv trivial
      obtain ⟨a', hgo, m₂, hk⟩ := hx hwg
      exact go d hgo (.refl _ _) (bkx bk_rd) (.ke e hk) hwg (.fin trivial hq) (by simp) (.inl (by simp only [phi]; omega))
    · refine .inl fun d => ?_
      obtain ⟨a', w', es, hgo, ⟨rfl, rfl⟩, hg'⟩ := hstep (w.at d) (rlv_at w d)
      exact go d hgo (.refl _ _) (by simp) (.w4 e hg') hwg hmode (nr (by simp) _) (.inr (.inr ⟨rfl, rfl, by omega⟩))
  | ke e h =>
    rcases Goes.cases h with hstop | ⟨m', rfl, hstep⟩
    · refine .inl fun d => ?_
      obtain ⟨_, a', hgo, m₂, hk⟩ := hstop (w.at d) (rlv_at w d)
      obtain ⟨hq, rfl, rfl⟩ := hmode.fin_inv trivial
      exact go d hgo (.refl _ _) (bkx bk_en) (.acq e hk) hwg (.fin trivial hq) (by simp) (.inl (by simp only [phi]; omega))
    · refine .inl fun d => ?_
      obtain ⟨a', w', es, hgo, ⟨rfl, rfl⟩, hg'⟩ := hstep (w.at d) (rlv_at w d)
      exact go d hgo (.refl _ _) (by simp) (.ke e hg') hwg hmode (nr (by simp) _) (.inr (.inr ⟨rfl, rfl, by omega⟩))
  | acq e h =>
    rcases Goes.cases h with hstop | ⟨m', rfl, hstep⟩
    · refine .inl fun d => ?_
      obtain ⟨_, a', hgo, m₂, hk⟩ := hstop (w.at d) (rlv_at w d)
      obtain ⟨hq, rfl, rfl⟩ := hmode.fin_inv trivial
      refine go d hgo (.refl _ _) (by intro x hx; simp at hx; subst hx; exact .inr (.inl rfl)) (.ret e hk) hwg (.fin trivial hq) (fun _ fn pos => ?_) (.inl (by simp only [phi]; omega))
      have e1 : MemOp.ofEvents 0 fn pos #[mk (.acquire (stA s.Wg))] = #[{ g := 0, fn := fn, pos := pos, act := .mark (.acquire (stA s.Wg)) }] := by rw [ofEvents_eq]; simp [ofEvent_mk]
      have hy : (t ++ #[({ g := 0, fn := fn, pos := pos, act := .mark (.acquire (stA s.Wg)) } : MemOp)])[t.size]? = some { g := 0, fn := fn, pos := pos, act := .mark (.acquire (stA s.Wg)) } := by simp
      have hdeaf : Deaf t 0 = 0 := (I.crew.deaf 0 (Nat.zero_le _)).trans hd
      refine ⟨t.size, by rw [e1, act?_of hy], by rw [e1]; simp [Trace.g?], by rw [e1]; exact ⟨0, by simp [Trace.g?], by rw [deaf_old (Nat.le_refl _)]; exact hdeaf⟩, fun i hi => ?_⟩
      obtain ⟨r, hr0, hr⟩ := I.rel i hi (by rw [hq i hi]; omega)
      exact ⟨r, hr0, hr.appOther ops_g (by have := I.crew.pos; omega), lt_of_act? hr.act⟩
    · refine .inl fun d => ?_
      obtain ⟨a', w', es, hgo, ⟨rfl, rfl⟩, hg'⟩ := hstep (w.at d) (rlv_at w d)
      exact go d hgo (.refl _ _) (by simp) (.acq e hg') hwg hmode (nr (by simp) _) (.inr (.inr ⟨rfl, rfl, by omega⟩))
  | ret e h =>
    rcases Goes.cases h with hstop | ⟨m', rfl, hstep⟩
    · exact .inr (.inr ⟨rfl, rfl, by rw [(hstop w (rlv_refl w)).1]; exact e⟩)
    · refine .inl fun d => ?_
      obtain ⟨a', w', es, hgo, ⟨rfl, rfl⟩, hg'⟩ := hstep (w.at d) (rlv_at w d)
      refine go d hgo (.refl _ _) (by simp) (.ret e hg') hwg hmode (fun _ fn pos => (I.acq rfl).app fun k r hk hr => hr.appOther ops_g (by have := I.crew.pos; omega)) (.inr (.inr ⟨rfl, rfl, by omega⟩))
end
end Go.X
namespace Go.X
open Go.Conc
open Go.ConcN (RelBy WD CTag Vc Ssum Fsum phi cnt pend sumTo upd sumTo_upd upd_ne upd_same WgLive isW3 isFin isOpen OpenSt AllQuit bk_dis bk_en bk_rd bk_rw bk_sem bk_cell Vc_upd Vc_le others_uncounted le_sumTo allQuit_of sumTo_upd_out)
open Go.ConcR (KK wgBlock WgAt stA smA rd wr mk DC0 Bk bk_of_mute ofEvent_loc_mark ofEvent_mk)

section
variable {P : Program} {s : Site} {Ψ : Nat → Heap → Prop} {Kon : Goroutine → Prop} {w0 : Wk0} {j : Nat} {wk : Nat → Bool} {c : Nat → Goroutine × Heap} {V : Nat → Vw} {hv : Nat → Heap} {g : Nat → Goroutine} {dd q : Nat → Nat} {D : Nat → WD}
  {tag : CTag} {fl f0 : Nat} {st sm : Int} {gs : Array Goroutine} {w w' : World} {t : Trace} {M μ : Nat} {sl : Option (Nat × Nat)}

set_option maxHeartbeats 1600000 in
theorem work_lib (hSW : ¬ s.S s.Wg) (hΨ : ∀ k h h', Keep h h' → Ψ k h → Ψ k h') (hkon : ∀ gb, Kon gb → gb.status = .running) (hR : ∀ k, RK (stf P s Ψ Kon w0 j wk) P k (c k)) (I : InvAt P s Ψ Kon w0 j wk c V hv g dd q D tag fl f0 st sm gs w t)
    {k : Nat} (hk : k < j) (hwk : wk k = false) (hrun : (g (k + 1)).status = .running) : MainGo P s Ψ Kon (rank tag fl j wk D) (fuel s.p f0 j D q) w0 j wk c gs w t (s.p + k) (g (k + 1)) := by
  intro d
  have hp := I.crew.pos
  have ep : (s.p + k == 0) = false := by simp; omega
  have hs := I.work k hk
  have hmode := I.mode
  have hwg : WgAt s.ty s.Wg (w.at d) st sm := I.wg
  have hb := I.main.le.2.2
  have hVj := Vc_le j D
  have hdk : Deaf t (s.p + k) = dd (k + 1) := I.crew.deaf (k + 1) (by omega)
  generalize hst : (D k).stage = sg at hs
  generalize hfu : (D k).fuel = m at hs
  generalize hde : dd (k + 1) = de at hs hdk
  rw [hwk] at hs
  have hs0 := hs
  rw [ep]
  -- A STEP OF THE LIBRARY's BOOKKEEPING
  have bookG : ∀ {g' : Goroutine} {w' : World} {es : Array Event} {s' m' dd' : Nat} {st' sm' : Int}, stepG P false (g (k + 1)) (w.at d) = .go g' w' es → Aside s.Wg (w.at d) w' → WgAt s.ty s.Wg w' st' sm' → (∀ e ∈ es, Bk s.Wg e) →
      (∀ jx e, es[jx]? = some e → (MemAct.ofEvent e).touch? = none ∨ 0 < deafBehind de (es.extract 0 jx)) → WSx P s (Ψ k) (c (k + 1)) s' false m' dd' g' (hv (k + 1)) w' → deafBehind de es = dd' → sg ≤ 6 →
      (∀ tag', (tag' = tag ∨ (tag = .blk ∧ tag' = .w3)) → (mayWake P (g (k + 1)) = true → g'.status = .running → tag' ≠ .blk) → Go.ConcN.Mode j (upd D k ⟨s', m', 0⟩) tag' st' sm') → (tag = .ret → ∀ fn pos, AcqAt s.Wg s.n₀ s.p j (t ++ MemOp.ofEvents (s.p + k) fn pos es)) → ((s' < sg ∧ cnt ⟨s', m', 0⟩ ≤ cnt (D k)) ∨ (s' = sg ∧ m' + 1 = m)) →
      ∃ a' w' es, stepG P false (g (k + 1)) (w.at d) = .go a' w' es ∧ Quiet (.of s.S) (w.at d) w' ∧ ∀ fn pos, Lower P s Ψ Kon (rank tag fl j wk D) (fuel s.p f0 j D q) w0 j wk c ((gs.map (woken P (g (k + 1)) a' w')).setIfInBounds (s.p + k) a') w' (t ++ MemOp.ofEvents (s.p + k) fn pos es) := by
    intro g' w' es s' m' dd' st' sm' hgo hAs hwg' hbk hd hs' hdd h6 hmode' hacq' hlt
    refine ⟨g', w', es, hgo, aside_quiet hSW hAs, fun fn pos => ?_⟩
    exact work_book hΨ hkon hR (I.draw hΨ d) hk hwk hAs (bkx hbk) hs' (by rw [hde]; exact hdd)
      (fun _ => let ⟨r, hr0, hr⟩ := I.rel k hk (by omega); ⟨r, hr0, hr.book hdk _ _ hbk hd⟩) hwg' hmode' (fun e => hacq' e fn pos) (by rw [hst, hfu]; exact hlt)
  have book : ∀ {g' : Goroutine} {w' : World} {es : Array Event} {s' m' dd' : Nat} {st' sm' : Int}, stepG P false (g (k + 1)) (w.at d) = .go g' w' es → Aside s.Wg (w.at d) w' → WgAt s.ty s.Wg w' st' sm' → (∀ e ∈ es, Bk s.Wg e) →
      (∀ jx e, es[jx]? = some e → (MemAct.ofEvent e).touch? = none ∨ 0 < deafBehind de (es.extract 0 jx)) → WSx P s (Ψ k) (c (k + 1)) s' false m' dd' g' (hv (k + 1)) w' → deafBehind de es = dd' → sg ≤ 6 →
      Go.ConcN.Mode j (upd D k ⟨s', m', 0⟩) tag st' sm' → (tag = .ret → ∀ fn pos, AcqAt s.Wg s.n₀ s.p j (t ++ MemOp.ofEvents (s.p + k) fn pos es)) → ((s' < sg ∧ cnt ⟨s', m', 0⟩ ≤ cnt (D k)) ∨ (s' = sg ∧ m' + 1 = m)) →
      ∃ a' w' es, stepG P false (g (k + 1)) (w.at d) = .go a' w' es ∧ Quiet (.of s.S) (w.at d) w' ∧ ∀ fn pos, Lower P s Ψ Kon (rank tag fl j wk D) (fuel s.p f0 j D q) w0 j wk c ((gs.map (woken P (g (k + 1)) a' w')).setIfInBounds (s.p + k) a') w' (t ++ MemOp.ofEvents (s.p + k) fn pos es) :=
    fun hgo hAs hwg' hbk hd hs' hdd h6 hmode' hacq' hlt => bookG hgo hAs hwg' hbk hd hs' hdd h6 (fun _ ht _ => hmode'.retag ht) hacq' hlt
  have same : ∀ m', Go.ConcN.Mode j (upd D k ⟨sg, m', 0⟩) tag st sm := fun m' => by have := hmode.same (i := k) m' 0; rwa [hst] at this
  have nr : sg ≠ 1 → tag ≠ .ret := fun h => hmode.not_ret hk (by omega)
  -- AN IDLE STEP BEHIND THE RELEASE
  have idle : ∀ {g' : Goroutine} {m' : Nat}, stepG P false (g (k + 1)) (w.at d) = .go g' (w.at d) #[] → WSx P s (Ψ k) (c (k + 1)) sg false m' de g' (hv (k + 1)) (w.at d) → m' + 1 = m → sg ≤ 6 → sg ≠ 1 →
      ∃ a' w' es, stepG P false (g (k + 1)) (w.at d) = .go a' w' es ∧ Quiet (.of s.S) (w.at d) w' ∧ ∀ fn pos, Lower P s Ψ Kon (rank tag fl j wk D) (fuel s.p f0 j D q) w0 j wk c ((gs.map (woken P (g (k + 1)) a' w')).setIfInBounds (s.p + k) a') w' (t ++ MemOp.ofEvents (s.p + k) fn pos es) := by
    intro g' m' hgo hs' hm h6 h1
    exact book hgo (.refl _ _) hwg (by simp) (by simp) hs' rfl h6 (same m') (fun e => absurd e (nr h1)) (.inr ⟨rfl, hm⟩)
  cases hs with
  | r0 hφ h =>
    rcases Goes.cases h with hstop | ⟨m', rfl, hstep⟩
    · obtain ⟨_, g', hgo, m₂, hk2⟩ := hstop (w.at d) (rlv_at w d)
      refine ⟨g', _, _, hgo, .refl _, fun fn pos => work_book hΨ hkon hR (I.draw hΨ d) hk hwk (.refl _ _) (by intro e he; simp at he; subst he; exact .inr (.inr (.inl rfl))) (.k1 hφ hk2) (by rw [hde]; rfl) (fun _ => ⟨t.size, I.crew.ti.size, RelBy.new hdk _ _⟩) hwg
        (fun _ ht _ => (hmode.counted hk (by omega) (.inl rfl) _ _).retag ht) (fun e => absurd e (nr (by omega))) (.inl ⟨by omega, by simp [cnt, hst]⟩)⟩
    · obtain ⟨g', w', es, hgo, ⟨rfl, rfl⟩, hg'⟩ := hstep (w.at d) (rlv_at w d)
      refine ⟨g', _, _, hgo, .refl _, fun fn pos => work_book hΨ hkon hR (I.draw hΨ d) hk hwk (.refl _ _) (by simp) (.r0 hφ hg') (by rw [hde]; rfl) (fun h => by omega) hwg (fun _ ht _ => Go.ConcN.Mode.retag (same m') ht) (fun e => absurd e (nr (by omega))) (.inr ⟨hst.symm, by omega⟩)⟩
  | k1 hφ h =>
    rcases Goes.cases h with hstop | ⟨m', rfl, hstep⟩
    · obtain ⟨_, g', hgo, m₂, hk2⟩ := hstop (w.at d) (rlv_at w d)
      exact book hgo (.refl _ _) hwg bk_dis (by intro jx e he; exact .inl (by have := Array.mem_of_getElem? he; simp at this; subst this; rfl)) (.d1 hφ hk2) rfl (by omega)
        (hmode.counted hk (by omega) (.inr rfl) _ _) (fun e => absurd e (nr (by omega))) (.inl ⟨by omega, by simp [cnt, hst]⟩)
    · obtain ⟨g', w', es, hgo, ⟨rfl, rfl⟩, hg'⟩ := hstep (w.at d) (rlv_at w d)
      exact idle hgo (.k1 hφ hg') rfl (by omega) (by omega)
  | d1 hφ h =>
    rcases Goes.cases h with hstop | ⟨m', rfl, hstep⟩
    · obtain ⟨_, hall⟩ := hstop (w.at d) (rlv_at w d)
      have hc1 : cnt (D k) = 1 := by simp [cnt, hst]
      have hV1 : 1 ≤ Vc j D := by have := le_sumTo (f := fun x => cnt (D x)) hk; simp only [Vc]; omega
      have df2 : ∀ jx e, (#[rd (stA s.Wg), wr (stA s.Wg)] : Array Event)[jx]? = some e → (MemAct.ofEvent e).touch? = none ∨ 0 < deafBehind 1 ((#[rd (stA s.Wg), wr (stA s.Wg)] : Array Event).extract 0 jx) := by
        intro jx e he
        match jx, he with
        | 0, _ => exact .inr (by simp [deafBehind])
        | 1, _ => exact .inr (by simp [deafBehind, rd])
        | jx + 2, he => simp at he
      have hq0 : ∀ q, cnt (⟨1, q, 0⟩ : WD) = 0 := fun _ => rfl
      have opq : ∀ q, OpenSt j D → OpenSt j (upd D k ⟨1, q, 0⟩) := fun q h a ha => by
        by_cases e : a = k
        · subst e; rw [upd_same]; simp
        · rw [upd_ne D _ e]; exact h a ha
      cases hmode with
      | opn h1 h2 h3 =>
        obtain ⟨v, hv'⟩ : ∃ v, Vc j D + pend tag = v + 1 := ⟨Vc j D + pend tag - 1, by omega⟩
        rw [hv'] at hwg
        have hw1 : WgAt s.ty s.Wg (w.at d) (((v : Nat) + 1) * KK + ((0 : Nat) : Int)) 0 := by simpa using hwg
        obtain ⟨g', hgo, _, hq⟩ := hall v 0 (by omega) (by omega) hw1
        obtain ⟨q, hq⟩ := hq (by omega)
        have hv2 : Vc j (upd D k ⟨1, q, 0⟩) + pend tag = v := by have := Vc_upd D (⟨1, q, 0⟩ : WD) hk; have := hq0 q; omega
        refine book hgo (aside_setCell _ (stA s.Wg) _) (hwg.setSt _) bk_rw df2 (.quit hφ hq) rfl (by omega) ?_ (fun e => absurd e (nr (by omega))) (.inl ⟨by omega, by simp [cnt]⟩)
        have e : ((v : Nat) : Int) * KK + ((0 : Nat) : Int) = ((Vc j (upd D k ⟨1, q, 0⟩) + pend tag : Nat) : Int) * KK := by rw [hv2]; simp
        rw [e]
        exact .opn h1 (opq q h2) (fun vs ev => by have := h3 vs ev; omega)
      | reg h1 h2 h3 =>
        obtain ⟨v, hv'⟩ : ∃ v, Vc j D = v + 1 := ⟨Vc j D - 1, by omega⟩
        rw [hv'] at hwg
        have hw1 : WgAt s.ty s.Wg (w.at d) (((v : Nat) + 1) * KK + ((1 : Nat) : Int)) 0 := by simpa using hwg
        obtain ⟨g', hgo, hl, hq⟩ := hall v 1 (by omega) (by omega) hw1
        by_cases hv0 : v = 0
        · subst hv0
          obtain ⟨m₂, hk2⟩ := hl ⟨rfl, rfl⟩
          refine book hgo (aside_setCell _ (stA s.Wg) _) (hwg.setSt _) bk_rw df2 (.d2 hφ hk2) rfl (by omega) ?_ (fun e => absurd e (nr (by omega))) (.inl ⟨by omega, by simp [cnt]⟩)
          have hoth : ∀ a, a < j → a ≠ k → (D a).stage = 1 := fun a ha e => by
            have c0 := others_uncounted hk hv' hc1 a ha e
            have := h2 a ha
            simp only [cnt] at c0
            split at c0 <;> omega
          have := Go.ConcN.Mode.last (j := j) (D := upd D k ⟨4, m₂, 0⟩) (tag := tag) k h1 hk (by rw [upd_same]; simp) (fun a ha e => by rw [upd_ne D _ e]; exact hoth a ha e)
          rw [upd_same] at this
          simpa using this
        · obtain ⟨q, hq⟩ := hq (by omega)
          have hv2 : Vc j (upd D k ⟨1, q, 0⟩) = v := by have := Vc_upd D (⟨1, q, 0⟩ : WD) hk; have := hq0 q; omega
          refine book hgo (aside_setCell _ (stA s.Wg) _) (hwg.setSt _) bk_rw df2 (.quit hφ hq) rfl (by omega) ?_ (fun e => absurd e (nr (by omega))) (.inl ⟨by omega, by simp [cnt]⟩)
          have e : ((v : Nat) : Int) * KK + ((1 : Nat) : Int) = ((Vc j (upd D k ⟨1, q, 0⟩) : Nat) : Int) * KK + 1 := by rw [hv2]; simp
          rw [e]
          exact .reg h1 (opq q h2) (by omega)
      | last L _ h2 h3 h4 =>
        by_cases e : k = L
        · subst e; omega
        · have := h4 k hk e; omega
      | sema h2 => have := h2 k hk; omega
      | fin _ h2 => have := h2 k hk; omega
    · obtain ⟨g', w', es, hgo, ⟨rfl, rfl⟩, hg'⟩ := hstep (w.at d) (rlv_at w d)
      exact idle hgo (.d1 hφ hg') rfl (by omega) (by omega)
  | d2 hφ h =>
    rcases Goes.cases h with hstop | ⟨m', rfl, hstep⟩
    · obtain ⟨_, hx⟩ := hstop (w.at d) (rlv_at w d)
      obtain ⟨hW3, hoth, rfl, rfl⟩ := hmode.isLast hk (by omega)
      simp only [hst] at hwg
      have hwg1 : WgAt s.ty s.Wg (w.at d) 1 0 := by simpa using hwg
      obtain ⟨g', hgo, m₂, hk2⟩ := hx hwg1
      refine book hgo (.refl _ _) hwg1 bk_rd (by intro jx e he; match jx, he with | 0, _ => exact .inr (by simp [deafBehind]) | jx + 1, he => simp at he) (.d3 hφ hk2) rfl (by omega) ?_ (fun e => absurd e (nr (by omega))) (.inl ⟨by omega, by simp [cnt]⟩)
      have := Go.ConcN.Mode.last (j := j) (D := upd D k ⟨3, m₂, 0⟩) (tag := tag) k hW3 hk (by rw [upd_same]; simp) (fun a ha e => by rw [upd_ne D _ e]; exact hoth a ha e)
      rw [upd_same] at this
      simpa using this
    · obtain ⟨g', w', es, hgo, ⟨rfl, rfl⟩, hg'⟩ := hstep (w.at d) (rlv_at w d)
      exact idle hgo (.d2 hφ hg') rfl (by omega) (by omega)
  | d3 hφ h =>
    rcases Goes.cases h with hstop | ⟨m', rfl, hstep⟩
    · obtain ⟨_, hx⟩ := hstop (w.at d) (rlv_at w d)
      obtain ⟨hW3, hoth, rfl, rfl⟩ := hmode.isLast hk (by omega)
      simp only [hst] at hwg
      have hwg1 : WgAt s.ty s.Wg (w.at d) 1 0 := by simpa using hwg
      obtain ⟨g', hgo, m₂, hk2⟩ := hx hwg1
      refine book hgo (aside_setCell _ (stA s.Wg) _) (hwg1.setSt 0) (by intro e he; simp at he; subst he; exact bk_cell _ _ rfl) (by intro jx e he; match jx, he with | 0, _ => exact .inr (by simp [deafBehind]) | jx + 1, he => simp at he) (.d4 hφ hk2) rfl (by omega) ?_ (fun e => absurd e (nr (by omega))) (.inl ⟨by omega, by simp [cnt]⟩)
      have := Go.ConcN.Mode.last (j := j) (D := upd D k ⟨2, m₂, 0⟩) (tag := tag) k hW3 hk (by rw [upd_same]; simp) (fun a ha e => by rw [upd_ne D _ e]; exact hoth a ha e)
      rw [upd_same] at this
      simpa using this
    · obtain ⟨g', w', es, hgo, ⟨rfl, rfl⟩, hg'⟩ := hstep (w.at d) (rlv_at w d)
      exact idle hgo (.d3 hφ hg') rfl (by omega) (by omega)
  | d4 hφ h =>
    rcases Goes.cases h with hstop | ⟨m', rfl, hstep⟩
    · obtain ⟨_, hmw, hx⟩ := hstop (w.at d) (rlv_at w d)
      obtain ⟨hW3, hoth, rfl, rfl⟩ := hmode.isLast hk (by omega)
      simp only [hst] at hwg
      have hwg1 : WgAt s.ty s.Wg (w.at d) 0 0 := by simpa using hwg
      obtain ⟨g', hgo, q, hq⟩ := hx hwg1
      have hrun' : g'.status = .running := by
        cases q with
        | zero => exact absurd hq.2 (by decide)
        | succ q => exact hq.elim (fun x => absurd x.2 (by decide)) (fun x => x.1)
      refine bookG hgo (aside_setCell _ (smA s.Wg) _) (hwg1.setSm 1) (es := semEvents (smA s.Wg)) bk_sem ?_ (.quit hφ hq) (by simp [deafBehind, semEvents]) (by omega) ?_ (fun e => absurd e (nr (by omega))) (.inl ⟨by omega, by simp [cnt]⟩)
      · intro jx e he
        match jx, he with
        | 0, he => simp [semEvents] at he; subst he; exact .inl rfl
        | 1, _ => exact .inr (by simp [deafBehind, semEvents])
        | 2, _ => exact .inr (by simp [deafBehind, semEvents])
        | 3, he => simp [semEvents] at he; subst he; exact .inl rfl
        | jx + 4, he => simp [semEvents] at he
      · intro tag' ht hw
        have hnb := hw hmw hrun'
        have e3 : tag' = .w3 := by
          rcases ht with rfl | ⟨_, rfl⟩
          · cases tag' <;> first | rfl | exact hW3.elim | exact absurd rfl hnb
          · rfl
        subst e3
        exact .sema fun a ha => by
          by_cases e : a = k
          · subst e; rw [upd_same]
          · rw [upd_ne D _ e]; exact hoth a ha e
    · obtain ⟨g', w', es, hgo, ⟨rfl, rfl⟩, hg'⟩ := hstep (w.at d) (rlv_at w d)
      exact idle hgo (.d4 hφ hg') rfl (by omega) (by omega)
  | quit hφ h =>
    cases m with
    | zero => rw [h.1] at hrun; cases hrun
    | succ q =>
      rcases h with ⟨hf, _⟩ | ⟨_, g', es, hmute, hstep, hq⟩
      · rw [hf] at hrun; cases hrun
      · have hbk : ∀ e ∈ es, Bk s.Wg e := fun e he => bk_of_mute (hmute e he)
        have hno : ∀ jx e, es[jx]? = some e → (MemAct.ofEvent e).touch? = none ∨ 0 < deafBehind de (es.extract 0 jx) := fun jx e he => .inl (touch_mute (hmute e (Array.mem_of_getElem? he)))
        refine book (hstep (w.at d)) (.refl _ _) hwg hbk hno (.quit hφ hq) rfl (by omega) (same q) (fun e fn pos => (I.acq e).app fun i' r hi' hr => ?_) (.inr ⟨rfl, rfl⟩)
        by_cases e' : i' = k
        · subst e'; exact hr.book hdk _ _ hbk hno
        · exact hr.appOther ops_g (by omega)

/-- A LEAVER's. -/
theorem slip_low (hΨ : ∀ k h h', Keep h h' → Ψ k h → Ψ k h') (hkon : ∀ gb, Kon gb → gb.status = .running) (hR : ∀ k, RK (stf P s Ψ Kon w0 j wk) P k (c k)) (I : InvAt P s Ψ Kon w0 j wk c V hv g dd q D tag fl f0 st sm gs w t)
    {i : Nat} (hi : 0 < i) (hip : i < s.p) {a : Goroutine} (ha : gs[i]? = some a) (hrun : a.status = .running) : MainGo P s Ψ Kon (rank tag fl j wk D) (fuel s.p f0 j D q) w0 j wk c gs w t i a := by
  intro d
  have hq := I.crew.lv i a hi hip ha
  have ep : (i == 0) = false := by simp; omega
  rw [ep]
  cases hqi : q i with
  | zero => rw [hqi] at hq; rw [hq.1] at hrun; cases hrun
  | succ n =>
    rw [hqi] at hq
    rcases hq with ⟨hf, _⟩ | ⟨_, a', es, hm, hstp, hq'⟩
    · rw [hf] at hrun; cases hrun
    refine ⟨a', w.at d, es, hstp _, .refl _, fun fn pos => ?_⟩
    have C' := (I.crew.draw d).slip hi hip (a := a) (fn := fn) (pos := pos) hm hq'
    have Id := I.draw hΨ d
    obtain ⟨tag', f', hm', hf', htag, _⟩ := Id.main.wokenBy Id.live hkon (rk_main hR) (rlv_refl _) (.refl _) a a'
    have hsum : sumTo s.p (upd q i n) + (n + 1) = sumTo s.p q + n := by
      have := sumTo_upd q n id hip
      simpa [hqi] using this
    refine .inr ⟨_, ?_, V, hv, _, dd, _, D, tag', fl, f', st, sm, ⟨C', hm', fun k hk => ?_, fun k hk hst => ?_, I.wg, I.mode.retag htag, fun e => ?_⟩, by simp only [rank]; rw [Go.ConcN.phi_retag 2 _ htag], rfl⟩
    · simp only [fuel]; omega
    · rw [(Id.work k hk).woken Id.live (rk_work hR hk)]
      exact Id.work k hk
    · obtain ⟨r, hr0, hr⟩ := I.rel k hk hst
      exact ⟨r, hr0, hr.appOther ops_g (by omega)⟩
    · rcases htag with rfl | ⟨_, rfl⟩
      · exact (I.acq e).app fun k r hk hr => hr.appOther ops_g (by omega)
      · cases e
end
end Go.X
namespace Go.X
open Go.Conc
open Go.ConcN (RelBy WD CTag Vc Ssum Fsum phi cnt pend sumTo upd sumTo_upd upd_ne upd_same WgLive isW3 isFin isOpen OpenSt AllQuit sumTo_upd_out)
open Go.ConcR (KK wgBlock WgAt stA smA rd wr mk DC0 Bk)

section
variable {P : Program} {s : Site} {Ψ : Nat → Heap → Prop} {Kon : Goroutine → Prop} {w0 : Wk0} {j : Nat} {wk : Nat → Bool} {c : Nat → Goroutine × Heap} {V : Nat → Vw} {hv : Nat → Heap} {g : Nat → Goroutine} {dd q : Nat → Nat} {D : Nat → WD}
  {tag : CTag} {fl f0 : Nat} {st sm : Int} {gs : Array Goroutine} {w w' : World} {t : Trace} {M μ : Nat} {sl : Option (Nat × Nat)}

theorem MSx.newkey {key : Goroutine × Heap} {f d : Nat} {g a' : Goroutine} {h h' : Heap} (hw : w0 ≠ .none) (x : MSx P s Ψ Kon key tag w0 fl j f d g h w) : MSx P s Ψ Kon (a', h') tag w0 fl j f d a' h' w' := by
  cases x <;> first | exact absurd rfl hw | skip
  · rename_i a _ _; exact .wk5 a rfl (.refl _)
  · rename_i a _ _; exact .wk2 a rfl (.refl _)
  · exact .wkW rfl (.refl _)

theorem WSx.newkey {Φ : Heap → Prop} {key : Goroutine × Heap} {n m d : Nat} {g a' : Goroutine} {h h' : Heap} (x : WSx P s Φ key n true m d g h w) : WSx P s Φ (a', h') n true m d a' h' w' := by
  cases x with
  | walk a c => exact .walk rfl (.refl _)

theorem WSx.seven {Φ : Heap → Prop} {key : Goroutine × Heap} {n m d : Nat} {g : Goroutine} {h : Heap} (x : WSx P s Φ key n true m d g h w) : n = 7 := by cases x; rfl

/-- A WALKER's OWN STEP. -/
theorem own_good (hΨ : ∀ k h h', Keep h h' → Ψ k h → Ψ k h') (hkon : ∀ gb, Kon gb → gb.status = .running) (hR : ∀ k, RK (stf P s Ψ Kon w0 j wk) P k (c k)) (I : InvAt P s Ψ Kon w0 j wk c V hv g dd q D tag fl f0 st sm gs w t)
    {k : Nat} (hk : k ≤ j) (h0 : k = 0 → w0 ≠ .none) (h1 : ∀ m, k = m + 1 → wk m = true) {a' : Goroutine} {h' : Heap} {fn : FuncId} {pos : String} {es : Array Event}
    (hV : Veil (V k) h' w'.heap) (hq : Quiet (V k) w w') (hes : ∀ e ∈ es, EvX (V k) w'.heap.size e) :
    ∃ μ', Good' P s Ψ Kon (rank tag fl j wk D) w0 j wk (upd c k (a', h')) μ' ((gs.map (woken P (g k) a' w')).setIfInBounds (gn s.p k) a') w' (t ++ MemOp.ofEvents (gn s.p k) fn pos es) := by
  have C' := I.crew.own hk (a' := a') (fn := fn) (pos := pos) hV hq hes
  have hwg' : WgAt s.ty s.Wg w' st sm := (hq.stand s.Wg I.lt (.inl (I.crew.wgd k hk))).trans I.wg
  have hRL : RLv s.ty s.Wg w w' := fun _ => ⟨_, _, hwg'⟩
  have hp := I.crew.pos
  have hmain : ∃ tag' f', MSx P s Ψ Kon (upd c k (a', h') 0) tag' w0 fl j f' (dd 0) (wok P (g k) a' w' k g 0) ((fun m => if m = k then h' else padH w'.heap.size (hv m)) 0) w' ∧ (tag' = tag ∨ (tag = .blk ∧ tag' = .w3)) := by
    by_cases e : k = 0
    · subst e
      refine ⟨tag, f0, ?_, .inl rfl⟩
      unfold wok
      rw [upd_same, upd_same]
      simp only [if_true]
      exact I.main.newkey (h0 rfl)
    · obtain ⟨tag', f', hm', _, htag, _⟩ := I.main.wokenBy I.live hkon (rk_main hR) hRL (padH_keep (n := w'.heap.size)) (g k) a'
      refine ⟨tag', f', ?_, htag⟩
      have e' : ¬ (0 = k) := fun x => e x.symm
      unfold wok
      rw [upd_ne _ _ e', upd_ne _ _ e']
      simp only [if_neg e']
      exact hm'
  obtain ⟨tag', f', hm', htag⟩ := hmain
  refine ⟨_, _, _, _, _, _, D, tag', fl, f', st, sm, ⟨C', hm', fun m hm => ?_, fun m hm hst => ?_, hwg', I.mode.retag htag, fun e => ?_⟩, by simp only [rank]; rw [Go.ConcN.phi_retag 2 _ htag], rfl⟩
  · by_cases e : m + 1 = k
    · subst e
      have hx := I.work m hm
      rw [h1 m rfl] at hx ⊢
      unfold wok
      rw [upd_same, upd_same]
      simp only [if_true]
      exact hx.newkey
    · unfold wok
      rw [upd_ne _ _ e, upd_ne _ _ e]
      simp only [if_neg e]
      rw [(I.work m hm).woken I.live (rk_work hR hm)]
      exact (I.work m hm).rely (hΨ m) hRL padH_keep
  · have hne : gn s.p k ≠ s.p + m := by
      intro e
      have e2 : k = m + 1 := gn_inj hp e
      subst e2
      have hx := I.work m hm
      rw [h1 m rfl] at hx
      have := hx.seven
      omega
    obtain ⟨r, hr0, hr⟩ := I.rel m hm hst
    exact ⟨r, hr0, hr.appOther ops_g hne⟩
  · rcases htag with rfl | ⟨_, rfl⟩
    · refine (I.acq e).app fun m r hm hr => hr.appOther ops_g fun e2 => ?_
      have e3 : k = m + 1 := gn_inj hp e2
      subst e3
      have hx := I.work m hm
      rw [h1 m rfl] at hx
      have h7 : (D m).stage = 7 := hx.seven
      subst e
      exact absurd rfl (I.mode.not_ret hm (by omega))
    · cases e

/-- THE go STATEMENT. -/
theorem spawn_good (I : InvAt P s Ψ Kon w0 j wk c V hv g dd q D tag fl f0 st sm gs w t) (hR : ∀ k, RK (stf P s Ψ Kon w0 j wk) P k (c k)) {r : Nat} (hw0 : w0 = .go r)
    {g' child : Goroutine} {X Z : List Nat} (hX : ∀ b ∈ X, Exc (hv 0) b) (hZ : ∀ b ∈ Z, Exc (hv 0) b) (hc : Reach P (.own false) child (cutV Z X (hv 0)) (WDone P s (Ψ (1 - r)))) (hn : Scr P s Ψ Kon r g' (cutV X Z (hv 0)))
    {fn fn' : FuncId} {pos pos' : String} :
    ∃ M' w0' j' wk' c' μ', M' < rank tag fl j wk D ∧ (∀ k, RK (stf P s Ψ Kon w0' j' wk') P k (c' k)) ∧ Good' P s Ψ Kon M' w0' j' wk' c' μ' ((gs.setIfInBounds 0 g').push child) w (t ++ #[{ g := 0, fn := fn, pos := pos, act := .go (s.p + j) }, { g := s.p + j, fn := fn', pos := pos', act := .start }]) := by
  subst hw0
  have hm := I.main
  have hp := I.crew.pos
  generalize hd : dd 0 = d0 at hm
  generalize hg : g 0 = g0 at hm
  generalize hk0 : c 0 = c0 at hm
  generalize hh : hv 0 = hh0 at hm
  cases hm with
  | wk2 hr _ _ =>
    rw [← hh] at *
    have C' := I.crew.fork hX hZ hd (a' := g') (child := child) (x := { g := 0, fn := fn, pos := pos, act := .go (s.p + (1 - r)) }) (y := { g := s.p + (1 - r), fn := fn', pos := pos', act := .start }) ⟨rfl, rfl⟩ ⟨rfl, rfl⟩
    obtain ⟨ho, hst, hsm, _⟩ := I.mode.open_inv trivial
    have hVj := Go.ConcN.Vc_le (1 - r) D
    have eV : Vc (1 - r + 1) (upd D (1 - r) ⟨7, 0, 0⟩) = Vc (1 - r) D + 1 := by
      simp only [Vc, sumTo, upd_same]
      rw [sumTo_upd_out D _ cnt (Nat.le_refl _)]; rfl
    have eS : Ssum (1 - r + 1) (upd D (1 - r) ⟨7, 0, 0⟩) = Ssum (1 - r) D + 7 := by
      simp only [Ssum, sumTo, upd_same]
      rw [sumTo_upd_out D _ WD.stage (Nat.le_refl _)]
    have ho' : OpenSt (1 - r + 1) (upd D (1 - r) ⟨7, 0, 0⟩) := fun i hi => by
      by_cases e : i = 1 - r
      · subst e; rw [upd_same]; simp
      · rw [upd_ne D _ e]; exact ho i (by omega)
    have est : ∀ tag', pend tag' = 0 → ((Vc (1 - r) D + pend (.sp r 2) : Nat) : Int) * KK = ((Vc (1 - r + 1) (upd D (1 - r) ⟨7, 0, 0⟩) + pend tag' : Nat) : Int) * KK := fun tag' hp => by rw [eV, hp]; simp [pend]
    have hwl := walks_le (1 - r + 1) (upd wk (1 - r) true)
    have hmode : ∀ tag', pend tag' = 0 → isOpen tag' → (∀ vs, tag' ≠ .w2 vs) → Go.ConcN.Mode (1 - r + 1) (upd D (1 - r) ⟨7, 0, 0⟩) tag' st sm := fun tag' h1 h2 h3 => by
      rw [hst, hsm, est tag' h1]
      exact .opn h2 ho' fun vs e => absurd e (h3 vs)
    -- the keys of now
    have keys : ∀ (w0' : Wk0), (∀ S, stop0 P s Ψ Kon w0' = some S → Reach P (.own true) g' (cutV X Z (hv 0)) S) → ∀ k, RK (stf P s Ψ Kon w0' (1 - r + 1) (upd wk (1 - r) true)) P k (upd (upd c 0 (g', cutV X Z (hv 0))) (1 - r + 1) (child, cutV Z X (hv 0)) k) := by
      intro w0' h k S hS
      cases k with
      | zero => rw [upd_ne _ _ (by omega : 0 ≠ 1 - r + 1), upd_same]; exact h S hS
      | succ k =>
        by_cases e : k = 1 - r
        · subst e
          rw [upd_same]
          simp [stf, upd_same] at hS
          subst hS
          exact hc
        · rw [upd_ne _ _ (by omega : k + 1 ≠ 1 - r + 1), upd_ne _ _ (by omega : k + 1 ≠ 0)]
          refine hR (k + 1) S ?_
          simp only [stf, upd_ne _ _ e] at hS ⊢
          split at hS
          · rename_i hh
            rw [if_pos ⟨by omega, hh.2⟩]; exact hS
          · cases hS
    -- all stands
    have hN : ∀ (tag' : CTag) (w0' : Wk0) (fl' : Nat), pend tag' = 0 → isOpen tag' → (∀ vs, tag' ≠ .w2 vs) → tag' ≠ .ret → MSx P s Ψ Kon (g', cutV X Z (hv 0)) tag' w0' fl' (1 - r + 1) 0 0 g' (cutV X Z (hv 0)) w →
        InvAt P s Ψ Kon w0' (1 - r + 1) (upd wk (1 - r) true) (upd (upd c 0 (g', cutV X Z (hv 0))) (1 - r + 1) (child, cutV Z X (hv 0)))
          (fun m => if m = 0 then cutW X Z (hv 0) (V 0) else if m = 1 - r + 1 then cutW Z X (hv 0) (V 0) else V m) (fun m => if m = 0 then cutV X Z (hv 0) else if m = 1 - r + 1 then cutV Z X (hv 0) else hv m)
          (fun m => if m = 0 then g' else if m = 1 - r + 1 then child else g m) (fun m => if m = 1 - r + 1 then 0 else dd m) q (upd D (1 - r) ⟨7, 0, 0⟩) tag' fl' 0 st sm ((gs.setIfInBounds 0 g').push child) w (t ++ #[{ g := 0, fn := fn, pos := pos, act := .go (s.p + (1 - r)) }, { g := s.p + (1 - r), fn := fn', pos := pos', act := .start }]) := by
      intro tag' w0' fl' h1 h2 h3 h4 hm'
      have ne1 : ¬ (0 = 1 - r + 1) := by omega
      refine ⟨C', ?_, fun m hm => ?_, fun m hm hs => ?_, I.wg, hmode tag' h1 h2 h3, fun e => absurd e h4⟩
      · rw [upd_ne _ _ ne1, upd_same]
        simp only [if_true, if_neg ne1]
        rw [hd]; exact hm'
      · have ne2 : ¬ (m + 1 = 0) := by omega
        by_cases e : m = 1 - r
        · subst e
          rw [upd_same, upd_same, upd_same]
          simp only [if_neg ne2, if_true]
          exact .walk rfl (.refl _)
        · have ne3 : ¬ (m + 1 = 1 - r + 1) := by omega
          rw [upd_ne _ _ e, upd_ne _ _ ne3, upd_ne _ _ ne2, upd_ne _ _ e]
          simp only [if_neg ne2, if_neg ne3]
          exact I.work m (by omega)
      · by_cases e : m = 1 - r
        · subst e; rw [upd_same] at hs; simp at hs
        · rw [upd_ne _ _ e] at hs
          obtain ⟨r', hr0, hr'⟩ := I.rel m (by omega) hs
          refine ⟨r', hr0, hr'.appNot fun op hop => ?_⟩
          simp only [List.mem_toArray, List.mem_cons, List.not_mem_nil, or_false] at hop
          rcases hop with rfl | rfl
          · simp only; omega
          · simp only; omega
    rcases (by omega : r = 0 ∨ r = 1) with rfl | rfl
    · exact ⟨_, .wait, _, _, _, _, by simp only [rank, phi]; omega, keys .wait fun S hS => by cases hS; exact hn, _, _, _, _, _, _, _, _, _, _, _, hN .kd .wait 1 rfl trivial (by simp) (by simp) (.wkW rfl (.refl _)), rfl, rfl⟩
    · exact ⟨_, .add 0, _, _, _, _, by simp only [rank, phi]; omega, keys (.add 0) fun S hS => by cases hS; exact hn, _, _, _, _, _, _, _, _, _, _, _, hN (.sp 0 5) (.add 0) 1 rfl trivial (by simp) (by simp) (.wk5 (by omega) rfl (.refl _)), rfl, rfl⟩

open Classical in
/-- THE END. -/
theorem last_fin (hS0 : ∀ b, s.S b → s.h₀[b]? = some nil0) (I : InvAt P s Ψ Kon w0 2 wk c V hv g dd q D .ret fl f0 st sm gs w t) (hk : Kon (g 0)) (sl : Option (Nat × Nat)) : Fin P s Ψ Kon gs w sl t := by
  have C := I.crew
  have hp := C.pos
  obtain ⟨hq, rfl, rfl⟩ := I.mode.fin_inv trivial
  have hd0 : dd 0 = 0 := by
    have hm := I.main
    generalize dd 0 = d at hm
    cases hm; rfl
  have hw : ∀ k, k < 2 → Ψ k (hv (k + 1)) ∧ ∃ n, QuitsD P n (dd (k + 1)) (g (k + 1)) := fun k hk2 => by
    have hx := I.work k hk2
    rw [hq k hk2] at hx
    generalize wk k = b at hx
    generalize (D k).fuel = n at hx
    cases hx with
    | quit a c => exact ⟨a, _, c⟩
  let S' : Nat → Prop := fun b => s.S b ∨ b = s.Wg ∨ (s.h₀.size ≤ b ∧ b < w.heap.size ∧ ∀ k, k < 2 → (V (k + 1)).dead b ∨ (V (k + 1)).still b)
  let he : Heap := w.heap.mapIdx fun b o => if S' b then nil0 else o
  have hesz : he.size = w.heap.size := by simp [he]
  have heg : ∀ b, he[b]? = (w.heap[b]?).map fun o => if S' b then nil0 else o := fun b => by simp [he, Array.getElem?_mapIdx]
  have hS'lt : ∀ b, S' b → b < w.heap.size := fun b hb => by
    rcases hb with h | h | h
    · have := hS0 b h
      exact Nat.lt_of_lt_of_le (Array.getElem?_eq_some_iff.1 this).1 C.h0sz
    · rw [h]; exact I.lt
    · exact h.2.1
  have hV : Veil (.of S') he w.heap := by
    refine ⟨hesz, fun b hb _ => ?_, fun b hb => ?_, fun b hb => hb.elim⟩
    · rw [heg]; cases w.heap[b]? <;> simp [show ¬ S' b from hb]
    · rw [heg, Array.getElem?_eq_getElem (hS'lt b hb)]
      simp [show S' b from hb, nil0]
  have hex : ∀ k, k < 2 → ∀ b, Exc (hv (k + 1)) b → ¬ (V (k + 1)).dead b ∧ ¬ (V (k + 1)).still b ∧ b < w.heap.size := fun k hk2 b hb => by
    have v := C.veil (k + 1) (by omega)
    obtain ⟨h1, h2⟩ := v.exc hb
    obtain ⟨cc, e, hb', _⟩ := hb
    exact ⟨h1, h2, by rw [← v.size]; exact (Array.getElem?_eq_some_iff.1 hb').1⟩
  have hnS : ∀ k, k < 2 → ∀ b, Exc (hv (k + 1)) b → ¬ S' b := fun k hk2 b hb => by
    obtain ⟨h1, h2, _⟩ := hex k hk2 b hb
    rintro (h | h | h)
    · exact h1 (C.sd (k + 1) (by omega) b h)
    · subst h; exact h1 (C.wgd (k + 1) (by omega))
    · exact (h.2.2 k hk2).elim h1 h2
  refine ⟨0, S', gs, w, sl, t, fun i => if h : s.p ≤ i ∧ i < s.p + 2 then Classical.choose (hw (i - s.p) (by omega)).2 else q i, g 0, he, fun k => hv (k + 1), rfl, ⟨C.at' 0 (by omega), ⟨fun i x hi hx => ?_, C.above⟩, ?_, hV⟩, hk, ⟨?_, fun b hb => ?_, fun k hk2 => ⟨(hw k hk2).1, fun b hb => ⟨?_, fun hlt => ?_⟩⟩, fun b h1 h2 => ?_⟩, .refl _, fun b hb => .inl hb⟩
  · have hlt := (Array.getElem?_eq_some_iff.1 hx).1
    rw [C.size] at hlt
    by_cases hip : s.p ≤ i
    · have hcond : s.p ≤ i ∧ i < s.p + 2 := ⟨hip, hlt⟩
      have hc := Classical.choose_spec (hw (i - s.p) (by omega)).2
      simp only [dif_pos hcond]
      have e1 : gn s.p (i - s.p + 1) = i := by simp only [gn]; omega
      have hg := C.at' (i - s.p + 1) (by omega)
      rw [e1, hx] at hg
      cases hg
      have hdf := C.deaf (i - s.p + 1) (by omega)
      rw [e1] at hdf
      rw [hdf]; exact hc
    · simp only [dif_neg (fun h : s.p ≤ i ∧ i < s.p + 2 => hip h.1)]
      exact C.lv i x hi (by omega) hx
  · exact C.ti.finish (I.acq rfl) ((C.deaf 0 (by omega)).trans hd0) fun b hb => hb.elim .inl fun h => .inr (.inl h)
  · rw [hesz]; exact C.h0sz
  · by_cases hSb : s.S b
    · rw [hS0 b hSb]
      exact hV.shun b (show S' b from .inl hSb)
    · have : ¬ S' b := by
        rintro (h | h | h)
        · exact hSb h
        · exact hb.2.1 h
        · exact absurd h.1 (by have := hb.1; omega)
      exact (hV.same b this (fun h => h)).trans (C.old b hb hSb)
  · obtain ⟨h1, h2, _⟩ := hex k hk2 b hb
    exact (hV.same b (hnS k hk2 b hb) (fun h => h)).trans ((C.veil (k + 1) (by omega)).same b h1 h2).symm
  · obtain ⟨h1, h2, _⟩ := hex k hk2 b hb
    refine Classical.byContradiction fun hz => ?_
    have hne : b ≠ s.Wg := fun e => h1 (e ▸ C.wgd (k + 1) (by omega))
    exact (C.oldV (k + 1) (by omega) b ⟨hlt, hne, hz⟩).elim h1 h2
  · obtain ⟨a1, a2, a3⟩ := hex 0 (by omega) b h1
    obtain ⟨b1, b2, _⟩ := hex 1 (by omega) b h2
    exact a2 (C.dis 1 2 (by omega) (by omega) (by omega) b a3 a1 b1).1
end
end Go.X
namespace Go.X
open Go.Conc
open Go.ConcN (RelBy WD CTag Vc Ssum Fsum phi cnt pend sumTo upd sumTo_upd upd_ne upd_same WgLive exists_counted)
open Go.ConcR (KK wgBlock WgAt stA smA rd wr mk DC0 Bk)

section
variable {P : Program} {s : Site} {Ψ : Nat → Heap → Prop} {Kon : Goroutine → Prop} {w0 : Wk0} {j : Nat} {wk : Nat → Bool} {c : Nat → Goroutine × Heap} {V : Nat → Vw} {hv : Nat → Heap} {g : Nat → Goroutine} {dd q : Nat → Nat} {D : Nat → WD}
  {tag : CTag} {fl f0 : Nat} {st sm : Int} {gs : Array Goroutine} {w w' : World} {t : Trace} {M μ : Nat} {sl : Option (Nat × Nat)}

theorem MSx.key {key : Goroutine × Heap} {f d : Nat} {g : Goroutine} {h : Heap} (hw : w0 ≠ .none) (x : MSx P s Ψ Kon key tag w0 fl j f d g h w) : g = key.1 ∧ Keep key.2 h := by
  cases x <;> first | exact absurd rfl hw | exact ⟨‹_›, ‹_›⟩
theorem WSx.key {Φ : Heap → Prop} {key : Goroutine × Heap} {n m d : Nat} {g : Goroutine} {h : Heap} (x : WSx P s Φ key n true m d g h w) : g = key.1 ∧ Keep key.2 h ∧ m = 0 ∧ d = 0 := by
  cases x with
  | walk a b => exact ⟨a, b, rfl, rfl⟩

theorem stf_le {k : Nat} {S : Goroutine → Heap → Prop} (h : stf P s Ψ Kon w0 j wk k = some S) : k ≤ j := by
  cases k with
  | zero => exact Nat.zero_le _
  | succ k =>
    simp only [stf] at h
    split at h
    · rename_i hh; exact hh.1
    · cases h

/-- A worker that has done its work goes into the library. -/
theorem into_done (hΨ : ∀ k h h', Keep h h' → Ψ k h → Ψ k h') (hR : ∀ k, RK (stf P s Ψ Kon w0 j wk) P k (c k)) (I : InvAt P s Ψ Kon w0 j wk c V hv g dd q D tag fl f0 st sm gs w t)
    {k : Nat} (hk : k < j) (hwk : wk k = true) (hd : WDone P s (Ψ k) (c (k + 1)).1 (c (k + 1)).2) : Lower P s Ψ Kon (rank tag fl j wk D) (fuel s.p f0 j D q) w0 j wk c gs w t := by
  have hx := I.work k hk
  rw [hwk] at hx
  have h7 := hx.seven
  obtain ⟨e1, e2, e3, e4⟩ := hx.key
  have hd' := hd.stay (hΨ k) e2
  obtain ⟨m, hm⟩ := hd'.1 w I.live
  have hwalk : walks j (upd wk k false) + 1 = walks j wk := by
    have := sumTo_upd wk false (fun b => if b then 1 else 0) hk
    simp only [walks]
    simp only [hwk] at this
    simpa using this
  have hst : ∀ a, a < j → (upd D k ⟨(D k).stage, m, 0⟩ a).stage = (D a).stage := fun a _ => by
    by_cases e : a = k
    · subst e; rw [upd_same]
    · rw [upd_ne _ _ e]
  have eV : Vc j (upd D k ⟨(D k).stage, m, 0⟩) = Vc j D := Go.ConcN.sumTo_congr fun a ha => by simp only [cnt, hst a ha]
  have eS : Ssum j (upd D k ⟨(D k).stage, m, 0⟩) = Ssum j D := Go.ConcN.sumTo_congr fun a ha => hst a ha
  refine .inl ⟨_, w0, j, upd wk k false, c, _, ?_, fun n S hS => ?_, V, hv, g, dd, q, upd D k ⟨(D k).stage, m, 0⟩, tag, fl, f0, st, sm, ⟨I.crew, I.main, fun n hn => ?_, fun n hn hs => ?_, I.wg, I.mode.same m 0, I.acq⟩, rfl, rfl⟩
  · simp only [rank]; rw [eV, eS]; omega
  · cases n with
    | zero => exact hR 0 S hS
    | succ n =>
      by_cases e : n = k
      · subst e; simp [stf, upd_same] at hS
      · refine hR (n + 1) S ?_
        simp only [stf, upd_ne _ _ e] at hS ⊢
        exact hS
  · by_cases e : n = k
    · subst e
      rw [upd_same, upd_same]
      simp only
      rw [h7, e4, e1]
      exact .r0 hd'.2 hm
    · rw [upd_ne _ _ e, upd_ne _ _ e]
      exact I.work n hn
  · rw [hst n hn] at hs
    exact I.rel n hn hs

/-- The starter comes to the library. -/
theorem into_lib (hR : ∀ k, RK (stf P s Ψ Kon w0 j wk) P k (c k)) (I : InvAt P s Ψ Kon w0 j wk c V hv g dd q D tag fl f0 st sm gs w t)
    (hs : ∀ S, stop0 P s Ψ Kon w0 = some S → S (c 0).1 (c 0).2) (hw : w0 ≠ .none) (hg : ∀ r, w0 ≠ .go r) : Lower P s Ψ Kon (rank tag fl j wk D) (fuel s.p f0 j D q) w0 j wk c gs w t := by
  have hm := I.main
  have hkey := hm.key hw
  generalize hd : dd 0 = d0 at hm
  generalize hg0 : g 0 = g0 at hm hkey
  generalize hc : c 0 = c0 at hm hkey hs
  generalize hh : hv 0 = h0 at hm hkey
  have hR' : ∀ k, RK (stf P s Ψ Kon .none j wk) P k (c k) := fun k S hS => by
    cases k with
    | zero => cases hS
    | succ k => exact hR (k + 1) S hS
  cases hm <;> first | exact absurd rfl hw | exact absurd rfl (hg _) | skip
  · rename_i r a b e
    obtain ⟨gb, x, y⟩ := hs _ rfl
    obtain ⟨m, hm⟩ := x w I.live
    refine .inl ⟨_, .none, _, wk, c, _, ?_, hR', V, hv, g, dd, q, D, .sp r 5, 0, m, st, sm, ⟨I.crew, ?_, I.work, I.rel, I.wg, I.mode, by simp⟩, rfl, rfl⟩
    · simp only [rank]; omega
    · rw [hd, hg0, hc, hh, hkey.1]; exact .kd5 a hm (y.stay hkey.2)
  · obtain ⟨gb, An, x, y⟩ := hs _ rfl
    obtain ⟨m, hm⟩ := y w I.live
    refine .inl ⟨_, .none, _, wk, c, _, ?_, hR', V, hv, g, dd, q, D, .kd, 0, m, st, sm, ⟨I.crew, ?_, I.work, I.rel, I.wg, I.mode, by simp⟩, rfl, rfl⟩
    · simp only [rank]; omega
    · rw [hd, hg0, hc, hh, hkey.1]; exact .kd x hm

theorem someone (hkon : ∀ gb, Kon gb → gb.status = .running) (hR : ∀ k, RK (stf P s Ψ Kon w0 j wk) P k (c k)) (I : InvAt P s Ψ Kon w0 j wk c V hv g dd q D tag fl f0 st sm gs w t) : ∃ (i : Nat) (x : Goroutine), gs[i]? = some x ∧ x.status = .running := by
  have wrun : ∀ k, k < j → (D k).stage ≠ 1 → ∃ (i : Nat) (x : Goroutine), gs[i]? = some x ∧ x.status = .running := fun k hk h1 =>
    ⟨s.p + k, g (k + 1), I.crew.at' (k + 1) (by omega), ((I.work k hk).status I.live (rk_work hR hk)).elim id fun z => absurd z.2 h1⟩
  have hs := I.main.status I.live hkon (rk_main hR)
  rcases hs with ⟨hs, _⟩ | ⟨_, rfl⟩
  · exact ⟨0, g 0, I.crew.at' 0 (Nat.zero_le _), hs⟩
  · cases I.mode with
    | opn h1 _ _ => exact h1.elim
    | reg _ _ h3 =>
      obtain ⟨k, hk, h5⟩ := exists_counted h3
      exact wrun k hk (by omega)
    | last L _ h2 h3 _ => exact wrun L h2 (by omega)
    | fin h1 _ => exact h1.elim

theorem awake_all (hkon : ∀ gb, Kon gb → gb.status = .running) (hR : ∀ k, RK (stf P s Ψ Kon w0 j wk) P k (c k)) (I : InvAt P s Ψ Kon w0 j wk c V hv g dd q D tag fl f0 st sm gs w t) : ∀ x ∈ gs, awake x := by
  intro x hx
  obtain ⟨i, hi⟩ := Array.mem_iff_getElem?.1 hx
  have hlt := (Array.getElem?_eq_some_iff.1 hi).1
  rw [I.crew.size] at hlt
  rcases Nat.eq_zero_or_pos i with rfl | hpos
  · have := I.crew.at' 0 (Nat.zero_le _)
    rw [show gn s.p 0 = 0 from rfl, hi] at this
    cases this
    exact awake_of ((I.main.status I.live hkon (rk_main hR)).elim (fun z => .inl z.1) fun z => .inr (.inl z.1))
  · rcases Nat.lt_or_ge i s.p with hip | hip
    · exact awake_of ((I.crew.lv i x hpos hip hi).status.elim .inl fun z => .inr (.inr z))
    · have := I.crew.at' (i - s.p + 1) (by omega)
      rw [show gn s.p (i - s.p + 1) = i by simp only [gn]; omega, hi] at this
      cases this
      exact awake_of (((I.work (i - s.p) (by omega)).status I.live (rk_work hR (by omega))).elim .inl fun z => .inr (.inr z.1))

/-- ALL TOGETHER. -/
theorem joint (hSW : ¬ s.S s.Wg) (hΨ : ∀ k h h', Keep h h' → Ψ k h → Ψ k h') (hkon : ∀ gb, Kon gb → gb.status = .running) (hS0 : ∀ b, s.S b → s.h₀[b]? = some nil0) :
    ∀ M w0 j wk c, (∀ k, RK (stf P s Ψ Kon w0 j wk) P k (c k)) → ∀ μ gs w sl t, Good' P s Ψ Kon M w0 j wk c μ gs w t → Fin P s Ψ Kon gs w sl t := by
  intro M
  induction M using Nat.strongRecOn with
  | _ M ihM =>
  intro w0 j wk
  refine nest (n := 3) (J := fun c => ∀ μ gs w sl t, Good' P s Ψ Kon M w0 j wk c μ gs w t → Fin P s Ψ Kon gs w sl t) fun c hR hA => ?_
  intro μ
  induction μ using Nat.strongRecOn with
  | _ μ ihμ =>
  rintro gs w sl t ⟨V, hv, g, dd, q, D, tag, fl, f0, st, sm, I, rfl, rfl⟩
  have low : ∀ gs w sl t, Lower P s Ψ Kon (rank tag fl j wk D) (fuel s.p f0 j D q) w0 j wk c gs w t → Fin P s Ψ Kon gs w sl t := by
    rintro gs w sl t (⟨M', w0', j', wk', c', μ', hlt, hR', hG⟩ | ⟨μ', hlt, hG⟩)
    · exact ihM M' hlt _ _ _ _ hR' _ _ _ _ _ hG
    · exact ihμ μ' hlt _ _ _ _ hG
  have hp := I.crew.pos
  have hj := I.main.le.1
  obtain ⟨i, a, d, sl', hi, ha, hst⟩ := crowd_pick (P := P) (w := w) (sl := sl) (awake_all hkon hR I) (someone hkon hR I)
  have Id := I.draw hΨ d
  -- a step that goes
  have fin : ∀ {a' : Goroutine} {w' : World} {es : Array Event}, stepG P (i == 0) a (w.at d) = .go a' w' es → Quiet (.of s.S) (w.at d) w' → Fin P s Ψ Kon ((gs.map (woken P a a' w')).setIfInBounds i a') w' sl' (t ++ MemOp.ofEvents i a.frame.fn a.frame.place es) → Fin P s Ψ Kon gs w sl t :=
    fun hgo hc x => fin_step (hst.trans (runT_crowd_go (P := P) (sl := sl') (i := i) hi hgo)) ((quiet_at w d).trans hc) x
  -- a walker's own
  have walk : ∀ k S, k < 3 → stf P s Ψ Kon w0 j wk k = some S → (k = 0 → w0 ≠ .none) → (∀ m, k = m + 1 → wk m = true) → g k = (c k).1 ∧ Keep (c k).2 (hv k) → i = gn s.p k → a = g k →
      (Own P (k == 0) (c k).1 (c k).2 fun g h => Reach P (.own (k == 0)) g h S ∧ ∀ c', c' k = (g, h) → (∀ m, m < k → c' m = c m) → (∀ m, RK (stf P s Ψ Kon w0 j wk) P m (c' m)) → ∀ μ gs w sl t, Good' P s Ψ Kon (rank tag fl j wk D) w0 j wk c' μ gs w t → Fin P s Ψ Kon gs w sl t) → Fin P s Ψ Kon gs w sl t := by
    intro k S _ hS h0 h1 hkey hik hak o
    obtain ⟨a', h', w', es, hgo, ⟨hr, hcont⟩, hV', hq, hes⟩ := o.2 (hv k) hkey.2 (V k) (w.at d) (I.crew.veil k (stf_le hS))
    rw [← hkey.1, ← hak] at hgo
    obtain ⟨μ', hG⟩ := own_good hΨ hkon hR Id (stf_le hS) h0 h1 (a' := a') (fn := a.frame.fn) (pos := a.frame.place) hV' hq hes
    rw [← hak, ← hik] at hG
    refine fin (by rw [hik, gn_main hp]; exact hgo) (hq.mono fun b y => .inl (I.crew.sd k (stf_le hS) b (y.elim id fun z => z.elim))) (hcont (upd c k (a', h')) (upd_same _ _ _) (fun m hm => upd_ne _ _ (by omega)) (fun m => ?_) _ _ _ _ _ hG)
    by_cases e : m = k
    · subst e; rw [upd_same]; intro S' hS'; rw [hS] at hS'; cases hS'; exact hr
    · rw [upd_ne _ _ e]; exact hR m
  have hlt := (Array.getElem?_eq_some_iff.1 hi).1
  rw [I.crew.size] at hlt
  rcases Nat.eq_zero_or_pos i with rfl | hpos
  · -- the starter
    have e0 := I.crew.at' 0 (Nat.zero_le _)
    rw [show gn s.p 0 = 0 from rfl, hi] at e0
    obtain rfl : a = g 0 := Option.some.inj e0
    by_cases hw : w0 = .none
    · subst hw
      rcases main_lib hSW hΨ hR I ha rfl with hgo | hl | ⟨rfl, rfl, hk⟩
      · obtain ⟨a', w', es, h1, h2, h3⟩ := hgo d
        exact fin h1 h2 (low _ _ _ _ (h3 _ _))
      · exact low _ _ _ _ hl
      · exact last_fin hS0 I hk sl
    · have hkey := I.main.key hw
      have hS : ∃ S, stop0 P s Ψ Kon w0 = some S := by cases w0 <;> first | exact absurd rfl hw | exact ⟨_, rfl⟩
      obtain ⟨S, hS⟩ := hS
      rcases hA 0 (by omega) S hS with hstop | o
      · by_cases hg : ∃ r, w0 = .go r
        · obtain ⟨r, rfl⟩ := hg
          cases hS
          obtain ⟨_, g', child, X, Z, hsp, hX, hZ, hnext⟩ := AtGoX.stay hstop hkey.2
          obtain ⟨hn1, hn2⟩ := hnext _ (.refl _)
          obtain ⟨M', w0', j', wk', c', μ', hlt', hR', hG⟩ := spawn_good (fn := (g 0).frame.fn) (fn' := child.frame.fn) (pos := (g 0).frame.place) (pos' := (g 0).frame.place) Id hR rfl hX hZ hn1 hn2
          have hrun := runT_crowd_spawn (P := P) (sl := sl') (i := 0) (es := #[]) hi (show stepG P (0 == 0) (g 0) (w.at d) = .spawn g' child (w.at d) #[] by rw [hkey.1]; exact hsp _)
          rw [I.crew.size] at hrun
          refine fin_step (hst.trans hrun) (quiet_at w d) ?_
          refine ihM M' hlt' _ _ _ _ hR' μ' _ _ _ _ ?_
          have e : ((MemOp.ofEvents 0 (g 0).frame.fn (g 0).frame.place #[]).push { g := 0, fn := (g 0).frame.fn, pos := (g 0).frame.place, act := .go (s.p + j) }).push { g := s.p + j, fn := child.frame.fn, pos := (g 0).frame.place, act := .start } = #[{ g := 0, fn := (g 0).frame.fn, pos := (g 0).frame.place, act := .go (s.p + j) }, { g := s.p + j, fn := child.frame.fn, pos := (g 0).frame.place, act := .start }] := by
            rw [ofEvents_eq]; simp
          rw [e]; exact hG
        · exact low _ _ _ _ (into_lib hR I (fun S' hS' => by rw [hS] at hS'; cases hS'; exact hstop) hw fun r e => hg ⟨r, e⟩)
      · exact walk 0 S (by omega) hS (fun _ => hw) (fun m e => by omega) hkey rfl rfl o
  · rcases Nat.lt_or_ge i s.p with hip | hip
    · -- a leaver
      obtain ⟨a', w', es, h1, h2, h3⟩ := slip_low hΨ hkon hR I hpos hip hi ha d
      exact fin h1 h2 (low _ _ _ _ (h3 _ _))
    · -- a worker
      obtain ⟨k, rfl⟩ : ∃ k, i = s.p + k := ⟨i - s.p, by omega⟩
      have hk : k < j := by omega
      have e0 := I.crew.at' (k + 1) (by omega)
      rw [show gn s.p (k + 1) = s.p + k from rfl, hi] at e0
      obtain rfl : a = g (k + 1) := Option.some.inj e0
      cases hwk : wk k with
      | false =>
        obtain ⟨a', w', es, h1, h2, h3⟩ := work_lib hSW hΨ hkon hR I hk hwk ha d
        exact fin h1 h2 (low _ _ _ _ (h3 _ _))
      | true =>
        have hS : stf P s Ψ Kon w0 j wk (k + 1) = some (WDone P s (Ψ k)) := by simp [stf, hk, hwk]
        have hx := I.work k hk
        rw [hwk] at hx
        have hkey := hx.key
        rcases hA (k + 1) (by omega) _ hS with hstop | o
        · exact low _ _ _ _ (into_done hΨ hR I hk hwk hstop)
        · exact walk (k + 1) _ (by omega) hS (fun e => by omega) (fun m e => by cases e; exact hwk) ⟨hkey.1, hkey.2.1⟩ rfl rfl o
end
end Go.X
namespace Go.X
open Go.Conc
open Go.ConcN (WD CTag Vc pend upd)
open Go.ConcR (KK wgBlock WgAt)

theorem reach_joint {P : Program} {Ψ : Nat → Heap → Prop} {ge : Goroutine} {Kon : Goroutine → Prop} {h : Heap} {Stop : Goroutine → Heap → Prop} (ty : TypeId) (Wg : Nat) (Z : List Nat)
    (hWg : h[Wg]? = some (wgBlock ty 0 0)) (hZ : ∀ b ∈ Z, Exc h b) (hΨ : ∀ k h h', Keep h h' → Ψ k h → Ψ k h') (hrun : ∀ gb, Kon gb → gb.status = .running)
    (hadd : ∀ S p n₀, AtAddX P ⟨ty, Wg, S, h, Z, p, n₀⟩ Ψ 0 (Scr P ⟨ty, Wg, S, h, Z, p, n₀⟩ Ψ Kon 1) ge (cutV [Wg] Z h))
    (hend : ∀ S p n₀ gb, Kon gb → ∀ hw he, Joined ⟨ty, Wg, S, h, Z, p, n₀⟩ Ψ hw he → Reach P (.main true) gb he Stop) : Reach P (.main true) ge h Stop := by
  intro S gs w sl t q sc
  have hexW : Exc h Wg := ⟨_, _, hWg, by simp⟩
  obtain ⟨hnS, hnT⟩ := sc.veil.exc hexW
  have hwlt : Wg < h.size := (Array.getElem?_eq_some_iff.1 hWg).1
  have hgs := sc.main
  have hpos : 0 < gs.size := (Array.getElem?_eq_some_iff.1 hgs).1
  let s : Site := ⟨ty, Wg, S, h, Z, gs.size, t.size⟩
  obtain ⟨gb, hway, hcont⟩ := hadd S gs.size t.size
  have hwg : WgAt ty Wg w 0 0 := (sc.veil.same Wg hnS hnT).symm.trans hWg
  obtain ⟨m, hm⟩ := hway w ⟨_, _, hwg⟩
  have hdeadW : (cutW [Wg] Z h (.of S)).dead Wg := .inr ⟨hwlt, .inl (by simp)⟩
  have crew : Crew s P 0 (fun _ => cutW [Wg] Z h (.of S)) (fun _ => cutV [Wg] Z h) (fun _ => ge) (fun _ => 0) q gs w t := by
    refine ⟨hpos, rfl, fun k hk => ?_, fun i x hi _ hx => sc.leav.old i x hi hx, sc.leav.above, fun k _ => sc.veil.cut hZ, fun k _ b hb => cutW_apart hb, fun k m hk hm hkm => by omega, fun _ _ => hdeadW, fun b hb hS => (sc.veil.same b hS (fun h => h)).symm, fun k _ b hb => ?_,
      fun _ _ b hb => .inl hb, by rw [← sc.veil.size]; exact Nat.le_refl _, ?_, fun k hk => ?_⟩
    · obtain rfl : k = 0 := by omega
      exact hgs
    · by_cases hd : (cutW [Wg] Z h (.of S)).dead b
      · exact .inl hd
      · exact .inr (cutW_vis hb.1 hd hb.2.2)
    · exact TI.start sc.past hnS fun b hb hS => hb (.inl hS)
    · obtain rfl : k = 0 := by omega
      exact sc.past.hears
  have hG : Good' P s Ψ Kon (rank (.sp 1 5) 0 0 (fun _ => false) fun _ => ⟨0, 0, 0⟩) .none 0 (fun _ => false) (fun _ => (ge, h)) (fuel gs.size m 0 (fun _ => ⟨0, 0, 0⟩) q) gs w t := by
    refine ⟨_, _, _, _, _, fun _ => ⟨0, 0, 0⟩, .sp 1 5, 0, m, 0, 0, ⟨crew, .kd5 (by omega) hm hcont, fun k hk => by omega, fun k hk => by omega, hwg, ?_, by simp⟩, rfl, rfl⟩
    have := Go.ConcN.Mode.opn (j := 0) (D := fun _ => (⟨0, 0, 0⟩ : WD)) (tag := .sp 1 5) trivial (fun i hi => by omega) (fun vs e => by cases e)
    simpa [Vc, pend, Go.ConcN.sumTo] using this
  obtain ⟨N, S', gs', w', sl', t', q', gb', he, hw, h1, h2, h3, h4, h5, h6⟩ := joint (s := s) hnS hΨ hrun (fun b hb => sc.veil.shun b hb) _ _ _ _ _ (fun k S hS => by
    cases k with
    | zero => cases hS
    | succ k => simp [stf] at hS) _ gs w sl t hG
  obtain ⟨N2, S2, gs2, w2, sl2, t2, q2, g2, h2', a2, b2, c2, d2, e2, f2⟩ := hend S gs.size t.size gb' h3 hw he h4 S' gs' w' sl' t' q' h2
  exact ⟨N + N2, S2, gs2, w2, sl2, t2, q2, g2, h2', by rw [runNT_add, h1]; exact a2, b2, c2, h5.trans (d2.of h6), (fun z => by cases z), fun b hb => f2 b (h6 b hb)⟩
end Go.X
