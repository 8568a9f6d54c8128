/-
  CisternsRun, for every input: the law returns true and leaves its arguments as they were. No condition.
-/
import Derived.Test.YtbmkacnlhlbnjaaC3x
import Derived.Test.YtbmkacnlhlbnjaaC4
import Derived.Test.YtbmkacnlhlbnjaaRows
import Derived.Test.YtbmkacnlhlbnjaaC6
import Derived.Test.YtbmkacnlhlbnjaaC2
import Derived.Test.YtbmkacnlhlbnjaaC5
namespace Go.Proofs.Ytbmkacnlhlbnjaa
open Go.X Go.X.Cist Go.Conc Go.RowKit Go.ChangeShapes Go.WideShapes Go.ChangeAt Go.Joins

set_option maxRecDepth 100000

theorem pOwn : ownKnob Try.prog.godebug = none := by kernel_rfl
theorem pLaid : laidOutB Try.prog = true := by kernel_rfl
theorem pC3 : Try.prog.cellsOf 3 = 1 := by kernel_rfl
theorem pC24 : Try.prog.cellsOf 24 = 3 := by kernel_rfl
theorem pC36 : Try.prog.cellsOf 36 = 2 := by kernel_rfl
theorem pC38 : Try.prog.cellsOf 38 = 3 := by kernel_rfl

section
variable {H : Type} {enc : TypeId × Value → H} {W : World}
theorem trod_day {m : Nat} {cs : List Value} {y : DataW H × List MemPlace} (h : DataW.trod enc Try.prog W 0 (fun _ => true) true m 38 cs = some y) : ∃ d : Day, cs = d.cells := by
  obtain ⟨y0, y1, n, _, hl, h0, h1⟩ := trod_struct2 Try.underlying38 h
  obtain ⟨z0, z1, n', _, hl', h2, h3⟩ := trod_struct2 Try.underlying36 h0
  rw [pC38] at hl
  obtain ⟨a, ha⟩ := trod_i64 Try.underlying3 h2
  obtain ⟨b, hb⟩ := trod_i64 Try.underlying3 h3
  obtain ⟨c, hc⟩ := trod_i64 Try.underlying3 h1
  match cs, hl with
  | [u, v, w], _ =>
    refine ⟨⟨a, b, c⟩, ?_⟩
    simp [pC36, pC3] at ha hb hc
    simp [Day.cells, ha, hb, hc]
theorem open_days {fuel : Nat} {v : Value} {y : DataW H × List MemPlace} (h : DataW.trod enc Try.prog W 0 (fun _ => true) true fuel 22 [v] = some y) : ∃ a n c ds, v = .slice a n c ∧ Days (vwP W) a n ds := by
  obtain ⟨a, n, c, E, rfl, hQ, s⟩ := open_sl Try.underlying22 pC38 (Q := fun cs => ∃ d : Day, cs = d.cells) (fun m cs y h => trod_day h) h
  obtain ⟨z, hz⟩ := Go.Deep.choose_lt hQ
  refine ⟨a, n, c, (List.range n).map z, rfl, ?_⟩
  have : (List.range n).map E = dcs ((List.range n).map z) := by
    unfold dcs
    rw [List.map_map]
    exact List.map_congr_left fun i hi => hz i (List.mem_range.1 hi)
  unfold Days
  rw [← this]; exact s
theorem open_year {base : Nat} {v : Value} {d : DataW H} {p : List MemPlace} (hv : Value.okWide Try.prog W .any base 24 v) (h : DataW.Trod enc Try.prog W 0 (fun _ => true) true 24 v d p) :
    ∃ size start a n c ds, v = .agg #[.int .i64 size, .int .i64 start, .slice a n c] ∧ Days (vwP W) a n ds := by
  obtain ⟨v0, v1, v2, y0, y1, y2, n, rfl, _, _, h0, h1, h2⟩ := open_agg3 Try.underlying24 (by kernel_rfl) pC24 hv h
  obtain ⟨size, e0⟩ := trod_i64 Try.underlying3 h0
  obtain ⟨start, e1⟩ := trod_i64 Try.underlying3 h1
  obtain ⟨a, n, c, ds, rfl, D⟩ := open_days h2
  obtain rfl : v0 = _ := by simpa using e0
  obtain rfl : v1 = _ := by simpa using e1
  exact ⟨size, start, a, n, c, ds, rfl, D⟩
theorem open_list {base : Nat} {v : Value} {d : DataW H} {p : List MemPlace} (hv : Value.okWide Try.prog W .any base 25 v) (h : DataW.Trod enc Try.prog W 0 (fun _ => true) true 25 v d p) : ∃ a n c xs, v = .slice a n c ∧ Ints (vwP W) a n xs := by
  obtain ⟨a, n, c, rfl⟩ := okWide_slice Try.underlying25 hv
  obtain ⟨fuel, hf⟩ := h
  exact open_intsX Try.underlying25 Try.underlying3 pC3 hf
end
end Go.Proofs.Ytbmkacnlhlbnjaa
namespace Go.X.Cist
open Go.X Go.Proofs.Ytbmkacnlhlbnjaa

theorem sumTo_congr {f g : Nat → Int} : ∀ {k : Nat}, (∀ i, i < k → f i = g i) → sumTo f k = sumTo g k
  | 0, _ => rfl
  | k + 1, h => by simp only [sumTo]; rw [sumTo_congr fun i hi => h i (by omega), h k (by omega)]
theorem sumTo_le {f g : Nat → Int} : ∀ {k : Nat}, (∀ i, i < k → f i ≤ g i) → sumTo f k ≤ sumTo g k
  | 0, _ => Int.le_refl _
  | k + 1, h => by
    have h1 := sumTo_le (k := k) (f := f) (g := g) fun i hi => h i (by omega)
    have h2 := h k (by omega)
    simp only [sumTo]; omega
section
variable {size start : Int} {ds : List Day} {xs ys : List Int}
/-! ### more rain -/
/-! ### nothing is lost -/
end
end Go.X.Cist
namespace Go.X.Cist
open Go.X Go.Proofs.Ytbmkacnlhlbnjaa

section
variable {size start size' start' : Int} {want want' rain rain' : Nat → Int} {ds ds' : List Day}

theorem lev_congr : ∀ k, (∀ i, i < k → want i = want' i) → (∀ i, i < k → rain i = rain' i) → lev size start want rain k = lev size start want' rain' k
  | 0, _, _ => rfl
  | k + 1, hw, hr => by
    have h1 := lev_congr k (fun i hi => hw i (by omega)) fun i hi => hr i (by omega)
    simp only [lev]; rw [h1, hw k (by omega), hr k (by omega)]

/-! ### what lasts -/
/-- The number of a day, or of none. -/
def dayOr (r : Int × Int) : Int := if r.2 = 3 then 8 else r.1
/-! ### rations -/
/-! ### sizes and starts -/
end
end Go.X.Cist
namespace Go.X.Cist
open Go.X Go.Proofs.Ytbmkacnlhlbnjaa

section
variable {size start size' : Int} {ds : List Day} {day x : Int}
/-! ### a greater cistern -/
end
end Go.X.Cist
namespace Go.Proofs.Ytbmkacnlhlbnjaa
open Go.X Go.X.Cist Go.Conc
set_option maxRecDepth 10000

end Go.Proofs.Ytbmkacnlhlbnjaa
namespace Go.Proofs.Ytbmkacnlhlbnjaa
open Go.X Go.X.Cist Go.Conc
set_option maxRecDepth 10000

end Go.Proofs.Ytbmkacnlhlbnjaa
namespace Go.Proofs.Ytbmkacnlhlbnjaa
open Go.X Go.X.Cist Go.Conc

/-- Between what the level, the lack, the sum of what ran over of a day is. -/
def levLo (size start : Int) (ds : List Day) (k : Nat) : Int := lev size (min start size) (wantOf ds) (loOf ds) (k + 1)
def levHi (size start : Int) (ds : List Day) (k : Nat) : Int := lev size (min start size) (wantOf ds) (hiOf ds) (k + 1)
def lackLo (size start : Int) (ds : List Day) (k : Nat) : Int := lack size (min start size) (wantOf ds) (hiOf ds) k
def lackHi (size start : Int) (ds : List Day) (k : Nat) : Int := lack size (min start size) (wantOf ds) (loOf ds) k
def overLo (size start : Int) (ds : List Day) (k : Nat) : Int := sumTo (ovr size (min start size) (wantOf ds) (loOf ds)) (k + 1)
def overHi (size start : Int) (ds : List Day) (k : Nat) : Int := sumTo (ovr size (min start size) (wantOf ds) (hiOf ds)) (k + 1)

section
variable {h : Heap} {p : PHeap} {size start : Int} {a : Option Addr} {n c : Nat} {ds : List Day}
end
end Go.Proofs.Ytbmkacnlhlbnjaa
namespace Go.X.Cist
open Go.X Go.Proofs.Ytbmkacnlhlbnjaa

section
variable {size start : Int} {ds ds' : List Day} {xs : List Int} {n : Nat}

/-! ### each weather -/
/-! ### two parts -/
theorem lev_shift {want rain : Nat → Int} {c : Nat} : ∀ k, lev size start want rain (c + k) = lev size (lev size start want rain c) (fun i => want (c + i)) (fun i => rain (c + i)) k
  | 0 => rfl
  | k + 1 => by
    have h := lev_shift (want := want) (rain := rain) (c := c) k
    show lev size start want rain (c + k + 1) = _
    simp only [lev]
    rw [h]
theorem lack_congr {want want' rain rain' : Nat → Int} {k : Nat} (hw : ∀ i, i ≤ k → want i = want' i) (hr : ∀ i, i ≤ k → rain i = rain' i) : lack size start want rain k = lack size start want' rain' k := by
  have h := lev_congr (size := size) (start := start) k (fun i hi => hw i (by omega)) fun i hi => hr i (by omega)
  unfold lack ovr
  rw [h, hw k (Nat.le_refl _), hr k (Nat.le_refl _)]
theorem ovr_congr {want want' rain rain' : Nat → Int} {k : Nat} (hw : ∀ i, i ≤ k → want i = want' i) (hr : ∀ i, i ≤ k → rain i = rain' i) : ovr size start want rain k = ovr size start want' rain' k := by
  have h := lev_congr (size := size) (start := start) k (fun i hi => hw i (by omega)) fun i hi => hr i (by omega)
  unfold ovr
  rw [h, hr k (Nat.le_refl _)]
theorem nums_parts {f g h : Nat → Int} {c : Nat} (hc : c ≤ n) (h1 : ∀ i, i < c → f i = g i) (h2 : ∀ i, i < n - c → f (c + i) = h i) : nums f n = nums g c ++ nums h (n - c) := by
  refine List.ext_getElem (by simp [nums_length]; omega) fun i a b => ?_
  rw [nums_length] at a
  by_cases e : i < c
  · rw [List.getElem_append_left (by rw [nums_length]; exact e)]
    simpa [nums] using h1 i e
  · rw [List.getElem_append_right (by rw [nums_length]; omega)]
    have := h2 (i - c) (by omega)
    rw [show c + (i - c) = i from by omega] at this
    simpa [nums] using this
theorem want_take {c i : Nat} (h : i < c) : wantOf (ds.take c) i = wantOf ds i := by unfold wantOf; rw [List.getD_eq_getElem?_getD, List.getElem?_take, if_pos h, ← List.getD_eq_getElem?_getD]
theorem want_drop {c : Nat} : wantOf (ds.drop c) = fun i => wantOf ds (c + i) := by funext i; unfold wantOf; rw [List.getD_eq_getElem?_getD, List.getElem?_drop, ← List.getD_eq_getElem?_getD]
theorem list_take {c i : Nat} (h : i < c) : listOf (xs.take c) i = listOf xs i := by unfold listOf; rw [List.getD_eq_getElem?_getD, List.getElem?_take, if_pos h, ← List.getD_eq_getElem?_getD]
theorem list_drop {c : Nat} : listOf (xs.drop c) = fun i => listOf xs (c + i) := by funext i; unfold listOf; rw [List.getD_eq_getElem?_getD, List.getElem?_drop, ← List.getD_eq_getElem?_getD]
/-- The level behind the first part. -/
def cutStart (size start : Int) (ds : List Day) (xs : List Int) (c : Nat) : Int := lev size start (wantOf ds) (listOf xs) c
theorem parts {c : Nat} (h : c ≤ n) :
    nums (levs size start (wantOf ds) (listOf xs)) n = nums (levs size start (wantOf (ds.take c)) (listOf (xs.take c))) c ++ nums (levs size (cutStart size start ds xs c) (wantOf (ds.drop c)) (listOf (xs.drop c))) (n - c) ∧
    nums (lack size start (wantOf ds) (listOf xs)) n = nums (lack size start (wantOf (ds.take c)) (listOf (xs.take c))) c ++ nums (lack size (cutStart size start ds xs c) (wantOf (ds.drop c)) (listOf (xs.drop c))) (n - c) ∧
    nums (ovr size start (wantOf ds) (listOf xs)) n = nums (ovr size start (wantOf (ds.take c)) (listOf (xs.take c))) c ++ nums (ovr size (cutStart size start ds xs c) (wantOf (ds.drop c)) (listOf (xs.drop c))) (n - c) := by
  have e : ∀ k, lev size start (wantOf ds) (listOf xs) (c + k) = lev size (cutStart size start ds xs c) (wantOf (ds.drop c)) (listOf (xs.drop c)) k := fun k => by rw [lev_shift, want_drop, list_drop]; rfl
  have w : ∀ i, wantOf ds (c + i) = wantOf (ds.drop c) i := fun i => by rw [want_drop]
  have r : ∀ i, listOf xs (c + i) = listOf (xs.drop c) i := fun i => by rw [list_drop]
  refine ⟨nums_parts h (fun i hi => ?_) fun i hi => ?_, nums_parts h (fun i hi => ?_) fun i hi => ?_, nums_parts h (fun i hi => ?_) fun i hi => ?_⟩
  · exact lev_congr _ (fun i hi => (want_take (by omega)).symm) fun i hi => (list_take (by omega)).symm
  · exact e (i + 1)
  · exact lack_congr (fun i hi => (want_take (by omega)).symm) fun i hi => (list_take (by omega)).symm
  · unfold lack ovr; rw [e, w, r]
  · exact ovr_congr (fun i hi => (want_take (by omega)).symm) fun i hi => (list_take (by omega)).symm
  · unfold ovr; rw [e, r]
/-! ### less doubt -/
def setRain (ds : List Day) (i : Nat) (lo hi : Int) : List Day := ds.set i ⟨lo, hi, (ds.getD i dz).want⟩
/-- A year of which only the rain is narrower. -/
structure Narrow (ds ds' : List Day) : Prop where
  len : ds'.length = ds.length
  want : ∀ i, i < ds.length → wantOf ds' i = wantOf ds i
  lo : ∀ i, i < ds.length → loOf ds i ≤ loOf ds' i
  hi : ∀ i, i < ds.length → hiOf ds' i ≤ hiOf ds i
section
variable (hN : Narrow ds ds')
include hN
end
end
end Go.X.Cist
namespace Go.X
open Go.Conc

/-- A bound of a part: none, or a number. -/
inductive Bd (tm : List Value) : Option Operand → Nat → Nat → Prop
  | none (d : Nat) : Bd tm none d d
  | some {o : Operand} {k : IntKind} {z : Int} (d : Nat) (h : evl tm o = .int k z) (h0 : 0 ≤ z) : Bd tm (some o) d z.toNat
  | nat {o : Operand} {k : IntKind} {z : Nat} (d : Nat) (h : evl tm o = .int k (z : Nat)) : Bd tm (some o) d z
def cutA (a : Option Addr) (c l w : Nat) : Option Addr := if c = l then a else a.map (·.add (l * w))

section
variable {P : Program} {h : Heap} {tm : List Value} {d : Option Tmp} {ty : TypeId} {pos : String} {aft : Array Edge} {gd : Option (Nat × Bool)}
theorem Sl.part {p : PHeap} {a : Option Addr} {n c w l r : Nat} {es : List (List Value)} (s : Sl p a n w es) (hc : n ≤ c) (h1 : l ≤ r) (h2 : r ≤ n) : Sl p (cutA a c l w) (r - l) w ((es.drop l).take (r - l)) :=
  s.cut h1 h2 fun hlt => by unfold cutA; rw [if_neg (by omega), s.ne (by omega)]; rfl
end

section
variable {P : Program} {md : Md} {f : FuncId} {r : Rd} {df : List Deferred} {k : List Item} {cs : List Frame} {Stop : Goroutine → Heap → Prop} {ops rest : List Oper} {tm : List Value}
  {h₀ : Heap} {B₀ : List Nat} {p : PHeap} {A X C : Pcs} {T : TypeId} {w : Nat} {v : Value} {es : List (List Value)} {n : Nat} {g : Goroutine}
theorem OwnS.room (o : OwnS T w v es X) (hw : 0 < w) {a : Option Addr} {m cap : Nat} (e : v = .slice a m cap) : m ≤ cap := by
  obtain ⟨h1, ⟨rfl, rfl, rfl⟩ | ⟨b, cs, cap', rest, rfl, rfl, hcs, hlen⟩⟩ := o
  · cases e; exact Nat.le_refl _
  · cases e
    have h2 := flatten_length h1
    have h3 : cs.length = es.flatten.length + rest.length := by rw [hcs]; simp
    have : es.length * w ≤ cap * w := by omega
    exact Nat.le_of_mul_le_mul_right this hw
end
end Go.X
namespace Go.X.Cist
open Go.X Go.Proofs.Ytbmkacnlhlbnjaa Go.Conc

section
variable {p : PHeap} {a : Option Addr} {n c l r : Nat} {ds es : List Day} {xs : List Int}
theorem ints_nil (p : PHeap) : Ints p none 0 [] := Sl.nil _ _ _
theorem days_yes (hl : ds.length = es.length) (h : ∀ i, i < ds.length → ds.getD i dz = es.getD i dz) : ds = es := ext_getD (d := dz) hl h
theorem eq_step {k : Nat} (h : ∀ i, i < k → ds.getD i dz = es.getD i dz) (e : ds.getD k dz = es.getD k dz) : ∀ i, i < k + 1 → ds.getD i dz = es.getD i dz := fun i hi => by
  by_cases c : i = k
  · subst c; exact e
  · exact h i (by omega)
theorem Days.pre (D : Days p a n ds) (hc : n ≤ c) (h : r ≤ n) : Days p (cutA a c 0 3) r (ds.take r) := by
  have := Sl.part D hc (Nat.zero_le r) h
  unfold Days dcs
  rw [List.map_take]
  simpa [dcs] using this
theorem Ints.pre (D : Ints p a n xs) (hc : n ≤ c) (h : r ≤ n) : Ints p (cutA a c 0 1) r (xs.take r) := by
  have := Sl.part D hc (Nat.zero_le r) h
  unfold Ints
  rw [List.map_take]
  simpa using this
end
end Go.X.Cist
namespace Go.X
open Go.Conc

/-- 'Q' of an operation sees only those in 'anc'. -/
def Qr (anc : Nat → List Nat) (Q : Nat → (Nat → Value) → (Nat → Pcs) → Value → Pcs → Prop) (val : Nat → Value) (piece : Nat → Pcs) (i : Nat) : Value → Pcs → Prop :=
  Q i (fun j => if (anc i).contains j = true then val j else undef) (fun j => if (anc i).contains j = true then piece j else [])
def ancok (ops : List Oper) (m : Nat) (cl : List (List Nat)) (anc : Nat → List Nat) : Bool :=
  ops.zipIdx.all fun (o, i) => !decide (i < m) || (anc i).all fun j => behind cl o j
/-- What is asked of an operation whose turn it is. -/
def OpMix2 (P : Program) (md : Md) (ops : List Oper) (tmF : (Nat → Value) → List Value) (h₀ : Heap) (B₀ : List Nat) (p : PHeap) (A : Pcs) (ini : List Nat) (X : Nat → Pcs) (use : Nat → List Nat) (anc : Nat → List Nat) (Q : Nat → (Nat → Value) → (Nat → Pcs) → Value → Pcs → Prop) (i : Nat) (o : Oper) : Prop :=
  ∀ val piece, (∀ j, (anc i).contains j = true → Qr anc Q val piece j (val j) (piece j)) → (∀ j ∈ ini, piece j = X j) →
    (Met ops (tmF val) o true ∧ ∀ C h, St h₀ B₀ p h ((use i).flatMap piece ++ (A ++ C)) →
      Exv P (tmF val) o h (fun v h' => ∃ x, Qr anc Q val piece i v x ∧ St h₀ B₀ p h' (x ++ (A ++ C))) ∨
      (∃ g args, (wpS P (execOp (evl (tmF val)) o) h fun n h' => n = .enter g args ∧ h' = h) ∧ CallsX P md g args h (fun v h' => ∃ x, Qr anc Q val piece i v x ∧ St h₀ B₀ p h' (x ++ (A ++ C))))) ∨
    (Met ops (tmF val) o false ∧ (use i).flatMap piece = [] ∧ Qr anc Q val piece i undef [])

section
variable {P : Program} {md : Md} {ops : List Oper} {m : Nat} {f : FuncId} {r : Rd} {df : List Deferred} {k : List Item} {cs : List Frame} {Stop : Goroutine → Heap → Prop} {tm : List Value}
  {h₀ : Heap} {B₀ : List Nat} {p : PHeap} {A C : Pcs} {ini : List Nat} {X : Nat → Pcs} {use : Nat → List Nat} {anc : Nat → List Nat} {Q : Nat → (Nat → Value) → (Nat → Pcs) → Value → Pcs → Prop} {tmF : (Nat → Value) → List Value}

end
end Go.X
namespace Go.Proofs.Ytbmkacnlhlbnjaa
open Go.X Go.X.Cist Go.Conc
set_option maxRecDepth 10000

theorem c75 (md : Md) (h : Heap) (p : PHeap) (hp : Per p h) (size start : Int) (a : Option Addr) (n c : Nat) (ds : List Day) (D : Days p a n ds) (hn : n ≤ 40) (b : Option Addr) (m d : Nat) (xs : List Int) (W : Ints p b m xs) (hL : Lok size start ds) (hW : Weather ds xs) : CallsX Try.prog md 75 #[.agg #[.int .i64 (size), .int .i64 (start), .slice a n c], .slice b m d] h fun v h' => ∃ w1 w2 w3 X1 X2 X3, v = .agg #[w1, w2, w3] ∧ OwnS 3 1 w1 (ns (levs size start (wantOf ds) (listOf xs)) n) X1 ∧ OwnS 3 1 w2 (ns (lack size start (wantOf ds) (listOf xs)) n) X2 ∧ OwnS 3 1 w3 (ns (ovr size start (wantOf ds) (listOf xs)) n) X3 ∧ New h h' (X1 ++ (X2 ++ (X3 ++ []))) := by
  refine calls_intro (Φ := fun h_ => St h [] p h_ []) Try.func75 rfl (tm := [_, _, _, _, _, _, _, _, _, _, _, _, _, _, _, _, _, _, _, _, _, _, _, _, _, _, _, _, _, _, _, _, _, _, _, _, _, _, _, _, _, _, _, _, _, _, _, _, _, _, _, _, _, _, _, _, _, _, _, _, _, _, _, _, _, _, _, _, _, _]) rfl ?_ (St.start h _ hp)
  intro c₀ cs Stop K
  have hl := D.len
  have hm := W.len
  have hmn : m = n := by rw [← hl, ← hm]; exact hW.1
  refine fl_seq ?_
  refine rl_start ?_
  refine rl_box (met_none rfl) (v := .agg #[.int .i64 (size), .int .i64 (start), .slice a n c]) rfl fun b1 => rl_own (L' := [(b1, .cells #[.int .i64 (size), .int .i64 (start), .slice a n c] 24 (0, 0))]) rfl ?_
  refine rl_alloc (met_none rfl) tZ30 rfl fun b2 => rl_own (L' := [(b2, .cells #[.slice none 0 0, .slice none 0 0, .slice none 0 0] 30 (0, 0)), (b1, .cells #[.int .i64 (size), .int .i64 (start), .slice a n c] 24 (0, 0))]) rfl ?_
  refine rl_end ?_
  refine fl_seq ?_
  refine rl_start ?_
  refine rl_alloc (met_none rfl) tZ30 rfl fun b3 => rl_own (L' := [(b3, .cells #[.slice none 0 0, .slice none 0 0, .slice none 0 0] 30 (0, 0)), (b2, .cells #[.slice none 0 0, .slice none 0 0, .slice none 0 0] 30 (0, 0)), (b1, .cells #[.int .i64 (size), .int .i64 (start), .slice a n c] 24 (0, 0))]) rfl ?_
  refine rl_norm (tm' := _::_::_::_::_::_::_) rfl ?_
  refine rl_end ?_
  refine fl_seq ?_
  refine rl_start ?_
  refine rl_det (met_none rfl) (fun h_ H_ => exd_fieldAddr tF24_1 rfl (a' := ⟨b1, 1, none⟩) rfl) rfl ?_
  refine rl_det (met_none rfl) (fun h_ H_ => exd_load_own H_ tA3 rfl (i := 2) rfl (v := .int .i64 (start)) rfl) rfl ?_
  refine rl_det (met_none rfl) (fun h_ H_ => exd_assign (v := .int .i64 (start)) rfl) (tm' := _::_::_::_::_::_::_::_) rfl ?_
  refine rl_end ?_
  refine fl_seq ?_
  refine fl_seq ?_
  refine rl_start ?_
  refine rl_det (met_none rfl) (fun h_ H_ => exd_assign (v := .int .i64 0) rfl) rfl ?_
  refine rl_end ?_
  refine fl_block ?_
  refine fl_loop (m₀ := n - 0) (fun m_ tm_ h_ => ∃ (k : Nat) (w1 : Value) (w2 : Value) (w3 : Value) (X1 : Pcs) (X2 : Pcs) (X3 : Pcs), m_ = n - k ∧ (∃ y4 : Nat → Value, tm_ = [.agg #[.int .i64 (size), .int .i64 (start), .slice a n c], .slice b m d, .pointer (some ⟨b1, 0, none⟩), undef, .pointer (some ⟨b2, 0, none⟩), .pointer (some ⟨b3, 0, none⟩), .int .i64 (lev size start (wantOf ds) (listOf xs) k), .int .i64 (((k : Nat) : Int)), (y4 8), (y4 9), .pointer (some ⟨b1, 1, none⟩), .int .i64 (start), (y4 12), (y4 13), (y4 14), (y4 15), (y4 16), (y4 17), (y4 18), (y4 19), (y4 20), (y4 21), (y4 22), (y4 23), (y4 24), (y4 25), (y4 26), (y4 27), (y4 28), (y4 29), (y4 30), (y4 31), (y4 32), (y4 33), (y4 34), (y4 35), (y4 36), (y4 37), (y4 38), (y4 39), (y4 40), (y4 41), (y4 42), (y4 43), (y4 44), (y4 45), (y4 46), (y4 47), (y4 48), (y4 49), (y4 50), (y4 51), (y4 52), (y4 53), (y4 54), (y4 55), (y4 56), (y4 57), (y4 58), (y4 59), (y4 60), (y4 61), (y4 62), (y4 63), (y4 64), (y4 65), (y4 66), (y4 67), (y4 68), undef]) ∧ (k ≤ n) ∧ (OwnS 3 1 w1 (ns (levs size start (wantOf ds) (listOf xs)) k) X1) ∧ (OwnS 3 1 w2 (ns (lack size start (wantOf ds) (listOf xs)) k) X2) ∧ (OwnS 3 1 w3 (ns (ovr size start (wantOf ds) (listOf xs)) k) X3) ∧ St h [] p h_ (([(b3, .cells #[w1, w2, w3] 30 (0, 0)), (b2, .cells #[.slice none 0 0, .slice none 0 0, .slice none 0 0] 30 (0, 0)), (b1, .cells #[.int .i64 (size), .int .i64 (start), .slice a n c] 24 (0, 0))] : Pcs) ++ (X1 ++ (X2 ++ (X3 ++ []))))) (fun h_ H_ => ⟨0, _, _, _, [], [], [], rfl, (y_of rfl), Nat.zero_le _, OwnS.empty _ _, OwnS.empty _ _, OwnS.empty _ _, H_⟩) ?_
  intro m_ tm_ IH5
  refine rs_ex fun k => rs_ex fun w1 => rs_ex fun w2 => rs_ex fun w3 => rs_ex fun X1 => rs_ex fun X2 => rs_ex fun X3 => rs_and fun hm_ => rs_and fun ht_ => rs_and fun hk => rs_and fun o1 => rs_and fun o2 => rs_and fun o3 => ?_
  subst hm_; obtain ⟨y4, ht_⟩ := ht_; subst ht_
  have hd := lok_day hL hW (k := k) (by omega)
  refine fl_seq ?_
  refine fl_seq ?_
  refine rl_start ?_
  refine rl_det (met_none rfl) (fun h_ H_ => exd_move (v := .int .i64 (((k : Nat) : Int))) rfl) rfl ?_
  refine rl_det (met_none rfl) (fun h_ H_ => exd_move (v := .slice b m d) rfl) (tm' := _::_::_::_::_::_::_::_::_::_::_::_::_::_::_) rfl ?_
  refine rl_det (met_none rfl) (fun h_ H_ => exd_len Try.underlying25 rfl) rfl ?_
  refine rl_det (met_none rfl) (fun h_ H_ => exd_lss rfl rfl) rfl ?_
  refine rl_end ?_
  by_cases cc6 : ((k : Nat) : Int) < ((m : Nat) : Int)
  · refine fl_then rfl (decide_eq_true cc6) ?_
    refine fl_skip ?_
    refine fl_seq ?_
    refine fl_block ?_
    refine fl_seq ?_
    refine rl_start ?_
    refine rl_det (met_none rfl) (fun h_ H_ => exd_move (v := .int .i64 (lev size start (wantOf ds) (listOf xs) k)) rfl) (tm' := _::_::_::_::_::_::_::_::_::_::_::_::_::_::_::_::_::_::_::_) rfl ?_
    refine rl_det (met_none rfl) (fun h_ H_ => exd_move (v := .slice b m d) rfl) rfl ?_
    refine rl_det (met_none rfl) (fun h_ H_ => exd_move (v := .int .i64 (((k : Nat) : Int))) rfl) rfl ?_
    refine rl_det (met_none rfl) (fun h_ H_ => exd_indexAddrN (i := k) Try.underlying25 tS3 (sl_ne b m d (W.ne (by omega))) rfl (by omega)) (tm' := _::_::_::_::_::_::_::_::_::_::_::_::_::_::_::_::_::_::_::_::_::_::_) rfl ?_
    refine rl_det (met_none rfl) (fun h_ H_ => exd_load_per H_ tA3 rfl (v := .int .i64 (xs.getD k 0)) (W.get (by omega))) rfl ?_
    refine rl_det (met_none rfl) (fun h_ H_ => exd_add rfl rfl (wr (by omega))) rfl ?_
    refine rl_det (met_none rfl) (fun h_ H_ => exd_assign (v := .int .i64 ((lev size start (wantOf ds) (listOf xs) k) + (xs.getD k 0))) rfl) (tm' := _::_::_::_::_::_::_::_) rfl ?_
    refine rl_end ?_
    refine fl_seq ?_
    refine rl_start ?_
    refine rl_det (met_none rfl) (fun h_ H_ => exd_move (v := .int .i64 ((lev size start (wantOf ds) (listOf xs) k) + (xs.getD k 0))) rfl) rfl ?_
    refine rl_det (met_none rfl) (fun h_ H_ => exd_fieldAddr tF24_0 rfl (a' := ⟨b1, 0, none⟩) rfl) rfl ?_
    refine rl_det (met_none rfl) (fun h_ H_ => exd_load_own H_ tA3 rfl (i := 2) rfl (v := .int .i64 (size)) rfl) (tm' := _::_::_::_::_::_::_::_::_::_::_::_::_::_::_::_::_::_::_::_::_::_::_::_::_::_::_::_) rfl ?_
    refine rl_det (met_none rfl) (fun h_ H_ => exd_sub rfl rfl (wr (by omega))) rfl ?_
    refine rl_det (met_none rfl) (fun h_ H_ => exd_max rfl rfl) rfl ?_
    refine rl_det (met_none rfl) (fun h_ H_ => exd_assign (v := .int .i64 (max 0 (((lev size start (wantOf ds) (listOf xs) k) + (xs.getD k 0)) - size))) rfl) (tm' := _::_::_::_::_::_::_::_::_::_) rfl ?_
    refine rl_end ?_
    refine fl_seq ?_
    refine rl_start ?_
    refine rl_det (met_none rfl) (fun h_ H_ => exd_move (v := .int .i64 ((lev size start (wantOf ds) (listOf xs) k) + (xs.getD k 0))) rfl) rfl ?_
    refine rl_det (met_none rfl) (fun h_ H_ => exd_move (v := .int .i64 (max 0 (((lev size start (wantOf ds) (listOf xs) k) + (xs.getD k 0)) - size))) rfl) rfl ?_
    refine rl_det (met_none rfl) (fun h_ H_ => exd_sub rfl rfl (wr (by omega))) (tm' := _::_::_::_::_::_::_::_::_::_::_::_::_::_::_::_::_::_::_::_::_::_::_::_::_::_::_::_::_::_::_::_::_) rfl ?_
    refine rl_det (met_none rfl) (fun h_ H_ => exd_assign (v := .int .i64 (((lev size start (wantOf ds) (listOf xs) k) + (xs.getD k 0)) - (max 0 (((lev size start (wantOf ds) (listOf xs) k) + (xs.getD k 0)) - size)))) rfl) rfl ?_
    refine rl_end ?_
    refine fl_seq ?_
    refine rl_start ?_
    refine rl_det (met_none rfl) (fun h_ H_ => exd_fieldAddr tF24_2 rfl (a' := ⟨b1, 2, none⟩) rfl) rfl ?_
    refine rl_det (met_none rfl) (fun h_ H_ => exd_load_own H_ tA22 rfl (i := 2) rfl (v := .slice a n c) rfl) (tm' := _::_::_::_::_::_::_::_::_::_::_::_::_::_::_::_::_::_::_::_::_::_::_::_::_::_::_::_::_::_::_::_::_::_::_) rfl ?_
    refine rl_det (met_none rfl) (fun h_ H_ => exd_move (v := .int .i64 (((k : Nat) : Int))) rfl) rfl ?_
    refine rl_det (met_none rfl) (fun h_ H_ => exd_indexAddrN (i := k) Try.underlying22 tS38 (sl_ne a n c (D.ne (by omega))) rfl (by omega)) rfl ?_
    refine rl_det (met_none rfl) (fun h_ H_ => exd_fieldAddr tF38_1 rfl (a' := ((adr a).add (k * 3)).add 2) rfl) (tm' := _::_::_::_::_::_::_::_::_::_::_::_::_::_::_::_::_::_::_::_::_::_::_::_::_::_::_::_::_::_::_::_::_::_::_::_::_::_) rfl ?_
    refine rl_det (met_none rfl) (fun h_ H_ => exd_load_per H_ tA3 rfl (v := .int .i64 ((ds.getD k dz).want)) (D.want (by omega))) rfl ?_
    refine rl_det (met_none rfl) (fun h_ H_ => exd_move (v := .int .i64 (((lev size start (wantOf ds) (listOf xs) k) + (xs.getD k 0)) - (max 0 (((lev size start (wantOf ds) (listOf xs) k) + (xs.getD k 0)) - size)))) rfl) rfl ?_
    refine rl_det (met_none rfl) (fun h_ H_ => exd_sub rfl rfl (wr (by omega))) (tm' := _::_::_::_::_::_::_::_::_::_::_::_::_::_::_::_::_::_::_::_::_::_::_::_::_::_::_::_::_::_::_::_::_::_::_::_::_::_::_::_::_) rfl ?_
    refine rl_det (met_none rfl) (fun h_ H_ => exd_max rfl rfl) rfl ?_
    refine rl_det (met_none rfl) (fun h_ H_ => exd_assign (v := .int .i64 (max 0 (((ds.getD k dz).want) - (((lev size start (wantOf ds) (listOf xs) k) + (xs.getD k 0)) - (max 0 (((lev size start (wantOf ds) (listOf xs) k) + (xs.getD k 0)) - size)))))) rfl) rfl ?_
    refine rl_end ?_
    refine fl_seq ?_
    refine rl_start ?_
    refine rl_det (met_none rfl) (fun h_ H_ => exd_move (v := .int .i64 (((lev size start (wantOf ds) (listOf xs) k) + (xs.getD k 0)) - (max 0 (((lev size start (wantOf ds) (listOf xs) k) + (xs.getD k 0)) - size)))) rfl) (tm' := _::_::_::_::_::_::_::_::_::_::_::_::_::_::_::_::_::_::_::_::_::_::_::_::_::_::_::_::_::_::_::_::_::_::_::_::_::_::_::_::_::_::_) rfl ?_
    refine rl_det (met_none rfl) (fun h_ H_ => exd_fieldAddr tF24_2 rfl (a' := ⟨b1, 2, none⟩) rfl) rfl ?_
    refine rl_det (met_none rfl) (fun h_ H_ => exd_load_own H_ tA22 rfl (i := 2) rfl (v := .slice a n c) rfl) rfl ?_
    refine rl_det (met_none rfl) (fun h_ H_ => exd_move (v := .int .i64 (((k : Nat) : Int))) rfl) (tm' := _::_::_::_::_::_::_::_::_::_::_::_::_::_::_::_::_::_::_::_::_::_::_::_::_::_::_::_::_::_::_::_::_::_::_::_::_::_::_::_::_::_::_::_::_::_) rfl ?_
    refine rl_det (met_none rfl) (fun h_ H_ => exd_indexAddrN (i := k) Try.underlying22 tS38 (sl_ne a n c (D.ne (by omega))) rfl (by omega)) rfl ?_
    refine rl_det (met_none rfl) (fun h_ H_ => exd_fieldAddr tF38_1 rfl (a' := ((adr a).add (k * 3)).add 2) rfl) rfl ?_
    refine rl_det (met_none rfl) (fun h_ H_ => exd_load_per H_ tA3 rfl (v := .int .i64 ((ds.getD k dz).want)) (D.want (by omega))) (tm' := [_,_,_,_,_,_,_,_,_,_,_,_,_,_,_,_,_,_,_,_,_,_,_,_,_,_,_,_,_,_,_,_,_,_,_,_,_,_,_,_,_,_,_,_,_,_,_,_,_,_,_,_,_,_,_,_,_,_,_,_,_,_,_,_,_,_,_,_,_,_]) rfl ?_
    refine rl_det (met_none rfl) (fun h_ H_ => exd_move (v := .int .i64 (max 0 (((ds.getD k dz).want) - (((lev size start (wantOf ds) (listOf xs) k) + (xs.getD k 0)) - (max 0 (((lev size start (wantOf ds) (listOf xs) k) + (xs.getD k 0)) - size)))))) rfl) rfl ?_
    refine rl_det (met_none rfl) (fun h_ H_ => exd_sub rfl rfl (wr (by omega))) rfl ?_
    refine rl_det (met_none rfl) (fun h_ H_ => exd_sub rfl rfl (wr (by omega))) (tm' := [_,_,_,_,_,_,_,_,_,_,_,_,_,_,_,_,_,_,_,_,_,_,_,_,_,_,_,_,_,_,_,_,_,_,_,_,_,_,_,_,_,_,_,_,_,_,_,_,_,_,_,_,_,_,_,_,_,_,_,_,_,_,_,_,_,_,_,_,_,_]) rfl ?_
    refine rl_det (met_none rfl) (fun h_ H_ => exd_assign (v := .int .i64 ((((lev size start (wantOf ds) (listOf xs) k) + (xs.getD k 0)) - (max 0 (((lev size start (wantOf ds) (listOf xs) k) + (xs.getD k 0)) - size))) - (((ds.getD k dz).want) - (max 0 (((ds.getD k dz).want) - (((lev size start (wantOf ds) (listOf xs) k) + (xs.getD k 0)) - (max 0 (((lev size start (wantOf ds) (listOf xs) k) + (xs.getD k 0)) - size)))))))) rfl) rfl ?_
    refine rl_end ?_
    refine rs_as (fl_mixed (C := []) (A := ([(b3, .cells #[w1, w2, w3] 30 (0, 0)), (b2, .cells #[.slice none 0 0, .slice none 0 0, .slice none 0 0] 30 (0, 0)), (b1, .cells #[.int .i64 (size), .int .i64 (start), .slice a n c] 24 (0, 0))] : Pcs)) 16 [[], [], [], [], [], [], [], [], [7], [7, 8], [], [], [], [12], [7, 8, 9, 12, 13], [], [12, 13, 14], [12, 13, 14], [], [], []] [16, 17, 18] [4, 9, 14] [0, 1, 2, 5, 6, 7, 10, 11, 12, 15] (fun i_ => match i_ with | 16 => X1 | 17 => X2 | 18 => X3 | _ => []) (fun i_ => match i_ with | 4 => [16, 3] | 9 => [17, 8] | 14 => [18, 13] | _ => []) (fun i_ v_ x_ => match i_ with | 0 => v_ = .pointer (some ⟨b3, 0, none⟩) ∧ x_ = [] | 1 => v_ = w1 ∧ x_ = [] | 2 => v_ = .int .i64 ((((lev size start (wantOf ds) (listOf xs) k) + (xs.getD k 0)) - (max 0 (((lev size start (wantOf ds) (listOf xs) k) + (xs.getD k 0)) - size))) - (((ds.getD k dz).want) - (max 0 (((ds.getD k dz).want) - (((lev size start (wantOf ds) (listOf xs) k) + (xs.getD k 0)) - (max 0 (((lev size start (wantOf ds) (listOf xs) k) + (xs.getD k 0)) - size))))))) ∧ x_ = [] | 3 => OwnS 3 1 v_ [[.int .i64 ((((lev size start (wantOf ds) (listOf xs) k) + (xs.getD k 0)) - (max 0 (((lev size start (wantOf ds) (listOf xs) k) + (xs.getD k 0)) - size))) - (((ds.getD k dz).want) - (max 0 (((ds.getD k dz).want) - (((lev size start (wantOf ds) (listOf xs) k) + (xs.getD k 0)) - (max 0 (((lev size start (wantOf ds) (listOf xs) k) + (xs.getD k 0)) - size)))))))]] x_ | 4 => OwnS 3 1 v_ (ns (levs size start (wantOf ds) (listOf xs)) k ++ [[.int .i64 ((((lev size start (wantOf ds) (listOf xs) k) + (xs.getD k 0)) - (max 0 (((lev size start (wantOf ds) (listOf xs) k) + (xs.getD k 0)) - size))) - (((ds.getD k dz).want) - (max 0 (((ds.getD k dz).want) - (((lev size start (wantOf ds) (listOf xs) k) + (xs.getD k 0)) - (max 0 (((lev size start (wantOf ds) (listOf xs) k) + (xs.getD k 0)) - size)))))))]]) x_ | 5 => v_ = .pointer (some ⟨b3, 1, none⟩) ∧ x_ = [] | 6 => v_ = w2 ∧ x_ = [] | 7 => v_ = .int .i64 (max 0 (((ds.getD k dz).want) - (((lev size start (wantOf ds) (listOf xs) k) + (xs.getD k 0)) - (max 0 (((lev size start (wantOf ds) (listOf xs) k) + (xs.getD k 0)) - size))))) ∧ x_ = [] | 8 => OwnS 3 1 v_ [[.int .i64 (max 0 (((ds.getD k dz).want) - (((lev size start (wantOf ds) (listOf xs) k) + (xs.getD k 0)) - (max 0 (((lev size start (wantOf ds) (listOf xs) k) + (xs.getD k 0)) - size)))))]] x_ | 9 => OwnS 3 1 v_ (ns (lack size start (wantOf ds) (listOf xs)) k ++ [[.int .i64 (max 0 (((ds.getD k dz).want) - (((lev size start (wantOf ds) (listOf xs) k) + (xs.getD k 0)) - (max 0 (((lev size start (wantOf ds) (listOf xs) k) + (xs.getD k 0)) - size)))))]]) x_ | 10 => v_ = .pointer (some ⟨b3, 2, none⟩) ∧ x_ = [] | 11 => v_ = w3 ∧ x_ = [] | 12 => v_ = .int .i64 (max 0 (((lev size start (wantOf ds) (listOf xs) k) + (xs.getD k 0)) - size)) ∧ x_ = [] | 13 => OwnS 3 1 v_ [[.int .i64 (max 0 (((lev size start (wantOf ds) (listOf xs) k) + (xs.getD k 0)) - size))]] x_ | 14 => OwnS 3 1 v_ (ns (ovr size start (wantOf ds) (listOf xs)) k ++ [[.int .i64 (max 0 (((lev size start (wantOf ds) (listOf xs) k) + (xs.getD k 0)) - size))]]) x_ | 15 => v_ = .pointer (some ⟨b3, 0, none⟩) ∧ x_ = [] | _ => True) (fun val7 => [.agg #[.int .i64 (size), .int .i64 (start), .slice a n c], .slice b m d, .pointer (some ⟨b1, 0, none⟩), undef, .pointer (some ⟨b2, 0, none⟩), .pointer (some ⟨b3, 0, none⟩), .int .i64 ((((lev size start (wantOf ds) (listOf xs) k) + (xs.getD k 0)) - (max 0 (((lev size start (wantOf ds) (listOf xs) k) + (xs.getD k 0)) - size))) - (((ds.getD k dz).want) - (max 0 (((ds.getD k dz).want) - (((lev size start (wantOf ds) (listOf xs) k) + (xs.getD k 0)) - (max 0 (((lev size start (wantOf ds) (listOf xs) k) + (xs.getD k 0)) - size))))))), .int .i64 (((k : Nat) : Int)), .int .i64 (max 0 (((lev size start (wantOf ds) (listOf xs) k) + (xs.getD k 0)) - size)), .int .i64 (max 0 (((ds.getD k dz).want) - (((lev size start (wantOf ds) (listOf xs) k) + (xs.getD k 0)) - (max 0 (((lev size start (wantOf ds) (listOf xs) k) + (xs.getD k 0)) - size))))), .pointer (some ⟨b1, 1, none⟩), .int .i64 (start), .int .i64 (((k : Nat) : Int)), .slice b m d, .int .i64 (((m : Nat) : Int)), .bool (decide (((k : Nat) : Int) < ((m : Nat) : Int))), (y4 16), (y4 17), .int .i64 (lev size start (wantOf ds) (listOf xs) k), .slice b m d, .int .i64 (((k : Nat) : Int)), .pointer (some ((adr b).add (k * 1))), .int .i64 (xs.getD k 0), .int .i64 ((lev size start (wantOf ds) (listOf xs) k) + (xs.getD k 0)), .int .i64 ((lev size start (wantOf ds) (listOf xs) k) + (xs.getD k 0)), .pointer (some ⟨b1, 0, none⟩), .int .i64 (size), .int .i64 (((lev size start (wantOf ds) (listOf xs) k) + (xs.getD k 0)) - size), .int .i64 (max 0 (((lev size start (wantOf ds) (listOf xs) k) + (xs.getD k 0)) - size)), .int .i64 ((lev size start (wantOf ds) (listOf xs) k) + (xs.getD k 0)), .int .i64 (max 0 (((lev size start (wantOf ds) (listOf xs) k) + (xs.getD k 0)) - size)), .int .i64 (((lev size start (wantOf ds) (listOf xs) k) + (xs.getD k 0)) - (max 0 (((lev size start (wantOf ds) (listOf xs) k) + (xs.getD k 0)) - size))), .pointer (some ⟨b1, 2, none⟩), .slice a n c, .int .i64 (((k : Nat) : Int)), .pointer (some ((adr a).add (k * 3))), .pointer (some (((adr a).add (k * 3)).add 2)), .int .i64 ((ds.getD k dz).want), .int .i64 (((lev size start (wantOf ds) (listOf xs) k) + (xs.getD k 0)) - (max 0 (((lev size start (wantOf ds) (listOf xs) k) + (xs.getD k 0)) - size))), .int .i64 (((ds.getD k dz).want) - (((lev size start (wantOf ds) (listOf xs) k) + (xs.getD k 0)) - (max 0 (((lev size start (wantOf ds) (listOf xs) k) + (xs.getD k 0)) - size)))), .int .i64 (max 0 (((ds.getD k dz).want) - (((lev size start (wantOf ds) (listOf xs) k) + (xs.getD k 0)) - (max 0 (((lev size start (wantOf ds) (listOf xs) k) + (xs.getD k 0)) - size))))), .int .i64 (((lev size start (wantOf ds) (listOf xs) k) + (xs.getD k 0)) - (max 0 (((lev size start (wantOf ds) (listOf xs) k) + (xs.getD k 0)) - size))), .pointer (some ⟨b1, 2, none⟩), .slice a n c, .int .i64 (((k : Nat) : Int)), .pointer (some ((adr a).add (k * 3))), .pointer (some (((adr a).add (k * 3)).add 2)), .int .i64 ((ds.getD k dz).want), .int .i64 (max 0 (((ds.getD k dz).want) - (((lev size start (wantOf ds) (listOf xs) k) + (xs.getD k 0)) - (max 0 (((lev size start (wantOf ds) (listOf xs) k) + (xs.getD k 0)) - size))))), .int .i64 (((ds.getD k dz).want) - (max 0 (((ds.getD k dz).want) - (((lev size start (wantOf ds) (listOf xs) k) + (xs.getD k 0)) - (max 0 (((lev size start (wantOf ds) (listOf xs) k) + (xs.getD k 0)) - size)))))), .int .i64 ((((lev size start (wantOf ds) (listOf xs) k) + (xs.getD k 0)) - (max 0 (((lev size start (wantOf ds) (listOf xs) k) + (xs.getD k 0)) - size))) - (((ds.getD k dz).want) - (max 0 (((ds.getD k dz).want) - (((lev size start (wantOf ds) (listOf xs) k) + (xs.getD k 0)) - (max 0 (((lev size start (wantOf ds) (listOf xs) k) + (xs.getD k 0)) - size))))))), (val7 0), (val7 1), (val7 2), (val7 3), (val7 4), (val7 5), (val7 6), (val7 7), (val7 8), (val7 9), (val7 10), (val7 11), (val7 12), (val7 13), (val7 14), (val7 15), (y4 67), (y4 68), undef]) mixed (by kernel_rfl) (Nat.le_of_ble_eq_true rfl) (by kernel_rfl) (by kernel_rfl) ⟨fun _ _ h => h.2, ⟨fun _ _ h => h.2, ⟨fun _ _ h => h.2, ⟨fun _ _ h => h.2, ⟨fun _ _ h => h.2, ⟨fun _ _ h => h.2, ⟨fun _ _ h => h.2, ⟨fun _ _ h => h.2, ⟨fun _ _ h => h.2, ⟨fun _ _ h => h.2, trivial⟩⟩⟩⟩⟩⟩⟩⟩⟩⟩ (fun _ => by kernel_rfl) (by kernel_rfl) ?_ ?_) (fun h_ H_ => St.swap (A := ([(b3, .cells #[w1, w2, w3] 30 (0, 0)), (b2, .cells #[.slice none 0 0, .slice none 0 0, .slice none 0 0] 30 (0, 0)), (b1, .cells #[.int .i64 (size), .int .i64 (start), .slice a n c] 24 (0, 0))] : Pcs)) (U := (X1 ++ (X2 ++ (X3 ++ [])))) H_)
    · refine mixes_cons rfl (opmix ?_) ?_
      · intro val7 pc8 hQ_ hX_
        refine ⟨[.agg #[.int .i64 (size), .int .i64 (start), .slice a n c], .slice b m d, .pointer (some ⟨b1, 0, none⟩), undef, .pointer (some ⟨b2, 0, none⟩), .pointer (some ⟨b3, 0, none⟩), .int .i64 ((((lev size start (wantOf ds) (listOf xs) k) + (xs.getD k 0)) - (max 0 (((lev size start (wantOf ds) (listOf xs) k) + (xs.getD k 0)) - size))) - (((ds.getD k dz).want) - (max 0 (((ds.getD k dz).want) - (((lev size start (wantOf ds) (listOf xs) k) + (xs.getD k 0)) - (max 0 (((lev size start (wantOf ds) (listOf xs) k) + (xs.getD k 0)) - size))))))), .int .i64 (((k : Nat) : Int)), .int .i64 (max 0 (((lev size start (wantOf ds) (listOf xs) k) + (xs.getD k 0)) - size)), .int .i64 (max 0 (((ds.getD k dz).want) - (((lev size start (wantOf ds) (listOf xs) k) + (xs.getD k 0)) - (max 0 (((lev size start (wantOf ds) (listOf xs) k) + (xs.getD k 0)) - size))))), .pointer (some ⟨b1, 1, none⟩), .int .i64 (start), .int .i64 (((k : Nat) : Int)), .slice b m d, .int .i64 (((m : Nat) : Int)), .bool (decide (((k : Nat) : Int) < ((m : Nat) : Int))), (y4 16), (y4 17), .int .i64 (lev size start (wantOf ds) (listOf xs) k), .slice b m d, .int .i64 (((k : Nat) : Int)), .pointer (some ((adr b).add (k * 1))), .int .i64 (xs.getD k 0), .int .i64 ((lev size start (wantOf ds) (listOf xs) k) + (xs.getD k 0)), .int .i64 ((lev size start (wantOf ds) (listOf xs) k) + (xs.getD k 0)), .pointer (some ⟨b1, 0, none⟩), .int .i64 (size), .int .i64 (((lev size start (wantOf ds) (listOf xs) k) + (xs.getD k 0)) - size), .int .i64 (max 0 (((lev size start (wantOf ds) (listOf xs) k) + (xs.getD k 0)) - size)), .int .i64 ((lev size start (wantOf ds) (listOf xs) k) + (xs.getD k 0)), .int .i64 (max 0 (((lev size start (wantOf ds) (listOf xs) k) + (xs.getD k 0)) - size)), .int .i64 (((lev size start (wantOf ds) (listOf xs) k) + (xs.getD k 0)) - (max 0 (((lev size start (wantOf ds) (listOf xs) k) + (xs.getD k 0)) - size))), .pointer (some ⟨b1, 2, none⟩), .slice a n c, .int .i64 (((k : Nat) : Int)), .pointer (some ((adr a).add (k * 3))), .pointer (some (((adr a).add (k * 3)).add 2)), .int .i64 ((ds.getD k dz).want), .int .i64 (((lev size start (wantOf ds) (listOf xs) k) + (xs.getD k 0)) - (max 0 (((lev size start (wantOf ds) (listOf xs) k) + (xs.getD k 0)) - size))), .int .i64 (((ds.getD k dz).want) - (((lev size start (wantOf ds) (listOf xs) k) + (xs.getD k 0)) - (max 0 (((lev size start (wantOf ds) (listOf xs) k) + (xs.getD k 0)) - size)))), .int .i64 (max 0 (((ds.getD k dz).want) - (((lev size start (wantOf ds) (listOf xs) k) + (xs.getD k 0)) - (max 0 (((lev size start (wantOf ds) (listOf xs) k) + (xs.getD k 0)) - size))))), .int .i64 (((lev size start (wantOf ds) (listOf xs) k) + (xs.getD k 0)) - (max 0 (((lev size start (wantOf ds) (listOf xs) k) + (xs.getD k 0)) - size))), .pointer (some ⟨b1, 2, none⟩), .slice a n c, .int .i64 (((k : Nat) : Int)), .pointer (some ((adr a).add (k * 3))), .pointer (some (((adr a).add (k * 3)).add 2)), .int .i64 ((ds.getD k dz).want), .int .i64 (max 0 (((ds.getD k dz).want) - (((lev size start (wantOf ds) (listOf xs) k) + (xs.getD k 0)) - (max 0 (((lev size start (wantOf ds) (listOf xs) k) + (xs.getD k 0)) - size))))), .int .i64 (((ds.getD k dz).want) - (max 0 (((ds.getD k dz).want) - (((lev size start (wantOf ds) (listOf xs) k) + (xs.getD k 0)) - (max 0 (((lev size start (wantOf ds) (listOf xs) k) + (xs.getD k 0)) - size)))))), .int .i64 ((((lev size start (wantOf ds) (listOf xs) k) + (xs.getD k 0)) - (max 0 (((lev size start (wantOf ds) (listOf xs) k) + (xs.getD k 0)) - size))) - (((ds.getD k dz).want) - (max 0 (((ds.getD k dz).want) - (((lev size start (wantOf ds) (listOf xs) k) + (xs.getD k 0)) - (max 0 (((lev size start (wantOf ds) (listOf xs) k) + (xs.getD k 0)) - size))))))), (val7 0), (val7 1), (val7 2), (val7 3), (val7 4), (val7 5), (val7 6), (val7 7), (val7 8), (val7 9), (val7 10), (val7 11), (val7 12), (val7 13), (val7 14), (val7 15), (y4 67), (y4 68), undef], [], rfl, rfl, ?_⟩
        exact mix_det (met_none rfl) (fun _ h_ H_ => exd_fieldAddr tF30_0 rfl (a' := ⟨b3, 0, none⟩) rfl) ⟨rfl, rfl⟩
      refine mixes_cons rfl (opmix ?_) ?_
      · intro val7 pc8 hQ_ hX_
        have e0_ : val7 0 = .pointer (some ⟨b3, 0, none⟩) := (hQ_ 0 rfl).1
        refine ⟨[.agg #[.int .i64 (size), .int .i64 (start), .slice a n c], .slice b m d, .pointer (some ⟨b1, 0, none⟩), undef, .pointer (some ⟨b2, 0, none⟩), .pointer (some ⟨b3, 0, none⟩), .int .i64 ((((lev size start (wantOf ds) (listOf xs) k) + (xs.getD k 0)) - (max 0 (((lev size start (wantOf ds) (listOf xs) k) + (xs.getD k 0)) - size))) - (((ds.getD k dz).want) - (max 0 (((ds.getD k dz).want) - (((lev size start (wantOf ds) (listOf xs) k) + (xs.getD k 0)) - (max 0 (((lev size start (wantOf ds) (listOf xs) k) + (xs.getD k 0)) - size))))))), .int .i64 (((k : Nat) : Int)), .int .i64 (max 0 (((lev size start (wantOf ds) (listOf xs) k) + (xs.getD k 0)) - size)), .int .i64 (max 0 (((ds.getD k dz).want) - (((lev size start (wantOf ds) (listOf xs) k) + (xs.getD k 0)) - (max 0 (((lev size start (wantOf ds) (listOf xs) k) + (xs.getD k 0)) - size))))), .pointer (some ⟨b1, 1, none⟩), .int .i64 (start), .int .i64 (((k : Nat) : Int)), .slice b m d, .int .i64 (((m : Nat) : Int)), .bool (decide (((k : Nat) : Int) < ((m : Nat) : Int))), (y4 16), (y4 17), .int .i64 (lev size start (wantOf ds) (listOf xs) k), .slice b m d, .int .i64 (((k : Nat) : Int)), .pointer (some ((adr b).add (k * 1))), .int .i64 (xs.getD k 0), .int .i64 ((lev size start (wantOf ds) (listOf xs) k) + (xs.getD k 0)), .int .i64 ((lev size start (wantOf ds) (listOf xs) k) + (xs.getD k 0)), .pointer (some ⟨b1, 0, none⟩), .int .i64 (size), .int .i64 (((lev size start (wantOf ds) (listOf xs) k) + (xs.getD k 0)) - size), .int .i64 (max 0 (((lev size start (wantOf ds) (listOf xs) k) + (xs.getD k 0)) - size)), .int .i64 ((lev size start (wantOf ds) (listOf xs) k) + (xs.getD k 0)), .int .i64 (max 0 (((lev size start (wantOf ds) (listOf xs) k) + (xs.getD k 0)) - size)), .int .i64 (((lev size start (wantOf ds) (listOf xs) k) + (xs.getD k 0)) - (max 0 (((lev size start (wantOf ds) (listOf xs) k) + (xs.getD k 0)) - size))), .pointer (some ⟨b1, 2, none⟩), .slice a n c, .int .i64 (((k : Nat) : Int)), .pointer (some ((adr a).add (k * 3))), .pointer (some (((adr a).add (k * 3)).add 2)), .int .i64 ((ds.getD k dz).want), .int .i64 (((lev size start (wantOf ds) (listOf xs) k) + (xs.getD k 0)) - (max 0 (((lev size start (wantOf ds) (listOf xs) k) + (xs.getD k 0)) - size))), .int .i64 (((ds.getD k dz).want) - (((lev size start (wantOf ds) (listOf xs) k) + (xs.getD k 0)) - (max 0 (((lev size start (wantOf ds) (listOf xs) k) + (xs.getD k 0)) - size)))), .int .i64 (max 0 (((ds.getD k dz).want) - (((lev size start (wantOf ds) (listOf xs) k) + (xs.getD k 0)) - (max 0 (((lev size start (wantOf ds) (listOf xs) k) + (xs.getD k 0)) - size))))), .int .i64 (((lev size start (wantOf ds) (listOf xs) k) + (xs.getD k 0)) - (max 0 (((lev size start (wantOf ds) (listOf xs) k) + (xs.getD k 0)) - size))), .pointer (some ⟨b1, 2, none⟩), .slice a n c, .int .i64 (((k : Nat) : Int)), .pointer (some ((adr a).add (k * 3))), .pointer (some (((adr a).add (k * 3)).add 2)), .int .i64 ((ds.getD k dz).want), .int .i64 (max 0 (((ds.getD k dz).want) - (((lev size start (wantOf ds) (listOf xs) k) + (xs.getD k 0)) - (max 0 (((lev size start (wantOf ds) (listOf xs) k) + (xs.getD k 0)) - size))))), .int .i64 (((ds.getD k dz).want) - (max 0 (((ds.getD k dz).want) - (((lev size start (wantOf ds) (listOf xs) k) + (xs.getD k 0)) - (max 0 (((lev size start (wantOf ds) (listOf xs) k) + (xs.getD k 0)) - size)))))), .int .i64 ((((lev size start (wantOf ds) (listOf xs) k) + (xs.getD k 0)) - (max 0 (((lev size start (wantOf ds) (listOf xs) k) + (xs.getD k 0)) - size))) - (((ds.getD k dz).want) - (max 0 (((ds.getD k dz).want) - (((lev size start (wantOf ds) (listOf xs) k) + (xs.getD k 0)) - (max 0 (((lev size start (wantOf ds) (listOf xs) k) + (xs.getD k 0)) - size))))))), .pointer (some ⟨b3, 0, none⟩), (val7 1), (val7 2), (val7 3), (val7 4), (val7 5), (val7 6), (val7 7), (val7 8), (val7 9), (val7 10), (val7 11), (val7 12), (val7 13), (val7 14), (val7 15), (y4 67), (y4 68), undef], [], (by simp only [e0_]), rfl, ?_⟩
        exact mix_det (met_none rfl) (fun _ h_ H_ => exd_load_own H_ tA25 rfl (i := 0) rfl (v := w1) rfl) ⟨rfl, rfl⟩
      refine mixes_cons rfl (opmix ?_) ?_
      · intro val7 pc8 hQ_ hX_
        refine ⟨[.agg #[.int .i64 (size), .int .i64 (start), .slice a n c], .slice b m d, .pointer (some ⟨b1, 0, none⟩), undef, .pointer (some ⟨b2, 0, none⟩), .pointer (some ⟨b3, 0, none⟩), .int .i64 ((((lev size start (wantOf ds) (listOf xs) k) + (xs.getD k 0)) - (max 0 (((lev size start (wantOf ds) (listOf xs) k) + (xs.getD k 0)) - size))) - (((ds.getD k dz).want) - (max 0 (((ds.getD k dz).want) - (((lev size start (wantOf ds) (listOf xs) k) + (xs.getD k 0)) - (max 0 (((lev size start (wantOf ds) (listOf xs) k) + (xs.getD k 0)) - size))))))), .int .i64 (((k : Nat) : Int)), .int .i64 (max 0 (((lev size start (wantOf ds) (listOf xs) k) + (xs.getD k 0)) - size)), .int .i64 (max 0 (((ds.getD k dz).want) - (((lev size start (wantOf ds) (listOf xs) k) + (xs.getD k 0)) - (max 0 (((lev size start (wantOf ds) (listOf xs) k) + (xs.getD k 0)) - size))))), .pointer (some ⟨b1, 1, none⟩), .int .i64 (start), .int .i64 (((k : Nat) : Int)), .slice b m d, .int .i64 (((m : Nat) : Int)), .bool (decide (((k : Nat) : Int) < ((m : Nat) : Int))), (y4 16), (y4 17), .int .i64 (lev size start (wantOf ds) (listOf xs) k), .slice b m d, .int .i64 (((k : Nat) : Int)), .pointer (some ((adr b).add (k * 1))), .int .i64 (xs.getD k 0), .int .i64 ((lev size start (wantOf ds) (listOf xs) k) + (xs.getD k 0)), .int .i64 ((lev size start (wantOf ds) (listOf xs) k) + (xs.getD k 0)), .pointer (some ⟨b1, 0, none⟩), .int .i64 (size), .int .i64 (((lev size start (wantOf ds) (listOf xs) k) + (xs.getD k 0)) - size), .int .i64 (max 0 (((lev size start (wantOf ds) (listOf xs) k) + (xs.getD k 0)) - size)), .int .i64 ((lev size start (wantOf ds) (listOf xs) k) + (xs.getD k 0)), .int .i64 (max 0 (((lev size start (wantOf ds) (listOf xs) k) + (xs.getD k 0)) - size)), .int .i64 (((lev size start (wantOf ds) (listOf xs) k) + (xs.getD k 0)) - (max 0 (((lev size start (wantOf ds) (listOf xs) k) + (xs.getD k 0)) - size))), .pointer (some ⟨b1, 2, none⟩), .slice a n c, .int .i64 (((k : Nat) : Int)), .pointer (some ((adr a).add (k * 3))), .pointer (some (((adr a).add (k * 3)).add 2)), .int .i64 ((ds.getD k dz).want), .int .i64 (((lev size start (wantOf ds) (listOf xs) k) + (xs.getD k 0)) - (max 0 (((lev size start (wantOf ds) (listOf xs) k) + (xs.getD k 0)) - size))), .int .i64 (((ds.getD k dz).want) - (((lev size start (wantOf ds) (listOf xs) k) + (xs.getD k 0)) - (max 0 (((lev size start (wantOf ds) (listOf xs) k) + (xs.getD k 0)) - size)))), .int .i64 (max 0 (((ds.getD k dz).want) - (((lev size start (wantOf ds) (listOf xs) k) + (xs.getD k 0)) - (max 0 (((lev size start (wantOf ds) (listOf xs) k) + (xs.getD k 0)) - size))))), .int .i64 (((lev size start (wantOf ds) (listOf xs) k) + (xs.getD k 0)) - (max 0 (((lev size start (wantOf ds) (listOf xs) k) + (xs.getD k 0)) - size))), .pointer (some ⟨b1, 2, none⟩), .slice a n c, .int .i64 (((k : Nat) : Int)), .pointer (some ((adr a).add (k * 3))), .pointer (some (((adr a).add (k * 3)).add 2)), .int .i64 ((ds.getD k dz).want), .int .i64 (max 0 (((ds.getD k dz).want) - (((lev size start (wantOf ds) (listOf xs) k) + (xs.getD k 0)) - (max 0 (((lev size start (wantOf ds) (listOf xs) k) + (xs.getD k 0)) - size))))), .int .i64 (((ds.getD k dz).want) - (max 0 (((ds.getD k dz).want) - (((lev size start (wantOf ds) (listOf xs) k) + (xs.getD k 0)) - (max 0 (((lev size start (wantOf ds) (listOf xs) k) + (xs.getD k 0)) - size)))))), .int .i64 ((((lev size start (wantOf ds) (listOf xs) k) + (xs.getD k 0)) - (max 0 (((lev size start (wantOf ds) (listOf xs) k) + (xs.getD k 0)) - size))) - (((ds.getD k dz).want) - (max 0 (((ds.getD k dz).want) - (((lev size start (wantOf ds) (listOf xs) k) + (xs.getD k 0)) - (max 0 (((lev size start (wantOf ds) (listOf xs) k) + (xs.getD k 0)) - size))))))), (val7 0), (val7 1), (val7 2), (val7 3), (val7 4), (val7 5), (val7 6), (val7 7), (val7 8), (val7 9), (val7 10), (val7 11), (val7 12), (val7 13), (val7 14), (val7 15), (y4 67), (y4 68), undef], [], rfl, rfl, ?_⟩
        exact mix_det (met_none rfl) (fun _ h_ H_ => exd_move (v := .int .i64 ((((lev size start (wantOf ds) (listOf xs) k) + (xs.getD k 0)) - (max 0 (((lev size start (wantOf ds) (listOf xs) k) + (xs.getD k 0)) - size))) - (((ds.getD k dz).want) - (max 0 (((ds.getD k dz).want) - (((lev size start (wantOf ds) (listOf xs) k) + (xs.getD k 0)) - (max 0 (((lev size start (wantOf ds) (listOf xs) k) + (xs.getD k 0)) - size)))))))) rfl) ⟨rfl, rfl⟩
      refine mixes_cons rfl (opmix ?_) ?_
      · intro val7 pc8 hQ_ hX_
        have e2_ : val7 2 = .int .i64 ((((lev size start (wantOf ds) (listOf xs) k) + (xs.getD k 0)) - (max 0 (((lev size start (wantOf ds) (listOf xs) k) + (xs.getD k 0)) - size))) - (((ds.getD k dz).want) - (max 0 (((ds.getD k dz).want) - (((lev size start (wantOf ds) (listOf xs) k) + (xs.getD k 0)) - (max 0 (((lev size start (wantOf ds) (listOf xs) k) + (xs.getD k 0)) - size))))))) := (hQ_ 2 rfl).1
        refine ⟨[.agg #[.int .i64 (size), .int .i64 (start), .slice a n c], .slice b m d, .pointer (some ⟨b1, 0, none⟩), undef, .pointer (some ⟨b2, 0, none⟩), .pointer (some ⟨b3, 0, none⟩), .int .i64 ((((lev size start (wantOf ds) (listOf xs) k) + (xs.getD k 0)) - (max 0 (((lev size start (wantOf ds) (listOf xs) k) + (xs.getD k 0)) - size))) - (((ds.getD k dz).want) - (max 0 (((ds.getD k dz).want) - (((lev size start (wantOf ds) (listOf xs) k) + (xs.getD k 0)) - (max 0 (((lev size start (wantOf ds) (listOf xs) k) + (xs.getD k 0)) - size))))))), .int .i64 (((k : Nat) : Int)), .int .i64 (max 0 (((lev size start (wantOf ds) (listOf xs) k) + (xs.getD k 0)) - size)), .int .i64 (max 0 (((ds.getD k dz).want) - (((lev size start (wantOf ds) (listOf xs) k) + (xs.getD k 0)) - (max 0 (((lev size start (wantOf ds) (listOf xs) k) + (xs.getD k 0)) - size))))), .pointer (some ⟨b1, 1, none⟩), .int .i64 (start), .int .i64 (((k : Nat) : Int)), .slice b m d, .int .i64 (((m : Nat) : Int)), .bool (decide (((k : Nat) : Int) < ((m : Nat) : Int))), (y4 16), (y4 17), .int .i64 (lev size start (wantOf ds) (listOf xs) k), .slice b m d, .int .i64 (((k : Nat) : Int)), .pointer (some ((adr b).add (k * 1))), .int .i64 (xs.getD k 0), .int .i64 ((lev size start (wantOf ds) (listOf xs) k) + (xs.getD k 0)), .int .i64 ((lev size start (wantOf ds) (listOf xs) k) + (xs.getD k 0)), .pointer (some ⟨b1, 0, none⟩), .int .i64 (size), .int .i64 (((lev size start (wantOf ds) (listOf xs) k) + (xs.getD k 0)) - size), .int .i64 (max 0 (((lev size start (wantOf ds) (listOf xs) k) + (xs.getD k 0)) - size)), .int .i64 ((lev size start (wantOf ds) (listOf xs) k) + (xs.getD k 0)), .int .i64 (max 0 (((lev size start (wantOf ds) (listOf xs) k) + (xs.getD k 0)) - size)), .int .i64 (((lev size start (wantOf ds) (listOf xs) k) + (xs.getD k 0)) - (max 0 (((lev size start (wantOf ds) (listOf xs) k) + (xs.getD k 0)) - size))), .pointer (some ⟨b1, 2, none⟩), .slice a n c, .int .i64 (((k : Nat) : Int)), .pointer (some ((adr a).add (k * 3))), .pointer (some (((adr a).add (k * 3)).add 2)), .int .i64 ((ds.getD k dz).want), .int .i64 (((lev size start (wantOf ds) (listOf xs) k) + (xs.getD k 0)) - (max 0 (((lev size start (wantOf ds) (listOf xs) k) + (xs.getD k 0)) - size))), .int .i64 (((ds.getD k dz).want) - (((lev size start (wantOf ds) (listOf xs) k) + (xs.getD k 0)) - (max 0 (((lev size start (wantOf ds) (listOf xs) k) + (xs.getD k 0)) - size)))), .int .i64 (max 0 (((ds.getD k dz).want) - (((lev size start (wantOf ds) (listOf xs) k) + (xs.getD k 0)) - (max 0 (((lev size start (wantOf ds) (listOf xs) k) + (xs.getD k 0)) - size))))), .int .i64 (((lev size start (wantOf ds) (listOf xs) k) + (xs.getD k 0)) - (max 0 (((lev size start (wantOf ds) (listOf xs) k) + (xs.getD k 0)) - size))), .pointer (some ⟨b1, 2, none⟩), .slice a n c, .int .i64 (((k : Nat) : Int)), .pointer (some ((adr a).add (k * 3))), .pointer (some (((adr a).add (k * 3)).add 2)), .int .i64 ((ds.getD k dz).want), .int .i64 (max 0 (((ds.getD k dz).want) - (((lev size start (wantOf ds) (listOf xs) k) + (xs.getD k 0)) - (max 0 (((lev size start (wantOf ds) (listOf xs) k) + (xs.getD k 0)) - size))))), .int .i64 (((ds.getD k dz).want) - (max 0 (((ds.getD k dz).want) - (((lev size start (wantOf ds) (listOf xs) k) + (xs.getD k 0)) - (max 0 (((lev size start (wantOf ds) (listOf xs) k) + (xs.getD k 0)) - size)))))), .int .i64 ((((lev size start (wantOf ds) (listOf xs) k) + (xs.getD k 0)) - (max 0 (((lev size start (wantOf ds) (listOf xs) k) + (xs.getD k 0)) - size))) - (((ds.getD k dz).want) - (max 0 (((ds.getD k dz).want) - (((lev size start (wantOf ds) (listOf xs) k) + (xs.getD k 0)) - (max 0 (((lev size start (wantOf ds) (listOf xs) k) + (xs.getD k 0)) - size))))))), (val7 0), (val7 1), .int .i64 ((((lev size start (wantOf ds) (listOf xs) k) + (xs.getD k 0)) - (max 0 (((lev size start (wantOf ds) (listOf xs) k) + (xs.getD k 0)) - size))) - (((ds.getD k dz).want) - (max 0 (((ds.getD k dz).want) - (((lev size start (wantOf ds) (listOf xs) k) + (xs.getD k 0)) - (max 0 (((lev size start (wantOf ds) (listOf xs) k) + (xs.getD k 0)) - size))))))), (val7 3), (val7 4), (val7 5), (val7 6), (val7 7), (val7 8), (val7 9), (val7 10), (val7 11), (val7 12), (val7 13), (val7 14), (val7 15), (y4 67), (y4 68), undef], [], (by simp only [e2_]), rfl, ?_⟩
        exact mix_buildO (met_none rfl) Try.underlying25 tS3 tZ3 (Nat.le_of_ble_eq_true rfl) (vs := [(0, .int .i64 ((((lev size start (wantOf ds) (listOf xs) k) + (xs.getD k 0)) - (max 0 (((lev size start (wantOf ds) (listOf xs) k) + (xs.getD k 0)) - size))) - (((ds.getD k dz).want) - (max 0 (((ds.getD k dz).want) - (((lev size start (wantOf ds) (listOf xs) k) + (xs.getD k 0)) - (max 0 (((lev size start (wantOf ds) (listOf xs) k) + (xs.getD k 0)) - size))))))))]) rfl rfl (es := [[.int .i64 ((((lev size start (wantOf ds) (listOf xs) k) + (xs.getD k 0)) - (max 0 (((lev size start (wantOf ds) (listOf xs) k) + (xs.getD k 0)) - size))) - (((ds.getD k dz).want) - (max 0 (((ds.getD k dz).want) - (((lev size start (wantOf ds) (listOf xs) k) + (xs.getD k 0)) - (max 0 (((lev size start (wantOf ds) (listOf xs) k) + (xs.getD k 0)) - size)))))))]]) rfl rfl rfl fun _ _ o_ => o_
      refine mixes_cons rfl (opmix ?_) ?_
      · intro val7 pc8 hQ_ hX_
        have e1_ : val7 1 = w1 := (hQ_ 1 rfl).1
        have q3_ : OwnS 3 1 (val7 3) [[.int .i64 ((((lev size start (wantOf ds) (listOf xs) k) + (xs.getD k 0)) - (max 0 (((lev size start (wantOf ds) (listOf xs) k) + (xs.getD k 0)) - size))) - (((ds.getD k dz).want) - (max 0 (((ds.getD k dz).want) - (((lev size start (wantOf ds) (listOf xs) k) + (xs.getD k 0)) - (max 0 (((lev size start (wantOf ds) (listOf xs) k) + (xs.getD k 0)) - size)))))))]] (pc8 3) := hQ_ 3 rfl
        have x16_ : pc8 16 = X1 := hX_ 16 (by decide)
        refine ⟨[.agg #[.int .i64 (size), .int .i64 (start), .slice a n c], .slice b m d, .pointer (some ⟨b1, 0, none⟩), undef, .pointer (some ⟨b2, 0, none⟩), .pointer (some ⟨b3, 0, none⟩), .int .i64 ((((lev size start (wantOf ds) (listOf xs) k) + (xs.getD k 0)) - (max 0 (((lev size start (wantOf ds) (listOf xs) k) + (xs.getD k 0)) - size))) - (((ds.getD k dz).want) - (max 0 (((ds.getD k dz).want) - (((lev size start (wantOf ds) (listOf xs) k) + (xs.getD k 0)) - (max 0 (((lev size start (wantOf ds) (listOf xs) k) + (xs.getD k 0)) - size))))))), .int .i64 (((k : Nat) : Int)), .int .i64 (max 0 (((lev size start (wantOf ds) (listOf xs) k) + (xs.getD k 0)) - size)), .int .i64 (max 0 (((ds.getD k dz).want) - (((lev size start (wantOf ds) (listOf xs) k) + (xs.getD k 0)) - (max 0 (((lev size start (wantOf ds) (listOf xs) k) + (xs.getD k 0)) - size))))), .pointer (some ⟨b1, 1, none⟩), .int .i64 (start), .int .i64 (((k : Nat) : Int)), .slice b m d, .int .i64 (((m : Nat) : Int)), .bool (decide (((k : Nat) : Int) < ((m : Nat) : Int))), (y4 16), (y4 17), .int .i64 (lev size start (wantOf ds) (listOf xs) k), .slice b m d, .int .i64 (((k : Nat) : Int)), .pointer (some ((adr b).add (k * 1))), .int .i64 (xs.getD k 0), .int .i64 ((lev size start (wantOf ds) (listOf xs) k) + (xs.getD k 0)), .int .i64 ((lev size start (wantOf ds) (listOf xs) k) + (xs.getD k 0)), .pointer (some ⟨b1, 0, none⟩), .int .i64 (size), .int .i64 (((lev size start (wantOf ds) (listOf xs) k) + (xs.getD k 0)) - size), .int .i64 (max 0 (((lev size start (wantOf ds) (listOf xs) k) + (xs.getD k 0)) - size)), .int .i64 ((lev size start (wantOf ds) (listOf xs) k) + (xs.getD k 0)), .int .i64 (max 0 (((lev size start (wantOf ds) (listOf xs) k) + (xs.getD k 0)) - size)), .int .i64 (((lev size start (wantOf ds) (listOf xs) k) + (xs.getD k 0)) - (max 0 (((lev size start (wantOf ds) (listOf xs) k) + (xs.getD k 0)) - size))), .pointer (some ⟨b1, 2, none⟩), .slice a n c, .int .i64 (((k : Nat) : Int)), .pointer (some ((adr a).add (k * 3))), .pointer (some (((adr a).add (k * 3)).add 2)), .int .i64 ((ds.getD k dz).want), .int .i64 (((lev size start (wantOf ds) (listOf xs) k) + (xs.getD k 0)) - (max 0 (((lev size start (wantOf ds) (listOf xs) k) + (xs.getD k 0)) - size))), .int .i64 (((ds.getD k dz).want) - (((lev size start (wantOf ds) (listOf xs) k) + (xs.getD k 0)) - (max 0 (((lev size start (wantOf ds) (listOf xs) k) + (xs.getD k 0)) - size)))), .int .i64 (max 0 (((ds.getD k dz).want) - (((lev size start (wantOf ds) (listOf xs) k) + (xs.getD k 0)) - (max 0 (((lev size start (wantOf ds) (listOf xs) k) + (xs.getD k 0)) - size))))), .int .i64 (((lev size start (wantOf ds) (listOf xs) k) + (xs.getD k 0)) - (max 0 (((lev size start (wantOf ds) (listOf xs) k) + (xs.getD k 0)) - size))), .pointer (some ⟨b1, 2, none⟩), .slice a n c, .int .i64 (((k : Nat) : Int)), .pointer (some ((adr a).add (k * 3))), .pointer (some (((adr a).add (k * 3)).add 2)), .int .i64 ((ds.getD k dz).want), .int .i64 (max 0 (((ds.getD k dz).want) - (((lev size start (wantOf ds) (listOf xs) k) + (xs.getD k 0)) - (max 0 (((lev size start (wantOf ds) (listOf xs) k) + (xs.getD k 0)) - size))))), .int .i64 (((ds.getD k dz).want) - (max 0 (((ds.getD k dz).want) - (((lev size start (wantOf ds) (listOf xs) k) + (xs.getD k 0)) - (max 0 (((lev size start (wantOf ds) (listOf xs) k) + (xs.getD k 0)) - size)))))), .int .i64 ((((lev size start (wantOf ds) (listOf xs) k) + (xs.getD k 0)) - (max 0 (((lev size start (wantOf ds) (listOf xs) k) + (xs.getD k 0)) - size))) - (((ds.getD k dz).want) - (max 0 (((ds.getD k dz).want) - (((lev size start (wantOf ds) (listOf xs) k) + (xs.getD k 0)) - (max 0 (((lev size start (wantOf ds) (listOf xs) k) + (xs.getD k 0)) - size))))))), (val7 0), w1, (val7 2), (val7 3), (val7 4), (val7 5), (val7 6), (val7 7), (val7 8), (val7 9), (val7 10), (val7 11), (val7 12), (val7 13), (val7 14), (val7 15), (y4 67), (y4 68), undef], (X1 ++ ((pc8 3) ++ [])), (by simp only [e1_]), (by rw [← x16_]; rfl), ?_⟩
        exact mix_append (met_none rfl) Try.underlying25 tS3 tZ3 rfl tB3 Try.underlying25 rfl rfl o1 q3_ (ones_of rfl) (by rw [ns_length]; simp only [List.length_cons, List.length_nil]; omega) (by decide) fun _ _ o_ => o_
      refine mixes_cons rfl (opmix ?_) ?_
      · intro val7 pc8 hQ_ hX_
        refine ⟨[.agg #[.int .i64 (size), .int .i64 (start), .slice a n c], .slice b m d, .pointer (some ⟨b1, 0, none⟩), undef, .pointer (some ⟨b2, 0, none⟩), .pointer (some ⟨b3, 0, none⟩), .int .i64 ((((lev size start (wantOf ds) (listOf xs) k) + (xs.getD k 0)) - (max 0 (((lev size start (wantOf ds) (listOf xs) k) + (xs.getD k 0)) - size))) - (((ds.getD k dz).want) - (max 0 (((ds.getD k dz).want) - (((lev size start (wantOf ds) (listOf xs) k) + (xs.getD k 0)) - (max 0 (((lev size start (wantOf ds) (listOf xs) k) + (xs.getD k 0)) - size))))))), .int .i64 (((k : Nat) : Int)), .int .i64 (max 0 (((lev size start (wantOf ds) (listOf xs) k) + (xs.getD k 0)) - size)), .int .i64 (max 0 (((ds.getD k dz).want) - (((lev size start (wantOf ds) (listOf xs) k) + (xs.getD k 0)) - (max 0 (((lev size start (wantOf ds) (listOf xs) k) + (xs.getD k 0)) - size))))), .pointer (some ⟨b1, 1, none⟩), .int .i64 (start), .int .i64 (((k : Nat) : Int)), .slice b m d, .int .i64 (((m : Nat) : Int)), .bool (decide (((k : Nat) : Int) < ((m : Nat) : Int))), (y4 16), (y4 17), .int .i64 (lev size start (wantOf ds) (listOf xs) k), .slice b m d, .int .i64 (((k : Nat) : Int)), .pointer (some ((adr b).add (k * 1))), .int .i64 (xs.getD k 0), .int .i64 ((lev size start (wantOf ds) (listOf xs) k) + (xs.getD k 0)), .int .i64 ((lev size start (wantOf ds) (listOf xs) k) + (xs.getD k 0)), .pointer (some ⟨b1, 0, none⟩), .int .i64 (size), .int .i64 (((lev size start (wantOf ds) (listOf xs) k) + (xs.getD k 0)) - size), .int .i64 (max 0 (((lev size start (wantOf ds) (listOf xs) k) + (xs.getD k 0)) - size)), .int .i64 ((lev size start (wantOf ds) (listOf xs) k) + (xs.getD k 0)), .int .i64 (max 0 (((lev size start (wantOf ds) (listOf xs) k) + (xs.getD k 0)) - size)), .int .i64 (((lev size start (wantOf ds) (listOf xs) k) + (xs.getD k 0)) - (max 0 (((lev size start (wantOf ds) (listOf xs) k) + (xs.getD k 0)) - size))), .pointer (some ⟨b1, 2, none⟩), .slice a n c, .int .i64 (((k : Nat) : Int)), .pointer (some ((adr a).add (k * 3))), .pointer (some (((adr a).add (k * 3)).add 2)), .int .i64 ((ds.getD k dz).want), .int .i64 (((lev size start (wantOf ds) (listOf xs) k) + (xs.getD k 0)) - (max 0 (((lev size start (wantOf ds) (listOf xs) k) + (xs.getD k 0)) - size))), .int .i64 (((ds.getD k dz).want) - (((lev size start (wantOf ds) (listOf xs) k) + (xs.getD k 0)) - (max 0 (((lev size start (wantOf ds) (listOf xs) k) + (xs.getD k 0)) - size)))), .int .i64 (max 0 (((ds.getD k dz).want) - (((lev size start (wantOf ds) (listOf xs) k) + (xs.getD k 0)) - (max 0 (((lev size start (wantOf ds) (listOf xs) k) + (xs.getD k 0)) - size))))), .int .i64 (((lev size start (wantOf ds) (listOf xs) k) + (xs.getD k 0)) - (max 0 (((lev size start (wantOf ds) (listOf xs) k) + (xs.getD k 0)) - size))), .pointer (some ⟨b1, 2, none⟩), .slice a n c, .int .i64 (((k : Nat) : Int)), .pointer (some ((adr a).add (k * 3))), .pointer (some (((adr a).add (k * 3)).add 2)), .int .i64 ((ds.getD k dz).want), .int .i64 (max 0 (((ds.getD k dz).want) - (((lev size start (wantOf ds) (listOf xs) k) + (xs.getD k 0)) - (max 0 (((lev size start (wantOf ds) (listOf xs) k) + (xs.getD k 0)) - size))))), .int .i64 (((ds.getD k dz).want) - (max 0 (((ds.getD k dz).want) - (((lev size start (wantOf ds) (listOf xs) k) + (xs.getD k 0)) - (max 0 (((lev size start (wantOf ds) (listOf xs) k) + (xs.getD k 0)) - size)))))), .int .i64 ((((lev size start (wantOf ds) (listOf xs) k) + (xs.getD k 0)) - (max 0 (((lev size start (wantOf ds) (listOf xs) k) + (xs.getD k 0)) - size))) - (((ds.getD k dz).want) - (max 0 (((ds.getD k dz).want) - (((lev size start (wantOf ds) (listOf xs) k) + (xs.getD k 0)) - (max 0 (((lev size start (wantOf ds) (listOf xs) k) + (xs.getD k 0)) - size))))))), (val7 0), (val7 1), (val7 2), (val7 3), (val7 4), (val7 5), (val7 6), (val7 7), (val7 8), (val7 9), (val7 10), (val7 11), (val7 12), (val7 13), (val7 14), (val7 15), (y4 67), (y4 68), undef], [], rfl, rfl, ?_⟩
        exact mix_det (met_none rfl) (fun _ h_ H_ => exd_fieldAddr tF30_1 rfl (a' := ⟨b3, 1, none⟩) rfl) ⟨rfl, rfl⟩
      refine mixes_cons rfl (opmix ?_) ?_
      · intro val7 pc8 hQ_ hX_
        have e5_ : val7 5 = .pointer (some ⟨b3, 1, none⟩) := (hQ_ 5 rfl).1
        refine ⟨[.agg #[.int .i64 (size), .int .i64 (start), .slice a n c], .slice b m d, .pointer (some ⟨b1, 0, none⟩), undef, .pointer (some ⟨b2, 0, none⟩), .pointer (some ⟨b3, 0, none⟩), .int .i64 ((((lev size start (wantOf ds) (listOf xs) k) + (xs.getD k 0)) - (max 0 (((lev size start (wantOf ds) (listOf xs) k) + (xs.getD k 0)) - size))) - (((ds.getD k dz).want) - (max 0 (((ds.getD k dz).want) - (((lev size start (wantOf ds) (listOf xs) k) + (xs.getD k 0)) - (max 0 (((lev size start (wantOf ds) (listOf xs) k) + (xs.getD k 0)) - size))))))), .int .i64 (((k : Nat) : Int)), .int .i64 (max 0 (((lev size start (wantOf ds) (listOf xs) k) + (xs.getD k 0)) - size)), .int .i64 (max 0 (((ds.getD k dz).want) - (((lev size start (wantOf ds) (listOf xs) k) + (xs.getD k 0)) - (max 0 (((lev size start (wantOf ds) (listOf xs) k) + (xs.getD k 0)) - size))))), .pointer (some ⟨b1, 1, none⟩), .int .i64 (start), .int .i64 (((k : Nat) : Int)), .slice b m d, .int .i64 (((m : Nat) : Int)), .bool (decide (((k : Nat) : Int) < ((m : Nat) : Int))), (y4 16), (y4 17), .int .i64 (lev size start (wantOf ds) (listOf xs) k), .slice b m d, .int .i64 (((k : Nat) : Int)), .pointer (some ((adr b).add (k * 1))), .int .i64 (xs.getD k 0), .int .i64 ((lev size start (wantOf ds) (listOf xs) k) + (xs.getD k 0)), .int .i64 ((lev size start (wantOf ds) (listOf xs) k) + (xs.getD k 0)), .pointer (some ⟨b1, 0, none⟩), .int .i64 (size), .int .i64 (((lev size start (wantOf ds) (listOf xs) k) + (xs.getD k 0)) - size), .int .i64 (max 0 (((lev size start (wantOf ds) (listOf xs) k) + (xs.getD k 0)) - size)), .int .i64 ((lev size start (wantOf ds) (listOf xs) k) + (xs.getD k 0)), .int .i64 (max 0 (((lev size start (wantOf ds) (listOf xs) k) + (xs.getD k 0)) - size)), .int .i64 (((lev size start (wantOf ds) (listOf xs) k) + (xs.getD k 0)) - (max 0 (((lev size start (wantOf ds) (listOf xs) k) + (xs.getD k 0)) - size))), .pointer (some ⟨b1, 2, none⟩), .slice a n c, .int .i64 (((k : Nat) : Int)), .pointer (some ((adr a).add (k * 3))), .pointer (some (((adr a).add (k * 3)).add 2)), .int .i64 ((ds.getD k dz).want), .int .i64 (((lev size start (wantOf ds) (listOf xs) k) + (xs.getD k 0)) - (max 0 (((lev size start (wantOf ds) (listOf xs) k) + (xs.getD k 0)) - size))), .int .i64 (((ds.getD k dz).want) - (((lev size start (wantOf ds) (listOf xs) k) + (xs.getD k 0)) - (max 0 (((lev size start (wantOf ds) (listOf xs) k) + (xs.getD k 0)) - size)))), .int .i64 (max 0 (((ds.getD k dz).want) - (((lev size start (wantOf ds) (listOf xs) k) + (xs.getD k 0)) - (max 0 (((lev size start (wantOf ds) (listOf xs) k) + (xs.getD k 0)) - size))))), .int .i64 (((lev size start (wantOf ds) (listOf xs) k) + (xs.getD k 0)) - (max 0 (((lev size start (wantOf ds) (listOf xs) k) + (xs.getD k 0)) - size))), .pointer (some ⟨b1, 2, none⟩), .slice a n c, .int .i64 (((k : Nat) : Int)), .pointer (some ((adr a).add (k * 3))), .pointer (some (((adr a).add (k * 3)).add 2)), .int .i64 ((ds.getD k dz).want), .int .i64 (max 0 (((ds.getD k dz).want) - (((lev size start (wantOf ds) (listOf xs) k) + (xs.getD k 0)) - (max 0 (((lev size start (wantOf ds) (listOf xs) k) + (xs.getD k 0)) - size))))), .int .i64 (((ds.getD k dz).want) - (max 0 (((ds.getD k dz).want) - (((lev size start (wantOf ds) (listOf xs) k) + (xs.getD k 0)) - (max 0 (((lev size start (wantOf ds) (listOf xs) k) + (xs.getD k 0)) - size)))))), .int .i64 ((((lev size start (wantOf ds) (listOf xs) k) + (xs.getD k 0)) - (max 0 (((lev size start (wantOf ds) (listOf xs) k) + (xs.getD k 0)) - size))) - (((ds.getD k dz).want) - (max 0 (((ds.getD k dz).want) - (((lev size start (wantOf ds) (listOf xs) k) + (xs.getD k 0)) - (max 0 (((lev size start (wantOf ds) (listOf xs) k) + (xs.getD k 0)) - size))))))), (val7 0), (val7 1), (val7 2), (val7 3), (val7 4), .pointer (some ⟨b3, 1, none⟩), (val7 6), (val7 7), (val7 8), (val7 9), (val7 10), (val7 11), (val7 12), (val7 13), (val7 14), (val7 15), (y4 67), (y4 68), undef], [], (by simp only [e5_]), rfl, ?_⟩
        exact mix_det (met_none rfl) (fun _ h_ H_ => exd_load_own H_ tA25 rfl (i := 0) rfl (v := w2) rfl) ⟨rfl, rfl⟩
      refine mixes_cons rfl (opmix ?_) ?_
      · intro val7 pc8 hQ_ hX_
        refine ⟨[.agg #[.int .i64 (size), .int .i64 (start), .slice a n c], .slice b m d, .pointer (some ⟨b1, 0, none⟩), undef, .pointer (some ⟨b2, 0, none⟩), .pointer (some ⟨b3, 0, none⟩), .int .i64 ((((lev size start (wantOf ds) (listOf xs) k) + (xs.getD k 0)) - (max 0 (((lev size start (wantOf ds) (listOf xs) k) + (xs.getD k 0)) - size))) - (((ds.getD k dz).want) - (max 0 (((ds.getD k dz).want) - (((lev size start (wantOf ds) (listOf xs) k) + (xs.getD k 0)) - (max 0 (((lev size start (wantOf ds) (listOf xs) k) + (xs.getD k 0)) - size))))))), .int .i64 (((k : Nat) : Int)), .int .i64 (max 0 (((lev size start (wantOf ds) (listOf xs) k) + (xs.getD k 0)) - size)), .int .i64 (max 0 (((ds.getD k dz).want) - (((lev size start (wantOf ds) (listOf xs) k) + (xs.getD k 0)) - (max 0 (((lev size start (wantOf ds) (listOf xs) k) + (xs.getD k 0)) - size))))), .pointer (some ⟨b1, 1, none⟩), .int .i64 (start), .int .i64 (((k : Nat) : Int)), .slice b m d, .int .i64 (((m : Nat) : Int)), .bool (decide (((k : Nat) : Int) < ((m : Nat) : Int))), (y4 16), (y4 17), .int .i64 (lev size start (wantOf ds) (listOf xs) k), .slice b m d, .int .i64 (((k : Nat) : Int)), .pointer (some ((adr b).add (k * 1))), .int .i64 (xs.getD k 0), .int .i64 ((lev size start (wantOf ds) (listOf xs) k) + (xs.getD k 0)), .int .i64 ((lev size start (wantOf ds) (listOf xs) k) + (xs.getD k 0)), .pointer (some ⟨b1, 0, none⟩), .int .i64 (size), .int .i64 (((lev size start (wantOf ds) (listOf xs) k) + (xs.getD k 0)) - size), .int .i64 (max 0 (((lev size start (wantOf ds) (listOf xs) k) + (xs.getD k 0)) - size)), .int .i64 ((lev size start (wantOf ds) (listOf xs) k) + (xs.getD k 0)), .int .i64 (max 0 (((lev size start (wantOf ds) (listOf xs) k) + (xs.getD k 0)) - size)), .int .i64 (((lev size start (wantOf ds) (listOf xs) k) + (xs.getD k 0)) - (max 0 (((lev size start (wantOf ds) (listOf xs) k) + (xs.getD k 0)) - size))), .pointer (some ⟨b1, 2, none⟩), .slice a n c, .int .i64 (((k : Nat) : Int)), .pointer (some ((adr a).add (k * 3))), .pointer (some (((adr a).add (k * 3)).add 2)), .int .i64 ((ds.getD k dz).want), .int .i64 (((lev size start (wantOf ds) (listOf xs) k) + (xs.getD k 0)) - (max 0 (((lev size start (wantOf ds) (listOf xs) k) + (xs.getD k 0)) - size))), .int .i64 (((ds.getD k dz).want) - (((lev size start (wantOf ds) (listOf xs) k) + (xs.getD k 0)) - (max 0 (((lev size start (wantOf ds) (listOf xs) k) + (xs.getD k 0)) - size)))), .int .i64 (max 0 (((ds.getD k dz).want) - (((lev size start (wantOf ds) (listOf xs) k) + (xs.getD k 0)) - (max 0 (((lev size start (wantOf ds) (listOf xs) k) + (xs.getD k 0)) - size))))), .int .i64 (((lev size start (wantOf ds) (listOf xs) k) + (xs.getD k 0)) - (max 0 (((lev size start (wantOf ds) (listOf xs) k) + (xs.getD k 0)) - size))), .pointer (some ⟨b1, 2, none⟩), .slice a n c, .int .i64 (((k : Nat) : Int)), .pointer (some ((adr a).add (k * 3))), .pointer (some (((adr a).add (k * 3)).add 2)), .int .i64 ((ds.getD k dz).want), .int .i64 (max 0 (((ds.getD k dz).want) - (((lev size start (wantOf ds) (listOf xs) k) + (xs.getD k 0)) - (max 0 (((lev size start (wantOf ds) (listOf xs) k) + (xs.getD k 0)) - size))))), .int .i64 (((ds.getD k dz).want) - (max 0 (((ds.getD k dz).want) - (((lev size start (wantOf ds) (listOf xs) k) + (xs.getD k 0)) - (max 0 (((lev size start (wantOf ds) (listOf xs) k) + (xs.getD k 0)) - size)))))), .int .i64 ((((lev size start (wantOf ds) (listOf xs) k) + (xs.getD k 0)) - (max 0 (((lev size start (wantOf ds) (listOf xs) k) + (xs.getD k 0)) - size))) - (((ds.getD k dz).want) - (max 0 (((ds.getD k dz).want) - (((lev size start (wantOf ds) (listOf xs) k) + (xs.getD k 0)) - (max 0 (((lev size start (wantOf ds) (listOf xs) k) + (xs.getD k 0)) - size))))))), (val7 0), (val7 1), (val7 2), (val7 3), (val7 4), (val7 5), (val7 6), (val7 7), (val7 8), (val7 9), (val7 10), (val7 11), (val7 12), (val7 13), (val7 14), (val7 15), (y4 67), (y4 68), undef], [], rfl, rfl, ?_⟩
        exact mix_det (met_none rfl) (fun _ h_ H_ => exd_move (v := .int .i64 (max 0 (((ds.getD k dz).want) - (((lev size start (wantOf ds) (listOf xs) k) + (xs.getD k 0)) - (max 0 (((lev size start (wantOf ds) (listOf xs) k) + (xs.getD k 0)) - size)))))) rfl) ⟨rfl, rfl⟩
      refine mixes_cons rfl (opmix ?_) ?_
      · intro val7 pc8 hQ_ hX_
        have e7_ : val7 7 = .int .i64 (max 0 (((ds.getD k dz).want) - (((lev size start (wantOf ds) (listOf xs) k) + (xs.getD k 0)) - (max 0 (((lev size start (wantOf ds) (listOf xs) k) + (xs.getD k 0)) - size))))) := (hQ_ 7 rfl).1
        refine ⟨[.agg #[.int .i64 (size), .int .i64 (start), .slice a n c], .slice b m d, .pointer (some ⟨b1, 0, none⟩), undef, .pointer (some ⟨b2, 0, none⟩), .pointer (some ⟨b3, 0, none⟩), .int .i64 ((((lev size start (wantOf ds) (listOf xs) k) + (xs.getD k 0)) - (max 0 (((lev size start (wantOf ds) (listOf xs) k) + (xs.getD k 0)) - size))) - (((ds.getD k dz).want) - (max 0 (((ds.getD k dz).want) - (((lev size start (wantOf ds) (listOf xs) k) + (xs.getD k 0)) - (max 0 (((lev size start (wantOf ds) (listOf xs) k) + (xs.getD k 0)) - size))))))), .int .i64 (((k : Nat) : Int)), .int .i64 (max 0 (((lev size start (wantOf ds) (listOf xs) k) + (xs.getD k 0)) - size)), .int .i64 (max 0 (((ds.getD k dz).want) - (((lev size start (wantOf ds) (listOf xs) k) + (xs.getD k 0)) - (max 0 (((lev size start (wantOf ds) (listOf xs) k) + (xs.getD k 0)) - size))))), .pointer (some ⟨b1, 1, none⟩), .int .i64 (start), .int .i64 (((k : Nat) : Int)), .slice b m d, .int .i64 (((m : Nat) : Int)), .bool (decide (((k : Nat) : Int) < ((m : Nat) : Int))), (y4 16), (y4 17), .int .i64 (lev size start (wantOf ds) (listOf xs) k), .slice b m d, .int .i64 (((k : Nat) : Int)), .pointer (some ((adr b).add (k * 1))), .int .i64 (xs.getD k 0), .int .i64 ((lev size start (wantOf ds) (listOf xs) k) + (xs.getD k 0)), .int .i64 ((lev size start (wantOf ds) (listOf xs) k) + (xs.getD k 0)), .pointer (some ⟨b1, 0, none⟩), .int .i64 (size), .int .i64 (((lev size start (wantOf ds) (listOf xs) k) + (xs.getD k 0)) - size), .int .i64 (max 0 (((lev size start (wantOf ds) (listOf xs) k) + (xs.getD k 0)) - size)), .int .i64 ((lev size start (wantOf ds) (listOf xs) k) + (xs.getD k 0)), .int .i64 (max 0 (((lev size start (wantOf ds) (listOf xs) k) + (xs.getD k 0)) - size)), .int .i64 (((lev size start (wantOf ds) (listOf xs) k) + (xs.getD k 0)) - (max 0 (((lev size start (wantOf ds) (listOf xs) k) + (xs.getD k 0)) - size))), .pointer (some ⟨b1, 2, none⟩), .slice a n c, .int .i64 (((k : Nat) : Int)), .pointer (some ((adr a).add (k * 3))), .pointer (some (((adr a).add (k * 3)).add 2)), .int .i64 ((ds.getD k dz).want), .int .i64 (((lev size start (wantOf ds) (listOf xs) k) + (xs.getD k 0)) - (max 0 (((lev size start (wantOf ds) (listOf xs) k) + (xs.getD k 0)) - size))), .int .i64 (((ds.getD k dz).want) - (((lev size start (wantOf ds) (listOf xs) k) + (xs.getD k 0)) - (max 0 (((lev size start (wantOf ds) (listOf xs) k) + (xs.getD k 0)) - size)))), .int .i64 (max 0 (((ds.getD k dz).want) - (((lev size start (wantOf ds) (listOf xs) k) + (xs.getD k 0)) - (max 0 (((lev size start (wantOf ds) (listOf xs) k) + (xs.getD k 0)) - size))))), .int .i64 (((lev size start (wantOf ds) (listOf xs) k) + (xs.getD k 0)) - (max 0 (((lev size start (wantOf ds) (listOf xs) k) + (xs.getD k 0)) - size))), .pointer (some ⟨b1, 2, none⟩), .slice a n c, .int .i64 (((k : Nat) : Int)), .pointer (some ((adr a).add (k * 3))), .pointer (some (((adr a).add (k * 3)).add 2)), .int .i64 ((ds.getD k dz).want), .int .i64 (max 0 (((ds.getD k dz).want) - (((lev size start (wantOf ds) (listOf xs) k) + (xs.getD k 0)) - (max 0 (((lev size start (wantOf ds) (listOf xs) k) + (xs.getD k 0)) - size))))), .int .i64 (((ds.getD k dz).want) - (max 0 (((ds.getD k dz).want) - (((lev size start (wantOf ds) (listOf xs) k) + (xs.getD k 0)) - (max 0 (((lev size start (wantOf ds) (listOf xs) k) + (xs.getD k 0)) - size)))))), .int .i64 ((((lev size start (wantOf ds) (listOf xs) k) + (xs.getD k 0)) - (max 0 (((lev size start (wantOf ds) (listOf xs) k) + (xs.getD k 0)) - size))) - (((ds.getD k dz).want) - (max 0 (((ds.getD k dz).want) - (((lev size start (wantOf ds) (listOf xs) k) + (xs.getD k 0)) - (max 0 (((lev size start (wantOf ds) (listOf xs) k) + (xs.getD k 0)) - size))))))), (val7 0), (val7 1), (val7 2), (val7 3), (val7 4), (val7 5), (val7 6), .int .i64 (max 0 (((ds.getD k dz).want) - (((lev size start (wantOf ds) (listOf xs) k) + (xs.getD k 0)) - (max 0 (((lev size start (wantOf ds) (listOf xs) k) + (xs.getD k 0)) - size))))), (val7 8), (val7 9), (val7 10), (val7 11), (val7 12), (val7 13), (val7 14), (val7 15), (y4 67), (y4 68), undef], [], (by simp only [e7_]), rfl, ?_⟩
        exact mix_buildO (met_none rfl) Try.underlying25 tS3 tZ3 (Nat.le_of_ble_eq_true rfl) (vs := [(0, .int .i64 (max 0 (((ds.getD k dz).want) - (((lev size start (wantOf ds) (listOf xs) k) + (xs.getD k 0)) - (max 0 (((lev size start (wantOf ds) (listOf xs) k) + (xs.getD k 0)) - size))))))]) rfl rfl (es := [[.int .i64 (max 0 (((ds.getD k dz).want) - (((lev size start (wantOf ds) (listOf xs) k) + (xs.getD k 0)) - (max 0 (((lev size start (wantOf ds) (listOf xs) k) + (xs.getD k 0)) - size)))))]]) rfl rfl rfl fun _ _ o_ => o_
      refine mixes_cons rfl (opmix ?_) ?_
      · intro val7 pc8 hQ_ hX_
        have q4_ : OwnS 3 1 (val7 4) (ns (levs size start (wantOf ds) (listOf xs)) k ++ [[.int .i64 ((((lev size start (wantOf ds) (listOf xs) k) + (xs.getD k 0)) - (max 0 (((lev size start (wantOf ds) (listOf xs) k) + (xs.getD k 0)) - size))) - (((ds.getD k dz).want) - (max 0 (((ds.getD k dz).want) - (((lev size start (wantOf ds) (listOf xs) k) + (xs.getD k 0)) - (max 0 (((lev size start (wantOf ds) (listOf xs) k) + (xs.getD k 0)) - size)))))))]]) (pc8 4) := hQ_ 4 rfl
        have e6_ : val7 6 = w2 := (hQ_ 6 rfl).1
        have q8_ : OwnS 3 1 (val7 8) [[.int .i64 (max 0 (((ds.getD k dz).want) - (((lev size start (wantOf ds) (listOf xs) k) + (xs.getD k 0)) - (max 0 (((lev size start (wantOf ds) (listOf xs) k) + (xs.getD k 0)) - size)))))]] (pc8 8) := hQ_ 8 rfl
        have x17_ : pc8 17 = X2 := hX_ 17 (by decide)
        refine ⟨[.agg #[.int .i64 (size), .int .i64 (start), .slice a n c], .slice b m d, .pointer (some ⟨b1, 0, none⟩), undef, .pointer (some ⟨b2, 0, none⟩), .pointer (some ⟨b3, 0, none⟩), .int .i64 ((((lev size start (wantOf ds) (listOf xs) k) + (xs.getD k 0)) - (max 0 (((lev size start (wantOf ds) (listOf xs) k) + (xs.getD k 0)) - size))) - (((ds.getD k dz).want) - (max 0 (((ds.getD k dz).want) - (((lev size start (wantOf ds) (listOf xs) k) + (xs.getD k 0)) - (max 0 (((lev size start (wantOf ds) (listOf xs) k) + (xs.getD k 0)) - size))))))), .int .i64 (((k : Nat) : Int)), .int .i64 (max 0 (((lev size start (wantOf ds) (listOf xs) k) + (xs.getD k 0)) - size)), .int .i64 (max 0 (((ds.getD k dz).want) - (((lev size start (wantOf ds) (listOf xs) k) + (xs.getD k 0)) - (max 0 (((lev size start (wantOf ds) (listOf xs) k) + (xs.getD k 0)) - size))))), .pointer (some ⟨b1, 1, none⟩), .int .i64 (start), .int .i64 (((k : Nat) : Int)), .slice b m d, .int .i64 (((m : Nat) : Int)), .bool (decide (((k : Nat) : Int) < ((m : Nat) : Int))), (y4 16), (y4 17), .int .i64 (lev size start (wantOf ds) (listOf xs) k), .slice b m d, .int .i64 (((k : Nat) : Int)), .pointer (some ((adr b).add (k * 1))), .int .i64 (xs.getD k 0), .int .i64 ((lev size start (wantOf ds) (listOf xs) k) + (xs.getD k 0)), .int .i64 ((lev size start (wantOf ds) (listOf xs) k) + (xs.getD k 0)), .pointer (some ⟨b1, 0, none⟩), .int .i64 (size), .int .i64 (((lev size start (wantOf ds) (listOf xs) k) + (xs.getD k 0)) - size), .int .i64 (max 0 (((lev size start (wantOf ds) (listOf xs) k) + (xs.getD k 0)) - size)), .int .i64 ((lev size start (wantOf ds) (listOf xs) k) + (xs.getD k 0)), .int .i64 (max 0 (((lev size start (wantOf ds) (listOf xs) k) + (xs.getD k 0)) - size)), .int .i64 (((lev size start (wantOf ds) (listOf xs) k) + (xs.getD k 0)) - (max 0 (((lev size start (wantOf ds) (listOf xs) k) + (xs.getD k 0)) - size))), .pointer (some ⟨b1, 2, none⟩), .slice a n c, .int .i64 (((k : Nat) : Int)), .pointer (some ((adr a).add (k * 3))), .pointer (some (((adr a).add (k * 3)).add 2)), .int .i64 ((ds.getD k dz).want), .int .i64 (((lev size start (wantOf ds) (listOf xs) k) + (xs.getD k 0)) - (max 0 (((lev size start (wantOf ds) (listOf xs) k) + (xs.getD k 0)) - size))), .int .i64 (((ds.getD k dz).want) - (((lev size start (wantOf ds) (listOf xs) k) + (xs.getD k 0)) - (max 0 (((lev size start (wantOf ds) (listOf xs) k) + (xs.getD k 0)) - size)))), .int .i64 (max 0 (((ds.getD k dz).want) - (((lev size start (wantOf ds) (listOf xs) k) + (xs.getD k 0)) - (max 0 (((lev size start (wantOf ds) (listOf xs) k) + (xs.getD k 0)) - size))))), .int .i64 (((lev size start (wantOf ds) (listOf xs) k) + (xs.getD k 0)) - (max 0 (((lev size start (wantOf ds) (listOf xs) k) + (xs.getD k 0)) - size))), .pointer (some ⟨b1, 2, none⟩), .slice a n c, .int .i64 (((k : Nat) : Int)), .pointer (some ((adr a).add (k * 3))), .pointer (some (((adr a).add (k * 3)).add 2)), .int .i64 ((ds.getD k dz).want), .int .i64 (max 0 (((ds.getD k dz).want) - (((lev size start (wantOf ds) (listOf xs) k) + (xs.getD k 0)) - (max 0 (((lev size start (wantOf ds) (listOf xs) k) + (xs.getD k 0)) - size))))), .int .i64 (((ds.getD k dz).want) - (max 0 (((ds.getD k dz).want) - (((lev size start (wantOf ds) (listOf xs) k) + (xs.getD k 0)) - (max 0 (((lev size start (wantOf ds) (listOf xs) k) + (xs.getD k 0)) - size)))))), .int .i64 ((((lev size start (wantOf ds) (listOf xs) k) + (xs.getD k 0)) - (max 0 (((lev size start (wantOf ds) (listOf xs) k) + (xs.getD k 0)) - size))) - (((ds.getD k dz).want) - (max 0 (((ds.getD k dz).want) - (((lev size start (wantOf ds) (listOf xs) k) + (xs.getD k 0)) - (max 0 (((lev size start (wantOf ds) (listOf xs) k) + (xs.getD k 0)) - size))))))), (val7 0), (val7 1), (val7 2), (val7 3), (val7 4), (val7 5), w2, (val7 7), (val7 8), (val7 9), (val7 10), (val7 11), (val7 12), (val7 13), (val7 14), (val7 15), (y4 67), (y4 68), undef], (X2 ++ ((pc8 8) ++ [])), (by simp only [e6_]), (by rw [← x17_]; rfl), ?_⟩
        exact mix_append (met_none rfl) Try.underlying25 tS3 tZ3 rfl tB3 Try.underlying25 rfl rfl o2 q8_ (ones_of rfl) (by rw [ns_length]; simp only [List.length_cons, List.length_nil]; omega) (by decide) fun _ _ o_ => o_
      refine mixes_cons rfl (opmix ?_) ?_
      · intro val7 pc8 hQ_ hX_
        refine ⟨[.agg #[.int .i64 (size), .int .i64 (start), .slice a n c], .slice b m d, .pointer (some ⟨b1, 0, none⟩), undef, .pointer (some ⟨b2, 0, none⟩), .pointer (some ⟨b3, 0, none⟩), .int .i64 ((((lev size start (wantOf ds) (listOf xs) k) + (xs.getD k 0)) - (max 0 (((lev size start (wantOf ds) (listOf xs) k) + (xs.getD k 0)) - size))) - (((ds.getD k dz).want) - (max 0 (((ds.getD k dz).want) - (((lev size start (wantOf ds) (listOf xs) k) + (xs.getD k 0)) - (max 0 (((lev size start (wantOf ds) (listOf xs) k) + (xs.getD k 0)) - size))))))), .int .i64 (((k : Nat) : Int)), .int .i64 (max 0 (((lev size start (wantOf ds) (listOf xs) k) + (xs.getD k 0)) - size)), .int .i64 (max 0 (((ds.getD k dz).want) - (((lev size start (wantOf ds) (listOf xs) k) + (xs.getD k 0)) - (max 0 (((lev size start (wantOf ds) (listOf xs) k) + (xs.getD k 0)) - size))))), .pointer (some ⟨b1, 1, none⟩), .int .i64 (start), .int .i64 (((k : Nat) : Int)), .slice b m d, .int .i64 (((m : Nat) : Int)), .bool (decide (((k : Nat) : Int) < ((m : Nat) : Int))), (y4 16), (y4 17), .int .i64 (lev size start (wantOf ds) (listOf xs) k), .slice b m d, .int .i64 (((k : Nat) : Int)), .pointer (some ((adr b).add (k * 1))), .int .i64 (xs.getD k 0), .int .i64 ((lev size start (wantOf ds) (listOf xs) k) + (xs.getD k 0)), .int .i64 ((lev size start (wantOf ds) (listOf xs) k) + (xs.getD k 0)), .pointer (some ⟨b1, 0, none⟩), .int .i64 (size), .int .i64 (((lev size start (wantOf ds) (listOf xs) k) + (xs.getD k 0)) - size), .int .i64 (max 0 (((lev size start (wantOf ds) (listOf xs) k) + (xs.getD k 0)) - size)), .int .i64 ((lev size start (wantOf ds) (listOf xs) k) + (xs.getD k 0)), .int .i64 (max 0 (((lev size start (wantOf ds) (listOf xs) k) + (xs.getD k 0)) - size)), .int .i64 (((lev size start (wantOf ds) (listOf xs) k) + (xs.getD k 0)) - (max 0 (((lev size start (wantOf ds) (listOf xs) k) + (xs.getD k 0)) - size))), .pointer (some ⟨b1, 2, none⟩), .slice a n c, .int .i64 (((k : Nat) : Int)), .pointer (some ((adr a).add (k * 3))), .pointer (some (((adr a).add (k * 3)).add 2)), .int .i64 ((ds.getD k dz).want), .int .i64 (((lev size start (wantOf ds) (listOf xs) k) + (xs.getD k 0)) - (max 0 (((lev size start (wantOf ds) (listOf xs) k) + (xs.getD k 0)) - size))), .int .i64 (((ds.getD k dz).want) - (((lev size start (wantOf ds) (listOf xs) k) + (xs.getD k 0)) - (max 0 (((lev size start (wantOf ds) (listOf xs) k) + (xs.getD k 0)) - size)))), .int .i64 (max 0 (((ds.getD k dz).want) - (((lev size start (wantOf ds) (listOf xs) k) + (xs.getD k 0)) - (max 0 (((lev size start (wantOf ds) (listOf xs) k) + (xs.getD k 0)) - size))))), .int .i64 (((lev size start (wantOf ds) (listOf xs) k) + (xs.getD k 0)) - (max 0 (((lev size start (wantOf ds) (listOf xs) k) + (xs.getD k 0)) - size))), .pointer (some ⟨b1, 2, none⟩), .slice a n c, .int .i64 (((k : Nat) : Int)), .pointer (some ((adr a).add (k * 3))), .pointer (some (((adr a).add (k * 3)).add 2)), .int .i64 ((ds.getD k dz).want), .int .i64 (max 0 (((ds.getD k dz).want) - (((lev size start (wantOf ds) (listOf xs) k) + (xs.getD k 0)) - (max 0 (((lev size start (wantOf ds) (listOf xs) k) + (xs.getD k 0)) - size))))), .int .i64 (((ds.getD k dz).want) - (max 0 (((ds.getD k dz).want) - (((lev size start (wantOf ds) (listOf xs) k) + (xs.getD k 0)) - (max 0 (((lev size start (wantOf ds) (listOf xs) k) + (xs.getD k 0)) - size)))))), .int .i64 ((((lev size start (wantOf ds) (listOf xs) k) + (xs.getD k 0)) - (max 0 (((lev size start (wantOf ds) (listOf xs) k) + (xs.getD k 0)) - size))) - (((ds.getD k dz).want) - (max 0 (((ds.getD k dz).want) - (((lev size start (wantOf ds) (listOf xs) k) + (xs.getD k 0)) - (max 0 (((lev size start (wantOf ds) (listOf xs) k) + (xs.getD k 0)) - size))))))), (val7 0), (val7 1), (val7 2), (val7 3), (val7 4), (val7 5), (val7 6), (val7 7), (val7 8), (val7 9), (val7 10), (val7 11), (val7 12), (val7 13), (val7 14), (val7 15), (y4 67), (y4 68), undef], [], rfl, rfl, ?_⟩
        exact mix_det (met_none rfl) (fun _ h_ H_ => exd_fieldAddr tF30_2 rfl (a' := ⟨b3, 2, none⟩) rfl) ⟨rfl, rfl⟩
      refine mixes_cons rfl (opmix ?_) ?_
      · intro val7 pc8 hQ_ hX_
        have e10_ : val7 10 = .pointer (some ⟨b3, 2, none⟩) := (hQ_ 10 rfl).1
        refine ⟨[.agg #[.int .i64 (size), .int .i64 (start), .slice a n c], .slice b m d, .pointer (some ⟨b1, 0, none⟩), undef, .pointer (some ⟨b2, 0, none⟩), .pointer (some ⟨b3, 0, none⟩), .int .i64 ((((lev size start (wantOf ds) (listOf xs) k) + (xs.getD k 0)) - (max 0 (((lev size start (wantOf ds) (listOf xs) k) + (xs.getD k 0)) - size))) - (((ds.getD k dz).want) - (max 0 (((ds.getD k dz).want) - (((lev size start (wantOf ds) (listOf xs) k) + (xs.getD k 0)) - (max 0 (((lev size start (wantOf ds) (listOf xs) k) + (xs.getD k 0)) - size))))))), .int .i64 (((k : Nat) : Int)), .int .i64 (max 0 (((lev size start (wantOf ds) (listOf xs) k) + (xs.getD k 0)) - size)), .int .i64 (max 0 (((ds.getD k dz).want) - (((lev size start (wantOf ds) (listOf xs) k) + (xs.getD k 0)) - (max 0 (((lev size start (wantOf ds) (listOf xs) k) + (xs.getD k 0)) - size))))), .pointer (some ⟨b1, 1, none⟩), .int .i64 (start), .int .i64 (((k : Nat) : Int)), .slice b m d, .int .i64 (((m : Nat) : Int)), .bool (decide (((k : Nat) : Int) < ((m : Nat) : Int))), (y4 16), (y4 17), .int .i64 (lev size start (wantOf ds) (listOf xs) k), .slice b m d, .int .i64 (((k : Nat) : Int)), .pointer (some ((adr b).add (k * 1))), .int .i64 (xs.getD k 0), .int .i64 ((lev size start (wantOf ds) (listOf xs) k) + (xs.getD k 0)), .int .i64 ((lev size start (wantOf ds) (listOf xs) k) + (xs.getD k 0)), .pointer (some ⟨b1, 0, none⟩), .int .i64 (size), .int .i64 (((lev size start (wantOf ds) (listOf xs) k) + (xs.getD k 0)) - size), .int .i64 (max 0 (((lev size start (wantOf ds) (listOf xs) k) + (xs.getD k 0)) - size)), .int .i64 ((lev size start (wantOf ds) (listOf xs) k) + (xs.getD k 0)), .int .i64 (max 0 (((lev size start (wantOf ds) (listOf xs) k) + (xs.getD k 0)) - size)), .int .i64 (((lev size start (wantOf ds) (listOf xs) k) + (xs.getD k 0)) - (max 0 (((lev size start (wantOf ds) (listOf xs) k) + (xs.getD k 0)) - size))), .pointer (some ⟨b1, 2, none⟩), .slice a n c, .int .i64 (((k : Nat) : Int)), .pointer (some ((adr a).add (k * 3))), .pointer (some (((adr a).add (k * 3)).add 2)), .int .i64 ((ds.getD k dz).want), .int .i64 (((lev size start (wantOf ds) (listOf xs) k) + (xs.getD k 0)) - (max 0 (((lev size start (wantOf ds) (listOf xs) k) + (xs.getD k 0)) - size))), .int .i64 (((ds.getD k dz).want) - (((lev size start (wantOf ds) (listOf xs) k) + (xs.getD k 0)) - (max 0 (((lev size start (wantOf ds) (listOf xs) k) + (xs.getD k 0)) - size)))), .int .i64 (max 0 (((ds.getD k dz).want) - (((lev size start (wantOf ds) (listOf xs) k) + (xs.getD k 0)) - (max 0 (((lev size start (wantOf ds) (listOf xs) k) + (xs.getD k 0)) - size))))), .int .i64 (((lev size start (wantOf ds) (listOf xs) k) + (xs.getD k 0)) - (max 0 (((lev size start (wantOf ds) (listOf xs) k) + (xs.getD k 0)) - size))), .pointer (some ⟨b1, 2, none⟩), .slice a n c, .int .i64 (((k : Nat) : Int)), .pointer (some ((adr a).add (k * 3))), .pointer (some (((adr a).add (k * 3)).add 2)), .int .i64 ((ds.getD k dz).want), .int .i64 (max 0 (((ds.getD k dz).want) - (((lev size start (wantOf ds) (listOf xs) k) + (xs.getD k 0)) - (max 0 (((lev size start (wantOf ds) (listOf xs) k) + (xs.getD k 0)) - size))))), .int .i64 (((ds.getD k dz).want) - (max 0 (((ds.getD k dz).want) - (((lev size start (wantOf ds) (listOf xs) k) + (xs.getD k 0)) - (max 0 (((lev size start (wantOf ds) (listOf xs) k) + (xs.getD k 0)) - size)))))), .int .i64 ((((lev size start (wantOf ds) (listOf xs) k) + (xs.getD k 0)) - (max 0 (((lev size start (wantOf ds) (listOf xs) k) + (xs.getD k 0)) - size))) - (((ds.getD k dz).want) - (max 0 (((ds.getD k dz).want) - (((lev size start (wantOf ds) (listOf xs) k) + (xs.getD k 0)) - (max 0 (((lev size start (wantOf ds) (listOf xs) k) + (xs.getD k 0)) - size))))))), (val7 0), (val7 1), (val7 2), (val7 3), (val7 4), (val7 5), (val7 6), (val7 7), (val7 8), (val7 9), .pointer (some ⟨b3, 2, none⟩), (val7 11), (val7 12), (val7 13), (val7 14), (val7 15), (y4 67), (y4 68), undef], [], (by simp only [e10_]), rfl, ?_⟩
        exact mix_det (met_none rfl) (fun _ h_ H_ => exd_load_own H_ tA25 rfl (i := 0) rfl (v := w3) rfl) ⟨rfl, rfl⟩
      refine mixes_cons rfl (opmix ?_) ?_
      · intro val7 pc8 hQ_ hX_
        refine ⟨[.agg #[.int .i64 (size), .int .i64 (start), .slice a n c], .slice b m d, .pointer (some ⟨b1, 0, none⟩), undef, .pointer (some ⟨b2, 0, none⟩), .pointer (some ⟨b3, 0, none⟩), .int .i64 ((((lev size start (wantOf ds) (listOf xs) k) + (xs.getD k 0)) - (max 0 (((lev size start (wantOf ds) (listOf xs) k) + (xs.getD k 0)) - size))) - (((ds.getD k dz).want) - (max 0 (((ds.getD k dz).want) - (((lev size start (wantOf ds) (listOf xs) k) + (xs.getD k 0)) - (max 0 (((lev size start (wantOf ds) (listOf xs) k) + (xs.getD k 0)) - size))))))), .int .i64 (((k : Nat) : Int)), .int .i64 (max 0 (((lev size start (wantOf ds) (listOf xs) k) + (xs.getD k 0)) - size)), .int .i64 (max 0 (((ds.getD k dz).want) - (((lev size start (wantOf ds) (listOf xs) k) + (xs.getD k 0)) - (max 0 (((lev size start (wantOf ds) (listOf xs) k) + (xs.getD k 0)) - size))))), .pointer (some ⟨b1, 1, none⟩), .int .i64 (start), .int .i64 (((k : Nat) : Int)), .slice b m d, .int .i64 (((m : Nat) : Int)), .bool (decide (((k : Nat) : Int) < ((m : Nat) : Int))), (y4 16), (y4 17), .int .i64 (lev size start (wantOf ds) (listOf xs) k), .slice b m d, .int .i64 (((k : Nat) : Int)), .pointer (some ((adr b).add (k * 1))), .int .i64 (xs.getD k 0), .int .i64 ((lev size start (wantOf ds) (listOf xs) k) + (xs.getD k 0)), .int .i64 ((lev size start (wantOf ds) (listOf xs) k) + (xs.getD k 0)), .pointer (some ⟨b1, 0, none⟩), .int .i64 (size), .int .i64 (((lev size start (wantOf ds) (listOf xs) k) + (xs.getD k 0)) - size), .int .i64 (max 0 (((lev size start (wantOf ds) (listOf xs) k) + (xs.getD k 0)) - size)), .int .i64 ((lev size start (wantOf ds) (listOf xs) k) + (xs.getD k 0)), .int .i64 (max 0 (((lev size start (wantOf ds) (listOf xs) k) + (xs.getD k 0)) - size)), .int .i64 (((lev size start (wantOf ds) (listOf xs) k) + (xs.getD k 0)) - (max 0 (((lev size start (wantOf ds) (listOf xs) k) + (xs.getD k 0)) - size))), .pointer (some ⟨b1, 2, none⟩), .slice a n c, .int .i64 (((k : Nat) : Int)), .pointer (some ((adr a).add (k * 3))), .pointer (some (((adr a).add (k * 3)).add 2)), .int .i64 ((ds.getD k dz).want), .int .i64 (((lev size start (wantOf ds) (listOf xs) k) + (xs.getD k 0)) - (max 0 (((lev size start (wantOf ds) (listOf xs) k) + (xs.getD k 0)) - size))), .int .i64 (((ds.getD k dz).want) - (((lev size start (wantOf ds) (listOf xs) k) + (xs.getD k 0)) - (max 0 (((lev size start (wantOf ds) (listOf xs) k) + (xs.getD k 0)) - size)))), .int .i64 (max 0 (((ds.getD k dz).want) - (((lev size start (wantOf ds) (listOf xs) k) + (xs.getD k 0)) - (max 0 (((lev size start (wantOf ds) (listOf xs) k) + (xs.getD k 0)) - size))))), .int .i64 (((lev size start (wantOf ds) (listOf xs) k) + (xs.getD k 0)) - (max 0 (((lev size start (wantOf ds) (listOf xs) k) + (xs.getD k 0)) - size))), .pointer (some ⟨b1, 2, none⟩), .slice a n c, .int .i64 (((k : Nat) : Int)), .pointer (some ((adr a).add (k * 3))), .pointer (some (((adr a).add (k * 3)).add 2)), .int .i64 ((ds.getD k dz).want), .int .i64 (max 0 (((ds.getD k dz).want) - (((lev size start (wantOf ds) (listOf xs) k) + (xs.getD k 0)) - (max 0 (((lev size start (wantOf ds) (listOf xs) k) + (xs.getD k 0)) - size))))), .int .i64 (((ds.getD k dz).want) - (max 0 (((ds.getD k dz).want) - (((lev size start (wantOf ds) (listOf xs) k) + (xs.getD k 0)) - (max 0 (((lev size start (wantOf ds) (listOf xs) k) + (xs.getD k 0)) - size)))))), .int .i64 ((((lev size start (wantOf ds) (listOf xs) k) + (xs.getD k 0)) - (max 0 (((lev size start (wantOf ds) (listOf xs) k) + (xs.getD k 0)) - size))) - (((ds.getD k dz).want) - (max 0 (((ds.getD k dz).want) - (((lev size start (wantOf ds) (listOf xs) k) + (xs.getD k 0)) - (max 0 (((lev size start (wantOf ds) (listOf xs) k) + (xs.getD k 0)) - size))))))), (val7 0), (val7 1), (val7 2), (val7 3), (val7 4), (val7 5), (val7 6), (val7 7), (val7 8), (val7 9), (val7 10), (val7 11), (val7 12), (val7 13), (val7 14), (val7 15), (y4 67), (y4 68), undef], [], rfl, rfl, ?_⟩
        exact mix_det (met_none rfl) (fun _ h_ H_ => exd_move (v := .int .i64 (max 0 (((lev size start (wantOf ds) (listOf xs) k) + (xs.getD k 0)) - size))) rfl) ⟨rfl, rfl⟩
      refine mixes_cons rfl (opmix ?_) ?_
      · intro val7 pc8 hQ_ hX_
        have e12_ : val7 12 = .int .i64 (max 0 (((lev size start (wantOf ds) (listOf xs) k) + (xs.getD k 0)) - size)) := (hQ_ 12 rfl).1
        refine ⟨[.agg #[.int .i64 (size), .int .i64 (start), .slice a n c], .slice b m d, .pointer (some ⟨b1, 0, none⟩), undef, .pointer (some ⟨b2, 0, none⟩), .pointer (some ⟨b3, 0, none⟩), .int .i64 ((((lev size start (wantOf ds) (listOf xs) k) + (xs.getD k 0)) - (max 0 (((lev size start (wantOf ds) (listOf xs) k) + (xs.getD k 0)) - size))) - (((ds.getD k dz).want) - (max 0 (((ds.getD k dz).want) - (((lev size start (wantOf ds) (listOf xs) k) + (xs.getD k 0)) - (max 0 (((lev size start (wantOf ds) (listOf xs) k) + (xs.getD k 0)) - size))))))), .int .i64 (((k : Nat) : Int)), .int .i64 (max 0 (((lev size start (wantOf ds) (listOf xs) k) + (xs.getD k 0)) - size)), .int .i64 (max 0 (((ds.getD k dz).want) - (((lev size start (wantOf ds) (listOf xs) k) + (xs.getD k 0)) - (max 0 (((lev size start (wantOf ds) (listOf xs) k) + (xs.getD k 0)) - size))))), .pointer (some ⟨b1, 1, none⟩), .int .i64 (start), .int .i64 (((k : Nat) : Int)), .slice b m d, .int .i64 (((m : Nat) : Int)), .bool (decide (((k : Nat) : Int) < ((m : Nat) : Int))), (y4 16), (y4 17), .int .i64 (lev size start (wantOf ds) (listOf xs) k), .slice b m d, .int .i64 (((k : Nat) : Int)), .pointer (some ((adr b).add (k * 1))), .int .i64 (xs.getD k 0), .int .i64 ((lev size start (wantOf ds) (listOf xs) k) + (xs.getD k 0)), .int .i64 ((lev size start (wantOf ds) (listOf xs) k) + (xs.getD k 0)), .pointer (some ⟨b1, 0, none⟩), .int .i64 (size), .int .i64 (((lev size start (wantOf ds) (listOf xs) k) + (xs.getD k 0)) - size), .int .i64 (max 0 (((lev size start (wantOf ds) (listOf xs) k) + (xs.getD k 0)) - size)), .int .i64 ((lev size start (wantOf ds) (listOf xs) k) + (xs.getD k 0)), .int .i64 (max 0 (((lev size start (wantOf ds) (listOf xs) k) + (xs.getD k 0)) - size)), .int .i64 (((lev size start (wantOf ds) (listOf xs) k) + (xs.getD k 0)) - (max 0 (((lev size start (wantOf ds) (listOf xs) k) + (xs.getD k 0)) - size))), .pointer (some ⟨b1, 2, none⟩), .slice a n c, .int .i64 (((k : Nat) : Int)), .pointer (some ((adr a).add (k * 3))), .pointer (some (((adr a).add (k * 3)).add 2)), .int .i64 ((ds.getD k dz).want), .int .i64 (((lev size start (wantOf ds) (listOf xs) k) + (xs.getD k 0)) - (max 0 (((lev size start (wantOf ds) (listOf xs) k) + (xs.getD k 0)) - size))), .int .i64 (((ds.getD k dz).want) - (((lev size start (wantOf ds) (listOf xs) k) + (xs.getD k 0)) - (max 0 (((lev size start (wantOf ds) (listOf xs) k) + (xs.getD k 0)) - size)))), .int .i64 (max 0 (((ds.getD k dz).want) - (((lev size start (wantOf ds) (listOf xs) k) + (xs.getD k 0)) - (max 0 (((lev size start (wantOf ds) (listOf xs) k) + (xs.getD k 0)) - size))))), .int .i64 (((lev size start (wantOf ds) (listOf xs) k) + (xs.getD k 0)) - (max 0 (((lev size start (wantOf ds) (listOf xs) k) + (xs.getD k 0)) - size))), .pointer (some ⟨b1, 2, none⟩), .slice a n c, .int .i64 (((k : Nat) : Int)), .pointer (some ((adr a).add (k * 3))), .pointer (some (((adr a).add (k * 3)).add 2)), .int .i64 ((ds.getD k dz).want), .int .i64 (max 0 (((ds.getD k dz).want) - (((lev size start (wantOf ds) (listOf xs) k) + (xs.getD k 0)) - (max 0 (((lev size start (wantOf ds) (listOf xs) k) + (xs.getD k 0)) - size))))), .int .i64 (((ds.getD k dz).want) - (max 0 (((ds.getD k dz).want) - (((lev size start (wantOf ds) (listOf xs) k) + (xs.getD k 0)) - (max 0 (((lev size start (wantOf ds) (listOf xs) k) + (xs.getD k 0)) - size)))))), .int .i64 ((((lev size start (wantOf ds) (listOf xs) k) + (xs.getD k 0)) - (max 0 (((lev size start (wantOf ds) (listOf xs) k) + (xs.getD k 0)) - size))) - (((ds.getD k dz).want) - (max 0 (((ds.getD k dz).want) - (((lev size start (wantOf ds) (listOf xs) k) + (xs.getD k 0)) - (max 0 (((lev size start (wantOf ds) (listOf xs) k) + (xs.getD k 0)) - size))))))), (val7 0), (val7 1), (val7 2), (val7 3), (val7 4), (val7 5), (val7 6), (val7 7), (val7 8), (val7 9), (val7 10), (val7 11), .int .i64 (max 0 (((lev size start (wantOf ds) (listOf xs) k) + (xs.getD k 0)) - size)), (val7 13), (val7 14), (val7 15), (y4 67), (y4 68), undef], [], (by simp only [e12_]), rfl, ?_⟩
        exact mix_buildO (met_none rfl) Try.underlying25 tS3 tZ3 (Nat.le_of_ble_eq_true rfl) (vs := [(0, .int .i64 (max 0 (((lev size start (wantOf ds) (listOf xs) k) + (xs.getD k 0)) - size)))]) rfl rfl (es := [[.int .i64 (max 0 (((lev size start (wantOf ds) (listOf xs) k) + (xs.getD k 0)) - size))]]) rfl rfl rfl fun _ _ o_ => o_
      refine mixes_cons rfl (opmix ?_) ?_
      · intro val7 pc8 hQ_ hX_
        have q9_ : OwnS 3 1 (val7 9) (ns (lack size start (wantOf ds) (listOf xs)) k ++ [[.int .i64 (max 0 (((ds.getD k dz).want) - (((lev size start (wantOf ds) (listOf xs) k) + (xs.getD k 0)) - (max 0 (((lev size start (wantOf ds) (listOf xs) k) + (xs.getD k 0)) - size)))))]]) (pc8 9) := hQ_ 9 rfl
        have e11_ : val7 11 = w3 := (hQ_ 11 rfl).1
        have q13_ : OwnS 3 1 (val7 13) [[.int .i64 (max 0 (((lev size start (wantOf ds) (listOf xs) k) + (xs.getD k 0)) - size))]] (pc8 13) := hQ_ 13 rfl
        have x18_ : pc8 18 = X3 := hX_ 18 (by decide)
        refine ⟨[.agg #[.int .i64 (size), .int .i64 (start), .slice a n c], .slice b m d, .pointer (some ⟨b1, 0, none⟩), undef, .pointer (some ⟨b2, 0, none⟩), .pointer (some ⟨b3, 0, none⟩), .int .i64 ((((lev size start (wantOf ds) (listOf xs) k) + (xs.getD k 0)) - (max 0 (((lev size start (wantOf ds) (listOf xs) k) + (xs.getD k 0)) - size))) - (((ds.getD k dz).want) - (max 0 (((ds.getD k dz).want) - (((lev size start (wantOf ds) (listOf xs) k) + (xs.getD k 0)) - (max 0 (((lev size start (wantOf ds) (listOf xs) k) + (xs.getD k 0)) - size))))))), .int .i64 (((k : Nat) : Int)), .int .i64 (max 0 (((lev size start (wantOf ds) (listOf xs) k) + (xs.getD k 0)) - size)), .int .i64 (max 0 (((ds.getD k dz).want) - (((lev size start (wantOf ds) (listOf xs) k) + (xs.getD k 0)) - (max 0 (((lev size start (wantOf ds) (listOf xs) k) + (xs.getD k 0)) - size))))), .pointer (some ⟨b1, 1, none⟩), .int .i64 (start), .int .i64 (((k : Nat) : Int)), .slice b m d, .int .i64 (((m : Nat) : Int)), .bool (decide (((k : Nat) : Int) < ((m : Nat) : Int))), (y4 16), (y4 17), .int .i64 (lev size start (wantOf ds) (listOf xs) k), .slice b m d, .int .i64 (((k : Nat) : Int)), .pointer (some ((adr b).add (k * 1))), .int .i64 (xs.getD k 0), .int .i64 ((lev size start (wantOf ds) (listOf xs) k) + (xs.getD k 0)), .int .i64 ((lev size start (wantOf ds) (listOf xs) k) + (xs.getD k 0)), .pointer (some ⟨b1, 0, none⟩), .int .i64 (size), .int .i64 (((lev size start (wantOf ds) (listOf xs) k) + (xs.getD k 0)) - size), .int .i64 (max 0 (((lev size start (wantOf ds) (listOf xs) k) + (xs.getD k 0)) - size)), .int .i64 ((lev size start (wantOf ds) (listOf xs) k) + (xs.getD k 0)), .int .i64 (max 0 (((lev size start (wantOf ds) (listOf xs) k) + (xs.getD k 0)) - size)), .int .i64 (((lev size start (wantOf ds) (listOf xs) k) + (xs.getD k 0)) - (max 0 (((lev size start (wantOf ds) (listOf xs) k) + (xs.getD k 0)) - size))), .pointer (some ⟨b1, 2, none⟩), .slice a n c, .int .i64 (((k : Nat) : Int)), .pointer (some ((adr a).add (k * 3))), .pointer (some (((adr a).add (k * 3)).add 2)), .int .i64 ((ds.getD k dz).want), .int .i64 (((lev size start (wantOf ds) (listOf xs) k) + (xs.getD k 0)) - (max 0 (((lev size start (wantOf ds) (listOf xs) k) + (xs.getD k 0)) - size))), .int .i64 (((ds.getD k dz).want) - (((lev size start (wantOf ds) (listOf xs) k) + (xs.getD k 0)) - (max 0 (((lev size start (wantOf ds) (listOf xs) k) + (xs.getD k 0)) - size)))), .int .i64 (max 0 (((ds.getD k dz).want) - (((lev size start (wantOf ds) (listOf xs) k) + (xs.getD k 0)) - (max 0 (((lev size start (wantOf ds) (listOf xs) k) + (xs.getD k 0)) - size))))), .int .i64 (((lev size start (wantOf ds) (listOf xs) k) + (xs.getD k 0)) - (max 0 (((lev size start (wantOf ds) (listOf xs) k) + (xs.getD k 0)) - size))), .pointer (some ⟨b1, 2, none⟩), .slice a n c, .int .i64 (((k : Nat) : Int)), .pointer (some ((adr a).add (k * 3))), .pointer (some (((adr a).add (k * 3)).add 2)), .int .i64 ((ds.getD k dz).want), .int .i64 (max 0 (((ds.getD k dz).want) - (((lev size start (wantOf ds) (listOf xs) k) + (xs.getD k 0)) - (max 0 (((lev size start (wantOf ds) (listOf xs) k) + (xs.getD k 0)) - size))))), .int .i64 (((ds.getD k dz).want) - (max 0 (((ds.getD k dz).want) - (((lev size start (wantOf ds) (listOf xs) k) + (xs.getD k 0)) - (max 0 (((lev size start (wantOf ds) (listOf xs) k) + (xs.getD k 0)) - size)))))), .int .i64 ((((lev size start (wantOf ds) (listOf xs) k) + (xs.getD k 0)) - (max 0 (((lev size start (wantOf ds) (listOf xs) k) + (xs.getD k 0)) - size))) - (((ds.getD k dz).want) - (max 0 (((ds.getD k dz).want) - (((lev size start (wantOf ds) (listOf xs) k) + (xs.getD k 0)) - (max 0 (((lev size start (wantOf ds) (listOf xs) k) + (xs.getD k 0)) - size))))))), (val7 0), (val7 1), (val7 2), (val7 3), (val7 4), (val7 5), (val7 6), (val7 7), (val7 8), (val7 9), (val7 10), w3, (val7 12), (val7 13), (val7 14), (val7 15), (y4 67), (y4 68), undef], (X3 ++ ((pc8 13) ++ [])), (by simp only [e11_]), (by rw [← x18_]; rfl), ?_⟩
        exact mix_append (met_none rfl) Try.underlying25 tS3 tZ3 rfl tB3 Try.underlying25 rfl rfl o3 q13_ (ones_of rfl) (by rw [ns_length]; simp only [List.length_cons, List.length_nil]; omega) (by decide) fun _ _ o_ => o_
      refine mixes_cons rfl (opmix ?_) ?_
      · intro val7 pc8 hQ_ hX_
        have e0_ : val7 0 = .pointer (some ⟨b3, 0, none⟩) := (hQ_ 0 rfl).1
        have e1_ : val7 1 = w1 := (hQ_ 1 rfl).1
        have e2_ : val7 2 = .int .i64 ((((lev size start (wantOf ds) (listOf xs) k) + (xs.getD k 0)) - (max 0 (((lev size start (wantOf ds) (listOf xs) k) + (xs.getD k 0)) - size))) - (((ds.getD k dz).want) - (max 0 (((ds.getD k dz).want) - (((lev size start (wantOf ds) (listOf xs) k) + (xs.getD k 0)) - (max 0 (((lev size start (wantOf ds) (listOf xs) k) + (xs.getD k 0)) - size))))))) := (hQ_ 2 rfl).1
        have q3_ : OwnS 3 1 (val7 3) [[.int .i64 ((((lev size start (wantOf ds) (listOf xs) k) + (xs.getD k 0)) - (max 0 (((lev size start (wantOf ds) (listOf xs) k) + (xs.getD k 0)) - size))) - (((ds.getD k dz).want) - (max 0 (((ds.getD k dz).want) - (((lev size start (wantOf ds) (listOf xs) k) + (xs.getD k 0)) - (max 0 (((lev size start (wantOf ds) (listOf xs) k) + (xs.getD k 0)) - size)))))))]] (pc8 3) := hQ_ 3 rfl
        have q4_ : OwnS 3 1 (val7 4) (ns (levs size start (wantOf ds) (listOf xs)) k ++ [[.int .i64 ((((lev size start (wantOf ds) (listOf xs) k) + (xs.getD k 0)) - (max 0 (((lev size start (wantOf ds) (listOf xs) k) + (xs.getD k 0)) - size))) - (((ds.getD k dz).want) - (max 0 (((ds.getD k dz).want) - (((lev size start (wantOf ds) (listOf xs) k) + (xs.getD k 0)) - (max 0 (((lev size start (wantOf ds) (listOf xs) k) + (xs.getD k 0)) - size)))))))]]) (pc8 4) := hQ_ 4 rfl
        have e5_ : val7 5 = .pointer (some ⟨b3, 1, none⟩) := (hQ_ 5 rfl).1
        have e6_ : val7 6 = w2 := (hQ_ 6 rfl).1
        have e10_ : val7 10 = .pointer (some ⟨b3, 2, none⟩) := (hQ_ 10 rfl).1
        have e11_ : val7 11 = w3 := (hQ_ 11 rfl).1
        refine ⟨[.agg #[.int .i64 (size), .int .i64 (start), .slice a n c], .slice b m d, .pointer (some ⟨b1, 0, none⟩), undef, .pointer (some ⟨b2, 0, none⟩), .pointer (some ⟨b3, 0, none⟩), .int .i64 ((((lev size start (wantOf ds) (listOf xs) k) + (xs.getD k 0)) - (max 0 (((lev size start (wantOf ds) (listOf xs) k) + (xs.getD k 0)) - size))) - (((ds.getD k dz).want) - (max 0 (((ds.getD k dz).want) - (((lev size start (wantOf ds) (listOf xs) k) + (xs.getD k 0)) - (max 0 (((lev size start (wantOf ds) (listOf xs) k) + (xs.getD k 0)) - size))))))), .int .i64 (((k : Nat) : Int)), .int .i64 (max 0 (((lev size start (wantOf ds) (listOf xs) k) + (xs.getD k 0)) - size)), .int .i64 (max 0 (((ds.getD k dz).want) - (((lev size start (wantOf ds) (listOf xs) k) + (xs.getD k 0)) - (max 0 (((lev size start (wantOf ds) (listOf xs) k) + (xs.getD k 0)) - size))))), .pointer (some ⟨b1, 1, none⟩), .int .i64 (start), .int .i64 (((k : Nat) : Int)), .slice b m d, .int .i64 (((m : Nat) : Int)), .bool (decide (((k : Nat) : Int) < ((m : Nat) : Int))), (y4 16), (y4 17), .int .i64 (lev size start (wantOf ds) (listOf xs) k), .slice b m d, .int .i64 (((k : Nat) : Int)), .pointer (some ((adr b).add (k * 1))), .int .i64 (xs.getD k 0), .int .i64 ((lev size start (wantOf ds) (listOf xs) k) + (xs.getD k 0)), .int .i64 ((lev size start (wantOf ds) (listOf xs) k) + (xs.getD k 0)), .pointer (some ⟨b1, 0, none⟩), .int .i64 (size), .int .i64 (((lev size start (wantOf ds) (listOf xs) k) + (xs.getD k 0)) - size), .int .i64 (max 0 (((lev size start (wantOf ds) (listOf xs) k) + (xs.getD k 0)) - size)), .int .i64 ((lev size start (wantOf ds) (listOf xs) k) + (xs.getD k 0)), .int .i64 (max 0 (((lev size start (wantOf ds) (listOf xs) k) + (xs.getD k 0)) - size)), .int .i64 (((lev size start (wantOf ds) (listOf xs) k) + (xs.getD k 0)) - (max 0 (((lev size start (wantOf ds) (listOf xs) k) + (xs.getD k 0)) - size))), .pointer (some ⟨b1, 2, none⟩), .slice a n c, .int .i64 (((k : Nat) : Int)), .pointer (some ((adr a).add (k * 3))), .pointer (some (((adr a).add (k * 3)).add 2)), .int .i64 ((ds.getD k dz).want), .int .i64 (((lev size start (wantOf ds) (listOf xs) k) + (xs.getD k 0)) - (max 0 (((lev size start (wantOf ds) (listOf xs) k) + (xs.getD k 0)) - size))), .int .i64 (((ds.getD k dz).want) - (((lev size start (wantOf ds) (listOf xs) k) + (xs.getD k 0)) - (max 0 (((lev size start (wantOf ds) (listOf xs) k) + (xs.getD k 0)) - size)))), .int .i64 (max 0 (((ds.getD k dz).want) - (((lev size start (wantOf ds) (listOf xs) k) + (xs.getD k 0)) - (max 0 (((lev size start (wantOf ds) (listOf xs) k) + (xs.getD k 0)) - size))))), .int .i64 (((lev size start (wantOf ds) (listOf xs) k) + (xs.getD k 0)) - (max 0 (((lev size start (wantOf ds) (listOf xs) k) + (xs.getD k 0)) - size))), .pointer (some ⟨b1, 2, none⟩), .slice a n c, .int .i64 (((k : Nat) : Int)), .pointer (some ((adr a).add (k * 3))), .pointer (some (((adr a).add (k * 3)).add 2)), .int .i64 ((ds.getD k dz).want), .int .i64 (max 0 (((ds.getD k dz).want) - (((lev size start (wantOf ds) (listOf xs) k) + (xs.getD k 0)) - (max 0 (((lev size start (wantOf ds) (listOf xs) k) + (xs.getD k 0)) - size))))), .int .i64 (((ds.getD k dz).want) - (max 0 (((ds.getD k dz).want) - (((lev size start (wantOf ds) (listOf xs) k) + (xs.getD k 0)) - (max 0 (((lev size start (wantOf ds) (listOf xs) k) + (xs.getD k 0)) - size)))))), .int .i64 ((((lev size start (wantOf ds) (listOf xs) k) + (xs.getD k 0)) - (max 0 (((lev size start (wantOf ds) (listOf xs) k) + (xs.getD k 0)) - size))) - (((ds.getD k dz).want) - (max 0 (((ds.getD k dz).want) - (((lev size start (wantOf ds) (listOf xs) k) + (xs.getD k 0)) - (max 0 (((lev size start (wantOf ds) (listOf xs) k) + (xs.getD k 0)) - size))))))), .pointer (some ⟨b3, 0, none⟩), w1, .int .i64 ((((lev size start (wantOf ds) (listOf xs) k) + (xs.getD k 0)) - (max 0 (((lev size start (wantOf ds) (listOf xs) k) + (xs.getD k 0)) - size))) - (((ds.getD k dz).want) - (max 0 (((ds.getD k dz).want) - (((lev size start (wantOf ds) (listOf xs) k) + (xs.getD k 0)) - (max 0 (((lev size start (wantOf ds) (listOf xs) k) + (xs.getD k 0)) - size))))))), (val7 3), (val7 4), .pointer (some ⟨b3, 1, none⟩), w2, (val7 7), (val7 8), (val7 9), .pointer (some ⟨b3, 2, none⟩), w3, (val7 12), (val7 13), (val7 14), (val7 15), (y4 67), (y4 68), undef], [], (by simp only [e0_, e1_, e2_, e5_, e6_, e10_, e11_]), rfl, ?_⟩
        exact mix_det (met_none rfl) (fun _ h_ H_ => exd_fieldAddr tF30_0 rfl (a' := ⟨b3, 0, none⟩) rfl) ⟨rfl, rfl⟩
      exact mixes_nil rfl
    intro val7 pc8 hQ_ hX_
    have e0_ : val7 0 = .pointer (some ⟨b3, 0, none⟩) := (hQ_ 0 (by decide)).1
    have e1_ : val7 1 = w1 := (hQ_ 1 (by decide)).1
    have e2_ : val7 2 = .int .i64 ((((lev size start (wantOf ds) (listOf xs) k) + (xs.getD k 0)) - (max 0 (((lev size start (wantOf ds) (listOf xs) k) + (xs.getD k 0)) - size))) - (((ds.getD k dz).want) - (max 0 (((ds.getD k dz).want) - (((lev size start (wantOf ds) (listOf xs) k) + (xs.getD k 0)) - (max 0 (((lev size start (wantOf ds) (listOf xs) k) + (xs.getD k 0)) - size))))))) := (hQ_ 2 (by decide)).1
    have q4_ : OwnS 3 1 (val7 4) (ns (levs size start (wantOf ds) (listOf xs)) k ++ [[.int .i64 ((((lev size start (wantOf ds) (listOf xs) k) + (xs.getD k 0)) - (max 0 (((lev size start (wantOf ds) (listOf xs) k) + (xs.getD k 0)) - size))) - (((ds.getD k dz).want) - (max 0 (((ds.getD k dz).want) - (((lev size start (wantOf ds) (listOf xs) k) + (xs.getD k 0)) - (max 0 (((lev size start (wantOf ds) (listOf xs) k) + (xs.getD k 0)) - size)))))))]]) (pc8 4) := hQ_ 4 (by decide)
    have e5_ : val7 5 = .pointer (some ⟨b3, 1, none⟩) := (hQ_ 5 (by decide)).1
    have e6_ : val7 6 = w2 := (hQ_ 6 (by decide)).1
    have e7_ : val7 7 = .int .i64 (max 0 (((ds.getD k dz).want) - (((lev size start (wantOf ds) (listOf xs) k) + (xs.getD k 0)) - (max 0 (((lev size start (wantOf ds) (listOf xs) k) + (xs.getD k 0)) - size))))) := (hQ_ 7 (by decide)).1
    have q9_ : OwnS 3 1 (val7 9) (ns (lack size start (wantOf ds) (listOf xs)) k ++ [[.int .i64 (max 0 (((ds.getD k dz).want) - (((lev size start (wantOf ds) (listOf xs) k) + (xs.getD k 0)) - (max 0 (((lev size start (wantOf ds) (listOf xs) k) + (xs.getD k 0)) - size)))))]]) (pc8 9) := hQ_ 9 (by decide)
    have e10_ : val7 10 = .pointer (some ⟨b3, 2, none⟩) := (hQ_ 10 (by decide)).1
    have e11_ : val7 11 = w3 := (hQ_ 11 (by decide)).1
    have e12_ : val7 12 = .int .i64 (max 0 (((lev size start (wantOf ds) (listOf xs) k) + (xs.getD k 0)) - size)) := (hQ_ 12 (by decide)).1
    have q14_ : OwnS 3 1 (val7 14) (ns (ovr size start (wantOf ds) (listOf xs)) k ++ [[.int .i64 (max 0 (((lev size start (wantOf ds) (listOf xs) k) + (xs.getD k 0)) - size))]]) (pc8 14) := hQ_ 14 (by decide)
    have e15_ : val7 15 = .pointer (some ⟨b3, 0, none⟩) := (hQ_ 15 (by decide)).1
    refine rl_as (Φ := fun h_ => St h [] p h_ (([(b3, .cells #[w1, w2, w3] 30 (0, 0)), (b2, .cells #[.slice none 0 0, .slice none 0 0, .slice none 0 0] 30 (0, 0)), (b1, .cells #[.int .i64 (size), .int .i64 (start), .slice a n c] 24 (0, 0))] : Pcs) ++ (pc8 4 ++ (pc8 9 ++ (pc8 14 ++ []))))) ?_ (fun h_ H_ => H_.swap')
    refine rl_norm (tm' := [.agg #[.int .i64 (size), .int .i64 (start), .slice a n c], .slice b m d, .pointer (some ⟨b1, 0, none⟩), undef, .pointer (some ⟨b2, 0, none⟩), .pointer (some ⟨b3, 0, none⟩), .int .i64 ((((lev size start (wantOf ds) (listOf xs) k) + (xs.getD k 0)) - (max 0 (((lev size start (wantOf ds) (listOf xs) k) + (xs.getD k 0)) - size))) - (((ds.getD k dz).want) - (max 0 (((ds.getD k dz).want) - (((lev size start (wantOf ds) (listOf xs) k) + (xs.getD k 0)) - (max 0 (((lev size start (wantOf ds) (listOf xs) k) + (xs.getD k 0)) - size))))))), .int .i64 (((k : Nat) : Int)), .int .i64 (max 0 (((lev size start (wantOf ds) (listOf xs) k) + (xs.getD k 0)) - size)), .int .i64 (max 0 (((ds.getD k dz).want) - (((lev size start (wantOf ds) (listOf xs) k) + (xs.getD k 0)) - (max 0 (((lev size start (wantOf ds) (listOf xs) k) + (xs.getD k 0)) - size))))), .pointer (some ⟨b1, 1, none⟩), .int .i64 (start), .int .i64 (((k : Nat) : Int)), .slice b m d, .int .i64 (((m : Nat) : Int)), .bool (decide (((k : Nat) : Int) < ((m : Nat) : Int))), (y4 16), (y4 17), .int .i64 (lev size start (wantOf ds) (listOf xs) k), .slice b m d, .int .i64 (((k : Nat) : Int)), .pointer (some ((adr b).add (k * 1))), .int .i64 (xs.getD k 0), .int .i64 ((lev size start (wantOf ds) (listOf xs) k) + (xs.getD k 0)), .int .i64 ((lev size start (wantOf ds) (listOf xs) k) + (xs.getD k 0)), .pointer (some ⟨b1, 0, none⟩), .int .i64 (size), .int .i64 (((lev size start (wantOf ds) (listOf xs) k) + (xs.getD k 0)) - size), .int .i64 (max 0 (((lev size start (wantOf ds) (listOf xs) k) + (xs.getD k 0)) - size)), .int .i64 ((lev size start (wantOf ds) (listOf xs) k) + (xs.getD k 0)), .int .i64 (max 0 (((lev size start (wantOf ds) (listOf xs) k) + (xs.getD k 0)) - size)), .int .i64 (((lev size start (wantOf ds) (listOf xs) k) + (xs.getD k 0)) - (max 0 (((lev size start (wantOf ds) (listOf xs) k) + (xs.getD k 0)) - size))), .pointer (some ⟨b1, 2, none⟩), .slice a n c, .int .i64 (((k : Nat) : Int)), .pointer (some ((adr a).add (k * 3))), .pointer (some (((adr a).add (k * 3)).add 2)), .int .i64 ((ds.getD k dz).want), .int .i64 (((lev size start (wantOf ds) (listOf xs) k) + (xs.getD k 0)) - (max 0 (((lev size start (wantOf ds) (listOf xs) k) + (xs.getD k 0)) - size))), .int .i64 (((ds.getD k dz).want) - (((lev size start (wantOf ds) (listOf xs) k) + (xs.getD k 0)) - (max 0 (((lev size start (wantOf ds) (listOf xs) k) + (xs.getD k 0)) - size)))), .int .i64 (max 0 (((ds.getD k dz).want) - (((lev size start (wantOf ds) (listOf xs) k) + (xs.getD k 0)) - (max 0 (((lev size start (wantOf ds) (listOf xs) k) + (xs.getD k 0)) - size))))), .int .i64 (((lev size start (wantOf ds) (listOf xs) k) + (xs.getD k 0)) - (max 0 (((lev size start (wantOf ds) (listOf xs) k) + (xs.getD k 0)) - size))), .pointer (some ⟨b1, 2, none⟩), .slice a n c, .int .i64 (((k : Nat) : Int)), .pointer (some ((adr a).add (k * 3))), .pointer (some (((adr a).add (k * 3)).add 2)), .int .i64 ((ds.getD k dz).want), .int .i64 (max 0 (((ds.getD k dz).want) - (((lev size start (wantOf ds) (listOf xs) k) + (xs.getD k 0)) - (max 0 (((lev size start (wantOf ds) (listOf xs) k) + (xs.getD k 0)) - size))))), .int .i64 (((ds.getD k dz).want) - (max 0 (((ds.getD k dz).want) - (((lev size start (wantOf ds) (listOf xs) k) + (xs.getD k 0)) - (max 0 (((lev size start (wantOf ds) (listOf xs) k) + (xs.getD k 0)) - size)))))), .int .i64 ((((lev size start (wantOf ds) (listOf xs) k) + (xs.getD k 0)) - (max 0 (((lev size start (wantOf ds) (listOf xs) k) + (xs.getD k 0)) - size))) - (((ds.getD k dz).want) - (max 0 (((ds.getD k dz).want) - (((lev size start (wantOf ds) (listOf xs) k) + (xs.getD k 0)) - (max 0 (((lev size start (wantOf ds) (listOf xs) k) + (xs.getD k 0)) - size))))))), .pointer (some ⟨b3, 0, none⟩), w1, .int .i64 ((((lev size start (wantOf ds) (listOf xs) k) + (xs.getD k 0)) - (max 0 (((lev size start (wantOf ds) (listOf xs) k) + (xs.getD k 0)) - size))) - (((ds.getD k dz).want) - (max 0 (((ds.getD k dz).want) - (((lev size start (wantOf ds) (listOf xs) k) + (xs.getD k 0)) - (max 0 (((lev size start (wantOf ds) (listOf xs) k) + (xs.getD k 0)) - size))))))), (val7 3), (val7 4), .pointer (some ⟨b3, 1, none⟩), w2, .int .i64 (max 0 (((ds.getD k dz).want) - (((lev size start (wantOf ds) (listOf xs) k) + (xs.getD k 0)) - (max 0 (((lev size start (wantOf ds) (listOf xs) k) + (xs.getD k 0)) - size))))), (val7 8), (val7 9), .pointer (some ⟨b3, 2, none⟩), w3, .int .i64 (max 0 (((lev size start (wantOf ds) (listOf xs) k) + (xs.getD k 0)) - size)), (val7 13), (val7 14), .pointer (some ⟨b3, 0, none⟩), (y4 67), (y4 68), undef]) (by simp only [e0_, e1_, e2_, e5_, e6_, e7_, e10_, e11_, e12_, e15_]) ?_
    clear hQ_ hX_
    have o10 := q4_
    have o12 := q9_
    have o14 := q14_
    refine rl_store1 (met_none rfl) tS25 rfl (v := (val7 4)) rfl o10.one (i := 0) rfl (Nat.succ_le_iff.1 (Nat.le_of_ble_eq_true rfl)) (cs2 := [(val7 4), w2, w3]) rfl (rl_own (L' := ([(b3, .cells #[(val7 4), w2, w3] 30 (0, 0)), (b2, .cells #[.slice none 0 0, .slice none 0 0, .slice none 0 0] 30 (0, 0)), (b1, .cells #[.int .i64 (size), .int .i64 (start), .slice a n c] 24 (0, 0))] : Pcs) ++ ((pc8 4) ++ ((pc8 9) ++ ((pc8 14) ++ [])))) rfl ?_)
    refine rl_det (met_none rfl) (fun h_ H_ => exd_fieldAddr tF30_1 rfl (a' := ⟨b3, 1, none⟩) rfl) rfl ?_
    refine rl_store1 (met_none rfl) tS25 rfl (v := (val7 9)) rfl o12.one (i := 0) rfl (Nat.succ_le_iff.1 (Nat.le_of_ble_eq_true rfl)) (cs2 := [(val7 4), (val7 9), w3]) rfl (rl_own (L' := ([(b3, .cells #[(val7 4), (val7 9), w3] 30 (0, 0)), (b2, .cells #[.slice none 0 0, .slice none 0 0, .slice none 0 0] 30 (0, 0)), (b1, .cells #[.int .i64 (size), .int .i64 (start), .slice a n c] 24 (0, 0))] : Pcs) ++ ((pc8 4) ++ ((pc8 9) ++ ((pc8 14) ++ [])))) rfl ?_)
    refine rl_det (met_none rfl) (fun h_ H_ => exd_fieldAddr tF30_2 rfl (a' := ⟨b3, 2, none⟩) rfl) (tm' := [_,_,_,_,_,_,_,_,_,_,_,_,_,_,_,_,_,_,_,_,_,_,_,_,_,_,_,_,_,_,_,_,_,_,_,_,_,_,_,_,_,_,_,_,_,_,_,_,_,_,_,_,_,_,_,_,_,_,_,_,_,_,_,_,_,_,_,_,_,_]) rfl ?_
    refine rl_store1 (met_none rfl) tS25 rfl (v := (val7 14)) rfl o14.one (i := 0) rfl (Nat.succ_le_iff.1 (Nat.le_of_ble_eq_true rfl)) (cs2 := [(val7 4), (val7 9), (val7 14)]) rfl (rl_own (L' := ([(b3, .cells #[(val7 4), (val7 9), (val7 14)] 30 (0, 0)), (b2, .cells #[.slice none 0 0, .slice none 0 0, .slice none 0 0] 30 (0, 0)), (b1, .cells #[.int .i64 (size), .int .i64 (start), .slice a n c] 24 (0, 0))] : Pcs) ++ ((pc8 4) ++ ((pc8 9) ++ ((pc8 14) ++ [])))) rfl ?_)
    refine rl_end ?_
    refine fl_inBlock ?_
    refine rl_start ?_
    refine rl_det (met_none rfl) (fun h_ H_ => exd_move (v := .int .i64 (((k : Nat) : Int))) rfl) rfl ?_
    refine rl_det (met_none rfl) (fun h_ H_ => exd_add rfl rfl (n := ((k + 1 : Nat) : Int)) (wr (by omega))) rfl ?_
    refine rl_det (met_none rfl) (fun h_ H_ => exd_assign (v := .int .i64 (((k + 1 : Nat) : Int))) rfl) (tm' := _::_::_::_::_::_::_::_::_) rfl ?_
    refine rl_end ?_
    exact fun h_ H_ => IH5 _ _ (by omega) h_ ⟨k + 1, (val7 4), (val7 9), (val7 14), (pc8 4), (pc8 9), (pc8 14), rfl, (y_of rfl), (by omega), (o10.as (ns_succ _ _).symm), (o12.as (ns_succ _ _).symm), (o14.as (ns_succ _ _).symm), H_⟩
  · refine fl_else rfl (decide_eq_false cc6) ?_
    refine fl_exit rfl ?_
    refine fl_seq ?_
    refine rl_start ?_
    refine rl_det (met_none rfl) (fun h_ H_ => exd_loadN_own H_ tA30 tS30 rfl (i := 0) rfl (vs := [w1, w2, w3]) rfl rfl) rfl ?_
    refine rl_store (met_none rfl) tS30 rfl (v := .agg #[w1, w2, w3]) rfl (i := 1) rfl rfl (ones_cons o1.one.2 (ones_cons o2.one.2 (ones_cons o3.one.2 rfl))) (Nat.le_of_ble_eq_true rfl) (cs2 := [w1, w2, w3]) rfl (rl_own (L' := ([(b3, .cells #[w1, w2, w3] 30 (0, 0)), (b2, .cells #[w1, w2, w3] 30 (0, 0)), (b1, .cells #[.int .i64 (size), .int .i64 (start), .slice a n c] 24 (0, 0))] : Pcs) ++ (X1 ++ (X2 ++ (X3 ++ [])))) rfl ?_)
    refine rl_end ?_
    refine fl_ret Try.func75 rfl (vs := [.agg #[w1, w2, w3]]) (fun h_ H_ => ⟨.agg #[w1, w2, w3], _, rfl, (wpS_bind (wpS_pure (wpS_loadVarN tA30 tS30 (vs := [w1, w2, w3]) rfl (fun j_ v_ e_ => by rw [add_mk]; exact H_.ocell (i := 1) rfl (by simpa using e_)) ⟨rfl, rfl⟩))), rfl⟩) (v := .agg #[w1, w2, w3]) rfl ?_
    obtain rfl : k = n := by omega
    exact fun h_ H_ => K _ _ ⟨_, _, _, _, _, _, rfl, o1, o2, o3, H_.dropA.new⟩
end Go.Proofs.Ytbmkacnlhlbnjaa
namespace Go.Proofs.Ytbmkacnlhlbnjaa
open Go.X Go.X.Cist Go.Conc
set_option maxRecDepth 10000

theorem c37 (md : Md) (h : Heap) (p : PHeap) (hp : Per p h) (size start : Int) (a : Option Addr) (n c : Nat) (ds : List Day) (D : Days p a n ds) (size2 start2 : Int) (a2 : Option Addr) (n2 c2 : Nat) (es : List Day) (E : Days p a2 n2 es) (hn : n ≤ 40) : CallsX Try.prog md 37 #[.agg #[.int .i64 (size), .int .i64 (start), .slice a n c], .agg #[.int .i64 (size2), .int .i64 (start2), .slice a2 n2 c2]] h fun v h' => v = .bool (decide (size = size2 ∧ start = start2 ∧ ds = es)) ∧ Keep h h' := by
  refine calls_intro (Φ := fun h_ => St h [] p h_ []) Try.func37 rfl (tm := [_, _, _, _, _, _, _, _, _, _, _, _, _, _, _, _, _, _, _, _, _, _, _, _, _, _, _, _, _, _, _, _, _, _, _, _, _, _, _, _, _, _, _, _, _]) rfl ?_ (St.start h _ hp)
  intro c₀ cs Stop K
  have hl := D.len
  have hl2 := E.len
  refine fl_seq ?_
  refine rl_start ?_
  refine rl_box (met_none rfl) (v := .agg #[.int .i64 (size), .int .i64 (start), .slice a n c]) rfl fun b1 => rl_own (L' := [(b1, .cells #[.int .i64 (size), .int .i64 (start), .slice a n c] 24 (0, 0))]) rfl ?_
  refine rl_box (met_none rfl) (v := .agg #[.int .i64 (size2), .int .i64 (start2), .slice a2 n2 c2]) rfl fun b2 => rl_own (L' := [(b2, .cells #[.int .i64 (size2), .int .i64 (start2), .slice a2 n2 c2] 24 (0, 0)), (b1, .cells #[.int .i64 (size), .int .i64 (start), .slice a n c] 24 (0, 0))]) rfl ?_
  refine rl_det (met_none rfl) (fun h_ H_ => exd_assign (v := .bool (false)) rfl) (tm' := _::_::_::_::_::_) rfl ?_
  refine rl_end ?_
  refine fl_seq ?_
  refine fl_seq ?_
  refine rl_start ?_
  refine rl_det (met_none rfl) (fun h_ H_ => exd_fieldAddr tF24_0 rfl (a' := ⟨b1, 0, none⟩) rfl) rfl ?_
  refine rl_det (met_none rfl) (fun h_ H_ => exd_load_own H_ tA3 rfl (i := 1) rfl (v := .int .i64 (size)) rfl) rfl ?_
  refine rl_det (met_none rfl) (fun h_ H_ => exd_fieldAddr tF24_0 rfl (a' := ⟨b2, 0, none⟩) rfl) (tm' := _::_::_::_::_::_::_::_::_::_) rfl ?_
  refine rl_det (met_none rfl) (fun h_ H_ => exd_load_own H_ tA3 rfl (i := 0) rfl (v := .int .i64 (size2)) rfl) rfl ?_
  refine rl_det (met_none rfl) (fun h_ H_ => exd_neq rfl rfl) rfl ?_
  refine rl_det (met_none rfl) (fun h_ H_ => exd_move (v := .bool (decide (size ≠ size2))) rfl) (tm' := _::_::_::_::_::_::_::_::_::_::_::_::_) rfl ?_
  by_cases cc3 : size ≠ size2
  · refine rl_pass (met_not rfl rfl (decide_eq_true cc3)) rfl ?_
    refine rl_pass (met_not rfl rfl (decide_eq_true cc3)) rfl ?_
    refine rl_pass (met_not rfl rfl (decide_eq_true cc3)) (tm' := _::_::_::_::_::_::_::_::_::_::_::_::_::_::_::_) rfl ?_
    refine rl_pass (met_not rfl rfl (decide_eq_true cc3)) rfl ?_
    refine rl_pass (met_not rfl rfl (decide_eq_true cc3)) rfl ?_
    refine rl_det (met_none rfl) (fun h_ H_ => exd_pick_t rfl (decide_eq_true cc3) (v := .bool (true)) rfl) (tm' := _::_::_::_::_::_::_::_::_::_::_::_::_::_::_::_::_::_::_) rfl ?_
    refine rl_det (met_none rfl) (fun h_ H_ => exd_move (v := .bool (true)) rfl) rfl ?_
    refine rl_pass (met_not rfl rfl rfl) rfl ?_
    refine rl_pass (met_not rfl rfl rfl) (tm' := _::_::_::_::_::_::_::_::_::_::_::_::_::_::_::_::_::_::_::_::_::_) rfl ?_
    refine rl_pass (met_not rfl rfl rfl) rfl ?_
    refine rl_pass (met_not rfl rfl rfl) rfl ?_
    refine rl_pass (met_not rfl rfl rfl) (tm' := _::_::_::_::_::_::_::_::_::_::_::_::_::_::_::_::_::_::_::_::_::_::_::_::_) rfl ?_
    refine rl_pass (met_not rfl rfl rfl) rfl ?_
    refine rl_pass (met_not rfl rfl rfl) rfl ?_
    refine rl_det (met_none rfl) (fun h_ H_ => exd_pick_t rfl rfl (v := .bool (true)) rfl) (tm' := _::_::_::_::_::_::_::_::_::_::_::_::_::_::_::_::_::_::_::_::_::_::_::_::_::_::_::_) rfl ?_
    refine rl_end ?_
    refine fl_then rfl rfl ?_
    refine fl_seq ?_
    refine rl_start ?_
    refine rl_det (met_none rfl) (fun h_ H_ => exd_assign (v := .bool (false)) rfl) rfl ?_
    refine rl_end ?_
    refine fl_ret Try.func37 rfl (vs := [.bool (false)]) (fun h_ H_ => ⟨.bool (false), _, rfl, rfl, rfl⟩) (v := .bool (false)) rfl ?_
    exact fun h_ H_ => K _ _ ⟨by first | (rw [decide_eq_false]; rintro ⟨e1, e2, e3⟩; first | (exact ‹¬ _› e1) | (exact ‹¬ _› e2) | omega | (subst e3; omega) | (subst e3; simp at *) | (exact ‹¬ _› (by rw [e3]))) | (rw [decide_eq_true]; exact ⟨by omega, by omega, days_yes (by omega) fun i hi => hs i (by omega)⟩), H_.kept⟩
  · refine rl_det (met_some rfl rfl (decide_eq_false cc3)) (fun h_ H_ => exd_fieldAddr tF24_1 rfl (a' := ⟨b1, 1, none⟩) rfl) rfl ?_
    refine rl_det (met_some rfl rfl (decide_eq_false cc3)) (fun h_ H_ => exd_load_own H_ tA3 rfl (i := 1) rfl (v := .int .i64 (start)) rfl) (tm' := _::_::_::_::_::_::_::_::_::_::_::_::_::_::_) rfl ?_
    refine rl_det (met_some rfl rfl (decide_eq_false cc3)) (fun h_ H_ => exd_fieldAddr tF24_1 rfl (a' := ⟨b2, 1, none⟩) rfl) rfl ?_
    refine rl_det (met_some rfl rfl (decide_eq_false cc3)) (fun h_ H_ => exd_load_own H_ tA3 rfl (i := 0) rfl (v := .int .i64 (start2)) rfl) rfl ?_
    refine rl_det (met_some rfl rfl (decide_eq_false cc3)) (fun h_ H_ => exd_neq rfl rfl) (tm' := _::_::_::_::_::_::_::_::_::_::_::_::_::_::_::_::_::_) rfl ?_
    refine rl_det (met_none rfl) (fun h_ H_ => exd_pick_f rfl (decide_eq_false cc3) (v := .bool (decide (start ≠ start2))) rfl) rfl ?_
    refine rl_det (met_none rfl) (fun h_ H_ => exd_move (v := .bool (decide (start ≠ start2))) rfl) rfl ?_
    by_cases cc4 : start ≠ start2
    · refine rl_pass (met_not rfl rfl (decide_eq_true cc4)) (tm' := _::_::_::_::_::_::_::_::_::_::_::_::_::_::_::_::_::_::_::_::_) rfl ?_
      refine rl_pass (met_not rfl rfl (decide_eq_true cc4)) rfl ?_
      refine rl_pass (met_not rfl rfl (decide_eq_true cc4)) rfl ?_
      refine rl_pass (met_not rfl rfl (decide_eq_true cc4)) (tm' := _::_::_::_::_::_::_::_::_::_::_::_::_::_::_::_::_::_::_::_::_::_::_::_) rfl ?_
      refine rl_pass (met_not rfl rfl (decide_eq_true cc4)) rfl ?_
      refine rl_pass (met_not rfl rfl (decide_eq_true cc4)) rfl ?_
      refine rl_pass (met_not rfl rfl (decide_eq_true cc4)) (tm' := _::_::_::_::_::_::_::_::_::_::_::_::_::_::_::_::_::_::_::_::_::_::_::_::_::_::_) rfl ?_
      refine rl_det (met_none rfl) (fun h_ H_ => exd_pick_t rfl (decide_eq_true cc4) (v := .bool (true)) rfl) rfl ?_
      refine rl_end ?_
      refine fl_then rfl rfl ?_
      refine fl_seq ?_
      refine rl_start ?_
      refine rl_det (met_none rfl) (fun h_ H_ => exd_assign (v := .bool (false)) rfl) rfl ?_
      refine rl_end ?_
      refine fl_ret Try.func37 rfl (vs := [.bool (false)]) (fun h_ H_ => ⟨.bool (false), _, rfl, rfl, rfl⟩) (v := .bool (false)) rfl ?_
      exact fun h_ H_ => K _ _ ⟨by first | (rw [decide_eq_false]; rintro ⟨e1, e2, e3⟩; first | (exact ‹¬ _› e1) | (exact ‹¬ _› e2) | omega | (subst e3; omega) | (subst e3; simp at *) | (exact ‹¬ _› (by rw [e3]))) | (rw [decide_eq_true]; exact ⟨by omega, by omega, days_yes (by omega) fun i hi => hs i (by omega)⟩), H_.kept⟩
    · refine rl_det (met_some rfl rfl (decide_eq_false cc4)) (fun h_ H_ => exd_fieldAddr tF24_2 rfl (a' := ⟨b1, 2, none⟩) rfl) (tm' := _::_::_::_::_::_::_::_::_::_::_::_::_::_::_::_::_::_::_::_::_) rfl ?_
      refine rl_det (met_some rfl rfl (decide_eq_false cc4)) (fun h_ H_ => exd_load_own H_ tA22 rfl (i := 1) rfl (v := .slice a n c) rfl) rfl ?_
      refine rl_det (met_some rfl rfl (decide_eq_false cc4)) (fun h_ H_ => exd_len Try.underlying22 rfl) rfl ?_
      refine rl_det (met_some rfl rfl (decide_eq_false cc4)) (fun h_ H_ => exd_fieldAddr tF24_2 rfl (a' := ⟨b2, 2, none⟩) rfl) (tm' := _::_::_::_::_::_::_::_::_::_::_::_::_::_::_::_::_::_::_::_::_::_::_::_) rfl ?_
      refine rl_det (met_some rfl rfl (decide_eq_false cc4)) (fun h_ H_ => exd_load_own H_ tA22 rfl (i := 0) rfl (v := .slice a2 n2 c2) rfl) rfl ?_
      refine rl_det (met_some rfl rfl (decide_eq_false cc4)) (fun h_ H_ => exd_len Try.underlying22 rfl) rfl ?_
      refine rl_det (met_some rfl rfl (decide_eq_false cc4)) (fun h_ H_ => exd_neq rfl rfl) (tm' := _::_::_::_::_::_::_::_::_::_::_::_::_::_::_::_::_::_::_::_::_::_::_::_::_::_::_) rfl ?_
      refine rl_det (met_none rfl) (fun h_ H_ => exd_pick_f rfl (decide_eq_false cc4) (v := .bool (decide (((n : Nat) : Int) ≠ ((n2 : Nat) : Int)))) rfl) rfl ?_
      refine rl_end ?_
      by_cases cc5 : ((n : Nat) : Int) ≠ ((n2 : Nat) : Int)
      · refine fl_then rfl (decide_eq_true cc5) ?_
        refine fl_seq ?_
        refine rl_start ?_
        refine rl_det (met_none rfl) (fun h_ H_ => exd_assign (v := .bool (false)) rfl) rfl ?_
        refine rl_end ?_
        refine fl_ret Try.func37 rfl (vs := [.bool (false)]) (fun h_ H_ => ⟨.bool (false), _, rfl, rfl, rfl⟩) (v := .bool (false)) rfl ?_
        exact fun h_ H_ => K _ _ ⟨by first | (rw [decide_eq_false]; rintro ⟨e1, e2, e3⟩; first | (exact ‹¬ _› e1) | (exact ‹¬ _› e2) | omega | (subst e3; omega) | (subst e3; simp at *) | (exact ‹¬ _› (by rw [e3]))) | (rw [decide_eq_true]; exact ⟨by omega, by omega, days_yes (by omega) fun i hi => hs i (by omega)⟩), H_.kept⟩
      · refine fl_else rfl (decide_eq_false cc5) ?_
        refine fl_skip ?_
        refine fl_seq ?_
        refine fl_seq ?_
        refine rl_start ?_
        refine rl_det (met_none rfl) (fun h_ H_ => exd_assign (v := .int .i64 0) rfl) (tm' := _::_::_::_::_::_::_) rfl ?_
        refine rl_end ?_
        refine fl_block ?_
        refine fl_loop (m₀ := n - 0) (fun m_ tm_ h_ => ∃ (k : Nat), m_ = n - k ∧ (∃ y6 : Nat → Value, tm_ = [.agg #[.int .i64 (size), .int .i64 (start), .slice a n c], .agg #[.int .i64 (size2), .int .i64 (start2), .slice a2 n2 c2], .pointer (some ⟨b1, 0, none⟩), .pointer (some ⟨b2, 0, none⟩), (y6 4), .int .i64 (((k : Nat) : Int)), .pointer (some ⟨b1, 0, none⟩), .int .i64 (size), .pointer (some ⟨b2, 0, none⟩), .int .i64 (size2), .bool (decide (size ≠ size2)), .bool (decide (size ≠ size2)), .pointer (some ⟨b1, 1, none⟩), .int .i64 (start), .pointer (some ⟨b2, 1, none⟩), .int .i64 (start2), .bool (decide (start ≠ start2)), .bool (decide (start ≠ start2)), .bool (decide (start ≠ start2)), .pointer (some ⟨b1, 2, none⟩), .slice a n c, .int .i64 (((n : Nat) : Int)), .pointer (some ⟨b2, 2, none⟩), .slice a2 n2 c2, .int .i64 (((n2 : Nat) : Int)), .bool (decide (((n : Nat) : Int) ≠ ((n2 : Nat) : Int))), .bool (decide (((n : Nat) : Int) ≠ ((n2 : Nat) : Int))), (y6 27), (y6 28), (y6 29), (y6 30), (y6 31), (y6 32), (y6 33), (y6 34), (y6 35), (y6 36), (y6 37), (y6 38), (y6 39), (y6 40), (y6 41), (y6 42), (y6 43), (y6 44)]) ∧ (k ≤ n) ∧ (∀ i, i < k → ds.getD i dz = es.getD i dz) ∧ St h [] p h_ ([(b2, .cells #[.int .i64 (size2), .int .i64 (start2), .slice a2 n2 c2] 24 (0, 0)), (b1, .cells #[.int .i64 (size), .int .i64 (start), .slice a n c] 24 (0, 0))])) (fun h_ H_ => ⟨0, rfl, (y_of rfl), Nat.zero_le _, (fun i hi => absurd hi (Nat.not_lt_zero i)), H_⟩) ?_
        intro m_ tm_ IH7
        refine rs_ex fun k => rs_and fun hm_ => rs_and fun ht_ => rs_and fun hk => rs_and fun hs => ?_
        subst hm_; obtain ⟨y6, ht_⟩ := ht_; subst ht_
        refine fl_seq ?_
        refine fl_seq ?_
        refine rl_start ?_
        refine rl_det (met_none rfl) (fun h_ H_ => exd_move (v := .int .i64 (((k : Nat) : Int))) rfl) rfl ?_
        refine rl_det (met_none rfl) (fun h_ H_ => exd_fieldAddr tF24_2 rfl (a' := ⟨b1, 2, none⟩) rfl) rfl ?_
        refine rl_det (met_none rfl) (fun h_ H_ => exd_load_own H_ tA22 rfl (i := 1) rfl (v := .slice a n c) rfl) (tm' := _::_::_::_::_::_::_::_::_::_::_::_::_::_::_::_::_::_::_::_::_::_::_::_::_::_::_::_::_::_::_) rfl ?_
        refine rl_det (met_none rfl) (fun h_ H_ => exd_len Try.underlying22 rfl) rfl ?_
        refine rl_det (met_none rfl) (fun h_ H_ => exd_lss rfl rfl) rfl ?_
        refine rl_end ?_
        by_cases cc8 : ((k : Nat) : Int) < ((n : Nat) : Int)
        · refine fl_then rfl (decide_eq_true cc8) ?_
          refine fl_skip ?_
          refine fl_seq ?_
          refine fl_block ?_
          refine fl_seq ?_
          refine fl_drawn2 10 [[], [0], [], [0, 1, 2], [0, 1, 2, 3], [], [5], [], [5, 6, 7], [5, 6, 7, 8], []] mixed (by kernel_rfl) (Nat.le_of_ble_eq_true rfl) ?_
          refine swr_det (met_none rfl) (fun h_ H_ => exd_fieldAddr tF24_2 rfl (a' := ⟨b1, 2, none⟩) rfl) rfl ?_
          refine swr_det (met_none rfl) (fun h_ H_ => exd_load_own H_ tA22 rfl (i := 1) rfl (v := .slice a n c) rfl) (tm' := [_,_,_,_,_,_,_,_,_,_,_,_,_,_,_,_,_,_,_,_,_,_,_,_,_,_,_,_,_,_,_,_,_,_,_,_,_,_,_,_,_,_,_,_,_]) rfl ?_
          refine swr_det (met_none rfl) (fun h_ H_ => exd_move (v := .int .i64 (((k : Nat) : Int))) rfl) rfl ?_
          refine swr_det (met_none rfl) (fun h_ H_ => exd_indexAddrN (i := k) Try.underlying22 tS38 (sl_ne a n c (D.ne (by omega))) rfl (by omega)) (tm' := [_,_,_,_,_,_,_,_,_,_,_,_,_,_,_,_,_,_,_,_,_,_,_,_,_,_,_,_,_,_,_,_,_,_,_,_,_,_,_,_,_,_,_,_,_]) rfl ?_
          refine swr_det (met_none rfl) (fun h_ H_ => exd_loadN_per H_ tA38 tS38 rfl (vs := [.int .i64 ((ds.getD k dz).lo), .int .i64 ((ds.getD k dz).hi), .int .i64 ((ds.getD k dz).want)]) rfl (D.all (by omega))) rfl ?_
          refine swr_det (met_none rfl) (fun h_ H_ => exd_fieldAddr tF24_2 rfl (a' := ⟨b2, 2, none⟩) rfl) (tm' := [_,_,_,_,_,_,_,_,_,_,_,_,_,_,_,_,_,_,_,_,_,_,_,_,_,_,_,_,_,_,_,_,_,_,_,_,_,_,_,_,_,_,_,_,_]) rfl ?_
          refine swr_det (met_none rfl) (fun h_ H_ => exd_load_own H_ tA22 rfl (i := 0) rfl (v := .slice a2 n2 c2) rfl) rfl ?_
          refine swr_det (met_none rfl) (fun h_ H_ => exd_move (v := .int .i64 (((k : Nat) : Int))) rfl) (tm' := [_,_,_,_,_,_,_,_,_,_,_,_,_,_,_,_,_,_,_,_,_,_,_,_,_,_,_,_,_,_,_,_,_,_,_,_,_,_,_,_,_,_,_,_,_]) rfl ?_
          refine swr_det (met_none rfl) (fun h_ H_ => exd_indexAddrN (i := k) Try.underlying22 tS38 (sl_ne a2 n2 c2 (E.ne (by omega))) rfl (by omega)) rfl ?_
          refine swr_det (met_none rfl) (fun h_ H_ => exd_loadN_per H_ tA38 tS38 rfl (vs := [.int .i64 ((es.getD k dz).lo), .int .i64 ((es.getD k dz).hi), .int .i64 ((es.getD k dz).want)]) rfl (E.all (by omega))) (tm' := [_,_,_,_,_,_,_,_,_,_,_,_,_,_,_,_,_,_,_,_,_,_,_,_,_,_,_,_,_,_,_,_,_,_,_,_,_,_,_,_,_,_,_,_,_]) rfl ?_
          refine swr_nil rfl ?_
          refine rl_det (met_none rfl) (fun h_ H_ => exd_neqAgg gT38 (dayEq 9997 (ds.getD k dz) (es.getD k dz)) rfl rfl) rfl ?_
          refine rl_end ?_
          by_cases cc9 : (ds.getD k dz) = (es.getD k dz)
          · refine fl_else rfl (not_f (decide_eq_true cc9)) ?_
            refine fl_skip ?_
            refine fl_inBlock ?_
            refine rl_start ?_
            refine rl_det (met_none rfl) (fun h_ H_ => exd_move (v := .int .i64 (((k : Nat) : Int))) rfl) rfl ?_
            refine rl_det (met_none rfl) (fun h_ H_ => exd_add rfl rfl (n := ((k + 1 : Nat) : Int)) (wr (by omega))) (tm' := [_,_,_,_,_,_,_,_,_,_,_,_,_,_,_,_,_,_,_,_,_,_,_,_,_,_,_,_,_,_,_,_,_,_,_,_,_,_,_,_,_,_,_,_,_]) rfl ?_
            refine rl_det (met_none rfl) (fun h_ H_ => exd_assign (v := .int .i64 (((k + 1 : Nat) : Int))) rfl) rfl ?_
            refine rl_end ?_
            exact fun h_ H_ => IH7 _ _ (by omega) h_ ⟨k + 1, rfl, (y_of rfl), (by omega), (eq_step hs (by first | exact Decidable.not_not.1 ‹_› | assumption)), H_⟩
          · refine fl_then rfl (not_t (decide_eq_false cc9)) ?_
            refine fl_seq ?_
            refine rl_start ?_
            refine rl_det (met_none rfl) (fun h_ H_ => exd_assign (v := .bool (false)) rfl) rfl ?_
            refine rl_end ?_
            refine fl_ret Try.func37 rfl (vs := [.bool (false)]) (fun h_ H_ => ⟨.bool (false), _, rfl, rfl, rfl⟩) (v := .bool (false)) rfl ?_
            exact fun h_ H_ => K _ _ ⟨by first | (rw [decide_eq_false]; rintro ⟨e1, e2, e3⟩; first | (exact ‹¬ _› e1) | (exact ‹¬ _› e2) | omega | (subst e3; omega) | (subst e3; simp at *) | (exact ‹¬ _› (by rw [e3]))) | (rw [decide_eq_true]; exact ⟨by omega, by omega, days_yes (by omega) fun i hi => hs i (by omega)⟩), H_.kept⟩
        · refine fl_else rfl (decide_eq_false cc8) ?_
          refine fl_exit rfl ?_
          refine fl_seq ?_
          refine rl_start ?_
          refine rl_det (met_none rfl) (fun h_ H_ => exd_assign (v := .bool (true)) rfl) (tm' := _::_::_::_::_::_) rfl ?_
          refine rl_end ?_
          refine fl_ret Try.func37 rfl (vs := [.bool (true)]) (fun h_ H_ => ⟨.bool (true), _, rfl, rfl, rfl⟩) (v := .bool (true)) rfl ?_
          exact fun h_ H_ => K _ _ ⟨by first | (rw [decide_eq_false]; rintro ⟨e1, e2, e3⟩; first | (exact ‹¬ _› e1) | (exact ‹¬ _› e2) | omega | (subst e3; omega) | (subst e3; simp at *) | (exact ‹¬ _› (by rw [e3]))) | (rw [decide_eq_true]; exact ⟨by omega, by omega, days_yes (by omega) fun i hi => hs i (by omega)⟩), H_.kept⟩
theorem c35ok (md : Md) (h : Heap) (p : PHeap) (hp : Per p h) (size start : Int) (a : Option Addr) (n c : Nat) (ds : List Day) (D : Days p a n ds) (hn : n ≤ 40) (b : Option Addr) (m d : Nat) (xs : List Int) (W : Ints p b m xs) (_hm40 : m ≤ 40) (hOk : Ok size start ds) (hW : Weather ds xs) : CallsX Try.prog md 35 #[.agg #[.int .i64 (size), .int .i64 (start), .slice a n c], .slice b m d] h fun v h' => ∃ w1 w2 w3 X1 X2 X3, v = .tuple #[w1, w2, w3, .int .i64 0] ∧ OwnS 3 1 w1 (ns (levs size start (wantOf ds) (listOf xs)) n) X1 ∧ OwnS 3 1 w2 (ns (lack size start (wantOf ds) (listOf xs)) n) X2 ∧ OwnS 3 1 w3 (ns (ovr size start (wantOf ds) (listOf xs)) n) X3 ∧ New h h' (X1 ++ (X2 ++ (X3 ++ []))) := by
  refine calls_intro (Φ := fun h_ => St h [] p h_ []) Try.func35 rfl (tm := [_, _, _, _, _, _, _, _, _, _, _, _, _, _, _, _, _, _, _, _, _, _, _, _, _, _, _]) rfl ?_ (St.start h _ hp)
  intro c₀ cs Stop K
  have hl := D.len
  have hm := W.len
  have hO : ¬ askd size start ds (decide (Weather ds xs)) ≠ 0 := by rw [askd_ok hOk (decide_eq_true hW)]; decide
  refine fl_seq ?_
  refine rl_start ?_
  refine rl_box (met_none rfl) (v := .agg #[.int .i64 (size), .int .i64 (start), .slice a n c]) rfl fun b1 => rl_own (L' := [(b1, .cells #[.int .i64 (size), .int .i64 (start), .slice a n c] 24 (0, 0))]) rfl ?_
  refine rl_det (met_none rfl) (fun h_ H_ => exd_assign (v := .slice none 0 0) rfl) rfl ?_
  refine rl_det (met_none rfl) (fun h_ H_ => exd_assign (v := .slice none 0 0) rfl) (tm' := _::_::_::_::_::_::_) rfl ?_
  refine rl_det (met_none rfl) (fun h_ H_ => exd_assign (v := .slice none 0 0) rfl) rfl ?_
  refine rl_det (met_none rfl) (fun h_ H_ => exd_assign (v := .int .i64 0) rfl) rfl ?_
  refine rl_end ?_
  refine fl_seq ?_
  refine fl_seq ?_
  refine fl_drawn2 4 [[], [], [], [1, 2], [], []] mixed (by kernel_rfl) (Nat.le_of_ble_eq_true rfl) ?_
  refine swr_det (met_none rfl) (fun h_ H_ => exd_loadN_own H_ tA24 tS24 rfl (i := 0) rfl (vs := [.int .i64 (size), .int .i64 (start), .slice a n c]) rfl rfl) rfl ?_
  refine swr_det (met_none rfl) (fun h_ H_ => exd_loadN_own H_ tA24 tS24 rfl (i := 0) rfl (vs := [.int .i64 (size), .int .i64 (start), .slice a n c]) rfl rfl) (tm' := _::_::_::_::_::_::_::_::_::_::_::_::_) rfl ?_
  refine swr_det (met_none rfl) (fun h_ H_ => exd_move (v := .slice b m d) rfl) rfl ?_
  refine swr_call (met_none rfl) (first := []) (cap := []) rfl rfl fC17 (fun h_ H_ => (c17 md _ _ (fun b_ o_ e_ => H_.per b_ o_ e_) (size) (start) _ _ _ _ D (by omega) _ _ _ _ W).mono fun v_ h2_ ⟨e_, k_⟩ => ⟨e_, H_.call k_⟩) (tm' := _::_::_::_::_::_::_::_::_::_::_::_::_::_::_) rfl ?_
  refine swr_nil rfl ?_
  refine rl_calld (met_none rfl) (first := []) (cap := []) rfl rfl fC74 (fun h_ H_ => c74 md _ _ (fun b_ o_ e_ => H_.per b_ o_ e_) (size) (start) _ _ _ _ D (by omega) (decide (Weather ds xs))) rfl ?_
  refine rl_det (met_none rfl) (fun h_ H_ => exd_assign (v := .int .i64 (askd (size) (start) ds (decide (Weather ds xs)))) rfl) rfl ?_
  refine rl_end ?_
  refine fl_seq ?_
  refine rl_start ?_
  refine rl_det (met_none rfl) (fun h_ H_ => exd_move (v := .int .i64 (askd (size) (start) ds (decide (Weather ds xs)))) rfl) (tm' := _::_::_::_::_::_::_::_::_::_::_::_::_::_::_::_::_) rfl ?_
  refine rl_det (met_none rfl) (fun h_ H_ => exd_neq rfl rfl) rfl ?_
  refine rl_end ?_
  refine fl_else rfl (decide_eq_false hO) ?_
  refine fl_skip ?_
  refine fl_seq ?_
  refine rl_start ?_
  refine rl_det (met_none rfl) (fun h_ H_ => exd_loadN_own H_ tA24 tS24 rfl (i := 0) rfl (vs := [.int .i64 (size), .int .i64 (start), .slice a n c]) rfl rfl) rfl ?_
  refine rl_det (met_none rfl) (fun h_ H_ => exd_move (v := .slice b m d) rfl) (tm' := [_,_,_,_,_,_,_,_,_,_,_,_,_,_,_,_,_,_,_,_,_,_,_,_,_,_,_]) rfl ?_
  refine rl_own (L' := ([(b1, .cells #[.int .i64 (size), .int .i64 (start), .slice a n c] 24 (0, 0))] : Pcs) ++ []) rfl ?_
  refine rl_call (met_none rfl) (first := []) (cap := []) rfl rfl fC75 (R := fun v_ h_ => ∃ w2 : Value, ∃ w3 : Value, ∃ w4 : Value, ∃ X5 : Pcs, ∃ X6 : Pcs, ∃ X7 : Pcs, v_ = .agg #[w2, w3, w4] ∧ (OwnS 3 1 w2 (ns (levs size start (wantOf ds) (listOf xs)) n) X5) ∧ (OwnS 3 1 w3 (ns (lack size start (wantOf ds) (listOf xs)) n) X6) ∧ (OwnS 3 1 w4 (ns (ovr size start (wantOf ds) (listOf xs)) n) X7) ∧ St h [] p h_ (([(b1, .cells #[.int .i64 (size), .int .i64 (start), .slice a n c] 24 (0, 0))] : Pcs) ++ ((X5 ++ (X6 ++ (X7 ++ []))) ++ []))) (fun h_ H_ => (c75 md _ _ (fun b_ o_ e_ => H_.per b_ o_ e_) (size) (start) _ _ _ _ D (by omega) _ _ _ _ W hOk.lok hW).mono fun v_ h2_ ⟨w2, w3, w4, X5, X6, X7, e_, o8, o9, o10, N_⟩ => ⟨w2, w3, w4, X5, X6, X7, e_, o8, o9, o10, H_.callNA N_⟩) fun v_ => ?_
  refine rl_ex fun w2 => rl_ex fun w3 => rl_ex fun w4 => rl_ex fun X5 => rl_ex fun X6 => rl_ex fun X7 => rl_and fun ev_ => rl_and fun o8 => rl_and fun o9 => rl_and fun o10 => ?_
  have ev_ := ev_.symm; subst ev_
  refine rl_own (L' := ([(b1, .cells #[.int .i64 (size), .int .i64 (start), .slice a n c] 24 (0, 0))] : Pcs) ++ (X5 ++ (X6 ++ (X7 ++ [])))) (by simp) ?_
  refine rl_alloc (met_none rfl) tZ30 rfl fun b11 => rl_own (L' := ([(b11, .cells #[.slice none 0 0, .slice none 0 0, .slice none 0 0] 30 (0, 0)), (b1, .cells #[.int .i64 (size), .int .i64 (start), .slice a n c] 24 (0, 0))] : Pcs) ++ (X5 ++ (X6 ++ (X7 ++ [])))) rfl ?_
  refine rl_store (met_none rfl) tS30 rfl (v := .agg #[w2, w3, w4]) rfl (i := 0) rfl rfl (ones_cons o8.one.2 (ones_cons o9.one.2 (ones_cons o10.one.2 rfl))) (Nat.le_of_ble_eq_true rfl) (cs2 := [w2, w3, w4]) rfl (rl_own (L' := ([(b11, .cells #[w2, w3, w4] 30 (0, 0)), (b1, .cells #[.int .i64 (size), .int .i64 (start), .slice a n c] 24 (0, 0))] : Pcs) ++ (X5 ++ (X6 ++ (X7 ++ [])))) rfl ?_)
  refine rl_end ?_
  refine fl_seq ?_
  refine fl_drawn2 8 [] mixed (by kernel_rfl) (Nat.le_of_ble_eq_true rfl) ?_
  refine swr_det (met_none rfl) (fun h_ H_ => exd_fieldAddr tF30_0 rfl (a' := ⟨b11, 0, none⟩) rfl) rfl ?_
  refine swr_det (met_none rfl) (fun h_ H_ => exd_load_own H_ tA25 rfl (i := 0) rfl (v := w2) rfl) (tm' := [_,_,_,_,_,_,_,_,_,_,_,_,_,_,_,_,_,_,_,_,_,_,_,_,_,_,_]) rfl ?_
  refine swr_det (met_none rfl) (fun h_ H_ => exd_fieldAddr tF30_1 rfl (a' := ⟨b11, 1, none⟩) rfl) rfl ?_
  refine swr_det (met_none rfl) (fun h_ H_ => exd_load_own H_ tA25 rfl (i := 0) rfl (v := w3) rfl) (tm' := [_,_,_,_,_,_,_,_,_,_,_,_,_,_,_,_,_,_,_,_,_,_,_,_,_,_,_]) rfl ?_
  refine swr_det (met_none rfl) (fun h_ H_ => exd_fieldAddr tF30_2 rfl (a' := ⟨b11, 2, none⟩) rfl) rfl ?_
  refine swr_det (met_none rfl) (fun h_ H_ => exd_load_own H_ tA25 rfl (i := 0) rfl (v := w4) rfl) (tm' := [_,_,_,_,_,_,_,_,_,_,_,_,_,_,_,_,_,_,_,_,_,_,_,_,_,_,_]) rfl ?_
  refine swr_det (met_none rfl) (fun h_ H_ => exd_assign (v := w2) rfl) rfl ?_
  refine swr_det (met_none rfl) (fun h_ H_ => exd_assign (v := w3) rfl) (tm' := _::_::_::_::_::_::_) rfl ?_
  refine swr_nil rfl ?_
  refine rl_det (met_none rfl) (fun h_ H_ => exd_assign (v := w4) rfl) rfl ?_
  refine rl_det (met_none rfl) (fun h_ H_ => exd_assign (v := .int .i64 0) rfl) (tm' := _::_::_::_::_::_::_::_::_) rfl ?_
  refine rl_end ?_
  refine fl_ret Try.func35 rfl (vs := [w2, w3, w4, .int .i64 0]) (fun h_ H_ => ⟨w2, _, rfl, rfl, ⟨w3, _, rfl, rfl, ⟨w4, _, rfl, rfl, ⟨.int .i64 0, _, rfl, rfl, rfl⟩⟩⟩⟩) (v := .tuple #[w2, w3, w4, .int .i64 0]) rfl ?_
  exact fun h_ H_ => K _ _ ⟨_, _, _, _, _, _, rfl, o8, o9, o10, H_.dropA.new⟩
theorem c35no (md : Md) (h : Heap) (p : PHeap) (hp : Per p h) (size start : Int) (a : Option Addr) (n c : Nat) (ds : List Day) (D : Days p a n ds) (hn : n ≤ 40) (b : Option Addr) (m d : Nat) (xs : List Int) (W : Ints p b m xs) (_hm40 : m ≤ 40) (hno : ¬ (Ok size start ds ∧ Weather ds xs)) : CallsX Try.prog md 35 #[.agg #[.int .i64 (size), .int .i64 (start), .slice a n c], .slice b m d] h fun v h' => v = .tuple #[.slice none 0 0, .slice none 0 0, .slice none 0 0, .int .i64 (askd size start ds (decide (Weather ds xs)))] ∧ Keep h h' := by
  refine calls_intro (Φ := fun h_ => St h [] p h_ []) Try.func35 rfl (tm := [_, _, _, _, _, _, _, _, _, _, _, _, _, _, _, _, _, _, _, _, _, _, _, _, _, _, _]) rfl ?_ (St.start h _ hp)
  intro c₀ cs Stop K
  have hl := D.len
  have hm := W.len
  have hO : askd size start ds (decide (Weather ds xs)) ≠ 0 := fun e => hno ⟨(askd_zero.1 e).1, of_decide_eq_true (askd_zero.1 e).2⟩
  refine fl_seq ?_
  refine rl_start ?_
  refine rl_box (met_none rfl) (v := .agg #[.int .i64 (size), .int .i64 (start), .slice a n c]) rfl fun b1 => rl_own (L' := [(b1, .cells #[.int .i64 (size), .int .i64 (start), .slice a n c] 24 (0, 0))]) rfl ?_
  refine rl_det (met_none rfl) (fun h_ H_ => exd_assign (v := .slice none 0 0) rfl) rfl ?_
  refine rl_det (met_none rfl) (fun h_ H_ => exd_assign (v := .slice none 0 0) rfl) (tm' := _::_::_::_::_::_::_) rfl ?_
  refine rl_det (met_none rfl) (fun h_ H_ => exd_assign (v := .slice none 0 0) rfl) rfl ?_
  refine rl_det (met_none rfl) (fun h_ H_ => exd_assign (v := .int .i64 0) rfl) rfl ?_
  refine rl_end ?_
  refine fl_seq ?_
  refine fl_seq ?_
  refine fl_drawn2 4 [[], [], [], [1, 2], [], []] mixed (by kernel_rfl) (Nat.le_of_ble_eq_true rfl) ?_
  refine swr_det (met_none rfl) (fun h_ H_ => exd_loadN_own H_ tA24 tS24 rfl (i := 0) rfl (vs := [.int .i64 (size), .int .i64 (start), .slice a n c]) rfl rfl) (tm' := _::_::_::_::_::_::_::_::_::_::_::_) rfl ?_
  refine swr_det (met_none rfl) (fun h_ H_ => exd_loadN_own H_ tA24 tS24 rfl (i := 0) rfl (vs := [.int .i64 (size), .int .i64 (start), .slice a n c]) rfl rfl) rfl ?_
  refine swr_det (met_none rfl) (fun h_ H_ => exd_move (v := .slice b m d) rfl) (tm' := _::_::_::_::_::_::_::_::_::_::_::_::_::_) rfl ?_
  refine swr_call (met_none rfl) (first := []) (cap := []) rfl rfl fC17 (fun h_ H_ => (c17 md _ _ (fun b_ o_ e_ => H_.per b_ o_ e_) (size) (start) _ _ _ _ D (by omega) _ _ _ _ W).mono fun v_ h2_ ⟨e_, k_⟩ => ⟨e_, H_.call k_⟩) rfl ?_
  refine swr_nil rfl ?_
  refine rl_calld (met_none rfl) (first := []) (cap := []) rfl rfl fC74 (fun h_ H_ => c74 md _ _ (fun b_ o_ e_ => H_.per b_ o_ e_) (size) (start) _ _ _ _ D (by omega) (decide (Weather ds xs))) rfl ?_
  refine rl_det (met_none rfl) (fun h_ H_ => exd_assign (v := .int .i64 (askd (size) (start) ds (decide (Weather ds xs)))) rfl) rfl ?_
  refine rl_end ?_
  refine fl_seq ?_
  refine rl_start ?_
  refine rl_det (met_none rfl) (fun h_ H_ => exd_move (v := .int .i64 (askd (size) (start) ds (decide (Weather ds xs)))) rfl) (tm' := _::_::_::_::_::_::_::_::_::_::_::_::_::_::_::_::_) rfl ?_
  refine rl_det (met_none rfl) (fun h_ H_ => exd_neq rfl rfl) rfl ?_
  refine rl_end ?_
  refine fl_then rfl (decide_eq_true hO) ?_
  refine fl_seq ?_
  refine rl_start ?_
  refine rl_det (met_none rfl) (fun h_ H_ => exd_move (v := .int .i64 (askd (size) (start) ds (decide (Weather ds xs)))) rfl) rfl ?_
  refine rl_det (met_none rfl) (fun h_ H_ => exd_assign (v := .slice none 0 0) rfl) (tm' := _::_::_::_::_::_) rfl ?_
  refine rl_det (met_none rfl) (fun h_ H_ => exd_assign (v := .slice none 0 0) rfl) rfl ?_
  refine rl_det (met_none rfl) (fun h_ H_ => exd_assign (v := .slice none 0 0) rfl) rfl ?_
  refine rl_det (met_none rfl) (fun h_ H_ => exd_assign (v := .int .i64 (askd (size) (start) ds (decide (Weather ds xs)))) rfl) (tm' := _::_::_::_::_::_::_::_::_) rfl ?_
  refine rl_end ?_
  refine fl_ret Try.func35 rfl (vs := [.slice none 0 0, .slice none 0 0, .slice none 0 0, .int .i64 (askd (size) (start) ds (decide (Weather ds xs)))]) (fun h_ H_ => ⟨.slice none 0 0, _, rfl, rfl, ⟨.slice none 0 0, _, rfl, rfl, ⟨.slice none 0 0, _, rfl, rfl, ⟨.int .i64 (askd (size) (start) ds (decide (Weather ds xs))), _, rfl, rfl, rfl⟩⟩⟩⟩) (v := .tuple #[.slice none 0 0, .slice none 0 0, .slice none 0 0, .int .i64 (askd (size) (start) ds (decide (Weather ds xs)))]) rfl ?_
  exact fun h_ H_ => K _ _ ⟨rfl, H_.kept⟩
theorem c34no (md : Md) (h : Heap) (p : PHeap) (hp : Per p h) (size start : Int) (a : Option Addr) (n c : Nat) (ds : List Day) (D : Days p a n ds) (hn : n ≤ 40) (b : Option Addr) (m d : Nat) (xs : List Int) (W : Ints p b m xs) (hm40 : m ≤ 40) (hno : ¬ (Ok size start ds ∧ Weather ds xs)) : CallsX Try.prog md 34 #[.agg #[.int .i64 (size), .int .i64 (start), .slice a n c], .slice b m d] h fun v h' => v = .tuple #[.slice none 0 0, .slice none 0 0, .slice none 0 0, .int .i64 (askd size start ds (decide (Weather ds xs)))] ∧ Keep h h' :=
  (c34 md h p hp size start a n c ds D hn b m d xs W hm40).mono fun v h' ⟨w1, w2, w3, X1, X2, X3, e, _, y, N⟩ => ⟨by rw [e, (y hno).1, (y hno).2.1, (y hno).2.2.1], N.keep⟩
end Go.Proofs.Ytbmkacnlhlbnjaa
namespace Go.Proofs.Ytbmkacnlhlbnjaa
open Go.X Go.X.Cist Go.Conc
set_option maxRecDepth 10000

set_option maxHeartbeats 8000000
theorem e8 (h : Heap) (p : PHeap) (hp : Per p h) (size start : Int) (a : Option Addr) (n c : Nat) (ds : List Day) (D : Days p a n ds) (b : Option Addr) (m d : Nat) (xs : List Int) (W : Ints p b m xs) : EntersX Try.prog (.main true) 8 #[.agg #[.int .i64 (size), .int .i64 (start), .slice a n c], .slice b m d] h fun v h' => v = .bool true ∧ Keep h h' := by
  refine enters_intro (Φ := fun h_ => St h [] p h_ []) Try.func8 rfl (tm := [_, _, _, _, _, _, _, _, _, _, _, _, _, _, _, _, _, _, _, _, _, _, _, _, _, _, _, _, _, _, _, _, _, _, _, _, _, _, _, _, _, _, _, _, _, _, _, _, _, _, _, _, _, _, _, _, _, _, _, _, _, _, _, _, _, _, _, _, _, _, _, _, _, _, _, _, _, _, _, _, _, _]) rfl ?_ (St.start h _ hp)
  intro K
  have hl := D.len
  have hm := W.len
  refine fl_seq ?_
  refine rl_start ?_
  refine rl_box (met_none rfl) (v := .agg #[.int .i64 (size), .int .i64 (start), .slice a n c]) rfl fun b1 => rl_own (L' := [(b1, .cells #[.int .i64 (size), .int .i64 (start), .slice a n c] 24 (0, 0))]) rfl ?_
  refine rl_det (met_none rfl) (fun h_ H_ => exd_assign (v := .bool (false)) rfl) rfl ?_
  refine rl_end ?_
  refine fl_seq ?_
  refine fl_seq ?_
  refine rl_start ?_
  refine rl_det (met_none rfl) (fun h_ H_ => exd_fieldAddr tF24_2 rfl (a' := ⟨b1, 2, none⟩) rfl) (tm' := _::_::_::_::_::_::_::_::_::_::_::_::_::_::_::_::_) rfl ?_
  refine rl_det (met_none rfl) (fun h_ H_ => exd_load_own H_ tA22 rfl (i := 0) rfl (v := .slice a n c) rfl) rfl ?_
  refine rl_det (met_none rfl) (fun h_ H_ => exd_len Try.underlying22 rfl) rfl ?_
  refine rl_det (met_none rfl) (fun h_ H_ => exd_gtr rfl rfl) (tm' := _::_::_::_::_::_::_::_::_::_::_::_::_::_::_::_::_::_::_::_) rfl ?_
  refine rl_det (met_none rfl) (fun h_ H_ => exd_move (v := .bool (decide (40 < ((n : Nat) : Int)))) rfl) rfl ?_
  by_cases cc2 : 40 < ((n : Nat) : Int)
  · refine rl_pass (met_not rfl rfl (decide_eq_true cc2)) rfl ?_
    refine rl_pass (met_not rfl rfl (decide_eq_true cc2)) (tm' := _::_::_::_::_::_::_::_::_::_::_::_::_::_::_::_::_::_::_::_::_::_::_) rfl ?_
    refine rl_pass (met_not rfl rfl (decide_eq_true cc2)) rfl ?_
    refine rl_det (met_none rfl) (fun h_ H_ => exd_pick_t rfl (decide_eq_true cc2) (v := .bool (true)) rfl) rfl ?_
    refine rl_end ?_
    refine fl_then rfl rfl ?_
    refine fl_seq ?_
    refine rl_start ?_
    refine rl_calld (met_none rfl) (first := []) (cap := []) rfl rfl fC18 (fun h_ H_ => c18 _) (tm' := _::_::_::_::_::_::_::_::_::_::_::_::_::_::_::_::_::_::_::_::_::_::_::_::_::_) rfl ?_
    refine rl_det (met_none rfl) (fun h_ H_ => exd_assign (v := .bool (true)) rfl) rfl ?_
    refine rl_end ?_
    refine fl_retE (by kernel_rfl) Try.func8 rfl (vs := [.bool (true)]) (fun h_ H_ => ⟨.bool (true), _, rfl, rfl, rfl⟩) (v := .bool (true)) rfl ?_
    exact fun h_ H_ => K _ _ ⟨rfl, H_.kept⟩
  · refine rl_det (met_some rfl rfl (decide_eq_false cc2)) (fun h_ H_ => exd_move (v := .slice b m d) rfl) rfl ?_
    refine rl_det (met_some rfl rfl (decide_eq_false cc2)) (fun h_ H_ => exd_len Try.underlying25 rfl) (tm' := _::_::_::_::_::_::_::_::_::_::_::_::_::_::_::_::_::_::_::_::_::_::_) rfl ?_
    refine rl_det (met_some rfl rfl (decide_eq_false cc2)) (fun h_ H_ => exd_gtr rfl rfl) rfl ?_
    refine rl_det (met_none rfl) (fun h_ H_ => exd_pick_f rfl (decide_eq_false cc2) (v := .bool (decide (40 < ((m : Nat) : Int)))) rfl) rfl ?_
    refine rl_end ?_
    by_cases cc3 : 40 < ((m : Nat) : Int)
    · refine fl_then rfl (decide_eq_true cc3) ?_
      refine fl_seq ?_
      refine rl_start ?_
      refine rl_calld (met_none rfl) (first := []) (cap := []) rfl rfl fC18 (fun h_ H_ => c18 _) (tm' := _::_::_::_::_::_::_::_::_::_::_::_::_::_::_::_::_::_::_::_::_::_::_::_::_::_) rfl ?_
      refine rl_det (met_none rfl) (fun h_ H_ => exd_assign (v := .bool (true)) rfl) rfl ?_
      refine rl_end ?_
      refine fl_retE (by kernel_rfl) Try.func8 rfl (vs := [.bool (true)]) (fun h_ H_ => ⟨.bool (true), _, rfl, rfl, rfl⟩) (v := .bool (true)) rfl ?_
      exact fun h_ H_ => K _ _ ⟨rfl, H_.kept⟩
    · refine fl_else rfl (decide_eq_false cc3) ?_
      refine fl_skip ?_
      refine fl_seq ?_
      refine rl_start ?_
      refine rl_det (met_none rfl) (fun h_ H_ => exd_loadN_own H_ tA24 tS24 rfl (i := 0) rfl (vs := [.int .i64 (size), .int .i64 (start), .slice a n c]) rfl rfl) rfl ?_
      refine rl_own (L' := ([(b1, .cells #[.int .i64 (size), .int .i64 (start), .slice a n c] 24 (0, 0))] : Pcs) ++ []) rfl ?_
      refine rl_call (met_none rfl) (first := []) (cap := []) rfl rfl fC30 (R := fun v_ h_ => ∃ w4 : Value, ∃ X5 : Pcs, v_ = .agg #[.int .i64 (size), .int .i64 (start), w4] ∧ (OwnS 38 3 w4 (dcs ds) X5) ∧ St h [] p h_ (([(b1, .cells #[.int .i64 (size), .int .i64 (start), .slice a n c] 24 (0, 0))] : Pcs) ++ (X5 ++ []))) (fun h_ H_ => (c30 (.main true) _ _ (fun b_ o_ e_ => H_.per b_ o_ e_) (size) (start) _ _ _ _ D (by omega)).mono fun v_ h2_ ⟨w4, X5, e_, o6, N_⟩ => ⟨w4, X5, e_, o6, H_.callNA N_⟩) fun v_ => ?_
      refine rl_ex fun w4 => rl_ex fun X5 => rl_and fun ev_ => rl_and fun o6 => ?_
      have ev_ := ev_.symm; subst ev_
      refine rl_own (L' := ([(b1, .cells #[.int .i64 (size), .int .i64 (start), .slice a n c] 24 (0, 0))] : Pcs) ++ (X5 ++ [])) rfl ?_
      refine rl_norm (tm' := _::_::_::_::_::_::_::_::_::_::_::_::_::_::_::_::_::_::_::_::_::_::_::_::_::_::_::_) rfl ?_
      refine rl_buildO ([(b1, .cells #[.int .i64 (size), .int .i64 (start), .slice a n c] 24 (0, 0))] : Pcs) (met_none rfl) Try.underlying25 tS3 tZ3 (Nat.le_of_ble_eq_true rfl) (vs := []) rfl rfl (es := []) rfl rfl rfl fun v7 X8 o9 => ?_
      refine rl_det (met_none rfl) (fun h_ H_ => exd_move (v := .slice b m d) rfl) rfl ?_
      refine rl_appendP ([(b1, .cells #[.int .i64 (size), .int .i64 (start), .slice a n c] 24 (0, 0))] : Pcs) X8 (met_none rfl) Try.underlying25 tS3 tZ3 rfl tB3 Try.underlying25 rfl rfl o9 W (ints_ones _) (by first | omega | (simp; omega) | simp) (by decide) (by decide) fun v10 X11 o12 => ?_
      refine rl_norm (tm' := _::_::_::_::_::_::_::_::_::_::_::_::_::_::_::_::_::_::_::_::_::_::_::_::_::_::_::_::_::_::_) rfl ?_
      refine rl_alloc (met_none rfl) tZ24 rfl fun b13 => rl_own (L' := ([(b13, .cells #[.int .i64 0, .int .i64 0, .slice none 0 0] 24 (0, 0)), (b1, .cells #[.int .i64 (size), .int .i64 (start), .slice a n c] 24 (0, 0))] : Pcs) ++ (X11 ++ (X5 ++ []))) rfl ?_
      refine rl_store (met_none rfl) tS24 rfl (v := .agg #[.int .i64 (size), .int .i64 (start), w4]) rfl (i := 0) rfl rfl (ones_cons rfl (ones_cons rfl (ones_cons o6.one.2 rfl))) (Nat.le_of_ble_eq_true rfl) (cs2 := [.int .i64 (size), .int .i64 (start), w4]) rfl (rl_own (L' := ([(b13, .cells #[.int .i64 (size), .int .i64 (start), w4] 24 (0, 0)), (b1, .cells #[.int .i64 (size), .int .i64 (start), .slice a n c] 24 (0, 0))] : Pcs) ++ (X11 ++ (X5 ++ []))) rfl ?_)
      refine rl_det (met_none rfl) (fun h_ H_ => exd_assign (v := v10) rfl) rfl ?_
      refine rl_end ?_
      refine fl_seq ?_
      refine fl_seq ?_
      refine rs_perm (List.Perm.append_left _ (List.perm_append_comm_assoc _ _ _)) ?_
      refine rs_own (L' := ([(b13, .cells #[.int .i64 (size), .int .i64 (start), w4] 24 (0, 0)), (b1, .cells #[.int .i64 (size), .int .i64 (start), .slice a n c] 24 (0, 0))] : Pcs) ++ (X5 ++ (X11 ++ []))) rfl ?_
      refine rs_lastN (A := ([(b13, .cells #[.int .i64 (size), .int .i64 (start), w4] 24 (0, 0)), (b1, .cells #[.int .i64 (size), .int .i64 (start), .slice a n c] 24 (0, 0))] : Pcs)) o6 (show (dcs ds).length = n by rw [dcs_length]; omega) fun p14 a15 cp16 le17 ev_ D18 => ?_
      subst ev_
      refine fl_drawn2 3 [[], [0], [], [0, 2], []] mixed (by kernel_rfl) (Nat.le_of_ble_eq_true rfl) ?_
      refine swr_det (met_none rfl) (fun h_ H_ => exd_loadN_own H_ tA24 tS24 rfl (i := 0) rfl (vs := [.int .i64 (size), .int .i64 (start), .slice a15 n cp16]) rfl rfl) rfl ?_
      refine swr_call (met_none rfl) (first := []) (cap := []) rfl rfl fC32 (fun h_ H_ => (c32 (.main true) _ _ (fun b_ o_ e_ => H_.per b_ o_ e_) (size) (start) _ _ _ _ (show Days _ _ _ ds from D18) (by omega)).mono fun v_ h2_ ⟨e_, k_⟩ => ⟨e_, H_.call k_⟩) (tm' := _::_::_::_::_::_::_::_::_::_::_::_::_::_::_::_::_::_::_::_::_::_::_::_::_::_::_::_::_::_::_::_::_) rfl ?_
      refine swr_det (met_none rfl) (fun h_ H_ => exd_loadN_own H_ tA24 tS24 rfl (i := 1) rfl (vs := [.int .i64 (size), .int .i64 (start), .slice a n c]) rfl rfl) rfl ?_
      refine swr_nil rfl ?_
      refine rl_calld (met_none rfl) (first := []) (cap := []) rfl rfl fC33 (fun h_ H_ => c33 (.main true) _ _ (fun b_ o_ e_ => H_.per b_ o_ e_) (size) (start) _ _ _ _ (D.mono le17) (by omega)) (tm' := _::_::_::_::_::_::_::_::_::_::_::_::_::_::_::_::_::_::_::_::_::_::_::_::_::_::_::_::_::_::_::_::_::_::_) rfl ?_
      refine rl_det (met_none rfl) (fun h_ H_ => exd_neq rfl rfl) rfl ?_
      refine rl_end ?_
      refine fl_else rfl (decide_eq_false (fun h_ => h_ rfl)) ?_
      refine fl_skip ?_
      refine fl_seq ?_
      refine rl_start ?_
      refine rl_det (met_none rfl) (fun h_ H_ => exd_loadN_own H_ tA24 tS24 rfl (i := 0) rfl (vs := [.int .i64 (size), .int .i64 (start), .slice a15 n cp16]) rfl rfl) rfl ?_
      refine rl_det (met_none rfl) (fun h_ H_ => exd_move (v := v10) rfl) (tm' := _::_::_::_::_::_::_::_::_::_::_::_::_::_::_::_::_::_::_::_::_::_::_::_::_::_::_::_::_::_::_::_::_::_::_::_::_::_::_) rfl ?_
      refine rl_lastN (A := ([(b13, .cells #[.int .i64 (size), .int .i64 (start), .slice a15 n cp16] 24 (0, 0)), (b1, .cells #[.int .i64 (size), .int .i64 (start), .slice a n c] 24 (0, 0))] : Pcs)) o12 (by have h_ := W.len; simpa using h_) fun p19 a20 cp21 le22 ev_ D23 => ?_
      subst ev_
      refine rl_own (L' := [(b13, .cells #[.int .i64 (size), .int .i64 (start), .slice a15 n cp16] 24 (0, 0)), (b1, .cells #[.int .i64 (size), .int .i64 (start), .slice a n c] 24 (0, 0))]) rfl ?_
      by_cases cc24 : Ok size start ds ∧ Weather ds xs
      · refine rl_own (L' := ([(b13, .cells #[.int .i64 (size), .int .i64 (start), .slice a15 n cp16] 24 (0, 0)), (b1, .cells #[.int .i64 (size), .int .i64 (start), .slice a n c] 24 (0, 0))] : Pcs) ++ []) rfl ?_
        refine rl_call (met_none rfl) (first := []) (cap := []) rfl rfl fC34 (R := fun v_ h_ => ∃ w25 : Value, ∃ w26 : Value, ∃ w27 : Value, ∃ X28 : Pcs, ∃ X29 : Pcs, ∃ X30 : Pcs, v_ = .tuple #[w25, w26, w27, .int .i64 0] ∧ (OwnS 3 1 w25 (ns (levs size start (wantOf ds) (listOf xs)) n) X28) ∧ (OwnS 3 1 w26 (ns (lack size start (wantOf ds) (listOf xs)) n) X29) ∧ (OwnS 3 1 w27 (ns (ovr size start (wantOf ds) (listOf xs)) n) X30) ∧ St h [] p19 h_ (([(b13, .cells #[.int .i64 (size), .int .i64 (start), .slice a15 n cp16] 24 (0, 0)), (b1, .cells #[.int .i64 (size), .int .i64 (start), .slice a n c] 24 (0, 0))] : Pcs) ++ ((X28 ++ (X29 ++ (X30 ++ []))) ++ []))) (fun h_ H_ => (c34ok (.main true) _ _ (fun b_ o_ e_ => H_.per b_ o_ e_) (size) (start) _ _ _ _ ((show Days _ _ _ ds from D18).mono le22) (by omega) _ _ _ _ (show Ints _ _ _ xs from D23) (by omega) (of_decide_eq_true (decide_eq_true cc24)).1 (of_decide_eq_true (decide_eq_true cc24)).2).mono fun v_ h2_ ⟨w25, w26, w27, X28, X29, X30, e_, o31, o32, o33, N_⟩ => ⟨w25, w26, w27, X28, X29, X30, e_, o31, o32, o33, H_.callNA N_⟩) fun v_ => ?_
        refine rl_ex fun w25 => rl_ex fun w26 => rl_ex fun w27 => rl_ex fun X28 => rl_ex fun X29 => rl_ex fun X30 => rl_and fun ev_ => rl_and fun o31 => rl_and fun o32 => rl_and fun o33 => ?_
        have ev_ := ev_.symm; subst ev_
        refine rl_own (L' := ([(b13, .cells #[.int .i64 (size), .int .i64 (start), .slice a15 n cp16] 24 (0, 0)), (b1, .cells #[.int .i64 (size), .int .i64 (start), .slice a n c] 24 (0, 0))] : Pcs) ++ (X28 ++ (X29 ++ (X30 ++ [])))) (by simp) ?_
        refine rl_det (met_none rfl) (fun h_ H_ => exd_move (v := .tuple #[w25, w26, w27, .int .i64 0]) rfl) rfl ?_
        refine rl_det (met_none rfl) (fun h_ H_ => exd_extract rfl (v := w25) rfl) (tm' := _::_::_::_::_::_::_::_::_::_::_::_::_::_::_::_::_::_::_::_::_::_::_::_::_::_::_::_::_::_::_::_::_::_::_::_::_::_::_::_::_) rfl ?_
        refine rl_det (met_none rfl) (fun h_ H_ => exd_extract rfl (v := w26) rfl) rfl ?_
        refine rl_det (met_none rfl) (fun h_ H_ => exd_extract rfl (v := w27) rfl) rfl ?_
        refine rl_det (met_none rfl) (fun h_ H_ => exd_extract rfl (v := .int .i64 0) rfl) (tm' := _::_::_::_::_::_::_::_::_::_::_::_::_::_::_::_::_::_::_::_::_::_::_::_::_::_::_::_::_::_::_::_::_::_::_::_::_::_::_::_::_::_::_::_) rfl ?_
        refine rl_det (met_none rfl) (fun h_ H_ => exd_assign (v := w25) rfl) rfl ?_
        refine rl_det (met_none rfl) (fun h_ H_ => exd_assign (v := w26) rfl) rfl ?_
        refine rl_det (met_none rfl) (fun h_ H_ => exd_assign (v := w27) rfl) (tm' := _::_::_::_::_::_::_::_::_::_::_) rfl ?_
        refine rl_det (met_none rfl) (fun h_ H_ => exd_assign (v := .int .i64 0) rfl) rfl ?_
        refine rl_end ?_
        refine fl_seq ?_
        refine rl_start ?_
        refine rl_det (met_none rfl) (fun h_ H_ => exd_loadN_own H_ tA24 tS24 rfl (i := 1) rfl (vs := [.int .i64 (size), .int .i64 (start), .slice a n c]) rfl rfl) rfl ?_
        refine rl_det (met_none rfl) (fun h_ H_ => exd_move (v := .slice b m d) rfl) (tm' := _::_::_::_::_::_::_::_::_::_::_::_::_::_::_::_::_::_::_::_::_::_::_::_::_::_::_::_::_::_::_::_::_::_::_::_::_::_::_::_::_::_::_::_::_::_::_) rfl ?_
        refine rl_call (met_none rfl) (first := []) (cap := []) rfl rfl fC35 (R := fun v_ h_ => ∃ w34 : Value, ∃ w35 : Value, ∃ w36 : Value, ∃ X37 : Pcs, ∃ X38 : Pcs, ∃ X39 : Pcs, v_ = .tuple #[w34, w35, w36, .int .i64 0] ∧ (OwnS 3 1 w34 (ns (levs size start (wantOf ds) (listOf xs)) n) X37) ∧ (OwnS 3 1 w35 (ns (lack size start (wantOf ds) (listOf xs)) n) X38) ∧ (OwnS 3 1 w36 (ns (ovr size start (wantOf ds) (listOf xs)) n) X39) ∧ St h [] p19 h_ (([(b13, .cells #[.int .i64 (size), .int .i64 (start), .slice a15 n cp16] 24 (0, 0)), (b1, .cells #[.int .i64 (size), .int .i64 (start), .slice a n c] 24 (0, 0))] : Pcs) ++ ((X37 ++ (X38 ++ (X39 ++ []))) ++ (X28 ++ (X29 ++ (X30 ++ [])))))) (fun h_ H_ => (c35ok (.main true) _ _ (fun b_ o_ e_ => H_.per b_ o_ e_) (size) (start) _ _ _ _ ((D.mono le17).mono le22) (by omega) _ _ _ _ ((W.mono le17).mono le22) (by omega) (of_decide_eq_true (decide_eq_true cc24)).1 (of_decide_eq_true (decide_eq_true cc24)).2).mono fun v_ h2_ ⟨w34, w35, w36, X37, X38, X39, e_, o40, o41, o42, N_⟩ => ⟨w34, w35, w36, X37, X38, X39, e_, o40, o41, o42, H_.callNA N_⟩) fun v_ => ?_
        refine rl_ex fun w34 => rl_ex fun w35 => rl_ex fun w36 => rl_ex fun X37 => rl_ex fun X38 => rl_ex fun X39 => rl_and fun ev_ => rl_and fun o40 => rl_and fun o41 => rl_and fun o42 => ?_
        have ev_ := ev_.symm; subst ev_
        refine rl_own (L' := ([(b13, .cells #[.int .i64 (size), .int .i64 (start), .slice a15 n cp16] 24 (0, 0)), (b1, .cells #[.int .i64 (size), .int .i64 (start), .slice a n c] 24 (0, 0))] : Pcs) ++ (X37 ++ (X38 ++ (X39 ++ (X28 ++ (X29 ++ (X30 ++ []))))))) (by simp) ?_
        refine rl_det (met_none rfl) (fun h_ H_ => exd_move (v := .tuple #[w34, w35, w36, .int .i64 0]) rfl) rfl ?_
        refine rl_det (met_none rfl) (fun h_ H_ => exd_extract rfl (v := w34) rfl) (tm' := _::_::_::_::_::_::_::_::_::_::_::_::_::_::_::_::_::_::_::_::_::_::_::_::_::_::_::_::_::_::_::_::_::_::_::_::_::_::_::_::_::_::_::_::_::_::_::_::_) rfl ?_
        refine rl_det (met_none rfl) (fun h_ H_ => exd_extract rfl (v := w35) rfl) rfl ?_
        refine rl_det (met_none rfl) (fun h_ H_ => exd_extract rfl (v := w36) rfl) rfl ?_
        refine rl_det (met_none rfl) (fun h_ H_ => exd_extract rfl (v := .int .i64 0) rfl) (tm' := _::_::_::_::_::_::_::_::_::_::_::_::_::_::_::_::_::_::_::_::_::_::_::_::_::_::_::_::_::_::_::_::_::_::_::_::_::_::_::_::_::_::_::_::_::_::_::_::_::_::_::_) rfl ?_
        refine rl_det (met_none rfl) (fun h_ H_ => exd_assign (v := w34) rfl) rfl ?_
        refine rl_det (met_none rfl) (fun h_ H_ => exd_assign (v := w35) rfl) rfl ?_
        refine rl_det (met_none rfl) (fun h_ H_ => exd_assign (v := w36) rfl) (tm' := _::_::_::_::_::_::_::_::_::_::_::_::_::_::_) rfl ?_
        refine rl_det (met_none rfl) (fun h_ H_ => exd_assign (v := .int .i64 0) rfl) rfl ?_
        refine rl_end ?_
        refine fl_seq ?_
        refine rl_start ?_
        refine rl_det (met_none rfl) (fun h_ H_ => exd_move (v := w25) rfl) rfl ?_
        refine rl_det (met_none rfl) (fun h_ H_ => exd_move (v := w34) rfl) (tm' := _::_::_::_::_::_::_::_::_::_::_::_::_::_::_::_::_::_::_::_::_::_::_::_::_::_::_::_::_::_::_::_::_::_::_::_::_::_::_::_::_::_::_::_::_::_::_::_::_::_::_::_::_::_) rfl ?_
        refine rl_perm (List.Perm.append_left _ (List.Perm.append_left _ (List.Perm.append_left _ (List.perm_append_comm_assoc _ _ _)))) ?_
        refine rl_perm (List.Perm.append_left _ (List.Perm.append_left _ (List.perm_append_comm_assoc _ _ _))) ?_
        refine rl_perm (List.Perm.append_left _ (List.perm_append_comm_assoc _ _ _)) ?_
        refine rl_own (L' := ([(b13, .cells #[.int .i64 (size), .int .i64 (start), .slice a15 n cp16] 24 (0, 0)), (b1, .cells #[.int .i64 (size), .int .i64 (start), .slice a n c] 24 (0, 0))] : Pcs) ++ (X28 ++ (X37 ++ (X38 ++ (X39 ++ (X29 ++ (X30 ++ []))))))) rfl ?_
        refine rl_lastN (A := ([(b13, .cells #[.int .i64 (size), .int .i64 (start), .slice a15 n cp16] 24 (0, 0)), (b1, .cells #[.int .i64 (size), .int .i64 (start), .slice a n c] 24 (0, 0))] : Pcs)) o31 (ns_length _ _) fun p43 a44 cp45 le46 ev_ D47 => ?_
        subst ev_
        refine rl_lastN (A := ([(b13, .cells #[.int .i64 (size), .int .i64 (start), .slice a15 n cp16] 24 (0, 0)), (b1, .cells #[.int .i64 (size), .int .i64 (start), .slice a n c] 24 (0, 0))] : Pcs)) o40 (ns_length _ _) fun p48 a49 cp50 le51 ev_ D52 => ?_
        subst ev_
        refine rl_calld (met_none rfl) (first := []) (cap := []) rfl rfl fC36 (fun h_ H_ => c36 (.main true) _ _ (fun b_ o_ e_ => H_.per b_ o_ e_) _ _ _ _ _ _ _ _ ((show Ints _ _ _ (nums (levs size start (wantOf ds) (listOf xs)) n) from D47).mono le51) (show Ints _ _ _ (nums (levs size start (wantOf ds) (listOf xs)) n) from D52) (by omega)) rfl ?_
        refine rl_det (met_none rfl) (fun h_ H_ => exd_move (v := .bool (decide ((nums (levs size start (wantOf ds) (listOf xs)) n) = (nums (levs size start (wantOf ds) (listOf xs)) n)))) rfl) rfl ?_
        refine rl_det (met_some rfl rfl (decide_eq_true rfl)) (fun h_ H_ => exd_move (v := w26) rfl) (tm' := [_,_,_,_,_,_,_,_,_,_,_,_,_,_,_,_,_,_,_,_,_,_,_,_,_,_,_,_,_,_,_,_,_,_,_,_,_,_,_,_,_,_,_,_,_,_,_,_,_,_,_,_,_,_,_,_,_,_,_,_,_,_,_,_,_,_,_,_,_,_,_,_,_,_,_,_,_,_,_,_,_,_]) rfl ?_
        refine rl_det (met_some rfl rfl (decide_eq_true rfl)) (fun h_ H_ => exd_move (v := w35) rfl) rfl ?_
        refine rl_perm (List.Perm.append_left _ (List.Perm.append_left _ (List.perm_append_comm_assoc _ _ _))) ?_
        refine rl_perm (List.Perm.append_left _ (List.perm_append_comm_assoc _ _ _)) ?_
        refine rl_own (L' := ([(b13, .cells #[.int .i64 (size), .int .i64 (start), .slice a15 n cp16] 24 (0, 0)), (b1, .cells #[.int .i64 (size), .int .i64 (start), .slice a n c] 24 (0, 0))] : Pcs) ++ (X29 ++ (X38 ++ (X39 ++ (X30 ++ []))))) rfl ?_
        refine rl_lastN (A := ([(b13, .cells #[.int .i64 (size), .int .i64 (start), .slice a15 n cp16] 24 (0, 0)), (b1, .cells #[.int .i64 (size), .int .i64 (start), .slice a n c] 24 (0, 0))] : Pcs)) o32 (ns_length _ _) fun p53 a54 cp55 le56 ev_ D57 => ?_
        subst ev_
        refine rl_lastN (A := ([(b13, .cells #[.int .i64 (size), .int .i64 (start), .slice a15 n cp16] 24 (0, 0)), (b1, .cells #[.int .i64 (size), .int .i64 (start), .slice a n c] 24 (0, 0))] : Pcs)) o41 (ns_length _ _) fun p58 a59 cp60 le61 ev_ D62 => ?_
        subst ev_
        refine rl_calld (met_some rfl rfl (decide_eq_true rfl)) (first := []) (cap := []) rfl rfl fC36 (fun h_ H_ => c36 (.main true) _ _ (fun b_ o_ e_ => H_.per b_ o_ e_) _ _ _ _ _ _ _ _ ((show Ints _ _ _ (nums (lack size start (wantOf ds) (listOf xs)) n) from D57).mono le61) (show Ints _ _ _ (nums (lack size start (wantOf ds) (listOf xs)) n) from D62) (by omega)) rfl ?_
        refine rl_det (met_none rfl) (fun h_ H_ => exd_pick_t rfl (decide_eq_true rfl) (v := .bool (decide ((nums (lack size start (wantOf ds) (listOf xs)) n) = (nums (lack size start (wantOf ds) (listOf xs)) n)))) rfl) (tm' := [_,_,_,_,_,_,_,_,_,_,_,_,_,_,_,_,_,_,_,_,_,_,_,_,_,_,_,_,_,_,_,_,_,_,_,_,_,_,_,_,_,_,_,_,_,_,_,_,_,_,_,_,_,_,_,_,_,_,_,_,_,_,_,_,_,_,_,_,_,_,_,_,_,_,_,_,_,_,_,_,_,_]) rfl ?_
        refine rl_det (met_none rfl) (fun h_ H_ => exd_move (v := .bool (decide ((nums (lack size start (wantOf ds) (listOf xs)) n) = (nums (lack size start (wantOf ds) (listOf xs)) n)))) rfl) rfl ?_
        refine rl_det (met_some rfl rfl (decide_eq_true rfl)) (fun h_ H_ => exd_move (v := w27) rfl) rfl ?_
        refine rl_det (met_some rfl rfl (decide_eq_true rfl)) (fun h_ H_ => exd_move (v := w36) rfl) (tm' := [_,_,_,_,_,_,_,_,_,_,_,_,_,_,_,_,_,_,_,_,_,_,_,_,_,_,_,_,_,_,_,_,_,_,_,_,_,_,_,_,_,_,_,_,_,_,_,_,_,_,_,_,_,_,_,_,_,_,_,_,_,_,_,_,_,_,_,_,_,_,_,_,_,_,_,_,_,_,_,_,_,_]) rfl ?_
        refine rl_perm (List.Perm.append_left _ (List.perm_append_comm_assoc _ _ _)) ?_
        refine rl_own (L' := ([(b13, .cells #[.int .i64 (size), .int .i64 (start), .slice a15 n cp16] 24 (0, 0)), (b1, .cells #[.int .i64 (size), .int .i64 (start), .slice a n c] 24 (0, 0))] : Pcs) ++ (X30 ++ (X39 ++ []))) rfl ?_
        refine rl_lastN (A := ([(b13, .cells #[.int .i64 (size), .int .i64 (start), .slice a15 n cp16] 24 (0, 0)), (b1, .cells #[.int .i64 (size), .int .i64 (start), .slice a n c] 24 (0, 0))] : Pcs)) o33 (ns_length _ _) fun p63 a64 cp65 le66 ev_ D67 => ?_
        subst ev_
        refine rl_lastN (A := ([(b13, .cells #[.int .i64 (size), .int .i64 (start), .slice a15 n cp16] 24 (0, 0)), (b1, .cells #[.int .i64 (size), .int .i64 (start), .slice a n c] 24 (0, 0))] : Pcs)) o42 (ns_length _ _) fun p68 a69 cp70 le71 ev_ D72 => ?_
        subst ev_
        refine rl_own (L' := [(b13, .cells #[.int .i64 (size), .int .i64 (start), .slice a15 n cp16] 24 (0, 0)), (b1, .cells #[.int .i64 (size), .int .i64 (start), .slice a n c] 24 (0, 0))]) rfl ?_
        refine rl_calld (met_some rfl rfl (decide_eq_true rfl)) (first := []) (cap := []) rfl rfl fC36 (fun h_ H_ => c36 (.main true) _ _ (fun b_ o_ e_ => H_.per b_ o_ e_) _ _ _ _ _ _ _ _ ((show Ints _ _ _ (nums (ovr size start (wantOf ds) (listOf xs)) n) from D67).mono le71) (show Ints _ _ _ (nums (ovr size start (wantOf ds) (listOf xs)) n) from D72) (by omega)) rfl ?_
        refine rl_det (met_none rfl) (fun h_ H_ => exd_pick_t rfl (decide_eq_true rfl) (v := .bool (decide ((nums (ovr size start (wantOf ds) (listOf xs)) n) = (nums (ovr size start (wantOf ds) (listOf xs)) n)))) rfl) rfl ?_
        refine rl_det (met_none rfl) (fun h_ H_ => exd_move (v := .bool (decide ((nums (ovr size start (wantOf ds) (listOf xs)) n) = (nums (ovr size start (wantOf ds) (listOf xs)) n)))) rfl) (tm' := [_,_,_,_,_,_,_,_,_,_,_,_,_,_,_,_,_,_,_,_,_,_,_,_,_,_,_,_,_,_,_,_,_,_,_,_,_,_,_,_,_,_,_,_,_,_,_,_,_,_,_,_,_,_,_,_,_,_,_,_,_,_,_,_,_,_,_,_,_,_,_,_,_,_,_,_,_,_,_,_,_,_]) rfl ?_
        refine rl_det (met_some rfl rfl (decide_eq_true rfl)) (fun h_ H_ => exd_move (v := .int .i64 0) rfl) rfl ?_
        refine rl_det (met_some rfl rfl (decide_eq_true rfl)) (fun h_ H_ => exd_move (v := .int .i64 0) rfl) rfl ?_
        refine rl_det (met_some rfl rfl (decide_eq_true rfl)) (fun h_ H_ => exd_eql rfl rfl) (tm' := [_,_,_,_,_,_,_,_,_,_,_,_,_,_,_,_,_,_,_,_,_,_,_,_,_,_,_,_,_,_,_,_,_,_,_,_,_,_,_,_,_,_,_,_,_,_,_,_,_,_,_,_,_,_,_,_,_,_,_,_,_,_,_,_,_,_,_,_,_,_,_,_,_,_,_,_,_,_,_,_,_,_]) rfl ?_
        refine rl_det (met_none rfl) (fun h_ H_ => exd_pick_t rfl (decide_eq_true rfl) (v := .bool (decide ((0 : Int) = 0))) rfl) rfl ?_
        refine rl_det (met_none rfl) (fun h_ H_ => exd_move (v := .bool (decide ((0 : Int) = 0))) rfl) rfl ?_
        refine rl_det (met_some rfl rfl (decide_eq_true rfl)) (fun h_ H_ => exd_loadN_own H_ tA24 tS24 rfl (i := 0) rfl (vs := [.int .i64 (size), .int .i64 (start), .slice a15 n cp16]) rfl rfl) (tm' := [_,_,_,_,_,_,_,_,_,_,_,_,_,_,_,_,_,_,_,_,_,_,_,_,_,_,_,_,_,_,_,_,_,_,_,_,_,_,_,_,_,_,_,_,_,_,_,_,_,_,_,_,_,_,_,_,_,_,_,_,_,_,_,_,_,_,_,_,_,_,_,_,_,_,_,_,_,_,_,_,_,_]) rfl ?_
        refine rl_det (met_some rfl rfl (decide_eq_true rfl)) (fun h_ H_ => exd_loadN_own H_ tA24 tS24 rfl (i := 1) rfl (vs := [.int .i64 (size), .int .i64 (start), .slice a n c]) rfl rfl) rfl ?_
        refine rl_calld (met_some rfl rfl (decide_eq_true rfl)) (first := []) (cap := []) rfl rfl fC37 (fun h_ H_ => c37 (.main true) _ _ (fun b_ o_ e_ => H_.per b_ o_ e_) size start _ _ _ _ ((((((((show Days _ _ _ ds from D18).mono le22).mono le46).mono le51).mono le56).mono le61).mono le66).mono le71) size start _ _ _ _ ((((((((D.mono le17).mono le22).mono le46).mono le51).mono le56).mono le61).mono le66).mono le71) (by omega)) rfl ?_
        refine rl_det (met_none rfl) (fun h_ H_ => exd_pick_t rfl (decide_eq_true rfl) (v := .bool (decide (size = size ∧ start = start ∧ ds = ds))) rfl) (tm' := [_,_,_,_,_,_,_,_,_,_,_,_,_,_,_,_,_,_,_,_,_,_,_,_,_,_,_,_,_,_,_,_,_,_,_,_,_,_,_,_,_,_,_,_,_,_,_,_,_,_,_,_,_,_,_,_,_,_,_,_,_,_,_,_,_,_,_,_,_,_,_,_,_,_,_,_,_,_,_,_,_,_]) rfl ?_
        refine rl_det (met_none rfl) (fun h_ H_ => exd_move (v := .bool (decide (size = size ∧ start = start ∧ ds = ds))) rfl) rfl ?_
        refine rl_det (met_some rfl rfl (decide_eq_true ⟨rfl, rfl, rfl⟩)) (fun h_ H_ => exd_move (v := .slice a20 m cp21) rfl) rfl ?_
        refine rl_det (met_some rfl rfl (decide_eq_true ⟨rfl, rfl, rfl⟩)) (fun h_ H_ => exd_move (v := .slice b m d) rfl) (tm' := [_,_,_,_,_,_,_,_,_,_,_,_,_,_,_,_,_,_,_,_,_,_,_,_,_,_,_,_,_,_,_,_,_,_,_,_,_,_,_,_,_,_,_,_,_,_,_,_,_,_,_,_,_,_,_,_,_,_,_,_,_,_,_,_,_,_,_,_,_,_,_,_,_,_,_,_,_,_,_,_,_,_]) rfl ?_
        refine rl_calld (met_some rfl rfl (decide_eq_true ⟨rfl, rfl, rfl⟩)) (first := []) (cap := []) rfl rfl fC36 (fun h_ H_ => c36 (.main true) _ _ (fun b_ o_ e_ => H_.per b_ o_ e_) _ _ _ _ _ _ _ _ (((((((show Ints _ _ _ xs from D23).mono le46).mono le51).mono le56).mono le61).mono le66).mono le71) ((((((((W.mono le17).mono le22).mono le46).mono le51).mono le56).mono le61).mono le66).mono le71) (by omega)) rfl ?_
        refine rl_det (met_none rfl) (fun h_ H_ => exd_pick_t rfl (decide_eq_true ⟨rfl, rfl, rfl⟩) (v := .bool (decide (xs = xs))) rfl) rfl ?_
        refine rl_det (met_none rfl) (fun h_ H_ => exd_move (v := .bool (decide (xs = xs))) rfl) (tm' := [_,_,_,_,_,_,_,_,_,_,_,_,_,_,_,_,_,_,_,_,_,_,_,_,_,_,_,_,_,_,_,_,_,_,_,_,_,_,_,_,_,_,_,_,_,_,_,_,_,_,_,_,_,_,_,_,_,_,_,_,_,_,_,_,_,_,_,_,_,_,_,_,_,_,_,_,_,_,_,_,_,_]) rfl ?_
        refine rl_calld (met_some rfl rfl (decide_eq_true rfl)) (first := []) (cap := []) rfl rfl fC18 (fun h_ H_ => c18 _) rfl ?_
        refine rl_det (met_none rfl) (fun h_ H_ => exd_pick_t rfl (decide_eq_true rfl) (v := .bool (true)) rfl) rfl ?_
        refine rl_det (met_none rfl) (fun h_ H_ => exd_assign (v := .bool (true)) rfl) (tm' := _::_::_::_::_::_) rfl ?_
        refine rl_end ?_
        refine fl_retE (by kernel_rfl) Try.func8 rfl (vs := [.bool (true)]) (fun h_ H_ => ⟨.bool (true), _, rfl, rfl, rfl⟩) (v := .bool (true)) rfl ?_
        exact fun h_ H_ => K _ _ ⟨rfl, H_.kept⟩
      · refine rl_calld (met_none rfl) (first := []) (cap := []) rfl rfl fC34 (fun h_ H_ => c34no (.main true) _ _ (fun b_ o_ e_ => H_.per b_ o_ e_) (size) (start) _ _ _ _ ((show Days _ _ _ ds from D18).mono le22) (by omega) _ _ _ _ (show Ints _ _ _ xs from D23) (by omega) (of_decide_eq_false (decide_eq_false cc24))) rfl ?_
        refine rl_det (met_none rfl) (fun h_ H_ => exd_move (v := .tuple #[.slice none 0 0, .slice none 0 0, .slice none 0 0, .int .i64 (askd size start ds (decide (Weather ds xs)))]) rfl) rfl ?_
        refine rl_det (met_none rfl) (fun h_ H_ => exd_extract rfl (v := .slice none 0 0) rfl) (tm' := _::_::_::_::_::_::_::_::_::_::_::_::_::_::_::_::_::_::_::_::_::_::_::_::_::_::_::_::_::_::_::_::_::_::_::_::_::_::_::_::_) rfl ?_
        refine rl_det (met_none rfl) (fun h_ H_ => exd_extract rfl (v := .slice none 0 0) rfl) rfl ?_
        refine rl_det (met_none rfl) (fun h_ H_ => exd_extract rfl (v := .slice none 0 0) rfl) rfl ?_
        refine rl_det (met_none rfl) (fun h_ H_ => exd_extract rfl (v := .int .i64 (askd size start ds (decide (Weather ds xs)))) rfl) (tm' := _::_::_::_::_::_::_::_::_::_::_::_::_::_::_::_::_::_::_::_::_::_::_::_::_::_::_::_::_::_::_::_::_::_::_::_::_::_::_::_::_::_::_::_) rfl ?_
        refine rl_det (met_none rfl) (fun h_ H_ => exd_assign (v := .slice none 0 0) rfl) rfl ?_
        refine rl_det (met_none rfl) (fun h_ H_ => exd_assign (v := .slice none 0 0) rfl) rfl ?_
        refine rl_det (met_none rfl) (fun h_ H_ => exd_assign (v := .slice none 0 0) rfl) (tm' := _::_::_::_::_::_::_::_::_::_::_) rfl ?_
        refine rl_det (met_none rfl) (fun h_ H_ => exd_assign (v := .int .i64 (askd size start ds (decide (Weather ds xs)))) rfl) rfl ?_
        refine rl_end ?_
        refine fl_seq ?_
        refine rl_start ?_
        refine rl_det (met_none rfl) (fun h_ H_ => exd_loadN_own H_ tA24 tS24 rfl (i := 1) rfl (vs := [.int .i64 (size), .int .i64 (start), .slice a n c]) rfl rfl) rfl ?_
        refine rl_det (met_none rfl) (fun h_ H_ => exd_move (v := .slice b m d) rfl) (tm' := _::_::_::_::_::_::_::_::_::_::_::_::_::_::_::_::_::_::_::_::_::_::_::_::_::_::_::_::_::_::_::_::_::_::_::_::_::_::_::_::_::_::_::_::_::_::_) rfl ?_
        refine rl_calld (met_none rfl) (first := []) (cap := []) rfl rfl fC35 (fun h_ H_ => c35no (.main true) _ _ (fun b_ o_ e_ => H_.per b_ o_ e_) (size) (start) _ _ _ _ ((D.mono le17).mono le22) (by omega) _ _ _ _ ((W.mono le17).mono le22) (by omega) (of_decide_eq_false (decide_eq_false cc24))) rfl ?_
        refine rl_det (met_none rfl) (fun h_ H_ => exd_move (v := .tuple #[.slice none 0 0, .slice none 0 0, .slice none 0 0, .int .i64 (askd size start ds (decide (Weather ds xs)))]) rfl) rfl ?_
        refine rl_det (met_none rfl) (fun h_ H_ => exd_extract rfl (v := .slice none 0 0) rfl) (tm' := _::_::_::_::_::_::_::_::_::_::_::_::_::_::_::_::_::_::_::_::_::_::_::_::_::_::_::_::_::_::_::_::_::_::_::_::_::_::_::_::_::_::_::_::_::_::_::_::_) rfl ?_
        refine rl_det (met_none rfl) (fun h_ H_ => exd_extract rfl (v := .slice none 0 0) rfl) rfl ?_
        refine rl_det (met_none rfl) (fun h_ H_ => exd_extract rfl (v := .slice none 0 0) rfl) rfl ?_
        refine rl_det (met_none rfl) (fun h_ H_ => exd_extract rfl (v := .int .i64 (askd size start ds (decide (Weather ds xs)))) rfl) (tm' := _::_::_::_::_::_::_::_::_::_::_::_::_::_::_::_::_::_::_::_::_::_::_::_::_::_::_::_::_::_::_::_::_::_::_::_::_::_::_::_::_::_::_::_::_::_::_::_::_::_::_::_) rfl ?_
        refine rl_det (met_none rfl) (fun h_ H_ => exd_assign (v := .slice none 0 0) rfl) rfl ?_
        refine rl_det (met_none rfl) (fun h_ H_ => exd_assign (v := .slice none 0 0) rfl) rfl ?_
        refine rl_det (met_none rfl) (fun h_ H_ => exd_assign (v := .slice none 0 0) rfl) (tm' := _::_::_::_::_::_::_::_::_::_::_::_::_::_::_) rfl ?_
        refine rl_det (met_none rfl) (fun h_ H_ => exd_assign (v := .int .i64 (askd size start ds (decide (Weather ds xs)))) rfl) rfl ?_
        refine rl_end ?_
        refine fl_seq ?_
        refine rl_start ?_
        refine rl_det (met_none rfl) (fun h_ H_ => exd_move (v := .slice none 0 0) rfl) rfl ?_
        refine rl_det (met_none rfl) (fun h_ H_ => exd_move (v := .slice none 0 0) rfl) (tm' := _::_::_::_::_::_::_::_::_::_::_::_::_::_::_::_::_::_::_::_::_::_::_::_::_::_::_::_::_::_::_::_::_::_::_::_::_::_::_::_::_::_::_::_::_::_::_::_::_::_::_::_::_::_) rfl ?_
        refine rl_calld (met_none rfl) (first := []) (cap := []) rfl rfl fC36 (fun h_ H_ => c36 (.main true) _ _ (fun b_ o_ e_ => H_.per b_ o_ e_) _ _ _ _ _ _ _ _ (ints_nil _) (ints_nil _) (by omega)) rfl ?_
        refine rl_det (met_none rfl) (fun h_ H_ => exd_move (v := .bool (decide ([] = []))) rfl) rfl ?_
        refine rl_det (met_some rfl rfl (decide_eq_true rfl)) (fun h_ H_ => exd_move (v := .slice none 0 0) rfl) (tm' := [_,_,_,_,_,_,_,_,_,_,_,_,_,_,_,_,_,_,_,_,_,_,_,_,_,_,_,_,_,_,_,_,_,_,_,_,_,_,_,_,_,_,_,_,_,_,_,_,_,_,_,_,_,_,_,_,_,_,_,_,_,_,_,_,_,_,_,_,_,_,_,_,_,_,_,_,_,_,_,_,_,_]) rfl ?_
        refine rl_det (met_some rfl rfl (decide_eq_true rfl)) (fun h_ H_ => exd_move (v := .slice none 0 0) rfl) rfl ?_
        refine rl_calld (met_some rfl rfl (decide_eq_true rfl)) (first := []) (cap := []) rfl rfl fC36 (fun h_ H_ => c36 (.main true) _ _ (fun b_ o_ e_ => H_.per b_ o_ e_) _ _ _ _ _ _ _ _ (ints_nil _) (ints_nil _) (by omega)) rfl ?_
        refine rl_det (met_none rfl) (fun h_ H_ => exd_pick_t rfl (decide_eq_true rfl) (v := .bool (decide ([] = []))) rfl) (tm' := [_,_,_,_,_,_,_,_,_,_,_,_,_,_,_,_,_,_,_,_,_,_,_,_,_,_,_,_,_,_,_,_,_,_,_,_,_,_,_,_,_,_,_,_,_,_,_,_,_,_,_,_,_,_,_,_,_,_,_,_,_,_,_,_,_,_,_,_,_,_,_,_,_,_,_,_,_,_,_,_,_,_]) rfl ?_
        refine rl_det (met_none rfl) (fun h_ H_ => exd_move (v := .bool (decide ([] = []))) rfl) rfl ?_
        refine rl_det (met_some rfl rfl (decide_eq_true rfl)) (fun h_ H_ => exd_move (v := .slice none 0 0) rfl) rfl ?_
        refine rl_det (met_some rfl rfl (decide_eq_true rfl)) (fun h_ H_ => exd_move (v := .slice none 0 0) rfl) (tm' := [_,_,_,_,_,_,_,_,_,_,_,_,_,_,_,_,_,_,_,_,_,_,_,_,_,_,_,_,_,_,_,_,_,_,_,_,_,_,_,_,_,_,_,_,_,_,_,_,_,_,_,_,_,_,_,_,_,_,_,_,_,_,_,_,_,_,_,_,_,_,_,_,_,_,_,_,_,_,_,_,_,_]) rfl ?_
        refine rl_calld (met_some rfl rfl (decide_eq_true rfl)) (first := []) (cap := []) rfl rfl fC36 (fun h_ H_ => c36 (.main true) _ _ (fun b_ o_ e_ => H_.per b_ o_ e_) _ _ _ _ _ _ _ _ (ints_nil _) (ints_nil _) (by omega)) rfl ?_
        refine rl_det (met_none rfl) (fun h_ H_ => exd_pick_t rfl (decide_eq_true rfl) (v := .bool (decide ([] = []))) rfl) rfl ?_
        refine rl_det (met_none rfl) (fun h_ H_ => exd_move (v := .bool (decide ([] = []))) rfl) (tm' := [_,_,_,_,_,_,_,_,_,_,_,_,_,_,_,_,_,_,_,_,_,_,_,_,_,_,_,_,_,_,_,_,_,_,_,_,_,_,_,_,_,_,_,_,_,_,_,_,_,_,_,_,_,_,_,_,_,_,_,_,_,_,_,_,_,_,_,_,_,_,_,_,_,_,_,_,_,_,_,_,_,_]) rfl ?_
        refine rl_det (met_some rfl rfl (decide_eq_true rfl)) (fun h_ H_ => exd_move (v := .int .i64 (askd size start ds (decide (Weather ds xs)))) rfl) rfl ?_
        refine rl_det (met_some rfl rfl (decide_eq_true rfl)) (fun h_ H_ => exd_move (v := .int .i64 (askd size start ds (decide (Weather ds xs)))) rfl) rfl ?_
        refine rl_det (met_some rfl rfl (decide_eq_true rfl)) (fun h_ H_ => exd_eql rfl rfl) (tm' := [_,_,_,_,_,_,_,_,_,_,_,_,_,_,_,_,_,_,_,_,_,_,_,_,_,_,_,_,_,_,_,_,_,_,_,_,_,_,_,_,_,_,_,_,_,_,_,_,_,_,_,_,_,_,_,_,_,_,_,_,_,_,_,_,_,_,_,_,_,_,_,_,_,_,_,_,_,_,_,_,_,_]) rfl ?_
        refine rl_det (met_none rfl) (fun h_ H_ => exd_pick_t rfl (decide_eq_true rfl) (v := .bool (decide (askd size start ds (decide (Weather ds xs)) = askd size start ds (decide (Weather ds xs))))) rfl) rfl ?_
        refine rl_det (met_none rfl) (fun h_ H_ => exd_move (v := .bool (decide (askd size start ds (decide (Weather ds xs)) = askd size start ds (decide (Weather ds xs))))) rfl) rfl ?_
        refine rl_det (met_some rfl rfl (decide_eq_true rfl)) (fun h_ H_ => exd_loadN_own H_ tA24 tS24 rfl (i := 0) rfl (vs := [.int .i64 (size), .int .i64 (start), .slice a15 n cp16]) rfl rfl) (tm' := [_,_,_,_,_,_,_,_,_,_,_,_,_,_,_,_,_,_,_,_,_,_,_,_,_,_,_,_,_,_,_,_,_,_,_,_,_,_,_,_,_,_,_,_,_,_,_,_,_,_,_,_,_,_,_,_,_,_,_,_,_,_,_,_,_,_,_,_,_,_,_,_,_,_,_,_,_,_,_,_,_,_]) rfl ?_
        refine rl_det (met_some rfl rfl (decide_eq_true rfl)) (fun h_ H_ => exd_loadN_own H_ tA24 tS24 rfl (i := 1) rfl (vs := [.int .i64 (size), .int .i64 (start), .slice a n c]) rfl rfl) rfl ?_
        refine rl_calld (met_some rfl rfl (decide_eq_true rfl)) (first := []) (cap := []) rfl rfl fC37 (fun h_ H_ => c37 (.main true) _ _ (fun b_ o_ e_ => H_.per b_ o_ e_) size start _ _ _ _ ((show Days _ _ _ ds from D18).mono le22) size start _ _ _ _ ((D.mono le17).mono le22) (by omega)) rfl ?_
        refine rl_det (met_none rfl) (fun h_ H_ => exd_pick_t rfl (decide_eq_true rfl) (v := .bool (decide (size = size ∧ start = start ∧ ds = ds))) rfl) (tm' := [_,_,_,_,_,_,_,_,_,_,_,_,_,_,_,_,_,_,_,_,_,_,_,_,_,_,_,_,_,_,_,_,_,_,_,_,_,_,_,_,_,_,_,_,_,_,_,_,_,_,_,_,_,_,_,_,_,_,_,_,_,_,_,_,_,_,_,_,_,_,_,_,_,_,_,_,_,_,_,_,_,_]) rfl ?_
        refine rl_det (met_none rfl) (fun h_ H_ => exd_move (v := .bool (decide (size = size ∧ start = start ∧ ds = ds))) rfl) rfl ?_
        refine rl_det (met_some rfl rfl (decide_eq_true ⟨rfl, rfl, rfl⟩)) (fun h_ H_ => exd_move (v := .slice a20 m cp21) rfl) rfl ?_
        refine rl_det (met_some rfl rfl (decide_eq_true ⟨rfl, rfl, rfl⟩)) (fun h_ H_ => exd_move (v := .slice b m d) rfl) (tm' := [_,_,_,_,_,_,_,_,_,_,_,_,_,_,_,_,_,_,_,_,_,_,_,_,_,_,_,_,_,_,_,_,_,_,_,_,_,_,_,_,_,_,_,_,_,_,_,_,_,_,_,_,_,_,_,_,_,_,_,_,_,_,_,_,_,_,_,_,_,_,_,_,_,_,_,_,_,_,_,_,_,_]) rfl ?_
        refine rl_calld (met_some rfl rfl (decide_eq_true ⟨rfl, rfl, rfl⟩)) (first := []) (cap := []) rfl rfl fC36 (fun h_ H_ => c36 (.main true) _ _ (fun b_ o_ e_ => H_.per b_ o_ e_) _ _ _ _ _ _ _ _ (show Ints _ _ _ xs from D23) ((W.mono le17).mono le22) (by omega)) rfl ?_
        refine rl_det (met_none rfl) (fun h_ H_ => exd_pick_t rfl (decide_eq_true ⟨rfl, rfl, rfl⟩) (v := .bool (decide (xs = xs))) rfl) rfl ?_
        refine rl_det (met_none rfl) (fun h_ H_ => exd_move (v := .bool (decide (xs = xs))) rfl) (tm' := [_,_,_,_,_,_,_,_,_,_,_,_,_,_,_,_,_,_,_,_,_,_,_,_,_,_,_,_,_,_,_,_,_,_,_,_,_,_,_,_,_,_,_,_,_,_,_,_,_,_,_,_,_,_,_,_,_,_,_,_,_,_,_,_,_,_,_,_,_,_,_,_,_,_,_,_,_,_,_,_,_,_]) rfl ?_
        refine rl_calld (met_some rfl rfl (decide_eq_true rfl)) (first := []) (cap := []) rfl rfl fC18 (fun h_ H_ => c18 _) rfl ?_
        refine rl_det (met_none rfl) (fun h_ H_ => exd_pick_t rfl (decide_eq_true rfl) (v := .bool (true)) rfl) rfl ?_
        refine rl_det (met_none rfl) (fun h_ H_ => exd_assign (v := .bool (true)) rfl) (tm' := _::_::_::_::_::_) rfl ?_
        refine rl_end ?_
        refine fl_retE (by kernel_rfl) Try.func8 rfl (vs := [.bool (true)]) (fun h_ H_ => ⟨.bool (true), _, rfl, rfl, rfl⟩) (v := .bool (true)) rfl ?_
        exact fun h_ H_ => K _ _ ⟨rfl, H_.kept⟩
end Go.Proofs.Ytbmkacnlhlbnjaa
namespace Go.Proofs.Ytbmkacnlhlbnjaa
open Go.X Go.X.Cist Go.Conc Go.RowKit Go.ChangeShapes Go.WideShapes Go.ChangeAt Go.Joins
set_option maxRecDepth 100000

theorem lifted8 (os : Os) (started : os.Started) (H : Type) (enc : TypeId × Value → H) :
    ReturnsInLeavingWide {} Try.checked os 8 .any (Rows.cisternsRunSpec.pre6 enc Try.prog Try.f8 Rows.cisternsRunRow.domain false) (Rows.cisternsRunSpec.post enc Try.prog Try.f8 false true false false) := by
  refine returnsInLeavingWide_of_change_sized (C := Try.checked) pOwn started Try.func8
    (ChangeSpec.witness6 (enc := enc) (C := Try.checked) false ⟨#[], #[.agg #[.int .i64 0, .int .i64 0, .slice none 0 0], .slice none 0 0], []⟩ 8 (by kernel_rfl) (by kernel_rfl) (by kernel_rfl) (by kernel_rfl)) ?_
  intro W base args ds gs before hval0 hW _ _ _
  have hval : ∀ (j : Nat) t v, Try.f8.params[j]? = some t → args[j]? = some v → Value.okWide Try.prog W .any base t v := hval0
  have hW2 := hW
  obtain ⟨p, q, hA0, hV, rfl, _, _⟩ := hW2
  have hA : DataW.TrodAll enc Try.prog W 0 (fun _ => true) true Try.f8.params.toList args.toList ds p := hA0
  rw [Try.params8] at hA hval
  obtain ⟨v0, v1, d0, d1, p0, p1, rfl, rfl, _, h0, h1⟩ := trodAll_two hA
  obtain ⟨rfl, rfl⟩ := trodVars_none hV
  obtain ⟨size, start, a, n, c, ds, rfl, D⟩ := open_year (hval 0 24 v0 rfl rfl) h0
  obtain ⟨ab, mb, cb, xsb, rfl, Db⟩ := open_list (hval 1 25 v1 rfl rfl) h1
  obtain ⟨N, last, o, w2, t2, r1, r2, r3, r4⟩ := good_of_enters (w := W) (e8 (nilV W.heap) (vwP W) (vwP_per W) size start a n c ds D ab mb cb xsb Db) fun v h2 r => r.2
  refine ⟨N, last, o, w2, t2, r1, r2, r3, r4.mono fun v ⟨hB, h2, e, _⟩ => ?_⟩
  subst e
  exact law_post pLaid rfl (fun t ht => by rw [Try.params8] at ht; revert t; decide +kernel) rfl Try.underlying4 hW rfl hB

theorem cisternsRunHolds : Rows.CisternsRunSaid :=
  OpenClaim.holds_of_wide_leaving 8 Try.f8 rfl rfl rfl rfl rfl rfl rfl ⟨rfl, rfl, rfl, rfl, rfl⟩ rfl rfl rfl rfl rfl (by kernel_rfl) Try.func8 (by kernel_rfl)
    (of_decide_eq_true (by kernel_rfl)) (by unfold Func.isWrapper; rw [if_neg (of_decide_eq_false (by kernel_rfl))]; exact ⟨rfl, rfl⟩)
    (fun os started H enc _ => lifted8 os started H enc)

#print axioms cisternsRunHolds
end Go.Proofs.Ytbmkacnlhlbnjaa
