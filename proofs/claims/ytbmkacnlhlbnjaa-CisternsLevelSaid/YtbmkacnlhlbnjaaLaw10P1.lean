/-
  Part of: CisternsLevel, for every input: the law returns true and leaves its arguments as they were. No condition.
-/
import Derived.Test.YtbmkacnlhlbnjaaC3x
import Derived.Test.YtbmkacnlhlbnjaaC4
import Derived.Test.YtbmkacnlhlbnjaaRows
import Derived.Test.YtbmkacnlhlbnjaaC6
import Derived.Test.YtbmkacnlhlbnjaaC2
import Derived.Test.YtbmkacnlhlbnjaaC5
namespace Go.Proofs.Ytbmkacnlhlbnjaa
open Go.X Go.X.Cist Go.Conc Go.RowKit Go.ChangeShapes Go.WideShapes Go.ChangeAt Go.Joins

set_option maxRecDepth 100000

theorem pOwn : ownKnob Try.prog.godebug = none := by kernel_rfl
theorem pLaid : laidOutB Try.prog = true := by kernel_rfl
theorem pC3 : Try.prog.cellsOf 3 = 1 := by kernel_rfl
theorem pC24 : Try.prog.cellsOf 24 = 3 := by kernel_rfl
theorem pC36 : Try.prog.cellsOf 36 = 2 := by kernel_rfl
theorem pC38 : Try.prog.cellsOf 38 = 3 := by kernel_rfl

section
variable {H : Type} {enc : TypeId × Value → H} {W : World}
theorem trod_day {m : Nat} {cs : List Value} {y : DataW H × List MemPlace} (h : DataW.trod enc Try.prog W 0 (fun _ => true) true m 38 cs = some y) : ∃ d : Day, cs = d.cells := by
  obtain ⟨y0, y1, n, _, hl, h0, h1⟩ := trod_struct2 Try.underlying38 h
  obtain ⟨z0, z1, n', _, hl', h2, h3⟩ := trod_struct2 Try.underlying36 h0
  rw [pC38] at hl
  obtain ⟨a, ha⟩ := trod_i64 Try.underlying3 h2
  obtain ⟨b, hb⟩ := trod_i64 Try.underlying3 h3
  obtain ⟨c, hc⟩ := trod_i64 Try.underlying3 h1
  match cs, hl with
  | [u, v, w], _ =>
    refine ⟨⟨a, b, c⟩, ?_⟩
    simp [pC36, pC3] at ha hb hc
    simp [Day.cells, ha, hb, hc]
theorem open_days {fuel : Nat} {v : Value} {y : DataW H × List MemPlace} (h : DataW.trod enc Try.prog W 0 (fun _ => true) true fuel 22 [v] = some y) : ∃ a n c ds, v = .slice a n c ∧ Days (vwP W) a n ds := by
  obtain ⟨a, n, c, E, rfl, hQ, s⟩ := open_sl Try.underlying22 pC38 (Q := fun cs => ∃ d : Day, cs = d.cells) (fun m cs y h => trod_day h) h
  obtain ⟨z, hz⟩ := Go.Deep.choose_lt hQ
  refine ⟨a, n, c, (List.range n).map z, rfl, ?_⟩
  have : (List.range n).map E = dcs ((List.range n).map z) := by
    unfold dcs
    rw [List.map_map]
    exact List.map_congr_left fun i hi => hz i (List.mem_range.1 hi)
  unfold Days
  rw [← this]; exact s
theorem open_year {base : Nat} {v : Value} {d : DataW H} {p : List MemPlace} (hv : Value.okWide Try.prog W .any base 24 v) (h : DataW.Trod enc Try.prog W 0 (fun _ => true) true 24 v d p) :
    ∃ size start a n c ds, v = .agg #[.int .i64 size, .int .i64 start, .slice a n c] ∧ Days (vwP W) a n ds := by
  obtain ⟨v0, v1, v2, y0, y1, y2, n, rfl, _, _, h0, h1, h2⟩ := open_agg3 Try.underlying24 (by kernel_rfl) pC24 hv h
  obtain ⟨size, e0⟩ := trod_i64 Try.underlying3 h0
  obtain ⟨start, e1⟩ := trod_i64 Try.underlying3 h1
  obtain ⟨a, n, c, ds, rfl, D⟩ := open_days h2
  obtain rfl : v0 = _ := by simpa using e0
  obtain rfl : v1 = _ := by simpa using e1
  exact ⟨size, start, a, n, c, ds, rfl, D⟩
theorem open_num {base : Nat} {v : Value} {d : DataW H} {p : List MemPlace} (hv : Value.okWide Try.prog W .any base 3 v) (h : DataW.Trod enc Try.prog W 0 (fun _ => true) true 3 v d p) : ∃ n : Int, v = .int .i64 n ∧ (-9223372036854775808 ≤ n ∧ n ≤ 9223372036854775807) := by
  obtain ⟨n, rfl, _, _, hw⟩ := open_int Try.underlying3 hv h
  refine ⟨n, rfl, ?_⟩
  simpa [Lit.wf, IntKind.min, IntKind.max, IntKind.signed, IntKind.bits] using hw
end
end Go.Proofs.Ytbmkacnlhlbnjaa
namespace Go.X.Cist
open Go.X Go.Proofs.Ytbmkacnlhlbnjaa

theorem sumTo_congr {f g : Nat → Int} : ∀ {k : Nat}, (∀ i, i < k → f i = g i) → sumTo f k = sumTo g k
  | 0, _ => rfl
  | k + 1, h => by simp only [sumTo]; rw [sumTo_congr fun i hi => h i (by omega), h k (by omega)]
theorem sumTo_le {f g : Nat → Int} : ∀ {k : Nat}, (∀ i, i < k → f i ≤ g i) → sumTo f k ≤ sumTo g k
  | 0, _ => Int.le_refl _
  | k + 1, h => by
    have h1 := sumTo_le (k := k) (f := f) (g := g) fun i hi => h i (by omega)
    have h2 := h k (by omega)
    simp only [sumTo]; omega
theorem sum_nums {f : Nat → Int} {n j : Nat} (h : j ≤ n) : sumTo (listOf (nums f n)) j = sumTo f j := sumTo_congr fun i hi => nums_getD (by omega)
theorem ovr_le {size start : Int} {want rain : Nat → Int} {k : Nat} (h : 0 ≤ lev size start want rain k ∧ lev size start want rain k ≤ size) (hr : 0 ≤ rain k) : 0 ≤ ovr size start want rain k ∧ ovr size start want rain k ≤ rain k := by
  unfold ovr; omega

section
variable {size start : Int} {ds : List Day} {xs ys : List Int}
/-! ### more rain -/
theorem more_lev {want r r' : Nat → Int} {n : Nat} (h : ∀ i, i < n → r i ≤ r' i) : ∀ k, k ≤ n → lev size start want r k ≤ lev size start want r' k
  | 0, _ => Int.le_refl _
  | k + 1, hk => by
    have h1 := more_lev (want := want) h k (by omega)
    have h2 := h k (by omega)
    simp only [lev]; omega
theorem more_lack {want r r' : Nat → Int} {n : Nat} (h : ∀ i, i < n → r i ≤ r' i) (k : Nat) (hk : k < n) : lack size start want r' k ≤ lack size start want r k := by
  have h1 := more_lev (size := size) (start := start) (want := want) h k (by omega)
  have h2 := h k hk
  unfold lack ovr; omega
theorem more_ovr {want r r' : Nat → Int} {n : Nat} (h : ∀ i, i < n → r i ≤ r' i) (k : Nat) (hk : k < n) : ovr size start want r k ≤ ovr size start want r' k := by
  have h1 := more_lev (size := size) (start := start) (want := want) h k (by omega)
  have h2 := h k hk
  unfold ovr; omega
/-! ### nothing is lost -/
end
end Go.X.Cist
namespace Go.X.Cist
open Go.X Go.Proofs.Ytbmkacnlhlbnjaa

section
variable {size start size' start' : Int} {want want' rain rain' : Nat → Int} {ds ds' : List Day}

theorem lev_congr : ∀ k, (∀ i, i < k → want i = want' i) → (∀ i, i < k → rain i = rain' i) → lev size start want rain k = lev size start want' rain' k
  | 0, _, _ => rfl
  | k + 1, hw, hr => by
    have h1 := lev_congr k (fun i hi => hw i (by omega)) fun i hi => hr i (by omega)
    simp only [lev]; rw [h1, hw k (by omega), hr k (by omega)]

/-! ### what lasts -/
/-- The number of a day, or of none. -/
def dayOr (r : Int × Int) : Int := if r.2 = 3 then 8 else r.1
/-! ### rations -/
/-! ### sizes and starts -/
end
end Go.X.Cist
namespace Go.X.Cist
open Go.X Go.Proofs.Ytbmkacnlhlbnjaa

section
variable {size start size' : Int} {ds : List Day} {day x : Int}
/-! ### a greater cistern -/
end
end Go.X.Cist
namespace Go.Proofs.Ytbmkacnlhlbnjaa
open Go.X Go.X.Cist Go.Conc
set_option maxRecDepth 10000

end Go.Proofs.Ytbmkacnlhlbnjaa
namespace Go.Proofs.Ytbmkacnlhlbnjaa
open Go.X Go.X.Cist Go.Conc
set_option maxRecDepth 10000

end Go.Proofs.Ytbmkacnlhlbnjaa
namespace Go.Proofs.Ytbmkacnlhlbnjaa
open Go.X Go.X.Cist Go.Conc

theorem dry_at {size start : Int} {ds : List Day} {i : Nat} (h : i < ds.length) : (dryOf size start ds).getD i dz = sideDay size (min start size) (wantOf ds) (loOf ds) i := by unfold dryOf; rw [side_getD h]
theorem wet_at {size start : Int} {ds : List Day} {i : Nat} (h : i < ds.length) : (wetOf size start ds).getD i dz = sideDay size (min start size) (wantOf ds) (hiOf ds) i := by unfold wetOf; rw [side_getD h]
/-- Between what the level, the lack, the sum of what ran over of a day is. -/
def levLo (size start : Int) (ds : List Day) (k : Nat) : Int := lev size (min start size) (wantOf ds) (loOf ds) (k + 1)
def levHi (size start : Int) (ds : List Day) (k : Nat) : Int := lev size (min start size) (wantOf ds) (hiOf ds) (k + 1)
def lackLo (size start : Int) (ds : List Day) (k : Nat) : Int := lack size (min start size) (wantOf ds) (hiOf ds) k
def lackHi (size start : Int) (ds : List Day) (k : Nat) : Int := lack size (min start size) (wantOf ds) (loOf ds) k
def overLo (size start : Int) (ds : List Day) (k : Nat) : Int := sumTo (ovr size (min start size) (wantOf ds) (loOf ds)) (k + 1)
def overHi (size start : Int) (ds : List Day) (k : Nat) : Int := sumTo (ovr size (min start size) (wantOf ds) (hiOf ds)) (k + 1)

section
variable {h : Heap} {p : PHeap} {size start : Int} {a : Option Addr} {n c : Nat} {ds : List Day}
theorem level_ok (hOk : Ok size start ds) {day : Int} (hday : IsDay ds day) : levelR size start ds day = ((levLo size start ds day.toNat, levHi size start ds day.toNat), 0) := by
  unfold levelR
  rw [if_pos (askd_ok hOk (decide_eq_true hday)), dry_at (by have := hday.1; have := hday.2; omega), wet_at (by have := hday.1; have := hday.2; omega)]; rfl
theorem lack_ok (hOk : Ok size start ds) {day : Int} (hday : IsDay ds day) : lackR size start ds day = ((lackLo size start ds day.toNat, lackHi size start ds day.toNat), 0) := by
  unfold lackR
  rw [if_pos (askd_ok hOk (decide_eq_true hday)), dry_at (by have := hday.1; have := hday.2; omega), wet_at (by have := hday.1; have := hday.2; omega)]; rfl
theorem over_ok (hOk : Ok size start ds) {day : Int} (hday : IsDay ds day) : overR size start ds day = ((overLo size start ds day.toNat, overHi size start ds day.toNat), 0) := by
  unfold overR
  rw [if_pos (askd_ok hOk (decide_eq_true hday)), dry_at (by have := hday.1; have := hday.2; omega), wet_at (by have := hday.1; have := hday.2; omega)]; rfl
end
end Go.Proofs.Ytbmkacnlhlbnjaa
namespace Go.X.Cist
open Go.X Go.Proofs.Ytbmkacnlhlbnjaa

section
variable {size start : Int} {ds ds' : List Day} {xs : List Int} {n : Nat}

theorem start_min (hOk : Ok size start ds) : min start size = start := by have := hOk.2.2.2.1; omega
theorem weather_lo (hW : Weather ds xs) : ∀ i, i < ds.length → loOf ds i ≤ listOf xs i := fun i hi => (hW.2 i (by rw [hW.1]; exact hi)).1
theorem weather_hi (hW : Weather ds xs) : ∀ i, i < ds.length → listOf xs i ≤ hiOf ds i := fun i hi => (hW.2 i (by rw [hW.1]; exact hi)).2
theorem sum_more {want r r' : Nat → Int} {m : Nat} (h : ∀ i, i < m → r i ≤ r' i) {k : Nat} (hk : k ≤ m) : sumTo (ovr size start want r) k ≤ sumTo (ovr size start want r') k :=
  sumTo_le fun i hi => more_ovr h i (by omega)

/-! ### each weather -/
/-! ### two parts -/
theorem lev_shift {want rain : Nat → Int} {c : Nat} : ∀ k, lev size start want rain (c + k) = lev size (lev size start want rain c) (fun i => want (c + i)) (fun i => rain (c + i)) k
  | 0 => rfl
  | k + 1 => by
    have h := lev_shift (want := want) (rain := rain) (c := c) k
    show lev size start want rain (c + k + 1) = _
    simp only [lev]
    rw [h]
theorem lack_congr {want want' rain rain' : Nat → Int} {k : Nat} (hw : ∀ i, i ≤ k → want i = want' i) (hr : ∀ i, i ≤ k → rain i = rain' i) : lack size start want rain k = lack size start want' rain' k := by
  have h := lev_congr (size := size) (start := start) k (fun i hi => hw i (by omega)) fun i hi => hr i (by omega)
  unfold lack ovr
  rw [h, hw k (Nat.le_refl _), hr k (Nat.le_refl _)]
theorem ovr_congr {want want' rain rain' : Nat → Int} {k : Nat} (hw : ∀ i, i ≤ k → want i = want' i) (hr : ∀ i, i ≤ k → rain i = rain' i) : ovr size start want rain k = ovr size start want' rain' k := by
  have h := lev_congr (size := size) (start := start) k (fun i hi => hw i (by omega)) fun i hi => hr i (by omega)
  unfold ovr
  rw [h, hr k (Nat.le_refl _)]
theorem nums_parts {f g h : Nat → Int} {c : Nat} (hc : c ≤ n) (h1 : ∀ i, i < c → f i = g i) (h2 : ∀ i, i < n - c → f (c + i) = h i) : nums f n = nums g c ++ nums h (n - c) := by
  refine List.ext_getElem (by simp [nums_length]; omega) fun i a b => ?_
  rw [nums_length] at a
  by_cases e : i < c
  · rw [List.getElem_append_left (by rw [nums_length]; exact e)]
    simpa [nums] using h1 i e
  · rw [List.getElem_append_right (by rw [nums_length]; omega)]
    have := h2 (i - c) (by omega)
    rw [show c + (i - c) = i from by omega] at this
    simpa [nums] using this
theorem want_take {c i : Nat} (h : i < c) : wantOf (ds.take c) i = wantOf ds i := by unfold wantOf; rw [List.getD_eq_getElem?_getD, List.getElem?_take, if_pos h, ← List.getD_eq_getElem?_getD]
theorem want_drop {c : Nat} : wantOf (ds.drop c) = fun i => wantOf ds (c + i) := by funext i; unfold wantOf; rw [List.getD_eq_getElem?_getD, List.getElem?_drop, ← List.getD_eq_getElem?_getD]
theorem list_take {c i : Nat} (h : i < c) : listOf (xs.take c) i = listOf xs i := by unfold listOf; rw [List.getD_eq_getElem?_getD, List.getElem?_take, if_pos h, ← List.getD_eq_getElem?_getD]
theorem list_drop {c : Nat} : listOf (xs.drop c) = fun i => listOf xs (c + i) := by funext i; unfold listOf; rw [List.getD_eq_getElem?_getD, List.getElem?_drop, ← List.getD_eq_getElem?_getD]
/-- The level behind the first part. -/
def cutStart (size start : Int) (ds : List Day) (xs : List Int) (c : Nat) : Int := lev size start (wantOf ds) (listOf xs) c
theorem parts {c : Nat} (h : c ≤ n) :
    nums (levs size start (wantOf ds) (listOf xs)) n = nums (levs size start (wantOf (ds.take c)) (listOf (xs.take c))) c ++ nums (levs size (cutStart size start ds xs c) (wantOf (ds.drop c)) (listOf (xs.drop c))) (n - c) ∧
    nums (lack size start (wantOf ds) (listOf xs)) n = nums (lack size start (wantOf (ds.take c)) (listOf (xs.take c))) c ++ nums (lack size (cutStart size start ds xs c) (wantOf (ds.drop c)) (listOf (xs.drop c))) (n - c) ∧
    nums (ovr size start (wantOf ds) (listOf xs)) n = nums (ovr size start (wantOf (ds.take c)) (listOf (xs.take c))) c ++ nums (ovr size (cutStart size start ds xs c) (wantOf (ds.drop c)) (listOf (xs.drop c))) (n - c) := by
  have e : ∀ k, lev size start (wantOf ds) (listOf xs) (c + k) = lev size (cutStart size start ds xs c) (wantOf (ds.drop c)) (listOf (xs.drop c)) k := fun k => by rw [lev_shift, want_drop, list_drop]; rfl
  have w : ∀ i, wantOf ds (c + i) = wantOf (ds.drop c) i := fun i => by rw [want_drop]
  have r : ∀ i, listOf xs (c + i) = listOf (xs.drop c) i := fun i => by rw [list_drop]
  refine ⟨nums_parts h (fun i hi => ?_) fun i hi => ?_, nums_parts h (fun i hi => ?_) fun i hi => ?_, nums_parts h (fun i hi => ?_) fun i hi => ?_⟩
  · exact lev_congr _ (fun i hi => (want_take (by omega)).symm) fun i hi => (list_take (by omega)).symm
  · exact e (i + 1)
  · exact lack_congr (fun i hi => (want_take (by omega)).symm) fun i hi => (list_take (by omega)).symm
  · unfold lack ovr; rw [e, w, r]
  · exact ovr_congr (fun i hi => (want_take (by omega)).symm) fun i hi => (list_take (by omega)).symm
  · unfold ovr; rw [e, r]
/-! ### less doubt -/
def setRain (ds : List Day) (i : Nat) (lo hi : Int) : List Day := ds.set i ⟨lo, hi, (ds.getD i dz).want⟩
/-- A year of which only the rain is narrower. -/
structure Narrow (ds ds' : List Day) : Prop where
  len : ds'.length = ds.length
  want : ∀ i, i < ds.length → wantOf ds' i = wantOf ds i
  lo : ∀ i, i < ds.length → loOf ds i ≤ loOf ds' i
  hi : ∀ i, i < ds.length → hiOf ds' i ≤ hiOf ds i
section
variable (hN : Narrow ds ds')
include hN
end
end
end Go.X.Cist
namespace Go.X
open Go.Conc

/-- A bound of a part: none, or a number. -/
inductive Bd (tm : List Value) : Option Operand → Nat → Nat → Prop
  | none (d : Nat) : Bd tm none d d
  | some {o : Operand} {k : IntKind} {z : Int} (d : Nat) (h : evl tm o = .int k z) (h0 : 0 ≤ z) : Bd tm (some o) d z.toNat
  | nat {o : Operand} {k : IntKind} {z : Nat} (d : Nat) (h : evl tm o = .int k (z : Nat)) : Bd tm (some o) d z
def cutA (a : Option Addr) (c l w : Nat) : Option Addr := if c = l then a else a.map (·.add (l * w))

section
variable {P : Program} {h : Heap} {tm : List Value} {d : Option Tmp} {ty : TypeId} {pos : String} {aft : Array Edge} {gd : Option (Nat × Bool)}
theorem Sl.part {p : PHeap} {a : Option Addr} {n c w l r : Nat} {es : List (List Value)} (s : Sl p a n w es) (hc : n ≤ c) (h1 : l ≤ r) (h2 : r ≤ n) : Sl p (cutA a c l w) (r - l) w ((es.drop l).take (r - l)) :=
  s.cut h1 h2 fun hlt => by unfold cutA; rw [if_neg (by omega), s.ne (by omega)]; rfl
end

section
variable {P : Program} {md : Md} {f : FuncId} {r : Rd} {df : List Deferred} {k : List Item} {cs : List Frame} {Stop : Goroutine → Heap → Prop} {ops rest : List Oper} {tm : List Value}
  {h₀ : Heap} {B₀ : List Nat} {p : PHeap} {A X C : Pcs} {T : TypeId} {w : Nat} {v : Value} {es : List (List Value)} {n : Nat} {g : Goroutine}
theorem OwnS.room (o : OwnS T w v es X) (hw : 0 < w) {a : Option Addr} {m cap : Nat} (e : v = .slice a m cap) : m ≤ cap := by
  obtain ⟨h1, ⟨rfl, rfl, rfl⟩ | ⟨b, cs, cap', rest, rfl, rfl, hcs, hlen⟩⟩ := o
  · cases e; exact Nat.le_refl _
  · cases e
    have h2 := flatten_length h1
    have h3 : cs.length = es.flatten.length + rest.length := by rw [hcs]; simp
    have : es.length * w ≤ cap * w := by omega
    exact Nat.le_of_mul_le_mul_right this hw
end
end Go.X
namespace Go.X.Cist
open Go.X Go.Proofs.Ytbmkacnlhlbnjaa Go.Conc

section
variable {p : PHeap} {a : Option Addr} {n c l r : Nat} {ds es : List Day} {xs : List Int}
theorem ints_nil (p : PHeap) : Ints p none 0 [] := Sl.nil _ _ _
theorem days_yes (hl : ds.length = es.length) (h : ∀ i, i < ds.length → ds.getD i dz = es.getD i dz) : ds = es := ext_getD (d := dz) hl h
theorem eq_step {k : Nat} (h : ∀ i, i < k → ds.getD i dz = es.getD i dz) (e : ds.getD k dz = es.getD k dz) : ∀ i, i < k + 1 → ds.getD i dz = es.getD i dz := fun i hi => by
  by_cases c : i = k
  · subst c; exact e
  · exact h i (by omega)
theorem Days.pre (D : Days p a n ds) (hc : n ≤ c) (h : r ≤ n) : Days p (cutA a c 0 3) r (ds.take r) := by
  have := Sl.part D hc (Nat.zero_le r) h
  unfold Days dcs
  rw [List.map_take]
  simpa [dcs] using this
theorem Ints.pre (D : Ints p a n xs) (hc : n ≤ c) (h : r ≤ n) : Ints p (cutA a c 0 1) r (xs.take r) := by
  have := Sl.part D hc (Nat.zero_le r) h
  unfold Ints
  rw [List.map_take]
  simpa using this
end
end Go.X.Cist
namespace Go.X
open Go.Conc

/-- 'Q' of an operation sees only those in 'anc'. -/
def Qr (anc : Nat → List Nat) (Q : Nat → (Nat → Value) → (Nat → Pcs) → Value → Pcs → Prop) (val : Nat → Value) (piece : Nat → Pcs) (i : Nat) : Value → Pcs → Prop :=
  Q i (fun j => if (anc i).contains j = true then val j else undef) (fun j => if (anc i).contains j = true then piece j else [])
theorem Qr_congr {anc : Nat → List Nat} {Q : Nat → (Nat → Value) → (Nat → Pcs) → Value → Pcs → Prop} {val val' : Nat → Value} {piece piece' : Nat → Pcs} {i : Nat} (h : ∀ y, (anc i).contains y = true → val y = val' y ∧ piece y = piece' y) :
    Qr anc Q val piece i = Qr anc Q val' piece' i := by
  unfold Qr
  have e1 : (fun j => if (anc i).contains j = true then val j else undef) = (fun j => if (anc i).contains j = true then val' j else undef) := by
    funext j; split
    · rename_i hj; exact (h j hj).1
    · rfl
  have e2 : (fun j => if (anc i).contains j = true then piece j else []) = (fun j => if (anc i).contains j = true then piece' j else []) := by
    funext j; split
    · rename_i hj; exact (h j hj).2
    · rfl
  rw [e1, e2]
def ancok (ops : List Oper) (m : Nat) (cl : List (List Nat)) (anc : Nat → List Nat) : Bool :=
  ops.zipIdx.all fun (o, i) => !decide (i < m) || (anc i).all fun j => behind cl o j
theorem ancok_at {ops : List Oper} {m : Nat} {cl : List (List Nat)} {anc : Nat → List Nat} (h : ancok ops m cl anc = true) {i j : Nat} {o : Oper} (hi : i < m) (ho : ops[i]? = some o) (hj : (anc i).contains j = true) : behind cl o j = true := by
  unfold ancok at h
  rw [List.all_eq_true] at h
  have := h (o, i) (by rw [List.mem_zipIdx_iff_getElem?]; exact ho)
  simp only [hi, decide_true, Bool.not_true, Bool.false_or, List.all_eq_true] at this
  exact this j (by simpa using hj)
theorem behind_lt {ops : List Oper} {m : Nat} {cl : List (List Nat)} (hs : stable ops m cl = true) {i j : Nat} {o : Oper} (ho : ops[i]? = some o) (h : behind cl o j = true) : j < i := by
  rcases (behind_iff).1 h with h | ⟨k, hk, h⟩
  · exact (stable_at hs ho).1 j h
  · have h1 := (stable_at hs ho).1 k hk
    obtain ⟨ok, hok⟩ : ∃ ok, ops[k]? = some ok := ⟨_, List.getElem?_eq_getElem (Nat.lt_trans h1 (List.getElem?_eq_some_iff.1 ho).1)⟩
    exact Nat.lt_trans (stable_cl hs hok h).1 h1

/-- What is asked of an operation whose turn it is. -/
def OpMix2 (P : Program) (md : Md) (ops : List Oper) (tmF : (Nat → Value) → List Value) (h₀ : Heap) (B₀ : List Nat) (p : PHeap) (A : Pcs) (ini : List Nat) (X : Nat → Pcs) (use : Nat → List Nat) (anc : Nat → List Nat) (Q : Nat → (Nat → Value) → (Nat → Pcs) → Value → Pcs → Prop) (i : Nat) (o : Oper) : Prop :=
  ∀ val piece, (∀ j, (anc i).contains j = true → Qr anc Q val piece j (val j) (piece j)) → (∀ j ∈ ini, piece j = X j) →
    (Met ops (tmF val) o true ∧ ∀ C h, St h₀ B₀ p h ((use i).flatMap piece ++ (A ++ C)) →
      Exv P (tmF val) o h (fun v h' => ∃ x, Qr anc Q val piece i v x ∧ St h₀ B₀ p h' (x ++ (A ++ C))) ∨
      (∃ g args, (wpS P (execOp (evl (tmF val)) o) h fun n h' => n = .enter g args ∧ h' = h) ∧ CallsX P md g args h (fun v h' => ∃ x, Qr anc Q val piece i v x ∧ St h₀ B₀ p h' (x ++ (A ++ C))))) ∨
    (Met ops (tmF val) o false ∧ (use i).flatMap piece = [] ∧ Qr anc Q val piece i undef [])

section
variable {P : Program} {md : Md} {ops : List Oper} {m : Nat} {f : FuncId} {r : Rd} {df : List Deferred} {k : List Item} {cs : List Frame} {Stop : Goroutine → Heap → Prop} {tm : List Value}
  {h₀ : Heap} {B₀ : List Nat} {p : PHeap} {A C : Pcs} {ini : List Nat} {X : Nat → Pcs} {use : Nat → List Nat} {anc : Nat → List Nat} {Q : Nat → (Nat → Value) → (Nat → Pcs) → Value → Pcs → Prop} {tmF : (Nat → Value) → List Value}

/-- A REGION THAT DRAWS ITS ORDER, the first 'm' of its operations turning pieces of the call's own. -/
theorem fl_mixed2 {rid : Nat} (m : Nat) (cl : List (List Nat)) (ini fin emp : List Nat) (X : Nat → Pcs) (use : Nat → List Nat) (anc : Nat → List Nat) (Q : Nat → (Nat → Value) → (Nat → Pcs) → Value → Pcs → Prop) (tmF : (Nat → Value) → List Value)
    (hmix : P.follows .mixedOrders = true) (hst : stable ops m cl = true) (hm : m ≤ ops.length) (hk : mixok ops m ini use (fin ++ emp) = true) (hemp : emp.all (fun j => decide (j < m)) = true) (hanc : ancok ops m cl anc = true) (hemp2 : ∀ val piece, Emp (Qr anc Q val piece) emp) (htm : ∀ val, fills ops val m tm = tmF val)
    (hdl : (ops.all fun o => match o.dst with | some d => decide (d < tm.length) | none => true) = true)
    (st : Mixes (OpMix2 P md ops tmF h₀ B₀ p A ini X use anc Q) 0 (ops.take m))
    (n : ∀ val piece, (∀ j < m, Qr anc Q val piece j (val j) (piece j)) → (∀ j ∈ ini, piece j = X j) → RL P md f r df k cs Stop ops (ops.drop m) (tmF val) (fun h => St h₀ B₀ p h (fin.flatMap piece ++ (A ++ C)))) :
    RS P md (G (FL f r tm df (.code (.region rid ops.toArray true) :: k)) cs) (fun h => St h₀ B₀ p h (ini.flatMap X ++ (A ++ C))) Stop := by
  refine rs_drawn fun t => ?_
  unfold Region.schedule
  rw [hmix]
  simp only [Bool.true_or, if_true]
  obtain ⟨s, e, hord⟩ := order_all hst hm t
  rw [e]
  obtain ⟨k1, k2, k3, k4, k5, k6⟩ := mixok_at hk
  have hops : ∀ {i : Nat} {o : Oper}, i < m → ops[i]? = some o → noDefer o.op = true ∧ OpMix2 P md ops tmF h₀ B₀ p A ini X use anc Q i o := fun {i o} hi ho => by
    have := Mixes.at (i := i) st (by rw [List.getElem?_take, if_pos hi]; exact ho)
    rw [Nat.zero_add] at this; exact this
  have hdist : ∀ (i j : Nat) (o o' : Oper) (d : Nat), i < m → j < m → ops[i]? = some o → ops[j]? = some o' → o.dst = some d → o'.dst = some d → i = j := fun i j o o' d hi hj ho ho' hd hd' =>
    (((stable_at hst ho).2.2 hi).2 j o' d hj ho' hd').1.resolve_right fun hne => hne hd
  have hdlt : ∀ {i : Nat} {o : Oper} {d : Nat}, ops[i]? = some o → o.dst = some d → d < tm.length := fun {i o d} ho hd => by
    have := List.all_eq_true.1 hdl o (List.mem_of_getElem? ho)
    simpa [hd] using this
  have main : ∀ (s : List Nat) (l : Array Bool) (tmc : List Value) (val : Nat → Value) (piece : Nat → Pcs) (ls : List Nat), Ord ops m l s → l.size = ops.length → tmc.length = tm.length →
      (∀ x, (∃ (j : Nat) (o : Oper), j < m ∧ l.getD j false = true ∧ ops[j]? = some o ∧ o.dst = some x) → tmc[x]? = (tmF val)[x]?) →
      (∀ x, (∀ (j : Nat) (o : Oper), j < m → l.getD j false = true → ops[j]? = some o → o.dst ≠ some x) → tmc[x]? = tm[x]?) →
      (∀ j < m, l.getD j false = true → Qr anc Q val piece j (val j) (piece j)) → (∀ j ∈ ini, piece j = X j) → ls.Nodup →
      (∀ x, x ∈ ls ↔ (x ∈ ini ∨ (x < m ∧ l.getD x false = true)) ∧ ∀ k < m, l.getD k false = true → x ∉ use k) →
      (∀ k < m, l.getD k false = true → ∀ x ∈ use k, x ∈ ini ∨ (x < m ∧ l.getD x false = true)) →
      (∀ (k : Nat) (o : Oper), l.getD k false = true → ops[k]? = some o → ∀ x ∈ preds o, l.getD x false = true) →
      RS P md (G (FL f r tmc df (.inRegion ops.toArray (s ++ List.range' m (ops.length - m)) :: k)) cs) (fun h => St h₀ B₀ p h (ls.flatMap piece ++ (A ++ C))) Stop := by
    intro s
    induction s with
    | nil =>
      intro l tmc val piece ls hord _ hl h1 h2 hQ hX hnd hls _ _
      cases hord with
      | nil hall =>
      have : tmc = tmF val := by
        refine List.ext_getElem? fun x => ?_
        by_cases hx : ∃ (j : Nat) (o : Oper), j < m ∧ ops[j]? = some o ∧ o.dst = some x
        · obtain ⟨j, o, hj, ho, hd⟩ := hx
          exact h1 x ⟨j, o, hj, hall j hj, ho, hd⟩
        · rw [h2 x fun j o hj _ ho hd => hx ⟨j, o, hj, ho, hd⟩, ← htm, fills_out]
          exact fun j o hj ho hd => hx ⟨j, o, hj, ho, hd⟩
      subst this
      rw [List.nil_append]
      have hp : ls.Perm (fin ++ emp) := by
        refine (List.perm_ext_iff_of_nodup hnd k3).2 fun x => ?_
        rw [hls]
        constructor
        · rintro ⟨hx, hu⟩
          rcases k6 x (hx.elim .inr fun y => .inl y.1) with y | ⟨k, hk, y⟩
          · exact y
          · exact absurd y (hu k hk (hall k hk))
        · intro hx
          obtain ⟨y, z⟩ := k5 x hx
          exact ⟨y.imp id fun y => ⟨y, hall x y⟩, fun k hk _ => z k hk⟩
      have := n val piece (fun j hj => hQ j hj (hall j hj)) hX (ops.take m) (List.take_append_drop m ops).symm
      rw [List.length_take, Nat.min_eq_left hm, List.length_drop] at this
      have he : emp.flatMap piece = [] := (hemp2 val piece).flat fun j hj => hQ j (by simpa using List.all_eq_true.1 hemp j hj) (hall j (by simpa using List.all_eq_true.1 hemp j hj))
      exact fun h y => this h (y.perm (by
        have := (hp.flatMap_right piece).append_right (A ++ C)
        rwa [List.flatMap_append, he, List.append_nil] at this))
    | cons i s ih =>
      intro l tmc val piece ls hord hsz hl h1 h2 hQ hX hnd hls hcl hpc
      cases hord with
      | @cons _ _ _ o hi ho hn hp hs =>
      have hil := (List.getElem?_eq_some_iff.1 ho).1
      have hni : l.getD i false = false := by rw [← getD_lt (by omega)]; exact hn
      have hlooks := ((stable_at hst ho).2.2 hi)
      have hag : ∀ x ∈ looks ops o, tmc[x]? = (tmF val)[x]? := by
        intro x hx
        by_cases hw : ∃ (j : Nat) (o' : Oper), j < m ∧ ops[j]? = some o' ∧ o'.dst = some x
        · obtain ⟨j, o', hj, ho', hd⟩ := hw
          have hpj := (hlooks.2 j o' x hj ho' hd).2 hx
          exact h1 x ⟨j, o', hj, hp j hpj, ho', hd⟩
        · rw [h2 x fun j o' hj _ ho' hd => hw ⟨j, o', hj, ho', hd⟩, ← htm, fills_out]
          exact fun j o hj ho hd => hw ⟨j, o, hj, ho, hd⟩
      have hset : ∀ j, i ≠ j → (l.setIfInBounds i true).getD j false = l.getD j false := fun j e => getD_set_ne false e
      have hself : (l.setIfInBounds i true).getD i false = true := by simp [Array.getD, hsz, hil]
      obtain ⟨u1, u2⟩ := k4 i o hi ho
      have husein : ∀ x ∈ use i, x ∈ ls := fun x hx => by
        rw [hls]
        obtain ⟨a, b⟩ := u2 x hx
        refine ⟨a.imp id fun a => ⟨a.1, hp x a.2⟩, fun k hk hd hxk => ?_⟩
        by_cases e : k = i
        · subst e; rw [hni] at hd; cases hd
        · exact b k hk e hxk
      obtain ⟨rest, hperm⟩ := perm_use u1 husein
      have hnd2 := hperm.nodup_iff.1 hnd
      have hrest : ∀ x, x ∈ rest ↔ x ∈ ls ∧ x ∉ use i := fun x => by
        rw [hperm.mem_iff, List.mem_append]
        constructor
        · intro hx
          exact ⟨.inr hx, fun hu => (List.nodup_append.1 hnd2).2.2 x hu x hx rfl⟩
        · rintro ⟨a | a, b⟩
          · exact absurd a b
          · exact a
      have hiini : i ∉ ini := fun e => by have := k2 i e; omega
      have hils : i ∉ ls := fun e => by
        have := ((hls i).1 e).1
        rcases this with a | a
        · exact hiini a
        · rw [hni] at a; cases a.2
      -- what comes of it
      have hanl : ∀ (j : Nat) (oj : Oper), j < m → ops[j]? = some oj → (j = i ∨ l.getD j false = true) → ∀ y, (anc j).contains y = true → l.getD y false = true := fun j oj hj hoj hjl y hy => by
        have hb := ancok_at hanc hj hoj hy
        refine behind_listed hst hsz hpc j oj y (fun x hx => ⟨(stable_at hst hoj).1 x hx, ?_⟩) hb
        rcases hjl with rfl | hjl
        · rw [ho] at hoj; cases hoj; exact hp x hx
        · exact hpc j oj hjl hoj x hx
      have next : ∀ v x, Qr anc Q val piece i v x → RS P md (G (FL f r (putl tmc o.dst v) df (.inRegion ops.toArray (s ++ List.range' m (ops.length - m)) :: k)) cs) (fun h => St h₀ B₀ p h (x ++ (A ++ (rest.flatMap piece ++ C)))) Stop := by
        intro v x hq
        have hv : ∀ j, i ≠ j → (fun j => if j = i then v else val j) j = val j := fun j e => if_neg fun e' => e e'.symm
        have hx' : ∀ j, i ≠ j → (fun j => if j = i then x else piece j) j = piece j := fun j e => if_neg fun e' => e e'.symm
        have := ih (l.setIfInBounds i true) (putl tmc o.dst v) (fun j => if j = i then v else val j) (fun j => if j = i then x else piece j) (i :: rest) hs (by simpa using hsz) (by rw [putl_length]; exact hl)
          (fun y hy => by
            obtain ⟨j, o', hj, hlj, ho', hd⟩ := hy
            rw [← htm, fills_in hj ho' hd (fun j' o'' hj' ho'' hd' => hdist j' j o'' o' y hj' hj ho'' ho' hd' hd) (hdlt ho' hd)]
            by_cases e : i = j
            · subst e
              rw [ho] at ho'; cases ho'
              rw [hd]
              simp only [putl, if_true]
              rw [List.getElem?_set_self (by rw [hl]; exact hdlt ho hd)]
            · have hne : o.dst ≠ some y := fun hd' => e (hdist i j o o' y hi hj ho ho' hd' hd)
              rw [hset j e] at hlj
              rw [putl_ne hne, h1 y ⟨j, o', hj, hlj, ho', hd⟩, ← htm, fills_in hj ho' hd (fun j' o'' hj' ho'' hd' => hdist j' j o'' o' y hj' hj ho'' ho' hd' hd) (hdlt ho' hd)]
              rw [if_neg fun e' => e e'.symm])
          (fun y hy => by
            have hne : o.dst ≠ some y := hy i o hi hself ho
            rw [putl_ne hne]
            refine h2 y fun j o' hj hlj ho' => hy j o' hj ?_ ho'
            by_cases e : i = j
            · subst e; exact hself
            · rw [hset j e]; exact hlj)
          (fun j hj hlj => by
            obtain ⟨oj, hoj⟩ : ∃ oj, ops[j]? = some oj := ⟨_, List.getElem?_eq_getElem (Nat.lt_of_lt_of_le hj hm)⟩
            have hjl : j = i ∨ l.getD j false = true := by
              by_cases e : i = j
              · exact .inl e.symm
              · rw [hset j e] at hlj; exact .inr hlj
            have hne : ∀ y, (anc j).contains y = true → i ≠ y := fun y hy e => by
              have := hanl j oj hj hoj hjl y hy
              subst e; rw [hni] at this; cases this
            have hr := Qr_congr (Q := Q) (anc := anc) (i := j) (val := val) (piece := piece) (val' := fun j => if j = i then v else val j) (piece' := fun j => if j = i then x else piece j) fun y hy => ⟨(hv y (hne y hy)).symm, (hx' y (hne y hy)).symm⟩
            by_cases e : i = j
            · subst e; simp only [if_true]; rw [← hr]; exact hq
            · rw [hset j e] at hlj
              have := hQ j hj hlj; rw [← hr, if_neg (fun e' => e e'.symm), if_neg (fun e' => e e'.symm)]; exact this)
          (fun j hj => (hx' j (fun e => by subst e; exact hiini hj)).trans (hX j hj))
          (List.nodup_cons.2 ⟨fun e => hils ((hrest i).1 e).1, (List.nodup_append.1 hnd2).2.1⟩)
          (fun y => by
            rw [List.mem_cons, hrest, hls]
            constructor
            · rintro (rfl | ⟨⟨a, b⟩, c⟩)
              · refine ⟨.inr ⟨hi, hself⟩, fun k' hk' hd hy => ?_⟩
                by_cases e : y = k'
                · subst e
                  rcases (u2 y hy).1 with a | a
                  · exact hiini a
                  · exact absurd ((stable_at hst ho).1 y a.2) (Nat.lt_irrefl _)
                · rw [hset k' e] at hd
                  rcases hcl k' hk' hd y hy with a | a
                  · exact hiini a
                  · rw [hni] at a; cases a.2
              · refine ⟨a.imp id fun a => ⟨a.1, ?_⟩, fun k' hk' hd => ?_⟩
                · by_cases e : i = y
                  · subst e; exact hself
                  · rw [hset y e]; exact a.2
                · by_cases e : i = k'
                  · subst e; exact c
                  · rw [hset k' e] at hd; exact b k' hk' hd
            · rintro ⟨a, b⟩
              by_cases e : y = i
              · exact .inl e
              · refine .inr ⟨⟨a.imp id fun a => ⟨a.1, ?_⟩, fun k' hk' hd => b k' hk' ?_⟩, b i hi hself⟩
                · have := a.2; rw [hset y (fun e' => e e'.symm)] at this; exact this
                · by_cases e' : i = k'
                  · subst e'; exact hself
                  · rw [hset k' e']; exact hd)
          (fun k' hk' hd y hy => by
            by_cases e : i = k'
            · subst e
              obtain ⟨a, _⟩ := u2 y hy
              refine a.imp id fun a => ⟨a.1, ?_⟩
              by_cases e' : i = y
              · subst e'; exact hself
              · rw [hset y e']; exact hp y a.2
            · rw [hset k' e] at hd
              refine (hcl k' hk' hd y hy).imp id fun a => ⟨a.1, ?_⟩
              by_cases e' : i = y
              · subst e'; exact hself
              · rw [hset y e']; exact a.2)
          (fun k' o' hd ho' y hy => by
            have hy2 : l.getD y false = true := by
              by_cases e : i = k'
              · subst e; rw [ho] at ho'; cases ho'; exact hp y hy
              · rw [hset k' e] at hd; exact hpc k' o' hd ho' y hy
            by_cases e' : i = y
            · subst e'; exact hself
            · rw [hset y e']; exact hy2)
        have hfm : rest.flatMap (fun j => if j = i then x else piece j) = rest.flatMap piece := by
          have hni' : i ∉ rest := fun e => hils ((hrest i).1 e).1
          clear this hperm hnd2 hrest
          induction rest with
          | nil => rfl
          | cons a r ih' =>
            simp only [List.flatMap_cons]
            rw [ih' (fun e => hni' (by simp [e])), if_neg (fun e => hni' (by simp [e]))]
        intro h y
        refine this h ?_
        rw [List.flatMap_cons, hfm]
        simp only [if_true]
        refine y.perm ?_
        rw [List.append_assoc]
        refine List.Perm.append_left x ?_
        rw [← List.append_assoc, ← List.append_assoc]
        exact List.Perm.append_right C List.perm_append_comm
      have hmixi := hops hi ho
      have ho2 : ops.toArray[i]? = some o := by simpa using ho
      have hpre : ∀ h, St h₀ B₀ p h (ls.flatMap piece ++ (A ++ C)) → St h₀ B₀ p h ((use i).flatMap piece ++ (A ++ (rest.flatMap piece ++ C))) := fun h y => by
        refine y.perm ?_
        refine ((hperm.flatMap_right piece).append_right _).trans ?_
        rw [List.flatMap_append, List.append_assoc]
        refine List.Perm.append_left _ ?_
        rw [← List.append_assoc, ← List.append_assoc]
        exact List.Perm.append_right C List.perm_append_comm
      have hnd := hmixi.1
      rcases hmixi.2 val piece (fun j hj => by
          have hlj := hanl i o hi ho (.inl rfl) j hj
          exact hQ j (Nat.lt_trans (behind_lt hst ho (ancok_at hanc hi ho hj)) hi) hlj) hX with ⟨hmet, hop⟩ | ⟨hmet, hu, hq⟩
      · have hmet' := met_eq hag hmet
        refine rs_op ho2 (wanted_of_met hmet') B_kind (.inr (by revert hnd; cases o.op <;> simp [noDefer])) fun h hb => ?_
        rw [ev_toArray, exec_eq (ops := ops) hlooks.1 hag]
        rcases hop _ h (hpre h hb) with hx | ⟨g, args, hx, hc⟩
        · refine wpS_mono hx fun n' h' ⟨v', e', x, hq, hb'⟩ => ?_
          rcases e' with rfl | ⟨rfl, rfl⟩
          · show Reach P md (G ((F (B f r) tmc.toArray df _).finish v') cs) h' Stop
            rw [finish_region ho2, put_toArray]
            exact next v' x hq h' hb'
          · show Reach P md (G ((F (B f r) tmc.toArray df _).finish undef) cs) h' Stop
            rw [finish_region ho2, put_toArray]
            exact next undef x hq h' hb'
        · refine wpS_mono hx fun n' h' ⟨e', e2⟩ => ?_
          subst e'; subst e2
          refine hc _ _ _ fun v' h' ⟨x, hq, hb'⟩ => ?_
          rw [finish_region ho2, put_toArray]
          exact next v' x hq h' hb'
      · refine rs_pass ho2 (wanted_of_met (met_eq hag hmet)) ?_
        rw [put_toArray]
        intro h hb
        have := next undef [] hq h
        refine this ?_
        have := hpre h hb
        rw [hu] at this
        simpa using this
  intro h y
  refine main s _ tm (fun _ => undef) X ini hord (by simp) rfl (fun x hx => by obtain ⟨j, o, hj, hl, _⟩ := hx; simp [Array.getD] at hl) (fun _ _ => rfl) (fun j _ hl => by simp [Array.getD] at hl) (fun _ _ => rfl) k1
    (fun x => ⟨fun hx => ⟨.inl hx, fun k _ hl => by simp [Array.getD] at hl⟩, fun hx => hx.1.elim id fun a => by simp [Array.getD] at a⟩) (fun k _ hl => by simp [Array.getD] at hl) (fun k _ hl => by simp [Array.getD] at hl) h y

theorem opmix2 {i : Nat} {o : Oper} (x : ∀ val piece, (∀ j, (anc i).contains j = true → Qr anc Q val piece j (val j) (piece j)) → (∀ j ∈ ini, piece j = X j) →
    ∃ tm' U q, tmF val = tm' ∧ (use i).flatMap piece = U ∧ (∀ v x, q v x → Qr anc Q val piece i v x) ∧ Mix P md ops tm' h₀ B₀ p A U q o) : OpMix2 P md ops tmF h₀ B₀ p A ini X use anc Q i o := fun val piece hQ hX => by
  obtain ⟨tm', U, q, e1, e2, e3, h⟩ := x val piece hQ hX
  rw [e1, e2]
  rcases h with ⟨h1, h2⟩ | ⟨h1, h2, h3⟩
  · refine .inl ⟨h1, fun C h s => ?_⟩
    rcases h2 C h s with y | ⟨g, args, y, z⟩
    · exact .inl (wpS_mono y fun n h' ⟨v, a, x, b, c⟩ => ⟨v, a, x, e3 v x b, c⟩)
    · exact .inr ⟨g, args, y, z.mono fun v h' ⟨x, b, c⟩ => ⟨x, e3 v x b, c⟩⟩
  · exact .inr ⟨h1, h2, e3 _ _ h3⟩
/-- A new block. -/
theorem mix_alloc {dd : Nat} {T : TypeId} {z : Value} {cells : Array Value} {ty : TypeId} {pos : String} {aft : Array Edge} {gd : Option (Nat × Bool)} {tm' : List Value} {q : Value → Pcs → Prop} (hm : Met ops tm' ⟨some dd, .alloc T, ty, pos, aft, gd⟩ true) (hz : zeroT P T = some z) (hc : z.cells = cells)
    (hq : ∀ b, q (.pointer (some ⟨b, 0, none⟩)) [(b, .cells cells T (0, 0))]) : Mix P md ops tm' h₀ B₀ p A [] q ⟨some dd, .alloc T, ty, pos, aft, gd⟩ :=
  mix_ex hm fun C h s => by
    unfold Ex
    simp only [execOp]
    refine wpS_bind ?_
    unfold Instr.alloc
    refine wpS_bind (wpS_zeroValue hz ?_)
    simp only
    unfold newVar
    rw [hc]
    refine wpS_bind (wpS_newRow ?_)
    refine wpS_pure ?_
    exact wpS_pure ⟨_, rfl, _, hq _, s.push _⟩
end
theorem sk1 {α β γ1 : Type} [Nonempty γ1] (R : α → β → γ1 → Prop) : ∃ (G1 : α → β → γ1), ∀ a b, (∃ c1, R a b c1) → R a b (G1 a b) := by
  have key : ∀ ab : α × β, ∃ y : γ1, (∃ c1, R ab.1 ab.2 c1) → R ab.1 ab.2 (y) := fun ab => by
    by_cases h : ∃ c1, R ab.1 ab.2 c1
    · obtain ⟨c1, h⟩ := h
      exact ⟨c1, fun _ => h⟩
    · exact ⟨Classical.choice inferInstance, fun x => absurd x h⟩
  obtain ⟨G, hG⟩ := Classical.axiomOfChoice key
  exact ⟨fun a b => (G (a, b)), fun a b h => hG (a, b) h⟩
theorem sk4 {α β γ1 γ2 γ3 γ4 : Type} [Nonempty γ1] [Nonempty γ2] [Nonempty γ3] [Nonempty γ4] (R : α → β → γ1 → γ2 → γ3 → γ4 → Prop) : ∃ (G1 : α → β → γ1) (G2 : α → β → γ2) (G3 : α → β → γ3) (G4 : α → β → γ4), ∀ a b, (∃ c1 c2 c3 c4, R a b c1 c2 c3 c4) → R a b (G1 a b) (G2 a b) (G3 a b) (G4 a b) := by
  have key : ∀ ab : α × β, ∃ y : γ1 × γ2 × γ3 × γ4, (∃ c1 c2 c3 c4, R ab.1 ab.2 c1 c2 c3 c4) → R ab.1 ab.2 (y.1) (y.2.1) (y.2.2.1) (y.2.2.2) := fun ab => by
    by_cases h : ∃ c1 c2 c3 c4, R ab.1 ab.2 c1 c2 c3 c4
    · obtain ⟨c1, c2, c3, c4, h⟩ := h
      exact ⟨(c1, c2, c3, c4), fun _ => h⟩
    · exact ⟨(Classical.choice inferInstance, Classical.choice inferInstance, Classical.choice inferInstance, Classical.choice inferInstance), fun x => absurd x h⟩
  obtain ⟨G, hG⟩ := Classical.axiomOfChoice key
  exact ⟨fun a b => (G (a, b)).1, fun a b => (G (a, b)).2.1, fun a b => (G (a, b)).2.2.1, fun a b => (G (a, b)).2.2.2, fun a b h => hG (a, b) h⟩
theorem sk6 {α β γ1 γ2 γ3 γ4 γ5 γ6 : Type} [Nonempty γ1] [Nonempty γ2] [Nonempty γ3] [Nonempty γ4] [Nonempty γ5] [Nonempty γ6] (R : α → β → γ1 → γ2 → γ3 → γ4 → γ5 → γ6 → Prop) : ∃ (G1 : α → β → γ1) (G2 : α → β → γ2) (G3 : α → β → γ3) (G4 : α → β → γ4) (G5 : α → β → γ5) (G6 : α → β → γ6), ∀ a b, (∃ c1 c2 c3 c4 c5 c6, R a b c1 c2 c3 c4 c5 c6) → R a b (G1 a b) (G2 a b) (G3 a b) (G4 a b) (G5 a b) (G6 a b) := by
  have key : ∀ ab : α × β, ∃ y : γ1 × γ2 × γ3 × γ4 × γ5 × γ6, (∃ c1 c2 c3 c4 c5 c6, R ab.1 ab.2 c1 c2 c3 c4 c5 c6) → R ab.1 ab.2 (y.1) (y.2.1) (y.2.2.1) (y.2.2.2.1) (y.2.2.2.2.1) (y.2.2.2.2.2) := fun ab => by
    by_cases h : ∃ c1 c2 c3 c4 c5 c6, R ab.1 ab.2 c1 c2 c3 c4 c5 c6
    · obtain ⟨c1, c2, c3, c4, c5, c6, h⟩ := h
      exact ⟨(c1, c2, c3, c4, c5, c6), fun _ => h⟩
    · exact ⟨(Classical.choice inferInstance, Classical.choice inferInstance, Classical.choice inferInstance, Classical.choice inferInstance, Classical.choice inferInstance, Classical.choice inferInstance), fun x => absurd x h⟩
  obtain ⟨G, hG⟩ := Classical.axiomOfChoice key
  exact ⟨fun a b => (G (a, b)).1, fun a b => (G (a, b)).2.1, fun a b => (G (a, b)).2.2.1, fun a b => (G (a, b)).2.2.2.1, fun a b => (G (a, b)).2.2.2.2.1, fun a b => (G (a, b)).2.2.2.2.2, fun a b h => hG (a, b) h⟩
end Go.X
namespace Go.Proofs.Ytbmkacnlhlbnjaa
open Go.X Go.X.Cist Go.Conc
set_option maxRecDepth 10000

theorem c75 (md : Md) (h : Heap) (p : PHeap) (hp : Per p h) (size start : Int) (a : Option Addr) (n c : Nat) (ds : List Day) (D : Days p a n ds) (hn : n ≤ 40) (b : Option Addr) (m d : Nat) (xs : List Int) (W : Ints p b m xs) (hL : Lok size start ds) (hW : Weather ds xs) : CallsX Try.prog md 75 #[.agg #[.int .i64 (size), .int .i64 (start), .slice a n c], .slice b m d] h fun v h' => ∃ w1 w2 w3 X1 X2 X3, v = .agg #[w1, w2, w3] ∧ OwnS 3 1 w1 (ns (levs size start (wantOf ds) (listOf xs)) n) X1 ∧ OwnS 3 1 w2 (ns (lack size start (wantOf ds) (listOf xs)) n) X2 ∧ OwnS 3 1 w3 (ns (ovr size start (wantOf ds) (listOf xs)) n) X3 ∧ New h h' (X1 ++ (X2 ++ (X3 ++ []))) := by
  refine calls_intro (Φ := fun h_ => St h [] p h_ []) Try.func75 rfl (tm := [_, _, _, _, _, _, _, _, _, _, _, _, _, _, _, _, _, _, _, _, _, _, _, _, _, _, _, _, _, _, _, _, _, _, _, _, _, _, _, _, _, _, _, _, _, _, _, _, _, _, _, _, _, _, _, _, _, _, _, _, _, _, _, _, _, _, _, _, _, _]) rfl ?_ (St.start h _ hp)
  intro c₀ cs Stop K
  have hl := D.len
  have hm := W.len
  have hmn : m = n := by rw [← hl, ← hm]; exact hW.1
  refine fl_seq ?_
  refine rl_start ?_
  refine rl_box (met_none rfl) (v := .agg #[.int .i64 (size), .int .i64 (start), .slice a n c]) rfl fun b1 => rl_own (L' := [(b1, .cells #[.int .i64 (size), .int .i64 (start), .slice a n c] 24 (0, 0))]) rfl ?_
  refine rl_alloc (met_none rfl) tZ30 rfl fun b2 => rl_own (L' := [(b2, .cells #[.slice none 0 0, .slice none 0 0, .slice none 0 0] 30 (0, 0)), (b1, .cells #[.int .i64 (size), .int .i64 (start), .slice a n c] 24 (0, 0))]) rfl ?_
  refine rl_end ?_
  refine fl_seq ?_
  refine rl_start ?_
  refine rl_alloc (met_none rfl) tZ30 rfl fun b3 => rl_own (L' := [(b3, .cells #[.slice none 0 0, .slice none 0 0, .slice none 0 0] 30 (0, 0)), (b2, .cells #[.slice none 0 0, .slice none 0 0, .slice none 0 0] 30 (0, 0)), (b1, .cells #[.int .i64 (size), .int .i64 (start), .slice a n c] 24 (0, 0))]) rfl ?_
  refine rl_norm (tm' := _::_::_::_::_::_::_) rfl ?_
  refine rl_end ?_
  refine fl_seq ?_
  refine rl_start ?_
  refine rl_det (met_none rfl) (fun h_ H_ => exd_fieldAddr tF24_1 rfl (a' := ⟨b1, 1, none⟩) rfl) rfl ?_
  refine rl_det (met_none rfl) (fun h_ H_ => exd_load_own H_ tA3 rfl (i := 2) rfl (v := .int .i64 (start)) rfl) rfl ?_
  refine rl_det (met_none rfl) (fun h_ H_ => exd_assign (v := .int .i64 (start)) rfl) (tm' := _::_::_::_::_::_::_::_) rfl ?_
  refine rl_end ?_
  refine fl_seq ?_
  refine fl_seq ?_
  refine rl_start ?_
  refine rl_det (met_none rfl) (fun h_ H_ => exd_assign (v := .int .i64 0) rfl) rfl ?_
  refine rl_end ?_
  refine fl_block ?_
  refine fl_loop (m₀ := n - 0) (fun m_ tm_ h_ => ∃ (k : Nat) (w1 : Value) (w2 : Value) (w3 : Value) (X1 : Pcs) (X2 : Pcs) (X3 : Pcs), m_ = n - k ∧ (∃ y4 : Nat → Value, tm_ = [.agg #[.int .i64 (size), .int .i64 (start), .slice a n c], .slice b m d, .pointer (some ⟨b1, 0, none⟩), undef, .pointer (some ⟨b2, 0, none⟩), .pointer (some ⟨b3, 0, none⟩), .int .i64 (lev size start (wantOf ds) (listOf xs) k), .int .i64 (((k : Nat) : Int)), (y4 8), (y4 9), .pointer (some ⟨b1, 1, none⟩), .int .i64 (start), (y4 12), (y4 13), (y4 14), (y4 15), (y4 16), (y4 17), (y4 18), (y4 19), (y4 20), (y4 21), (y4 22), (y4 23), (y4 24), (y4 25), (y4 26), (y4 27), (y4 28), (y4 29), (y4 30), (y4 31), (y4 32), (y4 33), (y4 34), (y4 35), (y4 36), (y4 37), (y4 38), (y4 39), (y4 40), (y4 41), (y4 42), (y4 43), (y4 44), (y4 45), (y4 46), (y4 47), (y4 48), (y4 49), (y4 50), (y4 51), (y4 52), (y4 53), (y4 54), (y4 55), (y4 56), (y4 57), (y4 58), (y4 59), (y4 60), (y4 61), (y4 62), (y4 63), (y4 64), (y4 65), (y4 66), (y4 67), (y4 68), undef]) ∧ (k ≤ n) ∧ (OwnS 3 1 w1 (ns (levs size start (wantOf ds) (listOf xs)) k) X1) ∧ (OwnS 3 1 w2 (ns (lack size start (wantOf ds) (listOf xs)) k) X2) ∧ (OwnS 3 1 w3 (ns (ovr size start (wantOf ds) (listOf xs)) k) X3) ∧ St h [] p h_ (([(b3, .cells #[w1, w2, w3] 30 (0, 0)), (b2, .cells #[.slice none 0 0, .slice none 0 0, .slice none 0 0] 30 (0, 0)), (b1, .cells #[.int .i64 (size), .int .i64 (start), .slice a n c] 24 (0, 0))] : Pcs) ++ (X1 ++ (X2 ++ (X3 ++ []))))) (fun h_ H_ => ⟨0, _, _, _, [], [], [], rfl, (y_of rfl), Nat.zero_le _, OwnS.empty _ _, OwnS.empty _ _, OwnS.empty _ _, H_⟩) ?_
  intro m_ tm_ IH5
  refine rs_ex fun k => rs_ex fun w1 => rs_ex fun w2 => rs_ex fun w3 => rs_ex fun X1 => rs_ex fun X2 => rs_ex fun X3 => rs_and fun hm_ => rs_and fun ht_ => rs_and fun hk => rs_and fun o1 => rs_and fun o2 => rs_and fun o3 => ?_
  subst hm_; obtain ⟨y4, ht_⟩ := ht_; subst ht_
  have hd := lok_day hL hW (k := k) (by omega)
  refine fl_seq ?_
  refine fl_seq ?_
  refine rl_start ?_
  refine rl_det (met_none rfl) (fun h_ H_ => exd_move (v := .int .i64 (((k : Nat) : Int))) rfl) rfl ?_
  refine rl_det (met_none rfl) (fun h_ H_ => exd_move (v := .slice b m d) rfl) (tm' := _::_::_::_::_::_::_::_::_::_::_::_::_::_::_) rfl ?_
  refine rl_det (met_none rfl) (fun h_ H_ => exd_len Try.underlying25 rfl) rfl ?_
  refine rl_det (met_none rfl) (fun h_ H_ => exd_lss rfl rfl) rfl ?_
  refine rl_end ?_
  by_cases cc6 : ((k : Nat) : Int) < ((m : Nat) : Int)
  · refine fl_then rfl (decide_eq_true cc6) ?_
    refine fl_skip ?_
    refine fl_seq ?_
    refine fl_block ?_
    refine fl_seq ?_
    refine rl_start ?_
    refine rl_det (met_none rfl) (fun h_ H_ => exd_move (v := .int .i64 (lev size start (wantOf ds) (listOf xs) k)) rfl) (tm' := _::_::_::_::_::_::_::_::_::_::_::_::_::_::_::_::_::_::_::_) rfl ?_
    refine rl_det (met_none rfl) (fun h_ H_ => exd_move (v := .slice b m d) rfl) rfl ?_
    refine rl_det (met_none rfl) (fun h_ H_ => exd_move (v := .int .i64 (((k : Nat) : Int))) rfl) rfl ?_
    refine rl_det (met_none rfl) (fun h_ H_ => exd_indexAddrN (i := k) Try.underlying25 tS3 (sl_ne b m d (W.ne (by omega))) rfl (by omega)) (tm' := _::_::_::_::_::_::_::_::_::_::_::_::_::_::_::_::_::_::_::_::_::_::_) rfl ?_
    refine rl_det (met_none rfl) (fun h_ H_ => exd_load_per H_ tA3 rfl (v := .int .i64 (xs.getD k 0)) (W.get (by omega))) rfl ?_
    refine rl_det (met_none rfl) (fun h_ H_ => exd_add rfl rfl (wr (by omega))) rfl ?_
    refine rl_det (met_none rfl) (fun h_ H_ => exd_assign (v := .int .i64 ((lev size start (wantOf ds) (listOf xs) k) + (xs.getD k 0))) rfl) (tm' := _::_::_::_::_::_::_::_) rfl ?_
    refine rl_end ?_
    refine fl_seq ?_
    refine rl_start ?_
    refine rl_det (met_none rfl) (fun h_ H_ => exd_move (v := .int .i64 ((lev size start (wantOf ds) (listOf xs) k) + (xs.getD k 0))) rfl) rfl ?_
    refine rl_det (met_none rfl) (fun h_ H_ => exd_fieldAddr tF24_0 rfl (a' := ⟨b1, 0, none⟩) rfl) rfl ?_
    refine rl_det (met_none rfl) (fun h_ H_ => exd_load_own H_ tA3 rfl (i := 2) rfl (v := .int .i64 (size)) rfl) (tm' := _::_::_::_::_::_::_::_::_::_::_::_::_::_::_::_::_::_::_::_::_::_::_::_::_::_::_::_) rfl ?_
    refine rl_det (met_none rfl) (fun h_ H_ => exd_sub rfl rfl (wr (by omega))) rfl ?_
    refine rl_det (met_none rfl) (fun h_ H_ => exd_max rfl rfl) rfl ?_
    refine rl_det (met_none rfl) (fun h_ H_ => exd_assign (v := .int .i64 (max 0 (((lev size start (wantOf ds) (listOf xs) k) + (xs.getD k 0)) - size))) rfl) (tm' := _::_::_::_::_::_::_::_::_::_) rfl ?_
    refine rl_end ?_
    refine fl_seq ?_
    refine rl_start ?_
    refine rl_det (met_none rfl) (fun h_ H_ => exd_move (v := .int .i64 ((lev size start (wantOf ds) (listOf xs) k) + (xs.getD k 0))) rfl) rfl ?_
    refine rl_det (met_none rfl) (fun h_ H_ => exd_move (v := .int .i64 (max 0 (((lev size start (wantOf ds) (listOf xs) k) + (xs.getD k 0)) - size))) rfl) rfl ?_
    refine rl_det (met_none rfl) (fun h_ H_ => exd_sub rfl rfl (wr (by omega))) (tm' := _::_::_::_::_::_::_::_::_::_::_::_::_::_::_::_::_::_::_::_::_::_::_::_::_::_::_::_::_::_::_::_::_) rfl ?_
    refine rl_det (met_none rfl) (fun h_ H_ => exd_assign (v := .int .i64 (((lev size start (wantOf ds) (listOf xs) k) + (xs.getD k 0)) - (max 0 (((lev size start (wantOf ds) (listOf xs) k) + (xs.getD k 0)) - size)))) rfl) rfl ?_
    refine rl_end ?_
    refine fl_seq ?_
    refine rl_start ?_
    refine rl_det (met_none rfl) (fun h_ H_ => exd_fieldAddr tF24_2 rfl (a' := ⟨b1, 2, none⟩) rfl) rfl ?_
    refine rl_det (met_none rfl) (fun h_ H_ => exd_load_own H_ tA22 rfl (i := 2) rfl (v := .slice a n c) rfl) (tm' := _::_::_::_::_::_::_::_::_::_::_::_::_::_::_::_::_::_::_::_::_::_::_::_::_::_::_::_::_::_::_::_::_::_::_) rfl ?_
    refine rl_det (met_none rfl) (fun h_ H_ => exd_move (v := .int .i64 (((k : Nat) : Int))) rfl) rfl ?_
    refine rl_det (met_none rfl) (fun h_ H_ => exd_indexAddrN (i := k) Try.underlying22 tS38 (sl_ne a n c (D.ne (by omega))) rfl (by omega)) rfl ?_
    refine rl_det (met_none rfl) (fun h_ H_ => exd_fieldAddr tF38_1 rfl (a' := ((adr a).add (k * 3)).add 2) rfl) (tm' := _::_::_::_::_::_::_::_::_::_::_::_::_::_::_::_::_::_::_::_::_::_::_::_::_::_::_::_::_::_::_::_::_::_::_::_::_::_) rfl ?_
    refine rl_det (met_none rfl) (fun h_ H_ => exd_load_per H_ tA3 rfl (v := .int .i64 ((ds.getD k dz).want)) (D.want (by omega))) rfl ?_
    refine rl_det (met_none rfl) (fun h_ H_ => exd_move (v := .int .i64 (((lev size start (wantOf ds) (listOf xs) k) + (xs.getD k 0)) - (max 0 (((lev size start (wantOf ds) (listOf xs) k) + (xs.getD k 0)) - size)))) rfl) rfl ?_
    refine rl_det (met_none rfl) (fun h_ H_ => exd_sub rfl rfl (wr (by omega))) (tm' := _::_::_::_::_::_::_::_::_::_::_::_::_::_::_::_::_::_::_::_::_::_::_::_::_::_::_::_::_::_::_::_::_::_::_::_::_::_::_::_::_) rfl ?_
    refine rl_det (met_none rfl) (fun h_ H_ => exd_max rfl rfl) rfl ?_
    refine rl_det (met_none rfl) (fun h_ H_ => exd_assign (v := .int .i64 (max 0 (((ds.getD k dz).want) - (((lev size start (wantOf ds) (listOf xs) k) + (xs.getD k 0)) - (max 0 (((lev size start (wantOf ds) (listOf xs) k) + (xs.getD k 0)) - size)))))) rfl) rfl ?_
    refine rl_end ?_
    refine fl_seq ?_
    refine rl_start ?_
    refine rl_det (met_none rfl) (fun h_ H_ => exd_move (v := .int .i64 (((lev size start (wantOf ds) (listOf xs) k) + (xs.getD k 0)) - (max 0 (((lev size start (wantOf ds) (listOf xs) k) + (xs.getD k 0)) - size)))) rfl) (tm' := _::_::_::_::_::_::_::_::_::_::_::_::_::_::_::_::_::_::_::_::_::_::_::_::_::_::_::_::_::_::_::_::_::_::_::_::_::_::_::_::_::_::_) rfl ?_
    refine rl_det (met_none rfl) (fun h_ H_ => exd_fieldAddr tF24_2 rfl (a' := ⟨b1, 2, none⟩) rfl) rfl ?_
    refine rl_det (met_none rfl) (fun h_ H_ => exd_load_own H_ tA22 rfl (i := 2) rfl (v := .slice a n c) rfl) rfl ?_
    refine rl_det (met_none rfl) (fun h_ H_ => exd_move (v := .int .i64 (((k : Nat) : Int))) rfl) (tm' := _::_::_::_::_::_::_::_::_::_::_::_::_::_::_::_::_::_::_::_::_::_::_::_::_::_::_::_::_::_::_::_::_::_::_::_::_::_::_::_::_::_::_::_::_::_) rfl ?_
    refine rl_det (met_none rfl) (fun h_ H_ => exd_indexAddrN (i := k) Try.underlying22 tS38 (sl_ne a n c (D.ne (by omega))) rfl (by omega)) rfl ?_
    refine rl_det (met_none rfl) (fun h_ H_ => exd_fieldAddr tF38_1 rfl (a' := ((adr a).add (k * 3)).add 2) rfl) rfl ?_
    refine rl_det (met_none rfl) (fun h_ H_ => exd_load_per H_ tA3 rfl (v := .int .i64 ((ds.getD k dz).want)) (D.want (by omega))) (tm' := [_,_,_,_,_,_,_,_,_,_,_,_,_,_,_,_,_,_,_,_,_,_,_,_,_,_,_,_,_,_,_,_,_,_,_,_,_,_,_,_,_,_,_,_,_,_,_,_,_,_,_,_,_,_,_,_,_,_,_,_,_,_,_,_,_,_,_,_,_,_]) rfl ?_
    refine rl_det (met_none rfl) (fun h_ H_ => exd_move (v := .int .i64 (max 0 (((ds.getD k dz).want) - (((lev size start (wantOf ds) (listOf xs) k) + (xs.getD k 0)) - (max 0 (((lev size start (wantOf ds) (listOf xs) k) + (xs.getD k 0)) - size)))))) rfl) rfl ?_
    refine rl_det (met_none rfl) (fun h_ H_ => exd_sub rfl rfl (wr (by omega))) rfl ?_
    refine rl_det (met_none rfl) (fun h_ H_ => exd_sub rfl rfl (wr (by omega))) (tm' := [_,_,_,_,_,_,_,_,_,_,_,_,_,_,_,_,_,_,_,_,_,_,_,_,_,_,_,_,_,_,_,_,_,_,_,_,_,_,_,_,_,_,_,_,_,_,_,_,_,_,_,_,_,_,_,_,_,_,_,_,_,_,_,_,_,_,_,_,_,_]) rfl ?_
    refine rl_det (met_none rfl) (fun h_ H_ => exd_assign (v := .int .i64 ((((lev size start (wantOf ds) (listOf xs) k) + (xs.getD k 0)) - (max 0 (((lev size start (wantOf ds) (listOf xs) k) + (xs.getD k 0)) - size))) - (((ds.getD k dz).want) - (max 0 (((ds.getD k dz).want) - (((lev size start (wantOf ds) (listOf xs) k) + (xs.getD k 0)) - (max 0 (((lev size start (wantOf ds) (listOf xs) k) + (xs.getD k 0)) - size)))))))) rfl) rfl ?_
    refine rl_end ?_
    refine rs_as (fl_mixed (C := []) (A := ([(b3, .cells #[w1, w2, w3] 30 (0, 0)), (b2, .cells #[.slice none 0 0, .slice none 0 0, .slice none 0 0] 30 (0, 0)), (b1, .cells #[.int .i64 (size), .int .i64 (start), .slice a n c] 24 (0, 0))] : Pcs)) 16 [[], [], [], [], [], [], [], [], [7], [7, 8], [], [], [], [12], [7, 8, 9, 12, 13], [], [12, 13, 14], [12, 13, 14], [], [], []] [16, 17, 18] [4, 9, 14] [0, 1, 2, 5, 6, 7, 10, 11, 12, 15] (fun i_ => match i_ with | 16 => X1 | 17 => X2 | 18 => X3 | _ => []) (fun i_ => match i_ with | 4 => [16, 3] | 9 => [17, 8] | 14 => [18, 13] | _ => []) (fun i_ v_ x_ => match i_ with | 0 => v_ = .pointer (some ⟨b3, 0, none⟩) ∧ x_ = [] | 1 => v_ = w1 ∧ x_ = [] | 2 => v_ = .int .i64 ((((lev size start (wantOf ds) (listOf xs) k) + (xs.getD k 0)) - (max 0 (((lev size start (wantOf ds) (listOf xs) k) + (xs.getD k 0)) - size))) - (((ds.getD k dz).want) - (max 0 (((ds.getD k dz).want) - (((lev size start (wantOf ds) (listOf xs) k) + (xs.getD k 0)) - (max 0 (((lev size start (wantOf ds) (listOf xs) k) + (xs.getD k 0)) - size))))))) ∧ x_ = [] | 3 => OwnS 3 1 v_ [[.int .i64 ((((lev size start (wantOf ds) (listOf xs) k) + (xs.getD k 0)) - (max 0 (((lev size start (wantOf ds) (listOf xs) k) + (xs.getD k 0)) - size))) - (((ds.getD k dz).want) - (max 0 (((ds.getD k dz).want) - (((lev size start (wantOf ds) (listOf xs) k) + (xs.getD k 0)) - (max 0 (((lev size start (wantOf ds) (listOf xs) k) + (xs.getD k 0)) - size)))))))]] x_ | 4 => OwnS 3 1 v_ (ns (levs size start (wantOf ds) (listOf xs)) k ++ [[.int .i64 ((((lev size start (wantOf ds) (listOf xs) k) + (xs.getD k 0)) - (max 0 (((lev size start (wantOf ds) (listOf xs) k) + (xs.getD k 0)) - size))) - (((ds.getD k dz).want) - (max 0 (((ds.getD k dz).want) - (((lev size start (wantOf ds) (listOf xs) k) + (xs.getD k 0)) - (max 0 (((lev size start (wantOf ds) (listOf xs) k) + (xs.getD k 0)) - size)))))))]]) x_ | 5 => v_ = .pointer (some ⟨b3, 1, none⟩) ∧ x_ = [] | 6 => v_ = w2 ∧ x_ = [] | 7 => v_ = .int .i64 (max 0 (((ds.getD k dz).want) - (((lev size start (wantOf ds) (listOf xs) k) + (xs.getD k 0)) - (max 0 (((lev size start (wantOf ds) (listOf xs) k) + (xs.getD k 0)) - size))))) ∧ x_ = [] | 8 => OwnS 3 1 v_ [[.int .i64 (max 0 (((ds.getD k dz).want) - (((lev size start (wantOf ds) (listOf xs) k) + (xs.getD k 0)) - (max 0 (((lev size start (wantOf ds) (listOf xs) k) + (xs.getD k 0)) - size)))))]] x_ | 9 => OwnS 3 1 v_ (ns (lack size start (wantOf ds) (listOf xs)) k ++ [[.int .i64 (max 0 (((ds.getD k dz).want) - (((lev size start (wantOf ds) (listOf xs) k) + (xs.getD k 0)) - (max 0 (((lev size start (wantOf ds) (listOf xs) k) + (xs.getD k 0)) - size)))))]]) x_ | 10 => v_ = .pointer (some ⟨b3, 2, none⟩) ∧ x_ = [] | 11 => v_ = w3 ∧ x_ = [] | 12 => v_ = .int .i64 (max 0 (((lev size start (wantOf ds) (listOf xs) k) + (xs.getD k 0)) - size)) ∧ x_ = [] | 13 => OwnS 3 1 v_ [[.int .i64 (max 0 (((lev size start (wantOf ds) (listOf xs) k) + (xs.getD k 0)) - size))]] x_ | 14 => OwnS 3 1 v_ (ns (ovr size start (wantOf ds) (listOf xs)) k ++ [[.int .i64 (max 0 (((lev size start (wantOf ds) (listOf xs) k) + (xs.getD k 0)) - size))]]) x_ | 15 => v_ = .pointer (some ⟨b3, 0, none⟩) ∧ x_ = [] | _ => True) (fun val7 => [.agg #[.int .i64 (size), .int .i64 (start), .slice a n c], .slice b m d, .pointer (some ⟨b1, 0, none⟩), undef, .pointer (some ⟨b2, 0, none⟩), .pointer (some ⟨b3, 0, none⟩), .int .i64 ((((lev size start (wantOf ds) (listOf xs) k) + (xs.getD k 0)) - (max 0 (((lev size start (wantOf ds) (listOf xs) k) + (xs.getD k 0)) - size))) - (((ds.getD k dz).want) - (max 0 (((ds.getD k dz).want) - (((lev size start (wantOf ds) (listOf xs) k) + (xs.getD k 0)) - (max 0 (((lev size start (wantOf ds) (listOf xs) k) + (xs.getD k 0)) - size))))))), .int .i64 (((k : Nat) : Int)), .int .i64 (max 0 (((lev size start (wantOf ds) (listOf xs) k) + (xs.getD k 0)) - size)), .int .i64 (max 0 (((ds.getD k dz).want) - (((lev size start (wantOf ds) (listOf xs) k) + (xs.getD k 0)) - (max 0 (((lev size start (wantOf ds) (listOf xs) k) + (xs.getD k 0)) - size))))), .pointer (some ⟨b1, 1, none⟩), .int .i64 (start), .int .i64 (((k : Nat) : Int)), .slice b m d, .int .i64 (((m : Nat) : Int)), .bool (decide (((k : Nat) : Int) < ((m : Nat) : Int))), (y4 16), (y4 17), .int .i64 (lev size start (wantOf ds) (listOf xs) k), .slice b m d, .int .i64 (((k : Nat) : Int)), .pointer (some ((adr b).add (k * 1))), .int .i64 (xs.getD k 0), .int .i64 ((lev size start (wantOf ds) (listOf xs) k) + (xs.getD k 0)), .int .i64 ((lev size start (wantOf ds) (listOf xs) k) + (xs.getD k 0)), .pointer (some ⟨b1, 0, none⟩), .int .i64 (size), .int .i64 (((lev size start (wantOf ds) (listOf xs) k) + (xs.getD k 0)) - size), .int .i64 (max 0 (((lev size start (wantOf ds) (listOf xs) k) + (xs.getD k 0)) - size)), .int .i64 ((lev size start (wantOf ds) (listOf xs) k) + (xs.getD k 0)), .int .i64 (max 0 (((lev size start (wantOf ds) (listOf xs) k) + (xs.getD k 0)) - size)), .int .i64 (((lev size start (wantOf ds) (listOf xs) k) + (xs.getD k 0)) - (max 0 (((lev size start (wantOf ds) (listOf xs) k) + (xs.getD k 0)) - size))), .pointer (some ⟨b1, 2, none⟩), .slice a n c, .int .i64 (((k : Nat) : Int)), .pointer (some ((adr a).add (k * 3))), .pointer (some (((adr a).add (k * 3)).add 2)), .int .i64 ((ds.getD k dz).want), .int .i64 (((lev size start (wantOf ds) (listOf xs) k) + (xs.getD k 0)) - (max 0 (((lev size start (wantOf ds) (listOf xs) k) + (xs.getD k 0)) - size))), .int .i64 (((ds.getD k dz).want) - (((lev size start (wantOf ds) (listOf xs) k) + (xs.getD k 0)) - (max 0 (((lev size start (wantOf ds) (listOf xs) k) + (xs.getD k 0)) - size)))), .int .i64 (max 0 (((ds.getD k dz).want) - (((lev size start (wantOf ds) (listOf xs) k) + (xs.getD k 0)) - (max 0 (((lev size start (wantOf ds) (listOf xs) k) + (xs.getD k 0)) - size))))), .int .i64 (((lev size start (wantOf ds) (listOf xs) k) + (xs.getD k 0)) - (max 0 (((lev size start (wantOf ds) (listOf xs) k) + (xs.getD k 0)) - size))), .pointer (some ⟨b1, 2, none⟩), .slice a n c, .int .i64 (((k : Nat) : Int)), .pointer (some ((adr a).add (k * 3))), .pointer (some (((adr a).add (k * 3)).add 2)), .int .i64 ((ds.getD k dz).want), .int .i64 (max 0 (((ds.getD k dz).want) - (((lev size start (wantOf ds) (listOf xs) k) + (xs.getD k 0)) - (max 0 (((lev size start (wantOf ds) (listOf xs) k) + (xs.getD k 0)) - size))))), .int .i64 (((ds.getD k dz).want) - (max 0 (((ds.getD k dz).want) - (((lev size start (wantOf ds) (listOf xs) k) + (xs.getD k 0)) - (max 0 (((lev size start (wantOf ds) (listOf xs) k) + (xs.getD k 0)) - size)))))), .int .i64 ((((lev size start (wantOf ds) (listOf xs) k) + (xs.getD k 0)) - (max 0 (((lev size start (wantOf ds) (listOf xs) k) + (xs.getD k 0)) - size))) - (((ds.getD k dz).want) - (max 0 (((ds.getD k dz).want) - (((lev size start (wantOf ds) (listOf xs) k) + (xs.getD k 0)) - (max 0 (((lev size start (wantOf ds) (listOf xs) k) + (xs.getD k 0)) - size))))))), (val7 0), (val7 1), (val7 2), (val7 3), (val7 4), (val7 5), (val7 6), (val7 7), (val7 8), (val7 9), (val7 10), (val7 11), (val7 12), (val7 13), (val7 14), (val7 15), (y4 67), (y4 68), undef]) mixed (by kernel_rfl) (Nat.le_of_ble_eq_true rfl) (by kernel_rfl) (by kernel_rfl) ⟨fun _ _ h => h.2, ⟨fun _ _ h => h.2, ⟨fun _ _ h => h.2, ⟨fun _ _ h => h.2, ⟨fun _ _ h => h.2, ⟨fun _ _ h => h.2, ⟨fun _ _ h => h.2, ⟨fun _ _ h => h.2, ⟨fun _ _ h => h.2, ⟨fun _ _ h => h.2, trivial⟩⟩⟩⟩⟩⟩⟩⟩⟩⟩ (fun _ => by kernel_rfl) (by kernel_rfl) ?_ ?_) (fun h_ H_ => St.swap (A := ([(b3, .cells #[w1, w2, w3] 30 (0, 0)), (b2, .cells #[.slice none 0 0, .slice none 0 0, .slice none 0 0] 30 (0, 0)), (b1, .cells #[.int .i64 (size), .int .i64 (start), .slice a n c] 24 (0, 0))] : Pcs)) (U := (X1 ++ (X2 ++ (X3 ++ [])))) H_)
    · refine mixes_cons rfl (opmix ?_) ?_
      · intro val7 pc8 hQ_ hX_
        refine ⟨[.agg #[.int .i64 (size), .int .i64 (start), .slice a n c], .slice b m d, .pointer (some ⟨b1, 0, none⟩), undef, .pointer (some ⟨b2, 0, none⟩), .pointer (some ⟨b3, 0, none⟩), .int .i64 ((((lev size start (wantOf ds) (listOf xs) k) + (xs.getD k 0)) - (max 0 (((lev size start (wantOf ds) (listOf xs) k) + (xs.getD k 0)) - size))) - (((ds.getD k dz).want) - (max 0 (((ds.getD k dz).want) - (((lev size start (wantOf ds) (listOf xs) k) + (xs.getD k 0)) - (max 0 (((lev size start (wantOf ds) (listOf xs) k) + (xs.getD k 0)) - size))))))), .int .i64 (((k : Nat) : Int)), .int .i64 (max 0 (((lev size start (wantOf ds) (listOf xs) k) + (xs.getD k 0)) - size)), .int .i64 (max 0 (((ds.getD k dz).want) - (((lev size start (wantOf ds) (listOf xs) k) + (xs.getD k 0)) - (max 0 (((lev size start (wantOf ds) (listOf xs) k) + (xs.getD k 0)) - size))))), .pointer (some ⟨b1, 1, none⟩), .int .i64 (start), .int .i64 (((k : Nat) : Int)), .slice b m d, .int .i64 (((m : Nat) : Int)), .bool (decide (((k : Nat) : Int) < ((m : Nat) : Int))), (y4 16), (y4 17), .int .i64 (lev size start (wantOf ds) (listOf xs) k), .slice b m d, .int .i64 (((k : Nat) : Int)), .pointer (some ((adr b).add (k * 1))), .int .i64 (xs.getD k 0), .int .i64 ((lev size start (wantOf ds) (listOf xs) k) + (xs.getD k 0)), .int .i64 ((lev size start (wantOf ds) (listOf xs) k) + (xs.getD k 0)), .pointer (some ⟨b1, 0, none⟩), .int .i64 (size), .int .i64 (((lev size start (wantOf ds) (listOf xs) k) + (xs.getD k 0)) - size), .int .i64 (max 0 (((lev size start (wantOf ds) (listOf xs) k) + (xs.getD k 0)) - size)), .int .i64 ((lev size start (wantOf ds) (listOf xs) k) + (xs.getD k 0)), .int .i64 (max 0 (((lev size start (wantOf ds) (listOf xs) k) + (xs.getD k 0)) - size)), .int .i64 (((lev size start (wantOf ds) (listOf xs) k) + (xs.getD k 0)) - (max 0 (((lev size start (wantOf ds) (listOf xs) k) + (xs.getD k 0)) - size))), .pointer (some ⟨b1, 2, none⟩), .slice a n c, .int .i64 (((k : Nat) : Int)), .pointer (some ((adr a).add (k * 3))), .pointer (some (((adr a).add (k * 3)).add 2)), .int .i64 ((ds.getD k dz).want), .int .i64 (((lev size start (wantOf ds) (listOf xs) k) + (xs.getD k 0)) - (max 0 (((lev size start (wantOf ds) (listOf xs) k) + (xs.getD k 0)) - size))), .int .i64 (((ds.getD k dz).want) - (((lev size start (wantOf ds) (listOf xs) k) + (xs.getD k 0)) - (max 0 (((lev size start (wantOf ds) (listOf xs) k) + (xs.getD k 0)) - size)))), .int .i64 (max 0 (((ds.getD k dz).want) - (((lev size start (wantOf ds) (listOf xs) k) + (xs.getD k 0)) - (max 0 (((lev size start (wantOf ds) (listOf xs) k) + (xs.getD k 0)) - size))))), .int .i64 (((lev size start (wantOf ds) (listOf xs) k) + (xs.getD k 0)) - (max 0 (((lev size start (wantOf ds) (listOf xs) k) + (xs.getD k 0)) - size))), .pointer (some ⟨b1, 2, none⟩), .slice a n c, .int .i64 (((k : Nat) : Int)), .pointer (some ((adr a).add (k * 3))), .pointer (some (((adr a).add (k * 3)).add 2)), .int .i64 ((ds.getD k dz).want), .int .i64 (max 0 (((ds.getD k dz).want) - (((lev size start (wantOf ds) (listOf xs) k) + (xs.getD k 0)) - (max 0 (((lev size start (wantOf ds) (listOf xs) k) + (xs.getD k 0)) - size))))), .int .i64 (((ds.getD k dz).want) - (max 0 (((ds.getD k dz).want) - (((lev size start (wantOf ds) (listOf xs) k) + (xs.getD k 0)) - (max 0 (((lev size start (wantOf ds) (listOf xs) k) + (xs.getD k 0)) - size)))))), .int .i64 ((((lev size start (wantOf ds) (listOf xs) k) + (xs.getD k 0)) - (max 0 (((lev size start (wantOf ds) (listOf xs) k) + (xs.getD k 0)) - size))) - (((ds.getD k dz).want) - (max 0 (((ds.getD k dz).want) - (((lev size start (wantOf ds) (listOf xs) k) + (xs.getD k 0)) - (max 0 (((lev size start (wantOf ds) (listOf xs) k) + (xs.getD k 0)) - size))))))), (val7 0), (val7 1), (val7 2), (val7 3), (val7 4), (val7 5), (val7 6), (val7 7), (val7 8), (val7 9), (val7 10), (val7 11), (val7 12), (val7 13), (val7 14), (val7 15), (y4 67), (y4 68), undef], [], rfl, rfl, ?_⟩
        exact mix_det (met_none rfl) (fun _ h_ H_ => exd_fieldAddr tF30_0 rfl (a' := ⟨b3, 0, none⟩) rfl) ⟨rfl, rfl⟩
      refine mixes_cons rfl (opmix ?_) ?_
      · intro val7 pc8 hQ_ hX_
        have e0_ : val7 0 = .pointer (some ⟨b3, 0, none⟩) := (hQ_ 0 rfl).1
        refine ⟨[.agg #[.int .i64 (size), .int .i64 (start), .slice a n c], .slice b m d, .pointer (some ⟨b1, 0, none⟩), undef, .pointer (some ⟨b2, 0, none⟩), .pointer (some ⟨b3, 0, none⟩), .int .i64 ((((lev size start (wantOf ds) (listOf xs) k) + (xs.getD k 0)) - (max 0 (((lev size start (wantOf ds) (listOf xs) k) + (xs.getD k 0)) - size))) - (((ds.getD k dz).want) - (max 0 (((ds.getD k dz).want) - (((lev size start (wantOf ds) (listOf xs) k) + (xs.getD k 0)) - (max 0 (((lev size start (wantOf ds) (listOf xs) k) + (xs.getD k 0)) - size))))))), .int .i64 (((k : Nat) : Int)), .int .i64 (max 0 (((lev size start (wantOf ds) (listOf xs) k) + (xs.getD k 0)) - size)), .int .i64 (max 0 (((ds.getD k dz).want) - (((lev size start (wantOf ds) (listOf xs) k) + (xs.getD k 0)) - (max 0 (((lev size start (wantOf ds) (listOf xs) k) + (xs.getD k 0)) - size))))), .pointer (some ⟨b1, 1, none⟩), .int .i64 (start), .int .i64 (((k : Nat) : Int)), .slice b m d, .int .i64 (((m : Nat) : Int)), .bool (decide (((k : Nat) : Int) < ((m : Nat) : Int))), (y4 16), (y4 17), .int .i64 (lev size start (wantOf ds) (listOf xs) k), .slice b m d, .int .i64 (((k : Nat) : Int)), .pointer (some ((adr b).add (k * 1))), .int .i64 (xs.getD k 0), .int .i64 ((lev size start (wantOf ds) (listOf xs) k) + (xs.getD k 0)), .int .i64 ((lev size start (wantOf ds) (listOf xs) k) + (xs.getD k 0)), .pointer (some ⟨b1, 0, none⟩), .int .i64 (size), .int .i64 (((lev size start (wantOf ds) (listOf xs) k) + (xs.getD k 0)) - size), .int .i64 (max 0 (((lev size start (wantOf ds) (listOf xs) k) + (xs.getD k 0)) - size)), .int .i64 ((lev size start (wantOf ds) (listOf xs) k) + (xs.getD k 0)), .int .i64 (max 0 (((lev size start (wantOf ds) (listOf xs) k) + (xs.getD k 0)) - size)), .int .i64 (((lev size start (wantOf ds) (listOf xs) k) + (xs.getD k 0)) - (max 0 (((lev size start (wantOf ds) (listOf xs) k) + (xs.getD k 0)) - size))), .pointer (some ⟨b1, 2, none⟩), .slice a n c, .int .i64 (((k : Nat) : Int)), .pointer (some ((adr a).add (k * 3))), .pointer (some (((adr a).add (k * 3)).add 2)), .int .i64 ((ds.getD k dz).want), .int .i64 (((lev size start (wantOf ds) (listOf xs) k) + (xs.getD k 0)) - (max 0 (((lev size start (wantOf ds) (listOf xs) k) + (xs.getD k 0)) - size))), .int .i64 (((ds.getD k dz).want) - (((lev size start (wantOf ds) (listOf xs) k) + (xs.getD k 0)) - (max 0 (((lev size start (wantOf ds) (listOf xs) k) + (xs.getD k 0)) - size)))), .int .i64 (max 0 (((ds.getD k dz).want) - (((lev size start (wantOf ds) (listOf xs) k) + (xs.getD k 0)) - (max 0 (((lev size start (wantOf ds) (listOf xs) k) + (xs.getD k 0)) - size))))), .int .i64 (((lev size start (wantOf ds) (listOf xs) k) + (xs.getD k 0)) - (max 0 (((lev size start (wantOf ds) (listOf xs) k) + (xs.getD k 0)) - size))), .pointer (some ⟨b1, 2, none⟩), .slice a n c, .int .i64 (((k : Nat) : Int)), .pointer (some ((adr a).add (k * 3))), .pointer (some (((adr a).add (k * 3)).add 2)), .int .i64 ((ds.getD k dz).want), .int .i64 (max 0 (((ds.getD k dz).want) - (((lev size start (wantOf ds) (listOf xs) k) + (xs.getD k 0)) - (max 0 (((lev size start (wantOf ds) (listOf xs) k) + (xs.getD k 0)) - size))))), .int .i64 (((ds.getD k dz).want) - (max 0 (((ds.getD k dz).want) - (((lev size start (wantOf ds) (listOf xs) k) + (xs.getD k 0)) - (max 0 (((lev size start (wantOf ds) (listOf xs) k) + (xs.getD k 0)) - size)))))), .int .i64 ((((lev size start (wantOf ds) (listOf xs) k) + (xs.getD k 0)) - (max 0 (((lev size start (wantOf ds) (listOf xs) k) + (xs.getD k 0)) - size))) - (((ds.getD k dz).want) - (max 0 (((ds.getD k dz).want) - (((lev size start (wantOf ds) (listOf xs) k) + (xs.getD k 0)) - (max 0 (((lev size start (wantOf ds) (listOf xs) k) + (xs.getD k 0)) - size))))))), .pointer (some ⟨b3, 0, none⟩), (val7 1), (val7 2), (val7 3), (val7 4), (val7 5), (val7 6), (val7 7), (val7 8), (val7 9), (val7 10), (val7 11), (val7 12), (val7 13), (val7 14), (val7 15), (y4 67), (y4 68), undef], [], (by simp only [e0_]), rfl, ?_⟩
        exact mix_det (met_none rfl) (fun _ h_ H_ => exd_load_own H_ tA25 rfl (i := 0) rfl (v := w1) rfl) ⟨rfl, rfl⟩
      refine mixes_cons rfl (opmix ?_) ?_
      · intro val7 pc8 hQ_ hX_
        refine ⟨[.agg #[.int .i64 (size), .int .i64 (start), .slice a n c], .slice b m d, .pointer (some ⟨b1, 0, none⟩), undef, .pointer (some ⟨b2, 0, none⟩), .pointer (some ⟨b3, 0, none⟩), .int .i64 ((((lev size start (wantOf ds) (listOf xs) k) + (xs.getD k 0)) - (max 0 (((lev size start (wantOf ds) (listOf xs) k) + (xs.getD k 0)) - size))) - (((ds.getD k dz).want) - (max 0 (((ds.getD k dz).want) - (((lev size start (wantOf ds) (listOf xs) k) + (xs.getD k 0)) - (max 0 (((lev size start (wantOf ds) (listOf xs) k) + (xs.getD k 0)) - size))))))), .int .i64 (((k : Nat) : Int)), .int .i64 (max 0 (((lev size start (wantOf ds) (listOf xs) k) + (xs.getD k 0)) - size)), .int .i64 (max 0 (((ds.getD k dz).want) - (((lev size start (wantOf ds) (listOf xs) k) + (xs.getD k 0)) - (max 0 (((lev size start (wantOf ds) (listOf xs) k) + (xs.getD k 0)) - size))))), .pointer (some ⟨b1, 1, none⟩), .int .i64 (start), .int .i64 (((k : Nat) : Int)), .slice b m d, .int .i64 (((m : Nat) : Int)), .bool (decide (((k : Nat) : Int) < ((m : Nat) : Int))), (y4 16), (y4 17), .int .i64 (lev size start (wantOf ds) (listOf xs) k), .slice b m d, .int .i64 (((k : Nat) : Int)), .pointer (some ((adr b).add (k * 1))), .int .i64 (xs.getD k 0), .int .i64 ((lev size start (wantOf ds) (listOf xs) k) + (xs.getD k 0)), .int .i64 ((lev size start (wantOf ds) (listOf xs) k) + (xs.getD k 0)), .pointer (some ⟨b1, 0, none⟩), .int .i64 (size), .int .i64 (((lev size start (wantOf ds) (listOf xs) k) + (xs.getD k 0)) - size), .int .i64 (max 0 (((lev size start (wantOf ds) (listOf xs) k) + (xs.getD k 0)) - size)), .int .i64 ((lev size start (wantOf ds) (listOf xs) k) + (xs.getD k 0)), .int .i64 (max 0 (((lev size start (wantOf ds) (listOf xs) k) + (xs.getD k 0)) - size)), .int .i64 (((lev size start (wantOf ds) (listOf xs) k) + (xs.getD k 0)) - (max 0 (((lev size start (wantOf ds) (listOf xs) k) + (xs.getD k 0)) - size))), .pointer (some ⟨b1, 2, none⟩), .slice a n c, .int .i64 (((k : Nat) : Int)), .pointer (some ((adr a).add (k * 3))), .pointer (some (((adr a).add (k * 3)).add 2)), .int .i64 ((ds.getD k dz).want), .int .i64 (((lev size start (wantOf ds) (listOf xs) k) + (xs.getD k 0)) - (max 0 (((lev size start (wantOf ds) (listOf xs) k) + (xs.getD k 0)) - size))), .int .i64 (((ds.getD k dz).want) - (((lev size start (wantOf ds) (listOf xs) k) + (xs.getD k 0)) - (max 0 (((lev size start (wantOf ds) (listOf xs) k) + (xs.getD k 0)) - size)))), .int .i64 (max 0 (((ds.getD k dz).want) - (((lev size start (wantOf ds) (listOf xs) k) + (xs.getD k 0)) - (max 0 (((lev size start (wantOf ds) (listOf xs) k) + (xs.getD k 0)) - size))))), .int .i64 (((lev size start (wantOf ds) (listOf xs) k) + (xs.getD k 0)) - (max 0 (((lev size start (wantOf ds) (listOf xs) k) + (xs.getD k 0)) - size))), .pointer (some ⟨b1, 2, none⟩), .slice a n c, .int .i64 (((k : Nat) : Int)), .pointer (some ((adr a).add (k * 3))), .pointer (some (((adr a).add (k * 3)).add 2)), .int .i64 ((ds.getD k dz).want), .int .i64 (max 0 (((ds.getD k dz).want) - (((lev size start (wantOf ds) (listOf xs) k) + (xs.getD k 0)) - (max 0 (((lev size start (wantOf ds) (listOf xs) k) + (xs.getD k 0)) - size))))), .int .i64 (((ds.getD k dz).want) - (max 0 (((ds.getD k dz).want) - (((lev size start (wantOf ds) (listOf xs) k) + (xs.getD k 0)) - (max 0 (((lev size start (wantOf ds) (listOf xs) k) + (xs.getD k 0)) - size)))))), .int .i64 ((((lev size start (wantOf ds) (listOf xs) k) + (xs.getD k 0)) - (max 0 (((lev size start (wantOf ds) (listOf xs) k) + (xs.getD k 0)) - size))) - (((ds.getD k dz).want) - (max 0 (((ds.getD k dz).want) - (((lev size start (wantOf ds) (listOf xs) k) + (xs.getD k 0)) - (max 0 (((lev size start (wantOf ds) (listOf xs) k) + (xs.getD k 0)) - size))))))), (val7 0), (val7 1), (val7 2), (val7 3), (val7 4), (val7 5), (val7 6), (val7 7), (val7 8), (val7 9), (val7 10), (val7 11), (val7 12), (val7 13), (val7 14), (val7 15), (y4 67), (y4 68), undef], [], rfl, rfl, ?_⟩
        exact mix_det (met_none rfl) (fun _ h_ H_ => exd_move (v := .int .i64 ((((lev size start (wantOf ds) (listOf xs) k) + (xs.getD k 0)) - (max 0 (((lev size start (wantOf ds) (listOf xs) k) + (xs.getD k 0)) - size))) - (((ds.getD k dz).want) - (max 0 (((ds.getD k dz).want) - (((lev size start (wantOf ds) (listOf xs) k) + (xs.getD k 0)) - (max 0 (((lev size start (wantOf ds) (listOf xs) k) + (xs.getD k 0)) - size)))))))) rfl) ⟨rfl, rfl⟩
      refine mixes_cons rfl (opmix ?_) ?_
      · intro val7 pc8 hQ_ hX_
        have e2_ : val7 2 = .int .i64 ((((lev size start (wantOf ds) (listOf xs) k) + (xs.getD k 0)) - (max 0 (((lev size start (wantOf ds) (listOf xs) k) + (xs.getD k 0)) - size))) - (((ds.getD k dz).want) - (max 0 (((ds.getD k dz).want) - (((lev size start (wantOf ds) (listOf xs) k) + (xs.getD k 0)) - (max 0 (((lev size start (wantOf ds) (listOf xs) k) + (xs.getD k 0)) - size))))))) := (hQ_ 2 rfl).1
        refine ⟨[.agg #[.int .i64 (size), .int .i64 (start), .slice a n c], .slice b m d, .pointer (some ⟨b1, 0, none⟩), undef, .pointer (some ⟨b2, 0, none⟩), .pointer (some ⟨b3, 0, none⟩), .int .i64 ((((lev size start (wantOf ds) (listOf xs) k) + (xs.getD k 0)) - (max 0 (((lev size start (wantOf ds) (listOf xs) k) + (xs.getD k 0)) - size))) - (((ds.getD k dz).want) - (max 0 (((ds.getD k dz).want) - (((lev size start (wantOf ds) (listOf xs) k) + (xs.getD k 0)) - (max 0 (((lev size start (wantOf ds) (listOf xs) k) + (xs.getD k 0)) - size))))))), .int .i64 (((k : Nat) : Int)), .int .i64 (max 0 (((lev size start (wantOf ds) (listOf xs) k) + (xs.getD k 0)) - size)), .int .i64 (max 0 (((ds.getD k dz).want) - (((lev size start (wantOf ds) (listOf xs) k) + (xs.getD k 0)) - (max 0 (((lev size start (wantOf ds) (listOf xs) k) + (xs.getD k 0)) - size))))), .pointer (some ⟨b1, 1, none⟩), .int .i64 (start), .int .i64 (((k : Nat) : Int)), .slice b m d, .int .i64 (((m : Nat) : Int)), .bool (decide (((k : Nat) : Int) < ((m : Nat) : Int))), (y4 16), (y4 17), .int .i64 (lev size start (wantOf ds) (listOf xs) k), .slice b m d, .int .i64 (((k : Nat) : Int)), .pointer (some ((adr b).add (k * 1))), .int .i64 (xs.getD k 0), .int .i64 ((lev size start (wantOf ds) (listOf xs) k) + (xs.getD k 0)), .int .i64 ((lev size start (wantOf ds) (listOf xs) k) + (xs.getD k 0)), .pointer (some ⟨b1, 0, none⟩), .int .i64 (size), .int .i64 (((lev size start (wantOf ds) (listOf xs) k) + (xs.getD k 0)) - size), .int .i64 (max 0 (((lev size start (wantOf ds) (listOf xs) k) + (xs.getD k 0)) - size)), .int .i64 ((lev size start (wantOf ds) (listOf xs) k) + (xs.getD k 0)), .int .i64 (max 0 (((lev size start (wantOf ds) (listOf xs) k) + (xs.getD k 0)) - size)), .int .i64 (((lev size start (wantOf ds) (listOf xs) k) + (xs.getD k 0)) - (max 0 (((lev size start (wantOf ds) (listOf xs) k) + (xs.getD k 0)) - size))), .pointer (some ⟨b1, 2, none⟩), .slice a n c, .int .i64 (((k : Nat) : Int)), .pointer (some ((adr a).add (k * 3))), .pointer (some (((adr a).add (k * 3)).add 2)), .int .i64 ((ds.getD k dz).want), .int .i64 (((lev size start (wantOf ds) (listOf xs) k) + (xs.getD k 0)) - (max 0 (((lev size start (wantOf ds) (listOf xs) k) + (xs.getD k 0)) - size))), .int .i64 (((ds.getD k dz).want) - (((lev size start (wantOf ds) (listOf xs) k) + (xs.getD k 0)) - (max 0 (((lev size start (wantOf ds) (listOf xs) k) + (xs.getD k 0)) - size)))), .int .i64 (max 0 (((ds.getD k dz).want) - (((lev size start (wantOf ds) (listOf xs) k) + (xs.getD k 0)) - (max 0 (((lev size start (wantOf ds) (listOf xs) k) + (xs.getD k 0)) - size))))), .int .i64 (((lev size start (wantOf ds) (listOf xs) k) + (xs.getD k 0)) - (max 0 (((lev size start (wantOf ds) (listOf xs) k) + (xs.getD k 0)) - size))), .pointer (some ⟨b1, 2, none⟩), .slice a n c, .int .i64 (((k : Nat) : Int)), .pointer (some ((adr a).add (k * 3))), .pointer (some (((adr a).add (k * 3)).add 2)), .int .i64 ((ds.getD k dz).want), .int .i64 (max 0 (((ds.getD k dz).want) - (((lev size start (wantOf ds) (listOf xs) k) + (xs.getD k 0)) - (max 0 (((lev size start (wantOf ds) (listOf xs) k) + (xs.getD k 0)) - size))))), .int .i64 (((ds.getD k dz).want) - (max 0 (((ds.getD k dz).want) - (((lev size start (wantOf ds) (listOf xs) k) + (xs.getD k 0)) - (max 0 (((lev size start (wantOf ds) (listOf xs) k) + (xs.getD k 0)) - size)))))), .int .i64 ((((lev size start (wantOf ds) (listOf xs) k) + (xs.getD k 0)) - (max 0 (((lev size start (wantOf ds) (listOf xs) k) + (xs.getD k 0)) - size))) - (((ds.getD k dz).want) - (max 0 (((ds.getD k dz).want) - (((lev size start (wantOf ds) (listOf xs) k) + (xs.getD k 0)) - (max 0 (((lev size start (wantOf ds) (listOf xs) k) + (xs.getD k 0)) - size))))))), (val7 0), (val7 1), .int .i64 ((((lev size start (wantOf ds) (listOf xs) k) + (xs.getD k 0)) - (max 0 (((lev size start (wantOf ds) (listOf xs) k) + (xs.getD k 0)) - size))) - (((ds.getD k dz).want) - (max 0 (((ds.getD k dz).want) - (((lev size start (wantOf ds) (listOf xs) k) + (xs.getD k 0)) - (max 0 (((lev size start (wantOf ds) (listOf xs) k) + (xs.getD k 0)) - size))))))), (val7 3), (val7 4), (val7 5), (val7 6), (val7 7), (val7 8), (val7 9), (val7 10), (val7 11), (val7 12), (val7 13), (val7 14), (val7 15), (y4 67), (y4 68), undef], [], (by simp only [e2_]), rfl, ?_⟩
        exact mix_buildO (met_none rfl) Try.underlying25 tS3 tZ3 (Nat.le_of_ble_eq_true rfl) (vs := [(0, .int .i64 ((((lev size start (wantOf ds) (listOf xs) k) + (xs.getD k 0)) - (max 0 (((lev size start (wantOf ds) (listOf xs) k) + (xs.getD k 0)) - size))) - (((ds.getD k dz).want) - (max 0 (((ds.getD k dz).want) - (((lev size start (wantOf ds) (listOf xs) k) + (xs.getD k 0)) - (max 0 (((lev size start (wantOf ds) (listOf xs) k) + (xs.getD k 0)) - size))))))))]) rfl rfl (es := [[.int .i64 ((((lev size start (wantOf ds) (listOf xs) k) + (xs.getD k 0)) - (max 0 (((lev size start (wantOf ds) (listOf xs) k) + (xs.getD k 0)) - size))) - (((ds.getD k dz).want) - (max 0 (((ds.getD k dz).want) - (((lev size start (wantOf ds) (listOf xs) k) + (xs.getD k 0)) - (max 0 (((lev size start (wantOf ds) (listOf xs) k) + (xs.getD k 0)) - size)))))))]]) rfl rfl rfl fun _ _ o_ => o_
      refine mixes_cons rfl (opmix ?_) ?_
      · intro val7 pc8 hQ_ hX_
        have e1_ : val7 1 = w1 := (hQ_ 1 rfl).1
        have q3_ : OwnS 3 1 (val7 3) [[.int .i64 ((((lev size start (wantOf ds) (listOf xs) k) + (xs.getD k 0)) - (max 0 (((lev size start (wantOf ds) (listOf xs) k) + (xs.getD k 0)) - size))) - (((ds.getD k dz).want) - (max 0 (((ds.getD k dz).want) - (((lev size start (wantOf ds) (listOf xs) k) + (xs.getD k 0)) - (max 0 (((lev size start (wantOf ds) (listOf xs) k) + (xs.getD k 0)) - size)))))))]] (pc8 3) := hQ_ 3 rfl
        have x16_ : pc8 16 = X1 := hX_ 16 (by decide)
        refine ⟨[.agg #[.int .i64 (size), .int .i64 (start), .slice a n c], .slice b m d, .pointer (some ⟨b1, 0, none⟩), undef, .pointer (some ⟨b2, 0, none⟩), .pointer (some ⟨b3, 0, none⟩), .int .i64 ((((lev size start (wantOf ds) (listOf xs) k) + (xs.getD k 0)) - (max 0 (((lev size start (wantOf ds) (listOf xs) k) + (xs.getD k 0)) - size))) - (((ds.getD k dz).want) - (max 0 (((ds.getD k dz).want) - (((lev size start (wantOf ds) (listOf xs) k) + (xs.getD k 0)) - (max 0 (((lev size start (wantOf ds) (listOf xs) k) + (xs.getD k 0)) - size))))))), .int .i64 (((k : Nat) : Int)), .int .i64 (max 0 (((lev size start (wantOf ds) (listOf xs) k) + (xs.getD k 0)) - size)), .int .i64 (max 0 (((ds.getD k dz).want) - (((lev size start (wantOf ds) (listOf xs) k) + (xs.getD k 0)) - (max 0 (((lev size start (wantOf ds) (listOf xs) k) + (xs.getD k 0)) - size))))), .pointer (some ⟨b1, 1, none⟩), .int .i64 (start), .int .i64 (((k : Nat) : Int)), .slice b m d, .int .i64 (((m : Nat) : Int)), .bool (decide (((k : Nat) : Int) < ((m : Nat) : Int))), (y4 16), (y4 17), .int .i64 (lev size start (wantOf ds) (listOf xs) k), .slice b m d, .int .i64 (((k : Nat) : Int)), .pointer (some ((adr b).add (k * 1))), .int .i64 (xs.getD k 0), .int .i64 ((lev size start (wantOf ds) (listOf xs) k) + (xs.getD k 0)), .int .i64 ((lev size start (wantOf ds) (listOf xs) k) + (xs.getD k 0)), .pointer (some ⟨b1, 0, none⟩), .int .i64 (size), .int .i64 (((lev size start (wantOf ds) (listOf xs) k) + (xs.getD k 0)) - size), .int .i64 (max 0 (((lev size start (wantOf ds) (listOf xs) k) + (xs.getD k 0)) - size)), .int .i64 ((lev size start (wantOf ds) (listOf xs) k) + (xs.getD k 0)), .int .i64 (max 0 (((lev size start (wantOf ds) (listOf xs) k) + (xs.getD k 0)) - size)), .int .i64 (((lev size start (wantOf ds) (listOf xs) k) + (xs.getD k 0)) - (max 0 (((lev size start (wantOf ds) (listOf xs) k) + (xs.getD k 0)) - size))), .pointer (some ⟨b1, 2, none⟩), .slice a n c, .int .i64 (((k : Nat) : Int)), .pointer (some ((adr a).add (k * 3))), .pointer (some (((adr a).add (k * 3)).add 2)), .int .i64 ((ds.getD k dz).want), .int .i64 (((lev size start (wantOf ds) (listOf xs) k) + (xs.getD k 0)) - (max 0 (((lev size start (wantOf ds) (listOf xs) k) + (xs.getD k 0)) - size))), .int .i64 (((ds.getD k dz).want) - (((lev size start (wantOf ds) (listOf xs) k) + (xs.getD k 0)) - (max 0 (((lev size start (wantOf ds) (listOf xs) k) + (xs.getD k 0)) - size)))), .int .i64 (max 0 (((ds.getD k dz).want) - (((lev size start (wantOf ds) (listOf xs) k) + (xs.getD k 0)) - (max 0 (((lev size start (wantOf ds) (listOf xs) k) + (xs.getD k 0)) - size))))), .int .i64 (((lev size start (wantOf ds) (listOf xs) k) + (xs.getD k 0)) - (max 0 (((lev size start (wantOf ds) (listOf xs) k) + (xs.getD k 0)) - size))), .pointer (some ⟨b1, 2, none⟩), .slice a n c, .int .i64 (((k : Nat) : Int)), .pointer (some ((adr a).add (k * 3))), .pointer (some (((adr a).add (k * 3)).add 2)), .int .i64 ((ds.getD k dz).want), .int .i64 (max 0 (((ds.getD k dz).want) - (((lev size start (wantOf ds) (listOf xs) k) + (xs.getD k 0)) - (max 0 (((lev size start (wantOf ds) (listOf xs) k) + (xs.getD k 0)) - size))))), .int .i64 (((ds.getD k dz).want) - (max 0 (((ds.getD k dz).want) - (((lev size start (wantOf ds) (listOf xs) k) + (xs.getD k 0)) - (max 0 (((lev size start (wantOf ds) (listOf xs) k) + (xs.getD k 0)) - size)))))), .int .i64 ((((lev size start (wantOf ds) (listOf xs) k) + (xs.getD k 0)) - (max 0 (((lev size start (wantOf ds) (listOf xs) k) + (xs.getD k 0)) - size))) - (((ds.getD k dz).want) - (max 0 (((ds.getD k dz).want) - (((lev size start (wantOf ds) (listOf xs) k) + (xs.getD k 0)) - (max 0 (((lev size start (wantOf ds) (listOf xs) k) + (xs.getD k 0)) - size))))))), (val7 0), w1, (val7 2), (val7 3), (val7 4), (val7 5), (val7 6), (val7 7), (val7 8), (val7 9), (val7 10), (val7 11), (val7 12), (val7 13), (val7 14), (val7 15), (y4 67), (y4 68), undef], (X1 ++ ((pc8 3) ++ [])), (by simp only [e1_]), (by rw [← x16_]; rfl), ?_⟩
        exact mix_append (met_none rfl) Try.underlying25 tS3 tZ3 rfl tB3 Try.underlying25 rfl rfl o1 q3_ (ones_of rfl) (by rw [ns_length]; simp only [List.length_cons, List.length_nil]; omega) (by decide) fun _ _ o_ => o_
      refine mixes_cons rfl (opmix ?_) ?_
      · intro val7 pc8 hQ_ hX_
        refine ⟨[.agg #[.int .i64 (size), .int .i64 (start), .slice a n c], .slice b m d, .pointer (some ⟨b1, 0, none⟩), undef, .pointer (some ⟨b2, 0, none⟩), .pointer (some ⟨b3, 0, none⟩), .int .i64 ((((lev size start (wantOf ds) (listOf xs) k) + (xs.getD k 0)) - (max 0 (((lev size start (wantOf ds) (listOf xs) k) + (xs.getD k 0)) - size))) - (((ds.getD k dz).want) - (max 0 (((ds.getD k dz).want) - (((lev size start (wantOf ds) (listOf xs) k) + (xs.getD k 0)) - (max 0 (((lev size start (wantOf ds) (listOf xs) k) + (xs.getD k 0)) - size))))))), .int .i64 (((k : Nat) : Int)), .int .i64 (max 0 (((lev size start (wantOf ds) (listOf xs) k) + (xs.getD k 0)) - size)), .int .i64 (max 0 (((ds.getD k dz).want) - (((lev size start (wantOf ds) (listOf xs) k) + (xs.getD k 0)) - (max 0 (((lev size start (wantOf ds) (listOf xs) k) + (xs.getD k 0)) - size))))), .pointer (some ⟨b1, 1, none⟩), .int .i64 (start), .int .i64 (((k : Nat) : Int)), .slice b m d, .int .i64 (((m : Nat) : Int)), .bool (decide (((k : Nat) : Int) < ((m : Nat) : Int))), (y4 16), (y4 17), .int .i64 (lev size start (wantOf ds) (listOf xs) k), .slice b m d, .int .i64 (((k : Nat) : Int)), .pointer (some ((adr b).add (k * 1))), .int .i64 (xs.getD k 0), .int .i64 ((lev size start (wantOf ds) (listOf xs) k) + (xs.getD k 0)), .int .i64 ((lev size start (wantOf ds) (listOf xs) k) + (xs.getD k 0)), .pointer (some ⟨b1, 0, none⟩), .int .i64 (size), .int .i64 (((lev size start (wantOf ds) (listOf xs) k) + (xs.getD k 0)) - size), .int .i64 (max 0 (((lev size start (wantOf ds) (listOf xs) k) + (xs.getD k 0)) - size)), .int .i64 ((lev size start (wantOf ds) (listOf xs) k) + (xs.getD k 0)), .int .i64 (max 0 (((lev size start (wantOf ds) (listOf xs) k) + (xs.getD k 0)) - size)), .int .i64 (((lev size start (wantOf ds) (listOf xs) k) + (xs.getD k 0)) - (max 0 (((lev size start (wantOf ds) (listOf xs) k) + (xs.getD k 0)) - size))), .pointer (some ⟨b1, 2, none⟩), .slice a n c, .int .i64 (((k : Nat) : Int)), .pointer (some ((adr a).add (k * 3))), .pointer (some (((adr a).add (k * 3)).add 2)), .int .i64 ((ds.getD k dz).want), .int .i64 (((lev size start (wantOf ds) (listOf xs) k) + (xs.getD k 0)) - (max 0 (((lev size start (wantOf ds) (listOf xs) k) + (xs.getD k 0)) - size))), .int .i64 (((ds.getD k dz).want) - (((lev size start (wantOf ds) (listOf xs) k) + (xs.getD k 0)) - (max 0 (((lev size start (wantOf ds) (listOf xs) k) + (xs.getD k 0)) - size)))), .int .i64 (max 0 (((ds.getD k dz).want) - (((lev size start (wantOf ds) (listOf xs) k) + (xs.getD k 0)) - (max 0 (((lev size start (wantOf ds) (listOf xs) k) + (xs.getD k 0)) - size))))), .int .i64 (((lev size start (wantOf ds) (listOf xs) k) + (xs.getD k 0)) - (max 0 (((lev size start (wantOf ds) (listOf xs) k) + (xs.getD k 0)) - size))), .pointer (some ⟨b1, 2, none⟩), .slice a n c, .int .i64 (((k : Nat) : Int)), .pointer (some ((adr a).add (k * 3))), .pointer (some (((adr a).add (k * 3)).add 2)), .int .i64 ((ds.getD k dz).want), .int .i64 (max 0 (((ds.getD k dz).want) - (((lev size start (wantOf ds) (listOf xs) k) + (xs.getD k 0)) - (max 0 (((lev size start (wantOf ds) (listOf xs) k) + (xs.getD k 0)) - size))))), .int .i64 (((ds.getD k dz).want) - (max 0 (((ds.getD k dz).want) - (((lev size start (wantOf ds) (listOf xs) k) + (xs.getD k 0)) - (max 0 (((lev size start (wantOf ds) (listOf xs) k) + (xs.getD k 0)) - size)))))), .int .i64 ((((lev size start (wantOf ds) (listOf xs) k) + (xs.getD k 0)) - (max 0 (((lev size start (wantOf ds) (listOf xs) k) + (xs.getD k 0)) - size))) - (((ds.getD k dz).want) - (max 0 (((ds.getD k dz).want) - (((lev size start (wantOf ds) (listOf xs) k) + (xs.getD k 0)) - (max 0 (((lev size start (wantOf ds) (listOf xs) k) + (xs.getD k 0)) - size))))))), (val7 0), (val7 1), (val7 2), (val7 3), (val7 4), (val7 5), (val7 6), (val7 7), (val7 8), (val7 9), (val7 10), (val7 11), (val7 12), (val7 13), (val7 14), (val7 15), (y4 67), (y4 68), undef], [], rfl, rfl, ?_⟩
        exact mix_det (met_none rfl) (fun _ h_ H_ => exd_fieldAddr tF30_1 rfl (a' := ⟨b3, 1, none⟩) rfl) ⟨rfl, rfl⟩
      refine mixes_cons rfl (opmix ?_) ?_
      · intro val7 pc8 hQ_ hX_
        have e5_ : val7 5 = .pointer (some ⟨b3, 1, none⟩) := (hQ_ 5 rfl).1
        refine ⟨[.agg #[.int .i64 (size), .int .i64 (start), .slice a n c], .slice b m d, .pointer (some ⟨b1, 0, none⟩), undef, .pointer (some ⟨b2, 0, none⟩), .pointer (some ⟨b3, 0, none⟩), .int .i64 ((((lev size start (wantOf ds) (listOf xs) k) + (xs.getD k 0)) - (max 0 (((lev size start (wantOf ds) (listOf xs) k) + (xs.getD k 0)) - size))) - (((ds.getD k dz).want) - (max 0 (((ds.getD k dz).want) - (((lev size start (wantOf ds) (listOf xs) k) + (xs.getD k 0)) - (max 0 (((lev size start (wantOf ds) (listOf xs) k) + (xs.getD k 0)) - size))))))), .int .i64 (((k : Nat) : Int)), .int .i64 (max 0 (((lev size start (wantOf ds) (listOf xs) k) + (xs.getD k 0)) - size)), .int .i64 (max 0 (((ds.getD k dz).want) - (((lev size start (wantOf ds) (listOf xs) k) + (xs.getD k 0)) - (max 0 (((lev size start (wantOf ds) (listOf xs) k) + (xs.getD k 0)) - size))))), .pointer (some ⟨b1, 1, none⟩), .int .i64 (start), .int .i64 (((k : Nat) : Int)), .slice b m d, .int .i64 (((m : Nat) : Int)), .bool (decide (((k : Nat) : Int) < ((m : Nat) : Int))), (y4 16), (y4 17), .int .i64 (lev size start (wantOf ds) (listOf xs) k), .slice b m d, .int .i64 (((k : Nat) : Int)), .pointer (some ((adr b).add (k * 1))), .int .i64 (xs.getD k 0), .int .i64 ((lev size start (wantOf ds) (listOf xs) k) + (xs.getD k 0)), .int .i64 ((lev size start (wantOf ds) (listOf xs) k) + (xs.getD k 0)), .pointer (some ⟨b1, 0, none⟩), .int .i64 (size), .int .i64 (((lev size start (wantOf ds) (listOf xs) k) + (xs.getD k 0)) - size), .int .i64 (max 0 (((lev size start (wantOf ds) (listOf xs) k) + (xs.getD k 0)) - size)), .int .i64 ((lev size start (wantOf ds) (listOf xs) k) + (xs.getD k 0)), .int .i64 (max 0 (((lev size start (wantOf ds) (listOf xs) k) + (xs.getD k 0)) - size)), .int .i64 (((lev size start (wantOf ds) (listOf xs) k) + (xs.getD k 0)) - (max 0 (((lev size start (wantOf ds) (listOf xs) k) + (xs.getD k 0)) - size))), .pointer (some ⟨b1, 2, none⟩), .slice a n c, .int .i64 (((k : Nat) : Int)), .pointer (some ((adr a).add (k * 3))), .pointer (some (((adr a).add (k * 3)).add 2)), .int .i64 ((ds.getD k dz).want), .int .i64 (((lev size start (wantOf ds) (listOf xs) k) + (xs.getD k 0)) - (max 0 (((lev size start (wantOf ds) (listOf xs) k) + (xs.getD k 0)) - size))), .int .i64 (((ds.getD k dz).want) - (((lev size start (wantOf ds) (listOf xs) k) + (xs.getD k 0)) - (max 0 (((lev size start (wantOf ds) (listOf xs) k) + (xs.getD k 0)) - size)))), .int .i64 (max 0 (((ds.getD k dz).want) - (((lev size start (wantOf ds) (listOf xs) k) + (xs.getD k 0)) - (max 0 (((lev size start (wantOf ds) (listOf xs) k) + (xs.getD k 0)) - size))))), .int .i64 (((lev size start (wantOf ds) (listOf xs) k) + (xs.getD k 0)) - (max 0 (((lev size start (wantOf ds) (listOf xs) k) + (xs.getD k 0)) - size))), .pointer (some ⟨b1, 2, none⟩), .slice a n c, .int .i64 (((k : Nat) : Int)), .pointer (some ((adr a).add (k * 3))), .pointer (some (((adr a).add (k * 3)).add 2)), .int .i64 ((ds.getD k dz).want), .int .i64 (max 0 (((ds.getD k dz).want) - (((lev size start (wantOf ds) (listOf xs) k) + (xs.getD k 0)) - (max 0 (((lev size start (wantOf ds) (listOf xs) k) + (xs.getD k 0)) - size))))), .int .i64 (((ds.getD k dz).want) - (max 0 (((ds.getD k dz).want) - (((lev size start (wantOf ds) (listOf xs) k) + (xs.getD k 0)) - (max 0 (((lev size start (wantOf ds) (listOf xs) k) + (xs.getD k 0)) - size)))))), .int .i64 ((((lev size start (wantOf ds) (listOf xs) k) + (xs.getD k 0)) - (max 0 (((lev size start (wantOf ds) (listOf xs) k) + (xs.getD k 0)) - size))) - (((ds.getD k dz).want) - (max 0 (((ds.getD k dz).want) - (((lev size start (wantOf ds) (listOf xs) k) + (xs.getD k 0)) - (max 0 (((lev size start (wantOf ds) (listOf xs) k) + (xs.getD k 0)) - size))))))), (val7 0), (val7 1), (val7 2), (val7 3), (val7 4), .pointer (some ⟨b3, 1, none⟩), (val7 6), (val7 7), (val7 8), (val7 9), (val7 10), (val7 11), (val7 12), (val7 13), (val7 14), (val7 15), (y4 67), (y4 68), undef], [], (by simp only [e5_]), rfl, ?_⟩
        exact mix_det (met_none rfl) (fun _ h_ H_ => exd_load_own H_ tA25 rfl (i := 0) rfl (v := w2) rfl) ⟨rfl, rfl⟩
      refine mixes_cons rfl (opmix ?_) ?_
      · intro val7 pc8 hQ_ hX_
        refine ⟨[.agg #[.int .i64 (size), .int .i64 (start), .slice a n c], .slice b m d, .pointer (some ⟨b1, 0, none⟩), undef, .pointer (some ⟨b2, 0, none⟩), .pointer (some ⟨b3, 0, none⟩), .int .i64 ((((lev size start (wantOf ds) (listOf xs) k) + (xs.getD k 0)) - (max 0 (((lev size start (wantOf ds) (listOf xs) k) + (xs.getD k 0)) - size))) - (((ds.getD k dz).want) - (max 0 (((ds.getD k dz).want) - (((lev size start (wantOf ds) (listOf xs) k) + (xs.getD k 0)) - (max 0 (((lev size start (wantOf ds) (listOf xs) k) + (xs.getD k 0)) - size))))))), .int .i64 (((k : Nat) : Int)), .int .i64 (max 0 (((lev size start (wantOf ds) (listOf xs) k) + (xs.getD k 0)) - size)), .int .i64 (max 0 (((ds.getD k dz).want) - (((lev size start (wantOf ds) (listOf xs) k) + (xs.getD k 0)) - (max 0 (((lev size start (wantOf ds) (listOf xs) k) + (xs.getD k 0)) - size))))), .pointer (some ⟨b1, 1, none⟩), .int .i64 (start), .int .i64 (((k : Nat) : Int)), .slice b m d, .int .i64 (((m : Nat) : Int)), .bool (decide (((k : Nat) : Int) < ((m : Nat) : Int))), (y4 16), (y4 17), .int .i64 (lev size start (wantOf ds) (listOf xs) k), .slice b m d, .int .i64 (((k : Nat) : Int)), .pointer (some ((adr b).add (k * 1))), .int .i64 (xs.getD k 0), .int .i64 ((lev size start (wantOf ds) (listOf xs) k) + (xs.getD k 0)), .int .i64 ((lev size start (wantOf ds) (listOf xs) k) + (xs.getD k 0)), .pointer (some ⟨b1, 0, none⟩), .int .i64 (size), .int .i64 (((lev size start (wantOf ds) (listOf xs) k) + (xs.getD k 0)) - size), .int .i64 (max 0 (((lev size start (wantOf ds) (listOf xs) k) + (xs.getD k 0)) - size)), .int .i64 ((lev size start (wantOf ds) (listOf xs) k) + (xs.getD k 0)), .int .i64 (max 0 (((lev size start (wantOf ds) (listOf xs) k) + (xs.getD k 0)) - size)), .int .i64 (((lev size start (wantOf ds) (listOf xs) k) + (xs.getD k 0)) - (max 0 (((lev size start (wantOf ds) (listOf xs) k) + (xs.getD k 0)) - size))), .pointer (some ⟨b1, 2, none⟩), .slice a n c, .int .i64 (((k : Nat) : Int)), .pointer (some ((adr a).add (k * 3))), .pointer (some (((adr a).add (k * 3)).add 2)), .int .i64 ((ds.getD k dz).want), .int .i64 (((lev size start (wantOf ds) (listOf xs) k) + (xs.getD k 0)) - (max 0 (((lev size start (wantOf ds) (listOf xs) k) + (xs.getD k 0)) - size))), .int .i64 (((ds.getD k dz).want) - (((lev size start (wantOf ds) (listOf xs) k) + (xs.getD k 0)) - (max 0 (((lev size start (wantOf ds) (listOf xs) k) + (xs.getD k 0)) - size)))), .int .i64 (max 0 (((ds.getD k dz).want) - (((lev size start (wantOf ds) (listOf xs) k) + (xs.getD k 0)) - (max 0 (((lev size start (wantOf ds) (listOf xs) k) + (xs.getD k 0)) - size))))), .int .i64 (((lev size start (wantOf ds) (listOf xs) k) + (xs.getD k 0)) - (max 0 (((lev size start (wantOf ds) (listOf xs) k) + (xs.getD k 0)) - size))), .pointer (some ⟨b1, 2, none⟩), .slice a n c, .int .i64 (((k : Nat) : Int)), .pointer (some ((adr a).add (k * 3))), .pointer (some (((adr a).add (k * 3)).add 2)), .int .i64 ((ds.getD k dz).want), .int .i64 (max 0 (((ds.getD k dz).want) - (((lev size start (wantOf ds) (listOf xs) k) + (xs.getD k 0)) - (max 0 (((lev size start (wantOf ds) (listOf xs) k) + (xs.getD k 0)) - size))))), .int .i64 (((ds.getD k dz).want) - (max 0 (((ds.getD k dz).want) - (((lev size start (wantOf ds) (listOf xs) k) + (xs.getD k 0)) - (max 0 (((lev size start (wantOf ds) (listOf xs) k) + (xs.getD k 0)) - size)))))), .int .i64 ((((lev size start (wantOf ds) (listOf xs) k) + (xs.getD k 0)) - (max 0 (((lev size start (wantOf ds) (listOf xs) k) + (xs.getD k 0)) - size))) - (((ds.getD k dz).want) - (max 0 (((ds.getD k dz).want) - (((lev size start (wantOf ds) (listOf xs) k) + (xs.getD k 0)) - (max 0 (((lev size start (wantOf ds) (listOf xs) k) + (xs.getD k 0)) - size))))))), (val7 0), (val7 1), (val7 2), (val7 3), (val7 4), (val7 5), (val7 6), (val7 7), (val7 8), (val7 9), (val7 10), (val7 11), (val7 12), (val7 13), (val7 14), (val7 15), (y4 67), (y4 68), undef], [], rfl, rfl, ?_⟩
        exact mix_det (met_none rfl) (fun _ h_ H_ => exd_move (v := .int .i64 (max 0 (((ds.getD k dz).want) - (((lev size start (wantOf ds) (listOf xs) k) + (xs.getD k 0)) - (max 0 (((lev size start (wantOf ds) (listOf xs) k) + (xs.getD k 0)) - size)))))) rfl) ⟨rfl, rfl⟩
      refine mixes_cons rfl (opmix ?_) ?_
      · intro val7 pc8 hQ_ hX_
        have e7_ : val7 7 = .int .i64 (max 0 (((ds.getD k dz).want) - (((lev size start (wantOf ds) (listOf xs) k) + (xs.getD k 0)) - (max 0 (((lev size start (wantOf ds) (listOf xs) k) + (xs.getD k 0)) - size))))) := (hQ_ 7 rfl).1
        refine ⟨[.agg #[.int .i64 (size), .int .i64 (start), .slice a n c], .slice b m d, .pointer (some ⟨b1, 0, none⟩), undef, .pointer (some ⟨b2, 0, none⟩), .pointer (some ⟨b3, 0, none⟩), .int .i64 ((((lev size start (wantOf ds) (listOf xs) k) + (xs.getD k 0)) - (max 0 (((lev size start (wantOf ds) (listOf xs) k) + (xs.getD k 0)) - size))) - (((ds.getD k dz).want) - (max 0 (((ds.getD k dz).want) - (((lev size start (wantOf ds) (listOf xs) k) + (xs.getD k 0)) - (max 0 (((lev size start (wantOf ds) (listOf xs) k) + (xs.getD k 0)) - size))))))), .int .i64 (((k : Nat) : Int)), .int .i64 (max 0 (((lev size start (wantOf ds) (listOf xs) k) + (xs.getD k 0)) - size)), .int .i64 (max 0 (((ds.getD k dz).want) - (((lev size start (wantOf ds) (listOf xs) k) + (xs.getD k 0)) - (max 0 (((lev size start (wantOf ds) (listOf xs) k) + (xs.getD k 0)) - size))))), .pointer (some ⟨b1, 1, none⟩), .int .i64 (start), .int .i64 (((k : Nat) : Int)), .slice b m d, .int .i64 (((m : Nat) : Int)), .bool (decide (((k : Nat) : Int) < ((m : Nat) : Int))), (y4 16), (y4 17), .int .i64 (lev size start (wantOf ds) (listOf xs) k), .slice b m d, .int .i64 (((k : Nat) : Int)), .pointer (some ((adr b).add (k * 1))), .int .i64 (xs.getD k 0), .int .i64 ((lev size start (wantOf ds) (listOf xs) k) + (xs.getD k 0)), .int .i64 ((lev size start (wantOf ds) (listOf xs) k) + (xs.getD k 0)), .pointer (some ⟨b1, 0, none⟩), .int .i64 (size), .int .i64 (((lev size start (wantOf ds) (listOf xs) k) + (xs.getD k 0)) - size), .int .i64 (max 0 (((lev size start (wantOf ds) (listOf xs) k) + (xs.getD k 0)) - size)), .int .i64 ((lev size start (wantOf ds) (listOf xs) k) + (xs.getD k 0)), .int .i64 (max 0 (((lev size start (wantOf ds) (listOf xs) k) + (xs.getD k 0)) - size)), .int .i64 (((lev size start (wantOf ds) (listOf xs) k) + (xs.getD k 0)) - (max 0 (((lev size start (wantOf ds) (listOf xs) k) + (xs.getD k 0)) - size))), .pointer (some ⟨b1, 2, none⟩), .slice a n c, .int .i64 (((k : Nat) : Int)), .pointer (some ((adr a).add (k * 3))), .pointer (some (((adr a).add (k * 3)).add 2)), .int .i64 ((ds.getD k dz).want), .int .i64 (((lev size start (wantOf ds) (listOf xs) k) + (xs.getD k 0)) - (max 0 (((lev size start (wantOf ds) (listOf xs) k) + (xs.getD k 0)) - size))), .int .i64 (((ds.getD k dz).want) - (((lev size start (wantOf ds) (listOf xs) k) + (xs.getD k 0)) - (max 0 (((lev size start (wantOf ds) (listOf xs) k) + (xs.getD k 0)) - size)))), .int .i64 (max 0 (((ds.getD k dz).want) - (((lev size start (wantOf ds) (listOf xs) k) + (xs.getD k 0)) - (max 0 (((lev size start (wantOf ds) (listOf xs) k) + (xs.getD k 0)) - size))))), .int .i64 (((lev size start (wantOf ds) (listOf xs) k) + (xs.getD k 0)) - (max 0 (((lev size start (wantOf ds) (listOf xs) k) + (xs.getD k 0)) - size))), .pointer (some ⟨b1, 2, none⟩), .slice a n c, .int .i64 (((k : Nat) : Int)), .pointer (some ((adr a).add (k * 3))), .pointer (some (((adr a).add (k * 3)).add 2)), .int .i64 ((ds.getD k dz).want), .int .i64 (max 0 (((ds.getD k dz).want) - (((lev size start (wantOf ds) (listOf xs) k) + (xs.getD k 0)) - (max 0 (((lev size start (wantOf ds) (listOf xs) k) + (xs.getD k 0)) - size))))), .int .i64 (((ds.getD k dz).want) - (max 0 (((ds.getD k dz).want) - (((lev size start (wantOf ds) (listOf xs) k) + (xs.getD k 0)) - (max 0 (((lev size start (wantOf ds) (listOf xs) k) + (xs.getD k 0)) - size)))))), .int .i64 ((((lev size start (wantOf ds) (listOf xs) k) + (xs.getD k 0)) - (max 0 (((lev size start (wantOf ds) (listOf xs) k) + (xs.getD k 0)) - size))) - (((ds.getD k dz).want) - (max 0 (((ds.getD k dz).want) - (((lev size start (wantOf ds) (listOf xs) k) + (xs.getD k 0)) - (max 0 (((lev size start (wantOf ds) (listOf xs) k) + (xs.getD k 0)) - size))))))), (val7 0), (val7 1), (val7 2), (val7 3), (val7 4), (val7 5), (val7 6), .int .i64 (max 0 (((ds.getD k dz).want) - (((lev size start (wantOf ds) (listOf xs) k) + (xs.getD k 0)) - (max 0 (((lev size start (wantOf ds) (listOf xs) k) + (xs.getD k 0)) - size))))), (val7 8), (val7 9), (val7 10), (val7 11), (val7 12), (val7 13), (val7 14), (val7 15), (y4 67), (y4 68), undef], [], (by simp only [e7_]), rfl, ?_⟩
        exact mix_buildO (met_none rfl) Try.underlying25 tS3 tZ3 (Nat.le_of_ble_eq_true rfl) (vs := [(0, .int .i64 (max 0 (((ds.getD k dz).want) - (((lev size start (wantOf ds) (listOf xs) k) + (xs.getD k 0)) - (max 0 (((lev size start (wantOf ds) (listOf xs) k) + (xs.getD k 0)) - size))))))]) rfl rfl (es := [[.int .i64 (max 0 (((ds.getD k dz).want) - (((lev size start (wantOf ds) (listOf xs) k) + (xs.getD k 0)) - (max 0 (((lev size start (wantOf ds) (listOf xs) k) + (xs.getD k 0)) - size)))))]]) rfl rfl rfl fun _ _ o_ => o_
      refine mixes_cons rfl (opmix ?_) ?_
      · intro val7 pc8 hQ_ hX_
        have q4_ : OwnS 3 1 (val7 4) (ns (levs size start (wantOf ds) (listOf xs)) k ++ [[.int .i64 ((((lev size start (wantOf ds) (listOf xs) k) + (xs.getD k 0)) - (max 0 (((lev size start (wantOf ds) (listOf xs) k) + (xs.getD k 0)) - size))) - (((ds.getD k dz).want) - (max 0 (((ds.getD k dz).want) - (((lev size start (wantOf ds) (listOf xs) k) + (xs.getD k 0)) - (max 0 (((lev size start (wantOf ds) (listOf xs) k) + (xs.getD k 0)) - size)))))))]]) (pc8 4) := hQ_ 4 rfl
        have e6_ : val7 6 = w2 := (hQ_ 6 rfl).1
        have q8_ : OwnS 3 1 (val7 8) [[.int .i64 (max 0 (((ds.getD k dz).want) - (((lev size start (wantOf ds) (listOf xs) k) + (xs.getD k 0)) - (max 0 (((lev size start (wantOf ds) (listOf xs) k) + (xs.getD k 0)) - size)))))]] (pc8 8) := hQ_ 8 rfl
        have x17_ : pc8 17 = X2 := hX_ 17 (by decide)
        refine ⟨[.agg #[.int .i64 (size), .int .i64 (start), .slice a n c], .slice b m d, .pointer (some ⟨b1, 0, none⟩), undef, .pointer (some ⟨b2, 0, none⟩), .pointer (some ⟨b3, 0, none⟩), .int .i64 ((((lev size start (wantOf ds) (listOf xs) k) + (xs.getD k 0)) - (max 0 (((lev size start (wantOf ds) (listOf xs) k) + (xs.getD k 0)) - size))) - (((ds.getD k dz).want) - (max 0 (((ds.getD k dz).want) - (((lev size start (wantOf ds) (listOf xs) k) + (xs.getD k 0)) - (max 0 (((lev size start (wantOf ds) (listOf xs) k) + (xs.getD k 0)) - size))))))), .int .i64 (((k : Nat) : Int)), .int .i64 (max 0 (((lev size start (wantOf ds) (listOf xs) k) + (xs.getD k 0)) - size)), .int .i64 (max 0 (((ds.getD k dz).want) - (((lev size start (wantOf ds) (listOf xs) k) + (xs.getD k 0)) - (max 0 (((lev size start (wantOf ds) (listOf xs) k) + (xs.getD k 0)) - size))))), .pointer (some ⟨b1, 1, none⟩), .int .i64 (start), .int .i64 (((k : Nat) : Int)), .slice b m d, .int .i64 (((m : Nat) : Int)), .bool (decide (((k : Nat) : Int) < ((m : Nat) : Int))), (y4 16), (y4 17), .int .i64 (lev size start (wantOf ds) (listOf xs) k), .slice b m d, .int .i64 (((k : Nat) : Int)), .pointer (some ((adr b).add (k * 1))), .int .i64 (xs.getD k 0), .int .i64 ((lev size start (wantOf ds) (listOf xs) k) + (xs.getD k 0)), .int .i64 ((lev size start (wantOf ds) (listOf xs) k) + (xs.getD k 0)), .pointer (some ⟨b1, 0, none⟩), .int .i64 (size), .int .i64 (((lev size start (wantOf ds) (listOf xs) k) + (xs.getD k 0)) - size), .int .i64 (max 0 (((lev size start (wantOf ds) (listOf xs) k) + (xs.getD k 0)) - size)), .int .i64 ((lev size start (wantOf ds) (listOf xs) k) + (xs.getD k 0)), .int .i64 (max 0 (((lev size start (wantOf ds) (listOf xs) k) + (xs.getD k 0)) - size)), .int .i64 (((lev size start (wantOf ds) (listOf xs) k) + (xs.getD k 0)) - (max 0 (((lev size start (wantOf ds) (listOf xs) k) + (xs.getD k 0)) - size))), .pointer (some ⟨b1, 2, none⟩), .slice a n c, .int .i64 (((k : Nat) : Int)), .pointer (some ((adr a).add (k * 3))), .pointer (some (((adr a).add (k * 3)).add 2)), .int .i64 ((ds.getD k dz).want), .int .i64 (((lev size start (wantOf ds) (listOf xs) k) + (xs.getD k 0)) - (max 0 (((lev size start (wantOf ds) (listOf xs) k) + (xs.getD k 0)) - size))), .int .i64 (((ds.getD k dz).want) - (((lev size start (wantOf ds) (listOf xs) k) + (xs.getD k 0)) - (max 0 (((lev size start (wantOf ds) (listOf xs) k) + (xs.getD k 0)) - size)))), .int .i64 (max 0 (((ds.getD k dz).want) - (((lev size start (wantOf ds) (listOf xs) k) + (xs.getD k 0)) - (max 0 (((lev size start (wantOf ds) (listOf xs) k) + (xs.getD k 0)) - size))))), .int .i64 (((lev size start (wantOf ds) (listOf xs) k) + (xs.getD k 0)) - (max 0 (((lev size start (wantOf ds) (listOf xs) k) + (xs.getD k 0)) - size))), .pointer (some ⟨b1, 2, none⟩), .slice a n c, .int .i64 (((k : Nat) : Int)), .pointer (some ((adr a).add (k * 3))), .pointer (some (((adr a).add (k * 3)).add 2)), .int .i64 ((ds.getD k dz).want), .int .i64 (max 0 (((ds.getD k dz).want) - (((lev size start (wantOf ds) (listOf xs) k) + (xs.getD k 0)) - (max 0 (((lev size start (wantOf ds) (listOf xs) k) + (xs.getD k 0)) - size))))), .int .i64 (((ds.getD k dz).want) - (max 0 (((ds.getD k dz).want) - (((lev size start (wantOf ds) (listOf xs) k) + (xs.getD k 0)) - (max 0 (((lev size start (wantOf ds) (listOf xs) k) + (xs.getD k 0)) - size)))))), .int .i64 ((((lev size start (wantOf ds) (listOf xs) k) + (xs.getD k 0)) - (max 0 (((lev size start (wantOf ds) (listOf xs) k) + (xs.getD k 0)) - size))) - (((ds.getD k dz).want) - (max 0 (((ds.getD k dz).want) - (((lev size start (wantOf ds) (listOf xs) k) + (xs.getD k 0)) - (max 0 (((lev size start (wantOf ds) (listOf xs) k) + (xs.getD k 0)) - size))))))), (val7 0), (val7 1), (val7 2), (val7 3), (val7 4), (val7 5), w2, (val7 7), (val7 8), (val7 9), (val7 10), (val7 11), (val7 12), (val7 13), (val7 14), (val7 15), (y4 67), (y4 68), undef], (X2 ++ ((pc8 8) ++ [])), (by simp only [e6_]), (by rw [← x17_]; rfl), ?_⟩
        exact mix_append (met_none rfl) Try.underlying25 tS3 tZ3 rfl tB3 Try.underlying25 rfl rfl o2 q8_ (ones_of rfl) (by rw [ns_length]; simp only [List.length_cons, List.length_nil]; omega) (by decide) fun _ _ o_ => o_
      refine mixes_cons rfl (opmix ?_) ?_
      · intro val7 pc8 hQ_ hX_
        refine ⟨[.agg #[.int .i64 (size), .int .i64 (start), .slice a n c], .slice b m d, .pointer (some ⟨b1, 0, none⟩), undef, .pointer (some ⟨b2, 0, none⟩), .pointer (some ⟨b3, 0, none⟩), .int .i64 ((((lev size start (wantOf ds) (listOf xs) k) + (xs.getD k 0)) - (max 0 (((lev size start (wantOf ds) (listOf xs) k) + (xs.getD k 0)) - size))) - (((ds.getD k dz).want) - (max 0 (((ds.getD k dz).want) - (((lev size start (wantOf ds) (listOf xs) k) + (xs.getD k 0)) - (max 0 (((lev size start (wantOf ds) (listOf xs) k) + (xs.getD k 0)) - size))))))), .int .i64 (((k : Nat) : Int)), .int .i64 (max 0 (((lev size start (wantOf ds) (listOf xs) k) + (xs.getD k 0)) - size)), .int .i64 (max 0 (((ds.getD k dz).want) - (((lev size start (wantOf ds) (listOf xs) k) + (xs.getD k 0)) - (max 0 (((lev size start (wantOf ds) (listOf xs) k) + (xs.getD k 0)) - size))))), .pointer (some ⟨b1, 1, none⟩), .int .i64 (start), .int .i64 (((k : Nat) : Int)), .slice b m d, .int .i64 (((m : Nat) : Int)), .bool (decide (((k : Nat) : Int) < ((m : Nat) : Int))), (y4 16), (y4 17), .int .i64 (lev size start (wantOf ds) (listOf xs) k), .slice b m d, .int .i64 (((k : Nat) : Int)), .pointer (some ((adr b).add (k * 1))), .int .i64 (xs.getD k 0), .int .i64 ((lev size start (wantOf ds) (listOf xs) k) + (xs.getD k 0)), .int .i64 ((lev size start (wantOf ds) (listOf xs) k) + (xs.getD k 0)), .pointer (some ⟨b1, 0, none⟩), .int .i64 (size), .int .i64 (((lev size start (wantOf ds) (listOf xs) k) + (xs.getD k 0)) - size), .int .i64 (max 0 (((lev size start (wantOf ds) (listOf xs) k) + (xs.getD k 0)) - size)), .int .i64 ((lev size start (wantOf ds) (listOf xs) k) + (xs.getD k 0)), .int .i64 (max 0 (((lev size start (wantOf ds) (listOf xs) k) + (xs.getD k 0)) - size)), .int .i64 (((lev size start (wantOf ds) (listOf xs) k) + (xs.getD k 0)) - (max 0 (((lev size start (wantOf ds) (listOf xs) k) + (xs.getD k 0)) - size))), .pointer (some ⟨b1, 2, none⟩), .slice a n c, .int .i64 (((k : Nat) : Int)), .pointer (some ((adr a).add (k * 3))), .pointer (some (((adr a).add (k * 3)).add 2)), .int .i64 ((ds.getD k dz).want), .int .i64 (((lev size start (wantOf ds) (listOf xs) k) + (xs.getD k 0)) - (max 0 (((lev size start (wantOf ds) (listOf xs) k) + (xs.getD k 0)) - size))), .int .i64 (((ds.getD k dz).want) - (((lev size start (wantOf ds) (listOf xs) k) + (xs.getD k 0)) - (max 0 (((lev size start (wantOf ds) (listOf xs) k) + (xs.getD k 0)) - size)))), .int .i64 (max 0 (((ds.getD k dz).want) - (((lev size start (wantOf ds) (listOf xs) k) + (xs.getD k 0)) - (max 0 (((lev size start (wantOf ds) (listOf xs) k) + (xs.getD k 0)) - size))))), .int .i64 (((lev size start (wantOf ds) (listOf xs) k) + (xs.getD k 0)) - (max 0 (((lev size start (wantOf ds) (listOf xs) k) + (xs.getD k 0)) - size))), .pointer (some ⟨b1, 2, none⟩), .slice a n c, .int .i64 (((k : Nat) : Int)), .pointer (some ((adr a).add (k * 3))), .pointer (some (((adr a).add (k * 3)).add 2)), .int .i64 ((ds.getD k dz).want), .int .i64 (max 0 (((ds.getD k dz).want) - (((lev size start (wantOf ds) (listOf xs) k) + (xs.getD k 0)) - (max 0 (((lev size start (wantOf ds) (listOf xs) k) + (xs.getD k 0)) - size))))), .int .i64 (((ds.getD k dz).want) - (max 0 (((ds.getD k dz).want) - (((lev size start (wantOf ds) (listOf xs) k) + (xs.getD k 0)) - (max 0 (((lev size start (wantOf ds) (listOf xs) k) + (xs.getD k 0)) - size)))))), .int .i64 ((((lev size start (wantOf ds) (listOf xs) k) + (xs.getD k 0)) - (max 0 (((lev size start (wantOf ds) (listOf xs) k) + (xs.getD k 0)) - size))) - (((ds.getD k dz).want) - (max 0 (((ds.getD k dz).want) - (((lev size start (wantOf ds) (listOf xs) k) + (xs.getD k 0)) - (max 0 (((lev size start (wantOf ds) (listOf xs) k) + (xs.getD k 0)) - size))))))), (val7 0), (val7 1), (val7 2), (val7 3), (val7 4), (val7 5), (val7 6), (val7 7), (val7 8), (val7 9), (val7 10), (val7 11), (val7 12), (val7 13), (val7 14), (val7 15), (y4 67), (y4 68), undef], [], rfl, rfl, ?_⟩
        exact mix_det (met_none rfl) (fun _ h_ H_ => exd_fieldAddr tF30_2 rfl (a' := ⟨b3, 2, none⟩) rfl) ⟨rfl, rfl⟩
      refine mixes_cons rfl (opmix ?_) ?_
      · intro val7 pc8 hQ_ hX_
        have e10_ : val7 10 = .pointer (some ⟨b3, 2, none⟩) := (hQ_ 10 rfl).1
        refine ⟨[.agg #[.int .i64 (size), .int .i64 (start), .slice a n c], .slice b m d, .pointer (some ⟨b1, 0, none⟩), undef, .pointer (some ⟨b2, 0, none⟩), .pointer (some ⟨b3, 0, none⟩), .int .i64 ((((lev size start (wantOf ds) (listOf xs) k) + (xs.getD k 0)) - (max 0 (((lev size start (wantOf ds) (listOf xs) k) + (xs.getD k 0)) - size))) - (((ds.getD k dz).want) - (max 0 (((ds.getD k dz).want) - (((lev size start (wantOf ds) (listOf xs) k) + (xs.getD k 0)) - (max 0 (((lev size start (wantOf ds) (listOf xs) k) + (xs.getD k 0)) - size))))))), .int .i64 (((k : Nat) : Int)), .int .i64 (max 0 (((lev size start (wantOf ds) (listOf xs) k) + (xs.getD k 0)) - size)), .int .i64 (max 0 (((ds.getD k dz).want) - (((lev size start (wantOf ds) (listOf xs) k) + (xs.getD k 0)) - (max 0 (((lev size start (wantOf ds) (listOf xs) k) + (xs.getD k 0)) - size))))), .pointer (some ⟨b1, 1, none⟩), .int .i64 (start), .int .i64 (((k : Nat) : Int)), .slice b m d, .int .i64 (((m : Nat) : Int)), .bool (decide (((k : Nat) : Int) < ((m : Nat) : Int))), (y4 16), (y4 17), .int .i64 (lev size start (wantOf ds) (listOf xs) k), .slice b m d, .int .i64 (((k : Nat) : Int)), .pointer (some ((adr b).add (k * 1))), .int .i64 (xs.getD k 0), .int .i64 ((lev size start (wantOf ds) (listOf xs) k) + (xs.getD k 0)), .int .i64 ((lev size start (wantOf ds) (listOf xs) k) + (xs.getD k 0)), .pointer (some ⟨b1, 0, none⟩), .int .i64 (size), .int .i64 (((lev size start (wantOf ds) (listOf xs) k) + (xs.getD k 0)) - size), .int .i64 (max 0 (((lev size start (wantOf ds) (listOf xs) k) + (xs.getD k 0)) - size)), .int .i64 ((lev size start (wantOf ds) (listOf xs) k) + (xs.getD k 0)), .int .i64 (max 0 (((lev size start (wantOf ds) (listOf xs) k) + (xs.getD k 0)) - size)), .int .i64 (((lev size start (wantOf ds) (listOf xs) k) + (xs.getD k 0)) - (max 0 (((lev size start (wantOf ds) (listOf xs) k) + (xs.getD k 0)) - size))), .pointer (some ⟨b1, 2, none⟩), .slice a n c, .int .i64 (((k : Nat) : Int)), .pointer (some ((adr a).add (k * 3))), .pointer (some (((adr a).add (k * 3)).add 2)), .int .i64 ((ds.getD k dz).want), .int .i64 (((lev size start (wantOf ds) (listOf xs) k) + (xs.getD k 0)) - (max 0 (((lev size start (wantOf ds) (listOf xs) k) + (xs.getD k 0)) - size))), .int .i64 (((ds.getD k dz).want) - (((lev size start (wantOf ds) (listOf xs) k) + (xs.getD k 0)) - (max 0 (((lev size start (wantOf ds) (listOf xs) k) + (xs.getD k 0)) - size)))), .int .i64 (max 0 (((ds.getD k dz).want) - (((lev size start (wantOf ds) (listOf xs) k) + (xs.getD k 0)) - (max 0 (((lev size start (wantOf ds) (listOf xs) k) + (xs.getD k 0)) - size))))), .int .i64 (((lev size start (wantOf ds) (listOf xs) k) + (xs.getD k 0)) - (max 0 (((lev size start (wantOf ds) (listOf xs) k) + (xs.getD k 0)) - size))), .pointer (some ⟨b1, 2, none⟩), .slice a n c, .int .i64 (((k : Nat) : Int)), .pointer (some ((adr a).add (k * 3))), .pointer (some (((adr a).add (k * 3)).add 2)), .int .i64 ((ds.getD k dz).want), .int .i64 (max 0 (((ds.getD k dz).want) - (((lev size start (wantOf ds) (listOf xs) k) + (xs.getD k 0)) - (max 0 (((lev size start (wantOf ds) (listOf xs) k) + (xs.getD k 0)) - size))))), .int .i64 (((ds.getD k dz).want) - (max 0 (((ds.getD k dz).want) - (((lev size start (wantOf ds) (listOf xs) k) + (xs.getD k 0)) - (max 0 (((lev size start (wantOf ds) (listOf xs) k) + (xs.getD k 0)) - size)))))), .int .i64 ((((lev size start (wantOf ds) (listOf xs) k) + (xs.getD k 0)) - (max 0 (((lev size start (wantOf ds) (listOf xs) k) + (xs.getD k 0)) - size))) - (((ds.getD k dz).want) - (max 0 (((ds.getD k dz).want) - (((lev size start (wantOf ds) (listOf xs) k) + (xs.getD k 0)) - (max 0 (((lev size start (wantOf ds) (listOf xs) k) + (xs.getD k 0)) - size))))))), (val7 0), (val7 1), (val7 2), (val7 3), (val7 4), (val7 5), (val7 6), (val7 7), (val7 8), (val7 9), .pointer (some ⟨b3, 2, none⟩), (val7 11), (val7 12), (val7 13), (val7 14), (val7 15), (y4 67), (y4 68), undef], [], (by simp only [e10_]), rfl, ?_⟩
        exact mix_det (met_none rfl) (fun _ h_ H_ => exd_load_own H_ tA25 rfl (i := 0) rfl (v := w3) rfl) ⟨rfl, rfl⟩
      refine mixes_cons rfl (opmix ?_) ?_
      · intro val7 pc8 hQ_ hX_
        refine ⟨[.agg #[.int .i64 (size), .int .i64 (start), .slice a n c], .slice b m d, .pointer (some ⟨b1, 0, none⟩), undef, .pointer (some ⟨b2, 0, none⟩), .pointer (some ⟨b3, 0, none⟩), .int .i64 ((((lev size start (wantOf ds) (listOf xs) k) + (xs.getD k 0)) - (max 0 (((lev size start (wantOf ds) (listOf xs) k) + (xs.getD k 0)) - size))) - (((ds.getD k dz).want) - (max 0 (((ds.getD k dz).want) - (((lev size start (wantOf ds) (listOf xs) k) + (xs.getD k 0)) - (max 0 (((lev size start (wantOf ds) (listOf xs) k) + (xs.getD k 0)) - size))))))), .int .i64 (((k : Nat) : Int)), .int .i64 (max 0 (((lev size start (wantOf ds) (listOf xs) k) + (xs.getD k 0)) - size)), .int .i64 (max 0 (((ds.getD k dz).want) - (((lev size start (wantOf ds) (listOf xs) k) + (xs.getD k 0)) - (max 0 (((lev size start (wantOf ds) (listOf xs) k) + (xs.getD k 0)) - size))))), .pointer (some ⟨b1, 1, none⟩), .int .i64 (start), .int .i64 (((k : Nat) : Int)), .slice b m d, .int .i64 (((m : Nat) : Int)), .bool (decide (((k : Nat) : Int) < ((m : Nat) : Int))), (y4 16), (y4 17), .int .i64 (lev size start (wantOf ds) (listOf xs) k), .slice b m d, .int .i64 (((k : Nat) : Int)), .pointer (some ((adr b).add (k * 1))), .int .i64 (xs.getD k 0), .int .i64 ((lev size start (wantOf ds) (listOf xs) k) + (xs.getD k 0)), .int .i64 ((lev size start (wantOf ds) (listOf xs) k) + (xs.getD k 0)), .pointer (some ⟨b1, 0, none⟩), .int .i64 (size), .int .i64 (((lev size start (wantOf ds) (listOf xs) k) + (xs.getD k 0)) - size), .int .i64 (max 0 (((lev size start (wantOf ds) (listOf xs) k) + (xs.getD k 0)) - size)), .int .i64 ((lev size start (wantOf ds) (listOf xs) k) + (xs.getD k 0)), .int .i64 (max 0 (((lev size start (wantOf ds) (listOf xs) k) + (xs.getD k 0)) - size)), .int .i64 (((lev size start (wantOf ds) (listOf xs) k) + (xs.getD k 0)) - (max 0 (((lev size start (wantOf ds) (listOf xs) k) + (xs.getD k 0)) - size))), .pointer (some ⟨b1, 2, none⟩), .slice a n c, .int .i64 (((k : Nat) : Int)), .pointer (some ((adr a).add (k * 3))), .pointer (some (((adr a).add (k * 3)).add 2)), .int .i64 ((ds.getD k dz).want), .int .i64 (((lev size start (wantOf ds) (listOf xs) k) + (xs.getD k 0)) - (max 0 (((lev size start (wantOf ds) (listOf xs) k) + (xs.getD k 0)) - size))), .int .i64 (((ds.getD k dz).want) - (((lev size start (wantOf ds) (listOf xs) k) + (xs.getD k 0)) - (max 0 (((lev size start (wantOf ds) (listOf xs) k) + (xs.getD k 0)) - size)))), .int .i64 (max 0 (((ds.getD k dz).want) - (((lev size start (wantOf ds) (listOf xs) k) + (xs.getD k 0)) - (max 0 (((lev size start (wantOf ds) (listOf xs) k) + (xs.getD k 0)) - size))))), .int .i64 (((lev size start (wantOf ds) (listOf xs) k) + (xs.getD k 0)) - (max 0 (((lev size start (wantOf ds) (listOf xs) k) + (xs.getD k 0)) - size))), .pointer (some ⟨b1, 2, none⟩), .slice a n c, .int .i64 (((k : Nat) : Int)), .pointer (some ((adr a).add (k * 3))), .pointer (some (((adr a).add (k * 3)).add 2)), .int .i64 ((ds.getD k dz).want), .int .i64 (max 0 (((ds.getD k dz).want) - (((lev size start (wantOf ds) (listOf xs) k) + (xs.getD k 0)) - (max 0 (((lev size start (wantOf ds) (listOf xs) k) + (xs.getD k 0)) - size))))), .int .i64 (((ds.getD k dz).want) - (max 0 (((ds.getD k dz).want) - (((lev size start (wantOf ds) (listOf xs) k) + (xs.getD k 0)) - (max 0 (((lev size start (wantOf ds) (listOf xs) k) + (xs.getD k 0)) - size)))))), .int .i64 ((((lev size start (wantOf ds) (listOf xs) k) + (xs.getD k 0)) - (max 0 (((lev size start (wantOf ds) (listOf xs) k) + (xs.getD k 0)) - size))) - (((ds.getD k dz).want) - (max 0 (((ds.getD k dz).want) - (((lev size start (wantOf ds) (listOf xs) k) + (xs.getD k 0)) - (max 0 (((lev size start (wantOf ds) (listOf xs) k) + (xs.getD k 0)) - size))))))), (val7 0), (val7 1), (val7 2), (val7 3), (val7 4), (val7 5), (val7 6), (val7 7), (val7 8), (val7 9), (val7 10), (val7 11), (val7 12), (val7 13), (val7 14), (val7 15), (y4 67), (y4 68), undef], [], rfl, rfl, ?_⟩
        exact mix_det (met_none rfl) (fun _ h_ H_ => exd_move (v := .int .i64 (max 0 (((lev size start (wantOf ds) (listOf xs) k) + (xs.getD k 0)) - size))) rfl) ⟨rfl, rfl⟩
      refine mixes_cons rfl (opmix ?_) ?_
      · intro val7 pc8 hQ_ hX_
        have e12_ : val7 12 = .int .i64 (max 0 (((lev size start (wantOf ds) (listOf xs) k) + (xs.getD k 0)) - size)) := (hQ_ 12 rfl).1
        refine ⟨[.agg #[.int .i64 (size), .int .i64 (start), .slice a n c], .slice b m d, .pointer (some ⟨b1, 0, none⟩), undef, .pointer (some ⟨b2, 0, none⟩), .pointer (some ⟨b3, 0, none⟩), .int .i64 ((((lev size start (wantOf ds) (listOf xs) k) + (xs.getD k 0)) - (max 0 (((lev size start (wantOf ds) (listOf xs) k) + (xs.getD k 0)) - size))) - (((ds.getD k dz).want) - (max 0 (((ds.getD k dz).want) - (((lev size start (wantOf ds) (listOf xs) k) + (xs.getD k 0)) - (max 0 (((lev size start (wantOf ds) (listOf xs) k) + (xs.getD k 0)) - size))))))), .int .i64 (((k : Nat) : Int)), .int .i64 (max 0 (((lev size start (wantOf ds) (listOf xs) k) + (xs.getD k 0)) - size)), .int .i64 (max 0 (((ds.getD k dz).want) - (((lev size start (wantOf ds) (listOf xs) k) + (xs.getD k 0)) - (max 0 (((lev size start (wantOf ds) (listOf xs) k) + (xs.getD k 0)) - size))))), .pointer (some ⟨b1, 1, none⟩), .int .i64 (start), .int .i64 (((k : Nat) : Int)), .slice b m d, .int .i64 (((m : Nat) : Int)), .bool (decide (((k : Nat) : Int) < ((m : Nat) : Int))), (y4 16), (y4 17), .int .i64 (lev size start (wantOf ds) (listOf xs) k), .slice b m d, .int .i64 (((k : Nat) : Int)), .pointer (some ((adr b).add (k * 1))), .int .i64 (xs.getD k 0), .int .i64 ((lev size start (wantOf ds) (listOf xs) k) + (xs.getD k 0)), .int .i64 ((lev size start (wantOf ds) (listOf xs) k) + (xs.getD k 0)), .pointer (some ⟨b1, 0, none⟩), .int .i64 (size), .int .i64 (((lev size start (wantOf ds) (listOf xs) k) + (xs.getD k 0)) - size), .int .i64 (max 0 (((lev size start (wantOf ds) (listOf xs) k) + (xs.getD k 0)) - size)), .int .i64 ((lev size start (wantOf ds) (listOf xs) k) + (xs.getD k 0)), .int .i64 (max 0 (((lev size start (wantOf ds) (listOf xs) k) + (xs.getD k 0)) - size)), .int .i64 (((lev size start (wantOf ds) (listOf xs) k) + (xs.getD k 0)) - (max 0 (((lev size start (wantOf ds) (listOf xs) k) + (xs.getD k 0)) - size))), .pointer (some ⟨b1, 2, none⟩), .slice a n c, .int .i64 (((k : Nat) : Int)), .pointer (some ((adr a).add (k * 3))), .pointer (some (((adr a).add (k * 3)).add 2)), .int .i64 ((ds.getD k dz).want), .int .i64 (((lev size start (wantOf ds) (listOf xs) k) + (xs.getD k 0)) - (max 0 (((lev size start (wantOf ds) (listOf xs) k) + (xs.getD k 0)) - size))), .int .i64 (((ds.getD k dz).want) - (((lev size start (wantOf ds) (listOf xs) k) + (xs.getD k 0)) - (max 0 (((lev size start (wantOf ds) (listOf xs) k) + (xs.getD k 0)) - size)))), .int .i64 (max 0 (((ds.getD k dz).want) - (((lev size start (wantOf ds) (listOf xs) k) + (xs.getD k 0)) - (max 0 (((lev size start (wantOf ds) (listOf xs) k) + (xs.getD k 0)) - size))))), .int .i64 (((lev size start (wantOf ds) (listOf xs) k) + (xs.getD k 0)) - (max 0 (((lev size start (wantOf ds) (listOf xs) k) + (xs.getD k 0)) - size))), .pointer (some ⟨b1, 2, none⟩), .slice a n c, .int .i64 (((k : Nat) : Int)), .pointer (some ((adr a).add (k * 3))), .pointer (some (((adr a).add (k * 3)).add 2)), .int .i64 ((ds.getD k dz).want), .int .i64 (max 0 (((ds.getD k dz).want) - (((lev size start (wantOf ds) (listOf xs) k) + (xs.getD k 0)) - (max 0 (((lev size start (wantOf ds) (listOf xs) k) + (xs.getD k 0)) - size))))), .int .i64 (((ds.getD k dz).want) - (max 0 (((ds.getD k dz).want) - (((lev size start (wantOf ds) (listOf xs) k) + (xs.getD k 0)) - (max 0 (((lev size start (wantOf ds) (listOf xs) k) + (xs.getD k 0)) - size)))))), .int .i64 ((((lev size start (wantOf ds) (listOf xs) k) + (xs.getD k 0)) - (max 0 (((lev size start (wantOf ds) (listOf xs) k) + (xs.getD k 0)) - size))) - (((ds.getD k dz).want) - (max 0 (((ds.getD k dz).want) - (((lev size start (wantOf ds) (listOf xs) k) + (xs.getD k 0)) - (max 0 (((lev size start (wantOf ds) (listOf xs) k) + (xs.getD k 0)) - size))))))), (val7 0), (val7 1), (val7 2), (val7 3), (val7 4), (val7 5), (val7 6), (val7 7), (val7 8), (val7 9), (val7 10), (val7 11), .int .i64 (max 0 (((lev size start (wantOf ds) (listOf xs) k) + (xs.getD k 0)) - size)), (val7 13), (val7 14), (val7 15), (y4 67), (y4 68), undef], [], (by simp only [e12_]), rfl, ?_⟩
        exact mix_buildO (met_none rfl) Try.underlying25 tS3 tZ3 (Nat.le_of_ble_eq_true rfl) (vs := [(0, .int .i64 (max 0 (((lev size start (wantOf ds) (listOf xs) k) + (xs.getD k 0)) - size)))]) rfl rfl (es := [[.int .i64 (max 0 (((lev size start (wantOf ds) (listOf xs) k) + (xs.getD k 0)) - size))]]) rfl rfl rfl fun _ _ o_ => o_
      refine mixes_cons rfl (opmix ?_) ?_
      · intro val7 pc8 hQ_ hX_
        have q9_ : OwnS 3 1 (val7 9) (ns (lack size start (wantOf ds) (listOf xs)) k ++ [[.int .i64 (max 0 (((ds.getD k dz).want) - (((lev size start (wantOf ds) (listOf xs) k) + (xs.getD k 0)) - (max 0 (((lev size start (wantOf ds) (listOf xs) k) + (xs.getD k 0)) - size)))))]]) (pc8 9) := hQ_ 9 rfl
        have e11_ : val7 11 = w3 := (hQ_ 11 rfl).1
        have q13_ : OwnS 3 1 (val7 13) [[.int .i64 (max 0 (((lev size start (wantOf ds) (listOf xs) k) + (xs.getD k 0)) - size))]] (pc8 13) := hQ_ 13 rfl
        have x18_ : pc8 18 = X3 := hX_ 18 (by decide)
        refine ⟨[.agg #[.int .i64 (size), .int .i64 (start), .slice a n c], .slice b m d, .pointer (some ⟨b1, 0, none⟩), undef, .pointer (some ⟨b2, 0, none⟩), .pointer (some ⟨b3, 0, none⟩), .int .i64 ((((lev size start (wantOf ds) (listOf xs) k) + (xs.getD k 0)) - (max 0 (((lev size start (wantOf ds) (listOf xs) k) + (xs.getD k 0)) - size))) - (((ds.getD k dz).want) - (max 0 (((ds.getD k dz).want) - (((lev size start (wantOf ds) (listOf xs) k) + (xs.getD k 0)) - (max 0 (((lev size start (wantOf ds) (listOf xs) k) + (xs.getD k 0)) - size))))))), .int .i64 (((k : Nat) : Int)), .int .i64 (max 0 (((lev size start (wantOf ds) (listOf xs) k) + (xs.getD k 0)) - size)), .int .i64 (max 0 (((ds.getD k dz).want) - (((lev size start (wantOf ds) (listOf xs) k) + (xs.getD k 0)) - (max 0 (((lev size start (wantOf ds) (listOf xs) k) + (xs.getD k 0)) - size))))), .pointer (some ⟨b1, 1, none⟩), .int .i64 (start), .int .i64 (((k : Nat) : Int)), .slice b m d, .int .i64 (((m : Nat) : Int)), .bool (decide (((k : Nat) : Int) < ((m : Nat) : Int))), (y4 16), (y4 17), .int .i64 (lev size start (wantOf ds) (listOf xs) k), .slice b m d, .int .i64 (((k : Nat) : Int)), .pointer (some ((adr b).add (k * 1))), .int .i64 (xs.getD k 0), .int .i64 ((lev size start (wantOf ds) (listOf xs) k) + (xs.getD k 0)), .int .i64 ((lev size start (wantOf ds) (listOf xs) k) + (xs.getD k 0)), .pointer (some ⟨b1, 0, none⟩), .int .i64 (size), .int .i64 (((lev size start (wantOf ds) (listOf xs) k) + (xs.getD k 0)) - size), .int .i64 (max 0 (((lev size start (wantOf ds) (listOf xs) k) + (xs.getD k 0)) - size)), .int .i64 ((lev size start (wantOf ds) (listOf xs) k) + (xs.getD k 0)), .int .i64 (max 0 (((lev size start (wantOf ds) (listOf xs) k) + (xs.getD k 0)) - size)), .int .i64 (((lev size start (wantOf ds) (listOf xs) k) + (xs.getD k 0)) - (max 0 (((lev size start (wantOf ds) (listOf xs) k) + (xs.getD k 0)) - size))), .pointer (some ⟨b1, 2, none⟩), .slice a n c, .int .i64 (((k : Nat) : Int)), .pointer (some ((adr a).add (k * 3))), .pointer (some (((adr a).add (k * 3)).add 2)), .int .i64 ((ds.getD k dz).want), .int .i64 (((lev size start (wantOf ds) (listOf xs) k) + (xs.getD k 0)) - (max 0 (((lev size start (wantOf ds) (listOf xs) k) + (xs.getD k 0)) - size))), .int .i64 (((ds.getD k dz).want) - (((lev size start (wantOf ds) (listOf xs) k) + (xs.getD k 0)) - (max 0 (((lev size start (wantOf ds) (listOf xs) k) + (xs.getD k 0)) - size)))), .int .i64 (max 0 (((ds.getD k dz).want) - (((lev size start (wantOf ds) (listOf xs) k) + (xs.getD k 0)) - (max 0 (((lev size start (wantOf ds) (listOf xs) k) + (xs.getD k 0)) - size))))), .int .i64 (((lev size start (wantOf ds) (listOf xs) k) + (xs.getD k 0)) - (max 0 (((lev size start (wantOf ds) (listOf xs) k) + (xs.getD k 0)) - size))), .pointer (some ⟨b1, 2, none⟩), .slice a n c, .int .i64 (((k : Nat) : Int)), .pointer (some ((adr a).add (k * 3))), .pointer (some (((adr a).add (k * 3)).add 2)), .int .i64 ((ds.getD k dz).want), .int .i64 (max 0 (((ds.getD k dz).want) - (((lev size start (wantOf ds) (listOf xs) k) + (xs.getD k 0)) - (max 0 (((lev size start (wantOf ds) (listOf xs) k) + (xs.getD k 0)) - size))))), .int .i64 (((ds.getD k dz).want) - (max 0 (((ds.getD k dz).want) - (((lev size start (wantOf ds) (listOf xs) k) + (xs.getD k 0)) - (max 0 (((lev size start (wantOf ds) (listOf xs) k) + (xs.getD k 0)) - size)))))), .int .i64 ((((lev size start (wantOf ds) (listOf xs) k) + (xs.getD k 0)) - (max 0 (((lev size start (wantOf ds) (listOf xs) k) + (xs.getD k 0)) - size))) - (((ds.getD k dz).want) - (max 0 (((ds.getD k dz).want) - (((lev size start (wantOf ds) (listOf xs) k) + (xs.getD k 0)) - (max 0 (((lev size start (wantOf ds) (listOf xs) k) + (xs.getD k 0)) - size))))))), (val7 0), (val7 1), (val7 2), (val7 3), (val7 4), (val7 5), (val7 6), (val7 7), (val7 8), (val7 9), (val7 10), w3, (val7 12), (val7 13), (val7 14), (val7 15), (y4 67), (y4 68), undef], (X3 ++ ((pc8 13) ++ [])), (by simp only [e11_]), (by rw [← x18_]; rfl), ?_⟩
        exact mix_append (met_none rfl) Try.underlying25 tS3 tZ3 rfl tB3 Try.underlying25 rfl rfl o3 q13_ (ones_of rfl) (by rw [ns_length]; simp only [List.length_cons, List.length_nil]; omega) (by decide) fun _ _ o_ => o_
      refine mixes_cons rfl (opmix ?_) ?_
      · intro val7 pc8 hQ_ hX_
        have e0_ : val7 0 = .pointer (some ⟨b3, 0, none⟩) := (hQ_ 0 rfl).1
        have e1_ : val7 1 = w1 := (hQ_ 1 rfl).1
        have e2_ : val7 2 = .int .i64 ((((lev size start (wantOf ds) (listOf xs) k) + (xs.getD k 0)) - (max 0 (((lev size start (wantOf ds) (listOf xs) k) + (xs.getD k 0)) - size))) - (((ds.getD k dz).want) - (max 0 (((ds.getD k dz).want) - (((lev size start (wantOf ds) (listOf xs) k) + (xs.getD k 0)) - (max 0 (((lev size start (wantOf ds) (listOf xs) k) + (xs.getD k 0)) - size))))))) := (hQ_ 2 rfl).1
        have q3_ : OwnS 3 1 (val7 3) [[.int .i64 ((((lev size start (wantOf ds) (listOf xs) k) + (xs.getD k 0)) - (max 0 (((lev size start (wantOf ds) (listOf xs) k) + (xs.getD k 0)) - size))) - (((ds.getD k dz).want) - (max 0 (((ds.getD k dz).want) - (((lev size start (wantOf ds) (listOf xs) k) + (xs.getD k 0)) - (max 0 (((lev size start (wantOf ds) (listOf xs) k) + (xs.getD k 0)) - size)))))))]] (pc8 3) := hQ_ 3 rfl
        have q4_ : OwnS 3 1 (val7 4) (ns (levs size start (wantOf ds) (listOf xs)) k ++ [[.int .i64 ((((lev size start (wantOf ds) (listOf xs) k) + (xs.getD k 0)) - (max 0 (((lev size start (wantOf ds) (listOf xs) k) + (xs.getD k 0)) - size))) - (((ds.getD k dz).want) - (max 0 (((ds.getD k dz).want) - (((lev size start (wantOf ds) (listOf xs) k) + (xs.getD k 0)) - (max 0 (((lev size start (wantOf ds) (listOf xs) k) + (xs.getD k 0)) - size)))))))]]) (pc8 4) := hQ_ 4 rfl
        have e5_ : val7 5 = .pointer (some ⟨b3, 1, none⟩) := (hQ_ 5 rfl).1
        have e6_ : val7 6 = w2 := (hQ_ 6 rfl).1
        have e10_ : val7 10 = .pointer (some ⟨b3, 2, none⟩) := (hQ_ 10 rfl).1
        have e11_ : val7 11 = w3 := (hQ_ 11 rfl).1
        refine ⟨[.agg #[.int .i64 (size), .int .i64 (start), .slice a n c], .slice b m d, .pointer (some ⟨b1, 0, none⟩), undef, .pointer (some ⟨b2, 0, none⟩), .pointer (some ⟨b3, 0, none⟩), .int .i64 ((((lev size start (wantOf ds) (listOf xs) k) + (xs.getD k 0)) - (max 0 (((lev size start (wantOf ds) (listOf xs) k) + (xs.getD k 0)) - size))) - (((ds.getD k dz).want) - (max 0 (((ds.getD k dz).want) - (((lev size start (wantOf ds) (listOf xs) k) + (xs.getD k 0)) - (max 0 (((lev size start (wantOf ds) (listOf xs) k) + (xs.getD k 0)) - size))))))), .int .i64 (((k : Nat) : Int)), .int .i64 (max 0 (((lev size start (wantOf ds) (listOf xs) k) + (xs.getD k 0)) - size)), .int .i64 (max 0 (((ds.getD k dz).want) - (((lev size start (wantOf ds) (listOf xs) k) + (xs.getD k 0)) - (max 0 (((lev size start (wantOf ds) (listOf xs) k) + (xs.getD k 0)) - size))))), .pointer (some ⟨b1, 1, none⟩), .int .i64 (start), .int .i64 (((k : Nat) : Int)), .slice b m d, .int .i64 (((m : Nat) : Int)), .bool (decide (((k : Nat) : Int) < ((m : Nat) : Int))), (y4 16), (y4 17), .int .i64 (lev size start (wantOf ds) (listOf xs) k), .slice b m d, .int .i64 (((k : Nat) : Int)), .pointer (some ((adr b).add (k * 1))), .int .i64 (xs.getD k 0), .int .i64 ((lev size start (wantOf ds) (listOf xs) k) + (xs.getD k 0)), .int .i64 ((lev size start (wantOf ds) (listOf xs) k) + (xs.getD k 0)), .pointer (some ⟨b1, 0, none⟩), .int .i64 (size), .int .i64 (((lev size start (wantOf ds) (listOf xs) k) + (xs.getD k 0)) - size), .int .i64 (max 0 (((lev size start (wantOf ds) (listOf xs) k) + (xs.getD k 0)) - size)), .int .i64 ((lev size start (wantOf ds) (listOf xs) k) + (xs.getD k 0)), .int .i64 (max 0 (((lev size start (wantOf ds) (listOf xs) k) + (xs.getD k 0)) - size)), .int .i64 (((lev size start (wantOf ds) (listOf xs) k) + (xs.getD k 0)) - (max 0 (((lev size start (wantOf ds) (listOf xs) k) + (xs.getD k 0)) - size))), .pointer (some ⟨b1, 2, none⟩), .slice a n c, .int .i64 (((k : Nat) : Int)), .pointer (some ((adr a).add (k * 3))), .pointer (some (((adr a).add (k * 3)).add 2)), .int .i64 ((ds.getD k dz).want), .int .i64 (((lev size start (wantOf ds) (listOf xs) k) + (xs.getD k 0)) - (max 0 (((lev size start (wantOf ds) (listOf xs) k) + (xs.getD k 0)) - size))), .int .i64 (((ds.getD k dz).want) - (((lev size start (wantOf ds) (listOf xs) k) + (xs.getD k 0)) - (max 0 (((lev size start (wantOf ds) (listOf xs) k) + (xs.getD k 0)) - size)))), .int .i64 (max 0 (((ds.getD k dz).want) - (((lev size start (wantOf ds) (listOf xs) k) + (xs.getD k 0)) - (max 0 (((lev size start (wantOf ds) (listOf xs) k) + (xs.getD k 0)) - size))))), .int .i64 (((lev size start (wantOf ds) (listOf xs) k) + (xs.getD k 0)) - (max 0 (((lev size start (wantOf ds) (listOf xs) k) + (xs.getD k 0)) - size))), .pointer (some ⟨b1, 2, none⟩), .slice a n c, .int .i64 (((k : Nat) : Int)), .pointer (some ((adr a).add (k * 3))), .pointer (some (((adr a).add (k * 3)).add 2)), .int .i64 ((ds.getD k dz).want), .int .i64 (max 0 (((ds.getD k dz).want) - (((lev size start (wantOf ds) (listOf xs) k) + (xs.getD k 0)) - (max 0 (((lev size start (wantOf ds) (listOf xs) k) + (xs.getD k 0)) - size))))), .int .i64 (((ds.getD k dz).want) - (max 0 (((ds.getD k dz).want) - (((lev size start (wantOf ds) (listOf xs) k) + (xs.getD k 0)) - (max 0 (((lev size start (wantOf ds) (listOf xs) k) + (xs.getD k 0)) - size)))))), .int .i64 ((((lev size start (wantOf ds) (listOf xs) k) + (xs.getD k 0)) - (max 0 (((lev size start (wantOf ds) (listOf xs) k) + (xs.getD k 0)) - size))) - (((ds.getD k dz).want) - (max 0 (((ds.getD k dz).want) - (((lev size start (wantOf ds) (listOf xs) k) + (xs.getD k 0)) - (max 0 (((lev size start (wantOf ds) (listOf xs) k) + (xs.getD k 0)) - size))))))), .pointer (some ⟨b3, 0, none⟩), w1, .int .i64 ((((lev size start (wantOf ds) (listOf xs) k) + (xs.getD k 0)) - (max 0 (((lev size start (wantOf ds) (listOf xs) k) + (xs.getD k 0)) - size))) - (((ds.getD k dz).want) - (max 0 (((ds.getD k dz).want) - (((lev size start (wantOf ds) (listOf xs) k) + (xs.getD k 0)) - (max 0 (((lev size start (wantOf ds) (listOf xs) k) + (xs.getD k 0)) - size))))))), (val7 3), (val7 4), .pointer (some ⟨b3, 1, none⟩), w2, (val7 7), (val7 8), (val7 9), .pointer (some ⟨b3, 2, none⟩), w3, (val7 12), (val7 13), (val7 14), (val7 15), (y4 67), (y4 68), undef], [], (by simp only [e0_, e1_, e2_, e5_, e6_, e10_, e11_]), rfl, ?_⟩
        exact mix_det (met_none rfl) (fun _ h_ H_ => exd_fieldAddr tF30_0 rfl (a' := ⟨b3, 0, none⟩) rfl) ⟨rfl, rfl⟩
      exact mixes_nil rfl
    intro val7 pc8 hQ_ hX_
    have e0_ : val7 0 = .pointer (some ⟨b3, 0, none⟩) := (hQ_ 0 (by decide)).1
    have e1_ : val7 1 = w1 := (hQ_ 1 (by decide)).1
    have e2_ : val7 2 = .int .i64 ((((lev size start (wantOf ds) (listOf xs) k) + (xs.getD k 0)) - (max 0 (((lev size start (wantOf ds) (listOf xs) k) + (xs.getD k 0)) - size))) - (((ds.getD k dz).want) - (max 0 (((ds.getD k dz).want) - (((lev size start (wantOf ds) (listOf xs) k) + (xs.getD k 0)) - (max 0 (((lev size start (wantOf ds) (listOf xs) k) + (xs.getD k 0)) - size))))))) := (hQ_ 2 (by decide)).1
    have q4_ : OwnS 3 1 (val7 4) (ns (levs size start (wantOf ds) (listOf xs)) k ++ [[.int .i64 ((((lev size start (wantOf ds) (listOf xs) k) + (xs.getD k 0)) - (max 0 (((lev size start (wantOf ds) (listOf xs) k) + (xs.getD k 0)) - size))) - (((ds.getD k dz).want) - (max 0 (((ds.getD k dz).want) - (((lev size start (wantOf ds) (listOf xs) k) + (xs.getD k 0)) - (max 0 (((lev size start (wantOf ds) (listOf xs) k) + (xs.getD k 0)) - size)))))))]]) (pc8 4) := hQ_ 4 (by decide)
    have e5_ : val7 5 = .pointer (some ⟨b3, 1, none⟩) := (hQ_ 5 (by decide)).1
    have e6_ : val7 6 = w2 := (hQ_ 6 (by decide)).1
    have e7_ : val7 7 = .int .i64 (max 0 (((ds.getD k dz).want) - (((lev size start (wantOf ds) (listOf xs) k) + (xs.getD k 0)) - (max 0 (((lev size start (wantOf ds) (listOf xs) k) + (xs.getD k 0)) - size))))) := (hQ_ 7 (by decide)).1
    have q9_ : OwnS 3 1 (val7 9) (ns (lack size start (wantOf ds) (listOf xs)) k ++ [[.int .i64 (max 0 (((ds.getD k dz).want) - (((lev size start (wantOf ds) (listOf xs) k) + (xs.getD k 0)) - (max 0 (((lev size start (wantOf ds) (listOf xs) k) + (xs.getD k 0)) - size)))))]]) (pc8 9) := hQ_ 9 (by decide)
    have e10_ : val7 10 = .pointer (some ⟨b3, 2, none⟩) := (hQ_ 10 (by decide)).1
    have e11_ : val7 11 = w3 := (hQ_ 11 (by decide)).1
    have e12_ : val7 12 = .int .i64 (max 0 (((lev size start (wantOf ds) (listOf xs) k) + (xs.getD k 0)) - size)) := (hQ_ 12 (by decide)).1
    have q14_ : OwnS 3 1 (val7 14) (ns (ovr size start (wantOf ds) (listOf xs)) k ++ [[.int .i64 (max 0 (((lev size start (wantOf ds) (listOf xs) k) + (xs.getD k 0)) - size))]]) (pc8 14) := hQ_ 14 (by decide)
    have e15_ : val7 15 = .pointer (some ⟨b3, 0, none⟩) := (hQ_ 15 (by decide)).1
    refine rl_as (Φ := fun h_ => St h [] p h_ (([(b3, .cells #[w1, w2, w3] 30 (0, 0)), (b2, .cells #[.slice none 0 0, .slice none 0 0, .slice none 0 0] 30 (0, 0)), (b1, .cells #[.int .i64 (size), .int .i64 (start), .slice a n c] 24 (0, 0))] : Pcs) ++ (pc8 4 ++ (pc8 9 ++ (pc8 14 ++ []))))) ?_ (fun h_ H_ => H_.swap')
    refine rl_norm (tm' := [.agg #[.int .i64 (size), .int .i64 (start), .slice a n c], .slice b m d, .pointer (some ⟨b1, 0, none⟩), undef, .pointer (some ⟨b2, 0, none⟩), .pointer (some ⟨b3, 0, none⟩), .int .i64 ((((lev size start (wantOf ds) (listOf xs) k) + (xs.getD k 0)) - (max 0 (((lev size start (wantOf ds) (listOf xs) k) + (xs.getD k 0)) - size))) - (((ds.getD k dz).want) - (max 0 (((ds.getD k dz).want) - (((lev size start (wantOf ds) (listOf xs) k) + (xs.getD k 0)) - (max 0 (((lev size start (wantOf ds) (listOf xs) k) + (xs.getD k 0)) - size))))))), .int .i64 (((k : Nat) : Int)), .int .i64 (max 0 (((lev size start (wantOf ds) (listOf xs) k) + (xs.getD k 0)) - size)), .int .i64 (max 0 (((ds.getD k dz).want) - (((lev size start (wantOf ds) (listOf xs) k) + (xs.getD k 0)) - (max 0 (((lev size start (wantOf ds) (listOf xs) k) + (xs.getD k 0)) - size))))), .pointer (some ⟨b1, 1, none⟩), .int .i64 (start), .int .i64 (((k : Nat) : Int)), .slice b m d, .int .i64 (((m : Nat) : Int)), .bool (decide (((k : Nat) : Int) < ((m : Nat) : Int))), (y4 16), (y4 17), .int .i64 (lev size start (wantOf ds) (listOf xs) k), .slice b m d, .int .i64 (((k : Nat) : Int)), .pointer (some ((adr b).add (k * 1))), .int .i64 (xs.getD k 0), .int .i64 ((lev size start (wantOf ds) (listOf xs) k) + (xs.getD k 0)), .int .i64 ((lev size start (wantOf ds) (listOf xs) k) + (xs.getD k 0)), .pointer (some ⟨b1, 0, none⟩), .int .i64 (size), .int .i64 (((lev size start (wantOf ds) (listOf xs) k) + (xs.getD k 0)) - size), .int .i64 (max 0 (((lev size start (wantOf ds) (listOf xs) k) + (xs.getD k 0)) - size)), .int .i64 ((lev size start (wantOf ds) (listOf xs) k) + (xs.getD k 0)), .int .i64 (max 0 (((lev size start (wantOf ds) (listOf xs) k) + (xs.getD k 0)) - size)), .int .i64 (((lev size start (wantOf ds) (listOf xs) k) + (xs.getD k 0)) - (max 0 (((lev size start (wantOf ds) (listOf xs) k) + (xs.getD k 0)) - size))), .pointer (some ⟨b1, 2, none⟩), .slice a n c, .int .i64 (((k : Nat) : Int)), .pointer (some ((adr a).add (k * 3))), .pointer (some (((adr a).add (k * 3)).add 2)), .int .i64 ((ds.getD k dz).want), .int .i64 (((lev size start (wantOf ds) (listOf xs) k) + (xs.getD k 0)) - (max 0 (((lev size start (wantOf ds) (listOf xs) k) + (xs.getD k 0)) - size))), .int .i64 (((ds.getD k dz).want) - (((lev size start (wantOf ds) (listOf xs) k) + (xs.getD k 0)) - (max 0 (((lev size start (wantOf ds) (listOf xs) k) + (xs.getD k 0)) - size)))), .int .i64 (max 0 (((ds.getD k dz).want) - (((lev size start (wantOf ds) (listOf xs) k) + (xs.getD k 0)) - (max 0 (((lev size start (wantOf ds) (listOf xs) k) + (xs.getD k 0)) - size))))), .int .i64 (((lev size start (wantOf ds) (listOf xs) k) + (xs.getD k 0)) - (max 0 (((lev size start (wantOf ds) (listOf xs) k) + (xs.getD k 0)) - size))), .pointer (some ⟨b1, 2, none⟩), .slice a n c, .int .i64 (((k : Nat) : Int)), .pointer (some ((adr a).add (k * 3))), .pointer (some (((adr a).add (k * 3)).add 2)), .int .i64 ((ds.getD k dz).want), .int .i64 (max 0 (((ds.getD k dz).want) - (((lev size start (wantOf ds) (listOf xs) k) + (xs.getD k 0)) - (max 0 (((lev size start (wantOf ds) (listOf xs) k) + (xs.getD k 0)) - size))))), .int .i64 (((ds.getD k dz).want) - (max 0 (((ds.getD k dz).want) - (((lev size start (wantOf ds) (listOf xs) k) + (xs.getD k 0)) - (max 0 (((lev size start (wantOf ds) (listOf xs) k) + (xs.getD k 0)) - size)))))), .int .i64 ((((lev size start (wantOf ds) (listOf xs) k) + (xs.getD k 0)) - (max 0 (((lev size start (wantOf ds) (listOf xs) k) + (xs.getD k 0)) - size))) - (((ds.getD k dz).want) - (max 0 (((ds.getD k dz).want) - (((lev size start (wantOf ds) (listOf xs) k) + (xs.getD k 0)) - (max 0 (((lev size start (wantOf ds) (listOf xs) k) + (xs.getD k 0)) - size))))))), .pointer (some ⟨b3, 0, none⟩), w1, .int .i64 ((((lev size start (wantOf ds) (listOf xs) k) + (xs.getD k 0)) - (max 0 (((lev size start (wantOf ds) (listOf xs) k) + (xs.getD k 0)) - size))) - (((ds.getD k dz).want) - (max 0 (((ds.getD k dz).want) - (((lev size start (wantOf ds) (listOf xs) k) + (xs.getD k 0)) - (max 0 (((lev size start (wantOf ds) (listOf xs) k) + (xs.getD k 0)) - size))))))), (val7 3), (val7 4), .pointer (some ⟨b3, 1, none⟩), w2, .int .i64 (max 0 (((ds.getD k dz).want) - (((lev size start (wantOf ds) (listOf xs) k) + (xs.getD k 0)) - (max 0 (((lev size start (wantOf ds) (listOf xs) k) + (xs.getD k 0)) - size))))), (val7 8), (val7 9), .pointer (some ⟨b3, 2, none⟩), w3, .int .i64 (max 0 (((lev size start (wantOf ds) (listOf xs) k) + (xs.getD k 0)) - size)), (val7 13), (val7 14), .pointer (some ⟨b3, 0, none⟩), (y4 67), (y4 68), undef]) (by simp only [e0_, e1_, e2_, e5_, e6_, e7_, e10_, e11_, e12_, e15_]) ?_
    clear hQ_ hX_
    have o10 := q4_
    have o12 := q9_
    have o14 := q14_
    refine rl_store1 (met_none rfl) tS25 rfl (v := (val7 4)) rfl o10.one (i := 0) rfl (Nat.succ_le_iff.1 (Nat.le_of_ble_eq_true rfl)) (cs2 := [(val7 4), w2, w3]) rfl (rl_own (L' := ([(b3, .cells #[(val7 4), w2, w3] 30 (0, 0)), (b2, .cells #[.slice none 0 0, .slice none 0 0, .slice none 0 0] 30 (0, 0)), (b1, .cells #[.int .i64 (size), .int .i64 (start), .slice a n c] 24 (0, 0))] : Pcs) ++ ((pc8 4) ++ ((pc8 9) ++ ((pc8 14) ++ [])))) rfl ?_)
    refine rl_det (met_none rfl) (fun h_ H_ => exd_fieldAddr tF30_1 rfl (a' := ⟨b3, 1, none⟩) rfl) rfl ?_
    refine rl_store1 (met_none rfl) tS25 rfl (v := (val7 9)) rfl o12.one (i := 0) rfl (Nat.succ_le_iff.1 (Nat.le_of_ble_eq_true rfl)) (cs2 := [(val7 4), (val7 9), w3]) rfl (rl_own (L' := ([(b3, .cells #[(val7 4), (val7 9), w3] 30 (0, 0)), (b2, .cells #[.slice none 0 0, .slice none 0 0, .slice none 0 0] 30 (0, 0)), (b1, .cells #[.int .i64 (size), .int .i64 (start), .slice a n c] 24 (0, 0))] : Pcs) ++ ((pc8 4) ++ ((pc8 9) ++ ((pc8 14) ++ [])))) rfl ?_)
    refine rl_det (met_none rfl) (fun h_ H_ => exd_fieldAddr tF30_2 rfl (a' := ⟨b3, 2, none⟩) rfl) (tm' := [_,_,_,_,_,_,_,_,_,_,_,_,_,_,_,_,_,_,_,_,_,_,_,_,_,_,_,_,_,_,_,_,_,_,_,_,_,_,_,_,_,_,_,_,_,_,_,_,_,_,_,_,_,_,_,_,_,_,_,_,_,_,_,_,_,_,_,_,_,_]) rfl ?_
    refine rl_store1 (met_none rfl) tS25 rfl (v := (val7 14)) rfl o14.one (i := 0) rfl (Nat.succ_le_iff.1 (Nat.le_of_ble_eq_true rfl)) (cs2 := [(val7 4), (val7 9), (val7 14)]) rfl (rl_own (L' := ([(b3, .cells #[(val7 4), (val7 9), (val7 14)] 30 (0, 0)), (b2, .cells #[.slice none 0 0, .slice none 0 0, .slice none 0 0] 30 (0, 0)), (b1, .cells #[.int .i64 (size), .int .i64 (start), .slice a n c] 24 (0, 0))] : Pcs) ++ ((pc8 4) ++ ((pc8 9) ++ ((pc8 14) ++ [])))) rfl ?_)
    refine rl_end ?_
    refine fl_inBlock ?_
    refine rl_start ?_
    refine rl_det (met_none rfl) (fun h_ H_ => exd_move (v := .int .i64 (((k : Nat) : Int))) rfl) rfl ?_
    refine rl_det (met_none rfl) (fun h_ H_ => exd_add rfl rfl (n := ((k + 1 : Nat) : Int)) (wr (by omega))) rfl ?_
    refine rl_det (met_none rfl) (fun h_ H_ => exd_assign (v := .int .i64 (((k + 1 : Nat) : Int))) rfl) (tm' := _::_::_::_::_::_::_::_::_) rfl ?_
    refine rl_end ?_
    exact fun h_ H_ => IH5 _ _ (by omega) h_ ⟨k + 1, (val7 4), (val7 9), (val7 14), (pc8 4), (pc8 9), (pc8 14), rfl, (y_of rfl), (by omega), (o10.as (ns_succ _ _).symm), (o12.as (ns_succ _ _).symm), (o14.as (ns_succ _ _).symm), H_⟩
  · refine fl_else rfl (decide_eq_false cc6) ?_
    refine fl_exit rfl ?_
    refine fl_seq ?_
    refine rl_start ?_
    refine rl_det (met_none rfl) (fun h_ H_ => exd_loadN_own H_ tA30 tS30 rfl (i := 0) rfl (vs := [w1, w2, w3]) rfl rfl) rfl ?_
    refine rl_store (met_none rfl) tS30 rfl (v := .agg #[w1, w2, w3]) rfl (i := 1) rfl rfl (ones_cons o1.one.2 (ones_cons o2.one.2 (ones_cons o3.one.2 rfl))) (Nat.le_of_ble_eq_true rfl) (cs2 := [w1, w2, w3]) rfl (rl_own (L' := ([(b3, .cells #[w1, w2, w3] 30 (0, 0)), (b2, .cells #[w1, w2, w3] 30 (0, 0)), (b1, .cells #[.int .i64 (size), .int .i64 (start), .slice a n c] 24 (0, 0))] : Pcs) ++ (X1 ++ (X2 ++ (X3 ++ [])))) rfl ?_)
    refine rl_end ?_
    refine fl_ret Try.func75 rfl (vs := [.agg #[w1, w2, w3]]) (fun h_ H_ => ⟨.agg #[w1, w2, w3], _, rfl, (wpS_bind (wpS_pure (wpS_loadVarN tA30 tS30 (vs := [w1, w2, w3]) rfl (fun j_ v_ e_ => by rw [add_mk]; exact H_.ocell (i := 1) rfl (by simpa using e_)) ⟨rfl, rfl⟩))), rfl⟩) (v := .agg #[w1, w2, w3]) rfl ?_
    obtain rfl : k = n := by omega
    exact fun h_ H_ => K _ _ ⟨_, _, _, _, _, _, rfl, o1, o2, o3, H_.dropA.new⟩
end Go.Proofs.Ytbmkacnlhlbnjaa
namespace Go.Proofs.Ytbmkacnlhlbnjaa
open Go.X Go.X.Cist Go.Conc
set_option maxRecDepth 10000

theorem c37 (md : Md) (h : Heap) (p : PHeap) (hp : Per p h) (size start : Int) (a : Option Addr) (n c : Nat) (ds : List Day) (D : Days p a n ds) (size2 start2 : Int) (a2 : Option Addr) (n2 c2 : Nat) (es : List Day) (E : Days p a2 n2 es) (hn : n ≤ 40) : CallsX Try.prog md 37 #[.agg #[.int .i64 (size), .int .i64 (start), .slice a n c], .agg #[.int .i64 (size2), .int .i64 (start2), .slice a2 n2 c2]] h fun v h' => v = .bool (decide (size = size2 ∧ start = start2 ∧ ds = es)) ∧ Keep h h' := by
  refine calls_intro (Φ := fun h_ => St h [] p h_ []) Try.func37 rfl (tm := [_, _, _, _, _, _, _, _, _, _, _, _, _, _, _, _, _, _, _, _, _, _, _, _, _, _, _, _, _, _, _, _, _, _, _, _, _, _, _, _, _, _, _, _, _]) rfl ?_ (St.start h _ hp)
  intro c₀ cs Stop K
  have hl := D.len
  have hl2 := E.len
  refine fl_seq ?_
  refine rl_start ?_
  refine rl_box (met_none rfl) (v := .agg #[.int .i64 (size), .int .i64 (start), .slice a n c]) rfl fun b1 => rl_own (L' := [(b1, .cells #[.int .i64 (size), .int .i64 (start), .slice a n c] 24 (0, 0))]) rfl ?_
  refine rl_box (met_none rfl) (v := .agg #[.int .i64 (size2), .int .i64 (start2), .slice a2 n2 c2]) rfl fun b2 => rl_own (L' := [(b2, .cells #[.int .i64 (size2), .int .i64 (start2), .slice a2 n2 c2] 24 (0, 0)), (b1, .cells #[.int .i64 (size), .int .i64 (start), .slice a n c] 24 (0, 0))]) rfl ?_
  refine rl_det (met_none rfl) (fun h_ H_ => exd_assign (v := .bool (false)) rfl) (tm' := _::_::_::_::_::_) rfl ?_
  refine rl_end ?_
  refine fl_seq ?_
  refine fl_seq ?_
  refine rl_start ?_
  refine rl_det (met_none rfl) (fun h_ H_ => exd_fieldAddr tF24_0 rfl (a' := ⟨b1, 0, none⟩) rfl) rfl ?_
  refine rl_det (met_none rfl) (fun h_ H_ => exd_load_own H_ tA3 rfl (i := 1) rfl (v := .int .i64 (size)) rfl) rfl ?_
  refine rl_det (met_none rfl) (fun h_ H_ => exd_fieldAddr tF24_0 rfl (a' := ⟨b2, 0, none⟩) rfl) (tm' := _::_::_::_::_::_::_::_::_::_) rfl ?_
  refine rl_det (met_none rfl) (fun h_ H_ => exd_load_own H_ tA3 rfl (i := 0) rfl (v := .int .i64 (size2)) rfl) rfl ?_
  refine rl_det (met_none rfl) (fun h_ H_ => exd_neq rfl rfl) rfl ?_
  refine rl_det (met_none rfl) (fun h_ H_ => exd_move (v := .bool (decide (size ≠ size2))) rfl) (tm' := _::_::_::_::_::_::_::_::_::_::_::_::_) rfl ?_
  by_cases cc3 : size ≠ size2
  · refine rl_pass (met_not rfl rfl (decide_eq_true cc3)) rfl ?_
    refine rl_pass (met_not rfl rfl (decide_eq_true cc3)) rfl ?_
    refine rl_pass (met_not rfl rfl (decide_eq_true cc3)) (tm' := _::_::_::_::_::_::_::_::_::_::_::_::_::_::_::_) rfl ?_
    refine rl_pass (met_not rfl rfl (decide_eq_true cc3)) rfl ?_
    refine rl_pass (met_not rfl rfl (decide_eq_true cc3)) rfl ?_
    refine rl_det (met_none rfl) (fun h_ H_ => exd_pick_t rfl (decide_eq_true cc3) (v := .bool (true)) rfl) (tm' := _::_::_::_::_::_::_::_::_::_::_::_::_::_::_::_::_::_::_) rfl ?_
    refine rl_det (met_none rfl) (fun h_ H_ => exd_move (v := .bool (true)) rfl) rfl ?_
    refine rl_pass (met_not rfl rfl rfl) rfl ?_
    refine rl_pass (met_not rfl rfl rfl) (tm' := _::_::_::_::_::_::_::_::_::_::_::_::_::_::_::_::_::_::_::_::_::_) rfl ?_
    refine rl_pass (met_not rfl rfl rfl) rfl ?_
    refine rl_pass (met_not rfl rfl rfl) rfl ?_
    refine rl_pass (met_not rfl rfl rfl) (tm' := _::_::_::_::_::_::_::_::_::_::_::_::_::_::_::_::_::_::_::_::_::_::_::_::_) rfl ?_
    refine rl_pass (met_not rfl rfl rfl) rfl ?_
    refine rl_pass (met_not rfl rfl rfl) rfl ?_
    refine rl_det (met_none rfl) (fun h_ H_ => exd_pick_t rfl rfl (v := .bool (true)) rfl) (tm' := _::_::_::_::_::_::_::_::_::_::_::_::_::_::_::_::_::_::_::_::_::_::_::_::_::_::_::_) rfl ?_
    refine rl_end ?_
    refine fl_then rfl rfl ?_
    refine fl_seq ?_
    refine rl_start ?_
    refine rl_det (met_none rfl) (fun h_ H_ => exd_assign (v := .bool (false)) rfl) rfl ?_
    refine rl_end ?_
    refine fl_ret Try.func37 rfl (vs := [.bool (false)]) (fun h_ H_ => ⟨.bool (false), _, rfl, rfl, rfl⟩) (v := .bool (false)) rfl ?_
    exact fun h_ H_ => K _ _ ⟨by first | (rw [decide_eq_false]; rintro ⟨e1, e2, e3⟩; first | (exact ‹¬ _› e1) | (exact ‹¬ _› e2) | omega | (subst e3; omega) | (subst e3; simp at *) | (exact ‹¬ _› (by rw [e3]))) | (rw [decide_eq_true]; exact ⟨by omega, by omega, days_yes (by omega) fun i hi => hs i (by omega)⟩), H_.kept⟩
  · refine rl_det (met_some rfl rfl (decide_eq_false cc3)) (fun h_ H_ => exd_fieldAddr tF24_1 rfl (a' := ⟨b1, 1, none⟩) rfl) rfl ?_
    refine rl_det (met_some rfl rfl (decide_eq_false cc3)) (fun h_ H_ => exd_load_own H_ tA3 rfl (i := 1) rfl (v := .int .i64 (start)) rfl) (tm' := _::_::_::_::_::_::_::_::_::_::_::_::_::_::_) rfl ?_
    refine rl_det (met_some rfl rfl (decide_eq_false cc3)) (fun h_ H_ => exd_fieldAddr tF24_1 rfl (a' := ⟨b2, 1, none⟩) rfl) rfl ?_
    refine rl_det (met_some rfl rfl (decide_eq_false cc3)) (fun h_ H_ => exd_load_own H_ tA3 rfl (i := 0) rfl (v := .int .i64 (start2)) rfl) rfl ?_
    refine rl_det (met_some rfl rfl (decide_eq_false cc3)) (fun h_ H_ => exd_neq rfl rfl) (tm' := _::_::_::_::_::_::_::_::_::_::_::_::_::_::_::_::_::_) rfl ?_
    refine rl_det (met_none rfl) (fun h_ H_ => exd_pick_f rfl (decide_eq_false cc3) (v := .bool (decide (start ≠ start2))) rfl) rfl ?_
    refine rl_det (met_none rfl) (fun h_ H_ => exd_move (v := .bool (decide (start ≠ start2))) rfl) rfl ?_
    by_cases cc4 : start ≠ start2
    · refine rl_pass (met_not rfl rfl (decide_eq_true cc4)) (tm' := _::_::_::_::_::_::_::_::_::_::_::_::_::_::_::_::_::_::_::_::_) rfl ?_
      refine rl_pass (met_not rfl rfl (decide_eq_true cc4)) rfl ?_
      refine rl_pass (met_not rfl rfl (decide_eq_true cc4)) rfl ?_
      refine rl_pass (met_not rfl rfl (decide_eq_true cc4)) (tm' := _::_::_::_::_::_::_::_::_::_::_::_::_::_::_::_::_::_::_::_::_::_::_::_) rfl ?_
      refine rl_pass (met_not rfl rfl (decide_eq_true cc4)) rfl ?_
      refine rl_pass (met_not rfl rfl (decide_eq_true cc4)) rfl ?_
      refine rl_pass (met_not rfl rfl (decide_eq_true cc4)) (tm' := _::_::_::_::_::_::_::_::_::_::_::_::_::_::_::_::_::_::_::_::_::_::_::_::_::_::_) rfl ?_
      refine rl_det (met_none rfl) (fun h_ H_ => exd_pick_t rfl (decide_eq_true cc4) (v := .bool (true)) rfl) rfl ?_
      refine rl_end ?_
      refine fl_then rfl rfl ?_
      refine fl_seq ?_
      refine rl_start ?_
      refine rl_det (met_none rfl) (fun h_ H_ => exd_assign (v := .bool (false)) rfl) rfl ?_
      refine rl_end ?_
      refine fl_ret Try.func37 rfl (vs := [.bool (false)]) (fun h_ H_ => ⟨.bool (false), _, rfl, rfl, rfl⟩) (v := .bool (false)) rfl ?_
      exact fun h_ H_ => K _ _ ⟨by first | (rw [decide_eq_false]; rintro ⟨e1, e2, e3⟩; first | (exact ‹¬ _› e1) | (exact ‹¬ _› e2) | omega | (subst e3; omega) | (subst e3; simp at *) | (exact ‹¬ _› (by rw [e3]))) | (rw [decide_eq_true]; exact ⟨by omega, by omega, days_yes (by omega) fun i hi => hs i (by omega)⟩), H_.kept⟩
    · refine rl_det (met_some rfl rfl (decide_eq_false cc4)) (fun h_ H_ => exd_fieldAddr tF24_2 rfl (a' := ⟨b1, 2, none⟩) rfl) (tm' := _::_::_::_::_::_::_::_::_::_::_::_::_::_::_::_::_::_::_::_::_) rfl ?_
      refine rl_det (met_some rfl rfl (decide_eq_false cc4)) (fun h_ H_ => exd_load_own H_ tA22 rfl (i := 1) rfl (v := .slice a n c) rfl) rfl ?_
      refine rl_det (met_some rfl rfl (decide_eq_false cc4)) (fun h_ H_ => exd_len Try.underlying22 rfl) rfl ?_
      refine rl_det (met_some rfl rfl (decide_eq_false cc4)) (fun h_ H_ => exd_fieldAddr tF24_2 rfl (a' := ⟨b2, 2, none⟩) rfl) (tm' := _::_::_::_::_::_::_::_::_::_::_::_::_::_::_::_::_::_::_::_::_::_::_::_) rfl ?_
      refine rl_det (met_some rfl rfl (decide_eq_false cc4)) (fun h_ H_ => exd_load_own H_ tA22 rfl (i := 0) rfl (v := .slice a2 n2 c2) rfl) rfl ?_
      refine rl_det (met_some rfl rfl (decide_eq_false cc4)) (fun h_ H_ => exd_len Try.underlying22 rfl) rfl ?_
      refine rl_det (met_some rfl rfl (decide_eq_false cc4)) (fun h_ H_ => exd_neq rfl rfl) (tm' := _::_::_::_::_::_::_::_::_::_::_::_::_::_::_::_::_::_::_::_::_::_::_::_::_::_::_) rfl ?_
      refine rl_det (met_none rfl) (fun h_ H_ => exd_pick_f rfl (decide_eq_false cc4) (v := .bool (decide (((n : Nat) : Int) ≠ ((n2 : Nat) : Int)))) rfl) rfl ?_
      refine rl_end ?_
      by_cases cc5 : ((n : Nat) : Int) ≠ ((n2 : Nat) : Int)
      · refine fl_then rfl (decide_eq_true cc5) ?_
        refine fl_seq ?_
        refine rl_start ?_
        refine rl_det (met_none rfl) (fun h_ H_ => exd_assign (v := .bool (false)) rfl) rfl ?_
        refine rl_end ?_
        refine fl_ret Try.func37 rfl (vs := [.bool (false)]) (fun h_ H_ => ⟨.bool (false), _, rfl, rfl, rfl⟩) (v := .bool (false)) rfl ?_
        exact fun h_ H_ => K _ _ ⟨by first | (rw [decide_eq_false]; rintro ⟨e1, e2, e3⟩; first | (exact ‹¬ _› e1) | (exact ‹¬ _› e2) | omega | (subst e3; omega) | (subst e3; simp at *) | (exact ‹¬ _› (by rw [e3]))) | (rw [decide_eq_true]; exact ⟨by omega, by omega, days_yes (by omega) fun i hi => hs i (by omega)⟩), H_.kept⟩
      · refine fl_else rfl (decide_eq_false cc5) ?_
        refine fl_skip ?_
        refine fl_seq ?_
        refine fl_seq ?_
        refine rl_start ?_
        refine rl_det (met_none rfl) (fun h_ H_ => exd_assign (v := .int .i64 0) rfl) (tm' := _::_::_::_::_::_::_) rfl ?_
        refine rl_end ?_
        refine fl_block ?_
        refine fl_loop (m₀ := n - 0) (fun m_ tm_ h_ => ∃ (k : Nat), m_ = n - k ∧ (∃ y6 : Nat → Value, tm_ = [.agg #[.int .i64 (size), .int .i64 (start), .slice a n c], .agg #[.int .i64 (size2), .int .i64 (start2), .slice a2 n2 c2], .pointer (some ⟨b1, 0, none⟩), .pointer (some ⟨b2, 0, none⟩), (y6 4), .int .i64 (((k : Nat) : Int)), .pointer (some ⟨b1, 0, none⟩), .int .i64 (size), .pointer (some ⟨b2, 0, none⟩), .int .i64 (size2), .bool (decide (size ≠ size2)), .bool (decide (size ≠ size2)), .pointer (some ⟨b1, 1, none⟩), .int .i64 (start), .pointer (some ⟨b2, 1, none⟩), .int .i64 (start2), .bool (decide (start ≠ start2)), .bool (decide (start ≠ start2)), .bool (decide (start ≠ start2)), .pointer (some ⟨b1, 2, none⟩), .slice a n c, .int .i64 (((n : Nat) : Int)), .pointer (some ⟨b2, 2, none⟩), .slice a2 n2 c2, .int .i64 (((n2 : Nat) : Int)), .bool (decide (((n : Nat) : Int) ≠ ((n2 : Nat) : Int))), .bool (decide (((n : Nat) : Int) ≠ ((n2 : Nat) : Int))), (y6 27), (y6 28), (y6 29), (y6 30), (y6 31), (y6 32), (y6 33), (y6 34), (y6 35), (y6 36), (y6 37), (y6 38), (y6 39), (y6 40), (y6 41), (y6 42), (y6 43), (y6 44)]) ∧ (k ≤ n) ∧ (∀ i, i < k → ds.getD i dz = es.getD i dz) ∧ St h [] p h_ ([(b2, .cells #[.int .i64 (size2), .int .i64 (start2), .slice a2 n2 c2] 24 (0, 0)), (b1, .cells #[.int .i64 (size), .int .i64 (start), .slice a n c] 24 (0, 0))])) (fun h_ H_ => ⟨0, rfl, (y_of rfl), Nat.zero_le _, (fun i hi => absurd hi (Nat.not_lt_zero i)), H_⟩) ?_
        intro m_ tm_ IH7
        refine rs_ex fun k => rs_and fun hm_ => rs_and fun ht_ => rs_and fun hk => rs_and fun hs => ?_
        subst hm_; obtain ⟨y6, ht_⟩ := ht_; subst ht_
        refine fl_seq ?_
        refine fl_seq ?_
        refine rl_start ?_
        refine rl_det (met_none rfl) (fun h_ H_ => exd_move (v := .int .i64 (((k : Nat) : Int))) rfl) rfl ?_
        refine rl_det (met_none rfl) (fun h_ H_ => exd_fieldAddr tF24_2 rfl (a' := ⟨b1, 2, none⟩) rfl) rfl ?_
        refine rl_det (met_none rfl) (fun h_ H_ => exd_load_own H_ tA22 rfl (i := 1) rfl (v := .slice a n c) rfl) (tm' := _::_::_::_::_::_::_::_::_::_::_::_::_::_::_::_::_::_::_::_::_::_::_::_::_::_::_::_::_::_::_) rfl ?_
        refine rl_det (met_none rfl) (fun h_ H_ => exd_len Try.underlying22 rfl) rfl ?_
        refine rl_det (met_none rfl) (fun h_ H_ => exd_lss rfl rfl) rfl ?_
        refine rl_end ?_
        by_cases cc8 : ((k : Nat) : Int) < ((n : Nat) : Int)
        · refine fl_then rfl (decide_eq_true cc8) ?_
          refine fl_skip ?_
          refine fl_seq ?_
          refine fl_block ?_
          refine fl_seq ?_
          refine fl_drawn2 10 [[], [0], [], [0, 1, 2], [0, 1, 2, 3], [], [5], [], [5, 6, 7], [5, 6, 7, 8], []] mixed (by kernel_rfl) (Nat.le_of_ble_eq_true rfl) ?_
          refine swr_det (met_none rfl) (fun h_ H_ => exd_fieldAddr tF24_2 rfl (a' := ⟨b1, 2, none⟩) rfl) rfl ?_
          refine swr_det (met_none rfl) (fun h_ H_ => exd_load_own H_ tA22 rfl (i := 1) rfl (v := .slice a n c) rfl) (tm' := [_,_,_,_,_,_,_,_,_,_,_,_,_,_,_,_,_,_,_,_,_,_,_,_,_,_,_,_,_,_,_,_,_,_,_,_,_,_,_,_,_,_,_,_,_]) rfl ?_
          refine swr_det (met_none rfl) (fun h_ H_ => exd_move (v := .int .i64 (((k : Nat) : Int))) rfl) rfl ?_
          refine swr_det (met_none rfl) (fun h_ H_ => exd_indexAddrN (i := k) Try.underlying22 tS38 (sl_ne a n c (D.ne (by omega))) rfl (by omega)) (tm' := [_,_,_,_,_,_,_,_,_,_,_,_,_,_,_,_,_,_,_,_,_,_,_,_,_,_,_,_,_,_,_,_,_,_,_,_,_,_,_,_,_,_,_,_,_]) rfl ?_
          refine swr_det (met_none rfl) (fun h_ H_ => exd_loadN_per H_ tA38 tS38 rfl (vs := [.int .i64 ((ds.getD k dz).lo), .int .i64 ((ds.getD k dz).hi), .int .i64 ((ds.getD k dz).want)]) rfl (D.all (by omega))) rfl ?_
          refine swr_det (met_none rfl) (fun h_ H_ => exd_fieldAddr tF24_2 rfl (a' := ⟨b2, 2, none⟩) rfl) (tm' := [_,_,_,_,_,_,_,_,_,_,_,_,_,_,_,_,_,_,_,_,_,_,_,_,_,_,_,_,_,_,_,_,_,_,_,_,_,_,_,_,_,_,_,_,_]) rfl ?_
          refine swr_det (met_none rfl) (fun h_ H_ => exd_load_own H_ tA22 rfl (i := 0) rfl (v := .slice a2 n2 c2) rfl) rfl ?_
          refine swr_det (met_none rfl) (fun h_ H_ => exd_move (v := .int .i64 (((k : Nat) : Int))) rfl) (tm' := [_,_,_,_,_,_,_,_,_,_,_,_,_,_,_,_,_,_,_,_,_,_,_,_,_,_,_,_,_,_,_,_,_,_,_,_,_,_,_,_,_,_,_,_,_]) rfl ?_
          refine swr_det (met_none rfl) (fun h_ H_ => exd_indexAddrN (i := k) Try.underlying22 tS38 (sl_ne a2 n2 c2 (E.ne (by omega))) rfl (by omega)) rfl ?_
          refine swr_det (met_none rfl) (fun h_ H_ => exd_loadN_per H_ tA38 tS38 rfl (vs := [.int .i64 ((es.getD k dz).lo), .int .i64 ((es.getD k dz).hi), .int .i64 ((es.getD k dz).want)]) rfl (E.all (by omega))) (tm' := [_,_,_,_,_,_,_,_,_,_,_,_,_,_,_,_,_,_,_,_,_,_,_,_,_,_,_,_,_,_,_,_,_,_,_,_,_,_,_,_,_,_,_,_,_]) rfl ?_
          refine swr_nil rfl ?_
          refine rl_det (met_none rfl) (fun h_ H_ => exd_neqAgg gT38 (dayEq 9997 (ds.getD k dz) (es.getD k dz)) rfl rfl) rfl ?_
          refine rl_end ?_
          by_cases cc9 : (ds.getD k dz) = (es.getD k dz)
          · refine fl_else rfl (not_f (decide_eq_true cc9)) ?_
            refine fl_skip ?_
            refine fl_inBlock ?_
            refine rl_start ?_
            refine rl_det (met_none rfl) (fun h_ H_ => exd_move (v := .int .i64 (((k : Nat) : Int))) rfl) rfl ?_
            refine rl_det (met_none rfl) (fun h_ H_ => exd_add rfl rfl (n := ((k + 1 : Nat) : Int)) (wr (by omega))) (tm' := [_,_,_,_,_,_,_,_,_,_,_,_,_,_,_,_,_,_,_,_,_,_,_,_,_,_,_,_,_,_,_,_,_,_,_,_,_,_,_,_,_,_,_,_,_]) rfl ?_
            refine rl_det (met_none rfl) (fun h_ H_ => exd_assign (v := .int .i64 (((k + 1 : Nat) : Int))) rfl) rfl ?_
            refine rl_end ?_
            exact fun h_ H_ => IH7 _ _ (by omega) h_ ⟨k + 1, rfl, (y_of rfl), (by omega), (eq_step hs (by first | exact Decidable.not_not.1 ‹_› | assumption)), H_⟩
          · refine fl_then rfl (not_t (decide_eq_false cc9)) ?_
            refine fl_seq ?_
            refine rl_start ?_
            refine rl_det (met_none rfl) (fun h_ H_ => exd_assign (v := .bool (false)) rfl) rfl ?_
            refine rl_end ?_
            refine fl_ret Try.func37 rfl (vs := [.bool (false)]) (fun h_ H_ => ⟨.bool (false), _, rfl, rfl, rfl⟩) (v := .bool (false)) rfl ?_
            exact fun h_ H_ => K _ _ ⟨by first | (rw [decide_eq_false]; rintro ⟨e1, e2, e3⟩; first | (exact ‹¬ _› e1) | (exact ‹¬ _› e2) | omega | (subst e3; omega) | (subst e3; simp at *) | (exact ‹¬ _› (by rw [e3]))) | (rw [decide_eq_true]; exact ⟨by omega, by omega, days_yes (by omega) fun i hi => hs i (by omega)⟩), H_.kept⟩
        · refine fl_else rfl (decide_eq_false cc8) ?_
          refine fl_exit rfl ?_
          refine fl_seq ?_
          refine rl_start ?_
          refine rl_det (met_none rfl) (fun h_ H_ => exd_assign (v := .bool (true)) rfl) (tm' := _::_::_::_::_::_) rfl ?_
          refine rl_end ?_
          refine fl_ret Try.func37 rfl (vs := [.bool (true)]) (fun h_ H_ => ⟨.bool (true), _, rfl, rfl, rfl⟩) (v := .bool (true)) rfl ?_
          exact fun h_ H_ => K _ _ ⟨by first | (rw [decide_eq_false]; rintro ⟨e1, e2, e3⟩; first | (exact ‹¬ _› e1) | (exact ‹¬ _› e2) | omega | (subst e3; omega) | (subst e3; simp at *) | (exact ‹¬ _› (by rw [e3]))) | (rw [decide_eq_true]; exact ⟨by omega, by omega, days_yes (by omega) fun i hi => hs i (by omega)⟩), H_.kept⟩
end Go.Proofs.Ytbmkacnlhlbnjaa
namespace Go.X.Cist
open Go.X Go.Proofs.Ytbmkacnlhlbnjaa Go.Conc

/-! ### plain -/
/-- The weathers that begin with 'pre', 'f' days more. -/
def weaG (ds : List Day) : Nat → List Int → List (List Int)
  | 0, pre => [pre]
  | f + 1, pre => (List.range (hiOf ds pre.length - loOf ds pre.length + 1).toNat).flatMap fun i => weaG ds f (pre ++ [loOf ds pre.length + (i : Nat)])
/-- .. of which the next day's rain is one of the first 'j'. -/
def weaP (ds : List Day) (f : Nat) (pre : List Int) (j : Nat) : List (List Int) := (List.range j).flatMap fun i => weaG ds f (pre ++ [loOf ds pre.length + (i : Nat)])
def wea (ds : List Day) : List (List Int) := weaG ds ds.length []

section
variable {ds : List Day} {f j : Nat} {pre xs : List Int}
theorem weaP_succ : weaP ds f pre (j + 1) = weaP ds f pre j ++ weaG ds f (pre ++ [loOf ds pre.length + (j : Nat)]) := by
  unfold weaP; rw [List.range_succ, List.flatMap_append]; simp
theorem flat_len {α β : Type} {g : α → List β} {N : Nat} : ∀ {l : List α}, (∀ x ∈ l, (g x).length ≤ N) → (l.flatMap g).length ≤ l.length * N
  | [], _ => by simp
  | x :: l, h => by
    have h1 := h x (by simp)
    have h2 := flat_len (l := l) fun y hy => h y (by simp [hy])
    rw [List.flatMap_cons, List.length_append, List.length_cons, Nat.add_mul, Nat.one_mul]; omega
theorem weaG_len (hd : Dok ds) : ∀ (f : Nat) (pre : List Int), pre.length + f = ds.length → (weaG ds f pre).length ≤ 21 ^ f
  | 0, _, _ => by simp [weaG]
  | f + 1, pre, h => by
    have h1 := (hd pre.length (by omega)).1
    have h2 := flat_len (l := List.range (hiOf ds pre.length - loOf ds pre.length + 1).toNat) (g := fun i => weaG ds f (pre ++ [loOf ds pre.length + (i : Nat)])) (N := 21 ^ f) fun x _ => weaG_len hd f _ (by simp; omega)
    rw [List.length_range] at h2
    have h3 : (hiOf ds pre.length - loOf ds pre.length + 1).toNat ≤ 21 := by unfold hiOf loOf; omega
    have h4 := Nat.mul_le_mul_right (21 ^ f) h3
    rw [Nat.pow_succ, Nat.mul_comm (21 ^ f) 21]
    exact Nat.le_trans h2 h4
theorem weaP_len (hd : Dok ds) (h : pre.length + (f + 1) = ds.length) : (weaP ds f pre j).length ≤ j * 21 ^ f := by
  have h2 := flat_len (l := List.range j) (g := fun i => weaG ds f (pre ++ [loOf ds pre.length + (i : Nat)])) (N := 21 ^ f) fun x _ => weaG_len hd f _ (by simp; omega)
  rw [List.length_range] at h2; exact h2
theorem pow21 {f : Nat} (h : f + 1 ≤ 8) : 21 ^ f * 21 ≤ 37822859361 := by
  have := Nat.pow_le_pow_right (show 0 < 21 by decide) h
  rw [Nat.pow_succ] at this
  exact this
/-- room for what is appended -/
theorem wea_room (hd : Dok ds) (h : pre.length + (f + 1) = ds.length) (h8 : ds.length ≤ 8) (hj : j < 21) {m k : Nat} (hm : m = (weaP ds f pre j).length) {x : Int} (hk : k = (weaG ds f (pre ++ [x])).length) : (m + k) * 24 ≤ 2 ^ 40 := by
  have h1 := weaP_len (f := f) (pre := pre) hd h (j := j)
  have h2 := weaG_len hd f (pre ++ [x]) (by simp; omega)
  have h3 := pow21 (f := f) (by omega)
  have h4 : (j + 1) * 21 ^ f ≤ 21 * 21 ^ f := Nat.mul_le_mul_right _ (by omega)
  rw [Nat.add_mul, Nat.one_mul] at h4
  rw [Nat.mul_comm] at h3
  omega
theorem mem_weaG (hd : Dok ds) : ∀ (f : Nat) (pre : List Int), pre.length + f = ds.length → ∀ xs, xs ∈ weaG ds f pre ↔ ∃ ys, xs = pre ++ ys ∧ ys.length = f ∧ ∀ i, i < f → loOf ds (pre.length + i) ≤ ys.getD i 0 ∧ ys.getD i 0 ≤ hiOf ds (pre.length + i)
  | 0, pre, _, xs => by
    simp only [weaG, List.mem_singleton]
    constructor
    · rintro rfl; exact ⟨[], by simp, rfl, fun i hi => absurd hi (by omega)⟩
    · rintro ⟨ys, rfl, h, _⟩
      rw [List.eq_nil_of_length_eq_zero h]; simp
  | f + 1, pre, h, xs => by
    simp only [weaG, List.mem_flatMap, List.mem_range]
    have ih := fun x => mem_weaG hd f (pre ++ [x]) (by simp; omega) xs
    constructor
    · rintro ⟨i, hi, hm⟩
      obtain ⟨ys, e, hl, hb⟩ := (ih _).1 hm
      refine ⟨(loOf ds pre.length + (i : Nat)) :: ys, by rw [e]; simp, by simp [hl], fun k hk => ?_⟩
      cases k with
      | zero => simp; omega
      | succ k =>
        have := hb k (by omega)
        simp only [List.length_append, List.length_singleton] at this
        rw [show pre.length + (k + 1) = pre.length + 1 + k from by omega]
        simpa using this
    · rintro ⟨ys, e, hl, hb⟩
      match ys, hl with
      | y :: ys, hl =>
        have h0 := hb 0 (by omega)
        simp at h0
        refine ⟨(y - loOf ds pre.length).toNat, by omega, ?_⟩
        rw [show loOf ds pre.length + (((y - loOf ds pre.length).toNat : Nat) : Int) = y from by omega]
        refine (ih y).2 ⟨ys, by rw [e]; simp, by simpa using hl, fun k hk => ?_⟩
        have := hb (k + 1) (by omega)
        simp only [List.length_append, List.length_singleton]
        rw [show pre.length + 1 + k = pre.length + (k + 1) from by omega]
        simpa using this
theorem mem_wea (hd : Dok ds) : xs ∈ wea ds ↔ Weather ds xs := by
  unfold wea
  rw [mem_weaG hd _ _ (by simp)]
  constructor
  · rintro ⟨ys, rfl, hl, hb⟩
    refine ⟨by simpa using hl, fun i hi => ?_⟩
    have := hb i (by simpa [hl] using hi)
    simpa [loOf, hiOf] using this
  · rintro ⟨hl, hb⟩
    refine ⟨xs, by simp, hl, fun i hi => ?_⟩
    have := hb i (by omega)
    simpa [loOf, hiOf] using this
theorem wea_weather (hd : Dok ds) {i : Nat} (hi : i < (wea ds).length) : Weather ds ((wea ds).getD i []) := by
  rw [← mem_wea hd, List.getD_eq_getElem?_getD, List.getElem?_eq_getElem hi]
  exact List.getElem_mem hi
theorem wea_at (hd : Dok ds) {xs : List Int} (hW : Weather ds xs) : ∃ i, i < (wea ds).length ∧ (wea ds).getD i [] = xs := by
  obtain ⟨i, hi, e⟩ := List.getElem_of_mem ((mem_wea hd).2 hW)
  exact ⟨i, hi, by rw [List.getD_eq_getElem?_getD, List.getElem?_eq_getElem hi]; exact e⟩
/-- how many there are -/
def cntF (ds : List Day) : Nat → Nat → Int
  | 0, _ => 1
  | f + 1, k => (hiOf ds k - loOf ds k + 1) * cntF ds f (k + 1)
theorem flat_const {α β : Type} {g : α → List β} {N : Nat} : ∀ {l : List α}, (∀ x ∈ l, (g x).length = N) → (l.flatMap g).length = l.length * N
  | [], _ => by simp
  | x :: l, h => by
    have h1 := h x (by simp)
    have h2 := flat_const (l := l) fun y hy => h y (by simp [hy])
    rw [List.flatMap_cons, List.length_append, List.length_cons, Nat.add_mul, Nat.one_mul, h1, h2]; omega
theorem weaG_cnt (hd : Dok ds) : ∀ (f : Nat) (pre : List Int), pre.length + f = ds.length → (((weaG ds f pre).length : Nat) : Int) = cntF ds f pre.length
  | 0, _, _ => by simp [weaG, cntF]
  | f + 1, pre, h => by
    have h1 := (hd pre.length (by omega)).1
    have ih : ∀ x : Int, (((weaG ds f (pre ++ [x])).length : Nat) : Int) = cntF ds f (pre.length + 1) := fun x => by
      have := weaG_cnt hd f (pre ++ [x]) (by simp; omega)
      simpa using this
    have h2 := flat_const (l := List.range (hiOf ds pre.length - loOf ds pre.length + 1).toNat) (g := fun i => weaG ds f (pre ++ [loOf ds pre.length + (i : Nat)])) (N := (cntF ds f (pre.length + 1)).toNat) fun x _ => by
      have := ih (loOf ds pre.length + (x : Nat)); omega
    have h3 := ih 0
    simp only [weaG, cntF]
    rw [h2, List.length_range, Int.natCast_mul, Int.toNat_of_nonneg (by unfold hiOf loOf; omega), Int.toNat_of_nonneg (by omega)]
theorem cnt_mul (ds : List Day) : ∀ f k, cnt ds k * cntF ds f k = cnt ds (k + f)
  | 0, k => by simp [cntF]
  | f + 1, k => by
    have := cnt_mul ds f (k + 1)
    rw [show k + (f + 1) = k + 1 + f from by omega, ← this]
    simp only [cntF, cnt]
    rw [Int.mul_assoc]
theorem wea_cnt (hd : Dok ds) : (((wea ds).length : Nat) : Int) = cnt ds ds.length := by
  have h := weaG_cnt hd ds.length [] (by simp)
  have h2 := cnt_mul ds ds.length 0
  simp only [cnt, Int.one_mul, Nat.zero_add] at h2
  unfold wea
  rw [h, ← h2]; rfl
theorem wea_pos (hd : Dok ds) : 0 < (wea ds).length := by
  have h1 := wea_cnt hd
  have h2 := cnt_mono hd (k := ds.length) (Nat.le_refl _)
  omega

/-! ### the least and the greatest -/
def mnF (g : Nat → Int) : Nat → Int
  | 0 => g 0
  | k + 1 => min (mnF g k) (g k)
def mxF (g : Nat → Int) : Nat → Int
  | 0 => g 0
  | k + 1 => max (mxF g k) (g k)
theorem mnF_spec {g : Nat → Int} : ∀ {k : Nat}, 0 < k → (∀ i, i < k → mnF g k ≤ g i) ∧ ∃ i, i < k ∧ mnF g k = g i
  | 1, _ => by
    refine ⟨fun i hi => ?_, 0, by omega, ?_⟩
    · obtain rfl : i = 0 := by omega
      simp only [mnF]; omega
    · simp only [mnF]; omega
  | k + 2, _ => by
    obtain ⟨h1, i, h2, h3⟩ := mnF_spec (g := g) (k := k + 1) (by omega)
    have e : mnF g (k + 2) = min (mnF g (k + 1)) (g (k + 1)) := rfl
    refine ⟨fun i hi => ?_, ?_⟩
    · by_cases c : i = k + 1
      · subst c; omega
      · have := h1 i (by omega); omega
    · by_cases c : mnF g (k + 1) ≤ g (k + 1)
      · exact ⟨i, by omega, by omega⟩
      · exact ⟨k + 1, by omega, by omega⟩
theorem mxF_spec {g : Nat → Int} : ∀ {k : Nat}, 0 < k → (∀ i, i < k → g i ≤ mxF g k) ∧ ∃ i, i < k ∧ mxF g k = g i
  | 1, _ => by
    refine ⟨fun i hi => ?_, 0, by omega, ?_⟩
    · obtain rfl : i = 0 := by omega
      simp only [mxF]; omega
    · simp only [mxF]; omega
  | k + 2, _ => by
    obtain ⟨h1, i, h2, h3⟩ := mxF_spec (g := g) (k := k + 1) (by omega)
    have e : mxF g (k + 2) = max (mxF g (k + 1)) (g (k + 1)) := rfl
    refine ⟨fun i hi => ?_, ?_⟩
    · by_cases c : i = k + 1
      · subst c; omega
      · have := h1 i (by omega); omega
    · by_cases c : g (k + 1) ≤ mxF g (k + 1)
      · exact ⟨i, by omega, by omega⟩
      · exact ⟨k + 1, by omega, by omega⟩
theorem mnF_eq {g : Nat → Int} {k : Nat} {m : Int} (h1 : ∀ i, i < k → m ≤ g i) (h2 : ∃ i, i < k ∧ g i = m) : mnF g k = m := by
  obtain ⟨i, hi, e⟩ := h2
  obtain ⟨a, j, hj, b⟩ := mnF_spec (g := g) (k := k) (by omega)
  have := a i hi; have := h1 j hj; omega
theorem mxF_eq {g : Nat → Int} {k : Nat} {m : Int} (h1 : ∀ i, i < k → g i ≤ m) (h2 : ∃ i, i < k ∧ g i = m) : mxF g k = m := by
  obtain ⟨i, hi, e⟩ := h2
  obtain ⟨a, j, hj, b⟩ := mxF_spec (g := g) (k := k) (by omega)
  have := a i hi; have := h1 j hj; omega
end
end Go.X.Cist
namespace Go.X
open Go.Conc

section
variable {P : Program} {md : Md} {f : FuncId} {r : Rd} {df : List Deferred} {k : List Item} {cs : List Frame} {Stop : Goroutine → Heap → Prop} {ops rest : List Oper} {tm : List Value}
  {h₀ : Heap} {B₀ : List Nat} {p : PHeap} {A X C : Pcs} {T : TypeId} {w : Nat} {v : Value} {es : List (List Value)} {d : Option Tmp} {ty : TypeId} {pos : String} {aft : Array Edge} {gd : Option (Nat × Bool)} {h : Heap}
end
end Go.X
namespace Go.X
open Go.Conc

/-- All of a call's pieces last. -/
theorem rs_lastX {P : Program} {md : Md} {g : Goroutine} {Stop : Goroutine → Heap → Prop} {h₀ : Heap} {B₀ : List Nat} {A C : Pcs} : ∀ {Z : Pcs} {p : PHeap},
    (∀ p', PLe p p' → (∀ x ∈ Z, p' x.1 = some x.2) → RS P md g (fun h => St h₀ B₀ p' h (A ++ C)) Stop) → RS P md g (fun h => St h₀ B₀ p h (A ++ (Z ++ C))) Stop
  | [], p, nx => nx p (.refl p) (by simp)
  | (b, o) :: Z, p, nx => fun h s => by
    have s1 : St h₀ B₀ p h ((b, o) :: (A ++ (Z ++ C))) := s.perm (by simp)
    obtain ⟨le, s2⟩ := s1.last
    refine rs_lastX (Z := Z) (p := padd p b o) (fun p' le' hz => nx p' (le.trans le') fun x hx => ?_) h s2
    rcases List.mem_cons.1 hx with rfl | hx
    · exact le' _ _ padd_self
    · exact hz x hx

section
variable {T : TypeId} {w : Nat} {v : Value} {es : List (List Value)} {X : Pcs} {p p' : PHeap}
/-- A slice whose block lasts. -/
theorem OwnS.inP (o : OwnS T w v es X) (hp : ∀ x ∈ X, p x.1 = some x.2) : ∃ a cap, v = .slice a es.length cap ∧ Sl p a es.length w es := by
  obtain ⟨hw, ⟨rfl, rfl, rfl⟩ | ⟨b, cs, cap, rest, rfl, rfl, hcs, hlen⟩⟩ := o
  · exact ⟨none, 0, rfl, .nil _ _ _⟩
  · refine ⟨some ⟨b, 0, none⟩, cap, rfl, rfl, hw, fun _ => rfl, ?_⟩
    intro i e hi j x hj
    show pcell _ (((⟨b, 0, none⟩ : Addr).add (i * w)).add j) = _
    rw [add_mk, add_mk]
    unfold pcell
    simp only [hp (b, .cells cs.toArray T (0, 0)) (by simp), Option.isSome_none, Bool.false_eq_true, if_false, List.getElem?_toArray, Nat.zero_add]
    rw [hcs, List.getElem?_append_left]
    · exact flatten_get hw hi hj
    · exact (List.getElem?_eq_some_iff.1 (flatten_get hw hi hj)).1
/-- For a call, a slice of one's own lasts. -/
theorem OwnS.lend {h₀ h : Heap} {B₀ : List Nat} {L : Pcs} (o : OwnS T w v es X) (hn : 0 < es.length) (s : St h₀ B₀ p h (X ++ L)) :
    ∃ a cap b ob, v = .slice a es.length cap ∧ X = [(b, ob)] ∧ Per (padd p b ob) h ∧ PLe p (padd p b ob) ∧ Sl (padd p b ob) a es.length w es := by
  obtain ⟨b, cs, cap, rest, e1, e2, _, _⟩ := o.has hn
  have h1 : (X ++ L)[0]? = some (b, .cells (List.toArray cs) T (0, 0)) := by rw [e2]; rfl
  obtain ⟨a, cap', e3, sl⟩ := o.inP (p := padd p b (.cells (List.toArray cs) T (0, 0))) (by rw [e2]; intro x hx; rw [List.mem_singleton.1 hx]; exact padd_self)
  exact ⟨a, cap', b, _, e3, e2, s.perO h1, s.leO h1, sl⟩
end

theorem ones_app {es fs : List (List Value)} (h1 : ∀ u ∈ es.flatten, isOne u = true) (h2 : ∀ u ∈ fs.flatten, isOne u = true) : ∀ u ∈ (es ++ fs).flatten, isOne u = true := fun u hu => by
  rw [List.flatten_append, List.mem_append] at hu
  exact hu.elim (h1 u) (h2 u)

/-! ### slices of ints, in a slice -/
/-- The elements 'es' are slices that read as 'xss'. -/
def Refs (p : PHeap) (es : List (List Value)) (xss : List (List Int)) : Prop := es.length = xss.length ∧ ∀ i, i < xss.length → ∃ a c, es[i]? = some [.slice a (xss.getD i []).length c] ∧ Ints p a (xss.getD i []).length (xss.getD i [])
/-- .. once 'Z' lasts. -/
def Inn (p : PHeap) (es : List (List Value)) (xss : List (List Int)) (Z : Pcs) : Prop := ∀ p', PLe p p' → (∀ x ∈ Z, p' x.1 = some x.2) → Refs p' es xss
section
variable {p : PHeap} {es fs : List (List Value)} {xss yss : List (List Int)} {Z Y : Pcs}
theorem Inn.nil : Inn p [] [] [] := fun _ _ _ => ⟨rfl, fun i hi => absurd hi (by simp)⟩
theorem Inn.one {a : Option Addr} {n c : Nat} {xs : List Int} (D : Ints p a n xs) : Inn p [[.slice a n c]] [xs] [] := fun p' le _ => by
  have hl := D.len
  refine ⟨rfl, fun i hi => ?_⟩
  obtain rfl : i = 0 := by simpa using hi
  exact ⟨a, c, by simp [hl], by simpa [hl] using D.mono le⟩
theorem Inn.app (x : Inn p es xss Z) (y : Inn p fs yss Y) : Inn p (es ++ fs) (xss ++ yss) (Z ++ Y) := fun p' le hz => by
  obtain ⟨l1, r1⟩ := x p' le fun q hq => hz q (by simp [hq])
  obtain ⟨l2, r2⟩ := y p' le fun q hq => hz q (by simp [hq])
  refine ⟨by simp [l1, l2], fun i hi => ?_⟩
  by_cases h : i < xss.length
  · obtain ⟨a, c, e, I⟩ := r1 i h
    have e2 : (xss ++ yss).getD i [] = xss.getD i [] := by rw [List.getD_eq_getElem?_getD, List.getElem?_append_left h, ← List.getD_eq_getElem?_getD]
    exact ⟨a, c, by rw [e2, List.getElem?_append_left (by omega)]; exact e, by rw [e2]; exact I⟩
  · rw [List.length_append] at hi
    obtain ⟨a, c, e, I⟩ := r2 (i - xss.length) (by omega)
    have e2 : (xss ++ yss).getD i [] = yss.getD (i - xss.length) [] := by rw [List.getD_eq_getElem?_getD, List.getElem?_append_right (by omega), ← List.getD_eq_getElem?_getD]
    exact ⟨a, c, by rw [e2, List.getElem?_append_right (by omega), l1]; exact e, by rw [e2]; exact I⟩
theorem Inn.lent {b : Nat} {o : Obj} (hle : PLe p (padd p b o)) (x : Inn (padd p b o) es xss Z) : Inn p es xss (Z ++ [(b, o)]) := fun p' le hz => by
  refine x p' (fun c q hc => ?_) fun y hy => hz y (by simp [hy])
  unfold padd at hc
  split at hc
  · rename_i e; subst e; cases hc; exact hz (c, o) (by simp)
  · exact le c q hc
theorem Inn.as {Y : Pcs} (x : Inn p es xss Z) (e : xss = yss) (e2 : Z = Y) : Inn p es yss Y := by subst e; subst e2; exact x

/-- A slice that lasts, whose elements are slices that last. -/
structure Tab1 (p : PHeap) (a : Option Addr) (k : Nat) (A : Nat → Option Addr) (C : Nat → Nat) (N : Nat → Nat) (xss : Nat → List Int) : Prop where
  ne : 0 < k → a = some (adr a)
  cell : ∀ i, i < k → pcell p ((adr a).add (i * 1)) = some (.slice (A i) (N i) (C i))
  ints : ∀ i, i < k → Ints p (A i) (N i) (xss i)
theorem Tab1.mono {p' : PHeap} {a : Option Addr} {k : Nat} {A : Nat → Option Addr} {C N : Nat → Nat} {xs : Nat → List Int} (h : PLe p p') (t : Tab1 p a k A C N xs) : Tab1 p' a k A C N xs :=
  ⟨t.ne, fun i hi => h.cell (t.cell i hi), fun i hi => (t.ints i hi).mono h⟩
theorem Refs.tab {a : Option Addr} {n : Nat} (r : Refs p es xss) (s : Sl p a n 1 es) : ∃ A C, Tab1 p a xss.length A C (fun i => (xss.getD i []).length) (fun i => xss.getD i []) := by
  obtain ⟨hl, r⟩ := r
  have hn : n = xss.length := by rw [← hl]; exact s.len.symm
  have key : ∀ i : Nat, ∃ y : Option Addr × Nat, i < xss.length → es[i]? = some [.slice y.1 (xss.getD i []).length y.2] ∧ Ints p y.1 (xss.getD i []).length (xss.getD i []) := fun i => by
    by_cases h : i < xss.length
    · obtain ⟨a, c, h1, h2⟩ := r i h
      exact ⟨(a, c), fun _ => ⟨h1, h2⟩⟩
    · exact ⟨(none, 0), fun x => absurd x h⟩
  obtain ⟨F, hF⟩ := Classical.axiomOfChoice key
  refine ⟨fun i => (F i).1, fun i => (F i).2, fun h => s.ne (by omega), fun i hi => ?_, fun i hi => (hF i hi).2⟩
  exact s.get i _ (hF i hi).1 0 _ rfl
end
end Go.X
namespace Go.Proofs.Ytbmkacnlhlbnjaa
open Go.X Go.X.Cist Go.Conc

/-- 'weathers', 'f' days more. -/
def WeaC (f : Nat) : Prop := ∀ (md : Md) (h : Heap) (p : PHeap), Per p h → ∀ (size start : Int) (a : Option Addr) (n c : Nat) (ds : List Day), Days p a n ds → n ≤ 8 → Dok ds → ∀ (b : Option Addr) (m d : Nat) (pre : List Int), Ints p b m pre → m + f = n →
  CallsX Try.prog md 98 #[.agg #[.int .i64 size, .int .i64 start, .slice a n c], .slice b m d] h fun v h' => ∃ es X Z, OwnS 25 1 v es X ∧ Inn p es (weaG ds f pre) Z ∧ es.length = (weaG ds f pre).length ∧ (∀ u ∈ es.flatten, isOne u = true) ∧ New h h' (X ++ (Z ++ []))
theorem lent98 {f : Nat} (hrec : WeaC f) {md : Md} {h h₀ : Heap} {B₀ : List Nat} {p : PHeap} {L Xo : Pcs} {v : Value} {pre : List Int} {size start : Int} {a : Option Addr} {n c : Nat} {ds : List Day} (o : OwnS 3 1 v (pre.map fun x => [.int .i64 x]) Xo) (D : Days p a n ds) (hn : n ≤ 8) (hd : Dok ds)
    (hf : pre.length + f = n) (h0 : 0 < pre.length) (s : St h₀ B₀ p h ((Xo ++ []) ++ L)) :
    CallsX Try.prog md 98 #[.agg #[.int .i64 size, .int .i64 start, .slice a n c], v] h fun v' h' => ∃ x, (∃ w es X Z, v' = w ∧ OwnS 25 1 w es X ∧ Inn p es (weaG ds f pre) Z ∧ es.length = (weaG ds f pre).length ∧ (∀ u ∈ es.flatten, isOne u = true) ∧ x = X ++ (Z ++ [])) ∧ St h₀ B₀ p h' (x ++ L) := by
  rw [List.append_nil] at s
  obtain ⟨a', cap, b, ob, rfl, rfl, hp, le, sl⟩ := o.lend (by rw [List.length_map]; exact h0) s
  rw [List.length_map] at sl ⊢
  refine (hrec md h _ hp size start a n c ds (D.mono le) hn hd a' _ cap pre sl hf).mono fun v' h' ⟨es, X, Z, o', i', l', e', N⟩ => ?_
  refine ⟨X ++ ((Z ++ [(b, ob)]) ++ []), ⟨v', es, X, Z ++ [(b, ob)], rfl, o', i'.lent le, l', e', rfl⟩, ?_⟩
  exact (s.callN N).perm (by simp)

/-- What is known of the weathers found so far. -/
structure WInv (p : PHeap) (ds : List Day) (f m j : Nat) (pre : List Int) (r : Int) (w : Value) (es : List (List Value)) (X Z : Pcs) : Prop where
  hr : r = loOf ds m + ((j : Nat) : Int)
  hj : r ≤ (ds.getD m dz).hi + 1
  o : OwnS 25 1 w es X
  i : Inn p es (weaP ds f pre j) Z
  el : es.length = (weaP ds f pre j).length
  eo : ∀ u ∈ es.flatten, isOne u = true
/-- The levels, lacks and overs in the i-th weather. -/
def yFL (size start : Int) (ds : List Day) (n i : Nat) : List Int := nums (levs size start (wantOf ds) (listOf ((wea ds).getD i []))) n
def yFK (size start : Int) (ds : List Day) (n i : Nat) : List Int := nums (lack size start (wantOf ds) (listOf ((wea ds).getD i []))) n
def yFO (size start : Int) (ds : List Day) (n i : Nat) : List Int := nums (ovr size start (wantOf ds) (listOf ((wea ds).getD i []))) n
/-- The stories of the first 'k' weathers: slices of each. -/
def RefS (p : PHeap) (n : Nat) (F1 F2 F3 : Nat → List Int) (es : List (List Value)) (k : Nat) : Prop := es.length = k ∧ ∀ i, i < k → ∃ a1 c1 a2 c2 a3 c3, es[i]? = some [.slice a1 n c1, .slice a2 n c2, .slice a3 n c3] ∧ Ints p a1 n (F1 i) ∧ Ints p a2 n (F2 i) ∧ Ints p a3 n (F3 i)
def InnS (p : PHeap) (n : Nat) (F1 F2 F3 : Nat → List Int) (es : List (List Value)) (k : Nat) (Z : Pcs) : Prop := ∀ p', PLe p p' → (∀ x ∈ Z, p' x.1 = some x.2) → RefS p' n F1 F2 F3 es k
section
variable {p : PHeap} {n k : Nat} {F1 F2 F3 : Nat → List Int} {es : List (List Value)} {Z X1 X2 X3 : Pcs} {w1 w2 w3 : Value}
theorem InnS.nil : InnS p n F1 F2 F3 [] 0 [] := fun _ _ _ => ⟨rfl, fun i hi => absurd hi (by omega)⟩
theorem InnS.snoc (x : InnS p n F1 F2 F3 es k Z) (o1 : OwnS 3 1 w1 ((F1 k).map fun x => [.int .i64 x]) X1) (o2 : OwnS 3 1 w2 ((F2 k).map fun x => [.int .i64 x]) X2) (o3 : OwnS 3 1 w3 ((F3 k).map fun x => [.int .i64 x]) X3)
    (l1 : (F1 k).length = n) (l2 : (F2 k).length = n) (l3 : (F3 k).length = n) : InnS p n F1 F2 F3 (es ++ [[w1, w2, w3]]) (k + 1) (Z ++ (X1 ++ (X2 ++ X3))) := fun p' le hz => by
  obtain ⟨hl, r⟩ := x p' le fun q hq => hz q (by simp [hq])
  obtain ⟨a1, c1, e1, s1⟩ := o1.inP (p := p') fun q hq => hz q (by simp [hq])
  obtain ⟨a2, c2, e2, s2⟩ := o2.inP (p := p') fun q hq => hz q (by simp [hq])
  obtain ⟨a3, c3, e3, s3⟩ := o3.inP (p := p') fun q hq => hz q (by simp [hq])
  rw [List.length_map] at e1 e2 e3 s1 s2 s3
  refine ⟨by simp [hl], fun i hi => ?_⟩
  by_cases h : i < k
  · obtain ⟨b1, d1, b2, d2, b3, d3, e, q⟩ := r i h
    exact ⟨b1, d1, b2, d2, b3, d3, by rw [List.getElem?_append_left (by omega)]; exact e, q⟩
  · obtain rfl : i = k := by omega
    refine ⟨a1, c1, a2, c2, a3, c3, ?_, by rw [← l1]; exact s1, by rw [← l2]; exact s2, by rw [← l3]; exact s3⟩
    rw [List.getElem?_append_right (by omega), hl, Nat.sub_self, e1, e2, e3, l1, l2, l3]; rfl
structure Tab3 (p : PHeap) (a : Option Addr) (k n : Nat) (A1 : Nat → Option Addr) (C1 : Nat → Nat) (A2 : Nat → Option Addr) (C2 : Nat → Nat) (A3 : Nat → Option Addr) (C3 : Nat → Nat) (F1 F2 F3 : Nat → List Int) : Prop where
  ne : 0 < k → a = some (adr a)
  cell1 : ∀ i, i < k → pcell p ((adr a).add (i * 3)) = some (.slice (A1 i) n (C1 i))
  cell2 : ∀ i, i < k → pcell p (((adr a).add (i * 3)).add 1) = some (.slice (A2 i) n (C2 i))
  cell3 : ∀ i, i < k → pcell p (((adr a).add (i * 3)).add 2) = some (.slice (A3 i) n (C3 i))
  ints1 : ∀ i, i < k → Ints p (A1 i) n (F1 i)
  ints2 : ∀ i, i < k → Ints p (A2 i) n (F2 i)
  ints3 : ∀ i, i < k → Ints p (A3 i) n (F3 i)
theorem Tab3.mono {p' : PHeap} {a : Option Addr} {A1 A2 A3 : Nat → Option Addr} {C1 C2 C3 : Nat → Nat} (h : PLe p p') (t : Tab3 p a k n A1 C1 A2 C2 A3 C3 F1 F2 F3) : Tab3 p' a k n A1 C1 A2 C2 A3 C3 F1 F2 F3 :=
  ⟨t.ne, fun i hi => h.cell (t.cell1 i hi), fun i hi => h.cell (t.cell2 i hi), fun i hi => h.cell (t.cell3 i hi), fun i hi => (t.ints1 i hi).mono h, fun i hi => (t.ints2 i hi).mono h, fun i hi => (t.ints3 i hi).mono h⟩
theorem Tab3.all {a : Option Addr} {A1 A2 A3 : Nat → Option Addr} {C1 C2 C3 : Nat → Nat} (t : Tab3 p a k n A1 C1 A2 C2 A3 C3 F1 F2 F3) {i : Nat} (hi : i < k) : ∀ j v, [Value.slice (A1 i) n (C1 i), .slice (A2 i) n (C2 i), .slice (A3 i) n (C3 i)][j]? = some v → pcell p (((adr a).add (i * 3)).add j) = some v := fun j v hv => by
  match j, hv with
  | 0, hv => cases hv; exact t.cell1 i hi
  | 1, hv => cases hv; exact t.cell2 i hi
  | 2, hv => cases hv; exact t.cell3 i hi
  | j + 3, hv => simp at hv
theorem RefS.tab {a : Option Addr} {m : Nat} (r : RefS p n F1 F2 F3 es k) (s : Sl p a m 3 es) : ∃ A1 C1 A2 C2 A3 C3, Tab3 p a k n A1 C1 A2 C2 A3 C3 F1 F2 F3 := by
  obtain ⟨hl, r⟩ := r
  have hn : m = k := by rw [← hl]; exact s.len.symm
  have key : ∀ i : Nat, ∃ y : (Option Addr × Nat) × (Option Addr × Nat) × (Option Addr × Nat), i < k → es[i]? = some [.slice y.1.1 n y.1.2, .slice y.2.1.1 n y.2.1.2, .slice y.2.2.1 n y.2.2.2] ∧ Ints p y.1.1 n (F1 i) ∧ Ints p y.2.1.1 n (F2 i) ∧ Ints p y.2.2.1 n (F3 i) := fun i => by
    by_cases h : i < k
    · obtain ⟨a1, c1, a2, c2, a3, c3, h1, h2⟩ := r i h
      exact ⟨((a1, c1), (a2, c2), (a3, c3)), fun _ => ⟨h1, h2⟩⟩
    · exact ⟨((none, 0), (none, 0), (none, 0)), fun x => absurd x h⟩
  obtain ⟨F, hF⟩ := Classical.axiomOfChoice key
  exact ⟨fun i => (F i).1.1, fun i => (F i).1.2, fun i => (F i).2.1.1, fun i => (F i).2.1.2, fun i => (F i).2.2.1, fun i => (F i).2.2.2, fun h => s.ne (by omega),
    fun i hi => s.get i _ (hF i hi).1 0 _ rfl, fun i hi => s.get i _ (hF i hi).1 1 _ rfl, fun i hi => s.get i _ (hF i hi).1 2 _ rfl, fun i hi => (hF i hi).2.1, fun i hi => (hF i hi).2.2.1, fun i hi => (hF i hi).2.2.2⟩
end
structure SInv (p : PHeap) (size start : Int) (ds : List Day) (n k : Nat) (w : Value) (es : List (List Value)) (X Z : Pcs) : Prop where
  hk : k ≤ (wea ds).length
  o : OwnS 30 3 w es X
  i : InnS p n (yFL size start ds n) (yFK size start ds n) (yFO size start ds n) es k Z
  el : es.length = k
theorem Tab1.const {p : PHeap} {a : Option Addr} {k n : Nat} {A : Nat → Option Addr} {C N : Nat → Nat} {xs : Nat → List Int} (t : Tab1 p a k A C N xs) (h : ∀ i, i < k → N i = n) : Tab1 p a k A C (fun _ => n) xs :=
  ⟨t.ne, fun i hi => by rw [t.cell i hi, h i hi], fun i hi => by rw [← h i hi]; exact t.ints i hi⟩
theorem wea_len {ds : List Day} {n : Nat} (hd : Dok ds) (hl : ds.length = n) : ∀ i, i < (wea ds).length → ((wea ds).getD i []).length = n := fun i hi => by rw [(wea_weather hd hi).1, hl]
end Go.Proofs.Ytbmkacnlhlbnjaa
namespace Go.Proofs.Ytbmkacnlhlbnjaa
open Go.X Go.X.Cist Go.Conc
set_option maxRecDepth 10000

theorem c98s (md : Md) (h : Heap) (p : PHeap) (hp : Per p h) (size start : Int) (a : Option Addr) (n c : Nat) (ds : List Day) (D : Days p a n ds) (hn : n ≤ 8) (hd : Dok ds) (b : Option Addr) (m d : Nat) (pre : List Int) (W : Ints p b m pre) (f : Nat) (hf : m + f = n) (hrec : ∀ f', f = f' + 1 → WeaC f') : CallsX Try.prog md 98 #[.agg #[.int .i64 (size), .int .i64 (start), .slice a n c], .slice b m d] h fun v h' => ∃ es X Z, OwnS 25 1 v es X ∧ Inn p es (weaG ds f pre) Z ∧ es.length = (weaG ds f pre).length ∧ (∀ u ∈ es.flatten, isOne u = true) ∧ New h h' (X ++ (Z ++ [])) := by
  refine calls_intro (Φ := fun h_ => St h [] p h_ []) Try.func98 rfl (tm := [_, _, _, _, _, _, _, _, _, _, _, _, _, _, _, _, _, _, _, _, _, _, _, _, _, _, _, _, _, _, _, _, _, _, _, _, _, _, _, _, _, _, _]) rfl ?_ (St.start h _ hp)
  intro c₀ cs Stop K
  have hl := D.len
  have hm := W.len
  refine fl_seq ?_
  refine rl_start ?_
  refine rl_box (met_none rfl) (v := .agg #[.int .i64 (size), .int .i64 (start), .slice a n c]) rfl fun b1 => rl_own (L' := [(b1, .cells #[.int .i64 (size), .int .i64 (start), .slice a n c] 24 (0, 0))]) rfl ?_
  refine rl_det (met_none rfl) (fun h_ H_ => exd_assign (v := .slice none 0 0) rfl) rfl ?_
  refine rl_end ?_
  refine fl_seq ?_
  refine fl_seq ?_
  refine rl_start ?_
  refine rl_det (met_none rfl) (fun h_ H_ => exd_move (v := .slice b m d) rfl) (tm' := _::_::_::_::_::_::_::_::_::_) rfl ?_
  refine rl_det (met_none rfl) (fun h_ H_ => exd_len Try.underlying25 rfl) rfl ?_
  refine rl_det (met_none rfl) (fun h_ H_ => exd_fieldAddr tF24_2 rfl (a' := ⟨b1, 2, none⟩) rfl) rfl ?_
  refine rl_det (met_none rfl) (fun h_ H_ => exd_load_own H_ tA22 rfl (i := 0) rfl (v := .slice a n c) rfl) (tm' := _::_::_::_::_::_::_::_::_::_::_::_::_) rfl ?_
  refine rl_det (met_none rfl) (fun h_ H_ => exd_len Try.underlying22 rfl) rfl ?_
  refine rl_det (met_none rfl) (fun h_ H_ => exd_eql rfl rfl) rfl ?_
  refine rl_end ?_
  by_cases cc2 : ((m : Nat) : Int) = ((n : Nat) : Int)
  · refine fl_then rfl (decide_eq_true cc2) ?_
    refine fl_seq ?_
    refine rl_start ?_
    refine rl_det (met_none rfl) (fun h_ H_ => exd_move (v := .slice b m d) rfl) (tm' := _::_::_::_::_::_::_::_::_::_::_::_::_::_::_::_) rfl ?_
    refine rl_own (L' := ([(b1, .cells #[.int .i64 (size), .int .i64 (start), .slice a n c] 24 (0, 0))] : Pcs) ++ []) rfl ?_
    refine rl_buildO ([(b1, .cells #[.int .i64 (size), .int .i64 (start), .slice a n c] 24 (0, 0))] : Pcs) (met_none rfl) Try.underlying108 tS25 tZ25 (Nat.le_of_ble_eq_true rfl) (vs := [(0, .slice b m d)]) rfl rfl (es := [[.slice b m d]]) rfl rfl rfl fun v3 X4 o5 => ?_
    refine rl_det (met_none rfl) (fun h_ H_ => exd_assign (v := v3) rfl) rfl ?_
    refine rl_end ?_
    refine fl_ret Try.func98 rfl (vs := [v3]) (fun h_ H_ => ⟨v3, _, rfl, rfl, rfl⟩) (v := v3) rfl ?_
    obtain rfl : f = 0 := by omega
    exact fun h_ H_ => K _ _ ⟨_, _, [], o5, Inn.one W, rfl, (by simp [isOne]), by simpa using H_.dropA.new⟩
  · refine fl_else rfl (decide_eq_false cc2) ?_
    refine fl_skip ?_
    refine fl_seq ?_
    obtain ⟨f0, rfl⟩ : ∃ f0, f = f0 + 1 := ⟨f - 1, by omega⟩
    have hdm := (hd m (by omega)).1
    refine rl_start ?_
    refine rl_det (met_none rfl) (fun h_ H_ => exd_assign (v := .slice none 0 0) rfl) (tm' := _::_::_::_::_::_::_) rfl ?_
    refine rl_end ?_
    refine fl_seq ?_
    refine rl_start ?_
    refine rl_det (met_none rfl) (fun h_ H_ => exd_fieldAddr tF24_2 rfl (a' := ⟨b1, 2, none⟩) rfl) rfl ?_
    refine rl_det (met_none rfl) (fun h_ H_ => exd_load_own H_ tA22 rfl (i := 0) rfl (v := .slice a n c) rfl) rfl ?_
    refine rl_det (met_none rfl) (fun h_ H_ => exd_move (v := .slice b m d) rfl) (tm' := _::_::_::_::_::_::_::_::_::_::_::_::_::_::_::_::_::_::_::_) rfl ?_
    refine rl_det (met_none rfl) (fun h_ H_ => exd_len Try.underlying25 rfl) rfl ?_
    refine rl_det (met_none rfl) (fun h_ H_ => exd_indexAddrN (i := m) Try.underlying22 tS38 (sl_ne a n c (D.ne (by omega))) rfl (by omega)) rfl ?_
    refine rl_det (met_none rfl) (fun h_ H_ => exd_loadN_per H_ tA38 tS38 rfl (vs := [.int .i64 ((ds.getD m dz).lo), .int .i64 ((ds.getD m dz).hi), .int .i64 ((ds.getD m dz).want)]) rfl (D.all (by omega))) (tm' := _::_::_::_::_::_::_::_::_::_::_::_::_::_::_::_::_::_::_::_::_::_::_) rfl ?_
    refine rl_alloc (met_none rfl) tZ38 rfl fun b6 => rl_own (L' := [(b6, .cells #[.int .i64 0, .int .i64 0, .int .i64 0] 38 (0, 0)), (b1, .cells #[.int .i64 (size), .int .i64 (start), .slice a n c] 24 (0, 0))]) rfl ?_
    refine rl_store (met_none rfl) tS38 rfl (v := .agg #[.int .i64 ((ds.getD m dz).lo), .int .i64 ((ds.getD m dz).hi), .int .i64 ((ds.getD m dz).want)]) rfl (i := 0) rfl rfl rfl (Nat.le_of_ble_eq_true rfl) (cs2 := [.int .i64 ((ds.getD m dz).lo), .int .i64 ((ds.getD m dz).hi), .int .i64 ((ds.getD m dz).want)]) rfl (rl_own (L' := [(b6, .cells #[.int .i64 ((ds.getD m dz).lo), .int .i64 ((ds.getD m dz).hi), .int .i64 ((ds.getD m dz).want)] 38 (0, 0)), (b1, .cells #[.int .i64 (size), .int .i64 (start), .slice a n c] 24 (0, 0))]) rfl ?_)
    refine rl_end ?_
    refine fl_seq ?_
    refine fl_seq ?_
    refine rl_start ?_
    refine rl_det (met_none rfl) (fun h_ H_ => exd_fieldAddr tF38_0 rfl (a' := ⟨b6, 0, none⟩) rfl) rfl ?_
    refine rl_det (met_none rfl) (fun h_ H_ => exd_fieldAddr tF36_0 rfl (a' := ⟨b6, 0, none⟩) rfl) (tm' := _::_::_::_::_::_::_::_::_::_::_::_::_::_::_::_::_::_::_::_::_::_::_::_::_) rfl ?_
    refine rl_det (met_none rfl) (fun h_ H_ => exd_load_own H_ tA3 rfl (i := 0) rfl (v := .int .i64 ((ds.getD m dz).lo)) rfl) rfl ?_
    refine rl_det (met_none rfl) (fun h_ H_ => exd_assign (v := .int .i64 ((ds.getD m dz).lo)) rfl) rfl ?_
    refine rl_end ?_
    refine fl_block ?_
    refine fl_loop (m₀ := ((ds.getD m dz).hi + 1 - (ds.getD m dz).lo).toNat) (fun m_ tm_ h_ => ∃ (j : Nat) (r : Int) (w : Value) (es : List (List Value)) (X : Pcs) (Z : Pcs), m_ = ((ds.getD m dz).hi + 1 - r).toNat ∧ (∃ y7 : Nat → Value, tm_ = [.agg #[.int .i64 (size), .int .i64 (start), .slice a n c], .slice b m d, .pointer (some ⟨b1, 0, none⟩), undef, .slice none 0 0, w, .pointer (some ⟨b6, 0, none⟩), .int .i64 (r), .slice b m d, .int .i64 (((m : Nat) : Int)), .pointer (some ⟨b1, 2, none⟩), .slice a n c, .int .i64 (((n : Nat) : Int)), .bool (decide (((m : Nat) : Int) = ((n : Nat) : Int))), undef, undef, .pointer (some ⟨b1, 2, none⟩), .slice a n c, .slice b m d, .int .i64 (((m : Nat) : Int)), .pointer (some ((adr a).add (m * 3))), .agg #[.int .i64 ((ds.getD m dz).lo), .int .i64 ((ds.getD m dz).hi), .int .i64 ((ds.getD m dz).want)], .pointer (some ⟨b6, 0, none⟩), .pointer (some ⟨b6, 0, none⟩), .int .i64 ((ds.getD m dz).lo), (y7 25), (y7 26), (y7 27), (y7 28), (y7 29), (y7 30), (y7 31), (y7 32), (y7 33), (y7 34), (y7 35), (y7 36), (y7 37), (y7 38), (y7 39), (y7 40), (y7 41), undef]) ∧ (WInv p ds f0 m j pre r w es X Z) ∧ St h [] p h_ (([(b6, .cells #[.int .i64 ((ds.getD m dz).lo), .int .i64 ((ds.getD m dz).hi), .int .i64 ((ds.getD m dz).want)] 38 (0, 0)), (b1, .cells #[.int .i64 (size), .int .i64 (start), .slice a n c] 24 (0, 0))] : Pcs) ++ (X ++ (Z ++ [])))) (fun h_ H_ => ⟨0, _, _, [], [], [], rfl, (y_of rfl), ⟨(by simp [loOf]), (by omega), OwnS.empty _ _, Inn.nil, rfl, (by simp)⟩, H_⟩) ?_
    intro m_ tm_ IH8
    refine rs_ex fun j => rs_ex fun r => rs_ex fun w => rs_ex fun es => rs_ex fun X => rs_ex fun Z => rs_and fun hm_ => rs_and fun ht_ => rs_and fun hI => ?_
    subst hm_; obtain ⟨y7, ht_⟩ := ht_; subst ht_
    have hr := hI.hr; have hj := hI.hj; have o := hI.o; have i_ := hI.i; have el := hI.el; have eo := hI.eo
    have hlo : loOf ds m = (ds.getD m dz).lo := rfl
    have hr2 : r = loOf ds pre.length + ((j : Nat) : Int) := by rw [hm]; exact hr
    refine fl_seq ?_
    refine fl_seq ?_
    refine rl_start ?_
    refine rl_det (met_none rfl) (fun h_ H_ => exd_move (v := .int .i64 (r)) rfl) (tm' := _::_::_::_::_::_::_::_::_::_::_::_::_::_::_::_::_::_::_::_::_::_::_::_::_::_::_) rfl ?_
    refine rl_det (met_none rfl) (fun h_ H_ => exd_fieldAddr tF38_0 rfl (a' := ⟨b6, 0, none⟩) rfl) rfl ?_
    refine rl_det (met_none rfl) (fun h_ H_ => exd_fieldAddr tF36_1 rfl (a' := ⟨b6, 1, none⟩) rfl) rfl ?_
    refine rl_det (met_none rfl) (fun h_ H_ => exd_load_own H_ tA3 rfl (i := 0) rfl (v := .int .i64 ((ds.getD m dz).hi)) rfl) (tm' := [_,_,_,_,_,_,_,_,_,_,_,_,_,_,_,_,_,_,_,_,_,_,_,_,_,_,_,_,_,_,_,_,_,_,_,_,_,_,_,_,_,_,_]) rfl ?_
    refine rl_det (met_none rfl) (fun h_ H_ => exd_leq rfl rfl) rfl ?_
    refine rl_end ?_
    by_cases cc9 : r ≤ (ds.getD m dz).hi
    · refine fl_then rfl (decide_eq_true cc9) ?_
      refine fl_skip ?_
      refine fl_seq ?_
      refine fl_block ?_
      obtain ⟨Gw12, Ges13, GX14, GZ15, hG8_⟩ := sk4 (fun (v_ : Value) (x_ : Pcs) (w12 : Value) (es13 : List (List Value)) (X14 : Pcs) (Z15 : Pcs) => v_ = w12 ∧ (OwnS 25 1 w12 es13 X14) ∧ (Inn p es13 (weaG ds f0 (pre ++ [r])) Z15) ∧ (es13.length = (weaG ds f0 (pre ++ [r])).length) ∧ (∀ u ∈ es13.flatten, isOne u = true) ∧ x_ = (X14 ++ (Z15 ++ [])))
      refine rs_as (fl_mixed2 (C := []) (A := ([(b6, .cells #[.int .i64 ((ds.getD m dz).lo), .int .i64 ((ds.getD m dz).hi), .int .i64 ((ds.getD m dz).want)] 38 (0, 0)), (b1, .cells #[.int .i64 (size), .int .i64 (start), .slice a n c] 24 (0, 0))] : Pcs)) 9 [[], [], [], [], [2, 3], [], [5], [2, 3, 4, 5, 6], [1, 2, 3, 4, 5, 6, 7], [], []] [9, 10] [9, 10, 8] [0, 1, 3, 5] (fun i_ => match i_ with | 9 => X | 10 => Z | _ => []) (fun i_ => match i_ with | 4 => [2] | 7 => [4, 6] | 8 => [7] | _ => []) (fun i_ => match i_ with | 0 => [] | 1 => [] | 2 => [] | 3 => [] | 4 => [2, 3] | 5 => [] | 6 => [5] | 7 => [4, 6] | 8 => [1, 7] | _ => []) (fun i_ val_ pc_ v_ x_ => match i_ with | 0 => v_ = w ∧ x_ = [] | 1 => v_ = .agg #[.int .i64 (size), .int .i64 (start), .slice a n c] ∧ x_ = [] | 2 => OwnS 3 1 v_ [] x_ | 3 => v_ = .slice b m d ∧ x_ = [] | 4 => OwnS 3 1 v_ ([] ++ (pre.map fun x => [Value.int .i64 x])) x_ | 5 => v_ = .int .i64 (r) ∧ x_ = [] | 6 => OwnS 3 1 v_ [[.int .i64 (r)]] x_ | 7 => OwnS 3 1 v_ (([] ++ (pre.map fun x => [Value.int .i64 x])) ++ [[.int .i64 (r)]]) x_ | 8 => ∃ w12 : Value, ∃ es13 : List (List Value), ∃ X14 : Pcs, ∃ Z15 : Pcs, v_ = w12 ∧ (OwnS 25 1 w12 es13 X14) ∧ (Inn p es13 (weaG ds f0 (pre ++ [r])) Z15) ∧ (es13.length = (weaG ds f0 (pre ++ [r])).length) ∧ (∀ u ∈ es13.flatten, isOne u = true) ∧ x_ = (X14 ++ (Z15 ++ [])) | _ => True) (fun val10 => [.agg #[.int .i64 (size), .int .i64 (start), .slice a n c], .slice b m d, .pointer (some ⟨b1, 0, none⟩), undef, .slice none 0 0, w, .pointer (some ⟨b6, 0, none⟩), .int .i64 (r), .slice b m d, .int .i64 (((m : Nat) : Int)), .pointer (some ⟨b1, 2, none⟩), .slice a n c, .int .i64 (((n : Nat) : Int)), .bool (decide (((m : Nat) : Int) = ((n : Nat) : Int))), undef, undef, .pointer (some ⟨b1, 2, none⟩), .slice a n c, .slice b m d, .int .i64 (((m : Nat) : Int)), .pointer (some ((adr a).add (m * 3))), .agg #[.int .i64 ((ds.getD m dz).lo), .int .i64 ((ds.getD m dz).hi), .int .i64 ((ds.getD m dz).want)], .pointer (some ⟨b6, 0, none⟩), .pointer (some ⟨b6, 0, none⟩), .int .i64 ((ds.getD m dz).lo), .int .i64 (r), .pointer (some ⟨b6, 0, none⟩), .pointer (some ⟨b6, 1, none⟩), .int .i64 ((ds.getD m dz).hi), .bool (decide (r ≤ (ds.getD m dz).hi)), (y7 30), (y7 31), (val10 0), (val10 1), (val10 2), (val10 3), (val10 4), (val10 5), (val10 6), (val10 7), (val10 8), (y7 41), undef]) mixed (by kernel_rfl) (Nat.le_of_ble_eq_true rfl) (by kernel_rfl) (by kernel_rfl) (by kernel_rfl) (fun _ _ => ⟨fun _ _ h => h.2, ⟨fun _ _ h => h.2, ⟨fun _ _ h => h.2, ⟨fun _ _ h => h.2, trivial⟩⟩⟩⟩) (fun _ => by kernel_rfl) (by kernel_rfl) ?_ ?_) (fun h_ H_ => St.swap (A := ([(b6, .cells #[.int .i64 ((ds.getD m dz).lo), .int .i64 ((ds.getD m dz).hi), .int .i64 ((ds.getD m dz).want)] 38 (0, 0)), (b1, .cells #[.int .i64 (size), .int .i64 (start), .slice a n c] 24 (0, 0))] : Pcs)) (U := (X ++ (Z ++ []))) H_)
      · refine mixes_cons rfl (opmix2 ?_) ?_
        · intro val10 pc11 hQ_ hX_
          obtain ⟨q_, hq0_⟩ : ∃ q_ : Value → Pcs → Prop, q_ = (fun v_ x_ => v_ = w ∧ x_ = []) := ⟨_, rfl⟩
          refine ⟨[.agg #[.int .i64 (size), .int .i64 (start), .slice a n c], .slice b m d, .pointer (some ⟨b1, 0, none⟩), undef, .slice none 0 0, w, .pointer (some ⟨b6, 0, none⟩), .int .i64 (r), .slice b m d, .int .i64 (((m : Nat) : Int)), .pointer (some ⟨b1, 2, none⟩), .slice a n c, .int .i64 (((n : Nat) : Int)), .bool (decide (((m : Nat) : Int) = ((n : Nat) : Int))), undef, undef, .pointer (some ⟨b1, 2, none⟩), .slice a n c, .slice b m d, .int .i64 (((m : Nat) : Int)), .pointer (some ((adr a).add (m * 3))), .agg #[.int .i64 ((ds.getD m dz).lo), .int .i64 ((ds.getD m dz).hi), .int .i64 ((ds.getD m dz).want)], .pointer (some ⟨b6, 0, none⟩), .pointer (some ⟨b6, 0, none⟩), .int .i64 ((ds.getD m dz).lo), .int .i64 (r), .pointer (some ⟨b6, 0, none⟩), .pointer (some ⟨b6, 1, none⟩), .int .i64 ((ds.getD m dz).hi), .bool (decide (r ≤ (ds.getD m dz).hi)), (y7 30), (y7 31), (val10 0), (val10 1), (val10 2), (val10 3), (val10 4), (val10 5), (val10 6), (val10 7), (val10 8), (y7 41), undef], [], q_, rfl, rfl, (fun _ _ z_ => by subst hq0_; exact z_), ?_⟩
          subst hq0_
          exact mix_det (met_none rfl) (fun _ h_ H_ => exd_move (v := w) rfl) ⟨rfl, rfl⟩
        refine mixes_cons rfl (opmix2 ?_) ?_
        · intro val10 pc11 hQ_ hX_
          obtain ⟨q_, hq0_⟩ : ∃ q_ : Value → Pcs → Prop, q_ = (fun v_ x_ => v_ = .agg #[.int .i64 (size), .int .i64 (start), .slice a n c] ∧ x_ = []) := ⟨_, rfl⟩
          refine ⟨[.agg #[.int .i64 (size), .int .i64 (start), .slice a n c], .slice b m d, .pointer (some ⟨b1, 0, none⟩), undef, .slice none 0 0, w, .pointer (some ⟨b6, 0, none⟩), .int .i64 (r), .slice b m d, .int .i64 (((m : Nat) : Int)), .pointer (some ⟨b1, 2, none⟩), .slice a n c, .int .i64 (((n : Nat) : Int)), .bool (decide (((m : Nat) : Int) = ((n : Nat) : Int))), undef, undef, .pointer (some ⟨b1, 2, none⟩), .slice a n c, .slice b m d, .int .i64 (((m : Nat) : Int)), .pointer (some ((adr a).add (m * 3))), .agg #[.int .i64 ((ds.getD m dz).lo), .int .i64 ((ds.getD m dz).hi), .int .i64 ((ds.getD m dz).want)], .pointer (some ⟨b6, 0, none⟩), .pointer (some ⟨b6, 0, none⟩), .int .i64 ((ds.getD m dz).lo), .int .i64 (r), .pointer (some ⟨b6, 0, none⟩), .pointer (some ⟨b6, 1, none⟩), .int .i64 ((ds.getD m dz).hi), .bool (decide (r ≤ (ds.getD m dz).hi)), (y7 30), (y7 31), (val10 0), (val10 1), (val10 2), (val10 3), (val10 4), (val10 5), (val10 6), (val10 7), (val10 8), (y7 41), undef], [], q_, rfl, rfl, (fun _ _ z_ => by subst hq0_; exact z_), ?_⟩
          subst hq0_
          exact mix_det (met_none rfl) (fun _ h_ H_ => exd_loadN_own H_ tA24 tS24 rfl (i := 1) rfl (vs := [.int .i64 (size), .int .i64 (start), .slice a n c]) rfl rfl) ⟨rfl, rfl⟩
        refine mixes_cons rfl (opmix2 ?_) ?_
        · intro val10 pc11 hQ_ hX_
          obtain ⟨q_, hq0_⟩ : ∃ q_ : Value → Pcs → Prop, q_ = (fun v_ x_ => OwnS 3 1 v_ [] x_) := ⟨_, rfl⟩
          refine ⟨[.agg #[.int .i64 (size), .int .i64 (start), .slice a n c], .slice b m d, .pointer (some ⟨b1, 0, none⟩), undef, .slice none 0 0, w, .pointer (some ⟨b6, 0, none⟩), .int .i64 (r), .slice b m d, .int .i64 (((m : Nat) : Int)), .pointer (some ⟨b1, 2, none⟩), .slice a n c, .int .i64 (((n : Nat) : Int)), .bool (decide (((m : Nat) : Int) = ((n : Nat) : Int))), undef, undef, .pointer (some ⟨b1, 2, none⟩), .slice a n c, .slice b m d, .int .i64 (((m : Nat) : Int)), .pointer (some ((adr a).add (m * 3))), .agg #[.int .i64 ((ds.getD m dz).lo), .int .i64 ((ds.getD m dz).hi), .int .i64 ((ds.getD m dz).want)], .pointer (some ⟨b6, 0, none⟩), .pointer (some ⟨b6, 0, none⟩), .int .i64 ((ds.getD m dz).lo), .int .i64 (r), .pointer (some ⟨b6, 0, none⟩), .pointer (some ⟨b6, 1, none⟩), .int .i64 ((ds.getD m dz).hi), .bool (decide (r ≤ (ds.getD m dz).hi)), (y7 30), (y7 31), (val10 0), (val10 1), (val10 2), (val10 3), (val10 4), (val10 5), (val10 6), (val10 7), (val10 8), (y7 41), undef], [], q_, rfl, rfl, (fun _ _ z_ => by subst hq0_; exact z_), ?_⟩
          subst hq0_
          exact mix_buildO (met_none rfl) Try.underlying25 tS3 tZ3 (Nat.le_of_ble_eq_true rfl) (vs := []) rfl rfl (es := []) rfl rfl rfl fun _ _ o_ => o_
        refine mixes_cons rfl (opmix2 ?_) ?_
        · intro val10 pc11 hQ_ hX_
          obtain ⟨q_, hq0_⟩ : ∃ q_ : Value → Pcs → Prop, q_ = (fun v_ x_ => v_ = .slice b m d ∧ x_ = []) := ⟨_, rfl⟩
          refine ⟨[.agg #[.int .i64 (size), .int .i64 (start), .slice a n c], .slice b m d, .pointer (some ⟨b1, 0, none⟩), undef, .slice none 0 0, w, .pointer (some ⟨b6, 0, none⟩), .int .i64 (r), .slice b m d, .int .i64 (((m : Nat) : Int)), .pointer (some ⟨b1, 2, none⟩), .slice a n c, .int .i64 (((n : Nat) : Int)), .bool (decide (((m : Nat) : Int) = ((n : Nat) : Int))), undef, undef, .pointer (some ⟨b1, 2, none⟩), .slice a n c, .slice b m d, .int .i64 (((m : Nat) : Int)), .pointer (some ((adr a).add (m * 3))), .agg #[.int .i64 ((ds.getD m dz).lo), .int .i64 ((ds.getD m dz).hi), .int .i64 ((ds.getD m dz).want)], .pointer (some ⟨b6, 0, none⟩), .pointer (some ⟨b6, 0, none⟩), .int .i64 ((ds.getD m dz).lo), .int .i64 (r), .pointer (some ⟨b6, 0, none⟩), .pointer (some ⟨b6, 1, none⟩), .int .i64 ((ds.getD m dz).hi), .bool (decide (r ≤ (ds.getD m dz).hi)), (y7 30), (y7 31), (val10 0), (val10 1), (val10 2), (val10 3), (val10 4), (val10 5), (val10 6), (val10 7), (val10 8), (y7 41), undef], [], q_, rfl, rfl, (fun _ _ z_ => by subst hq0_; exact z_), ?_⟩
          subst hq0_
          exact mix_det (met_none rfl) (fun _ h_ H_ => exd_move (v := .slice b m d) rfl) ⟨rfl, rfl⟩
        refine mixes_cons rfl (opmix2 ?_) ?_
        · intro val10 pc11 hQ_ hX_
          have q2_ : OwnS 3 1 (val10 2) [] (pc11 2) := hQ_ 2 rfl
          have e3_ : val10 3 = .slice b m d := (hQ_ 3 rfl).1
          obtain ⟨q_, hq0_⟩ : ∃ q_ : Value → Pcs → Prop, q_ = (fun v_ x_ => OwnS 3 1 v_ ([] ++ (pre.map fun x => [Value.int .i64 x])) x_) := ⟨_, rfl⟩
          refine ⟨[.agg #[.int .i64 (size), .int .i64 (start), .slice a n c], .slice b m d, .pointer (some ⟨b1, 0, none⟩), undef, .slice none 0 0, w, .pointer (some ⟨b6, 0, none⟩), .int .i64 (r), .slice b m d, .int .i64 (((m : Nat) : Int)), .pointer (some ⟨b1, 2, none⟩), .slice a n c, .int .i64 (((n : Nat) : Int)), .bool (decide (((m : Nat) : Int) = ((n : Nat) : Int))), undef, undef, .pointer (some ⟨b1, 2, none⟩), .slice a n c, .slice b m d, .int .i64 (((m : Nat) : Int)), .pointer (some ((adr a).add (m * 3))), .agg #[.int .i64 ((ds.getD m dz).lo), .int .i64 ((ds.getD m dz).hi), .int .i64 ((ds.getD m dz).want)], .pointer (some ⟨b6, 0, none⟩), .pointer (some ⟨b6, 0, none⟩), .int .i64 ((ds.getD m dz).lo), .int .i64 (r), .pointer (some ⟨b6, 0, none⟩), .pointer (some ⟨b6, 1, none⟩), .int .i64 ((ds.getD m dz).hi), .bool (decide (r ≤ (ds.getD m dz).hi)), (y7 30), (y7 31), (val10 0), (val10 1), (val10 2), .slice b m d, (val10 4), (val10 5), (val10 6), (val10 7), (val10 8), (y7 41), undef], ((pc11 2) ++ []), q_, (by simp only [e3_]), rfl, (fun _ _ z_ => by subst hq0_; exact z_), ?_⟩
          subst hq0_
          exact mix_appendP (met_none rfl) Try.underlying25 tS3 tZ3 rfl tB3 Try.underlying25 rfl rfl q2_ W (ints_ones _) (by first | exact wea_room hd (by omega) (by omega) (by omega) el ‹_› | (simp; omega)) (by decide) (by decide) fun _ _ o_ => o_
        refine mixes_cons rfl (opmix2 ?_) ?_
        · intro val10 pc11 hQ_ hX_
          obtain ⟨q_, hq0_⟩ : ∃ q_ : Value → Pcs → Prop, q_ = (fun v_ x_ => v_ = .int .i64 (r) ∧ x_ = []) := ⟨_, rfl⟩
          refine ⟨[.agg #[.int .i64 (size), .int .i64 (start), .slice a n c], .slice b m d, .pointer (some ⟨b1, 0, none⟩), undef, .slice none 0 0, w, .pointer (some ⟨b6, 0, none⟩), .int .i64 (r), .slice b m d, .int .i64 (((m : Nat) : Int)), .pointer (some ⟨b1, 2, none⟩), .slice a n c, .int .i64 (((n : Nat) : Int)), .bool (decide (((m : Nat) : Int) = ((n : Nat) : Int))), undef, undef, .pointer (some ⟨b1, 2, none⟩), .slice a n c, .slice b m d, .int .i64 (((m : Nat) : Int)), .pointer (some ((adr a).add (m * 3))), .agg #[.int .i64 ((ds.getD m dz).lo), .int .i64 ((ds.getD m dz).hi), .int .i64 ((ds.getD m dz).want)], .pointer (some ⟨b6, 0, none⟩), .pointer (some ⟨b6, 0, none⟩), .int .i64 ((ds.getD m dz).lo), .int .i64 (r), .pointer (some ⟨b6, 0, none⟩), .pointer (some ⟨b6, 1, none⟩), .int .i64 ((ds.getD m dz).hi), .bool (decide (r ≤ (ds.getD m dz).hi)), (y7 30), (y7 31), (val10 0), (val10 1), (val10 2), (val10 3), (val10 4), (val10 5), (val10 6), (val10 7), (val10 8), (y7 41), undef], [], q_, rfl, rfl, (fun _ _ z_ => by subst hq0_; exact z_), ?_⟩
          subst hq0_
          exact mix_det (met_none rfl) (fun _ h_ H_ => exd_move (v := .int .i64 (r)) rfl) ⟨rfl, rfl⟩
        refine mixes_cons rfl (opmix2 ?_) ?_
        · intro val10 pc11 hQ_ hX_
          have e5_ : val10 5 = .int .i64 (r) := (hQ_ 5 rfl).1
          obtain ⟨q_, hq0_⟩ : ∃ q_ : Value → Pcs → Prop, q_ = (fun v_ x_ => OwnS 3 1 v_ [[.int .i64 (r)]] x_) := ⟨_, rfl⟩
          refine ⟨[.agg #[.int .i64 (size), .int .i64 (start), .slice a n c], .slice b m d, .pointer (some ⟨b1, 0, none⟩), undef, .slice none 0 0, w, .pointer (some ⟨b6, 0, none⟩), .int .i64 (r), .slice b m d, .int .i64 (((m : Nat) : Int)), .pointer (some ⟨b1, 2, none⟩), .slice a n c, .int .i64 (((n : Nat) : Int)), .bool (decide (((m : Nat) : Int) = ((n : Nat) : Int))), undef, undef, .pointer (some ⟨b1, 2, none⟩), .slice a n c, .slice b m d, .int .i64 (((m : Nat) : Int)), .pointer (some ((adr a).add (m * 3))), .agg #[.int .i64 ((ds.getD m dz).lo), .int .i64 ((ds.getD m dz).hi), .int .i64 ((ds.getD m dz).want)], .pointer (some ⟨b6, 0, none⟩), .pointer (some ⟨b6, 0, none⟩), .int .i64 ((ds.getD m dz).lo), .int .i64 (r), .pointer (some ⟨b6, 0, none⟩), .pointer (some ⟨b6, 1, none⟩), .int .i64 ((ds.getD m dz).hi), .bool (decide (r ≤ (ds.getD m dz).hi)), (y7 30), (y7 31), (val10 0), (val10 1), (val10 2), (val10 3), (val10 4), .int .i64 (r), (val10 6), (val10 7), (val10 8), (y7 41), undef], [], q_, (by simp only [e5_]), rfl, (fun _ _ z_ => by subst hq0_; exact z_), ?_⟩
          subst hq0_
          exact mix_buildO (met_none rfl) Try.underlying25 tS3 tZ3 (Nat.le_of_ble_eq_true rfl) (vs := [(0, .int .i64 (r))]) rfl rfl (es := [[.int .i64 (r)]]) rfl rfl rfl fun _ _ o_ => o_
        refine mixes_cons rfl (opmix2 ?_) ?_
        · intro val10 pc11 hQ_ hX_
          have q4_ : OwnS 3 1 (val10 4) ([] ++ (pre.map fun x => [Value.int .i64 x])) (pc11 4) := hQ_ 4 rfl
          have q6_ : OwnS 3 1 (val10 6) [[.int .i64 (r)]] (pc11 6) := hQ_ 6 rfl
          obtain ⟨q_, hq0_⟩ : ∃ q_ : Value → Pcs → Prop, q_ = (fun v_ x_ => OwnS 3 1 v_ (([] ++ (pre.map fun x => [Value.int .i64 x])) ++ [[.int .i64 (r)]]) x_) := ⟨_, rfl⟩
          refine ⟨[.agg #[.int .i64 (size), .int .i64 (start), .slice a n c], .slice b m d, .pointer (some ⟨b1, 0, none⟩), undef, .slice none 0 0, w, .pointer (some ⟨b6, 0, none⟩), .int .i64 (r), .slice b m d, .int .i64 (((m : Nat) : Int)), .pointer (some ⟨b1, 2, none⟩), .slice a n c, .int .i64 (((n : Nat) : Int)), .bool (decide (((m : Nat) : Int) = ((n : Nat) : Int))), undef, undef, .pointer (some ⟨b1, 2, none⟩), .slice a n c, .slice b m d, .int .i64 (((m : Nat) : Int)), .pointer (some ((adr a).add (m * 3))), .agg #[.int .i64 ((ds.getD m dz).lo), .int .i64 ((ds.getD m dz).hi), .int .i64 ((ds.getD m dz).want)], .pointer (some ⟨b6, 0, none⟩), .pointer (some ⟨b6, 0, none⟩), .int .i64 ((ds.getD m dz).lo), .int .i64 (r), .pointer (some ⟨b6, 0, none⟩), .pointer (some ⟨b6, 1, none⟩), .int .i64 ((ds.getD m dz).hi), .bool (decide (r ≤ (ds.getD m dz).hi)), (y7 30), (y7 31), (val10 0), (val10 1), (val10 2), (val10 3), (val10 4), (val10 5), (val10 6), (val10 7), (val10 8), (y7 41), undef], ((pc11 4) ++ ((pc11 6) ++ [])), q_, rfl, rfl, (fun _ _ z_ => by subst hq0_; exact z_), ?_⟩
          subst hq0_
          exact mix_append (met_none rfl) Try.underlying25 tS3 tZ3 rfl tB3 Try.underlying25 rfl rfl q4_ q6_ (ones_of rfl) (by first | exact wea_room hd (by omega) (by omega) (by omega) el ‹_› | (simp; omega)) (by decide) fun _ _ o_ => o_
        refine mixes_cons rfl (opmix2 ?_) ?_
        · intro val10 pc11 hQ_ hX_
          have e1_ : val10 1 = .agg #[.int .i64 (size), .int .i64 (start), .slice a n c] := (hQ_ 1 rfl).1
          have q7_ : OwnS 3 1 (val10 7) (([] ++ (pre.map fun x => [Value.int .i64 x])) ++ [[.int .i64 (r)]]) (pc11 7) := hQ_ 7 rfl
          obtain ⟨q_, hq0_⟩ : ∃ q_ : Value → Pcs → Prop, q_ = (fun v_ x_ => ∃ w12 : Value, ∃ es13 : List (List Value), ∃ X14 : Pcs, ∃ Z15 : Pcs, v_ = w12 ∧ (OwnS 25 1 w12 es13 X14) ∧ (Inn p es13 (weaG ds f0 (pre ++ [r])) Z15) ∧ (es13.length = (weaG ds f0 (pre ++ [r])).length) ∧ (∀ u ∈ es13.flatten, isOne u = true) ∧ x_ = (X14 ++ (Z15 ++ []))) := ⟨_, rfl⟩
          refine ⟨[.agg #[.int .i64 (size), .int .i64 (start), .slice a n c], .slice b m d, .pointer (some ⟨b1, 0, none⟩), undef, .slice none 0 0, w, .pointer (some ⟨b6, 0, none⟩), .int .i64 (r), .slice b m d, .int .i64 (((m : Nat) : Int)), .pointer (some ⟨b1, 2, none⟩), .slice a n c, .int .i64 (((n : Nat) : Int)), .bool (decide (((m : Nat) : Int) = ((n : Nat) : Int))), undef, undef, .pointer (some ⟨b1, 2, none⟩), .slice a n c, .slice b m d, .int .i64 (((m : Nat) : Int)), .pointer (some ((adr a).add (m * 3))), .agg #[.int .i64 ((ds.getD m dz).lo), .int .i64 ((ds.getD m dz).hi), .int .i64 ((ds.getD m dz).want)], .pointer (some ⟨b6, 0, none⟩), .pointer (some ⟨b6, 0, none⟩), .int .i64 ((ds.getD m dz).lo), .int .i64 (r), .pointer (some ⟨b6, 0, none⟩), .pointer (some ⟨b6, 1, none⟩), .int .i64 ((ds.getD m dz).hi), .bool (decide (r ≤ (ds.getD m dz).hi)), (y7 30), (y7 31), (val10 0), .agg #[.int .i64 (size), .int .i64 (start), .slice a n c], (val10 2), (val10 3), (val10 4), (val10 5), (val10 6), (val10 7), (val10 8), (y7 41), undef], ((pc11 7) ++ []), q_, (by simp only [e1_]), rfl, (fun _ _ z_ => by subst hq0_; exact z_), ?_⟩
          subst hq0_
          exact mix_call (met_none rfl) (first := []) (cap := []) rfl rfl fC98 (fun _ h_ H_ => lent98 (hrec _ rfl) (pre := pre ++ [r]) (q7_.as (by simp)) D hn hd (by simp; omega) (by simp) H_)
        exact mixes_nil rfl
      intro val10 pc11 hQ_ hX_
      have e0_ : val10 0 = w := (hQ_ 0 (by decide)).1
      have e1_ : val10 1 = .agg #[.int .i64 (size), .int .i64 (start), .slice a n c] := (hQ_ 1 (by decide)).1
      have e3_ : val10 3 = .slice b m d := (hQ_ 3 (by decide)).1
      have e5_ : val10 5 = .int .i64 (r) := (hQ_ 5 (by decide)).1
      obtain ⟨e8_, o16, i17, el18, eo19, x8_⟩ := hG8_ _ _ (hQ_ 8 (by decide))
      have x9_ : pc11 9 = X := hX_ 9 (by decide)
      have x10_ : pc11 10 = Z := hX_ 10 (by decide)
      clear hQ_ hX_
      generalize Gw12 (val10 8) (pc11 8) = w12 at *
      generalize Ges13 (val10 8) (pc11 8) = es13 at *
      generalize GX14 (val10 8) (pc11 8) = X14 at *
      generalize GZ15 (val10 8) (pc11 8) = Z15 at *
      refine rl_as (Φ := fun h_ => St h [] p h_ (([(b6, .cells #[.int .i64 ((ds.getD m dz).lo), .int .i64 ((ds.getD m dz).hi), .int .i64 ((ds.getD m dz).want)] 38 (0, 0)), (b1, .cells #[.int .i64 (size), .int .i64 (start), .slice a n c] 24 (0, 0))] : Pcs) ++ (pc11 9 ++ (pc11 10 ++ (pc11 8 ++ []))))) ?_ (fun h_ H_ => H_.swap')
      rw [x9_, x10_, x8_]
      refine rl_own (L' := ([(b6, .cells #[.int .i64 ((ds.getD m dz).lo), .int .i64 ((ds.getD m dz).hi), .int .i64 ((ds.getD m dz).want)] 38 (0, 0)), (b1, .cells #[.int .i64 (size), .int .i64 (start), .slice a n c] 24 (0, 0))] : Pcs) ++ (X ++ (Z ++ (X14 ++ (Z15 ++ []))))) (by simp) ?_
      refine rl_norm (tm' := [.agg #[.int .i64 (size), .int .i64 (start), .slice a n c], .slice b m d, .pointer (some ⟨b1, 0, none⟩), undef, .slice none 0 0, w, .pointer (some ⟨b6, 0, none⟩), .int .i64 (r), .slice b m d, .int .i64 (((m : Nat) : Int)), .pointer (some ⟨b1, 2, none⟩), .slice a n c, .int .i64 (((n : Nat) : Int)), .bool (decide (((m : Nat) : Int) = ((n : Nat) : Int))), undef, undef, .pointer (some ⟨b1, 2, none⟩), .slice a n c, .slice b m d, .int .i64 (((m : Nat) : Int)), .pointer (some ((adr a).add (m * 3))), .agg #[.int .i64 ((ds.getD m dz).lo), .int .i64 ((ds.getD m dz).hi), .int .i64 ((ds.getD m dz).want)], .pointer (some ⟨b6, 0, none⟩), .pointer (some ⟨b6, 0, none⟩), .int .i64 ((ds.getD m dz).lo), .int .i64 (r), .pointer (some ⟨b6, 0, none⟩), .pointer (some ⟨b6, 1, none⟩), .int .i64 ((ds.getD m dz).hi), .bool (decide (r ≤ (ds.getD m dz).hi)), (y7 30), (y7 31), w, .agg #[.int .i64 (size), .int .i64 (start), .slice a n c], (val10 2), .slice b m d, (val10 4), .int .i64 (r), (val10 6), (val10 7), w12, (y7 41), undef]) (by simp only [e0_, e1_, e3_, e5_, e8_]) ?_
      refine rl_perm (List.Perm.append_left _ (List.Perm.append_left _ (List.perm_append_comm_assoc _ _ _))) ?_
      refine rl_own (L' := ([(b6, .cells #[.int .i64 ((ds.getD m dz).lo), .int .i64 ((ds.getD m dz).hi), .int .i64 ((ds.getD m dz).want)] 38 (0, 0)), (b1, .cells #[.int .i64 (size), .int .i64 (start), .slice a n c] 24 (0, 0))] : Pcs) ++ (X ++ (X14 ++ (Z ++ (Z15 ++ []))))) rfl ?_
      refine rl_appendO ([(b6, .cells #[.int .i64 ((ds.getD m dz).lo), .int .i64 ((ds.getD m dz).hi), .int .i64 ((ds.getD m dz).want)] 38 (0, 0)), (b1, .cells #[.int .i64 (size), .int .i64 (start), .slice a n c] 24 (0, 0))] : Pcs) X X14 (met_none rfl) Try.underlying108 tS25 tZ25 rfl tB25 Try.underlying108 rfl rfl o o16 eo19 (by first | exact wea_room hd (by omega) (by omega) (by omega) el ‹_› | (simp; omega)) (by decide) fun v26 X27 o28 => ?_
      refine rl_det (met_none rfl) (fun h_ H_ => exd_assign (v := v26) rfl) rfl ?_
      refine rl_end ?_
      refine fl_inBlock ?_
      refine rl_start ?_
      refine rl_det (met_none rfl) (fun h_ H_ => exd_move (v := .int .i64 (r)) rfl) (tm' := [_,_,_,_,_,_,_,_,_,_,_,_,_,_,_,_,_,_,_,_,_,_,_,_,_,_,_,_,_,_,_,_,_,_,_,_,_,_,_,_,_,_,_]) rfl ?_
      refine rl_det (met_none rfl) (fun h_ H_ => exd_add rfl rfl (wr (by omega))) rfl ?_
      refine rl_det (met_none rfl) (fun h_ H_ => exd_assign (v := .int .i64 (r + 1)) rfl) rfl ?_
      refine rl_end ?_
      have hr2 : r = loOf ds pre.length + ((j : Nat) : Int) := by rw [← hm] at hr; exact hr
      refine rs_own (L' := ([(b6, .cells #[.int .i64 ((ds.getD m dz).lo), .int .i64 ((ds.getD m dz).hi), .int .i64 ((ds.getD m dz).want)] 38 (0, 0)), (b1, .cells #[.int .i64 (size), .int .i64 (start), .slice a n c] 24 (0, 0))] : Pcs) ++ (X27 ++ ((Z ++ Z15) ++ []))) (by simp) ?_
      exact fun h_ H_ => IH8 _ _ (by omega) h_ ⟨j + 1, r + 1, v26, _, X27, (Z ++ Z15), rfl, (y_of rfl), ⟨(by omega), (by omega), o28, ((i_.app i17).as (by rw [weaP_succ, ← hr2]) rfl), (by rw [List.length_append, el, el18, weaP_succ, List.length_append, ← hr2]), (ones_app eo eo19)⟩, H_⟩
    · refine fl_else rfl (decide_eq_false cc9) ?_
      refine fl_exit rfl ?_
      refine fl_seq ?_
      refine rl_start ?_
      refine rl_det (met_none rfl) (fun h_ H_ => exd_move (v := w) rfl) (tm' := [_,_,_,_,_,_,_,_,_,_,_,_,_,_,_,_,_,_,_,_,_,_,_,_,_,_,_,_,_,_,_,_,_,_,_,_,_,_,_,_,_,_,_]) rfl ?_
      refine rl_det (met_none rfl) (fun h_ H_ => exd_assign (v := w) rfl) rfl ?_
      refine rl_end ?_
      refine fl_ret Try.func98 rfl (vs := [w]) (fun h_ H_ => ⟨w, _, rfl, rfl, rfl⟩) (v := w) rfl ?_
      have hjj : j = (hiOf ds pre.length - loOf ds pre.length + 1).toNat := by rw [hm]; unfold hiOf; omega
      subst hjj
      exact fun h_ H_ => K _ _ ⟨_, _, _, o, i_, el, eo, by simpa using H_.dropA.new⟩
theorem wea_all : ∀ f, WeaC f
  | 0 => fun md h p hp size start a n c ds D hn hd b m d pre W hf => c98s md h p hp size start a n c ds D hn hd b m d pre W 0 hf fun f' e => by omega
  | f + 1 => fun md h p hp size start a n c ds D hn hd b m d pre W hf => c98s md h p hp size start a n c ds D hn hd b m d pre W (f + 1) hf fun f' e => by
    obtain rfl : f = f' := by omega
    exact wea_all f
end Go.Proofs.Ytbmkacnlhlbnjaa
namespace Go.Proofs.Ytbmkacnlhlbnjaa
open Go.X Go.X.Cist Go.Conc
set_option maxRecDepth 10000

theorem c98w (md : Md) (h : Heap) (p : PHeap) (hp : Per p h) (size start : Int) (a : Option Addr) (n c : Nat) (ds : List Day) (D : Days p a n ds) (hn : n ≤ 8) (hd : Dok ds) : CallsX Try.prog md 98 #[.agg #[.int .i64 (size), .int .i64 (start), .slice a n c], .slice none 0 0] h fun v h' => ∃ w es X Z, v = w ∧ OwnS 25 1 w es X ∧ Inn p es (wea ds) Z ∧ es.length = (wea ds).length ∧ New h h' (X ++ (Z ++ [])) := by
  have hl := D.len
  subst hl
  exact (wea_all _ md h p hp size start a _ c ds D hn hd none 0 0 [] (ints_nil p) (by omega)).mono fun v h' ⟨es, X, Z, o, i, el, _, N⟩ => ⟨v, es, X, Z, rfl, o, i, el, N⟩
theorem c77 (md : Md) (h : Heap) (p : PHeap) (hp : Per p h) (size start : Int) (a : Option Addr) (n c : Nat) (ds : List Day) (D : Days p a n ds) (hn : n ≤ 8) (hL : Lok size start ds) (hc : (wea ds).length ≤ 60) : CallsX Try.prog md 77 #[.agg #[.int .i64 (size), .int .i64 (start), .slice a n c]] h fun v h' => ∃ es X Z, OwnS 30 3 v es X ∧ InnS p n (yFL size start ds n) (yFK size start ds n) (yFO size start ds n) es (wea ds).length Z ∧ es.length = (wea ds).length ∧ New h h' (X ++ (Z ++ [])) := by
  refine calls_intro (Φ := fun h_ => St h [] p h_ []) Try.func77 rfl (tm := [_, _, _, _, _, _, _, _, _, _, _, _, _, _, _, _, _, _, _, _, _, _, _, _]) rfl ?_ (St.start h _ hp)
  intro c₀ cs Stop K
  have hl := D.len
  have hd : Dok ds := fun i hi => by have := hL.2.2.2.2.2 i hi; omega
  refine fl_seq ?_
  refine rl_start ?_
  refine rl_box (met_none rfl) (v := .agg #[.int .i64 (size), .int .i64 (start), .slice a n c]) rfl fun b1 => rl_own (L' := [(b1, .cells #[.int .i64 (size), .int .i64 (start), .slice a n c] 24 (0, 0))]) rfl ?_
  refine rl_det (met_none rfl) (fun h_ H_ => exd_assign (v := .slice none 0 0) rfl) rfl ?_
  refine rl_end ?_
  refine fl_seq ?_
  refine rl_start ?_
  refine rl_det (met_none rfl) (fun h_ H_ => exd_loadN_own H_ tA24 tS24 rfl (i := 0) rfl (vs := [.int .i64 (size), .int .i64 (start), .slice a n c]) rfl rfl) (tm' := _::_::_::_::_::_::_::_) rfl ?_
  refine rl_own (L' := ([(b1, .cells #[.int .i64 (size), .int .i64 (start), .slice a n c] 24 (0, 0))] : Pcs) ++ []) rfl ?_
  refine rl_call (met_none rfl) (first := []) (cap := []) rfl rfl fC98 (R := fun v_ h_ => ∃ w2 : Value, ∃ es3 : List (List Value), ∃ X4 : Pcs, ∃ Z5 : Pcs, v_ = w2 ∧ (OwnS 25 1 w2 es3 X4) ∧ (Inn p es3 (wea ds) Z5) ∧ (es3.length = (wea ds).length) ∧ St h [] p h_ (([(b1, .cells #[.int .i64 (size), .int .i64 (start), .slice a n c] 24 (0, 0))] : Pcs) ++ ((X4 ++ (Z5 ++ [])) ++ []))) (fun h_ H_ => (c98w md _ _ (fun b_ o_ e_ => H_.per b_ o_ e_) (size) (start) _ _ _ _ D (by omega) hd).mono fun v_ h2_ ⟨w2, es3, X4, Z5, e_, o6, i7, el8, N_⟩ => ⟨w2, es3, X4, Z5, e_, o6, i7, el8, H_.callNA N_⟩) fun v_ => ?_
  refine rl_ex fun w2 => rl_ex fun es3 => rl_ex fun X4 => rl_ex fun Z5 => rl_and fun ev_ => rl_and fun o6 => rl_and fun i7 => rl_and fun el8 => ?_
  have ev_ := ev_.symm; subst ev_
  refine rl_own (L' := ([(b1, .cells #[.int .i64 (size), .int .i64 (start), .slice a n c] 24 (0, 0))] : Pcs) ++ (X4 ++ (Z5 ++ []))) (by simp) ?_
  refine rl_det (met_none rfl) (fun h_ H_ => exd_assign (v := w2) rfl) rfl ?_
  refine rl_end ?_
  refine fl_seq ?_
  refine rs_perm (List.Perm.append_left _ (List.perm_append_comm_assoc _ _ _)) ?_
  refine rs_own (L' := ([(b1, .cells #[.int .i64 (size), .int .i64 (start), .slice a n c] 24 (0, 0))] : Pcs) ++ (Z5 ++ (X4 ++ []))) rfl ?_
  refine rs_lastX (A := ([(b1, .cells #[.int .i64 (size), .int .i64 (start), .slice a n c] 24 (0, 0))] : Pcs)) (Z := Z5) fun p9 le10 hz11 => ?_
  refine rs_lastN (A := ([(b1, .cells #[.int .i64 (size), .int .i64 (start), .slice a n c] 24 (0, 0))] : Pcs)) o6 el8 fun p15 a16 cp17 le18 ev_ D19 => ?_
  subst ev_
  refine rs_own (L' := [(b1, .cells #[.int .i64 (size), .int .i64 (start), .slice a n c] 24 (0, 0))]) rfl ?_
  obtain ⟨A13, C14, T_⟩ := (i7 _ (le10.trans le18) (fun x_ hx_ => le18 _ _ (hz11 x_ hx_))).tab D19
  have T12 := Tab1.const (n := n) T_ (wea_len hd hl); clear T_
  refine rl_start ?_
  refine rl_det (met_none rfl) (fun h_ H_ => exd_assign (v := .slice none 0 0) rfl) (tm' := _::_::_::_::_::_) rfl ?_
  refine rl_end ?_
  refine fl_seq ?_
  refine fl_seq ?_
  refine rl_start ?_
  refine rl_det (met_none rfl) (fun h_ H_ => exd_assign (v := .int .i64 0) rfl) rfl ?_
  refine rl_end ?_
  refine fl_block ?_
  refine fl_loop (m₀ := (wea ds).length - 0) (fun m_ tm_ h_ => ∃ (k : Nat) (w : Value) (es : List (List Value)) (X : Pcs) (Z : Pcs), m_ = (wea ds).length - k ∧ (∃ y20 : Nat → Value, tm_ = [.agg #[.int .i64 (size), .int .i64 (start), .slice a n c], .pointer (some ⟨b1, 0, none⟩), .slice none 0 0, .slice a16 ((wea ds).length) cp17, w, .int .i64 (((k : Nat) : Int)), .agg #[.int .i64 (size), .int .i64 (start), .slice a n c], .slice a16 ((wea ds).length) cp17, (y20 8), (y20 9), (y20 10), (y20 11), (y20 12), (y20 13), (y20 14), (y20 15), (y20 16), (y20 17), (y20 18), (y20 19), (y20 20), (y20 21), (y20 22), undef]) ∧ (SInv p size start ds n k w es X Z) ∧ St h [] p15 h_ (([(b1, .cells #[.int .i64 (size), .int .i64 (start), .slice a n c] 24 (0, 0))] : Pcs) ++ (X ++ (Z ++ [])))) (fun h_ H_ => ⟨0, _, _, [], [], rfl, (y_of rfl), ⟨Nat.zero_le _, OwnS.empty _ _, InnS.nil, rfl⟩, H_⟩) ?_
  intro m_ tm_ IH21
  refine rs_ex fun k => rs_ex fun w => rs_ex fun es => rs_ex fun X => rs_ex fun Z => rs_and fun hm_ => rs_and fun ht_ => rs_and fun hI => ?_
  subst hm_; obtain ⟨y20, ht_⟩ := ht_; subst ht_
  have hk := hI.hk; have o := hI.o; have el := hI.el
  refine fl_seq ?_
  refine fl_seq ?_
  refine rl_start ?_
  refine rl_det (met_none rfl) (fun h_ H_ => exd_move (v := .int .i64 (((k : Nat) : Int))) rfl) rfl ?_
  refine rl_det (met_none rfl) (fun h_ H_ => exd_move (v := .slice a16 ((wea ds).length) cp17) rfl) (tm' := _::_::_::_::_::_::_::_::_::_::_) rfl ?_
  refine rl_det (met_none rfl) (fun h_ H_ => exd_len Try.underlying108 rfl) rfl ?_
  refine rl_det (met_none rfl) (fun h_ H_ => exd_lss rfl rfl) rfl ?_
  refine rl_end ?_
  by_cases cc22 : ((k : Nat) : Int) < (((wea ds).length : Nat) : Int)
  · refine fl_then rfl (decide_eq_true cc22) ?_
    refine fl_skip ?_
    refine fl_seq ?_
    refine fl_block ?_
    obtain ⟨Gw34, Gw35, Gw36, GX37, GX38, GX39, hG6_⟩ := sk6 (fun (v_ : Value) (x_ : Pcs) (w34 : Value) (w35 : Value) (w36 : Value) (X37 : Pcs) (X38 : Pcs) (X39 : Pcs) => v_ = .agg #[w34, w35, w36] ∧ (OwnS 3 1 w34 (ns (levs size start (wantOf ds) (listOf ((wea ds).getD k []))) n) X37) ∧ (OwnS 3 1 w35 (ns (lack size start (wantOf ds) (listOf ((wea ds).getD k []))) n) X38) ∧ (OwnS 3 1 w36 (ns (ovr size start (wantOf ds) (listOf ((wea ds).getD k []))) n) X39) ∧ x_ = (X37 ++ (X38 ++ (X39 ++ []))))
    refine rs_as (fl_mixed2 (C := []) (A := ([(b1, .cells #[.int .i64 (size), .int .i64 (start), .slice a n c] 24 (0, 0))] : Pcs)) 8 [[], [], [], [], [2, 3], [2, 3, 4], [1, 2, 3, 4, 5], [1, 2, 3, 4, 5], [], []] [8, 9] [8, 9, 6, 7] [0, 1, 2, 3, 4, 5] (fun i_ => match i_ with | 8 => X | 9 => Z | _ => []) (fun _ => []) (fun i_ => match i_ with | 0 => [] | 1 => [] | 2 => [] | 3 => [] | 4 => [2, 3] | 5 => [4] | 6 => [1, 5] | 7 => [6] | _ => []) (fun i_ val_ pc_ v_ x_ => match i_ with | 0 => v_ = w ∧ x_ = [] | 1 => v_ = .agg #[.int .i64 (size), .int .i64 (start), .slice a n c] ∧ x_ = [] | 2 => v_ = .slice a16 ((wea ds).length) cp17 ∧ x_ = [] | 3 => v_ = .int .i64 (((k : Nat) : Int)) ∧ x_ = [] | 4 => v_ = .pointer (some ((adr a16).add (k * 1))) ∧ x_ = [] | 5 => v_ = .slice (A13 k) n (C14 k) ∧ x_ = [] | 6 => ∃ w34 : Value, ∃ w35 : Value, ∃ w36 : Value, ∃ X37 : Pcs, ∃ X38 : Pcs, ∃ X39 : Pcs, v_ = .agg #[w34, w35, w36] ∧ (OwnS 3 1 w34 (ns (levs size start (wantOf ds) (listOf ((wea ds).getD k []))) n) X37) ∧ (OwnS 3 1 w35 (ns (lack size start (wantOf ds) (listOf ((wea ds).getD k []))) n) X38) ∧ (OwnS 3 1 w36 (ns (ovr size start (wantOf ds) (listOf ((wea ds).getD k []))) n) X39) ∧ x_ = (X37 ++ (X38 ++ (X39 ++ []))) | 7 => OwnS 30 3 v_ [[(Gw34 (val_ 6) (pc_ 6)), (Gw35 (val_ 6) (pc_ 6)), (Gw36 (val_ 6) (pc_ 6))]] x_ | _ => True) (fun val32 => [.agg #[.int .i64 (size), .int .i64 (start), .slice a n c], .pointer (some ⟨b1, 0, none⟩), .slice none 0 0, .slice a16 ((wea ds).length) cp17, w, .int .i64 (((k : Nat) : Int)), .agg #[.int .i64 (size), .int .i64 (start), .slice a n c], .slice a16 ((wea ds).length) cp17, .int .i64 (((k : Nat) : Int)), .slice a16 ((wea ds).length) cp17, .int .i64 ((((wea ds).length : Nat) : Int)), .bool (decide (((k : Nat) : Int) < (((wea ds).length : Nat) : Int))), (y20 12), (y20 13), (val32 0), (val32 1), (val32 2), (val32 3), (val32 4), (val32 5), (val32 6), (val32 7), (y20 22), undef]) mixed (by kernel_rfl) (Nat.le_of_ble_eq_true rfl) (by kernel_rfl) (by kernel_rfl) (by kernel_rfl) (fun _ _ => ⟨fun _ _ h => h.2, ⟨fun _ _ h => h.2, ⟨fun _ _ h => h.2, ⟨fun _ _ h => h.2, ⟨fun _ _ h => h.2, ⟨fun _ _ h => h.2, trivial⟩⟩⟩⟩⟩⟩) (fun _ => by kernel_rfl) (by kernel_rfl) ?_ ?_) (fun h_ H_ => St.swap (A := ([(b1, .cells #[.int .i64 (size), .int .i64 (start), .slice a n c] 24 (0, 0))] : Pcs)) (U := (X ++ (Z ++ []))) H_)
    · refine mixes_cons rfl (opmix2 ?_) ?_
      · intro val32 pc33 hQ_ hX_
        obtain ⟨q_, hq0_⟩ : ∃ q_ : Value → Pcs → Prop, q_ = (fun v_ x_ => v_ = w ∧ x_ = []) := ⟨_, rfl⟩
        refine ⟨[.agg #[.int .i64 (size), .int .i64 (start), .slice a n c], .pointer (some ⟨b1, 0, none⟩), .slice none 0 0, .slice a16 ((wea ds).length) cp17, w, .int .i64 (((k : Nat) : Int)), .agg #[.int .i64 (size), .int .i64 (start), .slice a n c], .slice a16 ((wea ds).length) cp17, .int .i64 (((k : Nat) : Int)), .slice a16 ((wea ds).length) cp17, .int .i64 ((((wea ds).length : Nat) : Int)), .bool (decide (((k : Nat) : Int) < (((wea ds).length : Nat) : Int))), (y20 12), (y20 13), (val32 0), (val32 1), (val32 2), (val32 3), (val32 4), (val32 5), (val32 6), (val32 7), (y20 22), undef], [], q_, rfl, rfl, (fun _ _ z_ => by subst hq0_; exact z_), ?_⟩
        subst hq0_
        exact mix_det (met_none rfl) (fun _ h_ H_ => exd_move (v := w) rfl) ⟨rfl, rfl⟩
      refine mixes_cons rfl (opmix2 ?_) ?_
      · intro val32 pc33 hQ_ hX_
        obtain ⟨q_, hq0_⟩ : ∃ q_ : Value → Pcs → Prop, q_ = (fun v_ x_ => v_ = .agg #[.int .i64 (size), .int .i64 (start), .slice a n c] ∧ x_ = []) := ⟨_, rfl⟩
        refine ⟨[.agg #[.int .i64 (size), .int .i64 (start), .slice a n c], .pointer (some ⟨b1, 0, none⟩), .slice none 0 0, .slice a16 ((wea ds).length) cp17, w, .int .i64 (((k : Nat) : Int)), .agg #[.int .i64 (size), .int .i64 (start), .slice a n c], .slice a16 ((wea ds).length) cp17, .int .i64 (((k : Nat) : Int)), .slice a16 ((wea ds).length) cp17, .int .i64 ((((wea ds).length : Nat) : Int)), .bool (decide (((k : Nat) : Int) < (((wea ds).length : Nat) : Int))), (y20 12), (y20 13), (val32 0), (val32 1), (val32 2), (val32 3), (val32 4), (val32 5), (val32 6), (val32 7), (y20 22), undef], [], q_, rfl, rfl, (fun _ _ z_ => by subst hq0_; exact z_), ?_⟩
        subst hq0_
        exact mix_det (met_none rfl) (fun _ h_ H_ => exd_loadN_own H_ tA24 tS24 rfl (i := 0) rfl (vs := [.int .i64 (size), .int .i64 (start), .slice a n c]) rfl rfl) ⟨rfl, rfl⟩
      refine mixes_cons rfl (opmix2 ?_) ?_
      · intro val32 pc33 hQ_ hX_
        obtain ⟨q_, hq0_⟩ : ∃ q_ : Value → Pcs → Prop, q_ = (fun v_ x_ => v_ = .slice a16 ((wea ds).length) cp17 ∧ x_ = []) := ⟨_, rfl⟩
        refine ⟨[.agg #[.int .i64 (size), .int .i64 (start), .slice a n c], .pointer (some ⟨b1, 0, none⟩), .slice none 0 0, .slice a16 ((wea ds).length) cp17, w, .int .i64 (((k : Nat) : Int)), .agg #[.int .i64 (size), .int .i64 (start), .slice a n c], .slice a16 ((wea ds).length) cp17, .int .i64 (((k : Nat) : Int)), .slice a16 ((wea ds).length) cp17, .int .i64 ((((wea ds).length : Nat) : Int)), .bool (decide (((k : Nat) : Int) < (((wea ds).length : Nat) : Int))), (y20 12), (y20 13), (val32 0), (val32 1), (val32 2), (val32 3), (val32 4), (val32 5), (val32 6), (val32 7), (y20 22), undef], [], q_, rfl, rfl, (fun _ _ z_ => by subst hq0_; exact z_), ?_⟩
        subst hq0_
        exact mix_det (met_none rfl) (fun _ h_ H_ => exd_move (v := .slice a16 ((wea ds).length) cp17) rfl) ⟨rfl, rfl⟩
      refine mixes_cons rfl (opmix2 ?_) ?_
      · intro val32 pc33 hQ_ hX_
        obtain ⟨q_, hq0_⟩ : ∃ q_ : Value → Pcs → Prop, q_ = (fun v_ x_ => v_ = .int .i64 (((k : Nat) : Int)) ∧ x_ = []) := ⟨_, rfl⟩
        refine ⟨[.agg #[.int .i64 (size), .int .i64 (start), .slice a n c], .pointer (some ⟨b1, 0, none⟩), .slice none 0 0, .slice a16 ((wea ds).length) cp17, w, .int .i64 (((k : Nat) : Int)), .agg #[.int .i64 (size), .int .i64 (start), .slice a n c], .slice a16 ((wea ds).length) cp17, .int .i64 (((k : Nat) : Int)), .slice a16 ((wea ds).length) cp17, .int .i64 ((((wea ds).length : Nat) : Int)), .bool (decide (((k : Nat) : Int) < (((wea ds).length : Nat) : Int))), (y20 12), (y20 13), (val32 0), (val32 1), (val32 2), (val32 3), (val32 4), (val32 5), (val32 6), (val32 7), (y20 22), undef], [], q_, rfl, rfl, (fun _ _ z_ => by subst hq0_; exact z_), ?_⟩
        subst hq0_
        exact mix_det (met_none rfl) (fun _ h_ H_ => exd_move (v := .int .i64 (((k : Nat) : Int))) rfl) ⟨rfl, rfl⟩
      refine mixes_cons rfl (opmix2 ?_) ?_
      · intro val32 pc33 hQ_ hX_
        have e2_ : val32 2 = .slice a16 ((wea ds).length) cp17 := (hQ_ 2 rfl).1
        have e3_ : val32 3 = .int .i64 (((k : Nat) : Int)) := (hQ_ 3 rfl).1
        obtain ⟨q_, hq0_⟩ : ∃ q_ : Value → Pcs → Prop, q_ = (fun v_ x_ => v_ = .pointer (some ((adr a16).add (k * 1))) ∧ x_ = []) := ⟨_, rfl⟩
        refine ⟨[.agg #[.int .i64 (size), .int .i64 (start), .slice a n c], .pointer (some ⟨b1, 0, none⟩), .slice none 0 0, .slice a16 ((wea ds).length) cp17, w, .int .i64 (((k : Nat) : Int)), .agg #[.int .i64 (size), .int .i64 (start), .slice a n c], .slice a16 ((wea ds).length) cp17, .int .i64 (((k : Nat) : Int)), .slice a16 ((wea ds).length) cp17, .int .i64 ((((wea ds).length : Nat) : Int)), .bool (decide (((k : Nat) : Int) < (((wea ds).length : Nat) : Int))), (y20 12), (y20 13), (val32 0), (val32 1), .slice a16 ((wea ds).length) cp17, .int .i64 (((k : Nat) : Int)), (val32 4), (val32 5), (val32 6), (val32 7), (y20 22), undef], [], q_, (by simp only [e2_, e3_]), rfl, (fun _ _ z_ => by subst hq0_; exact z_), ?_⟩
        subst hq0_
        exact mix_det (met_none rfl) (fun _ h_ H_ => exd_indexAddrN (i := k) Try.underlying108 tS25 (sl_ne a16 ((wea ds).length) cp17 (T12.ne (by omega))) rfl (by omega)) ⟨rfl, rfl⟩
      refine mixes_cons rfl (opmix2 ?_) ?_
      · intro val32 pc33 hQ_ hX_
        have e4_ : val32 4 = .pointer (some ((adr a16).add (k * 1))) := (hQ_ 4 rfl).1
        obtain ⟨q_, hq0_⟩ : ∃ q_ : Value → Pcs → Prop, q_ = (fun v_ x_ => v_ = .slice (A13 k) n (C14 k) ∧ x_ = []) := ⟨_, rfl⟩
        refine ⟨[.agg #[.int .i64 (size), .int .i64 (start), .slice a n c], .pointer (some ⟨b1, 0, none⟩), .slice none 0 0, .slice a16 ((wea ds).length) cp17, w, .int .i64 (((k : Nat) : Int)), .agg #[.int .i64 (size), .int .i64 (start), .slice a n c], .slice a16 ((wea ds).length) cp17, .int .i64 (((k : Nat) : Int)), .slice a16 ((wea ds).length) cp17, .int .i64 ((((wea ds).length : Nat) : Int)), .bool (decide (((k : Nat) : Int) < (((wea ds).length : Nat) : Int))), (y20 12), (y20 13), (val32 0), (val32 1), (val32 2), (val32 3), .pointer (some ((adr a16).add (k * 1))), (val32 5), (val32 6), (val32 7), (y20 22), undef], [], q_, (by simp only [e4_]), rfl, (fun _ _ z_ => by subst hq0_; exact z_), ?_⟩
        subst hq0_
        exact mix_det (met_none rfl) (fun _ h_ H_ => exd_load_per H_ tA25 rfl (v := .slice (A13 k) n (C14 k)) (T12.cell _ (by omega))) ⟨rfl, rfl⟩
      refine mixes_cons rfl (opmix2 ?_) ?_
      · intro val32 pc33 hQ_ hX_
        have e1_ : val32 1 = .agg #[.int .i64 (size), .int .i64 (start), .slice a n c] := (hQ_ 1 rfl).1
        have e5_ : val32 5 = .slice (A13 k) n (C14 k) := (hQ_ 5 rfl).1
        obtain ⟨q_, hq0_⟩ : ∃ q_ : Value → Pcs → Prop, q_ = (fun v_ x_ => ∃ w34 : Value, ∃ w35 : Value, ∃ w36 : Value, ∃ X37 : Pcs, ∃ X38 : Pcs, ∃ X39 : Pcs, v_ = .agg #[w34, w35, w36] ∧ (OwnS 3 1 w34 (ns (levs size start (wantOf ds) (listOf ((wea ds).getD k []))) n) X37) ∧ (OwnS 3 1 w35 (ns (lack size start (wantOf ds) (listOf ((wea ds).getD k []))) n) X38) ∧ (OwnS 3 1 w36 (ns (ovr size start (wantOf ds) (listOf ((wea ds).getD k []))) n) X39) ∧ x_ = (X37 ++ (X38 ++ (X39 ++ [])))) := ⟨_, rfl⟩
        refine ⟨[.agg #[.int .i64 (size), .int .i64 (start), .slice a n c], .pointer (some ⟨b1, 0, none⟩), .slice none 0 0, .slice a16 ((wea ds).length) cp17, w, .int .i64 (((k : Nat) : Int)), .agg #[.int .i64 (size), .int .i64 (start), .slice a n c], .slice a16 ((wea ds).length) cp17, .int .i64 (((k : Nat) : Int)), .slice a16 ((wea ds).length) cp17, .int .i64 ((((wea ds).length : Nat) : Int)), .bool (decide (((k : Nat) : Int) < (((wea ds).length : Nat) : Int))), (y20 12), (y20 13), (val32 0), .agg #[.int .i64 (size), .int .i64 (start), .slice a n c], (val32 2), (val32 3), (val32 4), .slice (A13 k) n (C14 k), (val32 6), (val32 7), (y20 22), undef], [], q_, (by simp only [e1_, e5_]), rfl, (fun _ _ z_ => by subst hq0_; exact z_), ?_⟩
        subst hq0_
        exact mix_call (met_none rfl) (first := []) (cap := []) rfl rfl fC75 (fun _ h_ H_ => (c75 md _ _ (fun b_ o_ e_ => H_.per b_ o_ e_) (size) (start) _ _ _ _ ((D.mono le10).mono le18) (by omega) _ _ _ _ (T12.ints _ (by omega)) hL (wea_weather hd (by omega))).mono fun v_ h2_ ⟨w34, w35, w36, X37, X38, X39, e_, o40, o41, o42, N_⟩ => ⟨_, ⟨w34, w35, w36, X37, X38, X39, e_, o40, o41, o42, rfl⟩, H_.callN N_⟩)
      refine mixes_cons rfl (opmix2 ?_) ?_
      · intro val32 pc33 hQ_ hX_
        obtain ⟨e6_, o40, o41, o42, x6_⟩ := hG6_ _ _ (hQ_ 6 rfl)
        generalize hg_w34 : Gw34 (val32 6) (pc33 6) = w34 at *
        generalize hg_w35 : Gw35 (val32 6) (pc33 6) = w35 at *
        generalize hg_w36 : Gw36 (val32 6) (pc33 6) = w36 at *
        generalize hg_X37 : GX37 (val32 6) (pc33 6) = X37 at *
        generalize hg_X38 : GX38 (val32 6) (pc33 6) = X38 at *
        generalize hg_X39 : GX39 (val32 6) (pc33 6) = X39 at *
        obtain ⟨q_, hq0_⟩ : ∃ q_ : Value → Pcs → Prop, q_ = (fun v_ x_ => OwnS 30 3 v_ [[w34, w35, w36]] x_) := ⟨_, rfl⟩
        refine ⟨[.agg #[.int .i64 (size), .int .i64 (start), .slice a n c], .pointer (some ⟨b1, 0, none⟩), .slice none 0 0, .slice a16 ((wea ds).length) cp17, w, .int .i64 (((k : Nat) : Int)), .agg #[.int .i64 (size), .int .i64 (start), .slice a n c], .slice a16 ((wea ds).length) cp17, .int .i64 (((k : Nat) : Int)), .slice a16 ((wea ds).length) cp17, .int .i64 ((((wea ds).length : Nat) : Int)), .bool (decide (((k : Nat) : Int) < (((wea ds).length : Nat) : Int))), (y20 12), (y20 13), (val32 0), (val32 1), (val32 2), (val32 3), (val32 4), (val32 5), .agg #[w34, w35, w36], (val32 7), (y20 22), undef], [], q_, (by simp only [e6_]), rfl, (fun _ _ z_ => by subst hq0_ hg_w34 hg_w35 hg_w36 hg_X37 hg_X38 hg_X39; exact z_), ?_⟩
        subst hq0_
        exact mix_buildO (met_none rfl) Try.underlying81 tS30 tZ30 (Nat.le_of_ble_eq_true rfl) (vs := [(0, .agg #[w34, w35, w36])]) rfl rfl (es := [[w34, w35, w36]]) rfl rfl rfl fun _ _ o_ => o_
      exact mixes_nil rfl
    intro val32 pc33 hQ_ hX_
    have e0_ : val32 0 = w := (hQ_ 0 (by decide)).1
    have e1_ : val32 1 = .agg #[.int .i64 (size), .int .i64 (start), .slice a n c] := (hQ_ 1 (by decide)).1
    have e2_ : val32 2 = .slice a16 ((wea ds).length) cp17 := (hQ_ 2 (by decide)).1
    have e3_ : val32 3 = .int .i64 (((k : Nat) : Int)) := (hQ_ 3 (by decide)).1
    have e4_ : val32 4 = .pointer (some ((adr a16).add (k * 1))) := (hQ_ 4 (by decide)).1
    have e5_ : val32 5 = .slice (A13 k) n (C14 k) := (hQ_ 5 (by decide)).1
    obtain ⟨e6_, o40, o41, o42, x6_⟩ := hG6_ _ _ (hQ_ 6 (by decide))
    have q7_ : OwnS 30 3 (val32 7) [[(Gw34 (val32 6) (pc33 6)), (Gw35 (val32 6) (pc33 6)), (Gw36 (val32 6) (pc33 6))]] (pc33 7) := hQ_ 7 (by decide)
    have x8_ : pc33 8 = X := hX_ 8 (by decide)
    have x9_ : pc33 9 = Z := hX_ 9 (by decide)
    clear hQ_ hX_
    generalize Gw34 (val32 6) (pc33 6) = w34 at *
    generalize Gw35 (val32 6) (pc33 6) = w35 at *
    generalize Gw36 (val32 6) (pc33 6) = w36 at *
    generalize GX37 (val32 6) (pc33 6) = X37 at *
    generalize GX38 (val32 6) (pc33 6) = X38 at *
    generalize GX39 (val32 6) (pc33 6) = X39 at *
    refine rl_as (Φ := fun h_ => St h [] p15 h_ (([(b1, .cells #[.int .i64 (size), .int .i64 (start), .slice a n c] 24 (0, 0))] : Pcs) ++ (pc33 8 ++ (pc33 9 ++ (pc33 6 ++ (pc33 7 ++ [])))))) ?_ (fun h_ H_ => H_.swap')
    rw [x8_, x9_, x6_]
    refine rl_own (L' := ([(b1, .cells #[.int .i64 (size), .int .i64 (start), .slice a n c] 24 (0, 0))] : Pcs) ++ (X ++ (Z ++ (X37 ++ (X38 ++ (X39 ++ ((pc33 7) ++ []))))))) (by simp) ?_
    refine rl_norm (tm' := [.agg #[.int .i64 (size), .int .i64 (start), .slice a n c], .pointer (some ⟨b1, 0, none⟩), .slice none 0 0, .slice a16 ((wea ds).length) cp17, w, .int .i64 (((k : Nat) : Int)), .agg #[.int .i64 (size), .int .i64 (start), .slice a n c], .slice a16 ((wea ds).length) cp17, .int .i64 (((k : Nat) : Int)), .slice a16 ((wea ds).length) cp17, .int .i64 ((((wea ds).length : Nat) : Int)), .bool (decide (((k : Nat) : Int) < (((wea ds).length : Nat) : Int))), (y20 12), (y20 13), w, .agg #[.int .i64 (size), .int .i64 (start), .slice a n c], .slice a16 ((wea ds).length) cp17, .int .i64 (((k : Nat) : Int)), .pointer (some ((adr a16).add (k * 1))), .slice (A13 k) n (C14 k), .agg #[w34, w35, w36], (val32 7), (y20 22), undef]) (by simp only [e0_, e1_, e2_, e3_, e4_, e5_, e6_]) ?_
    have o45 := q7_
    refine rl_perm (List.Perm.append_left _ (List.Perm.append_left _ (List.Perm.append_left _ (List.Perm.append_left _ (List.Perm.append_left _ (List.perm_append_comm_assoc _ _ _)))))) ?_
    refine rl_perm (List.Perm.append_left _ (List.Perm.append_left _ (List.Perm.append_left _ (List.Perm.append_left _ (List.perm_append_comm_assoc _ _ _))))) ?_
    refine rl_perm (List.Perm.append_left _ (List.Perm.append_left _ (List.Perm.append_left _ (List.perm_append_comm_assoc _ _ _)))) ?_
    refine rl_perm (List.Perm.append_left _ (List.Perm.append_left _ (List.perm_append_comm_assoc _ _ _))) ?_
    refine rl_own (L' := ([(b1, .cells #[.int .i64 (size), .int .i64 (start), .slice a n c] 24 (0, 0))] : Pcs) ++ (X ++ ((pc33 7) ++ (Z ++ (X37 ++ (X38 ++ (X39 ++ []))))))) rfl ?_
    refine rl_appendO ([(b1, .cells #[.int .i64 (size), .int .i64 (start), .slice a n c] 24 (0, 0))] : Pcs) X (pc33 7) (met_none rfl) Try.underlying81 tS30 tZ30 rfl tB30 Try.underlying81 rfl rfl o o45 (ones_of (ones_cons o40.one.2 (ones_cons o41.one.2 (ones_cons o42.one.2 rfl)))) (by simp only [List.length_cons, List.length_nil]; omega) (by decide) fun v46 X47 o48 => ?_
    refine rl_norm (tm' := [_,_,_,_,_,_,_,_,_,_,_,_,_,_,_,_,_,_,_,_,_,_,_,_]) rfl ?_
    refine rl_det (met_none rfl) (fun h_ H_ => exd_assign (v := v46) rfl) rfl ?_
    refine rl_end ?_
    refine fl_inBlock ?_
    refine rl_start ?_
    refine rl_det (met_none rfl) (fun h_ H_ => exd_move (v := .int .i64 (((k : Nat) : Int))) rfl) rfl ?_
    refine rl_det (met_none rfl) (fun h_ H_ => exd_add rfl rfl (n := ((k + 1 : Nat) : Int)) (wr (by omega))) (tm' := _::_::_::_::_::_::_::_::_::_::_::_::_::_::_) rfl ?_
    refine rl_det (met_none rfl) (fun h_ H_ => exd_assign (v := .int .i64 (((k + 1 : Nat) : Int))) rfl) rfl ?_
    refine rl_end ?_
    refine rs_own (L' := ([(b1, .cells #[.int .i64 (size), .int .i64 (start), .slice a n c] 24 (0, 0))] : Pcs) ++ (X47 ++ ((Z ++ (X37 ++ (X38 ++ X39))) ++ []))) (by simp) ?_
    exact fun h_ H_ => IH21 _ _ (by omega) h_ ⟨k + 1, v46, _, X47, (Z ++ (X37 ++ (X38 ++ X39))), rfl, (y_of rfl), ⟨(by omega), o48, (InnS.snoc hI.i o40 o41 o42 (nums_length _ _) (nums_length _ _) (nums_length _ _)), (by rw [List.length_append, el]; rfl)⟩, H_⟩
  · refine fl_else rfl (decide_eq_false cc22) ?_
    refine fl_exit rfl ?_
    refine fl_seq ?_
    refine rl_start ?_
    refine rl_det (met_none rfl) (fun h_ H_ => exd_move (v := w) rfl) rfl ?_
    refine rl_det (met_none rfl) (fun h_ H_ => exd_assign (v := w) rfl) (tm' := _::_::_::_) rfl ?_
    refine rl_end ?_
    refine fl_ret Try.func77 rfl (vs := [w]) (fun h_ H_ => ⟨w, _, rfl, rfl, rfl⟩) (v := w) rfl ?_
    obtain rfl : k = (wea ds).length := by omega
    exact fun h_ H_ => K _ _ ⟨_, _, _, o, hI.i, el, by simpa using H_.dropA.new⟩
end Go.Proofs.Ytbmkacnlhlbnjaa
namespace Go.X.Cist
open Go.X Go.Proofs.Ytbmkacnlhlbnjaa Go.Conc

section
variable {size start : Int} {ds : List Day} {n : Nat} {day : Int}
def gL (size start : Int) (ds : List Day) (n d i : Nat) : Int := (yFL size start ds n i).getD d 0
def gK (size start : Int) (ds : List Day) (n d i : Nat) : Int := (yFK size start ds n i).getD d 0
def gO (size start : Int) (ds : List Day) (n : Nat) (day : Int) (i : Nat) : Int := sumTo (listOf (yFO size start ds n i)) (min n (day + 1).toNat)

/-- The driest and the wettest weather. -/
def loList (ds : List Day) : List Int := nums (loOf ds) ds.length
def hiList (ds : List Day) : List Int := nums (hiOf ds) ds.length
theorem lo_weather (hd : Dok ds) : Weather ds (loList ds) := by
  refine ⟨nums_length _ _, fun i hi => ?_⟩
  rw [loList, nums_length] at hi
  have := (hd i hi).1
  rw [loList, nums_getD hi]
  exact ⟨Int.le_refl _, by unfold loOf; omega⟩
theorem hi_weather (hd : Dok ds) : Weather ds (hiList ds) := by
  refine ⟨nums_length _ _, fun i hi => ?_⟩
  rw [hiList, nums_length] at hi
  have := (hd i hi).1
  rw [hiList, nums_getD hi]
  exact ⟨by unfold hiOf; omega, Int.le_refl _⟩
theorem lo_list {i : Nat} (h : i < ds.length) : listOf (loList ds) i = loOf ds i := nums_getD h
theorem hi_list {i : Nat} (h : i < ds.length) : listOf (hiList ds) i = hiOf ds i := nums_getD h
theorem wea_lo (hd : Dok ds) {i : Nat} (hi : i < (wea ds).length) : ∀ j, j < ds.length → loOf ds j ≤ listOf ((wea ds).getD i []) j := weather_lo (wea_weather hd hi)
theorem wea_hi (hd : Dok ds) {i : Nat} (hi : i < (wea ds).length) : ∀ j, j < ds.length → listOf ((wea ds).getD i []) j ≤ hiOf ds j := weather_hi (wea_weather hd hi)
theorem at_lo (hd : Dok ds) : ∃ i, i < (wea ds).length ∧ ∀ j, j < ds.length → listOf ((wea ds).getD i []) j = loOf ds j := by
  obtain ⟨i, hi, e⟩ := wea_at hd (lo_weather hd)
  exact ⟨i, hi, fun j hj => by rw [e]; exact lo_list hj⟩
theorem at_hi (hd : Dok ds) : ∃ i, i < (wea ds).length ∧ ∀ j, j < ds.length → listOf ((wea ds).getD i []) j = hiOf ds j := by
  obtain ⟨i, hi, e⟩ := wea_at hd (hi_weather hd)
  exact ⟨i, hi, fun j hj => by rw [e]; exact hi_list hj⟩
theorem ovr_sum_congr {want r r' : Nat → Int} {m k : Nat} (hk : k ≤ m) (h : ∀ j, j < m → r j = r' j) : sumTo (ovr size start want r) k = sumTo (ovr size start want r') k :=
  sumTo_congr fun i hi => ovr_congr (fun _ _ => rfl) fun j hj => h j (by omega)

theorem level_ref (hOk : Ok size start ds) (hday : IsDay ds day) (hl : ds.length = n) : levelR size start ds day = ((mnF (gL size start ds n day.toNat) (wea ds).length, mxF (gL size start ds n day.toNat) (wea ds).length), 0) := by
  subst hl
  obtain ⟨d0, d1⟩ := hday
  have hd := hOk.dok
  have hk : day.toNat < ds.length := by omega
  rw [level_ok hOk ⟨d0, d1⟩]
  unfold levLo levHi
  rw [start_min hOk]
  congr 2
  · refine (mnF_eq (fun i hi => ?_) ?_).symm
    · unfold gL yFL; rw [nums_getD hk]; exact more_lev (wea_lo hd hi) (day.toNat + 1) hk
    · obtain ⟨i, hi, e⟩ := at_lo hd
      refine ⟨i, hi, ?_⟩
      unfold gL yFL; rw [nums_getD hk]
      exact lev_congr _ (fun _ _ => rfl) fun j hj => e j (by omega)
  · refine (mxF_eq (fun i hi => ?_) ?_).symm
    · unfold gL yFL; rw [nums_getD hk]; exact more_lev (wea_hi hd hi) (day.toNat + 1) hk
    · obtain ⟨i, hi, e⟩ := at_hi hd
      refine ⟨i, hi, ?_⟩
      unfold gL yFL; rw [nums_getD hk]
      exact lev_congr _ (fun _ _ => rfl) fun j hj => e j (by omega)
theorem lack_ref (hOk : Ok size start ds) (hday : IsDay ds day) (hl : ds.length = n) : lackR size start ds day = ((mnF (gK size start ds n day.toNat) (wea ds).length, mxF (gK size start ds n day.toNat) (wea ds).length), 0) := by
  subst hl
  obtain ⟨d0, d1⟩ := hday
  have hd := hOk.dok
  have hk : day.toNat < ds.length := by omega
  rw [lack_ok hOk ⟨d0, d1⟩]
  unfold lackLo lackHi
  rw [start_min hOk]
  congr 2
  · refine (mnF_eq (fun i hi => ?_) ?_).symm
    · unfold gK yFK; rw [nums_getD hk]; exact more_lack (wea_hi hd hi) day.toNat hk
    · obtain ⟨i, hi, e⟩ := at_hi hd
      refine ⟨i, hi, ?_⟩
      unfold gK yFK; rw [nums_getD hk]
      exact lack_congr (fun _ _ => rfl) fun j hj => e j (by omega)
  · refine (mxF_eq (fun i hi => ?_) ?_).symm
    · unfold gK yFK; rw [nums_getD hk]; exact more_lack (wea_lo hd hi) day.toNat hk
    · obtain ⟨i, hi, e⟩ := at_lo hd
      refine ⟨i, hi, ?_⟩
      unfold gK yFK; rw [nums_getD hk]
      exact lack_congr (fun _ _ => rfl) fun j hj => e j (by omega)
theorem over_ref (hOk : Ok size start ds) (hday : IsDay ds day) (hl : ds.length = n) : overR size start ds day = ((mnF (gO size start ds n day) (wea ds).length, mxF (gO size start ds n day) (wea ds).length), 0) := by
  subst hl
  obtain ⟨d0, d1⟩ := hday
  have hd := hOk.dok
  have hk : day.toNat < ds.length := by omega
  have e0 : ∀ i, gO size start ds ds.length day i = sumTo (ovr size start (wantOf ds) (listOf ((wea ds).getD i []))) (day.toNat + 1) := fun i => by
    unfold gO yFO
    rw [show min ds.length (day + 1).toNat = day.toNat + 1 from by omega]
    exact sum_nums (by omega)
  rw [over_ok hOk ⟨d0, d1⟩]
  unfold overLo overHi
  rw [start_min hOk]
  congr 2
  · refine (mnF_eq (fun i hi => ?_) ?_).symm
    · rw [e0]; exact sum_more (wea_lo hd hi) (by omega)
    · obtain ⟨i, hi, e⟩ := at_lo hd
      exact ⟨i, hi, by rw [e0]; exact ovr_sum_congr (m := ds.length) (by omega) e⟩
  · refine (mxF_eq (fun i hi => ?_) ?_).symm
    · rw [e0]; exact sum_more (wea_hi hd hi) (by omega)
    · obtain ⟨i, hi, e⟩ := at_hi hd
      exact ⟨i, hi, by rw [e0]; exact ovr_sum_congr (m := ds.length) (by omega) e⟩

/-! ### right -/
/-- The first day up to and with which so much has run over. -/
def whenX (xs : List Int) (n : Nat) (m : Int) : Int := match upTo (fun k => decide (m ≤ sumTo (listOf xs) (k + 1))) 0 n with | some k => ((k : Nat) : Int) | none => -1
def gR (size start : Int) (ds : List Day) (n : Nat) (m : Int) (i : Nat) : Int := whenX (yFO size start ds n i) n m
/-! ### dry, must -/
/-! ### what lasts -/
theorem fo_ok (hL : Lok size start ds) (hl : ds.length = n) {i : Nat} (hi : i < (wea ds).length) (j : Nat) (hj : j < n) : 0 ≤ (yFO size start ds n i).getD j 0 ∧ (yFO size start ds n i).getD j 0 ≤ 100 := by
  subst hl
  have hd : Dok ds := fun i hi => by have := hL.2.2.2.2.2 i hi; omega
  have h1 := lok_day hL (wea_weather hd hi) (k := j) (by omega)
  have h2 := (h1.2.2 hj).1
  unfold yFO
  rw [nums_getD hj]
  have := ovr_le (want := wantOf ds) (rain := listOf ((wea ds).getD i [])) h1.2.1 h2.1
  have h3 : listOf ((wea ds).getD i []) j ≤ 20 := h2.2
  omega
def gS (size start : Int) (ds : List Day) (n i : Nat) : Int := sumTo (listOf (yFK size start ds n i)) (min n (((n : Nat) : Int) + 1).toNat)
theorem far_wea (hOk : Ok size start ds) (h : ¬ FarD size start ds) : (wea ds).length ≤ 60 := by
  have h1 := wea_cnt hOk.dok
  unfold FarD at h
  have : ¬ 60 < cnt ds ds.length := fun x => h (.inr ⟨hOk, x⟩)
  omega
end
end Go.X.Cist
