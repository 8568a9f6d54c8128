/-
  CisternsDoubt, for every input: the law returns true and leaves its arguments as they were. No condition.
-/
import Derived.Test.YtbmkacnlhlbnjaaC3x
import Derived.Test.YtbmkacnlhlbnjaaC4
import Derived.Test.YtbmkacnlhlbnjaaRows
import Derived.Test.YtbmkacnlhlbnjaaC6
import Derived.Test.YtbmkacnlhlbnjaaC2
import Derived.Test.YtbmkacnlhlbnjaaC5
namespace Go.Proofs.Ytbmkacnlhlbnjaa
open Go.X Go.X.Cist Go.Conc Go.RowKit Go.ChangeShapes Go.WideShapes Go.ChangeAt Go.Joins

set_option maxRecDepth 100000

theorem pOwn : ownKnob Try.prog.godebug = none := by kernel_rfl
theorem pLaid : laidOutB Try.prog = true := by kernel_rfl
theorem pC3 : Try.prog.cellsOf 3 = 1 := by kernel_rfl
theorem pC24 : Try.prog.cellsOf 24 = 3 := by kernel_rfl
theorem pC36 : Try.prog.cellsOf 36 = 2 := by kernel_rfl
theorem pC60 : Try.prog.cellsOf 60 = 3 := by kernel_rfl
theorem pC38 : Try.prog.cellsOf 38 = 3 := by kernel_rfl

section
variable {H : Type} {enc : TypeId × Value → H} {W : World}
theorem trod_day {m : Nat} {cs : List Value} {y : DataW H × List MemPlace} (h : DataW.trod enc Try.prog W 0 (fun _ => true) true m 38 cs = some y) : ∃ d : Day, cs = d.cells := by
  obtain ⟨y0, y1, n, _, hl, h0, h1⟩ := trod_struct2 Try.underlying38 h
  obtain ⟨z0, z1, n', _, hl', h2, h3⟩ := trod_struct2 Try.underlying36 h0
  rw [pC38] at hl
  obtain ⟨a, ha⟩ := trod_i64 Try.underlying3 h2
  obtain ⟨b, hb⟩ := trod_i64 Try.underlying3 h3
  obtain ⟨c, hc⟩ := trod_i64 Try.underlying3 h1
  match cs, hl with
  | [u, v, w], _ =>
    refine ⟨⟨a, b, c⟩, ?_⟩
    simp [pC36, pC3] at ha hb hc
    simp [Day.cells, ha, hb, hc]
theorem open_days {fuel : Nat} {v : Value} {y : DataW H × List MemPlace} (h : DataW.trod enc Try.prog W 0 (fun _ => true) true fuel 22 [v] = some y) : ∃ a n c ds, v = .slice a n c ∧ Days (vwP W) a n ds := by
  obtain ⟨a, n, c, E, rfl, hQ, s⟩ := open_sl Try.underlying22 pC38 (Q := fun cs => ∃ d : Day, cs = d.cells) (fun m cs y h => trod_day h) h
  obtain ⟨z, hz⟩ := Go.Deep.choose_lt hQ
  refine ⟨a, n, c, (List.range n).map z, rfl, ?_⟩
  have : (List.range n).map E = dcs ((List.range n).map z) := by
    unfold dcs
    rw [List.map_map]
    exact List.map_congr_left fun i hi => hz i (List.mem_range.1 hi)
  unfold Days
  rw [← this]; exact s
theorem open_year {base : Nat} {v : Value} {d : DataW H} {p : List MemPlace} (hv : Value.okWide Try.prog W .any base 24 v) (h : DataW.Trod enc Try.prog W 0 (fun _ => true) true 24 v d p) :
    ∃ size start a n c ds, v = .agg #[.int .i64 size, .int .i64 start, .slice a n c] ∧ Days (vwP W) a n ds := by
  obtain ⟨v0, v1, v2, y0, y1, y2, n, rfl, _, _, h0, h1, h2⟩ := open_agg3 Try.underlying24 (by kernel_rfl) pC24 hv h
  obtain ⟨size, e0⟩ := trod_i64 Try.underlying3 h0
  obtain ⟨start, e1⟩ := trod_i64 Try.underlying3 h1
  obtain ⟨a, n, c, ds, rfl, D⟩ := open_days h2
  obtain rfl : v0 = _ := by simpa using e0
  obtain rfl : v1 = _ := by simpa using e1
  exact ⟨size, start, a, n, c, ds, rfl, D⟩
theorem open_doubt {base : Nat} {v : Value} {d : DataW H} {p : List MemPlace} (hv : Value.okWide Try.prog W .any base 60 v) (h : DataW.Trod enc Try.prog W 0 (fun _ => true) true 60 v d p) :
    ∃ k1 k2 k3, v = .agg #[.int .i64 k1, .int .i64 k2, .int .i64 k3] := by
  obtain ⟨cs, rfl, hsz⟩ := okWide_struct Try.underlying60 hv
  obtain ⟨fuel, hf⟩ := h
  obtain ⟨y0, y1, n, _, hl, h0, h1⟩ := trod_struct2 Try.underlying60 hf
  obtain ⟨z0, z1, n', _, hl', h2, h3⟩ := trod_struct2 Try.underlying36 h1
  rw [pC60] at hl
  obtain ⟨a, ha⟩ := trod_i64 Try.underlying3 h0
  obtain ⟨b, hb⟩ := trod_i64 Try.underlying3 h2
  obtain ⟨c, hc⟩ := trod_i64 Try.underlying3 h3
  obtain ⟨l⟩ := cs
  match l, hl with
  | [u, v, w], _ =>
    refine ⟨a, b, c, ?_⟩
    simp [Value.cells, pC36, pC3] at ha hb hc
    simp [ha, hb, hc]
end
end Go.Proofs.Ytbmkacnlhlbnjaa
namespace Go.X.Cist
open Go.X Go.Proofs.Ytbmkacnlhlbnjaa

theorem sumTo_congr {f g : Nat → Int} : ∀ {k : Nat}, (∀ i, i < k → f i = g i) → sumTo f k = sumTo g k
  | 0, _ => rfl
  | k + 1, h => by simp only [sumTo]; rw [sumTo_congr fun i hi => h i (by omega), h k (by omega)]
theorem sumTo_le {f g : Nat → Int} : ∀ {k : Nat}, (∀ i, i < k → f i ≤ g i) → sumTo f k ≤ sumTo g k
  | 0, _ => Int.le_refl _
  | k + 1, h => by
    have h1 := sumTo_le (k := k) (f := f) (g := g) fun i hi => h i (by omega)
    have h2 := h k (by omega)
    simp only [sumTo]; omega
section
variable {size start : Int} {ds : List Day} {xs ys : List Int}
/-! ### more rain -/
theorem more_lev {want r r' : Nat → Int} {n : Nat} (h : ∀ i, i < n → r i ≤ r' i) : ∀ k, k ≤ n → lev size start want r k ≤ lev size start want r' k
  | 0, _ => Int.le_refl _
  | k + 1, hk => by
    have h1 := more_lev (want := want) h k (by omega)
    have h2 := h k (by omega)
    simp only [lev]; omega
theorem more_lack {want r r' : Nat → Int} {n : Nat} (h : ∀ i, i < n → r i ≤ r' i) (k : Nat) (hk : k < n) : lack size start want r' k ≤ lack size start want r k := by
  have h1 := more_lev (size := size) (start := start) (want := want) h k (by omega)
  have h2 := h k hk
  unfold lack ovr; omega
theorem more_ovr {want r r' : Nat → Int} {n : Nat} (h : ∀ i, i < n → r i ≤ r' i) (k : Nat) (hk : k < n) : ovr size start want r k ≤ ovr size start want r' k := by
  have h1 := more_lev (size := size) (start := start) (want := want) h k (by omega)
  have h2 := h k hk
  unfold ovr; omega
/-! ### nothing is lost -/
end
end Go.X.Cist
namespace Go.X.Cist
open Go.X Go.Proofs.Ytbmkacnlhlbnjaa

section
variable {size start size' start' : Int} {want want' rain rain' : Nat → Int} {ds ds' : List Day}

theorem lev_le {n : Nat} (hs : size ≤ size') (hst : start ≤ start') (hw : ∀ i, i < n → want' i ≤ want i) (hr : ∀ i, i < n → rain i ≤ rain' i) : ∀ k, k ≤ n → lev size start want rain k ≤ lev size' start' want' rain' k
  | 0, _ => hst
  | k + 1, hk => by
    have h1 := lev_le hs hst hw hr k (by omega)
    have h2 := hw k (by omega)
    have h3 := hr k (by omega)
    simp only [lev]; omega
theorem lack_ge {n : Nat} (hs : size ≤ size') (hst : start ≤ start') (hw : ∀ i, i < n → want' i ≤ want i) (hr : ∀ i, i < n → rain i ≤ rain' i) (k : Nat) (hk : k < n) : lack size' start' want' rain' k ≤ lack size start want rain k := by
  have h1 := lev_le (want := want) (want' := want') (rain := rain) (rain' := rain') hs hst hw hr k (by omega)
  have h2 := hw k hk
  have h3 := hr k hk
  unfold lack ovr; omega
theorem lev_congr : ∀ k, (∀ i, i < k → want i = want' i) → (∀ i, i < k → rain i = rain' i) → lev size start want rain k = lev size start want' rain' k
  | 0, _, _ => rfl
  | k + 1, hw, hr => by
    have h1 := lev_congr k (fun i hi => hw i (by omega)) fun i hi => hr i (by omega)
    simp only [lev]; rw [h1, hw k (by omega), hr k (by omega)]

/-! ### what lasts -/
theorem lasts_mono (hs : size ≤ size') (hst : min start size ≤ min start' size') (hl : ds'.length = ds.length) (hw : ∀ i, i < ds.length → wantOf ds' i ≤ wantOf ds i) (hr : ∀ i, i < ds.length → loOf ds i ≤ loOf ds' i) (h : Lasts size start ds) : Lasts size' start' ds' := by
  intro i hi
  rw [hl] at hi
  have h1 := h i hi
  have h2 := lack_ge (n := ds.length) hs hst hw hr i hi
  omega
theorem lackDay_dry {i : Nat} (h : i < ds.length) : lackDay ((dryOf size start ds).getD i dz) = decide (0 < lack size (min start size) (wantOf ds) (loOf ds) i) := by
  unfold dryOf; rw [side_getD h]; rfl
theorem lackDay_wet {i : Nat} (h : i < ds.length) : lackDay ((wetOf size start ds).getD i dz) = decide (0 < lack size (min start size) (wantOf ds) (hiOf ds) i) := by
  unfold wetOf; rw [side_getD h]; rfl
theorem dry_spec (hOk : Ok size start ds) : ((dryR size start ds) = (0, 3) ∧ Lasts size start ds) ∨
    ∃ k : Nat, k < ds.length ∧ dryR size start ds = (((k : Nat) : Int), 0) ∧ 0 < lack size (min start size) (wantOf ds) (loOf ds) k ∧ ∀ i, i < k → ¬ 0 < lack size (min start size) (wantOf ds) (loOf ds) i := by
  unfold dryR; rw [if_pos hOk]
  rcases idxF_cases lackDay (dryOf size start ds) with ⟨e, h⟩ | ⟨k, hk, e, h1, h2⟩
  · refine .inl ⟨by rw [e]; rfl, fun i hi => ?_⟩
    have := h i (by rw [dryOf_length]; exact hi)
    rw [lackDay_dry hi] at this
    exact of_decide_eq_false this
  · rw [dryOf_length] at hk
    refine .inr ⟨k, hk, ?_, ?_, fun i hi => ?_⟩
    · rw [e]; unfold noneR; rw [if_neg (by omega)]
    · rw [lackDay_dry hk] at h1; exact of_decide_eq_true h1
    · have := h2 i hi
      rw [lackDay_dry (by omega)] at this
      exact of_decide_eq_false this
theorem must_spec (hOk : Ok size start ds) : ((mustR size start ds) = (0, 3) ∧ ∀ i, i < ds.length → ¬ 0 < lack size (min start size) (wantOf ds) (hiOf ds) i) ∨
    ∃ k : Nat, k < ds.length ∧ mustR size start ds = (((k : Nat) : Int), 0) ∧ 0 < lack size (min start size) (wantOf ds) (hiOf ds) k ∧ ∀ i, i < k → ¬ 0 < lack size (min start size) (wantOf ds) (hiOf ds) i := by
  unfold mustR; rw [if_pos hOk]
  rcases idxF_cases lackDay (wetOf size start ds) with ⟨e, h⟩ | ⟨k, hk, e, h1, h2⟩
  · refine .inl ⟨by rw [e]; rfl, fun i hi => ?_⟩
    have := h i (by rw [wetOf_length]; exact hi)
    rw [lackDay_wet hi] at this
    exact of_decide_eq_false this
  · rw [wetOf_length] at hk
    refine .inr ⟨k, hk, ?_, ?_, fun i hi => ?_⟩
    · rw [e]; unfold noneR; rw [if_neg (by omega)]
    · rw [lackDay_wet hk] at h1; exact of_decide_eq_true h1
    · have := h2 i hi
      rw [lackDay_wet (by omega)] at this
      exact of_decide_eq_false this
/-- The number of a day, or of none. -/
def dayOr (r : Int × Int) : Int := if r.2 = 3 then 8 else r.1
theorem lo_hi (hOk : Ok size start ds) : ∀ i, i < ds.length → loOf ds i ≤ hiOf ds i := fun i hi => (hOk.dok i hi).1.2.1
theorem days_le (hOk : Ok size start ds) : dayOr (dryR size start ds) ≤ dayOr (mustR size start ds) := by
  have hn := hOk.2.2.2.2.1
  have hm : ∀ i, i < ds.length → lack size (min start size) (wantOf ds) (hiOf ds) i ≤ lack size (min start size) (wantOf ds) (loOf ds) i := fun i hi => lack_ge (n := ds.length) (Int.le_refl _) (Int.le_refl _) (fun _ _ => Int.le_refl _) (lo_hi hOk) i hi
  unfold dayOr
  rcases dry_spec hOk with ⟨e, h⟩ | ⟨k, hk, e, h1, h2⟩ <;> rcases must_spec hOk with ⟨e', h'⟩ | ⟨k', hk', e', h1', h2'⟩ <;> rw [e, e']
  · simp
  · exact absurd h1' (by have := h k' hk'; have := hm k' hk'; omega)
  · simp; omega
  · simp
    refine Nat.not_lt.1 fun hlt => ?_
    have := h2 k' (by omega)
    have := hm k' hk'
    omega

theorem day_or (hOk : Ok size start ds) : (dryR size start ds).2 = 3 ∨ ((dryR size start ds).2 = 0 ∧ IsDay ds (dryR size start ds).1) := by
  rcases dry_spec hOk with ⟨e, _⟩ | ⟨k, hk, e, _⟩ <;> rw [e]
  · exact .inl rfl
  · exact .inr ⟨rfl, by show (0 : Int) ≤ (k : Nat); omega, by show ((k : Nat) : Int) < _; omega⟩
theorem must_or (hOk : Ok size start ds) : (mustR size start ds).2 = 3 ∨ ((mustR size start ds).2 = 0 ∧ IsDay ds (mustR size start ds).1) := by
  rcases must_spec hOk with ⟨e, _⟩ | ⟨k, hk, e, _⟩ <;> rw [e]
  · exact .inl rfl
  · exact .inr ⟨rfl, by show (0 : Int) ≤ (k : Nat); omega, by show ((k : Nat) : Int) < _; omega⟩

/-! ### rations -/
theorem rationed_length {r : Int} : (rationed r ds).length = ds.length := wmap_length _ _
theorem rationed_want {r : Int} {i : Nat} (h : i < ds.length) : wantOf (rationed r ds) i = min (wantOf ds i) r := by unfold wantOf rationed; rw [wmap_getD h]
theorem rationed_lo {r : Int} {i : Nat} (h : i < ds.length) : loOf (rationed r ds) i = loOf ds i := by unfold loOf rationed; rw [wmap_getD h]
theorem rationed_less {r r' : Int} (h : r' ≤ r) (x : Lasts size start (rationed r ds)) : Lasts size start (rationed r' ds) := by
  refine lasts_mono (Int.le_refl _) (Int.le_refl _) (by rw [rationed_length, rationed_length]) (fun i hi => ?_) (fun i hi => ?_) x <;> rw [rationed_length] at hi
  · rw [rationed_want hi, rationed_want hi]; omega
  · rw [rationed_lo hi, rationed_lo hi]; exact Int.le_refl _
theorem rat_spec (hs : 0 ≤ size ∧ 0 ≤ start) (hd : Dok ds) : ∀ k : Nat, (0 ≤ ratDown size start ds k ∧ ratDown size start ds k ≤ k) ∧ Lasts size start (rationed (ratDown size start ds k) ds) ∧ ∀ m : Int, ratDown size start ds k < m → m ≤ k → ¬ Lasts size start (rationed m ds)
  | 0 => ⟨⟨Int.le_refl _, Int.le_refl _⟩, lasts_zero hs hd, fun m h1 h2 => absurd h2 (by have : ratDown size start ds 0 = 0 := rfl; omega)⟩
  | k + 1 => by
    have ih := rat_spec hs hd k
    unfold ratDown
    split
    · rename_i h
      exact ⟨⟨by omega, by omega⟩, h, fun m h1 h2 => absurd h2 (by omega)⟩
    · rename_i h
      refine ⟨⟨ih.1.1, by omega⟩, ih.2.1, fun m h1 h2 => ?_⟩
      by_cases e : m = ((k + 1 : Nat) : Int)
      · rw [e]; exact h
      · exact ih.2.2 m h1 (by omega)
theorem rat_iff (hOk : Ok size start ds) {r : Int} (hr : r ≤ 20) : Lasts size start (rationed r ds) ↔ r ≤ ratDown size start ds 20 := by
  have h := rat_spec (size := size) (start := start) ⟨hOk.1, hOk.2.2.1⟩ hOk.dok 20
  constructor
  · intro x
    exact Int.not_lt.1 fun hlt => h.2.2 r hlt hr x
  · intro x
    exact rationed_less x h.2.1
/-! ### sizes and starts -/
theorem upTo_spec {q : Nat → Bool} : ∀ (f k : Nat), (upTo q k f = none ∧ ∀ i, k ≤ i → i < k + f → q i = false) ∨ ∃ n, upTo q k f = some n ∧ k ≤ n ∧ n < k + f ∧ q n = true ∧ ∀ i, k ≤ i → i < n → q i = false
  | 0, k => .inl ⟨rfl, fun i h1 h2 => absurd h2 (by omega)⟩
  | f + 1, k => by
    unfold upTo
    by_cases h : q k = true
    · rw [if_pos h]
      exact .inr ⟨k, rfl, Nat.le_refl _, by omega, h, fun i h1 h2 => absurd h2 (by omega)⟩
    · rw [if_neg h]
      have hk : q k = false := by simpa using h
      rcases upTo_spec f (k + 1) with ⟨e, x⟩ | ⟨n, e, h1, h2, h3, h4⟩
      · refine .inl ⟨e, fun i a b => ?_⟩
        by_cases c : i = k
        · rw [c]; exact hk
        · exact x i (by omega) (by omega)
      · refine .inr ⟨n, e, by omega, by omega, h3, fun i a b => ?_⟩
        by_cases c : i = k
        · rw [c]; exact hk
        · exact h4 i (by omega) b
theorem size_iff (hOk : Ok size start ds) : ((sizeR size start ds).2 = 0 ∨ (sizeR size start ds).2 = 3) ∧ (0 ≤ (sizeR size start ds).1 ∧ (sizeR size start ds).1 ≤ 60) ∧
    ∀ z : Int, 0 ≤ z → z ≤ 60 → (Lasts z (min start z) ds ↔ (sizeR size start ds).2 = 0 ∧ (sizeR size start ds).1 ≤ z) := by
  have hm : ∀ z z' : Int, z ≤ z' → Lasts z start ds → Lasts z' start ds := fun z z' h x => lasts_mono h (by omega) rfl (fun _ _ => Int.le_refl _) (fun _ _ => Int.le_refl _) x
  have he : ∀ z : Int, Lasts z (min start z) ds ↔ Lasts z start ds := fun z => by unfold Lasts; rw [show min (min start z) z = min start z from by omega]
  unfold sizeR
  rw [if_pos hOk]
  rcases upTo_spec (q := fun k => decide (Lasts (k : Nat) start ds)) 61 0 with ⟨e, x⟩ | ⟨n, e, _, h2, h3, h4⟩ <;> rw [e]
  · refine ⟨.inr rfl, ⟨Int.le_refl _, by decide⟩, fun z h0 h1 => ?_⟩
    rw [he]
    refine ⟨fun y => ?_, fun y => absurd y.1 (by decide)⟩
    have := x z.toNat (by omega) (by omega)
    rw [show ((z.toNat : Nat) : Int) = z from by omega] at this
    exact absurd y (of_decide_eq_false this)
  · refine ⟨.inl rfl, ⟨by show (0 : Int) ≤ (n : Nat); omega, by show ((n : Nat) : Int) ≤ 60; omega⟩, fun z h0 h1 => ?_⟩
    rw [he]
    refine ⟨fun y => ⟨rfl, Int.not_lt.1 fun hlt => ?_⟩, fun y => hm _ _ y.2 (of_decide_eq_true h3)⟩
    have hlt : z < ((n : Nat) : Int) := hlt
    have := h4 z.toNat (by omega) (by omega)
    rw [show ((z.toNat : Nat) : Int) = z from by omega] at this
    exact absurd y (of_decide_eq_false this)
theorem start_iff (hOk : Ok size start ds) : ((startR size start ds).2 = 0 ∨ (startR size start ds).2 = 3) ∧ (0 ≤ (startR size start ds).1 ∧ (startR size start ds).1 ≤ size) ∧
    ∀ z : Int, 0 ≤ z → z ≤ size → (Lasts size z ds ↔ (startR size start ds).2 = 0 ∧ (startR size start ds).1 ≤ z) := by
  have hm : ∀ z z' : Int, z ≤ z' → Lasts size z ds → Lasts size z' ds := fun z z' h x => lasts_mono (Int.le_refl _) (by omega) rfl (fun _ _ => Int.le_refl _) (fun _ _ => Int.le_refl _) x
  have h0 := hOk.1
  unfold startR
  rw [if_pos hOk]
  rcases upTo_spec (q := fun k => decide (Lasts size (k : Nat) ds)) (size.toNat + 1) 0 with ⟨e, x⟩ | ⟨n, e, _, h2, h3, h4⟩ <;> rw [e]
  · refine ⟨.inr rfl, ⟨Int.le_refl _, h0⟩, fun z h0 h1 => ?_⟩
    refine ⟨fun y => ?_, fun y => absurd y.1 (by decide)⟩
    have := x z.toNat (by omega) (by omega)
    rw [show ((z.toNat : Nat) : Int) = z from by omega] at this
    exact absurd y (of_decide_eq_false this)
  · refine ⟨.inl rfl, ⟨by show (0 : Int) ≤ (n : Nat); omega, by show ((n : Nat) : Int) ≤ size; omega⟩, fun z h0 h1 => ?_⟩
    refine ⟨fun y => ⟨rfl, Int.not_lt.1 fun hlt => ?_⟩, fun y => hm _ _ y.2 (of_decide_eq_true h3)⟩
    have hlt : z < ((n : Nat) : Int) := hlt
    have := h4 z.toNat (by omega) (by omega)
    rw [show ((z.toNat : Nat) : Int) = z from by omega] at this
    exact absurd y (of_decide_eq_false this)
end
end Go.X.Cist
namespace Go.X.Cist
open Go.X Go.Proofs.Ytbmkacnlhlbnjaa

section
variable {size start size' : Int} {ds : List Day} {day x : Int}
/-! ### a greater cistern -/
theorem dry_mono {start' : Int} {ds' : List Day} (hOk : Ok size start ds) (hOk' : Ok size' start' ds') (hl : ds'.length = ds.length) (hm : ∀ i, i < ds.length → lack size' (min start' size') (wantOf ds') (loOf ds') i ≤ lack size (min start size) (wantOf ds) (loOf ds) i) :
    dayOr (dryR size start ds) ≤ dayOr (dryR size' start' ds') := by
  have hn := hOk.2.2.2.2.1
  unfold dayOr
  rcases dry_spec hOk with ⟨e, h⟩ | ⟨k, hk, e, h1, h2⟩ <;> rcases dry_spec hOk' with ⟨e', h'⟩ | ⟨k', hk', e', h1', h2'⟩ <;> rw [e, e']
  · simp
  · exact absurd h1' (by have := h k' (by omega); have := hm k' (by omega); omega)
  · simp; omega
  · simp
    refine Nat.not_lt.1 fun hlt => ?_
    have := h2 k' (by omega)
    have := hm k' (by omega)
    omega
theorem must_mono {start' : Int} {ds' : List Day} (hOk : Ok size start ds) (hOk' : Ok size' start' ds') (hl : ds'.length = ds.length) (hm : ∀ i, i < ds.length → lack size' (min start' size') (wantOf ds') (hiOf ds') i ≤ lack size (min start size) (wantOf ds) (hiOf ds) i) :
    dayOr (mustR size start ds) ≤ dayOr (mustR size' start' ds') := by
  have hn := hOk.2.2.2.2.1
  unfold dayOr
  rcases must_spec hOk with ⟨e, h⟩ | ⟨k, hk, e, h1, h2⟩ <;> rcases must_spec hOk' with ⟨e', h'⟩ | ⟨k', hk', e', h1', h2'⟩ <;> rw [e, e']
  · simp
  · exact absurd h1' (by have := h k' (by omega); have := hm k' (by omega); omega)
  · simp; omega
  · simp
    refine Nat.not_lt.1 fun hlt => ?_
    have := h2 k' (by omega)
    have := hm k' (by omega)
    omega
end
end Go.X.Cist
namespace Go.Proofs.Ytbmkacnlhlbnjaa
open Go.X Go.X.Cist Go.Conc
set_option maxRecDepth 10000

end Go.Proofs.Ytbmkacnlhlbnjaa
namespace Go.Proofs.Ytbmkacnlhlbnjaa
open Go.X Go.X.Cist Go.Conc
set_option maxRecDepth 10000

theorem c76 (md : Md) (h : Heap) (p : PHeap) (hp : Per p h) (size start : Int) (a : Option Addr) (n c : Nat) (ds : List Day) (D : Days p a n ds) (hn : n ≤ 40) (m e : Int) : CallsX Try.prog md 76 #[.agg #[.int .i64 (size), .int .i64 (start), .slice a n c], .int .i64 (m), .int .i64 (e)] h fun v h' => v = .tuple #[.int .i64 (if e = 3 then 8 else m), .bool (decide (e = 3 ∨ (e = 0 ∧ IsDay ds m)))] ∧ Keep h h' := by
  refine calls_intro (Φ := fun h_ => St h [] p h_ []) Try.func76 rfl (tm := [_, _, _, _, _, _, _, _, _, _, _, _, _, _, _, _, _, _]) rfl ?_ (St.start h _ hp)
  intro c₀ cs Stop K
  have hl := D.len
  refine fl_seq ?_
  refine rl_start ?_
  refine rl_box (met_none rfl) (v := .agg #[.int .i64 (size), .int .i64 (start), .slice a n c]) rfl fun b1 => rl_own (L' := [(b1, .cells #[.int .i64 (size), .int .i64 (start), .slice a n c] 24 (0, 0))]) rfl ?_
  refine rl_det (met_none rfl) (fun h_ H_ => exd_assign (v := .int .i64 0) rfl) rfl ?_
  refine rl_det (met_none rfl) (fun h_ H_ => exd_assign (v := .bool (false)) rfl) (tm' := _::_::_::_::_::_::_::_::_) rfl ?_
  refine rl_end ?_
  refine fl_seq ?_
  refine fl_seq ?_
  refine rl_start ?_
  refine rl_det (met_none rfl) (fun h_ H_ => exd_move (v := .int .i64 (e)) rfl) rfl ?_
  refine rl_det (met_none rfl) (fun h_ H_ => exd_eql rfl rfl) rfl ?_
  refine rl_end ?_
  by_cases cc2 : e = 3
  · refine fl_then rfl (decide_eq_true cc2) ?_
    refine fl_seq ?_
    refine rl_start ?_
    refine rl_det (met_none rfl) (fun h_ H_ => exd_assign (v := .int .i64 8) rfl) (tm' := _::_::_::_::_::_::_::_) rfl ?_
    refine rl_det (met_none rfl) (fun h_ H_ => exd_assign (v := .bool (true)) rfl) rfl ?_
    refine rl_end ?_
    refine fl_ret Try.func76 rfl (vs := [.int .i64 8, .bool (true)]) (fun h_ H_ => ⟨.int .i64 8, _, rfl, rfl, ⟨.bool (true), _, rfl, rfl, rfl⟩⟩) (v := .tuple #[.int .i64 8, .bool (true)]) rfl ?_
    exact fun h_ H_ => K _ _ ⟨by first | (subst e; simp) | simp [*], H_.kept⟩
  · refine fl_else rfl (decide_eq_false cc2) ?_
    refine fl_skip ?_
    refine fl_seq ?_
    refine rl_start ?_
    refine rl_det (met_none rfl) (fun h_ H_ => exd_move (v := .int .i64 (m)) rfl) rfl ?_
    refine rl_det (met_none rfl) (fun h_ H_ => exd_move (v := .int .i64 (e)) rfl) (tm' := _::_::_::_::_::_::_::_::_::_::_::_::_) rfl ?_
    refine rl_det (met_none rfl) (fun h_ H_ => exd_eql rfl rfl) rfl ?_
    refine rl_det (met_none rfl) (fun h_ H_ => exd_move (v := .bool (decide (e = 0))) rfl) rfl ?_
    by_cases cc3 : e = 0
    · refine rl_det (met_some rfl rfl (decide_eq_true cc3)) (fun h_ H_ => exd_loadN_own H_ tA24 tS24 rfl (i := 0) rfl (vs := [.int .i64 (size), .int .i64 (start), .slice a n c]) rfl rfl) (tm' := [_,_,_,_,_,_,_,_,_,_,_,_,_,_,_,_,_,_]) rfl ?_
      refine rl_det (met_some rfl rfl (decide_eq_true cc3)) (fun h_ H_ => exd_move (v := .int .i64 (m)) rfl) rfl ?_
      refine rl_calld (met_some rfl rfl (decide_eq_true cc3)) (first := []) (cap := []) rfl rfl fC26 (fun h_ H_ => c26 md _ _ (fun b_ o_ e_ => H_.per b_ o_ e_) (size) (start) _ _ _ _ D (by omega) m) rfl ?_
      refine rl_det (met_none rfl) (fun h_ H_ => exd_pick_t rfl (decide_eq_true cc3) (v := .bool (decide (IsDay ds m))) rfl) (tm' := [_,_,_,_,_,_,_,_,_,_,_,_,_,_,_,_,_,_]) rfl ?_
      refine rl_det (met_none rfl) (fun h_ H_ => exd_assign (v := .int .i64 (m)) rfl) rfl ?_
      refine rl_det (met_none rfl) (fun h_ H_ => exd_assign (v := .bool (decide (IsDay ds m))) rfl) rfl ?_
      refine rl_end ?_
      refine fl_ret Try.func76 rfl (vs := [.int .i64 (m), .bool (decide (IsDay ds m))]) (fun h_ H_ => ⟨.int .i64 (m), _, rfl, rfl, ⟨.bool (decide (IsDay ds m)), _, rfl, rfl, rfl⟩⟩) (v := .tuple #[.int .i64 (m), .bool (decide (IsDay ds m))]) rfl ?_
      exact fun h_ H_ => K _ _ ⟨by first | (subst e; simp) | simp [*], H_.kept⟩
    · refine rl_pass (met_not rfl rfl (decide_eq_false cc3)) (tm' := [_,_,_,_,_,_,_,_,_,_,_,_,_,_,_,_,_,_]) rfl ?_
      refine rl_pass (met_not rfl rfl (decide_eq_false cc3)) rfl ?_
      refine rl_pass (met_not rfl rfl (decide_eq_false cc3)) rfl ?_
      refine rl_det (met_none rfl) (fun h_ H_ => exd_pick_f rfl (decide_eq_false cc3) (v := .bool (false)) rfl) (tm' := [_,_,_,_,_,_,_,_,_,_,_,_,_,_,_,_,_,_]) rfl ?_
      refine rl_det (met_none rfl) (fun h_ H_ => exd_assign (v := .int .i64 (m)) rfl) rfl ?_
      refine rl_det (met_none rfl) (fun h_ H_ => exd_assign (v := .bool (false)) rfl) rfl ?_
      refine rl_end ?_
      refine fl_ret Try.func76 rfl (vs := [.int .i64 (m), .bool (false)]) (fun h_ H_ => ⟨.int .i64 (m), _, rfl, rfl, ⟨.bool (false), _, rfl, rfl, rfl⟩⟩) (v := .tuple #[.int .i64 (m), .bool (false)]) rfl ?_
      exact fun h_ H_ => K _ _ ⟨by first | (subst e; simp) | simp [*], H_.kept⟩
theorem c38 (h : Heap) (p : PHeap) (hp : Per p h) (size start : Int) (a : Option Addr) (n c : Nat) (ds : List Day) (D : Days p a n ds) (hn : n ≤ 40) (hOk : Ok size start ds) : CallsX Try.prog (.main true) 38 #[.agg #[.int .i64 (size), .int .i64 (start), .slice a n c]] h fun v h' => v = .tuple #[.int .i64 (dayOr (dryR size start ds)), .int .i64 (dayOr (mustR size start ds)), .bool true] ∧ Keep h h' := by
  refine calls_intro (Φ := fun h_ => St h [] p h_ []) Try.func38 rfl (tm := [_, _, _, _, _, _, _, _, _, _, _, _, _, _, _, _, _, _, _, _, _, _, _, _, _, _, _, _, _, _, _, _, _, _, _, _, _, _, _, _, _, _, _, _, _]) rfl ?_ (St.start h _ hp)
  intro c₀ cs Stop K
  have hl := D.len
  have hd1 : (dryR size start ds).2 = 3 ∨ ((dryR size start ds).2 = 0 ∧ IsDay ds (dryR size start ds).1) := day_or hOk
  have hm1 : (mustR size start ds).2 = 3 ∨ ((mustR size start ds).2 = 0 ∧ IsDay ds (mustR size start ds).1) := must_or hOk
  refine fl_seq ?_
  refine rl_start ?_
  refine rl_box (met_none rfl) (v := .agg #[.int .i64 (size), .int .i64 (start), .slice a n c]) rfl fun b1 => rl_own (L' := [(b1, .cells #[.int .i64 (size), .int .i64 (start), .slice a n c] 24 (0, 0))]) rfl ?_
  refine rl_norm (tm' := _::_::_) rfl ?_
  refine rl_det (met_none rfl) (fun h_ H_ => exd_assign (v := .int .i64 0) rfl) rfl ?_
  refine rl_det (met_none rfl) (fun h_ H_ => exd_assign (v := .int .i64 0) rfl) rfl ?_
  refine rl_det (met_none rfl) (fun h_ H_ => exd_assign (v := .bool (false)) rfl) (tm' := _::_::_::_::_::_) rfl ?_
  refine rl_end ?_
  refine fl_seq ?_
  refine rl_start ?_
  refine rl_det (met_none rfl) (fun h_ H_ => exd_loadN_own H_ tA24 tS24 rfl (i := 0) rfl (vs := [.int .i64 (size), .int .i64 (start), .slice a n c]) rfl rfl) rfl ?_
  refine rl_calld (met_none rfl) (first := []) (cap := []) rfl rfl fC55 (fun h_ H_ => c55 _ _ (fun b_ o_ e_ => H_.per b_ o_ e_) (size) (start) _ _ _ _ D (by omega)) rfl ?_
  refine rl_det (met_none rfl) (fun h_ H_ => exd_move (v := .tuple #[.int .i64 ((dryR size start ds).1), .int .i64 ((dryR size start ds).2)]) rfl) (tm' := _::_::_::_::_::_::_::_::_::_::_::_) rfl ?_
  refine rl_det (met_none rfl) (fun h_ H_ => exd_extract rfl (v := .int .i64 ((dryR size start ds).1)) rfl) rfl ?_
  refine rl_det (met_none rfl) (fun h_ H_ => exd_extract rfl (v := .int .i64 ((dryR size start ds).2)) rfl) rfl ?_
  refine rl_det (met_none rfl) (fun h_ H_ => exd_assign (v := .int .i64 ((dryR size start ds).1)) rfl) (tm' := _::_::_::_::_::_::_) rfl ?_
  refine rl_det (met_none rfl) (fun h_ H_ => exd_assign (v := .int .i64 ((dryR size start ds).2)) rfl) rfl ?_
  refine rl_end ?_
  refine fl_seq ?_
  refine rl_start ?_
  refine rl_det (met_none rfl) (fun h_ H_ => exd_loadN_own H_ tA24 tS24 rfl (i := 0) rfl (vs := [.int .i64 (size), .int .i64 (start), .slice a n c]) rfl rfl) rfl ?_
  refine rl_calld (met_none rfl) (first := []) (cap := []) rfl rfl fC57 (fun h_ H_ => c57 _ _ (fun b_ o_ e_ => H_.per b_ o_ e_) (size) (start) _ _ _ _ D (by omega)) (tm' := _::_::_::_::_::_::_::_::_::_::_::_::_::_::_::_::_::_::_) rfl ?_
  refine rl_det (met_none rfl) (fun h_ H_ => exd_move (v := .tuple #[.int .i64 ((mustR size start ds).1), .int .i64 ((mustR size start ds).2)]) rfl) rfl ?_
  refine rl_det (met_none rfl) (fun h_ H_ => exd_extract rfl (v := .int .i64 ((mustR size start ds).1)) rfl) rfl ?_
  refine rl_det (met_none rfl) (fun h_ H_ => exd_extract rfl (v := .int .i64 ((mustR size start ds).2)) rfl) (tm' := _::_::_::_::_::_::_::_::_::_::_::_::_::_::_::_::_::_::_::_::_) rfl ?_
  refine rl_det (met_none rfl) (fun h_ H_ => exd_assign (v := .int .i64 ((mustR size start ds).1)) rfl) rfl ?_
  refine rl_det (met_none rfl) (fun h_ H_ => exd_assign (v := .int .i64 ((mustR size start ds).2)) rfl) rfl ?_
  refine rl_end ?_
  refine fl_seq ?_
  refine rl_start ?_
  refine rl_det (met_none rfl) (fun h_ H_ => exd_loadN_own H_ tA24 tS24 rfl (i := 0) rfl (vs := [.int .i64 (size), .int .i64 (start), .slice a n c]) rfl rfl) (tm' := _::_::_::_::_::_::_::_::_::_::_::_::_::_::_::_::_::_::_::_::_::_::_) rfl ?_
  refine rl_det (met_none rfl) (fun h_ H_ => exd_move (v := .int .i64 ((dryR size start ds).1)) rfl) rfl ?_
  refine rl_det (met_none rfl) (fun h_ H_ => exd_move (v := .int .i64 ((dryR size start ds).2)) rfl) rfl ?_
  refine rl_calld (met_none rfl) (first := []) (cap := []) rfl rfl fC76 (fun h_ H_ => c76 (.main true) _ _ (fun b_ o_ e_ => H_.per b_ o_ e_) (size) (start) _ _ _ _ D (by omega) ((dryR size start ds).1) ((dryR size start ds).2)) (tm' := _::_::_::_::_::_::_::_::_::_::_::_::_::_::_::_::_::_::_::_::_::_::_::_::_::_) rfl ?_
  refine rl_det (met_none rfl) (fun h_ H_ => exd_move (v := .tuple #[.int .i64 ((if (dryR size start ds).2 = 3 then 8 else (dryR size start ds).1)), .bool (decide ((dryR size start ds).2 = 3 ∨ ((dryR size start ds).2 = 0 ∧ IsDay ds ((dryR size start ds).1))))]) rfl) rfl ?_
  refine rl_det (met_none rfl) (fun h_ H_ => exd_extract rfl (v := .int .i64 ((if (dryR size start ds).2 = 3 then 8 else (dryR size start ds).1))) rfl) rfl ?_
  refine rl_det (met_none rfl) (fun h_ H_ => exd_extract rfl (v := .bool (decide ((dryR size start ds).2 = 3 ∨ ((dryR size start ds).2 = 0 ∧ IsDay ds ((dryR size start ds).1))))) rfl) (tm' := _::_::_::_::_::_::_::_::_::_::_::_::_::_::_::_::_::_::_::_::_::_::_::_::_::_::_::_) rfl ?_
  refine rl_det (met_none rfl) (fun h_ H_ => exd_assign (v := .int .i64 ((if (dryR size start ds).2 = 3 then 8 else (dryR size start ds).1))) rfl) rfl ?_
  refine rl_det (met_none rfl) (fun h_ H_ => exd_assign (v := .bool (decide ((dryR size start ds).2 = 3 ∨ ((dryR size start ds).2 = 0 ∧ IsDay ds ((dryR size start ds).1))))) rfl) rfl ?_
  refine rl_end ?_
  refine fl_seq ?_
  refine rl_start ?_
  refine rl_det (met_none rfl) (fun h_ H_ => exd_loadN_own H_ tA24 tS24 rfl (i := 0) rfl (vs := [.int .i64 (size), .int .i64 (start), .slice a n c]) rfl rfl) (tm' := _::_::_::_::_::_::_::_::_::_::_::_::_::_::_::_::_::_::_::_::_::_::_::_::_::_::_::_::_::_) rfl ?_
  refine rl_det (met_none rfl) (fun h_ H_ => exd_move (v := .int .i64 ((mustR size start ds).1)) rfl) rfl ?_
  refine rl_det (met_none rfl) (fun h_ H_ => exd_move (v := .int .i64 ((mustR size start ds).2)) rfl) rfl ?_
  refine rl_calld (met_none rfl) (first := []) (cap := []) rfl rfl fC76 (fun h_ H_ => c76 (.main true) _ _ (fun b_ o_ e_ => H_.per b_ o_ e_) (size) (start) _ _ _ _ D (by omega) ((mustR size start ds).1) ((mustR size start ds).2)) (tm' := [_,_,_,_,_,_,_,_,_,_,_,_,_,_,_,_,_,_,_,_,_,_,_,_,_,_,_,_,_,_,_,_,_,_,_,_,_,_,_,_,_,_,_,_,_]) rfl ?_
  refine rl_det (met_none rfl) (fun h_ H_ => exd_move (v := .tuple #[.int .i64 ((if (mustR size start ds).2 = 3 then 8 else (mustR size start ds).1)), .bool (decide ((mustR size start ds).2 = 3 ∨ ((mustR size start ds).2 = 0 ∧ IsDay ds ((mustR size start ds).1))))]) rfl) rfl ?_
  refine rl_det (met_none rfl) (fun h_ H_ => exd_extract rfl (v := .int .i64 ((if (mustR size start ds).2 = 3 then 8 else (mustR size start ds).1))) rfl) rfl ?_
  refine rl_det (met_none rfl) (fun h_ H_ => exd_extract rfl (v := .bool (decide ((mustR size start ds).2 = 3 ∨ ((mustR size start ds).2 = 0 ∧ IsDay ds ((mustR size start ds).1))))) rfl) (tm' := [_,_,_,_,_,_,_,_,_,_,_,_,_,_,_,_,_,_,_,_,_,_,_,_,_,_,_,_,_,_,_,_,_,_,_,_,_,_,_,_,_,_,_,_,_]) rfl ?_
  refine rl_det (met_none rfl) (fun h_ H_ => exd_assign (v := .int .i64 ((if (mustR size start ds).2 = 3 then 8 else (mustR size start ds).1))) rfl) rfl ?_
  refine rl_det (met_none rfl) (fun h_ H_ => exd_assign (v := .bool (decide ((mustR size start ds).2 = 3 ∨ ((mustR size start ds).2 = 0 ∧ IsDay ds ((mustR size start ds).1))))) rfl) rfl ?_
  refine rl_end ?_
  refine fl_seq ?_
  refine rl_start ?_
  refine rl_det (met_none rfl) (fun h_ H_ => exd_move (v := .int .i64 ((if (dryR size start ds).2 = 3 then 8 else (dryR size start ds).1))) rfl) (tm' := [_,_,_,_,_,_,_,_,_,_,_,_,_,_,_,_,_,_,_,_,_,_,_,_,_,_,_,_,_,_,_,_,_,_,_,_,_,_,_,_,_,_,_,_,_]) rfl ?_
  refine rl_det (met_none rfl) (fun h_ H_ => exd_move (v := .int .i64 ((if (mustR size start ds).2 = 3 then 8 else (mustR size start ds).1))) rfl) rfl ?_
  refine rl_det (met_none rfl) (fun h_ H_ => exd_move (v := .bool (decide ((dryR size start ds).2 = 3 ∨ ((dryR size start ds).2 = 0 ∧ IsDay ds ((dryR size start ds).1))))) rfl) rfl ?_
  refine rl_det (met_none rfl) (fun h_ H_ => exd_move (v := .bool (decide ((dryR size start ds).2 = 3 ∨ ((dryR size start ds).2 = 0 ∧ IsDay ds ((dryR size start ds).1))))) rfl) (tm' := [_,_,_,_,_,_,_,_,_,_,_,_,_,_,_,_,_,_,_,_,_,_,_,_,_,_,_,_,_,_,_,_,_,_,_,_,_,_,_,_,_,_,_,_,_]) rfl ?_
  refine rl_det (met_some rfl rfl (decide_eq_true hd1)) (fun h_ H_ => exd_move (v := .bool (decide ((mustR size start ds).2 = 3 ∨ ((mustR size start ds).2 = 0 ∧ IsDay ds ((mustR size start ds).1))))) rfl) rfl ?_
  refine rl_det (met_none rfl) (fun h_ H_ => exd_pick_t rfl (decide_eq_true hd1) (v := .bool (decide ((mustR size start ds).2 = 3 ∨ ((mustR size start ds).2 = 0 ∧ IsDay ds ((mustR size start ds).1))))) rfl) rfl ?_
  refine rl_det (met_none rfl) (fun h_ H_ => exd_move (v := .bool (decide ((mustR size start ds).2 = 3 ∨ ((mustR size start ds).2 = 0 ∧ IsDay ds ((mustR size start ds).1))))) rfl) (tm' := [_,_,_,_,_,_,_,_,_,_,_,_,_,_,_,_,_,_,_,_,_,_,_,_,_,_,_,_,_,_,_,_,_,_,_,_,_,_,_,_,_,_,_,_,_]) rfl ?_
  refine rl_det (met_some rfl rfl (decide_eq_true hm1)) (fun h_ H_ => exd_move (v := .int .i64 ((if (dryR size start ds).2 = 3 then 8 else (dryR size start ds).1))) rfl) rfl ?_
  refine rl_det (met_some rfl rfl (decide_eq_true hm1)) (fun h_ H_ => exd_move (v := .int .i64 ((if (mustR size start ds).2 = 3 then 8 else (mustR size start ds).1))) rfl) rfl ?_
  refine rl_det (met_some rfl rfl (decide_eq_true hm1)) (fun h_ H_ => exd_leq rfl rfl) (tm' := [_,_,_,_,_,_,_,_,_,_,_,_,_,_,_,_,_,_,_,_,_,_,_,_,_,_,_,_,_,_,_,_,_,_,_,_,_,_,_,_,_,_,_,_,_]) rfl ?_
  refine rl_det (met_none rfl) (fun h_ H_ => exd_pick_t rfl (decide_eq_true hm1) (v := .bool (decide ((if (dryR size start ds).2 = 3 then 8 else (dryR size start ds).1) ≤ (if (mustR size start ds).2 = 3 then 8 else (mustR size start ds).1)))) rfl) rfl ?_
  refine rl_det (met_none rfl) (fun h_ H_ => exd_assign (v := .int .i64 ((if (dryR size start ds).2 = 3 then 8 else (dryR size start ds).1))) rfl) rfl ?_
  refine rl_det (met_none rfl) (fun h_ H_ => exd_assign (v := .int .i64 ((if (mustR size start ds).2 = 3 then 8 else (mustR size start ds).1))) rfl) (tm' := _::_::_::_::_) rfl ?_
  refine rl_det (met_none rfl) (fun h_ H_ => exd_assign (v := .bool (decide ((if (dryR size start ds).2 = 3 then 8 else (dryR size start ds).1) ≤ (if (mustR size start ds).2 = 3 then 8 else (mustR size start ds).1)))) rfl) rfl ?_
  refine rl_end ?_
  refine fl_ret Try.func38 rfl (vs := [.int .i64 ((if (dryR size start ds).2 = 3 then 8 else (dryR size start ds).1)), .int .i64 ((if (mustR size start ds).2 = 3 then 8 else (mustR size start ds).1)), .bool (decide ((if (dryR size start ds).2 = 3 then 8 else (dryR size start ds).1) ≤ (if (mustR size start ds).2 = 3 then 8 else (mustR size start ds).1)))]) (fun h_ H_ => ⟨.int .i64 ((if (dryR size start ds).2 = 3 then 8 else (dryR size start ds).1)), _, rfl, rfl, ⟨.int .i64 ((if (mustR size start ds).2 = 3 then 8 else (mustR size start ds).1)), _, rfl, rfl, ⟨.bool (decide ((if (dryR size start ds).2 = 3 then 8 else (dryR size start ds).1) ≤ (if (mustR size start ds).2 = 3 then 8 else (mustR size start ds).1))), _, rfl, rfl, rfl⟩⟩⟩) (v := .tuple #[.int .i64 ((if (dryR size start ds).2 = 3 then 8 else (dryR size start ds).1)), .int .i64 ((if (mustR size start ds).2 = 3 then 8 else (mustR size start ds).1)), .bool (decide ((if (dryR size start ds).2 = 3 then 8 else (dryR size start ds).1) ≤ (if (mustR size start ds).2 = 3 then 8 else (mustR size start ds).1)))]) rfl ?_
  exact fun h_ H_ => K _ _ ⟨by have h_ := days_le hOk; unfold dayOr at h_ ⊢; rw [decide_eq_true h_], H_.kept⟩
end Go.Proofs.Ytbmkacnlhlbnjaa
namespace Go.Proofs.Ytbmkacnlhlbnjaa
open Go.X Go.X.Cist Go.Conc

theorem dry_at {size start : Int} {ds : List Day} {i : Nat} (h : i < ds.length) : (dryOf size start ds).getD i dz = sideDay size (min start size) (wantOf ds) (loOf ds) i := by unfold dryOf; rw [side_getD h]
theorem wet_at {size start : Int} {ds : List Day} {i : Nat} (h : i < ds.length) : (wetOf size start ds).getD i dz = sideDay size (min start size) (wantOf ds) (hiOf ds) i := by unfold wetOf; rw [side_getD h]
/-- Between what the level, the lack, the sum of what ran over of a day is. -/
def levLo (size start : Int) (ds : List Day) (k : Nat) : Int := lev size (min start size) (wantOf ds) (loOf ds) (k + 1)
def levHi (size start : Int) (ds : List Day) (k : Nat) : Int := lev size (min start size) (wantOf ds) (hiOf ds) (k + 1)
def lackLo (size start : Int) (ds : List Day) (k : Nat) : Int := lack size (min start size) (wantOf ds) (hiOf ds) k
def lackHi (size start : Int) (ds : List Day) (k : Nat) : Int := lack size (min start size) (wantOf ds) (loOf ds) k
def overLo (size start : Int) (ds : List Day) (k : Nat) : Int := sumTo (ovr size (min start size) (wantOf ds) (loOf ds)) (k + 1)
def overHi (size start : Int) (ds : List Day) (k : Nat) : Int := sumTo (ovr size (min start size) (wantOf ds) (hiOf ds)) (k + 1)

section
variable {h : Heap} {p : PHeap} {size start : Int} {a : Option Addr} {n c : Nat} {ds : List Day}
theorem level_ok (hOk : Ok size start ds) {day : Int} (hday : IsDay ds day) : levelR size start ds day = ((levLo size start ds day.toNat, levHi size start ds day.toNat), 0) := by
  unfold levelR
  rw [if_pos (askd_ok hOk (decide_eq_true hday)), dry_at (by have := hday.1; have := hday.2; omega), wet_at (by have := hday.1; have := hday.2; omega)]; rfl
theorem lack_ok (hOk : Ok size start ds) {day : Int} (hday : IsDay ds day) : lackR size start ds day = ((lackLo size start ds day.toNat, lackHi size start ds day.toNat), 0) := by
  unfold lackR
  rw [if_pos (askd_ok hOk (decide_eq_true hday)), dry_at (by have := hday.1; have := hday.2; omega), wet_at (by have := hday.1; have := hday.2; omega)]; rfl
theorem over_ok (hOk : Ok size start ds) {day : Int} (hday : IsDay ds day) : overR size start ds day = ((overLo size start ds day.toNat, overHi size start ds day.toNat), 0) := by
  unfold overR
  rw [if_pos (askd_ok hOk (decide_eq_true hday)), dry_at (by have := hday.1; have := hday.2; omega), wet_at (by have := hday.1; have := hday.2; omega)]; rfl
theorem c28ok (hp : Per p h) (D : Days p a n ds) (hn : n ≤ 40) (hOk : Ok size start ds) {day : Int} (hday : IsDay ds day) : CallsX Try.prog (.main true) 28 #[.agg #[.int .i64 size, .int .i64 start, .slice a n c], .int .i64 day] h fun v h' => v = .tuple #[.agg #[.int .i64 (levLo size start ds day.toNat), .int .i64 (levHi size start ds day.toNat)], .int .i64 0] ∧ Keep h h' :=
  (c28 h p hp size start a n c ds D hn day).mono fun v h' x => ⟨by rw [x.1, level_ok hOk hday], x.2⟩
theorem c41ok (hp : Per p h) (D : Days p a n ds) (hn : n ≤ 40) (hOk : Ok size start ds) {day : Int} (hday : IsDay ds day) : CallsX Try.prog (.main true) 41 #[.agg #[.int .i64 size, .int .i64 start, .slice a n c], .int .i64 day] h fun v h' => v = .tuple #[.agg #[.int .i64 (lackLo size start ds day.toNat), .int .i64 (lackHi size start ds day.toNat)], .int .i64 0] ∧ Keep h h' :=
  (c41 h p hp size start a n c ds D hn day).mono fun v h' x => ⟨by rw [x.1, lack_ok hOk hday], x.2⟩
theorem c43ok (hp : Per p h) (D : Days p a n ds) (hn : n ≤ 40) (hOk : Ok size start ds) {day : Int} (hday : IsDay ds day) : CallsX Try.prog (.main true) 43 #[.agg #[.int .i64 size, .int .i64 start, .slice a n c], .int .i64 day] h fun v h' => v = .tuple #[.agg #[.int .i64 (overLo size start ds day.toNat), .int .i64 (overHi size start ds day.toNat)], .int .i64 0] ∧ Keep h h' :=
  (c43 h p hp size start a n c ds D hn day).mono fun v h' x => ⟨by rw [x.1, over_ok hOk hday], x.2⟩
theorem c23ok (hp : Per p h) (D : Days p a n ds) (hn : n ≤ 40) (hOk : Ok size start ds) (md : Md) : CallsX Try.prog md 23 #[.agg #[.int .i64 size, .int .i64 start, .slice a n c]] h fun v h' => v = .tuple #[.int .i64 (ratDown size start ds 20), .int .i64 0] ∧ Keep h h' :=
  (c23 md h p hp size start a n c ds D hn).mono fun v h' x => ⟨by rw [x.1, if_pos hOk, chk_yes hOk], x.2⟩
end
end Go.Proofs.Ytbmkacnlhlbnjaa
namespace Go.X.Cist
open Go.X Go.Proofs.Ytbmkacnlhlbnjaa

section
variable {size start : Int} {ds ds' : List Day} {xs : List Int} {n : Nat}

theorem start_min (hOk : Ok size start ds) : min start size = start := by have := hOk.2.2.2.1; omega
theorem sum_more {want r r' : Nat → Int} {m : Nat} (h : ∀ i, i < m → r i ≤ r' i) {k : Nat} (hk : k ≤ m) : sumTo (ovr size start want r) k ≤ sumTo (ovr size start want r') k :=
  sumTo_le fun i hi => more_ovr h i (by omega)

/-! ### each weather -/
/-! ### two parts -/
theorem lev_shift {want rain : Nat → Int} {c : Nat} : ∀ k, lev size start want rain (c + k) = lev size (lev size start want rain c) (fun i => want (c + i)) (fun i => rain (c + i)) k
  | 0 => rfl
  | k + 1 => by
    have h := lev_shift (want := want) (rain := rain) (c := c) k
    show lev size start want rain (c + k + 1) = _
    simp only [lev]
    rw [h]
theorem lack_congr {want want' rain rain' : Nat → Int} {k : Nat} (hw : ∀ i, i ≤ k → want i = want' i) (hr : ∀ i, i ≤ k → rain i = rain' i) : lack size start want rain k = lack size start want' rain' k := by
  have h := lev_congr (size := size) (start := start) k (fun i hi => hw i (by omega)) fun i hi => hr i (by omega)
  unfold lack ovr
  rw [h, hw k (Nat.le_refl _), hr k (Nat.le_refl _)]
theorem ovr_congr {want want' rain rain' : Nat → Int} {k : Nat} (hw : ∀ i, i ≤ k → want i = want' i) (hr : ∀ i, i ≤ k → rain i = rain' i) : ovr size start want rain k = ovr size start want' rain' k := by
  have h := lev_congr (size := size) (start := start) k (fun i hi => hw i (by omega)) fun i hi => hr i (by omega)
  unfold ovr
  rw [h, hr k (Nat.le_refl _)]
theorem nums_parts {f g h : Nat → Int} {c : Nat} (hc : c ≤ n) (h1 : ∀ i, i < c → f i = g i) (h2 : ∀ i, i < n - c → f (c + i) = h i) : nums f n = nums g c ++ nums h (n - c) := by
  refine List.ext_getElem (by simp [nums_length]; omega) fun i a b => ?_
  rw [nums_length] at a
  by_cases e : i < c
  · rw [List.getElem_append_left (by rw [nums_length]; exact e)]
    simpa [nums] using h1 i e
  · rw [List.getElem_append_right (by rw [nums_length]; omega)]
    have := h2 (i - c) (by omega)
    rw [show c + (i - c) = i from by omega] at this
    simpa [nums] using this
theorem want_take {c i : Nat} (h : i < c) : wantOf (ds.take c) i = wantOf ds i := by unfold wantOf; rw [List.getD_eq_getElem?_getD, List.getElem?_take, if_pos h, ← List.getD_eq_getElem?_getD]
theorem want_drop {c : Nat} : wantOf (ds.drop c) = fun i => wantOf ds (c + i) := by funext i; unfold wantOf; rw [List.getD_eq_getElem?_getD, List.getElem?_drop, ← List.getD_eq_getElem?_getD]
theorem list_take {c i : Nat} (h : i < c) : listOf (xs.take c) i = listOf xs i := by unfold listOf; rw [List.getD_eq_getElem?_getD, List.getElem?_take, if_pos h, ← List.getD_eq_getElem?_getD]
theorem list_drop {c : Nat} : listOf (xs.drop c) = fun i => listOf xs (c + i) := by funext i; unfold listOf; rw [List.getD_eq_getElem?_getD, List.getElem?_drop, ← List.getD_eq_getElem?_getD]
/-- The level behind the first part. -/
def cutStart (size start : Int) (ds : List Day) (xs : List Int) (c : Nat) : Int := lev size start (wantOf ds) (listOf xs) c
theorem parts {c : Nat} (h : c ≤ n) :
    nums (levs size start (wantOf ds) (listOf xs)) n = nums (levs size start (wantOf (ds.take c)) (listOf (xs.take c))) c ++ nums (levs size (cutStart size start ds xs c) (wantOf (ds.drop c)) (listOf (xs.drop c))) (n - c) ∧
    nums (lack size start (wantOf ds) (listOf xs)) n = nums (lack size start (wantOf (ds.take c)) (listOf (xs.take c))) c ++ nums (lack size (cutStart size start ds xs c) (wantOf (ds.drop c)) (listOf (xs.drop c))) (n - c) ∧
    nums (ovr size start (wantOf ds) (listOf xs)) n = nums (ovr size start (wantOf (ds.take c)) (listOf (xs.take c))) c ++ nums (ovr size (cutStart size start ds xs c) (wantOf (ds.drop c)) (listOf (xs.drop c))) (n - c) := by
  have e : ∀ k, lev size start (wantOf ds) (listOf xs) (c + k) = lev size (cutStart size start ds xs c) (wantOf (ds.drop c)) (listOf (xs.drop c)) k := fun k => by rw [lev_shift, want_drop, list_drop]; rfl
  have w : ∀ i, wantOf ds (c + i) = wantOf (ds.drop c) i := fun i => by rw [want_drop]
  have r : ∀ i, listOf xs (c + i) = listOf (xs.drop c) i := fun i => by rw [list_drop]
  refine ⟨nums_parts h (fun i hi => ?_) fun i hi => ?_, nums_parts h (fun i hi => ?_) fun i hi => ?_, nums_parts h (fun i hi => ?_) fun i hi => ?_⟩
  · exact lev_congr _ (fun i hi => (want_take (by omega)).symm) fun i hi => (list_take (by omega)).symm
  · exact e (i + 1)
  · exact lack_congr (fun i hi => (want_take (by omega)).symm) fun i hi => (list_take (by omega)).symm
  · unfold lack ovr; rw [e, w, r]
  · exact ovr_congr (fun i hi => (want_take (by omega)).symm) fun i hi => (list_take (by omega)).symm
  · unfold ovr; rw [e, r]
/-! ### less doubt -/
def setRain (ds : List Day) (i : Nat) (lo hi : Int) : List Day := ds.set i ⟨lo, hi, (ds.getD i dz).want⟩
theorem setRain_length {i : Nat} {lo hi : Int} : (setRain ds i lo hi).length = ds.length := by simp [setRain]
theorem setRain_getD {i j : Nat} {lo hi : Int} (h : j < ds.length) : (setRain ds i lo hi).getD j dz = if j = i then ⟨lo, hi, (ds.getD i dz).want⟩ else ds.getD j dz := by
  unfold setRain
  rw [List.getD_eq_getElem?_getD, List.getElem?_set]
  by_cases e : i = j
  · subst e; simp [h]
  · rw [if_neg e, if_neg (fun x => e x.symm), ← List.getD_eq_getElem?_getD]
/-- A year of which only the rain is narrower. -/
structure Narrow (ds ds' : List Day) : Prop where
  len : ds'.length = ds.length
  want : ∀ i, i < ds.length → wantOf ds' i = wantOf ds i
  lo : ∀ i, i < ds.length → loOf ds i ≤ loOf ds' i
  hi : ∀ i, i < ds.length → hiOf ds' i ≤ hiOf ds i
theorem narrow_set {i : Nat} {lo hi : Int} (hi' : i < ds.length) (h1 : (ds.getD i dz).lo ≤ lo) (h2 : hi ≤ (ds.getD i dz).hi) : Narrow ds (setRain ds i lo hi) := by
  refine ⟨setRain_length, fun j hj => ?_, fun j hj => ?_, fun j hj => ?_⟩
  · unfold wantOf; rw [setRain_getD hj]; split <;> simp_all
  · unfold loOf; rw [setRain_getD hj]; split
    · rename_i e; subst e; exact h1
    · exact Int.le_refl _
  · unfold hiOf; rw [setRain_getD hj]; split
    · rename_i e; subst e; exact h2
    · exact Int.le_refl _
theorem narrow_ok {i : Nat} {lo hi : Int} (hOk : Ok size start ds) (hi' : i < ds.length) (h1 : (ds.getD i dz).lo ≤ lo) (h2 : hi ≤ (ds.getD i dz).hi) (h3 : lo ≤ hi) : Ok size start (setRain ds i lo hi) := by
  refine ⟨hOk.1, hOk.2.1, hOk.2.2.1, hOk.2.2.2.1, by rw [setRain_length]; exact hOk.2.2.2.2.1, fun j hj => ?_⟩
  rw [setRain_length] at hj
  rw [setRain_getD hj]
  have hd := hOk.2.2.2.2.2 i hi'
  unfold DayOk at hd
  split
  · unfold DayOk; simp only; omega
  · exact hOk.2.2.2.2.2 j hj
section
variable (hN : Narrow ds ds')
include hN
theorem narrow_lev {r r' : Nat → Int} (h : ∀ i, i < ds.length → r i ≤ r' i) (k : Nat) (hk : k ≤ ds.length) : lev size start (wantOf ds) r k ≤ lev size start (wantOf ds') r' k :=
  lev_le (n := ds.length) (Int.le_refl _) (Int.le_refl _) (fun i hi => Int.le_of_eq (hN.want i hi)) h k hk
theorem narrow_lev' {r r' : Nat → Int} (h : ∀ i, i < ds.length → r' i ≤ r i) (k : Nat) (hk : k ≤ ds.length) : lev size start (wantOf ds') r' k ≤ lev size start (wantOf ds) r k :=
  lev_le (n := ds.length) (Int.le_refl _) (Int.le_refl _) (fun i hi => Int.le_of_eq (hN.want i hi).symm) h k hk
theorem narrow_lack {r r' : Nat → Int} (h : ∀ i, i < ds.length → r i ≤ r' i) (k : Nat) (hk : k < ds.length) : lack size start (wantOf ds') r' k ≤ lack size start (wantOf ds) r k :=
  lack_ge (n := ds.length) (Int.le_refl _) (Int.le_refl _) (fun i hi => Int.le_of_eq (hN.want i hi)) h k hk
theorem narrow_lack' {r r' : Nat → Int} (h : ∀ i, i < ds.length → r' i ≤ r i) (k : Nat) (hk : k < ds.length) : lack size start (wantOf ds) r k ≤ lack size start (wantOf ds') r' k :=
  lack_ge (n := ds.length) (Int.le_refl _) (Int.le_refl _) (fun i hi => Int.le_of_eq (hN.want i hi).symm) h k hk
theorem narrow_ovr {r r' : Nat → Int} (h : ∀ i, i < ds.length → r i ≤ r' i) (k : Nat) (hk : k ≤ ds.length) : sumTo (ovr size start (wantOf ds) r) k ≤ sumTo (ovr size start (wantOf ds') r') k := sumTo_le fun i hi => by
  have h1 := narrow_lev (size := size) (start := start) hN h i (by omega)
  have h2 := h i (by omega)
  unfold ovr; omega
theorem narrow_ovr' {r r' : Nat → Int} (h : ∀ i, i < ds.length → r' i ≤ r i) (k : Nat) (hk : k ≤ ds.length) : sumTo (ovr size start (wantOf ds') r') k ≤ sumTo (ovr size start (wantOf ds) r) k := sumTo_le fun i hi => by
  have h1 := narrow_lev' (size := size) (start := start) hN h i (by omega)
  have h2 := h i (by omega)
  unfold ovr; omega
theorem narrow_day (hOk : Ok size start ds) (hOk' : Ok size start ds') {k : Nat} (hk : k < ds.length) :
    (levLo size start ds k ≤ levLo size start ds' k ∧ levLo size start ds' k ≤ levHi size start ds' k ∧ levHi size start ds' k ≤ levHi size start ds k) ∧
    (lackLo size start ds k ≤ lackLo size start ds' k ∧ lackLo size start ds' k ≤ lackHi size start ds' k ∧ lackHi size start ds' k ≤ lackHi size start ds k) ∧
    (overLo size start ds k ≤ overLo size start ds' k ∧ overLo size start ds' k ≤ overHi size start ds' k ∧ overHi size start ds' k ≤ overHi size start ds k) := by
  have hm := start_min hOk
  have hlh := lo_hi hOk'
  have hl := hN.len
  unfold levLo levHi lackLo lackHi overLo overHi
  rw [hm]
  refine ⟨⟨narrow_lev hN hN.lo _ hk, more_lev hlh _ (by omega), narrow_lev' hN hN.hi _ hk⟩, ⟨narrow_lack' hN hN.hi _ hk, more_lack hlh _ (by omega), narrow_lack hN hN.lo _ hk⟩, ⟨narrow_ovr hN hN.lo _ hk, sum_more hlh (by omega), narrow_ovr' hN hN.hi _ hk⟩⟩
theorem narrow_dry (hOk : Ok size start ds) (hOk' : Ok size start ds') : dayOr (dryR size start ds) ≤ dayOr (dryR size start ds') :=
  dry_mono hOk hOk' hN.len fun i hi => by rw [start_min hOk]; exact narrow_lack hN hN.lo i hi
theorem narrow_must (hOk : Ok size start ds) (hOk' : Ok size start ds') : dayOr (mustR size start ds') ≤ dayOr (mustR size start ds) :=
  must_mono hOk' hOk hN.len.symm fun i hi => by rw [start_min hOk]; exact narrow_lack' hN hN.hi i (by rw [← hN.len]; exact hi)
theorem narrow_lasts {z s : Int} (h : Lasts z s ds) : Lasts z s ds' :=
  lasts_mono (Int.le_refl _) (Int.le_refl _) hN.len (fun i hi => Int.le_of_eq (hN.want i hi)) hN.lo h
theorem narrow_size (hOk : Ok size start ds) (hOk' : Ok size start ds') : ((sizeR size start ds).2 = 0 ∨ (sizeR size start ds).2 = 3) ∧ ((sizeR size start ds).2 = 0 → (sizeR size start ds').2 = 0 ∧ (sizeR size start ds').1 ≤ (sizeR size start ds).1) := by
  have a := size_iff hOk
  have b := size_iff hOk'
  refine ⟨a.1, fun e => ?_⟩
  have h1 := (a.2.2 (sizeR size start ds).1 a.2.1.1 a.2.1.2).2 ⟨e, Int.le_refl _⟩
  exact (b.2.2 _ a.2.1.1 a.2.1.2).1 (narrow_lasts hN h1)
theorem narrow_start (hOk : Ok size start ds) (hOk' : Ok size start ds') : ((startR size start ds).2 = 0 ∨ (startR size start ds).2 = 3) ∧ ((startR size start ds).2 = 0 → (startR size start ds').2 = 0 ∧ (startR size start ds').1 ≤ (startR size start ds).1) := by
  have a := start_iff hOk
  have b := start_iff hOk'
  refine ⟨a.1, fun e => ?_⟩
  have h1 := (a.2.2 (startR size start ds).1 a.2.1.1 a.2.1.2).2 ⟨e, Int.le_refl _⟩
  exact (b.2.2 _ a.2.1.1 a.2.1.2).1 (narrow_lasts hN h1)
theorem narrow_ration (hOk : Ok size start ds) (hOk' : Ok size start ds') : ratDown size start ds 20 ≤ ratDown size start ds' 20 := by
  have h := rat_spec (size := size) (start := start) ⟨hOk.1, hOk.2.2.1⟩ hOk.dok 20
  have hM : Narrow (rationed (ratDown size start ds 20) ds) (rationed (ratDown size start ds 20) ds') := by
    refine ⟨by rw [rationed_length, rationed_length, hN.len], fun i hi => ?_, fun i hi => ?_, fun i hi => ?_⟩ <;> rw [rationed_length] at hi
    · rw [rationed_want hi, rationed_want (by rw [hN.len]; exact hi), hN.want i hi]
    · rw [rationed_lo hi, rationed_lo (by rw [hN.len]; exact hi)]; exact hN.lo i hi
    · unfold hiOf rationed
      rw [wmap_getD hi, wmap_getD (by rw [hN.len]; exact hi)]
      exact hN.hi i hi
  exact (rat_iff hOk' h.1.2).1 (narrow_lasts hM h.2.1)
end
end
end Go.X.Cist
namespace Go.X
open Go.Conc

/-- A bound of a part: none, or a number. -/
inductive Bd (tm : List Value) : Option Operand → Nat → Nat → Prop
  | none (d : Nat) : Bd tm none d d
  | some {o : Operand} {k : IntKind} {z : Int} (d : Nat) (h : evl tm o = .int k z) (h0 : 0 ≤ z) : Bd tm (some o) d z.toNat
  | nat {o : Operand} {k : IntKind} {z : Nat} (d : Nat) (h : evl tm o = .int k (z : Nat)) : Bd tm (some o) d z
def cutA (a : Option Addr) (c l w : Nat) : Option Addr := if c = l then a else a.map (·.add (l * w))

section
variable {P : Program} {h : Heap} {tm : List Value} {d : Option Tmp} {ty : TypeId} {pos : String} {aft : Array Edge} {gd : Option (Nat × Bool)}
theorem Sl.part {p : PHeap} {a : Option Addr} {n c w l r : Nat} {es : List (List Value)} (s : Sl p a n w es) (hc : n ≤ c) (h1 : l ≤ r) (h2 : r ≤ n) : Sl p (cutA a c l w) (r - l) w ((es.drop l).take (r - l)) :=
  s.cut h1 h2 fun hlt => by unfold cutA; rw [if_neg (by omega), s.ne (by omega)]; rfl
end

section
variable {P : Program} {md : Md} {f : FuncId} {r : Rd} {df : List Deferred} {k : List Item} {cs : List Frame} {Stop : Goroutine → Heap → Prop} {ops rest : List Oper} {tm : List Value}
  {h₀ : Heap} {B₀ : List Nat} {p : PHeap} {A X C : Pcs} {T : TypeId} {w : Nat} {v : Value} {es : List (List Value)} {n : Nat} {g : Goroutine}
theorem OwnS.room (o : OwnS T w v es X) (hw : 0 < w) {a : Option Addr} {m cap : Nat} (e : v = .slice a m cap) : m ≤ cap := by
  obtain ⟨h1, ⟨rfl, rfl, rfl⟩ | ⟨b, cs, cap', rest, rfl, rfl, hcs, hlen⟩⟩ := o
  · cases e; exact Nat.le_refl _
  · cases e
    have h2 := flatten_length h1
    have h3 : cs.length = es.flatten.length + rest.length := by rw [hcs]; simp
    have : es.length * w ≤ cap * w := by omega
    exact Nat.le_of_mul_le_mul_right this hw
end
end Go.X
namespace Go.X.Cist
open Go.X Go.Proofs.Ytbmkacnlhlbnjaa Go.Conc

section
variable {p : PHeap} {a : Option Addr} {n c l r : Nat} {ds es : List Day} {xs : List Int}
theorem dcs_setRain {i : Nat} {lo hi : Int} : (dcs ds).set i [.int .i64 lo, .int .i64 hi, .int .i64 (ds.getD i dz).want] = dcs (setRain ds i lo hi) := by
  simp only [dcs, setRain, List.map_set]; rfl
theorem Days.pre (D : Days p a n ds) (hc : n ≤ c) (h : r ≤ n) : Days p (cutA a c 0 3) r (ds.take r) := by
  have := Sl.part D hc (Nat.zero_le r) h
  unfold Days dcs
  rw [List.map_take]
  simpa [dcs] using this
theorem Ints.pre (D : Ints p a n xs) (hc : n ≤ c) (h : r ≤ n) : Ints p (cutA a c 0 1) r (xs.take r) := by
  have := Sl.part D hc (Nat.zero_le r) h
  unfold Ints
  rw [List.map_take]
  simpa using this
end
end Go.X.Cist
namespace Go.X
open Go.Conc

/-- 'Q' of an operation sees only those in 'anc'. -/
def Qr (anc : Nat → List Nat) (Q : Nat → (Nat → Value) → (Nat → Pcs) → Value → Pcs → Prop) (val : Nat → Value) (piece : Nat → Pcs) (i : Nat) : Value → Pcs → Prop :=
  Q i (fun j => if (anc i).contains j = true then val j else undef) (fun j => if (anc i).contains j = true then piece j else [])
def ancok (ops : List Oper) (m : Nat) (cl : List (List Nat)) (anc : Nat → List Nat) : Bool :=
  ops.zipIdx.all fun (o, i) => !decide (i < m) || (anc i).all fun j => behind cl o j
/-- What is asked of an operation whose turn it is. -/
def OpMix2 (P : Program) (md : Md) (ops : List Oper) (tmF : (Nat → Value) → List Value) (h₀ : Heap) (B₀ : List Nat) (p : PHeap) (A : Pcs) (ini : List Nat) (X : Nat → Pcs) (use : Nat → List Nat) (anc : Nat → List Nat) (Q : Nat → (Nat → Value) → (Nat → Pcs) → Value → Pcs → Prop) (i : Nat) (o : Oper) : Prop :=
  ∀ val piece, (∀ j, (anc i).contains j = true → Qr anc Q val piece j (val j) (piece j)) → (∀ j ∈ ini, piece j = X j) →
    (Met ops (tmF val) o true ∧ ∀ C h, St h₀ B₀ p h ((use i).flatMap piece ++ (A ++ C)) →
      Exv P (tmF val) o h (fun v h' => ∃ x, Qr anc Q val piece i v x ∧ St h₀ B₀ p h' (x ++ (A ++ C))) ∨
      (∃ g args, (wpS P (execOp (evl (tmF val)) o) h fun n h' => n = .enter g args ∧ h' = h) ∧ CallsX P md g args h (fun v h' => ∃ x, Qr anc Q val piece i v x ∧ St h₀ B₀ p h' (x ++ (A ++ C))))) ∨
    (Met ops (tmF val) o false ∧ (use i).flatMap piece = [] ∧ Qr anc Q val piece i undef [])

section
variable {P : Program} {md : Md} {ops : List Oper} {m : Nat} {f : FuncId} {r : Rd} {df : List Deferred} {k : List Item} {cs : List Frame} {Stop : Goroutine → Heap → Prop} {tm : List Value}
  {h₀ : Heap} {B₀ : List Nat} {p : PHeap} {A C : Pcs} {ini : List Nat} {X : Nat → Pcs} {use : Nat → List Nat} {anc : Nat → List Nat} {Q : Nat → (Nat → Value) → (Nat → Pcs) → Value → Pcs → Prop} {tmF : (Nat → Value) → List Value}

end
end Go.X
namespace Go.Proofs.Ytbmkacnlhlbnjaa
open Go.X Go.X.Cist Go.Conc
set_option maxRecDepth 10000

end Go.Proofs.Ytbmkacnlhlbnjaa
namespace Go.Proofs.Ytbmkacnlhlbnjaa
open Go.X Go.X.Cist Go.Conc
set_option maxRecDepth 10000

end Go.Proofs.Ytbmkacnlhlbnjaa
namespace Go.X
open Go.Conc

theorem setl_length : ∀ {vs : List Value} {e : List Value} {j : Nat}, (setl e j vs).length = e.length
  | [], _, _ => rfl
  | v :: vs, e, j => by simp only [setl]; rw [setl_length]; simp
theorem flatten_setl {w : Nat} : ∀ {vs : List Value} {es : List (List Value)} {i j : Nat} {e : List Value}, (∀ e ∈ es, e.length = w) → es[i]? = some e → j + vs.length ≤ e.length → setl es.flatten (i * w + j) vs = (es.set i (setl e j vs)).flatten
  | [], es, i, j, e, _, hi, _ => by
    have : es.set i e = es := by
      refine List.ext_getElem? fun m => ?_
      rw [List.getElem?_set]
      split
      · rename_i h; subst h; rw [if_pos (List.getElem?_eq_some_iff.1 hi).1, hi]
      · rfl
    simp only [setl]; rw [this]
  | v :: vs, es, i, j, e, h, hi, hj => by
    have hil := (List.getElem?_eq_some_iff.1 hi).1
    have he : e.length = w := h e (List.mem_of_getElem? hi)
    simp only [List.length_cons] at hj
    simp only [setl]
    rw [flatten_set h hi (by omega)]
    have h2 : ∀ z ∈ es.set i (e.set j v), z.length = w := fun z hz => by
      rcases List.mem_or_eq_of_mem_set hz with q | q
      · exact h z q
      · subst q; simpa using he
    have := flatten_setl (vs := vs) (es := es.set i (e.set j v)) (i := i) (j := j + 1) (e := e.set j v) h2 (by rw [List.getElem?_set, if_pos rfl, if_pos hil]) (by simp; omega)
    rw [Nat.add_assoc, this, List.set_set]

section
variable {P : Program} {md : Md} {f : FuncId} {r : Rd} {df : List Deferred} {k : List Item} {cs : List Frame} {Stop : Goroutine → Heap → Prop} {ops rest : List Oper} {tm : List Value}
  {h₀ : Heap} {B₀ : List Nat} {p : PHeap} {A X C : Pcs} {T : TypeId} {w : Nat} {v : Value} {es : List (List Value)} {d : Option Tmp} {ty : TypeId} {pos : String} {aft : Array Edge} {gd : Option (Nat × Bool)} {h : Heap}
theorem exd_indexOI {t e : TypeId} {x y : Operand} {i : Int} (o : OwnS T w v es X) (ht : P.underlying t = some (.slice e)) (hs : sizeT P e = some w) (hx : evl tm x = v) (hy : evl tm y = .int .i64 i) (h0 : 0 ≤ i) (hi : i.toNat < es.length) :
    Exd P tm ⟨d, .indexAddr t x y, ty, pos, aft, gd⟩ h (.pointer (some ((adrV v).add (i.toNat * w)))) :=
  exd_indexO (i := i.toNat) o ht hs hx (by rw [hy, Int.toNat_of_nonneg h0]) hi
theorem rl_storeON {T' : TypeId} {x y : Operand} {i j nsz : Nat} {e vs : List Value} {u : Value} {a : Addr} (o : OwnS T w v es X) (hm : Met ops tm ⟨none, .store T' x y, ty, pos, aft, gd⟩ true) (hs : sizeT P T' = some nsz) (hx : evl tm x = .pointer (some a)) (ha : ((adrV v).add (i * w)).add j = a)
    (hy : evl tm y = u) (hu : u.cells = vs.toArray) (hn : vs.length = nsz) (h1 : vs.all isOne = true) (hi : es[i]? = some e) (hj : j + vs.length ≤ e.length)
    (n : ∀ X', OwnS T w v (es.set i (setl e j vs)) X' → RL P md f r df k cs Stop ops rest tm (fun h => St h₀ B₀ p h (A ++ (X' ++ C)))) :
    RL P md f r df k cs Stop ops (⟨none, .store T' x y, ty, pos, aft, gd⟩ :: rest) tm (fun h => St h₀ B₀ p h (A ++ (X ++ C))) := by
  have hil := (List.getElem?_eq_some_iff.1 hi).1
  obtain ⟨b, cs', cap, rs, e1, e2, e3, e4⟩ := o.has hil
  have he : e.length = w := o.1 e (List.mem_of_getElem? hi)
  have hfl : es.flatten.length = es.length * w := flatten_length o.1
  have hmul : (i + 1) * w ≤ es.length * w := Nat.mul_le_mul_right _ hil
  rw [Nat.add_mul, Nat.one_mul] at hmul
  subst e1; subst e2; subst ha
  have e5 : setl cs' (i * w + j) vs = (es.set i (setl e j vs)).flatten ++ rs := by
    rw [e3, ← flatten_setl o.1 hi hj]
    have : ∀ (vs l : List Value) (m : Nat), m + vs.length ≤ l.length → setl (l ++ rs) m vs = setl l m vs ++ rs := by
      intro vs
      induction vs with
      | nil => intro l m _; rfl
      | cons v vs ih =>
        intro l m hl
        simp only [List.length_cons] at hl
        simp only [setl]
        rw [List.set_append_left _ _ (by omega), ih _ _ (by simp; omega)]
    exact this vs _ _ (by omega)
  have o' : OwnS T w (.slice (some ⟨b, 0, none⟩) es.length cap) (es.set i (setl e j vs)) [(b, .cells (setl cs' (i * w + j) vs).toArray T (0, 0))] := by
    refine ⟨fun z hz => ?_, .inr ⟨b, setl cs' (i * w + j) vs, cap, rs, by simp, rfl, e5, by rw [setl_length]; exact e4⟩⟩
    rcases List.mem_or_eq_of_mem_set hz with h | h
    · exact o.1 z h
    · subst h; rw [setl_length]; exact he
  have hx' : evl tm x = .pointer (some ⟨b, i * w + j, none⟩) := by
    rw [hx]; simp only [adrV]; rw [add_mk, add_mk, Nat.zero_add]
  refine rl_store (i := A.length) (b := b) (off := i * w + j) (cs' := cs') (T' := T) hm hs hx' hy (by rw [List.getElem?_append_right (Nat.le_refl _)]; simp) (by rw [hu]; simpa using hn) (by rw [hu]; exact h1) (by rw [hu, e3, List.length_append]; simp only [List.size_toArray]; omega) (by rw [hu]) ?_
  have e6 : (A ++ ([(b, Obj.cells (List.toArray cs') T (0, 0))] ++ C)).set A.length (b, .cells (setl cs' (i * w + j) vs).toArray T (0, 0)) = A ++ ([(b, .cells (setl cs' (i * w + j) vs).toArray T (0, 0))] ++ C) := by
    rw [List.set_append_right _ _ (Nat.le_refl _)]; simp
  rw [e6]
  exact n _ o'
end
end Go.X
namespace Go.Proofs.Ytbmkacnlhlbnjaa
open Go.X Go.X.Cist Go.Conc
set_option maxRecDepth 10000

set_option maxHeartbeats 8000000
theorem e14 (h : Heap) (p : PHeap) (hp : Per p h) (size start : Int) (a : Option Addr) (n c : Nat) (ds : List Day) (D : Days p a n ds) (k1 k2 k3 : Int) : EntersX Try.prog (.main true) 14 #[.agg #[.int .i64 (size), .int .i64 (start), .slice a n c], .agg #[.int .i64 (k1), .int .i64 (k2), .int .i64 (k3)]] h fun v h' => v = .bool true ∧ Keep h h' := by
  refine enters_intro (Φ := fun h_ => St h [] p h_ []) Try.func14 rfl (tm := [_, _, _, _, _, _, _, _, _, _, _, _, _, _, _, _, _, _, _, _, _, _, _, _, _, _, _, _, _, _, _, _, _, _, _, _, _, _, _, _, _, _, _, _, _, _, _, _, _, _, _, _, _, _, _, _, _, _, _, _, _, _, _, _, _, _, _, _, _, _, _, _, _, _, _, _, _, _, _, _, _, _, _, _, _, _, _, _, _, _, _, _, _, _, _, _, _, _, _, _, _, _, _, _, _, _, _, _, _, _, _, _, _, _, _, _, _, _, _, _, _, _, _, _, _, _, _, _, _, _, _, _, _, _, _, _, _, _, _, _, _, _, _, _, _, _, _, _, _, _, _, _, _, _, _, _, _, _, _, _, _, _, _, _, _, _, _, _, _, _, _, _, _, _, _, _, _, _, _, _, _, _, _, _, _, _, _, _, _, _, _, _, _, _, _, _, _, _, _, _, _, _, _, _, _, _, _, _, _, _, _, _, _, _, _, _, _, _, _, _, _, _, _, _, _, _, _, _, _, _, _, _, _, _, _, _, _, _, _, _]) rfl ?_ (St.start h _ hp)
  intro K
  have hl := D.len
  refine fl_seq ?_
  refine rl_start ?_
  refine rl_box (met_none rfl) (v := .agg #[.int .i64 (size), .int .i64 (start), .slice a n c]) rfl fun b1 => rl_own (L' := [(b1, .cells #[.int .i64 (size), .int .i64 (start), .slice a n c] 24 (0, 0))]) rfl ?_
  refine rl_box (met_none rfl) (v := .agg #[.int .i64 (k1), .int .i64 (k2), .int .i64 (k3)]) rfl fun b2 => rl_own (L' := [(b2, .cells #[.int .i64 (k1), .int .i64 (k2), .int .i64 (k3)] 60 (0, 0)), (b1, .cells #[.int .i64 (size), .int .i64 (start), .slice a n c] 24 (0, 0))]) rfl ?_
  refine rl_det (met_none rfl) (fun h_ H_ => exd_assign (v := .bool (false)) rfl) (tm' := _::_::_::_::_::_) rfl ?_
  refine rl_end ?_
  refine fl_seq ?_
  refine fl_seq ?_
  by_cases cc3 : ¬ FarD size start ds ∧ ds.length ≤ 40 ∧ Ok size start ds
  · by_cases cc4 : IsDay ds k1
    · have hd0 := cc4.1; have hd1 := cc4.2
      refine fl_drawn2 20 [[], [0], [0], [0, 1, 2], [], [0, 1, 2], [0, 1, 2, 5], [0, 1, 2, 4, 5, 6], [0, 1, 2, 4, 5, 6], [0, 1, 2, 3, 4, 5, 6, 8], [0, 1, 2, 3, 4, 5, 6, 7, 8, 9], [], [11], [], [13], [0, 1, 2, 3, 4, 5, 6, 7, 8, 9], [0, 1, 2, 3, 4, 5, 6, 7, 8, 9, 15], [0, 1, 2, 3, 4, 5, 6, 7, 8, 9, 13, 14, 15, 16], [0, 1, 2, 3, 4, 5, 6, 7, 8, 9, 13, 14, 15, 16, 17], [0, 1, 2, 3, 4, 5, 6, 7, 8, 9, 13, 14, 15, 16, 17, 18], [0, 1, 2, 3, 4, 5, 6, 7, 8, 9, 11, 12, 13, 14, 15, 16, 17, 18, 19], [0, 1, 2, 3, 4, 5, 6, 7, 8, 9, 11, 12, 13, 14, 15, 16, 17, 18, 19, 20], []] mixed (by kernel_rfl) (Nat.le_of_ble_eq_true rfl) ?_
      refine swr_det (met_none rfl) (fun h_ H_ => exd_loadN_own H_ tA24 tS24 rfl (i := 1) rfl (vs := [.int .i64 (size), .int .i64 (start), .slice a n c]) rfl rfl) rfl ?_
      refine swr_call (met_none rfl) (first := []) (cap := []) rfl rfl fC21 (fun h_ H_ => (c21 (.main true) _ _ (fun b_ o_ e_ => H_.per b_ o_ e_) size start _ _ _ _ D).mono fun v_ h2_ ⟨e_, k_⟩ => ⟨e_, H_.call k_⟩) (tm' := _::_::_::_::_::_::_::_::_::_::_::_::_::_::_::_::_::_::_::_::_::_::_::_::_::_::_::_::_::_::_::_) rfl ?_
      refine swr_det (met_none rfl) (fun h_ H_ => exd_not rfl) rfl ?_
      refine swr_det (met_none rfl) (fun h_ H_ => exd_move (v := .bool (!(decide (¬ FarD size start ds ∧ ds.length ≤ 40 ∧ Ok size start ds)))) rfl) (tm' := _::_::_::_::_::_::_::_::_::_::_::_::_::_::_::_::_::_::_::_::_::_::_::_::_::_::_::_::_::_::_::_::_::_) rfl ?_
      refine swr_det (met_some rfl rfl (not_f (decide_eq_true cc3))) (fun h_ H_ => exd_loadN_own H_ tA24 tS24 rfl (i := 1) rfl (vs := [.int .i64 (size), .int .i64 (start), .slice a n c]) rfl rfl) rfl ?_
      refine swr_det (met_some rfl rfl (not_f (decide_eq_true cc3))) (fun h_ H_ => exd_fieldAddr tF60_0 rfl (a' := ⟨b2, 0, none⟩) rfl) (tm' := _::_::_::_::_::_::_::_::_::_::_::_::_::_::_::_::_::_::_::_::_::_::_::_::_::_::_::_::_::_::_::_::_::_::_::_) rfl ?_
      refine swr_det (met_some rfl rfl (not_f (decide_eq_true cc3))) (fun h_ H_ => exd_load_own H_ tA3 rfl (i := 0) rfl (v := .int .i64 (k1)) rfl) rfl ?_
      refine swr_call (met_some rfl rfl (not_f (decide_eq_true cc3))) (first := []) (cap := []) rfl rfl fC26 (fun h_ H_ => (c26 (.main true) _ _ (fun b_ o_ e_ => H_.per b_ o_ e_) (size) (start) _ _ _ _ D (by omega) k1).mono fun v_ h2_ ⟨e_, k_⟩ => ⟨e_, H_.call k_⟩) (tm' := _::_::_::_::_::_::_::_::_::_::_::_::_::_::_::_::_::_::_::_::_::_::_::_::_::_::_::_::_::_::_::_::_::_::_::_::_::_) rfl ?_
      refine swr_det (met_some rfl rfl (not_f (decide_eq_true cc3))) (fun h_ H_ => exd_not rfl) rfl ?_
      refine swr_det (met_none rfl) (fun h_ H_ => exd_pick_f rfl (not_f (decide_eq_true cc3)) (v := .bool (!(decide (IsDay ds k1)))) rfl) (tm' := _::_::_::_::_::_::_::_::_::_::_::_::_::_::_::_::_::_::_::_::_::_::_::_::_::_::_::_::_::_::_::_::_::_::_::_::_::_::_::_) rfl ?_
      refine swr_det (met_none rfl) (fun h_ H_ => exd_move (v := .bool (!(decide (IsDay ds k1)))) rfl) rfl ?_
      refine swr_det (met_some rfl rfl (not_f (decide_eq_true cc4))) (fun h_ H_ => exd_fieldAddr tF60_1 rfl (a' := ⟨b2, 1, none⟩) rfl) (tm' := _::_::_::_::_::_::_::_::_::_::_::_::_::_::_::_::_::_::_::_::_::_::_::_::_::_::_::_::_::_::_::_::_::_::_::_::_::_::_::_::_::_) rfl ?_
      refine swr_det (met_some rfl rfl (not_f (decide_eq_true cc4))) (fun h_ H_ => exd_loadN_own H_ tA36 tS36 rfl (i := 0) rfl (vs := [.int .i64 (k2), .int .i64 (k3)]) rfl rfl) rfl ?_
      refine swr_det (met_some rfl rfl (not_f (decide_eq_true cc4))) (fun h_ H_ => exd_fieldAddr tF24_2 rfl (a' := ⟨b1, 2, none⟩) rfl) (tm' := _::_::_::_::_::_::_::_::_::_::_::_::_::_::_::_::_::_::_::_::_::_::_::_::_::_::_::_::_::_::_::_::_::_::_::_::_::_::_::_::_::_::_::_) rfl ?_
      refine swr_det (met_some rfl rfl (not_f (decide_eq_true cc4))) (fun h_ H_ => exd_load_own H_ tA22 rfl (i := 1) rfl (v := .slice a n c) rfl) rfl ?_
      refine swr_det (met_some rfl rfl (not_f (decide_eq_true cc4))) (fun h_ H_ => exd_fieldAddr tF60_0 rfl (a' := ⟨b2, 0, none⟩) rfl) (tm' := _::_::_::_::_::_::_::_::_::_::_::_::_::_::_::_::_::_::_::_::_::_::_::_::_::_::_::_::_::_::_::_::_::_::_::_::_::_::_::_::_::_::_::_::_::_) rfl ?_
      refine swr_det (met_some rfl rfl (not_f (decide_eq_true cc4))) (fun h_ H_ => exd_load_own H_ tA3 rfl (i := 0) rfl (v := .int .i64 (k1)) rfl) rfl ?_
      refine swr_det (met_some rfl rfl (not_f (decide_eq_true cc4))) (fun h_ H_ => exd_indexAddr Try.underlying22 tS38 (sl_ne a n c (D.ne (by omega))) rfl (by omega) (by omega) (a' := (adr a).add ((k1).toNat * 3)) rfl) (tm' := _::_::_::_::_::_::_::_::_::_::_::_::_::_::_::_::_::_::_::_::_::_::_::_::_::_::_::_::_::_::_::_::_::_::_::_::_::_::_::_::_::_::_::_::_::_::_::_) rfl ?_
      refine swr_det (met_some rfl rfl (not_f (decide_eq_true cc4))) (fun h_ H_ => exd_fieldAddr tF38_0 rfl (a' := (adr a).add ((k1).toNat * 3)) rfl) rfl ?_
      refine swr_det (met_some rfl rfl (not_f (decide_eq_true cc4))) (fun h_ H_ => exd_loadN_per H_ tA36 tS36 rfl (vs := [.int .i64 ((ds.getD ((k1).toNat) dz).lo), .int .i64 ((ds.getD ((k1).toNat) dz).hi)]) rfl (D.span (by omega))) (tm' := _::_::_::_::_::_::_::_::_::_::_::_::_::_::_::_::_::_::_::_::_::_::_::_::_::_::_::_::_::_::_::_::_::_::_::_::_::_::_::_::_::_::_::_::_::_::_::_::_::_) rfl ?_
      refine swr_nil rfl ?_
      refine rl_calld (met_some rfl rfl (not_f (decide_eq_true cc4))) (first := []) (cap := []) rfl rfl fC59 (fun h_ H_ => c59 (.main true) _ k2 k3 ((ds.getD ((k1).toNat) dz).lo) ((ds.getD ((k1).toNat) dz).hi)) (tm' := _::_::_::_::_::_::_::_::_::_::_::_::_::_::_::_::_::_::_::_::_::_::_::_::_::_::_::_::_::_::_::_::_::_::_::_::_::_::_::_::_::_::_::_::_::_::_::_::_::_::_) rfl ?_
      refine rl_det (met_some rfl rfl (not_f (decide_eq_true cc4))) (fun h_ H_ => exd_not rfl) rfl ?_
      refine rl_det (met_none rfl) (fun h_ H_ => exd_pick_f rfl (not_f (decide_eq_true cc4)) (v := .bool (!(decide ((ds.getD ((k1).toNat) dz).lo ≤ k2 ∧ k2 ≤ k3 ∧ k3 ≤ (ds.getD ((k1).toNat) dz).hi)))) rfl) rfl ?_
      refine rl_end ?_
      by_cases cc5 : (ds.getD ((k1).toNat) dz).lo ≤ k2 ∧ k2 ≤ k3 ∧ k3 ≤ (ds.getD ((k1).toNat) dz).hi
      · refine fl_else rfl (not_f (decide_eq_true cc5)) ?_
        refine fl_skip ?_
        refine fl_seq ?_
        have hfew := (‹¬ FarD size start ds ∧ ds.length ≤ 40 ∧ Ok size start ds›)
        have hOk := hfew.2.2
        have hin := ‹_ ≤ k2 ∧ k2 ≤ k3 ∧ k3 ≤ _›
        have hki : (k1).toNat < ds.length := by omega
        have hN := narrow_set hki hin.1 hin.2.2
        have hOk2 := narrow_ok hOk hki hin.1 hin.2.2 hin.2.1
        have hl2 := hN.len
        have hnd := narrow_dry hN hOk hOk2
        have hnm := narrow_must hN hOk hOk2
        have hns := narrow_size hN hOk hOk2
        have hnt := narrow_start hN hOk hOk2
        have hnrt := narrow_ration hN hOk hOk2
        refine rl_start ?_
        refine rl_det (met_none rfl) (fun h_ H_ => exd_loadN_own H_ tA24 tS24 rfl (i := 1) rfl (vs := [.int .i64 (size), .int .i64 (start), .slice a n c]) rfl rfl) (tm' := _::_::_::_::_::_::_::_::_::_::_::_::_::_::_::_::_::_::_::_::_::_::_::_::_::_::_::_::_::_::_::_::_::_::_::_::_::_::_::_::_::_::_::_::_::_::_::_::_::_::_::_::_::_::_) rfl ?_
        refine rl_own (L' := ([(b2, .cells #[.int .i64 (k1), .int .i64 (k2), .int .i64 (k3)] 60 (0, 0)), (b1, .cells #[.int .i64 (size), .int .i64 (start), .slice a n c] 24 (0, 0))] : Pcs) ++ []) rfl ?_
        refine rl_call (met_none rfl) (first := []) (cap := []) rfl rfl fC30 (R := fun v_ h_ => ∃ w6 : Value, ∃ X7 : Pcs, v_ = .agg #[.int .i64 (size), .int .i64 (start), w6] ∧ (OwnS 38 3 w6 (dcs ds) X7) ∧ St h [] p h_ (([(b2, .cells #[.int .i64 (k1), .int .i64 (k2), .int .i64 (k3)] 60 (0, 0)), (b1, .cells #[.int .i64 (size), .int .i64 (start), .slice a n c] 24 (0, 0))] : Pcs) ++ (X7 ++ []))) (fun h_ H_ => (c30 (.main true) _ _ (fun b_ o_ e_ => H_.per b_ o_ e_) (size) (start) _ _ _ _ D (by omega)).mono fun v_ h2_ ⟨w6, X7, e_, o8, N_⟩ => ⟨w6, X7, e_, o8, H_.callNA N_⟩) fun v_ => ?_
        refine rl_ex fun w6 => rl_ex fun X7 => rl_and fun ev_ => rl_and fun o8 => ?_
        have ev_ := ev_.symm; subst ev_
        refine rl_own (L' := ([(b2, .cells #[.int .i64 (k1), .int .i64 (k2), .int .i64 (k3)] 60 (0, 0)), (b1, .cells #[.int .i64 (size), .int .i64 (start), .slice a n c] 24 (0, 0))] : Pcs) ++ (X7 ++ [])) rfl ?_
        refine rl_alloc (met_none rfl) tZ24 rfl fun b9 => rl_own (L' := ([(b9, .cells #[.int .i64 0, .int .i64 0, .slice none 0 0] 24 (0, 0)), (b2, .cells #[.int .i64 (k1), .int .i64 (k2), .int .i64 (k3)] 60 (0, 0)), (b1, .cells #[.int .i64 (size), .int .i64 (start), .slice a n c] 24 (0, 0))] : Pcs) ++ (X7 ++ [])) rfl ?_
        refine rl_store (met_none rfl) tS24 rfl (v := .agg #[.int .i64 (size), .int .i64 (start), w6]) rfl (i := 0) rfl rfl (ones_cons rfl (ones_cons rfl (ones_cons o8.one.2 rfl))) (Nat.le_of_ble_eq_true rfl) (cs2 := [.int .i64 (size), .int .i64 (start), w6]) rfl (rl_own (L' := ([(b9, .cells #[.int .i64 (size), .int .i64 (start), w6] 24 (0, 0)), (b2, .cells #[.int .i64 (k1), .int .i64 (k2), .int .i64 (k3)] 60 (0, 0)), (b1, .cells #[.int .i64 (size), .int .i64 (start), .slice a n c] 24 (0, 0))] : Pcs) ++ (X7 ++ [])) rfl ?_)
        refine rl_end ?_
        refine fl_seq ?_
        refine rl_start ?_
        refine rl_det (met_none rfl) (fun h_ H_ => exd_fieldAddr tF24_2 rfl (a' := ⟨b9, 2, none⟩) rfl) (tm' := _::_::_::_::_::_::_::_::_::_::_::_::_::_::_::_::_::_::_::_::_::_::_::_::_::_::_::_::_::_::_::_::_::_::_::_::_::_::_::_::_::_::_::_::_::_::_::_::_::_::_::_::_::_::_::_::_) rfl ?_
        refine rl_det (met_none rfl) (fun h_ H_ => exd_load_own H_ tA22 rfl (i := 0) rfl (v := w6) rfl) rfl ?_
        refine rl_det (met_none rfl) (fun h_ H_ => exd_fieldAddr tF60_0 rfl (a' := ⟨b2, 0, none⟩) rfl) rfl ?_
        refine rl_det (met_none rfl) (fun h_ H_ => exd_load_own H_ tA3 rfl (i := 1) rfl (v := .int .i64 (k1)) rfl) (tm' := _::_::_::_::_::_::_::_::_::_::_::_::_::_::_::_::_::_::_::_::_::_::_::_::_::_::_::_::_::_::_::_::_::_::_::_::_::_::_::_::_::_::_::_::_::_::_::_::_::_::_::_::_::_::_::_::_::_::_::_) rfl ?_
        refine rl_det (met_none rfl) (fun h_ H_ => exd_fieldAddr tF60_1 rfl (a' := ⟨b2, 1, none⟩) rfl) rfl ?_
        refine rl_det (met_none rfl) (fun h_ H_ => exd_loadN_own H_ tA36 tS36 rfl (i := 1) rfl (vs := [.int .i64 (k2), .int .i64 (k3)]) rfl rfl) rfl ?_
        refine rl_det (met_none rfl) (fun h_ H_ => exd_indexOI o8 Try.underlying22 tS38 rfl rfl (by omega) (by rw [(show (dcs ds).length = n by rw [dcs_length]; omega)]; omega)) (tm' := _::_::_::_::_::_::_::_::_::_::_::_::_::_::_::_::_::_::_::_::_::_::_::_::_::_::_::_::_::_::_::_::_::_::_::_::_::_::_::_::_::_::_::_::_::_::_::_::_::_::_::_::_::_::_::_::_::_::_::_::_::_::_) rfl ?_
        refine rl_det (met_none rfl) (fun h_ H_ => exd_fieldAddr tF38_0 rfl (a' := (adrV w6).add ((k1).toNat * 3)) rfl) rfl ?_
        refine rl_storeON (A := ([(b9, .cells #[.int .i64 (size), .int .i64 (start), w6] 24 (0, 0)), (b2, .cells #[.int .i64 (k1), .int .i64 (k2), .int .i64 (k3)] 60 (0, 0)), (b1, .cells #[.int .i64 (size), .int .i64 (start), .slice a n c] 24 (0, 0))] : Pcs)) (i := (k1).toNat) (j := 0) (e := (ds.getD ((k1).toNat) dz).cells) (vs := [.int .i64 (k2), .int .i64 (k3)]) o8 (met_none rfl) tS36 rfl rfl rfl rfl rfl rfl (dcs_at (by omega)) (Nat.le_of_ble_eq_true rfl) fun X10 o11 => ?_
        have o12 : OwnS 38 3 w6 ((dcs ds).set ((k1).toNat) [.int .i64 (k2), .int .i64 (k3), .int .i64 ((ds.getD ((k1).toNat) dz).want)]) X10 := o11
        have o13 := o12.as dcs_setRain
        refine rl_end ?_
        refine fl_seq ?_
        refine rs_lastN (A := ([(b9, .cells #[.int .i64 (size), .int .i64 (start), w6] 24 (0, 0)), (b2, .cells #[.int .i64 (k1), .int .i64 (k2), .int .i64 (k3)] 60 (0, 0)), (b1, .cells #[.int .i64 (size), .int .i64 (start), .slice a n c] 24 (0, 0))] : Pcs)) o13 (show (dcs (setRain ds (k1).toNat k2 k3)).length = n by rw [dcs_length, setRain_length]; exact hl) fun p14 a15 cp16 le17 ev_ D18 => ?_
        subst ev_
        refine rs_own (L' := [(b9, .cells #[.int .i64 (size), .int .i64 (start), .slice a15 n cp16] 24 (0, 0)), (b2, .cells #[.int .i64 (k1), .int .i64 (k2), .int .i64 (k3)] 60 (0, 0)), (b1, .cells #[.int .i64 (size), .int .i64 (start), .slice a n c] 24 (0, 0))]) rfl ?_
        refine rl_start ?_
        refine rl_det (met_none rfl) (fun h_ H_ => exd_loadN_own H_ tA24 tS24 rfl (i := 2) rfl (vs := [.int .i64 (size), .int .i64 (start), .slice a n c]) rfl rfl) rfl ?_
        refine rl_calld (met_none rfl) (first := []) (cap := []) rfl rfl fC38 (fun h_ H_ => c38 _ _ (fun b_ o_ e_ => H_.per b_ o_ e_) (size) (start) _ _ _ _ (D.mono le17) (by omega) hOk) (tm' := _::_::_::_::_::_::_::_::_::_::_::_::_::_::_::_::_::_::_::_::_::_::_::_::_::_::_::_::_::_::_::_::_::_::_::_::_::_::_::_::_::_::_::_::_::_::_::_::_::_::_::_::_::_::_::_::_::_::_::_::_::_::_::_::_::_::_) rfl ?_
        refine rl_det (met_none rfl) (fun h_ H_ => exd_move (v := .tuple #[.int .i64 (dayOr (dryR size start ds)), .int .i64 (dayOr (mustR size start ds)), .bool (true)]) rfl) rfl ?_
        refine rl_det (met_none rfl) (fun h_ H_ => exd_extract rfl (v := .int .i64 (dayOr (dryR size start ds))) rfl) rfl ?_
        refine rl_det (met_none rfl) (fun h_ H_ => exd_extract rfl (v := .int .i64 (dayOr (mustR size start ds))) rfl) (tm' := _::_::_::_::_::_::_::_::_::_::_::_::_::_::_::_::_::_::_::_::_::_::_::_::_::_::_::_::_::_::_::_::_::_::_::_::_::_::_::_::_::_::_::_::_::_::_::_::_::_::_::_::_::_::_::_::_::_::_::_::_::_::_::_::_::_::_::_::_) rfl ?_
        refine rl_det (met_none rfl) (fun h_ H_ => exd_extract rfl (v := .bool (true)) rfl) rfl ?_
        refine rl_det (met_none rfl) (fun h_ H_ => exd_assign (v := .int .i64 (dayOr (dryR size start ds))) rfl) rfl ?_
        refine rl_det (met_none rfl) (fun h_ H_ => exd_assign (v := .int .i64 (dayOr (mustR size start ds))) rfl) (tm' := _::_::_::_::_::_::_::_::_) rfl ?_
        refine rl_det (met_none rfl) (fun h_ H_ => exd_assign (v := .bool (true)) rfl) rfl ?_
        refine rl_end ?_
        refine fl_seq ?_
        refine rl_start ?_
        refine rl_det (met_none rfl) (fun h_ H_ => exd_loadN_own H_ tA24 tS24 rfl (i := 0) rfl (vs := [.int .i64 (size), .int .i64 (start), .slice a15 n cp16]) rfl rfl) rfl ?_
        refine rl_calld (met_none rfl) (first := []) (cap := []) rfl rfl fC38 (fun h_ H_ => c38 _ _ (fun b_ o_ e_ => H_.per b_ o_ e_) (size) (start) _ _ _ _ (show Days _ _ _ (setRain ds (k1).toNat k2 k3) from D18) (by omega) hOk2) (tm' := _::_::_::_::_::_::_::_::_::_::_::_::_::_::_::_::_::_::_::_::_::_::_::_::_::_::_::_::_::_::_::_::_::_::_::_::_::_::_::_::_::_::_::_::_::_::_::_::_::_::_::_::_::_::_::_::_::_::_::_::_::_::_::_::_::_::_::_::_::_::_::_::_) rfl ?_
        refine rl_det (met_none rfl) (fun h_ H_ => exd_move (v := .tuple #[.int .i64 (dayOr (dryR size start (setRain ds (k1).toNat k2 k3))), .int .i64 (dayOr (mustR size start (setRain ds (k1).toNat k2 k3))), .bool (true)]) rfl) rfl ?_
        refine rl_det (met_none rfl) (fun h_ H_ => exd_extract rfl (v := .int .i64 (dayOr (dryR size start (setRain ds (k1).toNat k2 k3)))) rfl) rfl ?_
        refine rl_det (met_none rfl) (fun h_ H_ => exd_extract rfl (v := .int .i64 (dayOr (mustR size start (setRain ds (k1).toNat k2 k3)))) rfl) (tm' := _::_::_::_::_::_::_::_::_::_::_::_::_::_::_::_::_::_::_::_::_::_::_::_::_::_::_::_::_::_::_::_::_::_::_::_::_::_::_::_::_::_::_::_::_::_::_::_::_::_::_::_::_::_::_::_::_::_::_::_::_::_::_::_::_::_::_::_::_::_::_::_::_::_::_) rfl ?_
        refine rl_det (met_none rfl) (fun h_ H_ => exd_extract rfl (v := .bool (true)) rfl) rfl ?_
        refine rl_det (met_none rfl) (fun h_ H_ => exd_assign (v := .int .i64 (dayOr (dryR size start (setRain ds (k1).toNat k2 k3)))) rfl) rfl ?_
        refine rl_det (met_none rfl) (fun h_ H_ => exd_assign (v := .int .i64 (dayOr (mustR size start (setRain ds (k1).toNat k2 k3)))) rfl) (tm' := _::_::_::_::_::_::_::_::_::_::_::_) rfl ?_
        refine rl_det (met_none rfl) (fun h_ H_ => exd_assign (v := .bool (true)) rfl) rfl ?_
        refine rl_end ?_
        refine fl_seq ?_
        refine fl_seq ?_
        refine rl_start ?_
        refine rl_det (met_none rfl) (fun h_ H_ => exd_move (v := .bool (true)) rfl) rfl ?_
        refine rl_det (met_none rfl) (fun h_ H_ => exd_not rfl) (tm' := _::_::_::_::_::_::_::_::_::_::_::_::_::_::_::_::_::_::_::_::_::_::_::_::_::_::_::_::_::_::_::_::_::_::_::_::_::_::_::_::_::_::_::_::_::_::_::_::_::_::_::_::_::_::_::_::_::_::_::_::_::_::_::_::_::_::_::_::_::_::_::_::_::_::_::_::_::_) rfl ?_
        refine rl_det (met_none rfl) (fun h_ H_ => exd_move (v := .bool (!true)) rfl) rfl ?_
        refine rl_det (met_some rfl rfl (not_f rfl)) (fun h_ H_ => exd_move (v := .bool (true)) rfl) rfl ?_
        refine rl_det (met_some rfl rfl (not_f rfl)) (fun h_ H_ => exd_not rfl) (tm' := _::_::_::_::_::_::_::_::_::_::_::_::_::_::_::_::_::_::_::_::_::_::_::_::_::_::_::_::_::_::_::_::_::_::_::_::_::_::_::_::_::_::_::_::_::_::_::_::_::_::_::_::_::_::_::_::_::_::_::_::_::_::_::_::_::_::_::_::_::_::_::_::_::_::_::_::_::_::_::_::_) rfl ?_
        refine rl_det (met_none rfl) (fun h_ H_ => exd_pick_f rfl (not_f rfl) (v := .bool (!true)) rfl) rfl ?_
        refine rl_det (met_none rfl) (fun h_ H_ => exd_move (v := .bool (!true)) rfl) rfl ?_
        refine rl_det (met_some rfl rfl (not_f rfl)) (fun h_ H_ => exd_move (v := .int .i64 (dayOr (dryR size start (setRain ds (k1).toNat k2 k3)))) rfl) (tm' := _::_::_::_::_::_::_::_::_::_::_::_::_::_::_::_::_::_::_::_::_::_::_::_::_::_::_::_::_::_::_::_::_::_::_::_::_::_::_::_::_::_::_::_::_::_::_::_::_::_::_::_::_::_::_::_::_::_::_::_::_::_::_::_::_::_::_::_::_::_::_::_::_::_::_::_::_::_::_::_::_::_::_::_) rfl ?_
        refine rl_det (met_some rfl rfl (not_f rfl)) (fun h_ H_ => exd_move (v := .int .i64 (dayOr (dryR size start ds))) rfl) rfl ?_
        refine rl_det (met_some rfl rfl (not_f rfl)) (fun h_ H_ => exd_lss rfl rfl) rfl ?_
        refine rl_det (met_none rfl) (fun h_ H_ => exd_pick_f rfl (not_f rfl) (v := .bool (decide (dayOr (dryR size start (setRain ds (k1).toNat k2 k3)) < dayOr (dryR size start ds)))) rfl) (tm' := _::_::_::_::_::_::_::_::_::_::_::_::_::_::_::_::_::_::_::_::_::_::_::_::_::_::_::_::_::_::_::_::_::_::_::_::_::_::_::_::_::_::_::_::_::_::_::_::_::_::_::_::_::_::_::_::_::_::_::_::_::_::_::_::_::_::_::_::_::_::_::_::_::_::_::_::_::_::_::_::_::_::_::_::_::_::_) rfl ?_
        refine rl_det (met_none rfl) (fun h_ H_ => exd_move (v := .bool (decide (dayOr (dryR size start (setRain ds (k1).toNat k2 k3)) < dayOr (dryR size start ds)))) rfl) rfl ?_
        refine rl_det (met_some rfl rfl (decide_eq_false (by omega))) (fun h_ H_ => exd_move (v := .int .i64 (dayOr (mustR size start (setRain ds (k1).toNat k2 k3)))) rfl) rfl ?_
        refine rl_det (met_some rfl rfl (decide_eq_false (by omega))) (fun h_ H_ => exd_move (v := .int .i64 (dayOr (mustR size start ds))) rfl) (tm' := _::_::_::_::_::_::_::_::_::_::_::_::_::_::_::_::_::_::_::_::_::_::_::_::_::_::_::_::_::_::_::_::_::_::_::_::_::_::_::_::_::_::_::_::_::_::_::_::_::_::_::_::_::_::_::_::_::_::_::_::_::_::_::_::_::_::_::_::_::_::_::_::_::_::_::_::_::_::_::_::_::_::_::_::_::_::_::_::_::_) rfl ?_
        refine rl_det (met_some rfl rfl (decide_eq_false (by omega))) (fun h_ H_ => exd_gtr rfl rfl) rfl ?_
        refine rl_det (met_none rfl) (fun h_ H_ => exd_pick_f rfl (decide_eq_false (by omega)) (v := .bool (decide (dayOr (mustR size start ds) < dayOr (mustR size start (setRain ds (k1).toNat k2 k3))))) rfl) rfl ?_
        refine rl_end ?_
        refine fl_else rfl (decide_eq_false (by omega)) ?_
        refine fl_skip ?_
        refine fl_seq ?_
        refine fl_seq ?_
        refine rl_start ?_
        refine rl_det (met_none rfl) (fun h_ H_ => exd_assign (v := .int .i64 0) rfl) (tm' := _::_::_::_::_::_::_::_::_::_::_::_::_::_) rfl ?_
        refine rl_end ?_
        refine fl_block ?_
        refine fl_loop (m₀ := n - 0) (fun m_ tm_ h_ => ∃ (j : Nat), m_ = n - j ∧ (∃ y19 : Nat → Value, tm_ = [.agg #[.int .i64 (size), .int .i64 (start), .slice a n c], .agg #[.int .i64 (k1), .int .i64 (k2), .int .i64 (k3)], .pointer (some ⟨b1, 0, none⟩), .pointer (some ⟨b2, 0, none⟩), (y19 4), .pointer (some ⟨b9, 0, none⟩), .int .i64 (dayOr (dryR size start ds)), .int .i64 (dayOr (mustR size start ds)), .bool (true), .int .i64 (dayOr (dryR size start (setRain ds (k1).toNat k2 k3))), .int .i64 (dayOr (mustR size start (setRain ds (k1).toNat k2 k3))), .bool (true), .int .i64 (((j : Nat) : Int)), (y19 13), (y19 14), (y19 15), (y19 16), (y19 17), (y19 18), (y19 19), (y19 20), undef, undef, undef, undef, undef, undef, undef, undef, .agg #[.int .i64 (size), .int .i64 (start), .slice a n c], .bool (decide (¬ FarD size start ds ∧ ds.length ≤ 40 ∧ Ok size start ds)), .bool (!(decide (¬ FarD size start ds ∧ ds.length ≤ 40 ∧ Ok size start ds))), .bool (!(decide (¬ FarD size start ds ∧ ds.length ≤ 40 ∧ Ok size start ds))), .agg #[.int .i64 (size), .int .i64 (start), .slice a n c], .pointer (some ⟨b2, 0, none⟩), .int .i64 (k1), .bool (decide (IsDay ds k1)), .bool (!(decide (IsDay ds k1))), .bool (!(decide (IsDay ds k1))), .bool (!(decide (IsDay ds k1))), .pointer (some ⟨b2, 1, none⟩), .agg #[.int .i64 (k2), .int .i64 (k3)], .pointer (some ⟨b1, 2, none⟩), .slice a n c, .pointer (some ⟨b2, 0, none⟩), .int .i64 (k1), .pointer (some ((adr a).add ((k1).toNat * 3))), .pointer (some ((adr a).add ((k1).toNat * 3))), .agg #[.int .i64 ((ds.getD ((k1).toNat) dz).lo), .int .i64 ((ds.getD ((k1).toNat) dz).hi)], .bool (decide ((ds.getD ((k1).toNat) dz).lo ≤ k2 ∧ k2 ≤ k3 ∧ k3 ≤ (ds.getD ((k1).toNat) dz).hi)), .bool (!(decide ((ds.getD ((k1).toNat) dz).lo ≤ k2 ∧ k2 ≤ k3 ∧ k3 ≤ (ds.getD ((k1).toNat) dz).hi))), .bool (!(decide ((ds.getD ((k1).toNat) dz).lo ≤ k2 ∧ k2 ≤ k3 ∧ k3 ≤ (ds.getD ((k1).toNat) dz).hi))), undef, .agg #[.int .i64 (size), .int .i64 (start), .slice a n c], .agg #[.int .i64 (size), .int .i64 (start), .slice a15 n cp16], .pointer (some ⟨b9, 2, none⟩), .slice a15 n cp16, .pointer (some ⟨b2, 0, none⟩), .int .i64 (k1), .pointer (some ⟨b2, 1, none⟩), .agg #[.int .i64 (k2), .int .i64 (k3)], .pointer (some ((adrV (.slice a15 n cp16)).add ((k1).toNat * 3))), .pointer (some ((adrV (.slice a15 n cp16)).add ((k1).toNat * 3))), .tuple #[.int .i64 (dayOr (dryR size start ds)), .int .i64 (dayOr (mustR size start ds)), .bool (true)], .agg #[.int .i64 (size), .int .i64 (start), .slice a n c], .tuple #[.int .i64 (dayOr (dryR size start ds)), .int .i64 (dayOr (mustR size start ds)), .bool (true)], .int .i64 (dayOr (dryR size start ds)), .int .i64 (dayOr (mustR size start ds)), .bool (true), .tuple #[.int .i64 (dayOr (dryR size start (setRain ds (k1).toNat k2 k3))), .int .i64 (dayOr (mustR size start (setRain ds (k1).toNat k2 k3))), .bool (true)], .agg #[.int .i64 (size), .int .i64 (start), .slice a15 n cp16], .tuple #[.int .i64 (dayOr (dryR size start (setRain ds (k1).toNat k2 k3))), .int .i64 (dayOr (mustR size start (setRain ds (k1).toNat k2 k3))), .bool (true)], .int .i64 (dayOr (dryR size start (setRain ds (k1).toNat k2 k3))), .int .i64 (dayOr (mustR size start (setRain ds (k1).toNat k2 k3))), .bool (true), .bool (true), .bool (!true), .bool (!true), .bool (true), .bool (!true), .bool (!true), .bool (!true), .int .i64 (dayOr (dryR size start (setRain ds (k1).toNat k2 k3))), .int .i64 (dayOr (dryR size start ds)), .bool (decide (dayOr (dryR size start (setRain ds (k1).toNat k2 k3)) < dayOr (dryR size start ds))), .bool (decide (dayOr (dryR size start (setRain ds (k1).toNat k2 k3)) < dayOr (dryR size start ds))), .bool (decide (dayOr (dryR size start (setRain ds (k1).toNat k2 k3)) < dayOr (dryR size start ds))), .int .i64 (dayOr (mustR size start (setRain ds (k1).toNat k2 k3))), .int .i64 (dayOr (mustR size start ds)), .bool (decide (dayOr (mustR size start ds) < dayOr (mustR size start (setRain ds (k1).toNat k2 k3)))), .bool (decide (dayOr (mustR size start ds) < dayOr (mustR size start (setRain ds (k1).toNat k2 k3)))), (y19 91), (y19 92), (y19 93), (y19 94), (y19 95), (y19 96), (y19 97), (y19 98), (y19 99), (y19 100), (y19 101), (y19 102), (y19 103), (y19 104), (y19 105), (y19 106), (y19 107), (y19 108), (y19 109), (y19 110), (y19 111), (y19 112), (y19 113), (y19 114), (y19 115), (y19 116), (y19 117), (y19 118), (y19 119), (y19 120), (y19 121), (y19 122), (y19 123), (y19 124), (y19 125), (y19 126), (y19 127), (y19 128), (y19 129), (y19 130), (y19 131), (y19 132), (y19 133), (y19 134), (y19 135), (y19 136), (y19 137), (y19 138), (y19 139), (y19 140), (y19 141), (y19 142), (y19 143), (y19 144), (y19 145), (y19 146), (y19 147), (y19 148), (y19 149), (y19 150), (y19 151), (y19 152), (y19 153), (y19 154), (y19 155), (y19 156), (y19 157), (y19 158), (y19 159), (y19 160), (y19 161), (y19 162), (y19 163), (y19 164), (y19 165), (y19 166), (y19 167), (y19 168), (y19 169), (y19 170), (y19 171), undef, undef, undef, undef, undef, undef, undef, undef, undef, undef, undef, undef, undef, undef, undef, undef, undef, undef, undef, undef, undef, undef, undef, undef, undef, undef, undef, undef, undef, undef, undef, undef, undef, undef, undef, undef, undef, undef, undef, undef, undef, undef, undef, undef, undef, undef, undef, undef, undef, undef, undef, undef, undef, undef, undef, undef, undef, undef, undef, undef, undef, undef, undef, undef, undef, undef, undef, undef]) ∧ (j ≤ n) ∧ St h [] p14 h_ ([(b9, .cells #[.int .i64 (size), .int .i64 (start), .slice a15 n cp16] 24 (0, 0)), (b2, .cells #[.int .i64 (k1), .int .i64 (k2), .int .i64 (k3)] 60 (0, 0)), (b1, .cells #[.int .i64 (size), .int .i64 (start), .slice a n c] 24 (0, 0))])) (fun h_ H_ => ⟨0, rfl, (y_of rfl), Nat.zero_le _, H_⟩) ?_
        intro m_ tm_ IH20
        refine rs_ex fun j => rs_and fun hm_ => rs_and fun ht_ => rs_and fun hj => ?_
        subst hm_; obtain ⟨y19, ht_⟩ := ht_; subst ht_
        have hnr := fun (h_ : j < n) => narrow_day hN hOk hOk2 (k := (((j : Nat) : Int)).toNat) (by omega)
        refine fl_seq ?_
        refine fl_seq ?_
        refine rl_start ?_
        refine rl_det (met_none rfl) (fun h_ H_ => exd_move (v := .int .i64 (((j : Nat) : Int))) rfl) rfl ?_
        refine rl_det (met_none rfl) (fun h_ H_ => exd_fieldAddr tF24_2 rfl (a' := ⟨b1, 2, none⟩) rfl) rfl ?_
        refine rl_det (met_none rfl) (fun h_ H_ => exd_load_own H_ tA22 rfl (i := 2) rfl (v := .slice a n c) rfl) (tm' := _::_::_::_::_::_::_::_::_::_::_::_::_::_::_::_::_::_::_::_::_::_::_::_::_::_::_::_::_::_::_::_::_::_::_::_::_::_::_::_::_::_::_::_::_::_::_::_::_::_::_::_::_::_::_::_::_::_::_::_::_::_::_::_::_::_::_::_::_::_::_::_::_::_::_::_::_::_::_::_::_::_::_::_::_::_::_::_::_::_::_::_::_::_::_) rfl ?_
        refine rl_det (met_none rfl) (fun h_ H_ => exd_len Try.underlying22 rfl) rfl ?_
        refine rl_det (met_none rfl) (fun h_ H_ => exd_lss rfl rfl) rfl ?_
        refine rl_end ?_
        by_cases cc21 : ((j : Nat) : Int) < ((n : Nat) : Int)
        · refine fl_then rfl (decide_eq_true cc21) ?_
          refine fl_skip ?_
          refine fl_seq ?_
          refine fl_block ?_
          refine fl_seq ?_
          refine rl_start ?_
          refine rl_det (met_none rfl) (fun h_ H_ => exd_loadN_own H_ tA24 tS24 rfl (i := 2) rfl (vs := [.int .i64 (size), .int .i64 (start), .slice a n c]) rfl rfl) (tm' := _::_::_::_::_::_::_::_::_::_::_::_::_::_::_::_::_::_::_::_::_::_::_::_::_::_::_::_::_::_::_::_::_::_::_::_::_::_::_::_::_::_::_::_::_::_::_::_::_::_::_::_::_::_::_::_::_::_::_::_::_::_::_::_::_::_::_::_::_::_::_::_::_::_::_::_::_::_::_::_::_::_::_::_::_::_::_::_::_::_::_::_::_::_::_::_::_::_::_::_::_) rfl ?_
          refine rl_det (met_none rfl) (fun h_ H_ => exd_move (v := .int .i64 (((j : Nat) : Int))) rfl) rfl ?_
          refine rl_calld (met_none rfl) (first := []) (cap := []) rfl rfl fC28 (fun h_ H_ => c28ok (fun b_ o_ e_ => H_.per b_ o_ e_) (D.mono le17) (by omega) hOk ⟨by omega, by omega⟩) rfl ?_
          refine rl_det (met_none rfl) (fun h_ H_ => exd_move (v := .tuple #[.agg #[.int .i64 (levLo size start ds ((j : Nat) : Int).toNat), .int .i64 (levHi size start ds ((j : Nat) : Int).toNat)], .int .i64 0]) rfl) (tm' := _::_::_::_::_::_::_::_::_::_::_::_::_::_::_::_::_::_::_::_::_::_::_::_::_::_::_::_::_::_::_::_::_::_::_::_::_::_::_::_::_::_::_::_::_::_::_::_::_::_::_::_::_::_::_::_::_::_::_::_::_::_::_::_::_::_::_::_::_::_::_::_::_::_::_::_::_::_::_::_::_::_::_::_::_::_::_::_::_::_::_::_::_::_::_::_::_::_::_::_) rfl ?_
          refine rl_det (met_none rfl) (fun h_ H_ => exd_extract rfl (v := .agg #[.int .i64 (levLo size start ds ((j : Nat) : Int).toNat), .int .i64 (levHi size start ds ((j : Nat) : Int).toNat)]) rfl) rfl ?_
          refine rl_det (met_none rfl) (fun h_ H_ => exd_extract rfl (v := .int .i64 0) rfl) rfl ?_
          refine rl_alloc (met_none rfl) tZ36 rfl fun b22 => rl_own (L' := [(b22, .cells #[.int .i64 0, .int .i64 0] 36 (0, 0)), (b9, .cells #[.int .i64 (size), .int .i64 (start), .slice a15 n cp16] 24 (0, 0)), (b2, .cells #[.int .i64 (k1), .int .i64 (k2), .int .i64 (k3)] 60 (0, 0)), (b1, .cells #[.int .i64 (size), .int .i64 (start), .slice a n c] 24 (0, 0))]) rfl ?_
          refine rl_norm (tm' := _::_::_::_::_::_::_::_::_::_::_::_::_::_::_) rfl ?_
          refine rl_store (met_none rfl) tS36 rfl (v := .agg #[.int .i64 (levLo size start ds ((j : Nat) : Int).toNat), .int .i64 (levHi size start ds ((j : Nat) : Int).toNat)]) rfl (i := 0) rfl rfl rfl (Nat.le_of_ble_eq_true rfl) (cs2 := [.int .i64 (levLo size start ds ((j : Nat) : Int).toNat), .int .i64 (levHi size start ds ((j : Nat) : Int).toNat)]) rfl (rl_own (L' := [(b22, .cells #[.int .i64 (levLo size start ds ((j : Nat) : Int).toNat), .int .i64 (levHi size start ds ((j : Nat) : Int).toNat)] 36 (0, 0)), (b9, .cells #[.int .i64 (size), .int .i64 (start), .slice a15 n cp16] 24 (0, 0)), (b2, .cells #[.int .i64 (k1), .int .i64 (k2), .int .i64 (k3)] 60 (0, 0)), (b1, .cells #[.int .i64 (size), .int .i64 (start), .slice a n c] 24 (0, 0))]) rfl ?_)
          refine rl_det (met_none rfl) (fun h_ H_ => exd_assign (v := .int .i64 0) rfl) rfl ?_
          refine rl_end ?_
          refine fl_seq ?_
          refine rl_start ?_
          refine rl_det (met_none rfl) (fun h_ H_ => exd_loadN_own H_ tA24 tS24 rfl (i := 1) rfl (vs := [.int .i64 (size), .int .i64 (start), .slice a15 n cp16]) rfl rfl) rfl ?_
          refine rl_det (met_none rfl) (fun h_ H_ => exd_move (v := .int .i64 (((j : Nat) : Int))) rfl) (tm' := _::_::_::_::_::_::_::_::_::_::_::_::_::_::_::_::_::_::_::_::_::_::_::_::_::_::_::_::_::_::_::_::_::_::_::_::_::_::_::_::_::_::_::_::_::_::_::_::_::_::_::_::_::_::_::_::_::_::_::_::_::_::_::_::_::_::_::_::_::_::_::_::_::_::_::_::_::_::_::_::_::_::_::_::_::_::_::_::_::_::_::_::_::_::_::_::_::_::_::_::_::_::_::_::_::_::_::_) rfl ?_
          refine rl_calld (met_none rfl) (first := []) (cap := []) rfl rfl fC28 (fun h_ H_ => c28ok (fun b_ o_ e_ => H_.per b_ o_ e_) (show Days _ _ _ (setRain ds (k1).toNat k2 k3) from D18) (by omega) hOk2 ⟨by omega, by rw [setRain_length]; omega⟩) rfl ?_
          refine rl_det (met_none rfl) (fun h_ H_ => exd_move (v := .tuple #[.agg #[.int .i64 (levLo size start (setRain ds (k1).toNat k2 k3) ((j : Nat) : Int).toNat), .int .i64 (levHi size start (setRain ds (k1).toNat k2 k3) ((j : Nat) : Int).toNat)], .int .i64 0]) rfl) rfl ?_
          refine rl_det (met_none rfl) (fun h_ H_ => exd_extract rfl (v := .agg #[.int .i64 (levLo size start (setRain ds (k1).toNat k2 k3) ((j : Nat) : Int).toNat), .int .i64 (levHi size start (setRain ds (k1).toNat k2 k3) ((j : Nat) : Int).toNat)]) rfl) (tm' := _::_::_::_::_::_::_::_::_::_::_::_::_::_::_::_::_::_::_::_::_::_::_::_::_::_::_::_::_::_::_::_::_::_::_::_::_::_::_::_::_::_::_::_::_::_::_::_::_::_::_::_::_::_::_::_::_::_::_::_::_::_::_::_::_::_::_::_::_::_::_::_::_::_::_::_::_::_::_::_::_::_::_::_::_::_::_::_::_::_::_::_::_::_::_::_::_::_::_::_::_::_::_::_::_::_::_::_::_::_) rfl ?_
          refine rl_det (met_none rfl) (fun h_ H_ => exd_extract rfl (v := .int .i64 0) rfl) rfl ?_
          refine rl_alloc (met_none rfl) tZ36 rfl fun b23 => rl_own (L' := [(b23, .cells #[.int .i64 0, .int .i64 0] 36 (0, 0)), (b22, .cells #[.int .i64 (levLo size start ds ((j : Nat) : Int).toNat), .int .i64 (levHi size start ds ((j : Nat) : Int).toNat)] 36 (0, 0)), (b9, .cells #[.int .i64 (size), .int .i64 (start), .slice a15 n cp16] 24 (0, 0)), (b2, .cells #[.int .i64 (k1), .int .i64 (k2), .int .i64 (k3)] 60 (0, 0)), (b1, .cells #[.int .i64 (size), .int .i64 (start), .slice a n c] 24 (0, 0))]) rfl ?_
          refine rl_store (met_none rfl) tS36 rfl (v := .agg #[.int .i64 (levLo size start (setRain ds (k1).toNat k2 k3) ((j : Nat) : Int).toNat), .int .i64 (levHi size start (setRain ds (k1).toNat k2 k3) ((j : Nat) : Int).toNat)]) rfl (i := 0) rfl rfl rfl (Nat.le_of_ble_eq_true rfl) (cs2 := [.int .i64 (levLo size start (setRain ds (k1).toNat k2 k3) ((j : Nat) : Int).toNat), .int .i64 (levHi size start (setRain ds (k1).toNat k2 k3) ((j : Nat) : Int).toNat)]) rfl (rl_own (L' := [(b23, .cells #[.int .i64 (levLo size start (setRain ds (k1).toNat k2 k3) ((j : Nat) : Int).toNat), .int .i64 (levHi size start (setRain ds (k1).toNat k2 k3) ((j : Nat) : Int).toNat)] 36 (0, 0)), (b22, .cells #[.int .i64 (levLo size start ds ((j : Nat) : Int).toNat), .int .i64 (levHi size start ds ((j : Nat) : Int).toNat)] 36 (0, 0)), (b9, .cells #[.int .i64 (size), .int .i64 (start), .slice a15 n cp16] 24 (0, 0)), (b2, .cells #[.int .i64 (k1), .int .i64 (k2), .int .i64 (k3)] 60 (0, 0)), (b1, .cells #[.int .i64 (size), .int .i64 (start), .slice a n c] 24 (0, 0))]) rfl ?_)
          refine rl_det (met_none rfl) (fun h_ H_ => exd_assign (v := .int .i64 0) rfl) (tm' := _::_::_::_::_::_::_::_::_::_::_::_::_::_::_::_::_::_) rfl ?_
          refine rl_end ?_
          refine fl_seq ?_
          refine rl_start ?_
          refine rl_det (met_none rfl) (fun h_ H_ => exd_loadN_own H_ tA24 tS24 rfl (i := 4) rfl (vs := [.int .i64 (size), .int .i64 (start), .slice a n c]) rfl rfl) rfl ?_
          refine rl_det (met_none rfl) (fun h_ H_ => exd_move (v := .int .i64 (((j : Nat) : Int))) rfl) rfl ?_
          refine rl_calld (met_none rfl) (first := []) (cap := []) rfl rfl fC41 (fun h_ H_ => c41ok (fun b_ o_ e_ => H_.per b_ o_ e_) (D.mono le17) (by omega) hOk ⟨by omega, by omega⟩) (tm' := _::_::_::_::_::_::_::_::_::_::_::_::_::_::_::_::_::_::_::_::_::_::_::_::_::_::_::_::_::_::_::_::_::_::_::_::_::_::_::_::_::_::_::_::_::_::_::_::_::_::_::_::_::_::_::_::_::_::_::_::_::_::_::_::_::_::_::_::_::_::_::_::_::_::_::_::_::_::_::_::_::_::_::_::_::_::_::_::_::_::_::_::_::_::_::_::_::_::_::_::_::_::_::_::_::_::_::_::_::_::_::_::_::_::_) rfl ?_
          refine rl_det (met_none rfl) (fun h_ H_ => exd_move (v := .tuple #[.agg #[.int .i64 (lackLo size start ds ((j : Nat) : Int).toNat), .int .i64 (lackHi size start ds ((j : Nat) : Int).toNat)], .int .i64 0]) rfl) rfl ?_
          refine rl_det (met_none rfl) (fun h_ H_ => exd_extract rfl (v := .agg #[.int .i64 (lackLo size start ds ((j : Nat) : Int).toNat), .int .i64 (lackHi size start ds ((j : Nat) : Int).toNat)]) rfl) rfl ?_
          refine rl_det (met_none rfl) (fun h_ H_ => exd_extract rfl (v := .int .i64 0) rfl) (tm' := _::_::_::_::_::_::_::_::_::_::_::_::_::_::_::_::_::_::_::_::_::_::_::_::_::_::_::_::_::_::_::_::_::_::_::_::_::_::_::_::_::_::_::_::_::_::_::_::_::_::_::_::_::_::_::_::_::_::_::_::_::_::_::_::_::_::_::_::_::_::_::_::_::_::_::_::_::_::_::_::_::_::_::_::_::_::_::_::_::_::_::_::_::_::_::_::_::_::_::_::_::_::_::_::_::_::_::_::_::_::_::_::_::_::_::_::_) rfl ?_
          refine rl_alloc (met_none rfl) tZ36 rfl fun b24 => rl_own (L' := [(b24, .cells #[.int .i64 0, .int .i64 0] 36 (0, 0)), (b23, .cells #[.int .i64 (levLo size start (setRain ds (k1).toNat k2 k3) ((j : Nat) : Int).toNat), .int .i64 (levHi size start (setRain ds (k1).toNat k2 k3) ((j : Nat) : Int).toNat)] 36 (0, 0)), (b22, .cells #[.int .i64 (levLo size start ds ((j : Nat) : Int).toNat), .int .i64 (levHi size start ds ((j : Nat) : Int).toNat)] 36 (0, 0)), (b9, .cells #[.int .i64 (size), .int .i64 (start), .slice a15 n cp16] 24 (0, 0)), (b2, .cells #[.int .i64 (k1), .int .i64 (k2), .int .i64 (k3)] 60 (0, 0)), (b1, .cells #[.int .i64 (size), .int .i64 (start), .slice a n c] 24 (0, 0))]) rfl ?_
          refine rl_store (met_none rfl) tS36 rfl (v := .agg #[.int .i64 (lackLo size start ds ((j : Nat) : Int).toNat), .int .i64 (lackHi size start ds ((j : Nat) : Int).toNat)]) rfl (i := 0) rfl rfl rfl (Nat.le_of_ble_eq_true rfl) (cs2 := [.int .i64 (lackLo size start ds ((j : Nat) : Int).toNat), .int .i64 (lackHi size start ds ((j : Nat) : Int).toNat)]) rfl (rl_own (L' := [(b24, .cells #[.int .i64 (lackLo size start ds ((j : Nat) : Int).toNat), .int .i64 (lackHi size start ds ((j : Nat) : Int).toNat)] 36 (0, 0)), (b23, .cells #[.int .i64 (levLo size start (setRain ds (k1).toNat k2 k3) ((j : Nat) : Int).toNat), .int .i64 (levHi size start (setRain ds (k1).toNat k2 k3) ((j : Nat) : Int).toNat)] 36 (0, 0)), (b22, .cells #[.int .i64 (levLo size start ds ((j : Nat) : Int).toNat), .int .i64 (levHi size start ds ((j : Nat) : Int).toNat)] 36 (0, 0)), (b9, .cells #[.int .i64 (size), .int .i64 (start), .slice a15 n cp16] 24 (0, 0)), (b2, .cells #[.int .i64 (k1), .int .i64 (k2), .int .i64 (k3)] 60 (0, 0)), (b1, .cells #[.int .i64 (size), .int .i64 (start), .slice a n c] 24 (0, 0))]) rfl ?_)
          refine rl_det (met_none rfl) (fun h_ H_ => exd_assign (v := .int .i64 0) rfl) rfl ?_
          refine rl_end ?_
          refine fl_seq ?_
          refine rl_start ?_
          refine rl_det (met_none rfl) (fun h_ H_ => exd_loadN_own H_ tA24 tS24 rfl (i := 3) rfl (vs := [.int .i64 (size), .int .i64 (start), .slice a15 n cp16]) rfl rfl) (tm' := _::_::_::_::_::_::_::_::_::_::_::_::_::_::_::_::_::_::_::_::_::_::_::_::_::_::_::_::_::_::_::_::_::_::_::_::_::_::_::_::_::_::_::_::_::_::_::_::_::_::_::_::_::_::_::_::_::_::_::_::_::_::_::_::_::_::_::_::_::_::_::_::_::_::_::_::_::_::_::_::_::_::_::_::_::_::_::_::_::_::_::_::_::_::_::_::_::_::_::_::_::_::_::_::_::_::_::_::_::_::_::_::_::_::_::_::_::_::_) rfl ?_
          refine rl_det (met_none rfl) (fun h_ H_ => exd_move (v := .int .i64 (((j : Nat) : Int))) rfl) rfl ?_
          refine rl_calld (met_none rfl) (first := []) (cap := []) rfl rfl fC41 (fun h_ H_ => c41ok (fun b_ o_ e_ => H_.per b_ o_ e_) (show Days _ _ _ (setRain ds (k1).toNat k2 k3) from D18) (by omega) hOk2 ⟨by omega, by rw [setRain_length]; omega⟩) rfl ?_
          refine rl_det (met_none rfl) (fun h_ H_ => exd_move (v := .tuple #[.agg #[.int .i64 (lackLo size start (setRain ds (k1).toNat k2 k3) ((j : Nat) : Int).toNat), .int .i64 (lackHi size start (setRain ds (k1).toNat k2 k3) ((j : Nat) : Int).toNat)], .int .i64 0]) rfl) (tm' := _::_::_::_::_::_::_::_::_::_::_::_::_::_::_::_::_::_::_::_::_::_::_::_::_::_::_::_::_::_::_::_::_::_::_::_::_::_::_::_::_::_::_::_::_::_::_::_::_::_::_::_::_::_::_::_::_::_::_::_::_::_::_::_::_::_::_::_::_::_::_::_::_::_::_::_::_::_::_::_::_::_::_::_::_::_::_::_::_::_::_::_::_::_::_::_::_::_::_::_::_::_::_::_::_::_::_::_::_::_::_::_::_::_::_::_::_::_) rfl ?_
          refine rl_det (met_none rfl) (fun h_ H_ => exd_extract rfl (v := .agg #[.int .i64 (lackLo size start (setRain ds (k1).toNat k2 k3) ((j : Nat) : Int).toNat), .int .i64 (lackHi size start (setRain ds (k1).toNat k2 k3) ((j : Nat) : Int).toNat)]) rfl) rfl ?_
          refine rl_det (met_none rfl) (fun h_ H_ => exd_extract rfl (v := .int .i64 0) rfl) rfl ?_
          refine rl_alloc (met_none rfl) tZ36 rfl fun b25 => rl_own (L' := [(b25, .cells #[.int .i64 0, .int .i64 0] 36 (0, 0)), (b24, .cells #[.int .i64 (lackLo size start ds ((j : Nat) : Int).toNat), .int .i64 (lackHi size start ds ((j : Nat) : Int).toNat)] 36 (0, 0)), (b23, .cells #[.int .i64 (levLo size start (setRain ds (k1).toNat k2 k3) ((j : Nat) : Int).toNat), .int .i64 (levHi size start (setRain ds (k1).toNat k2 k3) ((j : Nat) : Int).toNat)] 36 (0, 0)), (b22, .cells #[.int .i64 (levLo size start ds ((j : Nat) : Int).toNat), .int .i64 (levHi size start ds ((j : Nat) : Int).toNat)] 36 (0, 0)), (b9, .cells #[.int .i64 (size), .int .i64 (start), .slice a15 n cp16] 24 (0, 0)), (b2, .cells #[.int .i64 (k1), .int .i64 (k2), .int .i64 (k3)] 60 (0, 0)), (b1, .cells #[.int .i64 (size), .int .i64 (start), .slice a n c] 24 (0, 0))]) rfl ?_
          refine rl_norm (tm' := _::_::_::_::_::_::_::_::_::_::_::_::_::_::_::_::_::_::_::_::_) rfl ?_
          refine rl_store (met_none rfl) tS36 rfl (v := .agg #[.int .i64 (lackLo size start (setRain ds (k1).toNat k2 k3) ((j : Nat) : Int).toNat), .int .i64 (lackHi size start (setRain ds (k1).toNat k2 k3) ((j : Nat) : Int).toNat)]) rfl (i := 0) rfl rfl rfl (Nat.le_of_ble_eq_true rfl) (cs2 := [.int .i64 (lackLo size start (setRain ds (k1).toNat k2 k3) ((j : Nat) : Int).toNat), .int .i64 (lackHi size start (setRain ds (k1).toNat k2 k3) ((j : Nat) : Int).toNat)]) rfl (rl_own (L' := [(b25, .cells #[.int .i64 (lackLo size start (setRain ds (k1).toNat k2 k3) ((j : Nat) : Int).toNat), .int .i64 (lackHi size start (setRain ds (k1).toNat k2 k3) ((j : Nat) : Int).toNat)] 36 (0, 0)), (b24, .cells #[.int .i64 (lackLo size start ds ((j : Nat) : Int).toNat), .int .i64 (lackHi size start ds ((j : Nat) : Int).toNat)] 36 (0, 0)), (b23, .cells #[.int .i64 (levLo size start (setRain ds (k1).toNat k2 k3) ((j : Nat) : Int).toNat), .int .i64 (levHi size start (setRain ds (k1).toNat k2 k3) ((j : Nat) : Int).toNat)] 36 (0, 0)), (b22, .cells #[.int .i64 (levLo size start ds ((j : Nat) : Int).toNat), .int .i64 (levHi size start ds ((j : Nat) : Int).toNat)] 36 (0, 0)), (b9, .cells #[.int .i64 (size), .int .i64 (start), .slice a15 n cp16] 24 (0, 0)), (b2, .cells #[.int .i64 (k1), .int .i64 (k2), .int .i64 (k3)] 60 (0, 0)), (b1, .cells #[.int .i64 (size), .int .i64 (start), .slice a n c] 24 (0, 0))]) rfl ?_)
          refine rl_det (met_none rfl) (fun h_ H_ => exd_assign (v := .int .i64 0) rfl) rfl ?_
          refine rl_end ?_
          refine fl_seq ?_
          refine fl_seq ?_
          refine rl_start ?_
          refine rl_det (met_none rfl) (fun h_ H_ => exd_move (v := .int .i64 0) rfl) rfl ?_
          refine rl_det (met_none rfl) (fun h_ H_ => exd_neq rfl rfl) (tm' := _::_::_::_::_::_::_::_::_::_::_::_::_::_::_::_::_::_::_::_::_::_::_::_::_::_::_::_::_::_::_::_::_::_::_::_::_::_::_::_::_::_::_::_::_::_::_::_::_::_::_::_::_::_::_::_::_::_::_::_::_::_::_::_::_::_::_::_::_::_::_::_::_::_::_::_::_::_::_::_::_::_::_::_::_::_::_::_::_::_::_::_::_::_::_::_::_::_::_::_::_::_::_::_::_::_::_::_::_::_::_::_::_::_::_::_::_::_::_::_::_::_::_::_::_) rfl ?_
          refine rl_det (met_none rfl) (fun h_ H_ => exd_move (v := .bool (decide ((0 : Int) ≠ 0))) rfl) rfl ?_
          refine rl_det (met_some rfl rfl (decide_eq_false (fun h_ => h_ rfl))) (fun h_ H_ => exd_move (v := .int .i64 0) rfl) rfl ?_
          refine rl_det (met_some rfl rfl (decide_eq_false (fun h_ => h_ rfl))) (fun h_ H_ => exd_neq rfl rfl) (tm' := _::_::_::_::_::_::_::_::_::_::_::_::_::_::_::_::_::_::_::_::_::_::_::_::_::_::_::_::_::_::_::_::_::_::_::_::_::_::_::_::_::_::_::_::_::_::_::_::_::_::_::_::_::_::_::_::_::_::_::_::_::_::_::_::_::_::_::_::_::_::_::_::_::_::_::_::_::_::_::_::_::_::_::_::_::_::_::_::_::_::_::_::_::_::_::_::_::_::_::_::_::_::_::_::_::_::_::_::_::_::_::_::_::_::_::_::_::_::_::_::_::_::_::_::_::_::_::_) rfl ?_
          refine rl_det (met_none rfl) (fun h_ H_ => exd_pick_f rfl (decide_eq_false (fun h_ => h_ rfl)) (v := .bool (decide ((0 : Int) ≠ 0))) rfl) rfl ?_
          refine rl_det (met_none rfl) (fun h_ H_ => exd_move (v := .bool (decide ((0 : Int) ≠ 0))) rfl) rfl ?_
          refine rl_det (met_some rfl rfl (decide_eq_false (fun h_ => h_ rfl))) (fun h_ H_ => exd_move (v := .int .i64 0) rfl) (tm' := _::_::_::_::_::_::_::_::_::_::_::_::_::_::_::_::_::_::_::_::_::_::_::_::_::_::_::_::_::_::_::_::_::_::_::_::_::_::_::_::_::_::_::_::_::_::_::_::_::_::_::_::_::_::_::_::_::_::_::_::_::_::_::_::_::_::_::_::_::_::_::_::_::_::_::_::_::_::_::_::_::_::_::_::_::_::_::_::_::_::_::_::_::_::_::_::_::_::_::_::_::_::_::_::_::_::_::_::_::_::_::_::_::_::_::_::_::_::_::_::_::_::_::_::_::_::_::_::_::_::_) rfl ?_
          refine rl_det (met_some rfl rfl (decide_eq_false (fun h_ => h_ rfl))) (fun h_ H_ => exd_neq rfl rfl) rfl ?_
          refine rl_det (met_none rfl) (fun h_ H_ => exd_pick_f rfl (decide_eq_false (fun h_ => h_ rfl)) (v := .bool (decide ((0 : Int) ≠ 0))) rfl) rfl ?_
          refine rl_det (met_none rfl) (fun h_ H_ => exd_move (v := .bool (decide ((0 : Int) ≠ 0))) rfl) (tm' := _::_::_::_::_::_::_::_::_::_::_::_::_::_::_::_::_::_::_::_::_::_::_::_::_::_::_::_::_::_::_::_::_::_::_::_::_::_::_::_::_::_::_::_::_::_::_::_::_::_::_::_::_::_::_::_::_::_::_::_::_::_::_::_::_::_::_::_::_::_::_::_::_::_::_::_::_::_::_::_::_::_::_::_::_::_::_::_::_::_::_::_::_::_::_::_::_::_::_::_::_::_::_::_::_::_::_::_::_::_::_::_::_::_::_::_::_::_::_::_::_::_::_::_::_::_::_::_::_::_::_::_::_::_) rfl ?_
          refine rl_det (met_some rfl rfl (decide_eq_false (fun h_ => h_ rfl))) (fun h_ H_ => exd_move (v := .int .i64 0) rfl) rfl ?_
          refine rl_det (met_some rfl rfl (decide_eq_false (fun h_ => h_ rfl))) (fun h_ H_ => exd_neq rfl rfl) rfl ?_
          refine rl_det (met_none rfl) (fun h_ H_ => exd_pick_f rfl (decide_eq_false (fun h_ => h_ rfl)) (v := .bool (decide ((0 : Int) ≠ 0))) rfl) (tm' := _::_::_::_::_::_::_::_::_::_::_::_::_::_::_::_::_::_::_::_::_::_::_::_::_::_::_::_::_::_::_::_::_::_::_::_::_::_::_::_::_::_::_::_::_::_::_::_::_::_::_::_::_::_::_::_::_::_::_::_::_::_::_::_::_::_::_::_::_::_::_::_::_::_::_::_::_::_::_::_::_::_::_::_::_::_::_::_::_::_::_::_::_::_::_::_::_::_::_::_::_::_::_::_::_::_::_::_::_::_::_::_::_::_::_::_::_::_::_::_::_::_::_::_::_::_::_::_::_::_::_::_::_::_::_::_::_) rfl ?_
          refine rl_det (met_none rfl) (fun h_ H_ => exd_move (v := .bool (decide ((0 : Int) ≠ 0))) rfl) rfl ?_
          refine rl_det (met_some rfl rfl (decide_eq_false (fun h_ => h_ rfl))) (fun h_ H_ => exd_loadN_own H_ tA36 tS36 rfl (i := 2) rfl (vs := [.int .i64 (levLo size start (setRain ds (k1).toNat k2 k3) ((j : Nat) : Int).toNat), .int .i64 (levHi size start (setRain ds (k1).toNat k2 k3) ((j : Nat) : Int).toNat)]) rfl rfl) rfl ?_
          refine rl_det (met_some rfl rfl (decide_eq_false (fun h_ => h_ rfl))) (fun h_ H_ => exd_loadN_own H_ tA36 tS36 rfl (i := 3) rfl (vs := [.int .i64 (levLo size start ds ((j : Nat) : Int).toNat), .int .i64 (levHi size start ds ((j : Nat) : Int).toNat)]) rfl rfl) (tm' := _::_::_::_::_::_::_::_::_::_::_::_::_::_::_::_::_::_::_::_::_::_::_::_::_::_::_::_::_::_::_::_::_::_::_::_::_::_::_::_::_::_::_::_::_::_::_::_::_::_::_::_::_::_::_::_::_::_::_::_::_::_::_::_::_::_::_::_::_::_::_::_::_::_::_::_::_::_::_::_::_::_::_::_::_::_::_::_::_::_::_::_::_::_::_::_::_::_::_::_::_::_::_::_::_::_::_::_::_::_::_::_::_::_::_::_::_::_::_::_::_::_::_::_::_::_::_::_::_::_::_::_::_::_::_::_::_::_::_::_) rfl ?_
          refine rl_calld (met_some rfl rfl (decide_eq_false (fun h_ => h_ rfl))) (first := []) (cap := []) rfl rfl fC59 (fun h_ H_ => c59 (.main true) _ (levLo size start (setRain ds (k1).toNat k2 k3) ((j : Nat) : Int).toNat) (levHi size start (setRain ds (k1).toNat k2 k3) ((j : Nat) : Int).toNat) (levLo size start ds ((j : Nat) : Int).toNat) (levHi size start ds ((j : Nat) : Int).toNat)) rfl ?_
          refine rl_det (met_some rfl rfl (decide_eq_false (fun h_ => h_ rfl))) (fun h_ H_ => exd_not rfl) rfl ?_
          refine rl_det (met_none rfl) (fun h_ H_ => exd_pick_f rfl (decide_eq_false (fun h_ => h_ rfl)) (v := .bool (!(decide (levLo size start ds ((j : Nat) : Int).toNat ≤ levLo size start (setRain ds (k1).toNat k2 k3) ((j : Nat) : Int).toNat ∧ levLo size start (setRain ds (k1).toNat k2 k3) ((j : Nat) : Int).toNat ≤ levHi size start (setRain ds (k1).toNat k2 k3) ((j : Nat) : Int).toNat ∧ levHi size start (setRain ds (k1).toNat k2 k3) ((j : Nat) : Int).toNat ≤ levHi size start ds ((j : Nat) : Int).toNat)))) rfl) (tm' := _::_::_::_::_::_::_::_::_::_::_::_::_::_::_::_::_::_::_::_::_::_::_::_::_::_::_::_::_::_::_::_::_::_::_::_::_::_::_::_::_::_::_::_::_::_::_::_::_::_::_::_::_::_::_::_::_::_::_::_::_::_::_::_::_::_::_::_::_::_::_::_::_::_::_::_::_::_::_::_::_::_::_::_::_::_::_::_::_::_::_::_::_::_::_::_::_::_::_::_::_::_::_::_::_::_::_::_::_::_::_::_::_::_::_::_::_::_::_::_::_::_::_::_::_::_::_::_::_::_::_::_::_::_::_::_::_::_::_::_::_::_::_) rfl ?_
          refine rl_det (met_none rfl) (fun h_ H_ => exd_move (v := .bool (!(decide (levLo size start ds ((j : Nat) : Int).toNat ≤ levLo size start (setRain ds (k1).toNat k2 k3) ((j : Nat) : Int).toNat ∧ levLo size start (setRain ds (k1).toNat k2 k3) ((j : Nat) : Int).toNat ≤ levHi size start (setRain ds (k1).toNat k2 k3) ((j : Nat) : Int).toNat ∧ levHi size start (setRain ds (k1).toNat k2 k3) ((j : Nat) : Int).toNat ≤ levHi size start ds ((j : Nat) : Int).toNat)))) rfl) rfl ?_
          refine rl_det (met_some rfl rfl (not_f (decide_eq_true (hnr (by omega)).1))) (fun h_ H_ => exd_loadN_own H_ tA36 tS36 rfl (i := 0) rfl (vs := [.int .i64 (lackLo size start (setRain ds (k1).toNat k2 k3) ((j : Nat) : Int).toNat), .int .i64 (lackHi size start (setRain ds (k1).toNat k2 k3) ((j : Nat) : Int).toNat)]) rfl rfl) rfl ?_
          refine rl_det (met_some rfl rfl (not_f (decide_eq_true (hnr (by omega)).1))) (fun h_ H_ => exd_loadN_own H_ tA36 tS36 rfl (i := 1) rfl (vs := [.int .i64 (lackLo size start ds ((j : Nat) : Int).toNat), .int .i64 (lackHi size start ds ((j : Nat) : Int).toNat)]) rfl rfl) (tm' := _::_::_::_::_::_::_::_::_::_::_::_::_::_::_::_::_::_::_::_::_::_::_::_::_::_::_::_::_::_::_::_::_::_::_::_::_::_::_::_::_::_::_::_::_::_::_::_::_::_::_::_::_::_::_::_::_::_::_::_::_::_::_::_::_::_::_::_::_::_::_::_::_::_::_::_::_::_::_::_::_::_::_::_::_::_::_::_::_::_::_::_::_::_::_::_::_::_::_::_::_::_::_::_::_::_::_::_::_::_::_::_::_::_::_::_::_::_::_::_::_::_::_::_::_::_::_::_::_::_::_::_::_::_::_::_::_::_::_::_::_::_::_::_::_::_) rfl ?_
          refine rl_calld (met_some rfl rfl (not_f (decide_eq_true (hnr (by omega)).1))) (first := []) (cap := []) rfl rfl fC59 (fun h_ H_ => c59 (.main true) _ (lackLo size start (setRain ds (k1).toNat k2 k3) ((j : Nat) : Int).toNat) (lackHi size start (setRain ds (k1).toNat k2 k3) ((j : Nat) : Int).toNat) (lackLo size start ds ((j : Nat) : Int).toNat) (lackHi size start ds ((j : Nat) : Int).toNat)) rfl ?_
          refine rl_det (met_some rfl rfl (not_f (decide_eq_true (hnr (by omega)).1))) (fun h_ H_ => exd_not rfl) rfl ?_
          refine rl_det (met_none rfl) (fun h_ H_ => exd_pick_f rfl (not_f (decide_eq_true (hnr (by omega)).1)) (v := .bool (!(decide (lackLo size start ds ((j : Nat) : Int).toNat ≤ lackLo size start (setRain ds (k1).toNat k2 k3) ((j : Nat) : Int).toNat ∧ lackLo size start (setRain ds (k1).toNat k2 k3) ((j : Nat) : Int).toNat ≤ lackHi size start (setRain ds (k1).toNat k2 k3) ((j : Nat) : Int).toNat ∧ lackHi size start (setRain ds (k1).toNat k2 k3) ((j : Nat) : Int).toNat ≤ lackHi size start ds ((j : Nat) : Int).toNat)))) rfl) (tm' := _::_::_::_::_::_::_::_::_::_::_::_::_::_::_::_::_::_::_::_::_::_::_::_::_::_::_::_::_::_::_::_::_::_::_::_::_::_::_::_::_::_::_::_::_::_::_::_::_::_::_::_::_::_::_::_::_::_::_::_::_::_::_::_::_::_::_::_::_::_::_::_::_::_::_::_::_::_::_::_::_::_::_::_::_::_::_::_::_::_::_::_::_::_::_::_::_::_::_::_::_::_::_::_::_::_::_::_::_::_::_::_::_::_::_::_::_::_::_::_::_::_::_::_::_::_::_::_::_::_::_::_::_::_::_::_::_::_::_::_::_::_::_::_::_::_::_::_::_) rfl ?_
          refine rl_end ?_
          refine fl_else rfl (not_f (decide_eq_true (hnr (by omega)).2.1)) ?_
          refine fl_skip ?_
          refine fl_seq ?_
          refine rl_start ?_
          refine rl_det (met_none rfl) (fun h_ H_ => exd_loadN_own H_ tA24 tS24 rfl (i := 6) rfl (vs := [.int .i64 (size), .int .i64 (start), .slice a n c]) rfl rfl) rfl ?_
          refine rl_det (met_none rfl) (fun h_ H_ => exd_move (v := .int .i64 (((j : Nat) : Int))) rfl) rfl ?_
          refine rl_calld (met_none rfl) (first := []) (cap := []) rfl rfl fC43 (fun h_ H_ => c43ok (fun b_ o_ e_ => H_.per b_ o_ e_) (D.mono le17) (by omega) hOk ⟨by omega, by omega⟩) (tm' := _::_::_::_::_::_::_::_::_::_::_::_::_::_::_::_::_::_::_::_::_::_::_::_::_::_::_::_::_::_::_::_::_::_::_::_::_::_::_::_::_::_::_::_::_::_::_::_::_::_::_::_::_::_::_::_::_::_::_::_::_::_::_::_::_::_::_::_::_::_::_::_::_::_::_::_::_::_::_::_::_::_::_::_::_::_::_::_::_::_::_::_::_::_::_::_::_::_::_::_::_::_::_::_::_::_::_::_::_::_::_::_::_::_::_::_::_::_::_::_::_::_::_::_::_::_::_::_::_::_::_::_::_::_::_::_::_::_::_::_::_::_::_::_::_::_::_::_::_::_::_::_::_) rfl ?_
          refine rl_det (met_none rfl) (fun h_ H_ => exd_move (v := .tuple #[.agg #[.int .i64 (overLo size start ds ((j : Nat) : Int).toNat), .int .i64 (overHi size start ds ((j : Nat) : Int).toNat)], .int .i64 0]) rfl) rfl ?_
          refine rl_det (met_none rfl) (fun h_ H_ => exd_extract rfl (v := .agg #[.int .i64 (overLo size start ds ((j : Nat) : Int).toNat), .int .i64 (overHi size start ds ((j : Nat) : Int).toNat)]) rfl) rfl ?_
          refine rl_det (met_none rfl) (fun h_ H_ => exd_extract rfl (v := .int .i64 0) rfl) (tm' := _::_::_::_::_::_::_::_::_::_::_::_::_::_::_::_::_::_::_::_::_::_::_::_::_::_::_::_::_::_::_::_::_::_::_::_::_::_::_::_::_::_::_::_::_::_::_::_::_::_::_::_::_::_::_::_::_::_::_::_::_::_::_::_::_::_::_::_::_::_::_::_::_::_::_::_::_::_::_::_::_::_::_::_::_::_::_::_::_::_::_::_::_::_::_::_::_::_::_::_::_::_::_::_::_::_::_::_::_::_::_::_::_::_::_::_::_::_::_::_::_::_::_::_::_::_::_::_::_::_::_::_::_::_::_::_::_::_::_::_::_::_::_::_::_::_::_::_::_::_::_::_::_::_::_) rfl ?_
          refine rl_store (met_none rfl) tS36 rfl (v := .agg #[.int .i64 (overLo size start ds ((j : Nat) : Int).toNat), .int .i64 (overHi size start ds ((j : Nat) : Int).toNat)]) rfl (i := 3) rfl rfl rfl (Nat.le_of_ble_eq_true rfl) (cs2 := [.int .i64 (overLo size start ds ((j : Nat) : Int).toNat), .int .i64 (overHi size start ds ((j : Nat) : Int).toNat)]) rfl (rl_own (L' := [(b25, .cells #[.int .i64 (lackLo size start (setRain ds (k1).toNat k2 k3) ((j : Nat) : Int).toNat), .int .i64 (lackHi size start (setRain ds (k1).toNat k2 k3) ((j : Nat) : Int).toNat)] 36 (0, 0)), (b24, .cells #[.int .i64 (lackLo size start ds ((j : Nat) : Int).toNat), .int .i64 (lackHi size start ds ((j : Nat) : Int).toNat)] 36 (0, 0)), (b23, .cells #[.int .i64 (levLo size start (setRain ds (k1).toNat k2 k3) ((j : Nat) : Int).toNat), .int .i64 (levHi size start (setRain ds (k1).toNat k2 k3) ((j : Nat) : Int).toNat)] 36 (0, 0)), (b22, .cells #[.int .i64 (overLo size start ds ((j : Nat) : Int).toNat), .int .i64 (overHi size start ds ((j : Nat) : Int).toNat)] 36 (0, 0)), (b9, .cells #[.int .i64 (size), .int .i64 (start), .slice a15 n cp16] 24 (0, 0)), (b2, .cells #[.int .i64 (k1), .int .i64 (k2), .int .i64 (k3)] 60 (0, 0)), (b1, .cells #[.int .i64 (size), .int .i64 (start), .slice a n c] 24 (0, 0))]) rfl ?_)
          refine rl_det (met_none rfl) (fun h_ H_ => exd_assign (v := .int .i64 0) rfl) rfl ?_
          refine rl_end ?_
          refine fl_seq ?_
          refine rl_start ?_
          refine rl_det (met_none rfl) (fun h_ H_ => exd_loadN_own H_ tA24 tS24 rfl (i := 4) rfl (vs := [.int .i64 (size), .int .i64 (start), .slice a15 n cp16]) rfl rfl) rfl ?_
          refine rl_det (met_none rfl) (fun h_ H_ => exd_move (v := .int .i64 (((j : Nat) : Int))) rfl) (tm' := _::_::_::_::_::_::_::_::_::_::_::_::_::_::_::_::_::_::_::_::_::_::_::_::_::_::_::_::_::_::_::_::_::_::_::_::_::_::_::_::_::_::_::_::_::_::_::_::_::_::_::_::_::_::_::_::_::_::_::_::_::_::_::_::_::_::_::_::_::_::_::_::_::_::_::_::_::_::_::_::_::_::_::_::_::_::_::_::_::_::_::_::_::_::_::_::_::_::_::_::_::_::_::_::_::_::_::_::_::_::_::_::_::_::_::_::_::_::_::_::_::_::_::_::_::_::_::_::_::_::_::_::_::_::_::_::_::_::_::_::_::_::_::_::_::_::_::_::_::_::_::_::_::_::_::_::_::_) rfl ?_
          refine rl_calld (met_none rfl) (first := []) (cap := []) rfl rfl fC43 (fun h_ H_ => c43ok (fun b_ o_ e_ => H_.per b_ o_ e_) (show Days _ _ _ (setRain ds (k1).toNat k2 k3) from D18) (by omega) hOk2 ⟨by omega, by rw [setRain_length]; omega⟩) rfl ?_
          refine rl_det (met_none rfl) (fun h_ H_ => exd_move (v := .tuple #[.agg #[.int .i64 (overLo size start (setRain ds (k1).toNat k2 k3) ((j : Nat) : Int).toNat), .int .i64 (overHi size start (setRain ds (k1).toNat k2 k3) ((j : Nat) : Int).toNat)], .int .i64 0]) rfl) rfl ?_
          refine rl_det (met_none rfl) (fun h_ H_ => exd_extract rfl (v := .agg #[.int .i64 (overLo size start (setRain ds (k1).toNat k2 k3) ((j : Nat) : Int).toNat), .int .i64 (overHi size start (setRain ds (k1).toNat k2 k3) ((j : Nat) : Int).toNat)]) rfl) (tm' := _::_::_::_::_::_::_::_::_::_::_::_::_::_::_::_::_::_::_::_::_::_::_::_::_::_::_::_::_::_::_::_::_::_::_::_::_::_::_::_::_::_::_::_::_::_::_::_::_::_::_::_::_::_::_::_::_::_::_::_::_::_::_::_::_::_::_::_::_::_::_::_::_::_::_::_::_::_::_::_::_::_::_::_::_::_::_::_::_::_::_::_::_::_::_::_::_::_::_::_::_::_::_::_::_::_::_::_::_::_::_::_::_::_::_::_::_::_::_::_::_::_::_::_::_::_::_::_::_::_::_::_::_::_::_::_::_::_::_::_::_::_::_::_::_::_::_::_::_::_::_::_::_::_::_::_::_::_::_::_) rfl ?_
          refine rl_det (met_none rfl) (fun h_ H_ => exd_extract rfl (v := .int .i64 0) rfl) rfl ?_
          refine rl_store (met_none rfl) tS36 rfl (v := .agg #[.int .i64 (overLo size start (setRain ds (k1).toNat k2 k3) ((j : Nat) : Int).toNat), .int .i64 (overHi size start (setRain ds (k1).toNat k2 k3) ((j : Nat) : Int).toNat)]) rfl (i := 2) rfl rfl rfl (Nat.le_of_ble_eq_true rfl) (cs2 := [.int .i64 (overLo size start (setRain ds (k1).toNat k2 k3) ((j : Nat) : Int).toNat), .int .i64 (overHi size start (setRain ds (k1).toNat k2 k3) ((j : Nat) : Int).toNat)]) rfl (rl_own (L' := [(b25, .cells #[.int .i64 (lackLo size start (setRain ds (k1).toNat k2 k3) ((j : Nat) : Int).toNat), .int .i64 (lackHi size start (setRain ds (k1).toNat k2 k3) ((j : Nat) : Int).toNat)] 36 (0, 0)), (b24, .cells #[.int .i64 (lackLo size start ds ((j : Nat) : Int).toNat), .int .i64 (lackHi size start ds ((j : Nat) : Int).toNat)] 36 (0, 0)), (b23, .cells #[.int .i64 (overLo size start (setRain ds (k1).toNat k2 k3) ((j : Nat) : Int).toNat), .int .i64 (overHi size start (setRain ds (k1).toNat k2 k3) ((j : Nat) : Int).toNat)] 36 (0, 0)), (b22, .cells #[.int .i64 (overLo size start ds ((j : Nat) : Int).toNat), .int .i64 (overHi size start ds ((j : Nat) : Int).toNat)] 36 (0, 0)), (b9, .cells #[.int .i64 (size), .int .i64 (start), .slice a15 n cp16] 24 (0, 0)), (b2, .cells #[.int .i64 (k1), .int .i64 (k2), .int .i64 (k3)] 60 (0, 0)), (b1, .cells #[.int .i64 (size), .int .i64 (start), .slice a n c] 24 (0, 0))]) rfl ?_)
          refine rl_det (met_none rfl) (fun h_ H_ => exd_assign (v := .int .i64 0) rfl) rfl ?_
          refine rl_end ?_
          refine fl_seq ?_
          refine rl_start ?_
          refine rl_det (met_none rfl) (fun h_ H_ => exd_move (v := .int .i64 0) rfl) (tm' := [_,_,_,_,_,_,_,_,_,_,_,_,_,_,_,_,_,_,_,_,_,_,_,_,_,_,_,_,_,_,_,_,_,_,_,_,_,_,_,_,_,_,_,_,_,_,_,_,_,_,_,_,_,_,_,_,_,_,_,_,_,_,_,_,_,_,_,_,_,_,_,_,_,_,_,_,_,_,_,_,_,_,_,_,_,_,_,_,_,_,_,_,_,_,_,_,_,_,_,_,_,_,_,_,_,_,_,_,_,_,_,_,_,_,_,_,_,_,_,_,_,_,_,_,_,_,_,_,_,_,_,_,_,_,_,_,_,_,_,_,_,_,_,_,_,_,_,_,_,_,_,_,_,_,_,_,_,_,_,_,_,_,_,_,_,_,_,_,_,_,_,_,_,_,_,_,_,_,_,_,_,_,_,_,_,_,_,_,_,_,_,_,_,_,_,_,_,_,_,_,_,_,_,_,_,_,_,_,_,_,_,_,_,_,_,_,_,_,_,_,_,_,_,_,_,_,_,_,_,_,_,_,_,_,_,_,_,_,_,_]) rfl ?_
          refine rl_det (met_none rfl) (fun h_ H_ => exd_neq rfl rfl) rfl ?_
          refine rl_det (met_none rfl) (fun h_ H_ => exd_move (v := .bool (decide ((0 : Int) ≠ 0))) rfl) rfl ?_
          refine rl_det (met_some rfl rfl (decide_eq_false (fun h_ => h_ rfl))) (fun h_ H_ => exd_move (v := .int .i64 0) rfl) (tm' := [_,_,_,_,_,_,_,_,_,_,_,_,_,_,_,_,_,_,_,_,_,_,_,_,_,_,_,_,_,_,_,_,_,_,_,_,_,_,_,_,_,_,_,_,_,_,_,_,_,_,_,_,_,_,_,_,_,_,_,_,_,_,_,_,_,_,_,_,_,_,_,_,_,_,_,_,_,_,_,_,_,_,_,_,_,_,_,_,_,_,_,_,_,_,_,_,_,_,_,_,_,_,_,_,_,_,_,_,_,_,_,_,_,_,_,_,_,_,_,_,_,_,_,_,_,_,_,_,_,_,_,_,_,_,_,_,_,_,_,_,_,_,_,_,_,_,_,_,_,_,_,_,_,_,_,_,_,_,_,_,_,_,_,_,_,_,_,_,_,_,_,_,_,_,_,_,_,_,_,_,_,_,_,_,_,_,_,_,_,_,_,_,_,_,_,_,_,_,_,_,_,_,_,_,_,_,_,_,_,_,_,_,_,_,_,_,_,_,_,_,_,_,_,_,_,_,_,_,_,_,_,_,_,_,_,_,_,_,_,_]) rfl ?_
          refine rl_det (met_some rfl rfl (decide_eq_false (fun h_ => h_ rfl))) (fun h_ H_ => exd_neq rfl rfl) rfl ?_
          refine rl_det (met_none rfl) (fun h_ H_ => exd_pick_f rfl (decide_eq_false (fun h_ => h_ rfl)) (v := .bool (decide ((0 : Int) ≠ 0))) rfl) rfl ?_
          refine rl_det (met_none rfl) (fun h_ H_ => exd_move (v := .bool (decide ((0 : Int) ≠ 0))) rfl) (tm' := [_,_,_,_,_,_,_,_,_,_,_,_,_,_,_,_,_,_,_,_,_,_,_,_,_,_,_,_,_,_,_,_,_,_,_,_,_,_,_,_,_,_,_,_,_,_,_,_,_,_,_,_,_,_,_,_,_,_,_,_,_,_,_,_,_,_,_,_,_,_,_,_,_,_,_,_,_,_,_,_,_,_,_,_,_,_,_,_,_,_,_,_,_,_,_,_,_,_,_,_,_,_,_,_,_,_,_,_,_,_,_,_,_,_,_,_,_,_,_,_,_,_,_,_,_,_,_,_,_,_,_,_,_,_,_,_,_,_,_,_,_,_,_,_,_,_,_,_,_,_,_,_,_,_,_,_,_,_,_,_,_,_,_,_,_,_,_,_,_,_,_,_,_,_,_,_,_,_,_,_,_,_,_,_,_,_,_,_,_,_,_,_,_,_,_,_,_,_,_,_,_,_,_,_,_,_,_,_,_,_,_,_,_,_,_,_,_,_,_,_,_,_,_,_,_,_,_,_,_,_,_,_,_,_,_,_,_,_,_,_]) rfl ?_
          refine rl_det (met_some rfl rfl (decide_eq_false (fun h_ => h_ rfl))) (fun h_ H_ => exd_loadN_own H_ tA36 tS36 rfl (i := 2) rfl (vs := [.int .i64 (overLo size start (setRain ds (k1).toNat k2 k3) ((j : Nat) : Int).toNat), .int .i64 (overHi size start (setRain ds (k1).toNat k2 k3) ((j : Nat) : Int).toNat)]) rfl rfl) rfl ?_
          refine rl_det (met_some rfl rfl (decide_eq_false (fun h_ => h_ rfl))) (fun h_ H_ => exd_loadN_own H_ tA36 tS36 rfl (i := 3) rfl (vs := [.int .i64 (overLo size start ds ((j : Nat) : Int).toNat), .int .i64 (overHi size start ds ((j : Nat) : Int).toNat)]) rfl rfl) rfl ?_
          refine rl_calld (met_some rfl rfl (decide_eq_false (fun h_ => h_ rfl))) (first := []) (cap := []) rfl rfl fC59 (fun h_ H_ => c59 (.main true) _ (overLo size start (setRain ds (k1).toNat k2 k3) ((j : Nat) : Int).toNat) (overHi size start (setRain ds (k1).toNat k2 k3) ((j : Nat) : Int).toNat) (overLo size start ds ((j : Nat) : Int).toNat) (overHi size start ds ((j : Nat) : Int).toNat)) (tm' := [_,_,_,_,_,_,_,_,_,_,_,_,_,_,_,_,_,_,_,_,_,_,_,_,_,_,_,_,_,_,_,_,_,_,_,_,_,_,_,_,_,_,_,_,_,_,_,_,_,_,_,_,_,_,_,_,_,_,_,_,_,_,_,_,_,_,_,_,_,_,_,_,_,_,_,_,_,_,_,_,_,_,_,_,_,_,_,_,_,_,_,_,_,_,_,_,_,_,_,_,_,_,_,_,_,_,_,_,_,_,_,_,_,_,_,_,_,_,_,_,_,_,_,_,_,_,_,_,_,_,_,_,_,_,_,_,_,_,_,_,_,_,_,_,_,_,_,_,_,_,_,_,_,_,_,_,_,_,_,_,_,_,_,_,_,_,_,_,_,_,_,_,_,_,_,_,_,_,_,_,_,_,_,_,_,_,_,_,_,_,_,_,_,_,_,_,_,_,_,_,_,_,_,_,_,_,_,_,_,_,_,_,_,_,_,_,_,_,_,_,_,_,_,_,_,_,_,_,_,_,_,_,_,_,_,_,_,_,_,_]) rfl ?_
          refine rl_det (met_some rfl rfl (decide_eq_false (fun h_ => h_ rfl))) (fun h_ H_ => exd_not rfl) rfl ?_
          refine rl_det (met_none rfl) (fun h_ H_ => exd_pick_f rfl (decide_eq_false (fun h_ => h_ rfl)) (v := .bool (!(decide (overLo size start ds ((j : Nat) : Int).toNat ≤ overLo size start (setRain ds (k1).toNat k2 k3) ((j : Nat) : Int).toNat ∧ overLo size start (setRain ds (k1).toNat k2 k3) ((j : Nat) : Int).toNat ≤ overHi size start (setRain ds (k1).toNat k2 k3) ((j : Nat) : Int).toNat ∧ overHi size start (setRain ds (k1).toNat k2 k3) ((j : Nat) : Int).toNat ≤ overHi size start ds ((j : Nat) : Int).toNat)))) rfl) rfl ?_
          refine rl_end ?_
          refine fl_else rfl (not_f (decide_eq_true (hnr (by omega)).2.2)) ?_
          refine fl_skip ?_
          refine fl_inBlock ?_
          refine rl_start ?_
          refine rl_det (met_none rfl) (fun h_ H_ => exd_move (v := .int .i64 (((j : Nat) : Int))) rfl) (tm' := _::_::_::_::_::_::_::_::_::_::_::_::_::_::_::_::_::_::_::_::_::_::_::_::_::_::_::_::_::_::_::_::_::_::_::_::_::_::_::_::_::_::_::_::_::_::_::_::_::_::_::_::_::_::_::_::_::_::_::_::_::_::_::_::_::_::_::_::_::_::_::_::_::_::_::_::_::_::_::_::_::_::_::_::_::_::_::_::_::_::_::_::_::_::_::_::_::_) rfl ?_
          refine rl_det (met_none rfl) (fun h_ H_ => exd_add rfl rfl (n := ((j + 1 : Nat) : Int)) (wr (by omega))) rfl ?_
          refine rl_det (met_none rfl) (fun h_ H_ => exd_assign (v := .int .i64 (((j + 1 : Nat) : Int))) rfl) rfl ?_
          refine rl_end ?_
          exact fun h_ H_ => IH20 _ _ (by omega) h_ ⟨j + 1, rfl, (y_of rfl), (by omega), H_.drop.drop.drop.drop⟩
        · refine fl_else rfl (decide_eq_false cc21) ?_
          refine fl_exit rfl ?_
          refine fl_seq ?_
          refine rl_start ?_
          refine rl_det (met_none rfl) (fun h_ H_ => exd_loadN_own H_ tA24 tS24 rfl (i := 2) rfl (vs := [.int .i64 (size), .int .i64 (start), .slice a n c]) rfl rfl) (tm' := [_,_,_,_,_,_,_,_,_,_,_,_,_,_,_,_,_,_,_,_,_,_,_,_,_,_,_,_,_,_,_,_,_,_,_,_,_,_,_,_,_,_,_,_,_,_,_,_,_,_,_,_,_,_,_,_,_,_,_,_,_,_,_,_,_,_,_,_,_,_,_,_,_,_,_,_,_,_,_,_,_,_,_,_,_,_,_,_,_,_,_,_,_,_,_,_,_,_,_,_,_,_,_,_,_,_,_,_,_,_,_,_,_,_,_,_,_,_,_,_,_,_,_,_,_,_,_,_,_,_,_,_,_,_,_,_,_,_,_,_,_,_,_,_,_,_,_,_,_,_,_,_,_,_,_,_,_,_,_,_,_,_,_,_,_,_,_,_,_,_,_,_,_,_,_,_,_,_,_,_,_,_,_,_,_,_,_,_,_,_,_,_,_,_,_,_,_,_,_,_,_,_,_,_,_,_,_,_,_,_,_,_,_,_,_,_,_,_,_,_,_,_,_,_,_,_,_,_,_,_,_,_,_,_,_,_,_,_,_,_]) rfl ?_
          refine rl_calld (met_none rfl) (first := []) (cap := []) rfl rfl fC45 (fun h_ H_ => c45 (.main true) _ _ (fun b_ o_ e_ => H_.per b_ o_ e_) (size) (start) _ _ _ _ (D.mono le17) (by omega)) rfl ?_
          refine rl_det (met_none rfl) (fun h_ H_ => exd_move (v := .tuple #[.int .i64 ((sizeR size start ds).1), .int .i64 ((sizeR size start ds).2)]) rfl) rfl ?_
          refine rl_det (met_none rfl) (fun h_ H_ => exd_extract rfl (v := .int .i64 ((sizeR size start ds).1)) rfl) (tm' := [_,_,_,_,_,_,_,_,_,_,_,_,_,_,_,_,_,_,_,_,_,_,_,_,_,_,_,_,_,_,_,_,_,_,_,_,_,_,_,_,_,_,_,_,_,_,_,_,_,_,_,_,_,_,_,_,_,_,_,_,_,_,_,_,_,_,_,_,_,_,_,_,_,_,_,_,_,_,_,_,_,_,_,_,_,_,_,_,_,_,_,_,_,_,_,_,_,_,_,_,_,_,_,_,_,_,_,_,_,_,_,_,_,_,_,_,_,_,_,_,_,_,_,_,_,_,_,_,_,_,_,_,_,_,_,_,_,_,_,_,_,_,_,_,_,_,_,_,_,_,_,_,_,_,_,_,_,_,_,_,_,_,_,_,_,_,_,_,_,_,_,_,_,_,_,_,_,_,_,_,_,_,_,_,_,_,_,_,_,_,_,_,_,_,_,_,_,_,_,_,_,_,_,_,_,_,_,_,_,_,_,_,_,_,_,_,_,_,_,_,_,_,_,_,_,_,_,_,_,_,_,_,_,_,_,_,_,_,_,_]) rfl ?_
          refine rl_det (met_none rfl) (fun h_ H_ => exd_extract rfl (v := .int .i64 ((sizeR size start ds).2)) rfl) rfl ?_
          refine rl_det (met_none rfl) (fun h_ H_ => exd_assign (v := .int .i64 ((sizeR size start ds).1)) rfl) rfl ?_
          refine rl_det (met_none rfl) (fun h_ H_ => exd_assign (v := .int .i64 ((sizeR size start ds).2)) rfl) (tm' := _::_::_::_::_::_::_::_::_::_::_::_::_::_::_::_::_::_::_::_::_::_::_::_) rfl ?_
          refine rl_end ?_
          refine fl_seq ?_
          refine rl_start ?_
          refine rl_det (met_none rfl) (fun h_ H_ => exd_loadN_own H_ tA24 tS24 rfl (i := 0) rfl (vs := [.int .i64 (size), .int .i64 (start), .slice a15 n cp16]) rfl rfl) rfl ?_
          refine rl_calld (met_none rfl) (first := []) (cap := []) rfl rfl fC45 (fun h_ H_ => c45 (.main true) _ _ (fun b_ o_ e_ => H_.per b_ o_ e_) (size) (start) _ _ _ _ (show Days _ _ _ (setRain ds (k1).toNat k2 k3) from D18) (by omega)) rfl ?_
          refine rl_det (met_none rfl) (fun h_ H_ => exd_move (v := .tuple #[.int .i64 ((sizeR size start (setRain ds (k1).toNat k2 k3)).1), .int .i64 ((sizeR size start (setRain ds (k1).toNat k2 k3)).2)]) rfl) (tm' := [_,_,_,_,_,_,_,_,_,_,_,_,_,_,_,_,_,_,_,_,_,_,_,_,_,_,_,_,_,_,_,_,_,_,_,_,_,_,_,_,_,_,_,_,_,_,_,_,_,_,_,_,_,_,_,_,_,_,_,_,_,_,_,_,_,_,_,_,_,_,_,_,_,_,_,_,_,_,_,_,_,_,_,_,_,_,_,_,_,_,_,_,_,_,_,_,_,_,_,_,_,_,_,_,_,_,_,_,_,_,_,_,_,_,_,_,_,_,_,_,_,_,_,_,_,_,_,_,_,_,_,_,_,_,_,_,_,_,_,_,_,_,_,_,_,_,_,_,_,_,_,_,_,_,_,_,_,_,_,_,_,_,_,_,_,_,_,_,_,_,_,_,_,_,_,_,_,_,_,_,_,_,_,_,_,_,_,_,_,_,_,_,_,_,_,_,_,_,_,_,_,_,_,_,_,_,_,_,_,_,_,_,_,_,_,_,_,_,_,_,_,_,_,_,_,_,_,_,_,_,_,_,_,_,_,_,_,_,_,_]) rfl ?_
          refine rl_det (met_none rfl) (fun h_ H_ => exd_extract rfl (v := .int .i64 ((sizeR size start (setRain ds (k1).toNat k2 k3)).1)) rfl) rfl ?_
          refine rl_det (met_none rfl) (fun h_ H_ => exd_extract rfl (v := .int .i64 ((sizeR size start (setRain ds (k1).toNat k2 k3)).2)) rfl) rfl ?_
          refine rl_det (met_none rfl) (fun h_ H_ => exd_assign (v := .int .i64 ((sizeR size start (setRain ds (k1).toNat k2 k3)).1)) rfl) (tm' := _::_::_::_::_::_::_::_::_::_::_::_::_::_::_::_::_::_::_::_::_::_::_::_::_) rfl ?_
          refine rl_det (met_none rfl) (fun h_ H_ => exd_assign (v := .int .i64 ((sizeR size start (setRain ds (k1).toNat k2 k3)).2)) rfl) rfl ?_
          refine rl_end ?_
          refine fl_seq ?_
          refine rl_start ?_
          refine rl_det (met_none rfl) (fun h_ H_ => exd_loadN_own H_ tA24 tS24 rfl (i := 2) rfl (vs := [.int .i64 (size), .int .i64 (start), .slice a n c]) rfl rfl) rfl ?_
          refine rl_calld (met_none rfl) (first := []) (cap := []) rfl rfl fC23 (fun h_ H_ => c23ok (fun b_ o_ e_ => H_.per b_ o_ e_) (D.mono le17) (by omega) hOk (.main true)) (tm' := [_,_,_,_,_,_,_,_,_,_,_,_,_,_,_,_,_,_,_,_,_,_,_,_,_,_,_,_,_,_,_,_,_,_,_,_,_,_,_,_,_,_,_,_,_,_,_,_,_,_,_,_,_,_,_,_,_,_,_,_,_,_,_,_,_,_,_,_,_,_,_,_,_,_,_,_,_,_,_,_,_,_,_,_,_,_,_,_,_,_,_,_,_,_,_,_,_,_,_,_,_,_,_,_,_,_,_,_,_,_,_,_,_,_,_,_,_,_,_,_,_,_,_,_,_,_,_,_,_,_,_,_,_,_,_,_,_,_,_,_,_,_,_,_,_,_,_,_,_,_,_,_,_,_,_,_,_,_,_,_,_,_,_,_,_,_,_,_,_,_,_,_,_,_,_,_,_,_,_,_,_,_,_,_,_,_,_,_,_,_,_,_,_,_,_,_,_,_,_,_,_,_,_,_,_,_,_,_,_,_,_,_,_,_,_,_,_,_,_,_,_,_,_,_,_,_,_,_,_,_,_,_,_,_,_,_,_,_,_,_]) rfl ?_
          refine rl_det (met_none rfl) (fun h_ H_ => exd_move (v := .tuple #[.int .i64 (ratDown size start ds 20), .int .i64 0]) rfl) rfl ?_
          refine rl_det (met_none rfl) (fun h_ H_ => exd_extract rfl (v := .int .i64 (ratDown size start ds 20)) rfl) rfl ?_
          refine rl_det (met_none rfl) (fun h_ H_ => exd_extract rfl (v := .int .i64 0) rfl) (tm' := [_,_,_,_,_,_,_,_,_,_,_,_,_,_,_,_,_,_,_,_,_,_,_,_,_,_,_,_,_,_,_,_,_,_,_,_,_,_,_,_,_,_,_,_,_,_,_,_,_,_,_,_,_,_,_,_,_,_,_,_,_,_,_,_,_,_,_,_,_,_,_,_,_,_,_,_,_,_,_,_,_,_,_,_,_,_,_,_,_,_,_,_,_,_,_,_,_,_,_,_,_,_,_,_,_,_,_,_,_,_,_,_,_,_,_,_,_,_,_,_,_,_,_,_,_,_,_,_,_,_,_,_,_,_,_,_,_,_,_,_,_,_,_,_,_,_,_,_,_,_,_,_,_,_,_,_,_,_,_,_,_,_,_,_,_,_,_,_,_,_,_,_,_,_,_,_,_,_,_,_,_,_,_,_,_,_,_,_,_,_,_,_,_,_,_,_,_,_,_,_,_,_,_,_,_,_,_,_,_,_,_,_,_,_,_,_,_,_,_,_,_,_,_,_,_,_,_,_,_,_,_,_,_,_,_,_,_,_,_,_]) rfl ?_
          refine rl_det (met_none rfl) (fun h_ H_ => exd_assign (v := .int .i64 (ratDown size start ds 20)) rfl) rfl ?_
          refine rl_det (met_none rfl) (fun h_ H_ => exd_assign (v := .int .i64 0) rfl) rfl ?_
          refine rl_end ?_
          refine fl_seq ?_
          refine rl_start ?_
          refine rl_det (met_none rfl) (fun h_ H_ => exd_loadN_own H_ tA24 tS24 rfl (i := 0) rfl (vs := [.int .i64 (size), .int .i64 (start), .slice a15 n cp16]) rfl rfl) (tm' := [_,_,_,_,_,_,_,_,_,_,_,_,_,_,_,_,_,_,_,_,_,_,_,_,_,_,_,_,_,_,_,_,_,_,_,_,_,_,_,_,_,_,_,_,_,_,_,_,_,_,_,_,_,_,_,_,_,_,_,_,_,_,_,_,_,_,_,_,_,_,_,_,_,_,_,_,_,_,_,_,_,_,_,_,_,_,_,_,_,_,_,_,_,_,_,_,_,_,_,_,_,_,_,_,_,_,_,_,_,_,_,_,_,_,_,_,_,_,_,_,_,_,_,_,_,_,_,_,_,_,_,_,_,_,_,_,_,_,_,_,_,_,_,_,_,_,_,_,_,_,_,_,_,_,_,_,_,_,_,_,_,_,_,_,_,_,_,_,_,_,_,_,_,_,_,_,_,_,_,_,_,_,_,_,_,_,_,_,_,_,_,_,_,_,_,_,_,_,_,_,_,_,_,_,_,_,_,_,_,_,_,_,_,_,_,_,_,_,_,_,_,_,_,_,_,_,_,_,_,_,_,_,_,_,_,_,_,_,_,_]) rfl ?_
          refine rl_calld (met_none rfl) (first := []) (cap := []) rfl rfl fC23 (fun h_ H_ => c23ok (fun b_ o_ e_ => H_.per b_ o_ e_) (show Days _ _ _ (setRain ds (k1).toNat k2 k3) from D18) (by omega) hOk2 (.main true)) rfl ?_
          refine rl_det (met_none rfl) (fun h_ H_ => exd_move (v := .tuple #[.int .i64 (ratDown size start (setRain ds (k1).toNat k2 k3) 20), .int .i64 0]) rfl) rfl ?_
          refine rl_det (met_none rfl) (fun h_ H_ => exd_extract rfl (v := .int .i64 (ratDown size start (setRain ds (k1).toNat k2 k3) 20)) rfl) (tm' := [_,_,_,_,_,_,_,_,_,_,_,_,_,_,_,_,_,_,_,_,_,_,_,_,_,_,_,_,_,_,_,_,_,_,_,_,_,_,_,_,_,_,_,_,_,_,_,_,_,_,_,_,_,_,_,_,_,_,_,_,_,_,_,_,_,_,_,_,_,_,_,_,_,_,_,_,_,_,_,_,_,_,_,_,_,_,_,_,_,_,_,_,_,_,_,_,_,_,_,_,_,_,_,_,_,_,_,_,_,_,_,_,_,_,_,_,_,_,_,_,_,_,_,_,_,_,_,_,_,_,_,_,_,_,_,_,_,_,_,_,_,_,_,_,_,_,_,_,_,_,_,_,_,_,_,_,_,_,_,_,_,_,_,_,_,_,_,_,_,_,_,_,_,_,_,_,_,_,_,_,_,_,_,_,_,_,_,_,_,_,_,_,_,_,_,_,_,_,_,_,_,_,_,_,_,_,_,_,_,_,_,_,_,_,_,_,_,_,_,_,_,_,_,_,_,_,_,_,_,_,_,_,_,_,_,_,_,_,_,_]) rfl ?_
          refine rl_det (met_none rfl) (fun h_ H_ => exd_extract rfl (v := .int .i64 0) rfl) rfl ?_
          refine rl_det (met_none rfl) (fun h_ H_ => exd_assign (v := .int .i64 (ratDown size start (setRain ds (k1).toNat k2 k3) 20)) rfl) rfl ?_
          refine rl_det (met_none rfl) (fun h_ H_ => exd_assign (v := .int .i64 0) rfl) (tm' := _::_::_::_::_::_::_::_::_::_::_::_::_::_::_::_::_::_::_::_::_::_::_::_::_::_::_::_::_::_) rfl ?_
          refine rl_end ?_
          refine fl_seq ?_
          refine fl_seq ?_
          refine rl_start ?_
          refine rl_det (met_none rfl) (fun h_ H_ => exd_move (v := .int .i64 ((sizeR size start ds).2)) rfl) rfl ?_
          refine rl_det (met_none rfl) (fun h_ H_ => exd_eql rfl rfl) rfl ?_
          refine rl_det (met_none rfl) (fun h_ H_ => exd_move (v := .bool (decide ((sizeR size start ds).2 = 0))) rfl) (tm' := [_,_,_,_,_,_,_,_,_,_,_,_,_,_,_,_,_,_,_,_,_,_,_,_,_,_,_,_,_,_,_,_,_,_,_,_,_,_,_,_,_,_,_,_,_,_,_,_,_,_,_,_,_,_,_,_,_,_,_,_,_,_,_,_,_,_,_,_,_,_,_,_,_,_,_,_,_,_,_,_,_,_,_,_,_,_,_,_,_,_,_,_,_,_,_,_,_,_,_,_,_,_,_,_,_,_,_,_,_,_,_,_,_,_,_,_,_,_,_,_,_,_,_,_,_,_,_,_,_,_,_,_,_,_,_,_,_,_,_,_,_,_,_,_,_,_,_,_,_,_,_,_,_,_,_,_,_,_,_,_,_,_,_,_,_,_,_,_,_,_,_,_,_,_,_,_,_,_,_,_,_,_,_,_,_,_,_,_,_,_,_,_,_,_,_,_,_,_,_,_,_,_,_,_,_,_,_,_,_,_,_,_,_,_,_,_,_,_,_,_,_,_,_,_,_,_,_,_,_,_,_,_,_,_,_,_,_,_,_,_]) rfl ?_
          by_cases cc26 : (sizeR size start ds).2 = 0
          · refine rl_det (met_some rfl rfl (decide_eq_true cc26)) (fun h_ H_ => exd_move (v := .int .i64 ((sizeR size start (setRain ds (k1).toNat k2 k3)).2)) rfl) rfl ?_
            refine rl_det (met_some rfl rfl (decide_eq_true cc26)) (fun h_ H_ => exd_neq rfl rfl) rfl ?_
            refine rl_det (met_some rfl rfl (decide_eq_true cc26)) (fun h_ H_ => exd_move (v := .bool (decide ((sizeR size start (setRain ds (k1).toNat k2 k3)).2 ≠ 0))) rfl) (tm' := [_,_,_,_,_,_,_,_,_,_,_,_,_,_,_,_,_,_,_,_,_,_,_,_,_,_,_,_,_,_,_,_,_,_,_,_,_,_,_,_,_,_,_,_,_,_,_,_,_,_,_,_,_,_,_,_,_,_,_,_,_,_,_,_,_,_,_,_,_,_,_,_,_,_,_,_,_,_,_,_,_,_,_,_,_,_,_,_,_,_,_,_,_,_,_,_,_,_,_,_,_,_,_,_,_,_,_,_,_,_,_,_,_,_,_,_,_,_,_,_,_,_,_,_,_,_,_,_,_,_,_,_,_,_,_,_,_,_,_,_,_,_,_,_,_,_,_,_,_,_,_,_,_,_,_,_,_,_,_,_,_,_,_,_,_,_,_,_,_,_,_,_,_,_,_,_,_,_,_,_,_,_,_,_,_,_,_,_,_,_,_,_,_,_,_,_,_,_,_,_,_,_,_,_,_,_,_,_,_,_,_,_,_,_,_,_,_,_,_,_,_,_,_,_,_,_,_,_,_,_,_,_,_,_,_,_,_,_,_,_]) rfl ?_
            refine rl_det (met_some rfl rfl (decide_eq_false (by omega))) (fun h_ H_ => exd_move (v := .int .i64 ((sizeR size start (setRain ds (k1).toNat k2 k3)).1)) rfl) rfl ?_
            refine rl_det (met_some rfl rfl (decide_eq_false (by omega))) (fun h_ H_ => exd_move (v := .int .i64 ((sizeR size start ds).1)) rfl) rfl ?_
            refine rl_det (met_some rfl rfl (decide_eq_false (by omega))) (fun h_ H_ => exd_gtr rfl rfl) (tm' := [_,_,_,_,_,_,_,_,_,_,_,_,_,_,_,_,_,_,_,_,_,_,_,_,_,_,_,_,_,_,_,_,_,_,_,_,_,_,_,_,_,_,_,_,_,_,_,_,_,_,_,_,_,_,_,_,_,_,_,_,_,_,_,_,_,_,_,_,_,_,_,_,_,_,_,_,_,_,_,_,_,_,_,_,_,_,_,_,_,_,_,_,_,_,_,_,_,_,_,_,_,_,_,_,_,_,_,_,_,_,_,_,_,_,_,_,_,_,_,_,_,_,_,_,_,_,_,_,_,_,_,_,_,_,_,_,_,_,_,_,_,_,_,_,_,_,_,_,_,_,_,_,_,_,_,_,_,_,_,_,_,_,_,_,_,_,_,_,_,_,_,_,_,_,_,_,_,_,_,_,_,_,_,_,_,_,_,_,_,_,_,_,_,_,_,_,_,_,_,_,_,_,_,_,_,_,_,_,_,_,_,_,_,_,_,_,_,_,_,_,_,_,_,_,_,_,_,_,_,_,_,_,_,_,_,_,_,_,_,_]) rfl ?_
            refine rl_det (met_some rfl rfl (decide_eq_true cc26)) (fun h_ H_ => exd_pick_f rfl (decide_eq_false (by omega)) (v := .bool (decide ((sizeR size start ds).1 < (sizeR size start (setRain ds (k1).toNat k2 k3)).1))) rfl) rfl ?_
            refine rl_det (met_none rfl) (fun h_ H_ => exd_pick_t rfl (decide_eq_true cc26) (v := .bool (decide ((sizeR size start ds).1 < (sizeR size start (setRain ds (k1).toNat k2 k3)).1))) rfl) rfl ?_
            refine rl_det (met_none rfl) (fun h_ H_ => exd_move (v := .bool (decide ((sizeR size start ds).1 < (sizeR size start (setRain ds (k1).toNat k2 k3)).1))) rfl) (tm' := [_,_,_,_,_,_,_,_,_,_,_,_,_,_,_,_,_,_,_,_,_,_,_,_,_,_,_,_,_,_,_,_,_,_,_,_,_,_,_,_,_,_,_,_,_,_,_,_,_,_,_,_,_,_,_,_,_,_,_,_,_,_,_,_,_,_,_,_,_,_,_,_,_,_,_,_,_,_,_,_,_,_,_,_,_,_,_,_,_,_,_,_,_,_,_,_,_,_,_,_,_,_,_,_,_,_,_,_,_,_,_,_,_,_,_,_,_,_,_,_,_,_,_,_,_,_,_,_,_,_,_,_,_,_,_,_,_,_,_,_,_,_,_,_,_,_,_,_,_,_,_,_,_,_,_,_,_,_,_,_,_,_,_,_,_,_,_,_,_,_,_,_,_,_,_,_,_,_,_,_,_,_,_,_,_,_,_,_,_,_,_,_,_,_,_,_,_,_,_,_,_,_,_,_,_,_,_,_,_,_,_,_,_,_,_,_,_,_,_,_,_,_,_,_,_,_,_,_,_,_,_,_,_,_,_,_,_,_,_,_]) rfl ?_
            refine rl_det (met_some rfl rfl (decide_eq_false (by omega))) (fun h_ H_ => exd_move (v := .int .i64 0) rfl) rfl ?_
            refine rl_det (met_some rfl rfl (decide_eq_false (by omega))) (fun h_ H_ => exd_neq rfl rfl) rfl ?_
            refine rl_det (met_none rfl) (fun h_ H_ => exd_pick_f rfl (decide_eq_false (by omega)) (v := .bool (decide ((0 : Int) ≠ 0))) rfl) (tm' := [_,_,_,_,_,_,_,_,_,_,_,_,_,_,_,_,_,_,_,_,_,_,_,_,_,_,_,_,_,_,_,_,_,_,_,_,_,_,_,_,_,_,_,_,_,_,_,_,_,_,_,_,_,_,_,_,_,_,_,_,_,_,_,_,_,_,_,_,_,_,_,_,_,_,_,_,_,_,_,_,_,_,_,_,_,_,_,_,_,_,_,_,_,_,_,_,_,_,_,_,_,_,_,_,_,_,_,_,_,_,_,_,_,_,_,_,_,_,_,_,_,_,_,_,_,_,_,_,_,_,_,_,_,_,_,_,_,_,_,_,_,_,_,_,_,_,_,_,_,_,_,_,_,_,_,_,_,_,_,_,_,_,_,_,_,_,_,_,_,_,_,_,_,_,_,_,_,_,_,_,_,_,_,_,_,_,_,_,_,_,_,_,_,_,_,_,_,_,_,_,_,_,_,_,_,_,_,_,_,_,_,_,_,_,_,_,_,_,_,_,_,_,_,_,_,_,_,_,_,_,_,_,_,_,_,_,_,_,_,_]) rfl ?_
            refine rl_det (met_none rfl) (fun h_ H_ => exd_move (v := .bool (decide ((0 : Int) ≠ 0))) rfl) rfl ?_
            refine rl_det (met_some rfl rfl (decide_eq_false (fun h_ => h_ rfl))) (fun h_ H_ => exd_move (v := .int .i64 0) rfl) rfl ?_
            refine rl_det (met_some rfl rfl (decide_eq_false (fun h_ => h_ rfl))) (fun h_ H_ => exd_neq rfl rfl) (tm' := [_,_,_,_,_,_,_,_,_,_,_,_,_,_,_,_,_,_,_,_,_,_,_,_,_,_,_,_,_,_,_,_,_,_,_,_,_,_,_,_,_,_,_,_,_,_,_,_,_,_,_,_,_,_,_,_,_,_,_,_,_,_,_,_,_,_,_,_,_,_,_,_,_,_,_,_,_,_,_,_,_,_,_,_,_,_,_,_,_,_,_,_,_,_,_,_,_,_,_,_,_,_,_,_,_,_,_,_,_,_,_,_,_,_,_,_,_,_,_,_,_,_,_,_,_,_,_,_,_,_,_,_,_,_,_,_,_,_,_,_,_,_,_,_,_,_,_,_,_,_,_,_,_,_,_,_,_,_,_,_,_,_,_,_,_,_,_,_,_,_,_,_,_,_,_,_,_,_,_,_,_,_,_,_,_,_,_,_,_,_,_,_,_,_,_,_,_,_,_,_,_,_,_,_,_,_,_,_,_,_,_,_,_,_,_,_,_,_,_,_,_,_,_,_,_,_,_,_,_,_,_,_,_,_,_,_,_,_,_,_]) rfl ?_
            refine rl_det (met_none rfl) (fun h_ H_ => exd_pick_f rfl (decide_eq_false (fun h_ => h_ rfl)) (v := .bool (decide ((0 : Int) ≠ 0))) rfl) rfl ?_
            refine rl_det (met_none rfl) (fun h_ H_ => exd_move (v := .bool (decide ((0 : Int) ≠ 0))) rfl) rfl ?_
            refine rl_det (met_some rfl rfl (decide_eq_false (fun h_ => h_ rfl))) (fun h_ H_ => exd_move (v := .int .i64 (ratDown size start (setRain ds (k1).toNat k2 k3) 20)) rfl) (tm' := [_,_,_,_,_,_,_,_,_,_,_,_,_,_,_,_,_,_,_,_,_,_,_,_,_,_,_,_,_,_,_,_,_,_,_,_,_,_,_,_,_,_,_,_,_,_,_,_,_,_,_,_,_,_,_,_,_,_,_,_,_,_,_,_,_,_,_,_,_,_,_,_,_,_,_,_,_,_,_,_,_,_,_,_,_,_,_,_,_,_,_,_,_,_,_,_,_,_,_,_,_,_,_,_,_,_,_,_,_,_,_,_,_,_,_,_,_,_,_,_,_,_,_,_,_,_,_,_,_,_,_,_,_,_,_,_,_,_,_,_,_,_,_,_,_,_,_,_,_,_,_,_,_,_,_,_,_,_,_,_,_,_,_,_,_,_,_,_,_,_,_,_,_,_,_,_,_,_,_,_,_,_,_,_,_,_,_,_,_,_,_,_,_,_,_,_,_,_,_,_,_,_,_,_,_,_,_,_,_,_,_,_,_,_,_,_,_,_,_,_,_,_,_,_,_,_,_,_,_,_,_,_,_,_,_,_,_,_,_,_]) rfl ?_
            refine rl_det (met_some rfl rfl (decide_eq_false (fun h_ => h_ rfl))) (fun h_ H_ => exd_move (v := .int .i64 (ratDown size start ds 20)) rfl) rfl ?_
            refine rl_det (met_some rfl rfl (decide_eq_false (fun h_ => h_ rfl))) (fun h_ H_ => exd_lss rfl rfl) rfl ?_
            refine rl_det (met_none rfl) (fun h_ H_ => exd_pick_f rfl (decide_eq_false (fun h_ => h_ rfl)) (v := .bool (decide (ratDown size start (setRain ds (k1).toNat k2 k3) 20 < ratDown size start ds 20))) rfl) (tm' := [_,_,_,_,_,_,_,_,_,_,_,_,_,_,_,_,_,_,_,_,_,_,_,_,_,_,_,_,_,_,_,_,_,_,_,_,_,_,_,_,_,_,_,_,_,_,_,_,_,_,_,_,_,_,_,_,_,_,_,_,_,_,_,_,_,_,_,_,_,_,_,_,_,_,_,_,_,_,_,_,_,_,_,_,_,_,_,_,_,_,_,_,_,_,_,_,_,_,_,_,_,_,_,_,_,_,_,_,_,_,_,_,_,_,_,_,_,_,_,_,_,_,_,_,_,_,_,_,_,_,_,_,_,_,_,_,_,_,_,_,_,_,_,_,_,_,_,_,_,_,_,_,_,_,_,_,_,_,_,_,_,_,_,_,_,_,_,_,_,_,_,_,_,_,_,_,_,_,_,_,_,_,_,_,_,_,_,_,_,_,_,_,_,_,_,_,_,_,_,_,_,_,_,_,_,_,_,_,_,_,_,_,_,_,_,_,_,_,_,_,_,_,_,_,_,_,_,_,_,_,_,_,_,_,_,_,_,_,_,_]) rfl ?_
            refine rl_end ?_
            refine fl_else rfl (decide_eq_false (by omega)) ?_
            refine fl_skip ?_
            refine fl_seq ?_
            refine rl_start ?_
            refine rl_det (met_none rfl) (fun h_ H_ => exd_loadN_own H_ tA24 tS24 rfl (i := 2) rfl (vs := [.int .i64 (size), .int .i64 (start), .slice a n c]) rfl rfl) rfl ?_
            refine rl_calld (met_none rfl) (first := []) (cap := []) rfl rfl fC46 (fun h_ H_ => c46 (.main true) _ _ (fun b_ o_ e_ => H_.per b_ o_ e_) (size) (start) _ _ _ _ (D.mono le17) (by omega)) rfl ?_
            refine rl_det (met_none rfl) (fun h_ H_ => exd_move (v := .tuple #[.int .i64 ((startR size start ds).1), .int .i64 ((startR size start ds).2)]) rfl) (tm' := [_,_,_,_,_,_,_,_,_,_,_,_,_,_,_,_,_,_,_,_,_,_,_,_,_,_,_,_,_,_,_,_,_,_,_,_,_,_,_,_,_,_,_,_,_,_,_,_,_,_,_,_,_,_,_,_,_,_,_,_,_,_,_,_,_,_,_,_,_,_,_,_,_,_,_,_,_,_,_,_,_,_,_,_,_,_,_,_,_,_,_,_,_,_,_,_,_,_,_,_,_,_,_,_,_,_,_,_,_,_,_,_,_,_,_,_,_,_,_,_,_,_,_,_,_,_,_,_,_,_,_,_,_,_,_,_,_,_,_,_,_,_,_,_,_,_,_,_,_,_,_,_,_,_,_,_,_,_,_,_,_,_,_,_,_,_,_,_,_,_,_,_,_,_,_,_,_,_,_,_,_,_,_,_,_,_,_,_,_,_,_,_,_,_,_,_,_,_,_,_,_,_,_,_,_,_,_,_,_,_,_,_,_,_,_,_,_,_,_,_,_,_,_,_,_,_,_,_,_,_,_,_,_,_,_,_,_,_,_,_]) rfl ?_
            refine rl_det (met_none rfl) (fun h_ H_ => exd_extract rfl (v := .int .i64 ((startR size start ds).1)) rfl) rfl ?_
            refine rl_det (met_none rfl) (fun h_ H_ => exd_extract rfl (v := .int .i64 ((startR size start ds).2)) rfl) rfl ?_
            refine rl_det (met_none rfl) (fun h_ H_ => exd_assign (v := .int .i64 ((startR size start ds).1)) rfl) (tm' := _::_::_::_::_::_::_::_::_::_::_::_::_::_::_::_::_::_::_::_::_::_::_) rfl ?_
            refine rl_det (met_none rfl) (fun h_ H_ => exd_assign (v := .int .i64 ((startR size start ds).2)) rfl) rfl ?_
            refine rl_end ?_
            refine fl_seq ?_
            refine rl_start ?_
            refine rl_det (met_none rfl) (fun h_ H_ => exd_loadN_own H_ tA24 tS24 rfl (i := 0) rfl (vs := [.int .i64 (size), .int .i64 (start), .slice a15 n cp16]) rfl rfl) rfl ?_
            refine rl_calld (met_none rfl) (first := []) (cap := []) rfl rfl fC46 (fun h_ H_ => c46 (.main true) _ _ (fun b_ o_ e_ => H_.per b_ o_ e_) (size) (start) _ _ _ _ (show Days _ _ _ (setRain ds (k1).toNat k2 k3) from D18) (by omega)) (tm' := [_,_,_,_,_,_,_,_,_,_,_,_,_,_,_,_,_,_,_,_,_,_,_,_,_,_,_,_,_,_,_,_,_,_,_,_,_,_,_,_,_,_,_,_,_,_,_,_,_,_,_,_,_,_,_,_,_,_,_,_,_,_,_,_,_,_,_,_,_,_,_,_,_,_,_,_,_,_,_,_,_,_,_,_,_,_,_,_,_,_,_,_,_,_,_,_,_,_,_,_,_,_,_,_,_,_,_,_,_,_,_,_,_,_,_,_,_,_,_,_,_,_,_,_,_,_,_,_,_,_,_,_,_,_,_,_,_,_,_,_,_,_,_,_,_,_,_,_,_,_,_,_,_,_,_,_,_,_,_,_,_,_,_,_,_,_,_,_,_,_,_,_,_,_,_,_,_,_,_,_,_,_,_,_,_,_,_,_,_,_,_,_,_,_,_,_,_,_,_,_,_,_,_,_,_,_,_,_,_,_,_,_,_,_,_,_,_,_,_,_,_,_,_,_,_,_,_,_,_,_,_,_,_,_,_,_,_,_,_,_]) rfl ?_
            refine rl_det (met_none rfl) (fun h_ H_ => exd_move (v := .tuple #[.int .i64 ((startR size start (setRain ds (k1).toNat k2 k3)).1), .int .i64 ((startR size start (setRain ds (k1).toNat k2 k3)).2)]) rfl) rfl ?_
            refine rl_det (met_none rfl) (fun h_ H_ => exd_extract rfl (v := .int .i64 ((startR size start (setRain ds (k1).toNat k2 k3)).1)) rfl) rfl ?_
            refine rl_det (met_none rfl) (fun h_ H_ => exd_extract rfl (v := .int .i64 ((startR size start (setRain ds (k1).toNat k2 k3)).2)) rfl) (tm' := [_,_,_,_,_,_,_,_,_,_,_,_,_,_,_,_,_,_,_,_,_,_,_,_,_,_,_,_,_,_,_,_,_,_,_,_,_,_,_,_,_,_,_,_,_,_,_,_,_,_,_,_,_,_,_,_,_,_,_,_,_,_,_,_,_,_,_,_,_,_,_,_,_,_,_,_,_,_,_,_,_,_,_,_,_,_,_,_,_,_,_,_,_,_,_,_,_,_,_,_,_,_,_,_,_,_,_,_,_,_,_,_,_,_,_,_,_,_,_,_,_,_,_,_,_,_,_,_,_,_,_,_,_,_,_,_,_,_,_,_,_,_,_,_,_,_,_,_,_,_,_,_,_,_,_,_,_,_,_,_,_,_,_,_,_,_,_,_,_,_,_,_,_,_,_,_,_,_,_,_,_,_,_,_,_,_,_,_,_,_,_,_,_,_,_,_,_,_,_,_,_,_,_,_,_,_,_,_,_,_,_,_,_,_,_,_,_,_,_,_,_,_,_,_,_,_,_,_,_,_,_,_,_,_,_,_,_,_,_,_]) rfl ?_
            refine rl_det (met_none rfl) (fun h_ H_ => exd_assign (v := .int .i64 ((startR size start (setRain ds (k1).toNat k2 k3)).1)) rfl) rfl ?_
            refine rl_det (met_none rfl) (fun h_ H_ => exd_assign (v := .int .i64 ((startR size start (setRain ds (k1).toNat k2 k3)).2)) rfl) rfl ?_
            refine rl_end ?_
            refine fl_seq ?_
            refine rl_start ?_
            refine rl_det (met_none rfl) (fun h_ H_ => exd_move (v := .int .i64 ((startR size start ds).2)) rfl) (tm' := [_,_,_,_,_,_,_,_,_,_,_,_,_,_,_,_,_,_,_,_,_,_,_,_,_,_,_,_,_,_,_,_,_,_,_,_,_,_,_,_,_,_,_,_,_,_,_,_,_,_,_,_,_,_,_,_,_,_,_,_,_,_,_,_,_,_,_,_,_,_,_,_,_,_,_,_,_,_,_,_,_,_,_,_,_,_,_,_,_,_,_,_,_,_,_,_,_,_,_,_,_,_,_,_,_,_,_,_,_,_,_,_,_,_,_,_,_,_,_,_,_,_,_,_,_,_,_,_,_,_,_,_,_,_,_,_,_,_,_,_,_,_,_,_,_,_,_,_,_,_,_,_,_,_,_,_,_,_,_,_,_,_,_,_,_,_,_,_,_,_,_,_,_,_,_,_,_,_,_,_,_,_,_,_,_,_,_,_,_,_,_,_,_,_,_,_,_,_,_,_,_,_,_,_,_,_,_,_,_,_,_,_,_,_,_,_,_,_,_,_,_,_,_,_,_,_,_,_,_,_,_,_,_,_,_,_,_,_,_,_]) rfl ?_
            refine rl_det (met_none rfl) (fun h_ H_ => exd_neq rfl rfl) rfl ?_
            refine rl_det (met_none rfl) (fun h_ H_ => exd_move (v := .bool (decide ((startR size start ds).2 ≠ 0))) rfl) rfl ?_
            by_cases cc27 : (startR size start ds).2 ≠ 0
            · refine rl_pass (met_not rfl rfl (decide_eq_true cc27)) (tm' := [_,_,_,_,_,_,_,_,_,_,_,_,_,_,_,_,_,_,_,_,_,_,_,_,_,_,_,_,_,_,_,_,_,_,_,_,_,_,_,_,_,_,_,_,_,_,_,_,_,_,_,_,_,_,_,_,_,_,_,_,_,_,_,_,_,_,_,_,_,_,_,_,_,_,_,_,_,_,_,_,_,_,_,_,_,_,_,_,_,_,_,_,_,_,_,_,_,_,_,_,_,_,_,_,_,_,_,_,_,_,_,_,_,_,_,_,_,_,_,_,_,_,_,_,_,_,_,_,_,_,_,_,_,_,_,_,_,_,_,_,_,_,_,_,_,_,_,_,_,_,_,_,_,_,_,_,_,_,_,_,_,_,_,_,_,_,_,_,_,_,_,_,_,_,_,_,_,_,_,_,_,_,_,_,_,_,_,_,_,_,_,_,_,_,_,_,_,_,_,_,_,_,_,_,_,_,_,_,_,_,_,_,_,_,_,_,_,_,_,_,_,_,_,_,_,_,_,_,_,_,_,_,_,_,_,_,_,_,_,_]) rfl ?_
              refine rl_pass (met_not rfl rfl (decide_eq_true cc27)) rfl ?_
              refine rl_pass (met_not rfl rfl (decide_eq_true cc27)) rfl ?_
              refine rl_pass (met_undef rfl rfl) (tm' := [_,_,_,_,_,_,_,_,_,_,_,_,_,_,_,_,_,_,_,_,_,_,_,_,_,_,_,_,_,_,_,_,_,_,_,_,_,_,_,_,_,_,_,_,_,_,_,_,_,_,_,_,_,_,_,_,_,_,_,_,_,_,_,_,_,_,_,_,_,_,_,_,_,_,_,_,_,_,_,_,_,_,_,_,_,_,_,_,_,_,_,_,_,_,_,_,_,_,_,_,_,_,_,_,_,_,_,_,_,_,_,_,_,_,_,_,_,_,_,_,_,_,_,_,_,_,_,_,_,_,_,_,_,_,_,_,_,_,_,_,_,_,_,_,_,_,_,_,_,_,_,_,_,_,_,_,_,_,_,_,_,_,_,_,_,_,_,_,_,_,_,_,_,_,_,_,_,_,_,_,_,_,_,_,_,_,_,_,_,_,_,_,_,_,_,_,_,_,_,_,_,_,_,_,_,_,_,_,_,_,_,_,_,_,_,_,_,_,_,_,_,_,_,_,_,_,_,_,_,_,_,_,_,_,_,_,_,_,_,_]) rfl ?_
              refine rl_pass (met_undef rfl rfl) rfl ?_
              refine rl_pass (met_undef rfl rfl) rfl ?_
              refine rl_pass (met_not rfl rfl (decide_eq_true cc27)) (tm' := [_,_,_,_,_,_,_,_,_,_,_,_,_,_,_,_,_,_,_,_,_,_,_,_,_,_,_,_,_,_,_,_,_,_,_,_,_,_,_,_,_,_,_,_,_,_,_,_,_,_,_,_,_,_,_,_,_,_,_,_,_,_,_,_,_,_,_,_,_,_,_,_,_,_,_,_,_,_,_,_,_,_,_,_,_,_,_,_,_,_,_,_,_,_,_,_,_,_,_,_,_,_,_,_,_,_,_,_,_,_,_,_,_,_,_,_,_,_,_,_,_,_,_,_,_,_,_,_,_,_,_,_,_,_,_,_,_,_,_,_,_,_,_,_,_,_,_,_,_,_,_,_,_,_,_,_,_,_,_,_,_,_,_,_,_,_,_,_,_,_,_,_,_,_,_,_,_,_,_,_,_,_,_,_,_,_,_,_,_,_,_,_,_,_,_,_,_,_,_,_,_,_,_,_,_,_,_,_,_,_,_,_,_,_,_,_,_,_,_,_,_,_,_,_,_,_,_,_,_,_,_,_,_,_,_,_,_,_,_,_]) rfl ?_
              refine rl_det (met_none rfl) (fun h_ H_ => exd_pick_t rfl (decide_eq_true cc27) (v := .bool (true)) rfl) rfl ?_
              refine rl_det (met_none rfl) (fun h_ H_ => exd_move (v := .bool (true)) rfl) rfl ?_
              refine rl_calld (met_some rfl rfl rfl) (first := []) (cap := []) rfl rfl fC18 (fun h_ H_ => c18 _) (tm' := [_,_,_,_,_,_,_,_,_,_,_,_,_,_,_,_,_,_,_,_,_,_,_,_,_,_,_,_,_,_,_,_,_,_,_,_,_,_,_,_,_,_,_,_,_,_,_,_,_,_,_,_,_,_,_,_,_,_,_,_,_,_,_,_,_,_,_,_,_,_,_,_,_,_,_,_,_,_,_,_,_,_,_,_,_,_,_,_,_,_,_,_,_,_,_,_,_,_,_,_,_,_,_,_,_,_,_,_,_,_,_,_,_,_,_,_,_,_,_,_,_,_,_,_,_,_,_,_,_,_,_,_,_,_,_,_,_,_,_,_,_,_,_,_,_,_,_,_,_,_,_,_,_,_,_,_,_,_,_,_,_,_,_,_,_,_,_,_,_,_,_,_,_,_,_,_,_,_,_,_,_,_,_,_,_,_,_,_,_,_,_,_,_,_,_,_,_,_,_,_,_,_,_,_,_,_,_,_,_,_,_,_,_,_,_,_,_,_,_,_,_,_,_,_,_,_,_,_,_,_,_,_,_,_,_,_,_,_,_,_]) rfl ?_
              refine rl_det (met_none rfl) (fun h_ H_ => exd_pick_t rfl rfl (v := .bool (true)) rfl) rfl ?_
              refine rl_det (met_none rfl) (fun h_ H_ => exd_assign (v := .bool (true)) rfl) rfl ?_
              refine rl_end ?_
              refine fl_retE (by kernel_rfl) Try.func14 rfl (vs := [.bool (true)]) (fun h_ H_ => ⟨.bool (true), _, rfl, rfl, rfl⟩) (v := .bool (true)) rfl ?_
              exact fun h_ H_ => K _ _ ⟨rfl, H_.kept⟩
            · refine rl_det (met_some rfl rfl (decide_eq_false cc27)) (fun h_ H_ => exd_move (v := .int .i64 ((startR size start (setRain ds (k1).toNat k2 k3)).2)) rfl) (tm' := [_,_,_,_,_,_,_,_,_,_,_,_,_,_,_,_,_,_,_,_,_,_,_,_,_,_,_,_,_,_,_,_,_,_,_,_,_,_,_,_,_,_,_,_,_,_,_,_,_,_,_,_,_,_,_,_,_,_,_,_,_,_,_,_,_,_,_,_,_,_,_,_,_,_,_,_,_,_,_,_,_,_,_,_,_,_,_,_,_,_,_,_,_,_,_,_,_,_,_,_,_,_,_,_,_,_,_,_,_,_,_,_,_,_,_,_,_,_,_,_,_,_,_,_,_,_,_,_,_,_,_,_,_,_,_,_,_,_,_,_,_,_,_,_,_,_,_,_,_,_,_,_,_,_,_,_,_,_,_,_,_,_,_,_,_,_,_,_,_,_,_,_,_,_,_,_,_,_,_,_,_,_,_,_,_,_,_,_,_,_,_,_,_,_,_,_,_,_,_,_,_,_,_,_,_,_,_,_,_,_,_,_,_,_,_,_,_,_,_,_,_,_,_,_,_,_,_,_,_,_,_,_,_,_,_,_,_,_,_,_]) rfl ?_
              refine rl_det (met_some rfl rfl (decide_eq_false cc27)) (fun h_ H_ => exd_eql rfl rfl) rfl ?_
              refine rl_det (met_some rfl rfl (decide_eq_false cc27)) (fun h_ H_ => exd_move (v := .bool (decide ((startR size start (setRain ds (k1).toNat k2 k3)).2 = 0))) rfl) rfl ?_
              refine rl_det (met_some rfl rfl (decide_eq_true (by omega))) (fun h_ H_ => exd_move (v := .int .i64 ((startR size start (setRain ds (k1).toNat k2 k3)).1)) rfl) (tm' := [_,_,_,_,_,_,_,_,_,_,_,_,_,_,_,_,_,_,_,_,_,_,_,_,_,_,_,_,_,_,_,_,_,_,_,_,_,_,_,_,_,_,_,_,_,_,_,_,_,_,_,_,_,_,_,_,_,_,_,_,_,_,_,_,_,_,_,_,_,_,_,_,_,_,_,_,_,_,_,_,_,_,_,_,_,_,_,_,_,_,_,_,_,_,_,_,_,_,_,_,_,_,_,_,_,_,_,_,_,_,_,_,_,_,_,_,_,_,_,_,_,_,_,_,_,_,_,_,_,_,_,_,_,_,_,_,_,_,_,_,_,_,_,_,_,_,_,_,_,_,_,_,_,_,_,_,_,_,_,_,_,_,_,_,_,_,_,_,_,_,_,_,_,_,_,_,_,_,_,_,_,_,_,_,_,_,_,_,_,_,_,_,_,_,_,_,_,_,_,_,_,_,_,_,_,_,_,_,_,_,_,_,_,_,_,_,_,_,_,_,_,_,_,_,_,_,_,_,_,_,_,_,_,_,_,_,_,_,_,_]) rfl ?_
              refine rl_det (met_some rfl rfl (decide_eq_true (by omega))) (fun h_ H_ => exd_move (v := .int .i64 ((startR size start ds).1)) rfl) rfl ?_
              refine rl_det (met_some rfl rfl (decide_eq_true (by omega))) (fun h_ H_ => exd_leq rfl rfl) rfl ?_
              refine rl_det (met_some rfl rfl (decide_eq_false cc27)) (fun h_ H_ => exd_pick_t rfl (decide_eq_true (by omega)) (v := .bool (decide ((startR size start (setRain ds (k1).toNat k2 k3)).1 ≤ (startR size start ds).1))) rfl) (tm' := [_,_,_,_,_,_,_,_,_,_,_,_,_,_,_,_,_,_,_,_,_,_,_,_,_,_,_,_,_,_,_,_,_,_,_,_,_,_,_,_,_,_,_,_,_,_,_,_,_,_,_,_,_,_,_,_,_,_,_,_,_,_,_,_,_,_,_,_,_,_,_,_,_,_,_,_,_,_,_,_,_,_,_,_,_,_,_,_,_,_,_,_,_,_,_,_,_,_,_,_,_,_,_,_,_,_,_,_,_,_,_,_,_,_,_,_,_,_,_,_,_,_,_,_,_,_,_,_,_,_,_,_,_,_,_,_,_,_,_,_,_,_,_,_,_,_,_,_,_,_,_,_,_,_,_,_,_,_,_,_,_,_,_,_,_,_,_,_,_,_,_,_,_,_,_,_,_,_,_,_,_,_,_,_,_,_,_,_,_,_,_,_,_,_,_,_,_,_,_,_,_,_,_,_,_,_,_,_,_,_,_,_,_,_,_,_,_,_,_,_,_,_,_,_,_,_,_,_,_,_,_,_,_,_,_,_,_,_,_,_]) rfl ?_
              refine rl_det (met_none rfl) (fun h_ H_ => exd_pick_f rfl (decide_eq_false cc27) (v := .bool (decide ((startR size start (setRain ds (k1).toNat k2 k3)).1 ≤ (startR size start ds).1))) rfl) rfl ?_
              refine rl_det (met_none rfl) (fun h_ H_ => exd_move (v := .bool (decide ((startR size start (setRain ds (k1).toNat k2 k3)).1 ≤ (startR size start ds).1))) rfl) rfl ?_
              refine rl_calld (met_some rfl rfl (decide_eq_true (by omega))) (first := []) (cap := []) rfl rfl fC18 (fun h_ H_ => c18 _) (tm' := [_,_,_,_,_,_,_,_,_,_,_,_,_,_,_,_,_,_,_,_,_,_,_,_,_,_,_,_,_,_,_,_,_,_,_,_,_,_,_,_,_,_,_,_,_,_,_,_,_,_,_,_,_,_,_,_,_,_,_,_,_,_,_,_,_,_,_,_,_,_,_,_,_,_,_,_,_,_,_,_,_,_,_,_,_,_,_,_,_,_,_,_,_,_,_,_,_,_,_,_,_,_,_,_,_,_,_,_,_,_,_,_,_,_,_,_,_,_,_,_,_,_,_,_,_,_,_,_,_,_,_,_,_,_,_,_,_,_,_,_,_,_,_,_,_,_,_,_,_,_,_,_,_,_,_,_,_,_,_,_,_,_,_,_,_,_,_,_,_,_,_,_,_,_,_,_,_,_,_,_,_,_,_,_,_,_,_,_,_,_,_,_,_,_,_,_,_,_,_,_,_,_,_,_,_,_,_,_,_,_,_,_,_,_,_,_,_,_,_,_,_,_,_,_,_,_,_,_,_,_,_,_,_,_,_,_,_,_,_,_]) rfl ?_
              refine rl_det (met_none rfl) (fun h_ H_ => exd_pick_t rfl (decide_eq_true (by omega)) (v := .bool (true)) rfl) rfl ?_
              refine rl_det (met_none rfl) (fun h_ H_ => exd_assign (v := .bool (true)) rfl) rfl ?_
              refine rl_end ?_
              refine fl_retE (by kernel_rfl) Try.func14 rfl (vs := [.bool (true)]) (fun h_ H_ => ⟨.bool (true), _, rfl, rfl, rfl⟩) (v := .bool (true)) rfl ?_
              exact fun h_ H_ => K _ _ ⟨rfl, H_.kept⟩
          · refine rl_pass (met_not rfl rfl (decide_eq_false cc26)) (tm' := [_,_,_,_,_,_,_,_,_,_,_,_,_,_,_,_,_,_,_,_,_,_,_,_,_,_,_,_,_,_,_,_,_,_,_,_,_,_,_,_,_,_,_,_,_,_,_,_,_,_,_,_,_,_,_,_,_,_,_,_,_,_,_,_,_,_,_,_,_,_,_,_,_,_,_,_,_,_,_,_,_,_,_,_,_,_,_,_,_,_,_,_,_,_,_,_,_,_,_,_,_,_,_,_,_,_,_,_,_,_,_,_,_,_,_,_,_,_,_,_,_,_,_,_,_,_,_,_,_,_,_,_,_,_,_,_,_,_,_,_,_,_,_,_,_,_,_,_,_,_,_,_,_,_,_,_,_,_,_,_,_,_,_,_,_,_,_,_,_,_,_,_,_,_,_,_,_,_,_,_,_,_,_,_,_,_,_,_,_,_,_,_,_,_,_,_,_,_,_,_,_,_,_,_,_,_,_,_,_,_,_,_,_,_,_,_,_,_,_,_,_,_,_,_,_,_,_,_,_,_,_,_,_,_,_,_,_,_,_,_]) rfl ?_
            refine rl_pass (met_not rfl rfl (decide_eq_false cc26)) rfl ?_
            refine rl_pass (met_not rfl rfl (decide_eq_false cc26)) rfl ?_
            refine rl_pass (met_undef rfl rfl) (tm' := [_,_,_,_,_,_,_,_,_,_,_,_,_,_,_,_,_,_,_,_,_,_,_,_,_,_,_,_,_,_,_,_,_,_,_,_,_,_,_,_,_,_,_,_,_,_,_,_,_,_,_,_,_,_,_,_,_,_,_,_,_,_,_,_,_,_,_,_,_,_,_,_,_,_,_,_,_,_,_,_,_,_,_,_,_,_,_,_,_,_,_,_,_,_,_,_,_,_,_,_,_,_,_,_,_,_,_,_,_,_,_,_,_,_,_,_,_,_,_,_,_,_,_,_,_,_,_,_,_,_,_,_,_,_,_,_,_,_,_,_,_,_,_,_,_,_,_,_,_,_,_,_,_,_,_,_,_,_,_,_,_,_,_,_,_,_,_,_,_,_,_,_,_,_,_,_,_,_,_,_,_,_,_,_,_,_,_,_,_,_,_,_,_,_,_,_,_,_,_,_,_,_,_,_,_,_,_,_,_,_,_,_,_,_,_,_,_,_,_,_,_,_,_,_,_,_,_,_,_,_,_,_,_,_,_,_,_,_,_,_]) rfl ?_
            refine rl_pass (met_undef rfl rfl) rfl ?_
            refine rl_pass (met_undef rfl rfl) rfl ?_
            refine rl_pass (met_not rfl rfl (decide_eq_false cc26)) (tm' := [_,_,_,_,_,_,_,_,_,_,_,_,_,_,_,_,_,_,_,_,_,_,_,_,_,_,_,_,_,_,_,_,_,_,_,_,_,_,_,_,_,_,_,_,_,_,_,_,_,_,_,_,_,_,_,_,_,_,_,_,_,_,_,_,_,_,_,_,_,_,_,_,_,_,_,_,_,_,_,_,_,_,_,_,_,_,_,_,_,_,_,_,_,_,_,_,_,_,_,_,_,_,_,_,_,_,_,_,_,_,_,_,_,_,_,_,_,_,_,_,_,_,_,_,_,_,_,_,_,_,_,_,_,_,_,_,_,_,_,_,_,_,_,_,_,_,_,_,_,_,_,_,_,_,_,_,_,_,_,_,_,_,_,_,_,_,_,_,_,_,_,_,_,_,_,_,_,_,_,_,_,_,_,_,_,_,_,_,_,_,_,_,_,_,_,_,_,_,_,_,_,_,_,_,_,_,_,_,_,_,_,_,_,_,_,_,_,_,_,_,_,_,_,_,_,_,_,_,_,_,_,_,_,_,_,_,_,_,_,_]) rfl ?_
            refine rl_det (met_none rfl) (fun h_ H_ => exd_pick_f rfl (decide_eq_false cc26) (v := .bool (false)) rfl) rfl ?_
            refine rl_det (met_none rfl) (fun h_ H_ => exd_move (v := .bool (false)) rfl) rfl ?_
            refine rl_det (met_some rfl rfl rfl) (fun h_ H_ => exd_move (v := .int .i64 0) rfl) (tm' := [_,_,_,_,_,_,_,_,_,_,_,_,_,_,_,_,_,_,_,_,_,_,_,_,_,_,_,_,_,_,_,_,_,_,_,_,_,_,_,_,_,_,_,_,_,_,_,_,_,_,_,_,_,_,_,_,_,_,_,_,_,_,_,_,_,_,_,_,_,_,_,_,_,_,_,_,_,_,_,_,_,_,_,_,_,_,_,_,_,_,_,_,_,_,_,_,_,_,_,_,_,_,_,_,_,_,_,_,_,_,_,_,_,_,_,_,_,_,_,_,_,_,_,_,_,_,_,_,_,_,_,_,_,_,_,_,_,_,_,_,_,_,_,_,_,_,_,_,_,_,_,_,_,_,_,_,_,_,_,_,_,_,_,_,_,_,_,_,_,_,_,_,_,_,_,_,_,_,_,_,_,_,_,_,_,_,_,_,_,_,_,_,_,_,_,_,_,_,_,_,_,_,_,_,_,_,_,_,_,_,_,_,_,_,_,_,_,_,_,_,_,_,_,_,_,_,_,_,_,_,_,_,_,_,_,_,_,_,_,_]) rfl ?_
            refine rl_det (met_some rfl rfl rfl) (fun h_ H_ => exd_neq rfl rfl) rfl ?_
            refine rl_det (met_none rfl) (fun h_ H_ => exd_pick_f rfl rfl (v := .bool (decide ((0 : Int) ≠ 0))) rfl) rfl ?_
            refine rl_det (met_none rfl) (fun h_ H_ => exd_move (v := .bool (decide ((0 : Int) ≠ 0))) rfl) (tm' := [_,_,_,_,_,_,_,_,_,_,_,_,_,_,_,_,_,_,_,_,_,_,_,_,_,_,_,_,_,_,_,_,_,_,_,_,_,_,_,_,_,_,_,_,_,_,_,_,_,_,_,_,_,_,_,_,_,_,_,_,_,_,_,_,_,_,_,_,_,_,_,_,_,_,_,_,_,_,_,_,_,_,_,_,_,_,_,_,_,_,_,_,_,_,_,_,_,_,_,_,_,_,_,_,_,_,_,_,_,_,_,_,_,_,_,_,_,_,_,_,_,_,_,_,_,_,_,_,_,_,_,_,_,_,_,_,_,_,_,_,_,_,_,_,_,_,_,_,_,_,_,_,_,_,_,_,_,_,_,_,_,_,_,_,_,_,_,_,_,_,_,_,_,_,_,_,_,_,_,_,_,_,_,_,_,_,_,_,_,_,_,_,_,_,_,_,_,_,_,_,_,_,_,_,_,_,_,_,_,_,_,_,_,_,_,_,_,_,_,_,_,_,_,_,_,_,_,_,_,_,_,_,_,_,_,_,_,_,_,_]) rfl ?_
            refine rl_det (met_some rfl rfl (decide_eq_false (fun h_ => h_ rfl))) (fun h_ H_ => exd_move (v := .int .i64 0) rfl) rfl ?_
            refine rl_det (met_some rfl rfl (decide_eq_false (fun h_ => h_ rfl))) (fun h_ H_ => exd_neq rfl rfl) rfl ?_
            refine rl_det (met_none rfl) (fun h_ H_ => exd_pick_f rfl (decide_eq_false (fun h_ => h_ rfl)) (v := .bool (decide ((0 : Int) ≠ 0))) rfl) (tm' := [_,_,_,_,_,_,_,_,_,_,_,_,_,_,_,_,_,_,_,_,_,_,_,_,_,_,_,_,_,_,_,_,_,_,_,_,_,_,_,_,_,_,_,_,_,_,_,_,_,_,_,_,_,_,_,_,_,_,_,_,_,_,_,_,_,_,_,_,_,_,_,_,_,_,_,_,_,_,_,_,_,_,_,_,_,_,_,_,_,_,_,_,_,_,_,_,_,_,_,_,_,_,_,_,_,_,_,_,_,_,_,_,_,_,_,_,_,_,_,_,_,_,_,_,_,_,_,_,_,_,_,_,_,_,_,_,_,_,_,_,_,_,_,_,_,_,_,_,_,_,_,_,_,_,_,_,_,_,_,_,_,_,_,_,_,_,_,_,_,_,_,_,_,_,_,_,_,_,_,_,_,_,_,_,_,_,_,_,_,_,_,_,_,_,_,_,_,_,_,_,_,_,_,_,_,_,_,_,_,_,_,_,_,_,_,_,_,_,_,_,_,_,_,_,_,_,_,_,_,_,_,_,_,_,_,_,_,_,_,_]) rfl ?_
            refine rl_det (met_none rfl) (fun h_ H_ => exd_move (v := .bool (decide ((0 : Int) ≠ 0))) rfl) rfl ?_
            refine rl_det (met_some rfl rfl (decide_eq_false (fun h_ => h_ rfl))) (fun h_ H_ => exd_move (v := .int .i64 (ratDown size start (setRain ds (k1).toNat k2 k3) 20)) rfl) rfl ?_
            refine rl_det (met_some rfl rfl (decide_eq_false (fun h_ => h_ rfl))) (fun h_ H_ => exd_move (v := .int .i64 (ratDown size start ds 20)) rfl) (tm' := [_,_,_,_,_,_,_,_,_,_,_,_,_,_,_,_,_,_,_,_,_,_,_,_,_,_,_,_,_,_,_,_,_,_,_,_,_,_,_,_,_,_,_,_,_,_,_,_,_,_,_,_,_,_,_,_,_,_,_,_,_,_,_,_,_,_,_,_,_,_,_,_,_,_,_,_,_,_,_,_,_,_,_,_,_,_,_,_,_,_,_,_,_,_,_,_,_,_,_,_,_,_,_,_,_,_,_,_,_,_,_,_,_,_,_,_,_,_,_,_,_,_,_,_,_,_,_,_,_,_,_,_,_,_,_,_,_,_,_,_,_,_,_,_,_,_,_,_,_,_,_,_,_,_,_,_,_,_,_,_,_,_,_,_,_,_,_,_,_,_,_,_,_,_,_,_,_,_,_,_,_,_,_,_,_,_,_,_,_,_,_,_,_,_,_,_,_,_,_,_,_,_,_,_,_,_,_,_,_,_,_,_,_,_,_,_,_,_,_,_,_,_,_,_,_,_,_,_,_,_,_,_,_,_,_,_,_,_,_,_]) rfl ?_
            refine rl_det (met_some rfl rfl (decide_eq_false (fun h_ => h_ rfl))) (fun h_ H_ => exd_lss rfl rfl) rfl ?_
            refine rl_det (met_none rfl) (fun h_ H_ => exd_pick_f rfl (decide_eq_false (fun h_ => h_ rfl)) (v := .bool (decide (ratDown size start (setRain ds (k1).toNat k2 k3) 20 < ratDown size start ds 20))) rfl) rfl ?_
            refine rl_end ?_
            refine fl_else rfl (decide_eq_false (by omega)) ?_
            refine fl_skip ?_
            refine fl_seq ?_
            refine rl_start ?_
            refine rl_det (met_none rfl) (fun h_ H_ => exd_loadN_own H_ tA24 tS24 rfl (i := 2) rfl (vs := [.int .i64 (size), .int .i64 (start), .slice a n c]) rfl rfl) (tm' := [_,_,_,_,_,_,_,_,_,_,_,_,_,_,_,_,_,_,_,_,_,_,_,_,_,_,_,_,_,_,_,_,_,_,_,_,_,_,_,_,_,_,_,_,_,_,_,_,_,_,_,_,_,_,_,_,_,_,_,_,_,_,_,_,_,_,_,_,_,_,_,_,_,_,_,_,_,_,_,_,_,_,_,_,_,_,_,_,_,_,_,_,_,_,_,_,_,_,_,_,_,_,_,_,_,_,_,_,_,_,_,_,_,_,_,_,_,_,_,_,_,_,_,_,_,_,_,_,_,_,_,_,_,_,_,_,_,_,_,_,_,_,_,_,_,_,_,_,_,_,_,_,_,_,_,_,_,_,_,_,_,_,_,_,_,_,_,_,_,_,_,_,_,_,_,_,_,_,_,_,_,_,_,_,_,_,_,_,_,_,_,_,_,_,_,_,_,_,_,_,_,_,_,_,_,_,_,_,_,_,_,_,_,_,_,_,_,_,_,_,_,_,_,_,_,_,_,_,_,_,_,_,_,_,_,_,_,_,_,_]) rfl ?_
            refine rl_calld (met_none rfl) (first := []) (cap := []) rfl rfl fC46 (fun h_ H_ => c46 (.main true) _ _ (fun b_ o_ e_ => H_.per b_ o_ e_) (size) (start) _ _ _ _ (D.mono le17) (by omega)) rfl ?_
            refine rl_det (met_none rfl) (fun h_ H_ => exd_move (v := .tuple #[.int .i64 ((startR size start ds).1), .int .i64 ((startR size start ds).2)]) rfl) rfl ?_
            refine rl_det (met_none rfl) (fun h_ H_ => exd_extract rfl (v := .int .i64 ((startR size start ds).1)) rfl) (tm' := [_,_,_,_,_,_,_,_,_,_,_,_,_,_,_,_,_,_,_,_,_,_,_,_,_,_,_,_,_,_,_,_,_,_,_,_,_,_,_,_,_,_,_,_,_,_,_,_,_,_,_,_,_,_,_,_,_,_,_,_,_,_,_,_,_,_,_,_,_,_,_,_,_,_,_,_,_,_,_,_,_,_,_,_,_,_,_,_,_,_,_,_,_,_,_,_,_,_,_,_,_,_,_,_,_,_,_,_,_,_,_,_,_,_,_,_,_,_,_,_,_,_,_,_,_,_,_,_,_,_,_,_,_,_,_,_,_,_,_,_,_,_,_,_,_,_,_,_,_,_,_,_,_,_,_,_,_,_,_,_,_,_,_,_,_,_,_,_,_,_,_,_,_,_,_,_,_,_,_,_,_,_,_,_,_,_,_,_,_,_,_,_,_,_,_,_,_,_,_,_,_,_,_,_,_,_,_,_,_,_,_,_,_,_,_,_,_,_,_,_,_,_,_,_,_,_,_,_,_,_,_,_,_,_,_,_,_,_,_,_]) rfl ?_
            refine rl_det (met_none rfl) (fun h_ H_ => exd_extract rfl (v := .int .i64 ((startR size start ds).2)) rfl) rfl ?_
            refine rl_det (met_none rfl) (fun h_ H_ => exd_assign (v := .int .i64 ((startR size start ds).1)) rfl) rfl ?_
            refine rl_det (met_none rfl) (fun h_ H_ => exd_assign (v := .int .i64 ((startR size start ds).2)) rfl) (tm' := _::_::_::_::_::_::_::_::_::_::_::_::_::_::_::_::_::_::_::_::_::_::_::_) rfl ?_
            refine rl_end ?_
            refine fl_seq ?_
            refine rl_start ?_
            refine rl_det (met_none rfl) (fun h_ H_ => exd_loadN_own H_ tA24 tS24 rfl (i := 0) rfl (vs := [.int .i64 (size), .int .i64 (start), .slice a15 n cp16]) rfl rfl) rfl ?_
            refine rl_calld (met_none rfl) (first := []) (cap := []) rfl rfl fC46 (fun h_ H_ => c46 (.main true) _ _ (fun b_ o_ e_ => H_.per b_ o_ e_) (size) (start) _ _ _ _ (show Days _ _ _ (setRain ds (k1).toNat k2 k3) from D18) (by omega)) rfl ?_
            refine rl_det (met_none rfl) (fun h_ H_ => exd_move (v := .tuple #[.int .i64 ((startR size start (setRain ds (k1).toNat k2 k3)).1), .int .i64 ((startR size start (setRain ds (k1).toNat k2 k3)).2)]) rfl) (tm' := [_,_,_,_,_,_,_,_,_,_,_,_,_,_,_,_,_,_,_,_,_,_,_,_,_,_,_,_,_,_,_,_,_,_,_,_,_,_,_,_,_,_,_,_,_,_,_,_,_,_,_,_,_,_,_,_,_,_,_,_,_,_,_,_,_,_,_,_,_,_,_,_,_,_,_,_,_,_,_,_,_,_,_,_,_,_,_,_,_,_,_,_,_,_,_,_,_,_,_,_,_,_,_,_,_,_,_,_,_,_,_,_,_,_,_,_,_,_,_,_,_,_,_,_,_,_,_,_,_,_,_,_,_,_,_,_,_,_,_,_,_,_,_,_,_,_,_,_,_,_,_,_,_,_,_,_,_,_,_,_,_,_,_,_,_,_,_,_,_,_,_,_,_,_,_,_,_,_,_,_,_,_,_,_,_,_,_,_,_,_,_,_,_,_,_,_,_,_,_,_,_,_,_,_,_,_,_,_,_,_,_,_,_,_,_,_,_,_,_,_,_,_,_,_,_,_,_,_,_,_,_,_,_,_,_,_,_,_,_,_]) rfl ?_
            refine rl_det (met_none rfl) (fun h_ H_ => exd_extract rfl (v := .int .i64 ((startR size start (setRain ds (k1).toNat k2 k3)).1)) rfl) rfl ?_
            refine rl_det (met_none rfl) (fun h_ H_ => exd_extract rfl (v := .int .i64 ((startR size start (setRain ds (k1).toNat k2 k3)).2)) rfl) rfl ?_
            refine rl_det (met_none rfl) (fun h_ H_ => exd_assign (v := .int .i64 ((startR size start (setRain ds (k1).toNat k2 k3)).1)) rfl) (tm' := _::_::_::_::_::_::_::_::_::_::_::_::_::_::_::_::_::_::_::_::_::_::_::_::_) rfl ?_
            refine rl_det (met_none rfl) (fun h_ H_ => exd_assign (v := .int .i64 ((startR size start (setRain ds (k1).toNat k2 k3)).2)) rfl) rfl ?_
            refine rl_end ?_
            refine fl_seq ?_
            refine rl_start ?_
            refine rl_det (met_none rfl) (fun h_ H_ => exd_move (v := .int .i64 ((startR size start ds).2)) rfl) rfl ?_
            refine rl_det (met_none rfl) (fun h_ H_ => exd_neq rfl rfl) (tm' := [_,_,_,_,_,_,_,_,_,_,_,_,_,_,_,_,_,_,_,_,_,_,_,_,_,_,_,_,_,_,_,_,_,_,_,_,_,_,_,_,_,_,_,_,_,_,_,_,_,_,_,_,_,_,_,_,_,_,_,_,_,_,_,_,_,_,_,_,_,_,_,_,_,_,_,_,_,_,_,_,_,_,_,_,_,_,_,_,_,_,_,_,_,_,_,_,_,_,_,_,_,_,_,_,_,_,_,_,_,_,_,_,_,_,_,_,_,_,_,_,_,_,_,_,_,_,_,_,_,_,_,_,_,_,_,_,_,_,_,_,_,_,_,_,_,_,_,_,_,_,_,_,_,_,_,_,_,_,_,_,_,_,_,_,_,_,_,_,_,_,_,_,_,_,_,_,_,_,_,_,_,_,_,_,_,_,_,_,_,_,_,_,_,_,_,_,_,_,_,_,_,_,_,_,_,_,_,_,_,_,_,_,_,_,_,_,_,_,_,_,_,_,_,_,_,_,_,_,_,_,_,_,_,_,_,_,_,_,_,_]) rfl ?_
            refine rl_det (met_none rfl) (fun h_ H_ => exd_move (v := .bool (decide ((startR size start ds).2 ≠ 0))) rfl) rfl ?_
            by_cases cc28 : (startR size start ds).2 ≠ 0
            · refine rl_pass (met_not rfl rfl (decide_eq_true cc28)) rfl ?_
              refine rl_pass (met_not rfl rfl (decide_eq_true cc28)) (tm' := [_,_,_,_,_,_,_,_,_,_,_,_,_,_,_,_,_,_,_,_,_,_,_,_,_,_,_,_,_,_,_,_,_,_,_,_,_,_,_,_,_,_,_,_,_,_,_,_,_,_,_,_,_,_,_,_,_,_,_,_,_,_,_,_,_,_,_,_,_,_,_,_,_,_,_,_,_,_,_,_,_,_,_,_,_,_,_,_,_,_,_,_,_,_,_,_,_,_,_,_,_,_,_,_,_,_,_,_,_,_,_,_,_,_,_,_,_,_,_,_,_,_,_,_,_,_,_,_,_,_,_,_,_,_,_,_,_,_,_,_,_,_,_,_,_,_,_,_,_,_,_,_,_,_,_,_,_,_,_,_,_,_,_,_,_,_,_,_,_,_,_,_,_,_,_,_,_,_,_,_,_,_,_,_,_,_,_,_,_,_,_,_,_,_,_,_,_,_,_,_,_,_,_,_,_,_,_,_,_,_,_,_,_,_,_,_,_,_,_,_,_,_,_,_,_,_,_,_,_,_,_,_,_,_,_,_,_,_,_,_]) rfl ?_
              refine rl_pass (met_not rfl rfl (decide_eq_true cc28)) rfl ?_
              refine rl_pass (met_undef rfl rfl) rfl ?_
              refine rl_pass (met_undef rfl rfl) (tm' := [_,_,_,_,_,_,_,_,_,_,_,_,_,_,_,_,_,_,_,_,_,_,_,_,_,_,_,_,_,_,_,_,_,_,_,_,_,_,_,_,_,_,_,_,_,_,_,_,_,_,_,_,_,_,_,_,_,_,_,_,_,_,_,_,_,_,_,_,_,_,_,_,_,_,_,_,_,_,_,_,_,_,_,_,_,_,_,_,_,_,_,_,_,_,_,_,_,_,_,_,_,_,_,_,_,_,_,_,_,_,_,_,_,_,_,_,_,_,_,_,_,_,_,_,_,_,_,_,_,_,_,_,_,_,_,_,_,_,_,_,_,_,_,_,_,_,_,_,_,_,_,_,_,_,_,_,_,_,_,_,_,_,_,_,_,_,_,_,_,_,_,_,_,_,_,_,_,_,_,_,_,_,_,_,_,_,_,_,_,_,_,_,_,_,_,_,_,_,_,_,_,_,_,_,_,_,_,_,_,_,_,_,_,_,_,_,_,_,_,_,_,_,_,_,_,_,_,_,_,_,_,_,_,_,_,_,_,_,_,_]) rfl ?_
              refine rl_pass (met_undef rfl rfl) rfl ?_
              refine rl_pass (met_not rfl rfl (decide_eq_true cc28)) rfl ?_
              refine rl_det (met_none rfl) (fun h_ H_ => exd_pick_t rfl (decide_eq_true cc28) (v := .bool (true)) rfl) (tm' := [_,_,_,_,_,_,_,_,_,_,_,_,_,_,_,_,_,_,_,_,_,_,_,_,_,_,_,_,_,_,_,_,_,_,_,_,_,_,_,_,_,_,_,_,_,_,_,_,_,_,_,_,_,_,_,_,_,_,_,_,_,_,_,_,_,_,_,_,_,_,_,_,_,_,_,_,_,_,_,_,_,_,_,_,_,_,_,_,_,_,_,_,_,_,_,_,_,_,_,_,_,_,_,_,_,_,_,_,_,_,_,_,_,_,_,_,_,_,_,_,_,_,_,_,_,_,_,_,_,_,_,_,_,_,_,_,_,_,_,_,_,_,_,_,_,_,_,_,_,_,_,_,_,_,_,_,_,_,_,_,_,_,_,_,_,_,_,_,_,_,_,_,_,_,_,_,_,_,_,_,_,_,_,_,_,_,_,_,_,_,_,_,_,_,_,_,_,_,_,_,_,_,_,_,_,_,_,_,_,_,_,_,_,_,_,_,_,_,_,_,_,_,_,_,_,_,_,_,_,_,_,_,_,_,_,_,_,_,_,_]) rfl ?_
              refine rl_det (met_none rfl) (fun h_ H_ => exd_move (v := .bool (true)) rfl) rfl ?_
              refine rl_calld (met_some rfl rfl rfl) (first := []) (cap := []) rfl rfl fC18 (fun h_ H_ => c18 _) rfl ?_
              refine rl_det (met_none rfl) (fun h_ H_ => exd_pick_t rfl rfl (v := .bool (true)) rfl) (tm' := [_,_,_,_,_,_,_,_,_,_,_,_,_,_,_,_,_,_,_,_,_,_,_,_,_,_,_,_,_,_,_,_,_,_,_,_,_,_,_,_,_,_,_,_,_,_,_,_,_,_,_,_,_,_,_,_,_,_,_,_,_,_,_,_,_,_,_,_,_,_,_,_,_,_,_,_,_,_,_,_,_,_,_,_,_,_,_,_,_,_,_,_,_,_,_,_,_,_,_,_,_,_,_,_,_,_,_,_,_,_,_,_,_,_,_,_,_,_,_,_,_,_,_,_,_,_,_,_,_,_,_,_,_,_,_,_,_,_,_,_,_,_,_,_,_,_,_,_,_,_,_,_,_,_,_,_,_,_,_,_,_,_,_,_,_,_,_,_,_,_,_,_,_,_,_,_,_,_,_,_,_,_,_,_,_,_,_,_,_,_,_,_,_,_,_,_,_,_,_,_,_,_,_,_,_,_,_,_,_,_,_,_,_,_,_,_,_,_,_,_,_,_,_,_,_,_,_,_,_,_,_,_,_,_,_,_,_,_,_,_]) rfl ?_
              refine rl_det (met_none rfl) (fun h_ H_ => exd_assign (v := .bool (true)) rfl) rfl ?_
              refine rl_end ?_
              refine fl_retE (by kernel_rfl) Try.func14 rfl (vs := [.bool (true)]) (fun h_ H_ => ⟨.bool (true), _, rfl, rfl, rfl⟩) (v := .bool (true)) rfl ?_
              exact fun h_ H_ => K _ _ ⟨rfl, H_.kept⟩
            · refine rl_det (met_some rfl rfl (decide_eq_false cc28)) (fun h_ H_ => exd_move (v := .int .i64 ((startR size start (setRain ds (k1).toNat k2 k3)).2)) rfl) rfl ?_
              refine rl_det (met_some rfl rfl (decide_eq_false cc28)) (fun h_ H_ => exd_eql rfl rfl) (tm' := [_,_,_,_,_,_,_,_,_,_,_,_,_,_,_,_,_,_,_,_,_,_,_,_,_,_,_,_,_,_,_,_,_,_,_,_,_,_,_,_,_,_,_,_,_,_,_,_,_,_,_,_,_,_,_,_,_,_,_,_,_,_,_,_,_,_,_,_,_,_,_,_,_,_,_,_,_,_,_,_,_,_,_,_,_,_,_,_,_,_,_,_,_,_,_,_,_,_,_,_,_,_,_,_,_,_,_,_,_,_,_,_,_,_,_,_,_,_,_,_,_,_,_,_,_,_,_,_,_,_,_,_,_,_,_,_,_,_,_,_,_,_,_,_,_,_,_,_,_,_,_,_,_,_,_,_,_,_,_,_,_,_,_,_,_,_,_,_,_,_,_,_,_,_,_,_,_,_,_,_,_,_,_,_,_,_,_,_,_,_,_,_,_,_,_,_,_,_,_,_,_,_,_,_,_,_,_,_,_,_,_,_,_,_,_,_,_,_,_,_,_,_,_,_,_,_,_,_,_,_,_,_,_,_,_,_,_,_,_,_]) rfl ?_
              refine rl_det (met_some rfl rfl (decide_eq_false cc28)) (fun h_ H_ => exd_move (v := .bool (decide ((startR size start (setRain ds (k1).toNat k2 k3)).2 = 0))) rfl) rfl ?_
              refine rl_det (met_some rfl rfl (decide_eq_true (by omega))) (fun h_ H_ => exd_move (v := .int .i64 ((startR size start (setRain ds (k1).toNat k2 k3)).1)) rfl) rfl ?_
              refine rl_det (met_some rfl rfl (decide_eq_true (by omega))) (fun h_ H_ => exd_move (v := .int .i64 ((startR size start ds).1)) rfl) (tm' := [_,_,_,_,_,_,_,_,_,_,_,_,_,_,_,_,_,_,_,_,_,_,_,_,_,_,_,_,_,_,_,_,_,_,_,_,_,_,_,_,_,_,_,_,_,_,_,_,_,_,_,_,_,_,_,_,_,_,_,_,_,_,_,_,_,_,_,_,_,_,_,_,_,_,_,_,_,_,_,_,_,_,_,_,_,_,_,_,_,_,_,_,_,_,_,_,_,_,_,_,_,_,_,_,_,_,_,_,_,_,_,_,_,_,_,_,_,_,_,_,_,_,_,_,_,_,_,_,_,_,_,_,_,_,_,_,_,_,_,_,_,_,_,_,_,_,_,_,_,_,_,_,_,_,_,_,_,_,_,_,_,_,_,_,_,_,_,_,_,_,_,_,_,_,_,_,_,_,_,_,_,_,_,_,_,_,_,_,_,_,_,_,_,_,_,_,_,_,_,_,_,_,_,_,_,_,_,_,_,_,_,_,_,_,_,_,_,_,_,_,_,_,_,_,_,_,_,_,_,_,_,_,_,_,_,_,_,_,_,_]) rfl ?_
              refine rl_det (met_some rfl rfl (decide_eq_true (by omega))) (fun h_ H_ => exd_leq rfl rfl) rfl ?_
              refine rl_det (met_some rfl rfl (decide_eq_false cc28)) (fun h_ H_ => exd_pick_t rfl (decide_eq_true (by omega)) (v := .bool (decide ((startR size start (setRain ds (k1).toNat k2 k3)).1 ≤ (startR size start ds).1))) rfl) rfl ?_
              refine rl_det (met_none rfl) (fun h_ H_ => exd_pick_f rfl (decide_eq_false cc28) (v := .bool (decide ((startR size start (setRain ds (k1).toNat k2 k3)).1 ≤ (startR size start ds).1))) rfl) (tm' := [_,_,_,_,_,_,_,_,_,_,_,_,_,_,_,_,_,_,_,_,_,_,_,_,_,_,_,_,_,_,_,_,_,_,_,_,_,_,_,_,_,_,_,_,_,_,_,_,_,_,_,_,_,_,_,_,_,_,_,_,_,_,_,_,_,_,_,_,_,_,_,_,_,_,_,_,_,_,_,_,_,_,_,_,_,_,_,_,_,_,_,_,_,_,_,_,_,_,_,_,_,_,_,_,_,_,_,_,_,_,_,_,_,_,_,_,_,_,_,_,_,_,_,_,_,_,_,_,_,_,_,_,_,_,_,_,_,_,_,_,_,_,_,_,_,_,_,_,_,_,_,_,_,_,_,_,_,_,_,_,_,_,_,_,_,_,_,_,_,_,_,_,_,_,_,_,_,_,_,_,_,_,_,_,_,_,_,_,_,_,_,_,_,_,_,_,_,_,_,_,_,_,_,_,_,_,_,_,_,_,_,_,_,_,_,_,_,_,_,_,_,_,_,_,_,_,_,_,_,_,_,_,_,_,_,_,_,_,_,_]) rfl ?_
              refine rl_det (met_none rfl) (fun h_ H_ => exd_move (v := .bool (decide ((startR size start (setRain ds (k1).toNat k2 k3)).1 ≤ (startR size start ds).1))) rfl) rfl ?_
              refine rl_calld (met_some rfl rfl (decide_eq_true (by omega))) (first := []) (cap := []) rfl rfl fC18 (fun h_ H_ => c18 _) rfl ?_
              refine rl_det (met_none rfl) (fun h_ H_ => exd_pick_t rfl (decide_eq_true (by omega)) (v := .bool (true)) rfl) (tm' := [_,_,_,_,_,_,_,_,_,_,_,_,_,_,_,_,_,_,_,_,_,_,_,_,_,_,_,_,_,_,_,_,_,_,_,_,_,_,_,_,_,_,_,_,_,_,_,_,_,_,_,_,_,_,_,_,_,_,_,_,_,_,_,_,_,_,_,_,_,_,_,_,_,_,_,_,_,_,_,_,_,_,_,_,_,_,_,_,_,_,_,_,_,_,_,_,_,_,_,_,_,_,_,_,_,_,_,_,_,_,_,_,_,_,_,_,_,_,_,_,_,_,_,_,_,_,_,_,_,_,_,_,_,_,_,_,_,_,_,_,_,_,_,_,_,_,_,_,_,_,_,_,_,_,_,_,_,_,_,_,_,_,_,_,_,_,_,_,_,_,_,_,_,_,_,_,_,_,_,_,_,_,_,_,_,_,_,_,_,_,_,_,_,_,_,_,_,_,_,_,_,_,_,_,_,_,_,_,_,_,_,_,_,_,_,_,_,_,_,_,_,_,_,_,_,_,_,_,_,_,_,_,_,_,_,_,_,_,_,_]) rfl ?_
              refine rl_det (met_none rfl) (fun h_ H_ => exd_assign (v := .bool (true)) rfl) rfl ?_
              refine rl_end ?_
              refine fl_retE (by kernel_rfl) Try.func14 rfl (vs := [.bool (true)]) (fun h_ H_ => ⟨.bool (true), _, rfl, rfl, rfl⟩) (v := .bool (true)) rfl ?_
              exact fun h_ H_ => K _ _ ⟨rfl, H_.kept⟩
      · refine fl_then rfl (not_t (decide_eq_false cc5)) ?_
        refine fl_seq ?_
        refine rl_start ?_
        refine rl_calld (met_none rfl) (first := []) (cap := []) rfl rfl fC18 (fun h_ H_ => c18 _) rfl ?_
        refine rl_det (met_none rfl) (fun h_ H_ => exd_assign (v := .bool (true)) rfl) (tm' := _::_::_::_::_::_) rfl ?_
        refine rl_end ?_
        refine fl_retE (by kernel_rfl) Try.func14 rfl (vs := [.bool (true)]) (fun h_ H_ => ⟨.bool (true), _, rfl, rfl, rfl⟩) (v := .bool (true)) rfl ?_
        exact fun h_ H_ => K _ _ ⟨rfl, H_.kept⟩
    · refine fl_drawn2 20 [[], [0], [0], [0, 1, 2], [], [0, 1, 2], [0, 1, 2, 5], [0, 1, 2, 4, 5, 6], [0, 1, 2, 4, 5, 6], [0, 1, 2, 3, 4, 5, 6, 8], [0, 1, 2, 3, 4, 5, 6, 7, 8, 9], [], [11], [], [13], [0, 1, 2, 3, 4, 5, 6, 7, 8, 9], [0, 1, 2, 3, 4, 5, 6, 7, 8, 9, 15], [0, 1, 2, 3, 4, 5, 6, 7, 8, 9, 13, 14, 15, 16], [0, 1, 2, 3, 4, 5, 6, 7, 8, 9, 13, 14, 15, 16, 17], [0, 1, 2, 3, 4, 5, 6, 7, 8, 9, 13, 14, 15, 16, 17, 18], [0, 1, 2, 3, 4, 5, 6, 7, 8, 9, 11, 12, 13, 14, 15, 16, 17, 18, 19], [0, 1, 2, 3, 4, 5, 6, 7, 8, 9, 11, 12, 13, 14, 15, 16, 17, 18, 19, 20], []] mixed (by kernel_rfl) (Nat.le_of_ble_eq_true rfl) ?_
      refine swr_det (met_none rfl) (fun h_ H_ => exd_loadN_own H_ tA24 tS24 rfl (i := 1) rfl (vs := [.int .i64 (size), .int .i64 (start), .slice a n c]) rfl rfl) rfl ?_
      refine swr_call (met_none rfl) (first := []) (cap := []) rfl rfl fC21 (fun h_ H_ => (c21 (.main true) _ _ (fun b_ o_ e_ => H_.per b_ o_ e_) size start _ _ _ _ D).mono fun v_ h2_ ⟨e_, k_⟩ => ⟨e_, H_.call k_⟩) (tm' := _::_::_::_::_::_::_::_::_::_::_::_::_::_::_::_::_::_::_::_::_::_::_::_::_::_::_::_::_::_::_::_) rfl ?_
      refine swr_det (met_none rfl) (fun h_ H_ => exd_not rfl) rfl ?_
      refine swr_det (met_none rfl) (fun h_ H_ => exd_move (v := .bool (!(decide (¬ FarD size start ds ∧ ds.length ≤ 40 ∧ Ok size start ds)))) rfl) (tm' := _::_::_::_::_::_::_::_::_::_::_::_::_::_::_::_::_::_::_::_::_::_::_::_::_::_::_::_::_::_::_::_::_::_) rfl ?_
      refine swr_det (met_some rfl rfl (not_f (decide_eq_true cc3))) (fun h_ H_ => exd_loadN_own H_ tA24 tS24 rfl (i := 1) rfl (vs := [.int .i64 (size), .int .i64 (start), .slice a n c]) rfl rfl) rfl ?_
      refine swr_det (met_some rfl rfl (not_f (decide_eq_true cc3))) (fun h_ H_ => exd_fieldAddr tF60_0 rfl (a' := ⟨b2, 0, none⟩) rfl) (tm' := _::_::_::_::_::_::_::_::_::_::_::_::_::_::_::_::_::_::_::_::_::_::_::_::_::_::_::_::_::_::_::_::_::_::_::_) rfl ?_
      refine swr_det (met_some rfl rfl (not_f (decide_eq_true cc3))) (fun h_ H_ => exd_load_own H_ tA3 rfl (i := 0) rfl (v := .int .i64 (k1)) rfl) rfl ?_
      refine swr_call (met_some rfl rfl (not_f (decide_eq_true cc3))) (first := []) (cap := []) rfl rfl fC26 (fun h_ H_ => (c26 (.main true) _ _ (fun b_ o_ e_ => H_.per b_ o_ e_) (size) (start) _ _ _ _ D (by omega) k1).mono fun v_ h2_ ⟨e_, k_⟩ => ⟨e_, H_.call k_⟩) (tm' := _::_::_::_::_::_::_::_::_::_::_::_::_::_::_::_::_::_::_::_::_::_::_::_::_::_::_::_::_::_::_::_::_::_::_::_::_::_) rfl ?_
      refine swr_det (met_some rfl rfl (not_f (decide_eq_true cc3))) (fun h_ H_ => exd_not rfl) rfl ?_
      refine swr_det (met_none rfl) (fun h_ H_ => exd_pick_f rfl (not_f (decide_eq_true cc3)) (v := .bool (!(decide (IsDay ds k1)))) rfl) (tm' := _::_::_::_::_::_::_::_::_::_::_::_::_::_::_::_::_::_::_::_::_::_::_::_::_::_::_::_::_::_::_::_::_::_::_::_::_::_::_::_) rfl ?_
      refine swr_det (met_none rfl) (fun h_ H_ => exd_move (v := .bool (!(decide (IsDay ds k1)))) rfl) rfl ?_
      refine swr_pass (met_not rfl rfl (not_t (decide_eq_false cc4))) (tm' := _::_::_::_::_::_::_::_::_::_::_::_::_::_::_::_::_::_::_::_::_::_::_::_::_::_::_::_::_::_::_::_::_::_::_::_::_::_::_::_::_::_) rfl ?_
      refine swr_pass (met_not rfl rfl (not_t (decide_eq_false cc4))) rfl ?_
      refine swr_pass (met_not rfl rfl (not_t (decide_eq_false cc4))) (tm' := _::_::_::_::_::_::_::_::_::_::_::_::_::_::_::_::_::_::_::_::_::_::_::_::_::_::_::_::_::_::_::_::_::_::_::_::_::_::_::_::_::_::_::_) rfl ?_
      refine swr_pass (met_not rfl rfl (not_t (decide_eq_false cc4))) rfl ?_
      refine swr_pass (met_not rfl rfl (not_t (decide_eq_false cc4))) (tm' := _::_::_::_::_::_::_::_::_::_::_::_::_::_::_::_::_::_::_::_::_::_::_::_::_::_::_::_::_::_::_::_::_::_::_::_::_::_::_::_::_::_::_::_::_::_) rfl ?_
      refine swr_pass (met_not rfl rfl (not_t (decide_eq_false cc4))) rfl ?_
      refine swr_pass (met_not rfl rfl (not_t (decide_eq_false cc4))) (tm' := _::_::_::_::_::_::_::_::_::_::_::_::_::_::_::_::_::_::_::_::_::_::_::_::_::_::_::_::_::_::_::_::_::_::_::_::_::_::_::_::_::_::_::_::_::_::_::_) rfl ?_
      refine swr_pass (met_not rfl rfl (not_t (decide_eq_false cc4))) rfl ?_
      refine swr_pass (met_not rfl rfl (not_t (decide_eq_false cc4))) (tm' := _::_::_::_::_::_::_::_::_::_::_::_::_::_::_::_::_::_::_::_::_::_::_::_::_::_::_::_::_::_::_::_::_::_::_::_::_::_::_::_::_::_::_::_::_::_::_::_::_::_) rfl ?_
      refine swr_nil rfl ?_
      refine rl_pass (met_not rfl rfl (not_t (decide_eq_false cc4))) (tm' := _::_::_::_::_::_::_::_::_::_::_::_::_::_::_::_::_::_::_::_::_::_::_::_::_::_::_::_::_::_::_::_::_::_::_::_::_::_::_::_::_::_::_::_::_::_::_::_::_::_::_) rfl ?_
      refine rl_pass (met_not rfl rfl (not_t (decide_eq_false cc4))) rfl ?_
      refine rl_det (met_none rfl) (fun h_ H_ => exd_pick_t rfl (not_t (decide_eq_false cc4)) (v := .bool (true)) rfl) rfl ?_
      refine rl_end ?_
      refine fl_then rfl rfl ?_
      refine fl_seq ?_
      refine rl_start ?_
      refine rl_calld (met_none rfl) (first := []) (cap := []) rfl rfl fC18 (fun h_ H_ => c18 _) (tm' := _::_::_::_::_::_::_::_::_::_::_::_::_::_::_::_::_::_::_::_::_::_::_::_::_::_::_::_::_::_::_::_::_::_::_::_::_::_::_::_::_::_::_::_::_::_::_::_::_::_::_::_::_::_) rfl ?_
      refine rl_det (met_none rfl) (fun h_ H_ => exd_assign (v := .bool (true)) rfl) rfl ?_
      refine rl_end ?_
      refine fl_retE (by kernel_rfl) Try.func14 rfl (vs := [.bool (true)]) (fun h_ H_ => ⟨.bool (true), _, rfl, rfl, rfl⟩) (v := .bool (true)) rfl ?_
      exact fun h_ H_ => K _ _ ⟨rfl, H_.kept⟩
  · refine fl_drawn2 20 [[], [0], [0], [0, 1, 2], [], [0, 1, 2], [0, 1, 2, 5], [0, 1, 2, 4, 5, 6], [0, 1, 2, 4, 5, 6], [0, 1, 2, 3, 4, 5, 6, 8], [0, 1, 2, 3, 4, 5, 6, 7, 8, 9], [], [11], [], [13], [0, 1, 2, 3, 4, 5, 6, 7, 8, 9], [0, 1, 2, 3, 4, 5, 6, 7, 8, 9, 15], [0, 1, 2, 3, 4, 5, 6, 7, 8, 9, 13, 14, 15, 16], [0, 1, 2, 3, 4, 5, 6, 7, 8, 9, 13, 14, 15, 16, 17], [0, 1, 2, 3, 4, 5, 6, 7, 8, 9, 13, 14, 15, 16, 17, 18], [0, 1, 2, 3, 4, 5, 6, 7, 8, 9, 11, 12, 13, 14, 15, 16, 17, 18, 19], [0, 1, 2, 3, 4, 5, 6, 7, 8, 9, 11, 12, 13, 14, 15, 16, 17, 18, 19, 20], []] mixed (by kernel_rfl) (Nat.le_of_ble_eq_true rfl) ?_
    refine swr_det (met_none rfl) (fun h_ H_ => exd_loadN_own H_ tA24 tS24 rfl (i := 1) rfl (vs := [.int .i64 (size), .int .i64 (start), .slice a n c]) rfl rfl) (tm' := _::_::_::_::_::_::_::_::_::_::_::_::_::_::_::_::_::_::_::_::_::_::_::_::_::_::_::_::_::_::_) rfl ?_
    refine swr_call (met_none rfl) (first := []) (cap := []) rfl rfl fC21 (fun h_ H_ => (c21 (.main true) _ _ (fun b_ o_ e_ => H_.per b_ o_ e_) size start _ _ _ _ D).mono fun v_ h2_ ⟨e_, k_⟩ => ⟨e_, H_.call k_⟩) rfl ?_
    refine swr_det (met_none rfl) (fun h_ H_ => exd_not rfl) (tm' := _::_::_::_::_::_::_::_::_::_::_::_::_::_::_::_::_::_::_::_::_::_::_::_::_::_::_::_::_::_::_::_::_) rfl ?_
    refine swr_det (met_none rfl) (fun h_ H_ => exd_move (v := .bool (!(decide (¬ FarD size start ds ∧ ds.length ≤ 40 ∧ Ok size start ds)))) rfl) rfl ?_
    refine swr_pass (met_not rfl rfl (not_t (decide_eq_false cc3))) (tm' := _::_::_::_::_::_::_::_::_::_::_::_::_::_::_::_::_::_::_::_::_::_::_::_::_::_::_::_::_::_::_::_::_::_::_) rfl ?_
    refine swr_pass (met_not rfl rfl (not_t (decide_eq_false cc3))) rfl ?_
    refine swr_pass (met_not rfl rfl (not_t (decide_eq_false cc3))) (tm' := _::_::_::_::_::_::_::_::_::_::_::_::_::_::_::_::_::_::_::_::_::_::_::_::_::_::_::_::_::_::_::_::_::_::_::_::_) rfl ?_
    refine swr_pass (met_not rfl rfl (not_t (decide_eq_false cc3))) rfl ?_
    refine swr_pass (met_not rfl rfl (not_t (decide_eq_false cc3))) (tm' := _::_::_::_::_::_::_::_::_::_::_::_::_::_::_::_::_::_::_::_::_::_::_::_::_::_::_::_::_::_::_::_::_::_::_::_::_::_::_) rfl ?_
    refine swr_det (met_none rfl) (fun h_ H_ => exd_pick_t rfl (not_t (decide_eq_false cc3)) (v := .bool (true)) rfl) rfl ?_
    refine swr_det (met_none rfl) (fun h_ H_ => exd_move (v := .bool (true)) rfl) (tm' := _::_::_::_::_::_::_::_::_::_::_::_::_::_::_::_::_::_::_::_::_::_::_::_::_::_::_::_::_::_::_::_::_::_::_::_::_::_::_::_::_) rfl ?_
    refine swr_pass (met_not rfl rfl rfl) rfl ?_
    refine swr_pass (met_not rfl rfl rfl) (tm' := _::_::_::_::_::_::_::_::_::_::_::_::_::_::_::_::_::_::_::_::_::_::_::_::_::_::_::_::_::_::_::_::_::_::_::_::_::_::_::_::_::_::_) rfl ?_
    refine swr_pass (met_not rfl rfl rfl) rfl ?_
    refine swr_pass (met_not rfl rfl rfl) (tm' := _::_::_::_::_::_::_::_::_::_::_::_::_::_::_::_::_::_::_::_::_::_::_::_::_::_::_::_::_::_::_::_::_::_::_::_::_::_::_::_::_::_::_::_::_) rfl ?_
    refine swr_pass (met_not rfl rfl rfl) rfl ?_
    refine swr_pass (met_not rfl rfl rfl) (tm' := _::_::_::_::_::_::_::_::_::_::_::_::_::_::_::_::_::_::_::_::_::_::_::_::_::_::_::_::_::_::_::_::_::_::_::_::_::_::_::_::_::_::_::_::_::_::_) rfl ?_
    refine swr_pass (met_not rfl rfl rfl) rfl ?_
    refine swr_pass (met_not rfl rfl rfl) (tm' := _::_::_::_::_::_::_::_::_::_::_::_::_::_::_::_::_::_::_::_::_::_::_::_::_::_::_::_::_::_::_::_::_::_::_::_::_::_::_::_::_::_::_::_::_::_::_::_::_) rfl ?_
    refine swr_pass (met_not rfl rfl rfl) rfl ?_
    refine swr_nil rfl ?_
    refine rl_pass (met_not rfl rfl rfl) rfl ?_
    refine rl_pass (met_not rfl rfl rfl) rfl ?_
    refine rl_det (met_none rfl) (fun h_ H_ => exd_pick_t rfl rfl (v := .bool (true)) rfl) (tm' := _::_::_::_::_::_::_::_::_::_::_::_::_::_::_::_::_::_::_::_::_::_::_::_::_::_::_::_::_::_::_::_::_::_::_::_::_::_::_::_::_::_::_::_::_::_::_::_::_::_::_::_::_) rfl ?_
    refine rl_end ?_
    refine fl_then rfl rfl ?_
    refine fl_seq ?_
    refine rl_start ?_
    refine rl_calld (met_none rfl) (first := []) (cap := []) rfl rfl fC18 (fun h_ H_ => c18 _) rfl ?_
    refine rl_det (met_none rfl) (fun h_ H_ => exd_assign (v := .bool (true)) rfl) rfl ?_
    refine rl_end ?_
    refine fl_retE (by kernel_rfl) Try.func14 rfl (vs := [.bool (true)]) (fun h_ H_ => ⟨.bool (true), _, rfl, rfl, rfl⟩) (v := .bool (true)) rfl ?_
    exact fun h_ H_ => K _ _ ⟨rfl, H_.kept⟩
end Go.Proofs.Ytbmkacnlhlbnjaa
namespace Go.Proofs.Ytbmkacnlhlbnjaa
open Go.X Go.X.Cist Go.Conc Go.RowKit Go.ChangeShapes Go.WideShapes Go.ChangeAt Go.Joins
set_option maxRecDepth 100000

theorem lifted14 (os : Os) (started : os.Started) (H : Type) (enc : TypeId × Value → H) :
    ReturnsInLeavingWide {} Try.checked os 14 .any (Rows.cisternsDoubtSpec.pre6 enc Try.prog Try.f14 Rows.cisternsDoubtRow.domain false) (Rows.cisternsDoubtSpec.post enc Try.prog Try.f14 false true false false) := by
  refine returnsInLeavingWide_of_change_sized (C := Try.checked) pOwn started Try.func14
    (ChangeSpec.witness6 (enc := enc) (C := Try.checked) false ⟨#[], #[.agg #[.int .i64 0, .int .i64 0, .slice none 0 0], .agg #[.int .i64 0, .int .i64 0, .int .i64 0]], []⟩ 8 (by kernel_rfl) (by kernel_rfl) (by kernel_rfl) (by kernel_rfl)) ?_
  intro W base args ds gs before hval0 hW _ _ _
  have hval : ∀ (j : Nat) t v, Try.f14.params[j]? = some t → args[j]? = some v → Value.okWide Try.prog W .any base t v := hval0
  have hW2 := hW
  obtain ⟨p, q, hA0, hV, rfl, _, _⟩ := hW2
  have hA : DataW.TrodAll enc Try.prog W 0 (fun _ => true) true Try.f14.params.toList args.toList ds p := hA0
  rw [Try.params14] at hA hval
  obtain ⟨v0, v1, d0, d1, p0, p1, rfl, rfl, _, h0, h1⟩ := trodAll_two hA
  obtain ⟨rfl, rfl⟩ := trodVars_none hV
  obtain ⟨size, start, a, n, c, ds, rfl, D⟩ := open_year (hval 0 24 v0 rfl rfl) h0
  obtain ⟨k1, k2, k3, rfl⟩ := open_doubt (hval 1 60 v1 rfl rfl) h1
  obtain ⟨N, last, o, w2, t2, r1, r2, r3, r4⟩ := good_of_enters (w := W) (e14 (nilV W.heap) (vwP W) (vwP_per W) size start a n c ds D k1 k2 k3) fun v h2 r => r.2
  refine ⟨N, last, o, w2, t2, r1, r2, r3, r4.mono fun v ⟨hB, h2, e, _⟩ => ?_⟩
  subst e
  exact law_post pLaid rfl (fun t ht => by rw [Try.params14] at ht; revert t; decide +kernel) rfl Try.underlying4 hW rfl hB

theorem cisternsDoubtHolds : Rows.CisternsDoubtSaid :=
  OpenClaim.holds_of_wide_leaving 14 Try.f14 rfl rfl rfl rfl rfl rfl rfl ⟨rfl, rfl, rfl, rfl, rfl⟩ rfl rfl rfl rfl rfl (by kernel_rfl) Try.func14 (by kernel_rfl)
    (of_decide_eq_true (by kernel_rfl)) (by unfold Func.isWrapper; rw [if_neg (of_decide_eq_false (by kernel_rfl))]; exact ⟨rfl, rfl⟩)
    (fun os started H enc _ => lifted14 os started H enc)

#print axioms cisternsDoubtHolds
end Go.Proofs.Ytbmkacnlhlbnjaa
