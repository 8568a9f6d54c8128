/-
  CisternsSpare, for every input: the law returns true and leaves its arguments as they were. No condition.
-/
import Derived.Test.YtbmkacnlhlbnjaaB3x
import Derived.Test.YtbmkacnlhlbnjaaB4
import Derived.Test.YtbmkacnlhlbnjaaRows
import Derived.Test.YtbmkacnlhlbnjaaB6
import Derived.Test.YtbmkacnlhlbnjaaB2
import Derived.Test.YtbmkacnlhlbnjaaB5
namespace Go.Proofs.Ytbmkacnlhlbnjaa
open Go.X Go.X.Cist Go.Conc Go.RowKit Go.ChangeShapes Go.WideShapes Go.ChangeAt Go.Joins

set_option maxRecDepth 100000

theorem pOwn : ownKnob Try.prog.godebug = none := by kernel_rfl
theorem pLaid : laidOutB Try.prog = true := by kernel_rfl
theorem pC3 : Try.prog.cellsOf 3 = 1 := by kernel_rfl
theorem pC24 : Try.prog.cellsOf 24 = 3 := by kernel_rfl
theorem pC36 : Try.prog.cellsOf 36 = 2 := by kernel_rfl
theorem pC38 : Try.prog.cellsOf 38 = 3 := by kernel_rfl

section
variable {H : Type} {enc : TypeId × Value → H} {W : World}
theorem trod_day {m : Nat} {cs : List Value} {y : DataW H × List MemPlace} (h : DataW.trod enc Try.prog W 0 (fun _ => true) true m 38 cs = some y) : ∃ d : Day, cs = d.cells := by
  obtain ⟨y0, y1, n, _, hl, h0, h1⟩ := trod_struct2 Try.underlying38 h
  obtain ⟨z0, z1, n', _, hl', h2, h3⟩ := trod_struct2 Try.underlying36 h0
  rw [pC38] at hl
  obtain ⟨a, ha⟩ := trod_i64 Try.underlying3 h2
  obtain ⟨b, hb⟩ := trod_i64 Try.underlying3 h3
  obtain ⟨c, hc⟩ := trod_i64 Try.underlying3 h1
  match cs, hl with
  | [u, v, w], _ =>
    refine ⟨⟨a, b, c⟩, ?_⟩
    simp [pC36, pC3] at ha hb hc
    simp [Day.cells, ha, hb, hc]
theorem open_days {fuel : Nat} {v : Value} {y : DataW H × List MemPlace} (h : DataW.trod enc Try.prog W 0 (fun _ => true) true fuel 22 [v] = some y) : ∃ a n c ds, v = .slice a n c ∧ Days (vwP W) a n ds := by
  obtain ⟨a, n, c, E, rfl, hQ, s⟩ := open_sl Try.underlying22 pC38 (Q := fun cs => ∃ d : Day, cs = d.cells) (fun m cs y h => trod_day h) h
  obtain ⟨z, hz⟩ := Go.Deep.choose_lt hQ
  refine ⟨a, n, c, (List.range n).map z, rfl, ?_⟩
  have : (List.range n).map E = dcs ((List.range n).map z) := by
    unfold dcs
    rw [List.map_map]
    exact List.map_congr_left fun i hi => hz i (List.mem_range.1 hi)
  unfold Days
  rw [← this]; exact s
theorem open_year {base : Nat} {v : Value} {d : DataW H} {p : List MemPlace} (hv : Value.okWide Try.prog W .any base 24 v) (h : DataW.Trod enc Try.prog W 0 (fun _ => true) true 24 v d p) :
    ∃ size start a n c ds, v = .agg #[.int .i64 size, .int .i64 start, .slice a n c] ∧ Days (vwP W) a n ds := by
  obtain ⟨v0, v1, v2, y0, y1, y2, n, rfl, _, _, h0, h1, h2⟩ := open_agg3 Try.underlying24 (by kernel_rfl) pC24 hv h
  obtain ⟨size, e0⟩ := trod_i64 Try.underlying3 h0
  obtain ⟨start, e1⟩ := trod_i64 Try.underlying3 h1
  obtain ⟨a, n, c, ds, rfl, D⟩ := open_days h2
  obtain rfl : v0 = _ := by simpa using e0
  obtain rfl : v1 = _ := by simpa using e1
  exact ⟨size, start, a, n, c, ds, rfl, D⟩
theorem open_list {base : Nat} {v : Value} {d : DataW H} {p : List MemPlace} (hv : Value.okWide Try.prog W .any base 25 v) (h : DataW.Trod enc Try.prog W 0 (fun _ => true) true 25 v d p) : ∃ a n c xs, v = .slice a n c ∧ Ints (vwP W) a n xs := by
  obtain ⟨a, n, c, rfl⟩ := okWide_slice Try.underlying25 hv
  obtain ⟨fuel, hf⟩ := h
  exact open_intsX Try.underlying25 Try.underlying3 pC3 hf
theorem open_num {base : Nat} {v : Value} {d : DataW H} {p : List MemPlace} (hv : Value.okWide Try.prog W .any base 3 v) (h : DataW.Trod enc Try.prog W 0 (fun _ => true) true 3 v d p) : ∃ n : Int, v = .int .i64 n ∧ (-9223372036854775808 ≤ n ∧ n ≤ 9223372036854775807) := by
  obtain ⟨n, rfl, _, _, hw⟩ := open_int Try.underlying3 hv h
  refine ⟨n, rfl, ?_⟩
  simpa [Lit.wf, IntKind.min, IntKind.max, IntKind.signed, IntKind.bits] using hw
end
end Go.Proofs.Ytbmkacnlhlbnjaa
namespace Go.X.Cist
open Go.X Go.Proofs.Ytbmkacnlhlbnjaa

/-- What is left of a level and what comes, behind a want. -/
theorem lev_succ (size start : Int) (want rain : Nat → Int) (k : Nat) : lev size start want rain (k + 1) = lev size start want rain k + rain k - ovr size start want rain k - (want k - lack size start want rain k) := rfl
theorem sumTo_congr {f g : Nat → Int} : ∀ {k : Nat}, (∀ i, i < k → f i = g i) → sumTo f k = sumTo g k
  | 0, _ => rfl
  | k + 1, h => by simp only [sumTo]; rw [sumTo_congr fun i hi => h i (by omega), h k (by omega)]
theorem sumTo_le {f g : Nat → Int} : ∀ {k : Nat}, (∀ i, i < k → f i ≤ g i) → sumTo f k ≤ sumTo g k
  | 0, _ => Int.le_refl _
  | k + 1, h => by
    have h1 := sumTo_le (k := k) (f := f) (g := g) fun i hi => h i (by omega)
    have h2 := h k (by omega)
    simp only [sumTo]; omega
theorem sum_nums {f : Nat → Int} {n j : Nat} (h : j ≤ n) : sumTo (listOf (nums f n)) j = sumTo f j := sumTo_congr fun i hi => nums_getD (by omega)
theorem sum_at {f : Nat → Int} {n k : Nat} (h : k < n) : sumTo (listOf (nums f n)) (min n (((k : Nat) : Int) + 1).toNat) = sumTo f (k + 1) := by
  rw [show min n (((k : Nat) : Int) + 1).toNat = k + 1 from by omega]; exact sum_nums (by omega)

theorem lack_le {size start : Int} {want rain : Nat → Int} {k : Nat} (h : 0 ≤ lev size start want rain k ∧ lev size start want rain k ≤ size) (hw : 0 ≤ want k) (hr : 0 ≤ rain k) : 0 ≤ lack size start want rain k ∧ lack size start want rain k ≤ want k := by
  unfold lack ovr; omega
theorem ovr_le {size start : Int} {want rain : Nat → Int} {k : Nat} (h : 0 ≤ lev size start want rain k ∧ lev size start want rain k ≤ size) (hr : 0 ≤ rain k) : 0 ≤ ovr size start want rain k ∧ ovr size start want rain k ≤ rain k := by
  unfold ovr; omega

section
variable {size start : Int} {ds : List Day} {xs ys : List Int}
/-- What is known of a day of a valid year in a weather. -/
theorem day_ok (hOk : Ok size start ds) (hW : Weather ds xs) {k : Nat} (hk : k < ds.length) :
    (0 ≤ lev size start (wantOf ds) (listOf xs) k ∧ lev size start (wantOf ds) (listOf xs) k ≤ size) ∧ (0 ≤ levs size start (wantOf ds) (listOf xs) k ∧ levs size start (wantOf ds) (listOf xs) k ≤ size) ∧
    (0 ≤ lack size start (wantOf ds) (listOf xs) k ∧ lack size start (wantOf ds) (listOf xs) k ≤ (ds.getD k dz).want) ∧ (0 ≤ ovr size start (wantOf ds) (listOf xs) k ∧ ovr size start (wantOf ds) (listOf xs) k ≤ 20) ∧ 0 ≤ listOf xs k ∧ listOf xs k ≤ 20 := by
  have h0 := (lok_day hOk.lok hW (k := k) (by omega)).2.1
  have h1 := (lok_day hOk.lok hW (k := k + 1) (by omega)).2.1
  have h2 := (lok_day hOk.lok hW (k := k) (by omega)).2.2 hk
  have h3 : 0 ≤ listOf xs k ∧ listOf xs k ≤ 20 := h2.1
  have h4 := lack_le (want := wantOf ds) (rain := listOf xs) h0 h2.2.1 h3.1
  have h5 := ovr_le (want := wantOf ds) (rain := listOf xs) h0 h3.1
  exact ⟨h0, h1, h4, ⟨h5.1, by omega⟩, h3⟩
theorem overs_ok (hOk : Ok size start ds) (hW : Weather ds xs) {n : Nat} (hl : ds.length = n) (i : Nat) (hi : i < n) : 0 ≤ (nums (ovr size start (wantOf ds) (listOf xs)) n).getD i 0 ∧ (nums (ovr size start (wantOf ds) (listOf xs)) n).getD i 0 ≤ 100 := by
  rw [nums_getD hi]
  have := (day_ok hOk hW (k := i) (by omega)).2.2.2.1
  omega

/-! ### more rain -/
theorem more_lev {want r r' : Nat → Int} {n : Nat} (h : ∀ i, i < n → r i ≤ r' i) : ∀ k, k ≤ n → lev size start want r k ≤ lev size start want r' k
  | 0, _ => Int.le_refl _
  | k + 1, hk => by
    have h1 := more_lev (want := want) h k (by omega)
    have h2 := h k (by omega)
    simp only [lev]; omega
theorem more_lack {want r r' : Nat → Int} {n : Nat} (h : ∀ i, i < n → r i ≤ r' i) (k : Nat) (hk : k < n) : lack size start want r' k ≤ lack size start want r k := by
  have h1 := more_lev (size := size) (start := start) (want := want) h k (by omega)
  have h2 := h k hk
  unfold lack ovr; omega
theorem more_ovr {want r r' : Nat → Int} {n : Nat} (h : ∀ i, i < n → r i ≤ r' i) (k : Nat) (hk : k < n) : ovr size start want r k ≤ ovr size start want r' k := by
  have h1 := more_lev (size := size) (start := start) (want := want) h k (by omega)
  have h2 := h k hk
  unfold ovr; omega
theorem more_day {n k : Nat} (hk : k < n) (h : ∀ i, i < n → xs.getD i 0 ≤ ys.getD i 0) :
    (nums (levs size start (wantOf ds) (listOf xs)) n).getD k 0 ≤ (nums (levs size start (wantOf ds) (listOf ys)) n).getD k 0 ∧
    (nums (lack size start (wantOf ds) (listOf ys)) n).getD k 0 ≤ (nums (lack size start (wantOf ds) (listOf xs)) n).getD k 0 ∧
    sumTo (listOf (nums (ovr size start (wantOf ds) (listOf xs)) n)) (min n (((k : Nat) : Int) + 1).toNat) ≤ sumTo (listOf (nums (ovr size start (wantOf ds) (listOf ys)) n)) (min n (((k : Nat) : Int) + 1).toNat) := by
  rw [nums_getD hk, nums_getD hk, nums_getD hk, nums_getD hk, sum_at hk, sum_at hk]
  exact ⟨more_lev (r := listOf xs) (r' := listOf ys) h (k + 1) hk, more_lack (r := listOf xs) (r' := listOf ys) h k hk, sumTo_le fun i hi => more_ovr (r := listOf xs) (r' := listOf ys) h i (by omega)⟩

/-! ### nothing is lost -/
theorem balance {want rain : Nat → Int} : ∀ k, start + sumTo rain k = lev size start want rain k + sumTo (fun i => want i - lack size start want rain i) k + sumTo (ovr size start want rain) k
  | 0 => by simp [sumTo, lev]
  | k + 1 => by
    have h := balance (want := want) (rain := rain) k
    rw [lev_succ]; simp only [sumTo]; omega
theorem bal_day (hOk : Ok size start ds) (hW : Weather ds xs) {n k : Nat} (hl : ds.length = n) (hk : k < n) :
    start + sumTo (listOf xs) k + xs.getD k 0 = (nums (levs size start (wantOf ds) (listOf xs)) n).getD k 0 + (sumTo (fun i => wantOf ds i - lack size start (wantOf ds) (listOf xs) i) k + ((ds.getD k dz).want - (nums (lack size start (wantOf ds) (listOf xs)) n).getD k 0)) +
      sumTo (listOf (nums (ovr size start (wantOf ds) (listOf xs)) n)) (min n (((k : Nat) : Int) + 1).toNat) ∧
    (0 < (nums (lack size start (wantOf ds) (listOf xs)) n).getD k 0 → (nums (levs size start (wantOf ds) (listOf xs)) n).getD k 0 ≤ 0) ∧
    (0 < (nums (ovr size start (wantOf ds) (listOf xs)) n).getD k 0 → (nums (levs size start (wantOf ds) (listOf xs)) n).getD k 0 + ((ds.getD k dz).want - (nums (lack size start (wantOf ds) (listOf xs)) n).getD k 0) = size) ∧
    (0 ≤ (nums (levs size start (wantOf ds) (listOf xs)) n).getD k 0 ∧ (nums (levs size start (wantOf ds) (listOf xs)) n).getD k 0 ≤ 60) ∧ (0 ≤ (nums (lack size start (wantOf ds) (listOf xs)) n).getD k 0 ∧ (nums (lack size start (wantOf ds) (listOf xs)) n).getD k 0 ≤ (ds.getD k dz).want) ∧ (ds.getD k dz).want ≤ 20 ∧
    (0 ≤ sumTo (listOf (nums (ovr size start (wantOf ds) (listOf xs)) n)) (min n (((k : Nat) : Int) + 1).toNat) ∧ sumTo (listOf (nums (ovr size start (wantOf ds) (listOf xs)) n)) (min n (((k : Nat) : Int) + 1).toNat) ≤ 20 * (k + 1)) ∧
    (0 ≤ xs.getD k 0 ∧ xs.getD k 0 ≤ 20) := by
  subst hl
  have hb := balance (size := size) (start := start) (want := wantOf ds) (rain := listOf xs) (k + 1)
  have hd := day_ok hOk hW hk
  have hw := hOk.2.2.2.2.2 k hk
  have hs := sum_bound (size := size) (start := start) (want := wantOf ds) (rain := listOf xs) (n := ds.length) ⟨hOk.2.2.1, hOk.2.2.2.1⟩ (fun i hi => (hOk.dok i hi).2.1) (fun i hi => (day_ok hOk hW hi).2.2.2.2) (k + 1) hk
  have hz := hOk.2.1
  rw [nums_getD hk, nums_getD hk, nums_getD hk, sum_at hk]
  unfold DayOk at hw
  simp only [sumTo] at hb
  have h3 : lev size start (wantOf ds) (listOf xs) (k + 1) = levs size start (wantOf ds) (listOf xs) k := rfl
  have h4 : listOf xs k = xs.getD k 0 := rfl
  have h5 : wantOf ds k = (ds.getD k dz).want := rfl
  have h6 : sumTo (ovr size start (wantOf ds) (listOf xs)) (k + 1) = sumTo (ovr size start (wantOf ds) (listOf xs)) k + ovr size start (wantOf ds) (listOf xs) k := rfl
  have h7 : levs size start (wantOf ds) (listOf xs) k = lev size start (wantOf ds) (listOf xs) k + listOf xs k - ovr size start (wantOf ds) (listOf xs) k - (wantOf ds k - lack size start (wantOf ds) (listOf xs) k) := rfl
  have h8 : lack size start (wantOf ds) (listOf xs) k = max 0 (wantOf ds k - (lev size start (wantOf ds) (listOf xs) k + listOf xs k - ovr size start (wantOf ds) (listOf xs) k)) := rfl
  have h9 : ovr size start (wantOf ds) (listOf xs) k = max 0 (lev size start (wantOf ds) (listOf xs) k + listOf xs k - size) := rfl
  omega
end
end Go.X.Cist
namespace Go.X.Cist
open Go.X Go.Proofs.Ytbmkacnlhlbnjaa

section
variable {size start size' start' : Int} {want want' rain rain' : Nat → Int} {ds ds' : List Day}

theorem lev_le {n : Nat} (hs : size ≤ size') (hst : start ≤ start') (hw : ∀ i, i < n → want' i ≤ want i) (hr : ∀ i, i < n → rain i ≤ rain' i) : ∀ k, k ≤ n → lev size start want rain k ≤ lev size' start' want' rain' k
  | 0, _ => hst
  | k + 1, hk => by
    have h1 := lev_le hs hst hw hr k (by omega)
    have h2 := hw k (by omega)
    have h3 := hr k (by omega)
    simp only [lev]; omega
theorem lack_ge {n : Nat} (hs : size ≤ size') (hst : start ≤ start') (hw : ∀ i, i < n → want' i ≤ want i) (hr : ∀ i, i < n → rain i ≤ rain' i) (k : Nat) (hk : k < n) : lack size' start' want' rain' k ≤ lack size start want rain k := by
  have h1 := lev_le (want := want) (want' := want') (rain := rain) (rain' := rain') hs hst hw hr k (by omega)
  have h2 := hw k hk
  have h3 := hr k hk
  unfold lack ovr; omega
theorem lev_congr : ∀ k, (∀ i, i < k → want i = want' i) → (∀ i, i < k → rain i = rain' i) → lev size start want rain k = lev size start want' rain' k
  | 0, _, _ => rfl
  | k + 1, hw, hr => by
    have h1 := lev_congr k (fun i hi => hw i (by omega)) fun i hi => hr i (by omega)
    simp only [lev]; rw [h1, hw k (by omega), hr k (by omega)]

/-! ### what lasts -/
theorem lasts_mono (hs : size ≤ size') (hst : min start size ≤ min start' size') (hl : ds'.length = ds.length) (hw : ∀ i, i < ds.length → wantOf ds' i ≤ wantOf ds i) (hr : ∀ i, i < ds.length → loOf ds i ≤ loOf ds' i) (h : Lasts size start ds) : Lasts size' start' ds' := by
  intro i hi
  rw [hl] at hi
  have h1 := h i hi
  have h2 := lack_ge (n := ds.length) hs hst hw hr i hi
  omega
theorem lackDay_dry {i : Nat} (h : i < ds.length) : lackDay ((dryOf size start ds).getD i dz) = decide (0 < lack size (min start size) (wantOf ds) (loOf ds) i) := by
  unfold dryOf; rw [side_getD h]; rfl
theorem lackDay_wet {i : Nat} (h : i < ds.length) : lackDay ((wetOf size start ds).getD i dz) = decide (0 < lack size (min start size) (wantOf ds) (hiOf ds) i) := by
  unfold wetOf; rw [side_getD h]; rfl
theorem dry_spec (hOk : Ok size start ds) : ((dryR size start ds) = (0, 3) ∧ Lasts size start ds) ∨
    ∃ k : Nat, k < ds.length ∧ dryR size start ds = (((k : Nat) : Int), 0) ∧ 0 < lack size (min start size) (wantOf ds) (loOf ds) k ∧ ∀ i, i < k → ¬ 0 < lack size (min start size) (wantOf ds) (loOf ds) i := by
  unfold dryR; rw [if_pos hOk]
  rcases idxF_cases lackDay (dryOf size start ds) with ⟨e, h⟩ | ⟨k, hk, e, h1, h2⟩
  · refine .inl ⟨by rw [e]; rfl, fun i hi => ?_⟩
    have := h i (by rw [dryOf_length]; exact hi)
    rw [lackDay_dry hi] at this
    exact of_decide_eq_false this
  · rw [dryOf_length] at hk
    refine .inr ⟨k, hk, ?_, ?_, fun i hi => ?_⟩
    · rw [e]; unfold noneR; rw [if_neg (by omega)]
    · rw [lackDay_dry hk] at h1; exact of_decide_eq_true h1
    · have := h2 i hi
      rw [lackDay_dry (by omega)] at this
      exact of_decide_eq_false this
theorem must_spec (hOk : Ok size start ds) : ((mustR size start ds) = (0, 3) ∧ ∀ i, i < ds.length → ¬ 0 < lack size (min start size) (wantOf ds) (hiOf ds) i) ∨
    ∃ k : Nat, k < ds.length ∧ mustR size start ds = (((k : Nat) : Int), 0) ∧ 0 < lack size (min start size) (wantOf ds) (hiOf ds) k ∧ ∀ i, i < k → ¬ 0 < lack size (min start size) (wantOf ds) (hiOf ds) i := by
  unfold mustR; rw [if_pos hOk]
  rcases idxF_cases lackDay (wetOf size start ds) with ⟨e, h⟩ | ⟨k, hk, e, h1, h2⟩
  · refine .inl ⟨by rw [e]; rfl, fun i hi => ?_⟩
    have := h i (by rw [wetOf_length]; exact hi)
    rw [lackDay_wet hi] at this
    exact of_decide_eq_false this
  · rw [wetOf_length] at hk
    refine .inr ⟨k, hk, ?_, ?_, fun i hi => ?_⟩
    · rw [e]; unfold noneR; rw [if_neg (by omega)]
    · rw [lackDay_wet hk] at h1; exact of_decide_eq_true h1
    · have := h2 i hi
      rw [lackDay_wet (by omega)] at this
      exact of_decide_eq_false this
theorem dry_lasts : (dryR size start ds).2 = 3 ↔ Ok size start ds ∧ Lasts size start ds := by
  by_cases hOk : Ok size start ds
  · rcases dry_spec hOk with ⟨e, h⟩ | ⟨k, hk, e, h1, _⟩
    · rw [e]; exact ⟨fun _ => ⟨hOk, h⟩, fun _ => rfl⟩
    · rw [e]; exact ⟨fun x => absurd (show (0 : Int) = 3 from x) (by decide), fun x => absurd h1 (x.2 k hk)⟩
  · unfold dryR; rw [if_neg hOk]
    exact ⟨fun x => absurd x (by decide), fun x => absurd x.1 hOk⟩

/-- The number of a day, or of none. -/
def dayOr (r : Int × Int) : Int := if r.2 = 3 then 8 else r.1
theorem lo_hi (hOk : Ok size start ds) : ∀ i, i < ds.length → loOf ds i ≤ hiOf ds i := fun i hi => (hOk.dok i hi).1.2.1
theorem days_le (hOk : Ok size start ds) : dayOr (dryR size start ds) ≤ dayOr (mustR size start ds) := by
  have hn := hOk.2.2.2.2.1
  have hm : ∀ i, i < ds.length → lack size (min start size) (wantOf ds) (hiOf ds) i ≤ lack size (min start size) (wantOf ds) (loOf ds) i := fun i hi => lack_ge (n := ds.length) (Int.le_refl _) (Int.le_refl _) (fun _ _ => Int.le_refl _) (lo_hi hOk) i hi
  unfold dayOr
  rcases dry_spec hOk with ⟨e, h⟩ | ⟨k, hk, e, h1, h2⟩ <;> rcases must_spec hOk with ⟨e', h'⟩ | ⟨k', hk', e', h1', h2'⟩ <;> rw [e, e']
  · simp
  · exact absurd h1' (by have := h k' hk'; have := hm k' hk'; omega)
  · simp; omega
  · simp
    refine Nat.not_lt.1 fun hlt => ?_
    have := h2 k' (by omega)
    have := hm k' hk'
    omega

theorem day_or (hOk : Ok size start ds) : (dryR size start ds).2 = 3 ∨ ((dryR size start ds).2 = 0 ∧ IsDay ds (dryR size start ds).1) := by
  rcases dry_spec hOk with ⟨e, _⟩ | ⟨k, hk, e, _⟩ <;> rw [e]
  · exact .inl rfl
  · exact .inr ⟨rfl, by show (0 : Int) ≤ (k : Nat); omega, by show ((k : Nat) : Int) < _; omega⟩
theorem must_or (hOk : Ok size start ds) : (mustR size start ds).2 = 3 ∨ ((mustR size start ds).2 = 0 ∧ IsDay ds (mustR size start ds).1) := by
  rcases must_spec hOk with ⟨e, _⟩ | ⟨k, hk, e, _⟩ <;> rw [e]
  · exact .inl rfl
  · exact .inr ⟨rfl, by show (0 : Int) ≤ (k : Nat); omega, by show ((k : Nat) : Int) < _; omega⟩

/-! ### rations -/
theorem ratmin {r : Int} : wmap (fun _ w => min r w) ds = rationed r ds := by
  unfold rationed
  congr 1
  funext _ w
  omega
theorem wanted_set {i : Nat} {x : Int} (h : i < ds.length) : setWant ds i ((ds.getD i dz).want + x) = wanted ((i : Nat) : Int) x ds := by
  refine ext_getD (d := dz) (by simp [setWant, wanted, wmap_length]) fun j hj => ?_
  have hj' : j < ds.length := by simpa [setWant] using hj
  unfold wanted
  rw [wmap_getD hj']
  unfold setWant moreF
  rw [List.getD_eq_getElem?_getD, List.getElem?_set]
  by_cases e : i = j
  · subst e
    rw [if_pos rfl, if_pos h, if_pos rfl]; rfl
  · rw [if_neg e, ← List.getD_eq_getElem?_getD, if_neg (by omega)]
theorem rationed_length {r : Int} : (rationed r ds).length = ds.length := wmap_length _ _
theorem rationed_want {r : Int} {i : Nat} (h : i < ds.length) : wantOf (rationed r ds) i = min (wantOf ds i) r := by unfold wantOf rationed; rw [wmap_getD h]
theorem rationed_lo {r : Int} {i : Nat} (h : i < ds.length) : loOf (rationed r ds) i = loOf ds i := by unfold loOf rationed; rw [wmap_getD h]
theorem rationed_ok {r : Int} (hr : 0 ≤ r) (hOk : Ok size start ds) : Ok size start (rationed r ds) := by
  refine ⟨hOk.1, hOk.2.1, hOk.2.2.1, hOk.2.2.2.1, by rw [rationed_length]; exact hOk.2.2.2.2.1, fun i hi => ?_⟩
  rw [rationed_length] at hi
  have h := hOk.2.2.2.2.2 i hi
  unfold DayOk at h ⊢
  unfold rationed
  rw [wmap_getD hi]
  simp only; omega
theorem rationed_less {r r' : Int} (h : r' ≤ r) (x : Lasts size start (rationed r ds)) : Lasts size start (rationed r' ds) := by
  refine lasts_mono (Int.le_refl _) (Int.le_refl _) (by rw [rationed_length, rationed_length]) (fun i hi => ?_) (fun i hi => ?_) x <;> rw [rationed_length] at hi
  · rw [rationed_want hi, rationed_want hi]; omega
  · rw [rationed_lo hi, rationed_lo hi]; exact Int.le_refl _
theorem rationed_all {r : Int} (h : ∀ i, i < ds.length → (ds.getD i dz).want ≤ r) : rationed r ds = ds := by
  refine ext_getD (d := dz) rationed_length fun i hi => ?_
  rw [rationed_length] at hi
  unfold rationed
  rw [wmap_getD hi]
  have := h i hi
  have e : min (ds.getD i dz).want r = (ds.getD i dz).want := by omega
  simp only [e]
theorem rat_spec (hs : 0 ≤ size ∧ 0 ≤ start) (hd : Dok ds) : ∀ k : Nat, (0 ≤ ratDown size start ds k ∧ ratDown size start ds k ≤ k) ∧ Lasts size start (rationed (ratDown size start ds k) ds) ∧ ∀ m : Int, ratDown size start ds k < m → m ≤ k → ¬ Lasts size start (rationed m ds)
  | 0 => ⟨⟨Int.le_refl _, Int.le_refl _⟩, lasts_zero hs hd, fun m h1 h2 => absurd h2 (by have : ratDown size start ds 0 = 0 := rfl; omega)⟩
  | k + 1 => by
    have ih := rat_spec hs hd k
    unfold ratDown
    split
    · rename_i h
      exact ⟨⟨by omega, by omega⟩, h, fun m h1 h2 => absurd h2 (by omega)⟩
    · rename_i h
      refine ⟨⟨ih.1.1, by omega⟩, ih.2.1, fun m h1 h2 => ?_⟩
      by_cases e : m = ((k + 1 : Nat) : Int)
      · rw [e]; exact h
      · exact ih.2.2 m h1 (by omega)
theorem rat_iff (hOk : Ok size start ds) {r : Int} (hr : r ≤ 20) : Lasts size start (rationed r ds) ↔ r ≤ ratDown size start ds 20 := by
  have h := rat_spec (size := size) (start := start) ⟨hOk.1, hOk.2.2.1⟩ hOk.dok 20
  constructor
  · intro x
    exact Int.not_lt.1 fun hlt => h.2.2 r hlt hr x
  · intro x
    exact rationed_less x h.2.1
theorem rat_all (hOk : Ok size start ds) : ratDown size start ds 20 = 20 ↔ Lasts size start ds := by
  have h := rat_spec (size := size) (start := start) ⟨hOk.1, hOk.2.2.1⟩ hOk.dok 20
  have e : rationed 20 ds = ds := rationed_all fun i hi => (hOk.2.2.2.2.2 i hi).2.2.2.2.2
  have := rat_iff hOk (r := 20) (by omega)
  rw [e] at this
  rw [this]
  have h2 := h.1.2
  omega

/-! ### sizes and starts -/
theorem upTo_spec {q : Nat → Bool} : ∀ (f k : Nat), (upTo q k f = none ∧ ∀ i, k ≤ i → i < k + f → q i = false) ∨ ∃ n, upTo q k f = some n ∧ k ≤ n ∧ n < k + f ∧ q n = true ∧ ∀ i, k ≤ i → i < n → q i = false
  | 0, k => .inl ⟨rfl, fun i h1 h2 => absurd h2 (by omega)⟩
  | f + 1, k => by
    unfold upTo
    by_cases h : q k = true
    · rw [if_pos h]
      exact .inr ⟨k, rfl, Nat.le_refl _, by omega, h, fun i h1 h2 => absurd h2 (by omega)⟩
    · rw [if_neg h]
      have hk : q k = false := by simpa using h
      rcases upTo_spec f (k + 1) with ⟨e, x⟩ | ⟨n, e, h1, h2, h3, h4⟩
      · refine .inl ⟨e, fun i a b => ?_⟩
        by_cases c : i = k
        · rw [c]; exact hk
        · exact x i (by omega) (by omega)
      · refine .inr ⟨n, e, by omega, by omega, h3, fun i a b => ?_⟩
        by_cases c : i = k
        · rw [c]; exact hk
        · exact h4 i (by omega) b
theorem size_iff (hOk : Ok size start ds) : ((sizeR size start ds).2 = 0 ∨ (sizeR size start ds).2 = 3) ∧ (0 ≤ (sizeR size start ds).1 ∧ (sizeR size start ds).1 ≤ 60) ∧
    ∀ z : Int, 0 ≤ z → z ≤ 60 → (Lasts z (min start z) ds ↔ (sizeR size start ds).2 = 0 ∧ (sizeR size start ds).1 ≤ z) := by
  have hm : ∀ z z' : Int, z ≤ z' → Lasts z start ds → Lasts z' start ds := fun z z' h x => lasts_mono h (by omega) rfl (fun _ _ => Int.le_refl _) (fun _ _ => Int.le_refl _) x
  have he : ∀ z : Int, Lasts z (min start z) ds ↔ Lasts z start ds := fun z => by unfold Lasts; rw [show min (min start z) z = min start z from by omega]
  unfold sizeR
  rw [if_pos hOk]
  rcases upTo_spec (q := fun k => decide (Lasts (k : Nat) start ds)) 61 0 with ⟨e, x⟩ | ⟨n, e, _, h2, h3, h4⟩ <;> rw [e]
  · refine ⟨.inr rfl, ⟨Int.le_refl _, by decide⟩, fun z h0 h1 => ?_⟩
    rw [he]
    refine ⟨fun y => ?_, fun y => absurd y.1 (by decide)⟩
    have := x z.toNat (by omega) (by omega)
    rw [show ((z.toNat : Nat) : Int) = z from by omega] at this
    exact absurd y (of_decide_eq_false this)
  · refine ⟨.inl rfl, ⟨by show (0 : Int) ≤ (n : Nat); omega, by show ((n : Nat) : Int) ≤ 60; omega⟩, fun z h0 h1 => ?_⟩
    rw [he]
    refine ⟨fun y => ⟨rfl, Int.not_lt.1 fun hlt => ?_⟩, fun y => hm _ _ y.2 (of_decide_eq_true h3)⟩
    have hlt : z < ((n : Nat) : Int) := hlt
    have := h4 z.toNat (by omega) (by omega)
    rw [show ((z.toNat : Nat) : Int) = z from by omega] at this
    exact absurd y (of_decide_eq_false this)
theorem start_iff (hOk : Ok size start ds) : ((startR size start ds).2 = 0 ∨ (startR size start ds).2 = 3) ∧ (0 ≤ (startR size start ds).1 ∧ (startR size start ds).1 ≤ size) ∧
    ∀ z : Int, 0 ≤ z → z ≤ size → (Lasts size z ds ↔ (startR size start ds).2 = 0 ∧ (startR size start ds).1 ≤ z) := by
  have hm : ∀ z z' : Int, z ≤ z' → Lasts size z ds → Lasts size z' ds := fun z z' h x => lasts_mono (Int.le_refl _) (by omega) rfl (fun _ _ => Int.le_refl _) (fun _ _ => Int.le_refl _) x
  have h0 := hOk.1
  unfold startR
  rw [if_pos hOk]
  rcases upTo_spec (q := fun k => decide (Lasts size (k : Nat) ds)) (size.toNat + 1) 0 with ⟨e, x⟩ | ⟨n, e, _, h2, h3, h4⟩ <;> rw [e]
  · refine ⟨.inr rfl, ⟨Int.le_refl _, h0⟩, fun z h0 h1 => ?_⟩
    refine ⟨fun y => ?_, fun y => absurd y.1 (by decide)⟩
    have := x z.toNat (by omega) (by omega)
    rw [show ((z.toNat : Nat) : Int) = z from by omega] at this
    exact absurd y (of_decide_eq_false this)
  · refine ⟨.inl rfl, ⟨by show (0 : Int) ≤ (n : Nat); omega, by show ((n : Nat) : Int) ≤ size; omega⟩, fun z h0 h1 => ?_⟩
    refine ⟨fun y => ⟨rfl, Int.not_lt.1 fun hlt => ?_⟩, fun y => hm _ _ y.2 (of_decide_eq_true h3)⟩
    have hlt : z < ((n : Nat) : Int) := hlt
    have := h4 z.toNat (by omega) (by omega)
    rw [show ((z.toNat : Nat) : Int) = z from by omega] at this
    exact absurd y (of_decide_eq_false this)
theorem sized_ok (hOk : Ok size start ds) {z : Int} (h0 : 0 ≤ z) (h1 : z ≤ 60) : Ok z (min start z) ds := ⟨h0, h1, by have := hOk.2.2.1; omega, by omega, hOk.2.2.2.2⟩
theorem started_ok (hOk : Ok size start ds) {z : Int} (h0 : 0 ≤ z) (h1 : z ≤ size) : Ok size z ds := ⟨hOk.1, hOk.2.1, h0, h1, hOk.2.2.2.2⟩
end
end Go.X.Cist
namespace Go.X.Cist
open Go.X Go.Proofs.Ytbmkacnlhlbnjaa

section
variable {size start size' : Int} {ds : List Day} {day x : Int}
theorem wanted_length : (wanted day x ds).length = ds.length := wmap_length _ _
theorem wanted_want {i : Nat} (h : i < ds.length) : wantOf (wanted day x ds) i = moreF day x i (wantOf ds i) := by unfold wantOf wanted; rw [wmap_getD h]
theorem wanted_lo {i : Nat} (h : i < ds.length) : loOf (wanted day x ds) i = loOf ds i := by unfold loOf wanted; rw [wmap_getD h]
theorem wanted_zero : wanted day 0 ds = ds := by
  refine ext_getD (d := dz) wanted_length fun i hi => ?_
  rw [wanted_length] at hi
  unfold wanted
  rw [wmap_getD hi]
  unfold moreF
  have e : (if ((i : Nat) : Int) = day then (ds.getD i dz).want + 0 else (ds.getD i dz).want) = (ds.getD i dz).want := by split <;> omega
  simp only [e]
theorem wanted_ok (hOk : Ok size start ds) (h0 : 0 ≤ x) (h1 : (ds.getD day.toNat dz).want + x ≤ 20) : Ok size start (wanted day x ds) := by
  refine ⟨hOk.1, hOk.2.1, hOk.2.2.1, hOk.2.2.2.1, by rw [wanted_length]; exact hOk.2.2.2.2.1, fun i hi => ?_⟩
  rw [wanted_length] at hi
  have h := hOk.2.2.2.2.2 i hi
  unfold DayOk at h ⊢
  unfold wanted moreF
  rw [wmap_getD hi]
  simp only
  split
  · rename_i e
    have : day.toNat = i := by omega
    rw [this] at h1
    omega
  · omega
/-- No lack on the days ahead of it if the year lasts without more. -/
theorem wanted_before {k : Nat} (hk : k < ds.length) (hlt : ((k : Nat) : Int) ≤ day) : lev size (min start size) (wantOf (wanted day x ds)) (loOf (wanted day x ds)) k = lev size (min start size) (wantOf ds) (loOf ds) k := by
  refine lev_congr k (fun i hi => ?_) fun i hi => ?_
  · rw [wanted_want (by omega)]; unfold moreF; rw [if_neg (by omega)]
  · exact wanted_lo (by omega)

theorem spare_spec (hOk : Ok size start ds) (hday : IsDay ds day) : (spareR size start ds day = (0, 3) ∧ ¬ Lasts size start ds) ∨
    ∃ k : Nat, spareR size start ds day = (((k : Nat) : Int), 0) ∧ Lasts size start ds ∧ k ≤ 60 ∧ (∀ j : Int, 0 ≤ j → j ≤ k → Lasts size start (wanted day j ds)) ∧ ¬ Lasts size start (wanted day (((k : Nat) : Int) + 1) ds) := by
  have h0 : askd size start ds (decide (IsDay ds day)) = 0 := askd_ok hOk (decide_eq_true hday)
  unfold spareR
  rw [if_pos h0]
  by_cases hl : Lasts size start ds
  · rw [if_pos hl]
    have hmore : ∀ m : Int, 60 < m → ¬ Lasts size start (wanted day m ds) := fun m hm => not_lasts_more ⟨hOk.1, hOk.2.1, hOk.2.2.1⟩ hOk.dok hday hm
    unfold spUp
    rcases upTo_spec (q := fun k => decide (¬ Lasts size start (wanted day ((k : Nat) + 1) ds))) 100 0 with ⟨e, h⟩ | ⟨n, e, _, h2, h3, h4⟩
    · exact absurd (of_decide_eq_false (h 60 (by omega) (by omega))) (fun y => y (hmore _ (by omega)))
    · refine .inr ⟨n, by rw [e]; rfl, hl, Nat.not_lt.1 fun hlt => ?_, fun j h5 h6 => ?_, of_decide_eq_true h3⟩
      · exact absurd (of_decide_eq_false (h4 60 (by omega) (by omega))) (fun y => y (hmore _ (by omega)))
      · by_cases c : j = 0
        · rw [c, wanted_zero]; exact hl
        · have := of_decide_eq_false (h4 (j.toNat - 1) (by omega) (by omega))
          rw [show (((j.toNat - 1 : Nat) : Nat) : Int) + 1 = j from by omega] at this
          exact Decidable.not_not.1 this
  · rw [if_neg hl]; exact .inl ⟨rfl, hl⟩
theorem spare_level (hOk : Ok size start ds) (hday : IsDay ds day) (hl : Lasts size start (wanted day x ds)) : x ≤ lev size (min start size) (wantOf ds) (loOf ds) (day.toNat + 1) := by
  obtain ⟨d0, d1⟩ := hday
  have hk : day.toNat < ds.length := by omega
  have h1 := hl day.toNat (by rw [wanted_length]; exact hk)
  have h2 : lev size (min start size) (wantOf (wanted day x ds)) (loOf (wanted day x ds)) day.toNat = _ := wanted_before (start := start) hk (by omega)
  have h3 : wantOf (wanted day x ds) day.toNat = wantOf ds day.toNat + x := by rw [wanted_want hk]; unfold moreF; rw [if_pos (by omega)]
  have h4 : loOf (wanted day x ds) day.toNat = loOf ds day.toNat := wanted_lo hk
  have h5 := (hOk.dok _ hk).2.1
  unfold lack ovr at h1
  rw [h2, h3, h4] at h1
  simp only [lev]
  unfold wantOf at h1 ⊢
  omega
theorem spare_last (hday : IsDay ds day) (hend : day = ds.length - 1) (hls : Lasts size start ds) (hl : ¬ Lasts size start (wanted day (x + 1) ds)) : lev size (min start size) (wantOf ds) (loOf ds) (day.toNat + 1) ≤ x := by
  refine Int.not_lt.1 fun hlt => hl fun i hi => ?_
  obtain ⟨d0, d1⟩ := hday
  rw [wanted_length] at hi
  have h2 : lev size (min start size) (wantOf (wanted day (x + 1) ds)) (loOf (wanted day (x + 1) ds)) i = _ := wanted_before (start := start) hi (by omega)
  have h3 : wantOf (wanted day (x + 1) ds) i = moreF day (x + 1) i (wantOf ds i) := wanted_want hi
  have h4 : loOf (wanted day (x + 1) ds) i = loOf ds i := wanted_lo hi
  have h6 := hls i hi
  unfold lack ovr at h6 ⊢
  rw [h2, h3, h4]
  unfold moreF
  split
  · have e : day.toNat = i := by omega
    rw [e] at hlt
    simp only [lev] at hlt
    omega
  · exact h6
/-- all that the law of the spares asks -/
theorem spare_law (hOk : Ok size start ds) (hday : IsDay ds day) : ((spareR size start ds day).2 = 0 ∨ (spareR size start ds day).2 = 3) ∧ ((spareR size start ds day).2 = 0 ↔ Ok size start ds ∧ Lasts size start ds) ∧
    ((spareR size start ds day).2 = 0 → (0 ≤ (spareR size start ds day).1 ∧ (spareR size start ds day).1 ≤ 60 ∧ (spareR size start ds day).1 ≤ lev size (min start size) (wantOf ds) (loOf ds) (day.toNat + 1) ∧ (day = ds.length - 1 → (spareR size start ds day).1 = lev size (min start size) (wantOf ds) (loOf ds) (day.toNat + 1))) ∧
      Lasts size start (wanted day (spareR size start ds day).1 ds) ∧ ¬ Lasts size start (wanted day ((spareR size start ds day).1 + 1) ds)) := by
  rcases spare_spec hOk hday with ⟨e, h⟩ | ⟨k, e, h1, h2, h3, h4⟩
  · rw [e]; exact ⟨.inr rfl, ⟨fun y => absurd (show (3 : Int) = 0 from y) (by decide), fun y => absurd y.2 h⟩, fun y => absurd (show (3 : Int) = 0 from y) (by decide)⟩
  · rw [e]
    have h5 := h3 k (by omega) (Int.le_refl _)
    have h6 := spare_level hOk hday h5
    refine ⟨.inl rfl, ⟨fun _ => ⟨hOk, h1⟩, fun _ => rfl⟩, fun _ => ⟨⟨by show (0 : Int) ≤ (k : Nat); omega, by show ((k : Nat) : Int) ≤ 60; omega, h6, fun hend => ?_⟩, h5, h4⟩⟩
    have h7 := spare_last hday hend (x := (k : Nat)) h1 h4
    show ((k : Nat) : Int) = _
    omega

theorem just_size (hOk : Ok size start ds) (h : ∀ z : Int, 0 ≤ z → z ≤ 60 → (Lasts z (min start z) ds ↔ (sizeR size start ds).2 = 0 ∧ (sizeR size start ds).1 ≤ z)) {k : Int} (h0 : 0 ≤ k) (h1 : k ≤ 60) :
    (Ok k (min start k) ds ∧ Lasts k (min start k) ds) ↔ ((sizeR size start ds).2 = 0 ∧ (sizeR size start ds).1 ≤ k) :=
  ⟨fun x => (h k h0 h1).1 x.2, fun x => ⟨sized_ok hOk h0 h1, (h k h0 h1).2 x⟩⟩
theorem just_start (hOk : Ok size start ds) (h : ∀ z : Int, 0 ≤ z → z ≤ size → (Lasts size z ds ↔ (startR size start ds).2 = 0 ∧ (startR size start ds).1 ≤ z)) {k : Int} (h0 : 0 ≤ k) (h1 : k ≤ size) :
    (Ok size k ds ∧ Lasts size k ds) ↔ ((startR size start ds).2 = 0 ∧ (startR size start ds).1 ≤ k) :=
  ⟨fun x => (h k h0 h1).1 x.2, fun x => ⟨started_ok hOk h0 h1, (h k h0 h1).2 x⟩⟩

/-! ### a greater cistern -/
theorem spare_greater (hOk : Ok size start ds) (hOk' : Ok size' start ds) (hday : IsDay ds day) (hs : size ≤ size') (h : (spareR size start ds day).2 = 0) : (spareR size' start ds day).2 = 0 ∧ (spareR size start ds day).1 ≤ (spareR size' start ds day).1 := by
  have hm : ∀ l, Lasts size start l → Lasts size' start l := fun l y => lasts_mono hs (by omega) rfl (fun _ _ => Int.le_refl _) (fun _ _ => Int.le_refl _) y
  rcases spare_spec hOk hday with ⟨e, _⟩ | ⟨k, e, h1, h2, h3, h4⟩
  · rw [e] at h; exact absurd (show (3 : Int) = 0 from h) (by decide)
  · rcases spare_spec hOk' hday with ⟨_, h'⟩ | ⟨k', e', h1', h2', h3', h4'⟩
    · exact absurd (hm _ h1) h'
    · rw [e, e']
      refine ⟨rfl, ?_⟩
      show ((k : Nat) : Int) ≤ (k' : Nat)
      refine Int.not_lt.1 fun hlt => h4' (hm _ (h3 _ (by omega) (by omega)))
theorem ration_greater (hOk : Ok size start ds) (hOk' : Ok size' start ds) (hs : size ≤ size') : ratDown size start ds 20 ≤ ratDown size' start ds 20 := by
  have h := rat_spec (size := size) (start := start) ⟨hOk.1, hOk.2.2.1⟩ hOk.dok 20
  refine (rat_iff hOk' h.1.2).1 (lasts_mono hs (by omega) rfl (fun _ _ => Int.le_refl _) (fun _ _ => Int.le_refl _) h.2.1)
theorem dry_mono {start' : Int} {ds' : List Day} (hOk : Ok size start ds) (hOk' : Ok size' start' ds') (hl : ds'.length = ds.length) (hm : ∀ i, i < ds.length → lack size' (min start' size') (wantOf ds') (loOf ds') i ≤ lack size (min start size) (wantOf ds) (loOf ds) i) :
    dayOr (dryR size start ds) ≤ dayOr (dryR size' start' ds') := by
  have hn := hOk.2.2.2.2.1
  unfold dayOr
  rcases dry_spec hOk with ⟨e, h⟩ | ⟨k, hk, e, h1, h2⟩ <;> rcases dry_spec hOk' with ⟨e', h'⟩ | ⟨k', hk', e', h1', h2'⟩ <;> rw [e, e']
  · simp
  · exact absurd h1' (by have := h k' (by omega); have := hm k' (by omega); omega)
  · simp; omega
  · simp
    refine Nat.not_lt.1 fun hlt => ?_
    have := h2 k' (by omega)
    have := hm k' (by omega)
    omega
theorem must_mono {start' : Int} {ds' : List Day} (hOk : Ok size start ds) (hOk' : Ok size' start' ds') (hl : ds'.length = ds.length) (hm : ∀ i, i < ds.length → lack size' (min start' size') (wantOf ds') (hiOf ds') i ≤ lack size (min start size) (wantOf ds) (hiOf ds) i) :
    dayOr (mustR size start ds) ≤ dayOr (mustR size' start' ds') := by
  have hn := hOk.2.2.2.2.1
  unfold dayOr
  rcases must_spec hOk with ⟨e, h⟩ | ⟨k, hk, e, h1, h2⟩ <;> rcases must_spec hOk' with ⟨e', h'⟩ | ⟨k', hk', e', h1', h2'⟩ <;> rw [e, e']
  · simp
  · exact absurd h1' (by have := h k' (by omega); have := hm k' (by omega); omega)
  · simp; omega
  · simp
    refine Nat.not_lt.1 fun hlt => ?_
    have := h2 k' (by omega)
    have := hm k' (by omega)
    omega
theorem overs_greater {want rain : Nat → Int} {n : Nat} (hs : size ≤ size') (k : Nat) (hk : k ≤ n) : sumTo (ovr size' start want rain) k ≤ sumTo (ovr size start want rain) k := by
  have h1 := balance (size := size) (start := start) (want := want) (rain := rain) k
  have h2 := balance (size := size') (start := start) (want := want) (rain := rain) k
  have h3 := lev_le (start := start) (start' := start) (n := n) (want := want) (want' := want) (rain := rain) (rain' := rain) hs (Int.le_refl _) (fun _ _ => Int.le_refl _) (fun _ _ => Int.le_refl _) k hk
  have h4 : sumTo (fun i => want i - lack size start want rain i) k ≤ sumTo (fun i => want i - lack size' start want rain i) k := sumTo_le fun i hi => by
    have := lack_ge (start := start) (start' := start) (n := n) (want := want) (want' := want) (rain := rain) (rain' := rain) hs (Int.le_refl _) (fun _ _ => Int.le_refl _) (fun _ _ => Int.le_refl _) i (by omega)
    omega
  omega
theorem greater_day {xs : List Int} {k : Int} {n j : Nat} (hk : 0 ≤ k) (hj : j < n) :
    (nums (levs size start (wantOf ds) (listOf xs)) n).getD j 0 ≤ (nums (levs (size + k) start (wantOf ds) (listOf xs)) n).getD j 0 ∧
    (nums (lack (size + k) start (wantOf ds) (listOf xs)) n).getD j 0 ≤ (nums (lack size start (wantOf ds) (listOf xs)) n).getD j 0 ∧
    sumTo (listOf (nums (ovr (size + k) start (wantOf ds) (listOf xs)) n)) (min n (((j : Nat) : Int) + 1).toNat) ≤ sumTo (listOf (nums (ovr size start (wantOf ds) (listOf xs)) n)) (min n (((j : Nat) : Int) + 1).toNat) := by
  rw [nums_getD hj, nums_getD hj, nums_getD hj, nums_getD hj, sum_at hj, sum_at hj]
  exact ⟨lev_le (n := n) (by omega) (Int.le_refl _) (fun _ _ => Int.le_refl _) (fun _ _ => Int.le_refl _) (j + 1) hj, lack_ge (n := n) (by omega) (Int.le_refl _) (fun _ _ => Int.le_refl _) (fun _ _ => Int.le_refl _) j hj, overs_greater (n := n) (by omega) (j + 1) hj⟩
theorem greater_dry {k : Int} (hOk : Ok size start ds) (hOk' : Ok (size + k) start ds) (hk : 0 ≤ k) : dayOr (dryR size start ds) ≤ dayOr (dryR (size + k) start ds) :=
  dry_mono hOk hOk' rfl fun i hi => lack_ge (n := ds.length) (by omega) (by omega) (fun _ _ => Int.le_refl _) (fun _ _ => Int.le_refl _) i hi
end
end Go.X.Cist
namespace Go.Proofs.Ytbmkacnlhlbnjaa
open Go.X Go.X.Cist Go.Conc
set_option maxRecDepth 10000

theorem c19 (md : Md) (h : Heap) (p : PHeap) (hp : Per p h) (size start : Int) (a : Option Addr) (n c : Nat) (ds : List Day) (D : Days p a n ds) (hn : n ≤ 40) (b : Option Addr) (m d : Nat) (xs : List Int) (W : Ints p b m xs) (hm40 : m ≤ 40) (hOk : Ok size start ds) (hW : Weather ds xs) : CallsX Try.prog md 19 #[.agg #[.int .i64 (size), .int .i64 (start), .slice a n c], .slice b m d] h fun v h' => ∃ w1 w2 w3 X1 X2 X3, v = .tuple #[.agg #[w1, w2, w3], .bool true] ∧ OwnS 3 1 w1 (ns (levs size start (wantOf ds) (listOf xs)) n) X1 ∧ OwnS 3 1 w2 (ns (lack size start (wantOf ds) (listOf xs)) n) X2 ∧ OwnS 3 1 w3 (ns (ovr size start (wantOf ds) (listOf xs)) n) X3 ∧ New h h' (X1 ++ (X2 ++ (X3 ++ []))) := by
  refine calls_intro (Φ := fun h_ => St h [] p h_ []) Try.func19 rfl (tm := [_, _, _, _, _, _, _, _, _, _, _, _, _, _, _, _, _, _, _, _, _, _, _, _, _, _, _, _, _, _, _, _, _, _, _, _, _, _, _, _, _, _, _, _, _, _, _, _, _, _, _, _, _, _, _, _, _, _, _, _, _, _, _, _, _, _, _, _, _, _, _, _, _, _, _, _, _, _, _, _, _, _, _, _, _, _, _, _]) rfl ?_ (St.start h _ hp)
  intro c₀ cs Stop K
  have hl := D.len
  refine fl_seq ?_
  refine rl_start ?_
  refine rl_box (met_none rfl) (v := .agg #[.int .i64 (size), .int .i64 (start), .slice a n c]) rfl fun b1 => rl_own (L' := [(b1, .cells #[.int .i64 (size), .int .i64 (start), .slice a n c] 24 (0, 0))]) rfl ?_
  refine rl_norm (tm' := _::_::_::_) rfl ?_
  refine rl_alloc (met_none rfl) tZ30 rfl fun b2 => rl_own (L' := [(b2, .cells #[.slice none 0 0, .slice none 0 0, .slice none 0 0] 30 (0, 0)), (b1, .cells #[.int .i64 (size), .int .i64 (start), .slice a n c] 24 (0, 0))]) rfl ?_
  refine rl_norm (tm' := _::_::_::_::_::_) rfl ?_
  refine rl_det (met_none rfl) (fun h_ H_ => exd_assign (v := .bool (false)) rfl) (tm' := _::_::_::_::_::_::_) rfl ?_
  refine rl_end ?_
  refine fl_seq ?_
  refine rl_start ?_
  refine rl_det (met_none rfl) (fun h_ H_ => exd_loadN_own H_ tA24 tS24 rfl (i := 1) rfl (vs := [.int .i64 (size), .int .i64 (start), .slice a n c]) rfl rfl) (tm' := _::_::_::_::_::_::_::_::_::_::_::_::_::_) rfl ?_
  refine rl_own (L' := ([(b2, .cells #[.slice none 0 0, .slice none 0 0, .slice none 0 0] 30 (0, 0)), (b1, .cells #[.int .i64 (size), .int .i64 (start), .slice a n c] 24 (0, 0))] : Pcs) ++ []) rfl ?_
  refine rl_call (met_none rfl) (first := []) (cap := []) rfl rfl fC30 (R := fun v_ h_ => ∃ w3 : Value, ∃ X4 : Pcs, v_ = .agg #[.int .i64 (size), .int .i64 (start), w3] ∧ (OwnS 38 3 w3 (dcs ds) X4) ∧ St h [] p h_ (([(b2, .cells #[.slice none 0 0, .slice none 0 0, .slice none 0 0] 30 (0, 0)), (b1, .cells #[.int .i64 (size), .int .i64 (start), .slice a n c] 24 (0, 0))] : Pcs) ++ (X4 ++ []))) (fun h_ H_ => (c30 md _ _ (fun b_ o_ e_ => H_.per b_ o_ e_) (size) (start) _ _ _ _ D (by omega)).mono fun v_ h2_ ⟨w3, X4, e_, o5, N_⟩ => ⟨w3, X4, e_, o5, H_.callNA N_⟩) fun v_ => ?_
  refine rl_ex fun w3 => rl_ex fun X4 => rl_and fun ev_ => rl_and fun o5 => ?_
  have ev_ := ev_.symm; subst ev_
  refine rl_own (L' := ([(b2, .cells #[.slice none 0 0, .slice none 0 0, .slice none 0 0] 30 (0, 0)), (b1, .cells #[.int .i64 (size), .int .i64 (start), .slice a n c] 24 (0, 0))] : Pcs) ++ (X4 ++ [])) rfl ?_
  refine rl_norm (tm' := _::_::_::_::_::_::_::_::_::_::_::_::_::_::_) rfl ?_
  refine rl_buildO ([(b2, .cells #[.slice none 0 0, .slice none 0 0, .slice none 0 0] 30 (0, 0)), (b1, .cells #[.int .i64 (size), .int .i64 (start), .slice a n c] 24 (0, 0))] : Pcs) (met_none rfl) Try.underlying25 tS3 tZ3 (Nat.le_of_ble_eq_true rfl) (vs := []) rfl rfl (es := []) rfl rfl rfl fun v6 X7 o8 => ?_
  refine rl_norm (tm' := _::_::_::_::_::_::_::_::_::_::_::_::_::_::_::_) rfl ?_
  refine rl_det (met_none rfl) (fun h_ H_ => exd_move (v := .slice b m d) rfl) (tm' := _::_::_::_::_::_::_::_::_::_::_::_::_::_::_::_::_) rfl ?_
  refine rl_appendP ([(b2, .cells #[.slice none 0 0, .slice none 0 0, .slice none 0 0] 30 (0, 0)), (b1, .cells #[.int .i64 (size), .int .i64 (start), .slice a n c] 24 (0, 0))] : Pcs) X7 (met_none rfl) Try.underlying25 tS3 tZ3 rfl tB3 Try.underlying25 rfl rfl o8 W (ints_ones _) (by first | omega | (simp; omega) | simp) (by decide) (by decide) fun v9 X10 o11 => ?_
  refine rl_norm (tm' := _::_::_::_::_::_::_::_::_::_::_::_::_::_::_::_::_::_) rfl ?_
  refine rl_perm (List.Perm.append_left _ (List.perm_append_comm_assoc _ _ _)) ?_
  refine rl_own (L' := ([(b2, .cells #[.slice none 0 0, .slice none 0 0, .slice none 0 0] 30 (0, 0)), (b1, .cells #[.int .i64 (size), .int .i64 (start), .slice a n c] 24 (0, 0))] : Pcs) ++ (X4 ++ (X10 ++ []))) rfl ?_
  refine rl_lastN (A := ([(b2, .cells #[.slice none 0 0, .slice none 0 0, .slice none 0 0] 30 (0, 0)), (b1, .cells #[.int .i64 (size), .int .i64 (start), .slice a n c] 24 (0, 0))] : Pcs)) o5 (show (dcs ds).length = n by rw [dcs_length]; omega) fun p12 a13 cp14 le15 ev_ D16 => ?_
  subst ev_
  refine rl_lastN (A := ([(b2, .cells #[.slice none 0 0, .slice none 0 0, .slice none 0 0] 30 (0, 0)), (b1, .cells #[.int .i64 (size), .int .i64 (start), .slice a n c] 24 (0, 0))] : Pcs)) o11 (by have h_ := W.len; simpa using h_) fun p17 a18 cp19 le20 ev_ D21 => ?_
  subst ev_
  refine rl_own (L' := [(b2, .cells #[.slice none 0 0, .slice none 0 0, .slice none 0 0] 30 (0, 0)), (b1, .cells #[.int .i64 (size), .int .i64 (start), .slice a n c] 24 (0, 0))]) rfl ?_
  refine rl_own (L' := ([(b2, .cells #[.slice none 0 0, .slice none 0 0, .slice none 0 0] 30 (0, 0)), (b1, .cells #[.int .i64 (size), .int .i64 (start), .slice a n c] 24 (0, 0))] : Pcs) ++ []) rfl ?_
  refine rl_call (met_none rfl) (first := []) (cap := []) rfl rfl fC34 (R := fun v_ h_ => ∃ w22 : Value, ∃ w23 : Value, ∃ w24 : Value, ∃ X25 : Pcs, ∃ X26 : Pcs, ∃ X27 : Pcs, v_ = .tuple #[w22, w23, w24, .int .i64 0] ∧ (OwnS 3 1 w22 (ns (levs size start (wantOf ds) (listOf xs)) n) X25) ∧ (OwnS 3 1 w23 (ns (lack size start (wantOf ds) (listOf xs)) n) X26) ∧ (OwnS 3 1 w24 (ns (ovr size start (wantOf ds) (listOf xs)) n) X27) ∧ St h [] p17 h_ (([(b2, .cells #[.slice none 0 0, .slice none 0 0, .slice none 0 0] 30 (0, 0)), (b1, .cells #[.int .i64 (size), .int .i64 (start), .slice a n c] 24 (0, 0))] : Pcs) ++ ((X25 ++ (X26 ++ (X27 ++ []))) ++ []))) (fun h_ H_ => (c34ok md _ _ (fun b_ o_ e_ => H_.per b_ o_ e_) (size) (start) _ _ _ _ ((show Days _ _ _ ds from D16).mono le20) (by omega) _ _ _ _ (show Ints _ _ _ xs from D21) (by omega) hOk hW).mono fun v_ h2_ ⟨w22, w23, w24, X25, X26, X27, e_, o28, o29, o30, N_⟩ => ⟨w22, w23, w24, X25, X26, X27, e_, o28, o29, o30, H_.callNA N_⟩) fun v_ => ?_
  refine rl_ex fun w22 => rl_ex fun w23 => rl_ex fun w24 => rl_ex fun X25 => rl_ex fun X26 => rl_ex fun X27 => rl_and fun ev_ => rl_and fun o28 => rl_and fun o29 => rl_and fun o30 => ?_
  have ev_ := ev_.symm; subst ev_
  refine rl_own (L' := ([(b2, .cells #[.slice none 0 0, .slice none 0 0, .slice none 0 0] 30 (0, 0)), (b1, .cells #[.int .i64 (size), .int .i64 (start), .slice a n c] 24 (0, 0))] : Pcs) ++ (X25 ++ (X26 ++ (X27 ++ [])))) (by simp) ?_
  refine rl_norm (tm' := _::_::_::_::_::_::_::_::_::_::_::_::_::_::_::_::_::_::_) rfl ?_
  refine rl_det (met_none rfl) (fun h_ H_ => exd_move (v := .tuple #[w22, w23, w24, .int .i64 0]) rfl) (tm' := _::_::_::_::_::_::_::_::_::_::_::_::_) rfl ?_
  refine rl_det (met_none rfl) (fun h_ H_ => exd_extract rfl (v := w22) rfl) (tm' := _::_::_::_::_::_::_::_::_::_::_::_::_::_::_::_::_::_::_::_) rfl ?_
  refine rl_det (met_none rfl) (fun h_ H_ => exd_extract rfl (v := w23) rfl) (tm' := _::_::_::_::_::_::_::_::_::_::_::_::_::_::_::_::_::_::_::_::_) rfl ?_
  refine rl_det (met_none rfl) (fun h_ H_ => exd_extract rfl (v := w24) rfl) (tm' := _::_::_::_::_::_::_::_::_::_::_::_::_::_::_::_::_::_::_::_::_::_) rfl ?_
  refine rl_det (met_none rfl) (fun h_ H_ => exd_extract rfl (v := .int .i64 0) rfl) (tm' := _::_::_::_::_::_::_::_::_::_::_::_::_::_::_::_::_::_::_::_::_::_::_) rfl ?_
  refine rl_det (met_none rfl) (fun h_ H_ => exd_assign (v := w22) rfl) (tm' := _::_::_::_::_::_::_::_) rfl ?_
  refine rl_det (met_none rfl) (fun h_ H_ => exd_assign (v := w23) rfl) (tm' := _::_::_::_::_::_::_::_::_) rfl ?_
  refine rl_det (met_none rfl) (fun h_ H_ => exd_assign (v := w24) rfl) (tm' := _::_::_::_::_::_::_::_::_::_) rfl ?_
  refine rl_det (met_none rfl) (fun h_ H_ => exd_assign (v := .int .i64 0) rfl) (tm' := _::_::_::_::_::_::_::_::_::_::_) rfl ?_
  refine rl_end ?_
  refine fl_seq ?_
  refine fl_seq ?_
  refine rl_start ?_
  refine rl_det (met_none rfl) (fun h_ H_ => exd_move (v := .int .i64 0) rfl) (tm' := _::_::_::_::_::_::_::_::_::_::_::_::_::_::_::_::_::_::_::_::_::_::_::_) rfl ?_
  refine rl_det (met_none rfl) (fun h_ H_ => exd_neq rfl rfl) (tm' := _::_::_::_::_::_::_::_::_::_::_::_::_::_::_::_::_::_::_::_::_::_::_::_::_) rfl ?_
  refine rl_det (met_none rfl) (fun h_ H_ => exd_move (v := .bool (decide ((0 : Int) ≠ 0))) rfl) (tm' := _::_::_::_::_::_::_::_::_::_::_::_::_::_::_::_::_::_::_::_::_::_::_::_::_::_) rfl ?_
  refine rl_det (met_some rfl rfl (decide_eq_false (by decide))) (fun h_ H_ => exd_move (v := w22) rfl) (tm' := _::_::_::_::_::_::_::_::_::_::_::_::_::_::_::_::_::_::_::_::_::_::_::_::_::_::_) rfl ?_
  refine rl_det (met_some rfl rfl (decide_eq_false (by decide))) (fun h_ H_ => exd_lenN o28 (ns_length _ _) Try.underlying25 rfl) (tm' := _::_::_::_::_::_::_::_::_::_::_::_::_::_::_::_::_::_::_::_::_::_::_::_::_::_::_::_) rfl ?_
  refine rl_det (met_some rfl rfl (decide_eq_false (by decide))) (fun h_ H_ => exd_fieldAddr tF24_2 rfl (a' := ⟨b1, 2, none⟩) rfl) (tm' := _::_::_::_::_::_::_::_::_::_::_::_::_::_::_::_::_::_::_::_::_::_::_::_::_::_::_::_::_) rfl ?_
  refine rl_det (met_some rfl rfl (decide_eq_false (by decide))) (fun h_ H_ => exd_load_own H_ tA22 rfl (i := 1) rfl (v := .slice a n c) rfl) (tm' := _::_::_::_::_::_::_::_::_::_::_::_::_::_::_::_::_::_::_::_::_::_::_::_::_::_::_::_::_::_) rfl ?_
  refine rl_det (met_some rfl rfl (decide_eq_false (by decide))) (fun h_ H_ => exd_len Try.underlying22 rfl) (tm' := _::_::_::_::_::_::_::_::_::_::_::_::_::_::_::_::_::_::_::_::_::_::_::_::_::_::_::_::_::_::_) rfl ?_
  refine rl_det (met_some rfl rfl (decide_eq_false (by decide))) (fun h_ H_ => exd_neq rfl rfl) (tm' := _::_::_::_::_::_::_::_::_::_::_::_::_::_::_::_::_::_::_::_::_::_::_::_::_::_::_::_::_::_::_::_) rfl ?_
  refine rl_det (met_none rfl) (fun h_ H_ => exd_pick_f rfl (decide_eq_false (by decide)) (v := .bool (decide (((n : Nat) : Int) ≠ ((n : Nat) : Int)))) rfl) (tm' := _::_::_::_::_::_::_::_::_::_::_::_::_::_::_::_::_::_::_::_::_::_::_::_::_::_::_::_::_::_::_::_::_) rfl ?_
  refine rl_det (met_none rfl) (fun h_ H_ => exd_move (v := .bool (decide (((n : Nat) : Int) ≠ ((n : Nat) : Int)))) rfl) (tm' := _::_::_::_::_::_::_::_::_::_::_::_::_::_::_::_::_::_::_::_::_::_::_::_::_::_::_::_::_::_::_::_::_::_) rfl ?_
  refine rl_det (met_some rfl rfl (decide_eq_false (fun h_ => h_ rfl))) (fun h_ H_ => exd_move (v := w23) rfl) (tm' := _::_::_::_::_::_::_::_::_::_::_::_::_::_::_::_::_::_::_::_::_::_::_::_::_::_::_::_::_::_::_::_::_::_::_) rfl ?_
  refine rl_det (met_some rfl rfl (decide_eq_false (fun h_ => h_ rfl))) (fun h_ H_ => exd_lenN o29 (ns_length _ _) Try.underlying25 rfl) (tm' := _::_::_::_::_::_::_::_::_::_::_::_::_::_::_::_::_::_::_::_::_::_::_::_::_::_::_::_::_::_::_::_::_::_::_::_) rfl ?_
  refine rl_det (met_some rfl rfl (decide_eq_false (fun h_ => h_ rfl))) (fun h_ H_ => exd_move (v := w22) rfl) (tm' := _::_::_::_::_::_::_::_::_::_::_::_::_::_::_::_::_::_::_::_::_::_::_::_::_::_::_::_::_::_::_::_::_::_::_::_::_) rfl ?_
  refine rl_det (met_some rfl rfl (decide_eq_false (fun h_ => h_ rfl))) (fun h_ H_ => exd_lenN o28 (ns_length _ _) Try.underlying25 rfl) (tm' := _::_::_::_::_::_::_::_::_::_::_::_::_::_::_::_::_::_::_::_::_::_::_::_::_::_::_::_::_::_::_::_::_::_::_::_::_::_) rfl ?_
  refine rl_det (met_some rfl rfl (decide_eq_false (fun h_ => h_ rfl))) (fun h_ H_ => exd_neq rfl rfl) (tm' := _::_::_::_::_::_::_::_::_::_::_::_::_::_::_::_::_::_::_::_::_::_::_::_::_::_::_::_::_::_::_::_::_::_::_::_::_::_::_) rfl ?_
  refine rl_det (met_none rfl) (fun h_ H_ => exd_pick_f rfl (decide_eq_false (fun h_ => h_ rfl)) (v := .bool (decide (((n : Nat) : Int) ≠ ((n : Nat) : Int)))) rfl) (tm' := _::_::_::_::_::_::_::_::_::_::_::_::_::_::_::_::_::_::_::_::_::_::_::_::_::_::_::_::_::_::_::_::_::_::_::_::_::_::_::_) rfl ?_
  refine rl_det (met_none rfl) (fun h_ H_ => exd_move (v := .bool (decide (((n : Nat) : Int) ≠ ((n : Nat) : Int)))) rfl) (tm' := _::_::_::_::_::_::_::_::_::_::_::_::_::_::_::_::_::_::_::_::_::_::_::_::_::_::_::_::_::_::_::_::_::_::_::_::_::_::_::_::_) rfl ?_
  refine rl_det (met_some rfl rfl (decide_eq_false (fun h_ => h_ rfl))) (fun h_ H_ => exd_move (v := w24) rfl) (tm' := _::_::_::_::_::_::_::_::_::_::_::_::_::_::_::_::_::_::_::_::_::_::_::_::_::_::_::_::_::_::_::_::_::_::_::_::_::_::_::_::_::_) rfl ?_
  refine rl_det (met_some rfl rfl (decide_eq_false (fun h_ => h_ rfl))) (fun h_ H_ => exd_lenN o30 (ns_length _ _) Try.underlying25 rfl) (tm' := _::_::_::_::_::_::_::_::_::_::_::_::_::_::_::_::_::_::_::_::_::_::_::_::_::_::_::_::_::_::_::_::_::_::_::_::_::_::_::_::_::_::_) rfl ?_
  refine rl_det (met_some rfl rfl (decide_eq_false (fun h_ => h_ rfl))) (fun h_ H_ => exd_move (v := w22) rfl) (tm' := _::_::_::_::_::_::_::_::_::_::_::_::_::_::_::_::_::_::_::_::_::_::_::_::_::_::_::_::_::_::_::_::_::_::_::_::_::_::_::_::_::_::_::_) rfl ?_
  refine rl_det (met_some rfl rfl (decide_eq_false (fun h_ => h_ rfl))) (fun h_ H_ => exd_lenN o28 (ns_length _ _) Try.underlying25 rfl) (tm' := _::_::_::_::_::_::_::_::_::_::_::_::_::_::_::_::_::_::_::_::_::_::_::_::_::_::_::_::_::_::_::_::_::_::_::_::_::_::_::_::_::_::_::_::_) rfl ?_
  refine rl_det (met_some rfl rfl (decide_eq_false (fun h_ => h_ rfl))) (fun h_ H_ => exd_neq rfl rfl) (tm' := _::_::_::_::_::_::_::_::_::_::_::_::_::_::_::_::_::_::_::_::_::_::_::_::_::_::_::_::_::_::_::_::_::_::_::_::_::_::_::_::_::_::_::_::_::_) rfl ?_
  refine rl_det (met_none rfl) (fun h_ H_ => exd_pick_f rfl (decide_eq_false (fun h_ => h_ rfl)) (v := .bool (decide (((n : Nat) : Int) ≠ ((n : Nat) : Int)))) rfl) (tm' := _::_::_::_::_::_::_::_::_::_::_::_::_::_::_::_::_::_::_::_::_::_::_::_::_::_::_::_::_::_::_::_::_::_::_::_::_::_::_::_::_::_::_::_::_::_::_) rfl ?_
  refine rl_end ?_
  refine fl_else rfl (decide_eq_false (fun h_ => h_ rfl)) ?_
  refine fl_skip ?_
  refine fl_seq ?_
  refine fl_seq ?_
  refine rl_start ?_
  refine rl_det (met_none rfl) (fun h_ H_ => exd_assign (v := .int .i64 0) rfl) (tm' := _::_::_::_::_::_::_::_::_::_::_::_) rfl ?_
  refine rl_end ?_
  refine fl_block ?_
  refine fl_loop (m₀ := n - 0) (fun m_ tm_ h_ => ∃ (k : Nat) (y31 : Nat → Value), m_ = n - k ∧ tm_ = [.agg #[.int .i64 (size), .int .i64 (start), .slice a n c], .slice b m d, .pointer (some ⟨b1, 0, none⟩), undef, .pointer (some ⟨b2, 0, none⟩), (y31 0), w22, w23, w24, .int .i64 0, .int .i64 (((k : Nat) : Int)), .tuple #[w22, w23, w24, .int .i64 0], .agg #[.int .i64 (size), .int .i64 (start), .slice a n c], .agg #[.int .i64 (size), .int .i64 (start), .slice a13 n cp14], v6, .slice b m d, .slice a18 m cp19, .tuple #[w22, w23, w24, .int .i64 0], w22, w23, w24, .int .i64 0, .int .i64 0, .bool (decide ((0 : Int) ≠ 0)), .bool (decide ((0 : Int) ≠ 0)), w22, .int .i64 (((n : Nat) : Int)), .pointer (some ⟨b1, 2, none⟩), .slice a n c, .int .i64 (((n : Nat) : Int)), .bool (decide (((n : Nat) : Int) ≠ ((n : Nat) : Int))), .bool (decide (((n : Nat) : Int) ≠ ((n : Nat) : Int))), .bool (decide (((n : Nat) : Int) ≠ ((n : Nat) : Int))), w23, .int .i64 (((n : Nat) : Int)), w22, .int .i64 (((n : Nat) : Int)), .bool (decide (((n : Nat) : Int) ≠ ((n : Nat) : Int))), .bool (decide (((n : Nat) : Int) ≠ ((n : Nat) : Int))), .bool (decide (((n : Nat) : Int) ≠ ((n : Nat) : Int))), w24, .int .i64 (((n : Nat) : Int)), w22, .int .i64 (((n : Nat) : Int)), .bool (decide (((n : Nat) : Int) ≠ ((n : Nat) : Int))), .bool (decide (((n : Nat) : Int) ≠ ((n : Nat) : Int))), undef, (y31 1), (y31 2), (y31 3), (y31 4), (y31 5), (y31 6), (y31 7), (y31 8), (y31 9), (y31 10), (y31 11), (y31 12), (y31 13), (y31 14), (y31 15), (y31 16), (y31 17), (y31 18), (y31 19), (y31 20), (y31 21), (y31 22), (y31 23), (y31 24), (y31 25), (y31 26), (y31 27), (y31 28), (y31 29), (y31 30), (y31 31), (y31 32), (y31 33), (y31 34), (y31 35), (y31 36), (y31 37), undef, undef, undef, undef] ∧ (k ≤ n) ∧ St h [] p17 h_ (([(b2, .cells #[.slice none 0 0, .slice none 0 0, .slice none 0 0] 30 (0, 0)), (b1, .cells #[.int .i64 (size), .int .i64 (start), .slice a n c] 24 (0, 0))] : Pcs) ++ (X25 ++ (X26 ++ (X27 ++ []))))) (fun h_ H_ => ⟨0, (fun i_ => [.bool (false), undef, undef, undef, undef, undef, undef, undef, undef, undef, undef, undef, undef, undef, undef, undef, undef, undef, undef, undef, undef, undef, undef, undef, undef, undef, undef, undef, undef, undef, undef, undef, undef, undef, undef, undef, undef, undef].getD i_ undef), rfl, rfl, Nat.zero_le _, H_⟩) ?_
  intro m_ tm_ IH32
  refine rs_ex fun k => rs_ex fun y31 => rs_and fun hm_ => rs_and fun ht_ => rs_and fun hk => ?_
  subst hm_; subst ht_
  have hdk := day_ok hOk hW (k := k)
  refine fl_seq ?_
  refine fl_seq ?_
  refine rl_start ?_
  refine rl_det (met_none rfl) (fun h_ H_ => exd_move (v := .int .i64 (((k : Nat) : Int))) rfl) (tm' := _::_::_::_::_::_::_::_::_::_::_::_::_::_::_::_::_::_::_::_::_::_::_::_::_::_::_::_::_::_::_::_::_::_::_::_::_::_::_::_::_::_::_::_::_::_::_::_::_) rfl ?_
  refine rl_det (met_none rfl) (fun h_ H_ => exd_move (v := w22) rfl) (tm' := _::_::_::_::_::_::_::_::_::_::_::_::_::_::_::_::_::_::_::_::_::_::_::_::_::_::_::_::_::_::_::_::_::_::_::_::_::_::_::_::_::_::_::_::_::_::_::_::_::_) rfl ?_
  refine rl_det (met_none rfl) (fun h_ H_ => exd_lenN o28 (ns_length _ _) Try.underlying25 rfl) (tm' := _::_::_::_::_::_::_::_::_::_::_::_::_::_::_::_::_::_::_::_::_::_::_::_::_::_::_::_::_::_::_::_::_::_::_::_::_::_::_::_::_::_::_::_::_::_::_::_::_::_::_) rfl ?_
  refine rl_det (met_none rfl) (fun h_ H_ => exd_lss rfl rfl) (tm' := _::_::_::_::_::_::_::_::_::_::_::_::_::_::_::_::_::_::_::_::_::_::_::_::_::_::_::_::_::_::_::_::_::_::_::_::_::_::_::_::_::_::_::_::_::_::_::_::_::_::_::_) rfl ?_
  refine rl_end ?_
  by_cases c33 : ((k : Nat) : Int) < ((n : Nat) : Int)
  · refine fl_then rfl (decide_eq_true c33) ?_
    refine fl_skip ?_
    refine fl_seq ?_
    refine fl_block ?_
    refine fl_seq ?_
    refine fl_drawn 25 [[], [], [0, 1], [0, 1, 2], [], [4], [0, 1, 2, 3, 4, 5], [0, 1, 2, 3, 4, 5], [0, 1, 2, 3, 4, 5, 6, 7], [], [], [9, 10], [9, 10, 11], [], [13], [0, 1, 2, 3, 4, 5, 6, 7], [0, 1, 2, 3, 4, 5, 6, 7, 13, 14, 15], [0, 1, 2, 3, 4, 5, 6, 7, 13, 14, 15, 16], [0, 1, 2, 3, 4, 5, 6, 7, 13, 14, 15, 16, 17], [0, 1, 2, 3, 4, 5, 6, 7, 9, 10, 11, 12, 13, 14, 15, 16, 17, 18], [0, 1, 2, 3, 4, 5, 6, 7, 9, 10, 11, 12, 13, 14, 15, 16, 17, 18], [0, 1, 2, 3, 4, 5, 6, 7, 8, 9, 10, 11, 12, 13, 14, 15, 16, 17, 18, 20], [0, 1, 2, 3, 4, 5, 6, 7, 8, 9, 10, 11, 12, 13, 14, 15, 16, 17, 18, 19, 20, 21], [], [0, 1, 2, 3, 4, 5, 6, 7, 8, 9, 10, 11, 12, 13, 14, 15, 16, 17, 18, 19, 20, 21], [0, 1, 2, 3, 4, 5, 6, 7, 8, 9, 10, 11, 12, 13, 14, 15, 16, 17, 18, 19, 20, 21, 23, 24], [0, 1, 2, 3, 4, 5, 6, 7, 8, 9, 10, 11, 12, 13, 14, 15, 16, 17, 18, 19, 20, 21, 23, 24, 25], [0, 1, 2, 3, 4, 5, 6, 7, 8, 9, 10, 11, 12, 13, 14, 15, 16, 17, 18, 19, 20, 21, 23, 24, 25, 26], [0, 1, 2, 3, 4, 5, 6, 7, 8, 9, 10, 11, 12, 13, 14, 15, 16, 17, 18, 19, 20, 21, 23, 24, 25, 26, 27], []] mixed (by kernel_rfl) (Nat.le_of_ble_eq_true rfl) (tmF := [.agg #[.int .i64 (size), .int .i64 (start), .slice a n c], .slice b m d, .pointer (some ⟨b1, 0, none⟩), undef, .pointer (some ⟨b2, 0, none⟩), (y31 0), w22, w23, w24, .int .i64 0, .int .i64 (((k : Nat) : Int)), .tuple #[w22, w23, w24, .int .i64 0], .agg #[.int .i64 (size), .int .i64 (start), .slice a n c], .agg #[.int .i64 (size), .int .i64 (start), .slice a13 n cp14], v6, .slice b m d, .slice a18 m cp19, .tuple #[w22, w23, w24, .int .i64 0], w22, w23, w24, .int .i64 0, .int .i64 0, .bool (decide ((0 : Int) ≠ 0)), .bool (decide ((0 : Int) ≠ 0)), w22, .int .i64 (((n : Nat) : Int)), .pointer (some ⟨b1, 2, none⟩), .slice a n c, .int .i64 (((n : Nat) : Int)), .bool (decide (((n : Nat) : Int) ≠ ((n : Nat) : Int))), .bool (decide (((n : Nat) : Int) ≠ ((n : Nat) : Int))), .bool (decide (((n : Nat) : Int) ≠ ((n : Nat) : Int))), w23, .int .i64 (((n : Nat) : Int)), w22, .int .i64 (((n : Nat) : Int)), .bool (decide (((n : Nat) : Int) ≠ ((n : Nat) : Int))), .bool (decide (((n : Nat) : Int) ≠ ((n : Nat) : Int))), .bool (decide (((n : Nat) : Int) ≠ ((n : Nat) : Int))), w24, .int .i64 (((n : Nat) : Int)), w22, .int .i64 (((n : Nat) : Int)), .bool (decide (((n : Nat) : Int) ≠ ((n : Nat) : Int))), .bool (decide (((n : Nat) : Int) ≠ ((n : Nat) : Int))), undef, .int .i64 (((k : Nat) : Int)), w22, .int .i64 (((n : Nat) : Int)), .bool (decide (((k : Nat) : Int) < ((n : Nat) : Int))), (y31 5), (y31 6), w22, .int .i64 (((k : Nat) : Int)), .pointer (some ((adrV w22).add (k * 1))), .int .i64 (levs size start (wantOf ds) (listOf xs) k), .pointer (some ⟨b1, 0, none⟩), .int .i64 (size), .bool (decide (0 ≤ levs size start (wantOf ds) (listOf xs) k ∧ levs size start (wantOf ds) (listOf xs) k ≤ size)), .bool (!(decide (0 ≤ levs size start (wantOf ds) (listOf xs) k ∧ levs size start (wantOf ds) (listOf xs) k ≤ size))), .bool (!(decide (0 ≤ levs size start (wantOf ds) (listOf xs) k ∧ levs size start (wantOf ds) (listOf xs) k ≤ size))), w23, .int .i64 (((k : Nat) : Int)), .pointer (some ((adrV w23).add (k * 1))), .int .i64 (lack size start (wantOf ds) (listOf xs) k), .pointer (some ⟨b1, 2, none⟩), .slice a n c, .int .i64 (((k : Nat) : Int)), .pointer (some ((adr a).add (k * 3))), .pointer (some (((adr a).add (k * 3)).add 2)), .int .i64 ((ds.getD k dz).want), .bool (decide (0 ≤ lack size start (wantOf ds) (listOf xs) k ∧ lack size start (wantOf ds) (listOf xs) k ≤ (ds.getD k dz).want)), .bool (!(decide (0 ≤ lack size start (wantOf ds) (listOf xs) k ∧ lack size start (wantOf ds) (listOf xs) k ≤ (ds.getD k dz).want))), .bool (!(decide (0 ≤ lack size start (wantOf ds) (listOf xs) k ∧ lack size start (wantOf ds) (listOf xs) k ≤ (ds.getD k dz).want))), .bool (!(decide (0 ≤ lack size start (wantOf ds) (listOf xs) k ∧ lack size start (wantOf ds) (listOf xs) k ≤ (ds.getD k dz).want))), w24, .int .i64 (((k : Nat) : Int)), (y31 32), (y31 33), (y31 34), (y31 35), (y31 36), (y31 37), undef, undef, undef, undef]) ?_ ?_
    · refine sw_det (met_none rfl) (fun h_ H_ => exd_move (v := w22) rfl) (tm' := _::_::_::_::_::_::_::_::_::_::_::_::_::_::_::_::_::_::_::_::_::_::_::_::_::_::_::_::_::_::_::_::_::_::_::_::_::_::_::_::_::_::_::_::_::_::_::_::_::_::_::_::_::_::_) rfl ?_
      refine sw_det (met_none rfl) (fun h_ H_ => exd_move (v := .int .i64 (((k : Nat) : Int))) rfl) (tm' := _::_::_::_::_::_::_::_::_::_::_::_::_::_::_::_::_::_::_::_::_::_::_::_::_::_::_::_::_::_::_::_::_::_::_::_::_::_::_::_::_::_::_::_::_::_::_::_::_::_::_::_::_::_::_::_) rfl ?_
      refine sw_det (met_none rfl) (fun h_ H_ => exd_indexO o28 Try.underlying25 tS3 rfl rfl (by rw [(ns_length _ _)]; omega)) (tm' := _::_::_::_::_::_::_::_::_::_::_::_::_::_::_::_::_::_::_::_::_::_::_::_::_::_::_::_::_::_::_::_::_::_::_::_::_::_::_::_::_::_::_::_::_::_::_::_::_::_::_::_::_::_::_::_::_) rfl ?_
      refine sw_det (met_none rfl) (fun h_ H_ => exd_loadO (A := ([(b2, .cells #[.slice none 0 0, .slice none 0 0, .slice none 0 0] 30 (0, 0)), (b1, .cells #[.int .i64 (size), .int .i64 (start), .slice a n c] 24 (0, 0))] : Pcs)) (i := k) (j := 0) (e := [.int .i64 (levs size start (wantOf ds) (listOf xs) k)]) o28 H_ tA3 rfl rfl (ns_at (by omega)) (u := .int .i64 (levs size start (wantOf ds) (listOf xs) k)) rfl) (tm' := _::_::_::_::_::_::_::_::_::_::_::_::_::_::_::_::_::_::_::_::_::_::_::_::_::_::_::_::_::_::_::_::_::_::_::_::_::_::_::_::_::_::_::_::_::_::_::_::_::_::_::_::_::_::_::_::_::_) rfl ?_
      refine sw_det (met_none rfl) (fun h_ H_ => exd_fieldAddr tF24_0 rfl (a' := ⟨b1, 0, none⟩) rfl) (tm' := _::_::_::_::_::_::_::_::_::_::_::_::_::_::_::_::_::_::_::_::_::_::_::_::_::_::_::_::_::_::_::_::_::_::_::_::_::_::_::_::_::_::_::_::_::_::_::_::_::_::_::_::_::_::_::_::_::_::_) rfl ?_
      refine sw_det (met_none rfl) (fun h_ H_ => exd_load_own H_ tA3 rfl (i := 1) rfl (v := .int .i64 (size)) rfl) (tm' := [_,_,_,_,_,_,_,_,_,_,_,_,_,_,_,_,_,_,_,_,_,_,_,_,_,_,_,_,_,_,_,_,_,_,_,_,_,_,_,_,_,_,_,_,_,_,_,_,_,_,_,_,_,_,_,_,_,_,_,_,_,_,_,_,_,_,_,_,_,_,_,_,_,_,_,_,_,_,_,_,_,_,_,_,_,_,_,_]) rfl ?_
      refine sw_call (met_none rfl) (first := []) (cap := []) rfl rfl fC22 (fun h_ H_ => (c22 md _ (levs size start (wantOf ds) (listOf xs) k) (0) (size)).mono fun v_ h2_ ⟨e_, k_⟩ => ⟨e_, H_.call k_⟩) (tm' := [_,_,_,_,_,_,_,_,_,_,_,_,_,_,_,_,_,_,_,_,_,_,_,_,_,_,_,_,_,_,_,_,_,_,_,_,_,_,_,_,_,_,_,_,_,_,_,_,_,_,_,_,_,_,_,_,_,_,_,_,_,_,_,_,_,_,_,_,_,_,_,_,_,_,_,_,_,_,_,_,_,_,_,_,_,_,_,_]) rfl ?_
      refine sw_det (met_none rfl) (fun h_ H_ => exd_not rfl) (tm' := [_,_,_,_,_,_,_,_,_,_,_,_,_,_,_,_,_,_,_,_,_,_,_,_,_,_,_,_,_,_,_,_,_,_,_,_,_,_,_,_,_,_,_,_,_,_,_,_,_,_,_,_,_,_,_,_,_,_,_,_,_,_,_,_,_,_,_,_,_,_,_,_,_,_,_,_,_,_,_,_,_,_,_,_,_,_,_,_]) rfl ?_
      refine sw_det (met_none rfl) (fun h_ H_ => exd_move (v := .bool (!(decide (0 ≤ levs size start (wantOf ds) (listOf xs) k ∧ levs size start (wantOf ds) (listOf xs) k ≤ size)))) rfl) (tm' := [_,_,_,_,_,_,_,_,_,_,_,_,_,_,_,_,_,_,_,_,_,_,_,_,_,_,_,_,_,_,_,_,_,_,_,_,_,_,_,_,_,_,_,_,_,_,_,_,_,_,_,_,_,_,_,_,_,_,_,_,_,_,_,_,_,_,_,_,_,_,_,_,_,_,_,_,_,_,_,_,_,_,_,_,_,_,_,_]) rfl ?_
      refine sw_det (met_some rfl rfl (not_f (decide_eq_true (by omega)))) (fun h_ H_ => exd_move (v := w23) rfl) (tm' := [_,_,_,_,_,_,_,_,_,_,_,_,_,_,_,_,_,_,_,_,_,_,_,_,_,_,_,_,_,_,_,_,_,_,_,_,_,_,_,_,_,_,_,_,_,_,_,_,_,_,_,_,_,_,_,_,_,_,_,_,_,_,_,_,_,_,_,_,_,_,_,_,_,_,_,_,_,_,_,_,_,_,_,_,_,_,_,_]) rfl ?_
      refine sw_det (met_some rfl rfl (not_f (decide_eq_true (by omega)))) (fun h_ H_ => exd_move (v := .int .i64 (((k : Nat) : Int))) rfl) (tm' := [_,_,_,_,_,_,_,_,_,_,_,_,_,_,_,_,_,_,_,_,_,_,_,_,_,_,_,_,_,_,_,_,_,_,_,_,_,_,_,_,_,_,_,_,_,_,_,_,_,_,_,_,_,_,_,_,_,_,_,_,_,_,_,_,_,_,_,_,_,_,_,_,_,_,_,_,_,_,_,_,_,_,_,_,_,_,_,_]) rfl ?_
      refine sw_det (met_some rfl rfl (not_f (decide_eq_true (by omega)))) (fun h_ H_ => exd_indexO o29 Try.underlying25 tS3 rfl rfl (by rw [(ns_length _ _)]; omega)) (tm' := [_,_,_,_,_,_,_,_,_,_,_,_,_,_,_,_,_,_,_,_,_,_,_,_,_,_,_,_,_,_,_,_,_,_,_,_,_,_,_,_,_,_,_,_,_,_,_,_,_,_,_,_,_,_,_,_,_,_,_,_,_,_,_,_,_,_,_,_,_,_,_,_,_,_,_,_,_,_,_,_,_,_,_,_,_,_,_,_]) rfl ?_
      refine sw_det (met_some rfl rfl (not_f (decide_eq_true (by omega)))) (fun h_ H_ => exd_loadM (i := k) (j := 0) (e := [.int .i64 (lack size start (wantOf ds) (listOf xs) k)]) o29 H_ (fun x_ h_ => by simp [h_]) tA3 rfl rfl (ns_at (by omega)) (u := .int .i64 (lack size start (wantOf ds) (listOf xs) k)) rfl) (tm' := [_,_,_,_,_,_,_,_,_,_,_,_,_,_,_,_,_,_,_,_,_,_,_,_,_,_,_,_,_,_,_,_,_,_,_,_,_,_,_,_,_,_,_,_,_,_,_,_,_,_,_,_,_,_,_,_,_,_,_,_,_,_,_,_,_,_,_,_,_,_,_,_,_,_,_,_,_,_,_,_,_,_,_,_,_,_,_,_]) rfl ?_
      refine sw_det (met_some rfl rfl (not_f (decide_eq_true (by omega)))) (fun h_ H_ => exd_fieldAddr tF24_2 rfl (a' := ⟨b1, 2, none⟩) rfl) (tm' := [_,_,_,_,_,_,_,_,_,_,_,_,_,_,_,_,_,_,_,_,_,_,_,_,_,_,_,_,_,_,_,_,_,_,_,_,_,_,_,_,_,_,_,_,_,_,_,_,_,_,_,_,_,_,_,_,_,_,_,_,_,_,_,_,_,_,_,_,_,_,_,_,_,_,_,_,_,_,_,_,_,_,_,_,_,_,_,_]) rfl ?_
      refine sw_det (met_some rfl rfl (not_f (decide_eq_true (by omega)))) (fun h_ H_ => exd_load_own H_ tA22 rfl (i := 1) rfl (v := .slice a n c) rfl) (tm' := [_,_,_,_,_,_,_,_,_,_,_,_,_,_,_,_,_,_,_,_,_,_,_,_,_,_,_,_,_,_,_,_,_,_,_,_,_,_,_,_,_,_,_,_,_,_,_,_,_,_,_,_,_,_,_,_,_,_,_,_,_,_,_,_,_,_,_,_,_,_,_,_,_,_,_,_,_,_,_,_,_,_,_,_,_,_,_,_]) rfl ?_
      refine sw_det (met_some rfl rfl (not_f (decide_eq_true (by omega)))) (fun h_ H_ => exd_move (v := .int .i64 (((k : Nat) : Int))) rfl) (tm' := [_,_,_,_,_,_,_,_,_,_,_,_,_,_,_,_,_,_,_,_,_,_,_,_,_,_,_,_,_,_,_,_,_,_,_,_,_,_,_,_,_,_,_,_,_,_,_,_,_,_,_,_,_,_,_,_,_,_,_,_,_,_,_,_,_,_,_,_,_,_,_,_,_,_,_,_,_,_,_,_,_,_,_,_,_,_,_,_]) rfl ?_
      refine sw_det (met_some rfl rfl (not_f (decide_eq_true (by omega)))) (fun h_ H_ => exd_indexAddrN (i := k) Try.underlying22 tS38 (sl_ne a n c (((D.mono le15).mono le20).ne (by omega))) rfl (by omega)) (tm' := [_,_,_,_,_,_,_,_,_,_,_,_,_,_,_,_,_,_,_,_,_,_,_,_,_,_,_,_,_,_,_,_,_,_,_,_,_,_,_,_,_,_,_,_,_,_,_,_,_,_,_,_,_,_,_,_,_,_,_,_,_,_,_,_,_,_,_,_,_,_,_,_,_,_,_,_,_,_,_,_,_,_,_,_,_,_,_,_]) rfl ?_
      refine sw_det (met_some rfl rfl (not_f (decide_eq_true (by omega)))) (fun h_ H_ => exd_fieldAddr tF38_1 rfl (a' := ((adr a).add (k * 3)).add 2) rfl) (tm' := [_,_,_,_,_,_,_,_,_,_,_,_,_,_,_,_,_,_,_,_,_,_,_,_,_,_,_,_,_,_,_,_,_,_,_,_,_,_,_,_,_,_,_,_,_,_,_,_,_,_,_,_,_,_,_,_,_,_,_,_,_,_,_,_,_,_,_,_,_,_,_,_,_,_,_,_,_,_,_,_,_,_,_,_,_,_,_,_]) rfl ?_
      refine sw_det (met_some rfl rfl (not_f (decide_eq_true (by omega)))) (fun h_ H_ => exd_load_per H_ tA3 rfl (v := .int .i64 ((ds.getD k dz).want)) (((D.mono le15).mono le20).want (by omega))) (tm' := [_,_,_,_,_,_,_,_,_,_,_,_,_,_,_,_,_,_,_,_,_,_,_,_,_,_,_,_,_,_,_,_,_,_,_,_,_,_,_,_,_,_,_,_,_,_,_,_,_,_,_,_,_,_,_,_,_,_,_,_,_,_,_,_,_,_,_,_,_,_,_,_,_,_,_,_,_,_,_,_,_,_,_,_,_,_,_,_]) rfl ?_
      refine sw_call (met_some rfl rfl (not_f (decide_eq_true (by omega)))) (first := []) (cap := []) rfl rfl fC22 (fun h_ H_ => (c22 md _ (lack size start (wantOf ds) (listOf xs) k) (0) ((ds.getD k dz).want)).mono fun v_ h2_ ⟨e_, k_⟩ => ⟨e_, H_.call k_⟩) (tm' := [_,_,_,_,_,_,_,_,_,_,_,_,_,_,_,_,_,_,_,_,_,_,_,_,_,_,_,_,_,_,_,_,_,_,_,_,_,_,_,_,_,_,_,_,_,_,_,_,_,_,_,_,_,_,_,_,_,_,_,_,_,_,_,_,_,_,_,_,_,_,_,_,_,_,_,_,_,_,_,_,_,_,_,_,_,_,_,_]) rfl ?_
      refine sw_det (met_some rfl rfl (not_f (decide_eq_true (by omega)))) (fun h_ H_ => exd_not rfl) (tm' := [_,_,_,_,_,_,_,_,_,_,_,_,_,_,_,_,_,_,_,_,_,_,_,_,_,_,_,_,_,_,_,_,_,_,_,_,_,_,_,_,_,_,_,_,_,_,_,_,_,_,_,_,_,_,_,_,_,_,_,_,_,_,_,_,_,_,_,_,_,_,_,_,_,_,_,_,_,_,_,_,_,_,_,_,_,_,_,_]) rfl ?_
      refine sw_det (met_none rfl) (fun h_ H_ => exd_pick_f rfl (not_f (decide_eq_true (by omega))) (v := .bool (!(decide (0 ≤ lack size start (wantOf ds) (listOf xs) k ∧ lack size start (wantOf ds) (listOf xs) k ≤ (ds.getD k dz).want)))) rfl) (tm' := [_,_,_,_,_,_,_,_,_,_,_,_,_,_,_,_,_,_,_,_,_,_,_,_,_,_,_,_,_,_,_,_,_,_,_,_,_,_,_,_,_,_,_,_,_,_,_,_,_,_,_,_,_,_,_,_,_,_,_,_,_,_,_,_,_,_,_,_,_,_,_,_,_,_,_,_,_,_,_,_,_,_,_,_,_,_,_,_]) rfl ?_
      refine sw_det (met_none rfl) (fun h_ H_ => exd_move (v := .bool (!(decide (0 ≤ lack size start (wantOf ds) (listOf xs) k ∧ lack size start (wantOf ds) (listOf xs) k ≤ (ds.getD k dz).want)))) rfl) (tm' := [_,_,_,_,_,_,_,_,_,_,_,_,_,_,_,_,_,_,_,_,_,_,_,_,_,_,_,_,_,_,_,_,_,_,_,_,_,_,_,_,_,_,_,_,_,_,_,_,_,_,_,_,_,_,_,_,_,_,_,_,_,_,_,_,_,_,_,_,_,_,_,_,_,_,_,_,_,_,_,_,_,_,_,_,_,_,_,_]) rfl ?_
      refine sw_det (met_some rfl rfl (not_f (decide_eq_true (by omega)))) (fun h_ H_ => exd_move (v := w24) rfl) (tm' := [_,_,_,_,_,_,_,_,_,_,_,_,_,_,_,_,_,_,_,_,_,_,_,_,_,_,_,_,_,_,_,_,_,_,_,_,_,_,_,_,_,_,_,_,_,_,_,_,_,_,_,_,_,_,_,_,_,_,_,_,_,_,_,_,_,_,_,_,_,_,_,_,_,_,_,_,_,_,_,_,_,_,_,_,_,_,_,_]) rfl ?_
      refine sw_det (met_some rfl rfl (not_f (decide_eq_true (by omega)))) (fun h_ H_ => exd_move (v := .int .i64 (((k : Nat) : Int))) rfl) (tm' := [_,_,_,_,_,_,_,_,_,_,_,_,_,_,_,_,_,_,_,_,_,_,_,_,_,_,_,_,_,_,_,_,_,_,_,_,_,_,_,_,_,_,_,_,_,_,_,_,_,_,_,_,_,_,_,_,_,_,_,_,_,_,_,_,_,_,_,_,_,_,_,_,_,_,_,_,_,_,_,_,_,_,_,_,_,_,_,_]) rfl ?_
      exact sw_nil rfl rfl
    refine rl_det (met_some rfl rfl (not_f (decide_eq_true (by omega)))) (fun h_ H_ => exd_indexO o30 Try.underlying25 tS3 rfl rfl (by rw [(ns_length _ _)]; omega)) (tm' := [_,_,_,_,_,_,_,_,_,_,_,_,_,_,_,_,_,_,_,_,_,_,_,_,_,_,_,_,_,_,_,_,_,_,_,_,_,_,_,_,_,_,_,_,_,_,_,_,_,_,_,_,_,_,_,_,_,_,_,_,_,_,_,_,_,_,_,_,_,_,_,_,_,_,_,_,_,_,_,_,_,_,_,_,_,_,_,_]) rfl ?_
    refine rl_det (met_some rfl rfl (not_f (decide_eq_true (by omega)))) (fun h_ H_ => exd_loadM (i := k) (j := 0) (e := [.int .i64 (ovr size start (wantOf ds) (listOf xs) k)]) o30 H_ (fun x_ h_ => by simp [h_]) tA3 rfl rfl (ns_at (by omega)) (u := .int .i64 (ovr size start (wantOf ds) (listOf xs) k)) rfl) (tm' := [_,_,_,_,_,_,_,_,_,_,_,_,_,_,_,_,_,_,_,_,_,_,_,_,_,_,_,_,_,_,_,_,_,_,_,_,_,_,_,_,_,_,_,_,_,_,_,_,_,_,_,_,_,_,_,_,_,_,_,_,_,_,_,_,_,_,_,_,_,_,_,_,_,_,_,_,_,_,_,_,_,_,_,_,_,_,_,_]) rfl ?_
    refine rl_calld (met_some rfl rfl (not_f (decide_eq_true (by omega)))) (first := []) (cap := []) rfl rfl fC22 (fun h_ H_ => c22 md _ (ovr size start (wantOf ds) (listOf xs) k) (0) (80)) (tm' := [_,_,_,_,_,_,_,_,_,_,_,_,_,_,_,_,_,_,_,_,_,_,_,_,_,_,_,_,_,_,_,_,_,_,_,_,_,_,_,_,_,_,_,_,_,_,_,_,_,_,_,_,_,_,_,_,_,_,_,_,_,_,_,_,_,_,_,_,_,_,_,_,_,_,_,_,_,_,_,_,_,_,_,_,_,_,_,_]) rfl ?_
    refine rl_det (met_some rfl rfl (not_f (decide_eq_true (by omega)))) (fun h_ H_ => exd_not rfl) (tm' := [_,_,_,_,_,_,_,_,_,_,_,_,_,_,_,_,_,_,_,_,_,_,_,_,_,_,_,_,_,_,_,_,_,_,_,_,_,_,_,_,_,_,_,_,_,_,_,_,_,_,_,_,_,_,_,_,_,_,_,_,_,_,_,_,_,_,_,_,_,_,_,_,_,_,_,_,_,_,_,_,_,_,_,_,_,_,_,_]) rfl ?_
    refine rl_det (met_none rfl) (fun h_ H_ => exd_pick_f rfl (not_f (decide_eq_true (by omega))) (v := .bool (!(decide (0 ≤ ovr size start (wantOf ds) (listOf xs) k ∧ ovr size start (wantOf ds) (listOf xs) k ≤ 80)))) rfl) (tm' := [_,_,_,_,_,_,_,_,_,_,_,_,_,_,_,_,_,_,_,_,_,_,_,_,_,_,_,_,_,_,_,_,_,_,_,_,_,_,_,_,_,_,_,_,_,_,_,_,_,_,_,_,_,_,_,_,_,_,_,_,_,_,_,_,_,_,_,_,_,_,_,_,_,_,_,_,_,_,_,_,_,_,_,_,_,_,_,_]) rfl ?_
    refine rl_end ?_
    refine fl_else rfl (not_f (decide_eq_true (by omega))) ?_
    refine fl_skip ?_
    refine fl_inBlock ?_
    refine rl_start ?_
    refine rl_det (met_none rfl) (fun h_ H_ => exd_move (v := .int .i64 (((k : Nat) : Int))) rfl) (tm' := _::_::_::_::_::_::_::_::_::_::_::_::_::_::_::_::_::_::_::_::_::_::_::_::_::_::_::_::_::_::_::_::_::_::_::_::_::_::_::_::_::_::_::_::_::_::_::_::_::_::_::_::_) rfl ?_
    refine rl_det (met_none rfl) (fun h_ H_ => exd_add rfl rfl (n := ((k + 1 : Nat) : Int)) (wr (by omega))) (tm' := _::_::_::_::_::_::_::_::_::_::_::_::_::_::_::_::_::_::_::_::_::_::_::_::_::_::_::_::_::_::_::_::_::_::_::_::_::_::_::_::_::_::_::_::_::_::_::_::_::_::_::_::_::_) rfl ?_
    refine rl_det (met_none rfl) (fun h_ H_ => exd_assign (v := .int .i64 (((k + 1 : Nat) : Int))) rfl) (tm' := _::_::_::_::_::_::_::_::_::_::_::_) rfl ?_
    refine rl_end ?_
    exact fun h_ H_ => IH32 _ _ (by omega) h_ ⟨k + 1, (fun i_ => [(y31 0), .int .i64 (((k : Nat) : Int)), w22, .int .i64 (((n : Nat) : Int)), .bool (decide (((k : Nat) : Int) < ((n : Nat) : Int))), .int .i64 (((k : Nat) : Int)), .int .i64 (((k + 1 : Nat) : Int)), w22, .int .i64 (((k : Nat) : Int)), .pointer (some ((adrV w22).add (k * 1))), .int .i64 (levs size start (wantOf ds) (listOf xs) k), .pointer (some ⟨b1, 0, none⟩), .int .i64 (size), .bool (decide (0 ≤ levs size start (wantOf ds) (listOf xs) k ∧ levs size start (wantOf ds) (listOf xs) k ≤ size)), .bool (!(decide (0 ≤ levs size start (wantOf ds) (listOf xs) k ∧ levs size start (wantOf ds) (listOf xs) k ≤ size))), .bool (!(decide (0 ≤ levs size start (wantOf ds) (listOf xs) k ∧ levs size start (wantOf ds) (listOf xs) k ≤ size))), w23, .int .i64 (((k : Nat) : Int)), .pointer (some ((adrV w23).add (k * 1))), .int .i64 (lack size start (wantOf ds) (listOf xs) k), .pointer (some ⟨b1, 2, none⟩), .slice a n c, .int .i64 (((k : Nat) : Int)), .pointer (some ((adr a).add (k * 3))), .pointer (some (((adr a).add (k * 3)).add 2)), .int .i64 ((ds.getD k dz).want), .bool (decide (0 ≤ lack size start (wantOf ds) (listOf xs) k ∧ lack size start (wantOf ds) (listOf xs) k ≤ (ds.getD k dz).want)), .bool (!(decide (0 ≤ lack size start (wantOf ds) (listOf xs) k ∧ lack size start (wantOf ds) (listOf xs) k ≤ (ds.getD k dz).want))), .bool (!(decide (0 ≤ lack size start (wantOf ds) (listOf xs) k ∧ lack size start (wantOf ds) (listOf xs) k ≤ (ds.getD k dz).want))), .bool (!(decide (0 ≤ lack size start (wantOf ds) (listOf xs) k ∧ lack size start (wantOf ds) (listOf xs) k ≤ (ds.getD k dz).want))), w24, .int .i64 (((k : Nat) : Int)), .pointer (some ((adrV w24).add (k * 1))), .int .i64 (ovr size start (wantOf ds) (listOf xs) k), .bool (decide (0 ≤ ovr size start (wantOf ds) (listOf xs) k ∧ ovr size start (wantOf ds) (listOf xs) k ≤ 80)), .bool (!(decide (0 ≤ ovr size start (wantOf ds) (listOf xs) k ∧ ovr size start (wantOf ds) (listOf xs) k ≤ 80))), .bool (!(decide (0 ≤ ovr size start (wantOf ds) (listOf xs) k ∧ ovr size start (wantOf ds) (listOf xs) k ≤ 80))), (y31 37)].getD i_ undef), rfl, rfl, (by omega), H_⟩
  · refine fl_else rfl (decide_eq_false c33) ?_
    refine fl_exit rfl ?_
    refine fl_seq ?_
    refine rl_start ?_
    refine rl_det (met_none rfl) (fun h_ H_ => exd_move (v := w22) rfl) (tm' := [_,_,_,_,_,_,_,_,_,_,_,_,_,_,_,_,_,_,_,_,_,_,_,_,_,_,_,_,_,_,_,_,_,_,_,_,_,_,_,_,_,_,_,_,_,_,_,_,_,_,_,_,_,_,_,_,_,_,_,_,_,_,_,_,_,_,_,_,_,_,_,_,_,_,_,_,_,_,_,_,_,_,_,_,_,_,_,_]) rfl ?_
    refine rl_det (met_none rfl) (fun h_ H_ => exd_move (v := w23) rfl) (tm' := [_,_,_,_,_,_,_,_,_,_,_,_,_,_,_,_,_,_,_,_,_,_,_,_,_,_,_,_,_,_,_,_,_,_,_,_,_,_,_,_,_,_,_,_,_,_,_,_,_,_,_,_,_,_,_,_,_,_,_,_,_,_,_,_,_,_,_,_,_,_,_,_,_,_,_,_,_,_,_,_,_,_,_,_,_,_,_,_]) rfl ?_
    refine rl_det (met_none rfl) (fun h_ H_ => exd_move (v := w24) rfl) (tm' := [_,_,_,_,_,_,_,_,_,_,_,_,_,_,_,_,_,_,_,_,_,_,_,_,_,_,_,_,_,_,_,_,_,_,_,_,_,_,_,_,_,_,_,_,_,_,_,_,_,_,_,_,_,_,_,_,_,_,_,_,_,_,_,_,_,_,_,_,_,_,_,_,_,_,_,_,_,_,_,_,_,_,_,_,_,_,_,_]) rfl ?_
    obtain ⟨a34, c35, ev_, _⟩ := o28.val; have ev_ : w22 = .slice a34 n c35 := ev_.trans (congrArg (fun q_ => Value.slice a34 q_ c35) (ns_length _ _)); subst ev_
    obtain ⟨a36, c37, ev_, _⟩ := o29.val; have ev_ : w23 = .slice a36 n c37 := ev_.trans (congrArg (fun q_ => Value.slice a36 q_ c37) (ns_length _ _)); subst ev_
    obtain ⟨a38, c39, ev_, _⟩ := o30.val; have ev_ : w24 = .slice a38 n c39 := ev_.trans (congrArg (fun q_ => Value.slice a38 q_ c39) (ns_length _ _)); subst ev_
    refine rl_det (met_none rfl) (fun h_ H_ => exd_build tZ30 tP30 (vs := [(0, (.slice a34 n c35)), (1, (.slice a36 n c37)), (2, (.slice a38 n c39))]) rfl (cells := #[(.slice a34 n c35), (.slice a36 n c37), (.slice a38 n c39)]) rfl) (tm' := [_,_,_,_,_,_,_,_,_,_,_,_,_,_,_,_,_,_,_,_,_,_,_,_,_,_,_,_,_,_,_,_,_,_,_,_,_,_,_,_,_,_,_,_,_,_,_,_,_,_,_,_,_,_,_,_,_,_,_,_,_,_,_,_,_,_,_,_,_,_,_,_,_,_,_,_,_,_,_,_,_,_,_,_,_,_,_,_]) rfl ?_
    refine rl_store (met_none rfl) tS30 rfl (v := .agg #[(.slice a34 n c35), (.slice a36 n c37), (.slice a38 n c39)]) rfl (i := 0) rfl rfl (ones_cons o28.one.2 (ones_cons o29.one.2 (ones_cons o30.one.2 rfl))) (Nat.le_of_ble_eq_true rfl) (cs2 := [(.slice a34 n c35), (.slice a36 n c37), (.slice a38 n c39)]) rfl (rl_own (L' := ([(b2, .cells #[(.slice a34 n c35), (.slice a36 n c37), (.slice a38 n c39)] 30 (0, 0)), (b1, .cells #[.int .i64 (size), .int .i64 (start), .slice a n c] 24 (0, 0))] : Pcs) ++ (X25 ++ (X26 ++ (X27 ++ [])))) rfl ?_)
    refine rl_det (met_none rfl) (fun h_ H_ => exd_assign (v := .bool (true)) rfl) (tm' := _::_::_::_::_::_::_) rfl ?_
    refine rl_end ?_
    refine fl_ret Try.func19 rfl (vs := [.agg #[(.slice a34 n c35), (.slice a36 n c37), (.slice a38 n c39)], .bool (true)]) (fun h_ H_ => ⟨.agg #[(.slice a34 n c35), (.slice a36 n c37), (.slice a38 n c39)], _, rfl, (wpS_bind (wpS_pure (wpS_loadVarN tA30 tS30 (vs := [(.slice a34 n c35), (.slice a36 n c37), (.slice a38 n c39)]) rfl (fun j_ v_ e_ => by rw [add_mk]; exact H_.ocell (i := 0) rfl (by simpa using e_)) ⟨rfl, rfl⟩))), ⟨.bool (true), _, rfl, rfl, rfl⟩⟩) (v := .tuple #[.agg #[(.slice a34 n c35), (.slice a36 n c37), (.slice a38 n c39)], .bool (true)]) rfl ?_
    exact fun h_ H_ => K _ _ ⟨_, _, _, _, _, _, rfl, o28, o29, o30, H_.dropA.new⟩
end Go.Proofs.Ytbmkacnlhlbnjaa
namespace Go.Proofs.Ytbmkacnlhlbnjaa
open Go.X Go.X.Cist Go.Conc
set_option maxRecDepth 10000

theorem c76 (md : Md) (h : Heap) (p : PHeap) (hp : Per p h) (size start : Int) (a : Option Addr) (n c : Nat) (ds : List Day) (D : Days p a n ds) (hn : n ≤ 40) (m e : Int) : CallsX Try.prog md 76 #[.agg #[.int .i64 (size), .int .i64 (start), .slice a n c], .int .i64 (m), .int .i64 (e)] h fun v h' => v = .tuple #[.int .i64 (if e = 3 then 8 else m), .bool (decide (e = 3 ∨ (e = 0 ∧ IsDay ds m)))] ∧ Keep h h' := by
  refine calls_intro (Φ := fun h_ => St h [] p h_ []) Try.func76 rfl (tm := [_, _, _, _, _, _, _, _, _, _, _, _, _, _, _, _, _, _]) rfl ?_ (St.start h _ hp)
  intro c₀ cs Stop K
  have hl := D.len
  refine fl_seq ?_
  refine rl_start ?_
  refine rl_box (met_none rfl) (v := .agg #[.int .i64 (size), .int .i64 (start), .slice a n c]) rfl fun b1 => rl_own (L' := [(b1, .cells #[.int .i64 (size), .int .i64 (start), .slice a n c] 24 (0, 0))]) rfl ?_
  refine rl_norm (tm' := _::_::_::_::_) rfl ?_
  refine rl_det (met_none rfl) (fun h_ H_ => exd_assign (v := .int .i64 0) rfl) (tm' := _::_::_::_::_::_::_::_) rfl ?_
  refine rl_det (met_none rfl) (fun h_ H_ => exd_assign (v := .bool (false)) rfl) (tm' := _::_::_::_::_::_::_::_::_) rfl ?_
  refine rl_end ?_
  refine fl_seq ?_
  refine fl_seq ?_
  refine rl_start ?_
  refine rl_det (met_none rfl) (fun h_ H_ => exd_move (v := .int .i64 (e)) rfl) (tm' := _::_::_::_::_::_::_::_::_::_) rfl ?_
  refine rl_det (met_none rfl) (fun h_ H_ => exd_eql rfl rfl) (tm' := _::_::_::_::_::_::_::_::_::_::_) rfl ?_
  refine rl_end ?_
  by_cases c2 : e = 3
  · refine fl_then rfl (decide_eq_true c2) ?_
    refine fl_seq ?_
    refine rl_start ?_
    refine rl_det (met_none rfl) (fun h_ H_ => exd_assign (v := .int .i64 8) rfl) (tm' := _::_::_::_::_::_::_::_) rfl ?_
    refine rl_det (met_none rfl) (fun h_ H_ => exd_assign (v := .bool (true)) rfl) (tm' := _::_::_::_::_::_::_::_::_) rfl ?_
    refine rl_end ?_
    refine fl_ret Try.func76 rfl (vs := [.int .i64 8, .bool (true)]) (fun h_ H_ => ⟨.int .i64 8, _, rfl, rfl, ⟨.bool (true), _, rfl, rfl, rfl⟩⟩) (v := .tuple #[.int .i64 8, .bool (true)]) rfl ?_
    exact fun h_ H_ => K _ _ ⟨by first | (subst e; simp) | simp [*], H_.kept⟩
  · refine fl_else rfl (decide_eq_false c2) ?_
    refine fl_skip ?_
    refine fl_seq ?_
    refine rl_start ?_
    refine rl_det (met_none rfl) (fun h_ H_ => exd_move (v := .int .i64 (m)) rfl) (tm' := _::_::_::_::_::_::_::_::_::_::_::_) rfl ?_
    refine rl_det (met_none rfl) (fun h_ H_ => exd_move (v := .int .i64 (e)) rfl) (tm' := _::_::_::_::_::_::_::_::_::_::_::_::_) rfl ?_
    refine rl_det (met_none rfl) (fun h_ H_ => exd_eql rfl rfl) (tm' := [_,_,_,_,_,_,_,_,_,_,_,_,_,_,_,_,_,_]) rfl ?_
    refine rl_det (met_none rfl) (fun h_ H_ => exd_move (v := .bool (decide (e = 0))) rfl) (tm' := [_,_,_,_,_,_,_,_,_,_,_,_,_,_,_,_,_,_]) rfl ?_
    by_cases c3 : e = 0
    · refine rl_det (met_some rfl rfl (decide_eq_true c3)) (fun h_ H_ => exd_loadN_own H_ tA24 tS24 rfl (i := 0) rfl (vs := [.int .i64 (size), .int .i64 (start), .slice a n c]) rfl rfl) (tm' := [_,_,_,_,_,_,_,_,_,_,_,_,_,_,_,_,_,_]) rfl ?_
      refine rl_det (met_some rfl rfl (decide_eq_true c3)) (fun h_ H_ => exd_move (v := .int .i64 (m)) rfl) (tm' := [_,_,_,_,_,_,_,_,_,_,_,_,_,_,_,_,_,_]) rfl ?_
      refine rl_calld (met_some rfl rfl (decide_eq_true c3)) (first := []) (cap := []) rfl rfl fC26 (fun h_ H_ => c26 md _ _ (fun b_ o_ e_ => H_.per b_ o_ e_) (size) (start) _ _ _ _ D (by omega) m) (tm' := [_,_,_,_,_,_,_,_,_,_,_,_,_,_,_,_,_,_]) rfl ?_
      refine rl_det (met_none rfl) (fun h_ H_ => exd_pick_t rfl (decide_eq_true c3) (v := .bool (decide (IsDay ds m))) rfl) (tm' := [_,_,_,_,_,_,_,_,_,_,_,_,_,_,_,_,_,_]) rfl ?_
      refine rl_det (met_none rfl) (fun h_ H_ => exd_assign (v := .int .i64 (m)) rfl) (tm' := _::_::_::_::_::_::_::_) rfl ?_
      refine rl_det (met_none rfl) (fun h_ H_ => exd_assign (v := .bool (decide (IsDay ds m))) rfl) (tm' := _::_::_::_::_::_::_::_::_) rfl ?_
      refine rl_end ?_
      refine fl_ret Try.func76 rfl (vs := [.int .i64 (m), .bool (decide (IsDay ds m))]) (fun h_ H_ => ⟨.int .i64 (m), _, rfl, rfl, ⟨.bool (decide (IsDay ds m)), _, rfl, rfl, rfl⟩⟩) (v := .tuple #[.int .i64 (m), .bool (decide (IsDay ds m))]) rfl ?_
      exact fun h_ H_ => K _ _ ⟨by first | (subst e; simp) | simp [*], H_.kept⟩
    · refine rl_pass (met_not rfl rfl (decide_eq_false c3)) (tm' := [_,_,_,_,_,_,_,_,_,_,_,_,_,_,_,_,_,_]) rfl ?_
      refine rl_pass (met_not rfl rfl (decide_eq_false c3)) (tm' := [_,_,_,_,_,_,_,_,_,_,_,_,_,_,_,_,_,_]) rfl ?_
      refine rl_pass (met_not rfl rfl (decide_eq_false c3)) (tm' := [_,_,_,_,_,_,_,_,_,_,_,_,_,_,_,_,_,_]) rfl ?_
      refine rl_det (met_none rfl) (fun h_ H_ => exd_pick_f rfl (decide_eq_false c3) (v := .bool (false)) rfl) (tm' := [_,_,_,_,_,_,_,_,_,_,_,_,_,_,_,_,_,_]) rfl ?_
      refine rl_det (met_none rfl) (fun h_ H_ => exd_assign (v := .int .i64 (m)) rfl) (tm' := _::_::_::_::_::_::_::_) rfl ?_
      refine rl_det (met_none rfl) (fun h_ H_ => exd_assign (v := .bool (false)) rfl) (tm' := _::_::_::_::_::_::_::_::_) rfl ?_
      refine rl_end ?_
      refine fl_ret Try.func76 rfl (vs := [.int .i64 (m), .bool (false)]) (fun h_ H_ => ⟨.int .i64 (m), _, rfl, rfl, ⟨.bool (false), _, rfl, rfl, rfl⟩⟩) (v := .tuple #[.int .i64 (m), .bool (false)]) rfl ?_
      exact fun h_ H_ => K _ _ ⟨by first | (subst e; simp) | simp [*], H_.kept⟩
theorem c24 (h : Heap) (p : PHeap) (hp : Per p h) (size start : Int) (a : Option Addr) (n c : Nat) (ds : List Day) (D : Days p a n ds) (hn : n ≤ 40) : CallsX Try.prog (.main true) 24 #[.agg #[.int .i64 (size), .int .i64 (start), .slice a n c]] h fun v h' => v = .bool (decide (Ok size start ds ∧ Lasts size start ds)) ∧ Keep h h' := by
  refine calls_intro (Φ := fun h_ => St h [] p h_ []) Try.func24 rfl (tm := [_, _, _, _, _, _, _, _, _, _, _, _]) rfl ?_ (St.start h _ hp)
  intro c₀ cs Stop K
  have hl := D.len
  refine fl_seq ?_
  refine rl_start ?_
  refine rl_box (met_none rfl) (v := .agg #[.int .i64 (size), .int .i64 (start), .slice a n c]) rfl fun b1 => rl_own (L' := [(b1, .cells #[.int .i64 (size), .int .i64 (start), .slice a n c] 24 (0, 0))]) rfl ?_
  refine rl_norm (tm' := _::_::_) rfl ?_
  refine rl_det (met_none rfl) (fun h_ H_ => exd_assign (v := .bool (false)) rfl) (tm' := _::_::_::_) rfl ?_
  refine rl_end ?_
  refine fl_seq ?_
  refine rl_start ?_
  refine rl_det (met_none rfl) (fun h_ H_ => exd_loadN_own H_ tA24 tS24 rfl (i := 0) rfl (vs := [.int .i64 (size), .int .i64 (start), .slice a n c]) rfl rfl) (tm' := _::_::_::_::_::_::_::_) rfl ?_
  refine rl_calld (met_none rfl) (first := []) (cap := []) rfl rfl fC55 (fun h_ H_ => c55 _ _ (fun b_ o_ e_ => H_.per b_ o_ e_) (size) (start) _ _ _ _ D (by omega)) (tm' := _::_::_::_::_::_::_::_::_) rfl ?_
  refine rl_det (met_none rfl) (fun h_ H_ => exd_move (v := .tuple #[.int .i64 ((dryR size start ds).1), .int .i64 ((dryR size start ds).2)]) rfl) (tm' := _::_::_::_::_::_::_) rfl ?_
  refine rl_det (met_none rfl) (fun h_ H_ => exd_extract rfl (v := .int .i64 ((dryR size start ds).1)) rfl) (tm' := [_,_,_,_,_,_,_,_,_,_,_,_]) rfl ?_
  refine rl_det (met_none rfl) (fun h_ H_ => exd_extract rfl (v := .int .i64 ((dryR size start ds).2)) rfl) (tm' := [_,_,_,_,_,_,_,_,_,_,_,_]) rfl ?_
  refine rl_det (met_none rfl) (fun h_ H_ => exd_assign (v := .int .i64 ((dryR size start ds).1)) rfl) (tm' := _::_::_::_::_) rfl ?_
  refine rl_det (met_none rfl) (fun h_ H_ => exd_assign (v := .int .i64 ((dryR size start ds).2)) rfl) (tm' := _::_::_::_::_::_) rfl ?_
  refine rl_end ?_
  refine fl_seq ?_
  refine rl_start ?_
  refine rl_det (met_none rfl) (fun h_ H_ => exd_move (v := .int .i64 ((dryR size start ds).2)) rfl) (tm' := [_,_,_,_,_,_,_,_,_,_,_,_]) rfl ?_
  refine rl_det (met_none rfl) (fun h_ H_ => exd_eql rfl rfl) (tm' := [_,_,_,_,_,_,_,_,_,_,_,_]) rfl ?_
  refine rl_det (met_none rfl) (fun h_ H_ => exd_assign (v := .bool (decide ((dryR size start ds).2 = 3))) rfl) (tm' := _::_::_::_) rfl ?_
  refine rl_end ?_
  refine fl_ret Try.func24 rfl (vs := [.bool (decide ((dryR size start ds).2 = 3))]) (fun h_ H_ => ⟨.bool (decide ((dryR size start ds).2 = 3)), _, rfl, rfl, rfl⟩) (v := .bool (decide ((dryR size start ds).2 = 3))) rfl ?_
  exact fun h_ H_ => K _ _ ⟨by rw [decide_eq_decide.2 dry_lasts], H_.kept⟩
theorem c38 (h : Heap) (p : PHeap) (hp : Per p h) (size start : Int) (a : Option Addr) (n c : Nat) (ds : List Day) (D : Days p a n ds) (hn : n ≤ 40) (hOk : Ok size start ds) : CallsX Try.prog (.main true) 38 #[.agg #[.int .i64 (size), .int .i64 (start), .slice a n c]] h fun v h' => v = .tuple #[.int .i64 (dayOr (dryR size start ds)), .int .i64 (dayOr (mustR size start ds)), .bool true] ∧ Keep h h' := by
  refine calls_intro (Φ := fun h_ => St h [] p h_ []) Try.func38 rfl (tm := [_, _, _, _, _, _, _, _, _, _, _, _, _, _, _, _, _, _, _, _, _, _, _, _, _, _, _, _, _, _, _, _, _, _, _, _, _, _, _, _, _, _, _, _, _]) rfl ?_ (St.start h _ hp)
  intro c₀ cs Stop K
  have hl := D.len
  have hd1 : (dryR size start ds).2 = 3 ∨ ((dryR size start ds).2 = 0 ∧ IsDay ds (dryR size start ds).1) := day_or hOk
  have hm1 : (mustR size start ds).2 = 3 ∨ ((mustR size start ds).2 = 0 ∧ IsDay ds (mustR size start ds).1) := must_or hOk
  refine fl_seq ?_
  refine rl_start ?_
  refine rl_box (met_none rfl) (v := .agg #[.int .i64 (size), .int .i64 (start), .slice a n c]) rfl fun b1 => rl_own (L' := [(b1, .cells #[.int .i64 (size), .int .i64 (start), .slice a n c] 24 (0, 0))]) rfl ?_
  refine rl_norm (tm' := _::_::_) rfl ?_
  refine rl_det (met_none rfl) (fun h_ H_ => exd_assign (v := .int .i64 0) rfl) (tm' := _::_::_::_) rfl ?_
  refine rl_det (met_none rfl) (fun h_ H_ => exd_assign (v := .int .i64 0) rfl) (tm' := _::_::_::_::_) rfl ?_
  refine rl_det (met_none rfl) (fun h_ H_ => exd_assign (v := .bool (false)) rfl) (tm' := _::_::_::_::_::_) rfl ?_
  refine rl_end ?_
  refine fl_seq ?_
  refine rl_start ?_
  refine rl_det (met_none rfl) (fun h_ H_ => exd_loadN_own H_ tA24 tS24 rfl (i := 0) rfl (vs := [.int .i64 (size), .int .i64 (start), .slice a n c]) rfl rfl) (tm' := _::_::_::_::_::_::_::_::_::_::_::_::_) rfl ?_
  refine rl_calld (met_none rfl) (first := []) (cap := []) rfl rfl fC55 (fun h_ H_ => c55 _ _ (fun b_ o_ e_ => H_.per b_ o_ e_) (size) (start) _ _ _ _ D (by omega)) (tm' := _::_::_::_::_::_::_::_::_::_::_::_::_::_) rfl ?_
  refine rl_det (met_none rfl) (fun h_ H_ => exd_move (v := .tuple #[.int .i64 ((dryR size start ds).1), .int .i64 ((dryR size start ds).2)]) rfl) (tm' := _::_::_::_::_::_::_::_::_::_::_::_) rfl ?_
  refine rl_det (met_none rfl) (fun h_ H_ => exd_extract rfl (v := .int .i64 ((dryR size start ds).1)) rfl) (tm' := _::_::_::_::_::_::_::_::_::_::_::_::_::_::_) rfl ?_
  refine rl_det (met_none rfl) (fun h_ H_ => exd_extract rfl (v := .int .i64 ((dryR size start ds).2)) rfl) (tm' := _::_::_::_::_::_::_::_::_::_::_::_::_::_::_::_) rfl ?_
  refine rl_det (met_none rfl) (fun h_ H_ => exd_assign (v := .int .i64 ((dryR size start ds).1)) rfl) (tm' := _::_::_::_::_::_::_) rfl ?_
  refine rl_det (met_none rfl) (fun h_ H_ => exd_assign (v := .int .i64 ((dryR size start ds).2)) rfl) (tm' := _::_::_::_::_::_::_::_) rfl ?_
  refine rl_end ?_
  refine fl_seq ?_
  refine rl_start ?_
  refine rl_det (met_none rfl) (fun h_ H_ => exd_loadN_own H_ tA24 tS24 rfl (i := 0) rfl (vs := [.int .i64 (size), .int .i64 (start), .slice a n c]) rfl rfl) (tm' := _::_::_::_::_::_::_::_::_::_::_::_::_::_::_::_::_::_) rfl ?_
  refine rl_calld (met_none rfl) (first := []) (cap := []) rfl rfl fC57 (fun h_ H_ => c57 _ _ (fun b_ o_ e_ => H_.per b_ o_ e_) (size) (start) _ _ _ _ D (by omega)) (tm' := _::_::_::_::_::_::_::_::_::_::_::_::_::_::_::_::_::_::_) rfl ?_
  refine rl_det (met_none rfl) (fun h_ H_ => exd_move (v := .tuple #[.int .i64 ((mustR size start ds).1), .int .i64 ((mustR size start ds).2)]) rfl) (tm' := _::_::_::_::_::_::_::_::_::_::_::_::_::_::_::_::_) rfl ?_
  refine rl_det (met_none rfl) (fun h_ H_ => exd_extract rfl (v := .int .i64 ((mustR size start ds).1)) rfl) (tm' := _::_::_::_::_::_::_::_::_::_::_::_::_::_::_::_::_::_::_::_) rfl ?_
  refine rl_det (met_none rfl) (fun h_ H_ => exd_extract rfl (v := .int .i64 ((mustR size start ds).2)) rfl) (tm' := _::_::_::_::_::_::_::_::_::_::_::_::_::_::_::_::_::_::_::_::_) rfl ?_
  refine rl_det (met_none rfl) (fun h_ H_ => exd_assign (v := .int .i64 ((mustR size start ds).1)) rfl) (tm' := _::_::_::_::_::_::_::_::_) rfl ?_
  refine rl_det (met_none rfl) (fun h_ H_ => exd_assign (v := .int .i64 ((mustR size start ds).2)) rfl) (tm' := _::_::_::_::_::_::_::_::_::_) rfl ?_
  refine rl_end ?_
  refine fl_seq ?_
  refine rl_start ?_
  refine rl_det (met_none rfl) (fun h_ H_ => exd_loadN_own H_ tA24 tS24 rfl (i := 0) rfl (vs := [.int .i64 (size), .int .i64 (start), .slice a n c]) rfl rfl) (tm' := _::_::_::_::_::_::_::_::_::_::_::_::_::_::_::_::_::_::_::_::_::_::_) rfl ?_
  refine rl_det (met_none rfl) (fun h_ H_ => exd_move (v := .int .i64 ((dryR size start ds).1)) rfl) (tm' := _::_::_::_::_::_::_::_::_::_::_::_::_::_::_::_::_::_::_::_::_::_::_::_) rfl ?_
  refine rl_det (met_none rfl) (fun h_ H_ => exd_move (v := .int .i64 ((dryR size start ds).2)) rfl) (tm' := _::_::_::_::_::_::_::_::_::_::_::_::_::_::_::_::_::_::_::_::_::_::_::_::_) rfl ?_
  refine rl_calld (met_none rfl) (first := []) (cap := []) rfl rfl fC76 (fun h_ H_ => c76 (.main true) _ _ (fun b_ o_ e_ => H_.per b_ o_ e_) (size) (start) _ _ _ _ D (by omega) ((dryR size start ds).1) ((dryR size start ds).2)) (tm' := _::_::_::_::_::_::_::_::_::_::_::_::_::_::_::_::_::_::_::_::_::_::_::_::_::_) rfl ?_
  refine rl_det (met_none rfl) (fun h_ H_ => exd_move (v := .tuple #[.int .i64 ((if (dryR size start ds).2 = 3 then 8 else (dryR size start ds).1)), .bool (decide ((dryR size start ds).2 = 3 ∨ ((dryR size start ds).2 = 0 ∧ IsDay ds ((dryR size start ds).1))))]) rfl) (tm' := _::_::_::_::_::_::_::_::_::_::_::_::_::_::_::_::_::_::_::_::_::_) rfl ?_
  refine rl_det (met_none rfl) (fun h_ H_ => exd_extract rfl (v := .int .i64 ((if (dryR size start ds).2 = 3 then 8 else (dryR size start ds).1))) rfl) (tm' := _::_::_::_::_::_::_::_::_::_::_::_::_::_::_::_::_::_::_::_::_::_::_::_::_::_::_) rfl ?_
  refine rl_det (met_none rfl) (fun h_ H_ => exd_extract rfl (v := .bool (decide ((dryR size start ds).2 = 3 ∨ ((dryR size start ds).2 = 0 ∧ IsDay ds ((dryR size start ds).1))))) rfl) (tm' := _::_::_::_::_::_::_::_::_::_::_::_::_::_::_::_::_::_::_::_::_::_::_::_::_::_::_::_) rfl ?_
  refine rl_det (met_none rfl) (fun h_ H_ => exd_assign (v := .int .i64 ((if (dryR size start ds).2 = 3 then 8 else (dryR size start ds).1))) rfl) (tm' := _::_::_::_) rfl ?_
  refine rl_det (met_none rfl) (fun h_ H_ => exd_assign (v := .bool (decide ((dryR size start ds).2 = 3 ∨ ((dryR size start ds).2 = 0 ∧ IsDay ds ((dryR size start ds).1))))) rfl) (tm' := _::_::_::_::_::_) rfl ?_
  refine rl_end ?_
  refine fl_seq ?_
  refine rl_start ?_
  refine rl_det (met_none rfl) (fun h_ H_ => exd_loadN_own H_ tA24 tS24 rfl (i := 0) rfl (vs := [.int .i64 (size), .int .i64 (start), .slice a n c]) rfl rfl) (tm' := _::_::_::_::_::_::_::_::_::_::_::_::_::_::_::_::_::_::_::_::_::_::_::_::_::_::_::_::_::_) rfl ?_
  refine rl_det (met_none rfl) (fun h_ H_ => exd_move (v := .int .i64 ((mustR size start ds).1)) rfl) (tm' := _::_::_::_::_::_::_::_::_::_::_::_::_::_::_::_::_::_::_::_::_::_::_::_::_::_::_::_::_::_::_) rfl ?_
  refine rl_det (met_none rfl) (fun h_ H_ => exd_move (v := .int .i64 ((mustR size start ds).2)) rfl) (tm' := [_,_,_,_,_,_,_,_,_,_,_,_,_,_,_,_,_,_,_,_,_,_,_,_,_,_,_,_,_,_,_,_,_,_,_,_,_,_,_,_,_,_,_,_,_]) rfl ?_
  refine rl_calld (met_none rfl) (first := []) (cap := []) rfl rfl fC76 (fun h_ H_ => c76 (.main true) _ _ (fun b_ o_ e_ => H_.per b_ o_ e_) (size) (start) _ _ _ _ D (by omega) ((mustR size start ds).1) ((mustR size start ds).2)) (tm' := [_,_,_,_,_,_,_,_,_,_,_,_,_,_,_,_,_,_,_,_,_,_,_,_,_,_,_,_,_,_,_,_,_,_,_,_,_,_,_,_,_,_,_,_,_]) rfl ?_
  refine rl_det (met_none rfl) (fun h_ H_ => exd_move (v := .tuple #[.int .i64 ((if (mustR size start ds).2 = 3 then 8 else (mustR size start ds).1)), .bool (decide ((mustR size start ds).2 = 3 ∨ ((mustR size start ds).2 = 0 ∧ IsDay ds ((mustR size start ds).1))))]) rfl) (tm' := _::_::_::_::_::_::_::_::_::_::_::_::_::_::_::_::_::_::_::_::_::_::_::_::_::_::_::_::_) rfl ?_
  refine rl_det (met_none rfl) (fun h_ H_ => exd_extract rfl (v := .int .i64 ((if (mustR size start ds).2 = 3 then 8 else (mustR size start ds).1))) rfl) (tm' := [_,_,_,_,_,_,_,_,_,_,_,_,_,_,_,_,_,_,_,_,_,_,_,_,_,_,_,_,_,_,_,_,_,_,_,_,_,_,_,_,_,_,_,_,_]) rfl ?_
  refine rl_det (met_none rfl) (fun h_ H_ => exd_extract rfl (v := .bool (decide ((mustR size start ds).2 = 3 ∨ ((mustR size start ds).2 = 0 ∧ IsDay ds ((mustR size start ds).1))))) rfl) (tm' := [_,_,_,_,_,_,_,_,_,_,_,_,_,_,_,_,_,_,_,_,_,_,_,_,_,_,_,_,_,_,_,_,_,_,_,_,_,_,_,_,_,_,_,_,_]) rfl ?_
  refine rl_det (met_none rfl) (fun h_ H_ => exd_assign (v := .int .i64 ((if (mustR size start ds).2 = 3 then 8 else (mustR size start ds).1))) rfl) (tm' := _::_::_::_::_) rfl ?_
  refine rl_det (met_none rfl) (fun h_ H_ => exd_assign (v := .bool (decide ((mustR size start ds).2 = 3 ∨ ((mustR size start ds).2 = 0 ∧ IsDay ds ((mustR size start ds).1))))) rfl) (tm' := _::_::_::_::_::_::_::_::_::_::_) rfl ?_
  refine rl_end ?_
  refine fl_seq ?_
  refine rl_start ?_
  refine rl_det (met_none rfl) (fun h_ H_ => exd_move (v := .int .i64 ((if (dryR size start ds).2 = 3 then 8 else (dryR size start ds).1))) rfl) (tm' := [_,_,_,_,_,_,_,_,_,_,_,_,_,_,_,_,_,_,_,_,_,_,_,_,_,_,_,_,_,_,_,_,_,_,_,_,_,_,_,_,_,_,_,_,_]) rfl ?_
  refine rl_det (met_none rfl) (fun h_ H_ => exd_move (v := .int .i64 ((if (mustR size start ds).2 = 3 then 8 else (mustR size start ds).1))) rfl) (tm' := [_,_,_,_,_,_,_,_,_,_,_,_,_,_,_,_,_,_,_,_,_,_,_,_,_,_,_,_,_,_,_,_,_,_,_,_,_,_,_,_,_,_,_,_,_]) rfl ?_
  refine rl_det (met_none rfl) (fun h_ H_ => exd_move (v := .bool (decide ((dryR size start ds).2 = 3 ∨ ((dryR size start ds).2 = 0 ∧ IsDay ds ((dryR size start ds).1))))) rfl) (tm' := [_,_,_,_,_,_,_,_,_,_,_,_,_,_,_,_,_,_,_,_,_,_,_,_,_,_,_,_,_,_,_,_,_,_,_,_,_,_,_,_,_,_,_,_,_]) rfl ?_
  refine rl_det (met_none rfl) (fun h_ H_ => exd_move (v := .bool (decide ((dryR size start ds).2 = 3 ∨ ((dryR size start ds).2 = 0 ∧ IsDay ds ((dryR size start ds).1))))) rfl) (tm' := [_,_,_,_,_,_,_,_,_,_,_,_,_,_,_,_,_,_,_,_,_,_,_,_,_,_,_,_,_,_,_,_,_,_,_,_,_,_,_,_,_,_,_,_,_]) rfl ?_
  refine rl_det (met_some rfl rfl (decide_eq_true hd1)) (fun h_ H_ => exd_move (v := .bool (decide ((mustR size start ds).2 = 3 ∨ ((mustR size start ds).2 = 0 ∧ IsDay ds ((mustR size start ds).1))))) rfl) (tm' := [_,_,_,_,_,_,_,_,_,_,_,_,_,_,_,_,_,_,_,_,_,_,_,_,_,_,_,_,_,_,_,_,_,_,_,_,_,_,_,_,_,_,_,_,_]) rfl ?_
  refine rl_det (met_none rfl) (fun h_ H_ => exd_pick_t rfl (decide_eq_true hd1) (v := .bool (decide ((mustR size start ds).2 = 3 ∨ ((mustR size start ds).2 = 0 ∧ IsDay ds ((mustR size start ds).1))))) rfl) (tm' := [_,_,_,_,_,_,_,_,_,_,_,_,_,_,_,_,_,_,_,_,_,_,_,_,_,_,_,_,_,_,_,_,_,_,_,_,_,_,_,_,_,_,_,_,_]) rfl ?_
  refine rl_det (met_none rfl) (fun h_ H_ => exd_move (v := .bool (decide ((mustR size start ds).2 = 3 ∨ ((mustR size start ds).2 = 0 ∧ IsDay ds ((mustR size start ds).1))))) rfl) (tm' := [_,_,_,_,_,_,_,_,_,_,_,_,_,_,_,_,_,_,_,_,_,_,_,_,_,_,_,_,_,_,_,_,_,_,_,_,_,_,_,_,_,_,_,_,_]) rfl ?_
  refine rl_det (met_some rfl rfl (decide_eq_true hm1)) (fun h_ H_ => exd_move (v := .int .i64 ((if (dryR size start ds).2 = 3 then 8 else (dryR size start ds).1))) rfl) (tm' := [_,_,_,_,_,_,_,_,_,_,_,_,_,_,_,_,_,_,_,_,_,_,_,_,_,_,_,_,_,_,_,_,_,_,_,_,_,_,_,_,_,_,_,_,_]) rfl ?_
  refine rl_det (met_some rfl rfl (decide_eq_true hm1)) (fun h_ H_ => exd_move (v := .int .i64 ((if (mustR size start ds).2 = 3 then 8 else (mustR size start ds).1))) rfl) (tm' := [_,_,_,_,_,_,_,_,_,_,_,_,_,_,_,_,_,_,_,_,_,_,_,_,_,_,_,_,_,_,_,_,_,_,_,_,_,_,_,_,_,_,_,_,_]) rfl ?_
  refine rl_det (met_some rfl rfl (decide_eq_true hm1)) (fun h_ H_ => exd_leq rfl rfl) (tm' := [_,_,_,_,_,_,_,_,_,_,_,_,_,_,_,_,_,_,_,_,_,_,_,_,_,_,_,_,_,_,_,_,_,_,_,_,_,_,_,_,_,_,_,_,_]) rfl ?_
  refine rl_det (met_none rfl) (fun h_ H_ => exd_pick_t rfl (decide_eq_true hm1) (v := .bool (decide ((if (dryR size start ds).2 = 3 then 8 else (dryR size start ds).1) ≤ (if (mustR size start ds).2 = 3 then 8 else (mustR size start ds).1)))) rfl) (tm' := [_,_,_,_,_,_,_,_,_,_,_,_,_,_,_,_,_,_,_,_,_,_,_,_,_,_,_,_,_,_,_,_,_,_,_,_,_,_,_,_,_,_,_,_,_]) rfl ?_
  refine rl_det (met_none rfl) (fun h_ H_ => exd_assign (v := .int .i64 ((if (dryR size start ds).2 = 3 then 8 else (dryR size start ds).1))) rfl) (tm' := _::_::_::_) rfl ?_
  refine rl_det (met_none rfl) (fun h_ H_ => exd_assign (v := .int .i64 ((if (mustR size start ds).2 = 3 then 8 else (mustR size start ds).1))) rfl) (tm' := _::_::_::_::_) rfl ?_
  refine rl_det (met_none rfl) (fun h_ H_ => exd_assign (v := .bool (decide ((if (dryR size start ds).2 = 3 then 8 else (dryR size start ds).1) ≤ (if (mustR size start ds).2 = 3 then 8 else (mustR size start ds).1)))) rfl) (tm' := _::_::_::_::_::_) rfl ?_
  refine rl_end ?_
  refine fl_ret Try.func38 rfl (vs := [.int .i64 ((if (dryR size start ds).2 = 3 then 8 else (dryR size start ds).1)), .int .i64 ((if (mustR size start ds).2 = 3 then 8 else (mustR size start ds).1)), .bool (decide ((if (dryR size start ds).2 = 3 then 8 else (dryR size start ds).1) ≤ (if (mustR size start ds).2 = 3 then 8 else (mustR size start ds).1)))]) (fun h_ H_ => ⟨.int .i64 ((if (dryR size start ds).2 = 3 then 8 else (dryR size start ds).1)), _, rfl, rfl, ⟨.int .i64 ((if (mustR size start ds).2 = 3 then 8 else (mustR size start ds).1)), _, rfl, rfl, ⟨.bool (decide ((if (dryR size start ds).2 = 3 then 8 else (dryR size start ds).1) ≤ (if (mustR size start ds).2 = 3 then 8 else (mustR size start ds).1))), _, rfl, rfl, rfl⟩⟩⟩) (v := .tuple #[.int .i64 ((if (dryR size start ds).2 = 3 then 8 else (dryR size start ds).1)), .int .i64 ((if (mustR size start ds).2 = 3 then 8 else (mustR size start ds).1)), .bool (decide ((if (dryR size start ds).2 = 3 then 8 else (dryR size start ds).1) ≤ (if (mustR size start ds).2 = 3 then 8 else (mustR size start ds).1)))]) rfl ?_
  exact fun h_ H_ => K _ _ ⟨by have h_ := days_le hOk; unfold dayOr at h_ ⊢; rw [decide_eq_true h_], H_.kept⟩
theorem c47 (md : Md) (h : Heap) (p : PHeap) (hp : Per p h) (size start : Int) (a : Option Addr) (n c : Nat) (ds : List Day) (D : Days p a n ds) (hn : n ≤ 40) (z : Int) : CallsX Try.prog md 47 #[.agg #[.int .i64 (size), .int .i64 (start), .slice a n c], .int .i64 (z)] h fun v h' => ∃ w X, v = .agg #[.int .i64 z, .int .i64 (min start z), w] ∧ OwnS 38 3 w (dcs ds) X ∧ New h h' X := by
  refine calls_intro (Φ := fun h_ => St h [] p h_ []) Try.func47 rfl (tm := [_, _, _, _, _, _, _, _, _, _, _, _, _, _, _, _]) rfl ?_ (St.start h _ hp)
  intro c₀ cs Stop K
  have hl := D.len
  refine fl_seq ?_
  refine rl_start ?_
  refine rl_box (met_none rfl) (v := .agg #[.int .i64 (size), .int .i64 (start), .slice a n c]) rfl fun b1 => rl_own (L' := [(b1, .cells #[.int .i64 (size), .int .i64 (start), .slice a n c] 24 (0, 0))]) rfl ?_
  refine rl_norm (tm' := _::_::_::_) rfl ?_
  refine rl_alloc (met_none rfl) tZ24 rfl fun b2 => rl_own (L' := [(b2, .cells #[.int .i64 0, .int .i64 0, .slice none 0 0] 24 (0, 0)), (b1, .cells #[.int .i64 (size), .int .i64 (start), .slice a n c] 24 (0, 0))]) rfl ?_
  refine rl_norm (tm' := _::_::_::_::_::_) rfl ?_
  refine rl_end ?_
  refine fl_seq ?_
  refine rl_start ?_
  refine rl_det (met_none rfl) (fun h_ H_ => exd_loadN_own H_ tA24 tS24 rfl (i := 1) rfl (vs := [.int .i64 (size), .int .i64 (start), .slice a n c]) rfl rfl) (tm' := _::_::_::_::_::_::_::_) rfl ?_
  refine rl_own (L' := ([(b2, .cells #[.int .i64 0, .int .i64 0, .slice none 0 0] 24 (0, 0)), (b1, .cells #[.int .i64 (size), .int .i64 (start), .slice a n c] 24 (0, 0))] : Pcs) ++ []) rfl ?_
  refine rl_call (met_none rfl) (first := []) (cap := []) rfl rfl fC30 (R := fun v_ h_ => ∃ w3 : Value, ∃ X4 : Pcs, v_ = .agg #[.int .i64 (size), .int .i64 (start), w3] ∧ (OwnS 38 3 w3 (dcs ds) X4) ∧ St h [] p h_ (([(b2, .cells #[.int .i64 0, .int .i64 0, .slice none 0 0] 24 (0, 0)), (b1, .cells #[.int .i64 (size), .int .i64 (start), .slice a n c] 24 (0, 0))] : Pcs) ++ (X4 ++ []))) (fun h_ H_ => (c30 md _ _ (fun b_ o_ e_ => H_.per b_ o_ e_) (size) (start) _ _ _ _ D (by omega)).mono fun v_ h2_ ⟨w3, X4, e_, o5, N_⟩ => ⟨w3, X4, e_, o5, H_.callNA N_⟩) fun v_ => ?_
  refine rl_ex fun w3 => rl_ex fun X4 => rl_and fun ev_ => rl_and fun o5 => ?_
  have ev_ := ev_.symm; subst ev_
  refine rl_own (L' := ([(b2, .cells #[.int .i64 0, .int .i64 0, .slice none 0 0] 24 (0, 0)), (b1, .cells #[.int .i64 (size), .int .i64 (start), .slice a n c] 24 (0, 0))] : Pcs) ++ (X4 ++ [])) rfl ?_
  refine rl_norm (tm' := _::_::_::_::_::_::_::_::_) rfl ?_
  refine rl_alloc (met_none rfl) tZ24 rfl fun b6 => rl_own (L' := ([(b6, .cells #[.int .i64 0, .int .i64 0, .slice none 0 0] 24 (0, 0)), (b2, .cells #[.int .i64 0, .int .i64 0, .slice none 0 0] 24 (0, 0)), (b1, .cells #[.int .i64 (size), .int .i64 (start), .slice a n c] 24 (0, 0))] : Pcs) ++ (X4 ++ [])) rfl ?_
  refine rl_norm (tm' := _::_::_::_::_::_::_) rfl ?_
  refine rl_store (met_none rfl) tS24 rfl (v := .agg #[.int .i64 (size), .int .i64 (start), w3]) rfl (i := 0) rfl rfl (ones_cons rfl (ones_cons rfl (ones_cons o5.one.2 rfl))) (Nat.le_of_ble_eq_true rfl) (cs2 := [.int .i64 (size), .int .i64 (start), w3]) rfl (rl_own (L' := ([(b6, .cells #[.int .i64 (size), .int .i64 (start), w3] 24 (0, 0)), (b2, .cells #[.int .i64 0, .int .i64 0, .slice none 0 0] 24 (0, 0)), (b1, .cells #[.int .i64 (size), .int .i64 (start), .slice a n c] 24 (0, 0))] : Pcs) ++ (X4 ++ [])) rfl ?_)
  refine rl_end ?_
  refine fl_seq ?_
  refine rs_perm (List.perm_append_comm_assoc ([(b6, .cells #[.int .i64 (size), .int .i64 (start), w3] 24 (0, 0))] : Pcs) ([(b2, .cells #[.int .i64 0, .int .i64 0, .slice none 0 0] 24 (0, 0)), (b1, .cells #[.int .i64 (size), .int .i64 (start), .slice a n c] 24 (0, 0))] : Pcs) _) ?_
  refine rs_own (L' := ([(b2, .cells #[.int .i64 0, .int .i64 0, .slice none 0 0] 24 (0, 0)), (b1, .cells #[.int .i64 (size), .int .i64 (start), .slice a n c] 24 (0, 0))] : Pcs) ++ (([(b6, .cells #[.int .i64 (size), .int .i64 (start), w3] 24 (0, 0))] : Pcs) ++ (X4 ++ []))) rfl ?_
  refine rs_as (fl_mixed (C := []) (A := ([(b2, .cells #[.int .i64 0, .int .i64 0, .slice none 0 0] 24 (0, 0)), (b1, .cells #[.int .i64 (size), .int .i64 (start), .slice a n c] 24 (0, 0))] : Pcs)) 7 [] [7, 8] [8, 6] [0, 1, 2, 3, 4, 5] (fun i_ => match i_ with | 7 => ([(b6, .cells #[.int .i64 (size), .int .i64 (start), w3] 24 (0, 0))] : Pcs) | 8 => X4 | _ => []) (fun i_ => match i_ with | 6 => [7] | _ => []) (fun i_ v_ x_ => match i_ with | 0 => v_ = .int .i64 (z) ∧ x_ = [] | 1 => v_ = .pointer (some ⟨b1, 1, none⟩) ∧ x_ = [] | 2 => v_ = .int .i64 (start) ∧ x_ = [] | 3 => v_ = .int .i64 (z) ∧ x_ = [] | 4 => v_ = .int .i64 (min start z) ∧ x_ = [] | 5 => v_ = .pointer (some ⟨b6, 0, none⟩) ∧ x_ = [] | 6 => v_ = undef ∧ x_ = [(b6, .cells #[.int .i64 (z), .int .i64 (start), w3] 24 (0, 0))] | _ => True) (fun val7 => [.agg #[.int .i64 (size), .int .i64 (start), .slice a n c], .int .i64 (z), .pointer (some ⟨b1, 0, none⟩), undef, .pointer (some ⟨b2, 0, none⟩), .pointer (some ⟨b6, 0, none⟩), .agg #[.int .i64 (size), .int .i64 (start), .slice a n c], .agg #[.int .i64 (size), .int .i64 (start), w3], (val7 0), (val7 1), (val7 2), (val7 3), (val7 4), (val7 5), undef, undef]) mixed (by kernel_rfl) (Nat.le_of_ble_eq_true rfl) (by kernel_rfl) (by kernel_rfl) ⟨fun _ _ h => h.2, ⟨fun _ _ h => h.2, ⟨fun _ _ h => h.2, ⟨fun _ _ h => h.2, ⟨fun _ _ h => h.2, ⟨fun _ _ h => h.2, trivial⟩⟩⟩⟩⟩⟩ (fun _ => by kernel_rfl) (by kernel_rfl) ?_ ?_) (fun h_ H_ => St.swap (A := ([(b2, .cells #[.int .i64 0, .int .i64 0, .slice none 0 0] 24 (0, 0)), (b1, .cells #[.int .i64 (size), .int .i64 (start), .slice a n c] 24 (0, 0))] : Pcs)) (U := (([(b6, .cells #[.int .i64 (size), .int .i64 (start), w3] 24 (0, 0))] : Pcs) ++ (X4 ++ []))) H_)
  · refine mixes_cons rfl (opmix ?_) ?_
    · intro val7 pc8 hQ_ hX_
      refine ⟨[.agg #[.int .i64 (size), .int .i64 (start), .slice a n c], .int .i64 (z), .pointer (some ⟨b1, 0, none⟩), undef, .pointer (some ⟨b2, 0, none⟩), .pointer (some ⟨b6, 0, none⟩), .agg #[.int .i64 (size), .int .i64 (start), .slice a n c], .agg #[.int .i64 (size), .int .i64 (start), w3], (val7 0), (val7 1), (val7 2), (val7 3), (val7 4), (val7 5), undef, undef], [], rfl, rfl, ?_⟩
      exact mix_det (met_none rfl) (fun _ h_ H_ => exd_move (v := .int .i64 (z)) rfl) ⟨rfl, rfl⟩
    refine mixes_cons rfl (opmix ?_) ?_
    · intro val7 pc8 hQ_ hX_
      refine ⟨[.agg #[.int .i64 (size), .int .i64 (start), .slice a n c], .int .i64 (z), .pointer (some ⟨b1, 0, none⟩), undef, .pointer (some ⟨b2, 0, none⟩), .pointer (some ⟨b6, 0, none⟩), .agg #[.int .i64 (size), .int .i64 (start), .slice a n c], .agg #[.int .i64 (size), .int .i64 (start), w3], (val7 0), (val7 1), (val7 2), (val7 3), (val7 4), (val7 5), undef, undef], [], rfl, rfl, ?_⟩
      exact mix_det (met_none rfl) (fun _ h_ H_ => exd_fieldAddr tF24_1 rfl (a' := ⟨b1, 1, none⟩) rfl) ⟨rfl, rfl⟩
    refine mixes_cons rfl (opmix ?_) ?_
    · intro val7 pc8 hQ_ hX_
      have e1_ : val7 1 = .pointer (some ⟨b1, 1, none⟩) := (hQ_ 1 rfl).1
      refine ⟨[.agg #[.int .i64 (size), .int .i64 (start), .slice a n c], .int .i64 (z), .pointer (some ⟨b1, 0, none⟩), undef, .pointer (some ⟨b2, 0, none⟩), .pointer (some ⟨b6, 0, none⟩), .agg #[.int .i64 (size), .int .i64 (start), .slice a n c], .agg #[.int .i64 (size), .int .i64 (start), w3], (val7 0), .pointer (some ⟨b1, 1, none⟩), (val7 2), (val7 3), (val7 4), (val7 5), undef, undef], [], (by simp only [e1_]), rfl, ?_⟩
      exact mix_det (met_none rfl) (fun _ h_ H_ => exd_load_own H_ tA3 rfl (i := 1) rfl (v := .int .i64 (start)) rfl) ⟨rfl, rfl⟩
    refine mixes_cons rfl (opmix ?_) ?_
    · intro val7 pc8 hQ_ hX_
      refine ⟨[.agg #[.int .i64 (size), .int .i64 (start), .slice a n c], .int .i64 (z), .pointer (some ⟨b1, 0, none⟩), undef, .pointer (some ⟨b2, 0, none⟩), .pointer (some ⟨b6, 0, none⟩), .agg #[.int .i64 (size), .int .i64 (start), .slice a n c], .agg #[.int .i64 (size), .int .i64 (start), w3], (val7 0), (val7 1), (val7 2), (val7 3), (val7 4), (val7 5), undef, undef], [], rfl, rfl, ?_⟩
      exact mix_det (met_none rfl) (fun _ h_ H_ => exd_move (v := .int .i64 (z)) rfl) ⟨rfl, rfl⟩
    refine mixes_cons rfl (opmix ?_) ?_
    · intro val7 pc8 hQ_ hX_
      have e2_ : val7 2 = .int .i64 (start) := (hQ_ 2 rfl).1
      have e3_ : val7 3 = .int .i64 (z) := (hQ_ 3 rfl).1
      refine ⟨[.agg #[.int .i64 (size), .int .i64 (start), .slice a n c], .int .i64 (z), .pointer (some ⟨b1, 0, none⟩), undef, .pointer (some ⟨b2, 0, none⟩), .pointer (some ⟨b6, 0, none⟩), .agg #[.int .i64 (size), .int .i64 (start), .slice a n c], .agg #[.int .i64 (size), .int .i64 (start), w3], (val7 0), (val7 1), .int .i64 (start), .int .i64 (z), (val7 4), (val7 5), undef, undef], [], (by simp only [e2_, e3_]), rfl, ?_⟩
      exact mix_det (met_none rfl) (fun _ h_ H_ => exd_min rfl rfl) ⟨rfl, rfl⟩
    refine mixes_cons rfl (opmix ?_) ?_
    · intro val7 pc8 hQ_ hX_
      have e0_ : val7 0 = .int .i64 (z) := (hQ_ 0 rfl).1
      refine ⟨[.agg #[.int .i64 (size), .int .i64 (start), .slice a n c], .int .i64 (z), .pointer (some ⟨b1, 0, none⟩), undef, .pointer (some ⟨b2, 0, none⟩), .pointer (some ⟨b6, 0, none⟩), .agg #[.int .i64 (size), .int .i64 (start), .slice a n c], .agg #[.int .i64 (size), .int .i64 (start), w3], .int .i64 (z), (val7 1), (val7 2), (val7 3), (val7 4), (val7 5), undef, undef], [], (by simp only [e0_]), rfl, ?_⟩
      exact mix_det (met_none rfl) (fun _ h_ H_ => exd_fieldAddr tF24_0 rfl (a' := ⟨b6, 0, none⟩) rfl) ⟨rfl, rfl⟩
    refine mixes_cons rfl (opmix ?_) ?_
    · intro val7 pc8 hQ_ hX_
      have e0_ : val7 0 = .int .i64 (z) := (hQ_ 0 rfl).1
      have e5_ : val7 5 = .pointer (some ⟨b6, 0, none⟩) := (hQ_ 5 rfl).1
      have x7_ : pc8 7 = ([(b6, .cells #[.int .i64 (size), .int .i64 (start), w3] 24 (0, 0))] : Pcs) := hX_ 7 (by decide)
      refine ⟨[.agg #[.int .i64 (size), .int .i64 (start), .slice a n c], .int .i64 (z), .pointer (some ⟨b1, 0, none⟩), undef, .pointer (some ⟨b2, 0, none⟩), .pointer (some ⟨b6, 0, none⟩), .agg #[.int .i64 (size), .int .i64 (start), .slice a n c], .agg #[.int .i64 (size), .int .i64 (start), w3], .int .i64 (z), (val7 1), (val7 2), (val7 3), (val7 4), .pointer (some ⟨b6, 0, none⟩), undef, undef], (([(b6, .cells #[.int .i64 (size), .int .i64 (start), w3] 24 (0, 0))] : Pcs) ++ []), (by simp only [e0_, e5_]), (by rw [← x7_]; rfl), ?_⟩
      exact mix_put (met_none rfl) tS3 rfl (v := .int .i64 (z)) rfl rfl rfl (Nat.le_of_ble_eq_true rfl) (cs2 := [.int .i64 (z), .int .i64 (start), w3]) rfl ⟨rfl, rfl⟩
    exact mixes_nil rfl
  intro val7 pc8 hQ_ hX_
  have e0_ : val7 0 = .int .i64 (z) := (hQ_ 0 (by decide)).1
  have e1_ : val7 1 = .pointer (some ⟨b1, 1, none⟩) := (hQ_ 1 (by decide)).1
  have e2_ : val7 2 = .int .i64 (start) := (hQ_ 2 (by decide)).1
  have e3_ : val7 3 = .int .i64 (z) := (hQ_ 3 (by decide)).1
  have e4_ : val7 4 = .int .i64 (min start z) := (hQ_ 4 (by decide)).1
  have e5_ : val7 5 = .pointer (some ⟨b6, 0, none⟩) := (hQ_ 5 (by decide)).1
  have x6_ : pc8 6 = [(b6, .cells #[.int .i64 (z), .int .i64 (start), w3] 24 (0, 0))] := (hQ_ 6 (by decide)).2
  have x8_ : pc8 8 = X4 := hX_ 8 (by decide)
  refine rl_as (Φ := fun h_ => St h [] p h_ (([(b2, .cells #[.int .i64 0, .int .i64 0, .slice none 0 0] 24 (0, 0)), (b1, .cells #[.int .i64 (size), .int .i64 (start), .slice a n c] 24 (0, 0))] : Pcs) ++ (pc8 8 ++ (pc8 6 ++ [])))) ?_ (fun h_ H_ => H_.swap')
  rw [x8_, x6_]
  refine rl_norm (tm' := [.agg #[.int .i64 (size), .int .i64 (start), .slice a n c], .int .i64 (z), .pointer (some ⟨b1, 0, none⟩), undef, .pointer (some ⟨b2, 0, none⟩), .pointer (some ⟨b6, 0, none⟩), .agg #[.int .i64 (size), .int .i64 (start), .slice a n c], .agg #[.int .i64 (size), .int .i64 (start), w3], .int .i64 (z), .pointer (some ⟨b1, 1, none⟩), .int .i64 (start), .int .i64 (z), .int .i64 (min start z), .pointer (some ⟨b6, 0, none⟩), undef, undef]) (by simp only [e0_, e1_, e2_, e3_, e4_, e5_]) ?_
  clear hQ_ hX_
  refine rl_own (L' := ([(b2, .cells #[.int .i64 0, .int .i64 0, .slice none 0 0] 24 (0, 0)), (b1, .cells #[.int .i64 (size), .int .i64 (start), .slice a n c] 24 (0, 0))] : Pcs) ++ (X4 ++ (([(b6, .cells #[.int .i64 (z), .int .i64 (start), w3] 24 (0, 0))] : Pcs) ++ []))) rfl ?_
  refine rl_perm (List.Perm.append_left _ (List.perm_append_comm_assoc _ _ _)) ?_
  refine rl_own (L' := ([(b2, .cells #[.int .i64 0, .int .i64 0, .slice none 0 0] 24 (0, 0)), (b1, .cells #[.int .i64 (size), .int .i64 (start), .slice a n c] 24 (0, 0))] : Pcs) ++ (([(b6, .cells #[.int .i64 (z), .int .i64 (start), w3] 24 (0, 0))] : Pcs) ++ (X4 ++ []))) rfl ?_
  refine rl_perm (List.perm_append_comm_assoc ([(b2, .cells #[.int .i64 0, .int .i64 0, .slice none 0 0] 24 (0, 0)), (b1, .cells #[.int .i64 (size), .int .i64 (start), .slice a n c] 24 (0, 0))] : Pcs) ([(b6, .cells #[.int .i64 (z), .int .i64 (start), w3] 24 (0, 0))] : Pcs) _) ?_
  refine rl_own (L' := ([(b6, .cells #[.int .i64 (z), .int .i64 (start), w3] 24 (0, 0)), (b2, .cells #[.int .i64 0, .int .i64 0, .slice none 0 0] 24 (0, 0)), (b1, .cells #[.int .i64 (size), .int .i64 (start), .slice a n c] 24 (0, 0))] : Pcs) ++ (X4 ++ [])) rfl ?_
  refine rl_det (met_none rfl) (fun h_ H_ => exd_fieldAddr tF24_1 rfl (a' := ⟨b6, 1, none⟩) rfl) (tm' := [_,_,_,_,_,_,_,_,_,_,_,_,_,_,_,_]) rfl ?_
  refine rl_store (met_none rfl) tS3 rfl (v := .int .i64 (min start z)) rfl (i := 0) rfl rfl rfl (Nat.le_of_ble_eq_true rfl) (cs2 := [.int .i64 (z), .int .i64 (min start z), w3]) rfl (rl_own (L' := ([(b6, .cells #[.int .i64 (z), .int .i64 (min start z), w3] 24 (0, 0)), (b2, .cells #[.int .i64 0, .int .i64 0, .slice none 0 0] 24 (0, 0)), (b1, .cells #[.int .i64 (size), .int .i64 (start), .slice a n c] 24 (0, 0))] : Pcs) ++ (X4 ++ [])) rfl ?_)
  refine rl_end ?_
  refine fl_seq ?_
  refine rl_start ?_
  refine rl_det (met_none rfl) (fun h_ H_ => exd_loadN_own H_ tA24 tS24 rfl (i := 0) rfl (vs := [.int .i64 (z), .int .i64 (min start z), w3]) rfl rfl) (tm' := [_,_,_,_,_,_,_,_,_,_,_,_,_,_,_,_]) rfl ?_
  refine rl_store (met_none rfl) tS24 rfl (v := .agg #[.int .i64 (z), .int .i64 (min start z), w3]) rfl (i := 1) rfl rfl (ones_cons rfl (ones_cons rfl (ones_cons o5.one.2 rfl))) (Nat.le_of_ble_eq_true rfl) (cs2 := [.int .i64 (z), .int .i64 (min start z), w3]) rfl (rl_own (L' := ([(b6, .cells #[.int .i64 (z), .int .i64 (min start z), w3] 24 (0, 0)), (b2, .cells #[.int .i64 (z), .int .i64 (min start z), w3] 24 (0, 0)), (b1, .cells #[.int .i64 (size), .int .i64 (start), .slice a n c] 24 (0, 0))] : Pcs) ++ (X4 ++ [])) rfl ?_)
  refine rl_end ?_
  refine fl_ret Try.func47 rfl (vs := [.agg #[.int .i64 (z), .int .i64 (min start z), w3]]) (fun h_ H_ => ⟨.agg #[.int .i64 (z), .int .i64 (min start z), w3], _, rfl, (wpS_bind (wpS_pure (wpS_loadVarN tA24 tS24 (vs := [.int .i64 (z), .int .i64 (min start z), w3]) rfl (fun j_ v_ e_ => by rw [add_mk]; exact H_.ocell (i := 1) rfl (by simpa using e_)) ⟨rfl, rfl⟩))), rfl⟩) (v := .agg #[.int .i64 (z), .int .i64 (min start z), w3]) rfl ?_
  exact fun h_ H_ => K _ _ ⟨_, _, rfl, o5, by simpa using H_.dropA.new⟩
theorem c48 (md : Md) (h : Heap) (p : PHeap) (hp : Per p h) (size start : Int) (a : Option Addr) (n c : Nat) (ds : List Day) (D : Days p a n ds) (hn : n ≤ 40) (z : Int) : CallsX Try.prog md 48 #[.agg #[.int .i64 (size), .int .i64 (start), .slice a n c], .int .i64 (z)] h fun v h' => ∃ w X, v = .agg #[.int .i64 size, .int .i64 z, w] ∧ OwnS 38 3 w (dcs ds) X ∧ New h h' X := by
  refine calls_intro (Φ := fun h_ => St h [] p h_ []) Try.func48 rfl (tm := [_, _, _, _, _, _, _, _, _, _, _]) rfl ?_ (St.start h _ hp)
  intro c₀ cs Stop K
  have hl := D.len
  refine fl_seq ?_
  refine rl_start ?_
  refine rl_box (met_none rfl) (v := .agg #[.int .i64 (size), .int .i64 (start), .slice a n c]) rfl fun b1 => rl_own (L' := [(b1, .cells #[.int .i64 (size), .int .i64 (start), .slice a n c] 24 (0, 0))]) rfl ?_
  refine rl_norm (tm' := _::_::_::_) rfl ?_
  refine rl_alloc (met_none rfl) tZ24 rfl fun b2 => rl_own (L' := [(b2, .cells #[.int .i64 0, .int .i64 0, .slice none 0 0] 24 (0, 0)), (b1, .cells #[.int .i64 (size), .int .i64 (start), .slice a n c] 24 (0, 0))]) rfl ?_
  refine rl_norm (tm' := _::_::_::_::_::_) rfl ?_
  refine rl_end ?_
  refine fl_seq ?_
  refine rl_start ?_
  refine rl_det (met_none rfl) (fun h_ H_ => exd_loadN_own H_ tA24 tS24 rfl (i := 1) rfl (vs := [.int .i64 (size), .int .i64 (start), .slice a n c]) rfl rfl) (tm' := _::_::_::_::_::_::_::_) rfl ?_
  refine rl_own (L' := ([(b2, .cells #[.int .i64 0, .int .i64 0, .slice none 0 0] 24 (0, 0)), (b1, .cells #[.int .i64 (size), .int .i64 (start), .slice a n c] 24 (0, 0))] : Pcs) ++ []) rfl ?_
  refine rl_call (met_none rfl) (first := []) (cap := []) rfl rfl fC30 (R := fun v_ h_ => ∃ w3 : Value, ∃ X4 : Pcs, v_ = .agg #[.int .i64 (size), .int .i64 (start), w3] ∧ (OwnS 38 3 w3 (dcs ds) X4) ∧ St h [] p h_ (([(b2, .cells #[.int .i64 0, .int .i64 0, .slice none 0 0] 24 (0, 0)), (b1, .cells #[.int .i64 (size), .int .i64 (start), .slice a n c] 24 (0, 0))] : Pcs) ++ (X4 ++ []))) (fun h_ H_ => (c30 md _ _ (fun b_ o_ e_ => H_.per b_ o_ e_) (size) (start) _ _ _ _ D (by omega)).mono fun v_ h2_ ⟨w3, X4, e_, o5, N_⟩ => ⟨w3, X4, e_, o5, H_.callNA N_⟩) fun v_ => ?_
  refine rl_ex fun w3 => rl_ex fun X4 => rl_and fun ev_ => rl_and fun o5 => ?_
  have ev_ := ev_.symm; subst ev_
  refine rl_own (L' := ([(b2, .cells #[.int .i64 0, .int .i64 0, .slice none 0 0] 24 (0, 0)), (b1, .cells #[.int .i64 (size), .int .i64 (start), .slice a n c] 24 (0, 0))] : Pcs) ++ (X4 ++ [])) rfl ?_
  refine rl_norm (tm' := [_,_,_,_,_,_,_,_,_,_,_]) rfl ?_
  refine rl_alloc (met_none rfl) tZ24 rfl fun b6 => rl_own (L' := ([(b6, .cells #[.int .i64 0, .int .i64 0, .slice none 0 0] 24 (0, 0)), (b2, .cells #[.int .i64 0, .int .i64 0, .slice none 0 0] 24 (0, 0)), (b1, .cells #[.int .i64 (size), .int .i64 (start), .slice a n c] 24 (0, 0))] : Pcs) ++ (X4 ++ [])) rfl ?_
  refine rl_norm (tm' := _::_::_::_::_::_::_) rfl ?_
  refine rl_store (met_none rfl) tS24 rfl (v := .agg #[.int .i64 (size), .int .i64 (start), w3]) rfl (i := 0) rfl rfl (ones_cons rfl (ones_cons rfl (ones_cons o5.one.2 rfl))) (Nat.le_of_ble_eq_true rfl) (cs2 := [.int .i64 (size), .int .i64 (start), w3]) rfl (rl_own (L' := ([(b6, .cells #[.int .i64 (size), .int .i64 (start), w3] 24 (0, 0)), (b2, .cells #[.int .i64 0, .int .i64 0, .slice none 0 0] 24 (0, 0)), (b1, .cells #[.int .i64 (size), .int .i64 (start), .slice a n c] 24 (0, 0))] : Pcs) ++ (X4 ++ [])) rfl ?_)
  refine rl_end ?_
  refine fl_seq ?_
  refine rl_start ?_
  refine rl_det (met_none rfl) (fun h_ H_ => exd_move (v := .int .i64 (z)) rfl) (tm' := [_,_,_,_,_,_,_,_,_,_,_]) rfl ?_
  refine rl_det (met_none rfl) (fun h_ H_ => exd_fieldAddr tF24_1 rfl (a' := ⟨b6, 1, none⟩) rfl) (tm' := [_,_,_,_,_,_,_,_,_,_,_]) rfl ?_
  refine rl_store (met_none rfl) tS3 rfl (v := .int .i64 (z)) rfl (i := 0) rfl rfl rfl (Nat.le_of_ble_eq_true rfl) (cs2 := [.int .i64 (size), .int .i64 (z), w3]) rfl (rl_own (L' := ([(b6, .cells #[.int .i64 (size), .int .i64 (z), w3] 24 (0, 0)), (b2, .cells #[.int .i64 0, .int .i64 0, .slice none 0 0] 24 (0, 0)), (b1, .cells #[.int .i64 (size), .int .i64 (start), .slice a n c] 24 (0, 0))] : Pcs) ++ (X4 ++ [])) rfl ?_)
  refine rl_end ?_
  refine fl_seq ?_
  refine rl_start ?_
  refine rl_det (met_none rfl) (fun h_ H_ => exd_loadN_own H_ tA24 tS24 rfl (i := 0) rfl (vs := [.int .i64 (size), .int .i64 (z), w3]) rfl rfl) (tm' := [_,_,_,_,_,_,_,_,_,_,_]) rfl ?_
  refine rl_store (met_none rfl) tS24 rfl (v := .agg #[.int .i64 (size), .int .i64 (z), w3]) rfl (i := 1) rfl rfl (ones_cons rfl (ones_cons rfl (ones_cons o5.one.2 rfl))) (Nat.le_of_ble_eq_true rfl) (cs2 := [.int .i64 (size), .int .i64 (z), w3]) rfl (rl_own (L' := ([(b6, .cells #[.int .i64 (size), .int .i64 (z), w3] 24 (0, 0)), (b2, .cells #[.int .i64 (size), .int .i64 (z), w3] 24 (0, 0)), (b1, .cells #[.int .i64 (size), .int .i64 (start), .slice a n c] 24 (0, 0))] : Pcs) ++ (X4 ++ [])) rfl ?_)
  refine rl_end ?_
  refine fl_ret Try.func48 rfl (vs := [.agg #[.int .i64 (size), .int .i64 (z), w3]]) (fun h_ H_ => ⟨.agg #[.int .i64 (size), .int .i64 (z), w3], _, rfl, (wpS_bind (wpS_pure (wpS_loadVarN tA24 tS24 (vs := [.int .i64 (size), .int .i64 (z), w3]) rfl (fun j_ v_ e_ => by rw [add_mk]; exact H_.ocell (i := 1) rfl (by simpa using e_)) ⟨rfl, rfl⟩))), rfl⟩) (v := .agg #[.int .i64 (size), .int .i64 (z), w3]) rfl ?_
  exact fun h_ H_ => K _ _ ⟨_, _, rfl, o5, by simpa using H_.dropA.new⟩
theorem c25 (md : Md) (h : Heap) (p : PHeap) (hp : Per p h) (size start : Int) (a : Option Addr) (n c : Nat) (ds : List Day) (D : Days p a n ds) (hn : n ≤ 40) (r : Int) : CallsX Try.prog md 25 #[.agg #[.int .i64 (size), .int .i64 (start), .slice a n c], .int .i64 (r)] h fun v h' => ∃ w X, v = .agg #[.int .i64 size, .int .i64 start, w] ∧ OwnS 38 3 w (dcs (rationed r ds)) X ∧ New h h' X := by
  refine calls_intro (Φ := fun h_ => St h [] p h_ []) Try.func25 rfl (tm := [_, _, _, _, _, _, _, _, _, _, _, _, _, _, _, _, _, _, _, _, _, _, _, _, _, _, _, _, _, _]) rfl ?_ (St.start h _ hp)
  intro c₀ cs Stop K
  have hl := D.len
  refine fl_seq ?_
  refine rl_start ?_
  refine rl_box (met_none rfl) (v := .agg #[.int .i64 (size), .int .i64 (start), .slice a n c]) rfl fun b1 => rl_own (L' := [(b1, .cells #[.int .i64 (size), .int .i64 (start), .slice a n c] 24 (0, 0))]) rfl ?_
  refine rl_norm (tm' := _::_::_::_) rfl ?_
  refine rl_alloc (met_none rfl) tZ24 rfl fun b2 => rl_own (L' := [(b2, .cells #[.int .i64 0, .int .i64 0, .slice none 0 0] 24 (0, 0)), (b1, .cells #[.int .i64 (size), .int .i64 (start), .slice a n c] 24 (0, 0))]) rfl ?_
  refine rl_norm (tm' := _::_::_::_::_::_) rfl ?_
  refine rl_end ?_
  refine fl_seq ?_
  refine rl_start ?_
  refine rl_det (met_none rfl) (fun h_ H_ => exd_loadN_own H_ tA24 tS24 rfl (i := 1) rfl (vs := [.int .i64 (size), .int .i64 (start), .slice a n c]) rfl rfl) (tm' := _::_::_::_::_::_::_::_::_) rfl ?_
  refine rl_own (L' := ([(b2, .cells #[.int .i64 0, .int .i64 0, .slice none 0 0] 24 (0, 0)), (b1, .cells #[.int .i64 (size), .int .i64 (start), .slice a n c] 24 (0, 0))] : Pcs) ++ []) rfl ?_
  refine rl_call (met_none rfl) (first := []) (cap := []) rfl rfl fC30 (R := fun v_ h_ => ∃ w3 : Value, ∃ X4 : Pcs, v_ = .agg #[.int .i64 (size), .int .i64 (start), w3] ∧ (OwnS 38 3 w3 (dcs ds) X4) ∧ St h [] p h_ (([(b2, .cells #[.int .i64 0, .int .i64 0, .slice none 0 0] 24 (0, 0)), (b1, .cells #[.int .i64 (size), .int .i64 (start), .slice a n c] 24 (0, 0))] : Pcs) ++ (X4 ++ []))) (fun h_ H_ => (c30 md _ _ (fun b_ o_ e_ => H_.per b_ o_ e_) (size) (start) _ _ _ _ D (by omega)).mono fun v_ h2_ ⟨w3, X4, e_, o5, N_⟩ => ⟨w3, X4, e_, o5, H_.callNA N_⟩) fun v_ => ?_
  refine rl_ex fun w3 => rl_ex fun X4 => rl_and fun ev_ => rl_and fun o5 => ?_
  have ev_ := ev_.symm; subst ev_
  refine rl_own (L' := ([(b2, .cells #[.int .i64 0, .int .i64 0, .slice none 0 0] 24 (0, 0)), (b1, .cells #[.int .i64 (size), .int .i64 (start), .slice a n c] 24 (0, 0))] : Pcs) ++ (X4 ++ [])) rfl ?_
  refine rl_norm (tm' := _::_::_::_::_::_::_::_::_::_) rfl ?_
  refine rl_alloc (met_none rfl) tZ24 rfl fun b6 => rl_own (L' := ([(b6, .cells #[.int .i64 0, .int .i64 0, .slice none 0 0] 24 (0, 0)), (b2, .cells #[.int .i64 0, .int .i64 0, .slice none 0 0] 24 (0, 0)), (b1, .cells #[.int .i64 (size), .int .i64 (start), .slice a n c] 24 (0, 0))] : Pcs) ++ (X4 ++ [])) rfl ?_
  refine rl_norm (tm' := _::_::_::_::_::_::_) rfl ?_
  refine rl_store (met_none rfl) tS24 rfl (v := .agg #[.int .i64 (size), .int .i64 (start), w3]) rfl (i := 0) rfl rfl (ones_cons rfl (ones_cons rfl (ones_cons o5.one.2 rfl))) (Nat.le_of_ble_eq_true rfl) (cs2 := [.int .i64 (size), .int .i64 (start), w3]) rfl (rl_own (L' := ([(b6, .cells #[.int .i64 (size), .int .i64 (start), w3] 24 (0, 0)), (b2, .cells #[.int .i64 0, .int .i64 0, .slice none 0 0] 24 (0, 0)), (b1, .cells #[.int .i64 (size), .int .i64 (start), .slice a n c] 24 (0, 0))] : Pcs) ++ (X4 ++ [])) rfl ?_)
  refine rl_end ?_
  refine fl_seq ?_
  refine fl_seq ?_
  refine rl_start ?_
  refine rl_det (met_none rfl) (fun h_ H_ => exd_assign (v := .int .i64 0) rfl) (tm' := _::_::_::_::_::_::_::_) rfl ?_
  refine rl_end ?_
  refine fl_block ?_
  refine fl_loop (m₀ := n - 0) (fun m_ tm_ h_ => ∃ (k : Nat) (X : Pcs) (y7 : Nat → Value), m_ = n - k ∧ tm_ = [.agg #[.int .i64 (size), .int .i64 (start), .slice a n c], .int .i64 (r), .pointer (some ⟨b1, 0, none⟩), undef, .pointer (some ⟨b2, 0, none⟩), .pointer (some ⟨b6, 0, none⟩), .int .i64 (((k : Nat) : Int)), .agg #[.int .i64 (size), .int .i64 (start), .slice a n c], .agg #[.int .i64 (size), .int .i64 (start), w3], (y7 0), (y7 1), (y7 2), (y7 3), (y7 4), (y7 5), (y7 6), (y7 7), (y7 8), (y7 9), (y7 10), (y7 11), (y7 12), (y7 13), (y7 14), (y7 15), (y7 16), (y7 17), (y7 18), (y7 19), undef] ∧ (k ≤ n) ∧ (OwnS 38 3 w3 (dcs (wpre (fun _ w => min r w) ds k)) X) ∧ St h [] p h_ (([(b6, .cells #[.int .i64 (size), .int .i64 (start), w3] 24 (0, 0)), (b2, .cells #[.int .i64 0, .int .i64 0, .slice none 0 0] 24 (0, 0)), (b1, .cells #[.int .i64 (size), .int .i64 (start), .slice a n c] 24 (0, 0))] : Pcs) ++ (X ++ []))) (fun h_ H_ => ⟨0, X4, (fun i_ => [undef, undef, undef, undef, undef, undef, undef, undef, undef, undef, undef, undef, undef, undef, undef, undef, undef, undef, undef, undef].getD i_ undef), rfl, rfl, Nat.zero_le _, (o5.as (by rw [wpre_zero])), H_⟩) ?_
  intro m_ tm_ IH8
  refine rs_ex fun k => rs_ex fun X => rs_ex fun y7 => rs_and fun hm_ => rs_and fun ht_ => rs_and fun hk => rs_and fun o => ?_
  subst hm_; subst ht_
  refine fl_seq ?_
  refine fl_seq ?_
  refine rl_start ?_
  refine rl_det (met_none rfl) (fun h_ H_ => exd_move (v := .int .i64 (((k : Nat) : Int))) rfl) (tm' := _::_::_::_::_::_::_::_::_::_::_) rfl ?_
  refine rl_det (met_none rfl) (fun h_ H_ => exd_fieldAddr tF24_2 rfl (a' := ⟨b6, 2, none⟩) rfl) (tm' := _::_::_::_::_::_::_::_::_::_::_::_) rfl ?_
  refine rl_det (met_none rfl) (fun h_ H_ => exd_load_own H_ tA22 rfl (i := 0) rfl (v := w3) rfl) (tm' := _::_::_::_::_::_::_::_::_::_::_::_::_) rfl ?_
  refine rl_det (met_none rfl) (fun h_ H_ => exd_lenN o (show (dcs (wpre (fun _ w => min r w) ds k)).length = n by rw [dcs_length, wpre_length]; exact hl) Try.underlying22 rfl) (tm' := _::_::_::_::_::_::_::_::_::_::_::_::_::_) rfl ?_
  refine rl_det (met_none rfl) (fun h_ H_ => exd_lss rfl rfl) (tm' := _::_::_::_::_::_::_::_::_::_::_::_::_::_::_) rfl ?_
  refine rl_end ?_
  by_cases c9 : ((k : Nat) : Int) < ((n : Nat) : Int)
  · refine fl_then rfl (decide_eq_true c9) ?_
    refine fl_skip ?_
    refine fl_seq ?_
    refine fl_block ?_
    refine fl_drawn 11 [[], [], [], [], [], [], [], [], [], [], [], [], [11], []] mixed (by kernel_rfl) (Nat.le_of_ble_eq_true rfl) (tmF := [.agg #[.int .i64 (size), .int .i64 (start), .slice a n c], .int .i64 (r), .pointer (some ⟨b1, 0, none⟩), undef, .pointer (some ⟨b2, 0, none⟩), .pointer (some ⟨b6, 0, none⟩), .int .i64 (((k : Nat) : Int)), .agg #[.int .i64 (size), .int .i64 (start), .slice a n c], .agg #[.int .i64 (size), .int .i64 (start), w3], .int .i64 (((k : Nat) : Int)), .pointer (some ⟨b6, 2, none⟩), w3, .int .i64 (((n : Nat) : Int)), .bool (decide (((k : Nat) : Int) < ((n : Nat) : Int))), (y7 5), (y7 6), .pointer (some ⟨b6, 2, none⟩), w3, .int .i64 (((k : Nat) : Int)), .int .i64 (r), .pointer (some ⟨b6, 2, none⟩), w3, .int .i64 (((k : Nat) : Int)), .pointer (some ((adrV w3).add (k * 3))), .pointer (some (((adrV w3).add (k * 3)).add 2)), .int .i64 ((ds.getD k dz).want), .int .i64 (min r ((ds.getD k dz).want)), (y7 18), (y7 19), undef]) ?_ ?_
    · refine sw_det (met_none rfl) (fun h_ H_ => exd_fieldAddr tF24_2 rfl (a' := ⟨b6, 2, none⟩) rfl) (tm' := _::_::_::_::_::_::_::_::_::_::_::_::_::_::_::_::_::_) rfl ?_
      refine sw_det (met_none rfl) (fun h_ H_ => exd_load_own H_ tA22 rfl (i := 0) rfl (v := w3) rfl) (tm' := _::_::_::_::_::_::_::_::_::_::_::_::_::_::_::_::_::_::_) rfl ?_
      refine sw_det (met_none rfl) (fun h_ H_ => exd_move (v := .int .i64 (((k : Nat) : Int))) rfl) (tm' := _::_::_::_::_::_::_::_::_::_::_::_::_::_::_::_::_::_::_::_) rfl ?_
      refine sw_det (met_none rfl) (fun h_ H_ => exd_move (v := .int .i64 (r)) rfl) (tm' := _::_::_::_::_::_::_::_::_::_::_::_::_::_::_::_::_::_::_::_::_) rfl ?_
      refine sw_det (met_none rfl) (fun h_ H_ => exd_fieldAddr tF24_2 rfl (a' := ⟨b6, 2, none⟩) rfl) (tm' := [_,_,_,_,_,_,_,_,_,_,_,_,_,_,_,_,_,_,_,_,_,_,_,_,_,_,_,_,_,_]) rfl ?_
      refine sw_det (met_none rfl) (fun h_ H_ => exd_load_own H_ tA22 rfl (i := 0) rfl (v := w3) rfl) (tm' := [_,_,_,_,_,_,_,_,_,_,_,_,_,_,_,_,_,_,_,_,_,_,_,_,_,_,_,_,_,_]) rfl ?_
      refine sw_det (met_none rfl) (fun h_ H_ => exd_move (v := .int .i64 (((k : Nat) : Int))) rfl) (tm' := [_,_,_,_,_,_,_,_,_,_,_,_,_,_,_,_,_,_,_,_,_,_,_,_,_,_,_,_,_,_]) rfl ?_
      refine sw_det (met_none rfl) (fun h_ H_ => exd_indexO o Try.underlying22 tS38 rfl rfl (by rw [(show (dcs (wpre (fun _ w => min r w) ds k)).length = n by rw [dcs_length, wpre_length]; exact hl)]; omega)) (tm' := [_,_,_,_,_,_,_,_,_,_,_,_,_,_,_,_,_,_,_,_,_,_,_,_,_,_,_,_,_,_]) rfl ?_
      refine sw_det (met_none rfl) (fun h_ H_ => exd_fieldAddr tF38_1 rfl (a' := ((adrV w3).add (k * 3)).add 2) rfl) (tm' := [_,_,_,_,_,_,_,_,_,_,_,_,_,_,_,_,_,_,_,_,_,_,_,_,_,_,_,_,_,_]) rfl ?_
      refine sw_det (met_none rfl) (fun h_ H_ => exd_loadO (A := ([(b6, .cells #[.int .i64 (size), .int .i64 (start), w3] 24 (0, 0)), (b2, .cells #[.int .i64 0, .int .i64 0, .slice none 0 0] 24 (0, 0)), (b1, .cells #[.int .i64 (size), .int .i64 (start), .slice a n c] 24 (0, 0))] : Pcs)) (i := k) (j := 2) (e := [.int .i64 (ds.getD k dz).lo, .int .i64 (ds.getD k dz).hi, .int .i64 (ds.getD k dz).want]) o H_ tA3 rfl rfl (wpre_at (by omega)) (u := .int .i64 ((ds.getD k dz).want)) rfl) (tm' := [_,_,_,_,_,_,_,_,_,_,_,_,_,_,_,_,_,_,_,_,_,_,_,_,_,_,_,_,_,_]) rfl ?_
      refine sw_det (met_none rfl) (fun h_ H_ => exd_min rfl rfl) (tm' := [_,_,_,_,_,_,_,_,_,_,_,_,_,_,_,_,_,_,_,_,_,_,_,_,_,_,_,_,_,_]) rfl ?_
      exact sw_nil rfl rfl
    refine rl_det (met_none rfl) (fun h_ H_ => exd_indexO o Try.underlying22 tS38 rfl rfl (by rw [(show (dcs (wpre (fun _ w => min r w) ds k)).length = n by rw [dcs_length, wpre_length]; exact hl)]; omega)) (tm' := [_,_,_,_,_,_,_,_,_,_,_,_,_,_,_,_,_,_,_,_,_,_,_,_,_,_,_,_,_,_]) rfl ?_
    refine rl_det (met_none rfl) (fun h_ H_ => exd_fieldAddr tF38_1 rfl (a' := ((adrV w3).add (k * 3)).add 2) rfl) (tm' := [_,_,_,_,_,_,_,_,_,_,_,_,_,_,_,_,_,_,_,_,_,_,_,_,_,_,_,_,_,_]) rfl ?_
    refine rl_storeO (A := ([(b6, .cells #[.int .i64 (size), .int .i64 (start), w3] 24 (0, 0)), (b2, .cells #[.int .i64 0, .int .i64 0, .slice none 0 0] 24 (0, 0)), (b1, .cells #[.int .i64 (size), .int .i64 (start), .slice a n c] 24 (0, 0))] : Pcs)) (i := k) (j := 2) (e := [.int .i64 (ds.getD k dz).lo, .int .i64 (ds.getD k dz).hi, .int .i64 (ds.getD k dz).want]) (u := .int .i64 (min r ((ds.getD k dz).want))) o (met_none rfl) tS3 rfl rfl rfl ⟨rfl, rfl⟩ (wpre_at (by omega)) (Nat.succ_le_iff.1 (Nat.le_of_ble_eq_true rfl)) fun X10 o11 => ?_
    refine rl_end ?_
    refine fl_inBlock ?_
    refine rl_start ?_
    refine rl_det (met_none rfl) (fun h_ H_ => exd_move (v := .int .i64 (((k : Nat) : Int))) rfl) (tm' := _::_::_::_::_::_::_::_::_::_::_::_::_::_::_::_) rfl ?_
    refine rl_det (met_none rfl) (fun h_ H_ => exd_add rfl rfl (n := ((k + 1 : Nat) : Int)) (wr (by omega))) (tm' := _::_::_::_::_::_::_::_::_::_::_::_::_::_::_::_::_) rfl ?_
    refine rl_det (met_none rfl) (fun h_ H_ => exd_assign (v := .int .i64 (((k + 1 : Nat) : Int))) rfl) (tm' := _::_::_::_::_::_::_::_) rfl ?_
    refine rl_end ?_
    exact fun h_ H_ => IH8 _ _ (by omega) h_ ⟨k + 1, X10, (fun i_ => [.int .i64 (((k : Nat) : Int)), .pointer (some ⟨b6, 2, none⟩), w3, .int .i64 (((n : Nat) : Int)), .bool (decide (((k : Nat) : Int) < ((n : Nat) : Int))), .int .i64 (((k : Nat) : Int)), .int .i64 (((k + 1 : Nat) : Int)), .pointer (some ⟨b6, 2, none⟩), w3, .int .i64 (((k : Nat) : Int)), .int .i64 (r), .pointer (some ⟨b6, 2, none⟩), w3, .int .i64 (((k : Nat) : Int)), .pointer (some ((adrV w3).add (k * 3))), .pointer (some (((adrV w3).add (k * 3)).add 2)), .int .i64 ((ds.getD k dz).want), .int .i64 (min r ((ds.getD k dz).want)), .pointer (some ((adrV w3).add (k * 3))), .pointer (some (((adrV w3).add (k * 3)).add 2))].getD i_ undef), rfl, rfl, (by omega), (o11.as (wpre_set (by omega))), H_⟩
  · refine fl_else rfl (decide_eq_false c9) ?_
    refine fl_exit rfl ?_
    refine fl_seq ?_
    refine rl_start ?_
    refine rl_det (met_none rfl) (fun h_ H_ => exd_loadN_own H_ tA24 tS24 rfl (i := 0) rfl (vs := [.int .i64 (size), .int .i64 (start), w3]) rfl rfl) (tm' := [_,_,_,_,_,_,_,_,_,_,_,_,_,_,_,_,_,_,_,_,_,_,_,_,_,_,_,_,_,_]) rfl ?_
    refine rl_store (met_none rfl) tS24 rfl (v := .agg #[.int .i64 (size), .int .i64 (start), w3]) rfl (i := 1) rfl rfl (ones_cons rfl (ones_cons rfl (ones_cons o.one.2 rfl))) (Nat.le_of_ble_eq_true rfl) (cs2 := [.int .i64 (size), .int .i64 (start), w3]) rfl (rl_own (L' := ([(b6, .cells #[.int .i64 (size), .int .i64 (start), w3] 24 (0, 0)), (b2, .cells #[.int .i64 (size), .int .i64 (start), w3] 24 (0, 0)), (b1, .cells #[.int .i64 (size), .int .i64 (start), .slice a n c] 24 (0, 0))] : Pcs) ++ (X ++ [])) rfl ?_)
    refine rl_end ?_
    refine fl_ret Try.func25 rfl (vs := [.agg #[.int .i64 (size), .int .i64 (start), w3]]) (fun h_ H_ => ⟨.agg #[.int .i64 (size), .int .i64 (start), w3], _, rfl, (wpS_bind (wpS_pure (wpS_loadVarN tA24 tS24 (vs := [.int .i64 (size), .int .i64 (start), w3]) rfl (fun j_ v_ e_ => by rw [add_mk]; exact H_.ocell (i := 1) rfl (by simpa using e_)) ⟨rfl, rfl⟩))), rfl⟩) (v := .agg #[.int .i64 (size), .int .i64 (start), w3]) rfl ?_
    obtain rfl : k = n := by omega
    exact fun h_ H_ => K _ _ ⟨_, _, rfl, o.as (by rw [← ratmin]; unfold wmap; rw [hl]), by simpa using H_.dropA.new⟩
theorem c29 (md : Md) (h : Heap) (p : PHeap) (hp : Per p h) (size start : Int) (a : Option Addr) (n c : Nat) (ds : List Day) (D : Days p a n ds) (hn : n ≤ 40) (i : Nat) (hi : i < n) (x : Int) (hx : 0 ≤ (ds.getD i dz).want ∧ (ds.getD i dz).want ≤ 200 ∧ 0 ≤ x ∧ x ≤ 200) : CallsX Try.prog md 29 #[.agg #[.int .i64 (size), .int .i64 (start), .slice a n c], .int .i64 (((i : Nat) : Int)), .int .i64 (x)] h fun v h' => ∃ w X, v = .agg #[.int .i64 size, .int .i64 start, w] ∧ OwnS 38 3 w (dcs (wanted ((i : Nat) : Int) x ds)) X ∧ New h h' X := by
  refine calls_intro (Φ := fun h_ => St h [] p h_ []) Try.func29 rfl (tm := [_, _, _, _, _, _, _, _, _, _, _, _, _, _, _, _, _, _, _, _, _]) rfl ?_ (St.start h _ hp)
  intro c₀ cs Stop K
  have hl := D.len
  refine fl_seq ?_
  refine rl_start ?_
  refine rl_box (met_none rfl) (v := .agg #[.int .i64 (size), .int .i64 (start), .slice a n c]) rfl fun b1 => rl_own (L' := [(b1, .cells #[.int .i64 (size), .int .i64 (start), .slice a n c] 24 (0, 0))]) rfl ?_
  refine rl_norm (tm' := _::_::_::_::_) rfl ?_
  refine rl_alloc (met_none rfl) tZ24 rfl fun b2 => rl_own (L' := [(b2, .cells #[.int .i64 0, .int .i64 0, .slice none 0 0] 24 (0, 0)), (b1, .cells #[.int .i64 (size), .int .i64 (start), .slice a n c] 24 (0, 0))]) rfl ?_
  refine rl_norm (tm' := _::_::_::_::_::_::_::_) rfl ?_
  refine rl_end ?_
  refine fl_seq ?_
  refine rl_start ?_
  refine rl_det (met_none rfl) (fun h_ H_ => exd_loadN_own H_ tA24 tS24 rfl (i := 1) rfl (vs := [.int .i64 (size), .int .i64 (start), .slice a n c]) rfl rfl) (tm' := _::_::_::_::_::_::_::_::_::_) rfl ?_
  refine rl_own (L' := ([(b2, .cells #[.int .i64 0, .int .i64 0, .slice none 0 0] 24 (0, 0)), (b1, .cells #[.int .i64 (size), .int .i64 (start), .slice a n c] 24 (0, 0))] : Pcs) ++ []) rfl ?_
  refine rl_call (met_none rfl) (first := []) (cap := []) rfl rfl fC30 (R := fun v_ h_ => ∃ w3 : Value, ∃ X4 : Pcs, v_ = .agg #[.int .i64 (size), .int .i64 (start), w3] ∧ (OwnS 38 3 w3 (dcs ds) X4) ∧ St h [] p h_ (([(b2, .cells #[.int .i64 0, .int .i64 0, .slice none 0 0] 24 (0, 0)), (b1, .cells #[.int .i64 (size), .int .i64 (start), .slice a n c] 24 (0, 0))] : Pcs) ++ (X4 ++ []))) (fun h_ H_ => (c30 md _ _ (fun b_ o_ e_ => H_.per b_ o_ e_) (size) (start) _ _ _ _ D (by omega)).mono fun v_ h2_ ⟨w3, X4, e_, o5, N_⟩ => ⟨w3, X4, e_, o5, H_.callNA N_⟩) fun v_ => ?_
  refine rl_ex fun w3 => rl_ex fun X4 => rl_and fun ev_ => rl_and fun o5 => ?_
  have ev_ := ev_.symm; subst ev_
  refine rl_own (L' := ([(b2, .cells #[.int .i64 0, .int .i64 0, .slice none 0 0] 24 (0, 0)), (b1, .cells #[.int .i64 (size), .int .i64 (start), .slice a n c] 24 (0, 0))] : Pcs) ++ (X4 ++ [])) rfl ?_
  refine rl_norm (tm' := _::_::_::_::_::_::_::_::_::_::_) rfl ?_
  refine rl_alloc (met_none rfl) tZ24 rfl fun b6 => rl_own (L' := ([(b6, .cells #[.int .i64 0, .int .i64 0, .slice none 0 0] 24 (0, 0)), (b2, .cells #[.int .i64 0, .int .i64 0, .slice none 0 0] 24 (0, 0)), (b1, .cells #[.int .i64 (size), .int .i64 (start), .slice a n c] 24 (0, 0))] : Pcs) ++ (X4 ++ [])) rfl ?_
  refine rl_norm (tm' := _::_::_::_::_::_::_::_::_) rfl ?_
  refine rl_store (met_none rfl) tS24 rfl (v := .agg #[.int .i64 (size), .int .i64 (start), w3]) rfl (i := 0) rfl rfl (ones_cons rfl (ones_cons rfl (ones_cons o5.one.2 rfl))) (Nat.le_of_ble_eq_true rfl) (cs2 := [.int .i64 (size), .int .i64 (start), w3]) rfl (rl_own (L' := ([(b6, .cells #[.int .i64 (size), .int .i64 (start), w3] 24 (0, 0)), (b2, .cells #[.int .i64 0, .int .i64 0, .slice none 0 0] 24 (0, 0)), (b1, .cells #[.int .i64 (size), .int .i64 (start), .slice a n c] 24 (0, 0))] : Pcs) ++ (X4 ++ [])) rfl ?_)
  refine rl_end ?_
  refine fl_seq ?_
  refine rl_start ?_
  refine rl_det (met_none rfl) (fun h_ H_ => exd_fieldAddr tF24_2 rfl (a' := ⟨b6, 2, none⟩) rfl) (tm' := _::_::_::_::_::_::_::_::_::_::_::_) rfl ?_
  refine rl_det (met_none rfl) (fun h_ H_ => exd_load_own H_ tA22 rfl (i := 0) rfl (v := w3) rfl) (tm' := _::_::_::_::_::_::_::_::_::_::_::_::_) rfl ?_
  refine rl_det (met_none rfl) (fun h_ H_ => exd_move (v := .int .i64 (((i : Nat) : Int))) rfl) (tm' := _::_::_::_::_::_::_::_::_::_::_::_::_::_) rfl ?_
  refine rl_det (met_none rfl) (fun h_ H_ => exd_indexO o5 Try.underlying22 tS38 rfl rfl (by rw [(show (dcs ds).length = n by rw [dcs_length]; omega)]; omega)) (tm' := _::_::_::_::_::_::_::_::_::_::_::_::_::_::_) rfl ?_
  refine rl_det (met_none rfl) (fun h_ H_ => exd_fieldAddr tF38_1 rfl (a' := ((adrV w3).add (i * 3)).add 2) rfl) (tm' := [_,_,_,_,_,_,_,_,_,_,_,_,_,_,_,_,_,_,_,_,_]) rfl ?_
  refine rl_det (met_none rfl) (fun h_ H_ => exd_loadO (A := ([(b6, .cells #[.int .i64 (size), .int .i64 (start), w3] 24 (0, 0)), (b2, .cells #[.int .i64 0, .int .i64 0, .slice none 0 0] 24 (0, 0)), (b1, .cells #[.int .i64 (size), .int .i64 (start), .slice a n c] 24 (0, 0))] : Pcs)) (i := i) (j := 2) (e := (ds.getD i dz).cells) o5 H_ tA3 rfl rfl (dcs_at (by omega)) (u := .int .i64 ((ds.getD i dz).want)) rfl) (tm' := [_,_,_,_,_,_,_,_,_,_,_,_,_,_,_,_,_,_,_,_,_]) rfl ?_
  refine rl_det (met_none rfl) (fun h_ H_ => exd_move (v := .int .i64 (x)) rfl) (tm' := [_,_,_,_,_,_,_,_,_,_,_,_,_,_,_,_,_,_,_,_,_]) rfl ?_
  refine rl_det (met_none rfl) (fun h_ H_ => exd_add rfl rfl (wr (by omega))) (tm' := [_,_,_,_,_,_,_,_,_,_,_,_,_,_,_,_,_,_,_,_,_]) rfl ?_
  refine rl_det (met_none rfl) (fun h_ H_ => exd_indexO o5 Try.underlying22 tS38 rfl rfl (by rw [(show (dcs ds).length = n by rw [dcs_length]; omega)]; omega)) (tm' := [_,_,_,_,_,_,_,_,_,_,_,_,_,_,_,_,_,_,_,_,_]) rfl ?_
  refine rl_det (met_none rfl) (fun h_ H_ => exd_fieldAddr tF38_1 rfl (a' := ((adrV w3).add (i * 3)).add 2) rfl) (tm' := [_,_,_,_,_,_,_,_,_,_,_,_,_,_,_,_,_,_,_,_,_]) rfl ?_
  refine rl_storeO (A := ([(b6, .cells #[.int .i64 (size), .int .i64 (start), w3] 24 (0, 0)), (b2, .cells #[.int .i64 0, .int .i64 0, .slice none 0 0] 24 (0, 0)), (b1, .cells #[.int .i64 (size), .int .i64 (start), .slice a n c] 24 (0, 0))] : Pcs)) (i := i) (j := 2) (e := (ds.getD i dz).cells) (u := .int .i64 (((ds.getD i dz).want) + x)) o5 (met_none rfl) tS3 rfl rfl rfl ⟨rfl, rfl⟩ (dcs_at (by omega)) (Nat.succ_le_iff.1 (Nat.le_of_ble_eq_true rfl)) fun X7 o8 => ?_
  refine rl_end ?_
  refine fl_seq ?_
  refine rl_start ?_
  refine rl_det (met_none rfl) (fun h_ H_ => exd_loadN_own H_ tA24 tS24 rfl (i := 0) rfl (vs := [.int .i64 (size), .int .i64 (start), w3]) rfl rfl) (tm' := [_,_,_,_,_,_,_,_,_,_,_,_,_,_,_,_,_,_,_,_,_]) rfl ?_
  refine rl_store (met_none rfl) tS24 rfl (v := .agg #[.int .i64 (size), .int .i64 (start), w3]) rfl (i := 1) rfl rfl (ones_cons rfl (ones_cons rfl (ones_cons o8.one.2 rfl))) (Nat.le_of_ble_eq_true rfl) (cs2 := [.int .i64 (size), .int .i64 (start), w3]) rfl (rl_own (L' := ([(b6, .cells #[.int .i64 (size), .int .i64 (start), w3] 24 (0, 0)), (b2, .cells #[.int .i64 (size), .int .i64 (start), w3] 24 (0, 0)), (b1, .cells #[.int .i64 (size), .int .i64 (start), .slice a n c] 24 (0, 0))] : Pcs) ++ (X7 ++ [])) rfl ?_)
  refine rl_end ?_
  refine fl_ret Try.func29 rfl (vs := [.agg #[.int .i64 (size), .int .i64 (start), w3]]) (fun h_ H_ => ⟨.agg #[.int .i64 (size), .int .i64 (start), w3], _, rfl, (wpS_bind (wpS_pure (wpS_loadVarN tA24 tS24 (vs := [.int .i64 (size), .int .i64 (start), w3]) rfl (fun j_ v_ e_ => by rw [add_mk]; exact H_.ocell (i := 1) rfl (by simpa using e_)) ⟨rfl, rfl⟩))), rfl⟩) (v := .agg #[.int .i64 (size), .int .i64 (start), w3]) rfl ?_
  exact fun h_ H_ => K _ _ ⟨_, _, rfl, o8.as (by rw [dcs_set, wanted_set (by omega)]), by simpa using H_.dropA.new⟩
end Go.Proofs.Ytbmkacnlhlbnjaa
namespace Go.Proofs.Ytbmkacnlhlbnjaa
open Go.X Go.X.Cist Go.Conc

theorem dry_at {size start : Int} {ds : List Day} {i : Nat} (h : i < ds.length) : (dryOf size start ds).getD i dz = sideDay size (min start size) (wantOf ds) (loOf ds) i := by unfold dryOf; rw [side_getD h]
theorem wet_at {size start : Int} {ds : List Day} {i : Nat} (h : i < ds.length) : (wetOf size start ds).getD i dz = sideDay size (min start size) (wantOf ds) (hiOf ds) i := by unfold wetOf; rw [side_getD h]
/-- Between what the level, the lack, the sum of what ran over of a day is. -/
def levLo (size start : Int) (ds : List Day) (k : Nat) : Int := lev size (min start size) (wantOf ds) (loOf ds) (k + 1)
def levHi (size start : Int) (ds : List Day) (k : Nat) : Int := lev size (min start size) (wantOf ds) (hiOf ds) (k + 1)
def lackLo (size start : Int) (ds : List Day) (k : Nat) : Int := lack size (min start size) (wantOf ds) (hiOf ds) k
def lackHi (size start : Int) (ds : List Day) (k : Nat) : Int := lack size (min start size) (wantOf ds) (loOf ds) k
def overLo (size start : Int) (ds : List Day) (k : Nat) : Int := sumTo (ovr size (min start size) (wantOf ds) (loOf ds)) (k + 1)
def overHi (size start : Int) (ds : List Day) (k : Nat) : Int := sumTo (ovr size (min start size) (wantOf ds) (hiOf ds)) (k + 1)

section
variable {h : Heap} {p : PHeap} {size start : Int} {a : Option Addr} {n c : Nat} {ds : List Day}
theorem level_ok (hOk : Ok size start ds) {day : Int} (hday : IsDay ds day) : levelR size start ds day = ((levLo size start ds day.toNat, levHi size start ds day.toNat), 0) := by
  unfold levelR
  rw [if_pos (askd_ok hOk (decide_eq_true hday)), dry_at (by have := hday.1; have := hday.2; omega), wet_at (by have := hday.1; have := hday.2; omega)]; rfl
theorem lack_ok (hOk : Ok size start ds) {day : Int} (hday : IsDay ds day) : lackR size start ds day = ((lackLo size start ds day.toNat, lackHi size start ds day.toNat), 0) := by
  unfold lackR
  rw [if_pos (askd_ok hOk (decide_eq_true hday)), dry_at (by have := hday.1; have := hday.2; omega), wet_at (by have := hday.1; have := hday.2; omega)]; rfl
theorem over_ok (hOk : Ok size start ds) {day : Int} (hday : IsDay ds day) : overR size start ds day = ((overLo size start ds day.toNat, overHi size start ds day.toNat), 0) := by
  unfold overR
  rw [if_pos (askd_ok hOk (decide_eq_true hday)), dry_at (by have := hday.1; have := hday.2; omega), wet_at (by have := hday.1; have := hday.2; omega)]; rfl
theorem c28ok (hp : Per p h) (D : Days p a n ds) (hn : n ≤ 40) (hOk : Ok size start ds) {day : Int} (hday : IsDay ds day) : CallsX Try.prog (.main true) 28 #[.agg #[.int .i64 size, .int .i64 start, .slice a n c], .int .i64 day] h fun v h' => v = .tuple #[.agg #[.int .i64 (levLo size start ds day.toNat), .int .i64 (levHi size start ds day.toNat)], .int .i64 0] ∧ Keep h h' :=
  (c28 h p hp size start a n c ds D hn day).mono fun v h' x => ⟨by rw [x.1, level_ok hOk hday], x.2⟩
theorem c41ok (hp : Per p h) (D : Days p a n ds) (hn : n ≤ 40) (hOk : Ok size start ds) {day : Int} (hday : IsDay ds day) : CallsX Try.prog (.main true) 41 #[.agg #[.int .i64 size, .int .i64 start, .slice a n c], .int .i64 day] h fun v h' => v = .tuple #[.agg #[.int .i64 (lackLo size start ds day.toNat), .int .i64 (lackHi size start ds day.toNat)], .int .i64 0] ∧ Keep h h' :=
  (c41 h p hp size start a n c ds D hn day).mono fun v h' x => ⟨by rw [x.1, lack_ok hOk hday], x.2⟩
theorem c43ok (hp : Per p h) (D : Days p a n ds) (hn : n ≤ 40) (hOk : Ok size start ds) {day : Int} (hday : IsDay ds day) : CallsX Try.prog (.main true) 43 #[.agg #[.int .i64 size, .int .i64 start, .slice a n c], .int .i64 day] h fun v h' => v = .tuple #[.agg #[.int .i64 (overLo size start ds day.toNat), .int .i64 (overHi size start ds day.toNat)], .int .i64 0] ∧ Keep h h' :=
  (c43 h p hp size start a n c ds D hn day).mono fun v h' x => ⟨by rw [x.1, over_ok hOk hday], x.2⟩
theorem c23ok (hp : Per p h) (D : Days p a n ds) (hn : n ≤ 40) (hOk : Ok size start ds) (md : Md) : CallsX Try.prog md 23 #[.agg #[.int .i64 size, .int .i64 start, .slice a n c]] h fun v h' => v = .tuple #[.int .i64 (ratDown size start ds 20), .int .i64 0] ∧ Keep h h' :=
  (c23 md h p hp size start a n c ds D hn).mono fun v h' x => ⟨by rw [x.1, if_pos hOk, chk_yes hOk], x.2⟩
theorem c29i (hp : Per p h) (D : Days p a n ds) (hn : n ≤ 40) (md : Md) {day x : Int} (hday : IsDay ds day) (hx : 0 ≤ (ds.getD day.toNat dz).want ∧ (ds.getD day.toNat dz).want ≤ 200 ∧ 0 ≤ x ∧ x ≤ 200) :
    CallsX Try.prog md 29 #[.agg #[.int .i64 size, .int .i64 start, .slice a n c], .int .i64 day, .int .i64 x] h fun v h' => ∃ w X, v = .agg #[.int .i64 size, .int .i64 start, w] ∧ OwnS 38 3 w (dcs (wanted day x ds)) X ∧ New h h' X := by
  obtain ⟨d0, d1⟩ := hday
  have hl := D.len
  have e : ((day.toNat : Nat) : Int) = day := by omega
  have := c29 md h p hp size start a n c ds D hn day.toNat (by omega) x hx
  rw [e] at this
  exact this
end
end Go.Proofs.Ytbmkacnlhlbnjaa
namespace Go.Proofs.Ytbmkacnlhlbnjaa
open Go.X Go.X.Cist Go.Conc
set_option maxRecDepth 10000

set_option maxHeartbeats 8000000
theorem e6 (h : Heap) (p : PHeap) (hp : Per p h) (size start : Int) (a : Option Addr) (n c : Nat) (ds : List Day) (D : Days p a n ds) (k : Int) (hk64 : -9223372036854775808 ≤ k ∧ k ≤ 9223372036854775807) : EntersX Try.prog (.main true) 6 #[.agg #[.int .i64 (size), .int .i64 (start), .slice a n c], .int .i64 (k)] h fun v h' => v = .bool true ∧ Keep h h' := by
  refine enters_intro (Φ := fun h_ => St h [] p h_ []) Try.func6 rfl (tm := [_, _, _, _, _, _, _, _, _, _, _, _, _, _, _, _, _, _, _, _, _, _, _, _, _, _, _, _, _, _, _, _, _, _, _, _, _, _, _, _, _, _, _, _, _, _, _, _, _, _, _, _, _, _, _, _, _, _, _, _, _, _, _, _, _, _, _, _, _, _, _, _, _, _, _, _, _, _, _, _, _, _, _, _, _, _, _, _, _, _, _, _, _, _, _, _, _, _, _, _, _, _, _, _, _, _, _, _, _, _, _, _]) rfl ?_ (St.start h _ hp)
  intro K
  have hl := D.len
  refine fl_seq ?_
  refine rl_start ?_
  refine rl_box (met_none rfl) (v := .agg #[.int .i64 (size), .int .i64 (start), .slice a n c]) rfl fun b1 => rl_own (L' := [(b1, .cells #[.int .i64 (size), .int .i64 (start), .slice a n c] 24 (0, 0))]) rfl ?_
  refine rl_norm (tm' := _::_::_::_) rfl ?_
  refine rl_det (met_none rfl) (fun h_ H_ => exd_assign (v := .bool (false)) rfl) (tm' := _::_::_::_::_::_) rfl ?_
  refine rl_end ?_
  refine fl_seq ?_
  refine fl_seq ?_
  refine rl_start ?_
  refine rl_det (met_none rfl) (fun h_ H_ => exd_loadN_own H_ tA24 tS24 rfl (i := 0) rfl (vs := [.int .i64 (size), .int .i64 (start), .slice a n c]) rfl rfl) (tm' := _::_::_::_::_::_::_::_::_::_::_::_) rfl ?_
  refine rl_calld (met_none rfl) (first := []) (cap := []) rfl rfl fC21 (fun h_ H_ => c21 (.main true) _ _ (fun b_ o_ e_ => H_.per b_ o_ e_) size start _ _ _ _ D) (tm' := _::_::_::_::_::_::_::_::_::_::_::_::_) rfl ?_
  refine rl_det (met_none rfl) (fun h_ H_ => exd_not rfl) (tm' := _::_::_::_::_::_::_::_::_::_::_::_::_::_) rfl ?_
  refine rl_det (met_none rfl) (fun h_ H_ => exd_move (v := .bool (!(decide (¬ FarD size start ds ∧ ds.length ≤ 40 ∧ Ok size start ds)))) rfl) (tm' := _::_::_::_::_::_::_::_::_::_::_::_::_::_::_) rfl ?_
  by_cases cc2 : ¬ FarD size start ds ∧ ds.length ≤ 40 ∧ Ok size start ds
  · refine rl_det (met_some rfl rfl (not_f (decide_eq_true cc2))) (fun h_ H_ => exd_loadN_own H_ tA24 tS24 rfl (i := 0) rfl (vs := [.int .i64 (size), .int .i64 (start), .slice a n c]) rfl rfl) (tm' := _::_::_::_::_::_::_::_::_::_::_::_::_::_::_::_) rfl ?_
    refine rl_det (met_some rfl rfl (not_f (decide_eq_true cc2))) (fun h_ H_ => exd_move (v := .int .i64 (k)) rfl) (tm' := _::_::_::_::_::_::_::_::_::_::_::_::_::_::_::_::_) rfl ?_
    refine rl_calld (met_some rfl rfl (not_f (decide_eq_true cc2))) (first := []) (cap := []) rfl rfl fC26 (fun h_ H_ => c26 (.main true) _ _ (fun b_ o_ e_ => H_.per b_ o_ e_) (size) (start) _ _ _ _ D (by omega) k) (tm' := _::_::_::_::_::_::_::_::_::_::_::_::_::_::_::_::_::_) rfl ?_
    refine rl_det (met_some rfl rfl (not_f (decide_eq_true cc2))) (fun h_ H_ => exd_not rfl) (tm' := _::_::_::_::_::_::_::_::_::_::_::_::_::_::_::_::_::_::_) rfl ?_
    refine rl_det (met_none rfl) (fun h_ H_ => exd_pick_f rfl (not_f (decide_eq_true cc2)) (v := .bool (!(decide (IsDay ds k)))) rfl) (tm' := _::_::_::_::_::_::_::_::_::_::_::_::_::_::_::_::_::_::_::_) rfl ?_
    refine rl_end ?_
    by_cases cc3 : IsDay ds k
    · refine fl_else rfl (not_f (decide_eq_true cc3)) ?_
      refine fl_skip ?_
      refine fl_seq ?_
      have hfew := (‹¬ FarD size start ds ∧ ds.length ≤ 40 ∧ Ok size start ds›)
      have hOk := hfew.2.2
      have hday : IsDay ds k := ‹_›
      have hd0 := hday.1; have hd1 := hday.2
      obtain ⟨hS1, hS2, hS3⟩ := spare_law hOk hday
      have hw0 := hOk.2.2.2.2.2 k.toNat (by omega)
      unfold DayOk at hw0
      refine rl_start ?_
      refine rl_det (met_none rfl) (fun h_ H_ => exd_loadN_own H_ tA24 tS24 rfl (i := 0) rfl (vs := [.int .i64 (size), .int .i64 (start), .slice a n c]) rfl rfl) (tm' := _::_::_::_::_::_::_::_::_::_::_::_::_::_::_::_::_::_::_::_::_::_::_) rfl ?_
      refine rl_det (met_none rfl) (fun h_ H_ => exd_move (v := .int .i64 (k)) rfl) (tm' := _::_::_::_::_::_::_::_::_::_::_::_::_::_::_::_::_::_::_::_::_::_::_::_) rfl ?_
      refine rl_calld (met_none rfl) (first := []) (cap := []) rfl rfl fC27 (fun h_ H_ => c27 (.main true) _ _ (fun b_ o_ e_ => H_.per b_ o_ e_) (size) (start) _ _ _ _ D (by omega) k) (tm' := _::_::_::_::_::_::_::_::_::_::_::_::_::_::_::_::_::_::_::_::_::_::_::_::_) rfl ?_
      refine rl_det (met_none rfl) (fun h_ H_ => exd_move (v := .tuple #[.int .i64 ((spareR size start ds k).1), .int .i64 ((spareR size start ds k).2)]) rfl) (tm' := _::_::_::_::_::_::_::_::_::_::_::_::_::_::_::_::_::_::_::_::_::_) rfl ?_
      refine rl_det (met_none rfl) (fun h_ H_ => exd_extract rfl (v := .int .i64 ((spareR size start ds k).1)) rfl) (tm' := _::_::_::_::_::_::_::_::_::_::_::_::_::_::_::_::_::_::_::_::_::_::_::_::_::_) rfl ?_
      refine rl_det (met_none rfl) (fun h_ H_ => exd_extract rfl (v := .int .i64 ((spareR size start ds k).2)) rfl) (tm' := _::_::_::_::_::_::_::_::_::_::_::_::_::_::_::_::_::_::_::_::_::_::_::_::_::_::_) rfl ?_
      refine rl_det (met_none rfl) (fun h_ H_ => exd_assign (v := .int .i64 ((spareR size start ds k).1)) rfl) (tm' := _::_::_::_::_::_::_) rfl ?_
      refine rl_det (met_none rfl) (fun h_ H_ => exd_assign (v := .int .i64 ((spareR size start ds k).2)) rfl) (tm' := _::_::_::_::_::_::_::_) rfl ?_
      refine rl_end ?_
      refine fl_seq ?_
      refine rl_start ?_
      refine rl_det (met_none rfl) (fun h_ H_ => exd_loadN_own H_ tA24 tS24 rfl (i := 0) rfl (vs := [.int .i64 (size), .int .i64 (start), .slice a n c]) rfl rfl) (tm' := _::_::_::_::_::_::_::_::_::_::_::_::_::_::_::_::_::_::_::_::_::_::_::_::_::_::_::_::_) rfl ?_
      refine rl_det (met_none rfl) (fun h_ H_ => exd_move (v := .int .i64 (k)) rfl) (tm' := _::_::_::_::_::_::_::_::_::_::_::_::_::_::_::_::_::_::_::_::_::_::_::_::_::_::_::_::_::_) rfl ?_
      refine rl_calld (met_none rfl) (first := []) (cap := []) rfl rfl fC28 (fun h_ H_ => c28ok (fun b_ o_ e_ => H_.per b_ o_ e_) D (by omega) hOk hday) (tm' := _::_::_::_::_::_::_::_::_::_::_::_::_::_::_::_::_::_::_::_::_::_::_::_::_::_::_::_::_::_::_) rfl ?_
      refine rl_det (met_none rfl) (fun h_ H_ => exd_move (v := .tuple #[.agg #[.int .i64 (levLo size start ds k.toNat), .int .i64 (levHi size start ds k.toNat)], .int .i64 0]) rfl) (tm' := _::_::_::_::_::_::_::_::_::_::_::_::_::_::_::_::_::_::_::_::_::_::_::_::_::_::_::_) rfl ?_
      refine rl_det (met_none rfl) (fun h_ H_ => exd_extract rfl (v := .agg #[.int .i64 (levLo size start ds k.toNat), .int .i64 (levHi size start ds k.toNat)]) rfl) (tm' := _::_::_::_::_::_::_::_::_::_::_::_::_::_::_::_::_::_::_::_::_::_::_::_::_::_::_::_::_::_::_::_) rfl ?_
      refine rl_det (met_none rfl) (fun h_ H_ => exd_extract rfl (v := .int .i64 0) rfl) (tm' := _::_::_::_::_::_::_::_::_::_::_::_::_::_::_::_::_::_::_::_::_::_::_::_::_::_::_::_::_::_::_::_::_) rfl ?_
      refine rl_alloc (met_none rfl) tZ36 rfl fun b4 => rl_own (L' := [(b4, .cells #[.int .i64 0, .int .i64 0] 36 (0, 0)), (b1, .cells #[.int .i64 (size), .int .i64 (start), .slice a n c] 24 (0, 0))]) rfl ?_
      refine rl_norm (tm' := _::_::_::_::_::_::_::_::_) rfl ?_
      refine rl_store (met_none rfl) tS36 rfl (v := .agg #[.int .i64 (levLo size start ds k.toNat), .int .i64 (levHi size start ds k.toNat)]) rfl (i := 0) rfl rfl rfl (Nat.le_of_ble_eq_true rfl) (cs2 := [.int .i64 (levLo size start ds k.toNat), .int .i64 (levHi size start ds k.toNat)]) rfl (rl_own (L' := [(b4, .cells #[.int .i64 (levLo size start ds k.toNat), .int .i64 (levHi size start ds k.toNat)] 36 (0, 0)), (b1, .cells #[.int .i64 (size), .int .i64 (start), .slice a n c] 24 (0, 0))]) rfl ?_)
      refine rl_det (met_none rfl) (fun h_ H_ => exd_assign (v := .int .i64 0) rfl) (tm' := _::_::_::_::_::_::_::_::_::_) rfl ?_
      refine rl_end ?_
      refine fl_seq ?_
      refine fl_seq ?_
      refine rl_start ?_
      refine rl_det (met_none rfl) (fun h_ H_ => exd_move (v := .int .i64 ((spareR size start ds k).2)) rfl) (tm' := _::_::_::_::_::_::_::_::_::_::_::_::_::_::_::_::_::_::_::_::_::_::_::_::_::_::_::_::_::_::_::_::_::_) rfl ?_
      refine rl_det (met_none rfl) (fun h_ H_ => exd_neq rfl rfl) (tm' := _::_::_::_::_::_::_::_::_::_::_::_::_::_::_::_::_::_::_::_::_::_::_::_::_::_::_::_::_::_::_::_::_::_::_) rfl ?_
      refine rl_det (met_none rfl) (fun h_ H_ => exd_move (v := .bool (decide ((spareR size start ds k).2 ≠ 0))) rfl) (tm' := _::_::_::_::_::_::_::_::_::_::_::_::_::_::_::_::_::_::_::_::_::_::_::_::_::_::_::_::_::_::_::_::_::_::_::_) rfl ?_
      by_cases cc5 : (spareR size start ds k).2 ≠ 0
      · refine rl_det (met_some rfl rfl (decide_eq_true cc5)) (fun h_ H_ => exd_move (v := .int .i64 ((spareR size start ds k).2)) rfl) (tm' := _::_::_::_::_::_::_::_::_::_::_::_::_::_::_::_::_::_::_::_::_::_::_::_::_::_::_::_::_::_::_::_::_::_::_::_::_) rfl ?_
        refine rl_det (met_some rfl rfl (decide_eq_true cc5)) (fun h_ H_ => exd_neq rfl rfl) (tm' := _::_::_::_::_::_::_::_::_::_::_::_::_::_::_::_::_::_::_::_::_::_::_::_::_::_::_::_::_::_::_::_::_::_::_::_::_::_) rfl ?_
        refine rl_det (met_none rfl) (fun h_ H_ => exd_pick_t rfl (decide_eq_true cc5) (v := .bool (decide ((spareR size start ds k).2 ≠ 3))) rfl) (tm' := _::_::_::_::_::_::_::_::_::_::_::_::_::_::_::_::_::_::_::_::_::_::_::_::_::_::_::_::_::_::_::_::_::_::_::_::_::_::_) rfl ?_
        refine rl_det (met_none rfl) (fun h_ H_ => exd_move (v := .bool (decide ((spareR size start ds k).2 ≠ 3))) rfl) (tm' := _::_::_::_::_::_::_::_::_::_::_::_::_::_::_::_::_::_::_::_::_::_::_::_::_::_::_::_::_::_::_::_::_::_::_::_::_::_::_::_) rfl ?_
        by_cases cc6 : (spareR size start ds k).2 ≠ 3
        · omega
        · refine rl_det (met_some rfl rfl (decide_eq_false cc6)) (fun h_ H_ => exd_move (v := .int .i64 ((spareR size start ds k).2)) rfl) (tm' := _::_::_::_::_::_::_::_::_::_::_::_::_::_::_::_::_::_::_::_::_::_::_::_::_::_::_::_::_::_::_::_::_::_::_::_::_::_::_::_::_) rfl ?_
          refine rl_det (met_some rfl rfl (decide_eq_false cc6)) (fun h_ H_ => exd_eql rfl rfl) (tm' := _::_::_::_::_::_::_::_::_::_::_::_::_::_::_::_::_::_::_::_::_::_::_::_::_::_::_::_::_::_::_::_::_::_::_::_::_::_::_::_::_::_) rfl ?_
          refine rl_det (met_some rfl rfl (decide_eq_false cc6)) (fun h_ H_ => exd_loadN_own H_ tA24 tS24 rfl (i := 1) rfl (vs := [.int .i64 (size), .int .i64 (start), .slice a n c]) rfl rfl) (tm' := _::_::_::_::_::_::_::_::_::_::_::_::_::_::_::_::_::_::_::_::_::_::_::_::_::_::_::_::_::_::_::_::_::_::_::_::_::_::_::_::_::_::_) rfl ?_
          refine rl_calld (met_some rfl rfl (decide_eq_false cc6)) (first := []) (cap := []) rfl rfl fC24 (fun h_ H_ => c24 _ _ (fun b_ o_ e_ => H_.per b_ o_ e_) (size) (start) _ _ _ _ D (by omega)) (tm' := _::_::_::_::_::_::_::_::_::_::_::_::_::_::_::_::_::_::_::_::_::_::_::_::_::_::_::_::_::_::_::_::_::_::_::_::_::_::_::_::_::_::_::_) rfl ?_
          refine rl_det (met_some rfl rfl (decide_eq_false cc6)) (fun h_ H_ => exd_neqP (p := (spareR size start ds k).2 = 0) (q := Ok size start ds ∧ Lasts size start ds) Try.underlying4 rfl rfl) (tm' := _::_::_::_::_::_::_::_::_::_::_::_::_::_::_::_::_::_::_::_::_::_::_::_::_::_::_::_::_::_::_::_::_::_::_::_::_::_::_::_::_::_::_::_::_) rfl ?_
          refine rl_det (met_none rfl) (fun h_ H_ => exd_pick_f rfl (decide_eq_false cc6) (v := .bool (!decide (((spareR size start ds k).2 = 0) ↔ (Ok size start ds ∧ Lasts size start ds)))) rfl) (tm' := _::_::_::_::_::_::_::_::_::_::_::_::_::_::_::_::_::_::_::_::_::_::_::_::_::_::_::_::_::_::_::_::_::_::_::_::_::_::_::_::_::_::_::_::_::_) rfl ?_
          refine rl_det (met_none rfl) (fun h_ H_ => exd_move (v := .bool (!decide (((spareR size start ds k).2 = 0) ↔ (Ok size start ds ∧ Lasts size start ds)))) rfl) (tm' := _::_::_::_::_::_::_::_::_::_::_::_::_::_::_::_::_::_::_::_::_::_::_::_::_::_::_::_::_::_::_::_::_::_::_::_::_::_::_::_::_::_::_::_::_::_::_) rfl ?_
          refine rl_det (met_some rfl rfl (not_f (decide_eq_true hS2))) (fun h_ H_ => exd_move (v := .int .i64 0) rfl) (tm' := _::_::_::_::_::_::_::_::_::_::_::_::_::_::_::_::_::_::_::_::_::_::_::_::_::_::_::_::_::_::_::_::_::_::_::_::_::_::_::_::_::_::_::_::_::_::_::_) rfl ?_
          refine rl_det (met_some rfl rfl (not_f (decide_eq_true hS2))) (fun h_ H_ => exd_neq rfl rfl) (tm' := _::_::_::_::_::_::_::_::_::_::_::_::_::_::_::_::_::_::_::_::_::_::_::_::_::_::_::_::_::_::_::_::_::_::_::_::_::_::_::_::_::_::_::_::_::_::_::_::_) rfl ?_
          refine rl_det (met_none rfl) (fun h_ H_ => exd_pick_f rfl (not_f (decide_eq_true hS2)) (v := .bool (decide ((0 : Int) ≠ 0))) rfl) (tm' := _::_::_::_::_::_::_::_::_::_::_::_::_::_::_::_::_::_::_::_::_::_::_::_::_::_::_::_::_::_::_::_::_::_::_::_::_::_::_::_::_::_::_::_::_::_::_::_::_::_) rfl ?_
          refine rl_end ?_
          refine fl_else rfl (decide_eq_false (by decide)) ?_
          refine fl_skip ?_
          refine fl_seq ?_
          refine fl_seq ?_
          refine rl_start ?_
          refine rl_det (met_none rfl) (fun h_ H_ => exd_move (v := .int .i64 ((spareR size start ds k).2)) rfl) (tm' := _::_::_::_::_::_::_::_::_::_::_::_::_::_::_::_::_::_::_::_::_::_::_::_::_::_::_::_::_::_::_::_::_::_::_::_::_::_::_::_::_::_::_::_::_::_::_::_::_::_::_) rfl ?_
          refine rl_det (met_none rfl) (fun h_ H_ => exd_neq rfl rfl) (tm' := _::_::_::_::_::_::_::_::_::_::_::_::_::_::_::_::_::_::_::_::_::_::_::_::_::_::_::_::_::_::_::_::_::_::_::_::_::_::_::_::_::_::_::_::_::_::_::_::_::_::_::_) rfl ?_
          refine rl_end ?_
          refine fl_then rfl (decide_eq_true cc5) ?_
          refine fl_seq ?_
          refine rl_start ?_
          refine rl_calld (met_none rfl) (first := []) (cap := []) rfl rfl fC18 (fun h_ H_ => c18 _) (tm' := _::_::_::_::_::_::_::_::_::_::_::_::_::_::_::_::_::_::_::_::_::_::_::_::_::_::_::_::_::_::_::_::_::_::_::_::_::_::_::_::_::_::_::_::_::_::_::_::_::_::_::_::_) rfl ?_
          refine rl_det (met_none rfl) (fun h_ H_ => exd_assign (v := .bool (true)) rfl) (tm' := _::_::_::_::_::_) rfl ?_
          refine rl_end ?_
          refine fl_retE (by kernel_rfl) Try.func6 rfl (vs := [.bool (true)]) (fun h_ H_ => ⟨.bool (true), _, rfl, rfl, rfl⟩) (v := .bool (true)) rfl ?_
          exact fun h_ H_ => K _ _ ⟨rfl, H_.kept⟩
      · refine rl_pass (met_not rfl rfl (decide_eq_false cc5)) (tm' := _::_::_::_::_::_::_::_::_::_::_::_::_::_::_::_::_::_::_::_::_::_::_::_::_::_::_::_::_::_::_::_::_::_::_::_::_) rfl ?_
        refine rl_pass (met_not rfl rfl (decide_eq_false cc5)) (tm' := _::_::_::_::_::_::_::_::_::_::_::_::_::_::_::_::_::_::_::_::_::_::_::_::_::_::_::_::_::_::_::_::_::_::_::_::_::_) rfl ?_
        refine rl_det (met_none rfl) (fun h_ H_ => exd_pick_f rfl (decide_eq_false cc5) (v := .bool (false)) rfl) (tm' := _::_::_::_::_::_::_::_::_::_::_::_::_::_::_::_::_::_::_::_::_::_::_::_::_::_::_::_::_::_::_::_::_::_::_::_::_::_::_) rfl ?_
        refine rl_det (met_none rfl) (fun h_ H_ => exd_move (v := .bool (false)) rfl) (tm' := _::_::_::_::_::_::_::_::_::_::_::_::_::_::_::_::_::_::_::_::_::_::_::_::_::_::_::_::_::_::_::_::_::_::_::_::_::_::_::_) rfl ?_
        refine rl_det (met_some rfl rfl rfl) (fun h_ H_ => exd_move (v := .int .i64 ((spareR size start ds k).2)) rfl) (tm' := _::_::_::_::_::_::_::_::_::_::_::_::_::_::_::_::_::_::_::_::_::_::_::_::_::_::_::_::_::_::_::_::_::_::_::_::_::_::_::_::_) rfl ?_
        refine rl_det (met_some rfl rfl rfl) (fun h_ H_ => exd_eql rfl rfl) (tm' := _::_::_::_::_::_::_::_::_::_::_::_::_::_::_::_::_::_::_::_::_::_::_::_::_::_::_::_::_::_::_::_::_::_::_::_::_::_::_::_::_::_) rfl ?_
        refine rl_det (met_some rfl rfl rfl) (fun h_ H_ => exd_loadN_own H_ tA24 tS24 rfl (i := 1) rfl (vs := [.int .i64 (size), .int .i64 (start), .slice a n c]) rfl rfl) (tm' := _::_::_::_::_::_::_::_::_::_::_::_::_::_::_::_::_::_::_::_::_::_::_::_::_::_::_::_::_::_::_::_::_::_::_::_::_::_::_::_::_::_::_) rfl ?_
        refine rl_calld (met_some rfl rfl rfl) (first := []) (cap := []) rfl rfl fC24 (fun h_ H_ => c24 _ _ (fun b_ o_ e_ => H_.per b_ o_ e_) (size) (start) _ _ _ _ D (by omega)) (tm' := _::_::_::_::_::_::_::_::_::_::_::_::_::_::_::_::_::_::_::_::_::_::_::_::_::_::_::_::_::_::_::_::_::_::_::_::_::_::_::_::_::_::_::_) rfl ?_
        refine rl_det (met_some rfl rfl rfl) (fun h_ H_ => exd_neqP (p := (spareR size start ds k).2 = 0) (q := Ok size start ds ∧ Lasts size start ds) Try.underlying4 rfl rfl) (tm' := _::_::_::_::_::_::_::_::_::_::_::_::_::_::_::_::_::_::_::_::_::_::_::_::_::_::_::_::_::_::_::_::_::_::_::_::_::_::_::_::_::_::_::_::_) rfl ?_
        refine rl_det (met_none rfl) (fun h_ H_ => exd_pick_f rfl rfl (v := .bool (!decide (((spareR size start ds k).2 = 0) ↔ (Ok size start ds ∧ Lasts size start ds)))) rfl) (tm' := _::_::_::_::_::_::_::_::_::_::_::_::_::_::_::_::_::_::_::_::_::_::_::_::_::_::_::_::_::_::_::_::_::_::_::_::_::_::_::_::_::_::_::_::_::_) rfl ?_
        refine rl_det (met_none rfl) (fun h_ H_ => exd_move (v := .bool (!decide (((spareR size start ds k).2 = 0) ↔ (Ok size start ds ∧ Lasts size start ds)))) rfl) (tm' := _::_::_::_::_::_::_::_::_::_::_::_::_::_::_::_::_::_::_::_::_::_::_::_::_::_::_::_::_::_::_::_::_::_::_::_::_::_::_::_::_::_::_::_::_::_::_) rfl ?_
        refine rl_det (met_some rfl rfl (not_f (decide_eq_true hS2))) (fun h_ H_ => exd_move (v := .int .i64 0) rfl) (tm' := _::_::_::_::_::_::_::_::_::_::_::_::_::_::_::_::_::_::_::_::_::_::_::_::_::_::_::_::_::_::_::_::_::_::_::_::_::_::_::_::_::_::_::_::_::_::_::_) rfl ?_
        refine rl_det (met_some rfl rfl (not_f (decide_eq_true hS2))) (fun h_ H_ => exd_neq rfl rfl) (tm' := _::_::_::_::_::_::_::_::_::_::_::_::_::_::_::_::_::_::_::_::_::_::_::_::_::_::_::_::_::_::_::_::_::_::_::_::_::_::_::_::_::_::_::_::_::_::_::_::_) rfl ?_
        refine rl_det (met_none rfl) (fun h_ H_ => exd_pick_f rfl (not_f (decide_eq_true hS2)) (v := .bool (decide ((0 : Int) ≠ 0))) rfl) (tm' := _::_::_::_::_::_::_::_::_::_::_::_::_::_::_::_::_::_::_::_::_::_::_::_::_::_::_::_::_::_::_::_::_::_::_::_::_::_::_::_::_::_::_::_::_::_::_::_::_::_) rfl ?_
        refine rl_end ?_
        refine fl_else rfl (decide_eq_false (by decide)) ?_
        refine fl_skip ?_
        refine fl_seq ?_
        refine fl_seq ?_
        refine rl_start ?_
        refine rl_det (met_none rfl) (fun h_ H_ => exd_move (v := .int .i64 ((spareR size start ds k).2)) rfl) (tm' := _::_::_::_::_::_::_::_::_::_::_::_::_::_::_::_::_::_::_::_::_::_::_::_::_::_::_::_::_::_::_::_::_::_::_::_::_::_::_::_::_::_::_::_::_::_::_::_::_::_::_) rfl ?_
        refine rl_det (met_none rfl) (fun h_ H_ => exd_neq rfl rfl) (tm' := _::_::_::_::_::_::_::_::_::_::_::_::_::_::_::_::_::_::_::_::_::_::_::_::_::_::_::_::_::_::_::_::_::_::_::_::_::_::_::_::_::_::_::_::_::_::_::_::_::_::_::_) rfl ?_
        refine rl_end ?_
        refine fl_else rfl (decide_eq_false cc5) ?_
        refine fl_skip ?_
        refine fl_seq ?_
        refine fl_seq ?_
        obtain ⟨hS6, hS4, hS5⟩ := hS3 (by omega)
        refine rl_start ?_
        refine rl_det (met_none rfl) (fun h_ H_ => exd_move (v := .int .i64 ((spareR size start ds k).1)) rfl) (tm' := _::_::_::_::_::_::_::_::_::_::_::_::_::_::_::_::_::_::_::_::_::_::_::_::_::_::_::_::_::_::_::_::_::_::_::_::_::_::_::_::_::_::_::_::_::_::_::_::_::_::_::_::_::_) rfl ?_
        refine rl_det (met_none rfl) (fun h_ H_ => exd_lss rfl rfl) (tm' := _::_::_::_::_::_::_::_::_::_::_::_::_::_::_::_::_::_::_::_::_::_::_::_::_::_::_::_::_::_::_::_::_::_::_::_::_::_::_::_::_::_::_::_::_::_::_::_::_::_::_::_::_::_::_) rfl ?_
        refine rl_det (met_none rfl) (fun h_ H_ => exd_move (v := .bool (decide ((spareR size start ds k).1 < 0))) rfl) (tm' := _::_::_::_::_::_::_::_::_::_::_::_::_::_::_::_::_::_::_::_::_::_::_::_::_::_::_::_::_::_::_::_::_::_::_::_::_::_::_::_::_::_::_::_::_::_::_::_::_::_::_::_::_::_::_::_) rfl ?_
        refine rl_det (met_some rfl rfl (decide_eq_false (by omega))) (fun h_ H_ => exd_move (v := .int .i64 ((spareR size start ds k).1)) rfl) (tm' := _::_::_::_::_::_::_::_::_::_::_::_::_::_::_::_::_::_::_::_::_::_::_::_::_::_::_::_::_::_::_::_::_::_::_::_::_::_::_::_::_::_::_::_::_::_::_::_::_::_::_::_::_::_::_::_::_) rfl ?_
        refine rl_det (met_some rfl rfl (decide_eq_false (by omega))) (fun h_ H_ => exd_fieldAddr tF36_0 rfl (a' := ⟨b4, 0, none⟩) rfl) (tm' := _::_::_::_::_::_::_::_::_::_::_::_::_::_::_::_::_::_::_::_::_::_::_::_::_::_::_::_::_::_::_::_::_::_::_::_::_::_::_::_::_::_::_::_::_::_::_::_::_::_::_::_::_::_::_::_::_::_) rfl ?_
        refine rl_det (met_some rfl rfl (decide_eq_false (by omega))) (fun h_ H_ => exd_load_own H_ tA3 rfl (i := 0) rfl (v := .int .i64 (levLo size start ds k.toNat)) rfl) (tm' := _::_::_::_::_::_::_::_::_::_::_::_::_::_::_::_::_::_::_::_::_::_::_::_::_::_::_::_::_::_::_::_::_::_::_::_::_::_::_::_::_::_::_::_::_::_::_::_::_::_::_::_::_::_::_::_::_::_::_) rfl ?_
        refine rl_det (met_some rfl rfl (decide_eq_false (by omega))) (fun h_ H_ => exd_gtr rfl rfl) (tm' := _::_::_::_::_::_::_::_::_::_::_::_::_::_::_::_::_::_::_::_::_::_::_::_::_::_::_::_::_::_::_::_::_::_::_::_::_::_::_::_::_::_::_::_::_::_::_::_::_::_::_::_::_::_::_::_::_::_::_::_) rfl ?_
        refine rl_det (met_none rfl) (fun h_ H_ => exd_pick_f rfl (decide_eq_false (by omega)) (v := .bool (decide (levLo size start ds k.toNat < (spareR size start ds k).1))) rfl) (tm' := _::_::_::_::_::_::_::_::_::_::_::_::_::_::_::_::_::_::_::_::_::_::_::_::_::_::_::_::_::_::_::_::_::_::_::_::_::_::_::_::_::_::_::_::_::_::_::_::_::_::_::_::_::_::_::_::_::_::_::_::_) rfl ?_
        refine rl_det (met_none rfl) (fun h_ H_ => exd_move (v := .bool (decide (levLo size start ds k.toNat < (spareR size start ds k).1))) rfl) (tm' := _::_::_::_::_::_::_::_::_::_::_::_::_::_::_::_::_::_::_::_::_::_::_::_::_::_::_::_::_::_::_::_::_::_::_::_::_::_::_::_::_::_::_::_::_::_::_::_::_::_::_::_::_::_::_::_::_::_::_::_::_::_) rfl ?_
        refine rl_det (met_some rfl rfl (decide_eq_false (by unfold levLo; omega))) (fun h_ H_ => exd_move (v := .int .i64 ((spareR size start ds k).1)) rfl) (tm' := _::_::_::_::_::_::_::_::_::_::_::_::_::_::_::_::_::_::_::_::_::_::_::_::_::_::_::_::_::_::_::_::_::_::_::_::_::_::_::_::_::_::_::_::_::_::_::_::_::_::_::_::_::_::_::_::_::_::_::_::_::_::_) rfl ?_
        refine rl_det (met_some rfl rfl (decide_eq_false (by unfold levLo; omega))) (fun h_ H_ => exd_gtr rfl rfl) (tm' := _::_::_::_::_::_::_::_::_::_::_::_::_::_::_::_::_::_::_::_::_::_::_::_::_::_::_::_::_::_::_::_::_::_::_::_::_::_::_::_::_::_::_::_::_::_::_::_::_::_::_::_::_::_::_::_::_::_::_::_::_::_::_::_) rfl ?_
        refine rl_det (met_none rfl) (fun h_ H_ => exd_pick_f rfl (decide_eq_false (by unfold levLo; omega)) (v := .bool (decide (60 < (spareR size start ds k).1))) rfl) (tm' := _::_::_::_::_::_::_::_::_::_::_::_::_::_::_::_::_::_::_::_::_::_::_::_::_::_::_::_::_::_::_::_::_::_::_::_::_::_::_::_::_::_::_::_::_::_::_::_::_::_::_::_::_::_::_::_::_::_::_::_::_::_::_::_::_) rfl ?_
        refine rl_det (met_none rfl) (fun h_ H_ => exd_move (v := .bool (decide (60 < (spareR size start ds k).1))) rfl) (tm' := _::_::_::_::_::_::_::_::_::_::_::_::_::_::_::_::_::_::_::_::_::_::_::_::_::_::_::_::_::_::_::_::_::_::_::_::_::_::_::_::_::_::_::_::_::_::_::_::_::_::_::_::_::_::_::_::_::_::_::_::_::_::_::_::_::_) rfl ?_
        refine rl_det (met_some rfl rfl (decide_eq_false (by omega))) (fun h_ H_ => exd_move (v := .int .i64 (k)) rfl) (tm' := _::_::_::_::_::_::_::_::_::_::_::_::_::_::_::_::_::_::_::_::_::_::_::_::_::_::_::_::_::_::_::_::_::_::_::_::_::_::_::_::_::_::_::_::_::_::_::_::_::_::_::_::_::_::_::_::_::_::_::_::_::_::_::_::_::_::_) rfl ?_
        refine rl_det (met_some rfl rfl (decide_eq_false (by omega))) (fun h_ H_ => exd_fieldAddr tF24_2 rfl (a' := ⟨b1, 2, none⟩) rfl) (tm' := _::_::_::_::_::_::_::_::_::_::_::_::_::_::_::_::_::_::_::_::_::_::_::_::_::_::_::_::_::_::_::_::_::_::_::_::_::_::_::_::_::_::_::_::_::_::_::_::_::_::_::_::_::_::_::_::_::_::_::_::_::_::_::_::_::_::_::_) rfl ?_
        refine rl_det (met_some rfl rfl (decide_eq_false (by omega))) (fun h_ H_ => exd_load_own H_ tA22 rfl (i := 1) rfl (v := .slice a n c) rfl) (tm' := _::_::_::_::_::_::_::_::_::_::_::_::_::_::_::_::_::_::_::_::_::_::_::_::_::_::_::_::_::_::_::_::_::_::_::_::_::_::_::_::_::_::_::_::_::_::_::_::_::_::_::_::_::_::_::_::_::_::_::_::_::_::_::_::_::_::_::_::_) rfl ?_
        refine rl_det (met_some rfl rfl (decide_eq_false (by omega))) (fun h_ H_ => exd_len Try.underlying22 rfl) (tm' := _::_::_::_::_::_::_::_::_::_::_::_::_::_::_::_::_::_::_::_::_::_::_::_::_::_::_::_::_::_::_::_::_::_::_::_::_::_::_::_::_::_::_::_::_::_::_::_::_::_::_::_::_::_::_::_::_::_::_::_::_::_::_::_::_::_::_::_::_::_) rfl ?_
        refine rl_det (met_some rfl rfl (decide_eq_false (by omega))) (fun h_ H_ => exd_sub rfl rfl (wr (by omega))) (tm' := _::_::_::_::_::_::_::_::_::_::_::_::_::_::_::_::_::_::_::_::_::_::_::_::_::_::_::_::_::_::_::_::_::_::_::_::_::_::_::_::_::_::_::_::_::_::_::_::_::_::_::_::_::_::_::_::_::_::_::_::_::_::_::_::_::_::_::_::_::_::_) rfl ?_
        refine rl_det (met_some rfl rfl (decide_eq_false (by omega))) (fun h_ H_ => exd_eql rfl rfl) (tm' := _::_::_::_::_::_::_::_::_::_::_::_::_::_::_::_::_::_::_::_::_::_::_::_::_::_::_::_::_::_::_::_::_::_::_::_::_::_::_::_::_::_::_::_::_::_::_::_::_::_::_::_::_::_::_::_::_::_::_::_::_::_::_::_::_::_::_::_::_::_::_::_) rfl ?_
        refine rl_det (met_some rfl rfl (decide_eq_false (by omega))) (fun h_ H_ => exd_move (v := .bool (decide (k = ((n : Nat) : Int) - 1))) rfl) (tm' := _::_::_::_::_::_::_::_::_::_::_::_::_::_::_::_::_::_::_::_::_::_::_::_::_::_::_::_::_::_::_::_::_::_::_::_::_::_::_::_::_::_::_::_::_::_::_::_::_::_::_::_::_::_::_::_::_::_::_::_::_::_::_::_::_::_::_::_::_::_::_::_::_) rfl ?_
        by_cases cc7 : k = ((n : Nat) : Int) - 1
        · refine rl_det (met_some rfl rfl (decide_eq_true cc7)) (fun h_ H_ => exd_move (v := .int .i64 ((spareR size start ds k).1)) rfl) (tm' := _::_::_::_::_::_::_::_::_::_::_::_::_::_::_::_::_::_::_::_::_::_::_::_::_::_::_::_::_::_::_::_::_::_::_::_::_::_::_::_::_::_::_::_::_::_::_::_::_::_::_::_::_::_::_::_::_::_::_::_::_::_::_::_::_::_::_::_::_::_::_::_::_::_) rfl ?_
          refine rl_det (met_some rfl rfl (decide_eq_true cc7)) (fun h_ H_ => exd_fieldAddr tF36_0 rfl (a' := ⟨b4, 0, none⟩) rfl) (tm' := _::_::_::_::_::_::_::_::_::_::_::_::_::_::_::_::_::_::_::_::_::_::_::_::_::_::_::_::_::_::_::_::_::_::_::_::_::_::_::_::_::_::_::_::_::_::_::_::_::_::_::_::_::_::_::_::_::_::_::_::_::_::_::_::_::_::_::_::_::_::_::_::_::_::_) rfl ?_
          refine rl_det (met_some rfl rfl (decide_eq_true cc7)) (fun h_ H_ => exd_load_own H_ tA3 rfl (i := 0) rfl (v := .int .i64 (levLo size start ds k.toNat)) rfl) (tm' := [_,_,_,_,_,_,_,_,_,_,_,_,_,_,_,_,_,_,_,_,_,_,_,_,_,_,_,_,_,_,_,_,_,_,_,_,_,_,_,_,_,_,_,_,_,_,_,_,_,_,_,_,_,_,_,_,_,_,_,_,_,_,_,_,_,_,_,_,_,_,_,_,_,_,_,_,_,_,_,_,_,_,_,_,_,_,_,_,_,_,_,_,_,_,_,_,_,_,_,_,_,_,_,_,_,_,_,_,_,_,_,_]) rfl ?_
          refine rl_det (met_some rfl rfl (decide_eq_true cc7)) (fun h_ H_ => exd_neq rfl rfl) (tm' := [_,_,_,_,_,_,_,_,_,_,_,_,_,_,_,_,_,_,_,_,_,_,_,_,_,_,_,_,_,_,_,_,_,_,_,_,_,_,_,_,_,_,_,_,_,_,_,_,_,_,_,_,_,_,_,_,_,_,_,_,_,_,_,_,_,_,_,_,_,_,_,_,_,_,_,_,_,_,_,_,_,_,_,_,_,_,_,_,_,_,_,_,_,_,_,_,_,_,_,_,_,_,_,_,_,_,_,_,_,_,_,_]) rfl ?_
          refine rl_det (met_some rfl rfl (decide_eq_false (by omega))) (fun h_ H_ => exd_pick_t rfl (decide_eq_true cc7) (v := .bool (decide ((spareR size start ds k).1 ≠ levLo size start ds k.toNat))) rfl) (tm' := [_,_,_,_,_,_,_,_,_,_,_,_,_,_,_,_,_,_,_,_,_,_,_,_,_,_,_,_,_,_,_,_,_,_,_,_,_,_,_,_,_,_,_,_,_,_,_,_,_,_,_,_,_,_,_,_,_,_,_,_,_,_,_,_,_,_,_,_,_,_,_,_,_,_,_,_,_,_,_,_,_,_,_,_,_,_,_,_,_,_,_,_,_,_,_,_,_,_,_,_,_,_,_,_,_,_,_,_,_,_,_,_]) rfl ?_
          refine rl_det (met_none rfl) (fun h_ H_ => exd_pick_f rfl (decide_eq_false (by omega)) (v := .bool (decide ((spareR size start ds k).1 ≠ levLo size start ds k.toNat))) rfl) (tm' := [_,_,_,_,_,_,_,_,_,_,_,_,_,_,_,_,_,_,_,_,_,_,_,_,_,_,_,_,_,_,_,_,_,_,_,_,_,_,_,_,_,_,_,_,_,_,_,_,_,_,_,_,_,_,_,_,_,_,_,_,_,_,_,_,_,_,_,_,_,_,_,_,_,_,_,_,_,_,_,_,_,_,_,_,_,_,_,_,_,_,_,_,_,_,_,_,_,_,_,_,_,_,_,_,_,_,_,_,_,_,_,_]) rfl ?_
          refine rl_end ?_
          refine fl_else rfl (decide_eq_false (fun h_ => h_ (by unfold levLo; omega))) ?_
          refine fl_skip ?_
          refine fl_seq ?_
          refine rl_start ?_
          refine rl_det (met_none rfl) (fun h_ H_ => exd_fieldAddr tF24_2 rfl (a' := ⟨b1, 2, none⟩) rfl) (tm' := [_,_,_,_,_,_,_,_,_,_,_,_,_,_,_,_,_,_,_,_,_,_,_,_,_,_,_,_,_,_,_,_,_,_,_,_,_,_,_,_,_,_,_,_,_,_,_,_,_,_,_,_,_,_,_,_,_,_,_,_,_,_,_,_,_,_,_,_,_,_,_,_,_,_,_,_,_,_,_,_,_,_,_,_,_,_,_,_,_,_,_,_,_,_,_,_,_,_,_,_,_,_,_,_,_,_,_,_,_,_,_,_]) rfl ?_
          refine rl_det (met_none rfl) (fun h_ H_ => exd_load_own H_ tA22 rfl (i := 1) rfl (v := .slice a n c) rfl) (tm' := [_,_,_,_,_,_,_,_,_,_,_,_,_,_,_,_,_,_,_,_,_,_,_,_,_,_,_,_,_,_,_,_,_,_,_,_,_,_,_,_,_,_,_,_,_,_,_,_,_,_,_,_,_,_,_,_,_,_,_,_,_,_,_,_,_,_,_,_,_,_,_,_,_,_,_,_,_,_,_,_,_,_,_,_,_,_,_,_,_,_,_,_,_,_,_,_,_,_,_,_,_,_,_,_,_,_,_,_,_,_,_,_]) rfl ?_
          refine rl_det (met_none rfl) (fun h_ H_ => exd_move (v := .int .i64 (k)) rfl) (tm' := [_,_,_,_,_,_,_,_,_,_,_,_,_,_,_,_,_,_,_,_,_,_,_,_,_,_,_,_,_,_,_,_,_,_,_,_,_,_,_,_,_,_,_,_,_,_,_,_,_,_,_,_,_,_,_,_,_,_,_,_,_,_,_,_,_,_,_,_,_,_,_,_,_,_,_,_,_,_,_,_,_,_,_,_,_,_,_,_,_,_,_,_,_,_,_,_,_,_,_,_,_,_,_,_,_,_,_,_,_,_,_,_]) rfl ?_
          refine rl_det (met_none rfl) (fun h_ H_ => exd_indexAddr Try.underlying22 tS38 (sl_ne a n c (D.ne (by omega))) rfl (by omega) (by omega) (a' := (adr a).add ((k).toNat * 3)) rfl) (tm' := [_,_,_,_,_,_,_,_,_,_,_,_,_,_,_,_,_,_,_,_,_,_,_,_,_,_,_,_,_,_,_,_,_,_,_,_,_,_,_,_,_,_,_,_,_,_,_,_,_,_,_,_,_,_,_,_,_,_,_,_,_,_,_,_,_,_,_,_,_,_,_,_,_,_,_,_,_,_,_,_,_,_,_,_,_,_,_,_,_,_,_,_,_,_,_,_,_,_,_,_,_,_,_,_,_,_,_,_,_,_,_,_]) rfl ?_
          refine rl_det (met_none rfl) (fun h_ H_ => exd_fieldAddr tF38_1 rfl (a' := ((adr a).add ((k).toNat * 3)).add 2) rfl) (tm' := [_,_,_,_,_,_,_,_,_,_,_,_,_,_,_,_,_,_,_,_,_,_,_,_,_,_,_,_,_,_,_,_,_,_,_,_,_,_,_,_,_,_,_,_,_,_,_,_,_,_,_,_,_,_,_,_,_,_,_,_,_,_,_,_,_,_,_,_,_,_,_,_,_,_,_,_,_,_,_,_,_,_,_,_,_,_,_,_,_,_,_,_,_,_,_,_,_,_,_,_,_,_,_,_,_,_,_,_,_,_,_,_]) rfl ?_
          refine rl_det (met_none rfl) (fun h_ H_ => exd_load_per H_ tA3 rfl (v := .int .i64 ((ds.getD ((k).toNat) dz).want)) (D.want (by omega))) (tm' := [_,_,_,_,_,_,_,_,_,_,_,_,_,_,_,_,_,_,_,_,_,_,_,_,_,_,_,_,_,_,_,_,_,_,_,_,_,_,_,_,_,_,_,_,_,_,_,_,_,_,_,_,_,_,_,_,_,_,_,_,_,_,_,_,_,_,_,_,_,_,_,_,_,_,_,_,_,_,_,_,_,_,_,_,_,_,_,_,_,_,_,_,_,_,_,_,_,_,_,_,_,_,_,_,_,_,_,_,_,_,_,_]) rfl ?_
          refine rl_det (met_none rfl) (fun h_ H_ => exd_assign (v := .int .i64 ((ds.getD ((k).toNat) dz).want)) rfl) (tm' := _::_::_::_::_::_::_::_::_::_::_) rfl ?_
          refine rl_end ?_
          refine fl_seq ?_
          refine fl_seq ?_
          refine rl_start ?_
          refine rl_det (met_none rfl) (fun h_ H_ => exd_move (v := .int .i64 ((ds.getD ((k).toNat) dz).want)) rfl) (tm' := [_,_,_,_,_,_,_,_,_,_,_,_,_,_,_,_,_,_,_,_,_,_,_,_,_,_,_,_,_,_,_,_,_,_,_,_,_,_,_,_,_,_,_,_,_,_,_,_,_,_,_,_,_,_,_,_,_,_,_,_,_,_,_,_,_,_,_,_,_,_,_,_,_,_,_,_,_,_,_,_,_,_,_,_,_,_,_,_,_,_,_,_,_,_,_,_,_,_,_,_,_,_,_,_,_,_,_,_,_,_,_,_]) rfl ?_
          refine rl_det (met_none rfl) (fun h_ H_ => exd_move (v := .int .i64 ((spareR size start ds k).1)) rfl) (tm' := [_,_,_,_,_,_,_,_,_,_,_,_,_,_,_,_,_,_,_,_,_,_,_,_,_,_,_,_,_,_,_,_,_,_,_,_,_,_,_,_,_,_,_,_,_,_,_,_,_,_,_,_,_,_,_,_,_,_,_,_,_,_,_,_,_,_,_,_,_,_,_,_,_,_,_,_,_,_,_,_,_,_,_,_,_,_,_,_,_,_,_,_,_,_,_,_,_,_,_,_,_,_,_,_,_,_,_,_,_,_,_,_]) rfl ?_
          refine rl_det (met_none rfl) (fun h_ H_ => exd_add rfl rfl (wr (by omega))) (tm' := [_,_,_,_,_,_,_,_,_,_,_,_,_,_,_,_,_,_,_,_,_,_,_,_,_,_,_,_,_,_,_,_,_,_,_,_,_,_,_,_,_,_,_,_,_,_,_,_,_,_,_,_,_,_,_,_,_,_,_,_,_,_,_,_,_,_,_,_,_,_,_,_,_,_,_,_,_,_,_,_,_,_,_,_,_,_,_,_,_,_,_,_,_,_,_,_,_,_,_,_,_,_,_,_,_,_,_,_,_,_,_,_]) rfl ?_
          refine rl_det (met_none rfl) (fun h_ H_ => exd_leq rfl rfl) (tm' := [_,_,_,_,_,_,_,_,_,_,_,_,_,_,_,_,_,_,_,_,_,_,_,_,_,_,_,_,_,_,_,_,_,_,_,_,_,_,_,_,_,_,_,_,_,_,_,_,_,_,_,_,_,_,_,_,_,_,_,_,_,_,_,_,_,_,_,_,_,_,_,_,_,_,_,_,_,_,_,_,_,_,_,_,_,_,_,_,_,_,_,_,_,_,_,_,_,_,_,_,_,_,_,_,_,_,_,_,_,_,_,_]) rfl ?_
          refine rl_det (met_none rfl) (fun h_ H_ => exd_move (v := .bool (decide (((ds.getD ((k).toNat) dz).want) + ((spareR size start ds k).1) ≤ 20))) rfl) (tm' := [_,_,_,_,_,_,_,_,_,_,_,_,_,_,_,_,_,_,_,_,_,_,_,_,_,_,_,_,_,_,_,_,_,_,_,_,_,_,_,_,_,_,_,_,_,_,_,_,_,_,_,_,_,_,_,_,_,_,_,_,_,_,_,_,_,_,_,_,_,_,_,_,_,_,_,_,_,_,_,_,_,_,_,_,_,_,_,_,_,_,_,_,_,_,_,_,_,_,_,_,_,_,_,_,_,_,_,_,_,_,_,_]) rfl ?_
          by_cases cc8 : ((ds.getD ((k).toNat) dz).want) + ((spareR size start ds k).1) ≤ 20
          · refine rl_det (met_some rfl rfl (decide_eq_true cc8)) (fun h_ H_ => exd_loadN_own H_ tA24 tS24 rfl (i := 1) rfl (vs := [.int .i64 (size), .int .i64 (start), .slice a n c]) rfl rfl) (tm' := [_,_,_,_,_,_,_,_,_,_,_,_,_,_,_,_,_,_,_,_,_,_,_,_,_,_,_,_,_,_,_,_,_,_,_,_,_,_,_,_,_,_,_,_,_,_,_,_,_,_,_,_,_,_,_,_,_,_,_,_,_,_,_,_,_,_,_,_,_,_,_,_,_,_,_,_,_,_,_,_,_,_,_,_,_,_,_,_,_,_,_,_,_,_,_,_,_,_,_,_,_,_,_,_,_,_,_,_,_,_,_,_]) rfl ?_
            refine rl_det (met_some rfl rfl (decide_eq_true cc8)) (fun h_ H_ => exd_move (v := .int .i64 (k)) rfl) (tm' := [_,_,_,_,_,_,_,_,_,_,_,_,_,_,_,_,_,_,_,_,_,_,_,_,_,_,_,_,_,_,_,_,_,_,_,_,_,_,_,_,_,_,_,_,_,_,_,_,_,_,_,_,_,_,_,_,_,_,_,_,_,_,_,_,_,_,_,_,_,_,_,_,_,_,_,_,_,_,_,_,_,_,_,_,_,_,_,_,_,_,_,_,_,_,_,_,_,_,_,_,_,_,_,_,_,_,_,_,_,_,_,_]) rfl ?_
            refine rl_det (met_some rfl rfl (decide_eq_true cc8)) (fun h_ H_ => exd_move (v := .int .i64 ((spareR size start ds k).1)) rfl) (tm' := [_,_,_,_,_,_,_,_,_,_,_,_,_,_,_,_,_,_,_,_,_,_,_,_,_,_,_,_,_,_,_,_,_,_,_,_,_,_,_,_,_,_,_,_,_,_,_,_,_,_,_,_,_,_,_,_,_,_,_,_,_,_,_,_,_,_,_,_,_,_,_,_,_,_,_,_,_,_,_,_,_,_,_,_,_,_,_,_,_,_,_,_,_,_,_,_,_,_,_,_,_,_,_,_,_,_,_,_,_,_,_,_]) rfl ?_
            refine rl_own (L' := ([(b4, .cells #[.int .i64 (levLo size start ds k.toNat), .int .i64 (levHi size start ds k.toNat)] 36 (0, 0)), (b1, .cells #[.int .i64 (size), .int .i64 (start), .slice a n c] 24 (0, 0))] : Pcs) ++ []) rfl ?_
            refine rl_call (met_some rfl rfl (decide_eq_true cc8)) (first := []) (cap := []) rfl rfl fC29 (R := fun v_ h_ => ∃ w9 : Value, ∃ X10 : Pcs, v_ = .agg #[.int .i64 (size), .int .i64 (start), w9] ∧ (OwnS 38 3 w9 (dcs (wanted k ((spareR size start ds k).1) ds)) X10) ∧ St h [] p h_ (([(b4, .cells #[.int .i64 (levLo size start ds k.toNat), .int .i64 (levHi size start ds k.toNat)] 36 (0, 0)), (b1, .cells #[.int .i64 (size), .int .i64 (start), .slice a n c] 24 (0, 0))] : Pcs) ++ (X10 ++ []))) (fun h_ H_ => (c29i (fun b_ o_ e_ => H_.per b_ o_ e_) D (by omega) (.main true) hday (by omega)).mono fun v_ h2_ ⟨w9, X10, e_, o11, N_⟩ => ⟨w9, X10, e_, o11, H_.callNA N_⟩) fun v_ => ?_
            refine rl_ex fun w9 => rl_ex fun X10 => rl_and fun ev_ => rl_and fun o11 => ?_
            have ev_ := ev_.symm; subst ev_
            refine rl_own (L' := ([(b4, .cells #[.int .i64 (levLo size start ds k.toNat), .int .i64 (levHi size start ds k.toNat)] 36 (0, 0)), (b1, .cells #[.int .i64 (size), .int .i64 (start), .slice a n c] 24 (0, 0))] : Pcs) ++ (X10 ++ [])) rfl ?_
            refine rl_norm (tm' := [_,_,_,_,_,_,_,_,_,_,_,_,_,_,_,_,_,_,_,_,_,_,_,_,_,_,_,_,_,_,_,_,_,_,_,_,_,_,_,_,_,_,_,_,_,_,_,_,_,_,_,_,_,_,_,_,_,_,_,_,_,_,_,_,_,_,_,_,_,_,_,_,_,_,_,_,_,_,_,_,_,_,_,_,_,_,_,_,_,_,_,_,_,_,_,_,_,_,_,_,_,_,_,_,_,_,_,_,_,_,_,_]) rfl ?_
            refine rl_lastN (A := ([(b4, .cells #[.int .i64 (levLo size start ds k.toNat), .int .i64 (levHi size start ds k.toNat)] 36 (0, 0)), (b1, .cells #[.int .i64 (size), .int .i64 (start), .slice a n c] 24 (0, 0))] : Pcs)) o11 (show (dcs (wanted k ((spareR size start ds k).1) ds)).length = n by rw [dcs_length, wanted_length]; omega) fun p12 a13 cp14 le15 ev_ D16 => ?_
            subst ev_
            refine rl_own (L' := [(b4, .cells #[.int .i64 (levLo size start ds k.toNat), .int .i64 (levHi size start ds k.toNat)] 36 (0, 0)), (b1, .cells #[.int .i64 (size), .int .i64 (start), .slice a n c] 24 (0, 0))]) rfl ?_
            refine rl_calld (met_some rfl rfl (decide_eq_true cc8)) (first := []) (cap := []) rfl rfl fC24 (fun h_ H_ => c24 _ _ (fun b_ o_ e_ => H_.per b_ o_ e_) (size) (start) _ _ _ _ (show Days _ _ _ (wanted k ((spareR size start ds k).1) ds) from D16) (by omega)) (tm' := [_,_,_,_,_,_,_,_,_,_,_,_,_,_,_,_,_,_,_,_,_,_,_,_,_,_,_,_,_,_,_,_,_,_,_,_,_,_,_,_,_,_,_,_,_,_,_,_,_,_,_,_,_,_,_,_,_,_,_,_,_,_,_,_,_,_,_,_,_,_,_,_,_,_,_,_,_,_,_,_,_,_,_,_,_,_,_,_,_,_,_,_,_,_,_,_,_,_,_,_,_,_,_,_,_,_,_,_,_,_,_,_]) rfl ?_
            refine rl_det (met_some rfl rfl (decide_eq_true cc8)) (fun h_ H_ => exd_not rfl) (tm' := [_,_,_,_,_,_,_,_,_,_,_,_,_,_,_,_,_,_,_,_,_,_,_,_,_,_,_,_,_,_,_,_,_,_,_,_,_,_,_,_,_,_,_,_,_,_,_,_,_,_,_,_,_,_,_,_,_,_,_,_,_,_,_,_,_,_,_,_,_,_,_,_,_,_,_,_,_,_,_,_,_,_,_,_,_,_,_,_,_,_,_,_,_,_,_,_,_,_,_,_,_,_,_,_,_,_,_,_,_,_,_,_]) rfl ?_
            refine rl_det (met_none rfl) (fun h_ H_ => exd_pick_t rfl (decide_eq_true cc8) (v := .bool (!(decide (Ok size start (wanted k ((spareR size start ds k).1) ds) ∧ Lasts size start (wanted k ((spareR size start ds k).1) ds))))) rfl) (tm' := [_,_,_,_,_,_,_,_,_,_,_,_,_,_,_,_,_,_,_,_,_,_,_,_,_,_,_,_,_,_,_,_,_,_,_,_,_,_,_,_,_,_,_,_,_,_,_,_,_,_,_,_,_,_,_,_,_,_,_,_,_,_,_,_,_,_,_,_,_,_,_,_,_,_,_,_,_,_,_,_,_,_,_,_,_,_,_,_,_,_,_,_,_,_,_,_,_,_,_,_,_,_,_,_,_,_,_,_,_,_,_,_]) rfl ?_
            refine rl_end ?_
            refine fl_else rfl (not_f (decide_eq_true ⟨wanted_ok hOk (by omega) (by omega), hS4⟩)) ?_
            refine fl_skip ?_
            refine fl_seq ?_
            refine rl_start ?_
            refine rl_det (met_none rfl) (fun h_ H_ => exd_move (v := .int .i64 ((ds.getD ((k).toNat) dz).want)) rfl) (tm' := [_,_,_,_,_,_,_,_,_,_,_,_,_,_,_,_,_,_,_,_,_,_,_,_,_,_,_,_,_,_,_,_,_,_,_,_,_,_,_,_,_,_,_,_,_,_,_,_,_,_,_,_,_,_,_,_,_,_,_,_,_,_,_,_,_,_,_,_,_,_,_,_,_,_,_,_,_,_,_,_,_,_,_,_,_,_,_,_,_,_,_,_,_,_,_,_,_,_,_,_,_,_,_,_,_,_,_,_,_,_,_,_]) rfl ?_
            refine rl_det (met_none rfl) (fun h_ H_ => exd_move (v := .int .i64 ((spareR size start ds k).1)) rfl) (tm' := [_,_,_,_,_,_,_,_,_,_,_,_,_,_,_,_,_,_,_,_,_,_,_,_,_,_,_,_,_,_,_,_,_,_,_,_,_,_,_,_,_,_,_,_,_,_,_,_,_,_,_,_,_,_,_,_,_,_,_,_,_,_,_,_,_,_,_,_,_,_,_,_,_,_,_,_,_,_,_,_,_,_,_,_,_,_,_,_,_,_,_,_,_,_,_,_,_,_,_,_,_,_,_,_,_,_,_,_,_,_,_,_]) rfl ?_
            refine rl_det (met_none rfl) (fun h_ H_ => exd_add rfl rfl (wr (by omega))) (tm' := [_,_,_,_,_,_,_,_,_,_,_,_,_,_,_,_,_,_,_,_,_,_,_,_,_,_,_,_,_,_,_,_,_,_,_,_,_,_,_,_,_,_,_,_,_,_,_,_,_,_,_,_,_,_,_,_,_,_,_,_,_,_,_,_,_,_,_,_,_,_,_,_,_,_,_,_,_,_,_,_,_,_,_,_,_,_,_,_,_,_,_,_,_,_,_,_,_,_,_,_,_,_,_,_,_,_,_,_,_,_,_,_]) rfl ?_
            refine rl_det (met_none rfl) (fun h_ H_ => exd_geq rfl rfl) (tm' := [_,_,_,_,_,_,_,_,_,_,_,_,_,_,_,_,_,_,_,_,_,_,_,_,_,_,_,_,_,_,_,_,_,_,_,_,_,_,_,_,_,_,_,_,_,_,_,_,_,_,_,_,_,_,_,_,_,_,_,_,_,_,_,_,_,_,_,_,_,_,_,_,_,_,_,_,_,_,_,_,_,_,_,_,_,_,_,_,_,_,_,_,_,_,_,_,_,_,_,_,_,_,_,_,_,_,_,_,_,_,_,_]) rfl ?_
            refine rl_det (met_none rfl) (fun h_ H_ => exd_move (v := .bool (decide (20 ≤ ((ds.getD ((k).toNat) dz).want) + ((spareR size start ds k).1)))) rfl) (tm' := [_,_,_,_,_,_,_,_,_,_,_,_,_,_,_,_,_,_,_,_,_,_,_,_,_,_,_,_,_,_,_,_,_,_,_,_,_,_,_,_,_,_,_,_,_,_,_,_,_,_,_,_,_,_,_,_,_,_,_,_,_,_,_,_,_,_,_,_,_,_,_,_,_,_,_,_,_,_,_,_,_,_,_,_,_,_,_,_,_,_,_,_,_,_,_,_,_,_,_,_,_,_,_,_,_,_,_,_,_,_,_,_]) rfl ?_
            by_cases cc17 : 20 ≤ ((ds.getD ((k).toNat) dz).want) + ((spareR size start ds k).1)
            · refine rl_pass (met_not rfl rfl (decide_eq_true cc17)) (tm' := [_,_,_,_,_,_,_,_,_,_,_,_,_,_,_,_,_,_,_,_,_,_,_,_,_,_,_,_,_,_,_,_,_,_,_,_,_,_,_,_,_,_,_,_,_,_,_,_,_,_,_,_,_,_,_,_,_,_,_,_,_,_,_,_,_,_,_,_,_,_,_,_,_,_,_,_,_,_,_,_,_,_,_,_,_,_,_,_,_,_,_,_,_,_,_,_,_,_,_,_,_,_,_,_,_,_,_,_,_,_,_,_]) rfl ?_
              refine rl_pass (met_not rfl rfl (decide_eq_true cc17)) (tm' := [_,_,_,_,_,_,_,_,_,_,_,_,_,_,_,_,_,_,_,_,_,_,_,_,_,_,_,_,_,_,_,_,_,_,_,_,_,_,_,_,_,_,_,_,_,_,_,_,_,_,_,_,_,_,_,_,_,_,_,_,_,_,_,_,_,_,_,_,_,_,_,_,_,_,_,_,_,_,_,_,_,_,_,_,_,_,_,_,_,_,_,_,_,_,_,_,_,_,_,_,_,_,_,_,_,_,_,_,_,_,_,_]) rfl ?_
              refine rl_pass (met_not rfl rfl (decide_eq_true cc17)) (tm' := [_,_,_,_,_,_,_,_,_,_,_,_,_,_,_,_,_,_,_,_,_,_,_,_,_,_,_,_,_,_,_,_,_,_,_,_,_,_,_,_,_,_,_,_,_,_,_,_,_,_,_,_,_,_,_,_,_,_,_,_,_,_,_,_,_,_,_,_,_,_,_,_,_,_,_,_,_,_,_,_,_,_,_,_,_,_,_,_,_,_,_,_,_,_,_,_,_,_,_,_,_,_,_,_,_,_,_,_,_,_,_,_]) rfl ?_
              refine rl_pass (met_not rfl rfl (decide_eq_true cc17)) (tm' := [_,_,_,_,_,_,_,_,_,_,_,_,_,_,_,_,_,_,_,_,_,_,_,_,_,_,_,_,_,_,_,_,_,_,_,_,_,_,_,_,_,_,_,_,_,_,_,_,_,_,_,_,_,_,_,_,_,_,_,_,_,_,_,_,_,_,_,_,_,_,_,_,_,_,_,_,_,_,_,_,_,_,_,_,_,_,_,_,_,_,_,_,_,_,_,_,_,_,_,_,_,_,_,_,_,_,_,_,_,_,_,_]) rfl ?_
              refine rl_pass (met_not rfl rfl (decide_eq_true cc17)) (tm' := [_,_,_,_,_,_,_,_,_,_,_,_,_,_,_,_,_,_,_,_,_,_,_,_,_,_,_,_,_,_,_,_,_,_,_,_,_,_,_,_,_,_,_,_,_,_,_,_,_,_,_,_,_,_,_,_,_,_,_,_,_,_,_,_,_,_,_,_,_,_,_,_,_,_,_,_,_,_,_,_,_,_,_,_,_,_,_,_,_,_,_,_,_,_,_,_,_,_,_,_,_,_,_,_,_,_,_,_,_,_,_,_]) rfl ?_
              refine rl_pass (met_not rfl rfl (decide_eq_true cc17)) (tm' := [_,_,_,_,_,_,_,_,_,_,_,_,_,_,_,_,_,_,_,_,_,_,_,_,_,_,_,_,_,_,_,_,_,_,_,_,_,_,_,_,_,_,_,_,_,_,_,_,_,_,_,_,_,_,_,_,_,_,_,_,_,_,_,_,_,_,_,_,_,_,_,_,_,_,_,_,_,_,_,_,_,_,_,_,_,_,_,_,_,_,_,_,_,_,_,_,_,_,_,_,_,_,_,_,_,_,_,_,_,_,_,_]) rfl ?_
              refine rl_pass (met_not rfl rfl (decide_eq_true cc17)) (tm' := [_,_,_,_,_,_,_,_,_,_,_,_,_,_,_,_,_,_,_,_,_,_,_,_,_,_,_,_,_,_,_,_,_,_,_,_,_,_,_,_,_,_,_,_,_,_,_,_,_,_,_,_,_,_,_,_,_,_,_,_,_,_,_,_,_,_,_,_,_,_,_,_,_,_,_,_,_,_,_,_,_,_,_,_,_,_,_,_,_,_,_,_,_,_,_,_,_,_,_,_,_,_,_,_,_,_,_,_,_,_,_,_]) rfl ?_
              refine rl_det (met_none rfl) (fun h_ H_ => exd_pick_t rfl (decide_eq_true cc17) (v := .bool (true)) rfl) (tm' := [_,_,_,_,_,_,_,_,_,_,_,_,_,_,_,_,_,_,_,_,_,_,_,_,_,_,_,_,_,_,_,_,_,_,_,_,_,_,_,_,_,_,_,_,_,_,_,_,_,_,_,_,_,_,_,_,_,_,_,_,_,_,_,_,_,_,_,_,_,_,_,_,_,_,_,_,_,_,_,_,_,_,_,_,_,_,_,_,_,_,_,_,_,_,_,_,_,_,_,_,_,_,_,_,_,_,_,_,_,_,_,_]) rfl ?_
              refine rl_det (met_none rfl) (fun h_ H_ => exd_move (v := .bool (true)) rfl) (tm' := [_,_,_,_,_,_,_,_,_,_,_,_,_,_,_,_,_,_,_,_,_,_,_,_,_,_,_,_,_,_,_,_,_,_,_,_,_,_,_,_,_,_,_,_,_,_,_,_,_,_,_,_,_,_,_,_,_,_,_,_,_,_,_,_,_,_,_,_,_,_,_,_,_,_,_,_,_,_,_,_,_,_,_,_,_,_,_,_,_,_,_,_,_,_,_,_,_,_,_,_,_,_,_,_,_,_,_,_,_,_,_,_]) rfl ?_
              refine rl_calld (met_some rfl rfl rfl) (first := []) (cap := []) rfl rfl fC18 (fun h_ H_ => c18 _) (tm' := [_,_,_,_,_,_,_,_,_,_,_,_,_,_,_,_,_,_,_,_,_,_,_,_,_,_,_,_,_,_,_,_,_,_,_,_,_,_,_,_,_,_,_,_,_,_,_,_,_,_,_,_,_,_,_,_,_,_,_,_,_,_,_,_,_,_,_,_,_,_,_,_,_,_,_,_,_,_,_,_,_,_,_,_,_,_,_,_,_,_,_,_,_,_,_,_,_,_,_,_,_,_,_,_,_,_,_,_,_,_,_,_]) rfl ?_
              refine rl_det (met_none rfl) (fun h_ H_ => exd_pick_t rfl rfl (v := .bool (true)) rfl) (tm' := [_,_,_,_,_,_,_,_,_,_,_,_,_,_,_,_,_,_,_,_,_,_,_,_,_,_,_,_,_,_,_,_,_,_,_,_,_,_,_,_,_,_,_,_,_,_,_,_,_,_,_,_,_,_,_,_,_,_,_,_,_,_,_,_,_,_,_,_,_,_,_,_,_,_,_,_,_,_,_,_,_,_,_,_,_,_,_,_,_,_,_,_,_,_,_,_,_,_,_,_,_,_,_,_,_,_,_,_,_,_,_,_]) rfl ?_
              refine rl_det (met_none rfl) (fun h_ H_ => exd_assign (v := .bool (true)) rfl) (tm' := _::_::_::_::_::_) rfl ?_
              refine rl_end ?_
              refine fl_retE (by kernel_rfl) Try.func6 rfl (vs := [.bool (true)]) (fun h_ H_ => ⟨.bool (true), _, rfl, rfl, rfl⟩) (v := .bool (true)) rfl ?_
              exact fun h_ H_ => K _ _ ⟨rfl, H_.kept⟩
            · refine rl_det (met_some rfl rfl (decide_eq_false cc17)) (fun h_ H_ => exd_loadN_own H_ tA24 tS24 rfl (i := 1) rfl (vs := [.int .i64 (size), .int .i64 (start), .slice a n c]) rfl rfl) (tm' := [_,_,_,_,_,_,_,_,_,_,_,_,_,_,_,_,_,_,_,_,_,_,_,_,_,_,_,_,_,_,_,_,_,_,_,_,_,_,_,_,_,_,_,_,_,_,_,_,_,_,_,_,_,_,_,_,_,_,_,_,_,_,_,_,_,_,_,_,_,_,_,_,_,_,_,_,_,_,_,_,_,_,_,_,_,_,_,_,_,_,_,_,_,_,_,_,_,_,_,_,_,_,_,_,_,_,_,_,_,_,_,_]) rfl ?_
              refine rl_det (met_some rfl rfl (decide_eq_false cc17)) (fun h_ H_ => exd_move (v := .int .i64 (k)) rfl) (tm' := [_,_,_,_,_,_,_,_,_,_,_,_,_,_,_,_,_,_,_,_,_,_,_,_,_,_,_,_,_,_,_,_,_,_,_,_,_,_,_,_,_,_,_,_,_,_,_,_,_,_,_,_,_,_,_,_,_,_,_,_,_,_,_,_,_,_,_,_,_,_,_,_,_,_,_,_,_,_,_,_,_,_,_,_,_,_,_,_,_,_,_,_,_,_,_,_,_,_,_,_,_,_,_,_,_,_,_,_,_,_,_,_]) rfl ?_
              refine rl_det (met_some rfl rfl (decide_eq_false cc17)) (fun h_ H_ => exd_move (v := .int .i64 ((spareR size start ds k).1)) rfl) (tm' := [_,_,_,_,_,_,_,_,_,_,_,_,_,_,_,_,_,_,_,_,_,_,_,_,_,_,_,_,_,_,_,_,_,_,_,_,_,_,_,_,_,_,_,_,_,_,_,_,_,_,_,_,_,_,_,_,_,_,_,_,_,_,_,_,_,_,_,_,_,_,_,_,_,_,_,_,_,_,_,_,_,_,_,_,_,_,_,_,_,_,_,_,_,_,_,_,_,_,_,_,_,_,_,_,_,_,_,_,_,_,_,_]) rfl ?_
              refine rl_det (met_some rfl rfl (decide_eq_false cc17)) (fun h_ H_ => exd_add rfl rfl (wr (by omega))) (tm' := [_,_,_,_,_,_,_,_,_,_,_,_,_,_,_,_,_,_,_,_,_,_,_,_,_,_,_,_,_,_,_,_,_,_,_,_,_,_,_,_,_,_,_,_,_,_,_,_,_,_,_,_,_,_,_,_,_,_,_,_,_,_,_,_,_,_,_,_,_,_,_,_,_,_,_,_,_,_,_,_,_,_,_,_,_,_,_,_,_,_,_,_,_,_,_,_,_,_,_,_,_,_,_,_,_,_,_,_,_,_,_,_]) rfl ?_
              refine rl_own (L' := ([(b4, .cells #[.int .i64 (levLo size start ds k.toNat), .int .i64 (levHi size start ds k.toNat)] 36 (0, 0)), (b1, .cells #[.int .i64 (size), .int .i64 (start), .slice a n c] 24 (0, 0))] : Pcs) ++ []) rfl ?_
              refine rl_call (met_some rfl rfl (decide_eq_false cc17)) (first := []) (cap := []) rfl rfl fC29 (R := fun v_ h_ => ∃ w18 : Value, ∃ X19 : Pcs, v_ = .agg #[.int .i64 (size), .int .i64 (start), w18] ∧ (OwnS 38 3 w18 (dcs (wanted k (((spareR size start ds k).1) + 1) ds)) X19) ∧ St h [] p12 h_ (([(b4, .cells #[.int .i64 (levLo size start ds k.toNat), .int .i64 (levHi size start ds k.toNat)] 36 (0, 0)), (b1, .cells #[.int .i64 (size), .int .i64 (start), .slice a n c] 24 (0, 0))] : Pcs) ++ (X19 ++ []))) (fun h_ H_ => (c29i (fun b_ o_ e_ => H_.per b_ o_ e_) (D.mono le15) (by omega) (.main true) hday (by omega)).mono fun v_ h2_ ⟨w18, X19, e_, o20, N_⟩ => ⟨w18, X19, e_, o20, H_.callNA N_⟩) fun v_ => ?_
              refine rl_ex fun w18 => rl_ex fun X19 => rl_and fun ev_ => rl_and fun o20 => ?_
              have ev_ := ev_.symm; subst ev_
              refine rl_own (L' := ([(b4, .cells #[.int .i64 (levLo size start ds k.toNat), .int .i64 (levHi size start ds k.toNat)] 36 (0, 0)), (b1, .cells #[.int .i64 (size), .int .i64 (start), .slice a n c] 24 (0, 0))] : Pcs) ++ (X19 ++ [])) rfl ?_
              refine rl_norm (tm' := [_,_,_,_,_,_,_,_,_,_,_,_,_,_,_,_,_,_,_,_,_,_,_,_,_,_,_,_,_,_,_,_,_,_,_,_,_,_,_,_,_,_,_,_,_,_,_,_,_,_,_,_,_,_,_,_,_,_,_,_,_,_,_,_,_,_,_,_,_,_,_,_,_,_,_,_,_,_,_,_,_,_,_,_,_,_,_,_,_,_,_,_,_,_,_,_,_,_,_,_,_,_,_,_,_,_,_,_,_,_,_,_]) rfl ?_
              refine rl_lastN (A := ([(b4, .cells #[.int .i64 (levLo size start ds k.toNat), .int .i64 (levHi size start ds k.toNat)] 36 (0, 0)), (b1, .cells #[.int .i64 (size), .int .i64 (start), .slice a n c] 24 (0, 0))] : Pcs)) o20 (show (dcs (wanted k (((spareR size start ds k).1) + 1) ds)).length = n by rw [dcs_length, wanted_length]; omega) fun p21 a22 cp23 le24 ev_ D25 => ?_
              subst ev_
              refine rl_own (L' := [(b4, .cells #[.int .i64 (levLo size start ds k.toNat), .int .i64 (levHi size start ds k.toNat)] 36 (0, 0)), (b1, .cells #[.int .i64 (size), .int .i64 (start), .slice a n c] 24 (0, 0))]) rfl ?_
              refine rl_calld (met_some rfl rfl (decide_eq_false cc17)) (first := []) (cap := []) rfl rfl fC24 (fun h_ H_ => c24 _ _ (fun b_ o_ e_ => H_.per b_ o_ e_) (size) (start) _ _ _ _ (show Days _ _ _ (wanted k (((spareR size start ds k).1) + 1) ds) from D25) (by omega)) (tm' := [_,_,_,_,_,_,_,_,_,_,_,_,_,_,_,_,_,_,_,_,_,_,_,_,_,_,_,_,_,_,_,_,_,_,_,_,_,_,_,_,_,_,_,_,_,_,_,_,_,_,_,_,_,_,_,_,_,_,_,_,_,_,_,_,_,_,_,_,_,_,_,_,_,_,_,_,_,_,_,_,_,_,_,_,_,_,_,_,_,_,_,_,_,_,_,_,_,_,_,_,_,_,_,_,_,_,_,_,_,_,_,_]) rfl ?_
              refine rl_det (met_some rfl rfl (decide_eq_false cc17)) (fun h_ H_ => exd_not rfl) (tm' := [_,_,_,_,_,_,_,_,_,_,_,_,_,_,_,_,_,_,_,_,_,_,_,_,_,_,_,_,_,_,_,_,_,_,_,_,_,_,_,_,_,_,_,_,_,_,_,_,_,_,_,_,_,_,_,_,_,_,_,_,_,_,_,_,_,_,_,_,_,_,_,_,_,_,_,_,_,_,_,_,_,_,_,_,_,_,_,_,_,_,_,_,_,_,_,_,_,_,_,_,_,_,_,_,_,_,_,_,_,_,_,_]) rfl ?_
              refine rl_det (met_none rfl) (fun h_ H_ => exd_pick_f rfl (decide_eq_false cc17) (v := .bool (!(decide (Ok size start (wanted k (((spareR size start ds k).1) + 1) ds) ∧ Lasts size start (wanted k (((spareR size start ds k).1) + 1) ds))))) rfl) (tm' := [_,_,_,_,_,_,_,_,_,_,_,_,_,_,_,_,_,_,_,_,_,_,_,_,_,_,_,_,_,_,_,_,_,_,_,_,_,_,_,_,_,_,_,_,_,_,_,_,_,_,_,_,_,_,_,_,_,_,_,_,_,_,_,_,_,_,_,_,_,_,_,_,_,_,_,_,_,_,_,_,_,_,_,_,_,_,_,_,_,_,_,_,_,_,_,_,_,_,_,_,_,_,_,_,_,_,_,_,_,_,_,_]) rfl ?_
              refine rl_det (met_none rfl) (fun h_ H_ => exd_move (v := .bool (!(decide (Ok size start (wanted k (((spareR size start ds k).1) + 1) ds) ∧ Lasts size start (wanted k (((spareR size start ds k).1) + 1) ds))))) rfl) (tm' := [_,_,_,_,_,_,_,_,_,_,_,_,_,_,_,_,_,_,_,_,_,_,_,_,_,_,_,_,_,_,_,_,_,_,_,_,_,_,_,_,_,_,_,_,_,_,_,_,_,_,_,_,_,_,_,_,_,_,_,_,_,_,_,_,_,_,_,_,_,_,_,_,_,_,_,_,_,_,_,_,_,_,_,_,_,_,_,_,_,_,_,_,_,_,_,_,_,_,_,_,_,_,_,_,_,_,_,_,_,_,_,_]) rfl ?_
              refine rl_calld (met_some rfl rfl (not_t (decide_eq_false (fun h_ => hS5 h_.2)))) (first := []) (cap := []) rfl rfl fC18 (fun h_ H_ => c18 _) (tm' := [_,_,_,_,_,_,_,_,_,_,_,_,_,_,_,_,_,_,_,_,_,_,_,_,_,_,_,_,_,_,_,_,_,_,_,_,_,_,_,_,_,_,_,_,_,_,_,_,_,_,_,_,_,_,_,_,_,_,_,_,_,_,_,_,_,_,_,_,_,_,_,_,_,_,_,_,_,_,_,_,_,_,_,_,_,_,_,_,_,_,_,_,_,_,_,_,_,_,_,_,_,_,_,_,_,_,_,_,_,_,_,_]) rfl ?_
              refine rl_det (met_none rfl) (fun h_ H_ => exd_pick_t rfl (not_t (decide_eq_false (fun h_ => hS5 h_.2))) (v := .bool (true)) rfl) (tm' := [_,_,_,_,_,_,_,_,_,_,_,_,_,_,_,_,_,_,_,_,_,_,_,_,_,_,_,_,_,_,_,_,_,_,_,_,_,_,_,_,_,_,_,_,_,_,_,_,_,_,_,_,_,_,_,_,_,_,_,_,_,_,_,_,_,_,_,_,_,_,_,_,_,_,_,_,_,_,_,_,_,_,_,_,_,_,_,_,_,_,_,_,_,_,_,_,_,_,_,_,_,_,_,_,_,_,_,_,_,_,_,_]) rfl ?_
              refine rl_det (met_none rfl) (fun h_ H_ => exd_assign (v := .bool (true)) rfl) (tm' := _::_::_::_::_::_) rfl ?_
              refine rl_end ?_
              refine fl_retE (by kernel_rfl) Try.func6 rfl (vs := [.bool (true)]) (fun h_ H_ => ⟨.bool (true), _, rfl, rfl, rfl⟩) (v := .bool (true)) rfl ?_
              exact fun h_ H_ => K _ _ ⟨rfl, H_.kept⟩
          · refine rl_pass (met_not rfl rfl (decide_eq_false cc8)) (tm' := [_,_,_,_,_,_,_,_,_,_,_,_,_,_,_,_,_,_,_,_,_,_,_,_,_,_,_,_,_,_,_,_,_,_,_,_,_,_,_,_,_,_,_,_,_,_,_,_,_,_,_,_,_,_,_,_,_,_,_,_,_,_,_,_,_,_,_,_,_,_,_,_,_,_,_,_,_,_,_,_,_,_,_,_,_,_,_,_,_,_,_,_,_,_,_,_,_,_,_,_,_,_,_,_,_,_,_,_,_,_,_,_]) rfl ?_
            refine rl_pass (met_not rfl rfl (decide_eq_false cc8)) (tm' := [_,_,_,_,_,_,_,_,_,_,_,_,_,_,_,_,_,_,_,_,_,_,_,_,_,_,_,_,_,_,_,_,_,_,_,_,_,_,_,_,_,_,_,_,_,_,_,_,_,_,_,_,_,_,_,_,_,_,_,_,_,_,_,_,_,_,_,_,_,_,_,_,_,_,_,_,_,_,_,_,_,_,_,_,_,_,_,_,_,_,_,_,_,_,_,_,_,_,_,_,_,_,_,_,_,_,_,_,_,_,_,_]) rfl ?_
            refine rl_pass (met_not rfl rfl (decide_eq_false cc8)) (tm' := [_,_,_,_,_,_,_,_,_,_,_,_,_,_,_,_,_,_,_,_,_,_,_,_,_,_,_,_,_,_,_,_,_,_,_,_,_,_,_,_,_,_,_,_,_,_,_,_,_,_,_,_,_,_,_,_,_,_,_,_,_,_,_,_,_,_,_,_,_,_,_,_,_,_,_,_,_,_,_,_,_,_,_,_,_,_,_,_,_,_,_,_,_,_,_,_,_,_,_,_,_,_,_,_,_,_,_,_,_,_,_,_]) rfl ?_
            refine rl_pass (met_not rfl rfl (decide_eq_false cc8)) (tm' := [_,_,_,_,_,_,_,_,_,_,_,_,_,_,_,_,_,_,_,_,_,_,_,_,_,_,_,_,_,_,_,_,_,_,_,_,_,_,_,_,_,_,_,_,_,_,_,_,_,_,_,_,_,_,_,_,_,_,_,_,_,_,_,_,_,_,_,_,_,_,_,_,_,_,_,_,_,_,_,_,_,_,_,_,_,_,_,_,_,_,_,_,_,_,_,_,_,_,_,_,_,_,_,_,_,_,_,_,_,_,_,_]) rfl ?_
            refine rl_pass (met_not rfl rfl (decide_eq_false cc8)) (tm' := [_,_,_,_,_,_,_,_,_,_,_,_,_,_,_,_,_,_,_,_,_,_,_,_,_,_,_,_,_,_,_,_,_,_,_,_,_,_,_,_,_,_,_,_,_,_,_,_,_,_,_,_,_,_,_,_,_,_,_,_,_,_,_,_,_,_,_,_,_,_,_,_,_,_,_,_,_,_,_,_,_,_,_,_,_,_,_,_,_,_,_,_,_,_,_,_,_,_,_,_,_,_,_,_,_,_,_,_,_,_,_,_]) rfl ?_
            refine rl_pass (met_not rfl rfl (decide_eq_false cc8)) (tm' := [_,_,_,_,_,_,_,_,_,_,_,_,_,_,_,_,_,_,_,_,_,_,_,_,_,_,_,_,_,_,_,_,_,_,_,_,_,_,_,_,_,_,_,_,_,_,_,_,_,_,_,_,_,_,_,_,_,_,_,_,_,_,_,_,_,_,_,_,_,_,_,_,_,_,_,_,_,_,_,_,_,_,_,_,_,_,_,_,_,_,_,_,_,_,_,_,_,_,_,_,_,_,_,_,_,_,_,_,_,_,_,_]) rfl ?_
            refine rl_det (met_none rfl) (fun h_ H_ => exd_pick_f rfl (decide_eq_false cc8) (v := .bool (false)) rfl) (tm' := [_,_,_,_,_,_,_,_,_,_,_,_,_,_,_,_,_,_,_,_,_,_,_,_,_,_,_,_,_,_,_,_,_,_,_,_,_,_,_,_,_,_,_,_,_,_,_,_,_,_,_,_,_,_,_,_,_,_,_,_,_,_,_,_,_,_,_,_,_,_,_,_,_,_,_,_,_,_,_,_,_,_,_,_,_,_,_,_,_,_,_,_,_,_,_,_,_,_,_,_,_,_,_,_,_,_,_,_,_,_,_,_]) rfl ?_
            refine rl_end ?_
            refine fl_else rfl rfl ?_
            refine fl_skip ?_
            refine fl_seq ?_
            refine rl_start ?_
            refine rl_det (met_none rfl) (fun h_ H_ => exd_move (v := .int .i64 ((ds.getD ((k).toNat) dz).want)) rfl) (tm' := [_,_,_,_,_,_,_,_,_,_,_,_,_,_,_,_,_,_,_,_,_,_,_,_,_,_,_,_,_,_,_,_,_,_,_,_,_,_,_,_,_,_,_,_,_,_,_,_,_,_,_,_,_,_,_,_,_,_,_,_,_,_,_,_,_,_,_,_,_,_,_,_,_,_,_,_,_,_,_,_,_,_,_,_,_,_,_,_,_,_,_,_,_,_,_,_,_,_,_,_,_,_,_,_,_,_,_,_,_,_,_,_]) rfl ?_
            refine rl_det (met_none rfl) (fun h_ H_ => exd_move (v := .int .i64 ((spareR size start ds k).1)) rfl) (tm' := [_,_,_,_,_,_,_,_,_,_,_,_,_,_,_,_,_,_,_,_,_,_,_,_,_,_,_,_,_,_,_,_,_,_,_,_,_,_,_,_,_,_,_,_,_,_,_,_,_,_,_,_,_,_,_,_,_,_,_,_,_,_,_,_,_,_,_,_,_,_,_,_,_,_,_,_,_,_,_,_,_,_,_,_,_,_,_,_,_,_,_,_,_,_,_,_,_,_,_,_,_,_,_,_,_,_,_,_,_,_,_,_]) rfl ?_
            refine rl_det (met_none rfl) (fun h_ H_ => exd_add rfl rfl (wr (by omega))) (tm' := [_,_,_,_,_,_,_,_,_,_,_,_,_,_,_,_,_,_,_,_,_,_,_,_,_,_,_,_,_,_,_,_,_,_,_,_,_,_,_,_,_,_,_,_,_,_,_,_,_,_,_,_,_,_,_,_,_,_,_,_,_,_,_,_,_,_,_,_,_,_,_,_,_,_,_,_,_,_,_,_,_,_,_,_,_,_,_,_,_,_,_,_,_,_,_,_,_,_,_,_,_,_,_,_,_,_,_,_,_,_,_,_]) rfl ?_
            refine rl_det (met_none rfl) (fun h_ H_ => exd_geq rfl rfl) (tm' := [_,_,_,_,_,_,_,_,_,_,_,_,_,_,_,_,_,_,_,_,_,_,_,_,_,_,_,_,_,_,_,_,_,_,_,_,_,_,_,_,_,_,_,_,_,_,_,_,_,_,_,_,_,_,_,_,_,_,_,_,_,_,_,_,_,_,_,_,_,_,_,_,_,_,_,_,_,_,_,_,_,_,_,_,_,_,_,_,_,_,_,_,_,_,_,_,_,_,_,_,_,_,_,_,_,_,_,_,_,_,_,_]) rfl ?_
            refine rl_det (met_none rfl) (fun h_ H_ => exd_move (v := .bool (decide (20 ≤ ((ds.getD ((k).toNat) dz).want) + ((spareR size start ds k).1)))) rfl) (tm' := [_,_,_,_,_,_,_,_,_,_,_,_,_,_,_,_,_,_,_,_,_,_,_,_,_,_,_,_,_,_,_,_,_,_,_,_,_,_,_,_,_,_,_,_,_,_,_,_,_,_,_,_,_,_,_,_,_,_,_,_,_,_,_,_,_,_,_,_,_,_,_,_,_,_,_,_,_,_,_,_,_,_,_,_,_,_,_,_,_,_,_,_,_,_,_,_,_,_,_,_,_,_,_,_,_,_,_,_,_,_,_,_]) rfl ?_
            by_cases cc26 : 20 ≤ ((ds.getD ((k).toNat) dz).want) + ((spareR size start ds k).1)
            · refine rl_pass (met_not rfl rfl (decide_eq_true cc26)) (tm' := [_,_,_,_,_,_,_,_,_,_,_,_,_,_,_,_,_,_,_,_,_,_,_,_,_,_,_,_,_,_,_,_,_,_,_,_,_,_,_,_,_,_,_,_,_,_,_,_,_,_,_,_,_,_,_,_,_,_,_,_,_,_,_,_,_,_,_,_,_,_,_,_,_,_,_,_,_,_,_,_,_,_,_,_,_,_,_,_,_,_,_,_,_,_,_,_,_,_,_,_,_,_,_,_,_,_,_,_,_,_,_,_]) rfl ?_
              refine rl_pass (met_not rfl rfl (decide_eq_true cc26)) (tm' := [_,_,_,_,_,_,_,_,_,_,_,_,_,_,_,_,_,_,_,_,_,_,_,_,_,_,_,_,_,_,_,_,_,_,_,_,_,_,_,_,_,_,_,_,_,_,_,_,_,_,_,_,_,_,_,_,_,_,_,_,_,_,_,_,_,_,_,_,_,_,_,_,_,_,_,_,_,_,_,_,_,_,_,_,_,_,_,_,_,_,_,_,_,_,_,_,_,_,_,_,_,_,_,_,_,_,_,_,_,_,_,_]) rfl ?_
              refine rl_pass (met_not rfl rfl (decide_eq_true cc26)) (tm' := [_,_,_,_,_,_,_,_,_,_,_,_,_,_,_,_,_,_,_,_,_,_,_,_,_,_,_,_,_,_,_,_,_,_,_,_,_,_,_,_,_,_,_,_,_,_,_,_,_,_,_,_,_,_,_,_,_,_,_,_,_,_,_,_,_,_,_,_,_,_,_,_,_,_,_,_,_,_,_,_,_,_,_,_,_,_,_,_,_,_,_,_,_,_,_,_,_,_,_,_,_,_,_,_,_,_,_,_,_,_,_,_]) rfl ?_
              refine rl_pass (met_not rfl rfl (decide_eq_true cc26)) (tm' := [_,_,_,_,_,_,_,_,_,_,_,_,_,_,_,_,_,_,_,_,_,_,_,_,_,_,_,_,_,_,_,_,_,_,_,_,_,_,_,_,_,_,_,_,_,_,_,_,_,_,_,_,_,_,_,_,_,_,_,_,_,_,_,_,_,_,_,_,_,_,_,_,_,_,_,_,_,_,_,_,_,_,_,_,_,_,_,_,_,_,_,_,_,_,_,_,_,_,_,_,_,_,_,_,_,_,_,_,_,_,_,_]) rfl ?_
              refine rl_pass (met_not rfl rfl (decide_eq_true cc26)) (tm' := [_,_,_,_,_,_,_,_,_,_,_,_,_,_,_,_,_,_,_,_,_,_,_,_,_,_,_,_,_,_,_,_,_,_,_,_,_,_,_,_,_,_,_,_,_,_,_,_,_,_,_,_,_,_,_,_,_,_,_,_,_,_,_,_,_,_,_,_,_,_,_,_,_,_,_,_,_,_,_,_,_,_,_,_,_,_,_,_,_,_,_,_,_,_,_,_,_,_,_,_,_,_,_,_,_,_,_,_,_,_,_,_]) rfl ?_
              refine rl_pass (met_not rfl rfl (decide_eq_true cc26)) (tm' := [_,_,_,_,_,_,_,_,_,_,_,_,_,_,_,_,_,_,_,_,_,_,_,_,_,_,_,_,_,_,_,_,_,_,_,_,_,_,_,_,_,_,_,_,_,_,_,_,_,_,_,_,_,_,_,_,_,_,_,_,_,_,_,_,_,_,_,_,_,_,_,_,_,_,_,_,_,_,_,_,_,_,_,_,_,_,_,_,_,_,_,_,_,_,_,_,_,_,_,_,_,_,_,_,_,_,_,_,_,_,_,_]) rfl ?_
              refine rl_pass (met_not rfl rfl (decide_eq_true cc26)) (tm' := [_,_,_,_,_,_,_,_,_,_,_,_,_,_,_,_,_,_,_,_,_,_,_,_,_,_,_,_,_,_,_,_,_,_,_,_,_,_,_,_,_,_,_,_,_,_,_,_,_,_,_,_,_,_,_,_,_,_,_,_,_,_,_,_,_,_,_,_,_,_,_,_,_,_,_,_,_,_,_,_,_,_,_,_,_,_,_,_,_,_,_,_,_,_,_,_,_,_,_,_,_,_,_,_,_,_,_,_,_,_,_,_]) rfl ?_
              refine rl_det (met_none rfl) (fun h_ H_ => exd_pick_t rfl (decide_eq_true cc26) (v := .bool (true)) rfl) (tm' := [_,_,_,_,_,_,_,_,_,_,_,_,_,_,_,_,_,_,_,_,_,_,_,_,_,_,_,_,_,_,_,_,_,_,_,_,_,_,_,_,_,_,_,_,_,_,_,_,_,_,_,_,_,_,_,_,_,_,_,_,_,_,_,_,_,_,_,_,_,_,_,_,_,_,_,_,_,_,_,_,_,_,_,_,_,_,_,_,_,_,_,_,_,_,_,_,_,_,_,_,_,_,_,_,_,_,_,_,_,_,_,_]) rfl ?_
              refine rl_det (met_none rfl) (fun h_ H_ => exd_move (v := .bool (true)) rfl) (tm' := [_,_,_,_,_,_,_,_,_,_,_,_,_,_,_,_,_,_,_,_,_,_,_,_,_,_,_,_,_,_,_,_,_,_,_,_,_,_,_,_,_,_,_,_,_,_,_,_,_,_,_,_,_,_,_,_,_,_,_,_,_,_,_,_,_,_,_,_,_,_,_,_,_,_,_,_,_,_,_,_,_,_,_,_,_,_,_,_,_,_,_,_,_,_,_,_,_,_,_,_,_,_,_,_,_,_,_,_,_,_,_,_]) rfl ?_
              refine rl_calld (met_some rfl rfl rfl) (first := []) (cap := []) rfl rfl fC18 (fun h_ H_ => c18 _) (tm' := [_,_,_,_,_,_,_,_,_,_,_,_,_,_,_,_,_,_,_,_,_,_,_,_,_,_,_,_,_,_,_,_,_,_,_,_,_,_,_,_,_,_,_,_,_,_,_,_,_,_,_,_,_,_,_,_,_,_,_,_,_,_,_,_,_,_,_,_,_,_,_,_,_,_,_,_,_,_,_,_,_,_,_,_,_,_,_,_,_,_,_,_,_,_,_,_,_,_,_,_,_,_,_,_,_,_,_,_,_,_,_,_]) rfl ?_
              refine rl_det (met_none rfl) (fun h_ H_ => exd_pick_t rfl rfl (v := .bool (true)) rfl) (tm' := [_,_,_,_,_,_,_,_,_,_,_,_,_,_,_,_,_,_,_,_,_,_,_,_,_,_,_,_,_,_,_,_,_,_,_,_,_,_,_,_,_,_,_,_,_,_,_,_,_,_,_,_,_,_,_,_,_,_,_,_,_,_,_,_,_,_,_,_,_,_,_,_,_,_,_,_,_,_,_,_,_,_,_,_,_,_,_,_,_,_,_,_,_,_,_,_,_,_,_,_,_,_,_,_,_,_,_,_,_,_,_,_]) rfl ?_
              refine rl_det (met_none rfl) (fun h_ H_ => exd_assign (v := .bool (true)) rfl) (tm' := _::_::_::_::_::_) rfl ?_
              refine rl_end ?_
              refine fl_retE (by kernel_rfl) Try.func6 rfl (vs := [.bool (true)]) (fun h_ H_ => ⟨.bool (true), _, rfl, rfl, rfl⟩) (v := .bool (true)) rfl ?_
              exact fun h_ H_ => K _ _ ⟨rfl, H_.kept⟩
            · refine rl_det (met_some rfl rfl (decide_eq_false cc26)) (fun h_ H_ => exd_loadN_own H_ tA24 tS24 rfl (i := 1) rfl (vs := [.int .i64 (size), .int .i64 (start), .slice a n c]) rfl rfl) (tm' := [_,_,_,_,_,_,_,_,_,_,_,_,_,_,_,_,_,_,_,_,_,_,_,_,_,_,_,_,_,_,_,_,_,_,_,_,_,_,_,_,_,_,_,_,_,_,_,_,_,_,_,_,_,_,_,_,_,_,_,_,_,_,_,_,_,_,_,_,_,_,_,_,_,_,_,_,_,_,_,_,_,_,_,_,_,_,_,_,_,_,_,_,_,_,_,_,_,_,_,_,_,_,_,_,_,_,_,_,_,_,_,_]) rfl ?_
              refine rl_det (met_some rfl rfl (decide_eq_false cc26)) (fun h_ H_ => exd_move (v := .int .i64 (k)) rfl) (tm' := [_,_,_,_,_,_,_,_,_,_,_,_,_,_,_,_,_,_,_,_,_,_,_,_,_,_,_,_,_,_,_,_,_,_,_,_,_,_,_,_,_,_,_,_,_,_,_,_,_,_,_,_,_,_,_,_,_,_,_,_,_,_,_,_,_,_,_,_,_,_,_,_,_,_,_,_,_,_,_,_,_,_,_,_,_,_,_,_,_,_,_,_,_,_,_,_,_,_,_,_,_,_,_,_,_,_,_,_,_,_,_,_]) rfl ?_
              refine rl_det (met_some rfl rfl (decide_eq_false cc26)) (fun h_ H_ => exd_move (v := .int .i64 ((spareR size start ds k).1)) rfl) (tm' := [_,_,_,_,_,_,_,_,_,_,_,_,_,_,_,_,_,_,_,_,_,_,_,_,_,_,_,_,_,_,_,_,_,_,_,_,_,_,_,_,_,_,_,_,_,_,_,_,_,_,_,_,_,_,_,_,_,_,_,_,_,_,_,_,_,_,_,_,_,_,_,_,_,_,_,_,_,_,_,_,_,_,_,_,_,_,_,_,_,_,_,_,_,_,_,_,_,_,_,_,_,_,_,_,_,_,_,_,_,_,_,_]) rfl ?_
              refine rl_det (met_some rfl rfl (decide_eq_false cc26)) (fun h_ H_ => exd_add rfl rfl (wr (by omega))) (tm' := [_,_,_,_,_,_,_,_,_,_,_,_,_,_,_,_,_,_,_,_,_,_,_,_,_,_,_,_,_,_,_,_,_,_,_,_,_,_,_,_,_,_,_,_,_,_,_,_,_,_,_,_,_,_,_,_,_,_,_,_,_,_,_,_,_,_,_,_,_,_,_,_,_,_,_,_,_,_,_,_,_,_,_,_,_,_,_,_,_,_,_,_,_,_,_,_,_,_,_,_,_,_,_,_,_,_,_,_,_,_,_,_]) rfl ?_
              refine rl_own (L' := ([(b4, .cells #[.int .i64 (levLo size start ds k.toNat), .int .i64 (levHi size start ds k.toNat)] 36 (0, 0)), (b1, .cells #[.int .i64 (size), .int .i64 (start), .slice a n c] 24 (0, 0))] : Pcs) ++ []) rfl ?_
              refine rl_call (met_some rfl rfl (decide_eq_false cc26)) (first := []) (cap := []) rfl rfl fC29 (R := fun v_ h_ => ∃ w27 : Value, ∃ X28 : Pcs, v_ = .agg #[.int .i64 (size), .int .i64 (start), w27] ∧ (OwnS 38 3 w27 (dcs (wanted k (((spareR size start ds k).1) + 1) ds)) X28) ∧ St h [] p h_ (([(b4, .cells #[.int .i64 (levLo size start ds k.toNat), .int .i64 (levHi size start ds k.toNat)] 36 (0, 0)), (b1, .cells #[.int .i64 (size), .int .i64 (start), .slice a n c] 24 (0, 0))] : Pcs) ++ (X28 ++ []))) (fun h_ H_ => (c29i (fun b_ o_ e_ => H_.per b_ o_ e_) D (by omega) (.main true) hday (by omega)).mono fun v_ h2_ ⟨w27, X28, e_, o29, N_⟩ => ⟨w27, X28, e_, o29, H_.callNA N_⟩) fun v_ => ?_
              refine rl_ex fun w27 => rl_ex fun X28 => rl_and fun ev_ => rl_and fun o29 => ?_
              have ev_ := ev_.symm; subst ev_
              refine rl_own (L' := ([(b4, .cells #[.int .i64 (levLo size start ds k.toNat), .int .i64 (levHi size start ds k.toNat)] 36 (0, 0)), (b1, .cells #[.int .i64 (size), .int .i64 (start), .slice a n c] 24 (0, 0))] : Pcs) ++ (X28 ++ [])) rfl ?_
              refine rl_norm (tm' := [_,_,_,_,_,_,_,_,_,_,_,_,_,_,_,_,_,_,_,_,_,_,_,_,_,_,_,_,_,_,_,_,_,_,_,_,_,_,_,_,_,_,_,_,_,_,_,_,_,_,_,_,_,_,_,_,_,_,_,_,_,_,_,_,_,_,_,_,_,_,_,_,_,_,_,_,_,_,_,_,_,_,_,_,_,_,_,_,_,_,_,_,_,_,_,_,_,_,_,_,_,_,_,_,_,_,_,_,_,_,_,_]) rfl ?_
              refine rl_lastN (A := ([(b4, .cells #[.int .i64 (levLo size start ds k.toNat), .int .i64 (levHi size start ds k.toNat)] 36 (0, 0)), (b1, .cells #[.int .i64 (size), .int .i64 (start), .slice a n c] 24 (0, 0))] : Pcs)) o29 (show (dcs (wanted k (((spareR size start ds k).1) + 1) ds)).length = n by rw [dcs_length, wanted_length]; omega) fun p30 a31 cp32 le33 ev_ D34 => ?_
              subst ev_
              refine rl_own (L' := [(b4, .cells #[.int .i64 (levLo size start ds k.toNat), .int .i64 (levHi size start ds k.toNat)] 36 (0, 0)), (b1, .cells #[.int .i64 (size), .int .i64 (start), .slice a n c] 24 (0, 0))]) rfl ?_
              refine rl_calld (met_some rfl rfl (decide_eq_false cc26)) (first := []) (cap := []) rfl rfl fC24 (fun h_ H_ => c24 _ _ (fun b_ o_ e_ => H_.per b_ o_ e_) (size) (start) _ _ _ _ (show Days _ _ _ (wanted k (((spareR size start ds k).1) + 1) ds) from D34) (by omega)) (tm' := [_,_,_,_,_,_,_,_,_,_,_,_,_,_,_,_,_,_,_,_,_,_,_,_,_,_,_,_,_,_,_,_,_,_,_,_,_,_,_,_,_,_,_,_,_,_,_,_,_,_,_,_,_,_,_,_,_,_,_,_,_,_,_,_,_,_,_,_,_,_,_,_,_,_,_,_,_,_,_,_,_,_,_,_,_,_,_,_,_,_,_,_,_,_,_,_,_,_,_,_,_,_,_,_,_,_,_,_,_,_,_,_]) rfl ?_
              refine rl_det (met_some rfl rfl (decide_eq_false cc26)) (fun h_ H_ => exd_not rfl) (tm' := [_,_,_,_,_,_,_,_,_,_,_,_,_,_,_,_,_,_,_,_,_,_,_,_,_,_,_,_,_,_,_,_,_,_,_,_,_,_,_,_,_,_,_,_,_,_,_,_,_,_,_,_,_,_,_,_,_,_,_,_,_,_,_,_,_,_,_,_,_,_,_,_,_,_,_,_,_,_,_,_,_,_,_,_,_,_,_,_,_,_,_,_,_,_,_,_,_,_,_,_,_,_,_,_,_,_,_,_,_,_,_,_]) rfl ?_
              refine rl_det (met_none rfl) (fun h_ H_ => exd_pick_f rfl (decide_eq_false cc26) (v := .bool (!(decide (Ok size start (wanted k (((spareR size start ds k).1) + 1) ds) ∧ Lasts size start (wanted k (((spareR size start ds k).1) + 1) ds))))) rfl) (tm' := [_,_,_,_,_,_,_,_,_,_,_,_,_,_,_,_,_,_,_,_,_,_,_,_,_,_,_,_,_,_,_,_,_,_,_,_,_,_,_,_,_,_,_,_,_,_,_,_,_,_,_,_,_,_,_,_,_,_,_,_,_,_,_,_,_,_,_,_,_,_,_,_,_,_,_,_,_,_,_,_,_,_,_,_,_,_,_,_,_,_,_,_,_,_,_,_,_,_,_,_,_,_,_,_,_,_,_,_,_,_,_,_]) rfl ?_
              refine rl_det (met_none rfl) (fun h_ H_ => exd_move (v := .bool (!(decide (Ok size start (wanted k (((spareR size start ds k).1) + 1) ds) ∧ Lasts size start (wanted k (((spareR size start ds k).1) + 1) ds))))) rfl) (tm' := [_,_,_,_,_,_,_,_,_,_,_,_,_,_,_,_,_,_,_,_,_,_,_,_,_,_,_,_,_,_,_,_,_,_,_,_,_,_,_,_,_,_,_,_,_,_,_,_,_,_,_,_,_,_,_,_,_,_,_,_,_,_,_,_,_,_,_,_,_,_,_,_,_,_,_,_,_,_,_,_,_,_,_,_,_,_,_,_,_,_,_,_,_,_,_,_,_,_,_,_,_,_,_,_,_,_,_,_,_,_,_,_]) rfl ?_
              refine rl_calld (met_some rfl rfl (not_t (decide_eq_false (fun h_ => hS5 h_.2)))) (first := []) (cap := []) rfl rfl fC18 (fun h_ H_ => c18 _) (tm' := [_,_,_,_,_,_,_,_,_,_,_,_,_,_,_,_,_,_,_,_,_,_,_,_,_,_,_,_,_,_,_,_,_,_,_,_,_,_,_,_,_,_,_,_,_,_,_,_,_,_,_,_,_,_,_,_,_,_,_,_,_,_,_,_,_,_,_,_,_,_,_,_,_,_,_,_,_,_,_,_,_,_,_,_,_,_,_,_,_,_,_,_,_,_,_,_,_,_,_,_,_,_,_,_,_,_,_,_,_,_,_,_]) rfl ?_
              refine rl_det (met_none rfl) (fun h_ H_ => exd_pick_t rfl (not_t (decide_eq_false (fun h_ => hS5 h_.2))) (v := .bool (true)) rfl) (tm' := [_,_,_,_,_,_,_,_,_,_,_,_,_,_,_,_,_,_,_,_,_,_,_,_,_,_,_,_,_,_,_,_,_,_,_,_,_,_,_,_,_,_,_,_,_,_,_,_,_,_,_,_,_,_,_,_,_,_,_,_,_,_,_,_,_,_,_,_,_,_,_,_,_,_,_,_,_,_,_,_,_,_,_,_,_,_,_,_,_,_,_,_,_,_,_,_,_,_,_,_,_,_,_,_,_,_,_,_,_,_,_,_]) rfl ?_
              refine rl_det (met_none rfl) (fun h_ H_ => exd_assign (v := .bool (true)) rfl) (tm' := _::_::_::_::_::_) rfl ?_
              refine rl_end ?_
              refine fl_retE (by kernel_rfl) Try.func6 rfl (vs := [.bool (true)]) (fun h_ H_ => ⟨.bool (true), _, rfl, rfl, rfl⟩) (v := .bool (true)) rfl ?_
              exact fun h_ H_ => K _ _ ⟨rfl, H_.kept⟩
        · refine rl_pass (met_not rfl rfl (decide_eq_false cc7)) (tm' := _::_::_::_::_::_::_::_::_::_::_::_::_::_::_::_::_::_::_::_::_::_::_::_::_::_::_::_::_::_::_::_::_::_::_::_::_::_::_::_::_::_::_::_::_::_::_::_::_::_::_::_::_::_::_::_::_::_::_::_::_::_::_::_::_::_::_::_::_::_::_::_::_::_) rfl ?_
          refine rl_pass (met_not rfl rfl (decide_eq_false cc7)) (tm' := _::_::_::_::_::_::_::_::_::_::_::_::_::_::_::_::_::_::_::_::_::_::_::_::_::_::_::_::_::_::_::_::_::_::_::_::_::_::_::_::_::_::_::_::_::_::_::_::_::_::_::_::_::_::_::_::_::_::_::_::_::_::_::_::_::_::_::_::_::_::_::_::_::_::_) rfl ?_
          refine rl_pass (met_not rfl rfl (decide_eq_false cc7)) (tm' := [_,_,_,_,_,_,_,_,_,_,_,_,_,_,_,_,_,_,_,_,_,_,_,_,_,_,_,_,_,_,_,_,_,_,_,_,_,_,_,_,_,_,_,_,_,_,_,_,_,_,_,_,_,_,_,_,_,_,_,_,_,_,_,_,_,_,_,_,_,_,_,_,_,_,_,_,_,_,_,_,_,_,_,_,_,_,_,_,_,_,_,_,_,_,_,_,_,_,_,_,_,_,_,_,_,_,_,_,_,_,_,_]) rfl ?_
          refine rl_pass (met_not rfl rfl (decide_eq_false cc7)) (tm' := [_,_,_,_,_,_,_,_,_,_,_,_,_,_,_,_,_,_,_,_,_,_,_,_,_,_,_,_,_,_,_,_,_,_,_,_,_,_,_,_,_,_,_,_,_,_,_,_,_,_,_,_,_,_,_,_,_,_,_,_,_,_,_,_,_,_,_,_,_,_,_,_,_,_,_,_,_,_,_,_,_,_,_,_,_,_,_,_,_,_,_,_,_,_,_,_,_,_,_,_,_,_,_,_,_,_,_,_,_,_,_,_]) rfl ?_
          refine rl_det (met_some rfl rfl (decide_eq_false (by omega))) (fun h_ H_ => exd_pick_f rfl (decide_eq_false cc7) (v := .bool (false)) rfl) (tm' := [_,_,_,_,_,_,_,_,_,_,_,_,_,_,_,_,_,_,_,_,_,_,_,_,_,_,_,_,_,_,_,_,_,_,_,_,_,_,_,_,_,_,_,_,_,_,_,_,_,_,_,_,_,_,_,_,_,_,_,_,_,_,_,_,_,_,_,_,_,_,_,_,_,_,_,_,_,_,_,_,_,_,_,_,_,_,_,_,_,_,_,_,_,_,_,_,_,_,_,_,_,_,_,_,_,_,_,_,_,_,_,_]) rfl ?_
          refine rl_det (met_none rfl) (fun h_ H_ => exd_pick_f rfl (decide_eq_false (by omega)) (v := .bool (false)) rfl) (tm' := [_,_,_,_,_,_,_,_,_,_,_,_,_,_,_,_,_,_,_,_,_,_,_,_,_,_,_,_,_,_,_,_,_,_,_,_,_,_,_,_,_,_,_,_,_,_,_,_,_,_,_,_,_,_,_,_,_,_,_,_,_,_,_,_,_,_,_,_,_,_,_,_,_,_,_,_,_,_,_,_,_,_,_,_,_,_,_,_,_,_,_,_,_,_,_,_,_,_,_,_,_,_,_,_,_,_,_,_,_,_,_,_]) rfl ?_
          refine rl_end ?_
          refine fl_else rfl rfl ?_
          refine fl_skip ?_
          refine fl_seq ?_
          refine rl_start ?_
          refine rl_det (met_none rfl) (fun h_ H_ => exd_fieldAddr tF24_2 rfl (a' := ⟨b1, 2, none⟩) rfl) (tm' := [_,_,_,_,_,_,_,_,_,_,_,_,_,_,_,_,_,_,_,_,_,_,_,_,_,_,_,_,_,_,_,_,_,_,_,_,_,_,_,_,_,_,_,_,_,_,_,_,_,_,_,_,_,_,_,_,_,_,_,_,_,_,_,_,_,_,_,_,_,_,_,_,_,_,_,_,_,_,_,_,_,_,_,_,_,_,_,_,_,_,_,_,_,_,_,_,_,_,_,_,_,_,_,_,_,_,_,_,_,_,_,_]) rfl ?_
          refine rl_det (met_none rfl) (fun h_ H_ => exd_load_own H_ tA22 rfl (i := 1) rfl (v := .slice a n c) rfl) (tm' := [_,_,_,_,_,_,_,_,_,_,_,_,_,_,_,_,_,_,_,_,_,_,_,_,_,_,_,_,_,_,_,_,_,_,_,_,_,_,_,_,_,_,_,_,_,_,_,_,_,_,_,_,_,_,_,_,_,_,_,_,_,_,_,_,_,_,_,_,_,_,_,_,_,_,_,_,_,_,_,_,_,_,_,_,_,_,_,_,_,_,_,_,_,_,_,_,_,_,_,_,_,_,_,_,_,_,_,_,_,_,_,_]) rfl ?_
          refine rl_det (met_none rfl) (fun h_ H_ => exd_move (v := .int .i64 (k)) rfl) (tm' := [_,_,_,_,_,_,_,_,_,_,_,_,_,_,_,_,_,_,_,_,_,_,_,_,_,_,_,_,_,_,_,_,_,_,_,_,_,_,_,_,_,_,_,_,_,_,_,_,_,_,_,_,_,_,_,_,_,_,_,_,_,_,_,_,_,_,_,_,_,_,_,_,_,_,_,_,_,_,_,_,_,_,_,_,_,_,_,_,_,_,_,_,_,_,_,_,_,_,_,_,_,_,_,_,_,_,_,_,_,_,_,_]) rfl ?_
          refine rl_det (met_none rfl) (fun h_ H_ => exd_indexAddr Try.underlying22 tS38 (sl_ne a n c (D.ne (by omega))) rfl (by omega) (by omega) (a' := (adr a).add ((k).toNat * 3)) rfl) (tm' := [_,_,_,_,_,_,_,_,_,_,_,_,_,_,_,_,_,_,_,_,_,_,_,_,_,_,_,_,_,_,_,_,_,_,_,_,_,_,_,_,_,_,_,_,_,_,_,_,_,_,_,_,_,_,_,_,_,_,_,_,_,_,_,_,_,_,_,_,_,_,_,_,_,_,_,_,_,_,_,_,_,_,_,_,_,_,_,_,_,_,_,_,_,_,_,_,_,_,_,_,_,_,_,_,_,_,_,_,_,_,_,_]) rfl ?_
          refine rl_det (met_none rfl) (fun h_ H_ => exd_fieldAddr tF38_1 rfl (a' := ((adr a).add ((k).toNat * 3)).add 2) rfl) (tm' := [_,_,_,_,_,_,_,_,_,_,_,_,_,_,_,_,_,_,_,_,_,_,_,_,_,_,_,_,_,_,_,_,_,_,_,_,_,_,_,_,_,_,_,_,_,_,_,_,_,_,_,_,_,_,_,_,_,_,_,_,_,_,_,_,_,_,_,_,_,_,_,_,_,_,_,_,_,_,_,_,_,_,_,_,_,_,_,_,_,_,_,_,_,_,_,_,_,_,_,_,_,_,_,_,_,_,_,_,_,_,_,_]) rfl ?_
          refine rl_det (met_none rfl) (fun h_ H_ => exd_load_per H_ tA3 rfl (v := .int .i64 ((ds.getD ((k).toNat) dz).want)) (D.want (by omega))) (tm' := [_,_,_,_,_,_,_,_,_,_,_,_,_,_,_,_,_,_,_,_,_,_,_,_,_,_,_,_,_,_,_,_,_,_,_,_,_,_,_,_,_,_,_,_,_,_,_,_,_,_,_,_,_,_,_,_,_,_,_,_,_,_,_,_,_,_,_,_,_,_,_,_,_,_,_,_,_,_,_,_,_,_,_,_,_,_,_,_,_,_,_,_,_,_,_,_,_,_,_,_,_,_,_,_,_,_,_,_,_,_,_,_]) rfl ?_
          refine rl_det (met_none rfl) (fun h_ H_ => exd_assign (v := .int .i64 ((ds.getD ((k).toNat) dz).want)) rfl) (tm' := _::_::_::_::_::_::_::_::_::_::_) rfl ?_
          refine rl_end ?_
          refine fl_seq ?_
          refine fl_seq ?_
          refine rl_start ?_
          refine rl_det (met_none rfl) (fun h_ H_ => exd_move (v := .int .i64 ((ds.getD ((k).toNat) dz).want)) rfl) (tm' := [_,_,_,_,_,_,_,_,_,_,_,_,_,_,_,_,_,_,_,_,_,_,_,_,_,_,_,_,_,_,_,_,_,_,_,_,_,_,_,_,_,_,_,_,_,_,_,_,_,_,_,_,_,_,_,_,_,_,_,_,_,_,_,_,_,_,_,_,_,_,_,_,_,_,_,_,_,_,_,_,_,_,_,_,_,_,_,_,_,_,_,_,_,_,_,_,_,_,_,_,_,_,_,_,_,_,_,_,_,_,_,_]) rfl ?_
          refine rl_det (met_none rfl) (fun h_ H_ => exd_move (v := .int .i64 ((spareR size start ds k).1)) rfl) (tm' := [_,_,_,_,_,_,_,_,_,_,_,_,_,_,_,_,_,_,_,_,_,_,_,_,_,_,_,_,_,_,_,_,_,_,_,_,_,_,_,_,_,_,_,_,_,_,_,_,_,_,_,_,_,_,_,_,_,_,_,_,_,_,_,_,_,_,_,_,_,_,_,_,_,_,_,_,_,_,_,_,_,_,_,_,_,_,_,_,_,_,_,_,_,_,_,_,_,_,_,_,_,_,_,_,_,_,_,_,_,_,_,_]) rfl ?_
          refine rl_det (met_none rfl) (fun h_ H_ => exd_add rfl rfl (wr (by omega))) (tm' := [_,_,_,_,_,_,_,_,_,_,_,_,_,_,_,_,_,_,_,_,_,_,_,_,_,_,_,_,_,_,_,_,_,_,_,_,_,_,_,_,_,_,_,_,_,_,_,_,_,_,_,_,_,_,_,_,_,_,_,_,_,_,_,_,_,_,_,_,_,_,_,_,_,_,_,_,_,_,_,_,_,_,_,_,_,_,_,_,_,_,_,_,_,_,_,_,_,_,_,_,_,_,_,_,_,_,_,_,_,_,_,_]) rfl ?_
          refine rl_det (met_none rfl) (fun h_ H_ => exd_leq rfl rfl) (tm' := [_,_,_,_,_,_,_,_,_,_,_,_,_,_,_,_,_,_,_,_,_,_,_,_,_,_,_,_,_,_,_,_,_,_,_,_,_,_,_,_,_,_,_,_,_,_,_,_,_,_,_,_,_,_,_,_,_,_,_,_,_,_,_,_,_,_,_,_,_,_,_,_,_,_,_,_,_,_,_,_,_,_,_,_,_,_,_,_,_,_,_,_,_,_,_,_,_,_,_,_,_,_,_,_,_,_,_,_,_,_,_,_]) rfl ?_
          refine rl_det (met_none rfl) (fun h_ H_ => exd_move (v := .bool (decide (((ds.getD ((k).toNat) dz).want) + ((spareR size start ds k).1) ≤ 20))) rfl) (tm' := [_,_,_,_,_,_,_,_,_,_,_,_,_,_,_,_,_,_,_,_,_,_,_,_,_,_,_,_,_,_,_,_,_,_,_,_,_,_,_,_,_,_,_,_,_,_,_,_,_,_,_,_,_,_,_,_,_,_,_,_,_,_,_,_,_,_,_,_,_,_,_,_,_,_,_,_,_,_,_,_,_,_,_,_,_,_,_,_,_,_,_,_,_,_,_,_,_,_,_,_,_,_,_,_,_,_,_,_,_,_,_,_]) rfl ?_
          by_cases cc35 : ((ds.getD ((k).toNat) dz).want) + ((spareR size start ds k).1) ≤ 20
          · refine rl_det (met_some rfl rfl (decide_eq_true cc35)) (fun h_ H_ => exd_loadN_own H_ tA24 tS24 rfl (i := 1) rfl (vs := [.int .i64 (size), .int .i64 (start), .slice a n c]) rfl rfl) (tm' := [_,_,_,_,_,_,_,_,_,_,_,_,_,_,_,_,_,_,_,_,_,_,_,_,_,_,_,_,_,_,_,_,_,_,_,_,_,_,_,_,_,_,_,_,_,_,_,_,_,_,_,_,_,_,_,_,_,_,_,_,_,_,_,_,_,_,_,_,_,_,_,_,_,_,_,_,_,_,_,_,_,_,_,_,_,_,_,_,_,_,_,_,_,_,_,_,_,_,_,_,_,_,_,_,_,_,_,_,_,_,_,_]) rfl ?_
            refine rl_det (met_some rfl rfl (decide_eq_true cc35)) (fun h_ H_ => exd_move (v := .int .i64 (k)) rfl) (tm' := [_,_,_,_,_,_,_,_,_,_,_,_,_,_,_,_,_,_,_,_,_,_,_,_,_,_,_,_,_,_,_,_,_,_,_,_,_,_,_,_,_,_,_,_,_,_,_,_,_,_,_,_,_,_,_,_,_,_,_,_,_,_,_,_,_,_,_,_,_,_,_,_,_,_,_,_,_,_,_,_,_,_,_,_,_,_,_,_,_,_,_,_,_,_,_,_,_,_,_,_,_,_,_,_,_,_,_,_,_,_,_,_]) rfl ?_
            refine rl_det (met_some rfl rfl (decide_eq_true cc35)) (fun h_ H_ => exd_move (v := .int .i64 ((spareR size start ds k).1)) rfl) (tm' := [_,_,_,_,_,_,_,_,_,_,_,_,_,_,_,_,_,_,_,_,_,_,_,_,_,_,_,_,_,_,_,_,_,_,_,_,_,_,_,_,_,_,_,_,_,_,_,_,_,_,_,_,_,_,_,_,_,_,_,_,_,_,_,_,_,_,_,_,_,_,_,_,_,_,_,_,_,_,_,_,_,_,_,_,_,_,_,_,_,_,_,_,_,_,_,_,_,_,_,_,_,_,_,_,_,_,_,_,_,_,_,_]) rfl ?_
            refine rl_own (L' := ([(b4, .cells #[.int .i64 (levLo size start ds k.toNat), .int .i64 (levHi size start ds k.toNat)] 36 (0, 0)), (b1, .cells #[.int .i64 (size), .int .i64 (start), .slice a n c] 24 (0, 0))] : Pcs) ++ []) rfl ?_
            refine rl_call (met_some rfl rfl (decide_eq_true cc35)) (first := []) (cap := []) rfl rfl fC29 (R := fun v_ h_ => ∃ w36 : Value, ∃ X37 : Pcs, v_ = .agg #[.int .i64 (size), .int .i64 (start), w36] ∧ (OwnS 38 3 w36 (dcs (wanted k ((spareR size start ds k).1) ds)) X37) ∧ St h [] p h_ (([(b4, .cells #[.int .i64 (levLo size start ds k.toNat), .int .i64 (levHi size start ds k.toNat)] 36 (0, 0)), (b1, .cells #[.int .i64 (size), .int .i64 (start), .slice a n c] 24 (0, 0))] : Pcs) ++ (X37 ++ []))) (fun h_ H_ => (c29i (fun b_ o_ e_ => H_.per b_ o_ e_) D (by omega) (.main true) hday (by omega)).mono fun v_ h2_ ⟨w36, X37, e_, o38, N_⟩ => ⟨w36, X37, e_, o38, H_.callNA N_⟩) fun v_ => ?_
            refine rl_ex fun w36 => rl_ex fun X37 => rl_and fun ev_ => rl_and fun o38 => ?_
            have ev_ := ev_.symm; subst ev_
            refine rl_own (L' := ([(b4, .cells #[.int .i64 (levLo size start ds k.toNat), .int .i64 (levHi size start ds k.toNat)] 36 (0, 0)), (b1, .cells #[.int .i64 (size), .int .i64 (start), .slice a n c] 24 (0, 0))] : Pcs) ++ (X37 ++ [])) rfl ?_
            refine rl_norm (tm' := [_,_,_,_,_,_,_,_,_,_,_,_,_,_,_,_,_,_,_,_,_,_,_,_,_,_,_,_,_,_,_,_,_,_,_,_,_,_,_,_,_,_,_,_,_,_,_,_,_,_,_,_,_,_,_,_,_,_,_,_,_,_,_,_,_,_,_,_,_,_,_,_,_,_,_,_,_,_,_,_,_,_,_,_,_,_,_,_,_,_,_,_,_,_,_,_,_,_,_,_,_,_,_,_,_,_,_,_,_,_,_,_]) rfl ?_
            refine rl_lastN (A := ([(b4, .cells #[.int .i64 (levLo size start ds k.toNat), .int .i64 (levHi size start ds k.toNat)] 36 (0, 0)), (b1, .cells #[.int .i64 (size), .int .i64 (start), .slice a n c] 24 (0, 0))] : Pcs)) o38 (show (dcs (wanted k ((spareR size start ds k).1) ds)).length = n by rw [dcs_length, wanted_length]; omega) fun p39 a40 cp41 le42 ev_ D43 => ?_
            subst ev_
            refine rl_own (L' := [(b4, .cells #[.int .i64 (levLo size start ds k.toNat), .int .i64 (levHi size start ds k.toNat)] 36 (0, 0)), (b1, .cells #[.int .i64 (size), .int .i64 (start), .slice a n c] 24 (0, 0))]) rfl ?_
            refine rl_calld (met_some rfl rfl (decide_eq_true cc35)) (first := []) (cap := []) rfl rfl fC24 (fun h_ H_ => c24 _ _ (fun b_ o_ e_ => H_.per b_ o_ e_) (size) (start) _ _ _ _ (show Days _ _ _ (wanted k ((spareR size start ds k).1) ds) from D43) (by omega)) (tm' := [_,_,_,_,_,_,_,_,_,_,_,_,_,_,_,_,_,_,_,_,_,_,_,_,_,_,_,_,_,_,_,_,_,_,_,_,_,_,_,_,_,_,_,_,_,_,_,_,_,_,_,_,_,_,_,_,_,_,_,_,_,_,_,_,_,_,_,_,_,_,_,_,_,_,_,_,_,_,_,_,_,_,_,_,_,_,_,_,_,_,_,_,_,_,_,_,_,_,_,_,_,_,_,_,_,_,_,_,_,_,_,_]) rfl ?_
            refine rl_det (met_some rfl rfl (decide_eq_true cc35)) (fun h_ H_ => exd_not rfl) (tm' := [_,_,_,_,_,_,_,_,_,_,_,_,_,_,_,_,_,_,_,_,_,_,_,_,_,_,_,_,_,_,_,_,_,_,_,_,_,_,_,_,_,_,_,_,_,_,_,_,_,_,_,_,_,_,_,_,_,_,_,_,_,_,_,_,_,_,_,_,_,_,_,_,_,_,_,_,_,_,_,_,_,_,_,_,_,_,_,_,_,_,_,_,_,_,_,_,_,_,_,_,_,_,_,_,_,_,_,_,_,_,_,_]) rfl ?_
            refine rl_det (met_none rfl) (fun h_ H_ => exd_pick_t rfl (decide_eq_true cc35) (v := .bool (!(decide (Ok size start (wanted k ((spareR size start ds k).1) ds) ∧ Lasts size start (wanted k ((spareR size start ds k).1) ds))))) rfl) (tm' := [_,_,_,_,_,_,_,_,_,_,_,_,_,_,_,_,_,_,_,_,_,_,_,_,_,_,_,_,_,_,_,_,_,_,_,_,_,_,_,_,_,_,_,_,_,_,_,_,_,_,_,_,_,_,_,_,_,_,_,_,_,_,_,_,_,_,_,_,_,_,_,_,_,_,_,_,_,_,_,_,_,_,_,_,_,_,_,_,_,_,_,_,_,_,_,_,_,_,_,_,_,_,_,_,_,_,_,_,_,_,_,_]) rfl ?_
            refine rl_end ?_
            refine fl_else rfl (not_f (decide_eq_true ⟨wanted_ok hOk (by omega) (by omega), hS4⟩)) ?_
            refine fl_skip ?_
            refine fl_seq ?_
            refine rl_start ?_
            refine rl_det (met_none rfl) (fun h_ H_ => exd_move (v := .int .i64 ((ds.getD ((k).toNat) dz).want)) rfl) (tm' := [_,_,_,_,_,_,_,_,_,_,_,_,_,_,_,_,_,_,_,_,_,_,_,_,_,_,_,_,_,_,_,_,_,_,_,_,_,_,_,_,_,_,_,_,_,_,_,_,_,_,_,_,_,_,_,_,_,_,_,_,_,_,_,_,_,_,_,_,_,_,_,_,_,_,_,_,_,_,_,_,_,_,_,_,_,_,_,_,_,_,_,_,_,_,_,_,_,_,_,_,_,_,_,_,_,_,_,_,_,_,_,_]) rfl ?_
            refine rl_det (met_none rfl) (fun h_ H_ => exd_move (v := .int .i64 ((spareR size start ds k).1)) rfl) (tm' := [_,_,_,_,_,_,_,_,_,_,_,_,_,_,_,_,_,_,_,_,_,_,_,_,_,_,_,_,_,_,_,_,_,_,_,_,_,_,_,_,_,_,_,_,_,_,_,_,_,_,_,_,_,_,_,_,_,_,_,_,_,_,_,_,_,_,_,_,_,_,_,_,_,_,_,_,_,_,_,_,_,_,_,_,_,_,_,_,_,_,_,_,_,_,_,_,_,_,_,_,_,_,_,_,_,_,_,_,_,_,_,_]) rfl ?_
            refine rl_det (met_none rfl) (fun h_ H_ => exd_add rfl rfl (wr (by omega))) (tm' := [_,_,_,_,_,_,_,_,_,_,_,_,_,_,_,_,_,_,_,_,_,_,_,_,_,_,_,_,_,_,_,_,_,_,_,_,_,_,_,_,_,_,_,_,_,_,_,_,_,_,_,_,_,_,_,_,_,_,_,_,_,_,_,_,_,_,_,_,_,_,_,_,_,_,_,_,_,_,_,_,_,_,_,_,_,_,_,_,_,_,_,_,_,_,_,_,_,_,_,_,_,_,_,_,_,_,_,_,_,_,_,_]) rfl ?_
            refine rl_det (met_none rfl) (fun h_ H_ => exd_geq rfl rfl) (tm' := [_,_,_,_,_,_,_,_,_,_,_,_,_,_,_,_,_,_,_,_,_,_,_,_,_,_,_,_,_,_,_,_,_,_,_,_,_,_,_,_,_,_,_,_,_,_,_,_,_,_,_,_,_,_,_,_,_,_,_,_,_,_,_,_,_,_,_,_,_,_,_,_,_,_,_,_,_,_,_,_,_,_,_,_,_,_,_,_,_,_,_,_,_,_,_,_,_,_,_,_,_,_,_,_,_,_,_,_,_,_,_,_]) rfl ?_
            refine rl_det (met_none rfl) (fun h_ H_ => exd_move (v := .bool (decide (20 ≤ ((ds.getD ((k).toNat) dz).want) + ((spareR size start ds k).1)))) rfl) (tm' := [_,_,_,_,_,_,_,_,_,_,_,_,_,_,_,_,_,_,_,_,_,_,_,_,_,_,_,_,_,_,_,_,_,_,_,_,_,_,_,_,_,_,_,_,_,_,_,_,_,_,_,_,_,_,_,_,_,_,_,_,_,_,_,_,_,_,_,_,_,_,_,_,_,_,_,_,_,_,_,_,_,_,_,_,_,_,_,_,_,_,_,_,_,_,_,_,_,_,_,_,_,_,_,_,_,_,_,_,_,_,_,_]) rfl ?_
            by_cases cc44 : 20 ≤ ((ds.getD ((k).toNat) dz).want) + ((spareR size start ds k).1)
            · refine rl_pass (met_not rfl rfl (decide_eq_true cc44)) (tm' := [_,_,_,_,_,_,_,_,_,_,_,_,_,_,_,_,_,_,_,_,_,_,_,_,_,_,_,_,_,_,_,_,_,_,_,_,_,_,_,_,_,_,_,_,_,_,_,_,_,_,_,_,_,_,_,_,_,_,_,_,_,_,_,_,_,_,_,_,_,_,_,_,_,_,_,_,_,_,_,_,_,_,_,_,_,_,_,_,_,_,_,_,_,_,_,_,_,_,_,_,_,_,_,_,_,_,_,_,_,_,_,_]) rfl ?_
              refine rl_pass (met_not rfl rfl (decide_eq_true cc44)) (tm' := [_,_,_,_,_,_,_,_,_,_,_,_,_,_,_,_,_,_,_,_,_,_,_,_,_,_,_,_,_,_,_,_,_,_,_,_,_,_,_,_,_,_,_,_,_,_,_,_,_,_,_,_,_,_,_,_,_,_,_,_,_,_,_,_,_,_,_,_,_,_,_,_,_,_,_,_,_,_,_,_,_,_,_,_,_,_,_,_,_,_,_,_,_,_,_,_,_,_,_,_,_,_,_,_,_,_,_,_,_,_,_,_]) rfl ?_
              refine rl_pass (met_not rfl rfl (decide_eq_true cc44)) (tm' := [_,_,_,_,_,_,_,_,_,_,_,_,_,_,_,_,_,_,_,_,_,_,_,_,_,_,_,_,_,_,_,_,_,_,_,_,_,_,_,_,_,_,_,_,_,_,_,_,_,_,_,_,_,_,_,_,_,_,_,_,_,_,_,_,_,_,_,_,_,_,_,_,_,_,_,_,_,_,_,_,_,_,_,_,_,_,_,_,_,_,_,_,_,_,_,_,_,_,_,_,_,_,_,_,_,_,_,_,_,_,_,_]) rfl ?_
              refine rl_pass (met_not rfl rfl (decide_eq_true cc44)) (tm' := [_,_,_,_,_,_,_,_,_,_,_,_,_,_,_,_,_,_,_,_,_,_,_,_,_,_,_,_,_,_,_,_,_,_,_,_,_,_,_,_,_,_,_,_,_,_,_,_,_,_,_,_,_,_,_,_,_,_,_,_,_,_,_,_,_,_,_,_,_,_,_,_,_,_,_,_,_,_,_,_,_,_,_,_,_,_,_,_,_,_,_,_,_,_,_,_,_,_,_,_,_,_,_,_,_,_,_,_,_,_,_,_]) rfl ?_
              refine rl_pass (met_not rfl rfl (decide_eq_true cc44)) (tm' := [_,_,_,_,_,_,_,_,_,_,_,_,_,_,_,_,_,_,_,_,_,_,_,_,_,_,_,_,_,_,_,_,_,_,_,_,_,_,_,_,_,_,_,_,_,_,_,_,_,_,_,_,_,_,_,_,_,_,_,_,_,_,_,_,_,_,_,_,_,_,_,_,_,_,_,_,_,_,_,_,_,_,_,_,_,_,_,_,_,_,_,_,_,_,_,_,_,_,_,_,_,_,_,_,_,_,_,_,_,_,_,_]) rfl ?_
              refine rl_pass (met_not rfl rfl (decide_eq_true cc44)) (tm' := [_,_,_,_,_,_,_,_,_,_,_,_,_,_,_,_,_,_,_,_,_,_,_,_,_,_,_,_,_,_,_,_,_,_,_,_,_,_,_,_,_,_,_,_,_,_,_,_,_,_,_,_,_,_,_,_,_,_,_,_,_,_,_,_,_,_,_,_,_,_,_,_,_,_,_,_,_,_,_,_,_,_,_,_,_,_,_,_,_,_,_,_,_,_,_,_,_,_,_,_,_,_,_,_,_,_,_,_,_,_,_,_]) rfl ?_
              refine rl_pass (met_not rfl rfl (decide_eq_true cc44)) (tm' := [_,_,_,_,_,_,_,_,_,_,_,_,_,_,_,_,_,_,_,_,_,_,_,_,_,_,_,_,_,_,_,_,_,_,_,_,_,_,_,_,_,_,_,_,_,_,_,_,_,_,_,_,_,_,_,_,_,_,_,_,_,_,_,_,_,_,_,_,_,_,_,_,_,_,_,_,_,_,_,_,_,_,_,_,_,_,_,_,_,_,_,_,_,_,_,_,_,_,_,_,_,_,_,_,_,_,_,_,_,_,_,_]) rfl ?_
              refine rl_det (met_none rfl) (fun h_ H_ => exd_pick_t rfl (decide_eq_true cc44) (v := .bool (true)) rfl) (tm' := [_,_,_,_,_,_,_,_,_,_,_,_,_,_,_,_,_,_,_,_,_,_,_,_,_,_,_,_,_,_,_,_,_,_,_,_,_,_,_,_,_,_,_,_,_,_,_,_,_,_,_,_,_,_,_,_,_,_,_,_,_,_,_,_,_,_,_,_,_,_,_,_,_,_,_,_,_,_,_,_,_,_,_,_,_,_,_,_,_,_,_,_,_,_,_,_,_,_,_,_,_,_,_,_,_,_,_,_,_,_,_,_]) rfl ?_
              refine rl_det (met_none rfl) (fun h_ H_ => exd_move (v := .bool (true)) rfl) (tm' := [_,_,_,_,_,_,_,_,_,_,_,_,_,_,_,_,_,_,_,_,_,_,_,_,_,_,_,_,_,_,_,_,_,_,_,_,_,_,_,_,_,_,_,_,_,_,_,_,_,_,_,_,_,_,_,_,_,_,_,_,_,_,_,_,_,_,_,_,_,_,_,_,_,_,_,_,_,_,_,_,_,_,_,_,_,_,_,_,_,_,_,_,_,_,_,_,_,_,_,_,_,_,_,_,_,_,_,_,_,_,_,_]) rfl ?_
              refine rl_calld (met_some rfl rfl rfl) (first := []) (cap := []) rfl rfl fC18 (fun h_ H_ => c18 _) (tm' := [_,_,_,_,_,_,_,_,_,_,_,_,_,_,_,_,_,_,_,_,_,_,_,_,_,_,_,_,_,_,_,_,_,_,_,_,_,_,_,_,_,_,_,_,_,_,_,_,_,_,_,_,_,_,_,_,_,_,_,_,_,_,_,_,_,_,_,_,_,_,_,_,_,_,_,_,_,_,_,_,_,_,_,_,_,_,_,_,_,_,_,_,_,_,_,_,_,_,_,_,_,_,_,_,_,_,_,_,_,_,_,_]) rfl ?_
              refine rl_det (met_none rfl) (fun h_ H_ => exd_pick_t rfl rfl (v := .bool (true)) rfl) (tm' := [_,_,_,_,_,_,_,_,_,_,_,_,_,_,_,_,_,_,_,_,_,_,_,_,_,_,_,_,_,_,_,_,_,_,_,_,_,_,_,_,_,_,_,_,_,_,_,_,_,_,_,_,_,_,_,_,_,_,_,_,_,_,_,_,_,_,_,_,_,_,_,_,_,_,_,_,_,_,_,_,_,_,_,_,_,_,_,_,_,_,_,_,_,_,_,_,_,_,_,_,_,_,_,_,_,_,_,_,_,_,_,_]) rfl ?_
              refine rl_det (met_none rfl) (fun h_ H_ => exd_assign (v := .bool (true)) rfl) (tm' := _::_::_::_::_::_) rfl ?_
              refine rl_end ?_
              refine fl_retE (by kernel_rfl) Try.func6 rfl (vs := [.bool (true)]) (fun h_ H_ => ⟨.bool (true), _, rfl, rfl, rfl⟩) (v := .bool (true)) rfl ?_
              exact fun h_ H_ => K _ _ ⟨rfl, H_.kept⟩
            · refine rl_det (met_some rfl rfl (decide_eq_false cc44)) (fun h_ H_ => exd_loadN_own H_ tA24 tS24 rfl (i := 1) rfl (vs := [.int .i64 (size), .int .i64 (start), .slice a n c]) rfl rfl) (tm' := [_,_,_,_,_,_,_,_,_,_,_,_,_,_,_,_,_,_,_,_,_,_,_,_,_,_,_,_,_,_,_,_,_,_,_,_,_,_,_,_,_,_,_,_,_,_,_,_,_,_,_,_,_,_,_,_,_,_,_,_,_,_,_,_,_,_,_,_,_,_,_,_,_,_,_,_,_,_,_,_,_,_,_,_,_,_,_,_,_,_,_,_,_,_,_,_,_,_,_,_,_,_,_,_,_,_,_,_,_,_,_,_]) rfl ?_
              refine rl_det (met_some rfl rfl (decide_eq_false cc44)) (fun h_ H_ => exd_move (v := .int .i64 (k)) rfl) (tm' := [_,_,_,_,_,_,_,_,_,_,_,_,_,_,_,_,_,_,_,_,_,_,_,_,_,_,_,_,_,_,_,_,_,_,_,_,_,_,_,_,_,_,_,_,_,_,_,_,_,_,_,_,_,_,_,_,_,_,_,_,_,_,_,_,_,_,_,_,_,_,_,_,_,_,_,_,_,_,_,_,_,_,_,_,_,_,_,_,_,_,_,_,_,_,_,_,_,_,_,_,_,_,_,_,_,_,_,_,_,_,_,_]) rfl ?_
              refine rl_det (met_some rfl rfl (decide_eq_false cc44)) (fun h_ H_ => exd_move (v := .int .i64 ((spareR size start ds k).1)) rfl) (tm' := [_,_,_,_,_,_,_,_,_,_,_,_,_,_,_,_,_,_,_,_,_,_,_,_,_,_,_,_,_,_,_,_,_,_,_,_,_,_,_,_,_,_,_,_,_,_,_,_,_,_,_,_,_,_,_,_,_,_,_,_,_,_,_,_,_,_,_,_,_,_,_,_,_,_,_,_,_,_,_,_,_,_,_,_,_,_,_,_,_,_,_,_,_,_,_,_,_,_,_,_,_,_,_,_,_,_,_,_,_,_,_,_]) rfl ?_
              refine rl_det (met_some rfl rfl (decide_eq_false cc44)) (fun h_ H_ => exd_add rfl rfl (wr (by omega))) (tm' := [_,_,_,_,_,_,_,_,_,_,_,_,_,_,_,_,_,_,_,_,_,_,_,_,_,_,_,_,_,_,_,_,_,_,_,_,_,_,_,_,_,_,_,_,_,_,_,_,_,_,_,_,_,_,_,_,_,_,_,_,_,_,_,_,_,_,_,_,_,_,_,_,_,_,_,_,_,_,_,_,_,_,_,_,_,_,_,_,_,_,_,_,_,_,_,_,_,_,_,_,_,_,_,_,_,_,_,_,_,_,_,_]) rfl ?_
              refine rl_own (L' := ([(b4, .cells #[.int .i64 (levLo size start ds k.toNat), .int .i64 (levHi size start ds k.toNat)] 36 (0, 0)), (b1, .cells #[.int .i64 (size), .int .i64 (start), .slice a n c] 24 (0, 0))] : Pcs) ++ []) rfl ?_
              refine rl_call (met_some rfl rfl (decide_eq_false cc44)) (first := []) (cap := []) rfl rfl fC29 (R := fun v_ h_ => ∃ w45 : Value, ∃ X46 : Pcs, v_ = .agg #[.int .i64 (size), .int .i64 (start), w45] ∧ (OwnS 38 3 w45 (dcs (wanted k (((spareR size start ds k).1) + 1) ds)) X46) ∧ St h [] p39 h_ (([(b4, .cells #[.int .i64 (levLo size start ds k.toNat), .int .i64 (levHi size start ds k.toNat)] 36 (0, 0)), (b1, .cells #[.int .i64 (size), .int .i64 (start), .slice a n c] 24 (0, 0))] : Pcs) ++ (X46 ++ []))) (fun h_ H_ => (c29i (fun b_ o_ e_ => H_.per b_ o_ e_) (D.mono le42) (by omega) (.main true) hday (by omega)).mono fun v_ h2_ ⟨w45, X46, e_, o47, N_⟩ => ⟨w45, X46, e_, o47, H_.callNA N_⟩) fun v_ => ?_
              refine rl_ex fun w45 => rl_ex fun X46 => rl_and fun ev_ => rl_and fun o47 => ?_
              have ev_ := ev_.symm; subst ev_
              refine rl_own (L' := ([(b4, .cells #[.int .i64 (levLo size start ds k.toNat), .int .i64 (levHi size start ds k.toNat)] 36 (0, 0)), (b1, .cells #[.int .i64 (size), .int .i64 (start), .slice a n c] 24 (0, 0))] : Pcs) ++ (X46 ++ [])) rfl ?_
              refine rl_norm (tm' := [_,_,_,_,_,_,_,_,_,_,_,_,_,_,_,_,_,_,_,_,_,_,_,_,_,_,_,_,_,_,_,_,_,_,_,_,_,_,_,_,_,_,_,_,_,_,_,_,_,_,_,_,_,_,_,_,_,_,_,_,_,_,_,_,_,_,_,_,_,_,_,_,_,_,_,_,_,_,_,_,_,_,_,_,_,_,_,_,_,_,_,_,_,_,_,_,_,_,_,_,_,_,_,_,_,_,_,_,_,_,_,_]) rfl ?_
              refine rl_lastN (A := ([(b4, .cells #[.int .i64 (levLo size start ds k.toNat), .int .i64 (levHi size start ds k.toNat)] 36 (0, 0)), (b1, .cells #[.int .i64 (size), .int .i64 (start), .slice a n c] 24 (0, 0))] : Pcs)) o47 (show (dcs (wanted k (((spareR size start ds k).1) + 1) ds)).length = n by rw [dcs_length, wanted_length]; omega) fun p48 a49 cp50 le51 ev_ D52 => ?_
              subst ev_
              refine rl_own (L' := [(b4, .cells #[.int .i64 (levLo size start ds k.toNat), .int .i64 (levHi size start ds k.toNat)] 36 (0, 0)), (b1, .cells #[.int .i64 (size), .int .i64 (start), .slice a n c] 24 (0, 0))]) rfl ?_
              refine rl_calld (met_some rfl rfl (decide_eq_false cc44)) (first := []) (cap := []) rfl rfl fC24 (fun h_ H_ => c24 _ _ (fun b_ o_ e_ => H_.per b_ o_ e_) (size) (start) _ _ _ _ (show Days _ _ _ (wanted k (((spareR size start ds k).1) + 1) ds) from D52) (by omega)) (tm' := [_,_,_,_,_,_,_,_,_,_,_,_,_,_,_,_,_,_,_,_,_,_,_,_,_,_,_,_,_,_,_,_,_,_,_,_,_,_,_,_,_,_,_,_,_,_,_,_,_,_,_,_,_,_,_,_,_,_,_,_,_,_,_,_,_,_,_,_,_,_,_,_,_,_,_,_,_,_,_,_,_,_,_,_,_,_,_,_,_,_,_,_,_,_,_,_,_,_,_,_,_,_,_,_,_,_,_,_,_,_,_,_]) rfl ?_
              refine rl_det (met_some rfl rfl (decide_eq_false cc44)) (fun h_ H_ => exd_not rfl) (tm' := [_,_,_,_,_,_,_,_,_,_,_,_,_,_,_,_,_,_,_,_,_,_,_,_,_,_,_,_,_,_,_,_,_,_,_,_,_,_,_,_,_,_,_,_,_,_,_,_,_,_,_,_,_,_,_,_,_,_,_,_,_,_,_,_,_,_,_,_,_,_,_,_,_,_,_,_,_,_,_,_,_,_,_,_,_,_,_,_,_,_,_,_,_,_,_,_,_,_,_,_,_,_,_,_,_,_,_,_,_,_,_,_]) rfl ?_
              refine rl_det (met_none rfl) (fun h_ H_ => exd_pick_f rfl (decide_eq_false cc44) (v := .bool (!(decide (Ok size start (wanted k (((spareR size start ds k).1) + 1) ds) ∧ Lasts size start (wanted k (((spareR size start ds k).1) + 1) ds))))) rfl) (tm' := [_,_,_,_,_,_,_,_,_,_,_,_,_,_,_,_,_,_,_,_,_,_,_,_,_,_,_,_,_,_,_,_,_,_,_,_,_,_,_,_,_,_,_,_,_,_,_,_,_,_,_,_,_,_,_,_,_,_,_,_,_,_,_,_,_,_,_,_,_,_,_,_,_,_,_,_,_,_,_,_,_,_,_,_,_,_,_,_,_,_,_,_,_,_,_,_,_,_,_,_,_,_,_,_,_,_,_,_,_,_,_,_]) rfl ?_
              refine rl_det (met_none rfl) (fun h_ H_ => exd_move (v := .bool (!(decide (Ok size start (wanted k (((spareR size start ds k).1) + 1) ds) ∧ Lasts size start (wanted k (((spareR size start ds k).1) + 1) ds))))) rfl) (tm' := [_,_,_,_,_,_,_,_,_,_,_,_,_,_,_,_,_,_,_,_,_,_,_,_,_,_,_,_,_,_,_,_,_,_,_,_,_,_,_,_,_,_,_,_,_,_,_,_,_,_,_,_,_,_,_,_,_,_,_,_,_,_,_,_,_,_,_,_,_,_,_,_,_,_,_,_,_,_,_,_,_,_,_,_,_,_,_,_,_,_,_,_,_,_,_,_,_,_,_,_,_,_,_,_,_,_,_,_,_,_,_,_]) rfl ?_
              refine rl_calld (met_some rfl rfl (not_t (decide_eq_false (fun h_ => hS5 h_.2)))) (first := []) (cap := []) rfl rfl fC18 (fun h_ H_ => c18 _) (tm' := [_,_,_,_,_,_,_,_,_,_,_,_,_,_,_,_,_,_,_,_,_,_,_,_,_,_,_,_,_,_,_,_,_,_,_,_,_,_,_,_,_,_,_,_,_,_,_,_,_,_,_,_,_,_,_,_,_,_,_,_,_,_,_,_,_,_,_,_,_,_,_,_,_,_,_,_,_,_,_,_,_,_,_,_,_,_,_,_,_,_,_,_,_,_,_,_,_,_,_,_,_,_,_,_,_,_,_,_,_,_,_,_]) rfl ?_
              refine rl_det (met_none rfl) (fun h_ H_ => exd_pick_t rfl (not_t (decide_eq_false (fun h_ => hS5 h_.2))) (v := .bool (true)) rfl) (tm' := [_,_,_,_,_,_,_,_,_,_,_,_,_,_,_,_,_,_,_,_,_,_,_,_,_,_,_,_,_,_,_,_,_,_,_,_,_,_,_,_,_,_,_,_,_,_,_,_,_,_,_,_,_,_,_,_,_,_,_,_,_,_,_,_,_,_,_,_,_,_,_,_,_,_,_,_,_,_,_,_,_,_,_,_,_,_,_,_,_,_,_,_,_,_,_,_,_,_,_,_,_,_,_,_,_,_,_,_,_,_,_,_]) rfl ?_
              refine rl_det (met_none rfl) (fun h_ H_ => exd_assign (v := .bool (true)) rfl) (tm' := _::_::_::_::_::_) rfl ?_
              refine rl_end ?_
              refine fl_retE (by kernel_rfl) Try.func6 rfl (vs := [.bool (true)]) (fun h_ H_ => ⟨.bool (true), _, rfl, rfl, rfl⟩) (v := .bool (true)) rfl ?_
              exact fun h_ H_ => K _ _ ⟨rfl, H_.kept⟩
          · refine rl_pass (met_not rfl rfl (decide_eq_false cc35)) (tm' := [_,_,_,_,_,_,_,_,_,_,_,_,_,_,_,_,_,_,_,_,_,_,_,_,_,_,_,_,_,_,_,_,_,_,_,_,_,_,_,_,_,_,_,_,_,_,_,_,_,_,_,_,_,_,_,_,_,_,_,_,_,_,_,_,_,_,_,_,_,_,_,_,_,_,_,_,_,_,_,_,_,_,_,_,_,_,_,_,_,_,_,_,_,_,_,_,_,_,_,_,_,_,_,_,_,_,_,_,_,_,_,_]) rfl ?_
            refine rl_pass (met_not rfl rfl (decide_eq_false cc35)) (tm' := [_,_,_,_,_,_,_,_,_,_,_,_,_,_,_,_,_,_,_,_,_,_,_,_,_,_,_,_,_,_,_,_,_,_,_,_,_,_,_,_,_,_,_,_,_,_,_,_,_,_,_,_,_,_,_,_,_,_,_,_,_,_,_,_,_,_,_,_,_,_,_,_,_,_,_,_,_,_,_,_,_,_,_,_,_,_,_,_,_,_,_,_,_,_,_,_,_,_,_,_,_,_,_,_,_,_,_,_,_,_,_,_]) rfl ?_
            refine rl_pass (met_not rfl rfl (decide_eq_false cc35)) (tm' := [_,_,_,_,_,_,_,_,_,_,_,_,_,_,_,_,_,_,_,_,_,_,_,_,_,_,_,_,_,_,_,_,_,_,_,_,_,_,_,_,_,_,_,_,_,_,_,_,_,_,_,_,_,_,_,_,_,_,_,_,_,_,_,_,_,_,_,_,_,_,_,_,_,_,_,_,_,_,_,_,_,_,_,_,_,_,_,_,_,_,_,_,_,_,_,_,_,_,_,_,_,_,_,_,_,_,_,_,_,_,_,_]) rfl ?_
            refine rl_pass (met_not rfl rfl (decide_eq_false cc35)) (tm' := [_,_,_,_,_,_,_,_,_,_,_,_,_,_,_,_,_,_,_,_,_,_,_,_,_,_,_,_,_,_,_,_,_,_,_,_,_,_,_,_,_,_,_,_,_,_,_,_,_,_,_,_,_,_,_,_,_,_,_,_,_,_,_,_,_,_,_,_,_,_,_,_,_,_,_,_,_,_,_,_,_,_,_,_,_,_,_,_,_,_,_,_,_,_,_,_,_,_,_,_,_,_,_,_,_,_,_,_,_,_,_,_]) rfl ?_
            refine rl_pass (met_not rfl rfl (decide_eq_false cc35)) (tm' := [_,_,_,_,_,_,_,_,_,_,_,_,_,_,_,_,_,_,_,_,_,_,_,_,_,_,_,_,_,_,_,_,_,_,_,_,_,_,_,_,_,_,_,_,_,_,_,_,_,_,_,_,_,_,_,_,_,_,_,_,_,_,_,_,_,_,_,_,_,_,_,_,_,_,_,_,_,_,_,_,_,_,_,_,_,_,_,_,_,_,_,_,_,_,_,_,_,_,_,_,_,_,_,_,_,_,_,_,_,_,_,_]) rfl ?_
            refine rl_pass (met_not rfl rfl (decide_eq_false cc35)) (tm' := [_,_,_,_,_,_,_,_,_,_,_,_,_,_,_,_,_,_,_,_,_,_,_,_,_,_,_,_,_,_,_,_,_,_,_,_,_,_,_,_,_,_,_,_,_,_,_,_,_,_,_,_,_,_,_,_,_,_,_,_,_,_,_,_,_,_,_,_,_,_,_,_,_,_,_,_,_,_,_,_,_,_,_,_,_,_,_,_,_,_,_,_,_,_,_,_,_,_,_,_,_,_,_,_,_,_,_,_,_,_,_,_]) rfl ?_
            refine rl_det (met_none rfl) (fun h_ H_ => exd_pick_f rfl (decide_eq_false cc35) (v := .bool (false)) rfl) (tm' := [_,_,_,_,_,_,_,_,_,_,_,_,_,_,_,_,_,_,_,_,_,_,_,_,_,_,_,_,_,_,_,_,_,_,_,_,_,_,_,_,_,_,_,_,_,_,_,_,_,_,_,_,_,_,_,_,_,_,_,_,_,_,_,_,_,_,_,_,_,_,_,_,_,_,_,_,_,_,_,_,_,_,_,_,_,_,_,_,_,_,_,_,_,_,_,_,_,_,_,_,_,_,_,_,_,_,_,_,_,_,_,_]) rfl ?_
            refine rl_end ?_
            refine fl_else rfl rfl ?_
            refine fl_skip ?_
            refine fl_seq ?_
            refine rl_start ?_
            refine rl_det (met_none rfl) (fun h_ H_ => exd_move (v := .int .i64 ((ds.getD ((k).toNat) dz).want)) rfl) (tm' := [_,_,_,_,_,_,_,_,_,_,_,_,_,_,_,_,_,_,_,_,_,_,_,_,_,_,_,_,_,_,_,_,_,_,_,_,_,_,_,_,_,_,_,_,_,_,_,_,_,_,_,_,_,_,_,_,_,_,_,_,_,_,_,_,_,_,_,_,_,_,_,_,_,_,_,_,_,_,_,_,_,_,_,_,_,_,_,_,_,_,_,_,_,_,_,_,_,_,_,_,_,_,_,_,_,_,_,_,_,_,_,_]) rfl ?_
            refine rl_det (met_none rfl) (fun h_ H_ => exd_move (v := .int .i64 ((spareR size start ds k).1)) rfl) (tm' := [_,_,_,_,_,_,_,_,_,_,_,_,_,_,_,_,_,_,_,_,_,_,_,_,_,_,_,_,_,_,_,_,_,_,_,_,_,_,_,_,_,_,_,_,_,_,_,_,_,_,_,_,_,_,_,_,_,_,_,_,_,_,_,_,_,_,_,_,_,_,_,_,_,_,_,_,_,_,_,_,_,_,_,_,_,_,_,_,_,_,_,_,_,_,_,_,_,_,_,_,_,_,_,_,_,_,_,_,_,_,_,_]) rfl ?_
            refine rl_det (met_none rfl) (fun h_ H_ => exd_add rfl rfl (wr (by omega))) (tm' := [_,_,_,_,_,_,_,_,_,_,_,_,_,_,_,_,_,_,_,_,_,_,_,_,_,_,_,_,_,_,_,_,_,_,_,_,_,_,_,_,_,_,_,_,_,_,_,_,_,_,_,_,_,_,_,_,_,_,_,_,_,_,_,_,_,_,_,_,_,_,_,_,_,_,_,_,_,_,_,_,_,_,_,_,_,_,_,_,_,_,_,_,_,_,_,_,_,_,_,_,_,_,_,_,_,_,_,_,_,_,_,_]) rfl ?_
            refine rl_det (met_none rfl) (fun h_ H_ => exd_geq rfl rfl) (tm' := [_,_,_,_,_,_,_,_,_,_,_,_,_,_,_,_,_,_,_,_,_,_,_,_,_,_,_,_,_,_,_,_,_,_,_,_,_,_,_,_,_,_,_,_,_,_,_,_,_,_,_,_,_,_,_,_,_,_,_,_,_,_,_,_,_,_,_,_,_,_,_,_,_,_,_,_,_,_,_,_,_,_,_,_,_,_,_,_,_,_,_,_,_,_,_,_,_,_,_,_,_,_,_,_,_,_,_,_,_,_,_,_]) rfl ?_
            refine rl_det (met_none rfl) (fun h_ H_ => exd_move (v := .bool (decide (20 ≤ ((ds.getD ((k).toNat) dz).want) + ((spareR size start ds k).1)))) rfl) (tm' := [_,_,_,_,_,_,_,_,_,_,_,_,_,_,_,_,_,_,_,_,_,_,_,_,_,_,_,_,_,_,_,_,_,_,_,_,_,_,_,_,_,_,_,_,_,_,_,_,_,_,_,_,_,_,_,_,_,_,_,_,_,_,_,_,_,_,_,_,_,_,_,_,_,_,_,_,_,_,_,_,_,_,_,_,_,_,_,_,_,_,_,_,_,_,_,_,_,_,_,_,_,_,_,_,_,_,_,_,_,_,_,_]) rfl ?_
            by_cases cc53 : 20 ≤ ((ds.getD ((k).toNat) dz).want) + ((spareR size start ds k).1)
            · refine rl_pass (met_not rfl rfl (decide_eq_true cc53)) (tm' := [_,_,_,_,_,_,_,_,_,_,_,_,_,_,_,_,_,_,_,_,_,_,_,_,_,_,_,_,_,_,_,_,_,_,_,_,_,_,_,_,_,_,_,_,_,_,_,_,_,_,_,_,_,_,_,_,_,_,_,_,_,_,_,_,_,_,_,_,_,_,_,_,_,_,_,_,_,_,_,_,_,_,_,_,_,_,_,_,_,_,_,_,_,_,_,_,_,_,_,_,_,_,_,_,_,_,_,_,_,_,_,_]) rfl ?_
              refine rl_pass (met_not rfl rfl (decide_eq_true cc53)) (tm' := [_,_,_,_,_,_,_,_,_,_,_,_,_,_,_,_,_,_,_,_,_,_,_,_,_,_,_,_,_,_,_,_,_,_,_,_,_,_,_,_,_,_,_,_,_,_,_,_,_,_,_,_,_,_,_,_,_,_,_,_,_,_,_,_,_,_,_,_,_,_,_,_,_,_,_,_,_,_,_,_,_,_,_,_,_,_,_,_,_,_,_,_,_,_,_,_,_,_,_,_,_,_,_,_,_,_,_,_,_,_,_,_]) rfl ?_
              refine rl_pass (met_not rfl rfl (decide_eq_true cc53)) (tm' := [_,_,_,_,_,_,_,_,_,_,_,_,_,_,_,_,_,_,_,_,_,_,_,_,_,_,_,_,_,_,_,_,_,_,_,_,_,_,_,_,_,_,_,_,_,_,_,_,_,_,_,_,_,_,_,_,_,_,_,_,_,_,_,_,_,_,_,_,_,_,_,_,_,_,_,_,_,_,_,_,_,_,_,_,_,_,_,_,_,_,_,_,_,_,_,_,_,_,_,_,_,_,_,_,_,_,_,_,_,_,_,_]) rfl ?_
              refine rl_pass (met_not rfl rfl (decide_eq_true cc53)) (tm' := [_,_,_,_,_,_,_,_,_,_,_,_,_,_,_,_,_,_,_,_,_,_,_,_,_,_,_,_,_,_,_,_,_,_,_,_,_,_,_,_,_,_,_,_,_,_,_,_,_,_,_,_,_,_,_,_,_,_,_,_,_,_,_,_,_,_,_,_,_,_,_,_,_,_,_,_,_,_,_,_,_,_,_,_,_,_,_,_,_,_,_,_,_,_,_,_,_,_,_,_,_,_,_,_,_,_,_,_,_,_,_,_]) rfl ?_
              refine rl_pass (met_not rfl rfl (decide_eq_true cc53)) (tm' := [_,_,_,_,_,_,_,_,_,_,_,_,_,_,_,_,_,_,_,_,_,_,_,_,_,_,_,_,_,_,_,_,_,_,_,_,_,_,_,_,_,_,_,_,_,_,_,_,_,_,_,_,_,_,_,_,_,_,_,_,_,_,_,_,_,_,_,_,_,_,_,_,_,_,_,_,_,_,_,_,_,_,_,_,_,_,_,_,_,_,_,_,_,_,_,_,_,_,_,_,_,_,_,_,_,_,_,_,_,_,_,_]) rfl ?_
              refine rl_pass (met_not rfl rfl (decide_eq_true cc53)) (tm' := [_,_,_,_,_,_,_,_,_,_,_,_,_,_,_,_,_,_,_,_,_,_,_,_,_,_,_,_,_,_,_,_,_,_,_,_,_,_,_,_,_,_,_,_,_,_,_,_,_,_,_,_,_,_,_,_,_,_,_,_,_,_,_,_,_,_,_,_,_,_,_,_,_,_,_,_,_,_,_,_,_,_,_,_,_,_,_,_,_,_,_,_,_,_,_,_,_,_,_,_,_,_,_,_,_,_,_,_,_,_,_,_]) rfl ?_
              refine rl_pass (met_not rfl rfl (decide_eq_true cc53)) (tm' := [_,_,_,_,_,_,_,_,_,_,_,_,_,_,_,_,_,_,_,_,_,_,_,_,_,_,_,_,_,_,_,_,_,_,_,_,_,_,_,_,_,_,_,_,_,_,_,_,_,_,_,_,_,_,_,_,_,_,_,_,_,_,_,_,_,_,_,_,_,_,_,_,_,_,_,_,_,_,_,_,_,_,_,_,_,_,_,_,_,_,_,_,_,_,_,_,_,_,_,_,_,_,_,_,_,_,_,_,_,_,_,_]) rfl ?_
              refine rl_det (met_none rfl) (fun h_ H_ => exd_pick_t rfl (decide_eq_true cc53) (v := .bool (true)) rfl) (tm' := [_,_,_,_,_,_,_,_,_,_,_,_,_,_,_,_,_,_,_,_,_,_,_,_,_,_,_,_,_,_,_,_,_,_,_,_,_,_,_,_,_,_,_,_,_,_,_,_,_,_,_,_,_,_,_,_,_,_,_,_,_,_,_,_,_,_,_,_,_,_,_,_,_,_,_,_,_,_,_,_,_,_,_,_,_,_,_,_,_,_,_,_,_,_,_,_,_,_,_,_,_,_,_,_,_,_,_,_,_,_,_,_]) rfl ?_
              refine rl_det (met_none rfl) (fun h_ H_ => exd_move (v := .bool (true)) rfl) (tm' := [_,_,_,_,_,_,_,_,_,_,_,_,_,_,_,_,_,_,_,_,_,_,_,_,_,_,_,_,_,_,_,_,_,_,_,_,_,_,_,_,_,_,_,_,_,_,_,_,_,_,_,_,_,_,_,_,_,_,_,_,_,_,_,_,_,_,_,_,_,_,_,_,_,_,_,_,_,_,_,_,_,_,_,_,_,_,_,_,_,_,_,_,_,_,_,_,_,_,_,_,_,_,_,_,_,_,_,_,_,_,_,_]) rfl ?_
              refine rl_calld (met_some rfl rfl rfl) (first := []) (cap := []) rfl rfl fC18 (fun h_ H_ => c18 _) (tm' := [_,_,_,_,_,_,_,_,_,_,_,_,_,_,_,_,_,_,_,_,_,_,_,_,_,_,_,_,_,_,_,_,_,_,_,_,_,_,_,_,_,_,_,_,_,_,_,_,_,_,_,_,_,_,_,_,_,_,_,_,_,_,_,_,_,_,_,_,_,_,_,_,_,_,_,_,_,_,_,_,_,_,_,_,_,_,_,_,_,_,_,_,_,_,_,_,_,_,_,_,_,_,_,_,_,_,_,_,_,_,_,_]) rfl ?_
              refine rl_det (met_none rfl) (fun h_ H_ => exd_pick_t rfl rfl (v := .bool (true)) rfl) (tm' := [_,_,_,_,_,_,_,_,_,_,_,_,_,_,_,_,_,_,_,_,_,_,_,_,_,_,_,_,_,_,_,_,_,_,_,_,_,_,_,_,_,_,_,_,_,_,_,_,_,_,_,_,_,_,_,_,_,_,_,_,_,_,_,_,_,_,_,_,_,_,_,_,_,_,_,_,_,_,_,_,_,_,_,_,_,_,_,_,_,_,_,_,_,_,_,_,_,_,_,_,_,_,_,_,_,_,_,_,_,_,_,_]) rfl ?_
              refine rl_det (met_none rfl) (fun h_ H_ => exd_assign (v := .bool (true)) rfl) (tm' := _::_::_::_::_::_) rfl ?_
              refine rl_end ?_
              refine fl_retE (by kernel_rfl) Try.func6 rfl (vs := [.bool (true)]) (fun h_ H_ => ⟨.bool (true), _, rfl, rfl, rfl⟩) (v := .bool (true)) rfl ?_
              exact fun h_ H_ => K _ _ ⟨rfl, H_.kept⟩
            · refine rl_det (met_some rfl rfl (decide_eq_false cc53)) (fun h_ H_ => exd_loadN_own H_ tA24 tS24 rfl (i := 1) rfl (vs := [.int .i64 (size), .int .i64 (start), .slice a n c]) rfl rfl) (tm' := [_,_,_,_,_,_,_,_,_,_,_,_,_,_,_,_,_,_,_,_,_,_,_,_,_,_,_,_,_,_,_,_,_,_,_,_,_,_,_,_,_,_,_,_,_,_,_,_,_,_,_,_,_,_,_,_,_,_,_,_,_,_,_,_,_,_,_,_,_,_,_,_,_,_,_,_,_,_,_,_,_,_,_,_,_,_,_,_,_,_,_,_,_,_,_,_,_,_,_,_,_,_,_,_,_,_,_,_,_,_,_,_]) rfl ?_
              refine rl_det (met_some rfl rfl (decide_eq_false cc53)) (fun h_ H_ => exd_move (v := .int .i64 (k)) rfl) (tm' := [_,_,_,_,_,_,_,_,_,_,_,_,_,_,_,_,_,_,_,_,_,_,_,_,_,_,_,_,_,_,_,_,_,_,_,_,_,_,_,_,_,_,_,_,_,_,_,_,_,_,_,_,_,_,_,_,_,_,_,_,_,_,_,_,_,_,_,_,_,_,_,_,_,_,_,_,_,_,_,_,_,_,_,_,_,_,_,_,_,_,_,_,_,_,_,_,_,_,_,_,_,_,_,_,_,_,_,_,_,_,_,_]) rfl ?_
              refine rl_det (met_some rfl rfl (decide_eq_false cc53)) (fun h_ H_ => exd_move (v := .int .i64 ((spareR size start ds k).1)) rfl) (tm' := [_,_,_,_,_,_,_,_,_,_,_,_,_,_,_,_,_,_,_,_,_,_,_,_,_,_,_,_,_,_,_,_,_,_,_,_,_,_,_,_,_,_,_,_,_,_,_,_,_,_,_,_,_,_,_,_,_,_,_,_,_,_,_,_,_,_,_,_,_,_,_,_,_,_,_,_,_,_,_,_,_,_,_,_,_,_,_,_,_,_,_,_,_,_,_,_,_,_,_,_,_,_,_,_,_,_,_,_,_,_,_,_]) rfl ?_
              refine rl_det (met_some rfl rfl (decide_eq_false cc53)) (fun h_ H_ => exd_add rfl rfl (wr (by omega))) (tm' := [_,_,_,_,_,_,_,_,_,_,_,_,_,_,_,_,_,_,_,_,_,_,_,_,_,_,_,_,_,_,_,_,_,_,_,_,_,_,_,_,_,_,_,_,_,_,_,_,_,_,_,_,_,_,_,_,_,_,_,_,_,_,_,_,_,_,_,_,_,_,_,_,_,_,_,_,_,_,_,_,_,_,_,_,_,_,_,_,_,_,_,_,_,_,_,_,_,_,_,_,_,_,_,_,_,_,_,_,_,_,_,_]) rfl ?_
              refine rl_own (L' := ([(b4, .cells #[.int .i64 (levLo size start ds k.toNat), .int .i64 (levHi size start ds k.toNat)] 36 (0, 0)), (b1, .cells #[.int .i64 (size), .int .i64 (start), .slice a n c] 24 (0, 0))] : Pcs) ++ []) rfl ?_
              refine rl_call (met_some rfl rfl (decide_eq_false cc53)) (first := []) (cap := []) rfl rfl fC29 (R := fun v_ h_ => ∃ w54 : Value, ∃ X55 : Pcs, v_ = .agg #[.int .i64 (size), .int .i64 (start), w54] ∧ (OwnS 38 3 w54 (dcs (wanted k (((spareR size start ds k).1) + 1) ds)) X55) ∧ St h [] p h_ (([(b4, .cells #[.int .i64 (levLo size start ds k.toNat), .int .i64 (levHi size start ds k.toNat)] 36 (0, 0)), (b1, .cells #[.int .i64 (size), .int .i64 (start), .slice a n c] 24 (0, 0))] : Pcs) ++ (X55 ++ []))) (fun h_ H_ => (c29i (fun b_ o_ e_ => H_.per b_ o_ e_) D (by omega) (.main true) hday (by omega)).mono fun v_ h2_ ⟨w54, X55, e_, o56, N_⟩ => ⟨w54, X55, e_, o56, H_.callNA N_⟩) fun v_ => ?_
              refine rl_ex fun w54 => rl_ex fun X55 => rl_and fun ev_ => rl_and fun o56 => ?_
              have ev_ := ev_.symm; subst ev_
              refine rl_own (L' := ([(b4, .cells #[.int .i64 (levLo size start ds k.toNat), .int .i64 (levHi size start ds k.toNat)] 36 (0, 0)), (b1, .cells #[.int .i64 (size), .int .i64 (start), .slice a n c] 24 (0, 0))] : Pcs) ++ (X55 ++ [])) rfl ?_
              refine rl_norm (tm' := [_,_,_,_,_,_,_,_,_,_,_,_,_,_,_,_,_,_,_,_,_,_,_,_,_,_,_,_,_,_,_,_,_,_,_,_,_,_,_,_,_,_,_,_,_,_,_,_,_,_,_,_,_,_,_,_,_,_,_,_,_,_,_,_,_,_,_,_,_,_,_,_,_,_,_,_,_,_,_,_,_,_,_,_,_,_,_,_,_,_,_,_,_,_,_,_,_,_,_,_,_,_,_,_,_,_,_,_,_,_,_,_]) rfl ?_
              refine rl_lastN (A := ([(b4, .cells #[.int .i64 (levLo size start ds k.toNat), .int .i64 (levHi size start ds k.toNat)] 36 (0, 0)), (b1, .cells #[.int .i64 (size), .int .i64 (start), .slice a n c] 24 (0, 0))] : Pcs)) o56 (show (dcs (wanted k (((spareR size start ds k).1) + 1) ds)).length = n by rw [dcs_length, wanted_length]; omega) fun p57 a58 cp59 le60 ev_ D61 => ?_
              subst ev_
              refine rl_own (L' := [(b4, .cells #[.int .i64 (levLo size start ds k.toNat), .int .i64 (levHi size start ds k.toNat)] 36 (0, 0)), (b1, .cells #[.int .i64 (size), .int .i64 (start), .slice a n c] 24 (0, 0))]) rfl ?_
              refine rl_calld (met_some rfl rfl (decide_eq_false cc53)) (first := []) (cap := []) rfl rfl fC24 (fun h_ H_ => c24 _ _ (fun b_ o_ e_ => H_.per b_ o_ e_) (size) (start) _ _ _ _ (show Days _ _ _ (wanted k (((spareR size start ds k).1) + 1) ds) from D61) (by omega)) (tm' := [_,_,_,_,_,_,_,_,_,_,_,_,_,_,_,_,_,_,_,_,_,_,_,_,_,_,_,_,_,_,_,_,_,_,_,_,_,_,_,_,_,_,_,_,_,_,_,_,_,_,_,_,_,_,_,_,_,_,_,_,_,_,_,_,_,_,_,_,_,_,_,_,_,_,_,_,_,_,_,_,_,_,_,_,_,_,_,_,_,_,_,_,_,_,_,_,_,_,_,_,_,_,_,_,_,_,_,_,_,_,_,_]) rfl ?_
              refine rl_det (met_some rfl rfl (decide_eq_false cc53)) (fun h_ H_ => exd_not rfl) (tm' := [_,_,_,_,_,_,_,_,_,_,_,_,_,_,_,_,_,_,_,_,_,_,_,_,_,_,_,_,_,_,_,_,_,_,_,_,_,_,_,_,_,_,_,_,_,_,_,_,_,_,_,_,_,_,_,_,_,_,_,_,_,_,_,_,_,_,_,_,_,_,_,_,_,_,_,_,_,_,_,_,_,_,_,_,_,_,_,_,_,_,_,_,_,_,_,_,_,_,_,_,_,_,_,_,_,_,_,_,_,_,_,_]) rfl ?_
              refine rl_det (met_none rfl) (fun h_ H_ => exd_pick_f rfl (decide_eq_false cc53) (v := .bool (!(decide (Ok size start (wanted k (((spareR size start ds k).1) + 1) ds) ∧ Lasts size start (wanted k (((spareR size start ds k).1) + 1) ds))))) rfl) (tm' := [_,_,_,_,_,_,_,_,_,_,_,_,_,_,_,_,_,_,_,_,_,_,_,_,_,_,_,_,_,_,_,_,_,_,_,_,_,_,_,_,_,_,_,_,_,_,_,_,_,_,_,_,_,_,_,_,_,_,_,_,_,_,_,_,_,_,_,_,_,_,_,_,_,_,_,_,_,_,_,_,_,_,_,_,_,_,_,_,_,_,_,_,_,_,_,_,_,_,_,_,_,_,_,_,_,_,_,_,_,_,_,_]) rfl ?_
              refine rl_det (met_none rfl) (fun h_ H_ => exd_move (v := .bool (!(decide (Ok size start (wanted k (((spareR size start ds k).1) + 1) ds) ∧ Lasts size start (wanted k (((spareR size start ds k).1) + 1) ds))))) rfl) (tm' := [_,_,_,_,_,_,_,_,_,_,_,_,_,_,_,_,_,_,_,_,_,_,_,_,_,_,_,_,_,_,_,_,_,_,_,_,_,_,_,_,_,_,_,_,_,_,_,_,_,_,_,_,_,_,_,_,_,_,_,_,_,_,_,_,_,_,_,_,_,_,_,_,_,_,_,_,_,_,_,_,_,_,_,_,_,_,_,_,_,_,_,_,_,_,_,_,_,_,_,_,_,_,_,_,_,_,_,_,_,_,_,_]) rfl ?_
              refine rl_calld (met_some rfl rfl (not_t (decide_eq_false (fun h_ => hS5 h_.2)))) (first := []) (cap := []) rfl rfl fC18 (fun h_ H_ => c18 _) (tm' := [_,_,_,_,_,_,_,_,_,_,_,_,_,_,_,_,_,_,_,_,_,_,_,_,_,_,_,_,_,_,_,_,_,_,_,_,_,_,_,_,_,_,_,_,_,_,_,_,_,_,_,_,_,_,_,_,_,_,_,_,_,_,_,_,_,_,_,_,_,_,_,_,_,_,_,_,_,_,_,_,_,_,_,_,_,_,_,_,_,_,_,_,_,_,_,_,_,_,_,_,_,_,_,_,_,_,_,_,_,_,_,_]) rfl ?_
              refine rl_det (met_none rfl) (fun h_ H_ => exd_pick_t rfl (not_t (decide_eq_false (fun h_ => hS5 h_.2))) (v := .bool (true)) rfl) (tm' := [_,_,_,_,_,_,_,_,_,_,_,_,_,_,_,_,_,_,_,_,_,_,_,_,_,_,_,_,_,_,_,_,_,_,_,_,_,_,_,_,_,_,_,_,_,_,_,_,_,_,_,_,_,_,_,_,_,_,_,_,_,_,_,_,_,_,_,_,_,_,_,_,_,_,_,_,_,_,_,_,_,_,_,_,_,_,_,_,_,_,_,_,_,_,_,_,_,_,_,_,_,_,_,_,_,_,_,_,_,_,_,_]) rfl ?_
              refine rl_det (met_none rfl) (fun h_ H_ => exd_assign (v := .bool (true)) rfl) (tm' := _::_::_::_::_::_) rfl ?_
              refine rl_end ?_
              refine fl_retE (by kernel_rfl) Try.func6 rfl (vs := [.bool (true)]) (fun h_ H_ => ⟨.bool (true), _, rfl, rfl, rfl⟩) (v := .bool (true)) rfl ?_
              exact fun h_ H_ => K _ _ ⟨rfl, H_.kept⟩
    · refine fl_then rfl (not_t (decide_eq_false cc3)) ?_
      refine fl_seq ?_
      refine rl_start ?_
      refine rl_calld (met_none rfl) (first := []) (cap := []) rfl rfl fC18 (fun h_ H_ => c18 _) (tm' := _::_::_::_::_::_::_::_::_::_::_::_::_::_::_::_::_::_::_::_::_) rfl ?_
      refine rl_det (met_none rfl) (fun h_ H_ => exd_assign (v := .bool (true)) rfl) (tm' := _::_::_::_::_::_) rfl ?_
      refine rl_end ?_
      refine fl_retE (by kernel_rfl) Try.func6 rfl (vs := [.bool (true)]) (fun h_ H_ => ⟨.bool (true), _, rfl, rfl, rfl⟩) (v := .bool (true)) rfl ?_
      exact fun h_ H_ => K _ _ ⟨rfl, H_.kept⟩
  · refine rl_pass (met_not rfl rfl (not_t (decide_eq_false cc2))) (tm' := _::_::_::_::_::_::_::_::_::_::_::_::_::_::_::_) rfl ?_
    refine rl_pass (met_not rfl rfl (not_t (decide_eq_false cc2))) (tm' := _::_::_::_::_::_::_::_::_::_::_::_::_::_::_::_::_) rfl ?_
    refine rl_pass (met_not rfl rfl (not_t (decide_eq_false cc2))) (tm' := _::_::_::_::_::_::_::_::_::_::_::_::_::_::_::_::_::_) rfl ?_
    refine rl_pass (met_not rfl rfl (not_t (decide_eq_false cc2))) (tm' := _::_::_::_::_::_::_::_::_::_::_::_::_::_::_::_::_::_::_) rfl ?_
    refine rl_det (met_none rfl) (fun h_ H_ => exd_pick_t rfl (not_t (decide_eq_false cc2)) (v := .bool (true)) rfl) (tm' := _::_::_::_::_::_::_::_::_::_::_::_::_::_::_::_::_::_::_::_) rfl ?_
    refine rl_end ?_
    refine fl_then rfl rfl ?_
    refine fl_seq ?_
    refine rl_start ?_
    refine rl_calld (met_none rfl) (first := []) (cap := []) rfl rfl fC18 (fun h_ H_ => c18 _) (tm' := _::_::_::_::_::_::_::_::_::_::_::_::_::_::_::_::_::_::_::_::_) rfl ?_
    refine rl_det (met_none rfl) (fun h_ H_ => exd_assign (v := .bool (true)) rfl) (tm' := _::_::_::_::_::_) rfl ?_
    refine rl_end ?_
    refine fl_retE (by kernel_rfl) Try.func6 rfl (vs := [.bool (true)]) (fun h_ H_ => ⟨.bool (true), _, rfl, rfl, rfl⟩) (v := .bool (true)) rfl ?_
    exact fun h_ H_ => K _ _ ⟨rfl, H_.kept⟩
end Go.Proofs.Ytbmkacnlhlbnjaa
namespace Go.Proofs.Ytbmkacnlhlbnjaa
open Go.X Go.X.Cist Go.Conc Go.RowKit Go.ChangeShapes Go.WideShapes Go.ChangeAt Go.Joins
set_option maxRecDepth 100000

theorem lifted6 (os : Os) (started : os.Started) (H : Type) (enc : TypeId × Value → H) :
    ReturnsInLeavingWide {} Try.checked os 6 .any (Rows.cisternsSpareSpec.pre6 enc Try.prog Try.f6 Rows.cisternsSpareRow.domain false) (Rows.cisternsSpareSpec.post enc Try.prog Try.f6 false true false false) := by
  refine returnsInLeavingWide_of_change_sized (C := Try.checked) pOwn started Try.func6
    (ChangeSpec.witness6 (enc := enc) (C := Try.checked) false ⟨#[], #[.agg #[.int .i64 0, .int .i64 0, .slice none 0 0], .int .i64 0], []⟩ 8 (by kernel_rfl) (by kernel_rfl) (by kernel_rfl) (by kernel_rfl)) ?_
  intro W base args ds gs before hval0 hW _ _ _
  have hval : ∀ (j : Nat) t v, Try.f6.params[j]? = some t → args[j]? = some v → Value.okWide Try.prog W .any base t v := hval0
  have hW2 := hW
  obtain ⟨p, q, hA0, hV, rfl, _, _⟩ := hW2
  have hA : DataW.TrodAll enc Try.prog W 0 (fun _ => true) true Try.f6.params.toList args.toList ds p := hA0
  rw [Try.params6] at hA hval
  obtain ⟨v0, v1, d0, d1, p0, p1, rfl, rfl, _, h0, h1⟩ := trodAll_two hA
  obtain ⟨rfl, rfl⟩ := trodVars_none hV
  obtain ⟨size, start, a, n, c, ds, rfl, D⟩ := open_year (hval 0 24 v0 rfl rfl) h0
  obtain ⟨k, rfl, hk⟩ := open_num (hval 1 3 v1 rfl rfl) h1
  obtain ⟨N, last, o, w2, t2, r1, r2, r3, r4⟩ := good_of_enters (w := W) (e6 (nilV W.heap) (vwP W) (vwP_per W) size start a n c ds D k hk) fun v h2 r => r.2
  refine ⟨N, last, o, w2, t2, r1, r2, r3, r4.mono fun v ⟨hB, h2, e, _⟩ => ?_⟩
  subst e
  exact law_post pLaid rfl (fun t ht => by rw [Try.params6] at ht; revert t; decide +kernel) rfl Try.underlying4 hW rfl hB

theorem cisternsSpareHolds : Rows.CisternsSpareSaid :=
  OpenClaim.holds_of_wide_leaving 6 Try.f6 rfl rfl rfl rfl rfl rfl rfl ⟨rfl, rfl, rfl, rfl, rfl⟩ rfl rfl rfl rfl rfl (by kernel_rfl) Try.func6 (by kernel_rfl)
    (of_decide_eq_true (by kernel_rfl)) (by unfold Func.isWrapper; rw [if_neg (of_decide_eq_false (by kernel_rfl))]; exact ⟨rfl, rfl⟩)
    (fun os started H enc _ => lifted6 os started H enc)

#print axioms cisternsSpareHolds
end Go.Proofs.Ytbmkacnlhlbnjaa
