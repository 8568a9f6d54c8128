/-
  CisternsGreater, for every input: the law returns true and leaves its arguments as they were. No condition.
-/
import Derived.Test.YtbmkacnlhlbnjaaC3x
import Derived.Test.YtbmkacnlhlbnjaaC4
import Derived.Test.YtbmkacnlhlbnjaaRows
import Derived.Test.YtbmkacnlhlbnjaaC6
import Derived.Test.YtbmkacnlhlbnjaaC2
import Derived.Test.YtbmkacnlhlbnjaaC5
namespace Go.Proofs.Ytbmkacnlhlbnjaa
open Go.X Go.X.Cist Go.Conc Go.RowKit Go.ChangeShapes Go.WideShapes Go.ChangeAt Go.Joins

set_option maxRecDepth 100000

theorem pOwn : ownKnob Try.prog.godebug = none := by kernel_rfl
theorem pLaid : laidOutB Try.prog = true := by kernel_rfl
theorem pC3 : Try.prog.cellsOf 3 = 1 := by kernel_rfl
theorem pC24 : Try.prog.cellsOf 24 = 3 := by kernel_rfl
theorem pC36 : Try.prog.cellsOf 36 = 2 := by kernel_rfl
theorem pC38 : Try.prog.cellsOf 38 = 3 := by kernel_rfl

section
variable {H : Type} {enc : TypeId × Value → H} {W : World}
theorem trod_day {m : Nat} {cs : List Value} {y : DataW H × List MemPlace} (h : DataW.trod enc Try.prog W 0 (fun _ => true) true m 38 cs = some y) : ∃ d : Day, cs = d.cells := by
  obtain ⟨y0, y1, n, _, hl, h0, h1⟩ := trod_struct2 Try.underlying38 h
  obtain ⟨z0, z1, n', _, hl', h2, h3⟩ := trod_struct2 Try.underlying36 h0
  rw [pC38] at hl
  obtain ⟨a, ha⟩ := trod_i64 Try.underlying3 h2
  obtain ⟨b, hb⟩ := trod_i64 Try.underlying3 h3
  obtain ⟨c, hc⟩ := trod_i64 Try.underlying3 h1
  match cs, hl with
  | [u, v, w], _ =>
    refine ⟨⟨a, b, c⟩, ?_⟩
    simp [pC36, pC3] at ha hb hc
    simp [Day.cells, ha, hb, hc]
theorem open_days {fuel : Nat} {v : Value} {y : DataW H × List MemPlace} (h : DataW.trod enc Try.prog W 0 (fun _ => true) true fuel 22 [v] = some y) : ∃ a n c ds, v = .slice a n c ∧ Days (vwP W) a n ds := by
  obtain ⟨a, n, c, E, rfl, hQ, s⟩ := open_sl Try.underlying22 pC38 (Q := fun cs => ∃ d : Day, cs = d.cells) (fun m cs y h => trod_day h) h
  obtain ⟨z, hz⟩ := Go.Deep.choose_lt hQ
  refine ⟨a, n, c, (List.range n).map z, rfl, ?_⟩
  have : (List.range n).map E = dcs ((List.range n).map z) := by
    unfold dcs
    rw [List.map_map]
    exact List.map_congr_left fun i hi => hz i (List.mem_range.1 hi)
  unfold Days
  rw [← this]; exact s
theorem open_year {base : Nat} {v : Value} {d : DataW H} {p : List MemPlace} (hv : Value.okWide Try.prog W .any base 24 v) (h : DataW.Trod enc Try.prog W 0 (fun _ => true) true 24 v d p) :
    ∃ size start a n c ds, v = .agg #[.int .i64 size, .int .i64 start, .slice a n c] ∧ Days (vwP W) a n ds := by
  obtain ⟨v0, v1, v2, y0, y1, y2, n, rfl, _, _, h0, h1, h2⟩ := open_agg3 Try.underlying24 (by kernel_rfl) pC24 hv h
  obtain ⟨size, e0⟩ := trod_i64 Try.underlying3 h0
  obtain ⟨start, e1⟩ := trod_i64 Try.underlying3 h1
  obtain ⟨a, n, c, ds, rfl, D⟩ := open_days h2
  obtain rfl : v0 = _ := by simpa using e0
  obtain rfl : v1 = _ := by simpa using e1
  exact ⟨size, start, a, n, c, ds, rfl, D⟩
theorem open_list {base : Nat} {v : Value} {d : DataW H} {p : List MemPlace} (hv : Value.okWide Try.prog W .any base 25 v) (h : DataW.Trod enc Try.prog W 0 (fun _ => true) true 25 v d p) : ∃ a n c xs, v = .slice a n c ∧ Ints (vwP W) a n xs := by
  obtain ⟨a, n, c, rfl⟩ := okWide_slice Try.underlying25 hv
  obtain ⟨fuel, hf⟩ := h
  exact open_intsX Try.underlying25 Try.underlying3 pC3 hf
theorem open_num {base : Nat} {v : Value} {d : DataW H} {p : List MemPlace} (hv : Value.okWide Try.prog W .any base 3 v) (h : DataW.Trod enc Try.prog W 0 (fun _ => true) true 3 v d p) : ∃ n : Int, v = .int .i64 n ∧ (-9223372036854775808 ≤ n ∧ n ≤ 9223372036854775807) := by
  obtain ⟨n, rfl, _, _, hw⟩ := open_int Try.underlying3 hv h
  refine ⟨n, rfl, ?_⟩
  simpa [Lit.wf, IntKind.min, IntKind.max, IntKind.signed, IntKind.bits] using hw
end
end Go.Proofs.Ytbmkacnlhlbnjaa
namespace Go.X.Cist
open Go.X Go.Proofs.Ytbmkacnlhlbnjaa

/-- What is left of a level and what comes, behind a want. -/
theorem lev_succ (size start : Int) (want rain : Nat → Int) (k : Nat) : lev size start want rain (k + 1) = lev size start want rain k + rain k - ovr size start want rain k - (want k - lack size start want rain k) := rfl
theorem sumTo_congr {f g : Nat → Int} : ∀ {k : Nat}, (∀ i, i < k → f i = g i) → sumTo f k = sumTo g k
  | 0, _ => rfl
  | k + 1, h => by simp only [sumTo]; rw [sumTo_congr fun i hi => h i (by omega), h k (by omega)]
theorem sumTo_le {f g : Nat → Int} : ∀ {k : Nat}, (∀ i, i < k → f i ≤ g i) → sumTo f k ≤ sumTo g k
  | 0, _ => Int.le_refl _
  | k + 1, h => by
    have h1 := sumTo_le (k := k) (f := f) (g := g) fun i hi => h i (by omega)
    have h2 := h k (by omega)
    simp only [sumTo]; omega
theorem sum_nums {f : Nat → Int} {n j : Nat} (h : j ≤ n) : sumTo (listOf (nums f n)) j = sumTo f j := sumTo_congr fun i hi => nums_getD (by omega)
theorem sum_at {f : Nat → Int} {n k : Nat} (h : k < n) : sumTo (listOf (nums f n)) (min n (((k : Nat) : Int) + 1).toNat) = sumTo f (k + 1) := by
  rw [show min n (((k : Nat) : Int) + 1).toNat = k + 1 from by omega]; exact sum_nums (by omega)

theorem lack_le {size start : Int} {want rain : Nat → Int} {k : Nat} (h : 0 ≤ lev size start want rain k ∧ lev size start want rain k ≤ size) (hw : 0 ≤ want k) (hr : 0 ≤ rain k) : 0 ≤ lack size start want rain k ∧ lack size start want rain k ≤ want k := by
  unfold lack ovr; omega
theorem ovr_le {size start : Int} {want rain : Nat → Int} {k : Nat} (h : 0 ≤ lev size start want rain k ∧ lev size start want rain k ≤ size) (hr : 0 ≤ rain k) : 0 ≤ ovr size start want rain k ∧ ovr size start want rain k ≤ rain k := by
  unfold ovr; omega

section
variable {size start : Int} {ds : List Day} {xs ys : List Int}
/-- What is known of a day of a valid year in a weather. -/
theorem day_ok (hOk : Ok size start ds) (hW : Weather ds xs) {k : Nat} (hk : k < ds.length) :
    (0 ≤ lev size start (wantOf ds) (listOf xs) k ∧ lev size start (wantOf ds) (listOf xs) k ≤ size) ∧ (0 ≤ levs size start (wantOf ds) (listOf xs) k ∧ levs size start (wantOf ds) (listOf xs) k ≤ size) ∧
    (0 ≤ lack size start (wantOf ds) (listOf xs) k ∧ lack size start (wantOf ds) (listOf xs) k ≤ (ds.getD k dz).want) ∧ (0 ≤ ovr size start (wantOf ds) (listOf xs) k ∧ ovr size start (wantOf ds) (listOf xs) k ≤ 20) ∧ 0 ≤ listOf xs k ∧ listOf xs k ≤ 20 := by
  have h0 := (lok_day hOk.lok hW (k := k) (by omega)).2.1
  have h1 := (lok_day hOk.lok hW (k := k + 1) (by omega)).2.1
  have h2 := (lok_day hOk.lok hW (k := k) (by omega)).2.2 hk
  have h3 : 0 ≤ listOf xs k ∧ listOf xs k ≤ 20 := h2.1
  have h4 := lack_le (want := wantOf ds) (rain := listOf xs) h0 h2.2.1 h3.1
  have h5 := ovr_le (want := wantOf ds) (rain := listOf xs) h0 h3.1
  exact ⟨h0, h1, h4, ⟨h5.1, by omega⟩, h3⟩
theorem overs_ok (hOk : Ok size start ds) (hW : Weather ds xs) {n : Nat} (hl : ds.length = n) (i : Nat) (hi : i < n) : 0 ≤ (nums (ovr size start (wantOf ds) (listOf xs)) n).getD i 0 ∧ (nums (ovr size start (wantOf ds) (listOf xs)) n).getD i 0 ≤ 100 := by
  rw [nums_getD hi]
  have := (day_ok hOk hW (k := i) (by omega)).2.2.2.1
  omega

/-! ### more rain -/
/-! ### nothing is lost -/
theorem balance {want rain : Nat → Int} : ∀ k, start + sumTo rain k = lev size start want rain k + sumTo (fun i => want i - lack size start want rain i) k + sumTo (ovr size start want rain) k
  | 0 => by simp [sumTo, lev]
  | k + 1 => by
    have h := balance (want := want) (rain := rain) k
    rw [lev_succ]; simp only [sumTo]; omega
end
end Go.X.Cist
namespace Go.X.Cist
open Go.X Go.Proofs.Ytbmkacnlhlbnjaa

section
variable {size start size' start' : Int} {want want' rain rain' : Nat → Int} {ds ds' : List Day}

theorem lev_le {n : Nat} (hs : size ≤ size') (hst : start ≤ start') (hw : ∀ i, i < n → want' i ≤ want i) (hr : ∀ i, i < n → rain i ≤ rain' i) : ∀ k, k ≤ n → lev size start want rain k ≤ lev size' start' want' rain' k
  | 0, _ => hst
  | k + 1, hk => by
    have h1 := lev_le hs hst hw hr k (by omega)
    have h2 := hw k (by omega)
    have h3 := hr k (by omega)
    simp only [lev]; omega
theorem lack_ge {n : Nat} (hs : size ≤ size') (hst : start ≤ start') (hw : ∀ i, i < n → want' i ≤ want i) (hr : ∀ i, i < n → rain i ≤ rain' i) (k : Nat) (hk : k < n) : lack size' start' want' rain' k ≤ lack size start want rain k := by
  have h1 := lev_le (want := want) (want' := want') (rain := rain) (rain' := rain') hs hst hw hr k (by omega)
  have h2 := hw k hk
  have h3 := hr k hk
  unfold lack ovr; omega
theorem lev_congr : ∀ k, (∀ i, i < k → want i = want' i) → (∀ i, i < k → rain i = rain' i) → lev size start want rain k = lev size start want' rain' k
  | 0, _, _ => rfl
  | k + 1, hw, hr => by
    have h1 := lev_congr k (fun i hi => hw i (by omega)) fun i hi => hr i (by omega)
    simp only [lev]; rw [h1, hw k (by omega), hr k (by omega)]

/-! ### what lasts -/
theorem lasts_mono (hs : size ≤ size') (hst : min start size ≤ min start' size') (hl : ds'.length = ds.length) (hw : ∀ i, i < ds.length → wantOf ds' i ≤ wantOf ds i) (hr : ∀ i, i < ds.length → loOf ds i ≤ loOf ds' i) (h : Lasts size start ds) : Lasts size' start' ds' := by
  intro i hi
  rw [hl] at hi
  have h1 := h i hi
  have h2 := lack_ge (n := ds.length) hs hst hw hr i hi
  omega
theorem lackDay_dry {i : Nat} (h : i < ds.length) : lackDay ((dryOf size start ds).getD i dz) = decide (0 < lack size (min start size) (wantOf ds) (loOf ds) i) := by
  unfold dryOf; rw [side_getD h]; rfl
theorem lackDay_wet {i : Nat} (h : i < ds.length) : lackDay ((wetOf size start ds).getD i dz) = decide (0 < lack size (min start size) (wantOf ds) (hiOf ds) i) := by
  unfold wetOf; rw [side_getD h]; rfl
theorem dry_spec (hOk : Ok size start ds) : ((dryR size start ds) = (0, 3) ∧ Lasts size start ds) ∨
    ∃ k : Nat, k < ds.length ∧ dryR size start ds = (((k : Nat) : Int), 0) ∧ 0 < lack size (min start size) (wantOf ds) (loOf ds) k ∧ ∀ i, i < k → ¬ 0 < lack size (min start size) (wantOf ds) (loOf ds) i := by
  unfold dryR; rw [if_pos hOk]
  rcases idxF_cases lackDay (dryOf size start ds) with ⟨e, h⟩ | ⟨k, hk, e, h1, h2⟩
  · refine .inl ⟨by rw [e]; rfl, fun i hi => ?_⟩
    have := h i (by rw [dryOf_length]; exact hi)
    rw [lackDay_dry hi] at this
    exact of_decide_eq_false this
  · rw [dryOf_length] at hk
    refine .inr ⟨k, hk, ?_, ?_, fun i hi => ?_⟩
    · rw [e]; unfold noneR; rw [if_neg (by omega)]
    · rw [lackDay_dry hk] at h1; exact of_decide_eq_true h1
    · have := h2 i hi
      rw [lackDay_dry (by omega)] at this
      exact of_decide_eq_false this
theorem must_spec (hOk : Ok size start ds) : ((mustR size start ds) = (0, 3) ∧ ∀ i, i < ds.length → ¬ 0 < lack size (min start size) (wantOf ds) (hiOf ds) i) ∨
    ∃ k : Nat, k < ds.length ∧ mustR size start ds = (((k : Nat) : Int), 0) ∧ 0 < lack size (min start size) (wantOf ds) (hiOf ds) k ∧ ∀ i, i < k → ¬ 0 < lack size (min start size) (wantOf ds) (hiOf ds) i := by
  unfold mustR; rw [if_pos hOk]
  rcases idxF_cases lackDay (wetOf size start ds) with ⟨e, h⟩ | ⟨k, hk, e, h1, h2⟩
  · refine .inl ⟨by rw [e]; rfl, fun i hi => ?_⟩
    have := h i (by rw [wetOf_length]; exact hi)
    rw [lackDay_wet hi] at this
    exact of_decide_eq_false this
  · rw [wetOf_length] at hk
    refine .inr ⟨k, hk, ?_, ?_, fun i hi => ?_⟩
    · rw [e]; unfold noneR; rw [if_neg (by omega)]
    · rw [lackDay_wet hk] at h1; exact of_decide_eq_true h1
    · have := h2 i hi
      rw [lackDay_wet (by omega)] at this
      exact of_decide_eq_false this
/-- The number of a day, or of none. -/
def dayOr (r : Int × Int) : Int := if r.2 = 3 then 8 else r.1
theorem lo_hi (hOk : Ok size start ds) : ∀ i, i < ds.length → loOf ds i ≤ hiOf ds i := fun i hi => (hOk.dok i hi).1.2.1
theorem days_le (hOk : Ok size start ds) : dayOr (dryR size start ds) ≤ dayOr (mustR size start ds) := by
  have hn := hOk.2.2.2.2.1
  have hm : ∀ i, i < ds.length → lack size (min start size) (wantOf ds) (hiOf ds) i ≤ lack size (min start size) (wantOf ds) (loOf ds) i := fun i hi => lack_ge (n := ds.length) (Int.le_refl _) (Int.le_refl _) (fun _ _ => Int.le_refl _) (lo_hi hOk) i hi
  unfold dayOr
  rcases dry_spec hOk with ⟨e, h⟩ | ⟨k, hk, e, h1, h2⟩ <;> rcases must_spec hOk with ⟨e', h'⟩ | ⟨k', hk', e', h1', h2'⟩ <;> rw [e, e']
  · simp
  · exact absurd h1' (by have := h k' hk'; have := hm k' hk'; omega)
  · simp; omega
  · simp
    refine Nat.not_lt.1 fun hlt => ?_
    have := h2 k' (by omega)
    have := hm k' hk'
    omega

theorem day_or (hOk : Ok size start ds) : (dryR size start ds).2 = 3 ∨ ((dryR size start ds).2 = 0 ∧ IsDay ds (dryR size start ds).1) := by
  rcases dry_spec hOk with ⟨e, _⟩ | ⟨k, hk, e, _⟩ <;> rw [e]
  · exact .inl rfl
  · exact .inr ⟨rfl, by show (0 : Int) ≤ (k : Nat); omega, by show ((k : Nat) : Int) < _; omega⟩
theorem must_or (hOk : Ok size start ds) : (mustR size start ds).2 = 3 ∨ ((mustR size start ds).2 = 0 ∧ IsDay ds (mustR size start ds).1) := by
  rcases must_spec hOk with ⟨e, _⟩ | ⟨k, hk, e, _⟩ <;> rw [e]
  · exact .inl rfl
  · exact .inr ⟨rfl, by show (0 : Int) ≤ (k : Nat); omega, by show ((k : Nat) : Int) < _; omega⟩

/-! ### rations -/
theorem rationed_length {r : Int} : (rationed r ds).length = ds.length := wmap_length _ _
theorem rationed_want {r : Int} {i : Nat} (h : i < ds.length) : wantOf (rationed r ds) i = min (wantOf ds i) r := by unfold wantOf rationed; rw [wmap_getD h]
theorem rationed_lo {r : Int} {i : Nat} (h : i < ds.length) : loOf (rationed r ds) i = loOf ds i := by unfold loOf rationed; rw [wmap_getD h]
theorem rationed_less {r r' : Int} (h : r' ≤ r) (x : Lasts size start (rationed r ds)) : Lasts size start (rationed r' ds) := by
  refine lasts_mono (Int.le_refl _) (Int.le_refl _) (by rw [rationed_length, rationed_length]) (fun i hi => ?_) (fun i hi => ?_) x <;> rw [rationed_length] at hi
  · rw [rationed_want hi, rationed_want hi]; omega
  · rw [rationed_lo hi, rationed_lo hi]; exact Int.le_refl _
theorem rat_spec (hs : 0 ≤ size ∧ 0 ≤ start) (hd : Dok ds) : ∀ k : Nat, (0 ≤ ratDown size start ds k ∧ ratDown size start ds k ≤ k) ∧ Lasts size start (rationed (ratDown size start ds k) ds) ∧ ∀ m : Int, ratDown size start ds k < m → m ≤ k → ¬ Lasts size start (rationed m ds)
  | 0 => ⟨⟨Int.le_refl _, Int.le_refl _⟩, lasts_zero hs hd, fun m h1 h2 => absurd h2 (by have : ratDown size start ds 0 = 0 := rfl; omega)⟩
  | k + 1 => by
    have ih := rat_spec hs hd k
    unfold ratDown
    split
    · rename_i h
      exact ⟨⟨by omega, by omega⟩, h, fun m h1 h2 => absurd h2 (by omega)⟩
    · rename_i h
      refine ⟨⟨ih.1.1, by omega⟩, ih.2.1, fun m h1 h2 => ?_⟩
      by_cases e : m = ((k + 1 : Nat) : Int)
      · rw [e]; exact h
      · exact ih.2.2 m h1 (by omega)
theorem rat_iff (hOk : Ok size start ds) {r : Int} (hr : r ≤ 20) : Lasts size start (rationed r ds) ↔ r ≤ ratDown size start ds 20 := by
  have h := rat_spec (size := size) (start := start) ⟨hOk.1, hOk.2.2.1⟩ hOk.dok 20
  constructor
  · intro x
    exact Int.not_lt.1 fun hlt => h.2.2 r hlt hr x
  · intro x
    exact rationed_less x h.2.1
/-! ### sizes and starts -/
theorem upTo_spec {q : Nat → Bool} : ∀ (f k : Nat), (upTo q k f = none ∧ ∀ i, k ≤ i → i < k + f → q i = false) ∨ ∃ n, upTo q k f = some n ∧ k ≤ n ∧ n < k + f ∧ q n = true ∧ ∀ i, k ≤ i → i < n → q i = false
  | 0, k => .inl ⟨rfl, fun i h1 h2 => absurd h2 (by omega)⟩
  | f + 1, k => by
    unfold upTo
    by_cases h : q k = true
    · rw [if_pos h]
      exact .inr ⟨k, rfl, Nat.le_refl _, by omega, h, fun i h1 h2 => absurd h2 (by omega)⟩
    · rw [if_neg h]
      have hk : q k = false := by simpa using h
      rcases upTo_spec f (k + 1) with ⟨e, x⟩ | ⟨n, e, h1, h2, h3, h4⟩
      · refine .inl ⟨e, fun i a b => ?_⟩
        by_cases c : i = k
        · rw [c]; exact hk
        · exact x i (by omega) (by omega)
      · refine .inr ⟨n, e, by omega, by omega, h3, fun i a b => ?_⟩
        by_cases c : i = k
        · rw [c]; exact hk
        · exact h4 i (by omega) b
end
end Go.X.Cist
namespace Go.X.Cist
open Go.X Go.Proofs.Ytbmkacnlhlbnjaa

section
variable {size start size' : Int} {ds : List Day} {day x : Int}
theorem wanted_length : (wanted day x ds).length = ds.length := wmap_length _ _
theorem wanted_want {i : Nat} (h : i < ds.length) : wantOf (wanted day x ds) i = moreF day x i (wantOf ds i) := by unfold wantOf wanted; rw [wmap_getD h]
theorem wanted_lo {i : Nat} (h : i < ds.length) : loOf (wanted day x ds) i = loOf ds i := by unfold loOf wanted; rw [wmap_getD h]
theorem wanted_zero : wanted day 0 ds = ds := by
  refine ext_getD (d := dz) wanted_length fun i hi => ?_
  rw [wanted_length] at hi
  unfold wanted
  rw [wmap_getD hi]
  unfold moreF
  have e : (if ((i : Nat) : Int) = day then (ds.getD i dz).want + 0 else (ds.getD i dz).want) = (ds.getD i dz).want := by split <;> omega
  simp only [e]
/-- No lack on the days ahead of it if the year lasts without more. -/
theorem wanted_before {k : Nat} (hk : k < ds.length) (hlt : ((k : Nat) : Int) ≤ day) : lev size (min start size) (wantOf (wanted day x ds)) (loOf (wanted day x ds)) k = lev size (min start size) (wantOf ds) (loOf ds) k := by
  refine lev_congr k (fun i hi => ?_) fun i hi => ?_
  · rw [wanted_want (by omega)]; unfold moreF; rw [if_neg (by omega)]
  · exact wanted_lo (by omega)

theorem spare_spec (hOk : Ok size start ds) (hday : IsDay ds day) : (spareR size start ds day = (0, 3) ∧ ¬ Lasts size start ds) ∨
    ∃ k : Nat, spareR size start ds day = (((k : Nat) : Int), 0) ∧ Lasts size start ds ∧ k ≤ 60 ∧ (∀ j : Int, 0 ≤ j → j ≤ k → Lasts size start (wanted day j ds)) ∧ ¬ Lasts size start (wanted day (((k : Nat) : Int) + 1) ds) := by
  have h0 : askd size start ds (decide (IsDay ds day)) = 0 := askd_ok hOk (decide_eq_true hday)
  unfold spareR
  rw [if_pos h0]
  by_cases hl : Lasts size start ds
  · rw [if_pos hl]
    have hmore : ∀ m : Int, 60 < m → ¬ Lasts size start (wanted day m ds) := fun m hm => not_lasts_more ⟨hOk.1, hOk.2.1, hOk.2.2.1⟩ hOk.dok hday hm
    unfold spUp
    rcases upTo_spec (q := fun k => decide (¬ Lasts size start (wanted day ((k : Nat) + 1) ds))) 100 0 with ⟨e, h⟩ | ⟨n, e, _, h2, h3, h4⟩
    · exact absurd (of_decide_eq_false (h 60 (by omega) (by omega))) (fun y => y (hmore _ (by omega)))
    · refine .inr ⟨n, by rw [e]; rfl, hl, Nat.not_lt.1 fun hlt => ?_, fun j h5 h6 => ?_, of_decide_eq_true h3⟩
      · exact absurd (of_decide_eq_false (h4 60 (by omega) (by omega))) (fun y => y (hmore _ (by omega)))
      · by_cases c : j = 0
        · rw [c, wanted_zero]; exact hl
        · have := of_decide_eq_false (h4 (j.toNat - 1) (by omega) (by omega))
          rw [show (((j.toNat - 1 : Nat) : Nat) : Int) + 1 = j from by omega] at this
          exact Decidable.not_not.1 this
  · rw [if_neg hl]; exact .inl ⟨rfl, hl⟩
theorem spare_level (hOk : Ok size start ds) (hday : IsDay ds day) (hl : Lasts size start (wanted day x ds)) : x ≤ lev size (min start size) (wantOf ds) (loOf ds) (day.toNat + 1) := by
  obtain ⟨d0, d1⟩ := hday
  have hk : day.toNat < ds.length := by omega
  have h1 := hl day.toNat (by rw [wanted_length]; exact hk)
  have h2 : lev size (min start size) (wantOf (wanted day x ds)) (loOf (wanted day x ds)) day.toNat = _ := wanted_before (start := start) hk (by omega)
  have h3 : wantOf (wanted day x ds) day.toNat = wantOf ds day.toNat + x := by rw [wanted_want hk]; unfold moreF; rw [if_pos (by omega)]
  have h4 : loOf (wanted day x ds) day.toNat = loOf ds day.toNat := wanted_lo hk
  have h5 := (hOk.dok _ hk).2.1
  unfold lack ovr at h1
  rw [h2, h3, h4] at h1
  simp only [lev]
  unfold wantOf at h1 ⊢
  omega
theorem spare_last (hday : IsDay ds day) (hend : day = ds.length - 1) (hls : Lasts size start ds) (hl : ¬ Lasts size start (wanted day (x + 1) ds)) : lev size (min start size) (wantOf ds) (loOf ds) (day.toNat + 1) ≤ x := by
  refine Int.not_lt.1 fun hlt => hl fun i hi => ?_
  obtain ⟨d0, d1⟩ := hday
  rw [wanted_length] at hi
  have h2 : lev size (min start size) (wantOf (wanted day (x + 1) ds)) (loOf (wanted day (x + 1) ds)) i = _ := wanted_before (start := start) hi (by omega)
  have h3 : wantOf (wanted day (x + 1) ds) i = moreF day (x + 1) i (wantOf ds i) := wanted_want hi
  have h4 : loOf (wanted day (x + 1) ds) i = loOf ds i := wanted_lo hi
  have h6 := hls i hi
  unfold lack ovr at h6 ⊢
  rw [h2, h3, h4]
  unfold moreF
  split
  · have e : day.toNat = i := by omega
    rw [e] at hlt
    simp only [lev] at hlt
    omega
  · exact h6
/-- all that the law of the spares asks -/
theorem spare_law (hOk : Ok size start ds) (hday : IsDay ds day) : ((spareR size start ds day).2 = 0 ∨ (spareR size start ds day).2 = 3) ∧ ((spareR size start ds day).2 = 0 ↔ Ok size start ds ∧ Lasts size start ds) ∧
    ((spareR size start ds day).2 = 0 → (0 ≤ (spareR size start ds day).1 ∧ (spareR size start ds day).1 ≤ 60 ∧ (spareR size start ds day).1 ≤ lev size (min start size) (wantOf ds) (loOf ds) (day.toNat + 1) ∧ (day = ds.length - 1 → (spareR size start ds day).1 = lev size (min start size) (wantOf ds) (loOf ds) (day.toNat + 1))) ∧
      Lasts size start (wanted day (spareR size start ds day).1 ds) ∧ ¬ Lasts size start (wanted day ((spareR size start ds day).1 + 1) ds)) := by
  rcases spare_spec hOk hday with ⟨e, h⟩ | ⟨k, e, h1, h2, h3, h4⟩
  · rw [e]; exact ⟨.inr rfl, ⟨fun y => absurd (show (3 : Int) = 0 from y) (by decide), fun y => absurd y.2 h⟩, fun y => absurd (show (3 : Int) = 0 from y) (by decide)⟩
  · rw [e]
    have h5 := h3 k (by omega) (Int.le_refl _)
    have h6 := spare_level hOk hday h5
    refine ⟨.inl rfl, ⟨fun _ => ⟨hOk, h1⟩, fun _ => rfl⟩, fun _ => ⟨⟨by show (0 : Int) ≤ (k : Nat); omega, by show ((k : Nat) : Int) ≤ 60; omega, h6, fun hend => ?_⟩, h5, h4⟩⟩
    have h7 := spare_last hday hend (x := (k : Nat)) h1 h4
    show ((k : Nat) : Int) = _
    omega

/-! ### a greater cistern -/
theorem spare_greater (hOk : Ok size start ds) (hOk' : Ok size' start ds) (hday : IsDay ds day) (hs : size ≤ size') (h : (spareR size start ds day).2 = 0) : (spareR size' start ds day).2 = 0 ∧ (spareR size start ds day).1 ≤ (spareR size' start ds day).1 := by
  have hm : ∀ l, Lasts size start l → Lasts size' start l := fun l y => lasts_mono hs (by omega) rfl (fun _ _ => Int.le_refl _) (fun _ _ => Int.le_refl _) y
  rcases spare_spec hOk hday with ⟨e, _⟩ | ⟨k, e, h1, h2, h3, h4⟩
  · rw [e] at h; exact absurd (show (3 : Int) = 0 from h) (by decide)
  · rcases spare_spec hOk' hday with ⟨_, h'⟩ | ⟨k', e', h1', h2', h3', h4'⟩
    · exact absurd (hm _ h1) h'
    · rw [e, e']
      refine ⟨rfl, ?_⟩
      show ((k : Nat) : Int) ≤ (k' : Nat)
      refine Int.not_lt.1 fun hlt => h4' (hm _ (h3 _ (by omega) (by omega)))
theorem ration_greater (hOk : Ok size start ds) (hOk' : Ok size' start ds) (hs : size ≤ size') : ratDown size start ds 20 ≤ ratDown size' start ds 20 := by
  have h := rat_spec (size := size) (start := start) ⟨hOk.1, hOk.2.2.1⟩ hOk.dok 20
  refine (rat_iff hOk' h.1.2).1 (lasts_mono hs (by omega) rfl (fun _ _ => Int.le_refl _) (fun _ _ => Int.le_refl _) h.2.1)
theorem dry_mono {start' : Int} {ds' : List Day} (hOk : Ok size start ds) (hOk' : Ok size' start' ds') (hl : ds'.length = ds.length) (hm : ∀ i, i < ds.length → lack size' (min start' size') (wantOf ds') (loOf ds') i ≤ lack size (min start size) (wantOf ds) (loOf ds) i) :
    dayOr (dryR size start ds) ≤ dayOr (dryR size' start' ds') := by
  have hn := hOk.2.2.2.2.1
  unfold dayOr
  rcases dry_spec hOk with ⟨e, h⟩ | ⟨k, hk, e, h1, h2⟩ <;> rcases dry_spec hOk' with ⟨e', h'⟩ | ⟨k', hk', e', h1', h2'⟩ <;> rw [e, e']
  · simp
  · exact absurd h1' (by have := h k' (by omega); have := hm k' (by omega); omega)
  · simp; omega
  · simp
    refine Nat.not_lt.1 fun hlt => ?_
    have := h2 k' (by omega)
    have := hm k' (by omega)
    omega
theorem overs_greater {want rain : Nat → Int} {n : Nat} (hs : size ≤ size') (k : Nat) (hk : k ≤ n) : sumTo (ovr size' start want rain) k ≤ sumTo (ovr size start want rain) k := by
  have h1 := balance (size := size) (start := start) (want := want) (rain := rain) k
  have h2 := balance (size := size') (start := start) (want := want) (rain := rain) k
  have h3 := lev_le (start := start) (start' := start) (n := n) (want := want) (want' := want) (rain := rain) (rain' := rain) hs (Int.le_refl _) (fun _ _ => Int.le_refl _) (fun _ _ => Int.le_refl _) k hk
  have h4 : sumTo (fun i => want i - lack size start want rain i) k ≤ sumTo (fun i => want i - lack size' start want rain i) k := sumTo_le fun i hi => by
    have := lack_ge (start := start) (start' := start) (n := n) (want := want) (want' := want) (rain := rain) (rain' := rain) hs (Int.le_refl _) (fun _ _ => Int.le_refl _) (fun _ _ => Int.le_refl _) i (by omega)
    omega
  omega
theorem greater_day {xs : List Int} {k : Int} {n j : Nat} (hk : 0 ≤ k) (hj : j < n) :
    (nums (levs size start (wantOf ds) (listOf xs)) n).getD j 0 ≤ (nums (levs (size + k) start (wantOf ds) (listOf xs)) n).getD j 0 ∧
    (nums (lack (size + k) start (wantOf ds) (listOf xs)) n).getD j 0 ≤ (nums (lack size start (wantOf ds) (listOf xs)) n).getD j 0 ∧
    sumTo (listOf (nums (ovr (size + k) start (wantOf ds) (listOf xs)) n)) (min n (((j : Nat) : Int) + 1).toNat) ≤ sumTo (listOf (nums (ovr size start (wantOf ds) (listOf xs)) n)) (min n (((j : Nat) : Int) + 1).toNat) := by
  rw [nums_getD hj, nums_getD hj, nums_getD hj, nums_getD hj, sum_at hj, sum_at hj]
  exact ⟨lev_le (n := n) (by omega) (Int.le_refl _) (fun _ _ => Int.le_refl _) (fun _ _ => Int.le_refl _) (j + 1) hj, lack_ge (n := n) (by omega) (Int.le_refl _) (fun _ _ => Int.le_refl _) (fun _ _ => Int.le_refl _) j hj, overs_greater (n := n) (by omega) (j + 1) hj⟩
theorem greater_dry {k : Int} (hOk : Ok size start ds) (hOk' : Ok (size + k) start ds) (hk : 0 ≤ k) : dayOr (dryR size start ds) ≤ dayOr (dryR (size + k) start ds) :=
  dry_mono hOk hOk' rfl fun i hi => lack_ge (n := ds.length) (by omega) (by omega) (fun _ _ => Int.le_refl _) (fun _ _ => Int.le_refl _) i hi
end
end Go.X.Cist
namespace Go.Proofs.Ytbmkacnlhlbnjaa
open Go.X Go.X.Cist Go.Conc
set_option maxRecDepth 10000

theorem c19 (md : Md) (h : Heap) (p : PHeap) (hp : Per p h) (size start : Int) (a : Option Addr) (n c : Nat) (ds : List Day) (D : Days p a n ds) (hn : n ≤ 40) (b : Option Addr) (m d : Nat) (xs : List Int) (W : Ints p b m xs) (hm40 : m ≤ 40) (hOk : Ok size start ds) (hW : Weather ds xs) : CallsX Try.prog md 19 #[.agg #[.int .i64 (size), .int .i64 (start), .slice a n c], .slice b m d] h fun v h' => ∃ w1 w2 w3 X1 X2 X3, v = .tuple #[.agg #[w1, w2, w3], .bool true] ∧ OwnS 3 1 w1 (ns (levs size start (wantOf ds) (listOf xs)) n) X1 ∧ OwnS 3 1 w2 (ns (lack size start (wantOf ds) (listOf xs)) n) X2 ∧ OwnS 3 1 w3 (ns (ovr size start (wantOf ds) (listOf xs)) n) X3 ∧ New h h' (X1 ++ (X2 ++ (X3 ++ []))) := by
  refine calls_intro (Φ := fun h_ => St h [] p h_ []) Try.func19 rfl (tm := [_, _, _, _, _, _, _, _, _, _, _, _, _, _, _, _, _, _, _, _, _, _, _, _, _, _, _, _, _, _, _, _, _, _, _, _, _, _, _, _, _, _, _, _, _, _, _, _, _, _, _, _, _, _, _, _, _, _, _, _, _, _, _, _, _, _, _, _, _, _, _, _, _, _, _, _, _, _, _, _, _, _, _, _, _, _, _, _]) rfl ?_ (St.start h _ hp)
  intro c₀ cs Stop K
  have hl := D.len
  refine fl_seq ?_
  refine rl_start ?_
  refine rl_box (met_none rfl) (v := .agg #[.int .i64 (size), .int .i64 (start), .slice a n c]) rfl fun b1 => rl_own (L' := [(b1, .cells #[.int .i64 (size), .int .i64 (start), .slice a n c] 24 (0, 0))]) rfl ?_
  refine rl_alloc (met_none rfl) tZ30 rfl fun b2 => rl_own (L' := [(b2, .cells #[.slice none 0 0, .slice none 0 0, .slice none 0 0] 30 (0, 0)), (b1, .cells #[.int .i64 (size), .int .i64 (start), .slice a n c] 24 (0, 0))]) rfl ?_
  refine rl_det (met_none rfl) (fun h_ H_ => exd_assign (v := .bool (false)) rfl) (tm' := _::_::_::_::_::_::_) rfl ?_
  refine rl_end ?_
  refine fl_seq ?_
  refine rl_start ?_
  refine rl_det (met_none rfl) (fun h_ H_ => exd_loadN_own H_ tA24 tS24 rfl (i := 1) rfl (vs := [.int .i64 (size), .int .i64 (start), .slice a n c]) rfl rfl) rfl ?_
  refine rl_own (L' := ([(b2, .cells #[.slice none 0 0, .slice none 0 0, .slice none 0 0] 30 (0, 0)), (b1, .cells #[.int .i64 (size), .int .i64 (start), .slice a n c] 24 (0, 0))] : Pcs) ++ []) rfl ?_
  refine rl_call (met_none rfl) (first := []) (cap := []) rfl rfl fC30 (R := fun v_ h_ => ∃ w3 : Value, ∃ X4 : Pcs, v_ = .agg #[.int .i64 (size), .int .i64 (start), w3] ∧ (OwnS 38 3 w3 (dcs ds) X4) ∧ St h [] p h_ (([(b2, .cells #[.slice none 0 0, .slice none 0 0, .slice none 0 0] 30 (0, 0)), (b1, .cells #[.int .i64 (size), .int .i64 (start), .slice a n c] 24 (0, 0))] : Pcs) ++ (X4 ++ []))) (fun h_ H_ => (c30 md _ _ (fun b_ o_ e_ => H_.per b_ o_ e_) (size) (start) _ _ _ _ D (by omega)).mono fun v_ h2_ ⟨w3, X4, e_, o5, N_⟩ => ⟨w3, X4, e_, o5, H_.callNA N_⟩) fun v_ => ?_
  refine rl_ex fun w3 => rl_ex fun X4 => rl_and fun ev_ => rl_and fun o5 => ?_
  have ev_ := ev_.symm; subst ev_
  refine rl_own (L' := ([(b2, .cells #[.slice none 0 0, .slice none 0 0, .slice none 0 0] 30 (0, 0)), (b1, .cells #[.int .i64 (size), .int .i64 (start), .slice a n c] 24 (0, 0))] : Pcs) ++ (X4 ++ [])) rfl ?_
  refine rl_buildO ([(b2, .cells #[.slice none 0 0, .slice none 0 0, .slice none 0 0] 30 (0, 0)), (b1, .cells #[.int .i64 (size), .int .i64 (start), .slice a n c] 24 (0, 0))] : Pcs) (met_none rfl) Try.underlying25 tS3 tZ3 (Nat.le_of_ble_eq_true rfl) (vs := []) rfl rfl (es := []) rfl rfl rfl fun v6 X7 o8 => ?_
  refine rl_norm (tm' := _::_::_::_::_::_::_::_::_::_::_::_::_::_::_::_) rfl ?_
  refine rl_det (met_none rfl) (fun h_ H_ => exd_move (v := .slice b m d) rfl) rfl ?_
  refine rl_appendP ([(b2, .cells #[.slice none 0 0, .slice none 0 0, .slice none 0 0] 30 (0, 0)), (b1, .cells #[.int .i64 (size), .int .i64 (start), .slice a n c] 24 (0, 0))] : Pcs) X7 (met_none rfl) Try.underlying25 tS3 tZ3 rfl tB3 Try.underlying25 rfl rfl o8 W (ints_ones _) (by first | omega | (simp; omega) | simp) (by decide) (by decide) fun v9 X10 o11 => ?_
  refine rl_perm (List.Perm.append_left _ (List.perm_append_comm_assoc _ _ _)) ?_
  refine rl_own (L' := ([(b2, .cells #[.slice none 0 0, .slice none 0 0, .slice none 0 0] 30 (0, 0)), (b1, .cells #[.int .i64 (size), .int .i64 (start), .slice a n c] 24 (0, 0))] : Pcs) ++ (X4 ++ (X10 ++ []))) rfl ?_
  refine rl_lastN (A := ([(b2, .cells #[.slice none 0 0, .slice none 0 0, .slice none 0 0] 30 (0, 0)), (b1, .cells #[.int .i64 (size), .int .i64 (start), .slice a n c] 24 (0, 0))] : Pcs)) o5 (show (dcs ds).length = n by rw [dcs_length]; omega) fun p12 a13 cp14 le15 ev_ D16 => ?_
  subst ev_
  refine rl_lastN (A := ([(b2, .cells #[.slice none 0 0, .slice none 0 0, .slice none 0 0] 30 (0, 0)), (b1, .cells #[.int .i64 (size), .int .i64 (start), .slice a n c] 24 (0, 0))] : Pcs)) o11 (by have h_ := W.len; simpa using h_) fun p17 a18 cp19 le20 ev_ D21 => ?_
  subst ev_
  refine rl_own (L' := [(b2, .cells #[.slice none 0 0, .slice none 0 0, .slice none 0 0] 30 (0, 0)), (b1, .cells #[.int .i64 (size), .int .i64 (start), .slice a n c] 24 (0, 0))]) rfl ?_
  refine rl_own (L' := ([(b2, .cells #[.slice none 0 0, .slice none 0 0, .slice none 0 0] 30 (0, 0)), (b1, .cells #[.int .i64 (size), .int .i64 (start), .slice a n c] 24 (0, 0))] : Pcs) ++ []) rfl ?_
  refine rl_call (met_none rfl) (first := []) (cap := []) rfl rfl fC34 (R := fun v_ h_ => ∃ w22 : Value, ∃ w23 : Value, ∃ w24 : Value, ∃ X25 : Pcs, ∃ X26 : Pcs, ∃ X27 : Pcs, v_ = .tuple #[w22, w23, w24, .int .i64 0] ∧ (OwnS 3 1 w22 (ns (levs size start (wantOf ds) (listOf xs)) n) X25) ∧ (OwnS 3 1 w23 (ns (lack size start (wantOf ds) (listOf xs)) n) X26) ∧ (OwnS 3 1 w24 (ns (ovr size start (wantOf ds) (listOf xs)) n) X27) ∧ St h [] p17 h_ (([(b2, .cells #[.slice none 0 0, .slice none 0 0, .slice none 0 0] 30 (0, 0)), (b1, .cells #[.int .i64 (size), .int .i64 (start), .slice a n c] 24 (0, 0))] : Pcs) ++ ((X25 ++ (X26 ++ (X27 ++ []))) ++ []))) (fun h_ H_ => (c34ok md _ _ (fun b_ o_ e_ => H_.per b_ o_ e_) (size) (start) _ _ _ _ ((show Days _ _ _ ds from D16).mono le20) (by omega) _ _ _ _ (show Ints _ _ _ xs from D21) (by omega) hOk hW).mono fun v_ h2_ ⟨w22, w23, w24, X25, X26, X27, e_, o28, o29, o30, N_⟩ => ⟨w22, w23, w24, X25, X26, X27, e_, o28, o29, o30, H_.callNA N_⟩) fun v_ => ?_
  refine rl_ex fun w22 => rl_ex fun w23 => rl_ex fun w24 => rl_ex fun X25 => rl_ex fun X26 => rl_ex fun X27 => rl_and fun ev_ => rl_and fun o28 => rl_and fun o29 => rl_and fun o30 => ?_
  have ev_ := ev_.symm; subst ev_
  refine rl_own (L' := ([(b2, .cells #[.slice none 0 0, .slice none 0 0, .slice none 0 0] 30 (0, 0)), (b1, .cells #[.int .i64 (size), .int .i64 (start), .slice a n c] 24 (0, 0))] : Pcs) ++ (X25 ++ (X26 ++ (X27 ++ [])))) (by simp) ?_
  refine rl_norm (tm' := _::_::_::_::_::_::_::_::_::_::_::_::_::_::_::_::_::_::_) rfl ?_
  refine rl_det (met_none rfl) (fun h_ H_ => exd_move (v := .tuple #[w22, w23, w24, .int .i64 0]) rfl) rfl ?_
  refine rl_det (met_none rfl) (fun h_ H_ => exd_extract rfl (v := w22) rfl) rfl ?_
  refine rl_det (met_none rfl) (fun h_ H_ => exd_extract rfl (v := w23) rfl) (tm' := _::_::_::_::_::_::_::_::_::_::_::_::_::_::_::_::_::_::_::_::_) rfl ?_
  refine rl_det (met_none rfl) (fun h_ H_ => exd_extract rfl (v := w24) rfl) rfl ?_
  refine rl_det (met_none rfl) (fun h_ H_ => exd_extract rfl (v := .int .i64 0) rfl) rfl ?_
  refine rl_det (met_none rfl) (fun h_ H_ => exd_assign (v := w22) rfl) (tm' := _::_::_::_::_::_::_::_) rfl ?_
  refine rl_det (met_none rfl) (fun h_ H_ => exd_assign (v := w23) rfl) rfl ?_
  refine rl_det (met_none rfl) (fun h_ H_ => exd_assign (v := w24) rfl) rfl ?_
  refine rl_det (met_none rfl) (fun h_ H_ => exd_assign (v := .int .i64 0) rfl) (tm' := _::_::_::_::_::_::_::_::_::_::_) rfl ?_
  refine rl_end ?_
  refine fl_seq ?_
  refine fl_seq ?_
  refine rl_start ?_
  refine rl_det (met_none rfl) (fun h_ H_ => exd_move (v := .int .i64 0) rfl) rfl ?_
  refine rl_det (met_none rfl) (fun h_ H_ => exd_neq rfl rfl) rfl ?_
  refine rl_det (met_none rfl) (fun h_ H_ => exd_move (v := .bool (decide ((0 : Int) ≠ 0))) rfl) (tm' := _::_::_::_::_::_::_::_::_::_::_::_::_::_::_::_::_::_::_::_::_::_::_::_::_::_) rfl ?_
  refine rl_det (met_some rfl rfl (decide_eq_false (by decide))) (fun h_ H_ => exd_move (v := w22) rfl) rfl ?_
  refine rl_det (met_some rfl rfl (decide_eq_false (by decide))) (fun h_ H_ => exd_lenN o28 (ns_length _ _) Try.underlying25 rfl) rfl ?_
  refine rl_det (met_some rfl rfl (decide_eq_false (by decide))) (fun h_ H_ => exd_fieldAddr tF24_2 rfl (a' := ⟨b1, 2, none⟩) rfl) (tm' := _::_::_::_::_::_::_::_::_::_::_::_::_::_::_::_::_::_::_::_::_::_::_::_::_::_::_::_::_) rfl ?_
  refine rl_det (met_some rfl rfl (decide_eq_false (by decide))) (fun h_ H_ => exd_load_own H_ tA22 rfl (i := 1) rfl (v := .slice a n c) rfl) rfl ?_
  refine rl_det (met_some rfl rfl (decide_eq_false (by decide))) (fun h_ H_ => exd_len Try.underlying22 rfl) rfl ?_
  refine rl_det (met_some rfl rfl (decide_eq_false (by decide))) (fun h_ H_ => exd_neq rfl rfl) (tm' := _::_::_::_::_::_::_::_::_::_::_::_::_::_::_::_::_::_::_::_::_::_::_::_::_::_::_::_::_::_::_::_) rfl ?_
  refine rl_det (met_none rfl) (fun h_ H_ => exd_pick_f rfl (decide_eq_false (by decide)) (v := .bool (decide (((n : Nat) : Int) ≠ ((n : Nat) : Int)))) rfl) rfl ?_
  refine rl_det (met_none rfl) (fun h_ H_ => exd_move (v := .bool (decide (((n : Nat) : Int) ≠ ((n : Nat) : Int)))) rfl) rfl ?_
  refine rl_det (met_some rfl rfl (decide_eq_false (fun h_ => h_ rfl))) (fun h_ H_ => exd_move (v := w23) rfl) (tm' := _::_::_::_::_::_::_::_::_::_::_::_::_::_::_::_::_::_::_::_::_::_::_::_::_::_::_::_::_::_::_::_::_::_::_) rfl ?_
  refine rl_det (met_some rfl rfl (decide_eq_false (fun h_ => h_ rfl))) (fun h_ H_ => exd_lenN o29 (ns_length _ _) Try.underlying25 rfl) rfl ?_
  refine rl_det (met_some rfl rfl (decide_eq_false (fun h_ => h_ rfl))) (fun h_ H_ => exd_move (v := w22) rfl) rfl ?_
  refine rl_det (met_some rfl rfl (decide_eq_false (fun h_ => h_ rfl))) (fun h_ H_ => exd_lenN o28 (ns_length _ _) Try.underlying25 rfl) (tm' := _::_::_::_::_::_::_::_::_::_::_::_::_::_::_::_::_::_::_::_::_::_::_::_::_::_::_::_::_::_::_::_::_::_::_::_::_::_) rfl ?_
  refine rl_det (met_some rfl rfl (decide_eq_false (fun h_ => h_ rfl))) (fun h_ H_ => exd_neq rfl rfl) rfl ?_
  refine rl_det (met_none rfl) (fun h_ H_ => exd_pick_f rfl (decide_eq_false (fun h_ => h_ rfl)) (v := .bool (decide (((n : Nat) : Int) ≠ ((n : Nat) : Int)))) rfl) rfl ?_
  refine rl_det (met_none rfl) (fun h_ H_ => exd_move (v := .bool (decide (((n : Nat) : Int) ≠ ((n : Nat) : Int)))) rfl) (tm' := _::_::_::_::_::_::_::_::_::_::_::_::_::_::_::_::_::_::_::_::_::_::_::_::_::_::_::_::_::_::_::_::_::_::_::_::_::_::_::_::_) rfl ?_
  refine rl_det (met_some rfl rfl (decide_eq_false (fun h_ => h_ rfl))) (fun h_ H_ => exd_move (v := w24) rfl) rfl ?_
  refine rl_det (met_some rfl rfl (decide_eq_false (fun h_ => h_ rfl))) (fun h_ H_ => exd_lenN o30 (ns_length _ _) Try.underlying25 rfl) rfl ?_
  refine rl_det (met_some rfl rfl (decide_eq_false (fun h_ => h_ rfl))) (fun h_ H_ => exd_move (v := w22) rfl) (tm' := _::_::_::_::_::_::_::_::_::_::_::_::_::_::_::_::_::_::_::_::_::_::_::_::_::_::_::_::_::_::_::_::_::_::_::_::_::_::_::_::_::_::_::_) rfl ?_
  refine rl_det (met_some rfl rfl (decide_eq_false (fun h_ => h_ rfl))) (fun h_ H_ => exd_lenN o28 (ns_length _ _) Try.underlying25 rfl) rfl ?_
  refine rl_det (met_some rfl rfl (decide_eq_false (fun h_ => h_ rfl))) (fun h_ H_ => exd_neq rfl rfl) rfl ?_
  refine rl_det (met_none rfl) (fun h_ H_ => exd_pick_f rfl (decide_eq_false (fun h_ => h_ rfl)) (v := .bool (decide (((n : Nat) : Int) ≠ ((n : Nat) : Int)))) rfl) (tm' := _::_::_::_::_::_::_::_::_::_::_::_::_::_::_::_::_::_::_::_::_::_::_::_::_::_::_::_::_::_::_::_::_::_::_::_::_::_::_::_::_::_::_::_::_::_::_) rfl ?_
  refine rl_end ?_
  refine fl_else rfl (decide_eq_false (fun h_ => h_ rfl)) ?_
  refine fl_skip ?_
  refine fl_seq ?_
  refine fl_seq ?_
  refine rl_start ?_
  refine rl_det (met_none rfl) (fun h_ H_ => exd_assign (v := .int .i64 0) rfl) rfl ?_
  refine rl_end ?_
  refine fl_block ?_
  refine fl_loop (m₀ := n - 0) (fun m_ tm_ h_ => ∃ (k : Nat), m_ = n - k ∧ (∃ y31 : Nat → Value, tm_ = [.agg #[.int .i64 (size), .int .i64 (start), .slice a n c], .slice b m d, .pointer (some ⟨b1, 0, none⟩), undef, .pointer (some ⟨b2, 0, none⟩), (y31 5), w22, w23, w24, .int .i64 0, .int .i64 (((k : Nat) : Int)), .tuple #[w22, w23, w24, .int .i64 0], .agg #[.int .i64 (size), .int .i64 (start), .slice a n c], .agg #[.int .i64 (size), .int .i64 (start), .slice a13 n cp14], v6, .slice b m d, .slice a18 m cp19, .tuple #[w22, w23, w24, .int .i64 0], w22, w23, w24, .int .i64 0, .int .i64 0, .bool (decide ((0 : Int) ≠ 0)), .bool (decide ((0 : Int) ≠ 0)), w22, .int .i64 (((n : Nat) : Int)), .pointer (some ⟨b1, 2, none⟩), .slice a n c, .int .i64 (((n : Nat) : Int)), .bool (decide (((n : Nat) : Int) ≠ ((n : Nat) : Int))), .bool (decide (((n : Nat) : Int) ≠ ((n : Nat) : Int))), .bool (decide (((n : Nat) : Int) ≠ ((n : Nat) : Int))), w23, .int .i64 (((n : Nat) : Int)), w22, .int .i64 (((n : Nat) : Int)), .bool (decide (((n : Nat) : Int) ≠ ((n : Nat) : Int))), .bool (decide (((n : Nat) : Int) ≠ ((n : Nat) : Int))), .bool (decide (((n : Nat) : Int) ≠ ((n : Nat) : Int))), w24, .int .i64 (((n : Nat) : Int)), w22, .int .i64 (((n : Nat) : Int)), .bool (decide (((n : Nat) : Int) ≠ ((n : Nat) : Int))), .bool (decide (((n : Nat) : Int) ≠ ((n : Nat) : Int))), undef, (y31 47), (y31 48), (y31 49), (y31 50), (y31 51), (y31 52), (y31 53), (y31 54), (y31 55), (y31 56), (y31 57), (y31 58), (y31 59), (y31 60), (y31 61), (y31 62), (y31 63), (y31 64), (y31 65), (y31 66), (y31 67), (y31 68), (y31 69), (y31 70), (y31 71), (y31 72), (y31 73), (y31 74), (y31 75), (y31 76), (y31 77), (y31 78), (y31 79), (y31 80), (y31 81), (y31 82), (y31 83), undef, undef, undef, undef]) ∧ (k ≤ n) ∧ St h [] p17 h_ (([(b2, .cells #[.slice none 0 0, .slice none 0 0, .slice none 0 0] 30 (0, 0)), (b1, .cells #[.int .i64 (size), .int .i64 (start), .slice a n c] 24 (0, 0))] : Pcs) ++ (X25 ++ (X26 ++ (X27 ++ []))))) (fun h_ H_ => ⟨0, rfl, (y_of rfl), Nat.zero_le _, H_⟩) ?_
  intro m_ tm_ IH32
  refine rs_ex fun k => rs_and fun hm_ => rs_and fun ht_ => rs_and fun hk => ?_
  subst hm_; obtain ⟨y31, ht_⟩ := ht_; subst ht_
  have hdk := day_ok hOk hW (k := k)
  refine fl_seq ?_
  refine fl_seq ?_
  refine rl_start ?_
  refine rl_det (met_none rfl) (fun h_ H_ => exd_move (v := .int .i64 (((k : Nat) : Int))) rfl) rfl ?_
  refine rl_det (met_none rfl) (fun h_ H_ => exd_move (v := w22) rfl) (tm' := _::_::_::_::_::_::_::_::_::_::_::_::_::_::_::_::_::_::_::_::_::_::_::_::_::_::_::_::_::_::_::_::_::_::_::_::_::_::_::_::_::_::_::_::_::_::_::_::_::_) rfl ?_
  refine rl_det (met_none rfl) (fun h_ H_ => exd_lenN o28 (ns_length _ _) Try.underlying25 rfl) rfl ?_
  refine rl_det (met_none rfl) (fun h_ H_ => exd_lss rfl rfl) rfl ?_
  refine rl_end ?_
  by_cases cc33 : ((k : Nat) : Int) < ((n : Nat) : Int)
  · refine fl_then rfl (decide_eq_true cc33) ?_
    refine fl_skip ?_
    refine fl_seq ?_
    refine fl_block ?_
    refine fl_seq ?_
    refine fl_drawn2 25 [[], [], [0, 1], [0, 1, 2], [], [4], [0, 1, 2, 3, 4, 5], [0, 1, 2, 3, 4, 5], [0, 1, 2, 3, 4, 5, 6, 7], [], [], [9, 10], [9, 10, 11], [], [13], [0, 1, 2, 3, 4, 5, 6, 7], [0, 1, 2, 3, 4, 5, 6, 7, 13, 14, 15], [0, 1, 2, 3, 4, 5, 6, 7, 13, 14, 15, 16], [0, 1, 2, 3, 4, 5, 6, 7, 13, 14, 15, 16, 17], [0, 1, 2, 3, 4, 5, 6, 7, 9, 10, 11, 12, 13, 14, 15, 16, 17, 18], [0, 1, 2, 3, 4, 5, 6, 7, 9, 10, 11, 12, 13, 14, 15, 16, 17, 18], [0, 1, 2, 3, 4, 5, 6, 7, 8, 9, 10, 11, 12, 13, 14, 15, 16, 17, 18, 20], [0, 1, 2, 3, 4, 5, 6, 7, 8, 9, 10, 11, 12, 13, 14, 15, 16, 17, 18, 19, 20, 21], [], [0, 1, 2, 3, 4, 5, 6, 7, 8, 9, 10, 11, 12, 13, 14, 15, 16, 17, 18, 19, 20, 21], [0, 1, 2, 3, 4, 5, 6, 7, 8, 9, 10, 11, 12, 13, 14, 15, 16, 17, 18, 19, 20, 21, 23, 24], [0, 1, 2, 3, 4, 5, 6, 7, 8, 9, 10, 11, 12, 13, 14, 15, 16, 17, 18, 19, 20, 21, 23, 24, 25], [0, 1, 2, 3, 4, 5, 6, 7, 8, 9, 10, 11, 12, 13, 14, 15, 16, 17, 18, 19, 20, 21, 23, 24, 25, 26], [0, 1, 2, 3, 4, 5, 6, 7, 8, 9, 10, 11, 12, 13, 14, 15, 16, 17, 18, 19, 20, 21, 23, 24, 25, 26, 27], []] mixed (by kernel_rfl) (Nat.le_of_ble_eq_true rfl) ?_
    refine swr_det (met_none rfl) (fun h_ H_ => exd_move (v := w22) rfl) (tm' := _::_::_::_::_::_::_::_::_::_::_::_::_::_::_::_::_::_::_::_::_::_::_::_::_::_::_::_::_::_::_::_::_::_::_::_::_::_::_::_::_::_::_::_::_::_::_::_::_::_::_::_::_::_::_) rfl ?_
    refine swr_det (met_none rfl) (fun h_ H_ => exd_move (v := .int .i64 (((k : Nat) : Int))) rfl) rfl ?_
    refine swr_det (met_none rfl) (fun h_ H_ => exd_indexO o28 Try.underlying25 tS3 rfl rfl (by rw [(ns_length _ _)]; omega)) (tm' := _::_::_::_::_::_::_::_::_::_::_::_::_::_::_::_::_::_::_::_::_::_::_::_::_::_::_::_::_::_::_::_::_::_::_::_::_::_::_::_::_::_::_::_::_::_::_::_::_::_::_::_::_::_::_::_::_) rfl ?_
    refine swr_det (met_none rfl) (fun h_ H_ => exd_loadO (A := ([(b2, .cells #[.slice none 0 0, .slice none 0 0, .slice none 0 0] 30 (0, 0)), (b1, .cells #[.int .i64 (size), .int .i64 (start), .slice a n c] 24 (0, 0))] : Pcs)) (i := k) (j := 0) (e := [.int .i64 (levs size start (wantOf ds) (listOf xs) k)]) o28 H_ tA3 rfl rfl (ns_at (by omega)) (u := .int .i64 (levs size start (wantOf ds) (listOf xs) k)) rfl) rfl ?_
    refine swr_det (met_none rfl) (fun h_ H_ => exd_fieldAddr tF24_0 rfl (a' := ⟨b1, 0, none⟩) rfl) (tm' := _::_::_::_::_::_::_::_::_::_::_::_::_::_::_::_::_::_::_::_::_::_::_::_::_::_::_::_::_::_::_::_::_::_::_::_::_::_::_::_::_::_::_::_::_::_::_::_::_::_::_::_::_::_::_::_::_::_::_) rfl ?_
    refine swr_det (met_none rfl) (fun h_ H_ => exd_load_own H_ tA3 rfl (i := 1) rfl (v := .int .i64 (size)) rfl) rfl ?_
    refine swr_call (met_none rfl) (first := []) (cap := []) rfl rfl fC22 (fun h_ H_ => (c22 md _ (levs size start (wantOf ds) (listOf xs) k) (0) (size)).mono fun v_ h2_ ⟨e_, k_⟩ => ⟨e_, H_.call k_⟩) (tm' := [_,_,_,_,_,_,_,_,_,_,_,_,_,_,_,_,_,_,_,_,_,_,_,_,_,_,_,_,_,_,_,_,_,_,_,_,_,_,_,_,_,_,_,_,_,_,_,_,_,_,_,_,_,_,_,_,_,_,_,_,_,_,_,_,_,_,_,_,_,_,_,_,_,_,_,_,_,_,_,_,_,_,_,_,_,_,_,_]) rfl ?_
    refine swr_det (met_none rfl) (fun h_ H_ => exd_not rfl) rfl ?_
    refine swr_det (met_none rfl) (fun h_ H_ => exd_move (v := .bool (!(decide (0 ≤ levs size start (wantOf ds) (listOf xs) k ∧ levs size start (wantOf ds) (listOf xs) k ≤ size)))) rfl) (tm' := [_,_,_,_,_,_,_,_,_,_,_,_,_,_,_,_,_,_,_,_,_,_,_,_,_,_,_,_,_,_,_,_,_,_,_,_,_,_,_,_,_,_,_,_,_,_,_,_,_,_,_,_,_,_,_,_,_,_,_,_,_,_,_,_,_,_,_,_,_,_,_,_,_,_,_,_,_,_,_,_,_,_,_,_,_,_,_,_]) rfl ?_
    refine swr_det (met_some rfl rfl (not_f (decide_eq_true (by omega)))) (fun h_ H_ => exd_move (v := w23) rfl) rfl ?_
    refine swr_det (met_some rfl rfl (not_f (decide_eq_true (by omega)))) (fun h_ H_ => exd_move (v := .int .i64 (((k : Nat) : Int))) rfl) (tm' := [_,_,_,_,_,_,_,_,_,_,_,_,_,_,_,_,_,_,_,_,_,_,_,_,_,_,_,_,_,_,_,_,_,_,_,_,_,_,_,_,_,_,_,_,_,_,_,_,_,_,_,_,_,_,_,_,_,_,_,_,_,_,_,_,_,_,_,_,_,_,_,_,_,_,_,_,_,_,_,_,_,_,_,_,_,_,_,_]) rfl ?_
    refine swr_det (met_some rfl rfl (not_f (decide_eq_true (by omega)))) (fun h_ H_ => exd_indexO o29 Try.underlying25 tS3 rfl rfl (by rw [(ns_length _ _)]; omega)) rfl ?_
    refine swr_det (met_some rfl rfl (not_f (decide_eq_true (by omega)))) (fun h_ H_ => exd_loadM (i := k) (j := 0) (e := [.int .i64 (lack size start (wantOf ds) (listOf xs) k)]) o29 H_ (fun x_ h_ => by simp [h_]) tA3 rfl rfl (ns_at (by omega)) (u := .int .i64 (lack size start (wantOf ds) (listOf xs) k)) rfl) (tm' := [_,_,_,_,_,_,_,_,_,_,_,_,_,_,_,_,_,_,_,_,_,_,_,_,_,_,_,_,_,_,_,_,_,_,_,_,_,_,_,_,_,_,_,_,_,_,_,_,_,_,_,_,_,_,_,_,_,_,_,_,_,_,_,_,_,_,_,_,_,_,_,_,_,_,_,_,_,_,_,_,_,_,_,_,_,_,_,_]) rfl ?_
    refine swr_det (met_some rfl rfl (not_f (decide_eq_true (by omega)))) (fun h_ H_ => exd_fieldAddr tF24_2 rfl (a' := ⟨b1, 2, none⟩) rfl) rfl ?_
    refine swr_det (met_some rfl rfl (not_f (decide_eq_true (by omega)))) (fun h_ H_ => exd_load_own H_ tA22 rfl (i := 1) rfl (v := .slice a n c) rfl) (tm' := [_,_,_,_,_,_,_,_,_,_,_,_,_,_,_,_,_,_,_,_,_,_,_,_,_,_,_,_,_,_,_,_,_,_,_,_,_,_,_,_,_,_,_,_,_,_,_,_,_,_,_,_,_,_,_,_,_,_,_,_,_,_,_,_,_,_,_,_,_,_,_,_,_,_,_,_,_,_,_,_,_,_,_,_,_,_,_,_]) rfl ?_
    refine swr_det (met_some rfl rfl (not_f (decide_eq_true (by omega)))) (fun h_ H_ => exd_move (v := .int .i64 (((k : Nat) : Int))) rfl) rfl ?_
    refine swr_det (met_some rfl rfl (not_f (decide_eq_true (by omega)))) (fun h_ H_ => exd_indexAddrN (i := k) Try.underlying22 tS38 (sl_ne a n c (((D.mono le15).mono le20).ne (by omega))) rfl (by omega)) (tm' := [_,_,_,_,_,_,_,_,_,_,_,_,_,_,_,_,_,_,_,_,_,_,_,_,_,_,_,_,_,_,_,_,_,_,_,_,_,_,_,_,_,_,_,_,_,_,_,_,_,_,_,_,_,_,_,_,_,_,_,_,_,_,_,_,_,_,_,_,_,_,_,_,_,_,_,_,_,_,_,_,_,_,_,_,_,_,_,_]) rfl ?_
    refine swr_det (met_some rfl rfl (not_f (decide_eq_true (by omega)))) (fun h_ H_ => exd_fieldAddr tF38_1 rfl (a' := ((adr a).add (k * 3)).add 2) rfl) rfl ?_
    refine swr_det (met_some rfl rfl (not_f (decide_eq_true (by omega)))) (fun h_ H_ => exd_load_per H_ tA3 rfl (v := .int .i64 ((ds.getD k dz).want)) (((D.mono le15).mono le20).want (by omega))) (tm' := [_,_,_,_,_,_,_,_,_,_,_,_,_,_,_,_,_,_,_,_,_,_,_,_,_,_,_,_,_,_,_,_,_,_,_,_,_,_,_,_,_,_,_,_,_,_,_,_,_,_,_,_,_,_,_,_,_,_,_,_,_,_,_,_,_,_,_,_,_,_,_,_,_,_,_,_,_,_,_,_,_,_,_,_,_,_,_,_]) rfl ?_
    refine swr_call (met_some rfl rfl (not_f (decide_eq_true (by omega)))) (first := []) (cap := []) rfl rfl fC22 (fun h_ H_ => (c22 md _ (lack size start (wantOf ds) (listOf xs) k) (0) ((ds.getD k dz).want)).mono fun v_ h2_ ⟨e_, k_⟩ => ⟨e_, H_.call k_⟩) rfl ?_
    refine swr_det (met_some rfl rfl (not_f (decide_eq_true (by omega)))) (fun h_ H_ => exd_not rfl) (tm' := [_,_,_,_,_,_,_,_,_,_,_,_,_,_,_,_,_,_,_,_,_,_,_,_,_,_,_,_,_,_,_,_,_,_,_,_,_,_,_,_,_,_,_,_,_,_,_,_,_,_,_,_,_,_,_,_,_,_,_,_,_,_,_,_,_,_,_,_,_,_,_,_,_,_,_,_,_,_,_,_,_,_,_,_,_,_,_,_]) rfl ?_
    refine swr_det (met_none rfl) (fun h_ H_ => exd_pick_f rfl (not_f (decide_eq_true (by omega))) (v := .bool (!(decide (0 ≤ lack size start (wantOf ds) (listOf xs) k ∧ lack size start (wantOf ds) (listOf xs) k ≤ (ds.getD k dz).want)))) rfl) rfl ?_
    refine swr_det (met_none rfl) (fun h_ H_ => exd_move (v := .bool (!(decide (0 ≤ lack size start (wantOf ds) (listOf xs) k ∧ lack size start (wantOf ds) (listOf xs) k ≤ (ds.getD k dz).want)))) rfl) (tm' := [_,_,_,_,_,_,_,_,_,_,_,_,_,_,_,_,_,_,_,_,_,_,_,_,_,_,_,_,_,_,_,_,_,_,_,_,_,_,_,_,_,_,_,_,_,_,_,_,_,_,_,_,_,_,_,_,_,_,_,_,_,_,_,_,_,_,_,_,_,_,_,_,_,_,_,_,_,_,_,_,_,_,_,_,_,_,_,_]) rfl ?_
    refine swr_det (met_some rfl rfl (not_f (decide_eq_true (by omega)))) (fun h_ H_ => exd_move (v := w24) rfl) rfl ?_
    refine swr_det (met_some rfl rfl (not_f (decide_eq_true (by omega)))) (fun h_ H_ => exd_move (v := .int .i64 (((k : Nat) : Int))) rfl) (tm' := [_,_,_,_,_,_,_,_,_,_,_,_,_,_,_,_,_,_,_,_,_,_,_,_,_,_,_,_,_,_,_,_,_,_,_,_,_,_,_,_,_,_,_,_,_,_,_,_,_,_,_,_,_,_,_,_,_,_,_,_,_,_,_,_,_,_,_,_,_,_,_,_,_,_,_,_,_,_,_,_,_,_,_,_,_,_,_,_]) rfl ?_
    refine swr_nil rfl ?_
    refine rl_det (met_some rfl rfl (not_f (decide_eq_true (by omega)))) (fun h_ H_ => exd_indexO o30 Try.underlying25 tS3 rfl rfl (by rw [(ns_length _ _)]; omega)) rfl ?_
    refine rl_det (met_some rfl rfl (not_f (decide_eq_true (by omega)))) (fun h_ H_ => exd_loadM (i := k) (j := 0) (e := [.int .i64 (ovr size start (wantOf ds) (listOf xs) k)]) o30 H_ (fun x_ h_ => by simp [h_]) tA3 rfl rfl (ns_at (by omega)) (u := .int .i64 (ovr size start (wantOf ds) (listOf xs) k)) rfl) rfl ?_
    refine rl_calld (met_some rfl rfl (not_f (decide_eq_true (by omega)))) (first := []) (cap := []) rfl rfl fC22 (fun h_ H_ => c22 md _ (ovr size start (wantOf ds) (listOf xs) k) (0) (80)) (tm' := [_,_,_,_,_,_,_,_,_,_,_,_,_,_,_,_,_,_,_,_,_,_,_,_,_,_,_,_,_,_,_,_,_,_,_,_,_,_,_,_,_,_,_,_,_,_,_,_,_,_,_,_,_,_,_,_,_,_,_,_,_,_,_,_,_,_,_,_,_,_,_,_,_,_,_,_,_,_,_,_,_,_,_,_,_,_,_,_]) rfl ?_
    refine rl_det (met_some rfl rfl (not_f (decide_eq_true (by omega)))) (fun h_ H_ => exd_not rfl) rfl ?_
    refine rl_det (met_none rfl) (fun h_ H_ => exd_pick_f rfl (not_f (decide_eq_true (by omega))) (v := .bool (!(decide (0 ≤ ovr size start (wantOf ds) (listOf xs) k ∧ ovr size start (wantOf ds) (listOf xs) k ≤ 80)))) rfl) rfl ?_
    refine rl_end ?_
    refine fl_else rfl (not_f (decide_eq_true (by omega))) ?_
    refine fl_skip ?_
    refine fl_inBlock ?_
    refine rl_start ?_
    refine rl_det (met_none rfl) (fun h_ H_ => exd_move (v := .int .i64 (((k : Nat) : Int))) rfl) (tm' := _::_::_::_::_::_::_::_::_::_::_::_::_::_::_::_::_::_::_::_::_::_::_::_::_::_::_::_::_::_::_::_::_::_::_::_::_::_::_::_::_::_::_::_::_::_::_::_::_::_::_::_::_) rfl ?_
    refine rl_det (met_none rfl) (fun h_ H_ => exd_add rfl rfl (n := ((k + 1 : Nat) : Int)) (wr (by omega))) rfl ?_
    refine rl_det (met_none rfl) (fun h_ H_ => exd_assign (v := .int .i64 (((k + 1 : Nat) : Int))) rfl) rfl ?_
    refine rl_end ?_
    exact fun h_ H_ => IH32 _ _ (by omega) h_ ⟨k + 1, rfl, (y_of rfl), (by omega), H_⟩
  · refine fl_else rfl (decide_eq_false cc33) ?_
    refine fl_exit rfl ?_
    refine fl_seq ?_
    refine rl_start ?_
    refine rl_det (met_none rfl) (fun h_ H_ => exd_move (v := w22) rfl) (tm' := [_,_,_,_,_,_,_,_,_,_,_,_,_,_,_,_,_,_,_,_,_,_,_,_,_,_,_,_,_,_,_,_,_,_,_,_,_,_,_,_,_,_,_,_,_,_,_,_,_,_,_,_,_,_,_,_,_,_,_,_,_,_,_,_,_,_,_,_,_,_,_,_,_,_,_,_,_,_,_,_,_,_,_,_,_,_,_,_]) rfl ?_
    refine rl_det (met_none rfl) (fun h_ H_ => exd_move (v := w23) rfl) rfl ?_
    refine rl_det (met_none rfl) (fun h_ H_ => exd_move (v := w24) rfl) rfl ?_
    obtain ⟨a34, c35, ev_, _⟩ := o28.val; have ev_ : w22 = .slice a34 n c35 := ev_.trans (congrArg (fun q_ => Value.slice a34 q_ c35) (ns_length _ _)); subst ev_
    obtain ⟨a36, c37, ev_, _⟩ := o29.val; have ev_ : w23 = .slice a36 n c37 := ev_.trans (congrArg (fun q_ => Value.slice a36 q_ c37) (ns_length _ _)); subst ev_
    obtain ⟨a38, c39, ev_, _⟩ := o30.val; have ev_ : w24 = .slice a38 n c39 := ev_.trans (congrArg (fun q_ => Value.slice a38 q_ c39) (ns_length _ _)); subst ev_
    refine rl_det (met_none rfl) (fun h_ H_ => exd_build tZ30 tP30 (vs := [(0, (.slice a34 n c35)), (1, (.slice a36 n c37)), (2, (.slice a38 n c39))]) rfl (cells := #[(.slice a34 n c35), (.slice a36 n c37), (.slice a38 n c39)]) rfl) (tm' := [_,_,_,_,_,_,_,_,_,_,_,_,_,_,_,_,_,_,_,_,_,_,_,_,_,_,_,_,_,_,_,_,_,_,_,_,_,_,_,_,_,_,_,_,_,_,_,_,_,_,_,_,_,_,_,_,_,_,_,_,_,_,_,_,_,_,_,_,_,_,_,_,_,_,_,_,_,_,_,_,_,_,_,_,_,_,_,_]) rfl ?_
    refine rl_store (met_none rfl) tS30 rfl (v := .agg #[(.slice a34 n c35), (.slice a36 n c37), (.slice a38 n c39)]) rfl (i := 0) rfl rfl (ones_cons o28.one.2 (ones_cons o29.one.2 (ones_cons o30.one.2 rfl))) (Nat.le_of_ble_eq_true rfl) (cs2 := [(.slice a34 n c35), (.slice a36 n c37), (.slice a38 n c39)]) rfl (rl_own (L' := ([(b2, .cells #[(.slice a34 n c35), (.slice a36 n c37), (.slice a38 n c39)] 30 (0, 0)), (b1, .cells #[.int .i64 (size), .int .i64 (start), .slice a n c] 24 (0, 0))] : Pcs) ++ (X25 ++ (X26 ++ (X27 ++ [])))) rfl ?_)
    refine rl_det (met_none rfl) (fun h_ H_ => exd_assign (v := .bool (true)) rfl) rfl ?_
    refine rl_end ?_
    refine fl_ret Try.func19 rfl (vs := [.agg #[(.slice a34 n c35), (.slice a36 n c37), (.slice a38 n c39)], .bool (true)]) (fun h_ H_ => ⟨.agg #[(.slice a34 n c35), (.slice a36 n c37), (.slice a38 n c39)], _, rfl, (wpS_bind (wpS_pure (wpS_loadVarN tA30 tS30 (vs := [(.slice a34 n c35), (.slice a36 n c37), (.slice a38 n c39)]) rfl (fun j_ v_ e_ => by rw [add_mk]; exact H_.ocell (i := 0) rfl (by simpa using e_)) ⟨rfl, rfl⟩))), ⟨.bool (true), _, rfl, rfl, rfl⟩⟩) (v := .tuple #[.agg #[(.slice a34 n c35), (.slice a36 n c37), (.slice a38 n c39)], .bool (true)]) rfl ?_
    exact fun h_ H_ => K _ _ ⟨_, _, _, _, _, _, rfl, o28, o29, o30, H_.dropA.new⟩
end Go.Proofs.Ytbmkacnlhlbnjaa
namespace Go.Proofs.Ytbmkacnlhlbnjaa
open Go.X Go.X.Cist Go.Conc
set_option maxRecDepth 10000

theorem c76 (md : Md) (h : Heap) (p : PHeap) (hp : Per p h) (size start : Int) (a : Option Addr) (n c : Nat) (ds : List Day) (D : Days p a n ds) (hn : n ≤ 40) (m e : Int) : CallsX Try.prog md 76 #[.agg #[.int .i64 (size), .int .i64 (start), .slice a n c], .int .i64 (m), .int .i64 (e)] h fun v h' => v = .tuple #[.int .i64 (if e = 3 then 8 else m), .bool (decide (e = 3 ∨ (e = 0 ∧ IsDay ds m)))] ∧ Keep h h' := by
  refine calls_intro (Φ := fun h_ => St h [] p h_ []) Try.func76 rfl (tm := [_, _, _, _, _, _, _, _, _, _, _, _, _, _, _, _, _, _]) rfl ?_ (St.start h _ hp)
  intro c₀ cs Stop K
  have hl := D.len
  refine fl_seq ?_
  refine rl_start ?_
  refine rl_box (met_none rfl) (v := .agg #[.int .i64 (size), .int .i64 (start), .slice a n c]) rfl fun b1 => rl_own (L' := [(b1, .cells #[.int .i64 (size), .int .i64 (start), .slice a n c] 24 (0, 0))]) rfl ?_
  refine rl_det (met_none rfl) (fun h_ H_ => exd_assign (v := .int .i64 0) rfl) rfl ?_
  refine rl_det (met_none rfl) (fun h_ H_ => exd_assign (v := .bool (false)) rfl) (tm' := _::_::_::_::_::_::_::_::_) rfl ?_
  refine rl_end ?_
  refine fl_seq ?_
  refine fl_seq ?_
  refine rl_start ?_
  refine rl_det (met_none rfl) (fun h_ H_ => exd_move (v := .int .i64 (e)) rfl) rfl ?_
  refine rl_det (met_none rfl) (fun h_ H_ => exd_eql rfl rfl) rfl ?_
  refine rl_end ?_
  by_cases cc2 : e = 3
  · refine fl_then rfl (decide_eq_true cc2) ?_
    refine fl_seq ?_
    refine rl_start ?_
    refine rl_det (met_none rfl) (fun h_ H_ => exd_assign (v := .int .i64 8) rfl) (tm' := _::_::_::_::_::_::_::_) rfl ?_
    refine rl_det (met_none rfl) (fun h_ H_ => exd_assign (v := .bool (true)) rfl) rfl ?_
    refine rl_end ?_
    refine fl_ret Try.func76 rfl (vs := [.int .i64 8, .bool (true)]) (fun h_ H_ => ⟨.int .i64 8, _, rfl, rfl, ⟨.bool (true), _, rfl, rfl, rfl⟩⟩) (v := .tuple #[.int .i64 8, .bool (true)]) rfl ?_
    exact fun h_ H_ => K _ _ ⟨by first | (subst e; simp) | simp [*], H_.kept⟩
  · refine fl_else rfl (decide_eq_false cc2) ?_
    refine fl_skip ?_
    refine fl_seq ?_
    refine rl_start ?_
    refine rl_det (met_none rfl) (fun h_ H_ => exd_move (v := .int .i64 (m)) rfl) rfl ?_
    refine rl_det (met_none rfl) (fun h_ H_ => exd_move (v := .int .i64 (e)) rfl) (tm' := _::_::_::_::_::_::_::_::_::_::_::_::_) rfl ?_
    refine rl_det (met_none rfl) (fun h_ H_ => exd_eql rfl rfl) rfl ?_
    refine rl_det (met_none rfl) (fun h_ H_ => exd_move (v := .bool (decide (e = 0))) rfl) rfl ?_
    by_cases cc3 : e = 0
    · refine rl_det (met_some rfl rfl (decide_eq_true cc3)) (fun h_ H_ => exd_loadN_own H_ tA24 tS24 rfl (i := 0) rfl (vs := [.int .i64 (size), .int .i64 (start), .slice a n c]) rfl rfl) (tm' := [_,_,_,_,_,_,_,_,_,_,_,_,_,_,_,_,_,_]) rfl ?_
      refine rl_det (met_some rfl rfl (decide_eq_true cc3)) (fun h_ H_ => exd_move (v := .int .i64 (m)) rfl) rfl ?_
      refine rl_calld (met_some rfl rfl (decide_eq_true cc3)) (first := []) (cap := []) rfl rfl fC26 (fun h_ H_ => c26 md _ _ (fun b_ o_ e_ => H_.per b_ o_ e_) (size) (start) _ _ _ _ D (by omega) m) rfl ?_
      refine rl_det (met_none rfl) (fun h_ H_ => exd_pick_t rfl (decide_eq_true cc3) (v := .bool (decide (IsDay ds m))) rfl) (tm' := [_,_,_,_,_,_,_,_,_,_,_,_,_,_,_,_,_,_]) rfl ?_
      refine rl_det (met_none rfl) (fun h_ H_ => exd_assign (v := .int .i64 (m)) rfl) rfl ?_
      refine rl_det (met_none rfl) (fun h_ H_ => exd_assign (v := .bool (decide (IsDay ds m))) rfl) rfl ?_
      refine rl_end ?_
      refine fl_ret Try.func76 rfl (vs := [.int .i64 (m), .bool (decide (IsDay ds m))]) (fun h_ H_ => ⟨.int .i64 (m), _, rfl, rfl, ⟨.bool (decide (IsDay ds m)), _, rfl, rfl, rfl⟩⟩) (v := .tuple #[.int .i64 (m), .bool (decide (IsDay ds m))]) rfl ?_
      exact fun h_ H_ => K _ _ ⟨by first | (subst e; simp) | simp [*], H_.kept⟩
    · refine rl_pass (met_not rfl rfl (decide_eq_false cc3)) (tm' := [_,_,_,_,_,_,_,_,_,_,_,_,_,_,_,_,_,_]) rfl ?_
      refine rl_pass (met_not rfl rfl (decide_eq_false cc3)) rfl ?_
      refine rl_pass (met_not rfl rfl (decide_eq_false cc3)) rfl ?_
      refine rl_det (met_none rfl) (fun h_ H_ => exd_pick_f rfl (decide_eq_false cc3) (v := .bool (false)) rfl) (tm' := [_,_,_,_,_,_,_,_,_,_,_,_,_,_,_,_,_,_]) rfl ?_
      refine rl_det (met_none rfl) (fun h_ H_ => exd_assign (v := .int .i64 (m)) rfl) rfl ?_
      refine rl_det (met_none rfl) (fun h_ H_ => exd_assign (v := .bool (false)) rfl) rfl ?_
      refine rl_end ?_
      refine fl_ret Try.func76 rfl (vs := [.int .i64 (m), .bool (false)]) (fun h_ H_ => ⟨.int .i64 (m), _, rfl, rfl, ⟨.bool (false), _, rfl, rfl, rfl⟩⟩) (v := .tuple #[.int .i64 (m), .bool (false)]) rfl ?_
      exact fun h_ H_ => K _ _ ⟨by first | (subst e; simp) | simp [*], H_.kept⟩
theorem c38 (h : Heap) (p : PHeap) (hp : Per p h) (size start : Int) (a : Option Addr) (n c : Nat) (ds : List Day) (D : Days p a n ds) (hn : n ≤ 40) (hOk : Ok size start ds) : CallsX Try.prog (.main true) 38 #[.agg #[.int .i64 (size), .int .i64 (start), .slice a n c]] h fun v h' => v = .tuple #[.int .i64 (dayOr (dryR size start ds)), .int .i64 (dayOr (mustR size start ds)), .bool true] ∧ Keep h h' := by
  refine calls_intro (Φ := fun h_ => St h [] p h_ []) Try.func38 rfl (tm := [_, _, _, _, _, _, _, _, _, _, _, _, _, _, _, _, _, _, _, _, _, _, _, _, _, _, _, _, _, _, _, _, _, _, _, _, _, _, _, _, _, _, _, _, _]) rfl ?_ (St.start h _ hp)
  intro c₀ cs Stop K
  have hl := D.len
  have hd1 : (dryR size start ds).2 = 3 ∨ ((dryR size start ds).2 = 0 ∧ IsDay ds (dryR size start ds).1) := day_or hOk
  have hm1 : (mustR size start ds).2 = 3 ∨ ((mustR size start ds).2 = 0 ∧ IsDay ds (mustR size start ds).1) := must_or hOk
  refine fl_seq ?_
  refine rl_start ?_
  refine rl_box (met_none rfl) (v := .agg #[.int .i64 (size), .int .i64 (start), .slice a n c]) rfl fun b1 => rl_own (L' := [(b1, .cells #[.int .i64 (size), .int .i64 (start), .slice a n c] 24 (0, 0))]) rfl ?_
  refine rl_norm (tm' := _::_::_) rfl ?_
  refine rl_det (met_none rfl) (fun h_ H_ => exd_assign (v := .int .i64 0) rfl) rfl ?_
  refine rl_det (met_none rfl) (fun h_ H_ => exd_assign (v := .int .i64 0) rfl) rfl ?_
  refine rl_det (met_none rfl) (fun h_ H_ => exd_assign (v := .bool (false)) rfl) (tm' := _::_::_::_::_::_) rfl ?_
  refine rl_end ?_
  refine fl_seq ?_
  refine rl_start ?_
  refine rl_det (met_none rfl) (fun h_ H_ => exd_loadN_own H_ tA24 tS24 rfl (i := 0) rfl (vs := [.int .i64 (size), .int .i64 (start), .slice a n c]) rfl rfl) rfl ?_
  refine rl_calld (met_none rfl) (first := []) (cap := []) rfl rfl fC55 (fun h_ H_ => c55 _ _ (fun b_ o_ e_ => H_.per b_ o_ e_) (size) (start) _ _ _ _ D (by omega)) rfl ?_
  refine rl_det (met_none rfl) (fun h_ H_ => exd_move (v := .tuple #[.int .i64 ((dryR size start ds).1), .int .i64 ((dryR size start ds).2)]) rfl) (tm' := _::_::_::_::_::_::_::_::_::_::_::_) rfl ?_
  refine rl_det (met_none rfl) (fun h_ H_ => exd_extract rfl (v := .int .i64 ((dryR size start ds).1)) rfl) rfl ?_
  refine rl_det (met_none rfl) (fun h_ H_ => exd_extract rfl (v := .int .i64 ((dryR size start ds).2)) rfl) rfl ?_
  refine rl_det (met_none rfl) (fun h_ H_ => exd_assign (v := .int .i64 ((dryR size start ds).1)) rfl) (tm' := _::_::_::_::_::_::_) rfl ?_
  refine rl_det (met_none rfl) (fun h_ H_ => exd_assign (v := .int .i64 ((dryR size start ds).2)) rfl) rfl ?_
  refine rl_end ?_
  refine fl_seq ?_
  refine rl_start ?_
  refine rl_det (met_none rfl) (fun h_ H_ => exd_loadN_own H_ tA24 tS24 rfl (i := 0) rfl (vs := [.int .i64 (size), .int .i64 (start), .slice a n c]) rfl rfl) rfl ?_
  refine rl_calld (met_none rfl) (first := []) (cap := []) rfl rfl fC57 (fun h_ H_ => c57 _ _ (fun b_ o_ e_ => H_.per b_ o_ e_) (size) (start) _ _ _ _ D (by omega)) (tm' := _::_::_::_::_::_::_::_::_::_::_::_::_::_::_::_::_::_::_) rfl ?_
  refine rl_det (met_none rfl) (fun h_ H_ => exd_move (v := .tuple #[.int .i64 ((mustR size start ds).1), .int .i64 ((mustR size start ds).2)]) rfl) rfl ?_
  refine rl_det (met_none rfl) (fun h_ H_ => exd_extract rfl (v := .int .i64 ((mustR size start ds).1)) rfl) rfl ?_
  refine rl_det (met_none rfl) (fun h_ H_ => exd_extract rfl (v := .int .i64 ((mustR size start ds).2)) rfl) (tm' := _::_::_::_::_::_::_::_::_::_::_::_::_::_::_::_::_::_::_::_::_) rfl ?_
  refine rl_det (met_none rfl) (fun h_ H_ => exd_assign (v := .int .i64 ((mustR size start ds).1)) rfl) rfl ?_
  refine rl_det (met_none rfl) (fun h_ H_ => exd_assign (v := .int .i64 ((mustR size start ds).2)) rfl) rfl ?_
  refine rl_end ?_
  refine fl_seq ?_
  refine rl_start ?_
  refine rl_det (met_none rfl) (fun h_ H_ => exd_loadN_own H_ tA24 tS24 rfl (i := 0) rfl (vs := [.int .i64 (size), .int .i64 (start), .slice a n c]) rfl rfl) (tm' := _::_::_::_::_::_::_::_::_::_::_::_::_::_::_::_::_::_::_::_::_::_::_) rfl ?_
  refine rl_det (met_none rfl) (fun h_ H_ => exd_move (v := .int .i64 ((dryR size start ds).1)) rfl) rfl ?_
  refine rl_det (met_none rfl) (fun h_ H_ => exd_move (v := .int .i64 ((dryR size start ds).2)) rfl) rfl ?_
  refine rl_calld (met_none rfl) (first := []) (cap := []) rfl rfl fC76 (fun h_ H_ => c76 (.main true) _ _ (fun b_ o_ e_ => H_.per b_ o_ e_) (size) (start) _ _ _ _ D (by omega) ((dryR size start ds).1) ((dryR size start ds).2)) (tm' := _::_::_::_::_::_::_::_::_::_::_::_::_::_::_::_::_::_::_::_::_::_::_::_::_::_) rfl ?_
  refine rl_det (met_none rfl) (fun h_ H_ => exd_move (v := .tuple #[.int .i64 ((if (dryR size start ds).2 = 3 then 8 else (dryR size start ds).1)), .bool (decide ((dryR size start ds).2 = 3 ∨ ((dryR size start ds).2 = 0 ∧ IsDay ds ((dryR size start ds).1))))]) rfl) rfl ?_
  refine rl_det (met_none rfl) (fun h_ H_ => exd_extract rfl (v := .int .i64 ((if (dryR size start ds).2 = 3 then 8 else (dryR size start ds).1))) rfl) rfl ?_
  refine rl_det (met_none rfl) (fun h_ H_ => exd_extract rfl (v := .bool (decide ((dryR size start ds).2 = 3 ∨ ((dryR size start ds).2 = 0 ∧ IsDay ds ((dryR size start ds).1))))) rfl) (tm' := _::_::_::_::_::_::_::_::_::_::_::_::_::_::_::_::_::_::_::_::_::_::_::_::_::_::_::_) rfl ?_
  refine rl_det (met_none rfl) (fun h_ H_ => exd_assign (v := .int .i64 ((if (dryR size start ds).2 = 3 then 8 else (dryR size start ds).1))) rfl) rfl ?_
  refine rl_det (met_none rfl) (fun h_ H_ => exd_assign (v := .bool (decide ((dryR size start ds).2 = 3 ∨ ((dryR size start ds).2 = 0 ∧ IsDay ds ((dryR size start ds).1))))) rfl) rfl ?_
  refine rl_end ?_
  refine fl_seq ?_
  refine rl_start ?_
  refine rl_det (met_none rfl) (fun h_ H_ => exd_loadN_own H_ tA24 tS24 rfl (i := 0) rfl (vs := [.int .i64 (size), .int .i64 (start), .slice a n c]) rfl rfl) (tm' := _::_::_::_::_::_::_::_::_::_::_::_::_::_::_::_::_::_::_::_::_::_::_::_::_::_::_::_::_::_) rfl ?_
  refine rl_det (met_none rfl) (fun h_ H_ => exd_move (v := .int .i64 ((mustR size start ds).1)) rfl) rfl ?_
  refine rl_det (met_none rfl) (fun h_ H_ => exd_move (v := .int .i64 ((mustR size start ds).2)) rfl) rfl ?_
  refine rl_calld (met_none rfl) (first := []) (cap := []) rfl rfl fC76 (fun h_ H_ => c76 (.main true) _ _ (fun b_ o_ e_ => H_.per b_ o_ e_) (size) (start) _ _ _ _ D (by omega) ((mustR size start ds).1) ((mustR size start ds).2)) (tm' := [_,_,_,_,_,_,_,_,_,_,_,_,_,_,_,_,_,_,_,_,_,_,_,_,_,_,_,_,_,_,_,_,_,_,_,_,_,_,_,_,_,_,_,_,_]) rfl ?_
  refine rl_det (met_none rfl) (fun h_ H_ => exd_move (v := .tuple #[.int .i64 ((if (mustR size start ds).2 = 3 then 8 else (mustR size start ds).1)), .bool (decide ((mustR size start ds).2 = 3 ∨ ((mustR size start ds).2 = 0 ∧ IsDay ds ((mustR size start ds).1))))]) rfl) rfl ?_
  refine rl_det (met_none rfl) (fun h_ H_ => exd_extract rfl (v := .int .i64 ((if (mustR size start ds).2 = 3 then 8 else (mustR size start ds).1))) rfl) rfl ?_
  refine rl_det (met_none rfl) (fun h_ H_ => exd_extract rfl (v := .bool (decide ((mustR size start ds).2 = 3 ∨ ((mustR size start ds).2 = 0 ∧ IsDay ds ((mustR size start ds).1))))) rfl) (tm' := [_,_,_,_,_,_,_,_,_,_,_,_,_,_,_,_,_,_,_,_,_,_,_,_,_,_,_,_,_,_,_,_,_,_,_,_,_,_,_,_,_,_,_,_,_]) rfl ?_
  refine rl_det (met_none rfl) (fun h_ H_ => exd_assign (v := .int .i64 ((if (mustR size start ds).2 = 3 then 8 else (mustR size start ds).1))) rfl) rfl ?_
  refine rl_det (met_none rfl) (fun h_ H_ => exd_assign (v := .bool (decide ((mustR size start ds).2 = 3 ∨ ((mustR size start ds).2 = 0 ∧ IsDay ds ((mustR size start ds).1))))) rfl) rfl ?_
  refine rl_end ?_
  refine fl_seq ?_
  refine rl_start ?_
  refine rl_det (met_none rfl) (fun h_ H_ => exd_move (v := .int .i64 ((if (dryR size start ds).2 = 3 then 8 else (dryR size start ds).1))) rfl) (tm' := [_,_,_,_,_,_,_,_,_,_,_,_,_,_,_,_,_,_,_,_,_,_,_,_,_,_,_,_,_,_,_,_,_,_,_,_,_,_,_,_,_,_,_,_,_]) rfl ?_
  refine rl_det (met_none rfl) (fun h_ H_ => exd_move (v := .int .i64 ((if (mustR size start ds).2 = 3 then 8 else (mustR size start ds).1))) rfl) rfl ?_
  refine rl_det (met_none rfl) (fun h_ H_ => exd_move (v := .bool (decide ((dryR size start ds).2 = 3 ∨ ((dryR size start ds).2 = 0 ∧ IsDay ds ((dryR size start ds).1))))) rfl) rfl ?_
  refine rl_det (met_none rfl) (fun h_ H_ => exd_move (v := .bool (decide ((dryR size start ds).2 = 3 ∨ ((dryR size start ds).2 = 0 ∧ IsDay ds ((dryR size start ds).1))))) rfl) (tm' := [_,_,_,_,_,_,_,_,_,_,_,_,_,_,_,_,_,_,_,_,_,_,_,_,_,_,_,_,_,_,_,_,_,_,_,_,_,_,_,_,_,_,_,_,_]) rfl ?_
  refine rl_det (met_some rfl rfl (decide_eq_true hd1)) (fun h_ H_ => exd_move (v := .bool (decide ((mustR size start ds).2 = 3 ∨ ((mustR size start ds).2 = 0 ∧ IsDay ds ((mustR size start ds).1))))) rfl) rfl ?_
  refine rl_det (met_none rfl) (fun h_ H_ => exd_pick_t rfl (decide_eq_true hd1) (v := .bool (decide ((mustR size start ds).2 = 3 ∨ ((mustR size start ds).2 = 0 ∧ IsDay ds ((mustR size start ds).1))))) rfl) rfl ?_
  refine rl_det (met_none rfl) (fun h_ H_ => exd_move (v := .bool (decide ((mustR size start ds).2 = 3 ∨ ((mustR size start ds).2 = 0 ∧ IsDay ds ((mustR size start ds).1))))) rfl) (tm' := [_,_,_,_,_,_,_,_,_,_,_,_,_,_,_,_,_,_,_,_,_,_,_,_,_,_,_,_,_,_,_,_,_,_,_,_,_,_,_,_,_,_,_,_,_]) rfl ?_
  refine rl_det (met_some rfl rfl (decide_eq_true hm1)) (fun h_ H_ => exd_move (v := .int .i64 ((if (dryR size start ds).2 = 3 then 8 else (dryR size start ds).1))) rfl) rfl ?_
  refine rl_det (met_some rfl rfl (decide_eq_true hm1)) (fun h_ H_ => exd_move (v := .int .i64 ((if (mustR size start ds).2 = 3 then 8 else (mustR size start ds).1))) rfl) rfl ?_
  refine rl_det (met_some rfl rfl (decide_eq_true hm1)) (fun h_ H_ => exd_leq rfl rfl) (tm' := [_,_,_,_,_,_,_,_,_,_,_,_,_,_,_,_,_,_,_,_,_,_,_,_,_,_,_,_,_,_,_,_,_,_,_,_,_,_,_,_,_,_,_,_,_]) rfl ?_
  refine rl_det (met_none rfl) (fun h_ H_ => exd_pick_t rfl (decide_eq_true hm1) (v := .bool (decide ((if (dryR size start ds).2 = 3 then 8 else (dryR size start ds).1) ≤ (if (mustR size start ds).2 = 3 then 8 else (mustR size start ds).1)))) rfl) rfl ?_
  refine rl_det (met_none rfl) (fun h_ H_ => exd_assign (v := .int .i64 ((if (dryR size start ds).2 = 3 then 8 else (dryR size start ds).1))) rfl) rfl ?_
  refine rl_det (met_none rfl) (fun h_ H_ => exd_assign (v := .int .i64 ((if (mustR size start ds).2 = 3 then 8 else (mustR size start ds).1))) rfl) (tm' := _::_::_::_::_) rfl ?_
  refine rl_det (met_none rfl) (fun h_ H_ => exd_assign (v := .bool (decide ((if (dryR size start ds).2 = 3 then 8 else (dryR size start ds).1) ≤ (if (mustR size start ds).2 = 3 then 8 else (mustR size start ds).1)))) rfl) rfl ?_
  refine rl_end ?_
  refine fl_ret Try.func38 rfl (vs := [.int .i64 ((if (dryR size start ds).2 = 3 then 8 else (dryR size start ds).1)), .int .i64 ((if (mustR size start ds).2 = 3 then 8 else (mustR size start ds).1)), .bool (decide ((if (dryR size start ds).2 = 3 then 8 else (dryR size start ds).1) ≤ (if (mustR size start ds).2 = 3 then 8 else (mustR size start ds).1)))]) (fun h_ H_ => ⟨.int .i64 ((if (dryR size start ds).2 = 3 then 8 else (dryR size start ds).1)), _, rfl, rfl, ⟨.int .i64 ((if (mustR size start ds).2 = 3 then 8 else (mustR size start ds).1)), _, rfl, rfl, ⟨.bool (decide ((if (dryR size start ds).2 = 3 then 8 else (dryR size start ds).1) ≤ (if (mustR size start ds).2 = 3 then 8 else (mustR size start ds).1))), _, rfl, rfl, rfl⟩⟩⟩) (v := .tuple #[.int .i64 ((if (dryR size start ds).2 = 3 then 8 else (dryR size start ds).1)), .int .i64 ((if (mustR size start ds).2 = 3 then 8 else (mustR size start ds).1)), .bool (decide ((if (dryR size start ds).2 = 3 then 8 else (dryR size start ds).1) ≤ (if (mustR size start ds).2 = 3 then 8 else (mustR size start ds).1)))]) rfl ?_
  exact fun h_ H_ => K _ _ ⟨by have h_ := days_le hOk; unfold dayOr at h_ ⊢; rw [decide_eq_true h_], H_.kept⟩
end Go.Proofs.Ytbmkacnlhlbnjaa
namespace Go.Proofs.Ytbmkacnlhlbnjaa
open Go.X Go.X.Cist Go.Conc

/-- Between what the level, the lack, the sum of what ran over of a day is. -/
def levLo (size start : Int) (ds : List Day) (k : Nat) : Int := lev size (min start size) (wantOf ds) (loOf ds) (k + 1)
def levHi (size start : Int) (ds : List Day) (k : Nat) : Int := lev size (min start size) (wantOf ds) (hiOf ds) (k + 1)
def lackLo (size start : Int) (ds : List Day) (k : Nat) : Int := lack size (min start size) (wantOf ds) (hiOf ds) k
def lackHi (size start : Int) (ds : List Day) (k : Nat) : Int := lack size (min start size) (wantOf ds) (loOf ds) k
def overLo (size start : Int) (ds : List Day) (k : Nat) : Int := sumTo (ovr size (min start size) (wantOf ds) (loOf ds)) (k + 1)
def overHi (size start : Int) (ds : List Day) (k : Nat) : Int := sumTo (ovr size (min start size) (wantOf ds) (hiOf ds)) (k + 1)

section
variable {h : Heap} {p : PHeap} {size start : Int} {a : Option Addr} {n c : Nat} {ds : List Day}
theorem c23ok (hp : Per p h) (D : Days p a n ds) (hn : n ≤ 40) (hOk : Ok size start ds) (md : Md) : CallsX Try.prog md 23 #[.agg #[.int .i64 size, .int .i64 start, .slice a n c]] h fun v h' => v = .tuple #[.int .i64 (ratDown size start ds 20), .int .i64 0] ∧ Keep h h' :=
  (c23 md h p hp size start a n c ds D hn).mono fun v h' x => ⟨by rw [x.1, if_pos hOk, chk_yes hOk], x.2⟩
end
end Go.Proofs.Ytbmkacnlhlbnjaa
namespace Go.X.Cist
open Go.X Go.Proofs.Ytbmkacnlhlbnjaa

section
variable {size start : Int} {ds ds' : List Day} {xs : List Int} {n : Nat}

/-! ### each weather -/
/-! ### two parts -/
theorem lev_shift {want rain : Nat → Int} {c : Nat} : ∀ k, lev size start want rain (c + k) = lev size (lev size start want rain c) (fun i => want (c + i)) (fun i => rain (c + i)) k
  | 0 => rfl
  | k + 1 => by
    have h := lev_shift (want := want) (rain := rain) (c := c) k
    show lev size start want rain (c + k + 1) = _
    simp only [lev]
    rw [h]
theorem lack_congr {want want' rain rain' : Nat → Int} {k : Nat} (hw : ∀ i, i ≤ k → want i = want' i) (hr : ∀ i, i ≤ k → rain i = rain' i) : lack size start want rain k = lack size start want' rain' k := by
  have h := lev_congr (size := size) (start := start) k (fun i hi => hw i (by omega)) fun i hi => hr i (by omega)
  unfold lack ovr
  rw [h, hw k (Nat.le_refl _), hr k (Nat.le_refl _)]
theorem ovr_congr {want want' rain rain' : Nat → Int} {k : Nat} (hw : ∀ i, i ≤ k → want i = want' i) (hr : ∀ i, i ≤ k → rain i = rain' i) : ovr size start want rain k = ovr size start want' rain' k := by
  have h := lev_congr (size := size) (start := start) k (fun i hi => hw i (by omega)) fun i hi => hr i (by omega)
  unfold ovr
  rw [h, hr k (Nat.le_refl _)]
theorem nums_parts {f g h : Nat → Int} {c : Nat} (hc : c ≤ n) (h1 : ∀ i, i < c → f i = g i) (h2 : ∀ i, i < n - c → f (c + i) = h i) : nums f n = nums g c ++ nums h (n - c) := by
  refine List.ext_getElem (by simp [nums_length]; omega) fun i a b => ?_
  rw [nums_length] at a
  by_cases e : i < c
  · rw [List.getElem_append_left (by rw [nums_length]; exact e)]
    simpa [nums] using h1 i e
  · rw [List.getElem_append_right (by rw [nums_length]; omega)]
    have := h2 (i - c) (by omega)
    rw [show c + (i - c) = i from by omega] at this
    simpa [nums] using this
theorem want_take {c i : Nat} (h : i < c) : wantOf (ds.take c) i = wantOf ds i := by unfold wantOf; rw [List.getD_eq_getElem?_getD, List.getElem?_take, if_pos h, ← List.getD_eq_getElem?_getD]
theorem want_drop {c : Nat} : wantOf (ds.drop c) = fun i => wantOf ds (c + i) := by funext i; unfold wantOf; rw [List.getD_eq_getElem?_getD, List.getElem?_drop, ← List.getD_eq_getElem?_getD]
theorem list_take {c i : Nat} (h : i < c) : listOf (xs.take c) i = listOf xs i := by unfold listOf; rw [List.getD_eq_getElem?_getD, List.getElem?_take, if_pos h, ← List.getD_eq_getElem?_getD]
theorem list_drop {c : Nat} : listOf (xs.drop c) = fun i => listOf xs (c + i) := by funext i; unfold listOf; rw [List.getD_eq_getElem?_getD, List.getElem?_drop, ← List.getD_eq_getElem?_getD]
/-- The level behind the first part. -/
def cutStart (size start : Int) (ds : List Day) (xs : List Int) (c : Nat) : Int := lev size start (wantOf ds) (listOf xs) c
theorem parts {c : Nat} (h : c ≤ n) :
    nums (levs size start (wantOf ds) (listOf xs)) n = nums (levs size start (wantOf (ds.take c)) (listOf (xs.take c))) c ++ nums (levs size (cutStart size start ds xs c) (wantOf (ds.drop c)) (listOf (xs.drop c))) (n - c) ∧
    nums (lack size start (wantOf ds) (listOf xs)) n = nums (lack size start (wantOf (ds.take c)) (listOf (xs.take c))) c ++ nums (lack size (cutStart size start ds xs c) (wantOf (ds.drop c)) (listOf (xs.drop c))) (n - c) ∧
    nums (ovr size start (wantOf ds) (listOf xs)) n = nums (ovr size start (wantOf (ds.take c)) (listOf (xs.take c))) c ++ nums (ovr size (cutStart size start ds xs c) (wantOf (ds.drop c)) (listOf (xs.drop c))) (n - c) := by
  have e : ∀ k, lev size start (wantOf ds) (listOf xs) (c + k) = lev size (cutStart size start ds xs c) (wantOf (ds.drop c)) (listOf (xs.drop c)) k := fun k => by rw [lev_shift, want_drop, list_drop]; rfl
  have w : ∀ i, wantOf ds (c + i) = wantOf (ds.drop c) i := fun i => by rw [want_drop]
  have r : ∀ i, listOf xs (c + i) = listOf (xs.drop c) i := fun i => by rw [list_drop]
  refine ⟨nums_parts h (fun i hi => ?_) fun i hi => ?_, nums_parts h (fun i hi => ?_) fun i hi => ?_, nums_parts h (fun i hi => ?_) fun i hi => ?_⟩
  · exact lev_congr _ (fun i hi => (want_take (by omega)).symm) fun i hi => (list_take (by omega)).symm
  · exact e (i + 1)
  · exact lack_congr (fun i hi => (want_take (by omega)).symm) fun i hi => (list_take (by omega)).symm
  · unfold lack ovr; rw [e, w, r]
  · exact ovr_congr (fun i hi => (want_take (by omega)).symm) fun i hi => (list_take (by omega)).symm
  · unfold ovr; rw [e, r]
/-! ### less doubt -/
def setRain (ds : List Day) (i : Nat) (lo hi : Int) : List Day := ds.set i ⟨lo, hi, (ds.getD i dz).want⟩
/-- A year of which only the rain is narrower. -/
structure Narrow (ds ds' : List Day) : Prop where
  len : ds'.length = ds.length
  want : ∀ i, i < ds.length → wantOf ds' i = wantOf ds i
  lo : ∀ i, i < ds.length → loOf ds i ≤ loOf ds' i
  hi : ∀ i, i < ds.length → hiOf ds' i ≤ hiOf ds i
section
variable (hN : Narrow ds ds')
include hN
end
end
end Go.X.Cist
namespace Go.X
open Go.Conc

/-- A bound of a part: none, or a number. -/
inductive Bd (tm : List Value) : Option Operand → Nat → Nat → Prop
  | none (d : Nat) : Bd tm none d d
  | some {o : Operand} {k : IntKind} {z : Int} (d : Nat) (h : evl tm o = .int k z) (h0 : 0 ≤ z) : Bd tm (some o) d z.toNat
  | nat {o : Operand} {k : IntKind} {z : Nat} (d : Nat) (h : evl tm o = .int k (z : Nat)) : Bd tm (some o) d z
def cutA (a : Option Addr) (c l w : Nat) : Option Addr := if c = l then a else a.map (·.add (l * w))

section
variable {P : Program} {h : Heap} {tm : List Value} {d : Option Tmp} {ty : TypeId} {pos : String} {aft : Array Edge} {gd : Option (Nat × Bool)}
theorem Sl.part {p : PHeap} {a : Option Addr} {n c w l r : Nat} {es : List (List Value)} (s : Sl p a n w es) (hc : n ≤ c) (h1 : l ≤ r) (h2 : r ≤ n) : Sl p (cutA a c l w) (r - l) w ((es.drop l).take (r - l)) :=
  s.cut h1 h2 fun hlt => by unfold cutA; rw [if_neg (by omega), s.ne (by omega)]; rfl
end

section
variable {P : Program} {md : Md} {f : FuncId} {r : Rd} {df : List Deferred} {k : List Item} {cs : List Frame} {Stop : Goroutine → Heap → Prop} {ops rest : List Oper} {tm : List Value}
  {h₀ : Heap} {B₀ : List Nat} {p : PHeap} {A X C : Pcs} {T : TypeId} {w : Nat} {v : Value} {es : List (List Value)} {n : Nat} {g : Goroutine}
theorem OwnS.room (o : OwnS T w v es X) (hw : 0 < w) {a : Option Addr} {m cap : Nat} (e : v = .slice a m cap) : m ≤ cap := by
  obtain ⟨h1, ⟨rfl, rfl, rfl⟩ | ⟨b, cs, cap', rest, rfl, rfl, hcs, hlen⟩⟩ := o
  · cases e; exact Nat.le_refl _
  · cases e
    have h2 := flatten_length h1
    have h3 : cs.length = es.flatten.length + rest.length := by rw [hcs]; simp
    have : es.length * w ≤ cap * w := by omega
    exact Nat.le_of_mul_le_mul_right this hw
end
end Go.X
namespace Go.X.Cist
open Go.X Go.Proofs.Ytbmkacnlhlbnjaa Go.Conc

section
variable {p : PHeap} {a : Option Addr} {n c l r : Nat} {ds es : List Day} {xs : List Int}
theorem days_yes (hl : ds.length = es.length) (h : ∀ i, i < ds.length → ds.getD i dz = es.getD i dz) : ds = es := ext_getD (d := dz) hl h
theorem eq_step {k : Nat} (h : ∀ i, i < k → ds.getD i dz = es.getD i dz) (e : ds.getD k dz = es.getD k dz) : ∀ i, i < k + 1 → ds.getD i dz = es.getD i dz := fun i hi => by
  by_cases c : i = k
  · subst c; exact e
  · exact h i (by omega)
theorem Days.pre (D : Days p a n ds) (hc : n ≤ c) (h : r ≤ n) : Days p (cutA a c 0 3) r (ds.take r) := by
  have := Sl.part D hc (Nat.zero_le r) h
  unfold Days dcs
  rw [List.map_take]
  simpa [dcs] using this
theorem Ints.pre (D : Ints p a n xs) (hc : n ≤ c) (h : r ≤ n) : Ints p (cutA a c 0 1) r (xs.take r) := by
  have := Sl.part D hc (Nat.zero_le r) h
  unfold Ints
  rw [List.map_take]
  simpa using this
end
end Go.X.Cist
namespace Go.X
open Go.Conc

/-- 'Q' of an operation sees only those in 'anc'. -/
def Qr (anc : Nat → List Nat) (Q : Nat → (Nat → Value) → (Nat → Pcs) → Value → Pcs → Prop) (val : Nat → Value) (piece : Nat → Pcs) (i : Nat) : Value → Pcs → Prop :=
  Q i (fun j => if (anc i).contains j = true then val j else undef) (fun j => if (anc i).contains j = true then piece j else [])
def ancok (ops : List Oper) (m : Nat) (cl : List (List Nat)) (anc : Nat → List Nat) : Bool :=
  ops.zipIdx.all fun (o, i) => !decide (i < m) || (anc i).all fun j => behind cl o j
/-- What is asked of an operation whose turn it is. -/
def OpMix2 (P : Program) (md : Md) (ops : List Oper) (tmF : (Nat → Value) → List Value) (h₀ : Heap) (B₀ : List Nat) (p : PHeap) (A : Pcs) (ini : List Nat) (X : Nat → Pcs) (use : Nat → List Nat) (anc : Nat → List Nat) (Q : Nat → (Nat → Value) → (Nat → Pcs) → Value → Pcs → Prop) (i : Nat) (o : Oper) : Prop :=
  ∀ val piece, (∀ j, (anc i).contains j = true → Qr anc Q val piece j (val j) (piece j)) → (∀ j ∈ ini, piece j = X j) →
    (Met ops (tmF val) o true ∧ ∀ C h, St h₀ B₀ p h ((use i).flatMap piece ++ (A ++ C)) →
      Exv P (tmF val) o h (fun v h' => ∃ x, Qr anc Q val piece i v x ∧ St h₀ B₀ p h' (x ++ (A ++ C))) ∨
      (∃ g args, (wpS P (execOp (evl (tmF val)) o) h fun n h' => n = .enter g args ∧ h' = h) ∧ CallsX P md g args h (fun v h' => ∃ x, Qr anc Q val piece i v x ∧ St h₀ B₀ p h' (x ++ (A ++ C))))) ∨
    (Met ops (tmF val) o false ∧ (use i).flatMap piece = [] ∧ Qr anc Q val piece i undef [])

section
variable {P : Program} {md : Md} {ops : List Oper} {m : Nat} {f : FuncId} {r : Rd} {df : List Deferred} {k : List Item} {cs : List Frame} {Stop : Goroutine → Heap → Prop} {tm : List Value}
  {h₀ : Heap} {B₀ : List Nat} {p : PHeap} {A C : Pcs} {ini : List Nat} {X : Nat → Pcs} {use : Nat → List Nat} {anc : Nat → List Nat} {Q : Nat → (Nat → Value) → (Nat → Pcs) → Value → Pcs → Prop} {tmF : (Nat → Value) → List Value}

end
end Go.X
namespace Go.Proofs.Ytbmkacnlhlbnjaa
open Go.X Go.X.Cist Go.Conc
set_option maxRecDepth 10000

end Go.Proofs.Ytbmkacnlhlbnjaa
namespace Go.Proofs.Ytbmkacnlhlbnjaa
open Go.X Go.X.Cist Go.Conc
set_option maxRecDepth 10000

theorem c37 (md : Md) (h : Heap) (p : PHeap) (hp : Per p h) (size start : Int) (a : Option Addr) (n c : Nat) (ds : List Day) (D : Days p a n ds) (size2 start2 : Int) (a2 : Option Addr) (n2 c2 : Nat) (es : List Day) (E : Days p a2 n2 es) (hn : n ≤ 40) : CallsX Try.prog md 37 #[.agg #[.int .i64 (size), .int .i64 (start), .slice a n c], .agg #[.int .i64 (size2), .int .i64 (start2), .slice a2 n2 c2]] h fun v h' => v = .bool (decide (size = size2 ∧ start = start2 ∧ ds = es)) ∧ Keep h h' := by
  refine calls_intro (Φ := fun h_ => St h [] p h_ []) Try.func37 rfl (tm := [_, _, _, _, _, _, _, _, _, _, _, _, _, _, _, _, _, _, _, _, _, _, _, _, _, _, _, _, _, _, _, _, _, _, _, _, _, _, _, _, _, _, _, _, _]) rfl ?_ (St.start h _ hp)
  intro c₀ cs Stop K
  have hl := D.len
  have hl2 := E.len
  refine fl_seq ?_
  refine rl_start ?_
  refine rl_box (met_none rfl) (v := .agg #[.int .i64 (size), .int .i64 (start), .slice a n c]) rfl fun b1 => rl_own (L' := [(b1, .cells #[.int .i64 (size), .int .i64 (start), .slice a n c] 24 (0, 0))]) rfl ?_
  refine rl_box (met_none rfl) (v := .agg #[.int .i64 (size2), .int .i64 (start2), .slice a2 n2 c2]) rfl fun b2 => rl_own (L' := [(b2, .cells #[.int .i64 (size2), .int .i64 (start2), .slice a2 n2 c2] 24 (0, 0)), (b1, .cells #[.int .i64 (size), .int .i64 (start), .slice a n c] 24 (0, 0))]) rfl ?_
  refine rl_det (met_none rfl) (fun h_ H_ => exd_assign (v := .bool (false)) rfl) (tm' := _::_::_::_::_::_) rfl ?_
  refine rl_end ?_
  refine fl_seq ?_
  refine fl_seq ?_
  refine rl_start ?_
  refine rl_det (met_none rfl) (fun h_ H_ => exd_fieldAddr tF24_0 rfl (a' := ⟨b1, 0, none⟩) rfl) rfl ?_
  refine rl_det (met_none rfl) (fun h_ H_ => exd_load_own H_ tA3 rfl (i := 1) rfl (v := .int .i64 (size)) rfl) rfl ?_
  refine rl_det (met_none rfl) (fun h_ H_ => exd_fieldAddr tF24_0 rfl (a' := ⟨b2, 0, none⟩) rfl) (tm' := _::_::_::_::_::_::_::_::_::_) rfl ?_
  refine rl_det (met_none rfl) (fun h_ H_ => exd_load_own H_ tA3 rfl (i := 0) rfl (v := .int .i64 (size2)) rfl) rfl ?_
  refine rl_det (met_none rfl) (fun h_ H_ => exd_neq rfl rfl) rfl ?_
  refine rl_det (met_none rfl) (fun h_ H_ => exd_move (v := .bool (decide (size ≠ size2))) rfl) (tm' := _::_::_::_::_::_::_::_::_::_::_::_::_) rfl ?_
  by_cases cc3 : size ≠ size2
  · refine rl_pass (met_not rfl rfl (decide_eq_true cc3)) rfl ?_
    refine rl_pass (met_not rfl rfl (decide_eq_true cc3)) rfl ?_
    refine rl_pass (met_not rfl rfl (decide_eq_true cc3)) (tm' := _::_::_::_::_::_::_::_::_::_::_::_::_::_::_::_) rfl ?_
    refine rl_pass (met_not rfl rfl (decide_eq_true cc3)) rfl ?_
    refine rl_pass (met_not rfl rfl (decide_eq_true cc3)) rfl ?_
    refine rl_det (met_none rfl) (fun h_ H_ => exd_pick_t rfl (decide_eq_true cc3) (v := .bool (true)) rfl) (tm' := _::_::_::_::_::_::_::_::_::_::_::_::_::_::_::_::_::_::_) rfl ?_
    refine rl_det (met_none rfl) (fun h_ H_ => exd_move (v := .bool (true)) rfl) rfl ?_
    refine rl_pass (met_not rfl rfl rfl) rfl ?_
    refine rl_pass (met_not rfl rfl rfl) (tm' := _::_::_::_::_::_::_::_::_::_::_::_::_::_::_::_::_::_::_::_::_::_) rfl ?_
    refine rl_pass (met_not rfl rfl rfl) rfl ?_
    refine rl_pass (met_not rfl rfl rfl) rfl ?_
    refine rl_pass (met_not rfl rfl rfl) (tm' := _::_::_::_::_::_::_::_::_::_::_::_::_::_::_::_::_::_::_::_::_::_::_::_::_) rfl ?_
    refine rl_pass (met_not rfl rfl rfl) rfl ?_
    refine rl_pass (met_not rfl rfl rfl) rfl ?_
    refine rl_det (met_none rfl) (fun h_ H_ => exd_pick_t rfl rfl (v := .bool (true)) rfl) (tm' := _::_::_::_::_::_::_::_::_::_::_::_::_::_::_::_::_::_::_::_::_::_::_::_::_::_::_::_) rfl ?_
    refine rl_end ?_
    refine fl_then rfl rfl ?_
    refine fl_seq ?_
    refine rl_start ?_
    refine rl_det (met_none rfl) (fun h_ H_ => exd_assign (v := .bool (false)) rfl) rfl ?_
    refine rl_end ?_
    refine fl_ret Try.func37 rfl (vs := [.bool (false)]) (fun h_ H_ => ⟨.bool (false), _, rfl, rfl, rfl⟩) (v := .bool (false)) rfl ?_
    exact fun h_ H_ => K _ _ ⟨by first | (rw [decide_eq_false]; rintro ⟨e1, e2, e3⟩; first | (exact ‹¬ _› e1) | (exact ‹¬ _› e2) | omega | (subst e3; omega) | (subst e3; simp at *) | (exact ‹¬ _› (by rw [e3]))) | (rw [decide_eq_true]; exact ⟨by omega, by omega, days_yes (by omega) fun i hi => hs i (by omega)⟩), H_.kept⟩
  · refine rl_det (met_some rfl rfl (decide_eq_false cc3)) (fun h_ H_ => exd_fieldAddr tF24_1 rfl (a' := ⟨b1, 1, none⟩) rfl) rfl ?_
    refine rl_det (met_some rfl rfl (decide_eq_false cc3)) (fun h_ H_ => exd_load_own H_ tA3 rfl (i := 1) rfl (v := .int .i64 (start)) rfl) (tm' := _::_::_::_::_::_::_::_::_::_::_::_::_::_::_) rfl ?_
    refine rl_det (met_some rfl rfl (decide_eq_false cc3)) (fun h_ H_ => exd_fieldAddr tF24_1 rfl (a' := ⟨b2, 1, none⟩) rfl) rfl ?_
    refine rl_det (met_some rfl rfl (decide_eq_false cc3)) (fun h_ H_ => exd_load_own H_ tA3 rfl (i := 0) rfl (v := .int .i64 (start2)) rfl) rfl ?_
    refine rl_det (met_some rfl rfl (decide_eq_false cc3)) (fun h_ H_ => exd_neq rfl rfl) (tm' := _::_::_::_::_::_::_::_::_::_::_::_::_::_::_::_::_::_) rfl ?_
    refine rl_det (met_none rfl) (fun h_ H_ => exd_pick_f rfl (decide_eq_false cc3) (v := .bool (decide (start ≠ start2))) rfl) rfl ?_
    refine rl_det (met_none rfl) (fun h_ H_ => exd_move (v := .bool (decide (start ≠ start2))) rfl) rfl ?_
    by_cases cc4 : start ≠ start2
    · refine rl_pass (met_not rfl rfl (decide_eq_true cc4)) (tm' := _::_::_::_::_::_::_::_::_::_::_::_::_::_::_::_::_::_::_::_::_) rfl ?_
      refine rl_pass (met_not rfl rfl (decide_eq_true cc4)) rfl ?_
      refine rl_pass (met_not rfl rfl (decide_eq_true cc4)) rfl ?_
      refine rl_pass (met_not rfl rfl (decide_eq_true cc4)) (tm' := _::_::_::_::_::_::_::_::_::_::_::_::_::_::_::_::_::_::_::_::_::_::_::_) rfl ?_
      refine rl_pass (met_not rfl rfl (decide_eq_true cc4)) rfl ?_
      refine rl_pass (met_not rfl rfl (decide_eq_true cc4)) rfl ?_
      refine rl_pass (met_not rfl rfl (decide_eq_true cc4)) (tm' := _::_::_::_::_::_::_::_::_::_::_::_::_::_::_::_::_::_::_::_::_::_::_::_::_::_::_) rfl ?_
      refine rl_det (met_none rfl) (fun h_ H_ => exd_pick_t rfl (decide_eq_true cc4) (v := .bool (true)) rfl) rfl ?_
      refine rl_end ?_
      refine fl_then rfl rfl ?_
      refine fl_seq ?_
      refine rl_start ?_
      refine rl_det (met_none rfl) (fun h_ H_ => exd_assign (v := .bool (false)) rfl) rfl ?_
      refine rl_end ?_
      refine fl_ret Try.func37 rfl (vs := [.bool (false)]) (fun h_ H_ => ⟨.bool (false), _, rfl, rfl, rfl⟩) (v := .bool (false)) rfl ?_
      exact fun h_ H_ => K _ _ ⟨by first | (rw [decide_eq_false]; rintro ⟨e1, e2, e3⟩; first | (exact ‹¬ _› e1) | (exact ‹¬ _› e2) | omega | (subst e3; omega) | (subst e3; simp at *) | (exact ‹¬ _› (by rw [e3]))) | (rw [decide_eq_true]; exact ⟨by omega, by omega, days_yes (by omega) fun i hi => hs i (by omega)⟩), H_.kept⟩
    · refine rl_det (met_some rfl rfl (decide_eq_false cc4)) (fun h_ H_ => exd_fieldAddr tF24_2 rfl (a' := ⟨b1, 2, none⟩) rfl) (tm' := _::_::_::_::_::_::_::_::_::_::_::_::_::_::_::_::_::_::_::_::_) rfl ?_
      refine rl_det (met_some rfl rfl (decide_eq_false cc4)) (fun h_ H_ => exd_load_own H_ tA22 rfl (i := 1) rfl (v := .slice a n c) rfl) rfl ?_
      refine rl_det (met_some rfl rfl (decide_eq_false cc4)) (fun h_ H_ => exd_len Try.underlying22 rfl) rfl ?_
      refine rl_det (met_some rfl rfl (decide_eq_false cc4)) (fun h_ H_ => exd_fieldAddr tF24_2 rfl (a' := ⟨b2, 2, none⟩) rfl) (tm' := _::_::_::_::_::_::_::_::_::_::_::_::_::_::_::_::_::_::_::_::_::_::_::_) rfl ?_
      refine rl_det (met_some rfl rfl (decide_eq_false cc4)) (fun h_ H_ => exd_load_own H_ tA22 rfl (i := 0) rfl (v := .slice a2 n2 c2) rfl) rfl ?_
      refine rl_det (met_some rfl rfl (decide_eq_false cc4)) (fun h_ H_ => exd_len Try.underlying22 rfl) rfl ?_
      refine rl_det (met_some rfl rfl (decide_eq_false cc4)) (fun h_ H_ => exd_neq rfl rfl) (tm' := _::_::_::_::_::_::_::_::_::_::_::_::_::_::_::_::_::_::_::_::_::_::_::_::_::_::_) rfl ?_
      refine rl_det (met_none rfl) (fun h_ H_ => exd_pick_f rfl (decide_eq_false cc4) (v := .bool (decide (((n : Nat) : Int) ≠ ((n2 : Nat) : Int)))) rfl) rfl ?_
      refine rl_end ?_
      by_cases cc5 : ((n : Nat) : Int) ≠ ((n2 : Nat) : Int)
      · refine fl_then rfl (decide_eq_true cc5) ?_
        refine fl_seq ?_
        refine rl_start ?_
        refine rl_det (met_none rfl) (fun h_ H_ => exd_assign (v := .bool (false)) rfl) rfl ?_
        refine rl_end ?_
        refine fl_ret Try.func37 rfl (vs := [.bool (false)]) (fun h_ H_ => ⟨.bool (false), _, rfl, rfl, rfl⟩) (v := .bool (false)) rfl ?_
        exact fun h_ H_ => K _ _ ⟨by first | (rw [decide_eq_false]; rintro ⟨e1, e2, e3⟩; first | (exact ‹¬ _› e1) | (exact ‹¬ _› e2) | omega | (subst e3; omega) | (subst e3; simp at *) | (exact ‹¬ _› (by rw [e3]))) | (rw [decide_eq_true]; exact ⟨by omega, by omega, days_yes (by omega) fun i hi => hs i (by omega)⟩), H_.kept⟩
      · refine fl_else rfl (decide_eq_false cc5) ?_
        refine fl_skip ?_
        refine fl_seq ?_
        refine fl_seq ?_
        refine rl_start ?_
        refine rl_det (met_none rfl) (fun h_ H_ => exd_assign (v := .int .i64 0) rfl) (tm' := _::_::_::_::_::_::_) rfl ?_
        refine rl_end ?_
        refine fl_block ?_
        refine fl_loop (m₀ := n - 0) (fun m_ tm_ h_ => ∃ (k : Nat), m_ = n - k ∧ (∃ y6 : Nat → Value, tm_ = [.agg #[.int .i64 (size), .int .i64 (start), .slice a n c], .agg #[.int .i64 (size2), .int .i64 (start2), .slice a2 n2 c2], .pointer (some ⟨b1, 0, none⟩), .pointer (some ⟨b2, 0, none⟩), (y6 4), .int .i64 (((k : Nat) : Int)), .pointer (some ⟨b1, 0, none⟩), .int .i64 (size), .pointer (some ⟨b2, 0, none⟩), .int .i64 (size2), .bool (decide (size ≠ size2)), .bool (decide (size ≠ size2)), .pointer (some ⟨b1, 1, none⟩), .int .i64 (start), .pointer (some ⟨b2, 1, none⟩), .int .i64 (start2), .bool (decide (start ≠ start2)), .bool (decide (start ≠ start2)), .bool (decide (start ≠ start2)), .pointer (some ⟨b1, 2, none⟩), .slice a n c, .int .i64 (((n : Nat) : Int)), .pointer (some ⟨b2, 2, none⟩), .slice a2 n2 c2, .int .i64 (((n2 : Nat) : Int)), .bool (decide (((n : Nat) : Int) ≠ ((n2 : Nat) : Int))), .bool (decide (((n : Nat) : Int) ≠ ((n2 : Nat) : Int))), (y6 27), (y6 28), (y6 29), (y6 30), (y6 31), (y6 32), (y6 33), (y6 34), (y6 35), (y6 36), (y6 37), (y6 38), (y6 39), (y6 40), (y6 41), (y6 42), (y6 43), (y6 44)]) ∧ (k ≤ n) ∧ (∀ i, i < k → ds.getD i dz = es.getD i dz) ∧ St h [] p h_ ([(b2, .cells #[.int .i64 (size2), .int .i64 (start2), .slice a2 n2 c2] 24 (0, 0)), (b1, .cells #[.int .i64 (size), .int .i64 (start), .slice a n c] 24 (0, 0))])) (fun h_ H_ => ⟨0, rfl, (y_of rfl), Nat.zero_le _, (fun i hi => absurd hi (Nat.not_lt_zero i)), H_⟩) ?_
        intro m_ tm_ IH7
        refine rs_ex fun k => rs_and fun hm_ => rs_and fun ht_ => rs_and fun hk => rs_and fun hs => ?_
        subst hm_; obtain ⟨y6, ht_⟩ := ht_; subst ht_
        refine fl_seq ?_
        refine fl_seq ?_
        refine rl_start ?_
        refine rl_det (met_none rfl) (fun h_ H_ => exd_move (v := .int .i64 (((k : Nat) : Int))) rfl) rfl ?_
        refine rl_det (met_none rfl) (fun h_ H_ => exd_fieldAddr tF24_2 rfl (a' := ⟨b1, 2, none⟩) rfl) rfl ?_
        refine rl_det (met_none rfl) (fun h_ H_ => exd_load_own H_ tA22 rfl (i := 1) rfl (v := .slice a n c) rfl) (tm' := _::_::_::_::_::_::_::_::_::_::_::_::_::_::_::_::_::_::_::_::_::_::_::_::_::_::_::_::_::_::_) rfl ?_
        refine rl_det (met_none rfl) (fun h_ H_ => exd_len Try.underlying22 rfl) rfl ?_
        refine rl_det (met_none rfl) (fun h_ H_ => exd_lss rfl rfl) rfl ?_
        refine rl_end ?_
        by_cases cc8 : ((k : Nat) : Int) < ((n : Nat) : Int)
        · refine fl_then rfl (decide_eq_true cc8) ?_
          refine fl_skip ?_
          refine fl_seq ?_
          refine fl_block ?_
          refine fl_seq ?_
          refine fl_drawn2 10 [[], [0], [], [0, 1, 2], [0, 1, 2, 3], [], [5], [], [5, 6, 7], [5, 6, 7, 8], []] mixed (by kernel_rfl) (Nat.le_of_ble_eq_true rfl) ?_
          refine swr_det (met_none rfl) (fun h_ H_ => exd_fieldAddr tF24_2 rfl (a' := ⟨b1, 2, none⟩) rfl) rfl ?_
          refine swr_det (met_none rfl) (fun h_ H_ => exd_load_own H_ tA22 rfl (i := 1) rfl (v := .slice a n c) rfl) (tm' := [_,_,_,_,_,_,_,_,_,_,_,_,_,_,_,_,_,_,_,_,_,_,_,_,_,_,_,_,_,_,_,_,_,_,_,_,_,_,_,_,_,_,_,_,_]) rfl ?_
          refine swr_det (met_none rfl) (fun h_ H_ => exd_move (v := .int .i64 (((k : Nat) : Int))) rfl) rfl ?_
          refine swr_det (met_none rfl) (fun h_ H_ => exd_indexAddrN (i := k) Try.underlying22 tS38 (sl_ne a n c (D.ne (by omega))) rfl (by omega)) (tm' := [_,_,_,_,_,_,_,_,_,_,_,_,_,_,_,_,_,_,_,_,_,_,_,_,_,_,_,_,_,_,_,_,_,_,_,_,_,_,_,_,_,_,_,_,_]) rfl ?_
          refine swr_det (met_none rfl) (fun h_ H_ => exd_loadN_per H_ tA38 tS38 rfl (vs := [.int .i64 ((ds.getD k dz).lo), .int .i64 ((ds.getD k dz).hi), .int .i64 ((ds.getD k dz).want)]) rfl (D.all (by omega))) rfl ?_
          refine swr_det (met_none rfl) (fun h_ H_ => exd_fieldAddr tF24_2 rfl (a' := ⟨b2, 2, none⟩) rfl) (tm' := [_,_,_,_,_,_,_,_,_,_,_,_,_,_,_,_,_,_,_,_,_,_,_,_,_,_,_,_,_,_,_,_,_,_,_,_,_,_,_,_,_,_,_,_,_]) rfl ?_
          refine swr_det (met_none rfl) (fun h_ H_ => exd_load_own H_ tA22 rfl (i := 0) rfl (v := .slice a2 n2 c2) rfl) rfl ?_
          refine swr_det (met_none rfl) (fun h_ H_ => exd_move (v := .int .i64 (((k : Nat) : Int))) rfl) (tm' := [_,_,_,_,_,_,_,_,_,_,_,_,_,_,_,_,_,_,_,_,_,_,_,_,_,_,_,_,_,_,_,_,_,_,_,_,_,_,_,_,_,_,_,_,_]) rfl ?_
          refine swr_det (met_none rfl) (fun h_ H_ => exd_indexAddrN (i := k) Try.underlying22 tS38 (sl_ne a2 n2 c2 (E.ne (by omega))) rfl (by omega)) rfl ?_
          refine swr_det (met_none rfl) (fun h_ H_ => exd_loadN_per H_ tA38 tS38 rfl (vs := [.int .i64 ((es.getD k dz).lo), .int .i64 ((es.getD k dz).hi), .int .i64 ((es.getD k dz).want)]) rfl (E.all (by omega))) (tm' := [_,_,_,_,_,_,_,_,_,_,_,_,_,_,_,_,_,_,_,_,_,_,_,_,_,_,_,_,_,_,_,_,_,_,_,_,_,_,_,_,_,_,_,_,_]) rfl ?_
          refine swr_nil rfl ?_
          refine rl_det (met_none rfl) (fun h_ H_ => exd_neqAgg gT38 (dayEq 9997 (ds.getD k dz) (es.getD k dz)) rfl rfl) rfl ?_
          refine rl_end ?_
          by_cases cc9 : (ds.getD k dz) = (es.getD k dz)
          · refine fl_else rfl (not_f (decide_eq_true cc9)) ?_
            refine fl_skip ?_
            refine fl_inBlock ?_
            refine rl_start ?_
            refine rl_det (met_none rfl) (fun h_ H_ => exd_move (v := .int .i64 (((k : Nat) : Int))) rfl) rfl ?_
            refine rl_det (met_none rfl) (fun h_ H_ => exd_add rfl rfl (n := ((k + 1 : Nat) : Int)) (wr (by omega))) (tm' := [_,_,_,_,_,_,_,_,_,_,_,_,_,_,_,_,_,_,_,_,_,_,_,_,_,_,_,_,_,_,_,_,_,_,_,_,_,_,_,_,_,_,_,_,_]) rfl ?_
            refine rl_det (met_none rfl) (fun h_ H_ => exd_assign (v := .int .i64 (((k + 1 : Nat) : Int))) rfl) rfl ?_
            refine rl_end ?_
            exact fun h_ H_ => IH7 _ _ (by omega) h_ ⟨k + 1, rfl, (y_of rfl), (by omega), (eq_step hs (by first | exact Decidable.not_not.1 ‹_› | assumption)), H_⟩
          · refine fl_then rfl (not_t (decide_eq_false cc9)) ?_
            refine fl_seq ?_
            refine rl_start ?_
            refine rl_det (met_none rfl) (fun h_ H_ => exd_assign (v := .bool (false)) rfl) rfl ?_
            refine rl_end ?_
            refine fl_ret Try.func37 rfl (vs := [.bool (false)]) (fun h_ H_ => ⟨.bool (false), _, rfl, rfl, rfl⟩) (v := .bool (false)) rfl ?_
            exact fun h_ H_ => K _ _ ⟨by first | (rw [decide_eq_false]; rintro ⟨e1, e2, e3⟩; first | (exact ‹¬ _› e1) | (exact ‹¬ _› e2) | omega | (subst e3; omega) | (subst e3; simp at *) | (exact ‹¬ _› (by rw [e3]))) | (rw [decide_eq_true]; exact ⟨by omega, by omega, days_yes (by omega) fun i hi => hs i (by omega)⟩), H_.kept⟩
        · refine fl_else rfl (decide_eq_false cc8) ?_
          refine fl_exit rfl ?_
          refine fl_seq ?_
          refine rl_start ?_
          refine rl_det (met_none rfl) (fun h_ H_ => exd_assign (v := .bool (true)) rfl) (tm' := _::_::_::_::_::_) rfl ?_
          refine rl_end ?_
          refine fl_ret Try.func37 rfl (vs := [.bool (true)]) (fun h_ H_ => ⟨.bool (true), _, rfl, rfl, rfl⟩) (v := .bool (true)) rfl ?_
          exact fun h_ H_ => K _ _ ⟨by first | (rw [decide_eq_false]; rintro ⟨e1, e2, e3⟩; first | (exact ‹¬ _› e1) | (exact ‹¬ _› e2) | omega | (subst e3; omega) | (subst e3; simp at *) | (exact ‹¬ _› (by rw [e3]))) | (rw [decide_eq_true]; exact ⟨by omega, by omega, days_yes (by omega) fun i hi => hs i (by omega)⟩), H_.kept⟩
end Go.Proofs.Ytbmkacnlhlbnjaa
namespace Go.Proofs.Ytbmkacnlhlbnjaa
open Go.X Go.X.Cist Go.Conc
set_option maxRecDepth 10000

set_option maxHeartbeats 8000000
theorem e9 (h : Heap) (p : PHeap) (hp : Per p h) (size start : Int) (a : Option Addr) (n c : Nat) (ds : List Day) (D : Days p a n ds) (b : Option Addr) (m d : Nat) (xs : List Int) (W : Ints p b m xs) (k : Int) (hk64 : -9223372036854775808 ≤ k ∧ k ≤ 9223372036854775807) : EntersX Try.prog (.main true) 9 #[.agg #[.int .i64 (size), .int .i64 (start), .slice a n c], .slice b m d, .int .i64 (k)] h fun v h' => v = .bool true ∧ Keep h h' := by
  refine enters_intro (Φ := fun h_ => St h [] p h_ []) Try.func9 rfl (tm := [_, _, _, _, _, _, _, _, _, _, _, _, _, _, _, _, _, _, _, _, _, _, _, _, _, _, _, _, _, _, _, _, _, _, _, _, _, _, _, _, _, _, _, _, _, _, _, _, _, _, _, _, _, _, _, _, _, _, _, _, _, _, _, _, _, _, _, _, _, _, _, _, _, _, _, _, _, _, _, _, _, _, _, _, _, _, _, _, _, _, _, _, _, _, _, _, _, _, _, _, _, _, _, _, _, _, _, _, _, _, _, _, _, _, _, _, _, _, _, _, _, _, _, _, _, _, _, _, _, _, _, _, _, _, _, _, _, _, _, _, _, _, _, _, _, _, _, _, _, _, _, _, _, _, _, _, _, _, _, _, _, _, _, _, _, _, _, _, _, _, _, _, _, _, _, _, _, _, _, _, _, _, _, _, _, _, _, _, _, _, _, _, _, _, _, _, _, _, _, _, _, _, _, _, _, _, _, _, _, _, _, _, _]) rfl ?_ (St.start h _ hp)
  intro K
  have hl := D.len
  have hm := W.len
  refine fl_seq ?_
  refine rl_start ?_
  refine rl_box (met_none rfl) (v := .agg #[.int .i64 (size), .int .i64 (start), .slice a n c]) rfl fun b1 => rl_own (L' := [(b1, .cells #[.int .i64 (size), .int .i64 (start), .slice a n c] 24 (0, 0))]) rfl ?_
  refine rl_det (met_none rfl) (fun h_ H_ => exd_assign (v := .bool (false)) rfl) rfl ?_
  refine rl_end ?_
  refine fl_seq ?_
  refine fl_seq ?_
  refine rl_start ?_
  refine rl_det (met_none rfl) (fun h_ H_ => exd_loadN_own H_ tA24 tS24 rfl (i := 0) rfl (vs := [.int .i64 (size), .int .i64 (start), .slice a n c]) rfl rfl) (tm' := _::_::_::_::_::_::_::_::_::_::_::_::_::_::_::_::_::_::_::_::_::_::_::_::_::_::_::_::_) rfl ?_
  refine rl_calld (met_none rfl) (first := []) (cap := []) rfl rfl fC21 (fun h_ H_ => c21 (.main true) _ _ (fun b_ o_ e_ => H_.per b_ o_ e_) size start _ _ _ _ D) rfl ?_
  refine rl_det (met_none rfl) (fun h_ H_ => exd_not rfl) rfl ?_
  refine rl_det (met_none rfl) (fun h_ H_ => exd_move (v := .bool (!(decide (¬ FarD size start ds ∧ ds.length ≤ 40 ∧ Ok size start ds)))) rfl) (tm' := _::_::_::_::_::_::_::_::_::_::_::_::_::_::_::_::_::_::_::_::_::_::_::_::_::_::_::_::_::_::_::_) rfl ?_
  by_cases cc2 : ¬ FarD size start ds ∧ ds.length ≤ 40 ∧ Ok size start ds
  · have hoq := cc2.2.2; have hoq1 := hoq.1; have hoq2 := hoq.2.1
    refine rl_det (met_some rfl rfl (not_f (decide_eq_true cc2))) (fun h_ H_ => exd_move (v := .slice b m d) rfl) rfl ?_
    refine rl_det (met_some rfl rfl (not_f (decide_eq_true cc2))) (fun h_ H_ => exd_len Try.underlying25 rfl) rfl ?_
    refine rl_det (met_some rfl rfl (not_f (decide_eq_true cc2))) (fun h_ H_ => exd_gtr rfl rfl) (tm' := _::_::_::_::_::_::_::_::_::_::_::_::_::_::_::_::_::_::_::_::_::_::_::_::_::_::_::_::_::_::_::_::_::_::_) rfl ?_
    refine rl_det (met_none rfl) (fun h_ H_ => exd_pick_f rfl (not_f (decide_eq_true cc2)) (v := .bool (decide (40 < ((m : Nat) : Int)))) rfl) rfl ?_
    refine rl_det (met_none rfl) (fun h_ H_ => exd_move (v := .bool (decide (40 < ((m : Nat) : Int)))) rfl) rfl ?_
    by_cases cc3 : 40 < ((m : Nat) : Int)
    · refine rl_pass (met_not rfl rfl (decide_eq_true cc3)) (tm' := _::_::_::_::_::_::_::_::_::_::_::_::_::_::_::_::_::_::_::_::_::_::_::_::_::_::_::_::_::_::_::_::_::_::_::_::_::_) rfl ?_
      refine rl_pass (met_not rfl rfl (decide_eq_true cc3)) rfl ?_
      refine rl_pass (met_not rfl rfl (decide_eq_true cc3)) rfl ?_
      refine rl_pass (met_not rfl rfl (decide_eq_true cc3)) (tm' := _::_::_::_::_::_::_::_::_::_::_::_::_::_::_::_::_::_::_::_::_::_::_::_::_::_::_::_::_::_::_::_::_::_::_::_::_::_::_::_::_) rfl ?_
      refine rl_det (met_none rfl) (fun h_ H_ => exd_pick_t rfl (decide_eq_true cc3) (v := .bool (true)) rfl) rfl ?_
      refine rl_det (met_none rfl) (fun h_ H_ => exd_move (v := .bool (true)) rfl) rfl ?_
      refine rl_pass (met_not rfl rfl rfl) (tm' := _::_::_::_::_::_::_::_::_::_::_::_::_::_::_::_::_::_::_::_::_::_::_::_::_::_::_::_::_::_::_::_::_::_::_::_::_::_::_::_::_::_::_::_) rfl ?_
      refine rl_pass (met_not rfl rfl rfl) rfl ?_
      refine rl_pass (met_not rfl rfl rfl) rfl ?_
      refine rl_pass (met_not rfl rfl rfl) (tm' := _::_::_::_::_::_::_::_::_::_::_::_::_::_::_::_::_::_::_::_::_::_::_::_::_::_::_::_::_::_::_::_::_::_::_::_::_::_::_::_::_::_::_::_::_::_::_) rfl ?_
      refine rl_pass (met_not rfl rfl rfl) rfl ?_
      refine rl_pass (met_not rfl rfl rfl) rfl ?_
      refine rl_det (met_none rfl) (fun h_ H_ => exd_pick_t rfl rfl (v := .bool (true)) rfl) (tm' := _::_::_::_::_::_::_::_::_::_::_::_::_::_::_::_::_::_::_::_::_::_::_::_::_::_::_::_::_::_::_::_::_::_::_::_::_::_::_::_::_::_::_::_::_::_::_::_::_::_) rfl ?_
      refine rl_end ?_
      refine fl_then rfl rfl ?_
      refine fl_seq ?_
      refine rl_start ?_
      refine rl_calld (met_none rfl) (first := []) (cap := []) rfl rfl fC18 (fun h_ H_ => c18 _) rfl ?_
      refine rl_det (met_none rfl) (fun h_ H_ => exd_assign (v := .bool (true)) rfl) rfl ?_
      refine rl_end ?_
      refine fl_retE (by kernel_rfl) Try.func9 rfl (vs := [.bool (true)]) (fun h_ H_ => ⟨.bool (true), _, rfl, rfl, rfl⟩) (v := .bool (true)) rfl ?_
      exact fun h_ H_ => K _ _ ⟨rfl, H_.kept⟩
    · refine rl_det (met_some rfl rfl (decide_eq_false cc3)) (fun h_ H_ => exd_loadN_own H_ tA24 tS24 rfl (i := 0) rfl (vs := [.int .i64 (size), .int .i64 (start), .slice a n c]) rfl rfl) (tm' := _::_::_::_::_::_::_::_::_::_::_::_::_::_::_::_::_::_::_::_::_::_::_::_::_::_::_::_::_::_::_::_::_::_::_::_::_::_) rfl ?_
      refine rl_det (met_some rfl rfl (decide_eq_false cc3)) (fun h_ H_ => exd_move (v := .slice b m d) rfl) rfl ?_
      refine rl_calld (met_some rfl rfl (decide_eq_false cc3)) (first := []) (cap := []) rfl rfl fC17 (fun h_ H_ => c17 (.main true) _ _ (fun b_ o_ e_ => H_.per b_ o_ e_) (size) (start) _ _ _ _ D (by omega) _ _ _ _ W) rfl ?_
      refine rl_det (met_some rfl rfl (decide_eq_false cc3)) (fun h_ H_ => exd_not rfl) (tm' := _::_::_::_::_::_::_::_::_::_::_::_::_::_::_::_::_::_::_::_::_::_::_::_::_::_::_::_::_::_::_::_::_::_::_::_::_::_::_::_::_) rfl ?_
      refine rl_det (met_none rfl) (fun h_ H_ => exd_pick_f rfl (decide_eq_false cc3) (v := .bool (!(decide (Weather ds xs)))) rfl) rfl ?_
      refine rl_det (met_none rfl) (fun h_ H_ => exd_move (v := .bool (!(decide (Weather ds xs)))) rfl) rfl ?_
      by_cases cc4 : Weather ds xs
      · refine rl_det (met_some rfl rfl (not_f (decide_eq_true cc4))) (fun h_ H_ => exd_move (v := .int .i64 (k)) rfl) (tm' := _::_::_::_::_::_::_::_::_::_::_::_::_::_::_::_::_::_::_::_::_::_::_::_::_::_::_::_::_::_::_::_::_::_::_::_::_::_::_::_::_::_::_::_) rfl ?_
        refine rl_det (met_some rfl rfl (not_f (decide_eq_true cc4))) (fun h_ H_ => exd_fieldAddr tF24_0 rfl (a' := ⟨b1, 0, none⟩) rfl) rfl ?_
        refine rl_det (met_some rfl rfl (not_f (decide_eq_true cc4))) (fun h_ H_ => exd_load_own H_ tA3 rfl (i := 0) rfl (v := .int .i64 (size)) rfl) rfl ?_
        refine rl_det (met_some rfl rfl (not_f (decide_eq_true cc4))) (fun h_ H_ => exd_sub rfl rfl (wr (by omega))) (tm' := _::_::_::_::_::_::_::_::_::_::_::_::_::_::_::_::_::_::_::_::_::_::_::_::_::_::_::_::_::_::_::_::_::_::_::_::_::_::_::_::_::_::_::_::_::_::_) rfl ?_
        refine rl_calld (met_some rfl rfl (not_f (decide_eq_true cc4))) (first := []) (cap := []) rfl rfl fC22 (fun h_ H_ => c22 (.main true) _ (k) (0) (60 - size)) rfl ?_
        refine rl_det (met_some rfl rfl (not_f (decide_eq_true cc4))) (fun h_ H_ => exd_not rfl) rfl ?_
        refine rl_det (met_none rfl) (fun h_ H_ => exd_pick_f rfl (not_f (decide_eq_true cc4)) (v := .bool (!(decide (0 ≤ k ∧ k ≤ 60 - size)))) rfl) (tm' := _::_::_::_::_::_::_::_::_::_::_::_::_::_::_::_::_::_::_::_::_::_::_::_::_::_::_::_::_::_::_::_::_::_::_::_::_::_::_::_::_::_::_::_::_::_::_::_::_::_) rfl ?_
        refine rl_end ?_
        by_cases cc5 : 0 ≤ k ∧ k ≤ 60 - size
        · refine fl_else rfl (not_f (decide_eq_true cc5)) ?_
          refine fl_skip ?_
          refine fl_seq ?_
          have hfew := (‹¬ FarD size start ds ∧ ds.length ≤ 40 ∧ Ok size start ds›)
          have hOk := hfew.2.2
          have hX : Weather ds xs := ‹_›
          have hX1 := hX.1; have ho1 := hOk.1; have ho2 := hOk.2.1; have ho3 := hOk.2.2.1; have ho4 := hOk.2.2.2.1; have ho5 := hOk.2.2.2.2.1
          have hOk2 : Ok (size + k) start ds := ⟨by omega, by omega, by omega, by omega, hOk.2.2.2.2⟩
          have hgd := greater_dry hOk hOk2 (by omega)
          have hrg := ration_greater hOk hOk2 (by omega)
          have hrs := (rat_spec (size := size) (start := start) ⟨ho1, ho3⟩ hOk.dok 20).1; have hrs2 := (rat_spec (size := size + k) (start := start) ⟨by omega, ho3⟩ hOk.dok 20).1
          refine rl_start ?_
          refine rl_det (met_none rfl) (fun h_ H_ => exd_loadN_own H_ tA24 tS24 rfl (i := 0) rfl (vs := [.int .i64 (size), .int .i64 (start), .slice a n c]) rfl rfl) rfl ?_
          refine rl_own (L' := ([(b1, .cells #[.int .i64 (size), .int .i64 (start), .slice a n c] 24 (0, 0))] : Pcs) ++ []) rfl ?_
          refine rl_call (met_none rfl) (first := []) (cap := []) rfl rfl fC30 (R := fun v_ h_ => ∃ w6 : Value, ∃ X7 : Pcs, v_ = .agg #[.int .i64 (size), .int .i64 (start), w6] ∧ (OwnS 38 3 w6 (dcs ds) X7) ∧ St h [] p h_ (([(b1, .cells #[.int .i64 (size), .int .i64 (start), .slice a n c] 24 (0, 0))] : Pcs) ++ (X7 ++ []))) (fun h_ H_ => (c30 (.main true) _ _ (fun b_ o_ e_ => H_.per b_ o_ e_) (size) (start) _ _ _ _ D (by omega)).mono fun v_ h2_ ⟨w6, X7, e_, o8, N_⟩ => ⟨w6, X7, e_, o8, H_.callNA N_⟩) fun v_ => ?_
          refine rl_ex fun w6 => rl_ex fun X7 => rl_and fun ev_ => rl_and fun o8 => ?_
          have ev_ := ev_.symm; subst ev_
          refine rl_own (L' := ([(b1, .cells #[.int .i64 (size), .int .i64 (start), .slice a n c] 24 (0, 0))] : Pcs) ++ (X7 ++ [])) rfl ?_
          refine rl_alloc (met_none rfl) tZ24 rfl fun b9 => rl_own (L' := ([(b9, .cells #[.int .i64 0, .int .i64 0, .slice none 0 0] 24 (0, 0)), (b1, .cells #[.int .i64 (size), .int .i64 (start), .slice a n c] 24 (0, 0))] : Pcs) ++ (X7 ++ [])) rfl ?_
          refine rl_norm (tm' := _::_::_::_::_::_::_::_::_) rfl ?_
          refine rl_store (met_none rfl) tS24 rfl (v := .agg #[.int .i64 (size), .int .i64 (start), w6]) rfl (i := 0) rfl rfl (ones_cons rfl (ones_cons rfl (ones_cons o8.one.2 rfl))) (Nat.le_of_ble_eq_true rfl) (cs2 := [.int .i64 (size), .int .i64 (start), w6]) rfl (rl_own (L' := ([(b9, .cells #[.int .i64 (size), .int .i64 (start), w6] 24 (0, 0)), (b1, .cells #[.int .i64 (size), .int .i64 (start), .slice a n c] 24 (0, 0))] : Pcs) ++ (X7 ++ [])) rfl ?_)
          refine rl_end ?_
          refine fl_seq ?_
          refine rl_start ?_
          refine rl_det (met_none rfl) (fun h_ H_ => exd_fieldAddr tF24_0 rfl (a' := ⟨b9, 0, none⟩) rfl) rfl ?_
          refine rl_det (met_none rfl) (fun h_ H_ => exd_load_own H_ tA3 rfl (i := 0) rfl (v := .int .i64 (size)) rfl) rfl ?_
          refine rl_det (met_none rfl) (fun h_ H_ => exd_move (v := .int .i64 (k)) rfl) (tm' := _::_::_::_::_::_::_::_::_::_::_::_::_::_::_::_::_::_::_::_::_::_::_::_::_::_::_::_::_::_::_::_::_::_::_::_::_::_::_::_::_::_::_::_::_::_::_::_::_::_::_::_::_::_::_::_) rfl ?_
          refine rl_det (met_none rfl) (fun h_ H_ => exd_add rfl rfl (wr (by omega))) rfl ?_
          refine rl_det (met_none rfl) (fun h_ H_ => exd_fieldAddr tF24_0 rfl (a' := ⟨b9, 0, none⟩) rfl) rfl ?_
          refine rl_store (met_none rfl) tS3 rfl (v := .int .i64 (size + k)) rfl (i := 0) rfl rfl rfl (Nat.le_of_ble_eq_true rfl) (cs2 := [.int .i64 (size + k), .int .i64 (start), w6]) rfl (rl_own (L' := ([(b9, .cells #[.int .i64 (size + k), .int .i64 (start), w6] 24 (0, 0)), (b1, .cells #[.int .i64 (size), .int .i64 (start), .slice a n c] 24 (0, 0))] : Pcs) ++ (X7 ++ [])) rfl ?_)
          refine rl_end ?_
          refine fl_seq ?_
          refine rs_lastN (A := ([(b9, .cells #[.int .i64 (size + k), .int .i64 (start), w6] 24 (0, 0)), (b1, .cells #[.int .i64 (size), .int .i64 (start), .slice a n c] 24 (0, 0))] : Pcs)) o8 (show (dcs ds).length = n by rw [dcs_length]; omega) fun p10 a11 cp12 le13 ev_ D14 => ?_
          subst ev_
          refine rs_own (L' := [(b9, .cells #[.int .i64 (size + k), .int .i64 (start), .slice a11 n cp12] 24 (0, 0)), (b1, .cells #[.int .i64 (size), .int .i64 (start), .slice a n c] 24 (0, 0))]) rfl ?_
          refine rl_start ?_
          refine rl_det (met_none rfl) (fun h_ H_ => exd_loadN_own H_ tA24 tS24 rfl (i := 1) rfl (vs := [.int .i64 (size), .int .i64 (start), .slice a n c]) rfl rfl) (tm' := _::_::_::_::_::_::_::_::_::_::_::_::_::_::_::_::_::_::_::_::_::_::_::_::_::_::_::_::_::_::_::_::_::_::_::_::_::_::_::_::_::_::_::_::_::_::_::_::_::_::_::_::_::_::_::_::_::_::_::_) rfl ?_
          refine rl_det (met_none rfl) (fun h_ H_ => exd_move (v := .slice b m d) rfl) rfl ?_
          refine rl_own (L' := ([(b9, .cells #[.int .i64 (size + k), .int .i64 (start), .slice a11 n cp12] 24 (0, 0)), (b1, .cells #[.int .i64 (size), .int .i64 (start), .slice a n c] 24 (0, 0))] : Pcs) ++ []) rfl ?_
          refine rl_call (met_none rfl) (first := []) (cap := []) rfl rfl fC19 (R := fun v_ h_ => ∃ w15 : Value, ∃ w16 : Value, ∃ w17 : Value, ∃ X18 : Pcs, ∃ X19 : Pcs, ∃ X20 : Pcs, v_ = .tuple #[.agg #[w15, w16, w17], .bool (true)] ∧ (OwnS 3 1 w15 (ns (levs size start (wantOf ds) (listOf xs)) n) X18) ∧ (OwnS 3 1 w16 (ns (lack size start (wantOf ds) (listOf xs)) n) X19) ∧ (OwnS 3 1 w17 (ns (ovr size start (wantOf ds) (listOf xs)) n) X20) ∧ St h [] p10 h_ (([(b9, .cells #[.int .i64 (size + k), .int .i64 (start), .slice a11 n cp12] 24 (0, 0)), (b1, .cells #[.int .i64 (size), .int .i64 (start), .slice a n c] 24 (0, 0))] : Pcs) ++ ((X18 ++ (X19 ++ (X20 ++ []))) ++ []))) (fun h_ H_ => (c19 (.main true) _ _ (fun b_ o_ e_ => H_.per b_ o_ e_) (size) (start) _ _ _ _ (D.mono le13) (by omega) _ _ _ _ (W.mono le13) (by omega) hOk hX).mono fun v_ h2_ ⟨w15, w16, w17, X18, X19, X20, e_, o21, o22, o23, N_⟩ => ⟨w15, w16, w17, X18, X19, X20, e_, o21, o22, o23, H_.callNA N_⟩) fun v_ => ?_
          refine rl_ex fun w15 => rl_ex fun w16 => rl_ex fun w17 => rl_ex fun X18 => rl_ex fun X19 => rl_ex fun X20 => rl_and fun ev_ => rl_and fun o21 => rl_and fun o22 => rl_and fun o23 => ?_
          have ev_ := ev_.symm; subst ev_
          refine rl_own (L' := ([(b9, .cells #[.int .i64 (size + k), .int .i64 (start), .slice a11 n cp12] 24 (0, 0)), (b1, .cells #[.int .i64 (size), .int .i64 (start), .slice a n c] 24 (0, 0))] : Pcs) ++ (X18 ++ (X19 ++ (X20 ++ [])))) (by simp) ?_
          refine rl_det (met_none rfl) (fun h_ H_ => exd_move (v := .tuple #[.agg #[w15, w16, w17], .bool (true)]) rfl) (tm' := _::_::_::_::_::_::_::_::_::_::_::_::_::_::_::_::_::_::_::_::_::_::_::_::_::_::_::_::_::_::_::_::_::_::_::_::_::_::_::_::_::_::_::_::_::_::_::_::_::_::_::_::_::_::_::_::_::_::_) rfl ?_
          refine rl_det (met_none rfl) (fun h_ H_ => exd_extract rfl (v := .agg #[w15, w16, w17]) rfl) rfl ?_
          refine rl_det (met_none rfl) (fun h_ H_ => exd_extract rfl (v := .bool (true)) rfl) rfl ?_
          refine rl_alloc (met_none rfl) tZ30 rfl fun b24 => rl_own (L' := ([(b24, .cells #[.slice none 0 0, .slice none 0 0, .slice none 0 0] 30 (0, 0)), (b9, .cells #[.int .i64 (size + k), .int .i64 (start), .slice a11 n cp12] 24 (0, 0)), (b1, .cells #[.int .i64 (size), .int .i64 (start), .slice a n c] 24 (0, 0))] : Pcs) ++ (X18 ++ (X19 ++ (X20 ++ [])))) rfl ?_
          refine rl_norm (tm' := _::_::_::_::_::_::_::_::_::_) rfl ?_
          refine rl_store (met_none rfl) tS30 rfl (v := .agg #[w15, w16, w17]) rfl (i := 0) rfl rfl (ones_cons o21.one.2 (ones_cons o22.one.2 (ones_cons o23.one.2 rfl))) (Nat.le_of_ble_eq_true rfl) (cs2 := [w15, w16, w17]) rfl (rl_own (L' := ([(b24, .cells #[w15, w16, w17] 30 (0, 0)), (b9, .cells #[.int .i64 (size + k), .int .i64 (start), .slice a11 n cp12] 24 (0, 0)), (b1, .cells #[.int .i64 (size), .int .i64 (start), .slice a n c] 24 (0, 0))] : Pcs) ++ (X18 ++ (X19 ++ (X20 ++ [])))) rfl ?_)
          refine rl_det (met_none rfl) (fun h_ H_ => exd_assign (v := .bool (true)) rfl) rfl ?_
          refine rl_end ?_
          refine fl_seq ?_
          refine rl_start ?_
          refine rl_det (met_none rfl) (fun h_ H_ => exd_loadN_own H_ tA24 tS24 rfl (i := 1) rfl (vs := [.int .i64 (size + k), .int .i64 (start), .slice a11 n cp12]) rfl rfl) rfl ?_
          refine rl_det (met_none rfl) (fun h_ H_ => exd_move (v := .slice b m d) rfl) (tm' := _::_::_::_::_::_::_::_::_::_::_::_::_::_::_::_::_::_::_::_::_::_::_::_::_::_::_::_::_::_::_::_::_::_::_::_::_::_::_::_::_::_::_::_::_::_::_::_::_::_::_::_::_::_::_::_::_::_::_::_::_::_::_::_::_::_::_) rfl ?_
          refine rl_call (met_none rfl) (first := []) (cap := []) rfl rfl fC19 (R := fun v_ h_ => ∃ w25 : Value, ∃ w26 : Value, ∃ w27 : Value, ∃ X28 : Pcs, ∃ X29 : Pcs, ∃ X30 : Pcs, v_ = .tuple #[.agg #[w25, w26, w27], .bool (true)] ∧ (OwnS 3 1 w25 (ns (levs (size + k) start (wantOf ds) (listOf xs)) n) X28) ∧ (OwnS 3 1 w26 (ns (lack (size + k) start (wantOf ds) (listOf xs)) n) X29) ∧ (OwnS 3 1 w27 (ns (ovr (size + k) start (wantOf ds) (listOf xs)) n) X30) ∧ St h [] p10 h_ (([(b24, .cells #[w15, w16, w17] 30 (0, 0)), (b9, .cells #[.int .i64 (size + k), .int .i64 (start), .slice a11 n cp12] 24 (0, 0)), (b1, .cells #[.int .i64 (size), .int .i64 (start), .slice a n c] 24 (0, 0))] : Pcs) ++ ((X28 ++ (X29 ++ (X30 ++ []))) ++ (X18 ++ (X19 ++ (X20 ++ [])))))) (fun h_ H_ => (c19 (.main true) _ _ (fun b_ o_ e_ => H_.per b_ o_ e_) (size + k) (start) _ _ _ _ (show Days _ _ _ ds from D14) (by omega) _ _ _ _ (W.mono le13) (by omega) hOk2 hX).mono fun v_ h2_ ⟨w25, w26, w27, X28, X29, X30, e_, o31, o32, o33, N_⟩ => ⟨w25, w26, w27, X28, X29, X30, e_, o31, o32, o33, H_.callNA N_⟩) fun v_ => ?_
          refine rl_ex fun w25 => rl_ex fun w26 => rl_ex fun w27 => rl_ex fun X28 => rl_ex fun X29 => rl_ex fun X30 => rl_and fun ev_ => rl_and fun o31 => rl_and fun o32 => rl_and fun o33 => ?_
          have ev_ := ev_.symm; subst ev_
          refine rl_own (L' := ([(b24, .cells #[w15, w16, w17] 30 (0, 0)), (b9, .cells #[.int .i64 (size + k), .int .i64 (start), .slice a11 n cp12] 24 (0, 0)), (b1, .cells #[.int .i64 (size), .int .i64 (start), .slice a n c] 24 (0, 0))] : Pcs) ++ (X28 ++ (X29 ++ (X30 ++ (X18 ++ (X19 ++ (X20 ++ []))))))) (by simp) ?_
          refine rl_det (met_none rfl) (fun h_ H_ => exd_move (v := .tuple #[.agg #[w25, w26, w27], .bool (true)]) rfl) rfl ?_
          refine rl_det (met_none rfl) (fun h_ H_ => exd_extract rfl (v := .agg #[w25, w26, w27]) rfl) (tm' := _::_::_::_::_::_::_::_::_::_::_::_::_::_::_::_::_::_::_::_::_::_::_::_::_::_::_::_::_::_::_::_::_::_::_::_::_::_::_::_::_::_::_::_::_::_::_::_::_::_::_::_::_::_::_::_::_::_::_::_::_::_::_::_::_::_::_::_::_) rfl ?_
          refine rl_det (met_none rfl) (fun h_ H_ => exd_extract rfl (v := .bool (true)) rfl) rfl ?_
          refine rl_alloc (met_none rfl) tZ30 rfl fun b34 => rl_own (L' := ([(b34, .cells #[.slice none 0 0, .slice none 0 0, .slice none 0 0] 30 (0, 0)), (b24, .cells #[w15, w16, w17] 30 (0, 0)), (b9, .cells #[.int .i64 (size + k), .int .i64 (start), .slice a11 n cp12] 24 (0, 0)), (b1, .cells #[.int .i64 (size), .int .i64 (start), .slice a n c] 24 (0, 0))] : Pcs) ++ (X28 ++ (X29 ++ (X30 ++ (X18 ++ (X19 ++ (X20 ++ []))))))) rfl ?_
          refine rl_store (met_none rfl) tS30 rfl (v := .agg #[w25, w26, w27]) rfl (i := 0) rfl rfl (ones_cons o31.one.2 (ones_cons o32.one.2 (ones_cons o33.one.2 rfl))) (Nat.le_of_ble_eq_true rfl) (cs2 := [w25, w26, w27]) rfl (rl_own (L' := ([(b34, .cells #[w25, w26, w27] 30 (0, 0)), (b24, .cells #[w15, w16, w17] 30 (0, 0)), (b9, .cells #[.int .i64 (size + k), .int .i64 (start), .slice a11 n cp12] 24 (0, 0)), (b1, .cells #[.int .i64 (size), .int .i64 (start), .slice a n c] 24 (0, 0))] : Pcs) ++ (X28 ++ (X29 ++ (X30 ++ (X18 ++ (X19 ++ (X20 ++ []))))))) rfl ?_)
          refine rl_det (met_none rfl) (fun h_ H_ => exd_assign (v := .bool (true)) rfl) (tm' := _::_::_::_::_::_::_::_::_::_::_::_::_) rfl ?_
          refine rl_end ?_
          refine fl_seq ?_
          refine rl_start ?_
          refine rl_det (met_none rfl) (fun h_ H_ => exd_loadN_own H_ tA24 tS24 rfl (i := 3) rfl (vs := [.int .i64 (size), .int .i64 (start), .slice a n c]) rfl rfl) rfl ?_
          refine rl_calld (met_none rfl) (first := []) (cap := []) rfl rfl fC38 (fun h_ H_ => c38 _ _ (fun b_ o_ e_ => H_.per b_ o_ e_) (size) (start) _ _ _ _ (D.mono le13) (by omega) hOk) rfl ?_
          refine rl_det (met_none rfl) (fun h_ H_ => exd_move (v := .tuple #[.int .i64 (dayOr (dryR size start ds)), .int .i64 (dayOr (mustR size start ds)), .bool (true)]) rfl) (tm' := _::_::_::_::_::_::_::_::_::_::_::_::_::_::_::_::_::_::_::_::_::_::_::_::_::_::_::_::_::_::_::_::_::_::_::_::_::_::_::_::_::_::_::_::_::_::_::_::_::_::_::_::_::_::_::_::_::_::_::_::_::_::_::_::_::_::_::_::_::_::_) rfl ?_
          refine rl_det (met_none rfl) (fun h_ H_ => exd_extract rfl (v := .int .i64 (dayOr (dryR size start ds))) rfl) rfl ?_
          refine rl_det (met_none rfl) (fun h_ H_ => exd_extract rfl (v := .int .i64 (dayOr (mustR size start ds))) rfl) rfl ?_
          refine rl_det (met_none rfl) (fun h_ H_ => exd_extract rfl (v := .bool (true)) rfl) (tm' := _::_::_::_::_::_::_::_::_::_::_::_::_::_::_::_::_::_::_::_::_::_::_::_::_::_::_::_::_::_::_::_::_::_::_::_::_::_::_::_::_::_::_::_::_::_::_::_::_::_::_::_::_::_::_::_::_::_::_::_::_::_::_::_::_::_::_::_::_::_::_::_::_::_::_::_) rfl ?_
          refine rl_det (met_none rfl) (fun h_ H_ => exd_assign (v := .int .i64 (dayOr (dryR size start ds))) rfl) rfl ?_
          refine rl_det (met_none rfl) (fun h_ H_ => exd_assign (v := .int .i64 (dayOr (mustR size start ds))) rfl) rfl ?_
          refine rl_det (met_none rfl) (fun h_ H_ => exd_assign (v := .bool (true)) rfl) (tm' := _::_::_::_::_::_::_::_::_::_::_::_::_::_::_::_) rfl ?_
          refine rl_end ?_
          refine fl_seq ?_
          refine rl_start ?_
          refine rl_det (met_none rfl) (fun h_ H_ => exd_loadN_own H_ tA24 tS24 rfl (i := 2) rfl (vs := [.int .i64 (size + k), .int .i64 (start), .slice a11 n cp12]) rfl rfl) rfl ?_
          refine rl_calld (met_none rfl) (first := []) (cap := []) rfl rfl fC38 (fun h_ H_ => c38 _ _ (fun b_ o_ e_ => H_.per b_ o_ e_) (size + k) (start) _ _ _ _ (show Days _ _ _ ds from D14) (by omega) hOk2) rfl ?_
          refine rl_det (met_none rfl) (fun h_ H_ => exd_move (v := .tuple #[.int .i64 (dayOr (dryR (size + k) start ds)), .int .i64 (dayOr (mustR (size + k) start ds)), .bool (true)]) rfl) (tm' := _::_::_::_::_::_::_::_::_::_::_::_::_::_::_::_::_::_::_::_::_::_::_::_::_::_::_::_::_::_::_::_::_::_::_::_::_::_::_::_::_::_::_::_::_::_::_::_::_::_::_::_::_::_::_::_::_::_::_::_::_::_::_::_::_::_::_::_::_::_::_::_::_::_::_::_::_) rfl ?_
          refine rl_det (met_none rfl) (fun h_ H_ => exd_extract rfl (v := .int .i64 (dayOr (dryR (size + k) start ds))) rfl) rfl ?_
          refine rl_det (met_none rfl) (fun h_ H_ => exd_extract rfl (v := .int .i64 (dayOr (mustR (size + k) start ds))) rfl) rfl ?_
          refine rl_det (met_none rfl) (fun h_ H_ => exd_extract rfl (v := .bool (true)) rfl) (tm' := _::_::_::_::_::_::_::_::_::_::_::_::_::_::_::_::_::_::_::_::_::_::_::_::_::_::_::_::_::_::_::_::_::_::_::_::_::_::_::_::_::_::_::_::_::_::_::_::_::_::_::_::_::_::_::_::_::_::_::_::_::_::_::_::_::_::_::_::_::_::_::_::_::_::_::_::_::_::_::_::_::_) rfl ?_
          refine rl_det (met_none rfl) (fun h_ H_ => exd_assign (v := .int .i64 (dayOr (dryR (size + k) start ds))) rfl) rfl ?_
          refine rl_det (met_none rfl) (fun h_ H_ => exd_assign (v := .int .i64 (dayOr (mustR (size + k) start ds))) rfl) rfl ?_
          refine rl_det (met_none rfl) (fun h_ H_ => exd_assign (v := .bool (true)) rfl) (tm' := _::_::_::_::_::_::_::_::_::_::_::_::_::_::_::_::_::_::_) rfl ?_
          refine rl_end ?_
          refine fl_seq ?_
          refine fl_seq ?_
          refine rs_lastN (A := ([(b34, .cells #[w25, w26, w27] 30 (0, 0)), (b24, .cells #[w15, w16, w17] 30 (0, 0)), (b9, .cells #[.int .i64 (size + k), .int .i64 (start), .slice a11 n cp12] 24 (0, 0)), (b1, .cells #[.int .i64 (size), .int .i64 (start), .slice a n c] 24 (0, 0))] : Pcs)) o31 (ns_length _ _) fun p35 a36 cp37 le38 ev_ D39 => ?_
          subst ev_
          refine rs_lastN (A := ([(b34, .cells #[.slice a36 n cp37, w26, w27] 30 (0, 0)), (b24, .cells #[w15, w16, w17] 30 (0, 0)), (b9, .cells #[.int .i64 (size + k), .int .i64 (start), .slice a11 n cp12] 24 (0, 0)), (b1, .cells #[.int .i64 (size), .int .i64 (start), .slice a n c] 24 (0, 0))] : Pcs)) o32 (ns_length _ _) fun p40 a41 cp42 le43 ev_ D44 => ?_
          subst ev_
          refine rs_lastN (A := ([(b34, .cells #[.slice a36 n cp37, .slice a41 n cp42, w27] 30 (0, 0)), (b24, .cells #[w15, w16, w17] 30 (0, 0)), (b9, .cells #[.int .i64 (size + k), .int .i64 (start), .slice a11 n cp12] 24 (0, 0)), (b1, .cells #[.int .i64 (size), .int .i64 (start), .slice a n c] 24 (0, 0))] : Pcs)) o33 (ns_length _ _) fun p45 a46 cp47 le48 ev_ D49 => ?_
          subst ev_
          refine rs_lastN (A := ([(b34, .cells #[.slice a36 n cp37, .slice a41 n cp42, .slice a46 n cp47] 30 (0, 0)), (b24, .cells #[w15, w16, w17] 30 (0, 0)), (b9, .cells #[.int .i64 (size + k), .int .i64 (start), .slice a11 n cp12] 24 (0, 0)), (b1, .cells #[.int .i64 (size), .int .i64 (start), .slice a n c] 24 (0, 0))] : Pcs)) o21 (ns_length _ _) fun p50 a51 cp52 le53 ev_ D54 => ?_
          subst ev_
          refine rs_lastN (A := ([(b34, .cells #[.slice a36 n cp37, .slice a41 n cp42, .slice a46 n cp47] 30 (0, 0)), (b24, .cells #[.slice a51 n cp52, w16, w17] 30 (0, 0)), (b9, .cells #[.int .i64 (size + k), .int .i64 (start), .slice a11 n cp12] 24 (0, 0)), (b1, .cells #[.int .i64 (size), .int .i64 (start), .slice a n c] 24 (0, 0))] : Pcs)) o22 (ns_length _ _) fun p55 a56 cp57 le58 ev_ D59 => ?_
          subst ev_
          refine rs_lastN (A := ([(b34, .cells #[.slice a36 n cp37, .slice a41 n cp42, .slice a46 n cp47] 30 (0, 0)), (b24, .cells #[.slice a51 n cp52, .slice a56 n cp57, w17] 30 (0, 0)), (b9, .cells #[.int .i64 (size + k), .int .i64 (start), .slice a11 n cp12] 24 (0, 0)), (b1, .cells #[.int .i64 (size), .int .i64 (start), .slice a n c] 24 (0, 0))] : Pcs)) o23 (ns_length _ _) fun p60 a61 cp62 le63 ev_ D64 => ?_
          subst ev_
          refine rs_own (L' := [(b34, .cells #[.slice a36 n cp37, .slice a41 n cp42, .slice a46 n cp47] 30 (0, 0)), (b24, .cells #[.slice a51 n cp52, .slice a56 n cp57, .slice a61 n cp62] 30 (0, 0)), (b9, .cells #[.int .i64 (size + k), .int .i64 (start), .slice a11 n cp12] 24 (0, 0)), (b1, .cells #[.int .i64 (size), .int .i64 (start), .slice a n c] 24 (0, 0))]) rfl ?_
          refine rl_start ?_
          refine rl_det (met_none rfl) (fun h_ H_ => exd_move (v := .bool (true)) rfl) rfl ?_
          refine rl_det (met_none rfl) (fun h_ H_ => exd_not rfl) rfl ?_
          refine rl_det (met_none rfl) (fun h_ H_ => exd_move (v := .bool (!true)) rfl) (tm' := _::_::_::_::_::_::_::_::_::_::_::_::_::_::_::_::_::_::_::_::_::_::_::_::_::_::_::_::_::_::_::_::_::_::_::_::_::_::_::_::_::_::_::_::_::_::_::_::_::_::_::_::_::_::_::_::_::_::_::_::_::_::_::_::_::_::_::_::_::_::_::_::_::_::_::_::_::_::_::_::_::_::_::_::_) rfl ?_
          refine rl_det (met_some rfl rfl (not_f rfl)) (fun h_ H_ => exd_move (v := .bool (true)) rfl) rfl ?_
          refine rl_det (met_some rfl rfl (not_f rfl)) (fun h_ H_ => exd_not rfl) rfl ?_
          refine rl_det (met_none rfl) (fun h_ H_ => exd_pick_f rfl (not_f rfl) (v := .bool (!true)) rfl) (tm' := _::_::_::_::_::_::_::_::_::_::_::_::_::_::_::_::_::_::_::_::_::_::_::_::_::_::_::_::_::_::_::_::_::_::_::_::_::_::_::_::_::_::_::_::_::_::_::_::_::_::_::_::_::_::_::_::_::_::_::_::_::_::_::_::_::_::_::_::_::_::_::_::_::_::_::_::_::_::_::_::_::_::_::_::_::_::_::_) rfl ?_
          refine rl_det (met_none rfl) (fun h_ H_ => exd_move (v := .bool (!true)) rfl) rfl ?_
          refine rl_det (met_some rfl rfl (not_f rfl)) (fun h_ H_ => exd_move (v := .bool (true)) rfl) rfl ?_
          refine rl_det (met_some rfl rfl (not_f rfl)) (fun h_ H_ => exd_not rfl) (tm' := _::_::_::_::_::_::_::_::_::_::_::_::_::_::_::_::_::_::_::_::_::_::_::_::_::_::_::_::_::_::_::_::_::_::_::_::_::_::_::_::_::_::_::_::_::_::_::_::_::_::_::_::_::_::_::_::_::_::_::_::_::_::_::_::_::_::_::_::_::_::_::_::_::_::_::_::_::_::_::_::_::_::_::_::_::_::_::_::_::_::_) rfl ?_
          refine rl_det (met_none rfl) (fun h_ H_ => exd_pick_f rfl (not_f rfl) (v := .bool (!true)) rfl) rfl ?_
          refine rl_det (met_none rfl) (fun h_ H_ => exd_move (v := .bool (!true)) rfl) rfl ?_
          refine rl_det (met_some rfl rfl (not_f rfl)) (fun h_ H_ => exd_move (v := .bool (true)) rfl) (tm' := _::_::_::_::_::_::_::_::_::_::_::_::_::_::_::_::_::_::_::_::_::_::_::_::_::_::_::_::_::_::_::_::_::_::_::_::_::_::_::_::_::_::_::_::_::_::_::_::_::_::_::_::_::_::_::_::_::_::_::_::_::_::_::_::_::_::_::_::_::_::_::_::_::_::_::_::_::_::_::_::_::_::_::_::_::_::_::_::_::_::_::_::_::_) rfl ?_
          refine rl_det (met_some rfl rfl (not_f rfl)) (fun h_ H_ => exd_not rfl) rfl ?_
          refine rl_det (met_none rfl) (fun h_ H_ => exd_pick_f rfl (not_f rfl) (v := .bool (!true)) rfl) rfl ?_
          refine rl_det (met_none rfl) (fun h_ H_ => exd_move (v := .bool (!true)) rfl) (tm' := _::_::_::_::_::_::_::_::_::_::_::_::_::_::_::_::_::_::_::_::_::_::_::_::_::_::_::_::_::_::_::_::_::_::_::_::_::_::_::_::_::_::_::_::_::_::_::_::_::_::_::_::_::_::_::_::_::_::_::_::_::_::_::_::_::_::_::_::_::_::_::_::_::_::_::_::_::_::_::_::_::_::_::_::_::_::_::_::_::_::_::_::_::_::_::_::_) rfl ?_
          refine rl_det (met_some rfl rfl (not_f rfl)) (fun h_ H_ => exd_move (v := .int .i64 (dayOr (dryR (size + k) start ds))) rfl) rfl ?_
          refine rl_det (met_some rfl rfl (not_f rfl)) (fun h_ H_ => exd_move (v := .int .i64 (dayOr (dryR size start ds))) rfl) rfl ?_
          refine rl_det (met_some rfl rfl (not_f rfl)) (fun h_ H_ => exd_lss rfl rfl) (tm' := _::_::_::_::_::_::_::_::_::_::_::_::_::_::_::_::_::_::_::_::_::_::_::_::_::_::_::_::_::_::_::_::_::_::_::_::_::_::_::_::_::_::_::_::_::_::_::_::_::_::_::_::_::_::_::_::_::_::_::_::_::_::_::_::_::_::_::_::_::_::_::_::_::_::_::_::_::_::_::_::_::_::_::_::_::_::_::_::_::_::_::_::_::_::_::_::_::_::_::_) rfl ?_
          refine rl_det (met_none rfl) (fun h_ H_ => exd_pick_f rfl (not_f rfl) (v := .bool (decide (dayOr (dryR (size + k) start ds) < dayOr (dryR size start ds)))) rfl) rfl ?_
          refine rl_end ?_
          refine fl_else rfl (decide_eq_false (by omega)) ?_
          refine fl_skip ?_
          refine fl_seq ?_
          refine fl_seq ?_
          refine rl_start ?_
          refine rl_det (met_none rfl) (fun h_ H_ => exd_assign (v := .int .i64 0) rfl) rfl ?_
          refine rl_end ?_
          refine fl_block ?_
          refine fl_loop (m₀ := n - 0) (fun m_ tm_ h_ => ∃ (j : Nat), m_ = n - j ∧ (∃ y65 : Nat → Value, tm_ = [.agg #[.int .i64 (size), .int .i64 (start), .slice a n c], .slice b m d, .int .i64 (k), .pointer (some ⟨b1, 0, none⟩), undef, undef, (y65 6), .pointer (some ⟨b9, 0, none⟩), .pointer (some ⟨b24, 0, none⟩), .bool (true), .pointer (some ⟨b34, 0, none⟩), .bool (true), .int .i64 (dayOr (dryR size start ds)), .int .i64 (dayOr (mustR size start ds)), .bool (true), .int .i64 (dayOr (dryR (size + k) start ds)), .int .i64 (dayOr (mustR (size + k) start ds)), .bool (true), .int .i64 (((j : Nat) : Int)), (y65 19), (y65 20), (y65 21), (y65 22), undef, undef, undef, undef, .agg #[.int .i64 (size), .int .i64 (start), .slice a n c], .bool (decide (¬ FarD size start ds ∧ ds.length ≤ 40 ∧ Ok size start ds)), .bool (!(decide (¬ FarD size start ds ∧ ds.length ≤ 40 ∧ Ok size start ds))), .bool (!(decide (¬ FarD size start ds ∧ ds.length ≤ 40 ∧ Ok size start ds))), .slice b m d, .int .i64 (((m : Nat) : Int)), .bool (decide (40 < ((m : Nat) : Int))), .bool (decide (40 < ((m : Nat) : Int))), .bool (decide (40 < ((m : Nat) : Int))), .agg #[.int .i64 (size), .int .i64 (start), .slice a n c], .slice b m d, .bool (decide (Weather ds xs)), .bool (!(decide (Weather ds xs))), .bool (!(decide (Weather ds xs))), .bool (!(decide (Weather ds xs))), .int .i64 (k), .pointer (some ⟨b1, 0, none⟩), .int .i64 (size), .int .i64 (60 - size), .bool (decide (0 ≤ k ∧ k ≤ 60 - size)), .bool (!(decide (0 ≤ k ∧ k ≤ 60 - size))), .bool (!(decide (0 ≤ k ∧ k ≤ 60 - size))), undef, .agg #[.int .i64 (size), .int .i64 (start), .slice a n c], .agg #[.int .i64 (size), .int .i64 (start), .slice a11 n cp12], .pointer (some ⟨b9, 0, none⟩), .int .i64 (size), .int .i64 (k), .int .i64 (size + k), .pointer (some ⟨b9, 0, none⟩), .tuple #[.agg #[.slice a51 n cp52, .slice a56 n cp57, .slice a61 n cp62], .bool (true)], .agg #[.int .i64 (size), .int .i64 (start), .slice a n c], .slice b m d, .tuple #[.agg #[.slice a51 n cp52, .slice a56 n cp57, .slice a61 n cp62], .bool (true)], .agg #[.slice a51 n cp52, .slice a56 n cp57, .slice a61 n cp62], .bool (true), .tuple #[.agg #[.slice a36 n cp37, .slice a41 n cp42, .slice a46 n cp47], .bool (true)], .agg #[.int .i64 (size + k), .int .i64 (start), .slice a11 n cp12], .slice b m d, .tuple #[.agg #[.slice a36 n cp37, .slice a41 n cp42, .slice a46 n cp47], .bool (true)], .agg #[.slice a36 n cp37, .slice a41 n cp42, .slice a46 n cp47], .bool (true), .tuple #[.int .i64 (dayOr (dryR size start ds)), .int .i64 (dayOr (mustR size start ds)), .bool (true)], .agg #[.int .i64 (size), .int .i64 (start), .slice a n c], .tuple #[.int .i64 (dayOr (dryR size start ds)), .int .i64 (dayOr (mustR size start ds)), .bool (true)], .int .i64 (dayOr (dryR size start ds)), .int .i64 (dayOr (mustR size start ds)), .bool (true), .tuple #[.int .i64 (dayOr (dryR (size + k) start ds)), .int .i64 (dayOr (mustR (size + k) start ds)), .bool (true)], .agg #[.int .i64 (size + k), .int .i64 (start), .slice a11 n cp12], .tuple #[.int .i64 (dayOr (dryR (size + k) start ds)), .int .i64 (dayOr (mustR (size + k) start ds)), .bool (true)], .int .i64 (dayOr (dryR (size + k) start ds)), .int .i64 (dayOr (mustR (size + k) start ds)), .bool (true), .bool (true), .bool (!true), .bool (!true), .bool (true), .bool (!true), .bool (!true), .bool (!true), .bool (true), .bool (!true), .bool (!true), .bool (!true), .bool (true), .bool (!true), .bool (!true), .bool (!true), .int .i64 (dayOr (dryR (size + k) start ds)), .int .i64 (dayOr (dryR size start ds)), .bool (decide (dayOr (dryR (size + k) start ds) < dayOr (dryR size start ds))), .bool (decide (dayOr (dryR (size + k) start ds) < dayOr (dryR size start ds))), (y65 100), (y65 101), (y65 102), (y65 103), (y65 104), (y65 105), (y65 106), (y65 107), (y65 108), (y65 109), (y65 110), (y65 111), (y65 112), (y65 113), (y65 114), (y65 115), (y65 116), (y65 117), (y65 118), (y65 119), (y65 120), (y65 121), (y65 122), (y65 123), (y65 124), (y65 125), (y65 126), (y65 127), (y65 128), (y65 129), (y65 130), (y65 131), (y65 132), (y65 133), (y65 134), (y65 135), (y65 136), (y65 137), (y65 138), (y65 139), (y65 140), (y65 141), (y65 142), (y65 143), (y65 144), (y65 145), (y65 146), (y65 147), (y65 148), (y65 149), (y65 150), (y65 151), (y65 152), (y65 153), (y65 154), (y65 155), (y65 156), (y65 157), (y65 158), (y65 159), (y65 160), (y65 161), (y65 162), (y65 163), (y65 164), (y65 165), (y65 166), (y65 167), (y65 168), (y65 169), (y65 170), (y65 171), (y65 172), (y65 173), (y65 174), (y65 175), (y65 176), (y65 177), (y65 178), (y65 179), (y65 180), undef, undef, undef, undef, undef, undef, undef, undef, undef, undef, undef, undef, undef, undef, undef, undef, undef, undef, undef, undef, undef, undef, undef, undef, undef, undef, undef, undef, undef, undef, undef, undef]) ∧ (j ≤ n) ∧ St h [] p60 h_ ([(b34, .cells #[.slice a36 n cp37, .slice a41 n cp42, .slice a46 n cp47] 30 (0, 0)), (b24, .cells #[.slice a51 n cp52, .slice a56 n cp57, .slice a61 n cp62] 30 (0, 0)), (b9, .cells #[.int .i64 (size + k), .int .i64 (start), .slice a11 n cp12] 24 (0, 0)), (b1, .cells #[.int .i64 (size), .int .i64 (start), .slice a n c] 24 (0, 0))])) (fun h_ H_ => ⟨0, rfl, (y_of rfl), Nat.zero_le _, H_⟩) ?_
          intro m_ tm_ IH66
          refine rs_ex fun j => rs_and fun hm_ => rs_and fun ht_ => rs_and fun hj => ?_
          subst hm_; obtain ⟨y65, ht_⟩ := ht_; subst ht_
          have hmd := fun (h_ : j < n) => greater_day (size := size) (start := start) (ds := ds) (xs := xs) (k := k) (by omega) h_
          have hsp := fun (h_ : j < n) => spare_greater hOk hOk2 (day := ((j : Nat) : Int)) ⟨by omega, by omega⟩ (by omega)
          have hs1 := fun (h_ : j < n) => (spare_law hOk (day := ((j : Nat) : Int)) ⟨by omega, by omega⟩).1
          have hs2 := fun (h_ : j < n) => (spare_law hOk2 (day := ((j : Nat) : Int)) ⟨by omega, by omega⟩).1
          refine fl_seq ?_
          refine fl_seq ?_
          refine rl_start ?_
          refine rl_det (met_none rfl) (fun h_ H_ => exd_move (v := .int .i64 (((j : Nat) : Int))) rfl) (tm' := _::_::_::_::_::_::_::_::_::_::_::_::_::_::_::_::_::_::_::_::_::_::_::_::_::_::_::_::_::_::_::_::_::_::_::_::_::_::_::_::_::_::_::_::_::_::_::_::_::_::_::_::_::_::_::_::_::_::_::_::_::_::_::_::_::_::_::_::_::_::_::_::_::_::_::_::_::_::_::_::_::_::_::_::_::_::_::_::_::_::_::_::_::_::_::_::_::_::_::_::_::_) rfl ?_
          refine rl_det (met_none rfl) (fun h_ H_ => exd_fieldAddr tF24_2 rfl (a' := ⟨b1, 2, none⟩) rfl) rfl ?_
          refine rl_det (met_none rfl) (fun h_ H_ => exd_load_own H_ tA22 rfl (i := 3) rfl (v := .slice a n c) rfl) rfl ?_
          refine rl_det (met_none rfl) (fun h_ H_ => exd_len Try.underlying22 rfl) (tm' := _::_::_::_::_::_::_::_::_::_::_::_::_::_::_::_::_::_::_::_::_::_::_::_::_::_::_::_::_::_::_::_::_::_::_::_::_::_::_::_::_::_::_::_::_::_::_::_::_::_::_::_::_::_::_::_::_::_::_::_::_::_::_::_::_::_::_::_::_::_::_::_::_::_::_::_::_::_::_::_::_::_::_::_::_::_::_::_::_::_::_::_::_::_::_::_::_::_::_::_::_::_::_::_::_) rfl ?_
          refine rl_det (met_none rfl) (fun h_ H_ => exd_lss rfl rfl) rfl ?_
          refine rl_end ?_
          by_cases cc67 : ((j : Nat) : Int) < ((n : Nat) : Int)
          · refine fl_then rfl (decide_eq_true cc67) ?_
            refine fl_skip ?_
            refine fl_seq ?_
            refine fl_block ?_
            refine fl_seq ?_
            refine fl_seq ?_
            refine fl_drawn2 32 [[], [0], [], [0, 1, 2], [0, 1, 2, 3], [], [5], [], [5, 6, 7], [5, 6, 7, 8], [0, 1, 2, 3, 4, 5, 6, 7, 8, 9], [0, 1, 2, 3, 4, 5, 6, 7, 8, 9, 10], [], [12], [], [12, 13, 14], [12, 13, 14, 15], [], [17], [0, 1, 2, 3, 4, 5, 6, 7, 8, 9, 10], [0, 1, 2, 3, 4, 5, 6, 7, 8, 9, 10, 17, 18, 19], [0, 1, 2, 3, 4, 5, 6, 7, 8, 9, 10, 17, 18, 19, 20], [0, 1, 2, 3, 4, 5, 6, 7, 8, 9, 10, 12, 13, 14, 15, 16, 17, 18, 19, 20, 21], [0, 1, 2, 3, 4, 5, 6, 7, 8, 9, 10, 12, 13, 14, 15, 16, 17, 18, 19, 20, 21, 22], [0, 1, 2, 3, 4, 5, 6, 7, 8, 9, 10, 11, 12, 13, 14, 15, 16, 17, 18, 19, 20, 21, 22, 23], [], [25], [], [25, 26, 27], [], [29], [0, 1, 2, 3, 4, 5, 6, 7, 8, 9, 10, 11, 12, 13, 14, 15, 16, 17, 18, 19, 20, 21, 22, 23], [0, 1, 2, 3, 4, 5, 6, 7, 8, 9, 10, 11, 12, 13, 14, 15, 16, 17, 18, 19, 20, 21, 22, 23, 25, 26, 27, 29, 30, 31], [0, 1, 2, 3, 4, 5, 6, 7, 8, 9, 10, 11, 12, 13, 14, 15, 16, 17, 18, 19, 20, 21, 22, 23, 25, 26, 27, 28, 29, 30, 31, 32], []] mixed (by kernel_rfl) (Nat.le_of_ble_eq_true rfl) ?_
            refine swr_det (met_none rfl) (fun h_ H_ => exd_fieldAddr tF30_0 rfl (a' := ⟨b34, 0, none⟩) rfl) rfl ?_
            refine swr_det (met_none rfl) (fun h_ H_ => exd_load_own H_ tA25 rfl (i := 0) rfl (v := .slice a36 n cp37) rfl) (tm' := _::_::_::_::_::_::_::_::_::_::_::_::_::_::_::_::_::_::_::_::_::_::_::_::_::_::_::_::_::_::_::_::_::_::_::_::_::_::_::_::_::_::_::_::_::_::_::_::_::_::_::_::_::_::_::_::_::_::_::_::_::_::_::_::_::_::_::_::_::_::_::_::_::_::_::_::_::_::_::_::_::_::_::_::_::_::_::_::_::_::_::_::_::_::_::_::_::_::_::_::_::_::_::_::_::_::_::_::_::_) rfl ?_
            refine swr_det (met_none rfl) (fun h_ H_ => exd_move (v := .int .i64 (((j : Nat) : Int))) rfl) rfl ?_
            refine swr_det (met_none rfl) (fun h_ H_ => exd_indexAddrN (i := j) Try.underlying25 tS3 (sl_ne a36 n cp37 (((((((show Ints _ _ _ (nums (levs (size + k) start (wantOf ds) (listOf xs)) n) from D39).mono le43).mono le48).mono le53).mono le58).mono le63).ne (by omega))) rfl (by omega)) (tm' := _::_::_::_::_::_::_::_::_::_::_::_::_::_::_::_::_::_::_::_::_::_::_::_::_::_::_::_::_::_::_::_::_::_::_::_::_::_::_::_::_::_::_::_::_::_::_::_::_::_::_::_::_::_::_::_::_::_::_::_::_::_::_::_::_::_::_::_::_::_::_::_::_::_::_::_::_::_::_::_::_::_::_::_::_::_::_::_::_::_::_::_::_::_::_::_::_::_::_::_::_::_::_::_::_::_::_::_::_::_::_::_) rfl ?_
            refine swr_det (met_none rfl) (fun h_ H_ => exd_load_per H_ tA3 rfl (v := .int .i64 ((nums (levs (size + k) start (wantOf ds) (listOf xs)) n).getD j 0)) (((((((show Ints _ _ _ (nums (levs (size + k) start (wantOf ds) (listOf xs)) n) from D39).mono le43).mono le48).mono le53).mono le58).mono le63).get (by omega))) rfl ?_
            refine swr_det (met_none rfl) (fun h_ H_ => exd_fieldAddr tF30_0 rfl (a' := ⟨b24, 0, none⟩) rfl) (tm' := _::_::_::_::_::_::_::_::_::_::_::_::_::_::_::_::_::_::_::_::_::_::_::_::_::_::_::_::_::_::_::_::_::_::_::_::_::_::_::_::_::_::_::_::_::_::_::_::_::_::_::_::_::_::_::_::_::_::_::_::_::_::_::_::_::_::_::_::_::_::_::_::_::_::_::_::_::_::_::_::_::_::_::_::_::_::_::_::_::_::_::_::_::_::_::_::_::_::_::_::_::_::_::_::_::_::_::_::_::_::_::_::_::_) rfl ?_
            refine swr_det (met_none rfl) (fun h_ H_ => exd_load_own H_ tA25 rfl (i := 1) rfl (v := .slice a51 n cp52) rfl) rfl ?_
            refine swr_det (met_none rfl) (fun h_ H_ => exd_move (v := .int .i64 (((j : Nat) : Int))) rfl) (tm' := _::_::_::_::_::_::_::_::_::_::_::_::_::_::_::_::_::_::_::_::_::_::_::_::_::_::_::_::_::_::_::_::_::_::_::_::_::_::_::_::_::_::_::_::_::_::_::_::_::_::_::_::_::_::_::_::_::_::_::_::_::_::_::_::_::_::_::_::_::_::_::_::_::_::_::_::_::_::_::_::_::_::_::_::_::_::_::_::_::_::_::_::_::_::_::_::_::_::_::_::_::_::_::_::_::_::_::_::_::_::_::_::_::_::_::_) rfl ?_
            refine swr_det (met_none rfl) (fun h_ H_ => exd_indexAddrN (i := j) Try.underlying25 tS3 (sl_ne a51 n cp52 ((((show Ints _ _ _ (nums (levs size start (wantOf ds) (listOf xs)) n) from D54).mono le58).mono le63).ne (by omega))) rfl (by omega)) rfl ?_
            refine swr_det (met_none rfl) (fun h_ H_ => exd_load_per H_ tA3 rfl (v := .int .i64 ((nums (levs size start (wantOf ds) (listOf xs)) n).getD j 0)) ((((show Ints _ _ _ (nums (levs size start (wantOf ds) (listOf xs)) n) from D54).mono le58).mono le63).get (by omega))) (tm' := _::_::_::_::_::_::_::_::_::_::_::_::_::_::_::_::_::_::_::_::_::_::_::_::_::_::_::_::_::_::_::_::_::_::_::_::_::_::_::_::_::_::_::_::_::_::_::_::_::_::_::_::_::_::_::_::_::_::_::_::_::_::_::_::_::_::_::_::_::_::_::_::_::_::_::_::_::_::_::_::_::_::_::_::_::_::_::_::_::_::_::_::_::_::_::_::_::_::_::_::_::_::_::_::_::_::_::_::_::_::_::_::_::_::_::_::_::_) rfl ?_
            refine swr_det (met_none rfl) (fun h_ H_ => exd_lss rfl rfl) rfl ?_
            refine swr_det (met_none rfl) (fun h_ H_ => exd_move (v := .bool (decide ((nums (levs (size + k) start (wantOf ds) (listOf xs)) n).getD j 0 < (nums (levs size start (wantOf ds) (listOf xs)) n).getD j 0))) rfl) (tm' := _::_::_::_::_::_::_::_::_::_::_::_::_::_::_::_::_::_::_::_::_::_::_::_::_::_::_::_::_::_::_::_::_::_::_::_::_::_::_::_::_::_::_::_::_::_::_::_::_::_::_::_::_::_::_::_::_::_::_::_::_::_::_::_::_::_::_::_::_::_::_::_::_::_::_::_::_::_::_::_::_::_::_::_::_::_::_::_::_::_::_::_::_::_::_::_::_::_::_::_::_::_::_::_::_::_::_::_::_::_::_::_::_::_::_::_::_::_::_::_) rfl ?_
            refine swr_det (met_some rfl rfl (decide_eq_false (by omega))) (fun h_ H_ => exd_fieldAddr tF30_1 rfl (a' := ⟨b34, 1, none⟩) rfl) rfl ?_
            refine swr_det (met_some rfl rfl (decide_eq_false (by omega))) (fun h_ H_ => exd_load_own H_ tA25 rfl (i := 0) rfl (v := .slice a41 n cp42) rfl) (tm' := _::_::_::_::_::_::_::_::_::_::_::_::_::_::_::_::_::_::_::_::_::_::_::_::_::_::_::_::_::_::_::_::_::_::_::_::_::_::_::_::_::_::_::_::_::_::_::_::_::_::_::_::_::_::_::_::_::_::_::_::_::_::_::_::_::_::_::_::_::_::_::_::_::_::_::_::_::_::_::_::_::_::_::_::_::_::_::_::_::_::_::_::_::_::_::_::_::_::_::_::_::_::_::_::_::_::_::_::_::_::_::_::_::_::_::_::_::_::_::_::_::_) rfl ?_
            refine swr_det (met_some rfl rfl (decide_eq_false (by omega))) (fun h_ H_ => exd_move (v := .int .i64 (((j : Nat) : Int))) rfl) rfl ?_
            refine swr_det (met_some rfl rfl (decide_eq_false (by omega))) (fun h_ H_ => exd_indexAddrN (i := j) Try.underlying25 tS3 (sl_ne a41 n cp42 ((((((show Ints _ _ _ (nums (lack (size + k) start (wantOf ds) (listOf xs)) n) from D44).mono le48).mono le53).mono le58).mono le63).ne (by omega))) rfl (by omega)) (tm' := _::_::_::_::_::_::_::_::_::_::_::_::_::_::_::_::_::_::_::_::_::_::_::_::_::_::_::_::_::_::_::_::_::_::_::_::_::_::_::_::_::_::_::_::_::_::_::_::_::_::_::_::_::_::_::_::_::_::_::_::_::_::_::_::_::_::_::_::_::_::_::_::_::_::_::_::_::_::_::_::_::_::_::_::_::_::_::_::_::_::_::_::_::_::_::_::_::_::_::_::_::_::_::_::_::_::_::_::_::_::_::_::_::_::_::_::_::_::_::_::_::_::_::_) rfl ?_
            refine swr_det (met_some rfl rfl (decide_eq_false (by omega))) (fun h_ H_ => exd_load_per H_ tA3 rfl (v := .int .i64 ((nums (lack (size + k) start (wantOf ds) (listOf xs)) n).getD j 0)) ((((((show Ints _ _ _ (nums (lack (size + k) start (wantOf ds) (listOf xs)) n) from D44).mono le48).mono le53).mono le58).mono le63).get (by omega))) rfl ?_
            refine swr_det (met_some rfl rfl (decide_eq_false (by omega))) (fun h_ H_ => exd_fieldAddr tF30_1 rfl (a' := ⟨b24, 1, none⟩) rfl) (tm' := _::_::_::_::_::_::_::_::_::_::_::_::_::_::_::_::_::_::_::_::_::_::_::_::_::_::_::_::_::_::_::_::_::_::_::_::_::_::_::_::_::_::_::_::_::_::_::_::_::_::_::_::_::_::_::_::_::_::_::_::_::_::_::_::_::_::_::_::_::_::_::_::_::_::_::_::_::_::_::_::_::_::_::_::_::_::_::_::_::_::_::_::_::_::_::_::_::_::_::_::_::_::_::_::_::_::_::_::_::_::_::_::_::_::_::_::_::_::_::_::_::_::_::_::_::_) rfl ?_
            refine swr_det (met_some rfl rfl (decide_eq_false (by omega))) (fun h_ H_ => exd_load_own H_ tA25 rfl (i := 1) rfl (v := .slice a56 n cp57) rfl) rfl ?_
            refine swr_det (met_some rfl rfl (decide_eq_false (by omega))) (fun h_ H_ => exd_move (v := .int .i64 (((j : Nat) : Int))) rfl) (tm' := _::_::_::_::_::_::_::_::_::_::_::_::_::_::_::_::_::_::_::_::_::_::_::_::_::_::_::_::_::_::_::_::_::_::_::_::_::_::_::_::_::_::_::_::_::_::_::_::_::_::_::_::_::_::_::_::_::_::_::_::_::_::_::_::_::_::_::_::_::_::_::_::_::_::_::_::_::_::_::_::_::_::_::_::_::_::_::_::_::_::_::_::_::_::_::_::_::_::_::_::_::_::_::_::_::_::_::_::_::_::_::_::_::_::_::_::_::_::_::_::_::_::_::_::_::_::_::_) rfl ?_
            refine swr_det (met_some rfl rfl (decide_eq_false (by omega))) (fun h_ H_ => exd_indexAddrN (i := j) Try.underlying25 tS3 (sl_ne a56 n cp57 (((show Ints _ _ _ (nums (lack size start (wantOf ds) (listOf xs)) n) from D59).mono le63).ne (by omega))) rfl (by omega)) rfl ?_
            refine swr_det (met_some rfl rfl (decide_eq_false (by omega))) (fun h_ H_ => exd_load_per H_ tA3 rfl (v := .int .i64 ((nums (lack size start (wantOf ds) (listOf xs)) n).getD j 0)) (((show Ints _ _ _ (nums (lack size start (wantOf ds) (listOf xs)) n) from D59).mono le63).get (by omega))) (tm' := _::_::_::_::_::_::_::_::_::_::_::_::_::_::_::_::_::_::_::_::_::_::_::_::_::_::_::_::_::_::_::_::_::_::_::_::_::_::_::_::_::_::_::_::_::_::_::_::_::_::_::_::_::_::_::_::_::_::_::_::_::_::_::_::_::_::_::_::_::_::_::_::_::_::_::_::_::_::_::_::_::_::_::_::_::_::_::_::_::_::_::_::_::_::_::_::_::_::_::_::_::_::_::_::_::_::_::_::_::_::_::_::_::_::_::_::_::_::_::_::_::_::_::_::_::_::_::_::_::_) rfl ?_
            refine swr_det (met_some rfl rfl (decide_eq_false (by omega))) (fun h_ H_ => exd_gtr rfl rfl) rfl ?_
            refine swr_det (met_none rfl) (fun h_ H_ => exd_pick_f rfl (decide_eq_false (by omega)) (v := .bool (decide ((nums (lack size start (wantOf ds) (listOf xs)) n).getD j 0 < (nums (lack (size + k) start (wantOf ds) (listOf xs)) n).getD j 0))) rfl) (tm' := _::_::_::_::_::_::_::_::_::_::_::_::_::_::_::_::_::_::_::_::_::_::_::_::_::_::_::_::_::_::_::_::_::_::_::_::_::_::_::_::_::_::_::_::_::_::_::_::_::_::_::_::_::_::_::_::_::_::_::_::_::_::_::_::_::_::_::_::_::_::_::_::_::_::_::_::_::_::_::_::_::_::_::_::_::_::_::_::_::_::_::_::_::_::_::_::_::_::_::_::_::_::_::_::_::_::_::_::_::_::_::_::_::_::_::_::_::_::_::_::_::_::_::_::_::_::_::_::_::_::_::_) rfl ?_
            refine swr_det (met_none rfl) (fun h_ H_ => exd_move (v := .bool (decide ((nums (lack size start (wantOf ds) (listOf xs)) n).getD j 0 < (nums (lack (size + k) start (wantOf ds) (listOf xs)) n).getD j 0))) rfl) rfl ?_
            refine swr_det (met_some rfl rfl (decide_eq_false (by omega))) (fun h_ H_ => exd_fieldAddr tF30_2 rfl (a' := ⟨b34, 2, none⟩) rfl) (tm' := _::_::_::_::_::_::_::_::_::_::_::_::_::_::_::_::_::_::_::_::_::_::_::_::_::_::_::_::_::_::_::_::_::_::_::_::_::_::_::_::_::_::_::_::_::_::_::_::_::_::_::_::_::_::_::_::_::_::_::_::_::_::_::_::_::_::_::_::_::_::_::_::_::_::_::_::_::_::_::_::_::_::_::_::_::_::_::_::_::_::_::_::_::_::_::_::_::_::_::_::_::_::_::_::_::_::_::_::_::_::_::_::_::_::_::_::_::_::_::_::_::_::_::_::_::_::_::_::_::_::_::_::_::_) rfl ?_
            refine swr_det (met_some rfl rfl (decide_eq_false (by omega))) (fun h_ H_ => exd_load_own H_ tA25 rfl (i := 0) rfl (v := .slice a46 n cp47) rfl) rfl ?_
            refine swr_det (met_some rfl rfl (decide_eq_false (by omega))) (fun h_ H_ => exd_move (v := .int .i64 (((j : Nat) : Int))) rfl) (tm' := _::_::_::_::_::_::_::_::_::_::_::_::_::_::_::_::_::_::_::_::_::_::_::_::_::_::_::_::_::_::_::_::_::_::_::_::_::_::_::_::_::_::_::_::_::_::_::_::_::_::_::_::_::_::_::_::_::_::_::_::_::_::_::_::_::_::_::_::_::_::_::_::_::_::_::_::_::_::_::_::_::_::_::_::_::_::_::_::_::_::_::_::_::_::_::_::_::_::_::_::_::_::_::_::_::_::_::_::_::_::_::_::_::_::_::_::_::_::_::_::_::_::_::_::_::_::_::_::_::_::_::_::_::_::_::_) rfl ?_
            refine swr_call (met_some rfl rfl (decide_eq_false (by omega))) (first := []) (cap := []) rfl rfl fC20 (fun h_ H_ => (c20 (.main true) _ _ (fun b_ o_ e_ => H_.per b_ o_ e_) _ _ _ _ ((((show Ints _ _ _ (nums (ovr (size + k) start (wantOf ds) (listOf xs)) n) from D49).mono le53).mono le58).mono le63) (by omega) ((j : Nat) : Int) (overs_ok hOk2 hX hl)).mono fun v_ h2_ ⟨e_, k_⟩ => ⟨e_, H_.call k_⟩) rfl ?_
            refine swr_det (met_some rfl rfl (decide_eq_false (by omega))) (fun h_ H_ => exd_fieldAddr tF30_2 rfl (a' := ⟨b24, 2, none⟩) rfl) (tm' := _::_::_::_::_::_::_::_::_::_::_::_::_::_::_::_::_::_::_::_::_::_::_::_::_::_::_::_::_::_::_::_::_::_::_::_::_::_::_::_::_::_::_::_::_::_::_::_::_::_::_::_::_::_::_::_::_::_::_::_::_::_::_::_::_::_::_::_::_::_::_::_::_::_::_::_::_::_::_::_::_::_::_::_::_::_::_::_::_::_::_::_::_::_::_::_::_::_::_::_::_::_::_::_::_::_::_::_::_::_::_::_::_::_::_::_::_::_::_::_::_::_::_::_::_::_::_::_::_::_::_::_::_::_::_::_::_::_) rfl ?_
            refine swr_det (met_some rfl rfl (decide_eq_false (by omega))) (fun h_ H_ => exd_load_own H_ tA25 rfl (i := 1) rfl (v := .slice a61 n cp62) rfl) rfl ?_
            refine swr_det (met_some rfl rfl (decide_eq_false (by omega))) (fun h_ H_ => exd_move (v := .int .i64 (((j : Nat) : Int))) rfl) (tm' := _::_::_::_::_::_::_::_::_::_::_::_::_::_::_::_::_::_::_::_::_::_::_::_::_::_::_::_::_::_::_::_::_::_::_::_::_::_::_::_::_::_::_::_::_::_::_::_::_::_::_::_::_::_::_::_::_::_::_::_::_::_::_::_::_::_::_::_::_::_::_::_::_::_::_::_::_::_::_::_::_::_::_::_::_::_::_::_::_::_::_::_::_::_::_::_::_::_::_::_::_::_::_::_::_::_::_::_::_::_::_::_::_::_::_::_::_::_::_::_::_::_::_::_::_::_::_::_::_::_::_::_::_::_::_::_::_::_::_::_) rfl ?_
            refine swr_nil rfl ?_
            refine rl_calld (met_some rfl rfl (decide_eq_false (by omega))) (first := []) (cap := []) rfl rfl fC20 (fun h_ H_ => c20 (.main true) _ _ (fun b_ o_ e_ => H_.per b_ o_ e_) _ _ _ _ (show Ints _ _ _ (nums (ovr size start (wantOf ds) (listOf xs)) n) from D64) (by omega) ((j : Nat) : Int) (overs_ok hOk hX hl)) rfl ?_
            refine rl_det (met_some rfl rfl (decide_eq_false (by omega))) (fun h_ H_ => exd_gtr rfl rfl) rfl ?_
            refine rl_det (met_none rfl) (fun h_ H_ => exd_pick_f rfl (decide_eq_false (by omega)) (v := .bool (decide (sumTo (listOf (nums (ovr size start (wantOf ds) (listOf xs)) n)) (min n (((j : Nat) : Int) + 1).toNat) < sumTo (listOf (nums (ovr (size + k) start (wantOf ds) (listOf xs)) n)) (min n (((j : Nat) : Int) + 1).toNat)))) rfl) (tm' := _::_::_::_::_::_::_::_::_::_::_::_::_::_::_::_::_::_::_::_::_::_::_::_::_::_::_::_::_::_::_::_::_::_::_::_::_::_::_::_::_::_::_::_::_::_::_::_::_::_::_::_::_::_::_::_::_::_::_::_::_::_::_::_::_::_::_::_::_::_::_::_::_::_::_::_::_::_::_::_::_::_::_::_::_::_::_::_::_::_::_::_::_::_::_::_::_::_::_::_::_::_::_::_::_::_::_::_::_::_::_::_::_::_::_::_::_::_::_::_::_::_::_::_::_::_::_::_::_::_::_::_::_::_::_::_::_::_::_::_::_::_::_) rfl ?_
            refine rl_end ?_
            refine fl_else rfl (decide_eq_false (by omega)) ?_
            refine fl_skip ?_
            refine fl_seq ?_
            refine rl_start ?_
            refine rl_det (met_none rfl) (fun h_ H_ => exd_loadN_own H_ tA24 tS24 rfl (i := 3) rfl (vs := [.int .i64 (size), .int .i64 (start), .slice a n c]) rfl rfl) rfl ?_
            refine rl_det (met_none rfl) (fun h_ H_ => exd_move (v := .int .i64 (((j : Nat) : Int))) rfl) rfl ?_
            refine rl_calld (met_none rfl) (first := []) (cap := []) rfl rfl fC27 (fun h_ H_ => c27 (.main true) _ _ (fun b_ o_ e_ => H_.per b_ o_ e_) (size) (start) _ _ _ _ (((((((D.mono le13).mono le38).mono le43).mono le48).mono le53).mono le58).mono le63) (by omega) ((j : Nat) : Int)) (tm' := [_,_,_,_,_,_,_,_,_,_,_,_,_,_,_,_,_,_,_,_,_,_,_,_,_,_,_,_,_,_,_,_,_,_,_,_,_,_,_,_,_,_,_,_,_,_,_,_,_,_,_,_,_,_,_,_,_,_,_,_,_,_,_,_,_,_,_,_,_,_,_,_,_,_,_,_,_,_,_,_,_,_,_,_,_,_,_,_,_,_,_,_,_,_,_,_,_,_,_,_,_,_,_,_,_,_,_,_,_,_,_,_,_,_,_,_,_,_,_,_,_,_,_,_,_,_,_,_,_,_,_,_,_,_,_,_,_,_,_,_,_,_,_,_,_,_,_,_,_,_,_,_,_,_,_,_,_,_,_,_,_,_,_,_,_,_,_,_,_,_,_,_,_,_,_,_,_,_,_,_,_,_,_,_,_,_,_,_,_,_,_,_,_,_,_,_,_,_,_,_,_,_,_,_,_,_,_,_,_,_,_,_,_]) rfl ?_
            refine rl_det (met_none rfl) (fun h_ H_ => exd_move (v := .tuple #[.int .i64 ((spareR size start ds ((j : Nat) : Int)).1), .int .i64 ((spareR size start ds ((j : Nat) : Int)).2)]) rfl) rfl ?_
            refine rl_det (met_none rfl) (fun h_ H_ => exd_extract rfl (v := .int .i64 ((spareR size start ds ((j : Nat) : Int)).1)) rfl) rfl ?_
            refine rl_det (met_none rfl) (fun h_ H_ => exd_extract rfl (v := .int .i64 ((spareR size start ds ((j : Nat) : Int)).2)) rfl) (tm' := [_,_,_,_,_,_,_,_,_,_,_,_,_,_,_,_,_,_,_,_,_,_,_,_,_,_,_,_,_,_,_,_,_,_,_,_,_,_,_,_,_,_,_,_,_,_,_,_,_,_,_,_,_,_,_,_,_,_,_,_,_,_,_,_,_,_,_,_,_,_,_,_,_,_,_,_,_,_,_,_,_,_,_,_,_,_,_,_,_,_,_,_,_,_,_,_,_,_,_,_,_,_,_,_,_,_,_,_,_,_,_,_,_,_,_,_,_,_,_,_,_,_,_,_,_,_,_,_,_,_,_,_,_,_,_,_,_,_,_,_,_,_,_,_,_,_,_,_,_,_,_,_,_,_,_,_,_,_,_,_,_,_,_,_,_,_,_,_,_,_,_,_,_,_,_,_,_,_,_,_,_,_,_,_,_,_,_,_,_,_,_,_,_,_,_,_,_,_,_,_,_,_,_,_,_,_,_,_,_,_,_,_,_]) rfl ?_
            refine rl_det (met_none rfl) (fun h_ H_ => exd_assign (v := .int .i64 ((spareR size start ds ((j : Nat) : Int)).1)) rfl) rfl ?_
            refine rl_det (met_none rfl) (fun h_ H_ => exd_assign (v := .int .i64 ((spareR size start ds ((j : Nat) : Int)).2)) rfl) rfl ?_
            refine rl_end ?_
            refine fl_seq ?_
            refine rl_start ?_
            refine rl_det (met_none rfl) (fun h_ H_ => exd_loadN_own H_ tA24 tS24 rfl (i := 2) rfl (vs := [.int .i64 (size + k), .int .i64 (start), .slice a11 n cp12]) rfl rfl) (tm' := [_,_,_,_,_,_,_,_,_,_,_,_,_,_,_,_,_,_,_,_,_,_,_,_,_,_,_,_,_,_,_,_,_,_,_,_,_,_,_,_,_,_,_,_,_,_,_,_,_,_,_,_,_,_,_,_,_,_,_,_,_,_,_,_,_,_,_,_,_,_,_,_,_,_,_,_,_,_,_,_,_,_,_,_,_,_,_,_,_,_,_,_,_,_,_,_,_,_,_,_,_,_,_,_,_,_,_,_,_,_,_,_,_,_,_,_,_,_,_,_,_,_,_,_,_,_,_,_,_,_,_,_,_,_,_,_,_,_,_,_,_,_,_,_,_,_,_,_,_,_,_,_,_,_,_,_,_,_,_,_,_,_,_,_,_,_,_,_,_,_,_,_,_,_,_,_,_,_,_,_,_,_,_,_,_,_,_,_,_,_,_,_,_,_,_,_,_,_,_,_,_,_,_,_,_,_,_,_,_,_,_,_,_]) rfl ?_
            refine rl_det (met_none rfl) (fun h_ H_ => exd_move (v := .int .i64 (((j : Nat) : Int))) rfl) rfl ?_
            refine rl_calld (met_none rfl) (first := []) (cap := []) rfl rfl fC27 (fun h_ H_ => c27 (.main true) _ _ (fun b_ o_ e_ => H_.per b_ o_ e_) (size + k) (start) _ _ _ _ (((((((show Days _ _ _ ds from D14).mono le38).mono le43).mono le48).mono le53).mono le58).mono le63) (by omega) ((j : Nat) : Int)) rfl ?_
            refine rl_det (met_none rfl) (fun h_ H_ => exd_move (v := .tuple #[.int .i64 ((spareR (size + k) start ds ((j : Nat) : Int)).1), .int .i64 ((spareR (size + k) start ds ((j : Nat) : Int)).2)]) rfl) (tm' := [_,_,_,_,_,_,_,_,_,_,_,_,_,_,_,_,_,_,_,_,_,_,_,_,_,_,_,_,_,_,_,_,_,_,_,_,_,_,_,_,_,_,_,_,_,_,_,_,_,_,_,_,_,_,_,_,_,_,_,_,_,_,_,_,_,_,_,_,_,_,_,_,_,_,_,_,_,_,_,_,_,_,_,_,_,_,_,_,_,_,_,_,_,_,_,_,_,_,_,_,_,_,_,_,_,_,_,_,_,_,_,_,_,_,_,_,_,_,_,_,_,_,_,_,_,_,_,_,_,_,_,_,_,_,_,_,_,_,_,_,_,_,_,_,_,_,_,_,_,_,_,_,_,_,_,_,_,_,_,_,_,_,_,_,_,_,_,_,_,_,_,_,_,_,_,_,_,_,_,_,_,_,_,_,_,_,_,_,_,_,_,_,_,_,_,_,_,_,_,_,_,_,_,_,_,_,_,_,_,_,_,_,_]) rfl ?_
            refine rl_det (met_none rfl) (fun h_ H_ => exd_extract rfl (v := .int .i64 ((spareR (size + k) start ds ((j : Nat) : Int)).1)) rfl) rfl ?_
            refine rl_det (met_none rfl) (fun h_ H_ => exd_extract rfl (v := .int .i64 ((spareR (size + k) start ds ((j : Nat) : Int)).2)) rfl) rfl ?_
            refine rl_det (met_none rfl) (fun h_ H_ => exd_assign (v := .int .i64 ((spareR (size + k) start ds ((j : Nat) : Int)).1)) rfl) (tm' := _::_::_::_::_::_::_::_::_::_::_::_::_::_::_::_::_::_::_::_::_::_::_) rfl ?_
            refine rl_det (met_none rfl) (fun h_ H_ => exd_assign (v := .int .i64 ((spareR (size + k) start ds ((j : Nat) : Int)).2)) rfl) rfl ?_
            refine rl_end ?_
            refine fl_seq ?_
            refine rl_start ?_
            refine rl_det (met_none rfl) (fun h_ H_ => exd_move (v := .int .i64 ((spareR size start ds ((j : Nat) : Int)).2)) rfl) rfl ?_
            refine rl_det (met_none rfl) (fun h_ H_ => exd_neq rfl rfl) (tm' := [_,_,_,_,_,_,_,_,_,_,_,_,_,_,_,_,_,_,_,_,_,_,_,_,_,_,_,_,_,_,_,_,_,_,_,_,_,_,_,_,_,_,_,_,_,_,_,_,_,_,_,_,_,_,_,_,_,_,_,_,_,_,_,_,_,_,_,_,_,_,_,_,_,_,_,_,_,_,_,_,_,_,_,_,_,_,_,_,_,_,_,_,_,_,_,_,_,_,_,_,_,_,_,_,_,_,_,_,_,_,_,_,_,_,_,_,_,_,_,_,_,_,_,_,_,_,_,_,_,_,_,_,_,_,_,_,_,_,_,_,_,_,_,_,_,_,_,_,_,_,_,_,_,_,_,_,_,_,_,_,_,_,_,_,_,_,_,_,_,_,_,_,_,_,_,_,_,_,_,_,_,_,_,_,_,_,_,_,_,_,_,_,_,_,_,_,_,_,_,_,_,_,_,_,_,_,_,_,_,_,_,_,_]) rfl ?_
            refine rl_det (met_none rfl) (fun h_ H_ => exd_move (v := .bool (decide ((spareR size start ds ((j : Nat) : Int)).2 ≠ 0))) rfl) rfl ?_
            by_cases cc68 : (spareR size start ds ((j : Nat) : Int)).2 ≠ 0
            · refine rl_det (met_some rfl rfl (decide_eq_true cc68)) (fun h_ H_ => exd_move (v := .int .i64 ((spareR size start ds ((j : Nat) : Int)).2)) rfl) rfl ?_
              refine rl_det (met_some rfl rfl (decide_eq_true cc68)) (fun h_ H_ => exd_neq rfl rfl) (tm' := [_,_,_,_,_,_,_,_,_,_,_,_,_,_,_,_,_,_,_,_,_,_,_,_,_,_,_,_,_,_,_,_,_,_,_,_,_,_,_,_,_,_,_,_,_,_,_,_,_,_,_,_,_,_,_,_,_,_,_,_,_,_,_,_,_,_,_,_,_,_,_,_,_,_,_,_,_,_,_,_,_,_,_,_,_,_,_,_,_,_,_,_,_,_,_,_,_,_,_,_,_,_,_,_,_,_,_,_,_,_,_,_,_,_,_,_,_,_,_,_,_,_,_,_,_,_,_,_,_,_,_,_,_,_,_,_,_,_,_,_,_,_,_,_,_,_,_,_,_,_,_,_,_,_,_,_,_,_,_,_,_,_,_,_,_,_,_,_,_,_,_,_,_,_,_,_,_,_,_,_,_,_,_,_,_,_,_,_,_,_,_,_,_,_,_,_,_,_,_,_,_,_,_,_,_,_,_,_,_,_,_,_,_]) rfl ?_
              refine rl_det (met_none rfl) (fun h_ H_ => exd_pick_t rfl (decide_eq_true cc68) (v := .bool (decide ((spareR size start ds ((j : Nat) : Int)).2 ≠ 3))) rfl) rfl ?_
              refine rl_det (met_none rfl) (fun h_ H_ => exd_move (v := .bool (decide ((spareR size start ds ((j : Nat) : Int)).2 ≠ 3))) rfl) rfl ?_
              refine rl_det (met_some rfl rfl (decide_eq_false (by omega))) (fun h_ H_ => exd_move (v := .int .i64 ((spareR (size + k) start ds ((j : Nat) : Int)).2)) rfl) (tm' := [_,_,_,_,_,_,_,_,_,_,_,_,_,_,_,_,_,_,_,_,_,_,_,_,_,_,_,_,_,_,_,_,_,_,_,_,_,_,_,_,_,_,_,_,_,_,_,_,_,_,_,_,_,_,_,_,_,_,_,_,_,_,_,_,_,_,_,_,_,_,_,_,_,_,_,_,_,_,_,_,_,_,_,_,_,_,_,_,_,_,_,_,_,_,_,_,_,_,_,_,_,_,_,_,_,_,_,_,_,_,_,_,_,_,_,_,_,_,_,_,_,_,_,_,_,_,_,_,_,_,_,_,_,_,_,_,_,_,_,_,_,_,_,_,_,_,_,_,_,_,_,_,_,_,_,_,_,_,_,_,_,_,_,_,_,_,_,_,_,_,_,_,_,_,_,_,_,_,_,_,_,_,_,_,_,_,_,_,_,_,_,_,_,_,_,_,_,_,_,_,_,_,_,_,_,_,_,_,_,_,_,_,_]) rfl ?_
              refine rl_det (met_some rfl rfl (decide_eq_false (by omega))) (fun h_ H_ => exd_neq rfl rfl) rfl ?_
              refine rl_det (met_some rfl rfl (decide_eq_false (by omega))) (fun h_ H_ => exd_move (v := .bool (decide ((spareR (size + k) start ds ((j : Nat) : Int)).2 ≠ 0))) rfl) rfl ?_
              by_cases cc69 : (spareR (size + k) start ds ((j : Nat) : Int)).2 ≠ 0
              · refine rl_det (met_some rfl rfl (decide_eq_true cc69)) (fun h_ H_ => exd_move (v := .int .i64 ((spareR (size + k) start ds ((j : Nat) : Int)).2)) rfl) (tm' := [_,_,_,_,_,_,_,_,_,_,_,_,_,_,_,_,_,_,_,_,_,_,_,_,_,_,_,_,_,_,_,_,_,_,_,_,_,_,_,_,_,_,_,_,_,_,_,_,_,_,_,_,_,_,_,_,_,_,_,_,_,_,_,_,_,_,_,_,_,_,_,_,_,_,_,_,_,_,_,_,_,_,_,_,_,_,_,_,_,_,_,_,_,_,_,_,_,_,_,_,_,_,_,_,_,_,_,_,_,_,_,_,_,_,_,_,_,_,_,_,_,_,_,_,_,_,_,_,_,_,_,_,_,_,_,_,_,_,_,_,_,_,_,_,_,_,_,_,_,_,_,_,_,_,_,_,_,_,_,_,_,_,_,_,_,_,_,_,_,_,_,_,_,_,_,_,_,_,_,_,_,_,_,_,_,_,_,_,_,_,_,_,_,_,_,_,_,_,_,_,_,_,_,_,_,_,_,_,_,_,_,_,_]) rfl ?_
                refine rl_det (met_some rfl rfl (decide_eq_true cc69)) (fun h_ H_ => exd_neq rfl rfl) rfl ?_
                refine rl_det (met_some rfl rfl (decide_eq_false (by omega))) (fun h_ H_ => exd_pick_t rfl (decide_eq_true cc69) (v := .bool (decide ((spareR (size + k) start ds ((j : Nat) : Int)).2 ≠ 3))) rfl) rfl ?_
                refine rl_det (met_none rfl) (fun h_ H_ => exd_pick_f rfl (decide_eq_false (by omega)) (v := .bool (decide ((spareR (size + k) start ds ((j : Nat) : Int)).2 ≠ 3))) rfl) (tm' := [_,_,_,_,_,_,_,_,_,_,_,_,_,_,_,_,_,_,_,_,_,_,_,_,_,_,_,_,_,_,_,_,_,_,_,_,_,_,_,_,_,_,_,_,_,_,_,_,_,_,_,_,_,_,_,_,_,_,_,_,_,_,_,_,_,_,_,_,_,_,_,_,_,_,_,_,_,_,_,_,_,_,_,_,_,_,_,_,_,_,_,_,_,_,_,_,_,_,_,_,_,_,_,_,_,_,_,_,_,_,_,_,_,_,_,_,_,_,_,_,_,_,_,_,_,_,_,_,_,_,_,_,_,_,_,_,_,_,_,_,_,_,_,_,_,_,_,_,_,_,_,_,_,_,_,_,_,_,_,_,_,_,_,_,_,_,_,_,_,_,_,_,_,_,_,_,_,_,_,_,_,_,_,_,_,_,_,_,_,_,_,_,_,_,_,_,_,_,_,_,_,_,_,_,_,_,_,_,_,_,_,_,_]) rfl ?_
                refine rl_det (met_none rfl) (fun h_ H_ => exd_move (v := .bool (decide ((spareR (size + k) start ds ((j : Nat) : Int)).2 ≠ 3))) rfl) rfl ?_
                refine rl_det (met_some rfl rfl (decide_eq_false (by omega))) (fun h_ H_ => exd_move (v := .int .i64 ((spareR size start ds ((j : Nat) : Int)).2)) rfl) rfl ?_
                refine rl_det (met_some rfl rfl (decide_eq_false (by omega))) (fun h_ H_ => exd_eql rfl rfl) (tm' := [_,_,_,_,_,_,_,_,_,_,_,_,_,_,_,_,_,_,_,_,_,_,_,_,_,_,_,_,_,_,_,_,_,_,_,_,_,_,_,_,_,_,_,_,_,_,_,_,_,_,_,_,_,_,_,_,_,_,_,_,_,_,_,_,_,_,_,_,_,_,_,_,_,_,_,_,_,_,_,_,_,_,_,_,_,_,_,_,_,_,_,_,_,_,_,_,_,_,_,_,_,_,_,_,_,_,_,_,_,_,_,_,_,_,_,_,_,_,_,_,_,_,_,_,_,_,_,_,_,_,_,_,_,_,_,_,_,_,_,_,_,_,_,_,_,_,_,_,_,_,_,_,_,_,_,_,_,_,_,_,_,_,_,_,_,_,_,_,_,_,_,_,_,_,_,_,_,_,_,_,_,_,_,_,_,_,_,_,_,_,_,_,_,_,_,_,_,_,_,_,_,_,_,_,_,_,_,_,_,_,_,_,_]) rfl ?_
                refine rl_det (met_some rfl rfl (decide_eq_false (by omega))) (fun h_ H_ => exd_move (v := .bool (decide ((spareR size start ds ((j : Nat) : Int)).2 = 0))) rfl) rfl ?_
                refine rl_pass (met_not rfl rfl (decide_eq_false (of_decide_eq_true (decide_eq_true cc68)))) rfl ?_
                refine rl_pass (met_not rfl rfl (decide_eq_false (of_decide_eq_true (decide_eq_true cc68)))) (tm' := [_,_,_,_,_,_,_,_,_,_,_,_,_,_,_,_,_,_,_,_,_,_,_,_,_,_,_,_,_,_,_,_,_,_,_,_,_,_,_,_,_,_,_,_,_,_,_,_,_,_,_,_,_,_,_,_,_,_,_,_,_,_,_,_,_,_,_,_,_,_,_,_,_,_,_,_,_,_,_,_,_,_,_,_,_,_,_,_,_,_,_,_,_,_,_,_,_,_,_,_,_,_,_,_,_,_,_,_,_,_,_,_,_,_,_,_,_,_,_,_,_,_,_,_,_,_,_,_,_,_,_,_,_,_,_,_,_,_,_,_,_,_,_,_,_,_,_,_,_,_,_,_,_,_,_,_,_,_,_,_,_,_,_,_,_,_,_,_,_,_,_,_,_,_,_,_,_,_,_,_,_,_,_,_,_,_,_,_,_,_,_,_,_,_,_,_,_,_,_,_,_,_,_,_,_,_,_,_,_,_,_,_,_]) rfl ?_
                refine rl_pass (met_not rfl rfl (decide_eq_false (of_decide_eq_true (decide_eq_true cc68)))) rfl ?_
                refine rl_pass (met_undef rfl rfl) rfl ?_
                refine rl_pass (met_undef rfl rfl) (tm' := [_,_,_,_,_,_,_,_,_,_,_,_,_,_,_,_,_,_,_,_,_,_,_,_,_,_,_,_,_,_,_,_,_,_,_,_,_,_,_,_,_,_,_,_,_,_,_,_,_,_,_,_,_,_,_,_,_,_,_,_,_,_,_,_,_,_,_,_,_,_,_,_,_,_,_,_,_,_,_,_,_,_,_,_,_,_,_,_,_,_,_,_,_,_,_,_,_,_,_,_,_,_,_,_,_,_,_,_,_,_,_,_,_,_,_,_,_,_,_,_,_,_,_,_,_,_,_,_,_,_,_,_,_,_,_,_,_,_,_,_,_,_,_,_,_,_,_,_,_,_,_,_,_,_,_,_,_,_,_,_,_,_,_,_,_,_,_,_,_,_,_,_,_,_,_,_,_,_,_,_,_,_,_,_,_,_,_,_,_,_,_,_,_,_,_,_,_,_,_,_,_,_,_,_,_,_,_,_,_,_,_,_,_]) rfl ?_
                refine rl_pass (met_undef rfl rfl) rfl ?_
                refine rl_pass (met_not rfl rfl (decide_eq_false (of_decide_eq_true (decide_eq_true cc68)))) rfl ?_
                refine rl_det (met_some rfl rfl (decide_eq_false (by omega))) (fun h_ H_ => exd_pick_f rfl (decide_eq_false (of_decide_eq_true (decide_eq_true cc68))) (v := .bool (false)) rfl) (tm' := [_,_,_,_,_,_,_,_,_,_,_,_,_,_,_,_,_,_,_,_,_,_,_,_,_,_,_,_,_,_,_,_,_,_,_,_,_,_,_,_,_,_,_,_,_,_,_,_,_,_,_,_,_,_,_,_,_,_,_,_,_,_,_,_,_,_,_,_,_,_,_,_,_,_,_,_,_,_,_,_,_,_,_,_,_,_,_,_,_,_,_,_,_,_,_,_,_,_,_,_,_,_,_,_,_,_,_,_,_,_,_,_,_,_,_,_,_,_,_,_,_,_,_,_,_,_,_,_,_,_,_,_,_,_,_,_,_,_,_,_,_,_,_,_,_,_,_,_,_,_,_,_,_,_,_,_,_,_,_,_,_,_,_,_,_,_,_,_,_,_,_,_,_,_,_,_,_,_,_,_,_,_,_,_,_,_,_,_,_,_,_,_,_,_,_,_,_,_,_,_,_,_,_,_,_,_,_,_,_,_,_,_,_]) rfl ?_
                refine rl_det (met_none rfl) (fun h_ H_ => exd_pick_f rfl (decide_eq_false (by omega)) (v := .bool (false)) rfl) rfl ?_
                refine rl_end ?_
                refine fl_else rfl rfl ?_
                refine fl_skip ?_
                refine fl_inBlock ?_
                refine rl_start ?_
                refine rl_det (met_none rfl) (fun h_ H_ => exd_move (v := .int .i64 (((j : Nat) : Int))) rfl) rfl ?_
                refine rl_det (met_none rfl) (fun h_ H_ => exd_add rfl rfl (n := ((j + 1 : Nat) : Int)) (wr (by omega))) (tm' := _::_::_::_::_::_::_::_::_::_::_::_::_::_::_::_::_::_::_::_::_::_::_::_::_::_::_::_::_::_::_::_::_::_::_::_::_::_::_::_::_::_::_::_::_::_::_::_::_::_::_::_::_::_::_::_::_::_::_::_::_::_::_::_::_::_::_::_::_::_::_::_::_::_::_::_::_::_::_::_::_::_::_::_::_::_::_::_::_::_::_::_::_::_::_::_::_::_::_::_::_::_::_::_::_::_::_::_) rfl ?_
                refine rl_det (met_none rfl) (fun h_ H_ => exd_assign (v := .int .i64 (((j + 1 : Nat) : Int))) rfl) rfl ?_
                refine rl_end ?_
                exact fun h_ H_ => IH66 _ _ (by omega) h_ ⟨j + 1, rfl, (y_of rfl), (by omega), H_⟩
              · refine rl_pass (met_not rfl rfl (decide_eq_false cc69)) rfl ?_
                refine rl_pass (met_not rfl rfl (decide_eq_false cc69)) (tm' := [_,_,_,_,_,_,_,_,_,_,_,_,_,_,_,_,_,_,_,_,_,_,_,_,_,_,_,_,_,_,_,_,_,_,_,_,_,_,_,_,_,_,_,_,_,_,_,_,_,_,_,_,_,_,_,_,_,_,_,_,_,_,_,_,_,_,_,_,_,_,_,_,_,_,_,_,_,_,_,_,_,_,_,_,_,_,_,_,_,_,_,_,_,_,_,_,_,_,_,_,_,_,_,_,_,_,_,_,_,_,_,_,_,_,_,_,_,_,_,_,_,_,_,_,_,_,_,_,_,_,_,_,_,_,_,_,_,_,_,_,_,_,_,_,_,_,_,_,_,_,_,_,_,_,_,_,_,_,_,_,_,_,_,_,_,_,_,_,_,_,_,_,_,_,_,_,_,_,_,_,_,_,_,_,_,_,_,_,_,_,_,_,_,_,_,_,_,_,_,_,_,_,_,_,_,_,_,_,_,_,_,_,_]) rfl ?_
                refine rl_det (met_some rfl rfl (decide_eq_false (by omega))) (fun h_ H_ => exd_pick_f rfl (decide_eq_false cc69) (v := .bool (false)) rfl) rfl ?_
                refine rl_det (met_none rfl) (fun h_ H_ => exd_pick_f rfl (decide_eq_false (by omega)) (v := .bool (false)) rfl) rfl ?_
                refine rl_det (met_none rfl) (fun h_ H_ => exd_move (v := .bool (false)) rfl) (tm' := [_,_,_,_,_,_,_,_,_,_,_,_,_,_,_,_,_,_,_,_,_,_,_,_,_,_,_,_,_,_,_,_,_,_,_,_,_,_,_,_,_,_,_,_,_,_,_,_,_,_,_,_,_,_,_,_,_,_,_,_,_,_,_,_,_,_,_,_,_,_,_,_,_,_,_,_,_,_,_,_,_,_,_,_,_,_,_,_,_,_,_,_,_,_,_,_,_,_,_,_,_,_,_,_,_,_,_,_,_,_,_,_,_,_,_,_,_,_,_,_,_,_,_,_,_,_,_,_,_,_,_,_,_,_,_,_,_,_,_,_,_,_,_,_,_,_,_,_,_,_,_,_,_,_,_,_,_,_,_,_,_,_,_,_,_,_,_,_,_,_,_,_,_,_,_,_,_,_,_,_,_,_,_,_,_,_,_,_,_,_,_,_,_,_,_,_,_,_,_,_,_,_,_,_,_,_,_,_,_,_,_,_,_]) rfl ?_
                refine rl_det (met_some rfl rfl rfl) (fun h_ H_ => exd_move (v := .int .i64 ((spareR size start ds ((j : Nat) : Int)).2)) rfl) rfl ?_
                refine rl_det (met_some rfl rfl rfl) (fun h_ H_ => exd_eql rfl rfl) rfl ?_
                refine rl_det (met_some rfl rfl rfl) (fun h_ H_ => exd_move (v := .bool (decide ((spareR size start ds ((j : Nat) : Int)).2 = 0))) rfl) (tm' := [_,_,_,_,_,_,_,_,_,_,_,_,_,_,_,_,_,_,_,_,_,_,_,_,_,_,_,_,_,_,_,_,_,_,_,_,_,_,_,_,_,_,_,_,_,_,_,_,_,_,_,_,_,_,_,_,_,_,_,_,_,_,_,_,_,_,_,_,_,_,_,_,_,_,_,_,_,_,_,_,_,_,_,_,_,_,_,_,_,_,_,_,_,_,_,_,_,_,_,_,_,_,_,_,_,_,_,_,_,_,_,_,_,_,_,_,_,_,_,_,_,_,_,_,_,_,_,_,_,_,_,_,_,_,_,_,_,_,_,_,_,_,_,_,_,_,_,_,_,_,_,_,_,_,_,_,_,_,_,_,_,_,_,_,_,_,_,_,_,_,_,_,_,_,_,_,_,_,_,_,_,_,_,_,_,_,_,_,_,_,_,_,_,_,_,_,_,_,_,_,_,_,_,_,_,_,_,_,_,_,_,_,_]) rfl ?_
                refine rl_pass (met_not rfl rfl (decide_eq_false (of_decide_eq_true (decide_eq_true cc68)))) rfl ?_
                refine rl_pass (met_not rfl rfl (decide_eq_false (of_decide_eq_true (decide_eq_true cc68)))) rfl ?_
                refine rl_pass (met_not rfl rfl (decide_eq_false (of_decide_eq_true (decide_eq_true cc68)))) (tm' := [_,_,_,_,_,_,_,_,_,_,_,_,_,_,_,_,_,_,_,_,_,_,_,_,_,_,_,_,_,_,_,_,_,_,_,_,_,_,_,_,_,_,_,_,_,_,_,_,_,_,_,_,_,_,_,_,_,_,_,_,_,_,_,_,_,_,_,_,_,_,_,_,_,_,_,_,_,_,_,_,_,_,_,_,_,_,_,_,_,_,_,_,_,_,_,_,_,_,_,_,_,_,_,_,_,_,_,_,_,_,_,_,_,_,_,_,_,_,_,_,_,_,_,_,_,_,_,_,_,_,_,_,_,_,_,_,_,_,_,_,_,_,_,_,_,_,_,_,_,_,_,_,_,_,_,_,_,_,_,_,_,_,_,_,_,_,_,_,_,_,_,_,_,_,_,_,_,_,_,_,_,_,_,_,_,_,_,_,_,_,_,_,_,_,_,_,_,_,_,_,_,_,_,_,_,_,_,_,_,_,_,_,_]) rfl ?_
                refine rl_pass (met_undef rfl rfl) rfl ?_
                refine rl_pass (met_undef rfl rfl) rfl ?_
                refine rl_pass (met_undef rfl rfl) (tm' := [_,_,_,_,_,_,_,_,_,_,_,_,_,_,_,_,_,_,_,_,_,_,_,_,_,_,_,_,_,_,_,_,_,_,_,_,_,_,_,_,_,_,_,_,_,_,_,_,_,_,_,_,_,_,_,_,_,_,_,_,_,_,_,_,_,_,_,_,_,_,_,_,_,_,_,_,_,_,_,_,_,_,_,_,_,_,_,_,_,_,_,_,_,_,_,_,_,_,_,_,_,_,_,_,_,_,_,_,_,_,_,_,_,_,_,_,_,_,_,_,_,_,_,_,_,_,_,_,_,_,_,_,_,_,_,_,_,_,_,_,_,_,_,_,_,_,_,_,_,_,_,_,_,_,_,_,_,_,_,_,_,_,_,_,_,_,_,_,_,_,_,_,_,_,_,_,_,_,_,_,_,_,_,_,_,_,_,_,_,_,_,_,_,_,_,_,_,_,_,_,_,_,_,_,_,_,_,_,_,_,_,_,_]) rfl ?_
                refine rl_pass (met_not rfl rfl (decide_eq_false (of_decide_eq_true (decide_eq_true cc68)))) rfl ?_
                refine rl_det (met_some rfl rfl rfl) (fun h_ H_ => exd_pick_f rfl (decide_eq_false (of_decide_eq_true (decide_eq_true cc68))) (v := .bool (false)) rfl) rfl ?_
                refine rl_det (met_none rfl) (fun h_ H_ => exd_pick_f rfl rfl (v := .bool (false)) rfl) (tm' := [_,_,_,_,_,_,_,_,_,_,_,_,_,_,_,_,_,_,_,_,_,_,_,_,_,_,_,_,_,_,_,_,_,_,_,_,_,_,_,_,_,_,_,_,_,_,_,_,_,_,_,_,_,_,_,_,_,_,_,_,_,_,_,_,_,_,_,_,_,_,_,_,_,_,_,_,_,_,_,_,_,_,_,_,_,_,_,_,_,_,_,_,_,_,_,_,_,_,_,_,_,_,_,_,_,_,_,_,_,_,_,_,_,_,_,_,_,_,_,_,_,_,_,_,_,_,_,_,_,_,_,_,_,_,_,_,_,_,_,_,_,_,_,_,_,_,_,_,_,_,_,_,_,_,_,_,_,_,_,_,_,_,_,_,_,_,_,_,_,_,_,_,_,_,_,_,_,_,_,_,_,_,_,_,_,_,_,_,_,_,_,_,_,_,_,_,_,_,_,_,_,_,_,_,_,_,_,_,_,_,_,_,_]) rfl ?_
                refine rl_end ?_
                refine fl_else rfl rfl ?_
                refine fl_skip ?_
                refine fl_inBlock ?_
                refine rl_start ?_
                refine rl_det (met_none rfl) (fun h_ H_ => exd_move (v := .int .i64 (((j : Nat) : Int))) rfl) rfl ?_
                refine rl_det (met_none rfl) (fun h_ H_ => exd_add rfl rfl (n := ((j + 1 : Nat) : Int)) (wr (by omega))) rfl ?_
                refine rl_det (met_none rfl) (fun h_ H_ => exd_assign (v := .int .i64 (((j + 1 : Nat) : Int))) rfl) (tm' := _::_::_::_::_::_::_::_::_::_::_::_::_::_::_::_::_::_::_::_) rfl ?_
                refine rl_end ?_
                exact fun h_ H_ => IH66 _ _ (by omega) h_ ⟨j + 1, rfl, (y_of rfl), (by omega), H_⟩
            · refine rl_pass (met_not rfl rfl (decide_eq_false cc68)) rfl ?_
              refine rl_pass (met_not rfl rfl (decide_eq_false cc68)) rfl ?_
              refine rl_det (met_none rfl) (fun h_ H_ => exd_pick_f rfl (decide_eq_false cc68) (v := .bool (false)) rfl) (tm' := [_,_,_,_,_,_,_,_,_,_,_,_,_,_,_,_,_,_,_,_,_,_,_,_,_,_,_,_,_,_,_,_,_,_,_,_,_,_,_,_,_,_,_,_,_,_,_,_,_,_,_,_,_,_,_,_,_,_,_,_,_,_,_,_,_,_,_,_,_,_,_,_,_,_,_,_,_,_,_,_,_,_,_,_,_,_,_,_,_,_,_,_,_,_,_,_,_,_,_,_,_,_,_,_,_,_,_,_,_,_,_,_,_,_,_,_,_,_,_,_,_,_,_,_,_,_,_,_,_,_,_,_,_,_,_,_,_,_,_,_,_,_,_,_,_,_,_,_,_,_,_,_,_,_,_,_,_,_,_,_,_,_,_,_,_,_,_,_,_,_,_,_,_,_,_,_,_,_,_,_,_,_,_,_,_,_,_,_,_,_,_,_,_,_,_,_,_,_,_,_,_,_,_,_,_,_,_,_,_,_,_,_,_]) rfl ?_
              refine rl_det (met_none rfl) (fun h_ H_ => exd_move (v := .bool (false)) rfl) rfl ?_
              refine rl_det (met_some rfl rfl rfl) (fun h_ H_ => exd_move (v := .int .i64 ((spareR (size + k) start ds ((j : Nat) : Int)).2)) rfl) rfl ?_
              refine rl_det (met_some rfl rfl rfl) (fun h_ H_ => exd_neq rfl rfl) (tm' := [_,_,_,_,_,_,_,_,_,_,_,_,_,_,_,_,_,_,_,_,_,_,_,_,_,_,_,_,_,_,_,_,_,_,_,_,_,_,_,_,_,_,_,_,_,_,_,_,_,_,_,_,_,_,_,_,_,_,_,_,_,_,_,_,_,_,_,_,_,_,_,_,_,_,_,_,_,_,_,_,_,_,_,_,_,_,_,_,_,_,_,_,_,_,_,_,_,_,_,_,_,_,_,_,_,_,_,_,_,_,_,_,_,_,_,_,_,_,_,_,_,_,_,_,_,_,_,_,_,_,_,_,_,_,_,_,_,_,_,_,_,_,_,_,_,_,_,_,_,_,_,_,_,_,_,_,_,_,_,_,_,_,_,_,_,_,_,_,_,_,_,_,_,_,_,_,_,_,_,_,_,_,_,_,_,_,_,_,_,_,_,_,_,_,_,_,_,_,_,_,_,_,_,_,_,_,_,_,_,_,_,_,_]) rfl ?_
              refine rl_det (met_some rfl rfl rfl) (fun h_ H_ => exd_move (v := .bool (decide ((spareR (size + k) start ds ((j : Nat) : Int)).2 ≠ 0))) rfl) rfl ?_
              refine rl_pass (met_not rfl rfl (decide_eq_false (by omega))) rfl ?_
              refine rl_pass (met_not rfl rfl (decide_eq_false (by omega))) (tm' := [_,_,_,_,_,_,_,_,_,_,_,_,_,_,_,_,_,_,_,_,_,_,_,_,_,_,_,_,_,_,_,_,_,_,_,_,_,_,_,_,_,_,_,_,_,_,_,_,_,_,_,_,_,_,_,_,_,_,_,_,_,_,_,_,_,_,_,_,_,_,_,_,_,_,_,_,_,_,_,_,_,_,_,_,_,_,_,_,_,_,_,_,_,_,_,_,_,_,_,_,_,_,_,_,_,_,_,_,_,_,_,_,_,_,_,_,_,_,_,_,_,_,_,_,_,_,_,_,_,_,_,_,_,_,_,_,_,_,_,_,_,_,_,_,_,_,_,_,_,_,_,_,_,_,_,_,_,_,_,_,_,_,_,_,_,_,_,_,_,_,_,_,_,_,_,_,_,_,_,_,_,_,_,_,_,_,_,_,_,_,_,_,_,_,_,_,_,_,_,_,_,_,_,_,_,_,_,_,_,_,_,_,_]) rfl ?_
              refine rl_det (met_some rfl rfl rfl) (fun h_ H_ => exd_pick_f rfl (decide_eq_false (by omega)) (v := .bool (false)) rfl) rfl ?_
              refine rl_det (met_none rfl) (fun h_ H_ => exd_pick_f rfl rfl (v := .bool (false)) rfl) rfl ?_
              refine rl_det (met_none rfl) (fun h_ H_ => exd_move (v := .bool (false)) rfl) (tm' := [_,_,_,_,_,_,_,_,_,_,_,_,_,_,_,_,_,_,_,_,_,_,_,_,_,_,_,_,_,_,_,_,_,_,_,_,_,_,_,_,_,_,_,_,_,_,_,_,_,_,_,_,_,_,_,_,_,_,_,_,_,_,_,_,_,_,_,_,_,_,_,_,_,_,_,_,_,_,_,_,_,_,_,_,_,_,_,_,_,_,_,_,_,_,_,_,_,_,_,_,_,_,_,_,_,_,_,_,_,_,_,_,_,_,_,_,_,_,_,_,_,_,_,_,_,_,_,_,_,_,_,_,_,_,_,_,_,_,_,_,_,_,_,_,_,_,_,_,_,_,_,_,_,_,_,_,_,_,_,_,_,_,_,_,_,_,_,_,_,_,_,_,_,_,_,_,_,_,_,_,_,_,_,_,_,_,_,_,_,_,_,_,_,_,_,_,_,_,_,_,_,_,_,_,_,_,_,_,_,_,_,_,_]) rfl ?_
              refine rl_det (met_some rfl rfl rfl) (fun h_ H_ => exd_move (v := .int .i64 ((spareR size start ds ((j : Nat) : Int)).2)) rfl) rfl ?_
              refine rl_det (met_some rfl rfl rfl) (fun h_ H_ => exd_eql rfl rfl) rfl ?_
              refine rl_det (met_some rfl rfl rfl) (fun h_ H_ => exd_move (v := .bool (decide ((spareR size start ds ((j : Nat) : Int)).2 = 0))) rfl) (tm' := [_,_,_,_,_,_,_,_,_,_,_,_,_,_,_,_,_,_,_,_,_,_,_,_,_,_,_,_,_,_,_,_,_,_,_,_,_,_,_,_,_,_,_,_,_,_,_,_,_,_,_,_,_,_,_,_,_,_,_,_,_,_,_,_,_,_,_,_,_,_,_,_,_,_,_,_,_,_,_,_,_,_,_,_,_,_,_,_,_,_,_,_,_,_,_,_,_,_,_,_,_,_,_,_,_,_,_,_,_,_,_,_,_,_,_,_,_,_,_,_,_,_,_,_,_,_,_,_,_,_,_,_,_,_,_,_,_,_,_,_,_,_,_,_,_,_,_,_,_,_,_,_,_,_,_,_,_,_,_,_,_,_,_,_,_,_,_,_,_,_,_,_,_,_,_,_,_,_,_,_,_,_,_,_,_,_,_,_,_,_,_,_,_,_,_,_,_,_,_,_,_,_,_,_,_,_,_,_,_,_,_,_,_]) rfl ?_
              refine rl_det (met_some rfl rfl (decide_eq_true (Decidable.not_not.1 (of_decide_eq_false (decide_eq_false cc68))))) (fun h_ H_ => exd_move (v := .int .i64 ((spareR (size + k) start ds ((j : Nat) : Int)).2)) rfl) rfl ?_
              refine rl_det (met_some rfl rfl (decide_eq_true (Decidable.not_not.1 (of_decide_eq_false (decide_eq_false cc68))))) (fun h_ H_ => exd_neq rfl rfl) rfl ?_
              refine rl_det (met_some rfl rfl (decide_eq_true (Decidable.not_not.1 (of_decide_eq_false (decide_eq_false cc68))))) (fun h_ H_ => exd_move (v := .bool (decide ((spareR (size + k) start ds ((j : Nat) : Int)).2 ≠ 0))) rfl) (tm' := [_,_,_,_,_,_,_,_,_,_,_,_,_,_,_,_,_,_,_,_,_,_,_,_,_,_,_,_,_,_,_,_,_,_,_,_,_,_,_,_,_,_,_,_,_,_,_,_,_,_,_,_,_,_,_,_,_,_,_,_,_,_,_,_,_,_,_,_,_,_,_,_,_,_,_,_,_,_,_,_,_,_,_,_,_,_,_,_,_,_,_,_,_,_,_,_,_,_,_,_,_,_,_,_,_,_,_,_,_,_,_,_,_,_,_,_,_,_,_,_,_,_,_,_,_,_,_,_,_,_,_,_,_,_,_,_,_,_,_,_,_,_,_,_,_,_,_,_,_,_,_,_,_,_,_,_,_,_,_,_,_,_,_,_,_,_,_,_,_,_,_,_,_,_,_,_,_,_,_,_,_,_,_,_,_,_,_,_,_,_,_,_,_,_,_,_,_,_,_,_,_,_,_,_,_,_,_,_,_,_,_,_,_]) rfl ?_
              refine rl_det (met_some rfl rfl (decide_eq_false (by omega))) (fun h_ H_ => exd_move (v := .int .i64 ((spareR (size + k) start ds ((j : Nat) : Int)).1)) rfl) rfl ?_
              refine rl_det (met_some rfl rfl (decide_eq_false (by omega))) (fun h_ H_ => exd_move (v := .int .i64 ((spareR size start ds ((j : Nat) : Int)).1)) rfl) rfl ?_
              refine rl_det (met_some rfl rfl (decide_eq_false (by omega))) (fun h_ H_ => exd_lss rfl rfl) (tm' := [_,_,_,_,_,_,_,_,_,_,_,_,_,_,_,_,_,_,_,_,_,_,_,_,_,_,_,_,_,_,_,_,_,_,_,_,_,_,_,_,_,_,_,_,_,_,_,_,_,_,_,_,_,_,_,_,_,_,_,_,_,_,_,_,_,_,_,_,_,_,_,_,_,_,_,_,_,_,_,_,_,_,_,_,_,_,_,_,_,_,_,_,_,_,_,_,_,_,_,_,_,_,_,_,_,_,_,_,_,_,_,_,_,_,_,_,_,_,_,_,_,_,_,_,_,_,_,_,_,_,_,_,_,_,_,_,_,_,_,_,_,_,_,_,_,_,_,_,_,_,_,_,_,_,_,_,_,_,_,_,_,_,_,_,_,_,_,_,_,_,_,_,_,_,_,_,_,_,_,_,_,_,_,_,_,_,_,_,_,_,_,_,_,_,_,_,_,_,_,_,_,_,_,_,_,_,_,_,_,_,_,_,_]) rfl ?_
              refine rl_det (met_some rfl rfl (decide_eq_true (Decidable.not_not.1 (of_decide_eq_false (decide_eq_false cc68))))) (fun h_ H_ => exd_pick_f rfl (decide_eq_false (by omega)) (v := .bool (decide ((spareR (size + k) start ds ((j : Nat) : Int)).1 < (spareR size start ds ((j : Nat) : Int)).1))) rfl) rfl ?_
              refine rl_det (met_some rfl rfl rfl) (fun h_ H_ => exd_pick_t rfl (decide_eq_true (Decidable.not_not.1 (of_decide_eq_false (decide_eq_false cc68)))) (v := .bool (decide ((spareR (size + k) start ds ((j : Nat) : Int)).1 < (spareR size start ds ((j : Nat) : Int)).1))) rfl) rfl ?_
              refine rl_det (met_none rfl) (fun h_ H_ => exd_pick_f rfl rfl (v := .bool (decide ((spareR (size + k) start ds ((j : Nat) : Int)).1 < (spareR size start ds ((j : Nat) : Int)).1))) rfl) (tm' := [_,_,_,_,_,_,_,_,_,_,_,_,_,_,_,_,_,_,_,_,_,_,_,_,_,_,_,_,_,_,_,_,_,_,_,_,_,_,_,_,_,_,_,_,_,_,_,_,_,_,_,_,_,_,_,_,_,_,_,_,_,_,_,_,_,_,_,_,_,_,_,_,_,_,_,_,_,_,_,_,_,_,_,_,_,_,_,_,_,_,_,_,_,_,_,_,_,_,_,_,_,_,_,_,_,_,_,_,_,_,_,_,_,_,_,_,_,_,_,_,_,_,_,_,_,_,_,_,_,_,_,_,_,_,_,_,_,_,_,_,_,_,_,_,_,_,_,_,_,_,_,_,_,_,_,_,_,_,_,_,_,_,_,_,_,_,_,_,_,_,_,_,_,_,_,_,_,_,_,_,_,_,_,_,_,_,_,_,_,_,_,_,_,_,_,_,_,_,_,_,_,_,_,_,_,_,_,_,_,_,_,_,_]) rfl ?_
              refine rl_end ?_
              refine fl_else rfl (decide_eq_false (by omega)) ?_
              refine fl_skip ?_
              refine fl_inBlock ?_
              refine rl_start ?_
              refine rl_det (met_none rfl) (fun h_ H_ => exd_move (v := .int .i64 (((j : Nat) : Int))) rfl) rfl ?_
              refine rl_det (met_none rfl) (fun h_ H_ => exd_add rfl rfl (n := ((j + 1 : Nat) : Int)) (wr (by omega))) rfl ?_
              refine rl_det (met_none rfl) (fun h_ H_ => exd_assign (v := .int .i64 (((j + 1 : Nat) : Int))) rfl) (tm' := _::_::_::_::_::_::_::_::_::_::_::_::_::_::_::_::_::_::_::_) rfl ?_
              refine rl_end ?_
              exact fun h_ H_ => IH66 _ _ (by omega) h_ ⟨j + 1, rfl, (y_of rfl), (by omega), H_⟩
          · refine fl_else rfl (decide_eq_false cc67) ?_
            refine fl_exit rfl ?_
            refine fl_seq ?_
            refine rl_start ?_
            refine rl_det (met_none rfl) (fun h_ H_ => exd_loadN_own H_ tA24 tS24 rfl (i := 3) rfl (vs := [.int .i64 (size), .int .i64 (start), .slice a n c]) rfl rfl) rfl ?_
            refine rl_calld (met_none rfl) (first := []) (cap := []) rfl rfl fC23 (fun h_ H_ => c23ok (fun b_ o_ e_ => H_.per b_ o_ e_) (((((((D.mono le13).mono le38).mono le43).mono le48).mono le53).mono le58).mono le63) (by omega) hOk (.main true)) rfl ?_
            refine rl_det (met_none rfl) (fun h_ H_ => exd_move (v := .tuple #[.int .i64 (ratDown size start ds 20), .int .i64 0]) rfl) (tm' := [_,_,_,_,_,_,_,_,_,_,_,_,_,_,_,_,_,_,_,_,_,_,_,_,_,_,_,_,_,_,_,_,_,_,_,_,_,_,_,_,_,_,_,_,_,_,_,_,_,_,_,_,_,_,_,_,_,_,_,_,_,_,_,_,_,_,_,_,_,_,_,_,_,_,_,_,_,_,_,_,_,_,_,_,_,_,_,_,_,_,_,_,_,_,_,_,_,_,_,_,_,_,_,_,_,_,_,_,_,_,_,_,_,_,_,_,_,_,_,_,_,_,_,_,_,_,_,_,_,_,_,_,_,_,_,_,_,_,_,_,_,_,_,_,_,_,_,_,_,_,_,_,_,_,_,_,_,_,_,_,_,_,_,_,_,_,_,_,_,_,_,_,_,_,_,_,_,_,_,_,_,_,_,_,_,_,_,_,_,_,_,_,_,_,_,_,_,_,_,_,_,_,_,_,_,_,_,_,_,_,_,_,_]) rfl ?_
            refine rl_det (met_none rfl) (fun h_ H_ => exd_extract rfl (v := .int .i64 (ratDown size start ds 20)) rfl) rfl ?_
            refine rl_det (met_none rfl) (fun h_ H_ => exd_extract rfl (v := .int .i64 0) rfl) rfl ?_
            refine rl_det (met_none rfl) (fun h_ H_ => exd_assign (v := .int .i64 (ratDown size start ds 20)) rfl) (tm' := _::_::_::_::_::_::_::_::_::_::_::_::_::_::_::_::_::_::_::_::_::_::_::_::_) rfl ?_
            refine rl_det (met_none rfl) (fun h_ H_ => exd_assign (v := .int .i64 0) rfl) rfl ?_
            refine rl_end ?_
            refine fl_seq ?_
            refine rl_start ?_
            refine rl_det (met_none rfl) (fun h_ H_ => exd_loadN_own H_ tA24 tS24 rfl (i := 2) rfl (vs := [.int .i64 (size + k), .int .i64 (start), .slice a11 n cp12]) rfl rfl) rfl ?_
            refine rl_calld (met_none rfl) (first := []) (cap := []) rfl rfl fC23 (fun h_ H_ => c23ok (fun b_ o_ e_ => H_.per b_ o_ e_) (((((((show Days _ _ _ ds from D14).mono le38).mono le43).mono le48).mono le53).mono le58).mono le63) (by omega) hOk2 (.main true)) (tm' := [_,_,_,_,_,_,_,_,_,_,_,_,_,_,_,_,_,_,_,_,_,_,_,_,_,_,_,_,_,_,_,_,_,_,_,_,_,_,_,_,_,_,_,_,_,_,_,_,_,_,_,_,_,_,_,_,_,_,_,_,_,_,_,_,_,_,_,_,_,_,_,_,_,_,_,_,_,_,_,_,_,_,_,_,_,_,_,_,_,_,_,_,_,_,_,_,_,_,_,_,_,_,_,_,_,_,_,_,_,_,_,_,_,_,_,_,_,_,_,_,_,_,_,_,_,_,_,_,_,_,_,_,_,_,_,_,_,_,_,_,_,_,_,_,_,_,_,_,_,_,_,_,_,_,_,_,_,_,_,_,_,_,_,_,_,_,_,_,_,_,_,_,_,_,_,_,_,_,_,_,_,_,_,_,_,_,_,_,_,_,_,_,_,_,_,_,_,_,_,_,_,_,_,_,_,_,_,_,_,_,_,_,_]) rfl ?_
            refine rl_det (met_none rfl) (fun h_ H_ => exd_move (v := .tuple #[.int .i64 (ratDown (size + k) start ds 20), .int .i64 0]) rfl) rfl ?_
            refine rl_det (met_none rfl) (fun h_ H_ => exd_extract rfl (v := .int .i64 (ratDown (size + k) start ds 20)) rfl) rfl ?_
            refine rl_det (met_none rfl) (fun h_ H_ => exd_extract rfl (v := .int .i64 0) rfl) (tm' := [_,_,_,_,_,_,_,_,_,_,_,_,_,_,_,_,_,_,_,_,_,_,_,_,_,_,_,_,_,_,_,_,_,_,_,_,_,_,_,_,_,_,_,_,_,_,_,_,_,_,_,_,_,_,_,_,_,_,_,_,_,_,_,_,_,_,_,_,_,_,_,_,_,_,_,_,_,_,_,_,_,_,_,_,_,_,_,_,_,_,_,_,_,_,_,_,_,_,_,_,_,_,_,_,_,_,_,_,_,_,_,_,_,_,_,_,_,_,_,_,_,_,_,_,_,_,_,_,_,_,_,_,_,_,_,_,_,_,_,_,_,_,_,_,_,_,_,_,_,_,_,_,_,_,_,_,_,_,_,_,_,_,_,_,_,_,_,_,_,_,_,_,_,_,_,_,_,_,_,_,_,_,_,_,_,_,_,_,_,_,_,_,_,_,_,_,_,_,_,_,_,_,_,_,_,_,_,_,_,_,_,_,_]) rfl ?_
            refine rl_det (met_none rfl) (fun h_ H_ => exd_assign (v := .int .i64 (ratDown (size + k) start ds 20)) rfl) rfl ?_
            refine rl_det (met_none rfl) (fun h_ H_ => exd_assign (v := .int .i64 0) rfl) rfl ?_
            refine rl_end ?_
            refine fl_seq ?_
            refine rl_start ?_
            refine rl_det (met_none rfl) (fun h_ H_ => exd_move (v := .int .i64 0) rfl) (tm' := [_,_,_,_,_,_,_,_,_,_,_,_,_,_,_,_,_,_,_,_,_,_,_,_,_,_,_,_,_,_,_,_,_,_,_,_,_,_,_,_,_,_,_,_,_,_,_,_,_,_,_,_,_,_,_,_,_,_,_,_,_,_,_,_,_,_,_,_,_,_,_,_,_,_,_,_,_,_,_,_,_,_,_,_,_,_,_,_,_,_,_,_,_,_,_,_,_,_,_,_,_,_,_,_,_,_,_,_,_,_,_,_,_,_,_,_,_,_,_,_,_,_,_,_,_,_,_,_,_,_,_,_,_,_,_,_,_,_,_,_,_,_,_,_,_,_,_,_,_,_,_,_,_,_,_,_,_,_,_,_,_,_,_,_,_,_,_,_,_,_,_,_,_,_,_,_,_,_,_,_,_,_,_,_,_,_,_,_,_,_,_,_,_,_,_,_,_,_,_,_,_,_,_,_,_,_,_,_,_,_,_,_,_]) rfl ?_
            refine rl_det (met_none rfl) (fun h_ H_ => exd_eql rfl rfl) rfl ?_
            refine rl_det (met_none rfl) (fun h_ H_ => exd_move (v := .bool (decide ((0 : Int) = 0))) rfl) rfl ?_
            refine rl_det (met_some rfl rfl (decide_eq_true rfl)) (fun h_ H_ => exd_move (v := .int .i64 0) rfl) (tm' := [_,_,_,_,_,_,_,_,_,_,_,_,_,_,_,_,_,_,_,_,_,_,_,_,_,_,_,_,_,_,_,_,_,_,_,_,_,_,_,_,_,_,_,_,_,_,_,_,_,_,_,_,_,_,_,_,_,_,_,_,_,_,_,_,_,_,_,_,_,_,_,_,_,_,_,_,_,_,_,_,_,_,_,_,_,_,_,_,_,_,_,_,_,_,_,_,_,_,_,_,_,_,_,_,_,_,_,_,_,_,_,_,_,_,_,_,_,_,_,_,_,_,_,_,_,_,_,_,_,_,_,_,_,_,_,_,_,_,_,_,_,_,_,_,_,_,_,_,_,_,_,_,_,_,_,_,_,_,_,_,_,_,_,_,_,_,_,_,_,_,_,_,_,_,_,_,_,_,_,_,_,_,_,_,_,_,_,_,_,_,_,_,_,_,_,_,_,_,_,_,_,_,_,_,_,_,_,_,_,_,_,_,_]) rfl ?_
            refine rl_det (met_some rfl rfl (decide_eq_true rfl)) (fun h_ H_ => exd_eql rfl rfl) rfl ?_
            refine rl_det (met_none rfl) (fun h_ H_ => exd_pick_t rfl (decide_eq_true rfl) (v := .bool (decide ((0 : Int) = 0))) rfl) rfl ?_
            refine rl_det (met_none rfl) (fun h_ H_ => exd_move (v := .bool (decide ((0 : Int) = 0))) rfl) (tm' := [_,_,_,_,_,_,_,_,_,_,_,_,_,_,_,_,_,_,_,_,_,_,_,_,_,_,_,_,_,_,_,_,_,_,_,_,_,_,_,_,_,_,_,_,_,_,_,_,_,_,_,_,_,_,_,_,_,_,_,_,_,_,_,_,_,_,_,_,_,_,_,_,_,_,_,_,_,_,_,_,_,_,_,_,_,_,_,_,_,_,_,_,_,_,_,_,_,_,_,_,_,_,_,_,_,_,_,_,_,_,_,_,_,_,_,_,_,_,_,_,_,_,_,_,_,_,_,_,_,_,_,_,_,_,_,_,_,_,_,_,_,_,_,_,_,_,_,_,_,_,_,_,_,_,_,_,_,_,_,_,_,_,_,_,_,_,_,_,_,_,_,_,_,_,_,_,_,_,_,_,_,_,_,_,_,_,_,_,_,_,_,_,_,_,_,_,_,_,_,_,_,_,_,_,_,_,_,_,_,_,_,_,_]) rfl ?_
            refine rl_det (met_some rfl rfl (decide_eq_true rfl)) (fun h_ H_ => exd_move (v := .int .i64 (ratDown size start ds 20)) rfl) rfl ?_
            refine rl_det (met_some rfl rfl (decide_eq_true rfl)) (fun h_ H_ => exd_geq rfl rfl) rfl ?_
            refine rl_det (met_none rfl) (fun h_ H_ => exd_pick_t rfl (decide_eq_true rfl) (v := .bool (decide (0 ≤ ratDown size start ds 20))) rfl) (tm' := [_,_,_,_,_,_,_,_,_,_,_,_,_,_,_,_,_,_,_,_,_,_,_,_,_,_,_,_,_,_,_,_,_,_,_,_,_,_,_,_,_,_,_,_,_,_,_,_,_,_,_,_,_,_,_,_,_,_,_,_,_,_,_,_,_,_,_,_,_,_,_,_,_,_,_,_,_,_,_,_,_,_,_,_,_,_,_,_,_,_,_,_,_,_,_,_,_,_,_,_,_,_,_,_,_,_,_,_,_,_,_,_,_,_,_,_,_,_,_,_,_,_,_,_,_,_,_,_,_,_,_,_,_,_,_,_,_,_,_,_,_,_,_,_,_,_,_,_,_,_,_,_,_,_,_,_,_,_,_,_,_,_,_,_,_,_,_,_,_,_,_,_,_,_,_,_,_,_,_,_,_,_,_,_,_,_,_,_,_,_,_,_,_,_,_,_,_,_,_,_,_,_,_,_,_,_,_,_,_,_,_,_,_]) rfl ?_
            refine rl_det (met_none rfl) (fun h_ H_ => exd_move (v := .bool (decide (0 ≤ ratDown size start ds 20))) rfl) rfl ?_
            refine rl_det (met_some rfl rfl (decide_eq_true (by omega))) (fun h_ H_ => exd_move (v := .int .i64 (ratDown size start ds 20)) rfl) rfl ?_
            refine rl_det (met_some rfl rfl (decide_eq_true (by omega))) (fun h_ H_ => exd_move (v := .int .i64 (ratDown (size + k) start ds 20)) rfl) (tm' := [_,_,_,_,_,_,_,_,_,_,_,_,_,_,_,_,_,_,_,_,_,_,_,_,_,_,_,_,_,_,_,_,_,_,_,_,_,_,_,_,_,_,_,_,_,_,_,_,_,_,_,_,_,_,_,_,_,_,_,_,_,_,_,_,_,_,_,_,_,_,_,_,_,_,_,_,_,_,_,_,_,_,_,_,_,_,_,_,_,_,_,_,_,_,_,_,_,_,_,_,_,_,_,_,_,_,_,_,_,_,_,_,_,_,_,_,_,_,_,_,_,_,_,_,_,_,_,_,_,_,_,_,_,_,_,_,_,_,_,_,_,_,_,_,_,_,_,_,_,_,_,_,_,_,_,_,_,_,_,_,_,_,_,_,_,_,_,_,_,_,_,_,_,_,_,_,_,_,_,_,_,_,_,_,_,_,_,_,_,_,_,_,_,_,_,_,_,_,_,_,_,_,_,_,_,_,_,_,_,_,_,_,_]) rfl ?_
            refine rl_det (met_some rfl rfl (decide_eq_true (by omega))) (fun h_ H_ => exd_leq rfl rfl) rfl ?_
            refine rl_det (met_none rfl) (fun h_ H_ => exd_pick_t rfl (decide_eq_true (by omega)) (v := .bool (decide (ratDown size start ds 20 ≤ ratDown (size + k) start ds 20))) rfl) rfl ?_
            refine rl_det (met_none rfl) (fun h_ H_ => exd_move (v := .bool (decide (ratDown size start ds 20 ≤ ratDown (size + k) start ds 20))) rfl) (tm' := [_,_,_,_,_,_,_,_,_,_,_,_,_,_,_,_,_,_,_,_,_,_,_,_,_,_,_,_,_,_,_,_,_,_,_,_,_,_,_,_,_,_,_,_,_,_,_,_,_,_,_,_,_,_,_,_,_,_,_,_,_,_,_,_,_,_,_,_,_,_,_,_,_,_,_,_,_,_,_,_,_,_,_,_,_,_,_,_,_,_,_,_,_,_,_,_,_,_,_,_,_,_,_,_,_,_,_,_,_,_,_,_,_,_,_,_,_,_,_,_,_,_,_,_,_,_,_,_,_,_,_,_,_,_,_,_,_,_,_,_,_,_,_,_,_,_,_,_,_,_,_,_,_,_,_,_,_,_,_,_,_,_,_,_,_,_,_,_,_,_,_,_,_,_,_,_,_,_,_,_,_,_,_,_,_,_,_,_,_,_,_,_,_,_,_,_,_,_,_,_,_,_,_,_,_,_,_,_,_,_,_,_,_]) rfl ?_
            refine rl_det (met_some rfl rfl (decide_eq_true (by omega))) (fun h_ H_ => exd_move (v := .int .i64 (ratDown (size + k) start ds 20)) rfl) rfl ?_
            refine rl_det (met_some rfl rfl (decide_eq_true (by omega))) (fun h_ H_ => exd_leq rfl rfl) rfl ?_
            refine rl_det (met_none rfl) (fun h_ H_ => exd_pick_t rfl (decide_eq_true (by omega)) (v := .bool (decide (ratDown (size + k) start ds 20 ≤ 20))) rfl) (tm' := [_,_,_,_,_,_,_,_,_,_,_,_,_,_,_,_,_,_,_,_,_,_,_,_,_,_,_,_,_,_,_,_,_,_,_,_,_,_,_,_,_,_,_,_,_,_,_,_,_,_,_,_,_,_,_,_,_,_,_,_,_,_,_,_,_,_,_,_,_,_,_,_,_,_,_,_,_,_,_,_,_,_,_,_,_,_,_,_,_,_,_,_,_,_,_,_,_,_,_,_,_,_,_,_,_,_,_,_,_,_,_,_,_,_,_,_,_,_,_,_,_,_,_,_,_,_,_,_,_,_,_,_,_,_,_,_,_,_,_,_,_,_,_,_,_,_,_,_,_,_,_,_,_,_,_,_,_,_,_,_,_,_,_,_,_,_,_,_,_,_,_,_,_,_,_,_,_,_,_,_,_,_,_,_,_,_,_,_,_,_,_,_,_,_,_,_,_,_,_,_,_,_,_,_,_,_,_,_,_,_,_,_,_]) rfl ?_
            refine rl_det (met_none rfl) (fun h_ H_ => exd_move (v := .bool (decide (ratDown (size + k) start ds 20 ≤ 20))) rfl) rfl ?_
            refine rl_calld (met_some rfl rfl (decide_eq_true (by omega))) (first := []) (cap := []) rfl rfl fC18 (fun h_ H_ => c18 _) rfl ?_
            refine rl_det (met_none rfl) (fun h_ H_ => exd_pick_t rfl (decide_eq_true (by omega)) (v := .bool (true)) rfl) (tm' := [_,_,_,_,_,_,_,_,_,_,_,_,_,_,_,_,_,_,_,_,_,_,_,_,_,_,_,_,_,_,_,_,_,_,_,_,_,_,_,_,_,_,_,_,_,_,_,_,_,_,_,_,_,_,_,_,_,_,_,_,_,_,_,_,_,_,_,_,_,_,_,_,_,_,_,_,_,_,_,_,_,_,_,_,_,_,_,_,_,_,_,_,_,_,_,_,_,_,_,_,_,_,_,_,_,_,_,_,_,_,_,_,_,_,_,_,_,_,_,_,_,_,_,_,_,_,_,_,_,_,_,_,_,_,_,_,_,_,_,_,_,_,_,_,_,_,_,_,_,_,_,_,_,_,_,_,_,_,_,_,_,_,_,_,_,_,_,_,_,_,_,_,_,_,_,_,_,_,_,_,_,_,_,_,_,_,_,_,_,_,_,_,_,_,_,_,_,_,_,_,_,_,_,_,_,_,_,_,_,_,_,_,_]) rfl ?_
            refine rl_det (met_none rfl) (fun h_ H_ => exd_assign (v := .bool (true)) rfl) rfl ?_
            refine rl_end ?_
            refine fl_retE (by kernel_rfl) Try.func9 rfl (vs := [.bool (true)]) (fun h_ H_ => ⟨.bool (true), _, rfl, rfl, rfl⟩) (v := .bool (true)) rfl ?_
            exact fun h_ H_ => K _ _ ⟨rfl, H_.kept⟩
        · refine fl_then rfl (not_t (decide_eq_false cc5)) ?_
          refine fl_seq ?_
          refine rl_start ?_
          refine rl_calld (met_none rfl) (first := []) (cap := []) rfl rfl fC18 (fun h_ H_ => c18 _) rfl ?_
          refine rl_det (met_none rfl) (fun h_ H_ => exd_assign (v := .bool (true)) rfl) (tm' := _::_::_::_::_::_::_::_) rfl ?_
          refine rl_end ?_
          refine fl_retE (by kernel_rfl) Try.func9 rfl (vs := [.bool (true)]) (fun h_ H_ => ⟨.bool (true), _, rfl, rfl, rfl⟩) (v := .bool (true)) rfl ?_
          exact fun h_ H_ => K _ _ ⟨rfl, H_.kept⟩
      · refine rl_pass (met_not rfl rfl (not_t (decide_eq_false cc4))) rfl ?_
        refine rl_pass (met_not rfl rfl (not_t (decide_eq_false cc4))) rfl ?_
        refine rl_pass (met_not rfl rfl (not_t (decide_eq_false cc4))) (tm' := _::_::_::_::_::_::_::_::_::_::_::_::_::_::_::_::_::_::_::_::_::_::_::_::_::_::_::_::_::_::_::_::_::_::_::_::_::_::_::_::_::_::_::_::_::_) rfl ?_
        refine rl_pass (met_not rfl rfl (not_t (decide_eq_false cc4))) rfl ?_
        refine rl_pass (met_not rfl rfl (not_t (decide_eq_false cc4))) rfl ?_
        refine rl_pass (met_not rfl rfl (not_t (decide_eq_false cc4))) (tm' := _::_::_::_::_::_::_::_::_::_::_::_::_::_::_::_::_::_::_::_::_::_::_::_::_::_::_::_::_::_::_::_::_::_::_::_::_::_::_::_::_::_::_::_::_::_::_::_::_) rfl ?_
        refine rl_det (met_none rfl) (fun h_ H_ => exd_pick_t rfl (not_t (decide_eq_false cc4)) (v := .bool (true)) rfl) rfl ?_
        refine rl_end ?_
        refine fl_then rfl rfl ?_
        refine fl_seq ?_
        refine rl_start ?_
        refine rl_calld (met_none rfl) (first := []) (cap := []) rfl rfl fC18 (fun h_ H_ => c18 _) rfl ?_
        refine rl_det (met_none rfl) (fun h_ H_ => exd_assign (v := .bool (true)) rfl) (tm' := _::_::_::_::_::_::_::_) rfl ?_
        refine rl_end ?_
        refine fl_retE (by kernel_rfl) Try.func9 rfl (vs := [.bool (true)]) (fun h_ H_ => ⟨.bool (true), _, rfl, rfl, rfl⟩) (v := .bool (true)) rfl ?_
        exact fun h_ H_ => K _ _ ⟨rfl, H_.kept⟩
  · refine rl_pass (met_not rfl rfl (not_t (decide_eq_false cc2))) rfl ?_
    refine rl_pass (met_not rfl rfl (not_t (decide_eq_false cc2))) rfl ?_
    refine rl_pass (met_not rfl rfl (not_t (decide_eq_false cc2))) (tm' := _::_::_::_::_::_::_::_::_::_::_::_::_::_::_::_::_::_::_::_::_::_::_::_::_::_::_::_::_::_::_::_::_::_::_) rfl ?_
    refine rl_det (met_none rfl) (fun h_ H_ => exd_pick_t rfl (not_t (decide_eq_false cc2)) (v := .bool (true)) rfl) rfl ?_
    refine rl_det (met_none rfl) (fun h_ H_ => exd_move (v := .bool (true)) rfl) rfl ?_
    refine rl_pass (met_not rfl rfl rfl) (tm' := _::_::_::_::_::_::_::_::_::_::_::_::_::_::_::_::_::_::_::_::_::_::_::_::_::_::_::_::_::_::_::_::_::_::_::_::_::_) rfl ?_
    refine rl_pass (met_not rfl rfl rfl) rfl ?_
    refine rl_pass (met_not rfl rfl rfl) rfl ?_
    refine rl_pass (met_not rfl rfl rfl) (tm' := _::_::_::_::_::_::_::_::_::_::_::_::_::_::_::_::_::_::_::_::_::_::_::_::_::_::_::_::_::_::_::_::_::_::_::_::_::_::_::_::_) rfl ?_
    refine rl_det (met_none rfl) (fun h_ H_ => exd_pick_t rfl rfl (v := .bool (true)) rfl) rfl ?_
    refine rl_det (met_none rfl) (fun h_ H_ => exd_move (v := .bool (true)) rfl) rfl ?_
    refine rl_pass (met_not rfl rfl rfl) (tm' := _::_::_::_::_::_::_::_::_::_::_::_::_::_::_::_::_::_::_::_::_::_::_::_::_::_::_::_::_::_::_::_::_::_::_::_::_::_::_::_::_::_::_::_) rfl ?_
    refine rl_pass (met_not rfl rfl rfl) rfl ?_
    refine rl_pass (met_not rfl rfl rfl) rfl ?_
    refine rl_pass (met_not rfl rfl rfl) (tm' := _::_::_::_::_::_::_::_::_::_::_::_::_::_::_::_::_::_::_::_::_::_::_::_::_::_::_::_::_::_::_::_::_::_::_::_::_::_::_::_::_::_::_::_::_::_::_) rfl ?_
    refine rl_pass (met_not rfl rfl rfl) rfl ?_
    refine rl_pass (met_not rfl rfl rfl) rfl ?_
    refine rl_det (met_none rfl) (fun h_ H_ => exd_pick_t rfl rfl (v := .bool (true)) rfl) (tm' := _::_::_::_::_::_::_::_::_::_::_::_::_::_::_::_::_::_::_::_::_::_::_::_::_::_::_::_::_::_::_::_::_::_::_::_::_::_::_::_::_::_::_::_::_::_::_::_::_::_) rfl ?_
    refine rl_end ?_
    refine fl_then rfl rfl ?_
    refine fl_seq ?_
    refine rl_start ?_
    refine rl_calld (met_none rfl) (first := []) (cap := []) rfl rfl fC18 (fun h_ H_ => c18 _) rfl ?_
    refine rl_det (met_none rfl) (fun h_ H_ => exd_assign (v := .bool (true)) rfl) rfl ?_
    refine rl_end ?_
    refine fl_retE (by kernel_rfl) Try.func9 rfl (vs := [.bool (true)]) (fun h_ H_ => ⟨.bool (true), _, rfl, rfl, rfl⟩) (v := .bool (true)) rfl ?_
    exact fun h_ H_ => K _ _ ⟨rfl, H_.kept⟩
end Go.Proofs.Ytbmkacnlhlbnjaa
namespace Go.Proofs.Ytbmkacnlhlbnjaa
open Go.X Go.X.Cist Go.Conc Go.RowKit Go.ChangeShapes Go.WideShapes Go.ChangeAt Go.Joins
set_option maxRecDepth 100000

theorem lifted9 (os : Os) (started : os.Started) (H : Type) (enc : TypeId × Value → H) :
    ReturnsInLeavingWide {} Try.checked os 9 .any (Rows.cisternsGreaterSpec.pre6 enc Try.prog Try.f9 Rows.cisternsGreaterRow.domain false) (Rows.cisternsGreaterSpec.post enc Try.prog Try.f9 false true false false) := by
  refine returnsInLeavingWide_of_change_sized (C := Try.checked) pOwn started Try.func9
    (ChangeSpec.witness6 (enc := enc) (C := Try.checked) false ⟨#[], #[.agg #[.int .i64 0, .int .i64 0, .slice none 0 0], .slice none 0 0, .int .i64 0], []⟩ 8 (by kernel_rfl) (by kernel_rfl) (by kernel_rfl) (by kernel_rfl)) ?_
  intro W base args ds gs before hval0 hW _ _ _
  have hval : ∀ (j : Nat) t v, Try.f9.params[j]? = some t → args[j]? = some v → Value.okWide Try.prog W .any base t v := hval0
  have hW2 := hW
  obtain ⟨p, q, hA0, hV, rfl, _, _⟩ := hW2
  have hA : DataW.TrodAll enc Try.prog W 0 (fun _ => true) true Try.f9.params.toList args.toList ds p := hA0
  rw [Try.params9] at hA hval
  obtain ⟨v0, v1, v2, d0, d1, d2, p0, p1, p2, rfl, rfl, _, h0, h1, h2⟩ := trodAll_three hA
  obtain ⟨rfl, rfl⟩ := trodVars_none hV
  obtain ⟨size, start, a, n, c, ds, rfl, D⟩ := open_year (hval 0 24 v0 rfl rfl) h0
  obtain ⟨ab, mb, cb, xsb, rfl, Db⟩ := open_list (hval 1 25 v1 rfl rfl) h1
  obtain ⟨k, rfl, hk⟩ := open_num (hval 2 3 v2 rfl rfl) h2
  obtain ⟨N, last, o, w2, t2, r1, r2, r3, r4⟩ := good_of_enters (w := W) (e9 (nilV W.heap) (vwP W) (vwP_per W) size start a n c ds D ab mb cb xsb Db k hk) fun v h2 r => r.2
  refine ⟨N, last, o, w2, t2, r1, r2, r3, r4.mono fun v ⟨hB, h2, e, _⟩ => ?_⟩
  subst e
  exact law_post pLaid rfl (fun t ht => by rw [Try.params9] at ht; revert t; decide +kernel) rfl Try.underlying4 hW rfl hB

theorem cisternsGreaterHolds : Rows.CisternsGreaterSaid :=
  OpenClaim.holds_of_wide_leaving 9 Try.f9 rfl rfl rfl rfl rfl rfl rfl ⟨rfl, rfl, rfl, rfl, rfl⟩ rfl rfl rfl rfl rfl (by kernel_rfl) Try.func9 (by kernel_rfl)
    (of_decide_eq_true (by kernel_rfl)) (by unfold Func.isWrapper; rw [if_neg (of_decide_eq_false (by kernel_rfl))]; exact ⟨rfl, rfl⟩)
    (fun os started H enc _ => lifted9 os started H enc)

#print axioms cisternsGreaterHolds
end Go.Proofs.Ytbmkacnlhlbnjaa
