/-
  Part of: CisternsEach, for every input: the law returns true and leaves its arguments as they were. No condition.
-/
import Derived.Test.YtbmkacnlhlbnjaaC3x
import Derived.Test.YtbmkacnlhlbnjaaC4
import Derived.Test.YtbmkacnlhlbnjaaRows
import Derived.Test.YtbmkacnlhlbnjaaC6
import Derived.Test.YtbmkacnlhlbnjaaC2
import Derived.Test.YtbmkacnlhlbnjaaC5
namespace Go.Proofs.Ytbmkacnlhlbnjaa
open Go.X Go.X.Cist Go.Conc Go.RowKit Go.ChangeShapes Go.WideShapes Go.ChangeAt Go.Joins

set_option maxRecDepth 100000

theorem pOwn : ownKnob Try.prog.godebug = none := by kernel_rfl
theorem pLaid : laidOutB Try.prog = true := by kernel_rfl
theorem pC3 : Try.prog.cellsOf 3 = 1 := by kernel_rfl
theorem pC24 : Try.prog.cellsOf 24 = 3 := by kernel_rfl
theorem pC36 : Try.prog.cellsOf 36 = 2 := by kernel_rfl
theorem pC38 : Try.prog.cellsOf 38 = 3 := by kernel_rfl

section
variable {H : Type} {enc : TypeId × Value → H} {W : World}
theorem trod_day {m : Nat} {cs : List Value} {y : DataW H × List MemPlace} (h : DataW.trod enc Try.prog W 0 (fun _ => true) true m 38 cs = some y) : ∃ d : Day, cs = d.cells := by
  obtain ⟨y0, y1, n, _, hl, h0, h1⟩ := trod_struct2 Try.underlying38 h
  obtain ⟨z0, z1, n', _, hl', h2, h3⟩ := trod_struct2 Try.underlying36 h0
  rw [pC38] at hl
  obtain ⟨a, ha⟩ := trod_i64 Try.underlying3 h2
  obtain ⟨b, hb⟩ := trod_i64 Try.underlying3 h3
  obtain ⟨c, hc⟩ := trod_i64 Try.underlying3 h1
  match cs, hl with
  | [u, v, w], _ =>
    refine ⟨⟨a, b, c⟩, ?_⟩
    simp [pC36, pC3] at ha hb hc
    simp [Day.cells, ha, hb, hc]
theorem open_days {fuel : Nat} {v : Value} {y : DataW H × List MemPlace} (h : DataW.trod enc Try.prog W 0 (fun _ => true) true fuel 22 [v] = some y) : ∃ a n c ds, v = .slice a n c ∧ Days (vwP W) a n ds := by
  obtain ⟨a, n, c, E, rfl, hQ, s⟩ := open_sl Try.underlying22 pC38 (Q := fun cs => ∃ d : Day, cs = d.cells) (fun m cs y h => trod_day h) h
  obtain ⟨z, hz⟩ := Go.Deep.choose_lt hQ
  refine ⟨a, n, c, (List.range n).map z, rfl, ?_⟩
  have : (List.range n).map E = dcs ((List.range n).map z) := by
    unfold dcs
    rw [List.map_map]
    exact List.map_congr_left fun i hi => hz i (List.mem_range.1 hi)
  unfold Days
  rw [← this]; exact s
theorem open_year {base : Nat} {v : Value} {d : DataW H} {p : List MemPlace} (hv : Value.okWide Try.prog W .any base 24 v) (h : DataW.Trod enc Try.prog W 0 (fun _ => true) true 24 v d p) :
    ∃ size start a n c ds, v = .agg #[.int .i64 size, .int .i64 start, .slice a n c] ∧ Days (vwP W) a n ds := by
  obtain ⟨v0, v1, v2, y0, y1, y2, n, rfl, _, _, h0, h1, h2⟩ := open_agg3 Try.underlying24 (by kernel_rfl) pC24 hv h
  obtain ⟨size, e0⟩ := trod_i64 Try.underlying3 h0
  obtain ⟨start, e1⟩ := trod_i64 Try.underlying3 h1
  obtain ⟨a, n, c, ds, rfl, D⟩ := open_days h2
  obtain rfl : v0 = _ := by simpa using e0
  obtain rfl : v1 = _ := by simpa using e1
  exact ⟨size, start, a, n, c, ds, rfl, D⟩
theorem open_list {base : Nat} {v : Value} {d : DataW H} {p : List MemPlace} (hv : Value.okWide Try.prog W .any base 25 v) (h : DataW.Trod enc Try.prog W 0 (fun _ => true) true 25 v d p) : ∃ a n c xs, v = .slice a n c ∧ Ints (vwP W) a n xs := by
  obtain ⟨a, n, c, rfl⟩ := okWide_slice Try.underlying25 hv
  obtain ⟨fuel, hf⟩ := h
  exact open_intsX Try.underlying25 Try.underlying3 pC3 hf
theorem open_num {base : Nat} {v : Value} {d : DataW H} {p : List MemPlace} (hv : Value.okWide Try.prog W .any base 3 v) (h : DataW.Trod enc Try.prog W 0 (fun _ => true) true 3 v d p) : ∃ n : Int, v = .int .i64 n ∧ (-9223372036854775808 ≤ n ∧ n ≤ 9223372036854775807) := by
  obtain ⟨n, rfl, _, _, hw⟩ := open_int Try.underlying3 hv h
  refine ⟨n, rfl, ?_⟩
  simpa [Lit.wf, IntKind.min, IntKind.max, IntKind.signed, IntKind.bits] using hw
end
end Go.Proofs.Ytbmkacnlhlbnjaa
namespace Go.X.Cist
open Go.X Go.Proofs.Ytbmkacnlhlbnjaa

theorem sumTo_congr {f g : Nat → Int} : ∀ {k : Nat}, (∀ i, i < k → f i = g i) → sumTo f k = sumTo g k
  | 0, _ => rfl
  | k + 1, h => by simp only [sumTo]; rw [sumTo_congr fun i hi => h i (by omega), h k (by omega)]
theorem sumTo_le {f g : Nat → Int} : ∀ {k : Nat}, (∀ i, i < k → f i ≤ g i) → sumTo f k ≤ sumTo g k
  | 0, _ => Int.le_refl _
  | k + 1, h => by
    have h1 := sumTo_le (k := k) (f := f) (g := g) fun i hi => h i (by omega)
    have h2 := h k (by omega)
    simp only [sumTo]; omega
theorem sum_nums {f : Nat → Int} {n j : Nat} (h : j ≤ n) : sumTo (listOf (nums f n)) j = sumTo f j := sumTo_congr fun i hi => nums_getD (by omega)
theorem sum_at {f : Nat → Int} {n k : Nat} (h : k < n) : sumTo (listOf (nums f n)) (min n (((k : Nat) : Int) + 1).toNat) = sumTo f (k + 1) := by
  rw [show min n (((k : Nat) : Int) + 1).toNat = k + 1 from by omega]; exact sum_nums (by omega)

theorem lack_le {size start : Int} {want rain : Nat → Int} {k : Nat} (h : 0 ≤ lev size start want rain k ∧ lev size start want rain k ≤ size) (hw : 0 ≤ want k) (hr : 0 ≤ rain k) : 0 ≤ lack size start want rain k ∧ lack size start want rain k ≤ want k := by
  unfold lack ovr; omega
theorem ovr_le {size start : Int} {want rain : Nat → Int} {k : Nat} (h : 0 ≤ lev size start want rain k ∧ lev size start want rain k ≤ size) (hr : 0 ≤ rain k) : 0 ≤ ovr size start want rain k ∧ ovr size start want rain k ≤ rain k := by
  unfold ovr; omega

section
variable {size start : Int} {ds : List Day} {xs ys : List Int}
/-- What is known of a day of a valid year in a weather. -/
theorem day_ok (hOk : Ok size start ds) (hW : Weather ds xs) {k : Nat} (hk : k < ds.length) :
    (0 ≤ lev size start (wantOf ds) (listOf xs) k ∧ lev size start (wantOf ds) (listOf xs) k ≤ size) ∧ (0 ≤ levs size start (wantOf ds) (listOf xs) k ∧ levs size start (wantOf ds) (listOf xs) k ≤ size) ∧
    (0 ≤ lack size start (wantOf ds) (listOf xs) k ∧ lack size start (wantOf ds) (listOf xs) k ≤ (ds.getD k dz).want) ∧ (0 ≤ ovr size start (wantOf ds) (listOf xs) k ∧ ovr size start (wantOf ds) (listOf xs) k ≤ 20) ∧ 0 ≤ listOf xs k ∧ listOf xs k ≤ 20 := by
  have h0 := (lok_day hOk.lok hW (k := k) (by omega)).2.1
  have h1 := (lok_day hOk.lok hW (k := k + 1) (by omega)).2.1
  have h2 := (lok_day hOk.lok hW (k := k) (by omega)).2.2 hk
  have h3 : 0 ≤ listOf xs k ∧ listOf xs k ≤ 20 := h2.1
  have h4 := lack_le (want := wantOf ds) (rain := listOf xs) h0 h2.2.1 h3.1
  have h5 := ovr_le (want := wantOf ds) (rain := listOf xs) h0 h3.1
  exact ⟨h0, h1, h4, ⟨h5.1, by omega⟩, h3⟩
theorem overs_ok (hOk : Ok size start ds) (hW : Weather ds xs) {n : Nat} (hl : ds.length = n) (i : Nat) (hi : i < n) : 0 ≤ (nums (ovr size start (wantOf ds) (listOf xs)) n).getD i 0 ∧ (nums (ovr size start (wantOf ds) (listOf xs)) n).getD i 0 ≤ 100 := by
  rw [nums_getD hi]
  have := (day_ok hOk hW (k := i) (by omega)).2.2.2.1
  omega

/-! ### more rain -/
theorem more_lev {want r r' : Nat → Int} {n : Nat} (h : ∀ i, i < n → r i ≤ r' i) : ∀ k, k ≤ n → lev size start want r k ≤ lev size start want r' k
  | 0, _ => Int.le_refl _
  | k + 1, hk => by
    have h1 := more_lev (want := want) h k (by omega)
    have h2 := h k (by omega)
    simp only [lev]; omega
theorem more_lack {want r r' : Nat → Int} {n : Nat} (h : ∀ i, i < n → r i ≤ r' i) (k : Nat) (hk : k < n) : lack size start want r' k ≤ lack size start want r k := by
  have h1 := more_lev (size := size) (start := start) (want := want) h k (by omega)
  have h2 := h k hk
  unfold lack ovr; omega
theorem more_ovr {want r r' : Nat → Int} {n : Nat} (h : ∀ i, i < n → r i ≤ r' i) (k : Nat) (hk : k < n) : ovr size start want r k ≤ ovr size start want r' k := by
  have h1 := more_lev (size := size) (start := start) (want := want) h k (by omega)
  have h2 := h k hk
  unfold ovr; omega
/-! ### nothing is lost -/
end
end Go.X.Cist
namespace Go.X.Cist
open Go.X Go.Proofs.Ytbmkacnlhlbnjaa

section
variable {size start size' start' : Int} {want want' rain rain' : Nat → Int} {ds ds' : List Day}

theorem lev_le {n : Nat} (hs : size ≤ size') (hst : start ≤ start') (hw : ∀ i, i < n → want' i ≤ want i) (hr : ∀ i, i < n → rain i ≤ rain' i) : ∀ k, k ≤ n → lev size start want rain k ≤ lev size' start' want' rain' k
  | 0, _ => hst
  | k + 1, hk => by
    have h1 := lev_le hs hst hw hr k (by omega)
    have h2 := hw k (by omega)
    have h3 := hr k (by omega)
    simp only [lev]; omega
theorem lack_ge {n : Nat} (hs : size ≤ size') (hst : start ≤ start') (hw : ∀ i, i < n → want' i ≤ want i) (hr : ∀ i, i < n → rain i ≤ rain' i) (k : Nat) (hk : k < n) : lack size' start' want' rain' k ≤ lack size start want rain k := by
  have h1 := lev_le (want := want) (want' := want') (rain := rain) (rain' := rain') hs hst hw hr k (by omega)
  have h2 := hw k hk
  have h3 := hr k hk
  unfold lack ovr; omega
theorem lev_congr : ∀ k, (∀ i, i < k → want i = want' i) → (∀ i, i < k → rain i = rain' i) → lev size start want rain k = lev size start want' rain' k
  | 0, _, _ => rfl
  | k + 1, hw, hr => by
    have h1 := lev_congr k (fun i hi => hw i (by omega)) fun i hi => hr i (by omega)
    simp only [lev]; rw [h1, hw k (by omega), hr k (by omega)]

/-! ### what lasts -/
theorem lackDay_dry {i : Nat} (h : i < ds.length) : lackDay ((dryOf size start ds).getD i dz) = decide (0 < lack size (min start size) (wantOf ds) (loOf ds) i) := by
  unfold dryOf; rw [side_getD h]; rfl
theorem lackDay_wet {i : Nat} (h : i < ds.length) : lackDay ((wetOf size start ds).getD i dz) = decide (0 < lack size (min start size) (wantOf ds) (hiOf ds) i) := by
  unfold wetOf; rw [side_getD h]; rfl
theorem dry_spec (hOk : Ok size start ds) : ((dryR size start ds) = (0, 3) ∧ Lasts size start ds) ∨
    ∃ k : Nat, k < ds.length ∧ dryR size start ds = (((k : Nat) : Int), 0) ∧ 0 < lack size (min start size) (wantOf ds) (loOf ds) k ∧ ∀ i, i < k → ¬ 0 < lack size (min start size) (wantOf ds) (loOf ds) i := by
  unfold dryR; rw [if_pos hOk]
  rcases idxF_cases lackDay (dryOf size start ds) with ⟨e, h⟩ | ⟨k, hk, e, h1, h2⟩
  · refine .inl ⟨by rw [e]; rfl, fun i hi => ?_⟩
    have := h i (by rw [dryOf_length]; exact hi)
    rw [lackDay_dry hi] at this
    exact of_decide_eq_false this
  · rw [dryOf_length] at hk
    refine .inr ⟨k, hk, ?_, ?_, fun i hi => ?_⟩
    · rw [e]; unfold noneR; rw [if_neg (by omega)]
    · rw [lackDay_dry hk] at h1; exact of_decide_eq_true h1
    · have := h2 i hi
      rw [lackDay_dry (by omega)] at this
      exact of_decide_eq_false this
theorem must_spec (hOk : Ok size start ds) : ((mustR size start ds) = (0, 3) ∧ ∀ i, i < ds.length → ¬ 0 < lack size (min start size) (wantOf ds) (hiOf ds) i) ∨
    ∃ k : Nat, k < ds.length ∧ mustR size start ds = (((k : Nat) : Int), 0) ∧ 0 < lack size (min start size) (wantOf ds) (hiOf ds) k ∧ ∀ i, i < k → ¬ 0 < lack size (min start size) (wantOf ds) (hiOf ds) i := by
  unfold mustR; rw [if_pos hOk]
  rcases idxF_cases lackDay (wetOf size start ds) with ⟨e, h⟩ | ⟨k, hk, e, h1, h2⟩
  · refine .inl ⟨by rw [e]; rfl, fun i hi => ?_⟩
    have := h i (by rw [wetOf_length]; exact hi)
    rw [lackDay_wet hi] at this
    exact of_decide_eq_false this
  · rw [wetOf_length] at hk
    refine .inr ⟨k, hk, ?_, ?_, fun i hi => ?_⟩
    · rw [e]; unfold noneR; rw [if_neg (by omega)]
    · rw [lackDay_wet hk] at h1; exact of_decide_eq_true h1
    · have := h2 i hi
      rw [lackDay_wet (by omega)] at this
      exact of_decide_eq_false this
/-- The number of a day, or of none. -/
def dayOr (r : Int × Int) : Int := if r.2 = 3 then 8 else r.1
theorem lo_hi (hOk : Ok size start ds) : ∀ i, i < ds.length → loOf ds i ≤ hiOf ds i := fun i hi => (hOk.dok i hi).1.2.1
theorem days_le (hOk : Ok size start ds) : dayOr (dryR size start ds) ≤ dayOr (mustR size start ds) := by
  have hn := hOk.2.2.2.2.1
  have hm : ∀ i, i < ds.length → lack size (min start size) (wantOf ds) (hiOf ds) i ≤ lack size (min start size) (wantOf ds) (loOf ds) i := fun i hi => lack_ge (n := ds.length) (Int.le_refl _) (Int.le_refl _) (fun _ _ => Int.le_refl _) (lo_hi hOk) i hi
  unfold dayOr
  rcases dry_spec hOk with ⟨e, h⟩ | ⟨k, hk, e, h1, h2⟩ <;> rcases must_spec hOk with ⟨e', h'⟩ | ⟨k', hk', e', h1', h2'⟩ <;> rw [e, e']
  · simp
  · exact absurd h1' (by have := h k' hk'; have := hm k' hk'; omega)
  · simp; omega
  · simp
    refine Nat.not_lt.1 fun hlt => ?_
    have := h2 k' (by omega)
    have := hm k' hk'
    omega

theorem day_or (hOk : Ok size start ds) : (dryR size start ds).2 = 3 ∨ ((dryR size start ds).2 = 0 ∧ IsDay ds (dryR size start ds).1) := by
  rcases dry_spec hOk with ⟨e, _⟩ | ⟨k, hk, e, _⟩ <;> rw [e]
  · exact .inl rfl
  · exact .inr ⟨rfl, by show (0 : Int) ≤ (k : Nat); omega, by show ((k : Nat) : Int) < _; omega⟩
theorem must_or (hOk : Ok size start ds) : (mustR size start ds).2 = 3 ∨ ((mustR size start ds).2 = 0 ∧ IsDay ds (mustR size start ds).1) := by
  rcases must_spec hOk with ⟨e, _⟩ | ⟨k, hk, e, _⟩ <;> rw [e]
  · exact .inl rfl
  · exact .inr ⟨rfl, by show (0 : Int) ≤ (k : Nat); omega, by show ((k : Nat) : Int) < _; omega⟩

/-! ### rations -/
/-! ### sizes and starts -/
end
end Go.X.Cist
namespace Go.X.Cist
open Go.X Go.Proofs.Ytbmkacnlhlbnjaa

section
variable {size start size' : Int} {ds : List Day} {day x : Int}
/-! ### a greater cistern -/
end
end Go.X.Cist
namespace Go.Proofs.Ytbmkacnlhlbnjaa
open Go.X Go.X.Cist Go.Conc
set_option maxRecDepth 10000

theorem c19 (md : Md) (h : Heap) (p : PHeap) (hp : Per p h) (size start : Int) (a : Option Addr) (n c : Nat) (ds : List Day) (D : Days p a n ds) (hn : n ≤ 40) (b : Option Addr) (m d : Nat) (xs : List Int) (W : Ints p b m xs) (hm40 : m ≤ 40) (hOk : Ok size start ds) (hW : Weather ds xs) : CallsX Try.prog md 19 #[.agg #[.int .i64 (size), .int .i64 (start), .slice a n c], .slice b m d] h fun v h' => ∃ w1 w2 w3 X1 X2 X3, v = .tuple #[.agg #[w1, w2, w3], .bool true] ∧ OwnS 3 1 w1 (ns (levs size start (wantOf ds) (listOf xs)) n) X1 ∧ OwnS 3 1 w2 (ns (lack size start (wantOf ds) (listOf xs)) n) X2 ∧ OwnS 3 1 w3 (ns (ovr size start (wantOf ds) (listOf xs)) n) X3 ∧ New h h' (X1 ++ (X2 ++ (X3 ++ []))) := by
  refine calls_intro (Φ := fun h_ => St h [] p h_ []) Try.func19 rfl (tm := [_, _, _, _, _, _, _, _, _, _, _, _, _, _, _, _, _, _, _, _, _, _, _, _, _, _, _, _, _, _, _, _, _, _, _, _, _, _, _, _, _, _, _, _, _, _, _, _, _, _, _, _, _, _, _, _, _, _, _, _, _, _, _, _, _, _, _, _, _, _, _, _, _, _, _, _, _, _, _, _, _, _, _, _, _, _, _, _]) rfl ?_ (St.start h _ hp)
  intro c₀ cs Stop K
  have hl := D.len
  refine fl_seq ?_
  refine rl_start ?_
  refine rl_box (met_none rfl) (v := .agg #[.int .i64 (size), .int .i64 (start), .slice a n c]) rfl fun b1 => rl_own (L' := [(b1, .cells #[.int .i64 (size), .int .i64 (start), .slice a n c] 24 (0, 0))]) rfl ?_
  refine rl_alloc (met_none rfl) tZ30 rfl fun b2 => rl_own (L' := [(b2, .cells #[.slice none 0 0, .slice none 0 0, .slice none 0 0] 30 (0, 0)), (b1, .cells #[.int .i64 (size), .int .i64 (start), .slice a n c] 24 (0, 0))]) rfl ?_
  refine rl_det (met_none rfl) (fun h_ H_ => exd_assign (v := .bool (false)) rfl) (tm' := _::_::_::_::_::_::_) rfl ?_
  refine rl_end ?_
  refine fl_seq ?_
  refine rl_start ?_
  refine rl_det (met_none rfl) (fun h_ H_ => exd_loadN_own H_ tA24 tS24 rfl (i := 1) rfl (vs := [.int .i64 (size), .int .i64 (start), .slice a n c]) rfl rfl) rfl ?_
  refine rl_own (L' := ([(b2, .cells #[.slice none 0 0, .slice none 0 0, .slice none 0 0] 30 (0, 0)), (b1, .cells #[.int .i64 (size), .int .i64 (start), .slice a n c] 24 (0, 0))] : Pcs) ++ []) rfl ?_
  refine rl_call (met_none rfl) (first := []) (cap := []) rfl rfl fC30 (R := fun v_ h_ => ∃ w3 : Value, ∃ X4 : Pcs, v_ = .agg #[.int .i64 (size), .int .i64 (start), w3] ∧ (OwnS 38 3 w3 (dcs ds) X4) ∧ St h [] p h_ (([(b2, .cells #[.slice none 0 0, .slice none 0 0, .slice none 0 0] 30 (0, 0)), (b1, .cells #[.int .i64 (size), .int .i64 (start), .slice a n c] 24 (0, 0))] : Pcs) ++ (X4 ++ []))) (fun h_ H_ => (c30 md _ _ (fun b_ o_ e_ => H_.per b_ o_ e_) (size) (start) _ _ _ _ D (by omega)).mono fun v_ h2_ ⟨w3, X4, e_, o5, N_⟩ => ⟨w3, X4, e_, o5, H_.callNA N_⟩) fun v_ => ?_
  refine rl_ex fun w3 => rl_ex fun X4 => rl_and fun ev_ => rl_and fun o5 => ?_
  have ev_ := ev_.symm; subst ev_
  refine rl_own (L' := ([(b2, .cells #[.slice none 0 0, .slice none 0 0, .slice none 0 0] 30 (0, 0)), (b1, .cells #[.int .i64 (size), .int .i64 (start), .slice a n c] 24 (0, 0))] : Pcs) ++ (X4 ++ [])) rfl ?_
  refine rl_buildO ([(b2, .cells #[.slice none 0 0, .slice none 0 0, .slice none 0 0] 30 (0, 0)), (b1, .cells #[.int .i64 (size), .int .i64 (start), .slice a n c] 24 (0, 0))] : Pcs) (met_none rfl) Try.underlying25 tS3 tZ3 (Nat.le_of_ble_eq_true rfl) (vs := []) rfl rfl (es := []) rfl rfl rfl fun v6 X7 o8 => ?_
  refine rl_norm (tm' := _::_::_::_::_::_::_::_::_::_::_::_::_::_::_::_) rfl ?_
  refine rl_det (met_none rfl) (fun h_ H_ => exd_move (v := .slice b m d) rfl) rfl ?_
  refine rl_appendP ([(b2, .cells #[.slice none 0 0, .slice none 0 0, .slice none 0 0] 30 (0, 0)), (b1, .cells #[.int .i64 (size), .int .i64 (start), .slice a n c] 24 (0, 0))] : Pcs) X7 (met_none rfl) Try.underlying25 tS3 tZ3 rfl tB3 Try.underlying25 rfl rfl o8 W (ints_ones _) (by first | omega | (simp; omega) | simp) (by decide) (by decide) fun v9 X10 o11 => ?_
  refine rl_perm (List.Perm.append_left _ (List.perm_append_comm_assoc _ _ _)) ?_
  refine rl_own (L' := ([(b2, .cells #[.slice none 0 0, .slice none 0 0, .slice none 0 0] 30 (0, 0)), (b1, .cells #[.int .i64 (size), .int .i64 (start), .slice a n c] 24 (0, 0))] : Pcs) ++ (X4 ++ (X10 ++ []))) rfl ?_
  refine rl_lastN (A := ([(b2, .cells #[.slice none 0 0, .slice none 0 0, .slice none 0 0] 30 (0, 0)), (b1, .cells #[.int .i64 (size), .int .i64 (start), .slice a n c] 24 (0, 0))] : Pcs)) o5 (show (dcs ds).length = n by rw [dcs_length]; omega) fun p12 a13 cp14 le15 ev_ D16 => ?_
  subst ev_
  refine rl_lastN (A := ([(b2, .cells #[.slice none 0 0, .slice none 0 0, .slice none 0 0] 30 (0, 0)), (b1, .cells #[.int .i64 (size), .int .i64 (start), .slice a n c] 24 (0, 0))] : Pcs)) o11 (by have h_ := W.len; simpa using h_) fun p17 a18 cp19 le20 ev_ D21 => ?_
  subst ev_
  refine rl_own (L' := [(b2, .cells #[.slice none 0 0, .slice none 0 0, .slice none 0 0] 30 (0, 0)), (b1, .cells #[.int .i64 (size), .int .i64 (start), .slice a n c] 24 (0, 0))]) rfl ?_
  refine rl_own (L' := ([(b2, .cells #[.slice none 0 0, .slice none 0 0, .slice none 0 0] 30 (0, 0)), (b1, .cells #[.int .i64 (size), .int .i64 (start), .slice a n c] 24 (0, 0))] : Pcs) ++ []) rfl ?_
  refine rl_call (met_none rfl) (first := []) (cap := []) rfl rfl fC34 (R := fun v_ h_ => ∃ w22 : Value, ∃ w23 : Value, ∃ w24 : Value, ∃ X25 : Pcs, ∃ X26 : Pcs, ∃ X27 : Pcs, v_ = .tuple #[w22, w23, w24, .int .i64 0] ∧ (OwnS 3 1 w22 (ns (levs size start (wantOf ds) (listOf xs)) n) X25) ∧ (OwnS 3 1 w23 (ns (lack size start (wantOf ds) (listOf xs)) n) X26) ∧ (OwnS 3 1 w24 (ns (ovr size start (wantOf ds) (listOf xs)) n) X27) ∧ St h [] p17 h_ (([(b2, .cells #[.slice none 0 0, .slice none 0 0, .slice none 0 0] 30 (0, 0)), (b1, .cells #[.int .i64 (size), .int .i64 (start), .slice a n c] 24 (0, 0))] : Pcs) ++ ((X25 ++ (X26 ++ (X27 ++ []))) ++ []))) (fun h_ H_ => (c34ok md _ _ (fun b_ o_ e_ => H_.per b_ o_ e_) (size) (start) _ _ _ _ ((show Days _ _ _ ds from D16).mono le20) (by omega) _ _ _ _ (show Ints _ _ _ xs from D21) (by omega) hOk hW).mono fun v_ h2_ ⟨w22, w23, w24, X25, X26, X27, e_, o28, o29, o30, N_⟩ => ⟨w22, w23, w24, X25, X26, X27, e_, o28, o29, o30, H_.callNA N_⟩) fun v_ => ?_
  refine rl_ex fun w22 => rl_ex fun w23 => rl_ex fun w24 => rl_ex fun X25 => rl_ex fun X26 => rl_ex fun X27 => rl_and fun ev_ => rl_and fun o28 => rl_and fun o29 => rl_and fun o30 => ?_
  have ev_ := ev_.symm; subst ev_
  refine rl_own (L' := ([(b2, .cells #[.slice none 0 0, .slice none 0 0, .slice none 0 0] 30 (0, 0)), (b1, .cells #[.int .i64 (size), .int .i64 (start), .slice a n c] 24 (0, 0))] : Pcs) ++ (X25 ++ (X26 ++ (X27 ++ [])))) (by simp) ?_
  refine rl_norm (tm' := _::_::_::_::_::_::_::_::_::_::_::_::_::_::_::_::_::_::_) rfl ?_
  refine rl_det (met_none rfl) (fun h_ H_ => exd_move (v := .tuple #[w22, w23, w24, .int .i64 0]) rfl) rfl ?_
  refine rl_det (met_none rfl) (fun h_ H_ => exd_extract rfl (v := w22) rfl) rfl ?_
  refine rl_det (met_none rfl) (fun h_ H_ => exd_extract rfl (v := w23) rfl) (tm' := _::_::_::_::_::_::_::_::_::_::_::_::_::_::_::_::_::_::_::_::_) rfl ?_
  refine rl_det (met_none rfl) (fun h_ H_ => exd_extract rfl (v := w24) rfl) rfl ?_
  refine rl_det (met_none rfl) (fun h_ H_ => exd_extract rfl (v := .int .i64 0) rfl) rfl ?_
  refine rl_det (met_none rfl) (fun h_ H_ => exd_assign (v := w22) rfl) (tm' := _::_::_::_::_::_::_::_) rfl ?_
  refine rl_det (met_none rfl) (fun h_ H_ => exd_assign (v := w23) rfl) rfl ?_
  refine rl_det (met_none rfl) (fun h_ H_ => exd_assign (v := w24) rfl) rfl ?_
  refine rl_det (met_none rfl) (fun h_ H_ => exd_assign (v := .int .i64 0) rfl) (tm' := _::_::_::_::_::_::_::_::_::_::_) rfl ?_
  refine rl_end ?_
  refine fl_seq ?_
  refine fl_seq ?_
  refine rl_start ?_
  refine rl_det (met_none rfl) (fun h_ H_ => exd_move (v := .int .i64 0) rfl) rfl ?_
  refine rl_det (met_none rfl) (fun h_ H_ => exd_neq rfl rfl) rfl ?_
  refine rl_det (met_none rfl) (fun h_ H_ => exd_move (v := .bool (decide ((0 : Int) ≠ 0))) rfl) (tm' := _::_::_::_::_::_::_::_::_::_::_::_::_::_::_::_::_::_::_::_::_::_::_::_::_::_) rfl ?_
  refine rl_det (met_some rfl rfl (decide_eq_false (by decide))) (fun h_ H_ => exd_move (v := w22) rfl) rfl ?_
  refine rl_det (met_some rfl rfl (decide_eq_false (by decide))) (fun h_ H_ => exd_lenN o28 (ns_length _ _) Try.underlying25 rfl) rfl ?_
  refine rl_det (met_some rfl rfl (decide_eq_false (by decide))) (fun h_ H_ => exd_fieldAddr tF24_2 rfl (a' := ⟨b1, 2, none⟩) rfl) (tm' := _::_::_::_::_::_::_::_::_::_::_::_::_::_::_::_::_::_::_::_::_::_::_::_::_::_::_::_::_) rfl ?_
  refine rl_det (met_some rfl rfl (decide_eq_false (by decide))) (fun h_ H_ => exd_load_own H_ tA22 rfl (i := 1) rfl (v := .slice a n c) rfl) rfl ?_
  refine rl_det (met_some rfl rfl (decide_eq_false (by decide))) (fun h_ H_ => exd_len Try.underlying22 rfl) rfl ?_
  refine rl_det (met_some rfl rfl (decide_eq_false (by decide))) (fun h_ H_ => exd_neq rfl rfl) (tm' := _::_::_::_::_::_::_::_::_::_::_::_::_::_::_::_::_::_::_::_::_::_::_::_::_::_::_::_::_::_::_::_) rfl ?_
  refine rl_det (met_none rfl) (fun h_ H_ => exd_pick_f rfl (decide_eq_false (by decide)) (v := .bool (decide (((n : Nat) : Int) ≠ ((n : Nat) : Int)))) rfl) rfl ?_
  refine rl_det (met_none rfl) (fun h_ H_ => exd_move (v := .bool (decide (((n : Nat) : Int) ≠ ((n : Nat) : Int)))) rfl) rfl ?_
  refine rl_det (met_some rfl rfl (decide_eq_false (fun h_ => h_ rfl))) (fun h_ H_ => exd_move (v := w23) rfl) (tm' := _::_::_::_::_::_::_::_::_::_::_::_::_::_::_::_::_::_::_::_::_::_::_::_::_::_::_::_::_::_::_::_::_::_::_) rfl ?_
  refine rl_det (met_some rfl rfl (decide_eq_false (fun h_ => h_ rfl))) (fun h_ H_ => exd_lenN o29 (ns_length _ _) Try.underlying25 rfl) rfl ?_
  refine rl_det (met_some rfl rfl (decide_eq_false (fun h_ => h_ rfl))) (fun h_ H_ => exd_move (v := w22) rfl) rfl ?_
  refine rl_det (met_some rfl rfl (decide_eq_false (fun h_ => h_ rfl))) (fun h_ H_ => exd_lenN o28 (ns_length _ _) Try.underlying25 rfl) (tm' := _::_::_::_::_::_::_::_::_::_::_::_::_::_::_::_::_::_::_::_::_::_::_::_::_::_::_::_::_::_::_::_::_::_::_::_::_::_) rfl ?_
  refine rl_det (met_some rfl rfl (decide_eq_false (fun h_ => h_ rfl))) (fun h_ H_ => exd_neq rfl rfl) rfl ?_
  refine rl_det (met_none rfl) (fun h_ H_ => exd_pick_f rfl (decide_eq_false (fun h_ => h_ rfl)) (v := .bool (decide (((n : Nat) : Int) ≠ ((n : Nat) : Int)))) rfl) rfl ?_
  refine rl_det (met_none rfl) (fun h_ H_ => exd_move (v := .bool (decide (((n : Nat) : Int) ≠ ((n : Nat) : Int)))) rfl) (tm' := _::_::_::_::_::_::_::_::_::_::_::_::_::_::_::_::_::_::_::_::_::_::_::_::_::_::_::_::_::_::_::_::_::_::_::_::_::_::_::_::_) rfl ?_
  refine rl_det (met_some rfl rfl (decide_eq_false (fun h_ => h_ rfl))) (fun h_ H_ => exd_move (v := w24) rfl) rfl ?_
  refine rl_det (met_some rfl rfl (decide_eq_false (fun h_ => h_ rfl))) (fun h_ H_ => exd_lenN o30 (ns_length _ _) Try.underlying25 rfl) rfl ?_
  refine rl_det (met_some rfl rfl (decide_eq_false (fun h_ => h_ rfl))) (fun h_ H_ => exd_move (v := w22) rfl) (tm' := _::_::_::_::_::_::_::_::_::_::_::_::_::_::_::_::_::_::_::_::_::_::_::_::_::_::_::_::_::_::_::_::_::_::_::_::_::_::_::_::_::_::_::_) rfl ?_
  refine rl_det (met_some rfl rfl (decide_eq_false (fun h_ => h_ rfl))) (fun h_ H_ => exd_lenN o28 (ns_length _ _) Try.underlying25 rfl) rfl ?_
  refine rl_det (met_some rfl rfl (decide_eq_false (fun h_ => h_ rfl))) (fun h_ H_ => exd_neq rfl rfl) rfl ?_
  refine rl_det (met_none rfl) (fun h_ H_ => exd_pick_f rfl (decide_eq_false (fun h_ => h_ rfl)) (v := .bool (decide (((n : Nat) : Int) ≠ ((n : Nat) : Int)))) rfl) (tm' := _::_::_::_::_::_::_::_::_::_::_::_::_::_::_::_::_::_::_::_::_::_::_::_::_::_::_::_::_::_::_::_::_::_::_::_::_::_::_::_::_::_::_::_::_::_::_) rfl ?_
  refine rl_end ?_
  refine fl_else rfl (decide_eq_false (fun h_ => h_ rfl)) ?_
  refine fl_skip ?_
  refine fl_seq ?_
  refine fl_seq ?_
  refine rl_start ?_
  refine rl_det (met_none rfl) (fun h_ H_ => exd_assign (v := .int .i64 0) rfl) rfl ?_
  refine rl_end ?_
  refine fl_block ?_
  refine fl_loop (m₀ := n - 0) (fun m_ tm_ h_ => ∃ (k : Nat), m_ = n - k ∧ (∃ y31 : Nat → Value, tm_ = [.agg #[.int .i64 (size), .int .i64 (start), .slice a n c], .slice b m d, .pointer (some ⟨b1, 0, none⟩), undef, .pointer (some ⟨b2, 0, none⟩), (y31 5), w22, w23, w24, .int .i64 0, .int .i64 (((k : Nat) : Int)), .tuple #[w22, w23, w24, .int .i64 0], .agg #[.int .i64 (size), .int .i64 (start), .slice a n c], .agg #[.int .i64 (size), .int .i64 (start), .slice a13 n cp14], v6, .slice b m d, .slice a18 m cp19, .tuple #[w22, w23, w24, .int .i64 0], w22, w23, w24, .int .i64 0, .int .i64 0, .bool (decide ((0 : Int) ≠ 0)), .bool (decide ((0 : Int) ≠ 0)), w22, .int .i64 (((n : Nat) : Int)), .pointer (some ⟨b1, 2, none⟩), .slice a n c, .int .i64 (((n : Nat) : Int)), .bool (decide (((n : Nat) : Int) ≠ ((n : Nat) : Int))), .bool (decide (((n : Nat) : Int) ≠ ((n : Nat) : Int))), .bool (decide (((n : Nat) : Int) ≠ ((n : Nat) : Int))), w23, .int .i64 (((n : Nat) : Int)), w22, .int .i64 (((n : Nat) : Int)), .bool (decide (((n : Nat) : Int) ≠ ((n : Nat) : Int))), .bool (decide (((n : Nat) : Int) ≠ ((n : Nat) : Int))), .bool (decide (((n : Nat) : Int) ≠ ((n : Nat) : Int))), w24, .int .i64 (((n : Nat) : Int)), w22, .int .i64 (((n : Nat) : Int)), .bool (decide (((n : Nat) : Int) ≠ ((n : Nat) : Int))), .bool (decide (((n : Nat) : Int) ≠ ((n : Nat) : Int))), undef, (y31 47), (y31 48), (y31 49), (y31 50), (y31 51), (y31 52), (y31 53), (y31 54), (y31 55), (y31 56), (y31 57), (y31 58), (y31 59), (y31 60), (y31 61), (y31 62), (y31 63), (y31 64), (y31 65), (y31 66), (y31 67), (y31 68), (y31 69), (y31 70), (y31 71), (y31 72), (y31 73), (y31 74), (y31 75), (y31 76), (y31 77), (y31 78), (y31 79), (y31 80), (y31 81), (y31 82), (y31 83), undef, undef, undef, undef]) ∧ (k ≤ n) ∧ St h [] p17 h_ (([(b2, .cells #[.slice none 0 0, .slice none 0 0, .slice none 0 0] 30 (0, 0)), (b1, .cells #[.int .i64 (size), .int .i64 (start), .slice a n c] 24 (0, 0))] : Pcs) ++ (X25 ++ (X26 ++ (X27 ++ []))))) (fun h_ H_ => ⟨0, rfl, (y_of rfl), Nat.zero_le _, H_⟩) ?_
  intro m_ tm_ IH32
  refine rs_ex fun k => rs_and fun hm_ => rs_and fun ht_ => rs_and fun hk => ?_
  subst hm_; obtain ⟨y31, ht_⟩ := ht_; subst ht_
  have hdk := day_ok hOk hW (k := k)
  refine fl_seq ?_
  refine fl_seq ?_
  refine rl_start ?_
  refine rl_det (met_none rfl) (fun h_ H_ => exd_move (v := .int .i64 (((k : Nat) : Int))) rfl) rfl ?_
  refine rl_det (met_none rfl) (fun h_ H_ => exd_move (v := w22) rfl) (tm' := _::_::_::_::_::_::_::_::_::_::_::_::_::_::_::_::_::_::_::_::_::_::_::_::_::_::_::_::_::_::_::_::_::_::_::_::_::_::_::_::_::_::_::_::_::_::_::_::_::_) rfl ?_
  refine rl_det (met_none rfl) (fun h_ H_ => exd_lenN o28 (ns_length _ _) Try.underlying25 rfl) rfl ?_
  refine rl_det (met_none rfl) (fun h_ H_ => exd_lss rfl rfl) rfl ?_
  refine rl_end ?_
  by_cases cc33 : ((k : Nat) : Int) < ((n : Nat) : Int)
  · refine fl_then rfl (decide_eq_true cc33) ?_
    refine fl_skip ?_
    refine fl_seq ?_
    refine fl_block ?_
    refine fl_seq ?_
    refine fl_drawn2 25 [[], [], [0, 1], [0, 1, 2], [], [4], [0, 1, 2, 3, 4, 5], [0, 1, 2, 3, 4, 5], [0, 1, 2, 3, 4, 5, 6, 7], [], [], [9, 10], [9, 10, 11], [], [13], [0, 1, 2, 3, 4, 5, 6, 7], [0, 1, 2, 3, 4, 5, 6, 7, 13, 14, 15], [0, 1, 2, 3, 4, 5, 6, 7, 13, 14, 15, 16], [0, 1, 2, 3, 4, 5, 6, 7, 13, 14, 15, 16, 17], [0, 1, 2, 3, 4, 5, 6, 7, 9, 10, 11, 12, 13, 14, 15, 16, 17, 18], [0, 1, 2, 3, 4, 5, 6, 7, 9, 10, 11, 12, 13, 14, 15, 16, 17, 18], [0, 1, 2, 3, 4, 5, 6, 7, 8, 9, 10, 11, 12, 13, 14, 15, 16, 17, 18, 20], [0, 1, 2, 3, 4, 5, 6, 7, 8, 9, 10, 11, 12, 13, 14, 15, 16, 17, 18, 19, 20, 21], [], [0, 1, 2, 3, 4, 5, 6, 7, 8, 9, 10, 11, 12, 13, 14, 15, 16, 17, 18, 19, 20, 21], [0, 1, 2, 3, 4, 5, 6, 7, 8, 9, 10, 11, 12, 13, 14, 15, 16, 17, 18, 19, 20, 21, 23, 24], [0, 1, 2, 3, 4, 5, 6, 7, 8, 9, 10, 11, 12, 13, 14, 15, 16, 17, 18, 19, 20, 21, 23, 24, 25], [0, 1, 2, 3, 4, 5, 6, 7, 8, 9, 10, 11, 12, 13, 14, 15, 16, 17, 18, 19, 20, 21, 23, 24, 25, 26], [0, 1, 2, 3, 4, 5, 6, 7, 8, 9, 10, 11, 12, 13, 14, 15, 16, 17, 18, 19, 20, 21, 23, 24, 25, 26, 27], []] mixed (by kernel_rfl) (Nat.le_of_ble_eq_true rfl) ?_
    refine swr_det (met_none rfl) (fun h_ H_ => exd_move (v := w22) rfl) (tm' := _::_::_::_::_::_::_::_::_::_::_::_::_::_::_::_::_::_::_::_::_::_::_::_::_::_::_::_::_::_::_::_::_::_::_::_::_::_::_::_::_::_::_::_::_::_::_::_::_::_::_::_::_::_::_) rfl ?_
    refine swr_det (met_none rfl) (fun h_ H_ => exd_move (v := .int .i64 (((k : Nat) : Int))) rfl) rfl ?_
    refine swr_det (met_none rfl) (fun h_ H_ => exd_indexO o28 Try.underlying25 tS3 rfl rfl (by rw [(ns_length _ _)]; omega)) (tm' := _::_::_::_::_::_::_::_::_::_::_::_::_::_::_::_::_::_::_::_::_::_::_::_::_::_::_::_::_::_::_::_::_::_::_::_::_::_::_::_::_::_::_::_::_::_::_::_::_::_::_::_::_::_::_::_::_) rfl ?_
    refine swr_det (met_none rfl) (fun h_ H_ => exd_loadO (A := ([(b2, .cells #[.slice none 0 0, .slice none 0 0, .slice none 0 0] 30 (0, 0)), (b1, .cells #[.int .i64 (size), .int .i64 (start), .slice a n c] 24 (0, 0))] : Pcs)) (i := k) (j := 0) (e := [.int .i64 (levs size start (wantOf ds) (listOf xs) k)]) o28 H_ tA3 rfl rfl (ns_at (by omega)) (u := .int .i64 (levs size start (wantOf ds) (listOf xs) k)) rfl) rfl ?_
    refine swr_det (met_none rfl) (fun h_ H_ => exd_fieldAddr tF24_0 rfl (a' := ⟨b1, 0, none⟩) rfl) (tm' := _::_::_::_::_::_::_::_::_::_::_::_::_::_::_::_::_::_::_::_::_::_::_::_::_::_::_::_::_::_::_::_::_::_::_::_::_::_::_::_::_::_::_::_::_::_::_::_::_::_::_::_::_::_::_::_::_::_::_) rfl ?_
    refine swr_det (met_none rfl) (fun h_ H_ => exd_load_own H_ tA3 rfl (i := 1) rfl (v := .int .i64 (size)) rfl) rfl ?_
    refine swr_call (met_none rfl) (first := []) (cap := []) rfl rfl fC22 (fun h_ H_ => (c22 md _ (levs size start (wantOf ds) (listOf xs) k) (0) (size)).mono fun v_ h2_ ⟨e_, k_⟩ => ⟨e_, H_.call k_⟩) (tm' := [_,_,_,_,_,_,_,_,_,_,_,_,_,_,_,_,_,_,_,_,_,_,_,_,_,_,_,_,_,_,_,_,_,_,_,_,_,_,_,_,_,_,_,_,_,_,_,_,_,_,_,_,_,_,_,_,_,_,_,_,_,_,_,_,_,_,_,_,_,_,_,_,_,_,_,_,_,_,_,_,_,_,_,_,_,_,_,_]) rfl ?_
    refine swr_det (met_none rfl) (fun h_ H_ => exd_not rfl) rfl ?_
    refine swr_det (met_none rfl) (fun h_ H_ => exd_move (v := .bool (!(decide (0 ≤ levs size start (wantOf ds) (listOf xs) k ∧ levs size start (wantOf ds) (listOf xs) k ≤ size)))) rfl) (tm' := [_,_,_,_,_,_,_,_,_,_,_,_,_,_,_,_,_,_,_,_,_,_,_,_,_,_,_,_,_,_,_,_,_,_,_,_,_,_,_,_,_,_,_,_,_,_,_,_,_,_,_,_,_,_,_,_,_,_,_,_,_,_,_,_,_,_,_,_,_,_,_,_,_,_,_,_,_,_,_,_,_,_,_,_,_,_,_,_]) rfl ?_
    refine swr_det (met_some rfl rfl (not_f (decide_eq_true (by omega)))) (fun h_ H_ => exd_move (v := w23) rfl) rfl ?_
    refine swr_det (met_some rfl rfl (not_f (decide_eq_true (by omega)))) (fun h_ H_ => exd_move (v := .int .i64 (((k : Nat) : Int))) rfl) (tm' := [_,_,_,_,_,_,_,_,_,_,_,_,_,_,_,_,_,_,_,_,_,_,_,_,_,_,_,_,_,_,_,_,_,_,_,_,_,_,_,_,_,_,_,_,_,_,_,_,_,_,_,_,_,_,_,_,_,_,_,_,_,_,_,_,_,_,_,_,_,_,_,_,_,_,_,_,_,_,_,_,_,_,_,_,_,_,_,_]) rfl ?_
    refine swr_det (met_some rfl rfl (not_f (decide_eq_true (by omega)))) (fun h_ H_ => exd_indexO o29 Try.underlying25 tS3 rfl rfl (by rw [(ns_length _ _)]; omega)) rfl ?_
    refine swr_det (met_some rfl rfl (not_f (decide_eq_true (by omega)))) (fun h_ H_ => exd_loadM (i := k) (j := 0) (e := [.int .i64 (lack size start (wantOf ds) (listOf xs) k)]) o29 H_ (fun x_ h_ => by simp [h_]) tA3 rfl rfl (ns_at (by omega)) (u := .int .i64 (lack size start (wantOf ds) (listOf xs) k)) rfl) (tm' := [_,_,_,_,_,_,_,_,_,_,_,_,_,_,_,_,_,_,_,_,_,_,_,_,_,_,_,_,_,_,_,_,_,_,_,_,_,_,_,_,_,_,_,_,_,_,_,_,_,_,_,_,_,_,_,_,_,_,_,_,_,_,_,_,_,_,_,_,_,_,_,_,_,_,_,_,_,_,_,_,_,_,_,_,_,_,_,_]) rfl ?_
    refine swr_det (met_some rfl rfl (not_f (decide_eq_true (by omega)))) (fun h_ H_ => exd_fieldAddr tF24_2 rfl (a' := ⟨b1, 2, none⟩) rfl) rfl ?_
    refine swr_det (met_some rfl rfl (not_f (decide_eq_true (by omega)))) (fun h_ H_ => exd_load_own H_ tA22 rfl (i := 1) rfl (v := .slice a n c) rfl) (tm' := [_,_,_,_,_,_,_,_,_,_,_,_,_,_,_,_,_,_,_,_,_,_,_,_,_,_,_,_,_,_,_,_,_,_,_,_,_,_,_,_,_,_,_,_,_,_,_,_,_,_,_,_,_,_,_,_,_,_,_,_,_,_,_,_,_,_,_,_,_,_,_,_,_,_,_,_,_,_,_,_,_,_,_,_,_,_,_,_]) rfl ?_
    refine swr_det (met_some rfl rfl (not_f (decide_eq_true (by omega)))) (fun h_ H_ => exd_move (v := .int .i64 (((k : Nat) : Int))) rfl) rfl ?_
    refine swr_det (met_some rfl rfl (not_f (decide_eq_true (by omega)))) (fun h_ H_ => exd_indexAddrN (i := k) Try.underlying22 tS38 (sl_ne a n c (((D.mono le15).mono le20).ne (by omega))) rfl (by omega)) (tm' := [_,_,_,_,_,_,_,_,_,_,_,_,_,_,_,_,_,_,_,_,_,_,_,_,_,_,_,_,_,_,_,_,_,_,_,_,_,_,_,_,_,_,_,_,_,_,_,_,_,_,_,_,_,_,_,_,_,_,_,_,_,_,_,_,_,_,_,_,_,_,_,_,_,_,_,_,_,_,_,_,_,_,_,_,_,_,_,_]) rfl ?_
    refine swr_det (met_some rfl rfl (not_f (decide_eq_true (by omega)))) (fun h_ H_ => exd_fieldAddr tF38_1 rfl (a' := ((adr a).add (k * 3)).add 2) rfl) rfl ?_
    refine swr_det (met_some rfl rfl (not_f (decide_eq_true (by omega)))) (fun h_ H_ => exd_load_per H_ tA3 rfl (v := .int .i64 ((ds.getD k dz).want)) (((D.mono le15).mono le20).want (by omega))) (tm' := [_,_,_,_,_,_,_,_,_,_,_,_,_,_,_,_,_,_,_,_,_,_,_,_,_,_,_,_,_,_,_,_,_,_,_,_,_,_,_,_,_,_,_,_,_,_,_,_,_,_,_,_,_,_,_,_,_,_,_,_,_,_,_,_,_,_,_,_,_,_,_,_,_,_,_,_,_,_,_,_,_,_,_,_,_,_,_,_]) rfl ?_
    refine swr_call (met_some rfl rfl (not_f (decide_eq_true (by omega)))) (first := []) (cap := []) rfl rfl fC22 (fun h_ H_ => (c22 md _ (lack size start (wantOf ds) (listOf xs) k) (0) ((ds.getD k dz).want)).mono fun v_ h2_ ⟨e_, k_⟩ => ⟨e_, H_.call k_⟩) rfl ?_
    refine swr_det (met_some rfl rfl (not_f (decide_eq_true (by omega)))) (fun h_ H_ => exd_not rfl) (tm' := [_,_,_,_,_,_,_,_,_,_,_,_,_,_,_,_,_,_,_,_,_,_,_,_,_,_,_,_,_,_,_,_,_,_,_,_,_,_,_,_,_,_,_,_,_,_,_,_,_,_,_,_,_,_,_,_,_,_,_,_,_,_,_,_,_,_,_,_,_,_,_,_,_,_,_,_,_,_,_,_,_,_,_,_,_,_,_,_]) rfl ?_
    refine swr_det (met_none rfl) (fun h_ H_ => exd_pick_f rfl (not_f (decide_eq_true (by omega))) (v := .bool (!(decide (0 ≤ lack size start (wantOf ds) (listOf xs) k ∧ lack size start (wantOf ds) (listOf xs) k ≤ (ds.getD k dz).want)))) rfl) rfl ?_
    refine swr_det (met_none rfl) (fun h_ H_ => exd_move (v := .bool (!(decide (0 ≤ lack size start (wantOf ds) (listOf xs) k ∧ lack size start (wantOf ds) (listOf xs) k ≤ (ds.getD k dz).want)))) rfl) (tm' := [_,_,_,_,_,_,_,_,_,_,_,_,_,_,_,_,_,_,_,_,_,_,_,_,_,_,_,_,_,_,_,_,_,_,_,_,_,_,_,_,_,_,_,_,_,_,_,_,_,_,_,_,_,_,_,_,_,_,_,_,_,_,_,_,_,_,_,_,_,_,_,_,_,_,_,_,_,_,_,_,_,_,_,_,_,_,_,_]) rfl ?_
    refine swr_det (met_some rfl rfl (not_f (decide_eq_true (by omega)))) (fun h_ H_ => exd_move (v := w24) rfl) rfl ?_
    refine swr_det (met_some rfl rfl (not_f (decide_eq_true (by omega)))) (fun h_ H_ => exd_move (v := .int .i64 (((k : Nat) : Int))) rfl) (tm' := [_,_,_,_,_,_,_,_,_,_,_,_,_,_,_,_,_,_,_,_,_,_,_,_,_,_,_,_,_,_,_,_,_,_,_,_,_,_,_,_,_,_,_,_,_,_,_,_,_,_,_,_,_,_,_,_,_,_,_,_,_,_,_,_,_,_,_,_,_,_,_,_,_,_,_,_,_,_,_,_,_,_,_,_,_,_,_,_]) rfl ?_
    refine swr_nil rfl ?_
    refine rl_det (met_some rfl rfl (not_f (decide_eq_true (by omega)))) (fun h_ H_ => exd_indexO o30 Try.underlying25 tS3 rfl rfl (by rw [(ns_length _ _)]; omega)) rfl ?_
    refine rl_det (met_some rfl rfl (not_f (decide_eq_true (by omega)))) (fun h_ H_ => exd_loadM (i := k) (j := 0) (e := [.int .i64 (ovr size start (wantOf ds) (listOf xs) k)]) o30 H_ (fun x_ h_ => by simp [h_]) tA3 rfl rfl (ns_at (by omega)) (u := .int .i64 (ovr size start (wantOf ds) (listOf xs) k)) rfl) rfl ?_
    refine rl_calld (met_some rfl rfl (not_f (decide_eq_true (by omega)))) (first := []) (cap := []) rfl rfl fC22 (fun h_ H_ => c22 md _ (ovr size start (wantOf ds) (listOf xs) k) (0) (80)) (tm' := [_,_,_,_,_,_,_,_,_,_,_,_,_,_,_,_,_,_,_,_,_,_,_,_,_,_,_,_,_,_,_,_,_,_,_,_,_,_,_,_,_,_,_,_,_,_,_,_,_,_,_,_,_,_,_,_,_,_,_,_,_,_,_,_,_,_,_,_,_,_,_,_,_,_,_,_,_,_,_,_,_,_,_,_,_,_,_,_]) rfl ?_
    refine rl_det (met_some rfl rfl (not_f (decide_eq_true (by omega)))) (fun h_ H_ => exd_not rfl) rfl ?_
    refine rl_det (met_none rfl) (fun h_ H_ => exd_pick_f rfl (not_f (decide_eq_true (by omega))) (v := .bool (!(decide (0 ≤ ovr size start (wantOf ds) (listOf xs) k ∧ ovr size start (wantOf ds) (listOf xs) k ≤ 80)))) rfl) rfl ?_
    refine rl_end ?_
    refine fl_else rfl (not_f (decide_eq_true (by omega))) ?_
    refine fl_skip ?_
    refine fl_inBlock ?_
    refine rl_start ?_
    refine rl_det (met_none rfl) (fun h_ H_ => exd_move (v := .int .i64 (((k : Nat) : Int))) rfl) (tm' := _::_::_::_::_::_::_::_::_::_::_::_::_::_::_::_::_::_::_::_::_::_::_::_::_::_::_::_::_::_::_::_::_::_::_::_::_::_::_::_::_::_::_::_::_::_::_::_::_::_::_::_::_) rfl ?_
    refine rl_det (met_none rfl) (fun h_ H_ => exd_add rfl rfl (n := ((k + 1 : Nat) : Int)) (wr (by omega))) rfl ?_
    refine rl_det (met_none rfl) (fun h_ H_ => exd_assign (v := .int .i64 (((k + 1 : Nat) : Int))) rfl) rfl ?_
    refine rl_end ?_
    exact fun h_ H_ => IH32 _ _ (by omega) h_ ⟨k + 1, rfl, (y_of rfl), (by omega), H_⟩
  · refine fl_else rfl (decide_eq_false cc33) ?_
    refine fl_exit rfl ?_
    refine fl_seq ?_
    refine rl_start ?_
    refine rl_det (met_none rfl) (fun h_ H_ => exd_move (v := w22) rfl) (tm' := [_,_,_,_,_,_,_,_,_,_,_,_,_,_,_,_,_,_,_,_,_,_,_,_,_,_,_,_,_,_,_,_,_,_,_,_,_,_,_,_,_,_,_,_,_,_,_,_,_,_,_,_,_,_,_,_,_,_,_,_,_,_,_,_,_,_,_,_,_,_,_,_,_,_,_,_,_,_,_,_,_,_,_,_,_,_,_,_]) rfl ?_
    refine rl_det (met_none rfl) (fun h_ H_ => exd_move (v := w23) rfl) rfl ?_
    refine rl_det (met_none rfl) (fun h_ H_ => exd_move (v := w24) rfl) rfl ?_
    obtain ⟨a34, c35, ev_, _⟩ := o28.val; have ev_ : w22 = .slice a34 n c35 := ev_.trans (congrArg (fun q_ => Value.slice a34 q_ c35) (ns_length _ _)); subst ev_
    obtain ⟨a36, c37, ev_, _⟩ := o29.val; have ev_ : w23 = .slice a36 n c37 := ev_.trans (congrArg (fun q_ => Value.slice a36 q_ c37) (ns_length _ _)); subst ev_
    obtain ⟨a38, c39, ev_, _⟩ := o30.val; have ev_ : w24 = .slice a38 n c39 := ev_.trans (congrArg (fun q_ => Value.slice a38 q_ c39) (ns_length _ _)); subst ev_
    refine rl_det (met_none rfl) (fun h_ H_ => exd_build tZ30 tP30 (vs := [(0, (.slice a34 n c35)), (1, (.slice a36 n c37)), (2, (.slice a38 n c39))]) rfl (cells := #[(.slice a34 n c35), (.slice a36 n c37), (.slice a38 n c39)]) rfl) (tm' := [_,_,_,_,_,_,_,_,_,_,_,_,_,_,_,_,_,_,_,_,_,_,_,_,_,_,_,_,_,_,_,_,_,_,_,_,_,_,_,_,_,_,_,_,_,_,_,_,_,_,_,_,_,_,_,_,_,_,_,_,_,_,_,_,_,_,_,_,_,_,_,_,_,_,_,_,_,_,_,_,_,_,_,_,_,_,_,_]) rfl ?_
    refine rl_store (met_none rfl) tS30 rfl (v := .agg #[(.slice a34 n c35), (.slice a36 n c37), (.slice a38 n c39)]) rfl (i := 0) rfl rfl (ones_cons o28.one.2 (ones_cons o29.one.2 (ones_cons o30.one.2 rfl))) (Nat.le_of_ble_eq_true rfl) (cs2 := [(.slice a34 n c35), (.slice a36 n c37), (.slice a38 n c39)]) rfl (rl_own (L' := ([(b2, .cells #[(.slice a34 n c35), (.slice a36 n c37), (.slice a38 n c39)] 30 (0, 0)), (b1, .cells #[.int .i64 (size), .int .i64 (start), .slice a n c] 24 (0, 0))] : Pcs) ++ (X25 ++ (X26 ++ (X27 ++ [])))) rfl ?_)
    refine rl_det (met_none rfl) (fun h_ H_ => exd_assign (v := .bool (true)) rfl) rfl ?_
    refine rl_end ?_
    refine fl_ret Try.func19 rfl (vs := [.agg #[(.slice a34 n c35), (.slice a36 n c37), (.slice a38 n c39)], .bool (true)]) (fun h_ H_ => ⟨.agg #[(.slice a34 n c35), (.slice a36 n c37), (.slice a38 n c39)], _, rfl, (wpS_bind (wpS_pure (wpS_loadVarN tA30 tS30 (vs := [(.slice a34 n c35), (.slice a36 n c37), (.slice a38 n c39)]) rfl (fun j_ v_ e_ => by rw [add_mk]; exact H_.ocell (i := 0) rfl (by simpa using e_)) ⟨rfl, rfl⟩))), ⟨.bool (true), _, rfl, rfl, rfl⟩⟩) (v := .tuple #[.agg #[(.slice a34 n c35), (.slice a36 n c37), (.slice a38 n c39)], .bool (true)]) rfl ?_
    exact fun h_ H_ => K _ _ ⟨_, _, _, _, _, _, rfl, o28, o29, o30, H_.dropA.new⟩
end Go.Proofs.Ytbmkacnlhlbnjaa
namespace Go.Proofs.Ytbmkacnlhlbnjaa
open Go.X Go.X.Cist Go.Conc
set_option maxRecDepth 10000

theorem c76 (md : Md) (h : Heap) (p : PHeap) (hp : Per p h) (size start : Int) (a : Option Addr) (n c : Nat) (ds : List Day) (D : Days p a n ds) (hn : n ≤ 40) (m e : Int) : CallsX Try.prog md 76 #[.agg #[.int .i64 (size), .int .i64 (start), .slice a n c], .int .i64 (m), .int .i64 (e)] h fun v h' => v = .tuple #[.int .i64 (if e = 3 then 8 else m), .bool (decide (e = 3 ∨ (e = 0 ∧ IsDay ds m)))] ∧ Keep h h' := by
  refine calls_intro (Φ := fun h_ => St h [] p h_ []) Try.func76 rfl (tm := [_, _, _, _, _, _, _, _, _, _, _, _, _, _, _, _, _, _]) rfl ?_ (St.start h _ hp)
  intro c₀ cs Stop K
  have hl := D.len
  refine fl_seq ?_
  refine rl_start ?_
  refine rl_box (met_none rfl) (v := .agg #[.int .i64 (size), .int .i64 (start), .slice a n c]) rfl fun b1 => rl_own (L' := [(b1, .cells #[.int .i64 (size), .int .i64 (start), .slice a n c] 24 (0, 0))]) rfl ?_
  refine rl_det (met_none rfl) (fun h_ H_ => exd_assign (v := .int .i64 0) rfl) rfl ?_
  refine rl_det (met_none rfl) (fun h_ H_ => exd_assign (v := .bool (false)) rfl) (tm' := _::_::_::_::_::_::_::_::_) rfl ?_
  refine rl_end ?_
  refine fl_seq ?_
  refine fl_seq ?_
  refine rl_start ?_
  refine rl_det (met_none rfl) (fun h_ H_ => exd_move (v := .int .i64 (e)) rfl) rfl ?_
  refine rl_det (met_none rfl) (fun h_ H_ => exd_eql rfl rfl) rfl ?_
  refine rl_end ?_
  by_cases cc2 : e = 3
  · refine fl_then rfl (decide_eq_true cc2) ?_
    refine fl_seq ?_
    refine rl_start ?_
    refine rl_det (met_none rfl) (fun h_ H_ => exd_assign (v := .int .i64 8) rfl) (tm' := _::_::_::_::_::_::_::_) rfl ?_
    refine rl_det (met_none rfl) (fun h_ H_ => exd_assign (v := .bool (true)) rfl) rfl ?_
    refine rl_end ?_
    refine fl_ret Try.func76 rfl (vs := [.int .i64 8, .bool (true)]) (fun h_ H_ => ⟨.int .i64 8, _, rfl, rfl, ⟨.bool (true), _, rfl, rfl, rfl⟩⟩) (v := .tuple #[.int .i64 8, .bool (true)]) rfl ?_
    exact fun h_ H_ => K _ _ ⟨by first | (subst e; simp) | simp [*], H_.kept⟩
  · refine fl_else rfl (decide_eq_false cc2) ?_
    refine fl_skip ?_
    refine fl_seq ?_
    refine rl_start ?_
    refine rl_det (met_none rfl) (fun h_ H_ => exd_move (v := .int .i64 (m)) rfl) rfl ?_
    refine rl_det (met_none rfl) (fun h_ H_ => exd_move (v := .int .i64 (e)) rfl) (tm' := _::_::_::_::_::_::_::_::_::_::_::_::_) rfl ?_
    refine rl_det (met_none rfl) (fun h_ H_ => exd_eql rfl rfl) rfl ?_
    refine rl_det (met_none rfl) (fun h_ H_ => exd_move (v := .bool (decide (e = 0))) rfl) rfl ?_
    by_cases cc3 : e = 0
    · refine rl_det (met_some rfl rfl (decide_eq_true cc3)) (fun h_ H_ => exd_loadN_own H_ tA24 tS24 rfl (i := 0) rfl (vs := [.int .i64 (size), .int .i64 (start), .slice a n c]) rfl rfl) (tm' := [_,_,_,_,_,_,_,_,_,_,_,_,_,_,_,_,_,_]) rfl ?_
      refine rl_det (met_some rfl rfl (decide_eq_true cc3)) (fun h_ H_ => exd_move (v := .int .i64 (m)) rfl) rfl ?_
      refine rl_calld (met_some rfl rfl (decide_eq_true cc3)) (first := []) (cap := []) rfl rfl fC26 (fun h_ H_ => c26 md _ _ (fun b_ o_ e_ => H_.per b_ o_ e_) (size) (start) _ _ _ _ D (by omega) m) rfl ?_
      refine rl_det (met_none rfl) (fun h_ H_ => exd_pick_t rfl (decide_eq_true cc3) (v := .bool (decide (IsDay ds m))) rfl) (tm' := [_,_,_,_,_,_,_,_,_,_,_,_,_,_,_,_,_,_]) rfl ?_
      refine rl_det (met_none rfl) (fun h_ H_ => exd_assign (v := .int .i64 (m)) rfl) rfl ?_
      refine rl_det (met_none rfl) (fun h_ H_ => exd_assign (v := .bool (decide (IsDay ds m))) rfl) rfl ?_
      refine rl_end ?_
      refine fl_ret Try.func76 rfl (vs := [.int .i64 (m), .bool (decide (IsDay ds m))]) (fun h_ H_ => ⟨.int .i64 (m), _, rfl, rfl, ⟨.bool (decide (IsDay ds m)), _, rfl, rfl, rfl⟩⟩) (v := .tuple #[.int .i64 (m), .bool (decide (IsDay ds m))]) rfl ?_
      exact fun h_ H_ => K _ _ ⟨by first | (subst e; simp) | simp [*], H_.kept⟩
    · refine rl_pass (met_not rfl rfl (decide_eq_false cc3)) (tm' := [_,_,_,_,_,_,_,_,_,_,_,_,_,_,_,_,_,_]) rfl ?_
      refine rl_pass (met_not rfl rfl (decide_eq_false cc3)) rfl ?_
      refine rl_pass (met_not rfl rfl (decide_eq_false cc3)) rfl ?_
      refine rl_det (met_none rfl) (fun h_ H_ => exd_pick_f rfl (decide_eq_false cc3) (v := .bool (false)) rfl) (tm' := [_,_,_,_,_,_,_,_,_,_,_,_,_,_,_,_,_,_]) rfl ?_
      refine rl_det (met_none rfl) (fun h_ H_ => exd_assign (v := .int .i64 (m)) rfl) rfl ?_
      refine rl_det (met_none rfl) (fun h_ H_ => exd_assign (v := .bool (false)) rfl) rfl ?_
      refine rl_end ?_
      refine fl_ret Try.func76 rfl (vs := [.int .i64 (m), .bool (false)]) (fun h_ H_ => ⟨.int .i64 (m), _, rfl, rfl, ⟨.bool (false), _, rfl, rfl, rfl⟩⟩) (v := .tuple #[.int .i64 (m), .bool (false)]) rfl ?_
      exact fun h_ H_ => K _ _ ⟨by first | (subst e; simp) | simp [*], H_.kept⟩
theorem c38 (h : Heap) (p : PHeap) (hp : Per p h) (size start : Int) (a : Option Addr) (n c : Nat) (ds : List Day) (D : Days p a n ds) (hn : n ≤ 40) (hOk : Ok size start ds) : CallsX Try.prog (.main true) 38 #[.agg #[.int .i64 (size), .int .i64 (start), .slice a n c]] h fun v h' => v = .tuple #[.int .i64 (dayOr (dryR size start ds)), .int .i64 (dayOr (mustR size start ds)), .bool true] ∧ Keep h h' := by
  refine calls_intro (Φ := fun h_ => St h [] p h_ []) Try.func38 rfl (tm := [_, _, _, _, _, _, _, _, _, _, _, _, _, _, _, _, _, _, _, _, _, _, _, _, _, _, _, _, _, _, _, _, _, _, _, _, _, _, _, _, _, _, _, _, _]) rfl ?_ (St.start h _ hp)
  intro c₀ cs Stop K
  have hl := D.len
  have hd1 : (dryR size start ds).2 = 3 ∨ ((dryR size start ds).2 = 0 ∧ IsDay ds (dryR size start ds).1) := day_or hOk
  have hm1 : (mustR size start ds).2 = 3 ∨ ((mustR size start ds).2 = 0 ∧ IsDay ds (mustR size start ds).1) := must_or hOk
  refine fl_seq ?_
  refine rl_start ?_
  refine rl_box (met_none rfl) (v := .agg #[.int .i64 (size), .int .i64 (start), .slice a n c]) rfl fun b1 => rl_own (L' := [(b1, .cells #[.int .i64 (size), .int .i64 (start), .slice a n c] 24 (0, 0))]) rfl ?_
  refine rl_norm (tm' := _::_::_) rfl ?_
  refine rl_det (met_none rfl) (fun h_ H_ => exd_assign (v := .int .i64 0) rfl) rfl ?_
  refine rl_det (met_none rfl) (fun h_ H_ => exd_assign (v := .int .i64 0) rfl) rfl ?_
  refine rl_det (met_none rfl) (fun h_ H_ => exd_assign (v := .bool (false)) rfl) (tm' := _::_::_::_::_::_) rfl ?_
  refine rl_end ?_
  refine fl_seq ?_
  refine rl_start ?_
  refine rl_det (met_none rfl) (fun h_ H_ => exd_loadN_own H_ tA24 tS24 rfl (i := 0) rfl (vs := [.int .i64 (size), .int .i64 (start), .slice a n c]) rfl rfl) rfl ?_
  refine rl_calld (met_none rfl) (first := []) (cap := []) rfl rfl fC55 (fun h_ H_ => c55 _ _ (fun b_ o_ e_ => H_.per b_ o_ e_) (size) (start) _ _ _ _ D (by omega)) rfl ?_
  refine rl_det (met_none rfl) (fun h_ H_ => exd_move (v := .tuple #[.int .i64 ((dryR size start ds).1), .int .i64 ((dryR size start ds).2)]) rfl) (tm' := _::_::_::_::_::_::_::_::_::_::_::_) rfl ?_
  refine rl_det (met_none rfl) (fun h_ H_ => exd_extract rfl (v := .int .i64 ((dryR size start ds).1)) rfl) rfl ?_
  refine rl_det (met_none rfl) (fun h_ H_ => exd_extract rfl (v := .int .i64 ((dryR size start ds).2)) rfl) rfl ?_
  refine rl_det (met_none rfl) (fun h_ H_ => exd_assign (v := .int .i64 ((dryR size start ds).1)) rfl) (tm' := _::_::_::_::_::_::_) rfl ?_
  refine rl_det (met_none rfl) (fun h_ H_ => exd_assign (v := .int .i64 ((dryR size start ds).2)) rfl) rfl ?_
  refine rl_end ?_
  refine fl_seq ?_
  refine rl_start ?_
  refine rl_det (met_none rfl) (fun h_ H_ => exd_loadN_own H_ tA24 tS24 rfl (i := 0) rfl (vs := [.int .i64 (size), .int .i64 (start), .slice a n c]) rfl rfl) rfl ?_
  refine rl_calld (met_none rfl) (first := []) (cap := []) rfl rfl fC57 (fun h_ H_ => c57 _ _ (fun b_ o_ e_ => H_.per b_ o_ e_) (size) (start) _ _ _ _ D (by omega)) (tm' := _::_::_::_::_::_::_::_::_::_::_::_::_::_::_::_::_::_::_) rfl ?_
  refine rl_det (met_none rfl) (fun h_ H_ => exd_move (v := .tuple #[.int .i64 ((mustR size start ds).1), .int .i64 ((mustR size start ds).2)]) rfl) rfl ?_
  refine rl_det (met_none rfl) (fun h_ H_ => exd_extract rfl (v := .int .i64 ((mustR size start ds).1)) rfl) rfl ?_
  refine rl_det (met_none rfl) (fun h_ H_ => exd_extract rfl (v := .int .i64 ((mustR size start ds).2)) rfl) (tm' := _::_::_::_::_::_::_::_::_::_::_::_::_::_::_::_::_::_::_::_::_) rfl ?_
  refine rl_det (met_none rfl) (fun h_ H_ => exd_assign (v := .int .i64 ((mustR size start ds).1)) rfl) rfl ?_
  refine rl_det (met_none rfl) (fun h_ H_ => exd_assign (v := .int .i64 ((mustR size start ds).2)) rfl) rfl ?_
  refine rl_end ?_
  refine fl_seq ?_
  refine rl_start ?_
  refine rl_det (met_none rfl) (fun h_ H_ => exd_loadN_own H_ tA24 tS24 rfl (i := 0) rfl (vs := [.int .i64 (size), .int .i64 (start), .slice a n c]) rfl rfl) (tm' := _::_::_::_::_::_::_::_::_::_::_::_::_::_::_::_::_::_::_::_::_::_::_) rfl ?_
  refine rl_det (met_none rfl) (fun h_ H_ => exd_move (v := .int .i64 ((dryR size start ds).1)) rfl) rfl ?_
  refine rl_det (met_none rfl) (fun h_ H_ => exd_move (v := .int .i64 ((dryR size start ds).2)) rfl) rfl ?_
  refine rl_calld (met_none rfl) (first := []) (cap := []) rfl rfl fC76 (fun h_ H_ => c76 (.main true) _ _ (fun b_ o_ e_ => H_.per b_ o_ e_) (size) (start) _ _ _ _ D (by omega) ((dryR size start ds).1) ((dryR size start ds).2)) (tm' := _::_::_::_::_::_::_::_::_::_::_::_::_::_::_::_::_::_::_::_::_::_::_::_::_::_) rfl ?_
  refine rl_det (met_none rfl) (fun h_ H_ => exd_move (v := .tuple #[.int .i64 ((if (dryR size start ds).2 = 3 then 8 else (dryR size start ds).1)), .bool (decide ((dryR size start ds).2 = 3 ∨ ((dryR size start ds).2 = 0 ∧ IsDay ds ((dryR size start ds).1))))]) rfl) rfl ?_
  refine rl_det (met_none rfl) (fun h_ H_ => exd_extract rfl (v := .int .i64 ((if (dryR size start ds).2 = 3 then 8 else (dryR size start ds).1))) rfl) rfl ?_
  refine rl_det (met_none rfl) (fun h_ H_ => exd_extract rfl (v := .bool (decide ((dryR size start ds).2 = 3 ∨ ((dryR size start ds).2 = 0 ∧ IsDay ds ((dryR size start ds).1))))) rfl) (tm' := _::_::_::_::_::_::_::_::_::_::_::_::_::_::_::_::_::_::_::_::_::_::_::_::_::_::_::_) rfl ?_
  refine rl_det (met_none rfl) (fun h_ H_ => exd_assign (v := .int .i64 ((if (dryR size start ds).2 = 3 then 8 else (dryR size start ds).1))) rfl) rfl ?_
  refine rl_det (met_none rfl) (fun h_ H_ => exd_assign (v := .bool (decide ((dryR size start ds).2 = 3 ∨ ((dryR size start ds).2 = 0 ∧ IsDay ds ((dryR size start ds).1))))) rfl) rfl ?_
  refine rl_end ?_
  refine fl_seq ?_
  refine rl_start ?_
  refine rl_det (met_none rfl) (fun h_ H_ => exd_loadN_own H_ tA24 tS24 rfl (i := 0) rfl (vs := [.int .i64 (size), .int .i64 (start), .slice a n c]) rfl rfl) (tm' := _::_::_::_::_::_::_::_::_::_::_::_::_::_::_::_::_::_::_::_::_::_::_::_::_::_::_::_::_::_) rfl ?_
  refine rl_det (met_none rfl) (fun h_ H_ => exd_move (v := .int .i64 ((mustR size start ds).1)) rfl) rfl ?_
  refine rl_det (met_none rfl) (fun h_ H_ => exd_move (v := .int .i64 ((mustR size start ds).2)) rfl) rfl ?_
  refine rl_calld (met_none rfl) (first := []) (cap := []) rfl rfl fC76 (fun h_ H_ => c76 (.main true) _ _ (fun b_ o_ e_ => H_.per b_ o_ e_) (size) (start) _ _ _ _ D (by omega) ((mustR size start ds).1) ((mustR size start ds).2)) (tm' := [_,_,_,_,_,_,_,_,_,_,_,_,_,_,_,_,_,_,_,_,_,_,_,_,_,_,_,_,_,_,_,_,_,_,_,_,_,_,_,_,_,_,_,_,_]) rfl ?_
  refine rl_det (met_none rfl) (fun h_ H_ => exd_move (v := .tuple #[.int .i64 ((if (mustR size start ds).2 = 3 then 8 else (mustR size start ds).1)), .bool (decide ((mustR size start ds).2 = 3 ∨ ((mustR size start ds).2 = 0 ∧ IsDay ds ((mustR size start ds).1))))]) rfl) rfl ?_
  refine rl_det (met_none rfl) (fun h_ H_ => exd_extract rfl (v := .int .i64 ((if (mustR size start ds).2 = 3 then 8 else (mustR size start ds).1))) rfl) rfl ?_
  refine rl_det (met_none rfl) (fun h_ H_ => exd_extract rfl (v := .bool (decide ((mustR size start ds).2 = 3 ∨ ((mustR size start ds).2 = 0 ∧ IsDay ds ((mustR size start ds).1))))) rfl) (tm' := [_,_,_,_,_,_,_,_,_,_,_,_,_,_,_,_,_,_,_,_,_,_,_,_,_,_,_,_,_,_,_,_,_,_,_,_,_,_,_,_,_,_,_,_,_]) rfl ?_
  refine rl_det (met_none rfl) (fun h_ H_ => exd_assign (v := .int .i64 ((if (mustR size start ds).2 = 3 then 8 else (mustR size start ds).1))) rfl) rfl ?_
  refine rl_det (met_none rfl) (fun h_ H_ => exd_assign (v := .bool (decide ((mustR size start ds).2 = 3 ∨ ((mustR size start ds).2 = 0 ∧ IsDay ds ((mustR size start ds).1))))) rfl) rfl ?_
  refine rl_end ?_
  refine fl_seq ?_
  refine rl_start ?_
  refine rl_det (met_none rfl) (fun h_ H_ => exd_move (v := .int .i64 ((if (dryR size start ds).2 = 3 then 8 else (dryR size start ds).1))) rfl) (tm' := [_,_,_,_,_,_,_,_,_,_,_,_,_,_,_,_,_,_,_,_,_,_,_,_,_,_,_,_,_,_,_,_,_,_,_,_,_,_,_,_,_,_,_,_,_]) rfl ?_
  refine rl_det (met_none rfl) (fun h_ H_ => exd_move (v := .int .i64 ((if (mustR size start ds).2 = 3 then 8 else (mustR size start ds).1))) rfl) rfl ?_
  refine rl_det (met_none rfl) (fun h_ H_ => exd_move (v := .bool (decide ((dryR size start ds).2 = 3 ∨ ((dryR size start ds).2 = 0 ∧ IsDay ds ((dryR size start ds).1))))) rfl) rfl ?_
  refine rl_det (met_none rfl) (fun h_ H_ => exd_move (v := .bool (decide ((dryR size start ds).2 = 3 ∨ ((dryR size start ds).2 = 0 ∧ IsDay ds ((dryR size start ds).1))))) rfl) (tm' := [_,_,_,_,_,_,_,_,_,_,_,_,_,_,_,_,_,_,_,_,_,_,_,_,_,_,_,_,_,_,_,_,_,_,_,_,_,_,_,_,_,_,_,_,_]) rfl ?_
  refine rl_det (met_some rfl rfl (decide_eq_true hd1)) (fun h_ H_ => exd_move (v := .bool (decide ((mustR size start ds).2 = 3 ∨ ((mustR size start ds).2 = 0 ∧ IsDay ds ((mustR size start ds).1))))) rfl) rfl ?_
  refine rl_det (met_none rfl) (fun h_ H_ => exd_pick_t rfl (decide_eq_true hd1) (v := .bool (decide ((mustR size start ds).2 = 3 ∨ ((mustR size start ds).2 = 0 ∧ IsDay ds ((mustR size start ds).1))))) rfl) rfl ?_
  refine rl_det (met_none rfl) (fun h_ H_ => exd_move (v := .bool (decide ((mustR size start ds).2 = 3 ∨ ((mustR size start ds).2 = 0 ∧ IsDay ds ((mustR size start ds).1))))) rfl) (tm' := [_,_,_,_,_,_,_,_,_,_,_,_,_,_,_,_,_,_,_,_,_,_,_,_,_,_,_,_,_,_,_,_,_,_,_,_,_,_,_,_,_,_,_,_,_]) rfl ?_
  refine rl_det (met_some rfl rfl (decide_eq_true hm1)) (fun h_ H_ => exd_move (v := .int .i64 ((if (dryR size start ds).2 = 3 then 8 else (dryR size start ds).1))) rfl) rfl ?_
  refine rl_det (met_some rfl rfl (decide_eq_true hm1)) (fun h_ H_ => exd_move (v := .int .i64 ((if (mustR size start ds).2 = 3 then 8 else (mustR size start ds).1))) rfl) rfl ?_
  refine rl_det (met_some rfl rfl (decide_eq_true hm1)) (fun h_ H_ => exd_leq rfl rfl) (tm' := [_,_,_,_,_,_,_,_,_,_,_,_,_,_,_,_,_,_,_,_,_,_,_,_,_,_,_,_,_,_,_,_,_,_,_,_,_,_,_,_,_,_,_,_,_]) rfl ?_
  refine rl_det (met_none rfl) (fun h_ H_ => exd_pick_t rfl (decide_eq_true hm1) (v := .bool (decide ((if (dryR size start ds).2 = 3 then 8 else (dryR size start ds).1) ≤ (if (mustR size start ds).2 = 3 then 8 else (mustR size start ds).1)))) rfl) rfl ?_
  refine rl_det (met_none rfl) (fun h_ H_ => exd_assign (v := .int .i64 ((if (dryR size start ds).2 = 3 then 8 else (dryR size start ds).1))) rfl) rfl ?_
  refine rl_det (met_none rfl) (fun h_ H_ => exd_assign (v := .int .i64 ((if (mustR size start ds).2 = 3 then 8 else (mustR size start ds).1))) rfl) (tm' := _::_::_::_::_) rfl ?_
  refine rl_det (met_none rfl) (fun h_ H_ => exd_assign (v := .bool (decide ((if (dryR size start ds).2 = 3 then 8 else (dryR size start ds).1) ≤ (if (mustR size start ds).2 = 3 then 8 else (mustR size start ds).1)))) rfl) rfl ?_
  refine rl_end ?_
  refine fl_ret Try.func38 rfl (vs := [.int .i64 ((if (dryR size start ds).2 = 3 then 8 else (dryR size start ds).1)), .int .i64 ((if (mustR size start ds).2 = 3 then 8 else (mustR size start ds).1)), .bool (decide ((if (dryR size start ds).2 = 3 then 8 else (dryR size start ds).1) ≤ (if (mustR size start ds).2 = 3 then 8 else (mustR size start ds).1)))]) (fun h_ H_ => ⟨.int .i64 ((if (dryR size start ds).2 = 3 then 8 else (dryR size start ds).1)), _, rfl, rfl, ⟨.int .i64 ((if (mustR size start ds).2 = 3 then 8 else (mustR size start ds).1)), _, rfl, rfl, ⟨.bool (decide ((if (dryR size start ds).2 = 3 then 8 else (dryR size start ds).1) ≤ (if (mustR size start ds).2 = 3 then 8 else (mustR size start ds).1))), _, rfl, rfl, rfl⟩⟩⟩) (v := .tuple #[.int .i64 ((if (dryR size start ds).2 = 3 then 8 else (dryR size start ds).1)), .int .i64 ((if (mustR size start ds).2 = 3 then 8 else (mustR size start ds).1)), .bool (decide ((if (dryR size start ds).2 = 3 then 8 else (dryR size start ds).1) ≤ (if (mustR size start ds).2 = 3 then 8 else (mustR size start ds).1)))]) rfl ?_
  exact fun h_ H_ => K _ _ ⟨by have h_ := days_le hOk; unfold dayOr at h_ ⊢; rw [decide_eq_true h_], H_.kept⟩
end Go.Proofs.Ytbmkacnlhlbnjaa
namespace Go.Proofs.Ytbmkacnlhlbnjaa
open Go.X Go.X.Cist Go.Conc

theorem dry_at {size start : Int} {ds : List Day} {i : Nat} (h : i < ds.length) : (dryOf size start ds).getD i dz = sideDay size (min start size) (wantOf ds) (loOf ds) i := by unfold dryOf; rw [side_getD h]
theorem wet_at {size start : Int} {ds : List Day} {i : Nat} (h : i < ds.length) : (wetOf size start ds).getD i dz = sideDay size (min start size) (wantOf ds) (hiOf ds) i := by unfold wetOf; rw [side_getD h]
/-- Between what the level, the lack, the sum of what ran over of a day is. -/
def levLo (size start : Int) (ds : List Day) (k : Nat) : Int := lev size (min start size) (wantOf ds) (loOf ds) (k + 1)
def levHi (size start : Int) (ds : List Day) (k : Nat) : Int := lev size (min start size) (wantOf ds) (hiOf ds) (k + 1)
def lackLo (size start : Int) (ds : List Day) (k : Nat) : Int := lack size (min start size) (wantOf ds) (hiOf ds) k
def lackHi (size start : Int) (ds : List Day) (k : Nat) : Int := lack size (min start size) (wantOf ds) (loOf ds) k
def overLo (size start : Int) (ds : List Day) (k : Nat) : Int := sumTo (ovr size (min start size) (wantOf ds) (loOf ds)) (k + 1)
def overHi (size start : Int) (ds : List Day) (k : Nat) : Int := sumTo (ovr size (min start size) (wantOf ds) (hiOf ds)) (k + 1)

section
variable {h : Heap} {p : PHeap} {size start : Int} {a : Option Addr} {n c : Nat} {ds : List Day}
theorem level_ok (hOk : Ok size start ds) {day : Int} (hday : IsDay ds day) : levelR size start ds day = ((levLo size start ds day.toNat, levHi size start ds day.toNat), 0) := by
  unfold levelR
  rw [if_pos (askd_ok hOk (decide_eq_true hday)), dry_at (by have := hday.1; have := hday.2; omega), wet_at (by have := hday.1; have := hday.2; omega)]; rfl
theorem lack_ok (hOk : Ok size start ds) {day : Int} (hday : IsDay ds day) : lackR size start ds day = ((lackLo size start ds day.toNat, lackHi size start ds day.toNat), 0) := by
  unfold lackR
  rw [if_pos (askd_ok hOk (decide_eq_true hday)), dry_at (by have := hday.1; have := hday.2; omega), wet_at (by have := hday.1; have := hday.2; omega)]; rfl
theorem over_ok (hOk : Ok size start ds) {day : Int} (hday : IsDay ds day) : overR size start ds day = ((overLo size start ds day.toNat, overHi size start ds day.toNat), 0) := by
  unfold overR
  rw [if_pos (askd_ok hOk (decide_eq_true hday)), dry_at (by have := hday.1; have := hday.2; omega), wet_at (by have := hday.1; have := hday.2; omega)]; rfl
theorem c28ok (hp : Per p h) (D : Days p a n ds) (hn : n ≤ 40) (hOk : Ok size start ds) {day : Int} (hday : IsDay ds day) : CallsX Try.prog (.main true) 28 #[.agg #[.int .i64 size, .int .i64 start, .slice a n c], .int .i64 day] h fun v h' => v = .tuple #[.agg #[.int .i64 (levLo size start ds day.toNat), .int .i64 (levHi size start ds day.toNat)], .int .i64 0] ∧ Keep h h' :=
  (c28 h p hp size start a n c ds D hn day).mono fun v h' x => ⟨by rw [x.1, level_ok hOk hday], x.2⟩
theorem c41ok (hp : Per p h) (D : Days p a n ds) (hn : n ≤ 40) (hOk : Ok size start ds) {day : Int} (hday : IsDay ds day) : CallsX Try.prog (.main true) 41 #[.agg #[.int .i64 size, .int .i64 start, .slice a n c], .int .i64 day] h fun v h' => v = .tuple #[.agg #[.int .i64 (lackLo size start ds day.toNat), .int .i64 (lackHi size start ds day.toNat)], .int .i64 0] ∧ Keep h h' :=
  (c41 h p hp size start a n c ds D hn day).mono fun v h' x => ⟨by rw [x.1, lack_ok hOk hday], x.2⟩
theorem c43ok (hp : Per p h) (D : Days p a n ds) (hn : n ≤ 40) (hOk : Ok size start ds) {day : Int} (hday : IsDay ds day) : CallsX Try.prog (.main true) 43 #[.agg #[.int .i64 size, .int .i64 start, .slice a n c], .int .i64 day] h fun v h' => v = .tuple #[.agg #[.int .i64 (overLo size start ds day.toNat), .int .i64 (overHi size start ds day.toNat)], .int .i64 0] ∧ Keep h h' :=
  (c43 h p hp size start a n c ds D hn day).mono fun v h' x => ⟨by rw [x.1, over_ok hOk hday], x.2⟩
end
end Go.Proofs.Ytbmkacnlhlbnjaa
namespace Go.X.Cist
open Go.X Go.Proofs.Ytbmkacnlhlbnjaa

section
variable {size start : Int} {ds ds' : List Day} {xs : List Int} {n : Nat}

theorem start_min (hOk : Ok size start ds) : min start size = start := by have := hOk.2.2.2.1; omega
theorem weather_lo (hW : Weather ds xs) : ∀ i, i < ds.length → loOf ds i ≤ listOf xs i := fun i hi => (hW.2 i (by rw [hW.1]; exact hi)).1
theorem weather_hi (hW : Weather ds xs) : ∀ i, i < ds.length → listOf xs i ≤ hiOf ds i := fun i hi => (hW.2 i (by rw [hW.1]; exact hi)).2
theorem sum_more {want r r' : Nat → Int} {m : Nat} (h : ∀ i, i < m → r i ≤ r' i) {k : Nat} (hk : k ≤ m) : sumTo (ovr size start want r) k ≤ sumTo (ovr size start want r') k :=
  sumTo_le fun i hi => more_ovr h i (by omega)

/-! ### each weather -/
theorem each_day (hOk : Ok size start ds) (hW : Weather ds xs) (hl : ds.length = n) {j : Nat} (hj : j < n) :
    (levLo size start ds (((j : Nat) : Int)).toNat ≤ (nums (levs size start (wantOf ds) (listOf xs)) n).getD j 0 ∧ (nums (levs size start (wantOf ds) (listOf xs)) n).getD j 0 ≤ levHi size start ds (((j : Nat) : Int)).toNat) ∧
    (lackLo size start ds (((j : Nat) : Int)).toNat ≤ (nums (lack size start (wantOf ds) (listOf xs)) n).getD j 0 ∧ (nums (lack size start (wantOf ds) (listOf xs)) n).getD j 0 ≤ lackHi size start ds (((j : Nat) : Int)).toNat) ∧
    (overLo size start ds (((j : Nat) : Int)).toNat ≤ sumTo (listOf (nums (ovr size start (wantOf ds) (listOf xs)) n)) (min n (((j : Nat) : Int) + 1).toNat) ∧ sumTo (listOf (nums (ovr size start (wantOf ds) (listOf xs)) n)) (min n (((j : Nat) : Int) + 1).toNat) ≤ overHi size start ds (((j : Nat) : Int)).toNat) ∧
    (((j : Nat) : Int) < dayOr (dryR size start ds) → (nums (lack size start (wantOf ds) (listOf xs)) n).getD j 0 ≤ 0) ∧
    (((j : Nat) : Int) = dayOr (mustR size start ds) → 0 < (nums (lack size start (wantOf ds) (listOf xs)) n).getD j 0) ∧
    (((j : Nat) : Int) = dayOr (dryR size start ds) → 0 < lackHi size start ds (((j : Nat) : Int)).toNat) := by
  subst hl
  rw [nums_getD hj, nums_getD hj, sum_at hj, Int.toNat_natCast]
  have hm := start_min hOk
  have hn := hOk.2.2.2.2.1
  have h1 := weather_lo hW
  have h2 := weather_hi hW
  have a1 := more_lack (size := size) (start := start) (want := wantOf ds) h1 j hj
  have a2 := more_lack (size := size) (start := start) (want := wantOf ds) h2 j hj
  unfold levLo levHi lackLo lackHi overLo overHi
  rw [hm]
  refine ⟨⟨more_lev h1 (j + 1) hj, more_lev h2 (j + 1) hj⟩, ⟨a2, a1⟩, ⟨sum_more h1 hj, sum_more h2 hj⟩, fun e => ?_, fun e => ?_, fun e => ?_⟩
  · have hd := dry_spec hOk
    rw [hm] at hd
    unfold dayOr at e
    rcases hd with ⟨q, h⟩ | ⟨k, hk, q, _, h⟩ <;> rw [q] at e
    · have := h j hj
      rw [hm] at this
      omega
    · simp at e
      have := h j e
      omega
  · have hd := must_spec hOk
    rw [hm] at hd
    unfold dayOr at e
    rcases hd with ⟨q, h⟩ | ⟨k, hk, q, h, _⟩ <;> rw [q] at e
    · simp at e; omega
    · simp at e; have e : j = k := by omega
      subst e; omega
  · have hd := dry_spec hOk
    rw [hm] at hd
    unfold dayOr at e
    rcases hd with ⟨q, h⟩ | ⟨k, hk, q, h, _⟩ <;> rw [q] at e
    · simp at e; omega
    · simp at e; have e : j = k := by omega
      subst e; exact h

theorem overGe_dry (hOk : Ok size start ds) {m : Int} {i : Nat} (h : i < ds.length) : overGe m ((dryOf size start ds).getD i dz) = decide (m ≤ sumTo (ovr size start (wantOf ds) (loOf ds)) (i + 1)) := by
  rw [dry_at h, start_min hOk]; rfl
theorem overGe_wet (hOk : Ok size start ds) {m : Int} {i : Nat} (h : i < ds.length) : overGe m ((wetOf size start ds).getD i dz) = decide (m ≤ sumTo (ovr size start (wantOf ds) (hiOf ds)) (i + 1)) := by
  rw [wet_at h, start_min hOk]; rfl
theorem right_none {m : Int} (hOk : Ok size start ds) (h : ¬ (1 ≤ m ∧ m ≤ 999)) : rightR size start ds m = ((0, 0), 1) := by
  have e : askd size start ds (decide (1 ≤ m ∧ m ≤ 999)) = 1 := askd_arg hOk (decide_eq_false h)
  unfold rightR
  rw [e, if_neg (by decide)]
theorem right_spec {m : Int} (hOk : Ok size start ds) (h : 1 ≤ m ∧ m ≤ 999) : rightR size start ds m = ((0, 0), 3) ∧ (∀ i, i < ds.length → sumTo (ovr size start (wantOf ds) (loOf ds)) (i + 1) < m) ∨
    ∃ a b : Nat, rightR size start ds m = ((((a : Nat) : Int), ((b : Nat) : Int)), 0) ∧ a ≤ b ∧ b < ds.length ∧
      (m ≤ sumTo (ovr size start (wantOf ds) (hiOf ds)) (a + 1) ∧ ∀ i, i < a → sumTo (ovr size start (wantOf ds) (hiOf ds)) (i + 1) < m) ∧ (m ≤ sumTo (ovr size start (wantOf ds) (loOf ds)) (b + 1) ∧ ∀ i, i < b → sumTo (ovr size start (wantOf ds) (loOf ds)) (i + 1) < m) := by
  have e : askd size start ds (decide (1 ≤ m ∧ m ≤ 999)) = 0 := askd_ok hOk (decide_eq_true h)
  have hlh := lo_hi hOk
  unfold rightR
  rw [e, if_pos rfl]
  rcases idxF_cases (overGe m) (dryOf size start ds) with ⟨q, h1⟩ | ⟨b, hb, q, h1, h2⟩
  · rw [if_pos (by omega)]
    refine .inl ⟨rfl, fun i hi => ?_⟩
    have := h1 i (by rw [dryOf_length]; exact hi)
    rw [overGe_dry hOk hi] at this
    have := of_decide_eq_false this
    omega
  · rw [dryOf_length] at hb
    rw [if_neg (by omega)]
    rw [overGe_dry hOk hb] at h1
    have h1 := of_decide_eq_true h1
    have hbm := sum_more (size := size) (start := start) (want := wantOf ds) hlh (k := b + 1) hb
    rcases idxF_cases (overGe m) (wetOf size start ds) with ⟨q', h1'⟩ | ⟨a, ha, q', h1', h2'⟩
    · have := h1' b (by rw [wetOf_length]; exact hb)
      rw [overGe_wet hOk hb] at this
      have := of_decide_eq_false this
      omega
    · rw [wetOf_length] at ha
      rw [overGe_wet hOk ha] at h1'
      have h1' := of_decide_eq_true h1'
      refine .inr ⟨a, b, by rw [q, q'], Nat.not_lt.1 fun hlt => ?_, hb, ⟨h1', fun i hi => ?_⟩, h1, fun i hi => ?_⟩
      · have := h2' b hlt
        rw [overGe_wet hOk hb] at this
        have := of_decide_eq_false this
        omega
      · have := h2' i hi
        rw [overGe_wet hOk (by omega)] at this
        have := of_decide_eq_false this
        omega
      · have := h2 i hi
        rw [overGe_dry hOk (by omega)] at this
        have := of_decide_eq_false this
        omega
/-- all that the law of each weather asks of Right -/
theorem each_right {m : Int} (hOk : Ok size start ds) (hW : Weather ds xs) (hl : ds.length = n) (h : 1 ≤ m ∧ m ≤ 999) : (rightR size start ds m).2 = 3 ∨ ((rightR size start ds m).2 = 0 ∧ IsDay ds (rightR size start ds m).1.1 ∧ IsDay ds (rightR size start ds m).1.2 ∧
    (rightR size start ds m).1.1 ≤ (rightR size start ds m).1.2 ∧ sumTo (listOf (nums (ovr size start (wantOf ds) (listOf xs)) n)) (min n ((rightR size start ds m).1.1 - 1 + 1).toNat) < m ∧
    m ≤ sumTo (listOf (nums (ovr size start (wantOf ds) (listOf xs)) n)) (min n ((rightR size start ds m).1.2 + 1).toNat)) := by
  subst hl
  rcases right_spec hOk h with ⟨e, _⟩ | ⟨a, b, e, hab, hb, ⟨ha1, ha2⟩, hb1, hb2⟩ <;> rw [e]
  · exact .inl rfl
  · refine .inr ⟨rfl, ⟨by show (0 : Int) ≤ (a : Nat); omega, by show ((a : Nat) : Int) < _; omega⟩, ⟨by show (0 : Int) ≤ (b : Nat); omega, by show ((b : Nat) : Int) < _; omega⟩, by show ((a : Nat) : Int) ≤ (b : Nat); omega, ?_, ?_⟩
    · show sumTo (listOf (nums (ovr size start (wantOf ds) (listOf xs)) ds.length)) (min ds.length (((a : Nat) : Int) - 1 + 1).toNat) < m
      rw [show min ds.length (((a : Nat) : Int) - 1 + 1).toNat = a from by omega, sum_nums (by omega)]
      match a, ha2 with
      | 0, _ => show (0 : Int) < m; omega
      | a + 1, ha2 =>
        have := sum_more (size := size) (start := start) (want := wantOf ds) (weather_hi hW) (k := a + 1) (by omega)
        have := ha2 a (by omega)
        omega
    · show m ≤ sumTo (listOf (nums (ovr size start (wantOf ds) (listOf xs)) ds.length)) (min ds.length (((b : Nat) : Int) + 1).toNat)
      rw [show min ds.length (((b : Nat) : Int) + 1).toNat = b + 1 from by omega, sum_nums (by omega)]
      have := sum_more (size := size) (start := start) (want := wantOf ds) (weather_lo hW) (k := b + 1) (by omega)
      omega

/-! ### two parts -/
theorem lev_shift {want rain : Nat → Int} {c : Nat} : ∀ k, lev size start want rain (c + k) = lev size (lev size start want rain c) (fun i => want (c + i)) (fun i => rain (c + i)) k
  | 0 => rfl
  | k + 1 => by
    have h := lev_shift (want := want) (rain := rain) (c := c) k
    show lev size start want rain (c + k + 1) = _
    simp only [lev]
    rw [h]
theorem lack_congr {want want' rain rain' : Nat → Int} {k : Nat} (hw : ∀ i, i ≤ k → want i = want' i) (hr : ∀ i, i ≤ k → rain i = rain' i) : lack size start want rain k = lack size start want' rain' k := by
  have h := lev_congr (size := size) (start := start) k (fun i hi => hw i (by omega)) fun i hi => hr i (by omega)
  unfold lack ovr
  rw [h, hw k (Nat.le_refl _), hr k (Nat.le_refl _)]
theorem ovr_congr {want want' rain rain' : Nat → Int} {k : Nat} (hw : ∀ i, i ≤ k → want i = want' i) (hr : ∀ i, i ≤ k → rain i = rain' i) : ovr size start want rain k = ovr size start want' rain' k := by
  have h := lev_congr (size := size) (start := start) k (fun i hi => hw i (by omega)) fun i hi => hr i (by omega)
  unfold ovr
  rw [h, hr k (Nat.le_refl _)]
theorem nums_parts {f g h : Nat → Int} {c : Nat} (hc : c ≤ n) (h1 : ∀ i, i < c → f i = g i) (h2 : ∀ i, i < n - c → f (c + i) = h i) : nums f n = nums g c ++ nums h (n - c) := by
  refine List.ext_getElem (by simp [nums_length]; omega) fun i a b => ?_
  rw [nums_length] at a
  by_cases e : i < c
  · rw [List.getElem_append_left (by rw [nums_length]; exact e)]
    simpa [nums] using h1 i e
  · rw [List.getElem_append_right (by rw [nums_length]; omega)]
    have := h2 (i - c) (by omega)
    rw [show c + (i - c) = i from by omega] at this
    simpa [nums] using this
theorem want_take {c i : Nat} (h : i < c) : wantOf (ds.take c) i = wantOf ds i := by unfold wantOf; rw [List.getD_eq_getElem?_getD, List.getElem?_take, if_pos h, ← List.getD_eq_getElem?_getD]
theorem want_drop {c : Nat} : wantOf (ds.drop c) = fun i => wantOf ds (c + i) := by funext i; unfold wantOf; rw [List.getD_eq_getElem?_getD, List.getElem?_drop, ← List.getD_eq_getElem?_getD]
theorem list_take {c i : Nat} (h : i < c) : listOf (xs.take c) i = listOf xs i := by unfold listOf; rw [List.getD_eq_getElem?_getD, List.getElem?_take, if_pos h, ← List.getD_eq_getElem?_getD]
theorem list_drop {c : Nat} : listOf (xs.drop c) = fun i => listOf xs (c + i) := by funext i; unfold listOf; rw [List.getD_eq_getElem?_getD, List.getElem?_drop, ← List.getD_eq_getElem?_getD]
/-- The level behind the first part. -/
def cutStart (size start : Int) (ds : List Day) (xs : List Int) (c : Nat) : Int := lev size start (wantOf ds) (listOf xs) c
theorem parts {c : Nat} (h : c ≤ n) :
    nums (levs size start (wantOf ds) (listOf xs)) n = nums (levs size start (wantOf (ds.take c)) (listOf (xs.take c))) c ++ nums (levs size (cutStart size start ds xs c) (wantOf (ds.drop c)) (listOf (xs.drop c))) (n - c) ∧
    nums (lack size start (wantOf ds) (listOf xs)) n = nums (lack size start (wantOf (ds.take c)) (listOf (xs.take c))) c ++ nums (lack size (cutStart size start ds xs c) (wantOf (ds.drop c)) (listOf (xs.drop c))) (n - c) ∧
    nums (ovr size start (wantOf ds) (listOf xs)) n = nums (ovr size start (wantOf (ds.take c)) (listOf (xs.take c))) c ++ nums (ovr size (cutStart size start ds xs c) (wantOf (ds.drop c)) (listOf (xs.drop c))) (n - c) := by
  have e : ∀ k, lev size start (wantOf ds) (listOf xs) (c + k) = lev size (cutStart size start ds xs c) (wantOf (ds.drop c)) (listOf (xs.drop c)) k := fun k => by rw [lev_shift, want_drop, list_drop]; rfl
  have w : ∀ i, wantOf ds (c + i) = wantOf (ds.drop c) i := fun i => by rw [want_drop]
  have r : ∀ i, listOf xs (c + i) = listOf (xs.drop c) i := fun i => by rw [list_drop]
  refine ⟨nums_parts h (fun i hi => ?_) fun i hi => ?_, nums_parts h (fun i hi => ?_) fun i hi => ?_, nums_parts h (fun i hi => ?_) fun i hi => ?_⟩
  · exact lev_congr _ (fun i hi => (want_take (by omega)).symm) fun i hi => (list_take (by omega)).symm
  · exact e (i + 1)
  · exact lack_congr (fun i hi => (want_take (by omega)).symm) fun i hi => (list_take (by omega)).symm
  · unfold lack ovr; rw [e, w, r]
  · exact ovr_congr (fun i hi => (want_take (by omega)).symm) fun i hi => (list_take (by omega)).symm
  · unfold ovr; rw [e, r]
/-! ### less doubt -/
def setRain (ds : List Day) (i : Nat) (lo hi : Int) : List Day := ds.set i ⟨lo, hi, (ds.getD i dz).want⟩
/-- A year of which only the rain is narrower. -/
structure Narrow (ds ds' : List Day) : Prop where
  len : ds'.length = ds.length
  want : ∀ i, i < ds.length → wantOf ds' i = wantOf ds i
  lo : ∀ i, i < ds.length → loOf ds i ≤ loOf ds' i
  hi : ∀ i, i < ds.length → hiOf ds' i ≤ hiOf ds i
section
variable (hN : Narrow ds ds')
include hN
end
end
end Go.X.Cist
namespace Go.X
open Go.Conc

/-- A bound of a part: none, or a number. -/
inductive Bd (tm : List Value) : Option Operand → Nat → Nat → Prop
  | none (d : Nat) : Bd tm none d d
  | some {o : Operand} {k : IntKind} {z : Int} (d : Nat) (h : evl tm o = .int k z) (h0 : 0 ≤ z) : Bd tm (some o) d z.toNat
  | nat {o : Operand} {k : IntKind} {z : Nat} (d : Nat) (h : evl tm o = .int k (z : Nat)) : Bd tm (some o) d z
def cutA (a : Option Addr) (c l w : Nat) : Option Addr := if c = l then a else a.map (·.add (l * w))

section
variable {P : Program} {h : Heap} {tm : List Value} {d : Option Tmp} {ty : TypeId} {pos : String} {aft : Array Edge} {gd : Option (Nat × Bool)}
theorem Sl.part {p : PHeap} {a : Option Addr} {n c w l r : Nat} {es : List (List Value)} (s : Sl p a n w es) (hc : n ≤ c) (h1 : l ≤ r) (h2 : r ≤ n) : Sl p (cutA a c l w) (r - l) w ((es.drop l).take (r - l)) :=
  s.cut h1 h2 fun hlt => by unfold cutA; rw [if_neg (by omega), s.ne (by omega)]; rfl
end

section
variable {P : Program} {md : Md} {f : FuncId} {r : Rd} {df : List Deferred} {k : List Item} {cs : List Frame} {Stop : Goroutine → Heap → Prop} {ops rest : List Oper} {tm : List Value}
  {h₀ : Heap} {B₀ : List Nat} {p : PHeap} {A X C : Pcs} {T : TypeId} {w : Nat} {v : Value} {es : List (List Value)} {n : Nat} {g : Goroutine}
theorem OwnS.room (o : OwnS T w v es X) (hw : 0 < w) {a : Option Addr} {m cap : Nat} (e : v = .slice a m cap) : m ≤ cap := by
  obtain ⟨h1, ⟨rfl, rfl, rfl⟩ | ⟨b, cs, cap', rest, rfl, rfl, hcs, hlen⟩⟩ := o
  · cases e; exact Nat.le_refl _
  · cases e
    have h2 := flatten_length h1
    have h3 : cs.length = es.flatten.length + rest.length := by rw [hcs]; simp
    have : es.length * w ≤ cap * w := by omega
    exact Nat.le_of_mul_le_mul_right this hw
end
end Go.X
namespace Go.X.Cist
open Go.X Go.Proofs.Ytbmkacnlhlbnjaa Go.Conc

section
variable {p : PHeap} {a : Option Addr} {n c l r : Nat} {ds es : List Day} {xs : List Int}
theorem days_yes (hl : ds.length = es.length) (h : ∀ i, i < ds.length → ds.getD i dz = es.getD i dz) : ds = es := ext_getD (d := dz) hl h
theorem eq_step {k : Nat} (h : ∀ i, i < k → ds.getD i dz = es.getD i dz) (e : ds.getD k dz = es.getD k dz) : ∀ i, i < k + 1 → ds.getD i dz = es.getD i dz := fun i hi => by
  by_cases c : i = k
  · subst c; exact e
  · exact h i (by omega)
theorem Days.pre (D : Days p a n ds) (hc : n ≤ c) (h : r ≤ n) : Days p (cutA a c 0 3) r (ds.take r) := by
  have := Sl.part D hc (Nat.zero_le r) h
  unfold Days dcs
  rw [List.map_take]
  simpa [dcs] using this
theorem Ints.pre (D : Ints p a n xs) (hc : n ≤ c) (h : r ≤ n) : Ints p (cutA a c 0 1) r (xs.take r) := by
  have := Sl.part D hc (Nat.zero_le r) h
  unfold Ints
  rw [List.map_take]
  simpa using this
end
end Go.X.Cist
namespace Go.X
open Go.Conc

/-- 'Q' of an operation sees only those in 'anc'. -/
def Qr (anc : Nat → List Nat) (Q : Nat → (Nat → Value) → (Nat → Pcs) → Value → Pcs → Prop) (val : Nat → Value) (piece : Nat → Pcs) (i : Nat) : Value → Pcs → Prop :=
  Q i (fun j => if (anc i).contains j = true then val j else undef) (fun j => if (anc i).contains j = true then piece j else [])
def ancok (ops : List Oper) (m : Nat) (cl : List (List Nat)) (anc : Nat → List Nat) : Bool :=
  ops.zipIdx.all fun (o, i) => !decide (i < m) || (anc i).all fun j => behind cl o j
/-- What is asked of an operation whose turn it is. -/
def OpMix2 (P : Program) (md : Md) (ops : List Oper) (tmF : (Nat → Value) → List Value) (h₀ : Heap) (B₀ : List Nat) (p : PHeap) (A : Pcs) (ini : List Nat) (X : Nat → Pcs) (use : Nat → List Nat) (anc : Nat → List Nat) (Q : Nat → (Nat → Value) → (Nat → Pcs) → Value → Pcs → Prop) (i : Nat) (o : Oper) : Prop :=
  ∀ val piece, (∀ j, (anc i).contains j = true → Qr anc Q val piece j (val j) (piece j)) → (∀ j ∈ ini, piece j = X j) →
    (Met ops (tmF val) o true ∧ ∀ C h, St h₀ B₀ p h ((use i).flatMap piece ++ (A ++ C)) →
      Exv P (tmF val) o h (fun v h' => ∃ x, Qr anc Q val piece i v x ∧ St h₀ B₀ p h' (x ++ (A ++ C))) ∨
      (∃ g args, (wpS P (execOp (evl (tmF val)) o) h fun n h' => n = .enter g args ∧ h' = h) ∧ CallsX P md g args h (fun v h' => ∃ x, Qr anc Q val piece i v x ∧ St h₀ B₀ p h' (x ++ (A ++ C))))) ∨
    (Met ops (tmF val) o false ∧ (use i).flatMap piece = [] ∧ Qr anc Q val piece i undef [])

section
variable {P : Program} {md : Md} {ops : List Oper} {m : Nat} {f : FuncId} {r : Rd} {df : List Deferred} {k : List Item} {cs : List Frame} {Stop : Goroutine → Heap → Prop} {tm : List Value}
  {h₀ : Heap} {B₀ : List Nat} {p : PHeap} {A C : Pcs} {ini : List Nat} {X : Nat → Pcs} {use : Nat → List Nat} {anc : Nat → List Nat} {Q : Nat → (Nat → Value) → (Nat → Pcs) → Value → Pcs → Prop} {tmF : (Nat → Value) → List Value}

end
end Go.X
namespace Go.Proofs.Ytbmkacnlhlbnjaa
open Go.X Go.X.Cist Go.Conc
set_option maxRecDepth 10000

end Go.Proofs.Ytbmkacnlhlbnjaa
namespace Go.Proofs.Ytbmkacnlhlbnjaa
open Go.X Go.X.Cist Go.Conc
set_option maxRecDepth 10000

theorem c37 (md : Md) (h : Heap) (p : PHeap) (hp : Per p h) (size start : Int) (a : Option Addr) (n c : Nat) (ds : List Day) (D : Days p a n ds) (size2 start2 : Int) (a2 : Option Addr) (n2 c2 : Nat) (es : List Day) (E : Days p a2 n2 es) (hn : n ≤ 40) : CallsX Try.prog md 37 #[.agg #[.int .i64 (size), .int .i64 (start), .slice a n c], .agg #[.int .i64 (size2), .int .i64 (start2), .slice a2 n2 c2]] h fun v h' => v = .bool (decide (size = size2 ∧ start = start2 ∧ ds = es)) ∧ Keep h h' := by
  refine calls_intro (Φ := fun h_ => St h [] p h_ []) Try.func37 rfl (tm := [_, _, _, _, _, _, _, _, _, _, _, _, _, _, _, _, _, _, _, _, _, _, _, _, _, _, _, _, _, _, _, _, _, _, _, _, _, _, _, _, _, _, _, _, _]) rfl ?_ (St.start h _ hp)
  intro c₀ cs Stop K
  have hl := D.len
  have hl2 := E.len
  refine fl_seq ?_
  refine rl_start ?_
  refine rl_box (met_none rfl) (v := .agg #[.int .i64 (size), .int .i64 (start), .slice a n c]) rfl fun b1 => rl_own (L' := [(b1, .cells #[.int .i64 (size), .int .i64 (start), .slice a n c] 24 (0, 0))]) rfl ?_
  refine rl_box (met_none rfl) (v := .agg #[.int .i64 (size2), .int .i64 (start2), .slice a2 n2 c2]) rfl fun b2 => rl_own (L' := [(b2, .cells #[.int .i64 (size2), .int .i64 (start2), .slice a2 n2 c2] 24 (0, 0)), (b1, .cells #[.int .i64 (size), .int .i64 (start), .slice a n c] 24 (0, 0))]) rfl ?_
  refine rl_det (met_none rfl) (fun h_ H_ => exd_assign (v := .bool (false)) rfl) (tm' := _::_::_::_::_::_) rfl ?_
  refine rl_end ?_
  refine fl_seq ?_
  refine fl_seq ?_
  refine rl_start ?_
  refine rl_det (met_none rfl) (fun h_ H_ => exd_fieldAddr tF24_0 rfl (a' := ⟨b1, 0, none⟩) rfl) rfl ?_
  refine rl_det (met_none rfl) (fun h_ H_ => exd_load_own H_ tA3 rfl (i := 1) rfl (v := .int .i64 (size)) rfl) rfl ?_
  refine rl_det (met_none rfl) (fun h_ H_ => exd_fieldAddr tF24_0 rfl (a' := ⟨b2, 0, none⟩) rfl) (tm' := _::_::_::_::_::_::_::_::_::_) rfl ?_
  refine rl_det (met_none rfl) (fun h_ H_ => exd_load_own H_ tA3 rfl (i := 0) rfl (v := .int .i64 (size2)) rfl) rfl ?_
  refine rl_det (met_none rfl) (fun h_ H_ => exd_neq rfl rfl) rfl ?_
  refine rl_det (met_none rfl) (fun h_ H_ => exd_move (v := .bool (decide (size ≠ size2))) rfl) (tm' := _::_::_::_::_::_::_::_::_::_::_::_::_) rfl ?_
  by_cases cc3 : size ≠ size2
  · refine rl_pass (met_not rfl rfl (decide_eq_true cc3)) rfl ?_
    refine rl_pass (met_not rfl rfl (decide_eq_true cc3)) rfl ?_
    refine rl_pass (met_not rfl rfl (decide_eq_true cc3)) (tm' := _::_::_::_::_::_::_::_::_::_::_::_::_::_::_::_) rfl ?_
    refine rl_pass (met_not rfl rfl (decide_eq_true cc3)) rfl ?_
    refine rl_pass (met_not rfl rfl (decide_eq_true cc3)) rfl ?_
    refine rl_det (met_none rfl) (fun h_ H_ => exd_pick_t rfl (decide_eq_true cc3) (v := .bool (true)) rfl) (tm' := _::_::_::_::_::_::_::_::_::_::_::_::_::_::_::_::_::_::_) rfl ?_
    refine rl_det (met_none rfl) (fun h_ H_ => exd_move (v := .bool (true)) rfl) rfl ?_
    refine rl_pass (met_not rfl rfl rfl) rfl ?_
    refine rl_pass (met_not rfl rfl rfl) (tm' := _::_::_::_::_::_::_::_::_::_::_::_::_::_::_::_::_::_::_::_::_::_) rfl ?_
    refine rl_pass (met_not rfl rfl rfl) rfl ?_
    refine rl_pass (met_not rfl rfl rfl) rfl ?_
    refine rl_pass (met_not rfl rfl rfl) (tm' := _::_::_::_::_::_::_::_::_::_::_::_::_::_::_::_::_::_::_::_::_::_::_::_::_) rfl ?_
    refine rl_pass (met_not rfl rfl rfl) rfl ?_
    refine rl_pass (met_not rfl rfl rfl) rfl ?_
    refine rl_det (met_none rfl) (fun h_ H_ => exd_pick_t rfl rfl (v := .bool (true)) rfl) (tm' := _::_::_::_::_::_::_::_::_::_::_::_::_::_::_::_::_::_::_::_::_::_::_::_::_::_::_::_) rfl ?_
    refine rl_end ?_
    refine fl_then rfl rfl ?_
    refine fl_seq ?_
    refine rl_start ?_
    refine rl_det (met_none rfl) (fun h_ H_ => exd_assign (v := .bool (false)) rfl) rfl ?_
    refine rl_end ?_
    refine fl_ret Try.func37 rfl (vs := [.bool (false)]) (fun h_ H_ => ⟨.bool (false), _, rfl, rfl, rfl⟩) (v := .bool (false)) rfl ?_
    exact fun h_ H_ => K _ _ ⟨by first | (rw [decide_eq_false]; rintro ⟨e1, e2, e3⟩; first | (exact ‹¬ _› e1) | (exact ‹¬ _› e2) | omega | (subst e3; omega) | (subst e3; simp at *) | (exact ‹¬ _› (by rw [e3]))) | (rw [decide_eq_true]; exact ⟨by omega, by omega, days_yes (by omega) fun i hi => hs i (by omega)⟩), H_.kept⟩
  · refine rl_det (met_some rfl rfl (decide_eq_false cc3)) (fun h_ H_ => exd_fieldAddr tF24_1 rfl (a' := ⟨b1, 1, none⟩) rfl) rfl ?_
    refine rl_det (met_some rfl rfl (decide_eq_false cc3)) (fun h_ H_ => exd_load_own H_ tA3 rfl (i := 1) rfl (v := .int .i64 (start)) rfl) (tm' := _::_::_::_::_::_::_::_::_::_::_::_::_::_::_) rfl ?_
    refine rl_det (met_some rfl rfl (decide_eq_false cc3)) (fun h_ H_ => exd_fieldAddr tF24_1 rfl (a' := ⟨b2, 1, none⟩) rfl) rfl ?_
    refine rl_det (met_some rfl rfl (decide_eq_false cc3)) (fun h_ H_ => exd_load_own H_ tA3 rfl (i := 0) rfl (v := .int .i64 (start2)) rfl) rfl ?_
    refine rl_det (met_some rfl rfl (decide_eq_false cc3)) (fun h_ H_ => exd_neq rfl rfl) (tm' := _::_::_::_::_::_::_::_::_::_::_::_::_::_::_::_::_::_) rfl ?_
    refine rl_det (met_none rfl) (fun h_ H_ => exd_pick_f rfl (decide_eq_false cc3) (v := .bool (decide (start ≠ start2))) rfl) rfl ?_
    refine rl_det (met_none rfl) (fun h_ H_ => exd_move (v := .bool (decide (start ≠ start2))) rfl) rfl ?_
    by_cases cc4 : start ≠ start2
    · refine rl_pass (met_not rfl rfl (decide_eq_true cc4)) (tm' := _::_::_::_::_::_::_::_::_::_::_::_::_::_::_::_::_::_::_::_::_) rfl ?_
      refine rl_pass (met_not rfl rfl (decide_eq_true cc4)) rfl ?_
      refine rl_pass (met_not rfl rfl (decide_eq_true cc4)) rfl ?_
      refine rl_pass (met_not rfl rfl (decide_eq_true cc4)) (tm' := _::_::_::_::_::_::_::_::_::_::_::_::_::_::_::_::_::_::_::_::_::_::_::_) rfl ?_
      refine rl_pass (met_not rfl rfl (decide_eq_true cc4)) rfl ?_
      refine rl_pass (met_not rfl rfl (decide_eq_true cc4)) rfl ?_
      refine rl_pass (met_not rfl rfl (decide_eq_true cc4)) (tm' := _::_::_::_::_::_::_::_::_::_::_::_::_::_::_::_::_::_::_::_::_::_::_::_::_::_::_) rfl ?_
      refine rl_det (met_none rfl) (fun h_ H_ => exd_pick_t rfl (decide_eq_true cc4) (v := .bool (true)) rfl) rfl ?_
      refine rl_end ?_
      refine fl_then rfl rfl ?_
      refine fl_seq ?_
      refine rl_start ?_
      refine rl_det (met_none rfl) (fun h_ H_ => exd_assign (v := .bool (false)) rfl) rfl ?_
      refine rl_end ?_
      refine fl_ret Try.func37 rfl (vs := [.bool (false)]) (fun h_ H_ => ⟨.bool (false), _, rfl, rfl, rfl⟩) (v := .bool (false)) rfl ?_
      exact fun h_ H_ => K _ _ ⟨by first | (rw [decide_eq_false]; rintro ⟨e1, e2, e3⟩; first | (exact ‹¬ _› e1) | (exact ‹¬ _› e2) | omega | (subst e3; omega) | (subst e3; simp at *) | (exact ‹¬ _› (by rw [e3]))) | (rw [decide_eq_true]; exact ⟨by omega, by omega, days_yes (by omega) fun i hi => hs i (by omega)⟩), H_.kept⟩
    · refine rl_det (met_some rfl rfl (decide_eq_false cc4)) (fun h_ H_ => exd_fieldAddr tF24_2 rfl (a' := ⟨b1, 2, none⟩) rfl) (tm' := _::_::_::_::_::_::_::_::_::_::_::_::_::_::_::_::_::_::_::_::_) rfl ?_
      refine rl_det (met_some rfl rfl (decide_eq_false cc4)) (fun h_ H_ => exd_load_own H_ tA22 rfl (i := 1) rfl (v := .slice a n c) rfl) rfl ?_
      refine rl_det (met_some rfl rfl (decide_eq_false cc4)) (fun h_ H_ => exd_len Try.underlying22 rfl) rfl ?_
      refine rl_det (met_some rfl rfl (decide_eq_false cc4)) (fun h_ H_ => exd_fieldAddr tF24_2 rfl (a' := ⟨b2, 2, none⟩) rfl) (tm' := _::_::_::_::_::_::_::_::_::_::_::_::_::_::_::_::_::_::_::_::_::_::_::_) rfl ?_
      refine rl_det (met_some rfl rfl (decide_eq_false cc4)) (fun h_ H_ => exd_load_own H_ tA22 rfl (i := 0) rfl (v := .slice a2 n2 c2) rfl) rfl ?_
      refine rl_det (met_some rfl rfl (decide_eq_false cc4)) (fun h_ H_ => exd_len Try.underlying22 rfl) rfl ?_
      refine rl_det (met_some rfl rfl (decide_eq_false cc4)) (fun h_ H_ => exd_neq rfl rfl) (tm' := _::_::_::_::_::_::_::_::_::_::_::_::_::_::_::_::_::_::_::_::_::_::_::_::_::_::_) rfl ?_
      refine rl_det (met_none rfl) (fun h_ H_ => exd_pick_f rfl (decide_eq_false cc4) (v := .bool (decide (((n : Nat) : Int) ≠ ((n2 : Nat) : Int)))) rfl) rfl ?_
      refine rl_end ?_
      by_cases cc5 : ((n : Nat) : Int) ≠ ((n2 : Nat) : Int)
      · refine fl_then rfl (decide_eq_true cc5) ?_
        refine fl_seq ?_
        refine rl_start ?_
        refine rl_det (met_none rfl) (fun h_ H_ => exd_assign (v := .bool (false)) rfl) rfl ?_
        refine rl_end ?_
        refine fl_ret Try.func37 rfl (vs := [.bool (false)]) (fun h_ H_ => ⟨.bool (false), _, rfl, rfl, rfl⟩) (v := .bool (false)) rfl ?_
        exact fun h_ H_ => K _ _ ⟨by first | (rw [decide_eq_false]; rintro ⟨e1, e2, e3⟩; first | (exact ‹¬ _› e1) | (exact ‹¬ _› e2) | omega | (subst e3; omega) | (subst e3; simp at *) | (exact ‹¬ _› (by rw [e3]))) | (rw [decide_eq_true]; exact ⟨by omega, by omega, days_yes (by omega) fun i hi => hs i (by omega)⟩), H_.kept⟩
      · refine fl_else rfl (decide_eq_false cc5) ?_
        refine fl_skip ?_
        refine fl_seq ?_
        refine fl_seq ?_
        refine rl_start ?_
        refine rl_det (met_none rfl) (fun h_ H_ => exd_assign (v := .int .i64 0) rfl) (tm' := _::_::_::_::_::_::_) rfl ?_
        refine rl_end ?_
        refine fl_block ?_
        refine fl_loop (m₀ := n - 0) (fun m_ tm_ h_ => ∃ (k : Nat), m_ = n - k ∧ (∃ y6 : Nat → Value, tm_ = [.agg #[.int .i64 (size), .int .i64 (start), .slice a n c], .agg #[.int .i64 (size2), .int .i64 (start2), .slice a2 n2 c2], .pointer (some ⟨b1, 0, none⟩), .pointer (some ⟨b2, 0, none⟩), (y6 4), .int .i64 (((k : Nat) : Int)), .pointer (some ⟨b1, 0, none⟩), .int .i64 (size), .pointer (some ⟨b2, 0, none⟩), .int .i64 (size2), .bool (decide (size ≠ size2)), .bool (decide (size ≠ size2)), .pointer (some ⟨b1, 1, none⟩), .int .i64 (start), .pointer (some ⟨b2, 1, none⟩), .int .i64 (start2), .bool (decide (start ≠ start2)), .bool (decide (start ≠ start2)), .bool (decide (start ≠ start2)), .pointer (some ⟨b1, 2, none⟩), .slice a n c, .int .i64 (((n : Nat) : Int)), .pointer (some ⟨b2, 2, none⟩), .slice a2 n2 c2, .int .i64 (((n2 : Nat) : Int)), .bool (decide (((n : Nat) : Int) ≠ ((n2 : Nat) : Int))), .bool (decide (((n : Nat) : Int) ≠ ((n2 : Nat) : Int))), (y6 27), (y6 28), (y6 29), (y6 30), (y6 31), (y6 32), (y6 33), (y6 34), (y6 35), (y6 36), (y6 37), (y6 38), (y6 39), (y6 40), (y6 41), (y6 42), (y6 43), (y6 44)]) ∧ (k ≤ n) ∧ (∀ i, i < k → ds.getD i dz = es.getD i dz) ∧ St h [] p h_ ([(b2, .cells #[.int .i64 (size2), .int .i64 (start2), .slice a2 n2 c2] 24 (0, 0)), (b1, .cells #[.int .i64 (size), .int .i64 (start), .slice a n c] 24 (0, 0))])) (fun h_ H_ => ⟨0, rfl, (y_of rfl), Nat.zero_le _, (fun i hi => absurd hi (Nat.not_lt_zero i)), H_⟩) ?_
        intro m_ tm_ IH7
        refine rs_ex fun k => rs_and fun hm_ => rs_and fun ht_ => rs_and fun hk => rs_and fun hs => ?_
        subst hm_; obtain ⟨y6, ht_⟩ := ht_; subst ht_
        refine fl_seq ?_
        refine fl_seq ?_
        refine rl_start ?_
        refine rl_det (met_none rfl) (fun h_ H_ => exd_move (v := .int .i64 (((k : Nat) : Int))) rfl) rfl ?_
        refine rl_det (met_none rfl) (fun h_ H_ => exd_fieldAddr tF24_2 rfl (a' := ⟨b1, 2, none⟩) rfl) rfl ?_
        refine rl_det (met_none rfl) (fun h_ H_ => exd_load_own H_ tA22 rfl (i := 1) rfl (v := .slice a n c) rfl) (tm' := _::_::_::_::_::_::_::_::_::_::_::_::_::_::_::_::_::_::_::_::_::_::_::_::_::_::_::_::_::_::_) rfl ?_
        refine rl_det (met_none rfl) (fun h_ H_ => exd_len Try.underlying22 rfl) rfl ?_
        refine rl_det (met_none rfl) (fun h_ H_ => exd_lss rfl rfl) rfl ?_
        refine rl_end ?_
        by_cases cc8 : ((k : Nat) : Int) < ((n : Nat) : Int)
        · refine fl_then rfl (decide_eq_true cc8) ?_
          refine fl_skip ?_
          refine fl_seq ?_
          refine fl_block ?_
          refine fl_seq ?_
          refine fl_drawn2 10 [[], [0], [], [0, 1, 2], [0, 1, 2, 3], [], [5], [], [5, 6, 7], [5, 6, 7, 8], []] mixed (by kernel_rfl) (Nat.le_of_ble_eq_true rfl) ?_
          refine swr_det (met_none rfl) (fun h_ H_ => exd_fieldAddr tF24_2 rfl (a' := ⟨b1, 2, none⟩) rfl) rfl ?_
          refine swr_det (met_none rfl) (fun h_ H_ => exd_load_own H_ tA22 rfl (i := 1) rfl (v := .slice a n c) rfl) (tm' := [_,_,_,_,_,_,_,_,_,_,_,_,_,_,_,_,_,_,_,_,_,_,_,_,_,_,_,_,_,_,_,_,_,_,_,_,_,_,_,_,_,_,_,_,_]) rfl ?_
          refine swr_det (met_none rfl) (fun h_ H_ => exd_move (v := .int .i64 (((k : Nat) : Int))) rfl) rfl ?_
          refine swr_det (met_none rfl) (fun h_ H_ => exd_indexAddrN (i := k) Try.underlying22 tS38 (sl_ne a n c (D.ne (by omega))) rfl (by omega)) (tm' := [_,_,_,_,_,_,_,_,_,_,_,_,_,_,_,_,_,_,_,_,_,_,_,_,_,_,_,_,_,_,_,_,_,_,_,_,_,_,_,_,_,_,_,_,_]) rfl ?_
          refine swr_det (met_none rfl) (fun h_ H_ => exd_loadN_per H_ tA38 tS38 rfl (vs := [.int .i64 ((ds.getD k dz).lo), .int .i64 ((ds.getD k dz).hi), .int .i64 ((ds.getD k dz).want)]) rfl (D.all (by omega))) rfl ?_
          refine swr_det (met_none rfl) (fun h_ H_ => exd_fieldAddr tF24_2 rfl (a' := ⟨b2, 2, none⟩) rfl) (tm' := [_,_,_,_,_,_,_,_,_,_,_,_,_,_,_,_,_,_,_,_,_,_,_,_,_,_,_,_,_,_,_,_,_,_,_,_,_,_,_,_,_,_,_,_,_]) rfl ?_
          refine swr_det (met_none rfl) (fun h_ H_ => exd_load_own H_ tA22 rfl (i := 0) rfl (v := .slice a2 n2 c2) rfl) rfl ?_
          refine swr_det (met_none rfl) (fun h_ H_ => exd_move (v := .int .i64 (((k : Nat) : Int))) rfl) (tm' := [_,_,_,_,_,_,_,_,_,_,_,_,_,_,_,_,_,_,_,_,_,_,_,_,_,_,_,_,_,_,_,_,_,_,_,_,_,_,_,_,_,_,_,_,_]) rfl ?_
          refine swr_det (met_none rfl) (fun h_ H_ => exd_indexAddrN (i := k) Try.underlying22 tS38 (sl_ne a2 n2 c2 (E.ne (by omega))) rfl (by omega)) rfl ?_
          refine swr_det (met_none rfl) (fun h_ H_ => exd_loadN_per H_ tA38 tS38 rfl (vs := [.int .i64 ((es.getD k dz).lo), .int .i64 ((es.getD k dz).hi), .int .i64 ((es.getD k dz).want)]) rfl (E.all (by omega))) (tm' := [_,_,_,_,_,_,_,_,_,_,_,_,_,_,_,_,_,_,_,_,_,_,_,_,_,_,_,_,_,_,_,_,_,_,_,_,_,_,_,_,_,_,_,_,_]) rfl ?_
          refine swr_nil rfl ?_
          refine rl_det (met_none rfl) (fun h_ H_ => exd_neqAgg gT38 (dayEq 9997 (ds.getD k dz) (es.getD k dz)) rfl rfl) rfl ?_
          refine rl_end ?_
          by_cases cc9 : (ds.getD k dz) = (es.getD k dz)
          · refine fl_else rfl (not_f (decide_eq_true cc9)) ?_
            refine fl_skip ?_
            refine fl_inBlock ?_
            refine rl_start ?_
            refine rl_det (met_none rfl) (fun h_ H_ => exd_move (v := .int .i64 (((k : Nat) : Int))) rfl) rfl ?_
            refine rl_det (met_none rfl) (fun h_ H_ => exd_add rfl rfl (n := ((k + 1 : Nat) : Int)) (wr (by omega))) (tm' := [_,_,_,_,_,_,_,_,_,_,_,_,_,_,_,_,_,_,_,_,_,_,_,_,_,_,_,_,_,_,_,_,_,_,_,_,_,_,_,_,_,_,_,_,_]) rfl ?_
            refine rl_det (met_none rfl) (fun h_ H_ => exd_assign (v := .int .i64 (((k + 1 : Nat) : Int))) rfl) rfl ?_
            refine rl_end ?_
            exact fun h_ H_ => IH7 _ _ (by omega) h_ ⟨k + 1, rfl, (y_of rfl), (by omega), (eq_step hs (by first | exact Decidable.not_not.1 ‹_› | assumption)), H_⟩
          · refine fl_then rfl (not_t (decide_eq_false cc9)) ?_
            refine fl_seq ?_
            refine rl_start ?_
            refine rl_det (met_none rfl) (fun h_ H_ => exd_assign (v := .bool (false)) rfl) rfl ?_
            refine rl_end ?_
            refine fl_ret Try.func37 rfl (vs := [.bool (false)]) (fun h_ H_ => ⟨.bool (false), _, rfl, rfl, rfl⟩) (v := .bool (false)) rfl ?_
            exact fun h_ H_ => K _ _ ⟨by first | (rw [decide_eq_false]; rintro ⟨e1, e2, e3⟩; first | (exact ‹¬ _› e1) | (exact ‹¬ _› e2) | omega | (subst e3; omega) | (subst e3; simp at *) | (exact ‹¬ _› (by rw [e3]))) | (rw [decide_eq_true]; exact ⟨by omega, by omega, days_yes (by omega) fun i hi => hs i (by omega)⟩), H_.kept⟩
        · refine fl_else rfl (decide_eq_false cc8) ?_
          refine fl_exit rfl ?_
          refine fl_seq ?_
          refine rl_start ?_
          refine rl_det (met_none rfl) (fun h_ H_ => exd_assign (v := .bool (true)) rfl) (tm' := _::_::_::_::_::_) rfl ?_
          refine rl_end ?_
          refine fl_ret Try.func37 rfl (vs := [.bool (true)]) (fun h_ H_ => ⟨.bool (true), _, rfl, rfl, rfl⟩) (v := .bool (true)) rfl ?_
          exact fun h_ H_ => K _ _ ⟨by first | (rw [decide_eq_false]; rintro ⟨e1, e2, e3⟩; first | (exact ‹¬ _› e1) | (exact ‹¬ _› e2) | omega | (subst e3; omega) | (subst e3; simp at *) | (exact ‹¬ _› (by rw [e3]))) | (rw [decide_eq_true]; exact ⟨by omega, by omega, days_yes (by omega) fun i hi => hs i (by omega)⟩), H_.kept⟩
end Go.Proofs.Ytbmkacnlhlbnjaa
