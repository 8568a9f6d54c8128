/-
  CisternsJust, for every input: the law returns true and leaves its arguments as they were. No condition.
-/
import Derived.Test.YtbmkacnlhlbnjaaC3x
import Derived.Test.YtbmkacnlhlbnjaaC4
import Derived.Test.YtbmkacnlhlbnjaaRows
import Derived.Test.YtbmkacnlhlbnjaaC6
import Derived.Test.YtbmkacnlhlbnjaaC2
import Derived.Test.YtbmkacnlhlbnjaaC5
namespace Go.Proofs.Ytbmkacnlhlbnjaa
open Go.X Go.X.Cist Go.Conc Go.RowKit Go.ChangeShapes Go.WideShapes Go.ChangeAt Go.Joins

set_option maxRecDepth 100000

theorem pOwn : ownKnob Try.prog.godebug = none := by kernel_rfl
theorem pLaid : laidOutB Try.prog = true := by kernel_rfl
theorem pC3 : Try.prog.cellsOf 3 = 1 := by kernel_rfl
theorem pC24 : Try.prog.cellsOf 24 = 3 := by kernel_rfl
theorem pC36 : Try.prog.cellsOf 36 = 2 := by kernel_rfl
theorem pC38 : Try.prog.cellsOf 38 = 3 := by kernel_rfl

section
variable {H : Type} {enc : TypeId × Value → H} {W : World}
theorem trod_day {m : Nat} {cs : List Value} {y : DataW H × List MemPlace} (h : DataW.trod enc Try.prog W 0 (fun _ => true) true m 38 cs = some y) : ∃ d : Day, cs = d.cells := by
  obtain ⟨y0, y1, n, _, hl, h0, h1⟩ := trod_struct2 Try.underlying38 h
  obtain ⟨z0, z1, n', _, hl', h2, h3⟩ := trod_struct2 Try.underlying36 h0
  rw [pC38] at hl
  obtain ⟨a, ha⟩ := trod_i64 Try.underlying3 h2
  obtain ⟨b, hb⟩ := trod_i64 Try.underlying3 h3
  obtain ⟨c, hc⟩ := trod_i64 Try.underlying3 h1
  match cs, hl with
  | [u, v, w], _ =>
    refine ⟨⟨a, b, c⟩, ?_⟩
    simp [pC36, pC3] at ha hb hc
    simp [Day.cells, ha, hb, hc]
theorem open_days {fuel : Nat} {v : Value} {y : DataW H × List MemPlace} (h : DataW.trod enc Try.prog W 0 (fun _ => true) true fuel 22 [v] = some y) : ∃ a n c ds, v = .slice a n c ∧ Days (vwP W) a n ds := by
  obtain ⟨a, n, c, E, rfl, hQ, s⟩ := open_sl Try.underlying22 pC38 (Q := fun cs => ∃ d : Day, cs = d.cells) (fun m cs y h => trod_day h) h
  obtain ⟨z, hz⟩ := Go.Deep.choose_lt hQ
  refine ⟨a, n, c, (List.range n).map z, rfl, ?_⟩
  have : (List.range n).map E = dcs ((List.range n).map z) := by
    unfold dcs
    rw [List.map_map]
    exact List.map_congr_left fun i hi => hz i (List.mem_range.1 hi)
  unfold Days
  rw [← this]; exact s
theorem open_year {base : Nat} {v : Value} {d : DataW H} {p : List MemPlace} (hv : Value.okWide Try.prog W .any base 24 v) (h : DataW.Trod enc Try.prog W 0 (fun _ => true) true 24 v d p) :
    ∃ size start a n c ds, v = .agg #[.int .i64 size, .int .i64 start, .slice a n c] ∧ Days (vwP W) a n ds := by
  obtain ⟨v0, v1, v2, y0, y1, y2, n, rfl, _, _, h0, h1, h2⟩ := open_agg3 Try.underlying24 (by kernel_rfl) pC24 hv h
  obtain ⟨size, e0⟩ := trod_i64 Try.underlying3 h0
  obtain ⟨start, e1⟩ := trod_i64 Try.underlying3 h1
  obtain ⟨a, n, c, ds, rfl, D⟩ := open_days h2
  obtain rfl : v0 = _ := by simpa using e0
  obtain rfl : v1 = _ := by simpa using e1
  exact ⟨size, start, a, n, c, ds, rfl, D⟩
theorem open_num {base : Nat} {v : Value} {d : DataW H} {p : List MemPlace} (hv : Value.okWide Try.prog W .any base 3 v) (h : DataW.Trod enc Try.prog W 0 (fun _ => true) true 3 v d p) : ∃ n : Int, v = .int .i64 n ∧ (-9223372036854775808 ≤ n ∧ n ≤ 9223372036854775807) := by
  obtain ⟨n, rfl, _, _, hw⟩ := open_int Try.underlying3 hv h
  refine ⟨n, rfl, ?_⟩
  simpa [Lit.wf, IntKind.min, IntKind.max, IntKind.signed, IntKind.bits] using hw
end
end Go.Proofs.Ytbmkacnlhlbnjaa
namespace Go.X.Cist
open Go.X Go.Proofs.Ytbmkacnlhlbnjaa

theorem sumTo_congr {f g : Nat → Int} : ∀ {k : Nat}, (∀ i, i < k → f i = g i) → sumTo f k = sumTo g k
  | 0, _ => rfl
  | k + 1, h => by simp only [sumTo]; rw [sumTo_congr fun i hi => h i (by omega), h k (by omega)]
theorem sumTo_le {f g : Nat → Int} : ∀ {k : Nat}, (∀ i, i < k → f i ≤ g i) → sumTo f k ≤ sumTo g k
  | 0, _ => Int.le_refl _
  | k + 1, h => by
    have h1 := sumTo_le (k := k) (f := f) (g := g) fun i hi => h i (by omega)
    have h2 := h k (by omega)
    simp only [sumTo]; omega
section
variable {size start : Int} {ds : List Day} {xs ys : List Int}
/-! ### more rain -/
/-! ### nothing is lost -/
end
end Go.X.Cist
namespace Go.X.Cist
open Go.X Go.Proofs.Ytbmkacnlhlbnjaa

section
variable {size start size' start' : Int} {want want' rain rain' : Nat → Int} {ds ds' : List Day}

theorem lev_le {n : Nat} (hs : size ≤ size') (hst : start ≤ start') (hw : ∀ i, i < n → want' i ≤ want i) (hr : ∀ i, i < n → rain i ≤ rain' i) : ∀ k, k ≤ n → lev size start want rain k ≤ lev size' start' want' rain' k
  | 0, _ => hst
  | k + 1, hk => by
    have h1 := lev_le hs hst hw hr k (by omega)
    have h2 := hw k (by omega)
    have h3 := hr k (by omega)
    simp only [lev]; omega
theorem lack_ge {n : Nat} (hs : size ≤ size') (hst : start ≤ start') (hw : ∀ i, i < n → want' i ≤ want i) (hr : ∀ i, i < n → rain i ≤ rain' i) (k : Nat) (hk : k < n) : lack size' start' want' rain' k ≤ lack size start want rain k := by
  have h1 := lev_le (want := want) (want' := want') (rain := rain) (rain' := rain') hs hst hw hr k (by omega)
  have h2 := hw k hk
  have h3 := hr k hk
  unfold lack ovr; omega
/-! ### what lasts -/
theorem lasts_mono (hs : size ≤ size') (hst : min start size ≤ min start' size') (hl : ds'.length = ds.length) (hw : ∀ i, i < ds.length → wantOf ds' i ≤ wantOf ds i) (hr : ∀ i, i < ds.length → loOf ds i ≤ loOf ds' i) (h : Lasts size start ds) : Lasts size' start' ds' := by
  intro i hi
  rw [hl] at hi
  have h1 := h i hi
  have h2 := lack_ge (n := ds.length) hs hst hw hr i hi
  omega
theorem lackDay_dry {i : Nat} (h : i < ds.length) : lackDay ((dryOf size start ds).getD i dz) = decide (0 < lack size (min start size) (wantOf ds) (loOf ds) i) := by
  unfold dryOf; rw [side_getD h]; rfl
theorem dry_spec (hOk : Ok size start ds) : ((dryR size start ds) = (0, 3) ∧ Lasts size start ds) ∨
    ∃ k : Nat, k < ds.length ∧ dryR size start ds = (((k : Nat) : Int), 0) ∧ 0 < lack size (min start size) (wantOf ds) (loOf ds) k ∧ ∀ i, i < k → ¬ 0 < lack size (min start size) (wantOf ds) (loOf ds) i := by
  unfold dryR; rw [if_pos hOk]
  rcases idxF_cases lackDay (dryOf size start ds) with ⟨e, h⟩ | ⟨k, hk, e, h1, h2⟩
  · refine .inl ⟨by rw [e]; rfl, fun i hi => ?_⟩
    have := h i (by rw [dryOf_length]; exact hi)
    rw [lackDay_dry hi] at this
    exact of_decide_eq_false this
  · rw [dryOf_length] at hk
    refine .inr ⟨k, hk, ?_, ?_, fun i hi => ?_⟩
    · rw [e]; unfold noneR; rw [if_neg (by omega)]
    · rw [lackDay_dry hk] at h1; exact of_decide_eq_true h1
    · have := h2 i hi
      rw [lackDay_dry (by omega)] at this
      exact of_decide_eq_false this
theorem dry_lasts : (dryR size start ds).2 = 3 ↔ Ok size start ds ∧ Lasts size start ds := by
  by_cases hOk : Ok size start ds
  · rcases dry_spec hOk with ⟨e, h⟩ | ⟨k, hk, e, h1, _⟩
    · rw [e]; exact ⟨fun _ => ⟨hOk, h⟩, fun _ => rfl⟩
    · rw [e]; exact ⟨fun x => absurd (show (0 : Int) = 3 from x) (by decide), fun x => absurd h1 (x.2 k hk)⟩
  · unfold dryR; rw [if_neg hOk]
    exact ⟨fun x => absurd x (by decide), fun x => absurd x.1 hOk⟩

/-- The number of a day, or of none. -/
def dayOr (r : Int × Int) : Int := if r.2 = 3 then 8 else r.1
/-! ### rations -/
/-! ### sizes and starts -/
theorem upTo_spec {q : Nat → Bool} : ∀ (f k : Nat), (upTo q k f = none ∧ ∀ i, k ≤ i → i < k + f → q i = false) ∨ ∃ n, upTo q k f = some n ∧ k ≤ n ∧ n < k + f ∧ q n = true ∧ ∀ i, k ≤ i → i < n → q i = false
  | 0, k => .inl ⟨rfl, fun i h1 h2 => absurd h2 (by omega)⟩
  | f + 1, k => by
    unfold upTo
    by_cases h : q k = true
    · rw [if_pos h]
      exact .inr ⟨k, rfl, Nat.le_refl _, by omega, h, fun i h1 h2 => absurd h2 (by omega)⟩
    · rw [if_neg h]
      have hk : q k = false := by simpa using h
      rcases upTo_spec f (k + 1) with ⟨e, x⟩ | ⟨n, e, h1, h2, h3, h4⟩
      · refine .inl ⟨e, fun i a b => ?_⟩
        by_cases c : i = k
        · rw [c]; exact hk
        · exact x i (by omega) (by omega)
      · refine .inr ⟨n, e, by omega, by omega, h3, fun i a b => ?_⟩
        by_cases c : i = k
        · rw [c]; exact hk
        · exact h4 i (by omega) b
theorem size_iff (hOk : Ok size start ds) : ((sizeR size start ds).2 = 0 ∨ (sizeR size start ds).2 = 3) ∧ (0 ≤ (sizeR size start ds).1 ∧ (sizeR size start ds).1 ≤ 60) ∧
    ∀ z : Int, 0 ≤ z → z ≤ 60 → (Lasts z (min start z) ds ↔ (sizeR size start ds).2 = 0 ∧ (sizeR size start ds).1 ≤ z) := by
  have hm : ∀ z z' : Int, z ≤ z' → Lasts z start ds → Lasts z' start ds := fun z z' h x => lasts_mono h (by omega) rfl (fun _ _ => Int.le_refl _) (fun _ _ => Int.le_refl _) x
  have he : ∀ z : Int, Lasts z (min start z) ds ↔ Lasts z start ds := fun z => by unfold Lasts; rw [show min (min start z) z = min start z from by omega]
  unfold sizeR
  rw [if_pos hOk]
  rcases upTo_spec (q := fun k => decide (Lasts (k : Nat) start ds)) 61 0 with ⟨e, x⟩ | ⟨n, e, _, h2, h3, h4⟩ <;> rw [e]
  · refine ⟨.inr rfl, ⟨Int.le_refl _, by decide⟩, fun z h0 h1 => ?_⟩
    rw [he]
    refine ⟨fun y => ?_, fun y => absurd y.1 (by decide)⟩
    have := x z.toNat (by omega) (by omega)
    rw [show ((z.toNat : Nat) : Int) = z from by omega] at this
    exact absurd y (of_decide_eq_false this)
  · refine ⟨.inl rfl, ⟨by show (0 : Int) ≤ (n : Nat); omega, by show ((n : Nat) : Int) ≤ 60; omega⟩, fun z h0 h1 => ?_⟩
    rw [he]
    refine ⟨fun y => ⟨rfl, Int.not_lt.1 fun hlt => ?_⟩, fun y => hm _ _ y.2 (of_decide_eq_true h3)⟩
    have hlt : z < ((n : Nat) : Int) := hlt
    have := h4 z.toNat (by omega) (by omega)
    rw [show ((z.toNat : Nat) : Int) = z from by omega] at this
    exact absurd y (of_decide_eq_false this)
theorem start_iff (hOk : Ok size start ds) : ((startR size start ds).2 = 0 ∨ (startR size start ds).2 = 3) ∧ (0 ≤ (startR size start ds).1 ∧ (startR size start ds).1 ≤ size) ∧
    ∀ z : Int, 0 ≤ z → z ≤ size → (Lasts size z ds ↔ (startR size start ds).2 = 0 ∧ (startR size start ds).1 ≤ z) := by
  have hm : ∀ z z' : Int, z ≤ z' → Lasts size z ds → Lasts size z' ds := fun z z' h x => lasts_mono (Int.le_refl _) (by omega) rfl (fun _ _ => Int.le_refl _) (fun _ _ => Int.le_refl _) x
  have h0 := hOk.1
  unfold startR
  rw [if_pos hOk]
  rcases upTo_spec (q := fun k => decide (Lasts size (k : Nat) ds)) (size.toNat + 1) 0 with ⟨e, x⟩ | ⟨n, e, _, h2, h3, h4⟩ <;> rw [e]
  · refine ⟨.inr rfl, ⟨Int.le_refl _, h0⟩, fun z h0 h1 => ?_⟩
    refine ⟨fun y => ?_, fun y => absurd y.1 (by decide)⟩
    have := x z.toNat (by omega) (by omega)
    rw [show ((z.toNat : Nat) : Int) = z from by omega] at this
    exact absurd y (of_decide_eq_false this)
  · refine ⟨.inl rfl, ⟨by show (0 : Int) ≤ (n : Nat); omega, by show ((n : Nat) : Int) ≤ size; omega⟩, fun z h0 h1 => ?_⟩
    refine ⟨fun y => ⟨rfl, Int.not_lt.1 fun hlt => ?_⟩, fun y => hm _ _ y.2 (of_decide_eq_true h3)⟩
    have hlt : z < ((n : Nat) : Int) := hlt
    have := h4 z.toNat (by omega) (by omega)
    rw [show ((z.toNat : Nat) : Int) = z from by omega] at this
    exact absurd y (of_decide_eq_false this)
theorem sized_ok (hOk : Ok size start ds) {z : Int} (h0 : 0 ≤ z) (h1 : z ≤ 60) : Ok z (min start z) ds := ⟨h0, h1, by have := hOk.2.2.1; omega, by omega, hOk.2.2.2.2⟩
theorem started_ok (hOk : Ok size start ds) {z : Int} (h0 : 0 ≤ z) (h1 : z ≤ size) : Ok size z ds := ⟨hOk.1, hOk.2.1, h0, h1, hOk.2.2.2.2⟩
end
end Go.X.Cist
namespace Go.X.Cist
open Go.X Go.Proofs.Ytbmkacnlhlbnjaa

section
variable {size start size' : Int} {ds : List Day} {day x : Int}
theorem just_size (hOk : Ok size start ds) (h : ∀ z : Int, 0 ≤ z → z ≤ 60 → (Lasts z (min start z) ds ↔ (sizeR size start ds).2 = 0 ∧ (sizeR size start ds).1 ≤ z)) {k : Int} (h0 : 0 ≤ k) (h1 : k ≤ 60) :
    (Ok k (min start k) ds ∧ Lasts k (min start k) ds) ↔ ((sizeR size start ds).2 = 0 ∧ (sizeR size start ds).1 ≤ k) :=
  ⟨fun x => (h k h0 h1).1 x.2, fun x => ⟨sized_ok hOk h0 h1, (h k h0 h1).2 x⟩⟩
theorem just_start (hOk : Ok size start ds) (h : ∀ z : Int, 0 ≤ z → z ≤ size → (Lasts size z ds ↔ (startR size start ds).2 = 0 ∧ (startR size start ds).1 ≤ z)) {k : Int} (h0 : 0 ≤ k) (h1 : k ≤ size) :
    (Ok size k ds ∧ Lasts size k ds) ↔ ((startR size start ds).2 = 0 ∧ (startR size start ds).1 ≤ k) :=
  ⟨fun x => (h k h0 h1).1 x.2, fun x => ⟨started_ok hOk h0 h1, (h k h0 h1).2 x⟩⟩

/-! ### a greater cistern -/
end
end Go.X.Cist
namespace Go.Proofs.Ytbmkacnlhlbnjaa
open Go.X Go.X.Cist Go.Conc
set_option maxRecDepth 10000

end Go.Proofs.Ytbmkacnlhlbnjaa
namespace Go.Proofs.Ytbmkacnlhlbnjaa
open Go.X Go.X.Cist Go.Conc
set_option maxRecDepth 10000

theorem c24 (h : Heap) (p : PHeap) (hp : Per p h) (size start : Int) (a : Option Addr) (n c : Nat) (ds : List Day) (D : Days p a n ds) (hn : n ≤ 40) : CallsX Try.prog (.main true) 24 #[.agg #[.int .i64 (size), .int .i64 (start), .slice a n c]] h fun v h' => v = .bool (decide (Ok size start ds ∧ Lasts size start ds)) ∧ Keep h h' := by
  refine calls_intro (Φ := fun h_ => St h [] p h_ []) Try.func24 rfl (tm := [_, _, _, _, _, _, _, _, _, _, _, _]) rfl ?_ (St.start h _ hp)
  intro c₀ cs Stop K
  have hl := D.len
  refine fl_seq ?_
  refine rl_start ?_
  refine rl_box (met_none rfl) (v := .agg #[.int .i64 (size), .int .i64 (start), .slice a n c]) rfl fun b1 => rl_own (L' := [(b1, .cells #[.int .i64 (size), .int .i64 (start), .slice a n c] 24 (0, 0))]) rfl ?_
  refine rl_norm (tm' := _::_::_) rfl ?_
  refine rl_det (met_none rfl) (fun h_ H_ => exd_assign (v := .bool (false)) rfl) rfl ?_
  refine rl_end ?_
  refine fl_seq ?_
  refine rl_start ?_
  refine rl_det (met_none rfl) (fun h_ H_ => exd_loadN_own H_ tA24 tS24 rfl (i := 0) rfl (vs := [.int .i64 (size), .int .i64 (start), .slice a n c]) rfl rfl) rfl ?_
  refine rl_calld (met_none rfl) (first := []) (cap := []) rfl rfl fC55 (fun h_ H_ => c55 _ _ (fun b_ o_ e_ => H_.per b_ o_ e_) (size) (start) _ _ _ _ D (by omega)) (tm' := _::_::_::_::_::_::_::_::_) rfl ?_
  refine rl_det (met_none rfl) (fun h_ H_ => exd_move (v := .tuple #[.int .i64 ((dryR size start ds).1), .int .i64 ((dryR size start ds).2)]) rfl) rfl ?_
  refine rl_det (met_none rfl) (fun h_ H_ => exd_extract rfl (v := .int .i64 ((dryR size start ds).1)) rfl) rfl ?_
  refine rl_det (met_none rfl) (fun h_ H_ => exd_extract rfl (v := .int .i64 ((dryR size start ds).2)) rfl) (tm' := [_,_,_,_,_,_,_,_,_,_,_,_]) rfl ?_
  refine rl_det (met_none rfl) (fun h_ H_ => exd_assign (v := .int .i64 ((dryR size start ds).1)) rfl) rfl ?_
  refine rl_det (met_none rfl) (fun h_ H_ => exd_assign (v := .int .i64 ((dryR size start ds).2)) rfl) rfl ?_
  refine rl_end ?_
  refine fl_seq ?_
  refine rl_start ?_
  refine rl_det (met_none rfl) (fun h_ H_ => exd_move (v := .int .i64 ((dryR size start ds).2)) rfl) (tm' := [_,_,_,_,_,_,_,_,_,_,_,_]) rfl ?_
  refine rl_det (met_none rfl) (fun h_ H_ => exd_eql rfl rfl) rfl ?_
  refine rl_det (met_none rfl) (fun h_ H_ => exd_assign (v := .bool (decide ((dryR size start ds).2 = 3))) rfl) rfl ?_
  refine rl_end ?_
  refine fl_ret Try.func24 rfl (vs := [.bool (decide ((dryR size start ds).2 = 3))]) (fun h_ H_ => ⟨.bool (decide ((dryR size start ds).2 = 3)), _, rfl, rfl, rfl⟩) (v := .bool (decide ((dryR size start ds).2 = 3))) rfl ?_
  exact fun h_ H_ => K _ _ ⟨by rw [decide_eq_decide.2 dry_lasts], H_.kept⟩
theorem c47 (md : Md) (h : Heap) (p : PHeap) (hp : Per p h) (size start : Int) (a : Option Addr) (n c : Nat) (ds : List Day) (D : Days p a n ds) (hn : n ≤ 40) (z : Int) : CallsX Try.prog md 47 #[.agg #[.int .i64 (size), .int .i64 (start), .slice a n c], .int .i64 (z)] h fun v h' => ∃ w X, v = .agg #[.int .i64 z, .int .i64 (min start z), w] ∧ OwnS 38 3 w (dcs ds) X ∧ New h h' X := by
  refine calls_intro (Φ := fun h_ => St h [] p h_ []) Try.func47 rfl (tm := [_, _, _, _, _, _, _, _, _, _, _, _, _, _, _, _]) rfl ?_ (St.start h _ hp)
  intro c₀ cs Stop K
  have hl := D.len
  refine fl_seq ?_
  refine rl_start ?_
  refine rl_box (met_none rfl) (v := .agg #[.int .i64 (size), .int .i64 (start), .slice a n c]) rfl fun b1 => rl_own (L' := [(b1, .cells #[.int .i64 (size), .int .i64 (start), .slice a n c] 24 (0, 0))]) rfl ?_
  refine rl_alloc (met_none rfl) tZ24 rfl fun b2 => rl_own (L' := [(b2, .cells #[.int .i64 0, .int .i64 0, .slice none 0 0] 24 (0, 0)), (b1, .cells #[.int .i64 (size), .int .i64 (start), .slice a n c] 24 (0, 0))]) rfl ?_
  refine rl_norm (tm' := _::_::_::_::_::_) rfl ?_
  refine rl_end ?_
  refine fl_seq ?_
  refine rl_start ?_
  refine rl_det (met_none rfl) (fun h_ H_ => exd_loadN_own H_ tA24 tS24 rfl (i := 1) rfl (vs := [.int .i64 (size), .int .i64 (start), .slice a n c]) rfl rfl) rfl ?_
  refine rl_own (L' := ([(b2, .cells #[.int .i64 0, .int .i64 0, .slice none 0 0] 24 (0, 0)), (b1, .cells #[.int .i64 (size), .int .i64 (start), .slice a n c] 24 (0, 0))] : Pcs) ++ []) rfl ?_
  refine rl_call (met_none rfl) (first := []) (cap := []) rfl rfl fC30 (R := fun v_ h_ => ∃ w3 : Value, ∃ X4 : Pcs, v_ = .agg #[.int .i64 (size), .int .i64 (start), w3] ∧ (OwnS 38 3 w3 (dcs ds) X4) ∧ St h [] p h_ (([(b2, .cells #[.int .i64 0, .int .i64 0, .slice none 0 0] 24 (0, 0)), (b1, .cells #[.int .i64 (size), .int .i64 (start), .slice a n c] 24 (0, 0))] : Pcs) ++ (X4 ++ []))) (fun h_ H_ => (c30 md _ _ (fun b_ o_ e_ => H_.per b_ o_ e_) (size) (start) _ _ _ _ D (by omega)).mono fun v_ h2_ ⟨w3, X4, e_, o5, N_⟩ => ⟨w3, X4, e_, o5, H_.callNA N_⟩) fun v_ => ?_
  refine rl_ex fun w3 => rl_ex fun X4 => rl_and fun ev_ => rl_and fun o5 => ?_
  have ev_ := ev_.symm; subst ev_
  refine rl_own (L' := ([(b2, .cells #[.int .i64 0, .int .i64 0, .slice none 0 0] 24 (0, 0)), (b1, .cells #[.int .i64 (size), .int .i64 (start), .slice a n c] 24 (0, 0))] : Pcs) ++ (X4 ++ [])) rfl ?_
  refine rl_alloc (met_none rfl) tZ24 rfl fun b6 => rl_own (L' := ([(b6, .cells #[.int .i64 0, .int .i64 0, .slice none 0 0] 24 (0, 0)), (b2, .cells #[.int .i64 0, .int .i64 0, .slice none 0 0] 24 (0, 0)), (b1, .cells #[.int .i64 (size), .int .i64 (start), .slice a n c] 24 (0, 0))] : Pcs) ++ (X4 ++ [])) rfl ?_
  refine rl_norm (tm' := _::_::_::_::_::_::_) rfl ?_
  refine rl_store (met_none rfl) tS24 rfl (v := .agg #[.int .i64 (size), .int .i64 (start), w3]) rfl (i := 0) rfl rfl (ones_cons rfl (ones_cons rfl (ones_cons o5.one.2 rfl))) (Nat.le_of_ble_eq_true rfl) (cs2 := [.int .i64 (size), .int .i64 (start), w3]) rfl (rl_own (L' := ([(b6, .cells #[.int .i64 (size), .int .i64 (start), w3] 24 (0, 0)), (b2, .cells #[.int .i64 0, .int .i64 0, .slice none 0 0] 24 (0, 0)), (b1, .cells #[.int .i64 (size), .int .i64 (start), .slice a n c] 24 (0, 0))] : Pcs) ++ (X4 ++ [])) rfl ?_)
  refine rl_end ?_
  refine fl_seq ?_
  refine rs_perm (List.perm_append_comm_assoc ([(b6, .cells #[.int .i64 (size), .int .i64 (start), w3] 24 (0, 0))] : Pcs) ([(b2, .cells #[.int .i64 0, .int .i64 0, .slice none 0 0] 24 (0, 0)), (b1, .cells #[.int .i64 (size), .int .i64 (start), .slice a n c] 24 (0, 0))] : Pcs) _) ?_
  refine rs_own (L' := ([(b2, .cells #[.int .i64 0, .int .i64 0, .slice none 0 0] 24 (0, 0)), (b1, .cells #[.int .i64 (size), .int .i64 (start), .slice a n c] 24 (0, 0))] : Pcs) ++ (([(b6, .cells #[.int .i64 (size), .int .i64 (start), w3] 24 (0, 0))] : Pcs) ++ (X4 ++ []))) rfl ?_
  refine rs_as (fl_mixed (C := []) (A := ([(b2, .cells #[.int .i64 0, .int .i64 0, .slice none 0 0] 24 (0, 0)), (b1, .cells #[.int .i64 (size), .int .i64 (start), .slice a n c] 24 (0, 0))] : Pcs)) 7 [] [7, 8] [8, 6] [0, 1, 2, 3, 4, 5] (fun i_ => match i_ with | 7 => ([(b6, .cells #[.int .i64 (size), .int .i64 (start), w3] 24 (0, 0))] : Pcs) | 8 => X4 | _ => []) (fun i_ => match i_ with | 6 => [7] | _ => []) (fun i_ v_ x_ => match i_ with | 0 => v_ = .int .i64 (z) ∧ x_ = [] | 1 => v_ = .pointer (some ⟨b1, 1, none⟩) ∧ x_ = [] | 2 => v_ = .int .i64 (start) ∧ x_ = [] | 3 => v_ = .int .i64 (z) ∧ x_ = [] | 4 => v_ = .int .i64 (min start z) ∧ x_ = [] | 5 => v_ = .pointer (some ⟨b6, 0, none⟩) ∧ x_ = [] | 6 => v_ = undef ∧ x_ = [(b6, .cells #[.int .i64 (z), .int .i64 (start), w3] 24 (0, 0))] | _ => True) (fun val7 => [.agg #[.int .i64 (size), .int .i64 (start), .slice a n c], .int .i64 (z), .pointer (some ⟨b1, 0, none⟩), undef, .pointer (some ⟨b2, 0, none⟩), .pointer (some ⟨b6, 0, none⟩), .agg #[.int .i64 (size), .int .i64 (start), .slice a n c], .agg #[.int .i64 (size), .int .i64 (start), w3], (val7 0), (val7 1), (val7 2), (val7 3), (val7 4), (val7 5), undef, undef]) mixed (by kernel_rfl) (Nat.le_of_ble_eq_true rfl) (by kernel_rfl) (by kernel_rfl) ⟨fun _ _ h => h.2, ⟨fun _ _ h => h.2, ⟨fun _ _ h => h.2, ⟨fun _ _ h => h.2, ⟨fun _ _ h => h.2, ⟨fun _ _ h => h.2, trivial⟩⟩⟩⟩⟩⟩ (fun _ => by kernel_rfl) (by kernel_rfl) ?_ ?_) (fun h_ H_ => St.swap (A := ([(b2, .cells #[.int .i64 0, .int .i64 0, .slice none 0 0] 24 (0, 0)), (b1, .cells #[.int .i64 (size), .int .i64 (start), .slice a n c] 24 (0, 0))] : Pcs)) (U := (([(b6, .cells #[.int .i64 (size), .int .i64 (start), w3] 24 (0, 0))] : Pcs) ++ (X4 ++ []))) H_)
  · refine mixes_cons rfl (opmix ?_) ?_
    · intro val7 pc8 hQ_ hX_
      refine ⟨[.agg #[.int .i64 (size), .int .i64 (start), .slice a n c], .int .i64 (z), .pointer (some ⟨b1, 0, none⟩), undef, .pointer (some ⟨b2, 0, none⟩), .pointer (some ⟨b6, 0, none⟩), .agg #[.int .i64 (size), .int .i64 (start), .slice a n c], .agg #[.int .i64 (size), .int .i64 (start), w3], (val7 0), (val7 1), (val7 2), (val7 3), (val7 4), (val7 5), undef, undef], [], rfl, rfl, ?_⟩
      exact mix_det (met_none rfl) (fun _ h_ H_ => exd_move (v := .int .i64 (z)) rfl) ⟨rfl, rfl⟩
    refine mixes_cons rfl (opmix ?_) ?_
    · intro val7 pc8 hQ_ hX_
      refine ⟨[.agg #[.int .i64 (size), .int .i64 (start), .slice a n c], .int .i64 (z), .pointer (some ⟨b1, 0, none⟩), undef, .pointer (some ⟨b2, 0, none⟩), .pointer (some ⟨b6, 0, none⟩), .agg #[.int .i64 (size), .int .i64 (start), .slice a n c], .agg #[.int .i64 (size), .int .i64 (start), w3], (val7 0), (val7 1), (val7 2), (val7 3), (val7 4), (val7 5), undef, undef], [], rfl, rfl, ?_⟩
      exact mix_det (met_none rfl) (fun _ h_ H_ => exd_fieldAddr tF24_1 rfl (a' := ⟨b1, 1, none⟩) rfl) ⟨rfl, rfl⟩
    refine mixes_cons rfl (opmix ?_) ?_
    · intro val7 pc8 hQ_ hX_
      have e1_ : val7 1 = .pointer (some ⟨b1, 1, none⟩) := (hQ_ 1 rfl).1
      refine ⟨[.agg #[.int .i64 (size), .int .i64 (start), .slice a n c], .int .i64 (z), .pointer (some ⟨b1, 0, none⟩), undef, .pointer (some ⟨b2, 0, none⟩), .pointer (some ⟨b6, 0, none⟩), .agg #[.int .i64 (size), .int .i64 (start), .slice a n c], .agg #[.int .i64 (size), .int .i64 (start), w3], (val7 0), .pointer (some ⟨b1, 1, none⟩), (val7 2), (val7 3), (val7 4), (val7 5), undef, undef], [], (by simp only [e1_]), rfl, ?_⟩
      exact mix_det (met_none rfl) (fun _ h_ H_ => exd_load_own H_ tA3 rfl (i := 1) rfl (v := .int .i64 (start)) rfl) ⟨rfl, rfl⟩
    refine mixes_cons rfl (opmix ?_) ?_
    · intro val7 pc8 hQ_ hX_
      refine ⟨[.agg #[.int .i64 (size), .int .i64 (start), .slice a n c], .int .i64 (z), .pointer (some ⟨b1, 0, none⟩), undef, .pointer (some ⟨b2, 0, none⟩), .pointer (some ⟨b6, 0, none⟩), .agg #[.int .i64 (size), .int .i64 (start), .slice a n c], .agg #[.int .i64 (size), .int .i64 (start), w3], (val7 0), (val7 1), (val7 2), (val7 3), (val7 4), (val7 5), undef, undef], [], rfl, rfl, ?_⟩
      exact mix_det (met_none rfl) (fun _ h_ H_ => exd_move (v := .int .i64 (z)) rfl) ⟨rfl, rfl⟩
    refine mixes_cons rfl (opmix ?_) ?_
    · intro val7 pc8 hQ_ hX_
      have e2_ : val7 2 = .int .i64 (start) := (hQ_ 2 rfl).1
      have e3_ : val7 3 = .int .i64 (z) := (hQ_ 3 rfl).1
      refine ⟨[.agg #[.int .i64 (size), .int .i64 (start), .slice a n c], .int .i64 (z), .pointer (some ⟨b1, 0, none⟩), undef, .pointer (some ⟨b2, 0, none⟩), .pointer (some ⟨b6, 0, none⟩), .agg #[.int .i64 (size), .int .i64 (start), .slice a n c], .agg #[.int .i64 (size), .int .i64 (start), w3], (val7 0), (val7 1), .int .i64 (start), .int .i64 (z), (val7 4), (val7 5), undef, undef], [], (by simp only [e2_, e3_]), rfl, ?_⟩
      exact mix_det (met_none rfl) (fun _ h_ H_ => exd_min rfl rfl) ⟨rfl, rfl⟩
    refine mixes_cons rfl (opmix ?_) ?_
    · intro val7 pc8 hQ_ hX_
      have e0_ : val7 0 = .int .i64 (z) := (hQ_ 0 rfl).1
      refine ⟨[.agg #[.int .i64 (size), .int .i64 (start), .slice a n c], .int .i64 (z), .pointer (some ⟨b1, 0, none⟩), undef, .pointer (some ⟨b2, 0, none⟩), .pointer (some ⟨b6, 0, none⟩), .agg #[.int .i64 (size), .int .i64 (start), .slice a n c], .agg #[.int .i64 (size), .int .i64 (start), w3], .int .i64 (z), (val7 1), (val7 2), (val7 3), (val7 4), (val7 5), undef, undef], [], (by simp only [e0_]), rfl, ?_⟩
      exact mix_det (met_none rfl) (fun _ h_ H_ => exd_fieldAddr tF24_0 rfl (a' := ⟨b6, 0, none⟩) rfl) ⟨rfl, rfl⟩
    refine mixes_cons rfl (opmix ?_) ?_
    · intro val7 pc8 hQ_ hX_
      have e0_ : val7 0 = .int .i64 (z) := (hQ_ 0 rfl).1
      have e5_ : val7 5 = .pointer (some ⟨b6, 0, none⟩) := (hQ_ 5 rfl).1
      have x7_ : pc8 7 = ([(b6, .cells #[.int .i64 (size), .int .i64 (start), w3] 24 (0, 0))] : Pcs) := hX_ 7 (by decide)
      refine ⟨[.agg #[.int .i64 (size), .int .i64 (start), .slice a n c], .int .i64 (z), .pointer (some ⟨b1, 0, none⟩), undef, .pointer (some ⟨b2, 0, none⟩), .pointer (some ⟨b6, 0, none⟩), .agg #[.int .i64 (size), .int .i64 (start), .slice a n c], .agg #[.int .i64 (size), .int .i64 (start), w3], .int .i64 (z), (val7 1), (val7 2), (val7 3), (val7 4), .pointer (some ⟨b6, 0, none⟩), undef, undef], (([(b6, .cells #[.int .i64 (size), .int .i64 (start), w3] 24 (0, 0))] : Pcs) ++ []), (by simp only [e0_, e5_]), (by rw [← x7_]; rfl), ?_⟩
      exact mix_put (met_none rfl) tS3 rfl (v := .int .i64 (z)) rfl rfl rfl (Nat.le_of_ble_eq_true rfl) (cs2 := [.int .i64 (z), .int .i64 (start), w3]) rfl ⟨rfl, rfl⟩
    exact mixes_nil rfl
  intro val7 pc8 hQ_ hX_
  have e0_ : val7 0 = .int .i64 (z) := (hQ_ 0 (by decide)).1
  have e1_ : val7 1 = .pointer (some ⟨b1, 1, none⟩) := (hQ_ 1 (by decide)).1
  have e2_ : val7 2 = .int .i64 (start) := (hQ_ 2 (by decide)).1
  have e3_ : val7 3 = .int .i64 (z) := (hQ_ 3 (by decide)).1
  have e4_ : val7 4 = .int .i64 (min start z) := (hQ_ 4 (by decide)).1
  have e5_ : val7 5 = .pointer (some ⟨b6, 0, none⟩) := (hQ_ 5 (by decide)).1
  have x6_ : pc8 6 = [(b6, .cells #[.int .i64 (z), .int .i64 (start), w3] 24 (0, 0))] := (hQ_ 6 (by decide)).2
  have x8_ : pc8 8 = X4 := hX_ 8 (by decide)
  refine rl_as (Φ := fun h_ => St h [] p h_ (([(b2, .cells #[.int .i64 0, .int .i64 0, .slice none 0 0] 24 (0, 0)), (b1, .cells #[.int .i64 (size), .int .i64 (start), .slice a n c] 24 (0, 0))] : Pcs) ++ (pc8 8 ++ (pc8 6 ++ [])))) ?_ (fun h_ H_ => H_.swap')
  rw [x8_, x6_]
  refine rl_norm (tm' := [.agg #[.int .i64 (size), .int .i64 (start), .slice a n c], .int .i64 (z), .pointer (some ⟨b1, 0, none⟩), undef, .pointer (some ⟨b2, 0, none⟩), .pointer (some ⟨b6, 0, none⟩), .agg #[.int .i64 (size), .int .i64 (start), .slice a n c], .agg #[.int .i64 (size), .int .i64 (start), w3], .int .i64 (z), .pointer (some ⟨b1, 1, none⟩), .int .i64 (start), .int .i64 (z), .int .i64 (min start z), .pointer (some ⟨b6, 0, none⟩), undef, undef]) (by simp only [e0_, e1_, e2_, e3_, e4_, e5_]) ?_
  clear hQ_ hX_
  refine rl_own (L' := ([(b2, .cells #[.int .i64 0, .int .i64 0, .slice none 0 0] 24 (0, 0)), (b1, .cells #[.int .i64 (size), .int .i64 (start), .slice a n c] 24 (0, 0))] : Pcs) ++ (X4 ++ (([(b6, .cells #[.int .i64 (z), .int .i64 (start), w3] 24 (0, 0))] : Pcs) ++ []))) rfl ?_
  refine rl_perm (List.Perm.append_left _ (List.perm_append_comm_assoc _ _ _)) ?_
  refine rl_own (L' := ([(b2, .cells #[.int .i64 0, .int .i64 0, .slice none 0 0] 24 (0, 0)), (b1, .cells #[.int .i64 (size), .int .i64 (start), .slice a n c] 24 (0, 0))] : Pcs) ++ (([(b6, .cells #[.int .i64 (z), .int .i64 (start), w3] 24 (0, 0))] : Pcs) ++ (X4 ++ []))) rfl ?_
  refine rl_perm (List.perm_append_comm_assoc ([(b2, .cells #[.int .i64 0, .int .i64 0, .slice none 0 0] 24 (0, 0)), (b1, .cells #[.int .i64 (size), .int .i64 (start), .slice a n c] 24 (0, 0))] : Pcs) ([(b6, .cells #[.int .i64 (z), .int .i64 (start), w3] 24 (0, 0))] : Pcs) _) ?_
  refine rl_own (L' := ([(b6, .cells #[.int .i64 (z), .int .i64 (start), w3] 24 (0, 0)), (b2, .cells #[.int .i64 0, .int .i64 0, .slice none 0 0] 24 (0, 0)), (b1, .cells #[.int .i64 (size), .int .i64 (start), .slice a n c] 24 (0, 0))] : Pcs) ++ (X4 ++ [])) rfl ?_
  refine rl_det (met_none rfl) (fun h_ H_ => exd_fieldAddr tF24_1 rfl (a' := ⟨b6, 1, none⟩) rfl) rfl ?_
  refine rl_store (met_none rfl) tS3 rfl (v := .int .i64 (min start z)) rfl (i := 0) rfl rfl rfl (Nat.le_of_ble_eq_true rfl) (cs2 := [.int .i64 (z), .int .i64 (min start z), w3]) rfl (rl_own (L' := ([(b6, .cells #[.int .i64 (z), .int .i64 (min start z), w3] 24 (0, 0)), (b2, .cells #[.int .i64 0, .int .i64 0, .slice none 0 0] 24 (0, 0)), (b1, .cells #[.int .i64 (size), .int .i64 (start), .slice a n c] 24 (0, 0))] : Pcs) ++ (X4 ++ [])) rfl ?_)
  refine rl_end ?_
  refine fl_seq ?_
  refine rl_start ?_
  refine rl_det (met_none rfl) (fun h_ H_ => exd_loadN_own H_ tA24 tS24 rfl (i := 0) rfl (vs := [.int .i64 (z), .int .i64 (min start z), w3]) rfl rfl) rfl ?_
  refine rl_store (met_none rfl) tS24 rfl (v := .agg #[.int .i64 (z), .int .i64 (min start z), w3]) rfl (i := 1) rfl rfl (ones_cons rfl (ones_cons rfl (ones_cons o5.one.2 rfl))) (Nat.le_of_ble_eq_true rfl) (cs2 := [.int .i64 (z), .int .i64 (min start z), w3]) rfl (rl_own (L' := ([(b6, .cells #[.int .i64 (z), .int .i64 (min start z), w3] 24 (0, 0)), (b2, .cells #[.int .i64 (z), .int .i64 (min start z), w3] 24 (0, 0)), (b1, .cells #[.int .i64 (size), .int .i64 (start), .slice a n c] 24 (0, 0))] : Pcs) ++ (X4 ++ [])) rfl ?_)
  refine rl_end ?_
  refine fl_ret Try.func47 rfl (vs := [.agg #[.int .i64 (z), .int .i64 (min start z), w3]]) (fun h_ H_ => ⟨.agg #[.int .i64 (z), .int .i64 (min start z), w3], _, rfl, (wpS_bind (wpS_pure (wpS_loadVarN tA24 tS24 (vs := [.int .i64 (z), .int .i64 (min start z), w3]) rfl (fun j_ v_ e_ => by rw [add_mk]; exact H_.ocell (i := 1) rfl (by simpa using e_)) ⟨rfl, rfl⟩))), rfl⟩) (v := .agg #[.int .i64 (z), .int .i64 (min start z), w3]) rfl ?_
  exact fun h_ H_ => K _ _ ⟨_, _, rfl, o5, by simpa using H_.dropA.new⟩
theorem c48 (md : Md) (h : Heap) (p : PHeap) (hp : Per p h) (size start : Int) (a : Option Addr) (n c : Nat) (ds : List Day) (D : Days p a n ds) (hn : n ≤ 40) (z : Int) : CallsX Try.prog md 48 #[.agg #[.int .i64 (size), .int .i64 (start), .slice a n c], .int .i64 (z)] h fun v h' => ∃ w X, v = .agg #[.int .i64 size, .int .i64 z, w] ∧ OwnS 38 3 w (dcs ds) X ∧ New h h' X := by
  refine calls_intro (Φ := fun h_ => St h [] p h_ []) Try.func48 rfl (tm := [_, _, _, _, _, _, _, _, _, _, _]) rfl ?_ (St.start h _ hp)
  intro c₀ cs Stop K
  have hl := D.len
  refine fl_seq ?_
  refine rl_start ?_
  refine rl_box (met_none rfl) (v := .agg #[.int .i64 (size), .int .i64 (start), .slice a n c]) rfl fun b1 => rl_own (L' := [(b1, .cells #[.int .i64 (size), .int .i64 (start), .slice a n c] 24 (0, 0))]) rfl ?_
  refine rl_norm (tm' := _::_::_::_) rfl ?_
  refine rl_alloc (met_none rfl) tZ24 rfl fun b2 => rl_own (L' := [(b2, .cells #[.int .i64 0, .int .i64 0, .slice none 0 0] 24 (0, 0)), (b1, .cells #[.int .i64 (size), .int .i64 (start), .slice a n c] 24 (0, 0))]) rfl ?_
  refine rl_end ?_
  refine fl_seq ?_
  refine rl_start ?_
  refine rl_det (met_none rfl) (fun h_ H_ => exd_loadN_own H_ tA24 tS24 rfl (i := 1) rfl (vs := [.int .i64 (size), .int .i64 (start), .slice a n c]) rfl rfl) rfl ?_
  refine rl_own (L' := ([(b2, .cells #[.int .i64 0, .int .i64 0, .slice none 0 0] 24 (0, 0)), (b1, .cells #[.int .i64 (size), .int .i64 (start), .slice a n c] 24 (0, 0))] : Pcs) ++ []) rfl ?_
  refine rl_call (met_none rfl) (first := []) (cap := []) rfl rfl fC30 (R := fun v_ h_ => ∃ w3 : Value, ∃ X4 : Pcs, v_ = .agg #[.int .i64 (size), .int .i64 (start), w3] ∧ (OwnS 38 3 w3 (dcs ds) X4) ∧ St h [] p h_ (([(b2, .cells #[.int .i64 0, .int .i64 0, .slice none 0 0] 24 (0, 0)), (b1, .cells #[.int .i64 (size), .int .i64 (start), .slice a n c] 24 (0, 0))] : Pcs) ++ (X4 ++ []))) (fun h_ H_ => (c30 md _ _ (fun b_ o_ e_ => H_.per b_ o_ e_) (size) (start) _ _ _ _ D (by omega)).mono fun v_ h2_ ⟨w3, X4, e_, o5, N_⟩ => ⟨w3, X4, e_, o5, H_.callNA N_⟩) fun v_ => ?_
  refine rl_ex fun w3 => rl_ex fun X4 => rl_and fun ev_ => rl_and fun o5 => ?_
  have ev_ := ev_.symm; subst ev_
  refine rl_own (L' := ([(b2, .cells #[.int .i64 0, .int .i64 0, .slice none 0 0] 24 (0, 0)), (b1, .cells #[.int .i64 (size), .int .i64 (start), .slice a n c] 24 (0, 0))] : Pcs) ++ (X4 ++ [])) rfl ?_
  refine rl_norm (tm' := [_,_,_,_,_,_,_,_,_,_,_]) rfl ?_
  refine rl_alloc (met_none rfl) tZ24 rfl fun b6 => rl_own (L' := ([(b6, .cells #[.int .i64 0, .int .i64 0, .slice none 0 0] 24 (0, 0)), (b2, .cells #[.int .i64 0, .int .i64 0, .slice none 0 0] 24 (0, 0)), (b1, .cells #[.int .i64 (size), .int .i64 (start), .slice a n c] 24 (0, 0))] : Pcs) ++ (X4 ++ [])) rfl ?_
  refine rl_store (met_none rfl) tS24 rfl (v := .agg #[.int .i64 (size), .int .i64 (start), w3]) rfl (i := 0) rfl rfl (ones_cons rfl (ones_cons rfl (ones_cons o5.one.2 rfl))) (Nat.le_of_ble_eq_true rfl) (cs2 := [.int .i64 (size), .int .i64 (start), w3]) rfl (rl_own (L' := ([(b6, .cells #[.int .i64 (size), .int .i64 (start), w3] 24 (0, 0)), (b2, .cells #[.int .i64 0, .int .i64 0, .slice none 0 0] 24 (0, 0)), (b1, .cells #[.int .i64 (size), .int .i64 (start), .slice a n c] 24 (0, 0))] : Pcs) ++ (X4 ++ [])) rfl ?_)
  refine rl_end ?_
  refine fl_seq ?_
  refine rl_start ?_
  refine rl_det (met_none rfl) (fun h_ H_ => exd_move (v := .int .i64 (z)) rfl) rfl ?_
  refine rl_det (met_none rfl) (fun h_ H_ => exd_fieldAddr tF24_1 rfl (a' := ⟨b6, 1, none⟩) rfl) (tm' := [_,_,_,_,_,_,_,_,_,_,_]) rfl ?_
  refine rl_store (met_none rfl) tS3 rfl (v := .int .i64 (z)) rfl (i := 0) rfl rfl rfl (Nat.le_of_ble_eq_true rfl) (cs2 := [.int .i64 (size), .int .i64 (z), w3]) rfl (rl_own (L' := ([(b6, .cells #[.int .i64 (size), .int .i64 (z), w3] 24 (0, 0)), (b2, .cells #[.int .i64 0, .int .i64 0, .slice none 0 0] 24 (0, 0)), (b1, .cells #[.int .i64 (size), .int .i64 (start), .slice a n c] 24 (0, 0))] : Pcs) ++ (X4 ++ [])) rfl ?_)
  refine rl_end ?_
  refine fl_seq ?_
  refine rl_start ?_
  refine rl_det (met_none rfl) (fun h_ H_ => exd_loadN_own H_ tA24 tS24 rfl (i := 0) rfl (vs := [.int .i64 (size), .int .i64 (z), w3]) rfl rfl) rfl ?_
  refine rl_store (met_none rfl) tS24 rfl (v := .agg #[.int .i64 (size), .int .i64 (z), w3]) rfl (i := 1) rfl rfl (ones_cons rfl (ones_cons rfl (ones_cons o5.one.2 rfl))) (Nat.le_of_ble_eq_true rfl) (cs2 := [.int .i64 (size), .int .i64 (z), w3]) rfl (rl_own (L' := ([(b6, .cells #[.int .i64 (size), .int .i64 (z), w3] 24 (0, 0)), (b2, .cells #[.int .i64 (size), .int .i64 (z), w3] 24 (0, 0)), (b1, .cells #[.int .i64 (size), .int .i64 (start), .slice a n c] 24 (0, 0))] : Pcs) ++ (X4 ++ [])) rfl ?_)
  refine rl_end ?_
  refine fl_ret Try.func48 rfl (vs := [.agg #[.int .i64 (size), .int .i64 (z), w3]]) (fun h_ H_ => ⟨.agg #[.int .i64 (size), .int .i64 (z), w3], _, rfl, (wpS_bind (wpS_pure (wpS_loadVarN tA24 tS24 (vs := [.int .i64 (size), .int .i64 (z), w3]) rfl (fun j_ v_ e_ => by rw [add_mk]; exact H_.ocell (i := 1) rfl (by simpa using e_)) ⟨rfl, rfl⟩))), rfl⟩) (v := .agg #[.int .i64 (size), .int .i64 (z), w3]) rfl ?_
  exact fun h_ H_ => K _ _ ⟨_, _, rfl, o5, by simpa using H_.dropA.new⟩
end Go.Proofs.Ytbmkacnlhlbnjaa
namespace Go.Proofs.Ytbmkacnlhlbnjaa
open Go.X Go.X.Cist Go.Conc

/-- Between what the level, the lack, the sum of what ran over of a day is. -/
def levLo (size start : Int) (ds : List Day) (k : Nat) : Int := lev size (min start size) (wantOf ds) (loOf ds) (k + 1)
def levHi (size start : Int) (ds : List Day) (k : Nat) : Int := lev size (min start size) (wantOf ds) (hiOf ds) (k + 1)
def lackLo (size start : Int) (ds : List Day) (k : Nat) : Int := lack size (min start size) (wantOf ds) (hiOf ds) k
def lackHi (size start : Int) (ds : List Day) (k : Nat) : Int := lack size (min start size) (wantOf ds) (loOf ds) k
def overLo (size start : Int) (ds : List Day) (k : Nat) : Int := sumTo (ovr size (min start size) (wantOf ds) (loOf ds)) (k + 1)
def overHi (size start : Int) (ds : List Day) (k : Nat) : Int := sumTo (ovr size (min start size) (wantOf ds) (hiOf ds)) (k + 1)

section
variable {h : Heap} {p : PHeap} {size start : Int} {a : Option Addr} {n c : Nat} {ds : List Day}
end
end Go.Proofs.Ytbmkacnlhlbnjaa
namespace Go.Proofs.Ytbmkacnlhlbnjaa
open Go.X Go.X.Cist Go.Conc
set_option maxRecDepth 10000

set_option maxHeartbeats 8000000
theorem e11 (h : Heap) (p : PHeap) (hp : Per p h) (size start : Int) (a : Option Addr) (n c : Nat) (ds : List Day) (D : Days p a n ds) (k : Int) (hk64 : -9223372036854775808 ≤ k ∧ k ≤ 9223372036854775807) : EntersX Try.prog (.main true) 11 #[.agg #[.int .i64 (size), .int .i64 (start), .slice a n c], .int .i64 (k)] h fun v h' => v = .bool true ∧ Keep h h' := by
  refine enters_intro (Φ := fun h_ => St h [] p h_ []) Try.func11 rfl (tm := [_, _, _, _, _, _, _, _, _, _, _, _, _, _, _, _, _, _, _, _, _, _, _, _, _, _, _, _, _, _, _, _, _, _, _, _, _, _, _, _, _, _, _, _, _, _, _, _, _, _, _, _, _, _, _, _, _, _, _, _, _, _, _, _, _, _, _, _, _, _, _, _, _, _, _, _, _, _, _, _, _, _, _, _, _, _, _, _, _, _, _, _, _]) rfl ?_ (St.start h _ hp)
  intro K
  have hl := D.len
  refine fl_seq ?_
  refine rl_start ?_
  refine rl_box (met_none rfl) (v := .agg #[.int .i64 (size), .int .i64 (start), .slice a n c]) rfl fun b1 => rl_own (L' := [(b1, .cells #[.int .i64 (size), .int .i64 (start), .slice a n c] 24 (0, 0))]) rfl ?_
  refine rl_det (met_none rfl) (fun h_ H_ => exd_assign (v := .bool (false)) rfl) rfl ?_
  refine rl_end ?_
  refine fl_seq ?_
  refine fl_seq ?_
  refine rl_start ?_
  refine rl_det (met_none rfl) (fun h_ H_ => exd_loadN_own H_ tA24 tS24 rfl (i := 0) rfl (vs := [.int .i64 (size), .int .i64 (start), .slice a n c]) rfl rfl) (tm' := _::_::_::_::_::_::_::_::_::_::_) rfl ?_
  refine rl_calld (met_none rfl) (first := []) (cap := []) rfl rfl fC21 (fun h_ H_ => c21 (.main true) _ _ (fun b_ o_ e_ => H_.per b_ o_ e_) size start _ _ _ _ D) rfl ?_
  refine rl_det (met_none rfl) (fun h_ H_ => exd_not rfl) rfl ?_
  refine rl_det (met_none rfl) (fun h_ H_ => exd_move (v := .bool (!(decide (¬ FarD size start ds ∧ ds.length ≤ 40 ∧ Ok size start ds)))) rfl) (tm' := _::_::_::_::_::_::_::_::_::_::_::_::_::_) rfl ?_
  by_cases cc2 : ¬ FarD size start ds ∧ ds.length ≤ 40 ∧ Ok size start ds
  · refine rl_det (met_some rfl rfl (not_f (decide_eq_true cc2))) (fun h_ H_ => exd_move (v := .int .i64 (k)) rfl) rfl ?_
    refine rl_calld (met_some rfl rfl (not_f (decide_eq_true cc2))) (first := []) (cap := []) rfl rfl fC22 (fun h_ H_ => c22 (.main true) _ (k) (0) (60)) rfl ?_
    refine rl_det (met_some rfl rfl (not_f (decide_eq_true cc2))) (fun h_ H_ => exd_not rfl) (tm' := _::_::_::_::_::_::_::_::_::_::_::_::_::_::_::_::_) rfl ?_
    refine rl_det (met_none rfl) (fun h_ H_ => exd_pick_f rfl (not_f (decide_eq_true cc2)) (v := .bool (!(decide (0 ≤ k ∧ k ≤ 60)))) rfl) rfl ?_
    refine rl_end ?_
    by_cases cc3 : 0 ≤ k ∧ k ≤ 60
    · refine fl_else rfl (not_f (decide_eq_true cc3)) ?_
      refine fl_skip ?_
      refine fl_seq ?_
      have hfew := (‹¬ FarD size start ds ∧ ds.length ≤ 40 ∧ Ok size start ds›)
      have hOk := hfew.2.2
      have hz := size_iff hOk; have hs := start_iff hOk
      have hz1 := hz.1; have hz2 := hz.2.1; have hs1 := hs.1; have hs2 := hs.2.1; have ho := hOk.2.1
      have hJ1 := just_size hOk hz.2.2 (show 0 ≤ k by omega) (show k ≤ 60 by omega)
      have hJ2 := fun (q : k ≤ size) => just_start hOk hs.2.2 (show 0 ≤ k by omega) q
      refine rl_start ?_
      refine rl_det (met_none rfl) (fun h_ H_ => exd_loadN_own H_ tA24 tS24 rfl (i := 0) rfl (vs := [.int .i64 (size), .int .i64 (start), .slice a n c]) rfl rfl) rfl ?_
      refine rl_calld (met_none rfl) (first := []) (cap := []) rfl rfl fC45 (fun h_ H_ => c45 (.main true) _ _ (fun b_ o_ e_ => H_.per b_ o_ e_) (size) (start) _ _ _ _ D (by omega)) (tm' := _::_::_::_::_::_::_::_::_::_::_::_::_::_::_::_::_::_::_::_::_::_) rfl ?_
      refine rl_det (met_none rfl) (fun h_ H_ => exd_move (v := .tuple #[.int .i64 ((sizeR size start ds).1), .int .i64 ((sizeR size start ds).2)]) rfl) rfl ?_
      refine rl_det (met_none rfl) (fun h_ H_ => exd_extract rfl (v := .int .i64 ((sizeR size start ds).1)) rfl) rfl ?_
      refine rl_det (met_none rfl) (fun h_ H_ => exd_extract rfl (v := .int .i64 ((sizeR size start ds).2)) rfl) (tm' := _::_::_::_::_::_::_::_::_::_::_::_::_::_::_::_::_::_::_::_::_::_::_::_) rfl ?_
      refine rl_det (met_none rfl) (fun h_ H_ => exd_assign (v := .int .i64 ((sizeR size start ds).1)) rfl) rfl ?_
      refine rl_det (met_none rfl) (fun h_ H_ => exd_assign (v := .int .i64 ((sizeR size start ds).2)) rfl) rfl ?_
      refine rl_end ?_
      refine fl_seq ?_
      refine rl_start ?_
      refine rl_det (met_none rfl) (fun h_ H_ => exd_loadN_own H_ tA24 tS24 rfl (i := 0) rfl (vs := [.int .i64 (size), .int .i64 (start), .slice a n c]) rfl rfl) (tm' := _::_::_::_::_::_::_::_::_::_::_::_::_::_::_::_::_::_::_::_::_::_::_::_::_::_) rfl ?_
      refine rl_calld (met_none rfl) (first := []) (cap := []) rfl rfl fC46 (fun h_ H_ => c46 (.main true) _ _ (fun b_ o_ e_ => H_.per b_ o_ e_) (size) (start) _ _ _ _ D (by omega)) rfl ?_
      refine rl_det (met_none rfl) (fun h_ H_ => exd_move (v := .tuple #[.int .i64 ((startR size start ds).1), .int .i64 ((startR size start ds).2)]) rfl) rfl ?_
      refine rl_det (met_none rfl) (fun h_ H_ => exd_extract rfl (v := .int .i64 ((startR size start ds).1)) rfl) (tm' := _::_::_::_::_::_::_::_::_::_::_::_::_::_::_::_::_::_::_::_::_::_::_::_::_::_::_::_) rfl ?_
      refine rl_det (met_none rfl) (fun h_ H_ => exd_extract rfl (v := .int .i64 ((startR size start ds).2)) rfl) rfl ?_
      refine rl_det (met_none rfl) (fun h_ H_ => exd_assign (v := .int .i64 ((startR size start ds).1)) rfl) rfl ?_
      refine rl_det (met_none rfl) (fun h_ H_ => exd_assign (v := .int .i64 ((startR size start ds).2)) rfl) (tm' := _::_::_::_::_::_::_::_::_::_) rfl ?_
      refine rl_end ?_
      refine fl_seq ?_
      refine fl_seq ?_
      refine rl_start ?_
      refine rl_det (met_none rfl) (fun h_ H_ => exd_move (v := .int .i64 ((sizeR size start ds).2)) rfl) rfl ?_
      refine rl_det (met_none rfl) (fun h_ H_ => exd_neq rfl rfl) rfl ?_
      refine rl_det (met_none rfl) (fun h_ H_ => exd_move (v := .bool (decide ((sizeR size start ds).2 ≠ 0))) rfl) (tm' := _::_::_::_::_::_::_::_::_::_::_::_::_::_::_::_::_::_::_::_::_::_::_::_::_::_::_::_::_::_::_::_) rfl ?_
      by_cases cc4 : (sizeR size start ds).2 ≠ 0
      · refine rl_det (met_some rfl rfl (decide_eq_true cc4)) (fun h_ H_ => exd_move (v := .int .i64 ((sizeR size start ds).2)) rfl) rfl ?_
        refine rl_det (met_some rfl rfl (decide_eq_true cc4)) (fun h_ H_ => exd_neq rfl rfl) rfl ?_
        refine rl_det (met_none rfl) (fun h_ H_ => exd_pick_t rfl (decide_eq_true cc4) (v := .bool (decide ((sizeR size start ds).2 ≠ 3))) rfl) (tm' := _::_::_::_::_::_::_::_::_::_::_::_::_::_::_::_::_::_::_::_::_::_::_::_::_::_::_::_::_::_::_::_::_::_::_) rfl ?_
        refine rl_det (met_none rfl) (fun h_ H_ => exd_move (v := .bool (decide ((sizeR size start ds).2 ≠ 3))) rfl) rfl ?_
        by_cases cc5 : (sizeR size start ds).2 ≠ 3
        · omega
        · refine rl_det (met_some rfl rfl (decide_eq_false cc5)) (fun h_ H_ => exd_move (v := .int .i64 ((startR size start ds).2)) rfl) rfl ?_
          refine rl_det (met_some rfl rfl (decide_eq_false cc5)) (fun h_ H_ => exd_neq rfl rfl) (tm' := _::_::_::_::_::_::_::_::_::_::_::_::_::_::_::_::_::_::_::_::_::_::_::_::_::_::_::_::_::_::_::_::_::_::_::_::_::_) rfl ?_
          refine rl_det (met_some rfl rfl (decide_eq_false cc5)) (fun h_ H_ => exd_move (v := .bool (decide ((startR size start ds).2 ≠ 0))) rfl) rfl ?_
          by_cases cc6 : (startR size start ds).2 ≠ 0
          · refine rl_det (met_some rfl rfl (decide_eq_true cc6)) (fun h_ H_ => exd_move (v := .int .i64 ((startR size start ds).2)) rfl) rfl ?_
            refine rl_det (met_some rfl rfl (decide_eq_true cc6)) (fun h_ H_ => exd_neq rfl rfl) (tm' := _::_::_::_::_::_::_::_::_::_::_::_::_::_::_::_::_::_::_::_::_::_::_::_::_::_::_::_::_::_::_::_::_::_::_::_::_::_::_::_::_) rfl ?_
            refine rl_det (met_some rfl rfl (decide_eq_false cc5)) (fun h_ H_ => exd_pick_t rfl (decide_eq_true cc6) (v := .bool (decide ((startR size start ds).2 ≠ 3))) rfl) rfl ?_
            refine rl_det (met_none rfl) (fun h_ H_ => exd_pick_f rfl (decide_eq_false cc5) (v := .bool (decide ((startR size start ds).2 ≠ 3))) rfl) rfl ?_
            refine rl_det (met_none rfl) (fun h_ H_ => exd_move (v := .bool (decide ((startR size start ds).2 ≠ 3))) rfl) (tm' := _::_::_::_::_::_::_::_::_::_::_::_::_::_::_::_::_::_::_::_::_::_::_::_::_::_::_::_::_::_::_::_::_::_::_::_::_::_::_::_::_::_::_::_) rfl ?_
            by_cases cc7 : (startR size start ds).2 ≠ 3
            · omega
            · refine rl_det (met_some rfl rfl (decide_eq_false cc7)) (fun h_ H_ => exd_move (v := .int .i64 ((sizeR size start ds).1)) rfl) rfl ?_
              refine rl_det (met_some rfl rfl (decide_eq_false cc7)) (fun h_ H_ => exd_lss rfl rfl) rfl ?_
              refine rl_det (met_none rfl) (fun h_ H_ => exd_pick_f rfl (decide_eq_false cc7) (v := .bool (decide ((sizeR size start ds).1 < 0))) rfl) (tm' := _::_::_::_::_::_::_::_::_::_::_::_::_::_::_::_::_::_::_::_::_::_::_::_::_::_::_::_::_::_::_::_::_::_::_::_::_::_::_::_::_::_::_::_::_::_::_) rfl ?_
              refine rl_det (met_none rfl) (fun h_ H_ => exd_move (v := .bool (decide ((sizeR size start ds).1 < 0))) rfl) rfl ?_
              refine rl_det (met_some rfl rfl (decide_eq_false (by omega))) (fun h_ H_ => exd_move (v := .int .i64 ((sizeR size start ds).1)) rfl) rfl ?_
              refine rl_det (met_some rfl rfl (decide_eq_false (by omega))) (fun h_ H_ => exd_gtr rfl rfl) (tm' := _::_::_::_::_::_::_::_::_::_::_::_::_::_::_::_::_::_::_::_::_::_::_::_::_::_::_::_::_::_::_::_::_::_::_::_::_::_::_::_::_::_::_::_::_::_::_::_::_::_) rfl ?_
              refine rl_det (met_none rfl) (fun h_ H_ => exd_pick_f rfl (decide_eq_false (by omega)) (v := .bool (decide (60 < (sizeR size start ds).1))) rfl) rfl ?_
              refine rl_det (met_none rfl) (fun h_ H_ => exd_move (v := .bool (decide (60 < (sizeR size start ds).1))) rfl) rfl ?_
              refine rl_det (met_some rfl rfl (decide_eq_false (by omega))) (fun h_ H_ => exd_move (v := .int .i64 ((startR size start ds).1)) rfl) (tm' := _::_::_::_::_::_::_::_::_::_::_::_::_::_::_::_::_::_::_::_::_::_::_::_::_::_::_::_::_::_::_::_::_::_::_::_::_::_::_::_::_::_::_::_::_::_::_::_::_::_::_::_::_) rfl ?_
              refine rl_det (met_some rfl rfl (decide_eq_false (by omega))) (fun h_ H_ => exd_lss rfl rfl) rfl ?_
              refine rl_det (met_none rfl) (fun h_ H_ => exd_pick_f rfl (decide_eq_false (by omega)) (v := .bool (decide ((startR size start ds).1 < 0))) rfl) rfl ?_
              refine rl_det (met_none rfl) (fun h_ H_ => exd_move (v := .bool (decide ((startR size start ds).1 < 0))) rfl) (tm' := _::_::_::_::_::_::_::_::_::_::_::_::_::_::_::_::_::_::_::_::_::_::_::_::_::_::_::_::_::_::_::_::_::_::_::_::_::_::_::_::_::_::_::_::_::_::_::_::_::_::_::_::_::_::_::_) rfl ?_
              refine rl_det (met_some rfl rfl (decide_eq_false (by omega))) (fun h_ H_ => exd_move (v := .int .i64 ((startR size start ds).1)) rfl) rfl ?_
              refine rl_det (met_some rfl rfl (decide_eq_false (by omega))) (fun h_ H_ => exd_fieldAddr tF24_0 rfl (a' := ⟨b1, 0, none⟩) rfl) rfl ?_
              refine rl_det (met_some rfl rfl (decide_eq_false (by omega))) (fun h_ H_ => exd_load_own H_ tA3 rfl (i := 0) rfl (v := .int .i64 (size)) rfl) (tm' := _::_::_::_::_::_::_::_::_::_::_::_::_::_::_::_::_::_::_::_::_::_::_::_::_::_::_::_::_::_::_::_::_::_::_::_::_::_::_::_::_::_::_::_::_::_::_::_::_::_::_::_::_::_::_::_::_::_::_) rfl ?_
              refine rl_det (met_some rfl rfl (decide_eq_false (by omega))) (fun h_ H_ => exd_gtr rfl rfl) rfl ?_
              refine rl_det (met_none rfl) (fun h_ H_ => exd_pick_f rfl (decide_eq_false (by omega)) (v := .bool (decide (size < (startR size start ds).1))) rfl) rfl ?_
              refine rl_end ?_
              refine fl_else rfl (decide_eq_false (by omega)) ?_
              refine fl_skip ?_
              refine fl_seq ?_
              refine fl_seq ?_
              refine rl_start ?_
              refine rl_det (met_none rfl) (fun h_ H_ => exd_loadN_own H_ tA24 tS24 rfl (i := 0) rfl (vs := [.int .i64 (size), .int .i64 (start), .slice a n c]) rfl rfl) (tm' := _::_::_::_::_::_::_::_::_::_::_::_::_::_::_::_::_::_::_::_::_::_::_::_::_::_::_::_::_::_::_::_::_::_::_::_::_::_::_::_::_::_::_::_::_::_::_::_::_::_::_::_::_::_::_::_::_::_::_::_::_::_) rfl ?_
              refine rl_det (met_none rfl) (fun h_ H_ => exd_move (v := .int .i64 (k)) rfl) rfl ?_
              refine rl_own (L' := ([(b1, .cells #[.int .i64 (size), .int .i64 (start), .slice a n c] 24 (0, 0))] : Pcs) ++ []) rfl ?_
              refine rl_call (met_none rfl) (first := []) (cap := []) rfl rfl fC47 (R := fun v_ h_ => ∃ w8 : Value, ∃ X9 : Pcs, v_ = .agg #[.int .i64 (k), .int .i64 (min start k), w8] ∧ (OwnS 38 3 w8 (dcs ds) X9) ∧ St h [] p h_ (([(b1, .cells #[.int .i64 (size), .int .i64 (start), .slice a n c] 24 (0, 0))] : Pcs) ++ (X9 ++ []))) (fun h_ H_ => (c47 (.main true) _ _ (fun b_ o_ e_ => H_.per b_ o_ e_) (size) (start) _ _ _ _ D (by omega) k).mono fun v_ h2_ ⟨w8, X9, e_, o10, N_⟩ => ⟨w8, X9, e_, o10, H_.callNA N_⟩) fun v_ => ?_
              refine rl_ex fun w8 => rl_ex fun X9 => rl_and fun ev_ => rl_and fun o10 => ?_
              have ev_ := ev_.symm; subst ev_
              refine rl_own (L' := ([(b1, .cells #[.int .i64 (size), .int .i64 (start), .slice a n c] 24 (0, 0))] : Pcs) ++ (X9 ++ [])) rfl ?_
              refine rl_lastN (A := ([(b1, .cells #[.int .i64 (size), .int .i64 (start), .slice a n c] 24 (0, 0))] : Pcs)) o10 (show (dcs ds).length = n by rw [dcs_length]; omega) fun p11 a12 cp13 le14 ev_ D15 => ?_
              subst ev_
              refine rl_own (L' := [(b1, .cells #[.int .i64 (size), .int .i64 (start), .slice a n c] 24 (0, 0))]) rfl ?_
              refine rl_calld (met_none rfl) (first := []) (cap := []) rfl rfl fC24 (fun h_ H_ => c24 _ _ (fun b_ o_ e_ => H_.per b_ o_ e_) (k) (min start k) _ _ _ _ (show Days _ _ _ ds from D15) (by omega)) (tm' := [_,_,_,_,_,_,_,_,_,_,_,_,_,_,_,_,_,_,_,_,_,_,_,_,_,_,_,_,_,_,_,_,_,_,_,_,_,_,_,_,_,_,_,_,_,_,_,_,_,_,_,_,_,_,_,_,_,_,_,_,_,_,_,_,_,_,_,_,_,_,_,_,_,_,_,_,_,_,_,_,_,_,_,_,_,_,_,_,_,_,_,_,_]) rfl ?_
              refine rl_det (met_none rfl) (fun h_ H_ => exd_move (v := .int .i64 ((sizeR size start ds).2)) rfl) rfl ?_
              refine rl_det (met_none rfl) (fun h_ H_ => exd_eql rfl rfl) rfl ?_
              refine rl_det (met_none rfl) (fun h_ H_ => exd_move (v := .bool (decide ((sizeR size start ds).2 = 0))) rfl) (tm' := [_,_,_,_,_,_,_,_,_,_,_,_,_,_,_,_,_,_,_,_,_,_,_,_,_,_,_,_,_,_,_,_,_,_,_,_,_,_,_,_,_,_,_,_,_,_,_,_,_,_,_,_,_,_,_,_,_,_,_,_,_,_,_,_,_,_,_,_,_,_,_,_,_,_,_,_,_,_,_,_,_,_,_,_,_,_,_,_,_,_,_,_,_]) rfl ?_
              refine rl_pass (met_not rfl rfl (decide_eq_false (of_decide_eq_true (decide_eq_true cc4)))) rfl ?_
              refine rl_pass (met_not rfl rfl (decide_eq_false (of_decide_eq_true (decide_eq_true cc4)))) rfl ?_
              refine rl_pass (met_not rfl rfl (decide_eq_false (of_decide_eq_true (decide_eq_true cc4)))) (tm' := [_,_,_,_,_,_,_,_,_,_,_,_,_,_,_,_,_,_,_,_,_,_,_,_,_,_,_,_,_,_,_,_,_,_,_,_,_,_,_,_,_,_,_,_,_,_,_,_,_,_,_,_,_,_,_,_,_,_,_,_,_,_,_,_,_,_,_,_,_,_,_,_,_,_,_,_,_,_,_,_,_,_,_,_,_,_,_,_,_,_,_,_,_]) rfl ?_
              refine rl_det (met_none rfl) (fun h_ H_ => exd_pick_f rfl (decide_eq_false (of_decide_eq_true (decide_eq_true cc4))) (v := .bool (false)) rfl) rfl ?_
              refine rl_det (met_none rfl) (fun h_ H_ => exd_neqP (p := Ok k (min start k) ds ∧ Lasts k (min start k) ds) (q := False) Try.underlying4 rfl rfl) rfl ?_
              refine rl_end ?_
              refine fl_else rfl (not_f (decide_eq_true (hJ1.trans ⟨fun x => absurd x.1 (by omega), False.elim⟩))) ?_
              refine fl_skip ?_
              refine fl_seq ?_
              refine rl_start ?_
              refine rl_det (met_none rfl) (fun h_ H_ => exd_move (v := .int .i64 (k)) rfl) (tm' := [_,_,_,_,_,_,_,_,_,_,_,_,_,_,_,_,_,_,_,_,_,_,_,_,_,_,_,_,_,_,_,_,_,_,_,_,_,_,_,_,_,_,_,_,_,_,_,_,_,_,_,_,_,_,_,_,_,_,_,_,_,_,_,_,_,_,_,_,_,_,_,_,_,_,_,_,_,_,_,_,_,_,_,_,_,_,_,_,_,_,_,_,_]) rfl ?_
              refine rl_det (met_none rfl) (fun h_ H_ => exd_fieldAddr tF24_0 rfl (a' := ⟨b1, 0, none⟩) rfl) rfl ?_
              refine rl_det (met_none rfl) (fun h_ H_ => exd_load_own H_ tA3 rfl (i := 0) rfl (v := .int .i64 (size)) rfl) rfl ?_
              refine rl_det (met_none rfl) (fun h_ H_ => exd_gtr rfl rfl) (tm' := [_,_,_,_,_,_,_,_,_,_,_,_,_,_,_,_,_,_,_,_,_,_,_,_,_,_,_,_,_,_,_,_,_,_,_,_,_,_,_,_,_,_,_,_,_,_,_,_,_,_,_,_,_,_,_,_,_,_,_,_,_,_,_,_,_,_,_,_,_,_,_,_,_,_,_,_,_,_,_,_,_,_,_,_,_,_,_,_,_,_,_,_,_]) rfl ?_
              refine rl_det (met_none rfl) (fun h_ H_ => exd_move (v := .bool (decide (size < k))) rfl) rfl ?_
              by_cases cc16 : size < k
              · refine rl_pass (met_not rfl rfl (decide_eq_true cc16)) rfl ?_
                refine rl_pass (met_not rfl rfl (decide_eq_true cc16)) (tm' := [_,_,_,_,_,_,_,_,_,_,_,_,_,_,_,_,_,_,_,_,_,_,_,_,_,_,_,_,_,_,_,_,_,_,_,_,_,_,_,_,_,_,_,_,_,_,_,_,_,_,_,_,_,_,_,_,_,_,_,_,_,_,_,_,_,_,_,_,_,_,_,_,_,_,_,_,_,_,_,_,_,_,_,_,_,_,_,_,_,_,_,_,_]) rfl ?_
                refine rl_pass (met_not rfl rfl (decide_eq_true cc16)) rfl ?_
                refine rl_pass (met_not rfl rfl (decide_eq_true cc16)) rfl ?_
                refine rl_pass (met_not rfl rfl (decide_eq_true cc16)) (tm' := [_,_,_,_,_,_,_,_,_,_,_,_,_,_,_,_,_,_,_,_,_,_,_,_,_,_,_,_,_,_,_,_,_,_,_,_,_,_,_,_,_,_,_,_,_,_,_,_,_,_,_,_,_,_,_,_,_,_,_,_,_,_,_,_,_,_,_,_,_,_,_,_,_,_,_,_,_,_,_,_,_,_,_,_,_,_,_,_,_,_,_,_,_]) rfl ?_
                refine rl_pass (met_not rfl rfl (decide_eq_true cc16)) rfl ?_
                refine rl_pass (met_not rfl rfl (decide_eq_true cc16)) rfl ?_
                refine rl_pass (met_undef rfl rfl) (tm' := [_,_,_,_,_,_,_,_,_,_,_,_,_,_,_,_,_,_,_,_,_,_,_,_,_,_,_,_,_,_,_,_,_,_,_,_,_,_,_,_,_,_,_,_,_,_,_,_,_,_,_,_,_,_,_,_,_,_,_,_,_,_,_,_,_,_,_,_,_,_,_,_,_,_,_,_,_,_,_,_,_,_,_,_,_,_,_,_,_,_,_,_,_]) rfl ?_
                refine rl_pass (met_undef rfl rfl) rfl ?_
                refine rl_pass (met_undef rfl rfl) rfl ?_
                refine rl_pass (met_not rfl rfl (decide_eq_true cc16)) (tm' := [_,_,_,_,_,_,_,_,_,_,_,_,_,_,_,_,_,_,_,_,_,_,_,_,_,_,_,_,_,_,_,_,_,_,_,_,_,_,_,_,_,_,_,_,_,_,_,_,_,_,_,_,_,_,_,_,_,_,_,_,_,_,_,_,_,_,_,_,_,_,_,_,_,_,_,_,_,_,_,_,_,_,_,_,_,_,_,_,_,_,_,_,_]) rfl ?_
                refine rl_pass (met_not rfl rfl (decide_eq_true cc16)) rfl ?_
                refine rl_det (met_none rfl) (fun h_ H_ => exd_pick_t rfl (decide_eq_true cc16) (v := .bool (true)) rfl) rfl ?_
                refine rl_det (met_none rfl) (fun h_ H_ => exd_move (v := .bool (true)) rfl) (tm' := [_,_,_,_,_,_,_,_,_,_,_,_,_,_,_,_,_,_,_,_,_,_,_,_,_,_,_,_,_,_,_,_,_,_,_,_,_,_,_,_,_,_,_,_,_,_,_,_,_,_,_,_,_,_,_,_,_,_,_,_,_,_,_,_,_,_,_,_,_,_,_,_,_,_,_,_,_,_,_,_,_,_,_,_,_,_,_,_,_,_,_,_,_]) rfl ?_
                refine rl_calld (met_some rfl rfl rfl) (first := []) (cap := []) rfl rfl fC18 (fun h_ H_ => c18 _) rfl ?_
                refine rl_det (met_none rfl) (fun h_ H_ => exd_pick_t rfl rfl (v := .bool (true)) rfl) rfl ?_
                refine rl_det (met_none rfl) (fun h_ H_ => exd_assign (v := .bool (true)) rfl) (tm' := _::_::_::_::_::_) rfl ?_
                refine rl_end ?_
                refine fl_retE (by kernel_rfl) Try.func11 rfl (vs := [.bool (true)]) (fun h_ H_ => ⟨.bool (true), _, rfl, rfl, rfl⟩) (v := .bool (true)) rfl ?_
                exact fun h_ H_ => K _ _ ⟨rfl, H_.kept⟩
              · refine rl_det (met_some rfl rfl (decide_eq_false cc16)) (fun h_ H_ => exd_loadN_own H_ tA24 tS24 rfl (i := 0) rfl (vs := [.int .i64 (size), .int .i64 (start), .slice a n c]) rfl rfl) rfl ?_
                refine rl_det (met_some rfl rfl (decide_eq_false cc16)) (fun h_ H_ => exd_move (v := .int .i64 (k)) rfl) rfl ?_
                refine rl_own (L' := ([(b1, .cells #[.int .i64 (size), .int .i64 (start), .slice a n c] 24 (0, 0))] : Pcs) ++ []) rfl ?_
                refine rl_call (met_some rfl rfl (decide_eq_false cc16)) (first := []) (cap := []) rfl rfl fC48 (R := fun v_ h_ => ∃ w17 : Value, ∃ X18 : Pcs, v_ = .agg #[.int .i64 (size), .int .i64 (k), w17] ∧ (OwnS 38 3 w17 (dcs ds) X18) ∧ St h [] p11 h_ (([(b1, .cells #[.int .i64 (size), .int .i64 (start), .slice a n c] 24 (0, 0))] : Pcs) ++ (X18 ++ []))) (fun h_ H_ => (c48 (.main true) _ _ (fun b_ o_ e_ => H_.per b_ o_ e_) (size) (start) _ _ _ _ (D.mono le14) (by omega) k).mono fun v_ h2_ ⟨w17, X18, e_, o19, N_⟩ => ⟨w17, X18, e_, o19, H_.callNA N_⟩) fun v_ => ?_
                refine rl_ex fun w17 => rl_ex fun X18 => rl_and fun ev_ => rl_and fun o19 => ?_
                have ev_ := ev_.symm; subst ev_
                refine rl_own (L' := ([(b1, .cells #[.int .i64 (size), .int .i64 (start), .slice a n c] 24 (0, 0))] : Pcs) ++ (X18 ++ [])) rfl ?_
                refine rl_norm (tm' := [_,_,_,_,_,_,_,_,_,_,_,_,_,_,_,_,_,_,_,_,_,_,_,_,_,_,_,_,_,_,_,_,_,_,_,_,_,_,_,_,_,_,_,_,_,_,_,_,_,_,_,_,_,_,_,_,_,_,_,_,_,_,_,_,_,_,_,_,_,_,_,_,_,_,_,_,_,_,_,_,_,_,_,_,_,_,_,_,_,_,_,_,_]) rfl ?_
                refine rl_lastN (A := ([(b1, .cells #[.int .i64 (size), .int .i64 (start), .slice a n c] 24 (0, 0))] : Pcs)) o19 (show (dcs ds).length = n by rw [dcs_length]; omega) fun p20 a21 cp22 le23 ev_ D24 => ?_
                subst ev_
                refine rl_own (L' := [(b1, .cells #[.int .i64 (size), .int .i64 (start), .slice a n c] 24 (0, 0))]) rfl ?_
                refine rl_calld (met_some rfl rfl (decide_eq_false cc16)) (first := []) (cap := []) rfl rfl fC24 (fun h_ H_ => c24 _ _ (fun b_ o_ e_ => H_.per b_ o_ e_) (size) (k) _ _ _ _ (show Days _ _ _ ds from D24) (by omega)) rfl ?_
                refine rl_det (met_some rfl rfl (decide_eq_false cc16)) (fun h_ H_ => exd_move (v := .int .i64 ((startR size start ds).2)) rfl) rfl ?_
                refine rl_det (met_some rfl rfl (decide_eq_false cc16)) (fun h_ H_ => exd_eql rfl rfl) (tm' := [_,_,_,_,_,_,_,_,_,_,_,_,_,_,_,_,_,_,_,_,_,_,_,_,_,_,_,_,_,_,_,_,_,_,_,_,_,_,_,_,_,_,_,_,_,_,_,_,_,_,_,_,_,_,_,_,_,_,_,_,_,_,_,_,_,_,_,_,_,_,_,_,_,_,_,_,_,_,_,_,_,_,_,_,_,_,_,_,_,_,_,_,_]) rfl ?_
                refine rl_det (met_some rfl rfl (decide_eq_false cc16)) (fun h_ H_ => exd_move (v := .bool (decide ((startR size start ds).2 = 0))) rfl) rfl ?_
                refine rl_pass (met_not rfl rfl (decide_eq_false (of_decide_eq_true (decide_eq_true cc6)))) rfl ?_
                refine rl_pass (met_not rfl rfl (decide_eq_false (of_decide_eq_true (decide_eq_true cc6)))) (tm' := [_,_,_,_,_,_,_,_,_,_,_,_,_,_,_,_,_,_,_,_,_,_,_,_,_,_,_,_,_,_,_,_,_,_,_,_,_,_,_,_,_,_,_,_,_,_,_,_,_,_,_,_,_,_,_,_,_,_,_,_,_,_,_,_,_,_,_,_,_,_,_,_,_,_,_,_,_,_,_,_,_,_,_,_,_,_,_,_,_,_,_,_,_]) rfl ?_
                refine rl_pass (met_not rfl rfl (decide_eq_false (of_decide_eq_true (decide_eq_true cc6)))) rfl ?_
                refine rl_det (met_some rfl rfl (decide_eq_false cc16)) (fun h_ H_ => exd_pick_f rfl (decide_eq_false (of_decide_eq_true (decide_eq_true cc6))) (v := .bool (false)) rfl) rfl ?_
                refine rl_det (met_some rfl rfl (decide_eq_false cc16)) (fun h_ H_ => exd_eqlP (p := Ok size k ds ∧ Lasts size k ds) (q := False) Try.underlying4 rfl rfl) (tm' := [_,_,_,_,_,_,_,_,_,_,_,_,_,_,_,_,_,_,_,_,_,_,_,_,_,_,_,_,_,_,_,_,_,_,_,_,_,_,_,_,_,_,_,_,_,_,_,_,_,_,_,_,_,_,_,_,_,_,_,_,_,_,_,_,_,_,_,_,_,_,_,_,_,_,_,_,_,_,_,_,_,_,_,_,_,_,_,_,_,_,_,_,_]) rfl ?_
                refine rl_det (met_none rfl) (fun h_ H_ => exd_pick_f rfl (decide_eq_false cc16) (v := .bool (decide ((Ok size k ds ∧ Lasts size k ds) ↔ (False)))) rfl) rfl ?_
                refine rl_det (met_none rfl) (fun h_ H_ => exd_move (v := .bool (decide ((Ok size k ds ∧ Lasts size k ds) ↔ (False)))) rfl) rfl ?_
                refine rl_calld (met_some rfl rfl (decide_eq_true ((hJ2 (by omega)).trans ⟨fun x => absurd x.1 (by omega), False.elim⟩))) (first := []) (cap := []) rfl rfl fC18 (fun h_ H_ => c18 _) (tm' := [_,_,_,_,_,_,_,_,_,_,_,_,_,_,_,_,_,_,_,_,_,_,_,_,_,_,_,_,_,_,_,_,_,_,_,_,_,_,_,_,_,_,_,_,_,_,_,_,_,_,_,_,_,_,_,_,_,_,_,_,_,_,_,_,_,_,_,_,_,_,_,_,_,_,_,_,_,_,_,_,_,_,_,_,_,_,_,_,_,_,_,_,_]) rfl ?_
                refine rl_det (met_none rfl) (fun h_ H_ => exd_pick_t rfl (decide_eq_true ((hJ2 (by omega)).trans ⟨fun x => absurd x.1 (by omega), False.elim⟩)) (v := .bool (true)) rfl) rfl ?_
                refine rl_det (met_none rfl) (fun h_ H_ => exd_assign (v := .bool (true)) rfl) rfl ?_
                refine rl_end ?_
                refine fl_retE (by kernel_rfl) Try.func11 rfl (vs := [.bool (true)]) (fun h_ H_ => ⟨.bool (true), _, rfl, rfl, rfl⟩) (v := .bool (true)) rfl ?_
                exact fun h_ H_ => K _ _ ⟨rfl, H_.kept⟩
          · refine rl_pass (met_not rfl rfl (decide_eq_false cc6)) (tm' := _::_::_::_::_::_::_::_::_::_::_::_::_::_::_::_::_::_::_::_::_::_::_::_::_::_::_::_::_::_::_::_::_::_::_::_::_::_::_::_) rfl ?_
            refine rl_pass (met_not rfl rfl (decide_eq_false cc6)) rfl ?_
            refine rl_det (met_some rfl rfl (decide_eq_false cc5)) (fun h_ H_ => exd_pick_f rfl (decide_eq_false cc6) (v := .bool (false)) rfl) rfl ?_
            refine rl_det (met_none rfl) (fun h_ H_ => exd_pick_f rfl (decide_eq_false cc5) (v := .bool (false)) rfl) (tm' := _::_::_::_::_::_::_::_::_::_::_::_::_::_::_::_::_::_::_::_::_::_::_::_::_::_::_::_::_::_::_::_::_::_::_::_::_::_::_::_::_::_::_) rfl ?_
            refine rl_det (met_none rfl) (fun h_ H_ => exd_move (v := .bool (false)) rfl) rfl ?_
            refine rl_det (met_some rfl rfl rfl) (fun h_ H_ => exd_move (v := .int .i64 ((sizeR size start ds).1)) rfl) rfl ?_
            refine rl_det (met_some rfl rfl rfl) (fun h_ H_ => exd_lss rfl rfl) (tm' := _::_::_::_::_::_::_::_::_::_::_::_::_::_::_::_::_::_::_::_::_::_::_::_::_::_::_::_::_::_::_::_::_::_::_::_::_::_::_::_::_::_::_::_::_::_) rfl ?_
            refine rl_det (met_none rfl) (fun h_ H_ => exd_pick_f rfl rfl (v := .bool (decide ((sizeR size start ds).1 < 0))) rfl) rfl ?_
            refine rl_det (met_none rfl) (fun h_ H_ => exd_move (v := .bool (decide ((sizeR size start ds).1 < 0))) rfl) rfl ?_
            refine rl_det (met_some rfl rfl (decide_eq_false (by omega))) (fun h_ H_ => exd_move (v := .int .i64 ((sizeR size start ds).1)) rfl) (tm' := _::_::_::_::_::_::_::_::_::_::_::_::_::_::_::_::_::_::_::_::_::_::_::_::_::_::_::_::_::_::_::_::_::_::_::_::_::_::_::_::_::_::_::_::_::_::_::_::_) rfl ?_
            refine rl_det (met_some rfl rfl (decide_eq_false (by omega))) (fun h_ H_ => exd_gtr rfl rfl) rfl ?_
            refine rl_det (met_none rfl) (fun h_ H_ => exd_pick_f rfl (decide_eq_false (by omega)) (v := .bool (decide (60 < (sizeR size start ds).1))) rfl) rfl ?_
            refine rl_det (met_none rfl) (fun h_ H_ => exd_move (v := .bool (decide (60 < (sizeR size start ds).1))) rfl) (tm' := _::_::_::_::_::_::_::_::_::_::_::_::_::_::_::_::_::_::_::_::_::_::_::_::_::_::_::_::_::_::_::_::_::_::_::_::_::_::_::_::_::_::_::_::_::_::_::_::_::_::_::_) rfl ?_
            refine rl_det (met_some rfl rfl (decide_eq_false (by omega))) (fun h_ H_ => exd_move (v := .int .i64 ((startR size start ds).1)) rfl) rfl ?_
            refine rl_det (met_some rfl rfl (decide_eq_false (by omega))) (fun h_ H_ => exd_lss rfl rfl) rfl ?_
            refine rl_det (met_none rfl) (fun h_ H_ => exd_pick_f rfl (decide_eq_false (by omega)) (v := .bool (decide ((startR size start ds).1 < 0))) rfl) (tm' := _::_::_::_::_::_::_::_::_::_::_::_::_::_::_::_::_::_::_::_::_::_::_::_::_::_::_::_::_::_::_::_::_::_::_::_::_::_::_::_::_::_::_::_::_::_::_::_::_::_::_::_::_::_::_) rfl ?_
            refine rl_det (met_none rfl) (fun h_ H_ => exd_move (v := .bool (decide ((startR size start ds).1 < 0))) rfl) rfl ?_
            refine rl_det (met_some rfl rfl (decide_eq_false (by omega))) (fun h_ H_ => exd_move (v := .int .i64 ((startR size start ds).1)) rfl) rfl ?_
            refine rl_det (met_some rfl rfl (decide_eq_false (by omega))) (fun h_ H_ => exd_fieldAddr tF24_0 rfl (a' := ⟨b1, 0, none⟩) rfl) (tm' := _::_::_::_::_::_::_::_::_::_::_::_::_::_::_::_::_::_::_::_::_::_::_::_::_::_::_::_::_::_::_::_::_::_::_::_::_::_::_::_::_::_::_::_::_::_::_::_::_::_::_::_::_::_::_::_::_::_) rfl ?_
            refine rl_det (met_some rfl rfl (decide_eq_false (by omega))) (fun h_ H_ => exd_load_own H_ tA3 rfl (i := 0) rfl (v := .int .i64 (size)) rfl) rfl ?_
            refine rl_det (met_some rfl rfl (decide_eq_false (by omega))) (fun h_ H_ => exd_gtr rfl rfl) rfl ?_
            refine rl_det (met_none rfl) (fun h_ H_ => exd_pick_f rfl (decide_eq_false (by omega)) (v := .bool (decide (size < (startR size start ds).1))) rfl) (tm' := _::_::_::_::_::_::_::_::_::_::_::_::_::_::_::_::_::_::_::_::_::_::_::_::_::_::_::_::_::_::_::_::_::_::_::_::_::_::_::_::_::_::_::_::_::_::_::_::_::_::_::_::_::_::_::_::_::_::_::_::_) rfl ?_
            refine rl_end ?_
            refine fl_else rfl (decide_eq_false (by omega)) ?_
            refine fl_skip ?_
            refine fl_seq ?_
            refine fl_seq ?_
            refine rl_start ?_
            refine rl_det (met_none rfl) (fun h_ H_ => exd_loadN_own H_ tA24 tS24 rfl (i := 0) rfl (vs := [.int .i64 (size), .int .i64 (start), .slice a n c]) rfl rfl) rfl ?_
            refine rl_det (met_none rfl) (fun h_ H_ => exd_move (v := .int .i64 (k)) rfl) rfl ?_
            refine rl_own (L' := ([(b1, .cells #[.int .i64 (size), .int .i64 (start), .slice a n c] 24 (0, 0))] : Pcs) ++ []) rfl ?_
            refine rl_call (met_none rfl) (first := []) (cap := []) rfl rfl fC47 (R := fun v_ h_ => ∃ w25 : Value, ∃ X26 : Pcs, v_ = .agg #[.int .i64 (k), .int .i64 (min start k), w25] ∧ (OwnS 38 3 w25 (dcs ds) X26) ∧ St h [] p h_ (([(b1, .cells #[.int .i64 (size), .int .i64 (start), .slice a n c] 24 (0, 0))] : Pcs) ++ (X26 ++ []))) (fun h_ H_ => (c47 (.main true) _ _ (fun b_ o_ e_ => H_.per b_ o_ e_) (size) (start) _ _ _ _ D (by omega) k).mono fun v_ h2_ ⟨w25, X26, e_, o27, N_⟩ => ⟨w25, X26, e_, o27, H_.callNA N_⟩) fun v_ => ?_
            refine rl_ex fun w25 => rl_ex fun X26 => rl_and fun ev_ => rl_and fun o27 => ?_
            have ev_ := ev_.symm; subst ev_
            refine rl_own (L' := ([(b1, .cells #[.int .i64 (size), .int .i64 (start), .slice a n c] 24 (0, 0))] : Pcs) ++ (X26 ++ [])) rfl ?_
            refine rl_norm (tm' := [_,_,_,_,_,_,_,_,_,_,_,_,_,_,_,_,_,_,_,_,_,_,_,_,_,_,_,_,_,_,_,_,_,_,_,_,_,_,_,_,_,_,_,_,_,_,_,_,_,_,_,_,_,_,_,_,_,_,_,_,_,_,_,_,_,_,_,_,_,_,_,_,_,_,_,_,_,_,_,_,_,_,_,_,_,_,_,_,_,_,_,_,_]) rfl ?_
            refine rl_lastN (A := ([(b1, .cells #[.int .i64 (size), .int .i64 (start), .slice a n c] 24 (0, 0))] : Pcs)) o27 (show (dcs ds).length = n by rw [dcs_length]; omega) fun p28 a29 cp30 le31 ev_ D32 => ?_
            subst ev_
            refine rl_own (L' := [(b1, .cells #[.int .i64 (size), .int .i64 (start), .slice a n c] 24 (0, 0))]) rfl ?_
            refine rl_calld (met_none rfl) (first := []) (cap := []) rfl rfl fC24 (fun h_ H_ => c24 _ _ (fun b_ o_ e_ => H_.per b_ o_ e_) (k) (min start k) _ _ _ _ (show Days _ _ _ ds from D32) (by omega)) rfl ?_
            refine rl_det (met_none rfl) (fun h_ H_ => exd_move (v := .int .i64 ((sizeR size start ds).2)) rfl) rfl ?_
            refine rl_det (met_none rfl) (fun h_ H_ => exd_eql rfl rfl) (tm' := [_,_,_,_,_,_,_,_,_,_,_,_,_,_,_,_,_,_,_,_,_,_,_,_,_,_,_,_,_,_,_,_,_,_,_,_,_,_,_,_,_,_,_,_,_,_,_,_,_,_,_,_,_,_,_,_,_,_,_,_,_,_,_,_,_,_,_,_,_,_,_,_,_,_,_,_,_,_,_,_,_,_,_,_,_,_,_,_,_,_,_,_,_]) rfl ?_
            refine rl_det (met_none rfl) (fun h_ H_ => exd_move (v := .bool (decide ((sizeR size start ds).2 = 0))) rfl) rfl ?_
            refine rl_pass (met_not rfl rfl (decide_eq_false (of_decide_eq_true (decide_eq_true cc4)))) rfl ?_
            refine rl_pass (met_not rfl rfl (decide_eq_false (of_decide_eq_true (decide_eq_true cc4)))) (tm' := [_,_,_,_,_,_,_,_,_,_,_,_,_,_,_,_,_,_,_,_,_,_,_,_,_,_,_,_,_,_,_,_,_,_,_,_,_,_,_,_,_,_,_,_,_,_,_,_,_,_,_,_,_,_,_,_,_,_,_,_,_,_,_,_,_,_,_,_,_,_,_,_,_,_,_,_,_,_,_,_,_,_,_,_,_,_,_,_,_,_,_,_,_]) rfl ?_
            refine rl_pass (met_not rfl rfl (decide_eq_false (of_decide_eq_true (decide_eq_true cc4)))) rfl ?_
            refine rl_det (met_none rfl) (fun h_ H_ => exd_pick_f rfl (decide_eq_false (of_decide_eq_true (decide_eq_true cc4))) (v := .bool (false)) rfl) rfl ?_
            refine rl_det (met_none rfl) (fun h_ H_ => exd_neqP (p := Ok k (min start k) ds ∧ Lasts k (min start k) ds) (q := False) Try.underlying4 rfl rfl) (tm' := [_,_,_,_,_,_,_,_,_,_,_,_,_,_,_,_,_,_,_,_,_,_,_,_,_,_,_,_,_,_,_,_,_,_,_,_,_,_,_,_,_,_,_,_,_,_,_,_,_,_,_,_,_,_,_,_,_,_,_,_,_,_,_,_,_,_,_,_,_,_,_,_,_,_,_,_,_,_,_,_,_,_,_,_,_,_,_,_,_,_,_,_,_]) rfl ?_
            refine rl_end ?_
            refine fl_else rfl (not_f (decide_eq_true (hJ1.trans ⟨fun x => absurd x.1 (by omega), False.elim⟩))) ?_
            refine fl_skip ?_
            refine fl_seq ?_
            refine rl_start ?_
            refine rl_det (met_none rfl) (fun h_ H_ => exd_move (v := .int .i64 (k)) rfl) rfl ?_
            refine rl_det (met_none rfl) (fun h_ H_ => exd_fieldAddr tF24_0 rfl (a' := ⟨b1, 0, none⟩) rfl) rfl ?_
            refine rl_det (met_none rfl) (fun h_ H_ => exd_load_own H_ tA3 rfl (i := 0) rfl (v := .int .i64 (size)) rfl) (tm' := [_,_,_,_,_,_,_,_,_,_,_,_,_,_,_,_,_,_,_,_,_,_,_,_,_,_,_,_,_,_,_,_,_,_,_,_,_,_,_,_,_,_,_,_,_,_,_,_,_,_,_,_,_,_,_,_,_,_,_,_,_,_,_,_,_,_,_,_,_,_,_,_,_,_,_,_,_,_,_,_,_,_,_,_,_,_,_,_,_,_,_,_,_]) rfl ?_
            refine rl_det (met_none rfl) (fun h_ H_ => exd_gtr rfl rfl) rfl ?_
            refine rl_det (met_none rfl) (fun h_ H_ => exd_move (v := .bool (decide (size < k))) rfl) rfl ?_
            by_cases cc33 : size < k
            · refine rl_pass (met_not rfl rfl (decide_eq_true cc33)) (tm' := [_,_,_,_,_,_,_,_,_,_,_,_,_,_,_,_,_,_,_,_,_,_,_,_,_,_,_,_,_,_,_,_,_,_,_,_,_,_,_,_,_,_,_,_,_,_,_,_,_,_,_,_,_,_,_,_,_,_,_,_,_,_,_,_,_,_,_,_,_,_,_,_,_,_,_,_,_,_,_,_,_,_,_,_,_,_,_,_,_,_,_,_,_]) rfl ?_
              refine rl_pass (met_not rfl rfl (decide_eq_true cc33)) rfl ?_
              refine rl_pass (met_not rfl rfl (decide_eq_true cc33)) rfl ?_
              refine rl_pass (met_not rfl rfl (decide_eq_true cc33)) (tm' := [_,_,_,_,_,_,_,_,_,_,_,_,_,_,_,_,_,_,_,_,_,_,_,_,_,_,_,_,_,_,_,_,_,_,_,_,_,_,_,_,_,_,_,_,_,_,_,_,_,_,_,_,_,_,_,_,_,_,_,_,_,_,_,_,_,_,_,_,_,_,_,_,_,_,_,_,_,_,_,_,_,_,_,_,_,_,_,_,_,_,_,_,_]) rfl ?_
              refine rl_pass (met_not rfl rfl (decide_eq_true cc33)) rfl ?_
              refine rl_pass (met_not rfl rfl (decide_eq_true cc33)) rfl ?_
              refine rl_pass (met_not rfl rfl (decide_eq_true cc33)) (tm' := [_,_,_,_,_,_,_,_,_,_,_,_,_,_,_,_,_,_,_,_,_,_,_,_,_,_,_,_,_,_,_,_,_,_,_,_,_,_,_,_,_,_,_,_,_,_,_,_,_,_,_,_,_,_,_,_,_,_,_,_,_,_,_,_,_,_,_,_,_,_,_,_,_,_,_,_,_,_,_,_,_,_,_,_,_,_,_,_,_,_,_,_,_]) rfl ?_
              refine rl_pass (met_undef rfl rfl) rfl ?_
              refine rl_pass (met_undef rfl rfl) rfl ?_
              refine rl_pass (met_undef rfl rfl) (tm' := [_,_,_,_,_,_,_,_,_,_,_,_,_,_,_,_,_,_,_,_,_,_,_,_,_,_,_,_,_,_,_,_,_,_,_,_,_,_,_,_,_,_,_,_,_,_,_,_,_,_,_,_,_,_,_,_,_,_,_,_,_,_,_,_,_,_,_,_,_,_,_,_,_,_,_,_,_,_,_,_,_,_,_,_,_,_,_,_,_,_,_,_,_]) rfl ?_
              refine rl_pass (met_not rfl rfl (decide_eq_true cc33)) rfl ?_
              refine rl_pass (met_not rfl rfl (decide_eq_true cc33)) rfl ?_
              refine rl_det (met_none rfl) (fun h_ H_ => exd_pick_t rfl (decide_eq_true cc33) (v := .bool (true)) rfl) (tm' := [_,_,_,_,_,_,_,_,_,_,_,_,_,_,_,_,_,_,_,_,_,_,_,_,_,_,_,_,_,_,_,_,_,_,_,_,_,_,_,_,_,_,_,_,_,_,_,_,_,_,_,_,_,_,_,_,_,_,_,_,_,_,_,_,_,_,_,_,_,_,_,_,_,_,_,_,_,_,_,_,_,_,_,_,_,_,_,_,_,_,_,_,_]) rfl ?_
              refine rl_det (met_none rfl) (fun h_ H_ => exd_move (v := .bool (true)) rfl) rfl ?_
              refine rl_calld (met_some rfl rfl rfl) (first := []) (cap := []) rfl rfl fC18 (fun h_ H_ => c18 _) rfl ?_
              refine rl_det (met_none rfl) (fun h_ H_ => exd_pick_t rfl rfl (v := .bool (true)) rfl) (tm' := [_,_,_,_,_,_,_,_,_,_,_,_,_,_,_,_,_,_,_,_,_,_,_,_,_,_,_,_,_,_,_,_,_,_,_,_,_,_,_,_,_,_,_,_,_,_,_,_,_,_,_,_,_,_,_,_,_,_,_,_,_,_,_,_,_,_,_,_,_,_,_,_,_,_,_,_,_,_,_,_,_,_,_,_,_,_,_,_,_,_,_,_,_]) rfl ?_
              refine rl_det (met_none rfl) (fun h_ H_ => exd_assign (v := .bool (true)) rfl) rfl ?_
              refine rl_end ?_
              refine fl_retE (by kernel_rfl) Try.func11 rfl (vs := [.bool (true)]) (fun h_ H_ => ⟨.bool (true), _, rfl, rfl, rfl⟩) (v := .bool (true)) rfl ?_
              exact fun h_ H_ => K _ _ ⟨rfl, H_.kept⟩
            · refine rl_det (met_some rfl rfl (decide_eq_false cc33)) (fun h_ H_ => exd_loadN_own H_ tA24 tS24 rfl (i := 0) rfl (vs := [.int .i64 (size), .int .i64 (start), .slice a n c]) rfl rfl) rfl ?_
              refine rl_det (met_some rfl rfl (decide_eq_false cc33)) (fun h_ H_ => exd_move (v := .int .i64 (k)) rfl) (tm' := [_,_,_,_,_,_,_,_,_,_,_,_,_,_,_,_,_,_,_,_,_,_,_,_,_,_,_,_,_,_,_,_,_,_,_,_,_,_,_,_,_,_,_,_,_,_,_,_,_,_,_,_,_,_,_,_,_,_,_,_,_,_,_,_,_,_,_,_,_,_,_,_,_,_,_,_,_,_,_,_,_,_,_,_,_,_,_,_,_,_,_,_,_]) rfl ?_
              refine rl_own (L' := ([(b1, .cells #[.int .i64 (size), .int .i64 (start), .slice a n c] 24 (0, 0))] : Pcs) ++ []) rfl ?_
              refine rl_call (met_some rfl rfl (decide_eq_false cc33)) (first := []) (cap := []) rfl rfl fC48 (R := fun v_ h_ => ∃ w34 : Value, ∃ X35 : Pcs, v_ = .agg #[.int .i64 (size), .int .i64 (k), w34] ∧ (OwnS 38 3 w34 (dcs ds) X35) ∧ St h [] p28 h_ (([(b1, .cells #[.int .i64 (size), .int .i64 (start), .slice a n c] 24 (0, 0))] : Pcs) ++ (X35 ++ []))) (fun h_ H_ => (c48 (.main true) _ _ (fun b_ o_ e_ => H_.per b_ o_ e_) (size) (start) _ _ _ _ (D.mono le31) (by omega) k).mono fun v_ h2_ ⟨w34, X35, e_, o36, N_⟩ => ⟨w34, X35, e_, o36, H_.callNA N_⟩) fun v_ => ?_
              refine rl_ex fun w34 => rl_ex fun X35 => rl_and fun ev_ => rl_and fun o36 => ?_
              have ev_ := ev_.symm; subst ev_
              refine rl_own (L' := ([(b1, .cells #[.int .i64 (size), .int .i64 (start), .slice a n c] 24 (0, 0))] : Pcs) ++ (X35 ++ [])) rfl ?_
              refine rl_lastN (A := ([(b1, .cells #[.int .i64 (size), .int .i64 (start), .slice a n c] 24 (0, 0))] : Pcs)) o36 (show (dcs ds).length = n by rw [dcs_length]; omega) fun p37 a38 cp39 le40 ev_ D41 => ?_
              subst ev_
              refine rl_own (L' := [(b1, .cells #[.int .i64 (size), .int .i64 (start), .slice a n c] 24 (0, 0))]) rfl ?_
              refine rl_calld (met_some rfl rfl (decide_eq_false cc33)) (first := []) (cap := []) rfl rfl fC24 (fun h_ H_ => c24 _ _ (fun b_ o_ e_ => H_.per b_ o_ e_) (size) (k) _ _ _ _ (show Days _ _ _ ds from D41) (by omega)) rfl ?_
              refine rl_det (met_some rfl rfl (decide_eq_false cc33)) (fun h_ H_ => exd_move (v := .int .i64 ((startR size start ds).2)) rfl) (tm' := [_,_,_,_,_,_,_,_,_,_,_,_,_,_,_,_,_,_,_,_,_,_,_,_,_,_,_,_,_,_,_,_,_,_,_,_,_,_,_,_,_,_,_,_,_,_,_,_,_,_,_,_,_,_,_,_,_,_,_,_,_,_,_,_,_,_,_,_,_,_,_,_,_,_,_,_,_,_,_,_,_,_,_,_,_,_,_,_,_,_,_,_,_]) rfl ?_
              refine rl_det (met_some rfl rfl (decide_eq_false cc33)) (fun h_ H_ => exd_eql rfl rfl) rfl ?_
              refine rl_det (met_some rfl rfl (decide_eq_false cc33)) (fun h_ H_ => exd_move (v := .bool (decide ((startR size start ds).2 = 0))) rfl) rfl ?_
              refine rl_det (met_some rfl rfl (decide_eq_true (Decidable.not_not.1 (of_decide_eq_false (decide_eq_false cc6))))) (fun h_ H_ => exd_move (v := .int .i64 (k)) rfl) (tm' := [_,_,_,_,_,_,_,_,_,_,_,_,_,_,_,_,_,_,_,_,_,_,_,_,_,_,_,_,_,_,_,_,_,_,_,_,_,_,_,_,_,_,_,_,_,_,_,_,_,_,_,_,_,_,_,_,_,_,_,_,_,_,_,_,_,_,_,_,_,_,_,_,_,_,_,_,_,_,_,_,_,_,_,_,_,_,_,_,_,_,_,_,_]) rfl ?_
              refine rl_det (met_some rfl rfl (decide_eq_true (Decidable.not_not.1 (of_decide_eq_false (decide_eq_false cc6))))) (fun h_ H_ => exd_move (v := .int .i64 ((startR size start ds).1)) rfl) rfl ?_
              refine rl_det (met_some rfl rfl (decide_eq_true (Decidable.not_not.1 (of_decide_eq_false (decide_eq_false cc6))))) (fun h_ H_ => exd_geq rfl rfl) rfl ?_
              refine rl_det (met_some rfl rfl (decide_eq_false cc33)) (fun h_ H_ => exd_pick_t rfl (decide_eq_true (Decidable.not_not.1 (of_decide_eq_false (decide_eq_false cc6)))) (v := .bool (decide ((startR size start ds).1 ≤ k))) rfl) (tm' := [_,_,_,_,_,_,_,_,_,_,_,_,_,_,_,_,_,_,_,_,_,_,_,_,_,_,_,_,_,_,_,_,_,_,_,_,_,_,_,_,_,_,_,_,_,_,_,_,_,_,_,_,_,_,_,_,_,_,_,_,_,_,_,_,_,_,_,_,_,_,_,_,_,_,_,_,_,_,_,_,_,_,_,_,_,_,_,_,_,_,_,_,_]) rfl ?_
              refine rl_det (met_some rfl rfl (decide_eq_false cc33)) (fun h_ H_ => exd_eqlP (p := Ok size k ds ∧ Lasts size k ds) (q := (startR size start ds).1 ≤ k) Try.underlying4 rfl rfl) rfl ?_
              refine rl_det (met_none rfl) (fun h_ H_ => exd_pick_f rfl (decide_eq_false cc33) (v := .bool (decide ((Ok size k ds ∧ Lasts size k ds) ↔ ((startR size start ds).1 ≤ k)))) rfl) rfl ?_
              refine rl_det (met_none rfl) (fun h_ H_ => exd_move (v := .bool (decide ((Ok size k ds ∧ Lasts size k ds) ↔ ((startR size start ds).1 ≤ k)))) rfl) (tm' := [_,_,_,_,_,_,_,_,_,_,_,_,_,_,_,_,_,_,_,_,_,_,_,_,_,_,_,_,_,_,_,_,_,_,_,_,_,_,_,_,_,_,_,_,_,_,_,_,_,_,_,_,_,_,_,_,_,_,_,_,_,_,_,_,_,_,_,_,_,_,_,_,_,_,_,_,_,_,_,_,_,_,_,_,_,_,_,_,_,_,_,_,_]) rfl ?_
              refine rl_calld (met_some rfl rfl (decide_eq_true ((hJ2 (by omega)).trans ⟨fun x => x.2, fun x => ⟨by omega, x⟩⟩))) (first := []) (cap := []) rfl rfl fC18 (fun h_ H_ => c18 _) rfl ?_
              refine rl_det (met_none rfl) (fun h_ H_ => exd_pick_t rfl (decide_eq_true ((hJ2 (by omega)).trans ⟨fun x => x.2, fun x => ⟨by omega, x⟩⟩)) (v := .bool (true)) rfl) rfl ?_
              refine rl_det (met_none rfl) (fun h_ H_ => exd_assign (v := .bool (true)) rfl) (tm' := _::_::_::_::_::_) rfl ?_
              refine rl_end ?_
              refine fl_retE (by kernel_rfl) Try.func11 rfl (vs := [.bool (true)]) (fun h_ H_ => ⟨.bool (true), _, rfl, rfl, rfl⟩) (v := .bool (true)) rfl ?_
              exact fun h_ H_ => K _ _ ⟨rfl, H_.kept⟩
      · refine rl_pass (met_not rfl rfl (decide_eq_false cc4)) rfl ?_
        refine rl_pass (met_not rfl rfl (decide_eq_false cc4)) rfl ?_
        refine rl_det (met_none rfl) (fun h_ H_ => exd_pick_f rfl (decide_eq_false cc4) (v := .bool (false)) rfl) (tm' := _::_::_::_::_::_::_::_::_::_::_::_::_::_::_::_::_::_::_::_::_::_::_::_::_::_::_::_::_::_::_::_::_::_::_) rfl ?_
        refine rl_det (met_none rfl) (fun h_ H_ => exd_move (v := .bool (false)) rfl) rfl ?_
        refine rl_det (met_some rfl rfl rfl) (fun h_ H_ => exd_move (v := .int .i64 ((startR size start ds).2)) rfl) rfl ?_
        refine rl_det (met_some rfl rfl rfl) (fun h_ H_ => exd_neq rfl rfl) (tm' := _::_::_::_::_::_::_::_::_::_::_::_::_::_::_::_::_::_::_::_::_::_::_::_::_::_::_::_::_::_::_::_::_::_::_::_::_::_) rfl ?_
        refine rl_det (met_some rfl rfl rfl) (fun h_ H_ => exd_move (v := .bool (decide ((startR size start ds).2 ≠ 0))) rfl) rfl ?_
        by_cases cc42 : (startR size start ds).2 ≠ 0
        · refine rl_det (met_some rfl rfl (decide_eq_true cc42)) (fun h_ H_ => exd_move (v := .int .i64 ((startR size start ds).2)) rfl) rfl ?_
          refine rl_det (met_some rfl rfl (decide_eq_true cc42)) (fun h_ H_ => exd_neq rfl rfl) (tm' := _::_::_::_::_::_::_::_::_::_::_::_::_::_::_::_::_::_::_::_::_::_::_::_::_::_::_::_::_::_::_::_::_::_::_::_::_::_::_::_::_) rfl ?_
          refine rl_det (met_some rfl rfl rfl) (fun h_ H_ => exd_pick_t rfl (decide_eq_true cc42) (v := .bool (decide ((startR size start ds).2 ≠ 3))) rfl) rfl ?_
          refine rl_det (met_none rfl) (fun h_ H_ => exd_pick_f rfl rfl (v := .bool (decide ((startR size start ds).2 ≠ 3))) rfl) rfl ?_
          refine rl_det (met_none rfl) (fun h_ H_ => exd_move (v := .bool (decide ((startR size start ds).2 ≠ 3))) rfl) (tm' := _::_::_::_::_::_::_::_::_::_::_::_::_::_::_::_::_::_::_::_::_::_::_::_::_::_::_::_::_::_::_::_::_::_::_::_::_::_::_::_::_::_::_::_) rfl ?_
          by_cases cc43 : (startR size start ds).2 ≠ 3
          · omega
          · refine rl_det (met_some rfl rfl (decide_eq_false cc43)) (fun h_ H_ => exd_move (v := .int .i64 ((sizeR size start ds).1)) rfl) rfl ?_
            refine rl_det (met_some rfl rfl (decide_eq_false cc43)) (fun h_ H_ => exd_lss rfl rfl) rfl ?_
            refine rl_det (met_none rfl) (fun h_ H_ => exd_pick_f rfl (decide_eq_false cc43) (v := .bool (decide ((sizeR size start ds).1 < 0))) rfl) (tm' := _::_::_::_::_::_::_::_::_::_::_::_::_::_::_::_::_::_::_::_::_::_::_::_::_::_::_::_::_::_::_::_::_::_::_::_::_::_::_::_::_::_::_::_::_::_::_) rfl ?_
            refine rl_det (met_none rfl) (fun h_ H_ => exd_move (v := .bool (decide ((sizeR size start ds).1 < 0))) rfl) rfl ?_
            refine rl_det (met_some rfl rfl (decide_eq_false (by omega))) (fun h_ H_ => exd_move (v := .int .i64 ((sizeR size start ds).1)) rfl) rfl ?_
            refine rl_det (met_some rfl rfl (decide_eq_false (by omega))) (fun h_ H_ => exd_gtr rfl rfl) (tm' := _::_::_::_::_::_::_::_::_::_::_::_::_::_::_::_::_::_::_::_::_::_::_::_::_::_::_::_::_::_::_::_::_::_::_::_::_::_::_::_::_::_::_::_::_::_::_::_::_::_) rfl ?_
            refine rl_det (met_none rfl) (fun h_ H_ => exd_pick_f rfl (decide_eq_false (by omega)) (v := .bool (decide (60 < (sizeR size start ds).1))) rfl) rfl ?_
            refine rl_det (met_none rfl) (fun h_ H_ => exd_move (v := .bool (decide (60 < (sizeR size start ds).1))) rfl) rfl ?_
            refine rl_det (met_some rfl rfl (decide_eq_false (by omega))) (fun h_ H_ => exd_move (v := .int .i64 ((startR size start ds).1)) rfl) (tm' := _::_::_::_::_::_::_::_::_::_::_::_::_::_::_::_::_::_::_::_::_::_::_::_::_::_::_::_::_::_::_::_::_::_::_::_::_::_::_::_::_::_::_::_::_::_::_::_::_::_::_::_::_) rfl ?_
            refine rl_det (met_some rfl rfl (decide_eq_false (by omega))) (fun h_ H_ => exd_lss rfl rfl) rfl ?_
            refine rl_det (met_none rfl) (fun h_ H_ => exd_pick_f rfl (decide_eq_false (by omega)) (v := .bool (decide ((startR size start ds).1 < 0))) rfl) rfl ?_
            refine rl_det (met_none rfl) (fun h_ H_ => exd_move (v := .bool (decide ((startR size start ds).1 < 0))) rfl) (tm' := _::_::_::_::_::_::_::_::_::_::_::_::_::_::_::_::_::_::_::_::_::_::_::_::_::_::_::_::_::_::_::_::_::_::_::_::_::_::_::_::_::_::_::_::_::_::_::_::_::_::_::_::_::_::_::_) rfl ?_
            refine rl_det (met_some rfl rfl (decide_eq_false (by omega))) (fun h_ H_ => exd_move (v := .int .i64 ((startR size start ds).1)) rfl) rfl ?_
            refine rl_det (met_some rfl rfl (decide_eq_false (by omega))) (fun h_ H_ => exd_fieldAddr tF24_0 rfl (a' := ⟨b1, 0, none⟩) rfl) rfl ?_
            refine rl_det (met_some rfl rfl (decide_eq_false (by omega))) (fun h_ H_ => exd_load_own H_ tA3 rfl (i := 0) rfl (v := .int .i64 (size)) rfl) (tm' := _::_::_::_::_::_::_::_::_::_::_::_::_::_::_::_::_::_::_::_::_::_::_::_::_::_::_::_::_::_::_::_::_::_::_::_::_::_::_::_::_::_::_::_::_::_::_::_::_::_::_::_::_::_::_::_::_::_::_) rfl ?_
            refine rl_det (met_some rfl rfl (decide_eq_false (by omega))) (fun h_ H_ => exd_gtr rfl rfl) rfl ?_
            refine rl_det (met_none rfl) (fun h_ H_ => exd_pick_f rfl (decide_eq_false (by omega)) (v := .bool (decide (size < (startR size start ds).1))) rfl) rfl ?_
            refine rl_end ?_
            refine fl_else rfl (decide_eq_false (by omega)) ?_
            refine fl_skip ?_
            refine fl_seq ?_
            refine fl_seq ?_
            refine rl_start ?_
            refine rl_det (met_none rfl) (fun h_ H_ => exd_loadN_own H_ tA24 tS24 rfl (i := 0) rfl (vs := [.int .i64 (size), .int .i64 (start), .slice a n c]) rfl rfl) (tm' := _::_::_::_::_::_::_::_::_::_::_::_::_::_::_::_::_::_::_::_::_::_::_::_::_::_::_::_::_::_::_::_::_::_::_::_::_::_::_::_::_::_::_::_::_::_::_::_::_::_::_::_::_::_::_::_::_::_::_::_::_::_) rfl ?_
            refine rl_det (met_none rfl) (fun h_ H_ => exd_move (v := .int .i64 (k)) rfl) rfl ?_
            refine rl_own (L' := ([(b1, .cells #[.int .i64 (size), .int .i64 (start), .slice a n c] 24 (0, 0))] : Pcs) ++ []) rfl ?_
            refine rl_call (met_none rfl) (first := []) (cap := []) rfl rfl fC47 (R := fun v_ h_ => ∃ w44 : Value, ∃ X45 : Pcs, v_ = .agg #[.int .i64 (k), .int .i64 (min start k), w44] ∧ (OwnS 38 3 w44 (dcs ds) X45) ∧ St h [] p h_ (([(b1, .cells #[.int .i64 (size), .int .i64 (start), .slice a n c] 24 (0, 0))] : Pcs) ++ (X45 ++ []))) (fun h_ H_ => (c47 (.main true) _ _ (fun b_ o_ e_ => H_.per b_ o_ e_) (size) (start) _ _ _ _ D (by omega) k).mono fun v_ h2_ ⟨w44, X45, e_, o46, N_⟩ => ⟨w44, X45, e_, o46, H_.callNA N_⟩) fun v_ => ?_
            refine rl_ex fun w44 => rl_ex fun X45 => rl_and fun ev_ => rl_and fun o46 => ?_
            have ev_ := ev_.symm; subst ev_
            refine rl_own (L' := ([(b1, .cells #[.int .i64 (size), .int .i64 (start), .slice a n c] 24 (0, 0))] : Pcs) ++ (X45 ++ [])) rfl ?_
            refine rl_lastN (A := ([(b1, .cells #[.int .i64 (size), .int .i64 (start), .slice a n c] 24 (0, 0))] : Pcs)) o46 (show (dcs ds).length = n by rw [dcs_length]; omega) fun p47 a48 cp49 le50 ev_ D51 => ?_
            subst ev_
            refine rl_own (L' := [(b1, .cells #[.int .i64 (size), .int .i64 (start), .slice a n c] 24 (0, 0))]) rfl ?_
            refine rl_calld (met_none rfl) (first := []) (cap := []) rfl rfl fC24 (fun h_ H_ => c24 _ _ (fun b_ o_ e_ => H_.per b_ o_ e_) (k) (min start k) _ _ _ _ (show Days _ _ _ ds from D51) (by omega)) (tm' := [_,_,_,_,_,_,_,_,_,_,_,_,_,_,_,_,_,_,_,_,_,_,_,_,_,_,_,_,_,_,_,_,_,_,_,_,_,_,_,_,_,_,_,_,_,_,_,_,_,_,_,_,_,_,_,_,_,_,_,_,_,_,_,_,_,_,_,_,_,_,_,_,_,_,_,_,_,_,_,_,_,_,_,_,_,_,_,_,_,_,_,_,_]) rfl ?_
            refine rl_det (met_none rfl) (fun h_ H_ => exd_move (v := .int .i64 ((sizeR size start ds).2)) rfl) rfl ?_
            refine rl_det (met_none rfl) (fun h_ H_ => exd_eql rfl rfl) rfl ?_
            refine rl_det (met_none rfl) (fun h_ H_ => exd_move (v := .bool (decide ((sizeR size start ds).2 = 0))) rfl) (tm' := [_,_,_,_,_,_,_,_,_,_,_,_,_,_,_,_,_,_,_,_,_,_,_,_,_,_,_,_,_,_,_,_,_,_,_,_,_,_,_,_,_,_,_,_,_,_,_,_,_,_,_,_,_,_,_,_,_,_,_,_,_,_,_,_,_,_,_,_,_,_,_,_,_,_,_,_,_,_,_,_,_,_,_,_,_,_,_,_,_,_,_,_,_]) rfl ?_
            refine rl_det (met_some rfl rfl (decide_eq_true (Decidable.not_not.1 (of_decide_eq_false (decide_eq_false cc4))))) (fun h_ H_ => exd_move (v := .int .i64 (k)) rfl) rfl ?_
            refine rl_det (met_some rfl rfl (decide_eq_true (Decidable.not_not.1 (of_decide_eq_false (decide_eq_false cc4))))) (fun h_ H_ => exd_move (v := .int .i64 ((sizeR size start ds).1)) rfl) rfl ?_
            refine rl_det (met_some rfl rfl (decide_eq_true (Decidable.not_not.1 (of_decide_eq_false (decide_eq_false cc4))))) (fun h_ H_ => exd_geq rfl rfl) (tm' := [_,_,_,_,_,_,_,_,_,_,_,_,_,_,_,_,_,_,_,_,_,_,_,_,_,_,_,_,_,_,_,_,_,_,_,_,_,_,_,_,_,_,_,_,_,_,_,_,_,_,_,_,_,_,_,_,_,_,_,_,_,_,_,_,_,_,_,_,_,_,_,_,_,_,_,_,_,_,_,_,_,_,_,_,_,_,_,_,_,_,_,_,_]) rfl ?_
            refine rl_det (met_none rfl) (fun h_ H_ => exd_pick_t rfl (decide_eq_true (Decidable.not_not.1 (of_decide_eq_false (decide_eq_false cc4)))) (v := .bool (decide ((sizeR size start ds).1 ≤ k))) rfl) rfl ?_
            refine rl_det (met_none rfl) (fun h_ H_ => exd_neqP (p := Ok k (min start k) ds ∧ Lasts k (min start k) ds) (q := (sizeR size start ds).1 ≤ k) Try.underlying4 rfl rfl) rfl ?_
            refine rl_end ?_
            refine fl_else rfl (not_f (decide_eq_true (hJ1.trans ⟨fun x => x.2, fun x => ⟨by omega, x⟩⟩))) ?_
            refine fl_skip ?_
            refine fl_seq ?_
            refine rl_start ?_
            refine rl_det (met_none rfl) (fun h_ H_ => exd_move (v := .int .i64 (k)) rfl) (tm' := [_,_,_,_,_,_,_,_,_,_,_,_,_,_,_,_,_,_,_,_,_,_,_,_,_,_,_,_,_,_,_,_,_,_,_,_,_,_,_,_,_,_,_,_,_,_,_,_,_,_,_,_,_,_,_,_,_,_,_,_,_,_,_,_,_,_,_,_,_,_,_,_,_,_,_,_,_,_,_,_,_,_,_,_,_,_,_,_,_,_,_,_,_]) rfl ?_
            refine rl_det (met_none rfl) (fun h_ H_ => exd_fieldAddr tF24_0 rfl (a' := ⟨b1, 0, none⟩) rfl) rfl ?_
            refine rl_det (met_none rfl) (fun h_ H_ => exd_load_own H_ tA3 rfl (i := 0) rfl (v := .int .i64 (size)) rfl) rfl ?_
            refine rl_det (met_none rfl) (fun h_ H_ => exd_gtr rfl rfl) (tm' := [_,_,_,_,_,_,_,_,_,_,_,_,_,_,_,_,_,_,_,_,_,_,_,_,_,_,_,_,_,_,_,_,_,_,_,_,_,_,_,_,_,_,_,_,_,_,_,_,_,_,_,_,_,_,_,_,_,_,_,_,_,_,_,_,_,_,_,_,_,_,_,_,_,_,_,_,_,_,_,_,_,_,_,_,_,_,_,_,_,_,_,_,_]) rfl ?_
            refine rl_det (met_none rfl) (fun h_ H_ => exd_move (v := .bool (decide (size < k))) rfl) rfl ?_
            by_cases cc52 : size < k
            · refine rl_pass (met_not rfl rfl (decide_eq_true cc52)) rfl ?_
              refine rl_pass (met_not rfl rfl (decide_eq_true cc52)) (tm' := [_,_,_,_,_,_,_,_,_,_,_,_,_,_,_,_,_,_,_,_,_,_,_,_,_,_,_,_,_,_,_,_,_,_,_,_,_,_,_,_,_,_,_,_,_,_,_,_,_,_,_,_,_,_,_,_,_,_,_,_,_,_,_,_,_,_,_,_,_,_,_,_,_,_,_,_,_,_,_,_,_,_,_,_,_,_,_,_,_,_,_,_,_]) rfl ?_
              refine rl_pass (met_not rfl rfl (decide_eq_true cc52)) rfl ?_
              refine rl_pass (met_not rfl rfl (decide_eq_true cc52)) rfl ?_
              refine rl_pass (met_not rfl rfl (decide_eq_true cc52)) (tm' := [_,_,_,_,_,_,_,_,_,_,_,_,_,_,_,_,_,_,_,_,_,_,_,_,_,_,_,_,_,_,_,_,_,_,_,_,_,_,_,_,_,_,_,_,_,_,_,_,_,_,_,_,_,_,_,_,_,_,_,_,_,_,_,_,_,_,_,_,_,_,_,_,_,_,_,_,_,_,_,_,_,_,_,_,_,_,_,_,_,_,_,_,_]) rfl ?_
              refine rl_pass (met_not rfl rfl (decide_eq_true cc52)) rfl ?_
              refine rl_pass (met_not rfl rfl (decide_eq_true cc52)) rfl ?_
              refine rl_pass (met_undef rfl rfl) (tm' := [_,_,_,_,_,_,_,_,_,_,_,_,_,_,_,_,_,_,_,_,_,_,_,_,_,_,_,_,_,_,_,_,_,_,_,_,_,_,_,_,_,_,_,_,_,_,_,_,_,_,_,_,_,_,_,_,_,_,_,_,_,_,_,_,_,_,_,_,_,_,_,_,_,_,_,_,_,_,_,_,_,_,_,_,_,_,_,_,_,_,_,_,_]) rfl ?_
              refine rl_pass (met_undef rfl rfl) rfl ?_
              refine rl_pass (met_undef rfl rfl) rfl ?_
              refine rl_pass (met_not rfl rfl (decide_eq_true cc52)) (tm' := [_,_,_,_,_,_,_,_,_,_,_,_,_,_,_,_,_,_,_,_,_,_,_,_,_,_,_,_,_,_,_,_,_,_,_,_,_,_,_,_,_,_,_,_,_,_,_,_,_,_,_,_,_,_,_,_,_,_,_,_,_,_,_,_,_,_,_,_,_,_,_,_,_,_,_,_,_,_,_,_,_,_,_,_,_,_,_,_,_,_,_,_,_]) rfl ?_
              refine rl_pass (met_not rfl rfl (decide_eq_true cc52)) rfl ?_
              refine rl_det (met_none rfl) (fun h_ H_ => exd_pick_t rfl (decide_eq_true cc52) (v := .bool (true)) rfl) rfl ?_
              refine rl_det (met_none rfl) (fun h_ H_ => exd_move (v := .bool (true)) rfl) (tm' := [_,_,_,_,_,_,_,_,_,_,_,_,_,_,_,_,_,_,_,_,_,_,_,_,_,_,_,_,_,_,_,_,_,_,_,_,_,_,_,_,_,_,_,_,_,_,_,_,_,_,_,_,_,_,_,_,_,_,_,_,_,_,_,_,_,_,_,_,_,_,_,_,_,_,_,_,_,_,_,_,_,_,_,_,_,_,_,_,_,_,_,_,_]) rfl ?_
              refine rl_calld (met_some rfl rfl rfl) (first := []) (cap := []) rfl rfl fC18 (fun h_ H_ => c18 _) rfl ?_
              refine rl_det (met_none rfl) (fun h_ H_ => exd_pick_t rfl rfl (v := .bool (true)) rfl) rfl ?_
              refine rl_det (met_none rfl) (fun h_ H_ => exd_assign (v := .bool (true)) rfl) (tm' := _::_::_::_::_::_) rfl ?_
              refine rl_end ?_
              refine fl_retE (by kernel_rfl) Try.func11 rfl (vs := [.bool (true)]) (fun h_ H_ => ⟨.bool (true), _, rfl, rfl, rfl⟩) (v := .bool (true)) rfl ?_
              exact fun h_ H_ => K _ _ ⟨rfl, H_.kept⟩
            · refine rl_det (met_some rfl rfl (decide_eq_false cc52)) (fun h_ H_ => exd_loadN_own H_ tA24 tS24 rfl (i := 0) rfl (vs := [.int .i64 (size), .int .i64 (start), .slice a n c]) rfl rfl) rfl ?_
              refine rl_det (met_some rfl rfl (decide_eq_false cc52)) (fun h_ H_ => exd_move (v := .int .i64 (k)) rfl) rfl ?_
              refine rl_own (L' := ([(b1, .cells #[.int .i64 (size), .int .i64 (start), .slice a n c] 24 (0, 0))] : Pcs) ++ []) rfl ?_
              refine rl_call (met_some rfl rfl (decide_eq_false cc52)) (first := []) (cap := []) rfl rfl fC48 (R := fun v_ h_ => ∃ w53 : Value, ∃ X54 : Pcs, v_ = .agg #[.int .i64 (size), .int .i64 (k), w53] ∧ (OwnS 38 3 w53 (dcs ds) X54) ∧ St h [] p47 h_ (([(b1, .cells #[.int .i64 (size), .int .i64 (start), .slice a n c] 24 (0, 0))] : Pcs) ++ (X54 ++ []))) (fun h_ H_ => (c48 (.main true) _ _ (fun b_ o_ e_ => H_.per b_ o_ e_) (size) (start) _ _ _ _ (D.mono le50) (by omega) k).mono fun v_ h2_ ⟨w53, X54, e_, o55, N_⟩ => ⟨w53, X54, e_, o55, H_.callNA N_⟩) fun v_ => ?_
              refine rl_ex fun w53 => rl_ex fun X54 => rl_and fun ev_ => rl_and fun o55 => ?_
              have ev_ := ev_.symm; subst ev_
              refine rl_own (L' := ([(b1, .cells #[.int .i64 (size), .int .i64 (start), .slice a n c] 24 (0, 0))] : Pcs) ++ (X54 ++ [])) rfl ?_
              refine rl_norm (tm' := [_,_,_,_,_,_,_,_,_,_,_,_,_,_,_,_,_,_,_,_,_,_,_,_,_,_,_,_,_,_,_,_,_,_,_,_,_,_,_,_,_,_,_,_,_,_,_,_,_,_,_,_,_,_,_,_,_,_,_,_,_,_,_,_,_,_,_,_,_,_,_,_,_,_,_,_,_,_,_,_,_,_,_,_,_,_,_,_,_,_,_,_,_]) rfl ?_
              refine rl_lastN (A := ([(b1, .cells #[.int .i64 (size), .int .i64 (start), .slice a n c] 24 (0, 0))] : Pcs)) o55 (show (dcs ds).length = n by rw [dcs_length]; omega) fun p56 a57 cp58 le59 ev_ D60 => ?_
              subst ev_
              refine rl_own (L' := [(b1, .cells #[.int .i64 (size), .int .i64 (start), .slice a n c] 24 (0, 0))]) rfl ?_
              refine rl_calld (met_some rfl rfl (decide_eq_false cc52)) (first := []) (cap := []) rfl rfl fC24 (fun h_ H_ => c24 _ _ (fun b_ o_ e_ => H_.per b_ o_ e_) (size) (k) _ _ _ _ (show Days _ _ _ ds from D60) (by omega)) rfl ?_
              refine rl_det (met_some rfl rfl (decide_eq_false cc52)) (fun h_ H_ => exd_move (v := .int .i64 ((startR size start ds).2)) rfl) rfl ?_
              refine rl_det (met_some rfl rfl (decide_eq_false cc52)) (fun h_ H_ => exd_eql rfl rfl) (tm' := [_,_,_,_,_,_,_,_,_,_,_,_,_,_,_,_,_,_,_,_,_,_,_,_,_,_,_,_,_,_,_,_,_,_,_,_,_,_,_,_,_,_,_,_,_,_,_,_,_,_,_,_,_,_,_,_,_,_,_,_,_,_,_,_,_,_,_,_,_,_,_,_,_,_,_,_,_,_,_,_,_,_,_,_,_,_,_,_,_,_,_,_,_]) rfl ?_
              refine rl_det (met_some rfl rfl (decide_eq_false cc52)) (fun h_ H_ => exd_move (v := .bool (decide ((startR size start ds).2 = 0))) rfl) rfl ?_
              refine rl_pass (met_not rfl rfl (decide_eq_false (of_decide_eq_true (decide_eq_true cc42)))) rfl ?_
              refine rl_pass (met_not rfl rfl (decide_eq_false (of_decide_eq_true (decide_eq_true cc42)))) (tm' := [_,_,_,_,_,_,_,_,_,_,_,_,_,_,_,_,_,_,_,_,_,_,_,_,_,_,_,_,_,_,_,_,_,_,_,_,_,_,_,_,_,_,_,_,_,_,_,_,_,_,_,_,_,_,_,_,_,_,_,_,_,_,_,_,_,_,_,_,_,_,_,_,_,_,_,_,_,_,_,_,_,_,_,_,_,_,_,_,_,_,_,_,_]) rfl ?_
              refine rl_pass (met_not rfl rfl (decide_eq_false (of_decide_eq_true (decide_eq_true cc42)))) rfl ?_
              refine rl_det (met_some rfl rfl (decide_eq_false cc52)) (fun h_ H_ => exd_pick_f rfl (decide_eq_false (of_decide_eq_true (decide_eq_true cc42))) (v := .bool (false)) rfl) rfl ?_
              refine rl_det (met_some rfl rfl (decide_eq_false cc52)) (fun h_ H_ => exd_eqlP (p := Ok size k ds ∧ Lasts size k ds) (q := False) Try.underlying4 rfl rfl) (tm' := [_,_,_,_,_,_,_,_,_,_,_,_,_,_,_,_,_,_,_,_,_,_,_,_,_,_,_,_,_,_,_,_,_,_,_,_,_,_,_,_,_,_,_,_,_,_,_,_,_,_,_,_,_,_,_,_,_,_,_,_,_,_,_,_,_,_,_,_,_,_,_,_,_,_,_,_,_,_,_,_,_,_,_,_,_,_,_,_,_,_,_,_,_]) rfl ?_
              refine rl_det (met_none rfl) (fun h_ H_ => exd_pick_f rfl (decide_eq_false cc52) (v := .bool (decide ((Ok size k ds ∧ Lasts size k ds) ↔ (False)))) rfl) rfl ?_
              refine rl_det (met_none rfl) (fun h_ H_ => exd_move (v := .bool (decide ((Ok size k ds ∧ Lasts size k ds) ↔ (False)))) rfl) rfl ?_
              refine rl_calld (met_some rfl rfl (decide_eq_true ((hJ2 (by omega)).trans ⟨fun x => absurd x.1 (by omega), False.elim⟩))) (first := []) (cap := []) rfl rfl fC18 (fun h_ H_ => c18 _) (tm' := [_,_,_,_,_,_,_,_,_,_,_,_,_,_,_,_,_,_,_,_,_,_,_,_,_,_,_,_,_,_,_,_,_,_,_,_,_,_,_,_,_,_,_,_,_,_,_,_,_,_,_,_,_,_,_,_,_,_,_,_,_,_,_,_,_,_,_,_,_,_,_,_,_,_,_,_,_,_,_,_,_,_,_,_,_,_,_,_,_,_,_,_,_]) rfl ?_
              refine rl_det (met_none rfl) (fun h_ H_ => exd_pick_t rfl (decide_eq_true ((hJ2 (by omega)).trans ⟨fun x => absurd x.1 (by omega), False.elim⟩)) (v := .bool (true)) rfl) rfl ?_
              refine rl_det (met_none rfl) (fun h_ H_ => exd_assign (v := .bool (true)) rfl) rfl ?_
              refine rl_end ?_
              refine fl_retE (by kernel_rfl) Try.func11 rfl (vs := [.bool (true)]) (fun h_ H_ => ⟨.bool (true), _, rfl, rfl, rfl⟩) (v := .bool (true)) rfl ?_
              exact fun h_ H_ => K _ _ ⟨rfl, H_.kept⟩
        · refine rl_pass (met_not rfl rfl (decide_eq_false cc42)) (tm' := _::_::_::_::_::_::_::_::_::_::_::_::_::_::_::_::_::_::_::_::_::_::_::_::_::_::_::_::_::_::_::_::_::_::_::_::_::_::_::_) rfl ?_
          refine rl_pass (met_not rfl rfl (decide_eq_false cc42)) rfl ?_
          refine rl_det (met_some rfl rfl rfl) (fun h_ H_ => exd_pick_f rfl (decide_eq_false cc42) (v := .bool (false)) rfl) rfl ?_
          refine rl_det (met_none rfl) (fun h_ H_ => exd_pick_f rfl rfl (v := .bool (false)) rfl) (tm' := _::_::_::_::_::_::_::_::_::_::_::_::_::_::_::_::_::_::_::_::_::_::_::_::_::_::_::_::_::_::_::_::_::_::_::_::_::_::_::_::_::_::_) rfl ?_
          refine rl_det (met_none rfl) (fun h_ H_ => exd_move (v := .bool (false)) rfl) rfl ?_
          refine rl_det (met_some rfl rfl rfl) (fun h_ H_ => exd_move (v := .int .i64 ((sizeR size start ds).1)) rfl) rfl ?_
          refine rl_det (met_some rfl rfl rfl) (fun h_ H_ => exd_lss rfl rfl) (tm' := _::_::_::_::_::_::_::_::_::_::_::_::_::_::_::_::_::_::_::_::_::_::_::_::_::_::_::_::_::_::_::_::_::_::_::_::_::_::_::_::_::_::_::_::_::_) rfl ?_
          refine rl_det (met_none rfl) (fun h_ H_ => exd_pick_f rfl rfl (v := .bool (decide ((sizeR size start ds).1 < 0))) rfl) rfl ?_
          refine rl_det (met_none rfl) (fun h_ H_ => exd_move (v := .bool (decide ((sizeR size start ds).1 < 0))) rfl) rfl ?_
          refine rl_det (met_some rfl rfl (decide_eq_false (by omega))) (fun h_ H_ => exd_move (v := .int .i64 ((sizeR size start ds).1)) rfl) (tm' := _::_::_::_::_::_::_::_::_::_::_::_::_::_::_::_::_::_::_::_::_::_::_::_::_::_::_::_::_::_::_::_::_::_::_::_::_::_::_::_::_::_::_::_::_::_::_::_::_) rfl ?_
          refine rl_det (met_some rfl rfl (decide_eq_false (by omega))) (fun h_ H_ => exd_gtr rfl rfl) rfl ?_
          refine rl_det (met_none rfl) (fun h_ H_ => exd_pick_f rfl (decide_eq_false (by omega)) (v := .bool (decide (60 < (sizeR size start ds).1))) rfl) rfl ?_
          refine rl_det (met_none rfl) (fun h_ H_ => exd_move (v := .bool (decide (60 < (sizeR size start ds).1))) rfl) (tm' := _::_::_::_::_::_::_::_::_::_::_::_::_::_::_::_::_::_::_::_::_::_::_::_::_::_::_::_::_::_::_::_::_::_::_::_::_::_::_::_::_::_::_::_::_::_::_::_::_::_::_::_) rfl ?_
          refine rl_det (met_some rfl rfl (decide_eq_false (by omega))) (fun h_ H_ => exd_move (v := .int .i64 ((startR size start ds).1)) rfl) rfl ?_
          refine rl_det (met_some rfl rfl (decide_eq_false (by omega))) (fun h_ H_ => exd_lss rfl rfl) rfl ?_
          refine rl_det (met_none rfl) (fun h_ H_ => exd_pick_f rfl (decide_eq_false (by omega)) (v := .bool (decide ((startR size start ds).1 < 0))) rfl) (tm' := _::_::_::_::_::_::_::_::_::_::_::_::_::_::_::_::_::_::_::_::_::_::_::_::_::_::_::_::_::_::_::_::_::_::_::_::_::_::_::_::_::_::_::_::_::_::_::_::_::_::_::_::_::_::_) rfl ?_
          refine rl_det (met_none rfl) (fun h_ H_ => exd_move (v := .bool (decide ((startR size start ds).1 < 0))) rfl) rfl ?_
          refine rl_det (met_some rfl rfl (decide_eq_false (by omega))) (fun h_ H_ => exd_move (v := .int .i64 ((startR size start ds).1)) rfl) rfl ?_
          refine rl_det (met_some rfl rfl (decide_eq_false (by omega))) (fun h_ H_ => exd_fieldAddr tF24_0 rfl (a' := ⟨b1, 0, none⟩) rfl) (tm' := _::_::_::_::_::_::_::_::_::_::_::_::_::_::_::_::_::_::_::_::_::_::_::_::_::_::_::_::_::_::_::_::_::_::_::_::_::_::_::_::_::_::_::_::_::_::_::_::_::_::_::_::_::_::_::_::_::_) rfl ?_
          refine rl_det (met_some rfl rfl (decide_eq_false (by omega))) (fun h_ H_ => exd_load_own H_ tA3 rfl (i := 0) rfl (v := .int .i64 (size)) rfl) rfl ?_
          refine rl_det (met_some rfl rfl (decide_eq_false (by omega))) (fun h_ H_ => exd_gtr rfl rfl) rfl ?_
          refine rl_det (met_none rfl) (fun h_ H_ => exd_pick_f rfl (decide_eq_false (by omega)) (v := .bool (decide (size < (startR size start ds).1))) rfl) (tm' := _::_::_::_::_::_::_::_::_::_::_::_::_::_::_::_::_::_::_::_::_::_::_::_::_::_::_::_::_::_::_::_::_::_::_::_::_::_::_::_::_::_::_::_::_::_::_::_::_::_::_::_::_::_::_::_::_::_::_::_::_) rfl ?_
          refine rl_end ?_
          refine fl_else rfl (decide_eq_false (by omega)) ?_
          refine fl_skip ?_
          refine fl_seq ?_
          refine fl_seq ?_
          refine rl_start ?_
          refine rl_det (met_none rfl) (fun h_ H_ => exd_loadN_own H_ tA24 tS24 rfl (i := 0) rfl (vs := [.int .i64 (size), .int .i64 (start), .slice a n c]) rfl rfl) rfl ?_
          refine rl_det (met_none rfl) (fun h_ H_ => exd_move (v := .int .i64 (k)) rfl) rfl ?_
          refine rl_own (L' := ([(b1, .cells #[.int .i64 (size), .int .i64 (start), .slice a n c] 24 (0, 0))] : Pcs) ++ []) rfl ?_
          refine rl_call (met_none rfl) (first := []) (cap := []) rfl rfl fC47 (R := fun v_ h_ => ∃ w61 : Value, ∃ X62 : Pcs, v_ = .agg #[.int .i64 (k), .int .i64 (min start k), w61] ∧ (OwnS 38 3 w61 (dcs ds) X62) ∧ St h [] p h_ (([(b1, .cells #[.int .i64 (size), .int .i64 (start), .slice a n c] 24 (0, 0))] : Pcs) ++ (X62 ++ []))) (fun h_ H_ => (c47 (.main true) _ _ (fun b_ o_ e_ => H_.per b_ o_ e_) (size) (start) _ _ _ _ D (by omega) k).mono fun v_ h2_ ⟨w61, X62, e_, o63, N_⟩ => ⟨w61, X62, e_, o63, H_.callNA N_⟩) fun v_ => ?_
          refine rl_ex fun w61 => rl_ex fun X62 => rl_and fun ev_ => rl_and fun o63 => ?_
          have ev_ := ev_.symm; subst ev_
          refine rl_own (L' := ([(b1, .cells #[.int .i64 (size), .int .i64 (start), .slice a n c] 24 (0, 0))] : Pcs) ++ (X62 ++ [])) rfl ?_
          refine rl_norm (tm' := [_,_,_,_,_,_,_,_,_,_,_,_,_,_,_,_,_,_,_,_,_,_,_,_,_,_,_,_,_,_,_,_,_,_,_,_,_,_,_,_,_,_,_,_,_,_,_,_,_,_,_,_,_,_,_,_,_,_,_,_,_,_,_,_,_,_,_,_,_,_,_,_,_,_,_,_,_,_,_,_,_,_,_,_,_,_,_,_,_,_,_,_,_]) rfl ?_
          refine rl_lastN (A := ([(b1, .cells #[.int .i64 (size), .int .i64 (start), .slice a n c] 24 (0, 0))] : Pcs)) o63 (show (dcs ds).length = n by rw [dcs_length]; omega) fun p64 a65 cp66 le67 ev_ D68 => ?_
          subst ev_
          refine rl_own (L' := [(b1, .cells #[.int .i64 (size), .int .i64 (start), .slice a n c] 24 (0, 0))]) rfl ?_
          refine rl_calld (met_none rfl) (first := []) (cap := []) rfl rfl fC24 (fun h_ H_ => c24 _ _ (fun b_ o_ e_ => H_.per b_ o_ e_) (k) (min start k) _ _ _ _ (show Days _ _ _ ds from D68) (by omega)) rfl ?_
          refine rl_det (met_none rfl) (fun h_ H_ => exd_move (v := .int .i64 ((sizeR size start ds).2)) rfl) rfl ?_
          refine rl_det (met_none rfl) (fun h_ H_ => exd_eql rfl rfl) (tm' := [_,_,_,_,_,_,_,_,_,_,_,_,_,_,_,_,_,_,_,_,_,_,_,_,_,_,_,_,_,_,_,_,_,_,_,_,_,_,_,_,_,_,_,_,_,_,_,_,_,_,_,_,_,_,_,_,_,_,_,_,_,_,_,_,_,_,_,_,_,_,_,_,_,_,_,_,_,_,_,_,_,_,_,_,_,_,_,_,_,_,_,_,_]) rfl ?_
          refine rl_det (met_none rfl) (fun h_ H_ => exd_move (v := .bool (decide ((sizeR size start ds).2 = 0))) rfl) rfl ?_
          refine rl_det (met_some rfl rfl (decide_eq_true (Decidable.not_not.1 (of_decide_eq_false (decide_eq_false cc4))))) (fun h_ H_ => exd_move (v := .int .i64 (k)) rfl) rfl ?_
          refine rl_det (met_some rfl rfl (decide_eq_true (Decidable.not_not.1 (of_decide_eq_false (decide_eq_false cc4))))) (fun h_ H_ => exd_move (v := .int .i64 ((sizeR size start ds).1)) rfl) (tm' := [_,_,_,_,_,_,_,_,_,_,_,_,_,_,_,_,_,_,_,_,_,_,_,_,_,_,_,_,_,_,_,_,_,_,_,_,_,_,_,_,_,_,_,_,_,_,_,_,_,_,_,_,_,_,_,_,_,_,_,_,_,_,_,_,_,_,_,_,_,_,_,_,_,_,_,_,_,_,_,_,_,_,_,_,_,_,_,_,_,_,_,_,_]) rfl ?_
          refine rl_det (met_some rfl rfl (decide_eq_true (Decidable.not_not.1 (of_decide_eq_false (decide_eq_false cc4))))) (fun h_ H_ => exd_geq rfl rfl) rfl ?_
          refine rl_det (met_none rfl) (fun h_ H_ => exd_pick_t rfl (decide_eq_true (Decidable.not_not.1 (of_decide_eq_false (decide_eq_false cc4)))) (v := .bool (decide ((sizeR size start ds).1 ≤ k))) rfl) rfl ?_
          refine rl_det (met_none rfl) (fun h_ H_ => exd_neqP (p := Ok k (min start k) ds ∧ Lasts k (min start k) ds) (q := (sizeR size start ds).1 ≤ k) Try.underlying4 rfl rfl) (tm' := [_,_,_,_,_,_,_,_,_,_,_,_,_,_,_,_,_,_,_,_,_,_,_,_,_,_,_,_,_,_,_,_,_,_,_,_,_,_,_,_,_,_,_,_,_,_,_,_,_,_,_,_,_,_,_,_,_,_,_,_,_,_,_,_,_,_,_,_,_,_,_,_,_,_,_,_,_,_,_,_,_,_,_,_,_,_,_,_,_,_,_,_,_]) rfl ?_
          refine rl_end ?_
          refine fl_else rfl (not_f (decide_eq_true (hJ1.trans ⟨fun x => x.2, fun x => ⟨by omega, x⟩⟩))) ?_
          refine fl_skip ?_
          refine fl_seq ?_
          refine rl_start ?_
          refine rl_det (met_none rfl) (fun h_ H_ => exd_move (v := .int .i64 (k)) rfl) rfl ?_
          refine rl_det (met_none rfl) (fun h_ H_ => exd_fieldAddr tF24_0 rfl (a' := ⟨b1, 0, none⟩) rfl) rfl ?_
          refine rl_det (met_none rfl) (fun h_ H_ => exd_load_own H_ tA3 rfl (i := 0) rfl (v := .int .i64 (size)) rfl) (tm' := [_,_,_,_,_,_,_,_,_,_,_,_,_,_,_,_,_,_,_,_,_,_,_,_,_,_,_,_,_,_,_,_,_,_,_,_,_,_,_,_,_,_,_,_,_,_,_,_,_,_,_,_,_,_,_,_,_,_,_,_,_,_,_,_,_,_,_,_,_,_,_,_,_,_,_,_,_,_,_,_,_,_,_,_,_,_,_,_,_,_,_,_,_]) rfl ?_
          refine rl_det (met_none rfl) (fun h_ H_ => exd_gtr rfl rfl) rfl ?_
          refine rl_det (met_none rfl) (fun h_ H_ => exd_move (v := .bool (decide (size < k))) rfl) rfl ?_
          by_cases cc69 : size < k
          · refine rl_pass (met_not rfl rfl (decide_eq_true cc69)) (tm' := [_,_,_,_,_,_,_,_,_,_,_,_,_,_,_,_,_,_,_,_,_,_,_,_,_,_,_,_,_,_,_,_,_,_,_,_,_,_,_,_,_,_,_,_,_,_,_,_,_,_,_,_,_,_,_,_,_,_,_,_,_,_,_,_,_,_,_,_,_,_,_,_,_,_,_,_,_,_,_,_,_,_,_,_,_,_,_,_,_,_,_,_,_]) rfl ?_
            refine rl_pass (met_not rfl rfl (decide_eq_true cc69)) rfl ?_
            refine rl_pass (met_not rfl rfl (decide_eq_true cc69)) rfl ?_
            refine rl_pass (met_not rfl rfl (decide_eq_true cc69)) (tm' := [_,_,_,_,_,_,_,_,_,_,_,_,_,_,_,_,_,_,_,_,_,_,_,_,_,_,_,_,_,_,_,_,_,_,_,_,_,_,_,_,_,_,_,_,_,_,_,_,_,_,_,_,_,_,_,_,_,_,_,_,_,_,_,_,_,_,_,_,_,_,_,_,_,_,_,_,_,_,_,_,_,_,_,_,_,_,_,_,_,_,_,_,_]) rfl ?_
            refine rl_pass (met_not rfl rfl (decide_eq_true cc69)) rfl ?_
            refine rl_pass (met_not rfl rfl (decide_eq_true cc69)) rfl ?_
            refine rl_pass (met_not rfl rfl (decide_eq_true cc69)) (tm' := [_,_,_,_,_,_,_,_,_,_,_,_,_,_,_,_,_,_,_,_,_,_,_,_,_,_,_,_,_,_,_,_,_,_,_,_,_,_,_,_,_,_,_,_,_,_,_,_,_,_,_,_,_,_,_,_,_,_,_,_,_,_,_,_,_,_,_,_,_,_,_,_,_,_,_,_,_,_,_,_,_,_,_,_,_,_,_,_,_,_,_,_,_]) rfl ?_
            refine rl_pass (met_undef rfl rfl) rfl ?_
            refine rl_pass (met_undef rfl rfl) rfl ?_
            refine rl_pass (met_undef rfl rfl) (tm' := [_,_,_,_,_,_,_,_,_,_,_,_,_,_,_,_,_,_,_,_,_,_,_,_,_,_,_,_,_,_,_,_,_,_,_,_,_,_,_,_,_,_,_,_,_,_,_,_,_,_,_,_,_,_,_,_,_,_,_,_,_,_,_,_,_,_,_,_,_,_,_,_,_,_,_,_,_,_,_,_,_,_,_,_,_,_,_,_,_,_,_,_,_]) rfl ?_
            refine rl_pass (met_not rfl rfl (decide_eq_true cc69)) rfl ?_
            refine rl_pass (met_not rfl rfl (decide_eq_true cc69)) rfl ?_
            refine rl_det (met_none rfl) (fun h_ H_ => exd_pick_t rfl (decide_eq_true cc69) (v := .bool (true)) rfl) (tm' := [_,_,_,_,_,_,_,_,_,_,_,_,_,_,_,_,_,_,_,_,_,_,_,_,_,_,_,_,_,_,_,_,_,_,_,_,_,_,_,_,_,_,_,_,_,_,_,_,_,_,_,_,_,_,_,_,_,_,_,_,_,_,_,_,_,_,_,_,_,_,_,_,_,_,_,_,_,_,_,_,_,_,_,_,_,_,_,_,_,_,_,_,_]) rfl ?_
            refine rl_det (met_none rfl) (fun h_ H_ => exd_move (v := .bool (true)) rfl) rfl ?_
            refine rl_calld (met_some rfl rfl rfl) (first := []) (cap := []) rfl rfl fC18 (fun h_ H_ => c18 _) rfl ?_
            refine rl_det (met_none rfl) (fun h_ H_ => exd_pick_t rfl rfl (v := .bool (true)) rfl) (tm' := [_,_,_,_,_,_,_,_,_,_,_,_,_,_,_,_,_,_,_,_,_,_,_,_,_,_,_,_,_,_,_,_,_,_,_,_,_,_,_,_,_,_,_,_,_,_,_,_,_,_,_,_,_,_,_,_,_,_,_,_,_,_,_,_,_,_,_,_,_,_,_,_,_,_,_,_,_,_,_,_,_,_,_,_,_,_,_,_,_,_,_,_,_]) rfl ?_
            refine rl_det (met_none rfl) (fun h_ H_ => exd_assign (v := .bool (true)) rfl) rfl ?_
            refine rl_end ?_
            refine fl_retE (by kernel_rfl) Try.func11 rfl (vs := [.bool (true)]) (fun h_ H_ => ⟨.bool (true), _, rfl, rfl, rfl⟩) (v := .bool (true)) rfl ?_
            exact fun h_ H_ => K _ _ ⟨rfl, H_.kept⟩
          · refine rl_det (met_some rfl rfl (decide_eq_false cc69)) (fun h_ H_ => exd_loadN_own H_ tA24 tS24 rfl (i := 0) rfl (vs := [.int .i64 (size), .int .i64 (start), .slice a n c]) rfl rfl) rfl ?_
            refine rl_det (met_some rfl rfl (decide_eq_false cc69)) (fun h_ H_ => exd_move (v := .int .i64 (k)) rfl) (tm' := [_,_,_,_,_,_,_,_,_,_,_,_,_,_,_,_,_,_,_,_,_,_,_,_,_,_,_,_,_,_,_,_,_,_,_,_,_,_,_,_,_,_,_,_,_,_,_,_,_,_,_,_,_,_,_,_,_,_,_,_,_,_,_,_,_,_,_,_,_,_,_,_,_,_,_,_,_,_,_,_,_,_,_,_,_,_,_,_,_,_,_,_,_]) rfl ?_
            refine rl_own (L' := ([(b1, .cells #[.int .i64 (size), .int .i64 (start), .slice a n c] 24 (0, 0))] : Pcs) ++ []) rfl ?_
            refine rl_call (met_some rfl rfl (decide_eq_false cc69)) (first := []) (cap := []) rfl rfl fC48 (R := fun v_ h_ => ∃ w70 : Value, ∃ X71 : Pcs, v_ = .agg #[.int .i64 (size), .int .i64 (k), w70] ∧ (OwnS 38 3 w70 (dcs ds) X71) ∧ St h [] p64 h_ (([(b1, .cells #[.int .i64 (size), .int .i64 (start), .slice a n c] 24 (0, 0))] : Pcs) ++ (X71 ++ []))) (fun h_ H_ => (c48 (.main true) _ _ (fun b_ o_ e_ => H_.per b_ o_ e_) (size) (start) _ _ _ _ (D.mono le67) (by omega) k).mono fun v_ h2_ ⟨w70, X71, e_, o72, N_⟩ => ⟨w70, X71, e_, o72, H_.callNA N_⟩) fun v_ => ?_
            refine rl_ex fun w70 => rl_ex fun X71 => rl_and fun ev_ => rl_and fun o72 => ?_
            have ev_ := ev_.symm; subst ev_
            refine rl_own (L' := ([(b1, .cells #[.int .i64 (size), .int .i64 (start), .slice a n c] 24 (0, 0))] : Pcs) ++ (X71 ++ [])) rfl ?_
            refine rl_lastN (A := ([(b1, .cells #[.int .i64 (size), .int .i64 (start), .slice a n c] 24 (0, 0))] : Pcs)) o72 (show (dcs ds).length = n by rw [dcs_length]; omega) fun p73 a74 cp75 le76 ev_ D77 => ?_
            subst ev_
            refine rl_own (L' := [(b1, .cells #[.int .i64 (size), .int .i64 (start), .slice a n c] 24 (0, 0))]) rfl ?_
            refine rl_calld (met_some rfl rfl (decide_eq_false cc69)) (first := []) (cap := []) rfl rfl fC24 (fun h_ H_ => c24 _ _ (fun b_ o_ e_ => H_.per b_ o_ e_) (size) (k) _ _ _ _ (show Days _ _ _ ds from D77) (by omega)) rfl ?_
            refine rl_det (met_some rfl rfl (decide_eq_false cc69)) (fun h_ H_ => exd_move (v := .int .i64 ((startR size start ds).2)) rfl) (tm' := [_,_,_,_,_,_,_,_,_,_,_,_,_,_,_,_,_,_,_,_,_,_,_,_,_,_,_,_,_,_,_,_,_,_,_,_,_,_,_,_,_,_,_,_,_,_,_,_,_,_,_,_,_,_,_,_,_,_,_,_,_,_,_,_,_,_,_,_,_,_,_,_,_,_,_,_,_,_,_,_,_,_,_,_,_,_,_,_,_,_,_,_,_]) rfl ?_
            refine rl_det (met_some rfl rfl (decide_eq_false cc69)) (fun h_ H_ => exd_eql rfl rfl) rfl ?_
            refine rl_det (met_some rfl rfl (decide_eq_false cc69)) (fun h_ H_ => exd_move (v := .bool (decide ((startR size start ds).2 = 0))) rfl) rfl ?_
            refine rl_det (met_some rfl rfl (decide_eq_true (Decidable.not_not.1 (of_decide_eq_false (decide_eq_false cc42))))) (fun h_ H_ => exd_move (v := .int .i64 (k)) rfl) (tm' := [_,_,_,_,_,_,_,_,_,_,_,_,_,_,_,_,_,_,_,_,_,_,_,_,_,_,_,_,_,_,_,_,_,_,_,_,_,_,_,_,_,_,_,_,_,_,_,_,_,_,_,_,_,_,_,_,_,_,_,_,_,_,_,_,_,_,_,_,_,_,_,_,_,_,_,_,_,_,_,_,_,_,_,_,_,_,_,_,_,_,_,_,_]) rfl ?_
            refine rl_det (met_some rfl rfl (decide_eq_true (Decidable.not_not.1 (of_decide_eq_false (decide_eq_false cc42))))) (fun h_ H_ => exd_move (v := .int .i64 ((startR size start ds).1)) rfl) rfl ?_
            refine rl_det (met_some rfl rfl (decide_eq_true (Decidable.not_not.1 (of_decide_eq_false (decide_eq_false cc42))))) (fun h_ H_ => exd_geq rfl rfl) rfl ?_
            refine rl_det (met_some rfl rfl (decide_eq_false cc69)) (fun h_ H_ => exd_pick_t rfl (decide_eq_true (Decidable.not_not.1 (of_decide_eq_false (decide_eq_false cc42)))) (v := .bool (decide ((startR size start ds).1 ≤ k))) rfl) (tm' := [_,_,_,_,_,_,_,_,_,_,_,_,_,_,_,_,_,_,_,_,_,_,_,_,_,_,_,_,_,_,_,_,_,_,_,_,_,_,_,_,_,_,_,_,_,_,_,_,_,_,_,_,_,_,_,_,_,_,_,_,_,_,_,_,_,_,_,_,_,_,_,_,_,_,_,_,_,_,_,_,_,_,_,_,_,_,_,_,_,_,_,_,_]) rfl ?_
            refine rl_det (met_some rfl rfl (decide_eq_false cc69)) (fun h_ H_ => exd_eqlP (p := Ok size k ds ∧ Lasts size k ds) (q := (startR size start ds).1 ≤ k) Try.underlying4 rfl rfl) rfl ?_
            refine rl_det (met_none rfl) (fun h_ H_ => exd_pick_f rfl (decide_eq_false cc69) (v := .bool (decide ((Ok size k ds ∧ Lasts size k ds) ↔ ((startR size start ds).1 ≤ k)))) rfl) rfl ?_
            refine rl_det (met_none rfl) (fun h_ H_ => exd_move (v := .bool (decide ((Ok size k ds ∧ Lasts size k ds) ↔ ((startR size start ds).1 ≤ k)))) rfl) (tm' := [_,_,_,_,_,_,_,_,_,_,_,_,_,_,_,_,_,_,_,_,_,_,_,_,_,_,_,_,_,_,_,_,_,_,_,_,_,_,_,_,_,_,_,_,_,_,_,_,_,_,_,_,_,_,_,_,_,_,_,_,_,_,_,_,_,_,_,_,_,_,_,_,_,_,_,_,_,_,_,_,_,_,_,_,_,_,_,_,_,_,_,_,_]) rfl ?_
            refine rl_calld (met_some rfl rfl (decide_eq_true ((hJ2 (by omega)).trans ⟨fun x => x.2, fun x => ⟨by omega, x⟩⟩))) (first := []) (cap := []) rfl rfl fC18 (fun h_ H_ => c18 _) rfl ?_
            refine rl_det (met_none rfl) (fun h_ H_ => exd_pick_t rfl (decide_eq_true ((hJ2 (by omega)).trans ⟨fun x => x.2, fun x => ⟨by omega, x⟩⟩)) (v := .bool (true)) rfl) rfl ?_
            refine rl_det (met_none rfl) (fun h_ H_ => exd_assign (v := .bool (true)) rfl) (tm' := _::_::_::_::_::_) rfl ?_
            refine rl_end ?_
            refine fl_retE (by kernel_rfl) Try.func11 rfl (vs := [.bool (true)]) (fun h_ H_ => ⟨.bool (true), _, rfl, rfl, rfl⟩) (v := .bool (true)) rfl ?_
            exact fun h_ H_ => K _ _ ⟨rfl, H_.kept⟩
    · refine fl_then rfl (not_t (decide_eq_false cc3)) ?_
      refine fl_seq ?_
      refine rl_start ?_
      refine rl_calld (met_none rfl) (first := []) (cap := []) rfl rfl fC18 (fun h_ H_ => c18 _) rfl ?_
      refine rl_det (met_none rfl) (fun h_ H_ => exd_assign (v := .bool (true)) rfl) rfl ?_
      refine rl_end ?_
      refine fl_retE (by kernel_rfl) Try.func11 rfl (vs := [.bool (true)]) (fun h_ H_ => ⟨.bool (true), _, rfl, rfl, rfl⟩) (v := .bool (true)) rfl ?_
      exact fun h_ H_ => K _ _ ⟨rfl, H_.kept⟩
  · refine rl_pass (met_not rfl rfl (not_t (decide_eq_false cc2))) (tm' := _::_::_::_::_::_::_::_::_::_::_::_::_::_::_) rfl ?_
    refine rl_pass (met_not rfl rfl (not_t (decide_eq_false cc2))) rfl ?_
    refine rl_pass (met_not rfl rfl (not_t (decide_eq_false cc2))) rfl ?_
    refine rl_det (met_none rfl) (fun h_ H_ => exd_pick_t rfl (not_t (decide_eq_false cc2)) (v := .bool (true)) rfl) (tm' := _::_::_::_::_::_::_::_::_::_::_::_::_::_::_::_::_::_) rfl ?_
    refine rl_end ?_
    refine fl_then rfl rfl ?_
    refine fl_seq ?_
    refine rl_start ?_
    refine rl_calld (met_none rfl) (first := []) (cap := []) rfl rfl fC18 (fun h_ H_ => c18 _) rfl ?_
    refine rl_det (met_none rfl) (fun h_ H_ => exd_assign (v := .bool (true)) rfl) rfl ?_
    refine rl_end ?_
    refine fl_retE (by kernel_rfl) Try.func11 rfl (vs := [.bool (true)]) (fun h_ H_ => ⟨.bool (true), _, rfl, rfl, rfl⟩) (v := .bool (true)) rfl ?_
    exact fun h_ H_ => K _ _ ⟨rfl, H_.kept⟩
end Go.Proofs.Ytbmkacnlhlbnjaa
namespace Go.Proofs.Ytbmkacnlhlbnjaa
open Go.X Go.X.Cist Go.Conc Go.RowKit Go.ChangeShapes Go.WideShapes Go.ChangeAt Go.Joins
set_option maxRecDepth 100000

theorem lifted11 (os : Os) (started : os.Started) (H : Type) (enc : TypeId × Value → H) :
    ReturnsInLeavingWide {} Try.checked os 11 .any (Rows.cisternsJustSpec.pre6 enc Try.prog Try.f11 Rows.cisternsJustRow.domain false) (Rows.cisternsJustSpec.post enc Try.prog Try.f11 false true false false) := by
  refine returnsInLeavingWide_of_change_sized (C := Try.checked) pOwn started Try.func11
    (ChangeSpec.witness6 (enc := enc) (C := Try.checked) false ⟨#[], #[.agg #[.int .i64 0, .int .i64 0, .slice none 0 0], .int .i64 0], []⟩ 8 (by kernel_rfl) (by kernel_rfl) (by kernel_rfl) (by kernel_rfl)) ?_
  intro W base args ds gs before hval0 hW _ _ _
  have hval : ∀ (j : Nat) t v, Try.f11.params[j]? = some t → args[j]? = some v → Value.okWide Try.prog W .any base t v := hval0
  have hW2 := hW
  obtain ⟨p, q, hA0, hV, rfl, _, _⟩ := hW2
  have hA : DataW.TrodAll enc Try.prog W 0 (fun _ => true) true Try.f11.params.toList args.toList ds p := hA0
  rw [Try.params11] at hA hval
  obtain ⟨v0, v1, d0, d1, p0, p1, rfl, rfl, _, h0, h1⟩ := trodAll_two hA
  obtain ⟨rfl, rfl⟩ := trodVars_none hV
  obtain ⟨size, start, a, n, c, ds, rfl, D⟩ := open_year (hval 0 24 v0 rfl rfl) h0
  obtain ⟨k, rfl, hk⟩ := open_num (hval 1 3 v1 rfl rfl) h1
  obtain ⟨N, last, o, w2, t2, r1, r2, r3, r4⟩ := good_of_enters (w := W) (e11 (nilV W.heap) (vwP W) (vwP_per W) size start a n c ds D k hk) fun v h2 r => r.2
  refine ⟨N, last, o, w2, t2, r1, r2, r3, r4.mono fun v ⟨hB, h2, e, _⟩ => ?_⟩
  subst e
  exact law_post pLaid rfl (fun t ht => by rw [Try.params11] at ht; revert t; decide +kernel) rfl Try.underlying4 hW rfl hB

theorem cisternsJustHolds : Rows.CisternsJustSaid :=
  OpenClaim.holds_of_wide_leaving 11 Try.f11 rfl rfl rfl rfl rfl rfl rfl ⟨rfl, rfl, rfl, rfl, rfl⟩ rfl rfl rfl rfl rfl (by kernel_rfl) Try.func11 (by kernel_rfl)
    (of_decide_eq_true (by kernel_rfl)) (by unfold Func.isWrapper; rw [if_neg (of_decide_eq_false (by kernel_rfl))]; exact ⟨rfl, rfl⟩)
    (fun os started H enc _ => lifted11 os started H enc)

#print axioms cisternsJustHolds
end Go.Proofs.Ytbmkacnlhlbnjaa
