/-
  Part of: CisternsParts, for every input: the law returns true and leaves its arguments as they were. No condition.
-/
import Derived.Test.YtbmkacnlhlbnjaaC3x
import Derived.Test.YtbmkacnlhlbnjaaC4
import Derived.Test.YtbmkacnlhlbnjaaRows
import Derived.Test.YtbmkacnlhlbnjaaC6
import Derived.Test.YtbmkacnlhlbnjaaC2
import Derived.Test.YtbmkacnlhlbnjaaC5
namespace Go.Proofs.Ytbmkacnlhlbnjaa
open Go.X Go.X.Cist Go.Conc Go.RowKit Go.ChangeShapes Go.WideShapes Go.ChangeAt Go.Joins

set_option maxRecDepth 100000

theorem pOwn : ownKnob Try.prog.godebug = none := by kernel_rfl
theorem pLaid : laidOutB Try.prog = true := by kernel_rfl
theorem pC3 : Try.prog.cellsOf 3 = 1 := by kernel_rfl
theorem pC24 : Try.prog.cellsOf 24 = 3 := by kernel_rfl
theorem pC36 : Try.prog.cellsOf 36 = 2 := by kernel_rfl
theorem pC38 : Try.prog.cellsOf 38 = 3 := by kernel_rfl

section
variable {H : Type} {enc : TypeId × Value → H} {W : World}
theorem trod_day {m : Nat} {cs : List Value} {y : DataW H × List MemPlace} (h : DataW.trod enc Try.prog W 0 (fun _ => true) true m 38 cs = some y) : ∃ d : Day, cs = d.cells := by
  obtain ⟨y0, y1, n, _, hl, h0, h1⟩ := trod_struct2 Try.underlying38 h
  obtain ⟨z0, z1, n', _, hl', h2, h3⟩ := trod_struct2 Try.underlying36 h0
  rw [pC38] at hl
  obtain ⟨a, ha⟩ := trod_i64 Try.underlying3 h2
  obtain ⟨b, hb⟩ := trod_i64 Try.underlying3 h3
  obtain ⟨c, hc⟩ := trod_i64 Try.underlying3 h1
  match cs, hl with
  | [u, v, w], _ =>
    refine ⟨⟨a, b, c⟩, ?_⟩
    simp [pC36, pC3] at ha hb hc
    simp [Day.cells, ha, hb, hc]
theorem open_days {fuel : Nat} {v : Value} {y : DataW H × List MemPlace} (h : DataW.trod enc Try.prog W 0 (fun _ => true) true fuel 22 [v] = some y) : ∃ a n c ds, v = .slice a n c ∧ Days (vwP W) a n ds := by
  obtain ⟨a, n, c, E, rfl, hQ, s⟩ := open_sl Try.underlying22 pC38 (Q := fun cs => ∃ d : Day, cs = d.cells) (fun m cs y h => trod_day h) h
  obtain ⟨z, hz⟩ := Go.Deep.choose_lt hQ
  refine ⟨a, n, c, (List.range n).map z, rfl, ?_⟩
  have : (List.range n).map E = dcs ((List.range n).map z) := by
    unfold dcs
    rw [List.map_map]
    exact List.map_congr_left fun i hi => hz i (List.mem_range.1 hi)
  unfold Days
  rw [← this]; exact s
theorem open_year {base : Nat} {v : Value} {d : DataW H} {p : List MemPlace} (hv : Value.okWide Try.prog W .any base 24 v) (h : DataW.Trod enc Try.prog W 0 (fun _ => true) true 24 v d p) :
    ∃ size start a n c ds, v = .agg #[.int .i64 size, .int .i64 start, .slice a n c] ∧ Days (vwP W) a n ds := by
  obtain ⟨v0, v1, v2, y0, y1, y2, n, rfl, _, _, h0, h1, h2⟩ := open_agg3 Try.underlying24 (by kernel_rfl) pC24 hv h
  obtain ⟨size, e0⟩ := trod_i64 Try.underlying3 h0
  obtain ⟨start, e1⟩ := trod_i64 Try.underlying3 h1
  obtain ⟨a, n, c, ds, rfl, D⟩ := open_days h2
  obtain rfl : v0 = _ := by simpa using e0
  obtain rfl : v1 = _ := by simpa using e1
  exact ⟨size, start, a, n, c, ds, rfl, D⟩
theorem open_listC {base : Nat} {v : Value} {d : DataW H} {p : List MemPlace} (hv : Value.okWide Try.prog W .any base 25 v) (h : DataW.Trod enc Try.prog W 0 (fun _ => true) true 25 v d p) : ∃ a n c xs, v = .slice a n c ∧ n ≤ c ∧ Ints (vwP W) a n xs := by
  obtain ⟨a, n, c, rfl⟩ := okWide_slice Try.underlying25 hv
  obtain ⟨fuel, hf⟩ := h
  exact open_intsC Try.underlying25 Try.underlying3 pC3 hf
theorem open_num {base : Nat} {v : Value} {d : DataW H} {p : List MemPlace} (hv : Value.okWide Try.prog W .any base 3 v) (h : DataW.Trod enc Try.prog W 0 (fun _ => true) true 3 v d p) : ∃ n : Int, v = .int .i64 n ∧ (-9223372036854775808 ≤ n ∧ n ≤ 9223372036854775807) := by
  obtain ⟨n, rfl, _, _, hw⟩ := open_int Try.underlying3 hv h
  refine ⟨n, rfl, ?_⟩
  simpa [Lit.wf, IntKind.min, IntKind.max, IntKind.signed, IntKind.bits] using hw
end
end Go.Proofs.Ytbmkacnlhlbnjaa
namespace Go.X.Cist
open Go.X Go.Proofs.Ytbmkacnlhlbnjaa

theorem sumTo_congr {f g : Nat → Int} : ∀ {k : Nat}, (∀ i, i < k → f i = g i) → sumTo f k = sumTo g k
  | 0, _ => rfl
  | k + 1, h => by simp only [sumTo]; rw [sumTo_congr fun i hi => h i (by omega), h k (by omega)]
theorem sumTo_le {f g : Nat → Int} : ∀ {k : Nat}, (∀ i, i < k → f i ≤ g i) → sumTo f k ≤ sumTo g k
  | 0, _ => Int.le_refl _
  | k + 1, h => by
    have h1 := sumTo_le (k := k) (f := f) (g := g) fun i hi => h i (by omega)
    have h2 := h k (by omega)
    simp only [sumTo]; omega
theorem lack_le {size start : Int} {want rain : Nat → Int} {k : Nat} (h : 0 ≤ lev size start want rain k ∧ lev size start want rain k ≤ size) (hw : 0 ≤ want k) (hr : 0 ≤ rain k) : 0 ≤ lack size start want rain k ∧ lack size start want rain k ≤ want k := by
  unfold lack ovr; omega
theorem ovr_le {size start : Int} {want rain : Nat → Int} {k : Nat} (h : 0 ≤ lev size start want rain k ∧ lev size start want rain k ≤ size) (hr : 0 ≤ rain k) : 0 ≤ ovr size start want rain k ∧ ovr size start want rain k ≤ rain k := by
  unfold ovr; omega

section
variable {size start : Int} {ds : List Day} {xs ys : List Int}
/-- What is known of a day of a valid year in a weather. -/
theorem day_ok (hOk : Ok size start ds) (hW : Weather ds xs) {k : Nat} (hk : k < ds.length) :
    (0 ≤ lev size start (wantOf ds) (listOf xs) k ∧ lev size start (wantOf ds) (listOf xs) k ≤ size) ∧ (0 ≤ levs size start (wantOf ds) (listOf xs) k ∧ levs size start (wantOf ds) (listOf xs) k ≤ size) ∧
    (0 ≤ lack size start (wantOf ds) (listOf xs) k ∧ lack size start (wantOf ds) (listOf xs) k ≤ (ds.getD k dz).want) ∧ (0 ≤ ovr size start (wantOf ds) (listOf xs) k ∧ ovr size start (wantOf ds) (listOf xs) k ≤ 20) ∧ 0 ≤ listOf xs k ∧ listOf xs k ≤ 20 := by
  have h0 := (lok_day hOk.lok hW (k := k) (by omega)).2.1
  have h1 := (lok_day hOk.lok hW (k := k + 1) (by omega)).2.1
  have h2 := (lok_day hOk.lok hW (k := k) (by omega)).2.2 hk
  have h3 : 0 ≤ listOf xs k ∧ listOf xs k ≤ 20 := h2.1
  have h4 := lack_le (want := wantOf ds) (rain := listOf xs) h0 h2.2.1 h3.1
  have h5 := ovr_le (want := wantOf ds) (rain := listOf xs) h0 h3.1
  exact ⟨h0, h1, h4, ⟨h5.1, by omega⟩, h3⟩
/-! ### more rain -/
/-! ### nothing is lost -/
end
end Go.X.Cist
namespace Go.X.Cist
open Go.X Go.Proofs.Ytbmkacnlhlbnjaa

section
variable {size start size' start' : Int} {want want' rain rain' : Nat → Int} {ds ds' : List Day}

theorem lev_congr : ∀ k, (∀ i, i < k → want i = want' i) → (∀ i, i < k → rain i = rain' i) → lev size start want rain k = lev size start want' rain' k
  | 0, _, _ => rfl
  | k + 1, hw, hr => by
    have h1 := lev_congr k (fun i hi => hw i (by omega)) fun i hi => hr i (by omega)
    simp only [lev]; rw [h1, hw k (by omega), hr k (by omega)]

/-! ### what lasts -/
/-- The number of a day, or of none. -/
def dayOr (r : Int × Int) : Int := if r.2 = 3 then 8 else r.1
/-! ### rations -/
/-! ### sizes and starts -/
end
end Go.X.Cist
namespace Go.X.Cist
open Go.X Go.Proofs.Ytbmkacnlhlbnjaa

section
variable {size start size' : Int} {ds : List Day} {day x : Int}
/-! ### a greater cistern -/
end
end Go.X.Cist
namespace Go.Proofs.Ytbmkacnlhlbnjaa
open Go.X Go.X.Cist Go.Conc
set_option maxRecDepth 10000

theorem c19 (md : Md) (h : Heap) (p : PHeap) (hp : Per p h) (size start : Int) (a : Option Addr) (n c : Nat) (ds : List Day) (D : Days p a n ds) (hn : n ≤ 40) (b : Option Addr) (m d : Nat) (xs : List Int) (W : Ints p b m xs) (hm40 : m ≤ 40) (hOk : Ok size start ds) (hW : Weather ds xs) : CallsX Try.prog md 19 #[.agg #[.int .i64 (size), .int .i64 (start), .slice a n c], .slice b m d] h fun v h' => ∃ w1 w2 w3 X1 X2 X3, v = .tuple #[.agg #[w1, w2, w3], .bool true] ∧ OwnS 3 1 w1 (ns (levs size start (wantOf ds) (listOf xs)) n) X1 ∧ OwnS 3 1 w2 (ns (lack size start (wantOf ds) (listOf xs)) n) X2 ∧ OwnS 3 1 w3 (ns (ovr size start (wantOf ds) (listOf xs)) n) X3 ∧ New h h' (X1 ++ (X2 ++ (X3 ++ []))) := by
  refine calls_intro (Φ := fun h_ => St h [] p h_ []) Try.func19 rfl (tm := [_, _, _, _, _, _, _, _, _, _, _, _, _, _, _, _, _, _, _, _, _, _, _, _, _, _, _, _, _, _, _, _, _, _, _, _, _, _, _, _, _, _, _, _, _, _, _, _, _, _, _, _, _, _, _, _, _, _, _, _, _, _, _, _, _, _, _, _, _, _, _, _, _, _, _, _, _, _, _, _, _, _, _, _, _, _, _, _]) rfl ?_ (St.start h _ hp)
  intro c₀ cs Stop K
  have hl := D.len
  refine fl_seq ?_
  refine rl_start ?_
  refine rl_box (met_none rfl) (v := .agg #[.int .i64 (size), .int .i64 (start), .slice a n c]) rfl fun b1 => rl_own (L' := [(b1, .cells #[.int .i64 (size), .int .i64 (start), .slice a n c] 24 (0, 0))]) rfl ?_
  refine rl_alloc (met_none rfl) tZ30 rfl fun b2 => rl_own (L' := [(b2, .cells #[.slice none 0 0, .slice none 0 0, .slice none 0 0] 30 (0, 0)), (b1, .cells #[.int .i64 (size), .int .i64 (start), .slice a n c] 24 (0, 0))]) rfl ?_
  refine rl_det (met_none rfl) (fun h_ H_ => exd_assign (v := .bool (false)) rfl) (tm' := _::_::_::_::_::_::_) rfl ?_
  refine rl_end ?_
  refine fl_seq ?_
  refine rl_start ?_
  refine rl_det (met_none rfl) (fun h_ H_ => exd_loadN_own H_ tA24 tS24 rfl (i := 1) rfl (vs := [.int .i64 (size), .int .i64 (start), .slice a n c]) rfl rfl) rfl ?_
  refine rl_own (L' := ([(b2, .cells #[.slice none 0 0, .slice none 0 0, .slice none 0 0] 30 (0, 0)), (b1, .cells #[.int .i64 (size), .int .i64 (start), .slice a n c] 24 (0, 0))] : Pcs) ++ []) rfl ?_
  refine rl_call (met_none rfl) (first := []) (cap := []) rfl rfl fC30 (R := fun v_ h_ => ∃ w3 : Value, ∃ X4 : Pcs, v_ = .agg #[.int .i64 (size), .int .i64 (start), w3] ∧ (OwnS 38 3 w3 (dcs ds) X4) ∧ St h [] p h_ (([(b2, .cells #[.slice none 0 0, .slice none 0 0, .slice none 0 0] 30 (0, 0)), (b1, .cells #[.int .i64 (size), .int .i64 (start), .slice a n c] 24 (0, 0))] : Pcs) ++ (X4 ++ []))) (fun h_ H_ => (c30 md _ _ (fun b_ o_ e_ => H_.per b_ o_ e_) (size) (start) _ _ _ _ D (by omega)).mono fun v_ h2_ ⟨w3, X4, e_, o5, N_⟩ => ⟨w3, X4, e_, o5, H_.callNA N_⟩) fun v_ => ?_
  refine rl_ex fun w3 => rl_ex fun X4 => rl_and fun ev_ => rl_and fun o5 => ?_
  have ev_ := ev_.symm; subst ev_
  refine rl_own (L' := ([(b2, .cells #[.slice none 0 0, .slice none 0 0, .slice none 0 0] 30 (0, 0)), (b1, .cells #[.int .i64 (size), .int .i64 (start), .slice a n c] 24 (0, 0))] : Pcs) ++ (X4 ++ [])) rfl ?_
  refine rl_buildO ([(b2, .cells #[.slice none 0 0, .slice none 0 0, .slice none 0 0] 30 (0, 0)), (b1, .cells #[.int .i64 (size), .int .i64 (start), .slice a n c] 24 (0, 0))] : Pcs) (met_none rfl) Try.underlying25 tS3 tZ3 (Nat.le_of_ble_eq_true rfl) (vs := []) rfl rfl (es := []) rfl rfl rfl fun v6 X7 o8 => ?_
  refine rl_norm (tm' := _::_::_::_::_::_::_::_::_::_::_::_::_::_::_::_) rfl ?_
  refine rl_det (met_none rfl) (fun h_ H_ => exd_move (v := .slice b m d) rfl) rfl ?_
  refine rl_appendP ([(b2, .cells #[.slice none 0 0, .slice none 0 0, .slice none 0 0] 30 (0, 0)), (b1, .cells #[.int .i64 (size), .int .i64 (start), .slice a n c] 24 (0, 0))] : Pcs) X7 (met_none rfl) Try.underlying25 tS3 tZ3 rfl tB3 Try.underlying25 rfl rfl o8 W (ints_ones _) (by first | omega | (simp; omega) | simp) (by decide) (by decide) fun v9 X10 o11 => ?_
  refine rl_perm (List.Perm.append_left _ (List.perm_append_comm_assoc _ _ _)) ?_
  refine rl_own (L' := ([(b2, .cells #[.slice none 0 0, .slice none 0 0, .slice none 0 0] 30 (0, 0)), (b1, .cells #[.int .i64 (size), .int .i64 (start), .slice a n c] 24 (0, 0))] : Pcs) ++ (X4 ++ (X10 ++ []))) rfl ?_
  refine rl_lastN (A := ([(b2, .cells #[.slice none 0 0, .slice none 0 0, .slice none 0 0] 30 (0, 0)), (b1, .cells #[.int .i64 (size), .int .i64 (start), .slice a n c] 24 (0, 0))] : Pcs)) o5 (show (dcs ds).length = n by rw [dcs_length]; omega) fun p12 a13 cp14 le15 ev_ D16 => ?_
  subst ev_
  refine rl_lastN (A := ([(b2, .cells #[.slice none 0 0, .slice none 0 0, .slice none 0 0] 30 (0, 0)), (b1, .cells #[.int .i64 (size), .int .i64 (start), .slice a n c] 24 (0, 0))] : Pcs)) o11 (by have h_ := W.len; simpa using h_) fun p17 a18 cp19 le20 ev_ D21 => ?_
  subst ev_
  refine rl_own (L' := [(b2, .cells #[.slice none 0 0, .slice none 0 0, .slice none 0 0] 30 (0, 0)), (b1, .cells #[.int .i64 (size), .int .i64 (start), .slice a n c] 24 (0, 0))]) rfl ?_
  refine rl_own (L' := ([(b2, .cells #[.slice none 0 0, .slice none 0 0, .slice none 0 0] 30 (0, 0)), (b1, .cells #[.int .i64 (size), .int .i64 (start), .slice a n c] 24 (0, 0))] : Pcs) ++ []) rfl ?_
  refine rl_call (met_none rfl) (first := []) (cap := []) rfl rfl fC34 (R := fun v_ h_ => ∃ w22 : Value, ∃ w23 : Value, ∃ w24 : Value, ∃ X25 : Pcs, ∃ X26 : Pcs, ∃ X27 : Pcs, v_ = .tuple #[w22, w23, w24, .int .i64 0] ∧ (OwnS 3 1 w22 (ns (levs size start (wantOf ds) (listOf xs)) n) X25) ∧ (OwnS 3 1 w23 (ns (lack size start (wantOf ds) (listOf xs)) n) X26) ∧ (OwnS 3 1 w24 (ns (ovr size start (wantOf ds) (listOf xs)) n) X27) ∧ St h [] p17 h_ (([(b2, .cells #[.slice none 0 0, .slice none 0 0, .slice none 0 0] 30 (0, 0)), (b1, .cells #[.int .i64 (size), .int .i64 (start), .slice a n c] 24 (0, 0))] : Pcs) ++ ((X25 ++ (X26 ++ (X27 ++ []))) ++ []))) (fun h_ H_ => (c34ok md _ _ (fun b_ o_ e_ => H_.per b_ o_ e_) (size) (start) _ _ _ _ ((show Days _ _ _ ds from D16).mono le20) (by omega) _ _ _ _ (show Ints _ _ _ xs from D21) (by omega) hOk hW).mono fun v_ h2_ ⟨w22, w23, w24, X25, X26, X27, e_, o28, o29, o30, N_⟩ => ⟨w22, w23, w24, X25, X26, X27, e_, o28, o29, o30, H_.callNA N_⟩) fun v_ => ?_
  refine rl_ex fun w22 => rl_ex fun w23 => rl_ex fun w24 => rl_ex fun X25 => rl_ex fun X26 => rl_ex fun X27 => rl_and fun ev_ => rl_and fun o28 => rl_and fun o29 => rl_and fun o30 => ?_
  have ev_ := ev_.symm; subst ev_
  refine rl_own (L' := ([(b2, .cells #[.slice none 0 0, .slice none 0 0, .slice none 0 0] 30 (0, 0)), (b1, .cells #[.int .i64 (size), .int .i64 (start), .slice a n c] 24 (0, 0))] : Pcs) ++ (X25 ++ (X26 ++ (X27 ++ [])))) (by simp) ?_
  refine rl_norm (tm' := _::_::_::_::_::_::_::_::_::_::_::_::_::_::_::_::_::_::_) rfl ?_
  refine rl_det (met_none rfl) (fun h_ H_ => exd_move (v := .tuple #[w22, w23, w24, .int .i64 0]) rfl) rfl ?_
  refine rl_det (met_none rfl) (fun h_ H_ => exd_extract rfl (v := w22) rfl) rfl ?_
  refine rl_det (met_none rfl) (fun h_ H_ => exd_extract rfl (v := w23) rfl) (tm' := _::_::_::_::_::_::_::_::_::_::_::_::_::_::_::_::_::_::_::_::_) rfl ?_
  refine rl_det (met_none rfl) (fun h_ H_ => exd_extract rfl (v := w24) rfl) rfl ?_
  refine rl_det (met_none rfl) (fun h_ H_ => exd_extract rfl (v := .int .i64 0) rfl) rfl ?_
  refine rl_det (met_none rfl) (fun h_ H_ => exd_assign (v := w22) rfl) (tm' := _::_::_::_::_::_::_::_) rfl ?_
  refine rl_det (met_none rfl) (fun h_ H_ => exd_assign (v := w23) rfl) rfl ?_
  refine rl_det (met_none rfl) (fun h_ H_ => exd_assign (v := w24) rfl) rfl ?_
  refine rl_det (met_none rfl) (fun h_ H_ => exd_assign (v := .int .i64 0) rfl) (tm' := _::_::_::_::_::_::_::_::_::_::_) rfl ?_
  refine rl_end ?_
  refine fl_seq ?_
  refine fl_seq ?_
  refine rl_start ?_
  refine rl_det (met_none rfl) (fun h_ H_ => exd_move (v := .int .i64 0) rfl) rfl ?_
  refine rl_det (met_none rfl) (fun h_ H_ => exd_neq rfl rfl) rfl ?_
  refine rl_det (met_none rfl) (fun h_ H_ => exd_move (v := .bool (decide ((0 : Int) ≠ 0))) rfl) (tm' := _::_::_::_::_::_::_::_::_::_::_::_::_::_::_::_::_::_::_::_::_::_::_::_::_::_) rfl ?_
  refine rl_det (met_some rfl rfl (decide_eq_false (by decide))) (fun h_ H_ => exd_move (v := w22) rfl) rfl ?_
  refine rl_det (met_some rfl rfl (decide_eq_false (by decide))) (fun h_ H_ => exd_lenN o28 (ns_length _ _) Try.underlying25 rfl) rfl ?_
  refine rl_det (met_some rfl rfl (decide_eq_false (by decide))) (fun h_ H_ => exd_fieldAddr tF24_2 rfl (a' := ⟨b1, 2, none⟩) rfl) (tm' := _::_::_::_::_::_::_::_::_::_::_::_::_::_::_::_::_::_::_::_::_::_::_::_::_::_::_::_::_) rfl ?_
  refine rl_det (met_some rfl rfl (decide_eq_false (by decide))) (fun h_ H_ => exd_load_own H_ tA22 rfl (i := 1) rfl (v := .slice a n c) rfl) rfl ?_
  refine rl_det (met_some rfl rfl (decide_eq_false (by decide))) (fun h_ H_ => exd_len Try.underlying22 rfl) rfl ?_
  refine rl_det (met_some rfl rfl (decide_eq_false (by decide))) (fun h_ H_ => exd_neq rfl rfl) (tm' := _::_::_::_::_::_::_::_::_::_::_::_::_::_::_::_::_::_::_::_::_::_::_::_::_::_::_::_::_::_::_::_) rfl ?_
  refine rl_det (met_none rfl) (fun h_ H_ => exd_pick_f rfl (decide_eq_false (by decide)) (v := .bool (decide (((n : Nat) : Int) ≠ ((n : Nat) : Int)))) rfl) rfl ?_
  refine rl_det (met_none rfl) (fun h_ H_ => exd_move (v := .bool (decide (((n : Nat) : Int) ≠ ((n : Nat) : Int)))) rfl) rfl ?_
  refine rl_det (met_some rfl rfl (decide_eq_false (fun h_ => h_ rfl))) (fun h_ H_ => exd_move (v := w23) rfl) (tm' := _::_::_::_::_::_::_::_::_::_::_::_::_::_::_::_::_::_::_::_::_::_::_::_::_::_::_::_::_::_::_::_::_::_::_) rfl ?_
  refine rl_det (met_some rfl rfl (decide_eq_false (fun h_ => h_ rfl))) (fun h_ H_ => exd_lenN o29 (ns_length _ _) Try.underlying25 rfl) rfl ?_
  refine rl_det (met_some rfl rfl (decide_eq_false (fun h_ => h_ rfl))) (fun h_ H_ => exd_move (v := w22) rfl) rfl ?_
  refine rl_det (met_some rfl rfl (decide_eq_false (fun h_ => h_ rfl))) (fun h_ H_ => exd_lenN o28 (ns_length _ _) Try.underlying25 rfl) (tm' := _::_::_::_::_::_::_::_::_::_::_::_::_::_::_::_::_::_::_::_::_::_::_::_::_::_::_::_::_::_::_::_::_::_::_::_::_::_) rfl ?_
  refine rl_det (met_some rfl rfl (decide_eq_false (fun h_ => h_ rfl))) (fun h_ H_ => exd_neq rfl rfl) rfl ?_
  refine rl_det (met_none rfl) (fun h_ H_ => exd_pick_f rfl (decide_eq_false (fun h_ => h_ rfl)) (v := .bool (decide (((n : Nat) : Int) ≠ ((n : Nat) : Int)))) rfl) rfl ?_
  refine rl_det (met_none rfl) (fun h_ H_ => exd_move (v := .bool (decide (((n : Nat) : Int) ≠ ((n : Nat) : Int)))) rfl) (tm' := _::_::_::_::_::_::_::_::_::_::_::_::_::_::_::_::_::_::_::_::_::_::_::_::_::_::_::_::_::_::_::_::_::_::_::_::_::_::_::_::_) rfl ?_
  refine rl_det (met_some rfl rfl (decide_eq_false (fun h_ => h_ rfl))) (fun h_ H_ => exd_move (v := w24) rfl) rfl ?_
  refine rl_det (met_some rfl rfl (decide_eq_false (fun h_ => h_ rfl))) (fun h_ H_ => exd_lenN o30 (ns_length _ _) Try.underlying25 rfl) rfl ?_
  refine rl_det (met_some rfl rfl (decide_eq_false (fun h_ => h_ rfl))) (fun h_ H_ => exd_move (v := w22) rfl) (tm' := _::_::_::_::_::_::_::_::_::_::_::_::_::_::_::_::_::_::_::_::_::_::_::_::_::_::_::_::_::_::_::_::_::_::_::_::_::_::_::_::_::_::_::_) rfl ?_
  refine rl_det (met_some rfl rfl (decide_eq_false (fun h_ => h_ rfl))) (fun h_ H_ => exd_lenN o28 (ns_length _ _) Try.underlying25 rfl) rfl ?_
  refine rl_det (met_some rfl rfl (decide_eq_false (fun h_ => h_ rfl))) (fun h_ H_ => exd_neq rfl rfl) rfl ?_
  refine rl_det (met_none rfl) (fun h_ H_ => exd_pick_f rfl (decide_eq_false (fun h_ => h_ rfl)) (v := .bool (decide (((n : Nat) : Int) ≠ ((n : Nat) : Int)))) rfl) (tm' := _::_::_::_::_::_::_::_::_::_::_::_::_::_::_::_::_::_::_::_::_::_::_::_::_::_::_::_::_::_::_::_::_::_::_::_::_::_::_::_::_::_::_::_::_::_::_) rfl ?_
  refine rl_end ?_
  refine fl_else rfl (decide_eq_false (fun h_ => h_ rfl)) ?_
  refine fl_skip ?_
  refine fl_seq ?_
  refine fl_seq ?_
  refine rl_start ?_
  refine rl_det (met_none rfl) (fun h_ H_ => exd_assign (v := .int .i64 0) rfl) rfl ?_
  refine rl_end ?_
  refine fl_block ?_
  refine fl_loop (m₀ := n - 0) (fun m_ tm_ h_ => ∃ (k : Nat), m_ = n - k ∧ (∃ y31 : Nat → Value, tm_ = [.agg #[.int .i64 (size), .int .i64 (start), .slice a n c], .slice b m d, .pointer (some ⟨b1, 0, none⟩), undef, .pointer (some ⟨b2, 0, none⟩), (y31 5), w22, w23, w24, .int .i64 0, .int .i64 (((k : Nat) : Int)), .tuple #[w22, w23, w24, .int .i64 0], .agg #[.int .i64 (size), .int .i64 (start), .slice a n c], .agg #[.int .i64 (size), .int .i64 (start), .slice a13 n cp14], v6, .slice b m d, .slice a18 m cp19, .tuple #[w22, w23, w24, .int .i64 0], w22, w23, w24, .int .i64 0, .int .i64 0, .bool (decide ((0 : Int) ≠ 0)), .bool (decide ((0 : Int) ≠ 0)), w22, .int .i64 (((n : Nat) : Int)), .pointer (some ⟨b1, 2, none⟩), .slice a n c, .int .i64 (((n : Nat) : Int)), .bool (decide (((n : Nat) : Int) ≠ ((n : Nat) : Int))), .bool (decide (((n : Nat) : Int) ≠ ((n : Nat) : Int))), .bool (decide (((n : Nat) : Int) ≠ ((n : Nat) : Int))), w23, .int .i64 (((n : Nat) : Int)), w22, .int .i64 (((n : Nat) : Int)), .bool (decide (((n : Nat) : Int) ≠ ((n : Nat) : Int))), .bool (decide (((n : Nat) : Int) ≠ ((n : Nat) : Int))), .bool (decide (((n : Nat) : Int) ≠ ((n : Nat) : Int))), w24, .int .i64 (((n : Nat) : Int)), w22, .int .i64 (((n : Nat) : Int)), .bool (decide (((n : Nat) : Int) ≠ ((n : Nat) : Int))), .bool (decide (((n : Nat) : Int) ≠ ((n : Nat) : Int))), undef, (y31 47), (y31 48), (y31 49), (y31 50), (y31 51), (y31 52), (y31 53), (y31 54), (y31 55), (y31 56), (y31 57), (y31 58), (y31 59), (y31 60), (y31 61), (y31 62), (y31 63), (y31 64), (y31 65), (y31 66), (y31 67), (y31 68), (y31 69), (y31 70), (y31 71), (y31 72), (y31 73), (y31 74), (y31 75), (y31 76), (y31 77), (y31 78), (y31 79), (y31 80), (y31 81), (y31 82), (y31 83), undef, undef, undef, undef]) ∧ (k ≤ n) ∧ St h [] p17 h_ (([(b2, .cells #[.slice none 0 0, .slice none 0 0, .slice none 0 0] 30 (0, 0)), (b1, .cells #[.int .i64 (size), .int .i64 (start), .slice a n c] 24 (0, 0))] : Pcs) ++ (X25 ++ (X26 ++ (X27 ++ []))))) (fun h_ H_ => ⟨0, rfl, (y_of rfl), Nat.zero_le _, H_⟩) ?_
  intro m_ tm_ IH32
  refine rs_ex fun k => rs_and fun hm_ => rs_and fun ht_ => rs_and fun hk => ?_
  subst hm_; obtain ⟨y31, ht_⟩ := ht_; subst ht_
  have hdk := day_ok hOk hW (k := k)
  refine fl_seq ?_
  refine fl_seq ?_
  refine rl_start ?_
  refine rl_det (met_none rfl) (fun h_ H_ => exd_move (v := .int .i64 (((k : Nat) : Int))) rfl) rfl ?_
  refine rl_det (met_none rfl) (fun h_ H_ => exd_move (v := w22) rfl) (tm' := _::_::_::_::_::_::_::_::_::_::_::_::_::_::_::_::_::_::_::_::_::_::_::_::_::_::_::_::_::_::_::_::_::_::_::_::_::_::_::_::_::_::_::_::_::_::_::_::_::_) rfl ?_
  refine rl_det (met_none rfl) (fun h_ H_ => exd_lenN o28 (ns_length _ _) Try.underlying25 rfl) rfl ?_
  refine rl_det (met_none rfl) (fun h_ H_ => exd_lss rfl rfl) rfl ?_
  refine rl_end ?_
  by_cases cc33 : ((k : Nat) : Int) < ((n : Nat) : Int)
  · refine fl_then rfl (decide_eq_true cc33) ?_
    refine fl_skip ?_
    refine fl_seq ?_
    refine fl_block ?_
    refine fl_seq ?_
    refine fl_drawn2 25 [[], [], [0, 1], [0, 1, 2], [], [4], [0, 1, 2, 3, 4, 5], [0, 1, 2, 3, 4, 5], [0, 1, 2, 3, 4, 5, 6, 7], [], [], [9, 10], [9, 10, 11], [], [13], [0, 1, 2, 3, 4, 5, 6, 7], [0, 1, 2, 3, 4, 5, 6, 7, 13, 14, 15], [0, 1, 2, 3, 4, 5, 6, 7, 13, 14, 15, 16], [0, 1, 2, 3, 4, 5, 6, 7, 13, 14, 15, 16, 17], [0, 1, 2, 3, 4, 5, 6, 7, 9, 10, 11, 12, 13, 14, 15, 16, 17, 18], [0, 1, 2, 3, 4, 5, 6, 7, 9, 10, 11, 12, 13, 14, 15, 16, 17, 18], [0, 1, 2, 3, 4, 5, 6, 7, 8, 9, 10, 11, 12, 13, 14, 15, 16, 17, 18, 20], [0, 1, 2, 3, 4, 5, 6, 7, 8, 9, 10, 11, 12, 13, 14, 15, 16, 17, 18, 19, 20, 21], [], [0, 1, 2, 3, 4, 5, 6, 7, 8, 9, 10, 11, 12, 13, 14, 15, 16, 17, 18, 19, 20, 21], [0, 1, 2, 3, 4, 5, 6, 7, 8, 9, 10, 11, 12, 13, 14, 15, 16, 17, 18, 19, 20, 21, 23, 24], [0, 1, 2, 3, 4, 5, 6, 7, 8, 9, 10, 11, 12, 13, 14, 15, 16, 17, 18, 19, 20, 21, 23, 24, 25], [0, 1, 2, 3, 4, 5, 6, 7, 8, 9, 10, 11, 12, 13, 14, 15, 16, 17, 18, 19, 20, 21, 23, 24, 25, 26], [0, 1, 2, 3, 4, 5, 6, 7, 8, 9, 10, 11, 12, 13, 14, 15, 16, 17, 18, 19, 20, 21, 23, 24, 25, 26, 27], []] mixed (by kernel_rfl) (Nat.le_of_ble_eq_true rfl) ?_
    refine swr_det (met_none rfl) (fun h_ H_ => exd_move (v := w22) rfl) (tm' := _::_::_::_::_::_::_::_::_::_::_::_::_::_::_::_::_::_::_::_::_::_::_::_::_::_::_::_::_::_::_::_::_::_::_::_::_::_::_::_::_::_::_::_::_::_::_::_::_::_::_::_::_::_::_) rfl ?_
    refine swr_det (met_none rfl) (fun h_ H_ => exd_move (v := .int .i64 (((k : Nat) : Int))) rfl) rfl ?_
    refine swr_det (met_none rfl) (fun h_ H_ => exd_indexO o28 Try.underlying25 tS3 rfl rfl (by rw [(ns_length _ _)]; omega)) (tm' := _::_::_::_::_::_::_::_::_::_::_::_::_::_::_::_::_::_::_::_::_::_::_::_::_::_::_::_::_::_::_::_::_::_::_::_::_::_::_::_::_::_::_::_::_::_::_::_::_::_::_::_::_::_::_::_::_) rfl ?_
    refine swr_det (met_none rfl) (fun h_ H_ => exd_loadO (A := ([(b2, .cells #[.slice none 0 0, .slice none 0 0, .slice none 0 0] 30 (0, 0)), (b1, .cells #[.int .i64 (size), .int .i64 (start), .slice a n c] 24 (0, 0))] : Pcs)) (i := k) (j := 0) (e := [.int .i64 (levs size start (wantOf ds) (listOf xs) k)]) o28 H_ tA3 rfl rfl (ns_at (by omega)) (u := .int .i64 (levs size start (wantOf ds) (listOf xs) k)) rfl) rfl ?_
    refine swr_det (met_none rfl) (fun h_ H_ => exd_fieldAddr tF24_0 rfl (a' := ⟨b1, 0, none⟩) rfl) (tm' := _::_::_::_::_::_::_::_::_::_::_::_::_::_::_::_::_::_::_::_::_::_::_::_::_::_::_::_::_::_::_::_::_::_::_::_::_::_::_::_::_::_::_::_::_::_::_::_::_::_::_::_::_::_::_::_::_::_::_) rfl ?_
    refine swr_det (met_none rfl) (fun h_ H_ => exd_load_own H_ tA3 rfl (i := 1) rfl (v := .int .i64 (size)) rfl) rfl ?_
    refine swr_call (met_none rfl) (first := []) (cap := []) rfl rfl fC22 (fun h_ H_ => (c22 md _ (levs size start (wantOf ds) (listOf xs) k) (0) (size)).mono fun v_ h2_ ⟨e_, k_⟩ => ⟨e_, H_.call k_⟩) (tm' := [_,_,_,_,_,_,_,_,_,_,_,_,_,_,_,_,_,_,_,_,_,_,_,_,_,_,_,_,_,_,_,_,_,_,_,_,_,_,_,_,_,_,_,_,_,_,_,_,_,_,_,_,_,_,_,_,_,_,_,_,_,_,_,_,_,_,_,_,_,_,_,_,_,_,_,_,_,_,_,_,_,_,_,_,_,_,_,_]) rfl ?_
    refine swr_det (met_none rfl) (fun h_ H_ => exd_not rfl) rfl ?_
    refine swr_det (met_none rfl) (fun h_ H_ => exd_move (v := .bool (!(decide (0 ≤ levs size start (wantOf ds) (listOf xs) k ∧ levs size start (wantOf ds) (listOf xs) k ≤ size)))) rfl) (tm' := [_,_,_,_,_,_,_,_,_,_,_,_,_,_,_,_,_,_,_,_,_,_,_,_,_,_,_,_,_,_,_,_,_,_,_,_,_,_,_,_,_,_,_,_,_,_,_,_,_,_,_,_,_,_,_,_,_,_,_,_,_,_,_,_,_,_,_,_,_,_,_,_,_,_,_,_,_,_,_,_,_,_,_,_,_,_,_,_]) rfl ?_
    refine swr_det (met_some rfl rfl (not_f (decide_eq_true (by omega)))) (fun h_ H_ => exd_move (v := w23) rfl) rfl ?_
    refine swr_det (met_some rfl rfl (not_f (decide_eq_true (by omega)))) (fun h_ H_ => exd_move (v := .int .i64 (((k : Nat) : Int))) rfl) (tm' := [_,_,_,_,_,_,_,_,_,_,_,_,_,_,_,_,_,_,_,_,_,_,_,_,_,_,_,_,_,_,_,_,_,_,_,_,_,_,_,_,_,_,_,_,_,_,_,_,_,_,_,_,_,_,_,_,_,_,_,_,_,_,_,_,_,_,_,_,_,_,_,_,_,_,_,_,_,_,_,_,_,_,_,_,_,_,_,_]) rfl ?_
    refine swr_det (met_some rfl rfl (not_f (decide_eq_true (by omega)))) (fun h_ H_ => exd_indexO o29 Try.underlying25 tS3 rfl rfl (by rw [(ns_length _ _)]; omega)) rfl ?_
    refine swr_det (met_some rfl rfl (not_f (decide_eq_true (by omega)))) (fun h_ H_ => exd_loadM (i := k) (j := 0) (e := [.int .i64 (lack size start (wantOf ds) (listOf xs) k)]) o29 H_ (fun x_ h_ => by simp [h_]) tA3 rfl rfl (ns_at (by omega)) (u := .int .i64 (lack size start (wantOf ds) (listOf xs) k)) rfl) (tm' := [_,_,_,_,_,_,_,_,_,_,_,_,_,_,_,_,_,_,_,_,_,_,_,_,_,_,_,_,_,_,_,_,_,_,_,_,_,_,_,_,_,_,_,_,_,_,_,_,_,_,_,_,_,_,_,_,_,_,_,_,_,_,_,_,_,_,_,_,_,_,_,_,_,_,_,_,_,_,_,_,_,_,_,_,_,_,_,_]) rfl ?_
    refine swr_det (met_some rfl rfl (not_f (decide_eq_true (by omega)))) (fun h_ H_ => exd_fieldAddr tF24_2 rfl (a' := ⟨b1, 2, none⟩) rfl) rfl ?_
    refine swr_det (met_some rfl rfl (not_f (decide_eq_true (by omega)))) (fun h_ H_ => exd_load_own H_ tA22 rfl (i := 1) rfl (v := .slice a n c) rfl) (tm' := [_,_,_,_,_,_,_,_,_,_,_,_,_,_,_,_,_,_,_,_,_,_,_,_,_,_,_,_,_,_,_,_,_,_,_,_,_,_,_,_,_,_,_,_,_,_,_,_,_,_,_,_,_,_,_,_,_,_,_,_,_,_,_,_,_,_,_,_,_,_,_,_,_,_,_,_,_,_,_,_,_,_,_,_,_,_,_,_]) rfl ?_
    refine swr_det (met_some rfl rfl (not_f (decide_eq_true (by omega)))) (fun h_ H_ => exd_move (v := .int .i64 (((k : Nat) : Int))) rfl) rfl ?_
    refine swr_det (met_some rfl rfl (not_f (decide_eq_true (by omega)))) (fun h_ H_ => exd_indexAddrN (i := k) Try.underlying22 tS38 (sl_ne a n c (((D.mono le15).mono le20).ne (by omega))) rfl (by omega)) (tm' := [_,_,_,_,_,_,_,_,_,_,_,_,_,_,_,_,_,_,_,_,_,_,_,_,_,_,_,_,_,_,_,_,_,_,_,_,_,_,_,_,_,_,_,_,_,_,_,_,_,_,_,_,_,_,_,_,_,_,_,_,_,_,_,_,_,_,_,_,_,_,_,_,_,_,_,_,_,_,_,_,_,_,_,_,_,_,_,_]) rfl ?_
    refine swr_det (met_some rfl rfl (not_f (decide_eq_true (by omega)))) (fun h_ H_ => exd_fieldAddr tF38_1 rfl (a' := ((adr a).add (k * 3)).add 2) rfl) rfl ?_
    refine swr_det (met_some rfl rfl (not_f (decide_eq_true (by omega)))) (fun h_ H_ => exd_load_per H_ tA3 rfl (v := .int .i64 ((ds.getD k dz).want)) (((D.mono le15).mono le20).want (by omega))) (tm' := [_,_,_,_,_,_,_,_,_,_,_,_,_,_,_,_,_,_,_,_,_,_,_,_,_,_,_,_,_,_,_,_,_,_,_,_,_,_,_,_,_,_,_,_,_,_,_,_,_,_,_,_,_,_,_,_,_,_,_,_,_,_,_,_,_,_,_,_,_,_,_,_,_,_,_,_,_,_,_,_,_,_,_,_,_,_,_,_]) rfl ?_
    refine swr_call (met_some rfl rfl (not_f (decide_eq_true (by omega)))) (first := []) (cap := []) rfl rfl fC22 (fun h_ H_ => (c22 md _ (lack size start (wantOf ds) (listOf xs) k) (0) ((ds.getD k dz).want)).mono fun v_ h2_ ⟨e_, k_⟩ => ⟨e_, H_.call k_⟩) rfl ?_
    refine swr_det (met_some rfl rfl (not_f (decide_eq_true (by omega)))) (fun h_ H_ => exd_not rfl) (tm' := [_,_,_,_,_,_,_,_,_,_,_,_,_,_,_,_,_,_,_,_,_,_,_,_,_,_,_,_,_,_,_,_,_,_,_,_,_,_,_,_,_,_,_,_,_,_,_,_,_,_,_,_,_,_,_,_,_,_,_,_,_,_,_,_,_,_,_,_,_,_,_,_,_,_,_,_,_,_,_,_,_,_,_,_,_,_,_,_]) rfl ?_
    refine swr_det (met_none rfl) (fun h_ H_ => exd_pick_f rfl (not_f (decide_eq_true (by omega))) (v := .bool (!(decide (0 ≤ lack size start (wantOf ds) (listOf xs) k ∧ lack size start (wantOf ds) (listOf xs) k ≤ (ds.getD k dz).want)))) rfl) rfl ?_
    refine swr_det (met_none rfl) (fun h_ H_ => exd_move (v := .bool (!(decide (0 ≤ lack size start (wantOf ds) (listOf xs) k ∧ lack size start (wantOf ds) (listOf xs) k ≤ (ds.getD k dz).want)))) rfl) (tm' := [_,_,_,_,_,_,_,_,_,_,_,_,_,_,_,_,_,_,_,_,_,_,_,_,_,_,_,_,_,_,_,_,_,_,_,_,_,_,_,_,_,_,_,_,_,_,_,_,_,_,_,_,_,_,_,_,_,_,_,_,_,_,_,_,_,_,_,_,_,_,_,_,_,_,_,_,_,_,_,_,_,_,_,_,_,_,_,_]) rfl ?_
    refine swr_det (met_some rfl rfl (not_f (decide_eq_true (by omega)))) (fun h_ H_ => exd_move (v := w24) rfl) rfl ?_
    refine swr_det (met_some rfl rfl (not_f (decide_eq_true (by omega)))) (fun h_ H_ => exd_move (v := .int .i64 (((k : Nat) : Int))) rfl) (tm' := [_,_,_,_,_,_,_,_,_,_,_,_,_,_,_,_,_,_,_,_,_,_,_,_,_,_,_,_,_,_,_,_,_,_,_,_,_,_,_,_,_,_,_,_,_,_,_,_,_,_,_,_,_,_,_,_,_,_,_,_,_,_,_,_,_,_,_,_,_,_,_,_,_,_,_,_,_,_,_,_,_,_,_,_,_,_,_,_]) rfl ?_
    refine swr_nil rfl ?_
    refine rl_det (met_some rfl rfl (not_f (decide_eq_true (by omega)))) (fun h_ H_ => exd_indexO o30 Try.underlying25 tS3 rfl rfl (by rw [(ns_length _ _)]; omega)) rfl ?_
    refine rl_det (met_some rfl rfl (not_f (decide_eq_true (by omega)))) (fun h_ H_ => exd_loadM (i := k) (j := 0) (e := [.int .i64 (ovr size start (wantOf ds) (listOf xs) k)]) o30 H_ (fun x_ h_ => by simp [h_]) tA3 rfl rfl (ns_at (by omega)) (u := .int .i64 (ovr size start (wantOf ds) (listOf xs) k)) rfl) rfl ?_
    refine rl_calld (met_some rfl rfl (not_f (decide_eq_true (by omega)))) (first := []) (cap := []) rfl rfl fC22 (fun h_ H_ => c22 md _ (ovr size start (wantOf ds) (listOf xs) k) (0) (80)) (tm' := [_,_,_,_,_,_,_,_,_,_,_,_,_,_,_,_,_,_,_,_,_,_,_,_,_,_,_,_,_,_,_,_,_,_,_,_,_,_,_,_,_,_,_,_,_,_,_,_,_,_,_,_,_,_,_,_,_,_,_,_,_,_,_,_,_,_,_,_,_,_,_,_,_,_,_,_,_,_,_,_,_,_,_,_,_,_,_,_]) rfl ?_
    refine rl_det (met_some rfl rfl (not_f (decide_eq_true (by omega)))) (fun h_ H_ => exd_not rfl) rfl ?_
    refine rl_det (met_none rfl) (fun h_ H_ => exd_pick_f rfl (not_f (decide_eq_true (by omega))) (v := .bool (!(decide (0 ≤ ovr size start (wantOf ds) (listOf xs) k ∧ ovr size start (wantOf ds) (listOf xs) k ≤ 80)))) rfl) rfl ?_
    refine rl_end ?_
    refine fl_else rfl (not_f (decide_eq_true (by omega))) ?_
    refine fl_skip ?_
    refine fl_inBlock ?_
    refine rl_start ?_
    refine rl_det (met_none rfl) (fun h_ H_ => exd_move (v := .int .i64 (((k : Nat) : Int))) rfl) (tm' := _::_::_::_::_::_::_::_::_::_::_::_::_::_::_::_::_::_::_::_::_::_::_::_::_::_::_::_::_::_::_::_::_::_::_::_::_::_::_::_::_::_::_::_::_::_::_::_::_::_::_::_::_) rfl ?_
    refine rl_det (met_none rfl) (fun h_ H_ => exd_add rfl rfl (n := ((k + 1 : Nat) : Int)) (wr (by omega))) rfl ?_
    refine rl_det (met_none rfl) (fun h_ H_ => exd_assign (v := .int .i64 (((k + 1 : Nat) : Int))) rfl) rfl ?_
    refine rl_end ?_
    exact fun h_ H_ => IH32 _ _ (by omega) h_ ⟨k + 1, rfl, (y_of rfl), (by omega), H_⟩
  · refine fl_else rfl (decide_eq_false cc33) ?_
    refine fl_exit rfl ?_
    refine fl_seq ?_
    refine rl_start ?_
    refine rl_det (met_none rfl) (fun h_ H_ => exd_move (v := w22) rfl) (tm' := [_,_,_,_,_,_,_,_,_,_,_,_,_,_,_,_,_,_,_,_,_,_,_,_,_,_,_,_,_,_,_,_,_,_,_,_,_,_,_,_,_,_,_,_,_,_,_,_,_,_,_,_,_,_,_,_,_,_,_,_,_,_,_,_,_,_,_,_,_,_,_,_,_,_,_,_,_,_,_,_,_,_,_,_,_,_,_,_]) rfl ?_
    refine rl_det (met_none rfl) (fun h_ H_ => exd_move (v := w23) rfl) rfl ?_
    refine rl_det (met_none rfl) (fun h_ H_ => exd_move (v := w24) rfl) rfl ?_
    obtain ⟨a34, c35, ev_, _⟩ := o28.val; have ev_ : w22 = .slice a34 n c35 := ev_.trans (congrArg (fun q_ => Value.slice a34 q_ c35) (ns_length _ _)); subst ev_
    obtain ⟨a36, c37, ev_, _⟩ := o29.val; have ev_ : w23 = .slice a36 n c37 := ev_.trans (congrArg (fun q_ => Value.slice a36 q_ c37) (ns_length _ _)); subst ev_
    obtain ⟨a38, c39, ev_, _⟩ := o30.val; have ev_ : w24 = .slice a38 n c39 := ev_.trans (congrArg (fun q_ => Value.slice a38 q_ c39) (ns_length _ _)); subst ev_
    refine rl_det (met_none rfl) (fun h_ H_ => exd_build tZ30 tP30 (vs := [(0, (.slice a34 n c35)), (1, (.slice a36 n c37)), (2, (.slice a38 n c39))]) rfl (cells := #[(.slice a34 n c35), (.slice a36 n c37), (.slice a38 n c39)]) rfl) (tm' := [_,_,_,_,_,_,_,_,_,_,_,_,_,_,_,_,_,_,_,_,_,_,_,_,_,_,_,_,_,_,_,_,_,_,_,_,_,_,_,_,_,_,_,_,_,_,_,_,_,_,_,_,_,_,_,_,_,_,_,_,_,_,_,_,_,_,_,_,_,_,_,_,_,_,_,_,_,_,_,_,_,_,_,_,_,_,_,_]) rfl ?_
    refine rl_store (met_none rfl) tS30 rfl (v := .agg #[(.slice a34 n c35), (.slice a36 n c37), (.slice a38 n c39)]) rfl (i := 0) rfl rfl (ones_cons o28.one.2 (ones_cons o29.one.2 (ones_cons o30.one.2 rfl))) (Nat.le_of_ble_eq_true rfl) (cs2 := [(.slice a34 n c35), (.slice a36 n c37), (.slice a38 n c39)]) rfl (rl_own (L' := ([(b2, .cells #[(.slice a34 n c35), (.slice a36 n c37), (.slice a38 n c39)] 30 (0, 0)), (b1, .cells #[.int .i64 (size), .int .i64 (start), .slice a n c] 24 (0, 0))] : Pcs) ++ (X25 ++ (X26 ++ (X27 ++ [])))) rfl ?_)
    refine rl_det (met_none rfl) (fun h_ H_ => exd_assign (v := .bool (true)) rfl) rfl ?_
    refine rl_end ?_
    refine fl_ret Try.func19 rfl (vs := [.agg #[(.slice a34 n c35), (.slice a36 n c37), (.slice a38 n c39)], .bool (true)]) (fun h_ H_ => ⟨.agg #[(.slice a34 n c35), (.slice a36 n c37), (.slice a38 n c39)], _, rfl, (wpS_bind (wpS_pure (wpS_loadVarN tA30 tS30 (vs := [(.slice a34 n c35), (.slice a36 n c37), (.slice a38 n c39)]) rfl (fun j_ v_ e_ => by rw [add_mk]; exact H_.ocell (i := 0) rfl (by simpa using e_)) ⟨rfl, rfl⟩))), ⟨.bool (true), _, rfl, rfl, rfl⟩⟩) (v := .tuple #[.agg #[(.slice a34 n c35), (.slice a36 n c37), (.slice a38 n c39)], .bool (true)]) rfl ?_
    exact fun h_ H_ => K _ _ ⟨_, _, _, _, _, _, rfl, o28, o29, o30, H_.dropA.new⟩
end Go.Proofs.Ytbmkacnlhlbnjaa
namespace Go.Proofs.Ytbmkacnlhlbnjaa
open Go.X Go.X.Cist Go.Conc
set_option maxRecDepth 10000

end Go.Proofs.Ytbmkacnlhlbnjaa
namespace Go.Proofs.Ytbmkacnlhlbnjaa
open Go.X Go.X.Cist Go.Conc

/-- Between what the level, the lack, the sum of what ran over of a day is. -/
def levLo (size start : Int) (ds : List Day) (k : Nat) : Int := lev size (min start size) (wantOf ds) (loOf ds) (k + 1)
def levHi (size start : Int) (ds : List Day) (k : Nat) : Int := lev size (min start size) (wantOf ds) (hiOf ds) (k + 1)
def lackLo (size start : Int) (ds : List Day) (k : Nat) : Int := lack size (min start size) (wantOf ds) (hiOf ds) k
def lackHi (size start : Int) (ds : List Day) (k : Nat) : Int := lack size (min start size) (wantOf ds) (loOf ds) k
def overLo (size start : Int) (ds : List Day) (k : Nat) : Int := sumTo (ovr size (min start size) (wantOf ds) (loOf ds)) (k + 1)
def overHi (size start : Int) (ds : List Day) (k : Nat) : Int := sumTo (ovr size (min start size) (wantOf ds) (hiOf ds)) (k + 1)

section
variable {h : Heap} {p : PHeap} {size start : Int} {a : Option Addr} {n c : Nat} {ds : List Day}
end
end Go.Proofs.Ytbmkacnlhlbnjaa
namespace Go.X.Cist
open Go.X Go.Proofs.Ytbmkacnlhlbnjaa

section
variable {size start : Int} {ds ds' : List Day} {xs : List Int} {n : Nat}

/-! ### each weather -/
/-! ### two parts -/
theorem lev_shift {want rain : Nat → Int} {c : Nat} : ∀ k, lev size start want rain (c + k) = lev size (lev size start want rain c) (fun i => want (c + i)) (fun i => rain (c + i)) k
  | 0 => rfl
  | k + 1 => by
    have h := lev_shift (want := want) (rain := rain) (c := c) k
    show lev size start want rain (c + k + 1) = _
    simp only [lev]
    rw [h]
theorem lack_congr {want want' rain rain' : Nat → Int} {k : Nat} (hw : ∀ i, i ≤ k → want i = want' i) (hr : ∀ i, i ≤ k → rain i = rain' i) : lack size start want rain k = lack size start want' rain' k := by
  have h := lev_congr (size := size) (start := start) k (fun i hi => hw i (by omega)) fun i hi => hr i (by omega)
  unfold lack ovr
  rw [h, hw k (Nat.le_refl _), hr k (Nat.le_refl _)]
theorem ovr_congr {want want' rain rain' : Nat → Int} {k : Nat} (hw : ∀ i, i ≤ k → want i = want' i) (hr : ∀ i, i ≤ k → rain i = rain' i) : ovr size start want rain k = ovr size start want' rain' k := by
  have h := lev_congr (size := size) (start := start) k (fun i hi => hw i (by omega)) fun i hi => hr i (by omega)
  unfold ovr
  rw [h, hr k (Nat.le_refl _)]
theorem nums_parts {f g h : Nat → Int} {c : Nat} (hc : c ≤ n) (h1 : ∀ i, i < c → f i = g i) (h2 : ∀ i, i < n - c → f (c + i) = h i) : nums f n = nums g c ++ nums h (n - c) := by
  refine List.ext_getElem (by simp [nums_length]; omega) fun i a b => ?_
  rw [nums_length] at a
  by_cases e : i < c
  · rw [List.getElem_append_left (by rw [nums_length]; exact e)]
    simpa [nums] using h1 i e
  · rw [List.getElem_append_right (by rw [nums_length]; omega)]
    have := h2 (i - c) (by omega)
    rw [show c + (i - c) = i from by omega] at this
    simpa [nums] using this
theorem take_getD {α : Type} {l : List α} {c i : Nat} {d : α} (h : i < c) : (l.take c).getD i d = l.getD i d := by rw [List.getD_eq_getElem?_getD, List.getElem?_take, if_pos h, ← List.getD_eq_getElem?_getD]
theorem drop_getD {α : Type} {l : List α} {c i : Nat} {d : α} : (l.drop c).getD i d = l.getD (c + i) d := by rw [List.getD_eq_getElem?_getD, List.getElem?_drop, ← List.getD_eq_getElem?_getD]
theorem want_take {c i : Nat} (h : i < c) : wantOf (ds.take c) i = wantOf ds i := by unfold wantOf; rw [List.getD_eq_getElem?_getD, List.getElem?_take, if_pos h, ← List.getD_eq_getElem?_getD]
theorem want_drop {c : Nat} : wantOf (ds.drop c) = fun i => wantOf ds (c + i) := by funext i; unfold wantOf; rw [List.getD_eq_getElem?_getD, List.getElem?_drop, ← List.getD_eq_getElem?_getD]
theorem list_take {c i : Nat} (h : i < c) : listOf (xs.take c) i = listOf xs i := by unfold listOf; rw [List.getD_eq_getElem?_getD, List.getElem?_take, if_pos h, ← List.getD_eq_getElem?_getD]
theorem list_drop {c : Nat} : listOf (xs.drop c) = fun i => listOf xs (c + i) := by funext i; unfold listOf; rw [List.getD_eq_getElem?_getD, List.getElem?_drop, ← List.getD_eq_getElem?_getD]
theorem ok_take {c : Nat} (hOk : Ok size start ds) : Ok size start (ds.take c) := by
  refine ⟨hOk.1, hOk.2.1, hOk.2.2.1, hOk.2.2.2.1, by have := hOk.2.2.2.2.1; rw [List.length_take]; omega, fun i hi => ?_⟩
  rw [List.length_take] at hi
  rw [List.getD_eq_getElem?_getD, List.getElem?_take, if_pos (by omega), ← List.getD_eq_getElem?_getD]
  exact hOk.2.2.2.2.2 i (by omega)
theorem ok_drop {c : Nat} {s : Int} (hOk : Ok size start ds) (h0 : 0 ≤ s) (h1 : s ≤ size) : Ok size s (ds.drop c) := by
  refine ⟨hOk.1, hOk.2.1, h0, h1, by have := hOk.2.2.2.2.1; rw [List.length_drop]; omega, fun i hi => ?_⟩
  rw [List.length_drop] at hi
  rw [List.getD_eq_getElem?_getD, List.getElem?_drop, ← List.getD_eq_getElem?_getD]
  exact hOk.2.2.2.2.2 (c + i) (by omega)
theorem weather_take {c : Nat} (hW : Weather ds xs) : Weather (ds.take c) (xs.take c) := by
  have h0 := hW.1
  refine ⟨by rw [List.length_take, List.length_take, h0], fun i hi => ?_⟩
  rw [List.length_take] at hi
  rw [take_getD (by omega), take_getD (by omega)]
  exact hW.2 i (by omega)
theorem weather_drop {c : Nat} (hW : Weather ds xs) : Weather (ds.drop c) (xs.drop c) := by
  have h0 := hW.1
  refine ⟨by rw [List.length_drop, List.length_drop, h0], fun i hi => ?_⟩
  rw [List.length_drop] at hi
  rw [drop_getD, drop_getD]
  exact hW.2 (c + i) (by omega)
/-- The level behind the first part. -/
def cutStart (size start : Int) (ds : List Day) (xs : List Int) (c : Nat) : Int := lev size start (wantOf ds) (listOf xs) c
theorem cut_level {c : Int} (h0 : 0 < c) : (nums (levs size start (wantOf (ds.take c.toNat)) (listOf (xs.take c.toNat))) c.toNat).getD (c - 1).toNat 0 = cutStart size start ds xs c.toNat := by
  rw [nums_getD (by omega)]
  unfold levs cutStart
  rw [show (c - 1).toNat + 1 = c.toNat from by omega]
  exact lev_congr _ (fun i hi => want_take hi) fun i hi => list_take hi
theorem cut_ok {c : Nat} (hOk : Ok size start ds) (hW : Weather ds xs) (h : c ≤ ds.length) : 0 ≤ cutStart size start ds xs c ∧ cutStart size start ds xs c ≤ size := (lok_day hOk.lok hW h).2.1
theorem parts {c : Nat} (h : c ≤ n) :
    nums (levs size start (wantOf ds) (listOf xs)) n = nums (levs size start (wantOf (ds.take c)) (listOf (xs.take c))) c ++ nums (levs size (cutStart size start ds xs c) (wantOf (ds.drop c)) (listOf (xs.drop c))) (n - c) ∧
    nums (lack size start (wantOf ds) (listOf xs)) n = nums (lack size start (wantOf (ds.take c)) (listOf (xs.take c))) c ++ nums (lack size (cutStart size start ds xs c) (wantOf (ds.drop c)) (listOf (xs.drop c))) (n - c) ∧
    nums (ovr size start (wantOf ds) (listOf xs)) n = nums (ovr size start (wantOf (ds.take c)) (listOf (xs.take c))) c ++ nums (ovr size (cutStart size start ds xs c) (wantOf (ds.drop c)) (listOf (xs.drop c))) (n - c) := by
  have e : ∀ k, lev size start (wantOf ds) (listOf xs) (c + k) = lev size (cutStart size start ds xs c) (wantOf (ds.drop c)) (listOf (xs.drop c)) k := fun k => by rw [lev_shift, want_drop, list_drop]; rfl
  have w : ∀ i, wantOf ds (c + i) = wantOf (ds.drop c) i := fun i => by rw [want_drop]
  have r : ∀ i, listOf xs (c + i) = listOf (xs.drop c) i := fun i => by rw [list_drop]
  refine ⟨nums_parts h (fun i hi => ?_) fun i hi => ?_, nums_parts h (fun i hi => ?_) fun i hi => ?_, nums_parts h (fun i hi => ?_) fun i hi => ?_⟩
  · exact lev_congr _ (fun i hi => (want_take (by omega)).symm) fun i hi => (list_take (by omega)).symm
  · exact e (i + 1)
  · exact lack_congr (fun i hi => (want_take (by omega)).symm) fun i hi => (list_take (by omega)).symm
  · unfold lack ovr; rw [e, w, r]
  · exact ovr_congr (fun i hi => (want_take (by omega)).symm) fun i hi => (list_take (by omega)).symm
  · unfold ovr; rw [e, r]
/-! ### less doubt -/
def setRain (ds : List Day) (i : Nat) (lo hi : Int) : List Day := ds.set i ⟨lo, hi, (ds.getD i dz).want⟩
/-- A year of which only the rain is narrower. -/
structure Narrow (ds ds' : List Day) : Prop where
  len : ds'.length = ds.length
  want : ∀ i, i < ds.length → wantOf ds' i = wantOf ds i
  lo : ∀ i, i < ds.length → loOf ds i ≤ loOf ds' i
  hi : ∀ i, i < ds.length → hiOf ds' i ≤ hiOf ds i
section
variable (hN : Narrow ds ds')
include hN
end
end
end Go.X.Cist
namespace Go.X
open Go.Conc

/-- A bound of a part: none, or a number. -/
inductive Bd (tm : List Value) : Option Operand → Nat → Nat → Prop
  | none (d : Nat) : Bd tm none d d
  | some {o : Operand} {k : IntKind} {z : Int} (d : Nat) (h : evl tm o = .int k z) (h0 : 0 ≤ z) : Bd tm (some o) d z.toNat
  | nat {o : Operand} {k : IntKind} {z : Nat} (d : Nat) (h : evl tm o = .int k (z : Nat)) : Bd tm (some o) d z
def cutA (a : Option Addr) (c l w : Nat) : Option Addr := if c = l then a else a.map (·.add (l * w))

section
variable {P : Program} {h : Heap} {tm : List Value} {d : Option Tmp} {ty : TypeId} {pos : String} {aft : Array Edge} {gd : Option (Nat × Bool)}
theorem wpS_sliceBound {k : IntKind} {z : Int} {y : Nat} {code : BoundsCode} {K : Nat → Heap → Prop} (h0 : 0 ≤ z) (h1 : z ≤ (y : Nat)) (x : K z.toNat h) : wpS P (Instr.sliceBound (.int k z) y code) h K := by
  unfold Instr.sliceBound
  refine wpS_bind (wpS_pure ?_)
  simp only
  rw [if_pos ⟨h0, h1⟩]
  exact wpS_pure x
theorem wpS_sliceBounds {b : Bool} {n c l r : Nat} {lo hi : Option Operand} {K : Nat × Nat × Nat → Heap → Prop} (bl : Bd tm lo 0 l) (bh : Bd tm hi n r) (h1 : l ≤ r) (h2 : r ≤ c) (x : K (l, r, c) h) :
    wpS P (Instr.sliceBounds b n c (lo.map (evl tm)) (hi.map (evl tm)) none) h K := by
  unfold Instr.sliceBounds
  refine wpS_bind (wpS_pure ?_)
  have low : ∀ (b' : Bool), wpS P (match lo.map (evl tm) with | some v => do { let l ← Instr.sliceBound v r (if b' then .slice3C else .sliceB); pure (l, r, c) } | none => do { let l ← pure 0; pure (l, r, c) }) h K := by
    intro b'
    cases bl with
    | none => exact wpS_bind (wpS_pure (wpS_pure x))
    | some _ e h0 => simp only [Option.map_some, e]; exact wpS_bind (wpS_sliceBound h0 (by omega) (wpS_pure x))
    | nat _ e => simp only [Option.map_some, e]; exact wpS_bind (wpS_sliceBound (Int.natCast_nonneg _) (by omega) (wpS_pure (by simpa using x)))
  cases bh with
  | none =>
    simp only [Option.map_none]
    refine wpS_bind (wpS_pure ?_)
    exact low _
  | some _ e h0 =>
    simp only [Option.map_some, e]
    refine wpS_bind (wpS_sliceBound h0 (by omega) ?_)
    exact low _
  | nat _ e =>
    simp only [Option.map_some, e]
    refine wpS_bind (wpS_sliceBound (Int.natCast_nonneg _) (by omega) ?_)
    rw [Int.toNat_natCast]
    exact low _

theorem exd_slice {t e : TypeId} {x : Operand} {lo hi : Option Operand} {w n c l r : Nat} {a : Option Addr} (ht : P.underlying t = some (.slice e)) (hs : sizeT P e = some w) (hx : evl tm x = .slice a n c) (bl : Bd tm lo 0 l) (bh : Bd tm hi n r)
    (h1 : l ≤ r) (h2 : r ≤ c) : Exd P tm ⟨d, .slice t x lo hi none, ty, pos, aft, gd⟩ h (.slice (cutA a c l w) (r - l) (c - l)) := by
  refine exd_of (s := Instr.sliceAt t (.slice a n c) (lo.map (evl tm)) (hi.map (evl tm)) none) (by simp only [execOp, hx, Option.map_none]) ?_
  unfold Instr.sliceAt
  refine wpS_bind (wpS_underlying ht ?_)
  simp only
  unfold Instr.slice
  refine wpS_bind (wpS_underlying ht ?_)
  simp only
  refine wpS_bind (wpS_sliceBounds bl bh h1 h2 ?_)
  simp only
  refine wpS_bind (wpS_sizeOf hs ?_)
  exact wpS_pure ⟨rfl, rfl⟩
theorem Sl.part {p : PHeap} {a : Option Addr} {n c w l r : Nat} {es : List (List Value)} (s : Sl p a n w es) (hc : n ≤ c) (h1 : l ≤ r) (h2 : r ≤ n) : Sl p (cutA a c l w) (r - l) w ((es.drop l).take (r - l)) :=
  s.cut h1 h2 fun hlt => by unfold cutA; rw [if_neg (by omega), s.ne (by omega)]; rfl
end

section
variable {P : Program} {md : Md} {f : FuncId} {r : Rd} {df : List Deferred} {k : List Item} {cs : List Frame} {Stop : Goroutine → Heap → Prop} {ops rest : List Oper} {tm : List Value}
  {h₀ : Heap} {B₀ : List Nat} {p : PHeap} {A X C : Pcs} {T : TypeId} {w : Nat} {v : Value} {es : List (List Value)} {n : Nat} {g : Goroutine}
theorem OwnS.room (o : OwnS T w v es X) (hw : 0 < w) {a : Option Addr} {m cap : Nat} (e : v = .slice a m cap) : m ≤ cap := by
  obtain ⟨h1, ⟨rfl, rfl, rfl⟩ | ⟨b, cs, cap', rest, rfl, rfl, hcs, hlen⟩⟩ := o
  · cases e; exact Nat.le_refl _
  · cases e
    have h2 := flatten_length h1
    have h3 : cs.length = es.flatten.length + rest.length := by rw [hcs]; simp
    have : es.length * w ≤ cap * w := by omega
    exact Nat.le_of_mul_le_mul_right this hw
/-- .. and its capacity is known to suffice. -/
theorem rl_lastC (o : OwnS T w v es X) (hn : es.length = n) (hw : 0 < w) (nx : ∀ p' a cap, PLe p p' → v = .slice a n cap → Sl p' a n w es → n ≤ cap → RL P md f r df k cs Stop ops rest tm (fun h => St h₀ B₀ p' h (A ++ C))) :
    RL P md f r df k cs Stop ops rest tm (fun h => St h₀ B₀ p h (A ++ (X ++ C))) :=
  rl_lastN o hn fun p' a cap h1 h2 h3 => nx p' a cap h1 h2 h3 (o.room hw h2)
theorem rs_lastC (o : OwnS T w v es X) (hn : es.length = n) (hw : 0 < w) (nx : ∀ p' a cap, PLe p p' → v = .slice a n cap → Sl p' a n w es → n ≤ cap → RS P md g (fun h => St h₀ B₀ p' h (A ++ C)) Stop) :
    RS P md g (fun h => St h₀ B₀ p h (A ++ (X ++ C))) Stop :=
  rs_lastN o hn fun p' a cap h1 h2 h3 => nx p' a cap h1 h2 h3 (o.room hw h2)
end
end Go.X
namespace Go.X.Cist
open Go.X Go.Proofs.Ytbmkacnlhlbnjaa Go.Conc

section
variable {p : PHeap} {a : Option Addr} {n c l r : Nat} {ds es : List Day} {xs : List Int}
theorem days_yes (hl : ds.length = es.length) (h : ∀ i, i < ds.length → ds.getD i dz = es.getD i dz) : ds = es := ext_getD (d := dz) hl h
theorem eq_step {k : Nat} (h : ∀ i, i < k → ds.getD i dz = es.getD i dz) (e : ds.getD k dz = es.getD k dz) : ∀ i, i < k + 1 → ds.getD i dz = es.getD i dz := fun i hi => by
  by_cases c : i = k
  · subst c; exact e
  · exact h i (by omega)
theorem Days.pre (D : Days p a n ds) (hc : n ≤ c) (h : r ≤ n) : Days p (cutA a c 0 3) r (ds.take r) := by
  have := Sl.part D hc (Nat.zero_le r) h
  unfold Days dcs
  rw [List.map_take]
  simpa [dcs] using this
theorem Days.suf (D : Days p a n ds) (hc : n ≤ c) (h : l ≤ n) : Days p (cutA a c l 3) (n - l) (ds.drop l) := by
  have hl := D.len
  have := Sl.part D hc h (Nat.le_refl n)
  unfold Days dcs
  rw [List.map_drop]
  rw [List.take_of_length_le (by rw [List.length_drop, dcs_length]; omega)] at this
  exact this
theorem Ints.pre (D : Ints p a n xs) (hc : n ≤ c) (h : r ≤ n) : Ints p (cutA a c 0 1) r (xs.take r) := by
  have := Sl.part D hc (Nat.zero_le r) h
  unfold Ints
  rw [List.map_take]
  simpa using this
theorem Ints.suf (D : Ints p a n xs) (hc : n ≤ c) (h : l ≤ n) : Ints p (cutA a c l 1) (n - l) (xs.drop l) := by
  have hl := D.len
  have := Sl.part D hc h (Nat.le_refl n)
  unfold Ints
  rw [List.map_drop]
  rw [List.take_of_length_le (by rw [List.length_drop, List.length_map]; omega)] at this
  exact this
end
end Go.X.Cist
namespace Go.X
open Go.Conc

/-- 'Q' of an operation sees only those in 'anc'. -/
def Qr (anc : Nat → List Nat) (Q : Nat → (Nat → Value) → (Nat → Pcs) → Value → Pcs → Prop) (val : Nat → Value) (piece : Nat → Pcs) (i : Nat) : Value → Pcs → Prop :=
  Q i (fun j => if (anc i).contains j = true then val j else undef) (fun j => if (anc i).contains j = true then piece j else [])
theorem Qr_congr {anc : Nat → List Nat} {Q : Nat → (Nat → Value) → (Nat → Pcs) → Value → Pcs → Prop} {val val' : Nat → Value} {piece piece' : Nat → Pcs} {i : Nat} (h : ∀ y, (anc i).contains y = true → val y = val' y ∧ piece y = piece' y) :
    Qr anc Q val piece i = Qr anc Q val' piece' i := by
  unfold Qr
  have e1 : (fun j => if (anc i).contains j = true then val j else undef) = (fun j => if (anc i).contains j = true then val' j else undef) := by
    funext j; split
    · rename_i hj; exact (h j hj).1
    · rfl
  have e2 : (fun j => if (anc i).contains j = true then piece j else []) = (fun j => if (anc i).contains j = true then piece' j else []) := by
    funext j; split
    · rename_i hj; exact (h j hj).2
    · rfl
  rw [e1, e2]
def ancok (ops : List Oper) (m : Nat) (cl : List (List Nat)) (anc : Nat → List Nat) : Bool :=
  ops.zipIdx.all fun (o, i) => !decide (i < m) || (anc i).all fun j => behind cl o j
theorem ancok_at {ops : List Oper} {m : Nat} {cl : List (List Nat)} {anc : Nat → List Nat} (h : ancok ops m cl anc = true) {i j : Nat} {o : Oper} (hi : i < m) (ho : ops[i]? = some o) (hj : (anc i).contains j = true) : behind cl o j = true := by
  unfold ancok at h
  rw [List.all_eq_true] at h
  have := h (o, i) (by rw [List.mem_zipIdx_iff_getElem?]; exact ho)
  simp only [hi, decide_true, Bool.not_true, Bool.false_or, List.all_eq_true] at this
  exact this j (by simpa using hj)
theorem behind_lt {ops : List Oper} {m : Nat} {cl : List (List Nat)} (hs : stable ops m cl = true) {i j : Nat} {o : Oper} (ho : ops[i]? = some o) (h : behind cl o j = true) : j < i := by
  rcases (behind_iff).1 h with h | ⟨k, hk, h⟩
  · exact (stable_at hs ho).1 j h
  · have h1 := (stable_at hs ho).1 k hk
    obtain ⟨ok, hok⟩ : ∃ ok, ops[k]? = some ok := ⟨_, List.getElem?_eq_getElem (Nat.lt_trans h1 (List.getElem?_eq_some_iff.1 ho).1)⟩
    exact Nat.lt_trans (stable_cl hs hok h).1 h1

/-- What is asked of an operation whose turn it is. -/
def OpMix2 (P : Program) (md : Md) (ops : List Oper) (tmF : (Nat → Value) → List Value) (h₀ : Heap) (B₀ : List Nat) (p : PHeap) (A : Pcs) (ini : List Nat) (X : Nat → Pcs) (use : Nat → List Nat) (anc : Nat → List Nat) (Q : Nat → (Nat → Value) → (Nat → Pcs) → Value → Pcs → Prop) (i : Nat) (o : Oper) : Prop :=
  ∀ val piece, (∀ j, (anc i).contains j = true → Qr anc Q val piece j (val j) (piece j)) → (∀ j ∈ ini, piece j = X j) →
    (Met ops (tmF val) o true ∧ ∀ C h, St h₀ B₀ p h ((use i).flatMap piece ++ (A ++ C)) →
      Exv P (tmF val) o h (fun v h' => ∃ x, Qr anc Q val piece i v x ∧ St h₀ B₀ p h' (x ++ (A ++ C))) ∨
      (∃ g args, (wpS P (execOp (evl (tmF val)) o) h fun n h' => n = .enter g args ∧ h' = h) ∧ CallsX P md g args h (fun v h' => ∃ x, Qr anc Q val piece i v x ∧ St h₀ B₀ p h' (x ++ (A ++ C))))) ∨
    (Met ops (tmF val) o false ∧ (use i).flatMap piece = [] ∧ Qr anc Q val piece i undef [])

section
variable {P : Program} {md : Md} {ops : List Oper} {m : Nat} {f : FuncId} {r : Rd} {df : List Deferred} {k : List Item} {cs : List Frame} {Stop : Goroutine → Heap → Prop} {tm : List Value}
  {h₀ : Heap} {B₀ : List Nat} {p : PHeap} {A C : Pcs} {ini : List Nat} {X : Nat → Pcs} {use : Nat → List Nat} {anc : Nat → List Nat} {Q : Nat → (Nat → Value) → (Nat → Pcs) → Value → Pcs → Prop} {tmF : (Nat → Value) → List Value}

/-- A REGION THAT DRAWS ITS ORDER, the first 'm' of its operations turning pieces of the call's own. -/
theorem fl_mixed2 {rid : Nat} (m : Nat) (cl : List (List Nat)) (ini fin emp : List Nat) (X : Nat → Pcs) (use : Nat → List Nat) (anc : Nat → List Nat) (Q : Nat → (Nat → Value) → (Nat → Pcs) → Value → Pcs → Prop) (tmF : (Nat → Value) → List Value)
    (hmix : P.follows .mixedOrders = true) (hst : stable ops m cl = true) (hm : m ≤ ops.length) (hk : mixok ops m ini use (fin ++ emp) = true) (hemp : emp.all (fun j => decide (j < m)) = true) (hanc : ancok ops m cl anc = true) (hemp2 : ∀ val piece, Emp (Qr anc Q val piece) emp) (htm : ∀ val, fills ops val m tm = tmF val)
    (hdl : (ops.all fun o => match o.dst with | some d => decide (d < tm.length) | none => true) = true)
    (st : Mixes (OpMix2 P md ops tmF h₀ B₀ p A ini X use anc Q) 0 (ops.take m))
    (n : ∀ val piece, (∀ j < m, Qr anc Q val piece j (val j) (piece j)) → (∀ j ∈ ini, piece j = X j) → RL P md f r df k cs Stop ops (ops.drop m) (tmF val) (fun h => St h₀ B₀ p h (fin.flatMap piece ++ (A ++ C)))) :
    RS P md (G (FL f r tm df (.code (.region rid ops.toArray true) :: k)) cs) (fun h => St h₀ B₀ p h (ini.flatMap X ++ (A ++ C))) Stop := by
  refine rs_drawn fun t => ?_
  unfold Region.schedule
  rw [hmix]
  simp only [Bool.true_or, if_true]
  obtain ⟨s, e, hord⟩ := order_all hst hm t
  rw [e]
  obtain ⟨k1, k2, k3, k4, k5, k6⟩ := mixok_at hk
  have hops : ∀ {i : Nat} {o : Oper}, i < m → ops[i]? = some o → noDefer o.op = true ∧ OpMix2 P md ops tmF h₀ B₀ p A ini X use anc Q i o := fun {i o} hi ho => by
    have := Mixes.at (i := i) st (by rw [List.getElem?_take, if_pos hi]; exact ho)
    rw [Nat.zero_add] at this; exact this
  have hdist : ∀ (i j : Nat) (o o' : Oper) (d : Nat), i < m → j < m → ops[i]? = some o → ops[j]? = some o' → o.dst = some d → o'.dst = some d → i = j := fun i j o o' d hi hj ho ho' hd hd' =>
    (((stable_at hst ho).2.2 hi).2 j o' d hj ho' hd').1.resolve_right fun hne => hne hd
  have hdlt : ∀ {i : Nat} {o : Oper} {d : Nat}, ops[i]? = some o → o.dst = some d → d < tm.length := fun {i o d} ho hd => by
    have := List.all_eq_true.1 hdl o (List.mem_of_getElem? ho)
    simpa [hd] using this
  have main : ∀ (s : List Nat) (l : Array Bool) (tmc : List Value) (val : Nat → Value) (piece : Nat → Pcs) (ls : List Nat), Ord ops m l s → l.size = ops.length → tmc.length = tm.length →
      (∀ x, (∃ (j : Nat) (o : Oper), j < m ∧ l.getD j false = true ∧ ops[j]? = some o ∧ o.dst = some x) → tmc[x]? = (tmF val)[x]?) →
      (∀ x, (∀ (j : Nat) (o : Oper), j < m → l.getD j false = true → ops[j]? = some o → o.dst ≠ some x) → tmc[x]? = tm[x]?) →
      (∀ j < m, l.getD j false = true → Qr anc Q val piece j (val j) (piece j)) → (∀ j ∈ ini, piece j = X j) → ls.Nodup →
      (∀ x, x ∈ ls ↔ (x ∈ ini ∨ (x < m ∧ l.getD x false = true)) ∧ ∀ k < m, l.getD k false = true → x ∉ use k) →
      (∀ k < m, l.getD k false = true → ∀ x ∈ use k, x ∈ ini ∨ (x < m ∧ l.getD x false = true)) →
      (∀ (k : Nat) (o : Oper), l.getD k false = true → ops[k]? = some o → ∀ x ∈ preds o, l.getD x false = true) →
      RS P md (G (FL f r tmc df (.inRegion ops.toArray (s ++ List.range' m (ops.length - m)) :: k)) cs) (fun h => St h₀ B₀ p h (ls.flatMap piece ++ (A ++ C))) Stop := by
    intro s
    induction s with
    | nil =>
      intro l tmc val piece ls hord _ hl h1 h2 hQ hX hnd hls _ _
      cases hord with
      | nil hall =>
      have : tmc = tmF val := by
        refine List.ext_getElem? fun x => ?_
        by_cases hx : ∃ (j : Nat) (o : Oper), j < m ∧ ops[j]? = some o ∧ o.dst = some x
        · obtain ⟨j, o, hj, ho, hd⟩ := hx
          exact h1 x ⟨j, o, hj, hall j hj, ho, hd⟩
        · rw [h2 x fun j o hj _ ho hd => hx ⟨j, o, hj, ho, hd⟩, ← htm, fills_out]
          exact fun j o hj ho hd => hx ⟨j, o, hj, ho, hd⟩
      subst this
      rw [List.nil_append]
      have hp : ls.Perm (fin ++ emp) := by
        refine (List.perm_ext_iff_of_nodup hnd k3).2 fun x => ?_
        rw [hls]
        constructor
        · rintro ⟨hx, hu⟩
          rcases k6 x (hx.elim .inr fun y => .inl y.1) with y | ⟨k, hk, y⟩
          · exact y
          · exact absurd y (hu k hk (hall k hk))
        · intro hx
          obtain ⟨y, z⟩ := k5 x hx
          exact ⟨y.imp id fun y => ⟨y, hall x y⟩, fun k hk _ => z k hk⟩
      have := n val piece (fun j hj => hQ j hj (hall j hj)) hX (ops.take m) (List.take_append_drop m ops).symm
      rw [List.length_take, Nat.min_eq_left hm, List.length_drop] at this
      have he : emp.flatMap piece = [] := (hemp2 val piece).flat fun j hj => hQ j (by simpa using List.all_eq_true.1 hemp j hj) (hall j (by simpa using List.all_eq_true.1 hemp j hj))
      exact fun h y => this h (y.perm (by
        have := (hp.flatMap_right piece).append_right (A ++ C)
        rwa [List.flatMap_append, he, List.append_nil] at this))
    | cons i s ih =>
      intro l tmc val piece ls hord hsz hl h1 h2 hQ hX hnd hls hcl hpc
      cases hord with
      | @cons _ _ _ o hi ho hn hp hs =>
      have hil := (List.getElem?_eq_some_iff.1 ho).1
      have hni : l.getD i false = false := by rw [← getD_lt (by omega)]; exact hn
      have hlooks := ((stable_at hst ho).2.2 hi)
      have hag : ∀ x ∈ looks ops o, tmc[x]? = (tmF val)[x]? := by
        intro x hx
        by_cases hw : ∃ (j : Nat) (o' : Oper), j < m ∧ ops[j]? = some o' ∧ o'.dst = some x
        · obtain ⟨j, o', hj, ho', hd⟩ := hw
          have hpj := (hlooks.2 j o' x hj ho' hd).2 hx
          exact h1 x ⟨j, o', hj, hp j hpj, ho', hd⟩
        · rw [h2 x fun j o' hj _ ho' hd => hw ⟨j, o', hj, ho', hd⟩, ← htm, fills_out]
          exact fun j o hj ho hd => hw ⟨j, o, hj, ho, hd⟩
      have hset : ∀ j, i ≠ j → (l.setIfInBounds i true).getD j false = l.getD j false := fun j e => getD_set_ne false e
      have hself : (l.setIfInBounds i true).getD i false = true := by simp [Array.getD, hsz, hil]
      obtain ⟨u1, u2⟩ := k4 i o hi ho
      have husein : ∀ x ∈ use i, x ∈ ls := fun x hx => by
        rw [hls]
        obtain ⟨a, b⟩ := u2 x hx
        refine ⟨a.imp id fun a => ⟨a.1, hp x a.2⟩, fun k hk hd hxk => ?_⟩
        by_cases e : k = i
        · subst e; rw [hni] at hd; cases hd
        · exact b k hk e hxk
      obtain ⟨rest, hperm⟩ := perm_use u1 husein
      have hnd2 := hperm.nodup_iff.1 hnd
      have hrest : ∀ x, x ∈ rest ↔ x ∈ ls ∧ x ∉ use i := fun x => by
        rw [hperm.mem_iff, List.mem_append]
        constructor
        · intro hx
          exact ⟨.inr hx, fun hu => (List.nodup_append.1 hnd2).2.2 x hu x hx rfl⟩
        · rintro ⟨a | a, b⟩
          · exact absurd a b
          · exact a
      have hiini : i ∉ ini := fun e => by have := k2 i e; omega
      have hils : i ∉ ls := fun e => by
        have := ((hls i).1 e).1
        rcases this with a | a
        · exact hiini a
        · rw [hni] at a; cases a.2
      -- what comes of it
      have hanl : ∀ (j : Nat) (oj : Oper), j < m → ops[j]? = some oj → (j = i ∨ l.getD j false = true) → ∀ y, (anc j).contains y = true → l.getD y false = true := fun j oj hj hoj hjl y hy => by
        have hb := ancok_at hanc hj hoj hy
        refine behind_listed hst hsz hpc j oj y (fun x hx => ⟨(stable_at hst hoj).1 x hx, ?_⟩) hb
        rcases hjl with rfl | hjl
        · rw [ho] at hoj; cases hoj; exact hp x hx
        · exact hpc j oj hjl hoj x hx
      have next : ∀ v x, Qr anc Q val piece i v x → RS P md (G (FL f r (putl tmc o.dst v) df (.inRegion ops.toArray (s ++ List.range' m (ops.length - m)) :: k)) cs) (fun h => St h₀ B₀ p h (x ++ (A ++ (rest.flatMap piece ++ C)))) Stop := by
        intro v x hq
        have hv : ∀ j, i ≠ j → (fun j => if j = i then v else val j) j = val j := fun j e => if_neg fun e' => e e'.symm
        have hx' : ∀ j, i ≠ j → (fun j => if j = i then x else piece j) j = piece j := fun j e => if_neg fun e' => e e'.symm
        have := ih (l.setIfInBounds i true) (putl tmc o.dst v) (fun j => if j = i then v else val j) (fun j => if j = i then x else piece j) (i :: rest) hs (by simpa using hsz) (by rw [putl_length]; exact hl)
          (fun y hy => by
            obtain ⟨j, o', hj, hlj, ho', hd⟩ := hy
            rw [← htm, fills_in hj ho' hd (fun j' o'' hj' ho'' hd' => hdist j' j o'' o' y hj' hj ho'' ho' hd' hd) (hdlt ho' hd)]
            by_cases e : i = j
            · subst e
              rw [ho] at ho'; cases ho'
              rw [hd]
              simp only [putl, if_true]
              rw [List.getElem?_set_self (by rw [hl]; exact hdlt ho hd)]
            · have hne : o.dst ≠ some y := fun hd' => e (hdist i j o o' y hi hj ho ho' hd' hd)
              rw [hset j e] at hlj
              rw [putl_ne hne, h1 y ⟨j, o', hj, hlj, ho', hd⟩, ← htm, fills_in hj ho' hd (fun j' o'' hj' ho'' hd' => hdist j' j o'' o' y hj' hj ho'' ho' hd' hd) (hdlt ho' hd)]
              rw [if_neg fun e' => e e'.symm])
          (fun y hy => by
            have hne : o.dst ≠ some y := hy i o hi hself ho
            rw [putl_ne hne]
            refine h2 y fun j o' hj hlj ho' => hy j o' hj ?_ ho'
            by_cases e : i = j
            · subst e; exact hself
            · rw [hset j e]; exact hlj)
          (fun j hj hlj => by
            obtain ⟨oj, hoj⟩ : ∃ oj, ops[j]? = some oj := ⟨_, List.getElem?_eq_getElem (Nat.lt_of_lt_of_le hj hm)⟩
            have hjl : j = i ∨ l.getD j false = true := by
              by_cases e : i = j
              · exact .inl e.symm
              · rw [hset j e] at hlj; exact .inr hlj
            have hne : ∀ y, (anc j).contains y = true → i ≠ y := fun y hy e => by
              have := hanl j oj hj hoj hjl y hy
              subst e; rw [hni] at this; cases this
            have hr := Qr_congr (Q := Q) (anc := anc) (i := j) (val := val) (piece := piece) (val' := fun j => if j = i then v else val j) (piece' := fun j => if j = i then x else piece j) fun y hy => ⟨(hv y (hne y hy)).symm, (hx' y (hne y hy)).symm⟩
            by_cases e : i = j
            · subst e; simp only [if_true]; rw [← hr]; exact hq
            · rw [hset j e] at hlj
              have := hQ j hj hlj; rw [← hr, if_neg (fun e' => e e'.symm), if_neg (fun e' => e e'.symm)]; exact this)
          (fun j hj => (hx' j (fun e => by subst e; exact hiini hj)).trans (hX j hj))
          (List.nodup_cons.2 ⟨fun e => hils ((hrest i).1 e).1, (List.nodup_append.1 hnd2).2.1⟩)
          (fun y => by
            rw [List.mem_cons, hrest, hls]
            constructor
            · rintro (rfl | ⟨⟨a, b⟩, c⟩)
              · refine ⟨.inr ⟨hi, hself⟩, fun k' hk' hd hy => ?_⟩
                by_cases e : y = k'
                · subst e
                  rcases (u2 y hy).1 with a | a
                  · exact hiini a
                  · exact absurd ((stable_at hst ho).1 y a.2) (Nat.lt_irrefl _)
                · rw [hset k' e] at hd
                  rcases hcl k' hk' hd y hy with a | a
                  · exact hiini a
                  · rw [hni] at a; cases a.2
              · refine ⟨a.imp id fun a => ⟨a.1, ?_⟩, fun k' hk' hd => ?_⟩
                · by_cases e : i = y
                  · subst e; exact hself
                  · rw [hset y e]; exact a.2
                · by_cases e : i = k'
                  · subst e; exact c
                  · rw [hset k' e] at hd; exact b k' hk' hd
            · rintro ⟨a, b⟩
              by_cases e : y = i
              · exact .inl e
              · refine .inr ⟨⟨a.imp id fun a => ⟨a.1, ?_⟩, fun k' hk' hd => b k' hk' ?_⟩, b i hi hself⟩
                · have := a.2; rw [hset y (fun e' => e e'.symm)] at this; exact this
                · by_cases e' : i = k'
                  · subst e'; exact hself
                  · rw [hset k' e']; exact hd)
          (fun k' hk' hd y hy => by
            by_cases e : i = k'
            · subst e
              obtain ⟨a, _⟩ := u2 y hy
              refine a.imp id fun a => ⟨a.1, ?_⟩
              by_cases e' : i = y
              · subst e'; exact hself
              · rw [hset y e']; exact hp y a.2
            · rw [hset k' e] at hd
              refine (hcl k' hk' hd y hy).imp id fun a => ⟨a.1, ?_⟩
              by_cases e' : i = y
              · subst e'; exact hself
              · rw [hset y e']; exact a.2)
          (fun k' o' hd ho' y hy => by
            have hy2 : l.getD y false = true := by
              by_cases e : i = k'
              · subst e; rw [ho] at ho'; cases ho'; exact hp y hy
              · rw [hset k' e] at hd; exact hpc k' o' hd ho' y hy
            by_cases e' : i = y
            · subst e'; exact hself
            · rw [hset y e']; exact hy2)
        have hfm : rest.flatMap (fun j => if j = i then x else piece j) = rest.flatMap piece := by
          have hni' : i ∉ rest := fun e => hils ((hrest i).1 e).1
          clear this hperm hnd2 hrest
          induction rest with
          | nil => rfl
          | cons a r ih' =>
            simp only [List.flatMap_cons]
            rw [ih' (fun e => hni' (by simp [e])), if_neg (fun e => hni' (by simp [e]))]
        intro h y
        refine this h ?_
        rw [List.flatMap_cons, hfm]
        simp only [if_true]
        refine y.perm ?_
        rw [List.append_assoc]
        refine List.Perm.append_left x ?_
        rw [← List.append_assoc, ← List.append_assoc]
        exact List.Perm.append_right C List.perm_append_comm
      have hmixi := hops hi ho
      have ho2 : ops.toArray[i]? = some o := by simpa using ho
      have hpre : ∀ h, St h₀ B₀ p h (ls.flatMap piece ++ (A ++ C)) → St h₀ B₀ p h ((use i).flatMap piece ++ (A ++ (rest.flatMap piece ++ C))) := fun h y => by
        refine y.perm ?_
        refine ((hperm.flatMap_right piece).append_right _).trans ?_
        rw [List.flatMap_append, List.append_assoc]
        refine List.Perm.append_left _ ?_
        rw [← List.append_assoc, ← List.append_assoc]
        exact List.Perm.append_right C List.perm_append_comm
      have hnd := hmixi.1
      rcases hmixi.2 val piece (fun j hj => by
          have hlj := hanl i o hi ho (.inl rfl) j hj
          exact hQ j (Nat.lt_trans (behind_lt hst ho (ancok_at hanc hi ho hj)) hi) hlj) hX with ⟨hmet, hop⟩ | ⟨hmet, hu, hq⟩
      · have hmet' := met_eq hag hmet
        refine rs_op ho2 (wanted_of_met hmet') B_kind (.inr (by revert hnd; cases o.op <;> simp [noDefer])) fun h hb => ?_
        rw [ev_toArray, exec_eq (ops := ops) hlooks.1 hag]
        rcases hop _ h (hpre h hb) with hx | ⟨g, args, hx, hc⟩
        · refine wpS_mono hx fun n' h' ⟨v', e', x, hq, hb'⟩ => ?_
          rcases e' with rfl | ⟨rfl, rfl⟩
          · show Reach P md (G ((F (B f r) tmc.toArray df _).finish v') cs) h' Stop
            rw [finish_region ho2, put_toArray]
            exact next v' x hq h' hb'
          · show Reach P md (G ((F (B f r) tmc.toArray df _).finish undef) cs) h' Stop
            rw [finish_region ho2, put_toArray]
            exact next undef x hq h' hb'
        · refine wpS_mono hx fun n' h' ⟨e', e2⟩ => ?_
          subst e'; subst e2
          refine hc _ _ _ fun v' h' ⟨x, hq, hb'⟩ => ?_
          rw [finish_region ho2, put_toArray]
          exact next v' x hq h' hb'
      · refine rs_pass ho2 (wanted_of_met (met_eq hag hmet)) ?_
        rw [put_toArray]
        intro h hb
        have := next undef [] hq h
        refine this ?_
        have := hpre h hb
        rw [hu] at this
        simpa using this
  intro h y
  refine main s _ tm (fun _ => undef) X ini hord (by simp) rfl (fun x hx => by obtain ⟨j, o, hj, hl, _⟩ := hx; simp [Array.getD] at hl) (fun _ _ => rfl) (fun j _ hl => by simp [Array.getD] at hl) (fun _ _ => rfl) k1
    (fun x => ⟨fun hx => ⟨.inl hx, fun k _ hl => by simp [Array.getD] at hl⟩, fun hx => hx.1.elim id fun a => by simp [Array.getD] at a⟩) (fun k _ hl => by simp [Array.getD] at hl) (fun k _ hl => by simp [Array.getD] at hl) h y

theorem opmix2 {i : Nat} {o : Oper} (x : ∀ val piece, (∀ j, (anc i).contains j = true → Qr anc Q val piece j (val j) (piece j)) → (∀ j ∈ ini, piece j = X j) →
    ∃ tm' U q, tmF val = tm' ∧ (use i).flatMap piece = U ∧ (∀ v x, q v x → Qr anc Q val piece i v x) ∧ Mix P md ops tm' h₀ B₀ p A U q o) : OpMix2 P md ops tmF h₀ B₀ p A ini X use anc Q i o := fun val piece hQ hX => by
  obtain ⟨tm', U, q, e1, e2, e3, h⟩ := x val piece hQ hX
  rw [e1, e2]
  rcases h with ⟨h1, h2⟩ | ⟨h1, h2, h3⟩
  · refine .inl ⟨h1, fun C h s => ?_⟩
    rcases h2 C h s with y | ⟨g, args, y, z⟩
    · exact .inl (wpS_mono y fun n h' ⟨v, a, x, b, c⟩ => ⟨v, a, x, e3 v x b, c⟩)
    · exact .inr ⟨g, args, y, z.mono fun v h' ⟨x, b, c⟩ => ⟨x, e3 v x b, c⟩⟩
  · exact .inr ⟨h1, h2, e3 _ _ h3⟩
/-- A new block. -/
theorem mix_alloc {dd : Nat} {T : TypeId} {z : Value} {cells : Array Value} {ty : TypeId} {pos : String} {aft : Array Edge} {gd : Option (Nat × Bool)} {tm' : List Value} {q : Value → Pcs → Prop} (hm : Met ops tm' ⟨some dd, .alloc T, ty, pos, aft, gd⟩ true) (hz : zeroT P T = some z) (hc : z.cells = cells)
    (hq : ∀ b, q (.pointer (some ⟨b, 0, none⟩)) [(b, .cells cells T (0, 0))]) : Mix P md ops tm' h₀ B₀ p A [] q ⟨some dd, .alloc T, ty, pos, aft, gd⟩ :=
  mix_ex hm fun C h s => by
    unfold Ex
    simp only [execOp]
    refine wpS_bind ?_
    unfold Instr.alloc
    refine wpS_bind (wpS_zeroValue hz ?_)
    simp only
    unfold newVar
    rw [hc]
    refine wpS_bind (wpS_newRow ?_)
    refine wpS_pure ?_
    exact wpS_pure ⟨_, rfl, _, hq _, s.push _⟩
end
theorem sk1 {α β γ1 : Type} [Nonempty γ1] (R : α → β → γ1 → Prop) : ∃ (G1 : α → β → γ1), ∀ a b, (∃ c1, R a b c1) → R a b (G1 a b) := by
  have key : ∀ ab : α × β, ∃ y : γ1, (∃ c1, R ab.1 ab.2 c1) → R ab.1 ab.2 (y) := fun ab => by
    by_cases h : ∃ c1, R ab.1 ab.2 c1
    · obtain ⟨c1, h⟩ := h
      exact ⟨c1, fun _ => h⟩
    · exact ⟨Classical.choice inferInstance, fun x => absurd x h⟩
  obtain ⟨G, hG⟩ := Classical.axiomOfChoice key
  exact ⟨fun a b => (G (a, b)), fun a b h => hG (a, b) h⟩
theorem sk6 {α β γ1 γ2 γ3 γ4 γ5 γ6 : Type} [Nonempty γ1] [Nonempty γ2] [Nonempty γ3] [Nonempty γ4] [Nonempty γ5] [Nonempty γ6] (R : α → β → γ1 → γ2 → γ3 → γ4 → γ5 → γ6 → Prop) : ∃ (G1 : α → β → γ1) (G2 : α → β → γ2) (G3 : α → β → γ3) (G4 : α → β → γ4) (G5 : α → β → γ5) (G6 : α → β → γ6), ∀ a b, (∃ c1 c2 c3 c4 c5 c6, R a b c1 c2 c3 c4 c5 c6) → R a b (G1 a b) (G2 a b) (G3 a b) (G4 a b) (G5 a b) (G6 a b) := by
  have key : ∀ ab : α × β, ∃ y : γ1 × γ2 × γ3 × γ4 × γ5 × γ6, (∃ c1 c2 c3 c4 c5 c6, R ab.1 ab.2 c1 c2 c3 c4 c5 c6) → R ab.1 ab.2 (y.1) (y.2.1) (y.2.2.1) (y.2.2.2.1) (y.2.2.2.2.1) (y.2.2.2.2.2) := fun ab => by
    by_cases h : ∃ c1 c2 c3 c4 c5 c6, R ab.1 ab.2 c1 c2 c3 c4 c5 c6
    · obtain ⟨c1, c2, c3, c4, c5, c6, h⟩ := h
      exact ⟨(c1, c2, c3, c4, c5, c6), fun _ => h⟩
    · exact ⟨(Classical.choice inferInstance, Classical.choice inferInstance, Classical.choice inferInstance, Classical.choice inferInstance, Classical.choice inferInstance, Classical.choice inferInstance), fun x => absurd x h⟩
  obtain ⟨G, hG⟩ := Classical.axiomOfChoice key
  exact ⟨fun a b => (G (a, b)).1, fun a b => (G (a, b)).2.1, fun a b => (G (a, b)).2.2.1, fun a b => (G (a, b)).2.2.2.1, fun a b => (G (a, b)).2.2.2.2.1, fun a b => (G (a, b)).2.2.2.2.2, fun a b h => hG (a, b) h⟩
end Go.X
namespace Go.Proofs.Ytbmkacnlhlbnjaa
open Go.X Go.X.Cist Go.Conc
set_option maxRecDepth 10000

end Go.Proofs.Ytbmkacnlhlbnjaa
namespace Go.Proofs.Ytbmkacnlhlbnjaa
open Go.X Go.X.Cist Go.Conc
set_option maxRecDepth 10000

theorem c37 (md : Md) (h : Heap) (p : PHeap) (hp : Per p h) (size start : Int) (a : Option Addr) (n c : Nat) (ds : List Day) (D : Days p a n ds) (size2 start2 : Int) (a2 : Option Addr) (n2 c2 : Nat) (es : List Day) (E : Days p a2 n2 es) (hn : n ≤ 40) : CallsX Try.prog md 37 #[.agg #[.int .i64 (size), .int .i64 (start), .slice a n c], .agg #[.int .i64 (size2), .int .i64 (start2), .slice a2 n2 c2]] h fun v h' => v = .bool (decide (size = size2 ∧ start = start2 ∧ ds = es)) ∧ Keep h h' := by
  refine calls_intro (Φ := fun h_ => St h [] p h_ []) Try.func37 rfl (tm := [_, _, _, _, _, _, _, _, _, _, _, _, _, _, _, _, _, _, _, _, _, _, _, _, _, _, _, _, _, _, _, _, _, _, _, _, _, _, _, _, _, _, _, _, _]) rfl ?_ (St.start h _ hp)
  intro c₀ cs Stop K
  have hl := D.len
  have hl2 := E.len
  refine fl_seq ?_
  refine rl_start ?_
  refine rl_box (met_none rfl) (v := .agg #[.int .i64 (size), .int .i64 (start), .slice a n c]) rfl fun b1 => rl_own (L' := [(b1, .cells #[.int .i64 (size), .int .i64 (start), .slice a n c] 24 (0, 0))]) rfl ?_
  refine rl_box (met_none rfl) (v := .agg #[.int .i64 (size2), .int .i64 (start2), .slice a2 n2 c2]) rfl fun b2 => rl_own (L' := [(b2, .cells #[.int .i64 (size2), .int .i64 (start2), .slice a2 n2 c2] 24 (0, 0)), (b1, .cells #[.int .i64 (size), .int .i64 (start), .slice a n c] 24 (0, 0))]) rfl ?_
  refine rl_det (met_none rfl) (fun h_ H_ => exd_assign (v := .bool (false)) rfl) (tm' := _::_::_::_::_::_) rfl ?_
  refine rl_end ?_
  refine fl_seq ?_
  refine fl_seq ?_
  refine rl_start ?_
  refine rl_det (met_none rfl) (fun h_ H_ => exd_fieldAddr tF24_0 rfl (a' := ⟨b1, 0, none⟩) rfl) rfl ?_
  refine rl_det (met_none rfl) (fun h_ H_ => exd_load_own H_ tA3 rfl (i := 1) rfl (v := .int .i64 (size)) rfl) rfl ?_
  refine rl_det (met_none rfl) (fun h_ H_ => exd_fieldAddr tF24_0 rfl (a' := ⟨b2, 0, none⟩) rfl) (tm' := _::_::_::_::_::_::_::_::_::_) rfl ?_
  refine rl_det (met_none rfl) (fun h_ H_ => exd_load_own H_ tA3 rfl (i := 0) rfl (v := .int .i64 (size2)) rfl) rfl ?_
  refine rl_det (met_none rfl) (fun h_ H_ => exd_neq rfl rfl) rfl ?_
  refine rl_det (met_none rfl) (fun h_ H_ => exd_move (v := .bool (decide (size ≠ size2))) rfl) (tm' := _::_::_::_::_::_::_::_::_::_::_::_::_) rfl ?_
  by_cases cc3 : size ≠ size2
  · refine rl_pass (met_not rfl rfl (decide_eq_true cc3)) rfl ?_
    refine rl_pass (met_not rfl rfl (decide_eq_true cc3)) rfl ?_
    refine rl_pass (met_not rfl rfl (decide_eq_true cc3)) (tm' := _::_::_::_::_::_::_::_::_::_::_::_::_::_::_::_) rfl ?_
    refine rl_pass (met_not rfl rfl (decide_eq_true cc3)) rfl ?_
    refine rl_pass (met_not rfl rfl (decide_eq_true cc3)) rfl ?_
    refine rl_det (met_none rfl) (fun h_ H_ => exd_pick_t rfl (decide_eq_true cc3) (v := .bool (true)) rfl) (tm' := _::_::_::_::_::_::_::_::_::_::_::_::_::_::_::_::_::_::_) rfl ?_
    refine rl_det (met_none rfl) (fun h_ H_ => exd_move (v := .bool (true)) rfl) rfl ?_
    refine rl_pass (met_not rfl rfl rfl) rfl ?_
    refine rl_pass (met_not rfl rfl rfl) (tm' := _::_::_::_::_::_::_::_::_::_::_::_::_::_::_::_::_::_::_::_::_::_) rfl ?_
    refine rl_pass (met_not rfl rfl rfl) rfl ?_
    refine rl_pass (met_not rfl rfl rfl) rfl ?_
    refine rl_pass (met_not rfl rfl rfl) (tm' := _::_::_::_::_::_::_::_::_::_::_::_::_::_::_::_::_::_::_::_::_::_::_::_::_) rfl ?_
    refine rl_pass (met_not rfl rfl rfl) rfl ?_
    refine rl_pass (met_not rfl rfl rfl) rfl ?_
    refine rl_det (met_none rfl) (fun h_ H_ => exd_pick_t rfl rfl (v := .bool (true)) rfl) (tm' := _::_::_::_::_::_::_::_::_::_::_::_::_::_::_::_::_::_::_::_::_::_::_::_::_::_::_::_) rfl ?_
    refine rl_end ?_
    refine fl_then rfl rfl ?_
    refine fl_seq ?_
    refine rl_start ?_
    refine rl_det (met_none rfl) (fun h_ H_ => exd_assign (v := .bool (false)) rfl) rfl ?_
    refine rl_end ?_
    refine fl_ret Try.func37 rfl (vs := [.bool (false)]) (fun h_ H_ => ⟨.bool (false), _, rfl, rfl, rfl⟩) (v := .bool (false)) rfl ?_
    exact fun h_ H_ => K _ _ ⟨by first | (rw [decide_eq_false]; rintro ⟨e1, e2, e3⟩; first | (exact ‹¬ _› e1) | (exact ‹¬ _› e2) | omega | (subst e3; omega) | (subst e3; simp at *) | (exact ‹¬ _› (by rw [e3]))) | (rw [decide_eq_true]; exact ⟨by omega, by omega, days_yes (by omega) fun i hi => hs i (by omega)⟩), H_.kept⟩
  · refine rl_det (met_some rfl rfl (decide_eq_false cc3)) (fun h_ H_ => exd_fieldAddr tF24_1 rfl (a' := ⟨b1, 1, none⟩) rfl) rfl ?_
    refine rl_det (met_some rfl rfl (decide_eq_false cc3)) (fun h_ H_ => exd_load_own H_ tA3 rfl (i := 1) rfl (v := .int .i64 (start)) rfl) (tm' := _::_::_::_::_::_::_::_::_::_::_::_::_::_::_) rfl ?_
    refine rl_det (met_some rfl rfl (decide_eq_false cc3)) (fun h_ H_ => exd_fieldAddr tF24_1 rfl (a' := ⟨b2, 1, none⟩) rfl) rfl ?_
    refine rl_det (met_some rfl rfl (decide_eq_false cc3)) (fun h_ H_ => exd_load_own H_ tA3 rfl (i := 0) rfl (v := .int .i64 (start2)) rfl) rfl ?_
    refine rl_det (met_some rfl rfl (decide_eq_false cc3)) (fun h_ H_ => exd_neq rfl rfl) (tm' := _::_::_::_::_::_::_::_::_::_::_::_::_::_::_::_::_::_) rfl ?_
    refine rl_det (met_none rfl) (fun h_ H_ => exd_pick_f rfl (decide_eq_false cc3) (v := .bool (decide (start ≠ start2))) rfl) rfl ?_
    refine rl_det (met_none rfl) (fun h_ H_ => exd_move (v := .bool (decide (start ≠ start2))) rfl) rfl ?_
    by_cases cc4 : start ≠ start2
    · refine rl_pass (met_not rfl rfl (decide_eq_true cc4)) (tm' := _::_::_::_::_::_::_::_::_::_::_::_::_::_::_::_::_::_::_::_::_) rfl ?_
      refine rl_pass (met_not rfl rfl (decide_eq_true cc4)) rfl ?_
      refine rl_pass (met_not rfl rfl (decide_eq_true cc4)) rfl ?_
      refine rl_pass (met_not rfl rfl (decide_eq_true cc4)) (tm' := _::_::_::_::_::_::_::_::_::_::_::_::_::_::_::_::_::_::_::_::_::_::_::_) rfl ?_
      refine rl_pass (met_not rfl rfl (decide_eq_true cc4)) rfl ?_
      refine rl_pass (met_not rfl rfl (decide_eq_true cc4)) rfl ?_
      refine rl_pass (met_not rfl rfl (decide_eq_true cc4)) (tm' := _::_::_::_::_::_::_::_::_::_::_::_::_::_::_::_::_::_::_::_::_::_::_::_::_::_::_) rfl ?_
      refine rl_det (met_none rfl) (fun h_ H_ => exd_pick_t rfl (decide_eq_true cc4) (v := .bool (true)) rfl) rfl ?_
      refine rl_end ?_
      refine fl_then rfl rfl ?_
      refine fl_seq ?_
      refine rl_start ?_
      refine rl_det (met_none rfl) (fun h_ H_ => exd_assign (v := .bool (false)) rfl) rfl ?_
      refine rl_end ?_
      refine fl_ret Try.func37 rfl (vs := [.bool (false)]) (fun h_ H_ => ⟨.bool (false), _, rfl, rfl, rfl⟩) (v := .bool (false)) rfl ?_
      exact fun h_ H_ => K _ _ ⟨by first | (rw [decide_eq_false]; rintro ⟨e1, e2, e3⟩; first | (exact ‹¬ _› e1) | (exact ‹¬ _› e2) | omega | (subst e3; omega) | (subst e3; simp at *) | (exact ‹¬ _› (by rw [e3]))) | (rw [decide_eq_true]; exact ⟨by omega, by omega, days_yes (by omega) fun i hi => hs i (by omega)⟩), H_.kept⟩
    · refine rl_det (met_some rfl rfl (decide_eq_false cc4)) (fun h_ H_ => exd_fieldAddr tF24_2 rfl (a' := ⟨b1, 2, none⟩) rfl) (tm' := _::_::_::_::_::_::_::_::_::_::_::_::_::_::_::_::_::_::_::_::_) rfl ?_
      refine rl_det (met_some rfl rfl (decide_eq_false cc4)) (fun h_ H_ => exd_load_own H_ tA22 rfl (i := 1) rfl (v := .slice a n c) rfl) rfl ?_
      refine rl_det (met_some rfl rfl (decide_eq_false cc4)) (fun h_ H_ => exd_len Try.underlying22 rfl) rfl ?_
      refine rl_det (met_some rfl rfl (decide_eq_false cc4)) (fun h_ H_ => exd_fieldAddr tF24_2 rfl (a' := ⟨b2, 2, none⟩) rfl) (tm' := _::_::_::_::_::_::_::_::_::_::_::_::_::_::_::_::_::_::_::_::_::_::_::_) rfl ?_
      refine rl_det (met_some rfl rfl (decide_eq_false cc4)) (fun h_ H_ => exd_load_own H_ tA22 rfl (i := 0) rfl (v := .slice a2 n2 c2) rfl) rfl ?_
      refine rl_det (met_some rfl rfl (decide_eq_false cc4)) (fun h_ H_ => exd_len Try.underlying22 rfl) rfl ?_
      refine rl_det (met_some rfl rfl (decide_eq_false cc4)) (fun h_ H_ => exd_neq rfl rfl) (tm' := _::_::_::_::_::_::_::_::_::_::_::_::_::_::_::_::_::_::_::_::_::_::_::_::_::_::_) rfl ?_
      refine rl_det (met_none rfl) (fun h_ H_ => exd_pick_f rfl (decide_eq_false cc4) (v := .bool (decide (((n : Nat) : Int) ≠ ((n2 : Nat) : Int)))) rfl) rfl ?_
      refine rl_end ?_
      by_cases cc5 : ((n : Nat) : Int) ≠ ((n2 : Nat) : Int)
      · refine fl_then rfl (decide_eq_true cc5) ?_
        refine fl_seq ?_
        refine rl_start ?_
        refine rl_det (met_none rfl) (fun h_ H_ => exd_assign (v := .bool (false)) rfl) rfl ?_
        refine rl_end ?_
        refine fl_ret Try.func37 rfl (vs := [.bool (false)]) (fun h_ H_ => ⟨.bool (false), _, rfl, rfl, rfl⟩) (v := .bool (false)) rfl ?_
        exact fun h_ H_ => K _ _ ⟨by first | (rw [decide_eq_false]; rintro ⟨e1, e2, e3⟩; first | (exact ‹¬ _› e1) | (exact ‹¬ _› e2) | omega | (subst e3; omega) | (subst e3; simp at *) | (exact ‹¬ _› (by rw [e3]))) | (rw [decide_eq_true]; exact ⟨by omega, by omega, days_yes (by omega) fun i hi => hs i (by omega)⟩), H_.kept⟩
      · refine fl_else rfl (decide_eq_false cc5) ?_
        refine fl_skip ?_
        refine fl_seq ?_
        refine fl_seq ?_
        refine rl_start ?_
        refine rl_det (met_none rfl) (fun h_ H_ => exd_assign (v := .int .i64 0) rfl) (tm' := _::_::_::_::_::_::_) rfl ?_
        refine rl_end ?_
        refine fl_block ?_
        refine fl_loop (m₀ := n - 0) (fun m_ tm_ h_ => ∃ (k : Nat), m_ = n - k ∧ (∃ y6 : Nat → Value, tm_ = [.agg #[.int .i64 (size), .int .i64 (start), .slice a n c], .agg #[.int .i64 (size2), .int .i64 (start2), .slice a2 n2 c2], .pointer (some ⟨b1, 0, none⟩), .pointer (some ⟨b2, 0, none⟩), (y6 4), .int .i64 (((k : Nat) : Int)), .pointer (some ⟨b1, 0, none⟩), .int .i64 (size), .pointer (some ⟨b2, 0, none⟩), .int .i64 (size2), .bool (decide (size ≠ size2)), .bool (decide (size ≠ size2)), .pointer (some ⟨b1, 1, none⟩), .int .i64 (start), .pointer (some ⟨b2, 1, none⟩), .int .i64 (start2), .bool (decide (start ≠ start2)), .bool (decide (start ≠ start2)), .bool (decide (start ≠ start2)), .pointer (some ⟨b1, 2, none⟩), .slice a n c, .int .i64 (((n : Nat) : Int)), .pointer (some ⟨b2, 2, none⟩), .slice a2 n2 c2, .int .i64 (((n2 : Nat) : Int)), .bool (decide (((n : Nat) : Int) ≠ ((n2 : Nat) : Int))), .bool (decide (((n : Nat) : Int) ≠ ((n2 : Nat) : Int))), (y6 27), (y6 28), (y6 29), (y6 30), (y6 31), (y6 32), (y6 33), (y6 34), (y6 35), (y6 36), (y6 37), (y6 38), (y6 39), (y6 40), (y6 41), (y6 42), (y6 43), (y6 44)]) ∧ (k ≤ n) ∧ (∀ i, i < k → ds.getD i dz = es.getD i dz) ∧ St h [] p h_ ([(b2, .cells #[.int .i64 (size2), .int .i64 (start2), .slice a2 n2 c2] 24 (0, 0)), (b1, .cells #[.int .i64 (size), .int .i64 (start), .slice a n c] 24 (0, 0))])) (fun h_ H_ => ⟨0, rfl, (y_of rfl), Nat.zero_le _, (fun i hi => absurd hi (Nat.not_lt_zero i)), H_⟩) ?_
        intro m_ tm_ IH7
        refine rs_ex fun k => rs_and fun hm_ => rs_and fun ht_ => rs_and fun hk => rs_and fun hs => ?_
        subst hm_; obtain ⟨y6, ht_⟩ := ht_; subst ht_
        refine fl_seq ?_
        refine fl_seq ?_
        refine rl_start ?_
        refine rl_det (met_none rfl) (fun h_ H_ => exd_move (v := .int .i64 (((k : Nat) : Int))) rfl) rfl ?_
        refine rl_det (met_none rfl) (fun h_ H_ => exd_fieldAddr tF24_2 rfl (a' := ⟨b1, 2, none⟩) rfl) rfl ?_
        refine rl_det (met_none rfl) (fun h_ H_ => exd_load_own H_ tA22 rfl (i := 1) rfl (v := .slice a n c) rfl) (tm' := _::_::_::_::_::_::_::_::_::_::_::_::_::_::_::_::_::_::_::_::_::_::_::_::_::_::_::_::_::_::_) rfl ?_
        refine rl_det (met_none rfl) (fun h_ H_ => exd_len Try.underlying22 rfl) rfl ?_
        refine rl_det (met_none rfl) (fun h_ H_ => exd_lss rfl rfl) rfl ?_
        refine rl_end ?_
        by_cases cc8 : ((k : Nat) : Int) < ((n : Nat) : Int)
        · refine fl_then rfl (decide_eq_true cc8) ?_
          refine fl_skip ?_
          refine fl_seq ?_
          refine fl_block ?_
          refine fl_seq ?_
          refine fl_drawn2 10 [[], [0], [], [0, 1, 2], [0, 1, 2, 3], [], [5], [], [5, 6, 7], [5, 6, 7, 8], []] mixed (by kernel_rfl) (Nat.le_of_ble_eq_true rfl) ?_
          refine swr_det (met_none rfl) (fun h_ H_ => exd_fieldAddr tF24_2 rfl (a' := ⟨b1, 2, none⟩) rfl) rfl ?_
          refine swr_det (met_none rfl) (fun h_ H_ => exd_load_own H_ tA22 rfl (i := 1) rfl (v := .slice a n c) rfl) (tm' := [_,_,_,_,_,_,_,_,_,_,_,_,_,_,_,_,_,_,_,_,_,_,_,_,_,_,_,_,_,_,_,_,_,_,_,_,_,_,_,_,_,_,_,_,_]) rfl ?_
          refine swr_det (met_none rfl) (fun h_ H_ => exd_move (v := .int .i64 (((k : Nat) : Int))) rfl) rfl ?_
          refine swr_det (met_none rfl) (fun h_ H_ => exd_indexAddrN (i := k) Try.underlying22 tS38 (sl_ne a n c (D.ne (by omega))) rfl (by omega)) (tm' := [_,_,_,_,_,_,_,_,_,_,_,_,_,_,_,_,_,_,_,_,_,_,_,_,_,_,_,_,_,_,_,_,_,_,_,_,_,_,_,_,_,_,_,_,_]) rfl ?_
          refine swr_det (met_none rfl) (fun h_ H_ => exd_loadN_per H_ tA38 tS38 rfl (vs := [.int .i64 ((ds.getD k dz).lo), .int .i64 ((ds.getD k dz).hi), .int .i64 ((ds.getD k dz).want)]) rfl (D.all (by omega))) rfl ?_
          refine swr_det (met_none rfl) (fun h_ H_ => exd_fieldAddr tF24_2 rfl (a' := ⟨b2, 2, none⟩) rfl) (tm' := [_,_,_,_,_,_,_,_,_,_,_,_,_,_,_,_,_,_,_,_,_,_,_,_,_,_,_,_,_,_,_,_,_,_,_,_,_,_,_,_,_,_,_,_,_]) rfl ?_
          refine swr_det (met_none rfl) (fun h_ H_ => exd_load_own H_ tA22 rfl (i := 0) rfl (v := .slice a2 n2 c2) rfl) rfl ?_
          refine swr_det (met_none rfl) (fun h_ H_ => exd_move (v := .int .i64 (((k : Nat) : Int))) rfl) (tm' := [_,_,_,_,_,_,_,_,_,_,_,_,_,_,_,_,_,_,_,_,_,_,_,_,_,_,_,_,_,_,_,_,_,_,_,_,_,_,_,_,_,_,_,_,_]) rfl ?_
          refine swr_det (met_none rfl) (fun h_ H_ => exd_indexAddrN (i := k) Try.underlying22 tS38 (sl_ne a2 n2 c2 (E.ne (by omega))) rfl (by omega)) rfl ?_
          refine swr_det (met_none rfl) (fun h_ H_ => exd_loadN_per H_ tA38 tS38 rfl (vs := [.int .i64 ((es.getD k dz).lo), .int .i64 ((es.getD k dz).hi), .int .i64 ((es.getD k dz).want)]) rfl (E.all (by omega))) (tm' := [_,_,_,_,_,_,_,_,_,_,_,_,_,_,_,_,_,_,_,_,_,_,_,_,_,_,_,_,_,_,_,_,_,_,_,_,_,_,_,_,_,_,_,_,_]) rfl ?_
          refine swr_nil rfl ?_
          refine rl_det (met_none rfl) (fun h_ H_ => exd_neqAgg gT38 (dayEq 9997 (ds.getD k dz) (es.getD k dz)) rfl rfl) rfl ?_
          refine rl_end ?_
          by_cases cc9 : (ds.getD k dz) = (es.getD k dz)
          · refine fl_else rfl (not_f (decide_eq_true cc9)) ?_
            refine fl_skip ?_
            refine fl_inBlock ?_
            refine rl_start ?_
            refine rl_det (met_none rfl) (fun h_ H_ => exd_move (v := .int .i64 (((k : Nat) : Int))) rfl) rfl ?_
            refine rl_det (met_none rfl) (fun h_ H_ => exd_add rfl rfl (n := ((k + 1 : Nat) : Int)) (wr (by omega))) (tm' := [_,_,_,_,_,_,_,_,_,_,_,_,_,_,_,_,_,_,_,_,_,_,_,_,_,_,_,_,_,_,_,_,_,_,_,_,_,_,_,_,_,_,_,_,_]) rfl ?_
            refine rl_det (met_none rfl) (fun h_ H_ => exd_assign (v := .int .i64 (((k + 1 : Nat) : Int))) rfl) rfl ?_
            refine rl_end ?_
            exact fun h_ H_ => IH7 _ _ (by omega) h_ ⟨k + 1, rfl, (y_of rfl), (by omega), (eq_step hs (by first | exact Decidable.not_not.1 ‹_› | assumption)), H_⟩
          · refine fl_then rfl (not_t (decide_eq_false cc9)) ?_
            refine fl_seq ?_
            refine rl_start ?_
            refine rl_det (met_none rfl) (fun h_ H_ => exd_assign (v := .bool (false)) rfl) rfl ?_
            refine rl_end ?_
            refine fl_ret Try.func37 rfl (vs := [.bool (false)]) (fun h_ H_ => ⟨.bool (false), _, rfl, rfl, rfl⟩) (v := .bool (false)) rfl ?_
            exact fun h_ H_ => K _ _ ⟨by first | (rw [decide_eq_false]; rintro ⟨e1, e2, e3⟩; first | (exact ‹¬ _› e1) | (exact ‹¬ _› e2) | omega | (subst e3; omega) | (subst e3; simp at *) | (exact ‹¬ _› (by rw [e3]))) | (rw [decide_eq_true]; exact ⟨by omega, by omega, days_yes (by omega) fun i hi => hs i (by omega)⟩), H_.kept⟩
        · refine fl_else rfl (decide_eq_false cc8) ?_
          refine fl_exit rfl ?_
          refine fl_seq ?_
          refine rl_start ?_
          refine rl_det (met_none rfl) (fun h_ H_ => exd_assign (v := .bool (true)) rfl) (tm' := _::_::_::_::_::_) rfl ?_
          refine rl_end ?_
          refine fl_ret Try.func37 rfl (vs := [.bool (true)]) (fun h_ H_ => ⟨.bool (true), _, rfl, rfl, rfl⟩) (v := .bool (true)) rfl ?_
          exact fun h_ H_ => K _ _ ⟨by first | (rw [decide_eq_false]; rintro ⟨e1, e2, e3⟩; first | (exact ‹¬ _› e1) | (exact ‹¬ _› e2) | omega | (subst e3; omega) | (subst e3; simp at *) | (exact ‹¬ _› (by rw [e3]))) | (rw [decide_eq_true]; exact ⟨by omega, by omega, days_yes (by omega) fun i hi => hs i (by omega)⟩), H_.kept⟩
theorem c31 (md : Md) (h : Heap) (p : PHeap) (hp : Per p h) (a1 a2 a3 : Option Addr) (n1 n2 n3 c1 c2 c3 : Nat) (xs ys zs : List Int) (A1 : Ints p a1 n1 xs) (A2 : Ints p a2 n2 ys) (A3 : Ints p a3 n3 zs) (h1 : n1 ≤ 40) (h2 : n2 ≤ 40) (h3 : n3 ≤ 40) : CallsX Try.prog md 31 #[.slice a1 n1 c1, .slice a2 n2 c2, .slice a3 n3 c3] h fun v h' => v = .bool (decide (xs = ys ++ zs)) ∧ Keep h h' := by
  refine calls_intro (Φ := fun h_ => St h [] p h_ []) Try.func31 rfl (tm := [_, _, _, _, _, _, _, _, _, _, _, _, _, _]) rfl ?_ (St.start h _ hp)
  intro c₀ cs Stop K
  have hl1 := A1.len
  have hl2 := A2.len
  have hl3 := A3.len
  refine fl_seq ?_
  refine rl_start ?_
  refine rl_det (met_none rfl) (fun h_ H_ => exd_assign (v := .bool (false)) rfl) rfl ?_
  refine rl_end ?_
  refine fl_seq ?_
  refine rl_start ?_
  refine rl_det (met_none rfl) (fun h_ H_ => exd_move (v := .slice a1 n1 c1) rfl) rfl ?_
  refine rl_own (L' := ([] : Pcs) ++ []) rfl ?_
  refine rl_buildO ([] : Pcs) (met_none rfl) Try.underlying25 tS3 tZ3 (Nat.le_of_ble_eq_true rfl) (vs := []) rfl rfl (es := []) rfl rfl rfl fun v1 X2 o3 => ?_
  refine rl_norm (tm' := _::_::_::_::_::_::_::_::_::_) rfl ?_
  refine rl_det (met_none rfl) (fun h_ H_ => exd_move (v := .slice a2 n2 c2) rfl) rfl ?_
  refine rl_appendP ([] : Pcs) X2 (met_none rfl) Try.underlying25 tS3 tZ3 rfl tB3 Try.underlying25 rfl rfl o3 A2 (ints_ones _) (by first | omega | (simp; omega) | simp) (by decide) (by decide) fun v4 X5 o6 => ?_
  refine rl_det (met_none rfl) (fun h_ H_ => exd_move (v := .slice a3 n3 c3) rfl) (tm' := [_,_,_,_,_,_,_,_,_,_,_,_,_,_]) rfl ?_
  refine rl_appendP ([] : Pcs) X5 (met_none rfl) Try.underlying25 tS3 tZ3 rfl tB3 Try.underlying25 rfl rfl o6 A3 (ints_ones _) (by first | omega | (simp; omega) | simp) (by decide) (by decide) fun v7 X8 o9 => ?_
  have o10 := o9.as (show _ = (ys ++ zs).map (fun x_ => [Value.int .i64 x_]) from by simp)
  refine rl_lastN (A := ([] : Pcs)) o10 (show _ = (n2 + n3) from by have l0_ := A2.len; have l1_ := A3.len; simp only [List.length_map, List.length_append]; omega) fun p11 a12 cp13 le14 ev_ D15 => ?_
  subst ev_
  refine rl_own (L' := []) rfl ?_
  refine rl_calld (met_none rfl) (first := []) (cap := []) rfl rfl fC36 (fun h_ H_ => c36 md _ _ (fun b_ o_ e_ => H_.per b_ o_ e_) _ _ _ _ _ _ _ _ (A1.mono le14) (show Ints _ _ _ (ys ++ zs) from D15) (by omega)) rfl ?_
  refine rl_det (met_none rfl) (fun h_ H_ => exd_assign (v := .bool (decide (xs = (ys ++ zs)))) rfl) (tm' := _::_::_::_::_::_::_::_) rfl ?_
  refine rl_end ?_
  refine fl_ret Try.func31 rfl (vs := [.bool (decide (xs = (ys ++ zs)))]) (fun h_ H_ => ⟨.bool (decide (xs = (ys ++ zs))), _, rfl, rfl, rfl⟩) (v := .bool (decide (xs = (ys ++ zs)))) rfl ?_
  exact fun h_ H_ => K _ _ ⟨rfl, H_.kept⟩
end Go.Proofs.Ytbmkacnlhlbnjaa
