/-
  Part of proofs about cisterns, beside goroutines that are only leaving. No condition.
-/
import Derived.Test.YtbmkacnlhlbnjaaBase3
import Derived.Test.YtbmkacnlhlbnjaaBase1
import Derived.Test.YtbmkacnlhlbnjaaBase2
namespace Go.Proofs.Ytbmkacnlhlbnjaa
open Go.X Go.X.Cist Go.Conc
set_option maxRecDepth 10000

theorem c83' (md : Md) (h : Heap) (n : Int) : CallsX Try.prog md 83 #[.int .i64 (n)] h fun v h' => v = .tuple #[.int .i64 (noneR n).1, .int .i64 (noneR n).2] ∧ Keep h h' := (c83 md h n).mono fun v h' ⟨e, k⟩ => ⟨by rw [e]; unfold noneR; split <;> rfl, k⟩
theorem c28 (h : Heap) (p : PHeap) (hp : Per p h) (size start : Int) (a : Option Addr) (n c : Nat) (ds : List Day) (D : Days p a n ds) (hn : n ≤ 40) (day : Int) : CallsX Try.prog (.main true) 28 #[.agg #[.int .i64 (size), .int .i64 (start), .slice a n c], .int .i64 (day)] h fun v h' => v = .tuple #[.agg #[.int .i64 (levelR size start ds day).1.1, .int .i64 (levelR size start ds day).1.2], .int .i64 (levelR size start ds day).2] ∧ Keep h h' := by
  refine calls_intro (Φ := fun h_ => St h [] p h_ []) Try.func28 rfl (tm := [_, _, _, _, _, _, _, _, _, _, _, _, _, _, _, _, _, _, _, _, _, _, _, _, _, _, _, _, _, _, _, _, _, _]) rfl ?_ (St.start h _ hp)
  intro c₀ cs Stop K
  have hl := D.len
  refine fl_seq ?_
  refine rl_start ?_
  refine rl_box (met_none rfl) (v := .agg #[.int .i64 (size), .int .i64 (start), .slice a n c]) rfl fun b1 => rl_own (L' := [(b1, .cells #[.int .i64 (size), .int .i64 (start), .slice a n c] 24 (0, 0))]) rfl ?_
  refine rl_norm (tm' := _::_::_::_) rfl ?_
  refine rl_alloc (met_none rfl) tZ36 rfl fun b2 => rl_own (L' := [(b2, .cells #[.int .i64 0, .int .i64 0] 36 (0, 0)), (b1, .cells #[.int .i64 (size), .int .i64 (start), .slice a n c] 24 (0, 0))]) rfl ?_
  refine rl_norm (tm' := _::_::_::_::_::_) rfl ?_
  refine rl_det (met_none rfl) (fun h_ H_ => exd_assign (v := .int .i64 0) rfl) (tm' := _::_::_::_::_::_::_) rfl ?_
  refine rl_end ?_
  refine fl_seq ?_
  refine fl_seq ?_
  refine fl_drawn 4 [[], [], [], [1, 2], [], []] mixed (by kernel_rfl) (Nat.le_of_ble_eq_true rfl) (tmF := [.agg #[.int .i64 (size), .int .i64 (start), .slice a n c], .int .i64 (day), .pointer (some ⟨b1, 0, none⟩), undef, .pointer (some ⟨b2, 0, none⟩), .int .i64 0, undef, undef, undef, .agg #[.int .i64 (size), .int .i64 (start), .slice a n c], .agg #[.int .i64 (size), .int .i64 (start), .slice a n c], .int .i64 (day), .bool (decide (IsDay ds day)), undef, undef, undef, undef, undef, undef, undef, undef, undef, undef, undef, undef, undef, undef, undef, undef, undef, undef, undef, undef, undef]) ?_ ?_
  · refine sw_det (met_none rfl) (fun h_ H_ => exd_loadN_own H_ tA24 tS24 rfl (i := 1) rfl (vs := [.int .i64 (size), .int .i64 (start), .slice a n c]) rfl rfl) (tm' := _::_::_::_::_::_::_::_::_::_::_) rfl ?_
    refine sw_det (met_none rfl) (fun h_ H_ => exd_loadN_own H_ tA24 tS24 rfl (i := 1) rfl (vs := [.int .i64 (size), .int .i64 (start), .slice a n c]) rfl rfl) (tm' := _::_::_::_::_::_::_::_::_::_::_::_) rfl ?_
    refine sw_det (met_none rfl) (fun h_ H_ => exd_move (v := .int .i64 (day)) rfl) (tm' := _::_::_::_::_::_::_::_::_::_::_::_::_) rfl ?_
    refine sw_call (met_none rfl) (first := []) (cap := []) rfl rfl fC66 (fun h_ H_ => (c66 (.main true) _ _ (fun b_ o_ e_ => H_.per b_ o_ e_) (size) (start) _ _ _ _ D (by omega) day).mono fun v_ h2_ ⟨e_, k_⟩ => ⟨e_, H_.call k_⟩) (tm' := _::_::_::_::_::_::_::_::_::_::_::_::_::_) rfl ?_
    exact sw_nil rfl rfl
  refine rl_calld (met_none rfl) (first := []) (cap := []) rfl rfl fC65 (fun h_ H_ => c65 (.main true) _ _ (fun b_ o_ e_ => H_.per b_ o_ e_) (size) (start) _ _ _ _ D (by omega) (decide (IsDay ds day))) (tm' := _::_::_::_::_::_::_::_::_::_::_::_::_::_::_) rfl ?_
  refine rl_det (met_none rfl) (fun h_ H_ => exd_assign (v := .int .i64 (askd (size) (start) ds (decide (IsDay ds day)))) rfl) (tm' := _::_::_::_::_::_::_::_) rfl ?_
  refine rl_end ?_
  refine fl_seq ?_
  refine rl_start ?_
  refine rl_det (met_none rfl) (fun h_ H_ => exd_move (v := .int .i64 (askd (size) (start) ds (decide (IsDay ds day)))) rfl) (tm' := _::_::_::_::_::_::_::_::_::_::_::_::_::_::_::_) rfl ?_
  refine rl_det (met_none rfl) (fun h_ H_ => exd_neq rfl rfl) (tm' := _::_::_::_::_::_::_::_::_::_::_::_::_::_::_::_::_) rfl ?_
  refine rl_end ?_
  by_cases c3 : askd (size) (start) ds (decide (IsDay ds day)) ≠ 0
  · refine fl_then rfl (decide_eq_true c3) ?_
    refine fl_seq ?_
    refine rl_start ?_
    refine rl_det (met_none rfl) (fun h_ H_ => exd_build tZ36 tP36 (vs := []) rfl (cells := #[.int .i64 0, .int .i64 0]) rfl) (tm' := _::_::_::_::_::_::_::_::_::_::_::_::_::_::_::_::_::_) rfl ?_
    refine rl_det (met_none rfl) (fun h_ H_ => exd_move (v := .int .i64 (askd (size) (start) ds (decide (IsDay ds day)))) rfl) (tm' := _::_::_::_::_::_::_::_::_::_::_::_::_::_::_::_::_::_::_) rfl ?_
    refine rl_store (met_none rfl) tS36 rfl (v := .agg #[.int .i64 0, .int .i64 0]) rfl (i := 0) rfl rfl rfl (Nat.le_of_ble_eq_true rfl) (cs2 := [.int .i64 0, .int .i64 0]) rfl (rl_own (L' := [(b2, .cells #[.int .i64 0, .int .i64 0] 36 (0, 0)), (b1, .cells #[.int .i64 (size), .int .i64 (start), .slice a n c] 24 (0, 0))]) rfl ?_)
    refine rl_det (met_none rfl) (fun h_ H_ => exd_assign (v := .int .i64 (askd (size) (start) ds (decide (IsDay ds day)))) rfl) (tm' := _::_::_::_::_::_::_) rfl ?_
    refine rl_end ?_
    refine fl_ret Try.func28 rfl (vs := [.agg #[.int .i64 0, .int .i64 0], .int .i64 (askd (size) (start) ds (decide (IsDay ds day)))]) (fun h_ H_ => ⟨.agg #[.int .i64 0, .int .i64 0], _, rfl, (wpS_bind (wpS_pure (wpS_loadVarN tA36 tS36 (vs := [.int .i64 0, .int .i64 0]) rfl (fun j_ v_ e_ => by rw [add_mk]; exact H_.ocell (i := 0) rfl (by simpa using e_)) ⟨rfl, rfl⟩))), ⟨.int .i64 (askd (size) (start) ds (decide (IsDay ds day))), _, rfl, rfl, rfl⟩⟩) (v := .tuple #[.agg #[.int .i64 0, .int .i64 0], .int .i64 (askd (size) (start) ds (decide (IsDay ds day)))]) rfl ?_
    exact fun h_ H_ => K _ _ ⟨by unfold levelR; rw [if_neg ‹_›], H_.kept⟩
  · refine fl_else rfl (decide_eq_false c3) ?_
    refine fl_skip ?_
    refine fl_seq ?_
    have h0 : askd size start ds (decide (IsDay ds day)) = 0 := by omega
    have hOk : Ok size start ds := (askd_zero.1 h0).1
    have hday : IsDay ds day := of_decide_eq_true (askd_zero.1 h0).2
    have hd0 := hday.1; have hd1 := hday.2
    refine rl_start ?_
    refine rl_det (met_none rfl) (fun h_ H_ => exd_loadN_own H_ tA24 tS24 rfl (i := 1) rfl (vs := [.int .i64 (size), .int .i64 (start), .slice a n c]) rfl rfl) (tm' := _::_::_::_::_::_::_::_::_::_::_::_::_::_::_::_::_::_::_::_::_) rfl ?_
    refine rl_own (L' := ([(b2, .cells #[.int .i64 0, .int .i64 0] 36 (0, 0)), (b1, .cells #[.int .i64 (size), .int .i64 (start), .slice a n c] 24 (0, 0))] : Pcs) ++ []) rfl ?_
    refine rl_call (met_none rfl) (first := []) (cap := []) rfl rfl fC68 (R := fun v_ h_ => ∃ w4 : Value, ∃ w5 : Value, ∃ X6 : Pcs, ∃ X7 : Pcs, v_ = .tuple #[w4, w5] ∧ (OwnS 72 3 w4 (dcs (dryOf size start ds)) X6) ∧ (OwnS 72 3 w5 (dcs (wetOf size start ds)) X7) ∧ St h [] p h_ (([(b2, .cells #[.int .i64 0, .int .i64 0] 36 (0, 0)), (b1, .cells #[.int .i64 (size), .int .i64 (start), .slice a n c] 24 (0, 0))] : Pcs) ++ ((X6 ++ (X7 ++ [])) ++ []))) (fun h_ H_ => (c68b _ _ (fun b_ o_ e_ => H_.per b_ o_ e_) (size) (start) _ _ _ _ D (by omega) hOk).mono fun v_ h2_ ⟨w4, w5, X6, X7, e_, o8, o9, N_⟩ => ⟨w4, w5, X6, X7, e_, o8, o9, H_.callNA N_⟩) fun v_ => ?_
    refine rl_ex fun w4 => rl_ex fun w5 => rl_ex fun X6 => rl_ex fun X7 => rl_and fun ev_ => rl_and fun o8 => rl_and fun o9 => ?_
    have ev_ := ev_.symm; subst ev_
    refine rl_own (L' := ([(b2, .cells #[.int .i64 0, .int .i64 0] 36 (0, 0)), (b1, .cells #[.int .i64 (size), .int .i64 (start), .slice a n c] 24 (0, 0))] : Pcs) ++ (X6 ++ (X7 ++ []))) (by simp) ?_
    refine rl_norm (tm' := _::_::_::_::_::_::_::_::_::_::_::_::_::_::_::_::_::_::_::_::_::_) rfl ?_
    refine rl_det (met_none rfl) (fun h_ H_ => exd_move (v := .tuple #[w4, w5]) rfl) (tm' := _::_::_::_::_::_::_::_::_::_::_::_::_::_::_::_::_::_::_::_) rfl ?_
    refine rl_det (met_none rfl) (fun h_ H_ => exd_extract rfl (v := w4) rfl) (tm' := _::_::_::_::_::_::_::_::_::_::_::_::_::_::_::_::_::_::_::_::_::_::_) rfl ?_
    refine rl_det (met_none rfl) (fun h_ H_ => exd_extract rfl (v := w5) rfl) (tm' := [_,_,_,_,_,_,_,_,_,_,_,_,_,_,_,_,_,_,_,_,_,_,_,_,_,_,_,_,_,_,_,_,_,_]) rfl ?_
    refine rl_det (met_none rfl) (fun h_ H_ => exd_assign (v := w4) rfl) (tm' := _::_::_::_::_::_::_::_::_) rfl ?_
    refine rl_det (met_none rfl) (fun h_ H_ => exd_assign (v := w5) rfl) (tm' := _::_::_::_::_::_::_::_::_::_) rfl ?_
    refine rl_end ?_
    refine fl_seq ?_
    refine rs_lastN (A := ([(b2, .cells #[.int .i64 0, .int .i64 0] 36 (0, 0)), (b1, .cells #[.int .i64 (size), .int .i64 (start), .slice a n c] 24 (0, 0))] : Pcs)) o8 (show (dcs (dryOf size start ds)).length = n by rw [dcs_length, dryOf_length]; exact hl) fun p10 a11 cp12 le13 ev_ D14 => ?_
    subst ev_
    refine rs_lastN (A := ([(b2, .cells #[.int .i64 0, .int .i64 0] 36 (0, 0)), (b1, .cells #[.int .i64 (size), .int .i64 (start), .slice a n c] 24 (0, 0))] : Pcs)) o9 (show (dcs (wetOf size start ds)).length = n by rw [dcs_length, wetOf_length]; exact hl) fun p15 a16 cp17 le18 ev_ D19 => ?_
    subst ev_
    refine rs_own (L' := [(b2, .cells #[.int .i64 0, .int .i64 0] 36 (0, 0)), (b1, .cells #[.int .i64 (size), .int .i64 (start), .slice a n c] 24 (0, 0))]) rfl ?_
    refine fl_drawn 10 [[], [], [0, 1], [0, 1, 2], [0, 1, 2, 3], [], [], [5, 6], [5, 6, 7], [5, 6, 7, 8], [], [], []] mixed (by kernel_rfl) (Nat.le_of_ble_eq_true rfl) (tmF := [.agg #[.int .i64 (size), .int .i64 (start), .slice a n c], .int .i64 (day), .pointer (some ⟨b1, 0, none⟩), undef, .pointer (some ⟨b2, 0, none⟩), .int .i64 0, .int .i64 (askd (size) (start) ds (decide (IsDay ds day))), .slice a11 n cp12, .slice a16 n cp17, .agg #[.int .i64 (size), .int .i64 (start), .slice a n c], .agg #[.int .i64 (size), .int .i64 (start), .slice a n c], .int .i64 (day), .bool (decide (IsDay ds day)), .int .i64 (askd (size) (start) ds (decide (IsDay ds day))), .int .i64 (askd (size) (start) ds (decide (IsDay ds day))), .bool (decide (askd (size) (start) ds (decide (IsDay ds day)) ≠ 0)), undef, undef, .tuple #[.slice a11 n cp12, .slice a16 n cp17], .agg #[.int .i64 (size), .int .i64 (start), .slice a n c], .tuple #[.slice a11 n cp12, .slice a16 n cp17], .slice a11 n cp12, .slice a16 n cp17, .slice a11 n cp12, .int .i64 (day), .pointer (some ((adr a11).add ((day).toNat * 3))), .pointer (some ((adr a11).add ((day).toNat * 3))), .int .i64 (((dryOf size start ds).getD ((day).toNat) dz).lo), .slice a16 n cp17, .int .i64 (day), .pointer (some ((adr a16).add ((day).toNat * 3))), .pointer (some ((adr a16).add ((day).toNat * 3))), .int .i64 (((wetOf size start ds).getD ((day).toNat) dz).lo), undef]) ?_ ?_
    · refine sw_det (met_none rfl) (fun h_ H_ => exd_move (v := .slice a11 n cp12) rfl) (tm' := [_,_,_,_,_,_,_,_,_,_,_,_,_,_,_,_,_,_,_,_,_,_,_,_,_,_,_,_,_,_,_,_,_,_]) rfl ?_
      refine sw_det (met_none rfl) (fun h_ H_ => exd_move (v := .int .i64 (day)) rfl) (tm' := [_,_,_,_,_,_,_,_,_,_,_,_,_,_,_,_,_,_,_,_,_,_,_,_,_,_,_,_,_,_,_,_,_,_]) rfl ?_
      refine sw_det (met_none rfl) (fun h_ H_ => exd_indexAddr Try.underlying68 tS72 (sl_ne a11 n cp12 (((show Days _ _ _ (dryOf size start ds) from D14).mono le18).ne (by omega))) rfl (by omega) (by omega) (a' := (adr a11).add ((day).toNat * 3)) rfl) (tm' := [_,_,_,_,_,_,_,_,_,_,_,_,_,_,_,_,_,_,_,_,_,_,_,_,_,_,_,_,_,_,_,_,_,_]) rfl ?_
      refine sw_det (met_none rfl) (fun h_ H_ => exd_fieldAddr tF72_0 rfl (a' := (adr a11).add ((day).toNat * 3)) rfl) (tm' := [_,_,_,_,_,_,_,_,_,_,_,_,_,_,_,_,_,_,_,_,_,_,_,_,_,_,_,_,_,_,_,_,_,_]) rfl ?_
      refine sw_det (met_none rfl) (fun h_ H_ => exd_load_per H_ tA3 rfl (v := .int .i64 (((dryOf size start ds).getD ((day).toNat) dz).lo)) (((show Days _ _ _ (dryOf size start ds) from D14).mono le18).lo (by omega))) (tm' := [_,_,_,_,_,_,_,_,_,_,_,_,_,_,_,_,_,_,_,_,_,_,_,_,_,_,_,_,_,_,_,_,_,_]) rfl ?_
      refine sw_det (met_none rfl) (fun h_ H_ => exd_move (v := .slice a16 n cp17) rfl) (tm' := [_,_,_,_,_,_,_,_,_,_,_,_,_,_,_,_,_,_,_,_,_,_,_,_,_,_,_,_,_,_,_,_,_,_]) rfl ?_
      refine sw_det (met_none rfl) (fun h_ H_ => exd_move (v := .int .i64 (day)) rfl) (tm' := [_,_,_,_,_,_,_,_,_,_,_,_,_,_,_,_,_,_,_,_,_,_,_,_,_,_,_,_,_,_,_,_,_,_]) rfl ?_
      refine sw_det (met_none rfl) (fun h_ H_ => exd_indexAddr Try.underlying68 tS72 (sl_ne a16 n cp17 ((show Days _ _ _ (wetOf size start ds) from D19).ne (by omega))) rfl (by omega) (by omega) (a' := (adr a16).add ((day).toNat * 3)) rfl) (tm' := [_,_,_,_,_,_,_,_,_,_,_,_,_,_,_,_,_,_,_,_,_,_,_,_,_,_,_,_,_,_,_,_,_,_]) rfl ?_
      refine sw_det (met_none rfl) (fun h_ H_ => exd_fieldAddr tF72_0 rfl (a' := (adr a16).add ((day).toNat * 3)) rfl) (tm' := [_,_,_,_,_,_,_,_,_,_,_,_,_,_,_,_,_,_,_,_,_,_,_,_,_,_,_,_,_,_,_,_,_,_]) rfl ?_
      refine sw_det (met_none rfl) (fun h_ H_ => exd_load_per H_ tA3 rfl (v := .int .i64 (((wetOf size start ds).getD ((day).toNat) dz).lo)) ((show Days _ _ _ (wetOf size start ds) from D19).lo (by omega))) (tm' := [_,_,_,_,_,_,_,_,_,_,_,_,_,_,_,_,_,_,_,_,_,_,_,_,_,_,_,_,_,_,_,_,_,_]) rfl ?_
      exact sw_nil rfl rfl
    refine rl_det (met_none rfl) (fun h_ H_ => exd_build tZ36 tP36 (vs := [(0, .int .i64 (((dryOf size start ds).getD ((day).toNat) dz).lo)), (1, .int .i64 (((wetOf size start ds).getD ((day).toNat) dz).lo))]) rfl (cells := #[.int .i64 (((dryOf size start ds).getD ((day).toNat) dz).lo), .int .i64 (((wetOf size start ds).getD ((day).toNat) dz).lo)]) rfl) (tm' := [_,_,_,_,_,_,_,_,_,_,_,_,_,_,_,_,_,_,_,_,_,_,_,_,_,_,_,_,_,_,_,_,_,_]) rfl ?_
    refine rl_store (met_none rfl) tS36 rfl (v := .agg #[.int .i64 (((dryOf size start ds).getD ((day).toNat) dz).lo), .int .i64 (((wetOf size start ds).getD ((day).toNat) dz).lo)]) rfl (i := 0) rfl rfl rfl (Nat.le_of_ble_eq_true rfl) (cs2 := [.int .i64 (((dryOf size start ds).getD ((day).toNat) dz).lo), .int .i64 (((wetOf size start ds).getD ((day).toNat) dz).lo)]) rfl (rl_own (L' := [(b2, .cells #[.int .i64 (((dryOf size start ds).getD ((day).toNat) dz).lo), .int .i64 (((wetOf size start ds).getD ((day).toNat) dz).lo)] 36 (0, 0)), (b1, .cells #[.int .i64 (size), .int .i64 (start), .slice a n c] 24 (0, 0))]) rfl ?_)
    refine rl_det (met_none rfl) (fun h_ H_ => exd_assign (v := .int .i64 0) rfl) (tm' := _::_::_::_::_::_::_) rfl ?_
    refine rl_end ?_
    refine fl_ret Try.func28 rfl (vs := [.agg #[.int .i64 (((dryOf size start ds).getD ((day).toNat) dz).lo), .int .i64 (((wetOf size start ds).getD ((day).toNat) dz).lo)], .int .i64 0]) (fun h_ H_ => ⟨.agg #[.int .i64 (((dryOf size start ds).getD ((day).toNat) dz).lo), .int .i64 (((wetOf size start ds).getD ((day).toNat) dz).lo)], _, rfl, (wpS_bind (wpS_pure (wpS_loadVarN tA36 tS36 (vs := [.int .i64 (((dryOf size start ds).getD ((day).toNat) dz).lo), .int .i64 (((wetOf size start ds).getD ((day).toNat) dz).lo)]) rfl (fun j_ v_ e_ => by rw [add_mk]; exact H_.ocell (i := 0) rfl (by simpa using e_)) ⟨rfl, rfl⟩))), ⟨.int .i64 0, _, rfl, rfl, rfl⟩⟩) (v := .tuple #[.agg #[.int .i64 (((dryOf size start ds).getD ((day).toNat) dz).lo), .int .i64 (((wetOf size start ds).getD ((day).toNat) dz).lo)], .int .i64 0]) rfl ?_
    exact fun h_ H_ => K _ _ ⟨by unfold levelR; rw [if_pos h0], H_.kept⟩
theorem c41 (h : Heap) (p : PHeap) (hp : Per p h) (size start : Int) (a : Option Addr) (n c : Nat) (ds : List Day) (D : Days p a n ds) (hn : n ≤ 40) (day : Int) : CallsX Try.prog (.main true) 41 #[.agg #[.int .i64 (size), .int .i64 (start), .slice a n c], .int .i64 (day)] h fun v h' => v = .tuple #[.agg #[.int .i64 (lackR size start ds day).1.1, .int .i64 (lackR size start ds day).1.2], .int .i64 (lackR size start ds day).2] ∧ Keep h h' := by
  refine calls_intro (Φ := fun h_ => St h [] p h_ []) Try.func41 rfl (tm := [_, _, _, _, _, _, _, _, _, _, _, _, _, _, _, _, _, _, _, _, _, _, _, _, _, _, _, _, _, _, _, _, _, _]) rfl ?_ (St.start h _ hp)
  intro c₀ cs Stop K
  have hl := D.len
  refine fl_seq ?_
  refine rl_start ?_
  refine rl_box (met_none rfl) (v := .agg #[.int .i64 (size), .int .i64 (start), .slice a n c]) rfl fun b1 => rl_own (L' := [(b1, .cells #[.int .i64 (size), .int .i64 (start), .slice a n c] 24 (0, 0))]) rfl ?_
  refine rl_norm (tm' := _::_::_::_) rfl ?_
  refine rl_alloc (met_none rfl) tZ36 rfl fun b2 => rl_own (L' := [(b2, .cells #[.int .i64 0, .int .i64 0] 36 (0, 0)), (b1, .cells #[.int .i64 (size), .int .i64 (start), .slice a n c] 24 (0, 0))]) rfl ?_
  refine rl_norm (tm' := _::_::_::_::_::_) rfl ?_
  refine rl_det (met_none rfl) (fun h_ H_ => exd_assign (v := .int .i64 0) rfl) (tm' := _::_::_::_::_::_::_) rfl ?_
  refine rl_end ?_
  refine fl_seq ?_
  refine fl_seq ?_
  refine fl_drawn 4 [[], [], [], [1, 2], [], []] mixed (by kernel_rfl) (Nat.le_of_ble_eq_true rfl) (tmF := [.agg #[.int .i64 (size), .int .i64 (start), .slice a n c], .int .i64 (day), .pointer (some ⟨b1, 0, none⟩), undef, .pointer (some ⟨b2, 0, none⟩), .int .i64 0, undef, undef, undef, .agg #[.int .i64 (size), .int .i64 (start), .slice a n c], .agg #[.int .i64 (size), .int .i64 (start), .slice a n c], .int .i64 (day), .bool (decide (IsDay ds day)), undef, undef, undef, undef, undef, undef, undef, undef, undef, undef, undef, undef, undef, undef, undef, undef, undef, undef, undef, undef, undef]) ?_ ?_
  · refine sw_det (met_none rfl) (fun h_ H_ => exd_loadN_own H_ tA24 tS24 rfl (i := 1) rfl (vs := [.int .i64 (size), .int .i64 (start), .slice a n c]) rfl rfl) (tm' := _::_::_::_::_::_::_::_::_::_::_) rfl ?_
    refine sw_det (met_none rfl) (fun h_ H_ => exd_loadN_own H_ tA24 tS24 rfl (i := 1) rfl (vs := [.int .i64 (size), .int .i64 (start), .slice a n c]) rfl rfl) (tm' := _::_::_::_::_::_::_::_::_::_::_::_) rfl ?_
    refine sw_det (met_none rfl) (fun h_ H_ => exd_move (v := .int .i64 (day)) rfl) (tm' := _::_::_::_::_::_::_::_::_::_::_::_::_) rfl ?_
    refine sw_call (met_none rfl) (first := []) (cap := []) rfl rfl fC66 (fun h_ H_ => (c66 (.main true) _ _ (fun b_ o_ e_ => H_.per b_ o_ e_) (size) (start) _ _ _ _ D (by omega) day).mono fun v_ h2_ ⟨e_, k_⟩ => ⟨e_, H_.call k_⟩) (tm' := _::_::_::_::_::_::_::_::_::_::_::_::_::_) rfl ?_
    exact sw_nil rfl rfl
  refine rl_calld (met_none rfl) (first := []) (cap := []) rfl rfl fC65 (fun h_ H_ => c65 (.main true) _ _ (fun b_ o_ e_ => H_.per b_ o_ e_) (size) (start) _ _ _ _ D (by omega) (decide (IsDay ds day))) (tm' := _::_::_::_::_::_::_::_::_::_::_::_::_::_::_) rfl ?_
  refine rl_det (met_none rfl) (fun h_ H_ => exd_assign (v := .int .i64 (askd (size) (start) ds (decide (IsDay ds day)))) rfl) (tm' := _::_::_::_::_::_::_::_) rfl ?_
  refine rl_end ?_
  refine fl_seq ?_
  refine rl_start ?_
  refine rl_det (met_none rfl) (fun h_ H_ => exd_move (v := .int .i64 (askd (size) (start) ds (decide (IsDay ds day)))) rfl) (tm' := _::_::_::_::_::_::_::_::_::_::_::_::_::_::_::_) rfl ?_
  refine rl_det (met_none rfl) (fun h_ H_ => exd_neq rfl rfl) (tm' := _::_::_::_::_::_::_::_::_::_::_::_::_::_::_::_::_) rfl ?_
  refine rl_end ?_
  by_cases c3 : askd (size) (start) ds (decide (IsDay ds day)) ≠ 0
  · refine fl_then rfl (decide_eq_true c3) ?_
    refine fl_seq ?_
    refine rl_start ?_
    refine rl_det (met_none rfl) (fun h_ H_ => exd_build tZ36 tP36 (vs := []) rfl (cells := #[.int .i64 0, .int .i64 0]) rfl) (tm' := _::_::_::_::_::_::_::_::_::_::_::_::_::_::_::_::_::_) rfl ?_
    refine rl_det (met_none rfl) (fun h_ H_ => exd_move (v := .int .i64 (askd (size) (start) ds (decide (IsDay ds day)))) rfl) (tm' := _::_::_::_::_::_::_::_::_::_::_::_::_::_::_::_::_::_::_) rfl ?_
    refine rl_store (met_none rfl) tS36 rfl (v := .agg #[.int .i64 0, .int .i64 0]) rfl (i := 0) rfl rfl rfl (Nat.le_of_ble_eq_true rfl) (cs2 := [.int .i64 0, .int .i64 0]) rfl (rl_own (L' := [(b2, .cells #[.int .i64 0, .int .i64 0] 36 (0, 0)), (b1, .cells #[.int .i64 (size), .int .i64 (start), .slice a n c] 24 (0, 0))]) rfl ?_)
    refine rl_det (met_none rfl) (fun h_ H_ => exd_assign (v := .int .i64 (askd (size) (start) ds (decide (IsDay ds day)))) rfl) (tm' := _::_::_::_::_::_::_) rfl ?_
    refine rl_end ?_
    refine fl_ret Try.func41 rfl (vs := [.agg #[.int .i64 0, .int .i64 0], .int .i64 (askd (size) (start) ds (decide (IsDay ds day)))]) (fun h_ H_ => ⟨.agg #[.int .i64 0, .int .i64 0], _, rfl, (wpS_bind (wpS_pure (wpS_loadVarN tA36 tS36 (vs := [.int .i64 0, .int .i64 0]) rfl (fun j_ v_ e_ => by rw [add_mk]; exact H_.ocell (i := 0) rfl (by simpa using e_)) ⟨rfl, rfl⟩))), ⟨.int .i64 (askd (size) (start) ds (decide (IsDay ds day))), _, rfl, rfl, rfl⟩⟩) (v := .tuple #[.agg #[.int .i64 0, .int .i64 0], .int .i64 (askd (size) (start) ds (decide (IsDay ds day)))]) rfl ?_
    exact fun h_ H_ => K _ _ ⟨by unfold lackR; rw [if_neg ‹_›], H_.kept⟩
  · refine fl_else rfl (decide_eq_false c3) ?_
    refine fl_skip ?_
    refine fl_seq ?_
    have h0 : askd size start ds (decide (IsDay ds day)) = 0 := by omega
    have hOk : Ok size start ds := (askd_zero.1 h0).1
    have hday : IsDay ds day := of_decide_eq_true (askd_zero.1 h0).2
    have hd0 := hday.1; have hd1 := hday.2
    refine rl_start ?_
    refine rl_det (met_none rfl) (fun h_ H_ => exd_loadN_own H_ tA24 tS24 rfl (i := 1) rfl (vs := [.int .i64 (size), .int .i64 (start), .slice a n c]) rfl rfl) (tm' := _::_::_::_::_::_::_::_::_::_::_::_::_::_::_::_::_::_::_::_::_) rfl ?_
    refine rl_own (L' := ([(b2, .cells #[.int .i64 0, .int .i64 0] 36 (0, 0)), (b1, .cells #[.int .i64 (size), .int .i64 (start), .slice a n c] 24 (0, 0))] : Pcs) ++ []) rfl ?_
    refine rl_call (met_none rfl) (first := []) (cap := []) rfl rfl fC68 (R := fun v_ h_ => ∃ w4 : Value, ∃ w5 : Value, ∃ X6 : Pcs, ∃ X7 : Pcs, v_ = .tuple #[w4, w5] ∧ (OwnS 72 3 w4 (dcs (dryOf size start ds)) X6) ∧ (OwnS 72 3 w5 (dcs (wetOf size start ds)) X7) ∧ St h [] p h_ (([(b2, .cells #[.int .i64 0, .int .i64 0] 36 (0, 0)), (b1, .cells #[.int .i64 (size), .int .i64 (start), .slice a n c] 24 (0, 0))] : Pcs) ++ ((X6 ++ (X7 ++ [])) ++ []))) (fun h_ H_ => (c68b _ _ (fun b_ o_ e_ => H_.per b_ o_ e_) (size) (start) _ _ _ _ D (by omega) hOk).mono fun v_ h2_ ⟨w4, w5, X6, X7, e_, o8, o9, N_⟩ => ⟨w4, w5, X6, X7, e_, o8, o9, H_.callNA N_⟩) fun v_ => ?_
    refine rl_ex fun w4 => rl_ex fun w5 => rl_ex fun X6 => rl_ex fun X7 => rl_and fun ev_ => rl_and fun o8 => rl_and fun o9 => ?_
    have ev_ := ev_.symm; subst ev_
    refine rl_own (L' := ([(b2, .cells #[.int .i64 0, .int .i64 0] 36 (0, 0)), (b1, .cells #[.int .i64 (size), .int .i64 (start), .slice a n c] 24 (0, 0))] : Pcs) ++ (X6 ++ (X7 ++ []))) (by simp) ?_
    refine rl_norm (tm' := _::_::_::_::_::_::_::_::_::_::_::_::_::_::_::_::_::_::_::_::_::_) rfl ?_
    refine rl_det (met_none rfl) (fun h_ H_ => exd_move (v := .tuple #[w4, w5]) rfl) (tm' := _::_::_::_::_::_::_::_::_::_::_::_::_::_::_::_::_::_::_::_) rfl ?_
    refine rl_det (met_none rfl) (fun h_ H_ => exd_extract rfl (v := w4) rfl) (tm' := _::_::_::_::_::_::_::_::_::_::_::_::_::_::_::_::_::_::_::_::_::_::_) rfl ?_
    refine rl_det (met_none rfl) (fun h_ H_ => exd_extract rfl (v := w5) rfl) (tm' := [_,_,_,_,_,_,_,_,_,_,_,_,_,_,_,_,_,_,_,_,_,_,_,_,_,_,_,_,_,_,_,_,_,_]) rfl ?_
    refine rl_det (met_none rfl) (fun h_ H_ => exd_assign (v := w4) rfl) (tm' := _::_::_::_::_::_::_::_::_) rfl ?_
    refine rl_det (met_none rfl) (fun h_ H_ => exd_assign (v := w5) rfl) (tm' := _::_::_::_::_::_::_::_::_::_) rfl ?_
    refine rl_end ?_
    refine fl_seq ?_
    refine rs_lastN (A := ([(b2, .cells #[.int .i64 0, .int .i64 0] 36 (0, 0)), (b1, .cells #[.int .i64 (size), .int .i64 (start), .slice a n c] 24 (0, 0))] : Pcs)) o8 (show (dcs (dryOf size start ds)).length = n by rw [dcs_length, dryOf_length]; exact hl) fun p10 a11 cp12 le13 ev_ D14 => ?_
    subst ev_
    refine rs_lastN (A := ([(b2, .cells #[.int .i64 0, .int .i64 0] 36 (0, 0)), (b1, .cells #[.int .i64 (size), .int .i64 (start), .slice a n c] 24 (0, 0))] : Pcs)) o9 (show (dcs (wetOf size start ds)).length = n by rw [dcs_length, wetOf_length]; exact hl) fun p15 a16 cp17 le18 ev_ D19 => ?_
    subst ev_
    refine rs_own (L' := [(b2, .cells #[.int .i64 0, .int .i64 0] 36 (0, 0)), (b1, .cells #[.int .i64 (size), .int .i64 (start), .slice a n c] 24 (0, 0))]) rfl ?_
    refine fl_drawn 10 [[], [], [0, 1], [0, 1, 2], [0, 1, 2, 3], [], [], [5, 6], [5, 6, 7], [5, 6, 7, 8], [], [], []] mixed (by kernel_rfl) (Nat.le_of_ble_eq_true rfl) (tmF := [.agg #[.int .i64 (size), .int .i64 (start), .slice a n c], .int .i64 (day), .pointer (some ⟨b1, 0, none⟩), undef, .pointer (some ⟨b2, 0, none⟩), .int .i64 0, .int .i64 (askd (size) (start) ds (decide (IsDay ds day))), .slice a11 n cp12, .slice a16 n cp17, .agg #[.int .i64 (size), .int .i64 (start), .slice a n c], .agg #[.int .i64 (size), .int .i64 (start), .slice a n c], .int .i64 (day), .bool (decide (IsDay ds day)), .int .i64 (askd (size) (start) ds (decide (IsDay ds day))), .int .i64 (askd (size) (start) ds (decide (IsDay ds day))), .bool (decide (askd (size) (start) ds (decide (IsDay ds day)) ≠ 0)), undef, undef, .tuple #[.slice a11 n cp12, .slice a16 n cp17], .agg #[.int .i64 (size), .int .i64 (start), .slice a n c], .tuple #[.slice a11 n cp12, .slice a16 n cp17], .slice a11 n cp12, .slice a16 n cp17, .slice a16 n cp17, .int .i64 (day), .pointer (some ((adr a16).add ((day).toNat * 3))), .pointer (some (((adr a16).add ((day).toNat * 3)).add 1)), .int .i64 (((wetOf size start ds).getD ((day).toNat) dz).hi), .slice a11 n cp12, .int .i64 (day), .pointer (some ((adr a11).add ((day).toNat * 3))), .pointer (some (((adr a11).add ((day).toNat * 3)).add 1)), .int .i64 (((dryOf size start ds).getD ((day).toNat) dz).hi), undef]) ?_ ?_
    · refine sw_det (met_none rfl) (fun h_ H_ => exd_move (v := .slice a16 n cp17) rfl) (tm' := [_,_,_,_,_,_,_,_,_,_,_,_,_,_,_,_,_,_,_,_,_,_,_,_,_,_,_,_,_,_,_,_,_,_]) rfl ?_
      refine sw_det (met_none rfl) (fun h_ H_ => exd_move (v := .int .i64 (day)) rfl) (tm' := [_,_,_,_,_,_,_,_,_,_,_,_,_,_,_,_,_,_,_,_,_,_,_,_,_,_,_,_,_,_,_,_,_,_]) rfl ?_
      refine sw_det (met_none rfl) (fun h_ H_ => exd_indexAddr Try.underlying68 tS72 (sl_ne a16 n cp17 ((show Days _ _ _ (wetOf size start ds) from D19).ne (by omega))) rfl (by omega) (by omega) (a' := (adr a16).add ((day).toNat * 3)) rfl) (tm' := [_,_,_,_,_,_,_,_,_,_,_,_,_,_,_,_,_,_,_,_,_,_,_,_,_,_,_,_,_,_,_,_,_,_]) rfl ?_
      refine sw_det (met_none rfl) (fun h_ H_ => exd_fieldAddr tF72_1 rfl (a' := ((adr a16).add ((day).toNat * 3)).add 1) rfl) (tm' := [_,_,_,_,_,_,_,_,_,_,_,_,_,_,_,_,_,_,_,_,_,_,_,_,_,_,_,_,_,_,_,_,_,_]) rfl ?_
      refine sw_det (met_none rfl) (fun h_ H_ => exd_load_per H_ tA3 rfl (v := .int .i64 (((wetOf size start ds).getD ((day).toNat) dz).hi)) ((show Days _ _ _ (wetOf size start ds) from D19).hi (by omega))) (tm' := [_,_,_,_,_,_,_,_,_,_,_,_,_,_,_,_,_,_,_,_,_,_,_,_,_,_,_,_,_,_,_,_,_,_]) rfl ?_
      refine sw_det (met_none rfl) (fun h_ H_ => exd_move (v := .slice a11 n cp12) rfl) (tm' := [_,_,_,_,_,_,_,_,_,_,_,_,_,_,_,_,_,_,_,_,_,_,_,_,_,_,_,_,_,_,_,_,_,_]) rfl ?_
      refine sw_det (met_none rfl) (fun h_ H_ => exd_move (v := .int .i64 (day)) rfl) (tm' := [_,_,_,_,_,_,_,_,_,_,_,_,_,_,_,_,_,_,_,_,_,_,_,_,_,_,_,_,_,_,_,_,_,_]) rfl ?_
      refine sw_det (met_none rfl) (fun h_ H_ => exd_indexAddr Try.underlying68 tS72 (sl_ne a11 n cp12 (((show Days _ _ _ (dryOf size start ds) from D14).mono le18).ne (by omega))) rfl (by omega) (by omega) (a' := (adr a11).add ((day).toNat * 3)) rfl) (tm' := [_,_,_,_,_,_,_,_,_,_,_,_,_,_,_,_,_,_,_,_,_,_,_,_,_,_,_,_,_,_,_,_,_,_]) rfl ?_
      refine sw_det (met_none rfl) (fun h_ H_ => exd_fieldAddr tF72_1 rfl (a' := ((adr a11).add ((day).toNat * 3)).add 1) rfl) (tm' := [_,_,_,_,_,_,_,_,_,_,_,_,_,_,_,_,_,_,_,_,_,_,_,_,_,_,_,_,_,_,_,_,_,_]) rfl ?_
      refine sw_det (met_none rfl) (fun h_ H_ => exd_load_per H_ tA3 rfl (v := .int .i64 (((dryOf size start ds).getD ((day).toNat) dz).hi)) (((show Days _ _ _ (dryOf size start ds) from D14).mono le18).hi (by omega))) (tm' := [_,_,_,_,_,_,_,_,_,_,_,_,_,_,_,_,_,_,_,_,_,_,_,_,_,_,_,_,_,_,_,_,_,_]) rfl ?_
      exact sw_nil rfl rfl
    refine rl_det (met_none rfl) (fun h_ H_ => exd_build tZ36 tP36 (vs := [(0, .int .i64 (((wetOf size start ds).getD ((day).toNat) dz).hi)), (1, .int .i64 (((dryOf size start ds).getD ((day).toNat) dz).hi))]) rfl (cells := #[.int .i64 (((wetOf size start ds).getD ((day).toNat) dz).hi), .int .i64 (((dryOf size start ds).getD ((day).toNat) dz).hi)]) rfl) (tm' := [_,_,_,_,_,_,_,_,_,_,_,_,_,_,_,_,_,_,_,_,_,_,_,_,_,_,_,_,_,_,_,_,_,_]) rfl ?_
    refine rl_store (met_none rfl) tS36 rfl (v := .agg #[.int .i64 (((wetOf size start ds).getD ((day).toNat) dz).hi), .int .i64 (((dryOf size start ds).getD ((day).toNat) dz).hi)]) rfl (i := 0) rfl rfl rfl (Nat.le_of_ble_eq_true rfl) (cs2 := [.int .i64 (((wetOf size start ds).getD ((day).toNat) dz).hi), .int .i64 (((dryOf size start ds).getD ((day).toNat) dz).hi)]) rfl (rl_own (L' := [(b2, .cells #[.int .i64 (((wetOf size start ds).getD ((day).toNat) dz).hi), .int .i64 (((dryOf size start ds).getD ((day).toNat) dz).hi)] 36 (0, 0)), (b1, .cells #[.int .i64 (size), .int .i64 (start), .slice a n c] 24 (0, 0))]) rfl ?_)
    refine rl_det (met_none rfl) (fun h_ H_ => exd_assign (v := .int .i64 0) rfl) (tm' := _::_::_::_::_::_::_) rfl ?_
    refine rl_end ?_
    refine fl_ret Try.func41 rfl (vs := [.agg #[.int .i64 (((wetOf size start ds).getD ((day).toNat) dz).hi), .int .i64 (((dryOf size start ds).getD ((day).toNat) dz).hi)], .int .i64 0]) (fun h_ H_ => ⟨.agg #[.int .i64 (((wetOf size start ds).getD ((day).toNat) dz).hi), .int .i64 (((dryOf size start ds).getD ((day).toNat) dz).hi)], _, rfl, (wpS_bind (wpS_pure (wpS_loadVarN tA36 tS36 (vs := [.int .i64 (((wetOf size start ds).getD ((day).toNat) dz).hi), .int .i64 (((dryOf size start ds).getD ((day).toNat) dz).hi)]) rfl (fun j_ v_ e_ => by rw [add_mk]; exact H_.ocell (i := 0) rfl (by simpa using e_)) ⟨rfl, rfl⟩))), ⟨.int .i64 0, _, rfl, rfl, rfl⟩⟩) (v := .tuple #[.agg #[.int .i64 (((wetOf size start ds).getD ((day).toNat) dz).hi), .int .i64 (((dryOf size start ds).getD ((day).toNat) dz).hi)], .int .i64 0]) rfl ?_
    exact fun h_ H_ => K _ _ ⟨by unfold lackR; rw [if_pos h0], H_.kept⟩
theorem c43 (h : Heap) (p : PHeap) (hp : Per p h) (size start : Int) (a : Option Addr) (n c : Nat) (ds : List Day) (D : Days p a n ds) (hn : n ≤ 40) (day : Int) : CallsX Try.prog (.main true) 43 #[.agg #[.int .i64 (size), .int .i64 (start), .slice a n c], .int .i64 (day)] h fun v h' => v = .tuple #[.agg #[.int .i64 (overR size start ds day).1.1, .int .i64 (overR size start ds day).1.2], .int .i64 (overR size start ds day).2] ∧ Keep h h' := by
  refine calls_intro (Φ := fun h_ => St h [] p h_ []) Try.func43 rfl (tm := [_, _, _, _, _, _, _, _, _, _, _, _, _, _, _, _, _, _, _, _, _, _, _, _, _, _, _, _, _, _, _, _, _, _]) rfl ?_ (St.start h _ hp)
  intro c₀ cs Stop K
  have hl := D.len
  refine fl_seq ?_
  refine rl_start ?_
  refine rl_box (met_none rfl) (v := .agg #[.int .i64 (size), .int .i64 (start), .slice a n c]) rfl fun b1 => rl_own (L' := [(b1, .cells #[.int .i64 (size), .int .i64 (start), .slice a n c] 24 (0, 0))]) rfl ?_
  refine rl_norm (tm' := _::_::_::_) rfl ?_
  refine rl_alloc (met_none rfl) tZ36 rfl fun b2 => rl_own (L' := [(b2, .cells #[.int .i64 0, .int .i64 0] 36 (0, 0)), (b1, .cells #[.int .i64 (size), .int .i64 (start), .slice a n c] 24 (0, 0))]) rfl ?_
  refine rl_norm (tm' := _::_::_::_::_::_) rfl ?_
  refine rl_det (met_none rfl) (fun h_ H_ => exd_assign (v := .int .i64 0) rfl) (tm' := _::_::_::_::_::_::_) rfl ?_
  refine rl_end ?_
  refine fl_seq ?_
  refine fl_seq ?_
  refine fl_drawn 4 [[], [], [], [1, 2], [], []] mixed (by kernel_rfl) (Nat.le_of_ble_eq_true rfl) (tmF := [.agg #[.int .i64 (size), .int .i64 (start), .slice a n c], .int .i64 (day), .pointer (some ⟨b1, 0, none⟩), undef, .pointer (some ⟨b2, 0, none⟩), .int .i64 0, undef, undef, undef, .agg #[.int .i64 (size), .int .i64 (start), .slice a n c], .agg #[.int .i64 (size), .int .i64 (start), .slice a n c], .int .i64 (day), .bool (decide (IsDay ds day)), undef, undef, undef, undef, undef, undef, undef, undef, undef, undef, undef, undef, undef, undef, undef, undef, undef, undef, undef, undef, undef]) ?_ ?_
  · refine sw_det (met_none rfl) (fun h_ H_ => exd_loadN_own H_ tA24 tS24 rfl (i := 1) rfl (vs := [.int .i64 (size), .int .i64 (start), .slice a n c]) rfl rfl) (tm' := _::_::_::_::_::_::_::_::_::_::_) rfl ?_
    refine sw_det (met_none rfl) (fun h_ H_ => exd_loadN_own H_ tA24 tS24 rfl (i := 1) rfl (vs := [.int .i64 (size), .int .i64 (start), .slice a n c]) rfl rfl) (tm' := _::_::_::_::_::_::_::_::_::_::_::_) rfl ?_
    refine sw_det (met_none rfl) (fun h_ H_ => exd_move (v := .int .i64 (day)) rfl) (tm' := _::_::_::_::_::_::_::_::_::_::_::_::_) rfl ?_
    refine sw_call (met_none rfl) (first := []) (cap := []) rfl rfl fC66 (fun h_ H_ => (c66 (.main true) _ _ (fun b_ o_ e_ => H_.per b_ o_ e_) (size) (start) _ _ _ _ D (by omega) day).mono fun v_ h2_ ⟨e_, k_⟩ => ⟨e_, H_.call k_⟩) (tm' := _::_::_::_::_::_::_::_::_::_::_::_::_::_) rfl ?_
    exact sw_nil rfl rfl
  refine rl_calld (met_none rfl) (first := []) (cap := []) rfl rfl fC65 (fun h_ H_ => c65 (.main true) _ _ (fun b_ o_ e_ => H_.per b_ o_ e_) (size) (start) _ _ _ _ D (by omega) (decide (IsDay ds day))) (tm' := _::_::_::_::_::_::_::_::_::_::_::_::_::_::_) rfl ?_
  refine rl_det (met_none rfl) (fun h_ H_ => exd_assign (v := .int .i64 (askd (size) (start) ds (decide (IsDay ds day)))) rfl) (tm' := _::_::_::_::_::_::_::_) rfl ?_
  refine rl_end ?_
  refine fl_seq ?_
  refine rl_start ?_
  refine rl_det (met_none rfl) (fun h_ H_ => exd_move (v := .int .i64 (askd (size) (start) ds (decide (IsDay ds day)))) rfl) (tm' := _::_::_::_::_::_::_::_::_::_::_::_::_::_::_::_) rfl ?_
  refine rl_det (met_none rfl) (fun h_ H_ => exd_neq rfl rfl) (tm' := _::_::_::_::_::_::_::_::_::_::_::_::_::_::_::_::_) rfl ?_
  refine rl_end ?_
  by_cases c3 : askd (size) (start) ds (decide (IsDay ds day)) ≠ 0
  · refine fl_then rfl (decide_eq_true c3) ?_
    refine fl_seq ?_
    refine rl_start ?_
    refine rl_det (met_none rfl) (fun h_ H_ => exd_build tZ36 tP36 (vs := []) rfl (cells := #[.int .i64 0, .int .i64 0]) rfl) (tm' := _::_::_::_::_::_::_::_::_::_::_::_::_::_::_::_::_::_) rfl ?_
    refine rl_det (met_none rfl) (fun h_ H_ => exd_move (v := .int .i64 (askd (size) (start) ds (decide (IsDay ds day)))) rfl) (tm' := _::_::_::_::_::_::_::_::_::_::_::_::_::_::_::_::_::_::_) rfl ?_
    refine rl_store (met_none rfl) tS36 rfl (v := .agg #[.int .i64 0, .int .i64 0]) rfl (i := 0) rfl rfl rfl (Nat.le_of_ble_eq_true rfl) (cs2 := [.int .i64 0, .int .i64 0]) rfl (rl_own (L' := [(b2, .cells #[.int .i64 0, .int .i64 0] 36 (0, 0)), (b1, .cells #[.int .i64 (size), .int .i64 (start), .slice a n c] 24 (0, 0))]) rfl ?_)
    refine rl_det (met_none rfl) (fun h_ H_ => exd_assign (v := .int .i64 (askd (size) (start) ds (decide (IsDay ds day)))) rfl) (tm' := _::_::_::_::_::_::_) rfl ?_
    refine rl_end ?_
    refine fl_ret Try.func43 rfl (vs := [.agg #[.int .i64 0, .int .i64 0], .int .i64 (askd (size) (start) ds (decide (IsDay ds day)))]) (fun h_ H_ => ⟨.agg #[.int .i64 0, .int .i64 0], _, rfl, (wpS_bind (wpS_pure (wpS_loadVarN tA36 tS36 (vs := [.int .i64 0, .int .i64 0]) rfl (fun j_ v_ e_ => by rw [add_mk]; exact H_.ocell (i := 0) rfl (by simpa using e_)) ⟨rfl, rfl⟩))), ⟨.int .i64 (askd (size) (start) ds (decide (IsDay ds day))), _, rfl, rfl, rfl⟩⟩) (v := .tuple #[.agg #[.int .i64 0, .int .i64 0], .int .i64 (askd (size) (start) ds (decide (IsDay ds day)))]) rfl ?_
    exact fun h_ H_ => K _ _ ⟨by unfold overR; rw [if_neg ‹_›], H_.kept⟩
  · refine fl_else rfl (decide_eq_false c3) ?_
    refine fl_skip ?_
    refine fl_seq ?_
    have h0 : askd size start ds (decide (IsDay ds day)) = 0 := by omega
    have hOk : Ok size start ds := (askd_zero.1 h0).1
    have hday : IsDay ds day := of_decide_eq_true (askd_zero.1 h0).2
    have hd0 := hday.1; have hd1 := hday.2
    refine rl_start ?_
    refine rl_det (met_none rfl) (fun h_ H_ => exd_loadN_own H_ tA24 tS24 rfl (i := 1) rfl (vs := [.int .i64 (size), .int .i64 (start), .slice a n c]) rfl rfl) (tm' := _::_::_::_::_::_::_::_::_::_::_::_::_::_::_::_::_::_::_::_::_) rfl ?_
    refine rl_own (L' := ([(b2, .cells #[.int .i64 0, .int .i64 0] 36 (0, 0)), (b1, .cells #[.int .i64 (size), .int .i64 (start), .slice a n c] 24 (0, 0))] : Pcs) ++ []) rfl ?_
    refine rl_call (met_none rfl) (first := []) (cap := []) rfl rfl fC68 (R := fun v_ h_ => ∃ w4 : Value, ∃ w5 : Value, ∃ X6 : Pcs, ∃ X7 : Pcs, v_ = .tuple #[w4, w5] ∧ (OwnS 72 3 w4 (dcs (dryOf size start ds)) X6) ∧ (OwnS 72 3 w5 (dcs (wetOf size start ds)) X7) ∧ St h [] p h_ (([(b2, .cells #[.int .i64 0, .int .i64 0] 36 (0, 0)), (b1, .cells #[.int .i64 (size), .int .i64 (start), .slice a n c] 24 (0, 0))] : Pcs) ++ ((X6 ++ (X7 ++ [])) ++ []))) (fun h_ H_ => (c68b _ _ (fun b_ o_ e_ => H_.per b_ o_ e_) (size) (start) _ _ _ _ D (by omega) hOk).mono fun v_ h2_ ⟨w4, w5, X6, X7, e_, o8, o9, N_⟩ => ⟨w4, w5, X6, X7, e_, o8, o9, H_.callNA N_⟩) fun v_ => ?_
    refine rl_ex fun w4 => rl_ex fun w5 => rl_ex fun X6 => rl_ex fun X7 => rl_and fun ev_ => rl_and fun o8 => rl_and fun o9 => ?_
    have ev_ := ev_.symm; subst ev_
    refine rl_own (L' := ([(b2, .cells #[.int .i64 0, .int .i64 0] 36 (0, 0)), (b1, .cells #[.int .i64 (size), .int .i64 (start), .slice a n c] 24 (0, 0))] : Pcs) ++ (X6 ++ (X7 ++ []))) (by simp) ?_
    refine rl_norm (tm' := _::_::_::_::_::_::_::_::_::_::_::_::_::_::_::_::_::_::_::_::_::_) rfl ?_
    refine rl_det (met_none rfl) (fun h_ H_ => exd_move (v := .tuple #[w4, w5]) rfl) (tm' := _::_::_::_::_::_::_::_::_::_::_::_::_::_::_::_::_::_::_::_) rfl ?_
    refine rl_det (met_none rfl) (fun h_ H_ => exd_extract rfl (v := w4) rfl) (tm' := _::_::_::_::_::_::_::_::_::_::_::_::_::_::_::_::_::_::_::_::_::_::_) rfl ?_
    refine rl_det (met_none rfl) (fun h_ H_ => exd_extract rfl (v := w5) rfl) (tm' := [_,_,_,_,_,_,_,_,_,_,_,_,_,_,_,_,_,_,_,_,_,_,_,_,_,_,_,_,_,_,_,_,_,_]) rfl ?_
    refine rl_det (met_none rfl) (fun h_ H_ => exd_assign (v := w4) rfl) (tm' := _::_::_::_::_::_::_::_::_) rfl ?_
    refine rl_det (met_none rfl) (fun h_ H_ => exd_assign (v := w5) rfl) (tm' := _::_::_::_::_::_::_::_::_::_) rfl ?_
    refine rl_end ?_
    refine fl_seq ?_
    refine rs_lastN (A := ([(b2, .cells #[.int .i64 0, .int .i64 0] 36 (0, 0)), (b1, .cells #[.int .i64 (size), .int .i64 (start), .slice a n c] 24 (0, 0))] : Pcs)) o8 (show (dcs (dryOf size start ds)).length = n by rw [dcs_length, dryOf_length]; exact hl) fun p10 a11 cp12 le13 ev_ D14 => ?_
    subst ev_
    refine rs_lastN (A := ([(b2, .cells #[.int .i64 0, .int .i64 0] 36 (0, 0)), (b1, .cells #[.int .i64 (size), .int .i64 (start), .slice a n c] 24 (0, 0))] : Pcs)) o9 (show (dcs (wetOf size start ds)).length = n by rw [dcs_length, wetOf_length]; exact hl) fun p15 a16 cp17 le18 ev_ D19 => ?_
    subst ev_
    refine rs_own (L' := [(b2, .cells #[.int .i64 0, .int .i64 0] 36 (0, 0)), (b1, .cells #[.int .i64 (size), .int .i64 (start), .slice a n c] 24 (0, 0))]) rfl ?_
    refine fl_drawn 10 [[], [], [0, 1], [0, 1, 2], [0, 1, 2, 3], [], [], [5, 6], [5, 6, 7], [5, 6, 7, 8], [], [], []] mixed (by kernel_rfl) (Nat.le_of_ble_eq_true rfl) (tmF := [.agg #[.int .i64 (size), .int .i64 (start), .slice a n c], .int .i64 (day), .pointer (some ⟨b1, 0, none⟩), undef, .pointer (some ⟨b2, 0, none⟩), .int .i64 0, .int .i64 (askd (size) (start) ds (decide (IsDay ds day))), .slice a11 n cp12, .slice a16 n cp17, .agg #[.int .i64 (size), .int .i64 (start), .slice a n c], .agg #[.int .i64 (size), .int .i64 (start), .slice a n c], .int .i64 (day), .bool (decide (IsDay ds day)), .int .i64 (askd (size) (start) ds (decide (IsDay ds day))), .int .i64 (askd (size) (start) ds (decide (IsDay ds day))), .bool (decide (askd (size) (start) ds (decide (IsDay ds day)) ≠ 0)), undef, undef, .tuple #[.slice a11 n cp12, .slice a16 n cp17], .agg #[.int .i64 (size), .int .i64 (start), .slice a n c], .tuple #[.slice a11 n cp12, .slice a16 n cp17], .slice a11 n cp12, .slice a16 n cp17, .slice a11 n cp12, .int .i64 (day), .pointer (some ((adr a11).add ((day).toNat * 3))), .pointer (some (((adr a11).add ((day).toNat * 3)).add 2)), .int .i64 (((dryOf size start ds).getD ((day).toNat) dz).want), .slice a16 n cp17, .int .i64 (day), .pointer (some ((adr a16).add ((day).toNat * 3))), .pointer (some (((adr a16).add ((day).toNat * 3)).add 2)), .int .i64 (((wetOf size start ds).getD ((day).toNat) dz).want), undef]) ?_ ?_
    · refine sw_det (met_none rfl) (fun h_ H_ => exd_move (v := .slice a11 n cp12) rfl) (tm' := [_,_,_,_,_,_,_,_,_,_,_,_,_,_,_,_,_,_,_,_,_,_,_,_,_,_,_,_,_,_,_,_,_,_]) rfl ?_
      refine sw_det (met_none rfl) (fun h_ H_ => exd_move (v := .int .i64 (day)) rfl) (tm' := [_,_,_,_,_,_,_,_,_,_,_,_,_,_,_,_,_,_,_,_,_,_,_,_,_,_,_,_,_,_,_,_,_,_]) rfl ?_
      refine sw_det (met_none rfl) (fun h_ H_ => exd_indexAddr Try.underlying68 tS72 (sl_ne a11 n cp12 (((show Days _ _ _ (dryOf size start ds) from D14).mono le18).ne (by omega))) rfl (by omega) (by omega) (a' := (adr a11).add ((day).toNat * 3)) rfl) (tm' := [_,_,_,_,_,_,_,_,_,_,_,_,_,_,_,_,_,_,_,_,_,_,_,_,_,_,_,_,_,_,_,_,_,_]) rfl ?_
      refine sw_det (met_none rfl) (fun h_ H_ => exd_fieldAddr tF72_2 rfl (a' := ((adr a11).add ((day).toNat * 3)).add 2) rfl) (tm' := [_,_,_,_,_,_,_,_,_,_,_,_,_,_,_,_,_,_,_,_,_,_,_,_,_,_,_,_,_,_,_,_,_,_]) rfl ?_
      refine sw_det (met_none rfl) (fun h_ H_ => exd_load_per H_ tA3 rfl (v := .int .i64 (((dryOf size start ds).getD ((day).toNat) dz).want)) (((show Days _ _ _ (dryOf size start ds) from D14).mono le18).want (by omega))) (tm' := [_,_,_,_,_,_,_,_,_,_,_,_,_,_,_,_,_,_,_,_,_,_,_,_,_,_,_,_,_,_,_,_,_,_]) rfl ?_
      refine sw_det (met_none rfl) (fun h_ H_ => exd_move (v := .slice a16 n cp17) rfl) (tm' := [_,_,_,_,_,_,_,_,_,_,_,_,_,_,_,_,_,_,_,_,_,_,_,_,_,_,_,_,_,_,_,_,_,_]) rfl ?_
      refine sw_det (met_none rfl) (fun h_ H_ => exd_move (v := .int .i64 (day)) rfl) (tm' := [_,_,_,_,_,_,_,_,_,_,_,_,_,_,_,_,_,_,_,_,_,_,_,_,_,_,_,_,_,_,_,_,_,_]) rfl ?_
      refine sw_det (met_none rfl) (fun h_ H_ => exd_indexAddr Try.underlying68 tS72 (sl_ne a16 n cp17 ((show Days _ _ _ (wetOf size start ds) from D19).ne (by omega))) rfl (by omega) (by omega) (a' := (adr a16).add ((day).toNat * 3)) rfl) (tm' := [_,_,_,_,_,_,_,_,_,_,_,_,_,_,_,_,_,_,_,_,_,_,_,_,_,_,_,_,_,_,_,_,_,_]) rfl ?_
      refine sw_det (met_none rfl) (fun h_ H_ => exd_fieldAddr tF72_2 rfl (a' := ((adr a16).add ((day).toNat * 3)).add 2) rfl) (tm' := [_,_,_,_,_,_,_,_,_,_,_,_,_,_,_,_,_,_,_,_,_,_,_,_,_,_,_,_,_,_,_,_,_,_]) rfl ?_
      refine sw_det (met_none rfl) (fun h_ H_ => exd_load_per H_ tA3 rfl (v := .int .i64 (((wetOf size start ds).getD ((day).toNat) dz).want)) ((show Days _ _ _ (wetOf size start ds) from D19).want (by omega))) (tm' := [_,_,_,_,_,_,_,_,_,_,_,_,_,_,_,_,_,_,_,_,_,_,_,_,_,_,_,_,_,_,_,_,_,_]) rfl ?_
      exact sw_nil rfl rfl
    refine rl_det (met_none rfl) (fun h_ H_ => exd_build tZ36 tP36 (vs := [(0, .int .i64 (((dryOf size start ds).getD ((day).toNat) dz).want)), (1, .int .i64 (((wetOf size start ds).getD ((day).toNat) dz).want))]) rfl (cells := #[.int .i64 (((dryOf size start ds).getD ((day).toNat) dz).want), .int .i64 (((wetOf size start ds).getD ((day).toNat) dz).want)]) rfl) (tm' := [_,_,_,_,_,_,_,_,_,_,_,_,_,_,_,_,_,_,_,_,_,_,_,_,_,_,_,_,_,_,_,_,_,_]) rfl ?_
    refine rl_store (met_none rfl) tS36 rfl (v := .agg #[.int .i64 (((dryOf size start ds).getD ((day).toNat) dz).want), .int .i64 (((wetOf size start ds).getD ((day).toNat) dz).want)]) rfl (i := 0) rfl rfl rfl (Nat.le_of_ble_eq_true rfl) (cs2 := [.int .i64 (((dryOf size start ds).getD ((day).toNat) dz).want), .int .i64 (((wetOf size start ds).getD ((day).toNat) dz).want)]) rfl (rl_own (L' := [(b2, .cells #[.int .i64 (((dryOf size start ds).getD ((day).toNat) dz).want), .int .i64 (((wetOf size start ds).getD ((day).toNat) dz).want)] 36 (0, 0)), (b1, .cells #[.int .i64 (size), .int .i64 (start), .slice a n c] 24 (0, 0))]) rfl ?_)
    refine rl_det (met_none rfl) (fun h_ H_ => exd_assign (v := .int .i64 0) rfl) (tm' := _::_::_::_::_::_::_) rfl ?_
    refine rl_end ?_
    refine fl_ret Try.func43 rfl (vs := [.agg #[.int .i64 (((dryOf size start ds).getD ((day).toNat) dz).want), .int .i64 (((wetOf size start ds).getD ((day).toNat) dz).want)], .int .i64 0]) (fun h_ H_ => ⟨.agg #[.int .i64 (((dryOf size start ds).getD ((day).toNat) dz).want), .int .i64 (((wetOf size start ds).getD ((day).toNat) dz).want)], _, rfl, (wpS_bind (wpS_pure (wpS_loadVarN tA36 tS36 (vs := [.int .i64 (((dryOf size start ds).getD ((day).toNat) dz).want), .int .i64 (((wetOf size start ds).getD ((day).toNat) dz).want)]) rfl (fun j_ v_ e_ => by rw [add_mk]; exact H_.ocell (i := 0) rfl (by simpa using e_)) ⟨rfl, rfl⟩))), ⟨.int .i64 0, _, rfl, rfl, rfl⟩⟩) (v := .tuple #[.agg #[.int .i64 (((dryOf size start ds).getD ((day).toNat) dz).want), .int .i64 (((wetOf size start ds).getD ((day).toNat) dz).want)], .int .i64 0]) rfl ?_
    exact fun h_ H_ => K _ _ ⟨by unfold overR; rw [if_pos h0], H_.kept⟩
theorem c55 (h : Heap) (p : PHeap) (hp : Per p h) (size start : Int) (a : Option Addr) (n c : Nat) (ds : List Day) (D : Days p a n ds) (hn : n ≤ 40) : CallsX Try.prog (.main true) 55 #[.agg #[.int .i64 (size), .int .i64 (start), .slice a n c]] h fun v h' => v = .tuple #[.int .i64 (dryR size start ds).1, .int .i64 (dryR size start ds).2] ∧ Keep h h' := by
  refine calls_intro (Φ := fun h_ => St h [] p h_ []) Try.func55 rfl (tm := [_, _, _, _, _, _, _, _, _, _, _, _, _, _, _, _, _, _, _, _, _, _]) rfl ?_ (St.start h _ hp)
  intro c₀ cs Stop K
  have hl := D.len
  refine fl_seq ?_
  refine rl_start ?_
  refine rl_box (met_none rfl) (v := .agg #[.int .i64 (size), .int .i64 (start), .slice a n c]) rfl fun b1 => rl_own (L' := [(b1, .cells #[.int .i64 (size), .int .i64 (start), .slice a n c] 24 (0, 0))]) rfl ?_
  refine rl_norm (tm' := _::_::_) rfl ?_
  refine rl_det (met_none rfl) (fun h_ H_ => exd_assign (v := .int .i64 0) rfl) (tm' := _::_::_::_) rfl ?_
  refine rl_det (met_none rfl) (fun h_ H_ => exd_assign (v := .int .i64 0) rfl) (tm' := _::_::_::_::_) rfl ?_
  refine rl_end ?_
  refine fl_seq ?_
  refine fl_seq ?_
  refine rl_start ?_
  refine rl_det (met_none rfl) (fun h_ H_ => exd_loadN_own H_ tA24 tS24 rfl (i := 0) rfl (vs := [.int .i64 (size), .int .i64 (start), .slice a n c]) rfl rfl) (tm' := _::_::_::_::_::_::_::_::_) rfl ?_
  refine rl_calld (met_none rfl) (first := []) (cap := []) rfl rfl fC32 (fun h_ H_ => c32 (.main true) _ _ (fun b_ o_ e_ => H_.per b_ o_ e_) (size) (start) _ _ _ _ D (by omega)) (tm' := _::_::_::_::_::_::_::_::_::_) rfl ?_
  refine rl_det (met_none rfl) (fun h_ H_ => exd_assign (v := .int .i64 (chk (size) (start) ds)) rfl) (tm' := _::_::_::_::_::_) rfl ?_
  refine rl_end ?_
  refine fl_seq ?_
  refine rl_start ?_
  refine rl_det (met_none rfl) (fun h_ H_ => exd_move (v := .int .i64 (chk (size) (start) ds)) rfl) (tm' := _::_::_::_::_::_::_::_::_::_::_) rfl ?_
  refine rl_det (met_none rfl) (fun h_ H_ => exd_neq rfl rfl) (tm' := _::_::_::_::_::_::_::_::_::_::_::_) rfl ?_
  refine rl_end ?_
  by_cases c2 : chk (size) (start) ds ≠ 0
  · refine fl_then rfl (decide_eq_true c2) ?_
    refine fl_seq ?_
    refine rl_start ?_
    refine rl_det (met_none rfl) (fun h_ H_ => exd_move (v := .int .i64 (chk (size) (start) ds)) rfl) (tm' := _::_::_::_::_::_::_::_::_::_::_::_::_) rfl ?_
    refine rl_det (met_none rfl) (fun h_ H_ => exd_assign (v := .int .i64 0) rfl) (tm' := _::_::_::_) rfl ?_
    refine rl_det (met_none rfl) (fun h_ H_ => exd_assign (v := .int .i64 (chk (size) (start) ds)) rfl) (tm' := _::_::_::_::_) rfl ?_
    refine rl_end ?_
    refine fl_ret Try.func55 rfl (vs := [.int .i64 0, .int .i64 (chk (size) (start) ds)]) (fun h_ H_ => ⟨.int .i64 0, _, rfl, rfl, ⟨.int .i64 (chk (size) (start) ds), _, rfl, rfl, rfl⟩⟩) (v := .tuple #[.int .i64 0, .int .i64 (chk (size) (start) ds)]) rfl ?_
    have hOk : ¬ Ok size start ds := fun e => absurd (chk_yes e) ‹_›
    exact fun h_ H_ => K _ _ ⟨by unfold dryR; rw [if_neg hOk, chk_no hOk], H_.kept⟩
  · refine fl_else rfl (decide_eq_false c2) ?_
    refine fl_skip ?_
    refine fl_seq ?_
    have hOk : Ok size start ds := chk_zero.1 (by omega)
    refine rl_start ?_
    refine rl_det (met_none rfl) (fun h_ H_ => exd_loadN_own H_ tA24 tS24 rfl (i := 0) rfl (vs := [.int .i64 (size), .int .i64 (start), .slice a n c]) rfl rfl) (tm' := _::_::_::_::_::_::_::_::_::_::_::_::_::_::_) rfl ?_
    refine rl_own (L' := ([(b1, .cells #[.int .i64 (size), .int .i64 (start), .slice a n c] 24 (0, 0))] : Pcs) ++ []) rfl ?_
    refine rl_call (met_none rfl) (first := []) (cap := []) rfl rfl fC68 (R := fun v_ h_ => ∃ w3 : Value, ∃ w4 : Value, ∃ X5 : Pcs, ∃ X6 : Pcs, v_ = .tuple #[w3, w4] ∧ (OwnS 72 3 w3 (dcs (dryOf size start ds)) X5) ∧ (OwnS 72 3 w4 (dcs (wetOf size start ds)) X6) ∧ St h [] p h_ (([(b1, .cells #[.int .i64 (size), .int .i64 (start), .slice a n c] 24 (0, 0))] : Pcs) ++ ((X5 ++ (X6 ++ [])) ++ []))) (fun h_ H_ => (c68b _ _ (fun b_ o_ e_ => H_.per b_ o_ e_) (size) (start) _ _ _ _ D (by omega) hOk).mono fun v_ h2_ ⟨w3, w4, X5, X6, e_, o7, o8, N_⟩ => ⟨w3, w4, X5, X6, e_, o7, o8, H_.callNA N_⟩) fun v_ => ?_
    refine rl_ex fun w3 => rl_ex fun w4 => rl_ex fun X5 => rl_ex fun X6 => rl_and fun ev_ => rl_and fun o7 => rl_and fun o8 => ?_
    have ev_ := ev_.symm; subst ev_
    refine rl_own (L' := ([(b1, .cells #[.int .i64 (size), .int .i64 (start), .slice a n c] 24 (0, 0))] : Pcs) ++ (X5 ++ (X6 ++ []))) (by simp) ?_
    refine rl_norm (tm' := [_,_,_,_,_,_,_,_,_,_,_,_,_,_,_,_,_,_,_,_,_,_]) rfl ?_
    refine rl_det (met_none rfl) (fun h_ H_ => exd_move (v := .tuple #[w3, w4]) rfl) (tm' := _::_::_::_::_::_::_::_::_::_::_::_::_::_) rfl ?_
    refine rl_det (met_none rfl) (fun h_ H_ => exd_extract rfl (v := w3) rfl) (tm' := [_,_,_,_,_,_,_,_,_,_,_,_,_,_,_,_,_,_,_,_,_,_]) rfl ?_
    refine rl_det (met_none rfl) (fun h_ H_ => exd_extract rfl (v := w4) rfl) (tm' := [_,_,_,_,_,_,_,_,_,_,_,_,_,_,_,_,_,_,_,_,_,_]) rfl ?_
    refine rl_det (met_none rfl) (fun h_ H_ => exd_assign (v := w3) rfl) (tm' := _::_::_::_::_::_::_) rfl ?_
    refine rl_det (met_none rfl) (fun h_ H_ => exd_assign (v := w4) rfl) (tm' := _::_::_::_::_::_::_::_) rfl ?_
    refine rl_end ?_
    refine fl_seq ?_
    refine rs_lastN (A := ([(b1, .cells #[.int .i64 (size), .int .i64 (start), .slice a n c] 24 (0, 0))] : Pcs)) o7 (show (dcs (dryOf size start ds)).length = n by rw [dcs_length, dryOf_length]; exact hl) fun p9 a10 cp11 le12 ev_ D13 => ?_
    subst ev_
    refine rl_start ?_
    refine rl_det (met_none rfl) (fun h_ H_ => exd_move (v := .slice a10 n cp11) rfl) (tm' := [_,_,_,_,_,_,_,_,_,_,_,_,_,_,_,_,_,_,_,_,_,_]) rfl ?_
    refine rl_calld (met_none rfl) (first := []) (cap := []) rfl rfl fC81 (fun h_ H_ => c81 (.main true) _ _ (fun b_ o_ e_ => H_.per b_ o_ e_) (.func (.func 84) #[] #[]) _ _ _ _ (show Days _ _ _ (dryOf size start ds) from D13) (by omega) lackDay (fun h_ hp_ i_ hi_ => callv_of fC84 (c84 (.main true) _ _ _ _))) (tm' := [_,_,_,_,_,_,_,_,_,_,_,_,_,_,_,_,_,_,_,_,_,_]) rfl ?_
    refine rl_calld (met_none rfl) (first := []) (cap := []) rfl rfl fC83 (fun h_ H_ => c83' (.main true) _ (idxF lackDay (dryOf size start ds))) (tm' := [_,_,_,_,_,_,_,_,_,_,_,_,_,_,_,_,_,_,_,_,_,_]) rfl ?_
    refine rl_det (met_none rfl) (fun h_ H_ => exd_extract rfl (v := .int .i64 ((noneR (idxF lackDay (dryOf size start ds))).1)) rfl) (tm' := [_,_,_,_,_,_,_,_,_,_,_,_,_,_,_,_,_,_,_,_,_,_]) rfl ?_
    refine rl_det (met_none rfl) (fun h_ H_ => exd_extract rfl (v := .int .i64 ((noneR (idxF lackDay (dryOf size start ds))).2)) rfl) (tm' := [_,_,_,_,_,_,_,_,_,_,_,_,_,_,_,_,_,_,_,_,_,_]) rfl ?_
    refine rl_det (met_none rfl) (fun h_ H_ => exd_assign (v := .int .i64 ((noneR (idxF lackDay (dryOf size start ds))).1)) rfl) (tm' := _::_::_::_) rfl ?_
    refine rl_det (met_none rfl) (fun h_ H_ => exd_assign (v := .int .i64 ((noneR (idxF lackDay (dryOf size start ds))).2)) rfl) (tm' := _::_::_::_::_) rfl ?_
    refine rl_end ?_
    refine fl_ret Try.func55 rfl (vs := [.int .i64 ((noneR (idxF lackDay (dryOf size start ds))).1), .int .i64 ((noneR (idxF lackDay (dryOf size start ds))).2)]) (fun h_ H_ => ⟨.int .i64 ((noneR (idxF lackDay (dryOf size start ds))).1), _, rfl, rfl, ⟨.int .i64 ((noneR (idxF lackDay (dryOf size start ds))).2), _, rfl, rfl, rfl⟩⟩) (v := .tuple #[.int .i64 ((noneR (idxF lackDay (dryOf size start ds))).1), .int .i64 ((noneR (idxF lackDay (dryOf size start ds))).2)]) rfl ?_
    exact fun h_ H_ => K _ _ ⟨by unfold dryR; rw [if_pos hOk], H_.kept⟩
theorem c57 (h : Heap) (p : PHeap) (hp : Per p h) (size start : Int) (a : Option Addr) (n c : Nat) (ds : List Day) (D : Days p a n ds) (hn : n ≤ 40) : CallsX Try.prog (.main true) 57 #[.agg #[.int .i64 (size), .int .i64 (start), .slice a n c]] h fun v h' => v = .tuple #[.int .i64 (mustR size start ds).1, .int .i64 (mustR size start ds).2] ∧ Keep h h' := by
  refine calls_intro (Φ := fun h_ => St h [] p h_ []) Try.func57 rfl (tm := [_, _, _, _, _, _, _, _, _, _, _, _, _, _, _, _, _, _, _, _, _, _]) rfl ?_ (St.start h _ hp)
  intro c₀ cs Stop K
  have hl := D.len
  refine fl_seq ?_
  refine rl_start ?_
  refine rl_box (met_none rfl) (v := .agg #[.int .i64 (size), .int .i64 (start), .slice a n c]) rfl fun b1 => rl_own (L' := [(b1, .cells #[.int .i64 (size), .int .i64 (start), .slice a n c] 24 (0, 0))]) rfl ?_
  refine rl_norm (tm' := _::_::_) rfl ?_
  refine rl_det (met_none rfl) (fun h_ H_ => exd_assign (v := .int .i64 0) rfl) (tm' := _::_::_::_) rfl ?_
  refine rl_det (met_none rfl) (fun h_ H_ => exd_assign (v := .int .i64 0) rfl) (tm' := _::_::_::_::_) rfl ?_
  refine rl_end ?_
  refine fl_seq ?_
  refine fl_seq ?_
  refine rl_start ?_
  refine rl_det (met_none rfl) (fun h_ H_ => exd_loadN_own H_ tA24 tS24 rfl (i := 0) rfl (vs := [.int .i64 (size), .int .i64 (start), .slice a n c]) rfl rfl) (tm' := _::_::_::_::_::_::_::_::_) rfl ?_
  refine rl_calld (met_none rfl) (first := []) (cap := []) rfl rfl fC32 (fun h_ H_ => c32 (.main true) _ _ (fun b_ o_ e_ => H_.per b_ o_ e_) (size) (start) _ _ _ _ D (by omega)) (tm' := _::_::_::_::_::_::_::_::_::_) rfl ?_
  refine rl_det (met_none rfl) (fun h_ H_ => exd_assign (v := .int .i64 (chk (size) (start) ds)) rfl) (tm' := _::_::_::_::_::_) rfl ?_
  refine rl_end ?_
  refine fl_seq ?_
  refine rl_start ?_
  refine rl_det (met_none rfl) (fun h_ H_ => exd_move (v := .int .i64 (chk (size) (start) ds)) rfl) (tm' := _::_::_::_::_::_::_::_::_::_::_) rfl ?_
  refine rl_det (met_none rfl) (fun h_ H_ => exd_neq rfl rfl) (tm' := _::_::_::_::_::_::_::_::_::_::_::_) rfl ?_
  refine rl_end ?_
  by_cases c2 : chk (size) (start) ds ≠ 0
  · refine fl_then rfl (decide_eq_true c2) ?_
    refine fl_seq ?_
    refine rl_start ?_
    refine rl_det (met_none rfl) (fun h_ H_ => exd_move (v := .int .i64 (chk (size) (start) ds)) rfl) (tm' := _::_::_::_::_::_::_::_::_::_::_::_::_) rfl ?_
    refine rl_det (met_none rfl) (fun h_ H_ => exd_assign (v := .int .i64 0) rfl) (tm' := _::_::_::_) rfl ?_
    refine rl_det (met_none rfl) (fun h_ H_ => exd_assign (v := .int .i64 (chk (size) (start) ds)) rfl) (tm' := _::_::_::_::_) rfl ?_
    refine rl_end ?_
    refine fl_ret Try.func57 rfl (vs := [.int .i64 0, .int .i64 (chk (size) (start) ds)]) (fun h_ H_ => ⟨.int .i64 0, _, rfl, rfl, ⟨.int .i64 (chk (size) (start) ds), _, rfl, rfl, rfl⟩⟩) (v := .tuple #[.int .i64 0, .int .i64 (chk (size) (start) ds)]) rfl ?_
    have hOk : ¬ Ok size start ds := fun e => absurd (chk_yes e) ‹_›
    exact fun h_ H_ => K _ _ ⟨by unfold mustR; rw [if_neg hOk, chk_no hOk], H_.kept⟩
  · refine fl_else rfl (decide_eq_false c2) ?_
    refine fl_skip ?_
    refine fl_seq ?_
    have hOk : Ok size start ds := chk_zero.1 (by omega)
    refine rl_start ?_
    refine rl_det (met_none rfl) (fun h_ H_ => exd_loadN_own H_ tA24 tS24 rfl (i := 0) rfl (vs := [.int .i64 (size), .int .i64 (start), .slice a n c]) rfl rfl) (tm' := _::_::_::_::_::_::_::_::_::_::_::_::_::_::_) rfl ?_
    refine rl_own (L' := ([(b1, .cells #[.int .i64 (size), .int .i64 (start), .slice a n c] 24 (0, 0))] : Pcs) ++ []) rfl ?_
    refine rl_call (met_none rfl) (first := []) (cap := []) rfl rfl fC68 (R := fun v_ h_ => ∃ w3 : Value, ∃ w4 : Value, ∃ X5 : Pcs, ∃ X6 : Pcs, v_ = .tuple #[w3, w4] ∧ (OwnS 72 3 w3 (dcs (dryOf size start ds)) X5) ∧ (OwnS 72 3 w4 (dcs (wetOf size start ds)) X6) ∧ St h [] p h_ (([(b1, .cells #[.int .i64 (size), .int .i64 (start), .slice a n c] 24 (0, 0))] : Pcs) ++ ((X5 ++ (X6 ++ [])) ++ []))) (fun h_ H_ => (c68b _ _ (fun b_ o_ e_ => H_.per b_ o_ e_) (size) (start) _ _ _ _ D (by omega) hOk).mono fun v_ h2_ ⟨w3, w4, X5, X6, e_, o7, o8, N_⟩ => ⟨w3, w4, X5, X6, e_, o7, o8, H_.callNA N_⟩) fun v_ => ?_
    refine rl_ex fun w3 => rl_ex fun w4 => rl_ex fun X5 => rl_ex fun X6 => rl_and fun ev_ => rl_and fun o7 => rl_and fun o8 => ?_
    have ev_ := ev_.symm; subst ev_
    refine rl_own (L' := ([(b1, .cells #[.int .i64 (size), .int .i64 (start), .slice a n c] 24 (0, 0))] : Pcs) ++ (X5 ++ (X6 ++ []))) (by simp) ?_
    refine rl_norm (tm' := [_,_,_,_,_,_,_,_,_,_,_,_,_,_,_,_,_,_,_,_,_,_]) rfl ?_
    refine rl_det (met_none rfl) (fun h_ H_ => exd_move (v := .tuple #[w3, w4]) rfl) (tm' := _::_::_::_::_::_::_::_::_::_::_::_::_::_) rfl ?_
    refine rl_det (met_none rfl) (fun h_ H_ => exd_extract rfl (v := w3) rfl) (tm' := [_,_,_,_,_,_,_,_,_,_,_,_,_,_,_,_,_,_,_,_,_,_]) rfl ?_
    refine rl_det (met_none rfl) (fun h_ H_ => exd_extract rfl (v := w4) rfl) (tm' := [_,_,_,_,_,_,_,_,_,_,_,_,_,_,_,_,_,_,_,_,_,_]) rfl ?_
    refine rl_det (met_none rfl) (fun h_ H_ => exd_assign (v := w3) rfl) (tm' := _::_::_::_::_::_::_) rfl ?_
    refine rl_det (met_none rfl) (fun h_ H_ => exd_assign (v := w4) rfl) (tm' := _::_::_::_::_::_::_::_) rfl ?_
    refine rl_end ?_
    refine fl_seq ?_
    refine rs_perm (List.Perm.append_left _ (List.perm_append_comm_assoc _ _ _)) ?_
    refine rs_own (L' := ([(b1, .cells #[.int .i64 (size), .int .i64 (start), .slice a n c] 24 (0, 0))] : Pcs) ++ (X6 ++ (X5 ++ []))) rfl ?_
    refine rs_lastN (A := ([(b1, .cells #[.int .i64 (size), .int .i64 (start), .slice a n c] 24 (0, 0))] : Pcs)) o8 (show (dcs (wetOf size start ds)).length = n by rw [dcs_length, wetOf_length]; exact hl) fun p9 a10 cp11 le12 ev_ D13 => ?_
    subst ev_
    refine rl_start ?_
    refine rl_det (met_none rfl) (fun h_ H_ => exd_move (v := .slice a10 n cp11) rfl) (tm' := [_,_,_,_,_,_,_,_,_,_,_,_,_,_,_,_,_,_,_,_,_,_]) rfl ?_
    refine rl_calld (met_none rfl) (first := []) (cap := []) rfl rfl fC81 (fun h_ H_ => c81 (.main true) _ _ (fun b_ o_ e_ => H_.per b_ o_ e_) (.func (.func 84) #[] #[]) _ _ _ _ (show Days _ _ _ (wetOf size start ds) from D13) (by omega) lackDay (fun h_ hp_ i_ hi_ => callv_of fC84 (c84 (.main true) _ _ _ _))) (tm' := [_,_,_,_,_,_,_,_,_,_,_,_,_,_,_,_,_,_,_,_,_,_]) rfl ?_
    refine rl_calld (met_none rfl) (first := []) (cap := []) rfl rfl fC83 (fun h_ H_ => c83' (.main true) _ (idxF lackDay (wetOf size start ds))) (tm' := [_,_,_,_,_,_,_,_,_,_,_,_,_,_,_,_,_,_,_,_,_,_]) rfl ?_
    refine rl_det (met_none rfl) (fun h_ H_ => exd_extract rfl (v := .int .i64 ((noneR (idxF lackDay (wetOf size start ds))).1)) rfl) (tm' := [_,_,_,_,_,_,_,_,_,_,_,_,_,_,_,_,_,_,_,_,_,_]) rfl ?_
    refine rl_det (met_none rfl) (fun h_ H_ => exd_extract rfl (v := .int .i64 ((noneR (idxF lackDay (wetOf size start ds))).2)) rfl) (tm' := [_,_,_,_,_,_,_,_,_,_,_,_,_,_,_,_,_,_,_,_,_,_]) rfl ?_
    refine rl_det (met_none rfl) (fun h_ H_ => exd_assign (v := .int .i64 ((noneR (idxF lackDay (wetOf size start ds))).1)) rfl) (tm' := _::_::_::_) rfl ?_
    refine rl_det (met_none rfl) (fun h_ H_ => exd_assign (v := .int .i64 ((noneR (idxF lackDay (wetOf size start ds))).2)) rfl) (tm' := _::_::_::_::_) rfl ?_
    refine rl_end ?_
    refine fl_ret Try.func57 rfl (vs := [.int .i64 ((noneR (idxF lackDay (wetOf size start ds))).1), .int .i64 ((noneR (idxF lackDay (wetOf size start ds))).2)]) (fun h_ H_ => ⟨.int .i64 ((noneR (idxF lackDay (wetOf size start ds))).1), _, rfl, rfl, ⟨.int .i64 ((noneR (idxF lackDay (wetOf size start ds))).2), _, rfl, rfl, rfl⟩⟩) (v := .tuple #[.int .i64 ((noneR (idxF lackDay (wetOf size start ds))).1), .int .i64 ((noneR (idxF lackDay (wetOf size start ds))).2)]) rfl ?_
    exact fun h_ H_ => K _ _ ⟨by unfold mustR; rw [if_pos hOk], H_.kept⟩
theorem c53 (h : Heap) (p : PHeap) (hp : Per p h) (size start : Int) (a : Option Addr) (n c : Nat) (ds : List Day) (D : Days p a n ds) (hn : n ≤ 40) (amt : Int) : CallsX Try.prog (.main true) 53 #[.agg #[.int .i64 (size), .int .i64 (start), .slice a n c], .int .i64 (amt)] h fun v h' => v = .tuple #[.agg #[.int .i64 (rightR size start ds amt).1.1, .int .i64 (rightR size start ds amt).1.2], .int .i64 (rightR size start ds amt).2] ∧ Keep h h' := by
  refine calls_intro (Φ := fun h_ => St h [] p h_ []) Try.func53 rfl (tm := [_, _, _, _, _, _, _, _, _, _, _, _, _, _, _, _, _, _, _, _, _, _, _, _, _, _, _, _, _, _, _, _, _, _, _, _, _]) rfl ?_ (St.start h _ hp)
  intro c₀ cs Stop K
  have hl := D.len
  refine fl_seq ?_
  refine rl_start ?_
  refine rl_box (met_none rfl) (v := .agg #[.int .i64 (size), .int .i64 (start), .slice a n c]) rfl fun b1 => rl_own (L' := [(b1, .cells #[.int .i64 (size), .int .i64 (start), .slice a n c] 24 (0, 0))]) rfl ?_
  refine rl_norm (tm' := _::_::_::_) rfl ?_
  refine rl_box (met_none rfl) (v := .int .i64 (amt)) rfl fun b2 => rl_own (L' := [(b2, .cells #[.int .i64 (amt)] 3 (0, 0)), (b1, .cells #[.int .i64 (size), .int .i64 (start), .slice a n c] 24 (0, 0))]) rfl ?_
  refine rl_norm (tm' := _::_::_::_::_) rfl ?_
  refine rl_alloc (met_none rfl) tZ36 rfl fun b3 => rl_own (L' := [(b3, .cells #[.int .i64 0, .int .i64 0] 36 (0, 0)), (b2, .cells #[.int .i64 (amt)] 3 (0, 0)), (b1, .cells #[.int .i64 (size), .int .i64 (start), .slice a n c] 24 (0, 0))]) rfl ?_
  refine rl_norm (tm' := _::_::_::_::_::_) rfl ?_
  refine rl_det (met_none rfl) (fun h_ H_ => exd_assign (v := .int .i64 0) rfl) (tm' := _::_::_::_::_::_::_) rfl ?_
  refine rl_end ?_
  refine fl_seq ?_
  refine fl_seq ?_
  refine fl_drawn 3 [[], [], [1], [], []] mixed (by kernel_rfl) (Nat.le_of_ble_eq_true rfl) (tmF := [.agg #[.int .i64 (size), .int .i64 (start), .slice a n c], .int .i64 (amt), .pointer (some ⟨b1, 0, none⟩), .pointer (some ⟨b2, 0, none⟩), .pointer (some ⟨b3, 0, none⟩), .int .i64 0, undef, undef, undef, undef, undef, .agg #[.int .i64 (size), .int .i64 (start), .slice a n c], .int .i64 (amt), .bool (decide (1 ≤ amt ∧ amt ≤ 999)), undef, undef, undef, undef, undef, undef, undef, undef, undef, undef, undef, undef, undef, undef, undef, undef, undef, undef, undef, undef, undef, undef, undef]) ?_ ?_
  · refine sw_det (met_none rfl) (fun h_ H_ => exd_loadN_own H_ tA24 tS24 rfl (i := 2) rfl (vs := [.int .i64 (size), .int .i64 (start), .slice a n c]) rfl rfl) (tm' := _::_::_::_::_::_::_::_::_::_::_::_::_) rfl ?_
    refine sw_det (met_none rfl) (fun h_ H_ => exd_load_own H_ tA3 rfl (i := 1) rfl (v := .int .i64 (amt)) rfl) (tm' := _::_::_::_::_::_::_::_::_::_::_::_::_::_) rfl ?_
    refine sw_call (met_none rfl) (first := []) (cap := []) rfl rfl fC70 (fun h_ H_ => (c70 (.main true) _ (amt) (1) (999)).mono fun v_ h2_ ⟨e_, k_⟩ => ⟨e_, H_.call k_⟩) (tm' := _::_::_::_::_::_::_::_::_::_::_::_::_::_::_) rfl ?_
    exact sw_nil rfl rfl
  refine rl_calld (met_none rfl) (first := []) (cap := []) rfl rfl fC65 (fun h_ H_ => c65 (.main true) _ _ (fun b_ o_ e_ => H_.per b_ o_ e_) (size) (start) _ _ _ _ D (by omega) (decide (1 ≤ amt ∧ amt ≤ 999))) (tm' := _::_::_::_::_::_::_::_::_::_::_::_::_::_::_::_) rfl ?_
  refine rl_det (met_none rfl) (fun h_ H_ => exd_assign (v := .int .i64 (askd (size) (start) ds (decide (1 ≤ amt ∧ amt ≤ 999)))) rfl) (tm' := _::_::_::_::_::_::_::_) rfl ?_
  refine rl_end ?_
  refine fl_seq ?_
  refine rl_start ?_
  refine rl_det (met_none rfl) (fun h_ H_ => exd_move (v := .int .i64 (askd (size) (start) ds (decide (1 ≤ amt ∧ amt ≤ 999)))) rfl) (tm' := _::_::_::_::_::_::_::_::_::_::_::_::_::_::_::_::_) rfl ?_
  refine rl_det (met_none rfl) (fun h_ H_ => exd_neq rfl rfl) (tm' := _::_::_::_::_::_::_::_::_::_::_::_::_::_::_::_::_::_) rfl ?_
  refine rl_end ?_
  by_cases c4 : askd (size) (start) ds (decide (1 ≤ amt ∧ amt ≤ 999)) ≠ 0
  · refine fl_then rfl (decide_eq_true c4) ?_
    refine fl_seq ?_
    refine rl_start ?_
    refine rl_det (met_none rfl) (fun h_ H_ => exd_build tZ36 tP36 (vs := []) rfl (cells := #[.int .i64 0, .int .i64 0]) rfl) (tm' := _::_::_::_::_::_::_::_::_::_::_::_::_::_::_::_::_::_::_) rfl ?_
    refine rl_det (met_none rfl) (fun h_ H_ => exd_move (v := .int .i64 (askd (size) (start) ds (decide (1 ≤ amt ∧ amt ≤ 999)))) rfl) (tm' := _::_::_::_::_::_::_::_::_::_::_::_::_::_::_::_::_::_::_::_) rfl ?_
    refine rl_store (met_none rfl) tS36 rfl (v := .agg #[.int .i64 0, .int .i64 0]) rfl (i := 0) rfl rfl rfl (Nat.le_of_ble_eq_true rfl) (cs2 := [.int .i64 0, .int .i64 0]) rfl (rl_own (L' := [(b3, .cells #[.int .i64 0, .int .i64 0] 36 (0, 0)), (b2, .cells #[.int .i64 (amt)] 3 (0, 0)), (b1, .cells #[.int .i64 (size), .int .i64 (start), .slice a n c] 24 (0, 0))]) rfl ?_)
    refine rl_det (met_none rfl) (fun h_ H_ => exd_assign (v := .int .i64 (askd (size) (start) ds (decide (1 ≤ amt ∧ amt ≤ 999)))) rfl) (tm' := _::_::_::_::_::_::_) rfl ?_
    refine rl_end ?_
    refine fl_ret Try.func53 rfl (vs := [.agg #[.int .i64 0, .int .i64 0], .int .i64 (askd (size) (start) ds (decide (1 ≤ amt ∧ amt ≤ 999)))]) (fun h_ H_ => ⟨.agg #[.int .i64 0, .int .i64 0], _, rfl, (wpS_bind (wpS_pure (wpS_loadVarN tA36 tS36 (vs := [.int .i64 0, .int .i64 0]) rfl (fun j_ v_ e_ => by rw [add_mk]; exact H_.ocell (i := 0) rfl (by simpa using e_)) ⟨rfl, rfl⟩))), ⟨.int .i64 (askd (size) (start) ds (decide (1 ≤ amt ∧ amt ≤ 999))), _, rfl, rfl, rfl⟩⟩) (v := .tuple #[.agg #[.int .i64 0, .int .i64 0], .int .i64 (askd (size) (start) ds (decide (1 ≤ amt ∧ amt ≤ 999)))]) rfl ?_
    exact fun h_ H_ => K _ _ ⟨by unfold rightR; rw [if_neg ‹_›], H_.kept⟩
  · refine fl_else rfl (decide_eq_false c4) ?_
    refine fl_skip ?_
    refine fl_seq ?_
    have h0 : askd size start ds (decide (1 ≤ amt ∧ amt ≤ 999)) = 0 := by omega
    have hOk : Ok size start ds := (askd_zero.1 h0).1
    refine rl_start ?_
    refine rl_det (met_none rfl) (fun h_ H_ => exd_loadN_own H_ tA24 tS24 rfl (i := 2) rfl (vs := [.int .i64 (size), .int .i64 (start), .slice a n c]) rfl rfl) (tm' := _::_::_::_::_::_::_::_::_::_::_::_::_::_::_::_::_::_::_::_::_::_) rfl ?_
    refine rl_own (L' := ([(b3, .cells #[.int .i64 0, .int .i64 0] 36 (0, 0)), (b2, .cells #[.int .i64 (amt)] 3 (0, 0)), (b1, .cells #[.int .i64 (size), .int .i64 (start), .slice a n c] 24 (0, 0))] : Pcs) ++ []) rfl ?_
    refine rl_call (met_none rfl) (first := []) (cap := []) rfl rfl fC68 (R := fun v_ h_ => ∃ w5 : Value, ∃ w6 : Value, ∃ X7 : Pcs, ∃ X8 : Pcs, v_ = .tuple #[w5, w6] ∧ (OwnS 72 3 w5 (dcs (dryOf size start ds)) X7) ∧ (OwnS 72 3 w6 (dcs (wetOf size start ds)) X8) ∧ St h [] p h_ (([(b3, .cells #[.int .i64 0, .int .i64 0] 36 (0, 0)), (b2, .cells #[.int .i64 (amt)] 3 (0, 0)), (b1, .cells #[.int .i64 (size), .int .i64 (start), .slice a n c] 24 (0, 0))] : Pcs) ++ ((X7 ++ (X8 ++ [])) ++ []))) (fun h_ H_ => (c68b _ _ (fun b_ o_ e_ => H_.per b_ o_ e_) (size) (start) _ _ _ _ D (by omega) hOk).mono fun v_ h2_ ⟨w5, w6, X7, X8, e_, o9, o10, N_⟩ => ⟨w5, w6, X7, X8, e_, o9, o10, H_.callNA N_⟩) fun v_ => ?_
    refine rl_ex fun w5 => rl_ex fun w6 => rl_ex fun X7 => rl_ex fun X8 => rl_and fun ev_ => rl_and fun o9 => rl_and fun o10 => ?_
    have ev_ := ev_.symm; subst ev_
    refine rl_own (L' := ([(b3, .cells #[.int .i64 0, .int .i64 0] 36 (0, 0)), (b2, .cells #[.int .i64 (amt)] 3 (0, 0)), (b1, .cells #[.int .i64 (size), .int .i64 (start), .slice a n c] 24 (0, 0))] : Pcs) ++ (X7 ++ (X8 ++ []))) (by simp) ?_
    refine rl_norm (tm' := _::_::_::_::_::_::_::_::_::_::_::_::_::_::_::_::_::_::_::_::_::_::_) rfl ?_
    refine rl_det (met_none rfl) (fun h_ H_ => exd_move (v := .tuple #[w5, w6]) rfl) (tm' := _::_::_::_::_::_::_::_::_::_::_::_::_::_::_::_::_::_::_::_::_) rfl ?_
    refine rl_det (met_none rfl) (fun h_ H_ => exd_extract rfl (v := w5) rfl) (tm' := _::_::_::_::_::_::_::_::_::_::_::_::_::_::_::_::_::_::_::_::_::_::_::_) rfl ?_
    refine rl_det (met_none rfl) (fun h_ H_ => exd_extract rfl (v := w6) rfl) (tm' := _::_::_::_::_::_::_::_::_::_::_::_::_::_::_::_::_::_::_::_::_::_::_::_::_) rfl ?_
    refine rl_det (met_none rfl) (fun h_ H_ => exd_assign (v := w5) rfl) (tm' := _::_::_::_::_::_::_::_::_) rfl ?_
    refine rl_det (met_none rfl) (fun h_ H_ => exd_assign (v := w6) rfl) (tm' := _::_::_::_::_::_::_::_::_::_) rfl ?_
    refine rl_end ?_
    refine fl_seq ?_
    refine rs_lastN (A := ([(b3, .cells #[.int .i64 0, .int .i64 0] 36 (0, 0)), (b2, .cells #[.int .i64 (amt)] 3 (0, 0)), (b1, .cells #[.int .i64 (size), .int .i64 (start), .slice a n c] 24 (0, 0))] : Pcs)) o9 (show (dcs (dryOf size start ds)).length = n by rw [dcs_length, dryOf_length]; exact hl) fun p11 a12 cp13 le14 ev_ D15 => ?_
    subst ev_
    refine rs_lastN (A := ([(b3, .cells #[.int .i64 0, .int .i64 0] 36 (0, 0)), (b2, .cells #[.int .i64 (amt)] 3 (0, 0)), (b1, .cells #[.int .i64 (size), .int .i64 (start), .slice a n c] 24 (0, 0))] : Pcs)) o10 (show (dcs (wetOf size start ds)).length = n by rw [dcs_length, wetOf_length]; exact hl) fun p16 a17 cp18 le19 ev_ D20 => ?_
    subst ev_
    refine rs_own (L' := [(b3, .cells #[.int .i64 0, .int .i64 0] 36 (0, 0)), (b2, .cells #[.int .i64 (amt)] 3 (0, 0)), (b1, .cells #[.int .i64 (size), .int .i64 (start), .slice a n c] 24 (0, 0))]) rfl ?_
    refine rs_last 1 rfl (L' := [(b3, .cells #[.int .i64 0, .int .i64 0] 36 (0, 0)), (b1, .cells #[.int .i64 (size), .int .i64 (start), .slice a n c] 24 (0, 0))]) rfl fun p21 le22 hb23 => ?_
    refine rl_start ?_
    refine rl_det (met_none rfl) (fun h_ H_ => exd_makeFunc (a := []) (b := [.pointer (some ⟨b2, 0, none⟩)]) rfl rfl) (tm' := [_,_,_,_,_,_,_,_,_,_,_,_,_,_,_,_,_,_,_,_,_,_,_,_,_,_,_,_,_,_,_,_,_,_,_,_,_]) rfl ?_
    refine rl_det (met_none rfl) (fun h_ H_ => exd_assign (v := .func (.func 80) #[] #[.pointer (some ⟨b2, 0, none⟩)]) rfl) (tm' := _::_::_::_::_::_::_::_::_::_::_) rfl ?_
    refine rl_end ?_
    refine fl_seq ?_
    refine rl_start ?_
    refine rl_det (met_none rfl) (fun h_ H_ => exd_move (v := .slice a17 n cp18) rfl) (tm' := [_,_,_,_,_,_,_,_,_,_,_,_,_,_,_,_,_,_,_,_,_,_,_,_,_,_,_,_,_,_,_,_,_,_,_,_,_]) rfl ?_
    refine rl_det (met_none rfl) (fun h_ H_ => exd_move (v := .func (.func 80) #[] #[.pointer (some ⟨b2, 0, none⟩)]) rfl) (tm' := [_,_,_,_,_,_,_,_,_,_,_,_,_,_,_,_,_,_,_,_,_,_,_,_,_,_,_,_,_,_,_,_,_,_,_,_,_]) rfl ?_
    refine rl_calld (met_none rfl) (first := []) (cap := []) rfl rfl fC81 (fun h_ H_ => c81 (.main true) _ _ (fun b_ o_ e_ => H_.per b_ o_ e_) (.func (.func 80) #[] #[.pointer (some ⟨b2, 0, none⟩)]) _ _ _ _ ((show Days _ _ _ (wetOf size start ds) from D20).mono le22) (by omega) (overGe amt) (fun h_ hp_ i_ hi_ => callv_of fC80 (c80 (.main true) _ _ hp_ _ _ _ _ _ hb23))) (tm' := [_,_,_,_,_,_,_,_,_,_,_,_,_,_,_,_,_,_,_,_,_,_,_,_,_,_,_,_,_,_,_,_,_,_,_,_,_]) rfl ?_
    refine rl_det (met_none rfl) (fun h_ H_ => exd_move (v := .slice a12 n cp13) rfl) (tm' := [_,_,_,_,_,_,_,_,_,_,_,_,_,_,_,_,_,_,_,_,_,_,_,_,_,_,_,_,_,_,_,_,_,_,_,_,_]) rfl ?_
    refine rl_det (met_none rfl) (fun h_ H_ => exd_move (v := .func (.func 80) #[] #[.pointer (some ⟨b2, 0, none⟩)]) rfl) (tm' := [_,_,_,_,_,_,_,_,_,_,_,_,_,_,_,_,_,_,_,_,_,_,_,_,_,_,_,_,_,_,_,_,_,_,_,_,_]) rfl ?_
    refine rl_calld (met_none rfl) (first := []) (cap := []) rfl rfl fC81 (fun h_ H_ => c81 (.main true) _ _ (fun b_ o_ e_ => H_.per b_ o_ e_) (.func (.func 80) #[] #[.pointer (some ⟨b2, 0, none⟩)]) _ _ _ _ (((show Days _ _ _ (dryOf size start ds) from D15).mono le19).mono le22) (by omega) (overGe amt) (fun h_ hp_ i_ hi_ => callv_of fC80 (c80 (.main true) _ _ hp_ _ _ _ _ _ hb23))) (tm' := [_,_,_,_,_,_,_,_,_,_,_,_,_,_,_,_,_,_,_,_,_,_,_,_,_,_,_,_,_,_,_,_,_,_,_,_,_]) rfl ?_
    refine rl_det (met_none rfl) (fun h_ H_ => exd_build tZ36 tP36 (vs := [(0, .int .i64 (idxF (overGe amt) (wetOf size start ds))), (1, .int .i64 (idxF (overGe amt) (dryOf size start ds)))]) rfl (cells := #[.int .i64 (idxF (overGe amt) (wetOf size start ds)), .int .i64 (idxF (overGe amt) (dryOf size start ds))]) rfl) (tm' := [_,_,_,_,_,_,_,_,_,_,_,_,_,_,_,_,_,_,_,_,_,_,_,_,_,_,_,_,_,_,_,_,_,_,_,_,_]) rfl ?_
    refine rl_alloc (met_none rfl) tZ36 rfl fun b24 => rl_own (L' := [(b24, .cells #[.int .i64 0, .int .i64 0] 36 (0, 0)), (b3, .cells #[.int .i64 0, .int .i64 0] 36 (0, 0)), (b1, .cells #[.int .i64 (size), .int .i64 (start), .slice a n c] 24 (0, 0))]) rfl ?_
    refine rl_norm (tm' := _::_::_::_::_::_::_::_::_::_::_::_) rfl ?_
    refine rl_store (met_none rfl) tS36 rfl (v := .agg #[.int .i64 (idxF (overGe amt) (wetOf size start ds)), .int .i64 (idxF (overGe amt) (dryOf size start ds))]) rfl (i := 0) rfl rfl rfl (Nat.le_of_ble_eq_true rfl) (cs2 := [.int .i64 (idxF (overGe amt) (wetOf size start ds)), .int .i64 (idxF (overGe amt) (dryOf size start ds))]) rfl (rl_own (L' := [(b24, .cells #[.int .i64 (idxF (overGe amt) (wetOf size start ds)), .int .i64 (idxF (overGe amt) (dryOf size start ds))] 36 (0, 0)), (b3, .cells #[.int .i64 0, .int .i64 0] 36 (0, 0)), (b1, .cells #[.int .i64 (size), .int .i64 (start), .slice a n c] 24 (0, 0))]) rfl ?_)
    refine rl_end ?_
    refine fl_seq ?_
    refine fl_seq ?_
    refine rl_start ?_
    refine rl_det (met_none rfl) (fun h_ H_ => exd_fieldAddr tF36_1 rfl (a' := ⟨b24, 1, none⟩) rfl) (tm' := [_,_,_,_,_,_,_,_,_,_,_,_,_,_,_,_,_,_,_,_,_,_,_,_,_,_,_,_,_,_,_,_,_,_,_,_,_]) rfl ?_
    refine rl_det (met_none rfl) (fun h_ H_ => exd_load_own H_ tA3 rfl (i := 0) rfl (v := .int .i64 (idxF (overGe amt) (dryOf size start ds))) rfl) (tm' := [_,_,_,_,_,_,_,_,_,_,_,_,_,_,_,_,_,_,_,_,_,_,_,_,_,_,_,_,_,_,_,_,_,_,_,_,_]) rfl ?_
    refine rl_det (met_none rfl) (fun h_ H_ => exd_lss rfl rfl) (tm' := [_,_,_,_,_,_,_,_,_,_,_,_,_,_,_,_,_,_,_,_,_,_,_,_,_,_,_,_,_,_,_,_,_,_,_,_,_]) rfl ?_
    refine rl_end ?_
    by_cases c25 : idxF (overGe amt) (dryOf size start ds) < 0
    · refine fl_then rfl (decide_eq_true c25) ?_
      refine fl_seq ?_
      refine rl_start ?_
      refine rl_det (met_none rfl) (fun h_ H_ => exd_build tZ36 tP36 (vs := []) rfl (cells := #[.int .i64 0, .int .i64 0]) rfl) (tm' := [_,_,_,_,_,_,_,_,_,_,_,_,_,_,_,_,_,_,_,_,_,_,_,_,_,_,_,_,_,_,_,_,_,_,_,_,_]) rfl ?_
      refine rl_store (met_none rfl) tS36 rfl (v := .agg #[.int .i64 0, .int .i64 0]) rfl (i := 1) rfl rfl rfl (Nat.le_of_ble_eq_true rfl) (cs2 := [.int .i64 0, .int .i64 0]) rfl (rl_own (L' := [(b24, .cells #[.int .i64 (idxF (overGe amt) (wetOf size start ds)), .int .i64 (idxF (overGe amt) (dryOf size start ds))] 36 (0, 0)), (b3, .cells #[.int .i64 0, .int .i64 0] 36 (0, 0)), (b1, .cells #[.int .i64 (size), .int .i64 (start), .slice a n c] 24 (0, 0))]) rfl ?_)
      refine rl_det (met_none rfl) (fun h_ H_ => exd_assign (v := .int .i64 3) rfl) (tm' := _::_::_::_::_::_::_) rfl ?_
      refine rl_end ?_
      refine fl_ret Try.func53 rfl (vs := [.agg #[.int .i64 0, .int .i64 0], .int .i64 3]) (fun h_ H_ => ⟨.agg #[.int .i64 0, .int .i64 0], _, rfl, (wpS_bind (wpS_pure (wpS_loadVarN tA36 tS36 (vs := [.int .i64 0, .int .i64 0]) rfl (fun j_ v_ e_ => by rw [add_mk]; exact H_.ocell (i := 1) rfl (by simpa using e_)) ⟨rfl, rfl⟩))), ⟨.int .i64 3, _, rfl, rfl, rfl⟩⟩) (v := .tuple #[.agg #[.int .i64 0, .int .i64 0], .int .i64 3]) rfl ?_
      exact fun h_ H_ => K _ _ ⟨by unfold rightR; rw [if_pos h0, if_pos ‹_›], H_.kept⟩
    · refine fl_else rfl (decide_eq_false c25) ?_
      refine fl_skip ?_
      refine fl_seq ?_
      refine rl_start ?_
      refine rl_det (met_none rfl) (fun h_ H_ => exd_loadN_own H_ tA36 tS36 rfl (i := 0) rfl (vs := [.int .i64 (idxF (overGe amt) (wetOf size start ds)), .int .i64 (idxF (overGe amt) (dryOf size start ds))]) rfl rfl) (tm' := [_,_,_,_,_,_,_,_,_,_,_,_,_,_,_,_,_,_,_,_,_,_,_,_,_,_,_,_,_,_,_,_,_,_,_,_,_]) rfl ?_
      refine rl_store (met_none rfl) tS36 rfl (v := .agg #[.int .i64 (idxF (overGe amt) (wetOf size start ds)), .int .i64 (idxF (overGe amt) (dryOf size start ds))]) rfl (i := 1) rfl rfl rfl (Nat.le_of_ble_eq_true rfl) (cs2 := [.int .i64 (idxF (overGe amt) (wetOf size start ds)), .int .i64 (idxF (overGe amt) (dryOf size start ds))]) rfl (rl_own (L' := [(b24, .cells #[.int .i64 (idxF (overGe amt) (wetOf size start ds)), .int .i64 (idxF (overGe amt) (dryOf size start ds))] 36 (0, 0)), (b3, .cells #[.int .i64 (idxF (overGe amt) (wetOf size start ds)), .int .i64 (idxF (overGe amt) (dryOf size start ds))] 36 (0, 0)), (b1, .cells #[.int .i64 (size), .int .i64 (start), .slice a n c] 24 (0, 0))]) rfl ?_)
      refine rl_det (met_none rfl) (fun h_ H_ => exd_assign (v := .int .i64 0) rfl) (tm' := _::_::_::_::_::_::_) rfl ?_
      refine rl_end ?_
      refine fl_ret Try.func53 rfl (vs := [.agg #[.int .i64 (idxF (overGe amt) (wetOf size start ds)), .int .i64 (idxF (overGe amt) (dryOf size start ds))], .int .i64 0]) (fun h_ H_ => ⟨.agg #[.int .i64 (idxF (overGe amt) (wetOf size start ds)), .int .i64 (idxF (overGe amt) (dryOf size start ds))], _, rfl, (wpS_bind (wpS_pure (wpS_loadVarN tA36 tS36 (vs := [.int .i64 (idxF (overGe amt) (wetOf size start ds)), .int .i64 (idxF (overGe amt) (dryOf size start ds))]) rfl (fun j_ v_ e_ => by rw [add_mk]; exact H_.ocell (i := 1) rfl (by simpa using e_)) ⟨rfl, rfl⟩))), ⟨.int .i64 0, _, rfl, rfl, rfl⟩⟩) (v := .tuple #[.agg #[.int .i64 (idxF (overGe amt) (wetOf size start ds)), .int .i64 (idxF (overGe amt) (dryOf size start ds))], .int .i64 0]) rfl ?_
      exact fun h_ H_ => K _ _ ⟨by unfold rightR; rw [if_pos h0, if_neg ‹_›], H_.kept⟩
end Go.Proofs.Ytbmkacnlhlbnjaa
namespace Go.Proofs.Ytbmkacnlhlbnjaa
open Go.X Go.X.Cist Go.Conc
set_option maxRecDepth 10000

theorem c73 (md : Md) (h : Heap) (p : PHeap) (hp : Per p h) (bW : Nat) (b : Option Addr) (m d : Nat) (xs : List Int) (W : Ints p b m xs) (hW : p bW = some (.cells #[.slice b m d] 25 (0, 0))) (k : Nat) (hk : k < m) : CallsX Try.prog md 73 #[.int .i64 (((k : Nat) : Int)), .pointer (some ⟨bW, 0, none⟩)] h fun v h' => v = .int .i64 (xs.getD k 0) ∧ Keep h h' := by
  refine calls_intro (Φ := fun h_ => St h [] p h_ []) Try.func73 rfl (tm := [_, _, _, _, _, _, _, _]) rfl ?_ (St.start h _ hp)
  intro c₀ cs Stop K
  refine fl_seq ?_
  refine rl_start ?_
  refine rl_det (met_none rfl) (fun h_ H_ => exd_assign (v := .int .i64 0) rfl) (tm' := _::_::_::_::_) rfl ?_
  refine rl_end ?_
  refine fl_seq ?_
  refine rl_start ?_
  refine rl_det (met_none rfl) (fun h_ H_ => exd_load_per H_ tA25 rfl (v := .slice b m d) (per_cell hW rfl)) (tm' := _::_::_::_::_::_) rfl ?_
  refine rl_det (met_none rfl) (fun h_ H_ => exd_move (v := .int .i64 (((k : Nat) : Int))) rfl) (tm' := [_,_,_,_,_,_,_,_]) rfl ?_
  refine rl_det (met_none rfl) (fun h_ H_ => exd_indexAddrN (i := k) Try.underlying25 tS3 (sl_ne b m d (W.ne (by omega))) rfl (by omega)) (tm' := [_,_,_,_,_,_,_,_]) rfl ?_
  refine rl_det (met_none rfl) (fun h_ H_ => exd_load_per H_ tA3 rfl (v := .int .i64 (xs.getD k 0)) (W.get (by omega))) (tm' := [_,_,_,_,_,_,_,_]) rfl ?_
  refine rl_det (met_none rfl) (fun h_ H_ => exd_assign (v := .int .i64 (xs.getD k 0)) rfl) (tm' := _::_::_::_::_) rfl ?_
  refine rl_end ?_
  refine fl_ret Try.func73 rfl (vs := [.int .i64 (xs.getD k 0)]) (fun h_ H_ => ⟨.int .i64 (xs.getD k 0), _, rfl, rfl, rfl⟩) (v := .int .i64 (xs.getD k 0)) rfl ?_
  exact fun h_ H_ => K _ _ ⟨rfl, H_.kept⟩
theorem c34 (md : Md) (h : Heap) (p : PHeap) (hp : Per p h) (size start : Int) (a : Option Addr) (n c : Nat) (ds : List Day) (D : Days p a n ds) (hn : n ≤ 40) (b : Option Addr) (m d : Nat) (xs : List Int) (W : Ints p b m xs) (hm40 : m ≤ 40) : CallsX Try.prog md 34 #[.agg #[.int .i64 (size), .int .i64 (start), .slice a n c], .slice b m d] h fun v h' => ∃ w1 w2 w3 X1 X2 X3, v = .tuple #[w1, w2, w3, .int .i64 (askd size start ds (decide (Weather ds xs)))] ∧ (Ok size start ds ∧ Weather ds xs → OwnS 3 1 w1 (ns (levs size start (wantOf ds) (listOf xs)) n) X1 ∧ OwnS 3 1 w2 (ns (lack size start (wantOf ds) (listOf xs)) n) X2 ∧ OwnS 3 1 w3 (ns (ovr size start (wantOf ds) (listOf xs)) n) X3) ∧ (¬ (Ok size start ds ∧ Weather ds xs) → w1 = .slice none 0 0 ∧ w2 = .slice none 0 0 ∧ w3 = .slice none 0 0 ∧ X1 = [] ∧ X2 = [] ∧ X3 = []) ∧ New h h' (X1 ++ (X2 ++ (X3 ++ []))) := by
  refine calls_intro (Φ := fun h_ => St h [] p h_ []) Try.func34 rfl (tm := [_, _, _, _, _, _, _, _, _, _, _, _, _, _, _, _, _, _, _, _, _, _, _, _, _, _, _, _, _, _, _, _, _, _, _, _, _, _, _, _, _, _, _, _, _, _, _, _, _, _, _, _, _, _, _, _, _, _, _, _, _, _, _, _, _, _, _, _, _]) rfl ?_ (St.start h _ hp)
  intro c₀ cs Stop K
  have hl := D.len
  have hm := W.len
  refine fl_seq ?_
  refine rl_start ?_
  refine rl_box (met_none rfl) (v := .agg #[.int .i64 (size), .int .i64 (start), .slice a n c]) rfl fun b1 => rl_own (L' := [(b1, .cells #[.int .i64 (size), .int .i64 (start), .slice a n c] 24 (0, 0))]) rfl ?_
  refine rl_norm (tm' := _::_::_::_) rfl ?_
  refine rl_box (met_none rfl) (v := .slice b m d) rfl fun b2 => rl_own (L' := [(b2, .cells #[.slice b m d] 25 (0, 0)), (b1, .cells #[.int .i64 (size), .int .i64 (start), .slice a n c] 24 (0, 0))]) rfl ?_
  refine rl_norm (tm' := _::_::_::_::_) rfl ?_
  refine rl_alloc (met_none rfl) tZ25 rfl fun b3 => rl_own (L' := [(b3, .cells #[.slice none 0 0] 25 (0, 0)), (b2, .cells #[.slice b m d] 25 (0, 0)), (b1, .cells #[.int .i64 (size), .int .i64 (start), .slice a n c] 24 (0, 0))]) rfl ?_
  refine rl_norm (tm' := _::_::_::_::_::_) rfl ?_
  refine rl_alloc (met_none rfl) tZ25 rfl fun b4 => rl_own (L' := [(b4, .cells #[.slice none 0 0] 25 (0, 0)), (b3, .cells #[.slice none 0 0] 25 (0, 0)), (b2, .cells #[.slice b m d] 25 (0, 0)), (b1, .cells #[.int .i64 (size), .int .i64 (start), .slice a n c] 24 (0, 0))]) rfl ?_
  refine rl_norm (tm' := _::_::_::_::_::_::_) rfl ?_
  refine rl_alloc (met_none rfl) tZ25 rfl fun b5 => rl_own (L' := [(b5, .cells #[.slice none 0 0] 25 (0, 0)), (b4, .cells #[.slice none 0 0] 25 (0, 0)), (b3, .cells #[.slice none 0 0] 25 (0, 0)), (b2, .cells #[.slice b m d] 25 (0, 0)), (b1, .cells #[.int .i64 (size), .int .i64 (start), .slice a n c] 24 (0, 0))]) rfl ?_
  refine rl_norm (tm' := _::_::_::_::_::_::_::_) rfl ?_
  refine rl_det (met_none rfl) (fun h_ H_ => exd_assign (v := .int .i64 0) rfl) (tm' := _::_::_::_::_::_::_::_::_) rfl ?_
  refine rl_end ?_
  refine fl_seq ?_
  refine fl_seq ?_
  refine rl_start ?_
  refine rl_det (met_none rfl) (fun h_ H_ => exd_loadN_own H_ tA24 tS24 rfl (i := 4) rfl (vs := [.int .i64 (size), .int .i64 (start), .slice a n c]) rfl rfl) (tm' := _::_::_::_::_::_::_::_::_::_::_::_::_::_::_::_) rfl ?_
  refine rl_calld (met_none rfl) (first := []) (cap := []) rfl rfl fC32 (fun h_ H_ => c32 md _ _ (fun b_ o_ e_ => H_.per b_ o_ e_) (size) (start) _ _ _ _ D (by omega)) (tm' := _::_::_::_::_::_::_::_::_::_::_::_::_::_::_::_::_) rfl ?_
  refine rl_det (met_none rfl) (fun h_ H_ => exd_assign (v := .int .i64 (chk (size) (start) ds)) rfl) (tm' := _::_::_::_::_::_::_::_::_::_) rfl ?_
  refine rl_end ?_
  refine fl_seq ?_
  refine rl_start ?_
  refine rl_det (met_none rfl) (fun h_ H_ => exd_move (v := .int .i64 (chk (size) (start) ds)) rfl) (tm' := _::_::_::_::_::_::_::_::_::_::_::_::_::_::_::_::_::_) rfl ?_
  refine rl_det (met_none rfl) (fun h_ H_ => exd_neq rfl rfl) (tm' := _::_::_::_::_::_::_::_::_::_::_::_::_::_::_::_::_::_::_) rfl ?_
  refine rl_end ?_
  by_cases c6 : chk (size) (start) ds ≠ 0
  · refine fl_then rfl (decide_eq_true c6) ?_
    refine fl_seq ?_
    refine rl_start ?_
    refine rl_det (met_none rfl) (fun h_ H_ => exd_move (v := .int .i64 (chk (size) (start) ds)) rfl) (tm' := _::_::_::_::_::_::_::_::_::_::_::_::_::_::_::_::_::_::_::_) rfl ?_
    refine rl_store (met_none rfl) tS25 rfl (v := .slice none 0 0) rfl (i := 2) rfl rfl rfl (Nat.le_of_ble_eq_true rfl) (cs2 := [.slice none 0 0]) rfl (rl_own (L' := [(b5, .cells #[.slice none 0 0] 25 (0, 0)), (b4, .cells #[.slice none 0 0] 25 (0, 0)), (b3, .cells #[.slice none 0 0] 25 (0, 0)), (b2, .cells #[.slice b m d] 25 (0, 0)), (b1, .cells #[.int .i64 (size), .int .i64 (start), .slice a n c] 24 (0, 0))]) rfl ?_)
    refine rl_store (met_none rfl) tS25 rfl (v := .slice none 0 0) rfl (i := 1) rfl rfl rfl (Nat.le_of_ble_eq_true rfl) (cs2 := [.slice none 0 0]) rfl (rl_own (L' := [(b5, .cells #[.slice none 0 0] 25 (0, 0)), (b4, .cells #[.slice none 0 0] 25 (0, 0)), (b3, .cells #[.slice none 0 0] 25 (0, 0)), (b2, .cells #[.slice b m d] 25 (0, 0)), (b1, .cells #[.int .i64 (size), .int .i64 (start), .slice a n c] 24 (0, 0))]) rfl ?_)
    refine rl_store (met_none rfl) tS25 rfl (v := .slice none 0 0) rfl (i := 0) rfl rfl rfl (Nat.le_of_ble_eq_true rfl) (cs2 := [.slice none 0 0]) rfl (rl_own (L' := [(b5, .cells #[.slice none 0 0] 25 (0, 0)), (b4, .cells #[.slice none 0 0] 25 (0, 0)), (b3, .cells #[.slice none 0 0] 25 (0, 0)), (b2, .cells #[.slice b m d] 25 (0, 0)), (b1, .cells #[.int .i64 (size), .int .i64 (start), .slice a n c] 24 (0, 0))]) rfl ?_)
    refine rl_det (met_none rfl) (fun h_ H_ => exd_assign (v := .int .i64 (chk (size) (start) ds)) rfl) (tm' := _::_::_::_::_::_::_::_::_) rfl ?_
    refine rl_end ?_
    refine fl_ret Try.func34 rfl (vs := [.slice none 0 0, .slice none 0 0, .slice none 0 0, .int .i64 (chk (size) (start) ds)]) (fun h_ H_ => ⟨.slice none 0 0, _, rfl, (wpS_bind (wpS_pure (wpS_loadVar1 tA25 (H_.ocell (i := 2) rfl (v := .slice none 0 0) rfl) ⟨rfl, rfl⟩))), ⟨.slice none 0 0, _, rfl, (wpS_bind (wpS_pure (wpS_loadVar1 tA25 (H_.ocell (i := 1) rfl (v := .slice none 0 0) rfl) ⟨rfl, rfl⟩))), ⟨.slice none 0 0, _, rfl, (wpS_bind (wpS_pure (wpS_loadVar1 tA25 (H_.ocell (i := 0) rfl (v := .slice none 0 0) rfl) ⟨rfl, rfl⟩))), ⟨.int .i64 (chk (size) (start) ds), _, rfl, rfl, rfl⟩⟩⟩⟩) (v := .tuple #[.slice none 0 0, .slice none 0 0, .slice none 0 0, .int .i64 (chk (size) (start) ds)]) rfl ?_
    have hOk : ¬ Ok size start ds := fun e => absurd (chk_yes e) ‹_›
    exact fun h_ H_ => K _ _ ⟨.slice none 0 0, .slice none 0 0, .slice none 0 0, [], [], [], by rw [chk_no hOk, askd_no hOk], fun e => absurd e.1 hOk, fun _ => ⟨rfl, rfl, rfl, rfl, rfl, rfl⟩, (H_.sub (List.nil_sublist _)).new⟩
  · refine fl_else rfl (decide_eq_false c6) ?_
    refine fl_skip ?_
    refine fl_seq ?_
    refine fl_seq ?_
    refine rl_start ?_
    refine rl_det (met_none rfl) (fun h_ H_ => exd_load_own H_ tA25 rfl (i := 3) rfl (v := .slice b m d) rfl) (tm' := _::_::_::_::_::_::_::_::_::_::_::_::_::_::_::_::_::_::_::_::_) rfl ?_
    refine rl_det (met_none rfl) (fun h_ H_ => exd_len Try.underlying25 rfl) (tm' := _::_::_::_::_::_::_::_::_::_::_::_::_::_::_::_::_::_::_::_::_::_) rfl ?_
    refine rl_det (met_none rfl) (fun h_ H_ => exd_fieldAddr tF24_2 rfl (a' := ⟨b1, 2, none⟩) rfl) (tm' := _::_::_::_::_::_::_::_::_::_::_::_::_::_::_::_::_::_::_::_::_::_::_) rfl ?_
    refine rl_det (met_none rfl) (fun h_ H_ => exd_load_own H_ tA22 rfl (i := 4) rfl (v := .slice a n c) rfl) (tm' := _::_::_::_::_::_::_::_::_::_::_::_::_::_::_::_::_::_::_::_::_::_::_::_) rfl ?_
    refine rl_det (met_none rfl) (fun h_ H_ => exd_len Try.underlying22 rfl) (tm' := _::_::_::_::_::_::_::_::_::_::_::_::_::_::_::_::_::_::_::_::_::_::_::_::_) rfl ?_
    refine rl_det (met_none rfl) (fun h_ H_ => exd_neq rfl rfl) (tm' := _::_::_::_::_::_::_::_::_::_::_::_::_::_::_::_::_::_::_::_::_::_::_::_::_::_) rfl ?_
    refine rl_end ?_
    by_cases c7 : ((m : Nat) : Int) ≠ ((n : Nat) : Int)
    · refine fl_then rfl (decide_eq_true c7) ?_
      refine fl_seq ?_
      refine rl_start ?_
      refine rl_store (met_none rfl) tS25 rfl (v := .slice none 0 0) rfl (i := 2) rfl rfl rfl (Nat.le_of_ble_eq_true rfl) (cs2 := [.slice none 0 0]) rfl (rl_own (L' := [(b5, .cells #[.slice none 0 0] 25 (0, 0)), (b4, .cells #[.slice none 0 0] 25 (0, 0)), (b3, .cells #[.slice none 0 0] 25 (0, 0)), (b2, .cells #[.slice b m d] 25 (0, 0)), (b1, .cells #[.int .i64 (size), .int .i64 (start), .slice a n c] 24 (0, 0))]) rfl ?_)
      refine rl_store (met_none rfl) tS25 rfl (v := .slice none 0 0) rfl (i := 1) rfl rfl rfl (Nat.le_of_ble_eq_true rfl) (cs2 := [.slice none 0 0]) rfl (rl_own (L' := [(b5, .cells #[.slice none 0 0] 25 (0, 0)), (b4, .cells #[.slice none 0 0] 25 (0, 0)), (b3, .cells #[.slice none 0 0] 25 (0, 0)), (b2, .cells #[.slice b m d] 25 (0, 0)), (b1, .cells #[.int .i64 (size), .int .i64 (start), .slice a n c] 24 (0, 0))]) rfl ?_)
      refine rl_store (met_none rfl) tS25 rfl (v := .slice none 0 0) rfl (i := 0) rfl rfl rfl (Nat.le_of_ble_eq_true rfl) (cs2 := [.slice none 0 0]) rfl (rl_own (L' := [(b5, .cells #[.slice none 0 0] 25 (0, 0)), (b4, .cells #[.slice none 0 0] 25 (0, 0)), (b3, .cells #[.slice none 0 0] 25 (0, 0)), (b2, .cells #[.slice b m d] 25 (0, 0)), (b1, .cells #[.int .i64 (size), .int .i64 (start), .slice a n c] 24 (0, 0))]) rfl ?_)
      refine rl_det (met_none rfl) (fun h_ H_ => exd_assign (v := .int .i64 1) rfl) (tm' := _::_::_::_::_::_::_::_::_) rfl ?_
      refine rl_end ?_
      refine fl_ret Try.func34 rfl (vs := [.slice none 0 0, .slice none 0 0, .slice none 0 0, .int .i64 1]) (fun h_ H_ => ⟨.slice none 0 0, _, rfl, (wpS_bind (wpS_pure (wpS_loadVar1 tA25 (H_.ocell (i := 2) rfl (v := .slice none 0 0) rfl) ⟨rfl, rfl⟩))), ⟨.slice none 0 0, _, rfl, (wpS_bind (wpS_pure (wpS_loadVar1 tA25 (H_.ocell (i := 1) rfl (v := .slice none 0 0) rfl) ⟨rfl, rfl⟩))), ⟨.slice none 0 0, _, rfl, (wpS_bind (wpS_pure (wpS_loadVar1 tA25 (H_.ocell (i := 0) rfl (v := .slice none 0 0) rfl) ⟨rfl, rfl⟩))), ⟨.int .i64 1, _, rfl, rfl, rfl⟩⟩⟩⟩) (v := .tuple #[.slice none 0 0, .slice none 0 0, .slice none 0 0, .int .i64 1]) rfl ?_
      have hOk : Ok size start ds := chk_zero.1 (by omega)
      have hX : ¬ Weather ds xs := fun e => by first | (have := e.1; omega) | (have := e.2 k (by omega); omega)
      exact fun h_ H_ => K _ _ ⟨.slice none 0 0, .slice none 0 0, .slice none 0 0, [], [], [], by rw [askd_arg hOk (decide_eq_false hX)], fun e => absurd e.2 hX, fun _ => ⟨rfl, rfl, rfl, rfl, rfl, rfl⟩, (H_.sub (List.nil_sublist _)).new⟩
    · refine fl_else rfl (decide_eq_false c7) ?_
      refine fl_skip ?_
      refine fl_seq ?_
      refine fl_seq ?_
      refine rl_start ?_
      refine rl_det (met_none rfl) (fun h_ H_ => exd_load_own H_ tA25 rfl (i := 3) rfl (v := .slice b m d) rfl) (tm' := _::_::_::_::_::_::_::_::_::_::_::_::_::_::_::_::_::_::_::_::_::_::_::_::_::_::_) rfl ?_
      refine rl_det (met_none rfl) (fun h_ H_ => exd_len Try.underlying25 rfl) (tm' := _::_::_::_::_::_::_::_::_::_::_::_::_::_::_::_::_::_::_::_::_::_::_::_::_::_::_::_) rfl ?_
      refine rl_det (met_none rfl) (fun h_ H_ => exd_move (v := .int .i64 0) rfl) (tm' := _::_::_::_::_::_::_::_::_::_::_::_::_::_::_::_::_::_::_::_::_::_::_::_::_::_::_::_::_) rfl ?_
      refine rl_end ?_
      refine fl_block ?_
      refine fl_loop (m₀ := m - 0) (fun m_ tm_ h_ => ∃ (k : Nat) (y8 : Nat → Value), m_ = m - k ∧ tm_ = [.agg #[.int .i64 (size), .int .i64 (start), .slice a n c], .slice b m d, .pointer (some ⟨b1, 0, none⟩), .pointer (some ⟨b2, 0, none⟩), .pointer (some ⟨b3, 0, none⟩), .pointer (some ⟨b4, 0, none⟩), .pointer (some ⟨b5, 0, none⟩), (y8 0), .int .i64 (chk (size) (start) ds), (y8 1), (y8 2), (y8 3), undef, undef, .agg #[.int .i64 (size), .int .i64 (start), .slice a n c], .int .i64 (chk (size) (start) ds), .int .i64 (chk (size) (start) ds), .bool (decide (chk (size) (start) ds ≠ 0)), undef, .slice b m d, .int .i64 (((m : Nat) : Int)), .pointer (some ⟨b1, 2, none⟩), .slice a n c, .int .i64 (((n : Nat) : Int)), .bool (decide (((m : Nat) : Int) ≠ ((n : Nat) : Int))), .slice b m d, .int .i64 (((m : Nat) : Int)), .int .i64 (((k : Nat) : Int)), (y8 4), (y8 5), (y8 6), (y8 7), (y8 8), (y8 9), (y8 10), (y8 11), (y8 12), (y8 13), (y8 14), (y8 15), (y8 16), (y8 17), (y8 18), (y8 19), (y8 20), (y8 21), undef, undef, undef, undef, undef, undef, undef, undef, undef, undef, undef, undef, undef, undef, undef, undef, undef, undef, undef, undef, undef, undef, undef] ∧ (k ≤ m) ∧ (∀ i, i < k → (ds.getD i dz).lo ≤ xs.getD i 0 ∧ xs.getD i 0 ≤ (ds.getD i dz).hi) ∧ St h [] p h_ ([(b5, .cells #[.slice none 0 0] 25 (0, 0)), (b4, .cells #[.slice none 0 0] 25 (0, 0)), (b3, .cells #[.slice none 0 0] 25 (0, 0)), (b2, .cells #[.slice b m d] 25 (0, 0)), (b1, .cells #[.int .i64 (size), .int .i64 (start), .slice a n c] 24 (0, 0))])) (fun h_ H_ => ⟨0, (fun i_ => [.int .i64 0, undef, undef, undef, undef, undef, undef, undef, undef, undef, undef, undef, undef, undef, undef, undef, undef, undef, undef, undef, undef, undef].getD i_ undef), rfl, rfl, Nat.zero_le _, (fun i hi => absurd hi (Nat.not_lt_zero i)), H_⟩) ?_
      intro m_ tm_ IH9
      refine rs_ex fun k => rs_ex fun y8 => rs_and fun hm_ => rs_and fun ht_ => rs_and fun hk => rs_and fun hs => ?_
      subst hm_; subst ht_
      refine fl_seq ?_
      refine rl_start ?_
      refine rl_det (met_none rfl) (fun h_ H_ => exd_lss rfl rfl) (tm' := _::_::_::_::_::_::_::_::_::_::_::_::_::_::_::_::_::_::_::_::_::_::_::_::_::_::_::_::_::_) rfl ?_
      refine rl_end ?_
      refine fl_seq ?_
      by_cases c10 : ((k : Nat) : Int) < ((m : Nat) : Int)
      · refine fl_then rfl (decide_eq_true c10) ?_
        refine fl_skip ?_
        refine fl_seq ?_
        refine fl_block ?_
        refine fl_seq ?_
        refine rl_start ?_
        refine rl_det (met_none rfl) (fun h_ H_ => exd_move (v := .int .i64 (((k : Nat) : Int))) rfl) (tm' := _::_::_::_::_::_::_::_::_::_::_::_::_::_::_::_::_::_::_::_::_::_::_::_::_::_::_::_::_::_::_) rfl ?_
        refine rl_det (met_none rfl) (fun h_ H_ => exd_indexAddrN (i := k) Try.underlying25 tS3 (sl_ne b m d (W.ne (by omega))) rfl (by omega)) (tm' := _::_::_::_::_::_::_::_::_::_::_::_::_::_::_::_::_::_::_::_::_::_::_::_::_::_::_::_::_::_::_::_) rfl ?_
        refine rl_det (met_none rfl) (fun h_ H_ => exd_load_per H_ tA3 rfl (v := .int .i64 (xs.getD k 0)) (W.get (by omega))) (tm' := _::_::_::_::_::_::_::_::_::_::_::_::_::_::_::_::_::_::_::_::_::_::_::_::_::_::_::_::_::_::_::_::_) rfl ?_
        refine rl_det (met_none rfl) (fun h_ H_ => exd_assign (v := .int .i64 (((k : Nat) : Int))) rfl) (tm' := _::_::_::_::_::_::_::_::_::_::_) rfl ?_
        refine rl_det (met_none rfl) (fun h_ H_ => exd_assign (v := .int .i64 (xs.getD k 0)) rfl) (tm' := _::_::_::_::_::_::_::_::_::_::_::_) rfl ?_
        refine rl_end ?_
        refine fl_seq ?_
        refine rl_start ?_
        refine rl_det (met_none rfl) (fun h_ H_ => exd_fieldAddr tF24_2 rfl (a' := ⟨b1, 2, none⟩) rfl) (tm' := _::_::_::_::_::_::_::_::_::_::_::_::_::_::_::_::_::_::_::_::_::_::_::_::_::_::_::_::_::_::_::_::_::_) rfl ?_
        refine rl_det (met_none rfl) (fun h_ H_ => exd_load_own H_ tA22 rfl (i := 4) rfl (v := .slice a n c) rfl) (tm' := _::_::_::_::_::_::_::_::_::_::_::_::_::_::_::_::_::_::_::_::_::_::_::_::_::_::_::_::_::_::_::_::_::_::_) rfl ?_
        refine rl_det (met_none rfl) (fun h_ H_ => exd_move (v := .int .i64 (((k : Nat) : Int))) rfl) (tm' := _::_::_::_::_::_::_::_::_::_::_::_::_::_::_::_::_::_::_::_::_::_::_::_::_::_::_::_::_::_::_::_::_::_::_::_) rfl ?_
        refine rl_det (met_none rfl) (fun h_ H_ => exd_indexAddrN (i := k) Try.underlying22 tS38 (sl_ne a n c (D.ne (by omega))) rfl (by omega)) (tm' := _::_::_::_::_::_::_::_::_::_::_::_::_::_::_::_::_::_::_::_::_::_::_::_::_::_::_::_::_::_::_::_::_::_::_::_::_) rfl ?_
        refine rl_det (met_none rfl) (fun h_ H_ => exd_fieldAddr tF38_0 rfl (a' := (adr a).add (k * 3)) rfl) (tm' := _::_::_::_::_::_::_::_::_::_::_::_::_::_::_::_::_::_::_::_::_::_::_::_::_::_::_::_::_::_::_::_::_::_::_::_::_::_) rfl ?_
        refine rl_det (met_none rfl) (fun h_ H_ => exd_loadN_per H_ tA36 tS36 rfl (vs := [.int .i64 ((ds.getD k dz).lo), .int .i64 ((ds.getD k dz).hi)]) rfl (D.span (by omega))) (tm' := _::_::_::_::_::_::_::_::_::_::_::_::_::_::_::_::_::_::_::_::_::_::_::_::_::_::_::_::_::_::_::_::_::_::_::_::_::_::_) rfl ?_
        refine rl_alloc (met_none rfl) tZ36 rfl fun b11 => rl_own (L' := [(b11, .cells #[.int .i64 0, .int .i64 0] 36 (0, 0)), (b5, .cells #[.slice none 0 0] 25 (0, 0)), (b4, .cells #[.slice none 0 0] 25 (0, 0)), (b3, .cells #[.slice none 0 0] 25 (0, 0)), (b2, .cells #[.slice b m d] 25 (0, 0)), (b1, .cells #[.int .i64 (size), .int .i64 (start), .slice a n c] 24 (0, 0))]) rfl ?_
        refine rl_norm (tm' := _::_::_::_::_::_::_::_::_::_::_::_::_) rfl ?_
        refine rl_store (met_none rfl) tS36 rfl (v := .agg #[.int .i64 ((ds.getD k dz).lo), .int .i64 ((ds.getD k dz).hi)]) rfl (i := 0) rfl rfl rfl (Nat.le_of_ble_eq_true rfl) (cs2 := [.int .i64 ((ds.getD k dz).lo), .int .i64 ((ds.getD k dz).hi)]) rfl (rl_own (L' := [(b11, .cells #[.int .i64 ((ds.getD k dz).lo), .int .i64 ((ds.getD k dz).hi)] 36 (0, 0)), (b5, .cells #[.slice none 0 0] 25 (0, 0)), (b4, .cells #[.slice none 0 0] 25 (0, 0)), (b3, .cells #[.slice none 0 0] 25 (0, 0)), (b2, .cells #[.slice b m d] 25 (0, 0)), (b1, .cells #[.int .i64 (size), .int .i64 (start), .slice a n c] 24 (0, 0))]) rfl ?_)
        refine rl_end ?_
        refine fl_seq ?_
        refine rl_start ?_
        refine rl_det (met_none rfl) (fun h_ H_ => exd_move (v := .int .i64 (xs.getD k 0)) rfl) (tm' := _::_::_::_::_::_::_::_::_::_::_::_::_::_::_::_::_::_::_::_::_::_::_::_::_::_::_::_::_::_::_::_::_::_::_::_::_::_::_::_) rfl ?_
        refine rl_det (met_none rfl) (fun h_ H_ => exd_fieldAddr tF36_0 rfl (a' := ⟨b11, 0, none⟩) rfl) (tm' := _::_::_::_::_::_::_::_::_::_::_::_::_::_::_::_::_::_::_::_::_::_::_::_::_::_::_::_::_::_::_::_::_::_::_::_::_::_::_::_::_) rfl ?_
        refine rl_det (met_none rfl) (fun h_ H_ => exd_load_own H_ tA3 rfl (i := 0) rfl (v := .int .i64 ((ds.getD k dz).lo)) rfl) (tm' := _::_::_::_::_::_::_::_::_::_::_::_::_::_::_::_::_::_::_::_::_::_::_::_::_::_::_::_::_::_::_::_::_::_::_::_::_::_::_::_::_::_) rfl ?_
        refine rl_det (met_none rfl) (fun h_ H_ => exd_fieldAddr tF36_1 rfl (a' := ⟨b11, 1, none⟩) rfl) (tm' := _::_::_::_::_::_::_::_::_::_::_::_::_::_::_::_::_::_::_::_::_::_::_::_::_::_::_::_::_::_::_::_::_::_::_::_::_::_::_::_::_::_::_) rfl ?_
        refine rl_det (met_none rfl) (fun h_ H_ => exd_load_own H_ tA3 rfl (i := 0) rfl (v := .int .i64 ((ds.getD k dz).hi)) rfl) (tm' := _::_::_::_::_::_::_::_::_::_::_::_::_::_::_::_::_::_::_::_::_::_::_::_::_::_::_::_::_::_::_::_::_::_::_::_::_::_::_::_::_::_::_::_) rfl ?_
        refine rl_calld (met_none rfl) (first := []) (cap := []) rfl rfl fC70 (fun h_ H_ => c70 md _ (xs.getD k 0) ((ds.getD k dz).lo) ((ds.getD k dz).hi)) (tm' := _::_::_::_::_::_::_::_::_::_::_::_::_::_::_::_::_::_::_::_::_::_::_::_::_::_::_::_::_::_::_::_::_::_::_::_::_::_::_::_::_::_::_::_::_) rfl ?_
        refine rl_det (met_none rfl) (fun h_ H_ => exd_not rfl) (tm' := _::_::_::_::_::_::_::_::_::_::_::_::_::_::_::_::_::_::_::_::_::_::_::_::_::_::_::_::_::_::_::_::_::_::_::_::_::_::_::_::_::_::_::_::_::_) rfl ?_
        refine rl_end ?_
        by_cases c12 : (ds.getD k dz).lo ≤ xs.getD k 0 ∧ xs.getD k 0 ≤ (ds.getD k dz).hi
        · refine fl_else rfl (not_f (decide_eq_true c12)) ?_
          refine fl_skip ?_
          refine fl_inBlock ?_
          refine rl_start ?_
          refine rl_det (met_none rfl) (fun h_ H_ => exd_add rfl rfl (n := ((k + 1 : Nat) : Int)) (wr (by omega))) (tm' := _::_::_::_::_::_::_::_::_::_::_::_::_::_::_::_::_::_::_::_::_::_::_::_::_::_::_::_::_::_::_::_::_::_::_::_::_::_::_::_::_::_::_::_::_::_::_) rfl ?_
          refine rl_det (met_none rfl) (fun h_ H_ => exd_move (v := .int .i64 (((k + 1 : Nat) : Int))) rfl) (tm' := _::_::_::_::_::_::_::_::_::_::_::_::_::_::_::_::_::_::_::_::_::_::_::_::_::_::_::_::_) rfl ?_
          refine rl_end ?_
          exact fun h_ H_ => IH9 _ _ (by omega) h_ ⟨k + 1, (fun i_ => [(y8 0), .int .i64 (((k : Nat) : Int)), .int .i64 (xs.getD k 0), .pointer (some ⟨b11, 0, none⟩), .bool (decide (((k : Nat) : Int) < ((m : Nat) : Int))), .int .i64 (((k : Nat) : Int)), .pointer (some ((adr b).add (k * 1))), .int .i64 (xs.getD k 0), .pointer (some ⟨b1, 2, none⟩), .slice a n c, .int .i64 (((k : Nat) : Int)), .pointer (some ((adr a).add (k * 3))), .pointer (some ((adr a).add (k * 3))), .agg #[.int .i64 ((ds.getD k dz).lo), .int .i64 ((ds.getD k dz).hi)], .int .i64 (xs.getD k 0), .pointer (some ⟨b11, 0, none⟩), .int .i64 ((ds.getD k dz).lo), .pointer (some ⟨b11, 1, none⟩), .int .i64 ((ds.getD k dz).hi), .bool (decide ((ds.getD k dz).lo ≤ xs.getD k 0 ∧ xs.getD k 0 ≤ (ds.getD k dz).hi)), .bool (!(decide ((ds.getD k dz).lo ≤ xs.getD k 0 ∧ xs.getD k 0 ≤ (ds.getD k dz).hi))), .int .i64 (((k + 1 : Nat) : Int))].getD i_ undef), rfl, rfl, (by omega), (weather_step hs ‹_›), H_.drop⟩
        · refine fl_then rfl (not_t (decide_eq_false c12)) ?_
          refine fl_seq ?_
          refine rl_start ?_
          refine rl_store (met_none rfl) tS25 rfl (v := .slice none 0 0) rfl (i := 3) rfl rfl rfl (Nat.le_of_ble_eq_true rfl) (cs2 := [.slice none 0 0]) rfl (rl_own (L' := [(b11, .cells #[.int .i64 ((ds.getD k dz).lo), .int .i64 ((ds.getD k dz).hi)] 36 (0, 0)), (b5, .cells #[.slice none 0 0] 25 (0, 0)), (b4, .cells #[.slice none 0 0] 25 (0, 0)), (b3, .cells #[.slice none 0 0] 25 (0, 0)), (b2, .cells #[.slice b m d] 25 (0, 0)), (b1, .cells #[.int .i64 (size), .int .i64 (start), .slice a n c] 24 (0, 0))]) rfl ?_)
          refine rl_store (met_none rfl) tS25 rfl (v := .slice none 0 0) rfl (i := 2) rfl rfl rfl (Nat.le_of_ble_eq_true rfl) (cs2 := [.slice none 0 0]) rfl (rl_own (L' := [(b11, .cells #[.int .i64 ((ds.getD k dz).lo), .int .i64 ((ds.getD k dz).hi)] 36 (0, 0)), (b5, .cells #[.slice none 0 0] 25 (0, 0)), (b4, .cells #[.slice none 0 0] 25 (0, 0)), (b3, .cells #[.slice none 0 0] 25 (0, 0)), (b2, .cells #[.slice b m d] 25 (0, 0)), (b1, .cells #[.int .i64 (size), .int .i64 (start), .slice a n c] 24 (0, 0))]) rfl ?_)
          refine rl_store (met_none rfl) tS25 rfl (v := .slice none 0 0) rfl (i := 1) rfl rfl rfl (Nat.le_of_ble_eq_true rfl) (cs2 := [.slice none 0 0]) rfl (rl_own (L' := [(b11, .cells #[.int .i64 ((ds.getD k dz).lo), .int .i64 ((ds.getD k dz).hi)] 36 (0, 0)), (b5, .cells #[.slice none 0 0] 25 (0, 0)), (b4, .cells #[.slice none 0 0] 25 (0, 0)), (b3, .cells #[.slice none 0 0] 25 (0, 0)), (b2, .cells #[.slice b m d] 25 (0, 0)), (b1, .cells #[.int .i64 (size), .int .i64 (start), .slice a n c] 24 (0, 0))]) rfl ?_)
          refine rl_det (met_none rfl) (fun h_ H_ => exd_assign (v := .int .i64 1) rfl) (tm' := _::_::_::_::_::_::_::_::_) rfl ?_
          refine rl_end ?_
          refine fl_ret Try.func34 rfl (vs := [.slice none 0 0, .slice none 0 0, .slice none 0 0, .int .i64 1]) (fun h_ H_ => ⟨.slice none 0 0, _, rfl, (wpS_bind (wpS_pure (wpS_loadVar1 tA25 (H_.ocell (i := 3) rfl (v := .slice none 0 0) rfl) ⟨rfl, rfl⟩))), ⟨.slice none 0 0, _, rfl, (wpS_bind (wpS_pure (wpS_loadVar1 tA25 (H_.ocell (i := 2) rfl (v := .slice none 0 0) rfl) ⟨rfl, rfl⟩))), ⟨.slice none 0 0, _, rfl, (wpS_bind (wpS_pure (wpS_loadVar1 tA25 (H_.ocell (i := 1) rfl (v := .slice none 0 0) rfl) ⟨rfl, rfl⟩))), ⟨.int .i64 1, _, rfl, rfl, rfl⟩⟩⟩⟩) (v := .tuple #[.slice none 0 0, .slice none 0 0, .slice none 0 0, .int .i64 1]) rfl ?_
          have hOk : Ok size start ds := chk_zero.1 (by omega)
          have hX : ¬ Weather ds xs := fun e => by first | (have := e.1; omega) | (have := e.2 k (by omega); omega)
          exact fun h_ H_ => K _ _ ⟨.slice none 0 0, .slice none 0 0, .slice none 0 0, [], [], [], by rw [askd_arg hOk (decide_eq_false hX)], fun e => absurd e.2 hX, fun _ => ⟨rfl, rfl, rfl, rfl, rfl, rfl⟩, (H_.sub (List.nil_sublist _)).new⟩
      · refine fl_else rfl (decide_eq_false c10) ?_
        refine fl_exit rfl ?_
        refine fl_seq ?_
        refine fl_seq ?_
        refine rl_start ?_
        refine rl_det (met_none rfl) (fun h_ H_ => exd_loadN_own H_ tA24 tS24 rfl (i := 4) rfl (vs := [.int .i64 (size), .int .i64 (start), .slice a n c]) rfl rfl) (tm' := [_,_,_,_,_,_,_,_,_,_,_,_,_,_,_,_,_,_,_,_,_,_,_,_,_,_,_,_,_,_,_,_,_,_,_,_,_,_,_,_,_,_,_,_,_,_,_,_,_,_,_,_,_,_,_,_,_,_,_,_,_,_,_,_,_,_,_,_,_]) rfl ?_
        refine rl_det (met_none rfl) (fun h_ H_ => exd_makeFunc (a := []) (b := [.pointer (some ⟨b2, 0, none⟩)]) rfl rfl) (tm' := [_,_,_,_,_,_,_,_,_,_,_,_,_,_,_,_,_,_,_,_,_,_,_,_,_,_,_,_,_,_,_,_,_,_,_,_,_,_,_,_,_,_,_,_,_,_,_,_,_,_,_,_,_,_,_,_,_,_,_,_,_,_,_,_,_,_,_,_,_]) rfl ?_
        refine rl_call (met_none rfl) (first := []) (cap := []) rfl rfl fC72 (R := fun v_ h_ => ∃ b13 : Nat, ∃ b14 : Nat, v_ = .func (.func 95) #[] #[.pointer (some ⟨b13, 0, none⟩), .pointer (some ⟨b14, 0, none⟩)] ∧ St h [] p h_ ([(b14, .cells #[.func (.func 73) #[] #[.pointer (some ⟨b2, 0, none⟩)]] 77 (0, 0)), (b13, .cells #[.int .i64 (size), .int .i64 (start), .slice a n c] 24 (0, 0)), (b5, .cells #[.slice none 0 0] 25 (0, 0)), (b4, .cells #[.slice none 0 0] 25 (0, 0)), (b3, .cells #[.slice none 0 0] 25 (0, 0)), (b2, .cells #[.slice b m d] 25 (0, 0)), (b1, .cells #[.int .i64 (size), .int .i64 (start), .slice a n c] 24 (0, 0))])) (fun h_ H_ => (c72 md _ (size) (start) _ _ _ (.func (.func 73) #[] #[.pointer (some ⟨b2, 0, none⟩)]) rfl).mono fun v_ h2_ ⟨b13, b14, e_, N_⟩ => ⟨b13, b14, e_, H_.callN N_⟩) fun v_ => ?_
        refine rl_ex fun b13 => rl_ex fun b14 => rl_and fun ev_ => ?_
        have ev_ := ev_.symm; subst ev_
        refine rl_norm (tm' := [_,_,_,_,_,_,_,_,_,_,_,_,_,_,_,_,_,_,_,_,_,_,_,_,_,_,_,_,_,_,_,_,_,_,_,_,_,_,_,_,_,_,_,_,_,_,_,_,_,_,_,_,_,_,_,_,_,_,_,_,_,_,_,_,_,_,_,_,_]) rfl ?_
        refine rl_end ?_
        refine fl_block ?_
        refine rs_last 0 rfl (L' := [(b13, .cells #[.int .i64 (size), .int .i64 (start), .slice a n c] 24 (0, 0)), (b5, .cells #[.slice none 0 0] 25 (0, 0)), (b4, .cells #[.slice none 0 0] 25 (0, 0)), (b3, .cells #[.slice none 0 0] 25 (0, 0)), (b2, .cells #[.slice b m d] 25 (0, 0)), (b1, .cells #[.int .i64 (size), .int .i64 (start), .slice a n c] 24 (0, 0))]) rfl fun p15 le16 hb17 => ?_
        refine rs_last 0 rfl (L' := [(b5, .cells #[.slice none 0 0] 25 (0, 0)), (b4, .cells #[.slice none 0 0] 25 (0, 0)), (b3, .cells #[.slice none 0 0] 25 (0, 0)), (b2, .cells #[.slice b m d] 25 (0, 0)), (b1, .cells #[.int .i64 (size), .int .i64 (start), .slice a n c] 24 (0, 0))]) rfl fun p18 le19 hb20 => ?_
        refine rs_last 3 rfl (L' := [(b5, .cells #[.slice none 0 0] 25 (0, 0)), (b4, .cells #[.slice none 0 0] 25 (0, 0)), (b3, .cells #[.slice none 0 0] 25 (0, 0)), (b1, .cells #[.int .i64 (size), .int .i64 (start), .slice a n c] 24 (0, 0))]) rfl fun p21 le22 hb23 => ?_
        have hOk : Ok size start ds := chk_zero.1 (by omega)
        have hL := hOk.lok
        have hX : Weather ds xs := ⟨by omega, fun i hi => hs i (by omega)⟩
        have hmin : min start size = start := by have := hOk.2.2.2.1; omega
        have hb0 := hL.1; have hb1 := hL.2.1; have hb2 := hL.2.2.1
        refine fl_range (R := fun r_ l_ lp_ _ h_ => ∃ X_, ((∃ w1 : Value, ∃ w2 : Value, ∃ w3 : Value, ∃ X1 : Pcs, ∃ X2 : Pcs, ∃ X3 : Pcs, X_ = ([(l_, .loop lp_), (r_, .deferred (some [])), (b5, .cells #[w3] 25 (0, 0)), (b4, .cells #[w2] 25 (0, 0)), (b3, .cells #[w1] 25 (0, 0)), (b1, .cells #[.int .i64 (size), .int .i64 (start), .slice a n c] 24 (0, 0))] : Pcs) ++ (X1 ++ (X2 ++ (X3 ++ []))) ∧ (OwnS 3 1 w1 (ns (levs size (min start size) (wantOf ds) (listOf xs)) n) X1) ∧ (OwnS 3 1 w2 (ns (lack size (min start size) (wantOf ds) (listOf xs)) n) X2) ∧ (OwnS 3 1 w3 (ns (ovr size (min start size) (wantOf ds) (listOf xs)) n) X3)) ∨ (False)) ∧ St h [] p21 h_ X_) ?_ ?_
        · intro r_ l_ lp_ h_ hlp_ s_
          show CallV _ md (.func (.func 95) ([] : List Value).toArray ([.pointer (some ⟨b13, 0, none⟩), .pointer (some ⟨b14, 0, none⟩)] : List Value).toArray) _ h_ _
          refine callv_of fC95 ?_
          refine c95 md _ _ _ _ _ s_ (.func (.yield l_) #[] #[]) (.func (.func 73) #[] #[.pointer (some ⟨b2, 0, none⟩)]) _ _ _ _ _ _ _ _ (((D.mono le16).mono le19).mono le22) (by omega) (listOf xs) (le22 _ _ hb20) (le22 _ _ (le19 _ _ hb17)) ⟨by omega, by omega, by omega⟩ (fun i hi => by have := hL.2.2.2.2.2 i (by omega); omega) (fun i hi => by have := hL.2.2.2.2.2 i (by omega); have := hX.2 i (by omega); unfold listOf; omega) (fun h_ i_ hp_ hi_ => callv_of fC73 (c73 md _ _ hp_ _ _ _ _ _ (((W.mono le16).mono le19).mono le22) hb23 i_ (by omega))) (fun rd_ X_ => ∃ w1 : Value, ∃ w2 : Value, ∃ w3 : Value, ∃ X1 : Pcs, ∃ X2 : Pcs, ∃ X3 : Pcs, X_ = ([(l_, .loop lp_), (r_, .deferred (some [])), (b5, .cells #[w3] 25 (0, 0)), (b4, .cells #[w2] 25 (0, 0)), (b3, .cells #[w1] 25 (0, 0)), (b1, .cells #[.int .i64 (size), .int .i64 (start), .slice a n c] 24 (0, 0))] : Pcs) ++ (X1 ++ (X2 ++ (X3 ++ []))) ∧ (OwnS 3 1 w1 (ns (levs size (min start size) (wantOf ds) (listOf xs)) rd_) X1) ∧ (OwnS 3 1 w2 (ns (lack size (min start size) (wantOf ds) (listOf xs)) rd_) X2) ∧ (OwnS 3 1 w3 (ns (ovr size (min start size) (wantOf ds) (listOf xs)) rd_) X3)) (fun X_ => False) ⟨_, _, _, [], [], [], by simp, OwnS.empty _ _, OwnS.empty _ _, OwnS.empty _ _⟩ ?_
          intro rd_ h_ Z_ X_ hi_ hI_ s_
          obtain ⟨w1, w2, w3, X1, X2, X3, rfl, o1, o2, o3⟩ := hI_
          refine callv_round (Φ := fun h_ => St h [] p21 h_ (([(l_, .loop lp_), (r_, .deferred (some [])), (b5, .cells #[w3] 25 (0, 0)), (b4, .cells #[w2] 25 (0, 0)), (b3, .cells #[w1] 25 (0, 0)), (b1, .cells #[.int .i64 (size), .int .i64 (start), .slice a n c] 24 (0, 0))] : Pcs) ++ (X1 ++ (X2 ++ (X3 ++ (Z_ ++ [])))))) (s_.rot.at (i := 0) rfl) hlp_ rfl (tm' := [.agg #[.int .i64 (size), .int .i64 (start), .slice a n c], .slice b m d, .pointer (some ⟨b1, 0, none⟩), .pointer (some ⟨b2, 0, none⟩), .pointer (some ⟨b3, 0, none⟩), .pointer (some ⟨b4, 0, none⟩), .pointer (some ⟨b5, 0, none⟩), (y8 0), .int .i64 (chk (size) (start) ds), (y8 1), (y8 2), (y8 3), undef, undef, .agg #[.int .i64 (size), .int .i64 (start), .slice a n c], .int .i64 (chk (size) (start) ds), .int .i64 (chk (size) (start) ds), .bool (decide (chk (size) (start) ds ≠ 0)), undef, .slice b m d, .int .i64 (((m : Nat) : Int)), .pointer (some ⟨b1, 2, none⟩), .slice a n c, .int .i64 (((n : Nat) : Int)), .bool (decide (((m : Nat) : Int) ≠ ((n : Nat) : Int))), .slice b m d, .int .i64 (((m : Nat) : Int)), .int .i64 (((k : Nat) : Int)), .bool (decide (((k : Nat) : Int) < ((m : Nat) : Int))), (y8 5), (y8 6), (y8 7), (y8 8), (y8 9), (y8 10), (y8 11), (y8 12), (y8 13), (y8 14), (y8 15), (y8 16), (y8 17), (y8 18), (y8 19), (y8 20), (y8 21), .agg #[.int .i64 (size), .int .i64 (start), .slice a n c], .func (.func 73) #[] #[.pointer (some ⟨b2, 0, none⟩)], .func (.func 95) #[] #[.pointer (some ⟨b13, 0, none⟩), .pointer (some ⟨b14, 0, none⟩)], .int .i64 (((rd_ : Nat) : Int)), .agg #[.int .i64 (lev size (min start size) (wantOf ds) (listOf xs) (rd_ + 1)), .int .i64 (lack size (min start size) (wantOf ds) (listOf xs) rd_), .int .i64 (ovr size (min start size) (wantOf ds) (listOf xs) rd_)], undef, undef, undef, undef, undef, undef, undef, undef, undef, undef, undef, undef, undef, undef, undef, undef, undef, undef]) rfl ?_ (by simpa using s_.rot)
          intro c₁ cs₁ Stop₁ K₁
          refine rl_start ?_
          refine rl_alloc (met_none rfl) tZ72 rfl fun b24 => rl_own (L' := ([(b24, .cells #[.int .i64 0, .int .i64 0, .int .i64 0] 72 (0, 0)), (l_, .loop lp_), (r_, .deferred (some [])), (b5, .cells #[w3] 25 (0, 0)), (b4, .cells #[w2] 25 (0, 0)), (b3, .cells #[w1] 25 (0, 0)), (b1, .cells #[.int .i64 (size), .int .i64 (start), .slice a n c] 24 (0, 0))] : Pcs) ++ (X1 ++ (X2 ++ (X3 ++ (Z_ ++ []))))) rfl ?_
          refine rl_norm (tm' := _::_::_::_::_::_::_::_::_::_::_::_::_::_::_) rfl ?_
          refine rl_store (met_none rfl) tS72 rfl (v := .agg #[.int .i64 (lev size (min start size) (wantOf ds) (listOf xs) (rd_ + 1)), .int .i64 (lack size (min start size) (wantOf ds) (listOf xs) rd_), .int .i64 (ovr size (min start size) (wantOf ds) (listOf xs) rd_)]) rfl (i := 0) rfl rfl rfl (Nat.le_of_ble_eq_true rfl) (cs2 := [.int .i64 (lev size (min start size) (wantOf ds) (listOf xs) (rd_ + 1)), .int .i64 (lack size (min start size) (wantOf ds) (listOf xs) rd_), .int .i64 (ovr size (min start size) (wantOf ds) (listOf xs) rd_)]) rfl (rl_own (L' := ([(b24, .cells #[.int .i64 (lev size (min start size) (wantOf ds) (listOf xs) (rd_ + 1)), .int .i64 (lack size (min start size) (wantOf ds) (listOf xs) rd_), .int .i64 (ovr size (min start size) (wantOf ds) (listOf xs) rd_)] 72 (0, 0)), (l_, .loop lp_), (r_, .deferred (some [])), (b5, .cells #[w3] 25 (0, 0)), (b4, .cells #[w2] 25 (0, 0)), (b3, .cells #[w1] 25 (0, 0)), (b1, .cells #[.int .i64 (size), .int .i64 (start), .slice a n c] 24 (0, 0))] : Pcs) ++ (X1 ++ (X2 ++ (X3 ++ (Z_ ++ []))))) rfl ?_)
          refine rl_end ?_
          refine fl_begin (i := 1) rfl (by rw [hlp_]; rfl) ?_
          refine rs_own (L' := ([(b24, .cells #[.int .i64 (lev size (min start size) (wantOf ds) (listOf xs) (rd_ + 1)), .int .i64 (lack size (min start size) (wantOf ds) (listOf xs) rd_), .int .i64 (ovr size (min start size) (wantOf ds) (listOf xs) rd_)] 72 (0, 0)), (l_, .loop { lp_ with state := .busy }), (r_, .deferred (some [])), (b5, .cells #[w3] 25 (0, 0)), (b4, .cells #[w2] 25 (0, 0)), (b3, .cells #[w1] 25 (0, 0)), (b1, .cells #[.int .i64 (size), .int .i64 (start), .slice a n c] 24 (0, 0))] : Pcs) ++ (X1 ++ (X2 ++ (X3 ++ (Z_ ++ []))))) rfl ?_
          refine fl_block ?_
          refine rs_as (fl_mixed (C := []) (A := ([(b24, .cells #[.int .i64 (lev size (min start size) (wantOf ds) (listOf xs) (rd_ + 1)), .int .i64 (lack size (min start size) (wantOf ds) (listOf xs) rd_), .int .i64 (ovr size (min start size) (wantOf ds) (listOf xs) rd_)] 72 (0, 0)), (l_, .loop { lp_ with state := .busy }), (r_, .deferred (some [])), (b5, .cells #[w3] 25 (0, 0)), (b4, .cells #[w2] 25 (0, 0)), (b3, .cells #[w1] 25 (0, 0)), (b1, .cells #[.int .i64 (size), .int .i64 (start), .slice a n c] 24 (0, 0))] : Pcs)) 14 [[], [], [1], [1, 2], [0, 1, 2, 3], [], [], [6], [6, 7], [0, 1, 2, 3, 4, 5, 6, 7, 8], [], [], [11], [11, 12], [5, 6, 7, 8, 9, 10, 11, 12, 13], [10, 11, 12, 13, 14], [], []] [14, 15, 16, 17] [16, 17, 4, 9, 13] [0, 1, 2, 5, 6, 7, 10, 11, 12] (fun i_ => match i_ with | 14 => X1 | 15 => X2 | 16 => X3 | 17 => Z_ | _ => []) (fun i_ => match i_ with | 4 => [14, 3] | 9 => [15, 8] | _ => []) (fun i_ v_ x_ => match i_ with | 0 => v_ = w1 ∧ x_ = [] | 1 => v_ = .pointer (some ⟨b24, 0, none⟩) ∧ x_ = [] | 2 => v_ = .int .i64 (lev size (min start size) (wantOf ds) (listOf xs) (rd_ + 1)) ∧ x_ = [] | 3 => OwnS 3 1 v_ [[.int .i64 (lev size (min start size) (wantOf ds) (listOf xs) (rd_ + 1))]] x_ | 4 => OwnS 3 1 v_ (ns (levs size (min start size) (wantOf ds) (listOf xs)) rd_ ++ [[.int .i64 (lev size (min start size) (wantOf ds) (listOf xs) (rd_ + 1))]]) x_ | 5 => v_ = w2 ∧ x_ = [] | 6 => v_ = .pointer (some ⟨b24, 1, none⟩) ∧ x_ = [] | 7 => v_ = .int .i64 (lack size (min start size) (wantOf ds) (listOf xs) rd_) ∧ x_ = [] | 8 => OwnS 3 1 v_ [[.int .i64 (lack size (min start size) (wantOf ds) (listOf xs) rd_)]] x_ | 9 => OwnS 3 1 v_ (ns (lack size (min start size) (wantOf ds) (listOf xs)) rd_ ++ [[.int .i64 (lack size (min start size) (wantOf ds) (listOf xs) rd_)]]) x_ | 10 => v_ = w3 ∧ x_ = [] | 11 => v_ = .pointer (some ⟨b24, 2, none⟩) ∧ x_ = [] | 12 => v_ = .int .i64 (ovr size (min start size) (wantOf ds) (listOf xs) rd_) ∧ x_ = [] | 13 => OwnS 3 1 v_ [[.int .i64 (ovr size (min start size) (wantOf ds) (listOf xs) rd_)]] x_ | _ => True) (fun val25 => [.agg #[.int .i64 (size), .int .i64 (start), .slice a n c], .slice b m d, .pointer (some ⟨b1, 0, none⟩), .pointer (some ⟨b2, 0, none⟩), .pointer (some ⟨b3, 0, none⟩), .pointer (some ⟨b4, 0, none⟩), .pointer (some ⟨b5, 0, none⟩), (y8 0), .int .i64 (chk (size) (start) ds), (y8 1), (y8 2), (y8 3), undef, .pointer (some ⟨b24, 0, none⟩), .agg #[.int .i64 (size), .int .i64 (start), .slice a n c], .int .i64 (chk (size) (start) ds), .int .i64 (chk (size) (start) ds), .bool (decide (chk (size) (start) ds ≠ 0)), undef, .slice b m d, .int .i64 (((m : Nat) : Int)), .pointer (some ⟨b1, 2, none⟩), .slice a n c, .int .i64 (((n : Nat) : Int)), .bool (decide (((m : Nat) : Int) ≠ ((n : Nat) : Int))), .slice b m d, .int .i64 (((m : Nat) : Int)), .int .i64 (((k : Nat) : Int)), .bool (decide (((k : Nat) : Int) < ((m : Nat) : Int))), (y8 5), (y8 6), (y8 7), (y8 8), (y8 9), (y8 10), (y8 11), (y8 12), (y8 13), (y8 14), (y8 15), (y8 16), (y8 17), (y8 18), (y8 19), (y8 20), (y8 21), .agg #[.int .i64 (size), .int .i64 (start), .slice a n c], .func (.func 73) #[] #[.pointer (some ⟨b2, 0, none⟩)], .func (.func 95) #[] #[.pointer (some ⟨b13, 0, none⟩), .pointer (some ⟨b14, 0, none⟩)], .int .i64 (((rd_ : Nat) : Int)), .agg #[.int .i64 (lev size (min start size) (wantOf ds) (listOf xs) (rd_ + 1)), .int .i64 (lack size (min start size) (wantOf ds) (listOf xs) rd_), .int .i64 (ovr size (min start size) (wantOf ds) (listOf xs) rd_)], (val25 0), (val25 1), (val25 2), (val25 3), (val25 4), (val25 5), (val25 6), (val25 7), (val25 8), (val25 9), (val25 10), (val25 11), (val25 12), (val25 13), undef, undef, undef, undef]) mixed (by kernel_rfl) (Nat.le_of_ble_eq_true rfl) (by kernel_rfl) (by kernel_rfl) ⟨fun _ _ h => h.2, ⟨fun _ _ h => h.2, ⟨fun _ _ h => h.2, ⟨fun _ _ h => h.2, ⟨fun _ _ h => h.2, ⟨fun _ _ h => h.2, ⟨fun _ _ h => h.2, ⟨fun _ _ h => h.2, ⟨fun _ _ h => h.2, trivial⟩⟩⟩⟩⟩⟩⟩⟩⟩ (fun _ => by kernel_rfl) (by kernel_rfl) ?_ ?_) (fun h_ H_ => St.swap (A := ([(b24, .cells #[.int .i64 (lev size (min start size) (wantOf ds) (listOf xs) (rd_ + 1)), .int .i64 (lack size (min start size) (wantOf ds) (listOf xs) rd_), .int .i64 (ovr size (min start size) (wantOf ds) (listOf xs) rd_)] 72 (0, 0)), (l_, .loop { lp_ with state := .busy }), (r_, .deferred (some [])), (b5, .cells #[w3] 25 (0, 0)), (b4, .cells #[w2] 25 (0, 0)), (b3, .cells #[w1] 25 (0, 0)), (b1, .cells #[.int .i64 (size), .int .i64 (start), .slice a n c] 24 (0, 0))] : Pcs)) (U := (X1 ++ (X2 ++ (X3 ++ (Z_ ++ []))))) H_)
          · refine mixes_cons rfl (opmix ?_) ?_
            · intro val25 pc26 hQ_ hX_
              refine ⟨[.agg #[.int .i64 (size), .int .i64 (start), .slice a n c], .slice b m d, .pointer (some ⟨b1, 0, none⟩), .pointer (some ⟨b2, 0, none⟩), .pointer (some ⟨b3, 0, none⟩), .pointer (some ⟨b4, 0, none⟩), .pointer (some ⟨b5, 0, none⟩), (y8 0), .int .i64 (chk (size) (start) ds), (y8 1), (y8 2), (y8 3), undef, .pointer (some ⟨b24, 0, none⟩), .agg #[.int .i64 (size), .int .i64 (start), .slice a n c], .int .i64 (chk (size) (start) ds), .int .i64 (chk (size) (start) ds), .bool (decide (chk (size) (start) ds ≠ 0)), undef, .slice b m d, .int .i64 (((m : Nat) : Int)), .pointer (some ⟨b1, 2, none⟩), .slice a n c, .int .i64 (((n : Nat) : Int)), .bool (decide (((m : Nat) : Int) ≠ ((n : Nat) : Int))), .slice b m d, .int .i64 (((m : Nat) : Int)), .int .i64 (((k : Nat) : Int)), .bool (decide (((k : Nat) : Int) < ((m : Nat) : Int))), (y8 5), (y8 6), (y8 7), (y8 8), (y8 9), (y8 10), (y8 11), (y8 12), (y8 13), (y8 14), (y8 15), (y8 16), (y8 17), (y8 18), (y8 19), (y8 20), (y8 21), .agg #[.int .i64 (size), .int .i64 (start), .slice a n c], .func (.func 73) #[] #[.pointer (some ⟨b2, 0, none⟩)], .func (.func 95) #[] #[.pointer (some ⟨b13, 0, none⟩), .pointer (some ⟨b14, 0, none⟩)], .int .i64 (((rd_ : Nat) : Int)), .agg #[.int .i64 (lev size (min start size) (wantOf ds) (listOf xs) (rd_ + 1)), .int .i64 (lack size (min start size) (wantOf ds) (listOf xs) rd_), .int .i64 (ovr size (min start size) (wantOf ds) (listOf xs) rd_)], (val25 0), (val25 1), (val25 2), (val25 3), (val25 4), (val25 5), (val25 6), (val25 7), (val25 8), (val25 9), (val25 10), (val25 11), (val25 12), (val25 13), undef, undef, undef, undef], [], rfl, rfl, ?_⟩
              exact mix_det (met_none rfl) (fun _ h_ H_ => exd_load_own H_ tA25 rfl (i := 5) rfl (v := w1) rfl) ⟨rfl, rfl⟩
            refine mixes_cons rfl (opmix ?_) ?_
            · intro val25 pc26 hQ_ hX_
              refine ⟨[.agg #[.int .i64 (size), .int .i64 (start), .slice a n c], .slice b m d, .pointer (some ⟨b1, 0, none⟩), .pointer (some ⟨b2, 0, none⟩), .pointer (some ⟨b3, 0, none⟩), .pointer (some ⟨b4, 0, none⟩), .pointer (some ⟨b5, 0, none⟩), (y8 0), .int .i64 (chk (size) (start) ds), (y8 1), (y8 2), (y8 3), undef, .pointer (some ⟨b24, 0, none⟩), .agg #[.int .i64 (size), .int .i64 (start), .slice a n c], .int .i64 (chk (size) (start) ds), .int .i64 (chk (size) (start) ds), .bool (decide (chk (size) (start) ds ≠ 0)), undef, .slice b m d, .int .i64 (((m : Nat) : Int)), .pointer (some ⟨b1, 2, none⟩), .slice a n c, .int .i64 (((n : Nat) : Int)), .bool (decide (((m : Nat) : Int) ≠ ((n : Nat) : Int))), .slice b m d, .int .i64 (((m : Nat) : Int)), .int .i64 (((k : Nat) : Int)), .bool (decide (((k : Nat) : Int) < ((m : Nat) : Int))), (y8 5), (y8 6), (y8 7), (y8 8), (y8 9), (y8 10), (y8 11), (y8 12), (y8 13), (y8 14), (y8 15), (y8 16), (y8 17), (y8 18), (y8 19), (y8 20), (y8 21), .agg #[.int .i64 (size), .int .i64 (start), .slice a n c], .func (.func 73) #[] #[.pointer (some ⟨b2, 0, none⟩)], .func (.func 95) #[] #[.pointer (some ⟨b13, 0, none⟩), .pointer (some ⟨b14, 0, none⟩)], .int .i64 (((rd_ : Nat) : Int)), .agg #[.int .i64 (lev size (min start size) (wantOf ds) (listOf xs) (rd_ + 1)), .int .i64 (lack size (min start size) (wantOf ds) (listOf xs) rd_), .int .i64 (ovr size (min start size) (wantOf ds) (listOf xs) rd_)], (val25 0), (val25 1), (val25 2), (val25 3), (val25 4), (val25 5), (val25 6), (val25 7), (val25 8), (val25 9), (val25 10), (val25 11), (val25 12), (val25 13), undef, undef, undef, undef], [], rfl, rfl, ?_⟩
              exact mix_det (met_none rfl) (fun _ h_ H_ => exd_fieldAddr tF72_0 rfl (a' := ⟨b24, 0, none⟩) rfl) ⟨rfl, rfl⟩
            refine mixes_cons rfl (opmix ?_) ?_
            · intro val25 pc26 hQ_ hX_
              have e1_ : val25 1 = .pointer (some ⟨b24, 0, none⟩) := (hQ_ 1 rfl).1
              refine ⟨[.agg #[.int .i64 (size), .int .i64 (start), .slice a n c], .slice b m d, .pointer (some ⟨b1, 0, none⟩), .pointer (some ⟨b2, 0, none⟩), .pointer (some ⟨b3, 0, none⟩), .pointer (some ⟨b4, 0, none⟩), .pointer (some ⟨b5, 0, none⟩), (y8 0), .int .i64 (chk (size) (start) ds), (y8 1), (y8 2), (y8 3), undef, .pointer (some ⟨b24, 0, none⟩), .agg #[.int .i64 (size), .int .i64 (start), .slice a n c], .int .i64 (chk (size) (start) ds), .int .i64 (chk (size) (start) ds), .bool (decide (chk (size) (start) ds ≠ 0)), undef, .slice b m d, .int .i64 (((m : Nat) : Int)), .pointer (some ⟨b1, 2, none⟩), .slice a n c, .int .i64 (((n : Nat) : Int)), .bool (decide (((m : Nat) : Int) ≠ ((n : Nat) : Int))), .slice b m d, .int .i64 (((m : Nat) : Int)), .int .i64 (((k : Nat) : Int)), .bool (decide (((k : Nat) : Int) < ((m : Nat) : Int))), (y8 5), (y8 6), (y8 7), (y8 8), (y8 9), (y8 10), (y8 11), (y8 12), (y8 13), (y8 14), (y8 15), (y8 16), (y8 17), (y8 18), (y8 19), (y8 20), (y8 21), .agg #[.int .i64 (size), .int .i64 (start), .slice a n c], .func (.func 73) #[] #[.pointer (some ⟨b2, 0, none⟩)], .func (.func 95) #[] #[.pointer (some ⟨b13, 0, none⟩), .pointer (some ⟨b14, 0, none⟩)], .int .i64 (((rd_ : Nat) : Int)), .agg #[.int .i64 (lev size (min start size) (wantOf ds) (listOf xs) (rd_ + 1)), .int .i64 (lack size (min start size) (wantOf ds) (listOf xs) rd_), .int .i64 (ovr size (min start size) (wantOf ds) (listOf xs) rd_)], (val25 0), .pointer (some ⟨b24, 0, none⟩), (val25 2), (val25 3), (val25 4), (val25 5), (val25 6), (val25 7), (val25 8), (val25 9), (val25 10), (val25 11), (val25 12), (val25 13), undef, undef, undef, undef], [], (by simp only [e1_]), rfl, ?_⟩
              exact mix_det (met_none rfl) (fun _ h_ H_ => exd_load_own H_ tA3 rfl (i := 0) rfl (v := .int .i64 (lev size (min start size) (wantOf ds) (listOf xs) (rd_ + 1))) rfl) ⟨rfl, rfl⟩
            refine mixes_cons rfl (opmix ?_) ?_
            · intro val25 pc26 hQ_ hX_
              have e2_ : val25 2 = .int .i64 (lev size (min start size) (wantOf ds) (listOf xs) (rd_ + 1)) := (hQ_ 2 rfl).1
              refine ⟨[.agg #[.int .i64 (size), .int .i64 (start), .slice a n c], .slice b m d, .pointer (some ⟨b1, 0, none⟩), .pointer (some ⟨b2, 0, none⟩), .pointer (some ⟨b3, 0, none⟩), .pointer (some ⟨b4, 0, none⟩), .pointer (some ⟨b5, 0, none⟩), (y8 0), .int .i64 (chk (size) (start) ds), (y8 1), (y8 2), (y8 3), undef, .pointer (some ⟨b24, 0, none⟩), .agg #[.int .i64 (size), .int .i64 (start), .slice a n c], .int .i64 (chk (size) (start) ds), .int .i64 (chk (size) (start) ds), .bool (decide (chk (size) (start) ds ≠ 0)), undef, .slice b m d, .int .i64 (((m : Nat) : Int)), .pointer (some ⟨b1, 2, none⟩), .slice a n c, .int .i64 (((n : Nat) : Int)), .bool (decide (((m : Nat) : Int) ≠ ((n : Nat) : Int))), .slice b m d, .int .i64 (((m : Nat) : Int)), .int .i64 (((k : Nat) : Int)), .bool (decide (((k : Nat) : Int) < ((m : Nat) : Int))), (y8 5), (y8 6), (y8 7), (y8 8), (y8 9), (y8 10), (y8 11), (y8 12), (y8 13), (y8 14), (y8 15), (y8 16), (y8 17), (y8 18), (y8 19), (y8 20), (y8 21), .agg #[.int .i64 (size), .int .i64 (start), .slice a n c], .func (.func 73) #[] #[.pointer (some ⟨b2, 0, none⟩)], .func (.func 95) #[] #[.pointer (some ⟨b13, 0, none⟩), .pointer (some ⟨b14, 0, none⟩)], .int .i64 (((rd_ : Nat) : Int)), .agg #[.int .i64 (lev size (min start size) (wantOf ds) (listOf xs) (rd_ + 1)), .int .i64 (lack size (min start size) (wantOf ds) (listOf xs) rd_), .int .i64 (ovr size (min start size) (wantOf ds) (listOf xs) rd_)], (val25 0), (val25 1), .int .i64 (lev size (min start size) (wantOf ds) (listOf xs) (rd_ + 1)), (val25 3), (val25 4), (val25 5), (val25 6), (val25 7), (val25 8), (val25 9), (val25 10), (val25 11), (val25 12), (val25 13), undef, undef, undef, undef], [], (by simp only [e2_]), rfl, ?_⟩
              exact mix_buildO (met_none rfl) Try.underlying25 tS3 tZ3 (Nat.le_of_ble_eq_true rfl) (vs := [(0, .int .i64 (lev size (min start size) (wantOf ds) (listOf xs) (rd_ + 1)))]) rfl rfl (es := [[.int .i64 (lev size (min start size) (wantOf ds) (listOf xs) (rd_ + 1))]]) rfl rfl rfl fun _ _ o_ => o_
            refine mixes_cons rfl (opmix ?_) ?_
            · intro val25 pc26 hQ_ hX_
              have e0_ : val25 0 = w1 := (hQ_ 0 rfl).1
              have q3_ : OwnS 3 1 (val25 3) [[.int .i64 (lev size (min start size) (wantOf ds) (listOf xs) (rd_ + 1))]] (pc26 3) := hQ_ 3 rfl
              have x14_ : pc26 14 = X1 := hX_ 14 (by decide)
              refine ⟨[.agg #[.int .i64 (size), .int .i64 (start), .slice a n c], .slice b m d, .pointer (some ⟨b1, 0, none⟩), .pointer (some ⟨b2, 0, none⟩), .pointer (some ⟨b3, 0, none⟩), .pointer (some ⟨b4, 0, none⟩), .pointer (some ⟨b5, 0, none⟩), (y8 0), .int .i64 (chk (size) (start) ds), (y8 1), (y8 2), (y8 3), undef, .pointer (some ⟨b24, 0, none⟩), .agg #[.int .i64 (size), .int .i64 (start), .slice a n c], .int .i64 (chk (size) (start) ds), .int .i64 (chk (size) (start) ds), .bool (decide (chk (size) (start) ds ≠ 0)), undef, .slice b m d, .int .i64 (((m : Nat) : Int)), .pointer (some ⟨b1, 2, none⟩), .slice a n c, .int .i64 (((n : Nat) : Int)), .bool (decide (((m : Nat) : Int) ≠ ((n : Nat) : Int))), .slice b m d, .int .i64 (((m : Nat) : Int)), .int .i64 (((k : Nat) : Int)), .bool (decide (((k : Nat) : Int) < ((m : Nat) : Int))), (y8 5), (y8 6), (y8 7), (y8 8), (y8 9), (y8 10), (y8 11), (y8 12), (y8 13), (y8 14), (y8 15), (y8 16), (y8 17), (y8 18), (y8 19), (y8 20), (y8 21), .agg #[.int .i64 (size), .int .i64 (start), .slice a n c], .func (.func 73) #[] #[.pointer (some ⟨b2, 0, none⟩)], .func (.func 95) #[] #[.pointer (some ⟨b13, 0, none⟩), .pointer (some ⟨b14, 0, none⟩)], .int .i64 (((rd_ : Nat) : Int)), .agg #[.int .i64 (lev size (min start size) (wantOf ds) (listOf xs) (rd_ + 1)), .int .i64 (lack size (min start size) (wantOf ds) (listOf xs) rd_), .int .i64 (ovr size (min start size) (wantOf ds) (listOf xs) rd_)], w1, (val25 1), (val25 2), (val25 3), (val25 4), (val25 5), (val25 6), (val25 7), (val25 8), (val25 9), (val25 10), (val25 11), (val25 12), (val25 13), undef, undef, undef, undef], (X1 ++ ((pc26 3) ++ [])), (by simp only [e0_]), (by rw [← x14_]; rfl), ?_⟩
              exact mix_append (met_none rfl) Try.underlying25 tS3 tZ3 rfl tB3 Try.underlying25 rfl rfl o1 q3_ (ones_of rfl) (by rw [ns_length]; simp only [List.length_cons, List.length_nil]; omega) (by decide) fun _ _ o_ => o_
            refine mixes_cons rfl (opmix ?_) ?_
            · intro val25 pc26 hQ_ hX_
              refine ⟨[.agg #[.int .i64 (size), .int .i64 (start), .slice a n c], .slice b m d, .pointer (some ⟨b1, 0, none⟩), .pointer (some ⟨b2, 0, none⟩), .pointer (some ⟨b3, 0, none⟩), .pointer (some ⟨b4, 0, none⟩), .pointer (some ⟨b5, 0, none⟩), (y8 0), .int .i64 (chk (size) (start) ds), (y8 1), (y8 2), (y8 3), undef, .pointer (some ⟨b24, 0, none⟩), .agg #[.int .i64 (size), .int .i64 (start), .slice a n c], .int .i64 (chk (size) (start) ds), .int .i64 (chk (size) (start) ds), .bool (decide (chk (size) (start) ds ≠ 0)), undef, .slice b m d, .int .i64 (((m : Nat) : Int)), .pointer (some ⟨b1, 2, none⟩), .slice a n c, .int .i64 (((n : Nat) : Int)), .bool (decide (((m : Nat) : Int) ≠ ((n : Nat) : Int))), .slice b m d, .int .i64 (((m : Nat) : Int)), .int .i64 (((k : Nat) : Int)), .bool (decide (((k : Nat) : Int) < ((m : Nat) : Int))), (y8 5), (y8 6), (y8 7), (y8 8), (y8 9), (y8 10), (y8 11), (y8 12), (y8 13), (y8 14), (y8 15), (y8 16), (y8 17), (y8 18), (y8 19), (y8 20), (y8 21), .agg #[.int .i64 (size), .int .i64 (start), .slice a n c], .func (.func 73) #[] #[.pointer (some ⟨b2, 0, none⟩)], .func (.func 95) #[] #[.pointer (some ⟨b13, 0, none⟩), .pointer (some ⟨b14, 0, none⟩)], .int .i64 (((rd_ : Nat) : Int)), .agg #[.int .i64 (lev size (min start size) (wantOf ds) (listOf xs) (rd_ + 1)), .int .i64 (lack size (min start size) (wantOf ds) (listOf xs) rd_), .int .i64 (ovr size (min start size) (wantOf ds) (listOf xs) rd_)], (val25 0), (val25 1), (val25 2), (val25 3), (val25 4), (val25 5), (val25 6), (val25 7), (val25 8), (val25 9), (val25 10), (val25 11), (val25 12), (val25 13), undef, undef, undef, undef], [], rfl, rfl, ?_⟩
              exact mix_det (met_none rfl) (fun _ h_ H_ => exd_load_own H_ tA25 rfl (i := 4) rfl (v := w2) rfl) ⟨rfl, rfl⟩
            refine mixes_cons rfl (opmix ?_) ?_
            · intro val25 pc26 hQ_ hX_
              refine ⟨[.agg #[.int .i64 (size), .int .i64 (start), .slice a n c], .slice b m d, .pointer (some ⟨b1, 0, none⟩), .pointer (some ⟨b2, 0, none⟩), .pointer (some ⟨b3, 0, none⟩), .pointer (some ⟨b4, 0, none⟩), .pointer (some ⟨b5, 0, none⟩), (y8 0), .int .i64 (chk (size) (start) ds), (y8 1), (y8 2), (y8 3), undef, .pointer (some ⟨b24, 0, none⟩), .agg #[.int .i64 (size), .int .i64 (start), .slice a n c], .int .i64 (chk (size) (start) ds), .int .i64 (chk (size) (start) ds), .bool (decide (chk (size) (start) ds ≠ 0)), undef, .slice b m d, .int .i64 (((m : Nat) : Int)), .pointer (some ⟨b1, 2, none⟩), .slice a n c, .int .i64 (((n : Nat) : Int)), .bool (decide (((m : Nat) : Int) ≠ ((n : Nat) : Int))), .slice b m d, .int .i64 (((m : Nat) : Int)), .int .i64 (((k : Nat) : Int)), .bool (decide (((k : Nat) : Int) < ((m : Nat) : Int))), (y8 5), (y8 6), (y8 7), (y8 8), (y8 9), (y8 10), (y8 11), (y8 12), (y8 13), (y8 14), (y8 15), (y8 16), (y8 17), (y8 18), (y8 19), (y8 20), (y8 21), .agg #[.int .i64 (size), .int .i64 (start), .slice a n c], .func (.func 73) #[] #[.pointer (some ⟨b2, 0, none⟩)], .func (.func 95) #[] #[.pointer (some ⟨b13, 0, none⟩), .pointer (some ⟨b14, 0, none⟩)], .int .i64 (((rd_ : Nat) : Int)), .agg #[.int .i64 (lev size (min start size) (wantOf ds) (listOf xs) (rd_ + 1)), .int .i64 (lack size (min start size) (wantOf ds) (listOf xs) rd_), .int .i64 (ovr size (min start size) (wantOf ds) (listOf xs) rd_)], (val25 0), (val25 1), (val25 2), (val25 3), (val25 4), (val25 5), (val25 6), (val25 7), (val25 8), (val25 9), (val25 10), (val25 11), (val25 12), (val25 13), undef, undef, undef, undef], [], rfl, rfl, ?_⟩
              exact mix_det (met_none rfl) (fun _ h_ H_ => exd_fieldAddr tF72_1 rfl (a' := ⟨b24, 1, none⟩) rfl) ⟨rfl, rfl⟩
            refine mixes_cons rfl (opmix ?_) ?_
            · intro val25 pc26 hQ_ hX_
              have e6_ : val25 6 = .pointer (some ⟨b24, 1, none⟩) := (hQ_ 6 rfl).1
              refine ⟨[.agg #[.int .i64 (size), .int .i64 (start), .slice a n c], .slice b m d, .pointer (some ⟨b1, 0, none⟩), .pointer (some ⟨b2, 0, none⟩), .pointer (some ⟨b3, 0, none⟩), .pointer (some ⟨b4, 0, none⟩), .pointer (some ⟨b5, 0, none⟩), (y8 0), .int .i64 (chk (size) (start) ds), (y8 1), (y8 2), (y8 3), undef, .pointer (some ⟨b24, 0, none⟩), .agg #[.int .i64 (size), .int .i64 (start), .slice a n c], .int .i64 (chk (size) (start) ds), .int .i64 (chk (size) (start) ds), .bool (decide (chk (size) (start) ds ≠ 0)), undef, .slice b m d, .int .i64 (((m : Nat) : Int)), .pointer (some ⟨b1, 2, none⟩), .slice a n c, .int .i64 (((n : Nat) : Int)), .bool (decide (((m : Nat) : Int) ≠ ((n : Nat) : Int))), .slice b m d, .int .i64 (((m : Nat) : Int)), .int .i64 (((k : Nat) : Int)), .bool (decide (((k : Nat) : Int) < ((m : Nat) : Int))), (y8 5), (y8 6), (y8 7), (y8 8), (y8 9), (y8 10), (y8 11), (y8 12), (y8 13), (y8 14), (y8 15), (y8 16), (y8 17), (y8 18), (y8 19), (y8 20), (y8 21), .agg #[.int .i64 (size), .int .i64 (start), .slice a n c], .func (.func 73) #[] #[.pointer (some ⟨b2, 0, none⟩)], .func (.func 95) #[] #[.pointer (some ⟨b13, 0, none⟩), .pointer (some ⟨b14, 0, none⟩)], .int .i64 (((rd_ : Nat) : Int)), .agg #[.int .i64 (lev size (min start size) (wantOf ds) (listOf xs) (rd_ + 1)), .int .i64 (lack size (min start size) (wantOf ds) (listOf xs) rd_), .int .i64 (ovr size (min start size) (wantOf ds) (listOf xs) rd_)], (val25 0), (val25 1), (val25 2), (val25 3), (val25 4), (val25 5), .pointer (some ⟨b24, 1, none⟩), (val25 7), (val25 8), (val25 9), (val25 10), (val25 11), (val25 12), (val25 13), undef, undef, undef, undef], [], (by simp only [e6_]), rfl, ?_⟩
              exact mix_det (met_none rfl) (fun _ h_ H_ => exd_load_own H_ tA3 rfl (i := 0) rfl (v := .int .i64 (lack size (min start size) (wantOf ds) (listOf xs) rd_)) rfl) ⟨rfl, rfl⟩
            refine mixes_cons rfl (opmix ?_) ?_
            · intro val25 pc26 hQ_ hX_
              have e7_ : val25 7 = .int .i64 (lack size (min start size) (wantOf ds) (listOf xs) rd_) := (hQ_ 7 rfl).1
              refine ⟨[.agg #[.int .i64 (size), .int .i64 (start), .slice a n c], .slice b m d, .pointer (some ⟨b1, 0, none⟩), .pointer (some ⟨b2, 0, none⟩), .pointer (some ⟨b3, 0, none⟩), .pointer (some ⟨b4, 0, none⟩), .pointer (some ⟨b5, 0, none⟩), (y8 0), .int .i64 (chk (size) (start) ds), (y8 1), (y8 2), (y8 3), undef, .pointer (some ⟨b24, 0, none⟩), .agg #[.int .i64 (size), .int .i64 (start), .slice a n c], .int .i64 (chk (size) (start) ds), .int .i64 (chk (size) (start) ds), .bool (decide (chk (size) (start) ds ≠ 0)), undef, .slice b m d, .int .i64 (((m : Nat) : Int)), .pointer (some ⟨b1, 2, none⟩), .slice a n c, .int .i64 (((n : Nat) : Int)), .bool (decide (((m : Nat) : Int) ≠ ((n : Nat) : Int))), .slice b m d, .int .i64 (((m : Nat) : Int)), .int .i64 (((k : Nat) : Int)), .bool (decide (((k : Nat) : Int) < ((m : Nat) : Int))), (y8 5), (y8 6), (y8 7), (y8 8), (y8 9), (y8 10), (y8 11), (y8 12), (y8 13), (y8 14), (y8 15), (y8 16), (y8 17), (y8 18), (y8 19), (y8 20), (y8 21), .agg #[.int .i64 (size), .int .i64 (start), .slice a n c], .func (.func 73) #[] #[.pointer (some ⟨b2, 0, none⟩)], .func (.func 95) #[] #[.pointer (some ⟨b13, 0, none⟩), .pointer (some ⟨b14, 0, none⟩)], .int .i64 (((rd_ : Nat) : Int)), .agg #[.int .i64 (lev size (min start size) (wantOf ds) (listOf xs) (rd_ + 1)), .int .i64 (lack size (min start size) (wantOf ds) (listOf xs) rd_), .int .i64 (ovr size (min start size) (wantOf ds) (listOf xs) rd_)], (val25 0), (val25 1), (val25 2), (val25 3), (val25 4), (val25 5), (val25 6), .int .i64 (lack size (min start size) (wantOf ds) (listOf xs) rd_), (val25 8), (val25 9), (val25 10), (val25 11), (val25 12), (val25 13), undef, undef, undef, undef], [], (by simp only [e7_]), rfl, ?_⟩
              exact mix_buildO (met_none rfl) Try.underlying25 tS3 tZ3 (Nat.le_of_ble_eq_true rfl) (vs := [(0, .int .i64 (lack size (min start size) (wantOf ds) (listOf xs) rd_))]) rfl rfl (es := [[.int .i64 (lack size (min start size) (wantOf ds) (listOf xs) rd_)]]) rfl rfl rfl fun _ _ o_ => o_
            refine mixes_cons rfl (opmix ?_) ?_
            · intro val25 pc26 hQ_ hX_
              have q4_ : OwnS 3 1 (val25 4) (ns (levs size (min start size) (wantOf ds) (listOf xs)) rd_ ++ [[.int .i64 (lev size (min start size) (wantOf ds) (listOf xs) (rd_ + 1))]]) (pc26 4) := hQ_ 4 rfl
              have e5_ : val25 5 = w2 := (hQ_ 5 rfl).1
              have q8_ : OwnS 3 1 (val25 8) [[.int .i64 (lack size (min start size) (wantOf ds) (listOf xs) rd_)]] (pc26 8) := hQ_ 8 rfl
              have x15_ : pc26 15 = X2 := hX_ 15 (by decide)
              refine ⟨[.agg #[.int .i64 (size), .int .i64 (start), .slice a n c], .slice b m d, .pointer (some ⟨b1, 0, none⟩), .pointer (some ⟨b2, 0, none⟩), .pointer (some ⟨b3, 0, none⟩), .pointer (some ⟨b4, 0, none⟩), .pointer (some ⟨b5, 0, none⟩), (y8 0), .int .i64 (chk (size) (start) ds), (y8 1), (y8 2), (y8 3), undef, .pointer (some ⟨b24, 0, none⟩), .agg #[.int .i64 (size), .int .i64 (start), .slice a n c], .int .i64 (chk (size) (start) ds), .int .i64 (chk (size) (start) ds), .bool (decide (chk (size) (start) ds ≠ 0)), undef, .slice b m d, .int .i64 (((m : Nat) : Int)), .pointer (some ⟨b1, 2, none⟩), .slice a n c, .int .i64 (((n : Nat) : Int)), .bool (decide (((m : Nat) : Int) ≠ ((n : Nat) : Int))), .slice b m d, .int .i64 (((m : Nat) : Int)), .int .i64 (((k : Nat) : Int)), .bool (decide (((k : Nat) : Int) < ((m : Nat) : Int))), (y8 5), (y8 6), (y8 7), (y8 8), (y8 9), (y8 10), (y8 11), (y8 12), (y8 13), (y8 14), (y8 15), (y8 16), (y8 17), (y8 18), (y8 19), (y8 20), (y8 21), .agg #[.int .i64 (size), .int .i64 (start), .slice a n c], .func (.func 73) #[] #[.pointer (some ⟨b2, 0, none⟩)], .func (.func 95) #[] #[.pointer (some ⟨b13, 0, none⟩), .pointer (some ⟨b14, 0, none⟩)], .int .i64 (((rd_ : Nat) : Int)), .agg #[.int .i64 (lev size (min start size) (wantOf ds) (listOf xs) (rd_ + 1)), .int .i64 (lack size (min start size) (wantOf ds) (listOf xs) rd_), .int .i64 (ovr size (min start size) (wantOf ds) (listOf xs) rd_)], (val25 0), (val25 1), (val25 2), (val25 3), (val25 4), w2, (val25 6), (val25 7), (val25 8), (val25 9), (val25 10), (val25 11), (val25 12), (val25 13), undef, undef, undef, undef], (X2 ++ ((pc26 8) ++ [])), (by simp only [e5_]), (by rw [← x15_]; rfl), ?_⟩
              exact mix_append (met_none rfl) Try.underlying25 tS3 tZ3 rfl tB3 Try.underlying25 rfl rfl o2 q8_ (ones_of rfl) (by rw [ns_length]; simp only [List.length_cons, List.length_nil]; omega) (by decide) fun _ _ o_ => o_
            refine mixes_cons rfl (opmix ?_) ?_
            · intro val25 pc26 hQ_ hX_
              refine ⟨[.agg #[.int .i64 (size), .int .i64 (start), .slice a n c], .slice b m d, .pointer (some ⟨b1, 0, none⟩), .pointer (some ⟨b2, 0, none⟩), .pointer (some ⟨b3, 0, none⟩), .pointer (some ⟨b4, 0, none⟩), .pointer (some ⟨b5, 0, none⟩), (y8 0), .int .i64 (chk (size) (start) ds), (y8 1), (y8 2), (y8 3), undef, .pointer (some ⟨b24, 0, none⟩), .agg #[.int .i64 (size), .int .i64 (start), .slice a n c], .int .i64 (chk (size) (start) ds), .int .i64 (chk (size) (start) ds), .bool (decide (chk (size) (start) ds ≠ 0)), undef, .slice b m d, .int .i64 (((m : Nat) : Int)), .pointer (some ⟨b1, 2, none⟩), .slice a n c, .int .i64 (((n : Nat) : Int)), .bool (decide (((m : Nat) : Int) ≠ ((n : Nat) : Int))), .slice b m d, .int .i64 (((m : Nat) : Int)), .int .i64 (((k : Nat) : Int)), .bool (decide (((k : Nat) : Int) < ((m : Nat) : Int))), (y8 5), (y8 6), (y8 7), (y8 8), (y8 9), (y8 10), (y8 11), (y8 12), (y8 13), (y8 14), (y8 15), (y8 16), (y8 17), (y8 18), (y8 19), (y8 20), (y8 21), .agg #[.int .i64 (size), .int .i64 (start), .slice a n c], .func (.func 73) #[] #[.pointer (some ⟨b2, 0, none⟩)], .func (.func 95) #[] #[.pointer (some ⟨b13, 0, none⟩), .pointer (some ⟨b14, 0, none⟩)], .int .i64 (((rd_ : Nat) : Int)), .agg #[.int .i64 (lev size (min start size) (wantOf ds) (listOf xs) (rd_ + 1)), .int .i64 (lack size (min start size) (wantOf ds) (listOf xs) rd_), .int .i64 (ovr size (min start size) (wantOf ds) (listOf xs) rd_)], (val25 0), (val25 1), (val25 2), (val25 3), (val25 4), (val25 5), (val25 6), (val25 7), (val25 8), (val25 9), (val25 10), (val25 11), (val25 12), (val25 13), undef, undef, undef, undef], [], rfl, rfl, ?_⟩
              exact mix_det (met_none rfl) (fun _ h_ H_ => exd_load_own H_ tA25 rfl (i := 3) rfl (v := w3) rfl) ⟨rfl, rfl⟩
            refine mixes_cons rfl (opmix ?_) ?_
            · intro val25 pc26 hQ_ hX_
              refine ⟨[.agg #[.int .i64 (size), .int .i64 (start), .slice a n c], .slice b m d, .pointer (some ⟨b1, 0, none⟩), .pointer (some ⟨b2, 0, none⟩), .pointer (some ⟨b3, 0, none⟩), .pointer (some ⟨b4, 0, none⟩), .pointer (some ⟨b5, 0, none⟩), (y8 0), .int .i64 (chk (size) (start) ds), (y8 1), (y8 2), (y8 3), undef, .pointer (some ⟨b24, 0, none⟩), .agg #[.int .i64 (size), .int .i64 (start), .slice a n c], .int .i64 (chk (size) (start) ds), .int .i64 (chk (size) (start) ds), .bool (decide (chk (size) (start) ds ≠ 0)), undef, .slice b m d, .int .i64 (((m : Nat) : Int)), .pointer (some ⟨b1, 2, none⟩), .slice a n c, .int .i64 (((n : Nat) : Int)), .bool (decide (((m : Nat) : Int) ≠ ((n : Nat) : Int))), .slice b m d, .int .i64 (((m : Nat) : Int)), .int .i64 (((k : Nat) : Int)), .bool (decide (((k : Nat) : Int) < ((m : Nat) : Int))), (y8 5), (y8 6), (y8 7), (y8 8), (y8 9), (y8 10), (y8 11), (y8 12), (y8 13), (y8 14), (y8 15), (y8 16), (y8 17), (y8 18), (y8 19), (y8 20), (y8 21), .agg #[.int .i64 (size), .int .i64 (start), .slice a n c], .func (.func 73) #[] #[.pointer (some ⟨b2, 0, none⟩)], .func (.func 95) #[] #[.pointer (some ⟨b13, 0, none⟩), .pointer (some ⟨b14, 0, none⟩)], .int .i64 (((rd_ : Nat) : Int)), .agg #[.int .i64 (lev size (min start size) (wantOf ds) (listOf xs) (rd_ + 1)), .int .i64 (lack size (min start size) (wantOf ds) (listOf xs) rd_), .int .i64 (ovr size (min start size) (wantOf ds) (listOf xs) rd_)], (val25 0), (val25 1), (val25 2), (val25 3), (val25 4), (val25 5), (val25 6), (val25 7), (val25 8), (val25 9), (val25 10), (val25 11), (val25 12), (val25 13), undef, undef, undef, undef], [], rfl, rfl, ?_⟩
              exact mix_det (met_none rfl) (fun _ h_ H_ => exd_fieldAddr tF72_2 rfl (a' := ⟨b24, 2, none⟩) rfl) ⟨rfl, rfl⟩
            refine mixes_cons rfl (opmix ?_) ?_
            · intro val25 pc26 hQ_ hX_
              have e11_ : val25 11 = .pointer (some ⟨b24, 2, none⟩) := (hQ_ 11 rfl).1
              refine ⟨[.agg #[.int .i64 (size), .int .i64 (start), .slice a n c], .slice b m d, .pointer (some ⟨b1, 0, none⟩), .pointer (some ⟨b2, 0, none⟩), .pointer (some ⟨b3, 0, none⟩), .pointer (some ⟨b4, 0, none⟩), .pointer (some ⟨b5, 0, none⟩), (y8 0), .int .i64 (chk (size) (start) ds), (y8 1), (y8 2), (y8 3), undef, .pointer (some ⟨b24, 0, none⟩), .agg #[.int .i64 (size), .int .i64 (start), .slice a n c], .int .i64 (chk (size) (start) ds), .int .i64 (chk (size) (start) ds), .bool (decide (chk (size) (start) ds ≠ 0)), undef, .slice b m d, .int .i64 (((m : Nat) : Int)), .pointer (some ⟨b1, 2, none⟩), .slice a n c, .int .i64 (((n : Nat) : Int)), .bool (decide (((m : Nat) : Int) ≠ ((n : Nat) : Int))), .slice b m d, .int .i64 (((m : Nat) : Int)), .int .i64 (((k : Nat) : Int)), .bool (decide (((k : Nat) : Int) < ((m : Nat) : Int))), (y8 5), (y8 6), (y8 7), (y8 8), (y8 9), (y8 10), (y8 11), (y8 12), (y8 13), (y8 14), (y8 15), (y8 16), (y8 17), (y8 18), (y8 19), (y8 20), (y8 21), .agg #[.int .i64 (size), .int .i64 (start), .slice a n c], .func (.func 73) #[] #[.pointer (some ⟨b2, 0, none⟩)], .func (.func 95) #[] #[.pointer (some ⟨b13, 0, none⟩), .pointer (some ⟨b14, 0, none⟩)], .int .i64 (((rd_ : Nat) : Int)), .agg #[.int .i64 (lev size (min start size) (wantOf ds) (listOf xs) (rd_ + 1)), .int .i64 (lack size (min start size) (wantOf ds) (listOf xs) rd_), .int .i64 (ovr size (min start size) (wantOf ds) (listOf xs) rd_)], (val25 0), (val25 1), (val25 2), (val25 3), (val25 4), (val25 5), (val25 6), (val25 7), (val25 8), (val25 9), (val25 10), .pointer (some ⟨b24, 2, none⟩), (val25 12), (val25 13), undef, undef, undef, undef], [], (by simp only [e11_]), rfl, ?_⟩
              exact mix_det (met_none rfl) (fun _ h_ H_ => exd_load_own H_ tA3 rfl (i := 0) rfl (v := .int .i64 (ovr size (min start size) (wantOf ds) (listOf xs) rd_)) rfl) ⟨rfl, rfl⟩
            refine mixes_cons rfl (opmix ?_) ?_
            · intro val25 pc26 hQ_ hX_
              have e12_ : val25 12 = .int .i64 (ovr size (min start size) (wantOf ds) (listOf xs) rd_) := (hQ_ 12 rfl).1
              refine ⟨[.agg #[.int .i64 (size), .int .i64 (start), .slice a n c], .slice b m d, .pointer (some ⟨b1, 0, none⟩), .pointer (some ⟨b2, 0, none⟩), .pointer (some ⟨b3, 0, none⟩), .pointer (some ⟨b4, 0, none⟩), .pointer (some ⟨b5, 0, none⟩), (y8 0), .int .i64 (chk (size) (start) ds), (y8 1), (y8 2), (y8 3), undef, .pointer (some ⟨b24, 0, none⟩), .agg #[.int .i64 (size), .int .i64 (start), .slice a n c], .int .i64 (chk (size) (start) ds), .int .i64 (chk (size) (start) ds), .bool (decide (chk (size) (start) ds ≠ 0)), undef, .slice b m d, .int .i64 (((m : Nat) : Int)), .pointer (some ⟨b1, 2, none⟩), .slice a n c, .int .i64 (((n : Nat) : Int)), .bool (decide (((m : Nat) : Int) ≠ ((n : Nat) : Int))), .slice b m d, .int .i64 (((m : Nat) : Int)), .int .i64 (((k : Nat) : Int)), .bool (decide (((k : Nat) : Int) < ((m : Nat) : Int))), (y8 5), (y8 6), (y8 7), (y8 8), (y8 9), (y8 10), (y8 11), (y8 12), (y8 13), (y8 14), (y8 15), (y8 16), (y8 17), (y8 18), (y8 19), (y8 20), (y8 21), .agg #[.int .i64 (size), .int .i64 (start), .slice a n c], .func (.func 73) #[] #[.pointer (some ⟨b2, 0, none⟩)], .func (.func 95) #[] #[.pointer (some ⟨b13, 0, none⟩), .pointer (some ⟨b14, 0, none⟩)], .int .i64 (((rd_ : Nat) : Int)), .agg #[.int .i64 (lev size (min start size) (wantOf ds) (listOf xs) (rd_ + 1)), .int .i64 (lack size (min start size) (wantOf ds) (listOf xs) rd_), .int .i64 (ovr size (min start size) (wantOf ds) (listOf xs) rd_)], (val25 0), (val25 1), (val25 2), (val25 3), (val25 4), (val25 5), (val25 6), (val25 7), (val25 8), (val25 9), (val25 10), (val25 11), .int .i64 (ovr size (min start size) (wantOf ds) (listOf xs) rd_), (val25 13), undef, undef, undef, undef], [], (by simp only [e12_]), rfl, ?_⟩
              exact mix_buildO (met_none rfl) Try.underlying25 tS3 tZ3 (Nat.le_of_ble_eq_true rfl) (vs := [(0, .int .i64 (ovr size (min start size) (wantOf ds) (listOf xs) rd_))]) rfl rfl (es := [[.int .i64 (ovr size (min start size) (wantOf ds) (listOf xs) rd_)]]) rfl rfl rfl fun _ _ o_ => o_
            exact mixes_nil rfl
          intro val25 pc26 hQ_ hX_
          have e0_ : val25 0 = w1 := (hQ_ 0 (by decide)).1
          have e1_ : val25 1 = .pointer (some ⟨b24, 0, none⟩) := (hQ_ 1 (by decide)).1
          have e2_ : val25 2 = .int .i64 (lev size (min start size) (wantOf ds) (listOf xs) (rd_ + 1)) := (hQ_ 2 (by decide)).1
          have q4_ : OwnS 3 1 (val25 4) (ns (levs size (min start size) (wantOf ds) (listOf xs)) rd_ ++ [[.int .i64 (lev size (min start size) (wantOf ds) (listOf xs) (rd_ + 1))]]) (pc26 4) := hQ_ 4 (by decide)
          have e5_ : val25 5 = w2 := (hQ_ 5 (by decide)).1
          have e6_ : val25 6 = .pointer (some ⟨b24, 1, none⟩) := (hQ_ 6 (by decide)).1
          have e7_ : val25 7 = .int .i64 (lack size (min start size) (wantOf ds) (listOf xs) rd_) := (hQ_ 7 (by decide)).1
          have q9_ : OwnS 3 1 (val25 9) (ns (lack size (min start size) (wantOf ds) (listOf xs)) rd_ ++ [[.int .i64 (lack size (min start size) (wantOf ds) (listOf xs) rd_)]]) (pc26 9) := hQ_ 9 (by decide)
          have e10_ : val25 10 = w3 := (hQ_ 10 (by decide)).1
          have e11_ : val25 11 = .pointer (some ⟨b24, 2, none⟩) := (hQ_ 11 (by decide)).1
          have e12_ : val25 12 = .int .i64 (ovr size (min start size) (wantOf ds) (listOf xs) rd_) := (hQ_ 12 (by decide)).1
          have q13_ : OwnS 3 1 (val25 13) [[.int .i64 (ovr size (min start size) (wantOf ds) (listOf xs) rd_)]] (pc26 13) := hQ_ 13 (by decide)
          have x16_ : pc26 16 = X3 := hX_ 16 (by decide)
          have x17_ : pc26 17 = Z_ := hX_ 17 (by decide)
          refine rl_as (Φ := fun h_ => St h [] p21 h_ (([(b24, .cells #[.int .i64 (lev size (min start size) (wantOf ds) (listOf xs) (rd_ + 1)), .int .i64 (lack size (min start size) (wantOf ds) (listOf xs) rd_), .int .i64 (ovr size (min start size) (wantOf ds) (listOf xs) rd_)] 72 (0, 0)), (l_, .loop { lp_ with state := .busy }), (r_, .deferred (some [])), (b5, .cells #[w3] 25 (0, 0)), (b4, .cells #[w2] 25 (0, 0)), (b3, .cells #[w1] 25 (0, 0)), (b1, .cells #[.int .i64 (size), .int .i64 (start), .slice a n c] 24 (0, 0))] : Pcs) ++ (pc26 16 ++ (pc26 17 ++ (pc26 4 ++ (pc26 9 ++ (pc26 13 ++ []))))))) ?_ (fun h_ H_ => H_.swap')
          rw [x16_, x17_]
          refine rl_norm (tm' := [.agg #[.int .i64 (size), .int .i64 (start), .slice a n c], .slice b m d, .pointer (some ⟨b1, 0, none⟩), .pointer (some ⟨b2, 0, none⟩), .pointer (some ⟨b3, 0, none⟩), .pointer (some ⟨b4, 0, none⟩), .pointer (some ⟨b5, 0, none⟩), (y8 0), .int .i64 (chk (size) (start) ds), (y8 1), (y8 2), (y8 3), undef, .pointer (some ⟨b24, 0, none⟩), .agg #[.int .i64 (size), .int .i64 (start), .slice a n c], .int .i64 (chk (size) (start) ds), .int .i64 (chk (size) (start) ds), .bool (decide (chk (size) (start) ds ≠ 0)), undef, .slice b m d, .int .i64 (((m : Nat) : Int)), .pointer (some ⟨b1, 2, none⟩), .slice a n c, .int .i64 (((n : Nat) : Int)), .bool (decide (((m : Nat) : Int) ≠ ((n : Nat) : Int))), .slice b m d, .int .i64 (((m : Nat) : Int)), .int .i64 (((k : Nat) : Int)), .bool (decide (((k : Nat) : Int) < ((m : Nat) : Int))), (y8 5), (y8 6), (y8 7), (y8 8), (y8 9), (y8 10), (y8 11), (y8 12), (y8 13), (y8 14), (y8 15), (y8 16), (y8 17), (y8 18), (y8 19), (y8 20), (y8 21), .agg #[.int .i64 (size), .int .i64 (start), .slice a n c], .func (.func 73) #[] #[.pointer (some ⟨b2, 0, none⟩)], .func (.func 95) #[] #[.pointer (some ⟨b13, 0, none⟩), .pointer (some ⟨b14, 0, none⟩)], .int .i64 (((rd_ : Nat) : Int)), .agg #[.int .i64 (lev size (min start size) (wantOf ds) (listOf xs) (rd_ + 1)), .int .i64 (lack size (min start size) (wantOf ds) (listOf xs) rd_), .int .i64 (ovr size (min start size) (wantOf ds) (listOf xs) rd_)], w1, .pointer (some ⟨b24, 0, none⟩), .int .i64 (lev size (min start size) (wantOf ds) (listOf xs) (rd_ + 1)), (val25 3), (val25 4), w2, .pointer (some ⟨b24, 1, none⟩), .int .i64 (lack size (min start size) (wantOf ds) (listOf xs) rd_), (val25 8), (val25 9), w3, .pointer (some ⟨b24, 2, none⟩), .int .i64 (ovr size (min start size) (wantOf ds) (listOf xs) rd_), (val25 13), undef, undef, undef, undef]) (by simp only [e0_, e1_, e2_, e5_, e6_, e7_, e10_, e11_, e12_]) ?_
          clear hQ_ hX_
          have o28 := q4_
          have o30 := q9_
          have o31 := q13_
          refine rl_perm (List.Perm.append_left _ (List.Perm.append_left _ (List.Perm.append_left _ (List.Perm.append_left _ (List.perm_append_comm_assoc _ _ _))))) ?_
          refine rl_perm (List.Perm.append_left _ (List.Perm.append_left _ (List.Perm.append_left _ (List.perm_append_comm_assoc _ _ _)))) ?_
          refine rl_perm (List.Perm.append_left _ (List.Perm.append_left _ (List.perm_append_comm_assoc _ _ _))) ?_
          refine rl_own (L' := ([(b24, .cells #[.int .i64 (lev size (min start size) (wantOf ds) (listOf xs) (rd_ + 1)), .int .i64 (lack size (min start size) (wantOf ds) (listOf xs) rd_), .int .i64 (ovr size (min start size) (wantOf ds) (listOf xs) rd_)] 72 (0, 0)), (l_, .loop { lp_ with state := .busy }), (r_, .deferred (some [])), (b5, .cells #[w3] 25 (0, 0)), (b4, .cells #[w2] 25 (0, 0)), (b3, .cells #[w1] 25 (0, 0)), (b1, .cells #[.int .i64 (size), .int .i64 (start), .slice a n c] 24 (0, 0))] : Pcs) ++ (X3 ++ ((pc26 13) ++ (Z_ ++ ((pc26 4) ++ ((pc26 9) ++ [])))))) rfl ?_
          refine rl_appendO ([(b24, .cells #[.int .i64 (lev size (min start size) (wantOf ds) (listOf xs) (rd_ + 1)), .int .i64 (lack size (min start size) (wantOf ds) (listOf xs) rd_), .int .i64 (ovr size (min start size) (wantOf ds) (listOf xs) rd_)] 72 (0, 0)), (l_, .loop { lp_ with state := .busy }), (r_, .deferred (some [])), (b5, .cells #[w3] 25 (0, 0)), (b4, .cells #[w2] 25 (0, 0)), (b3, .cells #[w1] 25 (0, 0)), (b1, .cells #[.int .i64 (size), .int .i64 (start), .slice a n c] 24 (0, 0))] : Pcs) X3 (pc26 13) (met_none rfl) Try.underlying25 tS3 tZ3 rfl tB3 Try.underlying25 rfl rfl o3 o31 (ones_of rfl) (by rw [ns_length]; simp only [List.length_cons, List.length_nil]; omega) (by decide) fun v32 X33 o34 => ?_
          refine rl_norm (tm' := [_,_,_,_,_,_,_,_,_,_,_,_,_,_,_,_,_,_,_,_,_,_,_,_,_,_,_,_,_,_,_,_,_,_,_,_,_,_,_,_,_,_,_,_,_,_,_,_,_,_,_,_,_,_,_,_,_,_,_,_,_,_,_,_,_,_,_,_,_]) rfl ?_
          refine rl_store1 (met_none rfl) tS25 rfl (v := (val25 4)) rfl o28.one (i := 5) rfl (Nat.succ_le_iff.1 (Nat.le_of_ble_eq_true rfl)) (cs2 := [(val25 4)]) rfl (rl_own (L' := ([(b24, .cells #[.int .i64 (lev size (min start size) (wantOf ds) (listOf xs) (rd_ + 1)), .int .i64 (lack size (min start size) (wantOf ds) (listOf xs) rd_), .int .i64 (ovr size (min start size) (wantOf ds) (listOf xs) rd_)] 72 (0, 0)), (l_, .loop { lp_ with state := .busy }), (r_, .deferred (some [])), (b5, .cells #[w3] 25 (0, 0)), (b4, .cells #[w2] 25 (0, 0)), (b3, .cells #[(val25 4)] 25 (0, 0)), (b1, .cells #[.int .i64 (size), .int .i64 (start), .slice a n c] 24 (0, 0))] : Pcs) ++ (X33 ++ (Z_ ++ ((pc26 4) ++ ((pc26 9) ++ []))))) rfl ?_)
          refine rl_store1 (met_none rfl) tS25 rfl (v := (val25 9)) rfl o30.one (i := 4) rfl (Nat.succ_le_iff.1 (Nat.le_of_ble_eq_true rfl)) (cs2 := [(val25 9)]) rfl (rl_own (L' := ([(b24, .cells #[.int .i64 (lev size (min start size) (wantOf ds) (listOf xs) (rd_ + 1)), .int .i64 (lack size (min start size) (wantOf ds) (listOf xs) rd_), .int .i64 (ovr size (min start size) (wantOf ds) (listOf xs) rd_)] 72 (0, 0)), (l_, .loop { lp_ with state := .busy }), (r_, .deferred (some [])), (b5, .cells #[w3] 25 (0, 0)), (b4, .cells #[(val25 9)] 25 (0, 0)), (b3, .cells #[(val25 4)] 25 (0, 0)), (b1, .cells #[.int .i64 (size), .int .i64 (start), .slice a n c] 24 (0, 0))] : Pcs) ++ (X33 ++ (Z_ ++ ((pc26 4) ++ ((pc26 9) ++ []))))) rfl ?_)
          refine rl_store1 (met_none rfl) tS25 rfl (v := v32) rfl o34.one (i := 3) rfl (Nat.succ_le_iff.1 (Nat.le_of_ble_eq_true rfl)) (cs2 := [v32]) rfl (rl_own (L' := ([(b24, .cells #[.int .i64 (lev size (min start size) (wantOf ds) (listOf xs) (rd_ + 1)), .int .i64 (lack size (min start size) (wantOf ds) (listOf xs) rd_), .int .i64 (ovr size (min start size) (wantOf ds) (listOf xs) rd_)] 72 (0, 0)), (l_, .loop { lp_ with state := .busy }), (r_, .deferred (some [])), (b5, .cells #[v32] 25 (0, 0)), (b4, .cells #[(val25 9)] 25 (0, 0)), (b3, .cells #[(val25 4)] 25 (0, 0)), (b1, .cells #[.int .i64 (size), .int .i64 (start), .slice a n c] 24 (0, 0))] : Pcs) ++ (X33 ++ (Z_ ++ ((pc26 4) ++ ((pc26 9) ++ []))))) rfl ?_)
          refine rl_end ?_
          refine fl_inBlock ?_
          refine fl_rend (i := 1) rfl (lp' := lp_) (by rw [hlp_]; rfl) ?_
          refine rs_own (L' := ([(b24, .cells #[.int .i64 (lev size (min start size) (wantOf ds) (listOf xs) (rd_ + 1)), .int .i64 (lack size (min start size) (wantOf ds) (listOf xs) rd_), .int .i64 (ovr size (min start size) (wantOf ds) (listOf xs) rd_)] 72 (0, 0)), (l_, .loop lp_), (r_, .deferred (some [])), (b5, .cells #[v32] 25 (0, 0)), (b4, .cells #[(val25 9)] 25 (0, 0)), (b3, .cells #[(val25 4)] 25 (0, 0)), (b1, .cells #[.int .i64 (size), .int .i64 (start), .slice a n c] 24 (0, 0))] : Pcs) ++ (X33 ++ (Z_ ++ ((pc26 4) ++ ((pc26 9) ++ []))))) rfl ?_
          refine rs_perm (List.Perm.append_left _ (List.Perm.append_left _ (List.perm_append_comm_assoc _ _ _))) ?_
          refine rs_perm (List.Perm.append_left _ (List.perm_append_comm_assoc _ _ _)) ?_
          refine rs_perm (List.Perm.append_left _ (List.Perm.append_left _ (List.Perm.append_left _ (List.perm_append_comm_assoc _ _ _)))) ?_
          refine rs_perm (List.Perm.append_left _ (List.Perm.append_left _ (List.perm_append_comm_assoc _ _ _))) ?_
          refine rs_own (L' := ([(b24, .cells #[.int .i64 (lev size (min start size) (wantOf ds) (listOf xs) (rd_ + 1)), .int .i64 (lack size (min start size) (wantOf ds) (listOf xs) rd_), .int .i64 (ovr size (min start size) (wantOf ds) (listOf xs) rd_)] 72 (0, 0)), (l_, .loop lp_), (r_, .deferred (some [])), (b5, .cells #[v32] 25 (0, 0)), (b4, .cells #[(val25 9)] 25 (0, 0)), (b3, .cells #[(val25 4)] 25 (0, 0)), (b1, .cells #[.int .i64 (size), .int .i64 (start), .slice a n c] 24 (0, 0))] : Pcs) ++ ((pc26 4) ++ ((pc26 9) ++ (X33 ++ (Z_ ++ []))))) rfl ?_
          exact fun h_ H_ => K₁ _ _ ⟨true, ([(l_, .loop lp_), (r_, .deferred (some [])), (b5, .cells #[v32] 25 (0, 0)), (b4, .cells #[(val25 9)] 25 (0, 0)), (b3, .cells #[(val25 4)] 25 (0, 0)), (b1, .cells #[.int .i64 (size), .int .i64 (start), .slice a n c] 24 (0, 0))] : Pcs) ++ ((pc26 4) ++ ((pc26 9) ++ (X33 ++ []))), rfl, ⟨fun _ => ⟨(val25 4), (val25 9), v32, (pc26 4), (pc26 9), X33, rfl, (o28.as (ns_succ _ _).symm), (o30.as (ns_succ _ _).symm), (o34.as (ns_succ _ _).symm)⟩, fun e_ => (by cases e_)⟩, St.rot' (by simpa using (H_.drop))⟩
        · intro r_ l_ lp_ v_ hlp_
          refine rs_ex fun X_ => rs_and fun hIJ_ => ?_
          rcases hIJ_ with ⟨w1, w2, w3, X1, X2, X3, rfl, o1, o2, o3⟩ | hJ_
          · refine fl_endNone (i := 0) rfl (by rw [hlp_]; simp [loopOf]) (by rw [hlp_]; rfl) ?_
            refine rs_own (L' := ([(l_, .loop { lp_ with state := .exhausted }), (r_, .deferred (some [])), (b5, .cells #[w3] 25 (0, 0)), (b4, .cells #[w2] 25 (0, 0)), (b3, .cells #[w1] 25 (0, 0)), (b1, .cells #[.int .i64 (size), .int .i64 (start), .slice a n c] 24 (0, 0))] : Pcs) ++ (X1 ++ (X2 ++ (X3 ++ [])))) rfl ?_
            rw [hmin] at o1 o2 o3
            refine fl_inBlock ?_
            refine fl_seq ?_
            refine rs_as (fl_mixed (C := []) (A := ([(l_, .loop { lp_ with state := .exhausted }), (r_, .deferred (some [])), (b5, .cells #[w3] 25 (0, 0)), (b4, .cells #[w2] 25 (0, 0)), (b3, .cells #[w1] 25 (0, 0)), (b1, .cells #[.int .i64 (size), .int .i64 (start), .slice a n c] 24 (0, 0))] : Pcs)) 5 [] [5, 6, 7] [5, 6, 7] [0, 1, 2, 3, 4] (fun i_ => match i_ with | 5 => X1 | 6 => X2 | 7 => X3 | _ => []) (fun _ => []) (fun i_ v_ x_ => match i_ with | 0 => v_ = w1 ∧ x_ = [] | 1 => v_ = w2 ∧ x_ = [] | 2 => v_ = w3 ∧ x_ = [] | 3 => v_ = undef ∧ x_ = [] | 4 => v_ = undef ∧ x_ = [] | _ => True) (fun val35 => [.agg #[.int .i64 (size), .int .i64 (start), .slice a n c], .slice b m d, .pointer (some ⟨b1, 0, none⟩), .pointer (some ⟨b2, 0, none⟩), .pointer (some ⟨b3, 0, none⟩), .pointer (some ⟨b4, 0, none⟩), .pointer (some ⟨b5, 0, none⟩), (y8 0), .int .i64 (chk (size) (start) ds), (y8 1), (y8 2), (y8 3), undef, undef, .agg #[.int .i64 (size), .int .i64 (start), .slice a n c], .int .i64 (chk (size) (start) ds), .int .i64 (chk (size) (start) ds), .bool (decide (chk (size) (start) ds ≠ 0)), undef, .slice b m d, .int .i64 (((m : Nat) : Int)), .pointer (some ⟨b1, 2, none⟩), .slice a n c, .int .i64 (((n : Nat) : Int)), .bool (decide (((m : Nat) : Int) ≠ ((n : Nat) : Int))), .slice b m d, .int .i64 (((m : Nat) : Int)), .int .i64 (((k : Nat) : Int)), .bool (decide (((k : Nat) : Int) < ((m : Nat) : Int))), (y8 5), (y8 6), (y8 7), (y8 8), (y8 9), (y8 10), (y8 11), (y8 12), (y8 13), (y8 14), (y8 15), (y8 16), (y8 17), (y8 18), (y8 19), (y8 20), (y8 21), .agg #[.int .i64 (size), .int .i64 (start), .slice a n c], .func (.func 73) #[] #[.pointer (some ⟨b2, 0, none⟩)], .func (.func 95) #[] #[.pointer (some ⟨b13, 0, none⟩), .pointer (some ⟨b14, 0, none⟩)], undef, undef, undef, undef, undef, undef, undef, undef, undef, undef, undef, undef, undef, undef, undef, undef, undef, (val35 0), (val35 1), (val35 2)]) mixed (by kernel_rfl) (Nat.le_of_ble_eq_true rfl) (by kernel_rfl) (by kernel_rfl) ⟨fun _ _ h => h.2, ⟨fun _ _ h => h.2, ⟨fun _ _ h => h.2, ⟨fun _ _ h => h.2, ⟨fun _ _ h => h.2, trivial⟩⟩⟩⟩⟩ (fun _ => by kernel_rfl) (by kernel_rfl) ?_ ?_) (fun h_ H_ => St.swap (A := ([(l_, .loop { lp_ with state := .exhausted }), (r_, .deferred (some [])), (b5, .cells #[w3] 25 (0, 0)), (b4, .cells #[w2] 25 (0, 0)), (b3, .cells #[w1] 25 (0, 0)), (b1, .cells #[.int .i64 (size), .int .i64 (start), .slice a n c] 24 (0, 0))] : Pcs)) (U := (X1 ++ (X2 ++ (X3 ++ [])))) H_)
            · refine mixes_cons rfl (opmix ?_) ?_
              · intro val35 pc36 hQ_ hX_
                refine ⟨[.agg #[.int .i64 (size), .int .i64 (start), .slice a n c], .slice b m d, .pointer (some ⟨b1, 0, none⟩), .pointer (some ⟨b2, 0, none⟩), .pointer (some ⟨b3, 0, none⟩), .pointer (some ⟨b4, 0, none⟩), .pointer (some ⟨b5, 0, none⟩), (y8 0), .int .i64 (chk (size) (start) ds), (y8 1), (y8 2), (y8 3), undef, undef, .agg #[.int .i64 (size), .int .i64 (start), .slice a n c], .int .i64 (chk (size) (start) ds), .int .i64 (chk (size) (start) ds), .bool (decide (chk (size) (start) ds ≠ 0)), undef, .slice b m d, .int .i64 (((m : Nat) : Int)), .pointer (some ⟨b1, 2, none⟩), .slice a n c, .int .i64 (((n : Nat) : Int)), .bool (decide (((m : Nat) : Int) ≠ ((n : Nat) : Int))), .slice b m d, .int .i64 (((m : Nat) : Int)), .int .i64 (((k : Nat) : Int)), .bool (decide (((k : Nat) : Int) < ((m : Nat) : Int))), (y8 5), (y8 6), (y8 7), (y8 8), (y8 9), (y8 10), (y8 11), (y8 12), (y8 13), (y8 14), (y8 15), (y8 16), (y8 17), (y8 18), (y8 19), (y8 20), (y8 21), .agg #[.int .i64 (size), .int .i64 (start), .slice a n c], .func (.func 73) #[] #[.pointer (some ⟨b2, 0, none⟩)], .func (.func 95) #[] #[.pointer (some ⟨b13, 0, none⟩), .pointer (some ⟨b14, 0, none⟩)], undef, undef, undef, undef, undef, undef, undef, undef, undef, undef, undef, undef, undef, undef, undef, undef, undef, (val35 0), (val35 1), (val35 2)], [], rfl, rfl, ?_⟩
                exact mix_det (met_none rfl) (fun _ h_ H_ => exd_load_own H_ tA25 rfl (i := 4) rfl (v := w1) rfl) ⟨rfl, rfl⟩
              refine mixes_cons rfl (opmix ?_) ?_
              · intro val35 pc36 hQ_ hX_
                refine ⟨[.agg #[.int .i64 (size), .int .i64 (start), .slice a n c], .slice b m d, .pointer (some ⟨b1, 0, none⟩), .pointer (some ⟨b2, 0, none⟩), .pointer (some ⟨b3, 0, none⟩), .pointer (some ⟨b4, 0, none⟩), .pointer (some ⟨b5, 0, none⟩), (y8 0), .int .i64 (chk (size) (start) ds), (y8 1), (y8 2), (y8 3), undef, undef, .agg #[.int .i64 (size), .int .i64 (start), .slice a n c], .int .i64 (chk (size) (start) ds), .int .i64 (chk (size) (start) ds), .bool (decide (chk (size) (start) ds ≠ 0)), undef, .slice b m d, .int .i64 (((m : Nat) : Int)), .pointer (some ⟨b1, 2, none⟩), .slice a n c, .int .i64 (((n : Nat) : Int)), .bool (decide (((m : Nat) : Int) ≠ ((n : Nat) : Int))), .slice b m d, .int .i64 (((m : Nat) : Int)), .int .i64 (((k : Nat) : Int)), .bool (decide (((k : Nat) : Int) < ((m : Nat) : Int))), (y8 5), (y8 6), (y8 7), (y8 8), (y8 9), (y8 10), (y8 11), (y8 12), (y8 13), (y8 14), (y8 15), (y8 16), (y8 17), (y8 18), (y8 19), (y8 20), (y8 21), .agg #[.int .i64 (size), .int .i64 (start), .slice a n c], .func (.func 73) #[] #[.pointer (some ⟨b2, 0, none⟩)], .func (.func 95) #[] #[.pointer (some ⟨b13, 0, none⟩), .pointer (some ⟨b14, 0, none⟩)], undef, undef, undef, undef, undef, undef, undef, undef, undef, undef, undef, undef, undef, undef, undef, undef, undef, (val35 0), (val35 1), (val35 2)], [], rfl, rfl, ?_⟩
                exact mix_det (met_none rfl) (fun _ h_ H_ => exd_load_own H_ tA25 rfl (i := 3) rfl (v := w2) rfl) ⟨rfl, rfl⟩
              refine mixes_cons rfl (opmix ?_) ?_
              · intro val35 pc36 hQ_ hX_
                refine ⟨[.agg #[.int .i64 (size), .int .i64 (start), .slice a n c], .slice b m d, .pointer (some ⟨b1, 0, none⟩), .pointer (some ⟨b2, 0, none⟩), .pointer (some ⟨b3, 0, none⟩), .pointer (some ⟨b4, 0, none⟩), .pointer (some ⟨b5, 0, none⟩), (y8 0), .int .i64 (chk (size) (start) ds), (y8 1), (y8 2), (y8 3), undef, undef, .agg #[.int .i64 (size), .int .i64 (start), .slice a n c], .int .i64 (chk (size) (start) ds), .int .i64 (chk (size) (start) ds), .bool (decide (chk (size) (start) ds ≠ 0)), undef, .slice b m d, .int .i64 (((m : Nat) : Int)), .pointer (some ⟨b1, 2, none⟩), .slice a n c, .int .i64 (((n : Nat) : Int)), .bool (decide (((m : Nat) : Int) ≠ ((n : Nat) : Int))), .slice b m d, .int .i64 (((m : Nat) : Int)), .int .i64 (((k : Nat) : Int)), .bool (decide (((k : Nat) : Int) < ((m : Nat) : Int))), (y8 5), (y8 6), (y8 7), (y8 8), (y8 9), (y8 10), (y8 11), (y8 12), (y8 13), (y8 14), (y8 15), (y8 16), (y8 17), (y8 18), (y8 19), (y8 20), (y8 21), .agg #[.int .i64 (size), .int .i64 (start), .slice a n c], .func (.func 73) #[] #[.pointer (some ⟨b2, 0, none⟩)], .func (.func 95) #[] #[.pointer (some ⟨b13, 0, none⟩), .pointer (some ⟨b14, 0, none⟩)], undef, undef, undef, undef, undef, undef, undef, undef, undef, undef, undef, undef, undef, undef, undef, undef, undef, (val35 0), (val35 1), (val35 2)], [], rfl, rfl, ?_⟩
                exact mix_det (met_none rfl) (fun _ h_ H_ => exd_load_own H_ tA25 rfl (i := 2) rfl (v := w3) rfl) ⟨rfl, rfl⟩
              refine mixes_cons rfl (opmix ?_) ?_
              · intro val35 pc36 hQ_ hX_
                have e0_ : val35 0 = w1 := (hQ_ 0 rfl).1
                refine ⟨[.agg #[.int .i64 (size), .int .i64 (start), .slice a n c], .slice b m d, .pointer (some ⟨b1, 0, none⟩), .pointer (some ⟨b2, 0, none⟩), .pointer (some ⟨b3, 0, none⟩), .pointer (some ⟨b4, 0, none⟩), .pointer (some ⟨b5, 0, none⟩), (y8 0), .int .i64 (chk (size) (start) ds), (y8 1), (y8 2), (y8 3), undef, undef, .agg #[.int .i64 (size), .int .i64 (start), .slice a n c], .int .i64 (chk (size) (start) ds), .int .i64 (chk (size) (start) ds), .bool (decide (chk (size) (start) ds ≠ 0)), undef, .slice b m d, .int .i64 (((m : Nat) : Int)), .pointer (some ⟨b1, 2, none⟩), .slice a n c, .int .i64 (((n : Nat) : Int)), .bool (decide (((m : Nat) : Int) ≠ ((n : Nat) : Int))), .slice b m d, .int .i64 (((m : Nat) : Int)), .int .i64 (((k : Nat) : Int)), .bool (decide (((k : Nat) : Int) < ((m : Nat) : Int))), (y8 5), (y8 6), (y8 7), (y8 8), (y8 9), (y8 10), (y8 11), (y8 12), (y8 13), (y8 14), (y8 15), (y8 16), (y8 17), (y8 18), (y8 19), (y8 20), (y8 21), .agg #[.int .i64 (size), .int .i64 (start), .slice a n c], .func (.func 73) #[] #[.pointer (some ⟨b2, 0, none⟩)], .func (.func 95) #[] #[.pointer (some ⟨b13, 0, none⟩), .pointer (some ⟨b14, 0, none⟩)], undef, undef, undef, undef, undef, undef, undef, undef, undef, undef, undef, undef, undef, undef, undef, undef, undef, w1, (val35 1), (val35 2)], [], (by simp only [e0_]), rfl, ?_⟩
                exact mix_same1 (met_none rfl) tS25 rfl (v := w1) rfl o1.one (i := 4) (fun _ => rfl) (Nat.succ_le_iff.1 (Nat.le_of_ble_eq_true rfl)) rfl ⟨rfl, rfl⟩
              refine mixes_cons rfl (opmix ?_) ?_
              · intro val35 pc36 hQ_ hX_
                have e0_ : val35 0 = w1 := (hQ_ 0 rfl).1
                have e1_ : val35 1 = w2 := (hQ_ 1 rfl).1
                refine ⟨[.agg #[.int .i64 (size), .int .i64 (start), .slice a n c], .slice b m d, .pointer (some ⟨b1, 0, none⟩), .pointer (some ⟨b2, 0, none⟩), .pointer (some ⟨b3, 0, none⟩), .pointer (some ⟨b4, 0, none⟩), .pointer (some ⟨b5, 0, none⟩), (y8 0), .int .i64 (chk (size) (start) ds), (y8 1), (y8 2), (y8 3), undef, undef, .agg #[.int .i64 (size), .int .i64 (start), .slice a n c], .int .i64 (chk (size) (start) ds), .int .i64 (chk (size) (start) ds), .bool (decide (chk (size) (start) ds ≠ 0)), undef, .slice b m d, .int .i64 (((m : Nat) : Int)), .pointer (some ⟨b1, 2, none⟩), .slice a n c, .int .i64 (((n : Nat) : Int)), .bool (decide (((m : Nat) : Int) ≠ ((n : Nat) : Int))), .slice b m d, .int .i64 (((m : Nat) : Int)), .int .i64 (((k : Nat) : Int)), .bool (decide (((k : Nat) : Int) < ((m : Nat) : Int))), (y8 5), (y8 6), (y8 7), (y8 8), (y8 9), (y8 10), (y8 11), (y8 12), (y8 13), (y8 14), (y8 15), (y8 16), (y8 17), (y8 18), (y8 19), (y8 20), (y8 21), .agg #[.int .i64 (size), .int .i64 (start), .slice a n c], .func (.func 73) #[] #[.pointer (some ⟨b2, 0, none⟩)], .func (.func 95) #[] #[.pointer (some ⟨b13, 0, none⟩), .pointer (some ⟨b14, 0, none⟩)], undef, undef, undef, undef, undef, undef, undef, undef, undef, undef, undef, undef, undef, undef, undef, undef, undef, w1, w2, (val35 2)], [], (by simp only [e0_, e1_]), rfl, ?_⟩
                exact mix_same1 (met_none rfl) tS25 rfl (v := w2) rfl o2.one (i := 3) (fun _ => rfl) (Nat.succ_le_iff.1 (Nat.le_of_ble_eq_true rfl)) rfl ⟨rfl, rfl⟩
              exact mixes_nil rfl
            intro val35 pc36 hQ_ hX_
            have e0_ : val35 0 = w1 := (hQ_ 0 (by decide)).1
            have e1_ : val35 1 = w2 := (hQ_ 1 (by decide)).1
            have e2_ : val35 2 = w3 := (hQ_ 2 (by decide)).1
            have x5_ : pc36 5 = X1 := hX_ 5 (by decide)
            have x6_ : pc36 6 = X2 := hX_ 6 (by decide)
            have x7_ : pc36 7 = X3 := hX_ 7 (by decide)
            refine rl_as (Φ := fun h_ => St h [] p21 h_ (([(l_, .loop { lp_ with state := .exhausted }), (r_, .deferred (some [])), (b5, .cells #[w3] 25 (0, 0)), (b4, .cells #[w2] 25 (0, 0)), (b3, .cells #[w1] 25 (0, 0)), (b1, .cells #[.int .i64 (size), .int .i64 (start), .slice a n c] 24 (0, 0))] : Pcs) ++ (pc36 5 ++ (pc36 6 ++ (pc36 7 ++ []))))) ?_ (fun h_ H_ => H_.swap')
            rw [x5_, x6_, x7_]
            refine rl_norm (tm' := [.agg #[.int .i64 (size), .int .i64 (start), .slice a n c], .slice b m d, .pointer (some ⟨b1, 0, none⟩), .pointer (some ⟨b2, 0, none⟩), .pointer (some ⟨b3, 0, none⟩), .pointer (some ⟨b4, 0, none⟩), .pointer (some ⟨b5, 0, none⟩), (y8 0), .int .i64 (chk (size) (start) ds), (y8 1), (y8 2), (y8 3), undef, undef, .agg #[.int .i64 (size), .int .i64 (start), .slice a n c], .int .i64 (chk (size) (start) ds), .int .i64 (chk (size) (start) ds), .bool (decide (chk (size) (start) ds ≠ 0)), undef, .slice b m d, .int .i64 (((m : Nat) : Int)), .pointer (some ⟨b1, 2, none⟩), .slice a n c, .int .i64 (((n : Nat) : Int)), .bool (decide (((m : Nat) : Int) ≠ ((n : Nat) : Int))), .slice b m d, .int .i64 (((m : Nat) : Int)), .int .i64 (((k : Nat) : Int)), .bool (decide (((k : Nat) : Int) < ((m : Nat) : Int))), (y8 5), (y8 6), (y8 7), (y8 8), (y8 9), (y8 10), (y8 11), (y8 12), (y8 13), (y8 14), (y8 15), (y8 16), (y8 17), (y8 18), (y8 19), (y8 20), (y8 21), .agg #[.int .i64 (size), .int .i64 (start), .slice a n c], .func (.func 73) #[] #[.pointer (some ⟨b2, 0, none⟩)], .func (.func 95) #[] #[.pointer (some ⟨b13, 0, none⟩), .pointer (some ⟨b14, 0, none⟩)], undef, undef, undef, undef, undef, undef, undef, undef, undef, undef, undef, undef, undef, undef, undef, undef, undef, w1, w2, w3]) (by simp only [e0_, e1_, e2_]) ?_
            clear hQ_ hX_
            refine rl_store1 (met_none rfl) tS25 rfl (v := w3) rfl o3.one (i := 2) rfl (Nat.succ_le_iff.1 (Nat.le_of_ble_eq_true rfl)) (cs2 := [w3]) rfl (rl_own (L' := ([(l_, .loop { lp_ with state := .exhausted }), (r_, .deferred (some [])), (b5, .cells #[w3] 25 (0, 0)), (b4, .cells #[w2] 25 (0, 0)), (b3, .cells #[w1] 25 (0, 0)), (b1, .cells #[.int .i64 (size), .int .i64 (start), .slice a n c] 24 (0, 0))] : Pcs) ++ (X1 ++ (X2 ++ (X3 ++ [])))) rfl ?_)
            refine rl_det (met_none rfl) (fun h_ H_ => exd_assign (v := .int .i64 0) rfl) (tm' := _::_::_::_::_::_::_::_::_) rfl ?_
            refine rl_end ?_
            refine fl_retD (i := 1) Try.func34 rfl rfl (vs := [w1, w2, w3, .int .i64 0]) (fun h_ H_ => ⟨w1, _, rfl, (wpS_bind (wpS_pure (wpS_loadVar1 tA25 (H_.ocell (i := 4) rfl (v := w1) rfl) ⟨rfl, rfl⟩))), ⟨w2, _, rfl, (wpS_bind (wpS_pure (wpS_loadVar1 tA25 (H_.ocell (i := 3) rfl (v := w2) rfl) ⟨rfl, rfl⟩))), ⟨w3, _, rfl, (wpS_bind (wpS_pure (wpS_loadVar1 tA25 (H_.ocell (i := 2) rfl (v := w3) rfl) ⟨rfl, rfl⟩))), ⟨.int .i64 0, _, rfl, rfl, rfl⟩⟩⟩⟩) (v := .tuple #[w1, w2, w3, .int .i64 0]) rfl ?_
            refine rs_own (L' := ([(l_, .loop { lp_ with state := .exhausted }), (r_, .deferred none), (b5, .cells #[w3] 25 (0, 0)), (b4, .cells #[w2] 25 (0, 0)), (b3, .cells #[w1] 25 (0, 0)), (b1, .cells #[.int .i64 (size), .int .i64 (start), .slice a n c] 24 (0, 0))] : Pcs) ++ (X1 ++ (X2 ++ (X3 ++ [])))) rfl ?_
            exact fun h_ H_ => K _ _ ⟨_, _, _, _, _, _, by rw [askd_ok hOk (decide_eq_true hX)], fun _ => ⟨o1, o2, o3⟩, fun e => absurd ⟨hOk, hX⟩ e, H_.dropA.new⟩
          · exact hJ_.elim
end Go.Proofs.Ytbmkacnlhlbnjaa
namespace Go.Proofs.Ytbmkacnlhlbnjaa
open Go.X Go.X.Cist Go.Conc
set_option maxRecDepth 10000

theorem c64 (md : Md) (h : Heap) (p : PHeap) (hp : Per p h) (bN : Nat) (w n : Int) (hN : p bN = some (.cells #[.int .i64 n] 3 (0, 0))) (i : Int) : CallsX Try.prog md 64 #[.int .i64 (i), .int .i64 (w), .pointer (some ⟨bN, 0, none⟩)] h fun v h' => v = .int .i64 (min w n) ∧ Keep h h' := by
  refine calls_intro (Φ := fun h_ => St h [] p h_ []) Try.func64 rfl (tm := [_, _, _, _, _, _, _, _, _]) rfl ?_ (St.start h _ hp)
  intro c₀ cs Stop K
  refine fl_seq ?_
  refine rl_start ?_
  refine rl_det (met_none rfl) (fun h_ H_ => exd_assign (v := .int .i64 0) rfl) (tm' := _::_::_::_::_::_::_) rfl ?_
  refine rl_end ?_
  refine fl_seq ?_
  refine rl_start ?_
  refine rl_det (met_none rfl) (fun h_ H_ => exd_move (v := .int .i64 (w)) rfl) (tm' := [_,_,_,_,_,_,_,_,_]) rfl ?_
  refine rl_det (met_none rfl) (fun h_ H_ => exd_load_per H_ tA3 rfl (v := .int .i64 (n)) (per_cell hN rfl)) (tm' := [_,_,_,_,_,_,_,_,_]) rfl ?_
  refine rl_det (met_none rfl) (fun h_ H_ => exd_min rfl rfl) (tm' := [_,_,_,_,_,_,_,_,_]) rfl ?_
  refine rl_det (met_none rfl) (fun h_ H_ => exd_assign (v := .int .i64 (min w n)) rfl) (tm' := _::_::_::_::_::_::_) rfl ?_
  refine rl_end ?_
  refine fl_ret Try.func64 rfl (vs := [.int .i64 (min w n)]) (fun h_ H_ => ⟨.int .i64 (min w n), _, rfl, rfl, rfl⟩) (v := .int .i64 (min w n)) rfl ?_
  exact fun h_ H_ => K _ _ ⟨rfl, H_.kept⟩
theorem c23 (md : Md) (h : Heap) (p : PHeap) (hp : Per p h) (size start : Int) (a : Option Addr) (n c : Nat) (ds : List Day) (D : Days p a n ds) (hn : n ≤ 40) : CallsX Try.prog md 23 #[.agg #[.int .i64 (size), .int .i64 (start), .slice a n c]] h fun v h' => v = .tuple #[.int .i64 (if Ok size start ds then ratDown size start ds 20 else 0), .int .i64 (chk size start ds)] ∧ Keep h h' := by
  refine calls_intro (Φ := fun h_ => St h [] p h_ []) Try.func23 rfl (tm := [_, _, _, _, _, _, _, _, _, _, _, _, _, _, _, _, _, _, _]) rfl ?_ (St.start h _ hp)
  intro c₀ cs Stop K
  have hl := D.len
  refine fl_seq ?_
  refine rl_start ?_
  refine rl_box (met_none rfl) (v := .agg #[.int .i64 (size), .int .i64 (start), .slice a n c]) rfl fun b1 => rl_own (L' := [(b1, .cells #[.int .i64 (size), .int .i64 (start), .slice a n c] 24 (0, 0))]) rfl ?_
  refine rl_norm (tm' := _::_::_) rfl ?_
  refine rl_det (met_none rfl) (fun h_ H_ => exd_assign (v := .int .i64 0) rfl) (tm' := _::_::_::_) rfl ?_
  refine rl_det (met_none rfl) (fun h_ H_ => exd_assign (v := .int .i64 0) rfl) (tm' := _::_::_::_::_) rfl ?_
  refine rl_end ?_
  refine fl_seq ?_
  refine fl_seq ?_
  refine rl_start ?_
  refine rl_det (met_none rfl) (fun h_ H_ => exd_loadN_own H_ tA24 tS24 rfl (i := 0) rfl (vs := [.int .i64 (size), .int .i64 (start), .slice a n c]) rfl rfl) (tm' := _::_::_::_::_::_::_::_) rfl ?_
  refine rl_calld (met_none rfl) (first := []) (cap := []) rfl rfl fC32 (fun h_ H_ => c32 md _ _ (fun b_ o_ e_ => H_.per b_ o_ e_) (size) (start) _ _ _ _ D (by omega)) (tm' := _::_::_::_::_::_::_::_::_) rfl ?_
  refine rl_det (met_none rfl) (fun h_ H_ => exd_assign (v := .int .i64 (chk (size) (start) ds)) rfl) (tm' := _::_::_::_::_::_) rfl ?_
  refine rl_end ?_
  refine fl_seq ?_
  refine rl_start ?_
  refine rl_det (met_none rfl) (fun h_ H_ => exd_move (v := .int .i64 (chk (size) (start) ds)) rfl) (tm' := _::_::_::_::_::_::_::_::_::_) rfl ?_
  refine rl_det (met_none rfl) (fun h_ H_ => exd_neq rfl rfl) (tm' := _::_::_::_::_::_::_::_::_::_::_) rfl ?_
  refine rl_end ?_
  by_cases c2 : chk (size) (start) ds ≠ 0
  · refine fl_then rfl (decide_eq_true c2) ?_
    refine fl_seq ?_
    refine rl_start ?_
    refine rl_det (met_none rfl) (fun h_ H_ => exd_move (v := .int .i64 (chk (size) (start) ds)) rfl) (tm' := _::_::_::_::_::_::_::_::_::_::_::_) rfl ?_
    refine rl_det (met_none rfl) (fun h_ H_ => exd_assign (v := .int .i64 0) rfl) (tm' := _::_::_::_) rfl ?_
    refine rl_det (met_none rfl) (fun h_ H_ => exd_assign (v := .int .i64 (chk (size) (start) ds)) rfl) (tm' := _::_::_::_::_) rfl ?_
    refine rl_end ?_
    refine fl_ret Try.func23 rfl (vs := [.int .i64 0, .int .i64 (chk (size) (start) ds)]) (fun h_ H_ => ⟨.int .i64 0, _, rfl, rfl, ⟨.int .i64 (chk (size) (start) ds), _, rfl, rfl, rfl⟩⟩) (v := .tuple #[.int .i64 0, .int .i64 (chk (size) (start) ds)]) rfl ?_
    have hOk : ¬ Ok size start ds := fun e => absurd (chk_yes e) ‹_›
    exact fun h_ H_ => K _ _ ⟨by rw [if_neg hOk], H_.kept⟩
  · refine fl_else rfl (decide_eq_false c2) ?_
    refine fl_skip ?_
    refine fl_seq ?_
    have hOk : Ok size start ds := chk_zero.1 (by omega)
    refine rl_start ?_
    refine rl_alloc (met_none rfl) tZ3 rfl fun b3 => rl_own (L' := [(b3, .cells #[.int .i64 0] 3 (0, 0)), (b1, .cells #[.int .i64 (size), .int .i64 (start), .slice a n c] 24 (0, 0))]) rfl ?_
    refine rl_norm (tm' := _::_::_::_::_::_::_) rfl ?_
    refine rl_store (met_none rfl) tS3 rfl (v := .int .i64 20) rfl (i := 0) rfl rfl rfl (Nat.le_of_ble_eq_true rfl) (cs2 := [.int .i64 20]) rfl (rl_own (L' := [(b3, .cells #[.int .i64 20] 3 (0, 0)), (b1, .cells #[.int .i64 (size), .int .i64 (start), .slice a n c] 24 (0, 0))]) rfl ?_)
    refine rl_end ?_
    refine fl_seq ?_
    refine fl_block ?_
    refine fl_loop (m₀ := 20 + 1) (fun m_ tm_ h_ => ∃ (k : Nat) (nn : Int) (y4 : Nat → Value), m_ = k + 1 ∧ tm_ = [.agg #[.int .i64 (size), .int .i64 (start), .slice a n c], .pointer (some ⟨b1, 0, none⟩), .int .i64 0, .int .i64 0, .int .i64 (chk (size) (start) ds), .pointer (some ⟨b3, 0, none⟩), .agg #[.int .i64 (size), .int .i64 (start), .slice a n c], .int .i64 (chk (size) (start) ds), .int .i64 (chk (size) (start) ds), .bool (decide (chk (size) (start) ds ≠ 0)), undef, (y4 0), (y4 1), (y4 2), (y4 3), (y4 4), (y4 5), (y4 6), undef] ∧ (nn = ((k : Nat) : Int)) ∧ (k ≤ 20) ∧ (ratDown size start ds 20 = ratDown size start ds k) ∧ St h [] p h_ ([(b3, .cells #[.int .i64 (nn)] 3 (0, 0)), (b1, .cells #[.int .i64 (size), .int .i64 (start), .slice a n c] 24 (0, 0))])) (fun h_ H_ => ⟨20, 20, (fun i_ => [undef, undef, undef, undef, undef, undef, undef].getD i_ undef), rfl, rfl, rfl, Nat.le_refl _, rfl, H_⟩) ?_
    intro m_ tm_ IH5
    refine rs_ex fun k => rs_ex fun nn => rs_ex fun y4 => rs_and fun hm_ => rs_and fun ht_ => rs_and fun hnn => rs_and fun hk => rs_and fun hr => ?_
    subst hm_; subst ht_
    subst hnn
    refine fl_seq ?_
    refine fl_seq ?_
    refine rl_start ?_
    refine rl_det (met_none rfl) (fun h_ H_ => exd_loadN_own H_ tA24 tS24 rfl (i := 1) rfl (vs := [.int .i64 (size), .int .i64 (start), .slice a n c]) rfl rfl) (tm' := _::_::_::_::_::_::_::_::_::_::_::_::_) rfl ?_
    refine rl_det (met_none rfl) (fun h_ H_ => exd_makeFunc (a := []) (b := [.pointer (some ⟨b3, 0, none⟩)]) rfl rfl) (tm' := [_,_,_,_,_,_,_,_,_,_,_,_,_,_,_,_,_,_,_]) rfl ?_
    refine rl_own (L' := ([(b3, .cells #[.int .i64 (((k : Nat) : Int))] 3 (0, 0)), (b1, .cells #[.int .i64 (size), .int .i64 (start), .slice a n c] 24 (0, 0))] : Pcs) ++ []) rfl ?_
    refine rl_call (met_none rfl) (first := []) (cap := []) rfl rfl fC63 (R := fun v_ h_ => ∃ w6 : Value, ∃ X7 : Pcs, v_ = .agg #[.int .i64 (size), .int .i64 (start), w6] ∧ (OwnS 38 3 w6 (dcs (wmap (fun _ w => min w (((k : Nat) : Int))) ds)) X7) ∧ St h [] p h_ (([(b3, .cells #[.int .i64 (((k : Nat) : Int))] 3 (0, 0)), (b1, .cells #[.int .i64 (size), .int .i64 (start), .slice a n c] 24 (0, 0))] : Pcs) ++ (X7 ++ []))) (fun h_ H_ => (c63 md _ (padd p b3 (.cells #[.int .i64 (((k : Nat) : Int))] 3 (0, 0))) (H_.perO (i := 0) rfl) (size) (start) _ _ _ _ (D.mono (H_.leO (i := 0) rfl)) (by omega) (.func (.func 64) #[] #[.pointer (some ⟨b3, 0, none⟩)]) (fun _ w => min w (((k : Nat) : Int))) (fun h_ hp_ i_ hi_ => callv_of fC64 (c64 md _ _ hp_ _ _ (((k : Nat) : Int)) padd_self _))).mono fun v_ h2_ ⟨w6, X7, e_, o8, N_⟩ => ⟨w6, X7, e_, o8, H_.callNA N_⟩) fun v_ => ?_
    refine rl_ex fun w6 => rl_ex fun X7 => rl_and fun ev_ => rl_and fun o8 => ?_
    have ev_ := ev_.symm; subst ev_
    refine rl_own (L' := ([(b3, .cells #[.int .i64 (((k : Nat) : Int))] 3 (0, 0)), (b1, .cells #[.int .i64 (size), .int .i64 (start), .slice a n c] 24 (0, 0))] : Pcs) ++ (X7 ++ [])) rfl ?_
    refine rl_norm (tm' := [_,_,_,_,_,_,_,_,_,_,_,_,_,_,_,_,_,_,_]) rfl ?_
    refine rl_lastN (A := ([(b3, .cells #[.int .i64 (((k : Nat) : Int))] 3 (0, 0)), (b1, .cells #[.int .i64 (size), .int .i64 (start), .slice a n c] 24 (0, 0))] : Pcs)) o8 (show (dcs (wmap (fun _ w => min w (((k : Nat) : Int))) ds)).length = n by rw [dcs_length, wmap_length]; exact hl) fun p9 a10 cp11 le12 ev_ D13 => ?_
    subst ev_
    refine rl_own (L' := [(b3, .cells #[.int .i64 (((k : Nat) : Int))] 3 (0, 0)), (b1, .cells #[.int .i64 (size), .int .i64 (start), .slice a n c] 24 (0, 0))]) rfl ?_
    refine rl_calld (met_none rfl) (first := []) (cap := []) rfl rfl fC62 (fun h_ H_ => c62 md _ _ (fun b_ o_ e_ => H_.per b_ o_ e_) (size) (start) _ _ _ _ D13 (by omega) ⟨hOk.1, hOk.2.1, hOk.2.2.1⟩ (dok_wmap hOk.dok (fun i hi => by have := (hOk.dok i hi).2; omega))) (tm' := [_,_,_,_,_,_,_,_,_,_,_,_,_,_,_,_,_,_,_]) rfl ?_
    refine rl_det (met_none rfl) (fun h_ H_ => exd_not rfl) (tm' := [_,_,_,_,_,_,_,_,_,_,_,_,_,_,_,_,_,_,_]) rfl ?_
    refine rl_end ?_
    by_cases c14 : Lasts (size) (start) (wmap (fun _ w => min w (((k : Nat) : Int))) ds)
    · refine fl_else rfl (not_f (decide_eq_true c14)) ?_
      refine fl_exit rfl ?_
      refine fl_seq ?_
      refine rl_start ?_
      refine rl_det (met_none rfl) (fun h_ H_ => exd_load_own H_ tA3 rfl (i := 0) rfl (v := .int .i64 (((k : Nat) : Int))) rfl) (tm' := [_,_,_,_,_,_,_,_,_,_,_,_,_,_,_,_,_,_,_]) rfl ?_
      refine rl_det (met_none rfl) (fun h_ H_ => exd_assign (v := .int .i64 (((k : Nat) : Int))) rfl) (tm' := _::_::_::_) rfl ?_
      refine rl_det (met_none rfl) (fun h_ H_ => exd_assign (v := .int .i64 0) rfl) (tm' := _::_::_::_::_) rfl ?_
      refine rl_end ?_
      refine fl_ret Try.func23 rfl (vs := [.int .i64 (((k : Nat) : Int)), .int .i64 0]) (fun h_ H_ => ⟨.int .i64 (((k : Nat) : Int)), _, rfl, rfl, ⟨.int .i64 0, _, rfl, rfl, rfl⟩⟩) (v := .tuple #[.int .i64 (((k : Nat) : Int)), .int .i64 0]) rfl ?_
      exact fun h_ H_ => K _ _ ⟨by rw [if_pos hOk, chk_yes hOk, hr, rat_at ‹_›], H_.kept⟩
    · refine fl_then rfl (not_t (decide_eq_false c14)) ?_
      refine fl_skip ?_
      refine fl_block ?_
      refine rl_start ?_
      refine rl_det (met_none rfl) (fun h_ H_ => exd_load_own H_ tA3 rfl (i := 0) rfl (v := .int .i64 (((k : Nat) : Int))) rfl) (tm' := [_,_,_,_,_,_,_,_,_,_,_,_,_,_,_,_,_,_,_]) rfl ?_
      refine rl_det (met_none rfl) (fun h_ H_ => exd_sub rfl rfl (wr (by omega))) (tm' := [_,_,_,_,_,_,_,_,_,_,_,_,_,_,_,_,_,_,_]) rfl ?_
      refine rl_store (met_none rfl) tS3 rfl (v := .int .i64 (((k : Nat) : Int) - 1)) rfl (i := 0) rfl rfl rfl (Nat.le_of_ble_eq_true rfl) (cs2 := [.int .i64 (((k : Nat) : Int) - 1)]) rfl (rl_own (L' := [(b3, .cells #[.int .i64 (((k : Nat) : Int) - 1)] 3 (0, 0)), (b1, .cells #[.int .i64 (size), .int .i64 (start), .slice a n c] 24 (0, 0))]) rfl ?_)
      refine rl_end ?_
      refine fl_inBlock ?_
      exact fun h_ H_ => IH5 _ _ (by have := rat_down ⟨hOk.1, hOk.2.2.1⟩ hOk.dok ‹¬ Lasts size start _›; omega) h_ ⟨k - 1, _, (fun i_ => [.agg #[.int .i64 (size), .int .i64 (start), .slice a n c], .func (.func 64) #[] #[.pointer (some ⟨b3, 0, none⟩)], .agg #[.int .i64 (size), .int .i64 (start), .slice a10 n cp11], .bool (decide (Lasts (size) (start) (wmap (fun _ w => min w (((k : Nat) : Int))) ds))), .bool (!(decide (Lasts (size) (start) (wmap (fun _ w => min w (((k : Nat) : Int))) ds)))), .int .i64 (((k : Nat) : Int)), .int .i64 (((k : Nat) : Int) - 1)].getD i_ undef), rfl, rfl, (by have := rat_down ⟨hOk.1, hOk.2.2.1⟩ hOk.dok ‹¬ Lasts size start _›; omega), (by omega), (hr.trans (rat_down ⟨hOk.1, hOk.2.2.1⟩ hOk.dok ‹¬ Lasts size start _›).2), (H_.forget le12)⟩
end Go.Proofs.Ytbmkacnlhlbnjaa
namespace Go.Proofs.Ytbmkacnlhlbnjaa
open Go.X Go.X.Cist Go.Conc
set_option maxRecDepth 10000

def exC : List Day := [⟨2, 5, 4⟩, ⟨0, 8, 6⟩, ⟨3, 3, 2⟩, ⟨0, 1, 5⟩]
def exD : List Day := [⟨0, 2, 1⟩, ⟨6, 9, 2⟩, ⟨0, 0, 7⟩, ⟨4, 4, 3⟩]
theorem c85 (md : Md) (h : Heap) (a b c : Int) : CallsX Try.prog md 85 #[.int .i64 (a), .int .i64 (b), .int .i64 (c)] h fun v h' => v = .agg #[.int .i64 (a), .int .i64 (b), .int .i64 (c)] ∧ Keep h h' := by
  refine calls_intro (Φ := fun h_ => St h [] (fun _ => none) h_ []) Try.func85 rfl (tm := [_, _, _, _, _, _, _, _, _, _, _, _]) rfl ?_ (St.start h _ (fun _ _ e => by cases e))
  intro c₀ cs Stop K
  refine fl_seq ?_
  refine rl_start ?_
  refine rl_alloc (met_none rfl) tZ38 rfl fun b1 => rl_own (L' := [(b1, .cells #[.int .i64 0, .int .i64 0, .int .i64 0] 38 (0, 0))]) rfl ?_
  refine rl_norm (tm' := _::_::_::_::_::_::_::_) rfl ?_
  refine rl_end ?_
  refine fl_seq ?_
  refine rl_start ?_
  refine rl_det (met_none rfl) (fun h_ H_ => exd_move (v := .int .i64 (a)) rfl) (tm' := _::_::_::_::_::_::_::_::_) rfl ?_
  refine rl_det (met_none rfl) (fun h_ H_ => exd_move (v := .int .i64 (b)) rfl) (tm' := [_,_,_,_,_,_,_,_,_,_,_,_]) rfl ?_
  refine rl_det (met_none rfl) (fun h_ H_ => exd_build tZ36 tP36 (vs := [(0, .int .i64 (a)), (1, .int .i64 (b))]) rfl (cells := #[.int .i64 (a), .int .i64 (b)]) rfl) (tm' := [_,_,_,_,_,_,_,_,_,_,_,_]) rfl ?_
  refine rl_det (met_none rfl) (fun h_ H_ => exd_move (v := .int .i64 (c)) rfl) (tm' := [_,_,_,_,_,_,_,_,_,_,_,_]) rfl ?_
  refine rl_det (met_none rfl) (fun h_ H_ => exd_build tZ38 tP38 (vs := [(0, .agg #[.int .i64 (a), .int .i64 (b)]), (1, .int .i64 (c))]) rfl (cells := #[.int .i64 (a), .int .i64 (b), .int .i64 (c)]) rfl) (tm' := [_,_,_,_,_,_,_,_,_,_,_,_]) rfl ?_
  refine rl_store (met_none rfl) tS38 rfl (v := .agg #[.int .i64 (a), .int .i64 (b), .int .i64 (c)]) rfl (i := 0) rfl rfl rfl (Nat.le_of_ble_eq_true rfl) (cs2 := [.int .i64 (a), .int .i64 (b), .int .i64 (c)]) rfl (rl_own (L' := [(b1, .cells #[.int .i64 (a), .int .i64 (b), .int .i64 (c)] 38 (0, 0))]) rfl ?_)
  refine rl_end ?_
  refine fl_ret Try.func85 rfl (vs := [.agg #[.int .i64 (a), .int .i64 (b), .int .i64 (c)]]) (fun h_ H_ => ⟨.agg #[.int .i64 (a), .int .i64 (b), .int .i64 (c)], _, rfl, (wpS_bind (wpS_pure (wpS_loadVarN tA38 tS38 (vs := [.int .i64 (a), .int .i64 (b), .int .i64 (c)]) rfl (fun j_ v_ e_ => by rw [add_mk]; exact H_.ocell (i := 0) rfl (by simpa using e_)) ⟨rfl, rfl⟩))), rfl⟩) (v := .agg #[.int .i64 (a), .int .i64 (b), .int .i64 (c)]) rfl ?_
  exact fun h_ H_ => K _ _ ⟨rfl, H_.kept⟩
theorem c61 (md : Md) (h : Heap) : CallsX Try.prog md 61 #[] h fun v h' => ∃ w1 w2 X1 X2, v = .tuple #[.agg #[.int .i64 10, .int .i64 4, w1], .agg #[.int .i64 10, .int .i64 5, w2]] ∧ OwnS 38 3 w1 (dcs exC) X1 ∧ OwnS 38 3 w2 (dcs exD) X2 ∧ New h h' (X2 ++ (X1 ++ [])) := by
  refine calls_intro (Φ := fun h_ => St h [] (fun _ => none) h_ []) Try.func61 rfl (tm := [_, _, _, _, _, _, _, _, _, _, _, _, _, _, _, _]) rfl ?_ (St.start h _ (fun _ _ e => by cases e))
  intro c₀ cs Stop K
  refine fl_seq ?_
  refine rl_start ?_
  refine rl_alloc (met_none rfl) tZ24 rfl fun b1 => rl_own (L' := [(b1, .cells #[.int .i64 0, .int .i64 0, .slice none 0 0] 24 (0, 0))]) rfl ?_
  refine rl_norm (tm' := _::_) rfl ?_
  refine rl_alloc (met_none rfl) tZ24 rfl fun b2 => rl_own (L' := [(b2, .cells #[.int .i64 0, .int .i64 0, .slice none 0 0] 24 (0, 0)), (b1, .cells #[.int .i64 0, .int .i64 0, .slice none 0 0] 24 (0, 0))]) rfl ?_
  refine rl_norm (tm' := _::_::_) rfl ?_
  refine rl_end ?_
  refine fl_seq ?_
  refine rl_start ?_
  refine rl_calld (met_none rfl) (first := []) (cap := []) rfl rfl fC85 (fun h_ H_ => c85 md _ (2) (5) (4)) (tm' := _::_::_::_) rfl ?_
  refine rl_calld (met_none rfl) (first := []) (cap := []) rfl rfl fC85 (fun h_ H_ => c85 md _ (0) (8) (6)) (tm' := _::_::_::_::_) rfl ?_
  refine rl_calld (met_none rfl) (first := []) (cap := []) rfl rfl fC85 (fun h_ H_ => c85 md _ (3) (3) (2)) (tm' := _::_::_::_::_::_) rfl ?_
  refine rl_calld (met_none rfl) (first := []) (cap := []) rfl rfl fC85 (fun h_ H_ => c85 md _ (0) (1) (5)) (tm' := _::_::_::_::_::_::_) rfl ?_
  refine rl_own (L' := ([(b2, .cells #[.int .i64 0, .int .i64 0, .slice none 0 0] 24 (0, 0)), (b1, .cells #[.int .i64 0, .int .i64 0, .slice none 0 0] 24 (0, 0))] : Pcs) ++ []) rfl ?_
  refine rl_buildO ([(b2, .cells #[.int .i64 0, .int .i64 0, .slice none 0 0] 24 (0, 0)), (b1, .cells #[.int .i64 0, .int .i64 0, .slice none 0 0] 24 (0, 0))] : Pcs) (met_none rfl) Try.underlying22 tS38 tZ38 (Nat.le_of_ble_eq_true rfl) (vs := [(0, .agg #[.int .i64 2, .int .i64 5, .int .i64 4]), (1, .agg #[.int .i64 0, .int .i64 8, .int .i64 6]), (2, .agg #[.int .i64 3, .int .i64 3, .int .i64 2]), (3, .agg #[.int .i64 0, .int .i64 1, .int .i64 5])]) rfl rfl (es := [[.int .i64 2, .int .i64 5, .int .i64 4], [.int .i64 0, .int .i64 8, .int .i64 6], [.int .i64 3, .int .i64 3, .int .i64 2], [.int .i64 0, .int .i64 1, .int .i64 5]]) rfl rfl rfl fun v3 X4 o5 => ?_
  refine rl_norm (tm' := _::_::_::_::_::_::_::_) rfl ?_
  obtain ⟨a6, c7, ev_, _⟩ := o5.val; have ev_ : v3 = .slice a6 4 c7 := ev_.trans (congrArg (fun q_ => Value.slice a6 q_ c7) (show _ = 4 from rfl)); subst ev_
  refine rl_det (met_none rfl) (fun h_ H_ => exd_build tZ24 tP24 (vs := [(0, .int .i64 10), (1, .int .i64 4), (2, (.slice a6 4 c7))]) rfl (cells := #[.int .i64 10, .int .i64 4, (.slice a6 4 c7)]) rfl) (tm' := _::_::_::_::_::_::_::_::_) rfl ?_
  refine rl_store (met_none rfl) tS24 rfl (v := .agg #[.int .i64 10, .int .i64 4, (.slice a6 4 c7)]) rfl (i := 1) rfl rfl (ones_cons rfl (ones_cons rfl (ones_cons o5.one.2 rfl))) (Nat.le_of_ble_eq_true rfl) (cs2 := [.int .i64 10, .int .i64 4, (.slice a6 4 c7)]) rfl (rl_own (L' := ([(b2, .cells #[.int .i64 0, .int .i64 0, .slice none 0 0] 24 (0, 0)), (b1, .cells #[.int .i64 10, .int .i64 4, (.slice a6 4 c7)] 24 (0, 0))] : Pcs) ++ (X4 ++ [])) rfl ?_)
  refine rl_end ?_
  refine fl_seq ?_
  refine rl_start ?_
  refine rl_calld (met_none rfl) (first := []) (cap := []) rfl rfl fC85 (fun h_ H_ => c85 md _ (0) (2) (1)) (tm' := _::_::_::_::_::_::_::_::_::_) rfl ?_
  refine rl_calld (met_none rfl) (first := []) (cap := []) rfl rfl fC85 (fun h_ H_ => c85 md _ (6) (9) (2)) (tm' := _::_::_::_::_::_::_::_::_::_::_) rfl ?_
  refine rl_calld (met_none rfl) (first := []) (cap := []) rfl rfl fC85 (fun h_ H_ => c85 md _ (0) (0) (7)) (tm' := [_,_,_,_,_,_,_,_,_,_,_,_,_,_,_,_]) rfl ?_
  refine rl_calld (met_none rfl) (first := []) (cap := []) rfl rfl fC85 (fun h_ H_ => c85 md _ (4) (4) (3)) (tm' := [_,_,_,_,_,_,_,_,_,_,_,_,_,_,_,_]) rfl ?_
  refine rl_buildO ([(b2, .cells #[.int .i64 0, .int .i64 0, .slice none 0 0] 24 (0, 0)), (b1, .cells #[.int .i64 10, .int .i64 4, (.slice a6 4 c7)] 24 (0, 0))] : Pcs) (met_none rfl) Try.underlying22 tS38 tZ38 (Nat.le_of_ble_eq_true rfl) (vs := [(0, .agg #[.int .i64 0, .int .i64 2, .int .i64 1]), (1, .agg #[.int .i64 6, .int .i64 9, .int .i64 2]), (2, .agg #[.int .i64 0, .int .i64 0, .int .i64 7]), (3, .agg #[.int .i64 4, .int .i64 4, .int .i64 3])]) rfl rfl (es := [[.int .i64 0, .int .i64 2, .int .i64 1], [.int .i64 6, .int .i64 9, .int .i64 2], [.int .i64 0, .int .i64 0, .int .i64 7], [.int .i64 4, .int .i64 4, .int .i64 3]]) rfl rfl rfl fun v8 X9 o10 => ?_
  refine rl_norm (tm' := [_,_,_,_,_,_,_,_,_,_,_,_,_,_,_,_]) rfl ?_
  obtain ⟨a11, c12, ev_, _⟩ := o10.val; have ev_ : v8 = .slice a11 4 c12 := ev_.trans (congrArg (fun q_ => Value.slice a11 q_ c12) (show _ = 4 from rfl)); subst ev_
  refine rl_det (met_none rfl) (fun h_ H_ => exd_build tZ24 tP24 (vs := [(0, .int .i64 10), (1, .int .i64 5), (2, (.slice a11 4 c12))]) rfl (cells := #[.int .i64 10, .int .i64 5, (.slice a11 4 c12)]) rfl) (tm' := [_,_,_,_,_,_,_,_,_,_,_,_,_,_,_,_]) rfl ?_
  refine rl_store (met_none rfl) tS24 rfl (v := .agg #[.int .i64 10, .int .i64 5, (.slice a11 4 c12)]) rfl (i := 0) rfl rfl (ones_cons rfl (ones_cons rfl (ones_cons o10.one.2 rfl))) (Nat.le_of_ble_eq_true rfl) (cs2 := [.int .i64 10, .int .i64 5, (.slice a11 4 c12)]) rfl (rl_own (L' := ([(b2, .cells #[.int .i64 10, .int .i64 5, (.slice a11 4 c12)] 24 (0, 0)), (b1, .cells #[.int .i64 10, .int .i64 4, (.slice a6 4 c7)] 24 (0, 0))] : Pcs) ++ (X9 ++ (X4 ++ []))) rfl ?_)
  refine rl_end ?_
  refine fl_seq ?_
  refine rs_as (fl_mixed (C := []) (A := ([(b2, .cells #[.int .i64 10, .int .i64 5, (.slice a11 4 c12)] 24 (0, 0)), (b1, .cells #[.int .i64 10, .int .i64 4, (.slice a6 4 c7)] 24 (0, 0))] : Pcs)) 3 [] [3, 4] [3, 4] [0, 1, 2] (fun i_ => match i_ with | 3 => X9 | 4 => X4 | _ => []) (fun _ => []) (fun i_ v_ x_ => match i_ with | 0 => v_ = .agg #[.int .i64 10, .int .i64 4, (.slice a6 4 c7)] ∧ x_ = [] | 1 => v_ = .agg #[.int .i64 10, .int .i64 5, (.slice a11 4 c12)] ∧ x_ = [] | 2 => v_ = undef ∧ x_ = [] | _ => True) (fun val13 => [.pointer (some ⟨b1, 0, none⟩), .pointer (some ⟨b2, 0, none⟩), .agg #[.int .i64 2, .int .i64 5, .int .i64 4], .agg #[.int .i64 0, .int .i64 8, .int .i64 6], .agg #[.int .i64 3, .int .i64 3, .int .i64 2], .agg #[.int .i64 0, .int .i64 1, .int .i64 5], (.slice a6 4 c7), .agg #[.int .i64 10, .int .i64 4, (.slice a6 4 c7)], .agg #[.int .i64 0, .int .i64 2, .int .i64 1], .agg #[.int .i64 6, .int .i64 9, .int .i64 2], .agg #[.int .i64 0, .int .i64 0, .int .i64 7], .agg #[.int .i64 4, .int .i64 4, .int .i64 3], (.slice a11 4 c12), .agg #[.int .i64 10, .int .i64 5, (.slice a11 4 c12)], (val13 0), (val13 1)]) mixed (by kernel_rfl) (Nat.le_of_ble_eq_true rfl) (by kernel_rfl) (by kernel_rfl) ⟨fun _ _ h => h.2, ⟨fun _ _ h => h.2, ⟨fun _ _ h => h.2, trivial⟩⟩⟩ (fun _ => by kernel_rfl) (by kernel_rfl) ?_ ?_) (fun h_ H_ => St.swap (A := ([(b2, .cells #[.int .i64 10, .int .i64 5, (.slice a11 4 c12)] 24 (0, 0)), (b1, .cells #[.int .i64 10, .int .i64 4, (.slice a6 4 c7)] 24 (0, 0))] : Pcs)) (U := (X9 ++ (X4 ++ []))) H_)
  · refine mixes_cons rfl (opmix ?_) ?_
    · intro val13 pc14 hQ_ hX_
      refine ⟨[.pointer (some ⟨b1, 0, none⟩), .pointer (some ⟨b2, 0, none⟩), .agg #[.int .i64 2, .int .i64 5, .int .i64 4], .agg #[.int .i64 0, .int .i64 8, .int .i64 6], .agg #[.int .i64 3, .int .i64 3, .int .i64 2], .agg #[.int .i64 0, .int .i64 1, .int .i64 5], (.slice a6 4 c7), .agg #[.int .i64 10, .int .i64 4, (.slice a6 4 c7)], .agg #[.int .i64 0, .int .i64 2, .int .i64 1], .agg #[.int .i64 6, .int .i64 9, .int .i64 2], .agg #[.int .i64 0, .int .i64 0, .int .i64 7], .agg #[.int .i64 4, .int .i64 4, .int .i64 3], (.slice a11 4 c12), .agg #[.int .i64 10, .int .i64 5, (.slice a11 4 c12)], (val13 0), (val13 1)], [], rfl, rfl, ?_⟩
      exact mix_det (met_none rfl) (fun _ h_ H_ => exd_loadN_own H_ tA24 tS24 rfl (i := 1) rfl (vs := [.int .i64 10, .int .i64 4, (.slice a6 4 c7)]) rfl rfl) ⟨rfl, rfl⟩
    refine mixes_cons rfl (opmix ?_) ?_
    · intro val13 pc14 hQ_ hX_
      refine ⟨[.pointer (some ⟨b1, 0, none⟩), .pointer (some ⟨b2, 0, none⟩), .agg #[.int .i64 2, .int .i64 5, .int .i64 4], .agg #[.int .i64 0, .int .i64 8, .int .i64 6], .agg #[.int .i64 3, .int .i64 3, .int .i64 2], .agg #[.int .i64 0, .int .i64 1, .int .i64 5], (.slice a6 4 c7), .agg #[.int .i64 10, .int .i64 4, (.slice a6 4 c7)], .agg #[.int .i64 0, .int .i64 2, .int .i64 1], .agg #[.int .i64 6, .int .i64 9, .int .i64 2], .agg #[.int .i64 0, .int .i64 0, .int .i64 7], .agg #[.int .i64 4, .int .i64 4, .int .i64 3], (.slice a11 4 c12), .agg #[.int .i64 10, .int .i64 5, (.slice a11 4 c12)], (val13 0), (val13 1)], [], rfl, rfl, ?_⟩
      exact mix_det (met_none rfl) (fun _ h_ H_ => exd_loadN_own H_ tA24 tS24 rfl (i := 0) rfl (vs := [.int .i64 10, .int .i64 5, (.slice a11 4 c12)]) rfl rfl) ⟨rfl, rfl⟩
    refine mixes_cons rfl (opmix ?_) ?_
    · intro val13 pc14 hQ_ hX_
      have e0_ : val13 0 = .agg #[.int .i64 10, .int .i64 4, (.slice a6 4 c7)] := (hQ_ 0 rfl).1
      refine ⟨[.pointer (some ⟨b1, 0, none⟩), .pointer (some ⟨b2, 0, none⟩), .agg #[.int .i64 2, .int .i64 5, .int .i64 4], .agg #[.int .i64 0, .int .i64 8, .int .i64 6], .agg #[.int .i64 3, .int .i64 3, .int .i64 2], .agg #[.int .i64 0, .int .i64 1, .int .i64 5], (.slice a6 4 c7), .agg #[.int .i64 10, .int .i64 4, (.slice a6 4 c7)], .agg #[.int .i64 0, .int .i64 2, .int .i64 1], .agg #[.int .i64 6, .int .i64 9, .int .i64 2], .agg #[.int .i64 0, .int .i64 0, .int .i64 7], .agg #[.int .i64 4, .int .i64 4, .int .i64 3], (.slice a11 4 c12), .agg #[.int .i64 10, .int .i64 5, (.slice a11 4 c12)], .agg #[.int .i64 10, .int .i64 4, (.slice a6 4 c7)], (val13 1)], [], (by simp only [e0_]), rfl, ?_⟩
      exact mix_same (met_none rfl) tS24 rfl (v := .agg #[.int .i64 10, .int .i64 4, (.slice a6 4 c7)]) rfl (i := 1) (fun _ => rfl) rfl (ones_cons rfl (ones_cons rfl (ones_cons o5.one.2 rfl))) (Nat.le_of_ble_eq_true rfl) rfl ⟨rfl, rfl⟩
    exact mixes_nil rfl
  intro val13 pc14 hQ_ hX_
  have e0_ : val13 0 = .agg #[.int .i64 10, .int .i64 4, (.slice a6 4 c7)] := (hQ_ 0 (by decide)).1
  have e1_ : val13 1 = .agg #[.int .i64 10, .int .i64 5, (.slice a11 4 c12)] := (hQ_ 1 (by decide)).1
  have x3_ : pc14 3 = X9 := hX_ 3 (by decide)
  have x4_ : pc14 4 = X4 := hX_ 4 (by decide)
  refine rl_as (Φ := fun h_ => St h [] (fun _ => none) h_ (([(b2, .cells #[.int .i64 10, .int .i64 5, (.slice a11 4 c12)] 24 (0, 0)), (b1, .cells #[.int .i64 10, .int .i64 4, (.slice a6 4 c7)] 24 (0, 0))] : Pcs) ++ (pc14 3 ++ (pc14 4 ++ [])))) ?_ (fun h_ H_ => H_.swap')
  rw [x3_, x4_]
  refine rl_norm (tm' := [.pointer (some ⟨b1, 0, none⟩), .pointer (some ⟨b2, 0, none⟩), .agg #[.int .i64 2, .int .i64 5, .int .i64 4], .agg #[.int .i64 0, .int .i64 8, .int .i64 6], .agg #[.int .i64 3, .int .i64 3, .int .i64 2], .agg #[.int .i64 0, .int .i64 1, .int .i64 5], (.slice a6 4 c7), .agg #[.int .i64 10, .int .i64 4, (.slice a6 4 c7)], .agg #[.int .i64 0, .int .i64 2, .int .i64 1], .agg #[.int .i64 6, .int .i64 9, .int .i64 2], .agg #[.int .i64 0, .int .i64 0, .int .i64 7], .agg #[.int .i64 4, .int .i64 4, .int .i64 3], (.slice a11 4 c12), .agg #[.int .i64 10, .int .i64 5, (.slice a11 4 c12)], .agg #[.int .i64 10, .int .i64 4, (.slice a6 4 c7)], .agg #[.int .i64 10, .int .i64 5, (.slice a11 4 c12)]]) (by simp only [e0_, e1_]) ?_
  clear hQ_ hX_
  refine rl_store (met_none rfl) tS24 rfl (v := .agg #[.int .i64 10, .int .i64 5, (.slice a11 4 c12)]) rfl (i := 0) rfl rfl (ones_cons rfl (ones_cons rfl (ones_cons o10.one.2 rfl))) (Nat.le_of_ble_eq_true rfl) (cs2 := [.int .i64 10, .int .i64 5, (.slice a11 4 c12)]) rfl (rl_own (L' := ([(b2, .cells #[.int .i64 10, .int .i64 5, (.slice a11 4 c12)] 24 (0, 0)), (b1, .cells #[.int .i64 10, .int .i64 4, (.slice a6 4 c7)] 24 (0, 0))] : Pcs) ++ (X9 ++ (X4 ++ []))) rfl ?_)
  refine rl_end ?_
  refine fl_ret Try.func61 rfl (vs := [.agg #[.int .i64 10, .int .i64 4, (.slice a6 4 c7)], .agg #[.int .i64 10, .int .i64 5, (.slice a11 4 c12)]]) (fun h_ H_ => ⟨.agg #[.int .i64 10, .int .i64 4, (.slice a6 4 c7)], _, rfl, (wpS_bind (wpS_pure (wpS_loadVarN tA24 tS24 (vs := [.int .i64 10, .int .i64 4, (.slice a6 4 c7)]) rfl (fun j_ v_ e_ => by rw [add_mk]; exact H_.ocell (i := 1) rfl (by simpa using e_)) ⟨rfl, rfl⟩))), ⟨.agg #[.int .i64 10, .int .i64 5, (.slice a11 4 c12)], _, rfl, (wpS_bind (wpS_pure (wpS_loadVarN tA24 tS24 (vs := [.int .i64 10, .int .i64 5, (.slice a11 4 c12)]) rfl (fun j_ v_ e_ => by rw [add_mk]; exact H_.ocell (i := 0) rfl (by simpa using e_)) ⟨rfl, rfl⟩))), rfl⟩⟩) (v := .tuple #[.agg #[.int .i64 10, .int .i64 4, (.slice a6 4 c7)], .agg #[.int .i64 10, .int .i64 5, (.slice a11 4 c12)]]) rfl ?_
  exact fun h_ H_ => K _ _ ⟨_, _, _, _, rfl, o5, o10, H_.dropA.new⟩
theorem c34ok (md : Md) (h : Heap) (p : PHeap) (hp : Per p h) (size start : Int) (a : Option Addr) (n c : Nat) (ds : List Day) (D : Days p a n ds) (hn : n ≤ 40) (b : Option Addr) (m d : Nat) (xs : List Int) (W : Ints p b m xs) (hm40 : m ≤ 40) (hOk : Ok size start ds) (hW : Weather ds xs) : CallsX Try.prog md 34 #[.agg #[.int .i64 (size), .int .i64 (start), .slice a n c], .slice b m d] h fun v h' => ∃ w1 w2 w3 X1 X2 X3, v = .tuple #[w1, w2, w3, .int .i64 0] ∧ OwnS 3 1 w1 (ns (levs size start (wantOf ds) (listOf xs)) n) X1 ∧ OwnS 3 1 w2 (ns (lack size start (wantOf ds) (listOf xs)) n) X2 ∧ OwnS 3 1 w3 (ns (ovr size start (wantOf ds) (listOf xs)) n) X3 ∧ New h h' (X1 ++ (X2 ++ (X3 ++ []))) :=
  (c34 md h p hp size start a n c ds D hn b m d xs W hm40).mono fun v h' ⟨w1, w2, w3, X1, X2, X3, e, y, _, N⟩ => ⟨w1, w2, w3, X1, X2, X3, by rw [e, askd_ok hOk (decide_eq_true hW)], (y ⟨hOk, hW⟩).1, (y ⟨hOk, hW⟩).2.1, (y ⟨hOk, hW⟩).2.2, N⟩
theorem c18 (h : Heap) : CallsX Try.prog (.main true) 18 #[] h fun v h' => v = .bool true ∧ Keep h h' := by
  refine calls_intro (Φ := fun h_ => St h [] (fun _ => none) h_ []) Try.func18 rfl (tm := [_, _, _, _, _, _, _, _, _, _, _, _, _, _, _, _, _, _, _, _, _, _, _, _, _, _, _, _, _, _, _, _, _, _, _, _, _, _, _, _, _, _, _, _, _, _, _, _, _, _, _, _, _, _, _, _, _, _, _, _, _, _, _, _, _, _, _, _, _, _, _, _, _, _, _, _, _, _, _, _, _, _, _, _, _, _, _, _, _, _, _, _, _, _, _, _, _, _, _, _, _, _, _, _, _, _, _, _, _, _, _, _, _, _, _, _, _, _, _, _, _, _, _, _, _, _, _, _]) rfl ?_ (St.start h _ (fun _ _ e => by cases e))
  intro c₀ cs Stop K
  refine fl_seq ?_
  refine rl_start ?_
  refine rl_det (met_none rfl) (fun h_ H_ => exd_assign (v := .bool (false)) rfl) (tm' := _::_) rfl ?_
  refine rl_end ?_
  refine fl_seq ?_
  refine rl_start ?_
  refine rl_own (L' := ([] : Pcs) ++ []) rfl ?_
  refine rl_call (met_none rfl) (first := []) (cap := []) rfl rfl fC61 (R := fun v_ h_ => ∃ w1 : Value, ∃ w2 : Value, ∃ X3 : Pcs, ∃ X4 : Pcs, v_ = .tuple #[.agg #[.int .i64 10, .int .i64 4, w1], .agg #[.int .i64 10, .int .i64 5, w2]] ∧ (OwnS 38 3 w1 (dcs exC) X3) ∧ (OwnS 38 3 w2 (dcs exD) X4) ∧ St h [] (fun _ => none) h_ (([] : Pcs) ++ ((X4 ++ (X3 ++ [])) ++ []))) (fun h_ H_ => (c61 (.main true) _).mono fun v_ h2_ ⟨w1, w2, X3, X4, e_, o5, o6, N_⟩ => ⟨w1, w2, X3, X4, e_, o5, o6, H_.callNA N_⟩) fun v_ => ?_
  refine rl_ex fun w1 => rl_ex fun w2 => rl_ex fun X3 => rl_ex fun X4 => rl_and fun ev_ => rl_and fun o5 => rl_and fun o6 => ?_
  have ev_ := ev_.symm; subst ev_
  refine rl_own (L' := ([] : Pcs) ++ (X4 ++ (X3 ++ []))) (by simp) ?_
  refine rl_norm (tm' := _::_::_::_::_::_::_::_::_::_::_::_::_::_::_::_::_::_::_::_::_::_) rfl ?_
  refine rl_det (met_none rfl) (fun h_ H_ => exd_move (v := .tuple #[.agg #[.int .i64 10, .int .i64 4, w1], .agg #[.int .i64 10, .int .i64 5, w2]]) rfl) (tm' := _::_::_::_::_::_::_::_::_::_::_::_::_::_::_::_::_::_::_::_::_) rfl ?_
  refine rl_det (met_none rfl) (fun h_ H_ => exd_extract rfl (v := .agg #[.int .i64 10, .int .i64 4, w1]) rfl) (tm' := _::_::_::_::_::_::_::_::_::_::_::_::_::_::_::_::_::_::_::_::_::_::_) rfl ?_
  refine rl_det (met_none rfl) (fun h_ H_ => exd_extract rfl (v := .agg #[.int .i64 10, .int .i64 5, w2]) rfl) (tm' := _::_::_::_::_::_::_::_::_::_::_::_::_::_::_::_::_::_::_::_::_::_::_::_) rfl ?_
  refine rl_alloc (met_none rfl) tZ24 rfl fun b7 => rl_own (L' := ([(b7, .cells #[.int .i64 0, .int .i64 0, .slice none 0 0] 24 (0, 0))] : Pcs) ++ (X4 ++ (X3 ++ []))) rfl ?_
  refine rl_norm (tm' := _::_::_) rfl ?_
  refine rl_alloc (met_none rfl) tZ24 rfl fun b8 => rl_own (L' := ([(b8, .cells #[.int .i64 0, .int .i64 0, .slice none 0 0] 24 (0, 0)), (b7, .cells #[.int .i64 0, .int .i64 0, .slice none 0 0] 24 (0, 0))] : Pcs) ++ (X4 ++ (X3 ++ []))) rfl ?_
  refine rl_norm (tm' := _::_::_::_) rfl ?_
  refine rl_store (met_none rfl) tS24 rfl (v := .agg #[.int .i64 10, .int .i64 4, w1]) rfl (i := 1) rfl rfl (ones_cons rfl (ones_cons rfl (ones_cons o5.one.2 rfl))) (Nat.le_of_ble_eq_true rfl) (cs2 := [.int .i64 10, .int .i64 4, w1]) rfl (rl_own (L' := ([(b8, .cells #[.int .i64 0, .int .i64 0, .slice none 0 0] 24 (0, 0)), (b7, .cells #[.int .i64 10, .int .i64 4, w1] 24 (0, 0))] : Pcs) ++ (X4 ++ (X3 ++ []))) rfl ?_)
  refine rl_store (met_none rfl) tS24 rfl (v := .agg #[.int .i64 10, .int .i64 5, w2]) rfl (i := 0) rfl rfl (ones_cons rfl (ones_cons rfl (ones_cons o6.one.2 rfl))) (Nat.le_of_ble_eq_true rfl) (cs2 := [.int .i64 10, .int .i64 5, w2]) rfl (rl_own (L' := ([(b8, .cells #[.int .i64 10, .int .i64 5, w2] 24 (0, 0)), (b7, .cells #[.int .i64 10, .int .i64 4, w1] 24 (0, 0))] : Pcs) ++ (X4 ++ (X3 ++ []))) rfl ?_)
  refine rl_end ?_
  refine fl_seq ?_
  refine rl_start ?_
  refine rl_det (met_none rfl) (fun h_ H_ => exd_loadN_own H_ tA24 tS24 rfl (i := 1) rfl (vs := [.int .i64 10, .int .i64 4, w1]) rfl rfl) (tm' := _::_::_::_::_::_::_::_::_::_::_::_::_::_::_::_::_::_::_::_::_::_::_::_::_::_) rfl ?_
  refine rl_buildO ([(b8, .cells #[.int .i64 10, .int .i64 5, w2] 24 (0, 0)), (b7, .cells #[.int .i64 10, .int .i64 4, w1] 24 (0, 0))] : Pcs) (met_none rfl) Try.underlying25 tS3 tZ3 (Nat.le_of_ble_eq_true rfl) (vs := [(0, .int .i64 5), (1, .int .i64 8), (2, .int .i64 3), (3, .int .i64 1)]) rfl rfl (es := [[.int .i64 5], [.int .i64 8], [.int .i64 3], [.int .i64 1]]) rfl rfl rfl fun v9 X10 o11 => ?_
  refine rl_norm (tm' := _::_::_::_::_::_::_::_::_::_::_::_::_::_::_::_::_::_::_::_::_::_::_::_::_::_::_) rfl ?_
  refine rl_perm (List.Perm.append_left _ (List.Perm.append_left _ (List.perm_append_comm_assoc _ _ _))) ?_
  refine rl_perm (List.Perm.append_left _ (List.perm_append_comm_assoc _ _ _)) ?_
  refine rl_own (L' := ([(b8, .cells #[.int .i64 10, .int .i64 5, w2] 24 (0, 0)), (b7, .cells #[.int .i64 10, .int .i64 4, w1] 24 (0, 0))] : Pcs) ++ (X3 ++ (X10 ++ (X4 ++ [])))) rfl ?_
  refine rl_lastN (A := ([(b8, .cells #[.int .i64 10, .int .i64 5, w2] 24 (0, 0)), (b7, .cells #[.int .i64 10, .int .i64 4, w1] 24 (0, 0))] : Pcs)) o5 (show _ = 4 from rfl) fun p12 a13 cp14 le15 ev_ D16 => ?_
  subst ev_
  refine rl_lastN (A := ([(b8, .cells #[.int .i64 10, .int .i64 5, w2] 24 (0, 0)), (b7, .cells #[.int .i64 10, .int .i64 4, .slice a13 4 cp14] 24 (0, 0))] : Pcs)) o11 (show _ = 4 from rfl) fun p17 a18 cp19 le20 ev_ D21 => ?_
  subst ev_
  refine rl_call (met_none rfl) (first := []) (cap := []) rfl rfl fC34 (R := fun v_ h_ => ∃ w22 : Value, ∃ w23 : Value, ∃ w24 : Value, ∃ X25 : Pcs, ∃ X26 : Pcs, ∃ X27 : Pcs, v_ = .tuple #[w22, w23, w24, .int .i64 0] ∧ (OwnS 3 1 w22 (ns (levs 10 4 (wantOf exC) (listOf ([5, 8, 3, 1]))) 4) X25) ∧ (OwnS 3 1 w23 (ns (lack 10 4 (wantOf exC) (listOf ([5, 8, 3, 1]))) 4) X26) ∧ (OwnS 3 1 w24 (ns (ovr 10 4 (wantOf exC) (listOf ([5, 8, 3, 1]))) 4) X27) ∧ St h [] p17 h_ (([(b8, .cells #[.int .i64 10, .int .i64 5, w2] 24 (0, 0)), (b7, .cells #[.int .i64 10, .int .i64 4, .slice a13 4 cp14] 24 (0, 0))] : Pcs) ++ ((X25 ++ (X26 ++ (X27 ++ []))) ++ (X4 ++ [])))) (fun h_ H_ => (c34ok (.main true) _ _ (fun b_ o_ e_ => H_.per b_ o_ e_) (10) (4) _ _ _ _ ((show Days _ _ _ exC from D16).mono le20) (by omega) _ _ _ _ (show Ints _ _ _ [5, 8, 3, 1] from D21) (by omega) (by decide +kernel) (by decide +kernel)).mono fun v_ h2_ ⟨w22, w23, w24, X25, X26, X27, e_, o28, o29, o30, N_⟩ => ⟨w22, w23, w24, X25, X26, X27, e_, o28, o29, o30, H_.callNA N_⟩) fun v_ => ?_
  refine rl_ex fun w22 => rl_ex fun w23 => rl_ex fun w24 => rl_ex fun X25 => rl_ex fun X26 => rl_ex fun X27 => rl_and fun ev_ => rl_and fun o28 => rl_and fun o29 => rl_and fun o30 => ?_
  have ev_ := ev_.symm; subst ev_
  refine rl_own (L' := ([(b8, .cells #[.int .i64 10, .int .i64 5, w2] 24 (0, 0)), (b7, .cells #[.int .i64 10, .int .i64 4, .slice a13 4 cp14] 24 (0, 0))] : Pcs) ++ (X25 ++ (X26 ++ (X27 ++ (X4 ++ []))))) (by simp) ?_
  refine rl_norm (tm' := _::_::_::_::_::_::_::_::_::_::_::_::_::_::_::_::_::_::_::_::_::_::_::_::_::_::_::_) rfl ?_
  refine rl_det (met_none rfl) (fun h_ H_ => exd_move (v := .tuple #[w22, w23, w24, .int .i64 0]) rfl) (tm' := _::_::_::_::_::_::_::_::_::_::_::_::_::_::_::_::_::_::_::_::_::_::_::_::_) rfl ?_
  refine rl_det (met_none rfl) (fun h_ H_ => exd_extract rfl (v := w22) rfl) (tm' := _::_::_::_::_::_::_::_::_::_::_::_::_::_::_::_::_::_::_::_::_::_::_::_::_::_::_::_::_) rfl ?_
  refine rl_det (met_none rfl) (fun h_ H_ => exd_extract rfl (v := w23) rfl) (tm' := _::_::_::_::_::_::_::_::_::_::_::_::_::_::_::_::_::_::_::_::_::_::_::_::_::_::_::_::_::_) rfl ?_
  refine rl_det (met_none rfl) (fun h_ H_ => exd_extract rfl (v := w24) rfl) (tm' := _::_::_::_::_::_::_::_::_::_::_::_::_::_::_::_::_::_::_::_::_::_::_::_::_::_::_::_::_::_::_) rfl ?_
  refine rl_det (met_none rfl) (fun h_ H_ => exd_extract rfl (v := .int .i64 0) rfl) (tm' := _::_::_::_::_::_::_::_::_::_::_::_::_::_::_::_::_::_::_::_::_::_::_::_::_::_::_::_::_::_::_::_) rfl ?_
  refine rl_det (met_none rfl) (fun h_ H_ => exd_assign (v := w22) rfl) (tm' := _::_::_::_::_) rfl ?_
  refine rl_det (met_none rfl) (fun h_ H_ => exd_assign (v := w23) rfl) (tm' := _::_::_::_::_::_) rfl ?_
  refine rl_det (met_none rfl) (fun h_ H_ => exd_assign (v := w24) rfl) (tm' := _::_::_::_::_::_::_) rfl ?_
  refine rl_det (met_none rfl) (fun h_ H_ => exd_assign (v := .int .i64 0) rfl) (tm' := _::_::_::_::_::_::_::_) rfl ?_
  refine rl_end ?_
  refine fl_seq ?_
  refine rl_start ?_
  refine rl_det (met_none rfl) (fun h_ H_ => exd_loadN_own H_ tA24 tS24 rfl (i := 1) rfl (vs := [.int .i64 10, .int .i64 4, .slice a13 4 cp14]) rfl rfl) (tm' := _::_::_::_::_::_::_::_::_::_::_::_::_::_::_::_::_::_::_::_::_::_::_::_::_::_::_::_::_::_::_::_::_::_) rfl ?_
  refine rl_calld (met_none rfl) (first := []) (cap := []) rfl rfl fC28 (fun h_ H_ => c28 _ _ (fun b_ o_ e_ => H_.per b_ o_ e_) (10) (4) _ _ _ _ ((show Days _ _ _ exC from D16).mono le20) (by omega) 1) (tm' := _::_::_::_::_::_::_::_::_::_::_::_::_::_::_::_::_::_::_::_::_::_::_::_::_::_::_::_::_::_::_::_::_::_::_) rfl ?_
  refine rl_det (met_none rfl) (fun h_ H_ => exd_move (v := .tuple #[.agg #[.int .i64 ((levelR 10 4 exC 1).1.1), .int .i64 ((levelR 10 4 exC 1).1.2)], .int .i64 ((levelR 10 4 exC 1).2)]) rfl) (tm' := _::_::_::_::_::_::_::_::_::_::_::_::_::_::_::_::_::_::_::_::_::_::_::_::_::_::_::_::_::_::_::_::_) rfl ?_
  refine rl_det (met_none rfl) (fun h_ H_ => exd_extract rfl (v := .agg #[.int .i64 ((levelR 10 4 exC 1).1.1), .int .i64 ((levelR 10 4 exC 1).1.2)]) rfl) (tm' := _::_::_::_::_::_::_::_::_::_::_::_::_::_::_::_::_::_::_::_::_::_::_::_::_::_::_::_::_::_::_::_::_::_::_::_) rfl ?_
  refine rl_det (met_none rfl) (fun h_ H_ => exd_extract rfl (v := .int .i64 ((levelR 10 4 exC 1).2)) rfl) (tm' := _::_::_::_::_::_::_::_::_::_::_::_::_::_::_::_::_::_::_::_::_::_::_::_::_::_::_::_::_::_::_::_::_::_::_::_::_) rfl ?_
  refine rl_alloc (met_none rfl) tZ36 rfl fun b31 => rl_own (L' := ([(b31, .cells #[.int .i64 0, .int .i64 0] 36 (0, 0)), (b8, .cells #[.int .i64 10, .int .i64 5, w2] 24 (0, 0)), (b7, .cells #[.int .i64 10, .int .i64 4, .slice a13 4 cp14] 24 (0, 0))] : Pcs) ++ (X25 ++ (X26 ++ (X27 ++ (X4 ++ []))))) rfl ?_
  refine rl_norm (tm' := _::_::_::_::_::_::_::_::_) rfl ?_
  refine rl_store (met_none rfl) tS36 rfl (v := .agg #[.int .i64 ((levelR 10 4 exC 1).1.1), .int .i64 ((levelR 10 4 exC 1).1.2)]) rfl (i := 0) rfl rfl rfl (Nat.le_of_ble_eq_true rfl) (cs2 := [.int .i64 ((levelR 10 4 exC 1).1.1), .int .i64 ((levelR 10 4 exC 1).1.2)]) rfl (rl_own (L' := ([(b31, .cells #[.int .i64 ((levelR 10 4 exC 1).1.1), .int .i64 ((levelR 10 4 exC 1).1.2)] 36 (0, 0)), (b8, .cells #[.int .i64 10, .int .i64 5, w2] 24 (0, 0)), (b7, .cells #[.int .i64 10, .int .i64 4, .slice a13 4 cp14] 24 (0, 0))] : Pcs) ++ (X25 ++ (X26 ++ (X27 ++ (X4 ++ []))))) rfl ?_)
  refine rl_det (met_none rfl) (fun h_ H_ => exd_assign (v := .int .i64 ((levelR 10 4 exC 1).2)) rfl) (tm' := _::_::_::_::_::_::_::_::_::_) rfl ?_
  refine rl_end ?_
  refine fl_seq ?_
  refine rl_start ?_
  refine rl_det (met_none rfl) (fun h_ H_ => exd_loadN_own H_ tA24 tS24 rfl (i := 2) rfl (vs := [.int .i64 10, .int .i64 4, .slice a13 4 cp14]) rfl rfl) (tm' := _::_::_::_::_::_::_::_::_::_::_::_::_::_::_::_::_::_::_::_::_::_::_::_::_::_::_::_::_::_::_::_::_::_::_::_::_::_::_) rfl ?_
  refine rl_calld (met_none rfl) (first := []) (cap := []) rfl rfl fC43 (fun h_ H_ => c43 _ _ (fun b_ o_ e_ => H_.per b_ o_ e_) (10) (4) _ _ _ _ ((show Days _ _ _ exC from D16).mono le20) (by omega) 3) (tm' := _::_::_::_::_::_::_::_::_::_::_::_::_::_::_::_::_::_::_::_::_::_::_::_::_::_::_::_::_::_::_::_::_::_::_::_::_::_::_::_) rfl ?_
  refine rl_det (met_none rfl) (fun h_ H_ => exd_move (v := .tuple #[.agg #[.int .i64 ((overR 10 4 exC 3).1.1), .int .i64 ((overR 10 4 exC 3).1.2)], .int .i64 ((overR 10 4 exC 3).2)]) rfl) (tm' := _::_::_::_::_::_::_::_::_::_::_::_::_::_::_::_::_::_::_::_::_::_::_::_::_::_::_::_::_::_::_::_::_::_::_::_::_::_) rfl ?_
  refine rl_det (met_none rfl) (fun h_ H_ => exd_extract rfl (v := .agg #[.int .i64 ((overR 10 4 exC 3).1.1), .int .i64 ((overR 10 4 exC 3).1.2)]) rfl) (tm' := _::_::_::_::_::_::_::_::_::_::_::_::_::_::_::_::_::_::_::_::_::_::_::_::_::_::_::_::_::_::_::_::_::_::_::_::_::_::_::_::_) rfl ?_
  refine rl_det (met_none rfl) (fun h_ H_ => exd_extract rfl (v := .int .i64 ((overR 10 4 exC 3).2)) rfl) (tm' := _::_::_::_::_::_::_::_::_::_::_::_::_::_::_::_::_::_::_::_::_::_::_::_::_::_::_::_::_::_::_::_::_::_::_::_::_::_::_::_::_::_) rfl ?_
  refine rl_alloc (met_none rfl) tZ36 rfl fun b32 => rl_own (L' := ([(b32, .cells #[.int .i64 0, .int .i64 0] 36 (0, 0)), (b31, .cells #[.int .i64 ((levelR 10 4 exC 1).1.1), .int .i64 ((levelR 10 4 exC 1).1.2)] 36 (0, 0)), (b8, .cells #[.int .i64 10, .int .i64 5, w2] 24 (0, 0)), (b7, .cells #[.int .i64 10, .int .i64 4, .slice a13 4 cp14] 24 (0, 0))] : Pcs) ++ (X25 ++ (X26 ++ (X27 ++ (X4 ++ []))))) rfl ?_
  refine rl_norm (tm' := _::_::_::_::_::_::_::_::_::_::_) rfl ?_
  refine rl_store (met_none rfl) tS36 rfl (v := .agg #[.int .i64 ((overR 10 4 exC 3).1.1), .int .i64 ((overR 10 4 exC 3).1.2)]) rfl (i := 0) rfl rfl rfl (Nat.le_of_ble_eq_true rfl) (cs2 := [.int .i64 ((overR 10 4 exC 3).1.1), .int .i64 ((overR 10 4 exC 3).1.2)]) rfl (rl_own (L' := ([(b32, .cells #[.int .i64 ((overR 10 4 exC 3).1.1), .int .i64 ((overR 10 4 exC 3).1.2)] 36 (0, 0)), (b31, .cells #[.int .i64 ((levelR 10 4 exC 1).1.1), .int .i64 ((levelR 10 4 exC 1).1.2)] 36 (0, 0)), (b8, .cells #[.int .i64 10, .int .i64 5, w2] 24 (0, 0)), (b7, .cells #[.int .i64 10, .int .i64 4, .slice a13 4 cp14] 24 (0, 0))] : Pcs) ++ (X25 ++ (X26 ++ (X27 ++ (X4 ++ []))))) rfl ?_)
  refine rl_det (met_none rfl) (fun h_ H_ => exd_assign (v := .int .i64 ((overR 10 4 exC 3).2)) rfl) (tm' := _::_::_::_::_::_::_::_::_::_::_::_) rfl ?_
  refine rl_end ?_
  refine fl_seq ?_
  refine rl_start ?_
  refine rl_det (met_none rfl) (fun h_ H_ => exd_loadN_own H_ tA24 tS24 rfl (i := 3) rfl (vs := [.int .i64 10, .int .i64 4, .slice a13 4 cp14]) rfl rfl) (tm' := _::_::_::_::_::_::_::_::_::_::_::_::_::_::_::_::_::_::_::_::_::_::_::_::_::_::_::_::_::_::_::_::_::_::_::_::_::_::_::_::_::_::_::_) rfl ?_
  refine rl_calld (met_none rfl) (first := []) (cap := []) rfl rfl fC55 (fun h_ H_ => c55 _ _ (fun b_ o_ e_ => H_.per b_ o_ e_) (10) (4) _ _ _ _ ((show Days _ _ _ exC from D16).mono le20) (by omega)) (tm' := _::_::_::_::_::_::_::_::_::_::_::_::_::_::_::_::_::_::_::_::_::_::_::_::_::_::_::_::_::_::_::_::_::_::_::_::_::_::_::_::_::_::_::_::_) rfl ?_
  refine rl_det (met_none rfl) (fun h_ H_ => exd_move (v := .tuple #[.int .i64 ((dryR 10 4 exC).1), .int .i64 ((dryR 10 4 exC).2)]) rfl) (tm' := _::_::_::_::_::_::_::_::_::_::_::_::_::_::_::_::_::_::_::_::_::_::_::_::_::_::_::_::_::_::_::_::_::_::_::_::_::_::_::_::_::_::_) rfl ?_
  refine rl_det (met_none rfl) (fun h_ H_ => exd_extract rfl (v := .int .i64 ((dryR 10 4 exC).1)) rfl) (tm' := _::_::_::_::_::_::_::_::_::_::_::_::_::_::_::_::_::_::_::_::_::_::_::_::_::_::_::_::_::_::_::_::_::_::_::_::_::_::_::_::_::_::_::_::_::_) rfl ?_
  refine rl_det (met_none rfl) (fun h_ H_ => exd_extract rfl (v := .int .i64 ((dryR 10 4 exC).2)) rfl) (tm' := _::_::_::_::_::_::_::_::_::_::_::_::_::_::_::_::_::_::_::_::_::_::_::_::_::_::_::_::_::_::_::_::_::_::_::_::_::_::_::_::_::_::_::_::_::_::_) rfl ?_
  refine rl_det (met_none rfl) (fun h_ H_ => exd_assign (v := .int .i64 ((dryR 10 4 exC).1)) rfl) (tm' := _::_::_::_::_::_::_::_::_::_::_::_::_) rfl ?_
  refine rl_det (met_none rfl) (fun h_ H_ => exd_assign (v := .int .i64 ((dryR 10 4 exC).2)) rfl) (tm' := _::_::_::_::_::_::_::_::_::_::_::_::_::_) rfl ?_
  refine rl_end ?_
  refine fl_seq ?_
  refine rl_start ?_
  refine rl_det (met_none rfl) (fun h_ H_ => exd_loadN_own H_ tA24 tS24 rfl (i := 3) rfl (vs := [.int .i64 10, .int .i64 4, .slice a13 4 cp14]) rfl rfl) (tm' := _::_::_::_::_::_::_::_::_::_::_::_::_::_::_::_::_::_::_::_::_::_::_::_::_::_::_::_::_::_::_::_::_::_::_::_::_::_::_::_::_::_::_::_::_::_::_::_::_) rfl ?_
  refine rl_calld (met_none rfl) (first := []) (cap := []) rfl rfl fC23 (fun h_ H_ => c23 (.main true) _ _ (fun b_ o_ e_ => H_.per b_ o_ e_) (10) (4) _ _ _ _ ((show Days _ _ _ exC from D16).mono le20) (by omega)) (tm' := _::_::_::_::_::_::_::_::_::_::_::_::_::_::_::_::_::_::_::_::_::_::_::_::_::_::_::_::_::_::_::_::_::_::_::_::_::_::_::_::_::_::_::_::_::_::_::_::_::_) rfl ?_
  refine rl_det (met_none rfl) (fun h_ H_ => exd_move (v := .tuple #[.int .i64 ((if Ok 10 4 exC then ratDown 10 4 exC 20 else 0)), .int .i64 ((chk 10 4 exC))]) rfl) (tm' := _::_::_::_::_::_::_::_::_::_::_::_::_::_::_::_::_::_::_::_::_::_::_::_::_::_::_::_::_::_::_::_::_::_::_::_::_::_::_::_::_::_::_::_::_::_::_::_) rfl ?_
  refine rl_det (met_none rfl) (fun h_ H_ => exd_extract rfl (v := .int .i64 ((if Ok 10 4 exC then ratDown 10 4 exC 20 else 0))) rfl) (tm' := _::_::_::_::_::_::_::_::_::_::_::_::_::_::_::_::_::_::_::_::_::_::_::_::_::_::_::_::_::_::_::_::_::_::_::_::_::_::_::_::_::_::_::_::_::_::_::_::_::_::_) rfl ?_
  refine rl_det (met_none rfl) (fun h_ H_ => exd_extract rfl (v := .int .i64 ((chk 10 4 exC))) rfl) (tm' := _::_::_::_::_::_::_::_::_::_::_::_::_::_::_::_::_::_::_::_::_::_::_::_::_::_::_::_::_::_::_::_::_::_::_::_::_::_::_::_::_::_::_::_::_::_::_::_::_::_::_::_) rfl ?_
  refine rl_det (met_none rfl) (fun h_ H_ => exd_assign (v := .int .i64 ((if Ok 10 4 exC then ratDown 10 4 exC 20 else 0))) rfl) (tm' := _::_::_::_::_::_::_::_::_::_::_::_::_::_::_) rfl ?_
  refine rl_det (met_none rfl) (fun h_ H_ => exd_assign (v := .int .i64 ((chk 10 4 exC))) rfl) (tm' := _::_::_::_::_::_::_::_::_::_::_::_::_::_::_::_) rfl ?_
  refine rl_end ?_
  refine fl_seq ?_
  refine rl_start ?_
  refine rl_det (met_none rfl) (fun h_ H_ => exd_loadN_own H_ tA24 tS24 rfl (i := 2) rfl (vs := [.int .i64 10, .int .i64 5, w2]) rfl rfl) (tm' := _::_::_::_::_::_::_::_::_::_::_::_::_::_::_::_::_::_::_::_::_::_::_::_::_::_::_::_::_::_::_::_::_::_::_::_::_::_::_::_::_::_::_::_::_::_::_::_::_::_::_::_::_::_) rfl ?_
  refine rl_perm (List.Perm.append_left _ (List.Perm.append_left _ (List.Perm.append_left _ (List.perm_append_comm_assoc _ _ _)))) ?_
  refine rl_perm (List.Perm.append_left _ (List.Perm.append_left _ (List.perm_append_comm_assoc _ _ _))) ?_
  refine rl_perm (List.Perm.append_left _ (List.perm_append_comm_assoc _ _ _)) ?_
  refine rl_own (L' := ([(b32, .cells #[.int .i64 ((overR 10 4 exC 3).1.1), .int .i64 ((overR 10 4 exC 3).1.2)] 36 (0, 0)), (b31, .cells #[.int .i64 ((levelR 10 4 exC 1).1.1), .int .i64 ((levelR 10 4 exC 1).1.2)] 36 (0, 0)), (b8, .cells #[.int .i64 10, .int .i64 5, w2] 24 (0, 0)), (b7, .cells #[.int .i64 10, .int .i64 4, .slice a13 4 cp14] 24 (0, 0))] : Pcs) ++ (X4 ++ (X25 ++ (X26 ++ (X27 ++ []))))) rfl ?_
  refine rl_lastN (A := ([(b32, .cells #[.int .i64 ((overR 10 4 exC 3).1.1), .int .i64 ((overR 10 4 exC 3).1.2)] 36 (0, 0)), (b31, .cells #[.int .i64 ((levelR 10 4 exC 1).1.1), .int .i64 ((levelR 10 4 exC 1).1.2)] 36 (0, 0)), (b8, .cells #[.int .i64 10, .int .i64 5, w2] 24 (0, 0)), (b7, .cells #[.int .i64 10, .int .i64 4, .slice a13 4 cp14] 24 (0, 0))] : Pcs)) o6 (show _ = 4 from rfl) fun p33 a34 cp35 le36 ev_ D37 => ?_
  subst ev_
  refine rl_calld (met_none rfl) (first := []) (cap := []) rfl rfl fC45 (fun h_ H_ => c45 (.main true) _ _ (fun b_ o_ e_ => H_.per b_ o_ e_) (10) (5) _ _ _ _ (show Days _ _ _ exD from D37) (by omega)) (tm' := _::_::_::_::_::_::_::_::_::_::_::_::_::_::_::_::_::_::_::_::_::_::_::_::_::_::_::_::_::_::_::_::_::_::_::_::_::_::_::_::_::_::_::_::_::_::_::_::_::_::_::_::_::_::_) rfl ?_
  refine rl_det (met_none rfl) (fun h_ H_ => exd_move (v := .tuple #[.int .i64 ((sizeR 10 5 exD).1), .int .i64 ((sizeR 10 5 exD).2)]) rfl) (tm' := _::_::_::_::_::_::_::_::_::_::_::_::_::_::_::_::_::_::_::_::_::_::_::_::_::_::_::_::_::_::_::_::_::_::_::_::_::_::_::_::_::_::_::_::_::_::_::_::_::_::_::_::_) rfl ?_
  refine rl_det (met_none rfl) (fun h_ H_ => exd_extract rfl (v := .int .i64 ((sizeR 10 5 exD).1)) rfl) (tm' := _::_::_::_::_::_::_::_::_::_::_::_::_::_::_::_::_::_::_::_::_::_::_::_::_::_::_::_::_::_::_::_::_::_::_::_::_::_::_::_::_::_::_::_::_::_::_::_::_::_::_::_::_::_::_::_) rfl ?_
  refine rl_det (met_none rfl) (fun h_ H_ => exd_extract rfl (v := .int .i64 ((sizeR 10 5 exD).2)) rfl) (tm' := _::_::_::_::_::_::_::_::_::_::_::_::_::_::_::_::_::_::_::_::_::_::_::_::_::_::_::_::_::_::_::_::_::_::_::_::_::_::_::_::_::_::_::_::_::_::_::_::_::_::_::_::_::_::_::_::_) rfl ?_
  refine rl_det (met_none rfl) (fun h_ H_ => exd_assign (v := .int .i64 ((sizeR 10 5 exD).1)) rfl) (tm' := _::_::_::_::_::_::_::_::_::_::_::_::_::_::_::_::_) rfl ?_
  refine rl_det (met_none rfl) (fun h_ H_ => exd_assign (v := .int .i64 ((sizeR 10 5 exD).2)) rfl) (tm' := _::_::_::_::_::_::_::_::_::_::_::_::_::_::_::_::_::_) rfl ?_
  refine rl_end ?_
  refine fl_seq ?_
  refine rl_start ?_
  refine rl_det (met_none rfl) (fun h_ H_ => exd_loadN_own H_ tA24 tS24 rfl (i := 2) rfl (vs := [.int .i64 10, .int .i64 5, .slice a34 4 cp35]) rfl rfl) (tm' := _::_::_::_::_::_::_::_::_::_::_::_::_::_::_::_::_::_::_::_::_::_::_::_::_::_::_::_::_::_::_::_::_::_::_::_::_::_::_::_::_::_::_::_::_::_::_::_::_::_::_::_::_::_::_::_::_::_::_) rfl ?_
  refine rl_calld (met_none rfl) (first := []) (cap := []) rfl rfl fC27 (fun h_ H_ => c27 (.main true) _ _ (fun b_ o_ e_ => H_.per b_ o_ e_) (10) (5) _ _ _ _ (show Days _ _ _ exD from D37) (by omega) 3) (tm' := _::_::_::_::_::_::_::_::_::_::_::_::_::_::_::_::_::_::_::_::_::_::_::_::_::_::_::_::_::_::_::_::_::_::_::_::_::_::_::_::_::_::_::_::_::_::_::_::_::_::_::_::_::_::_::_::_::_::_::_) rfl ?_
  refine rl_det (met_none rfl) (fun h_ H_ => exd_move (v := .tuple #[.int .i64 ((spareR 10 5 exD 3).1), .int .i64 ((spareR 10 5 exD 3).2)]) rfl) (tm' := _::_::_::_::_::_::_::_::_::_::_::_::_::_::_::_::_::_::_::_::_::_::_::_::_::_::_::_::_::_::_::_::_::_::_::_::_::_::_::_::_::_::_::_::_::_::_::_::_::_::_::_::_::_::_::_::_::_) rfl ?_
  refine rl_det (met_none rfl) (fun h_ H_ => exd_extract rfl (v := .int .i64 ((spareR 10 5 exD 3).1)) rfl) (tm' := _::_::_::_::_::_::_::_::_::_::_::_::_::_::_::_::_::_::_::_::_::_::_::_::_::_::_::_::_::_::_::_::_::_::_::_::_::_::_::_::_::_::_::_::_::_::_::_::_::_::_::_::_::_::_::_::_::_::_::_::_) rfl ?_
  refine rl_det (met_none rfl) (fun h_ H_ => exd_extract rfl (v := .int .i64 ((spareR 10 5 exD 3).2)) rfl) (tm' := _::_::_::_::_::_::_::_::_::_::_::_::_::_::_::_::_::_::_::_::_::_::_::_::_::_::_::_::_::_::_::_::_::_::_::_::_::_::_::_::_::_::_::_::_::_::_::_::_::_::_::_::_::_::_::_::_::_::_::_::_::_) rfl ?_
  refine rl_det (met_none rfl) (fun h_ H_ => exd_assign (v := .int .i64 ((spareR 10 5 exD 3).1)) rfl) (tm' := _::_::_::_::_::_::_::_::_::_::_::_::_::_::_::_::_::_::_) rfl ?_
  refine rl_det (met_none rfl) (fun h_ H_ => exd_assign (v := .int .i64 ((spareR 10 5 exD 3).2)) rfl) (tm' := _::_::_::_::_::_::_::_::_::_::_::_::_::_::_::_::_::_::_::_) rfl ?_
  refine rl_end ?_
  refine fl_seq ?_
  refine rl_start ?_
  refine rl_det (met_none rfl) (fun h_ H_ => exd_move (v := .int .i64 0) rfl) (tm' := _::_::_::_::_::_::_::_::_::_::_::_::_::_::_::_::_::_::_::_::_::_::_::_::_::_::_::_::_::_::_::_::_::_::_::_::_::_::_::_::_::_::_::_::_::_::_::_::_::_::_::_::_::_::_::_::_::_::_::_::_::_::_) rfl ?_
  refine rl_det (met_none rfl) (fun h_ H_ => exd_eql rfl rfl) (tm' := _::_::_::_::_::_::_::_::_::_::_::_::_::_::_::_::_::_::_::_::_::_::_::_::_::_::_::_::_::_::_::_::_::_::_::_::_::_::_::_::_::_::_::_::_::_::_::_::_::_::_::_::_::_::_::_::_::_::_::_::_::_::_::_) rfl ?_
  refine rl_det (met_none rfl) (fun h_ H_ => exd_move (v := .bool (decide ((0 : Int) = 0))) rfl) (tm' := _::_::_::_::_::_::_::_::_::_::_::_::_::_::_::_::_::_::_::_::_::_::_::_::_::_::_::_::_::_::_::_::_::_::_::_::_::_::_::_::_::_::_::_::_::_::_::_::_::_::_::_::_::_::_::_::_::_::_::_::_::_::_::_::_) rfl ?_
  refine rl_det (met_some rfl rfl (decide_eq_true (by decide +kernel))) (fun h_ H_ => exd_move (v := .int .i64 ((levelR 10 4 exC 1).2)) rfl) (tm' := _::_::_::_::_::_::_::_::_::_::_::_::_::_::_::_::_::_::_::_::_::_::_::_::_::_::_::_::_::_::_::_::_::_::_::_::_::_::_::_::_::_::_::_::_::_::_::_::_::_::_::_::_::_::_::_::_::_::_::_::_::_::_::_::_::_) rfl ?_
  refine rl_det (met_some rfl rfl (decide_eq_true (by decide +kernel))) (fun h_ H_ => exd_eql rfl rfl) (tm' := _::_::_::_::_::_::_::_::_::_::_::_::_::_::_::_::_::_::_::_::_::_::_::_::_::_::_::_::_::_::_::_::_::_::_::_::_::_::_::_::_::_::_::_::_::_::_::_::_::_::_::_::_::_::_::_::_::_::_::_::_::_::_::_::_::_::_) rfl ?_
  refine rl_det (met_none rfl) (fun h_ H_ => exd_pick_t rfl (decide_eq_true (by decide +kernel)) (v := .bool (decide ((levelR 10 4 exC 1).2 = 0))) rfl) (tm' := _::_::_::_::_::_::_::_::_::_::_::_::_::_::_::_::_::_::_::_::_::_::_::_::_::_::_::_::_::_::_::_::_::_::_::_::_::_::_::_::_::_::_::_::_::_::_::_::_::_::_::_::_::_::_::_::_::_::_::_::_::_::_::_::_::_::_::_) rfl ?_
  refine rl_det (met_none rfl) (fun h_ H_ => exd_move (v := .bool (decide ((levelR 10 4 exC 1).2 = 0))) rfl) (tm' := _::_::_::_::_::_::_::_::_::_::_::_::_::_::_::_::_::_::_::_::_::_::_::_::_::_::_::_::_::_::_::_::_::_::_::_::_::_::_::_::_::_::_::_::_::_::_::_::_::_::_::_::_::_::_::_::_::_::_::_::_::_::_::_::_::_::_::_::_) rfl ?_
  refine rl_det (met_some rfl rfl (decide_eq_true (by decide +kernel))) (fun h_ H_ => exd_move (v := .int .i64 ((overR 10 4 exC 3).2)) rfl) (tm' := _::_::_::_::_::_::_::_::_::_::_::_::_::_::_::_::_::_::_::_::_::_::_::_::_::_::_::_::_::_::_::_::_::_::_::_::_::_::_::_::_::_::_::_::_::_::_::_::_::_::_::_::_::_::_::_::_::_::_::_::_::_::_::_::_::_::_::_::_::_) rfl ?_
  refine rl_det (met_some rfl rfl (decide_eq_true (by decide +kernel))) (fun h_ H_ => exd_eql rfl rfl) (tm' := _::_::_::_::_::_::_::_::_::_::_::_::_::_::_::_::_::_::_::_::_::_::_::_::_::_::_::_::_::_::_::_::_::_::_::_::_::_::_::_::_::_::_::_::_::_::_::_::_::_::_::_::_::_::_::_::_::_::_::_::_::_::_::_::_::_::_::_::_::_::_) rfl ?_
  refine rl_det (met_none rfl) (fun h_ H_ => exd_pick_t rfl (decide_eq_true (by decide +kernel)) (v := .bool (decide ((overR 10 4 exC 3).2 = 0))) rfl) (tm' := _::_::_::_::_::_::_::_::_::_::_::_::_::_::_::_::_::_::_::_::_::_::_::_::_::_::_::_::_::_::_::_::_::_::_::_::_::_::_::_::_::_::_::_::_::_::_::_::_::_::_::_::_::_::_::_::_::_::_::_::_::_::_::_::_::_::_::_::_::_::_::_) rfl ?_
  refine rl_det (met_none rfl) (fun h_ H_ => exd_move (v := .bool (decide ((overR 10 4 exC 3).2 = 0))) rfl) (tm' := _::_::_::_::_::_::_::_::_::_::_::_::_::_::_::_::_::_::_::_::_::_::_::_::_::_::_::_::_::_::_::_::_::_::_::_::_::_::_::_::_::_::_::_::_::_::_::_::_::_::_::_::_::_::_::_::_::_::_::_::_::_::_::_::_::_::_::_::_::_::_::_::_) rfl ?_
  refine rl_det (met_some rfl rfl (decide_eq_true (by decide +kernel))) (fun h_ H_ => exd_move (v := .int .i64 ((dryR 10 4 exC).2)) rfl) (tm' := _::_::_::_::_::_::_::_::_::_::_::_::_::_::_::_::_::_::_::_::_::_::_::_::_::_::_::_::_::_::_::_::_::_::_::_::_::_::_::_::_::_::_::_::_::_::_::_::_::_::_::_::_::_::_::_::_::_::_::_::_::_::_::_::_::_::_::_::_::_::_::_::_::_) rfl ?_
  refine rl_det (met_some rfl rfl (decide_eq_true (by decide +kernel))) (fun h_ H_ => exd_eql rfl rfl) (tm' := _::_::_::_::_::_::_::_::_::_::_::_::_::_::_::_::_::_::_::_::_::_::_::_::_::_::_::_::_::_::_::_::_::_::_::_::_::_::_::_::_::_::_::_::_::_::_::_::_::_::_::_::_::_::_::_::_::_::_::_::_::_::_::_::_::_::_::_::_::_::_::_::_::_::_) rfl ?_
  refine rl_det (met_none rfl) (fun h_ H_ => exd_pick_t rfl (decide_eq_true (by decide +kernel)) (v := .bool (decide ((dryR 10 4 exC).2 = 0))) rfl) (tm' := _::_::_::_::_::_::_::_::_::_::_::_::_::_::_::_::_::_::_::_::_::_::_::_::_::_::_::_::_::_::_::_::_::_::_::_::_::_::_::_::_::_::_::_::_::_::_::_::_::_::_::_::_::_::_::_::_::_::_::_::_::_::_::_::_::_::_::_::_::_::_::_::_::_::_::_) rfl ?_
  refine rl_det (met_none rfl) (fun h_ H_ => exd_move (v := .bool (decide ((dryR 10 4 exC).2 = 0))) rfl) (tm' := _::_::_::_::_::_::_::_::_::_::_::_::_::_::_::_::_::_::_::_::_::_::_::_::_::_::_::_::_::_::_::_::_::_::_::_::_::_::_::_::_::_::_::_::_::_::_::_::_::_::_::_::_::_::_::_::_::_::_::_::_::_::_::_::_::_::_::_::_::_::_::_::_::_::_::_::_) rfl ?_
  refine rl_det (met_some rfl rfl (decide_eq_true (by decide +kernel))) (fun h_ H_ => exd_move (v := .int .i64 ((chk 10 4 exC))) rfl) (tm' := _::_::_::_::_::_::_::_::_::_::_::_::_::_::_::_::_::_::_::_::_::_::_::_::_::_::_::_::_::_::_::_::_::_::_::_::_::_::_::_::_::_::_::_::_::_::_::_::_::_::_::_::_::_::_::_::_::_::_::_::_::_::_::_::_::_::_::_::_::_::_::_::_::_::_::_::_::_) rfl ?_
  refine rl_det (met_some rfl rfl (decide_eq_true (by decide +kernel))) (fun h_ H_ => exd_eql rfl rfl) (tm' := _::_::_::_::_::_::_::_::_::_::_::_::_::_::_::_::_::_::_::_::_::_::_::_::_::_::_::_::_::_::_::_::_::_::_::_::_::_::_::_::_::_::_::_::_::_::_::_::_::_::_::_::_::_::_::_::_::_::_::_::_::_::_::_::_::_::_::_::_::_::_::_::_::_::_::_::_::_::_) rfl ?_
  refine rl_det (met_none rfl) (fun h_ H_ => exd_pick_t rfl (decide_eq_true (by decide +kernel)) (v := .bool (decide ((chk 10 4 exC) = 0))) rfl) (tm' := _::_::_::_::_::_::_::_::_::_::_::_::_::_::_::_::_::_::_::_::_::_::_::_::_::_::_::_::_::_::_::_::_::_::_::_::_::_::_::_::_::_::_::_::_::_::_::_::_::_::_::_::_::_::_::_::_::_::_::_::_::_::_::_::_::_::_::_::_::_::_::_::_::_::_::_::_::_::_::_) rfl ?_
  refine rl_det (met_none rfl) (fun h_ H_ => exd_move (v := .bool (decide ((chk 10 4 exC) = 0))) rfl) (tm' := _::_::_::_::_::_::_::_::_::_::_::_::_::_::_::_::_::_::_::_::_::_::_::_::_::_::_::_::_::_::_::_::_::_::_::_::_::_::_::_::_::_::_::_::_::_::_::_::_::_::_::_::_::_::_::_::_::_::_::_::_::_::_::_::_::_::_::_::_::_::_::_::_::_::_::_::_::_::_::_::_) rfl ?_
  refine rl_det (met_some rfl rfl (decide_eq_true (by decide +kernel))) (fun h_ H_ => exd_move (v := .int .i64 ((sizeR 10 5 exD).2)) rfl) (tm' := _::_::_::_::_::_::_::_::_::_::_::_::_::_::_::_::_::_::_::_::_::_::_::_::_::_::_::_::_::_::_::_::_::_::_::_::_::_::_::_::_::_::_::_::_::_::_::_::_::_::_::_::_::_::_::_::_::_::_::_::_::_::_::_::_::_::_::_::_::_::_::_::_::_::_::_::_::_::_::_::_::_) rfl ?_
  refine rl_det (met_some rfl rfl (decide_eq_true (by decide +kernel))) (fun h_ H_ => exd_eql rfl rfl) (tm' := _::_::_::_::_::_::_::_::_::_::_::_::_::_::_::_::_::_::_::_::_::_::_::_::_::_::_::_::_::_::_::_::_::_::_::_::_::_::_::_::_::_::_::_::_::_::_::_::_::_::_::_::_::_::_::_::_::_::_::_::_::_::_::_::_::_::_::_::_::_::_::_::_::_::_::_::_::_::_::_::_::_::_) rfl ?_
  refine rl_det (met_none rfl) (fun h_ H_ => exd_pick_t rfl (decide_eq_true (by decide +kernel)) (v := .bool (decide ((sizeR 10 5 exD).2 = 0))) rfl) (tm' := _::_::_::_::_::_::_::_::_::_::_::_::_::_::_::_::_::_::_::_::_::_::_::_::_::_::_::_::_::_::_::_::_::_::_::_::_::_::_::_::_::_::_::_::_::_::_::_::_::_::_::_::_::_::_::_::_::_::_::_::_::_::_::_::_::_::_::_::_::_::_::_::_::_::_::_::_::_::_::_::_::_::_::_) rfl ?_
  refine rl_det (met_none rfl) (fun h_ H_ => exd_move (v := .bool (decide ((sizeR 10 5 exD).2 = 0))) rfl) (tm' := _::_::_::_::_::_::_::_::_::_::_::_::_::_::_::_::_::_::_::_::_::_::_::_::_::_::_::_::_::_::_::_::_::_::_::_::_::_::_::_::_::_::_::_::_::_::_::_::_::_::_::_::_::_::_::_::_::_::_::_::_::_::_::_::_::_::_::_::_::_::_::_::_::_::_::_::_::_::_::_::_::_::_::_::_) rfl ?_
  refine rl_det (met_some rfl rfl (decide_eq_true (by decide +kernel))) (fun h_ H_ => exd_move (v := .int .i64 ((spareR 10 5 exD 3).2)) rfl) (tm' := _::_::_::_::_::_::_::_::_::_::_::_::_::_::_::_::_::_::_::_::_::_::_::_::_::_::_::_::_::_::_::_::_::_::_::_::_::_::_::_::_::_::_::_::_::_::_::_::_::_::_::_::_::_::_::_::_::_::_::_::_::_::_::_::_::_::_::_::_::_::_::_::_::_::_::_::_::_::_::_::_::_::_::_::_::_) rfl ?_
  refine rl_det (met_some rfl rfl (decide_eq_true (by decide +kernel))) (fun h_ H_ => exd_eql rfl rfl) (tm' := [_,_,_,_,_,_,_,_,_,_,_,_,_,_,_,_,_,_,_,_,_,_,_,_,_,_,_,_,_,_,_,_,_,_,_,_,_,_,_,_,_,_,_,_,_,_,_,_,_,_,_,_,_,_,_,_,_,_,_,_,_,_,_,_,_,_,_,_,_,_,_,_,_,_,_,_,_,_,_,_,_,_,_,_,_,_,_,_,_,_,_,_,_,_,_,_,_,_,_,_,_,_,_,_,_,_,_,_,_,_,_,_,_,_,_,_,_,_,_,_,_,_,_,_,_,_,_,_]) rfl ?_
  refine rl_det (met_none rfl) (fun h_ H_ => exd_pick_t rfl (decide_eq_true (by decide +kernel)) (v := .bool (decide ((spareR 10 5 exD 3).2 = 0))) rfl) (tm' := [_,_,_,_,_,_,_,_,_,_,_,_,_,_,_,_,_,_,_,_,_,_,_,_,_,_,_,_,_,_,_,_,_,_,_,_,_,_,_,_,_,_,_,_,_,_,_,_,_,_,_,_,_,_,_,_,_,_,_,_,_,_,_,_,_,_,_,_,_,_,_,_,_,_,_,_,_,_,_,_,_,_,_,_,_,_,_,_,_,_,_,_,_,_,_,_,_,_,_,_,_,_,_,_,_,_,_,_,_,_,_,_,_,_,_,_,_,_,_,_,_,_,_,_,_,_,_,_]) rfl ?_
  refine rl_det (met_none rfl) (fun h_ H_ => exd_move (v := .bool (decide ((spareR 10 5 exD 3).2 = 0))) rfl) (tm' := [_,_,_,_,_,_,_,_,_,_,_,_,_,_,_,_,_,_,_,_,_,_,_,_,_,_,_,_,_,_,_,_,_,_,_,_,_,_,_,_,_,_,_,_,_,_,_,_,_,_,_,_,_,_,_,_,_,_,_,_,_,_,_,_,_,_,_,_,_,_,_,_,_,_,_,_,_,_,_,_,_,_,_,_,_,_,_,_,_,_,_,_,_,_,_,_,_,_,_,_,_,_,_,_,_,_,_,_,_,_,_,_,_,_,_,_,_,_,_,_,_,_,_,_,_,_,_,_]) rfl ?_
  refine rl_det (met_some rfl rfl (decide_eq_true (by decide +kernel))) (fun h_ H_ => exd_move (v := w22) rfl) (tm' := [_,_,_,_,_,_,_,_,_,_,_,_,_,_,_,_,_,_,_,_,_,_,_,_,_,_,_,_,_,_,_,_,_,_,_,_,_,_,_,_,_,_,_,_,_,_,_,_,_,_,_,_,_,_,_,_,_,_,_,_,_,_,_,_,_,_,_,_,_,_,_,_,_,_,_,_,_,_,_,_,_,_,_,_,_,_,_,_,_,_,_,_,_,_,_,_,_,_,_,_,_,_,_,_,_,_,_,_,_,_,_,_,_,_,_,_,_,_,_,_,_,_,_,_,_,_,_,_]) rfl ?_
  refine rl_buildO ([(b32, .cells #[.int .i64 ((overR 10 4 exC 3).1.1), .int .i64 ((overR 10 4 exC 3).1.2)] 36 (0, 0)), (b31, .cells #[.int .i64 ((levelR 10 4 exC 1).1.1), .int .i64 ((levelR 10 4 exC 1).1.2)] 36 (0, 0)), (b8, .cells #[.int .i64 10, .int .i64 5, .slice a34 4 cp35] 24 (0, 0)), (b7, .cells #[.int .i64 10, .int .i64 4, .slice a13 4 cp14] 24 (0, 0))] : Pcs) (met_some rfl rfl (decide_eq_true (by decide +kernel))) Try.underlying25 tS3 tZ3 (Nat.le_of_ble_eq_true rfl) (vs := [(0, .int .i64 5), (1, .int .i64 4), (2, .int .i64 5), (3, .int .i64 1)]) rfl rfl (es := [[.int .i64 5], [.int .i64 4], [.int .i64 5], [.int .i64 1]]) rfl rfl rfl fun v38 X39 o40 => ?_
  refine rl_norm (tm' := [_,_,_,_,_,_,_,_,_,_,_,_,_,_,_,_,_,_,_,_,_,_,_,_,_,_,_,_,_,_,_,_,_,_,_,_,_,_,_,_,_,_,_,_,_,_,_,_,_,_,_,_,_,_,_,_,_,_,_,_,_,_,_,_,_,_,_,_,_,_,_,_,_,_,_,_,_,_,_,_,_,_,_,_,_,_,_,_,_,_,_,_,_,_,_,_,_,_,_,_,_,_,_,_,_,_,_,_,_,_,_,_,_,_,_,_,_,_,_,_,_,_,_,_,_,_,_,_]) rfl ?_
  refine rl_perm (List.Perm.append_left _ (List.perm_append_comm_assoc _ _ _)) ?_
  refine rl_own (L' := ([(b32, .cells #[.int .i64 ((overR 10 4 exC 3).1.1), .int .i64 ((overR 10 4 exC 3).1.2)] 36 (0, 0)), (b31, .cells #[.int .i64 ((levelR 10 4 exC 1).1.1), .int .i64 ((levelR 10 4 exC 1).1.2)] 36 (0, 0)), (b8, .cells #[.int .i64 10, .int .i64 5, .slice a34 4 cp35] 24 (0, 0)), (b7, .cells #[.int .i64 10, .int .i64 4, .slice a13 4 cp14] 24 (0, 0))] : Pcs) ++ (X25 ++ (X39 ++ (X26 ++ (X27 ++ []))))) rfl ?_
  refine rl_lastN (A := ([(b32, .cells #[.int .i64 ((overR 10 4 exC 3).1.1), .int .i64 ((overR 10 4 exC 3).1.2)] 36 (0, 0)), (b31, .cells #[.int .i64 ((levelR 10 4 exC 1).1.1), .int .i64 ((levelR 10 4 exC 1).1.2)] 36 (0, 0)), (b8, .cells #[.int .i64 10, .int .i64 5, .slice a34 4 cp35] 24 (0, 0)), (b7, .cells #[.int .i64 10, .int .i64 4, .slice a13 4 cp14] 24 (0, 0))] : Pcs)) o28 (ns_length _ _) fun p41 a42 cp43 le44 ev_ D45 => ?_
  subst ev_
  refine rl_lastN (A := ([(b32, .cells #[.int .i64 ((overR 10 4 exC 3).1.1), .int .i64 ((overR 10 4 exC 3).1.2)] 36 (0, 0)), (b31, .cells #[.int .i64 ((levelR 10 4 exC 1).1.1), .int .i64 ((levelR 10 4 exC 1).1.2)] 36 (0, 0)), (b8, .cells #[.int .i64 10, .int .i64 5, .slice a34 4 cp35] 24 (0, 0)), (b7, .cells #[.int .i64 10, .int .i64 4, .slice a13 4 cp14] 24 (0, 0))] : Pcs)) o40 (show _ = 4 from rfl) fun p46 a47 cp48 le49 ev_ D50 => ?_
  subst ev_
  refine rl_calld (met_some rfl rfl (decide_eq_true (by decide +kernel))) (first := []) (cap := []) rfl rfl fC36 (fun h_ H_ => c36 (.main true) _ _ (fun b_ o_ e_ => H_.per b_ o_ e_) _ _ _ _ _ _ _ _ ((show Ints _ _ _ (nums (levs 10 4 (wantOf exC) (listOf ([5, 8, 3, 1]))) 4) from D45).mono le49) (show Ints _ _ _ [5, 4, 5, 1] from D50) (by omega)) (tm' := [_,_,_,_,_,_,_,_,_,_,_,_,_,_,_,_,_,_,_,_,_,_,_,_,_,_,_,_,_,_,_,_,_,_,_,_,_,_,_,_,_,_,_,_,_,_,_,_,_,_,_,_,_,_,_,_,_,_,_,_,_,_,_,_,_,_,_,_,_,_,_,_,_,_,_,_,_,_,_,_,_,_,_,_,_,_,_,_,_,_,_,_,_,_,_,_,_,_,_,_,_,_,_,_,_,_,_,_,_,_,_,_,_,_,_,_,_,_,_,_,_,_,_,_,_,_,_,_]) rfl ?_
  refine rl_det (met_none rfl) (fun h_ H_ => exd_pick_t rfl (decide_eq_true (by decide +kernel)) (v := .bool (decide ((nums (levs 10 4 (wantOf exC) (listOf ([5, 8, 3, 1]))) 4) = [5, 4, 5, 1]))) rfl) (tm' := [_,_,_,_,_,_,_,_,_,_,_,_,_,_,_,_,_,_,_,_,_,_,_,_,_,_,_,_,_,_,_,_,_,_,_,_,_,_,_,_,_,_,_,_,_,_,_,_,_,_,_,_,_,_,_,_,_,_,_,_,_,_,_,_,_,_,_,_,_,_,_,_,_,_,_,_,_,_,_,_,_,_,_,_,_,_,_,_,_,_,_,_,_,_,_,_,_,_,_,_,_,_,_,_,_,_,_,_,_,_,_,_,_,_,_,_,_,_,_,_,_,_,_,_,_,_,_,_]) rfl ?_
  refine rl_det (met_none rfl) (fun h_ H_ => exd_move (v := .bool (decide ((nums (levs 10 4 (wantOf exC) (listOf ([5, 8, 3, 1]))) 4) = [5, 4, 5, 1]))) rfl) (tm' := [_,_,_,_,_,_,_,_,_,_,_,_,_,_,_,_,_,_,_,_,_,_,_,_,_,_,_,_,_,_,_,_,_,_,_,_,_,_,_,_,_,_,_,_,_,_,_,_,_,_,_,_,_,_,_,_,_,_,_,_,_,_,_,_,_,_,_,_,_,_,_,_,_,_,_,_,_,_,_,_,_,_,_,_,_,_,_,_,_,_,_,_,_,_,_,_,_,_,_,_,_,_,_,_,_,_,_,_,_,_,_,_,_,_,_,_,_,_,_,_,_,_,_,_,_,_,_,_]) rfl ?_
  refine rl_det (met_some rfl rfl (decide_eq_true (by decide +kernel))) (fun h_ H_ => exd_move (v := w23) rfl) (tm' := [_,_,_,_,_,_,_,_,_,_,_,_,_,_,_,_,_,_,_,_,_,_,_,_,_,_,_,_,_,_,_,_,_,_,_,_,_,_,_,_,_,_,_,_,_,_,_,_,_,_,_,_,_,_,_,_,_,_,_,_,_,_,_,_,_,_,_,_,_,_,_,_,_,_,_,_,_,_,_,_,_,_,_,_,_,_,_,_,_,_,_,_,_,_,_,_,_,_,_,_,_,_,_,_,_,_,_,_,_,_,_,_,_,_,_,_,_,_,_,_,_,_,_,_,_,_,_,_]) rfl ?_
  refine rl_buildO ([(b32, .cells #[.int .i64 ((overR 10 4 exC 3).1.1), .int .i64 ((overR 10 4 exC 3).1.2)] 36 (0, 0)), (b31, .cells #[.int .i64 ((levelR 10 4 exC 1).1.1), .int .i64 ((levelR 10 4 exC 1).1.2)] 36 (0, 0)), (b8, .cells #[.int .i64 10, .int .i64 5, .slice a34 4 cp35] 24 (0, 0)), (b7, .cells #[.int .i64 10, .int .i64 4, .slice a13 4 cp14] 24 (0, 0))] : Pcs) (met_some rfl rfl (decide_eq_true (by decide +kernel))) Try.underlying25 tS3 tZ3 (Nat.le_of_ble_eq_true rfl) (vs := [(0, .int .i64 0), (1, .int .i64 0), (2, .int .i64 0), (3, .int .i64 0)]) rfl rfl (es := [[.int .i64 0], [.int .i64 0], [.int .i64 0], [.int .i64 0]]) rfl rfl rfl fun v51 X52 o53 => ?_
  refine rl_norm (tm' := [_,_,_,_,_,_,_,_,_,_,_,_,_,_,_,_,_,_,_,_,_,_,_,_,_,_,_,_,_,_,_,_,_,_,_,_,_,_,_,_,_,_,_,_,_,_,_,_,_,_,_,_,_,_,_,_,_,_,_,_,_,_,_,_,_,_,_,_,_,_,_,_,_,_,_,_,_,_,_,_,_,_,_,_,_,_,_,_,_,_,_,_,_,_,_,_,_,_,_,_,_,_,_,_,_,_,_,_,_,_,_,_,_,_,_,_,_,_,_,_,_,_,_,_,_,_,_,_]) rfl ?_
  refine rl_perm (List.Perm.append_left _ (List.perm_append_comm_assoc _ _ _)) ?_
  refine rl_own (L' := ([(b32, .cells #[.int .i64 ((overR 10 4 exC 3).1.1), .int .i64 ((overR 10 4 exC 3).1.2)] 36 (0, 0)), (b31, .cells #[.int .i64 ((levelR 10 4 exC 1).1.1), .int .i64 ((levelR 10 4 exC 1).1.2)] 36 (0, 0)), (b8, .cells #[.int .i64 10, .int .i64 5, .slice a34 4 cp35] 24 (0, 0)), (b7, .cells #[.int .i64 10, .int .i64 4, .slice a13 4 cp14] 24 (0, 0))] : Pcs) ++ (X26 ++ (X52 ++ (X27 ++ [])))) rfl ?_
  refine rl_lastN (A := ([(b32, .cells #[.int .i64 ((overR 10 4 exC 3).1.1), .int .i64 ((overR 10 4 exC 3).1.2)] 36 (0, 0)), (b31, .cells #[.int .i64 ((levelR 10 4 exC 1).1.1), .int .i64 ((levelR 10 4 exC 1).1.2)] 36 (0, 0)), (b8, .cells #[.int .i64 10, .int .i64 5, .slice a34 4 cp35] 24 (0, 0)), (b7, .cells #[.int .i64 10, .int .i64 4, .slice a13 4 cp14] 24 (0, 0))] : Pcs)) o29 (ns_length _ _) fun p54 a55 cp56 le57 ev_ D58 => ?_
  subst ev_
  refine rl_lastN (A := ([(b32, .cells #[.int .i64 ((overR 10 4 exC 3).1.1), .int .i64 ((overR 10 4 exC 3).1.2)] 36 (0, 0)), (b31, .cells #[.int .i64 ((levelR 10 4 exC 1).1.1), .int .i64 ((levelR 10 4 exC 1).1.2)] 36 (0, 0)), (b8, .cells #[.int .i64 10, .int .i64 5, .slice a34 4 cp35] 24 (0, 0)), (b7, .cells #[.int .i64 10, .int .i64 4, .slice a13 4 cp14] 24 (0, 0))] : Pcs)) o53 (show _ = 4 from rfl) fun p59 a60 cp61 le62 ev_ D63 => ?_
  subst ev_
  refine rl_calld (met_some rfl rfl (decide_eq_true (by decide +kernel))) (first := []) (cap := []) rfl rfl fC36 (fun h_ H_ => c36 (.main true) _ _ (fun b_ o_ e_ => H_.per b_ o_ e_) _ _ _ _ _ _ _ _ ((show Ints _ _ _ (nums (lack 10 4 (wantOf exC) (listOf ([5, 8, 3, 1]))) 4) from D58).mono le62) (show Ints _ _ _ [0, 0, 0, 0] from D63) (by omega)) (tm' := [_,_,_,_,_,_,_,_,_,_,_,_,_,_,_,_,_,_,_,_,_,_,_,_,_,_,_,_,_,_,_,_,_,_,_,_,_,_,_,_,_,_,_,_,_,_,_,_,_,_,_,_,_,_,_,_,_,_,_,_,_,_,_,_,_,_,_,_,_,_,_,_,_,_,_,_,_,_,_,_,_,_,_,_,_,_,_,_,_,_,_,_,_,_,_,_,_,_,_,_,_,_,_,_,_,_,_,_,_,_,_,_,_,_,_,_,_,_,_,_,_,_,_,_,_,_,_,_]) rfl ?_
  refine rl_det (met_none rfl) (fun h_ H_ => exd_pick_t rfl (decide_eq_true (by decide +kernel)) (v := .bool (decide ((nums (lack 10 4 (wantOf exC) (listOf ([5, 8, 3, 1]))) 4) = [0, 0, 0, 0]))) rfl) (tm' := [_,_,_,_,_,_,_,_,_,_,_,_,_,_,_,_,_,_,_,_,_,_,_,_,_,_,_,_,_,_,_,_,_,_,_,_,_,_,_,_,_,_,_,_,_,_,_,_,_,_,_,_,_,_,_,_,_,_,_,_,_,_,_,_,_,_,_,_,_,_,_,_,_,_,_,_,_,_,_,_,_,_,_,_,_,_,_,_,_,_,_,_,_,_,_,_,_,_,_,_,_,_,_,_,_,_,_,_,_,_,_,_,_,_,_,_,_,_,_,_,_,_,_,_,_,_,_,_]) rfl ?_
  refine rl_det (met_none rfl) (fun h_ H_ => exd_move (v := .bool (decide ((nums (lack 10 4 (wantOf exC) (listOf ([5, 8, 3, 1]))) 4) = [0, 0, 0, 0]))) rfl) (tm' := [_,_,_,_,_,_,_,_,_,_,_,_,_,_,_,_,_,_,_,_,_,_,_,_,_,_,_,_,_,_,_,_,_,_,_,_,_,_,_,_,_,_,_,_,_,_,_,_,_,_,_,_,_,_,_,_,_,_,_,_,_,_,_,_,_,_,_,_,_,_,_,_,_,_,_,_,_,_,_,_,_,_,_,_,_,_,_,_,_,_,_,_,_,_,_,_,_,_,_,_,_,_,_,_,_,_,_,_,_,_,_,_,_,_,_,_,_,_,_,_,_,_,_,_,_,_,_,_]) rfl ?_
  refine rl_det (met_some rfl rfl (decide_eq_true (by decide +kernel))) (fun h_ H_ => exd_move (v := w24) rfl) (tm' := [_,_,_,_,_,_,_,_,_,_,_,_,_,_,_,_,_,_,_,_,_,_,_,_,_,_,_,_,_,_,_,_,_,_,_,_,_,_,_,_,_,_,_,_,_,_,_,_,_,_,_,_,_,_,_,_,_,_,_,_,_,_,_,_,_,_,_,_,_,_,_,_,_,_,_,_,_,_,_,_,_,_,_,_,_,_,_,_,_,_,_,_,_,_,_,_,_,_,_,_,_,_,_,_,_,_,_,_,_,_,_,_,_,_,_,_,_,_,_,_,_,_,_,_,_,_,_,_]) rfl ?_
  refine rl_buildO ([(b32, .cells #[.int .i64 ((overR 10 4 exC 3).1.1), .int .i64 ((overR 10 4 exC 3).1.2)] 36 (0, 0)), (b31, .cells #[.int .i64 ((levelR 10 4 exC 1).1.1), .int .i64 ((levelR 10 4 exC 1).1.2)] 36 (0, 0)), (b8, .cells #[.int .i64 10, .int .i64 5, .slice a34 4 cp35] 24 (0, 0)), (b7, .cells #[.int .i64 10, .int .i64 4, .slice a13 4 cp14] 24 (0, 0))] : Pcs) (met_some rfl rfl (decide_eq_true (by decide +kernel))) Try.underlying25 tS3 tZ3 (Nat.le_of_ble_eq_true rfl) (vs := [(0, .int .i64 0), (1, .int .i64 3), (2, .int .i64 0), (3, .int .i64 0)]) rfl rfl (es := [[.int .i64 0], [.int .i64 3], [.int .i64 0], [.int .i64 0]]) rfl rfl rfl fun v64 X65 o66 => ?_
  refine rl_norm (tm' := [_,_,_,_,_,_,_,_,_,_,_,_,_,_,_,_,_,_,_,_,_,_,_,_,_,_,_,_,_,_,_,_,_,_,_,_,_,_,_,_,_,_,_,_,_,_,_,_,_,_,_,_,_,_,_,_,_,_,_,_,_,_,_,_,_,_,_,_,_,_,_,_,_,_,_,_,_,_,_,_,_,_,_,_,_,_,_,_,_,_,_,_,_,_,_,_,_,_,_,_,_,_,_,_,_,_,_,_,_,_,_,_,_,_,_,_,_,_,_,_,_,_,_,_,_,_,_,_]) rfl ?_
  refine rl_perm (List.Perm.append_left _ (List.perm_append_comm_assoc _ _ _)) ?_
  refine rl_own (L' := ([(b32, .cells #[.int .i64 ((overR 10 4 exC 3).1.1), .int .i64 ((overR 10 4 exC 3).1.2)] 36 (0, 0)), (b31, .cells #[.int .i64 ((levelR 10 4 exC 1).1.1), .int .i64 ((levelR 10 4 exC 1).1.2)] 36 (0, 0)), (b8, .cells #[.int .i64 10, .int .i64 5, .slice a34 4 cp35] 24 (0, 0)), (b7, .cells #[.int .i64 10, .int .i64 4, .slice a13 4 cp14] 24 (0, 0))] : Pcs) ++ (X27 ++ (X65 ++ []))) rfl ?_
  refine rl_lastN (A := ([(b32, .cells #[.int .i64 ((overR 10 4 exC 3).1.1), .int .i64 ((overR 10 4 exC 3).1.2)] 36 (0, 0)), (b31, .cells #[.int .i64 ((levelR 10 4 exC 1).1.1), .int .i64 ((levelR 10 4 exC 1).1.2)] 36 (0, 0)), (b8, .cells #[.int .i64 10, .int .i64 5, .slice a34 4 cp35] 24 (0, 0)), (b7, .cells #[.int .i64 10, .int .i64 4, .slice a13 4 cp14] 24 (0, 0))] : Pcs)) o30 (ns_length _ _) fun p67 a68 cp69 le70 ev_ D71 => ?_
  subst ev_
  refine rl_lastN (A := ([(b32, .cells #[.int .i64 ((overR 10 4 exC 3).1.1), .int .i64 ((overR 10 4 exC 3).1.2)] 36 (0, 0)), (b31, .cells #[.int .i64 ((levelR 10 4 exC 1).1.1), .int .i64 ((levelR 10 4 exC 1).1.2)] 36 (0, 0)), (b8, .cells #[.int .i64 10, .int .i64 5, .slice a34 4 cp35] 24 (0, 0)), (b7, .cells #[.int .i64 10, .int .i64 4, .slice a13 4 cp14] 24 (0, 0))] : Pcs)) o66 (show _ = 4 from rfl) fun p72 a73 cp74 le75 ev_ D76 => ?_
  subst ev_
  refine rl_own (L' := [(b32, .cells #[.int .i64 ((overR 10 4 exC 3).1.1), .int .i64 ((overR 10 4 exC 3).1.2)] 36 (0, 0)), (b31, .cells #[.int .i64 ((levelR 10 4 exC 1).1.1), .int .i64 ((levelR 10 4 exC 1).1.2)] 36 (0, 0)), (b8, .cells #[.int .i64 10, .int .i64 5, .slice a34 4 cp35] 24 (0, 0)), (b7, .cells #[.int .i64 10, .int .i64 4, .slice a13 4 cp14] 24 (0, 0))]) rfl ?_
  refine rl_calld (met_some rfl rfl (decide_eq_true (by decide +kernel))) (first := []) (cap := []) rfl rfl fC36 (fun h_ H_ => c36 (.main true) _ _ (fun b_ o_ e_ => H_.per b_ o_ e_) _ _ _ _ _ _ _ _ ((show Ints _ _ _ (nums (ovr 10 4 (wantOf exC) (listOf ([5, 8, 3, 1]))) 4) from D71).mono le75) (show Ints _ _ _ [0, 3, 0, 0] from D76) (by omega)) (tm' := [_,_,_,_,_,_,_,_,_,_,_,_,_,_,_,_,_,_,_,_,_,_,_,_,_,_,_,_,_,_,_,_,_,_,_,_,_,_,_,_,_,_,_,_,_,_,_,_,_,_,_,_,_,_,_,_,_,_,_,_,_,_,_,_,_,_,_,_,_,_,_,_,_,_,_,_,_,_,_,_,_,_,_,_,_,_,_,_,_,_,_,_,_,_,_,_,_,_,_,_,_,_,_,_,_,_,_,_,_,_,_,_,_,_,_,_,_,_,_,_,_,_,_,_,_,_,_,_]) rfl ?_
  refine rl_det (met_none rfl) (fun h_ H_ => exd_pick_t rfl (decide_eq_true (by decide +kernel)) (v := .bool (decide ((nums (ovr 10 4 (wantOf exC) (listOf ([5, 8, 3, 1]))) 4) = [0, 3, 0, 0]))) rfl) (tm' := [_,_,_,_,_,_,_,_,_,_,_,_,_,_,_,_,_,_,_,_,_,_,_,_,_,_,_,_,_,_,_,_,_,_,_,_,_,_,_,_,_,_,_,_,_,_,_,_,_,_,_,_,_,_,_,_,_,_,_,_,_,_,_,_,_,_,_,_,_,_,_,_,_,_,_,_,_,_,_,_,_,_,_,_,_,_,_,_,_,_,_,_,_,_,_,_,_,_,_,_,_,_,_,_,_,_,_,_,_,_,_,_,_,_,_,_,_,_,_,_,_,_,_,_,_,_,_,_]) rfl ?_
  refine rl_det (met_none rfl) (fun h_ H_ => exd_move (v := .bool (decide ((nums (ovr 10 4 (wantOf exC) (listOf ([5, 8, 3, 1]))) 4) = [0, 3, 0, 0]))) rfl) (tm' := [_,_,_,_,_,_,_,_,_,_,_,_,_,_,_,_,_,_,_,_,_,_,_,_,_,_,_,_,_,_,_,_,_,_,_,_,_,_,_,_,_,_,_,_,_,_,_,_,_,_,_,_,_,_,_,_,_,_,_,_,_,_,_,_,_,_,_,_,_,_,_,_,_,_,_,_,_,_,_,_,_,_,_,_,_,_,_,_,_,_,_,_,_,_,_,_,_,_,_,_,_,_,_,_,_,_,_,_,_,_,_,_,_,_,_,_,_,_,_,_,_,_,_,_,_,_,_,_]) rfl ?_
  refine rl_det (met_some rfl rfl (decide_eq_true (by decide +kernel))) (fun h_ H_ => exd_loadN_own H_ tA36 tS36 rfl (i := 1) rfl (vs := [.int .i64 ((levelR 10 4 exC 1).1.1), .int .i64 ((levelR 10 4 exC 1).1.2)]) rfl rfl) (tm' := [_,_,_,_,_,_,_,_,_,_,_,_,_,_,_,_,_,_,_,_,_,_,_,_,_,_,_,_,_,_,_,_,_,_,_,_,_,_,_,_,_,_,_,_,_,_,_,_,_,_,_,_,_,_,_,_,_,_,_,_,_,_,_,_,_,_,_,_,_,_,_,_,_,_,_,_,_,_,_,_,_,_,_,_,_,_,_,_,_,_,_,_,_,_,_,_,_,_,_,_,_,_,_,_,_,_,_,_,_,_,_,_,_,_,_,_,_,_,_,_,_,_,_,_,_,_,_,_]) rfl ?_
  refine rl_det (met_some rfl rfl (decide_eq_true (by decide +kernel))) (fun h_ H_ => exd_build tZ36 tP36 (vs := [(0, .int .i64 0), (1, .int .i64 4)]) rfl (cells := #[.int .i64 0, .int .i64 4]) rfl) (tm' := [_,_,_,_,_,_,_,_,_,_,_,_,_,_,_,_,_,_,_,_,_,_,_,_,_,_,_,_,_,_,_,_,_,_,_,_,_,_,_,_,_,_,_,_,_,_,_,_,_,_,_,_,_,_,_,_,_,_,_,_,_,_,_,_,_,_,_,_,_,_,_,_,_,_,_,_,_,_,_,_,_,_,_,_,_,_,_,_,_,_,_,_,_,_,_,_,_,_,_,_,_,_,_,_,_,_,_,_,_,_,_,_,_,_,_,_,_,_,_,_,_,_,_,_,_,_,_,_]) rfl ?_
  refine rl_det (met_some rfl rfl (decide_eq_true (by decide +kernel))) (fun h_ H_ => exd_eqAgg gT36 (spanEq 9998 _ _ _ _) rfl rfl) (tm' := [_,_,_,_,_,_,_,_,_,_,_,_,_,_,_,_,_,_,_,_,_,_,_,_,_,_,_,_,_,_,_,_,_,_,_,_,_,_,_,_,_,_,_,_,_,_,_,_,_,_,_,_,_,_,_,_,_,_,_,_,_,_,_,_,_,_,_,_,_,_,_,_,_,_,_,_,_,_,_,_,_,_,_,_,_,_,_,_,_,_,_,_,_,_,_,_,_,_,_,_,_,_,_,_,_,_,_,_,_,_,_,_,_,_,_,_,_,_,_,_,_,_,_,_,_,_,_,_]) rfl ?_
  refine rl_det (met_none rfl) (fun h_ H_ => exd_pick_t rfl (decide_eq_true (by decide +kernel)) (v := .bool (decide ((levelR 10 4 exC 1).1.1 = 0 ∧ (levelR 10 4 exC 1).1.2 = 4))) rfl) (tm' := [_,_,_,_,_,_,_,_,_,_,_,_,_,_,_,_,_,_,_,_,_,_,_,_,_,_,_,_,_,_,_,_,_,_,_,_,_,_,_,_,_,_,_,_,_,_,_,_,_,_,_,_,_,_,_,_,_,_,_,_,_,_,_,_,_,_,_,_,_,_,_,_,_,_,_,_,_,_,_,_,_,_,_,_,_,_,_,_,_,_,_,_,_,_,_,_,_,_,_,_,_,_,_,_,_,_,_,_,_,_,_,_,_,_,_,_,_,_,_,_,_,_,_,_,_,_,_,_]) rfl ?_
  refine rl_det (met_none rfl) (fun h_ H_ => exd_move (v := .bool (decide ((levelR 10 4 exC 1).1.1 = 0 ∧ (levelR 10 4 exC 1).1.2 = 4))) rfl) (tm' := [_,_,_,_,_,_,_,_,_,_,_,_,_,_,_,_,_,_,_,_,_,_,_,_,_,_,_,_,_,_,_,_,_,_,_,_,_,_,_,_,_,_,_,_,_,_,_,_,_,_,_,_,_,_,_,_,_,_,_,_,_,_,_,_,_,_,_,_,_,_,_,_,_,_,_,_,_,_,_,_,_,_,_,_,_,_,_,_,_,_,_,_,_,_,_,_,_,_,_,_,_,_,_,_,_,_,_,_,_,_,_,_,_,_,_,_,_,_,_,_,_,_,_,_,_,_,_,_]) rfl ?_
  refine rl_det (met_some rfl rfl (decide_eq_true (by decide +kernel))) (fun h_ H_ => exd_loadN_own H_ tA36 tS36 rfl (i := 0) rfl (vs := [.int .i64 ((overR 10 4 exC 3).1.1), .int .i64 ((overR 10 4 exC 3).1.2)]) rfl rfl) (tm' := [_,_,_,_,_,_,_,_,_,_,_,_,_,_,_,_,_,_,_,_,_,_,_,_,_,_,_,_,_,_,_,_,_,_,_,_,_,_,_,_,_,_,_,_,_,_,_,_,_,_,_,_,_,_,_,_,_,_,_,_,_,_,_,_,_,_,_,_,_,_,_,_,_,_,_,_,_,_,_,_,_,_,_,_,_,_,_,_,_,_,_,_,_,_,_,_,_,_,_,_,_,_,_,_,_,_,_,_,_,_,_,_,_,_,_,_,_,_,_,_,_,_,_,_,_,_,_,_]) rfl ?_
  refine rl_det (met_some rfl rfl (decide_eq_true (by decide +kernel))) (fun h_ H_ => exd_build tZ36 tP36 (vs := [(0, .int .i64 0), (1, .int .i64 3)]) rfl (cells := #[.int .i64 0, .int .i64 3]) rfl) (tm' := [_,_,_,_,_,_,_,_,_,_,_,_,_,_,_,_,_,_,_,_,_,_,_,_,_,_,_,_,_,_,_,_,_,_,_,_,_,_,_,_,_,_,_,_,_,_,_,_,_,_,_,_,_,_,_,_,_,_,_,_,_,_,_,_,_,_,_,_,_,_,_,_,_,_,_,_,_,_,_,_,_,_,_,_,_,_,_,_,_,_,_,_,_,_,_,_,_,_,_,_,_,_,_,_,_,_,_,_,_,_,_,_,_,_,_,_,_,_,_,_,_,_,_,_,_,_,_,_]) rfl ?_
  refine rl_det (met_some rfl rfl (decide_eq_true (by decide +kernel))) (fun h_ H_ => exd_eqAgg gT36 (spanEq 9998 _ _ _ _) rfl rfl) (tm' := [_,_,_,_,_,_,_,_,_,_,_,_,_,_,_,_,_,_,_,_,_,_,_,_,_,_,_,_,_,_,_,_,_,_,_,_,_,_,_,_,_,_,_,_,_,_,_,_,_,_,_,_,_,_,_,_,_,_,_,_,_,_,_,_,_,_,_,_,_,_,_,_,_,_,_,_,_,_,_,_,_,_,_,_,_,_,_,_,_,_,_,_,_,_,_,_,_,_,_,_,_,_,_,_,_,_,_,_,_,_,_,_,_,_,_,_,_,_,_,_,_,_,_,_,_,_,_,_]) rfl ?_
  refine rl_det (met_none rfl) (fun h_ H_ => exd_pick_t rfl (decide_eq_true (by decide +kernel)) (v := .bool (decide ((overR 10 4 exC 3).1.1 = 0 ∧ (overR 10 4 exC 3).1.2 = 3))) rfl) (tm' := [_,_,_,_,_,_,_,_,_,_,_,_,_,_,_,_,_,_,_,_,_,_,_,_,_,_,_,_,_,_,_,_,_,_,_,_,_,_,_,_,_,_,_,_,_,_,_,_,_,_,_,_,_,_,_,_,_,_,_,_,_,_,_,_,_,_,_,_,_,_,_,_,_,_,_,_,_,_,_,_,_,_,_,_,_,_,_,_,_,_,_,_,_,_,_,_,_,_,_,_,_,_,_,_,_,_,_,_,_,_,_,_,_,_,_,_,_,_,_,_,_,_,_,_,_,_,_,_]) rfl ?_
  refine rl_det (met_none rfl) (fun h_ H_ => exd_move (v := .bool (decide ((overR 10 4 exC 3).1.1 = 0 ∧ (overR 10 4 exC 3).1.2 = 3))) rfl) (tm' := [_,_,_,_,_,_,_,_,_,_,_,_,_,_,_,_,_,_,_,_,_,_,_,_,_,_,_,_,_,_,_,_,_,_,_,_,_,_,_,_,_,_,_,_,_,_,_,_,_,_,_,_,_,_,_,_,_,_,_,_,_,_,_,_,_,_,_,_,_,_,_,_,_,_,_,_,_,_,_,_,_,_,_,_,_,_,_,_,_,_,_,_,_,_,_,_,_,_,_,_,_,_,_,_,_,_,_,_,_,_,_,_,_,_,_,_,_,_,_,_,_,_,_,_,_,_,_,_]) rfl ?_
  refine rl_det (met_some rfl rfl (decide_eq_true (by decide +kernel))) (fun h_ H_ => exd_move (v := .int .i64 ((dryR 10 4 exC).1)) rfl) (tm' := [_,_,_,_,_,_,_,_,_,_,_,_,_,_,_,_,_,_,_,_,_,_,_,_,_,_,_,_,_,_,_,_,_,_,_,_,_,_,_,_,_,_,_,_,_,_,_,_,_,_,_,_,_,_,_,_,_,_,_,_,_,_,_,_,_,_,_,_,_,_,_,_,_,_,_,_,_,_,_,_,_,_,_,_,_,_,_,_,_,_,_,_,_,_,_,_,_,_,_,_,_,_,_,_,_,_,_,_,_,_,_,_,_,_,_,_,_,_,_,_,_,_,_,_,_,_,_,_]) rfl ?_
  refine rl_det (met_some rfl rfl (decide_eq_true (by decide +kernel))) (fun h_ H_ => exd_eql rfl rfl) (tm' := [_,_,_,_,_,_,_,_,_,_,_,_,_,_,_,_,_,_,_,_,_,_,_,_,_,_,_,_,_,_,_,_,_,_,_,_,_,_,_,_,_,_,_,_,_,_,_,_,_,_,_,_,_,_,_,_,_,_,_,_,_,_,_,_,_,_,_,_,_,_,_,_,_,_,_,_,_,_,_,_,_,_,_,_,_,_,_,_,_,_,_,_,_,_,_,_,_,_,_,_,_,_,_,_,_,_,_,_,_,_,_,_,_,_,_,_,_,_,_,_,_,_,_,_,_,_,_,_]) rfl ?_
  refine rl_det (met_none rfl) (fun h_ H_ => exd_pick_t rfl (decide_eq_true (by decide +kernel)) (v := .bool (decide ((dryR 10 4 exC).1 = 1))) rfl) (tm' := [_,_,_,_,_,_,_,_,_,_,_,_,_,_,_,_,_,_,_,_,_,_,_,_,_,_,_,_,_,_,_,_,_,_,_,_,_,_,_,_,_,_,_,_,_,_,_,_,_,_,_,_,_,_,_,_,_,_,_,_,_,_,_,_,_,_,_,_,_,_,_,_,_,_,_,_,_,_,_,_,_,_,_,_,_,_,_,_,_,_,_,_,_,_,_,_,_,_,_,_,_,_,_,_,_,_,_,_,_,_,_,_,_,_,_,_,_,_,_,_,_,_,_,_,_,_,_,_]) rfl ?_
  refine rl_det (met_none rfl) (fun h_ H_ => exd_move (v := .bool (decide ((dryR 10 4 exC).1 = 1))) rfl) (tm' := [_,_,_,_,_,_,_,_,_,_,_,_,_,_,_,_,_,_,_,_,_,_,_,_,_,_,_,_,_,_,_,_,_,_,_,_,_,_,_,_,_,_,_,_,_,_,_,_,_,_,_,_,_,_,_,_,_,_,_,_,_,_,_,_,_,_,_,_,_,_,_,_,_,_,_,_,_,_,_,_,_,_,_,_,_,_,_,_,_,_,_,_,_,_,_,_,_,_,_,_,_,_,_,_,_,_,_,_,_,_,_,_,_,_,_,_,_,_,_,_,_,_,_,_,_,_,_,_]) rfl ?_
  refine rl_det (met_some rfl rfl (decide_eq_true (by decide +kernel))) (fun h_ H_ => exd_move (v := .int .i64 ((if Ok 10 4 exC then ratDown 10 4 exC 20 else 0))) rfl) (tm' := [_,_,_,_,_,_,_,_,_,_,_,_,_,_,_,_,_,_,_,_,_,_,_,_,_,_,_,_,_,_,_,_,_,_,_,_,_,_,_,_,_,_,_,_,_,_,_,_,_,_,_,_,_,_,_,_,_,_,_,_,_,_,_,_,_,_,_,_,_,_,_,_,_,_,_,_,_,_,_,_,_,_,_,_,_,_,_,_,_,_,_,_,_,_,_,_,_,_,_,_,_,_,_,_,_,_,_,_,_,_,_,_,_,_,_,_,_,_,_,_,_,_,_,_,_,_,_,_]) rfl ?_
  refine rl_det (met_some rfl rfl (decide_eq_true (by decide +kernel))) (fun h_ H_ => exd_eql rfl rfl) (tm' := [_,_,_,_,_,_,_,_,_,_,_,_,_,_,_,_,_,_,_,_,_,_,_,_,_,_,_,_,_,_,_,_,_,_,_,_,_,_,_,_,_,_,_,_,_,_,_,_,_,_,_,_,_,_,_,_,_,_,_,_,_,_,_,_,_,_,_,_,_,_,_,_,_,_,_,_,_,_,_,_,_,_,_,_,_,_,_,_,_,_,_,_,_,_,_,_,_,_,_,_,_,_,_,_,_,_,_,_,_,_,_,_,_,_,_,_,_,_,_,_,_,_,_,_,_,_,_,_]) rfl ?_
  refine rl_det (met_none rfl) (fun h_ H_ => exd_pick_t rfl (decide_eq_true (by decide +kernel)) (v := .bool (decide ((if Ok 10 4 exC then ratDown 10 4 exC 20 else 0) = 2))) rfl) (tm' := [_,_,_,_,_,_,_,_,_,_,_,_,_,_,_,_,_,_,_,_,_,_,_,_,_,_,_,_,_,_,_,_,_,_,_,_,_,_,_,_,_,_,_,_,_,_,_,_,_,_,_,_,_,_,_,_,_,_,_,_,_,_,_,_,_,_,_,_,_,_,_,_,_,_,_,_,_,_,_,_,_,_,_,_,_,_,_,_,_,_,_,_,_,_,_,_,_,_,_,_,_,_,_,_,_,_,_,_,_,_,_,_,_,_,_,_,_,_,_,_,_,_,_,_,_,_,_,_]) rfl ?_
  refine rl_det (met_none rfl) (fun h_ H_ => exd_move (v := .bool (decide ((if Ok 10 4 exC then ratDown 10 4 exC 20 else 0) = 2))) rfl) (tm' := [_,_,_,_,_,_,_,_,_,_,_,_,_,_,_,_,_,_,_,_,_,_,_,_,_,_,_,_,_,_,_,_,_,_,_,_,_,_,_,_,_,_,_,_,_,_,_,_,_,_,_,_,_,_,_,_,_,_,_,_,_,_,_,_,_,_,_,_,_,_,_,_,_,_,_,_,_,_,_,_,_,_,_,_,_,_,_,_,_,_,_,_,_,_,_,_,_,_,_,_,_,_,_,_,_,_,_,_,_,_,_,_,_,_,_,_,_,_,_,_,_,_,_,_,_,_,_,_]) rfl ?_
  refine rl_det (met_some rfl rfl (decide_eq_true (by decide +kernel))) (fun h_ H_ => exd_move (v := .int .i64 ((sizeR 10 5 exD).1)) rfl) (tm' := [_,_,_,_,_,_,_,_,_,_,_,_,_,_,_,_,_,_,_,_,_,_,_,_,_,_,_,_,_,_,_,_,_,_,_,_,_,_,_,_,_,_,_,_,_,_,_,_,_,_,_,_,_,_,_,_,_,_,_,_,_,_,_,_,_,_,_,_,_,_,_,_,_,_,_,_,_,_,_,_,_,_,_,_,_,_,_,_,_,_,_,_,_,_,_,_,_,_,_,_,_,_,_,_,_,_,_,_,_,_,_,_,_,_,_,_,_,_,_,_,_,_,_,_,_,_,_,_]) rfl ?_
  refine rl_det (met_some rfl rfl (decide_eq_true (by decide +kernel))) (fun h_ H_ => exd_eql rfl rfl) (tm' := [_,_,_,_,_,_,_,_,_,_,_,_,_,_,_,_,_,_,_,_,_,_,_,_,_,_,_,_,_,_,_,_,_,_,_,_,_,_,_,_,_,_,_,_,_,_,_,_,_,_,_,_,_,_,_,_,_,_,_,_,_,_,_,_,_,_,_,_,_,_,_,_,_,_,_,_,_,_,_,_,_,_,_,_,_,_,_,_,_,_,_,_,_,_,_,_,_,_,_,_,_,_,_,_,_,_,_,_,_,_,_,_,_,_,_,_,_,_,_,_,_,_,_,_,_,_,_,_]) rfl ?_
  refine rl_det (met_none rfl) (fun h_ H_ => exd_pick_t rfl (decide_eq_true (by decide +kernel)) (v := .bool (decide ((sizeR 10 5 exD).1 = 9))) rfl) (tm' := [_,_,_,_,_,_,_,_,_,_,_,_,_,_,_,_,_,_,_,_,_,_,_,_,_,_,_,_,_,_,_,_,_,_,_,_,_,_,_,_,_,_,_,_,_,_,_,_,_,_,_,_,_,_,_,_,_,_,_,_,_,_,_,_,_,_,_,_,_,_,_,_,_,_,_,_,_,_,_,_,_,_,_,_,_,_,_,_,_,_,_,_,_,_,_,_,_,_,_,_,_,_,_,_,_,_,_,_,_,_,_,_,_,_,_,_,_,_,_,_,_,_,_,_,_,_,_,_]) rfl ?_
  refine rl_det (met_none rfl) (fun h_ H_ => exd_move (v := .bool (decide ((sizeR 10 5 exD).1 = 9))) rfl) (tm' := [_,_,_,_,_,_,_,_,_,_,_,_,_,_,_,_,_,_,_,_,_,_,_,_,_,_,_,_,_,_,_,_,_,_,_,_,_,_,_,_,_,_,_,_,_,_,_,_,_,_,_,_,_,_,_,_,_,_,_,_,_,_,_,_,_,_,_,_,_,_,_,_,_,_,_,_,_,_,_,_,_,_,_,_,_,_,_,_,_,_,_,_,_,_,_,_,_,_,_,_,_,_,_,_,_,_,_,_,_,_,_,_,_,_,_,_,_,_,_,_,_,_,_,_,_,_,_,_]) rfl ?_
  refine rl_det (met_some rfl rfl (decide_eq_true (by decide +kernel))) (fun h_ H_ => exd_move (v := .int .i64 ((spareR 10 5 exD 3).1)) rfl) (tm' := [_,_,_,_,_,_,_,_,_,_,_,_,_,_,_,_,_,_,_,_,_,_,_,_,_,_,_,_,_,_,_,_,_,_,_,_,_,_,_,_,_,_,_,_,_,_,_,_,_,_,_,_,_,_,_,_,_,_,_,_,_,_,_,_,_,_,_,_,_,_,_,_,_,_,_,_,_,_,_,_,_,_,_,_,_,_,_,_,_,_,_,_,_,_,_,_,_,_,_,_,_,_,_,_,_,_,_,_,_,_,_,_,_,_,_,_,_,_,_,_,_,_,_,_,_,_,_,_]) rfl ?_
  refine rl_det (met_some rfl rfl (decide_eq_true (by decide +kernel))) (fun h_ H_ => exd_eql rfl rfl) (tm' := [_,_,_,_,_,_,_,_,_,_,_,_,_,_,_,_,_,_,_,_,_,_,_,_,_,_,_,_,_,_,_,_,_,_,_,_,_,_,_,_,_,_,_,_,_,_,_,_,_,_,_,_,_,_,_,_,_,_,_,_,_,_,_,_,_,_,_,_,_,_,_,_,_,_,_,_,_,_,_,_,_,_,_,_,_,_,_,_,_,_,_,_,_,_,_,_,_,_,_,_,_,_,_,_,_,_,_,_,_,_,_,_,_,_,_,_,_,_,_,_,_,_,_,_,_,_,_,_]) rfl ?_
  refine rl_det (met_none rfl) (fun h_ H_ => exd_pick_t rfl (decide_eq_true (by decide +kernel)) (v := .bool (decide ((spareR 10 5 exD 3).1 = 2))) rfl) (tm' := [_,_,_,_,_,_,_,_,_,_,_,_,_,_,_,_,_,_,_,_,_,_,_,_,_,_,_,_,_,_,_,_,_,_,_,_,_,_,_,_,_,_,_,_,_,_,_,_,_,_,_,_,_,_,_,_,_,_,_,_,_,_,_,_,_,_,_,_,_,_,_,_,_,_,_,_,_,_,_,_,_,_,_,_,_,_,_,_,_,_,_,_,_,_,_,_,_,_,_,_,_,_,_,_,_,_,_,_,_,_,_,_,_,_,_,_,_,_,_,_,_,_,_,_,_,_,_,_]) rfl ?_
  refine rl_det (met_none rfl) (fun h_ H_ => exd_assign (v := .bool (decide ((spareR 10 5 exD 3).1 = 2))) rfl) (tm' := _::_) rfl ?_
  refine rl_end ?_
  refine fl_ret Try.func18 rfl (vs := [.bool (decide ((spareR 10 5 exD 3).1 = 2))]) (fun h_ H_ => ⟨.bool (decide ((spareR 10 5 exD 3).1 = 2)), _, rfl, rfl, rfl⟩) (v := .bool (decide ((spareR 10 5 exD 3).1 = 2))) rfl ?_
  exact fun h_ H_ => K _ _ ⟨by rw [decide_eq_true (by decide +kernel)], H_.kept⟩
end Go.Proofs.Ytbmkacnlhlbnjaa
namespace Go.Proofs.Ytbmkacnlhlbnjaa
open Go.X Go.X.Cist Go.Conc
set_option maxRecDepth 10000

theorem c39 (md : Md) (h : Heap) (p : PHeap) (hp : Per p h) (size start : Int) (a : Option Addr) (n c : Nat) (ds : List Day) (D : Days p a n ds) : CallsX Try.prog md 39 #[.agg #[.int .i64 (size), .int .i64 (start), .slice a n c]] h fun v h' => v = .bool (decide (FarD size start ds)) ∧ Keep h h' := by
  refine calls_intro (Φ := fun h_ => St h [] p h_ []) Try.func39 rfl (tm := [_, _, _, _, _, _, _, _, _, _, _, _, _, _, _, _, _, _, _, _, _, _, _, _, _, _, _, _, _, _, _, _, _, _, _, _, _, _, _]) rfl ?_ (St.start h _ hp)
  intro c₀ cs Stop K
  have hl := D.len
  refine fl_seq ?_
  refine rl_start ?_
  refine rl_box (met_none rfl) (v := .agg #[.int .i64 (size), .int .i64 (start), .slice a n c]) rfl fun b1 => rl_own (L' := [(b1, .cells #[.int .i64 (size), .int .i64 (start), .slice a n c] 24 (0, 0))]) rfl ?_
  refine rl_norm (tm' := _::_::_) rfl ?_
  refine rl_det (met_none rfl) (fun h_ H_ => exd_assign (v := .bool (false)) rfl) (tm' := _::_::_::_) rfl ?_
  refine rl_end ?_
  refine fl_seq ?_
  refine fl_seq ?_
  refine rl_start ?_
  refine rl_det (met_none rfl) (fun h_ H_ => exd_fieldAddr tF24_2 rfl (a' := ⟨b1, 2, none⟩) rfl) (tm' := _::_::_::_::_::_::_) rfl ?_
  refine rl_det (met_none rfl) (fun h_ H_ => exd_load_own H_ tA22 rfl (i := 0) rfl (v := .slice a n c) rfl) (tm' := _::_::_::_::_::_::_::_) rfl ?_
  refine rl_det (met_none rfl) (fun h_ H_ => exd_len Try.underlying22 rfl) (tm' := _::_::_::_::_::_::_::_::_) rfl ?_
  refine rl_det (met_none rfl) (fun h_ H_ => exd_gtr rfl rfl) (tm' := _::_::_::_::_::_::_::_::_::_) rfl ?_
  refine rl_end ?_
  by_cases c2 : 40 < ((n : Nat) : Int)
  · refine fl_then rfl (decide_eq_true c2) ?_
    refine fl_seq ?_
    refine rl_start ?_
    refine rl_det (met_none rfl) (fun h_ H_ => exd_assign (v := .bool (true)) rfl) (tm' := _::_::_::_) rfl ?_
    refine rl_end ?_
    refine fl_ret Try.func39 rfl (vs := [.bool (true)]) (fun h_ H_ => ⟨.bool (true), _, rfl, rfl, rfl⟩) (v := .bool (true)) rfl ?_
    exact fun h_ H_ => K _ _ ⟨by rw [decide_eq_true]; first | exact .inl (by omega) | exact .inr ⟨hOk, Int.lt_of_lt_of_le (show 60 < cnt ds (k + 1) from ‹_›) (by have := cnt_le hOk.dok (k := k + 1) (n - (k + 1)) (by omega); rwa [show k + 1 + (n - (k + 1)) = ds.length from by omega] at this)⟩, H_.kept⟩
  · refine fl_else rfl (decide_eq_false c2) ?_
    refine fl_skip ?_
    refine fl_seq ?_
    refine fl_seq ?_
    refine rl_start ?_
    refine rl_det (met_none rfl) (fun h_ H_ => exd_loadN_own H_ tA24 tS24 rfl (i := 0) rfl (vs := [.int .i64 (size), .int .i64 (start), .slice a n c]) rfl rfl) (tm' := _::_::_::_::_::_::_::_::_::_::_) rfl ?_
    refine rl_calld (met_none rfl) (first := []) (cap := []) rfl rfl fC33 (fun h_ H_ => c33 md _ _ (fun b_ o_ e_ => H_.per b_ o_ e_) (size) (start) _ _ _ _ D (by omega)) (tm' := _::_::_::_::_::_::_::_::_::_::_::_) rfl ?_
    refine rl_det (met_none rfl) (fun h_ H_ => exd_neq rfl rfl) (tm' := _::_::_::_::_::_::_::_::_::_::_::_::_) rfl ?_
    refine rl_end ?_
    by_cases c3 : chk (size) (start) ds ≠ 0
    · refine fl_then rfl (decide_eq_true c3) ?_
      refine fl_seq ?_
      refine rl_start ?_
      refine rl_det (met_none rfl) (fun h_ H_ => exd_assign (v := .bool (false)) rfl) (tm' := _::_::_::_) rfl ?_
      refine rl_end ?_
      refine fl_ret Try.func39 rfl (vs := [.bool (false)]) (fun h_ H_ => ⟨.bool (false), _, rfl, rfl, rfl⟩) (v := .bool (false)) rfl ?_
      exact fun h_ H_ => K _ _ ⟨by rw [decide_eq_false]; first | exact fun e => e.elim (fun e => by omega) (fun e => absurd (chk_yes e.1) ‹_›) | exact fun e => e.elim (fun e => by omega) (fun e => by have h2 := e.2; rw [hl, show n = k from by omega] at h2; omega), H_.kept⟩
    · refine fl_else rfl (decide_eq_false c3) ?_
      refine fl_skip ?_
      refine fl_seq ?_
      have hOk : Ok size start ds := chk_zero.1 (by omega)
      refine rl_start ?_
      refine rl_det (met_none rfl) (fun h_ H_ => exd_assign (v := .int .i64 1) rfl) (tm' := _::_::_::_::_) rfl ?_
      refine rl_end ?_
      refine fl_seq ?_
      refine fl_seq ?_
      refine rl_start ?_
      refine rl_det (met_none rfl) (fun h_ H_ => exd_assign (v := .int .i64 0) rfl) (tm' := _::_::_::_::_::_) rfl ?_
      refine rl_end ?_
      refine fl_block ?_
      refine fl_loop (m₀ := n - 0) (fun m_ tm_ h_ => ∃ (k : Nat) (y4 : Nat → Value), m_ = n - k ∧ tm_ = [.agg #[.int .i64 (size), .int .i64 (start), .slice a n c], .pointer (some ⟨b1, 0, none⟩), (y4 0), .int .i64 (cnt ds k), .int .i64 (((k : Nat) : Int)), .pointer (some ⟨b1, 2, none⟩), .slice a n c, .int .i64 (((n : Nat) : Int)), .bool (decide (40 < ((n : Nat) : Int))), .agg #[.int .i64 (size), .int .i64 (start), .slice a n c], .int .i64 (chk (size) (start) ds), .bool (decide (chk (size) (start) ds ≠ 0)), (y4 1), (y4 2), (y4 3), (y4 4), (y4 5), (y4 6), (y4 7), (y4 8), (y4 9), (y4 10), (y4 11), (y4 12), (y4 13), (y4 14), (y4 15), (y4 16), (y4 17), (y4 18), (y4 19), (y4 20), (y4 21), (y4 22), (y4 23), (y4 24), (y4 25), (y4 26), (y4 27)] ∧ (k ≤ n) ∧ (cnt ds k ≤ 60) ∧ St h [] p h_ ([(b1, .cells #[.int .i64 (size), .int .i64 (start), .slice a n c] 24 (0, 0))])) (fun h_ H_ => ⟨0, (fun i_ => [.bool (false), undef, undef, undef, undef, undef, undef, undef, undef, undef, undef, undef, undef, undef, undef, undef, undef, undef, undef, undef, undef, undef, undef, undef, undef, undef, undef, undef].getD i_ undef), rfl, rfl, Nat.zero_le _, (show (1 : Int) ≤ 60 by omega), H_⟩) ?_
      intro m_ tm_ IH5
      refine rs_ex fun k => rs_ex fun y4 => rs_and fun hm_ => rs_and fun ht_ => rs_and fun hk => rs_and fun hc => ?_
      subst hm_; subst ht_
      have hdk := hOk.dok k
      refine fl_seq ?_
      refine fl_seq ?_
      refine rl_start ?_
      refine rl_det (met_none rfl) (fun h_ H_ => exd_move (v := .int .i64 (((k : Nat) : Int))) rfl) (tm' := _::_::_::_::_::_::_::_::_::_::_::_::_::_) rfl ?_
      refine rl_det (met_none rfl) (fun h_ H_ => exd_fieldAddr tF24_2 rfl (a' := ⟨b1, 2, none⟩) rfl) (tm' := _::_::_::_::_::_::_::_::_::_::_::_::_::_::_) rfl ?_
      refine rl_det (met_none rfl) (fun h_ H_ => exd_load_own H_ tA22 rfl (i := 0) rfl (v := .slice a n c) rfl) (tm' := _::_::_::_::_::_::_::_::_::_::_::_::_::_::_::_) rfl ?_
      refine rl_det (met_none rfl) (fun h_ H_ => exd_len Try.underlying22 rfl) (tm' := _::_::_::_::_::_::_::_::_::_::_::_::_::_::_::_::_) rfl ?_
      refine rl_det (met_none rfl) (fun h_ H_ => exd_lss rfl rfl) (tm' := _::_::_::_::_::_::_::_::_::_::_::_::_::_::_::_::_::_) rfl ?_
      refine rl_end ?_
      by_cases c6 : ((k : Nat) : Int) < ((n : Nat) : Int)
      · refine fl_then rfl (decide_eq_true c6) ?_
        refine fl_skip ?_
        refine fl_seq ?_
        refine fl_block ?_
        refine fl_seq ?_
        refine fl_drawn 17 [[], [], [1], [], [1, 2, 3], [1, 2, 3, 4], [1, 2, 3, 4, 5], [1, 2, 3, 4, 5, 6], [], [8], [], [8, 9, 10], [8, 9, 10, 11], [8, 9, 10, 11, 12], [8, 9, 10, 11, 12, 13], [1, 2, 3, 4, 5, 6, 7, 8, 9, 10, 11, 12, 13, 14], [1, 2, 3, 4, 5, 6, 7, 8, 9, 10, 11, 12, 13, 14, 15], [], []] mixed (by kernel_rfl) (Nat.le_of_ble_eq_true rfl) (tmF := [.agg #[.int .i64 (size), .int .i64 (start), .slice a n c], .pointer (some ⟨b1, 0, none⟩), (y4 0), .int .i64 (cnt ds k), .int .i64 (((k : Nat) : Int)), .pointer (some ⟨b1, 2, none⟩), .slice a n c, .int .i64 (((n : Nat) : Int)), .bool (decide (40 < ((n : Nat) : Int))), .agg #[.int .i64 (size), .int .i64 (start), .slice a n c], .int .i64 (chk (size) (start) ds), .bool (decide (chk (size) (start) ds ≠ 0)), .int .i64 (((k : Nat) : Int)), .pointer (some ⟨b1, 2, none⟩), .slice a n c, .int .i64 (((n : Nat) : Int)), .bool (decide (((k : Nat) : Int) < ((n : Nat) : Int))), (y4 6), (y4 7), .int .i64 (cnt ds k), .pointer (some ⟨b1, 2, none⟩), .slice a n c, .int .i64 (((k : Nat) : Int)), .pointer (some ((adr a).add (k * 3))), .pointer (some ((adr a).add (k * 3))), .pointer (some (((adr a).add (k * 3)).add 1)), .int .i64 ((ds.getD k dz).hi), .pointer (some ⟨b1, 2, none⟩), .slice a n c, .int .i64 (((k : Nat) : Int)), .pointer (some ((adr a).add (k * 3))), .pointer (some ((adr a).add (k * 3))), .pointer (some ((adr a).add (k * 3))), .int .i64 ((ds.getD k dz).lo), .int .i64 (((ds.getD k dz).hi) - ((ds.getD k dz).lo)), .int .i64 ((((ds.getD k dz).hi) - ((ds.getD k dz).lo)) + 1), (y4 25), (y4 26), (y4 27)]) ?_ ?_
        · refine sw_det (met_none rfl) (fun h_ H_ => exd_move (v := .int .i64 (cnt ds k)) rfl) (tm' := _::_::_::_::_::_::_::_::_::_::_::_::_::_::_::_::_::_::_::_::_) rfl ?_
          refine sw_det (met_none rfl) (fun h_ H_ => exd_fieldAddr tF24_2 rfl (a' := ⟨b1, 2, none⟩) rfl) (tm' := _::_::_::_::_::_::_::_::_::_::_::_::_::_::_::_::_::_::_::_::_::_) rfl ?_
          refine sw_det (met_none rfl) (fun h_ H_ => exd_load_own H_ tA22 rfl (i := 0) rfl (v := .slice a n c) rfl) (tm' := _::_::_::_::_::_::_::_::_::_::_::_::_::_::_::_::_::_::_::_::_::_::_) rfl ?_
          refine sw_det (met_none rfl) (fun h_ H_ => exd_move (v := .int .i64 (((k : Nat) : Int))) rfl) (tm' := _::_::_::_::_::_::_::_::_::_::_::_::_::_::_::_::_::_::_::_::_::_::_::_) rfl ?_
          refine sw_det (met_none rfl) (fun h_ H_ => exd_indexAddrN (i := k) Try.underlying22 tS38 (sl_ne a n c (D.ne (by omega))) rfl (by omega)) (tm' := _::_::_::_::_::_::_::_::_::_::_::_::_::_::_::_::_::_::_::_::_::_::_::_::_) rfl ?_
          refine sw_det (met_none rfl) (fun h_ H_ => exd_fieldAddr tF38_0 rfl (a' := (adr a).add (k * 3)) rfl) (tm' := _::_::_::_::_::_::_::_::_::_::_::_::_::_::_::_::_::_::_::_::_::_::_::_::_::_) rfl ?_
          refine sw_det (met_none rfl) (fun h_ H_ => exd_fieldAddr tF36_1 rfl (a' := ((adr a).add (k * 3)).add 1) rfl) (tm' := _::_::_::_::_::_::_::_::_::_::_::_::_::_::_::_::_::_::_::_::_::_::_::_::_::_::_) rfl ?_
          refine sw_det (met_none rfl) (fun h_ H_ => exd_load_per H_ tA3 rfl (v := .int .i64 ((ds.getD k dz).hi)) (D.hi (by omega))) (tm' := [_,_,_,_,_,_,_,_,_,_,_,_,_,_,_,_,_,_,_,_,_,_,_,_,_,_,_,_,_,_,_,_,_,_,_,_,_,_,_]) rfl ?_
          refine sw_det (met_none rfl) (fun h_ H_ => exd_fieldAddr tF24_2 rfl (a' := ⟨b1, 2, none⟩) rfl) (tm' := [_,_,_,_,_,_,_,_,_,_,_,_,_,_,_,_,_,_,_,_,_,_,_,_,_,_,_,_,_,_,_,_,_,_,_,_,_,_,_]) rfl ?_
          refine sw_det (met_none rfl) (fun h_ H_ => exd_load_own H_ tA22 rfl (i := 0) rfl (v := .slice a n c) rfl) (tm' := [_,_,_,_,_,_,_,_,_,_,_,_,_,_,_,_,_,_,_,_,_,_,_,_,_,_,_,_,_,_,_,_,_,_,_,_,_,_,_]) rfl ?_
          refine sw_det (met_none rfl) (fun h_ H_ => exd_move (v := .int .i64 (((k : Nat) : Int))) rfl) (tm' := [_,_,_,_,_,_,_,_,_,_,_,_,_,_,_,_,_,_,_,_,_,_,_,_,_,_,_,_,_,_,_,_,_,_,_,_,_,_,_]) rfl ?_
          refine sw_det (met_none rfl) (fun h_ H_ => exd_indexAddrN (i := k) Try.underlying22 tS38 (sl_ne a n c (D.ne (by omega))) rfl (by omega)) (tm' := [_,_,_,_,_,_,_,_,_,_,_,_,_,_,_,_,_,_,_,_,_,_,_,_,_,_,_,_,_,_,_,_,_,_,_,_,_,_,_]) rfl ?_
          refine sw_det (met_none rfl) (fun h_ H_ => exd_fieldAddr tF38_0 rfl (a' := (adr a).add (k * 3)) rfl) (tm' := [_,_,_,_,_,_,_,_,_,_,_,_,_,_,_,_,_,_,_,_,_,_,_,_,_,_,_,_,_,_,_,_,_,_,_,_,_,_,_]) rfl ?_
          refine sw_det (met_none rfl) (fun h_ H_ => exd_fieldAddr tF36_0 rfl (a' := (adr a).add (k * 3)) rfl) (tm' := [_,_,_,_,_,_,_,_,_,_,_,_,_,_,_,_,_,_,_,_,_,_,_,_,_,_,_,_,_,_,_,_,_,_,_,_,_,_,_]) rfl ?_
          refine sw_det (met_none rfl) (fun h_ H_ => exd_load_per H_ tA3 rfl (v := .int .i64 ((ds.getD k dz).lo)) (D.lo (by omega))) (tm' := [_,_,_,_,_,_,_,_,_,_,_,_,_,_,_,_,_,_,_,_,_,_,_,_,_,_,_,_,_,_,_,_,_,_,_,_,_,_,_]) rfl ?_
          refine sw_det (met_none rfl) (fun h_ H_ => exd_sub rfl rfl (wr (by first | omega | exact mul_bound ⟨cnt_mono hOk.dok (by omega), hc⟩ (by omega)))) (tm' := [_,_,_,_,_,_,_,_,_,_,_,_,_,_,_,_,_,_,_,_,_,_,_,_,_,_,_,_,_,_,_,_,_,_,_,_,_,_,_]) rfl ?_
          refine sw_det (met_none rfl) (fun h_ H_ => exd_add rfl rfl (wr (by first | omega | exact mul_bound ⟨cnt_mono hOk.dok (by omega), hc⟩ (by omega)))) (tm' := [_,_,_,_,_,_,_,_,_,_,_,_,_,_,_,_,_,_,_,_,_,_,_,_,_,_,_,_,_,_,_,_,_,_,_,_,_,_,_]) rfl ?_
          exact sw_nil rfl rfl
        refine rl_det (met_none rfl) (fun h_ H_ => exd_mul rfl rfl (wr (by first | omega | exact mul_bound ⟨cnt_mono hOk.dok (by omega), hc⟩ (by omega)))) (tm' := [_,_,_,_,_,_,_,_,_,_,_,_,_,_,_,_,_,_,_,_,_,_,_,_,_,_,_,_,_,_,_,_,_,_,_,_,_,_,_]) rfl ?_
        refine rl_det (met_none rfl) (fun h_ H_ => exd_assign (v := .int .i64 ((cnt ds k) * ((((ds.getD k dz).hi) - ((ds.getD k dz).lo)) + 1))) rfl) (tm' := _::_::_::_::_) rfl ?_
        refine rl_end ?_
        refine fl_seq ?_
        refine rl_start ?_
        refine rl_det (met_none rfl) (fun h_ H_ => exd_move (v := .int .i64 ((cnt ds k) * ((((ds.getD k dz).hi) - ((ds.getD k dz).lo)) + 1))) rfl) (tm' := [_,_,_,_,_,_,_,_,_,_,_,_,_,_,_,_,_,_,_,_,_,_,_,_,_,_,_,_,_,_,_,_,_,_,_,_,_,_,_]) rfl ?_
        refine rl_det (met_none rfl) (fun h_ H_ => exd_gtr rfl rfl) (tm' := [_,_,_,_,_,_,_,_,_,_,_,_,_,_,_,_,_,_,_,_,_,_,_,_,_,_,_,_,_,_,_,_,_,_,_,_,_,_,_]) rfl ?_
        refine rl_end ?_
        by_cases c7 : 60 < (cnt ds k) * ((((ds.getD k dz).hi) - ((ds.getD k dz).lo)) + 1)
        · refine fl_then rfl (decide_eq_true c7) ?_
          refine fl_seq ?_
          refine rl_start ?_
          refine rl_det (met_none rfl) (fun h_ H_ => exd_assign (v := .bool (true)) rfl) (tm' := _::_::_::_) rfl ?_
          refine rl_end ?_
          refine fl_ret Try.func39 rfl (vs := [.bool (true)]) (fun h_ H_ => ⟨.bool (true), _, rfl, rfl, rfl⟩) (v := .bool (true)) rfl ?_
          exact fun h_ H_ => K _ _ ⟨by rw [decide_eq_true]; first | exact .inl (by omega) | exact .inr ⟨hOk, Int.lt_of_lt_of_le (show 60 < cnt ds (k + 1) from ‹_›) (by have := cnt_le hOk.dok (k := k + 1) (n - (k + 1)) (by omega); rwa [show k + 1 + (n - (k + 1)) = ds.length from by omega] at this)⟩, H_.kept⟩
        · refine fl_else rfl (decide_eq_false c7) ?_
          refine fl_skip ?_
          refine fl_inBlock ?_
          refine rl_start ?_
          refine rl_det (met_none rfl) (fun h_ H_ => exd_move (v := .int .i64 (((k : Nat) : Int))) rfl) (tm' := _::_::_::_::_::_::_::_::_::_::_::_::_::_::_::_::_::_::_) rfl ?_
          refine rl_det (met_none rfl) (fun h_ H_ => exd_add rfl rfl (n := ((k + 1 : Nat) : Int)) (wr (by omega))) (tm' := _::_::_::_::_::_::_::_::_::_::_::_::_::_::_::_::_::_::_::_) rfl ?_
          refine rl_det (met_none rfl) (fun h_ H_ => exd_assign (v := .int .i64 (((k + 1 : Nat) : Int))) rfl) (tm' := _::_::_::_::_::_) rfl ?_
          refine rl_end ?_
          exact fun h_ H_ => IH5 _ _ (by omega) h_ ⟨k + 1, (fun i_ => [(y4 0), .int .i64 (((k : Nat) : Int)), .pointer (some ⟨b1, 2, none⟩), .slice a n c, .int .i64 (((n : Nat) : Int)), .bool (decide (((k : Nat) : Int) < ((n : Nat) : Int))), .int .i64 (((k : Nat) : Int)), .int .i64 (((k + 1 : Nat) : Int)), .int .i64 (cnt ds k), .pointer (some ⟨b1, 2, none⟩), .slice a n c, .int .i64 (((k : Nat) : Int)), .pointer (some ((adr a).add (k * 3))), .pointer (some ((adr a).add (k * 3))), .pointer (some (((adr a).add (k * 3)).add 1)), .int .i64 ((ds.getD k dz).hi), .pointer (some ⟨b1, 2, none⟩), .slice a n c, .int .i64 (((k : Nat) : Int)), .pointer (some ((adr a).add (k * 3))), .pointer (some ((adr a).add (k * 3))), .pointer (some ((adr a).add (k * 3))), .int .i64 ((ds.getD k dz).lo), .int .i64 (((ds.getD k dz).hi) - ((ds.getD k dz).lo)), .int .i64 ((((ds.getD k dz).hi) - ((ds.getD k dz).lo)) + 1), .int .i64 ((cnt ds k) * ((((ds.getD k dz).hi) - ((ds.getD k dz).lo)) + 1)), .int .i64 ((cnt ds k) * ((((ds.getD k dz).hi) - ((ds.getD k dz).lo)) + 1)), .bool (decide (60 < (cnt ds k) * ((((ds.getD k dz).hi) - ((ds.getD k dz).lo)) + 1)))].getD i_ undef), rfl, rfl, (by omega), (show cnt ds (k + 1) ≤ 60 from Int.not_lt.1 ‹_›), H_⟩
      · refine fl_else rfl (decide_eq_false c6) ?_
        refine fl_exit rfl ?_
        refine fl_seq ?_
        refine rl_start ?_
        refine rl_det (met_none rfl) (fun h_ H_ => exd_assign (v := .bool (false)) rfl) (tm' := _::_::_::_) rfl ?_
        refine rl_end ?_
        refine fl_ret Try.func39 rfl (vs := [.bool (false)]) (fun h_ H_ => ⟨.bool (false), _, rfl, rfl, rfl⟩) (v := .bool (false)) rfl ?_
        exact fun h_ H_ => K _ _ ⟨by rw [decide_eq_false]; first | exact fun e => e.elim (fun e => by omega) (fun e => absurd (chk_yes e.1) ‹_›) | exact fun e => e.elim (fun e => by omega) (fun e => by have h2 := e.2; rw [hl, show n = k from by omega] at h2; omega), H_.kept⟩
end Go.Proofs.Ytbmkacnlhlbnjaa
namespace Go.Proofs.Ytbmkacnlhlbnjaa
open Go.X Go.X.Cist Go.Conc
set_option maxRecDepth 10000

theorem c16 (md : Md) (h : Heap) (p : PHeap) (hp : Per p h) (size start : Int) (a : Option Addr) (n c : Nat) (ds : List Day) (D : Days p a n ds) : CallsX Try.prog md 16 #[.agg #[.int .i64 (size), .int .i64 (start), .slice a n c]] h fun v h' => v = .bool (decide (ds.length ≤ 40 ∧ Ok size start ds)) ∧ Keep h h' := by
  refine calls_intro (Φ := fun h_ => St h [] p h_ []) Try.func16 rfl (tm := [_, _, _, _, _, _, _, _, _, _, _, _]) rfl ?_ (St.start h _ hp)
  intro c₀ cs Stop K
  have hl := D.len
  refine fl_seq ?_
  refine rl_start ?_
  refine rl_box (met_none rfl) (v := .agg #[.int .i64 (size), .int .i64 (start), .slice a n c]) rfl fun b1 => rl_own (L' := [(b1, .cells #[.int .i64 (size), .int .i64 (start), .slice a n c] 24 (0, 0))]) rfl ?_
  refine rl_norm (tm' := _::_::_) rfl ?_
  refine rl_det (met_none rfl) (fun h_ H_ => exd_assign (v := .bool (false)) rfl) (tm' := _::_::_::_) rfl ?_
  refine rl_end ?_
  refine fl_seq ?_
  refine rl_start ?_
  refine rl_det (met_none rfl) (fun h_ H_ => exd_fieldAddr tF24_2 rfl (a' := ⟨b1, 2, none⟩) rfl) (tm' := _::_::_::_::_) rfl ?_
  refine rl_det (met_none rfl) (fun h_ H_ => exd_load_own H_ tA22 rfl (i := 0) rfl (v := .slice a n c) rfl) (tm' := _::_::_::_::_::_) rfl ?_
  refine rl_det (met_none rfl) (fun h_ H_ => exd_len Try.underlying22 rfl) (tm' := _::_::_::_::_::_::_) rfl ?_
  refine rl_det (met_none rfl) (fun h_ H_ => exd_leq rfl rfl) (tm' := _::_::_::_::_::_::_::_) rfl ?_
  refine rl_det (met_none rfl) (fun h_ H_ => exd_move (v := .bool (decide (((n : Nat) : Int) ≤ 40))) rfl) (tm' := _::_::_::_::_::_::_::_::_) rfl ?_
  by_cases c2 : ((n : Nat) : Int) ≤ 40
  · refine rl_det (met_some rfl rfl (decide_eq_true c2)) (fun h_ H_ => exd_loadN_own H_ tA24 tS24 rfl (i := 0) rfl (vs := [.int .i64 (size), .int .i64 (start), .slice a n c]) rfl rfl) (tm' := [_,_,_,_,_,_,_,_,_,_,_,_]) rfl ?_
    refine rl_calld (met_some rfl rfl (decide_eq_true c2)) (first := []) (cap := []) rfl rfl fC33 (fun h_ H_ => c33 md _ _ (fun b_ o_ e_ => H_.per b_ o_ e_) (size) (start) _ _ _ _ D (by omega)) (tm' := [_,_,_,_,_,_,_,_,_,_,_,_]) rfl ?_
    refine rl_det (met_some rfl rfl (decide_eq_true c2)) (fun h_ H_ => exd_eql rfl rfl) (tm' := [_,_,_,_,_,_,_,_,_,_,_,_]) rfl ?_
    refine rl_det (met_none rfl) (fun h_ H_ => exd_pick_t rfl (decide_eq_true c2) (v := .bool (decide (chk (size) (start) ds = 0))) rfl) (tm' := [_,_,_,_,_,_,_,_,_,_,_,_]) rfl ?_
    refine rl_det (met_none rfl) (fun h_ H_ => exd_assign (v := .bool (decide (chk (size) (start) ds = 0))) rfl) (tm' := _::_::_::_) rfl ?_
    refine rl_end ?_
    refine fl_ret Try.func16 rfl (vs := [.bool (decide (chk (size) (start) ds = 0))]) (fun h_ H_ => ⟨.bool (decide (chk (size) (start) ds = 0)), _, rfl, rfl, rfl⟩) (v := .bool (decide (chk (size) (start) ds = 0))) rfl ?_
    exact fun h_ H_ => K _ _ ⟨by first | (rw [decide_eq_false]; omega) | (congr 1; rw [decide_eq_decide, chk_zero]; exact ⟨fun e => ⟨by omega, e⟩, fun e => e.2⟩), H_.kept⟩
  · refine rl_pass (met_not rfl rfl (decide_eq_false c2)) (tm' := [_,_,_,_,_,_,_,_,_,_,_,_]) rfl ?_
    refine rl_pass (met_not rfl rfl (decide_eq_false c2)) (tm' := [_,_,_,_,_,_,_,_,_,_,_,_]) rfl ?_
    refine rl_pass (met_not rfl rfl (decide_eq_false c2)) (tm' := [_,_,_,_,_,_,_,_,_,_,_,_]) rfl ?_
    refine rl_det (met_none rfl) (fun h_ H_ => exd_pick_f rfl (decide_eq_false c2) (v := .bool (false)) rfl) (tm' := [_,_,_,_,_,_,_,_,_,_,_,_]) rfl ?_
    refine rl_det (met_none rfl) (fun h_ H_ => exd_assign (v := .bool (false)) rfl) (tm' := _::_::_::_) rfl ?_
    refine rl_end ?_
    refine fl_ret Try.func16 rfl (vs := [.bool (false)]) (fun h_ H_ => ⟨.bool (false), _, rfl, rfl, rfl⟩) (v := .bool (false)) rfl ?_
    exact fun h_ H_ => K _ _ ⟨by first | (rw [decide_eq_false]; omega) | (congr 1; rw [decide_eq_decide, chk_zero]; exact ⟨fun e => ⟨by omega, e⟩, fun e => e.2⟩), H_.kept⟩
theorem c21 (md : Md) (h : Heap) (p : PHeap) (hp : Per p h) (size start : Int) (a : Option Addr) (n c : Nat) (ds : List Day) (D : Days p a n ds) : CallsX Try.prog md 21 #[.agg #[.int .i64 (size), .int .i64 (start), .slice a n c]] h fun v h' => v = .bool (decide (¬ FarD size start ds ∧ ds.length ≤ 40 ∧ Ok size start ds)) ∧ Keep h h' := by
  refine calls_intro (Φ := fun h_ => St h [] p h_ []) Try.func21 rfl (tm := [_, _, _, _, _, _, _, _, _, _]) rfl ?_ (St.start h _ hp)
  intro c₀ cs Stop K
  refine fl_seq ?_
  refine rl_start ?_
  refine rl_box (met_none rfl) (v := .agg #[.int .i64 (size), .int .i64 (start), .slice a n c]) rfl fun b1 => rl_own (L' := [(b1, .cells #[.int .i64 (size), .int .i64 (start), .slice a n c] 24 (0, 0))]) rfl ?_
  refine rl_norm (tm' := _::_::_) rfl ?_
  refine rl_det (met_none rfl) (fun h_ H_ => exd_assign (v := .bool (false)) rfl) (tm' := _::_::_::_) rfl ?_
  refine rl_end ?_
  refine fl_seq ?_
  refine rl_start ?_
  refine rl_det (met_none rfl) (fun h_ H_ => exd_loadN_own H_ tA24 tS24 rfl (i := 0) rfl (vs := [.int .i64 (size), .int .i64 (start), .slice a n c]) rfl rfl) (tm' := _::_::_::_::_) rfl ?_
  refine rl_calld (met_none rfl) (first := []) (cap := []) rfl rfl fC39 (fun h_ H_ => c39 md _ _ (fun b_ o_ e_ => H_.per b_ o_ e_) (size) (start) _ _ _ _ D) (tm' := _::_::_::_::_::_) rfl ?_
  refine rl_det (met_none rfl) (fun h_ H_ => exd_not rfl) (tm' := _::_::_::_::_::_::_) rfl ?_
  refine rl_det (met_none rfl) (fun h_ H_ => exd_move (v := .bool (!(decide (FarD size start ds)))) rfl) (tm' := [_,_,_,_,_,_,_,_,_,_]) rfl ?_
  by_cases c2 : FarD size start ds
  · refine rl_pass (met_not rfl rfl (not_f (decide_eq_true c2))) (tm' := [_,_,_,_,_,_,_,_,_,_]) rfl ?_
    refine rl_pass (met_not rfl rfl (not_f (decide_eq_true c2))) (tm' := [_,_,_,_,_,_,_,_,_,_]) rfl ?_
    refine rl_det (met_none rfl) (fun h_ H_ => exd_pick_f rfl (not_f (decide_eq_true c2)) (v := .bool (false)) rfl) (tm' := [_,_,_,_,_,_,_,_,_,_]) rfl ?_
    refine rl_det (met_none rfl) (fun h_ H_ => exd_assign (v := .bool (false)) rfl) (tm' := _::_::_::_) rfl ?_
    refine rl_end ?_
    refine fl_ret Try.func21 rfl (vs := [.bool (false)]) (fun h_ H_ => ⟨.bool (false), _, rfl, rfl, rfl⟩) (v := .bool (false)) rfl ?_
    exact fun h_ H_ => K _ _ ⟨by simp [*], H_.kept⟩
  · refine rl_det (met_some rfl rfl (not_t (decide_eq_false c2))) (fun h_ H_ => exd_loadN_own H_ tA24 tS24 rfl (i := 0) rfl (vs := [.int .i64 (size), .int .i64 (start), .slice a n c]) rfl rfl) (tm' := [_,_,_,_,_,_,_,_,_,_]) rfl ?_
    refine rl_calld (met_some rfl rfl (not_t (decide_eq_false c2))) (first := []) (cap := []) rfl rfl fC16 (fun h_ H_ => c16 md _ _ (fun b_ o_ e_ => H_.per b_ o_ e_) (size) (start) _ _ _ _ D) (tm' := [_,_,_,_,_,_,_,_,_,_]) rfl ?_
    refine rl_det (met_none rfl) (fun h_ H_ => exd_pick_t rfl (not_t (decide_eq_false c2)) (v := .bool (decide (ds.length ≤ 40 ∧ Ok size start ds))) rfl) (tm' := [_,_,_,_,_,_,_,_,_,_]) rfl ?_
    refine rl_det (met_none rfl) (fun h_ H_ => exd_assign (v := .bool (decide (ds.length ≤ 40 ∧ Ok size start ds))) rfl) (tm' := _::_::_::_) rfl ?_
    refine rl_end ?_
    refine fl_ret Try.func21 rfl (vs := [.bool (decide (ds.length ≤ 40 ∧ Ok size start ds))]) (fun h_ H_ => ⟨.bool (decide (ds.length ≤ 40 ∧ Ok size start ds)), _, rfl, rfl, rfl⟩) (v := .bool (decide (ds.length ≤ 40 ∧ Ok size start ds))) rfl ?_
    exact fun h_ H_ => K _ _ ⟨by simp [*], H_.kept⟩
end Go.Proofs.Ytbmkacnlhlbnjaa
