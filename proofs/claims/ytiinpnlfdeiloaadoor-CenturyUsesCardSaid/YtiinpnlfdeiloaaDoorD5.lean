/-
  Part of proofs about the century: a lone run, and what it computes. No condition.
-/
import Derived.Test.YtiinpnlfdeiloaaDoorD2
import Derived.Test.YtiinpnlfdeiloaaDoorD4
namespace Go.Proofs.YtiinpnlfdeiloaaDoor
open Go.X Go.X.Cent Go.Conc
set_option maxRecDepth 10000
set_option synthInstance.maxSize 2000
set_option synthInstance.maxHeartbeats 400000

set_option maxHeartbeats 1000000
theorem c39 (md : Md) (h : Heap) (s : By) (hs : s.length ≤ 2 ^ 60) : CallsX Tryd.prog md 39 #[sv s] h fun v h' => ∃ w X, v = .tuple #[w, .int .i64 (readR s).1] ∧ OwnS 9 1 w (scs (readR s).2) X ∧ New h h' X := by
  refine calls_intro (Φ := fun h_ => St h [] (fun _ => none) h_ []) Tryd.func39 rfl (tm := [_, _, _, _, _, _, _, _, _, _, _, _, _, _, _, _, _, _, _, _, _, _, _, _, _, _, _, _, _, _, _, _, _, _, _, _, _, _, _, _, _, _, _, _, _, _]) rfl ?_ (St.start h _ (fun _ _ e => by cases e))
  intro c₀ cs Stop K
  refine fl_seq ?_
  refine rl_start ?_
  refine rl_det (met_none rfl) (fun h_ H_ => exd_assign (v := .slice none 0 0) rfl) rfl ?_
  refine rl_det (met_none rfl) (fun h_ H_ => exd_assign (v := .int .i64 0) rfl) rfl ?_
  refine rl_end ?_
  refine fl_seq ?_
  refine rl_start ?_
  refine rl_det (met_none rfl) (fun h_ H_ => exd_move (v := sv s) rfl) (tm' := _::_::_::_::_::_::_::_::_::_::_::_::_) rfl ?_
  refine rl_own (L' := ([] : Pcs) ++ []) rfl ?_
  refine rl_call (met_none rfl) (first := []) (cap := []) rfl rfl fC38 (R := fun v_ h_ => ∃ w1 : Value, ∃ X2 : Pcs, v_ = .tuple #[w1, .int .i64 (perR s)] ∧ (OwnS 60 2 w1 (pies (parseR s)) X2) ∧ St h [] (fun _ => none) h_ (([] : Pcs) ++ (X2 ++ []))) (fun h_ H_ => (c38 md _ s (by omega)).mono fun v_ h2_ ⟨w1, X2, e_, o3, N_⟩ => ⟨w1, X2, e_, o3, H_.callNA N_⟩) fun v_ => ?_
  refine rl_ex fun w1 => rl_ex fun X2 => rl_and fun ev_ => rl_and fun o3 => ?_
  have ev_ := ev_.symm; subst ev_
  refine rl_own (L' := ([] : Pcs) ++ (X2 ++ [])) rfl ?_
  refine rl_det (met_none rfl) (fun h_ H_ => exd_move (v := .tuple #[w1, .int .i64 (perR s)]) rfl) rfl ?_
  refine rl_det (met_none rfl) (fun h_ H_ => exd_extract rfl (v := w1) rfl) (tm' := _::_::_::_::_::_::_::_::_::_::_::_::_::_::_) rfl ?_
  refine rl_det (met_none rfl) (fun h_ H_ => exd_extract rfl (v := .int .i64 (perR s)) rfl) rfl ?_
  refine rl_det (met_none rfl) (fun h_ H_ => exd_assign (v := w1) rfl) rfl ?_
  refine rl_det (met_none rfl) (fun h_ H_ => exd_assign (v := .int .i64 (perR s)) rfl) (tm' := _::_::_::_::_::_::_) rfl ?_
  refine rl_end ?_
  refine fl_seq ?_
  refine fl_seq ?_
  refine rl_start ?_
  refine rl_det (met_none rfl) (fun h_ H_ => exd_move (v := .int .i64 (perR s)) rfl) rfl ?_
  refine rl_det (met_none rfl) (fun h_ H_ => exd_neq rfl rfl) rfl ?_
  refine rl_end ?_
  by_cases cc4 : perR s ≠ 0
  · refine fl_then rfl (decide_eq_true cc4) ?_
    refine fl_seq ?_
    refine rl_start ?_
    refine rl_det (met_none rfl) (fun h_ H_ => exd_move (v := .int .i64 (perR s)) rfl) (tm' := _::_::_::_::_::_::_::_::_::_::_::_::_::_::_::_::_::_::_) rfl ?_
    refine rl_det (met_none rfl) (fun h_ H_ => exd_assign (v := .slice none 0 0) rfl) rfl ?_
    refine rl_det (met_none rfl) (fun h_ H_ => exd_assign (v := .int .i64 (perR s)) rfl) rfl ?_
    refine rl_end ?_
    refine fl_ret Tryd.func39 rfl (vs := [.slice none 0 0, .int .i64 (perR s)]) (fun h_ H_ => ⟨.slice none 0 0, _, rfl, rfl, ⟨.int .i64 (perR s), _, rfl, rfl, rfl⟩⟩) (v := .tuple #[.slice none 0 0, .int .i64 (perR s)]) rfl ?_
    have hb := per_no ‹perR s ≠ 0›
    have hN : readR s = (140, []) := by rw [readR, if_pos hb]
    have hp140 : perR s = 140 := by rw [perR, if_neg hb]
    exact fun h_ H_ => K _ _ ⟨.slice none 0 0, [], by rw [hN, hp140], by rw [hN]; exact OwnS.empty _ _, (H_.sub (List.nil_sublist _)).new⟩
  · refine fl_else rfl (decide_eq_false cc4) ?_
    refine fl_skip ?_
    refine fl_seq ?_
    refine fl_seq ?_
    have hB := per_ok ‹¬ perR s ≠ 0›
    refine rl_start ?_
    refine rl_det (met_none rfl) (fun h_ H_ => exd_move (v := sv s) rfl) (tm' := _::_::_::_::_::_::_::_::_::_::_::_::_::_::_::_::_::_::_::_::_) rfl ?_
    refine rl_calld (met_none rfl) (first := []) (cap := []) rfl rfl fC36 (fun h_ H_ => c36 md _ s (by omega)) rfl ?_
    refine rl_det (met_none rfl) (fun h_ H_ => exd_move (v := .tuple #[sv (bodyB s), .bool (decide (bodyOk s))]) rfl) rfl ?_
    refine rl_det (met_none rfl) (fun h_ H_ => exd_extract rfl (v := sv (bodyB s)) rfl) (tm' := _::_::_::_::_::_::_::_::_::_::_::_::_::_::_::_::_::_::_::_::_::_::_) rfl ?_
    refine rl_det (met_none rfl) (fun h_ H_ => exd_extract rfl (v := .bool (decide (bodyOk s))) rfl) rfl ?_
    refine rl_det (met_none rfl) (fun h_ H_ => exd_assign (v := sv (bodyB s)) rfl) rfl ?_
    refine rl_det (met_none rfl) (fun h_ H_ => exd_assign (v := .bool (decide (bodyOk s))) rfl) (tm' := _::_::_::_::_::_::_::_::_) rfl ?_
    refine rl_end ?_
    refine fl_seq ?_
    refine rl_start ?_
    refine rl_det (met_none rfl) (fun h_ H_ => exd_move (v := sv (bodyB s)) rfl) rfl ?_
    refine rl_calld (met_none rfl) (first := []) (cap := []) rfl rfl fC32 (fun h_ H_ => c32 md _ (bodyB s) (by have := body_len hB; have := hB.2.1; omega)) rfl ?_
    refine rl_det (met_none rfl) (fun h_ H_ => exd_move (v := sv s) rfl) (tm' := _::_::_::_::_::_::_::_::_::_::_::_::_::_::_::_::_::_::_::_::_::_::_::_::_::_::_) rfl ?_
    refine rl_det (met_none rfl) (fun h_ H_ => exd_neqS (l := sealB (bodyB s)) (m := s) rfl rfl) rfl ?_
    refine rl_end ?_
    by_cases cc5 : sealB (bodyB s) = s
    · refine fl_else rfl (not_f (decide_eq_true cc5)) ?_
      refine fl_skip ?_
      refine fl_seq ?_
      refine rl_start ?_
      refine rl_det (met_none rfl) (fun h_ H_ => exd_move (v := w1) rfl) rfl ?_
      refine rl_call (met_none rfl) (first := []) (cap := []) rfl rfl fC66 (R := fun v_ h_ => ∃ w6 : Value, ∃ X7 : Pcs, v_ = .tuple #[w6, .bool ((texR (parseR s)).2)] ∧ (OwnS 9 1 w6 (scs (texR (parseR s)).1) X7) ∧ St h [] (fun _ => none) h_ (([] : Pcs) ++ (X7 ++ (X2 ++ [])))) (fun h_ H_ => (c66o md o3 H_ (fun x_ h_ => by simp [h_]) (parseR_ok s).1 (parseR_ok s).2).mono fun v_ h2_ ⟨w6, X7, e_, o8, N_⟩ => ⟨w6, X7, e_, o8, H_.callNA N_⟩) fun v_ => ?_
      refine rl_ex fun w6 => rl_ex fun X7 => rl_and fun ev_ => rl_and fun o8 => ?_
      have ev_ := ev_.symm; subst ev_
      refine rl_own (L' := ([] : Pcs) ++ (X7 ++ (X2 ++ []))) rfl ?_
      refine rl_norm (tm' := _::_::_::_::_::_::_::_::_::_::_::_::_::_::_::_::_::_::_::_::_::_::_::_::_::_::_::_::_::_::_) rfl ?_
      refine rl_det (met_none rfl) (fun h_ H_ => exd_move (v := .tuple #[w6, .bool ((texR (parseR s)).2)]) rfl) rfl ?_
      refine rl_det (met_none rfl) (fun h_ H_ => exd_extract rfl (v := w6) rfl) rfl ?_
      refine rl_det (met_none rfl) (fun h_ H_ => exd_extract rfl (v := .bool ((texR (parseR s)).2)) rfl) (tm' := [_,_,_,_,_,_,_,_,_,_,_,_,_,_,_,_,_,_,_,_,_,_,_,_,_,_,_,_,_,_,_,_,_,_,_,_,_,_,_,_,_,_,_,_,_,_]) rfl ?_
      refine rl_det (met_none rfl) (fun h_ H_ => exd_assign (v := w6) rfl) rfl ?_
      refine rl_det (met_none rfl) (fun h_ H_ => exd_assign (v := .bool ((texR (parseR s)).2)) rfl) rfl ?_
      refine rl_end ?_
      refine fl_seq ?_
      refine fl_seq ?_
      refine rl_start ?_
      refine rl_det (met_none rfl) (fun h_ H_ => exd_move (v := .bool ((texR (parseR s)).2)) rfl) (tm' := [_,_,_,_,_,_,_,_,_,_,_,_,_,_,_,_,_,_,_,_,_,_,_,_,_,_,_,_,_,_,_,_,_,_,_,_,_,_,_,_,_,_,_,_,_,_]) rfl ?_
      refine rl_det (met_none rfl) (fun h_ H_ => exd_not rfl) rfl ?_
      refine rl_det (met_none rfl) (fun h_ H_ => exd_move (v := .bool (!((texR (parseR s)).2))) rfl) rfl ?_
      rcases bcases ((texR (parseR s)).2) with cc9 | cc9
      · refine rl_det (met_some rfl rfl (not_f cc9)) (fun h_ H_ => exd_move (v := w6) rfl) (tm' := [_,_,_,_,_,_,_,_,_,_,_,_,_,_,_,_,_,_,_,_,_,_,_,_,_,_,_,_,_,_,_,_,_,_,_,_,_,_,_,_,_,_,_,_,_,_]) rfl ?_
        refine rl_calld (met_some rfl rfl (not_f cc9)) (first := []) (cap := []) rfl rfl fC51 (fun h_ H_ => lend_to (n := ((texR (parseR s)).1).length) o8 (scs_length _) H_ (fun x_ h_ => by simp [h_]) fun p_ a_ c_ hp_ _ hv_ D_ => by rw [hv_]; exact c51 md _ _ hp_ a_ _ c_ _ D_ (by have := tex_len (parseR_ok s).1; omega) (fun i_ hi_ => by have := (tex_len (parseR_ok s).1).1 _ (gmem (d := []) hi_); omega)) rfl ?_
        refine rl_det (met_some rfl rfl (not_f cc9)) (fun h_ H_ => exd_neq rfl rfl) rfl ?_
        refine rl_det (met_none rfl) (fun h_ H_ => exd_pick_f rfl (not_f cc9) (v := .bool (decide (chkT ((texR (parseR s)).1) ≠ 0))) rfl) (tm' := [_,_,_,_,_,_,_,_,_,_,_,_,_,_,_,_,_,_,_,_,_,_,_,_,_,_,_,_,_,_,_,_,_,_,_,_,_,_,_,_,_,_,_,_,_,_]) rfl ?_
        refine rl_det (met_none rfl) (fun h_ H_ => exd_move (v := .bool (decide (chkT ((texR (parseR s)).1) ≠ 0))) rfl) rfl ?_
        by_cases cc10 : chkT ((texR (parseR s)).1) ≠ 0
        · refine rl_pass (met_not rfl rfl (decide_eq_true cc10)) rfl ?_
          refine rl_pass (met_not rfl rfl (decide_eq_true cc10)) (tm' := [_,_,_,_,_,_,_,_,_,_,_,_,_,_,_,_,_,_,_,_,_,_,_,_,_,_,_,_,_,_,_,_,_,_,_,_,_,_,_,_,_,_,_,_,_,_]) rfl ?_
          refine rl_pass (met_not rfl rfl (decide_eq_true cc10)) rfl ?_
          refine rl_pass (met_not rfl rfl (decide_eq_true cc10)) rfl ?_
          refine rl_det (met_none rfl) (fun h_ H_ => exd_pick_t rfl (decide_eq_true cc10) (v := .bool (true)) rfl) (tm' := [_,_,_,_,_,_,_,_,_,_,_,_,_,_,_,_,_,_,_,_,_,_,_,_,_,_,_,_,_,_,_,_,_,_,_,_,_,_,_,_,_,_,_,_,_,_]) rfl ?_
          refine rl_end ?_
          refine fl_then rfl rfl ?_
          refine fl_seq ?_
          refine rl_start ?_
          refine rl_det (met_none rfl) (fun h_ H_ => exd_assign (v := .slice none 0 0) rfl) rfl ?_
          refine rl_det (met_none rfl) (fun h_ H_ => exd_assign (v := .int .i64 142) rfl) rfl ?_
          refine rl_end ?_
          refine fl_ret Tryd.func39 rfl (vs := [.slice none 0 0, .int .i64 142]) (fun h_ H_ => ⟨.slice none 0 0, _, rfl, rfl, ⟨.int .i64 142, _, rfl, rfl, rfl⟩⟩) (v := .tuple #[.slice none 0 0, .int .i64 142]) rfl ?_
          have hN : readR s = (142, []) := by rw [readR, if_neg (fun z => z hB), if_neg (fun z => z ‹_›), if_pos (by first | exact .inl ‹_› | exact .inr (.inl ‹_›) | exact .inr (.inr ‹_›))]
          exact fun h_ H_ => K _ _ ⟨.slice none 0 0, [], by rw [hN], by rw [hN]; exact OwnS.empty _ _, (H_.sub (List.nil_sublist _)).new⟩
        · refine rl_det (met_some rfl rfl (decide_eq_false cc10)) (fun h_ H_ => exd_move (v := w6) rfl) (tm' := [_,_,_,_,_,_,_,_,_,_,_,_,_,_,_,_,_,_,_,_,_,_,_,_,_,_,_,_,_,_,_,_,_,_,_,_,_,_,_,_,_,_,_,_,_,_]) rfl ?_
          refine rl_calld (met_some rfl rfl (decide_eq_false cc10)) (first := []) (cap := []) rfl rfl fC67 (fun h_ H_ => lend_to (n := ((texR (parseR s)).1).length) o8 (scs_length _) H_ (fun x_ h_ => by simp [h_]) fun p_ a_ c_ hp_ _ hv_ D_ => by rw [hv_]; exact c67 md _ _ hp_ a_ _ c_ _ D_ (by have g_ := chk_good (Decidable.not_not.1 ‹¬ chkT (texR (parseR s)).1 ≠ 0›); exact (g_.1)) (by have g_ := chk_good (Decidable.not_not.1 ‹¬ chkT (texR (parseR s)).1 ≠ 0›); exact (fun t z => (g_.2 t z).1))) rfl ?_
          refine rl_det (met_some rfl rfl (decide_eq_false cc10)) (fun h_ H_ => exd_move (v := sv s) rfl) rfl ?_
          refine rl_det (met_some rfl rfl (decide_eq_false cc10)) (fun h_ H_ => exd_neqS (l := fileB ((texR (parseR s)).1)) (m := s) rfl rfl) (tm' := [_,_,_,_,_,_,_,_,_,_,_,_,_,_,_,_,_,_,_,_,_,_,_,_,_,_,_,_,_,_,_,_,_,_,_,_,_,_,_,_,_,_,_,_,_,_]) rfl ?_
          refine rl_det (met_none rfl) (fun h_ H_ => exd_pick_f rfl (decide_eq_false cc10) (v := .bool (!decide (fileB ((texR (parseR s)).1) = s))) rfl) rfl ?_
          refine rl_end ?_
          by_cases cc11 : fileB ((texR (parseR s)).1) = s
          · refine fl_else rfl (not_f (decide_eq_true cc11)) ?_
            refine fl_skip ?_
            refine fl_seq ?_
            refine rl_start ?_
            refine rl_det (met_none rfl) (fun h_ H_ => exd_move (v := w6) rfl) rfl ?_
            refine rl_det (met_none rfl) (fun h_ H_ => exd_assign (v := w6) rfl) (tm' := _::_::_::_) rfl ?_
            refine rl_det (met_none rfl) (fun h_ H_ => exd_assign (v := .int .i64 0) rfl) rfl ?_
            refine rl_end ?_
            refine fl_ret Tryd.func39 rfl (vs := [w6, .int .i64 0]) (fun h_ H_ => ⟨w6, _, rfl, rfl, ⟨.int .i64 0, _, rfl, rfl, rfl⟩⟩) (v := .tuple #[w6, .int .i64 0]) rfl ?_
            have hN : readR s = (0, (texR (parseR s)).1) := by rw [readR, if_neg (fun z => z hB), if_neg (fun z => z ‹_›), if_neg (fun z => z.elim (fun y => absurd (y.symm.trans ‹(texR (parseR s)).2 = true›) (by decide)) (fun y => y.elim (fun u => ‹¬ chkT (texR (parseR s)).1 ≠ 0› u) (fun u => u ‹_›)))]
            exact fun h_ H_ => K _ _ ⟨_, _, by rw [hN], by rw [hN]; exact o8, (H_.sub (by simp)).new⟩
          · refine fl_then rfl (not_t (decide_eq_false cc11)) ?_
            refine fl_seq ?_
            refine rl_start ?_
            refine rl_det (met_none rfl) (fun h_ H_ => exd_assign (v := .slice none 0 0) rfl) rfl ?_
            refine rl_det (met_none rfl) (fun h_ H_ => exd_assign (v := .int .i64 142) rfl) (tm' := _::_::_::_::_) rfl ?_
            refine rl_end ?_
            refine fl_ret Tryd.func39 rfl (vs := [.slice none 0 0, .int .i64 142]) (fun h_ H_ => ⟨.slice none 0 0, _, rfl, rfl, ⟨.int .i64 142, _, rfl, rfl, rfl⟩⟩) (v := .tuple #[.slice none 0 0, .int .i64 142]) rfl ?_
            have hN : readR s = (142, []) := by rw [readR, if_neg (fun z => z hB), if_neg (fun z => z ‹_›), if_pos (by first | exact .inl ‹_› | exact .inr (.inl ‹_›) | exact .inr (.inr ‹_›))]
            exact fun h_ H_ => K _ _ ⟨.slice none 0 0, [], by rw [hN], by rw [hN]; exact OwnS.empty _ _, (H_.sub (List.nil_sublist _)).new⟩
      · refine rl_pass (met_not rfl rfl (not_t cc9)) rfl ?_
        refine rl_pass (met_not rfl rfl (not_t cc9)) rfl ?_
        refine rl_pass (met_not rfl rfl (not_t cc9)) (tm' := [_,_,_,_,_,_,_,_,_,_,_,_,_,_,_,_,_,_,_,_,_,_,_,_,_,_,_,_,_,_,_,_,_,_,_,_,_,_,_,_,_,_,_,_,_,_]) rfl ?_
        refine rl_det (met_none rfl) (fun h_ H_ => exd_pick_t rfl (not_t cc9) (v := .bool (true)) rfl) rfl ?_
        refine rl_det (met_none rfl) (fun h_ H_ => exd_move (v := .bool (true)) rfl) rfl ?_
        refine rl_pass (met_not rfl rfl rfl) (tm' := [_,_,_,_,_,_,_,_,_,_,_,_,_,_,_,_,_,_,_,_,_,_,_,_,_,_,_,_,_,_,_,_,_,_,_,_,_,_,_,_,_,_,_,_,_,_]) rfl ?_
        refine rl_pass (met_not rfl rfl rfl) rfl ?_
        refine rl_pass (met_not rfl rfl rfl) rfl ?_
        refine rl_pass (met_not rfl rfl rfl) (tm' := [_,_,_,_,_,_,_,_,_,_,_,_,_,_,_,_,_,_,_,_,_,_,_,_,_,_,_,_,_,_,_,_,_,_,_,_,_,_,_,_,_,_,_,_,_,_]) rfl ?_
        refine rl_det (met_none rfl) (fun h_ H_ => exd_pick_t rfl rfl (v := .bool (true)) rfl) rfl ?_
        refine rl_end ?_
        refine fl_then rfl rfl ?_
        refine fl_seq ?_
        refine rl_start ?_
        refine rl_det (met_none rfl) (fun h_ H_ => exd_assign (v := .slice none 0 0) rfl) rfl ?_
        refine rl_det (met_none rfl) (fun h_ H_ => exd_assign (v := .int .i64 142) rfl) (tm' := _::_::_::_::_) rfl ?_
        refine rl_end ?_
        refine fl_ret Tryd.func39 rfl (vs := [.slice none 0 0, .int .i64 142]) (fun h_ H_ => ⟨.slice none 0 0, _, rfl, rfl, ⟨.int .i64 142, _, rfl, rfl, rfl⟩⟩) (v := .tuple #[.slice none 0 0, .int .i64 142]) rfl ?_
        have hN : readR s = (142, []) := by rw [readR, if_neg (fun z => z hB), if_neg (fun z => z ‹_›), if_pos (by first | exact .inl ‹_› | exact .inr (.inl ‹_›) | exact .inr (.inr ‹_›))]
        exact fun h_ H_ => K _ _ ⟨.slice none 0 0, [], by rw [hN], by rw [hN]; exact OwnS.empty _ _, (H_.sub (List.nil_sublist _)).new⟩
    · refine fl_then rfl (not_t (decide_eq_false cc5)) ?_
      refine fl_seq ?_
      refine rl_start ?_
      refine rl_det (met_none rfl) (fun h_ H_ => exd_assign (v := .slice none 0 0) rfl) rfl ?_
      refine rl_det (met_none rfl) (fun h_ H_ => exd_assign (v := .int .i64 141) rfl) rfl ?_
      refine rl_end ?_
      refine fl_ret Tryd.func39 rfl (vs := [.slice none 0 0, .int .i64 141]) (fun h_ H_ => ⟨.slice none 0 0, _, rfl, rfl, ⟨.int .i64 141, _, rfl, rfl, rfl⟩⟩) (v := .tuple #[.slice none 0 0, .int .i64 141]) rfl ?_
      have hN : readR s = (141, []) := by rw [readR, if_neg (fun z => z hB), if_pos ‹_›]
      exact fun h_ H_ => K _ _ ⟨.slice none 0 0, [], by rw [hN], by rw [hN]; exact OwnS.empty _ _, (H_.sub (List.nil_sublist _)).new⟩
theorem c40 (md : Md) (h : Heap) (s : By) (hs : s.length ≤ 2 ^ 60) : CallsX Tryd.prog md 40 #[sv s] h fun v h' => v = .int .i64 (stateR s) ∧ Keep h h' := by
  refine calls_intro (Φ := fun h_ => St h [] (fun _ => none) h_ []) Tryd.func40 rfl (tm := [_, _, _, _, _, _, _, _, _, _, _, _, _, _, _, _, _]) rfl ?_ (St.start h _ (fun _ _ e => by cases e))
  intro c₀ cs Stop K
  refine fl_seq ?_
  refine rl_start ?_
  refine rl_det (met_none rfl) (fun h_ H_ => exd_assign (v := .int .i64 0) rfl) (tm' := _::_::_::_) rfl ?_
  refine rl_end ?_
  refine fl_seq ?_
  refine rl_start ?_
  refine rl_det (met_none rfl) (fun h_ H_ => exd_move (v := sv s) rfl) rfl ?_
  refine rl_own (L' := ([] : Pcs) ++ []) rfl ?_
  refine rl_call (met_none rfl) (first := []) (cap := []) rfl rfl fC39 (R := fun v_ h_ => ∃ w1 : Value, ∃ X2 : Pcs, v_ = .tuple #[w1, .int .i64 ((readR s).1)] ∧ (OwnS 9 1 w1 (scs (readR s).2) X2) ∧ St h [] (fun _ => none) h_ (([] : Pcs) ++ (X2 ++ []))) (fun h_ H_ => (c39 md _ s (by omega)).mono fun v_ h2_ ⟨w1, X2, e_, o3, N_⟩ => ⟨w1, X2, e_, o3, H_.callNA N_⟩) fun v_ => ?_
  refine rl_ex fun w1 => rl_ex fun X2 => rl_and fun ev_ => rl_and fun o3 => ?_
  have ev_ := ev_.symm; subst ev_
  refine rl_own (L' := ([] : Pcs) ++ (X2 ++ [])) rfl ?_
  refine rl_det (met_none rfl) (fun h_ H_ => exd_move (v := .tuple #[w1, .int .i64 ((readR s).1)]) rfl) (tm' := _::_::_::_::_::_::_) rfl ?_
  refine rl_det (met_none rfl) (fun h_ H_ => exd_extract rfl (v := w1) rfl) rfl ?_
  refine rl_det (met_none rfl) (fun h_ H_ => exd_extract rfl (v := .int .i64 ((readR s).1)) rfl) rfl ?_
  refine rl_det (met_none rfl) (fun h_ H_ => exd_assign (v := w1) rfl) (tm' := _::_::_::_::_) rfl ?_
  refine rl_det (met_none rfl) (fun h_ H_ => exd_assign (v := .int .i64 ((readR s).1)) rfl) rfl ?_
  refine rl_end ?_
  refine fl_seq ?_
  refine fl_seq ?_
  refine rl_start ?_
  refine rl_det (met_none rfl) (fun h_ H_ => exd_move (v := .int .i64 ((readR s).1)) rfl) rfl ?_
  refine rl_end ?_
  refine fl_block ?_
  refine fl_seq ?_
  refine rl_start ?_
  refine rl_det (met_none rfl) (fun h_ H_ => exd_eql rfl rfl) (tm' := [_,_,_,_,_,_,_,_,_,_,_,_,_,_,_,_,_]) rfl ?_
  refine rl_det (met_none rfl) (fun h_ H_ => exd_assign (v := .bool (decide ((readR s).1 = 140))) rfl) rfl ?_
  refine rl_end ?_
  by_cases cc4 : (readR s).1 = 140
  · refine fl_then rfl (decide_eq_true cc4) ?_
    refine fl_seq ?_
    refine rl_start ?_
    refine rl_det (met_none rfl) (fun h_ H_ => exd_assign (v := .int .i64 2) rfl) rfl ?_
    refine rl_end ?_
    refine fl_ret Tryd.func40 rfl (vs := [.int .i64 2]) (fun h_ H_ => ⟨.int .i64 2, _, rfl, rfl, rfl⟩) (v := .int .i64 2) rfl ?_
    exact fun h_ H_ => K _ _ ⟨by unfold stateR; first | rw [if_pos ‹_›] | rw [if_neg ‹_›, if_pos ‹_›] | rw [if_neg ‹_›, if_neg ‹_›, if_pos ‹_›] | rw [if_neg ‹_›, if_neg ‹_›, if_neg ‹_›], H_.kept⟩
  · refine fl_else rfl (decide_eq_false cc4) ?_
    refine fl_seq ?_
    refine rl_start ?_
    refine rl_det (met_none rfl) (fun h_ H_ => exd_eql rfl rfl) (tm' := [_,_,_,_,_,_,_,_,_,_,_,_,_,_,_,_,_]) rfl ?_
    refine rl_det (met_none rfl) (fun h_ H_ => exd_assign (v := .bool (decide ((readR s).1 = 141))) rfl) rfl ?_
    refine rl_end ?_
    by_cases cc5 : (readR s).1 = 141
    · refine fl_then rfl (decide_eq_true cc5) ?_
      refine fl_seq ?_
      refine rl_start ?_
      refine rl_det (met_none rfl) (fun h_ H_ => exd_assign (v := .int .i64 3) rfl) rfl ?_
      refine rl_end ?_
      refine fl_ret Tryd.func40 rfl (vs := [.int .i64 3]) (fun h_ H_ => ⟨.int .i64 3, _, rfl, rfl, rfl⟩) (v := .int .i64 3) rfl ?_
      exact fun h_ H_ => K _ _ ⟨by unfold stateR; first | rw [if_pos ‹_›] | rw [if_neg ‹_›, if_pos ‹_›] | rw [if_neg ‹_›, if_neg ‹_›, if_pos ‹_›] | rw [if_neg ‹_›, if_neg ‹_›, if_neg ‹_›], H_.kept⟩
    · refine fl_else rfl (decide_eq_false cc5) ?_
      refine fl_seq ?_
      refine rl_start ?_
      refine rl_det (met_none rfl) (fun h_ H_ => exd_eql rfl rfl) (tm' := [_,_,_,_,_,_,_,_,_,_,_,_,_,_,_,_,_]) rfl ?_
      refine rl_det (met_none rfl) (fun h_ H_ => exd_assign (v := .bool (decide ((readR s).1 = 142))) rfl) rfl ?_
      refine rl_end ?_
      by_cases cc6 : (readR s).1 = 142
      · refine fl_then rfl (decide_eq_true cc6) ?_
        refine fl_seq ?_
        refine rl_start ?_
        refine rl_det (met_none rfl) (fun h_ H_ => exd_assign (v := .int .i64 4) rfl) rfl ?_
        refine rl_end ?_
        refine fl_ret Tryd.func40 rfl (vs := [.int .i64 4]) (fun h_ H_ => ⟨.int .i64 4, _, rfl, rfl, rfl⟩) (v := .int .i64 4) rfl ?_
        exact fun h_ H_ => K _ _ ⟨by unfold stateR; first | rw [if_pos ‹_›] | rw [if_neg ‹_›, if_pos ‹_›] | rw [if_neg ‹_›, if_neg ‹_›, if_pos ‹_›] | rw [if_neg ‹_›, if_neg ‹_›, if_neg ‹_›], H_.kept⟩
      · refine fl_else rfl (decide_eq_false cc6) ?_
        refine fl_skip ?_
        refine fl_inBlock ?_
        refine fl_seq ?_
        refine rl_start ?_
        refine rl_det (met_none rfl) (fun h_ H_ => exd_assign (v := .int .i64 1) rfl) (tm' := _::_::_::_) rfl ?_
        refine rl_end ?_
        refine fl_ret Tryd.func40 rfl (vs := [.int .i64 1]) (fun h_ H_ => ⟨.int .i64 1, _, rfl, rfl, rfl⟩) (v := .int .i64 1) rfl ?_
        exact fun h_ H_ => K _ _ ⟨by unfold stateR; first | rw [if_pos ‹_›] | rw [if_neg ‹_›, if_pos ‹_›] | rw [if_neg ‹_›, if_neg ‹_›, if_pos ‹_›] | rw [if_neg ‹_›, if_neg ‹_›, if_neg ‹_›], H_.kept⟩
theorem c29 (md : Md) (h : Heap) (s t : By) (hs : s.length ≤ 2 ^ 60) (ht : t.length ≤ 2 ^ 60) : CallsX Tryd.prog md 29 #[sv s, sv t] h fun v h' => v = .tuple #[sv (addR s t).1, .int .i64 (addR s t).2] ∧ Keep h h' := by
  refine calls_intro (Φ := fun h_ => St h [] (fun _ => none) h_ []) Tryd.func29 rfl (tm := [_, _, _, _, _, _, _, _, _, _, _, _, _, _, _, _, _, _, _, _, _, _, _, _, _]) rfl ?_ (St.start h _ (fun _ _ e => by cases e))
  intro c₀ cs Stop K
  refine fl_seq ?_
  refine rl_start ?_
  refine rl_det (met_none rfl) (fun h_ H_ => exd_assign (v := sv ([] : List UInt8)) rfl) rfl ?_
  refine rl_det (met_none rfl) (fun h_ H_ => exd_assign (v := .int .i64 0) rfl) rfl ?_
  refine rl_end ?_
  refine fl_seq ?_
  refine rl_start ?_
  refine rl_det (met_none rfl) (fun h_ H_ => exd_move (v := sv s) rfl) (tm' := _::_::_::_::_::_::_::_::_::_::_) rfl ?_
  refine rl_own (L' := ([] : Pcs) ++ []) rfl ?_
  refine rl_call (met_none rfl) (first := []) (cap := []) rfl rfl fC39 (R := fun v_ h_ => ∃ w1 : Value, ∃ X2 : Pcs, v_ = .tuple #[w1, .int .i64 ((readR s).1)] ∧ (OwnS 9 1 w1 (scs (readR s).2) X2) ∧ St h [] (fun _ => none) h_ (([] : Pcs) ++ (X2 ++ []))) (fun h_ H_ => (c39 md _ s (by omega)).mono fun v_ h2_ ⟨w1, X2, e_, o3, N_⟩ => ⟨w1, X2, e_, o3, H_.callNA N_⟩) fun v_ => ?_
  refine rl_ex fun w1 => rl_ex fun X2 => rl_and fun ev_ => rl_and fun o3 => ?_
  have ev_ := ev_.symm; subst ev_
  refine rl_own (L' := ([] : Pcs) ++ (X2 ++ [])) rfl ?_
  refine rl_det (met_none rfl) (fun h_ H_ => exd_move (v := .tuple #[w1, .int .i64 ((readR s).1)]) rfl) rfl ?_
  refine rl_det (met_none rfl) (fun h_ H_ => exd_extract rfl (v := w1) rfl) (tm' := _::_::_::_::_::_::_::_::_::_::_::_::_) rfl ?_
  refine rl_det (met_none rfl) (fun h_ H_ => exd_extract rfl (v := .int .i64 ((readR s).1)) rfl) rfl ?_
  refine rl_det (met_none rfl) (fun h_ H_ => exd_assign (v := w1) rfl) rfl ?_
  refine rl_det (met_none rfl) (fun h_ H_ => exd_assign (v := .int .i64 ((readR s).1)) rfl) (tm' := _::_::_::_::_::_::_::_::_) rfl ?_
  refine rl_end ?_
  refine fl_seq ?_
  refine fl_seq ?_
  refine rl_start ?_
  refine rl_det (met_none rfl) (fun h_ H_ => exd_move (v := .int .i64 ((readR s).1)) rfl) rfl ?_
  refine rl_det (met_none rfl) (fun h_ H_ => exd_neq rfl rfl) rfl ?_
  refine rl_end ?_
  by_cases cc4 : (readR s).1 ≠ 0
  · refine fl_then rfl (decide_eq_true cc4) ?_
    refine fl_seq ?_
    refine rl_start ?_
    refine rl_det (met_none rfl) (fun h_ H_ => exd_move (v := .int .i64 ((readR s).1)) rfl) (tm' := _::_::_::_::_::_::_::_::_::_::_::_::_::_::_::_::_) rfl ?_
    refine rl_det (met_none rfl) (fun h_ H_ => exd_assign (v := sv ([] : List UInt8)) rfl) rfl ?_
    refine rl_det (met_none rfl) (fun h_ H_ => exd_assign (v := .int .i64 ((readR s).1)) rfl) rfl ?_
    refine rl_end ?_
    refine fl_ret Tryd.func29 rfl (vs := [sv ([] : List UInt8), .int .i64 ((readR s).1)]) (fun h_ H_ => ⟨sv ([] : List UInt8), _, rfl, rfl, ⟨.int .i64 ((readR s).1), _, rfl, rfl, rfl⟩⟩) (v := .tuple #[sv ([] : List UInt8), .int .i64 ((readR s).1)]) rfl ?_
    exact fun h_ H_ => K _ _ ⟨by rw [addR, if_pos ‹_›], H_.kept⟩
  · refine fl_else rfl (decide_eq_false cc4) ?_
    refine fl_skip ?_
    refine fl_seq ?_
    have hok := readR_good (s := s) (Decidable.not_not.1 ‹_›)
    have hrl := hok.1
    refine rl_start ?_
    refine rl_buildO ([] : Pcs) (met_none rfl) Tryd.underlying22 tS9 tZ9 (Nat.le_of_ble_eq_true rfl) (vs := []) rfl rfl (es := []) rfl rfl rfl fun v5 X6 o7 => ?_
    refine rl_norm (tm' := [_,_,_,_,_,_,_,_,_,_,_,_,_,_,_,_,_,_,_,_,_,_,_,_,_]) rfl ?_
    refine rl_det (met_none rfl) (fun h_ H_ => exd_move (v := w1) rfl) rfl ?_
    refine rl_appendO ([] : Pcs) X6 X2 (met_none rfl) Tryd.underlying22 tS9 tZ9 rfl tB9 Tryd.underlying22 rfl rfl o7 o3 (scs_ones _) (by first | (rw [scs_length]; show (_ + 1) * _ ≤ _; omega) | (rw [scs_length]; show (0 + _) * _ ≤ _; omega)) (by decide) fun v8 X9 o10 => ?_
    have o11 : OwnS 9 1 v8 (scs ((readR s).2)) X9 := o10.as rfl
    refine rl_det (met_none rfl) (fun h_ H_ => exd_move (v := sv t) rfl) (tm' := [_,_,_,_,_,_,_,_,_,_,_,_,_,_,_,_,_,_,_,_,_,_,_,_,_]) rfl ?_
    refine rl_buildO ([] : Pcs) (met_none rfl) Tryd.underlying22 tS9 tZ9 (Nat.le_of_ble_eq_true rfl) (vs := [(0, sv t)]) rfl rfl (es := [[sv t]]) rfl rfl rfl fun v12 X13 o14 => ?_
    refine rl_perm (List.Perm.append_left _ (List.perm_append_comm_assoc _ _ _)) ?_
    refine rl_own (L' := ([] : Pcs) ++ (X9 ++ (X13 ++ []))) rfl ?_
    refine rl_appendO ([] : Pcs) X9 X13 (met_none rfl) Tryd.underlying22 tS9 tZ9 rfl tB9 Tryd.underlying22 rfl rfl o11 o14 (ones_of rfl) (by first | (rw [scs_length]; show (_ + 1) * _ ≤ _; omega) | (rw [scs_length]; show (0 + _) * _ ≤ _; omega)) (by decide) fun v15 X16 o17 => ?_
    have o18 : OwnS 9 1 v15 (scs ((readR s).2 ++ [t])) X16 := o17.as (scs_snoc _ _)
    refine rl_calld (met_none rfl) (first := []) (cap := []) rfl rfl fC46 (fun h_ H_ => lend_to (n := ((readR s).2 ++ [t]).length) o18 (scs_length _) H_ (fun x_ h_ => by simp [h_]) fun p_ a_ c_ hp_ _ hv_ D_ => by rw [hv_]; exact c46 md _ _ hp_ a_ _ c_ _ D_ (by rw [List.length_append, List.length_singleton]; omega) (read_more hok ht)) (tm' := [_,_,_,_,_,_,_,_,_,_,_,_,_,_,_,_,_,_,_,_,_,_,_,_,_]) rfl ?_
    refine rl_det (met_none rfl) (fun h_ H_ => exd_extract rfl (v := sv ((writeB ((readR s).2 ++ [t])).1)) rfl) rfl ?_
    refine rl_det (met_none rfl) (fun h_ H_ => exd_extract rfl (v := .int .i64 ((writeB ((readR s).2 ++ [t])).2)) rfl) rfl ?_
    refine rl_det (met_none rfl) (fun h_ H_ => exd_assign (v := sv ((writeB ((readR s).2 ++ [t])).1)) rfl) (tm' := _::_::_::_::_::_) rfl ?_
    refine rl_det (met_none rfl) (fun h_ H_ => exd_assign (v := .int .i64 ((writeB ((readR s).2 ++ [t])).2)) rfl) rfl ?_
    refine rl_end ?_
    refine fl_ret Tryd.func29 rfl (vs := [sv ((writeB ((readR s).2 ++ [t])).1), .int .i64 ((writeB ((readR s).2 ++ [t])).2)]) (fun h_ H_ => ⟨sv ((writeB ((readR s).2 ++ [t])).1), _, rfl, rfl, ⟨.int .i64 ((writeB ((readR s).2 ++ [t])).2), _, rfl, rfl, rfl⟩⟩) (v := .tuple #[sv ((writeB ((readR s).2 ++ [t])).1), .int .i64 ((writeB ((readR s).2 ++ [t])).2)]) rfl ?_
    exact fun h_ H_ => K _ _ ⟨by rw [addR, if_neg ‹_›], H_.kept⟩
end Go.Proofs.YtiinpnlfdeiloaaDoor
namespace Go.Proofs.YtiinpnlfdeiloaaDoor
open Go.X Go.X.Cent Go.Conc
set_option maxRecDepth 10000
set_option synthInstance.maxSize 2000
set_option synthInstance.maxHeartbeats 400000

set_option maxHeartbeats 1000000
theorem c37 (h : Heap) (p : PHeap) (hp : Per p h) (a b : Option Addr) (m n c d : Nat) (xs ys : List Pie) (A : Pies p a m xs) (B : Pies p b n ys) (hm : m ≤ 2 ^ 60) : CallsX Tryd.prog .lone 37 #[.slice a m c, .slice b n d] h fun v h' => v = .bool (decide (xs = ys)) ∧ Keep h h' := by
  refine calls_intro (Φ := fun h_ => St h [] p h_ []) Tryd.func37 rfl (tm := [_, _, _, _, _, _, _, _, _, _, _, _, _, _, _, _, _, _, _, _, _, _, _, _, _, _]) rfl ?_ (St.start h _ hp)
  intro c₀ cs Stop K
  have hla := A.len
  have hlb := B.len
  refine fl_seq ?_
  refine rl_start ?_
  refine rl_det (met_none rfl) (fun h_ H_ => exd_assign (v := .bool (false)) rfl) rfl ?_
  refine rl_end ?_
  refine fl_seq ?_
  refine fl_seq ?_
  refine rl_start ?_
  refine rl_det (met_none rfl) (fun h_ H_ => exd_move (v := .slice a m c) rfl) (tm' := _::_::_::_::_::_::_::_) rfl ?_
  refine rl_det (met_none rfl) (fun h_ H_ => exd_len Tryd.underlying49 rfl) rfl ?_
  refine rl_det (met_none rfl) (fun h_ H_ => exd_move (v := .slice b n d) rfl) rfl ?_
  refine rl_det (met_none rfl) (fun h_ H_ => exd_len Tryd.underlying49 rfl) (tm' := _::_::_::_::_::_::_::_::_::_::_) rfl ?_
  refine rl_det (met_none rfl) (fun h_ H_ => exd_neq rfl rfl) rfl ?_
  refine rl_end ?_
  by_cases cc1 : ((m : Nat) : Int) ≠ ((n : Nat) : Int)
  · refine fl_then rfl (decide_eq_true cc1) ?_
    refine fl_seq ?_
    refine rl_start ?_
    refine rl_det (met_none rfl) (fun h_ H_ => exd_assign (v := .bool (false)) rfl) rfl ?_
    refine rl_end ?_
    refine fl_ret Tryd.func37 rfl (vs := [.bool (false)]) (fun h_ H_ => ⟨.bool (false), _, rfl, rfl, rfl⟩) (v := .bool (false)) rfl ?_
    exact fun h_ H_ => K _ _ ⟨by first | rw [decide_eq_true (gext (by omega) fun i hi => hs i (by omega))] | rw [decide_eq_false (fun e_ => by subst e_; omega)] | rw [decide_eq_false (fun e_ => by subst e_; exact absurd rfl ‹_›)], H_.kept⟩
  · refine fl_else rfl (decide_eq_false cc1) ?_
    refine fl_skip ?_
    refine fl_seq ?_
    refine fl_seq ?_
    refine rl_start ?_
    refine rl_det (met_none rfl) (fun h_ H_ => exd_assign (v := .int .i64 0) rfl) (tm' := _::_::_::_::_::_::_) rfl ?_
    refine rl_end ?_
    refine fl_block ?_
    refine fl_loop (m₀ := m - 0) (fun m_ tm_ h_ => ∃ (k : Nat), m_ = m - k ∧ (∃ y2 : Nat → Value, tm_ = [.slice a m c, .slice b n d, undef, undef, (y2 4), .int .i64 (((k : Nat) : Int)), .slice a m c, .int .i64 (((m : Nat) : Int)), .slice b n d, .int .i64 (((n : Nat) : Int)), .bool (decide (((m : Nat) : Int) ≠ ((n : Nat) : Int))), (y2 11), (y2 12), (y2 13), (y2 14), (y2 15), (y2 16), (y2 17), (y2 18), (y2 19), (y2 20), (y2 21), (y2 22), (y2 23), (y2 24), (y2 25)]) ∧ (k ≤ m) ∧ (∀ i, i < k → xs.getD i pz = ys.getD i pz) ∧ St h [] p h_ ([])) (fun h_ H_ => ⟨0, rfl, (y_of rfl), Nat.zero_le _, (fun i hi => absurd hi (Nat.not_lt_zero i)), H_⟩) ?_
    intro m_ tm_ IH3
    refine rs_ex fun k => rs_and fun hm_ => rs_and fun ht_ => rs_and fun hk => rs_and fun hs => ?_
    subst hm_; obtain ⟨y2, ht_⟩ := ht_; subst ht_
    refine fl_seq ?_
    refine fl_seq ?_
    refine rl_start ?_
    refine rl_det (met_none rfl) (fun h_ H_ => exd_move (v := .int .i64 (((k : Nat) : Int))) rfl) rfl ?_
    refine rl_det (met_none rfl) (fun h_ H_ => exd_move (v := .slice a m c) rfl) rfl ?_
    refine rl_det (met_none rfl) (fun h_ H_ => exd_len Tryd.underlying49 rfl) (tm' := _::_::_::_::_::_::_::_::_::_::_::_::_::_::_) rfl ?_
    refine rl_det (met_none rfl) (fun h_ H_ => exd_lss rfl rfl) rfl ?_
    refine rl_end ?_
    by_cases cc4 : ((k : Nat) : Int) < ((m : Nat) : Int)
    · refine fl_then rfl (decide_eq_true cc4) ?_
      refine fl_skip ?_
      refine fl_seq ?_
      refine fl_block ?_
      refine fl_seq ?_
      refine fl_drawn2 8 [[], [], [0, 1], [0, 1, 2], [], [], [4, 5], [4, 5, 6], []] mixed (by kernel_rfl) (Nat.le_of_ble_eq_true rfl) ?_
      refine swr_det (met_none rfl) (fun h_ H_ => exd_move (v := .slice a m c) rfl) rfl ?_
      refine swr_det (met_none rfl) (fun h_ H_ => exd_move (v := .int .i64 (((k : Nat) : Int))) rfl) (tm' := [_,_,_,_,_,_,_,_,_,_,_,_,_,_,_,_,_,_,_,_,_,_,_,_,_,_]) rfl ?_
      refine swr_det (met_none rfl) (fun h_ H_ => exd_indexAddrN (i := k) Tryd.underlying49 tS60 (sl_ne a m c (A.ne (by omega))) rfl (by omega)) rfl ?_
      refine swr_det (met_none rfl) (fun h_ H_ => exd_loadN_per H_ tA60 tS60 rfl (vs := [.int .i64 ((xs.getD k pz).1), .int .i64 ((xs.getD k pz).2)]) rfl (A.all (by omega))) (tm' := [_,_,_,_,_,_,_,_,_,_,_,_,_,_,_,_,_,_,_,_,_,_,_,_,_,_]) rfl ?_
      refine swr_det (met_none rfl) (fun h_ H_ => exd_move (v := .slice b n d) rfl) rfl ?_
      refine swr_det (met_none rfl) (fun h_ H_ => exd_move (v := .int .i64 (((k : Nat) : Int))) rfl) (tm' := [_,_,_,_,_,_,_,_,_,_,_,_,_,_,_,_,_,_,_,_,_,_,_,_,_,_]) rfl ?_
      refine swr_det (met_none rfl) (fun h_ H_ => exd_indexAddrN (i := k) Tryd.underlying49 tS60 (sl_ne b n d (B.ne (by omega))) rfl (by omega)) rfl ?_
      refine swr_det (met_none rfl) (fun h_ H_ => exd_loadN_per H_ tA60 tS60 rfl (vs := [.int .i64 ((ys.getD k pz).1), .int .i64 ((ys.getD k pz).2)]) rfl (B.all (by omega))) (tm' := [_,_,_,_,_,_,_,_,_,_,_,_,_,_,_,_,_,_,_,_,_,_,_,_,_,_]) rfl ?_
      refine swr_nil rfl ?_
      refine rl_det (met_none rfl) (fun h_ H_ => exd_neqAgg gT60 (pieEq 9998 (xs.getD k pz) (ys.getD k pz)) rfl rfl) rfl ?_
      refine rl_end ?_
      by_cases cc5 : (xs.getD k pz) = (ys.getD k pz)
      · refine fl_else rfl (not_f (decide_eq_true cc5)) ?_
        refine fl_skip ?_
        refine fl_inBlock ?_
        refine rl_start ?_
        refine rl_det (met_none rfl) (fun h_ H_ => exd_move (v := .int .i64 (((k : Nat) : Int))) rfl) rfl ?_
        refine rl_det (met_none rfl) (fun h_ H_ => exd_add rfl rfl (n := ((k + 1 : Nat) : Int)) (wr (by omega))) (tm' := _::_::_::_::_::_::_::_::_::_::_::_::_::_::_::_::_::_) rfl ?_
        refine rl_det (met_none rfl) (fun h_ H_ => exd_assign (v := .int .i64 (((k + 1 : Nat) : Int))) rfl) rfl ?_
        refine rl_end ?_
        exact fun h_ H_ => IH3 _ _ (by omega) h_ ⟨k + 1, rfl, (y_of rfl), (by omega), (gstep hs ‹_›), H_⟩
      · refine fl_then rfl (not_t (decide_eq_false cc5)) ?_
        refine fl_seq ?_
        refine rl_start ?_
        refine rl_det (met_none rfl) (fun h_ H_ => exd_assign (v := .bool (false)) rfl) rfl ?_
        refine rl_end ?_
        refine fl_ret Tryd.func37 rfl (vs := [.bool (false)]) (fun h_ H_ => ⟨.bool (false), _, rfl, rfl, rfl⟩) (v := .bool (false)) rfl ?_
        exact fun h_ H_ => K _ _ ⟨by first | rw [decide_eq_true (gext (by omega) fun i hi => hs i (by omega))] | rw [decide_eq_false (fun e_ => by subst e_; omega)] | rw [decide_eq_false (fun e_ => by subst e_; exact absurd rfl ‹_›)], H_.kept⟩
    · refine fl_else rfl (decide_eq_false cc4) ?_
      refine fl_exit rfl ?_
      refine fl_seq ?_
      refine rl_start ?_
      refine rl_det (met_none rfl) (fun h_ H_ => exd_assign (v := .bool (true)) rfl) (tm' := _::_::_::_::_::_) rfl ?_
      refine rl_end ?_
      refine fl_ret Tryd.func37 rfl (vs := [.bool (true)]) (fun h_ H_ => ⟨.bool (true), _, rfl, rfl, rfl⟩) (v := .bool (true)) rfl ?_
      exact fun h_ H_ => K _ _ ⟨by first | rw [decide_eq_true (gext (by omega) fun i hi => hs i (by omega))] | rw [decide_eq_false (fun e_ => by subst e_; omega)] | rw [decide_eq_false (fun e_ => by subst e_; exact absurd rfl ‹_›)], H_.kept⟩
theorem c15 (h : Heap) (p : PHeap) (hp : Per p h) (a : Option Addr) (n c : Nat) (ts : List By) (T : Strs p a n ts) (hn : n ≤ 9223372036854775807) : CallsX Tryd.prog .lone 15 #[.slice a n c] h fun v h' => v = .bool (decide (readyT ts)) ∧ Keep h h' := by
  refine calls_intro (Φ := fun h_ => St h [] p h_ []) Tryd.func15 rfl (tm := [_, _, _, _, _, _, _, _, _, _, _]) rfl ?_ (St.start h _ hp)
  intro c₀ cs Stop K
  have hl := T.len
  refine fl_seq ?_
  refine rl_start ?_
  refine rl_det (met_none rfl) (fun h_ H_ => exd_assign (v := .bool (false)) rfl) rfl ?_
  refine rl_end ?_
  refine fl_seq ?_
  refine rl_start ?_
  refine rl_det (met_none rfl) (fun h_ H_ => exd_move (v := .slice a n c) rfl) (tm' := _::_::_::_::_) rfl ?_
  refine rl_calld (met_none rfl) (first := []) (cap := []) rfl rfl fC23 (fun h_ H_ => c23 .lone _ _ (fun b_ o_ e_ => H_.per b_ o_ e_) a n _ ts T (by first | omega | (have z_ := (far_facts T ‹¬ far ts›).1; omega))) rfl ?_
  refine rl_det (met_none rfl) (fun h_ H_ => exd_not rfl) rfl ?_
  refine rl_det (met_none rfl) (fun h_ H_ => exd_move (v := .bool (!(decide (far ts)))) rfl) (tm' := _::_::_::_::_::_::_::_) rfl ?_
  by_cases cc1 : far ts
  · refine rl_pass (met_not rfl rfl (not_f (decide_eq_true cc1))) rfl ?_
    refine rl_pass (met_not rfl rfl (not_f (decide_eq_true cc1))) rfl ?_
    refine rl_pass (met_not rfl rfl (not_f (decide_eq_true cc1))) (tm' := [_,_,_,_,_,_,_,_,_,_,_]) rfl ?_
    refine rl_det (met_none rfl) (fun h_ H_ => exd_pick_f rfl (not_f (decide_eq_true cc1)) (v := .bool (false)) rfl) rfl ?_
    refine rl_det (met_none rfl) (fun h_ H_ => exd_assign (v := .bool (false)) rfl) rfl ?_
    refine rl_end ?_
    refine fl_ret Tryd.func15 rfl (vs := [.bool (false)]) (fun h_ H_ => ⟨.bool (false), _, rfl, rfl, rfl⟩) (v := .bool (false)) rfl ?_
    exact fun h_ H_ => K _ _ ⟨congrArg Value.bool ((decide_eq_false fun z => z.1 ‹_›).symm), H_.kept⟩
  · refine rl_det (met_some rfl rfl (not_t (decide_eq_false cc1))) (fun h_ H_ => exd_move (v := .slice a n c) rfl) (tm' := [_,_,_,_,_,_,_,_,_,_,_]) rfl ?_
    refine rl_calld (met_some rfl rfl (not_t (decide_eq_false cc1))) (first := []) (cap := []) rfl rfl fC51 (fun h_ H_ => c51 .lone _ _ (fun b_ o_ e_ => H_.per b_ o_ e_) a n _ ts T (by first | omega | (have z_ := (far_facts T ‹¬ far ts›).1; omega)) (not_far T ‹¬ far ts›)) rfl ?_
    refine rl_det (met_some rfl rfl (not_t (decide_eq_false cc1))) (fun h_ H_ => exd_eql rfl rfl) rfl ?_
    refine rl_det (met_none rfl) (fun h_ H_ => exd_pick_t rfl (not_t (decide_eq_false cc1)) (v := .bool (decide (chkT ts = 0))) rfl) (tm' := [_,_,_,_,_,_,_,_,_,_,_]) rfl ?_
    refine rl_det (met_none rfl) (fun h_ H_ => exd_assign (v := .bool (decide (chkT ts = 0))) rfl) rfl ?_
    refine rl_end ?_
    refine fl_ret Tryd.func15 rfl (vs := [.bool (decide (chkT ts = 0))]) (fun h_ H_ => ⟨.bool (decide (chkT ts = 0)), _, rfl, rfl, rfl⟩) (v := .bool (decide (chkT ts = 0))) rfl ?_
    exact fun h_ H_ => K _ _ ⟨congrArg Value.bool (decide_eq_decide.2 ⟨fun z => ⟨‹_›, z⟩, fun z => z.2⟩), H_.kept⟩
theorem c16 (h : Heap) (htab : Tab h) : CallsX Tryd.prog .lone 16 #[] h fun v h' => v = .bool true ∧ Keep h h' := by
  refine calls_intro (Φ := fun h_ => St h [] (fun _ => none) h_ []) Tryd.func16 rfl (tm := [_, _, _, _, _, _, _, _, _, _, _, _, _, _, _, _, _, _, _, _, _, _, _, _, _, _, _, _, _, _, _, _, _, _, _, _, _, _, _, _, _, _, _, _, _, _, _, _, _, _, _, _, _, _, _, _, _, _, _, _, _, _, _, _, _, _, _, _, _, _, _, _, _, _, _, _]) rfl ?_ (St.start h _ (fun _ _ e => by cases e))
  intro c₀ cs Stop K
  refine fl_seq ?_
  refine rl_start ?_
  refine rl_det (met_none rfl) (fun h_ H_ => exd_assign (v := .bool (false)) rfl) rfl ?_
  refine rl_end ?_
  refine fl_seq ?_
  refine rl_start ?_
  refine rl_own (L' := ([] : Pcs) ++ []) rfl ?_
  refine rl_buildO ([] : Pcs) (met_none rfl) Tryd.underlying22 tS9 tZ9 (Nat.le_of_ble_eq_true rfl) (vs := [(0, sv ([97, 97] : List UInt8)), (1, sv ([97, 98] : List UInt8))]) rfl rfl (es := [[sv ([97, 97] : List UInt8)], [sv ([97, 98] : List UInt8)]]) rfl rfl rfl fun v1 X2 o3 => ?_
  have o4 : OwnS 9 1 v1 (scs ([([97, 97] : List UInt8), ([97, 98] : List UInt8)] : List By)) X2 := o3
  refine rl_norm (tm' := _::_::_::_::_::_::_::_::_::_::_::_::_::_) rfl ?_
  refine rl_lastN (A := ([] : Pcs)) o4 (scs_length _) fun p5 a6 cp7 le8 ev_ D9 => ?_
  subst ev_
  refine rl_own (L' := []) rfl ?_
  refine rl_calld (met_none rfl) (first := []) (cap := []) rfl rfl fC45 (fun h_ H_ => c45 _ _ (fun b_ o_ e_ => H_.per b_ o_ e_) (htab.keep H_.kept) a6 (([([97, 97] : List UInt8), ([97, 98] : List UInt8)] : List By).length) _ ([([97, 97] : List UInt8), ([97, 98] : List UInt8)] : List By) (show Strs _ _ _ ([([97, 97] : List UInt8), ([97, 98] : List UInt8)] : List By) from D9) (by decide) (by decide)) rfl ?_
  refine rl_det (met_none rfl) (fun h_ H_ => exd_move (v := .tuple #[sv ((writeB ([([97, 97] : List UInt8), ([97, 98] : List UInt8)] : List By)).1), .int .i64 ((writeB ([([97, 97] : List UInt8), ([97, 98] : List UInt8)] : List By)).2)]) rfl) rfl ?_
  refine rl_det (met_none rfl) (fun h_ H_ => exd_extract rfl (v := sv ((writeB ([([97, 97] : List UInt8), ([97, 98] : List UInt8)] : List By)).1)) rfl) (tm' := _::_::_::_::_::_::_::_::_::_::_::_::_::_::_::_) rfl ?_
  refine rl_det (met_none rfl) (fun h_ H_ => exd_extract rfl (v := .int .i64 ((writeB ([([97, 97] : List UInt8), ([97, 98] : List UInt8)] : List By)).2)) rfl) rfl ?_
  refine rl_det (met_none rfl) (fun h_ H_ => exd_assign (v := sv ((writeB ([([97, 97] : List UInt8), ([97, 98] : List UInt8)] : List By)).1)) rfl) rfl ?_
  refine rl_det (met_none rfl) (fun h_ H_ => exd_assign (v := .int .i64 ((writeB ([([97, 97] : List UInt8), ([97, 98] : List UInt8)] : List By)).2)) rfl) (tm' := _::_::_::_) rfl ?_
  refine rl_end ?_
  refine fl_seq ?_
  refine rl_start ?_
  refine rl_own (L' := ([] : Pcs) ++ []) rfl ?_
  refine rl_buildO ([] : Pcs) (met_none rfl) Tryd.underlying22 tS9 tZ9 (Nat.le_of_ble_eq_true rfl) (vs := [(0, sv ([97, 97] : List UInt8)), (1, sv ([97, 98] : List UInt8))]) rfl rfl (es := [[sv ([97, 97] : List UInt8)], [sv ([97, 98] : List UInt8)]]) rfl rfl rfl fun v10 X11 o12 => ?_
  have o13 : OwnS 9 1 v10 (scs ([([97, 97] : List UInt8), ([97, 98] : List UInt8)] : List By)) X11 := o12
  refine rl_lastN (A := ([] : Pcs)) o13 (scs_length _) fun p14 a15 cp16 le17 ev_ D18 => ?_
  subst ev_
  refine rl_own (L' := []) rfl ?_
  refine rl_calld (met_none rfl) (first := []) (cap := []) rfl rfl fC24 (fun h_ H_ => c24 _ _ (fun b_ o_ e_ => H_.per b_ o_ e_) a15 (([([97, 97] : List UInt8), ([97, 98] : List UInt8)] : List By).length) _ ([([97, 97] : List UInt8), ([97, 98] : List UInt8)] : List By) (show Strs _ _ _ ([([97, 97] : List UInt8), ([97, 98] : List UInt8)] : List By) from D18) (by decide) (by decide) 1 (by omega)) rfl ?_
  refine rl_det (met_none rfl) (fun h_ H_ => exd_move (v := .tuple #[.int .i64 ((usesB ([([97, 97] : List UInt8), ([97, 98] : List UInt8)] : List By) 1).1), .int .i64 ((usesB ([([97, 97] : List UInt8), ([97, 98] : List UInt8)] : List By) 1).2)]) rfl) (tm' := _::_::_::_::_::_::_::_::_::_::_::_::_::_::_::_::_::_) rfl ?_
  refine rl_det (met_none rfl) (fun h_ H_ => exd_extract rfl (v := .int .i64 ((usesB ([([97, 97] : List UInt8), ([97, 98] : List UInt8)] : List By) 1).1)) rfl) rfl ?_
  refine rl_det (met_none rfl) (fun h_ H_ => exd_extract rfl (v := .int .i64 ((usesB ([([97, 97] : List UInt8), ([97, 98] : List UInt8)] : List By) 1).2)) rfl) rfl ?_
  refine rl_det (met_none rfl) (fun h_ H_ => exd_assign (v := .int .i64 ((usesB ([([97, 97] : List UInt8), ([97, 98] : List UInt8)] : List By) 1).1)) rfl) (tm' := _::_::_::_::_) rfl ?_
  refine rl_det (met_none rfl) (fun h_ H_ => exd_assign (v := .int .i64 ((usesB ([([97, 97] : List UInt8), ([97, 98] : List UInt8)] : List By) 1).2)) rfl) rfl ?_
  refine rl_end ?_
  refine fl_seq ?_
  refine rl_start ?_
  refine rl_calld (met_none rfl) (first := []) (cap := []) rfl rfl fC26 (fun h_ H_ => c26 _ ([65, 65, 120] : List UInt8) (by decide)) rfl ?_
  refine rl_det (met_none rfl) (fun h_ H_ => exd_move (v := .tuple #[.int .i64 ((sumB ([65, 65, 120] : List UInt8)).1), .int .i64 ((sumB ([65, 65, 120] : List UInt8)).2)]) rfl) (tm' := _::_::_::_::_::_::_::_::_::_::_::_::_::_::_::_::_::_::_::_::_::_::_) rfl ?_
  refine rl_det (met_none rfl) (fun h_ H_ => exd_extract rfl (v := .int .i64 ((sumB ([65, 65, 120] : List UInt8)).1)) rfl) rfl ?_
  refine rl_det (met_none rfl) (fun h_ H_ => exd_extract rfl (v := .int .i64 ((sumB ([65, 65, 120] : List UInt8)).2)) rfl) rfl ?_
  refine rl_det (met_none rfl) (fun h_ H_ => exd_assign (v := .int .i64 ((sumB ([65, 65, 120] : List UInt8)).1)) rfl) (tm' := _::_::_::_::_::_::_) rfl ?_
  refine rl_det (met_none rfl) (fun h_ H_ => exd_assign (v := .int .i64 ((sumB ([65, 65, 120] : List UInt8)).2)) rfl) rfl ?_
  refine rl_end ?_
  refine fl_seq ?_
  refine rl_start ?_
  refine rl_own (L' := ([] : Pcs) ++ []) rfl ?_
  refine rl_call (met_none rfl) (first := []) (cap := []) rfl rfl fC18 (R := fun v_ h_ => ∃ w19 : Value, ∃ X20 : Pcs, v_ = .tuple #[w19, .int .i64 ((readB ([65, 65, 126, 65, 66, 61, 49, 49, 54, 51] : List UInt8)).1)] ∧ (OwnS 9 1 w19 (scs ((readB ([65, 65, 126, 65, 66, 61, 49, 49, 54, 51] : List UInt8)).2)) X20) ∧ St h [] p14 h_ (([] : Pcs) ++ (X20 ++ []))) (fun h_ H_ => (c18 _ (htab.keep H_.kept) ([65, 65, 126, 65, 66, 61, 49, 49, 54, 51] : List UInt8) (by decide)).mono fun v_ h2_ ⟨w19, X20, e_, o21, N_⟩ => ⟨w19, X20, e_, o21, H_.callNA N_⟩) fun v_ => ?_
  refine rl_ex fun w19 => rl_ex fun X20 => rl_and fun ev_ => rl_and fun o21 => ?_
  have ev_ := ev_.symm; subst ev_
  refine rl_own (L' := ([] : Pcs) ++ (X20 ++ [])) rfl ?_
  refine rl_det (met_none rfl) (fun h_ H_ => exd_move (v := .tuple #[w19, .int .i64 ((readB ([65, 65, 126, 65, 66, 61, 49, 49, 54, 51] : List UInt8)).1)]) rfl) (tm' := _::_::_::_::_::_::_::_::_::_::_::_::_::_::_::_::_::_::_::_::_::_::_::_::_::_::_) rfl ?_
  refine rl_det (met_none rfl) (fun h_ H_ => exd_extract rfl (v := w19) rfl) rfl ?_
  refine rl_det (met_none rfl) (fun h_ H_ => exd_extract rfl (v := .int .i64 ((readB ([65, 65, 126, 65, 66, 61, 49, 49, 54, 51] : List UInt8)).1)) rfl) rfl ?_
  refine rl_det (met_none rfl) (fun h_ H_ => exd_assign (v := w19) rfl) (tm' := _::_::_::_::_::_::_::_::_) rfl ?_
  refine rl_det (met_none rfl) (fun h_ H_ => exd_assign (v := .int .i64 ((readB ([65, 65, 126, 65, 66, 61, 49, 49, 54, 51] : List UInt8)).1)) rfl) rfl ?_
  refine rl_end ?_
  refine fl_seq ?_
  refine rl_start ?_
  refine rl_calld (met_none rfl) (first := []) (cap := []) rfl rfl fC28 (fun h_ H_ => c28 _ (htab.keep H_.kept) ([65, 65, 120, 65, 65, 126, 61, 49, 56, 57, 54] : List UInt8) ([120] : List UInt8) (by decide) (by decide)) rfl ?_
  refine rl_det (met_none rfl) (fun h_ H_ => exd_move (v := .tuple #[sv ((addB ([65, 65, 120, 65, 65, 126, 61, 49, 56, 57, 54] : List UInt8) ([120] : List UInt8)).1), .int .i64 ((addB ([65, 65, 120, 65, 65, 126, 61, 49, 56, 57, 54] : List UInt8) ([120] : List UInt8)).2)]) rfl) (tm' := _::_::_::_::_::_::_::_::_::_::_::_::_::_::_::_::_::_::_::_::_::_::_::_::_::_::_::_::_::_::_) rfl ?_
  refine rl_det (met_none rfl) (fun h_ H_ => exd_extract rfl (v := sv ((addB ([65, 65, 120, 65, 65, 126, 61, 49, 56, 57, 54] : List UInt8) ([120] : List UInt8)).1)) rfl) rfl ?_
  refine rl_det (met_none rfl) (fun h_ H_ => exd_extract rfl (v := .int .i64 ((addB ([65, 65, 120, 65, 65, 126, 61, 49, 56, 57, 54] : List UInt8) ([120] : List UInt8)).2)) rfl) rfl ?_
  refine rl_det (met_none rfl) (fun h_ H_ => exd_assign (v := sv ((addB ([65, 65, 120, 65, 65, 126, 61, 49, 56, 57, 54] : List UInt8) ([120] : List UInt8)).1)) rfl) (tm' := _::_::_::_::_::_::_::_::_::_::_) rfl ?_
  refine rl_det (met_none rfl) (fun h_ H_ => exd_assign (v := .int .i64 ((addB ([65, 65, 120, 65, 65, 126, 61, 49, 56, 57, 54] : List UInt8) ([120] : List UInt8)).2)) rfl) rfl ?_
  refine rl_end ?_
  refine fl_seq ?_
  refine rl_start ?_
  refine rl_det (met_none rfl) (fun h_ H_ => exd_move (v := .int .i64 ((writeB ([([97, 97] : List UInt8), ([97, 98] : List UInt8)] : List By)).2)) rfl) rfl ?_
  refine rl_det (met_none rfl) (fun h_ H_ => exd_eql rfl rfl) (tm' := _::_::_::_::_::_::_::_::_::_::_::_::_::_::_::_::_::_::_::_::_::_::_::_::_::_::_::_::_::_::_::_::_::_::_::_) rfl ?_
  refine rl_det (met_none rfl) (fun h_ H_ => exd_move (v := .bool (decide ((writeB ([([97, 97] : List UInt8), ([97, 98] : List UInt8)] : List By)).2 = 0))) rfl) rfl ?_
  refine rl_det (met_some rfl rfl (decide_eq_true (by decide +kernel))) (fun h_ H_ => exd_move (v := .int .i64 ((usesB ([([97, 97] : List UInt8), ([97, 98] : List UInt8)] : List By) 1).2)) rfl) rfl ?_
  refine rl_det (met_some rfl rfl (decide_eq_true (by decide +kernel))) (fun h_ H_ => exd_eql rfl rfl) (tm' := _::_::_::_::_::_::_::_::_::_::_::_::_::_::_::_::_::_::_::_::_::_::_::_::_::_::_::_::_::_::_::_::_::_::_::_::_::_::_) rfl ?_
  refine rl_det (met_none rfl) (fun h_ H_ => exd_pick_t rfl (decide_eq_true (by decide +kernel)) (v := .bool (decide ((usesB ([([97, 97] : List UInt8), ([97, 98] : List UInt8)] : List By) 1).2 = 0))) rfl) rfl ?_
  refine rl_det (met_none rfl) (fun h_ H_ => exd_move (v := .bool (decide ((usesB ([([97, 97] : List UInt8), ([97, 98] : List UInt8)] : List By) 1).2 = 0))) rfl) rfl ?_
  refine rl_det (met_some rfl rfl (decide_eq_true (by decide +kernel))) (fun h_ H_ => exd_move (v := .int .i64 ((sumB ([65, 65, 120] : List UInt8)).2)) rfl) (tm' := _::_::_::_::_::_::_::_::_::_::_::_::_::_::_::_::_::_::_::_::_::_::_::_::_::_::_::_::_::_::_::_::_::_::_::_::_::_::_::_::_::_) rfl ?_
  refine rl_det (met_some rfl rfl (decide_eq_true (by decide +kernel))) (fun h_ H_ => exd_eql rfl rfl) rfl ?_
  refine rl_det (met_none rfl) (fun h_ H_ => exd_pick_t rfl (decide_eq_true (by decide +kernel)) (v := .bool (decide ((sumB ([65, 65, 120] : List UInt8)).2 = 0))) rfl) rfl ?_
  refine rl_det (met_none rfl) (fun h_ H_ => exd_move (v := .bool (decide ((sumB ([65, 65, 120] : List UInt8)).2 = 0))) rfl) (tm' := _::_::_::_::_::_::_::_::_::_::_::_::_::_::_::_::_::_::_::_::_::_::_::_::_::_::_::_::_::_::_::_::_::_::_::_::_::_::_::_::_::_::_::_::_) rfl ?_
  refine rl_det (met_some rfl rfl (decide_eq_true (by decide +kernel))) (fun h_ H_ => exd_move (v := .int .i64 ((readB ([65, 65, 126, 65, 66, 61, 49, 49, 54, 51] : List UInt8)).1)) rfl) rfl ?_
  refine rl_det (met_some rfl rfl (decide_eq_true (by decide +kernel))) (fun h_ H_ => exd_eql rfl rfl) rfl ?_
  refine rl_det (met_none rfl) (fun h_ H_ => exd_pick_t rfl (decide_eq_true (by decide +kernel)) (v := .bool (decide ((readB ([65, 65, 126, 65, 66, 61, 49, 49, 54, 51] : List UInt8)).1 = 0))) rfl) (tm' := _::_::_::_::_::_::_::_::_::_::_::_::_::_::_::_::_::_::_::_::_::_::_::_::_::_::_::_::_::_::_::_::_::_::_::_::_::_::_::_::_::_::_::_::_::_::_::_) rfl ?_
  refine rl_det (met_none rfl) (fun h_ H_ => exd_move (v := .bool (decide ((readB ([65, 65, 126, 65, 66, 61, 49, 49, 54, 51] : List UInt8)).1 = 0))) rfl) rfl ?_
  refine rl_det (met_some rfl rfl (decide_eq_true (by decide +kernel))) (fun h_ H_ => exd_move (v := .int .i64 ((addB ([65, 65, 120, 65, 65, 126, 61, 49, 56, 57, 54] : List UInt8) ([120] : List UInt8)).2)) rfl) rfl ?_
  refine rl_det (met_some rfl rfl (decide_eq_true (by decide +kernel))) (fun h_ H_ => exd_eql rfl rfl) (tm' := _::_::_::_::_::_::_::_::_::_::_::_::_::_::_::_::_::_::_::_::_::_::_::_::_::_::_::_::_::_::_::_::_::_::_::_::_::_::_::_::_::_::_::_::_::_::_::_::_::_::_) rfl ?_
  refine rl_det (met_none rfl) (fun h_ H_ => exd_pick_t rfl (decide_eq_true (by decide +kernel)) (v := .bool (decide ((addB ([65, 65, 120, 65, 65, 126, 61, 49, 56, 57, 54] : List UInt8) ([120] : List UInt8)).2 = 0))) rfl) rfl ?_
  refine rl_det (met_none rfl) (fun h_ H_ => exd_move (v := .bool (decide ((addB ([65, 65, 120, 65, 65, 126, 61, 49, 56, 57, 54] : List UInt8) ([120] : List UInt8)).2 = 0))) rfl) rfl ?_
  refine rl_det (met_some rfl rfl (decide_eq_true (by decide +kernel))) (fun h_ H_ => exd_move (v := sv ((writeB ([([97, 97] : List UInt8), ([97, 98] : List UInt8)] : List By)).1)) rfl) (tm' := [_,_,_,_,_,_,_,_,_,_,_,_,_,_,_,_,_,_,_,_,_,_,_,_,_,_,_,_,_,_,_,_,_,_,_,_,_,_,_,_,_,_,_,_,_,_,_,_,_,_,_,_,_,_,_,_,_,_,_,_,_,_,_,_,_,_,_,_,_,_,_,_,_,_,_,_]) rfl ?_
  refine rl_det (met_some rfl rfl (decide_eq_true (by decide +kernel))) (fun h_ H_ => exd_eqlS (l := (writeB ([([97, 97] : List UInt8), ([97, 98] : List UInt8)] : List By)).1) (m := ([65, 65, 97, 65, 66, 126, 65, 66, 98, 65, 65, 126, 61, 54, 53, 55, 52] : List UInt8)) rfl rfl) rfl ?_
  refine rl_det (met_none rfl) (fun h_ H_ => exd_pick_t rfl (decide_eq_true (by decide +kernel)) (v := .bool (decide ((writeB ([([97, 97] : List UInt8), ([97, 98] : List UInt8)] : List By)).1 = ([65, 65, 97, 65, 66, 126, 65, 66, 98, 65, 65, 126, 61, 54, 53, 55, 52] : List UInt8)))) rfl) rfl ?_
  refine rl_det (met_none rfl) (fun h_ H_ => exd_move (v := .bool (decide ((writeB ([([97, 97] : List UInt8), ([97, 98] : List UInt8)] : List By)).1 = ([65, 65, 97, 65, 66, 126, 65, 66, 98, 65, 65, 126, 61, 54, 53, 55, 52] : List UInt8)))) rfl) (tm' := [_,_,_,_,_,_,_,_,_,_,_,_,_,_,_,_,_,_,_,_,_,_,_,_,_,_,_,_,_,_,_,_,_,_,_,_,_,_,_,_,_,_,_,_,_,_,_,_,_,_,_,_,_,_,_,_,_,_,_,_,_,_,_,_,_,_,_,_,_,_,_,_,_,_,_,_]) rfl ?_
  refine rl_det (met_some rfl rfl (decide_eq_true (by decide +kernel))) (fun h_ H_ => exd_move (v := .int .i64 ((usesB ([([97, 97] : List UInt8), ([97, 98] : List UInt8)] : List By) 1).1)) rfl) rfl ?_
  refine rl_det (met_some rfl rfl (decide_eq_true (by decide +kernel))) (fun h_ H_ => exd_eql rfl rfl) rfl ?_
  refine rl_det (met_none rfl) (fun h_ H_ => exd_pick_t rfl (decide_eq_true (by decide +kernel)) (v := .bool (decide ((usesB ([([97, 97] : List UInt8), ([97, 98] : List UInt8)] : List By) 1).1 = 2))) rfl) (tm' := [_,_,_,_,_,_,_,_,_,_,_,_,_,_,_,_,_,_,_,_,_,_,_,_,_,_,_,_,_,_,_,_,_,_,_,_,_,_,_,_,_,_,_,_,_,_,_,_,_,_,_,_,_,_,_,_,_,_,_,_,_,_,_,_,_,_,_,_,_,_,_,_,_,_,_,_]) rfl ?_
  refine rl_det (met_none rfl) (fun h_ H_ => exd_move (v := .bool (decide ((usesB ([([97, 97] : List UInt8), ([97, 98] : List UInt8)] : List By) 1).1 = 2))) rfl) rfl ?_
  refine rl_det (met_some rfl rfl (decide_eq_true (by decide +kernel))) (fun h_ H_ => exd_move (v := .int .i64 ((sumB ([65, 65, 120] : List UInt8)).1)) rfl) rfl ?_
  refine rl_det (met_some rfl rfl (decide_eq_true (by decide +kernel))) (fun h_ H_ => exd_eql rfl rfl) (tm' := [_,_,_,_,_,_,_,_,_,_,_,_,_,_,_,_,_,_,_,_,_,_,_,_,_,_,_,_,_,_,_,_,_,_,_,_,_,_,_,_,_,_,_,_,_,_,_,_,_,_,_,_,_,_,_,_,_,_,_,_,_,_,_,_,_,_,_,_,_,_,_,_,_,_,_,_]) rfl ?_
  refine rl_det (met_none rfl) (fun h_ H_ => exd_pick_t rfl (decide_eq_true (by decide +kernel)) (v := .bool (decide ((sumB ([65, 65, 120] : List UInt8)).1 = 555))) rfl) rfl ?_
  refine rl_det (met_none rfl) (fun h_ H_ => exd_move (v := .bool (decide ((sumB ([65, 65, 120] : List UInt8)).1 = 555))) rfl) rfl ?_
  refine rl_det (met_some rfl rfl (decide_eq_true (by decide +kernel))) (fun h_ H_ => exd_move (v := w19) rfl) (tm' := [_,_,_,_,_,_,_,_,_,_,_,_,_,_,_,_,_,_,_,_,_,_,_,_,_,_,_,_,_,_,_,_,_,_,_,_,_,_,_,_,_,_,_,_,_,_,_,_,_,_,_,_,_,_,_,_,_,_,_,_,_,_,_,_,_,_,_,_,_,_,_,_,_,_,_,_]) rfl ?_
  refine rl_buildO ([] : Pcs) (met_some rfl rfl (decide_eq_true (by decide +kernel))) Tryd.underlying22 tS9 tZ9 (Nat.le_of_ble_eq_true rfl) (vs := [(0, sv ([] : List UInt8)), (1, sv ([] : List UInt8))]) rfl rfl (es := [[sv ([] : List UInt8)], [sv ([] : List UInt8)]]) rfl rfl rfl fun v22 X23 o24 => ?_
  have o25 : OwnS 9 1 v22 (scs ([([] : List UInt8), ([] : List UInt8)] : List By)) X23 := o24
  refine rl_perm (List.Perm.append_left _ (List.perm_append_comm_assoc _ _ _)) ?_
  refine rl_own (L' := ([] : Pcs) ++ (X20 ++ (X23 ++ []))) rfl ?_
  refine rl_lastN (A := ([] : Pcs)) o21 (scs_length _) fun p26 a27 cp28 le29 ev_ D30 => ?_
  subst ev_
  refine rl_lastN (A := ([] : Pcs)) o25 (scs_length _) fun p31 a32 cp33 le34 ev_ D35 => ?_
  subst ev_
  refine rl_own (L' := []) rfl ?_
  refine rl_calld (met_some rfl rfl (decide_eq_true (by decide +kernel))) (first := []) (cap := []) rfl rfl fC19 (fun h_ H_ => c19 .lone _ _ (fun b_ o_ e_ => H_.per b_ o_ e_) a27 a32 (((readB ([65, 65, 126, 65, 66, 61, 49, 49, 54, 51] : List UInt8)).2).length) (([([] : List UInt8), ([] : List UInt8)] : List By).length) _ _ ((readB ([65, 65, 126, 65, 66, 61, 49, 49, 54, 51] : List UInt8)).2) ([([] : List UInt8), ([] : List UInt8)] : List By) ((show Strs _ _ _ ((readB ([65, 65, 126, 65, 66, 61, 49, 49, 54, 51] : List UInt8)).2) from D30).mono le34) (show Strs _ _ _ ([([] : List UInt8), ([] : List UInt8)] : List By) from D35) (by decide +kernel)) rfl ?_
  refine rl_det (met_none rfl) (fun h_ H_ => exd_pick_t rfl (decide_eq_true (by decide +kernel)) (v := .bool (decide ((readB ([65, 65, 126, 65, 66, 61, 49, 49, 54, 51] : List UInt8)).2 = ([([] : List UInt8), ([] : List UInt8)] : List By)))) rfl) (tm' := [_,_,_,_,_,_,_,_,_,_,_,_,_,_,_,_,_,_,_,_,_,_,_,_,_,_,_,_,_,_,_,_,_,_,_,_,_,_,_,_,_,_,_,_,_,_,_,_,_,_,_,_,_,_,_,_,_,_,_,_,_,_,_,_,_,_,_,_,_,_,_,_,_,_,_,_]) rfl ?_
  refine rl_det (met_none rfl) (fun h_ H_ => exd_move (v := .bool (decide ((readB ([65, 65, 126, 65, 66, 61, 49, 49, 54, 51] : List UInt8)).2 = ([([] : List UInt8), ([] : List UInt8)] : List By)))) rfl) rfl ?_
  refine rl_det (met_some rfl rfl (decide_eq_true (by decide +kernel))) (fun h_ H_ => exd_move (v := sv ((addB ([65, 65, 120, 65, 65, 126, 61, 49, 56, 57, 54] : List UInt8) ([120] : List UInt8)).1)) rfl) rfl ?_
  refine rl_det (met_some rfl rfl (decide_eq_true (by decide +kernel))) (fun h_ H_ => exd_eqlS (l := (addB ([65, 65, 120, 65, 65, 126, 61, 49, 56, 57, 54] : List UInt8) ([120] : List UInt8)).1) (m := ([65, 65, 120, 65, 65, 126, 65, 66, 126, 61, 52, 48, 49, 51] : List UInt8)) rfl rfl) (tm' := [_,_,_,_,_,_,_,_,_,_,_,_,_,_,_,_,_,_,_,_,_,_,_,_,_,_,_,_,_,_,_,_,_,_,_,_,_,_,_,_,_,_,_,_,_,_,_,_,_,_,_,_,_,_,_,_,_,_,_,_,_,_,_,_,_,_,_,_,_,_,_,_,_,_,_,_]) rfl ?_
  refine rl_det (met_none rfl) (fun h_ H_ => exd_pick_t rfl (decide_eq_true (by decide +kernel)) (v := .bool (decide ((addB ([65, 65, 120, 65, 65, 126, 61, 49, 56, 57, 54] : List UInt8) ([120] : List UInt8)).1 = ([65, 65, 120, 65, 65, 126, 65, 66, 126, 61, 52, 48, 49, 51] : List UInt8)))) rfl) rfl ?_
  refine rl_det (met_none rfl) (fun h_ H_ => exd_move (v := .bool (decide ((addB ([65, 65, 120, 65, 65, 126, 61, 49, 56, 57, 54] : List UInt8) ([120] : List UInt8)).1 = ([65, 65, 120, 65, 65, 126, 65, 66, 126, 61, 52, 48, 49, 51] : List UInt8)))) rfl) rfl ?_
  refine rl_calld (met_some rfl rfl (decide_eq_true (by decide +kernel))) (first := []) (cap := []) rfl rfl fC20 (fun h_ H_ => c20 _ (htab.keep H_.kept) ([65, 66, 126, 61, 48, 53, 55, 53] : List UInt8) (by decide)) (tm' := [_,_,_,_,_,_,_,_,_,_,_,_,_,_,_,_,_,_,_,_,_,_,_,_,_,_,_,_,_,_,_,_,_,_,_,_,_,_,_,_,_,_,_,_,_,_,_,_,_,_,_,_,_,_,_,_,_,_,_,_,_,_,_,_,_,_,_,_,_,_,_,_,_,_,_,_]) rfl ?_
  refine rl_det (met_some rfl rfl (decide_eq_true (by decide +kernel))) (fun h_ H_ => exd_eql rfl rfl) rfl ?_
  refine rl_det (met_none rfl) (fun h_ H_ => exd_pick_t rfl (decide_eq_true (by decide +kernel)) (v := .bool (decide (stateB ([65, 66, 126, 61, 48, 53, 55, 53] : List UInt8) = 4))) rfl) rfl ?_
  refine rl_det (met_none rfl) (fun h_ H_ => exd_assign (v := .bool (decide (stateB ([65, 66, 126, 61, 48, 53, 55, 53] : List UInt8) = 4))) rfl) (tm' := _::_) rfl ?_
  refine rl_end ?_
  refine fl_ret Tryd.func16 rfl (vs := [.bool (decide (stateB ([65, 66, 126, 61, 48, 53, 55, 53] : List UInt8) = 4))]) (fun h_ H_ => ⟨.bool (decide (stateB ([65, 66, 126, 61, 48, 53, 55, 53] : List UInt8) = 4)), _, rfl, rfl, rfl⟩) (v := .bool (decide (stateB ([65, 66, 126, 61, 48, 53, 55, 53] : List UInt8) = 4))) rfl ?_
  exact fun h_ H_ => K _ _ ⟨by rw [decide_eq_true (by decide +kernel)], H_.kept⟩
theorem c17 (h : Heap) (p : PHeap) (hp : Per p h) (htab : Tab h) (a : Option Addr) (n c : Nat) (ts : List By) (T : Strs p a n ts) (hn : n ≤ 1000) (ht : ∀ i, i < n → (ts.getD i []).length ≤ 2 ^ 60) : CallsX Tryd.prog .lone 17 #[.slice a n c] h fun v h' => v = .tuple #[sv (writeB ts).1, .bool (decide (wrOk ts))] ∧ Keep h h' := by
  refine calls_intro (Φ := fun h_ => St h [] p h_ []) Tryd.func17 rfl (tm := [_, _, _, _, _, _, _, _, _, _, _, _, _, _, _, _, _, _, _, _, _, _, _, _, _, _]) rfl ?_ (St.start h _ hp)
  intro c₀ cs Stop K
  have hl := T.len
  refine fl_seq ?_
  refine rl_start ?_
  refine rl_det (met_none rfl) (fun h_ H_ => exd_assign (v := sv ([] : List UInt8)) rfl) rfl ?_
  refine rl_det (met_none rfl) (fun h_ H_ => exd_assign (v := .bool (false)) rfl) rfl ?_
  refine rl_end ?_
  refine fl_seq ?_
  refine rl_start ?_
  refine rl_own (L' := ([] : Pcs) ++ []) rfl ?_
  refine rl_buildO ([] : Pcs) (met_none rfl) Tryd.underlying22 tS9 tZ9 (Nat.le_of_ble_eq_true rfl) (vs := []) rfl rfl (es := []) rfl rfl rfl fun v1 X2 o3 => ?_
  have o4 : OwnS 9 1 v1 (scs ([] : List By)) X2 := o3
  refine rl_norm (tm' := _::_::_::_::_::_::_::_::_) rfl ?_
  refine rl_det (met_none rfl) (fun h_ H_ => exd_move (v := .slice a n c) rfl) rfl ?_
  refine rl_appendP ([] : Pcs) X2 (met_none rfl) Tryd.underlying22 tS9 tZ9 rfl tB9 Tryd.underlying22 rfl rfl o4 T (scs_ones _) (by show (0 + _) * _ ≤ _; omega) (by decide) (by decide) fun v5 X6 o7 => ?_
  have o8 : OwnS 9 1 v5 (scs ts) X6 := o7.as rfl
  refine rl_lastN (A := ([] : Pcs)) o8 (scs_length _) fun p9 a10 cp11 le12 ev_ D13 => ?_
  subst ev_
  refine rl_own (L' := []) rfl ?_
  refine rl_calld (met_none rfl) (first := []) (cap := []) rfl rfl fC45 (fun h_ H_ => c45 _ _ (fun b_ o_ e_ => H_.per b_ o_ e_) (htab.keep H_.kept) a10 ts.length _ ts (show Strs _ _ _ ts from D13) (by omega) (fun i_ h_ => ht i_ (by omega))) (tm' := _::_::_::_::_::_::_::_::_::_::_::_) rfl ?_
  refine rl_det (met_none rfl) (fun h_ H_ => exd_move (v := .tuple #[sv ((writeB ts).1), .int .i64 ((writeB ts).2)]) rfl) rfl ?_
  refine rl_det (met_none rfl) (fun h_ H_ => exd_extract rfl (v := sv ((writeB ts).1)) rfl) rfl ?_
  refine rl_det (met_none rfl) (fun h_ H_ => exd_extract rfl (v := .int .i64 ((writeB ts).2)) rfl) (tm' := _::_::_::_::_::_::_::_::_::_::_::_::_::_) rfl ?_
  refine rl_det (met_none rfl) (fun h_ H_ => exd_assign (v := sv ((writeB ts).1)) rfl) rfl ?_
  refine rl_det (met_none rfl) (fun h_ H_ => exd_assign (v := .int .i64 ((writeB ts).2)) rfl) rfl ?_
  refine rl_end ?_
  refine fl_seq ?_
  refine rl_start ?_
  refine rl_det (met_none rfl) (fun h_ H_ => exd_move (v := sv ((writeB ts).1)) rfl) (tm' := _::_::_::_::_::_::_::_::_::_::_::_::_::_::_) rfl ?_
  refine rl_det (met_none rfl) (fun h_ H_ => exd_move (v := .int .i64 ((writeB ts).2)) rfl) rfl ?_
  refine rl_det (met_none rfl) (fun h_ H_ => exd_eql rfl rfl) rfl ?_
  refine rl_det (met_none rfl) (fun h_ H_ => exd_move (v := .bool (decide ((writeB ts).2 = 0))) rfl) (tm' := _::_::_::_::_::_::_::_::_::_::_::_::_::_::_::_::_::_) rfl ?_
  by_cases cc14 : (writeB ts).2 = 0
  · refine rl_det (met_some rfl rfl (decide_eq_true cc14)) (fun h_ H_ => exd_move (v := sv ((writeB ts).1)) rfl) rfl ?_
    refine rl_det (met_some rfl rfl (decide_eq_true cc14)) (fun h_ H_ => exd_lenS (l := (writeB ts).1) Tryd.underlying9 rfl) rfl ?_
    refine rl_det (met_some rfl rfl (decide_eq_true cc14)) (fun h_ H_ => exd_geq rfl rfl) (tm' := [_,_,_,_,_,_,_,_,_,_,_,_,_,_,_,_,_,_,_,_,_,_,_,_,_,_]) rfl ?_
    refine rl_det (met_none rfl) (fun h_ H_ => exd_pick_t rfl (decide_eq_true cc14) (v := .bool (decide (5 ≤ ((((writeB ts).1).length : Nat) : Int)))) rfl) rfl ?_
    refine rl_det (met_none rfl) (fun h_ H_ => exd_move (v := .bool (decide (5 ≤ ((((writeB ts).1).length : Nat) : Int)))) rfl) rfl ?_
    by_cases cc15 : 5 ≤ ((((writeB ts).1).length : Nat) : Int)
    · refine rl_det (met_some rfl rfl (decide_eq_true cc15)) (fun h_ H_ => exd_move (v := sv ((writeB ts).1)) rfl) (tm' := [_,_,_,_,_,_,_,_,_,_,_,_,_,_,_,_,_,_,_,_,_,_,_,_,_,_]) rfl ?_
      refine rl_det (met_some rfl rfl (decide_eq_true cc15)) (fun h_ H_ => exd_lenS (l := (writeB ts).1) Tryd.underlying9 rfl) rfl ?_
      refine rl_det (met_some rfl rfl (decide_eq_true cc15)) (fun h_ H_ => exd_leq rfl rfl) rfl ?_
      refine rl_det (met_none rfl) (fun h_ H_ => exd_pick_t rfl (decide_eq_true cc15) (v := .bool (decide (((((writeB ts).1).length : Nat) : Int) ≤ 1400))) rfl) (tm' := [_,_,_,_,_,_,_,_,_,_,_,_,_,_,_,_,_,_,_,_,_,_,_,_,_,_]) rfl ?_
      refine rl_det (met_none rfl) (fun h_ H_ => exd_assign (v := sv ((writeB ts).1)) rfl) rfl ?_
      refine rl_det (met_none rfl) (fun h_ H_ => exd_assign (v := .bool (decide (((((writeB ts).1).length : Nat) : Int) ≤ 1400))) rfl) rfl ?_
      refine rl_end ?_
      refine fl_ret Tryd.func17 rfl (vs := [sv ((writeB ts).1), .bool (decide (((((writeB ts).1).length : Nat) : Int) ≤ 1400))]) (fun h_ H_ => ⟨sv ((writeB ts).1), _, rfl, rfl, ⟨.bool (decide (((((writeB ts).1).length : Nat) : Int) ≤ 1400)), _, rfl, rfl, rfl⟩⟩) (v := .tuple #[sv ((writeB ts).1), .bool (decide (((((writeB ts).1).length : Nat) : Int) ≤ 1400))]) rfl ?_
      exact fun h_ H_ => K _ _ ⟨congrArg (fun b_ => Value.tuple #[sv (writeB ts).1, .bool b_]) (decide_eq_decide.2 (by unfold wrOk; omega)), H_.kept⟩
    · refine rl_pass (met_not rfl rfl (decide_eq_false cc15)) (tm' := [_,_,_,_,_,_,_,_,_,_,_,_,_,_,_,_,_,_,_,_,_,_,_,_,_,_]) rfl ?_
      refine rl_pass (met_not rfl rfl (decide_eq_false cc15)) rfl ?_
      refine rl_pass (met_not rfl rfl (decide_eq_false cc15)) rfl ?_
      refine rl_det (met_none rfl) (fun h_ H_ => exd_pick_f rfl (decide_eq_false cc15) (v := .bool (false)) rfl) (tm' := [_,_,_,_,_,_,_,_,_,_,_,_,_,_,_,_,_,_,_,_,_,_,_,_,_,_]) rfl ?_
      refine rl_det (met_none rfl) (fun h_ H_ => exd_assign (v := sv ((writeB ts).1)) rfl) rfl ?_
      refine rl_det (met_none rfl) (fun h_ H_ => exd_assign (v := .bool (false)) rfl) rfl ?_
      refine rl_end ?_
      refine fl_ret Tryd.func17 rfl (vs := [sv ((writeB ts).1), .bool (false)]) (fun h_ H_ => ⟨sv ((writeB ts).1), _, rfl, rfl, ⟨.bool (false), _, rfl, rfl, rfl⟩⟩) (v := .tuple #[sv ((writeB ts).1), .bool (false)]) rfl ?_
      exact fun h_ H_ => K _ _ ⟨congrArg (fun b_ => Value.tuple #[sv (writeB ts).1, .bool b_]) ((decide_eq_false (by unfold wrOk; omega)).symm), H_.kept⟩
  · refine rl_pass (met_not rfl rfl (decide_eq_false cc14)) (tm' := [_,_,_,_,_,_,_,_,_,_,_,_,_,_,_,_,_,_,_,_,_,_,_,_,_,_]) rfl ?_
    refine rl_pass (met_not rfl rfl (decide_eq_false cc14)) rfl ?_
    refine rl_pass (met_not rfl rfl (decide_eq_false cc14)) rfl ?_
    refine rl_det (met_none rfl) (fun h_ H_ => exd_pick_f rfl (decide_eq_false cc14) (v := .bool (false)) rfl) (tm' := [_,_,_,_,_,_,_,_,_,_,_,_,_,_,_,_,_,_,_,_,_,_,_,_,_,_]) rfl ?_
    refine rl_det (met_none rfl) (fun h_ H_ => exd_move (v := .bool (false)) rfl) rfl ?_
    refine rl_pass (met_not rfl rfl rfl) rfl ?_
    refine rl_pass (met_not rfl rfl rfl) (tm' := [_,_,_,_,_,_,_,_,_,_,_,_,_,_,_,_,_,_,_,_,_,_,_,_,_,_]) rfl ?_
    refine rl_pass (met_not rfl rfl rfl) rfl ?_
    refine rl_det (met_none rfl) (fun h_ H_ => exd_pick_f rfl rfl (v := .bool (false)) rfl) rfl ?_
    refine rl_det (met_none rfl) (fun h_ H_ => exd_assign (v := sv ((writeB ts).1)) rfl) (tm' := _::_::_::_) rfl ?_
    refine rl_det (met_none rfl) (fun h_ H_ => exd_assign (v := .bool (false)) rfl) rfl ?_
    refine rl_end ?_
    refine fl_ret Tryd.func17 rfl (vs := [sv ((writeB ts).1), .bool (false)]) (fun h_ H_ => ⟨sv ((writeB ts).1), _, rfl, rfl, ⟨.bool (false), _, rfl, rfl, rfl⟩⟩) (v := .tuple #[sv ((writeB ts).1), .bool (false)]) rfl ?_
    exact fun h_ H_ => K _ _ ⟨congrArg (fun b_ => Value.tuple #[sv (writeB ts).1, .bool b_]) ((decide_eq_false (by unfold wrOk; omega)).symm), H_.kept⟩
theorem c41 (h : Heap) (p : PHeap) (hp : Per p h) (a : Option Addr) (n c : Nat) (ts : List By) (T : Strs p a n ts) (hn : n ≤ 1000) (ht : ∀ i, i < n → (ts.getD i []).length ≤ 2 ^ 60) : CallsX Tryd.prog .lone 41 #[.slice a n c] h fun v h' => ∃ w X, v = .tuple #[w, .bool (decide (chkT ts = 0))] ∧ OwnS 9 1 w (scs (pcB ts)) X ∧ New h h' X := by
  refine calls_intro (Φ := fun h_ => St h [] p h_ []) Tryd.func41 rfl (tm := [_, _, _, _, _, _, _, _, _, _, _, _, _, _, _, _, _, _, _, _, _, _, _, _, _, _, _, _, _, _, _, _, _, _, _, _, _, _, _, _, _, _]) rfl ?_ (St.start h _ hp)
  intro c₀ cs Stop K
  have hl := T.len
  refine fl_seq ?_
  refine rl_start ?_
  refine rl_det (met_none rfl) (fun h_ H_ => exd_assign (v := .slice none 0 0) rfl) rfl ?_
  refine rl_det (met_none rfl) (fun h_ H_ => exd_assign (v := .bool (false)) rfl) (tm' := _::_::_::_::_) rfl ?_
  refine rl_end ?_
  refine fl_seq ?_
  refine rl_start ?_
  refine rl_own (L' := ([] : Pcs) ++ []) rfl ?_
  refine rl_buildO ([] : Pcs) (met_none rfl) Tryd.underlying22 tS9 tZ9 (Nat.le_of_ble_eq_true rfl) (vs := []) rfl rfl (es := []) rfl rfl rfl fun v1 X2 o3 => ?_
  have o4 : OwnS 9 1 v1 (scs ([] : List By)) X2 := o3
  refine rl_det (met_none rfl) (fun h_ H_ => exd_move (v := .slice a n c) rfl) rfl ?_
  refine rl_appendP ([] : Pcs) X2 (met_none rfl) Tryd.underlying22 tS9 tZ9 rfl tB9 Tryd.underlying22 rfl rfl o4 T (scs_ones _) (by show (0 + _) * _ ≤ _; omega) (by decide) (by decide) fun v5 X6 o7 => ?_
  have o8 : OwnS 9 1 v5 (scs ts) X6 := o7.as rfl
  refine rl_norm (tm' := _::_::_::_::_::_::_::_::_::_::_::_) rfl ?_
  refine rl_lastN (A := ([] : Pcs)) o8 (scs_length _) fun p9 a10 cp11 le12 ev_ D13 => ?_
  subst ev_
  refine rl_own (L' := []) rfl ?_
  refine rl_own (L' := ([] : Pcs) ++ []) rfl ?_
  refine rl_call (met_none rfl) (first := []) (cap := []) rfl rfl fC47 (R := fun v_ h_ => ∃ w14 : Value, ∃ X15 : Pcs, v_ = .tuple #[w14, .int .i64 (chkT ts)] ∧ (OwnS 9 1 w14 (scs (pcB ts)) X15) ∧ St h [] p9 h_ (([] : Pcs) ++ (X15 ++ []))) (fun h_ H_ => (c47 _ _ (fun b_ o_ e_ => H_.per b_ o_ e_) a10 ts.length _ ts (show Strs _ _ _ ts from D13) (by omega) (fun i_ h_ => ht i_ (by omega))).mono fun v_ h2_ ⟨w14, X15, e_, o16, N_⟩ => ⟨w14, X15, e_, o16, H_.callNA N_⟩) fun v_ => ?_
  refine rl_ex fun w14 => rl_ex fun X15 => rl_and fun ev_ => rl_and fun o16 => ?_
  have ev_ := ev_.symm; subst ev_
  refine rl_own (L' := ([] : Pcs) ++ (X15 ++ [])) rfl ?_
  refine rl_det (met_none rfl) (fun h_ H_ => exd_move (v := .tuple #[w14, .int .i64 (chkT ts)]) rfl) rfl ?_
  refine rl_det (met_none rfl) (fun h_ H_ => exd_extract rfl (v := w14) rfl) (tm' := _::_::_::_::_::_::_::_::_::_::_::_::_::_) rfl ?_
  refine rl_det (met_none rfl) (fun h_ H_ => exd_extract rfl (v := .int .i64 (chkT ts)) rfl) rfl ?_
  refine rl_det (met_none rfl) (fun h_ H_ => exd_assign (v := w14) rfl) rfl ?_
  refine rl_det (met_none rfl) (fun h_ H_ => exd_assign (v := .int .i64 (chkT ts)) rfl) (tm' := _::_::_::_::_::_::_) rfl ?_
  refine rl_end ?_
  refine fl_seq ?_
  refine fl_seq ?_
  refine rl_start ?_
  refine rl_det (met_none rfl) (fun h_ H_ => exd_move (v := .int .i64 (chkT ts)) rfl) rfl ?_
  refine rl_det (met_none rfl) (fun h_ H_ => exd_neq rfl rfl) rfl ?_
  refine rl_det (met_none rfl) (fun h_ H_ => exd_move (v := .bool (decide (chkT ts ≠ 0))) rfl) (tm' := _::_::_::_::_::_::_::_::_::_::_::_::_::_::_::_::_::_) rfl ?_
  by_cases cc17 : chkT ts ≠ 0
  · refine rl_pass (met_not rfl rfl (decide_eq_true cc17)) rfl ?_
    refine rl_pass (met_not rfl rfl (decide_eq_true cc17)) rfl ?_
    refine rl_pass (met_not rfl rfl (decide_eq_true cc17)) (tm' := _::_::_::_::_::_::_::_::_::_::_::_::_::_::_::_::_::_::_::_::_) rfl ?_
    refine rl_det (met_none rfl) (fun h_ H_ => exd_pick_t rfl (decide_eq_true cc17) (v := .bool (true)) rfl) rfl ?_
    refine rl_end ?_
    refine fl_then rfl rfl ?_
    refine fl_seq ?_
    refine rl_start ?_
    refine rl_det (met_none rfl) (fun h_ H_ => exd_assign (v := .slice none 0 0) rfl) rfl ?_
    refine rl_det (met_none rfl) (fun h_ H_ => exd_assign (v := .bool (false)) rfl) (tm' := _::_::_::_::_) rfl ?_
    refine rl_end ?_
    refine fl_ret Tryd.func41 rfl (vs := [.slice none 0 0, .bool (false)]) (fun h_ H_ => ⟨.slice none 0 0, _, rfl, rfl, ⟨.bool (false), _, rfl, rfl, rfl⟩⟩) (v := .tuple #[.slice none 0 0, .bool (false)]) rfl ?_
    exact fun h_ H_ => K _ _ ⟨.slice none 0 0, [], by rw [decide_eq_false ‹_›], by rw [pcB, if_pos ‹_›]; exact OwnS.empty _ _, (H_.sub (List.nil_sublist _)).new⟩
  · refine rl_det (met_some rfl rfl (decide_eq_false cc17)) (fun h_ H_ => exd_move (v := w14) rfl) rfl ?_
    refine rl_det (met_some rfl rfl (decide_eq_false cc17)) (fun h_ H_ => exd_lenN o16 (scs_length _) Tryd.underlying22 rfl) rfl ?_
    refine rl_det (met_some rfl rfl (decide_eq_false cc17)) (fun h_ H_ => exd_gtr rfl rfl) (tm' := _::_::_::_::_::_::_::_::_::_::_::_::_::_::_::_::_::_::_::_::_) rfl ?_
    refine rl_det (met_none rfl) (fun h_ H_ => exd_pick_f rfl (decide_eq_false cc17) (v := .bool (decide (1000 < (((pcB ts).length : Nat) : Int)))) rfl) rfl ?_
    refine rl_end ?_
    by_cases cc18 : 1000 < (((pcB ts).length : Nat) : Int)
    · exact absurd cc18 (by have hpn_ := pc_len ‹¬ chkT ts ≠ 0›; omega)
    · refine fl_else rfl (decide_eq_false cc18) ?_
      refine fl_skip ?_
      refine fl_seq ?_
      refine fl_seq ?_
      have hk0 : chkT ts = 0 := Decidable.not_not.1 ‹_›
      have hq : ∀ i, i < (pcB ts).length → ((pcB ts).getD i []).length ≤ 1000 := long_pc ‹¬ chkT ts ≠ 0›
      have hpn := pc_len ‹¬ chkT ts ≠ 0›
      refine rl_start ?_
      refine rl_det (met_none rfl) (fun h_ H_ => exd_assign (v := .int .i64 0) rfl) rfl ?_
      refine rl_end ?_
      refine fl_block ?_
      refine fl_loop (m₀ := (pcB ts).length - 0) (fun m_ tm_ h_ => ∃ (k : Nat), m_ = (pcB ts).length - k ∧ (∃ y19 : Nat → Value, tm_ = [.slice a n c, undef, (y19 2), (y19 3), w14, .int .i64 (chkT ts), .int .i64 (((k : Nat) : Int)), .tuple #[w14, .int .i64 (chkT ts)], v1, .slice a n c, .slice a10 ts.length cp11, .tuple #[w14, .int .i64 (chkT ts)], w14, .int .i64 (chkT ts), .int .i64 (chkT ts), .bool (decide (chkT ts ≠ 0)), .bool (decide (chkT ts ≠ 0)), w14, .int .i64 ((((pcB ts).length : Nat) : Int)), .bool (decide (1000 < (((pcB ts).length : Nat) : Int))), .bool (decide (1000 < (((pcB ts).length : Nat) : Int))), (y19 21), (y19 22), (y19 23), (y19 24), (y19 25), (y19 26), (y19 27), (y19 28), (y19 29), (y19 30), (y19 31), (y19 32), (y19 33), (y19 34), (y19 35), (y19 36), (y19 37), (y19 38), (y19 39), (y19 40), undef]) ∧ (k ≤ (pcB ts).length) ∧ St h [] p9 h_ (([] : Pcs) ++ (X15 ++ []))) (fun h_ H_ => ⟨0, rfl, (y_of rfl), Nat.zero_le _, H_⟩) ?_
      intro m_ tm_ IH20
      refine rs_ex fun k => rs_and fun hm_ => rs_and fun ht_ => rs_and fun hk => ?_
      subst hm_; obtain ⟨y19, ht_⟩ := ht_; subst ht_
      refine fl_seq ?_
      refine fl_seq ?_
      refine rl_start ?_
      refine rl_det (met_none rfl) (fun h_ H_ => exd_move (v := .int .i64 (((k : Nat) : Int))) rfl) (tm' := _::_::_::_::_::_::_::_::_::_::_::_::_::_::_::_::_::_::_::_::_::_::_) rfl ?_
      refine rl_det (met_none rfl) (fun h_ H_ => exd_move (v := w14) rfl) rfl ?_
      refine rl_det (met_none rfl) (fun h_ H_ => exd_lenN o16 (scs_length _) Tryd.underlying22 rfl) rfl ?_
      refine rl_det (met_none rfl) (fun h_ H_ => exd_lss rfl rfl) (tm' := _::_::_::_::_::_::_::_::_::_::_::_::_::_::_::_::_::_::_::_::_::_::_::_::_::_) rfl ?_
      refine rl_end ?_
      by_cases cc21 : ((k : Nat) : Int) < (((pcB ts).length : Nat) : Int)
      · refine fl_then rfl (decide_eq_true cc21) ?_
        refine fl_skip ?_
        refine fl_seq ?_
        refine fl_block ?_
        refine fl_seq ?_
        refine rl_start ?_
        refine rl_det (met_none rfl) (fun h_ H_ => exd_move (v := w14) rfl) rfl ?_
        refine rl_det (met_none rfl) (fun h_ H_ => exd_move (v := .int .i64 (((k : Nat) : Int))) rfl) rfl ?_
        refine rl_det (met_none rfl) (fun h_ H_ => exd_indexO o16 Tryd.underlying22 tS9 rfl rfl (by rw [(scs_length _)]; omega)) (tm' := [_,_,_,_,_,_,_,_,_,_,_,_,_,_,_,_,_,_,_,_,_,_,_,_,_,_,_,_,_,_,_,_,_,_,_,_,_,_,_,_,_,_]) rfl ?_
        refine rl_det (met_none rfl) (fun h_ H_ => exd_loadO (A := ([] : Pcs)) (i := k) (j := 0) (e := [sv ((pcB ts).getD k [])]) o16 H_ tA9 rfl rfl (scs_at (by omega)) (u := sv ((pcB ts).getD k [])) rfl) rfl ?_
        refine rl_det (met_none rfl) (fun h_ H_ => exd_lenS (l := (pcB ts).getD k []) Tryd.underlying9 rfl) rfl ?_
        refine rl_det (met_none rfl) (fun h_ H_ => exd_lss rfl rfl) (tm' := [_,_,_,_,_,_,_,_,_,_,_,_,_,_,_,_,_,_,_,_,_,_,_,_,_,_,_,_,_,_,_,_,_,_,_,_,_,_,_,_,_,_]) rfl ?_
        refine rl_det (met_none rfl) (fun h_ H_ => exd_move (v := .bool (decide (((((pcB ts).getD k []).length : Nat) : Int) < 1))) rfl) rfl ?_
        by_cases cc22 : ((((pcB ts).getD k []).length : Nat) : Int) < 1
        · exact absurd cc22 (by have hq_ := pc_pos (ts := ts) (i := k) (by omega); omega)
        · refine rl_det (met_some rfl rfl (decide_eq_false cc22)) (fun h_ H_ => exd_move (v := w14) rfl) rfl ?_
          refine rl_det (met_some rfl rfl (decide_eq_false cc22)) (fun h_ H_ => exd_move (v := .int .i64 (((k : Nat) : Int))) rfl) (tm' := [_,_,_,_,_,_,_,_,_,_,_,_,_,_,_,_,_,_,_,_,_,_,_,_,_,_,_,_,_,_,_,_,_,_,_,_,_,_,_,_,_,_]) rfl ?_
          refine rl_det (met_some rfl rfl (decide_eq_false cc22)) (fun h_ H_ => exd_indexO o16 Tryd.underlying22 tS9 rfl rfl (by rw [(scs_length _)]; omega)) rfl ?_
          refine rl_det (met_some rfl rfl (decide_eq_false cc22)) (fun h_ H_ => exd_loadO (A := ([] : Pcs)) (i := k) (j := 0) (e := [sv ((pcB ts).getD k [])]) o16 H_ tA9 rfl rfl (scs_at (by omega)) (u := sv ((pcB ts).getD k [])) rfl) rfl ?_
          refine rl_det (met_some rfl rfl (decide_eq_false cc22)) (fun h_ H_ => exd_lenS (l := (pcB ts).getD k []) Tryd.underlying9 rfl) (tm' := [_,_,_,_,_,_,_,_,_,_,_,_,_,_,_,_,_,_,_,_,_,_,_,_,_,_,_,_,_,_,_,_,_,_,_,_,_,_,_,_,_,_]) rfl ?_
          refine rl_det (met_some rfl rfl (decide_eq_false cc22)) (fun h_ H_ => exd_gtr rfl rfl) rfl ?_
          refine rl_det (met_none rfl) (fun h_ H_ => exd_pick_f rfl (decide_eq_false cc22) (v := .bool (decide (1000 < ((((pcB ts).getD k []).length : Nat) : Int)))) rfl) rfl ?_
          refine rl_end ?_
          by_cases cc23 : 1000 < ((((pcB ts).getD k []).length : Nat) : Int)
          · exact absurd cc23 (by have hq_ := hq k (by omega); omega)
          · refine fl_else rfl (decide_eq_false cc23) ?_
            refine fl_skip ?_
            refine fl_inBlock ?_
            refine rl_start ?_
            refine rl_det (met_none rfl) (fun h_ H_ => exd_move (v := .int .i64 (((k : Nat) : Int))) rfl) (tm' := _::_::_::_::_::_::_::_::_::_::_::_::_::_::_::_::_::_::_::_::_::_::_::_::_::_::_) rfl ?_
            refine rl_det (met_none rfl) (fun h_ H_ => exd_add rfl rfl (n := ((k + 1 : Nat) : Int)) (wr (by omega))) rfl ?_
            refine rl_det (met_none rfl) (fun h_ H_ => exd_assign (v := .int .i64 (((k + 1 : Nat) : Int))) rfl) rfl ?_
            refine rl_end ?_
            exact fun h_ H_ => IH20 _ _ (by omega) h_ ⟨k + 1, rfl, (y_of rfl), (by omega), H_⟩
      · refine fl_else rfl (decide_eq_false cc21) ?_
        refine fl_exit rfl ?_
        refine fl_seq ?_
        refine rl_start ?_
        refine rl_det (met_none rfl) (fun h_ H_ => exd_move (v := w14) rfl) (tm' := [_,_,_,_,_,_,_,_,_,_,_,_,_,_,_,_,_,_,_,_,_,_,_,_,_,_,_,_,_,_,_,_,_,_,_,_,_,_,_,_,_,_]) rfl ?_
        refine rl_det (met_none rfl) (fun h_ H_ => exd_assign (v := w14) rfl) rfl ?_
        refine rl_det (met_none rfl) (fun h_ H_ => exd_assign (v := .bool (true)) rfl) rfl ?_
        refine rl_end ?_
        refine fl_ret Tryd.func41 rfl (vs := [w14, .bool (true)]) (fun h_ H_ => ⟨w14, _, rfl, rfl, ⟨.bool (true), _, rfl, rfl, rfl⟩⟩) (v := .tuple #[w14, .bool (true)]) rfl ?_
        exact fun h_ H_ => K _ _ ⟨_, _, by rw [decide_eq_true hk0], o16, (H_.sub (by simp)).new⟩
theorem c21 (h : Heap) (htab : Tab h) (s : By) (hs : s.length ≤ 2 ^ 60) : CallsX Tryd.prog .lone 21 #[sv s] h fun v h' => v = .bool (decide ((readB s).1 ≠ 0)) ∧ Keep h h' := by
  refine calls_intro (Φ := fun h_ => St h [] (fun _ => none) h_ []) Tryd.func21 rfl (tm := [_, _, _, _, _, _, _, _, _, _, _, _, _, _, _, _, _, _, _, _, _, _, _, _, _, _, _, _, _, _, _, _, _, _, _, _, _, _, _, _]) rfl ?_ (St.start h _ (fun _ _ e => by cases e))
  intro c₀ cs Stop K
  refine fl_seq ?_
  refine rl_start ?_
  refine rl_det (met_none rfl) (fun h_ H_ => exd_assign (v := .bool (false)) rfl) (tm' := _::_::_::_) rfl ?_
  refine rl_end ?_
  refine fl_seq ?_
  refine rl_start ?_
  refine rl_det (met_none rfl) (fun h_ H_ => exd_move (v := sv s) rfl) rfl ?_
  refine rl_own (L' := ([] : Pcs) ++ []) rfl ?_
  refine rl_call (met_none rfl) (first := []) (cap := []) rfl rfl fC18 (R := fun v_ h_ => ∃ w1 : Value, ∃ X2 : Pcs, v_ = .tuple #[w1, .int .i64 ((readB s).1)] ∧ (OwnS 9 1 w1 (scs ((readB s).2)) X2) ∧ St h [] (fun _ => none) h_ (([] : Pcs) ++ (X2 ++ []))) (fun h_ H_ => (c18 _ (htab.keep H_.kept) s (by omega)).mono fun v_ h2_ ⟨w1, X2, e_, o3, N_⟩ => ⟨w1, X2, e_, o3, H_.callNA N_⟩) fun v_ => ?_
  refine rl_ex fun w1 => rl_ex fun X2 => rl_and fun ev_ => rl_and fun o3 => ?_
  have ev_ := ev_.symm; subst ev_
  refine rl_own (L' := ([] : Pcs) ++ (X2 ++ [])) rfl ?_
  refine rl_det (met_none rfl) (fun h_ H_ => exd_move (v := .tuple #[w1, .int .i64 ((readB s).1)]) rfl) (tm' := _::_::_::_::_::_::_::_) rfl ?_
  refine rl_det (met_none rfl) (fun h_ H_ => exd_extract rfl (v := w1) rfl) rfl ?_
  refine rl_det (met_none rfl) (fun h_ H_ => exd_extract rfl (v := .int .i64 ((readB s).1)) rfl) rfl ?_
  refine rl_det (met_none rfl) (fun h_ H_ => exd_assign (v := w1) rfl) (tm' := _::_::_::_::_) rfl ?_
  refine rl_det (met_none rfl) (fun h_ H_ => exd_assign (v := .int .i64 ((readB s).1)) rfl) rfl ?_
  refine rl_end ?_
  refine fl_seq ?_
  refine rl_start ?_
  refine rl_det (met_none rfl) (fun h_ H_ => exd_move (v := sv s) rfl) rfl ?_
  refine rl_calld (met_none rfl) (first := []) (cap := []) rfl rfl fC20 (fun h_ H_ => c20 _ (htab.keep H_.kept) s (by omega)) (tm' := _::_::_::_::_::_::_::_::_::_::_::_::_::_) rfl ?_
  refine rl_det (met_none rfl) (fun h_ H_ => exd_assign (v := .int .i64 (stateB s)) rfl) rfl ?_
  refine rl_end ?_
  refine fl_seq ?_
  refine rl_start ?_
  refine rl_det (met_none rfl) (fun h_ H_ => exd_move (v := w1) rfl) rfl ?_
  refine rl_det (met_none rfl) (fun h_ H_ => exd_lenN o3 (scs_length _) Tryd.underlying22 rfl) (tm' := _::_::_::_::_::_::_::_::_::_::_::_::_::_::_::_) rfl ?_
  refine rl_det (met_none rfl) (fun h_ H_ => exd_eql rfl rfl) rfl ?_
  refine rl_det (met_none rfl) (fun h_ H_ => exd_move (v := .bool (decide (((((readB s).2).length : Nat) : Int) = 0))) rfl) rfl ?_
  by_cases cc4 : ((((readB s).2).length : Nat) : Int) = 0
  · refine rl_det (met_some rfl rfl (decide_eq_true cc4)) (fun h_ H_ => exd_move (v := .int .i64 ((readB s).1)) rfl) (tm' := _::_::_::_::_::_::_::_::_::_::_::_::_::_::_::_::_::_::_) rfl ?_
    refine rl_det (met_some rfl rfl (decide_eq_true cc4)) (fun h_ H_ => exd_eql rfl rfl) rfl ?_
    refine rl_det (met_some rfl rfl (decide_eq_true cc4)) (fun h_ H_ => exd_move (v := .bool (decide ((readB s).1 = 140))) rfl) rfl ?_
    by_cases cc5 : (readB s).1 = 140
    · refine rl_det (met_some rfl rfl (decide_eq_true cc5)) (fun h_ H_ => exd_move (v := .int .i64 (stateB s)) rfl) (tm' := _::_::_::_::_::_::_::_::_::_::_::_::_::_::_::_::_::_::_::_::_::_) rfl ?_
      refine rl_det (met_some rfl rfl (decide_eq_true cc5)) (fun h_ H_ => exd_eql rfl rfl) rfl ?_
      refine rl_det (met_some rfl rfl (decide_eq_true cc4)) (fun h_ H_ => exd_pick_t rfl (decide_eq_true cc5) (v := .bool (decide (stateB s = 2))) rfl) rfl ?_
      refine rl_det (met_some rfl rfl (decide_eq_true cc4)) (fun h_ H_ => exd_move (v := .bool (decide (stateB s = 2))) rfl) (tm' := _::_::_::_::_::_::_::_::_::_::_::_::_::_::_::_::_::_::_::_::_::_::_::_::_) rfl ?_
      by_cases cc6 : stateB s = 2
      · refine rl_pass (met_not rfl rfl (decide_eq_true cc6)) rfl ?_
        refine rl_pass (met_not rfl rfl (decide_eq_true cc6)) rfl ?_
        refine rl_pass (met_not rfl rfl (decide_eq_true cc6)) (tm' := [_,_,_,_,_,_,_,_,_,_,_,_,_,_,_,_,_,_,_,_,_,_,_,_,_,_,_,_,_,_,_,_,_,_,_,_,_,_,_,_]) rfl ?_
        refine rl_pass (met_undef rfl rfl) rfl ?_
        refine rl_pass (met_undef rfl rfl) rfl ?_
        refine rl_pass (met_not rfl rfl (decide_eq_true cc6)) (tm' := [_,_,_,_,_,_,_,_,_,_,_,_,_,_,_,_,_,_,_,_,_,_,_,_,_,_,_,_,_,_,_,_,_,_,_,_,_,_,_,_]) rfl ?_
        refine rl_det (met_some rfl rfl (decide_eq_true cc4)) (fun h_ H_ => exd_pick_t rfl (decide_eq_true cc6) (v := .bool (true)) rfl) rfl ?_
        refine rl_det (met_some rfl rfl (decide_eq_true cc4)) (fun h_ H_ => exd_move (v := .bool (true)) rfl) rfl ?_
        refine rl_pass (met_not rfl rfl rfl) (tm' := [_,_,_,_,_,_,_,_,_,_,_,_,_,_,_,_,_,_,_,_,_,_,_,_,_,_,_,_,_,_,_,_,_,_,_,_,_,_,_,_]) rfl ?_
        refine rl_pass (met_not rfl rfl rfl) rfl ?_
        refine rl_pass (met_not rfl rfl rfl) rfl ?_
        refine rl_pass (met_undef rfl rfl) (tm' := [_,_,_,_,_,_,_,_,_,_,_,_,_,_,_,_,_,_,_,_,_,_,_,_,_,_,_,_,_,_,_,_,_,_,_,_,_,_,_,_]) rfl ?_
        refine rl_pass (met_undef rfl rfl) rfl ?_
        refine rl_pass (met_not rfl rfl rfl) rfl ?_
        refine rl_det (met_some rfl rfl (decide_eq_true cc4)) (fun h_ H_ => exd_pick_t rfl rfl (v := .bool (true)) rfl) (tm' := [_,_,_,_,_,_,_,_,_,_,_,_,_,_,_,_,_,_,_,_,_,_,_,_,_,_,_,_,_,_,_,_,_,_,_,_,_,_,_,_]) rfl ?_
        refine rl_det (met_none rfl) (fun h_ H_ => exd_pick_t rfl (decide_eq_true cc4) (v := .bool (true)) rfl) rfl ?_
        refine rl_det (met_none rfl) (fun h_ H_ => exd_assign (v := .bool (true)) rfl) rfl ?_
        refine rl_end ?_
        refine fl_ret Tryd.func21 rfl (vs := [.bool (true)]) (fun h_ H_ => ⟨.bool (true), _, rfl, rfl, rfl⟩) (v := .bool (true)) rfl ?_
        have hc := read_cases s
        exact fun h_ H_ => K _ _ ⟨congrArg Value.bool ((decide_eq_true (by omega)).symm), H_.kept⟩
      · refine rl_det (met_some rfl rfl (decide_eq_false cc6)) (fun h_ H_ => exd_move (v := .int .i64 ((readB s).1)) rfl) (tm' := _::_::_::_::_::_::_::_::_::_::_::_::_::_::_::_::_::_::_::_::_::_::_::_::_::_) rfl ?_
        refine rl_det (met_some rfl rfl (decide_eq_false cc6)) (fun h_ H_ => exd_eql rfl rfl) rfl ?_
        refine rl_det (met_some rfl rfl (decide_eq_false cc6)) (fun h_ H_ => exd_move (v := .bool (decide ((readB s).1 = 141))) rfl) rfl ?_
        by_cases cc7 : (readB s).1 = 141
        · refine rl_det (met_some rfl rfl (decide_eq_true cc7)) (fun h_ H_ => exd_move (v := .int .i64 (stateB s)) rfl) (tm' := [_,_,_,_,_,_,_,_,_,_,_,_,_,_,_,_,_,_,_,_,_,_,_,_,_,_,_,_,_,_,_,_,_,_,_,_,_,_,_,_]) rfl ?_
          refine rl_det (met_some rfl rfl (decide_eq_true cc7)) (fun h_ H_ => exd_eql rfl rfl) rfl ?_
          refine rl_det (met_some rfl rfl (decide_eq_false cc6)) (fun h_ H_ => exd_pick_t rfl (decide_eq_true cc7) (v := .bool (decide (stateB s = 3))) rfl) rfl ?_
          refine rl_det (met_some rfl rfl (decide_eq_true cc4)) (fun h_ H_ => exd_pick_f rfl (decide_eq_false cc6) (v := .bool (decide (stateB s = 3))) rfl) (tm' := [_,_,_,_,_,_,_,_,_,_,_,_,_,_,_,_,_,_,_,_,_,_,_,_,_,_,_,_,_,_,_,_,_,_,_,_,_,_,_,_]) rfl ?_
          refine rl_det (met_some rfl rfl (decide_eq_true cc4)) (fun h_ H_ => exd_move (v := .bool (decide (stateB s = 3))) rfl) rfl ?_
          by_cases cc8 : stateB s = 3
          · refine rl_pass (met_not rfl rfl (decide_eq_true cc8)) rfl ?_
            refine rl_pass (met_not rfl rfl (decide_eq_true cc8)) (tm' := [_,_,_,_,_,_,_,_,_,_,_,_,_,_,_,_,_,_,_,_,_,_,_,_,_,_,_,_,_,_,_,_,_,_,_,_,_,_,_,_]) rfl ?_
            refine rl_pass (met_not rfl rfl (decide_eq_true cc8)) rfl ?_
            refine rl_pass (met_undef rfl rfl) rfl ?_
            refine rl_pass (met_undef rfl rfl) (tm' := [_,_,_,_,_,_,_,_,_,_,_,_,_,_,_,_,_,_,_,_,_,_,_,_,_,_,_,_,_,_,_,_,_,_,_,_,_,_,_,_]) rfl ?_
            refine rl_pass (met_not rfl rfl (decide_eq_true cc8)) rfl ?_
            refine rl_det (met_some rfl rfl (decide_eq_true cc4)) (fun h_ H_ => exd_pick_t rfl (decide_eq_true cc8) (v := .bool (true)) rfl) rfl ?_
            refine rl_det (met_none rfl) (fun h_ H_ => exd_pick_t rfl (decide_eq_true cc4) (v := .bool (true)) rfl) (tm' := [_,_,_,_,_,_,_,_,_,_,_,_,_,_,_,_,_,_,_,_,_,_,_,_,_,_,_,_,_,_,_,_,_,_,_,_,_,_,_,_]) rfl ?_
            refine rl_det (met_none rfl) (fun h_ H_ => exd_assign (v := .bool (true)) rfl) rfl ?_
            refine rl_end ?_
            refine fl_ret Tryd.func21 rfl (vs := [.bool (true)]) (fun h_ H_ => ⟨.bool (true), _, rfl, rfl, rfl⟩) (v := .bool (true)) rfl ?_
            have hc := read_cases s
            exact fun h_ H_ => K _ _ ⟨congrArg Value.bool ((decide_eq_true (by omega)).symm), H_.kept⟩
          · refine rl_det (met_some rfl rfl (decide_eq_false cc8)) (fun h_ H_ => exd_move (v := .int .i64 ((readB s).1)) rfl) rfl ?_
            refine rl_det (met_some rfl rfl (decide_eq_false cc8)) (fun h_ H_ => exd_eql rfl rfl) (tm' := [_,_,_,_,_,_,_,_,_,_,_,_,_,_,_,_,_,_,_,_,_,_,_,_,_,_,_,_,_,_,_,_,_,_,_,_,_,_,_,_]) rfl ?_
            refine rl_det (met_some rfl rfl (decide_eq_false cc8)) (fun h_ H_ => exd_move (v := .bool (decide ((readB s).1 = 142))) rfl) rfl ?_
            by_cases cc9 : (readB s).1 = 142
            · refine rl_det (met_some rfl rfl (decide_eq_true cc9)) (fun h_ H_ => exd_move (v := .int .i64 (stateB s)) rfl) rfl ?_
              refine rl_det (met_some rfl rfl (decide_eq_true cc9)) (fun h_ H_ => exd_eql rfl rfl) (tm' := [_,_,_,_,_,_,_,_,_,_,_,_,_,_,_,_,_,_,_,_,_,_,_,_,_,_,_,_,_,_,_,_,_,_,_,_,_,_,_,_]) rfl ?_
              refine rl_det (met_some rfl rfl (decide_eq_false cc8)) (fun h_ H_ => exd_pick_t rfl (decide_eq_true cc9) (v := .bool (decide (stateB s = 4))) rfl) rfl ?_
              refine rl_det (met_some rfl rfl (decide_eq_true cc4)) (fun h_ H_ => exd_pick_f rfl (decide_eq_false cc8) (v := .bool (decide (stateB s = 4))) rfl) rfl ?_
              refine rl_det (met_none rfl) (fun h_ H_ => exd_pick_t rfl (decide_eq_true cc4) (v := .bool (decide (stateB s = 4))) rfl) (tm' := [_,_,_,_,_,_,_,_,_,_,_,_,_,_,_,_,_,_,_,_,_,_,_,_,_,_,_,_,_,_,_,_,_,_,_,_,_,_,_,_]) rfl ?_
              refine rl_det (met_none rfl) (fun h_ H_ => exd_assign (v := .bool (decide (stateB s = 4))) rfl) rfl ?_
              refine rl_end ?_
              refine fl_ret Tryd.func21 rfl (vs := [.bool (decide (stateB s = 4))]) (fun h_ H_ => ⟨.bool (decide (stateB s = 4)), _, rfl, rfl, rfl⟩) (v := .bool (decide (stateB s = 4))) rfl ?_
              have hc := read_cases s
              exact fun h_ H_ => K _ _ ⟨congrArg Value.bool (decide_eq_decide.2 (by omega)), H_.kept⟩
            · refine rl_pass (met_not rfl rfl (decide_eq_false cc9)) rfl ?_
              refine rl_pass (met_not rfl rfl (decide_eq_false cc9)) (tm' := [_,_,_,_,_,_,_,_,_,_,_,_,_,_,_,_,_,_,_,_,_,_,_,_,_,_,_,_,_,_,_,_,_,_,_,_,_,_,_,_]) rfl ?_
              refine rl_det (met_some rfl rfl (decide_eq_false cc8)) (fun h_ H_ => exd_pick_f rfl (decide_eq_false cc9) (v := .bool (false)) rfl) rfl ?_
              refine rl_det (met_some rfl rfl (decide_eq_true cc4)) (fun h_ H_ => exd_pick_f rfl (decide_eq_false cc8) (v := .bool (false)) rfl) rfl ?_
              refine rl_det (met_none rfl) (fun h_ H_ => exd_pick_t rfl (decide_eq_true cc4) (v := .bool (false)) rfl) (tm' := [_,_,_,_,_,_,_,_,_,_,_,_,_,_,_,_,_,_,_,_,_,_,_,_,_,_,_,_,_,_,_,_,_,_,_,_,_,_,_,_]) rfl ?_
              refine rl_det (met_none rfl) (fun h_ H_ => exd_assign (v := .bool (false)) rfl) rfl ?_
              refine rl_end ?_
              refine fl_ret Tryd.func21 rfl (vs := [.bool (false)]) (fun h_ H_ => ⟨.bool (false), _, rfl, rfl, rfl⟩) (v := .bool (false)) rfl ?_
              have hc := read_cases s
              exact fun h_ H_ => K _ _ ⟨congrArg Value.bool ((decide_eq_false (by omega)).symm), H_.kept⟩
        · refine rl_pass (met_not rfl rfl (decide_eq_false cc7)) rfl ?_
          refine rl_pass (met_not rfl rfl (decide_eq_false cc7)) (tm' := [_,_,_,_,_,_,_,_,_,_,_,_,_,_,_,_,_,_,_,_,_,_,_,_,_,_,_,_,_,_,_,_,_,_,_,_,_,_,_,_]) rfl ?_
          refine rl_det (met_some rfl rfl (decide_eq_false cc6)) (fun h_ H_ => exd_pick_f rfl (decide_eq_false cc7) (v := .bool (false)) rfl) rfl ?_
          refine rl_det (met_some rfl rfl (decide_eq_true cc4)) (fun h_ H_ => exd_pick_f rfl (decide_eq_false cc6) (v := .bool (false)) rfl) rfl ?_
          refine rl_det (met_some rfl rfl (decide_eq_true cc4)) (fun h_ H_ => exd_move (v := .bool (false)) rfl) (tm' := [_,_,_,_,_,_,_,_,_,_,_,_,_,_,_,_,_,_,_,_,_,_,_,_,_,_,_,_,_,_,_,_,_,_,_,_,_,_,_,_]) rfl ?_
          refine rl_det (met_some rfl rfl rfl) (fun h_ H_ => exd_move (v := .int .i64 ((readB s).1)) rfl) rfl ?_
          refine rl_det (met_some rfl rfl rfl) (fun h_ H_ => exd_eql rfl rfl) rfl ?_
          refine rl_det (met_some rfl rfl rfl) (fun h_ H_ => exd_move (v := .bool (decide ((readB s).1 = 142))) rfl) (tm' := [_,_,_,_,_,_,_,_,_,_,_,_,_,_,_,_,_,_,_,_,_,_,_,_,_,_,_,_,_,_,_,_,_,_,_,_,_,_,_,_]) rfl ?_
          by_cases cc10 : (readB s).1 = 142
          · refine rl_det (met_some rfl rfl (decide_eq_true cc10)) (fun h_ H_ => exd_move (v := .int .i64 (stateB s)) rfl) rfl ?_
            refine rl_det (met_some rfl rfl (decide_eq_true cc10)) (fun h_ H_ => exd_eql rfl rfl) rfl ?_
            refine rl_det (met_some rfl rfl rfl) (fun h_ H_ => exd_pick_t rfl (decide_eq_true cc10) (v := .bool (decide (stateB s = 4))) rfl) (tm' := [_,_,_,_,_,_,_,_,_,_,_,_,_,_,_,_,_,_,_,_,_,_,_,_,_,_,_,_,_,_,_,_,_,_,_,_,_,_,_,_]) rfl ?_
            refine rl_det (met_some rfl rfl (decide_eq_true cc4)) (fun h_ H_ => exd_pick_f rfl rfl (v := .bool (decide (stateB s = 4))) rfl) rfl ?_
            refine rl_det (met_none rfl) (fun h_ H_ => exd_pick_t rfl (decide_eq_true cc4) (v := .bool (decide (stateB s = 4))) rfl) rfl ?_
            refine rl_det (met_none rfl) (fun h_ H_ => exd_assign (v := .bool (decide (stateB s = 4))) rfl) (tm' := _::_::_::_) rfl ?_
            refine rl_end ?_
            refine fl_ret Tryd.func21 rfl (vs := [.bool (decide (stateB s = 4))]) (fun h_ H_ => ⟨.bool (decide (stateB s = 4)), _, rfl, rfl, rfl⟩) (v := .bool (decide (stateB s = 4))) rfl ?_
            have hc := read_cases s
            exact fun h_ H_ => K _ _ ⟨congrArg Value.bool (decide_eq_decide.2 (by omega)), H_.kept⟩
          · refine rl_pass (met_not rfl rfl (decide_eq_false cc10)) rfl ?_
            refine rl_pass (met_not rfl rfl (decide_eq_false cc10)) rfl ?_
            refine rl_det (met_some rfl rfl rfl) (fun h_ H_ => exd_pick_f rfl (decide_eq_false cc10) (v := .bool (false)) rfl) (tm' := [_,_,_,_,_,_,_,_,_,_,_,_,_,_,_,_,_,_,_,_,_,_,_,_,_,_,_,_,_,_,_,_,_,_,_,_,_,_,_,_]) rfl ?_
            refine rl_det (met_some rfl rfl (decide_eq_true cc4)) (fun h_ H_ => exd_pick_f rfl rfl (v := .bool (false)) rfl) rfl ?_
            refine rl_det (met_none rfl) (fun h_ H_ => exd_pick_t rfl (decide_eq_true cc4) (v := .bool (false)) rfl) rfl ?_
            refine rl_det (met_none rfl) (fun h_ H_ => exd_assign (v := .bool (false)) rfl) (tm' := _::_::_::_) rfl ?_
            refine rl_end ?_
            refine fl_ret Tryd.func21 rfl (vs := [.bool (false)]) (fun h_ H_ => ⟨.bool (false), _, rfl, rfl, rfl⟩) (v := .bool (false)) rfl ?_
            have hc := read_cases s
            exact fun h_ H_ => K _ _ ⟨congrArg Value.bool ((decide_eq_false (by omega)).symm), H_.kept⟩
    · refine rl_pass (met_not rfl rfl (decide_eq_false cc5)) rfl ?_
      refine rl_pass (met_not rfl rfl (decide_eq_false cc5)) rfl ?_
      refine rl_det (met_some rfl rfl (decide_eq_true cc4)) (fun h_ H_ => exd_pick_f rfl (decide_eq_false cc5) (v := .bool (false)) rfl) (tm' := _::_::_::_::_::_::_::_::_::_::_::_::_::_::_::_::_::_::_::_::_::_::_::_) rfl ?_
      refine rl_det (met_some rfl rfl (decide_eq_true cc4)) (fun h_ H_ => exd_move (v := .bool (false)) rfl) rfl ?_
      refine rl_det (met_some rfl rfl rfl) (fun h_ H_ => exd_move (v := .int .i64 ((readB s).1)) rfl) rfl ?_
      refine rl_det (met_some rfl rfl rfl) (fun h_ H_ => exd_eql rfl rfl) (tm' := _::_::_::_::_::_::_::_::_::_::_::_::_::_::_::_::_::_::_::_::_::_::_::_::_::_::_) rfl ?_
      refine rl_det (met_some rfl rfl rfl) (fun h_ H_ => exd_move (v := .bool (decide ((readB s).1 = 141))) rfl) rfl ?_
      by_cases cc11 : (readB s).1 = 141
      · refine rl_det (met_some rfl rfl (decide_eq_true cc11)) (fun h_ H_ => exd_move (v := .int .i64 (stateB s)) rfl) rfl ?_
        refine rl_det (met_some rfl rfl (decide_eq_true cc11)) (fun h_ H_ => exd_eql rfl rfl) (tm' := [_,_,_,_,_,_,_,_,_,_,_,_,_,_,_,_,_,_,_,_,_,_,_,_,_,_,_,_,_,_,_,_,_,_,_,_,_,_,_,_]) rfl ?_
        refine rl_det (met_some rfl rfl rfl) (fun h_ H_ => exd_pick_t rfl (decide_eq_true cc11) (v := .bool (decide (stateB s = 3))) rfl) rfl ?_
        refine rl_det (met_some rfl rfl (decide_eq_true cc4)) (fun h_ H_ => exd_pick_f rfl rfl (v := .bool (decide (stateB s = 3))) rfl) rfl ?_
        refine rl_det (met_some rfl rfl (decide_eq_true cc4)) (fun h_ H_ => exd_move (v := .bool (decide (stateB s = 3))) rfl) (tm' := [_,_,_,_,_,_,_,_,_,_,_,_,_,_,_,_,_,_,_,_,_,_,_,_,_,_,_,_,_,_,_,_,_,_,_,_,_,_,_,_]) rfl ?_
        by_cases cc12 : stateB s = 3
        · refine rl_pass (met_not rfl rfl (decide_eq_true cc12)) rfl ?_
          refine rl_pass (met_not rfl rfl (decide_eq_true cc12)) rfl ?_
          refine rl_pass (met_not rfl rfl (decide_eq_true cc12)) (tm' := [_,_,_,_,_,_,_,_,_,_,_,_,_,_,_,_,_,_,_,_,_,_,_,_,_,_,_,_,_,_,_,_,_,_,_,_,_,_,_,_]) rfl ?_
          refine rl_pass (met_undef rfl rfl) rfl ?_
          refine rl_pass (met_undef rfl rfl) rfl ?_
          refine rl_pass (met_not rfl rfl (decide_eq_true cc12)) (tm' := [_,_,_,_,_,_,_,_,_,_,_,_,_,_,_,_,_,_,_,_,_,_,_,_,_,_,_,_,_,_,_,_,_,_,_,_,_,_,_,_]) rfl ?_
          refine rl_det (met_some rfl rfl (decide_eq_true cc4)) (fun h_ H_ => exd_pick_t rfl (decide_eq_true cc12) (v := .bool (true)) rfl) rfl ?_
          refine rl_det (met_none rfl) (fun h_ H_ => exd_pick_t rfl (decide_eq_true cc4) (v := .bool (true)) rfl) rfl ?_
          refine rl_det (met_none rfl) (fun h_ H_ => exd_assign (v := .bool (true)) rfl) (tm' := _::_::_::_) rfl ?_
          refine rl_end ?_
          refine fl_ret Tryd.func21 rfl (vs := [.bool (true)]) (fun h_ H_ => ⟨.bool (true), _, rfl, rfl, rfl⟩) (v := .bool (true)) rfl ?_
          have hc := read_cases s
          exact fun h_ H_ => K _ _ ⟨congrArg Value.bool ((decide_eq_true (by omega)).symm), H_.kept⟩
        · refine rl_det (met_some rfl rfl (decide_eq_false cc12)) (fun h_ H_ => exd_move (v := .int .i64 ((readB s).1)) rfl) rfl ?_
          refine rl_det (met_some rfl rfl (decide_eq_false cc12)) (fun h_ H_ => exd_eql rfl rfl) rfl ?_
          refine rl_det (met_some rfl rfl (decide_eq_false cc12)) (fun h_ H_ => exd_move (v := .bool (decide ((readB s).1 = 142))) rfl) (tm' := [_,_,_,_,_,_,_,_,_,_,_,_,_,_,_,_,_,_,_,_,_,_,_,_,_,_,_,_,_,_,_,_,_,_,_,_,_,_,_,_]) rfl ?_
          by_cases cc13 : (readB s).1 = 142
          · refine rl_det (met_some rfl rfl (decide_eq_true cc13)) (fun h_ H_ => exd_move (v := .int .i64 (stateB s)) rfl) rfl ?_
            refine rl_det (met_some rfl rfl (decide_eq_true cc13)) (fun h_ H_ => exd_eql rfl rfl) rfl ?_
            refine rl_det (met_some rfl rfl (decide_eq_false cc12)) (fun h_ H_ => exd_pick_t rfl (decide_eq_true cc13) (v := .bool (decide (stateB s = 4))) rfl) (tm' := [_,_,_,_,_,_,_,_,_,_,_,_,_,_,_,_,_,_,_,_,_,_,_,_,_,_,_,_,_,_,_,_,_,_,_,_,_,_,_,_]) rfl ?_
            refine rl_det (met_some rfl rfl (decide_eq_true cc4)) (fun h_ H_ => exd_pick_f rfl (decide_eq_false cc12) (v := .bool (decide (stateB s = 4))) rfl) rfl ?_
            refine rl_det (met_none rfl) (fun h_ H_ => exd_pick_t rfl (decide_eq_true cc4) (v := .bool (decide (stateB s = 4))) rfl) rfl ?_
            refine rl_det (met_none rfl) (fun h_ H_ => exd_assign (v := .bool (decide (stateB s = 4))) rfl) (tm' := _::_::_::_) rfl ?_
            refine rl_end ?_
            refine fl_ret Tryd.func21 rfl (vs := [.bool (decide (stateB s = 4))]) (fun h_ H_ => ⟨.bool (decide (stateB s = 4)), _, rfl, rfl, rfl⟩) (v := .bool (decide (stateB s = 4))) rfl ?_
            have hc := read_cases s
            exact fun h_ H_ => K _ _ ⟨congrArg Value.bool (decide_eq_decide.2 (by omega)), H_.kept⟩
          · refine rl_pass (met_not rfl rfl (decide_eq_false cc13)) rfl ?_
            refine rl_pass (met_not rfl rfl (decide_eq_false cc13)) rfl ?_
            refine rl_det (met_some rfl rfl (decide_eq_false cc12)) (fun h_ H_ => exd_pick_f rfl (decide_eq_false cc13) (v := .bool (false)) rfl) (tm' := [_,_,_,_,_,_,_,_,_,_,_,_,_,_,_,_,_,_,_,_,_,_,_,_,_,_,_,_,_,_,_,_,_,_,_,_,_,_,_,_]) rfl ?_
            refine rl_det (met_some rfl rfl (decide_eq_true cc4)) (fun h_ H_ => exd_pick_f rfl (decide_eq_false cc12) (v := .bool (false)) rfl) rfl ?_
            refine rl_det (met_none rfl) (fun h_ H_ => exd_pick_t rfl (decide_eq_true cc4) (v := .bool (false)) rfl) rfl ?_
            refine rl_det (met_none rfl) (fun h_ H_ => exd_assign (v := .bool (false)) rfl) (tm' := _::_::_::_) rfl ?_
            refine rl_end ?_
            refine fl_ret Tryd.func21 rfl (vs := [.bool (false)]) (fun h_ H_ => ⟨.bool (false), _, rfl, rfl, rfl⟩) (v := .bool (false)) rfl ?_
            have hc := read_cases s
            exact fun h_ H_ => K _ _ ⟨congrArg Value.bool ((decide_eq_false (by omega)).symm), H_.kept⟩
      · refine rl_pass (met_not rfl rfl (decide_eq_false cc11)) rfl ?_
        refine rl_pass (met_not rfl rfl (decide_eq_false cc11)) rfl ?_
        refine rl_det (met_some rfl rfl rfl) (fun h_ H_ => exd_pick_f rfl (decide_eq_false cc11) (v := .bool (false)) rfl) (tm' := [_,_,_,_,_,_,_,_,_,_,_,_,_,_,_,_,_,_,_,_,_,_,_,_,_,_,_,_,_,_,_,_,_,_,_,_,_,_,_,_]) rfl ?_
        refine rl_det (met_some rfl rfl (decide_eq_true cc4)) (fun h_ H_ => exd_pick_f rfl rfl (v := .bool (false)) rfl) rfl ?_
        refine rl_det (met_some rfl rfl (decide_eq_true cc4)) (fun h_ H_ => exd_move (v := .bool (false)) rfl) rfl ?_
        refine rl_det (met_some rfl rfl rfl) (fun h_ H_ => exd_move (v := .int .i64 ((readB s).1)) rfl) (tm' := [_,_,_,_,_,_,_,_,_,_,_,_,_,_,_,_,_,_,_,_,_,_,_,_,_,_,_,_,_,_,_,_,_,_,_,_,_,_,_,_]) rfl ?_
        refine rl_det (met_some rfl rfl rfl) (fun h_ H_ => exd_eql rfl rfl) rfl ?_
        refine rl_det (met_some rfl rfl rfl) (fun h_ H_ => exd_move (v := .bool (decide ((readB s).1 = 142))) rfl) rfl ?_
        by_cases cc14 : (readB s).1 = 142
        · refine rl_det (met_some rfl rfl (decide_eq_true cc14)) (fun h_ H_ => exd_move (v := .int .i64 (stateB s)) rfl) (tm' := [_,_,_,_,_,_,_,_,_,_,_,_,_,_,_,_,_,_,_,_,_,_,_,_,_,_,_,_,_,_,_,_,_,_,_,_,_,_,_,_]) rfl ?_
          refine rl_det (met_some rfl rfl (decide_eq_true cc14)) (fun h_ H_ => exd_eql rfl rfl) rfl ?_
          refine rl_det (met_some rfl rfl rfl) (fun h_ H_ => exd_pick_t rfl (decide_eq_true cc14) (v := .bool (decide (stateB s = 4))) rfl) rfl ?_
          refine rl_det (met_some rfl rfl (decide_eq_true cc4)) (fun h_ H_ => exd_pick_f rfl rfl (v := .bool (decide (stateB s = 4))) rfl) (tm' := [_,_,_,_,_,_,_,_,_,_,_,_,_,_,_,_,_,_,_,_,_,_,_,_,_,_,_,_,_,_,_,_,_,_,_,_,_,_,_,_]) rfl ?_
          refine rl_det (met_none rfl) (fun h_ H_ => exd_pick_t rfl (decide_eq_true cc4) (v := .bool (decide (stateB s = 4))) rfl) rfl ?_
          refine rl_det (met_none rfl) (fun h_ H_ => exd_assign (v := .bool (decide (stateB s = 4))) rfl) rfl ?_
          refine rl_end ?_
          refine fl_ret Tryd.func21 rfl (vs := [.bool (decide (stateB s = 4))]) (fun h_ H_ => ⟨.bool (decide (stateB s = 4)), _, rfl, rfl, rfl⟩) (v := .bool (decide (stateB s = 4))) rfl ?_
          have hc := read_cases s
          exact fun h_ H_ => K _ _ ⟨congrArg Value.bool (decide_eq_decide.2 (by omega)), H_.kept⟩
        · refine rl_pass (met_not rfl rfl (decide_eq_false cc14)) (tm' := [_,_,_,_,_,_,_,_,_,_,_,_,_,_,_,_,_,_,_,_,_,_,_,_,_,_,_,_,_,_,_,_,_,_,_,_,_,_,_,_]) rfl ?_
          refine rl_pass (met_not rfl rfl (decide_eq_false cc14)) rfl ?_
          refine rl_det (met_some rfl rfl rfl) (fun h_ H_ => exd_pick_f rfl (decide_eq_false cc14) (v := .bool (false)) rfl) rfl ?_
          refine rl_det (met_some rfl rfl (decide_eq_true cc4)) (fun h_ H_ => exd_pick_f rfl rfl (v := .bool (false)) rfl) (tm' := [_,_,_,_,_,_,_,_,_,_,_,_,_,_,_,_,_,_,_,_,_,_,_,_,_,_,_,_,_,_,_,_,_,_,_,_,_,_,_,_]) rfl ?_
          refine rl_det (met_none rfl) (fun h_ H_ => exd_pick_t rfl (decide_eq_true cc4) (v := .bool (false)) rfl) rfl ?_
          refine rl_det (met_none rfl) (fun h_ H_ => exd_assign (v := .bool (false)) rfl) rfl ?_
          refine rl_end ?_
          refine fl_ret Tryd.func21 rfl (vs := [.bool (false)]) (fun h_ H_ => ⟨.bool (false), _, rfl, rfl, rfl⟩) (v := .bool (false)) rfl ?_
          have hc := read_cases s
          exact fun h_ H_ => K _ _ ⟨congrArg Value.bool ((decide_eq_false (by omega)).symm), H_.kept⟩
  · refine rl_pass (met_not rfl rfl (decide_eq_false cc4)) (tm' := _::_::_::_::_::_::_::_::_::_::_::_::_::_::_::_::_::_::_) rfl ?_
    refine rl_pass (met_not rfl rfl (decide_eq_false cc4)) rfl ?_
    refine rl_pass (met_not rfl rfl (decide_eq_false cc4)) rfl ?_
    refine rl_pass (met_undef rfl rfl) (tm' := _::_::_::_::_::_::_::_::_::_::_::_::_::_::_::_::_::_::_::_::_::_) rfl ?_
    refine rl_pass (met_undef rfl rfl) rfl ?_
    refine rl_pass (met_not rfl rfl (decide_eq_false cc4)) rfl ?_
    refine rl_pass (met_not rfl rfl (decide_eq_false cc4)) (tm' := _::_::_::_::_::_::_::_::_::_::_::_::_::_::_::_::_::_::_::_::_::_::_::_::_) rfl ?_
    refine rl_pass (met_undef rfl rfl) rfl ?_
    refine rl_pass (met_undef rfl rfl) rfl ?_
    refine rl_pass (met_undef rfl rfl) (tm' := [_,_,_,_,_,_,_,_,_,_,_,_,_,_,_,_,_,_,_,_,_,_,_,_,_,_,_,_,_,_,_,_,_,_,_,_,_,_,_,_]) rfl ?_
    refine rl_pass (met_undef rfl rfl) rfl ?_
    refine rl_pass (met_undef rfl rfl) rfl ?_
    refine rl_pass (met_undef rfl rfl) (tm' := [_,_,_,_,_,_,_,_,_,_,_,_,_,_,_,_,_,_,_,_,_,_,_,_,_,_,_,_,_,_,_,_,_,_,_,_,_,_,_,_]) rfl ?_
    refine rl_pass (met_not rfl rfl (decide_eq_false cc4)) rfl ?_
    refine rl_pass (met_not rfl rfl (decide_eq_false cc4)) rfl ?_
    refine rl_pass (met_undef rfl rfl) (tm' := [_,_,_,_,_,_,_,_,_,_,_,_,_,_,_,_,_,_,_,_,_,_,_,_,_,_,_,_,_,_,_,_,_,_,_,_,_,_,_,_]) rfl ?_
    refine rl_pass (met_undef rfl rfl) rfl ?_
    refine rl_pass (met_undef rfl rfl) rfl ?_
    refine rl_pass (met_undef rfl rfl) (tm' := [_,_,_,_,_,_,_,_,_,_,_,_,_,_,_,_,_,_,_,_,_,_,_,_,_,_,_,_,_,_,_,_,_,_,_,_,_,_,_,_]) rfl ?_
    refine rl_pass (met_undef rfl rfl) rfl ?_
    refine rl_pass (met_undef rfl rfl) rfl ?_
    refine rl_pass (met_not rfl rfl (decide_eq_false cc4)) (tm' := [_,_,_,_,_,_,_,_,_,_,_,_,_,_,_,_,_,_,_,_,_,_,_,_,_,_,_,_,_,_,_,_,_,_,_,_,_,_,_,_]) rfl ?_
    refine rl_det (met_none rfl) (fun h_ H_ => exd_pick_f rfl (decide_eq_false cc4) (v := .bool (false)) rfl) rfl ?_
    refine rl_det (met_none rfl) (fun h_ H_ => exd_assign (v := .bool (false)) rfl) rfl ?_
    refine rl_end ?_
    refine fl_ret Tryd.func21 rfl (vs := [.bool (false)]) (fun h_ H_ => ⟨.bool (false), _, rfl, rfl, rfl⟩) (v := .bool (false)) rfl ?_
    have hc := read_cases s
    exact fun h_ H_ => K _ _ ⟨congrArg Value.bool ((decide_eq_false (by omega)).symm), H_.kept⟩
end Go.Proofs.YtiinpnlfdeiloaaDoor
namespace Go.X
open Go.Conc
section
variable {P : Program} {h : Heap} {tm : List Value} {d : Option Tmp} {ty : TypeId} {pos : String} {aft : Array Edge} {gd : Option (Nat × Bool)}
theorem wpS_eqBool {d : Nat} {t : TypeId} {a b : Bool} {K : Bool → Heap → Prop} (ht : P.underlying t = some .bool) (x : K (a == b) h) : wpS P (Op.equalIn (d + 1) t (.bool a) (.bool b)) h K := by
  simp only [Op.equalIn]
  refine wpS_bind (wpS_underlying ht ?_)
  exact wpS_pure x
theorem eqBool_guard {op : BinOp} {T : TypeId} {x y : Operand} {a b : Bool} {K : Unit → Heap → Prop} (z : K () h) : wpS P (eqGuard op T x y (.bool a) (.bool b)) h K := by
  unfold eqGuard
  cases op <;> first | (rw [if_pos (by rfl)]; exact wpS_pure z) | (rw [if_neg (by decide)]; exact wpS_pure z)
theorem beq_iff' {p q : Prop} [Decidable p] [Decidable q] : (decide p == decide q) = decide (p ↔ q) := by
  by_cases hp : p <;> by_cases hq : q <;> simp [hp, hq]
theorem exd_eqlP {T T' : TypeId} {x y : Operand} {p q : Prop} [Decidable p] [Decidable q] (ht : P.underlying T = some .bool) (hx : evl tm x = .bool (decide p)) (hy : evl tm y = .bool (decide q)) :
    Exd P tm ⟨d, .binOp .eql T x y T', ty, pos, aft, gd⟩ h (.bool (decide (p ↔ q))) := by
  refine exd_bin hx hy (fun K z => eqBool_guard z) ?_
  simp only [binOp, Op.equal, Op.maxDepth]
  refine wpS_bind (wpS_eqBool ht ?_)
  exact wpS_pure ⟨by rw [beq_iff'], rfl⟩
end
end Go.X
namespace Go.X.Cent
open Go.X Go.Proofs

def ChOk (b : By) : Prop := b.length % 3 ≠ 1 ∧ ∀ i, i < b.length → (i % 3 < 2 → isL (b.getD i 0)) ∧ (¬ i % 3 < 2 → 32 ≤ (b.getD i 0).toNat ∧ (b.getD i 0).toNat ≤ 126)
theorem pieR_eq (b : By) : pieR b = (phN b, byB (if 2 < b.length then (((b.getD 2 0).toNat : Nat) : Int) else -1)) := by
  unfold pieR phN
  congr 1
  omega
theorem pie1_sound {b : By} {x : Pie} {r : By} (h : pie1 b = some (x, r)) : x = pieR b ∧ r = b.drop 3 ∧ 2 ≤ b.length ∧ isL (b.getD 0 0) ∧ isL (b.getD 1 0) ∧ (2 < b.length → 32 ≤ (b.getD 2 0).toNat ∧ (b.getD 2 0).toNat ≤ 126) := by
  unfold pie1 at h
  split at h
  · cases h
  rename_i h0
  have hl : 2 ≤ b.length := Nat.le_of_not_lt fun z => h0 (.inl z)
  have h1 : isL (b.getD 0 0) := Decidable.not_not.1 fun z => h0 (.inr (.inl z))
  have h2 : isL (b.getD 1 0) := Decidable.not_not.1 fun z => h0 (.inr (.inr z))
  have hg : (b.drop 2).getD 0 0 = b.getD 2 0 := by rw [drop_getD]
  have hd : (b.drop 2).drop 1 = b.drop 3 := by rw [List.drop_drop]
  rw [pieR_eq]
  split at h
  · rename_i h3
    have hl2 : b.length = 2 := by
      have := congrArg List.length h3
      rw [List.length_drop] at this; simp only [List.length_nil] at this; omega
    cases h
    refine ⟨?_, ?_, hl, h1, h2, fun z => by omega⟩
    · rw [if_neg (by omega)]; rfl
    · rw [h3, List.drop_of_length_le (by omega)]
  rename_i h3
  have hl3 : 2 < b.length := by
    have := List.length_pos_iff.2 h3
    rw [List.length_drop] at this; omega
  rw [hg, hd] at h
  split at h
  · rename_i h4
    cases h
    refine ⟨?_, rfl, hl, h1, h2, fun _ => by omega⟩
    rw [if_pos hl3, h4]; rfl
  split at h
  · cases h
  · rename_i h4 h5
    cases h
    refine ⟨?_, rfl, hl, h1, h2, fun _ => by omega⟩
    rw [if_pos hl3, byB, if_neg (by omega)]
theorem pie1_full {b : By} (hl : 2 ≤ b.length) (h1 : isL (b.getD 0 0)) (h2 : isL (b.getD 1 0)) (h3 : 2 < b.length → 32 ≤ (b.getD 2 0).toNat ∧ (b.getD 2 0).toNat ≤ 126) : ∃ x r, pie1 b = some (x, r) := by
  unfold pie1
  rw [if_neg (by rintro (z | z | z); exact absurd hl (by omega); exact z h1; exact z h2)]
  have hg : (b.drop 2).getD 0 0 = b.getD 2 0 := by rw [drop_getD]
  rw [hg]
  split
  · exact ⟨_, _, rfl⟩
  rename_i h4
  have hl3 : 2 < b.length := by
    have := List.length_pos_iff.2 h4
    rw [List.length_drop] at this; omega
  have := h3 hl3
  split
  · exact ⟨_, _, rfl⟩
  split
  · rename_i z; omega
  · exact ⟨_, _, rfl⟩
theorem chOk_drop {b : By} (h : ChOk b) (hl : 3 ≤ b.length) : ChOk (b.drop 3) := by
  refine ⟨by rw [List.length_drop]; have := h.1; omega, fun i hi => ?_⟩
  rw [List.length_drop] at hi
  have := h.2 (i + 3) (by omega)
  rw [drop_getD, show 3 + i = i + 3 from by omega]
  rw [show (i + 3) % 3 = i % 3 from by omega] at this
  exact this
theorem prs_ok : ∀ {n : Nat} {out : List Pie} {b : By}, b.length ≤ n → ChOk b → prsS out b = some (out ++ refS b)
  | 0, out, b, h, _ => by
    have : b = [] := List.eq_nil_of_length_eq_zero (by omega)
    subst this
    rw [prs_end, refS_nil, List.append_nil]
  | n + 1, out, b, h, hc => by
    by_cases h0 : b = []
    · subst h0; rw [prs_end, refS_nil, List.append_nil]
    have hp := List.length_pos_iff.2 h0
    have hl : 2 ≤ b.length := by have := hc.1; omega
    obtain ⟨x, r, e⟩ := pie1_full hl ((hc.2 0 (by omega)).1 (by omega)) ((hc.2 1 (by omega)).1 (by omega)) fun z => (hc.2 2 z).2 (by omega)
    obtain ⟨rfl, rfl, _⟩ := pie1_sound e
    rw [prs_step e, refS_cons h0]
    by_cases h3 : b.length = 2
    · have : b.drop 3 = [] := List.drop_of_length_le (by omega)
      rw [this, prs_end, refS_nil]
    · rw [prs_ok (n := n) (by rw [List.length_drop]; omega) (chOk_drop hc (by omega))]
      simp
theorem prs_sound : ∀ {n : Nat} {out l : List Pie} {b : By}, b.length ≤ n → prsS out b = some l → ChOk b ∧ l = out ++ refS b
  | 0, out, l, b, h, e => by
    have : b = [] := List.eq_nil_of_length_eq_zero (by omega)
    subst this
    rw [prs_end] at e
    exact ⟨⟨by simp, fun i hi => by simp at hi⟩, by rw [refS_nil, List.append_nil]; exact (Option.some.inj e).symm⟩
  | n + 1, out, l, b, h, e => by
    by_cases h0 : b = []
    · subst h0
      rw [prs_end] at e
      exact ⟨⟨by simp, fun i hi => by simp at hi⟩, by rw [refS_nil, List.append_nil]; exact (Option.some.inj e).symm⟩
    cases ep : pie1 b with
    | none => rw [prs_none h0 ep] at e; cases e
    | some q =>
      obtain ⟨x, r⟩ := q
      obtain ⟨hx, hr, hl, g0, g1, g2⟩ := pie1_sound ep
      rw [prs_step ep] at e
      obtain ⟨i1, i2⟩ := prs_sound (n := n) (by rw [hr, List.length_drop]; omega) e
      refine ⟨⟨?_, fun i hi => ?_⟩, ?_⟩
      · have := i1.1
        rw [hr, List.length_drop] at this
        by_cases c : b.length = 2
        · omega
        · omega
      · rcases Nat.lt_or_ge i 3 with c | c
        · rcases (show i = 0 ∨ i = 1 ∨ i = 2 by omega) with rfl | rfl | rfl
          · exact ⟨fun _ => g0, fun z => absurd (by omega) z⟩
          · exact ⟨fun _ => g1, fun z => absurd (by omega) z⟩
          · exact ⟨fun z => by omega, fun _ => g2 hi⟩
        · have := i1.2 (i - 3) (by rw [hr, List.length_drop]; omega)
          rw [hr, drop_getD, show 3 + (i - 3) = i from by omega, show (i - 3) % 3 = i % 3 from by omega] at this
          exact this
      · rw [i2, hx, hr, refS_cons h0]; simp
theorem take_getD {s : By} {e i : Nat} (h : i < e) : (s.take e).getD i 0 = s.getD i 0 := by
  rw [List.getD_eq_getElem?_getD, List.getD_eq_getElem?_getD, List.getElem?_take, if_pos h]
theorem body_iff {s : By} (h5 : 5 ≤ s.length) (h14 : s.length ≤ 1400) (h61 : (s.getD (s.length - 5) 0).toNat = 61) : bodyOk s ↔ (∀ c ∈ s.drop (s.length - 4), 48 ≤ c.toNat ∧ c.toNat ≤ 57) ∧ ChOk (s.take (s.length - 5)) := by
  have hlt : (s.take (s.length - 5)).length = s.length - 5 := by rw [List.length_take]; omega
  constructor
  · rintro ⟨_, _, _, h4, h6⟩
    refine ⟨gall (d := 0) fun i hi => ?_, by rw [hlt]; exact h4, fun i hi => ?_⟩
    · rw [List.length_drop] at hi
      rw [drop_getD]
      exact (h6 (s.length - 4 + i) (by omega)).1 (by omega)
    · rw [hlt] at hi
      rw [take_getD hi]
      have := (h6 i (by omega)).2
      exact ⟨fun z => this.1 hi z, fun z => this.2 hi z⟩
  · rintro ⟨h1, h2, h3⟩
    rw [hlt] at h2 h3
    refine ⟨h5, h14, h61, h2, fun i hi => ⟨fun z => ?_, fun z y => ?_, fun z y => ?_⟩⟩
    · have hm : s.getD i 0 ∈ s.drop (s.length - 4) := by
        have : (s.drop (s.length - 4)).getD (i - (s.length - 4)) 0 = s.getD i 0 := by rw [drop_getD, show s.length - 4 + (i - (s.length - 4)) = i from by omega]
        rw [← this]
        exact gmem (d := 0) (by rw [List.length_drop]; omega)
      exact h1 _ hm
    · have := (h3 i z).1 y
      rw [take_getD z] at this
      exact this
    · have := (h3 i z).2 y
      rw [take_getD z] at this
      exact this
theorem form_same (s : By) : formB s = if bodyOk s then some (parseR s) else none := by
  by_cases h : 1400 < s.length ∨ s.length < 5 ∨ (s.getD (s.length - 5) 0).toNat ≠ 61
  · rw [formB, if_pos h, if_neg]
    rintro ⟨z1, z2, z3, _⟩
    rcases h with h | h | h
    · omega
    · omega
    · exact h z3
  have h5 : 5 ≤ s.length := by omega
  have h14 : s.length ≤ 1400 := by omega
  have h61 : (s.getD (s.length - 5) 0).toNat = 61 := by omega
  have hb := body_iff h5 h14 h61
  rw [formB, if_neg h]
  by_cases hd : ∃ c ∈ s.drop (s.length - 4), c.toNat < 48 ∨ 57 < c.toNat
  · rw [if_pos hd, if_neg]
    intro z
    obtain ⟨c, hc, y⟩ := hd
    have := (hb.1 z).1 c hc
    omega
  rw [if_neg hd]
  have hd' : ∀ c ∈ s.drop (s.length - 4), 48 ≤ c.toNat ∧ c.toNat ≤ 57 := fun c hc => by
    have : ¬ (c.toNat < 48 ∨ 57 < c.toNat) := fun z => hd ⟨c, hc, z⟩
    omega
  by_cases hc : ChOk (s.take (s.length - 5))
  · have hB : bodyOk s := hb.2 ⟨hd', hc⟩
    rw [if_pos hB, parseR, if_pos hB, prs_ok (Nat.le_refl _) hc, List.nil_append]
  · have hB : ¬ bodyOk s := fun z => hc (hb.1 z).2
    rw [if_neg hB]
    cases e : prsS [] (s.take (s.length - 5)) with
    | none => rfl
    | some l => exact absurd (prs_sound (Nat.le_refl _) e).1 hc
theorem parse_same (s : By) : (formB s).getD [] = parseR s := by
  rw [form_same]
  by_cases h : bodyOk s
  · rw [if_pos h]; rfl
  · rw [if_neg h, parseR, if_neg h]; rfl
theorem per_same (s : By) : parseB s = perR s := by
  rw [parseB, form_same, perR]
  by_cases h : bodyOk s
  · rw [if_pos h, if_pos h]; rfl
  · rw [if_neg h, if_neg h]; rfl

/-! ### the whole, and its lines -/
theorem rr_enc : ∀ {n : Nat} {ph : List By} {w s : By}, s.length ≤ n → Phr ph → w.length + s.length ≤ 820 → rdR ph w (encS ph s) = some (w ++ s)
  | 0, ph, w, s, h, _, _ => by
    have : s = [] := List.eq_nil_of_length_eq_zero (by omega)
    subst this
    rw [encS_nil, List.append_nil]; rfl
  | n + 1, ph, w, s, h, hP, hw => by
    by_cases h0 : s = []
    · subst h0; rw [encS_nil, List.append_nil]; rfl
    have hm := lp_mem s hP
    have hi := List.idxOf_lt_length_iff.2 hm
    by_cases hk : lp ph s < s.length
    · rw [encS_more hk, rdR]
      have hT : pT ph (((ph.idxOf (s.take (lp ph s)) : Nat) : Int), (((s.getD (lp ph s) 0).toNat : Nat) : Int)) = s.take (lp ph s + 1) := by
        unfold pT
        simp only [Int.toNat_natCast]
        rw [getD_idx hm, if_neg (by omega), UInt8.ofNat_toNat, take_snoc hk]
      rw [if_neg (by show ¬ (_ ≤ (((ph.idxOf (s.take (lp ph s)) : Nat) : Int)) ∨ _); omega), hT, rr_enc (n := n) (by rw [List.length_drop]; omega) (hP.snoc hk) (by rw [List.length_append, List.length_take, List.length_drop]; omega), List.append_assoc, List.take_append_drop]
    · have e1 : s.take (lp ph s) = s := List.take_of_length_le (by omega)
      rw [e1] at hm hi
      rw [encS_last h0 hk, rdR]
      have hT : pT ph (((ph.idxOf s : Nat) : Int), -1) = s := by
        unfold pT
        simp only [Int.toNat_natCast]
        rw [getD_idx hm, if_pos trivial, List.append_nil]
      rw [if_neg (by show ¬ (_ ≤ (((ph.idxOf s : Nat) : Int)) ∨ _); omega), hT]
      rfl
theorem ln_line {out : List By} {r : By} : ∀ {x t : By}, (10 : UInt8) ∉ x → lnR out t (x ++ 10 :: r) = lnR (out ++ [t ++ x]) [] r
  | [], t, _ => by rw [List.nil_append, lnR, if_pos rfl, List.append_nil]
  | b :: x, t, h => by
    rw [List.mem_cons, not_or] at h
    rw [List.cons_append, lnR, if_neg (fun e => h.1 e.symm), ln_line h.2]
    simp
theorem ln_whole : ∀ {ts out : List By}, (∀ t ∈ ts, (10 : UInt8) ∉ t) → lnR out [] (wholeB ts) = (out ++ ts, [])
  | [], out, _ => by rw [wholeB, lnR, List.append_nil]
  | t :: ts, out, h => by
    rw [wholeB, ln_line (h t (by simp)), ln_whole fun x hx => h x (by simp [hx])]
    simp
theorem readR_file {ts : List By} (h : chkT ts = 0) : readR (fileB ts) = (0, ts) := by
  have g := chk_good h
  have hw := whole_len g.1 fun t z => (g.2 t z).1
  have hf := form_file h
  have hB : bodyOk (fileB ts) := by
    rw [form_same] at hf
    exact Decidable.not_not.1 fun z => by rw [if_neg z] at hf; cases hf
  have hp : parseR (fileB ts) = encS [[]] (wholeB ts) := by rw [← parse_same, hf]; rfl
  have hb : sealB (bodyB (fileB ts)) = fileB ts := by rw [bodyB, if_pos hB]; exact congrArg sealB (seal_take _)
  have ht : texR (encS [[]] (wholeB ts)) = (ts, true) := by
    unfold texR
    rw [rr_enc (Nat.le_refl _) Phr.one (by simp only [List.length_nil]; omega), List.nil_append]
    show ((lnR [] [] (wholeB ts)).1, decide ((lnR [] [] (wholeB ts)).2 = [])) = _
    rw [ln_whole fun t z => text_no10 (g.2 t z)]
    rfl
  rw [readR, if_neg (fun z => z hB), if_neg (fun z => z hb), hp, ht, if_neg]
  rintro (z | z | z)
  · cases z
  · exact z h
  · exact z rfl
theorem readR_is {s : By} (h : (readR s).1 = 0) : fileB (readR s).2 = s ∧ chkT (readR s).2 = 0 := by
  unfold readR at h ⊢
  split at h
  · cases h
  rename_i h0
  split at h
  · cases h
  rename_i h1
  split at h
  · cases h
  · rename_i h2
    rw [if_neg h0, if_neg h1, if_neg h2]
    exact ⟨Decidable.not_not.1 fun z => h2 (.inr (.inr z)), Decidable.not_not.1 fun z => h2 (.inr (.inl z))⟩
theorem read_same (s : By) : readB s = readR s := by
  by_cases a : (readB s).1 = 0
  · have h := read_is a
    have e1 := read_file h.2
    have e2 := readR_file h.2
    rw [h.1] at e1 e2
    rw [e1, e2]
  by_cases b : (readR s).1 = 0
  · have h := readR_is b
    have e1 := read_file h.2
    have e2 := readR_file h.2
    rw [h.1] at e1 e2
    rw [e1, e2]
  by_cases hB : bodyOk s
  · have hf : formB s = some (parseR s) := by rw [form_same, if_pos hB]
    have hb : bodyB s = s.take (s.length - 5) := if_pos hB
    by_cases hs : sealB (s.take (s.length - 5)) ≠ s
    · have e1 : readB s = (141, []) := by simp only [readB, hf]; rw [if_pos hs]
      have e2 : readR s = (141, []) := by rw [readR, if_neg (fun z => z hB), hb, if_pos hs]
      rw [e1, e2]
    · have e1 : readB s = (142, []) := by
        simp only [readB, hf] at a ⊢
        rw [if_neg hs] at a ⊢
        split
        · rfl
        · rename_i e he
          rw [he] at a
          simp only [] at a
          split
          · rfl
          · rename_i h2
            rw [if_neg h2] at a
            exact absurd rfl a
      have e2 : readR s = (142, []) := by
        rw [readR, if_neg (fun z => z hB), hb, if_neg hs] at b ⊢
        split
        · rfl
        · rename_i h2
          rw [if_neg h2] at b
          exact absurd rfl b
      rw [e1, e2]
  · have hf : formB s = none := by rw [form_same, if_neg hB]
    have e1 : readB s = (140, []) := by simp only [readB, hf]
    have e2 : readR s = (140, []) := by rw [readR, if_pos hB]
    rw [e1, e2]
theorem state_same (s : By) : stateB s = stateR s := by
  have h := read_cases s
  unfold stateR
  rw [← read_same]
  rcases h with ⟨a, b⟩ | ⟨_, ⟨a, b⟩ | ⟨a, b⟩ | ⟨a, b⟩⟩ <;> rw [a, b] <;> rfl
theorem add_same (s t : By) : addB s t = addR s t := by rw [addB, addR, read_same]
theorem read_le (s : By) : (readB s).2.length ≤ 20 := by
  rcases read_cases s with ⟨a, _⟩ | ⟨a, _⟩
  · exact (read_good a).1
  · omega
theorem strs_nil (p : PHeap) : Strs p none 0 [] := ⟨rfl, by simp [scs], fun h => absurd h (by omega), fun i e he => by simp [scs] at he⟩
theorem chk_of {ts : List By} (h1 : ts.length ≤ 20) (h2 : ∀ t ∈ ts, isText t) : chkT ts = 0 := by
  unfold chkT
  rw [if_neg (by omega), if_neg]
  intro z
  obtain ⟨t, ht, hb⟩ := idxT_iff.1 z
  have := h2 t ht
  simp [badT, this] at hb
theorem chk_take {ts : List By} (h : chkT ts = 0) (k : Nat) : chkT (ts.take k) = 0 := by
  have g := chk_good h
  exact chk_of (by rw [List.length_take]; omega) fun t z => g.2 t (List.mem_of_mem_take z)
theorem saves_good {ts : List By} (h : chkT ts = 0) : savesB ts = ((((wholeB ts).length : Nat) : Int) - (((fileB ts).length : Nat) : Int), 0) := by rw [savesB, if_neg fun z => z h]
theorem add_step {ts : List By} {k : Nat} (h : chkT ts = 0) (hk : k < ts.length) : addB (fileB (ts.take k)) (ts.getD k []) = (fileB (ts.take (k + 1)), 0) := by
  have e : ts.take k ++ [ts.getD k []] = ts.take (k + 1) := by
    rw [List.take_add_one, List.getElem?_eq_getElem hk, List.getD_eq_getElem?_getD, List.getElem?_eq_getElem hk]; rfl
  have hr := read_file (chk_take h k)
  rw [addB, hr, if_neg (by simp)]
  show writeB (ts.take k ++ [ts.getD k []]) = _
  rw [e, write_good (chk_take h (k + 1))]
end Go.X.Cent
namespace Go.X.Cent
open Go.X Go.Proofs

theorem getD_app {ph P : List By} {i : Nat} (h : i < ph.length) : (ph ++ P).getD i [] = ph.getD i [] := by
  rw [List.getD_eq_getElem?_getD, List.getD_eq_getElem?_getD, List.getElem?_append_left h]
/-- The pieces, cut: those with a byte, and the last one if it has none. -/
theorem enc_split : ∀ {n : Nat} {ph : List By} {s : By}, s.length ≤ n → Phr ph → Fine s → ∃ (l : List Pie) (P : List By) (t : List Pie), encS ph s = l ++ t ∧ t.length ≤ 1 ∧ (∀ x ∈ t, x.2 = -1) ∧ (∀ x ∈ l, x.2 = 10 ∨ 32 ≤ x.2 ∧ x.2 ≤ 125) ∧
    l.map (pT (ph ++ P)) = P ∧ (ph ++ P).Nodup ∧ (∀ x ∈ l ++ t, 0 ≤ x.1 ∧ x.1 < ((ph.length + P.length : Nat) : Int)) ∧ eachS ph s = P ++ t.map (pT (ph ++ P)) ∧ (∀ x ∈ t, pT (ph ++ P) x ∈ ph ++ P)
  | 0, ph, s, h, hP, _ => by
    have : s = [] := List.eq_nil_of_length_eq_zero (by omega)
    subst this
    exact ⟨[], [], [], rfl, by simp, by simp, by simp, rfl, by simpa using hP.nod, by simp, rfl, by simp⟩
  | n + 1, ph, s, h, hP, hf => by
    by_cases h0 : s = []
    · subst h0
      exact ⟨[], [], [], rfl, by simp, by simp, by simp, rfl, by simpa using hP.nod, by simp, rfl, by simp⟩
    have hm := lp_mem s hP
    have hi := List.idxOf_lt_length_iff.2 hm
    by_cases hk : lp ph s < s.length
    · obtain ⟨l, P, t, e1, e2, e3, e4, e5, e6, e7, e8, e9⟩ := enc_split (n := n) (ph := ph ++ [s.take (lp ph s + 1)]) (s := s.drop (lp ph s + 1)) (by rw [List.length_drop]; omega) (hP.snoc hk) fun b hb => hf b (List.mem_of_mem_drop hb)
      have ea : ph ++ s.take (lp ph s + 1) :: P = ph ++ [s.take (lp ph s + 1)] ++ P := by simp
      have hT : pT (ph ++ s.take (lp ph s + 1) :: P) (((ph.idxOf (s.take (lp ph s)) : Nat) : Int), (((s.getD (lp ph s) 0).toNat : Nat) : Int)) = s.take (lp ph s + 1) := by
        unfold pT
        simp only [Int.toNat_natCast]
        rw [getD_app hi, getD_idx hm, if_neg (by omega), UInt8.ofNat_toNat, take_snoc hk]
      have hb : s.getD (lp ph s) 0 ∈ s := gmem (d := 0) hk
      refine ⟨(((ph.idxOf (s.take (lp ph s)) : Nat) : Int), (((s.getD (lp ph s) 0).toNat : Nat) : Int)) :: l, s.take (lp ph s + 1) :: P, t, by rw [encS_more hk, e1]; rfl, e2, e3, fun x hx => ?_, ?_, by rw [ea]; exact e6, fun x hx => ?_, ?_, by rw [ea]; exact e9⟩
      · rcases List.mem_cons.1 hx with rfl | hx
        · show (((s.getD (lp ph s) 0).toNat : Nat) : Int) = 10 ∨ 32 ≤ (((s.getD (lp ph s) 0).toNat : Nat) : Int) ∧ (((s.getD (lp ph s) 0).toNat : Nat) : Int) ≤ 125
          rcases hf _ hb with e | ⟨y1, y2⟩
          · rw [e]; exact .inl rfl
          · exact .inr ⟨by omega, by omega⟩
        · exact e4 x hx
      · rw [List.map_cons, hT, ea, e5]
      · rcases List.mem_cons.1 hx with rfl | hx
        · simp only [List.length_cons]
          omega
        · have := e7 x hx
          rw [List.length_append, List.length_singleton] at this
          rw [List.length_cons]
          omega
      · rw [eachS_more hk, e8, ea]; rfl
    · have e1 : s.take (lp ph s) = s := List.take_of_length_le (by omega)
      rw [e1] at hm hi
      have hT : pT (ph ++ []) (((ph.idxOf s : Nat) : Int), -1) = s := by
        unfold pT
        simp only [Int.toNat_natCast]
        rw [List.append_nil, getD_idx hm, if_pos trivial, List.append_nil]
      refine ⟨[], [], [(((ph.idxOf s : Nat) : Int), -1)], by rw [encS_last h0 hk]; rfl, by simp, by simp, by simp, rfl, by simpa using hP.nod, fun x hx => ?_, by rw [eachS_last h0 hk]; simp only [List.map_cons, List.map_nil, hT]; rfl, fun x hx => ?_⟩
      · obtain rfl := List.mem_singleton.1 hx
        simp only [List.length_nil]
        omega
      · obtain rfl := List.mem_singleton.1 hx
        rw [hT, List.append_nil]; exact hm
theorem cnt_app (l t : List Pie) (n : Int) : cntN (l ++ t) n = cntN l n + cntN t n := by simp [cntN, List.countP_append]
theorem cnt_le (l : List Pie) (n : Int) : cntN l n ≤ l.length := List.countP_le_length
theorem nodup_of_map {α β : Type} {f : α → β} : ∀ {l : List α}, (l.map f).Nodup → l.Nodup
  | [], _ => by simp
  | x :: l, h => by
    rw [List.map_cons, List.nodup_cons] at h
    rw [List.nodup_cons]
    exact ⟨fun hx => h.1 (List.mem_map_of_mem hx), nodup_of_map h.2⟩
def alphaI : List Int := alphabet.map fun b => ((b.toNat : Nat) : Int)
theorem alphaI_mem {z : Int} (h : z = 10 ∨ 32 ≤ z ∧ z ≤ 125) : z ∈ alphaI := by
  have hb : UInt8.ofNat z.toNat ∈ alphabet := alpha_mem (by
    have hz : (UInt8.ofNat z.toNat).toNat = z.toNat := UInt8.toNat_ofNat_of_lt' (by show z.toNat < 256; omega)
    rcases h with rfl | h
    · exact .inl rfl
    · rw [hz]; exact .inr ⟨by omega, by omega⟩)
  refine List.mem_map.2 ⟨_, hb, ?_⟩
  have hz : (UInt8.ofNat z.toNat).toNat = z.toNat := UInt8.toNat_ofNat_of_lt' (by show z.toNat < 256; omega)
  rw [hz]; omega
theorem uses_few {l : List Pie} (hn : l.Nodup) (hb : ∀ x ∈ l, x.2 = 10 ∨ 32 ≤ x.2 ∧ x.2 ≤ 125) (n : Int) : cntN l n ≤ 95 := by
  have e : cntN l n = ((l.filter fun x => decide (x.1 = n)).map (·.2)).length := by rw [List.length_map, cntN, List.countP_eq_length_filter]
  have h2 : ((l.filter fun x => decide (x.1 = n)).map (·.2)).Nodup := by
    have h3 : (l.filter fun x => decide (x.1 = n)).Nodup := hn.sublist List.filter_sublist
    have h4 : ∀ x ∈ l.filter fun x => decide (x.1 = n), x.1 = n := fun x hx => by simpa using (List.mem_filter.1 hx).2
    revert h3 h4
    generalize (l.filter fun x => decide (x.1 = n)) = m
    intro h3 h4
    induction m with
    | nil => simp
    | cons x m ih =>
      rw [List.nodup_cons] at h3
      rw [List.map_cons, List.nodup_cons]
      refine ⟨fun hx => ?_, ih h3.2 fun y hy => h4 y (by simp [hy])⟩
      obtain ⟨y, hy, e⟩ := List.mem_map.1 hx
      have h1 := h4 x (by simp)
      have h2 := h4 y (by simp [hy])
      have : y = x := Prod.ext (by rw [h1, h2]) e
      exact h3.1 (this ▸ hy)
  have h5 := nodup_le (m := alphaI) h2 fun z hz => by
    obtain ⟨x, hx, rfl⟩ := List.mem_map.1 hz
    exact alphaI_mem (hb x (List.mem_filter.1 hx).1)
  have h6 : alphaI.length = 95 := by simp [alphaI, alphabet]
  omega
/-- What the law of the uses asks of the pieces. -/
structure Spl (L l t : List Pie) : Prop where
  eq : L = l ++ t
  one : t.length ≤ 1
  tm : ∀ x ∈ t, x.2 = -1
  lm : ∀ x ∈ l, x.2 ≠ -1
  rng : ∀ x ∈ L, 0 ≤ x.1 ∧ x.1 ≤ ((l.length : Nat) : Int)
  few : ∀ n, cntN L n ≤ 96
theorem spl_of {ts : List By} (h : chkT ts = 0) : ∃ l t, Spl (encS [[]] (wholeB ts)) l t := by
  have g := chk_good h
  obtain ⟨l, P, t, e1, e2, e3, e4, e5, e6, e7, _, _⟩ := enc_split (Nat.le_refl _) Phr.one (whole_fine g.2)
  have hl : P.length = l.length := by have := congrArg List.length e5; rw [List.length_map] at this; omega
  refine ⟨l, t, e1, e2, e3, fun x hx => ?_, fun x hx => ?_, fun n => ?_⟩
  · have := e4 x hx; omega
  · rw [e1] at hx
    have := e7 x hx
    rw [List.length_singleton] at this
    omega
  · have hn : l.Nodup := nodup_of_map (f := pT ([[]] ++ P)) (by rw [e5]; exact (List.nodup_append.1 e6).2.1)
    have h1 := uses_few hn e4 n
    have h2 := cnt_le t n
    rw [e1, cnt_app]; omega
section
variable {L l t : List Pie}
theorem Spl.len (S : Spl L l t) : L.length = l.length + t.length := by rw [S.eq, List.length_append]
theorem Spl.yes (S : Spl L l t) (h0 : 0 < L.length) (h : (L.getD (L.length - 1) pz).2 = -1) : L.length = l.length + 1 := by
  have hl := S.len
  have h1 := S.one
  rcases Nat.eq_zero_or_pos t.length with z | z
  · exfalso
    have hm : L.getD (L.length - 1) pz ∈ l := by
      have ht : t = [] := List.eq_nil_of_length_eq_zero z
      have : L = l := by rw [S.eq, ht, List.append_nil]
      rw [this]; exact gmem (d := pz) (by rw [← this]; omega)
    exact S.lm _ hm h
  · omega
theorem Spl.no (S : Spl L l t) (h : 0 < L.length → (L.getD (L.length - 1) pz).2 ≠ -1) : L.length = l.length := by
  have hl := S.len
  have h1 := S.one
  rcases Nat.eq_zero_or_pos t.length with z | z
  · omega
  · exfalso
    have h0 : 0 < L.length := by omega
    refine h h0 (S.tm _ ?_)
    rw [List.getD_eq_getElem?_getD, S.eq, List.getElem?_append_right (by rw [List.length_append]; omega), List.length_append]
    rw [show l.length + t.length - 1 - l.length = 0 from by omega]
    obtain ⟨x, rfl⟩ := List.length_eq_one_iff.1 (show t.length = 1 by omega)
    simp
theorem Spl.bad (S : Spl L l t) (n : Int) : badN L n ↔ ¬ (0 ≤ n ∧ n ≤ ((l.length : Nat) : Int)) := by
  have hl := S.len
  have h1 := S.one
  unfold badN
  constructor
  · rintro (z | z | ⟨z1, z2⟩) ⟨y1, y2⟩
    · omega
    · omega
    · refine S.lm (L.getD (n - 1).toNat pz) ?_ z2
      have hlt : (n - 1).toNat < l.length := by omega
      rw [S.eq, List.getD_eq_getElem?_getD, List.getElem?_append_left hlt, ← List.getD_eq_getElem?_getD]
      exact gmem (d := pz) hlt
  · intro z
    by_cases c : n < 0
    · exact .inl c
    by_cases d : ((L.length : Nat) : Int) < n
    · exact .inr (.inl d)
    refine .inr (.inr ⟨by omega, S.tm _ ?_⟩)
    have hi : (n - 1).toNat = l.length := by omega
    rw [hi, List.getD_eq_getElem?_getD, S.eq, List.getElem?_append_right (Nat.le_refl _), Nat.sub_self]
    obtain ⟨x, rfl⟩ := List.length_eq_one_iff.1 (show t.length = 1 by omega)
    simp
end
/-- How often the first numbers are used, together. -/
def sumC (L : List Pie) : Nat → Nat
  | 0 => 0
  | k + 1 => sumC L k + cntN L ((k : Nat) : Int)
theorem sumC_count : ∀ (k : Nat) (L : List Pie), sumC L k = L.countP fun x => decide (0 ≤ x.1 ∧ x.1 < ((k : Nat) : Int))
  | 0, L => by
    rw [sumC, List.countP_eq_zero.2]
    intro x _
    simp
  | k + 1, L => by
    rw [sumC, sumC_count k L]
    induction L with
    | nil => rfl
    | cons x L ih =>
      simp only [cntN, List.countP_cons] at ih ⊢
      have : (if decide (0 ≤ x.1 ∧ x.1 < ((k + 1 : Nat) : Int)) = true then 1 else 0) = (if decide (0 ≤ x.1 ∧ x.1 < ((k : Nat) : Int)) = true then 1 else 0) + (if decide (x.1 = ((k : Nat) : Int)) = true then 1 else 0) := by
        simp only [decide_eq_true_eq]
        by_cases c : x.1 = ((k : Nat) : Int)
        · rw [if_pos (by omega), if_neg (by omega), if_pos c]
        · by_cases d : 0 ≤ x.1 ∧ x.1 < ((k : Nat) : Int)
          · rw [if_pos (by omega), if_pos d, if_neg c]
          · rw [if_neg (by omega), if_neg d, if_neg c]
      omega
theorem Spl.sum {L l t : List Pie} (S : Spl L l t) : sumC L (l.length + 1) = L.length := by
  rw [sumC_count, List.countP_eq_length]
  intro x hx
  have := S.rng x hx
  simp only [decide_eq_true_eq]
  omega
theorem sumC_le (L : List Pie) : ∀ k, sumC L k ≤ L.length := fun k => by rw [sumC_count]; exact List.countP_le_length
theorem uses_good {ts : List By} (h : chkT ts = 0) {l t : List Pie} (S : Spl (encS [[]] (wholeB ts)) l t) {n : Int} (hn : 0 ≤ n ∧ n ≤ ((l.length : Nat) : Int)) : usesB ts n = (((cntN (encS [[]] (wholeB ts)) n : Nat) : Int), 0) := by
  rw [usesB, if_neg (fun z => z h), if_neg (fun z => (S.bad n).1 z hn)]
theorem uses_bad {ts : List By} (h : chkT ts = 0) {l t : List Pie} (S : Spl (encS [[]] (wholeB ts)) l t) {n : Int} (hn : ¬ (0 ≤ n ∧ n ≤ ((l.length : Nat) : Int))) : usesB ts n = (0, 1) := by
  rw [usesB, if_neg (fun z => z h), if_pos ((S.bad n).2 hn)]
theorem form_write {ts : List By} (h : chkT ts = 0) : formB (writeB ts).1 = some (encS [[]] (wholeB ts)) := by rw [write_good h]; exact form_file h
theorem pc_good {ts : List By} (h : chkT ts = 0) : pcB ts = eachS [[]] (wholeB ts) := by rw [pc_same, pcR, if_neg fun z => z h]
theorem pc_len2 {ts : List By} (h : chkT ts = 0) : (pcB ts).length = (encS [[]] (wholeB ts)).length := by rw [pc_good h, encS_each_len]
theorem parse_write {ts : List By} (h : chkT ts = 0) : parseB (writeB ts).1 = 0 := by rw [parseB, form_write h]; rfl
end Go.X.Cent
