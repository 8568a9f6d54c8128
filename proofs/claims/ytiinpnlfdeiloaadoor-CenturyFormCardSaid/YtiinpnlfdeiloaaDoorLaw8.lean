/-
  CenturyForm, for every input: the law returns true and leaves its arguments as they were. The row, and the tied card.
-/
import Derived.Test.YtiinpnlfdeiloaaDoorD2
import Derived.Test.YtiinpnlfdeiloaaDoorD4
import Derived.Test.YtiinpnlfdeiloaaDoorD1
import Derived.Test.YtiinpnlfdeiloaaDoorCards
import Derived.Test.YtiinpnlfdeiloaaDoorTie
namespace Go.Proofs.YtiinpnlfdeiloaaDoor
open Go.X Go.X.Cent Go.Conc
set_option maxRecDepth 10000
set_option synthInstance.maxSize 2000
set_option synthInstance.maxHeartbeats 400000

set_option maxHeartbeats 2000000
theorem e8 (h : Heap) (htab : Tab h) (s : By) (m : Int) (hm : -9223372036854775808 ≤ m ∧ m ≤ 9223372036854775807) : EntersL Tryd.prog 8 #[sv s, .int .i64 (m)] h fun v h' => v = .bool true ∧ Keep h h' := by
  refine enters_introL (Φ := fun h_ => St h [] (fun _ => none) h_ []) Tryd.func8 rfl (tm := [_, _, _, _, _, _, _, _, _, _, _, _, _, _, _, _, _, _, _, _, _, _, _, _, _, _, _, _, _, _, _, _, _, _, _, _, _, _, _, _, _, _, _, _, _, _, _, _, _, _, _, _, _, _, _, _, _, _, _, _, _, _, _, _, _, _, _, _, _, _, _, _, _, _, _, _, _, _, _, _, _, _, _, _, _, _, _, _, _, _, _, _, _, _, _, _, _, _, _, _, _, _, _, _, _, _, _, _, _, _, _, _, _, _, _, _, _, _, _, _, _, _, _, _, _, _, _, _, _, _, _, _, _, _, _, _, _, _, _, _]) rfl ?_ (St.start h _ (fun _ _ e => by cases e))
  intro cs
  refine fl_seq ?_
  refine rl_start ?_
  refine rl_det (met_none rfl) (fun h_ H_ => exd_assign (v := .bool (false)) rfl) rfl ?_
  refine rl_end ?_
  refine fl_seq ?_
  refine fl_seq ?_
  refine rl_start ?_
  refine rl_det (met_none rfl) (fun h_ H_ => exd_move (v := sv s) rfl) rfl ?_
  refine rl_det (met_none rfl) (fun h_ H_ => exd_lenS (l := s) Tryd.underlying9 rfl) (tm' := _::_::_::_::_::_::_::_::_::_::_::_::_::_::_::_::_::_::_::_::_) rfl ?_
  refine rl_det (met_none rfl) (fun h_ H_ => exd_gtr rfl rfl) rfl ?_
  refine rl_det (met_none rfl) (fun h_ H_ => exd_move (v := .bool (decide (1000 < ((s.length : Nat) : Int)))) rfl) rfl ?_
  by_cases cc1 : 1000 < ((s.length : Nat) : Int)
  · refine rl_pass (met_not rfl rfl (decide_eq_true cc1)) (tm' := _::_::_::_::_::_::_::_::_::_::_::_::_::_::_::_::_::_::_::_::_::_::_::_) rfl ?_
    refine rl_pass (met_not rfl rfl (decide_eq_true cc1)) rfl ?_
    refine rl_pass (met_not rfl rfl (decide_eq_true cc1)) rfl ?_
    refine rl_det (met_none rfl) (fun h_ H_ => exd_pick_t rfl (decide_eq_true cc1) (v := .bool (true)) rfl) (tm' := _::_::_::_::_::_::_::_::_::_::_::_::_::_::_::_::_::_::_::_::_::_::_::_::_::_::_) rfl ?_
    refine rl_end ?_
    refine fl_then rfl rfl ?_
    refine fl_seq ?_
    refine rl_start ?_
    refine rl_calld (met_none rfl) (first := []) (cap := []) rfl rfl fC16 (fun h_ H_ => c16 _ (htab.keep H_.kept)) rfl ?_
    refine rl_det (met_none rfl) (fun h_ H_ => exd_assign (v := .bool (true)) rfl) rfl ?_
    refine rl_end ?_
    refine fl_retL Tryd.func8 rfl (vs := [.bool (true)]) (fun h_ H_ => ⟨.bool (true), _, rfl, rfl, rfl⟩) (v := .bool (true)) rfl ?_
    exact fun h_ H_ => ⟨rfl, H_.kept⟩
  · refine rl_det (met_some rfl rfl (decide_eq_false cc1)) (fun h_ H_ => exd_move (v := .int .i64 (m)) rfl) (tm' := _::_::_::_::_::_::_::_::_::_::_::_::_::_::_::_::_::_::_::_::_::_::_::_) rfl ?_
    refine rl_calld (met_some rfl rfl (decide_eq_false cc1)) (first := []) (cap := []) rfl rfl fC22 (fun h_ H_ => c22 .lone _ (m) (0) (9999)) rfl ?_
    refine rl_det (met_some rfl rfl (decide_eq_false cc1)) (fun h_ H_ => exd_not rfl) rfl ?_
    refine rl_det (met_none rfl) (fun h_ H_ => exd_pick_f rfl (decide_eq_false cc1) (v := .bool (!(decide (0 ≤ m ∧ m ≤ 9999)))) rfl) (tm' := _::_::_::_::_::_::_::_::_::_::_::_::_::_::_::_::_::_::_::_::_::_::_::_::_::_::_) rfl ?_
    refine rl_end ?_
    by_cases cc2 : 0 ≤ m ∧ m ≤ 9999
    · refine fl_else rfl (not_f (decide_eq_true cc2)) ?_
      refine fl_skip ?_
      refine fl_seq ?_
      have hm09 : 0 ≤ m ∧ m ≤ 9999 := by assumption
      have hsl : s.length ≤ 1000 := by omega
      have hsum := sum_good hsl
      refine rl_start ?_
      refine rl_det (met_none rfl) (fun h_ H_ => exd_move (v := sv s) rfl) rfl ?_
      refine rl_calld (met_none rfl) (first := []) (cap := []) rfl rfl fC26 (fun h_ H_ => c26 _ s (by first | omega | (rw [seal_len]; omega) | (rw [hOl]; omega))) rfl ?_
      refine rl_det (met_none rfl) (fun h_ H_ => exd_move (v := .tuple #[.int .i64 ((sumB s).1), .int .i64 ((sumB s).2)]) rfl) (tm' := _::_::_::_::_::_::_::_::_::_::_::_::_::_::_::_::_::_::_::_::_::_::_::_::_::_::_::_::_) rfl ?_
      refine rl_det (met_none rfl) (fun h_ H_ => exd_extract rfl (v := .int .i64 ((sumB s).1)) rfl) rfl ?_
      refine rl_det (met_none rfl) (fun h_ H_ => exd_extract rfl (v := .int .i64 ((sumB s).2)) rfl) rfl ?_
      refine rl_det (met_none rfl) (fun h_ H_ => exd_assign (v := .int .i64 ((sumB s).1)) rfl) (tm' := _::_::_::_::_::_::_) rfl ?_
      refine rl_det (met_none rfl) (fun h_ H_ => exd_assign (v := .int .i64 ((sumB s).2)) rfl) rfl ?_
      refine rl_end ?_
      refine fl_seq ?_
      refine rl_start ?_
      refine rl_det (met_none rfl) (fun h_ H_ => exd_move (v := sv s) rfl) rfl ?_
      refine rl_calld (met_none rfl) (first := []) (cap := []) rfl rfl fC32 (fun h_ H_ => c32 .lone _ s (by first | omega | (rw [seal_len]; omega) | (rw [hOl]; omega))) (tm' := _::_::_::_::_::_::_::_::_::_::_::_::_::_::_::_::_::_::_::_::_::_::_::_::_::_::_::_::_::_::_::_::_::_::_) rfl ?_
      refine rl_det (met_none rfl) (fun h_ H_ => exd_assign (v := sv (sealB s)) rfl) rfl ?_
      refine rl_end ?_
      refine fl_seq ?_
      refine rl_start ?_
      refine rl_det (met_none rfl) (fun h_ H_ => exd_move (v := sv (sealB s)) rfl) rfl ?_
      refine rl_own (L' := ([] : Pcs) ++ []) rfl ?_
      refine rl_call (met_none rfl) (first := []) (cap := []) rfl rfl fC33 (R := fun v_ h_ => ∃ w3 : Value, ∃ X4 : Pcs, v_ = .tuple #[w3, .int .i64 (parseB (sealB s))] ∧ (OwnS 60 2 w3 (pies ((formB (sealB s)).getD [])) X4) ∧ St h [] (fun _ => none) h_ (([] : Pcs) ++ (X4 ++ []))) (fun h_ H_ => (c33 _ (sealB s) (by first | omega | (rw [seal_len]; omega) | (rw [hOl]; omega))).mono fun v_ h2_ ⟨w3, X4, e_, o5, N_⟩ => ⟨w3, X4, e_, o5, H_.callNA N_⟩) fun v_ => ?_
      refine rl_ex fun w3 => rl_ex fun X4 => rl_and fun ev_ => rl_and fun o5 => ?_
      have ev_ := ev_.symm; subst ev_
      refine rl_own (L' := ([] : Pcs) ++ (X4 ++ [])) rfl ?_
      refine rl_norm (tm' := _::_::_::_::_::_::_::_::_::_::_::_::_::_::_::_::_::_::_::_::_::_::_::_::_::_::_::_::_::_::_::_::_::_::_::_::_::_) rfl ?_
      refine rl_det (met_none rfl) (fun h_ H_ => exd_move (v := .tuple #[w3, .int .i64 (parseB (sealB s))]) rfl) rfl ?_
      refine rl_det (met_none rfl) (fun h_ H_ => exd_extract rfl (v := w3) rfl) rfl ?_
      refine rl_det (met_none rfl) (fun h_ H_ => exd_extract rfl (v := .int .i64 (parseB (sealB s))) rfl) (tm' := _::_::_::_::_::_::_::_::_::_::_::_::_::_::_::_::_::_::_::_::_::_::_::_::_::_::_::_::_::_::_::_::_::_::_::_::_::_::_::_) rfl ?_
      refine rl_det (met_none rfl) (fun h_ H_ => exd_assign (v := w3) rfl) rfl ?_
      refine rl_det (met_none rfl) (fun h_ H_ => exd_assign (v := .int .i64 (parseB (sealB s))) rfl) rfl ?_
      refine rl_end ?_
      refine fl_seq ?_
      refine fl_seq ?_
      refine rl_start ?_
      refine rl_det (met_none rfl) (fun h_ H_ => exd_move (v := .int .i64 ((sumB s).2)) rfl) (tm' := _::_::_::_::_::_::_::_::_::_::_::_::_::_::_::_::_::_::_::_::_::_::_::_::_::_::_::_::_::_::_::_::_::_::_::_::_::_::_::_::_) rfl ?_
      refine rl_det (met_none rfl) (fun h_ H_ => exd_neq rfl rfl) rfl ?_
      refine rl_det (met_none rfl) (fun h_ H_ => exd_move (v := .bool (decide ((sumB s).2 ≠ 0))) rfl) rfl ?_
      refine rl_det (met_some rfl rfl (decide_eq_false (fun z_ => z_ (by rw [hsum])))) (fun h_ H_ => exd_move (v := .int .i64 ((sumB s).1)) rfl) (tm' := _::_::_::_::_::_::_::_::_::_::_::_::_::_::_::_::_::_::_::_::_::_::_::_::_::_::_::_::_::_::_::_::_::_::_::_::_::_::_::_::_::_::_::_) rfl ?_
      refine rl_calld (met_some rfl rfl (decide_eq_false (fun z_ => z_ (by rw [hsum])))) (first := []) (cap := []) rfl rfl fC34 (fun h_ H_ => c34 _ ((sumB s).1)) rfl ?_
      refine rl_det (met_some rfl rfl (decide_eq_false (fun z_ => z_ (by rw [hsum])))) (fun h_ H_ => exd_not rfl) rfl ?_
      refine rl_det (met_none rfl) (fun h_ H_ => exd_pick_f rfl (decide_eq_false (fun z_ => z_ (by rw [hsum]))) (v := .bool (!(decide (0 ≤ ((sumB s).1) ∧ ((sumB s).1) ≤ 9972)))) rfl) (tm' := _::_::_::_::_::_::_::_::_::_::_::_::_::_::_::_::_::_::_::_::_::_::_::_::_::_::_::_::_::_::_::_::_::_::_::_::_::_::_::_::_::_::_::_::_::_::_) rfl ?_
      refine rl_det (met_none rfl) (fun h_ H_ => exd_move (v := .bool (!(decide (0 ≤ ((sumB s).1) ∧ ((sumB s).1) ≤ 9972)))) rfl) rfl ?_
      refine rl_det (met_some rfl rfl (not_f (decide_eq_true (by rw [hsum]; exact ⟨by show (0 : Int) ≤ ((_ : Nat) : Int); omega, by show ((_ : Nat) : Int) ≤ 9972; omega⟩)))) (fun h_ H_ => exd_move (v := .int .i64 ((sumB s).1)) rfl) rfl ?_
      refine rl_det (met_some rfl rfl (not_f (decide_eq_true (by rw [hsum]; exact ⟨by show (0 : Int) ≤ ((_ : Nat) : Int); omega, by show ((_ : Nat) : Int) ≤ 9972; omega⟩)))) (fun h_ H_ => exd_move (v := sv s) rfl) (tm' := _::_::_::_::_::_::_::_::_::_::_::_::_::_::_::_::_::_::_::_::_::_::_::_::_::_::_::_::_::_::_::_::_::_::_::_::_::_::_::_::_::_::_::_::_::_::_::_::_::_) rfl ?_
      refine rl_calld (met_some rfl rfl (not_f (decide_eq_true (by rw [hsum]; exact ⟨by show (0 : Int) ≤ ((_ : Nat) : Int); omega, by show ((_ : Nat) : Int) ≤ 9972; omega⟩)))) (first := []) (cap := []) rfl rfl fC35 (fun h_ H_ => c35 .lone _ s (by omega)) rfl ?_
      refine rl_det (met_some rfl rfl (not_f (decide_eq_true (by rw [hsum]; exact ⟨by show (0 : Int) ≤ ((_ : Nat) : Int); omega, by show ((_ : Nat) : Int) ≤ 9972; omega⟩)))) (fun h_ H_ => exd_neq rfl rfl) rfl ?_
      refine rl_det (met_none rfl) (fun h_ H_ => exd_pick_f rfl (not_f (decide_eq_true (by rw [hsum]; exact ⟨by show (0 : Int) ≤ ((_ : Nat) : Int); omega, by show ((_ : Nat) : Int) ≤ 9972; omega⟩))) (v := .bool (decide ((sumB s).1 ≠ ((total s % 9973 : Nat) : Int)))) rfl) (tm' := _::_::_::_::_::_::_::_::_::_::_::_::_::_::_::_::_::_::_::_::_::_::_::_::_::_::_::_::_::_::_::_::_::_::_::_::_::_::_::_::_::_::_::_::_::_::_::_::_::_::_::_::_) rfl ?_
      refine rl_end ?_
      refine fl_else rfl (decide_eq_false (fun z_ => z_ (by rw [hsum]))) ?_
      refine fl_skip ?_
      refine fl_seq ?_
      refine fl_seq ?_
      refine rl_start ?_
      refine rl_det (met_none rfl) (fun h_ H_ => exd_move (v := sv (sealB s)) rfl) rfl ?_
      refine rl_calld (met_none rfl) (first := []) (cap := []) rfl rfl fC36 (fun h_ H_ => c36 .lone _ (sealB s) (by first | omega | (rw [seal_len]; omega) | (rw [hOl]; omega))) rfl ?_
      refine rl_det (met_none rfl) (fun h_ H_ => exd_move (v := .tuple #[sv (bodyB (sealB s)), .bool (decide (bodyOk (sealB s)))]) rfl) (tm' := _::_::_::_::_::_::_::_::_::_::_::_::_::_::_::_::_::_::_::_::_::_::_::_::_::_::_::_::_::_::_::_::_::_::_::_::_::_::_::_::_::_::_::_::_::_::_::_::_::_::_::_::_::_) rfl ?_
      refine rl_det (met_none rfl) (fun h_ H_ => exd_extract rfl (v := sv (bodyB (sealB s))) rfl) rfl ?_
      refine rl_det (met_none rfl) (fun h_ H_ => exd_extract rfl (v := .bool (decide (bodyOk (sealB s)))) rfl) rfl ?_
      refine rl_det (met_none rfl) (fun h_ H_ => exd_assign (v := sv (bodyB (sealB s))) rfl) (tm' := _::_::_::_::_::_::_::_::_::_::_::_) rfl ?_
      refine rl_det (met_none rfl) (fun h_ H_ => exd_assign (v := .bool (decide (bodyOk (sealB s)))) rfl) rfl ?_
      refine rl_end ?_
      refine fl_seq ?_
      refine rl_start ?_
      refine rl_det (met_none rfl) (fun h_ H_ => exd_move (v := .bool (decide (bodyOk (sealB s)))) rfl) rfl ?_
      refine rl_det (met_none rfl) (fun h_ H_ => exd_not rfl) (tm' := _::_::_::_::_::_::_::_::_::_::_::_::_::_::_::_::_::_::_::_::_::_::_::_::_::_::_::_::_::_::_::_::_::_::_::_::_::_::_::_::_::_::_::_::_::_::_::_::_::_::_::_::_::_::_::_::_::_::_::_) rfl ?_
      refine rl_end ?_
      by_cases cc6 : bodyOk (sealB s)
      · refine fl_else rfl (not_f (decide_eq_true cc6)) ?_
        refine fl_skip ?_
        refine fl_seq ?_
        refine rl_start ?_
        refine rl_det (met_none rfl) (fun h_ H_ => exd_move (v := sv (sealB s)) rfl) rfl ?_
        refine rl_calld (met_none rfl) (first := []) (cap := []) rfl rfl fC20 (fun h_ H_ => c20 _ (htab.keep H_.kept) (sealB s) (by first | omega | (rw [seal_len]; omega) | (rw [hOl]; omega))) rfl ?_
        refine rl_det (met_none rfl) (fun h_ H_ => exd_assign (v := .int .i64 (stateB (sealB s))) rfl) (tm' := _::_::_::_::_::_::_::_::_::_::_::_::_::_) rfl ?_
        refine rl_end ?_
        refine fl_seq ?_
        refine fl_seq ?_
        refine rl_start ?_
        refine rl_det (met_none rfl) (fun h_ H_ => exd_move (v := .int .i64 (parseB (sealB s))) rfl) rfl ?_
        refine rl_det (met_none rfl) (fun h_ H_ => exd_neq rfl rfl) rfl ?_
        refine rl_det (met_none rfl) (fun h_ H_ => exd_move (v := .bool (decide (parseB (sealB s) ≠ 0))) rfl) (tm' := _::_::_::_::_::_::_::_::_::_::_::_::_::_::_::_::_::_::_::_::_::_::_::_::_::_::_::_::_::_::_::_::_::_::_::_::_::_::_::_::_::_::_::_::_::_::_::_::_::_::_::_::_::_::_::_::_::_::_::_::_::_::_::_::_::_::_::_::_::_::_::_::_::_::_::_::_::_::_::_) rfl ?_
        refine rl_det (met_some rfl rfl (decide_eq_false (fun z_ => z_ (body_yes ‹bodyOk (sealB s)›).1))) (fun h_ H_ => exd_move (v := w3) rfl) rfl ?_
        refine rl_det (met_some rfl rfl (decide_eq_false (fun z_ => z_ (body_yes ‹bodyOk (sealB s)›).1))) (fun h_ H_ => exd_lenN o5 (pies_length _) Tryd.underlying49 rfl) rfl ?_
        refine rl_det (met_some rfl rfl (decide_eq_false (fun z_ => z_ (body_yes ‹bodyOk (sealB s)›).1))) (fun h_ H_ => exd_move (v := sv s) rfl) (tm' := _::_::_::_::_::_::_::_::_::_::_::_::_::_::_::_::_::_::_::_::_::_::_::_::_::_::_::_::_::_::_::_::_::_::_::_::_::_::_::_::_::_::_::_::_::_::_::_::_::_::_::_::_::_::_::_::_::_::_::_::_::_::_::_::_::_::_::_::_::_::_::_::_::_::_::_::_::_::_::_::_::_::_) rfl ?_
        refine rl_det (met_some rfl rfl (decide_eq_false (fun z_ => z_ (body_yes ‹bodyOk (sealB s)›).1))) (fun h_ H_ => exd_lenS (l := s) Tryd.underlying9 rfl) rfl ?_
        refine rl_det (met_some rfl rfl (decide_eq_false (fun z_ => z_ (body_yes ‹bodyOk (sealB s)›).1))) (fun h_ H_ => exd_add rfl rfl (n := ((s.length + 2 : Nat) : Int)) (wr (by omega))) rfl ?_
        refine rl_det (met_some rfl rfl (decide_eq_false (fun z_ => z_ (body_yes ‹bodyOk (sealB s)›).1))) (fun h_ H_ => exd_quo rfl rfl (by decide) (n := ((s.length + 2 : Nat) : Int) / 3) ((congrArg _ (Int.tdiv_eq_ediv_of_nonneg (by omega))).trans (wr (by omega)))) (tm' := _::_::_::_::_::_::_::_::_::_::_::_::_::_::_::_::_::_::_::_::_::_::_::_::_::_::_::_::_::_::_::_::_::_::_::_::_::_::_::_::_::_::_::_::_::_::_::_::_::_::_::_::_::_::_::_::_::_::_::_::_::_::_::_::_::_::_::_::_::_::_::_::_::_::_::_::_::_::_::_::_::_::_::_::_::_) rfl ?_
        refine rl_det (met_some rfl rfl (decide_eq_false (fun z_ => z_ (body_yes ‹bodyOk (sealB s)›).1))) (fun h_ H_ => exd_neq rfl rfl) rfl ?_
        refine rl_det (met_none rfl) (fun h_ H_ => exd_pick_f rfl (decide_eq_false (fun z_ => z_ (body_yes ‹bodyOk (sealB s)›).1)) (v := .bool (decide (((((formB (sealB s)).getD []).length : Nat) : Int) ≠ ((s.length + 2 : Nat) : Int) / 3))) rfl) rfl ?_
        refine rl_det (met_none rfl) (fun h_ H_ => exd_move (v := .bool (decide (((((formB (sealB s)).getD []).length : Nat) : Int) ≠ ((s.length + 2 : Nat) : Int) / 3))) rfl) (tm' := _::_::_::_::_::_::_::_::_::_::_::_::_::_::_::_::_::_::_::_::_::_::_::_::_::_::_::_::_::_::_::_::_::_::_::_::_::_::_::_::_::_::_::_::_::_::_::_::_::_::_::_::_::_::_::_::_::_::_::_::_::_::_::_::_::_::_::_::_::_::_::_::_::_::_::_::_::_::_::_::_::_::_::_::_::_::_::_::_) rfl ?_
        refine rl_det (met_some rfl rfl (decide_eq_false (fun z_ => z_ (by have y_ := (body_yes ‹bodyOk (sealB s)›).2.1; omega)))) (fun h_ H_ => exd_move (v := .int .i64 (stateB (sealB s))) rfl) rfl ?_
        refine rl_det (met_some rfl rfl (decide_eq_false (fun z_ => z_ (by have y_ := (body_yes ‹bodyOk (sealB s)›).2.1; omega)))) (fun h_ H_ => exd_neq rfl rfl) rfl ?_
        refine rl_det (met_some rfl rfl (decide_eq_false (fun z_ => z_ (by have y_ := (body_yes ‹bodyOk (sealB s)›).2.1; omega)))) (fun h_ H_ => exd_move (v := .bool (decide (stateB (sealB s) ≠ 1))) rfl) (tm' := _::_::_::_::_::_::_::_::_::_::_::_::_::_::_::_::_::_::_::_::_::_::_::_::_::_::_::_::_::_::_::_::_::_::_::_::_::_::_::_::_::_::_::_::_::_::_::_::_::_::_::_::_::_::_::_::_::_::_::_::_::_::_::_::_::_::_::_::_::_::_::_::_::_::_::_::_::_::_::_::_::_::_::_::_::_::_::_::_::_::_::_) rfl ?_
        by_cases cc7 : stateB (sealB s) ≠ 1
        · refine rl_det (met_some rfl rfl (decide_eq_true cc7)) (fun h_ H_ => exd_move (v := .int .i64 (stateB (sealB s))) rfl) rfl ?_
          refine rl_det (met_some rfl rfl (decide_eq_true cc7)) (fun h_ H_ => exd_neq rfl rfl) rfl ?_
          refine rl_det (met_some rfl rfl (decide_eq_false (fun z_ => z_ (by have y_ := (body_yes ‹bodyOk (sealB s)›).2.1; omega)))) (fun h_ H_ => exd_pick_t rfl (decide_eq_true cc7) (v := .bool (decide (stateB (sealB s) ≠ 4))) rfl) (tm' := [_,_,_,_,_,_,_,_,_,_,_,_,_,_,_,_,_,_,_,_,_,_,_,_,_,_,_,_,_,_,_,_,_,_,_,_,_,_,_,_,_,_,_,_,_,_,_,_,_,_,_,_,_,_,_,_,_,_,_,_,_,_,_,_,_,_,_,_,_,_,_,_,_,_,_,_,_,_,_,_,_,_,_,_,_,_,_,_,_,_,_,_,_,_,_,_,_,_,_,_,_,_,_,_,_,_,_,_,_,_,_,_,_,_,_,_,_,_,_,_,_,_,_,_,_,_,_,_,_,_,_,_,_,_,_,_,_,_,_,_]) rfl ?_
          refine rl_det (met_none rfl) (fun h_ H_ => exd_pick_f rfl (decide_eq_false (fun z_ => z_ (by have y_ := (body_yes ‹bodyOk (sealB s)›).2.1; omega))) (v := .bool (decide (stateB (sealB s) ≠ 4))) rfl) rfl ?_
          refine rl_end ?_
          refine fl_else rfl (decide_eq_false (fun z_ => z_ ((body_yes ‹bodyOk (sealB s)›).2.2.resolve_left ‹_›))) ?_
          refine fl_skip ?_
          refine fl_seq ?_
          refine fl_seq ?_
          refine rl_start ?_
          refine rl_det (met_none rfl) (fun h_ H_ => exd_move (v := .int .i64 (m)) rfl) rfl ?_
          refine rl_det (met_none rfl) (fun h_ H_ => exd_move (v := .int .i64 ((sumB s).1)) rfl) (tm' := [_,_,_,_,_,_,_,_,_,_,_,_,_,_,_,_,_,_,_,_,_,_,_,_,_,_,_,_,_,_,_,_,_,_,_,_,_,_,_,_,_,_,_,_,_,_,_,_,_,_,_,_,_,_,_,_,_,_,_,_,_,_,_,_,_,_,_,_,_,_,_,_,_,_,_,_,_,_,_,_,_,_,_,_,_,_,_,_,_,_,_,_,_,_,_,_,_,_,_,_,_,_,_,_,_,_,_,_,_,_,_,_,_,_,_,_,_,_,_,_,_,_,_,_,_,_,_,_,_,_,_,_,_,_,_,_,_,_,_,_]) rfl ?_
          refine rl_det (met_none rfl) (fun h_ H_ => exd_eql rfl rfl) rfl ?_
          refine rl_end ?_
          by_cases cc8 : m = (sumB s).1
          · refine fl_then rfl (decide_eq_true cc8) ?_
            refine fl_seq ?_
            refine rl_start ?_
            refine rl_calld (met_none rfl) (first := []) (cap := []) rfl rfl fC16 (fun h_ H_ => c16 _ (htab.keep H_.kept)) rfl ?_
            refine rl_det (met_none rfl) (fun h_ H_ => exd_assign (v := .bool (true)) rfl) (tm' := _::_::_::_::_::_) rfl ?_
            refine rl_end ?_
            refine fl_retL Tryd.func8 rfl (vs := [.bool (true)]) (fun h_ H_ => ⟨.bool (true), _, rfl, rfl, rfl⟩) (v := .bool (true)) rfl ?_
            exact fun h_ H_ => ⟨rfl, H_.kept⟩
          · refine fl_else rfl (decide_eq_false cc8) ?_
            refine fl_skip ?_
            refine fl_seq ?_
            refine rl_start ?_
            refine rl_buildO ([] : Pcs) (met_none rfl) Tryd.underlying37 tS5 tZ5 (Nat.le_of_ble_eq_true rfl) (vs := [(0, .int .u8 48), (1, .int .u8 48), (2, .int .u8 48), (3, .int .u8 48)]) rfl rfl (es := [[.int .u8 48], [.int .u8 48], [.int .u8 48], [.int .u8 48]]) rfl rfl rfl fun v9 X10 o11 => ?_
            refine rl_det (met_none rfl) (fun h_ H_ => exd_assign (v := v9) rfl) rfl ?_
            refine rl_end ?_
            refine fl_seq ?_
            refine fl_seq ?_
            refine rl_start ?_
            refine rl_det (met_none rfl) (fun h_ H_ => exd_assign (v := .int .i64 3) rfl) (tm' := _::_::_::_::_::_::_::_::_::_::_::_::_::_::_::_) rfl ?_
            refine rl_end ?_
            refine fl_block ?_
            refine fl_loop (m₀ := 4 - 0) (fun m_ tm_ h_ => ∃ (j : Nat) (z : Int) (q : Int) (X1 : Pcs), m_ = 4 - j ∧ (∃ y12 : Nat → Value, tm_ = [sv s, .int .i64 (q), undef, undef, .bool (false), .int .i64 ((sumB s).1), .int .i64 ((sumB s).2), sv (sealB s), w3, .int .i64 (parseB (sealB s)), sv (bodyB (sealB s)), .bool (decide (bodyOk (sealB s))), .int .i64 (stateB (sealB s)), v9, .int .i64 (z), undef, undef, undef, sv s, .int .i64 (((s.length : Nat) : Int)), .bool (decide (1000 < ((s.length : Nat) : Int))), .bool (decide (1000 < ((s.length : Nat) : Int))), .int .i64 (m), .bool (decide (0 ≤ m ∧ m ≤ 9999)), .bool (!(decide (0 ≤ m ∧ m ≤ 9999))), .bool (!(decide (0 ≤ m ∧ m ≤ 9999))), undef, .tuple #[.int .i64 ((sumB s).1), .int .i64 ((sumB s).2)], sv s, .tuple #[.int .i64 ((sumB s).1), .int .i64 ((sumB s).2)], .int .i64 ((sumB s).1), .int .i64 ((sumB s).2), sv s, sv (sealB s), .tuple #[w3, .int .i64 (parseB (sealB s))], sv (sealB s), .tuple #[w3, .int .i64 (parseB (sealB s))], w3, .int .i64 (parseB (sealB s)), .int .i64 ((sumB s).2), .bool (decide ((sumB s).2 ≠ 0)), .bool (decide ((sumB s).2 ≠ 0)), .int .i64 ((sumB s).1), .bool (decide (0 ≤ ((sumB s).1) ∧ ((sumB s).1) ≤ 9972)), .bool (!(decide (0 ≤ ((sumB s).1) ∧ ((sumB s).1) ≤ 9972))), .bool (!(decide (0 ≤ ((sumB s).1) ∧ ((sumB s).1) ≤ 9972))), .bool (!(decide (0 ≤ ((sumB s).1) ∧ ((sumB s).1) ≤ 9972))), .int .i64 ((sumB s).1), sv s, .int .i64 (((total s % 9973 : Nat) : Int)), .bool (decide ((sumB s).1 ≠ ((total s % 9973 : Nat) : Int))), .bool (decide ((sumB s).1 ≠ ((total s % 9973 : Nat) : Int))), .tuple #[sv (bodyB (sealB s)), .bool (decide (bodyOk (sealB s)))], sv (sealB s), .tuple #[sv (bodyB (sealB s)), .bool (decide (bodyOk (sealB s)))], sv (bodyB (sealB s)), .bool (decide (bodyOk (sealB s))), .bool (decide (bodyOk (sealB s))), .bool (!(decide (bodyOk (sealB s)))), undef, undef, undef, undef, undef, undef, undef, undef, undef, undef, undef, undef, undef, undef, undef, sv (sealB s), .int .i64 (stateB (sealB s)), .int .i64 (parseB (sealB s)), .bool (decide (parseB (sealB s) ≠ 0)), .bool (decide (parseB (sealB s) ≠ 0)), w3, .int .i64 (((((formB (sealB s)).getD []).length : Nat) : Int)), sv s, .int .i64 (((s.length : Nat) : Int)), .int .i64 (((s.length + 2 : Nat) : Int)), .int .i64 (((s.length + 2 : Nat) : Int) / 3), .bool (decide (((((formB (sealB s)).getD []).length : Nat) : Int) ≠ ((s.length + 2 : Nat) : Int) / 3)), .bool (decide (((((formB (sealB s)).getD []).length : Nat) : Int) ≠ ((s.length + 2 : Nat) : Int) / 3)), .bool (decide (((((formB (sealB s)).getD []).length : Nat) : Int) ≠ ((s.length + 2 : Nat) : Int) / 3)), .int .i64 (stateB (sealB s)), .bool (decide (stateB (sealB s) ≠ 1)), .bool (decide (stateB (sealB s) ≠ 1)), .int .i64 (stateB (sealB s)), .bool (decide (stateB (sealB s) ≠ 4)), .bool (decide (stateB (sealB s) ≠ 4)), .bool (decide (stateB (sealB s) ≠ 4)), .int .i64 (m), .int .i64 ((sumB s).1), .bool (decide (m = (sumB s).1)), undef, v9, (y12 100), (y12 101), (y12 102), (y12 103), (y12 104), (y12 105), (y12 106), (y12 107), (y12 108), (y12 109), (y12 110), (y12 111), (y12 112), (y12 113), (y12 114), undef, undef, undef, undef, undef, undef, undef, undef, undef, undef, undef, undef, undef, undef, undef, undef, undef, undef, undef, undef, undef, undef, undef, undef, undef]) ∧ (j ≤ 4 ∧ z = 3 - ((j : Nat) : Int) ∧ q = ((m.toNat / 10 ^ j : Nat) : Int) ∧ 0 ≤ q ∧ q ≤ 9999) ∧ (OwnS 5 1 v9 (bcs (dlOf m.toNat j)) X1) ∧ St h [] (fun _ => none) h_ (([] : Pcs) ++ (X1 ++ (X4 ++ [])))) (fun h_ H_ => ⟨0, 3, m, X10, rfl, (y_of rfl), ⟨by omega, by omega, by rw [Nat.pow_zero, Nat.div_one]; omega, by omega⟩, o11, H_⟩) ?_
            intro m_ tm_ IH13
            refine rs_ex fun j => rs_ex fun z => rs_ex fun q => rs_ex fun X1 => rs_and fun hm_ => rs_and fun ht_ => rs_and fun hi => rs_and fun o1 => ?_
            subst hm_; obtain ⟨y12, ht_⟩ := ht_; subst ht_
            obtain ⟨hj, hz, hq, hq0⟩ := hi
            refine fl_seq ?_
            refine fl_seq ?_
            refine rl_start ?_
            refine rl_det (met_none rfl) (fun h_ H_ => exd_move (v := .int .i64 (z)) rfl) rfl ?_
            refine rl_det (met_none rfl) (fun h_ H_ => exd_geq rfl rfl) rfl ?_
            refine rl_end ?_
            by_cases cc14 : 0 ≤ z
            · refine fl_then rfl (decide_eq_true cc14) ?_
              refine fl_skip ?_
              refine fl_seq ?_
              refine fl_block ?_
              refine fl_seq ?_
              refine rl_start ?_
              refine rl_det (met_none rfl) (fun h_ H_ => exd_move (v := v9) rfl) (tm' := [_,_,_,_,_,_,_,_,_,_,_,_,_,_,_,_,_,_,_,_,_,_,_,_,_,_,_,_,_,_,_,_,_,_,_,_,_,_,_,_,_,_,_,_,_,_,_,_,_,_,_,_,_,_,_,_,_,_,_,_,_,_,_,_,_,_,_,_,_,_,_,_,_,_,_,_,_,_,_,_,_,_,_,_,_,_,_,_,_,_,_,_,_,_,_,_,_,_,_,_,_,_,_,_,_,_,_,_,_,_,_,_,_,_,_,_,_,_,_,_,_,_,_,_,_,_,_,_,_,_,_,_,_,_,_,_,_,_,_,_]) rfl ?_
              refine rl_det (met_none rfl) (fun h_ H_ => exd_move (v := .int .i64 (z)) rfl) rfl ?_
              refine rl_det (met_none rfl) (fun h_ H_ => exd_indexOI o1 Tryd.underlying37 tS5 rfl rfl (by omega) (by rw [(dl_len _ (by omega))]; omega)) rfl ?_
              refine rl_det (met_none rfl) (fun h_ H_ => exd_loadO (A := ([] : Pcs)) (i := (z).toNat) (j := 0) (e := [.int .u8 48]) o1 H_ tA5 rfl rfl (dl_at (by omega) hz) (u := .int .u8 48) rfl) (tm' := [_,_,_,_,_,_,_,_,_,_,_,_,_,_,_,_,_,_,_,_,_,_,_,_,_,_,_,_,_,_,_,_,_,_,_,_,_,_,_,_,_,_,_,_,_,_,_,_,_,_,_,_,_,_,_,_,_,_,_,_,_,_,_,_,_,_,_,_,_,_,_,_,_,_,_,_,_,_,_,_,_,_,_,_,_,_,_,_,_,_,_,_,_,_,_,_,_,_,_,_,_,_,_,_,_,_,_,_,_,_,_,_,_,_,_,_,_,_,_,_,_,_,_,_,_,_,_,_,_,_,_,_,_,_,_,_,_,_,_,_]) rfl ?_
              refine rl_det (met_none rfl) (fun h_ H_ => exd_move (v := .int .i64 (q)) rfl) rfl ?_
              refine rl_det (met_none rfl) (fun h_ H_ => exd_rem rfl rfl (by decide) (n := q % 10) (Int.tmod_eq_emod_of_nonneg (by omega))) rfl ?_
              refine rl_det (met_none rfl) (fun h_ H_ => exd_conv ⟨_, Tryd.underlying3⟩ Tryd.underlying5 rfl (n := q % 10) (wr8 (by omega))) (tm' := [_,_,_,_,_,_,_,_,_,_,_,_,_,_,_,_,_,_,_,_,_,_,_,_,_,_,_,_,_,_,_,_,_,_,_,_,_,_,_,_,_,_,_,_,_,_,_,_,_,_,_,_,_,_,_,_,_,_,_,_,_,_,_,_,_,_,_,_,_,_,_,_,_,_,_,_,_,_,_,_,_,_,_,_,_,_,_,_,_,_,_,_,_,_,_,_,_,_,_,_,_,_,_,_,_,_,_,_,_,_,_,_,_,_,_,_,_,_,_,_,_,_,_,_,_,_,_,_,_,_,_,_,_,_,_,_,_,_,_,_]) rfl ?_
              refine rl_det (met_none rfl) (fun h_ H_ => exd_add rfl rfl (wr8 (by omega))) rfl ?_
              refine rl_det (met_none rfl) (fun h_ H_ => exd_indexOI o1 Tryd.underlying37 tS5 rfl rfl (by omega) (by rw [(dl_len _ (by omega))]; omega)) rfl ?_
              refine rl_storeO (A := ([] : Pcs)) (i := (z).toNat) (j := 0) (e := [.int .u8 48]) (u := .int .u8 (48 + (q % 10))) o1 (met_none rfl) tS5 rfl rfl rfl ⟨rfl, rfl⟩ (dl_at (by omega) hz) (Nat.succ_le_iff.1 (Nat.le_of_ble_eq_true rfl)) fun X15 o16 => ?_
              refine rl_end ?_
              refine rl_start ?_
              refine rl_det (met_none rfl) (fun h_ H_ => exd_move (v := .int .i64 (q)) rfl) (tm' := [_,_,_,_,_,_,_,_,_,_,_,_,_,_,_,_,_,_,_,_,_,_,_,_,_,_,_,_,_,_,_,_,_,_,_,_,_,_,_,_,_,_,_,_,_,_,_,_,_,_,_,_,_,_,_,_,_,_,_,_,_,_,_,_,_,_,_,_,_,_,_,_,_,_,_,_,_,_,_,_,_,_,_,_,_,_,_,_,_,_,_,_,_,_,_,_,_,_,_,_,_,_,_,_,_,_,_,_,_,_,_,_,_,_,_,_,_,_,_,_,_,_,_,_,_,_,_,_,_,_,_,_,_,_,_,_,_,_,_,_]) rfl ?_
              refine rl_det (met_none rfl) (fun h_ H_ => exd_quo rfl rfl (by decide) (n := q / 10) ((congrArg _ (Int.tdiv_eq_ediv_of_nonneg (by omega))).trans (wr (by omega)))) rfl ?_
              refine rl_det (met_none rfl) (fun h_ H_ => exd_assign (v := .int .i64 (q / 10)) rfl) rfl ?_
              refine rl_end ?_
              refine fl_inBlock ?_
              refine rl_start ?_
              refine rl_det (met_none rfl) (fun h_ H_ => exd_move (v := .int .i64 (z)) rfl) (tm' := [_,_,_,_,_,_,_,_,_,_,_,_,_,_,_,_,_,_,_,_,_,_,_,_,_,_,_,_,_,_,_,_,_,_,_,_,_,_,_,_,_,_,_,_,_,_,_,_,_,_,_,_,_,_,_,_,_,_,_,_,_,_,_,_,_,_,_,_,_,_,_,_,_,_,_,_,_,_,_,_,_,_,_,_,_,_,_,_,_,_,_,_,_,_,_,_,_,_,_,_,_,_,_,_,_,_,_,_,_,_,_,_,_,_,_,_,_,_,_,_,_,_,_,_,_,_,_,_,_,_,_,_,_,_,_,_,_,_,_,_]) rfl ?_
              refine rl_det (met_none rfl) (fun h_ H_ => exd_sub rfl rfl (wr (by omega))) rfl ?_
              refine rl_det (met_none rfl) (fun h_ H_ => exd_assign (v := .int .i64 (z - 1)) rfl) rfl ?_
              refine rl_end ?_
              exact fun h_ H_ => IH13 _ _ (by omega) h_ ⟨j + 1, z - 1, q / 10, X15, rfl, (y_of rfl), ⟨by omega, by omega, dl_div hq, by omega⟩, (o16.as (dl_set (by omega) hz hq)), H_⟩
            · refine fl_else rfl (decide_eq_false cc14) ?_
              refine fl_exit rfl ?_
              refine fl_seq ?_
              have hj4 : j = 4 := by omega
              have hO : (s ++ ([61] : List UInt8)) ++ four m.toNat = tailB s m.toNat := by rw [tailB, List.append_assoc]; rfl
              have hOl : ((s ++ ([61] : List UInt8)) ++ four m.toNat).length = s.length + 5 := by rw [hO, tail_len]
              refine rl_start ?_
              refine rl_det (met_none rfl) (fun h_ H_ => exd_move (v := sv s) rfl) (tm' := [_,_,_,_,_,_,_,_,_,_,_,_,_,_,_,_,_,_,_,_,_,_,_,_,_,_,_,_,_,_,_,_,_,_,_,_,_,_,_,_,_,_,_,_,_,_,_,_,_,_,_,_,_,_,_,_,_,_,_,_,_,_,_,_,_,_,_,_,_,_,_,_,_,_,_,_,_,_,_,_,_,_,_,_,_,_,_,_,_,_,_,_,_,_,_,_,_,_,_,_,_,_,_,_,_,_,_,_,_,_,_,_,_,_,_,_,_,_,_,_,_,_,_,_,_,_,_,_,_,_,_,_,_,_,_,_,_,_,_,_]) rfl ?_
              refine rl_det (met_none rfl) (fun h_ H_ => exd_catS (l := s) (m := ([61] : List UInt8)) rfl rfl (by first | (simp only [List.length_singleton]; omega) | (rw [List.length_append, List.length_singleton, four_len]; omega))) rfl ?_
              refine rl_det (met_none rfl) (fun h_ H_ => exd_move (v := v9) rfl) rfl ?_
              refine rl_det (met_none rfl) (fun h_ H_ => exd_strOwn (A := ([] : Pcs)) (o1.as (dl_end hj4)) H_ Tryd.underlying37 Tryd.underlying9 Tryd.underlying5 rfl) (tm' := [_,_,_,_,_,_,_,_,_,_,_,_,_,_,_,_,_,_,_,_,_,_,_,_,_,_,_,_,_,_,_,_,_,_,_,_,_,_,_,_,_,_,_,_,_,_,_,_,_,_,_,_,_,_,_,_,_,_,_,_,_,_,_,_,_,_,_,_,_,_,_,_,_,_,_,_,_,_,_,_,_,_,_,_,_,_,_,_,_,_,_,_,_,_,_,_,_,_,_,_,_,_,_,_,_,_,_,_,_,_,_,_,_,_,_,_,_,_,_,_,_,_,_,_,_,_,_,_,_,_,_,_,_,_,_,_,_,_,_,_]) rfl ?_
              refine rl_det (met_none rfl) (fun h_ H_ => exd_catS (l := s ++ ([61] : List UInt8)) (m := four m.toNat) rfl rfl (by first | (simp only [List.length_singleton]; omega) | (rw [List.length_append, List.length_singleton, four_len]; omega))) rfl ?_
              refine rl_det (met_none rfl) (fun h_ H_ => exd_assign (v := sv ((s ++ ([61] : List UInt8)) ++ (four m.toNat))) rfl) rfl ?_
              refine rl_end ?_
              refine fl_seq ?_
              refine rl_start ?_
              refine rl_det (met_none rfl) (fun h_ H_ => exd_move (v := sv ((s ++ ([61] : List UInt8)) ++ (four m.toNat))) rfl) (tm' := [_,_,_,_,_,_,_,_,_,_,_,_,_,_,_,_,_,_,_,_,_,_,_,_,_,_,_,_,_,_,_,_,_,_,_,_,_,_,_,_,_,_,_,_,_,_,_,_,_,_,_,_,_,_,_,_,_,_,_,_,_,_,_,_,_,_,_,_,_,_,_,_,_,_,_,_,_,_,_,_,_,_,_,_,_,_,_,_,_,_,_,_,_,_,_,_,_,_,_,_,_,_,_,_,_,_,_,_,_,_,_,_,_,_,_,_,_,_,_,_,_,_,_,_,_,_,_,_,_,_,_,_,_,_,_,_,_,_,_,_]) rfl ?_
              refine rl_call (met_none rfl) (first := []) (cap := []) rfl rfl fC33 (R := fun v_ h_ => ∃ w17 : Value, ∃ X18 : Pcs, v_ = .tuple #[w17, .int .i64 (parseB ((s ++ ([61] : List UInt8)) ++ (four m.toNat)))] ∧ (OwnS 60 2 w17 (pies ((formB ((s ++ ([61] : List UInt8)) ++ (four m.toNat))).getD [])) X18) ∧ St h [] (fun _ => none) h_ (([] : Pcs) ++ (X18 ++ (X1 ++ (X4 ++ []))))) (fun h_ H_ => (c33 _ ((s ++ ([61] : List UInt8)) ++ (four m.toNat)) (by first | omega | (rw [seal_len]; omega) | (rw [hOl]; omega))).mono fun v_ h2_ ⟨w17, X18, e_, o19, N_⟩ => ⟨w17, X18, e_, o19, H_.callNA N_⟩) fun v_ => ?_
              refine rl_ex fun w17 => rl_ex fun X18 => rl_and fun ev_ => rl_and fun o19 => ?_
              have ev_ := ev_.symm; subst ev_
              refine rl_own (L' := ([] : Pcs) ++ (X18 ++ (X1 ++ (X4 ++ [])))) rfl ?_
              refine rl_det (met_none rfl) (fun h_ H_ => exd_move (v := .tuple #[w17, .int .i64 (parseB ((s ++ ([61] : List UInt8)) ++ (four m.toNat)))]) rfl) rfl ?_
              refine rl_det (met_none rfl) (fun h_ H_ => exd_extract rfl (v := w17) rfl) (tm' := [_,_,_,_,_,_,_,_,_,_,_,_,_,_,_,_,_,_,_,_,_,_,_,_,_,_,_,_,_,_,_,_,_,_,_,_,_,_,_,_,_,_,_,_,_,_,_,_,_,_,_,_,_,_,_,_,_,_,_,_,_,_,_,_,_,_,_,_,_,_,_,_,_,_,_,_,_,_,_,_,_,_,_,_,_,_,_,_,_,_,_,_,_,_,_,_,_,_,_,_,_,_,_,_,_,_,_,_,_,_,_,_,_,_,_,_,_,_,_,_,_,_,_,_,_,_,_,_,_,_,_,_,_,_,_,_,_,_,_,_]) rfl ?_
              refine rl_det (met_none rfl) (fun h_ H_ => exd_extract rfl (v := .int .i64 (parseB ((s ++ ([61] : List UInt8)) ++ (four m.toNat)))) rfl) rfl ?_
              refine rl_det (met_none rfl) (fun h_ H_ => exd_assign (v := w17) rfl) rfl ?_
              refine rl_det (met_none rfl) (fun h_ H_ => exd_assign (v := .int .i64 (parseB ((s ++ ([61] : List UInt8)) ++ (four m.toNat)))) rfl) (tm' := _::_::_::_::_::_::_::_::_::_::_::_::_::_::_::_::_::_::_) rfl ?_
              refine rl_end ?_
              refine fl_seq ?_
              refine rl_start ?_
              refine rl_det (met_none rfl) (fun h_ H_ => exd_move (v := .int .i64 (parseB ((s ++ ([61] : List UInt8)) ++ (four m.toNat)))) rfl) rfl ?_
              refine rl_det (met_none rfl) (fun h_ H_ => exd_eql rfl rfl) rfl ?_
              refine rl_det (met_none rfl) (fun h_ H_ => exd_move (v := .bool (decide (parseB ((s ++ ([61] : List UInt8)) ++ (four m.toNat)) = 0))) rfl) (tm' := [_,_,_,_,_,_,_,_,_,_,_,_,_,_,_,_,_,_,_,_,_,_,_,_,_,_,_,_,_,_,_,_,_,_,_,_,_,_,_,_,_,_,_,_,_,_,_,_,_,_,_,_,_,_,_,_,_,_,_,_,_,_,_,_,_,_,_,_,_,_,_,_,_,_,_,_,_,_,_,_,_,_,_,_,_,_,_,_,_,_,_,_,_,_,_,_,_,_,_,_,_,_,_,_,_,_,_,_,_,_,_,_,_,_,_,_,_,_,_,_,_,_,_,_,_,_,_,_,_,_,_,_,_,_,_,_,_,_,_,_]) rfl ?_
              refine rl_det (met_some rfl rfl (decide_eq_true (by rw [hO]; exact other_parse (by omega) ‹bodyOk (sealB s)›))) (fun h_ H_ => exd_move (v := w3) rfl) rfl ?_
              refine rl_det (met_some rfl rfl (decide_eq_true (by rw [hO]; exact other_parse (by omega) ‹bodyOk (sealB s)›))) (fun h_ H_ => exd_move (v := w17) rfl) rfl ?_
              refine rl_perm (List.Perm.append_left _ (List.Perm.append_left _ (List.perm_append_comm_assoc _ _ _))) ?_
              refine rl_perm (List.Perm.append_left _ (List.perm_append_comm_assoc _ _ _)) ?_
              refine rl_own (L' := ([] : Pcs) ++ (X4 ++ (X18 ++ (X1 ++ [])))) rfl ?_
              refine rl_lastN (A := ([] : Pcs)) o5 (pies_length _) fun p20 a21 cp22 le23 ev_ D24 => ?_
              subst ev_
              refine rl_lastN (A := ([] : Pcs)) o19 (pies_length _) fun p25 a26 cp27 le28 ev_ D29 => ?_
              subst ev_
              refine rl_calld (met_some rfl rfl (decide_eq_true (by rw [hO]; exact other_parse (by omega) ‹bodyOk (sealB s)›))) (first := []) (cap := []) rfl rfl fC37 (fun h_ H_ => c37 _ _ (fun b_ o_ e_ => H_.per b_ o_ e_) a21 a26 (((formB (sealB s)).getD []).length) (((formB ((s ++ ([61] : List UInt8)) ++ (four m.toNat))).getD []).length) _ _ ((formB (sealB s)).getD []) ((formB ((s ++ ([61] : List UInt8)) ++ (four m.toNat))).getD []) ((show Pies _ _ _ ((formB (sealB s)).getD []) from D24).mono le28) (show Pies _ _ _ ((formB ((s ++ ([61] : List UInt8)) ++ (four m.toNat))).getD []) from D29) (by have := (form_ok (sealB s)).1; omega)) (tm' := [_,_,_,_,_,_,_,_,_,_,_,_,_,_,_,_,_,_,_,_,_,_,_,_,_,_,_,_,_,_,_,_,_,_,_,_,_,_,_,_,_,_,_,_,_,_,_,_,_,_,_,_,_,_,_,_,_,_,_,_,_,_,_,_,_,_,_,_,_,_,_,_,_,_,_,_,_,_,_,_,_,_,_,_,_,_,_,_,_,_,_,_,_,_,_,_,_,_,_,_,_,_,_,_,_,_,_,_,_,_,_,_,_,_,_,_,_,_,_,_,_,_,_,_,_,_,_,_,_,_,_,_,_,_,_,_,_,_,_,_]) rfl ?_
              refine rl_det (met_none rfl) (fun h_ H_ => exd_pick_t rfl (decide_eq_true (by rw [hO]; exact other_parse (by omega) ‹bodyOk (sealB s)›)) (v := .bool (decide (((formB (sealB s)).getD []) = ((formB ((s ++ ([61] : List UInt8)) ++ (four m.toNat))).getD [])))) rfl) rfl ?_
              refine rl_det (met_none rfl) (fun h_ H_ => exd_move (v := .bool (decide (((formB (sealB s)).getD []) = ((formB ((s ++ ([61] : List UInt8)) ++ (four m.toNat))).getD [])))) rfl) rfl ?_
              refine rl_det (met_some rfl rfl (decide_eq_true (by rw [hO, tail_same (by omega)]))) (fun h_ H_ => exd_move (v := sv ((s ++ ([61] : List UInt8)) ++ (four m.toNat))) rfl) (tm' := [_,_,_,_,_,_,_,_,_,_,_,_,_,_,_,_,_,_,_,_,_,_,_,_,_,_,_,_,_,_,_,_,_,_,_,_,_,_,_,_,_,_,_,_,_,_,_,_,_,_,_,_,_,_,_,_,_,_,_,_,_,_,_,_,_,_,_,_,_,_,_,_,_,_,_,_,_,_,_,_,_,_,_,_,_,_,_,_,_,_,_,_,_,_,_,_,_,_,_,_,_,_,_,_,_,_,_,_,_,_,_,_,_,_,_,_,_,_,_,_,_,_,_,_,_,_,_,_,_,_,_,_,_,_,_,_,_,_,_,_]) rfl ?_
              refine rl_calld (met_some rfl rfl (decide_eq_true (by rw [hO, tail_same (by omega)]))) (first := []) (cap := []) rfl rfl fC20 (fun h_ H_ => c20 _ (htab.keep H_.kept) ((s ++ ([61] : List UInt8)) ++ (four m.toNat)) (by first | omega | (rw [seal_len]; omega) | (rw [hOl]; omega))) rfl ?_
              refine rl_det (met_some rfl rfl (decide_eq_true (by rw [hO, tail_same (by omega)]))) (fun h_ H_ => exd_eql rfl rfl) rfl ?_
              refine rl_det (met_none rfl) (fun h_ H_ => exd_pick_t rfl (decide_eq_true (by rw [hO, tail_same (by omega)])) (v := .bool (decide (stateB ((s ++ ([61] : List UInt8)) ++ (four m.toNat)) = 3))) rfl) (tm' := [_,_,_,_,_,_,_,_,_,_,_,_,_,_,_,_,_,_,_,_,_,_,_,_,_,_,_,_,_,_,_,_,_,_,_,_,_,_,_,_,_,_,_,_,_,_,_,_,_,_,_,_,_,_,_,_,_,_,_,_,_,_,_,_,_,_,_,_,_,_,_,_,_,_,_,_,_,_,_,_,_,_,_,_,_,_,_,_,_,_,_,_,_,_,_,_,_,_,_,_,_,_,_,_,_,_,_,_,_,_,_,_,_,_,_,_,_,_,_,_,_,_,_,_,_,_,_,_,_,_,_,_,_,_,_,_,_,_,_,_]) rfl ?_
              refine rl_det (met_none rfl) (fun h_ H_ => exd_move (v := .bool (decide (stateB ((s ++ ([61] : List UInt8)) ++ (four m.toNat)) = 3))) rfl) rfl ?_
              refine rl_calld (met_some rfl rfl (decide_eq_true (by rw [hO]; exact other_state (by omega) ‹bodyOk (sealB s)› (by omega) (by omega) ‹_›))) (first := []) (cap := []) rfl rfl fC16 (fun h_ H_ => c16 _ (htab.keep H_.kept)) rfl ?_
              refine rl_det (met_none rfl) (fun h_ H_ => exd_pick_t rfl (decide_eq_true (by rw [hO]; exact other_state (by omega) ‹bodyOk (sealB s)› (by omega) (by omega) ‹_›)) (v := .bool (true)) rfl) (tm' := [_,_,_,_,_,_,_,_,_,_,_,_,_,_,_,_,_,_,_,_,_,_,_,_,_,_,_,_,_,_,_,_,_,_,_,_,_,_,_,_,_,_,_,_,_,_,_,_,_,_,_,_,_,_,_,_,_,_,_,_,_,_,_,_,_,_,_,_,_,_,_,_,_,_,_,_,_,_,_,_,_,_,_,_,_,_,_,_,_,_,_,_,_,_,_,_,_,_,_,_,_,_,_,_,_,_,_,_,_,_,_,_,_,_,_,_,_,_,_,_,_,_,_,_,_,_,_,_,_,_,_,_,_,_,_,_,_,_,_,_]) rfl ?_
              refine rl_det (met_none rfl) (fun h_ H_ => exd_assign (v := .bool (true)) rfl) rfl ?_
              refine rl_end ?_
              refine fl_retL Tryd.func8 rfl (vs := [.bool (true)]) (fun h_ H_ => ⟨.bool (true), _, rfl, rfl, rfl⟩) (v := .bool (true)) rfl ?_
              exact fun h_ H_ => ⟨rfl, H_.kept⟩
        · refine rl_pass (met_not rfl rfl (decide_eq_false cc7)) rfl ?_
          refine rl_pass (met_not rfl rfl (decide_eq_false cc7)) (tm' := _::_::_::_::_::_::_::_::_::_::_::_::_::_::_::_::_::_::_::_::_::_::_::_::_::_::_::_::_::_::_::_::_::_::_::_::_::_::_::_::_::_::_::_::_::_::_::_::_::_::_::_::_::_::_::_::_::_::_::_::_::_::_::_::_::_::_::_::_::_::_::_::_::_::_::_::_::_::_::_::_::_::_::_::_::_::_::_::_::_::_::_::_::_) rfl ?_
          refine rl_det (met_some rfl rfl (decide_eq_false (fun z_ => z_ (by have y_ := (body_yes ‹bodyOk (sealB s)›).2.1; omega)))) (fun h_ H_ => exd_pick_f rfl (decide_eq_false cc7) (v := .bool (false)) rfl) rfl ?_
          refine rl_det (met_none rfl) (fun h_ H_ => exd_pick_f rfl (decide_eq_false (fun z_ => z_ (by have y_ := (body_yes ‹bodyOk (sealB s)›).2.1; omega))) (v := .bool (false)) rfl) rfl ?_
          refine rl_end ?_
          refine fl_else rfl rfl ?_
          refine fl_skip ?_
          refine fl_seq ?_
          refine fl_seq ?_
          refine rl_start ?_
          refine rl_det (met_none rfl) (fun h_ H_ => exd_move (v := .int .i64 (m)) rfl) (tm' := [_,_,_,_,_,_,_,_,_,_,_,_,_,_,_,_,_,_,_,_,_,_,_,_,_,_,_,_,_,_,_,_,_,_,_,_,_,_,_,_,_,_,_,_,_,_,_,_,_,_,_,_,_,_,_,_,_,_,_,_,_,_,_,_,_,_,_,_,_,_,_,_,_,_,_,_,_,_,_,_,_,_,_,_,_,_,_,_,_,_,_,_,_,_,_,_,_,_,_,_,_,_,_,_,_,_,_,_,_,_,_,_,_,_,_,_,_,_,_,_,_,_,_,_,_,_,_,_,_,_,_,_,_,_,_,_,_,_,_,_]) rfl ?_
          refine rl_det (met_none rfl) (fun h_ H_ => exd_move (v := .int .i64 ((sumB s).1)) rfl) rfl ?_
          refine rl_det (met_none rfl) (fun h_ H_ => exd_eql rfl rfl) rfl ?_
          refine rl_end ?_
          by_cases cc30 : m = (sumB s).1
          · refine fl_then rfl (decide_eq_true cc30) ?_
            refine fl_seq ?_
            refine rl_start ?_
            refine rl_calld (met_none rfl) (first := []) (cap := []) rfl rfl fC16 (fun h_ H_ => c16 _ (htab.keep H_.kept)) (tm' := [_,_,_,_,_,_,_,_,_,_,_,_,_,_,_,_,_,_,_,_,_,_,_,_,_,_,_,_,_,_,_,_,_,_,_,_,_,_,_,_,_,_,_,_,_,_,_,_,_,_,_,_,_,_,_,_,_,_,_,_,_,_,_,_,_,_,_,_,_,_,_,_,_,_,_,_,_,_,_,_,_,_,_,_,_,_,_,_,_,_,_,_,_,_,_,_,_,_,_,_,_,_,_,_,_,_,_,_,_,_,_,_,_,_,_,_,_,_,_,_,_,_,_,_,_,_,_,_,_,_,_,_,_,_,_,_,_,_,_,_]) rfl ?_
            refine rl_det (met_none rfl) (fun h_ H_ => exd_assign (v := .bool (true)) rfl) rfl ?_
            refine rl_end ?_
            refine fl_retL Tryd.func8 rfl (vs := [.bool (true)]) (fun h_ H_ => ⟨.bool (true), _, rfl, rfl, rfl⟩) (v := .bool (true)) rfl ?_
            exact fun h_ H_ => ⟨rfl, H_.kept⟩
          · refine fl_else rfl (decide_eq_false cc30) ?_
            refine fl_skip ?_
            refine fl_seq ?_
            refine rl_start ?_
            refine rl_buildO ([] : Pcs) (met_none rfl) Tryd.underlying37 tS5 tZ5 (Nat.le_of_ble_eq_true rfl) (vs := [(0, .int .u8 48), (1, .int .u8 48), (2, .int .u8 48), (3, .int .u8 48)]) rfl rfl (es := [[.int .u8 48], [.int .u8 48], [.int .u8 48], [.int .u8 48]]) rfl rfl rfl fun v31 X32 o33 => ?_
            refine rl_det (met_none rfl) (fun h_ H_ => exd_assign (v := v31) rfl) (tm' := _::_::_::_::_::_::_::_::_::_::_::_::_::_::_) rfl ?_
            refine rl_end ?_
            refine fl_seq ?_
            refine fl_seq ?_
            refine rl_start ?_
            refine rl_det (met_none rfl) (fun h_ H_ => exd_assign (v := .int .i64 3) rfl) rfl ?_
            refine rl_end ?_
            refine fl_block ?_
            refine fl_loop (m₀ := 4 - 0) (fun m_ tm_ h_ => ∃ (j : Nat) (z : Int) (q : Int) (X1 : Pcs), m_ = 4 - j ∧ (∃ y34 : Nat → Value, tm_ = [sv s, .int .i64 (q), undef, undef, .bool (false), .int .i64 ((sumB s).1), .int .i64 ((sumB s).2), sv (sealB s), w3, .int .i64 (parseB (sealB s)), sv (bodyB (sealB s)), .bool (decide (bodyOk (sealB s))), .int .i64 (stateB (sealB s)), v31, .int .i64 (z), undef, undef, undef, sv s, .int .i64 (((s.length : Nat) : Int)), .bool (decide (1000 < ((s.length : Nat) : Int))), .bool (decide (1000 < ((s.length : Nat) : Int))), .int .i64 (m), .bool (decide (0 ≤ m ∧ m ≤ 9999)), .bool (!(decide (0 ≤ m ∧ m ≤ 9999))), .bool (!(decide (0 ≤ m ∧ m ≤ 9999))), undef, .tuple #[.int .i64 ((sumB s).1), .int .i64 ((sumB s).2)], sv s, .tuple #[.int .i64 ((sumB s).1), .int .i64 ((sumB s).2)], .int .i64 ((sumB s).1), .int .i64 ((sumB s).2), sv s, sv (sealB s), .tuple #[w3, .int .i64 (parseB (sealB s))], sv (sealB s), .tuple #[w3, .int .i64 (parseB (sealB s))], w3, .int .i64 (parseB (sealB s)), .int .i64 ((sumB s).2), .bool (decide ((sumB s).2 ≠ 0)), .bool (decide ((sumB s).2 ≠ 0)), .int .i64 ((sumB s).1), .bool (decide (0 ≤ ((sumB s).1) ∧ ((sumB s).1) ≤ 9972)), .bool (!(decide (0 ≤ ((sumB s).1) ∧ ((sumB s).1) ≤ 9972))), .bool (!(decide (0 ≤ ((sumB s).1) ∧ ((sumB s).1) ≤ 9972))), .bool (!(decide (0 ≤ ((sumB s).1) ∧ ((sumB s).1) ≤ 9972))), .int .i64 ((sumB s).1), sv s, .int .i64 (((total s % 9973 : Nat) : Int)), .bool (decide ((sumB s).1 ≠ ((total s % 9973 : Nat) : Int))), .bool (decide ((sumB s).1 ≠ ((total s % 9973 : Nat) : Int))), .tuple #[sv (bodyB (sealB s)), .bool (decide (bodyOk (sealB s)))], sv (sealB s), .tuple #[sv (bodyB (sealB s)), .bool (decide (bodyOk (sealB s)))], sv (bodyB (sealB s)), .bool (decide (bodyOk (sealB s))), .bool (decide (bodyOk (sealB s))), .bool (!(decide (bodyOk (sealB s)))), undef, undef, undef, undef, undef, undef, undef, undef, undef, undef, undef, undef, undef, undef, undef, sv (sealB s), .int .i64 (stateB (sealB s)), .int .i64 (parseB (sealB s)), .bool (decide (parseB (sealB s) ≠ 0)), .bool (decide (parseB (sealB s) ≠ 0)), w3, .int .i64 (((((formB (sealB s)).getD []).length : Nat) : Int)), sv s, .int .i64 (((s.length : Nat) : Int)), .int .i64 (((s.length + 2 : Nat) : Int)), .int .i64 (((s.length + 2 : Nat) : Int) / 3), .bool (decide (((((formB (sealB s)).getD []).length : Nat) : Int) ≠ ((s.length + 2 : Nat) : Int) / 3)), .bool (decide (((((formB (sealB s)).getD []).length : Nat) : Int) ≠ ((s.length + 2 : Nat) : Int) / 3)), .bool (decide (((((formB (sealB s)).getD []).length : Nat) : Int) ≠ ((s.length + 2 : Nat) : Int) / 3)), .int .i64 (stateB (sealB s)), .bool (decide (stateB (sealB s) ≠ 1)), .bool (decide (stateB (sealB s) ≠ 1)), undef, undef, .bool (false), .bool (false), .int .i64 (m), .int .i64 ((sumB s).1), .bool (decide (m = (sumB s).1)), undef, v31, (y34 100), (y34 101), (y34 102), (y34 103), (y34 104), (y34 105), (y34 106), (y34 107), (y34 108), (y34 109), (y34 110), (y34 111), (y34 112), (y34 113), (y34 114), undef, undef, undef, undef, undef, undef, undef, undef, undef, undef, undef, undef, undef, undef, undef, undef, undef, undef, undef, undef, undef, undef, undef, undef, undef]) ∧ (j ≤ 4 ∧ z = 3 - ((j : Nat) : Int) ∧ q = ((m.toNat / 10 ^ j : Nat) : Int) ∧ 0 ≤ q ∧ q ≤ 9999) ∧ (OwnS 5 1 v31 (bcs (dlOf m.toNat j)) X1) ∧ St h [] (fun _ => none) h_ (([] : Pcs) ++ (X1 ++ (X4 ++ [])))) (fun h_ H_ => ⟨0, 3, m, X32, rfl, (y_of rfl), ⟨by omega, by omega, by rw [Nat.pow_zero, Nat.div_one]; omega, by omega⟩, o33, H_⟩) ?_
            intro m_ tm_ IH35
            refine rs_ex fun j => rs_ex fun z => rs_ex fun q => rs_ex fun X1 => rs_and fun hm_ => rs_and fun ht_ => rs_and fun hi => rs_and fun o1 => ?_
            subst hm_; obtain ⟨y34, ht_⟩ := ht_; subst ht_
            obtain ⟨hj, hz, hq, hq0⟩ := hi
            refine fl_seq ?_
            refine fl_seq ?_
            refine rl_start ?_
            refine rl_det (met_none rfl) (fun h_ H_ => exd_move (v := .int .i64 (z)) rfl) rfl ?_
            refine rl_det (met_none rfl) (fun h_ H_ => exd_geq rfl rfl) (tm' := [_,_,_,_,_,_,_,_,_,_,_,_,_,_,_,_,_,_,_,_,_,_,_,_,_,_,_,_,_,_,_,_,_,_,_,_,_,_,_,_,_,_,_,_,_,_,_,_,_,_,_,_,_,_,_,_,_,_,_,_,_,_,_,_,_,_,_,_,_,_,_,_,_,_,_,_,_,_,_,_,_,_,_,_,_,_,_,_,_,_,_,_,_,_,_,_,_,_,_,_,_,_,_,_,_,_,_,_,_,_,_,_,_,_,_,_,_,_,_,_,_,_,_,_,_,_,_,_,_,_,_,_,_,_,_,_,_,_,_,_]) rfl ?_
            refine rl_end ?_
            by_cases cc36 : 0 ≤ z
            · refine fl_then rfl (decide_eq_true cc36) ?_
              refine fl_skip ?_
              refine fl_seq ?_
              refine fl_block ?_
              refine fl_seq ?_
              refine rl_start ?_
              refine rl_det (met_none rfl) (fun h_ H_ => exd_move (v := v31) rfl) rfl ?_
              refine rl_det (met_none rfl) (fun h_ H_ => exd_move (v := .int .i64 (z)) rfl) rfl ?_
              refine rl_det (met_none rfl) (fun h_ H_ => exd_indexOI o1 Tryd.underlying37 tS5 rfl rfl (by omega) (by rw [(dl_len _ (by omega))]; omega)) (tm' := [_,_,_,_,_,_,_,_,_,_,_,_,_,_,_,_,_,_,_,_,_,_,_,_,_,_,_,_,_,_,_,_,_,_,_,_,_,_,_,_,_,_,_,_,_,_,_,_,_,_,_,_,_,_,_,_,_,_,_,_,_,_,_,_,_,_,_,_,_,_,_,_,_,_,_,_,_,_,_,_,_,_,_,_,_,_,_,_,_,_,_,_,_,_,_,_,_,_,_,_,_,_,_,_,_,_,_,_,_,_,_,_,_,_,_,_,_,_,_,_,_,_,_,_,_,_,_,_,_,_,_,_,_,_,_,_,_,_,_,_]) rfl ?_
              refine rl_det (met_none rfl) (fun h_ H_ => exd_loadO (A := ([] : Pcs)) (i := (z).toNat) (j := 0) (e := [.int .u8 48]) o1 H_ tA5 rfl rfl (dl_at (by omega) hz) (u := .int .u8 48) rfl) rfl ?_
              refine rl_det (met_none rfl) (fun h_ H_ => exd_move (v := .int .i64 (q)) rfl) rfl ?_
              refine rl_det (met_none rfl) (fun h_ H_ => exd_rem rfl rfl (by decide) (n := q % 10) (Int.tmod_eq_emod_of_nonneg (by omega))) (tm' := [_,_,_,_,_,_,_,_,_,_,_,_,_,_,_,_,_,_,_,_,_,_,_,_,_,_,_,_,_,_,_,_,_,_,_,_,_,_,_,_,_,_,_,_,_,_,_,_,_,_,_,_,_,_,_,_,_,_,_,_,_,_,_,_,_,_,_,_,_,_,_,_,_,_,_,_,_,_,_,_,_,_,_,_,_,_,_,_,_,_,_,_,_,_,_,_,_,_,_,_,_,_,_,_,_,_,_,_,_,_,_,_,_,_,_,_,_,_,_,_,_,_,_,_,_,_,_,_,_,_,_,_,_,_,_,_,_,_,_,_]) rfl ?_
              refine rl_det (met_none rfl) (fun h_ H_ => exd_conv ⟨_, Tryd.underlying3⟩ Tryd.underlying5 rfl (n := q % 10) (wr8 (by omega))) rfl ?_
              refine rl_det (met_none rfl) (fun h_ H_ => exd_add rfl rfl (wr8 (by omega))) rfl ?_
              refine rl_det (met_none rfl) (fun h_ H_ => exd_indexOI o1 Tryd.underlying37 tS5 rfl rfl (by omega) (by rw [(dl_len _ (by omega))]; omega)) (tm' := [_,_,_,_,_,_,_,_,_,_,_,_,_,_,_,_,_,_,_,_,_,_,_,_,_,_,_,_,_,_,_,_,_,_,_,_,_,_,_,_,_,_,_,_,_,_,_,_,_,_,_,_,_,_,_,_,_,_,_,_,_,_,_,_,_,_,_,_,_,_,_,_,_,_,_,_,_,_,_,_,_,_,_,_,_,_,_,_,_,_,_,_,_,_,_,_,_,_,_,_,_,_,_,_,_,_,_,_,_,_,_,_,_,_,_,_,_,_,_,_,_,_,_,_,_,_,_,_,_,_,_,_,_,_,_,_,_,_,_,_]) rfl ?_
              refine rl_storeO (A := ([] : Pcs)) (i := (z).toNat) (j := 0) (e := [.int .u8 48]) (u := .int .u8 (48 + (q % 10))) o1 (met_none rfl) tS5 rfl rfl rfl ⟨rfl, rfl⟩ (dl_at (by omega) hz) (Nat.succ_le_iff.1 (Nat.le_of_ble_eq_true rfl)) fun X37 o38 => ?_
              refine rl_end ?_
              refine rl_start ?_
              refine rl_det (met_none rfl) (fun h_ H_ => exd_move (v := .int .i64 (q)) rfl) rfl ?_
              refine rl_det (met_none rfl) (fun h_ H_ => exd_quo rfl rfl (by decide) (n := q / 10) ((congrArg _ (Int.tdiv_eq_ediv_of_nonneg (by omega))).trans (wr (by omega)))) rfl ?_
              refine rl_det (met_none rfl) (fun h_ H_ => exd_assign (v := .int .i64 (q / 10)) rfl) (tm' := _::_::_) rfl ?_
              refine rl_end ?_
              refine fl_inBlock ?_
              refine rl_start ?_
              refine rl_det (met_none rfl) (fun h_ H_ => exd_move (v := .int .i64 (z)) rfl) rfl ?_
              refine rl_det (met_none rfl) (fun h_ H_ => exd_sub rfl rfl (wr (by omega))) rfl ?_
              refine rl_det (met_none rfl) (fun h_ H_ => exd_assign (v := .int .i64 (z - 1)) rfl) (tm' := _::_::_::_::_::_::_::_::_::_::_::_::_::_::_::_) rfl ?_
              refine rl_end ?_
              exact fun h_ H_ => IH35 _ _ (by omega) h_ ⟨j + 1, z - 1, q / 10, X37, rfl, (y_of rfl), ⟨by omega, by omega, dl_div hq, by omega⟩, (o38.as (dl_set (by omega) hz hq)), H_⟩
            · refine fl_else rfl (decide_eq_false cc36) ?_
              refine fl_exit rfl ?_
              refine fl_seq ?_
              have hj4 : j = 4 := by omega
              have hO : (s ++ ([61] : List UInt8)) ++ four m.toNat = tailB s m.toNat := by rw [tailB, List.append_assoc]; rfl
              have hOl : ((s ++ ([61] : List UInt8)) ++ four m.toNat).length = s.length + 5 := by rw [hO, tail_len]
              refine rl_start ?_
              refine rl_det (met_none rfl) (fun h_ H_ => exd_move (v := sv s) rfl) rfl ?_
              refine rl_det (met_none rfl) (fun h_ H_ => exd_catS (l := s) (m := ([61] : List UInt8)) rfl rfl (by first | (simp only [List.length_singleton]; omega) | (rw [List.length_append, List.length_singleton, four_len]; omega))) rfl ?_
              refine rl_det (met_none rfl) (fun h_ H_ => exd_move (v := v31) rfl) (tm' := [_,_,_,_,_,_,_,_,_,_,_,_,_,_,_,_,_,_,_,_,_,_,_,_,_,_,_,_,_,_,_,_,_,_,_,_,_,_,_,_,_,_,_,_,_,_,_,_,_,_,_,_,_,_,_,_,_,_,_,_,_,_,_,_,_,_,_,_,_,_,_,_,_,_,_,_,_,_,_,_,_,_,_,_,_,_,_,_,_,_,_,_,_,_,_,_,_,_,_,_,_,_,_,_,_,_,_,_,_,_,_,_,_,_,_,_,_,_,_,_,_,_,_,_,_,_,_,_,_,_,_,_,_,_,_,_,_,_,_,_]) rfl ?_
              refine rl_det (met_none rfl) (fun h_ H_ => exd_strOwn (A := ([] : Pcs)) (o1.as (dl_end hj4)) H_ Tryd.underlying37 Tryd.underlying9 Tryd.underlying5 rfl) rfl ?_
              refine rl_det (met_none rfl) (fun h_ H_ => exd_catS (l := s ++ ([61] : List UInt8)) (m := four m.toNat) rfl rfl (by first | (simp only [List.length_singleton]; omega) | (rw [List.length_append, List.length_singleton, four_len]; omega))) rfl ?_
              refine rl_det (met_none rfl) (fun h_ H_ => exd_assign (v := sv ((s ++ ([61] : List UInt8)) ++ (four m.toNat))) rfl) (tm' := _::_::_::_::_::_::_::_::_::_::_::_::_::_::_::_::_) rfl ?_
              refine rl_end ?_
              refine fl_seq ?_
              refine rl_start ?_
              refine rl_det (met_none rfl) (fun h_ H_ => exd_move (v := sv ((s ++ ([61] : List UInt8)) ++ (four m.toNat))) rfl) rfl ?_
              refine rl_call (met_none rfl) (first := []) (cap := []) rfl rfl fC33 (R := fun v_ h_ => ∃ w39 : Value, ∃ X40 : Pcs, v_ = .tuple #[w39, .int .i64 (parseB ((s ++ ([61] : List UInt8)) ++ (four m.toNat)))] ∧ (OwnS 60 2 w39 (pies ((formB ((s ++ ([61] : List UInt8)) ++ (four m.toNat))).getD [])) X40) ∧ St h [] (fun _ => none) h_ (([] : Pcs) ++ (X40 ++ (X1 ++ (X4 ++ []))))) (fun h_ H_ => (c33 _ ((s ++ ([61] : List UInt8)) ++ (four m.toNat)) (by first | omega | (rw [seal_len]; omega) | (rw [hOl]; omega))).mono fun v_ h2_ ⟨w39, X40, e_, o41, N_⟩ => ⟨w39, X40, e_, o41, H_.callNA N_⟩) fun v_ => ?_
              refine rl_ex fun w39 => rl_ex fun X40 => rl_and fun ev_ => rl_and fun o41 => ?_
              have ev_ := ev_.symm; subst ev_
              refine rl_own (L' := ([] : Pcs) ++ (X40 ++ (X1 ++ (X4 ++ [])))) rfl ?_
              refine rl_det (met_none rfl) (fun h_ H_ => exd_move (v := .tuple #[w39, .int .i64 (parseB ((s ++ ([61] : List UInt8)) ++ (four m.toNat)))]) rfl) (tm' := [_,_,_,_,_,_,_,_,_,_,_,_,_,_,_,_,_,_,_,_,_,_,_,_,_,_,_,_,_,_,_,_,_,_,_,_,_,_,_,_,_,_,_,_,_,_,_,_,_,_,_,_,_,_,_,_,_,_,_,_,_,_,_,_,_,_,_,_,_,_,_,_,_,_,_,_,_,_,_,_,_,_,_,_,_,_,_,_,_,_,_,_,_,_,_,_,_,_,_,_,_,_,_,_,_,_,_,_,_,_,_,_,_,_,_,_,_,_,_,_,_,_,_,_,_,_,_,_,_,_,_,_,_,_,_,_,_,_,_,_]) rfl ?_
              refine rl_det (met_none rfl) (fun h_ H_ => exd_extract rfl (v := w39) rfl) rfl ?_
              refine rl_det (met_none rfl) (fun h_ H_ => exd_extract rfl (v := .int .i64 (parseB ((s ++ ([61] : List UInt8)) ++ (four m.toNat)))) rfl) rfl ?_
              refine rl_det (met_none rfl) (fun h_ H_ => exd_assign (v := w39) rfl) (tm' := _::_::_::_::_::_::_::_::_::_::_::_::_::_::_::_::_::_) rfl ?_
              refine rl_det (met_none rfl) (fun h_ H_ => exd_assign (v := .int .i64 (parseB ((s ++ ([61] : List UInt8)) ++ (four m.toNat)))) rfl) rfl ?_
              refine rl_end ?_
              refine fl_seq ?_
              refine rl_start ?_
              refine rl_det (met_none rfl) (fun h_ H_ => exd_move (v := .int .i64 (parseB ((s ++ ([61] : List UInt8)) ++ (four m.toNat)))) rfl) rfl ?_
              refine rl_det (met_none rfl) (fun h_ H_ => exd_eql rfl rfl) (tm' := [_,_,_,_,_,_,_,_,_,_,_,_,_,_,_,_,_,_,_,_,_,_,_,_,_,_,_,_,_,_,_,_,_,_,_,_,_,_,_,_,_,_,_,_,_,_,_,_,_,_,_,_,_,_,_,_,_,_,_,_,_,_,_,_,_,_,_,_,_,_,_,_,_,_,_,_,_,_,_,_,_,_,_,_,_,_,_,_,_,_,_,_,_,_,_,_,_,_,_,_,_,_,_,_,_,_,_,_,_,_,_,_,_,_,_,_,_,_,_,_,_,_,_,_,_,_,_,_,_,_,_,_,_,_,_,_,_,_,_,_]) rfl ?_
              refine rl_det (met_none rfl) (fun h_ H_ => exd_move (v := .bool (decide (parseB ((s ++ ([61] : List UInt8)) ++ (four m.toNat)) = 0))) rfl) rfl ?_
              refine rl_det (met_some rfl rfl (decide_eq_true (by rw [hO]; exact other_parse (by omega) ‹bodyOk (sealB s)›))) (fun h_ H_ => exd_move (v := w3) rfl) rfl ?_
              refine rl_det (met_some rfl rfl (decide_eq_true (by rw [hO]; exact other_parse (by omega) ‹bodyOk (sealB s)›))) (fun h_ H_ => exd_move (v := w39) rfl) (tm' := [_,_,_,_,_,_,_,_,_,_,_,_,_,_,_,_,_,_,_,_,_,_,_,_,_,_,_,_,_,_,_,_,_,_,_,_,_,_,_,_,_,_,_,_,_,_,_,_,_,_,_,_,_,_,_,_,_,_,_,_,_,_,_,_,_,_,_,_,_,_,_,_,_,_,_,_,_,_,_,_,_,_,_,_,_,_,_,_,_,_,_,_,_,_,_,_,_,_,_,_,_,_,_,_,_,_,_,_,_,_,_,_,_,_,_,_,_,_,_,_,_,_,_,_,_,_,_,_,_,_,_,_,_,_,_,_,_,_,_,_]) rfl ?_
              refine rl_perm (List.Perm.append_left _ (List.Perm.append_left _ (List.perm_append_comm_assoc _ _ _))) ?_
              refine rl_perm (List.Perm.append_left _ (List.perm_append_comm_assoc _ _ _)) ?_
              refine rl_own (L' := ([] : Pcs) ++ (X4 ++ (X40 ++ (X1 ++ [])))) rfl ?_
              refine rl_lastN (A := ([] : Pcs)) o5 (pies_length _) fun p42 a43 cp44 le45 ev_ D46 => ?_
              subst ev_
              refine rl_lastN (A := ([] : Pcs)) o41 (pies_length _) fun p47 a48 cp49 le50 ev_ D51 => ?_
              subst ev_
              refine rl_calld (met_some rfl rfl (decide_eq_true (by rw [hO]; exact other_parse (by omega) ‹bodyOk (sealB s)›))) (first := []) (cap := []) rfl rfl fC37 (fun h_ H_ => c37 _ _ (fun b_ o_ e_ => H_.per b_ o_ e_) a43 a48 (((formB (sealB s)).getD []).length) (((formB ((s ++ ([61] : List UInt8)) ++ (four m.toNat))).getD []).length) _ _ ((formB (sealB s)).getD []) ((formB ((s ++ ([61] : List UInt8)) ++ (four m.toNat))).getD []) ((show Pies _ _ _ ((formB (sealB s)).getD []) from D46).mono le50) (show Pies _ _ _ ((formB ((s ++ ([61] : List UInt8)) ++ (four m.toNat))).getD []) from D51) (by have := (form_ok (sealB s)).1; omega)) rfl ?_
              refine rl_det (met_none rfl) (fun h_ H_ => exd_pick_t rfl (decide_eq_true (by rw [hO]; exact other_parse (by omega) ‹bodyOk (sealB s)›)) (v := .bool (decide (((formB (sealB s)).getD []) = ((formB ((s ++ ([61] : List UInt8)) ++ (four m.toNat))).getD [])))) rfl) rfl ?_
              refine rl_det (met_none rfl) (fun h_ H_ => exd_move (v := .bool (decide (((formB (sealB s)).getD []) = ((formB ((s ++ ([61] : List UInt8)) ++ (four m.toNat))).getD [])))) rfl) (tm' := [_,_,_,_,_,_,_,_,_,_,_,_,_,_,_,_,_,_,_,_,_,_,_,_,_,_,_,_,_,_,_,_,_,_,_,_,_,_,_,_,_,_,_,_,_,_,_,_,_,_,_,_,_,_,_,_,_,_,_,_,_,_,_,_,_,_,_,_,_,_,_,_,_,_,_,_,_,_,_,_,_,_,_,_,_,_,_,_,_,_,_,_,_,_,_,_,_,_,_,_,_,_,_,_,_,_,_,_,_,_,_,_,_,_,_,_,_,_,_,_,_,_,_,_,_,_,_,_,_,_,_,_,_,_,_,_,_,_,_,_]) rfl ?_
              refine rl_det (met_some rfl rfl (decide_eq_true (by rw [hO, tail_same (by omega)]))) (fun h_ H_ => exd_move (v := sv ((s ++ ([61] : List UInt8)) ++ (four m.toNat))) rfl) rfl ?_
              refine rl_calld (met_some rfl rfl (decide_eq_true (by rw [hO, tail_same (by omega)]))) (first := []) (cap := []) rfl rfl fC20 (fun h_ H_ => c20 _ (htab.keep H_.kept) ((s ++ ([61] : List UInt8)) ++ (four m.toNat)) (by first | omega | (rw [seal_len]; omega) | (rw [hOl]; omega))) rfl ?_
              refine rl_det (met_some rfl rfl (decide_eq_true (by rw [hO, tail_same (by omega)]))) (fun h_ H_ => exd_eql rfl rfl) (tm' := [_,_,_,_,_,_,_,_,_,_,_,_,_,_,_,_,_,_,_,_,_,_,_,_,_,_,_,_,_,_,_,_,_,_,_,_,_,_,_,_,_,_,_,_,_,_,_,_,_,_,_,_,_,_,_,_,_,_,_,_,_,_,_,_,_,_,_,_,_,_,_,_,_,_,_,_,_,_,_,_,_,_,_,_,_,_,_,_,_,_,_,_,_,_,_,_,_,_,_,_,_,_,_,_,_,_,_,_,_,_,_,_,_,_,_,_,_,_,_,_,_,_,_,_,_,_,_,_,_,_,_,_,_,_,_,_,_,_,_,_]) rfl ?_
              refine rl_det (met_none rfl) (fun h_ H_ => exd_pick_t rfl (decide_eq_true (by rw [hO, tail_same (by omega)])) (v := .bool (decide (stateB ((s ++ ([61] : List UInt8)) ++ (four m.toNat)) = 3))) rfl) rfl ?_
              refine rl_det (met_none rfl) (fun h_ H_ => exd_move (v := .bool (decide (stateB ((s ++ ([61] : List UInt8)) ++ (four m.toNat)) = 3))) rfl) rfl ?_
              refine rl_calld (met_some rfl rfl (decide_eq_true (by rw [hO]; exact other_state (by omega) ‹bodyOk (sealB s)› (by omega) (by omega) ‹_›))) (first := []) (cap := []) rfl rfl fC16 (fun h_ H_ => c16 _ (htab.keep H_.kept)) (tm' := [_,_,_,_,_,_,_,_,_,_,_,_,_,_,_,_,_,_,_,_,_,_,_,_,_,_,_,_,_,_,_,_,_,_,_,_,_,_,_,_,_,_,_,_,_,_,_,_,_,_,_,_,_,_,_,_,_,_,_,_,_,_,_,_,_,_,_,_,_,_,_,_,_,_,_,_,_,_,_,_,_,_,_,_,_,_,_,_,_,_,_,_,_,_,_,_,_,_,_,_,_,_,_,_,_,_,_,_,_,_,_,_,_,_,_,_,_,_,_,_,_,_,_,_,_,_,_,_,_,_,_,_,_,_,_,_,_,_,_,_]) rfl ?_
              refine rl_det (met_none rfl) (fun h_ H_ => exd_pick_t rfl (decide_eq_true (by rw [hO]; exact other_state (by omega) ‹bodyOk (sealB s)› (by omega) (by omega) ‹_›)) (v := .bool (true)) rfl) rfl ?_
              refine rl_det (met_none rfl) (fun h_ H_ => exd_assign (v := .bool (true)) rfl) rfl ?_
              refine rl_end ?_
              refine fl_retL Tryd.func8 rfl (vs := [.bool (true)]) (fun h_ H_ => ⟨.bool (true), _, rfl, rfl, rfl⟩) (v := .bool (true)) rfl ?_
              exact fun h_ H_ => ⟨rfl, H_.kept⟩
      · refine fl_then rfl (not_t (decide_eq_false cc6)) ?_
        refine fl_seq ?_
        refine rl_start ?_
        refine rl_det (met_none rfl) (fun h_ H_ => exd_move (v := .int .i64 (parseB (sealB s))) rfl) (tm' := _::_::_::_::_::_::_::_::_::_::_::_::_::_::_::_::_::_::_::_::_::_::_::_::_::_::_::_::_::_::_::_::_::_::_::_::_::_::_::_::_::_::_::_::_::_::_::_::_::_::_::_::_::_::_::_::_::_::_::_::_) rfl ?_
        refine rl_det (met_none rfl) (fun h_ H_ => exd_eql rfl rfl) rfl ?_
        refine rl_det (met_none rfl) (fun h_ H_ => exd_move (v := .bool (decide (parseB (sealB s) = 140))) rfl) rfl ?_
        refine rl_det (met_some rfl rfl (decide_eq_true (body_no ‹¬ bodyOk (sealB s)›).1)) (fun h_ H_ => exd_move (v := w3) rfl) (tm' := _::_::_::_::_::_::_::_::_::_::_::_::_::_::_::_::_::_::_::_::_::_::_::_::_::_::_::_::_::_::_::_::_::_::_::_::_::_::_::_::_::_::_::_::_::_::_::_::_::_::_::_::_::_::_::_::_::_::_::_::_::_::_::_) rfl ?_
        refine rl_det (met_some rfl rfl (decide_eq_true (body_no ‹¬ bodyOk (sealB s)›).1)) (fun h_ H_ => exd_lenN o5 (pies_length _) Tryd.underlying49 rfl) rfl ?_
        refine rl_det (met_some rfl rfl (decide_eq_true (body_no ‹¬ bodyOk (sealB s)›).1)) (fun h_ H_ => exd_eql rfl rfl) rfl ?_
        refine rl_det (met_none rfl) (fun h_ H_ => exd_pick_t rfl (decide_eq_true (body_no ‹¬ bodyOk (sealB s)›).1) (v := .bool (decide (((((formB (sealB s)).getD []).length : Nat) : Int) = 0))) rfl) (tm' := _::_::_::_::_::_::_::_::_::_::_::_::_::_::_::_::_::_::_::_::_::_::_::_::_::_::_::_::_::_::_::_::_::_::_::_::_::_::_::_::_::_::_::_::_::_::_::_::_::_::_::_::_::_::_::_::_::_::_::_::_::_::_::_::_::_::_) rfl ?_
        refine rl_det (met_none rfl) (fun h_ H_ => exd_move (v := .bool (decide (((((formB (sealB s)).getD []).length : Nat) : Int) = 0))) rfl) rfl ?_
        refine rl_det (met_some rfl rfl (decide_eq_true (body_no ‹¬ bodyOk (sealB s)›).2.1)) (fun h_ H_ => exd_move (v := sv (sealB s)) rfl) rfl ?_
        refine rl_calld (met_some rfl rfl (decide_eq_true (body_no ‹¬ bodyOk (sealB s)›).2.1)) (first := []) (cap := []) rfl rfl fC20 (fun h_ H_ => c20 _ (htab.keep H_.kept) (sealB s) (by first | omega | (rw [seal_len]; omega) | (rw [hOl]; omega))) (tm' := _::_::_::_::_::_::_::_::_::_::_::_::_::_::_::_::_::_::_::_::_::_::_::_::_::_::_::_::_::_::_::_::_::_::_::_::_::_::_::_::_::_::_::_::_::_::_::_::_::_::_::_::_::_::_::_::_::_::_::_::_::_::_::_::_::_::_::_::_::_) rfl ?_
        refine rl_det (met_some rfl rfl (decide_eq_true (body_no ‹¬ bodyOk (sealB s)›).2.1)) (fun h_ H_ => exd_eql rfl rfl) rfl ?_
        refine rl_det (met_none rfl) (fun h_ H_ => exd_pick_t rfl (decide_eq_true (body_no ‹¬ bodyOk (sealB s)›).2.1) (v := .bool (decide (stateB (sealB s) = 2))) rfl) rfl ?_
        refine rl_det (met_none rfl) (fun h_ H_ => exd_move (v := .bool (decide (stateB (sealB s) = 2))) rfl) (tm' := _::_::_::_::_::_::_::_::_::_::_::_::_::_::_::_::_::_::_::_::_::_::_::_::_::_::_::_::_::_::_::_::_::_::_::_::_::_::_::_::_::_::_::_::_::_::_::_::_::_::_::_::_::_::_::_::_::_::_::_::_::_::_::_::_::_::_::_::_::_::_::_::_) rfl ?_
        refine rl_calld (met_some rfl rfl (decide_eq_true (body_no ‹¬ bodyOk (sealB s)›).2.2)) (first := []) (cap := []) rfl rfl fC16 (fun h_ H_ => c16 _ (htab.keep H_.kept)) rfl ?_
        refine rl_det (met_none rfl) (fun h_ H_ => exd_pick_t rfl (decide_eq_true (body_no ‹¬ bodyOk (sealB s)›).2.2) (v := .bool (true)) rfl) rfl ?_
        refine rl_det (met_none rfl) (fun h_ H_ => exd_assign (v := .bool (true)) rfl) (tm' := _::_::_::_::_::_) rfl ?_
        refine rl_end ?_
        refine fl_retL Tryd.func8 rfl (vs := [.bool (true)]) (fun h_ H_ => ⟨.bool (true), _, rfl, rfl, rfl⟩) (v := .bool (true)) rfl ?_
        exact fun h_ H_ => ⟨rfl, H_.kept⟩
    · refine fl_then rfl (not_t (decide_eq_false cc2)) ?_
      refine fl_seq ?_
      refine rl_start ?_
      refine rl_calld (met_none rfl) (first := []) (cap := []) rfl rfl fC16 (fun h_ H_ => c16 _ (htab.keep H_.kept)) rfl ?_
      refine rl_det (met_none rfl) (fun h_ H_ => exd_assign (v := .bool (true)) rfl) rfl ?_
      refine rl_end ?_
      refine fl_retL Tryd.func8 rfl (vs := [.bool (true)]) (fun h_ H_ => ⟨.bool (true), _, rfl, rfl, rfl⟩) (v := .bool (true)) rfl ?_
      exact fun h_ H_ => ⟨rfl, H_.kept⟩
end Go.Proofs.YtiinpnlfdeiloaaDoor
namespace Go.Proofs.YtiinpnlfdeiloaaDoor
open Go.X Go.X.Cent Go.Conc Go.RowKit Go.ChangeShapes Go.WideShapes Go.ChangeAt Go.Joins
set_option maxRecDepth 100000

theorem lifted8 (os : Os) (started : os.Started) (H : Type) (enc : TypeId × Value → H) :
    ReturnsInHanded {} Tryd.checked os 8 .any (fun w args => (Rows.centuryFormSpec.pre enc Tryd.prog Tryd.f8 Rows.centuryFormRow.domain false w args ∧ laidMetH Tryd.prog Rows.centuryFormRow.laid w) ∧ sizedMet enc Tryd.prog Tryd.f8 (OpenSpec.ofChange Rows.centuryFormSpec) false w args) (Rows.centuryFormSpec.post enc Tryd.prog Tryd.f8 false true false false) := by
  refine returnsInHanded_of_change_and (C := Tryd.checked) (X := fun w _ => laidMetH Tryd.prog Rows.centuryFormRow.laid w) (fun _ _ _ hh h => h.of_heap hh) pOwn started (by kernel_rfl) Tryd.func8
    (ChangeSpec.witness_shaped (enc := enc) (C := Tryd.checked) (os := os) (X := fun w _ => laidMetH Tryd.prog Rows.centuryFormRow.laid w) false (laidW os) #[.string ⟨#[]⟩, .int .i64 0] 8 (World.laidAll_os _ _ _)
      (World.shaped_of_ZipB (by kernel_rfl) (by kernel_rfl)) (by kernel_rfl) (by kernel_rfl) (by kernel_rfl) (laidW_met os _)) ?_
  intro W base args ds gs before hval0 hW _ _ hL _
  have hval : ∀ (j : Nat) t v, Tryd.f8.params[j]? = some t → args[j]? = some v → Value.okWide Tryd.prog W .any base t v := hval0
  have hW2 := hW
  obtain ⟨p, q, hA0, hV, rfl, _, _⟩ := hW2
  have hA : DataW.TrodAll enc Tryd.prog W 0 (fun _ => true) true Tryd.f8.params.toList args.toList ds p := hA0
  rw [Tryd.params8] at hA hval
  obtain ⟨v0, v1, d0, d1, p0, p1, rfl, rfl, _, h0, h1⟩ := trodAll_two hA
  obtain ⟨rfl, rfl⟩ := trodVars_none hV
  obtain ⟨s0, rfl⟩ := open_str (hval 0 9 v0 rfl rfl) h0
  obtain ⟨k, rfl, hk⟩ := open_num (hval 1 3 v1 rfl rfl) h1
  refine (calls_of_enters (e8 W.heap (tab_of_laid hL) s0 k hk)).mono fun e W2 ⟨v, he, ⟨hv, hk_⟩, cl⟩ => ⟨v, he, ?_⟩
  subst hv
  exact law_post pLaid rfl (fun t ht => by rw [Tryd.params8] at ht; revert t; decide +kernel) rfl Tryd.underlying4 hW rfl (below_of hk_ cl)

theorem centuryFormRowHolds : Rows.CenturyFormSaid :=
  OpenClaim.holds_of_wide 8 Tryd.f8 rfl rfl rfl rfl rfl rfl rfl ⟨rfl, rfl, rfl, rfl, rfl⟩ rfl rfl rfl rfl rfl (by kernel_rfl) Tryd.func8 (by kernel_rfl)
    (of_decide_eq_true (by kernel_rfl)) (by unfold Func.isWrapper; first | (rw [if_pos (by decide +kernel)]; kernel_rfl) | (rw [if_neg (by decide +kernel)]; exact ⟨rfl, rfl⟩))
    (fun os started H enc _ => lifted8 os started H enc)

theorem centuryFormHolds : Rows.CenturyFormCardSaid :=
  Claim7.holds_tied_plain_at .later [] [.data, .data, .data, .data, .pinned] true (true, "d19a88c3556340bf03c70abcf51311f6c04bc6278884da2732a7a561c1b64cb8") false centuryFormRowHolds (fun _ h => by cases h) (by kernel_rfl) (fun _ h => by cases h) centuryForm_row_tie rfl ⟨rfl, rfl⟩ (by kernel_rfl) rfl
    (fun f fn hf hfn => by
      obtain rfl : f = 8 := Option.some.inj ((show Tryd.prog.funcNamed "steening/steeninglaw14.CenturyForm" = some 8 by kernel_rfl).symm.trans hf) |>.symm
      obtain rfl : fn = Tryd.f8 := (Option.some.inj (Tryd.func8.symm.trans hfn)).symm
      exact ⟨by kernel_rfl, fun j t ht => by
        rw [Tryd.params8] at ht
        have hm : t ∈ [9, 3] := by simpa using Array.mem_of_getElem? ht
        have hall : ([9, 3].all fun u => !Tryd.prog.wantsStandIn u) = true := by kernel_rfl
        exact (show Tryd.prog.wantsStandIn t = false by simpa using List.all_eq_true.1 hall t hm)⟩)
    (by kernel_rfl)

#print axioms centuryFormHolds
end Go.Proofs.YtiinpnlfdeiloaaDoor
