/-
  CenturyWrites, for every input: the law returns true and leaves its arguments as they were. The row, and the tied card.
-/
import Derived.Test.YtiinpnlfdeiloaaDoorD2
import Derived.Test.YtiinpnlfdeiloaaDoorD4
import Derived.Test.YtiinpnlfdeiloaaDoorCards
import Derived.Test.YtiinpnlfdeiloaaDoorTie
namespace Go.Proofs.YtiinpnlfdeiloaaDoor
open Go.X Go.X.Cent Go.Conc
set_option maxRecDepth 10000
set_option synthInstance.maxSize 2000
set_option synthInstance.maxHeartbeats 400000

set_option maxHeartbeats 2000000
theorem e14 (h : Heap) (p : PHeap) (hp : Per p h) (htab : Tab h) (a : Option Addr) (n c : Nat) (ts : List By) (T : Strs p a n ts) (hn : n ≤ 9223372036854775807) : EntersL Tryd.prog 14 #[.slice a n c] h fun v h' => v = .bool true ∧ Keep h h' := by
  refine enters_introL (Φ := fun h_ => St h [] p h_ []) Tryd.func14 rfl (tm := [_, _, _, _, _, _, _, _, _, _, _, _, _, _, _, _, _, _, _, _, _, _, _, _, _, _, _, _, _, _, _, _, _, _, _, _, _, _, _, _, _, _, _, _, _, _, _, _, _, _, _, _, _, _, _, _, _, _, _, _, _, _, _, _, _, _, _, _, _, _, _, _, _, _, _, _, _, _, _, _, _, _, _, _, _, _, _, _, _, _, _, _, _, _, _, _, _, _, _, _, _, _, _, _, _, _, _]) rfl ?_ (St.start h _ hp)
  intro cs
  have hl := T.len
  refine fl_seq ?_
  refine rl_start ?_
  refine rl_det (met_none rfl) (fun h_ H_ => exd_assign (v := .bool (false)) rfl) rfl ?_
  refine rl_end ?_
  refine fl_seq ?_
  refine fl_seq ?_
  refine rl_start ?_
  refine rl_det (met_none rfl) (fun h_ H_ => exd_move (v := .slice a n c) rfl) rfl ?_
  refine rl_calld (met_none rfl) (first := []) (cap := []) rfl rfl fC23 (fun h_ H_ => c23 .lone _ _ (fun b_ o_ e_ => H_.per b_ o_ e_) a n _ ts T (by omega)) (tm' := _::_::_::_::_::_::_::_::_::_::_::_::_::_::_::_::_::_::_) rfl ?_
  refine rl_end ?_
  by_cases cc1 : far ts
  · refine fl_then rfl (decide_eq_true cc1) ?_
    refine fl_seq ?_
    refine rl_start ?_
    refine rl_calld (met_none rfl) (first := []) (cap := []) rfl rfl fC16 (fun h_ H_ => c16 _ (htab.keep H_.kept)) rfl ?_
    refine rl_det (met_none rfl) (fun h_ H_ => exd_assign (v := .bool (true)) rfl) rfl ?_
    refine rl_end ?_
    refine fl_retL Tryd.func14 rfl (vs := [.bool (true)]) (fun h_ H_ => ⟨.bool (true), _, rfl, rfl, rfl⟩) (v := .bool (true)) rfl ?_
    exact fun h_ H_ => ⟨rfl, H_.kept⟩
  · refine fl_else rfl (decide_eq_false cc1) ?_
    refine fl_skip ?_
    refine fl_seq ?_
    have hnf := far_facts T ‹¬ far ts›
    obtain ⟨hn60, ht200, hta⟩ := hnf
    have ht0 : ∀ i, i < n → (ts.getD i []).length ≤ 2 ^ 60 := not_far T ‹¬ far ts›
    have ht1 : ∀ i, i < ts.length → (ts.getD i []).length ≤ 2 ^ 60 := fun i hi => ht0 i (by omega)
    have hpb : (pcB ts).length ≤ 820 := by rw [pc_same]; exact pcR_len ts
    refine rl_start ?_
    refine rl_own (L' := ([] : Pcs) ++ []) rfl ?_
    refine rl_buildO ([] : Pcs) (met_none rfl) Tryd.underlying22 tS9 tZ9 (Nat.le_of_ble_eq_true rfl) (vs := []) rfl rfl (es := []) rfl rfl rfl fun v2 X3 o4 => ?_
    have o5 : OwnS 9 1 v2 (scs ([] : List By)) X3 := o4
    refine rl_norm (tm' := _::_::_::_::_::_::_::_::_::_::_::_::_::_::_::_::_::_::_::_::_) rfl ?_
    refine rl_det (met_none rfl) (fun h_ H_ => exd_move (v := .slice a n c) rfl) rfl ?_
    refine rl_appendP ([] : Pcs) X3 (met_none rfl) Tryd.underlying22 tS9 tZ9 rfl tB9 Tryd.underlying22 rfl rfl o5 T (scs_ones _) (by show (0 + _) * _ ≤ _; omega) (by decide) (by decide) fun v6 X7 o8 => ?_
    have o9 : OwnS 9 1 v6 (scs ts) X7 := o8.as rfl
    refine rl_det (met_none rfl) (fun h_ H_ => exd_assign (v := v6) rfl) (tm' := _::_::_::_::_) rfl ?_
    refine rl_end ?_
    refine fl_seq ?_
    refine rl_start ?_
    refine rl_det (met_none rfl) (fun h_ H_ => exd_move (v := v6) rfl) rfl ?_
    refine rl_lastN (A := ([] : Pcs)) o9 (scs_length _) fun p10 a11 cp12 le13 ev_ D14 => ?_
    subst ev_
    refine rl_own (L' := []) rfl ?_
    refine rl_calld (met_none rfl) (first := []) (cap := []) rfl rfl fC45 (fun h_ H_ => c45 _ _ (fun b_ o_ e_ => H_.per b_ o_ e_) (htab.keep H_.kept) a11 ts.length _ ts (show Strs _ _ _ ts from D14) (by omega) (by first | exact ht0 | exact ht1)) rfl ?_
    refine rl_det (met_none rfl) (fun h_ H_ => exd_move (v := .tuple #[sv ((writeB ts).1), .int .i64 ((writeB ts).2)]) rfl) (tm' := _::_::_::_::_::_::_::_::_::_::_::_::_::_::_::_::_::_::_::_::_::_::_::_) rfl ?_
    refine rl_det (met_none rfl) (fun h_ H_ => exd_extract rfl (v := sv ((writeB ts).1)) rfl) rfl ?_
    refine rl_det (met_none rfl) (fun h_ H_ => exd_extract rfl (v := .int .i64 ((writeB ts).2)) rfl) rfl ?_
    refine rl_det (met_none rfl) (fun h_ H_ => exd_assign (v := sv ((writeB ts).1)) rfl) (tm' := _::_::_::_::_::_) rfl ?_
    refine rl_det (met_none rfl) (fun h_ H_ => exd_assign (v := .int .i64 ((writeB ts).2)) rfl) rfl ?_
    refine rl_end ?_
    refine fl_seq ?_
    refine rl_start ?_
    refine rl_det (met_none rfl) (fun h_ H_ => exd_move (v := .slice a n c) rfl) rfl ?_
    refine rl_calld (met_none rfl) (first := []) (cap := []) rfl rfl fC46 (fun h_ H_ => c46 .lone _ _ (fun b_ o_ e_ => H_.per b_ o_ e_) a n _ ts (T.mono le13) (by omega) (by first | exact ht0 | exact ht1)) (tm' := _::_::_::_::_::_::_::_::_::_::_::_::_::_::_::_::_::_::_::_::_::_::_::_::_::_::_::_::_::_::_) rfl ?_
    refine rl_det (met_none rfl) (fun h_ H_ => exd_move (v := .tuple #[sv ((writeB ts).1), .int .i64 ((writeB ts).2)]) rfl) rfl ?_
    refine rl_det (met_none rfl) (fun h_ H_ => exd_extract rfl (v := sv ((writeB ts).1)) rfl) rfl ?_
    refine rl_det (met_none rfl) (fun h_ H_ => exd_extract rfl (v := .int .i64 ((writeB ts).2)) rfl) (tm' := _::_::_::_::_::_::_::_::_::_::_::_::_::_::_::_::_::_::_::_::_::_::_::_::_::_::_::_::_::_::_::_::_) rfl ?_
    refine rl_det (met_none rfl) (fun h_ H_ => exd_assign (v := sv ((writeB ts).1)) rfl) rfl ?_
    refine rl_det (met_none rfl) (fun h_ H_ => exd_assign (v := .int .i64 ((writeB ts).2)) rfl) rfl ?_
    refine rl_end ?_
    refine fl_seq ?_
    refine rl_start ?_
    refine rl_det (met_none rfl) (fun h_ H_ => exd_move (v := .slice a11 ts.length cp12) rfl) (tm' := _::_::_::_::_::_::_::_::_::_::_::_::_::_::_::_::_::_::_::_::_::_::_::_::_::_::_::_::_::_::_::_::_::_::_) rfl ?_
    refine rl_own (L' := ([] : Pcs) ++ []) rfl ?_
    refine rl_call (met_none rfl) (first := []) (cap := []) rfl rfl fC47 (R := fun v_ h_ => ∃ w15 : Value, ∃ X16 : Pcs, v_ = .tuple #[w15, .int .i64 (chkT ts)] ∧ (OwnS 9 1 w15 (scs (pcB ts)) X16) ∧ St h [] p10 h_ (([] : Pcs) ++ (X16 ++ []))) (fun h_ H_ => (c47 _ _ (fun b_ o_ e_ => H_.per b_ o_ e_) a11 ts.length _ ts (show Strs _ _ _ ts from D14) (by omega) (by first | exact ht0 | exact ht1)).mono fun v_ h2_ ⟨w15, X16, e_, o17, N_⟩ => ⟨w15, X16, e_, o17, H_.callNA N_⟩) fun v_ => ?_
    refine rl_ex fun w15 => rl_ex fun X16 => rl_and fun ev_ => rl_and fun o17 => ?_
    have ev_ := ev_.symm; subst ev_
    refine rl_own (L' := ([] : Pcs) ++ (X16 ++ [])) rfl ?_
    refine rl_det (met_none rfl) (fun h_ H_ => exd_move (v := .tuple #[w15, .int .i64 (chkT ts)]) rfl) rfl ?_
    refine rl_det (met_none rfl) (fun h_ H_ => exd_extract rfl (v := w15) rfl) (tm' := _::_::_::_::_::_::_::_::_::_::_::_::_::_::_::_::_::_::_::_::_::_::_::_::_::_::_::_::_::_::_::_::_::_::_::_::_) rfl ?_
    refine rl_det (met_none rfl) (fun h_ H_ => exd_extract rfl (v := .int .i64 (chkT ts)) rfl) rfl ?_
    refine rl_det (met_none rfl) (fun h_ H_ => exd_assign (v := w15) rfl) rfl ?_
    refine rl_det (met_none rfl) (fun h_ H_ => exd_assign (v := .int .i64 (chkT ts)) rfl) (tm' := _::_::_::_::_::_::_::_::_::_::_) rfl ?_
    refine rl_end ?_
    refine fl_seq ?_
    refine rl_start ?_
    refine rl_det (met_none rfl) (fun h_ H_ => exd_move (v := .slice a n c) rfl) rfl ?_
    refine rl_call (met_none rfl) (first := []) (cap := []) rfl rfl fC48 (R := fun v_ h_ => ∃ w18 : Value, ∃ X19 : Pcs, v_ = .tuple #[w18, .int .i64 (chkT ts)] ∧ (OwnS 9 1 w18 (scs (pcR ts)) X19) ∧ St h [] p10 h_ (([] : Pcs) ++ (X19 ++ (X16 ++ [])))) (fun h_ H_ => (c48 .lone _ _ (fun b_ o_ e_ => H_.per b_ o_ e_) a n _ ts (T.mono le13) (by omega) (by first | exact ht0 | exact ht1)).mono fun v_ h2_ ⟨w18, X19, e_, o20, N_⟩ => ⟨w18, X19, e_, o20, H_.callNA N_⟩) fun v_ => ?_
    refine rl_ex fun w18 => rl_ex fun X19 => rl_and fun ev_ => rl_and fun o20 => ?_
    have ev_ := ev_.symm; subst ev_
    refine rl_own (L' := ([] : Pcs) ++ (X19 ++ (X16 ++ []))) rfl ?_
    refine rl_det (met_none rfl) (fun h_ H_ => exd_move (v := .tuple #[w18, .int .i64 (chkT ts)]) rfl) (tm' := _::_::_::_::_::_::_::_::_::_::_::_::_::_::_::_::_::_::_::_::_::_::_::_::_::_::_::_::_::_::_::_::_::_::_::_::_::_::_) rfl ?_
    refine rl_det (met_none rfl) (fun h_ H_ => exd_extract rfl (v := w18) rfl) rfl ?_
    refine rl_det (met_none rfl) (fun h_ H_ => exd_extract rfl (v := .int .i64 (chkT ts)) rfl) rfl ?_
    refine rl_det (met_none rfl) (fun h_ H_ => exd_assign (v := w18) rfl) (tm' := _::_::_::_::_::_::_::_::_::_::_::_) rfl ?_
    refine rl_det (met_none rfl) (fun h_ H_ => exd_assign (v := .int .i64 (chkT ts)) rfl) rfl ?_
    refine rl_end ?_
    refine fl_seq ?_
    refine fl_seq ?_
    refine rl_start ?_
    refine rl_det (met_none rfl) (fun h_ H_ => exd_move (v := sv ((writeB ts).1)) rfl) rfl ?_
    refine rl_det (met_none rfl) (fun h_ H_ => exd_move (v := sv ((writeB ts).1)) rfl) (tm' := _::_::_::_::_::_::_::_::_::_::_::_::_::_::_::_::_::_::_::_::_::_::_::_::_::_::_::_::_::_::_::_::_::_::_::_::_::_::_::_::_::_::_::_::_) rfl ?_
    refine rl_det (met_none rfl) (fun h_ H_ => exd_neqS (l := (writeB ts).1) (m := (writeB ts).1) rfl rfl) rfl ?_
    refine rl_det (met_none rfl) (fun h_ H_ => exd_move (v := .bool (!decide ((writeB ts).1 = (writeB ts).1))) rfl) rfl ?_
    refine rl_det (met_some rfl rfl (not_f (decide_eq_true rfl))) (fun h_ H_ => exd_move (v := .int .i64 ((writeB ts).2)) rfl) (tm' := _::_::_::_::_::_::_::_::_::_::_::_::_::_::_::_::_::_::_::_::_::_::_::_::_::_::_::_::_::_::_::_::_::_::_::_::_::_::_::_::_::_::_::_::_::_::_::_) rfl ?_
    refine rl_det (met_some rfl rfl (not_f (decide_eq_true rfl))) (fun h_ H_ => exd_move (v := .int .i64 ((writeB ts).2)) rfl) rfl ?_
    refine rl_det (met_some rfl rfl (not_f (decide_eq_true rfl))) (fun h_ H_ => exd_neq rfl rfl) rfl ?_
    refine rl_det (met_none rfl) (fun h_ H_ => exd_pick_f rfl (not_f (decide_eq_true rfl)) (v := .bool (decide ((writeB ts).2 ≠ (writeB ts).2))) rfl) (tm' := _::_::_::_::_::_::_::_::_::_::_::_::_::_::_::_::_::_::_::_::_::_::_::_::_::_::_::_::_::_::_::_::_::_::_::_::_::_::_::_::_::_::_::_::_::_::_::_::_::_::_) rfl ?_
    refine rl_det (met_none rfl) (fun h_ H_ => exd_move (v := .bool (decide ((writeB ts).2 ≠ (writeB ts).2))) rfl) rfl ?_
    refine rl_det (met_some rfl rfl (decide_eq_false (fun z_ => z_ rfl))) (fun h_ H_ => exd_move (v := w15) rfl) rfl ?_
    refine rl_det (met_some rfl rfl (decide_eq_false (fun z_ => z_ rfl))) (fun h_ H_ => exd_move (v := w18) rfl) (tm' := _::_::_::_::_::_::_::_::_::_::_::_::_::_::_::_::_::_::_::_::_::_::_::_::_::_::_::_::_::_::_::_::_::_::_::_::_::_::_::_::_::_::_::_::_::_::_::_::_::_::_::_::_::_) rfl ?_
    refine rl_perm (List.Perm.append_left _ (List.perm_append_comm_assoc _ _ _)) ?_
    refine rl_own (L' := ([] : Pcs) ++ (X16 ++ (X19 ++ []))) rfl ?_
    refine rl_lastN (A := ([] : Pcs)) o17 (scs_length _) fun p21 a22 cp23 le24 ev_ D25 => ?_
    subst ev_
    refine rl_lastN (A := ([] : Pcs)) o20 (scs_length _) fun p26 a27 cp28 le29 ev_ D30 => ?_
    subst ev_
    refine rl_own (L' := []) rfl ?_
    refine rl_calld (met_some rfl rfl (decide_eq_false (fun z_ => z_ rfl))) (first := []) (cap := []) rfl rfl fC19 (fun h_ H_ => c19 .lone _ _ (fun b_ o_ e_ => H_.per b_ o_ e_) a22 a27 ((pcB ts).length) ((pcR ts).length) _ _ (pcB ts) (pcR ts) ((show Strs _ _ _ (pcB ts) from D25).mono le29) (show Strs _ _ _ (pcR ts) from D30) (by omega)) rfl ?_
    refine rl_det (met_some rfl rfl (decide_eq_false (fun z_ => z_ rfl))) (fun h_ H_ => exd_not rfl) rfl ?_
    refine rl_det (met_none rfl) (fun h_ H_ => exd_pick_f rfl (decide_eq_false (fun z_ => z_ rfl)) (v := .bool (!(decide ((pcB ts) = (pcR ts))))) rfl) (tm' := _::_::_::_::_::_::_::_::_::_::_::_::_::_::_::_::_::_::_::_::_::_::_::_::_::_::_::_::_::_::_::_::_::_::_::_::_::_::_::_::_::_::_::_::_::_::_::_::_::_::_::_::_::_::_::_::_) rfl ?_
    refine rl_det (met_none rfl) (fun h_ H_ => exd_move (v := .bool (!(decide ((pcB ts) = (pcR ts))))) rfl) rfl ?_
    refine rl_det (met_some rfl rfl (not_f (decide_eq_true (by rw [pc_same])))) (fun h_ H_ => exd_move (v := .int .i64 (chkT ts)) rfl) rfl ?_
    refine rl_det (met_some rfl rfl (not_f (decide_eq_true (by rw [pc_same])))) (fun h_ H_ => exd_move (v := .int .i64 (chkT ts)) rfl) (tm' := _::_::_::_::_::_::_::_::_::_::_::_::_::_::_::_::_::_::_::_::_::_::_::_::_::_::_::_::_::_::_::_::_::_::_::_::_::_::_::_::_::_::_::_::_::_::_::_::_::_::_::_::_::_::_::_::_::_::_::_) rfl ?_
    refine rl_det (met_some rfl rfl (not_f (decide_eq_true (by rw [pc_same])))) (fun h_ H_ => exd_neq rfl rfl) rfl ?_
    refine rl_det (met_none rfl) (fun h_ H_ => exd_pick_f rfl (not_f (decide_eq_true (by rw [pc_same]))) (v := .bool (decide (chkT ts ≠ chkT ts))) rfl) rfl ?_
    refine rl_end ?_
    refine fl_else rfl (decide_eq_false (fun z_ => z_ rfl)) ?_
    refine fl_skip ?_
    refine fl_seq ?_
    refine rl_start ?_
    refine rl_det (met_none rfl) (fun h_ H_ => exd_move (v := .slice a11 ts.length cp12) rfl) (tm' := _::_::_::_::_::_::_::_::_::_::_::_::_::_::_::_::_::_::_::_::_::_::_::_::_::_::_::_::_::_::_::_::_::_::_::_::_::_::_::_::_::_::_::_::_::_::_::_::_::_::_::_::_::_::_::_::_::_::_::_::_::_::_::_) rfl ?_
    refine rl_calld (met_none rfl) (first := []) (cap := []) rfl rfl fC30 (fun h_ H_ => c30 _ _ (fun b_ o_ e_ => H_.per b_ o_ e_) (htab.keep H_.kept) a11 ts.length _ ts (((show Strs _ _ _ ts from D14).mono le24).mono le29) (by omega) (by first | exact ht0 | exact ht1)) rfl ?_
    refine rl_det (met_none rfl) (fun h_ H_ => exd_move (v := .tuple #[.int .i64 ((savesB ts).1), .int .i64 ((savesB ts).2)]) rfl) rfl ?_
    refine rl_det (met_none rfl) (fun h_ H_ => exd_extract rfl (v := .int .i64 ((savesB ts).1)) rfl) (tm' := _::_::_::_::_::_::_::_::_::_::_::_::_::_::_::_::_::_::_::_::_::_::_::_::_::_::_::_::_::_::_::_::_::_::_::_::_::_::_::_::_::_::_::_::_::_::_::_::_::_::_::_::_::_::_::_::_::_::_::_::_::_::_::_::_::_) rfl ?_
    refine rl_det (met_none rfl) (fun h_ H_ => exd_extract rfl (v := .int .i64 ((savesB ts).2)) rfl) rfl ?_
    refine rl_det (met_none rfl) (fun h_ H_ => exd_assign (v := .int .i64 ((savesB ts).1)) rfl) rfl ?_
    refine rl_det (met_none rfl) (fun h_ H_ => exd_assign (v := .int .i64 ((savesB ts).2)) rfl) (tm' := _::_::_::_::_::_::_) rfl ?_
    refine rl_end ?_
    refine fl_seq ?_
    refine rl_start ?_
    refine rl_det (met_none rfl) (fun h_ H_ => exd_move (v := .slice a n c) rfl) rfl ?_
    refine rl_calld (met_none rfl) (first := []) (cap := []) rfl rfl fC49 (fun h_ H_ => c49 .lone _ _ (fun b_ o_ e_ => H_.per b_ o_ e_) a n _ ts (((T.mono le13).mono le24).mono le29) (by omega) (by first | exact ht0 | exact ht1)) rfl ?_
    refine rl_det (met_none rfl) (fun h_ H_ => exd_move (v := .tuple #[.int .i64 ((savesB ts).1), .int .i64 ((savesB ts).2)]) rfl) (tm' := _::_::_::_::_::_::_::_::_::_::_::_::_::_::_::_::_::_::_::_::_::_::_::_::_::_::_::_::_::_::_::_::_::_::_::_::_::_::_::_::_::_::_::_::_::_::_::_::_::_::_::_::_::_::_::_::_::_::_::_::_::_::_::_::_::_::_::_) rfl ?_
    refine rl_det (met_none rfl) (fun h_ H_ => exd_extract rfl (v := .int .i64 ((savesB ts).1)) rfl) rfl ?_
    refine rl_det (met_none rfl) (fun h_ H_ => exd_extract rfl (v := .int .i64 ((savesB ts).2)) rfl) rfl ?_
    refine rl_det (met_none rfl) (fun h_ H_ => exd_assign (v := .int .i64 ((savesB ts).1)) rfl) (tm' := _::_::_::_::_::_::_::_::_::_::_::_::_::_::_) rfl ?_
    refine rl_det (met_none rfl) (fun h_ H_ => exd_assign (v := .int .i64 ((savesB ts).2)) rfl) rfl ?_
    refine rl_end ?_
    refine fl_seq ?_
    refine rl_start ?_
    refine rl_det (met_none rfl) (fun h_ H_ => exd_move (v := .slice a11 ts.length cp12) rfl) rfl ?_
    refine rl_calld (met_none rfl) (first := []) (cap := []) rfl rfl fC44 (fun h_ H_ => c44 _ _ (fun b_ o_ e_ => H_.per b_ o_ e_)  a11 ts.length _ ts (((show Strs _ _ _ ts from D14).mono le24).mono le29) (by omega) (by first | exact ht0 | exact ht1)) (tm' := [_,_,_,_,_,_,_,_,_,_,_,_,_,_,_,_,_,_,_,_,_,_,_,_,_,_,_,_,_,_,_,_,_,_,_,_,_,_,_,_,_,_,_,_,_,_,_,_,_,_,_,_,_,_,_,_,_,_,_,_,_,_,_,_,_,_,_,_,_,_,_,_,_,_,_,_,_,_,_,_,_,_,_,_,_,_,_,_,_,_,_,_,_,_,_,_,_,_,_,_,_,_,_,_,_,_,_]) rfl ?_
    refine rl_det (met_none rfl) (fun h_ H_ => exd_move (v := .tuple #[.int .i64 (((longB (pcB ts) : Nat) : Int)), .int .i64 (chkT ts)]) rfl) rfl ?_
    refine rl_det (met_none rfl) (fun h_ H_ => exd_extract rfl (v := .int .i64 (((longB (pcB ts) : Nat) : Int))) rfl) rfl ?_
    refine rl_det (met_none rfl) (fun h_ H_ => exd_extract rfl (v := .int .i64 (chkT ts)) rfl) (tm' := [_,_,_,_,_,_,_,_,_,_,_,_,_,_,_,_,_,_,_,_,_,_,_,_,_,_,_,_,_,_,_,_,_,_,_,_,_,_,_,_,_,_,_,_,_,_,_,_,_,_,_,_,_,_,_,_,_,_,_,_,_,_,_,_,_,_,_,_,_,_,_,_,_,_,_,_,_,_,_,_,_,_,_,_,_,_,_,_,_,_,_,_,_,_,_,_,_,_,_,_,_,_,_,_,_,_,_]) rfl ?_
    refine rl_det (met_none rfl) (fun h_ H_ => exd_assign (v := .int .i64 (((longB (pcB ts) : Nat) : Int))) rfl) rfl ?_
    refine rl_det (met_none rfl) (fun h_ H_ => exd_assign (v := .int .i64 (chkT ts)) rfl) rfl ?_
    refine rl_end ?_
    refine fl_seq ?_
    refine rl_start ?_
    refine rl_det (met_none rfl) (fun h_ H_ => exd_move (v := .slice a n c) rfl) (tm' := [_,_,_,_,_,_,_,_,_,_,_,_,_,_,_,_,_,_,_,_,_,_,_,_,_,_,_,_,_,_,_,_,_,_,_,_,_,_,_,_,_,_,_,_,_,_,_,_,_,_,_,_,_,_,_,_,_,_,_,_,_,_,_,_,_,_,_,_,_,_,_,_,_,_,_,_,_,_,_,_,_,_,_,_,_,_,_,_,_,_,_,_,_,_,_,_,_,_,_,_,_,_,_,_,_,_,_]) rfl ?_
    refine rl_calld (met_none rfl) (first := []) (cap := []) rfl rfl fC50 (fun h_ H_ => c50 .lone _ _ (fun b_ o_ e_ => H_.per b_ o_ e_) a n _ ts (((T.mono le13).mono le24).mono le29) (by omega) (by first | exact ht0 | exact ht1)) rfl ?_
    refine rl_det (met_none rfl) (fun h_ H_ => exd_move (v := .tuple #[.int .i64 (((longB (pcR ts) : Nat) : Int)), .int .i64 (chkT ts)]) rfl) rfl ?_
    refine rl_det (met_none rfl) (fun h_ H_ => exd_extract rfl (v := .int .i64 (((longB (pcR ts) : Nat) : Int))) rfl) (tm' := [_,_,_,_,_,_,_,_,_,_,_,_,_,_,_,_,_,_,_,_,_,_,_,_,_,_,_,_,_,_,_,_,_,_,_,_,_,_,_,_,_,_,_,_,_,_,_,_,_,_,_,_,_,_,_,_,_,_,_,_,_,_,_,_,_,_,_,_,_,_,_,_,_,_,_,_,_,_,_,_,_,_,_,_,_,_,_,_,_,_,_,_,_,_,_,_,_,_,_,_,_,_,_,_,_,_,_]) rfl ?_
    refine rl_det (met_none rfl) (fun h_ H_ => exd_extract rfl (v := .int .i64 (chkT ts)) rfl) rfl ?_
    refine rl_det (met_none rfl) (fun h_ H_ => exd_assign (v := .int .i64 (((longB (pcR ts) : Nat) : Int))) rfl) rfl ?_
    refine rl_det (met_none rfl) (fun h_ H_ => exd_assign (v := .int .i64 (chkT ts)) rfl) (tm' := _::_::_::_::_::_::_::_::_::_::_::_::_) rfl ?_
    refine rl_end ?_
    refine fl_seq ?_
    refine rl_start ?_
    refine rl_det (met_none rfl) (fun h_ H_ => exd_move (v := .int .i64 ((savesB ts).1)) rfl) rfl ?_
    refine rl_det (met_none rfl) (fun h_ H_ => exd_move (v := .int .i64 ((savesB ts).1)) rfl) rfl ?_
    refine rl_det (met_none rfl) (fun h_ H_ => exd_eql rfl rfl) (tm' := [_,_,_,_,_,_,_,_,_,_,_,_,_,_,_,_,_,_,_,_,_,_,_,_,_,_,_,_,_,_,_,_,_,_,_,_,_,_,_,_,_,_,_,_,_,_,_,_,_,_,_,_,_,_,_,_,_,_,_,_,_,_,_,_,_,_,_,_,_,_,_,_,_,_,_,_,_,_,_,_,_,_,_,_,_,_,_,_,_,_,_,_,_,_,_,_,_,_,_,_,_,_,_,_,_,_,_]) rfl ?_
    refine rl_det (met_none rfl) (fun h_ H_ => exd_move (v := .bool (decide ((savesB ts).1 = (savesB ts).1))) rfl) rfl ?_
    refine rl_det (met_some rfl rfl (decide_eq_true rfl)) (fun h_ H_ => exd_move (v := .int .i64 ((savesB ts).2)) rfl) rfl ?_
    refine rl_det (met_some rfl rfl (decide_eq_true rfl)) (fun h_ H_ => exd_move (v := .int .i64 ((savesB ts).2)) rfl) (tm' := [_,_,_,_,_,_,_,_,_,_,_,_,_,_,_,_,_,_,_,_,_,_,_,_,_,_,_,_,_,_,_,_,_,_,_,_,_,_,_,_,_,_,_,_,_,_,_,_,_,_,_,_,_,_,_,_,_,_,_,_,_,_,_,_,_,_,_,_,_,_,_,_,_,_,_,_,_,_,_,_,_,_,_,_,_,_,_,_,_,_,_,_,_,_,_,_,_,_,_,_,_,_,_,_,_,_,_]) rfl ?_
    refine rl_det (met_some rfl rfl (decide_eq_true rfl)) (fun h_ H_ => exd_eql rfl rfl) rfl ?_
    refine rl_det (met_none rfl) (fun h_ H_ => exd_pick_t rfl (decide_eq_true rfl) (v := .bool (decide ((savesB ts).2 = (savesB ts).2))) rfl) rfl ?_
    refine rl_det (met_none rfl) (fun h_ H_ => exd_move (v := .bool (decide ((savesB ts).2 = (savesB ts).2))) rfl) (tm' := [_,_,_,_,_,_,_,_,_,_,_,_,_,_,_,_,_,_,_,_,_,_,_,_,_,_,_,_,_,_,_,_,_,_,_,_,_,_,_,_,_,_,_,_,_,_,_,_,_,_,_,_,_,_,_,_,_,_,_,_,_,_,_,_,_,_,_,_,_,_,_,_,_,_,_,_,_,_,_,_,_,_,_,_,_,_,_,_,_,_,_,_,_,_,_,_,_,_,_,_,_,_,_,_,_,_,_]) rfl ?_
    refine rl_det (met_some rfl rfl (decide_eq_true rfl)) (fun h_ H_ => exd_move (v := .int .i64 (((longB (pcB ts) : Nat) : Int))) rfl) rfl ?_
    refine rl_det (met_some rfl rfl (decide_eq_true rfl)) (fun h_ H_ => exd_move (v := .int .i64 (((longB (pcR ts) : Nat) : Int))) rfl) rfl ?_
    refine rl_det (met_some rfl rfl (decide_eq_true rfl)) (fun h_ H_ => exd_eql rfl rfl) (tm' := [_,_,_,_,_,_,_,_,_,_,_,_,_,_,_,_,_,_,_,_,_,_,_,_,_,_,_,_,_,_,_,_,_,_,_,_,_,_,_,_,_,_,_,_,_,_,_,_,_,_,_,_,_,_,_,_,_,_,_,_,_,_,_,_,_,_,_,_,_,_,_,_,_,_,_,_,_,_,_,_,_,_,_,_,_,_,_,_,_,_,_,_,_,_,_,_,_,_,_,_,_,_,_,_,_,_,_]) rfl ?_
    refine rl_det (met_none rfl) (fun h_ H_ => exd_pick_t rfl (decide_eq_true rfl) (v := .bool (decide (((longB (pcB ts) : Nat) : Int) = ((longB (pcR ts) : Nat) : Int)))) rfl) rfl ?_
    refine rl_det (met_none rfl) (fun h_ H_ => exd_move (v := .bool (decide (((longB (pcB ts) : Nat) : Int) = ((longB (pcR ts) : Nat) : Int)))) rfl) rfl ?_
    refine rl_det (met_some rfl rfl (decide_eq_true (by rw [pc_same]))) (fun h_ H_ => exd_move (v := .int .i64 (chkT ts)) rfl) (tm' := [_,_,_,_,_,_,_,_,_,_,_,_,_,_,_,_,_,_,_,_,_,_,_,_,_,_,_,_,_,_,_,_,_,_,_,_,_,_,_,_,_,_,_,_,_,_,_,_,_,_,_,_,_,_,_,_,_,_,_,_,_,_,_,_,_,_,_,_,_,_,_,_,_,_,_,_,_,_,_,_,_,_,_,_,_,_,_,_,_,_,_,_,_,_,_,_,_,_,_,_,_,_,_,_,_,_,_]) rfl ?_
    refine rl_det (met_some rfl rfl (decide_eq_true (by rw [pc_same]))) (fun h_ H_ => exd_move (v := .int .i64 (chkT ts)) rfl) rfl ?_
    refine rl_det (met_some rfl rfl (decide_eq_true (by rw [pc_same]))) (fun h_ H_ => exd_eql rfl rfl) rfl ?_
    refine rl_det (met_none rfl) (fun h_ H_ => exd_pick_t rfl (decide_eq_true (by rw [pc_same])) (v := .bool (decide (chkT ts = chkT ts))) rfl) (tm' := [_,_,_,_,_,_,_,_,_,_,_,_,_,_,_,_,_,_,_,_,_,_,_,_,_,_,_,_,_,_,_,_,_,_,_,_,_,_,_,_,_,_,_,_,_,_,_,_,_,_,_,_,_,_,_,_,_,_,_,_,_,_,_,_,_,_,_,_,_,_,_,_,_,_,_,_,_,_,_,_,_,_,_,_,_,_,_,_,_,_,_,_,_,_,_,_,_,_,_,_,_,_,_,_,_,_,_]) rfl ?_
    refine rl_det (met_none rfl) (fun h_ H_ => exd_move (v := .bool (decide (chkT ts = chkT ts))) rfl) rfl ?_
    refine rl_det (met_some rfl rfl (decide_eq_true rfl)) (fun h_ H_ => exd_move (v := .slice a11 ts.length cp12) rfl) rfl ?_
    refine rl_det (met_some rfl rfl (decide_eq_true rfl)) (fun h_ H_ => exd_move (v := .slice a n c) rfl) (tm' := [_,_,_,_,_,_,_,_,_,_,_,_,_,_,_,_,_,_,_,_,_,_,_,_,_,_,_,_,_,_,_,_,_,_,_,_,_,_,_,_,_,_,_,_,_,_,_,_,_,_,_,_,_,_,_,_,_,_,_,_,_,_,_,_,_,_,_,_,_,_,_,_,_,_,_,_,_,_,_,_,_,_,_,_,_,_,_,_,_,_,_,_,_,_,_,_,_,_,_,_,_,_,_,_,_,_,_]) rfl ?_
    refine rl_calld (met_some rfl rfl (decide_eq_true rfl)) (first := []) (cap := []) rfl rfl fC19 (fun h_ H_ => c19 .lone _ _ (fun b_ o_ e_ => H_.per b_ o_ e_) a11 a ts.length n _ _ ts ts (((show Strs _ _ _ ts from D14).mono le24).mono le29) (((T.mono le13).mono le24).mono le29) (by omega)) rfl ?_
    refine rl_det (met_none rfl) (fun h_ H_ => exd_pick_t rfl (decide_eq_true rfl) (v := .bool (decide (ts = ts))) rfl) rfl ?_
    refine rl_det (met_none rfl) (fun h_ H_ => exd_move (v := .bool (decide (ts = ts))) rfl) (tm' := [_,_,_,_,_,_,_,_,_,_,_,_,_,_,_,_,_,_,_,_,_,_,_,_,_,_,_,_,_,_,_,_,_,_,_,_,_,_,_,_,_,_,_,_,_,_,_,_,_,_,_,_,_,_,_,_,_,_,_,_,_,_,_,_,_,_,_,_,_,_,_,_,_,_,_,_,_,_,_,_,_,_,_,_,_,_,_,_,_,_,_,_,_,_,_,_,_,_,_,_,_,_,_,_,_,_,_]) rfl ?_
    refine rl_calld (met_some rfl rfl (decide_eq_true rfl)) (first := []) (cap := []) rfl rfl fC16 (fun h_ H_ => c16 _ (htab.keep H_.kept)) rfl ?_
    refine rl_det (met_none rfl) (fun h_ H_ => exd_pick_t rfl (decide_eq_true rfl) (v := .bool (true)) rfl) rfl ?_
    refine rl_det (met_none rfl) (fun h_ H_ => exd_assign (v := .bool (true)) rfl) (tm' := _::_::_::_) rfl ?_
    refine rl_end ?_
    refine fl_retL Tryd.func14 rfl (vs := [.bool (true)]) (fun h_ H_ => ⟨.bool (true), _, rfl, rfl, rfl⟩) (v := .bool (true)) rfl ?_
    exact fun h_ H_ => ⟨rfl, H_.kept⟩
end Go.Proofs.YtiinpnlfdeiloaaDoor
namespace Go.Proofs.YtiinpnlfdeiloaaDoor
open Go.X Go.X.Cent Go.Conc Go.RowKit Go.ChangeShapes Go.WideShapes Go.ChangeAt Go.Joins
set_option maxRecDepth 100000

theorem lifted14 (os : Os) (started : os.Started) (H : Type) (enc : TypeId × Value → H) :
    ReturnsInHanded {} Tryd.checked os 14 .any (fun w args => (Rows.centuryWritesSpec.pre enc Tryd.prog Tryd.f14 Rows.centuryWritesRow.domain false w args ∧ laidMetH Tryd.prog Rows.centuryWritesRow.laid w) ∧ sizedMet enc Tryd.prog Tryd.f14 (OpenSpec.ofChange Rows.centuryWritesSpec) false w args) (Rows.centuryWritesSpec.post enc Tryd.prog Tryd.f14 false true false false) := by
  refine returnsInHanded_of_change_and (C := Tryd.checked) (X := fun w _ => laidMetH Tryd.prog Rows.centuryWritesRow.laid w) (fun _ _ _ hh h => h.of_heap hh) pOwn started (by kernel_rfl) Tryd.func14
    (ChangeSpec.witness_shaped (enc := enc) (C := Tryd.checked) (os := os) (X := fun w _ => laidMetH Tryd.prog Rows.centuryWritesRow.laid w) false (laidW os) #[.slice none 0 0] 8 (World.laidAll_os _ _ _)
      (World.shaped_of_ZipB (by kernel_rfl) (by kernel_rfl)) (by kernel_rfl) (by kernel_rfl) (by kernel_rfl) (laidW_met os _)) ?_
  intro W base args ds gs before hval0 hW _ _ hL _
  have hval : ∀ (j : Nat) t v, Tryd.f14.params[j]? = some t → args[j]? = some v → Value.okWide Tryd.prog W .any base t v := hval0
  have hW2 := hW
  obtain ⟨p, q, hA0, hV, rfl, _, _⟩ := hW2
  have hA : DataW.TrodAll enc Tryd.prog W 0 (fun _ => true) true Tryd.f14.params.toList args.toList ds p := hA0
  rw [Tryd.params14] at hA hval
  obtain ⟨v0, d0, rfl, rfl, h0⟩ := trodAll_one hA
  obtain ⟨rfl, rfl⟩ := trodVars_none hV
  obtain ⟨a, n, c, ts, rfl, hn, T⟩ := open_texts (hval 0 22 v0 rfl rfl) h0
  refine (calls_of_enters (e14 W.heap (pW W) (pW_per W) (tab_of_laid hL) a n c ts T hn)).mono fun e W2 ⟨v, he, ⟨hv, hk_⟩, cl⟩ => ⟨v, he, ?_⟩
  subst hv
  exact law_post pLaid rfl (fun t ht => by rw [Tryd.params14] at ht; revert t; decide +kernel) rfl Tryd.underlying4 hW rfl (below_of hk_ cl)

theorem centuryWritesRowHolds : Rows.CenturyWritesSaid :=
  OpenClaim.holds_of_wide 14 Tryd.f14 rfl rfl rfl rfl rfl rfl rfl ⟨rfl, rfl, rfl, rfl, rfl⟩ rfl rfl rfl rfl rfl (by kernel_rfl) Tryd.func14 (by kernel_rfl)
    (of_decide_eq_true (by kernel_rfl)) (by unfold Func.isWrapper; first | (rw [if_pos (by decide +kernel)]; kernel_rfl) | (rw [if_neg (by decide +kernel)]; exact ⟨rfl, rfl⟩))
    (fun os started H enc _ => lifted14 os started H enc)

theorem centuryWritesHolds : Rows.CenturyWritesCardSaid :=
  Claim7.holds_tied_plain_at .later [] [.data, .data, .data, .data, .pinned] true (true, "d19a88c3556340bf03c70abcf51311f6c04bc6278884da2732a7a561c1b64cb8") false centuryWritesRowHolds (fun _ h => by cases h) (by kernel_rfl) (fun _ h => by cases h) centuryWrites_row_tie rfl ⟨rfl, rfl⟩ (by kernel_rfl) rfl
    (fun f fn hf hfn => by
      obtain rfl : f = 14 := Option.some.inj ((show Tryd.prog.funcNamed "steening/steeninglaw14.CenturyWrites" = some 14 by kernel_rfl).symm.trans hf) |>.symm
      obtain rfl : fn = Tryd.f14 := (Option.some.inj (Tryd.func14.symm.trans hfn)).symm
      exact ⟨by kernel_rfl, fun j t ht => by
        rw [Tryd.params14] at ht
        have hm : t ∈ [22] := by simpa using Array.mem_of_getElem? ht
        have hall : ([22].all fun u => !Tryd.prog.wantsStandIn u) = true := by kernel_rfl
        exact (show Tryd.prog.wantsStandIn t = false by simpa using List.all_eq_true.1 hall t hm)⟩)
    (by kernel_rfl)

#print axioms centuryWritesHolds
end Go.Proofs.YtiinpnlfdeiloaaDoor
