/-
  CenturyReads, for every input: the law returns true and leaves its arguments as they were. The row, and the tied card.
-/
import Derived.Test.YtiinpnlfdeiloaaDoorD2
import Derived.Test.YtiinpnlfdeiloaaDoorD5
import Derived.Test.YtiinpnlfdeiloaaDoorCards
import Derived.Test.YtiinpnlfdeiloaaDoorTie
namespace Go.Proofs.YtiinpnlfdeiloaaDoor
open Go.X Go.X.Cent Go.Conc
set_option maxRecDepth 10000
set_option synthInstance.maxSize 2000
set_option synthInstance.maxHeartbeats 400000

set_option maxHeartbeats 2000000
theorem e9 (h : Heap) (htab : Tab h) (s : By) : EntersL Tryd.prog 9 #[sv s] h fun v h' => v = .bool true ∧ Keep h h' := by
  refine enters_introL (Φ := fun h_ => St h [] (fun _ => none) h_ []) Tryd.func9 rfl (tm := [_, _, _, _, _, _, _, _, _, _, _, _, _, _, _, _, _, _, _, _, _, _, _, _, _, _, _, _, _, _, _, _, _, _, _, _, _, _, _, _, _, _, _, _, _, _, _, _, _, _, _, _, _, _, _, _, _, _, _, _, _, _, _]) rfl ?_ (St.start h _ (fun _ _ e => by cases e))
  intro cs
  refine fl_seq ?_
  refine rl_start ?_
  refine rl_det (met_none rfl) (fun h_ H_ => exd_assign (v := .bool (false)) rfl) rfl ?_
  refine rl_end ?_
  refine fl_seq ?_
  refine fl_seq ?_
  refine rl_start ?_
  refine rl_det (met_none rfl) (fun h_ H_ => exd_move (v := sv s) rfl) rfl ?_
  refine rl_det (met_none rfl) (fun h_ H_ => exd_lenS (l := s) Tryd.underlying9 rfl) (tm' := _::_::_::_::_::_::_::_::_::_::_::_::_::_) rfl ?_
  refine rl_det (met_none rfl) (fun h_ H_ => exd_gtr rfl rfl) rfl ?_
  refine rl_end ?_
  by_cases cc1 : 2000 < ((s.length : Nat) : Int)
  · refine fl_then rfl (decide_eq_true cc1) ?_
    refine fl_seq ?_
    refine rl_start ?_
    refine rl_calld (met_none rfl) (first := []) (cap := []) rfl rfl fC16 (fun h_ H_ => c16 _ (htab.keep H_.kept)) rfl ?_
    refine rl_det (met_none rfl) (fun h_ H_ => exd_assign (v := .bool (true)) rfl) (tm' := _::_::_::_) rfl ?_
    refine rl_end ?_
    refine fl_retL Tryd.func9 rfl (vs := [.bool (true)]) (fun h_ H_ => ⟨.bool (true), _, rfl, rfl, rfl⟩) (v := .bool (true)) rfl ?_
    exact fun h_ H_ => ⟨rfl, H_.kept⟩
  · refine fl_else rfl (decide_eq_false cc1) ?_
    refine fl_skip ?_
    refine fl_seq ?_
    refine rl_start ?_
    refine rl_det (met_none rfl) (fun h_ H_ => exd_move (v := sv s) rfl) rfl ?_
    refine rl_own (L' := ([] : Pcs) ++ []) rfl ?_
    refine rl_call (met_none rfl) (first := []) (cap := []) rfl rfl fC33 (R := fun v_ h_ => ∃ w2 : Value, ∃ X3 : Pcs, v_ = .tuple #[w2, .int .i64 (parseB s)] ∧ (OwnS 60 2 w2 (pies ((formB s).getD [])) X3) ∧ St h [] (fun _ => none) h_ (([] : Pcs) ++ (X3 ++ []))) (fun h_ H_ => (c33 _ s (by omega)).mono fun v_ h2_ ⟨w2, X3, e_, o4, N_⟩ => ⟨w2, X3, e_, o4, H_.callNA N_⟩) fun v_ => ?_
    refine rl_ex fun w2 => rl_ex fun X3 => rl_and fun ev_ => rl_and fun o4 => ?_
    have ev_ := ev_.symm; subst ev_
    refine rl_own (L' := ([] : Pcs) ++ (X3 ++ [])) rfl ?_
    refine rl_det (met_none rfl) (fun h_ H_ => exd_move (v := .tuple #[w2, .int .i64 (parseB s)]) rfl) (tm' := _::_::_::_::_::_::_::_::_::_::_::_::_::_::_::_::_) rfl ?_
    refine rl_det (met_none rfl) (fun h_ H_ => exd_extract rfl (v := w2) rfl) rfl ?_
    refine rl_det (met_none rfl) (fun h_ H_ => exd_extract rfl (v := .int .i64 (parseB s)) rfl) rfl ?_
    refine rl_det (met_none rfl) (fun h_ H_ => exd_assign (v := w2) rfl) (tm' := _::_::_::_::_) rfl ?_
    refine rl_det (met_none rfl) (fun h_ H_ => exd_assign (v := .int .i64 (parseB s)) rfl) rfl ?_
    refine rl_end ?_
    refine fl_seq ?_
    refine rl_start ?_
    refine rl_det (met_none rfl) (fun h_ H_ => exd_move (v := sv s) rfl) rfl ?_
    refine rl_call (met_none rfl) (first := []) (cap := []) rfl rfl fC38 (R := fun v_ h_ => ∃ w5 : Value, ∃ X6 : Pcs, v_ = .tuple #[w5, .int .i64 (perR s)] ∧ (OwnS 60 2 w5 (pies (parseR s)) X6) ∧ St h [] (fun _ => none) h_ (([] : Pcs) ++ (X6 ++ (X3 ++ [])))) (fun h_ H_ => (c38 .lone _ s (by omega)).mono fun v_ h2_ ⟨w5, X6, e_, o7, N_⟩ => ⟨w5, X6, e_, o7, H_.callNA N_⟩) fun v_ => ?_
    refine rl_ex fun w5 => rl_ex fun X6 => rl_and fun ev_ => rl_and fun o7 => ?_
    have ev_ := ev_.symm; subst ev_
    refine rl_own (L' := ([] : Pcs) ++ (X6 ++ (X3 ++ []))) rfl ?_
    refine rl_norm (tm' := _::_::_::_::_::_::_::_::_::_::_::_::_::_::_::_::_::_::_::_::_::_::_::_) rfl ?_
    refine rl_det (met_none rfl) (fun h_ H_ => exd_move (v := .tuple #[w5, .int .i64 (perR s)]) rfl) rfl ?_
    refine rl_det (met_none rfl) (fun h_ H_ => exd_extract rfl (v := w5) rfl) rfl ?_
    refine rl_det (met_none rfl) (fun h_ H_ => exd_extract rfl (v := .int .i64 (perR s)) rfl) (tm' := _::_::_::_::_::_::_::_::_::_::_::_::_::_::_::_::_::_::_::_::_::_::_::_::_::_) rfl ?_
    refine rl_det (met_none rfl) (fun h_ H_ => exd_assign (v := w5) rfl) rfl ?_
    refine rl_det (met_none rfl) (fun h_ H_ => exd_assign (v := .int .i64 (perR s)) rfl) rfl ?_
    refine rl_end ?_
    refine fl_seq ?_
    refine rl_start ?_
    refine rl_det (met_none rfl) (fun h_ H_ => exd_move (v := sv s) rfl) (tm' := _::_::_::_::_::_::_::_::_::_::_::_::_::_::_::_::_::_::_::_::_::_::_::_::_::_::_::_) rfl ?_
    refine rl_call (met_none rfl) (first := []) (cap := []) rfl rfl fC18 (R := fun v_ h_ => ∃ w8 : Value, ∃ X9 : Pcs, v_ = .tuple #[w8, .int .i64 ((readB s).1)] ∧ (OwnS 9 1 w8 (scs ((readB s).2)) X9) ∧ St h [] (fun _ => none) h_ (([] : Pcs) ++ (X9 ++ (X6 ++ (X3 ++ []))))) (fun h_ H_ => (c18 _ (htab.keep H_.kept) s (by omega)).mono fun v_ h2_ ⟨w8, X9, e_, o10, N_⟩ => ⟨w8, X9, e_, o10, H_.callNA N_⟩) fun v_ => ?_
    refine rl_ex fun w8 => rl_ex fun X9 => rl_and fun ev_ => rl_and fun o10 => ?_
    have ev_ := ev_.symm; subst ev_
    refine rl_own (L' := ([] : Pcs) ++ (X9 ++ (X6 ++ (X3 ++ [])))) rfl ?_
    refine rl_det (met_none rfl) (fun h_ H_ => exd_move (v := .tuple #[w8, .int .i64 ((readB s).1)]) rfl) rfl ?_
    refine rl_det (met_none rfl) (fun h_ H_ => exd_extract rfl (v := w8) rfl) (tm' := _::_::_::_::_::_::_::_::_::_::_::_::_::_::_::_::_::_::_::_::_::_::_::_::_::_::_::_::_::_) rfl ?_
    refine rl_det (met_none rfl) (fun h_ H_ => exd_extract rfl (v := .int .i64 ((readB s).1)) rfl) rfl ?_
    refine rl_det (met_none rfl) (fun h_ H_ => exd_assign (v := w8) rfl) rfl ?_
    refine rl_det (met_none rfl) (fun h_ H_ => exd_assign (v := .int .i64 ((readB s).1)) rfl) (tm' := _::_::_::_::_::_::_::_::_::_) rfl ?_
    refine rl_end ?_
    refine fl_seq ?_
    refine rl_start ?_
    refine rl_det (met_none rfl) (fun h_ H_ => exd_move (v := sv s) rfl) rfl ?_
    refine rl_call (met_none rfl) (first := []) (cap := []) rfl rfl fC39 (R := fun v_ h_ => ∃ w11 : Value, ∃ X12 : Pcs, v_ = .tuple #[w11, .int .i64 ((readR s).1)] ∧ (OwnS 9 1 w11 (scs ((readR s).2)) X12) ∧ St h [] (fun _ => none) h_ (([] : Pcs) ++ (X12 ++ (X9 ++ (X6 ++ (X3 ++ [])))))) (fun h_ H_ => (c39 .lone _ s (by omega)).mono fun v_ h2_ ⟨w11, X12, e_, o13, N_⟩ => ⟨w11, X12, e_, o13, H_.callNA N_⟩) fun v_ => ?_
    refine rl_ex fun w11 => rl_ex fun X12 => rl_and fun ev_ => rl_and fun o13 => ?_
    have ev_ := ev_.symm; subst ev_
    refine rl_own (L' := ([] : Pcs) ++ (X12 ++ (X9 ++ (X6 ++ (X3 ++ []))))) rfl ?_
    refine rl_det (met_none rfl) (fun h_ H_ => exd_move (v := .tuple #[w11, .int .i64 ((readR s).1)]) rfl) (tm' := _::_::_::_::_::_::_::_::_::_::_::_::_::_::_::_::_::_::_::_::_::_::_::_::_::_::_::_::_::_::_::_) rfl ?_
    refine rl_det (met_none rfl) (fun h_ H_ => exd_extract rfl (v := w11) rfl) rfl ?_
    refine rl_det (met_none rfl) (fun h_ H_ => exd_extract rfl (v := .int .i64 ((readR s).1)) rfl) rfl ?_
    refine rl_det (met_none rfl) (fun h_ H_ => exd_assign (v := w11) rfl) (tm' := _::_::_::_::_::_::_::_::_::_::_) rfl ?_
    refine rl_det (met_none rfl) (fun h_ H_ => exd_assign (v := .int .i64 ((readR s).1)) rfl) rfl ?_
    refine rl_end ?_
    refine fl_seq ?_
    refine rl_start ?_
    refine rl_det (met_none rfl) (fun h_ H_ => exd_move (v := w2) rfl) rfl ?_
    refine rl_det (met_none rfl) (fun h_ H_ => exd_move (v := w5) rfl) (tm' := _::_::_::_::_::_::_::_::_::_::_::_::_::_::_::_::_::_::_::_::_::_::_::_::_::_::_::_::_::_::_::_::_::_::_::_::_::_) rfl ?_
    refine rl_perm (List.Perm.append_left _ (List.Perm.append_left _ (List.Perm.append_left _ (List.perm_append_comm_assoc _ _ _)))) ?_
    refine rl_perm (List.Perm.append_left _ (List.Perm.append_left _ (List.perm_append_comm_assoc _ _ _))) ?_
    refine rl_perm (List.Perm.append_left _ (List.perm_append_comm_assoc _ _ _)) ?_
    refine rl_own (L' := ([] : Pcs) ++ (X3 ++ (X12 ++ (X9 ++ (X6 ++ []))))) rfl ?_
    refine rl_lastN (A := ([] : Pcs)) o4 (pies_length _) fun p14 a15 cp16 le17 ev_ D18 => ?_
    subst ev_
    refine rl_perm (List.Perm.append_left _ (List.Perm.append_left _ (List.perm_append_comm_assoc _ _ _))) ?_
    refine rl_perm (List.Perm.append_left _ (List.perm_append_comm_assoc _ _ _)) ?_
    refine rl_own (L' := ([] : Pcs) ++ (X6 ++ (X12 ++ (X9 ++ [])))) rfl ?_
    refine rl_lastN (A := ([] : Pcs)) o7 (pies_length _) fun p19 a20 cp21 le22 ev_ D23 => ?_
    subst ev_
    refine rl_calld (met_none rfl) (first := []) (cap := []) rfl rfl fC37 (fun h_ H_ => c37 _ _ (fun b_ o_ e_ => H_.per b_ o_ e_) a15 a20 (((formB s).getD []).length) ((parseR s).length) _ _ ((formB s).getD []) (parseR s) ((show Pies _ _ _ ((formB s).getD []) from D18).mono le22) (show Pies _ _ _ (parseR s) from D23) (by have := (form_ok s).1; omega)) rfl ?_
    refine rl_det (met_none rfl) (fun h_ H_ => exd_move (v := .bool (decide (((formB s).getD []) = (parseR s)))) rfl) rfl ?_
    refine rl_det (met_some rfl rfl (decide_eq_true (by rw [parse_same]))) (fun h_ H_ => exd_move (v := .int .i64 (parseB s)) rfl) (tm' := _::_::_::_::_::_::_::_::_::_::_::_::_::_::_::_::_::_::_::_::_::_::_::_::_::_::_::_::_::_::_::_::_::_::_::_::_::_::_::_::_) rfl ?_
    refine rl_det (met_some rfl rfl (decide_eq_true (by rw [parse_same]))) (fun h_ H_ => exd_move (v := .int .i64 (perR s)) rfl) rfl ?_
    refine rl_det (met_some rfl rfl (decide_eq_true (by rw [parse_same]))) (fun h_ H_ => exd_eql rfl rfl) rfl ?_
    refine rl_det (met_none rfl) (fun h_ H_ => exd_pick_t rfl (decide_eq_true (by rw [parse_same])) (v := .bool (decide (parseB s = perR s))) rfl) (tm' := [_,_,_,_,_,_,_,_,_,_,_,_,_,_,_,_,_,_,_,_,_,_,_,_,_,_,_,_,_,_,_,_,_,_,_,_,_,_,_,_,_,_,_,_,_,_,_,_,_,_,_,_,_,_,_,_,_,_,_,_,_,_,_]) rfl ?_
    refine rl_det (met_none rfl) (fun h_ H_ => exd_move (v := .bool (decide (parseB s = perR s))) rfl) rfl ?_
    refine rl_det (met_some rfl rfl (decide_eq_true (by rw [per_same]))) (fun h_ H_ => exd_move (v := w8) rfl) rfl ?_
    refine rl_det (met_some rfl rfl (decide_eq_true (by rw [per_same]))) (fun h_ H_ => exd_move (v := w11) rfl) (tm' := [_,_,_,_,_,_,_,_,_,_,_,_,_,_,_,_,_,_,_,_,_,_,_,_,_,_,_,_,_,_,_,_,_,_,_,_,_,_,_,_,_,_,_,_,_,_,_,_,_,_,_,_,_,_,_,_,_,_,_,_,_,_,_]) rfl ?_
    refine rl_perm (List.Perm.append_left _ (List.perm_append_comm_assoc _ _ _)) ?_
    refine rl_own (L' := ([] : Pcs) ++ (X9 ++ (X12 ++ []))) rfl ?_
    refine rl_lastN (A := ([] : Pcs)) o10 (scs_length _) fun p24 a25 cp26 le27 ev_ D28 => ?_
    subst ev_
    refine rl_lastN (A := ([] : Pcs)) o13 (scs_length _) fun p29 a30 cp31 le32 ev_ D33 => ?_
    subst ev_
    refine rl_own (L' := []) rfl ?_
    refine rl_calld (met_some rfl rfl (decide_eq_true (by rw [per_same]))) (first := []) (cap := []) rfl rfl fC19 (fun h_ H_ => c19 .lone _ _ (fun b_ o_ e_ => H_.per b_ o_ e_) a25 a30 (((readB s).2).length) (((readR s).2).length) _ _ ((readB s).2) ((readR s).2) ((show Strs _ _ _ ((readB s).2) from D28).mono le32) (show Strs _ _ _ ((readR s).2) from D33) (by have := read_le s; omega)) rfl ?_
    refine rl_det (met_none rfl) (fun h_ H_ => exd_pick_t rfl (decide_eq_true (by rw [per_same])) (v := .bool (decide ((readB s).2 = (readR s).2))) rfl) rfl ?_
    refine rl_det (met_none rfl) (fun h_ H_ => exd_move (v := .bool (decide ((readB s).2 = (readR s).2))) rfl) (tm' := [_,_,_,_,_,_,_,_,_,_,_,_,_,_,_,_,_,_,_,_,_,_,_,_,_,_,_,_,_,_,_,_,_,_,_,_,_,_,_,_,_,_,_,_,_,_,_,_,_,_,_,_,_,_,_,_,_,_,_,_,_,_,_]) rfl ?_
    refine rl_det (met_some rfl rfl (decide_eq_true (by rw [read_same]))) (fun h_ H_ => exd_move (v := .int .i64 ((readB s).1)) rfl) rfl ?_
    refine rl_det (met_some rfl rfl (decide_eq_true (by rw [read_same]))) (fun h_ H_ => exd_move (v := .int .i64 ((readR s).1)) rfl) rfl ?_
    refine rl_det (met_some rfl rfl (decide_eq_true (by rw [read_same]))) (fun h_ H_ => exd_eql rfl rfl) (tm' := [_,_,_,_,_,_,_,_,_,_,_,_,_,_,_,_,_,_,_,_,_,_,_,_,_,_,_,_,_,_,_,_,_,_,_,_,_,_,_,_,_,_,_,_,_,_,_,_,_,_,_,_,_,_,_,_,_,_,_,_,_,_,_]) rfl ?_
    refine rl_det (met_none rfl) (fun h_ H_ => exd_pick_t rfl (decide_eq_true (by rw [read_same])) (v := .bool (decide ((readB s).1 = (readR s).1))) rfl) rfl ?_
    refine rl_det (met_none rfl) (fun h_ H_ => exd_move (v := .bool (decide ((readB s).1 = (readR s).1))) rfl) rfl ?_
    refine rl_det (met_some rfl rfl (decide_eq_true (by rw [read_same]))) (fun h_ H_ => exd_move (v := sv s) rfl) (tm' := [_,_,_,_,_,_,_,_,_,_,_,_,_,_,_,_,_,_,_,_,_,_,_,_,_,_,_,_,_,_,_,_,_,_,_,_,_,_,_,_,_,_,_,_,_,_,_,_,_,_,_,_,_,_,_,_,_,_,_,_,_,_,_]) rfl ?_
    refine rl_calld (met_some rfl rfl (decide_eq_true (by rw [read_same]))) (first := []) (cap := []) rfl rfl fC20 (fun h_ H_ => c20 _ (htab.keep H_.kept) s (by omega)) rfl ?_
    refine rl_det (met_some rfl rfl (decide_eq_true (by rw [read_same]))) (fun h_ H_ => exd_move (v := sv s) rfl) rfl ?_
    refine rl_calld (met_some rfl rfl (decide_eq_true (by rw [read_same]))) (first := []) (cap := []) rfl rfl fC40 (fun h_ H_ => c40 .lone _ s (by omega)) (tm' := [_,_,_,_,_,_,_,_,_,_,_,_,_,_,_,_,_,_,_,_,_,_,_,_,_,_,_,_,_,_,_,_,_,_,_,_,_,_,_,_,_,_,_,_,_,_,_,_,_,_,_,_,_,_,_,_,_,_,_,_,_,_,_]) rfl ?_
    refine rl_det (met_some rfl rfl (decide_eq_true (by rw [read_same]))) (fun h_ H_ => exd_eql rfl rfl) rfl ?_
    refine rl_det (met_none rfl) (fun h_ H_ => exd_pick_t rfl (decide_eq_true (by rw [read_same])) (v := .bool (decide (stateB s = stateR s))) rfl) rfl ?_
    refine rl_det (met_none rfl) (fun h_ H_ => exd_move (v := .bool (decide (stateB s = stateR s))) rfl) (tm' := [_,_,_,_,_,_,_,_,_,_,_,_,_,_,_,_,_,_,_,_,_,_,_,_,_,_,_,_,_,_,_,_,_,_,_,_,_,_,_,_,_,_,_,_,_,_,_,_,_,_,_,_,_,_,_,_,_,_,_,_,_,_,_]) rfl ?_
    refine rl_calld (met_some rfl rfl (decide_eq_true (by rw [state_same]))) (first := []) (cap := []) rfl rfl fC16 (fun h_ H_ => c16 _ (htab.keep H_.kept)) rfl ?_
    refine rl_det (met_none rfl) (fun h_ H_ => exd_pick_t rfl (decide_eq_true (by rw [state_same])) (v := .bool (true)) rfl) rfl ?_
    refine rl_det (met_none rfl) (fun h_ H_ => exd_assign (v := .bool (true)) rfl) (tm' := _::_::_::_) rfl ?_
    refine rl_end ?_
    refine fl_retL Tryd.func9 rfl (vs := [.bool (true)]) (fun h_ H_ => ⟨.bool (true), _, rfl, rfl, rfl⟩) (v := .bool (true)) rfl ?_
    exact fun h_ H_ => ⟨rfl, H_.kept⟩
end Go.Proofs.YtiinpnlfdeiloaaDoor
namespace Go.Proofs.YtiinpnlfdeiloaaDoor
open Go.X Go.X.Cent Go.Conc Go.RowKit Go.ChangeShapes Go.WideShapes Go.ChangeAt Go.Joins
set_option maxRecDepth 100000

theorem lifted9 (os : Os) (started : os.Started) (H : Type) (enc : TypeId × Value → H) :
    ReturnsInHanded {} Tryd.checked os 9 .any (fun w args => (Rows.centuryReadsSpec.pre enc Tryd.prog Tryd.f9 Rows.centuryReadsRow.domain false w args ∧ laidMetH Tryd.prog Rows.centuryReadsRow.laid w) ∧ sizedMet enc Tryd.prog Tryd.f9 (OpenSpec.ofChange Rows.centuryReadsSpec) false w args) (Rows.centuryReadsSpec.post enc Tryd.prog Tryd.f9 false true false false) := by
  refine returnsInHanded_of_change_and (C := Tryd.checked) (X := fun w _ => laidMetH Tryd.prog Rows.centuryReadsRow.laid w) (fun _ _ _ hh h => h.of_heap hh) pOwn started (by kernel_rfl) Tryd.func9
    (ChangeSpec.witness_shaped (enc := enc) (C := Tryd.checked) (os := os) (X := fun w _ => laidMetH Tryd.prog Rows.centuryReadsRow.laid w) false (laidW os) #[.string ⟨#[]⟩] 8 (World.laidAll_os _ _ _)
      (World.shaped_of_ZipB (by kernel_rfl) (by kernel_rfl)) (by kernel_rfl) (by kernel_rfl) (by kernel_rfl) (laidW_met os _)) ?_
  intro W base args ds gs before hval0 hW _ _ hL _
  have hval : ∀ (j : Nat) t v, Tryd.f9.params[j]? = some t → args[j]? = some v → Value.okWide Tryd.prog W .any base t v := hval0
  have hW2 := hW
  obtain ⟨p, q, hA0, hV, rfl, _, _⟩ := hW2
  have hA : DataW.TrodAll enc Tryd.prog W 0 (fun _ => true) true Tryd.f9.params.toList args.toList ds p := hA0
  rw [Tryd.params9] at hA hval
  obtain ⟨v0, d0, rfl, rfl, h0⟩ := trodAll_one hA
  obtain ⟨rfl, rfl⟩ := trodVars_none hV
  obtain ⟨s0, rfl⟩ := open_str (hval 0 9 v0 rfl rfl) h0
  refine (calls_of_enters (e9 W.heap (tab_of_laid hL) s0)).mono fun e W2 ⟨v, he, ⟨hv, hk_⟩, cl⟩ => ⟨v, he, ?_⟩
  subst hv
  exact law_post pLaid rfl (fun t ht => by rw [Tryd.params9] at ht; revert t; decide +kernel) rfl Tryd.underlying4 hW rfl (below_of hk_ cl)

theorem centuryReadsRowHolds : Rows.CenturyReadsSaid :=
  OpenClaim.holds_of_wide 9 Tryd.f9 rfl rfl rfl rfl rfl rfl rfl ⟨rfl, rfl, rfl, rfl, rfl⟩ rfl rfl rfl rfl rfl (by kernel_rfl) Tryd.func9 (by kernel_rfl)
    (of_decide_eq_true (by kernel_rfl)) (by unfold Func.isWrapper; first | (rw [if_pos (by decide +kernel)]; kernel_rfl) | (rw [if_neg (by decide +kernel)]; exact ⟨rfl, rfl⟩))
    (fun os started H enc _ => lifted9 os started H enc)

theorem centuryReadsHolds : Rows.CenturyReadsCardSaid :=
  Claim7.holds_tied_plain_at .later [] [.data, .data, .data, .data, .pinned] true (true, "d19a88c3556340bf03c70abcf51311f6c04bc6278884da2732a7a561c1b64cb8") false centuryReadsRowHolds (fun _ h => by cases h) (by kernel_rfl) (fun _ h => by cases h) centuryReads_row_tie rfl ⟨rfl, rfl⟩ (by kernel_rfl) rfl
    (fun f fn hf hfn => by
      obtain rfl : f = 9 := Option.some.inj ((show Tryd.prog.funcNamed "steening/steeninglaw14.CenturyReads" = some 9 by kernel_rfl).symm.trans hf) |>.symm
      obtain rfl : fn = Tryd.f9 := (Option.some.inj (Tryd.func9.symm.trans hfn)).symm
      exact ⟨by kernel_rfl, fun j t ht => by
        rw [Tryd.params9] at ht
        have hm : t ∈ [9] := by simpa using Array.mem_of_getElem? ht
        have hall : ([9].all fun u => !Tryd.prog.wantsStandIn u) = true := by kernel_rfl
        exact (show Tryd.prog.wantsStandIn t = false by simpa using List.all_eq_true.1 hall t hm)⟩)
    (by kernel_rfl)

#print axioms centuryReadsHolds
end Go.Proofs.YtiinpnlfdeiloaaDoor
