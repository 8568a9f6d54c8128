/-
  CenturyBack, for every input: the law returns true and leaves its arguments as they were. The row, and the tied card.
-/
import Derived.Test.YtiinpnlfdeiloaaDoorD2
import Derived.Test.YtiinpnlfdeiloaaDoorD5
import Derived.Test.YtiinpnlfdeiloaaDoorCards
import Derived.Test.YtiinpnlfdeiloaaDoorTie
namespace Go.Proofs.YtiinpnlfdeiloaaDoor
open Go.X Go.X.Cent Go.Conc
set_option maxRecDepth 10000
set_option synthInstance.maxSize 2000
set_option synthInstance.maxHeartbeats 400000

set_option maxHeartbeats 2000000
theorem e3 (h : Heap) (p : PHeap) (hp : Per p h) (htab : Tab h) (a : Option Addr) (n c : Nat) (ts : List By) (T : Strs p a n ts) (hn : n ≤ 9223372036854775807) (s : By) : EntersL Tryd.prog 3 #[.slice a n c, sv s] h fun v h' => v = .bool true ∧ Keep h h' := by
  refine enters_introL (Φ := fun h_ => St h [] p h_ []) Tryd.func3 rfl (tm := [_, _, _, _, _, _, _, _, _, _, _, _, _, _, _, _, _, _, _, _, _, _, _, _, _, _, _, _, _, _, _, _, _, _, _, _, _, _, _, _, _, _, _, _, _, _, _, _, _, _, _, _, _, _, _, _, _, _, _, _, _, _, _, _, _, _, _, _, _, _, _, _, _, _, _, _, _, _, _, _, _, _, _, _, _, _]) rfl ?_ (St.start h _ hp)
  intro cs
  have hl := T.len
  refine fl_seq ?_
  refine rl_start ?_
  refine rl_det (met_none rfl) (fun h_ H_ => exd_assign (v := .bool (false)) rfl) rfl ?_
  refine rl_end ?_
  refine fl_seq ?_
  refine fl_seq ?_
  refine rl_start ?_
  refine rl_det (met_none rfl) (fun h_ H_ => exd_move (v := .slice a n c) rfl) rfl ?_
  refine rl_calld (met_none rfl) (first := []) (cap := []) rfl rfl fC15 (fun h_ H_ => c15 _ _ (fun b_ o_ e_ => H_.per b_ o_ e_) a n _ ts T (by omega)) (tm' := _::_::_::_::_::_::_::_::_::_::_::_::_::_::_::_) rfl ?_
  refine rl_det (met_none rfl) (fun h_ H_ => exd_not rfl) rfl ?_
  refine rl_det (met_none rfl) (fun h_ H_ => exd_move (v := .bool (!(decide (readyT ts)))) rfl) rfl ?_
  by_cases cc1 : readyT ts
  · refine rl_det (met_some rfl rfl (not_f (decide_eq_true cc1))) (fun h_ H_ => exd_move (v := sv s) rfl) (tm' := _::_::_::_::_::_::_::_::_::_::_::_::_::_::_::_::_::_::_) rfl ?_
    refine rl_det (met_some rfl rfl (not_f (decide_eq_true cc1))) (fun h_ H_ => exd_lenS (l := s) Tryd.underlying9 rfl) rfl ?_
    refine rl_det (met_some rfl rfl (not_f (decide_eq_true cc1))) (fun h_ H_ => exd_gtr rfl rfl) rfl ?_
    refine rl_det (met_none rfl) (fun h_ H_ => exd_pick_f rfl (not_f (decide_eq_true cc1)) (v := .bool (decide (2000 < ((s.length : Nat) : Int)))) rfl) (tm' := _::_::_::_::_::_::_::_::_::_::_::_::_::_::_::_::_::_::_::_::_::_) rfl ?_
    refine rl_end ?_
    by_cases cc2 : 2000 < ((s.length : Nat) : Int)
    · refine fl_then rfl (decide_eq_true cc2) ?_
      refine fl_seq ?_
      refine rl_start ?_
      refine rl_calld (met_none rfl) (first := []) (cap := []) rfl rfl fC16 (fun h_ H_ => c16 _ (htab.keep H_.kept)) rfl ?_
      refine rl_det (met_none rfl) (fun h_ H_ => exd_assign (v := .bool (true)) rfl) rfl ?_
      refine rl_end ?_
      refine fl_retL Tryd.func3 rfl (vs := [.bool (true)]) (fun h_ H_ => ⟨.bool (true), _, rfl, rfl, rfl⟩) (v := .bool (true)) rfl ?_
      exact fun h_ H_ => ⟨rfl, H_.kept⟩
    · refine fl_else rfl (decide_eq_false cc2) ?_
      refine fl_skip ?_
      refine fl_seq ?_
      have hrd := ‹readyT ts›
      have hnf := far_facts T hrd.1
      obtain ⟨hn60, ht200, hta⟩ := hnf
      have ht0 : ∀ i, i < n → (ts.getD i []).length ≤ 2 ^ 60 := not_far T hrd.1
      have ht1 : ∀ i, i < ts.length → (ts.getD i []).length ≤ 2 ^ 60 := fun i hi => ht0 i (by omega)
      have hwl : (writeB ts).1.length ≤ 2 ^ 60 := write_len hrd.2
      refine rl_start ?_
      refine rl_det (met_none rfl) (fun h_ H_ => exd_move (v := .slice a n c) rfl) (tm' := _::_::_::_::_::_::_::_::_::_::_::_::_::_::_::_::_::_::_::_::_::_::_::_::_) rfl ?_
      refine rl_calld (met_none rfl) (first := []) (cap := []) rfl rfl fC17 (fun h_ H_ => c17 _ _ (fun b_ o_ e_ => H_.per b_ o_ e_) (htab.keep H_.kept) a n _ ts T (by omega) (by first | exact ht0 | exact ht1 | exact htk)) rfl ?_
      refine rl_det (met_none rfl) (fun h_ H_ => exd_move (v := .tuple #[sv ((writeB ts).1), .bool (decide (wrOk ts))]) rfl) rfl ?_
      refine rl_det (met_none rfl) (fun h_ H_ => exd_extract rfl (v := sv ((writeB ts).1)) rfl) (tm' := _::_::_::_::_::_::_::_::_::_::_::_::_::_::_::_::_::_::_::_::_::_::_::_::_::_::_) rfl ?_
      refine rl_det (met_none rfl) (fun h_ H_ => exd_extract rfl (v := .bool (decide (wrOk ts))) rfl) rfl ?_
      refine rl_det (met_none rfl) (fun h_ H_ => exd_assign (v := sv ((writeB ts).1)) rfl) rfl ?_
      refine rl_det (met_none rfl) (fun h_ H_ => exd_assign (v := .bool (decide (wrOk ts))) rfl) (tm' := _::_::_::_::_::_::_::_) rfl ?_
      refine rl_end ?_
      refine fl_seq ?_
      refine fl_seq ?_
      refine rl_start ?_
      refine rl_det (met_none rfl) (fun h_ H_ => exd_move (v := .bool (decide (wrOk ts))) rfl) rfl ?_
      refine rl_det (met_none rfl) (fun h_ H_ => exd_not rfl) rfl ?_
      refine rl_end ?_
      refine fl_else rfl (not_f (decide_eq_true (wr_ok ‹readyT ts›.2))) ?_
      refine fl_skip ?_
      refine fl_seq ?_
      refine rl_start ?_
      refine rl_det (met_none rfl) (fun h_ H_ => exd_move (v := sv ((writeB ts).1)) rfl) (tm' := _::_::_::_::_::_::_::_::_::_::_::_::_::_::_::_::_::_::_::_::_::_::_::_::_::_::_::_::_::_::_::_) rfl ?_
      refine rl_own (L' := ([] : Pcs) ++ []) rfl ?_
      refine rl_call (met_none rfl) (first := []) (cap := []) rfl rfl fC18 (R := fun v_ h_ => ∃ w3 : Value, ∃ X4 : Pcs, v_ = .tuple #[w3, .int .i64 ((readB ((writeB ts).1)).1)] ∧ (OwnS 9 1 w3 (scs ((readB ((writeB ts).1)).2)) X4) ∧ St h [] p h_ (([] : Pcs) ++ (X4 ++ []))) (fun h_ H_ => (c18 _ (htab.keep H_.kept) ((writeB ts).1) (by first | omega | exact hwl)).mono fun v_ h2_ ⟨w3, X4, e_, o5, N_⟩ => ⟨w3, X4, e_, o5, H_.callNA N_⟩) fun v_ => ?_
      refine rl_ex fun w3 => rl_ex fun X4 => rl_and fun ev_ => rl_and fun o5 => ?_
      have ev_ := ev_.symm; subst ev_
      refine rl_own (L' := ([] : Pcs) ++ (X4 ++ [])) rfl ?_
      refine rl_det (met_none rfl) (fun h_ H_ => exd_move (v := .tuple #[w3, .int .i64 ((readB ((writeB ts).1)).1)]) rfl) rfl ?_
      refine rl_det (met_none rfl) (fun h_ H_ => exd_extract rfl (v := w3) rfl) (tm' := _::_::_::_::_::_::_::_::_::_::_::_::_::_::_::_::_::_::_::_::_::_::_::_::_::_::_::_::_::_::_::_::_::_) rfl ?_
      refine rl_det (met_none rfl) (fun h_ H_ => exd_extract rfl (v := .int .i64 ((readB ((writeB ts).1)).1)) rfl) rfl ?_
      refine rl_det (met_none rfl) (fun h_ H_ => exd_assign (v := w3) rfl) rfl ?_
      refine rl_det (met_none rfl) (fun h_ H_ => exd_assign (v := .int .i64 ((readB ((writeB ts).1)).1)) rfl) (tm' := _::_::_::_::_::_::_::_::_::_) rfl ?_
      refine rl_end ?_
      refine fl_seq ?_
      refine fl_seq ?_
      have hrw := congrArg (fun q : Int × List By => q.2.length) (read_write hrd.2)
      simp only [] at hrw
      refine rl_start ?_
      refine rl_det (met_none rfl) (fun h_ H_ => exd_move (v := .int .i64 ((readB ((writeB ts).1)).1)) rfl) rfl ?_
      refine rl_det (met_none rfl) (fun h_ H_ => exd_neq rfl rfl) rfl ?_
      refine rl_det (met_none rfl) (fun h_ H_ => exd_move (v := .bool (decide ((readB ((writeB ts).1)).1 ≠ 0))) rfl) (tm' := _::_::_::_::_::_::_::_::_::_::_::_::_::_::_::_::_::_::_::_::_::_::_::_::_::_::_::_::_::_::_::_::_::_::_::_::_::_) rfl ?_
      refine rl_det (met_some rfl rfl (decide_eq_false (fun z_ => z_ (by rw [read_write ‹readyT ts›.2])))) (fun h_ H_ => exd_move (v := w3) rfl) rfl ?_
      refine rl_det (met_some rfl rfl (decide_eq_false (fun z_ => z_ (by rw [read_write ‹readyT ts›.2])))) (fun h_ H_ => exd_move (v := .slice a n c) rfl) rfl ?_
      refine rl_lastN (A := ([] : Pcs)) o5 (scs_length _) fun p6 a7 cp8 le9 ev_ D10 => ?_
      subst ev_
      refine rl_own (L' := []) rfl ?_
      refine rl_calld (met_some rfl rfl (decide_eq_false (fun z_ => z_ (by rw [read_write ‹readyT ts›.2])))) (first := []) (cap := []) rfl rfl fC19 (fun h_ H_ => c19 .lone _ _ (fun b_ o_ e_ => H_.per b_ o_ e_) a7 a (((readB ((writeB ts).1)).2).length) n _ _ ((readB ((writeB ts).1)).2) ts (show Strs _ _ _ ((readB ((writeB ts).1)).2) from D10) (T.mono le9) (by omega)) (tm' := _::_::_::_::_::_::_::_::_::_::_::_::_::_::_::_::_::_::_::_::_::_::_::_::_::_::_::_::_::_::_::_::_::_::_::_::_::_::_::_::_) rfl ?_
      refine rl_det (met_some rfl rfl (decide_eq_false (fun z_ => z_ (by rw [read_write ‹readyT ts›.2])))) (fun h_ H_ => exd_not rfl) rfl ?_
      refine rl_det (met_none rfl) (fun h_ H_ => exd_pick_f rfl (decide_eq_false (fun z_ => z_ (by rw [read_write ‹readyT ts›.2]))) (v := .bool (!(decide ((readB ((writeB ts).1)).2 = ts)))) rfl) rfl ?_
      refine rl_det (met_none rfl) (fun h_ H_ => exd_move (v := .bool (!(decide ((readB ((writeB ts).1)).2 = ts)))) rfl) (tm' := _::_::_::_::_::_::_::_::_::_::_::_::_::_::_::_::_::_::_::_::_::_::_::_::_::_::_::_::_::_::_::_::_::_::_::_::_::_::_::_::_::_::_::_) rfl ?_
      refine rl_det (met_some rfl rfl (not_f (decide_eq_true (by rw [read_write ‹readyT ts›.2])))) (fun h_ H_ => exd_move (v := sv ((writeB ts).1)) rfl) rfl ?_
      refine rl_calld (met_some rfl rfl (not_f (decide_eq_true (by rw [read_write ‹readyT ts›.2])))) (first := []) (cap := []) rfl rfl fC20 (fun h_ H_ => c20 _ (htab.keep H_.kept) ((writeB ts).1) (by first | omega | exact hwl)) rfl ?_
      refine rl_det (met_some rfl rfl (not_f (decide_eq_true (by rw [read_write ‹readyT ts›.2])))) (fun h_ H_ => exd_neq rfl rfl) (tm' := _::_::_::_::_::_::_::_::_::_::_::_::_::_::_::_::_::_::_::_::_::_::_::_::_::_::_::_::_::_::_::_::_::_::_::_::_::_::_::_::_::_::_::_::_::_::_) rfl ?_
      refine rl_det (met_none rfl) (fun h_ H_ => exd_pick_f rfl (not_f (decide_eq_true (by rw [read_write ‹readyT ts›.2]))) (v := .bool (decide (stateB ((writeB ts).1) ≠ 1))) rfl) rfl ?_
      refine rl_end ?_
      refine fl_else rfl (decide_eq_false (fun z_ => z_ (state_write ‹readyT ts›.2))) ?_
      refine fl_skip ?_
      refine fl_seq ?_
      refine rl_start ?_
      refine rl_det (met_none rfl) (fun h_ H_ => exd_move (v := sv s) rfl) rfl ?_
      refine rl_own (L' := ([] : Pcs) ++ []) rfl ?_
      refine rl_call (met_none rfl) (first := []) (cap := []) rfl rfl fC18 (R := fun v_ h_ => ∃ w11 : Value, ∃ X12 : Pcs, v_ = .tuple #[w11, .int .i64 ((readB s).1)] ∧ (OwnS 9 1 w11 (scs ((readB s).2)) X12) ∧ St h [] p6 h_ (([] : Pcs) ++ (X12 ++ []))) (fun h_ H_ => (c18 _ (htab.keep H_.kept) s (by first | omega | exact hwl)).mono fun v_ h2_ ⟨w11, X12, e_, o13, N_⟩ => ⟨w11, X12, e_, o13, H_.callNA N_⟩) fun v_ => ?_
      refine rl_ex fun w11 => rl_ex fun X12 => rl_and fun ev_ => rl_and fun o13 => ?_
      have ev_ := ev_.symm; subst ev_
      refine rl_own (L' := ([] : Pcs) ++ (X12 ++ [])) rfl ?_
      refine rl_norm (tm' := _::_::_::_::_::_::_::_::_::_::_::_::_::_::_::_::_::_::_::_::_::_::_::_::_::_::_::_::_::_::_::_::_::_::_::_::_::_::_::_::_::_::_::_::_::_::_::_::_::_::_) rfl ?_
      refine rl_det (met_none rfl) (fun h_ H_ => exd_move (v := .tuple #[w11, .int .i64 ((readB s).1)]) rfl) rfl ?_
      refine rl_det (met_none rfl) (fun h_ H_ => exd_extract rfl (v := w11) rfl) rfl ?_
      refine rl_det (met_none rfl) (fun h_ H_ => exd_extract rfl (v := .int .i64 ((readB s).1)) rfl) (tm' := _::_::_::_::_::_::_::_::_::_::_::_::_::_::_::_::_::_::_::_::_::_::_::_::_::_::_::_::_::_::_::_::_::_::_::_::_::_::_::_::_::_::_::_::_::_::_::_::_::_::_::_::_) rfl ?_
      refine rl_det (met_none rfl) (fun h_ H_ => exd_assign (v := w11) rfl) rfl ?_
      refine rl_det (met_none rfl) (fun h_ H_ => exd_assign (v := .int .i64 ((readB s).1)) rfl) rfl ?_
      refine rl_end ?_
      refine fl_seq ?_
      refine fl_seq ?_
      refine rl_start ?_
      refine rl_det (met_none rfl) (fun h_ H_ => exd_move (v := .int .i64 ((readB s).1)) rfl) (tm' := _::_::_::_::_::_::_::_::_::_::_::_::_::_::_::_::_::_::_::_::_::_::_::_::_::_::_::_::_::_::_::_::_::_::_::_::_::_::_::_::_::_::_::_::_::_::_::_::_::_::_::_::_::_) rfl ?_
      refine rl_det (met_none rfl) (fun h_ H_ => exd_neq rfl rfl) rfl ?_
      refine rl_end ?_
      by_cases cc14 : (readB s).1 ≠ 0
      · refine fl_then rfl (decide_eq_true cc14) ?_
        refine fl_seq ?_
        refine rl_start ?_
        refine rl_det (met_none rfl) (fun h_ H_ => exd_move (v := sv s) rfl) rfl ?_
        refine rl_calld (met_none rfl) (first := []) (cap := []) rfl rfl fC21 (fun h_ H_ => c21 _ (htab.keep H_.kept) s (by first | omega | exact hwl)) (tm' := _::_::_::_::_::_::_::_::_::_::_::_::_::_::_::_::_::_::_::_::_::_::_::_::_::_::_::_::_::_::_::_::_::_::_::_::_::_::_::_::_::_::_::_::_::_::_::_::_::_::_::_::_::_::_::_::_) rfl ?_
        refine rl_det (met_none rfl) (fun h_ H_ => exd_move (v := .bool (decide ((readB s).1 ≠ 0))) rfl) rfl ?_
        refine rl_calld (met_some rfl rfl (decide_eq_true cc14)) (first := []) (cap := []) rfl rfl fC16 (fun h_ H_ => c16 _ (htab.keep H_.kept)) rfl ?_
        refine rl_det (met_none rfl) (fun h_ H_ => exd_pick_t rfl (decide_eq_true cc14) (v := .bool (true)) rfl) (tm' := [_,_,_,_,_,_,_,_,_,_,_,_,_,_,_,_,_,_,_,_,_,_,_,_,_,_,_,_,_,_,_,_,_,_,_,_,_,_,_,_,_,_,_,_,_,_,_,_,_,_,_,_,_,_,_,_,_,_,_,_,_,_,_,_,_,_,_,_,_,_,_,_,_,_,_,_,_,_,_,_,_,_,_,_,_,_]) rfl ?_
        refine rl_det (met_none rfl) (fun h_ H_ => exd_assign (v := .bool (true)) rfl) rfl ?_
        refine rl_end ?_
        refine fl_retL Tryd.func3 rfl (vs := [.bool (true)]) (fun h_ H_ => ⟨.bool (true), _, rfl, rfl, rfl⟩) (v := .bool (true)) rfl ?_
        exact fun h_ H_ => ⟨rfl, H_.kept⟩
      · refine fl_else rfl (decide_eq_false cc14) ?_
        refine fl_skip ?_
        refine fl_seq ?_
        have h00 : (readB s).1 = 0 := Decidable.not_not.1 ‹¬ (readB s).1 ≠ 0›
        have h0 := read_is h00
        have hrg := read_good h00
        have hrl := hrg.1
        have htk : ∀ i, i < (readB s).2.length → ((readB s).2.getD i []).length ≤ 2 ^ 60 := fun i hi => by have z_ := (hrg.2 _ (gmem (d := []) hi)).1; omega
        refine rl_start ?_
        refine rl_det (met_none rfl) (fun h_ H_ => exd_move (v := w11) rfl) rfl ?_
        refine rl_lastN (A := ([] : Pcs)) o13 (scs_length _) fun p15 a16 cp17 le18 ev_ D19 => ?_
        subst ev_
        refine rl_own (L' := []) rfl ?_
        refine rl_calld (met_none rfl) (first := []) (cap := []) rfl rfl fC17 (fun h_ H_ => c17 _ _ (fun b_ o_ e_ => H_.per b_ o_ e_) (htab.keep H_.kept) a16 (((readB s).2).length) _ ((readB s).2) (show Strs _ _ _ ((readB s).2) from D19) (by omega) (by first | exact ht0 | exact ht1 | exact htk)) (tm' := [_,_,_,_,_,_,_,_,_,_,_,_,_,_,_,_,_,_,_,_,_,_,_,_,_,_,_,_,_,_,_,_,_,_,_,_,_,_,_,_,_,_,_,_,_,_,_,_,_,_,_,_,_,_,_,_,_,_,_,_,_,_,_,_,_,_,_,_,_,_,_,_,_,_,_,_,_,_,_,_,_,_,_,_,_,_]) rfl ?_
        refine rl_det (met_none rfl) (fun h_ H_ => exd_move (v := .tuple #[sv ((writeB ((readB s).2)).1), .bool (decide (wrOk ((readB s).2)))]) rfl) rfl ?_
        refine rl_det (met_none rfl) (fun h_ H_ => exd_extract rfl (v := sv ((writeB ((readB s).2)).1)) rfl) rfl ?_
        refine rl_det (met_none rfl) (fun h_ H_ => exd_extract rfl (v := .bool (decide (wrOk ((readB s).2)))) rfl) (tm' := [_,_,_,_,_,_,_,_,_,_,_,_,_,_,_,_,_,_,_,_,_,_,_,_,_,_,_,_,_,_,_,_,_,_,_,_,_,_,_,_,_,_,_,_,_,_,_,_,_,_,_,_,_,_,_,_,_,_,_,_,_,_,_,_,_,_,_,_,_,_,_,_,_,_,_,_,_,_,_,_,_,_,_,_,_,_]) rfl ?_
        refine rl_det (met_none rfl) (fun h_ H_ => exd_assign (v := sv ((writeB ((readB s).2)).1)) rfl) rfl ?_
        refine rl_det (met_none rfl) (fun h_ H_ => exd_assign (v := .bool (decide (wrOk ((readB s).2)))) rfl) rfl ?_
        refine rl_end ?_
        refine fl_seq ?_
        refine rl_start ?_
        refine rl_det (met_none rfl) (fun h_ H_ => exd_move (v := .slice a16 (((readB s).2).length) cp17) rfl) (tm' := [_,_,_,_,_,_,_,_,_,_,_,_,_,_,_,_,_,_,_,_,_,_,_,_,_,_,_,_,_,_,_,_,_,_,_,_,_,_,_,_,_,_,_,_,_,_,_,_,_,_,_,_,_,_,_,_,_,_,_,_,_,_,_,_,_,_,_,_,_,_,_,_,_,_,_,_,_,_,_,_,_,_,_,_,_,_]) rfl ?_
        refine rl_calld (met_none rfl) (first := []) (cap := []) rfl rfl fC15 (fun h_ H_ => c15 _ _ (fun b_ o_ e_ => H_.per b_ o_ e_) a16 (((readB s).2).length) _ ((readB s).2) (show Strs _ _ _ ((readB s).2) from D19) (by omega)) rfl ?_
        refine rl_det (met_none rfl) (fun h_ H_ => exd_move (v := .bool (decide (readyT ((readB s).2)))) rfl) rfl ?_
        refine rl_det (met_some rfl rfl (decide_eq_true (ready_read h00))) (fun h_ H_ => exd_move (v := .bool (decide (wrOk ((readB s).2)))) rfl) (tm' := [_,_,_,_,_,_,_,_,_,_,_,_,_,_,_,_,_,_,_,_,_,_,_,_,_,_,_,_,_,_,_,_,_,_,_,_,_,_,_,_,_,_,_,_,_,_,_,_,_,_,_,_,_,_,_,_,_,_,_,_,_,_,_,_,_,_,_,_,_,_,_,_,_,_,_,_,_,_,_,_,_,_,_,_,_,_]) rfl ?_
        refine rl_det (met_none rfl) (fun h_ H_ => exd_pick_t rfl (decide_eq_true (ready_read h00)) (v := .bool (decide (wrOk ((readB s).2)))) rfl) rfl ?_
        refine rl_det (met_none rfl) (fun h_ H_ => exd_move (v := .bool (decide (wrOk ((readB s).2)))) rfl) rfl ?_
        refine rl_det (met_some rfl rfl (decide_eq_true (wr_ok h0.2))) (fun h_ H_ => exd_move (v := sv ((writeB ((readB s).2)).1)) rfl) (tm' := [_,_,_,_,_,_,_,_,_,_,_,_,_,_,_,_,_,_,_,_,_,_,_,_,_,_,_,_,_,_,_,_,_,_,_,_,_,_,_,_,_,_,_,_,_,_,_,_,_,_,_,_,_,_,_,_,_,_,_,_,_,_,_,_,_,_,_,_,_,_,_,_,_,_,_,_,_,_,_,_,_,_,_,_,_,_]) rfl ?_
        refine rl_det (met_some rfl rfl (decide_eq_true (wr_ok h0.2))) (fun h_ H_ => exd_move (v := sv s) rfl) rfl ?_
        refine rl_det (met_some rfl rfl (decide_eq_true (wr_ok h0.2))) (fun h_ H_ => exd_eqlS (l := (writeB ((readB s).2)).1) (m := s) rfl rfl) rfl ?_
        refine rl_det (met_none rfl) (fun h_ H_ => exd_pick_t rfl (decide_eq_true (wr_ok h0.2)) (v := .bool (decide ((writeB ((readB s).2)).1 = s))) rfl) (tm' := [_,_,_,_,_,_,_,_,_,_,_,_,_,_,_,_,_,_,_,_,_,_,_,_,_,_,_,_,_,_,_,_,_,_,_,_,_,_,_,_,_,_,_,_,_,_,_,_,_,_,_,_,_,_,_,_,_,_,_,_,_,_,_,_,_,_,_,_,_,_,_,_,_,_,_,_,_,_,_,_,_,_,_,_,_,_]) rfl ?_
        refine rl_det (met_none rfl) (fun h_ H_ => exd_move (v := .bool (decide ((writeB ((readB s).2)).1 = s))) rfl) rfl ?_
        refine rl_det (met_some rfl rfl (decide_eq_true (by rw [write_good h0.2]; exact h0.1))) (fun h_ H_ => exd_move (v := .slice a16 (((readB s).2).length) cp17) rfl) rfl ?_
        refine rl_det (met_some rfl rfl (decide_eq_true (by rw [write_good h0.2]; exact h0.1))) (fun h_ H_ => exd_move (v := .slice a n c) rfl) (tm' := [_,_,_,_,_,_,_,_,_,_,_,_,_,_,_,_,_,_,_,_,_,_,_,_,_,_,_,_,_,_,_,_,_,_,_,_,_,_,_,_,_,_,_,_,_,_,_,_,_,_,_,_,_,_,_,_,_,_,_,_,_,_,_,_,_,_,_,_,_,_,_,_,_,_,_,_,_,_,_,_,_,_,_,_,_,_]) rfl ?_
        refine rl_calld (met_some rfl rfl (decide_eq_true (by rw [write_good h0.2]; exact h0.1))) (first := []) (cap := []) rfl rfl fC19 (fun h_ H_ => c19 .lone _ _ (fun b_ o_ e_ => H_.per b_ o_ e_) a16 a (((readB s).2).length) n _ _ ((readB s).2) ts (show Strs _ _ _ ((readB s).2) from D19) ((T.mono le9).mono le18) (by omega)) rfl ?_
        refine rl_det (met_some rfl rfl (decide_eq_true (by rw [write_good h0.2]; exact h0.1))) (fun h_ H_ => exd_move (v := sv ((writeB ts).1)) rfl) rfl ?_
        refine rl_det (met_some rfl rfl (decide_eq_true (by rw [write_good h0.2]; exact h0.1))) (fun h_ H_ => exd_move (v := sv s) rfl) (tm' := [_,_,_,_,_,_,_,_,_,_,_,_,_,_,_,_,_,_,_,_,_,_,_,_,_,_,_,_,_,_,_,_,_,_,_,_,_,_,_,_,_,_,_,_,_,_,_,_,_,_,_,_,_,_,_,_,_,_,_,_,_,_,_,_,_,_,_,_,_,_,_,_,_,_,_,_,_,_,_,_,_,_,_,_,_,_]) rfl ?_
        refine rl_det (met_some rfl rfl (decide_eq_true (by rw [write_good h0.2]; exact h0.1))) (fun h_ H_ => exd_eqlS (l := (writeB ts).1) (m := s) rfl rfl) rfl ?_
        refine rl_det (met_some rfl rfl (decide_eq_true (by rw [write_good h0.2]; exact h0.1))) (fun h_ H_ => exd_eqlP (p := (readB s).2 = ts) (q := (writeB ts).1 = s) Tryd.underlying4 rfl rfl) rfl ?_
        refine rl_det (met_none rfl) (fun h_ H_ => exd_pick_t rfl (decide_eq_true (by rw [write_good h0.2]; exact h0.1)) (v := .bool (decide (((readB s).2 = ts) ↔ ((writeB ts).1 = s)))) rfl) (tm' := [_,_,_,_,_,_,_,_,_,_,_,_,_,_,_,_,_,_,_,_,_,_,_,_,_,_,_,_,_,_,_,_,_,_,_,_,_,_,_,_,_,_,_,_,_,_,_,_,_,_,_,_,_,_,_,_,_,_,_,_,_,_,_,_,_,_,_,_,_,_,_,_,_,_,_,_,_,_,_,_,_,_,_,_,_,_]) rfl ?_
        refine rl_det (met_none rfl) (fun h_ H_ => exd_move (v := .bool (decide (((readB s).2 = ts) ↔ ((writeB ts).1 = s)))) rfl) rfl ?_
        refine rl_calld (met_some rfl rfl (decide_eq_true (back_iff ‹readyT ts›.2 h00))) (first := []) (cap := []) rfl rfl fC16 (fun h_ H_ => c16 _ (htab.keep H_.kept)) rfl ?_
        refine rl_det (met_none rfl) (fun h_ H_ => exd_pick_t rfl (decide_eq_true (back_iff ‹readyT ts›.2 h00)) (v := .bool (true)) rfl) (tm' := [_,_,_,_,_,_,_,_,_,_,_,_,_,_,_,_,_,_,_,_,_,_,_,_,_,_,_,_,_,_,_,_,_,_,_,_,_,_,_,_,_,_,_,_,_,_,_,_,_,_,_,_,_,_,_,_,_,_,_,_,_,_,_,_,_,_,_,_,_,_,_,_,_,_,_,_,_,_,_,_,_,_,_,_,_,_]) rfl ?_
        refine rl_det (met_none rfl) (fun h_ H_ => exd_assign (v := .bool (true)) rfl) rfl ?_
        refine rl_end ?_
        refine fl_retL Tryd.func3 rfl (vs := [.bool (true)]) (fun h_ H_ => ⟨.bool (true), _, rfl, rfl, rfl⟩) (v := .bool (true)) rfl ?_
        exact fun h_ H_ => ⟨rfl, H_.kept⟩
  · refine rl_pass (met_not rfl rfl (not_t (decide_eq_false cc1))) rfl ?_
    refine rl_pass (met_not rfl rfl (not_t (decide_eq_false cc1))) (tm' := _::_::_::_::_::_::_::_::_::_::_::_::_::_::_::_::_::_::_::_) rfl ?_
    refine rl_pass (met_not rfl rfl (not_t (decide_eq_false cc1))) rfl ?_
    refine rl_det (met_none rfl) (fun h_ H_ => exd_pick_t rfl (not_t (decide_eq_false cc1)) (v := .bool (true)) rfl) rfl ?_
    refine rl_end ?_
    refine fl_then rfl rfl ?_
    refine fl_seq ?_
    refine rl_start ?_
    refine rl_calld (met_none rfl) (first := []) (cap := []) rfl rfl fC16 (fun h_ H_ => c16 _ (htab.keep H_.kept)) (tm' := _::_::_::_::_::_::_::_::_::_::_::_::_::_::_::_::_::_::_::_::_::_::_) rfl ?_
    refine rl_det (met_none rfl) (fun h_ H_ => exd_assign (v := .bool (true)) rfl) rfl ?_
    refine rl_end ?_
    refine fl_retL Tryd.func3 rfl (vs := [.bool (true)]) (fun h_ H_ => ⟨.bool (true), _, rfl, rfl, rfl⟩) (v := .bool (true)) rfl ?_
    exact fun h_ H_ => ⟨rfl, H_.kept⟩
end Go.Proofs.YtiinpnlfdeiloaaDoor
namespace Go.Proofs.YtiinpnlfdeiloaaDoor
open Go.X Go.X.Cent Go.Conc Go.RowKit Go.ChangeShapes Go.WideShapes Go.ChangeAt Go.Joins
set_option maxRecDepth 100000

theorem lifted3 (os : Os) (started : os.Started) (H : Type) (enc : TypeId × Value → H) :
    ReturnsInHanded {} Tryd.checked os 3 .any (fun w args => (Rows.centuryBackSpec.pre enc Tryd.prog Tryd.f3 Rows.centuryBackRow.domain false w args ∧ laidMetH Tryd.prog Rows.centuryBackRow.laid w) ∧ sizedMet enc Tryd.prog Tryd.f3 (OpenSpec.ofChange Rows.centuryBackSpec) false w args) (Rows.centuryBackSpec.post enc Tryd.prog Tryd.f3 false true false false) := by
  refine returnsInHanded_of_change_and (C := Tryd.checked) (X := fun w _ => laidMetH Tryd.prog Rows.centuryBackRow.laid w) (fun _ _ _ hh h => h.of_heap hh) pOwn started (by kernel_rfl) Tryd.func3
    (ChangeSpec.witness_shaped (enc := enc) (C := Tryd.checked) (os := os) (X := fun w _ => laidMetH Tryd.prog Rows.centuryBackRow.laid w) false (laidW os) #[.slice none 0 0, .string ⟨#[]⟩] 8 (World.laidAll_os _ _ _)
      (World.shaped_of_ZipB (by kernel_rfl) (by kernel_rfl)) (by kernel_rfl) (by kernel_rfl) (by kernel_rfl) (laidW_met os _)) ?_
  intro W base args ds gs before hval0 hW _ _ hL _
  have hval : ∀ (j : Nat) t v, Tryd.f3.params[j]? = some t → args[j]? = some v → Value.okWide Tryd.prog W .any base t v := hval0
  have hW2 := hW
  obtain ⟨p, q, hA0, hV, rfl, _, _⟩ := hW2
  have hA : DataW.TrodAll enc Tryd.prog W 0 (fun _ => true) true Tryd.f3.params.toList args.toList ds p := hA0
  rw [Tryd.params3] at hA hval
  obtain ⟨v0, v1, d0, d1, p0, p1, rfl, rfl, _, h0, h1⟩ := trodAll_two hA
  obtain ⟨rfl, rfl⟩ := trodVars_none hV
  obtain ⟨a, n, c, ts, rfl, hn, T⟩ := open_texts (hval 0 22 v0 rfl rfl) h0
  obtain ⟨s1, rfl⟩ := open_str (hval 1 9 v1 rfl rfl) h1
  refine (calls_of_enters (e3 W.heap (pW W) (pW_per W) (tab_of_laid hL) a n c ts T hn s1)).mono fun e W2 ⟨v, he, ⟨hv, hk_⟩, cl⟩ => ⟨v, he, ?_⟩
  subst hv
  exact law_post pLaid rfl (fun t ht => by rw [Tryd.params3] at ht; revert t; decide +kernel) rfl Tryd.underlying4 hW rfl (below_of hk_ cl)

theorem centuryBackRowHolds : Rows.CenturyBackSaid :=
  OpenClaim.holds_of_wide 3 Tryd.f3 rfl rfl rfl rfl rfl rfl rfl ⟨rfl, rfl, rfl, rfl, rfl⟩ rfl rfl rfl rfl rfl (by kernel_rfl) Tryd.func3 (by kernel_rfl)
    (of_decide_eq_true (by kernel_rfl)) (by unfold Func.isWrapper; first | (rw [if_pos (by decide +kernel)]; kernel_rfl) | (rw [if_neg (by decide +kernel)]; exact ⟨rfl, rfl⟩))
    (fun os started H enc _ => lifted3 os started H enc)

theorem centuryBackHolds : Rows.CenturyBackCardSaid :=
  Claim7.holds_tied_plain_at .later [] [.data, .data, .data, .data, .pinned] true (true, "d19a88c3556340bf03c70abcf51311f6c04bc6278884da2732a7a561c1b64cb8") false centuryBackRowHolds (fun _ h => by cases h) (by kernel_rfl) (fun _ h => by cases h) centuryBack_row_tie rfl ⟨rfl, rfl⟩ (by kernel_rfl) rfl
    (fun f fn hf hfn => by
      obtain rfl : f = 3 := Option.some.inj ((show Tryd.prog.funcNamed "steening/steeninglaw14.CenturyBack" = some 3 by kernel_rfl).symm.trans hf) |>.symm
      obtain rfl : fn = Tryd.f3 := (Option.some.inj (Tryd.func3.symm.trans hfn)).symm
      exact ⟨by kernel_rfl, fun j t ht => by
        rw [Tryd.params3] at ht
        have hm : t ∈ [22, 9] := by simpa using Array.mem_of_getElem? ht
        have hall : ([22, 9].all fun u => !Tryd.prog.wantsStandIn u) = true := by kernel_rfl
        exact (show Tryd.prog.wantsStandIn t = false by simpa using List.all_eq_true.1 hall t hm)⟩)
    (by kernel_rfl)

#print axioms centuryBackHolds
end Go.Proofs.YtiinpnlfdeiloaaDoor
