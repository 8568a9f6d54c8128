/-
  CenturyBegins, for every input: the law returns true and leaves its arguments as they were. The row, and the tied card.
-/
import Derived.Test.YtiinpnlfdeiloaaDoorD2
import Derived.Test.YtiinpnlfdeiloaaDoorD4
import Derived.Test.YtiinpnlfdeiloaaDoorCards
import Derived.Test.YtiinpnlfdeiloaaDoorTie
namespace Go.Proofs.YtiinpnlfdeiloaaDoor
open Go.X Go.X.Cent Go.Conc
set_option maxRecDepth 10000
set_option synthInstance.maxSize 2000
set_option synthInstance.maxHeartbeats 400000

set_option maxHeartbeats 2000000
theorem e10 (h : Heap) (p : PHeap) (hp : Per p h) (htab : Tab h) (a : Option Addr) (n c : Nat) (ts : List By) (T : Strs p a n ts) (hn : n ≤ 9223372036854775807) (hc : n ≤ c) (m : Int) (hm : -9223372036854775808 ≤ m ∧ m ≤ 9223372036854775807) : EntersL Tryd.prog 10 #[.slice a n c, .int .i64 (m)] h fun v h' => v = .bool true ∧ Keep h h' := by
  refine enters_introL (Φ := fun h_ => St h [] p h_ []) Tryd.func10 rfl (tm := [_, _, _, _, _, _, _, _, _, _, _, _, _, _, _, _, _, _, _, _, _, _, _, _, _, _, _, _, _, _, _, _, _, _, _, _, _, _, _, _, _, _, _, _, _, _, _, _, _, _, _, _, _, _, _, _, _, _, _, _, _, _, _, _, _, _, _, _, _, _, _, _, _, _, _, _, _, _, _, _, _, _, _, _, _, _, _, _, _, _, _, _, _, _, _, _, _, _, _, _, _, _]) rfl ?_ (St.start h _ hp)
  intro cs
  have hl := T.len
  refine fl_seq ?_
  refine rl_start ?_
  refine rl_det (met_none rfl) (fun h_ H_ => exd_assign (v := .bool (false)) rfl) rfl ?_
  refine rl_end ?_
  refine fl_seq ?_
  refine fl_seq ?_
  refine rl_start ?_
  refine rl_det (met_none rfl) (fun h_ H_ => exd_move (v := .slice a n c) rfl) rfl ?_
  refine rl_calld (met_none rfl) (first := []) (cap := []) rfl rfl fC15 (fun h_ H_ => c15 _ _ (fun b_ o_ e_ => H_.per b_ o_ e_) a n _ ts T (by omega)) (tm' := _::_::_::_::_::_::_::_::_::_::_::_::_) rfl ?_
  refine rl_det (met_none rfl) (fun h_ H_ => exd_not rfl) rfl ?_
  refine rl_det (met_none rfl) (fun h_ H_ => exd_move (v := .bool (!(decide (readyT ts)))) rfl) rfl ?_
  by_cases cc1 : readyT ts
  · refine rl_det (met_some rfl rfl (not_f (decide_eq_true cc1))) (fun h_ H_ => exd_move (v := .int .i64 (m)) rfl) (tm' := _::_::_::_::_::_::_::_::_::_::_::_::_::_::_::_) rfl ?_
    refine rl_det (met_some rfl rfl (not_f (decide_eq_true cc1))) (fun h_ H_ => exd_move (v := .slice a n c) rfl) rfl ?_
    refine rl_det (met_some rfl rfl (not_f (decide_eq_true cc1))) (fun h_ H_ => exd_len Tryd.underlying22 rfl) rfl ?_
    refine rl_calld (met_some rfl rfl (not_f (decide_eq_true cc1))) (first := []) (cap := []) rfl rfl fC22 (fun h_ H_ => c22 .lone _ (m) (0) (((n : Nat) : Int))) (tm' := _::_::_::_::_::_::_::_::_::_::_::_::_::_::_::_::_::_::_) rfl ?_
    refine rl_det (met_some rfl rfl (not_f (decide_eq_true cc1))) (fun h_ H_ => exd_not rfl) rfl ?_
    refine rl_det (met_none rfl) (fun h_ H_ => exd_pick_f rfl (not_f (decide_eq_true cc1)) (v := .bool (!(decide (0 ≤ m ∧ m ≤ ((n : Nat) : Int))))) rfl) rfl ?_
    refine rl_end ?_
    by_cases cc2 : 0 ≤ m ∧ m ≤ ((n : Nat) : Int)
    · refine fl_else rfl (not_f (decide_eq_true cc2)) ?_
      refine fl_skip ?_
      refine fl_seq ?_
      have hrd := ‹readyT ts›
      have hnf := far_facts T hrd.1
      obtain ⟨hn60, ht200, hta⟩ := hnf
      have ht0 : ∀ i, i < n → (ts.getD i []).length ≤ 2 ^ 60 := not_far T hrd.1
      have ht1 : ∀ i, i < ts.length → (ts.getD i []).length ≤ 2 ^ 60 := fun i hi => ht0 i (by omega)
      have hwl : (writeB ts).1.length ≤ 2 ^ 60 := write_len hrd.2
      have h20 := (chk_good hrd.2).1
      have hw200 := ht200
      have hm0 : 0 ≤ m ∧ m ≤ ((n : Nat) : Int) := by assumption
      have hck := chk_take hrd.2 ((((n : Nat) : Int) - m).toNat)
      have B := beg_of hrd.2 ((((n : Nat) : Int) - m).toNat)
      have htk : ∀ i, i < (((n : Nat) : Int) - m).toNat → ((ts.take ((((n : Nat) : Int) - m).toNat)).getD i []).length ≤ 2 ^ 60 := fun i hi => by have z_ := ((chk_good hck).2 _ (gmem (d := []) (show i < (ts.take ((((n : Nat) : Int) - m).toNat)).length by rw [List.length_take]; omega))).1; omega
      refine rl_start ?_
      refine rl_det (met_none rfl) (fun h_ H_ => exd_move (v := .slice a n c) rfl) (tm' := _::_::_::_::_::_::_::_::_::_::_::_::_::_::_::_::_::_::_::_::_::_::_::_) rfl ?_
      refine rl_own (L' := ([] : Pcs) ++ []) rfl ?_
      refine rl_call (met_none rfl) (first := []) (cap := []) rfl rfl fC41 (R := fun v_ h_ => ∃ w3 : Value, ∃ X4 : Pcs, v_ = .tuple #[w3, .bool (decide (chkT ts = 0))] ∧ (OwnS 9 1 w3 (scs (pcB ts)) X4) ∧ St h [] p h_ (([] : Pcs) ++ (X4 ++ []))) (fun h_ H_ => (c41 _ _ (fun b_ o_ e_ => H_.per b_ o_ e_) a n _ ts T (by omega) (by first | exact ht0 | exact ht1 | exact htk)).mono fun v_ h2_ ⟨w3, X4, e_, o5, N_⟩ => ⟨w3, X4, e_, o5, H_.callNA N_⟩) fun v_ => ?_
      refine rl_ex fun w3 => rl_ex fun X4 => rl_and fun ev_ => rl_and fun o5 => ?_
      have ev_ := ev_.symm; subst ev_
      refine rl_own (L' := ([] : Pcs) ++ (X4 ++ [])) rfl ?_
      refine rl_det (met_none rfl) (fun h_ H_ => exd_move (v := .tuple #[w3, .bool (decide (chkT ts = 0))]) rfl) rfl ?_
      refine rl_det (met_none rfl) (fun h_ H_ => exd_extract rfl (v := w3) rfl) (tm' := _::_::_::_::_::_::_::_::_::_::_::_::_::_::_::_::_::_::_::_::_::_::_::_::_::_) rfl ?_
      refine rl_det (met_none rfl) (fun h_ H_ => exd_extract rfl (v := .bool (decide (chkT ts = 0))) rfl) rfl ?_
      refine rl_det (met_none rfl) (fun h_ H_ => exd_assign (v := w3) rfl) rfl ?_
      refine rl_det (met_none rfl) (fun h_ H_ => exd_assign (v := .bool (decide (chkT ts = 0))) rfl) (tm' := _::_::_::_::_::_::_::_) rfl ?_
      refine rl_end ?_
      refine fl_seq ?_
      refine rl_start ?_
      refine rl_det (met_none rfl) (fun h_ H_ => exd_move (v := .slice a n c) rfl) rfl ?_
      refine rl_det (met_none rfl) (fun h_ H_ => exd_move (v := .slice a n c) rfl) rfl ?_
      refine rl_det (met_none rfl) (fun h_ H_ => exd_len Tryd.underlying22 rfl) (tm' := _::_::_::_::_::_::_::_::_::_::_::_::_::_::_::_::_::_::_::_::_::_::_::_::_::_::_::_::_::_::_) rfl ?_
      refine rl_det (met_none rfl) (fun h_ H_ => exd_move (v := .int .i64 (m)) rfl) rfl ?_
      refine rl_det (met_none rfl) (fun h_ H_ => exd_sub rfl rfl (wr (by omega))) rfl ?_
      refine rl_det (met_none rfl) (fun h_ H_ => exd_slice Tryd.underlying22 tS9 rfl (.none _) (.some _ rfl (by omega)) (by omega) (by omega)) (tm' := _::_::_::_::_::_::_::_::_::_::_::_::_::_::_::_::_::_::_::_::_::_::_::_::_::_::_::_::_::_::_::_::_::_) rfl ?_
      refine rl_call (met_none rfl) (first := []) (cap := []) rfl rfl fC41 (R := fun v_ h_ => ∃ w6 : Value, ∃ X7 : Pcs, v_ = .tuple #[w6, .bool (decide (chkT (ts.take (((((n : Nat) : Int) - m)).toNat)) = 0))] ∧ (OwnS 9 1 w6 (scs (pcB (ts.take (((((n : Nat) : Int) - m)).toNat)))) X7) ∧ St h [] p h_ (([] : Pcs) ++ (X7 ++ (X4 ++ [])))) (fun h_ H_ => (c41 _ _ (fun b_ o_ e_ => H_.per b_ o_ e_) (cutA a c 0 1) (((((n : Nat) : Int) - m)).toNat) _ (ts.take (((((n : Nat) : Int) - m)).toNat)) (Strs.pre T (by omega) (by omega)) (by omega) (by first | exact ht0 | exact ht1 | exact htk)).mono fun v_ h2_ ⟨w6, X7, e_, o8, N_⟩ => ⟨w6, X7, e_, o8, H_.callNA N_⟩) fun v_ => ?_
      refine rl_ex fun w6 => rl_ex fun X7 => rl_and fun ev_ => rl_and fun o8 => ?_
      have ev_ := ev_.symm; subst ev_
      refine rl_own (L' := ([] : Pcs) ++ (X7 ++ (X4 ++ []))) rfl ?_
      refine rl_det (met_none rfl) (fun h_ H_ => exd_move (v := .tuple #[w6, .bool (decide (chkT (ts.take (((((n : Nat) : Int) - m)).toNat)) = 0))]) rfl) rfl ?_
      refine rl_det (met_none rfl) (fun h_ H_ => exd_extract rfl (v := w6) rfl) (tm' := _::_::_::_::_::_::_::_::_::_::_::_::_::_::_::_::_::_::_::_::_::_::_::_::_::_::_::_::_::_::_::_::_::_::_::_) rfl ?_
      refine rl_det (met_none rfl) (fun h_ H_ => exd_extract rfl (v := .bool (decide (chkT (ts.take (((((n : Nat) : Int) - m)).toNat)) = 0))) rfl) rfl ?_
      refine rl_det (met_none rfl) (fun h_ H_ => exd_assign (v := w6) rfl) rfl ?_
      refine rl_det (met_none rfl) (fun h_ H_ => exd_assign (v := .bool (decide (chkT (ts.take (((((n : Nat) : Int) - m)).toNat)) = 0))) rfl) (tm' := _::_::_::_::_::_::_::_::_::_) rfl ?_
      refine rl_end ?_
      refine fl_seq ?_
      refine fl_seq ?_
      refine rl_start ?_
      refine rl_det (met_none rfl) (fun h_ H_ => exd_move (v := .bool (decide (chkT ts = 0))) rfl) rfl ?_
      refine rl_det (met_none rfl) (fun h_ H_ => exd_not rfl) rfl ?_
      refine rl_det (met_none rfl) (fun h_ H_ => exd_move (v := .bool (!(decide (chkT ts = 0)))) rfl) (tm' := _::_::_::_::_::_::_::_::_::_::_::_::_::_::_::_::_::_::_::_::_::_::_::_::_::_::_::_::_::_::_::_::_::_::_::_::_::_::_::_) rfl ?_
      refine rl_det (met_some rfl rfl (not_f (decide_eq_true hrd.2))) (fun h_ H_ => exd_move (v := .bool (decide (chkT (ts.take (((((n : Nat) : Int) - m)).toNat)) = 0))) rfl) rfl ?_
      refine rl_det (met_some rfl rfl (not_f (decide_eq_true hrd.2))) (fun h_ H_ => exd_not rfl) rfl ?_
      refine rl_det (met_none rfl) (fun h_ H_ => exd_pick_f rfl (not_f (decide_eq_true hrd.2)) (v := .bool (!(decide (chkT (ts.take (((((n : Nat) : Int) - m)).toNat)) = 0)))) rfl) (tm' := _::_::_::_::_::_::_::_::_::_::_::_::_::_::_::_::_::_::_::_::_::_::_::_::_::_::_::_::_::_::_::_::_::_::_::_::_::_::_::_::_::_::_) rfl ?_
      refine rl_det (met_none rfl) (fun h_ H_ => exd_move (v := .bool (!(decide (chkT (ts.take (((((n : Nat) : Int) - m)).toNat)) = 0)))) rfl) rfl ?_
      refine rl_det (met_some rfl rfl (not_f (decide_eq_true hck))) (fun h_ H_ => exd_move (v := w6) rfl) rfl ?_
      refine rl_det (met_some rfl rfl (not_f (decide_eq_true hck))) (fun h_ H_ => exd_lenN o8 (scs_length _) Tryd.underlying22 rfl) (tm' := _::_::_::_::_::_::_::_::_::_::_::_::_::_::_::_::_::_::_::_::_::_::_::_::_::_::_::_::_::_::_::_::_::_::_::_::_::_::_::_::_::_::_::_::_::_) rfl ?_
      refine rl_det (met_some rfl rfl (not_f (decide_eq_true hck))) (fun h_ H_ => exd_move (v := w3) rfl) rfl ?_
      refine rl_det (met_some rfl rfl (not_f (decide_eq_true hck))) (fun h_ H_ => exd_lenN o5 (scs_length _) Tryd.underlying22 rfl) rfl ?_
      refine rl_det (met_some rfl rfl (not_f (decide_eq_true hck))) (fun h_ H_ => exd_gtr rfl rfl) (tm' := _::_::_::_::_::_::_::_::_::_::_::_::_::_::_::_::_::_::_::_::_::_::_::_::_::_::_::_::_::_::_::_::_::_::_::_::_::_::_::_::_::_::_::_::_::_::_::_::_) rfl ?_
      refine rl_det (met_none rfl) (fun h_ H_ => exd_pick_f rfl (not_f (decide_eq_true hck)) (v := .bool (decide ((((pcB ts).length : Nat) : Int) < (((pcB (ts.take (((((n : Nat) : Int) - m)).toNat))).length : Nat) : Int)))) rfl) rfl ?_
      refine rl_end ?_
      refine fl_else rfl (decide_eq_false (by have z_ := B.len; omega)) ?_
      refine fl_skip ?_
      refine fl_seq ?_
      refine fl_seq ?_
      refine rs_perm (List.Perm.append_left _ (List.perm_append_comm_assoc _ _ _)) ?_
      refine rs_own (L' := ([] : Pcs) ++ (X4 ++ (X7 ++ []))) rfl ?_
      refine rs_lastN (A := ([] : Pcs)) o5 (scs_length _) fun p9 a10 cp11 le12 ev_ D13 => ?_
      subst ev_
      refine rs_lastN (A := ([] : Pcs)) o8 (scs_length _) fun p14 a15 cp16 le17 ev_ D18 => ?_
      subst ev_
      refine rs_own (L' := []) rfl ?_
      have hpk : (pcB (ts.take ((((n : Nat) : Int) - m).toNat))).length ≤ 820 := pc_len (fun z_ : chkT (ts.take ((((n : Nat) : Int) - m).toNat)) ≠ 0 => z_ hck)
      have hBl := B.len
      refine rl_start ?_
      refine rl_det (met_none rfl) (fun h_ H_ => exd_assign (v := .int .i64 0) rfl) rfl ?_
      refine rl_end ?_
      refine fl_block ?_
      refine fl_loop (m₀ := (pcB (ts.take ((((n : Nat) : Int) - m).toNat))).length - 0) (fun m_ tm_ h_ => ∃ (k : Nat), m_ = (pcB (ts.take ((((n : Nat) : Int) - m).toNat))).length - k ∧ (∃ y19 : Nat → Value, tm_ = [.slice a n c, .int .i64 (m), undef, undef, (y19 4), .slice a10 ((pcB ts).length) cp11, .bool (decide (chkT ts = 0)), .slice a15 ((pcB (ts.take (((((n : Nat) : Int) - m)).toNat))).length) cp16, .bool (decide (chkT (ts.take (((((n : Nat) : Int) - m)).toNat)) = 0)), .int .i64 (((k : Nat) : Int)), .slice a n c, .bool (decide (readyT ts)), .bool (!(decide (readyT ts))), .bool (!(decide (readyT ts))), .int .i64 (m), .slice a n c, .int .i64 (((n : Nat) : Int)), .bool (decide (0 ≤ m ∧ m ≤ ((n : Nat) : Int))), .bool (!(decide (0 ≤ m ∧ m ≤ ((n : Nat) : Int)))), .bool (!(decide (0 ≤ m ∧ m ≤ ((n : Nat) : Int)))), undef, .tuple #[.slice a10 ((pcB ts).length) cp11, .bool (decide (chkT ts = 0))], .slice a n c, .tuple #[.slice a10 ((pcB ts).length) cp11, .bool (decide (chkT ts = 0))], .slice a10 ((pcB ts).length) cp11, .bool (decide (chkT ts = 0)), .tuple #[.slice a15 ((pcB (ts.take (((((n : Nat) : Int) - m)).toNat))).length) cp16, .bool (decide (chkT (ts.take (((((n : Nat) : Int) - m)).toNat)) = 0))], .slice a n c, .slice a n c, .int .i64 (((n : Nat) : Int)), .int .i64 (m), .int .i64 (((n : Nat) : Int) - m), .slice (cutA a c 0 1) (((((n : Nat) : Int) - m)).toNat) c, .tuple #[.slice a15 ((pcB (ts.take (((((n : Nat) : Int) - m)).toNat))).length) cp16, .bool (decide (chkT (ts.take (((((n : Nat) : Int) - m)).toNat)) = 0))], .slice a15 ((pcB (ts.take (((((n : Nat) : Int) - m)).toNat))).length) cp16, .bool (decide (chkT (ts.take (((((n : Nat) : Int) - m)).toNat)) = 0)), .bool (decide (chkT ts = 0)), .bool (!(decide (chkT ts = 0))), .bool (!(decide (chkT ts = 0))), .bool (decide (chkT (ts.take (((((n : Nat) : Int) - m)).toNat)) = 0)), .bool (!(decide (chkT (ts.take (((((n : Nat) : Int) - m)).toNat)) = 0))), .bool (!(decide (chkT (ts.take (((((n : Nat) : Int) - m)).toNat)) = 0))), .bool (!(decide (chkT (ts.take (((((n : Nat) : Int) - m)).toNat)) = 0))), .slice a15 ((pcB (ts.take (((((n : Nat) : Int) - m)).toNat))).length) cp16, .int .i64 ((((pcB (ts.take (((((n : Nat) : Int) - m)).toNat))).length : Nat) : Int)), .slice a10 ((pcB ts).length) cp11, .int .i64 ((((pcB ts).length : Nat) : Int)), .bool (decide ((((pcB ts).length : Nat) : Int) < (((pcB (ts.take (((((n : Nat) : Int) - m)).toNat))).length : Nat) : Int))), .bool (decide ((((pcB ts).length : Nat) : Int) < (((pcB (ts.take (((((n : Nat) : Int) - m)).toNat))).length : Nat) : Int))), (y19 49), (y19 50), (y19 51), (y19 52), (y19 53), (y19 54), (y19 55), (y19 56), (y19 57), (y19 58), (y19 59), (y19 60), (y19 61), (y19 62), (y19 63), (y19 64), (y19 65), (y19 66), (y19 67), (y19 68), (y19 69), (y19 70), (y19 71), (y19 72), (y19 73), (y19 74), (y19 75), (y19 76), (y19 77), (y19 78), (y19 79), (y19 80), (y19 81), (y19 82), (y19 83), (y19 84), (y19 85), (y19 86), (y19 87), (y19 88), (y19 89), (y19 90), (y19 91), (y19 92), (y19 93), (y19 94), (y19 95), (y19 96), (y19 97), (y19 98), (y19 99), (y19 100), undef]) ∧ (k ≤ (pcB (ts.take ((((n : Nat) : Int) - m).toNat))).length) ∧ St h [] p14 h_ ([])) (fun h_ H_ => ⟨0, rfl, (y_of rfl), Nat.zero_le _, H_⟩) ?_
      intro m_ tm_ IH20
      refine rs_ex fun k => rs_and fun hm_ => rs_and fun ht_ => rs_and fun hk => ?_
      subst hm_; obtain ⟨y19, ht_⟩ := ht_; subst ht_
      refine fl_seq ?_
      refine fl_seq ?_
      refine rl_start ?_
      refine rl_det (met_none rfl) (fun h_ H_ => exd_move (v := .int .i64 (((k : Nat) : Int))) rfl) (tm' := _::_::_::_::_::_::_::_::_::_::_::_::_::_::_::_::_::_::_::_::_::_::_::_::_::_::_::_::_::_::_::_::_::_::_::_::_::_::_::_::_::_::_::_::_::_::_::_::_::_::_) rfl ?_
      refine rl_det (met_none rfl) (fun h_ H_ => exd_move (v := .slice a15 ((pcB (ts.take (((((n : Nat) : Int) - m)).toNat))).length) cp16) rfl) rfl ?_
      refine rl_det (met_none rfl) (fun h_ H_ => exd_len Tryd.underlying22 rfl) rfl ?_
      refine rl_det (met_none rfl) (fun h_ H_ => exd_lss rfl rfl) (tm' := _::_::_::_::_::_::_::_::_::_::_::_::_::_::_::_::_::_::_::_::_::_::_::_::_::_::_::_::_::_::_::_::_::_::_::_::_::_::_::_::_::_::_::_::_::_::_::_::_::_::_::_::_::_) rfl ?_
      refine rl_end ?_
      by_cases cc21 : ((k : Nat) : Int) < (((pcB (ts.take (((((n : Nat) : Int) - m)).toNat))).length : Nat) : Int)
      · refine fl_then rfl (decide_eq_true cc21) ?_
        refine fl_skip ?_
        refine fl_seq ?_
        refine fl_block ?_
        refine fl_seq ?_
        by_cases cc22 : ((k : Nat) : Int) < (((pcB (ts.take (((((n : Nat) : Int) - m)).toNat))).length : Nat) : Int) - 1
        · refine fl_drawn2 44 [[], [], [1], [1, 2], [0, 1, 2, 3], [0, 1, 2, 3, 4], [], [], [6, 7], [6, 7, 8], [], [0, 1, 2, 3, 4], [0, 1, 2, 3, 4, 10, 11], [0, 1, 2, 3, 4, 10, 11, 12], [0, 1, 2, 3, 4, 6, 7, 8, 9, 10, 11, 12, 13], [0, 1, 2, 3, 4, 6, 7, 8, 9, 10, 11, 12, 13, 14], [0, 1, 2, 3, 4, 5, 6, 7, 8, 9, 10, 11, 12, 13, 14, 15], [], [], [17, 18], [17, 18, 19], [17, 18, 19, 20], [], [0, 1, 2, 3, 4, 5, 6, 7, 8, 9, 10, 11, 12, 13, 14, 15], [0, 1, 2, 3, 4, 5, 6, 7, 8, 9, 10, 11, 12, 13, 14, 15, 22, 23], [0, 1, 2, 3, 4, 5, 6, 7, 8, 9, 10, 11, 12, 13, 14, 15, 22, 23, 24], [0, 1, 2, 3, 4, 5, 6, 7, 8, 9, 10, 11, 12, 13, 14, 15, 22, 23, 24, 25], [0, 1, 2, 3, 4, 5, 6, 7, 8, 9, 10, 11, 12, 13, 14, 15, 17, 18, 19, 20, 21, 22, 23, 24, 25, 26], [0, 1, 2, 3, 4, 5, 6, 7, 8, 9, 10, 11, 12, 13, 14, 15, 17, 18, 19, 20, 21, 22, 23, 24, 25, 26, 27], [0, 1, 2, 3, 4, 5, 6, 7, 8, 9, 10, 11, 12, 13, 14, 15, 16, 17, 18, 19, 20, 21, 22, 23, 24, 25, 26, 27, 28], [], [], [30, 31], [30, 31, 32], [], [], [34, 35], [34, 35, 36], [34, 35, 36, 37], [30, 31, 32, 33, 34, 35, 36, 37, 38], [], [0, 1, 2, 3, 4, 5, 6, 7, 8, 9, 10, 11, 12, 13, 14, 15, 16, 17, 18, 19, 20, 21, 22, 23, 24, 25, 26, 27, 28], [0, 1, 2, 3, 4, 5, 6, 7, 8, 9, 10, 11, 12, 13, 14, 15, 16, 17, 18, 19, 20, 21, 22, 23, 24, 25, 26, 27, 28, 40, 41], [0, 1, 2, 3, 4, 5, 6, 7, 8, 9, 10, 11, 12, 13, 14, 15, 16, 17, 18, 19, 20, 21, 22, 23, 24, 25, 26, 27, 28, 40, 41, 42], [0, 1, 2, 3, 4, 5, 6, 7, 8, 9, 10, 11, 12, 13, 14, 15, 16, 17, 18, 19, 20, 21, 22, 23, 24, 25, 26, 27, 28, 30, 31, 32, 33, 34, 35, 36, 37, 38, 39, 40, 41, 42, 43], []] mixed (by kernel_rfl) (Nat.le_of_ble_eq_true rfl) ?_
          refine swr_det (met_none rfl) (fun h_ H_ => exd_move (v := .int .i64 (((k : Nat) : Int))) rfl) rfl ?_
          refine swr_det (met_none rfl) (fun h_ H_ => exd_move (v := .slice a15 ((pcB (ts.take (((((n : Nat) : Int) - m)).toNat))).length) cp16) rfl) (tm' := _::_::_::_::_::_::_::_::_::_::_::_::_::_::_::_::_::_::_::_::_::_::_::_::_::_::_::_::_::_::_::_::_::_::_::_::_::_::_::_::_::_::_::_::_::_::_::_::_::_::_::_::_::_::_::_::_::_) rfl ?_
          refine swr_det (met_none rfl) (fun h_ H_ => exd_len Tryd.underlying22 rfl) rfl ?_
          refine swr_det (met_none rfl) (fun h_ H_ => exd_sub rfl rfl (wr (by omega))) (tm' := _::_::_::_::_::_::_::_::_::_::_::_::_::_::_::_::_::_::_::_::_::_::_::_::_::_::_::_::_::_::_::_::_::_::_::_::_::_::_::_::_::_::_::_::_::_::_::_::_::_::_::_::_::_::_::_::_::_::_::_) rfl ?_
          refine swr_det (met_none rfl) (fun h_ H_ => exd_lss rfl rfl) rfl ?_
          refine swr_det (met_none rfl) (fun h_ H_ => exd_move (v := .bool (decide (((k : Nat) : Int) < (((pcB (ts.take (((((n : Nat) : Int) - m)).toNat))).length : Nat) : Int) - 1))) rfl) (tm' := _::_::_::_::_::_::_::_::_::_::_::_::_::_::_::_::_::_::_::_::_::_::_::_::_::_::_::_::_::_::_::_::_::_::_::_::_::_::_::_::_::_::_::_::_::_::_::_::_::_::_::_::_::_::_::_::_::_::_::_::_::_) rfl ?_
          refine swr_det (met_some rfl rfl (decide_eq_true cc22)) (fun h_ H_ => exd_move (v := .slice a15 ((pcB (ts.take (((((n : Nat) : Int) - m)).toNat))).length) cp16) rfl) rfl ?_
          refine swr_det (met_some rfl rfl (decide_eq_true cc22)) (fun h_ H_ => exd_move (v := .int .i64 (((k : Nat) : Int))) rfl) (tm' := _::_::_::_::_::_::_::_::_::_::_::_::_::_::_::_::_::_::_::_::_::_::_::_::_::_::_::_::_::_::_::_::_::_::_::_::_::_::_::_::_::_::_::_::_::_::_::_::_::_::_::_::_::_::_::_::_::_::_::_::_::_::_::_) rfl ?_
          refine swr_det (met_some rfl rfl (decide_eq_true cc22)) (fun h_ H_ => exd_indexAddrN (i := k) Tryd.underlying22 tS9 (sl_ne a15 ((pcB (ts.take (((((n : Nat) : Int) - m)).toNat))).length) cp16 ((show Strs _ _ _ (pcB (ts.take (((((n : Nat) : Int) - m)).toNat))) from D18).ne (by omega))) rfl (by omega)) rfl ?_
          refine swr_det (met_some rfl rfl (decide_eq_true cc22)) (fun h_ H_ => exd_load_per H_ tA9 rfl (v := sv ((pcB (ts.take (((((n : Nat) : Int) - m)).toNat))).getD k [])) ((show Strs _ _ _ (pcB (ts.take (((((n : Nat) : Int) - m)).toNat))) from D18).get (by omega))) (tm' := _::_::_::_::_::_::_::_::_::_::_::_::_::_::_::_::_::_::_::_::_::_::_::_::_::_::_::_::_::_::_::_::_::_::_::_::_::_::_::_::_::_::_::_::_::_::_::_::_::_::_::_::_::_::_::_::_::_::_::_::_::_::_::_::_::_) rfl ?_
          refine swr_det (met_some rfl rfl (decide_eq_true cc22)) (fun h_ H_ => exd_move (v := .slice a10 ((pcB ts).length) cp11) rfl) rfl ?_
          refine swr_det (met_some rfl rfl (decide_eq_true cc22)) (fun h_ H_ => exd_move (v := .int .i64 (((k : Nat) : Int))) rfl) (tm' := _::_::_::_::_::_::_::_::_::_::_::_::_::_::_::_::_::_::_::_::_::_::_::_::_::_::_::_::_::_::_::_::_::_::_::_::_::_::_::_::_::_::_::_::_::_::_::_::_::_::_::_::_::_::_::_::_::_::_::_::_::_::_::_::_::_::_::_) rfl ?_
          refine swr_det (met_some rfl rfl (decide_eq_true cc22)) (fun h_ H_ => exd_indexAddrN (i := k) Tryd.underlying22 tS9 (sl_ne a10 ((pcB ts).length) cp11 (((show Strs _ _ _ (pcB ts) from D13).mono le17).ne (by omega))) rfl (by omega)) rfl ?_
          refine swr_det (met_some rfl rfl (decide_eq_true cc22)) (fun h_ H_ => exd_load_per H_ tA9 rfl (v := sv ((pcB ts).getD k [])) (((show Strs _ _ _ (pcB ts) from D13).mono le17).get (by omega))) (tm' := [_,_,_,_,_,_,_,_,_,_,_,_,_,_,_,_,_,_,_,_,_,_,_,_,_,_,_,_,_,_,_,_,_,_,_,_,_,_,_,_,_,_,_,_,_,_,_,_,_,_,_,_,_,_,_,_,_,_,_,_,_,_,_,_,_,_,_,_,_,_,_,_,_,_,_,_,_,_,_,_,_,_,_,_,_,_,_,_,_,_,_,_,_,_,_,_,_,_,_,_,_,_]) rfl ?_
          refine swr_det (met_some rfl rfl (decide_eq_true cc22)) (fun h_ H_ => exd_neqS (l := (pcB (ts.take (((((n : Nat) : Int) - m)).toNat))).getD k []) (m := (pcB ts).getD k []) rfl rfl) rfl ?_
          refine swr_det (met_none rfl) (fun h_ H_ => exd_pick_t rfl (decide_eq_true cc22) (v := .bool (!decide ((pcB (ts.take (((((n : Nat) : Int) - m)).toNat))).getD k [] = (pcB ts).getD k []))) rfl) (tm' := [_,_,_,_,_,_,_,_,_,_,_,_,_,_,_,_,_,_,_,_,_,_,_,_,_,_,_,_,_,_,_,_,_,_,_,_,_,_,_,_,_,_,_,_,_,_,_,_,_,_,_,_,_,_,_,_,_,_,_,_,_,_,_,_,_,_,_,_,_,_,_,_,_,_,_,_,_,_,_,_,_,_,_,_,_,_,_,_,_,_,_,_,_,_,_,_,_,_,_,_,_,_]) rfl ?_
          refine swr_det (met_none rfl) (fun h_ H_ => exd_move (v := .bool (!decide ((pcB (ts.take (((((n : Nat) : Int) - m)).toNat))).getD k [] = (pcB ts).getD k []))) rfl) rfl ?_
          refine swr_det (met_some rfl rfl (not_f (decide_eq_true (B.eq k (by omega))))) (fun h_ H_ => exd_move (v := .slice a10 ((pcB ts).length) cp11) rfl) (tm' := [_,_,_,_,_,_,_,_,_,_,_,_,_,_,_,_,_,_,_,_,_,_,_,_,_,_,_,_,_,_,_,_,_,_,_,_,_,_,_,_,_,_,_,_,_,_,_,_,_,_,_,_,_,_,_,_,_,_,_,_,_,_,_,_,_,_,_,_,_,_,_,_,_,_,_,_,_,_,_,_,_,_,_,_,_,_,_,_,_,_,_,_,_,_,_,_,_,_,_,_,_,_]) rfl ?_
          refine swr_det (met_some rfl rfl (not_f (decide_eq_true (B.eq k (by omega))))) (fun h_ H_ => exd_move (v := .int .i64 (((k : Nat) : Int))) rfl) rfl ?_
          refine swr_det (met_some rfl rfl (not_f (decide_eq_true (B.eq k (by omega))))) (fun h_ H_ => exd_indexAddrN (i := k) Tryd.underlying22 tS9 (sl_ne a10 ((pcB ts).length) cp11 (((show Strs _ _ _ (pcB ts) from D13).mono le17).ne (by omega))) rfl (by omega)) (tm' := [_,_,_,_,_,_,_,_,_,_,_,_,_,_,_,_,_,_,_,_,_,_,_,_,_,_,_,_,_,_,_,_,_,_,_,_,_,_,_,_,_,_,_,_,_,_,_,_,_,_,_,_,_,_,_,_,_,_,_,_,_,_,_,_,_,_,_,_,_,_,_,_,_,_,_,_,_,_,_,_,_,_,_,_,_,_,_,_,_,_,_,_,_,_,_,_,_,_,_,_,_,_]) rfl ?_
          refine swr_det (met_some rfl rfl (not_f (decide_eq_true (B.eq k (by omega))))) (fun h_ H_ => exd_load_per H_ tA9 rfl (v := sv ((pcB ts).getD k [])) (((show Strs _ _ _ (pcB ts) from D13).mono le17).get (by omega))) rfl ?_
          refine swr_det (met_some rfl rfl (not_f (decide_eq_true (B.eq k (by omega))))) (fun h_ H_ => exd_lenS (l := (pcB ts).getD k []) Tryd.underlying9 rfl) (tm' := [_,_,_,_,_,_,_,_,_,_,_,_,_,_,_,_,_,_,_,_,_,_,_,_,_,_,_,_,_,_,_,_,_,_,_,_,_,_,_,_,_,_,_,_,_,_,_,_,_,_,_,_,_,_,_,_,_,_,_,_,_,_,_,_,_,_,_,_,_,_,_,_,_,_,_,_,_,_,_,_,_,_,_,_,_,_,_,_,_,_,_,_,_,_,_,_,_,_,_,_,_,_]) rfl ?_
          refine swr_det (met_some rfl rfl (not_f (decide_eq_true (B.eq k (by omega))))) (fun h_ H_ => exd_move (v := .slice a15 ((pcB (ts.take (((((n : Nat) : Int) - m)).toNat))).length) cp16) rfl) rfl ?_
          refine swr_det (met_some rfl rfl (not_f (decide_eq_true (B.eq k (by omega))))) (fun h_ H_ => exd_move (v := .int .i64 (((k : Nat) : Int))) rfl) (tm' := [_,_,_,_,_,_,_,_,_,_,_,_,_,_,_,_,_,_,_,_,_,_,_,_,_,_,_,_,_,_,_,_,_,_,_,_,_,_,_,_,_,_,_,_,_,_,_,_,_,_,_,_,_,_,_,_,_,_,_,_,_,_,_,_,_,_,_,_,_,_,_,_,_,_,_,_,_,_,_,_,_,_,_,_,_,_,_,_,_,_,_,_,_,_,_,_,_,_,_,_,_,_]) rfl ?_
          refine swr_det (met_some rfl rfl (not_f (decide_eq_true (B.eq k (by omega))))) (fun h_ H_ => exd_indexAddrN (i := k) Tryd.underlying22 tS9 (sl_ne a15 ((pcB (ts.take (((((n : Nat) : Int) - m)).toNat))).length) cp16 ((show Strs _ _ _ (pcB (ts.take (((((n : Nat) : Int) - m)).toNat))) from D18).ne (by omega))) rfl (by omega)) rfl ?_
          refine swr_det (met_some rfl rfl (not_f (decide_eq_true (B.eq k (by omega))))) (fun h_ H_ => exd_load_per H_ tA9 rfl (v := sv ((pcB (ts.take (((((n : Nat) : Int) - m)).toNat))).getD k [])) ((show Strs _ _ _ (pcB (ts.take (((((n : Nat) : Int) - m)).toNat))) from D18).get (by omega))) (tm' := [_,_,_,_,_,_,_,_,_,_,_,_,_,_,_,_,_,_,_,_,_,_,_,_,_,_,_,_,_,_,_,_,_,_,_,_,_,_,_,_,_,_,_,_,_,_,_,_,_,_,_,_,_,_,_,_,_,_,_,_,_,_,_,_,_,_,_,_,_,_,_,_,_,_,_,_,_,_,_,_,_,_,_,_,_,_,_,_,_,_,_,_,_,_,_,_,_,_,_,_,_,_]) rfl ?_
          refine swr_det (met_some rfl rfl (not_f (decide_eq_true (B.eq k (by omega))))) (fun h_ H_ => exd_lenS (l := (pcB (ts.take (((((n : Nat) : Int) - m)).toNat))).getD k []) Tryd.underlying9 rfl) rfl ?_
          refine swr_det (met_some rfl rfl (not_f (decide_eq_true (B.eq k (by omega))))) (fun h_ H_ => exd_lss rfl rfl) (tm' := [_,_,_,_,_,_,_,_,_,_,_,_,_,_,_,_,_,_,_,_,_,_,_,_,_,_,_,_,_,_,_,_,_,_,_,_,_,_,_,_,_,_,_,_,_,_,_,_,_,_,_,_,_,_,_,_,_,_,_,_,_,_,_,_,_,_,_,_,_,_,_,_,_,_,_,_,_,_,_,_,_,_,_,_,_,_,_,_,_,_,_,_,_,_,_,_,_,_,_,_,_,_]) rfl ?_
          refine swr_det (met_none rfl) (fun h_ H_ => exd_pick_f rfl (not_f (decide_eq_true (B.eq k (by omega)))) (v := .bool (decide (((((pcB ts).getD k []).length : Nat) : Int) < ((((pcB (ts.take (((((n : Nat) : Int) - m)).toNat))).getD k []).length : Nat) : Int)))) rfl) rfl ?_
          refine swr_det (met_none rfl) (fun h_ H_ => exd_move (v := .bool (decide (((((pcB ts).getD k []).length : Nat) : Int) < ((((pcB (ts.take (((((n : Nat) : Int) - m)).toNat))).getD k []).length : Nat) : Int)))) rfl) (tm' := [_,_,_,_,_,_,_,_,_,_,_,_,_,_,_,_,_,_,_,_,_,_,_,_,_,_,_,_,_,_,_,_,_,_,_,_,_,_,_,_,_,_,_,_,_,_,_,_,_,_,_,_,_,_,_,_,_,_,_,_,_,_,_,_,_,_,_,_,_,_,_,_,_,_,_,_,_,_,_,_,_,_,_,_,_,_,_,_,_,_,_,_,_,_,_,_,_,_,_,_,_,_]) rfl ?_
          refine swr_det (met_some rfl rfl (decide_eq_false (by have z_ := (B.pre k (by omega)).length_le; omega))) (fun h_ H_ => exd_move (v := .slice a10 ((pcB ts).length) cp11) rfl) rfl ?_
          refine swr_det (met_some rfl rfl (decide_eq_false (by have z_ := (B.pre k (by omega)).length_le; omega))) (fun h_ H_ => exd_move (v := .int .i64 (((k : Nat) : Int))) rfl) (tm' := [_,_,_,_,_,_,_,_,_,_,_,_,_,_,_,_,_,_,_,_,_,_,_,_,_,_,_,_,_,_,_,_,_,_,_,_,_,_,_,_,_,_,_,_,_,_,_,_,_,_,_,_,_,_,_,_,_,_,_,_,_,_,_,_,_,_,_,_,_,_,_,_,_,_,_,_,_,_,_,_,_,_,_,_,_,_,_,_,_,_,_,_,_,_,_,_,_,_,_,_,_,_]) rfl ?_
          refine swr_det (met_some rfl rfl (decide_eq_false (by have z_ := (B.pre k (by omega)).length_le; omega))) (fun h_ H_ => exd_indexAddrN (i := k) Tryd.underlying22 tS9 (sl_ne a10 ((pcB ts).length) cp11 (((show Strs _ _ _ (pcB ts) from D13).mono le17).ne (by omega))) rfl (by omega)) rfl ?_
          refine swr_det (met_some rfl rfl (decide_eq_false (by have z_ := (B.pre k (by omega)).length_le; omega))) (fun h_ H_ => exd_load_per H_ tA9 rfl (v := sv ((pcB ts).getD k [])) (((show Strs _ _ _ (pcB ts) from D13).mono le17).get (by omega))) (tm' := [_,_,_,_,_,_,_,_,_,_,_,_,_,_,_,_,_,_,_,_,_,_,_,_,_,_,_,_,_,_,_,_,_,_,_,_,_,_,_,_,_,_,_,_,_,_,_,_,_,_,_,_,_,_,_,_,_,_,_,_,_,_,_,_,_,_,_,_,_,_,_,_,_,_,_,_,_,_,_,_,_,_,_,_,_,_,_,_,_,_,_,_,_,_,_,_,_,_,_,_,_,_]) rfl ?_
          refine swr_det (met_some rfl rfl (decide_eq_false (by have z_ := (B.pre k (by omega)).length_le; omega))) (fun h_ H_ => exd_move (v := .slice a15 ((pcB (ts.take (((((n : Nat) : Int) - m)).toNat))).length) cp16) rfl) rfl ?_
          refine swr_det (met_some rfl rfl (decide_eq_false (by have z_ := (B.pre k (by omega)).length_le; omega))) (fun h_ H_ => exd_move (v := .int .i64 (((k : Nat) : Int))) rfl) (tm' := [_,_,_,_,_,_,_,_,_,_,_,_,_,_,_,_,_,_,_,_,_,_,_,_,_,_,_,_,_,_,_,_,_,_,_,_,_,_,_,_,_,_,_,_,_,_,_,_,_,_,_,_,_,_,_,_,_,_,_,_,_,_,_,_,_,_,_,_,_,_,_,_,_,_,_,_,_,_,_,_,_,_,_,_,_,_,_,_,_,_,_,_,_,_,_,_,_,_,_,_,_,_]) rfl ?_
          refine swr_det (met_some rfl rfl (decide_eq_false (by have z_ := (B.pre k (by omega)).length_le; omega))) (fun h_ H_ => exd_indexAddrN (i := k) Tryd.underlying22 tS9 (sl_ne a15 ((pcB (ts.take (((((n : Nat) : Int) - m)).toNat))).length) cp16 ((show Strs _ _ _ (pcB (ts.take (((((n : Nat) : Int) - m)).toNat))) from D18).ne (by omega))) rfl (by omega)) rfl ?_
          refine swr_det (met_some rfl rfl (decide_eq_false (by have z_ := (B.pre k (by omega)).length_le; omega))) (fun h_ H_ => exd_load_per H_ tA9 rfl (v := sv ((pcB (ts.take (((((n : Nat) : Int) - m)).toNat))).getD k [])) ((show Strs _ _ _ (pcB (ts.take (((((n : Nat) : Int) - m)).toNat))) from D18).get (by omega))) (tm' := [_,_,_,_,_,_,_,_,_,_,_,_,_,_,_,_,_,_,_,_,_,_,_,_,_,_,_,_,_,_,_,_,_,_,_,_,_,_,_,_,_,_,_,_,_,_,_,_,_,_,_,_,_,_,_,_,_,_,_,_,_,_,_,_,_,_,_,_,_,_,_,_,_,_,_,_,_,_,_,_,_,_,_,_,_,_,_,_,_,_,_,_,_,_,_,_,_,_,_,_,_,_]) rfl ?_
          refine swr_det (met_some rfl rfl (decide_eq_false (by have z_ := (B.pre k (by omega)).length_le; omega))) (fun h_ H_ => exd_lenS (l := (pcB (ts.take (((((n : Nat) : Int) - m)).toNat))).getD k []) Tryd.underlying9 rfl) rfl ?_
          refine swr_det (met_some rfl rfl (decide_eq_false (by have z_ := (B.pre k (by omega)).length_le; omega))) (fun h_ H_ => exd_takeS (l := (pcB ts).getD k []) (r := ((pcB (ts.take (((((n : Nat) : Int) - m)).toNat))).getD k []).length) Tryd.underlying9 rfl (.nat (z := ((pcB (ts.take (((((n : Nat) : Int) - m)).toNat))).getD k []).length) _ rfl) (by first | omega | exact (B.pre k (by omega)).length_le)) (tm' := [_,_,_,_,_,_,_,_,_,_,_,_,_,_,_,_,_,_,_,_,_,_,_,_,_,_,_,_,_,_,_,_,_,_,_,_,_,_,_,_,_,_,_,_,_,_,_,_,_,_,_,_,_,_,_,_,_,_,_,_,_,_,_,_,_,_,_,_,_,_,_,_,_,_,_,_,_,_,_,_,_,_,_,_,_,_,_,_,_,_,_,_,_,_,_,_,_,_,_,_,_,_]) rfl ?_
          refine swr_det (met_some rfl rfl (decide_eq_false (by have z_ := (B.pre k (by omega)).length_le; omega))) (fun h_ H_ => exd_move (v := .slice a15 ((pcB (ts.take (((((n : Nat) : Int) - m)).toNat))).length) cp16) rfl) rfl ?_
          refine swr_det (met_some rfl rfl (decide_eq_false (by have z_ := (B.pre k (by omega)).length_le; omega))) (fun h_ H_ => exd_move (v := .int .i64 (((k : Nat) : Int))) rfl) (tm' := [_,_,_,_,_,_,_,_,_,_,_,_,_,_,_,_,_,_,_,_,_,_,_,_,_,_,_,_,_,_,_,_,_,_,_,_,_,_,_,_,_,_,_,_,_,_,_,_,_,_,_,_,_,_,_,_,_,_,_,_,_,_,_,_,_,_,_,_,_,_,_,_,_,_,_,_,_,_,_,_,_,_,_,_,_,_,_,_,_,_,_,_,_,_,_,_,_,_,_,_,_,_]) rfl ?_
          refine swr_det (met_some rfl rfl (decide_eq_false (by have z_ := (B.pre k (by omega)).length_le; omega))) (fun h_ H_ => exd_indexAddrN (i := k) Tryd.underlying22 tS9 (sl_ne a15 ((pcB (ts.take (((((n : Nat) : Int) - m)).toNat))).length) cp16 ((show Strs _ _ _ (pcB (ts.take (((((n : Nat) : Int) - m)).toNat))) from D18).ne (by omega))) rfl (by omega)) rfl ?_
          refine swr_det (met_some rfl rfl (decide_eq_false (by have z_ := (B.pre k (by omega)).length_le; omega))) (fun h_ H_ => exd_load_per H_ tA9 rfl (v := sv ((pcB (ts.take (((((n : Nat) : Int) - m)).toNat))).getD k [])) ((show Strs _ _ _ (pcB (ts.take (((((n : Nat) : Int) - m)).toNat))) from D18).get (by omega))) (tm' := [_,_,_,_,_,_,_,_,_,_,_,_,_,_,_,_,_,_,_,_,_,_,_,_,_,_,_,_,_,_,_,_,_,_,_,_,_,_,_,_,_,_,_,_,_,_,_,_,_,_,_,_,_,_,_,_,_,_,_,_,_,_,_,_,_,_,_,_,_,_,_,_,_,_,_,_,_,_,_,_,_,_,_,_,_,_,_,_,_,_,_,_,_,_,_,_,_,_,_,_,_,_]) rfl ?_
          refine swr_nil rfl ?_
          refine rl_det (met_some rfl rfl (decide_eq_false (by have z_ := (B.pre k (by omega)).length_le; omega))) (fun h_ H_ => exd_neqS (l := ((pcB ts).getD k []).take (((pcB (ts.take (((((n : Nat) : Int) - m)).toNat))).getD k []).length)) (m := (pcB (ts.take (((((n : Nat) : Int) - m)).toNat))).getD k []) rfl rfl) (tm' := [_,_,_,_,_,_,_,_,_,_,_,_,_,_,_,_,_,_,_,_,_,_,_,_,_,_,_,_,_,_,_,_,_,_,_,_,_,_,_,_,_,_,_,_,_,_,_,_,_,_,_,_,_,_,_,_,_,_,_,_,_,_,_,_,_,_,_,_,_,_,_,_,_,_,_,_,_,_,_,_,_,_,_,_,_,_,_,_,_,_,_,_,_,_,_,_,_,_,_,_,_,_]) rfl ?_
          refine rl_det (met_none rfl) (fun h_ H_ => exd_pick_f rfl (decide_eq_false (by have z_ := (B.pre k (by omega)).length_le; omega)) (v := .bool (!decide (((pcB ts).getD k []).take (((pcB (ts.take (((((n : Nat) : Int) - m)).toNat))).getD k []).length) = (pcB (ts.take (((((n : Nat) : Int) - m)).toNat))).getD k []))) rfl) rfl ?_
          refine rl_end ?_
          refine fl_else rfl (not_f (decide_eq_true (pre_take (B.pre k (by omega))))) ?_
          refine fl_skip ?_
          refine fl_inBlock ?_
          refine rl_start ?_
          refine rl_det (met_none rfl) (fun h_ H_ => exd_move (v := .int .i64 (((k : Nat) : Int))) rfl) rfl ?_
          refine rl_det (met_none rfl) (fun h_ H_ => exd_add rfl rfl (n := ((k + 1 : Nat) : Int)) (wr (by omega))) (tm' := _::_::_::_::_::_::_::_::_::_::_::_::_::_::_::_::_::_::_::_::_::_::_::_::_::_::_::_::_::_::_::_::_::_::_::_::_::_::_::_::_::_::_::_::_::_::_::_::_::_::_::_::_::_::_::_) rfl ?_
          refine rl_det (met_none rfl) (fun h_ H_ => exd_assign (v := .int .i64 (((k + 1 : Nat) : Int))) rfl) rfl ?_
          refine rl_end ?_
          exact fun h_ H_ => IH20 _ _ (by omega) h_ ⟨k + 1, rfl, (y_of rfl), (by omega), H_⟩
        · refine fl_drawn2 44 [[], [], [1], [1, 2], [0, 1, 2, 3], [0, 1, 2, 3, 4], [], [], [6, 7], [6, 7, 8], [], [0, 1, 2, 3, 4], [0, 1, 2, 3, 4, 10, 11], [0, 1, 2, 3, 4, 10, 11, 12], [0, 1, 2, 3, 4, 6, 7, 8, 9, 10, 11, 12, 13], [0, 1, 2, 3, 4, 6, 7, 8, 9, 10, 11, 12, 13, 14], [0, 1, 2, 3, 4, 5, 6, 7, 8, 9, 10, 11, 12, 13, 14, 15], [], [], [17, 18], [17, 18, 19], [17, 18, 19, 20], [], [0, 1, 2, 3, 4, 5, 6, 7, 8, 9, 10, 11, 12, 13, 14, 15], [0, 1, 2, 3, 4, 5, 6, 7, 8, 9, 10, 11, 12, 13, 14, 15, 22, 23], [0, 1, 2, 3, 4, 5, 6, 7, 8, 9, 10, 11, 12, 13, 14, 15, 22, 23, 24], [0, 1, 2, 3, 4, 5, 6, 7, 8, 9, 10, 11, 12, 13, 14, 15, 22, 23, 24, 25], [0, 1, 2, 3, 4, 5, 6, 7, 8, 9, 10, 11, 12, 13, 14, 15, 17, 18, 19, 20, 21, 22, 23, 24, 25, 26], [0, 1, 2, 3, 4, 5, 6, 7, 8, 9, 10, 11, 12, 13, 14, 15, 17, 18, 19, 20, 21, 22, 23, 24, 25, 26, 27], [0, 1, 2, 3, 4, 5, 6, 7, 8, 9, 10, 11, 12, 13, 14, 15, 16, 17, 18, 19, 20, 21, 22, 23, 24, 25, 26, 27, 28], [], [], [30, 31], [30, 31, 32], [], [], [34, 35], [34, 35, 36], [34, 35, 36, 37], [30, 31, 32, 33, 34, 35, 36, 37, 38], [], [0, 1, 2, 3, 4, 5, 6, 7, 8, 9, 10, 11, 12, 13, 14, 15, 16, 17, 18, 19, 20, 21, 22, 23, 24, 25, 26, 27, 28], [0, 1, 2, 3, 4, 5, 6, 7, 8, 9, 10, 11, 12, 13, 14, 15, 16, 17, 18, 19, 20, 21, 22, 23, 24, 25, 26, 27, 28, 40, 41], [0, 1, 2, 3, 4, 5, 6, 7, 8, 9, 10, 11, 12, 13, 14, 15, 16, 17, 18, 19, 20, 21, 22, 23, 24, 25, 26, 27, 28, 40, 41, 42], [0, 1, 2, 3, 4, 5, 6, 7, 8, 9, 10, 11, 12, 13, 14, 15, 16, 17, 18, 19, 20, 21, 22, 23, 24, 25, 26, 27, 28, 30, 31, 32, 33, 34, 35, 36, 37, 38, 39, 40, 41, 42, 43], []] mixed (by kernel_rfl) (Nat.le_of_ble_eq_true rfl) ?_
          refine swr_det (met_none rfl) (fun h_ H_ => exd_move (v := .int .i64 (((k : Nat) : Int))) rfl) (tm' := _::_::_::_::_::_::_::_::_::_::_::_::_::_::_::_::_::_::_::_::_::_::_::_::_::_::_::_::_::_::_::_::_::_::_::_::_::_::_::_::_::_::_::_::_::_::_::_::_::_::_::_::_::_::_::_::_) rfl ?_
          refine swr_det (met_none rfl) (fun h_ H_ => exd_move (v := .slice a15 ((pcB (ts.take (((((n : Nat) : Int) - m)).toNat))).length) cp16) rfl) rfl ?_
          refine swr_det (met_none rfl) (fun h_ H_ => exd_len Tryd.underlying22 rfl) (tm' := _::_::_::_::_::_::_::_::_::_::_::_::_::_::_::_::_::_::_::_::_::_::_::_::_::_::_::_::_::_::_::_::_::_::_::_::_::_::_::_::_::_::_::_::_::_::_::_::_::_::_::_::_::_::_::_::_::_::_) rfl ?_
          refine swr_det (met_none rfl) (fun h_ H_ => exd_sub rfl rfl (wr (by omega))) rfl ?_
          refine swr_det (met_none rfl) (fun h_ H_ => exd_lss rfl rfl) (tm' := _::_::_::_::_::_::_::_::_::_::_::_::_::_::_::_::_::_::_::_::_::_::_::_::_::_::_::_::_::_::_::_::_::_::_::_::_::_::_::_::_::_::_::_::_::_::_::_::_::_::_::_::_::_::_::_::_::_::_::_::_) rfl ?_
          refine swr_det (met_none rfl) (fun h_ H_ => exd_move (v := .bool (decide (((k : Nat) : Int) < (((pcB (ts.take (((((n : Nat) : Int) - m)).toNat))).length : Nat) : Int) - 1))) rfl) rfl ?_
          refine swr_pass (met_not rfl rfl (decide_eq_false cc22)) (tm' := _::_::_::_::_::_::_::_::_::_::_::_::_::_::_::_::_::_::_::_::_::_::_::_::_::_::_::_::_::_::_::_::_::_::_::_::_::_::_::_::_::_::_::_::_::_::_::_::_::_::_::_::_::_::_::_::_::_::_::_::_::_::_) rfl ?_
          refine swr_pass (met_not rfl rfl (decide_eq_false cc22)) rfl ?_
          refine swr_pass (met_not rfl rfl (decide_eq_false cc22)) (tm' := _::_::_::_::_::_::_::_::_::_::_::_::_::_::_::_::_::_::_::_::_::_::_::_::_::_::_::_::_::_::_::_::_::_::_::_::_::_::_::_::_::_::_::_::_::_::_::_::_::_::_::_::_::_::_::_::_::_::_::_::_::_::_::_::_) rfl ?_
          refine swr_pass (met_not rfl rfl (decide_eq_false cc22)) rfl ?_
          refine swr_pass (met_not rfl rfl (decide_eq_false cc22)) (tm' := _::_::_::_::_::_::_::_::_::_::_::_::_::_::_::_::_::_::_::_::_::_::_::_::_::_::_::_::_::_::_::_::_::_::_::_::_::_::_::_::_::_::_::_::_::_::_::_::_::_::_::_::_::_::_::_::_::_::_::_::_::_::_::_::_::_::_) rfl ?_
          refine swr_pass (met_not rfl rfl (decide_eq_false cc22)) rfl ?_
          refine swr_pass (met_not rfl rfl (decide_eq_false cc22)) (tm' := _::_::_::_::_::_::_::_::_::_::_::_::_::_::_::_::_::_::_::_::_::_::_::_::_::_::_::_::_::_::_::_::_::_::_::_::_::_::_::_::_::_::_::_::_::_::_::_::_::_::_::_::_::_::_::_::_::_::_::_::_::_::_::_::_::_::_::_::_) rfl ?_
          refine swr_pass (met_not rfl rfl (decide_eq_false cc22)) rfl ?_
          refine swr_pass (met_not rfl rfl (decide_eq_false cc22)) (tm' := [_,_,_,_,_,_,_,_,_,_,_,_,_,_,_,_,_,_,_,_,_,_,_,_,_,_,_,_,_,_,_,_,_,_,_,_,_,_,_,_,_,_,_,_,_,_,_,_,_,_,_,_,_,_,_,_,_,_,_,_,_,_,_,_,_,_,_,_,_,_,_,_,_,_,_,_,_,_,_,_,_,_,_,_,_,_,_,_,_,_,_,_,_,_,_,_,_,_,_,_,_,_]) rfl ?_
          refine swr_det (met_none rfl) (fun h_ H_ => exd_pick_f rfl (decide_eq_false cc22) (v := .bool (false)) rfl) rfl ?_
          refine swr_det (met_none rfl) (fun h_ H_ => exd_move (v := .bool (false)) rfl) (tm' := [_,_,_,_,_,_,_,_,_,_,_,_,_,_,_,_,_,_,_,_,_,_,_,_,_,_,_,_,_,_,_,_,_,_,_,_,_,_,_,_,_,_,_,_,_,_,_,_,_,_,_,_,_,_,_,_,_,_,_,_,_,_,_,_,_,_,_,_,_,_,_,_,_,_,_,_,_,_,_,_,_,_,_,_,_,_,_,_,_,_,_,_,_,_,_,_,_,_,_,_,_,_]) rfl ?_
          refine swr_det (met_some rfl rfl rfl) (fun h_ H_ => exd_move (v := .slice a10 ((pcB ts).length) cp11) rfl) rfl ?_
          refine swr_det (met_some rfl rfl rfl) (fun h_ H_ => exd_move (v := .int .i64 (((k : Nat) : Int))) rfl) (tm' := [_,_,_,_,_,_,_,_,_,_,_,_,_,_,_,_,_,_,_,_,_,_,_,_,_,_,_,_,_,_,_,_,_,_,_,_,_,_,_,_,_,_,_,_,_,_,_,_,_,_,_,_,_,_,_,_,_,_,_,_,_,_,_,_,_,_,_,_,_,_,_,_,_,_,_,_,_,_,_,_,_,_,_,_,_,_,_,_,_,_,_,_,_,_,_,_,_,_,_,_,_,_]) rfl ?_
          refine swr_det (met_some rfl rfl rfl) (fun h_ H_ => exd_indexAddrN (i := k) Tryd.underlying22 tS9 (sl_ne a10 ((pcB ts).length) cp11 (((show Strs _ _ _ (pcB ts) from D13).mono le17).ne (by omega))) rfl (by omega)) rfl ?_
          refine swr_det (met_some rfl rfl rfl) (fun h_ H_ => exd_load_per H_ tA9 rfl (v := sv ((pcB ts).getD k [])) (((show Strs _ _ _ (pcB ts) from D13).mono le17).get (by omega))) (tm' := [_,_,_,_,_,_,_,_,_,_,_,_,_,_,_,_,_,_,_,_,_,_,_,_,_,_,_,_,_,_,_,_,_,_,_,_,_,_,_,_,_,_,_,_,_,_,_,_,_,_,_,_,_,_,_,_,_,_,_,_,_,_,_,_,_,_,_,_,_,_,_,_,_,_,_,_,_,_,_,_,_,_,_,_,_,_,_,_,_,_,_,_,_,_,_,_,_,_,_,_,_,_]) rfl ?_
          refine swr_det (met_some rfl rfl rfl) (fun h_ H_ => exd_lenS (l := (pcB ts).getD k []) Tryd.underlying9 rfl) rfl ?_
          refine swr_det (met_some rfl rfl rfl) (fun h_ H_ => exd_move (v := .slice a15 ((pcB (ts.take (((((n : Nat) : Int) - m)).toNat))).length) cp16) rfl) (tm' := [_,_,_,_,_,_,_,_,_,_,_,_,_,_,_,_,_,_,_,_,_,_,_,_,_,_,_,_,_,_,_,_,_,_,_,_,_,_,_,_,_,_,_,_,_,_,_,_,_,_,_,_,_,_,_,_,_,_,_,_,_,_,_,_,_,_,_,_,_,_,_,_,_,_,_,_,_,_,_,_,_,_,_,_,_,_,_,_,_,_,_,_,_,_,_,_,_,_,_,_,_,_]) rfl ?_
          refine swr_det (met_some rfl rfl rfl) (fun h_ H_ => exd_move (v := .int .i64 (((k : Nat) : Int))) rfl) rfl ?_
          refine swr_det (met_some rfl rfl rfl) (fun h_ H_ => exd_indexAddrN (i := k) Tryd.underlying22 tS9 (sl_ne a15 ((pcB (ts.take (((((n : Nat) : Int) - m)).toNat))).length) cp16 ((show Strs _ _ _ (pcB (ts.take (((((n : Nat) : Int) - m)).toNat))) from D18).ne (by omega))) rfl (by omega)) (tm' := [_,_,_,_,_,_,_,_,_,_,_,_,_,_,_,_,_,_,_,_,_,_,_,_,_,_,_,_,_,_,_,_,_,_,_,_,_,_,_,_,_,_,_,_,_,_,_,_,_,_,_,_,_,_,_,_,_,_,_,_,_,_,_,_,_,_,_,_,_,_,_,_,_,_,_,_,_,_,_,_,_,_,_,_,_,_,_,_,_,_,_,_,_,_,_,_,_,_,_,_,_,_]) rfl ?_
          refine swr_det (met_some rfl rfl rfl) (fun h_ H_ => exd_load_per H_ tA9 rfl (v := sv ((pcB (ts.take (((((n : Nat) : Int) - m)).toNat))).getD k [])) ((show Strs _ _ _ (pcB (ts.take (((((n : Nat) : Int) - m)).toNat))) from D18).get (by omega))) rfl ?_
          refine swr_det (met_some rfl rfl rfl) (fun h_ H_ => exd_lenS (l := (pcB (ts.take (((((n : Nat) : Int) - m)).toNat))).getD k []) Tryd.underlying9 rfl) (tm' := [_,_,_,_,_,_,_,_,_,_,_,_,_,_,_,_,_,_,_,_,_,_,_,_,_,_,_,_,_,_,_,_,_,_,_,_,_,_,_,_,_,_,_,_,_,_,_,_,_,_,_,_,_,_,_,_,_,_,_,_,_,_,_,_,_,_,_,_,_,_,_,_,_,_,_,_,_,_,_,_,_,_,_,_,_,_,_,_,_,_,_,_,_,_,_,_,_,_,_,_,_,_]) rfl ?_
          refine swr_det (met_some rfl rfl rfl) (fun h_ H_ => exd_lss rfl rfl) rfl ?_
          refine swr_det (met_none rfl) (fun h_ H_ => exd_pick_f rfl rfl (v := .bool (decide (((((pcB ts).getD k []).length : Nat) : Int) < ((((pcB (ts.take (((((n : Nat) : Int) - m)).toNat))).getD k []).length : Nat) : Int)))) rfl) (tm' := [_,_,_,_,_,_,_,_,_,_,_,_,_,_,_,_,_,_,_,_,_,_,_,_,_,_,_,_,_,_,_,_,_,_,_,_,_,_,_,_,_,_,_,_,_,_,_,_,_,_,_,_,_,_,_,_,_,_,_,_,_,_,_,_,_,_,_,_,_,_,_,_,_,_,_,_,_,_,_,_,_,_,_,_,_,_,_,_,_,_,_,_,_,_,_,_,_,_,_,_,_,_]) rfl ?_
          refine swr_det (met_none rfl) (fun h_ H_ => exd_move (v := .bool (decide (((((pcB ts).getD k []).length : Nat) : Int) < ((((pcB (ts.take (((((n : Nat) : Int) - m)).toNat))).getD k []).length : Nat) : Int)))) rfl) rfl ?_
          refine swr_det (met_some rfl rfl (decide_eq_false (by have z_ := (B.pre k (by omega)).length_le; omega))) (fun h_ H_ => exd_move (v := .slice a10 ((pcB ts).length) cp11) rfl) (tm' := [_,_,_,_,_,_,_,_,_,_,_,_,_,_,_,_,_,_,_,_,_,_,_,_,_,_,_,_,_,_,_,_,_,_,_,_,_,_,_,_,_,_,_,_,_,_,_,_,_,_,_,_,_,_,_,_,_,_,_,_,_,_,_,_,_,_,_,_,_,_,_,_,_,_,_,_,_,_,_,_,_,_,_,_,_,_,_,_,_,_,_,_,_,_,_,_,_,_,_,_,_,_]) rfl ?_
          refine swr_det (met_some rfl rfl (decide_eq_false (by have z_ := (B.pre k (by omega)).length_le; omega))) (fun h_ H_ => exd_move (v := .int .i64 (((k : Nat) : Int))) rfl) rfl ?_
          refine swr_det (met_some rfl rfl (decide_eq_false (by have z_ := (B.pre k (by omega)).length_le; omega))) (fun h_ H_ => exd_indexAddrN (i := k) Tryd.underlying22 tS9 (sl_ne a10 ((pcB ts).length) cp11 (((show Strs _ _ _ (pcB ts) from D13).mono le17).ne (by omega))) rfl (by omega)) (tm' := [_,_,_,_,_,_,_,_,_,_,_,_,_,_,_,_,_,_,_,_,_,_,_,_,_,_,_,_,_,_,_,_,_,_,_,_,_,_,_,_,_,_,_,_,_,_,_,_,_,_,_,_,_,_,_,_,_,_,_,_,_,_,_,_,_,_,_,_,_,_,_,_,_,_,_,_,_,_,_,_,_,_,_,_,_,_,_,_,_,_,_,_,_,_,_,_,_,_,_,_,_,_]) rfl ?_
          refine swr_det (met_some rfl rfl (decide_eq_false (by have z_ := (B.pre k (by omega)).length_le; omega))) (fun h_ H_ => exd_load_per H_ tA9 rfl (v := sv ((pcB ts).getD k [])) (((show Strs _ _ _ (pcB ts) from D13).mono le17).get (by omega))) rfl ?_
          refine swr_det (met_some rfl rfl (decide_eq_false (by have z_ := (B.pre k (by omega)).length_le; omega))) (fun h_ H_ => exd_move (v := .slice a15 ((pcB (ts.take (((((n : Nat) : Int) - m)).toNat))).length) cp16) rfl) (tm' := [_,_,_,_,_,_,_,_,_,_,_,_,_,_,_,_,_,_,_,_,_,_,_,_,_,_,_,_,_,_,_,_,_,_,_,_,_,_,_,_,_,_,_,_,_,_,_,_,_,_,_,_,_,_,_,_,_,_,_,_,_,_,_,_,_,_,_,_,_,_,_,_,_,_,_,_,_,_,_,_,_,_,_,_,_,_,_,_,_,_,_,_,_,_,_,_,_,_,_,_,_,_]) rfl ?_
          refine swr_det (met_some rfl rfl (decide_eq_false (by have z_ := (B.pre k (by omega)).length_le; omega))) (fun h_ H_ => exd_move (v := .int .i64 (((k : Nat) : Int))) rfl) rfl ?_
          refine swr_det (met_some rfl rfl (decide_eq_false (by have z_ := (B.pre k (by omega)).length_le; omega))) (fun h_ H_ => exd_indexAddrN (i := k) Tryd.underlying22 tS9 (sl_ne a15 ((pcB (ts.take (((((n : Nat) : Int) - m)).toNat))).length) cp16 ((show Strs _ _ _ (pcB (ts.take (((((n : Nat) : Int) - m)).toNat))) from D18).ne (by omega))) rfl (by omega)) (tm' := [_,_,_,_,_,_,_,_,_,_,_,_,_,_,_,_,_,_,_,_,_,_,_,_,_,_,_,_,_,_,_,_,_,_,_,_,_,_,_,_,_,_,_,_,_,_,_,_,_,_,_,_,_,_,_,_,_,_,_,_,_,_,_,_,_,_,_,_,_,_,_,_,_,_,_,_,_,_,_,_,_,_,_,_,_,_,_,_,_,_,_,_,_,_,_,_,_,_,_,_,_,_]) rfl ?_
          refine swr_det (met_some rfl rfl (decide_eq_false (by have z_ := (B.pre k (by omega)).length_le; omega))) (fun h_ H_ => exd_load_per H_ tA9 rfl (v := sv ((pcB (ts.take (((((n : Nat) : Int) - m)).toNat))).getD k [])) ((show Strs _ _ _ (pcB (ts.take (((((n : Nat) : Int) - m)).toNat))) from D18).get (by omega))) rfl ?_
          refine swr_det (met_some rfl rfl (decide_eq_false (by have z_ := (B.pre k (by omega)).length_le; omega))) (fun h_ H_ => exd_lenS (l := (pcB (ts.take (((((n : Nat) : Int) - m)).toNat))).getD k []) Tryd.underlying9 rfl) (tm' := [_,_,_,_,_,_,_,_,_,_,_,_,_,_,_,_,_,_,_,_,_,_,_,_,_,_,_,_,_,_,_,_,_,_,_,_,_,_,_,_,_,_,_,_,_,_,_,_,_,_,_,_,_,_,_,_,_,_,_,_,_,_,_,_,_,_,_,_,_,_,_,_,_,_,_,_,_,_,_,_,_,_,_,_,_,_,_,_,_,_,_,_,_,_,_,_,_,_,_,_,_,_]) rfl ?_
          refine swr_det (met_some rfl rfl (decide_eq_false (by have z_ := (B.pre k (by omega)).length_le; omega))) (fun h_ H_ => exd_takeS (l := (pcB ts).getD k []) (r := ((pcB (ts.take (((((n : Nat) : Int) - m)).toNat))).getD k []).length) Tryd.underlying9 rfl (.nat (z := ((pcB (ts.take (((((n : Nat) : Int) - m)).toNat))).getD k []).length) _ rfl) (by first | omega | exact (B.pre k (by omega)).length_le)) rfl ?_
          refine swr_det (met_some rfl rfl (decide_eq_false (by have z_ := (B.pre k (by omega)).length_le; omega))) (fun h_ H_ => exd_move (v := .slice a15 ((pcB (ts.take (((((n : Nat) : Int) - m)).toNat))).length) cp16) rfl) (tm' := [_,_,_,_,_,_,_,_,_,_,_,_,_,_,_,_,_,_,_,_,_,_,_,_,_,_,_,_,_,_,_,_,_,_,_,_,_,_,_,_,_,_,_,_,_,_,_,_,_,_,_,_,_,_,_,_,_,_,_,_,_,_,_,_,_,_,_,_,_,_,_,_,_,_,_,_,_,_,_,_,_,_,_,_,_,_,_,_,_,_,_,_,_,_,_,_,_,_,_,_,_,_]) rfl ?_
          refine swr_det (met_some rfl rfl (decide_eq_false (by have z_ := (B.pre k (by omega)).length_le; omega))) (fun h_ H_ => exd_move (v := .int .i64 (((k : Nat) : Int))) rfl) rfl ?_
          refine swr_det (met_some rfl rfl (decide_eq_false (by have z_ := (B.pre k (by omega)).length_le; omega))) (fun h_ H_ => exd_indexAddrN (i := k) Tryd.underlying22 tS9 (sl_ne a15 ((pcB (ts.take (((((n : Nat) : Int) - m)).toNat))).length) cp16 ((show Strs _ _ _ (pcB (ts.take (((((n : Nat) : Int) - m)).toNat))) from D18).ne (by omega))) rfl (by omega)) (tm' := [_,_,_,_,_,_,_,_,_,_,_,_,_,_,_,_,_,_,_,_,_,_,_,_,_,_,_,_,_,_,_,_,_,_,_,_,_,_,_,_,_,_,_,_,_,_,_,_,_,_,_,_,_,_,_,_,_,_,_,_,_,_,_,_,_,_,_,_,_,_,_,_,_,_,_,_,_,_,_,_,_,_,_,_,_,_,_,_,_,_,_,_,_,_,_,_,_,_,_,_,_,_]) rfl ?_
          refine swr_det (met_some rfl rfl (decide_eq_false (by have z_ := (B.pre k (by omega)).length_le; omega))) (fun h_ H_ => exd_load_per H_ tA9 rfl (v := sv ((pcB (ts.take (((((n : Nat) : Int) - m)).toNat))).getD k [])) ((show Strs _ _ _ (pcB (ts.take (((((n : Nat) : Int) - m)).toNat))) from D18).get (by omega))) rfl ?_
          refine swr_nil rfl ?_
          refine rl_det (met_some rfl rfl (decide_eq_false (by have z_ := (B.pre k (by omega)).length_le; omega))) (fun h_ H_ => exd_neqS (l := ((pcB ts).getD k []).take (((pcB (ts.take (((((n : Nat) : Int) - m)).toNat))).getD k []).length)) (m := (pcB (ts.take (((((n : Nat) : Int) - m)).toNat))).getD k []) rfl rfl) rfl ?_
          refine rl_det (met_none rfl) (fun h_ H_ => exd_pick_f rfl (decide_eq_false (by have z_ := (B.pre k (by omega)).length_le; omega)) (v := .bool (!decide (((pcB ts).getD k []).take (((pcB (ts.take (((((n : Nat) : Int) - m)).toNat))).getD k []).length) = (pcB (ts.take (((((n : Nat) : Int) - m)).toNat))).getD k []))) rfl) rfl ?_
          refine rl_end ?_
          refine fl_else rfl (not_f (decide_eq_true (pre_take (B.pre k (by omega))))) ?_
          refine fl_skip ?_
          refine fl_inBlock ?_
          refine rl_start ?_
          refine rl_det (met_none rfl) (fun h_ H_ => exd_move (v := .int .i64 (((k : Nat) : Int))) rfl) (tm' := _::_::_::_::_::_::_::_::_::_::_::_::_::_::_::_::_::_::_::_::_::_::_::_::_::_::_::_::_::_::_::_::_::_::_::_::_::_::_::_::_::_::_::_::_::_::_::_::_::_::_::_::_::_::_) rfl ?_
          refine rl_det (met_none rfl) (fun h_ H_ => exd_add rfl rfl (n := ((k + 1 : Nat) : Int)) (wr (by omega))) rfl ?_
          refine rl_det (met_none rfl) (fun h_ H_ => exd_assign (v := .int .i64 (((k + 1 : Nat) : Int))) rfl) rfl ?_
          refine rl_end ?_
          exact fun h_ H_ => IH20 _ _ (by omega) h_ ⟨k + 1, rfl, (y_of rfl), (by omega), H_⟩
      · refine fl_else rfl (decide_eq_false cc21) ?_
        refine fl_exit rfl ?_
        refine fl_seq ?_
        refine rl_start ?_
        refine rl_calld (met_none rfl) (first := []) (cap := []) rfl rfl fC16 (fun h_ H_ => c16 _ (htab.keep H_.kept)) (tm' := [_,_,_,_,_,_,_,_,_,_,_,_,_,_,_,_,_,_,_,_,_,_,_,_,_,_,_,_,_,_,_,_,_,_,_,_,_,_,_,_,_,_,_,_,_,_,_,_,_,_,_,_,_,_,_,_,_,_,_,_,_,_,_,_,_,_,_,_,_,_,_,_,_,_,_,_,_,_,_,_,_,_,_,_,_,_,_,_,_,_,_,_,_,_,_,_,_,_,_,_,_,_]) rfl ?_
        refine rl_det (met_none rfl) (fun h_ H_ => exd_assign (v := .bool (true)) rfl) rfl ?_
        refine rl_end ?_
        refine fl_retL Tryd.func10 rfl (vs := [.bool (true)]) (fun h_ H_ => ⟨.bool (true), _, rfl, rfl, rfl⟩) (v := .bool (true)) rfl ?_
        exact fun h_ H_ => ⟨rfl, H_.kept⟩
    · refine fl_then rfl (not_t (decide_eq_false cc2)) ?_
      refine fl_seq ?_
      refine rl_start ?_
      refine rl_calld (met_none rfl) (first := []) (cap := []) rfl rfl fC16 (fun h_ H_ => c16 _ (htab.keep H_.kept)) rfl ?_
      refine rl_det (met_none rfl) (fun h_ H_ => exd_assign (v := .bool (true)) rfl) (tm' := _::_::_::_::_::_) rfl ?_
      refine rl_end ?_
      refine fl_retL Tryd.func10 rfl (vs := [.bool (true)]) (fun h_ H_ => ⟨.bool (true), _, rfl, rfl, rfl⟩) (v := .bool (true)) rfl ?_
      exact fun h_ H_ => ⟨rfl, H_.kept⟩
  · refine rl_pass (met_not rfl rfl (not_t (decide_eq_false cc1))) rfl ?_
    refine rl_pass (met_not rfl rfl (not_t (decide_eq_false cc1))) rfl ?_
    refine rl_pass (met_not rfl rfl (not_t (decide_eq_false cc1))) (tm' := _::_::_::_::_::_::_::_::_::_::_::_::_::_::_::_::_::_) rfl ?_
    refine rl_pass (met_not rfl rfl (not_t (decide_eq_false cc1))) rfl ?_
    refine rl_pass (met_not rfl rfl (not_t (decide_eq_false cc1))) rfl ?_
    refine rl_det (met_none rfl) (fun h_ H_ => exd_pick_t rfl (not_t (decide_eq_false cc1)) (v := .bool (true)) rfl) (tm' := _::_::_::_::_::_::_::_::_::_::_::_::_::_::_::_::_::_::_::_::_) rfl ?_
    refine rl_end ?_
    refine fl_then rfl rfl ?_
    refine fl_seq ?_
    refine rl_start ?_
    refine rl_calld (met_none rfl) (first := []) (cap := []) rfl rfl fC16 (fun h_ H_ => c16 _ (htab.keep H_.kept)) rfl ?_
    refine rl_det (met_none rfl) (fun h_ H_ => exd_assign (v := .bool (true)) rfl) rfl ?_
    refine rl_end ?_
    refine fl_retL Tryd.func10 rfl (vs := [.bool (true)]) (fun h_ H_ => ⟨.bool (true), _, rfl, rfl, rfl⟩) (v := .bool (true)) rfl ?_
    exact fun h_ H_ => ⟨rfl, H_.kept⟩
end Go.Proofs.YtiinpnlfdeiloaaDoor
namespace Go.Proofs.YtiinpnlfdeiloaaDoor
open Go.X Go.X.Cent Go.Conc Go.RowKit Go.ChangeShapes Go.WideShapes Go.ChangeAt Go.Joins
set_option maxRecDepth 100000

theorem lifted10 (os : Os) (started : os.Started) (H : Type) (enc : TypeId × Value → H) :
    ReturnsInHanded {} Tryd.checked os 10 .any (fun w args => (Rows.centuryBeginsSpec.pre enc Tryd.prog Tryd.f10 Rows.centuryBeginsRow.domain false w args ∧ laidMetH Tryd.prog Rows.centuryBeginsRow.laid w) ∧ sizedMet enc Tryd.prog Tryd.f10 (OpenSpec.ofChange Rows.centuryBeginsSpec) false w args) (Rows.centuryBeginsSpec.post enc Tryd.prog Tryd.f10 false true false false) := by
  refine returnsInHanded_of_change_and (C := Tryd.checked) (X := fun w _ => laidMetH Tryd.prog Rows.centuryBeginsRow.laid w) (fun _ _ _ hh h => h.of_heap hh) pOwn started (by kernel_rfl) Tryd.func10
    (ChangeSpec.witness_shaped (enc := enc) (C := Tryd.checked) (os := os) (X := fun w _ => laidMetH Tryd.prog Rows.centuryBeginsRow.laid w) false (laidW os) #[.slice none 0 0, .int .i64 0] 8 (World.laidAll_os _ _ _)
      (World.shaped_of_ZipB (by kernel_rfl) (by kernel_rfl)) (by kernel_rfl) (by kernel_rfl) (by kernel_rfl) (laidW_met os _)) ?_
  intro W base args ds gs before hval0 hW _ _ hL _
  have hval : ∀ (j : Nat) t v, Tryd.f10.params[j]? = some t → args[j]? = some v → Value.okWide Tryd.prog W .any base t v := hval0
  have hW2 := hW
  obtain ⟨p, q, hA0, hV, rfl, _, _⟩ := hW2
  have hA : DataW.TrodAll enc Tryd.prog W 0 (fun _ => true) true Tryd.f10.params.toList args.toList ds p := hA0
  rw [Tryd.params10] at hA hval
  obtain ⟨v0, v1, d0, d1, p0, p1, rfl, rfl, _, h0, h1⟩ := trodAll_two hA
  obtain ⟨rfl, rfl⟩ := trodVars_none hV
  obtain ⟨a, n, c, ts, rfl, hn, hc, T⟩ := open_textsC (hval 0 22 v0 rfl rfl) h0
  obtain ⟨k, rfl, hk⟩ := open_num (hval 1 3 v1 rfl rfl) h1
  refine (calls_of_enters (e10 W.heap (pW W) (pW_per W) (tab_of_laid hL) a n c ts T hn hc k hk)).mono fun e W2 ⟨v, he, ⟨hv, hk_⟩, cl⟩ => ⟨v, he, ?_⟩
  subst hv
  exact law_post pLaid rfl (fun t ht => by rw [Tryd.params10] at ht; revert t; decide +kernel) rfl Tryd.underlying4 hW rfl (below_of hk_ cl)

theorem centuryBeginsRowHolds : Rows.CenturyBeginsSaid :=
  OpenClaim.holds_of_wide 10 Tryd.f10 rfl rfl rfl rfl rfl rfl rfl ⟨rfl, rfl, rfl, rfl, rfl⟩ rfl rfl rfl rfl rfl (by kernel_rfl) Tryd.func10 (by kernel_rfl)
    (of_decide_eq_true (by kernel_rfl)) (by unfold Func.isWrapper; first | (rw [if_pos (by decide +kernel)]; kernel_rfl) | (rw [if_neg (by decide +kernel)]; exact ⟨rfl, rfl⟩))
    (fun os started H enc _ => lifted10 os started H enc)

theorem centuryBeginsHolds : Rows.CenturyBeginsCardSaid :=
  Claim7.holds_tied_plain_at .later [] [.data, .data, .data, .data, .pinned] true (true, "d19a88c3556340bf03c70abcf51311f6c04bc6278884da2732a7a561c1b64cb8") false centuryBeginsRowHolds (fun _ h => by cases h) (by kernel_rfl) (fun _ h => by cases h) centuryBegins_row_tie rfl ⟨rfl, rfl⟩ (by kernel_rfl) rfl
    (fun f fn hf hfn => by
      obtain rfl : f = 10 := Option.some.inj ((show Tryd.prog.funcNamed "steening/steeninglaw14.CenturyBegins" = some 10 by kernel_rfl).symm.trans hf) |>.symm
      obtain rfl : fn = Tryd.f10 := (Option.some.inj (Tryd.func10.symm.trans hfn)).symm
      exact ⟨by kernel_rfl, fun j t ht => by
        rw [Tryd.params10] at ht
        have hm : t ∈ [22, 3] := by simpa using Array.mem_of_getElem? ht
        have hall : ([22, 3].all fun u => !Tryd.prog.wantsStandIn u) = true := by kernel_rfl
        exact (show Tryd.prog.wantsStandIn t = false by simpa using List.all_eq_true.1 hall t hm)⟩)
    (by kernel_rfl)

#print axioms centuryBeginsHolds
end Go.Proofs.YtiinpnlfdeiloaaDoor
