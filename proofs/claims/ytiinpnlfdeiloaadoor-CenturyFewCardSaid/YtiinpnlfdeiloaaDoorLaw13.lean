/-
  CenturyFew, for every input: the law returns true and leaves its arguments as they were. The row, and the tied card.
-/
import Derived.Test.YtiinpnlfdeiloaaDoorD2
import Derived.Test.YtiinpnlfdeiloaaDoorD4
import Derived.Test.YtiinpnlfdeiloaaDoorD1
import Derived.Test.YtiinpnlfdeiloaaDoorCards
import Derived.Test.YtiinpnlfdeiloaaDoorTie
namespace Go.Proofs.YtiinpnlfdeiloaaDoor
open Go.X Go.X.Cent Go.Conc
set_option maxRecDepth 10000
set_option synthInstance.maxSize 2000
set_option synthInstance.maxHeartbeats 400000

set_option maxHeartbeats 2000000
theorem e13 (h : Heap) (p : PHeap) (hp : Per p h) (htab : Tab h) (a : Option Addr) (n c : Nat) (ts : List By) (T : Strs p a n ts) (hn : n ≤ 9223372036854775807) (m : Int) (hm : -9223372036854775808 ≤ m ∧ m ≤ 9223372036854775807) : EntersL Tryd.prog 13 #[.slice a n c, .int .i64 (m)] h fun v h' => v = .bool true ∧ Keep h h' := by
  refine enters_introL (Φ := fun h_ => St h [] p h_ []) Tryd.func13 rfl (tm := [_, _, _, _, _, _, _, _, _, _, _, _, _, _, _, _, _, _, _, _, _, _, _, _, _, _, _, _, _, _, _, _, _, _, _, _, _, _, _, _, _, _, _, _, _, _, _, _, _, _, _, _, _, _, _, _, _, _, _, _, _, _, _, _, _, _, _, _, _, _, _, _, _, _, _, _, _, _, _, _, _, _, _, _, _, _, _, _, _, _, _, _, _, _, _, _]) rfl ?_ (St.start h _ hp)
  intro cs
  have hl := T.len
  refine fl_seq ?_
  refine rl_start ?_
  refine rl_det (met_none rfl) (fun h_ H_ => exd_assign (v := .bool (false)) rfl) rfl ?_
  refine rl_end ?_
  refine fl_seq ?_
  refine fl_seq ?_
  refine rl_start ?_
  refine rl_det (met_none rfl) (fun h_ H_ => exd_move (v := .slice a n c) rfl) rfl ?_
  refine rl_calld (met_none rfl) (first := []) (cap := []) rfl rfl fC15 (fun h_ H_ => c15 _ _ (fun b_ o_ e_ => H_.per b_ o_ e_) a n _ ts T (by first | omega | (rw [List.length_replicate]; omega))) (tm' := _::_::_::_::_::_::_::_::_::_::_::_::_::_::_::_::_) rfl ?_
  refine rl_det (met_none rfl) (fun h_ H_ => exd_not rfl) rfl ?_
  refine rl_det (met_none rfl) (fun h_ H_ => exd_move (v := .bool (!(decide (readyT ts)))) rfl) rfl ?_
  by_cases cc1 : readyT ts
  · refine rl_det (met_some rfl rfl (not_f (decide_eq_true cc1))) (fun h_ H_ => exd_move (v := .int .i64 (m)) rfl) (tm' := _::_::_::_::_::_::_::_::_::_::_::_::_::_::_::_::_::_::_::_) rfl ?_
    refine rl_calld (met_some rfl rfl (not_f (decide_eq_true cc1))) (first := []) (cap := []) rfl rfl fC22 (fun h_ H_ => c22 .lone _ (m) (0) (20)) rfl ?_
    refine rl_det (met_some rfl rfl (not_f (decide_eq_true cc1))) (fun h_ H_ => exd_not rfl) rfl ?_
    refine rl_det (met_none rfl) (fun h_ H_ => exd_pick_f rfl (not_f (decide_eq_true cc1)) (v := .bool (!(decide (0 ≤ m ∧ m ≤ 20)))) rfl) (tm' := _::_::_::_::_::_::_::_::_::_::_::_::_::_::_::_::_::_::_::_::_::_::_) rfl ?_
    refine rl_end ?_
    by_cases cc2 : 0 ≤ m ∧ m ≤ 20
    · refine fl_else rfl (not_f (decide_eq_true cc2)) ?_
      refine fl_skip ?_
      refine fl_seq ?_
      have hrd := ‹readyT ts›
      have hnf := far_facts T hrd.1
      obtain ⟨hn60, ht200, hta⟩ := hnf
      have ht0 : ∀ i, i < n → (ts.getD i []).length ≤ 2 ^ 60 := not_far T hrd.1
      have ht1 : ∀ i, i < ts.length → (ts.getD i []).length ≤ 2 ^ 60 := fun i hi => ht0 i (by omega)
      have hwl : (writeB ts).1.length ≤ 2 ^ 60 := write_len hrd.2
      have h20 := (chk_good hrd.2).1
      have hw200 := ht200
      have hm20 : 0 ≤ m ∧ m ≤ 20 := by assumption
      have hce := empty_chk (m := m.toNat) (by omega)
      have hte : ∀ i, i < (List.replicate m.toNat ([] : By)).length → ((List.replicate m.toNat ([] : By)).getD i []).length ≤ 2 ^ 60 := fun i hi => by have z_ := ((chk_good hce).2 _ (gmem (d := []) hi)).1; omega
      have hpb := pc_len (fun z_ : chkT ts ≠ 0 => z_ hrd.2)
      have hq : ∀ i, i < (pcB ts).length → ((pcB ts).getD i []).length ≤ 1000 := long_pc (fun z_ : chkT ts ≠ 0 => z_ hrd.2)
      refine rl_start ?_
      refine rl_det (met_none rfl) (fun h_ H_ => exd_move (v := .slice a n c) rfl) rfl ?_
      refine rl_own (L' := ([] : Pcs) ++ []) rfl ?_
      refine rl_call (met_none rfl) (first := []) (cap := []) rfl rfl fC41 (R := fun v_ h_ => ∃ w3 : Value, ∃ X4 : Pcs, v_ = .tuple #[w3, .bool (decide (chkT ts = 0))] ∧ (OwnS 9 1 w3 (scs (pcB ts)) X4) ∧ St h [] p h_ (([] : Pcs) ++ (X4 ++ []))) (fun h_ H_ => (c41 _ _ (fun b_ o_ e_ => H_.per b_ o_ e_) a n _ ts T (by first | omega | (rw [List.length_replicate]; omega)) (by first | exact ht0 | exact ht1 | exact hte)).mono fun v_ h2_ ⟨w3, X4, e_, o5, N_⟩ => ⟨w3, X4, e_, o5, H_.callNA N_⟩) fun v_ => ?_
      refine rl_ex fun w3 => rl_ex fun X4 => rl_and fun ev_ => rl_and fun o5 => ?_
      have ev_ := ev_.symm; subst ev_
      refine rl_own (L' := ([] : Pcs) ++ (X4 ++ [])) rfl ?_
      refine rl_det (met_none rfl) (fun h_ H_ => exd_move (v := .tuple #[w3, .bool (decide (chkT ts = 0))]) rfl) (tm' := _::_::_::_::_::_::_::_::_::_::_::_::_::_::_::_::_::_::_::_::_::_::_::_::_) rfl ?_
      refine rl_det (met_none rfl) (fun h_ H_ => exd_extract rfl (v := w3) rfl) rfl ?_
      refine rl_det (met_none rfl) (fun h_ H_ => exd_extract rfl (v := .bool (decide (chkT ts = 0))) rfl) rfl ?_
      refine rl_det (met_none rfl) (fun h_ H_ => exd_assign (v := w3) rfl) (tm' := _::_::_::_::_::_::_) rfl ?_
      refine rl_det (met_none rfl) (fun h_ H_ => exd_assign (v := .bool (decide (chkT ts = 0))) rfl) rfl ?_
      refine rl_end ?_
      refine fl_seq ?_
      refine rl_start ?_
      refine rl_det (met_none rfl) (fun h_ H_ => exd_move (v := .int .i64 (m)) rfl) rfl ?_
      refine rl_makeZ ([] : Pcs) (met_none rfl) Tryd.underlying22 tS9 tZ9 (z1 := sv ([] : List UInt8)) rfl tB9 (m := m) rfl rfl (by omega) (by omega) (by decide) fun v6 X7 o8 => ?_
      have o9 : OwnS 9 1 v6 (scs (List.replicate m.toNat ([] : By))) X7 := o8.as (rep_scs _)
      refine rl_norm (tm' := _::_::_::_::_::_::_::_::_::_::_::_::_::_::_::_::_::_::_::_::_::_::_::_::_::_::_::_::_::_::_::_) rfl ?_
      refine rl_lastN (A := ([] : Pcs)) o9 (scs_length _) fun p10 a11 cp12 le13 ev_ D14 => ?_
      subst ev_
      refine rl_call (met_none rfl) (first := []) (cap := []) rfl rfl fC41 (R := fun v_ h_ => ∃ w15 : Value, ∃ X16 : Pcs, v_ = .tuple #[w15, .bool (decide (chkT (List.replicate m.toNat ([] : By)) = 0))] ∧ (OwnS 9 1 w15 (scs (pcB (List.replicate m.toNat ([] : By)))) X16) ∧ St h [] p10 h_ (([] : Pcs) ++ (X16 ++ (X4 ++ [])))) (fun h_ H_ => (c41 _ _ (fun b_ o_ e_ => H_.per b_ o_ e_) a11 ((List.replicate m.toNat ([] : By)).length) _ (List.replicate m.toNat ([] : By)) (show Strs _ _ _ (List.replicate m.toNat ([] : By)) from D14) (by first | omega | (rw [List.length_replicate]; omega)) (by first | exact ht0 | exact ht1 | exact hte)).mono fun v_ h2_ ⟨w15, X16, e_, o17, N_⟩ => ⟨w15, X16, e_, o17, H_.callNA N_⟩) fun v_ => ?_
      refine rl_ex fun w15 => rl_ex fun X16 => rl_and fun ev_ => rl_and fun o17 => ?_
      have ev_ := ev_.symm; subst ev_
      refine rl_own (L' := ([] : Pcs) ++ (X16 ++ (X4 ++ []))) rfl ?_
      refine rl_det (met_none rfl) (fun h_ H_ => exd_move (v := .tuple #[w15, .bool (decide (chkT (List.replicate m.toNat ([] : By)) = 0))]) rfl) rfl ?_
      refine rl_det (met_none rfl) (fun h_ H_ => exd_extract rfl (v := w15) rfl) (tm' := _::_::_::_::_::_::_::_::_::_::_::_::_::_::_::_::_::_::_::_::_::_::_::_::_::_::_::_::_::_::_::_::_::_) rfl ?_
      refine rl_det (met_none rfl) (fun h_ H_ => exd_extract rfl (v := .bool (decide (chkT (List.replicate m.toNat ([] : By)) = 0))) rfl) rfl ?_
      refine rl_det (met_none rfl) (fun h_ H_ => exd_assign (v := w15) rfl) rfl ?_
      refine rl_det (met_none rfl) (fun h_ H_ => exd_assign (v := .bool (decide (chkT (List.replicate m.toNat ([] : By)) = 0))) rfl) (tm' := _::_::_::_::_::_::_::_::_::_) rfl ?_
      refine rl_end ?_
      refine fl_seq ?_
      refine rl_start ?_
      refine rl_det (met_none rfl) (fun h_ H_ => exd_move (v := .slice a n c) rfl) rfl ?_
      refine rl_calld (met_none rfl) (first := []) (cap := []) rfl rfl fC44 (fun h_ H_ => c44 _ _ (fun b_ o_ e_ => H_.per b_ o_ e_)  a n _ ts (T.mono le13) (by first | omega | (rw [List.length_replicate]; omega)) (by first | exact ht0 | exact ht1 | exact hte)) rfl ?_
      refine rl_det (met_none rfl) (fun h_ H_ => exd_move (v := .tuple #[.int .i64 (((longB (pcB ts) : Nat) : Int)), .int .i64 (chkT ts)]) rfl) (tm' := _::_::_::_::_::_::_::_::_::_::_::_::_::_::_::_::_::_::_::_::_::_::_::_::_::_::_::_::_::_::_::_::_::_::_::_) rfl ?_
      refine rl_det (met_none rfl) (fun h_ H_ => exd_extract rfl (v := .int .i64 (((longB (pcB ts) : Nat) : Int))) rfl) rfl ?_
      refine rl_det (met_none rfl) (fun h_ H_ => exd_extract rfl (v := .int .i64 (chkT ts)) rfl) rfl ?_
      refine rl_det (met_none rfl) (fun h_ H_ => exd_assign (v := .int .i64 (((longB (pcB ts) : Nat) : Int))) rfl) (tm' := _::_::_::_::_::_::_::_::_::_::_) rfl ?_
      refine rl_det (met_none rfl) (fun h_ H_ => exd_assign (v := .int .i64 (chkT ts)) rfl) rfl ?_
      refine rl_end ?_
      refine fl_seq ?_
      refine fl_seq ?_
      refine rl_start ?_
      refine rl_det (met_none rfl) (fun h_ H_ => exd_move (v := .bool (decide (chkT ts = 0))) rfl) rfl ?_
      refine rl_det (met_none rfl) (fun h_ H_ => exd_not rfl) (tm' := _::_::_::_::_::_::_::_::_::_::_::_::_::_::_::_::_::_::_::_::_::_::_::_::_::_::_::_::_::_::_::_::_::_::_::_::_::_::_::_::_::_) rfl ?_
      refine rl_det (met_none rfl) (fun h_ H_ => exd_move (v := .bool (!(decide (chkT ts = 0)))) rfl) rfl ?_
      refine rl_det (met_some rfl rfl (not_f (decide_eq_true hrd.2))) (fun h_ H_ => exd_move (v := .bool (decide (chkT (List.replicate m.toNat ([] : By)) = 0))) rfl) rfl ?_
      refine rl_det (met_some rfl rfl (not_f (decide_eq_true hrd.2))) (fun h_ H_ => exd_not rfl) (tm' := _::_::_::_::_::_::_::_::_::_::_::_::_::_::_::_::_::_::_::_::_::_::_::_::_::_::_::_::_::_::_::_::_::_::_::_::_::_::_::_::_::_::_::_::_) rfl ?_
      refine rl_det (met_none rfl) (fun h_ H_ => exd_pick_f rfl (not_f (decide_eq_true hrd.2)) (v := .bool (!(decide (chkT (List.replicate m.toNat ([] : By)) = 0)))) rfl) rfl ?_
      refine rl_det (met_none rfl) (fun h_ H_ => exd_move (v := .bool (!(decide (chkT (List.replicate m.toNat ([] : By)) = 0)))) rfl) rfl ?_
      refine rl_det (met_some rfl rfl (not_f (decide_eq_true hce))) (fun h_ H_ => exd_move (v := .int .i64 (chkT ts)) rfl) (tm' := _::_::_::_::_::_::_::_::_::_::_::_::_::_::_::_::_::_::_::_::_::_::_::_::_::_::_::_::_::_::_::_::_::_::_::_::_::_::_::_::_::_::_::_::_::_::_::_) rfl ?_
      refine rl_det (met_some rfl rfl (not_f (decide_eq_true hce))) (fun h_ H_ => exd_neq rfl rfl) rfl ?_
      refine rl_det (met_none rfl) (fun h_ H_ => exd_pick_f rfl (not_f (decide_eq_true hce)) (v := .bool (decide (chkT ts ≠ 0))) rfl) rfl ?_
      refine rl_det (met_none rfl) (fun h_ H_ => exd_move (v := .bool (decide (chkT ts ≠ 0))) rfl) (tm' := _::_::_::_::_::_::_::_::_::_::_::_::_::_::_::_::_::_::_::_::_::_::_::_::_::_::_::_::_::_::_::_::_::_::_::_::_::_::_::_::_::_::_::_::_::_::_::_::_::_::_) rfl ?_
      refine rl_det (met_some rfl rfl (decide_eq_false (fun z_ => z_ hrd.2))) (fun h_ H_ => exd_move (v := w3) rfl) rfl ?_
      refine rl_det (met_some rfl rfl (decide_eq_false (fun z_ => z_ hrd.2))) (fun h_ H_ => exd_lenN o5 (scs_length _) Tryd.underlying22 rfl) rfl ?_
      refine rl_det (met_some rfl rfl (decide_eq_false (fun z_ => z_ hrd.2))) (fun h_ H_ => exd_move (v := w3) rfl) (tm' := _::_::_::_::_::_::_::_::_::_::_::_::_::_::_::_::_::_::_::_::_::_::_::_::_::_::_::_::_::_::_::_::_::_::_::_::_::_::_::_::_::_::_::_::_::_::_::_::_::_::_::_::_::_) rfl ?_
      refine rl_det (met_some rfl rfl (decide_eq_false (fun z_ => z_ hrd.2))) (fun h_ H_ => exd_lenN o5 (scs_length _) Tryd.underlying22 rfl) rfl ?_
      refine rl_det (met_some rfl rfl (decide_eq_false (fun z_ => z_ hrd.2))) (fun h_ H_ => exd_add rfl rfl (n := ((((pcB ts).length) + 1 : Nat) : Int)) (wr (by omega))) rfl ?_
      refine rl_det (met_some rfl rfl (decide_eq_false (fun z_ => z_ hrd.2))) (fun h_ H_ => exd_mul rfl rfl (wr (by first | omega | exact tri_bound (by omega) | exact tri_div (by omega)))) (tm' := _::_::_::_::_::_::_::_::_::_::_::_::_::_::_::_::_::_::_::_::_::_::_::_::_::_::_::_::_::_::_::_::_::_::_::_::_::_::_::_::_::_::_::_::_::_::_::_::_::_::_::_::_::_::_::_::_) rfl ?_
      refine rl_det (met_some rfl rfl (decide_eq_false (fun z_ => z_ hrd.2))) (fun h_ H_ => exd_quo rfl rfl (by decide) (n := ((((pcB ts).length : Nat) : Int) * ((((pcB ts).length) + 1 : Nat) : Int)) / 2) ((congrArg _ (Int.tdiv_eq_ediv_of_nonneg tri_nonneg)).trans (wr (tri_div (by omega))))) rfl ?_
      refine rl_det (met_some rfl rfl (decide_eq_false (fun z_ => z_ hrd.2))) (fun h_ H_ => exd_move (v := .slice a n c) rfl) rfl ?_
      refine rl_calld (met_some rfl rfl (decide_eq_false (fun z_ => z_ hrd.2))) (first := []) (cap := []) rfl rfl fC31 (fun h_ H_ => c31 .lone _ _ (fun b_ o_ e_ => H_.per b_ o_ e_) a n _ ts (T.mono le13) (by omega) hw200) (tm' := _::_::_::_::_::_::_::_::_::_::_::_::_::_::_::_::_::_::_::_::_::_::_::_::_::_::_::_::_::_::_::_::_::_::_::_::_::_::_::_::_::_::_::_::_::_::_::_::_::_::_::_::_::_::_::_::_::_::_::_) rfl ?_
      refine rl_det (met_some rfl rfl (decide_eq_false (fun z_ => z_ hrd.2))) (fun h_ H_ => exd_lenS (l := wholeB ts) Tryd.underlying9 rfl) rfl ?_
      refine rl_det (met_some rfl rfl (decide_eq_false (fun z_ => z_ hrd.2))) (fun h_ H_ => exd_lss rfl rfl) rfl ?_
      refine rl_det (met_none rfl) (fun h_ H_ => exd_pick_f rfl (decide_eq_false (fun z_ => z_ hrd.2)) (v := .bool (decide (((((pcB ts).length : Nat) : Int) * ((((pcB ts).length) + 1 : Nat) : Int)) / 2 < (((wholeB ts).length : Nat) : Int)))) rfl) (tm' := _::_::_::_::_::_::_::_::_::_::_::_::_::_::_::_::_::_::_::_::_::_::_::_::_::_::_::_::_::_::_::_::_::_::_::_::_::_::_::_::_::_::_::_::_::_::_::_::_::_::_::_::_::_::_::_::_::_::_::_::_::_::_) rfl ?_
      refine rl_end ?_
      refine fl_else rfl (decide_eq_false (Int.not_lt.2 (whole_low hrd.2))) ?_
      refine fl_skip ?_
      refine fl_seq ?_
      refine rl_start ?_
      refine rl_det (met_none rfl) (fun h_ H_ => exd_assign (v := .int .i64 0) rfl) rfl ?_
      refine rl_end ?_
      refine fl_seq ?_
      refine fl_seq ?_
      refine rl_start ?_
      refine rl_det (met_none rfl) (fun h_ H_ => exd_assign (v := .int .i64 0) rfl) rfl ?_
      refine rl_end ?_
      refine fl_block ?_
      refine fl_loop (m₀ := (pcB ts).length - 0) (fun m_ tm_ h_ => ∃ (k : Nat) (z : Int), m_ = (pcB ts).length - k ∧ (∃ y18 : Nat → Value, tm_ = [.slice a n c, .int .i64 (m), undef, undef, .bool (false), w3, .bool (decide (chkT ts = 0)), w15, .bool (decide (chkT (List.replicate m.toNat ([] : By)) = 0)), .int .i64 (((longB (pcB ts) : Nat) : Int)), .int .i64 (chkT ts), .int .i64 (z), .int .i64 (((k : Nat) : Int)), undef, .slice a n c, .bool (decide (readyT ts)), .bool (!(decide (readyT ts))), .bool (!(decide (readyT ts))), .int .i64 (m), .bool (decide (0 ≤ m ∧ m ≤ 20)), .bool (!(decide (0 ≤ m ∧ m ≤ 20))), .bool (!(decide (0 ≤ m ∧ m ≤ 20))), undef, .tuple #[w3, .bool (decide (chkT ts = 0))], .slice a n c, .tuple #[w3, .bool (decide (chkT ts = 0))], w3, .bool (decide (chkT ts = 0)), .tuple #[w15, .bool (decide (chkT (List.replicate m.toNat ([] : By)) = 0))], .int .i64 (m), .slice a11 ((List.replicate m.toNat ([] : By)).length) cp12, .tuple #[w15, .bool (decide (chkT (List.replicate m.toNat ([] : By)) = 0))], w15, .bool (decide (chkT (List.replicate m.toNat ([] : By)) = 0)), .tuple #[.int .i64 (((longB (pcB ts) : Nat) : Int)), .int .i64 (chkT ts)], .slice a n c, .tuple #[.int .i64 (((longB (pcB ts) : Nat) : Int)), .int .i64 (chkT ts)], .int .i64 (((longB (pcB ts) : Nat) : Int)), .int .i64 (chkT ts), .bool (decide (chkT ts = 0)), .bool (!(decide (chkT ts = 0))), .bool (!(decide (chkT ts = 0))), .bool (decide (chkT (List.replicate m.toNat ([] : By)) = 0)), .bool (!(decide (chkT (List.replicate m.toNat ([] : By)) = 0))), .bool (!(decide (chkT (List.replicate m.toNat ([] : By)) = 0))), .bool (!(decide (chkT (List.replicate m.toNat ([] : By)) = 0))), .int .i64 (chkT ts), .bool (decide (chkT ts ≠ 0)), .bool (decide (chkT ts ≠ 0)), .bool (decide (chkT ts ≠ 0)), w3, .int .i64 ((((pcB ts).length : Nat) : Int)), w3, .int .i64 ((((pcB ts).length : Nat) : Int)), .int .i64 (((((pcB ts).length) + 1 : Nat) : Int)), .int .i64 ((((pcB ts).length : Nat) : Int) * ((((pcB ts).length) + 1 : Nat) : Int)), .int .i64 (((((pcB ts).length : Nat) : Int) * ((((pcB ts).length) + 1 : Nat) : Int)) / 2), .slice a n c, sv (wholeB ts), .int .i64 ((((wholeB ts).length : Nat) : Int)), .bool (decide (((((pcB ts).length : Nat) : Int) * ((((pcB ts).length) + 1 : Nat) : Int)) / 2 < (((wholeB ts).length : Nat) : Int))), .bool (decide (((((pcB ts).length : Nat) : Int) * ((((pcB ts).length) + 1 : Nat) : Int)) / 2 < (((wholeB ts).length : Nat) : Int))), (y18 62), (y18 63), (y18 64), (y18 65), (y18 66), (y18 67), (y18 68), (y18 69), (y18 70), (y18 71), (y18 72), (y18 73), (y18 74), undef, undef, undef, undef, undef, undef, undef, undef, undef, undef, undef, undef, undef, undef, undef, undef, undef, undef, undef, undef, undef]) ∧ (k ≤ (pcB ts).length) ∧ (z = ((longB ((pcB ts).take k) : Nat) : Int)) ∧ St h [] p10 h_ (([] : Pcs) ++ (X16 ++ (X4 ++ [])))) (fun h_ H_ => ⟨0, 0, rfl, (y_of rfl), Nat.zero_le _, (by simp [longB]), H_⟩) ?_
      intro m_ tm_ IH19
      refine rs_ex fun k => rs_ex fun z => rs_and fun hm_ => rs_and fun ht_ => rs_and fun hk => rs_and fun hz => ?_
      subst hm_; obtain ⟨y18, ht_⟩ := ht_; subst ht_
      refine fl_seq ?_
      refine fl_seq ?_
      refine rl_start ?_
      refine rl_det (met_none rfl) (fun h_ H_ => exd_move (v := .int .i64 (((k : Nat) : Int))) rfl) (tm' := _::_::_::_::_::_::_::_::_::_::_::_::_::_::_::_::_::_::_::_::_::_::_::_::_::_::_::_::_::_::_::_::_::_::_::_::_::_::_::_::_::_::_::_::_::_::_::_::_::_::_::_::_::_::_::_::_::_::_::_::_::_::_::_) rfl ?_
      refine rl_det (met_none rfl) (fun h_ H_ => exd_move (v := w3) rfl) rfl ?_
      refine rl_det (met_none rfl) (fun h_ H_ => exd_lenN o5 (scs_length _) Tryd.underlying22 rfl) rfl ?_
      refine rl_det (met_none rfl) (fun h_ H_ => exd_lss rfl rfl) (tm' := [_,_,_,_,_,_,_,_,_,_,_,_,_,_,_,_,_,_,_,_,_,_,_,_,_,_,_,_,_,_,_,_,_,_,_,_,_,_,_,_,_,_,_,_,_,_,_,_,_,_,_,_,_,_,_,_,_,_,_,_,_,_,_,_,_,_,_,_,_,_,_,_,_,_,_,_,_,_,_,_,_,_,_,_,_,_,_,_,_,_,_,_,_,_,_,_]) rfl ?_
      refine rl_end ?_
      by_cases cc20 : ((k : Nat) : Int) < (((pcB ts).length : Nat) : Int)
      · refine fl_then rfl (decide_eq_true cc20) ?_
        refine fl_skip ?_
        refine fl_seq ?_
        refine fl_block ?_
        have hqk := hq k (by omega)
        refine rl_start ?_
        refine rl_det (met_none rfl) (fun h_ H_ => exd_move (v := .int .i64 (z)) rfl) rfl ?_
        refine rl_det (met_none rfl) (fun h_ H_ => exd_move (v := w3) rfl) rfl ?_
        refine rl_det (met_none rfl) (fun h_ H_ => exd_move (v := .int .i64 (((k : Nat) : Int))) rfl) (tm' := [_,_,_,_,_,_,_,_,_,_,_,_,_,_,_,_,_,_,_,_,_,_,_,_,_,_,_,_,_,_,_,_,_,_,_,_,_,_,_,_,_,_,_,_,_,_,_,_,_,_,_,_,_,_,_,_,_,_,_,_,_,_,_,_,_,_,_,_,_,_,_,_,_,_,_,_,_,_,_,_,_,_,_,_,_,_,_,_,_,_,_,_,_,_,_,_]) rfl ?_
        refine rl_det (met_none rfl) (fun h_ H_ => exd_indexO o5 Tryd.underlying22 tS9 rfl rfl (by rw [(scs_length _)]; omega)) rfl ?_
        refine rl_det (met_none rfl) (fun h_ H_ => exd_loadM (i := k) (j := 0) (e := [sv ((pcB ts).getD k [])]) o5 H_ (fun x_ h_ => by simp [h_]) tA9 rfl rfl (scs_at (by omega)) (u := sv ((pcB ts).getD k [])) rfl) rfl ?_
        refine rl_det (met_none rfl) (fun h_ H_ => exd_lenS (l := (pcB ts).getD k []) Tryd.underlying9 rfl) (tm' := [_,_,_,_,_,_,_,_,_,_,_,_,_,_,_,_,_,_,_,_,_,_,_,_,_,_,_,_,_,_,_,_,_,_,_,_,_,_,_,_,_,_,_,_,_,_,_,_,_,_,_,_,_,_,_,_,_,_,_,_,_,_,_,_,_,_,_,_,_,_,_,_,_,_,_,_,_,_,_,_,_,_,_,_,_,_,_,_,_,_,_,_,_,_,_,_]) rfl ?_
        refine rl_det (met_none rfl) (fun h_ H_ => exd_max rfl rfl) rfl ?_
        refine rl_det (met_none rfl) (fun h_ H_ => exd_assign (v := .int .i64 (max z ((((pcB ts).getD k []).length : Nat) : Int))) rfl) rfl ?_
        refine rl_end ?_
        refine fl_inBlock ?_
        refine rl_start ?_
        refine rl_det (met_none rfl) (fun h_ H_ => exd_move (v := .int .i64 (((k : Nat) : Int))) rfl) (tm' := [_,_,_,_,_,_,_,_,_,_,_,_,_,_,_,_,_,_,_,_,_,_,_,_,_,_,_,_,_,_,_,_,_,_,_,_,_,_,_,_,_,_,_,_,_,_,_,_,_,_,_,_,_,_,_,_,_,_,_,_,_,_,_,_,_,_,_,_,_,_,_,_,_,_,_,_,_,_,_,_,_,_,_,_,_,_,_,_,_,_,_,_,_,_,_,_]) rfl ?_
        refine rl_det (met_none rfl) (fun h_ H_ => exd_add rfl rfl (n := ((k + 1 : Nat) : Int)) (wr (by omega))) rfl ?_
        refine rl_det (met_none rfl) (fun h_ H_ => exd_assign (v := .int .i64 (((k + 1 : Nat) : Int))) rfl) rfl ?_
        refine rl_end ?_
        exact fun h_ H_ => IH19 _ _ (by omega) h_ ⟨k + 1, max z ((((pcB ts).getD k []).length : Nat) : Int), rfl, (y_of rfl), (by omega), (by rw [long_step (by omega), hz]; omega), H_⟩
      · refine fl_else rfl (decide_eq_false cc20) ?_
        refine fl_exit rfl ?_
        refine fl_seq ?_
        have hz2 : z = ((longB (pcB ts) : Nat) : Int) := by rw [hz, List.take_of_length_le (by omega)]
        refine rl_start ?_
        refine rl_det (met_none rfl) (fun h_ H_ => exd_assign (v := .int .i64 0) rfl) (tm' := _::_::_::_::_::_::_::_::_::_::_::_::_::_::_) rfl ?_
        refine rl_end ?_
        refine fl_seq ?_
        refine fl_block ?_
        refine fl_loop (m₀ := 8 - 0) (fun m_ tm_ h_ => ∃ (j : Nat), m_ = 8 - j ∧ (∃ y21 : Nat → Value, tm_ = [.slice a n c, .int .i64 (m), undef, undef, .bool (false), w3, .bool (decide (chkT ts = 0)), w15, .bool (decide (chkT (List.replicate m.toNat ([] : By)) = 0)), .int .i64 (((longB (pcB ts) : Nat) : Int)), .int .i64 (chkT ts), .int .i64 (z), .int .i64 (((k : Nat) : Int)), .int .i64 (((j : Nat) : Int)), .slice a n c, .bool (decide (readyT ts)), .bool (!(decide (readyT ts))), .bool (!(decide (readyT ts))), .int .i64 (m), .bool (decide (0 ≤ m ∧ m ≤ 20)), .bool (!(decide (0 ≤ m ∧ m ≤ 20))), .bool (!(decide (0 ≤ m ∧ m ≤ 20))), undef, .tuple #[w3, .bool (decide (chkT ts = 0))], .slice a n c, .tuple #[w3, .bool (decide (chkT ts = 0))], w3, .bool (decide (chkT ts = 0)), .tuple #[w15, .bool (decide (chkT (List.replicate m.toNat ([] : By)) = 0))], .int .i64 (m), .slice a11 ((List.replicate m.toNat ([] : By)).length) cp12, .tuple #[w15, .bool (decide (chkT (List.replicate m.toNat ([] : By)) = 0))], w15, .bool (decide (chkT (List.replicate m.toNat ([] : By)) = 0)), .tuple #[.int .i64 (((longB (pcB ts) : Nat) : Int)), .int .i64 (chkT ts)], .slice a n c, .tuple #[.int .i64 (((longB (pcB ts) : Nat) : Int)), .int .i64 (chkT ts)], .int .i64 (((longB (pcB ts) : Nat) : Int)), .int .i64 (chkT ts), .bool (decide (chkT ts = 0)), .bool (!(decide (chkT ts = 0))), .bool (!(decide (chkT ts = 0))), .bool (decide (chkT (List.replicate m.toNat ([] : By)) = 0)), .bool (!(decide (chkT (List.replicate m.toNat ([] : By)) = 0))), .bool (!(decide (chkT (List.replicate m.toNat ([] : By)) = 0))), .bool (!(decide (chkT (List.replicate m.toNat ([] : By)) = 0))), .int .i64 (chkT ts), .bool (decide (chkT ts ≠ 0)), .bool (decide (chkT ts ≠ 0)), .bool (decide (chkT ts ≠ 0)), w3, .int .i64 ((((pcB ts).length : Nat) : Int)), w3, .int .i64 ((((pcB ts).length : Nat) : Int)), .int .i64 (((((pcB ts).length) + 1 : Nat) : Int)), .int .i64 ((((pcB ts).length : Nat) : Int) * ((((pcB ts).length) + 1 : Nat) : Int)), .int .i64 (((((pcB ts).length : Nat) : Int) * ((((pcB ts).length) + 1 : Nat) : Int)) / 2), .slice a n c, sv (wholeB ts), .int .i64 ((((wholeB ts).length : Nat) : Int)), .bool (decide (((((pcB ts).length : Nat) : Int) * ((((pcB ts).length) + 1 : Nat) : Int)) / 2 < (((wholeB ts).length : Nat) : Int))), .bool (decide (((((pcB ts).length : Nat) : Int) * ((((pcB ts).length) + 1 : Nat) : Int)) / 2 < (((wholeB ts).length : Nat) : Int))), .int .i64 (((k : Nat) : Int)), w3, .int .i64 ((((pcB ts).length : Nat) : Int)), .bool (decide (((k : Nat) : Int) < (((pcB ts).length : Nat) : Int))), (y18 66), (y18 67), (y18 68), (y18 69), (y18 70), (y18 71), (y18 72), (y18 73), (y18 74), (y21 75), (y21 76), (y21 77), (y21 78), (y21 79), (y21 80), (y21 81), (y21 82), (y21 83), undef, undef, undef, undef, undef, undef, undef, undef, undef, undef, undef, undef]) ∧ (j ≤ 7) ∧ (∀ i : Nat, i < j → ((i : Nat) : Int) * ((i + 1 : Nat) : Int) / 2 < m) ∧ St h [] p10 h_ (([] : Pcs) ++ (X16 ++ (X4 ++ [])))) (fun h_ H_ => ⟨0, rfl, (y_of rfl), (by omega), (fun i hi => absurd hi (Nat.not_lt_zero i)), H_⟩) ?_
        intro m_ tm_ IH22
        refine rs_ex fun j => rs_and fun hm_ => rs_and fun ht_ => rs_and fun hj => rs_and fun ht3 => ?_
        subst hm_; obtain ⟨y21, ht_⟩ := ht_; subst ht_
        refine fl_seq ?_
        refine fl_seq ?_
        refine rl_start ?_
        refine rl_det (met_none rfl) (fun h_ H_ => exd_move (v := .int .i64 (((j : Nat) : Int))) rfl) rfl ?_
        refine rl_det (met_none rfl) (fun h_ H_ => exd_move (v := .int .i64 (((j : Nat) : Int))) rfl) rfl ?_
        refine rl_det (met_none rfl) (fun h_ H_ => exd_add rfl rfl (n := ((j + 1 : Nat) : Int)) (wr (by omega))) (tm' := [_,_,_,_,_,_,_,_,_,_,_,_,_,_,_,_,_,_,_,_,_,_,_,_,_,_,_,_,_,_,_,_,_,_,_,_,_,_,_,_,_,_,_,_,_,_,_,_,_,_,_,_,_,_,_,_,_,_,_,_,_,_,_,_,_,_,_,_,_,_,_,_,_,_,_,_,_,_,_,_,_,_,_,_,_,_,_,_,_,_,_,_,_,_,_,_]) rfl ?_
        refine rl_det (met_none rfl) (fun h_ H_ => exd_mul rfl rfl (wr (by first | omega | exact tri_bound (by omega) | exact tri_div (by omega)))) rfl ?_
        refine rl_det (met_none rfl) (fun h_ H_ => exd_quo rfl rfl (by decide) (n := (((j : Nat) : Int) * ((j + 1 : Nat) : Int)) / 2) ((congrArg _ (Int.tdiv_eq_ediv_of_nonneg tri_nonneg)).trans (wr (tri_div (by omega))))) rfl ?_
        refine rl_det (met_none rfl) (fun h_ H_ => exd_move (v := .int .i64 (m)) rfl) (tm' := [_,_,_,_,_,_,_,_,_,_,_,_,_,_,_,_,_,_,_,_,_,_,_,_,_,_,_,_,_,_,_,_,_,_,_,_,_,_,_,_,_,_,_,_,_,_,_,_,_,_,_,_,_,_,_,_,_,_,_,_,_,_,_,_,_,_,_,_,_,_,_,_,_,_,_,_,_,_,_,_,_,_,_,_,_,_,_,_,_,_,_,_,_,_,_,_]) rfl ?_
        refine rl_det (met_none rfl) (fun h_ H_ => exd_lss rfl rfl) rfl ?_
        refine rl_end ?_
        by_cases cc23 : (((j : Nat) : Int) * ((j + 1 : Nat) : Int)) / 2 < m
        · refine fl_then rfl (decide_eq_true cc23) ?_
          refine fl_skip ?_
          refine fl_block ?_
          refine rl_start ?_
          refine rl_det (met_none rfl) (fun h_ H_ => exd_move (v := .int .i64 (((j : Nat) : Int))) rfl) rfl ?_
          refine rl_det (met_none rfl) (fun h_ H_ => exd_add rfl rfl (n := ((j + 1 : Nat) : Int)) (wr (by omega))) (tm' := [_,_,_,_,_,_,_,_,_,_,_,_,_,_,_,_,_,_,_,_,_,_,_,_,_,_,_,_,_,_,_,_,_,_,_,_,_,_,_,_,_,_,_,_,_,_,_,_,_,_,_,_,_,_,_,_,_,_,_,_,_,_,_,_,_,_,_,_,_,_,_,_,_,_,_,_,_,_,_,_,_,_,_,_,_,_,_,_,_,_,_,_,_,_,_,_]) rfl ?_
          refine rl_det (met_none rfl) (fun h_ H_ => exd_assign (v := .int .i64 (((j + 1 : Nat) : Int))) rfl) rfl ?_
          refine rl_end ?_
          refine fl_inBlock ?_
          exact fun h_ H_ => IH22 _ _ (by have z_ := tri_few hj hm20.2 ‹_›; omega) h_ ⟨j + 1, rfl, (y_of rfl), (by have z_ := tri_few hj hm20.2 ‹_›; omega), (upto_step ht3 ‹_›), H_⟩
        · refine fl_else rfl (decide_eq_false cc23) ?_
          refine fl_exit rfl ?_
          refine fl_seq ?_
          have hfew := few_is hm20.1 hm20.2 hj ‹_› ht3
          refine rl_start ?_
          refine rl_det (met_none rfl) (fun h_ H_ => exd_move (v := .int .i64 (((longB (pcB ts) : Nat) : Int))) rfl) rfl ?_
          refine rl_det (met_none rfl) (fun h_ H_ => exd_move (v := .int .i64 (z)) rfl) (tm' := [_,_,_,_,_,_,_,_,_,_,_,_,_,_,_,_,_,_,_,_,_,_,_,_,_,_,_,_,_,_,_,_,_,_,_,_,_,_,_,_,_,_,_,_,_,_,_,_,_,_,_,_,_,_,_,_,_,_,_,_,_,_,_,_,_,_,_,_,_,_,_,_,_,_,_,_,_,_,_,_,_,_,_,_,_,_,_,_,_,_,_,_,_,_,_,_]) rfl ?_
          refine rl_det (met_none rfl) (fun h_ H_ => exd_eql rfl rfl) rfl ?_
          refine rl_det (met_none rfl) (fun h_ H_ => exd_move (v := .bool (decide (((longB (pcB ts) : Nat) : Int) = z))) rfl) rfl ?_
          refine rl_det (met_some rfl rfl (decide_eq_true hz2.symm)) (fun h_ H_ => exd_move (v := w15) rfl) (tm' := [_,_,_,_,_,_,_,_,_,_,_,_,_,_,_,_,_,_,_,_,_,_,_,_,_,_,_,_,_,_,_,_,_,_,_,_,_,_,_,_,_,_,_,_,_,_,_,_,_,_,_,_,_,_,_,_,_,_,_,_,_,_,_,_,_,_,_,_,_,_,_,_,_,_,_,_,_,_,_,_,_,_,_,_,_,_,_,_,_,_,_,_,_,_,_,_]) rfl ?_
          refine rl_det (met_some rfl rfl (decide_eq_true hz2.symm)) (fun h_ H_ => exd_lenN o17 (scs_length _) Tryd.underlying22 rfl) rfl ?_
          refine rl_det (met_some rfl rfl (decide_eq_true hz2.symm)) (fun h_ H_ => exd_move (v := .int .i64 (((j : Nat) : Int))) rfl) rfl ?_
          refine rl_det (met_some rfl rfl (decide_eq_true hz2.symm)) (fun h_ H_ => exd_eql rfl rfl) (tm' := [_,_,_,_,_,_,_,_,_,_,_,_,_,_,_,_,_,_,_,_,_,_,_,_,_,_,_,_,_,_,_,_,_,_,_,_,_,_,_,_,_,_,_,_,_,_,_,_,_,_,_,_,_,_,_,_,_,_,_,_,_,_,_,_,_,_,_,_,_,_,_,_,_,_,_,_,_,_,_,_,_,_,_,_,_,_,_,_,_,_,_,_,_,_,_,_]) rfl ?_
          refine rl_det (met_none rfl) (fun h_ H_ => exd_pick_t rfl (decide_eq_true hz2.symm) (v := .bool (decide ((((pcB (List.replicate m.toNat ([] : By))).length : Nat) : Int) = ((j : Nat) : Int)))) rfl) rfl ?_
          refine rl_det (met_none rfl) (fun h_ H_ => exd_move (v := .bool (decide ((((pcB (List.replicate m.toNat ([] : By))).length : Nat) : Int) = ((j : Nat) : Int)))) rfl) rfl ?_
          refine rl_calld (met_some rfl rfl (decide_eq_true (by rw [hfew]))) (first := []) (cap := []) rfl rfl fC16 (fun h_ H_ => c16 _ (htab.keep H_.kept)) (tm' := [_,_,_,_,_,_,_,_,_,_,_,_,_,_,_,_,_,_,_,_,_,_,_,_,_,_,_,_,_,_,_,_,_,_,_,_,_,_,_,_,_,_,_,_,_,_,_,_,_,_,_,_,_,_,_,_,_,_,_,_,_,_,_,_,_,_,_,_,_,_,_,_,_,_,_,_,_,_,_,_,_,_,_,_,_,_,_,_,_,_,_,_,_,_,_,_]) rfl ?_
          refine rl_det (met_none rfl) (fun h_ H_ => exd_pick_t rfl (decide_eq_true (by rw [hfew])) (v := .bool (true)) rfl) rfl ?_
          refine rl_det (met_none rfl) (fun h_ H_ => exd_assign (v := .bool (true)) rfl) rfl ?_
          refine rl_end ?_
          refine fl_retL Tryd.func13 rfl (vs := [.bool (true)]) (fun h_ H_ => ⟨.bool (true), _, rfl, rfl, rfl⟩) (v := .bool (true)) rfl ?_
          exact fun h_ H_ => ⟨rfl, H_.kept⟩
    · refine fl_then rfl (not_t (decide_eq_false cc2)) ?_
      refine fl_seq ?_
      refine rl_start ?_
      refine rl_calld (met_none rfl) (first := []) (cap := []) rfl rfl fC16 (fun h_ H_ => c16 _ (htab.keep H_.kept)) (tm' := _::_::_::_::_::_::_::_::_::_::_::_::_::_::_::_::_::_::_::_::_::_::_::_) rfl ?_
      refine rl_det (met_none rfl) (fun h_ H_ => exd_assign (v := .bool (true)) rfl) rfl ?_
      refine rl_end ?_
      refine fl_retL Tryd.func13 rfl (vs := [.bool (true)]) (fun h_ H_ => ⟨.bool (true), _, rfl, rfl, rfl⟩) (v := .bool (true)) rfl ?_
      exact fun h_ H_ => ⟨rfl, H_.kept⟩
  · refine rl_pass (met_not rfl rfl (not_t (decide_eq_false cc1))) rfl ?_
    refine rl_pass (met_not rfl rfl (not_t (decide_eq_false cc1))) (tm' := _::_::_::_::_::_::_::_::_::_::_::_::_::_::_::_::_::_::_::_::_) rfl ?_
    refine rl_pass (met_not rfl rfl (not_t (decide_eq_false cc1))) rfl ?_
    refine rl_det (met_none rfl) (fun h_ H_ => exd_pick_t rfl (not_t (decide_eq_false cc1)) (v := .bool (true)) rfl) rfl ?_
    refine rl_end ?_
    refine fl_then rfl rfl ?_
    refine fl_seq ?_
    refine rl_start ?_
    refine rl_calld (met_none rfl) (first := []) (cap := []) rfl rfl fC16 (fun h_ H_ => c16 _ (htab.keep H_.kept)) (tm' := _::_::_::_::_::_::_::_::_::_::_::_::_::_::_::_::_::_::_::_::_::_::_::_) rfl ?_
    refine rl_det (met_none rfl) (fun h_ H_ => exd_assign (v := .bool (true)) rfl) rfl ?_
    refine rl_end ?_
    refine fl_retL Tryd.func13 rfl (vs := [.bool (true)]) (fun h_ H_ => ⟨.bool (true), _, rfl, rfl, rfl⟩) (v := .bool (true)) rfl ?_
    exact fun h_ H_ => ⟨rfl, H_.kept⟩
end Go.Proofs.YtiinpnlfdeiloaaDoor
namespace Go.Proofs.YtiinpnlfdeiloaaDoor
open Go.X Go.X.Cent Go.Conc Go.RowKit Go.ChangeShapes Go.WideShapes Go.ChangeAt Go.Joins
set_option maxRecDepth 100000

theorem lifted13 (os : Os) (started : os.Started) (H : Type) (enc : TypeId × Value → H) :
    ReturnsInHanded {} Tryd.checked os 13 .any (fun w args => (Rows.centuryFewSpec.pre enc Tryd.prog Tryd.f13 Rows.centuryFewRow.domain false w args ∧ laidMetH Tryd.prog Rows.centuryFewRow.laid w) ∧ sizedMet enc Tryd.prog Tryd.f13 (OpenSpec.ofChange Rows.centuryFewSpec) false w args) (Rows.centuryFewSpec.post enc Tryd.prog Tryd.f13 false true false false) := by
  refine returnsInHanded_of_change_and (C := Tryd.checked) (X := fun w _ => laidMetH Tryd.prog Rows.centuryFewRow.laid w) (fun _ _ _ hh h => h.of_heap hh) pOwn started (by kernel_rfl) Tryd.func13
    (ChangeSpec.witness_shaped (enc := enc) (C := Tryd.checked) (os := os) (X := fun w _ => laidMetH Tryd.prog Rows.centuryFewRow.laid w) false (laidW os) #[.slice none 0 0, .int .i64 0] 8 (World.laidAll_os _ _ _)
      (World.shaped_of_ZipB (by kernel_rfl) (by kernel_rfl)) (by kernel_rfl) (by kernel_rfl) (by kernel_rfl) (laidW_met os _)) ?_
  intro W base args ds gs before hval0 hW _ _ hL _
  have hval : ∀ (j : Nat) t v, Tryd.f13.params[j]? = some t → args[j]? = some v → Value.okWide Tryd.prog W .any base t v := hval0
  have hW2 := hW
  obtain ⟨p, q, hA0, hV, rfl, _, _⟩ := hW2
  have hA : DataW.TrodAll enc Tryd.prog W 0 (fun _ => true) true Tryd.f13.params.toList args.toList ds p := hA0
  rw [Tryd.params13] at hA hval
  obtain ⟨v0, v1, d0, d1, p0, p1, rfl, rfl, _, h0, h1⟩ := trodAll_two hA
  obtain ⟨rfl, rfl⟩ := trodVars_none hV
  obtain ⟨a, n, c, ts, rfl, hn, T⟩ := open_texts (hval 0 22 v0 rfl rfl) h0
  obtain ⟨k, rfl, hk⟩ := open_num (hval 1 3 v1 rfl rfl) h1
  refine (calls_of_enters (e13 W.heap (pW W) (pW_per W) (tab_of_laid hL) a n c ts T hn k hk)).mono fun e W2 ⟨v, he, ⟨hv, hk_⟩, cl⟩ => ⟨v, he, ?_⟩
  subst hv
  exact law_post pLaid rfl (fun t ht => by rw [Tryd.params13] at ht; revert t; decide +kernel) rfl Tryd.underlying4 hW rfl (below_of hk_ cl)

theorem centuryFewRowHolds : Rows.CenturyFewSaid :=
  OpenClaim.holds_of_wide 13 Tryd.f13 rfl rfl rfl rfl rfl rfl rfl ⟨rfl, rfl, rfl, rfl, rfl⟩ rfl rfl rfl rfl rfl (by kernel_rfl) Tryd.func13 (by kernel_rfl)
    (of_decide_eq_true (by kernel_rfl)) (by unfold Func.isWrapper; first | (rw [if_pos (by decide +kernel)]; kernel_rfl) | (rw [if_neg (by decide +kernel)]; exact ⟨rfl, rfl⟩))
    (fun os started H enc _ => lifted13 os started H enc)

theorem centuryFewHolds : Rows.CenturyFewCardSaid :=
  Claim7.holds_tied_plain_at .later [] [.data, .data, .data, .data, .pinned] true (true, "d19a88c3556340bf03c70abcf51311f6c04bc6278884da2732a7a561c1b64cb8") false centuryFewRowHolds (fun _ h => by cases h) (by kernel_rfl) (fun _ h => by cases h) centuryFew_row_tie rfl ⟨rfl, rfl⟩ (by kernel_rfl) rfl
    (fun f fn hf hfn => by
      obtain rfl : f = 13 := Option.some.inj ((show Tryd.prog.funcNamed "steening/steeninglaw14.CenturyFew" = some 13 by kernel_rfl).symm.trans hf) |>.symm
      obtain rfl : fn = Tryd.f13 := (Option.some.inj (Tryd.func13.symm.trans hfn)).symm
      exact ⟨by kernel_rfl, fun j t ht => by
        rw [Tryd.params13] at ht
        have hm : t ∈ [22, 3] := by simpa using Array.mem_of_getElem? ht
        have hall : ([22, 3].all fun u => !Tryd.prog.wantsStandIn u) = true := by kernel_rfl
        exact (show Tryd.prog.wantsStandIn t = false by simpa using List.all_eq_true.1 hall t hm)⟩)
    (by kernel_rfl)

#print axioms centuryFewHolds
end Go.Proofs.YtiinpnlfdeiloaaDoor
