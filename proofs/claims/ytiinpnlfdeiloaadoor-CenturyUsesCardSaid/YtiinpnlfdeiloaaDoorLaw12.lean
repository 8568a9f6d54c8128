/-
  CenturyUses, for every input: the law returns true and leaves its arguments as they were. The row, and the tied card.
-/
import Derived.Test.YtiinpnlfdeiloaaDoorD2
import Derived.Test.YtiinpnlfdeiloaaDoorD5
import Derived.Test.YtiinpnlfdeiloaaDoorCards
import Derived.Test.YtiinpnlfdeiloaaDoorTie
namespace Go.Proofs.YtiinpnlfdeiloaaDoor
open Go.X Go.X.Cent Go.Conc
set_option maxRecDepth 10000
set_option synthInstance.maxSize 2000
set_option synthInstance.maxHeartbeats 400000

set_option maxHeartbeats 2000000
theorem e12 (h : Heap) (p : PHeap) (hp : Per p h) (htab : Tab h) (a : Option Addr) (n c : Nat) (ts : List By) (T : Strs p a n ts) (hn : n ≤ 9223372036854775807) (m : Int) (hm : -9223372036854775808 ≤ m ∧ m ≤ 9223372036854775807) : EntersL Tryd.prog 12 #[.slice a n c, .int .i64 (m)] h fun v h' => v = .bool true ∧ Keep h h' := by
  refine enters_introL (Φ := fun h_ => St h [] p h_ []) Tryd.func12 rfl (tm := [_, _, _, _, _, _, _, _, _, _, _, _, _, _, _, _, _, _, _, _, _, _, _, _, _, _, _, _, _, _, _, _, _, _, _, _, _, _, _, _, _, _, _, _, _, _, _, _, _, _, _, _, _, _, _, _, _, _, _, _, _, _, _, _, _, _, _, _, _, _, _, _, _, _, _, _, _, _, _, _, _, _, _, _, _, _, _, _, _, _, _, _, _, _, _, _, _, _, _, _, _, _, _, _, _, _, _, _, _, _, _, _, _, _, _, _, _]) rfl ?_ (St.start h _ hp)
  intro cs
  have hl := T.len
  refine fl_seq ?_
  refine rl_start ?_
  refine rl_det (met_none rfl) (fun h_ H_ => exd_assign (v := .bool (false)) rfl) rfl ?_
  refine rl_end ?_
  refine fl_seq ?_
  refine fl_seq ?_
  refine rl_start ?_
  refine rl_det (met_none rfl) (fun h_ H_ => exd_move (v := .slice a n c) rfl) rfl ?_
  refine rl_calld (met_none rfl) (first := []) (cap := []) rfl rfl fC15 (fun h_ H_ => c15 _ _ (fun b_ o_ e_ => H_.per b_ o_ e_) a n _ ts T (by omega)) (tm' := _::_::_::_::_::_::_::_::_::_::_::_::_::_::_::_::_::_::_::_::_) rfl ?_
  refine rl_det (met_none rfl) (fun h_ H_ => exd_not rfl) rfl ?_
  refine rl_end ?_
  by_cases cc1 : readyT ts
  · refine fl_else rfl (not_f (decide_eq_true cc1)) ?_
    refine fl_skip ?_
    refine fl_seq ?_
    have hrd := ‹readyT ts›
    have hnf := far_facts T hrd.1
    obtain ⟨hn60, ht200, hta⟩ := hnf
    have ht0 : ∀ i, i < n → (ts.getD i []).length ≤ 2 ^ 60 := not_far T hrd.1
    have ht1 : ∀ i, i < ts.length → (ts.getD i []).length ≤ 2 ^ 60 := fun i hi => ht0 i (by omega)
    have hwl : (writeB ts).1.length ≤ 2 ^ 60 := write_len hrd.2
    have h20 := (chk_good hrd.2).1
    have hw200 := ht200
    refine rl_start ?_
    refine rl_det (met_none rfl) (fun h_ H_ => exd_move (v := .slice a n c) rfl) rfl ?_
    refine rl_own (L' := ([] : Pcs) ++ []) rfl ?_
    refine rl_call (met_none rfl) (first := []) (cap := []) rfl rfl fC41 (R := fun v_ h_ => ∃ w2 : Value, ∃ X3 : Pcs, v_ = .tuple #[w2, .bool (decide (chkT ts = 0))] ∧ (OwnS 9 1 w2 (scs (pcB ts)) X3) ∧ St h [] p h_ (([] : Pcs) ++ (X3 ++ []))) (fun h_ H_ => (c41 _ _ (fun b_ o_ e_ => H_.per b_ o_ e_) a n _ ts T (by omega) (by first | exact ht0 | exact ht1 | exact fun i h_ => absurd h_ (Nat.not_lt_zero i))).mono fun v_ h2_ ⟨w2, X3, e_, o4, N_⟩ => ⟨w2, X3, e_, o4, H_.callNA N_⟩) fun v_ => ?_
    refine rl_ex fun w2 => rl_ex fun X3 => rl_and fun ev_ => rl_and fun o4 => ?_
    have ev_ := ev_.symm; subst ev_
    refine rl_own (L' := ([] : Pcs) ++ (X3 ++ [])) rfl ?_
    refine rl_norm (tm' := _::_::_::_::_::_::_::_::_::_::_::_::_::_::_::_::_::_::_::_::_::_::_::_::_::_) rfl ?_
    refine rl_det (met_none rfl) (fun h_ H_ => exd_move (v := .tuple #[w2, .bool (decide (chkT ts = 0))]) rfl) rfl ?_
    refine rl_det (met_none rfl) (fun h_ H_ => exd_extract rfl (v := w2) rfl) rfl ?_
    refine rl_det (met_none rfl) (fun h_ H_ => exd_extract rfl (v := .bool (decide (chkT ts = 0))) rfl) (tm' := _::_::_::_::_::_::_::_::_::_::_::_::_::_::_::_::_::_::_::_::_::_::_::_::_::_::_::_) rfl ?_
    refine rl_det (met_none rfl) (fun h_ H_ => exd_assign (v := w2) rfl) rfl ?_
    refine rl_det (met_none rfl) (fun h_ H_ => exd_assign (v := .bool (decide (chkT ts = 0))) rfl) rfl ?_
    refine rl_end ?_
    refine fl_seq ?_
    refine rl_start ?_
    refine rl_det (met_none rfl) (fun h_ H_ => exd_move (v := .slice a n c) rfl) (tm' := _::_::_::_::_::_::_::_::_::_::_::_::_::_::_::_::_::_::_::_::_::_::_::_::_::_::_::_::_::_) rfl ?_
    refine rl_calld (met_none rfl) (first := []) (cap := []) rfl rfl fC17 (fun h_ H_ => c17 _ _ (fun b_ o_ e_ => H_.per b_ o_ e_) (htab.keep H_.kept) a n _ ts T (by omega) (by first | exact ht0 | exact ht1 | exact fun i h_ => absurd h_ (Nat.not_lt_zero i))) rfl ?_
    refine rl_det (met_none rfl) (fun h_ H_ => exd_move (v := .tuple #[sv ((writeB ts).1), .bool (decide (wrOk ts))]) rfl) rfl ?_
    refine rl_det (met_none rfl) (fun h_ H_ => exd_extract rfl (v := sv ((writeB ts).1)) rfl) (tm' := _::_::_::_::_::_::_::_::_::_::_::_::_::_::_::_::_::_::_::_::_::_::_::_::_::_::_::_::_::_::_::_) rfl ?_
    refine rl_det (met_none rfl) (fun h_ H_ => exd_extract rfl (v := .bool (decide (wrOk ts))) rfl) rfl ?_
    refine rl_det (met_none rfl) (fun h_ H_ => exd_assign (v := sv ((writeB ts).1)) rfl) rfl ?_
    refine rl_det (met_none rfl) (fun h_ H_ => exd_assign (v := .bool (decide (wrOk ts))) rfl) (tm' := _::_::_::_::_::_::_::_::_::_) rfl ?_
    refine rl_end ?_
    refine fl_seq ?_
    refine rl_start ?_
    refine rl_det (met_none rfl) (fun h_ H_ => exd_move (v := sv ((writeB ts).1)) rfl) rfl ?_
    refine rl_call (met_none rfl) (first := []) (cap := []) rfl rfl fC33 (R := fun v_ h_ => ∃ w5 : Value, ∃ X6 : Pcs, v_ = .tuple #[w5, .int .i64 (parseB ((writeB ts).1))] ∧ (OwnS 60 2 w5 (pies ((formB ((writeB ts).1)).getD [])) X6) ∧ St h [] p h_ (([] : Pcs) ++ (X6 ++ (X3 ++ [])))) (fun h_ H_ => (c33 _ ((writeB ts).1) (by first | omega | exact hwl)).mono fun v_ h2_ ⟨w5, X6, e_, o7, N_⟩ => ⟨w5, X6, e_, o7, H_.callNA N_⟩) fun v_ => ?_
    refine rl_ex fun w5 => rl_ex fun X6 => rl_and fun ev_ => rl_and fun o7 => ?_
    have ev_ := ev_.symm; subst ev_
    refine rl_own (L' := ([] : Pcs) ++ (X6 ++ (X3 ++ []))) rfl ?_
    refine rl_det (met_none rfl) (fun h_ H_ => exd_move (v := .tuple #[w5, .int .i64 (parseB ((writeB ts).1))]) rfl) (tm' := _::_::_::_::_::_::_::_::_::_::_::_::_::_::_::_::_::_::_::_::_::_::_::_::_::_::_::_::_::_::_::_::_::_) rfl ?_
    refine rl_det (met_none rfl) (fun h_ H_ => exd_extract rfl (v := w5) rfl) rfl ?_
    refine rl_det (met_none rfl) (fun h_ H_ => exd_extract rfl (v := .int .i64 (parseB ((writeB ts).1))) rfl) rfl ?_
    refine rl_det (met_none rfl) (fun h_ H_ => exd_assign (v := w5) rfl) (tm' := _::_::_::_::_::_::_::_::_::_::_) rfl ?_
    refine rl_det (met_none rfl) (fun h_ H_ => exd_assign (v := .int .i64 (parseB ((writeB ts).1))) rfl) rfl ?_
    refine rl_end ?_
    refine fl_seq ?_
    refine fl_seq ?_
    obtain ⟨LL, hLL⟩ : ∃ LL, LL = encS [[]] (wholeB ts) := ⟨_, rfl⟩
    have oK : OwnS 60 2 w5 (pies LL) X6 := o7.as (by rw [form_write hrd.2, hLL]; rfl)
    have hlen : (pcB ts).length = LL.length := by rw [hLL]; exact pc_len2 hrd.2
    obtain ⟨l, t, S0⟩ := spl_of hrd.2
    have S := S0
    rw [← hLL] at S
    have hpb : LL.length ≤ 820 := by rw [← hlen, pc_same]; exact pcR_len ts
    have hSl := S.len
    have hix : ((((pcB ts).length : Nat) : Int) - 1).toNat = LL.length - 1 := by omega
    refine rl_start ?_
    refine rl_det (met_none rfl) (fun h_ H_ => exd_move (v := .bool (decide (chkT ts = 0))) rfl) rfl ?_
    refine rl_det (met_none rfl) (fun h_ H_ => exd_not rfl) (tm' := _::_::_::_::_::_::_::_::_::_::_::_::_::_::_::_::_::_::_::_::_::_::_::_::_::_::_::_::_::_::_::_::_::_::_::_::_::_::_::_) rfl ?_
    refine rl_det (met_none rfl) (fun h_ H_ => exd_move (v := .bool (!(decide (chkT ts = 0)))) rfl) rfl ?_
    refine rl_det (met_some rfl rfl (not_f (decide_eq_true hrd.2))) (fun h_ H_ => exd_move (v := .bool (decide (wrOk ts))) rfl) rfl ?_
    refine rl_det (met_some rfl rfl (not_f (decide_eq_true hrd.2))) (fun h_ H_ => exd_not rfl) (tm' := _::_::_::_::_::_::_::_::_::_::_::_::_::_::_::_::_::_::_::_::_::_::_::_::_::_::_::_::_::_::_::_::_::_::_::_::_::_::_::_::_::_::_) rfl ?_
    refine rl_det (met_none rfl) (fun h_ H_ => exd_pick_f rfl (not_f (decide_eq_true hrd.2)) (v := .bool (!(decide (wrOk ts)))) rfl) rfl ?_
    refine rl_det (met_none rfl) (fun h_ H_ => exd_move (v := .bool (!(decide (wrOk ts)))) rfl) rfl ?_
    refine rl_det (met_some rfl rfl (not_f (decide_eq_true (wr_ok hrd.2)))) (fun h_ H_ => exd_move (v := .int .i64 (parseB ((writeB ts).1))) rfl) (tm' := _::_::_::_::_::_::_::_::_::_::_::_::_::_::_::_::_::_::_::_::_::_::_::_::_::_::_::_::_::_::_::_::_::_::_::_::_::_::_::_::_::_::_::_::_::_) rfl ?_
    refine rl_det (met_some rfl rfl (not_f (decide_eq_true (wr_ok hrd.2)))) (fun h_ H_ => exd_neq rfl rfl) rfl ?_
    refine rl_det (met_none rfl) (fun h_ H_ => exd_pick_f rfl (not_f (decide_eq_true (wr_ok hrd.2))) (v := .bool (decide (parseB ((writeB ts).1) ≠ 0))) rfl) rfl ?_
    refine rl_det (met_none rfl) (fun h_ H_ => exd_move (v := .bool (decide (parseB ((writeB ts).1) ≠ 0))) rfl) (tm' := _::_::_::_::_::_::_::_::_::_::_::_::_::_::_::_::_::_::_::_::_::_::_::_::_::_::_::_::_::_::_::_::_::_::_::_::_::_::_::_::_::_::_::_::_::_::_::_::_) rfl ?_
    refine rl_det (met_some rfl rfl (decide_eq_false (fun z_ => z_ (parse_write hrd.2)))) (fun h_ H_ => exd_move (v := w5) rfl) rfl ?_
    refine rl_det (met_some rfl rfl (decide_eq_false (fun z_ => z_ (parse_write hrd.2)))) (fun h_ H_ => exd_lenN oK (pies_length _) Tryd.underlying49 rfl) rfl ?_
    refine rl_det (met_some rfl rfl (decide_eq_false (fun z_ => z_ (parse_write hrd.2)))) (fun h_ H_ => exd_move (v := w2) rfl) (tm' := _::_::_::_::_::_::_::_::_::_::_::_::_::_::_::_::_::_::_::_::_::_::_::_::_::_::_::_::_::_::_::_::_::_::_::_::_::_::_::_::_::_::_::_::_::_::_::_::_::_::_::_) rfl ?_
    refine rl_det (met_some rfl rfl (decide_eq_false (fun z_ => z_ (parse_write hrd.2)))) (fun h_ H_ => exd_lenN o4 (scs_length _) Tryd.underlying22 rfl) rfl ?_
    refine rl_det (met_some rfl rfl (decide_eq_false (fun z_ => z_ (parse_write hrd.2)))) (fun h_ H_ => exd_neq rfl rfl) rfl ?_
    refine rl_det (met_none rfl) (fun h_ H_ => exd_pick_f rfl (decide_eq_false (fun z_ => z_ (parse_write hrd.2))) (v := .bool (decide (((LL.length : Nat) : Int) ≠ (((pcB ts).length : Nat) : Int)))) rfl) (tm' := _::_::_::_::_::_::_::_::_::_::_::_::_::_::_::_::_::_::_::_::_::_::_::_::_::_::_::_::_::_::_::_::_::_::_::_::_::_::_::_::_::_::_::_::_::_::_::_::_::_::_::_::_::_::_) rfl ?_
    refine rl_end ?_
    refine fl_else rfl (decide_eq_false (fun z_ => z_ (by rw [hlen]))) ?_
    refine fl_skip ?_
    refine fl_seq ?_
    refine rl_start ?_
    refine rl_det (met_none rfl) (fun h_ H_ => exd_move (v := w2) rfl) rfl ?_
    refine rl_det (met_none rfl) (fun h_ H_ => exd_lenN o4 (scs_length _) Tryd.underlying22 rfl) rfl ?_
    refine rl_det (met_none rfl) (fun h_ H_ => exd_assign (v := .int .i64 ((((pcB ts).length : Nat) : Int))) rfl) (tm' := _::_::_::_::_::_::_::_::_::_::_::_::_) rfl ?_
    refine rl_end ?_
    refine fl_seq ?_
    refine fl_seq ?_
    refine rl_start ?_
    refine rl_det (met_none rfl) (fun h_ H_ => exd_move (v := .int .i64 ((((pcB ts).length : Nat) : Int))) rfl) rfl ?_
    refine rl_det (met_none rfl) (fun h_ H_ => exd_gtr rfl rfl) rfl ?_
    refine rl_det (met_none rfl) (fun h_ H_ => exd_move (v := .bool (decide (0 < (((pcB ts).length : Nat) : Int)))) rfl) (tm' := _::_::_::_::_::_::_::_::_::_::_::_::_::_::_::_::_::_::_::_::_::_::_::_::_::_::_::_::_::_::_::_::_::_::_::_::_::_::_::_::_::_::_::_::_::_::_::_::_::_::_::_::_::_::_::_::_::_::_::_) rfl ?_
    by_cases cc8 : 0 < (((pcB ts).length : Nat) : Int)
    · refine rl_det (met_some rfl rfl (decide_eq_true cc8)) (fun h_ H_ => exd_move (v := w5) rfl) rfl ?_
      refine rl_det (met_some rfl rfl (decide_eq_true cc8)) (fun h_ H_ => exd_move (v := .int .i64 ((((pcB ts).length : Nat) : Int))) rfl) rfl ?_
      refine rl_det (met_some rfl rfl (decide_eq_true cc8)) (fun h_ H_ => exd_sub rfl rfl (wr (by omega))) (tm' := _::_::_::_::_::_::_::_::_::_::_::_::_::_::_::_::_::_::_::_::_::_::_::_::_::_::_::_::_::_::_::_::_::_::_::_::_::_::_::_::_::_::_::_::_::_::_::_::_::_::_::_::_::_::_::_::_::_::_::_::_::_::_) rfl ?_
      refine rl_det (met_some rfl rfl (decide_eq_true cc8)) (fun h_ H_ => exd_indexOI oK Tryd.underlying49 tS60 rfl rfl (by omega) (by rw [(pies_length _)]; omega)) rfl ?_
      refine rl_det (met_some rfl rfl (decide_eq_true cc8)) (fun h_ H_ => exd_fieldAddr tF60_1 rfl (a' := ((adrV w5).add ((((((pcB ts).length : Nat) : Int) - 1)).toNat * 2)).add 1) rfl) rfl ?_
      refine rl_det (met_some rfl rfl (decide_eq_true cc8)) (fun h_ H_ => exd_loadO (A := ([] : Pcs)) (i := (((((pcB ts).length : Nat) : Int) - 1)).toNat) (j := 1) (e := (LL.getD ((((((pcB ts).length : Nat) : Int) - 1)).toNat) pz).cells) oK H_ tA3 rfl rfl (pies_at (by omega)) (u := .int .i64 ((LL.getD ((((((pcB ts).length : Nat) : Int) - 1)).toNat) pz).2)) rfl) (tm' := _::_::_::_::_::_::_::_::_::_::_::_::_::_::_::_::_::_::_::_::_::_::_::_::_::_::_::_::_::_::_::_::_::_::_::_::_::_::_::_::_::_::_::_::_::_::_::_::_::_::_::_::_::_::_::_::_::_::_::_::_::_::_::_::_::_) rfl ?_
      refine rl_det (met_some rfl rfl (decide_eq_true cc8)) (fun h_ H_ => exd_eql rfl rfl) rfl ?_
      refine rl_det (met_none rfl) (fun h_ H_ => exd_pick_t rfl (decide_eq_true cc8) (v := .bool (decide ((LL.getD ((((((pcB ts).length : Nat) : Int) - 1)).toNat) pz).2 = (-1)))) rfl) rfl ?_
      refine rl_end ?_
      by_cases cc9 : (LL.getD ((((((pcB ts).length : Nat) : Int) - 1)).toNat) pz).2 = (-1)
      · refine fl_then rfl (decide_eq_true cc9) ?_
        refine rl_start ?_
        refine rl_det (met_none rfl) (fun h_ H_ => exd_move (v := .int .i64 ((((pcB ts).length : Nat) : Int))) rfl) (tm' := _::_::_::_::_::_::_::_::_::_::_::_::_::_::_::_::_::_::_::_::_::_::_::_::_::_::_::_::_::_::_::_::_::_::_::_::_::_::_::_::_::_::_::_::_::_::_::_::_::_::_::_::_::_::_::_::_::_::_::_::_::_::_::_::_::_::_::_::_) rfl ?_
        refine rl_det (met_none rfl) (fun h_ H_ => exd_sub rfl rfl (wr (by omega))) rfl ?_
        refine rl_det (met_none rfl) (fun h_ H_ => exd_assign (v := .int .i64 ((((pcB ts).length : Nat) : Int) - 1)) rfl) rfl ?_
        refine rl_end ?_
        refine fl_seq ?_
        have hlast : (((pcB ts).length : Nat) : Int) - 1 = ((l.length : Nat) : Int) := by have z_ := S.yes (by omega) (by rw [← hix]; assumption); omega
        refine rl_start ?_
        refine rl_det (met_none rfl) (fun h_ H_ => exd_assign (v := .int .i64 0) rfl) (tm' := _::_::_::_::_::_::_::_::_::_::_::_::_::_) rfl ?_
        refine rl_end ?_
        refine fl_seq ?_
        refine fl_seq ?_
        refine rl_start ?_
        refine rl_det (met_none rfl) (fun h_ H_ => exd_assign (v := .int .i64 0) rfl) rfl ?_
        refine rl_end ?_
        refine fl_block ?_
        refine fl_loop (m₀ := l.length + 1 - 0) (fun m_ tm_ h_ => ∃ (k : Nat) (z : Int), m_ = l.length + 1 - k ∧ (∃ y10 : Nat → Value, tm_ = [.slice a n c, .int .i64 (m), undef, undef, (y10 4), w2, .bool (decide (chkT ts = 0)), sv ((writeB ts).1), .bool (decide (wrOk ts)), w5, .int .i64 (parseB ((writeB ts).1)), .int .i64 ((((pcB ts).length : Nat) : Int) - 1), .int .i64 (z), .int .i64 (((k : Nat) : Int)), (y10 14), (y10 15), undef, undef, .slice a n c, .bool (decide (readyT ts)), .bool (!(decide (readyT ts))), undef, .tuple #[w2, .bool (decide (chkT ts = 0))], .slice a n c, .tuple #[w2, .bool (decide (chkT ts = 0))], w2, .bool (decide (chkT ts = 0)), .tuple #[sv ((writeB ts).1), .bool (decide (wrOk ts))], .slice a n c, .tuple #[sv ((writeB ts).1), .bool (decide (wrOk ts))], sv ((writeB ts).1), .bool (decide (wrOk ts)), .tuple #[w5, .int .i64 (parseB ((writeB ts).1))], sv ((writeB ts).1), .tuple #[w5, .int .i64 (parseB ((writeB ts).1))], w5, .int .i64 (parseB ((writeB ts).1)), .bool (decide (chkT ts = 0)), .bool (!(decide (chkT ts = 0))), .bool (!(decide (chkT ts = 0))), .bool (decide (wrOk ts)), .bool (!(decide (wrOk ts))), .bool (!(decide (wrOk ts))), .bool (!(decide (wrOk ts))), .int .i64 (parseB ((writeB ts).1)), .bool (decide (parseB ((writeB ts).1) ≠ 0)), .bool (decide (parseB ((writeB ts).1) ≠ 0)), .bool (decide (parseB ((writeB ts).1) ≠ 0)), w5, .int .i64 (((LL.length : Nat) : Int)), w2, .int .i64 ((((pcB ts).length : Nat) : Int)), .bool (decide (((LL.length : Nat) : Int) ≠ (((pcB ts).length : Nat) : Int))), .bool (decide (((LL.length : Nat) : Int) ≠ (((pcB ts).length : Nat) : Int))), w2, .int .i64 ((((pcB ts).length : Nat) : Int)), .int .i64 ((((pcB ts).length : Nat) : Int)), .bool (decide (0 < (((pcB ts).length : Nat) : Int))), .bool (decide (0 < (((pcB ts).length : Nat) : Int))), w5, .int .i64 ((((pcB ts).length : Nat) : Int)), .int .i64 ((((pcB ts).length : Nat) : Int) - 1), .pointer (some ((adrV w5).add ((((((pcB ts).length : Nat) : Int) - 1)).toNat * 2))), .pointer (some (((adrV w5).add ((((((pcB ts).length : Nat) : Int) - 1)).toNat * 2)).add 1)), .int .i64 ((LL.getD ((((((pcB ts).length : Nat) : Int) - 1)).toNat) pz).2), .bool (decide ((LL.getD ((((((pcB ts).length : Nat) : Int) - 1)).toNat) pz).2 = (-1))), .bool (decide ((LL.getD ((((((pcB ts).length : Nat) : Int) - 1)).toNat) pz).2 = (-1))), .int .i64 ((((pcB ts).length : Nat) : Int)), .int .i64 ((((pcB ts).length : Nat) : Int) - 1), (y10 69), (y10 70), (y10 71), (y10 72), (y10 73), (y10 74), (y10 75), (y10 76), (y10 77), (y10 78), (y10 79), (y10 80), (y10 81), (y10 82), (y10 83), (y10 84), (y10 85), (y10 86), (y10 87), (y10 88), (y10 89), undef, undef, undef, undef, undef, undef, undef, undef, undef, undef, undef, undef, undef, undef, undef, undef, undef, undef, undef, undef, undef, undef, undef, undef, undef, undef, undef]) ∧ (k ≤ l.length + 1) ∧ (z = ((sumC LL k : Nat) : Int)) ∧ St h [] p h_ (([] : Pcs) ++ (X6 ++ (X3 ++ [])))) (fun h_ H_ => ⟨0, 0, rfl, (y_of rfl), Nat.zero_le _, rfl, H_⟩) ?_
        intro m_ tm_ IH11
        refine rs_ex fun k => rs_ex fun z => rs_and fun hm_ => rs_and fun ht_ => rs_and fun hk => rs_and fun hz => ?_
        subst hm_; obtain ⟨y10, ht_⟩ := ht_; subst ht_
        refine fl_seq ?_
        refine fl_seq ?_
        refine rl_start ?_
        refine rl_det (met_none rfl) (fun h_ H_ => exd_move (v := .int .i64 (((k : Nat) : Int))) rfl) rfl ?_
        refine rl_det (met_none rfl) (fun h_ H_ => exd_move (v := .int .i64 ((((pcB ts).length : Nat) : Int) - 1)) rfl) (tm' := _::_::_::_::_::_::_::_::_::_::_::_::_::_::_::_::_::_::_::_::_::_::_::_::_::_::_::_::_::_::_::_::_::_::_::_::_::_::_::_::_::_::_::_::_::_::_::_::_::_::_::_::_::_::_::_::_::_::_::_::_::_::_::_::_::_::_::_::_::_::_::_) rfl ?_
        refine rl_det (met_none rfl) (fun h_ H_ => exd_leq rfl rfl) rfl ?_
        refine rl_end ?_
        by_cases cc12 : ((k : Nat) : Int) ≤ (((pcB ts).length : Nat) : Int) - 1
        · refine fl_then rfl (decide_eq_true cc12) ?_
          refine fl_skip ?_
          refine fl_seq ?_
          refine fl_block ?_
          refine fl_seq ?_
          have hu := uses_good hrd.2 S0 (n := ((k : Nat) : Int)) ⟨by omega, by omega⟩
          rw [← hLL] at hu
          have hu1 : (usesB ts ((k : Nat) : Int)).1 = ((cntN LL ((k : Nat) : Int) : Nat) : Int) := by rw [hu]
          have hcf := S.few ((k : Nat) : Int)
          have hzl := sumC_le LL k
          refine rl_start ?_
          refine rl_det (met_none rfl) (fun h_ H_ => exd_move (v := .slice a n c) rfl) rfl ?_
          refine rl_det (met_none rfl) (fun h_ H_ => exd_move (v := .int .i64 (((k : Nat) : Int))) rfl) (tm' := _::_::_::_::_::_::_::_::_::_::_::_::_::_::_::_::_::_::_::_::_::_::_::_::_::_::_::_::_::_::_::_::_::_::_::_::_::_::_::_::_::_::_::_::_::_::_::_::_::_::_::_::_::_::_::_::_::_::_::_::_::_::_::_::_::_::_::_::_::_::_::_::_::_::_::_::_::_) rfl ?_
          refine rl_calld (met_none rfl) (first := []) (cap := []) rfl rfl fC24 (fun h_ H_ => c24 _ _ (fun b_ o_ e_ => H_.per b_ o_ e_) a n _ ts T (by omega) (by first | exact ht0 | exact ht1 | exact fun i h_ => absurd h_ (Nat.not_lt_zero i)) ((k : Nat) : Int) (by first | exact hm | exact ⟨by omega, by omega⟩)) rfl ?_
          refine rl_det (met_none rfl) (fun h_ H_ => exd_move (v := .tuple #[.int .i64 ((usesB ts ((k : Nat) : Int)).1), .int .i64 ((usesB ts ((k : Nat) : Int)).2)]) rfl) rfl ?_
          refine rl_det (met_none rfl) (fun h_ H_ => exd_extract rfl (v := .int .i64 ((usesB ts ((k : Nat) : Int)).1)) rfl) (tm' := [_,_,_,_,_,_,_,_,_,_,_,_,_,_,_,_,_,_,_,_,_,_,_,_,_,_,_,_,_,_,_,_,_,_,_,_,_,_,_,_,_,_,_,_,_,_,_,_,_,_,_,_,_,_,_,_,_,_,_,_,_,_,_,_,_,_,_,_,_,_,_,_,_,_,_,_,_,_,_,_,_,_,_,_,_,_,_,_,_,_,_,_,_,_,_,_,_,_,_,_,_,_,_,_,_,_,_,_,_,_,_,_,_,_,_,_,_]) rfl ?_
          refine rl_det (met_none rfl) (fun h_ H_ => exd_extract rfl (v := .int .i64 ((usesB ts ((k : Nat) : Int)).2)) rfl) rfl ?_
          refine rl_det (met_none rfl) (fun h_ H_ => exd_assign (v := .int .i64 ((usesB ts ((k : Nat) : Int)).1)) rfl) rfl ?_
          refine rl_det (met_none rfl) (fun h_ H_ => exd_assign (v := .int .i64 ((usesB ts ((k : Nat) : Int)).2)) rfl) (tm' := _::_::_::_::_::_::_::_::_::_::_::_::_::_::_::_::_) rfl ?_
          refine rl_end ?_
          refine fl_seq ?_
          refine fl_seq ?_
          refine rl_start ?_
          refine rl_det (met_none rfl) (fun h_ H_ => exd_move (v := .int .i64 ((usesB ts ((k : Nat) : Int)).2)) rfl) rfl ?_
          refine rl_det (met_none rfl) (fun h_ H_ => exd_neq rfl rfl) rfl ?_
          refine rl_det (met_none rfl) (fun h_ H_ => exd_move (v := .bool (decide ((usesB ts ((k : Nat) : Int)).2 ≠ 0))) rfl) (tm' := [_,_,_,_,_,_,_,_,_,_,_,_,_,_,_,_,_,_,_,_,_,_,_,_,_,_,_,_,_,_,_,_,_,_,_,_,_,_,_,_,_,_,_,_,_,_,_,_,_,_,_,_,_,_,_,_,_,_,_,_,_,_,_,_,_,_,_,_,_,_,_,_,_,_,_,_,_,_,_,_,_,_,_,_,_,_,_,_,_,_,_,_,_,_,_,_,_,_,_,_,_,_,_,_,_,_,_,_,_,_,_,_,_,_,_,_,_]) rfl ?_
          refine rl_det (met_some rfl rfl (decide_eq_false (fun z_ => z_ (by rw [hu])))) (fun h_ H_ => exd_move (v := .int .i64 ((usesB ts ((k : Nat) : Int)).1)) rfl) rfl ?_
          refine rl_calld (met_some rfl rfl (decide_eq_false (fun z_ => z_ (by rw [hu])))) (first := []) (cap := []) rfl rfl fC22 (fun h_ H_ => c22 .lone _ ((usesB ts ((k : Nat) : Int)).1) (0) (96)) rfl ?_
          refine rl_det (met_some rfl rfl (decide_eq_false (fun z_ => z_ (by rw [hu])))) (fun h_ H_ => exd_not rfl) (tm' := [_,_,_,_,_,_,_,_,_,_,_,_,_,_,_,_,_,_,_,_,_,_,_,_,_,_,_,_,_,_,_,_,_,_,_,_,_,_,_,_,_,_,_,_,_,_,_,_,_,_,_,_,_,_,_,_,_,_,_,_,_,_,_,_,_,_,_,_,_,_,_,_,_,_,_,_,_,_,_,_,_,_,_,_,_,_,_,_,_,_,_,_,_,_,_,_,_,_,_,_,_,_,_,_,_,_,_,_,_,_,_,_,_,_,_,_,_]) rfl ?_
          refine rl_det (met_none rfl) (fun h_ H_ => exd_pick_f rfl (decide_eq_false (fun z_ => z_ (by rw [hu]))) (v := .bool (!(decide (0 ≤ (usesB ts ((k : Nat) : Int)).1 ∧ (usesB ts ((k : Nat) : Int)).1 ≤ 96)))) rfl) rfl ?_
          refine rl_end ?_
          refine fl_else rfl (not_f (decide_eq_true (by rw [hu1]; exact ⟨by omega, by omega⟩))) ?_
          refine fl_skip ?_
          refine rl_start ?_
          refine rl_det (met_none rfl) (fun h_ H_ => exd_move (v := .int .i64 (z)) rfl) rfl ?_
          refine rl_det (met_none rfl) (fun h_ H_ => exd_move (v := .int .i64 ((usesB ts ((k : Nat) : Int)).1)) rfl) (tm' := [_,_,_,_,_,_,_,_,_,_,_,_,_,_,_,_,_,_,_,_,_,_,_,_,_,_,_,_,_,_,_,_,_,_,_,_,_,_,_,_,_,_,_,_,_,_,_,_,_,_,_,_,_,_,_,_,_,_,_,_,_,_,_,_,_,_,_,_,_,_,_,_,_,_,_,_,_,_,_,_,_,_,_,_,_,_,_,_,_,_,_,_,_,_,_,_,_,_,_,_,_,_,_,_,_,_,_,_,_,_,_,_,_,_,_,_,_]) rfl ?_
          refine rl_det (met_none rfl) (fun h_ H_ => exd_add rfl rfl (wr (by omega))) rfl ?_
          refine rl_det (met_none rfl) (fun h_ H_ => exd_assign (v := .int .i64 (z + ((usesB ts ((k : Nat) : Int)).1))) rfl) rfl ?_
          refine rl_end ?_
          refine fl_inBlock ?_
          refine rl_start ?_
          refine rl_det (met_none rfl) (fun h_ H_ => exd_move (v := .int .i64 (((k : Nat) : Int))) rfl) (tm' := _::_::_::_::_::_::_::_::_::_::_::_::_::_::_::_::_::_::_::_::_::_::_::_::_::_::_::_::_::_::_::_::_::_::_::_::_::_::_::_::_::_::_::_::_::_::_::_::_::_::_::_::_::_::_::_::_::_::_::_::_::_::_::_::_::_::_::_::_::_::_::_::_::_) rfl ?_
          refine rl_det (met_none rfl) (fun h_ H_ => exd_add rfl rfl (n := ((k + 1 : Nat) : Int)) (wr (by omega))) rfl ?_
          refine rl_det (met_none rfl) (fun h_ H_ => exd_assign (v := .int .i64 (((k + 1 : Nat) : Int))) rfl) rfl ?_
          refine rl_end ?_
          exact fun h_ H_ => IH11 _ _ (by omega) h_ ⟨k + 1, z + ((usesB ts ((k : Nat) : Int)).1), rfl, (y_of rfl), (by omega), (by rw [hu1, hz, sumC]; omega), H_⟩
        · refine fl_else rfl (decide_eq_false cc12) ?_
          refine fl_exit rfl ?_
          refine fl_seq ?_
          refine fl_seq ?_
          have hkz : k = l.length + 1 := by omega
          have hz2 : z = ((LL.length : Nat) : Int) := by rw [hz, hkz, S.sum]
          refine rl_start ?_
          refine rl_det (met_none rfl) (fun h_ H_ => exd_move (v := .int .i64 (m)) rfl) (tm' := [_,_,_,_,_,_,_,_,_,_,_,_,_,_,_,_,_,_,_,_,_,_,_,_,_,_,_,_,_,_,_,_,_,_,_,_,_,_,_,_,_,_,_,_,_,_,_,_,_,_,_,_,_,_,_,_,_,_,_,_,_,_,_,_,_,_,_,_,_,_,_,_,_,_,_,_,_,_,_,_,_,_,_,_,_,_,_,_,_,_,_,_,_,_,_,_,_,_,_,_,_,_,_,_,_,_,_,_,_,_,_,_,_,_,_,_,_]) rfl ?_
          refine rl_det (met_none rfl) (fun h_ H_ => exd_move (v := .int .i64 ((((pcB ts).length : Nat) : Int) - 1)) rfl) rfl ?_
          refine rl_calld (met_none rfl) (first := []) (cap := []) rfl rfl fC22 (fun h_ H_ => c22 .lone _ (m) (0) ((((pcB ts).length : Nat) : Int) - 1)) rfl ?_
          refine rl_end ?_
          by_cases cc13 : 0 ≤ m ∧ m ≤ (((pcB ts).length : Nat) : Int) - 1
          · refine fl_then rfl (decide_eq_true cc13) ?_
            refine fl_seq ?_
            refine rl_start ?_
            refine rl_det (met_none rfl) (fun h_ H_ => exd_move (v := .int .i64 (z)) rfl) (tm' := [_,_,_,_,_,_,_,_,_,_,_,_,_,_,_,_,_,_,_,_,_,_,_,_,_,_,_,_,_,_,_,_,_,_,_,_,_,_,_,_,_,_,_,_,_,_,_,_,_,_,_,_,_,_,_,_,_,_,_,_,_,_,_,_,_,_,_,_,_,_,_,_,_,_,_,_,_,_,_,_,_,_,_,_,_,_,_,_,_,_,_,_,_,_,_,_,_,_,_,_,_,_,_,_,_,_,_,_,_,_,_,_,_,_,_,_,_]) rfl ?_
            refine rl_det (met_none rfl) (fun h_ H_ => exd_move (v := w2) rfl) rfl ?_
            refine rl_det (met_none rfl) (fun h_ H_ => exd_lenN o4 (scs_length _) Tryd.underlying22 rfl) rfl ?_
            refine rl_det (met_none rfl) (fun h_ H_ => exd_eql rfl rfl) (tm' := [_,_,_,_,_,_,_,_,_,_,_,_,_,_,_,_,_,_,_,_,_,_,_,_,_,_,_,_,_,_,_,_,_,_,_,_,_,_,_,_,_,_,_,_,_,_,_,_,_,_,_,_,_,_,_,_,_,_,_,_,_,_,_,_,_,_,_,_,_,_,_,_,_,_,_,_,_,_,_,_,_,_,_,_,_,_,_,_,_,_,_,_,_,_,_,_,_,_,_,_,_,_,_,_,_,_,_,_,_,_,_,_,_,_,_,_,_]) rfl ?_
            refine rl_det (met_none rfl) (fun h_ H_ => exd_move (v := .bool (decide (z = (((pcB ts).length : Nat) : Int)))) rfl) rfl ?_
            refine rl_calld (met_some rfl rfl (decide_eq_true (by rw [hz2, hlen]))) (first := []) (cap := []) rfl rfl fC16 (fun h_ H_ => c16 _ (htab.keep H_.kept)) rfl ?_
            refine rl_det (met_none rfl) (fun h_ H_ => exd_pick_t rfl (decide_eq_true (by rw [hz2, hlen])) (v := .bool (true)) rfl) (tm' := [_,_,_,_,_,_,_,_,_,_,_,_,_,_,_,_,_,_,_,_,_,_,_,_,_,_,_,_,_,_,_,_,_,_,_,_,_,_,_,_,_,_,_,_,_,_,_,_,_,_,_,_,_,_,_,_,_,_,_,_,_,_,_,_,_,_,_,_,_,_,_,_,_,_,_,_,_,_,_,_,_,_,_,_,_,_,_,_,_,_,_,_,_,_,_,_,_,_,_,_,_,_,_,_,_,_,_,_,_,_,_,_,_,_,_,_,_]) rfl ?_
            refine rl_det (met_none rfl) (fun h_ H_ => exd_assign (v := .bool (true)) rfl) rfl ?_
            refine rl_end ?_
            refine fl_retL Tryd.func12 rfl (vs := [.bool (true)]) (fun h_ H_ => ⟨.bool (true), _, rfl, rfl, rfl⟩) (v := .bool (true)) rfl ?_
            exact fun h_ H_ => ⟨rfl, H_.kept⟩
          · refine fl_else rfl (decide_eq_false cc13) ?_
            refine fl_skip ?_
            refine fl_seq ?_
            have hbad := uses_bad hrd.2 S0 (n := m) (by omega)
            refine rl_start ?_
            refine rl_det (met_none rfl) (fun h_ H_ => exd_move (v := .slice a n c) rfl) rfl ?_
            refine rl_det (met_none rfl) (fun h_ H_ => exd_move (v := .int .i64 (m)) rfl) (tm' := [_,_,_,_,_,_,_,_,_,_,_,_,_,_,_,_,_,_,_,_,_,_,_,_,_,_,_,_,_,_,_,_,_,_,_,_,_,_,_,_,_,_,_,_,_,_,_,_,_,_,_,_,_,_,_,_,_,_,_,_,_,_,_,_,_,_,_,_,_,_,_,_,_,_,_,_,_,_,_,_,_,_,_,_,_,_,_,_,_,_,_,_,_,_,_,_,_,_,_,_,_,_,_,_,_,_,_,_,_,_,_,_,_,_,_,_,_]) rfl ?_
            refine rl_calld (met_none rfl) (first := []) (cap := []) rfl rfl fC24 (fun h_ H_ => c24 _ _ (fun b_ o_ e_ => H_.per b_ o_ e_) a n _ ts T (by omega) (by first | exact ht0 | exact ht1 | exact fun i h_ => absurd h_ (Nat.not_lt_zero i)) m (by first | exact hm | exact ⟨by omega, by omega⟩)) rfl ?_
            refine rl_det (met_none rfl) (fun h_ H_ => exd_move (v := .tuple #[.int .i64 ((usesB ts m).1), .int .i64 ((usesB ts m).2)]) rfl) rfl ?_
            refine rl_det (met_none rfl) (fun h_ H_ => exd_extract rfl (v := .int .i64 ((usesB ts m).1)) rfl) (tm' := [_,_,_,_,_,_,_,_,_,_,_,_,_,_,_,_,_,_,_,_,_,_,_,_,_,_,_,_,_,_,_,_,_,_,_,_,_,_,_,_,_,_,_,_,_,_,_,_,_,_,_,_,_,_,_,_,_,_,_,_,_,_,_,_,_,_,_,_,_,_,_,_,_,_,_,_,_,_,_,_,_,_,_,_,_,_,_,_,_,_,_,_,_,_,_,_,_,_,_,_,_,_,_,_,_,_,_,_,_,_,_,_,_,_,_,_,_]) rfl ?_
            refine rl_det (met_none rfl) (fun h_ H_ => exd_extract rfl (v := .int .i64 ((usesB ts m).2)) rfl) rfl ?_
            refine rl_det (met_none rfl) (fun h_ H_ => exd_assign (v := .int .i64 ((usesB ts m).1)) rfl) rfl ?_
            refine rl_det (met_none rfl) (fun h_ H_ => exd_assign (v := .int .i64 ((usesB ts m).2)) rfl) (tm' := _::_::_::_::_::_::_::_::_::_::_::_::_::_::_::_::_::_::_) rfl ?_
            refine rl_end ?_
            refine fl_seq ?_
            refine rl_start ?_
            refine rl_det (met_none rfl) (fun h_ H_ => exd_move (v := .int .i64 (z)) rfl) rfl ?_
            refine rl_det (met_none rfl) (fun h_ H_ => exd_move (v := w2) rfl) rfl ?_
            refine rl_det (met_none rfl) (fun h_ H_ => exd_lenN o4 (scs_length _) Tryd.underlying22 rfl) (tm' := [_,_,_,_,_,_,_,_,_,_,_,_,_,_,_,_,_,_,_,_,_,_,_,_,_,_,_,_,_,_,_,_,_,_,_,_,_,_,_,_,_,_,_,_,_,_,_,_,_,_,_,_,_,_,_,_,_,_,_,_,_,_,_,_,_,_,_,_,_,_,_,_,_,_,_,_,_,_,_,_,_,_,_,_,_,_,_,_,_,_,_,_,_,_,_,_,_,_,_,_,_,_,_,_,_,_,_,_,_,_,_,_,_,_,_,_,_]) rfl ?_
            refine rl_det (met_none rfl) (fun h_ H_ => exd_eql rfl rfl) rfl ?_
            refine rl_det (met_none rfl) (fun h_ H_ => exd_move (v := .bool (decide (z = (((pcB ts).length : Nat) : Int)))) rfl) rfl ?_
            refine rl_det (met_some rfl rfl (decide_eq_true (by rw [hz2, hlen]))) (fun h_ H_ => exd_move (v := .int .i64 ((usesB ts m).2)) rfl) (tm' := [_,_,_,_,_,_,_,_,_,_,_,_,_,_,_,_,_,_,_,_,_,_,_,_,_,_,_,_,_,_,_,_,_,_,_,_,_,_,_,_,_,_,_,_,_,_,_,_,_,_,_,_,_,_,_,_,_,_,_,_,_,_,_,_,_,_,_,_,_,_,_,_,_,_,_,_,_,_,_,_,_,_,_,_,_,_,_,_,_,_,_,_,_,_,_,_,_,_,_,_,_,_,_,_,_,_,_,_,_,_,_,_,_,_,_,_,_]) rfl ?_
            refine rl_det (met_some rfl rfl (decide_eq_true (by rw [hz2, hlen]))) (fun h_ H_ => exd_eql rfl rfl) rfl ?_
            refine rl_det (met_none rfl) (fun h_ H_ => exd_pick_t rfl (decide_eq_true (by rw [hz2, hlen])) (v := .bool (decide ((usesB ts m).2 = 1))) rfl) rfl ?_
            refine rl_det (met_none rfl) (fun h_ H_ => exd_move (v := .bool (decide ((usesB ts m).2 = 1))) rfl) (tm' := [_,_,_,_,_,_,_,_,_,_,_,_,_,_,_,_,_,_,_,_,_,_,_,_,_,_,_,_,_,_,_,_,_,_,_,_,_,_,_,_,_,_,_,_,_,_,_,_,_,_,_,_,_,_,_,_,_,_,_,_,_,_,_,_,_,_,_,_,_,_,_,_,_,_,_,_,_,_,_,_,_,_,_,_,_,_,_,_,_,_,_,_,_,_,_,_,_,_,_,_,_,_,_,_,_,_,_,_,_,_,_,_,_,_,_,_,_]) rfl ?_
            refine rl_calld (met_some rfl rfl (decide_eq_true (by rw [hbad]))) (first := []) (cap := []) rfl rfl fC16 (fun h_ H_ => c16 _ (htab.keep H_.kept)) rfl ?_
            refine rl_det (met_none rfl) (fun h_ H_ => exd_pick_t rfl (decide_eq_true (by rw [hbad])) (v := .bool (true)) rfl) rfl ?_
            refine rl_det (met_none rfl) (fun h_ H_ => exd_assign (v := .bool (true)) rfl) (tm' := _::_::_::_::_::_) rfl ?_
            refine rl_end ?_
            refine fl_retL Tryd.func12 rfl (vs := [.bool (true)]) (fun h_ H_ => ⟨.bool (true), _, rfl, rfl, rfl⟩) (v := .bool (true)) rfl ?_
            exact fun h_ H_ => ⟨rfl, H_.kept⟩
      · refine fl_else rfl (decide_eq_false cc9) ?_
        refine fl_skip ?_
        refine fl_seq ?_
        have hlast : (((pcB ts).length : Nat) : Int) = ((l.length : Nat) : Int) := by have z_ := S.no (fun h0 => by first | exact absurd h0 (by omega) | (rw [← hix]; assumption)); omega
        refine rl_start ?_
        refine rl_det (met_none rfl) (fun h_ H_ => exd_assign (v := .int .i64 0) rfl) rfl ?_
        refine rl_end ?_
        refine fl_seq ?_
        refine fl_seq ?_
        refine rl_start ?_
        refine rl_det (met_none rfl) (fun h_ H_ => exd_assign (v := .int .i64 0) rfl) rfl ?_
        refine rl_end ?_
        refine fl_block ?_
        refine fl_loop (m₀ := l.length + 1 - 0) (fun m_ tm_ h_ => ∃ (k : Nat) (z : Int), m_ = l.length + 1 - k ∧ (∃ y14 : Nat → Value, tm_ = [.slice a n c, .int .i64 (m), undef, undef, (y14 4), w2, .bool (decide (chkT ts = 0)), sv ((writeB ts).1), .bool (decide (wrOk ts)), w5, .int .i64 (parseB ((writeB ts).1)), .int .i64 ((((pcB ts).length : Nat) : Int)), .int .i64 (z), .int .i64 (((k : Nat) : Int)), (y14 14), (y14 15), undef, undef, .slice a n c, .bool (decide (readyT ts)), .bool (!(decide (readyT ts))), undef, .tuple #[w2, .bool (decide (chkT ts = 0))], .slice a n c, .tuple #[w2, .bool (decide (chkT ts = 0))], w2, .bool (decide (chkT ts = 0)), .tuple #[sv ((writeB ts).1), .bool (decide (wrOk ts))], .slice a n c, .tuple #[sv ((writeB ts).1), .bool (decide (wrOk ts))], sv ((writeB ts).1), .bool (decide (wrOk ts)), .tuple #[w5, .int .i64 (parseB ((writeB ts).1))], sv ((writeB ts).1), .tuple #[w5, .int .i64 (parseB ((writeB ts).1))], w5, .int .i64 (parseB ((writeB ts).1)), .bool (decide (chkT ts = 0)), .bool (!(decide (chkT ts = 0))), .bool (!(decide (chkT ts = 0))), .bool (decide (wrOk ts)), .bool (!(decide (wrOk ts))), .bool (!(decide (wrOk ts))), .bool (!(decide (wrOk ts))), .int .i64 (parseB ((writeB ts).1)), .bool (decide (parseB ((writeB ts).1) ≠ 0)), .bool (decide (parseB ((writeB ts).1) ≠ 0)), .bool (decide (parseB ((writeB ts).1) ≠ 0)), w5, .int .i64 (((LL.length : Nat) : Int)), w2, .int .i64 ((((pcB ts).length : Nat) : Int)), .bool (decide (((LL.length : Nat) : Int) ≠ (((pcB ts).length : Nat) : Int))), .bool (decide (((LL.length : Nat) : Int) ≠ (((pcB ts).length : Nat) : Int))), w2, .int .i64 ((((pcB ts).length : Nat) : Int)), .int .i64 ((((pcB ts).length : Nat) : Int)), .bool (decide (0 < (((pcB ts).length : Nat) : Int))), .bool (decide (0 < (((pcB ts).length : Nat) : Int))), w5, .int .i64 ((((pcB ts).length : Nat) : Int)), .int .i64 ((((pcB ts).length : Nat) : Int) - 1), .pointer (some ((adrV w5).add ((((((pcB ts).length : Nat) : Int) - 1)).toNat * 2))), .pointer (some (((adrV w5).add ((((((pcB ts).length : Nat) : Int) - 1)).toNat * 2)).add 1)), .int .i64 ((LL.getD ((((((pcB ts).length : Nat) : Int) - 1)).toNat) pz).2), .bool (decide ((LL.getD ((((((pcB ts).length : Nat) : Int) - 1)).toNat) pz).2 = (-1))), .bool (decide ((LL.getD ((((((pcB ts).length : Nat) : Int) - 1)).toNat) pz).2 = (-1))), undef, undef, (y14 69), (y14 70), (y14 71), (y14 72), (y14 73), (y14 74), (y14 75), (y14 76), (y14 77), (y14 78), (y14 79), (y14 80), (y14 81), (y14 82), (y14 83), (y14 84), (y14 85), (y14 86), (y14 87), (y14 88), (y14 89), undef, undef, undef, undef, undef, undef, undef, undef, undef, undef, undef, undef, undef, undef, undef, undef, undef, undef, undef, undef, undef, undef, undef, undef, undef, undef, undef]) ∧ (k ≤ l.length + 1) ∧ (z = ((sumC LL k : Nat) : Int)) ∧ St h [] p h_ (([] : Pcs) ++ (X6 ++ (X3 ++ [])))) (fun h_ H_ => ⟨0, 0, rfl, (y_of rfl), Nat.zero_le _, rfl, H_⟩) ?_
        intro m_ tm_ IH15
        refine rs_ex fun k => rs_ex fun z => rs_and fun hm_ => rs_and fun ht_ => rs_and fun hk => rs_and fun hz => ?_
        subst hm_; obtain ⟨y14, ht_⟩ := ht_; subst ht_
        refine fl_seq ?_
        refine fl_seq ?_
        refine rl_start ?_
        refine rl_det (met_none rfl) (fun h_ H_ => exd_move (v := .int .i64 (((k : Nat) : Int))) rfl) (tm' := _::_::_::_::_::_::_::_::_::_::_::_::_::_::_::_::_::_::_::_::_::_::_::_::_::_::_::_::_::_::_::_::_::_::_::_::_::_::_::_::_::_::_::_::_::_::_::_::_::_::_::_::_::_::_::_::_::_::_::_::_::_::_::_::_::_::_::_::_::_::_) rfl ?_
        refine rl_det (met_none rfl) (fun h_ H_ => exd_move (v := .int .i64 ((((pcB ts).length : Nat) : Int))) rfl) rfl ?_
        refine rl_det (met_none rfl) (fun h_ H_ => exd_leq rfl rfl) rfl ?_
        refine rl_end ?_
        by_cases cc16 : ((k : Nat) : Int) ≤ (((pcB ts).length : Nat) : Int)
        · refine fl_then rfl (decide_eq_true cc16) ?_
          refine fl_skip ?_
          refine fl_seq ?_
          refine fl_block ?_
          refine fl_seq ?_
          have hu := uses_good hrd.2 S0 (n := ((k : Nat) : Int)) ⟨by omega, by omega⟩
          rw [← hLL] at hu
          have hu1 : (usesB ts ((k : Nat) : Int)).1 = ((cntN LL ((k : Nat) : Int) : Nat) : Int) := by rw [hu]
          have hcf := S.few ((k : Nat) : Int)
          have hzl := sumC_le LL k
          refine rl_start ?_
          refine rl_det (met_none rfl) (fun h_ H_ => exd_move (v := .slice a n c) rfl) (tm' := _::_::_::_::_::_::_::_::_::_::_::_::_::_::_::_::_::_::_::_::_::_::_::_::_::_::_::_::_::_::_::_::_::_::_::_::_::_::_::_::_::_::_::_::_::_::_::_::_::_::_::_::_::_::_::_::_::_::_::_::_::_::_::_::_::_::_::_::_::_::_::_::_::_::_::_::_) rfl ?_
          refine rl_det (met_none rfl) (fun h_ H_ => exd_move (v := .int .i64 (((k : Nat) : Int))) rfl) rfl ?_
          refine rl_calld (met_none rfl) (first := []) (cap := []) rfl rfl fC24 (fun h_ H_ => c24 _ _ (fun b_ o_ e_ => H_.per b_ o_ e_) a n _ ts T (by omega) (by first | exact ht0 | exact ht1 | exact fun i h_ => absurd h_ (Nat.not_lt_zero i)) ((k : Nat) : Int) (by first | exact hm | exact ⟨by omega, by omega⟩)) rfl ?_
          refine rl_det (met_none rfl) (fun h_ H_ => exd_move (v := .tuple #[.int .i64 ((usesB ts ((k : Nat) : Int)).1), .int .i64 ((usesB ts ((k : Nat) : Int)).2)]) rfl) (tm' := _::_::_::_::_::_::_::_::_::_::_::_::_::_::_::_::_::_::_::_::_::_::_::_::_::_::_::_::_::_::_::_::_::_::_::_::_::_::_::_::_::_::_::_::_::_::_::_::_::_::_::_::_::_::_::_::_::_::_::_::_::_::_::_::_::_::_::_::_::_::_::_::_::_::_::_) rfl ?_
          refine rl_det (met_none rfl) (fun h_ H_ => exd_extract rfl (v := .int .i64 ((usesB ts ((k : Nat) : Int)).1)) rfl) rfl ?_
          refine rl_det (met_none rfl) (fun h_ H_ => exd_extract rfl (v := .int .i64 ((usesB ts ((k : Nat) : Int)).2)) rfl) rfl ?_
          refine rl_det (met_none rfl) (fun h_ H_ => exd_assign (v := .int .i64 ((usesB ts ((k : Nat) : Int)).1)) rfl) (tm' := _::_::_::_::_::_::_::_::_::_::_::_::_::_::_::_) rfl ?_
          refine rl_det (met_none rfl) (fun h_ H_ => exd_assign (v := .int .i64 ((usesB ts ((k : Nat) : Int)).2)) rfl) rfl ?_
          refine rl_end ?_
          refine fl_seq ?_
          refine fl_seq ?_
          refine rl_start ?_
          refine rl_det (met_none rfl) (fun h_ H_ => exd_move (v := .int .i64 ((usesB ts ((k : Nat) : Int)).2)) rfl) rfl ?_
          refine rl_det (met_none rfl) (fun h_ H_ => exd_neq rfl rfl) (tm' := [_,_,_,_,_,_,_,_,_,_,_,_,_,_,_,_,_,_,_,_,_,_,_,_,_,_,_,_,_,_,_,_,_,_,_,_,_,_,_,_,_,_,_,_,_,_,_,_,_,_,_,_,_,_,_,_,_,_,_,_,_,_,_,_,_,_,_,_,_,_,_,_,_,_,_,_,_,_,_,_,_,_,_,_,_,_,_,_,_,_,_,_,_,_,_,_,_,_,_,_,_,_,_,_,_,_,_,_,_,_,_,_,_,_,_,_,_]) rfl ?_
          refine rl_det (met_none rfl) (fun h_ H_ => exd_move (v := .bool (decide ((usesB ts ((k : Nat) : Int)).2 ≠ 0))) rfl) rfl ?_
          refine rl_det (met_some rfl rfl (decide_eq_false (fun z_ => z_ (by rw [hu])))) (fun h_ H_ => exd_move (v := .int .i64 ((usesB ts ((k : Nat) : Int)).1)) rfl) rfl ?_
          refine rl_calld (met_some rfl rfl (decide_eq_false (fun z_ => z_ (by rw [hu])))) (first := []) (cap := []) rfl rfl fC22 (fun h_ H_ => c22 .lone _ ((usesB ts ((k : Nat) : Int)).1) (0) (96)) (tm' := [_,_,_,_,_,_,_,_,_,_,_,_,_,_,_,_,_,_,_,_,_,_,_,_,_,_,_,_,_,_,_,_,_,_,_,_,_,_,_,_,_,_,_,_,_,_,_,_,_,_,_,_,_,_,_,_,_,_,_,_,_,_,_,_,_,_,_,_,_,_,_,_,_,_,_,_,_,_,_,_,_,_,_,_,_,_,_,_,_,_,_,_,_,_,_,_,_,_,_,_,_,_,_,_,_,_,_,_,_,_,_,_,_,_,_,_,_]) rfl ?_
          refine rl_det (met_some rfl rfl (decide_eq_false (fun z_ => z_ (by rw [hu])))) (fun h_ H_ => exd_not rfl) rfl ?_
          refine rl_det (met_none rfl) (fun h_ H_ => exd_pick_f rfl (decide_eq_false (fun z_ => z_ (by rw [hu]))) (v := .bool (!(decide (0 ≤ (usesB ts ((k : Nat) : Int)).1 ∧ (usesB ts ((k : Nat) : Int)).1 ≤ 96)))) rfl) rfl ?_
          refine rl_end ?_
          refine fl_else rfl (not_f (decide_eq_true (by rw [hu1]; exact ⟨by omega, by omega⟩))) ?_
          refine fl_skip ?_
          refine rl_start ?_
          refine rl_det (met_none rfl) (fun h_ H_ => exd_move (v := .int .i64 (z)) rfl) (tm' := [_,_,_,_,_,_,_,_,_,_,_,_,_,_,_,_,_,_,_,_,_,_,_,_,_,_,_,_,_,_,_,_,_,_,_,_,_,_,_,_,_,_,_,_,_,_,_,_,_,_,_,_,_,_,_,_,_,_,_,_,_,_,_,_,_,_,_,_,_,_,_,_,_,_,_,_,_,_,_,_,_,_,_,_,_,_,_,_,_,_,_,_,_,_,_,_,_,_,_,_,_,_,_,_,_,_,_,_,_,_,_,_,_,_,_,_,_]) rfl ?_
          refine rl_det (met_none rfl) (fun h_ H_ => exd_move (v := .int .i64 ((usesB ts ((k : Nat) : Int)).1)) rfl) rfl ?_
          refine rl_det (met_none rfl) (fun h_ H_ => exd_add rfl rfl (wr (by omega))) rfl ?_
          refine rl_det (met_none rfl) (fun h_ H_ => exd_assign (v := .int .i64 (z + ((usesB ts ((k : Nat) : Int)).1))) rfl) (tm' := _::_::_::_::_::_::_::_::_::_::_::_::_::_) rfl ?_
          refine rl_end ?_
          refine fl_inBlock ?_
          refine rl_start ?_
          refine rl_det (met_none rfl) (fun h_ H_ => exd_move (v := .int .i64 (((k : Nat) : Int))) rfl) rfl ?_
          refine rl_det (met_none rfl) (fun h_ H_ => exd_add rfl rfl (n := ((k + 1 : Nat) : Int)) (wr (by omega))) rfl ?_
          refine rl_det (met_none rfl) (fun h_ H_ => exd_assign (v := .int .i64 (((k + 1 : Nat) : Int))) rfl) (tm' := _::_::_::_::_::_::_::_::_::_::_::_::_::_::_) rfl ?_
          refine rl_end ?_
          exact fun h_ H_ => IH15 _ _ (by omega) h_ ⟨k + 1, z + ((usesB ts ((k : Nat) : Int)).1), rfl, (y_of rfl), (by omega), (by rw [hu1, hz, sumC]; omega), H_⟩
        · refine fl_else rfl (decide_eq_false cc16) ?_
          refine fl_exit rfl ?_
          refine fl_seq ?_
          refine fl_seq ?_
          have hkz : k = l.length + 1 := by omega
          have hz2 : z = ((LL.length : Nat) : Int) := by rw [hz, hkz, S.sum]
          refine rl_start ?_
          refine rl_det (met_none rfl) (fun h_ H_ => exd_move (v := .int .i64 (m)) rfl) rfl ?_
          refine rl_det (met_none rfl) (fun h_ H_ => exd_move (v := .int .i64 ((((pcB ts).length : Nat) : Int))) rfl) rfl ?_
          refine rl_calld (met_none rfl) (first := []) (cap := []) rfl rfl fC22 (fun h_ H_ => c22 .lone _ (m) (0) ((((pcB ts).length : Nat) : Int))) (tm' := [_,_,_,_,_,_,_,_,_,_,_,_,_,_,_,_,_,_,_,_,_,_,_,_,_,_,_,_,_,_,_,_,_,_,_,_,_,_,_,_,_,_,_,_,_,_,_,_,_,_,_,_,_,_,_,_,_,_,_,_,_,_,_,_,_,_,_,_,_,_,_,_,_,_,_,_,_,_,_,_,_,_,_,_,_,_,_,_,_,_,_,_,_,_,_,_,_,_,_,_,_,_,_,_,_,_,_,_,_,_,_,_,_,_,_,_,_]) rfl ?_
          refine rl_end ?_
          by_cases cc17 : 0 ≤ m ∧ m ≤ (((pcB ts).length : Nat) : Int)
          · refine fl_then rfl (decide_eq_true cc17) ?_
            refine fl_seq ?_
            refine rl_start ?_
            refine rl_det (met_none rfl) (fun h_ H_ => exd_move (v := .int .i64 (z)) rfl) rfl ?_
            refine rl_det (met_none rfl) (fun h_ H_ => exd_move (v := w2) rfl) rfl ?_
            refine rl_det (met_none rfl) (fun h_ H_ => exd_lenN o4 (scs_length _) Tryd.underlying22 rfl) (tm' := [_,_,_,_,_,_,_,_,_,_,_,_,_,_,_,_,_,_,_,_,_,_,_,_,_,_,_,_,_,_,_,_,_,_,_,_,_,_,_,_,_,_,_,_,_,_,_,_,_,_,_,_,_,_,_,_,_,_,_,_,_,_,_,_,_,_,_,_,_,_,_,_,_,_,_,_,_,_,_,_,_,_,_,_,_,_,_,_,_,_,_,_,_,_,_,_,_,_,_,_,_,_,_,_,_,_,_,_,_,_,_,_,_,_,_,_,_]) rfl ?_
            refine rl_det (met_none rfl) (fun h_ H_ => exd_eql rfl rfl) rfl ?_
            refine rl_det (met_none rfl) (fun h_ H_ => exd_move (v := .bool (decide (z = (((pcB ts).length : Nat) : Int)))) rfl) rfl ?_
            refine rl_calld (met_some rfl rfl (decide_eq_true (by rw [hz2, hlen]))) (first := []) (cap := []) rfl rfl fC16 (fun h_ H_ => c16 _ (htab.keep H_.kept)) (tm' := [_,_,_,_,_,_,_,_,_,_,_,_,_,_,_,_,_,_,_,_,_,_,_,_,_,_,_,_,_,_,_,_,_,_,_,_,_,_,_,_,_,_,_,_,_,_,_,_,_,_,_,_,_,_,_,_,_,_,_,_,_,_,_,_,_,_,_,_,_,_,_,_,_,_,_,_,_,_,_,_,_,_,_,_,_,_,_,_,_,_,_,_,_,_,_,_,_,_,_,_,_,_,_,_,_,_,_,_,_,_,_,_,_,_,_,_,_]) rfl ?_
            refine rl_det (met_none rfl) (fun h_ H_ => exd_pick_t rfl (decide_eq_true (by rw [hz2, hlen])) (v := .bool (true)) rfl) rfl ?_
            refine rl_det (met_none rfl) (fun h_ H_ => exd_assign (v := .bool (true)) rfl) rfl ?_
            refine rl_end ?_
            refine fl_retL Tryd.func12 rfl (vs := [.bool (true)]) (fun h_ H_ => ⟨.bool (true), _, rfl, rfl, rfl⟩) (v := .bool (true)) rfl ?_
            exact fun h_ H_ => ⟨rfl, H_.kept⟩
          · refine fl_else rfl (decide_eq_false cc17) ?_
            refine fl_skip ?_
            refine fl_seq ?_
            have hbad := uses_bad hrd.2 S0 (n := m) (by omega)
            refine rl_start ?_
            refine rl_det (met_none rfl) (fun h_ H_ => exd_move (v := .slice a n c) rfl) (tm' := [_,_,_,_,_,_,_,_,_,_,_,_,_,_,_,_,_,_,_,_,_,_,_,_,_,_,_,_,_,_,_,_,_,_,_,_,_,_,_,_,_,_,_,_,_,_,_,_,_,_,_,_,_,_,_,_,_,_,_,_,_,_,_,_,_,_,_,_,_,_,_,_,_,_,_,_,_,_,_,_,_,_,_,_,_,_,_,_,_,_,_,_,_,_,_,_,_,_,_,_,_,_,_,_,_,_,_,_,_,_,_,_,_,_,_,_,_]) rfl ?_
            refine rl_det (met_none rfl) (fun h_ H_ => exd_move (v := .int .i64 (m)) rfl) rfl ?_
            refine rl_calld (met_none rfl) (first := []) (cap := []) rfl rfl fC24 (fun h_ H_ => c24 _ _ (fun b_ o_ e_ => H_.per b_ o_ e_) a n _ ts T (by omega) (by first | exact ht0 | exact ht1 | exact fun i h_ => absurd h_ (Nat.not_lt_zero i)) m (by first | exact hm | exact ⟨by omega, by omega⟩)) rfl ?_
            refine rl_det (met_none rfl) (fun h_ H_ => exd_move (v := .tuple #[.int .i64 ((usesB ts m).1), .int .i64 ((usesB ts m).2)]) rfl) (tm' := [_,_,_,_,_,_,_,_,_,_,_,_,_,_,_,_,_,_,_,_,_,_,_,_,_,_,_,_,_,_,_,_,_,_,_,_,_,_,_,_,_,_,_,_,_,_,_,_,_,_,_,_,_,_,_,_,_,_,_,_,_,_,_,_,_,_,_,_,_,_,_,_,_,_,_,_,_,_,_,_,_,_,_,_,_,_,_,_,_,_,_,_,_,_,_,_,_,_,_,_,_,_,_,_,_,_,_,_,_,_,_,_,_,_,_,_,_]) rfl ?_
            refine rl_det (met_none rfl) (fun h_ H_ => exd_extract rfl (v := .int .i64 ((usesB ts m).1)) rfl) rfl ?_
            refine rl_det (met_none rfl) (fun h_ H_ => exd_extract rfl (v := .int .i64 ((usesB ts m).2)) rfl) rfl ?_
            refine rl_det (met_none rfl) (fun h_ H_ => exd_assign (v := .int .i64 ((usesB ts m).1)) rfl) (tm' := _::_::_::_::_::_::_::_::_::_::_::_::_::_::_::_::_::_) rfl ?_
            refine rl_det (met_none rfl) (fun h_ H_ => exd_assign (v := .int .i64 ((usesB ts m).2)) rfl) rfl ?_
            refine rl_end ?_
            refine fl_seq ?_
            refine rl_start ?_
            refine rl_det (met_none rfl) (fun h_ H_ => exd_move (v := .int .i64 (z)) rfl) rfl ?_
            refine rl_det (met_none rfl) (fun h_ H_ => exd_move (v := w2) rfl) (tm' := [_,_,_,_,_,_,_,_,_,_,_,_,_,_,_,_,_,_,_,_,_,_,_,_,_,_,_,_,_,_,_,_,_,_,_,_,_,_,_,_,_,_,_,_,_,_,_,_,_,_,_,_,_,_,_,_,_,_,_,_,_,_,_,_,_,_,_,_,_,_,_,_,_,_,_,_,_,_,_,_,_,_,_,_,_,_,_,_,_,_,_,_,_,_,_,_,_,_,_,_,_,_,_,_,_,_,_,_,_,_,_,_,_,_,_,_,_]) rfl ?_
            refine rl_det (met_none rfl) (fun h_ H_ => exd_lenN o4 (scs_length _) Tryd.underlying22 rfl) rfl ?_
            refine rl_det (met_none rfl) (fun h_ H_ => exd_eql rfl rfl) rfl ?_
            refine rl_det (met_none rfl) (fun h_ H_ => exd_move (v := .bool (decide (z = (((pcB ts).length : Nat) : Int)))) rfl) (tm' := [_,_,_,_,_,_,_,_,_,_,_,_,_,_,_,_,_,_,_,_,_,_,_,_,_,_,_,_,_,_,_,_,_,_,_,_,_,_,_,_,_,_,_,_,_,_,_,_,_,_,_,_,_,_,_,_,_,_,_,_,_,_,_,_,_,_,_,_,_,_,_,_,_,_,_,_,_,_,_,_,_,_,_,_,_,_,_,_,_,_,_,_,_,_,_,_,_,_,_,_,_,_,_,_,_,_,_,_,_,_,_,_,_,_,_,_,_]) rfl ?_
            refine rl_det (met_some rfl rfl (decide_eq_true (by rw [hz2, hlen]))) (fun h_ H_ => exd_move (v := .int .i64 ((usesB ts m).2)) rfl) rfl ?_
            refine rl_det (met_some rfl rfl (decide_eq_true (by rw [hz2, hlen]))) (fun h_ H_ => exd_eql rfl rfl) rfl ?_
            refine rl_det (met_none rfl) (fun h_ H_ => exd_pick_t rfl (decide_eq_true (by rw [hz2, hlen])) (v := .bool (decide ((usesB ts m).2 = 1))) rfl) (tm' := [_,_,_,_,_,_,_,_,_,_,_,_,_,_,_,_,_,_,_,_,_,_,_,_,_,_,_,_,_,_,_,_,_,_,_,_,_,_,_,_,_,_,_,_,_,_,_,_,_,_,_,_,_,_,_,_,_,_,_,_,_,_,_,_,_,_,_,_,_,_,_,_,_,_,_,_,_,_,_,_,_,_,_,_,_,_,_,_,_,_,_,_,_,_,_,_,_,_,_,_,_,_,_,_,_,_,_,_,_,_,_,_,_,_,_,_,_]) rfl ?_
            refine rl_det (met_none rfl) (fun h_ H_ => exd_move (v := .bool (decide ((usesB ts m).2 = 1))) rfl) rfl ?_
            refine rl_calld (met_some rfl rfl (decide_eq_true (by rw [hbad]))) (first := []) (cap := []) rfl rfl fC16 (fun h_ H_ => c16 _ (htab.keep H_.kept)) rfl ?_
            refine rl_det (met_none rfl) (fun h_ H_ => exd_pick_t rfl (decide_eq_true (by rw [hbad])) (v := .bool (true)) rfl) (tm' := [_,_,_,_,_,_,_,_,_,_,_,_,_,_,_,_,_,_,_,_,_,_,_,_,_,_,_,_,_,_,_,_,_,_,_,_,_,_,_,_,_,_,_,_,_,_,_,_,_,_,_,_,_,_,_,_,_,_,_,_,_,_,_,_,_,_,_,_,_,_,_,_,_,_,_,_,_,_,_,_,_,_,_,_,_,_,_,_,_,_,_,_,_,_,_,_,_,_,_,_,_,_,_,_,_,_,_,_,_,_,_,_,_,_,_,_,_]) rfl ?_
            refine rl_det (met_none rfl) (fun h_ H_ => exd_assign (v := .bool (true)) rfl) rfl ?_
            refine rl_end ?_
            refine fl_retL Tryd.func12 rfl (vs := [.bool (true)]) (fun h_ H_ => ⟨.bool (true), _, rfl, rfl, rfl⟩) (v := .bool (true)) rfl ?_
            exact fun h_ H_ => ⟨rfl, H_.kept⟩
    · refine rl_pass (met_not rfl rfl (decide_eq_false cc8)) rfl ?_
      refine rl_pass (met_not rfl rfl (decide_eq_false cc8)) (tm' := _::_::_::_::_::_::_::_::_::_::_::_::_::_::_::_::_::_::_::_::_::_::_::_::_::_::_::_::_::_::_::_::_::_::_::_::_::_::_::_::_::_::_::_::_::_::_::_::_::_::_::_::_::_::_::_::_::_::_::_::_::_) rfl ?_
      refine rl_pass (met_not rfl rfl (decide_eq_false cc8)) rfl ?_
      refine rl_pass (met_not rfl rfl (decide_eq_false cc8)) rfl ?_
      refine rl_pass (met_not rfl rfl (decide_eq_false cc8)) (tm' := _::_::_::_::_::_::_::_::_::_::_::_::_::_::_::_::_::_::_::_::_::_::_::_::_::_::_::_::_::_::_::_::_::_::_::_::_::_::_::_::_::_::_::_::_::_::_::_::_::_::_::_::_::_::_::_::_::_::_::_::_::_::_::_::_) rfl ?_
      refine rl_pass (met_not rfl rfl (decide_eq_false cc8)) rfl ?_
      refine rl_pass (met_not rfl rfl (decide_eq_false cc8)) rfl ?_
      refine rl_det (met_none rfl) (fun h_ H_ => exd_pick_f rfl (decide_eq_false cc8) (v := .bool (false)) rfl) (tm' := _::_::_::_::_::_::_::_::_::_::_::_::_::_::_::_::_::_::_::_::_::_::_::_::_::_::_::_::_::_::_::_::_::_::_::_::_::_::_::_::_::_::_::_::_::_::_::_::_::_::_::_::_::_::_::_::_::_::_::_::_::_::_::_::_::_::_::_) rfl ?_
      refine rl_end ?_
      refine fl_else rfl rfl ?_
      refine fl_skip ?_
      refine fl_seq ?_
      have hlast : (((pcB ts).length : Nat) : Int) = ((l.length : Nat) : Int) := by have z_ := S.no (fun h0 => by first | exact absurd h0 (by omega) | (rw [← hix]; assumption)); omega
      refine rl_start ?_
      refine rl_det (met_none rfl) (fun h_ H_ => exd_assign (v := .int .i64 0) rfl) rfl ?_
      refine rl_end ?_
      refine fl_seq ?_
      refine fl_seq ?_
      refine rl_start ?_
      refine rl_det (met_none rfl) (fun h_ H_ => exd_assign (v := .int .i64 0) rfl) rfl ?_
      refine rl_end ?_
      refine fl_block ?_
      refine fl_loop (m₀ := l.length + 1 - 0) (fun m_ tm_ h_ => ∃ (k : Nat) (z : Int), m_ = l.length + 1 - k ∧ (∃ y18 : Nat → Value, tm_ = [.slice a n c, .int .i64 (m), undef, undef, (y18 4), w2, .bool (decide (chkT ts = 0)), sv ((writeB ts).1), .bool (decide (wrOk ts)), w5, .int .i64 (parseB ((writeB ts).1)), .int .i64 ((((pcB ts).length : Nat) : Int)), .int .i64 (z), .int .i64 (((k : Nat) : Int)), (y18 14), (y18 15), undef, undef, .slice a n c, .bool (decide (readyT ts)), .bool (!(decide (readyT ts))), undef, .tuple #[w2, .bool (decide (chkT ts = 0))], .slice a n c, .tuple #[w2, .bool (decide (chkT ts = 0))], w2, .bool (decide (chkT ts = 0)), .tuple #[sv ((writeB ts).1), .bool (decide (wrOk ts))], .slice a n c, .tuple #[sv ((writeB ts).1), .bool (decide (wrOk ts))], sv ((writeB ts).1), .bool (decide (wrOk ts)), .tuple #[w5, .int .i64 (parseB ((writeB ts).1))], sv ((writeB ts).1), .tuple #[w5, .int .i64 (parseB ((writeB ts).1))], w5, .int .i64 (parseB ((writeB ts).1)), .bool (decide (chkT ts = 0)), .bool (!(decide (chkT ts = 0))), .bool (!(decide (chkT ts = 0))), .bool (decide (wrOk ts)), .bool (!(decide (wrOk ts))), .bool (!(decide (wrOk ts))), .bool (!(decide (wrOk ts))), .int .i64 (parseB ((writeB ts).1)), .bool (decide (parseB ((writeB ts).1) ≠ 0)), .bool (decide (parseB ((writeB ts).1) ≠ 0)), .bool (decide (parseB ((writeB ts).1) ≠ 0)), w5, .int .i64 (((LL.length : Nat) : Int)), w2, .int .i64 ((((pcB ts).length : Nat) : Int)), .bool (decide (((LL.length : Nat) : Int) ≠ (((pcB ts).length : Nat) : Int))), .bool (decide (((LL.length : Nat) : Int) ≠ (((pcB ts).length : Nat) : Int))), w2, .int .i64 ((((pcB ts).length : Nat) : Int)), .int .i64 ((((pcB ts).length : Nat) : Int)), .bool (decide (0 < (((pcB ts).length : Nat) : Int))), .bool (decide (0 < (((pcB ts).length : Nat) : Int))), undef, undef, undef, undef, undef, undef, undef, .bool (false), undef, undef, (y18 69), (y18 70), (y18 71), (y18 72), (y18 73), (y18 74), (y18 75), (y18 76), (y18 77), (y18 78), (y18 79), (y18 80), (y18 81), (y18 82), (y18 83), (y18 84), (y18 85), (y18 86), (y18 87), (y18 88), (y18 89), undef, undef, undef, undef, undef, undef, undef, undef, undef, undef, undef, undef, undef, undef, undef, undef, undef, undef, undef, undef, undef, undef, undef, undef, undef, undef, undef]) ∧ (k ≤ l.length + 1) ∧ (z = ((sumC LL k : Nat) : Int)) ∧ St h [] p h_ (([] : Pcs) ++ (X6 ++ (X3 ++ [])))) (fun h_ H_ => ⟨0, 0, rfl, (y_of rfl), Nat.zero_le _, rfl, H_⟩) ?_
      intro m_ tm_ IH19
      refine rs_ex fun k => rs_ex fun z => rs_and fun hm_ => rs_and fun ht_ => rs_and fun hk => rs_and fun hz => ?_
      subst hm_; obtain ⟨y18, ht_⟩ := ht_; subst ht_
      refine fl_seq ?_
      refine fl_seq ?_
      refine rl_start ?_
      refine rl_det (met_none rfl) (fun h_ H_ => exd_move (v := .int .i64 (((k : Nat) : Int))) rfl) (tm' := _::_::_::_::_::_::_::_::_::_::_::_::_::_::_::_::_::_::_::_::_::_::_::_::_::_::_::_::_::_::_::_::_::_::_::_::_::_::_::_::_::_::_::_::_::_::_::_::_::_::_::_::_::_::_::_::_::_::_::_::_::_::_::_::_::_::_::_::_::_::_) rfl ?_
      refine rl_det (met_none rfl) (fun h_ H_ => exd_move (v := .int .i64 ((((pcB ts).length : Nat) : Int))) rfl) rfl ?_
      refine rl_det (met_none rfl) (fun h_ H_ => exd_leq rfl rfl) rfl ?_
      refine rl_end ?_
      by_cases cc20 : ((k : Nat) : Int) ≤ (((pcB ts).length : Nat) : Int)
      · refine fl_then rfl (decide_eq_true cc20) ?_
        refine fl_skip ?_
        refine fl_seq ?_
        refine fl_block ?_
        refine fl_seq ?_
        have hu := uses_good hrd.2 S0 (n := ((k : Nat) : Int)) ⟨by omega, by omega⟩
        rw [← hLL] at hu
        have hu1 : (usesB ts ((k : Nat) : Int)).1 = ((cntN LL ((k : Nat) : Int) : Nat) : Int) := by rw [hu]
        have hcf := S.few ((k : Nat) : Int)
        have hzl := sumC_le LL k
        refine rl_start ?_
        refine rl_det (met_none rfl) (fun h_ H_ => exd_move (v := .slice a n c) rfl) (tm' := _::_::_::_::_::_::_::_::_::_::_::_::_::_::_::_::_::_::_::_::_::_::_::_::_::_::_::_::_::_::_::_::_::_::_::_::_::_::_::_::_::_::_::_::_::_::_::_::_::_::_::_::_::_::_::_::_::_::_::_::_::_::_::_::_::_::_::_::_::_::_::_::_::_::_::_::_) rfl ?_
        refine rl_det (met_none rfl) (fun h_ H_ => exd_move (v := .int .i64 (((k : Nat) : Int))) rfl) rfl ?_
        refine rl_calld (met_none rfl) (first := []) (cap := []) rfl rfl fC24 (fun h_ H_ => c24 _ _ (fun b_ o_ e_ => H_.per b_ o_ e_) a n _ ts T (by omega) (by first | exact ht0 | exact ht1 | exact fun i h_ => absurd h_ (Nat.not_lt_zero i)) ((k : Nat) : Int) (by first | exact hm | exact ⟨by omega, by omega⟩)) rfl ?_
        refine rl_det (met_none rfl) (fun h_ H_ => exd_move (v := .tuple #[.int .i64 ((usesB ts ((k : Nat) : Int)).1), .int .i64 ((usesB ts ((k : Nat) : Int)).2)]) rfl) (tm' := _::_::_::_::_::_::_::_::_::_::_::_::_::_::_::_::_::_::_::_::_::_::_::_::_::_::_::_::_::_::_::_::_::_::_::_::_::_::_::_::_::_::_::_::_::_::_::_::_::_::_::_::_::_::_::_::_::_::_::_::_::_::_::_::_::_::_::_::_::_::_::_::_::_::_::_) rfl ?_
        refine rl_det (met_none rfl) (fun h_ H_ => exd_extract rfl (v := .int .i64 ((usesB ts ((k : Nat) : Int)).1)) rfl) rfl ?_
        refine rl_det (met_none rfl) (fun h_ H_ => exd_extract rfl (v := .int .i64 ((usesB ts ((k : Nat) : Int)).2)) rfl) rfl ?_
        refine rl_det (met_none rfl) (fun h_ H_ => exd_assign (v := .int .i64 ((usesB ts ((k : Nat) : Int)).1)) rfl) (tm' := _::_::_::_::_::_::_::_::_::_::_::_::_::_::_::_) rfl ?_
        refine rl_det (met_none rfl) (fun h_ H_ => exd_assign (v := .int .i64 ((usesB ts ((k : Nat) : Int)).2)) rfl) rfl ?_
        refine rl_end ?_
        refine fl_seq ?_
        refine fl_seq ?_
        refine rl_start ?_
        refine rl_det (met_none rfl) (fun h_ H_ => exd_move (v := .int .i64 ((usesB ts ((k : Nat) : Int)).2)) rfl) rfl ?_
        refine rl_det (met_none rfl) (fun h_ H_ => exd_neq rfl rfl) (tm' := [_,_,_,_,_,_,_,_,_,_,_,_,_,_,_,_,_,_,_,_,_,_,_,_,_,_,_,_,_,_,_,_,_,_,_,_,_,_,_,_,_,_,_,_,_,_,_,_,_,_,_,_,_,_,_,_,_,_,_,_,_,_,_,_,_,_,_,_,_,_,_,_,_,_,_,_,_,_,_,_,_,_,_,_,_,_,_,_,_,_,_,_,_,_,_,_,_,_,_,_,_,_,_,_,_,_,_,_,_,_,_,_,_,_,_,_,_]) rfl ?_
        refine rl_det (met_none rfl) (fun h_ H_ => exd_move (v := .bool (decide ((usesB ts ((k : Nat) : Int)).2 ≠ 0))) rfl) rfl ?_
        refine rl_det (met_some rfl rfl (decide_eq_false (fun z_ => z_ (by rw [hu])))) (fun h_ H_ => exd_move (v := .int .i64 ((usesB ts ((k : Nat) : Int)).1)) rfl) rfl ?_
        refine rl_calld (met_some rfl rfl (decide_eq_false (fun z_ => z_ (by rw [hu])))) (first := []) (cap := []) rfl rfl fC22 (fun h_ H_ => c22 .lone _ ((usesB ts ((k : Nat) : Int)).1) (0) (96)) (tm' := [_,_,_,_,_,_,_,_,_,_,_,_,_,_,_,_,_,_,_,_,_,_,_,_,_,_,_,_,_,_,_,_,_,_,_,_,_,_,_,_,_,_,_,_,_,_,_,_,_,_,_,_,_,_,_,_,_,_,_,_,_,_,_,_,_,_,_,_,_,_,_,_,_,_,_,_,_,_,_,_,_,_,_,_,_,_,_,_,_,_,_,_,_,_,_,_,_,_,_,_,_,_,_,_,_,_,_,_,_,_,_,_,_,_,_,_,_]) rfl ?_
        refine rl_det (met_some rfl rfl (decide_eq_false (fun z_ => z_ (by rw [hu])))) (fun h_ H_ => exd_not rfl) rfl ?_
        refine rl_det (met_none rfl) (fun h_ H_ => exd_pick_f rfl (decide_eq_false (fun z_ => z_ (by rw [hu]))) (v := .bool (!(decide (0 ≤ (usesB ts ((k : Nat) : Int)).1 ∧ (usesB ts ((k : Nat) : Int)).1 ≤ 96)))) rfl) rfl ?_
        refine rl_end ?_
        refine fl_else rfl (not_f (decide_eq_true (by rw [hu1]; exact ⟨by omega, by omega⟩))) ?_
        refine fl_skip ?_
        refine rl_start ?_
        refine rl_det (met_none rfl) (fun h_ H_ => exd_move (v := .int .i64 (z)) rfl) (tm' := [_,_,_,_,_,_,_,_,_,_,_,_,_,_,_,_,_,_,_,_,_,_,_,_,_,_,_,_,_,_,_,_,_,_,_,_,_,_,_,_,_,_,_,_,_,_,_,_,_,_,_,_,_,_,_,_,_,_,_,_,_,_,_,_,_,_,_,_,_,_,_,_,_,_,_,_,_,_,_,_,_,_,_,_,_,_,_,_,_,_,_,_,_,_,_,_,_,_,_,_,_,_,_,_,_,_,_,_,_,_,_,_,_,_,_,_,_]) rfl ?_
        refine rl_det (met_none rfl) (fun h_ H_ => exd_move (v := .int .i64 ((usesB ts ((k : Nat) : Int)).1)) rfl) rfl ?_
        refine rl_det (met_none rfl) (fun h_ H_ => exd_add rfl rfl (wr (by omega))) rfl ?_
        refine rl_det (met_none rfl) (fun h_ H_ => exd_assign (v := .int .i64 (z + ((usesB ts ((k : Nat) : Int)).1))) rfl) (tm' := _::_::_::_::_::_::_::_::_::_::_::_::_::_) rfl ?_
        refine rl_end ?_
        refine fl_inBlock ?_
        refine rl_start ?_
        refine rl_det (met_none rfl) (fun h_ H_ => exd_move (v := .int .i64 (((k : Nat) : Int))) rfl) rfl ?_
        refine rl_det (met_none rfl) (fun h_ H_ => exd_add rfl rfl (n := ((k + 1 : Nat) : Int)) (wr (by omega))) rfl ?_
        refine rl_det (met_none rfl) (fun h_ H_ => exd_assign (v := .int .i64 (((k + 1 : Nat) : Int))) rfl) (tm' := _::_::_::_::_::_::_::_::_::_::_::_::_::_::_) rfl ?_
        refine rl_end ?_
        exact fun h_ H_ => IH19 _ _ (by omega) h_ ⟨k + 1, z + ((usesB ts ((k : Nat) : Int)).1), rfl, (y_of rfl), (by omega), (by rw [hu1, hz, sumC]; omega), H_⟩
      · refine fl_else rfl (decide_eq_false cc20) ?_
        refine fl_exit rfl ?_
        refine fl_seq ?_
        refine fl_seq ?_
        have hkz : k = l.length + 1 := by omega
        have hz2 : z = ((LL.length : Nat) : Int) := by rw [hz, hkz, S.sum]
        refine rl_start ?_
        refine rl_det (met_none rfl) (fun h_ H_ => exd_move (v := .int .i64 (m)) rfl) rfl ?_
        refine rl_det (met_none rfl) (fun h_ H_ => exd_move (v := .int .i64 ((((pcB ts).length : Nat) : Int))) rfl) rfl ?_
        refine rl_calld (met_none rfl) (first := []) (cap := []) rfl rfl fC22 (fun h_ H_ => c22 .lone _ (m) (0) ((((pcB ts).length : Nat) : Int))) (tm' := [_,_,_,_,_,_,_,_,_,_,_,_,_,_,_,_,_,_,_,_,_,_,_,_,_,_,_,_,_,_,_,_,_,_,_,_,_,_,_,_,_,_,_,_,_,_,_,_,_,_,_,_,_,_,_,_,_,_,_,_,_,_,_,_,_,_,_,_,_,_,_,_,_,_,_,_,_,_,_,_,_,_,_,_,_,_,_,_,_,_,_,_,_,_,_,_,_,_,_,_,_,_,_,_,_,_,_,_,_,_,_,_,_,_,_,_,_]) rfl ?_
        refine rl_end ?_
        by_cases cc21 : 0 ≤ m ∧ m ≤ (((pcB ts).length : Nat) : Int)
        · refine fl_then rfl (decide_eq_true cc21) ?_
          refine fl_seq ?_
          refine rl_start ?_
          refine rl_det (met_none rfl) (fun h_ H_ => exd_move (v := .int .i64 (z)) rfl) rfl ?_
          refine rl_det (met_none rfl) (fun h_ H_ => exd_move (v := w2) rfl) rfl ?_
          refine rl_det (met_none rfl) (fun h_ H_ => exd_lenN o4 (scs_length _) Tryd.underlying22 rfl) (tm' := [_,_,_,_,_,_,_,_,_,_,_,_,_,_,_,_,_,_,_,_,_,_,_,_,_,_,_,_,_,_,_,_,_,_,_,_,_,_,_,_,_,_,_,_,_,_,_,_,_,_,_,_,_,_,_,_,_,_,_,_,_,_,_,_,_,_,_,_,_,_,_,_,_,_,_,_,_,_,_,_,_,_,_,_,_,_,_,_,_,_,_,_,_,_,_,_,_,_,_,_,_,_,_,_,_,_,_,_,_,_,_,_,_,_,_,_,_]) rfl ?_
          refine rl_det (met_none rfl) (fun h_ H_ => exd_eql rfl rfl) rfl ?_
          refine rl_det (met_none rfl) (fun h_ H_ => exd_move (v := .bool (decide (z = (((pcB ts).length : Nat) : Int)))) rfl) rfl ?_
          refine rl_calld (met_some rfl rfl (decide_eq_true (by rw [hz2, hlen]))) (first := []) (cap := []) rfl rfl fC16 (fun h_ H_ => c16 _ (htab.keep H_.kept)) (tm' := [_,_,_,_,_,_,_,_,_,_,_,_,_,_,_,_,_,_,_,_,_,_,_,_,_,_,_,_,_,_,_,_,_,_,_,_,_,_,_,_,_,_,_,_,_,_,_,_,_,_,_,_,_,_,_,_,_,_,_,_,_,_,_,_,_,_,_,_,_,_,_,_,_,_,_,_,_,_,_,_,_,_,_,_,_,_,_,_,_,_,_,_,_,_,_,_,_,_,_,_,_,_,_,_,_,_,_,_,_,_,_,_,_,_,_,_,_]) rfl ?_
          refine rl_det (met_none rfl) (fun h_ H_ => exd_pick_t rfl (decide_eq_true (by rw [hz2, hlen])) (v := .bool (true)) rfl) rfl ?_
          refine rl_det (met_none rfl) (fun h_ H_ => exd_assign (v := .bool (true)) rfl) rfl ?_
          refine rl_end ?_
          refine fl_retL Tryd.func12 rfl (vs := [.bool (true)]) (fun h_ H_ => ⟨.bool (true), _, rfl, rfl, rfl⟩) (v := .bool (true)) rfl ?_
          exact fun h_ H_ => ⟨rfl, H_.kept⟩
        · refine fl_else rfl (decide_eq_false cc21) ?_
          refine fl_skip ?_
          refine fl_seq ?_
          have hbad := uses_bad hrd.2 S0 (n := m) (by omega)
          refine rl_start ?_
          refine rl_det (met_none rfl) (fun h_ H_ => exd_move (v := .slice a n c) rfl) (tm' := [_,_,_,_,_,_,_,_,_,_,_,_,_,_,_,_,_,_,_,_,_,_,_,_,_,_,_,_,_,_,_,_,_,_,_,_,_,_,_,_,_,_,_,_,_,_,_,_,_,_,_,_,_,_,_,_,_,_,_,_,_,_,_,_,_,_,_,_,_,_,_,_,_,_,_,_,_,_,_,_,_,_,_,_,_,_,_,_,_,_,_,_,_,_,_,_,_,_,_,_,_,_,_,_,_,_,_,_,_,_,_,_,_,_,_,_,_]) rfl ?_
          refine rl_det (met_none rfl) (fun h_ H_ => exd_move (v := .int .i64 (m)) rfl) rfl ?_
          refine rl_calld (met_none rfl) (first := []) (cap := []) rfl rfl fC24 (fun h_ H_ => c24 _ _ (fun b_ o_ e_ => H_.per b_ o_ e_) a n _ ts T (by omega) (by first | exact ht0 | exact ht1 | exact fun i h_ => absurd h_ (Nat.not_lt_zero i)) m (by first | exact hm | exact ⟨by omega, by omega⟩)) rfl ?_
          refine rl_det (met_none rfl) (fun h_ H_ => exd_move (v := .tuple #[.int .i64 ((usesB ts m).1), .int .i64 ((usesB ts m).2)]) rfl) (tm' := [_,_,_,_,_,_,_,_,_,_,_,_,_,_,_,_,_,_,_,_,_,_,_,_,_,_,_,_,_,_,_,_,_,_,_,_,_,_,_,_,_,_,_,_,_,_,_,_,_,_,_,_,_,_,_,_,_,_,_,_,_,_,_,_,_,_,_,_,_,_,_,_,_,_,_,_,_,_,_,_,_,_,_,_,_,_,_,_,_,_,_,_,_,_,_,_,_,_,_,_,_,_,_,_,_,_,_,_,_,_,_,_,_,_,_,_,_]) rfl ?_
          refine rl_det (met_none rfl) (fun h_ H_ => exd_extract rfl (v := .int .i64 ((usesB ts m).1)) rfl) rfl ?_
          refine rl_det (met_none rfl) (fun h_ H_ => exd_extract rfl (v := .int .i64 ((usesB ts m).2)) rfl) rfl ?_
          refine rl_det (met_none rfl) (fun h_ H_ => exd_assign (v := .int .i64 ((usesB ts m).1)) rfl) (tm' := _::_::_::_::_::_::_::_::_::_::_::_::_::_::_::_::_::_) rfl ?_
          refine rl_det (met_none rfl) (fun h_ H_ => exd_assign (v := .int .i64 ((usesB ts m).2)) rfl) rfl ?_
          refine rl_end ?_
          refine fl_seq ?_
          refine rl_start ?_
          refine rl_det (met_none rfl) (fun h_ H_ => exd_move (v := .int .i64 (z)) rfl) rfl ?_
          refine rl_det (met_none rfl) (fun h_ H_ => exd_move (v := w2) rfl) (tm' := [_,_,_,_,_,_,_,_,_,_,_,_,_,_,_,_,_,_,_,_,_,_,_,_,_,_,_,_,_,_,_,_,_,_,_,_,_,_,_,_,_,_,_,_,_,_,_,_,_,_,_,_,_,_,_,_,_,_,_,_,_,_,_,_,_,_,_,_,_,_,_,_,_,_,_,_,_,_,_,_,_,_,_,_,_,_,_,_,_,_,_,_,_,_,_,_,_,_,_,_,_,_,_,_,_,_,_,_,_,_,_,_,_,_,_,_,_]) rfl ?_
          refine rl_det (met_none rfl) (fun h_ H_ => exd_lenN o4 (scs_length _) Tryd.underlying22 rfl) rfl ?_
          refine rl_det (met_none rfl) (fun h_ H_ => exd_eql rfl rfl) rfl ?_
          refine rl_det (met_none rfl) (fun h_ H_ => exd_move (v := .bool (decide (z = (((pcB ts).length : Nat) : Int)))) rfl) (tm' := [_,_,_,_,_,_,_,_,_,_,_,_,_,_,_,_,_,_,_,_,_,_,_,_,_,_,_,_,_,_,_,_,_,_,_,_,_,_,_,_,_,_,_,_,_,_,_,_,_,_,_,_,_,_,_,_,_,_,_,_,_,_,_,_,_,_,_,_,_,_,_,_,_,_,_,_,_,_,_,_,_,_,_,_,_,_,_,_,_,_,_,_,_,_,_,_,_,_,_,_,_,_,_,_,_,_,_,_,_,_,_,_,_,_,_,_,_]) rfl ?_
          refine rl_det (met_some rfl rfl (decide_eq_true (by rw [hz2, hlen]))) (fun h_ H_ => exd_move (v := .int .i64 ((usesB ts m).2)) rfl) rfl ?_
          refine rl_det (met_some rfl rfl (decide_eq_true (by rw [hz2, hlen]))) (fun h_ H_ => exd_eql rfl rfl) rfl ?_
          refine rl_det (met_none rfl) (fun h_ H_ => exd_pick_t rfl (decide_eq_true (by rw [hz2, hlen])) (v := .bool (decide ((usesB ts m).2 = 1))) rfl) (tm' := [_,_,_,_,_,_,_,_,_,_,_,_,_,_,_,_,_,_,_,_,_,_,_,_,_,_,_,_,_,_,_,_,_,_,_,_,_,_,_,_,_,_,_,_,_,_,_,_,_,_,_,_,_,_,_,_,_,_,_,_,_,_,_,_,_,_,_,_,_,_,_,_,_,_,_,_,_,_,_,_,_,_,_,_,_,_,_,_,_,_,_,_,_,_,_,_,_,_,_,_,_,_,_,_,_,_,_,_,_,_,_,_,_,_,_,_,_]) rfl ?_
          refine rl_det (met_none rfl) (fun h_ H_ => exd_move (v := .bool (decide ((usesB ts m).2 = 1))) rfl) rfl ?_
          refine rl_calld (met_some rfl rfl (decide_eq_true (by rw [hbad]))) (first := []) (cap := []) rfl rfl fC16 (fun h_ H_ => c16 _ (htab.keep H_.kept)) rfl ?_
          refine rl_det (met_none rfl) (fun h_ H_ => exd_pick_t rfl (decide_eq_true (by rw [hbad])) (v := .bool (true)) rfl) (tm' := [_,_,_,_,_,_,_,_,_,_,_,_,_,_,_,_,_,_,_,_,_,_,_,_,_,_,_,_,_,_,_,_,_,_,_,_,_,_,_,_,_,_,_,_,_,_,_,_,_,_,_,_,_,_,_,_,_,_,_,_,_,_,_,_,_,_,_,_,_,_,_,_,_,_,_,_,_,_,_,_,_,_,_,_,_,_,_,_,_,_,_,_,_,_,_,_,_,_,_,_,_,_,_,_,_,_,_,_,_,_,_,_,_,_,_,_,_]) rfl ?_
          refine rl_det (met_none rfl) (fun h_ H_ => exd_assign (v := .bool (true)) rfl) rfl ?_
          refine rl_end ?_
          refine fl_retL Tryd.func12 rfl (vs := [.bool (true)]) (fun h_ H_ => ⟨.bool (true), _, rfl, rfl, rfl⟩) (v := .bool (true)) rfl ?_
          exact fun h_ H_ => ⟨rfl, H_.kept⟩
  · refine fl_then rfl (not_t (decide_eq_false cc1)) ?_
    refine fl_seq ?_
    refine rl_start ?_
    refine rl_calld (met_none rfl) (first := []) (cap := []) rfl rfl fC16 (fun h_ H_ => c16 _ (htab.keep H_.kept)) rfl ?_
    refine rl_det (met_none rfl) (fun h_ H_ => exd_assign (v := .bool (true)) rfl) (tm' := _::_::_::_::_::_) rfl ?_
    refine rl_end ?_
    refine fl_retL Tryd.func12 rfl (vs := [.bool (true)]) (fun h_ H_ => ⟨.bool (true), _, rfl, rfl, rfl⟩) (v := .bool (true)) rfl ?_
    exact fun h_ H_ => ⟨rfl, H_.kept⟩
end Go.Proofs.YtiinpnlfdeiloaaDoor
namespace Go.Proofs.YtiinpnlfdeiloaaDoor
open Go.X Go.X.Cent Go.Conc Go.RowKit Go.ChangeShapes Go.WideShapes Go.ChangeAt Go.Joins
set_option maxRecDepth 100000

theorem lifted12 (os : Os) (started : os.Started) (H : Type) (enc : TypeId × Value → H) :
    ReturnsInHanded {} Tryd.checked os 12 .any (fun w args => (Rows.centuryUsesSpec.pre enc Tryd.prog Tryd.f12 Rows.centuryUsesRow.domain false w args ∧ laidMetH Tryd.prog Rows.centuryUsesRow.laid w) ∧ sizedMet enc Tryd.prog Tryd.f12 (OpenSpec.ofChange Rows.centuryUsesSpec) false w args) (Rows.centuryUsesSpec.post enc Tryd.prog Tryd.f12 false true false false) := by
  refine returnsInHanded_of_change_and (C := Tryd.checked) (X := fun w _ => laidMetH Tryd.prog Rows.centuryUsesRow.laid w) (fun _ _ _ hh h => h.of_heap hh) pOwn started (by kernel_rfl) Tryd.func12
    (ChangeSpec.witness_shaped (enc := enc) (C := Tryd.checked) (os := os) (X := fun w _ => laidMetH Tryd.prog Rows.centuryUsesRow.laid w) false (laidW os) #[.slice none 0 0, .int .i64 0] 8 (World.laidAll_os _ _ _)
      (World.shaped_of_ZipB (by kernel_rfl) (by kernel_rfl)) (by kernel_rfl) (by kernel_rfl) (by kernel_rfl) (laidW_met os _)) ?_
  intro W base args ds gs before hval0 hW _ _ hL _
  have hval : ∀ (j : Nat) t v, Tryd.f12.params[j]? = some t → args[j]? = some v → Value.okWide Tryd.prog W .any base t v := hval0
  have hW2 := hW
  obtain ⟨p, q, hA0, hV, rfl, _, _⟩ := hW2
  have hA : DataW.TrodAll enc Tryd.prog W 0 (fun _ => true) true Tryd.f12.params.toList args.toList ds p := hA0
  rw [Tryd.params12] at hA hval
  obtain ⟨v0, v1, d0, d1, p0, p1, rfl, rfl, _, h0, h1⟩ := trodAll_two hA
  obtain ⟨rfl, rfl⟩ := trodVars_none hV
  obtain ⟨a, n, c, ts, rfl, hn, T⟩ := open_texts (hval 0 22 v0 rfl rfl) h0
  obtain ⟨k, rfl, hk⟩ := open_num (hval 1 3 v1 rfl rfl) h1
  refine (calls_of_enters (e12 W.heap (pW W) (pW_per W) (tab_of_laid hL) a n c ts T hn k hk)).mono fun e W2 ⟨v, he, ⟨hv, hk_⟩, cl⟩ => ⟨v, he, ?_⟩
  subst hv
  exact law_post pLaid rfl (fun t ht => by rw [Tryd.params12] at ht; revert t; decide +kernel) rfl Tryd.underlying4 hW rfl (below_of hk_ cl)

theorem centuryUsesRowHolds : Rows.CenturyUsesSaid :=
  OpenClaim.holds_of_wide 12 Tryd.f12 rfl rfl rfl rfl rfl rfl rfl ⟨rfl, rfl, rfl, rfl, rfl⟩ rfl rfl rfl rfl rfl (by kernel_rfl) Tryd.func12 (by kernel_rfl)
    (of_decide_eq_true (by kernel_rfl)) (by unfold Func.isWrapper; first | (rw [if_pos (by decide +kernel)]; kernel_rfl) | (rw [if_neg (by decide +kernel)]; exact ⟨rfl, rfl⟩))
    (fun os started H enc _ => lifted12 os started H enc)

theorem centuryUsesHolds : Rows.CenturyUsesCardSaid :=
  Claim7.holds_tied_plain_at .later [] [.data, .data, .data, .data, .pinned] true (true, "d19a88c3556340bf03c70abcf51311f6c04bc6278884da2732a7a561c1b64cb8") false centuryUsesRowHolds (fun _ h => by cases h) (by kernel_rfl) (fun _ h => by cases h) centuryUses_row_tie rfl ⟨rfl, rfl⟩ (by kernel_rfl) rfl
    (fun f fn hf hfn => by
      obtain rfl : f = 12 := Option.some.inj ((show Tryd.prog.funcNamed "steening/steeninglaw14.CenturyUses" = some 12 by kernel_rfl).symm.trans hf) |>.symm
      obtain rfl : fn = Tryd.f12 := (Option.some.inj (Tryd.func12.symm.trans hfn)).symm
      exact ⟨by kernel_rfl, fun j t ht => by
        rw [Tryd.params12] at ht
        have hm : t ∈ [22, 3] := by simpa using Array.mem_of_getElem? ht
        have hall : ([22, 3].all fun u => !Tryd.prog.wantsStandIn u) = true := by kernel_rfl
        exact (show Tryd.prog.wantsStandIn t = false by simpa using List.all_eq_true.1 hall t hm)⟩)
    (by kernel_rfl)

#print axioms centuryUsesHolds
end Go.Proofs.YtiinpnlfdeiloaaDoor
