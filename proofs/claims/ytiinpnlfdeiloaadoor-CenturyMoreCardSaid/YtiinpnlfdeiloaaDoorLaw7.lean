/-
  CenturyMore, for every input: the law returns true and leaves its arguments as they were. The row, and the tied card.
-/
import Derived.Test.YtiinpnlfdeiloaaDoorD2
import Derived.Test.YtiinpnlfdeiloaaDoorD5
import Derived.Test.YtiinpnlfdeiloaaDoorCards
import Derived.Test.YtiinpnlfdeiloaaDoorTie
namespace Go.Proofs.YtiinpnlfdeiloaaDoor
open Go.X Go.X.Cent Go.Conc
set_option maxRecDepth 10000
set_option synthInstance.maxSize 2000
set_option synthInstance.maxHeartbeats 400000

set_option maxHeartbeats 2000000
theorem e7 (h : Heap) (p : PHeap) (hp : Per p h) (htab : Tab h) (a : Option Addr) (n c : Nat) (ts : List By) (T : Strs p a n ts) (hn : n ≤ 9223372036854775807) : EntersL Tryd.prog 7 #[.slice a n c] h fun v h' => v = .bool true ∧ Keep h h' := by
  refine enters_introL (Φ := fun h_ => St h [] p h_ []) Tryd.func7 rfl (tm := [_, _, _, _, _, _, _, _, _, _, _, _, _, _, _, _, _, _, _, _, _, _, _, _, _, _, _, _, _, _, _, _, _, _, _, _, _, _, _, _, _, _, _, _, _, _, _, _, _, _, _, _, _, _, _, _, _, _, _, _, _, _, _, _, _, _, _, _, _, _, _, _, _, _, _, _, _, _, _]) rfl ?_ (St.start h _ hp)
  intro cs
  have hl := T.len
  refine fl_seq ?_
  refine rl_start ?_
  refine rl_det (met_none rfl) (fun h_ H_ => exd_assign (v := .bool (false)) rfl) rfl ?_
  refine rl_end ?_
  refine fl_seq ?_
  refine fl_seq ?_
  refine rl_start ?_
  refine rl_det (met_none rfl) (fun h_ H_ => exd_move (v := .slice a n c) rfl) rfl ?_
  refine rl_calld (met_none rfl) (first := []) (cap := []) rfl rfl fC15 (fun h_ H_ => c15 _ _ (fun b_ o_ e_ => H_.per b_ o_ e_) a n _ ts T (by omega)) (tm' := _::_::_::_::_::_::_::_::_::_::_::_::_::_::_) rfl ?_
  refine rl_det (met_none rfl) (fun h_ H_ => exd_not rfl) rfl ?_
  refine rl_end ?_
  by_cases cc1 : readyT ts
  · refine fl_else rfl (not_f (decide_eq_true cc1)) ?_
    refine fl_skip ?_
    refine fl_seq ?_
    have hrd := ‹readyT ts›
    have hnf := far_facts T hrd.1
    obtain ⟨hn60, ht200, hta⟩ := hnf
    have ht0 : ∀ i, i < n → (ts.getD i []).length ≤ 2 ^ 60 := not_far T hrd.1
    have ht1 : ∀ i, i < ts.length → (ts.getD i []).length ≤ 2 ^ 60 := fun i hi => ht0 i (by omega)
    have hwl : (writeB ts).1.length ≤ 2 ^ 60 := write_len hrd.2
    have h20 := (chk_good hrd.2).1
    have hw200 := ht200
    have hb0 := file_bounds hrd.2
    have hwl2 : (writeB ts).1 = fileB ts := by rw [write_good hrd.2]
    have hw8 := (good_len (fun z_ => z_ hrd.2)).2.2.1
    refine rl_start ?_
    refine rl_det (met_none rfl) (fun h_ H_ => exd_move (v := .slice a n c) rfl) rfl ?_
    refine rl_calld (met_none rfl) (first := []) (cap := []) rfl rfl fC17 (fun h_ H_ => c17 _ _ (fun b_ o_ e_ => H_.per b_ o_ e_) (htab.keep H_.kept) a n _ ts T (by omega) (by first | exact ht0 | exact ht1 | exact fun i h_ => absurd h_ (Nat.not_lt_zero i))) (tm' := _::_::_::_::_::_::_::_::_::_::_::_::_::_::_::_::_::_::_::_) rfl ?_
    refine rl_det (met_none rfl) (fun h_ H_ => exd_move (v := .tuple #[sv ((writeB ts).1), .bool (decide (wrOk ts))]) rfl) rfl ?_
    refine rl_det (met_none rfl) (fun h_ H_ => exd_extract rfl (v := sv ((writeB ts).1)) rfl) rfl ?_
    refine rl_det (met_none rfl) (fun h_ H_ => exd_extract rfl (v := .bool (decide (wrOk ts))) rfl) (tm' := _::_::_::_::_::_::_::_::_::_::_::_::_::_::_::_::_::_::_::_::_::_) rfl ?_
    refine rl_det (met_none rfl) (fun h_ H_ => exd_assign (v := sv ((writeB ts).1)) rfl) rfl ?_
    refine rl_det (met_none rfl) (fun h_ H_ => exd_assign (v := .bool (decide (wrOk ts))) rfl) rfl ?_
    refine rl_end ?_
    refine fl_seq ?_
    refine rl_start ?_
    refine rl_det (met_none rfl) (fun h_ H_ => exd_move (v := .slice a n c) rfl) (tm' := _::_::_::_::_::_::_::_::_::_::_::_::_::_::_::_::_::_::_::_::_::_::_::_) rfl ?_
    refine rl_calld (met_none rfl) (first := []) (cap := []) rfl rfl fC30 (fun h_ H_ => c30 _ _ (fun b_ o_ e_ => H_.per b_ o_ e_) (htab.keep H_.kept) a n _ ts T (by omega) (by first | exact ht0 | exact ht1 | exact fun i h_ => absurd h_ (Nat.not_lt_zero i))) rfl ?_
    refine rl_det (met_none rfl) (fun h_ H_ => exd_move (v := .tuple #[.int .i64 ((savesB ts).1), .int .i64 ((savesB ts).2)]) rfl) rfl ?_
    refine rl_det (met_none rfl) (fun h_ H_ => exd_extract rfl (v := .int .i64 ((savesB ts).1)) rfl) (tm' := _::_::_::_::_::_::_::_::_::_::_::_::_::_::_::_::_::_::_::_::_::_::_::_::_::_) rfl ?_
    refine rl_det (met_none rfl) (fun h_ H_ => exd_extract rfl (v := .int .i64 ((savesB ts).2)) rfl) rfl ?_
    refine rl_det (met_none rfl) (fun h_ H_ => exd_assign (v := .int .i64 ((savesB ts).1)) rfl) rfl ?_
    refine rl_det (met_none rfl) (fun h_ H_ => exd_assign (v := .int .i64 ((savesB ts).2)) rfl) (tm' := _::_::_::_::_::_::_::_) rfl ?_
    refine rl_end ?_
    refine fl_seq ?_
    refine rl_start ?_
    refine rl_calld (met_none rfl) (first := []) (cap := []) rfl rfl fC17 (fun h_ H_ => c17 _ _ (fun b_ o_ e_ => H_.per b_ o_ e_) (htab.keep H_.kept) none 0 _ ([] : List By) (strs_nil _) (by omega) (by first | exact ht0 | exact ht1 | exact fun i h_ => absurd h_ (Nat.not_lt_zero i))) rfl ?_
    refine rl_det (met_none rfl) (fun h_ H_ => exd_move (v := .tuple #[sv ((writeB ([] : List By)).1), .bool (decide (wrOk ([] : List By)))]) rfl) rfl ?_
    refine rl_det (met_none rfl) (fun h_ H_ => exd_extract rfl (v := sv ((writeB ([] : List By)).1)) rfl) (tm' := _::_::_::_::_::_::_::_::_::_::_::_::_::_::_::_::_::_::_::_::_::_::_::_::_::_::_::_::_::_) rfl ?_
    refine rl_det (met_none rfl) (fun h_ H_ => exd_extract rfl (v := .bool (decide (wrOk ([] : List By)))) rfl) rfl ?_
    refine rl_det (met_none rfl) (fun h_ H_ => exd_assign (v := sv ((writeB ([] : List By)).1)) rfl) rfl ?_
    refine rl_det (met_none rfl) (fun h_ H_ => exd_assign (v := .bool (decide (wrOk ([] : List By)))) rfl) (tm' := _::_::_::_::_::_::_::_::_::_) rfl ?_
    refine rl_end ?_
    refine fl_seq ?_
    refine fl_seq ?_
    rw [← hwl2] at hb0
    refine rl_start ?_
    refine rl_det (met_none rfl) (fun h_ H_ => exd_move (v := .bool (decide (wrOk ts))) rfl) rfl ?_
    refine rl_det (met_none rfl) (fun h_ H_ => exd_not rfl) rfl ?_
    refine rl_det (met_none rfl) (fun h_ H_ => exd_move (v := .bool (!(decide (wrOk ts)))) rfl) (tm' := _::_::_::_::_::_::_::_::_::_::_::_::_::_::_::_::_::_::_::_::_::_::_::_::_::_::_::_::_::_::_::_::_::_) rfl ?_
    refine rl_det (met_some rfl rfl (not_f (decide_eq_true (wr_ok hrd.2)))) (fun h_ H_ => exd_move (v := .bool (decide (wrOk ([] : List By)))) rfl) rfl ?_
    refine rl_det (met_some rfl rfl (not_f (decide_eq_true (wr_ok hrd.2)))) (fun h_ H_ => exd_not rfl) rfl ?_
    refine rl_det (met_none rfl) (fun h_ H_ => exd_pick_f rfl (not_f (decide_eq_true (wr_ok hrd.2))) (v := .bool (!(decide (wrOk ([] : List By))))) rfl) (tm' := _::_::_::_::_::_::_::_::_::_::_::_::_::_::_::_::_::_::_::_::_::_::_::_::_::_::_::_::_::_::_::_::_::_::_::_::_) rfl ?_
    refine rl_det (met_none rfl) (fun h_ H_ => exd_move (v := .bool (!(decide (wrOk ([] : List By))))) rfl) rfl ?_
    refine rl_det (met_some rfl rfl (not_f (decide_eq_true (wr_ok (by decide))))) (fun h_ H_ => exd_move (v := .int .i64 ((savesB ts).2)) rfl) rfl ?_
    refine rl_det (met_some rfl rfl (not_f (decide_eq_true (wr_ok (by decide))))) (fun h_ H_ => exd_neq rfl rfl) (tm' := _::_::_::_::_::_::_::_::_::_::_::_::_::_::_::_::_::_::_::_::_::_::_::_::_::_::_::_::_::_::_::_::_::_::_::_::_::_::_::_) rfl ?_
    refine rl_det (met_none rfl) (fun h_ H_ => exd_pick_f rfl (not_f (decide_eq_true (wr_ok (by decide)))) (v := .bool (decide ((savesB ts).2 ≠ 0))) rfl) rfl ?_
    refine rl_det (met_none rfl) (fun h_ H_ => exd_move (v := .bool (decide ((savesB ts).2 ≠ 0))) rfl) rfl ?_
    refine rl_det (met_some rfl rfl (decide_eq_false (fun z_ => z_ (by rw [saves_good hrd.2])))) (fun h_ H_ => exd_move (v := .int .i64 ((savesB ts).1)) rfl) (tm' := _::_::_::_::_::_::_::_::_::_::_::_::_::_::_::_::_::_::_::_::_::_::_::_::_::_::_::_::_::_::_::_::_::_::_::_::_::_::_::_::_::_::_) rfl ?_
    refine rl_det (met_some rfl rfl (decide_eq_false (fun z_ => z_ (by rw [saves_good hrd.2])))) (fun h_ H_ => exd_move (v := .slice a n c) rfl) rfl ?_
    refine rl_calld (met_some rfl rfl (decide_eq_false (fun z_ => z_ (by rw [saves_good hrd.2])))) (first := []) (cap := []) rfl rfl fC31 (fun h_ H_ => c31 .lone _ _ (fun b_ o_ e_ => H_.per b_ o_ e_) a n _ ts T (by omega) hw200) rfl ?_
    refine rl_det (met_some rfl rfl (decide_eq_false (fun z_ => z_ (by rw [saves_good hrd.2])))) (fun h_ H_ => exd_lenS (l := wholeB ts) Tryd.underlying9 rfl) (tm' := _::_::_::_::_::_::_::_::_::_::_::_::_::_::_::_::_::_::_::_::_::_::_::_::_::_::_::_::_::_::_::_::_::_::_::_::_::_::_::_::_::_::_::_::_::_) rfl ?_
    refine rl_det (met_some rfl rfl (decide_eq_false (fun z_ => z_ (by rw [saves_good hrd.2])))) (fun h_ H_ => exd_move (v := sv ((writeB ts).1)) rfl) rfl ?_
    refine rl_det (met_some rfl rfl (decide_eq_false (fun z_ => z_ (by rw [saves_good hrd.2])))) (fun h_ H_ => exd_lenS (l := (writeB ts).1) Tryd.underlying9 rfl) rfl ?_
    refine rl_det (met_some rfl rfl (decide_eq_false (fun z_ => z_ (by rw [saves_good hrd.2])))) (fun h_ H_ => exd_sub rfl rfl (wr (by omega))) (tm' := _::_::_::_::_::_::_::_::_::_::_::_::_::_::_::_::_::_::_::_::_::_::_::_::_::_::_::_::_::_::_::_::_::_::_::_::_::_::_::_::_::_::_::_::_::_::_::_::_) rfl ?_
    refine rl_det (met_some rfl rfl (decide_eq_false (fun z_ => z_ (by rw [saves_good hrd.2])))) (fun h_ H_ => exd_neq rfl rfl) rfl ?_
    refine rl_det (met_none rfl) (fun h_ H_ => exd_pick_f rfl (decide_eq_false (fun z_ => z_ (by rw [saves_good hrd.2]))) (v := .bool (decide ((savesB ts).1 ≠ (((wholeB ts).length : Nat) : Int) - ((((writeB ts).1).length : Nat) : Int)))) rfl) rfl ?_
    refine rl_end ?_
    refine fl_else rfl (decide_eq_false (fun z_ => z_ (by rw [saves_good hrd.2, write_good hrd.2]))) ?_
    refine fl_skip ?_
    refine fl_seq ?_
    refine fl_seq ?_
    refine rl_start ?_
    refine rl_det (met_none rfl) (fun h_ H_ => exd_assign (v := .int .i64 0) rfl) (tm' := _::_::_::_::_::_::_::_::_::_::_) rfl ?_
    refine rl_end ?_
    refine fl_block ?_
    refine fl_loop (m₀ := n - 0) (fun m_ tm_ h_ => ∃ (k : Nat) (fl : By), m_ = n - k ∧ (∃ y2 : Nat → Value, tm_ = [.slice a n c, undef, (y2 2), sv ((writeB ts).1), .bool (decide (wrOk ts)), .int .i64 ((savesB ts).1), .int .i64 ((savesB ts).2), sv fl, .bool (decide (wrOk ([] : List By))), .int .i64 (((k : Nat) : Int)), (y2 10), (y2 11), .slice a n c, .bool (decide (readyT ts)), .bool (!(decide (readyT ts))), undef, .tuple #[sv ((writeB ts).1), .bool (decide (wrOk ts))], .slice a n c, .tuple #[sv ((writeB ts).1), .bool (decide (wrOk ts))], sv ((writeB ts).1), .bool (decide (wrOk ts)), .tuple #[.int .i64 ((savesB ts).1), .int .i64 ((savesB ts).2)], .slice a n c, .tuple #[.int .i64 ((savesB ts).1), .int .i64 ((savesB ts).2)], .int .i64 ((savesB ts).1), .int .i64 ((savesB ts).2), .tuple #[sv ((writeB ([] : List By)).1), .bool (decide (wrOk ([] : List By)))], .tuple #[sv ((writeB ([] : List By)).1), .bool (decide (wrOk ([] : List By)))], sv ((writeB ([] : List By)).1), .bool (decide (wrOk ([] : List By))), .bool (decide (wrOk ts)), .bool (!(decide (wrOk ts))), .bool (!(decide (wrOk ts))), .bool (decide (wrOk ([] : List By))), .bool (!(decide (wrOk ([] : List By)))), .bool (!(decide (wrOk ([] : List By)))), .bool (!(decide (wrOk ([] : List By)))), .int .i64 ((savesB ts).2), .bool (decide ((savesB ts).2 ≠ 0)), .bool (decide ((savesB ts).2 ≠ 0)), .bool (decide ((savesB ts).2 ≠ 0)), .int .i64 ((savesB ts).1), .slice a n c, sv (wholeB ts), .int .i64 ((((wholeB ts).length : Nat) : Int)), sv ((writeB ts).1), .int .i64 (((((writeB ts).1).length : Nat) : Int)), .int .i64 ((((wholeB ts).length : Nat) : Int) - ((((writeB ts).1).length : Nat) : Int)), .bool (decide ((savesB ts).1 ≠ (((wholeB ts).length : Nat) : Int) - ((((writeB ts).1).length : Nat) : Int))), .bool (decide ((savesB ts).1 ≠ (((wholeB ts).length : Nat) : Int) - ((((writeB ts).1).length : Nat) : Int))), (y2 50), (y2 51), (y2 52), (y2 53), (y2 54), (y2 55), (y2 56), (y2 57), (y2 58), (y2 59), (y2 60), (y2 61), (y2 62), (y2 63), (y2 64), (y2 65), (y2 66), (y2 67), (y2 68), (y2 69), (y2 70), (y2 71), (y2 72), undef, undef, undef, undef, undef, undef]) ∧ (k ≤ n) ∧ (fl = fileB (ts.take k)) ∧ St h [] p h_ ([])) (fun h_ H_ => ⟨0, _, rfl, (y_of rfl), Nat.zero_le _, (by rw [write_good (by decide)]; rfl), H_⟩) ?_
    intro m_ tm_ IH3
    refine rs_ex fun k => rs_ex fun fl => rs_and fun hm_ => rs_and fun ht_ => rs_and fun hk => rs_and fun hfl => ?_
    subst hm_; obtain ⟨y2, ht_⟩ := ht_; subst ht_
    refine fl_seq ?_
    refine fl_seq ?_
    refine rl_start ?_
    refine rl_det (met_none rfl) (fun h_ H_ => exd_move (v := .int .i64 (((k : Nat) : Int))) rfl) rfl ?_
    refine rl_det (met_none rfl) (fun h_ H_ => exd_move (v := .slice a n c) rfl) rfl ?_
    refine rl_det (met_none rfl) (fun h_ H_ => exd_len Tryd.underlying22 rfl) (tm' := [_,_,_,_,_,_,_,_,_,_,_,_,_,_,_,_,_,_,_,_,_,_,_,_,_,_,_,_,_,_,_,_,_,_,_,_,_,_,_,_,_,_,_,_,_,_,_,_,_,_,_,_,_,_,_,_,_,_,_,_,_,_,_,_,_,_,_,_,_,_,_,_,_,_,_,_,_,_,_]) rfl ?_
    refine rl_det (met_none rfl) (fun h_ H_ => exd_lss rfl rfl) rfl ?_
    refine rl_end ?_
    by_cases cc4 : ((k : Nat) : Int) < ((n : Nat) : Int)
    · refine fl_then rfl (decide_eq_true cc4) ?_
      refine fl_skip ?_
      refine fl_seq ?_
      refine fl_block ?_
      refine fl_seq ?_
      have hadd : addB fl (ts.getD k []) = (fileB (ts.take (k + 1)), 0) := by rw [hfl]; exact add_step hrd.2 (by omega)
      have hfb := file_bounds (chk_take hrd.2 k)
      rw [← hfl] at hfb
      have htk := ht0 k (by omega)
      refine rl_start ?_
      refine rl_det (met_none rfl) (fun h_ H_ => exd_move (v := sv fl) rfl) rfl ?_
      refine rl_det (met_none rfl) (fun h_ H_ => exd_move (v := .slice a n c) rfl) (tm' := [_,_,_,_,_,_,_,_,_,_,_,_,_,_,_,_,_,_,_,_,_,_,_,_,_,_,_,_,_,_,_,_,_,_,_,_,_,_,_,_,_,_,_,_,_,_,_,_,_,_,_,_,_,_,_,_,_,_,_,_,_,_,_,_,_,_,_,_,_,_,_,_,_,_,_,_,_,_,_]) rfl ?_
      refine rl_det (met_none rfl) (fun h_ H_ => exd_move (v := .int .i64 (((k : Nat) : Int))) rfl) rfl ?_
      refine rl_det (met_none rfl) (fun h_ H_ => exd_indexAddrN (i := k) Tryd.underlying22 tS9 (sl_ne a n c (T.ne (by omega))) rfl (by omega)) rfl ?_
      refine rl_det (met_none rfl) (fun h_ H_ => exd_load_per H_ tA9 rfl (v := sv (ts.getD k [])) (T.get (by omega))) (tm' := [_,_,_,_,_,_,_,_,_,_,_,_,_,_,_,_,_,_,_,_,_,_,_,_,_,_,_,_,_,_,_,_,_,_,_,_,_,_,_,_,_,_,_,_,_,_,_,_,_,_,_,_,_,_,_,_,_,_,_,_,_,_,_,_,_,_,_,_,_,_,_,_,_,_,_,_,_,_,_]) rfl ?_
      refine rl_calld (met_none rfl) (first := []) (cap := []) rfl rfl fC28 (fun h_ H_ => c28 _ (htab.keep H_.kept) fl (ts.getD k []) (by omega) (by omega)) rfl ?_
      refine rl_det (met_none rfl) (fun h_ H_ => exd_move (v := .tuple #[sv ((addB fl (ts.getD k [])).1), .int .i64 ((addB fl (ts.getD k [])).2)]) rfl) rfl ?_
      refine rl_det (met_none rfl) (fun h_ H_ => exd_extract rfl (v := sv ((addB fl (ts.getD k [])).1)) rfl) (tm' := [_,_,_,_,_,_,_,_,_,_,_,_,_,_,_,_,_,_,_,_,_,_,_,_,_,_,_,_,_,_,_,_,_,_,_,_,_,_,_,_,_,_,_,_,_,_,_,_,_,_,_,_,_,_,_,_,_,_,_,_,_,_,_,_,_,_,_,_,_,_,_,_,_,_,_,_,_,_,_]) rfl ?_
      refine rl_det (met_none rfl) (fun h_ H_ => exd_extract rfl (v := .int .i64 ((addB fl (ts.getD k [])).2)) rfl) rfl ?_
      refine rl_det (met_none rfl) (fun h_ H_ => exd_assign (v := sv ((addB fl (ts.getD k [])).1)) rfl) rfl ?_
      refine rl_det (met_none rfl) (fun h_ H_ => exd_assign (v := .int .i64 ((addB fl (ts.getD k [])).2)) rfl) (tm' := _::_::_::_::_::_::_::_::_::_::_::_::_) rfl ?_
      refine rl_end ?_
      refine fl_seq ?_
      refine fl_seq ?_
      refine rl_start ?_
      refine rl_det (met_none rfl) (fun h_ H_ => exd_move (v := .int .i64 ((addB fl (ts.getD k [])).2)) rfl) rfl ?_
      refine rl_det (met_none rfl) (fun h_ H_ => exd_neq rfl rfl) rfl ?_
      refine rl_det (met_none rfl) (fun h_ H_ => exd_move (v := .bool (decide ((addB fl (ts.getD k [])).2 ≠ 0))) rfl) (tm' := [_,_,_,_,_,_,_,_,_,_,_,_,_,_,_,_,_,_,_,_,_,_,_,_,_,_,_,_,_,_,_,_,_,_,_,_,_,_,_,_,_,_,_,_,_,_,_,_,_,_,_,_,_,_,_,_,_,_,_,_,_,_,_,_,_,_,_,_,_,_,_,_,_,_,_,_,_,_,_]) rfl ?_
      refine rl_det (met_some rfl rfl (decide_eq_false (fun z_ => z_ (by rw [hadd])))) (fun h_ H_ => exd_move (v := sv ((addB fl (ts.getD k [])).1)) rfl) rfl ?_
      refine rl_det (met_some rfl rfl (decide_eq_false (fun z_ => z_ (by rw [hadd])))) (fun h_ H_ => exd_lenS (l := (addB fl (ts.getD k [])).1) Tryd.underlying9 rfl) rfl ?_
      refine rl_det (met_some rfl rfl (decide_eq_false (fun z_ => z_ (by rw [hadd])))) (fun h_ H_ => exd_gtr rfl rfl) (tm' := [_,_,_,_,_,_,_,_,_,_,_,_,_,_,_,_,_,_,_,_,_,_,_,_,_,_,_,_,_,_,_,_,_,_,_,_,_,_,_,_,_,_,_,_,_,_,_,_,_,_,_,_,_,_,_,_,_,_,_,_,_,_,_,_,_,_,_,_,_,_,_,_,_,_,_,_,_,_,_]) rfl ?_
      refine rl_det (met_none rfl) (fun h_ H_ => exd_pick_f rfl (decide_eq_false (fun z_ => z_ (by rw [hadd]))) (v := .bool (decide (1400 < ((((addB fl (ts.getD k [])).1).length : Nat) : Int)))) rfl) rfl ?_
      refine rl_end ?_
      refine fl_else rfl (decide_eq_false (by have z_ := file_bounds (chk_take hrd.2 (k + 1)); rw [hadd]; show ¬ (1400 : Int) < (((fileB (ts.take (k + 1))).length : Nat) : Int); omega)) ?_
      refine fl_skip ?_
      refine rl_start ?_
      refine rl_det (met_none rfl) (fun h_ H_ => exd_move (v := sv ((addB fl (ts.getD k [])).1)) rfl) rfl ?_
      refine rl_det (met_none rfl) (fun h_ H_ => exd_assign (v := sv ((addB fl (ts.getD k [])).1)) rfl) (tm' := _::_::_::_::_::_::_::_::_) rfl ?_
      refine rl_end ?_
      refine fl_inBlock ?_
      refine rl_start ?_
      refine rl_det (met_none rfl) (fun h_ H_ => exd_move (v := .int .i64 (((k : Nat) : Int))) rfl) rfl ?_
      refine rl_det (met_none rfl) (fun h_ H_ => exd_add rfl rfl (n := ((k + 1 : Nat) : Int)) (wr (by omega))) rfl ?_
      refine rl_det (met_none rfl) (fun h_ H_ => exd_assign (v := .int .i64 (((k + 1 : Nat) : Int))) rfl) (tm' := _::_::_::_::_::_::_::_::_::_::_) rfl ?_
      refine rl_end ?_
      exact fun h_ H_ => IH3 _ _ (by omega) h_ ⟨k + 1, (addB fl (ts.getD k [])).1, rfl, (y_of rfl), (by omega), (by rw [hadd]), H_⟩
    · refine fl_else rfl (decide_eq_false cc4) ?_
      refine fl_exit rfl ?_
      refine fl_seq ?_
      refine rl_start ?_
      refine rl_det (met_none rfl) (fun h_ H_ => exd_move (v := sv fl) rfl) rfl ?_
      refine rl_det (met_none rfl) (fun h_ H_ => exd_move (v := sv ((writeB ts).1)) rfl) rfl ?_
      refine rl_det (met_none rfl) (fun h_ H_ => exd_eqlS (l := fl) (m := (writeB ts).1) rfl rfl) (tm' := [_,_,_,_,_,_,_,_,_,_,_,_,_,_,_,_,_,_,_,_,_,_,_,_,_,_,_,_,_,_,_,_,_,_,_,_,_,_,_,_,_,_,_,_,_,_,_,_,_,_,_,_,_,_,_,_,_,_,_,_,_,_,_,_,_,_,_,_,_,_,_,_,_,_,_,_,_,_,_]) rfl ?_
      refine rl_det (met_none rfl) (fun h_ H_ => exd_move (v := .bool (decide (fl = (writeB ts).1))) rfl) rfl ?_
      refine rl_calld (met_some rfl rfl (decide_eq_true (by rw [hfl, write_good hrd.2, List.take_of_length_le (by omega)]))) (first := []) (cap := []) rfl rfl fC16 (fun h_ H_ => c16 _ (htab.keep H_.kept)) rfl ?_
      refine rl_det (met_none rfl) (fun h_ H_ => exd_pick_t rfl (decide_eq_true (by rw [hfl, write_good hrd.2, List.take_of_length_le (by omega)])) (v := .bool (true)) rfl) (tm' := [_,_,_,_,_,_,_,_,_,_,_,_,_,_,_,_,_,_,_,_,_,_,_,_,_,_,_,_,_,_,_,_,_,_,_,_,_,_,_,_,_,_,_,_,_,_,_,_,_,_,_,_,_,_,_,_,_,_,_,_,_,_,_,_,_,_,_,_,_,_,_,_,_,_,_,_,_,_,_]) rfl ?_
      refine rl_det (met_none rfl) (fun h_ H_ => exd_assign (v := .bool (true)) rfl) rfl ?_
      refine rl_end ?_
      refine fl_retL Tryd.func7 rfl (vs := [.bool (true)]) (fun h_ H_ => ⟨.bool (true), _, rfl, rfl, rfl⟩) (v := .bool (true)) rfl ?_
      exact fun h_ H_ => ⟨rfl, H_.kept⟩
  · refine fl_then rfl (not_t (decide_eq_false cc1)) ?_
    refine fl_seq ?_
    refine rl_start ?_
    refine rl_calld (met_none rfl) (first := []) (cap := []) rfl rfl fC16 (fun h_ H_ => c16 _ (htab.keep H_.kept)) rfl ?_
    refine rl_det (met_none rfl) (fun h_ H_ => exd_assign (v := .bool (true)) rfl) (tm' := _::_::_::_) rfl ?_
    refine rl_end ?_
    refine fl_retL Tryd.func7 rfl (vs := [.bool (true)]) (fun h_ H_ => ⟨.bool (true), _, rfl, rfl, rfl⟩) (v := .bool (true)) rfl ?_
    exact fun h_ H_ => ⟨rfl, H_.kept⟩
end Go.Proofs.YtiinpnlfdeiloaaDoor
namespace Go.Proofs.YtiinpnlfdeiloaaDoor
open Go.X Go.X.Cent Go.Conc Go.RowKit Go.ChangeShapes Go.WideShapes Go.ChangeAt Go.Joins
set_option maxRecDepth 100000

theorem lifted7 (os : Os) (started : os.Started) (H : Type) (enc : TypeId × Value → H) :
    ReturnsInHanded {} Tryd.checked os 7 .any (fun w args => (Rows.centuryMoreSpec.pre enc Tryd.prog Tryd.f7 Rows.centuryMoreRow.domain false w args ∧ laidMetH Tryd.prog Rows.centuryMoreRow.laid w) ∧ sizedMet enc Tryd.prog Tryd.f7 (OpenSpec.ofChange Rows.centuryMoreSpec) false w args) (Rows.centuryMoreSpec.post enc Tryd.prog Tryd.f7 false true false false) := by
  refine returnsInHanded_of_change_and (C := Tryd.checked) (X := fun w _ => laidMetH Tryd.prog Rows.centuryMoreRow.laid w) (fun _ _ _ hh h => h.of_heap hh) pOwn started (by kernel_rfl) Tryd.func7
    (ChangeSpec.witness_shaped (enc := enc) (C := Tryd.checked) (os := os) (X := fun w _ => laidMetH Tryd.prog Rows.centuryMoreRow.laid w) false (laidW os) #[.slice none 0 0] 8 (World.laidAll_os _ _ _)
      (World.shaped_of_ZipB (by kernel_rfl) (by kernel_rfl)) (by kernel_rfl) (by kernel_rfl) (by kernel_rfl) (laidW_met os _)) ?_
  intro W base args ds gs before hval0 hW _ _ hL _
  have hval : ∀ (j : Nat) t v, Tryd.f7.params[j]? = some t → args[j]? = some v → Value.okWide Tryd.prog W .any base t v := hval0
  have hW2 := hW
  obtain ⟨p, q, hA0, hV, rfl, _, _⟩ := hW2
  have hA : DataW.TrodAll enc Tryd.prog W 0 (fun _ => true) true Tryd.f7.params.toList args.toList ds p := hA0
  rw [Tryd.params7] at hA hval
  obtain ⟨v0, d0, rfl, rfl, h0⟩ := trodAll_one hA
  obtain ⟨rfl, rfl⟩ := trodVars_none hV
  obtain ⟨a, n, c, ts, rfl, hn, T⟩ := open_texts (hval 0 22 v0 rfl rfl) h0
  refine (calls_of_enters (e7 W.heap (pW W) (pW_per W) (tab_of_laid hL) a n c ts T hn)).mono fun e W2 ⟨v, he, ⟨hv, hk_⟩, cl⟩ => ⟨v, he, ?_⟩
  subst hv
  exact law_post pLaid rfl (fun t ht => by rw [Tryd.params7] at ht; revert t; decide +kernel) rfl Tryd.underlying4 hW rfl (below_of hk_ cl)

theorem centuryMoreRowHolds : Rows.CenturyMoreSaid :=
  OpenClaim.holds_of_wide 7 Tryd.f7 rfl rfl rfl rfl rfl rfl rfl ⟨rfl, rfl, rfl, rfl, rfl⟩ rfl rfl rfl rfl rfl (by kernel_rfl) Tryd.func7 (by kernel_rfl)
    (of_decide_eq_true (by kernel_rfl)) (by unfold Func.isWrapper; first | (rw [if_pos (by decide +kernel)]; kernel_rfl) | (rw [if_neg (by decide +kernel)]; exact ⟨rfl, rfl⟩))
    (fun os started H enc _ => lifted7 os started H enc)

theorem centuryMoreHolds : Rows.CenturyMoreCardSaid :=
  Claim7.holds_tied_plain_at .later [] [.data, .data, .data, .data, .pinned] true (true, "d19a88c3556340bf03c70abcf51311f6c04bc6278884da2732a7a561c1b64cb8") false centuryMoreRowHolds (fun _ h => by cases h) (by kernel_rfl) (fun _ h => by cases h) centuryMore_row_tie rfl ⟨rfl, rfl⟩ (by kernel_rfl) rfl
    (fun f fn hf hfn => by
      obtain rfl : f = 7 := Option.some.inj ((show Tryd.prog.funcNamed "steening/steeninglaw14.CenturyMore" = some 7 by kernel_rfl).symm.trans hf) |>.symm
      obtain rfl : fn = Tryd.f7 := (Option.some.inj (Tryd.func7.symm.trans hfn)).symm
      exact ⟨by kernel_rfl, fun j t ht => by
        rw [Tryd.params7] at ht
        have hm : t ∈ [22] := by simpa using Array.mem_of_getElem? ht
        have hall : ([22].all fun u => !Tryd.prog.wantsStandIn u) = true := by kernel_rfl
        exact (show Tryd.prog.wantsStandIn t = false by simpa using List.all_eq_true.1 hall t hm)⟩)
    (by kernel_rfl)

#print axioms centuryMoreHolds
end Go.Proofs.YtiinpnlfdeiloaaDoor
