/-
  Part of proofs about the century: a lone run, and what it computes. No condition.
-/
import Derived.Test.YtiinpnlfdeiloaaDoorD2
import Derived.Test.YtiinpnlfdeiloaaDoorD1
import Derived.Test.YtiinpnlfdeiloaaDoorD3
namespace Go.Proofs.YtiinpnlfdeiloaaDoor
open Go.X Go.X.Cent Go.Conc
set_option maxRecDepth 10000

theorem c51 (md : Md) (h : Heap) (p : PHeap) (hp : Per p h) (a : Option Addr) (n c : Nat) (ts : List By) (T : Strs p a n ts) (hn : n ≤ 2 ^ 60) (ht : ∀ i, i < n → (ts.getD i []).length ≤ 2 ^ 60) : CallsX Tryd.prog md 51 #[.slice a n c] h fun v h' => v = .int .i64 (chkT ts) ∧ Keep h h' := by
  refine calls_intro (Φ := fun h_ => St h [] p h_ []) Tryd.func51 rfl (tm := [_, _, _, _, _, _, _, _, _, _, _, _, _, _, _, _, _, _, _]) rfl ?_ (St.start h _ hp)
  intro c₀ cs Stop K
  refine fl_seq ?_
  refine rl_start ?_
  refine rl_det (met_none rfl) (fun h_ H_ => exd_assign (v := .int .i64 0) rfl) rfl ?_
  refine rl_end ?_
  refine fl_seq ?_
  refine fl_seq ?_
  refine rl_start ?_
  refine rl_det (met_none rfl) (fun h_ H_ => exd_move (v := .slice a n c) rfl) rfl ?_
  refine rl_det (met_none rfl) (fun h_ H_ => exd_len Tryd.underlying22 rfl) (tm' := _::_::_::_::_::_::_) rfl ?_
  refine rl_det (met_none rfl) (fun h_ H_ => exd_gtr rfl rfl) rfl ?_
  refine rl_end ?_
  by_cases cc1 : 20 < ((n : Nat) : Int)
  · refine fl_then rfl (decide_eq_true cc1) ?_
    refine fl_seq ?_
    refine rl_start ?_
    refine rl_det (met_none rfl) (fun h_ H_ => exd_assign (v := .int .i64 2) rfl) rfl ?_
    refine rl_end ?_
    refine fl_ret Tryd.func51 rfl (vs := [.int .i64 2]) (fun h_ H_ => ⟨.int .i64 2, _, rfl, rfl, rfl⟩) (v := .int .i64 2) rfl ?_
    have hl := T.len
    exact fun h_ H_ => K _ _ ⟨by first | rw [chkT_many (by omega)] | rw [chkT_bad (k := k) (by omega) (by omega) ‹_›] | rw [chkT_good (by omega) (by omega) hs], H_.kept⟩
  · refine fl_else rfl (decide_eq_false cc1) ?_
    refine fl_skip ?_
    refine fl_seq ?_
    refine fl_seq ?_
    refine rl_start ?_
    refine rl_det (met_none rfl) (fun h_ H_ => exd_assign (v := .int .i64 0) rfl) (tm' := _::_::_::_::_) rfl ?_
    refine rl_end ?_
    refine fl_block ?_
    refine fl_loop (m₀ := n - 0) (fun m_ tm_ h_ => ∃ (k : Nat), m_ = n - k ∧ (∃ y2 : Nat → Value, tm_ = [.slice a n c, undef, (y2 2), .int .i64 (((k : Nat) : Int)), .slice a n c, .int .i64 (((n : Nat) : Int)), .bool (decide (20 < ((n : Nat) : Int))), (y2 7), (y2 8), (y2 9), (y2 10), (y2 11), (y2 12), (y2 13), (y2 14), (y2 15), (y2 16), (y2 17), (y2 18)]) ∧ (k ≤ n) ∧ (∀ i, i < k → isText (ts.getD i [])) ∧ St h [] p h_ ([])) (fun h_ H_ => ⟨0, rfl, (y_of rfl), Nat.zero_le _, (fun i hi => absurd hi (Nat.not_lt_zero i)), H_⟩) ?_
    intro m_ tm_ IH3
    refine rs_ex fun k => rs_and fun hm_ => rs_and fun ht_ => rs_and fun hk => rs_and fun hs => ?_
    subst hm_; obtain ⟨y2, ht_⟩ := ht_; subst ht_
    refine fl_seq ?_
    refine fl_seq ?_
    refine rl_start ?_
    refine rl_det (met_none rfl) (fun h_ H_ => exd_move (v := .int .i64 (((k : Nat) : Int))) rfl) rfl ?_
    refine rl_det (met_none rfl) (fun h_ H_ => exd_move (v := .slice a n c) rfl) rfl ?_
    refine rl_det (met_none rfl) (fun h_ H_ => exd_len Tryd.underlying22 rfl) (tm' := _::_::_::_::_::_::_::_::_::_::_) rfl ?_
    refine rl_det (met_none rfl) (fun h_ H_ => exd_lss rfl rfl) rfl ?_
    refine rl_end ?_
    by_cases cc4 : ((k : Nat) : Int) < ((n : Nat) : Int)
    · refine fl_then rfl (decide_eq_true cc4) ?_
      refine fl_skip ?_
      refine fl_seq ?_
      refine fl_block ?_
      refine fl_seq ?_
      refine rl_start ?_
      refine rl_det (met_none rfl) (fun h_ H_ => exd_move (v := .slice a n c) rfl) rfl ?_
      refine rl_det (met_none rfl) (fun h_ H_ => exd_move (v := .int .i64 (((k : Nat) : Int))) rfl) (tm' := [_,_,_,_,_,_,_,_,_,_,_,_,_,_,_,_,_,_,_]) rfl ?_
      refine rl_det (met_none rfl) (fun h_ H_ => exd_indexAddrN (i := k) Tryd.underlying22 tS9 (sl_ne a n c (T.ne (by omega))) rfl (by omega)) rfl ?_
      refine rl_det (met_none rfl) (fun h_ H_ => exd_load_per H_ tA9 rfl (v := sv (ts.getD k [])) (T.get (by omega))) rfl ?_
      refine rl_calld (met_none rfl) (first := []) (cap := []) rfl rfl fC68 (fun h_ H_ => c68 md _ (ts.getD k []) (ht _ (by omega))) (tm' := [_,_,_,_,_,_,_,_,_,_,_,_,_,_,_,_,_,_,_]) rfl ?_
      refine rl_det (met_none rfl) (fun h_ H_ => exd_not rfl) rfl ?_
      refine rl_end ?_
      by_cases cc5 : isText (ts.getD k [])
      · refine fl_else rfl (not_f (decide_eq_true cc5)) ?_
        refine fl_skip ?_
        refine fl_inBlock ?_
        refine rl_start ?_
        refine rl_det (met_none rfl) (fun h_ H_ => exd_move (v := .int .i64 (((k : Nat) : Int))) rfl) rfl ?_
        refine rl_det (met_none rfl) (fun h_ H_ => exd_add rfl rfl (n := ((k + 1 : Nat) : Int)) (wr (by omega))) (tm' := [_,_,_,_,_,_,_,_,_,_,_,_,_,_,_,_,_,_,_]) rfl ?_
        refine rl_det (met_none rfl) (fun h_ H_ => exd_assign (v := .int .i64 (((k + 1 : Nat) : Int))) rfl) rfl ?_
        refine rl_end ?_
        exact fun h_ H_ => IH3 _ _ (by omega) h_ ⟨k + 1, rfl, (y_of rfl), (by omega), (upto_step hs ‹_›), H_⟩
      · refine fl_then rfl (not_t (decide_eq_false cc5)) ?_
        refine fl_seq ?_
        refine rl_start ?_
        refine rl_det (met_none rfl) (fun h_ H_ => exd_assign (v := .int .i64 1) rfl) rfl ?_
        refine rl_end ?_
        refine fl_ret Tryd.func51 rfl (vs := [.int .i64 1]) (fun h_ H_ => ⟨.int .i64 1, _, rfl, rfl, rfl⟩) (v := .int .i64 1) rfl ?_
        have hl := T.len
        exact fun h_ H_ => K _ _ ⟨by first | rw [chkT_many (by omega)] | rw [chkT_bad (k := k) (by omega) (by omega) ‹_›] | rw [chkT_good (by omega) (by omega) hs], H_.kept⟩
    · refine fl_else rfl (decide_eq_false cc4) ?_
      refine fl_exit rfl ?_
      refine fl_seq ?_
      refine rl_start ?_
      refine rl_det (met_none rfl) (fun h_ H_ => exd_assign (v := .int .i64 0) rfl) (tm' := _::_::_::_) rfl ?_
      refine rl_end ?_
      refine fl_ret Tryd.func51 rfl (vs := [.int .i64 0]) (fun h_ H_ => ⟨.int .i64 0, _, rfl, rfl, rfl⟩) (v := .int .i64 0) rfl ?_
      have hl := T.len
      exact fun h_ H_ => K _ _ ⟨by first | rw [chkT_many (by omega)] | rw [chkT_bad (k := k) (by omega) (by omega) ‹_›] | rw [chkT_good (by omega) (by omega) hs], H_.kept⟩
end Go.Proofs.YtiinpnlfdeiloaaDoor
namespace Go.Proofs.YtiinpnlfdeiloaaDoor
open Go.X Go.X.Cent Go.Conc
set_option maxRecDepth 10000

end Go.Proofs.YtiinpnlfdeiloaaDoor
namespace Go.Proofs.YtiinpnlfdeiloaaDoor
open Go.X Go.X.Cent Go.Conc
set_option maxRecDepth 10000
set_option synthInstance.maxSize 2000
set_option synthInstance.maxHeartbeats 400000

set_option maxHeartbeats 1000000
theorem c32 (md : Md) (h : Heap) (l : By) (hl : l.length ≤ 4096) : CallsX Tryd.prog md 32 #[sv l] h fun v h' => v = sv (sealB l) ∧ Keep h h' := by
  refine calls_intro (Φ := fun h_ => St h [] (fun _ => none) h_ []) Tryd.func32 rfl (tm := [_, _, _, _, _, _, _, _, _]) rfl ?_ (St.start h _ (fun _ _ e => by cases e))
  intro c₀ cs Stop K
  refine fl_seq ?_
  refine rl_start ?_
  refine rl_det (met_none rfl) (fun h_ H_ => exd_assign (v := sv ([] : List UInt8)) rfl) rfl ?_
  refine rl_end ?_
  refine fl_seq ?_
  refine rl_start ?_
  refine rl_det (met_none rfl) (fun h_ H_ => exd_move (v := sv l) rfl) rfl ?_
  refine rl_det (met_none rfl) (fun h_ H_ => exd_catS (l := l) (m := ([61] : List UInt8)) rfl rfl (by first | (simp only [List.length_singleton]; omega) | (simp only [List.length_append, four, List.length_cons, List.length_nil]; omega))) (tm' := _::_::_::_::_::_) rfl ?_
  refine rl_det (met_none rfl) (fun h_ H_ => exd_move (v := sv l) rfl) rfl ?_
  refine rl_calld (met_none rfl) (first := []) (cap := []) rfl rfl fC35 (fun h_ H_ => c35 md _ l (by omega)) rfl ?_
  refine rl_calld (met_none rfl) (first := []) (cap := []) rfl rfl fC65 (fun h_ H_ => c65 md _ (total l % 9973) (by omega)) (tm' := [_,_,_,_,_,_,_,_,_]) rfl ?_
  refine rl_det (met_none rfl) (fun h_ H_ => exd_catS (l := l ++ ([61] : List UInt8)) (m := four (total l % 9973)) rfl rfl (by first | (simp only [List.length_singleton]; omega) | (simp only [List.length_append, four, List.length_cons, List.length_nil]; omega))) rfl ?_
  refine rl_det (met_none rfl) (fun h_ H_ => exd_assign (v := sv ((l ++ ([61] : List UInt8)) ++ (four (total l % 9973)))) rfl) rfl ?_
  refine rl_end ?_
  refine fl_ret Tryd.func32 rfl (vs := [sv ((l ++ ([61] : List UInt8)) ++ (four (total l % 9973)))]) (fun h_ H_ => ⟨sv ((l ++ ([61] : List UInt8)) ++ (four (total l % 9973))), _, rfl, rfl, rfl⟩) (v := sv ((l ++ ([61] : List UInt8)) ++ (four (total l % 9973)))) rfl ?_
  exact fun h_ H_ => K _ _ ⟨by simp [sealB], H_.kept⟩
end Go.Proofs.YtiinpnlfdeiloaaDoor
namespace Go.Proofs.YtiinpnlfdeiloaaDoor
open Go.X Go.X.Cent Go.Conc
set_option maxRecDepth 10000
set_option synthInstance.maxSize 2000
set_option synthInstance.maxHeartbeats 400000

set_option maxHeartbeats 2000000
theorem c36 (md : Md) (h : Heap) (s : By) (hs0 : s.length ≤ 2 ^ 60) : CallsX Tryd.prog md 36 #[sv s] h fun v h' => v = .tuple #[sv (bodyB s), .bool (decide (bodyOk s))] ∧ Keep h h' := by
  refine calls_intro (Φ := fun h_ => St h [] (fun _ => none) h_ []) Tryd.func36 rfl (tm := [_, _, _, _, _, _, _, _, _, _, _, _, _, _, _, _, _, _, _, _, _, _, _, _, _, _, _, _, _, _, _, _, _, _, _, _, _, _, _, _, _, _, _, _, _, _, _, _, _, _, _, _, _, _, _, _, _, _, _, _, _, _, _, _, _, _, _, _, _, _, _, _, _, _, _, _, _, _, _, _, _, _, _]) rfl ?_ (St.start h _ (fun _ _ e => by cases e))
  intro c₀ cs Stop K
  have e5 : (((s.length : Nat) : Int) - 5).toNat = s.length - 5 := by omega
  refine fl_seq ?_
  refine rl_start ?_
  refine rl_det (met_none rfl) (fun h_ H_ => exd_assign (v := sv ([] : List UInt8)) rfl) rfl ?_
  refine rl_det (met_none rfl) (fun h_ H_ => exd_assign (v := .bool (false)) rfl) rfl ?_
  refine rl_end ?_
  refine fl_seq ?_
  refine rl_start ?_
  refine rl_det (met_none rfl) (fun h_ H_ => exd_move (v := sv s) rfl) (tm' := _::_::_::_::_::_::_::_) rfl ?_
  refine rl_det (met_none rfl) (fun h_ H_ => exd_lenS (l := s) Tryd.underlying9 rfl) rfl ?_
  refine rl_det (met_none rfl) (fun h_ H_ => exd_sub rfl rfl (wr (by omega))) rfl ?_
  refine rl_det (met_none rfl) (fun h_ H_ => exd_assign (v := .int .i64 (((s.length : Nat) : Int) - 5)) rfl) (tm' := _::_::_::_::_::_) rfl ?_
  refine rl_end ?_
  refine fl_seq ?_
  refine fl_seq ?_
  refine rl_start ?_
  refine rl_det (met_none rfl) (fun h_ H_ => exd_move (v := .int .i64 (((s.length : Nat) : Int) - 5)) rfl) rfl ?_
  refine rl_det (met_none rfl) (fun h_ H_ => exd_lss rfl rfl) rfl ?_
  refine rl_det (met_none rfl) (fun h_ H_ => exd_move (v := .bool (decide (((s.length : Nat) : Int) - 5 < 0))) rfl) (tm' := _::_::_::_::_::_::_::_::_::_::_::_::_) rfl ?_
  by_cases cc1 : ((s.length : Nat) : Int) - 5 < 0
  · refine rl_pass (met_not rfl rfl (decide_eq_true cc1)) rfl ?_
    refine rl_pass (met_not rfl rfl (decide_eq_true cc1)) rfl ?_
    refine rl_pass (met_not rfl rfl (decide_eq_true cc1)) (tm' := _::_::_::_::_::_::_::_::_::_::_::_::_::_::_::_) rfl ?_
    refine rl_det (met_none rfl) (fun h_ H_ => exd_pick_t rfl (decide_eq_true cc1) (v := .bool (true)) rfl) rfl ?_
    refine rl_det (met_none rfl) (fun h_ H_ => exd_move (v := .bool (true)) rfl) rfl ?_
    refine rl_pass (met_not rfl rfl rfl) (tm' := _::_::_::_::_::_::_::_::_::_::_::_::_::_::_::_::_::_::_) rfl ?_
    refine rl_pass (met_not rfl rfl rfl) rfl ?_
    refine rl_pass (met_not rfl rfl rfl) rfl ?_
    refine rl_pass (met_not rfl rfl rfl) (tm' := _::_::_::_::_::_::_::_::_::_::_::_::_::_::_::_::_::_::_::_::_::_) rfl ?_
    refine rl_det (met_none rfl) (fun h_ H_ => exd_pick_t rfl rfl (v := .bool (true)) rfl) rfl ?_
    refine rl_det (met_none rfl) (fun h_ H_ => exd_move (v := .bool (true)) rfl) rfl ?_
    refine rl_pass (met_not rfl rfl rfl) (tm' := _::_::_::_::_::_::_::_::_::_::_::_::_::_::_::_::_::_::_::_::_::_::_::_::_) rfl ?_
    refine rl_pass (met_not rfl rfl rfl) rfl ?_
    refine rl_pass (met_not rfl rfl rfl) rfl ?_
    refine rl_det (met_none rfl) (fun h_ H_ => exd_pick_t rfl rfl (v := .bool (true)) rfl) (tm' := _::_::_::_::_::_::_::_::_::_::_::_::_::_::_::_::_::_::_::_::_::_::_::_::_::_::_::_) rfl ?_
    refine rl_end ?_
    refine fl_then rfl rfl ?_
    refine fl_seq ?_
    refine rl_start ?_
    refine rl_det (met_none rfl) (fun h_ H_ => exd_assign (v := sv ([] : List UInt8)) rfl) rfl ?_
    refine rl_det (met_none rfl) (fun h_ H_ => exd_assign (v := .bool (false)) rfl) rfl ?_
    refine rl_end ?_
    refine fl_ret Tryd.func36 rfl (vs := [sv ([] : List UInt8), .bool (false)]) (fun h_ H_ => ⟨sv ([] : List UInt8), _, rfl, rfl, ⟨.bool (false), _, rfl, rfl, rfl⟩⟩) (v := .tuple #[sv ([] : List UInt8), .bool (false)]) rfl ?_
    have hN : ¬ bodyOk s := fun z => by
      obtain ⟨z1, z2, z3, z4, z5⟩ := z
      first | omega | (rw [← e5] at z3; omega) | (have y_ := (z5 k (by omega)).1 (by omega); omega) | (have y_ := (z5 k (by omega)).2.1 (by omega) (by omega); omega) | (have y_ := (z5 k (by omega)).2.2 (by omega) (by omega); omega)
    exact fun h_ H_ => K _ _ ⟨by rw [bodyB, if_neg hN, decide_eq_false hN], H_.kept⟩
  · refine rl_det (met_some rfl rfl (decide_eq_false cc1)) (fun h_ H_ => exd_move (v := sv s) rfl) (tm' := _::_::_::_::_::_::_::_::_::_::_::_::_::_) rfl ?_
    refine rl_det (met_some rfl rfl (decide_eq_false cc1)) (fun h_ H_ => exd_lenS (l := s) Tryd.underlying9 rfl) rfl ?_
    refine rl_det (met_some rfl rfl (decide_eq_false cc1)) (fun h_ H_ => exd_gtr rfl rfl) rfl ?_
    refine rl_det (met_none rfl) (fun h_ H_ => exd_pick_f rfl (decide_eq_false cc1) (v := .bool (decide (1400 < ((s.length : Nat) : Int)))) rfl) (tm' := _::_::_::_::_::_::_::_::_::_::_::_::_::_::_::_::_) rfl ?_
    refine rl_det (met_none rfl) (fun h_ H_ => exd_move (v := .bool (decide (1400 < ((s.length : Nat) : Int)))) rfl) rfl ?_
    by_cases cc2 : 1400 < ((s.length : Nat) : Int)
    · refine rl_pass (met_not rfl rfl (decide_eq_true cc2)) rfl ?_
      refine rl_pass (met_not rfl rfl (decide_eq_true cc2)) (tm' := _::_::_::_::_::_::_::_::_::_::_::_::_::_::_::_::_::_::_::_) rfl ?_
      refine rl_pass (met_not rfl rfl (decide_eq_true cc2)) rfl ?_
      refine rl_pass (met_not rfl rfl (decide_eq_true cc2)) rfl ?_
      refine rl_det (met_none rfl) (fun h_ H_ => exd_pick_t rfl (decide_eq_true cc2) (v := .bool (true)) rfl) (tm' := _::_::_::_::_::_::_::_::_::_::_::_::_::_::_::_::_::_::_::_::_::_::_) rfl ?_
      refine rl_det (met_none rfl) (fun h_ H_ => exd_move (v := .bool (true)) rfl) rfl ?_
      refine rl_pass (met_not rfl rfl rfl) rfl ?_
      refine rl_pass (met_not rfl rfl rfl) (tm' := _::_::_::_::_::_::_::_::_::_::_::_::_::_::_::_::_::_::_::_::_::_::_::_::_::_) rfl ?_
      refine rl_pass (met_not rfl rfl rfl) rfl ?_
      refine rl_det (met_none rfl) (fun h_ H_ => exd_pick_t rfl rfl (v := .bool (true)) rfl) rfl ?_
      refine rl_end ?_
      refine fl_then rfl rfl ?_
      refine fl_seq ?_
      refine rl_start ?_
      refine rl_det (met_none rfl) (fun h_ H_ => exd_assign (v := sv ([] : List UInt8)) rfl) (tm' := _::_::_::_) rfl ?_
      refine rl_det (met_none rfl) (fun h_ H_ => exd_assign (v := .bool (false)) rfl) rfl ?_
      refine rl_end ?_
      refine fl_ret Tryd.func36 rfl (vs := [sv ([] : List UInt8), .bool (false)]) (fun h_ H_ => ⟨sv ([] : List UInt8), _, rfl, rfl, ⟨.bool (false), _, rfl, rfl, rfl⟩⟩) (v := .tuple #[sv ([] : List UInt8), .bool (false)]) rfl ?_
      have hN : ¬ bodyOk s := fun z => by
        obtain ⟨z1, z2, z3, z4, z5⟩ := z
        first | omega | (rw [← e5] at z3; omega) | (have y_ := (z5 k (by omega)).1 (by omega); omega) | (have y_ := (z5 k (by omega)).2.1 (by omega) (by omega); omega) | (have y_ := (z5 k (by omega)).2.2 (by omega) (by omega); omega)
      exact fun h_ H_ => K _ _ ⟨by rw [bodyB, if_neg hN, decide_eq_false hN], H_.kept⟩
    · refine rl_det (met_some rfl rfl (decide_eq_false cc2)) (fun h_ H_ => exd_move (v := sv s) rfl) rfl ?_
      refine rl_det (met_some rfl rfl (decide_eq_false cc2)) (fun h_ H_ => exd_move (v := .int .i64 (((s.length : Nat) : Int) - 5)) rfl) (tm' := _::_::_::_::_::_::_::_::_::_::_::_::_::_::_::_::_::_::_::_) rfl ?_
      refine rl_det (met_some rfl rfl (decide_eq_false cc2)) (fun h_ H_ => exd_indexS (l := s) (i := ((s.length : Nat) : Int) - 5) Tryd.underlying9 rfl rfl (by omega) (by omega)) rfl ?_
      refine rl_det (met_some rfl rfl (decide_eq_false cc2)) (fun h_ H_ => exd_neq rfl rfl) rfl ?_
      refine rl_det (met_none rfl) (fun h_ H_ => exd_pick_f rfl (decide_eq_false cc2) (v := .bool (decide ((((s.getD (((s.length : Nat) : Int) - 5).toNat 0).toNat : Nat) : Int) ≠ 61))) rfl) (tm' := _::_::_::_::_::_::_::_::_::_::_::_::_::_::_::_::_::_::_::_::_::_::_) rfl ?_
      refine rl_det (met_none rfl) (fun h_ H_ => exd_move (v := .bool (decide ((((s.getD (((s.length : Nat) : Int) - 5).toNat 0).toNat : Nat) : Int) ≠ 61))) rfl) rfl ?_
      by_cases cc3 : (((s.getD (((s.length : Nat) : Int) - 5).toNat 0).toNat : Nat) : Int) ≠ 61
      · refine rl_pass (met_not rfl rfl (decide_eq_true cc3)) rfl ?_
        refine rl_pass (met_not rfl rfl (decide_eq_true cc3)) (tm' := _::_::_::_::_::_::_::_::_::_::_::_::_::_::_::_::_::_::_::_::_::_::_::_::_::_) rfl ?_
        refine rl_pass (met_not rfl rfl (decide_eq_true cc3)) rfl ?_
        refine rl_det (met_none rfl) (fun h_ H_ => exd_pick_t rfl (decide_eq_true cc3) (v := .bool (true)) rfl) rfl ?_
        refine rl_end ?_
        refine fl_then rfl rfl ?_
        refine fl_seq ?_
        refine rl_start ?_
        refine rl_det (met_none rfl) (fun h_ H_ => exd_assign (v := sv ([] : List UInt8)) rfl) (tm' := _::_::_::_) rfl ?_
        refine rl_det (met_none rfl) (fun h_ H_ => exd_assign (v := .bool (false)) rfl) rfl ?_
        refine rl_end ?_
        refine fl_ret Tryd.func36 rfl (vs := [sv ([] : List UInt8), .bool (false)]) (fun h_ H_ => ⟨sv ([] : List UInt8), _, rfl, rfl, ⟨.bool (false), _, rfl, rfl, rfl⟩⟩) (v := .tuple #[sv ([] : List UInt8), .bool (false)]) rfl ?_
        have hN : ¬ bodyOk s := fun z => by
          obtain ⟨z1, z2, z3, z4, z5⟩ := z
          first | omega | (rw [← e5] at z3; omega) | (have y_ := (z5 k (by omega)).1 (by omega); omega) | (have y_ := (z5 k (by omega)).2.1 (by omega) (by omega); omega) | (have y_ := (z5 k (by omega)).2.2 (by omega) (by omega); omega)
        exact fun h_ H_ => K _ _ ⟨by rw [bodyB, if_neg hN, decide_eq_false hN], H_.kept⟩
      · refine rl_det (met_some rfl rfl (decide_eq_false cc3)) (fun h_ H_ => exd_move (v := .int .i64 (((s.length : Nat) : Int) - 5)) rfl) rfl ?_
        refine rl_det (met_some rfl rfl (decide_eq_false cc3)) (fun h_ H_ => exd_rem rfl rfl (by decide) (n := (((s.length : Nat) : Int) - 5) % 3) (Int.tmod_eq_emod_of_nonneg (by omega))) (tm' := _::_::_::_::_::_::_::_::_::_::_::_::_::_::_::_::_::_::_::_::_::_::_::_::_::_) rfl ?_
        refine rl_det (met_some rfl rfl (decide_eq_false cc3)) (fun h_ H_ => exd_eql rfl rfl) rfl ?_
        refine rl_det (met_none rfl) (fun h_ H_ => exd_pick_f rfl (decide_eq_false cc3) (v := .bool (decide ((((s.length : Nat) : Int) - 5) % 3 = 1))) rfl) rfl ?_
        refine rl_end ?_
        by_cases cc4 : (((s.length : Nat) : Int) - 5) % 3 = 1
        · refine fl_then rfl (decide_eq_true cc4) ?_
          refine fl_seq ?_
          refine rl_start ?_
          refine rl_det (met_none rfl) (fun h_ H_ => exd_assign (v := sv ([] : List UInt8)) rfl) (tm' := _::_::_::_) rfl ?_
          refine rl_det (met_none rfl) (fun h_ H_ => exd_assign (v := .bool (false)) rfl) rfl ?_
          refine rl_end ?_
          refine fl_ret Tryd.func36 rfl (vs := [sv ([] : List UInt8), .bool (false)]) (fun h_ H_ => ⟨sv ([] : List UInt8), _, rfl, rfl, ⟨.bool (false), _, rfl, rfl, rfl⟩⟩) (v := .tuple #[sv ([] : List UInt8), .bool (false)]) rfl ?_
          have hN : ¬ bodyOk s := fun z => by
            obtain ⟨z1, z2, z3, z4, z5⟩ := z
            first | omega | (rw [← e5] at z3; omega) | (have y_ := (z5 k (by omega)).1 (by omega); omega) | (have y_ := (z5 k (by omega)).2.1 (by omega) (by omega); omega) | (have y_ := (z5 k (by omega)).2.2 (by omega) (by omega); omega)
          exact fun h_ H_ => K _ _ ⟨by rw [bodyB, if_neg hN, decide_eq_false hN], H_.kept⟩
        · refine fl_else rfl (decide_eq_false cc4) ?_
          refine fl_skip ?_
          refine fl_seq ?_
          refine fl_seq ?_
          refine rl_start ?_
          refine rl_det (met_none rfl) (fun h_ H_ => exd_assign (v := .int .i64 0) rfl) rfl ?_
          refine rl_end ?_
          refine fl_block ?_
          refine fl_loop (sI := by intro _ _; infer_instance) (m₀ := s.length - 0) (fun m_ tm_ h_ => ∃ (k : Nat), m_ = s.length - k ∧ (∃ y5 : Nat → Value, tm_ = [sv s, undef, (y5 2), (y5 3), .int .i64 (((s.length : Nat) : Int) - 5), .int .i64 (((k : Nat) : Int)), sv s, .int .i64 (((s.length : Nat) : Int)), .int .i64 (((s.length : Nat) : Int) - 5), .int .i64 (((s.length : Nat) : Int) - 5), .bool (decide (((s.length : Nat) : Int) - 5 < 0)), .bool (decide (((s.length : Nat) : Int) - 5 < 0)), sv s, .int .i64 (((s.length : Nat) : Int)), .bool (decide (1400 < ((s.length : Nat) : Int))), .bool (decide (1400 < ((s.length : Nat) : Int))), .bool (decide (1400 < ((s.length : Nat) : Int))), sv s, .int .i64 (((s.length : Nat) : Int) - 5), .int .u8 ((((s.getD (((s.length : Nat) : Int) - 5).toNat 0).toNat : Nat) : Int)), .bool (decide ((((s.getD (((s.length : Nat) : Int) - 5).toNat 0).toNat : Nat) : Int) ≠ 61)), .bool (decide ((((s.getD (((s.length : Nat) : Int) - 5).toNat 0).toNat : Nat) : Int) ≠ 61)), .bool (decide ((((s.getD (((s.length : Nat) : Int) - 5).toNat 0).toNat : Nat) : Int) ≠ 61)), .int .i64 (((s.length : Nat) : Int) - 5), .int .i64 ((((s.length : Nat) : Int) - 5) % 3), .bool (decide ((((s.length : Nat) : Int) - 5) % 3 = 1)), .bool (decide ((((s.length : Nat) : Int) - 5) % 3 = 1)), (y5 27), (y5 28), (y5 29), (y5 30), (y5 31), (y5 32), (y5 33), (y5 34), (y5 35), (y5 36), (y5 37), (y5 38), (y5 39), (y5 40), (y5 41), (y5 42), (y5 43), (y5 44), (y5 45), (y5 46), (y5 47), (y5 48), (y5 49), (y5 50), (y5 51), (y5 52), (y5 53), (y5 54), (y5 55), (y5 56), (y5 57), (y5 58), (y5 59), (y5 60), (y5 61), (y5 62), (y5 63), (y5 64), (y5 65), (y5 66), (y5 67), (y5 68), (y5 69), (y5 70), (y5 71), (y5 72), (y5 73), (y5 74), (y5 75), (y5 76), (y5 77), (y5 78), (y5 79), undef, undef, undef]) ∧ (k ≤ s.length ∧ okUp s (s.length - 5) k) ∧ St h [] (fun _ => none) h_ ([])) (fun h_ H_ => ⟨0, rfl, (y_of rfl), ⟨Nat.zero_le _, fun i hi => absurd hi (Nat.not_lt_zero i)⟩, H_⟩) ?_
          intro m_ tm_ IH6
          refine rs_ex fun k => rs_and fun hm_ => rs_and fun ht_ => rs_and fun hq => ?_
          subst hm_; obtain ⟨y5, ht_⟩ := ht_; subst ht_
          obtain ⟨hk, hs⟩ := hq
          refine fl_seq ?_
          refine fl_seq ?_
          refine rl_start ?_
          refine rl_det (met_none rfl) (fun h_ H_ => exd_move (v := .int .i64 (((k : Nat) : Int))) rfl) (tm' := _::_::_::_::_::_::_::_::_::_::_::_::_::_::_::_::_::_::_::_::_::_::_::_::_::_::_::_::_) rfl ?_
          refine rl_det (met_none rfl) (fun h_ H_ => exd_move (v := sv s) rfl) rfl ?_
          refine rl_det (met_none rfl) (fun h_ H_ => exd_lenS (l := s) Tryd.underlying9 rfl) rfl ?_
          refine rl_det (met_none rfl) (fun h_ H_ => exd_lss rfl rfl) (tm' := _::_::_::_::_::_::_::_::_::_::_::_::_::_::_::_::_::_::_::_::_::_::_::_::_::_::_::_::_::_::_::_) rfl ?_
          refine rl_end ?_
          by_cases cc7 : ((k : Nat) : Int) < ((s.length : Nat) : Int)
          · refine fl_then rfl (decide_eq_true cc7) ?_
            refine fl_skip ?_
            refine fl_seq ?_
            refine fl_block ?_
            refine fl_block ?_
            refine fl_seq ?_
            refine rl_start ?_
            refine rl_det (met_none rfl) (fun h_ H_ => exd_move (v := .int .i64 (((k : Nat) : Int))) rfl) rfl ?_
            refine rl_det (met_none rfl) (fun h_ H_ => exd_move (v := .int .i64 (((s.length : Nat) : Int) - 5)) rfl) rfl ?_
            refine rl_det (met_none rfl) (fun h_ H_ => exd_gtr rfl rfl) (tm' := _::_::_::_::_::_::_::_::_::_::_::_::_::_::_::_::_::_::_::_::_::_::_::_::_::_::_::_::_::_::_::_::_::_::_::_::_::_) rfl ?_
            refine rl_det (met_none rfl) (fun h_ H_ => exd_assign (v := .bool (decide (((s.length : Nat) : Int) - 5 < ((k : Nat) : Int)))) rfl) rfl ?_
            refine rl_end ?_
            by_cases cc8 : ((s.length : Nat) : Int) - 5 < ((k : Nat) : Int)
            · refine fl_then rfl (decide_eq_true cc8) ?_
              refine fl_seq ?_
              refine rl_start ?_
              refine rl_det (met_none rfl) (fun h_ H_ => exd_move (v := sv s) rfl) rfl ?_
              refine rl_det (met_none rfl) (fun h_ H_ => exd_move (v := .int .i64 (((k : Nat) : Int))) rfl) (tm' := _::_::_::_::_::_::_::_::_::_::_::_::_::_::_::_::_::_::_::_::_::_::_::_::_::_::_::_::_::_::_::_::_::_::_::_::_::_::_::_) rfl ?_
              refine rl_det (met_none rfl) (fun h_ H_ => exd_indexSN (l := s) (i := k) Tryd.underlying9 rfl rfl (by omega)) rfl ?_
              refine rl_det (met_none rfl) (fun h_ H_ => exd_lss rfl rfl) rfl ?_
              refine rl_det (met_none rfl) (fun h_ H_ => exd_move (v := .bool (decide ((((s.getD k 0).toNat : Nat) : Int) < 48))) rfl) (tm' := _::_::_::_::_::_::_::_::_::_::_::_::_::_::_::_::_::_::_::_::_::_::_::_::_::_::_::_::_::_::_::_::_::_::_::_::_::_::_::_::_::_::_) rfl ?_
              by_cases cc9 : (((s.getD k 0).toNat : Nat) : Int) < 48
              · refine rl_pass (met_not rfl rfl (decide_eq_true cc9)) rfl ?_
                refine rl_pass (met_not rfl rfl (decide_eq_true cc9)) rfl ?_
                refine rl_pass (met_not rfl rfl (decide_eq_true cc9)) (tm' := _::_::_::_::_::_::_::_::_::_::_::_::_::_::_::_::_::_::_::_::_::_::_::_::_::_::_::_::_::_::_::_::_::_::_::_::_::_::_::_::_::_::_::_::_::_) rfl ?_
                refine rl_pass (met_not rfl rfl (decide_eq_true cc9)) rfl ?_
                refine rl_det (met_none rfl) (fun h_ H_ => exd_pick_t rfl (decide_eq_true cc9) (v := .bool (true)) rfl) rfl ?_
                refine rl_end ?_
                refine fl_then rfl rfl ?_
                refine fl_seq ?_
                refine rl_start ?_
                refine rl_det (met_none rfl) (fun h_ H_ => exd_assign (v := sv ([] : List UInt8)) rfl) (tm' := _::_::_::_) rfl ?_
                refine rl_det (met_none rfl) (fun h_ H_ => exd_assign (v := .bool (false)) rfl) rfl ?_
                refine rl_end ?_
                refine fl_ret Tryd.func36 rfl (vs := [sv ([] : List UInt8), .bool (false)]) (fun h_ H_ => ⟨sv ([] : List UInt8), _, rfl, rfl, ⟨.bool (false), _, rfl, rfl, rfl⟩⟩) (v := .tuple #[sv ([] : List UInt8), .bool (false)]) rfl ?_
                have hN : ¬ bodyOk s := fun z => by
                  obtain ⟨z1, z2, z3, z4, z5⟩ := z
                  first | omega | (rw [← e5] at z3; omega) | (have y_ := (z5 k (by omega)).1 (by omega); omega) | (have y_ := (z5 k (by omega)).2.1 (by omega) (by omega); omega) | (have y_ := (z5 k (by omega)).2.2 (by omega) (by omega); omega)
                exact fun h_ H_ => K _ _ ⟨by rw [bodyB, if_neg hN, decide_eq_false hN], H_.kept⟩
              · refine rl_det (met_some rfl rfl (decide_eq_false cc9)) (fun h_ H_ => exd_move (v := sv s) rfl) rfl ?_
                refine rl_det (met_some rfl rfl (decide_eq_false cc9)) (fun h_ H_ => exd_move (v := .int .i64 (((k : Nat) : Int))) rfl) (tm' := _::_::_::_::_::_::_::_::_::_::_::_::_::_::_::_::_::_::_::_::_::_::_::_::_::_::_::_::_::_::_::_::_::_::_::_::_::_::_::_::_::_::_::_::_) rfl ?_
                refine rl_det (met_some rfl rfl (decide_eq_false cc9)) (fun h_ H_ => exd_indexSN (l := s) (i := k) Tryd.underlying9 rfl rfl (by omega)) rfl ?_
                refine rl_det (met_some rfl rfl (decide_eq_false cc9)) (fun h_ H_ => exd_gtr rfl rfl) rfl ?_
                refine rl_det (met_none rfl) (fun h_ H_ => exd_pick_f rfl (decide_eq_false cc9) (v := .bool (decide (57 < (((s.getD k 0).toNat : Nat) : Int)))) rfl) (tm' := _::_::_::_::_::_::_::_::_::_::_::_::_::_::_::_::_::_::_::_::_::_::_::_::_::_::_::_::_::_::_::_::_::_::_::_::_::_::_::_::_::_::_::_::_::_::_::_) rfl ?_
                refine rl_end ?_
                by_cases cc10 : 57 < (((s.getD k 0).toNat : Nat) : Int)
                · refine fl_then rfl (decide_eq_true cc10) ?_
                  refine fl_seq ?_
                  refine rl_start ?_
                  refine rl_det (met_none rfl) (fun h_ H_ => exd_assign (v := sv ([] : List UInt8)) rfl) rfl ?_
                  refine rl_det (met_none rfl) (fun h_ H_ => exd_assign (v := .bool (false)) rfl) rfl ?_
                  refine rl_end ?_
                  refine fl_ret Tryd.func36 rfl (vs := [sv ([] : List UInt8), .bool (false)]) (fun h_ H_ => ⟨sv ([] : List UInt8), _, rfl, rfl, ⟨.bool (false), _, rfl, rfl, rfl⟩⟩) (v := .tuple #[sv ([] : List UInt8), .bool (false)]) rfl ?_
                  have hN : ¬ bodyOk s := fun z => by
                    obtain ⟨z1, z2, z3, z4, z5⟩ := z
                    first | omega | (rw [← e5] at z3; omega) | (have y_ := (z5 k (by omega)).1 (by omega); omega) | (have y_ := (z5 k (by omega)).2.1 (by omega) (by omega); omega) | (have y_ := (z5 k (by omega)).2.2 (by omega) (by omega); omega)
                  exact fun h_ H_ => K _ _ ⟨by rw [bodyB, if_neg hN, decide_eq_false hN], H_.kept⟩
                · refine fl_else rfl (decide_eq_false cc10) ?_
                  refine fl_skip ?_
                  refine fl_inBlock ?_
                  refine fl_inBlock ?_
                  refine rl_start ?_
                  refine rl_det (met_none rfl) (fun h_ H_ => exd_move (v := .int .i64 (((k : Nat) : Int))) rfl) (tm' := _::_::_::_::_::_::_::_::_::_::_::_::_::_::_::_::_::_::_::_::_::_::_::_::_::_::_::_::_::_::_::_::_) rfl ?_
                  refine rl_det (met_none rfl) (fun h_ H_ => exd_add rfl rfl (n := ((k + 1 : Nat) : Int)) (wr (by omega))) rfl ?_
                  refine rl_det (met_none rfl) (fun h_ H_ => exd_assign (v := .int .i64 (((k + 1 : Nat) : Int))) rfl) rfl ?_
                  refine rl_end ?_
                  exact fun h_ H_ => IH6 _ _ (by omega) h_ ⟨k + 1, rfl, (y_of rfl), ⟨by omega, upto_step hs ⟨fun h1_ => by omega, fun h1_ h2_ => by omega, fun h1_ h2_ => by omega⟩⟩, H_⟩
            · refine fl_else rfl (decide_eq_false cc8) ?_
              refine fl_seq ?_
              refine rl_start ?_
              refine rl_det (met_none rfl) (fun h_ H_ => exd_move (v := .int .i64 (((k : Nat) : Int))) rfl) (tm' := _::_::_::_::_::_::_::_::_::_::_::_::_::_::_::_::_::_::_::_::_::_::_::_::_::_::_::_::_::_::_::_::_::_::_::_::_::_::_::_::_::_::_::_::_::_::_::_::_::_) rfl ?_
              refine rl_det (met_none rfl) (fun h_ H_ => exd_move (v := .int .i64 (((s.length : Nat) : Int) - 5)) rfl) rfl ?_
              refine rl_det (met_none rfl) (fun h_ H_ => exd_lss rfl rfl) rfl ?_
              refine rl_det (met_none rfl) (fun h_ H_ => exd_move (v := .bool (decide (((k : Nat) : Int) < ((s.length : Nat) : Int) - 5))) rfl) (tm' := _::_::_::_::_::_::_::_::_::_::_::_::_::_::_::_::_::_::_::_::_::_::_::_::_::_::_::_::_::_::_::_::_::_::_::_::_::_::_::_::_::_::_::_::_::_::_::_::_::_::_::_::_) rfl ?_
              by_cases cc11 : ((k : Nat) : Int) < ((s.length : Nat) : Int) - 5
              · refine rl_det (met_some rfl rfl (decide_eq_true cc11)) (fun h_ H_ => exd_move (v := .int .i64 (((k : Nat) : Int))) rfl) rfl ?_
                refine rl_det (met_some rfl rfl (decide_eq_true cc11)) (fun h_ H_ => exd_rem rfl rfl (by decide) (n := ((k : Nat) : Int) % 3) (Int.tmod_eq_emod_of_nonneg (by omega))) rfl ?_
                refine rl_det (met_some rfl rfl (decide_eq_true cc11)) (fun h_ H_ => exd_lss rfl rfl) (tm' := _::_::_::_::_::_::_::_::_::_::_::_::_::_::_::_::_::_::_::_::_::_::_::_::_::_::_::_::_::_::_::_::_::_::_::_::_::_::_::_::_::_::_::_::_::_::_::_::_::_::_::_::_::_::_::_) rfl ?_
                refine rl_det (met_none rfl) (fun h_ H_ => exd_pick_t rfl (decide_eq_true cc11) (v := .bool (decide (((k : Nat) : Int) % 3 < 2))) rfl) rfl ?_
                refine rl_det (met_none rfl) (fun h_ H_ => exd_assign (v := .bool (decide (((k : Nat) : Int) % 3 < 2))) rfl) rfl ?_
                refine rl_end ?_
                by_cases cc12 : ((k : Nat) : Int) % 3 < 2
                · refine fl_then rfl (decide_eq_true cc12) ?_
                  refine fl_seq ?_
                  refine rl_start ?_
                  refine rl_det (met_none rfl) (fun h_ H_ => exd_move (v := sv s) rfl) (tm' := [_,_,_,_,_,_,_,_,_,_,_,_,_,_,_,_,_,_,_,_,_,_,_,_,_,_,_,_,_,_,_,_,_,_,_,_,_,_,_,_,_,_,_,_,_,_,_,_,_,_,_,_,_,_,_,_,_,_,_,_,_,_,_,_,_,_,_,_,_,_,_,_,_,_,_,_,_,_,_,_,_,_,_]) rfl ?_
                  refine rl_det (met_none rfl) (fun h_ H_ => exd_move (v := .int .i64 (((k : Nat) : Int))) rfl) rfl ?_
                  refine rl_det (met_none rfl) (fun h_ H_ => exd_indexSN (l := s) (i := k) Tryd.underlying9 rfl rfl (by omega)) rfl ?_
                  refine rl_det (met_none rfl) (fun h_ H_ => exd_lss rfl rfl) (tm' := [_,_,_,_,_,_,_,_,_,_,_,_,_,_,_,_,_,_,_,_,_,_,_,_,_,_,_,_,_,_,_,_,_,_,_,_,_,_,_,_,_,_,_,_,_,_,_,_,_,_,_,_,_,_,_,_,_,_,_,_,_,_,_,_,_,_,_,_,_,_,_,_,_,_,_,_,_,_,_,_,_,_,_]) rfl ?_
                  refine rl_det (met_none rfl) (fun h_ H_ => exd_move (v := .bool (decide ((((s.getD k 0).toNat : Nat) : Int) < 65))) rfl) rfl ?_
                  by_cases cc13 : (((s.getD k 0).toNat : Nat) : Int) < 65
                  · refine rl_pass (met_not rfl rfl (decide_eq_true cc13)) rfl ?_
                    refine rl_pass (met_not rfl rfl (decide_eq_true cc13)) (tm' := [_,_,_,_,_,_,_,_,_,_,_,_,_,_,_,_,_,_,_,_,_,_,_,_,_,_,_,_,_,_,_,_,_,_,_,_,_,_,_,_,_,_,_,_,_,_,_,_,_,_,_,_,_,_,_,_,_,_,_,_,_,_,_,_,_,_,_,_,_,_,_,_,_,_,_,_,_,_,_,_,_,_,_]) rfl ?_
                    refine rl_pass (met_not rfl rfl (decide_eq_true cc13)) rfl ?_
                    refine rl_pass (met_not rfl rfl (decide_eq_true cc13)) rfl ?_
                    refine rl_det (met_none rfl) (fun h_ H_ => exd_pick_t rfl (decide_eq_true cc13) (v := .bool (true)) rfl) (tm' := [_,_,_,_,_,_,_,_,_,_,_,_,_,_,_,_,_,_,_,_,_,_,_,_,_,_,_,_,_,_,_,_,_,_,_,_,_,_,_,_,_,_,_,_,_,_,_,_,_,_,_,_,_,_,_,_,_,_,_,_,_,_,_,_,_,_,_,_,_,_,_,_,_,_,_,_,_,_,_,_,_,_,_]) rfl ?_
                    refine rl_end ?_
                    refine fl_then rfl rfl ?_
                    refine fl_seq ?_
                    refine rl_start ?_
                    refine rl_det (met_none rfl) (fun h_ H_ => exd_assign (v := sv ([] : List UInt8)) rfl) rfl ?_
                    refine rl_det (met_none rfl) (fun h_ H_ => exd_assign (v := .bool (false)) rfl) rfl ?_
                    refine rl_end ?_
                    refine fl_ret Tryd.func36 rfl (vs := [sv ([] : List UInt8), .bool (false)]) (fun h_ H_ => ⟨sv ([] : List UInt8), _, rfl, rfl, ⟨.bool (false), _, rfl, rfl, rfl⟩⟩) (v := .tuple #[sv ([] : List UInt8), .bool (false)]) rfl ?_
                    have hN : ¬ bodyOk s := fun z => by
                      obtain ⟨z1, z2, z3, z4, z5⟩ := z
                      first | omega | (rw [← e5] at z3; omega) | (have y_ := (z5 k (by omega)).1 (by omega); omega) | (have y_ := (z5 k (by omega)).2.1 (by omega) (by omega); omega) | (have y_ := (z5 k (by omega)).2.2 (by omega) (by omega); omega)
                    exact fun h_ H_ => K _ _ ⟨by rw [bodyB, if_neg hN, decide_eq_false hN], H_.kept⟩
                  · refine rl_det (met_some rfl rfl (decide_eq_false cc13)) (fun h_ H_ => exd_move (v := sv s) rfl) (tm' := [_,_,_,_,_,_,_,_,_,_,_,_,_,_,_,_,_,_,_,_,_,_,_,_,_,_,_,_,_,_,_,_,_,_,_,_,_,_,_,_,_,_,_,_,_,_,_,_,_,_,_,_,_,_,_,_,_,_,_,_,_,_,_,_,_,_,_,_,_,_,_,_,_,_,_,_,_,_,_,_,_,_,_]) rfl ?_
                    refine rl_det (met_some rfl rfl (decide_eq_false cc13)) (fun h_ H_ => exd_move (v := .int .i64 (((k : Nat) : Int))) rfl) rfl ?_
                    refine rl_det (met_some rfl rfl (decide_eq_false cc13)) (fun h_ H_ => exd_indexSN (l := s) (i := k) Tryd.underlying9 rfl rfl (by omega)) rfl ?_
                    refine rl_det (met_some rfl rfl (decide_eq_false cc13)) (fun h_ H_ => exd_gtr rfl rfl) (tm' := [_,_,_,_,_,_,_,_,_,_,_,_,_,_,_,_,_,_,_,_,_,_,_,_,_,_,_,_,_,_,_,_,_,_,_,_,_,_,_,_,_,_,_,_,_,_,_,_,_,_,_,_,_,_,_,_,_,_,_,_,_,_,_,_,_,_,_,_,_,_,_,_,_,_,_,_,_,_,_,_,_,_,_]) rfl ?_
                    refine rl_det (met_none rfl) (fun h_ H_ => exd_pick_f rfl (decide_eq_false cc13) (v := .bool (decide (90 < (((s.getD k 0).toNat : Nat) : Int)))) rfl) rfl ?_
                    refine rl_end ?_
                    by_cases cc14 : 90 < (((s.getD k 0).toNat : Nat) : Int)
                    · refine fl_then rfl (decide_eq_true cc14) ?_
                      refine fl_seq ?_
                      refine rl_start ?_
                      refine rl_det (met_none rfl) (fun h_ H_ => exd_assign (v := sv ([] : List UInt8)) rfl) rfl ?_
                      refine rl_det (met_none rfl) (fun h_ H_ => exd_assign (v := .bool (false)) rfl) (tm' := _::_::_::_::_) rfl ?_
                      refine rl_end ?_
                      refine fl_ret Tryd.func36 rfl (vs := [sv ([] : List UInt8), .bool (false)]) (fun h_ H_ => ⟨sv ([] : List UInt8), _, rfl, rfl, ⟨.bool (false), _, rfl, rfl, rfl⟩⟩) (v := .tuple #[sv ([] : List UInt8), .bool (false)]) rfl ?_
                      have hN : ¬ bodyOk s := fun z => by
                        obtain ⟨z1, z2, z3, z4, z5⟩ := z
                        first | omega | (rw [← e5] at z3; omega) | (have y_ := (z5 k (by omega)).1 (by omega); omega) | (have y_ := (z5 k (by omega)).2.1 (by omega) (by omega); omega) | (have y_ := (z5 k (by omega)).2.2 (by omega) (by omega); omega)
                      exact fun h_ H_ => K _ _ ⟨by rw [bodyB, if_neg hN, decide_eq_false hN], H_.kept⟩
                    · refine fl_else rfl (decide_eq_false cc14) ?_
                      refine fl_skip ?_
                      refine fl_inBlock ?_
                      refine fl_inBlock ?_
                      refine rl_start ?_
                      refine rl_det (met_none rfl) (fun h_ H_ => exd_move (v := .int .i64 (((k : Nat) : Int))) rfl) rfl ?_
                      refine rl_det (met_none rfl) (fun h_ H_ => exd_add rfl rfl (n := ((k + 1 : Nat) : Int)) (wr (by omega))) rfl ?_
                      refine rl_det (met_none rfl) (fun h_ H_ => exd_assign (v := .int .i64 (((k + 1 : Nat) : Int))) rfl) (tm' := _::_::_::_::_::_::_) rfl ?_
                      refine rl_end ?_
                      exact fun h_ H_ => IH6 _ _ (by omega) h_ ⟨k + 1, rfl, (y_of rfl), ⟨by omega, upto_step hs ⟨fun h1_ => by omega, fun h1_ h2_ => by omega, fun h1_ h2_ => by omega⟩⟩, H_⟩
                · refine fl_else rfl (decide_eq_false cc12) ?_
                  refine fl_seq ?_
                  refine rl_start ?_
                  refine rl_det (met_none rfl) (fun h_ H_ => exd_move (v := .int .i64 (((k : Nat) : Int))) rfl) rfl ?_
                  refine rl_det (met_none rfl) (fun h_ H_ => exd_move (v := .int .i64 (((s.length : Nat) : Int) - 5)) rfl) rfl ?_
                  refine rl_det (met_none rfl) (fun h_ H_ => exd_lss rfl rfl) (tm' := [_,_,_,_,_,_,_,_,_,_,_,_,_,_,_,_,_,_,_,_,_,_,_,_,_,_,_,_,_,_,_,_,_,_,_,_,_,_,_,_,_,_,_,_,_,_,_,_,_,_,_,_,_,_,_,_,_,_,_,_,_,_,_,_,_,_,_,_,_,_,_,_,_,_,_,_,_,_,_,_,_,_,_]) rfl ?_
                  refine rl_det (met_none rfl) (fun h_ H_ => exd_assign (v := .bool (decide (((k : Nat) : Int) < ((s.length : Nat) : Int) - 5))) rfl) rfl ?_
                  refine rl_end ?_
                  refine fl_then rfl (decide_eq_true cc11) ?_
                  refine fl_seq ?_
                  refine rl_start ?_
                  refine rl_det (met_none rfl) (fun h_ H_ => exd_move (v := sv s) rfl) rfl ?_
                  refine rl_det (met_none rfl) (fun h_ H_ => exd_move (v := .int .i64 (((k : Nat) : Int))) rfl) (tm' := [_,_,_,_,_,_,_,_,_,_,_,_,_,_,_,_,_,_,_,_,_,_,_,_,_,_,_,_,_,_,_,_,_,_,_,_,_,_,_,_,_,_,_,_,_,_,_,_,_,_,_,_,_,_,_,_,_,_,_,_,_,_,_,_,_,_,_,_,_,_,_,_,_,_,_,_,_,_,_,_,_,_,_]) rfl ?_
                  refine rl_det (met_none rfl) (fun h_ H_ => exd_indexSN (l := s) (i := k) Tryd.underlying9 rfl rfl (by omega)) rfl ?_
                  refine rl_det (met_none rfl) (fun h_ H_ => exd_lss rfl rfl) rfl ?_
                  refine rl_det (met_none rfl) (fun h_ H_ => exd_move (v := .bool (decide ((((s.getD k 0).toNat : Nat) : Int) < 32))) rfl) (tm' := [_,_,_,_,_,_,_,_,_,_,_,_,_,_,_,_,_,_,_,_,_,_,_,_,_,_,_,_,_,_,_,_,_,_,_,_,_,_,_,_,_,_,_,_,_,_,_,_,_,_,_,_,_,_,_,_,_,_,_,_,_,_,_,_,_,_,_,_,_,_,_,_,_,_,_,_,_,_,_,_,_,_,_]) rfl ?_
                  by_cases cc15 : (((s.getD k 0).toNat : Nat) : Int) < 32
                  · refine rl_pass (met_not rfl rfl (decide_eq_true cc15)) rfl ?_
                    refine rl_pass (met_not rfl rfl (decide_eq_true cc15)) rfl ?_
                    refine rl_pass (met_not rfl rfl (decide_eq_true cc15)) (tm' := [_,_,_,_,_,_,_,_,_,_,_,_,_,_,_,_,_,_,_,_,_,_,_,_,_,_,_,_,_,_,_,_,_,_,_,_,_,_,_,_,_,_,_,_,_,_,_,_,_,_,_,_,_,_,_,_,_,_,_,_,_,_,_,_,_,_,_,_,_,_,_,_,_,_,_,_,_,_,_,_,_,_,_]) rfl ?_
                    refine rl_pass (met_not rfl rfl (decide_eq_true cc15)) rfl ?_
                    refine rl_det (met_none rfl) (fun h_ H_ => exd_pick_t rfl (decide_eq_true cc15) (v := .bool (true)) rfl) rfl ?_
                    refine rl_end ?_
                    refine fl_then rfl rfl ?_
                    refine fl_seq ?_
                    refine rl_start ?_
                    refine rl_det (met_none rfl) (fun h_ H_ => exd_assign (v := sv ([] : List UInt8)) rfl) (tm' := _::_::_::_) rfl ?_
                    refine rl_det (met_none rfl) (fun h_ H_ => exd_assign (v := .bool (false)) rfl) rfl ?_
                    refine rl_end ?_
                    refine fl_ret Tryd.func36 rfl (vs := [sv ([] : List UInt8), .bool (false)]) (fun h_ H_ => ⟨sv ([] : List UInt8), _, rfl, rfl, ⟨.bool (false), _, rfl, rfl, rfl⟩⟩) (v := .tuple #[sv ([] : List UInt8), .bool (false)]) rfl ?_
                    have hN : ¬ bodyOk s := fun z => by
                      obtain ⟨z1, z2, z3, z4, z5⟩ := z
                      first | omega | (rw [← e5] at z3; omega) | (have y_ := (z5 k (by omega)).1 (by omega); omega) | (have y_ := (z5 k (by omega)).2.1 (by omega) (by omega); omega) | (have y_ := (z5 k (by omega)).2.2 (by omega) (by omega); omega)
                    exact fun h_ H_ => K _ _ ⟨by rw [bodyB, if_neg hN, decide_eq_false hN], H_.kept⟩
                  · refine rl_det (met_some rfl rfl (decide_eq_false cc15)) (fun h_ H_ => exd_move (v := sv s) rfl) rfl ?_
                    refine rl_det (met_some rfl rfl (decide_eq_false cc15)) (fun h_ H_ => exd_move (v := .int .i64 (((k : Nat) : Int))) rfl) (tm' := [_,_,_,_,_,_,_,_,_,_,_,_,_,_,_,_,_,_,_,_,_,_,_,_,_,_,_,_,_,_,_,_,_,_,_,_,_,_,_,_,_,_,_,_,_,_,_,_,_,_,_,_,_,_,_,_,_,_,_,_,_,_,_,_,_,_,_,_,_,_,_,_,_,_,_,_,_,_,_,_,_,_,_]) rfl ?_
                    refine rl_det (met_some rfl rfl (decide_eq_false cc15)) (fun h_ H_ => exd_indexSN (l := s) (i := k) Tryd.underlying9 rfl rfl (by omega)) rfl ?_
                    refine rl_det (met_some rfl rfl (decide_eq_false cc15)) (fun h_ H_ => exd_gtr rfl rfl) rfl ?_
                    refine rl_det (met_none rfl) (fun h_ H_ => exd_pick_f rfl (decide_eq_false cc15) (v := .bool (decide (126 < (((s.getD k 0).toNat : Nat) : Int)))) rfl) (tm' := [_,_,_,_,_,_,_,_,_,_,_,_,_,_,_,_,_,_,_,_,_,_,_,_,_,_,_,_,_,_,_,_,_,_,_,_,_,_,_,_,_,_,_,_,_,_,_,_,_,_,_,_,_,_,_,_,_,_,_,_,_,_,_,_,_,_,_,_,_,_,_,_,_,_,_,_,_,_,_,_,_,_,_]) rfl ?_
                    refine rl_end ?_
                    by_cases cc16 : 126 < (((s.getD k 0).toNat : Nat) : Int)
                    · refine fl_then rfl (decide_eq_true cc16) ?_
                      refine fl_seq ?_
                      refine rl_start ?_
                      refine rl_det (met_none rfl) (fun h_ H_ => exd_assign (v := sv ([] : List UInt8)) rfl) rfl ?_
                      refine rl_det (met_none rfl) (fun h_ H_ => exd_assign (v := .bool (false)) rfl) rfl ?_
                      refine rl_end ?_
                      refine fl_ret Tryd.func36 rfl (vs := [sv ([] : List UInt8), .bool (false)]) (fun h_ H_ => ⟨sv ([] : List UInt8), _, rfl, rfl, ⟨.bool (false), _, rfl, rfl, rfl⟩⟩) (v := .tuple #[sv ([] : List UInt8), .bool (false)]) rfl ?_
                      have hN : ¬ bodyOk s := fun z => by
                        obtain ⟨z1, z2, z3, z4, z5⟩ := z
                        first | omega | (rw [← e5] at z3; omega) | (have y_ := (z5 k (by omega)).1 (by omega); omega) | (have y_ := (z5 k (by omega)).2.1 (by omega) (by omega); omega) | (have y_ := (z5 k (by omega)).2.2 (by omega) (by omega); omega)
                      exact fun h_ H_ => K _ _ ⟨by rw [bodyB, if_neg hN, decide_eq_false hN], H_.kept⟩
                    · refine fl_else rfl (decide_eq_false cc16) ?_
                      refine fl_skip ?_
                      refine fl_inBlock ?_
                      refine fl_inBlock ?_
                      refine rl_start ?_
                      refine rl_det (met_none rfl) (fun h_ H_ => exd_move (v := .int .i64 (((k : Nat) : Int))) rfl) (tm' := _::_::_::_::_::_::_::_::_::_::_::_::_::_::_::_::_::_::_::_::_::_::_::_::_::_::_::_::_::_::_::_::_) rfl ?_
                      refine rl_det (met_none rfl) (fun h_ H_ => exd_add rfl rfl (n := ((k + 1 : Nat) : Int)) (wr (by omega))) rfl ?_
                      refine rl_det (met_none rfl) (fun h_ H_ => exd_assign (v := .int .i64 (((k + 1 : Nat) : Int))) rfl) rfl ?_
                      refine rl_end ?_
                      exact fun h_ H_ => IH6 _ _ (by omega) h_ ⟨k + 1, rfl, (y_of rfl), ⟨by omega, upto_step hs ⟨fun h1_ => by omega, fun h1_ h2_ => by omega, fun h1_ h2_ => by omega⟩⟩, H_⟩
              · refine rl_pass (met_not rfl rfl (decide_eq_false cc11)) (tm' := _::_::_::_::_::_::_::_::_::_::_::_::_::_::_::_::_::_::_::_::_::_::_::_::_::_::_::_::_::_::_::_::_::_::_::_::_::_::_::_::_::_::_::_::_::_::_::_::_::_::_::_::_::_) rfl ?_
                refine rl_pass (met_not rfl rfl (decide_eq_false cc11)) rfl ?_
                refine rl_pass (met_not rfl rfl (decide_eq_false cc11)) rfl ?_
                refine rl_det (met_none rfl) (fun h_ H_ => exd_pick_f rfl (decide_eq_false cc11) (v := .bool (false)) rfl) (tm' := [_,_,_,_,_,_,_,_,_,_,_,_,_,_,_,_,_,_,_,_,_,_,_,_,_,_,_,_,_,_,_,_,_,_,_,_,_,_,_,_,_,_,_,_,_,_,_,_,_,_,_,_,_,_,_,_,_,_,_,_,_,_,_,_,_,_,_,_,_,_,_,_,_,_,_,_,_,_,_,_,_,_,_]) rfl ?_
                refine rl_det (met_none rfl) (fun h_ H_ => exd_assign (v := .bool (false)) rfl) rfl ?_
                refine rl_end ?_
                refine fl_else rfl rfl ?_
                refine fl_seq ?_
                refine rl_start ?_
                refine rl_det (met_none rfl) (fun h_ H_ => exd_move (v := .int .i64 (((k : Nat) : Int))) rfl) rfl ?_
                refine rl_det (met_none rfl) (fun h_ H_ => exd_move (v := .int .i64 (((s.length : Nat) : Int) - 5)) rfl) (tm' := [_,_,_,_,_,_,_,_,_,_,_,_,_,_,_,_,_,_,_,_,_,_,_,_,_,_,_,_,_,_,_,_,_,_,_,_,_,_,_,_,_,_,_,_,_,_,_,_,_,_,_,_,_,_,_,_,_,_,_,_,_,_,_,_,_,_,_,_,_,_,_,_,_,_,_,_,_,_,_,_,_,_,_]) rfl ?_
                refine rl_det (met_none rfl) (fun h_ H_ => exd_lss rfl rfl) rfl ?_
                refine rl_det (met_none rfl) (fun h_ H_ => exd_assign (v := .bool (decide (((k : Nat) : Int) < ((s.length : Nat) : Int) - 5))) rfl) rfl ?_
                refine rl_end ?_
                refine fl_else rfl (decide_eq_false cc11) ?_
                refine fl_skip ?_
                refine fl_inBlock ?_
                refine fl_inBlock ?_
                refine rl_start ?_
                refine rl_det (met_none rfl) (fun h_ H_ => exd_move (v := .int .i64 (((k : Nat) : Int))) rfl) (tm' := _::_::_::_::_::_::_::_::_::_::_::_::_::_::_::_::_::_::_::_::_::_::_::_::_::_::_::_::_::_::_::_::_) rfl ?_
                refine rl_det (met_none rfl) (fun h_ H_ => exd_add rfl rfl (n := ((k + 1 : Nat) : Int)) (wr (by omega))) rfl ?_
                refine rl_det (met_none rfl) (fun h_ H_ => exd_assign (v := .int .i64 (((k + 1 : Nat) : Int))) rfl) rfl ?_
                refine rl_end ?_
                exact fun h_ H_ => IH6 _ _ (by omega) h_ ⟨k + 1, rfl, (y_of rfl), ⟨by omega, upto_step hs ⟨fun h1_ => by omega, fun h1_ h2_ => by omega, fun h1_ h2_ => by omega⟩⟩, H_⟩
          · refine fl_else rfl (decide_eq_false cc7) ?_
            refine fl_exit rfl ?_
            refine fl_seq ?_
            refine rl_start ?_
            refine rl_det (met_none rfl) (fun h_ H_ => exd_move (v := sv s) rfl) (tm' := [_,_,_,_,_,_,_,_,_,_,_,_,_,_,_,_,_,_,_,_,_,_,_,_,_,_,_,_,_,_,_,_,_,_,_,_,_,_,_,_,_,_,_,_,_,_,_,_,_,_,_,_,_,_,_,_,_,_,_,_,_,_,_,_,_,_,_,_,_,_,_,_,_,_,_,_,_,_,_,_,_,_,_]) rfl ?_
            refine rl_det (met_none rfl) (fun h_ H_ => exd_move (v := .int .i64 (((s.length : Nat) : Int) - 5)) rfl) rfl ?_
            refine rl_det (met_none rfl) (fun h_ H_ => exd_takeS (l := s) (r := ((((s.length : Nat) : Int) - 5)).toNat) Tryd.underlying9 rfl (.some _ rfl (by omega)) (by omega)) rfl ?_
            refine rl_det (met_none rfl) (fun h_ H_ => exd_assign (v := sv (s.take (((((s.length : Nat) : Int) - 5)).toNat))) rfl) (tm' := _::_::_::_) rfl ?_
            refine rl_det (met_none rfl) (fun h_ H_ => exd_assign (v := .bool (true)) rfl) rfl ?_
            refine rl_end ?_
            refine fl_ret Tryd.func36 rfl (vs := [sv (s.take (((((s.length : Nat) : Int) - 5)).toNat)), .bool (true)]) (fun h_ H_ => ⟨sv (s.take (((((s.length : Nat) : Int) - 5)).toNat)), _, rfl, rfl, ⟨.bool (true), _, rfl, rfl, rfl⟩⟩) (v := .tuple #[sv (s.take (((((s.length : Nat) : Int) - 5)).toNat)), .bool (true)]) rfl ?_
            have hY : bodyOk s := ⟨by omega, by omega, by rw [← e5]; omega, by omega, fun i hi => hs i (by omega)⟩
            exact fun h_ H_ => K _ _ ⟨by rw [bodyB, if_pos hY, decide_eq_true hY, ← e5], H_.kept⟩
end Go.Proofs.YtiinpnlfdeiloaaDoor
namespace Go.Proofs.YtiinpnlfdeiloaaDoor
open Go.X Go.X.Cent Go.Conc
end Go.Proofs.YtiinpnlfdeiloaaDoor
namespace Go.Proofs.YtiinpnlfdeiloaaDoor
open Go.X Go.X.Cent Go.Conc
set_option maxRecDepth 10000
set_option synthInstance.maxSize 2000
set_option synthInstance.maxHeartbeats 400000

set_option maxHeartbeats 1000000
end Go.Proofs.YtiinpnlfdeiloaaDoor
namespace Go.Proofs.YtiinpnlfdeiloaaDoor
open Go.X Go.X.Cent Go.Conc
set_option maxRecDepth 10000
set_option synthInstance.maxSize 2000
set_option synthInstance.maxHeartbeats 400000

set_option maxHeartbeats 1000000
end Go.Proofs.YtiinpnlfdeiloaaDoor
namespace Go.Proofs.YtiinpnlfdeiloaaDoor
open Go.X Go.X.Cent Go.Conc
set_option maxRecDepth 10000
set_option synthInstance.maxSize 2000
set_option synthInstance.maxHeartbeats 400000

set_option maxHeartbeats 1000000
theorem c34 (h : Heap) (n : Int) : CallsX Tryd.prog .lone 34 #[.int .i64 (n)] h fun v h' => v = .bool (decide (0 ≤ n ∧ n ≤ 9972)) ∧ Keep h h' := by
  refine calls_intro (Φ := fun h_ => St h [] (fun _ => none) h_ []) Tryd.func34 rfl (tm := [_, _, _, _, _]) rfl ?_ (St.start h _ (fun _ _ e => by cases e))
  intro c₀ cs Stop K
  refine fl_seq ?_
  refine rl_start ?_
  refine rl_det (met_none rfl) (fun h_ H_ => exd_assign (v := .bool (false)) rfl) rfl ?_
  refine rl_end ?_
  refine fl_seq ?_
  refine rl_start ?_
  refine rl_det (met_none rfl) (fun h_ H_ => exd_move (v := .int .i64 (n)) rfl) rfl ?_
  refine rl_calld (met_none rfl) (first := []) (cap := []) rfl rfl fC22 (fun h_ H_ => c22 .lone _ (n) (0) (9972)) (tm' := [_,_,_,_,_]) rfl ?_
  refine rl_det (met_none rfl) (fun h_ H_ => exd_assign (v := .bool (decide (0 ≤ n ∧ n ≤ 9972))) rfl) rfl ?_
  refine rl_end ?_
  refine fl_ret Tryd.func34 rfl (vs := [.bool (decide (0 ≤ n ∧ n ≤ 9972))]) (fun h_ H_ => ⟨.bool (decide (0 ≤ n ∧ n ≤ 9972)), _, rfl, rfl, rfl⟩) (v := .bool (decide (0 ≤ n ∧ n ≤ 9972))) rfl ?_
  exact fun h_ H_ => K _ _ ⟨rfl, H_.kept⟩
theorem c37 (h : Heap) (p : PHeap) (hp : Per p h) (a b : Option Addr) (m n c d : Nat) (xs ys : List Pie) (A : Pies p a m xs) (B : Pies p b n ys) (hm : m ≤ 2 ^ 60) : CallsX Tryd.prog .lone 37 #[.slice a m c, .slice b n d] h fun v h' => v = .bool (decide (xs = ys)) ∧ Keep h h' := by
  refine calls_intro (Φ := fun h_ => St h [] p h_ []) Tryd.func37 rfl (tm := [_, _, _, _, _, _, _, _, _, _, _, _, _, _, _, _, _, _, _, _, _, _, _, _, _, _]) rfl ?_ (St.start h _ hp)
  intro c₀ cs Stop K
  have hla := A.len
  have hlb := B.len
  refine fl_seq ?_
  refine rl_start ?_
  refine rl_det (met_none rfl) (fun h_ H_ => exd_assign (v := .bool (false)) rfl) rfl ?_
  refine rl_end ?_
  refine fl_seq ?_
  refine fl_seq ?_
  refine rl_start ?_
  refine rl_det (met_none rfl) (fun h_ H_ => exd_move (v := .slice a m c) rfl) (tm' := _::_::_::_::_::_::_::_) rfl ?_
  refine rl_det (met_none rfl) (fun h_ H_ => exd_len Tryd.underlying49 rfl) rfl ?_
  refine rl_det (met_none rfl) (fun h_ H_ => exd_move (v := .slice b n d) rfl) rfl ?_
  refine rl_det (met_none rfl) (fun h_ H_ => exd_len Tryd.underlying49 rfl) (tm' := _::_::_::_::_::_::_::_::_::_::_) rfl ?_
  refine rl_det (met_none rfl) (fun h_ H_ => exd_neq rfl rfl) rfl ?_
  refine rl_end ?_
  by_cases cc1 : ((m : Nat) : Int) ≠ ((n : Nat) : Int)
  · refine fl_then rfl (decide_eq_true cc1) ?_
    refine fl_seq ?_
    refine rl_start ?_
    refine rl_det (met_none rfl) (fun h_ H_ => exd_assign (v := .bool (false)) rfl) rfl ?_
    refine rl_end ?_
    refine fl_ret Tryd.func37 rfl (vs := [.bool (false)]) (fun h_ H_ => ⟨.bool (false), _, rfl, rfl, rfl⟩) (v := .bool (false)) rfl ?_
    exact fun h_ H_ => K _ _ ⟨by first | rw [decide_eq_true (gext (by omega) fun i hi => hs i (by omega))] | rw [decide_eq_false (fun e_ => by subst e_; omega)] | rw [decide_eq_false (fun e_ => by subst e_; exact absurd rfl ‹_›)], H_.kept⟩
  · refine fl_else rfl (decide_eq_false cc1) ?_
    refine fl_skip ?_
    refine fl_seq ?_
    refine fl_seq ?_
    refine rl_start ?_
    refine rl_det (met_none rfl) (fun h_ H_ => exd_assign (v := .int .i64 0) rfl) (tm' := _::_::_::_::_::_::_) rfl ?_
    refine rl_end ?_
    refine fl_block ?_
    refine fl_loop (m₀ := m - 0) (fun m_ tm_ h_ => ∃ (k : Nat), m_ = m - k ∧ (∃ y2 : Nat → Value, tm_ = [.slice a m c, .slice b n d, undef, undef, (y2 4), .int .i64 (((k : Nat) : Int)), .slice a m c, .int .i64 (((m : Nat) : Int)), .slice b n d, .int .i64 (((n : Nat) : Int)), .bool (decide (((m : Nat) : Int) ≠ ((n : Nat) : Int))), (y2 11), (y2 12), (y2 13), (y2 14), (y2 15), (y2 16), (y2 17), (y2 18), (y2 19), (y2 20), (y2 21), (y2 22), (y2 23), (y2 24), (y2 25)]) ∧ (k ≤ m) ∧ (∀ i, i < k → xs.getD i pz = ys.getD i pz) ∧ St h [] p h_ ([])) (fun h_ H_ => ⟨0, rfl, (y_of rfl), Nat.zero_le _, (fun i hi => absurd hi (Nat.not_lt_zero i)), H_⟩) ?_
    intro m_ tm_ IH3
    refine rs_ex fun k => rs_and fun hm_ => rs_and fun ht_ => rs_and fun hk => rs_and fun hs => ?_
    subst hm_; obtain ⟨y2, ht_⟩ := ht_; subst ht_
    refine fl_seq ?_
    refine fl_seq ?_
    refine rl_start ?_
    refine rl_det (met_none rfl) (fun h_ H_ => exd_move (v := .int .i64 (((k : Nat) : Int))) rfl) rfl ?_
    refine rl_det (met_none rfl) (fun h_ H_ => exd_move (v := .slice a m c) rfl) rfl ?_
    refine rl_det (met_none rfl) (fun h_ H_ => exd_len Tryd.underlying49 rfl) (tm' := _::_::_::_::_::_::_::_::_::_::_::_::_::_::_) rfl ?_
    refine rl_det (met_none rfl) (fun h_ H_ => exd_lss rfl rfl) rfl ?_
    refine rl_end ?_
    by_cases cc4 : ((k : Nat) : Int) < ((m : Nat) : Int)
    · refine fl_then rfl (decide_eq_true cc4) ?_
      refine fl_skip ?_
      refine fl_seq ?_
      refine fl_block ?_
      refine fl_seq ?_
      refine fl_drawn2 8 [[], [], [0, 1], [0, 1, 2], [], [], [4, 5], [4, 5, 6], []] mixed (by kernel_rfl) (Nat.le_of_ble_eq_true rfl) ?_
      refine swr_det (met_none rfl) (fun h_ H_ => exd_move (v := .slice a m c) rfl) rfl ?_
      refine swr_det (met_none rfl) (fun h_ H_ => exd_move (v := .int .i64 (((k : Nat) : Int))) rfl) (tm' := [_,_,_,_,_,_,_,_,_,_,_,_,_,_,_,_,_,_,_,_,_,_,_,_,_,_]) rfl ?_
      refine swr_det (met_none rfl) (fun h_ H_ => exd_indexAddrN (i := k) Tryd.underlying49 tS60 (sl_ne a m c (A.ne (by omega))) rfl (by omega)) rfl ?_
      refine swr_det (met_none rfl) (fun h_ H_ => exd_loadN_per H_ tA60 tS60 rfl (vs := [.int .i64 ((xs.getD k pz).1), .int .i64 ((xs.getD k pz).2)]) rfl (A.all (by omega))) (tm' := [_,_,_,_,_,_,_,_,_,_,_,_,_,_,_,_,_,_,_,_,_,_,_,_,_,_]) rfl ?_
      refine swr_det (met_none rfl) (fun h_ H_ => exd_move (v := .slice b n d) rfl) rfl ?_
      refine swr_det (met_none rfl) (fun h_ H_ => exd_move (v := .int .i64 (((k : Nat) : Int))) rfl) (tm' := [_,_,_,_,_,_,_,_,_,_,_,_,_,_,_,_,_,_,_,_,_,_,_,_,_,_]) rfl ?_
      refine swr_det (met_none rfl) (fun h_ H_ => exd_indexAddrN (i := k) Tryd.underlying49 tS60 (sl_ne b n d (B.ne (by omega))) rfl (by omega)) rfl ?_
      refine swr_det (met_none rfl) (fun h_ H_ => exd_loadN_per H_ tA60 tS60 rfl (vs := [.int .i64 ((ys.getD k pz).1), .int .i64 ((ys.getD k pz).2)]) rfl (B.all (by omega))) (tm' := [_,_,_,_,_,_,_,_,_,_,_,_,_,_,_,_,_,_,_,_,_,_,_,_,_,_]) rfl ?_
      refine swr_nil rfl ?_
      refine rl_det (met_none rfl) (fun h_ H_ => exd_neqAgg gT60 (pieEq 9998 (xs.getD k pz) (ys.getD k pz)) rfl rfl) rfl ?_
      refine rl_end ?_
      by_cases cc5 : (xs.getD k pz) = (ys.getD k pz)
      · refine fl_else rfl (not_f (decide_eq_true cc5)) ?_
        refine fl_skip ?_
        refine fl_inBlock ?_
        refine rl_start ?_
        refine rl_det (met_none rfl) (fun h_ H_ => exd_move (v := .int .i64 (((k : Nat) : Int))) rfl) rfl ?_
        refine rl_det (met_none rfl) (fun h_ H_ => exd_add rfl rfl (n := ((k + 1 : Nat) : Int)) (wr (by omega))) (tm' := _::_::_::_::_::_::_::_::_::_::_::_::_::_::_::_::_::_) rfl ?_
        refine rl_det (met_none rfl) (fun h_ H_ => exd_assign (v := .int .i64 (((k + 1 : Nat) : Int))) rfl) rfl ?_
        refine rl_end ?_
        exact fun h_ H_ => IH3 _ _ (by omega) h_ ⟨k + 1, rfl, (y_of rfl), (by omega), (gstep hs ‹_›), H_⟩
      · refine fl_then rfl (not_t (decide_eq_false cc5)) ?_
        refine fl_seq ?_
        refine rl_start ?_
        refine rl_det (met_none rfl) (fun h_ H_ => exd_assign (v := .bool (false)) rfl) rfl ?_
        refine rl_end ?_
        refine fl_ret Tryd.func37 rfl (vs := [.bool (false)]) (fun h_ H_ => ⟨.bool (false), _, rfl, rfl, rfl⟩) (v := .bool (false)) rfl ?_
        exact fun h_ H_ => K _ _ ⟨by first | rw [decide_eq_true (gext (by omega) fun i hi => hs i (by omega))] | rw [decide_eq_false (fun e_ => by subst e_; omega)] | rw [decide_eq_false (fun e_ => by subst e_; exact absurd rfl ‹_›)], H_.kept⟩
    · refine fl_else rfl (decide_eq_false cc4) ?_
      refine fl_exit rfl ?_
      refine fl_seq ?_
      refine rl_start ?_
      refine rl_det (met_none rfl) (fun h_ H_ => exd_assign (v := .bool (true)) rfl) (tm' := _::_::_::_::_::_) rfl ?_
      refine rl_end ?_
      refine fl_ret Tryd.func37 rfl (vs := [.bool (true)]) (fun h_ H_ => ⟨.bool (true), _, rfl, rfl, rfl⟩) (v := .bool (true)) rfl ?_
      exact fun h_ H_ => K _ _ ⟨by first | rw [decide_eq_true (gext (by omega) fun i hi => hs i (by omega))] | rw [decide_eq_false (fun e_ => by subst e_; omega)] | rw [decide_eq_false (fun e_ => by subst e_; exact absurd rfl ‹_›)], H_.kept⟩
theorem c15 (h : Heap) (p : PHeap) (hp : Per p h) (a : Option Addr) (n c : Nat) (ts : List By) (T : Strs p a n ts) (hn : n ≤ 9223372036854775807) : CallsX Tryd.prog .lone 15 #[.slice a n c] h fun v h' => v = .bool (decide (readyT ts)) ∧ Keep h h' := by
  refine calls_intro (Φ := fun h_ => St h [] p h_ []) Tryd.func15 rfl (tm := [_, _, _, _, _, _, _, _, _, _, _]) rfl ?_ (St.start h _ hp)
  intro c₀ cs Stop K
  have hl := T.len
  refine fl_seq ?_
  refine rl_start ?_
  refine rl_det (met_none rfl) (fun h_ H_ => exd_assign (v := .bool (false)) rfl) rfl ?_
  refine rl_end ?_
  refine fl_seq ?_
  refine rl_start ?_
  refine rl_det (met_none rfl) (fun h_ H_ => exd_move (v := .slice a n c) rfl) (tm' := _::_::_::_::_) rfl ?_
  refine rl_calld (met_none rfl) (first := []) (cap := []) rfl rfl fC23 (fun h_ H_ => c23 .lone _ _ (fun b_ o_ e_ => H_.per b_ o_ e_) a n _ ts T (by first | omega | (have z_ := (far_facts T ‹¬ far ts›).1; omega))) rfl ?_
  refine rl_det (met_none rfl) (fun h_ H_ => exd_not rfl) rfl ?_
  refine rl_det (met_none rfl) (fun h_ H_ => exd_move (v := .bool (!(decide (far ts)))) rfl) (tm' := _::_::_::_::_::_::_::_) rfl ?_
  by_cases cc1 : far ts
  · refine rl_pass (met_not rfl rfl (not_f (decide_eq_true cc1))) rfl ?_
    refine rl_pass (met_not rfl rfl (not_f (decide_eq_true cc1))) rfl ?_
    refine rl_pass (met_not rfl rfl (not_f (decide_eq_true cc1))) (tm' := [_,_,_,_,_,_,_,_,_,_,_]) rfl ?_
    refine rl_det (met_none rfl) (fun h_ H_ => exd_pick_f rfl (not_f (decide_eq_true cc1)) (v := .bool (false)) rfl) rfl ?_
    refine rl_det (met_none rfl) (fun h_ H_ => exd_assign (v := .bool (false)) rfl) rfl ?_
    refine rl_end ?_
    refine fl_ret Tryd.func15 rfl (vs := [.bool (false)]) (fun h_ H_ => ⟨.bool (false), _, rfl, rfl, rfl⟩) (v := .bool (false)) rfl ?_
    exact fun h_ H_ => K _ _ ⟨congrArg Value.bool ((decide_eq_false fun z => z.1 ‹_›).symm), H_.kept⟩
  · refine rl_det (met_some rfl rfl (not_t (decide_eq_false cc1))) (fun h_ H_ => exd_move (v := .slice a n c) rfl) (tm' := [_,_,_,_,_,_,_,_,_,_,_]) rfl ?_
    refine rl_calld (met_some rfl rfl (not_t (decide_eq_false cc1))) (first := []) (cap := []) rfl rfl fC51 (fun h_ H_ => c51 .lone _ _ (fun b_ o_ e_ => H_.per b_ o_ e_) a n _ ts T (by first | omega | (have z_ := (far_facts T ‹¬ far ts›).1; omega)) (not_far T ‹¬ far ts›)) rfl ?_
    refine rl_det (met_some rfl rfl (not_t (decide_eq_false cc1))) (fun h_ H_ => exd_eql rfl rfl) rfl ?_
    refine rl_det (met_none rfl) (fun h_ H_ => exd_pick_t rfl (not_t (decide_eq_false cc1)) (v := .bool (decide (chkT ts = 0))) rfl) (tm' := [_,_,_,_,_,_,_,_,_,_,_]) rfl ?_
    refine rl_det (met_none rfl) (fun h_ H_ => exd_assign (v := .bool (decide (chkT ts = 0))) rfl) rfl ?_
    refine rl_end ?_
    refine fl_ret Tryd.func15 rfl (vs := [.bool (decide (chkT ts = 0))]) (fun h_ H_ => ⟨.bool (decide (chkT ts = 0)), _, rfl, rfl, rfl⟩) (v := .bool (decide (chkT ts = 0))) rfl ?_
    exact fun h_ H_ => K _ _ ⟨congrArg Value.bool (decide_eq_decide.2 ⟨fun z => ⟨‹_›, z⟩, fun z => z.2⟩), H_.kept⟩
theorem c16 (h : Heap) (htab : Tab h) : CallsX Tryd.prog .lone 16 #[] h fun v h' => v = .bool true ∧ Keep h h' := by
  refine calls_intro (Φ := fun h_ => St h [] (fun _ => none) h_ []) Tryd.func16 rfl (tm := [_, _, _, _, _, _, _, _, _, _, _, _, _, _, _, _, _, _, _, _, _, _, _, _, _, _, _, _, _, _, _, _, _, _, _, _, _, _, _, _, _, _, _, _, _, _, _, _, _, _, _, _, _, _, _, _, _, _, _, _, _, _, _, _, _, _, _, _, _, _, _, _, _, _, _, _]) rfl ?_ (St.start h _ (fun _ _ e => by cases e))
  intro c₀ cs Stop K
  refine fl_seq ?_
  refine rl_start ?_
  refine rl_det (met_none rfl) (fun h_ H_ => exd_assign (v := .bool (false)) rfl) rfl ?_
  refine rl_end ?_
  refine fl_seq ?_
  refine rl_start ?_
  refine rl_own (L' := ([] : Pcs) ++ []) rfl ?_
  refine rl_buildO ([] : Pcs) (met_none rfl) Tryd.underlying22 tS9 tZ9 (Nat.le_of_ble_eq_true rfl) (vs := [(0, sv ([97, 97] : List UInt8)), (1, sv ([97, 98] : List UInt8))]) rfl rfl (es := [[sv ([97, 97] : List UInt8)], [sv ([97, 98] : List UInt8)]]) rfl rfl rfl fun v1 X2 o3 => ?_
  have o4 : OwnS 9 1 v1 (scs ([([97, 97] : List UInt8), ([97, 98] : List UInt8)] : List By)) X2 := o3
  refine rl_norm (tm' := _::_::_::_::_::_::_::_::_::_::_::_::_::_) rfl ?_
  refine rl_lastN (A := ([] : Pcs)) o4 (scs_length _) fun p5 a6 cp7 le8 ev_ D9 => ?_
  subst ev_
  refine rl_own (L' := []) rfl ?_
  refine rl_calld (met_none rfl) (first := []) (cap := []) rfl rfl fC45 (fun h_ H_ => c45 _ _ (fun b_ o_ e_ => H_.per b_ o_ e_) (htab.keep H_.kept) a6 (([([97, 97] : List UInt8), ([97, 98] : List UInt8)] : List By).length) _ ([([97, 97] : List UInt8), ([97, 98] : List UInt8)] : List By) (show Strs _ _ _ ([([97, 97] : List UInt8), ([97, 98] : List UInt8)] : List By) from D9) (by decide) (by decide)) rfl ?_
  refine rl_det (met_none rfl) (fun h_ H_ => exd_move (v := .tuple #[sv ((writeB ([([97, 97] : List UInt8), ([97, 98] : List UInt8)] : List By)).1), .int .i64 ((writeB ([([97, 97] : List UInt8), ([97, 98] : List UInt8)] : List By)).2)]) rfl) rfl ?_
  refine rl_det (met_none rfl) (fun h_ H_ => exd_extract rfl (v := sv ((writeB ([([97, 97] : List UInt8), ([97, 98] : List UInt8)] : List By)).1)) rfl) (tm' := _::_::_::_::_::_::_::_::_::_::_::_::_::_::_::_) rfl ?_
  refine rl_det (met_none rfl) (fun h_ H_ => exd_extract rfl (v := .int .i64 ((writeB ([([97, 97] : List UInt8), ([97, 98] : List UInt8)] : List By)).2)) rfl) rfl ?_
  refine rl_det (met_none rfl) (fun h_ H_ => exd_assign (v := sv ((writeB ([([97, 97] : List UInt8), ([97, 98] : List UInt8)] : List By)).1)) rfl) rfl ?_
  refine rl_det (met_none rfl) (fun h_ H_ => exd_assign (v := .int .i64 ((writeB ([([97, 97] : List UInt8), ([97, 98] : List UInt8)] : List By)).2)) rfl) (tm' := _::_::_::_) rfl ?_
  refine rl_end ?_
  refine fl_seq ?_
  refine rl_start ?_
  refine rl_own (L' := ([] : Pcs) ++ []) rfl ?_
  refine rl_buildO ([] : Pcs) (met_none rfl) Tryd.underlying22 tS9 tZ9 (Nat.le_of_ble_eq_true rfl) (vs := [(0, sv ([97, 97] : List UInt8)), (1, sv ([97, 98] : List UInt8))]) rfl rfl (es := [[sv ([97, 97] : List UInt8)], [sv ([97, 98] : List UInt8)]]) rfl rfl rfl fun v10 X11 o12 => ?_
  have o13 : OwnS 9 1 v10 (scs ([([97, 97] : List UInt8), ([97, 98] : List UInt8)] : List By)) X11 := o12
  refine rl_lastN (A := ([] : Pcs)) o13 (scs_length _) fun p14 a15 cp16 le17 ev_ D18 => ?_
  subst ev_
  refine rl_own (L' := []) rfl ?_
  refine rl_calld (met_none rfl) (first := []) (cap := []) rfl rfl fC24 (fun h_ H_ => c24 _ _ (fun b_ o_ e_ => H_.per b_ o_ e_) a15 (([([97, 97] : List UInt8), ([97, 98] : List UInt8)] : List By).length) _ ([([97, 97] : List UInt8), ([97, 98] : List UInt8)] : List By) (show Strs _ _ _ ([([97, 97] : List UInt8), ([97, 98] : List UInt8)] : List By) from D18) (by decide) (by decide) 1 (by omega)) rfl ?_
  refine rl_det (met_none rfl) (fun h_ H_ => exd_move (v := .tuple #[.int .i64 ((usesB ([([97, 97] : List UInt8), ([97, 98] : List UInt8)] : List By) 1).1), .int .i64 ((usesB ([([97, 97] : List UInt8), ([97, 98] : List UInt8)] : List By) 1).2)]) rfl) (tm' := _::_::_::_::_::_::_::_::_::_::_::_::_::_::_::_::_::_) rfl ?_
  refine rl_det (met_none rfl) (fun h_ H_ => exd_extract rfl (v := .int .i64 ((usesB ([([97, 97] : List UInt8), ([97, 98] : List UInt8)] : List By) 1).1)) rfl) rfl ?_
  refine rl_det (met_none rfl) (fun h_ H_ => exd_extract rfl (v := .int .i64 ((usesB ([([97, 97] : List UInt8), ([97, 98] : List UInt8)] : List By) 1).2)) rfl) rfl ?_
  refine rl_det (met_none rfl) (fun h_ H_ => exd_assign (v := .int .i64 ((usesB ([([97, 97] : List UInt8), ([97, 98] : List UInt8)] : List By) 1).1)) rfl) (tm' := _::_::_::_::_) rfl ?_
  refine rl_det (met_none rfl) (fun h_ H_ => exd_assign (v := .int .i64 ((usesB ([([97, 97] : List UInt8), ([97, 98] : List UInt8)] : List By) 1).2)) rfl) rfl ?_
  refine rl_end ?_
  refine fl_seq ?_
  refine rl_start ?_
  refine rl_calld (met_none rfl) (first := []) (cap := []) rfl rfl fC26 (fun h_ H_ => c26 _ ([65, 65, 120] : List UInt8) (by decide)) rfl ?_
  refine rl_det (met_none rfl) (fun h_ H_ => exd_move (v := .tuple #[.int .i64 ((sumB ([65, 65, 120] : List UInt8)).1), .int .i64 ((sumB ([65, 65, 120] : List UInt8)).2)]) rfl) (tm' := _::_::_::_::_::_::_::_::_::_::_::_::_::_::_::_::_::_::_::_::_::_::_) rfl ?_
  refine rl_det (met_none rfl) (fun h_ H_ => exd_extract rfl (v := .int .i64 ((sumB ([65, 65, 120] : List UInt8)).1)) rfl) rfl ?_
  refine rl_det (met_none rfl) (fun h_ H_ => exd_extract rfl (v := .int .i64 ((sumB ([65, 65, 120] : List UInt8)).2)) rfl) rfl ?_
  refine rl_det (met_none rfl) (fun h_ H_ => exd_assign (v := .int .i64 ((sumB ([65, 65, 120] : List UInt8)).1)) rfl) (tm' := _::_::_::_::_::_::_) rfl ?_
  refine rl_det (met_none rfl) (fun h_ H_ => exd_assign (v := .int .i64 ((sumB ([65, 65, 120] : List UInt8)).2)) rfl) rfl ?_
  refine rl_end ?_
  refine fl_seq ?_
  refine rl_start ?_
  refine rl_own (L' := ([] : Pcs) ++ []) rfl ?_
  refine rl_call (met_none rfl) (first := []) (cap := []) rfl rfl fC18 (R := fun v_ h_ => ∃ w19 : Value, ∃ X20 : Pcs, v_ = .tuple #[w19, .int .i64 ((readB ([65, 65, 126, 65, 66, 61, 49, 49, 54, 51] : List UInt8)).1)] ∧ (OwnS 9 1 w19 (scs ((readB ([65, 65, 126, 65, 66, 61, 49, 49, 54, 51] : List UInt8)).2)) X20) ∧ St h [] p14 h_ (([] : Pcs) ++ (X20 ++ []))) (fun h_ H_ => (c18 _ (htab.keep H_.kept) ([65, 65, 126, 65, 66, 61, 49, 49, 54, 51] : List UInt8) (by decide)).mono fun v_ h2_ ⟨w19, X20, e_, o21, N_⟩ => ⟨w19, X20, e_, o21, H_.callNA N_⟩) fun v_ => ?_
  refine rl_ex fun w19 => rl_ex fun X20 => rl_and fun ev_ => rl_and fun o21 => ?_
  have ev_ := ev_.symm; subst ev_
  refine rl_own (L' := ([] : Pcs) ++ (X20 ++ [])) rfl ?_
  refine rl_det (met_none rfl) (fun h_ H_ => exd_move (v := .tuple #[w19, .int .i64 ((readB ([65, 65, 126, 65, 66, 61, 49, 49, 54, 51] : List UInt8)).1)]) rfl) (tm' := _::_::_::_::_::_::_::_::_::_::_::_::_::_::_::_::_::_::_::_::_::_::_::_::_::_::_) rfl ?_
  refine rl_det (met_none rfl) (fun h_ H_ => exd_extract rfl (v := w19) rfl) rfl ?_
  refine rl_det (met_none rfl) (fun h_ H_ => exd_extract rfl (v := .int .i64 ((readB ([65, 65, 126, 65, 66, 61, 49, 49, 54, 51] : List UInt8)).1)) rfl) rfl ?_
  refine rl_det (met_none rfl) (fun h_ H_ => exd_assign (v := w19) rfl) (tm' := _::_::_::_::_::_::_::_::_) rfl ?_
  refine rl_det (met_none rfl) (fun h_ H_ => exd_assign (v := .int .i64 ((readB ([65, 65, 126, 65, 66, 61, 49, 49, 54, 51] : List UInt8)).1)) rfl) rfl ?_
  refine rl_end ?_
  refine fl_seq ?_
  refine rl_start ?_
  refine rl_calld (met_none rfl) (first := []) (cap := []) rfl rfl fC28 (fun h_ H_ => c28 _ (htab.keep H_.kept) ([65, 65, 120, 65, 65, 126, 61, 49, 56, 57, 54] : List UInt8) ([120] : List UInt8) (by decide) (by decide)) rfl ?_
  refine rl_det (met_none rfl) (fun h_ H_ => exd_move (v := .tuple #[sv ((addB ([65, 65, 120, 65, 65, 126, 61, 49, 56, 57, 54] : List UInt8) ([120] : List UInt8)).1), .int .i64 ((addB ([65, 65, 120, 65, 65, 126, 61, 49, 56, 57, 54] : List UInt8) ([120] : List UInt8)).2)]) rfl) (tm' := _::_::_::_::_::_::_::_::_::_::_::_::_::_::_::_::_::_::_::_::_::_::_::_::_::_::_::_::_::_::_) rfl ?_
  refine rl_det (met_none rfl) (fun h_ H_ => exd_extract rfl (v := sv ((addB ([65, 65, 120, 65, 65, 126, 61, 49, 56, 57, 54] : List UInt8) ([120] : List UInt8)).1)) rfl) rfl ?_
  refine rl_det (met_none rfl) (fun h_ H_ => exd_extract rfl (v := .int .i64 ((addB ([65, 65, 120, 65, 65, 126, 61, 49, 56, 57, 54] : List UInt8) ([120] : List UInt8)).2)) rfl) rfl ?_
  refine rl_det (met_none rfl) (fun h_ H_ => exd_assign (v := sv ((addB ([65, 65, 120, 65, 65, 126, 61, 49, 56, 57, 54] : List UInt8) ([120] : List UInt8)).1)) rfl) (tm' := _::_::_::_::_::_::_::_::_::_::_) rfl ?_
  refine rl_det (met_none rfl) (fun h_ H_ => exd_assign (v := .int .i64 ((addB ([65, 65, 120, 65, 65, 126, 61, 49, 56, 57, 54] : List UInt8) ([120] : List UInt8)).2)) rfl) rfl ?_
  refine rl_end ?_
  refine fl_seq ?_
  refine rl_start ?_
  refine rl_det (met_none rfl) (fun h_ H_ => exd_move (v := .int .i64 ((writeB ([([97, 97] : List UInt8), ([97, 98] : List UInt8)] : List By)).2)) rfl) rfl ?_
  refine rl_det (met_none rfl) (fun h_ H_ => exd_eql rfl rfl) (tm' := _::_::_::_::_::_::_::_::_::_::_::_::_::_::_::_::_::_::_::_::_::_::_::_::_::_::_::_::_::_::_::_::_::_::_::_) rfl ?_
  refine rl_det (met_none rfl) (fun h_ H_ => exd_move (v := .bool (decide ((writeB ([([97, 97] : List UInt8), ([97, 98] : List UInt8)] : List By)).2 = 0))) rfl) rfl ?_
  refine rl_det (met_some rfl rfl (decide_eq_true (by decide +kernel))) (fun h_ H_ => exd_move (v := .int .i64 ((usesB ([([97, 97] : List UInt8), ([97, 98] : List UInt8)] : List By) 1).2)) rfl) rfl ?_
  refine rl_det (met_some rfl rfl (decide_eq_true (by decide +kernel))) (fun h_ H_ => exd_eql rfl rfl) (tm' := _::_::_::_::_::_::_::_::_::_::_::_::_::_::_::_::_::_::_::_::_::_::_::_::_::_::_::_::_::_::_::_::_::_::_::_::_::_::_) rfl ?_
  refine rl_det (met_none rfl) (fun h_ H_ => exd_pick_t rfl (decide_eq_true (by decide +kernel)) (v := .bool (decide ((usesB ([([97, 97] : List UInt8), ([97, 98] : List UInt8)] : List By) 1).2 = 0))) rfl) rfl ?_
  refine rl_det (met_none rfl) (fun h_ H_ => exd_move (v := .bool (decide ((usesB ([([97, 97] : List UInt8), ([97, 98] : List UInt8)] : List By) 1).2 = 0))) rfl) rfl ?_
  refine rl_det (met_some rfl rfl (decide_eq_true (by decide +kernel))) (fun h_ H_ => exd_move (v := .int .i64 ((sumB ([65, 65, 120] : List UInt8)).2)) rfl) (tm' := _::_::_::_::_::_::_::_::_::_::_::_::_::_::_::_::_::_::_::_::_::_::_::_::_::_::_::_::_::_::_::_::_::_::_::_::_::_::_::_::_::_) rfl ?_
  refine rl_det (met_some rfl rfl (decide_eq_true (by decide +kernel))) (fun h_ H_ => exd_eql rfl rfl) rfl ?_
  refine rl_det (met_none rfl) (fun h_ H_ => exd_pick_t rfl (decide_eq_true (by decide +kernel)) (v := .bool (decide ((sumB ([65, 65, 120] : List UInt8)).2 = 0))) rfl) rfl ?_
  refine rl_det (met_none rfl) (fun h_ H_ => exd_move (v := .bool (decide ((sumB ([65, 65, 120] : List UInt8)).2 = 0))) rfl) (tm' := _::_::_::_::_::_::_::_::_::_::_::_::_::_::_::_::_::_::_::_::_::_::_::_::_::_::_::_::_::_::_::_::_::_::_::_::_::_::_::_::_::_::_::_::_) rfl ?_
  refine rl_det (met_some rfl rfl (decide_eq_true (by decide +kernel))) (fun h_ H_ => exd_move (v := .int .i64 ((readB ([65, 65, 126, 65, 66, 61, 49, 49, 54, 51] : List UInt8)).1)) rfl) rfl ?_
  refine rl_det (met_some rfl rfl (decide_eq_true (by decide +kernel))) (fun h_ H_ => exd_eql rfl rfl) rfl ?_
  refine rl_det (met_none rfl) (fun h_ H_ => exd_pick_t rfl (decide_eq_true (by decide +kernel)) (v := .bool (decide ((readB ([65, 65, 126, 65, 66, 61, 49, 49, 54, 51] : List UInt8)).1 = 0))) rfl) (tm' := _::_::_::_::_::_::_::_::_::_::_::_::_::_::_::_::_::_::_::_::_::_::_::_::_::_::_::_::_::_::_::_::_::_::_::_::_::_::_::_::_::_::_::_::_::_::_::_) rfl ?_
  refine rl_det (met_none rfl) (fun h_ H_ => exd_move (v := .bool (decide ((readB ([65, 65, 126, 65, 66, 61, 49, 49, 54, 51] : List UInt8)).1 = 0))) rfl) rfl ?_
  refine rl_det (met_some rfl rfl (decide_eq_true (by decide +kernel))) (fun h_ H_ => exd_move (v := .int .i64 ((addB ([65, 65, 120, 65, 65, 126, 61, 49, 56, 57, 54] : List UInt8) ([120] : List UInt8)).2)) rfl) rfl ?_
  refine rl_det (met_some rfl rfl (decide_eq_true (by decide +kernel))) (fun h_ H_ => exd_eql rfl rfl) (tm' := _::_::_::_::_::_::_::_::_::_::_::_::_::_::_::_::_::_::_::_::_::_::_::_::_::_::_::_::_::_::_::_::_::_::_::_::_::_::_::_::_::_::_::_::_::_::_::_::_::_::_) rfl ?_
  refine rl_det (met_none rfl) (fun h_ H_ => exd_pick_t rfl (decide_eq_true (by decide +kernel)) (v := .bool (decide ((addB ([65, 65, 120, 65, 65, 126, 61, 49, 56, 57, 54] : List UInt8) ([120] : List UInt8)).2 = 0))) rfl) rfl ?_
  refine rl_det (met_none rfl) (fun h_ H_ => exd_move (v := .bool (decide ((addB ([65, 65, 120, 65, 65, 126, 61, 49, 56, 57, 54] : List UInt8) ([120] : List UInt8)).2 = 0))) rfl) rfl ?_
  refine rl_det (met_some rfl rfl (decide_eq_true (by decide +kernel))) (fun h_ H_ => exd_move (v := sv ((writeB ([([97, 97] : List UInt8), ([97, 98] : List UInt8)] : List By)).1)) rfl) (tm' := [_,_,_,_,_,_,_,_,_,_,_,_,_,_,_,_,_,_,_,_,_,_,_,_,_,_,_,_,_,_,_,_,_,_,_,_,_,_,_,_,_,_,_,_,_,_,_,_,_,_,_,_,_,_,_,_,_,_,_,_,_,_,_,_,_,_,_,_,_,_,_,_,_,_,_,_]) rfl ?_
  refine rl_det (met_some rfl rfl (decide_eq_true (by decide +kernel))) (fun h_ H_ => exd_eqlS (l := (writeB ([([97, 97] : List UInt8), ([97, 98] : List UInt8)] : List By)).1) (m := ([65, 65, 97, 65, 66, 126, 65, 66, 98, 65, 65, 126, 61, 54, 53, 55, 52] : List UInt8)) rfl rfl) rfl ?_
  refine rl_det (met_none rfl) (fun h_ H_ => exd_pick_t rfl (decide_eq_true (by decide +kernel)) (v := .bool (decide ((writeB ([([97, 97] : List UInt8), ([97, 98] : List UInt8)] : List By)).1 = ([65, 65, 97, 65, 66, 126, 65, 66, 98, 65, 65, 126, 61, 54, 53, 55, 52] : List UInt8)))) rfl) rfl ?_
  refine rl_det (met_none rfl) (fun h_ H_ => exd_move (v := .bool (decide ((writeB ([([97, 97] : List UInt8), ([97, 98] : List UInt8)] : List By)).1 = ([65, 65, 97, 65, 66, 126, 65, 66, 98, 65, 65, 126, 61, 54, 53, 55, 52] : List UInt8)))) rfl) (tm' := [_,_,_,_,_,_,_,_,_,_,_,_,_,_,_,_,_,_,_,_,_,_,_,_,_,_,_,_,_,_,_,_,_,_,_,_,_,_,_,_,_,_,_,_,_,_,_,_,_,_,_,_,_,_,_,_,_,_,_,_,_,_,_,_,_,_,_,_,_,_,_,_,_,_,_,_]) rfl ?_
  refine rl_det (met_some rfl rfl (decide_eq_true (by decide +kernel))) (fun h_ H_ => exd_move (v := .int .i64 ((usesB ([([97, 97] : List UInt8), ([97, 98] : List UInt8)] : List By) 1).1)) rfl) rfl ?_
  refine rl_det (met_some rfl rfl (decide_eq_true (by decide +kernel))) (fun h_ H_ => exd_eql rfl rfl) rfl ?_
  refine rl_det (met_none rfl) (fun h_ H_ => exd_pick_t rfl (decide_eq_true (by decide +kernel)) (v := .bool (decide ((usesB ([([97, 97] : List UInt8), ([97, 98] : List UInt8)] : List By) 1).1 = 2))) rfl) (tm' := [_,_,_,_,_,_,_,_,_,_,_,_,_,_,_,_,_,_,_,_,_,_,_,_,_,_,_,_,_,_,_,_,_,_,_,_,_,_,_,_,_,_,_,_,_,_,_,_,_,_,_,_,_,_,_,_,_,_,_,_,_,_,_,_,_,_,_,_,_,_,_,_,_,_,_,_]) rfl ?_
  refine rl_det (met_none rfl) (fun h_ H_ => exd_move (v := .bool (decide ((usesB ([([97, 97] : List UInt8), ([97, 98] : List UInt8)] : List By) 1).1 = 2))) rfl) rfl ?_
  refine rl_det (met_some rfl rfl (decide_eq_true (by decide +kernel))) (fun h_ H_ => exd_move (v := .int .i64 ((sumB ([65, 65, 120] : List UInt8)).1)) rfl) rfl ?_
  refine rl_det (met_some rfl rfl (decide_eq_true (by decide +kernel))) (fun h_ H_ => exd_eql rfl rfl) (tm' := [_,_,_,_,_,_,_,_,_,_,_,_,_,_,_,_,_,_,_,_,_,_,_,_,_,_,_,_,_,_,_,_,_,_,_,_,_,_,_,_,_,_,_,_,_,_,_,_,_,_,_,_,_,_,_,_,_,_,_,_,_,_,_,_,_,_,_,_,_,_,_,_,_,_,_,_]) rfl ?_
  refine rl_det (met_none rfl) (fun h_ H_ => exd_pick_t rfl (decide_eq_true (by decide +kernel)) (v := .bool (decide ((sumB ([65, 65, 120] : List UInt8)).1 = 555))) rfl) rfl ?_
  refine rl_det (met_none rfl) (fun h_ H_ => exd_move (v := .bool (decide ((sumB ([65, 65, 120] : List UInt8)).1 = 555))) rfl) rfl ?_
  refine rl_det (met_some rfl rfl (decide_eq_true (by decide +kernel))) (fun h_ H_ => exd_move (v := w19) rfl) (tm' := [_,_,_,_,_,_,_,_,_,_,_,_,_,_,_,_,_,_,_,_,_,_,_,_,_,_,_,_,_,_,_,_,_,_,_,_,_,_,_,_,_,_,_,_,_,_,_,_,_,_,_,_,_,_,_,_,_,_,_,_,_,_,_,_,_,_,_,_,_,_,_,_,_,_,_,_]) rfl ?_
  refine rl_buildO ([] : Pcs) (met_some rfl rfl (decide_eq_true (by decide +kernel))) Tryd.underlying22 tS9 tZ9 (Nat.le_of_ble_eq_true rfl) (vs := [(0, sv ([] : List UInt8)), (1, sv ([] : List UInt8))]) rfl rfl (es := [[sv ([] : List UInt8)], [sv ([] : List UInt8)]]) rfl rfl rfl fun v22 X23 o24 => ?_
  have o25 : OwnS 9 1 v22 (scs ([([] : List UInt8), ([] : List UInt8)] : List By)) X23 := o24
  refine rl_perm (List.Perm.append_left _ (List.perm_append_comm_assoc _ _ _)) ?_
  refine rl_own (L' := ([] : Pcs) ++ (X20 ++ (X23 ++ []))) rfl ?_
  refine rl_lastN (A := ([] : Pcs)) o21 (scs_length _) fun p26 a27 cp28 le29 ev_ D30 => ?_
  subst ev_
  refine rl_lastN (A := ([] : Pcs)) o25 (scs_length _) fun p31 a32 cp33 le34 ev_ D35 => ?_
  subst ev_
  refine rl_own (L' := []) rfl ?_
  refine rl_calld (met_some rfl rfl (decide_eq_true (by decide +kernel))) (first := []) (cap := []) rfl rfl fC19 (fun h_ H_ => c19 .lone _ _ (fun b_ o_ e_ => H_.per b_ o_ e_) a27 a32 (((readB ([65, 65, 126, 65, 66, 61, 49, 49, 54, 51] : List UInt8)).2).length) (([([] : List UInt8), ([] : List UInt8)] : List By).length) _ _ ((readB ([65, 65, 126, 65, 66, 61, 49, 49, 54, 51] : List UInt8)).2) ([([] : List UInt8), ([] : List UInt8)] : List By) ((show Strs _ _ _ ((readB ([65, 65, 126, 65, 66, 61, 49, 49, 54, 51] : List UInt8)).2) from D30).mono le34) (show Strs _ _ _ ([([] : List UInt8), ([] : List UInt8)] : List By) from D35) (by decide +kernel)) rfl ?_
  refine rl_det (met_none rfl) (fun h_ H_ => exd_pick_t rfl (decide_eq_true (by decide +kernel)) (v := .bool (decide ((readB ([65, 65, 126, 65, 66, 61, 49, 49, 54, 51] : List UInt8)).2 = ([([] : List UInt8), ([] : List UInt8)] : List By)))) rfl) (tm' := [_,_,_,_,_,_,_,_,_,_,_,_,_,_,_,_,_,_,_,_,_,_,_,_,_,_,_,_,_,_,_,_,_,_,_,_,_,_,_,_,_,_,_,_,_,_,_,_,_,_,_,_,_,_,_,_,_,_,_,_,_,_,_,_,_,_,_,_,_,_,_,_,_,_,_,_]) rfl ?_
  refine rl_det (met_none rfl) (fun h_ H_ => exd_move (v := .bool (decide ((readB ([65, 65, 126, 65, 66, 61, 49, 49, 54, 51] : List UInt8)).2 = ([([] : List UInt8), ([] : List UInt8)] : List By)))) rfl) rfl ?_
  refine rl_det (met_some rfl rfl (decide_eq_true (by decide +kernel))) (fun h_ H_ => exd_move (v := sv ((addB ([65, 65, 120, 65, 65, 126, 61, 49, 56, 57, 54] : List UInt8) ([120] : List UInt8)).1)) rfl) rfl ?_
  refine rl_det (met_some rfl rfl (decide_eq_true (by decide +kernel))) (fun h_ H_ => exd_eqlS (l := (addB ([65, 65, 120, 65, 65, 126, 61, 49, 56, 57, 54] : List UInt8) ([120] : List UInt8)).1) (m := ([65, 65, 120, 65, 65, 126, 65, 66, 126, 61, 52, 48, 49, 51] : List UInt8)) rfl rfl) (tm' := [_,_,_,_,_,_,_,_,_,_,_,_,_,_,_,_,_,_,_,_,_,_,_,_,_,_,_,_,_,_,_,_,_,_,_,_,_,_,_,_,_,_,_,_,_,_,_,_,_,_,_,_,_,_,_,_,_,_,_,_,_,_,_,_,_,_,_,_,_,_,_,_,_,_,_,_]) rfl ?_
  refine rl_det (met_none rfl) (fun h_ H_ => exd_pick_t rfl (decide_eq_true (by decide +kernel)) (v := .bool (decide ((addB ([65, 65, 120, 65, 65, 126, 61, 49, 56, 57, 54] : List UInt8) ([120] : List UInt8)).1 = ([65, 65, 120, 65, 65, 126, 65, 66, 126, 61, 52, 48, 49, 51] : List UInt8)))) rfl) rfl ?_
  refine rl_det (met_none rfl) (fun h_ H_ => exd_move (v := .bool (decide ((addB ([65, 65, 120, 65, 65, 126, 61, 49, 56, 57, 54] : List UInt8) ([120] : List UInt8)).1 = ([65, 65, 120, 65, 65, 126, 65, 66, 126, 61, 52, 48, 49, 51] : List UInt8)))) rfl) rfl ?_
  refine rl_calld (met_some rfl rfl (decide_eq_true (by decide +kernel))) (first := []) (cap := []) rfl rfl fC20 (fun h_ H_ => c20 _ (htab.keep H_.kept) ([65, 66, 126, 61, 48, 53, 55, 53] : List UInt8) (by decide)) (tm' := [_,_,_,_,_,_,_,_,_,_,_,_,_,_,_,_,_,_,_,_,_,_,_,_,_,_,_,_,_,_,_,_,_,_,_,_,_,_,_,_,_,_,_,_,_,_,_,_,_,_,_,_,_,_,_,_,_,_,_,_,_,_,_,_,_,_,_,_,_,_,_,_,_,_,_,_]) rfl ?_
  refine rl_det (met_some rfl rfl (decide_eq_true (by decide +kernel))) (fun h_ H_ => exd_eql rfl rfl) rfl ?_
  refine rl_det (met_none rfl) (fun h_ H_ => exd_pick_t rfl (decide_eq_true (by decide +kernel)) (v := .bool (decide (stateB ([65, 66, 126, 61, 48, 53, 55, 53] : List UInt8) = 4))) rfl) rfl ?_
  refine rl_det (met_none rfl) (fun h_ H_ => exd_assign (v := .bool (decide (stateB ([65, 66, 126, 61, 48, 53, 55, 53] : List UInt8) = 4))) rfl) (tm' := _::_) rfl ?_
  refine rl_end ?_
  refine fl_ret Tryd.func16 rfl (vs := [.bool (decide (stateB ([65, 66, 126, 61, 48, 53, 55, 53] : List UInt8) = 4))]) (fun h_ H_ => ⟨.bool (decide (stateB ([65, 66, 126, 61, 48, 53, 55, 53] : List UInt8) = 4)), _, rfl, rfl, rfl⟩) (v := .bool (decide (stateB ([65, 66, 126, 61, 48, 53, 55, 53] : List UInt8) = 4))) rfl ?_
  exact fun h_ H_ => K _ _ ⟨by rw [decide_eq_true (by decide +kernel)], H_.kept⟩
theorem c17 (h : Heap) (p : PHeap) (hp : Per p h) (htab : Tab h) (a : Option Addr) (n c : Nat) (ts : List By) (T : Strs p a n ts) (hn : n ≤ 1000) (ht : ∀ i, i < n → (ts.getD i []).length ≤ 2 ^ 60) : CallsX Tryd.prog .lone 17 #[.slice a n c] h fun v h' => v = .tuple #[sv (writeB ts).1, .bool (decide (wrOk ts))] ∧ Keep h h' := by
  refine calls_intro (Φ := fun h_ => St h [] p h_ []) Tryd.func17 rfl (tm := [_, _, _, _, _, _, _, _, _, _, _, _, _, _, _, _, _, _, _, _, _, _, _, _, _, _]) rfl ?_ (St.start h _ hp)
  intro c₀ cs Stop K
  have hl := T.len
  refine fl_seq ?_
  refine rl_start ?_
  refine rl_det (met_none rfl) (fun h_ H_ => exd_assign (v := sv ([] : List UInt8)) rfl) rfl ?_
  refine rl_det (met_none rfl) (fun h_ H_ => exd_assign (v := .bool (false)) rfl) rfl ?_
  refine rl_end ?_
  refine fl_seq ?_
  refine rl_start ?_
  refine rl_own (L' := ([] : Pcs) ++ []) rfl ?_
  refine rl_buildO ([] : Pcs) (met_none rfl) Tryd.underlying22 tS9 tZ9 (Nat.le_of_ble_eq_true rfl) (vs := []) rfl rfl (es := []) rfl rfl rfl fun v1 X2 o3 => ?_
  have o4 : OwnS 9 1 v1 (scs ([] : List By)) X2 := o3
  refine rl_norm (tm' := _::_::_::_::_::_::_::_::_) rfl ?_
  refine rl_det (met_none rfl) (fun h_ H_ => exd_move (v := .slice a n c) rfl) rfl ?_
  refine rl_appendP ([] : Pcs) X2 (met_none rfl) Tryd.underlying22 tS9 tZ9 rfl tB9 Tryd.underlying22 rfl rfl o4 T (scs_ones _) (by show (0 + _) * _ ≤ _; omega) (by decide) (by decide) fun v5 X6 o7 => ?_
  have o8 : OwnS 9 1 v5 (scs ts) X6 := o7.as rfl
  refine rl_lastN (A := ([] : Pcs)) o8 (scs_length _) fun p9 a10 cp11 le12 ev_ D13 => ?_
  subst ev_
  refine rl_own (L' := []) rfl ?_
  refine rl_calld (met_none rfl) (first := []) (cap := []) rfl rfl fC45 (fun h_ H_ => c45 _ _ (fun b_ o_ e_ => H_.per b_ o_ e_) (htab.keep H_.kept) a10 ts.length _ ts (show Strs _ _ _ ts from D13) (by omega) (fun i_ h_ => ht i_ (by omega))) (tm' := _::_::_::_::_::_::_::_::_::_::_::_) rfl ?_
  refine rl_det (met_none rfl) (fun h_ H_ => exd_move (v := .tuple #[sv ((writeB ts).1), .int .i64 ((writeB ts).2)]) rfl) rfl ?_
  refine rl_det (met_none rfl) (fun h_ H_ => exd_extract rfl (v := sv ((writeB ts).1)) rfl) rfl ?_
  refine rl_det (met_none rfl) (fun h_ H_ => exd_extract rfl (v := .int .i64 ((writeB ts).2)) rfl) (tm' := _::_::_::_::_::_::_::_::_::_::_::_::_::_) rfl ?_
  refine rl_det (met_none rfl) (fun h_ H_ => exd_assign (v := sv ((writeB ts).1)) rfl) rfl ?_
  refine rl_det (met_none rfl) (fun h_ H_ => exd_assign (v := .int .i64 ((writeB ts).2)) rfl) rfl ?_
  refine rl_end ?_
  refine fl_seq ?_
  refine rl_start ?_
  refine rl_det (met_none rfl) (fun h_ H_ => exd_move (v := sv ((writeB ts).1)) rfl) (tm' := _::_::_::_::_::_::_::_::_::_::_::_::_::_::_) rfl ?_
  refine rl_det (met_none rfl) (fun h_ H_ => exd_move (v := .int .i64 ((writeB ts).2)) rfl) rfl ?_
  refine rl_det (met_none rfl) (fun h_ H_ => exd_eql rfl rfl) rfl ?_
  refine rl_det (met_none rfl) (fun h_ H_ => exd_move (v := .bool (decide ((writeB ts).2 = 0))) rfl) (tm' := _::_::_::_::_::_::_::_::_::_::_::_::_::_::_::_::_::_) rfl ?_
  by_cases cc14 : (writeB ts).2 = 0
  · refine rl_det (met_some rfl rfl (decide_eq_true cc14)) (fun h_ H_ => exd_move (v := sv ((writeB ts).1)) rfl) rfl ?_
    refine rl_det (met_some rfl rfl (decide_eq_true cc14)) (fun h_ H_ => exd_lenS (l := (writeB ts).1) Tryd.underlying9 rfl) rfl ?_
    refine rl_det (met_some rfl rfl (decide_eq_true cc14)) (fun h_ H_ => exd_geq rfl rfl) (tm' := [_,_,_,_,_,_,_,_,_,_,_,_,_,_,_,_,_,_,_,_,_,_,_,_,_,_]) rfl ?_
    refine rl_det (met_none rfl) (fun h_ H_ => exd_pick_t rfl (decide_eq_true cc14) (v := .bool (decide (5 ≤ ((((writeB ts).1).length : Nat) : Int)))) rfl) rfl ?_
    refine rl_det (met_none rfl) (fun h_ H_ => exd_move (v := .bool (decide (5 ≤ ((((writeB ts).1).length : Nat) : Int)))) rfl) rfl ?_
    by_cases cc15 : 5 ≤ ((((writeB ts).1).length : Nat) : Int)
    · refine rl_det (met_some rfl rfl (decide_eq_true cc15)) (fun h_ H_ => exd_move (v := sv ((writeB ts).1)) rfl) (tm' := [_,_,_,_,_,_,_,_,_,_,_,_,_,_,_,_,_,_,_,_,_,_,_,_,_,_]) rfl ?_
      refine rl_det (met_some rfl rfl (decide_eq_true cc15)) (fun h_ H_ => exd_lenS (l := (writeB ts).1) Tryd.underlying9 rfl) rfl ?_
      refine rl_det (met_some rfl rfl (decide_eq_true cc15)) (fun h_ H_ => exd_leq rfl rfl) rfl ?_
      refine rl_det (met_none rfl) (fun h_ H_ => exd_pick_t rfl (decide_eq_true cc15) (v := .bool (decide (((((writeB ts).1).length : Nat) : Int) ≤ 1400))) rfl) (tm' := [_,_,_,_,_,_,_,_,_,_,_,_,_,_,_,_,_,_,_,_,_,_,_,_,_,_]) rfl ?_
      refine rl_det (met_none rfl) (fun h_ H_ => exd_assign (v := sv ((writeB ts).1)) rfl) rfl ?_
      refine rl_det (met_none rfl) (fun h_ H_ => exd_assign (v := .bool (decide (((((writeB ts).1).length : Nat) : Int) ≤ 1400))) rfl) rfl ?_
      refine rl_end ?_
      refine fl_ret Tryd.func17 rfl (vs := [sv ((writeB ts).1), .bool (decide (((((writeB ts).1).length : Nat) : Int) ≤ 1400))]) (fun h_ H_ => ⟨sv ((writeB ts).1), _, rfl, rfl, ⟨.bool (decide (((((writeB ts).1).length : Nat) : Int) ≤ 1400)), _, rfl, rfl, rfl⟩⟩) (v := .tuple #[sv ((writeB ts).1), .bool (decide (((((writeB ts).1).length : Nat) : Int) ≤ 1400))]) rfl ?_
      exact fun h_ H_ => K _ _ ⟨congrArg (fun b_ => Value.tuple #[sv (writeB ts).1, .bool b_]) (decide_eq_decide.2 (by unfold wrOk; omega)), H_.kept⟩
    · refine rl_pass (met_not rfl rfl (decide_eq_false cc15)) (tm' := [_,_,_,_,_,_,_,_,_,_,_,_,_,_,_,_,_,_,_,_,_,_,_,_,_,_]) rfl ?_
      refine rl_pass (met_not rfl rfl (decide_eq_false cc15)) rfl ?_
      refine rl_pass (met_not rfl rfl (decide_eq_false cc15)) rfl ?_
      refine rl_det (met_none rfl) (fun h_ H_ => exd_pick_f rfl (decide_eq_false cc15) (v := .bool (false)) rfl) (tm' := [_,_,_,_,_,_,_,_,_,_,_,_,_,_,_,_,_,_,_,_,_,_,_,_,_,_]) rfl ?_
      refine rl_det (met_none rfl) (fun h_ H_ => exd_assign (v := sv ((writeB ts).1)) rfl) rfl ?_
      refine rl_det (met_none rfl) (fun h_ H_ => exd_assign (v := .bool (false)) rfl) rfl ?_
      refine rl_end ?_
      refine fl_ret Tryd.func17 rfl (vs := [sv ((writeB ts).1), .bool (false)]) (fun h_ H_ => ⟨sv ((writeB ts).1), _, rfl, rfl, ⟨.bool (false), _, rfl, rfl, rfl⟩⟩) (v := .tuple #[sv ((writeB ts).1), .bool (false)]) rfl ?_
      exact fun h_ H_ => K _ _ ⟨congrArg (fun b_ => Value.tuple #[sv (writeB ts).1, .bool b_]) ((decide_eq_false (by unfold wrOk; omega)).symm), H_.kept⟩
  · refine rl_pass (met_not rfl rfl (decide_eq_false cc14)) (tm' := [_,_,_,_,_,_,_,_,_,_,_,_,_,_,_,_,_,_,_,_,_,_,_,_,_,_]) rfl ?_
    refine rl_pass (met_not rfl rfl (decide_eq_false cc14)) rfl ?_
    refine rl_pass (met_not rfl rfl (decide_eq_false cc14)) rfl ?_
    refine rl_det (met_none rfl) (fun h_ H_ => exd_pick_f rfl (decide_eq_false cc14) (v := .bool (false)) rfl) (tm' := [_,_,_,_,_,_,_,_,_,_,_,_,_,_,_,_,_,_,_,_,_,_,_,_,_,_]) rfl ?_
    refine rl_det (met_none rfl) (fun h_ H_ => exd_move (v := .bool (false)) rfl) rfl ?_
    refine rl_pass (met_not rfl rfl rfl) rfl ?_
    refine rl_pass (met_not rfl rfl rfl) (tm' := [_,_,_,_,_,_,_,_,_,_,_,_,_,_,_,_,_,_,_,_,_,_,_,_,_,_]) rfl ?_
    refine rl_pass (met_not rfl rfl rfl) rfl ?_
    refine rl_det (met_none rfl) (fun h_ H_ => exd_pick_f rfl rfl (v := .bool (false)) rfl) rfl ?_
    refine rl_det (met_none rfl) (fun h_ H_ => exd_assign (v := sv ((writeB ts).1)) rfl) (tm' := _::_::_::_) rfl ?_
    refine rl_det (met_none rfl) (fun h_ H_ => exd_assign (v := .bool (false)) rfl) rfl ?_
    refine rl_end ?_
    refine fl_ret Tryd.func17 rfl (vs := [sv ((writeB ts).1), .bool (false)]) (fun h_ H_ => ⟨sv ((writeB ts).1), _, rfl, rfl, ⟨.bool (false), _, rfl, rfl, rfl⟩⟩) (v := .tuple #[sv ((writeB ts).1), .bool (false)]) rfl ?_
    exact fun h_ H_ => K _ _ ⟨congrArg (fun b_ => Value.tuple #[sv (writeB ts).1, .bool b_]) ((decide_eq_false (by unfold wrOk; omega)).symm), H_.kept⟩
theorem c21 (h : Heap) (htab : Tab h) (s : By) (hs : s.length ≤ 2 ^ 60) : CallsX Tryd.prog .lone 21 #[sv s] h fun v h' => v = .bool (decide ((readB s).1 ≠ 0)) ∧ Keep h h' := by
  refine calls_intro (Φ := fun h_ => St h [] (fun _ => none) h_ []) Tryd.func21 rfl (tm := [_, _, _, _, _, _, _, _, _, _, _, _, _, _, _, _, _, _, _, _, _, _, _, _, _, _, _, _, _, _, _, _, _, _, _, _, _, _, _, _]) rfl ?_ (St.start h _ (fun _ _ e => by cases e))
  intro c₀ cs Stop K
  refine fl_seq ?_
  refine rl_start ?_
  refine rl_det (met_none rfl) (fun h_ H_ => exd_assign (v := .bool (false)) rfl) (tm' := _::_::_::_) rfl ?_
  refine rl_end ?_
  refine fl_seq ?_
  refine rl_start ?_
  refine rl_det (met_none rfl) (fun h_ H_ => exd_move (v := sv s) rfl) rfl ?_
  refine rl_own (L' := ([] : Pcs) ++ []) rfl ?_
  refine rl_call (met_none rfl) (first := []) (cap := []) rfl rfl fC18 (R := fun v_ h_ => ∃ w1 : Value, ∃ X2 : Pcs, v_ = .tuple #[w1, .int .i64 ((readB s).1)] ∧ (OwnS 9 1 w1 (scs ((readB s).2)) X2) ∧ St h [] (fun _ => none) h_ (([] : Pcs) ++ (X2 ++ []))) (fun h_ H_ => (c18 _ (htab.keep H_.kept) s (by omega)).mono fun v_ h2_ ⟨w1, X2, e_, o3, N_⟩ => ⟨w1, X2, e_, o3, H_.callNA N_⟩) fun v_ => ?_
  refine rl_ex fun w1 => rl_ex fun X2 => rl_and fun ev_ => rl_and fun o3 => ?_
  have ev_ := ev_.symm; subst ev_
  refine rl_own (L' := ([] : Pcs) ++ (X2 ++ [])) rfl ?_
  refine rl_det (met_none rfl) (fun h_ H_ => exd_move (v := .tuple #[w1, .int .i64 ((readB s).1)]) rfl) (tm' := _::_::_::_::_::_::_::_) rfl ?_
  refine rl_det (met_none rfl) (fun h_ H_ => exd_extract rfl (v := w1) rfl) rfl ?_
  refine rl_det (met_none rfl) (fun h_ H_ => exd_extract rfl (v := .int .i64 ((readB s).1)) rfl) rfl ?_
  refine rl_det (met_none rfl) (fun h_ H_ => exd_assign (v := w1) rfl) (tm' := _::_::_::_::_) rfl ?_
  refine rl_det (met_none rfl) (fun h_ H_ => exd_assign (v := .int .i64 ((readB s).1)) rfl) rfl ?_
  refine rl_end ?_
  refine fl_seq ?_
  refine rl_start ?_
  refine rl_det (met_none rfl) (fun h_ H_ => exd_move (v := sv s) rfl) rfl ?_
  refine rl_calld (met_none rfl) (first := []) (cap := []) rfl rfl fC20 (fun h_ H_ => c20 _ (htab.keep H_.kept) s (by omega)) (tm' := _::_::_::_::_::_::_::_::_::_::_::_::_::_) rfl ?_
  refine rl_det (met_none rfl) (fun h_ H_ => exd_assign (v := .int .i64 (stateB s)) rfl) rfl ?_
  refine rl_end ?_
  refine fl_seq ?_
  refine rl_start ?_
  refine rl_det (met_none rfl) (fun h_ H_ => exd_move (v := w1) rfl) rfl ?_
  refine rl_det (met_none rfl) (fun h_ H_ => exd_lenN o3 (scs_length _) Tryd.underlying22 rfl) (tm' := _::_::_::_::_::_::_::_::_::_::_::_::_::_::_::_) rfl ?_
  refine rl_det (met_none rfl) (fun h_ H_ => exd_eql rfl rfl) rfl ?_
  refine rl_det (met_none rfl) (fun h_ H_ => exd_move (v := .bool (decide (((((readB s).2).length : Nat) : Int) = 0))) rfl) rfl ?_
  by_cases cc4 : ((((readB s).2).length : Nat) : Int) = 0
  · refine rl_det (met_some rfl rfl (decide_eq_true cc4)) (fun h_ H_ => exd_move (v := .int .i64 ((readB s).1)) rfl) (tm' := _::_::_::_::_::_::_::_::_::_::_::_::_::_::_::_::_::_::_) rfl ?_
    refine rl_det (met_some rfl rfl (decide_eq_true cc4)) (fun h_ H_ => exd_eql rfl rfl) rfl ?_
    refine rl_det (met_some rfl rfl (decide_eq_true cc4)) (fun h_ H_ => exd_move (v := .bool (decide ((readB s).1 = 140))) rfl) rfl ?_
    by_cases cc5 : (readB s).1 = 140
    · refine rl_det (met_some rfl rfl (decide_eq_true cc5)) (fun h_ H_ => exd_move (v := .int .i64 (stateB s)) rfl) (tm' := _::_::_::_::_::_::_::_::_::_::_::_::_::_::_::_::_::_::_::_::_::_) rfl ?_
      refine rl_det (met_some rfl rfl (decide_eq_true cc5)) (fun h_ H_ => exd_eql rfl rfl) rfl ?_
      refine rl_det (met_some rfl rfl (decide_eq_true cc4)) (fun h_ H_ => exd_pick_t rfl (decide_eq_true cc5) (v := .bool (decide (stateB s = 2))) rfl) rfl ?_
      refine rl_det (met_some rfl rfl (decide_eq_true cc4)) (fun h_ H_ => exd_move (v := .bool (decide (stateB s = 2))) rfl) (tm' := _::_::_::_::_::_::_::_::_::_::_::_::_::_::_::_::_::_::_::_::_::_::_::_::_) rfl ?_
      by_cases cc6 : stateB s = 2
      · refine rl_pass (met_not rfl rfl (decide_eq_true cc6)) rfl ?_
        refine rl_pass (met_not rfl rfl (decide_eq_true cc6)) rfl ?_
        refine rl_pass (met_not rfl rfl (decide_eq_true cc6)) (tm' := [_,_,_,_,_,_,_,_,_,_,_,_,_,_,_,_,_,_,_,_,_,_,_,_,_,_,_,_,_,_,_,_,_,_,_,_,_,_,_,_]) rfl ?_
        refine rl_pass (met_undef rfl rfl) rfl ?_
        refine rl_pass (met_undef rfl rfl) rfl ?_
        refine rl_pass (met_not rfl rfl (decide_eq_true cc6)) (tm' := [_,_,_,_,_,_,_,_,_,_,_,_,_,_,_,_,_,_,_,_,_,_,_,_,_,_,_,_,_,_,_,_,_,_,_,_,_,_,_,_]) rfl ?_
        refine rl_det (met_some rfl rfl (decide_eq_true cc4)) (fun h_ H_ => exd_pick_t rfl (decide_eq_true cc6) (v := .bool (true)) rfl) rfl ?_
        refine rl_det (met_some rfl rfl (decide_eq_true cc4)) (fun h_ H_ => exd_move (v := .bool (true)) rfl) rfl ?_
        refine rl_pass (met_not rfl rfl rfl) (tm' := [_,_,_,_,_,_,_,_,_,_,_,_,_,_,_,_,_,_,_,_,_,_,_,_,_,_,_,_,_,_,_,_,_,_,_,_,_,_,_,_]) rfl ?_
        refine rl_pass (met_not rfl rfl rfl) rfl ?_
        refine rl_pass (met_not rfl rfl rfl) rfl ?_
        refine rl_pass (met_undef rfl rfl) (tm' := [_,_,_,_,_,_,_,_,_,_,_,_,_,_,_,_,_,_,_,_,_,_,_,_,_,_,_,_,_,_,_,_,_,_,_,_,_,_,_,_]) rfl ?_
        refine rl_pass (met_undef rfl rfl) rfl ?_
        refine rl_pass (met_not rfl rfl rfl) rfl ?_
        refine rl_det (met_some rfl rfl (decide_eq_true cc4)) (fun h_ H_ => exd_pick_t rfl rfl (v := .bool (true)) rfl) (tm' := [_,_,_,_,_,_,_,_,_,_,_,_,_,_,_,_,_,_,_,_,_,_,_,_,_,_,_,_,_,_,_,_,_,_,_,_,_,_,_,_]) rfl ?_
        refine rl_det (met_none rfl) (fun h_ H_ => exd_pick_t rfl (decide_eq_true cc4) (v := .bool (true)) rfl) rfl ?_
        refine rl_det (met_none rfl) (fun h_ H_ => exd_assign (v := .bool (true)) rfl) rfl ?_
        refine rl_end ?_
        refine fl_ret Tryd.func21 rfl (vs := [.bool (true)]) (fun h_ H_ => ⟨.bool (true), _, rfl, rfl, rfl⟩) (v := .bool (true)) rfl ?_
        have hc := read_cases s
        exact fun h_ H_ => K _ _ ⟨congrArg Value.bool ((decide_eq_true (by omega)).symm), H_.kept⟩
      · refine rl_det (met_some rfl rfl (decide_eq_false cc6)) (fun h_ H_ => exd_move (v := .int .i64 ((readB s).1)) rfl) (tm' := _::_::_::_::_::_::_::_::_::_::_::_::_::_::_::_::_::_::_::_::_::_::_::_::_::_) rfl ?_
        refine rl_det (met_some rfl rfl (decide_eq_false cc6)) (fun h_ H_ => exd_eql rfl rfl) rfl ?_
        refine rl_det (met_some rfl rfl (decide_eq_false cc6)) (fun h_ H_ => exd_move (v := .bool (decide ((readB s).1 = 141))) rfl) rfl ?_
        by_cases cc7 : (readB s).1 = 141
        · refine rl_det (met_some rfl rfl (decide_eq_true cc7)) (fun h_ H_ => exd_move (v := .int .i64 (stateB s)) rfl) (tm' := [_,_,_,_,_,_,_,_,_,_,_,_,_,_,_,_,_,_,_,_,_,_,_,_,_,_,_,_,_,_,_,_,_,_,_,_,_,_,_,_]) rfl ?_
          refine rl_det (met_some rfl rfl (decide_eq_true cc7)) (fun h_ H_ => exd_eql rfl rfl) rfl ?_
          refine rl_det (met_some rfl rfl (decide_eq_false cc6)) (fun h_ H_ => exd_pick_t rfl (decide_eq_true cc7) (v := .bool (decide (stateB s = 3))) rfl) rfl ?_
          refine rl_det (met_some rfl rfl (decide_eq_true cc4)) (fun h_ H_ => exd_pick_f rfl (decide_eq_false cc6) (v := .bool (decide (stateB s = 3))) rfl) (tm' := [_,_,_,_,_,_,_,_,_,_,_,_,_,_,_,_,_,_,_,_,_,_,_,_,_,_,_,_,_,_,_,_,_,_,_,_,_,_,_,_]) rfl ?_
          refine rl_det (met_some rfl rfl (decide_eq_true cc4)) (fun h_ H_ => exd_move (v := .bool (decide (stateB s = 3))) rfl) rfl ?_
          by_cases cc8 : stateB s = 3
          · refine rl_pass (met_not rfl rfl (decide_eq_true cc8)) rfl ?_
            refine rl_pass (met_not rfl rfl (decide_eq_true cc8)) (tm' := [_,_,_,_,_,_,_,_,_,_,_,_,_,_,_,_,_,_,_,_,_,_,_,_,_,_,_,_,_,_,_,_,_,_,_,_,_,_,_,_]) rfl ?_
            refine rl_pass (met_not rfl rfl (decide_eq_true cc8)) rfl ?_
            refine rl_pass (met_undef rfl rfl) rfl ?_
            refine rl_pass (met_undef rfl rfl) (tm' := [_,_,_,_,_,_,_,_,_,_,_,_,_,_,_,_,_,_,_,_,_,_,_,_,_,_,_,_,_,_,_,_,_,_,_,_,_,_,_,_]) rfl ?_
            refine rl_pass (met_not rfl rfl (decide_eq_true cc8)) rfl ?_
            refine rl_det (met_some rfl rfl (decide_eq_true cc4)) (fun h_ H_ => exd_pick_t rfl (decide_eq_true cc8) (v := .bool (true)) rfl) rfl ?_
            refine rl_det (met_none rfl) (fun h_ H_ => exd_pick_t rfl (decide_eq_true cc4) (v := .bool (true)) rfl) (tm' := [_,_,_,_,_,_,_,_,_,_,_,_,_,_,_,_,_,_,_,_,_,_,_,_,_,_,_,_,_,_,_,_,_,_,_,_,_,_,_,_]) rfl ?_
            refine rl_det (met_none rfl) (fun h_ H_ => exd_assign (v := .bool (true)) rfl) rfl ?_
            refine rl_end ?_
            refine fl_ret Tryd.func21 rfl (vs := [.bool (true)]) (fun h_ H_ => ⟨.bool (true), _, rfl, rfl, rfl⟩) (v := .bool (true)) rfl ?_
            have hc := read_cases s
            exact fun h_ H_ => K _ _ ⟨congrArg Value.bool ((decide_eq_true (by omega)).symm), H_.kept⟩
          · refine rl_det (met_some rfl rfl (decide_eq_false cc8)) (fun h_ H_ => exd_move (v := .int .i64 ((readB s).1)) rfl) rfl ?_
            refine rl_det (met_some rfl rfl (decide_eq_false cc8)) (fun h_ H_ => exd_eql rfl rfl) (tm' := [_,_,_,_,_,_,_,_,_,_,_,_,_,_,_,_,_,_,_,_,_,_,_,_,_,_,_,_,_,_,_,_,_,_,_,_,_,_,_,_]) rfl ?_
            refine rl_det (met_some rfl rfl (decide_eq_false cc8)) (fun h_ H_ => exd_move (v := .bool (decide ((readB s).1 = 142))) rfl) rfl ?_
            by_cases cc9 : (readB s).1 = 142
            · refine rl_det (met_some rfl rfl (decide_eq_true cc9)) (fun h_ H_ => exd_move (v := .int .i64 (stateB s)) rfl) rfl ?_
              refine rl_det (met_some rfl rfl (decide_eq_true cc9)) (fun h_ H_ => exd_eql rfl rfl) (tm' := [_,_,_,_,_,_,_,_,_,_,_,_,_,_,_,_,_,_,_,_,_,_,_,_,_,_,_,_,_,_,_,_,_,_,_,_,_,_,_,_]) rfl ?_
              refine rl_det (met_some rfl rfl (decide_eq_false cc8)) (fun h_ H_ => exd_pick_t rfl (decide_eq_true cc9) (v := .bool (decide (stateB s = 4))) rfl) rfl ?_
              refine rl_det (met_some rfl rfl (decide_eq_true cc4)) (fun h_ H_ => exd_pick_f rfl (decide_eq_false cc8) (v := .bool (decide (stateB s = 4))) rfl) rfl ?_
              refine rl_det (met_none rfl) (fun h_ H_ => exd_pick_t rfl (decide_eq_true cc4) (v := .bool (decide (stateB s = 4))) rfl) (tm' := [_,_,_,_,_,_,_,_,_,_,_,_,_,_,_,_,_,_,_,_,_,_,_,_,_,_,_,_,_,_,_,_,_,_,_,_,_,_,_,_]) rfl ?_
              refine rl_det (met_none rfl) (fun h_ H_ => exd_assign (v := .bool (decide (stateB s = 4))) rfl) rfl ?_
              refine rl_end ?_
              refine fl_ret Tryd.func21 rfl (vs := [.bool (decide (stateB s = 4))]) (fun h_ H_ => ⟨.bool (decide (stateB s = 4)), _, rfl, rfl, rfl⟩) (v := .bool (decide (stateB s = 4))) rfl ?_
              have hc := read_cases s
              exact fun h_ H_ => K _ _ ⟨congrArg Value.bool (decide_eq_decide.2 (by omega)), H_.kept⟩
            · refine rl_pass (met_not rfl rfl (decide_eq_false cc9)) rfl ?_
              refine rl_pass (met_not rfl rfl (decide_eq_false cc9)) (tm' := [_,_,_,_,_,_,_,_,_,_,_,_,_,_,_,_,_,_,_,_,_,_,_,_,_,_,_,_,_,_,_,_,_,_,_,_,_,_,_,_]) rfl ?_
              refine rl_det (met_some rfl rfl (decide_eq_false cc8)) (fun h_ H_ => exd_pick_f rfl (decide_eq_false cc9) (v := .bool (false)) rfl) rfl ?_
              refine rl_det (met_some rfl rfl (decide_eq_true cc4)) (fun h_ H_ => exd_pick_f rfl (decide_eq_false cc8) (v := .bool (false)) rfl) rfl ?_
              refine rl_det (met_none rfl) (fun h_ H_ => exd_pick_t rfl (decide_eq_true cc4) (v := .bool (false)) rfl) (tm' := [_,_,_,_,_,_,_,_,_,_,_,_,_,_,_,_,_,_,_,_,_,_,_,_,_,_,_,_,_,_,_,_,_,_,_,_,_,_,_,_]) rfl ?_
              refine rl_det (met_none rfl) (fun h_ H_ => exd_assign (v := .bool (false)) rfl) rfl ?_
              refine rl_end ?_
              refine fl_ret Tryd.func21 rfl (vs := [.bool (false)]) (fun h_ H_ => ⟨.bool (false), _, rfl, rfl, rfl⟩) (v := .bool (false)) rfl ?_
              have hc := read_cases s
              exact fun h_ H_ => K _ _ ⟨congrArg Value.bool ((decide_eq_false (by omega)).symm), H_.kept⟩
        · refine rl_pass (met_not rfl rfl (decide_eq_false cc7)) rfl ?_
          refine rl_pass (met_not rfl rfl (decide_eq_false cc7)) (tm' := [_,_,_,_,_,_,_,_,_,_,_,_,_,_,_,_,_,_,_,_,_,_,_,_,_,_,_,_,_,_,_,_,_,_,_,_,_,_,_,_]) rfl ?_
          refine rl_det (met_some rfl rfl (decide_eq_false cc6)) (fun h_ H_ => exd_pick_f rfl (decide_eq_false cc7) (v := .bool (false)) rfl) rfl ?_
          refine rl_det (met_some rfl rfl (decide_eq_true cc4)) (fun h_ H_ => exd_pick_f rfl (decide_eq_false cc6) (v := .bool (false)) rfl) rfl ?_
          refine rl_det (met_some rfl rfl (decide_eq_true cc4)) (fun h_ H_ => exd_move (v := .bool (false)) rfl) (tm' := [_,_,_,_,_,_,_,_,_,_,_,_,_,_,_,_,_,_,_,_,_,_,_,_,_,_,_,_,_,_,_,_,_,_,_,_,_,_,_,_]) rfl ?_
          refine rl_det (met_some rfl rfl rfl) (fun h_ H_ => exd_move (v := .int .i64 ((readB s).1)) rfl) rfl ?_
          refine rl_det (met_some rfl rfl rfl) (fun h_ H_ => exd_eql rfl rfl) rfl ?_
          refine rl_det (met_some rfl rfl rfl) (fun h_ H_ => exd_move (v := .bool (decide ((readB s).1 = 142))) rfl) (tm' := [_,_,_,_,_,_,_,_,_,_,_,_,_,_,_,_,_,_,_,_,_,_,_,_,_,_,_,_,_,_,_,_,_,_,_,_,_,_,_,_]) rfl ?_
          by_cases cc10 : (readB s).1 = 142
          · refine rl_det (met_some rfl rfl (decide_eq_true cc10)) (fun h_ H_ => exd_move (v := .int .i64 (stateB s)) rfl) rfl ?_
            refine rl_det (met_some rfl rfl (decide_eq_true cc10)) (fun h_ H_ => exd_eql rfl rfl) rfl ?_
            refine rl_det (met_some rfl rfl rfl) (fun h_ H_ => exd_pick_t rfl (decide_eq_true cc10) (v := .bool (decide (stateB s = 4))) rfl) (tm' := [_,_,_,_,_,_,_,_,_,_,_,_,_,_,_,_,_,_,_,_,_,_,_,_,_,_,_,_,_,_,_,_,_,_,_,_,_,_,_,_]) rfl ?_
            refine rl_det (met_some rfl rfl (decide_eq_true cc4)) (fun h_ H_ => exd_pick_f rfl rfl (v := .bool (decide (stateB s = 4))) rfl) rfl ?_
            refine rl_det (met_none rfl) (fun h_ H_ => exd_pick_t rfl (decide_eq_true cc4) (v := .bool (decide (stateB s = 4))) rfl) rfl ?_
            refine rl_det (met_none rfl) (fun h_ H_ => exd_assign (v := .bool (decide (stateB s = 4))) rfl) (tm' := _::_::_::_) rfl ?_
            refine rl_end ?_
            refine fl_ret Tryd.func21 rfl (vs := [.bool (decide (stateB s = 4))]) (fun h_ H_ => ⟨.bool (decide (stateB s = 4)), _, rfl, rfl, rfl⟩) (v := .bool (decide (stateB s = 4))) rfl ?_
            have hc := read_cases s
            exact fun h_ H_ => K _ _ ⟨congrArg Value.bool (decide_eq_decide.2 (by omega)), H_.kept⟩
          · refine rl_pass (met_not rfl rfl (decide_eq_false cc10)) rfl ?_
            refine rl_pass (met_not rfl rfl (decide_eq_false cc10)) rfl ?_
            refine rl_det (met_some rfl rfl rfl) (fun h_ H_ => exd_pick_f rfl (decide_eq_false cc10) (v := .bool (false)) rfl) (tm' := [_,_,_,_,_,_,_,_,_,_,_,_,_,_,_,_,_,_,_,_,_,_,_,_,_,_,_,_,_,_,_,_,_,_,_,_,_,_,_,_]) rfl ?_
            refine rl_det (met_some rfl rfl (decide_eq_true cc4)) (fun h_ H_ => exd_pick_f rfl rfl (v := .bool (false)) rfl) rfl ?_
            refine rl_det (met_none rfl) (fun h_ H_ => exd_pick_t rfl (decide_eq_true cc4) (v := .bool (false)) rfl) rfl ?_
            refine rl_det (met_none rfl) (fun h_ H_ => exd_assign (v := .bool (false)) rfl) (tm' := _::_::_::_) rfl ?_
            refine rl_end ?_
            refine fl_ret Tryd.func21 rfl (vs := [.bool (false)]) (fun h_ H_ => ⟨.bool (false), _, rfl, rfl, rfl⟩) (v := .bool (false)) rfl ?_
            have hc := read_cases s
            exact fun h_ H_ => K _ _ ⟨congrArg Value.bool ((decide_eq_false (by omega)).symm), H_.kept⟩
    · refine rl_pass (met_not rfl rfl (decide_eq_false cc5)) rfl ?_
      refine rl_pass (met_not rfl rfl (decide_eq_false cc5)) rfl ?_
      refine rl_det (met_some rfl rfl (decide_eq_true cc4)) (fun h_ H_ => exd_pick_f rfl (decide_eq_false cc5) (v := .bool (false)) rfl) (tm' := _::_::_::_::_::_::_::_::_::_::_::_::_::_::_::_::_::_::_::_::_::_::_::_) rfl ?_
      refine rl_det (met_some rfl rfl (decide_eq_true cc4)) (fun h_ H_ => exd_move (v := .bool (false)) rfl) rfl ?_
      refine rl_det (met_some rfl rfl rfl) (fun h_ H_ => exd_move (v := .int .i64 ((readB s).1)) rfl) rfl ?_
      refine rl_det (met_some rfl rfl rfl) (fun h_ H_ => exd_eql rfl rfl) (tm' := _::_::_::_::_::_::_::_::_::_::_::_::_::_::_::_::_::_::_::_::_::_::_::_::_::_::_) rfl ?_
      refine rl_det (met_some rfl rfl rfl) (fun h_ H_ => exd_move (v := .bool (decide ((readB s).1 = 141))) rfl) rfl ?_
      by_cases cc11 : (readB s).1 = 141
      · refine rl_det (met_some rfl rfl (decide_eq_true cc11)) (fun h_ H_ => exd_move (v := .int .i64 (stateB s)) rfl) rfl ?_
        refine rl_det (met_some rfl rfl (decide_eq_true cc11)) (fun h_ H_ => exd_eql rfl rfl) (tm' := [_,_,_,_,_,_,_,_,_,_,_,_,_,_,_,_,_,_,_,_,_,_,_,_,_,_,_,_,_,_,_,_,_,_,_,_,_,_,_,_]) rfl ?_
        refine rl_det (met_some rfl rfl rfl) (fun h_ H_ => exd_pick_t rfl (decide_eq_true cc11) (v := .bool (decide (stateB s = 3))) rfl) rfl ?_
        refine rl_det (met_some rfl rfl (decide_eq_true cc4)) (fun h_ H_ => exd_pick_f rfl rfl (v := .bool (decide (stateB s = 3))) rfl) rfl ?_
        refine rl_det (met_some rfl rfl (decide_eq_true cc4)) (fun h_ H_ => exd_move (v := .bool (decide (stateB s = 3))) rfl) (tm' := [_,_,_,_,_,_,_,_,_,_,_,_,_,_,_,_,_,_,_,_,_,_,_,_,_,_,_,_,_,_,_,_,_,_,_,_,_,_,_,_]) rfl ?_
        by_cases cc12 : stateB s = 3
        · refine rl_pass (met_not rfl rfl (decide_eq_true cc12)) rfl ?_
          refine rl_pass (met_not rfl rfl (decide_eq_true cc12)) rfl ?_
          refine rl_pass (met_not rfl rfl (decide_eq_true cc12)) (tm' := [_,_,_,_,_,_,_,_,_,_,_,_,_,_,_,_,_,_,_,_,_,_,_,_,_,_,_,_,_,_,_,_,_,_,_,_,_,_,_,_]) rfl ?_
          refine rl_pass (met_undef rfl rfl) rfl ?_
          refine rl_pass (met_undef rfl rfl) rfl ?_
          refine rl_pass (met_not rfl rfl (decide_eq_true cc12)) (tm' := [_,_,_,_,_,_,_,_,_,_,_,_,_,_,_,_,_,_,_,_,_,_,_,_,_,_,_,_,_,_,_,_,_,_,_,_,_,_,_,_]) rfl ?_
          refine rl_det (met_some rfl rfl (decide_eq_true cc4)) (fun h_ H_ => exd_pick_t rfl (decide_eq_true cc12) (v := .bool (true)) rfl) rfl ?_
          refine rl_det (met_none rfl) (fun h_ H_ => exd_pick_t rfl (decide_eq_true cc4) (v := .bool (true)) rfl) rfl ?_
          refine rl_det (met_none rfl) (fun h_ H_ => exd_assign (v := .bool (true)) rfl) (tm' := _::_::_::_) rfl ?_
          refine rl_end ?_
          refine fl_ret Tryd.func21 rfl (vs := [.bool (true)]) (fun h_ H_ => ⟨.bool (true), _, rfl, rfl, rfl⟩) (v := .bool (true)) rfl ?_
          have hc := read_cases s
          exact fun h_ H_ => K _ _ ⟨congrArg Value.bool ((decide_eq_true (by omega)).symm), H_.kept⟩
        · refine rl_det (met_some rfl rfl (decide_eq_false cc12)) (fun h_ H_ => exd_move (v := .int .i64 ((readB s).1)) rfl) rfl ?_
          refine rl_det (met_some rfl rfl (decide_eq_false cc12)) (fun h_ H_ => exd_eql rfl rfl) rfl ?_
          refine rl_det (met_some rfl rfl (decide_eq_false cc12)) (fun h_ H_ => exd_move (v := .bool (decide ((readB s).1 = 142))) rfl) (tm' := [_,_,_,_,_,_,_,_,_,_,_,_,_,_,_,_,_,_,_,_,_,_,_,_,_,_,_,_,_,_,_,_,_,_,_,_,_,_,_,_]) rfl ?_
          by_cases cc13 : (readB s).1 = 142
          · refine rl_det (met_some rfl rfl (decide_eq_true cc13)) (fun h_ H_ => exd_move (v := .int .i64 (stateB s)) rfl) rfl ?_
            refine rl_det (met_some rfl rfl (decide_eq_true cc13)) (fun h_ H_ => exd_eql rfl rfl) rfl ?_
            refine rl_det (met_some rfl rfl (decide_eq_false cc12)) (fun h_ H_ => exd_pick_t rfl (decide_eq_true cc13) (v := .bool (decide (stateB s = 4))) rfl) (tm' := [_,_,_,_,_,_,_,_,_,_,_,_,_,_,_,_,_,_,_,_,_,_,_,_,_,_,_,_,_,_,_,_,_,_,_,_,_,_,_,_]) rfl ?_
            refine rl_det (met_some rfl rfl (decide_eq_true cc4)) (fun h_ H_ => exd_pick_f rfl (decide_eq_false cc12) (v := .bool (decide (stateB s = 4))) rfl) rfl ?_
            refine rl_det (met_none rfl) (fun h_ H_ => exd_pick_t rfl (decide_eq_true cc4) (v := .bool (decide (stateB s = 4))) rfl) rfl ?_
            refine rl_det (met_none rfl) (fun h_ H_ => exd_assign (v := .bool (decide (stateB s = 4))) rfl) (tm' := _::_::_::_) rfl ?_
            refine rl_end ?_
            refine fl_ret Tryd.func21 rfl (vs := [.bool (decide (stateB s = 4))]) (fun h_ H_ => ⟨.bool (decide (stateB s = 4)), _, rfl, rfl, rfl⟩) (v := .bool (decide (stateB s = 4))) rfl ?_
            have hc := read_cases s
            exact fun h_ H_ => K _ _ ⟨congrArg Value.bool (decide_eq_decide.2 (by omega)), H_.kept⟩
          · refine rl_pass (met_not rfl rfl (decide_eq_false cc13)) rfl ?_
            refine rl_pass (met_not rfl rfl (decide_eq_false cc13)) rfl ?_
            refine rl_det (met_some rfl rfl (decide_eq_false cc12)) (fun h_ H_ => exd_pick_f rfl (decide_eq_false cc13) (v := .bool (false)) rfl) (tm' := [_,_,_,_,_,_,_,_,_,_,_,_,_,_,_,_,_,_,_,_,_,_,_,_,_,_,_,_,_,_,_,_,_,_,_,_,_,_,_,_]) rfl ?_
            refine rl_det (met_some rfl rfl (decide_eq_true cc4)) (fun h_ H_ => exd_pick_f rfl (decide_eq_false cc12) (v := .bool (false)) rfl) rfl ?_
            refine rl_det (met_none rfl) (fun h_ H_ => exd_pick_t rfl (decide_eq_true cc4) (v := .bool (false)) rfl) rfl ?_
            refine rl_det (met_none rfl) (fun h_ H_ => exd_assign (v := .bool (false)) rfl) (tm' := _::_::_::_) rfl ?_
            refine rl_end ?_
            refine fl_ret Tryd.func21 rfl (vs := [.bool (false)]) (fun h_ H_ => ⟨.bool (false), _, rfl, rfl, rfl⟩) (v := .bool (false)) rfl ?_
            have hc := read_cases s
            exact fun h_ H_ => K _ _ ⟨congrArg Value.bool ((decide_eq_false (by omega)).symm), H_.kept⟩
      · refine rl_pass (met_not rfl rfl (decide_eq_false cc11)) rfl ?_
        refine rl_pass (met_not rfl rfl (decide_eq_false cc11)) rfl ?_
        refine rl_det (met_some rfl rfl rfl) (fun h_ H_ => exd_pick_f rfl (decide_eq_false cc11) (v := .bool (false)) rfl) (tm' := [_,_,_,_,_,_,_,_,_,_,_,_,_,_,_,_,_,_,_,_,_,_,_,_,_,_,_,_,_,_,_,_,_,_,_,_,_,_,_,_]) rfl ?_
        refine rl_det (met_some rfl rfl (decide_eq_true cc4)) (fun h_ H_ => exd_pick_f rfl rfl (v := .bool (false)) rfl) rfl ?_
        refine rl_det (met_some rfl rfl (decide_eq_true cc4)) (fun h_ H_ => exd_move (v := .bool (false)) rfl) rfl ?_
        refine rl_det (met_some rfl rfl rfl) (fun h_ H_ => exd_move (v := .int .i64 ((readB s).1)) rfl) (tm' := [_,_,_,_,_,_,_,_,_,_,_,_,_,_,_,_,_,_,_,_,_,_,_,_,_,_,_,_,_,_,_,_,_,_,_,_,_,_,_,_]) rfl ?_
        refine rl_det (met_some rfl rfl rfl) (fun h_ H_ => exd_eql rfl rfl) rfl ?_
        refine rl_det (met_some rfl rfl rfl) (fun h_ H_ => exd_move (v := .bool (decide ((readB s).1 = 142))) rfl) rfl ?_
        by_cases cc14 : (readB s).1 = 142
        · refine rl_det (met_some rfl rfl (decide_eq_true cc14)) (fun h_ H_ => exd_move (v := .int .i64 (stateB s)) rfl) (tm' := [_,_,_,_,_,_,_,_,_,_,_,_,_,_,_,_,_,_,_,_,_,_,_,_,_,_,_,_,_,_,_,_,_,_,_,_,_,_,_,_]) rfl ?_
          refine rl_det (met_some rfl rfl (decide_eq_true cc14)) (fun h_ H_ => exd_eql rfl rfl) rfl ?_
          refine rl_det (met_some rfl rfl rfl) (fun h_ H_ => exd_pick_t rfl (decide_eq_true cc14) (v := .bool (decide (stateB s = 4))) rfl) rfl ?_
          refine rl_det (met_some rfl rfl (decide_eq_true cc4)) (fun h_ H_ => exd_pick_f rfl rfl (v := .bool (decide (stateB s = 4))) rfl) (tm' := [_,_,_,_,_,_,_,_,_,_,_,_,_,_,_,_,_,_,_,_,_,_,_,_,_,_,_,_,_,_,_,_,_,_,_,_,_,_,_,_]) rfl ?_
          refine rl_det (met_none rfl) (fun h_ H_ => exd_pick_t rfl (decide_eq_true cc4) (v := .bool (decide (stateB s = 4))) rfl) rfl ?_
          refine rl_det (met_none rfl) (fun h_ H_ => exd_assign (v := .bool (decide (stateB s = 4))) rfl) rfl ?_
          refine rl_end ?_
          refine fl_ret Tryd.func21 rfl (vs := [.bool (decide (stateB s = 4))]) (fun h_ H_ => ⟨.bool (decide (stateB s = 4)), _, rfl, rfl, rfl⟩) (v := .bool (decide (stateB s = 4))) rfl ?_
          have hc := read_cases s
          exact fun h_ H_ => K _ _ ⟨congrArg Value.bool (decide_eq_decide.2 (by omega)), H_.kept⟩
        · refine rl_pass (met_not rfl rfl (decide_eq_false cc14)) (tm' := [_,_,_,_,_,_,_,_,_,_,_,_,_,_,_,_,_,_,_,_,_,_,_,_,_,_,_,_,_,_,_,_,_,_,_,_,_,_,_,_]) rfl ?_
          refine rl_pass (met_not rfl rfl (decide_eq_false cc14)) rfl ?_
          refine rl_det (met_some rfl rfl rfl) (fun h_ H_ => exd_pick_f rfl (decide_eq_false cc14) (v := .bool (false)) rfl) rfl ?_
          refine rl_det (met_some rfl rfl (decide_eq_true cc4)) (fun h_ H_ => exd_pick_f rfl rfl (v := .bool (false)) rfl) (tm' := [_,_,_,_,_,_,_,_,_,_,_,_,_,_,_,_,_,_,_,_,_,_,_,_,_,_,_,_,_,_,_,_,_,_,_,_,_,_,_,_]) rfl ?_
          refine rl_det (met_none rfl) (fun h_ H_ => exd_pick_t rfl (decide_eq_true cc4) (v := .bool (false)) rfl) rfl ?_
          refine rl_det (met_none rfl) (fun h_ H_ => exd_assign (v := .bool (false)) rfl) rfl ?_
          refine rl_end ?_
          refine fl_ret Tryd.func21 rfl (vs := [.bool (false)]) (fun h_ H_ => ⟨.bool (false), _, rfl, rfl, rfl⟩) (v := .bool (false)) rfl ?_
          have hc := read_cases s
          exact fun h_ H_ => K _ _ ⟨congrArg Value.bool ((decide_eq_false (by omega)).symm), H_.kept⟩
  · refine rl_pass (met_not rfl rfl (decide_eq_false cc4)) (tm' := _::_::_::_::_::_::_::_::_::_::_::_::_::_::_::_::_::_::_) rfl ?_
    refine rl_pass (met_not rfl rfl (decide_eq_false cc4)) rfl ?_
    refine rl_pass (met_not rfl rfl (decide_eq_false cc4)) rfl ?_
    refine rl_pass (met_undef rfl rfl) (tm' := _::_::_::_::_::_::_::_::_::_::_::_::_::_::_::_::_::_::_::_::_::_) rfl ?_
    refine rl_pass (met_undef rfl rfl) rfl ?_
    refine rl_pass (met_not rfl rfl (decide_eq_false cc4)) rfl ?_
    refine rl_pass (met_not rfl rfl (decide_eq_false cc4)) (tm' := _::_::_::_::_::_::_::_::_::_::_::_::_::_::_::_::_::_::_::_::_::_::_::_::_) rfl ?_
    refine rl_pass (met_undef rfl rfl) rfl ?_
    refine rl_pass (met_undef rfl rfl) rfl ?_
    refine rl_pass (met_undef rfl rfl) (tm' := [_,_,_,_,_,_,_,_,_,_,_,_,_,_,_,_,_,_,_,_,_,_,_,_,_,_,_,_,_,_,_,_,_,_,_,_,_,_,_,_]) rfl ?_
    refine rl_pass (met_undef rfl rfl) rfl ?_
    refine rl_pass (met_undef rfl rfl) rfl ?_
    refine rl_pass (met_undef rfl rfl) (tm' := [_,_,_,_,_,_,_,_,_,_,_,_,_,_,_,_,_,_,_,_,_,_,_,_,_,_,_,_,_,_,_,_,_,_,_,_,_,_,_,_]) rfl ?_
    refine rl_pass (met_not rfl rfl (decide_eq_false cc4)) rfl ?_
    refine rl_pass (met_not rfl rfl (decide_eq_false cc4)) rfl ?_
    refine rl_pass (met_undef rfl rfl) (tm' := [_,_,_,_,_,_,_,_,_,_,_,_,_,_,_,_,_,_,_,_,_,_,_,_,_,_,_,_,_,_,_,_,_,_,_,_,_,_,_,_]) rfl ?_
    refine rl_pass (met_undef rfl rfl) rfl ?_
    refine rl_pass (met_undef rfl rfl) rfl ?_
    refine rl_pass (met_undef rfl rfl) (tm' := [_,_,_,_,_,_,_,_,_,_,_,_,_,_,_,_,_,_,_,_,_,_,_,_,_,_,_,_,_,_,_,_,_,_,_,_,_,_,_,_]) rfl ?_
    refine rl_pass (met_undef rfl rfl) rfl ?_
    refine rl_pass (met_undef rfl rfl) rfl ?_
    refine rl_pass (met_not rfl rfl (decide_eq_false cc4)) (tm' := [_,_,_,_,_,_,_,_,_,_,_,_,_,_,_,_,_,_,_,_,_,_,_,_,_,_,_,_,_,_,_,_,_,_,_,_,_,_,_,_]) rfl ?_
    refine rl_det (met_none rfl) (fun h_ H_ => exd_pick_f rfl (decide_eq_false cc4) (v := .bool (false)) rfl) rfl ?_
    refine rl_det (met_none rfl) (fun h_ H_ => exd_assign (v := .bool (false)) rfl) rfl ?_
    refine rl_end ?_
    refine fl_ret Tryd.func21 rfl (vs := [.bool (false)]) (fun h_ H_ => ⟨.bool (false), _, rfl, rfl, rfl⟩) (v := .bool (false)) rfl ?_
    have hc := read_cases s
    exact fun h_ H_ => K _ _ ⟨congrArg Value.bool ((decide_eq_false (by omega)).symm), H_.kept⟩
end Go.Proofs.YtiinpnlfdeiloaaDoor
namespace Go.X.Cent
open Go.X Go.Proofs

def tailB (s : By) (n : Nat) : By := s ++ 61 :: four n
theorem seal_tail (s : By) : sealB s = tailB s (total s % 9973) := rfl
theorem four_len (n : Nat) : (four n).length = 4 := rfl
theorem tail_len (s : By) (n : Nat) : (tailB s n).length = s.length + 5 := by simp [tailB, four]
theorem form_tail {s : By} {n : Nat} (hl : s.length ≤ 1395) : formB (tailB s n) = prsS [] s := by
  have h1 := tail_len s n
  have ht : (tailB s n).take ((tailB s n).length - 5) = s := by rw [h1, Nat.add_sub_cancel, tailB, List.take_left' rfl]
  have ha : (tailB s n).getD ((tailB s n).length - 5) 0 = 61 := by
    rw [h1, Nat.add_sub_cancel, tailB, List.getD_eq_getElem?_getD, List.getElem?_append_right (Nat.le_refl _)]
    simp
  have hd : (tailB s n).drop ((tailB s n).length - 4) = four n := by
    rw [h1, show s.length + 5 - 4 = s.length + 1 from by omega, tailB, ← List.drop_drop, List.drop_left' rfl]
    rfl
  rw [formB, if_neg (by rw [ha, h1]; rintro (z | z | z) <;> first | omega | exact z rfl), if_neg, ht]
  rintro ⟨c, hc, z⟩
  rw [hd, four] at hc
  simp only [List.mem_cons, List.not_mem_nil, or_false] at hc
  have := dig_ok (n / 1000)
  have := dig_ok (n / 100)
  have := dig_ok (n / 10)
  have := dig_ok n
  rcases hc with rfl | rfl | rfl | rfl <;> omega
theorem tail_same {s : By} {n : Nat} (hl : s.length ≤ 1395) : formB (tailB s n) = formB (sealB s) := by rw [seal_tail, form_tail hl, form_tail hl]
theorem sum_good {s : By} (h : s.length ≤ 1000) : sumB s = (((total s % 9973 : Nat) : Int), 0) := by rw [sumB, if_neg (by omega)]
theorem body_no {s : By} (h : ¬ bodyOk (sealB s)) : parseB (sealB s) = 140 ∧ ((((formB (sealB s)).getD []).length : Nat) : Int) = 0 ∧ stateB (sealB s) = 2 := by
  have hf : formB (sealB s) = none := by rw [form_same, if_neg h]
  refine ⟨by rw [parseB, hf]; rfl, by rw [hf]; rfl, ?_⟩
  have : readB (sealB s) = (140, []) := by simp only [readB, hf]
  rw [stateB, this]; rfl
theorem refS_len : ∀ {n : Nat} {b : By}, b.length ≤ n → (refS b).length = (b.length + 2) / 3
  | 0, b, h => by
    have : b = [] := List.eq_nil_of_length_eq_zero (by omega)
    subst this; rfl
  | n + 1, b, h => by
    by_cases h0 : b = []
    · subst h0; rfl
    have hp := List.length_pos_iff.2 h0
    rw [refS_cons h0, List.length_cons, refS_len (n := n) (by rw [List.length_drop]; omega), List.length_drop]
    omega
theorem body_yes {s : By} (h : bodyOk (sealB s)) : parseB (sealB s) = 0 ∧ (((formB (sealB s)).getD []).length = (s.length + 2) / 3) ∧ (stateB (sealB s) = 1 ∨ stateB (sealB s) = 4) := by
  have hf : formB (sealB s) = some (parseR (sealB s)) := by rw [form_same, if_pos h]
  refine ⟨by rw [parseB, hf]; rfl, ?_, ?_⟩
  · rw [hf]
    show (parseR (sealB s)).length = _
    rw [parseR, if_pos h, seal_take, refS_len (Nat.le_refl _)]
  · have hn : (readB (sealB s)).1 = 0 ∨ (readB (sealB s)).1 = 142 := by
      have e : sealB ((sealB s).take ((sealB s).length - 5)) = sealB s := by rw [seal_take]
      simp only [readB, hf]
      rw [if_neg (fun z => z e)]
      split
      · exact .inr rfl
      · split
        · exact .inr rfl
        · exact .inl rfl
    rcases hn with e | e
    · exact .inl (by rw [stateB, e]; rfl)
    · exact .inr (by rw [stateB, e]; rfl)
theorem other_state {s : By} {m : Int} (hl : s.length ≤ 1000) (hB : bodyOk (sealB s)) (h0 : 0 ≤ m) (h1 : m ≤ 9999) (hne : ¬ m = (sumB s).1) : stateB (tailB s m.toNat) = 3 := by
  have hf : formB (tailB s m.toNat) = some (parseR (sealB s)) := by rw [tail_same (by omega), form_same, if_pos hB]
  have ht : (tailB s m.toNat).take ((tailB s m.toNat).length - 5) = s := by rw [tail_len, Nat.add_sub_cancel, tailB, List.take_left' rfl]
  have : readB (tailB s m.toNat) = (141, []) := by
    simp only [readB, hf]
    rw [if_pos]
    rw [ht]
    intro e
    rw [seal_tail, tailB, tailB] at e
    have e2 := List.append_cancel_left e
    simp only [List.cons.injEq, true_and] at e2
    have e3 := four_inj (by omega) (by omega) e2
    rw [sum_good hl] at hne
    exact hne (by show m = ((total s % 9973 : Nat) : Int); omega)
  rw [stateB, this]; rfl
theorem other_parse {s : By} {m : Int} (hl : s.length ≤ 1000) (hB : bodyOk (sealB s)) : parseB (tailB s m.toNat) = 0 := by
  rw [parseB, tail_same (by omega), form_same, if_pos hB]; rfl

/-! ### the digits, one by one -/
def dlOf (M j : Nat) : By := List.replicate (4 - j) 48 ++ fourTo M j
theorem dig_nat (n : Nat) : (((dig n).toNat : Nat) : Int) = 48 + ((n : Nat) : Int) % 10 := by
  unfold dig
  rw [UInt8.toNat_ofNat_of_lt' (show 48 + n % 10 < 256 by omega)]
  omega
theorem dl_at {M j : Nat} {z : Int} (hj : j ≤ 3) (hz : z = 3 - ((j : Nat) : Int)) : (bcs (dlOf M j))[z.toNat]? = some [.int .u8 48] := by
  have e : z.toNat = 3 - j := by omega
  rw [e]
  have : j = 0 ∨ j = 1 ∨ j = 2 ∨ j = 3 := by omega
  rcases this with rfl | rfl | rfl | rfl <;> rfl
theorem dl_len (M : Nat) {j : Nat} (hj : j ≤ 4) : (bcs (dlOf M j)).length = 4 := by
  rw [bcs_length]
  have : j = 0 ∨ j = 1 ∨ j = 2 ∨ j = 3 ∨ j = 4 := by omega
  rcases this with rfl | rfl | rfl | rfl | rfl <;> rfl
theorem dl_set {M j : Nat} {z q : Int} (hj : j ≤ 3) (hz : z = 3 - ((j : Nat) : Int)) (hq : q = ((M / 10 ^ j : Nat) : Int)) : (bcs (dlOf M j)).set z.toNat ([Value.int .u8 48].set 0 (.int .u8 (48 + (q % 10)))) = bcs (dlOf M (j + 1)) := by
  have e : z.toNat = 3 - j := by omega
  rw [e, hq, ← dig_nat]
  have : j = 0 ∨ j = 1 ∨ j = 2 ∨ j = 3 := by omega
  rcases this with rfl | rfl | rfl | rfl <;> rfl
theorem dl_end {M j : Nat} (hj : j = 4) : bcs (dlOf M j) = bcs (four M) := by
  subst hj
  rw [dlOf, fourTo_four]; rfl
theorem dl_div {M j : Nat} {q : Int} (hq : q = ((M / 10 ^ j : Nat) : Int)) : q / 10 = ((M / 10 ^ (j + 1) : Nat) : Int) := by
  rw [hq, Nat.pow_succ, ← Nat.div_div_eq_div_mul]
  omega
end Go.X.Cent
