/-
  Part of proofs about the century: a lone run, and what it computes. No condition.
-/
import Derived.Test.YtiinpnlfdeiloaaDoorD2
import Derived.Test.YtiinpnlfdeiloaaDoorD1
import Derived.Test.YtiinpnlfdeiloaaDoorD3
namespace Go.Proofs.YtiinpnlfdeiloaaDoor
open Go.X Go.X.Cent Go.Conc
set_option maxRecDepth 10000

theorem c31 (md : Md) (h : Heap) (p : PHeap) (hp : Per p h) (a : Option Addr) (n c : Nat) (ts : List By) (T : Strs p a n ts) (hn : n ≤ 60) (ht : ∀ t ∈ ts, t.length ≤ 200) : CallsX Tryd.prog md 31 #[.slice a n c] h fun v h' => v = sv (wholeB ts) ∧ Keep h h' := by
  refine calls_intro (Φ := fun h_ => St h [] p h_ []) Tryd.func31 rfl (tm := [_, _, _, _, _, _, _, _, _, _, _, _, _, _, _, _, _, _, _, _]) rfl ?_ (St.start h _ hp)
  intro c₀ cs Stop K
  refine fl_seq ?_
  refine rl_start ?_
  refine rl_det (met_none rfl) (fun h_ H_ => exd_assign (v := sv ([] : List UInt8)) rfl) rfl ?_
  refine rl_end ?_
  refine fl_seq ?_
  refine rl_start ?_
  refine rl_det (met_none rfl) (fun h_ H_ => exd_assign (v := sv ([] : List UInt8)) rfl) rfl ?_
  refine rl_end ?_
  refine fl_seq ?_
  refine fl_seq ?_
  refine rl_start ?_
  refine rl_det (met_none rfl) (fun h_ H_ => exd_assign (v := .int .i64 0) rfl) (tm' := _::_::_::_::_::_) rfl ?_
  refine rl_end ?_
  refine fl_block ?_
  refine fl_loop (m₀ := n - 0) (fun m_ tm_ h_ => ∃ (k : Nat) (l : By), m_ = n - k ∧ (∃ y1 : Nat → Value, tm_ = [.slice a n c, undef, sv ([] : List UInt8), sv l, .int .i64 (((k : Nat) : Int)), (y1 5), (y1 6), (y1 7), (y1 8), (y1 9), (y1 10), (y1 11), (y1 12), (y1 13), (y1 14), (y1 15), (y1 16), (y1 17), (y1 18), undef]) ∧ (k ≤ n) ∧ (l = wholeB (ts.take k)) ∧ St h [] p h_ ([])) (fun h_ H_ => ⟨0, [], rfl, (y_of rfl), Nat.zero_le _, rfl, H_⟩) ?_
  intro m_ tm_ IH2
  refine rs_ex fun k => rs_ex fun l => rs_and fun hm_ => rs_and fun ht_ => rs_and fun hk => rs_and fun hw => ?_
  subst hm_; obtain ⟨y1, ht_⟩ := ht_; subst ht_
  have hl := T.len
  have hb := wholeB_len (ts := ts.take k) (m := 200) (fun t z => ht t (List.mem_of_mem_take z))
  have ht1 : k < n → (ts.getD k []).length ≤ 200 := fun z => ht _ (getD_mem (by omega))
  have hq : (ts.take k).length ≤ 60 := by rw [List.length_take]; omega
  have hq2 := Nat.mul_le_mul_right 201 hq
  rw [← hw] at hb
  refine fl_seq ?_
  refine fl_seq ?_
  refine rl_start ?_
  refine rl_det (met_none rfl) (fun h_ H_ => exd_move (v := .int .i64 (((k : Nat) : Int))) rfl) rfl ?_
  refine rl_det (met_none rfl) (fun h_ H_ => exd_move (v := .slice a n c) rfl) rfl ?_
  refine rl_det (met_none rfl) (fun h_ H_ => exd_len Tryd.underlying22 rfl) (tm' := _::_::_::_::_::_::_::_::_) rfl ?_
  refine rl_det (met_none rfl) (fun h_ H_ => exd_lss rfl rfl) rfl ?_
  refine rl_end ?_
  by_cases cc3 : ((k : Nat) : Int) < ((n : Nat) : Int)
  · refine fl_then rfl (decide_eq_true cc3) ?_
    refine fl_skip ?_
    refine fl_seq ?_
    refine fl_block ?_
    refine fl_drawn2 7 [[], [], [], [1, 2], [1, 2, 3], [], [1, 2, 3, 4, 5], [], []] mixed (by kernel_rfl) (Nat.le_of_ble_eq_true rfl) ?_
    refine swr_det (met_none rfl) (fun h_ H_ => exd_move (v := sv l) rfl) (tm' := _::_::_::_::_::_::_::_::_::_::_::_::_) rfl ?_
    refine swr_det (met_none rfl) (fun h_ H_ => exd_move (v := .slice a n c) rfl) rfl ?_
    refine swr_det (met_none rfl) (fun h_ H_ => exd_move (v := .int .i64 (((k : Nat) : Int))) rfl) (tm' := [_,_,_,_,_,_,_,_,_,_,_,_,_,_,_,_,_,_,_,_]) rfl ?_
    refine swr_det (met_none rfl) (fun h_ H_ => exd_indexAddrN (i := k) Tryd.underlying22 tS9 (sl_ne a n c (T.ne (by omega))) rfl (by omega)) rfl ?_
    refine swr_det (met_none rfl) (fun h_ H_ => exd_load_per H_ tA9 rfl (v := sv (ts.getD k [])) (T.get (by omega))) (tm' := [_,_,_,_,_,_,_,_,_,_,_,_,_,_,_,_,_,_,_,_]) rfl ?_
    refine swr_call (met_none rfl) (first := []) (cap := []) rfl rfl fC64 (fun h_ H_ => (c64 md _ 10 (by omega) (by omega)).mono fun v_ h2_ ⟨e_, k_⟩ => ⟨e_, H_.call k_⟩) rfl ?_
    refine swr_det (met_none rfl) (fun h_ H_ => exd_catS (l := ts.getD k []) (m := [10]) rfl rfl (by first | omega | (simp only [List.length_singleton]; omega) | (simp only [List.length_append, List.length_singleton]; omega))) (tm' := [_,_,_,_,_,_,_,_,_,_,_,_,_,_,_,_,_,_,_,_]) rfl ?_
    refine swr_nil rfl ?_
    refine rl_det (met_none rfl) (fun h_ H_ => exd_catS (l := l) (m := (ts.getD k []) ++ ([10])) rfl rfl (by first | omega | (simp only [List.length_singleton]; omega) | (simp only [List.length_append, List.length_singleton]; omega))) (tm' := [_,_,_,_,_,_,_,_,_,_,_,_,_,_,_,_,_,_,_,_]) rfl ?_
    refine rl_det (met_none rfl) (fun h_ H_ => exd_assign (v := sv (l ++ ((ts.getD k []) ++ ([10])))) rfl) rfl ?_
    refine rl_end ?_
    refine fl_inBlock ?_
    refine rl_start ?_
    refine rl_det (met_none rfl) (fun h_ H_ => exd_move (v := .int .i64 (((k : Nat) : Int))) rfl) rfl ?_
    refine rl_det (met_none rfl) (fun h_ H_ => exd_add rfl rfl (n := ((k + 1 : Nat) : Int)) (wr (by omega))) (tm' := _::_::_::_::_::_::_::_::_::_::_::_) rfl ?_
    refine rl_det (met_none rfl) (fun h_ H_ => exd_assign (v := .int .i64 (((k + 1 : Nat) : Int))) rfl) rfl ?_
    refine rl_end ?_
    exact fun h_ H_ => IH2 _ _ (by omega) h_ ⟨k + 1, l ++ ((ts.getD k []) ++ ([10])), rfl, (y_of rfl), (by omega), (by rw [wholeB_take (by omega), hw, List.append_assoc]), H_⟩
  · refine fl_else rfl (decide_eq_false cc3) ?_
    refine fl_exit rfl ?_
    refine fl_seq ?_
    refine rl_start ?_
    refine rl_det (met_none rfl) (fun h_ H_ => exd_move (v := sv l) rfl) rfl ?_
    refine rl_det (met_none rfl) (fun h_ H_ => exd_assign (v := sv l) rfl) (tm' := _::_::_::_) rfl ?_
    refine rl_end ?_
    refine fl_ret Tryd.func31 rfl (vs := [sv l]) (fun h_ H_ => ⟨sv l, _, rfl, rfl, rfl⟩) (v := sv l) rfl ?_
    obtain rfl : k = n := by omega
    exact fun h_ H_ => K _ _ ⟨by rw [hw, ← hl, List.take_length], H_.kept⟩
end Go.Proofs.YtiinpnlfdeiloaaDoor
namespace Go.Proofs.YtiinpnlfdeiloaaDoor
open Go.X Go.X.Cent Go.Conc
set_option maxRecDepth 10000
set_option synthInstance.maxSize 2000
set_option synthInstance.maxHeartbeats 400000

set_option maxHeartbeats 1000000
end Go.Proofs.YtiinpnlfdeiloaaDoor
namespace Go.Proofs.YtiinpnlfdeiloaaDoor
open Go.X Go.X.Cent Go.Conc
set_option maxRecDepth 10000
set_option synthInstance.maxSize 2000
set_option synthInstance.maxHeartbeats 400000

set_option maxHeartbeats 2000000
end Go.Proofs.YtiinpnlfdeiloaaDoor
namespace Go.Proofs.YtiinpnlfdeiloaaDoor
open Go.X Go.X.Cent Go.Conc
end Go.Proofs.YtiinpnlfdeiloaaDoor
namespace Go.Proofs.YtiinpnlfdeiloaaDoor
open Go.X Go.X.Cent Go.Conc
set_option maxRecDepth 10000
set_option synthInstance.maxSize 2000
set_option synthInstance.maxHeartbeats 400000

set_option maxHeartbeats 1000000
end Go.Proofs.YtiinpnlfdeiloaaDoor
namespace Go.Proofs.YtiinpnlfdeiloaaDoor
open Go.X Go.X.Cent Go.Conc
set_option maxRecDepth 10000
set_option synthInstance.maxSize 2000
set_option synthInstance.maxHeartbeats 400000

set_option maxHeartbeats 1000000
end Go.Proofs.YtiinpnlfdeiloaaDoor
namespace Go.Proofs.YtiinpnlfdeiloaaDoor
open Go.X Go.X.Cent Go.Conc
set_option maxRecDepth 10000
set_option synthInstance.maxSize 2000
set_option synthInstance.maxHeartbeats 400000

set_option maxHeartbeats 1000000
theorem c42 (h : Heap) (p : PHeap) (hp : Per p h) (a : Option Addr) (n c : Nat) (ts : List By) (T : Strs p a n ts) (hn : n ≤ 1000) (ht : ∀ t ∈ ts, t.length ≤ 1000) : CallsX Tryd.prog .lone 42 #[.slice a n c] h fun v h' => v = sv ts.flatten ∧ Keep h h' := by
  refine calls_intro (Φ := fun h_ => St h [] p h_ []) Tryd.func42 rfl (tm := [_, _, _, _, _, _, _, _, _, _, _, _, _, _, _, _, _, _]) rfl ?_ (St.start h _ hp)
  intro c₀ cs Stop K
  have hl := T.len
  refine fl_seq ?_
  refine rl_start ?_
  refine rl_det (met_none rfl) (fun h_ H_ => exd_assign (v := sv ([] : List UInt8)) rfl) rfl ?_
  refine rl_end ?_
  refine fl_seq ?_
  refine rl_start ?_
  refine rl_det (met_none rfl) (fun h_ H_ => exd_assign (v := sv ([] : List UInt8)) rfl) rfl ?_
  refine rl_end ?_
  refine fl_seq ?_
  refine fl_seq ?_
  refine rl_start ?_
  refine rl_det (met_none rfl) (fun h_ H_ => exd_assign (v := .int .i64 0) rfl) (tm' := _::_::_::_::_::_) rfl ?_
  refine rl_end ?_
  refine fl_block ?_
  refine fl_loop (m₀ := n - 0) (fun m_ tm_ h_ => ∃ (k : Nat) (out : By), m_ = n - k ∧ (∃ y1 : Nat → Value, tm_ = [.slice a n c, undef, sv ([] : List UInt8), sv out, .int .i64 (((k : Nat) : Int)), (y1 5), (y1 6), (y1 7), (y1 8), (y1 9), (y1 10), (y1 11), (y1 12), (y1 13), (y1 14), (y1 15), (y1 16), undef]) ∧ (k ≤ n) ∧ (out = (ts.take k).flatten) ∧ St h [] p h_ ([])) (fun h_ H_ => ⟨0, [], rfl, (y_of rfl), Nat.zero_le _, rfl, H_⟩) ?_
  intro m_ tm_ IH2
  refine rs_ex fun k => rs_ex fun out => rs_and fun hm_ => rs_and fun ht_ => rs_and fun hk => rs_and fun ho => ?_
  subst hm_; obtain ⟨y1, ht_⟩ := ht_; subst ht_
  refine fl_seq ?_
  refine fl_seq ?_
  refine rl_start ?_
  refine rl_det (met_none rfl) (fun h_ H_ => exd_move (v := .int .i64 (((k : Nat) : Int))) rfl) rfl ?_
  refine rl_det (met_none rfl) (fun h_ H_ => exd_move (v := .slice a n c) rfl) rfl ?_
  refine rl_det (met_none rfl) (fun h_ H_ => exd_len Tryd.underlying22 rfl) (tm' := _::_::_::_::_::_::_::_::_) rfl ?_
  refine rl_det (met_none rfl) (fun h_ H_ => exd_lss rfl rfl) rfl ?_
  refine rl_end ?_
  by_cases cc3 : ((k : Nat) : Int) < ((n : Nat) : Int)
  · refine fl_then rfl (decide_eq_true cc3) ?_
    refine fl_skip ?_
    refine fl_seq ?_
    refine fl_block ?_
    have htk := ht _ (gmem (d := []) (show k < ts.length by omega))
    have hfk := flat_take_le (k := k) ht
    refine rl_start ?_
    refine rl_det (met_none rfl) (fun h_ H_ => exd_move (v := sv out) rfl) rfl ?_
    refine rl_det (met_none rfl) (fun h_ H_ => exd_move (v := .slice a n c) rfl) (tm' := [_,_,_,_,_,_,_,_,_,_,_,_,_,_,_,_,_,_]) rfl ?_
    refine rl_det (met_none rfl) (fun h_ H_ => exd_move (v := .int .i64 (((k : Nat) : Int))) rfl) rfl ?_
    refine rl_det (met_none rfl) (fun h_ H_ => exd_indexAddrN (i := k) Tryd.underlying22 tS9 (sl_ne a n c (T.ne (by omega))) rfl (by omega)) rfl ?_
    refine rl_det (met_none rfl) (fun h_ H_ => exd_load_per H_ tA9 rfl (v := sv (ts.getD k [])) (T.get (by omega))) (tm' := [_,_,_,_,_,_,_,_,_,_,_,_,_,_,_,_,_,_]) rfl ?_
    refine rl_det (met_none rfl) (fun h_ H_ => exd_catS (l := out) (m := ts.getD k []) rfl rfl (by rw [ho]; omega)) rfl ?_
    refine rl_det (met_none rfl) (fun h_ H_ => exd_assign (v := sv (out ++ (ts.getD k []))) rfl) rfl ?_
    refine rl_end ?_
    refine fl_inBlock ?_
    refine rl_start ?_
    refine rl_det (met_none rfl) (fun h_ H_ => exd_move (v := .int .i64 (((k : Nat) : Int))) rfl) (tm' := _::_::_::_::_::_::_::_::_::_::_) rfl ?_
    refine rl_det (met_none rfl) (fun h_ H_ => exd_add rfl rfl (n := ((k + 1 : Nat) : Int)) (wr (by omega))) rfl ?_
    refine rl_det (met_none rfl) (fun h_ H_ => exd_assign (v := .int .i64 (((k + 1 : Nat) : Int))) rfl) rfl ?_
    refine rl_end ?_
    exact fun h_ H_ => IH2 _ _ (by omega) h_ ⟨k + 1, out ++ (ts.getD k []), rfl, (y_of rfl), (by omega), (by rw [flat_step (by omega), ho]), H_⟩
  · refine fl_else rfl (decide_eq_false cc3) ?_
    refine fl_exit rfl ?_
    refine fl_seq ?_
    refine rl_start ?_
    refine rl_det (met_none rfl) (fun h_ H_ => exd_move (v := sv out) rfl) (tm' := [_,_,_,_,_,_,_,_,_,_,_,_,_,_,_,_,_,_]) rfl ?_
    refine rl_det (met_none rfl) (fun h_ H_ => exd_assign (v := sv out) rfl) rfl ?_
    refine rl_end ?_
    refine fl_ret Tryd.func42 rfl (vs := [sv out]) (fun h_ H_ => ⟨sv out, _, rfl, rfl, rfl⟩) (v := sv out) rfl ?_
    exact fun h_ H_ => K _ _ ⟨by rw [ho, List.take_of_length_le (by omega)], H_.kept⟩
theorem c43 (h : Heap) (p : PHeap) (hp : Per p h) (a : Option Addr) (n c : Nat) (ts : List By) (T : Strs p a n ts) (s : By) (hn : n ≤ 2 ^ 60) : CallsX Tryd.prog .lone 43 #[.slice a n c, sv s] h fun v h' => v = .int .i64 (fndT ts s) ∧ Keep h h' := by
  refine calls_intro (Φ := fun h_ => St h [] p h_ []) Tryd.func43 rfl (tm := [_, _, _, _, _, _, _, _, _, _, _, _, _, _, _, _, _, _, _]) rfl ?_ (St.start h _ hp)
  intro c₀ cs Stop K
  have hl := T.len
  refine fl_seq ?_
  refine rl_start ?_
  refine rl_det (met_none rfl) (fun h_ H_ => exd_assign (v := .int .i64 0) rfl) rfl ?_
  refine rl_end ?_
  refine fl_seq ?_
  refine fl_seq ?_
  refine rl_start ?_
  refine rl_det (met_none rfl) (fun h_ H_ => exd_assign (v := .int .i64 0) rfl) (tm' := _::_::_::_::_::_::_) rfl ?_
  refine rl_end ?_
  refine fl_block ?_
  refine fl_loop (m₀ := n - 0) (fun m_ tm_ h_ => ∃ (k : Nat), m_ = n - k ∧ (∃ y1 : Nat → Value, tm_ = [.slice a n c, sv s, undef, undef, (y1 4), .int .i64 (((k : Nat) : Int)), (y1 6), (y1 7), (y1 8), (y1 9), (y1 10), (y1 11), (y1 12), (y1 13), (y1 14), (y1 15), (y1 16), (y1 17), (y1 18)]) ∧ (k ≤ n) ∧ (∀ i, i < k → ts.getD i [] ≠ s) ∧ St h [] p h_ ([])) (fun h_ H_ => ⟨0, rfl, (y_of rfl), Nat.zero_le _, (fun i hi => absurd hi (Nat.not_lt_zero i)), H_⟩) ?_
  intro m_ tm_ IH2
  refine rs_ex fun k => rs_and fun hm_ => rs_and fun ht_ => rs_and fun hk => rs_and fun hs => ?_
  subst hm_; obtain ⟨y1, ht_⟩ := ht_; subst ht_
  refine fl_seq ?_
  refine fl_seq ?_
  refine rl_start ?_
  refine rl_det (met_none rfl) (fun h_ H_ => exd_move (v := .int .i64 (((k : Nat) : Int))) rfl) rfl ?_
  refine rl_det (met_none rfl) (fun h_ H_ => exd_move (v := .slice a n c) rfl) rfl ?_
  refine rl_det (met_none rfl) (fun h_ H_ => exd_len Tryd.underlying22 rfl) (tm' := _::_::_::_::_::_::_::_::_::_) rfl ?_
  refine rl_det (met_none rfl) (fun h_ H_ => exd_lss rfl rfl) rfl ?_
  refine rl_end ?_
  by_cases cc3 : ((k : Nat) : Int) < ((n : Nat) : Int)
  · refine fl_then rfl (decide_eq_true cc3) ?_
    refine fl_skip ?_
    refine fl_seq ?_
    refine fl_block ?_
    refine fl_seq ?_
    refine rl_start ?_
    refine rl_det (met_none rfl) (fun h_ H_ => exd_move (v := .slice a n c) rfl) rfl ?_
    refine rl_det (met_none rfl) (fun h_ H_ => exd_move (v := .int .i64 (((k : Nat) : Int))) rfl) (tm' := [_,_,_,_,_,_,_,_,_,_,_,_,_,_,_,_,_,_,_]) rfl ?_
    refine rl_det (met_none rfl) (fun h_ H_ => exd_indexAddrN (i := k) Tryd.underlying22 tS9 (sl_ne a n c (T.ne (by omega))) rfl (by omega)) rfl ?_
    refine rl_det (met_none rfl) (fun h_ H_ => exd_load_per H_ tA9 rfl (v := sv (ts.getD k [])) (T.get (by omega))) rfl ?_
    refine rl_det (met_none rfl) (fun h_ H_ => exd_move (v := sv s) rfl) (tm' := [_,_,_,_,_,_,_,_,_,_,_,_,_,_,_,_,_,_,_]) rfl ?_
    refine rl_det (met_none rfl) (fun h_ H_ => exd_eqlS (l := ts.getD k []) (m := s) rfl rfl) rfl ?_
    refine rl_end ?_
    by_cases cc4 : ts.getD k [] = s
    · refine fl_then rfl (decide_eq_true cc4) ?_
      refine fl_seq ?_
      refine rl_start ?_
      refine rl_det (met_none rfl) (fun h_ H_ => exd_move (v := .int .i64 (((k : Nat) : Int))) rfl) rfl ?_
      refine rl_det (met_none rfl) (fun h_ H_ => exd_assign (v := .int .i64 (((k : Nat) : Int))) rfl) (tm' := _::_::_::_::_::_) rfl ?_
      refine rl_end ?_
      refine fl_ret Tryd.func43 rfl (vs := [.int .i64 (((k : Nat) : Int))]) (fun h_ H_ => ⟨.int .i64 (((k : Nat) : Int)), _, rfl, rfl, rfl⟩) (v := .int .i64 (((k : Nat) : Int))) rfl ?_
      exact fun h_ H_ => K _ _ ⟨by first | rw [fnd_some (by omega) ‹_› hs] | rw [fnd_none (fun i hi => hs i (by omega))], H_.kept⟩
    · refine fl_else rfl (decide_eq_false cc4) ?_
      refine fl_skip ?_
      refine fl_inBlock ?_
      refine rl_start ?_
      refine rl_det (met_none rfl) (fun h_ H_ => exd_move (v := .int .i64 (((k : Nat) : Int))) rfl) rfl ?_
      refine rl_det (met_none rfl) (fun h_ H_ => exd_add rfl rfl (n := ((k + 1 : Nat) : Int)) (wr (by omega))) rfl ?_
      refine rl_det (met_none rfl) (fun h_ H_ => exd_assign (v := .int .i64 (((k + 1 : Nat) : Int))) rfl) (tm' := _::_::_::_::_::_::_) rfl ?_
      refine rl_end ?_
      exact fun h_ H_ => IH2 _ _ (by omega) h_ ⟨k + 1, rfl, (y_of rfl), (by omega), (upto_step hs ‹_›), H_⟩
  · refine fl_else rfl (decide_eq_false cc3) ?_
    refine fl_exit rfl ?_
    refine fl_seq ?_
    refine rl_start ?_
    refine rl_det (met_none rfl) (fun h_ H_ => exd_assign (v := .int .i64 (-1)) rfl) rfl ?_
    refine rl_end ?_
    refine fl_ret Tryd.func43 rfl (vs := [.int .i64 (-1)]) (fun h_ H_ => ⟨.int .i64 (-1), _, rfl, rfl, rfl⟩) (v := .int .i64 (-1)) rfl ?_
    exact fun h_ H_ => K _ _ ⟨by first | rw [fnd_some (by omega) ‹_› hs] | rw [fnd_none (fun i hi => hs i (by omega))], H_.kept⟩
theorem c15 (h : Heap) (p : PHeap) (hp : Per p h) (a : Option Addr) (n c : Nat) (ts : List By) (T : Strs p a n ts) (hn : n ≤ 9223372036854775807) : CallsX Tryd.prog .lone 15 #[.slice a n c] h fun v h' => v = .bool (decide (readyT ts)) ∧ Keep h h' := by
  refine calls_intro (Φ := fun h_ => St h [] p h_ []) Tryd.func15 rfl (tm := [_, _, _, _, _, _, _, _, _, _, _]) rfl ?_ (St.start h _ hp)
  intro c₀ cs Stop K
  have hl := T.len
  refine fl_seq ?_
  refine rl_start ?_
  refine rl_det (met_none rfl) (fun h_ H_ => exd_assign (v := .bool (false)) rfl) rfl ?_
  refine rl_end ?_
  refine fl_seq ?_
  refine rl_start ?_
  refine rl_det (met_none rfl) (fun h_ H_ => exd_move (v := .slice a n c) rfl) (tm' := _::_::_::_::_) rfl ?_
  refine rl_calld (met_none rfl) (first := []) (cap := []) rfl rfl fC23 (fun h_ H_ => c23 .lone _ _ (fun b_ o_ e_ => H_.per b_ o_ e_) a n _ ts T (by first | omega | (have z_ := (far_facts T ‹¬ far ts›).1; omega))) rfl ?_
  refine rl_det (met_none rfl) (fun h_ H_ => exd_not rfl) rfl ?_
  refine rl_det (met_none rfl) (fun h_ H_ => exd_move (v := .bool (!(decide (far ts)))) rfl) (tm' := _::_::_::_::_::_::_::_) rfl ?_
  by_cases cc1 : far ts
  · refine rl_pass (met_not rfl rfl (not_f (decide_eq_true cc1))) rfl ?_
    refine rl_pass (met_not rfl rfl (not_f (decide_eq_true cc1))) rfl ?_
    refine rl_pass (met_not rfl rfl (not_f (decide_eq_true cc1))) (tm' := [_,_,_,_,_,_,_,_,_,_,_]) rfl ?_
    refine rl_det (met_none rfl) (fun h_ H_ => exd_pick_f rfl (not_f (decide_eq_true cc1)) (v := .bool (false)) rfl) rfl ?_
    refine rl_det (met_none rfl) (fun h_ H_ => exd_assign (v := .bool (false)) rfl) rfl ?_
    refine rl_end ?_
    refine fl_ret Tryd.func15 rfl (vs := [.bool (false)]) (fun h_ H_ => ⟨.bool (false), _, rfl, rfl, rfl⟩) (v := .bool (false)) rfl ?_
    exact fun h_ H_ => K _ _ ⟨congrArg Value.bool ((decide_eq_false fun z => z.1 ‹_›).symm), H_.kept⟩
  · refine rl_det (met_some rfl rfl (not_t (decide_eq_false cc1))) (fun h_ H_ => exd_move (v := .slice a n c) rfl) (tm' := [_,_,_,_,_,_,_,_,_,_,_]) rfl ?_
    refine rl_calld (met_some rfl rfl (not_t (decide_eq_false cc1))) (first := []) (cap := []) rfl rfl fC51 (fun h_ H_ => c51 .lone _ _ (fun b_ o_ e_ => H_.per b_ o_ e_) a n _ ts T (by first | omega | (have z_ := (far_facts T ‹¬ far ts›).1; omega)) (not_far T ‹¬ far ts›)) rfl ?_
    refine rl_det (met_some rfl rfl (not_t (decide_eq_false cc1))) (fun h_ H_ => exd_eql rfl rfl) rfl ?_
    refine rl_det (met_none rfl) (fun h_ H_ => exd_pick_t rfl (not_t (decide_eq_false cc1)) (v := .bool (decide (chkT ts = 0))) rfl) (tm' := [_,_,_,_,_,_,_,_,_,_,_]) rfl ?_
    refine rl_det (met_none rfl) (fun h_ H_ => exd_assign (v := .bool (decide (chkT ts = 0))) rfl) rfl ?_
    refine rl_end ?_
    refine fl_ret Tryd.func15 rfl (vs := [.bool (decide (chkT ts = 0))]) (fun h_ H_ => ⟨.bool (decide (chkT ts = 0)), _, rfl, rfl, rfl⟩) (v := .bool (decide (chkT ts = 0))) rfl ?_
    exact fun h_ H_ => K _ _ ⟨congrArg Value.bool (decide_eq_decide.2 ⟨fun z => ⟨‹_›, z⟩, fun z => z.2⟩), H_.kept⟩
theorem c16 (h : Heap) (htab : Tab h) : CallsX Tryd.prog .lone 16 #[] h fun v h' => v = .bool true ∧ Keep h h' := by
  refine calls_intro (Φ := fun h_ => St h [] (fun _ => none) h_ []) Tryd.func16 rfl (tm := [_, _, _, _, _, _, _, _, _, _, _, _, _, _, _, _, _, _, _, _, _, _, _, _, _, _, _, _, _, _, _, _, _, _, _, _, _, _, _, _, _, _, _, _, _, _, _, _, _, _, _, _, _, _, _, _, _, _, _, _, _, _, _, _, _, _, _, _, _, _, _, _, _, _, _, _]) rfl ?_ (St.start h _ (fun _ _ e => by cases e))
  intro c₀ cs Stop K
  refine fl_seq ?_
  refine rl_start ?_
  refine rl_det (met_none rfl) (fun h_ H_ => exd_assign (v := .bool (false)) rfl) rfl ?_
  refine rl_end ?_
  refine fl_seq ?_
  refine rl_start ?_
  refine rl_own (L' := ([] : Pcs) ++ []) rfl ?_
  refine rl_buildO ([] : Pcs) (met_none rfl) Tryd.underlying22 tS9 tZ9 (Nat.le_of_ble_eq_true rfl) (vs := [(0, sv ([97, 97] : List UInt8)), (1, sv ([97, 98] : List UInt8))]) rfl rfl (es := [[sv ([97, 97] : List UInt8)], [sv ([97, 98] : List UInt8)]]) rfl rfl rfl fun v1 X2 o3 => ?_
  have o4 : OwnS 9 1 v1 (scs ([([97, 97] : List UInt8), ([97, 98] : List UInt8)] : List By)) X2 := o3
  refine rl_norm (tm' := _::_::_::_::_::_::_::_::_::_::_::_::_::_) rfl ?_
  refine rl_lastN (A := ([] : Pcs)) o4 (scs_length _) fun p5 a6 cp7 le8 ev_ D9 => ?_
  subst ev_
  refine rl_own (L' := []) rfl ?_
  refine rl_calld (met_none rfl) (first := []) (cap := []) rfl rfl fC45 (fun h_ H_ => c45 _ _ (fun b_ o_ e_ => H_.per b_ o_ e_) (htab.keep H_.kept) a6 (([([97, 97] : List UInt8), ([97, 98] : List UInt8)] : List By).length) _ ([([97, 97] : List UInt8), ([97, 98] : List UInt8)] : List By) (show Strs _ _ _ ([([97, 97] : List UInt8), ([97, 98] : List UInt8)] : List By) from D9) (by decide) (by decide)) rfl ?_
  refine rl_det (met_none rfl) (fun h_ H_ => exd_move (v := .tuple #[sv ((writeB ([([97, 97] : List UInt8), ([97, 98] : List UInt8)] : List By)).1), .int .i64 ((writeB ([([97, 97] : List UInt8), ([97, 98] : List UInt8)] : List By)).2)]) rfl) rfl ?_
  refine rl_det (met_none rfl) (fun h_ H_ => exd_extract rfl (v := sv ((writeB ([([97, 97] : List UInt8), ([97, 98] : List UInt8)] : List By)).1)) rfl) (tm' := _::_::_::_::_::_::_::_::_::_::_::_::_::_::_::_) rfl ?_
  refine rl_det (met_none rfl) (fun h_ H_ => exd_extract rfl (v := .int .i64 ((writeB ([([97, 97] : List UInt8), ([97, 98] : List UInt8)] : List By)).2)) rfl) rfl ?_
  refine rl_det (met_none rfl) (fun h_ H_ => exd_assign (v := sv ((writeB ([([97, 97] : List UInt8), ([97, 98] : List UInt8)] : List By)).1)) rfl) rfl ?_
  refine rl_det (met_none rfl) (fun h_ H_ => exd_assign (v := .int .i64 ((writeB ([([97, 97] : List UInt8), ([97, 98] : List UInt8)] : List By)).2)) rfl) (tm' := _::_::_::_) rfl ?_
  refine rl_end ?_
  refine fl_seq ?_
  refine rl_start ?_
  refine rl_own (L' := ([] : Pcs) ++ []) rfl ?_
  refine rl_buildO ([] : Pcs) (met_none rfl) Tryd.underlying22 tS9 tZ9 (Nat.le_of_ble_eq_true rfl) (vs := [(0, sv ([97, 97] : List UInt8)), (1, sv ([97, 98] : List UInt8))]) rfl rfl (es := [[sv ([97, 97] : List UInt8)], [sv ([97, 98] : List UInt8)]]) rfl rfl rfl fun v10 X11 o12 => ?_
  have o13 : OwnS 9 1 v10 (scs ([([97, 97] : List UInt8), ([97, 98] : List UInt8)] : List By)) X11 := o12
  refine rl_lastN (A := ([] : Pcs)) o13 (scs_length _) fun p14 a15 cp16 le17 ev_ D18 => ?_
  subst ev_
  refine rl_own (L' := []) rfl ?_
  refine rl_calld (met_none rfl) (first := []) (cap := []) rfl rfl fC24 (fun h_ H_ => c24 _ _ (fun b_ o_ e_ => H_.per b_ o_ e_) a15 (([([97, 97] : List UInt8), ([97, 98] : List UInt8)] : List By).length) _ ([([97, 97] : List UInt8), ([97, 98] : List UInt8)] : List By) (show Strs _ _ _ ([([97, 97] : List UInt8), ([97, 98] : List UInt8)] : List By) from D18) (by decide) (by decide) 1 (by omega)) rfl ?_
  refine rl_det (met_none rfl) (fun h_ H_ => exd_move (v := .tuple #[.int .i64 ((usesB ([([97, 97] : List UInt8), ([97, 98] : List UInt8)] : List By) 1).1), .int .i64 ((usesB ([([97, 97] : List UInt8), ([97, 98] : List UInt8)] : List By) 1).2)]) rfl) (tm' := _::_::_::_::_::_::_::_::_::_::_::_::_::_::_::_::_::_) rfl ?_
  refine rl_det (met_none rfl) (fun h_ H_ => exd_extract rfl (v := .int .i64 ((usesB ([([97, 97] : List UInt8), ([97, 98] : List UInt8)] : List By) 1).1)) rfl) rfl ?_
  refine rl_det (met_none rfl) (fun h_ H_ => exd_extract rfl (v := .int .i64 ((usesB ([([97, 97] : List UInt8), ([97, 98] : List UInt8)] : List By) 1).2)) rfl) rfl ?_
  refine rl_det (met_none rfl) (fun h_ H_ => exd_assign (v := .int .i64 ((usesB ([([97, 97] : List UInt8), ([97, 98] : List UInt8)] : List By) 1).1)) rfl) (tm' := _::_::_::_::_) rfl ?_
  refine rl_det (met_none rfl) (fun h_ H_ => exd_assign (v := .int .i64 ((usesB ([([97, 97] : List UInt8), ([97, 98] : List UInt8)] : List By) 1).2)) rfl) rfl ?_
  refine rl_end ?_
  refine fl_seq ?_
  refine rl_start ?_
  refine rl_calld (met_none rfl) (first := []) (cap := []) rfl rfl fC26 (fun h_ H_ => c26 _ ([65, 65, 120] : List UInt8) (by decide)) rfl ?_
  refine rl_det (met_none rfl) (fun h_ H_ => exd_move (v := .tuple #[.int .i64 ((sumB ([65, 65, 120] : List UInt8)).1), .int .i64 ((sumB ([65, 65, 120] : List UInt8)).2)]) rfl) (tm' := _::_::_::_::_::_::_::_::_::_::_::_::_::_::_::_::_::_::_::_::_::_::_) rfl ?_
  refine rl_det (met_none rfl) (fun h_ H_ => exd_extract rfl (v := .int .i64 ((sumB ([65, 65, 120] : List UInt8)).1)) rfl) rfl ?_
  refine rl_det (met_none rfl) (fun h_ H_ => exd_extract rfl (v := .int .i64 ((sumB ([65, 65, 120] : List UInt8)).2)) rfl) rfl ?_
  refine rl_det (met_none rfl) (fun h_ H_ => exd_assign (v := .int .i64 ((sumB ([65, 65, 120] : List UInt8)).1)) rfl) (tm' := _::_::_::_::_::_::_) rfl ?_
  refine rl_det (met_none rfl) (fun h_ H_ => exd_assign (v := .int .i64 ((sumB ([65, 65, 120] : List UInt8)).2)) rfl) rfl ?_
  refine rl_end ?_
  refine fl_seq ?_
  refine rl_start ?_
  refine rl_own (L' := ([] : Pcs) ++ []) rfl ?_
  refine rl_call (met_none rfl) (first := []) (cap := []) rfl rfl fC18 (R := fun v_ h_ => ∃ w19 : Value, ∃ X20 : Pcs, v_ = .tuple #[w19, .int .i64 ((readB ([65, 65, 126, 65, 66, 61, 49, 49, 54, 51] : List UInt8)).1)] ∧ (OwnS 9 1 w19 (scs ((readB ([65, 65, 126, 65, 66, 61, 49, 49, 54, 51] : List UInt8)).2)) X20) ∧ St h [] p14 h_ (([] : Pcs) ++ (X20 ++ []))) (fun h_ H_ => (c18 _ (htab.keep H_.kept) ([65, 65, 126, 65, 66, 61, 49, 49, 54, 51] : List UInt8) (by decide)).mono fun v_ h2_ ⟨w19, X20, e_, o21, N_⟩ => ⟨w19, X20, e_, o21, H_.callNA N_⟩) fun v_ => ?_
  refine rl_ex fun w19 => rl_ex fun X20 => rl_and fun ev_ => rl_and fun o21 => ?_
  have ev_ := ev_.symm; subst ev_
  refine rl_own (L' := ([] : Pcs) ++ (X20 ++ [])) rfl ?_
  refine rl_det (met_none rfl) (fun h_ H_ => exd_move (v := .tuple #[w19, .int .i64 ((readB ([65, 65, 126, 65, 66, 61, 49, 49, 54, 51] : List UInt8)).1)]) rfl) (tm' := _::_::_::_::_::_::_::_::_::_::_::_::_::_::_::_::_::_::_::_::_::_::_::_::_::_::_) rfl ?_
  refine rl_det (met_none rfl) (fun h_ H_ => exd_extract rfl (v := w19) rfl) rfl ?_
  refine rl_det (met_none rfl) (fun h_ H_ => exd_extract rfl (v := .int .i64 ((readB ([65, 65, 126, 65, 66, 61, 49, 49, 54, 51] : List UInt8)).1)) rfl) rfl ?_
  refine rl_det (met_none rfl) (fun h_ H_ => exd_assign (v := w19) rfl) (tm' := _::_::_::_::_::_::_::_::_) rfl ?_
  refine rl_det (met_none rfl) (fun h_ H_ => exd_assign (v := .int .i64 ((readB ([65, 65, 126, 65, 66, 61, 49, 49, 54, 51] : List UInt8)).1)) rfl) rfl ?_
  refine rl_end ?_
  refine fl_seq ?_
  refine rl_start ?_
  refine rl_calld (met_none rfl) (first := []) (cap := []) rfl rfl fC28 (fun h_ H_ => c28 _ (htab.keep H_.kept) ([65, 65, 120, 65, 65, 126, 61, 49, 56, 57, 54] : List UInt8) ([120] : List UInt8) (by decide) (by decide)) rfl ?_
  refine rl_det (met_none rfl) (fun h_ H_ => exd_move (v := .tuple #[sv ((addB ([65, 65, 120, 65, 65, 126, 61, 49, 56, 57, 54] : List UInt8) ([120] : List UInt8)).1), .int .i64 ((addB ([65, 65, 120, 65, 65, 126, 61, 49, 56, 57, 54] : List UInt8) ([120] : List UInt8)).2)]) rfl) (tm' := _::_::_::_::_::_::_::_::_::_::_::_::_::_::_::_::_::_::_::_::_::_::_::_::_::_::_::_::_::_::_) rfl ?_
  refine rl_det (met_none rfl) (fun h_ H_ => exd_extract rfl (v := sv ((addB ([65, 65, 120, 65, 65, 126, 61, 49, 56, 57, 54] : List UInt8) ([120] : List UInt8)).1)) rfl) rfl ?_
  refine rl_det (met_none rfl) (fun h_ H_ => exd_extract rfl (v := .int .i64 ((addB ([65, 65, 120, 65, 65, 126, 61, 49, 56, 57, 54] : List UInt8) ([120] : List UInt8)).2)) rfl) rfl ?_
  refine rl_det (met_none rfl) (fun h_ H_ => exd_assign (v := sv ((addB ([65, 65, 120, 65, 65, 126, 61, 49, 56, 57, 54] : List UInt8) ([120] : List UInt8)).1)) rfl) (tm' := _::_::_::_::_::_::_::_::_::_::_) rfl ?_
  refine rl_det (met_none rfl) (fun h_ H_ => exd_assign (v := .int .i64 ((addB ([65, 65, 120, 65, 65, 126, 61, 49, 56, 57, 54] : List UInt8) ([120] : List UInt8)).2)) rfl) rfl ?_
  refine rl_end ?_
  refine fl_seq ?_
  refine rl_start ?_
  refine rl_det (met_none rfl) (fun h_ H_ => exd_move (v := .int .i64 ((writeB ([([97, 97] : List UInt8), ([97, 98] : List UInt8)] : List By)).2)) rfl) rfl ?_
  refine rl_det (met_none rfl) (fun h_ H_ => exd_eql rfl rfl) (tm' := _::_::_::_::_::_::_::_::_::_::_::_::_::_::_::_::_::_::_::_::_::_::_::_::_::_::_::_::_::_::_::_::_::_::_::_) rfl ?_
  refine rl_det (met_none rfl) (fun h_ H_ => exd_move (v := .bool (decide ((writeB ([([97, 97] : List UInt8), ([97, 98] : List UInt8)] : List By)).2 = 0))) rfl) rfl ?_
  refine rl_det (met_some rfl rfl (decide_eq_true (by decide +kernel))) (fun h_ H_ => exd_move (v := .int .i64 ((usesB ([([97, 97] : List UInt8), ([97, 98] : List UInt8)] : List By) 1).2)) rfl) rfl ?_
  refine rl_det (met_some rfl rfl (decide_eq_true (by decide +kernel))) (fun h_ H_ => exd_eql rfl rfl) (tm' := _::_::_::_::_::_::_::_::_::_::_::_::_::_::_::_::_::_::_::_::_::_::_::_::_::_::_::_::_::_::_::_::_::_::_::_::_::_::_) rfl ?_
  refine rl_det (met_none rfl) (fun h_ H_ => exd_pick_t rfl (decide_eq_true (by decide +kernel)) (v := .bool (decide ((usesB ([([97, 97] : List UInt8), ([97, 98] : List UInt8)] : List By) 1).2 = 0))) rfl) rfl ?_
  refine rl_det (met_none rfl) (fun h_ H_ => exd_move (v := .bool (decide ((usesB ([([97, 97] : List UInt8), ([97, 98] : List UInt8)] : List By) 1).2 = 0))) rfl) rfl ?_
  refine rl_det (met_some rfl rfl (decide_eq_true (by decide +kernel))) (fun h_ H_ => exd_move (v := .int .i64 ((sumB ([65, 65, 120] : List UInt8)).2)) rfl) (tm' := _::_::_::_::_::_::_::_::_::_::_::_::_::_::_::_::_::_::_::_::_::_::_::_::_::_::_::_::_::_::_::_::_::_::_::_::_::_::_::_::_::_) rfl ?_
  refine rl_det (met_some rfl rfl (decide_eq_true (by decide +kernel))) (fun h_ H_ => exd_eql rfl rfl) rfl ?_
  refine rl_det (met_none rfl) (fun h_ H_ => exd_pick_t rfl (decide_eq_true (by decide +kernel)) (v := .bool (decide ((sumB ([65, 65, 120] : List UInt8)).2 = 0))) rfl) rfl ?_
  refine rl_det (met_none rfl) (fun h_ H_ => exd_move (v := .bool (decide ((sumB ([65, 65, 120] : List UInt8)).2 = 0))) rfl) (tm' := _::_::_::_::_::_::_::_::_::_::_::_::_::_::_::_::_::_::_::_::_::_::_::_::_::_::_::_::_::_::_::_::_::_::_::_::_::_::_::_::_::_::_::_::_) rfl ?_
  refine rl_det (met_some rfl rfl (decide_eq_true (by decide +kernel))) (fun h_ H_ => exd_move (v := .int .i64 ((readB ([65, 65, 126, 65, 66, 61, 49, 49, 54, 51] : List UInt8)).1)) rfl) rfl ?_
  refine rl_det (met_some rfl rfl (decide_eq_true (by decide +kernel))) (fun h_ H_ => exd_eql rfl rfl) rfl ?_
  refine rl_det (met_none rfl) (fun h_ H_ => exd_pick_t rfl (decide_eq_true (by decide +kernel)) (v := .bool (decide ((readB ([65, 65, 126, 65, 66, 61, 49, 49, 54, 51] : List UInt8)).1 = 0))) rfl) (tm' := _::_::_::_::_::_::_::_::_::_::_::_::_::_::_::_::_::_::_::_::_::_::_::_::_::_::_::_::_::_::_::_::_::_::_::_::_::_::_::_::_::_::_::_::_::_::_::_) rfl ?_
  refine rl_det (met_none rfl) (fun h_ H_ => exd_move (v := .bool (decide ((readB ([65, 65, 126, 65, 66, 61, 49, 49, 54, 51] : List UInt8)).1 = 0))) rfl) rfl ?_
  refine rl_det (met_some rfl rfl (decide_eq_true (by decide +kernel))) (fun h_ H_ => exd_move (v := .int .i64 ((addB ([65, 65, 120, 65, 65, 126, 61, 49, 56, 57, 54] : List UInt8) ([120] : List UInt8)).2)) rfl) rfl ?_
  refine rl_det (met_some rfl rfl (decide_eq_true (by decide +kernel))) (fun h_ H_ => exd_eql rfl rfl) (tm' := _::_::_::_::_::_::_::_::_::_::_::_::_::_::_::_::_::_::_::_::_::_::_::_::_::_::_::_::_::_::_::_::_::_::_::_::_::_::_::_::_::_::_::_::_::_::_::_::_::_::_) rfl ?_
  refine rl_det (met_none rfl) (fun h_ H_ => exd_pick_t rfl (decide_eq_true (by decide +kernel)) (v := .bool (decide ((addB ([65, 65, 120, 65, 65, 126, 61, 49, 56, 57, 54] : List UInt8) ([120] : List UInt8)).2 = 0))) rfl) rfl ?_
  refine rl_det (met_none rfl) (fun h_ H_ => exd_move (v := .bool (decide ((addB ([65, 65, 120, 65, 65, 126, 61, 49, 56, 57, 54] : List UInt8) ([120] : List UInt8)).2 = 0))) rfl) rfl ?_
  refine rl_det (met_some rfl rfl (decide_eq_true (by decide +kernel))) (fun h_ H_ => exd_move (v := sv ((writeB ([([97, 97] : List UInt8), ([97, 98] : List UInt8)] : List By)).1)) rfl) (tm' := [_,_,_,_,_,_,_,_,_,_,_,_,_,_,_,_,_,_,_,_,_,_,_,_,_,_,_,_,_,_,_,_,_,_,_,_,_,_,_,_,_,_,_,_,_,_,_,_,_,_,_,_,_,_,_,_,_,_,_,_,_,_,_,_,_,_,_,_,_,_,_,_,_,_,_,_]) rfl ?_
  refine rl_det (met_some rfl rfl (decide_eq_true (by decide +kernel))) (fun h_ H_ => exd_eqlS (l := (writeB ([([97, 97] : List UInt8), ([97, 98] : List UInt8)] : List By)).1) (m := ([65, 65, 97, 65, 66, 126, 65, 66, 98, 65, 65, 126, 61, 54, 53, 55, 52] : List UInt8)) rfl rfl) rfl ?_
  refine rl_det (met_none rfl) (fun h_ H_ => exd_pick_t rfl (decide_eq_true (by decide +kernel)) (v := .bool (decide ((writeB ([([97, 97] : List UInt8), ([97, 98] : List UInt8)] : List By)).1 = ([65, 65, 97, 65, 66, 126, 65, 66, 98, 65, 65, 126, 61, 54, 53, 55, 52] : List UInt8)))) rfl) rfl ?_
  refine rl_det (met_none rfl) (fun h_ H_ => exd_move (v := .bool (decide ((writeB ([([97, 97] : List UInt8), ([97, 98] : List UInt8)] : List By)).1 = ([65, 65, 97, 65, 66, 126, 65, 66, 98, 65, 65, 126, 61, 54, 53, 55, 52] : List UInt8)))) rfl) (tm' := [_,_,_,_,_,_,_,_,_,_,_,_,_,_,_,_,_,_,_,_,_,_,_,_,_,_,_,_,_,_,_,_,_,_,_,_,_,_,_,_,_,_,_,_,_,_,_,_,_,_,_,_,_,_,_,_,_,_,_,_,_,_,_,_,_,_,_,_,_,_,_,_,_,_,_,_]) rfl ?_
  refine rl_det (met_some rfl rfl (decide_eq_true (by decide +kernel))) (fun h_ H_ => exd_move (v := .int .i64 ((usesB ([([97, 97] : List UInt8), ([97, 98] : List UInt8)] : List By) 1).1)) rfl) rfl ?_
  refine rl_det (met_some rfl rfl (decide_eq_true (by decide +kernel))) (fun h_ H_ => exd_eql rfl rfl) rfl ?_
  refine rl_det (met_none rfl) (fun h_ H_ => exd_pick_t rfl (decide_eq_true (by decide +kernel)) (v := .bool (decide ((usesB ([([97, 97] : List UInt8), ([97, 98] : List UInt8)] : List By) 1).1 = 2))) rfl) (tm' := [_,_,_,_,_,_,_,_,_,_,_,_,_,_,_,_,_,_,_,_,_,_,_,_,_,_,_,_,_,_,_,_,_,_,_,_,_,_,_,_,_,_,_,_,_,_,_,_,_,_,_,_,_,_,_,_,_,_,_,_,_,_,_,_,_,_,_,_,_,_,_,_,_,_,_,_]) rfl ?_
  refine rl_det (met_none rfl) (fun h_ H_ => exd_move (v := .bool (decide ((usesB ([([97, 97] : List UInt8), ([97, 98] : List UInt8)] : List By) 1).1 = 2))) rfl) rfl ?_
  refine rl_det (met_some rfl rfl (decide_eq_true (by decide +kernel))) (fun h_ H_ => exd_move (v := .int .i64 ((sumB ([65, 65, 120] : List UInt8)).1)) rfl) rfl ?_
  refine rl_det (met_some rfl rfl (decide_eq_true (by decide +kernel))) (fun h_ H_ => exd_eql rfl rfl) (tm' := [_,_,_,_,_,_,_,_,_,_,_,_,_,_,_,_,_,_,_,_,_,_,_,_,_,_,_,_,_,_,_,_,_,_,_,_,_,_,_,_,_,_,_,_,_,_,_,_,_,_,_,_,_,_,_,_,_,_,_,_,_,_,_,_,_,_,_,_,_,_,_,_,_,_,_,_]) rfl ?_
  refine rl_det (met_none rfl) (fun h_ H_ => exd_pick_t rfl (decide_eq_true (by decide +kernel)) (v := .bool (decide ((sumB ([65, 65, 120] : List UInt8)).1 = 555))) rfl) rfl ?_
  refine rl_det (met_none rfl) (fun h_ H_ => exd_move (v := .bool (decide ((sumB ([65, 65, 120] : List UInt8)).1 = 555))) rfl) rfl ?_
  refine rl_det (met_some rfl rfl (decide_eq_true (by decide +kernel))) (fun h_ H_ => exd_move (v := w19) rfl) (tm' := [_,_,_,_,_,_,_,_,_,_,_,_,_,_,_,_,_,_,_,_,_,_,_,_,_,_,_,_,_,_,_,_,_,_,_,_,_,_,_,_,_,_,_,_,_,_,_,_,_,_,_,_,_,_,_,_,_,_,_,_,_,_,_,_,_,_,_,_,_,_,_,_,_,_,_,_]) rfl ?_
  refine rl_buildO ([] : Pcs) (met_some rfl rfl (decide_eq_true (by decide +kernel))) Tryd.underlying22 tS9 tZ9 (Nat.le_of_ble_eq_true rfl) (vs := [(0, sv ([] : List UInt8)), (1, sv ([] : List UInt8))]) rfl rfl (es := [[sv ([] : List UInt8)], [sv ([] : List UInt8)]]) rfl rfl rfl fun v22 X23 o24 => ?_
  have o25 : OwnS 9 1 v22 (scs ([([] : List UInt8), ([] : List UInt8)] : List By)) X23 := o24
  refine rl_perm (List.Perm.append_left _ (List.perm_append_comm_assoc _ _ _)) ?_
  refine rl_own (L' := ([] : Pcs) ++ (X20 ++ (X23 ++ []))) rfl ?_
  refine rl_lastN (A := ([] : Pcs)) o21 (scs_length _) fun p26 a27 cp28 le29 ev_ D30 => ?_
  subst ev_
  refine rl_lastN (A := ([] : Pcs)) o25 (scs_length _) fun p31 a32 cp33 le34 ev_ D35 => ?_
  subst ev_
  refine rl_own (L' := []) rfl ?_
  refine rl_calld (met_some rfl rfl (decide_eq_true (by decide +kernel))) (first := []) (cap := []) rfl rfl fC19 (fun h_ H_ => c19 .lone _ _ (fun b_ o_ e_ => H_.per b_ o_ e_) a27 a32 (((readB ([65, 65, 126, 65, 66, 61, 49, 49, 54, 51] : List UInt8)).2).length) (([([] : List UInt8), ([] : List UInt8)] : List By).length) _ _ ((readB ([65, 65, 126, 65, 66, 61, 49, 49, 54, 51] : List UInt8)).2) ([([] : List UInt8), ([] : List UInt8)] : List By) ((show Strs _ _ _ ((readB ([65, 65, 126, 65, 66, 61, 49, 49, 54, 51] : List UInt8)).2) from D30).mono le34) (show Strs _ _ _ ([([] : List UInt8), ([] : List UInt8)] : List By) from D35) (by decide +kernel)) rfl ?_
  refine rl_det (met_none rfl) (fun h_ H_ => exd_pick_t rfl (decide_eq_true (by decide +kernel)) (v := .bool (decide ((readB ([65, 65, 126, 65, 66, 61, 49, 49, 54, 51] : List UInt8)).2 = ([([] : List UInt8), ([] : List UInt8)] : List By)))) rfl) (tm' := [_,_,_,_,_,_,_,_,_,_,_,_,_,_,_,_,_,_,_,_,_,_,_,_,_,_,_,_,_,_,_,_,_,_,_,_,_,_,_,_,_,_,_,_,_,_,_,_,_,_,_,_,_,_,_,_,_,_,_,_,_,_,_,_,_,_,_,_,_,_,_,_,_,_,_,_]) rfl ?_
  refine rl_det (met_none rfl) (fun h_ H_ => exd_move (v := .bool (decide ((readB ([65, 65, 126, 65, 66, 61, 49, 49, 54, 51] : List UInt8)).2 = ([([] : List UInt8), ([] : List UInt8)] : List By)))) rfl) rfl ?_
  refine rl_det (met_some rfl rfl (decide_eq_true (by decide +kernel))) (fun h_ H_ => exd_move (v := sv ((addB ([65, 65, 120, 65, 65, 126, 61, 49, 56, 57, 54] : List UInt8) ([120] : List UInt8)).1)) rfl) rfl ?_
  refine rl_det (met_some rfl rfl (decide_eq_true (by decide +kernel))) (fun h_ H_ => exd_eqlS (l := (addB ([65, 65, 120, 65, 65, 126, 61, 49, 56, 57, 54] : List UInt8) ([120] : List UInt8)).1) (m := ([65, 65, 120, 65, 65, 126, 65, 66, 126, 61, 52, 48, 49, 51] : List UInt8)) rfl rfl) (tm' := [_,_,_,_,_,_,_,_,_,_,_,_,_,_,_,_,_,_,_,_,_,_,_,_,_,_,_,_,_,_,_,_,_,_,_,_,_,_,_,_,_,_,_,_,_,_,_,_,_,_,_,_,_,_,_,_,_,_,_,_,_,_,_,_,_,_,_,_,_,_,_,_,_,_,_,_]) rfl ?_
  refine rl_det (met_none rfl) (fun h_ H_ => exd_pick_t rfl (decide_eq_true (by decide +kernel)) (v := .bool (decide ((addB ([65, 65, 120, 65, 65, 126, 61, 49, 56, 57, 54] : List UInt8) ([120] : List UInt8)).1 = ([65, 65, 120, 65, 65, 126, 65, 66, 126, 61, 52, 48, 49, 51] : List UInt8)))) rfl) rfl ?_
  refine rl_det (met_none rfl) (fun h_ H_ => exd_move (v := .bool (decide ((addB ([65, 65, 120, 65, 65, 126, 61, 49, 56, 57, 54] : List UInt8) ([120] : List UInt8)).1 = ([65, 65, 120, 65, 65, 126, 65, 66, 126, 61, 52, 48, 49, 51] : List UInt8)))) rfl) rfl ?_
  refine rl_calld (met_some rfl rfl (decide_eq_true (by decide +kernel))) (first := []) (cap := []) rfl rfl fC20 (fun h_ H_ => c20 _ (htab.keep H_.kept) ([65, 66, 126, 61, 48, 53, 55, 53] : List UInt8) (by decide)) (tm' := [_,_,_,_,_,_,_,_,_,_,_,_,_,_,_,_,_,_,_,_,_,_,_,_,_,_,_,_,_,_,_,_,_,_,_,_,_,_,_,_,_,_,_,_,_,_,_,_,_,_,_,_,_,_,_,_,_,_,_,_,_,_,_,_,_,_,_,_,_,_,_,_,_,_,_,_]) rfl ?_
  refine rl_det (met_some rfl rfl (decide_eq_true (by decide +kernel))) (fun h_ H_ => exd_eql rfl rfl) rfl ?_
  refine rl_det (met_none rfl) (fun h_ H_ => exd_pick_t rfl (decide_eq_true (by decide +kernel)) (v := .bool (decide (stateB ([65, 66, 126, 61, 48, 53, 55, 53] : List UInt8) = 4))) rfl) rfl ?_
  refine rl_det (met_none rfl) (fun h_ H_ => exd_assign (v := .bool (decide (stateB ([65, 66, 126, 61, 48, 53, 55, 53] : List UInt8) = 4))) rfl) (tm' := _::_) rfl ?_
  refine rl_end ?_
  refine fl_ret Tryd.func16 rfl (vs := [.bool (decide (stateB ([65, 66, 126, 61, 48, 53, 55, 53] : List UInt8) = 4))]) (fun h_ H_ => ⟨.bool (decide (stateB ([65, 66, 126, 61, 48, 53, 55, 53] : List UInt8) = 4)), _, rfl, rfl, rfl⟩) (v := .bool (decide (stateB ([65, 66, 126, 61, 48, 53, 55, 53] : List UInt8) = 4))) rfl ?_
  exact fun h_ H_ => K _ _ ⟨by rw [decide_eq_true (by decide +kernel)], H_.kept⟩
theorem c17 (h : Heap) (p : PHeap) (hp : Per p h) (htab : Tab h) (a : Option Addr) (n c : Nat) (ts : List By) (T : Strs p a n ts) (hn : n ≤ 1000) (ht : ∀ i, i < n → (ts.getD i []).length ≤ 2 ^ 60) : CallsX Tryd.prog .lone 17 #[.slice a n c] h fun v h' => v = .tuple #[sv (writeB ts).1, .bool (decide (wrOk ts))] ∧ Keep h h' := by
  refine calls_intro (Φ := fun h_ => St h [] p h_ []) Tryd.func17 rfl (tm := [_, _, _, _, _, _, _, _, _, _, _, _, _, _, _, _, _, _, _, _, _, _, _, _, _, _]) rfl ?_ (St.start h _ hp)
  intro c₀ cs Stop K
  have hl := T.len
  refine fl_seq ?_
  refine rl_start ?_
  refine rl_det (met_none rfl) (fun h_ H_ => exd_assign (v := sv ([] : List UInt8)) rfl) rfl ?_
  refine rl_det (met_none rfl) (fun h_ H_ => exd_assign (v := .bool (false)) rfl) rfl ?_
  refine rl_end ?_
  refine fl_seq ?_
  refine rl_start ?_
  refine rl_own (L' := ([] : Pcs) ++ []) rfl ?_
  refine rl_buildO ([] : Pcs) (met_none rfl) Tryd.underlying22 tS9 tZ9 (Nat.le_of_ble_eq_true rfl) (vs := []) rfl rfl (es := []) rfl rfl rfl fun v1 X2 o3 => ?_
  have o4 : OwnS 9 1 v1 (scs ([] : List By)) X2 := o3
  refine rl_norm (tm' := _::_::_::_::_::_::_::_::_) rfl ?_
  refine rl_det (met_none rfl) (fun h_ H_ => exd_move (v := .slice a n c) rfl) rfl ?_
  refine rl_appendP ([] : Pcs) X2 (met_none rfl) Tryd.underlying22 tS9 tZ9 rfl tB9 Tryd.underlying22 rfl rfl o4 T (scs_ones _) (by show (0 + _) * _ ≤ _; omega) (by decide) (by decide) fun v5 X6 o7 => ?_
  have o8 : OwnS 9 1 v5 (scs ts) X6 := o7.as rfl
  refine rl_lastN (A := ([] : Pcs)) o8 (scs_length _) fun p9 a10 cp11 le12 ev_ D13 => ?_
  subst ev_
  refine rl_own (L' := []) rfl ?_
  refine rl_calld (met_none rfl) (first := []) (cap := []) rfl rfl fC45 (fun h_ H_ => c45 _ _ (fun b_ o_ e_ => H_.per b_ o_ e_) (htab.keep H_.kept) a10 ts.length _ ts (show Strs _ _ _ ts from D13) (by omega) (fun i_ h_ => ht i_ (by omega))) (tm' := _::_::_::_::_::_::_::_::_::_::_::_) rfl ?_
  refine rl_det (met_none rfl) (fun h_ H_ => exd_move (v := .tuple #[sv ((writeB ts).1), .int .i64 ((writeB ts).2)]) rfl) rfl ?_
  refine rl_det (met_none rfl) (fun h_ H_ => exd_extract rfl (v := sv ((writeB ts).1)) rfl) rfl ?_
  refine rl_det (met_none rfl) (fun h_ H_ => exd_extract rfl (v := .int .i64 ((writeB ts).2)) rfl) (tm' := _::_::_::_::_::_::_::_::_::_::_::_::_::_) rfl ?_
  refine rl_det (met_none rfl) (fun h_ H_ => exd_assign (v := sv ((writeB ts).1)) rfl) rfl ?_
  refine rl_det (met_none rfl) (fun h_ H_ => exd_assign (v := .int .i64 ((writeB ts).2)) rfl) rfl ?_
  refine rl_end ?_
  refine fl_seq ?_
  refine rl_start ?_
  refine rl_det (met_none rfl) (fun h_ H_ => exd_move (v := sv ((writeB ts).1)) rfl) (tm' := _::_::_::_::_::_::_::_::_::_::_::_::_::_::_) rfl ?_
  refine rl_det (met_none rfl) (fun h_ H_ => exd_move (v := .int .i64 ((writeB ts).2)) rfl) rfl ?_
  refine rl_det (met_none rfl) (fun h_ H_ => exd_eql rfl rfl) rfl ?_
  refine rl_det (met_none rfl) (fun h_ H_ => exd_move (v := .bool (decide ((writeB ts).2 = 0))) rfl) (tm' := _::_::_::_::_::_::_::_::_::_::_::_::_::_::_::_::_::_) rfl ?_
  by_cases cc14 : (writeB ts).2 = 0
  · refine rl_det (met_some rfl rfl (decide_eq_true cc14)) (fun h_ H_ => exd_move (v := sv ((writeB ts).1)) rfl) rfl ?_
    refine rl_det (met_some rfl rfl (decide_eq_true cc14)) (fun h_ H_ => exd_lenS (l := (writeB ts).1) Tryd.underlying9 rfl) rfl ?_
    refine rl_det (met_some rfl rfl (decide_eq_true cc14)) (fun h_ H_ => exd_geq rfl rfl) (tm' := [_,_,_,_,_,_,_,_,_,_,_,_,_,_,_,_,_,_,_,_,_,_,_,_,_,_]) rfl ?_
    refine rl_det (met_none rfl) (fun h_ H_ => exd_pick_t rfl (decide_eq_true cc14) (v := .bool (decide (5 ≤ ((((writeB ts).1).length : Nat) : Int)))) rfl) rfl ?_
    refine rl_det (met_none rfl) (fun h_ H_ => exd_move (v := .bool (decide (5 ≤ ((((writeB ts).1).length : Nat) : Int)))) rfl) rfl ?_
    by_cases cc15 : 5 ≤ ((((writeB ts).1).length : Nat) : Int)
    · refine rl_det (met_some rfl rfl (decide_eq_true cc15)) (fun h_ H_ => exd_move (v := sv ((writeB ts).1)) rfl) (tm' := [_,_,_,_,_,_,_,_,_,_,_,_,_,_,_,_,_,_,_,_,_,_,_,_,_,_]) rfl ?_
      refine rl_det (met_some rfl rfl (decide_eq_true cc15)) (fun h_ H_ => exd_lenS (l := (writeB ts).1) Tryd.underlying9 rfl) rfl ?_
      refine rl_det (met_some rfl rfl (decide_eq_true cc15)) (fun h_ H_ => exd_leq rfl rfl) rfl ?_
      refine rl_det (met_none rfl) (fun h_ H_ => exd_pick_t rfl (decide_eq_true cc15) (v := .bool (decide (((((writeB ts).1).length : Nat) : Int) ≤ 1400))) rfl) (tm' := [_,_,_,_,_,_,_,_,_,_,_,_,_,_,_,_,_,_,_,_,_,_,_,_,_,_]) rfl ?_
      refine rl_det (met_none rfl) (fun h_ H_ => exd_assign (v := sv ((writeB ts).1)) rfl) rfl ?_
      refine rl_det (met_none rfl) (fun h_ H_ => exd_assign (v := .bool (decide (((((writeB ts).1).length : Nat) : Int) ≤ 1400))) rfl) rfl ?_
      refine rl_end ?_
      refine fl_ret Tryd.func17 rfl (vs := [sv ((writeB ts).1), .bool (decide (((((writeB ts).1).length : Nat) : Int) ≤ 1400))]) (fun h_ H_ => ⟨sv ((writeB ts).1), _, rfl, rfl, ⟨.bool (decide (((((writeB ts).1).length : Nat) : Int) ≤ 1400)), _, rfl, rfl, rfl⟩⟩) (v := .tuple #[sv ((writeB ts).1), .bool (decide (((((writeB ts).1).length : Nat) : Int) ≤ 1400))]) rfl ?_
      exact fun h_ H_ => K _ _ ⟨congrArg (fun b_ => Value.tuple #[sv (writeB ts).1, .bool b_]) (decide_eq_decide.2 (by unfold wrOk; omega)), H_.kept⟩
    · refine rl_pass (met_not rfl rfl (decide_eq_false cc15)) (tm' := [_,_,_,_,_,_,_,_,_,_,_,_,_,_,_,_,_,_,_,_,_,_,_,_,_,_]) rfl ?_
      refine rl_pass (met_not rfl rfl (decide_eq_false cc15)) rfl ?_
      refine rl_pass (met_not rfl rfl (decide_eq_false cc15)) rfl ?_
      refine rl_det (met_none rfl) (fun h_ H_ => exd_pick_f rfl (decide_eq_false cc15) (v := .bool (false)) rfl) (tm' := [_,_,_,_,_,_,_,_,_,_,_,_,_,_,_,_,_,_,_,_,_,_,_,_,_,_]) rfl ?_
      refine rl_det (met_none rfl) (fun h_ H_ => exd_assign (v := sv ((writeB ts).1)) rfl) rfl ?_
      refine rl_det (met_none rfl) (fun h_ H_ => exd_assign (v := .bool (false)) rfl) rfl ?_
      refine rl_end ?_
      refine fl_ret Tryd.func17 rfl (vs := [sv ((writeB ts).1), .bool (false)]) (fun h_ H_ => ⟨sv ((writeB ts).1), _, rfl, rfl, ⟨.bool (false), _, rfl, rfl, rfl⟩⟩) (v := .tuple #[sv ((writeB ts).1), .bool (false)]) rfl ?_
      exact fun h_ H_ => K _ _ ⟨congrArg (fun b_ => Value.tuple #[sv (writeB ts).1, .bool b_]) ((decide_eq_false (by unfold wrOk; omega)).symm), H_.kept⟩
  · refine rl_pass (met_not rfl rfl (decide_eq_false cc14)) (tm' := [_,_,_,_,_,_,_,_,_,_,_,_,_,_,_,_,_,_,_,_,_,_,_,_,_,_]) rfl ?_
    refine rl_pass (met_not rfl rfl (decide_eq_false cc14)) rfl ?_
    refine rl_pass (met_not rfl rfl (decide_eq_false cc14)) rfl ?_
    refine rl_det (met_none rfl) (fun h_ H_ => exd_pick_f rfl (decide_eq_false cc14) (v := .bool (false)) rfl) (tm' := [_,_,_,_,_,_,_,_,_,_,_,_,_,_,_,_,_,_,_,_,_,_,_,_,_,_]) rfl ?_
    refine rl_det (met_none rfl) (fun h_ H_ => exd_move (v := .bool (false)) rfl) rfl ?_
    refine rl_pass (met_not rfl rfl rfl) rfl ?_
    refine rl_pass (met_not rfl rfl rfl) (tm' := [_,_,_,_,_,_,_,_,_,_,_,_,_,_,_,_,_,_,_,_,_,_,_,_,_,_]) rfl ?_
    refine rl_pass (met_not rfl rfl rfl) rfl ?_
    refine rl_det (met_none rfl) (fun h_ H_ => exd_pick_f rfl rfl (v := .bool (false)) rfl) rfl ?_
    refine rl_det (met_none rfl) (fun h_ H_ => exd_assign (v := sv ((writeB ts).1)) rfl) (tm' := _::_::_::_) rfl ?_
    refine rl_det (met_none rfl) (fun h_ H_ => exd_assign (v := .bool (false)) rfl) rfl ?_
    refine rl_end ?_
    refine fl_ret Tryd.func17 rfl (vs := [sv ((writeB ts).1), .bool (false)]) (fun h_ H_ => ⟨sv ((writeB ts).1), _, rfl, rfl, ⟨.bool (false), _, rfl, rfl, rfl⟩⟩) (v := .tuple #[sv ((writeB ts).1), .bool (false)]) rfl ?_
    exact fun h_ H_ => K _ _ ⟨congrArg (fun b_ => Value.tuple #[sv (writeB ts).1, .bool b_]) ((decide_eq_false (by unfold wrOk; omega)).symm), H_.kept⟩
theorem c41 (h : Heap) (p : PHeap) (hp : Per p h) (a : Option Addr) (n c : Nat) (ts : List By) (T : Strs p a n ts) (hn : n ≤ 1000) (ht : ∀ i, i < n → (ts.getD i []).length ≤ 2 ^ 60) : CallsX Tryd.prog .lone 41 #[.slice a n c] h fun v h' => ∃ w X, v = .tuple #[w, .bool (decide (chkT ts = 0))] ∧ OwnS 9 1 w (scs (pcB ts)) X ∧ New h h' X := by
  refine calls_intro (Φ := fun h_ => St h [] p h_ []) Tryd.func41 rfl (tm := [_, _, _, _, _, _, _, _, _, _, _, _, _, _, _, _, _, _, _, _, _, _, _, _, _, _, _, _, _, _, _, _, _, _, _, _, _, _, _, _, _, _]) rfl ?_ (St.start h _ hp)
  intro c₀ cs Stop K
  have hl := T.len
  refine fl_seq ?_
  refine rl_start ?_
  refine rl_det (met_none rfl) (fun h_ H_ => exd_assign (v := .slice none 0 0) rfl) rfl ?_
  refine rl_det (met_none rfl) (fun h_ H_ => exd_assign (v := .bool (false)) rfl) (tm' := _::_::_::_::_) rfl ?_
  refine rl_end ?_
  refine fl_seq ?_
  refine rl_start ?_
  refine rl_own (L' := ([] : Pcs) ++ []) rfl ?_
  refine rl_buildO ([] : Pcs) (met_none rfl) Tryd.underlying22 tS9 tZ9 (Nat.le_of_ble_eq_true rfl) (vs := []) rfl rfl (es := []) rfl rfl rfl fun v1 X2 o3 => ?_
  have o4 : OwnS 9 1 v1 (scs ([] : List By)) X2 := o3
  refine rl_det (met_none rfl) (fun h_ H_ => exd_move (v := .slice a n c) rfl) rfl ?_
  refine rl_appendP ([] : Pcs) X2 (met_none rfl) Tryd.underlying22 tS9 tZ9 rfl tB9 Tryd.underlying22 rfl rfl o4 T (scs_ones _) (by show (0 + _) * _ ≤ _; omega) (by decide) (by decide) fun v5 X6 o7 => ?_
  have o8 : OwnS 9 1 v5 (scs ts) X6 := o7.as rfl
  refine rl_norm (tm' := _::_::_::_::_::_::_::_::_::_::_::_) rfl ?_
  refine rl_lastN (A := ([] : Pcs)) o8 (scs_length _) fun p9 a10 cp11 le12 ev_ D13 => ?_
  subst ev_
  refine rl_own (L' := []) rfl ?_
  refine rl_own (L' := ([] : Pcs) ++ []) rfl ?_
  refine rl_call (met_none rfl) (first := []) (cap := []) rfl rfl fC47 (R := fun v_ h_ => ∃ w14 : Value, ∃ X15 : Pcs, v_ = .tuple #[w14, .int .i64 (chkT ts)] ∧ (OwnS 9 1 w14 (scs (pcB ts)) X15) ∧ St h [] p9 h_ (([] : Pcs) ++ (X15 ++ []))) (fun h_ H_ => (c47 _ _ (fun b_ o_ e_ => H_.per b_ o_ e_) a10 ts.length _ ts (show Strs _ _ _ ts from D13) (by omega) (fun i_ h_ => ht i_ (by omega))).mono fun v_ h2_ ⟨w14, X15, e_, o16, N_⟩ => ⟨w14, X15, e_, o16, H_.callNA N_⟩) fun v_ => ?_
  refine rl_ex fun w14 => rl_ex fun X15 => rl_and fun ev_ => rl_and fun o16 => ?_
  have ev_ := ev_.symm; subst ev_
  refine rl_own (L' := ([] : Pcs) ++ (X15 ++ [])) rfl ?_
  refine rl_det (met_none rfl) (fun h_ H_ => exd_move (v := .tuple #[w14, .int .i64 (chkT ts)]) rfl) rfl ?_
  refine rl_det (met_none rfl) (fun h_ H_ => exd_extract rfl (v := w14) rfl) (tm' := _::_::_::_::_::_::_::_::_::_::_::_::_::_) rfl ?_
  refine rl_det (met_none rfl) (fun h_ H_ => exd_extract rfl (v := .int .i64 (chkT ts)) rfl) rfl ?_
  refine rl_det (met_none rfl) (fun h_ H_ => exd_assign (v := w14) rfl) rfl ?_
  refine rl_det (met_none rfl) (fun h_ H_ => exd_assign (v := .int .i64 (chkT ts)) rfl) (tm' := _::_::_::_::_::_::_) rfl ?_
  refine rl_end ?_
  refine fl_seq ?_
  refine fl_seq ?_
  refine rl_start ?_
  refine rl_det (met_none rfl) (fun h_ H_ => exd_move (v := .int .i64 (chkT ts)) rfl) rfl ?_
  refine rl_det (met_none rfl) (fun h_ H_ => exd_neq rfl rfl) rfl ?_
  refine rl_det (met_none rfl) (fun h_ H_ => exd_move (v := .bool (decide (chkT ts ≠ 0))) rfl) (tm' := _::_::_::_::_::_::_::_::_::_::_::_::_::_::_::_::_::_) rfl ?_
  by_cases cc17 : chkT ts ≠ 0
  · refine rl_pass (met_not rfl rfl (decide_eq_true cc17)) rfl ?_
    refine rl_pass (met_not rfl rfl (decide_eq_true cc17)) rfl ?_
    refine rl_pass (met_not rfl rfl (decide_eq_true cc17)) (tm' := _::_::_::_::_::_::_::_::_::_::_::_::_::_::_::_::_::_::_::_::_) rfl ?_
    refine rl_det (met_none rfl) (fun h_ H_ => exd_pick_t rfl (decide_eq_true cc17) (v := .bool (true)) rfl) rfl ?_
    refine rl_end ?_
    refine fl_then rfl rfl ?_
    refine fl_seq ?_
    refine rl_start ?_
    refine rl_det (met_none rfl) (fun h_ H_ => exd_assign (v := .slice none 0 0) rfl) rfl ?_
    refine rl_det (met_none rfl) (fun h_ H_ => exd_assign (v := .bool (false)) rfl) (tm' := _::_::_::_::_) rfl ?_
    refine rl_end ?_
    refine fl_ret Tryd.func41 rfl (vs := [.slice none 0 0, .bool (false)]) (fun h_ H_ => ⟨.slice none 0 0, _, rfl, rfl, ⟨.bool (false), _, rfl, rfl, rfl⟩⟩) (v := .tuple #[.slice none 0 0, .bool (false)]) rfl ?_
    exact fun h_ H_ => K _ _ ⟨.slice none 0 0, [], by rw [decide_eq_false ‹_›], by rw [pcB, if_pos ‹_›]; exact OwnS.empty _ _, (H_.sub (List.nil_sublist _)).new⟩
  · refine rl_det (met_some rfl rfl (decide_eq_false cc17)) (fun h_ H_ => exd_move (v := w14) rfl) rfl ?_
    refine rl_det (met_some rfl rfl (decide_eq_false cc17)) (fun h_ H_ => exd_lenN o16 (scs_length _) Tryd.underlying22 rfl) rfl ?_
    refine rl_det (met_some rfl rfl (decide_eq_false cc17)) (fun h_ H_ => exd_gtr rfl rfl) (tm' := _::_::_::_::_::_::_::_::_::_::_::_::_::_::_::_::_::_::_::_::_) rfl ?_
    refine rl_det (met_none rfl) (fun h_ H_ => exd_pick_f rfl (decide_eq_false cc17) (v := .bool (decide (1000 < (((pcB ts).length : Nat) : Int)))) rfl) rfl ?_
    refine rl_end ?_
    by_cases cc18 : 1000 < (((pcB ts).length : Nat) : Int)
    · exact absurd cc18 (by have hpn_ := pc_len ‹¬ chkT ts ≠ 0›; omega)
    · refine fl_else rfl (decide_eq_false cc18) ?_
      refine fl_skip ?_
      refine fl_seq ?_
      refine fl_seq ?_
      have hk0 : chkT ts = 0 := Decidable.not_not.1 ‹_›
      have hq : ∀ i, i < (pcB ts).length → ((pcB ts).getD i []).length ≤ 1000 := long_pc ‹¬ chkT ts ≠ 0›
      have hpn := pc_len ‹¬ chkT ts ≠ 0›
      refine rl_start ?_
      refine rl_det (met_none rfl) (fun h_ H_ => exd_assign (v := .int .i64 0) rfl) rfl ?_
      refine rl_end ?_
      refine fl_block ?_
      refine fl_loop (m₀ := (pcB ts).length - 0) (fun m_ tm_ h_ => ∃ (k : Nat), m_ = (pcB ts).length - k ∧ (∃ y19 : Nat → Value, tm_ = [.slice a n c, undef, (y19 2), (y19 3), w14, .int .i64 (chkT ts), .int .i64 (((k : Nat) : Int)), .tuple #[w14, .int .i64 (chkT ts)], v1, .slice a n c, .slice a10 ts.length cp11, .tuple #[w14, .int .i64 (chkT ts)], w14, .int .i64 (chkT ts), .int .i64 (chkT ts), .bool (decide (chkT ts ≠ 0)), .bool (decide (chkT ts ≠ 0)), w14, .int .i64 ((((pcB ts).length : Nat) : Int)), .bool (decide (1000 < (((pcB ts).length : Nat) : Int))), .bool (decide (1000 < (((pcB ts).length : Nat) : Int))), (y19 21), (y19 22), (y19 23), (y19 24), (y19 25), (y19 26), (y19 27), (y19 28), (y19 29), (y19 30), (y19 31), (y19 32), (y19 33), (y19 34), (y19 35), (y19 36), (y19 37), (y19 38), (y19 39), (y19 40), undef]) ∧ (k ≤ (pcB ts).length) ∧ St h [] p9 h_ (([] : Pcs) ++ (X15 ++ []))) (fun h_ H_ => ⟨0, rfl, (y_of rfl), Nat.zero_le _, H_⟩) ?_
      intro m_ tm_ IH20
      refine rs_ex fun k => rs_and fun hm_ => rs_and fun ht_ => rs_and fun hk => ?_
      subst hm_; obtain ⟨y19, ht_⟩ := ht_; subst ht_
      refine fl_seq ?_
      refine fl_seq ?_
      refine rl_start ?_
      refine rl_det (met_none rfl) (fun h_ H_ => exd_move (v := .int .i64 (((k : Nat) : Int))) rfl) (tm' := _::_::_::_::_::_::_::_::_::_::_::_::_::_::_::_::_::_::_::_::_::_::_) rfl ?_
      refine rl_det (met_none rfl) (fun h_ H_ => exd_move (v := w14) rfl) rfl ?_
      refine rl_det (met_none rfl) (fun h_ H_ => exd_lenN o16 (scs_length _) Tryd.underlying22 rfl) rfl ?_
      refine rl_det (met_none rfl) (fun h_ H_ => exd_lss rfl rfl) (tm' := _::_::_::_::_::_::_::_::_::_::_::_::_::_::_::_::_::_::_::_::_::_::_::_::_::_) rfl ?_
      refine rl_end ?_
      by_cases cc21 : ((k : Nat) : Int) < (((pcB ts).length : Nat) : Int)
      · refine fl_then rfl (decide_eq_true cc21) ?_
        refine fl_skip ?_
        refine fl_seq ?_
        refine fl_block ?_
        refine fl_seq ?_
        refine rl_start ?_
        refine rl_det (met_none rfl) (fun h_ H_ => exd_move (v := w14) rfl) rfl ?_
        refine rl_det (met_none rfl) (fun h_ H_ => exd_move (v := .int .i64 (((k : Nat) : Int))) rfl) rfl ?_
        refine rl_det (met_none rfl) (fun h_ H_ => exd_indexO o16 Tryd.underlying22 tS9 rfl rfl (by rw [(scs_length _)]; omega)) (tm' := [_,_,_,_,_,_,_,_,_,_,_,_,_,_,_,_,_,_,_,_,_,_,_,_,_,_,_,_,_,_,_,_,_,_,_,_,_,_,_,_,_,_]) rfl ?_
        refine rl_det (met_none rfl) (fun h_ H_ => exd_loadO (A := ([] : Pcs)) (i := k) (j := 0) (e := [sv ((pcB ts).getD k [])]) o16 H_ tA9 rfl rfl (scs_at (by omega)) (u := sv ((pcB ts).getD k [])) rfl) rfl ?_
        refine rl_det (met_none rfl) (fun h_ H_ => exd_lenS (l := (pcB ts).getD k []) Tryd.underlying9 rfl) rfl ?_
        refine rl_det (met_none rfl) (fun h_ H_ => exd_lss rfl rfl) (tm' := [_,_,_,_,_,_,_,_,_,_,_,_,_,_,_,_,_,_,_,_,_,_,_,_,_,_,_,_,_,_,_,_,_,_,_,_,_,_,_,_,_,_]) rfl ?_
        refine rl_det (met_none rfl) (fun h_ H_ => exd_move (v := .bool (decide (((((pcB ts).getD k []).length : Nat) : Int) < 1))) rfl) rfl ?_
        by_cases cc22 : ((((pcB ts).getD k []).length : Nat) : Int) < 1
        · exact absurd cc22 (by have hq_ := pc_pos (ts := ts) (i := k) (by omega); omega)
        · refine rl_det (met_some rfl rfl (decide_eq_false cc22)) (fun h_ H_ => exd_move (v := w14) rfl) rfl ?_
          refine rl_det (met_some rfl rfl (decide_eq_false cc22)) (fun h_ H_ => exd_move (v := .int .i64 (((k : Nat) : Int))) rfl) (tm' := [_,_,_,_,_,_,_,_,_,_,_,_,_,_,_,_,_,_,_,_,_,_,_,_,_,_,_,_,_,_,_,_,_,_,_,_,_,_,_,_,_,_]) rfl ?_
          refine rl_det (met_some rfl rfl (decide_eq_false cc22)) (fun h_ H_ => exd_indexO o16 Tryd.underlying22 tS9 rfl rfl (by rw [(scs_length _)]; omega)) rfl ?_
          refine rl_det (met_some rfl rfl (decide_eq_false cc22)) (fun h_ H_ => exd_loadO (A := ([] : Pcs)) (i := k) (j := 0) (e := [sv ((pcB ts).getD k [])]) o16 H_ tA9 rfl rfl (scs_at (by omega)) (u := sv ((pcB ts).getD k [])) rfl) rfl ?_
          refine rl_det (met_some rfl rfl (decide_eq_false cc22)) (fun h_ H_ => exd_lenS (l := (pcB ts).getD k []) Tryd.underlying9 rfl) (tm' := [_,_,_,_,_,_,_,_,_,_,_,_,_,_,_,_,_,_,_,_,_,_,_,_,_,_,_,_,_,_,_,_,_,_,_,_,_,_,_,_,_,_]) rfl ?_
          refine rl_det (met_some rfl rfl (decide_eq_false cc22)) (fun h_ H_ => exd_gtr rfl rfl) rfl ?_
          refine rl_det (met_none rfl) (fun h_ H_ => exd_pick_f rfl (decide_eq_false cc22) (v := .bool (decide (1000 < ((((pcB ts).getD k []).length : Nat) : Int)))) rfl) rfl ?_
          refine rl_end ?_
          by_cases cc23 : 1000 < ((((pcB ts).getD k []).length : Nat) : Int)
          · exact absurd cc23 (by have hq_ := hq k (by omega); omega)
          · refine fl_else rfl (decide_eq_false cc23) ?_
            refine fl_skip ?_
            refine fl_inBlock ?_
            refine rl_start ?_
            refine rl_det (met_none rfl) (fun h_ H_ => exd_move (v := .int .i64 (((k : Nat) : Int))) rfl) (tm' := _::_::_::_::_::_::_::_::_::_::_::_::_::_::_::_::_::_::_::_::_::_::_::_::_::_::_) rfl ?_
            refine rl_det (met_none rfl) (fun h_ H_ => exd_add rfl rfl (n := ((k + 1 : Nat) : Int)) (wr (by omega))) rfl ?_
            refine rl_det (met_none rfl) (fun h_ H_ => exd_assign (v := .int .i64 (((k + 1 : Nat) : Int))) rfl) rfl ?_
            refine rl_end ?_
            exact fun h_ H_ => IH20 _ _ (by omega) h_ ⟨k + 1, rfl, (y_of rfl), (by omega), H_⟩
      · refine fl_else rfl (decide_eq_false cc21) ?_
        refine fl_exit rfl ?_
        refine fl_seq ?_
        refine rl_start ?_
        refine rl_det (met_none rfl) (fun h_ H_ => exd_move (v := w14) rfl) (tm' := [_,_,_,_,_,_,_,_,_,_,_,_,_,_,_,_,_,_,_,_,_,_,_,_,_,_,_,_,_,_,_,_,_,_,_,_,_,_,_,_,_,_]) rfl ?_
        refine rl_det (met_none rfl) (fun h_ H_ => exd_assign (v := w14) rfl) rfl ?_
        refine rl_det (met_none rfl) (fun h_ H_ => exd_assign (v := .bool (true)) rfl) rfl ?_
        refine rl_end ?_
        refine fl_ret Tryd.func41 rfl (vs := [w14, .bool (true)]) (fun h_ H_ => ⟨w14, _, rfl, rfl, ⟨.bool (true), _, rfl, rfl, rfl⟩⟩) (v := .tuple #[w14, .bool (true)]) rfl ?_
        exact fun h_ H_ => K _ _ ⟨_, _, by rw [decide_eq_true hk0], o16, (H_.sub (by simp)).new⟩
end Go.Proofs.YtiinpnlfdeiloaaDoor
namespace Go.X.Cent
open Go.X Go.Proofs

theorem take_pre {u v : By} {i : Nat} (h : i ≤ u.length) : (u ++ v).take i = u.take i := by rw [List.take_append_of_le_length h]
theorem lp_pre {ph : List By} (hP : Phr ph) {u v : By} (hk : lp ph u < u.length) : lp ph (u ++ v) = lp ph u := by
  have h := lp_spec (s := u) hP.mem
  refine lp_found hP.mem (by rw [List.length_append]; omega) (fun i hi => ?_) fun _ => ?_
  · rw [take_pre (by omega)]; exact h.1 i hi
  · rw [take_pre (by omega)]; exact h.2 hk
theorem each_pre : ∀ {n : Nat} {ph : List By} {u v : By}, u.length ≤ n → Phr ph → (eachS ph u).length ≤ (eachS ph (u ++ v)).length ∧
    ∀ i, i < (eachS ph u).length → (i + 1 < (eachS ph u).length → (eachS ph u).getD i [] = (eachS ph (u ++ v)).getD i []) ∧ (eachS ph u).getD i [] <+: (eachS ph (u ++ v)).getD i []
  | 0, ph, u, v, h, _ => by
    have : u = [] := List.eq_nil_of_length_eq_zero (by omega)
    subst this
    rw [eachS_nil]
    exact ⟨by simp, fun i hi => by simp at hi⟩
  | n + 1, ph, u, v, h, hP => by
    by_cases h0 : u = []
    · subst h0
      rw [eachS_nil]
      exact ⟨by simp, fun i hi => by simp at hi⟩
    by_cases hk : lp ph u < u.length
    · have e := lp_pre (v := v) hP hk
      have hk2 : lp ph (u ++ v) < (u ++ v).length := by rw [e, List.length_append]; omega
      rw [eachS_more hk, eachS_more hk2, e, take_pre (by omega), List.drop_append_of_le_length (by omega)]
      obtain ⟨i1, i2⟩ := each_pre (n := n) (ph := ph ++ [u.take (lp ph u + 1)]) (u := u.drop (lp ph u + 1)) (v := v) (by rw [List.length_drop]; omega) (hP.snoc hk)
      refine ⟨by simp only [List.length_cons]; omega, fun i hi => ?_⟩
      cases i with
      | zero => exact ⟨fun _ => rfl, List.prefix_refl _⟩
      | succ i =>
        simp only [List.length_cons] at hi ⊢
        have := i2 i (by omega)
        simp only [List.getD_cons_succ]
        exact ⟨fun z => this.1 (by omega), this.2⟩
    · rw [eachS_last h0 hk]
      have hne : u ++ v ≠ [] := fun z => h0 (List.append_eq_nil_iff.1 z).1
      have hu : u.take u.length ∈ ph := by
        have h2 := (lp_spec (s := u) hP.mem).1 (lp ph u) (Nat.le_refl _)
        have : lp ph u = u.length := by have := lp_le ph u; omega
        rwa [this] at h2
      have hle : u.length ≤ lp ph (u ++ v) := by
        rcases Nat.lt_or_ge (lp ph (u ++ v)) u.length with c | c
        · have := lp_max hP c (by rw [List.length_append]; omega)
          rw [take_pre (Nat.le_refl _)] at this
          exact absurd hu this
        · exact c
      have hp : ∃ x r, eachS ph (u ++ v) = x :: r ∧ u <+: x := by
        by_cases hk2 : lp ph (u ++ v) < (u ++ v).length
        · refine ⟨_, _, eachS_more hk2, ?_⟩
          rw [List.take_append]
          exact ⟨v.take (lp ph (u ++ v) + 1 - u.length), by rw [List.take_of_length_le (l := u) (by omega)]⟩
        · exact ⟨_, _, eachS_last hne hk2, List.prefix_append u v⟩
      obtain ⟨x, r, e, hx⟩ := hp
      rw [e]
      refine ⟨by simp, fun i hi => ?_⟩
      obtain rfl : i = 0 := by simpa using hi
      exact ⟨fun z => absurd z (by simp), hx⟩
theorem whole_app : ∀ (xs ys : List By), wholeB (xs ++ ys) = wholeB xs ++ wholeB ys
  | [], ys => rfl
  | x :: xs, ys => by
    rw [List.cons_append, wholeB, wholeB, whole_app xs ys]
    simp
structure Beg (K L : List By) : Prop where
  len : K.length ≤ L.length
  eq : ∀ i, i + 1 < K.length → K.getD i [] = L.getD i []
  pre : ∀ i, i < K.length → K.getD i [] <+: L.getD i []
theorem beg_of {ts : List By} (h : chkT ts = 0) (k : Nat) : Beg (pcB (ts.take k)) (pcB ts) := by
  rw [pc_good h, pc_good (chk_take h k)]
  have e : wholeB ts = wholeB (ts.take k) ++ wholeB (ts.drop k) := by rw [← whole_app, List.take_append_drop]
  rw [e]
  have := each_pre (v := wholeB (ts.drop k)) (Nat.le_refl (wholeB (ts.take k)).length) Phr.one
  exact ⟨this.1, fun i hi => (this.2 i (by omega)).1 hi, fun i hi => (this.2 i hi).2⟩
theorem pre_take {K L : By} (h : K <+: L) : L.take K.length = K := (List.prefix_iff_eq_take.1 h).symm
end Go.X.Cent
namespace Go.X.Cent
open Go.X Go.Proofs

theorem flat_tri {l : List By} (h : ∀ i, i < l.length → (l.getD i []).length ≤ i + 1) : ∀ k, k ≤ l.length → 2 * (l.take k).flatten.length ≤ k * (k + 1)
  | 0, _ => by simp
  | k + 1, hk => by
    have ih := flat_tri h k (by omega)
    have h1 := h k (by omega)
    rw [flat_step (by omega), List.length_append]
    have e : (k + 1) * (k + 1 + 1) = k * (k + 1) + 2 * (k + 1) := by
      show (k + 1) * (k + 2) = _
      rw [Nat.mul_add, Nat.mul_comm (k + 1) k]; omega
    omega
theorem whole_tri {ts : List By} (h : chkT ts = 0) : 2 * (wholeB ts).length ≤ (pcB ts).length * ((pcB ts).length + 1) := by
  have p := pf_of h
  have := flat_tri (l := pcB ts) (fun i hi => p.short i (by rw [← p.len]; exact hi)) (pcB ts).length (Nat.le_refl _)
  rwa [List.take_length, pc_join h] at this
theorem tri_cast (n : Nat) : ((n : Nat) : Int) * ((n + 1 : Nat) : Int) = ((n * (n + 1) : Nat) : Int) := by simp
theorem tri_bound {n : Nat} (h : n ≤ 1000) : -9223372036854775808 ≤ ((n : Nat) : Int) * ((n + 1 : Nat) : Int) ∧ ((n : Nat) : Int) * ((n + 1 : Nat) : Int) ≤ 9223372036854775807 := by
  rw [tri_cast]
  have := Nat.mul_le_mul h (show n + 1 ≤ 1001 by omega)
  omega
theorem tri_nonneg {n : Nat} : 0 ≤ ((n : Nat) : Int) * ((n + 1 : Nat) : Int) := by rw [tri_cast]; omega
theorem tri_div {n : Nat} (h : n ≤ 1000) : -9223372036854775808 ≤ ((n : Nat) : Int) * ((n + 1 : Nat) : Int) / 2 ∧ ((n : Nat) : Int) * ((n + 1 : Nat) : Int) / 2 ≤ 9223372036854775807 := by
  rw [tri_cast]
  have := Nat.mul_le_mul h (show n + 1 ≤ 1001 by omega)
  omega
theorem whole_low {ts : List By} (h : chkT ts = 0) : (((wholeB ts).length : Nat) : Int) ≤ (((pcB ts).length : Nat) : Int) * (((pcB ts).length + 1 : Nat) : Int) / 2 := by
  have := whole_tri h
  rw [tri_cast]
  omega
theorem tri_few {j : Nat} {m : Int} (hj : j ≤ 7) (hm : m ≤ 20) (h : ((j : Nat) : Int) * ((j + 1 : Nat) : Int) / 2 < m) : j ≤ 5 := by
  have : j = 0 ∨ j = 1 ∨ j = 2 ∨ j = 3 ∨ j = 4 ∨ j = 5 ∨ j = 6 ∨ j = 7 := by omega
  rcases this with rfl | rfl | rfl | rfl | rfl | rfl | rfl | rfl <;> first | omega | (exfalso; revert h; simp only [tri_cast]; omega)
def triT (m j : Nat) : Bool := (decide (m ≤ j * (j + 1) / 2) && (List.range j).all fun i => decide (i * (i + 1) / 2 < m))
theorem few_all : ∀ m, m < 21 → ∀ j, j < 8 → triT m j = true → (eachS [[]] (wholeB (List.replicate m []))).length = j := by decide +kernel
theorem empty_chk {m : Nat} (h : m ≤ 20) : chkT (List.replicate m ([] : By)) = 0 := chk_of (by simpa using h) fun t ht => by
  rw [List.eq_of_mem_replicate ht]
  exact ⟨by simp, by simp⟩
theorem few_is {m : Int} {j : Nat} (h0 : 0 ≤ m) (h1 : m ≤ 20) (hj : j ≤ 7) (h2 : ¬ ((j : Nat) : Int) * ((j + 1 : Nat) : Int) / 2 < m) (h3 : ∀ i : Nat, i < j → ((i : Nat) : Int) * ((i + 1 : Nat) : Int) / 2 < m) : (pcB (List.replicate m.toNat [])).length = j := by
  rw [pc_good (empty_chk (by omega))]
  refine few_all m.toNat (by omega) j (by omega) ?_
  unfold triT
  rw [tri_cast] at h2
  simp only [Bool.and_eq_true, decide_eq_true_eq, List.all_eq_true, List.mem_range]
  refine ⟨by omega, fun i hi => ?_⟩
  have := h3 i hi
  rw [tri_cast] at this
  omega
theorem rep_scs (n : Nat) : List.replicate n [sv ([] : By)] = scs (List.replicate n ([] : By)) := by simp [scs]
end Go.X.Cent
namespace Go.X
open Go.Conc
section
variable {P : Program} {md : Md} {f : FuncId} {r : Rd} {df : List Deferred} {k : List Item} {cs : List Frame} {Stop : Goroutine → Heap → Prop} {ops rest : List Oper} {tm : List Value}
  {h₀ : Heap} {B₀ : List Nat} {p : PHeap} {A C : Pcs} {ty : TypeId} {pos : String} {aft : Array Edge} {gd : Option (Nat × Bool)}
theorem flat_rep (z : Value) : ∀ n : Nat, (List.replicate n [z]).flatten = List.replicate n z
  | 0 => rfl
  | n + 1 => by simp [List.replicate_succ, flat_rep z n]
theorem rl_makeS {dd : Nat} {sT eT : TypeId} {x y : Operand} {n by' : Nat} {z z1 : Value} (A : Pcs) (hm : Met ops tm ⟨some dd, .makeSlice sT x y, ty, pos, aft, gd⟩ true) (hT : P.underlying sT = some (.slice eT)) (hs : sizeT P eT = some 1) (hz : zeroT P eT = some z) (hzs : z.cells = #[z1])
    (hb : bytesT P eT = some by') (hx : evl tm x = .int .i64 ((n : Nat) : Int)) (hy : evl tm y = .int .i64 ((n : Nat) : Int)) (hn : n ≤ 1000) (hb2 : by' ≤ 2 ^ 20)
    (nx : ∀ v X, OwnS eT 1 v (List.replicate n [z1]) X → RL P md f r df k cs Stop ops rest (tm.set dd v) (fun h => St h₀ B₀ p h (A ++ (X ++ C)))) :
    RL P md f r df k cs Stop ops (⟨some dd, .makeSlice sT x y, ty, pos, aft, gd⟩ :: rest) tm (fun h => St h₀ B₀ p h (A ++ C)) := by
  refine rl_step (K := fun v h' => ∃ X, OwnS eT 1 v (List.replicate n [z1]) X ∧ St h₀ B₀ p h' (A ++ (X ++ C))) hm rfl (fun h s => ?_) fun v => rl_ex fun X => rl_and fun o => nx v X o
  have hbuild : ∀ b, OwnS eT 1 (.slice (some ⟨b, 0, none⟩) n n) (List.replicate n [z1]) [(b, .cells (List.replicate n z1).toArray eT (0, 0))] := fun b =>
    OwnS.build (by rw [flat_rep]) (fun e he => by rw [List.eq_of_mem_replicate he]; rfl) (by simp) (by omega)
  obtain ⟨info, hi, hib⟩ : ∃ i, P.info? eT = some i ∧ i.bytes = by' := by
    unfold bytesT at hb
    cases e : P.info? eT with
    | none => rw [e] at hb; cases hb
    | some i => rw [e] at hb; exact ⟨i, rfl, Option.some.inj hb⟩
  have hw : IntKind.i64.wrap ((n : Nat) : Int) = ((n : Nat) : Int) := wr (by omega)
  have hmul : by' * n ≤ 2 ^ 20 * 1000 := Nat.mul_le_mul hb2 hn
  unfold Ex
  simp only [execOp, hx, hy]
  refine wpS_bind ?_
  unfold Instr.makeSlice
  refine wpS_bind (wpS_underlying hT ?_)
  simp only [asInt]
  refine wpS_bind (wpS_pure ?_)
  refine wpS_bind (wpS_pure ?_)
  refine wpS_bind (wpS_typeInfo hi ?_)
  simp only [hw, hib]
  rw [if_neg (by
    have h1 : ¬ ((n : Nat) : Int) < 0 := by omega
    have h2 : ¬ ((by' : Nat) : Int) * ((n : Nat) : Int) > 2 ^ 48 := by
      have : ((by' : Nat) : Int) * ((n : Nat) : Int) = ((by' * n : Nat) : Int) := by simp
      rw [this]; omega
    simp only [Bool.or_eq_true, decide_eq_true_eq]
    rintro ((z | z) | z)
    · rcases z with z | z
      · exact h1 z
      · exact h2 z
    · exact h1 z
    · omega)]
  have ask : ∀ (b : Nat) (K : Unit → Heap → Prop), K () h → wpS P (askRoom b) h K := by
    intro b K hK
    unfold askRoom
    split
    · exact ⟨rfl, hK⟩
    · exact wpS_pure hK
  refine wpS_bind (ask _ _ ?_)
  refine wpS_bind (wpS_sizeOf hs ?_)
  simp only [Int.toNat_natCast, Nat.mul_one]
  have fin : ∀ h' : Heap, St h₀ B₀ p h' ((h.size, .cells (List.replicate n z1).toArray eT (0, 0)) :: (A ++ C)) → St h₀ B₀ p h' (A ++ ([(h.size, Obj.cells (List.replicate n z1).toArray eT (0, 0))] ++ C)) := fun h' s' => s'.perm (by simpa using (List.perm_middle (l₁ := A) (l₂ := C)).symm)
  by_cases h0 : n = 0
  · subst h0
    simp only [if_true]
    refine wpS_bind (wpS_pure ?_)
    rw [show (Array.range 0).map ((#[] : Array Value)[· % (#[] : Array Value).size]!) = (List.replicate 0 z1).toArray from by rw [show Array.range 0 = (#[] : Array Nat) from by simp, Array.map_empty]; rfl]
    refine wpS_bind (wpS_newRow ?_)
    refine wpS_pure ?_
    exact wpS_pure ⟨_, rfl, _, hbuild h.size, fin _ (s.push _)⟩
  · rw [if_neg h0]
    refine wpS_bind (wpS_zeroValue hz ?_)
    refine wpS_bind (wpS_pure ?_)
    have hc : (Array.range n).map (z.cells[· % z.cells.size]!) = (List.replicate n z1).toArray := by
      rw [hzs]
      apply Array.ext'
      simp only [Array.toList_map, Array.toList_range, List.size_toArray, List.length_cons, List.length_nil]
      have e : (fun x : Nat => (#[z1][x % (0 + 1)]! : Value)) = fun _ => z1 := funext fun x => by rw [Nat.zero_add, Nat.mod_one]; rfl
      rw [e, List.map_const', List.length_range]
    rw [hc]
    refine wpS_bind (wpS_newRow ?_)
    refine wpS_pure ?_
    exact wpS_pure ⟨_, rfl, _, hbuild h.size, fin _ (s.push _)⟩
theorem rl_makeZ {dd : Nat} {sT eT : TypeId} {x y : Operand} {m : Int} {by' : Nat} {z z1 : Value} (A : Pcs) (hm : Met ops tm ⟨some dd, .makeSlice sT x y, ty, pos, aft, gd⟩ true) (hT : P.underlying sT = some (.slice eT)) (hs : sizeT P eT = some 1) (hz : zeroT P eT = some z) (hzs : z.cells = #[z1])
    (hb : bytesT P eT = some by') (hx : evl tm x = .int .i64 m) (hy : evl tm y = .int .i64 m) (h0 : 0 ≤ m) (hn : m ≤ 1000) (hb2 : by' ≤ 2 ^ 20)
    (nx : ∀ v X, OwnS eT 1 v (List.replicate m.toNat [z1]) X → RL P md f r df k cs Stop ops rest (tm.set dd v) (fun h => St h₀ B₀ p h (A ++ (X ++ C)))) :
    RL P md f r df k cs Stop ops (⟨some dd, .makeSlice sT x y, ty, pos, aft, gd⟩ :: rest) tm (fun h => St h₀ B₀ p h (A ++ C)) := by
  have e : m = ((m.toNat : Nat) : Int) := by omega
  exact rl_makeS A hm hT hs hz hzs hb (by rw [hx, ← e]) (by rw [hy, ← e]) (by omega) hb2 nx
end
end Go.X
