/-
  Part of proofs about the century: a lone run, and what it computes. No condition.
-/
import Derived.Test.YtiinpnlfdeiloaaDoorD2
import Derived.Test.YtiinpnlfdeiloaaDoorD3
import Derived.Test.YtiinpnlfdeiloaaDoorD1
namespace Go.Proofs.YtiinpnlfdeiloaaDoor
open Go.X Go.X.Cent Go.Conc
set_option maxRecDepth 10000
set_option synthInstance.maxSize 2000
set_option synthInstance.maxHeartbeats 400000

set_option maxHeartbeats 1000000
theorem c45 (h : Heap) (p : PHeap) (hp : Per p h) (htab : Tab h) (a : Option Addr) (n c : Nat) (ts : List By) (T : Strs p a n ts) (hn : n ≤ 2 ^ 60) (ht : ∀ i, i < n → (ts.getD i []).length ≤ 2 ^ 60) : CallsX Tryd.prog .lone 45 #[.slice a n c] h fun v h' => v = .tuple #[sv (writeB ts).1, .int .i64 (writeB ts).2] ∧ Keep h h' := by
  refine calls_intro (Φ := fun h_ => St h [] p h_ []) Tryd.func45 rfl (tm := [_, _, _, _, _, _, _, _, _, _, _, _]) rfl ?_ (St.start h _ hp)
  intro c₀ cs Stop K
  refine fl_seq ?_
  refine rl_start ?_
  refine rl_det (met_none rfl) (fun h_ H_ => exd_assign (v := sv ([] : List UInt8)) rfl) rfl ?_
  refine rl_det (met_none rfl) (fun h_ H_ => exd_assign (v := .int .i64 0) rfl) rfl ?_
  refine rl_end ?_
  refine fl_seq ?_
  refine fl_seq ?_
  refine rl_start ?_
  refine rl_det (met_none rfl) (fun h_ H_ => exd_move (v := .slice a n c) rfl) (tm' := _::_::_::_::_::_::_) rfl ?_
  refine rl_calld (met_none rfl) (first := []) (cap := []) rfl rfl fC57 (fun h_ H_ => c57 _ _ (fun b_ o_ e_ => H_.per b_ o_ e_) a n _ _ T (by omega) (fun i_ h_ => ht i_ h_)) rfl ?_
  refine rl_det (met_none rfl) (fun h_ H_ => exd_assign (v := .int .i64 (chkT ts)) rfl) rfl ?_
  refine rl_end ?_
  refine fl_seq ?_
  refine rl_start ?_
  refine rl_det (met_none rfl) (fun h_ H_ => exd_move (v := .int .i64 (chkT ts)) rfl) (tm' := _::_::_::_::_::_::_::_::_) rfl ?_
  refine rl_det (met_none rfl) (fun h_ H_ => exd_neq rfl rfl) rfl ?_
  refine rl_end ?_
  by_cases cc1 : chkT ts ≠ 0
  · refine fl_then rfl (decide_eq_true cc1) ?_
    refine fl_seq ?_
    refine rl_start ?_
    refine rl_det (met_none rfl) (fun h_ H_ => exd_move (v := .int .i64 (chkT ts)) rfl) rfl ?_
    refine rl_det (met_none rfl) (fun h_ H_ => exd_assign (v := sv ([] : List UInt8)) rfl) (tm' := _::_::_::_) rfl ?_
    refine rl_det (met_none rfl) (fun h_ H_ => exd_assign (v := .int .i64 (chkT ts)) rfl) rfl ?_
    refine rl_end ?_
    refine fl_ret Tryd.func45 rfl (vs := [sv ([] : List UInt8), .int .i64 (chkT ts)]) (fun h_ H_ => ⟨sv ([] : List UInt8), _, rfl, rfl, ⟨.int .i64 (chkT ts), _, rfl, rfl, rfl⟩⟩) (v := .tuple #[sv ([] : List UInt8), .int .i64 (chkT ts)]) rfl ?_
    exact fun h_ H_ => K _ _ ⟨by rw [writeB, if_pos ‹_›], H_.kept⟩
  · refine fl_else rfl (decide_eq_false cc1) ?_
    refine fl_skip ?_
    refine fl_seq ?_
    obtain ⟨hw40, hw200, hw820, hts20, hen, hem⟩ := good_len ‹¬ chkT ts ≠ 0›
    have hl := T.len
    refine rl_start ?_
    refine rl_det (met_none rfl) (fun h_ H_ => exd_move (v := .slice a n c) rfl) rfl ?_
    refine rl_calld (met_none rfl) (first := []) (cap := []) rfl rfl fC58 (fun h_ H_ => c58 _ _ (fun b_ o_ e_ => H_.per b_ o_ e_) (htab.keep H_.kept) a n _ _ T (by omega) hw40) (tm' := [_,_,_,_,_,_,_,_,_,_,_,_]) rfl ?_
    refine rl_det (met_none rfl) (fun h_ H_ => exd_assign (v := sv (fileB ts)) rfl) rfl ?_
    refine rl_det (met_none rfl) (fun h_ H_ => exd_assign (v := .int .i64 0) rfl) rfl ?_
    refine rl_end ?_
    refine fl_ret Tryd.func45 rfl (vs := [sv (fileB ts), .int .i64 0]) (fun h_ H_ => ⟨sv (fileB ts), _, rfl, rfl, ⟨.int .i64 0, _, rfl, rfl, rfl⟩⟩) (v := .tuple #[sv (fileB ts), .int .i64 0]) rfl ?_
    exact fun h_ H_ => K _ _ ⟨by rw [writeB, if_neg ‹_›], H_.kept⟩
theorem c47 (h : Heap) (p : PHeap) (hp : Per p h) (a : Option Addr) (n c : Nat) (ts : List By) (T : Strs p a n ts) (hn : n ≤ 2 ^ 60) (ht : ∀ i, i < n → (ts.getD i []).length ≤ 2 ^ 60) : CallsX Tryd.prog .lone 47 #[.slice a n c] h fun v h' => ∃ w X, v = .tuple #[w, .int .i64 (chkT ts)] ∧ OwnS 9 1 w (scs (pcB ts)) X ∧ New h h' X := by
  refine calls_intro (Φ := fun h_ => St h [] p h_ []) Tryd.func47 rfl (tm := [_, _, _, _, _, _, _, _, _, _, _, _, _, _, _, _, _, _, _, _, _, _, _, _]) rfl ?_ (St.start h _ hp)
  intro c₀ cs Stop K
  refine fl_seq ?_
  refine rl_start ?_
  refine rl_det (met_none rfl) (fun h_ H_ => exd_assign (v := .slice none 0 0) rfl) (tm' := _::_::_::_) rfl ?_
  refine rl_det (met_none rfl) (fun h_ H_ => exd_assign (v := .int .i64 0) rfl) rfl ?_
  refine rl_end ?_
  refine fl_seq ?_
  refine rl_start ?_
  refine rl_det (met_none rfl) (fun h_ H_ => exd_move (v := .slice a n c) rfl) rfl ?_
  refine rl_own (L' := ([] : Pcs) ++ []) rfl ?_
  refine rl_call (met_none rfl) (first := []) (cap := []) rfl rfl fC59 (R := fun v_ h_ => ∃ w1 : Value, ∃ X2 : Pcs, v_ = .tuple #[w1, .int .i64 (chkT ts)] ∧ (chkT ts = 0 → OwnS 60 2 w1 (pies (encS [[]] (wholeB ts))) X2) ∧ (chkT ts ≠ 0 → w1 = .slice none 0 0 ∧ X2 = []) ∧ St h [] p h_ (([] : Pcs) ++ (X2 ++ []))) (fun h_ H_ => (c59 _ _ (fun b_ o_ e_ => H_.per b_ o_ e_) a n _ ts T (by omega) (fun i_ h_ => ht i_ h_)).mono fun v_ h2_ ⟨w1, X2, e_, F3, F4, N_⟩ => ⟨w1, X2, e_, F3, F4, H_.callNA N_⟩) fun v_ => ?_
  refine rl_ex fun w1 => rl_ex fun X2 => rl_and fun ev_ => rl_and fun F3 => rl_and fun F4 => ?_
  have ev_ := ev_.symm; subst ev_
  refine rl_own (L' := ([] : Pcs) ++ (X2 ++ [])) rfl ?_
  refine rl_norm (tm' := _::_::_::_::_::_::_::_::_::_::_::_::_) rfl ?_
  refine rl_det (met_none rfl) (fun h_ H_ => exd_move (v := .tuple #[w1, .int .i64 (chkT ts)]) rfl) rfl ?_
  refine rl_det (met_none rfl) (fun h_ H_ => exd_extract rfl (v := w1) rfl) rfl ?_
  refine rl_det (met_none rfl) (fun h_ H_ => exd_extract rfl (v := .int .i64 (chkT ts)) rfl) (tm' := _::_::_::_::_::_::_::_::_::_::_::_::_::_::_) rfl ?_
  refine rl_det (met_none rfl) (fun h_ H_ => exd_assign (v := w1) rfl) rfl ?_
  refine rl_det (met_none rfl) (fun h_ H_ => exd_assign (v := .int .i64 (chkT ts)) rfl) rfl ?_
  refine rl_end ?_
  refine fl_seq ?_
  refine fl_seq ?_
  refine rl_start ?_
  refine rl_det (met_none rfl) (fun h_ H_ => exd_move (v := .int .i64 (chkT ts)) rfl) (tm' := _::_::_::_::_::_::_::_::_::_::_::_::_::_::_::_) rfl ?_
  refine rl_det (met_none rfl) (fun h_ H_ => exd_neq rfl rfl) rfl ?_
  refine rl_end ?_
  by_cases cc5 : chkT ts ≠ 0
  · refine fl_then rfl (decide_eq_true cc5) ?_
    refine fl_seq ?_
    refine rl_start ?_
    refine rl_det (met_none rfl) (fun h_ H_ => exd_move (v := .int .i64 (chkT ts)) rfl) rfl ?_
    refine rl_det (met_none rfl) (fun h_ H_ => exd_assign (v := .slice none 0 0) rfl) (tm' := _::_::_::_) rfl ?_
    refine rl_det (met_none rfl) (fun h_ H_ => exd_assign (v := .int .i64 (chkT ts)) rfl) rfl ?_
    refine rl_end ?_
    refine fl_ret Tryd.func47 rfl (vs := [.slice none 0 0, .int .i64 (chkT ts)]) (fun h_ H_ => ⟨.slice none 0 0, _, rfl, rfl, ⟨.int .i64 (chkT ts), _, rfl, rfl, rfl⟩⟩) (v := .tuple #[.slice none 0 0, .int .i64 (chkT ts)]) rfl ?_
    exact fun h_ H_ => K _ _ ⟨.slice none 0 0, [], rfl, by rw [pcB, if_pos ‹_›]; exact OwnS.empty _ _, (H_.sub (List.nil_sublist _)).new⟩
  · refine fl_else rfl (decide_eq_false cc5) ?_
    refine fl_skip ?_
    refine fl_seq ?_
    obtain ⟨hw40, hw200, hw820, hts20, hen, hem⟩ := good_len ‹¬ chkT ts ≠ 0›
    have hl := T.len
    have oK := F3 (Decidable.not_not.1 ‹_›)
    refine rs_lastN (A := ([] : Pcs)) oK (pies_length _) fun p6 a7 cp8 le9 ev_ D10 => ?_
    subst ev_
    refine rs_own (L' := []) rfl ?_
    refine rl_start ?_
    refine rl_det (met_none rfl) (fun h_ H_ => exd_move (v := .slice a7 ((encS [[]] (wholeB ts)).length) cp8) rfl) rfl ?_
    refine rl_own (L' := ([] : Pcs) ++ []) rfl ?_
    refine rl_call (met_none rfl) (first := []) (cap := []) rfl rfl fC54 (R := fun v_ h_ => ∃ w11 : Value, ∃ X12 : Pcs, v_ = .tuple #[sv (((rdTo [] (encS [[]] (wholeB ts))).getD []).flatten), w11, .bool ((rdTo [] (encS [[]] (wholeB ts))).isSome)] ∧ (OwnS 9 1 w11 (scs ((rdTo [] (encS [[]] (wholeB ts))).getD [])) X12) ∧ St h [] p6 h_ (([] : Pcs) ++ (X12 ++ []))) (fun h_ H_ => (c54 .lone _ _ (fun b_ o_ e_ => H_.per b_ o_ e_) a7 ((encS [[]] (wholeB ts)).length) _ _ (show Pies _ _ _ (encS [[]] (wholeB ts)) from D10) (by omega) hem).mono fun v_ h2_ ⟨w11, X12, e_, o13, N_⟩ => ⟨w11, X12, e_, o13, H_.callNA N_⟩) fun v_ => ?_
    refine rl_ex fun w11 => rl_ex fun X12 => rl_and fun ev_ => rl_and fun o13 => ?_
    have ev_ := ev_.symm; subst ev_
    refine rl_own (L' := ([] : Pcs) ++ (X12 ++ [])) rfl ?_
    refine rl_norm (tm' := [_,_,_,_,_,_,_,_,_,_,_,_,_,_,_,_,_,_,_,_,_,_,_,_]) rfl ?_
    refine rl_det (met_none rfl) (fun h_ H_ => exd_move (v := .tuple #[sv (((rdTo [] (encS [[]] (wholeB ts))).getD []).flatten), w11, .bool ((rdTo [] (encS [[]] (wholeB ts))).isSome)]) rfl) rfl ?_
    refine rl_det (met_none rfl) (fun h_ H_ => exd_extract rfl (v := sv (((rdTo [] (encS [[]] (wholeB ts))).getD []).flatten)) rfl) rfl ?_
    refine rl_det (met_none rfl) (fun h_ H_ => exd_extract rfl (v := w11) rfl) (tm' := [_,_,_,_,_,_,_,_,_,_,_,_,_,_,_,_,_,_,_,_,_,_,_,_]) rfl ?_
    refine rl_det (met_none rfl) (fun h_ H_ => exd_extract rfl (v := .bool ((rdTo [] (encS [[]] (wholeB ts))).isSome)) rfl) rfl ?_
    refine rl_det (met_none rfl) (fun h_ H_ => exd_assign (v := sv (((rdTo [] (encS [[]] (wholeB ts))).getD []).flatten)) rfl) rfl ?_
    refine rl_det (met_none rfl) (fun h_ H_ => exd_assign (v := w11) rfl) (tm' := _::_::_::_::_::_::_::_::_) rfl ?_
    refine rl_det (met_none rfl) (fun h_ H_ => exd_assign (v := .bool ((rdTo [] (encS [[]] (wholeB ts))).isSome)) rfl) rfl ?_
    refine rl_end ?_
    refine fl_seq ?_
    refine rl_start ?_
    refine rl_det (met_none rfl) (fun h_ H_ => exd_move (v := w11) rfl) rfl ?_
    refine rl_det (met_none rfl) (fun h_ H_ => exd_assign (v := w11) rfl) (tm' := _::_::_::_) rfl ?_
    refine rl_det (met_none rfl) (fun h_ H_ => exd_assign (v := .int .i64 0) rfl) rfl ?_
    refine rl_end ?_
    refine fl_ret Tryd.func47 rfl (vs := [w11, .int .i64 0]) (fun h_ H_ => ⟨w11, _, rfl, rfl, ⟨.int .i64 0, _, rfl, rfl, rfl⟩⟩) (v := .tuple #[w11, .int .i64 0]) rfl ?_
    have hk0 : chkT ts = 0 := Decidable.not_not.1 ‹_›
    exact fun h_ H_ => K _ _ ⟨_, _, by rw [hk0], by rw [pcB, if_neg ‹_›]; exact o13, by simpa using H_.new⟩
theorem c30 (h : Heap) (p : PHeap) (hp : Per p h) (htab : Tab h) (a : Option Addr) (n c : Nat) (ts : List By) (T : Strs p a n ts) (hn : n ≤ 2 ^ 60) (ht : ∀ i, i < n → (ts.getD i []).length ≤ 2 ^ 60) : CallsX Tryd.prog .lone 30 #[.slice a n c] h fun v h' => v = .tuple #[.int .i64 (savesB ts).1, .int .i64 (savesB ts).2] ∧ Keep h h' := by
  refine calls_intro (Φ := fun h_ => St h [] p h_ []) Tryd.func30 rfl (tm := [_, _, _, _, _, _, _, _, _, _, _, _, _, _, _, _, _]) rfl ?_ (St.start h _ hp)
  intro c₀ cs Stop K
  refine fl_seq ?_
  refine rl_start ?_
  refine rl_det (met_none rfl) (fun h_ H_ => exd_assign (v := .int .i64 0) rfl) rfl ?_
  refine rl_det (met_none rfl) (fun h_ H_ => exd_assign (v := .int .i64 0) rfl) (tm' := _::_::_::_::_) rfl ?_
  refine rl_end ?_
  refine fl_seq ?_
  refine fl_seq ?_
  refine rl_start ?_
  refine rl_det (met_none rfl) (fun h_ H_ => exd_move (v := .slice a n c) rfl) rfl ?_
  refine rl_calld (met_none rfl) (first := []) (cap := []) rfl rfl fC57 (fun h_ H_ => c57 _ _ (fun b_ o_ e_ => H_.per b_ o_ e_) a n _ _ T (by omega) (fun i_ h_ => ht i_ h_)) rfl ?_
  refine rl_det (met_none rfl) (fun h_ H_ => exd_assign (v := .int .i64 (chkT ts)) rfl) (tm' := _::_::_::_::_::_) rfl ?_
  refine rl_end ?_
  refine fl_seq ?_
  refine rl_start ?_
  refine rl_det (met_none rfl) (fun h_ H_ => exd_move (v := .int .i64 (chkT ts)) rfl) rfl ?_
  refine rl_det (met_none rfl) (fun h_ H_ => exd_neq rfl rfl) rfl ?_
  refine rl_end ?_
  by_cases cc1 : chkT ts ≠ 0
  · refine fl_then rfl (decide_eq_true cc1) ?_
    refine fl_seq ?_
    refine rl_start ?_
    refine rl_det (met_none rfl) (fun h_ H_ => exd_move (v := .int .i64 (chkT ts)) rfl) (tm' := _::_::_::_::_::_::_::_::_::_::_) rfl ?_
    refine rl_det (met_none rfl) (fun h_ H_ => exd_assign (v := .int .i64 0) rfl) rfl ?_
    refine rl_det (met_none rfl) (fun h_ H_ => exd_assign (v := .int .i64 (chkT ts)) rfl) rfl ?_
    refine rl_end ?_
    refine fl_ret Tryd.func30 rfl (vs := [.int .i64 0, .int .i64 (chkT ts)]) (fun h_ H_ => ⟨.int .i64 0, _, rfl, rfl, ⟨.int .i64 (chkT ts), _, rfl, rfl, rfl⟩⟩) (v := .tuple #[.int .i64 0, .int .i64 (chkT ts)]) rfl ?_
    exact fun h_ H_ => K _ _ ⟨by rw [savesB, if_pos ‹_›], H_.kept⟩
  · refine fl_else rfl (decide_eq_false cc1) ?_
    refine fl_skip ?_
    refine fl_seq ?_
    obtain ⟨hw40, hw200, hw820, hts20, hen, hem⟩ := good_len ‹¬ chkT ts ≠ 0›
    have hl := T.len
    have hfl := file_len hw820
    refine rl_start ?_
    refine rl_det (met_none rfl) (fun h_ H_ => exd_move (v := .slice a n c) rfl) (tm' := _::_::_::_::_::_::_::_::_::_::_::_) rfl ?_
    refine rl_calld (met_none rfl) (first := []) (cap := []) rfl rfl fC63 (fun h_ H_ => c63 _ _ (fun b_ o_ e_ => H_.per b_ o_ e_) a n _ _ T (by omega) hw200) rfl ?_
    refine rl_det (met_none rfl) (fun h_ H_ => exd_lenS (l := wholeB ts) Tryd.underlying9 rfl) rfl ?_
    refine rl_det (met_none rfl) (fun h_ H_ => exd_move (v := .slice a n c) rfl) (tm' := [_,_,_,_,_,_,_,_,_,_,_,_,_,_,_,_,_]) rfl ?_
    refine rl_calld (met_none rfl) (first := []) (cap := []) rfl rfl fC58 (fun h_ H_ => c58 _ _ (fun b_ o_ e_ => H_.per b_ o_ e_) (htab.keep H_.kept) a n _ _ T (by omega) hw40) rfl ?_
    refine rl_det (met_none rfl) (fun h_ H_ => exd_lenS (l := fileB ts) Tryd.underlying9 rfl) rfl ?_
    refine rl_det (met_none rfl) (fun h_ H_ => exd_sub rfl rfl (wr (by omega))) (tm' := [_,_,_,_,_,_,_,_,_,_,_,_,_,_,_,_,_]) rfl ?_
    refine rl_det (met_none rfl) (fun h_ H_ => exd_assign (v := .int .i64 ((((wholeB ts).length : Nat) : Int) - (((fileB ts).length : Nat) : Int))) rfl) rfl ?_
    refine rl_det (met_none rfl) (fun h_ H_ => exd_assign (v := .int .i64 0) rfl) rfl ?_
    refine rl_end ?_
    refine fl_ret Tryd.func30 rfl (vs := [.int .i64 ((((wholeB ts).length : Nat) : Int) - (((fileB ts).length : Nat) : Int)), .int .i64 0]) (fun h_ H_ => ⟨.int .i64 ((((wholeB ts).length : Nat) : Int) - (((fileB ts).length : Nat) : Int)), _, rfl, rfl, ⟨.int .i64 0, _, rfl, rfl, rfl⟩⟩) (v := .tuple #[.int .i64 ((((wholeB ts).length : Nat) : Int) - (((fileB ts).length : Nat) : Int)), .int .i64 0]) rfl ?_
    exact fun h_ H_ => K _ _ ⟨by rw [savesB, if_neg ‹_›], H_.kept⟩
theorem c24 (h : Heap) (p : PHeap) (hp : Per p h) (a : Option Addr) (n c : Nat) (ts : List By) (T : Strs p a n ts) (hn : n ≤ 2 ^ 60) (ht : ∀ i, i < n → (ts.getD i []).length ≤ 2 ^ 60) (m : Int) (hm : -9223372036854775808 ≤ m ∧ m ≤ 9223372036854775807) : CallsX Tryd.prog .lone 24 #[.slice a n c, .int .i64 (m)] h fun v h' => v = .tuple #[.int .i64 (usesB ts m).1, .int .i64 (usesB ts m).2] ∧ Keep h h' := by
  refine calls_intro (Φ := fun h_ => St h [] p h_ []) Tryd.func24 rfl (tm := [_, _, _, _, _, _, _, _, _, _, _, _, _, _, _, _, _, _, _, _, _, _, _, _, _, _, _, _, _, _, _, _, _, _, _, _, _, _, _, _, _, _, _, _, _, _, _, _, _, _, _, _, _, _]) rfl ?_ (St.start h _ hp)
  intro c₀ cs Stop K
  refine fl_seq ?_
  refine rl_start ?_
  refine rl_det (met_none rfl) (fun h_ H_ => exd_assign (v := .int .i64 0) rfl) (tm' := _::_::_::_::_::_) rfl ?_
  refine rl_det (met_none rfl) (fun h_ H_ => exd_assign (v := .int .i64 0) rfl) rfl ?_
  refine rl_end ?_
  refine fl_seq ?_
  refine rl_start ?_
  refine rl_det (met_none rfl) (fun h_ H_ => exd_move (v := .slice a n c) rfl) rfl ?_
  refine rl_own (L' := ([] : Pcs) ++ []) rfl ?_
  refine rl_call (met_none rfl) (first := []) (cap := []) rfl rfl fC59 (R := fun v_ h_ => ∃ w1 : Value, ∃ X2 : Pcs, v_ = .tuple #[w1, .int .i64 (chkT ts)] ∧ (chkT ts = 0 → OwnS 60 2 w1 (pies (encS [[]] (wholeB ts))) X2) ∧ (chkT ts ≠ 0 → w1 = .slice none 0 0 ∧ X2 = []) ∧ St h [] p h_ (([] : Pcs) ++ (X2 ++ []))) (fun h_ H_ => (c59 _ _ (fun b_ o_ e_ => H_.per b_ o_ e_) a n _ ts T (by omega) (fun i_ h_ => ht i_ h_)).mono fun v_ h2_ ⟨w1, X2, e_, F3, F4, N_⟩ => ⟨w1, X2, e_, F3, F4, H_.callNA N_⟩) fun v_ => ?_
  refine rl_ex fun w1 => rl_ex fun X2 => rl_and fun ev_ => rl_and fun F3 => rl_and fun F4 => ?_
  have ev_ := ev_.symm; subst ev_
  refine rl_own (L' := ([] : Pcs) ++ (X2 ++ [])) rfl ?_
  refine rl_norm (tm' := _::_::_::_::_::_::_::_::_::_::_::_::_::_::_) rfl ?_
  refine rl_det (met_none rfl) (fun h_ H_ => exd_move (v := .tuple #[w1, .int .i64 (chkT ts)]) rfl) rfl ?_
  refine rl_det (met_none rfl) (fun h_ H_ => exd_extract rfl (v := w1) rfl) rfl ?_
  refine rl_det (met_none rfl) (fun h_ H_ => exd_extract rfl (v := .int .i64 (chkT ts)) rfl) (tm' := _::_::_::_::_::_::_::_::_::_::_::_::_::_::_::_::_) rfl ?_
  refine rl_det (met_none rfl) (fun h_ H_ => exd_assign (v := w1) rfl) rfl ?_
  refine rl_det (met_none rfl) (fun h_ H_ => exd_assign (v := .int .i64 (chkT ts)) rfl) rfl ?_
  refine rl_end ?_
  refine fl_seq ?_
  refine fl_seq ?_
  refine rl_start ?_
  refine rl_det (met_none rfl) (fun h_ H_ => exd_move (v := .int .i64 (chkT ts)) rfl) (tm' := _::_::_::_::_::_::_::_::_::_::_::_::_::_::_::_::_::_) rfl ?_
  refine rl_det (met_none rfl) (fun h_ H_ => exd_neq rfl rfl) rfl ?_
  refine rl_end ?_
  by_cases cc5 : chkT ts ≠ 0
  · refine fl_then rfl (decide_eq_true cc5) ?_
    refine fl_seq ?_
    refine rl_start ?_
    refine rl_det (met_none rfl) (fun h_ H_ => exd_move (v := .int .i64 (chkT ts)) rfl) rfl ?_
    refine rl_det (met_none rfl) (fun h_ H_ => exd_assign (v := .int .i64 0) rfl) (tm' := _::_::_::_::_::_) rfl ?_
    refine rl_det (met_none rfl) (fun h_ H_ => exd_assign (v := .int .i64 (chkT ts)) rfl) rfl ?_
    refine rl_end ?_
    refine fl_ret Tryd.func24 rfl (vs := [.int .i64 0, .int .i64 (chkT ts)]) (fun h_ H_ => ⟨.int .i64 0, _, rfl, rfl, ⟨.int .i64 (chkT ts), _, rfl, rfl, rfl⟩⟩) (v := .tuple #[.int .i64 0, .int .i64 (chkT ts)]) rfl ?_
    exact fun h_ H_ => K _ _ ⟨by rw [usesB, if_pos ‹_›], H_.kept⟩
  · refine fl_else rfl (decide_eq_false cc5) ?_
    refine fl_skip ?_
    refine fl_seq ?_
    refine fl_seq ?_
    obtain ⟨hw40, hw200, hw820, hts20, hen, hem⟩ := good_len ‹¬ chkT ts ≠ 0›
    have hl := T.len
    have oK := F3 (Decidable.not_not.1 ‹_›)
    refine rs_lastN (A := ([] : Pcs)) oK (pies_length _) fun p6 a7 cp8 le9 ev_ D10 => ?_
    subst ev_
    refine rs_own (L' := []) rfl ?_
    refine rl_start ?_
    refine rl_det (met_none rfl) (fun h_ H_ => exd_move (v := .int .i64 (m)) rfl) rfl ?_
    refine rl_det (met_none rfl) (fun h_ H_ => exd_lss rfl rfl) (tm' := _::_::_::_::_::_::_::_::_::_::_::_::_::_::_::_::_::_::_::_::_::_) rfl ?_
    refine rl_det (met_none rfl) (fun h_ H_ => exd_move (v := .bool (decide (m < 0))) rfl) rfl ?_
    by_cases cc11 : m < 0
    · refine rl_pass (met_not rfl rfl (decide_eq_true cc11)) rfl ?_
      refine rl_pass (met_not rfl rfl (decide_eq_true cc11)) (tm' := _::_::_::_::_::_::_::_::_::_::_::_::_::_::_::_::_::_::_::_::_::_::_::_::_) rfl ?_
      refine rl_pass (met_not rfl rfl (decide_eq_true cc11)) rfl ?_
      refine rl_pass (met_not rfl rfl (decide_eq_true cc11)) rfl ?_
      refine rl_det (met_none rfl) (fun h_ H_ => exd_pick_t rfl (decide_eq_true cc11) (v := .bool (true)) rfl) (tm' := _::_::_::_::_::_::_::_::_::_::_::_::_::_::_::_::_::_::_::_::_::_::_::_::_::_::_::_) rfl ?_
      refine rl_det (met_none rfl) (fun h_ H_ => exd_move (v := .bool (true)) rfl) rfl ?_
      refine rl_pass (met_not rfl rfl rfl) rfl ?_
      refine rl_pass (met_not rfl rfl rfl) (tm' := _::_::_::_::_::_::_::_::_::_::_::_::_::_::_::_::_::_::_::_::_::_::_::_::_::_::_::_::_::_::_) rfl ?_
      refine rl_pass (met_not rfl rfl rfl) rfl ?_
      refine rl_pass (met_undef rfl rfl) rfl ?_
      refine rl_pass (met_undef rfl rfl) (tm' := _::_::_::_::_::_::_::_::_::_::_::_::_::_::_::_::_::_::_::_::_::_::_::_::_::_::_::_::_::_::_::_::_::_) rfl ?_
      refine rl_pass (met_undef rfl rfl) rfl ?_
      refine rl_pass (met_undef rfl rfl) rfl ?_
      refine rl_pass (met_undef rfl rfl) (tm' := _::_::_::_::_::_::_::_::_::_::_::_::_::_::_::_::_::_::_::_::_::_::_::_::_::_::_::_::_::_::_::_::_::_::_::_::_) rfl ?_
      refine rl_pass (met_undef rfl rfl) rfl ?_
      refine rl_pass (met_undef rfl rfl) rfl ?_
      refine rl_pass (met_not rfl rfl rfl) (tm' := [_,_,_,_,_,_,_,_,_,_,_,_,_,_,_,_,_,_,_,_,_,_,_,_,_,_,_,_,_,_,_,_,_,_,_,_,_,_,_,_,_,_,_,_,_,_,_,_,_,_,_,_,_,_]) rfl ?_
      refine rl_det (met_none rfl) (fun h_ H_ => exd_pick_t rfl rfl (v := .bool (true)) rfl) rfl ?_
      refine rl_end ?_
      refine fl_then rfl rfl ?_
      refine fl_seq ?_
      refine rl_start ?_
      refine rl_det (met_none rfl) (fun h_ H_ => exd_assign (v := .int .i64 0) rfl) rfl ?_
      refine rl_det (met_none rfl) (fun h_ H_ => exd_assign (v := .int .i64 1) rfl) (tm' := _::_::_::_::_::_::_) rfl ?_
      refine rl_end ?_
      refine fl_ret Tryd.func24 rfl (vs := [.int .i64 0, .int .i64 1]) (fun h_ H_ => ⟨.int .i64 0, _, rfl, rfl, ⟨.int .i64 1, _, rfl, rfl, rfl⟩⟩) (v := .tuple #[.int .i64 0, .int .i64 1]) rfl ?_
      have hb : badN (encS [[]] (wholeB ts)) m := by unfold badN; first | exact .inl (by omega) | exact .inr (.inl (by omega)) | exact .inr (.inr ⟨by omega, by assumption⟩)
      exact fun h_ H_ => K _ _ ⟨by rw [usesB, if_neg ‹_›, if_pos hb], H_.kept⟩
    · refine rl_det (met_some rfl rfl (decide_eq_false cc11)) (fun h_ H_ => exd_move (v := .int .i64 (m)) rfl) rfl ?_
      refine rl_det (met_some rfl rfl (decide_eq_false cc11)) (fun h_ H_ => exd_move (v := .slice a7 ((encS [[]] (wholeB ts)).length) cp8) rfl) rfl ?_
      refine rl_det (met_some rfl rfl (decide_eq_false cc11)) (fun h_ H_ => exd_len Tryd.underlying49 rfl) (tm' := _::_::_::_::_::_::_::_::_::_::_::_::_::_::_::_::_::_::_::_::_::_::_::_::_::_) rfl ?_
      refine rl_det (met_some rfl rfl (decide_eq_false cc11)) (fun h_ H_ => exd_gtr rfl rfl) rfl ?_
      refine rl_det (met_none rfl) (fun h_ H_ => exd_pick_f rfl (decide_eq_false cc11) (v := .bool (decide ((((encS [[]] (wholeB ts)).length : Nat) : Int) < m))) rfl) rfl ?_
      refine rl_det (met_none rfl) (fun h_ H_ => exd_move (v := .bool (decide ((((encS [[]] (wholeB ts)).length : Nat) : Int) < m))) rfl) (tm' := _::_::_::_::_::_::_::_::_::_::_::_::_::_::_::_::_::_::_::_::_::_::_::_::_::_::_::_::_) rfl ?_
      by_cases cc12 : (((encS [[]] (wholeB ts)).length : Nat) : Int) < m
      · refine rl_pass (met_not rfl rfl (decide_eq_true cc12)) rfl ?_
        refine rl_pass (met_not rfl rfl (decide_eq_true cc12)) rfl ?_
        refine rl_pass (met_not rfl rfl (decide_eq_true cc12)) (tm' := _::_::_::_::_::_::_::_::_::_::_::_::_::_::_::_::_::_::_::_::_::_::_::_::_::_::_::_::_::_::_::_) rfl ?_
        refine rl_pass (met_undef rfl rfl) rfl ?_
        refine rl_pass (met_undef rfl rfl) rfl ?_
        refine rl_pass (met_undef rfl rfl) (tm' := _::_::_::_::_::_::_::_::_::_::_::_::_::_::_::_::_::_::_::_::_::_::_::_::_::_::_::_::_::_::_::_::_::_::_) rfl ?_
        refine rl_pass (met_undef rfl rfl) rfl ?_
        refine rl_pass (met_undef rfl rfl) rfl ?_
        refine rl_pass (met_undef rfl rfl) (tm' := [_,_,_,_,_,_,_,_,_,_,_,_,_,_,_,_,_,_,_,_,_,_,_,_,_,_,_,_,_,_,_,_,_,_,_,_,_,_,_,_,_,_,_,_,_,_,_,_,_,_,_,_,_,_]) rfl ?_
        refine rl_pass (met_undef rfl rfl) rfl ?_
        refine rl_pass (met_not rfl rfl (decide_eq_true cc12)) rfl ?_
        refine rl_det (met_none rfl) (fun h_ H_ => exd_pick_t rfl (decide_eq_true cc12) (v := .bool (true)) rfl) (tm' := [_,_,_,_,_,_,_,_,_,_,_,_,_,_,_,_,_,_,_,_,_,_,_,_,_,_,_,_,_,_,_,_,_,_,_,_,_,_,_,_,_,_,_,_,_,_,_,_,_,_,_,_,_,_]) rfl ?_
        refine rl_end ?_
        refine fl_then rfl rfl ?_
        refine fl_seq ?_
        refine rl_start ?_
        refine rl_det (met_none rfl) (fun h_ H_ => exd_assign (v := .int .i64 0) rfl) rfl ?_
        refine rl_det (met_none rfl) (fun h_ H_ => exd_assign (v := .int .i64 1) rfl) rfl ?_
        refine rl_end ?_
        refine fl_ret Tryd.func24 rfl (vs := [.int .i64 0, .int .i64 1]) (fun h_ H_ => ⟨.int .i64 0, _, rfl, rfl, ⟨.int .i64 1, _, rfl, rfl, rfl⟩⟩) (v := .tuple #[.int .i64 0, .int .i64 1]) rfl ?_
        have hb : badN (encS [[]] (wholeB ts)) m := by unfold badN; first | exact .inl (by omega) | exact .inr (.inl (by omega)) | exact .inr (.inr ⟨by omega, by assumption⟩)
        exact fun h_ H_ => K _ _ ⟨by rw [usesB, if_neg ‹_›, if_pos hb], H_.kept⟩
      · refine rl_det (met_some rfl rfl (decide_eq_false cc12)) (fun h_ H_ => exd_move (v := .int .i64 (m)) rfl) (tm' := _::_::_::_::_::_::_::_::_::_::_::_::_::_::_::_::_::_::_::_::_::_::_::_::_::_::_::_::_::_) rfl ?_
        refine rl_det (met_some rfl rfl (decide_eq_false cc12)) (fun h_ H_ => exd_gtr rfl rfl) rfl ?_
        refine rl_det (met_some rfl rfl (decide_eq_false cc12)) (fun h_ H_ => exd_move (v := .bool (decide (0 < m))) rfl) rfl ?_
        by_cases cc13 : 0 < m
        · refine rl_det (met_some rfl rfl (decide_eq_true cc13)) (fun h_ H_ => exd_move (v := .slice a7 ((encS [[]] (wholeB ts)).length) cp8) rfl) (tm' := _::_::_::_::_::_::_::_::_::_::_::_::_::_::_::_::_::_::_::_::_::_::_::_::_::_::_::_::_::_::_::_::_) rfl ?_
          refine rl_det (met_some rfl rfl (decide_eq_true cc13)) (fun h_ H_ => exd_move (v := .int .i64 (m)) rfl) rfl ?_
          refine rl_det (met_some rfl rfl (decide_eq_true cc13)) (fun h_ H_ => exd_sub rfl rfl (wr (by omega))) rfl ?_
          refine rl_det (met_some rfl rfl (decide_eq_true cc13)) (fun h_ H_ => exd_indexAddr Tryd.underlying49 tS60 (sl_ne a7 ((encS [[]] (wholeB ts)).length) cp8 ((show Pies _ _ _ (encS [[]] (wholeB ts)) from D10).ne (by omega))) rfl (by omega) (by omega) (a' := (adr a7).add (((m - 1)).toNat * 2)) rfl) (tm' := _::_::_::_::_::_::_::_::_::_::_::_::_::_::_::_::_::_::_::_::_::_::_::_::_::_::_::_::_::_::_::_::_::_::_::_) rfl ?_
          refine rl_det (met_some rfl rfl (decide_eq_true cc13)) (fun h_ H_ => exd_fieldAddr tF60_1 rfl (a' := ((adr a7).add (((m - 1)).toNat * 2)).add 1) rfl) rfl ?_
          refine rl_det (met_some rfl rfl (decide_eq_true cc13)) (fun h_ H_ => exd_load_per H_ tA3 rfl (v := .int .i64 (((encS [[]] (wholeB ts)).getD (((m - 1)).toNat) pz).2)) ((show Pies _ _ _ (encS [[]] (wholeB ts)) from D10).by (by omega))) rfl ?_
          refine rl_det (met_some rfl rfl (decide_eq_true cc13)) (fun h_ H_ => exd_eql rfl rfl) (tm' := [_,_,_,_,_,_,_,_,_,_,_,_,_,_,_,_,_,_,_,_,_,_,_,_,_,_,_,_,_,_,_,_,_,_,_,_,_,_,_,_,_,_,_,_,_,_,_,_,_,_,_,_,_,_]) rfl ?_
          refine rl_det (met_some rfl rfl (decide_eq_false cc12)) (fun h_ H_ => exd_pick_t rfl (decide_eq_true cc13) (v := .bool (decide (((encS [[]] (wholeB ts)).getD (((m - 1)).toNat) pz).2 = (-1)))) rfl) rfl ?_
          refine rl_det (met_none rfl) (fun h_ H_ => exd_pick_f rfl (decide_eq_false cc12) (v := .bool (decide (((encS [[]] (wholeB ts)).getD (((m - 1)).toNat) pz).2 = (-1)))) rfl) rfl ?_
          refine rl_end ?_
          by_cases cc14 : ((encS [[]] (wholeB ts)).getD (((m - 1)).toNat) pz).2 = (-1)
          · refine fl_then rfl (decide_eq_true cc14) ?_
            refine fl_seq ?_
            refine rl_start ?_
            refine rl_det (met_none rfl) (fun h_ H_ => exd_assign (v := .int .i64 0) rfl) (tm' := _::_::_::_::_::_) rfl ?_
            refine rl_det (met_none rfl) (fun h_ H_ => exd_assign (v := .int .i64 1) rfl) rfl ?_
            refine rl_end ?_
            refine fl_ret Tryd.func24 rfl (vs := [.int .i64 0, .int .i64 1]) (fun h_ H_ => ⟨.int .i64 0, _, rfl, rfl, ⟨.int .i64 1, _, rfl, rfl, rfl⟩⟩) (v := .tuple #[.int .i64 0, .int .i64 1]) rfl ?_
            have hb : badN (encS [[]] (wholeB ts)) m := by unfold badN; first | exact .inl (by omega) | exact .inr (.inl (by omega)) | exact .inr (.inr ⟨by omega, by assumption⟩)
            exact fun h_ H_ => K _ _ ⟨by rw [usesB, if_neg ‹_›, if_pos hb], H_.kept⟩
          · refine fl_else rfl (decide_eq_false cc14) ?_
            refine fl_skip ?_
            refine fl_seq ?_
            refine rl_start ?_
            refine rl_det (met_none rfl) (fun h_ H_ => exd_assign (v := .int .i64 0) rfl) rfl ?_
            refine rl_end ?_
            refine fl_seq ?_
            refine fl_seq ?_
            refine rl_start ?_
            refine rl_det (met_none rfl) (fun h_ H_ => exd_move (v := .slice a7 ((encS [[]] (wholeB ts)).length) cp8) rfl) (tm' := [_,_,_,_,_,_,_,_,_,_,_,_,_,_,_,_,_,_,_,_,_,_,_,_,_,_,_,_,_,_,_,_,_,_,_,_,_,_,_,_,_,_,_,_,_,_,_,_,_,_,_,_,_,_]) rfl ?_
            refine rl_det (met_none rfl) (fun h_ H_ => exd_len Tryd.underlying49 rfl) rfl ?_
            refine rl_det (met_none rfl) (fun h_ H_ => exd_move (v := .int .i64 0) rfl) rfl ?_
            refine rl_end ?_
            refine fl_block ?_
            refine fl_loop (m₀ := (encS [[]] (wholeB ts)).length - 0) (fun m_ tm_ h_ => ∃ (k : Nat) (z : Int), m_ = (encS [[]] (wholeB ts)).length - k ∧ (∃ y15 : Nat → Value, tm_ = [.slice a n c, .int .i64 (m), undef, undef, .int .i64 0, .int .i64 0, .slice a7 ((encS [[]] (wholeB ts)).length) cp8, .int .i64 (chkT ts), .int .i64 (z), undef, (y15 10), .tuple #[.slice a7 ((encS [[]] (wholeB ts)).length) cp8, .int .i64 (chkT ts)], .slice a n c, .tuple #[.slice a7 ((encS [[]] (wholeB ts)).length) cp8, .int .i64 (chkT ts)], .slice a7 ((encS [[]] (wholeB ts)).length) cp8, .int .i64 (chkT ts), .int .i64 (chkT ts), .bool (decide (chkT ts ≠ 0)), undef, .int .i64 (m), .bool (decide (m < 0)), .bool (decide (m < 0)), .int .i64 (m), .slice a7 ((encS [[]] (wholeB ts)).length) cp8, .int .i64 ((((encS [[]] (wholeB ts)).length : Nat) : Int)), .bool (decide ((((encS [[]] (wholeB ts)).length : Nat) : Int) < m)), .bool (decide ((((encS [[]] (wholeB ts)).length : Nat) : Int) < m)), .bool (decide ((((encS [[]] (wholeB ts)).length : Nat) : Int) < m)), .int .i64 (m), .bool (decide (0 < m)), .bool (decide (0 < m)), .slice a7 ((encS [[]] (wholeB ts)).length) cp8, .int .i64 (m), .int .i64 (m - 1), .pointer (some ((adr a7).add (((m - 1)).toNat * 2))), .pointer (some (((adr a7).add (((m - 1)).toNat * 2)).add 1)), .int .i64 (((encS [[]] (wholeB ts)).getD (((m - 1)).toNat) pz).2), .bool (decide (((encS [[]] (wholeB ts)).getD (((m - 1)).toNat) pz).2 = (-1))), .bool (decide (((encS [[]] (wholeB ts)).getD (((m - 1)).toNat) pz).2 = (-1))), .bool (decide (((encS [[]] (wholeB ts)).getD (((m - 1)).toNat) pz).2 = (-1))), .slice a7 ((encS [[]] (wholeB ts)).length) cp8, .int .i64 ((((encS [[]] (wholeB ts)).length : Nat) : Int)), .int .i64 (((k : Nat) : Int)), (y15 43), (y15 44), (y15 45), (y15 46), (y15 47), (y15 48), (y15 49), (y15 50), (y15 51), (y15 52), undef]) ∧ (k ≤ (encS [[]] (wholeB ts)).length) ∧ (z = ((cntN ((encS [[]] (wholeB ts)).take k) m : Nat) : Int)) ∧ (0 ≤ z ∧ z ≤ k) ∧ St h [] p6 h_ ([])) (fun h_ H_ => ⟨0, 0, rfl, (y_of rfl), Nat.zero_le _, (by simp [cntN]), ⟨by omega, by omega⟩, H_⟩) ?_
            intro m_ tm_ IH16
            refine rs_ex fun k => rs_ex fun z => rs_and fun hm_ => rs_and fun ht_ => rs_and fun hk => rs_and fun hz => rs_and fun hzk => ?_
            subst hm_; obtain ⟨y15, ht_⟩ := ht_; subst ht_
            refine fl_seq ?_
            refine rl_start ?_
            refine rl_det (met_none rfl) (fun h_ H_ => exd_lss rfl rfl) (tm' := [_,_,_,_,_,_,_,_,_,_,_,_,_,_,_,_,_,_,_,_,_,_,_,_,_,_,_,_,_,_,_,_,_,_,_,_,_,_,_,_,_,_,_,_,_,_,_,_,_,_,_,_,_,_]) rfl ?_
            refine rl_end ?_
            refine fl_seq ?_
            by_cases cc17 : ((k : Nat) : Int) < (((encS [[]] (wholeB ts)).length : Nat) : Int)
            · refine fl_then rfl (decide_eq_true cc17) ?_
              refine fl_skip ?_
              refine fl_seq ?_
              refine fl_block ?_
              refine fl_seq ?_
              refine rl_start ?_
              refine rl_det (met_none rfl) (fun h_ H_ => exd_indexAddrN (i := k) Tryd.underlying49 tS60 (sl_ne a7 ((encS [[]] (wholeB ts)).length) cp8 ((show Pies _ _ _ (encS [[]] (wholeB ts)) from D10).ne (by omega))) rfl (by omega)) rfl ?_
              refine rl_det (met_none rfl) (fun h_ H_ => exd_loadN_per H_ tA60 tS60 rfl (vs := [.int .i64 (((encS [[]] (wholeB ts)).getD k pz).1), .int .i64 (((encS [[]] (wholeB ts)).getD k pz).2)]) rfl ((show Pies _ _ _ (encS [[]] (wholeB ts)) from D10).all (by omega))) rfl ?_
              refine rl_alloc (met_none rfl) tZ60 rfl fun b18 => rl_own (L' := [(b18, .cells #[.int .i64 0, .int .i64 0] 60 (0, 0))]) rfl ?_
              refine rl_norm (tm' := _::_::_::_::_::_::_::_::_::_::_::_) rfl ?_
              refine rl_store (met_none rfl) tS60 rfl (v := .agg #[.int .i64 (((encS [[]] (wholeB ts)).getD k pz).1), .int .i64 (((encS [[]] (wholeB ts)).getD k pz).2)]) rfl (i := 0) rfl rfl rfl (Nat.le_of_ble_eq_true rfl) (cs2 := [.int .i64 (((encS [[]] (wholeB ts)).getD k pz).1), .int .i64 (((encS [[]] (wholeB ts)).getD k pz).2)]) rfl (rl_own (L' := [(b18, .cells #[.int .i64 (((encS [[]] (wholeB ts)).getD k pz).1), .int .i64 (((encS [[]] (wholeB ts)).getD k pz).2)] 60 (0, 0))]) rfl ?_)
              refine rl_end ?_
              refine fl_seq ?_
              refine rl_start ?_
              refine rl_det (met_none rfl) (fun h_ H_ => exd_fieldAddr tF60_0 rfl (a' := ⟨b18, 0, none⟩) rfl) rfl ?_
              refine rl_det (met_none rfl) (fun h_ H_ => exd_load_own H_ tA3 rfl (i := 0) rfl (v := .int .i64 (((encS [[]] (wholeB ts)).getD k pz).1)) rfl) rfl ?_
              refine rl_det (met_none rfl) (fun h_ H_ => exd_move (v := .int .i64 (m)) rfl) (tm' := [_,_,_,_,_,_,_,_,_,_,_,_,_,_,_,_,_,_,_,_,_,_,_,_,_,_,_,_,_,_,_,_,_,_,_,_,_,_,_,_,_,_,_,_,_,_,_,_,_,_,_,_,_,_]) rfl ?_
              refine rl_det (met_none rfl) (fun h_ H_ => exd_eql rfl rfl) rfl ?_
              refine rl_end ?_
              by_cases cc19 : ((encS [[]] (wholeB ts)).getD k pz).1 = m
              · refine fl_then rfl (decide_eq_true cc19) ?_
                refine rl_start ?_
                refine rl_det (met_none rfl) (fun h_ H_ => exd_move (v := .int .i64 (z)) rfl) rfl ?_
                refine rl_det (met_none rfl) (fun h_ H_ => exd_add rfl rfl (wr (by omega))) (tm' := [_,_,_,_,_,_,_,_,_,_,_,_,_,_,_,_,_,_,_,_,_,_,_,_,_,_,_,_,_,_,_,_,_,_,_,_,_,_,_,_,_,_,_,_,_,_,_,_,_,_,_,_,_,_]) rfl ?_
                refine rl_det (met_none rfl) (fun h_ H_ => exd_assign (v := .int .i64 (z + 1)) rfl) rfl ?_
                refine rl_end ?_
                refine fl_inBlock ?_
                refine rl_start ?_
                refine rl_det (met_none rfl) (fun h_ H_ => exd_add rfl rfl (n := ((k + 1 : Nat) : Int)) (wr (by omega))) rfl ?_
                refine rl_det (met_none rfl) (fun h_ H_ => exd_move (v := .int .i64 (((k + 1 : Nat) : Int))) rfl) (tm' := [_,_,_,_,_,_,_,_,_,_,_,_,_,_,_,_,_,_,_,_,_,_,_,_,_,_,_,_,_,_,_,_,_,_,_,_,_,_,_,_,_,_,_,_,_,_,_,_,_,_,_,_,_,_]) rfl ?_
                refine rl_end ?_
                exact fun h_ H_ => IH16 _ _ (by omega) h_ ⟨k + 1, z + 1, rfl, (y_of rfl), (by omega), (by rw [cnt_step (by omega), hz]; rw [if_pos ‹_›]; omega), ⟨by omega, by omega⟩, H_.drop⟩
              · refine fl_else rfl (decide_eq_false cc19) ?_
                refine fl_skip ?_
                refine fl_inBlock ?_
                refine rl_start ?_
                refine rl_det (met_none rfl) (fun h_ H_ => exd_add rfl rfl (n := ((k + 1 : Nat) : Int)) (wr (by omega))) rfl ?_
                refine rl_det (met_none rfl) (fun h_ H_ => exd_move (v := .int .i64 (((k + 1 : Nat) : Int))) rfl) rfl ?_
                refine rl_end ?_
                exact fun h_ H_ => IH16 _ _ (by omega) h_ ⟨k + 1, z, rfl, (y_of rfl), (by omega), (by rw [cnt_step (by omega), hz]; rw [if_neg ‹_›]; omega), ⟨by omega, by omega⟩, H_.drop⟩
            · refine fl_else rfl (decide_eq_false cc17) ?_
              refine fl_exit rfl ?_
              refine fl_seq ?_
              refine rl_start ?_
              refine rl_det (met_none rfl) (fun h_ H_ => exd_move (v := .int .i64 (z)) rfl) (tm' := [_,_,_,_,_,_,_,_,_,_,_,_,_,_,_,_,_,_,_,_,_,_,_,_,_,_,_,_,_,_,_,_,_,_,_,_,_,_,_,_,_,_,_,_,_,_,_,_,_,_,_,_,_,_]) rfl ?_
              refine rl_det (met_none rfl) (fun h_ H_ => exd_assign (v := .int .i64 (z)) rfl) rfl ?_
              refine rl_det (met_none rfl) (fun h_ H_ => exd_assign (v := .int .i64 0) rfl) rfl ?_
              refine rl_end ?_
              refine fl_ret Tryd.func24 rfl (vs := [.int .i64 (z), .int .i64 0]) (fun h_ H_ => ⟨.int .i64 (z), _, rfl, rfl, ⟨.int .i64 0, _, rfl, rfl, rfl⟩⟩) (v := .tuple #[.int .i64 (z), .int .i64 0]) rfl ?_
              have hb : ¬ badN (encS [[]] (wholeB ts)) m := by unfold badN; rintro (z_ | z_ | ⟨z1_, z2_⟩) <;> first | omega | exact absurd z2_ ‹_›
              have hz2 : z = ((cntN (encS [[]] (wholeB ts)) m : Nat) : Int) := by rw [hz, List.take_of_length_le (by omega)]
              exact fun h_ H_ => K _ _ ⟨by rw [usesB, if_neg ‹_›, if_neg hb, hz2], H_.kept⟩
        · refine rl_pass (met_not rfl rfl (decide_eq_false cc13)) (tm' := _::_::_::_::_::_::_::_::_::_::_::_::_::_::_::_::_::_::_::_::_::_::_::_::_::_::_::_::_::_::_::_::_) rfl ?_
          refine rl_pass (met_not rfl rfl (decide_eq_false cc13)) rfl ?_
          refine rl_pass (met_not rfl rfl (decide_eq_false cc13)) rfl ?_
          refine rl_pass (met_not rfl rfl (decide_eq_false cc13)) (tm' := _::_::_::_::_::_::_::_::_::_::_::_::_::_::_::_::_::_::_::_::_::_::_::_::_::_::_::_::_::_::_::_::_::_::_::_) rfl ?_
          refine rl_pass (met_not rfl rfl (decide_eq_false cc13)) rfl ?_
          refine rl_pass (met_not rfl rfl (decide_eq_false cc13)) rfl ?_
          refine rl_pass (met_not rfl rfl (decide_eq_false cc13)) (tm' := [_,_,_,_,_,_,_,_,_,_,_,_,_,_,_,_,_,_,_,_,_,_,_,_,_,_,_,_,_,_,_,_,_,_,_,_,_,_,_,_,_,_,_,_,_,_,_,_,_,_,_,_,_,_]) rfl ?_
          refine rl_det (met_some rfl rfl (decide_eq_false cc12)) (fun h_ H_ => exd_pick_f rfl (decide_eq_false cc13) (v := .bool (false)) rfl) rfl ?_
          refine rl_det (met_none rfl) (fun h_ H_ => exd_pick_f rfl (decide_eq_false cc12) (v := .bool (false)) rfl) rfl ?_
          refine rl_end ?_
          refine fl_else rfl rfl ?_
          refine fl_skip ?_
          refine fl_seq ?_
          refine rl_start ?_
          refine rl_det (met_none rfl) (fun h_ H_ => exd_assign (v := .int .i64 0) rfl) (tm' := _::_::_::_::_::_::_::_::_::_) rfl ?_
          refine rl_end ?_
          refine fl_seq ?_
          refine fl_seq ?_
          refine rl_start ?_
          refine rl_det (met_none rfl) (fun h_ H_ => exd_move (v := .slice a7 ((encS [[]] (wholeB ts)).length) cp8) rfl) rfl ?_
          refine rl_det (met_none rfl) (fun h_ H_ => exd_len Tryd.underlying49 rfl) rfl ?_
          refine rl_det (met_none rfl) (fun h_ H_ => exd_move (v := .int .i64 0) rfl) (tm' := [_,_,_,_,_,_,_,_,_,_,_,_,_,_,_,_,_,_,_,_,_,_,_,_,_,_,_,_,_,_,_,_,_,_,_,_,_,_,_,_,_,_,_,_,_,_,_,_,_,_,_,_,_,_]) rfl ?_
          refine rl_end ?_
          refine fl_block ?_
          refine fl_loop (m₀ := (encS [[]] (wholeB ts)).length - 0) (fun m_ tm_ h_ => ∃ (k : Nat) (z : Int), m_ = (encS [[]] (wholeB ts)).length - k ∧ (∃ y20 : Nat → Value, tm_ = [.slice a n c, .int .i64 (m), undef, undef, .int .i64 0, .int .i64 0, .slice a7 ((encS [[]] (wholeB ts)).length) cp8, .int .i64 (chkT ts), .int .i64 (z), undef, (y20 10), .tuple #[.slice a7 ((encS [[]] (wholeB ts)).length) cp8, .int .i64 (chkT ts)], .slice a n c, .tuple #[.slice a7 ((encS [[]] (wholeB ts)).length) cp8, .int .i64 (chkT ts)], .slice a7 ((encS [[]] (wholeB ts)).length) cp8, .int .i64 (chkT ts), .int .i64 (chkT ts), .bool (decide (chkT ts ≠ 0)), undef, .int .i64 (m), .bool (decide (m < 0)), .bool (decide (m < 0)), .int .i64 (m), .slice a7 ((encS [[]] (wholeB ts)).length) cp8, .int .i64 ((((encS [[]] (wholeB ts)).length : Nat) : Int)), .bool (decide ((((encS [[]] (wholeB ts)).length : Nat) : Int) < m)), .bool (decide ((((encS [[]] (wholeB ts)).length : Nat) : Int) < m)), .bool (decide ((((encS [[]] (wholeB ts)).length : Nat) : Int) < m)), .int .i64 (m), .bool (decide (0 < m)), .bool (decide (0 < m)), undef, undef, undef, undef, undef, undef, undef, .bool (false), .bool (false), .slice a7 ((encS [[]] (wholeB ts)).length) cp8, .int .i64 ((((encS [[]] (wholeB ts)).length : Nat) : Int)), .int .i64 (((k : Nat) : Int)), (y20 43), (y20 44), (y20 45), (y20 46), (y20 47), (y20 48), (y20 49), (y20 50), (y20 51), (y20 52), undef]) ∧ (k ≤ (encS [[]] (wholeB ts)).length) ∧ (z = ((cntN ((encS [[]] (wholeB ts)).take k) m : Nat) : Int)) ∧ (0 ≤ z ∧ z ≤ k) ∧ St h [] p6 h_ ([])) (fun h_ H_ => ⟨0, 0, rfl, (y_of rfl), Nat.zero_le _, (by simp [cntN]), ⟨by omega, by omega⟩, H_⟩) ?_
          intro m_ tm_ IH21
          refine rs_ex fun k => rs_ex fun z => rs_and fun hm_ => rs_and fun ht_ => rs_and fun hk => rs_and fun hz => rs_and fun hzk => ?_
          subst hm_; obtain ⟨y20, ht_⟩ := ht_; subst ht_
          refine fl_seq ?_
          refine rl_start ?_
          refine rl_det (met_none rfl) (fun h_ H_ => exd_lss rfl rfl) rfl ?_
          refine rl_end ?_
          refine fl_seq ?_
          by_cases cc22 : ((k : Nat) : Int) < (((encS [[]] (wholeB ts)).length : Nat) : Int)
          · refine fl_then rfl (decide_eq_true cc22) ?_
            refine fl_skip ?_
            refine fl_seq ?_
            refine fl_block ?_
            refine fl_seq ?_
            refine rl_start ?_
            refine rl_det (met_none rfl) (fun h_ H_ => exd_indexAddrN (i := k) Tryd.underlying49 tS60 (sl_ne a7 ((encS [[]] (wholeB ts)).length) cp8 ((show Pies _ _ _ (encS [[]] (wholeB ts)) from D10).ne (by omega))) rfl (by omega)) rfl ?_
            refine rl_det (met_none rfl) (fun h_ H_ => exd_loadN_per H_ tA60 tS60 rfl (vs := [.int .i64 (((encS [[]] (wholeB ts)).getD k pz).1), .int .i64 (((encS [[]] (wholeB ts)).getD k pz).2)]) rfl ((show Pies _ _ _ (encS [[]] (wholeB ts)) from D10).all (by omega))) (tm' := [_,_,_,_,_,_,_,_,_,_,_,_,_,_,_,_,_,_,_,_,_,_,_,_,_,_,_,_,_,_,_,_,_,_,_,_,_,_,_,_,_,_,_,_,_,_,_,_,_,_,_,_,_,_]) rfl ?_
            refine rl_alloc (met_none rfl) tZ60 rfl fun b23 => rl_own (L' := [(b23, .cells #[.int .i64 0, .int .i64 0] 60 (0, 0))]) rfl ?_
            refine rl_store (met_none rfl) tS60 rfl (v := .agg #[.int .i64 (((encS [[]] (wholeB ts)).getD k pz).1), .int .i64 (((encS [[]] (wholeB ts)).getD k pz).2)]) rfl (i := 0) rfl rfl rfl (Nat.le_of_ble_eq_true rfl) (cs2 := [.int .i64 (((encS [[]] (wholeB ts)).getD k pz).1), .int .i64 (((encS [[]] (wholeB ts)).getD k pz).2)]) rfl (rl_own (L' := [(b23, .cells #[.int .i64 (((encS [[]] (wholeB ts)).getD k pz).1), .int .i64 (((encS [[]] (wholeB ts)).getD k pz).2)] 60 (0, 0))]) rfl ?_)
            refine rl_end ?_
            refine fl_seq ?_
            refine rl_start ?_
            refine rl_det (met_none rfl) (fun h_ H_ => exd_fieldAddr tF60_0 rfl (a' := ⟨b23, 0, none⟩) rfl) rfl ?_
            refine rl_det (met_none rfl) (fun h_ H_ => exd_load_own H_ tA3 rfl (i := 0) rfl (v := .int .i64 (((encS [[]] (wholeB ts)).getD k pz).1)) rfl) (tm' := [_,_,_,_,_,_,_,_,_,_,_,_,_,_,_,_,_,_,_,_,_,_,_,_,_,_,_,_,_,_,_,_,_,_,_,_,_,_,_,_,_,_,_,_,_,_,_,_,_,_,_,_,_,_]) rfl ?_
            refine rl_det (met_none rfl) (fun h_ H_ => exd_move (v := .int .i64 (m)) rfl) rfl ?_
            refine rl_det (met_none rfl) (fun h_ H_ => exd_eql rfl rfl) rfl ?_
            refine rl_end ?_
            by_cases cc24 : ((encS [[]] (wholeB ts)).getD k pz).1 = m
            · refine fl_then rfl (decide_eq_true cc24) ?_
              refine rl_start ?_
              refine rl_det (met_none rfl) (fun h_ H_ => exd_move (v := .int .i64 (z)) rfl) (tm' := [_,_,_,_,_,_,_,_,_,_,_,_,_,_,_,_,_,_,_,_,_,_,_,_,_,_,_,_,_,_,_,_,_,_,_,_,_,_,_,_,_,_,_,_,_,_,_,_,_,_,_,_,_,_]) rfl ?_
              refine rl_det (met_none rfl) (fun h_ H_ => exd_add rfl rfl (wr (by omega))) rfl ?_
              refine rl_det (met_none rfl) (fun h_ H_ => exd_assign (v := .int .i64 (z + 1)) rfl) rfl ?_
              refine rl_end ?_
              refine fl_inBlock ?_
              refine rl_start ?_
              refine rl_det (met_none rfl) (fun h_ H_ => exd_add rfl rfl (n := ((k + 1 : Nat) : Int)) (wr (by omega))) (tm' := [_,_,_,_,_,_,_,_,_,_,_,_,_,_,_,_,_,_,_,_,_,_,_,_,_,_,_,_,_,_,_,_,_,_,_,_,_,_,_,_,_,_,_,_,_,_,_,_,_,_,_,_,_,_]) rfl ?_
              refine rl_det (met_none rfl) (fun h_ H_ => exd_move (v := .int .i64 (((k + 1 : Nat) : Int))) rfl) rfl ?_
              refine rl_end ?_
              exact fun h_ H_ => IH21 _ _ (by omega) h_ ⟨k + 1, z + 1, rfl, (y_of rfl), (by omega), (by rw [cnt_step (by omega), hz]; rw [if_pos ‹_›]; omega), ⟨by omega, by omega⟩, H_.drop⟩
            · refine fl_else rfl (decide_eq_false cc24) ?_
              refine fl_skip ?_
              refine fl_inBlock ?_
              refine rl_start ?_
              refine rl_det (met_none rfl) (fun h_ H_ => exd_add rfl rfl (n := ((k + 1 : Nat) : Int)) (wr (by omega))) rfl ?_
              refine rl_det (met_none rfl) (fun h_ H_ => exd_move (v := .int .i64 (((k + 1 : Nat) : Int))) rfl) (tm' := [_,_,_,_,_,_,_,_,_,_,_,_,_,_,_,_,_,_,_,_,_,_,_,_,_,_,_,_,_,_,_,_,_,_,_,_,_,_,_,_,_,_,_,_,_,_,_,_,_,_,_,_,_,_]) rfl ?_
              refine rl_end ?_
              exact fun h_ H_ => IH21 _ _ (by omega) h_ ⟨k + 1, z, rfl, (y_of rfl), (by omega), (by rw [cnt_step (by omega), hz]; rw [if_neg ‹_›]; omega), ⟨by omega, by omega⟩, H_.drop⟩
          · refine fl_else rfl (decide_eq_false cc22) ?_
            refine fl_exit rfl ?_
            refine fl_seq ?_
            refine rl_start ?_
            refine rl_det (met_none rfl) (fun h_ H_ => exd_move (v := .int .i64 (z)) rfl) rfl ?_
            refine rl_det (met_none rfl) (fun h_ H_ => exd_assign (v := .int .i64 (z)) rfl) rfl ?_
            refine rl_det (met_none rfl) (fun h_ H_ => exd_assign (v := .int .i64 0) rfl) (tm' := _::_::_::_::_::_::_) rfl ?_
            refine rl_end ?_
            refine fl_ret Tryd.func24 rfl (vs := [.int .i64 (z), .int .i64 0]) (fun h_ H_ => ⟨.int .i64 (z), _, rfl, rfl, ⟨.int .i64 0, _, rfl, rfl, rfl⟩⟩) (v := .tuple #[.int .i64 (z), .int .i64 0]) rfl ?_
            have hb : ¬ badN (encS [[]] (wholeB ts)) m := by unfold badN; rintro (z_ | z_ | ⟨z1_, z2_⟩) <;> first | omega | exact absurd z2_ ‹_›
            have hz2 : z = ((cntN (encS [[]] (wholeB ts)) m : Nat) : Int) := by rw [hz, List.take_of_length_le (by omega)]
            exact fun h_ H_ => K _ _ ⟨by rw [usesB, if_neg ‹_›, if_neg hb, hz2], H_.kept⟩
theorem c26 (h : Heap) (s : By) (hs : s.length ≤ 2 ^ 60) : CallsX Tryd.prog .lone 26 #[sv s] h fun v h' => v = .tuple #[.int .i64 (sumB s).1, .int .i64 (sumB s).2] ∧ Keep h h' := by
  refine calls_intro (Φ := fun h_ => St h [] (fun _ => none) h_ []) Tryd.func26 rfl (tm := [_, _, _, _, _, _, _, _, _]) rfl ?_ (St.start h _ (fun _ _ e => by cases e))
  intro c₀ cs Stop K
  refine fl_seq ?_
  refine rl_start ?_
  refine rl_det (met_none rfl) (fun h_ H_ => exd_assign (v := .int .i64 0) rfl) (tm' := _::_::_::_) rfl ?_
  refine rl_det (met_none rfl) (fun h_ H_ => exd_assign (v := .int .i64 0) rfl) rfl ?_
  refine rl_end ?_
  refine fl_seq ?_
  refine fl_seq ?_
  refine rl_start ?_
  refine rl_det (met_none rfl) (fun h_ H_ => exd_move (v := sv s) rfl) rfl ?_
  refine rl_det (met_none rfl) (fun h_ H_ => exd_lenS (l := s) Tryd.underlying9 rfl) (tm' := _::_::_::_::_::_::_) rfl ?_
  refine rl_det (met_none rfl) (fun h_ H_ => exd_gtr rfl rfl) rfl ?_
  refine rl_end ?_
  by_cases cc1 : 1400 < ((s.length : Nat) : Int)
  · refine fl_then rfl (decide_eq_true cc1) ?_
    refine fl_seq ?_
    refine rl_start ?_
    refine rl_det (met_none rfl) (fun h_ H_ => exd_assign (v := .int .i64 0) rfl) rfl ?_
    refine rl_det (met_none rfl) (fun h_ H_ => exd_assign (v := .int .i64 1) rfl) (tm' := _::_::_::_::_) rfl ?_
    refine rl_end ?_
    refine fl_ret Tryd.func26 rfl (vs := [.int .i64 0, .int .i64 1]) (fun h_ H_ => ⟨.int .i64 0, _, rfl, rfl, ⟨.int .i64 1, _, rfl, rfl, rfl⟩⟩) (v := .tuple #[.int .i64 0, .int .i64 1]) rfl ?_
    exact fun h_ H_ => K _ _ ⟨by rw [sumB, if_pos (by omega)], H_.kept⟩
  · refine fl_else rfl (decide_eq_false cc1) ?_
    refine fl_skip ?_
    refine fl_seq ?_
    refine rl_start ?_
    refine rl_det (met_none rfl) (fun h_ H_ => exd_move (v := sv s) rfl) rfl ?_
    refine rl_calld (met_none rfl) (first := []) (cap := []) rfl rfl fC62 (fun h_ H_ => c62 .lone _ s (by omega)) rfl ?_
    refine rl_det (met_none rfl) (fun h_ H_ => exd_assign (v := .int .i64 (((total s % 9973 : Nat) : Int))) rfl) (tm' := _::_::_::_) rfl ?_
    refine rl_det (met_none rfl) (fun h_ H_ => exd_assign (v := .int .i64 0) rfl) rfl ?_
    refine rl_end ?_
    refine fl_ret Tryd.func26 rfl (vs := [.int .i64 (((total s % 9973 : Nat) : Int)), .int .i64 0]) (fun h_ H_ => ⟨.int .i64 (((total s % 9973 : Nat) : Int)), _, rfl, rfl, ⟨.int .i64 0, _, rfl, rfl, rfl⟩⟩) (v := .tuple #[.int .i64 (((total s % 9973 : Nat) : Int)), .int .i64 0]) rfl ?_
    exact fun h_ H_ => K _ _ ⟨by rw [sumB, if_neg (by omega)], H_.kept⟩
theorem c33 (h : Heap) (s : By) (hs : s.length ≤ 2 ^ 60) : CallsX Tryd.prog .lone 33 #[sv s] h fun v h' => ∃ w X, v = .tuple #[w, .int .i64 (parseB s)] ∧ OwnS 60 2 w (pies ((formB s).getD [])) X ∧ New h h' X := by
  refine calls_intro (Φ := fun h_ => St h [] (fun _ => none) h_ []) Tryd.func33 rfl (tm := [_, _, _, _, _, _, _, _, _, _, _, _, _, _]) rfl ?_ (St.start h _ (fun _ _ e => by cases e))
  intro c₀ cs Stop K
  refine fl_seq ?_
  refine rl_start ?_
  refine rl_det (met_none rfl) (fun h_ H_ => exd_assign (v := .slice none 0 0) rfl) rfl ?_
  refine rl_det (met_none rfl) (fun h_ H_ => exd_assign (v := .int .i64 0) rfl) (tm' := _::_::_::_::_) rfl ?_
  refine rl_end ?_
  refine fl_seq ?_
  refine rl_start ?_
  refine rl_det (met_none rfl) (fun h_ H_ => exd_move (v := sv s) rfl) rfl ?_
  refine rl_own (L' := ([] : Pcs) ++ []) rfl ?_
  refine rl_call (met_none rfl) (first := []) (cap := []) rfl rfl fC52 (R := fun v_ h_ => ∃ w1 : Value, ∃ X2 : Pcs, v_ = .tuple #[w1, .bool ((formB s).isSome)] ∧ (OwnS 60 2 w1 (pies ((formB s).getD [])) X2) ∧ St h [] (fun _ => none) h_ (([] : Pcs) ++ (X2 ++ []))) (fun h_ H_ => (c52 _ s (by omega)).mono fun v_ h2_ ⟨w1, X2, e_, o3, N_⟩ => ⟨w1, X2, e_, o3, H_.callNA N_⟩) fun v_ => ?_
  refine rl_ex fun w1 => rl_ex fun X2 => rl_and fun ev_ => rl_and fun o3 => ?_
  have ev_ := ev_.symm; subst ev_
  refine rl_own (L' := ([] : Pcs) ++ (X2 ++ [])) rfl ?_
  refine rl_det (met_none rfl) (fun h_ H_ => exd_move (v := .tuple #[w1, .bool ((formB s).isSome)]) rfl) (tm' := _::_::_::_::_::_::_::_) rfl ?_
  refine rl_det (met_none rfl) (fun h_ H_ => exd_extract rfl (v := w1) rfl) rfl ?_
  refine rl_det (met_none rfl) (fun h_ H_ => exd_extract rfl (v := .bool ((formB s).isSome)) rfl) rfl ?_
  refine rl_det (met_none rfl) (fun h_ H_ => exd_assign (v := w1) rfl) (tm' := _::_::_::_::_::_) rfl ?_
  refine rl_det (met_none rfl) (fun h_ H_ => exd_assign (v := .bool ((formB s).isSome)) rfl) rfl ?_
  refine rl_end ?_
  refine fl_seq ?_
  refine fl_seq ?_
  refine rl_start ?_
  refine rl_det (met_none rfl) (fun h_ H_ => exd_move (v := .bool ((formB s).isSome)) rfl) rfl ?_
  refine rl_det (met_none rfl) (fun h_ H_ => exd_not rfl) (tm' := [_,_,_,_,_,_,_,_,_,_,_,_,_,_]) rfl ?_
  refine rl_end ?_
  rcases bcases ((formB s).isSome) with cc4 | cc4
  · refine fl_else rfl (not_f cc4) ?_
    refine fl_skip ?_
    refine fl_seq ?_
    refine rl_start ?_
    refine rl_det (met_none rfl) (fun h_ H_ => exd_move (v := w1) rfl) rfl ?_
    refine rl_det (met_none rfl) (fun h_ H_ => exd_assign (v := w1) rfl) rfl ?_
    refine rl_det (met_none rfl) (fun h_ H_ => exd_assign (v := .int .i64 0) rfl) (tm' := _::_::_::_::_) rfl ?_
    refine rl_end ?_
    refine fl_ret Tryd.func33 rfl (vs := [w1, .int .i64 0]) (fun h_ H_ => ⟨w1, _, rfl, rfl, ⟨.int .i64 0, _, rfl, rfl, rfl⟩⟩) (v := .tuple #[w1, .int .i64 0]) rfl ?_
    exact fun h_ H_ => K _ _ ⟨_, _, by rw [parseB, if_pos ‹_›], o3, by simpa using H_.new⟩
  · refine fl_then rfl (not_t cc4) ?_
    refine fl_seq ?_
    refine rl_start ?_
    refine rl_det (met_none rfl) (fun h_ H_ => exd_assign (v := .slice none 0 0) rfl) rfl ?_
    refine rl_det (met_none rfl) (fun h_ H_ => exd_assign (v := .int .i64 140) rfl) rfl ?_
    refine rl_end ?_
    refine fl_ret Tryd.func33 rfl (vs := [.slice none 0 0, .int .i64 140]) (fun h_ H_ => ⟨.slice none 0 0, _, rfl, rfl, ⟨.int .i64 140, _, rfl, rfl, rfl⟩⟩) (v := .tuple #[.slice none 0 0, .int .i64 140]) rfl ?_
    exact fun h_ H_ => K _ _ ⟨.slice none 0 0, [], by rw [parseB, if_neg (by rw [‹(formB s).isSome = false›]; simp)], by rw [form_none ‹_›]; exact OwnS.empty _ _, (H_.sub (List.nil_sublist _)).new⟩
theorem c20 (h : Heap) (htab : Tab h) (s : By) (hs : s.length ≤ 2 ^ 60) : CallsX Tryd.prog .lone 20 #[sv s] h fun v h' => v = .int .i64 (stateB s) ∧ Keep h h' := by
  refine calls_intro (Φ := fun h_ => St h [] (fun _ => none) h_ []) Tryd.func20 rfl (tm := [_, _, _, _, _, _, _, _, _, _, _, _, _, _, _, _, _]) rfl ?_ (St.start h _ (fun _ _ e => by cases e))
  intro c₀ cs Stop K
  refine fl_seq ?_
  refine rl_start ?_
  refine rl_det (met_none rfl) (fun h_ H_ => exd_assign (v := .int .i64 0) rfl) (tm' := _::_::_::_) rfl ?_
  refine rl_end ?_
  refine fl_seq ?_
  refine fl_seq ?_
  refine rl_start ?_
  refine rl_det (met_none rfl) (fun h_ H_ => exd_move (v := sv s) rfl) rfl ?_
  refine rl_own (L' := ([] : Pcs) ++ []) rfl ?_
  refine rl_call (met_none rfl) (first := []) (cap := []) rfl rfl fC18 (R := fun v_ h_ => ∃ w1 : Value, ∃ X2 : Pcs, v_ = .tuple #[w1, .int .i64 ((readB s).1)] ∧ (OwnS 9 1 w1 (scs (readB s).2) X2) ∧ St h [] (fun _ => none) h_ (([] : Pcs) ++ (X2 ++ []))) (fun h_ H_ => (c18 _ (htab.keep H_.kept) s (by omega)).mono fun v_ h2_ ⟨w1, X2, e_, o3, N_⟩ => ⟨w1, X2, e_, o3, H_.callNA N_⟩) fun v_ => ?_
  refine rl_ex fun w1 => rl_ex fun X2 => rl_and fun ev_ => rl_and fun o3 => ?_
  have ev_ := ev_.symm; subst ev_
  refine rl_own (L' := ([] : Pcs) ++ (X2 ++ [])) rfl ?_
  refine rl_det (met_none rfl) (fun h_ H_ => exd_move (v := .tuple #[w1, .int .i64 ((readB s).1)]) rfl) (tm' := _::_::_::_::_::_::_) rfl ?_
  refine rl_det (met_none rfl) (fun h_ H_ => exd_extract rfl (v := w1) rfl) rfl ?_
  refine rl_det (met_none rfl) (fun h_ H_ => exd_extract rfl (v := .int .i64 ((readB s).1)) rfl) rfl ?_
  refine rl_det (met_none rfl) (fun h_ H_ => exd_assign (v := w1) rfl) (tm' := _::_::_::_::_) rfl ?_
  refine rl_det (met_none rfl) (fun h_ H_ => exd_assign (v := .int .i64 ((readB s).1)) rfl) rfl ?_
  refine rl_end ?_
  refine fl_seq ?_
  refine rl_start ?_
  refine rl_det (met_none rfl) (fun h_ H_ => exd_move (v := .int .i64 ((readB s).1)) rfl) rfl ?_
  refine rl_end ?_
  refine fl_block ?_
  refine fl_seq ?_
  refine rl_start ?_
  refine rl_det (met_none rfl) (fun h_ H_ => exd_eql rfl rfl) (tm' := [_,_,_,_,_,_,_,_,_,_,_,_,_,_,_,_,_]) rfl ?_
  refine rl_det (met_none rfl) (fun h_ H_ => exd_assign (v := .bool (decide ((readB s).1 = 0))) rfl) rfl ?_
  refine rl_end ?_
  by_cases cc4 : (readB s).1 = 0
  · refine fl_then rfl (decide_eq_true cc4) ?_
    refine fl_seq ?_
    refine rl_start ?_
    refine rl_det (met_none rfl) (fun h_ H_ => exd_assign (v := .int .i64 1) rfl) rfl ?_
    refine rl_end ?_
    refine fl_ret Tryd.func20 rfl (vs := [.int .i64 1]) (fun h_ H_ => ⟨.int .i64 1, _, rfl, rfl, rfl⟩) (v := .int .i64 1) rfl ?_
    exact fun h_ H_ => K _ _ ⟨by unfold stateB; first | rw [if_pos ‹_›] | rw [if_neg ‹_›, if_pos ‹_›] | rw [if_neg ‹_›, if_neg ‹_›, if_pos ‹_›] | rw [if_neg ‹_›, if_neg ‹_›, if_neg ‹_›], H_.kept⟩
  · refine fl_else rfl (decide_eq_false cc4) ?_
    refine fl_seq ?_
    refine rl_start ?_
    refine rl_det (met_none rfl) (fun h_ H_ => exd_eql rfl rfl) (tm' := [_,_,_,_,_,_,_,_,_,_,_,_,_,_,_,_,_]) rfl ?_
    refine rl_det (met_none rfl) (fun h_ H_ => exd_assign (v := .bool (decide ((readB s).1 = 140))) rfl) rfl ?_
    refine rl_end ?_
    by_cases cc5 : (readB s).1 = 140
    · refine fl_then rfl (decide_eq_true cc5) ?_
      refine fl_seq ?_
      refine rl_start ?_
      refine rl_det (met_none rfl) (fun h_ H_ => exd_assign (v := .int .i64 2) rfl) rfl ?_
      refine rl_end ?_
      refine fl_ret Tryd.func20 rfl (vs := [.int .i64 2]) (fun h_ H_ => ⟨.int .i64 2, _, rfl, rfl, rfl⟩) (v := .int .i64 2) rfl ?_
      exact fun h_ H_ => K _ _ ⟨by unfold stateB; first | rw [if_pos ‹_›] | rw [if_neg ‹_›, if_pos ‹_›] | rw [if_neg ‹_›, if_neg ‹_›, if_pos ‹_›] | rw [if_neg ‹_›, if_neg ‹_›, if_neg ‹_›], H_.kept⟩
    · refine fl_else rfl (decide_eq_false cc5) ?_
      refine fl_seq ?_
      refine rl_start ?_
      refine rl_det (met_none rfl) (fun h_ H_ => exd_eql rfl rfl) (tm' := [_,_,_,_,_,_,_,_,_,_,_,_,_,_,_,_,_]) rfl ?_
      refine rl_det (met_none rfl) (fun h_ H_ => exd_assign (v := .bool (decide ((readB s).1 = 141))) rfl) rfl ?_
      refine rl_end ?_
      by_cases cc6 : (readB s).1 = 141
      · refine fl_then rfl (decide_eq_true cc6) ?_
        refine fl_seq ?_
        refine rl_start ?_
        refine rl_det (met_none rfl) (fun h_ H_ => exd_assign (v := .int .i64 3) rfl) rfl ?_
        refine rl_end ?_
        refine fl_ret Tryd.func20 rfl (vs := [.int .i64 3]) (fun h_ H_ => ⟨.int .i64 3, _, rfl, rfl, rfl⟩) (v := .int .i64 3) rfl ?_
        exact fun h_ H_ => K _ _ ⟨by unfold stateB; first | rw [if_pos ‹_›] | rw [if_neg ‹_›, if_pos ‹_›] | rw [if_neg ‹_›, if_neg ‹_›, if_pos ‹_›] | rw [if_neg ‹_›, if_neg ‹_›, if_neg ‹_›], H_.kept⟩
      · refine fl_else rfl (decide_eq_false cc6) ?_
        refine fl_skip ?_
        refine fl_inBlock ?_
        refine fl_seq ?_
        refine rl_start ?_
        refine rl_det (met_none rfl) (fun h_ H_ => exd_assign (v := .int .i64 4) rfl) (tm' := _::_::_::_) rfl ?_
        refine rl_end ?_
        refine fl_ret Tryd.func20 rfl (vs := [.int .i64 4]) (fun h_ H_ => ⟨.int .i64 4, _, rfl, rfl, rfl⟩) (v := .int .i64 4) rfl ?_
        exact fun h_ H_ => K _ _ ⟨by unfold stateB; first | rw [if_pos ‹_›] | rw [if_neg ‹_›, if_pos ‹_›] | rw [if_neg ‹_›, if_neg ‹_›, if_pos ‹_›] | rw [if_neg ‹_›, if_neg ‹_›, if_neg ‹_›], H_.kept⟩
theorem c28 (h : Heap) (htab : Tab h) (s t : By) (hs : s.length ≤ 2 ^ 60) (ht : t.length ≤ 2 ^ 60) : CallsX Tryd.prog .lone 28 #[sv s, sv t] h fun v h' => v = .tuple #[sv (addB s t).1, .int .i64 (addB s t).2] ∧ Keep h h' := by
  refine calls_intro (Φ := fun h_ => St h [] (fun _ => none) h_ []) Tryd.func28 rfl (tm := [_, _, _, _, _, _, _, _, _, _, _, _, _, _, _, _, _, _, _, _, _, _, _]) rfl ?_ (St.start h _ (fun _ _ e => by cases e))
  intro c₀ cs Stop K
  refine fl_seq ?_
  refine rl_start ?_
  refine rl_det (met_none rfl) (fun h_ H_ => exd_assign (v := sv ([] : List UInt8)) rfl) rfl ?_
  refine rl_det (met_none rfl) (fun h_ H_ => exd_assign (v := .int .i64 0) rfl) rfl ?_
  refine rl_end ?_
  refine fl_seq ?_
  refine rl_start ?_
  refine rl_det (met_none rfl) (fun h_ H_ => exd_move (v := sv s) rfl) (tm' := _::_::_::_::_::_::_::_::_::_::_) rfl ?_
  refine rl_own (L' := ([] : Pcs) ++ []) rfl ?_
  refine rl_call (met_none rfl) (first := []) (cap := []) rfl rfl fC18 (R := fun v_ h_ => ∃ w1 : Value, ∃ X2 : Pcs, v_ = .tuple #[w1, .int .i64 ((readB s).1)] ∧ (OwnS 9 1 w1 (scs (readB s).2) X2) ∧ St h [] (fun _ => none) h_ (([] : Pcs) ++ (X2 ++ []))) (fun h_ H_ => (c18 _ (htab.keep H_.kept) s (by omega)).mono fun v_ h2_ ⟨w1, X2, e_, o3, N_⟩ => ⟨w1, X2, e_, o3, H_.callNA N_⟩) fun v_ => ?_
  refine rl_ex fun w1 => rl_ex fun X2 => rl_and fun ev_ => rl_and fun o3 => ?_
  have ev_ := ev_.symm; subst ev_
  refine rl_own (L' := ([] : Pcs) ++ (X2 ++ [])) rfl ?_
  refine rl_det (met_none rfl) (fun h_ H_ => exd_move (v := .tuple #[w1, .int .i64 ((readB s).1)]) rfl) rfl ?_
  refine rl_det (met_none rfl) (fun h_ H_ => exd_extract rfl (v := w1) rfl) (tm' := _::_::_::_::_::_::_::_::_::_::_::_::_) rfl ?_
  refine rl_det (met_none rfl) (fun h_ H_ => exd_extract rfl (v := .int .i64 ((readB s).1)) rfl) rfl ?_
  refine rl_det (met_none rfl) (fun h_ H_ => exd_assign (v := w1) rfl) rfl ?_
  refine rl_det (met_none rfl) (fun h_ H_ => exd_assign (v := .int .i64 ((readB s).1)) rfl) (tm' := _::_::_::_::_::_::_::_::_) rfl ?_
  refine rl_end ?_
  refine fl_seq ?_
  refine fl_seq ?_
  refine rl_start ?_
  refine rl_det (met_none rfl) (fun h_ H_ => exd_move (v := .int .i64 ((readB s).1)) rfl) rfl ?_
  refine rl_det (met_none rfl) (fun h_ H_ => exd_neq rfl rfl) rfl ?_
  refine rl_end ?_
  by_cases cc4 : (readB s).1 ≠ 0
  · refine fl_then rfl (decide_eq_true cc4) ?_
    refine fl_seq ?_
    refine rl_start ?_
    refine rl_det (met_none rfl) (fun h_ H_ => exd_move (v := .int .i64 ((readB s).1)) rfl) (tm' := [_,_,_,_,_,_,_,_,_,_,_,_,_,_,_,_,_,_,_,_,_,_,_]) rfl ?_
    refine rl_det (met_none rfl) (fun h_ H_ => exd_assign (v := sv ([] : List UInt8)) rfl) rfl ?_
    refine rl_det (met_none rfl) (fun h_ H_ => exd_assign (v := .int .i64 ((readB s).1)) rfl) rfl ?_
    refine rl_end ?_
    refine fl_ret Tryd.func28 rfl (vs := [sv ([] : List UInt8), .int .i64 ((readB s).1)]) (fun h_ H_ => ⟨sv ([] : List UInt8), _, rfl, rfl, ⟨.int .i64 ((readB s).1), _, rfl, rfl, rfl⟩⟩) (v := .tuple #[sv ([] : List UInt8), .int .i64 ((readB s).1)]) rfl ?_
    exact fun h_ H_ => K _ _ ⟨by rw [addB, if_pos ‹_›], H_.kept⟩
  · refine fl_else rfl (decide_eq_false cc4) ?_
    refine fl_skip ?_
    refine fl_seq ?_
    have hok := read_good (s := s) (Decidable.not_not.1 ‹_›)
    have hrl := hok.1
    refine rl_start ?_
    refine rl_det (met_none rfl) (fun h_ H_ => exd_move (v := w1) rfl) (tm' := [_,_,_,_,_,_,_,_,_,_,_,_,_,_,_,_,_,_,_,_,_,_,_]) rfl ?_
    refine rl_det (met_none rfl) (fun h_ H_ => exd_move (v := sv t) rfl) rfl ?_
    refine rl_buildO ([] : Pcs) (met_none rfl) Tryd.underlying22 tS9 tZ9 (Nat.le_of_ble_eq_true rfl) (vs := [(0, sv t)]) rfl rfl (es := [[sv t]]) rfl rfl rfl fun v5 X6 o7 => ?_
    refine rl_perm (List.Perm.append_left _ (List.perm_append_comm_assoc _ _ _)) ?_
    refine rl_own (L' := ([] : Pcs) ++ (X2 ++ (X6 ++ []))) rfl ?_
    refine rl_appendO ([] : Pcs) X2 X6 (met_none rfl) Tryd.underlying22 tS9 tZ9 rfl tB9 Tryd.underlying22 rfl rfl o3 o7 (ones_of rfl) (by rw [scs_length]; simp only [List.length_cons, List.length_nil]; omega) (by decide) fun v8 X9 o10 => ?_
    have o11 : OwnS 9 1 v8 (scs ((readB s).2 ++ [t])) X9 := o10.as (scs_snoc _ _)
    refine rl_norm (tm' := [_,_,_,_,_,_,_,_,_,_,_,_,_,_,_,_,_,_,_,_,_,_,_]) rfl ?_
    refine rl_calld (met_none rfl) (first := []) (cap := []) rfl rfl fC45 (fun h_ H_ => lend_to (n := ((readB s).2 ++ [t]).length) o11 (scs_length _) H_ (fun x_ h_ => by simp [h_]) fun p_ a_ c_ hp_ _ hv_ D_ => by rw [hv_]; exact c45 _ _ hp_ (htab.keep H_.kept) a_ _ c_ _ D_ (by rw [List.length_append, List.length_singleton]; omega) (read_more hok ht)) rfl ?_
    refine rl_det (met_none rfl) (fun h_ H_ => exd_extract rfl (v := sv ((writeB ((readB s).2 ++ [t])).1)) rfl) rfl ?_
    refine rl_det (met_none rfl) (fun h_ H_ => exd_extract rfl (v := .int .i64 ((writeB ((readB s).2 ++ [t])).2)) rfl) (tm' := [_,_,_,_,_,_,_,_,_,_,_,_,_,_,_,_,_,_,_,_,_,_,_]) rfl ?_
    refine rl_det (met_none rfl) (fun h_ H_ => exd_assign (v := sv ((writeB ((readB s).2 ++ [t])).1)) rfl) rfl ?_
    refine rl_det (met_none rfl) (fun h_ H_ => exd_assign (v := .int .i64 ((writeB ((readB s).2 ++ [t])).2)) rfl) rfl ?_
    refine rl_end ?_
    refine fl_ret Tryd.func28 rfl (vs := [sv ((writeB ((readB s).2 ++ [t])).1), .int .i64 ((writeB ((readB s).2 ++ [t])).2)]) (fun h_ H_ => ⟨sv ((writeB ((readB s).2 ++ [t])).1), _, rfl, rfl, ⟨.int .i64 ((writeB ((readB s).2 ++ [t])).2), _, rfl, rfl, rfl⟩⟩) (v := .tuple #[sv ((writeB ((readB s).2 ++ [t])).1), .int .i64 ((writeB ((readB s).2 ++ [t])).2)]) rfl ?_
    exact fun h_ H_ => K _ _ ⟨by rw [addB, if_neg ‹_›], H_.kept⟩
end Go.Proofs.YtiinpnlfdeiloaaDoor
namespace Go.Proofs.YtiinpnlfdeiloaaDoor
open Go.X Go.X.Cent Go.Conc
set_option maxRecDepth 10000
set_option synthInstance.maxSize 2000
set_option synthInstance.maxHeartbeats 400000

theorem c64 (md : Md) (h : Heap) (z : Int) (h0 : 0 ≤ z) (h1 : z ≤ 255) : CallsX Tryd.prog md 64 #[.int .i64 (z)] h fun v h' => v = sv [UInt8.ofNat z.toNat] ∧ Keep h h' := by
  refine calls_intro (Φ := fun h_ => St h [] (fun _ => none) h_ []) Tryd.func64 rfl (tm := [_, _, _, _, _, _, _]) rfl ?_ (St.start h _ (fun _ _ e => by cases e))
  intro c₀ cs Stop K
  refine fl_seq ?_
  refine rl_start ?_
  refine rl_det (met_none rfl) (fun h_ H_ => exd_assign (v := sv ([] : List UInt8)) rfl) rfl ?_
  refine rl_end ?_
  refine fl_seq ?_
  refine rl_start ?_
  refine rl_det (met_none rfl) (fun h_ H_ => exd_move (v := .int .i64 (z)) rfl) rfl ?_
  refine rl_det (met_none rfl) (fun h_ H_ => exd_conv ⟨_, Tryd.underlying3⟩ Tryd.underlying5 rfl (n := z) (wr8 (by omega))) (tm' := [_,_,_,_,_,_,_]) rfl ?_
  refine rl_own (L' := ([] : Pcs) ++ []) rfl ?_
  refine rl_buildO ([] : Pcs) (met_none rfl) Tryd.underlying37 tS5 tZ5 (Nat.le_of_ble_eq_true rfl) (vs := [(0, .int .u8 (z))]) rfl rfl (es := [[.int .u8 (z)]]) rfl rfl rfl fun v1 X2 o3 => ?_
  refine rl_det (met_none rfl) (fun h_ H_ => exd_strOwn (A := ([] : Pcs)) (o3.as (byte_own h0 h1)) H_ Tryd.underlying37 Tryd.underlying9 Tryd.underlying5 rfl) rfl ?_
  refine rl_det (met_none rfl) (fun h_ H_ => exd_assign (v := sv ([UInt8.ofNat z.toNat])) rfl) (tm' := _::_::_::_) rfl ?_
  refine rl_end ?_
  refine fl_ret Tryd.func64 rfl (vs := [sv ([UInt8.ofNat z.toNat])]) (fun h_ H_ => ⟨sv ([UInt8.ofNat z.toNat]), _, rfl, rfl, rfl⟩) (v := sv ([UInt8.ofNat z.toNat])) rfl ?_
  exact fun h_ H_ => K _ _ ⟨rfl, H_.kept⟩
theorem c65 (md : Md) (h : Heap) (n : Nat) (hn : n ≤ 10000) : CallsX Tryd.prog md 65 #[.int .i64 (((n : Nat) : Int))] h fun v h' => v = sv (four n) ∧ Keep h h' := by
  refine calls_intro (Φ := fun h_ => St h [] (fun _ => none) h_ []) Tryd.func65 rfl (tm := [_, _, _, _, _, _, _, _, _, _, _, _, _, _, _, _, _, _]) rfl ?_ (St.start h _ (fun _ _ e => by cases e))
  intro c₀ cs Stop K
  refine fl_seq ?_
  refine rl_start ?_
  refine rl_det (met_none rfl) (fun h_ H_ => exd_assign (v := sv ([] : List UInt8)) rfl) rfl ?_
  refine rl_end ?_
  refine fl_seq ?_
  refine rl_start ?_
  refine rl_det (met_none rfl) (fun h_ H_ => exd_assign (v := sv ([] : List UInt8)) rfl) rfl ?_
  refine rl_end ?_
  refine fl_seq ?_
  refine fl_seq ?_
  refine rl_start ?_
  refine rl_det (met_none rfl) (fun h_ H_ => exd_assign (v := .int .i64 0) rfl) (tm' := _::_::_::_::_::_) rfl ?_
  refine rl_end ?_
  refine fl_block ?_
  refine fl_loop (m₀ := 4 - 0) (fun m_ tm_ h_ => ∃ (k : Nat) (z : Int) (l : By), m_ = 4 - k ∧ (∃ y1 : Nat → Value, tm_ = [.int .i64 (z), undef, sv ([] : List UInt8), sv l, .int .i64 (((k : Nat) : Int)), (y1 5), (y1 6), (y1 7), (y1 8), (y1 9), (y1 10), (y1 11), (y1 12), (y1 13), (y1 14), (y1 15), (y1 16), undef]) ∧ (k ≤ 4) ∧ (z = ((n / 10 ^ k : Nat) : Int)) ∧ (l = fourTo n k) ∧ (0 ≤ z ∧ z ≤ 10000) ∧ (l.length = k) ∧ St h [] (fun _ => none) h_ ([])) (fun h_ H_ => ⟨0, ((n : Nat) : Int), [], rfl, (y_of rfl), Nat.zero_le _, (by simp), rfl, (by omega), rfl, H_⟩) ?_
  intro m_ tm_ IH2
  refine rs_ex fun k => rs_ex fun z => rs_ex fun l => rs_and fun hm_ => rs_and fun ht_ => rs_and fun hk => rs_and fun hz => rs_and fun hl => rs_and fun hz0 => rs_and fun hl0 => ?_
  subst hm_; obtain ⟨y1, ht_⟩ := ht_; subst ht_
  refine fl_seq ?_
  refine fl_seq ?_
  refine rl_start ?_
  refine rl_det (met_none rfl) (fun h_ H_ => exd_move (v := .int .i64 (((k : Nat) : Int))) rfl) rfl ?_
  refine rl_det (met_none rfl) (fun h_ H_ => exd_lss rfl rfl) rfl ?_
  refine rl_end ?_
  by_cases cc3 : ((k : Nat) : Int) < 4
  · refine fl_then rfl (decide_eq_true cc3) ?_
    refine fl_skip ?_
    refine fl_seq ?_
    refine fl_block ?_
    refine fl_seq ?_
    refine rl_start ?_
    refine rl_det (met_none rfl) (fun h_ H_ => exd_move (v := .int .i64 (z)) rfl) (tm' := _::_::_::_::_::_::_::_::_::_::_) rfl ?_
    refine rl_det (met_none rfl) (fun h_ H_ => exd_rem rfl rfl (by decide) (n := z % 10) (Int.tmod_eq_emod_of_nonneg (by omega))) rfl ?_
    refine rl_det (met_none rfl) (fun h_ H_ => exd_add rfl rfl (wr (by first | omega | (simp; omega)))) rfl ?_
    refine rl_calld (met_none rfl) (first := []) (cap := []) rfl rfl fC64 (fun h_ H_ => c64 md _ (48 + (z % 10)) (by omega) (by omega)) (tm' := [_,_,_,_,_,_,_,_,_,_,_,_,_,_,_,_,_,_]) rfl ?_
    refine rl_det (met_none rfl) (fun h_ H_ => exd_move (v := sv l) rfl) rfl ?_
    refine rl_det (met_none rfl) (fun h_ H_ => exd_catS (l := [UInt8.ofNat (48 + (z % 10)).toNat]) (m := l) rfl rfl (by first | omega | (simp; omega))) rfl ?_
    refine rl_det (met_none rfl) (fun h_ H_ => exd_assign (v := sv (([UInt8.ofNat (48 + (z % 10)).toNat]) ++ l)) rfl) (tm' := _::_::_::_::_) rfl ?_
    refine rl_end ?_
    refine rl_start ?_
    refine rl_det (met_none rfl) (fun h_ H_ => exd_move (v := .int .i64 (z)) rfl) rfl ?_
    refine rl_det (met_none rfl) (fun h_ H_ => exd_quo rfl rfl (by decide) (n := z / 10) ((congrArg _ (Int.tdiv_eq_ediv_of_nonneg (by omega))).trans (wr (by omega)))) rfl ?_
    refine rl_det (met_none rfl) (fun h_ H_ => exd_assign (v := .int .i64 (z / 10)) rfl) (tm' := _::_) rfl ?_
    refine rl_end ?_
    refine fl_inBlock ?_
    refine rl_start ?_
    refine rl_det (met_none rfl) (fun h_ H_ => exd_move (v := .int .i64 (((k : Nat) : Int))) rfl) rfl ?_
    refine rl_det (met_none rfl) (fun h_ H_ => exd_add rfl rfl (n := ((k + 1 : Nat) : Int)) (wr (by omega))) rfl ?_
    refine rl_det (met_none rfl) (fun h_ H_ => exd_assign (v := .int .i64 (((k + 1 : Nat) : Int))) rfl) (tm' := _::_::_::_::_::_) rfl ?_
    refine rl_end ?_
    exact fun h_ H_ => IH2 _ _ (by omega) h_ ⟨k + 1, z / 10, ([UInt8.ofNat (48 + (z % 10)).toNat]) ++ l, rfl, (y_of rfl), (by omega), (four_step hz hl).2, (four_step hz hl).1, (by omega), (by simp; omega), H_⟩
  · refine fl_else rfl (decide_eq_false cc3) ?_
    refine fl_exit rfl ?_
    refine fl_seq ?_
    refine rl_start ?_
    refine rl_det (met_none rfl) (fun h_ H_ => exd_move (v := sv l) rfl) rfl ?_
    refine rl_det (met_none rfl) (fun h_ H_ => exd_assign (v := sv l) rfl) rfl ?_
    refine rl_end ?_
    refine fl_ret Tryd.func65 rfl (vs := [sv l]) (fun h_ H_ => ⟨sv l, _, rfl, rfl, rfl⟩) (v := sv l) rfl ?_
    have e4 : k = 4 := by omega
    subst e4
    exact fun h_ H_ => K _ _ ⟨by rw [hl, fourTo_four], H_.kept⟩
theorem c98 (md : Md) (h : Heap) (n : Int) (h0 : 0 ≤ n) (h1 : n ≤ 4000) : CallsX Tryd.prog md 98 #[.int .i64 (n)] h fun v h' => v = sv (two n) ∧ Keep h h' := by
  refine calls_intro (Φ := fun h_ => St h [] (fun _ => none) h_ []) Tryd.func98 rfl (tm := [_, _, _, _, _, _, _, _, _, _, _, _]) rfl ?_ (St.start h _ (fun _ _ e => by cases e))
  intro c₀ cs Stop K
  refine fl_seq ?_
  refine rl_start ?_
  refine rl_det (met_none rfl) (fun h_ H_ => exd_assign (v := sv ([] : List UInt8)) rfl) (tm' := _::_::_::_) rfl ?_
  refine rl_end ?_
  refine fl_seq ?_
  refine rl_start ?_
  refine rl_det (met_none rfl) (fun h_ H_ => exd_move (v := .int .i64 (n)) rfl) rfl ?_
  refine rl_det (met_none rfl) (fun h_ H_ => exd_quo rfl rfl (by decide) (n := n / 26) ((congrArg _ (Int.tdiv_eq_ediv_of_nonneg (by omega))).trans (wr (by first | omega | (simp; done))))) rfl ?_
  refine rl_det (met_none rfl) (fun h_ H_ => exd_add rfl rfl (wr (by first | omega | (simp; done)))) (tm' := _::_::_::_::_::_::_) rfl ?_
  refine rl_calld (met_none rfl) (first := []) (cap := []) rfl rfl fC64 (fun h_ H_ => c64 md _ (65 + (n / 26)) (by omega) (by omega)) rfl ?_
  refine rl_det (met_none rfl) (fun h_ H_ => exd_move (v := .int .i64 (n)) rfl) rfl ?_
  refine rl_det (met_none rfl) (fun h_ H_ => exd_rem rfl rfl (by decide) (n := n % 26) (Int.tmod_eq_emod_of_nonneg (by omega))) (tm' := [_,_,_,_,_,_,_,_,_,_,_,_]) rfl ?_
  refine rl_det (met_none rfl) (fun h_ H_ => exd_add rfl rfl (wr (by first | omega | (simp; done)))) rfl ?_
  refine rl_calld (met_none rfl) (first := []) (cap := []) rfl rfl fC64 (fun h_ H_ => c64 md _ (65 + (n % 26)) (by omega) (by omega)) rfl ?_
  refine rl_det (met_none rfl) (fun h_ H_ => exd_catS (l := [UInt8.ofNat (65 + (n / 26)).toNat]) (m := [UInt8.ofNat (65 + (n % 26)).toNat]) rfl rfl (by first | omega | (simp; done))) (tm' := [_,_,_,_,_,_,_,_,_,_,_,_]) rfl ?_
  refine rl_det (met_none rfl) (fun h_ H_ => exd_assign (v := sv (([UInt8.ofNat (65 + (n / 26)).toNat]) ++ ([UInt8.ofNat (65 + (n % 26)).toNat]))) rfl) rfl ?_
  refine rl_end ?_
  refine fl_ret Tryd.func98 rfl (vs := [sv (([UInt8.ofNat (65 + (n / 26)).toNat]) ++ ([UInt8.ofNat (65 + (n % 26)).toNat]))]) (fun h_ H_ => ⟨sv (([UInt8.ofNat (65 + (n / 26)).toNat]) ++ ([UInt8.ofNat (65 + (n % 26)).toNat])), _, rfl, rfl, rfl⟩) (v := sv (([UInt8.ofNat (65 + (n / 26)).toNat]) ++ ([UInt8.ofNat (65 + (n % 26)).toNat]))) rfl ?_
  exact fun h_ H_ => K _ _ ⟨rfl, H_.kept⟩
end Go.Proofs.YtiinpnlfdeiloaaDoor
namespace Go.Proofs.YtiinpnlfdeiloaaDoor
open Go.X Go.X.Cent Go.Conc
set_option maxRecDepth 10000

theorem c51 (md : Md) (h : Heap) (p : PHeap) (hp : Per p h) (a : Option Addr) (n c : Nat) (ts : List By) (T : Strs p a n ts) (hn : n ≤ 2 ^ 60) (ht : ∀ i, i < n → (ts.getD i []).length ≤ 2 ^ 60) : CallsX Tryd.prog md 51 #[.slice a n c] h fun v h' => v = .int .i64 (chkT ts) ∧ Keep h h' := by
  refine calls_intro (Φ := fun h_ => St h [] p h_ []) Tryd.func51 rfl (tm := [_, _, _, _, _, _, _, _, _, _, _, _, _, _, _, _, _, _, _]) rfl ?_ (St.start h _ hp)
  intro c₀ cs Stop K
  refine fl_seq ?_
  refine rl_start ?_
  refine rl_det (met_none rfl) (fun h_ H_ => exd_assign (v := .int .i64 0) rfl) rfl ?_
  refine rl_end ?_
  refine fl_seq ?_
  refine fl_seq ?_
  refine rl_start ?_
  refine rl_det (met_none rfl) (fun h_ H_ => exd_move (v := .slice a n c) rfl) rfl ?_
  refine rl_det (met_none rfl) (fun h_ H_ => exd_len Tryd.underlying22 rfl) (tm' := _::_::_::_::_::_::_) rfl ?_
  refine rl_det (met_none rfl) (fun h_ H_ => exd_gtr rfl rfl) rfl ?_
  refine rl_end ?_
  by_cases cc1 : 20 < ((n : Nat) : Int)
  · refine fl_then rfl (decide_eq_true cc1) ?_
    refine fl_seq ?_
    refine rl_start ?_
    refine rl_det (met_none rfl) (fun h_ H_ => exd_assign (v := .int .i64 2) rfl) rfl ?_
    refine rl_end ?_
    refine fl_ret Tryd.func51 rfl (vs := [.int .i64 2]) (fun h_ H_ => ⟨.int .i64 2, _, rfl, rfl, rfl⟩) (v := .int .i64 2) rfl ?_
    have hl := T.len
    exact fun h_ H_ => K _ _ ⟨by first | rw [chkT_many (by omega)] | rw [chkT_bad (k := k) (by omega) (by omega) ‹_›] | rw [chkT_good (by omega) (by omega) hs], H_.kept⟩
  · refine fl_else rfl (decide_eq_false cc1) ?_
    refine fl_skip ?_
    refine fl_seq ?_
    refine fl_seq ?_
    refine rl_start ?_
    refine rl_det (met_none rfl) (fun h_ H_ => exd_assign (v := .int .i64 0) rfl) (tm' := _::_::_::_::_) rfl ?_
    refine rl_end ?_
    refine fl_block ?_
    refine fl_loop (m₀ := n - 0) (fun m_ tm_ h_ => ∃ (k : Nat), m_ = n - k ∧ (∃ y2 : Nat → Value, tm_ = [.slice a n c, undef, (y2 2), .int .i64 (((k : Nat) : Int)), .slice a n c, .int .i64 (((n : Nat) : Int)), .bool (decide (20 < ((n : Nat) : Int))), (y2 7), (y2 8), (y2 9), (y2 10), (y2 11), (y2 12), (y2 13), (y2 14), (y2 15), (y2 16), (y2 17), (y2 18)]) ∧ (k ≤ n) ∧ (∀ i, i < k → isText (ts.getD i [])) ∧ St h [] p h_ ([])) (fun h_ H_ => ⟨0, rfl, (y_of rfl), Nat.zero_le _, (fun i hi => absurd hi (Nat.not_lt_zero i)), H_⟩) ?_
    intro m_ tm_ IH3
    refine rs_ex fun k => rs_and fun hm_ => rs_and fun ht_ => rs_and fun hk => rs_and fun hs => ?_
    subst hm_; obtain ⟨y2, ht_⟩ := ht_; subst ht_
    refine fl_seq ?_
    refine fl_seq ?_
    refine rl_start ?_
    refine rl_det (met_none rfl) (fun h_ H_ => exd_move (v := .int .i64 (((k : Nat) : Int))) rfl) rfl ?_
    refine rl_det (met_none rfl) (fun h_ H_ => exd_move (v := .slice a n c) rfl) rfl ?_
    refine rl_det (met_none rfl) (fun h_ H_ => exd_len Tryd.underlying22 rfl) (tm' := _::_::_::_::_::_::_::_::_::_::_) rfl ?_
    refine rl_det (met_none rfl) (fun h_ H_ => exd_lss rfl rfl) rfl ?_
    refine rl_end ?_
    by_cases cc4 : ((k : Nat) : Int) < ((n : Nat) : Int)
    · refine fl_then rfl (decide_eq_true cc4) ?_
      refine fl_skip ?_
      refine fl_seq ?_
      refine fl_block ?_
      refine fl_seq ?_
      refine rl_start ?_
      refine rl_det (met_none rfl) (fun h_ H_ => exd_move (v := .slice a n c) rfl) rfl ?_
      refine rl_det (met_none rfl) (fun h_ H_ => exd_move (v := .int .i64 (((k : Nat) : Int))) rfl) (tm' := [_,_,_,_,_,_,_,_,_,_,_,_,_,_,_,_,_,_,_]) rfl ?_
      refine rl_det (met_none rfl) (fun h_ H_ => exd_indexAddrN (i := k) Tryd.underlying22 tS9 (sl_ne a n c (T.ne (by omega))) rfl (by omega)) rfl ?_
      refine rl_det (met_none rfl) (fun h_ H_ => exd_load_per H_ tA9 rfl (v := sv (ts.getD k [])) (T.get (by omega))) rfl ?_
      refine rl_calld (met_none rfl) (first := []) (cap := []) rfl rfl fC68 (fun h_ H_ => c68 md _ (ts.getD k []) (ht _ (by omega))) (tm' := [_,_,_,_,_,_,_,_,_,_,_,_,_,_,_,_,_,_,_]) rfl ?_
      refine rl_det (met_none rfl) (fun h_ H_ => exd_not rfl) rfl ?_
      refine rl_end ?_
      by_cases cc5 : isText (ts.getD k [])
      · refine fl_else rfl (not_f (decide_eq_true cc5)) ?_
        refine fl_skip ?_
        refine fl_inBlock ?_
        refine rl_start ?_
        refine rl_det (met_none rfl) (fun h_ H_ => exd_move (v := .int .i64 (((k : Nat) : Int))) rfl) rfl ?_
        refine rl_det (met_none rfl) (fun h_ H_ => exd_add rfl rfl (n := ((k + 1 : Nat) : Int)) (wr (by omega))) (tm' := [_,_,_,_,_,_,_,_,_,_,_,_,_,_,_,_,_,_,_]) rfl ?_
        refine rl_det (met_none rfl) (fun h_ H_ => exd_assign (v := .int .i64 (((k + 1 : Nat) : Int))) rfl) rfl ?_
        refine rl_end ?_
        exact fun h_ H_ => IH3 _ _ (by omega) h_ ⟨k + 1, rfl, (y_of rfl), (by omega), (upto_step hs ‹_›), H_⟩
      · refine fl_then rfl (not_t (decide_eq_false cc5)) ?_
        refine fl_seq ?_
        refine rl_start ?_
        refine rl_det (met_none rfl) (fun h_ H_ => exd_assign (v := .int .i64 1) rfl) rfl ?_
        refine rl_end ?_
        refine fl_ret Tryd.func51 rfl (vs := [.int .i64 1]) (fun h_ H_ => ⟨.int .i64 1, _, rfl, rfl, rfl⟩) (v := .int .i64 1) rfl ?_
        have hl := T.len
        exact fun h_ H_ => K _ _ ⟨by first | rw [chkT_many (by omega)] | rw [chkT_bad (k := k) (by omega) (by omega) ‹_›] | rw [chkT_good (by omega) (by omega) hs], H_.kept⟩
    · refine fl_else rfl (decide_eq_false cc4) ?_
      refine fl_exit rfl ?_
      refine fl_seq ?_
      refine rl_start ?_
      refine rl_det (met_none rfl) (fun h_ H_ => exd_assign (v := .int .i64 0) rfl) (tm' := _::_::_::_) rfl ?_
      refine rl_end ?_
      refine fl_ret Tryd.func51 rfl (vs := [.int .i64 0]) (fun h_ H_ => ⟨.int .i64 0, _, rfl, rfl, rfl⟩) (v := .int .i64 0) rfl ?_
      have hl := T.len
      exact fun h_ H_ => K _ _ ⟨by first | rw [chkT_many (by omega)] | rw [chkT_bad (k := k) (by omega) (by omega) ‹_›] | rw [chkT_good (by omega) (by omega) hs], H_.kept⟩
end Go.Proofs.YtiinpnlfdeiloaaDoor
namespace Go.Proofs.YtiinpnlfdeiloaaDoor
open Go.X Go.X.Cent Go.Conc
set_option maxRecDepth 10000

theorem c31 (md : Md) (h : Heap) (p : PHeap) (hp : Per p h) (a : Option Addr) (n c : Nat) (ts : List By) (T : Strs p a n ts) (hn : n ≤ 60) (ht : ∀ t ∈ ts, t.length ≤ 200) : CallsX Tryd.prog md 31 #[.slice a n c] h fun v h' => v = sv (wholeB ts) ∧ Keep h h' := by
  refine calls_intro (Φ := fun h_ => St h [] p h_ []) Tryd.func31 rfl (tm := [_, _, _, _, _, _, _, _, _, _, _, _, _, _, _, _, _, _, _, _]) rfl ?_ (St.start h _ hp)
  intro c₀ cs Stop K
  refine fl_seq ?_
  refine rl_start ?_
  refine rl_det (met_none rfl) (fun h_ H_ => exd_assign (v := sv ([] : List UInt8)) rfl) rfl ?_
  refine rl_end ?_
  refine fl_seq ?_
  refine rl_start ?_
  refine rl_det (met_none rfl) (fun h_ H_ => exd_assign (v := sv ([] : List UInt8)) rfl) rfl ?_
  refine rl_end ?_
  refine fl_seq ?_
  refine fl_seq ?_
  refine rl_start ?_
  refine rl_det (met_none rfl) (fun h_ H_ => exd_assign (v := .int .i64 0) rfl) (tm' := _::_::_::_::_::_) rfl ?_
  refine rl_end ?_
  refine fl_block ?_
  refine fl_loop (m₀ := n - 0) (fun m_ tm_ h_ => ∃ (k : Nat) (l : By), m_ = n - k ∧ (∃ y1 : Nat → Value, tm_ = [.slice a n c, undef, sv ([] : List UInt8), sv l, .int .i64 (((k : Nat) : Int)), (y1 5), (y1 6), (y1 7), (y1 8), (y1 9), (y1 10), (y1 11), (y1 12), (y1 13), (y1 14), (y1 15), (y1 16), (y1 17), (y1 18), undef]) ∧ (k ≤ n) ∧ (l = wholeB (ts.take k)) ∧ St h [] p h_ ([])) (fun h_ H_ => ⟨0, [], rfl, (y_of rfl), Nat.zero_le _, rfl, H_⟩) ?_
  intro m_ tm_ IH2
  refine rs_ex fun k => rs_ex fun l => rs_and fun hm_ => rs_and fun ht_ => rs_and fun hk => rs_and fun hw => ?_
  subst hm_; obtain ⟨y1, ht_⟩ := ht_; subst ht_
  have hl := T.len
  have hb := wholeB_len (ts := ts.take k) (m := 200) (fun t z => ht t (List.mem_of_mem_take z))
  have ht1 : k < n → (ts.getD k []).length ≤ 200 := fun z => ht _ (getD_mem (by omega))
  have hq : (ts.take k).length ≤ 60 := by rw [List.length_take]; omega
  have hq2 := Nat.mul_le_mul_right 201 hq
  rw [← hw] at hb
  refine fl_seq ?_
  refine fl_seq ?_
  refine rl_start ?_
  refine rl_det (met_none rfl) (fun h_ H_ => exd_move (v := .int .i64 (((k : Nat) : Int))) rfl) rfl ?_
  refine rl_det (met_none rfl) (fun h_ H_ => exd_move (v := .slice a n c) rfl) rfl ?_
  refine rl_det (met_none rfl) (fun h_ H_ => exd_len Tryd.underlying22 rfl) (tm' := _::_::_::_::_::_::_::_::_) rfl ?_
  refine rl_det (met_none rfl) (fun h_ H_ => exd_lss rfl rfl) rfl ?_
  refine rl_end ?_
  by_cases cc3 : ((k : Nat) : Int) < ((n : Nat) : Int)
  · refine fl_then rfl (decide_eq_true cc3) ?_
    refine fl_skip ?_
    refine fl_seq ?_
    refine fl_block ?_
    refine fl_drawn2 7 [[], [], [], [1, 2], [1, 2, 3], [], [1, 2, 3, 4, 5], [], []] mixed (by kernel_rfl) (Nat.le_of_ble_eq_true rfl) ?_
    refine swr_det (met_none rfl) (fun h_ H_ => exd_move (v := sv l) rfl) (tm' := _::_::_::_::_::_::_::_::_::_::_::_::_) rfl ?_
    refine swr_det (met_none rfl) (fun h_ H_ => exd_move (v := .slice a n c) rfl) rfl ?_
    refine swr_det (met_none rfl) (fun h_ H_ => exd_move (v := .int .i64 (((k : Nat) : Int))) rfl) (tm' := [_,_,_,_,_,_,_,_,_,_,_,_,_,_,_,_,_,_,_,_]) rfl ?_
    refine swr_det (met_none rfl) (fun h_ H_ => exd_indexAddrN (i := k) Tryd.underlying22 tS9 (sl_ne a n c (T.ne (by omega))) rfl (by omega)) rfl ?_
    refine swr_det (met_none rfl) (fun h_ H_ => exd_load_per H_ tA9 rfl (v := sv (ts.getD k [])) (T.get (by omega))) (tm' := [_,_,_,_,_,_,_,_,_,_,_,_,_,_,_,_,_,_,_,_]) rfl ?_
    refine swr_call (met_none rfl) (first := []) (cap := []) rfl rfl fC64 (fun h_ H_ => (c64 md _ 10 (by omega) (by omega)).mono fun v_ h2_ ⟨e_, k_⟩ => ⟨e_, H_.call k_⟩) rfl ?_
    refine swr_det (met_none rfl) (fun h_ H_ => exd_catS (l := ts.getD k []) (m := [10]) rfl rfl (by first | omega | (simp only [List.length_singleton]; omega) | (simp only [List.length_append, List.length_singleton]; omega))) (tm' := [_,_,_,_,_,_,_,_,_,_,_,_,_,_,_,_,_,_,_,_]) rfl ?_
    refine swr_nil rfl ?_
    refine rl_det (met_none rfl) (fun h_ H_ => exd_catS (l := l) (m := (ts.getD k []) ++ ([10])) rfl rfl (by first | omega | (simp only [List.length_singleton]; omega) | (simp only [List.length_append, List.length_singleton]; omega))) (tm' := [_,_,_,_,_,_,_,_,_,_,_,_,_,_,_,_,_,_,_,_]) rfl ?_
    refine rl_det (met_none rfl) (fun h_ H_ => exd_assign (v := sv (l ++ ((ts.getD k []) ++ ([10])))) rfl) rfl ?_
    refine rl_end ?_
    refine fl_inBlock ?_
    refine rl_start ?_
    refine rl_det (met_none rfl) (fun h_ H_ => exd_move (v := .int .i64 (((k : Nat) : Int))) rfl) rfl ?_
    refine rl_det (met_none rfl) (fun h_ H_ => exd_add rfl rfl (n := ((k + 1 : Nat) : Int)) (wr (by omega))) (tm' := _::_::_::_::_::_::_::_::_::_::_::_) rfl ?_
    refine rl_det (met_none rfl) (fun h_ H_ => exd_assign (v := .int .i64 (((k + 1 : Nat) : Int))) rfl) rfl ?_
    refine rl_end ?_
    exact fun h_ H_ => IH2 _ _ (by omega) h_ ⟨k + 1, l ++ ((ts.getD k []) ++ ([10])), rfl, (y_of rfl), (by omega), (by rw [wholeB_take (by omega), hw, List.append_assoc]), H_⟩
  · refine fl_else rfl (decide_eq_false cc3) ?_
    refine fl_exit rfl ?_
    refine fl_seq ?_
    refine rl_start ?_
    refine rl_det (met_none rfl) (fun h_ H_ => exd_move (v := sv l) rfl) rfl ?_
    refine rl_det (met_none rfl) (fun h_ H_ => exd_assign (v := sv l) rfl) (tm' := _::_::_::_) rfl ?_
    refine rl_end ?_
    refine fl_ret Tryd.func31 rfl (vs := [sv l]) (fun h_ H_ => ⟨sv l, _, rfl, rfl, rfl⟩) (v := sv l) rfl ?_
    obtain rfl : k = n := by omega
    exact fun h_ H_ => K _ _ ⟨by rw [hw, ← hl, List.take_length], H_.kept⟩
end Go.Proofs.YtiinpnlfdeiloaaDoor
namespace Go.Proofs.YtiinpnlfdeiloaaDoor
open Go.X Go.X.Cent Go.Conc
set_option maxRecDepth 10000
set_option synthInstance.maxSize 2000
set_option synthInstance.maxHeartbeats 400000

set_option maxHeartbeats 1000000
theorem c60 (md : Md) (h : Heap) (s : By) (hs : s.length ≤ 2 ^ 30) : CallsX Tryd.prog md 60 #[sv s] h fun v h' => ∃ w1 X1 w2 X2, v = .tuple #[w1, w2] ∧ OwnS 60 2 w1 (pies (encS [[]] s)) X1 ∧ OwnS 9 1 w2 (scs (eachS [[]] s)) X2 ∧ New h h' (X1 ++ (X2 ++ [])) := by
  refine calls_intro (Φ := fun h_ => St h [] (fun _ => none) h_ []) Tryd.func60 rfl (tm := [_, _, _, _, _, _, _, _, _, _, _, _, _, _, _, _, _, _, _, _, _, _, _, _, _, _, _, _, _, _, _, _, _, _, _, _, _, _, _, _, _, _, _, _, _, _, _, _, _, _, _, _, _, _, _, _, _, _, _, _, _]) rfl ?_ (St.start h _ (fun _ _ e => by cases e))
  intro c₀ cs Stop K
  refine fl_seq ?_
  refine rl_start ?_
  refine rl_det (met_none rfl) (fun h_ H_ => exd_assign (v := .slice none 0 0) rfl) rfl ?_
  refine rl_det (met_none rfl) (fun h_ H_ => exd_assign (v := .slice none 0 0) rfl) rfl ?_
  refine rl_end ?_
  refine fl_seq ?_
  refine rl_start ?_
  refine rl_own (L' := ([] : Pcs) ++ []) rfl ?_
  refine rl_buildO ([] : Pcs) (met_none rfl) Tryd.underlying22 tS9 tZ9 (Nat.le_of_ble_eq_true rfl) (vs := [(0, sv ([] : List UInt8))]) rfl rfl (es := [[sv ([] : List UInt8)]]) rfl rfl rfl fun v1 X2 o3 => ?_
  refine rl_norm (tm' := _::_::_::_::_::_::_::_::_::_::_) rfl ?_
  refine rl_det (met_none rfl) (fun h_ H_ => exd_assign (v := v1) rfl) rfl ?_
  refine rl_end ?_
  refine fl_seq ?_
  refine fl_seq ?_
  refine rl_start ?_
  refine rl_det (met_none rfl) (fun h_ H_ => exd_assign (v := .int .i64 0) rfl) rfl ?_
  refine rl_end ?_
  refine fl_block ?_
  refine fl_loop (m₀ := s.length - 0) (fun m_ tm_ h_ => ∃ (m : Nat) (ph : List By) (out : List Pie) (ea : List By) (w1 : Value) (X1 : Pcs) (w2 : Value) (X2 : Pcs) (w3 : Value) (X3 : Pcs), m_ = s.length - m ∧ (∃ y4 : Nat → Value, tm_ = [sv s, undef, w1, w2, w3, .int .i64 (((m : Nat) : Int)), (y4 6), (y4 7), (y4 8), v1, (y4 10), (y4 11), (y4 12), (y4 13), (y4 14), (y4 15), (y4 16), (y4 17), (y4 18), (y4 19), (y4 20), (y4 21), (y4 22), (y4 23), (y4 24), (y4 25), (y4 26), (y4 27), (y4 28), (y4 29), (y4 30), (y4 31), (y4 32), (y4 33), (y4 34), (y4 35), (y4 36), (y4 37), (y4 38), (y4 39), (y4 40), (y4 41), (y4 42), (y4 43), (y4 44), (y4 45), (y4 46), (y4 47), (y4 48), (y4 49), (y4 50), (y4 51), (y4 52), (y4 53), (y4 54), (y4 55), (y4 56), (y4 57), (y4 58), undef, undef]) ∧ (m ≤ s.length ∧ Phr ph ∧ out ++ encS ph (s.drop m) = encS [[]] s ∧ ea ++ eachS ph (s.drop m) = eachS [[]] s ∧ ph.length ≤ m + 1 ∧ out.length ≤ m ∧ ea.length ≤ m) ∧ (OwnS 60 2 w1 (pies out) X1) ∧ (OwnS 9 1 w2 (scs ea) X2) ∧ (OwnS 9 1 w3 (scs ph) X3) ∧ St h [] (fun _ => none) h_ (([] : Pcs) ++ (X1 ++ (X2 ++ (X3 ++ []))))) (fun h_ H_ => ⟨0, [[]], [], [], (.slice none 0 0), [], (.slice none 0 0), [], v1, X2, rfl, (y_of rfl), ⟨Nat.zero_le _, Phr.one, rfl, rfl, by simp, by simp, by simp⟩, (OwnS.empty _ _), (OwnS.empty _ _), o3, H_⟩) ?_
  intro m_ tm_ IH5
  refine rs_ex fun m => rs_ex fun ph => rs_ex fun out => rs_ex fun ea => rs_ex fun w1 => rs_ex fun X1 => rs_ex fun w2 => rs_ex fun X2 => rs_ex fun w3 => rs_ex fun X3 => rs_and fun hm_ => rs_and fun ht_ => rs_and fun hq => rs_and fun o1 => rs_and fun o2 => rs_and fun o3 => ?_
  subst hm_; obtain ⟨y4, ht_⟩ := ht_; subst ht_
  obtain ⟨hm, hP, hE, hA, hl1, hl2, hl3⟩ := hq
  refine fl_seq ?_
  refine fl_seq ?_
  refine rl_start ?_
  refine rl_det (met_none rfl) (fun h_ H_ => exd_move (v := .int .i64 (((m : Nat) : Int))) rfl) (tm' := _::_::_::_::_::_::_::_::_::_::_::_) rfl ?_
  refine rl_det (met_none rfl) (fun h_ H_ => exd_move (v := sv s) rfl) rfl ?_
  refine rl_det (met_none rfl) (fun h_ H_ => exd_lenS (l := s) Tryd.underlying9 rfl) rfl ?_
  refine rl_det (met_none rfl) (fun h_ H_ => exd_lss rfl rfl) (tm' := _::_::_::_::_::_::_::_::_::_::_::_::_::_::_) rfl ?_
  refine rl_end ?_
  by_cases cc6 : ((m : Nat) : Int) < ((s.length : Nat) : Int)
  · refine fl_then rfl (decide_eq_true cc6) ?_
    refine fl_skip ?_
    refine fl_block ?_
    refine fl_seq ?_
    have hlt_ := lp_take (s := s) (m := m) (ph := ph)
    have hlp := lp_le ph (s.drop m)
    rw [List.length_drop] at hlp
    have hix := List.idxOf_lt_length_iff.2 (lp_mem (s.drop m) hP)
    refine rl_start ?_
    refine rl_det (met_none rfl) (fun h_ H_ => exd_move (v := w3) rfl) rfl ?_
    refine rl_det (met_none rfl) (fun h_ H_ => exd_move (v := sv s) rfl) rfl ?_
    refine rl_det (met_none rfl) (fun h_ H_ => exd_move (v := .int .i64 (((m : Nat) : Int))) rfl) (tm' := _::_::_::_::_::_::_::_::_::_::_::_::_::_::_::_::_::_) rfl ?_
    refine rl_det (met_none rfl) (fun h_ H_ => exd_dropS (l := s) (a := m) Tryd.underlying9 rfl (.nat (z := m) _ rfl) (by omega)) rfl ?_
    refine rl_calld (met_none rfl) (first := []) (cap := []) rfl rfl fC81 (fun h_ H_ => lend_to (n := ph.length) o3 (scs_length _) H_ (fun x_ h_ => by simp [h_]) fun p_ a_ c_ hp_ _ hv_ D_ => by rw [hv_]; exact c81d md _ _ hp_ a_ _ c_ _ D_ (s.drop m) (by omega) hP) rfl ?_
    refine rl_det (met_none rfl) (fun h_ H_ => exd_assign (v := .int .i64 (((ph.idxOf ((s.drop m).take (lp ph (s.drop m))) : Nat) : Int))) rfl) (tm' := _::_::_::_::_::_::_::_) rfl ?_
    refine rl_end ?_
    refine fl_seq ?_
    refine rl_start ?_
    refine rl_det (met_none rfl) (fun h_ H_ => exd_move (v := w3) rfl) rfl ?_
    refine rl_det (met_none rfl) (fun h_ H_ => exd_move (v := .int .i64 (((ph.idxOf ((s.drop m).take (lp ph (s.drop m))) : Nat) : Int))) rfl) rfl ?_
    refine rl_det (met_none rfl) (fun h_ H_ => exd_indexO o3 Tryd.underlying22 tS9 rfl rfl (by rw [(scs_length _)]; omega)) (tm' := _::_::_::_::_::_::_::_::_::_::_::_::_::_::_::_::_::_::_::_::_::_::_) rfl ?_
    refine rl_det (met_none rfl) (fun h_ H_ => exd_loadM (i := ph.idxOf ((s.drop m).take (lp ph (s.drop m)))) (j := 0) (e := [sv ((s.drop m).take (lp ph (s.drop m)))]) o3 H_ (fun x_ h_ => by simp [h_]) tA9 rfl rfl (scs_idx (lp_mem _ hP)) (u := sv ((s.drop m).take (lp ph (s.drop m)))) rfl) rfl ?_
    refine rl_det (met_none rfl) (fun h_ H_ => exd_assign (v := sv ((s.drop m).take (lp ph (s.drop m)))) rfl) rfl ?_
    refine rl_end ?_
    refine fl_seq ?_
    refine rl_start ?_
    refine rl_det (met_none rfl) (fun h_ H_ => exd_assign (v := .int .i64 (-1)) rfl) (tm' := _::_::_::_::_::_::_::_::_::_) rfl ?_
    refine rl_end ?_
    refine fl_seq ?_
    refine fl_seq ?_
    refine rl_start ?_
    refine rl_det (met_none rfl) (fun h_ H_ => exd_move (v := .int .i64 (((m : Nat) : Int))) rfl) rfl ?_
    refine rl_det (met_none rfl) (fun h_ H_ => exd_move (v := sv ((s.drop m).take (lp ph (s.drop m)))) rfl) rfl ?_
    refine rl_det (met_none rfl) (fun h_ H_ => exd_lenS (l := (s.drop m).take (lp ph (s.drop m))) Tryd.underlying9 rfl) (tm' := _::_::_::_::_::_::_::_::_::_::_::_::_::_::_::_::_::_::_::_::_::_::_::_::_::_::_) rfl ?_
    refine rl_det (met_none rfl) (fun h_ H_ => exd_add rfl rfl (n := ((m + (((s.drop m).take (lp ph (s.drop m))).length) : Nat) : Int)) (wr (by omega))) rfl ?_
    refine rl_det (met_none rfl) (fun h_ H_ => exd_move (v := sv s) rfl) rfl ?_
    refine rl_det (met_none rfl) (fun h_ H_ => exd_lenS (l := s) Tryd.underlying9 rfl) (tm' := _::_::_::_::_::_::_::_::_::_::_::_::_::_::_::_::_::_::_::_::_::_::_::_::_::_::_::_::_::_) rfl ?_
    refine rl_det (met_none rfl) (fun h_ H_ => exd_lss rfl rfl) rfl ?_
    refine rl_end ?_
    by_cases cc7 : ((m + (((s.drop m).take (lp ph (s.drop m))).length) : Nat) : Int) < ((s.length : Nat) : Int)
    · refine fl_then rfl (decide_eq_true cc7) ?_
      refine fl_seq ?_
      refine rl_start ?_
      refine rl_det (met_none rfl) (fun h_ H_ => exd_move (v := sv s) rfl) rfl ?_
      refine rl_det (met_none rfl) (fun h_ H_ => exd_move (v := .int .i64 (((m : Nat) : Int))) rfl) (tm' := _::_::_::_::_::_::_::_::_::_::_::_::_::_::_::_::_::_::_::_::_::_::_::_::_::_::_::_::_::_::_::_::_) rfl ?_
      refine rl_det (met_none rfl) (fun h_ H_ => exd_move (v := sv ((s.drop m).take (lp ph (s.drop m)))) rfl) rfl ?_
      refine rl_det (met_none rfl) (fun h_ H_ => exd_lenS (l := (s.drop m).take (lp ph (s.drop m))) Tryd.underlying9 rfl) rfl ?_
      refine rl_det (met_none rfl) (fun h_ H_ => exd_add rfl rfl (n := ((m + (((s.drop m).take (lp ph (s.drop m))).length) : Nat) : Int)) (wr (by omega))) (tm' := _::_::_::_::_::_::_::_::_::_::_::_::_::_::_::_::_::_::_::_::_::_::_::_::_::_::_::_::_::_::_::_::_::_::_::_) rfl ?_
      refine rl_det (met_none rfl) (fun h_ H_ => exd_indexSN (l := s) (i := (m + (((s.drop m).take (lp ph (s.drop m))).length))) Tryd.underlying9 rfl rfl (by omega)) rfl ?_
      refine rl_det (met_none rfl) (fun h_ H_ => exd_conv ⟨_, Tryd.underlying5⟩ Tryd.underlying3 rfl (n := (((s.getD (m + (((s.drop m).take (lp ph (s.drop m))).length)) 0).toNat : Nat) : Int)) (wrB _)) rfl ?_
      refine rl_det (met_none rfl) (fun h_ H_ => exd_assign (v := .int .i64 ((((s.getD (m + (((s.drop m).take (lp ph (s.drop m))).length)) 0).toNat : Nat) : Int))) rfl) (tm' := _::_::_::_::_::_::_::_::_::_) rfl ?_
      refine rl_end ?_
      refine fl_seq ?_
      refine rl_start ?_
      refine rl_det (met_none rfl) (fun h_ H_ => exd_move (v := sv ((s.drop m).take (lp ph (s.drop m)))) rfl) rfl ?_
      refine rl_det (met_none rfl) (fun h_ H_ => exd_move (v := .int .i64 ((((s.getD (m + (((s.drop m).take (lp ph (s.drop m))).length)) 0).toNat : Nat) : Int))) rfl) rfl ?_
      refine rl_calld (met_none rfl) (first := []) (cap := []) rfl rfl fC64 (fun h_ H_ => c64 md _ (((s.getD (m + (((s.drop m).take (lp ph (s.drop m))).length)) 0).toNat : Nat) : Int) (by omega) (by have := byte_le (s.getD (m + (((s.drop m).take (lp ph (s.drop m))).length)) 0); omega)) (tm' := _::_::_::_::_::_::_::_::_::_::_::_::_::_::_::_::_::_::_::_::_::_::_::_::_::_::_::_::_::_::_::_::_::_::_::_::_::_::_::_::_) rfl ?_
      refine rl_det (met_none rfl) (fun h_ H_ => exd_catS (l := (s.drop m).take (lp ph (s.drop m))) (m := [UInt8.ofNat ((((s.getD (m + (((s.drop m).take (lp ph (s.drop m))).length)) 0).toNat : Nat) : Int)).toNat]) rfl rfl (by simp only [List.length_singleton]; omega)) rfl ?_
      refine rl_det (met_none rfl) (fun h_ H_ => exd_assign (v := sv (((s.drop m).take (lp ph (s.drop m))) ++ ([UInt8.ofNat ((((s.getD (m + (((s.drop m).take (lp ph (s.drop m))).length)) 0).toNat : Nat) : Int)).toNat]))) rfl) rfl ?_
      refine rl_end ?_
      refine rl_start ?_
      refine rl_det (met_none rfl) (fun h_ H_ => exd_move (v := w3) rfl) (tm' := [_,_,_,_,_,_,_,_,_,_,_,_,_,_,_,_,_,_,_,_,_,_,_,_,_,_,_,_,_,_,_,_,_,_,_,_,_,_,_,_,_,_,_,_,_,_,_,_,_,_,_,_,_,_,_,_,_,_,_,_,_]) rfl ?_
      refine rl_det (met_none rfl) (fun h_ H_ => exd_move (v := sv (((s.drop m).take (lp ph (s.drop m))) ++ ([UInt8.ofNat ((((s.getD (m + (((s.drop m).take (lp ph (s.drop m))).length)) 0).toNat : Nat) : Int)).toNat]))) rfl) rfl ?_
      refine rl_buildO ([] : Pcs) (met_none rfl) Tryd.underlying22 tS9 tZ9 (Nat.le_of_ble_eq_true rfl) (vs := [(0, sv (((s.drop m).take (lp ph (s.drop m))) ++ ([UInt8.ofNat ((((s.getD (m + (((s.drop m).take (lp ph (s.drop m))).length)) 0).toNat : Nat) : Int)).toNat])))]) rfl rfl (es := [[sv (((s.drop m).take (lp ph (s.drop m))) ++ ([UInt8.ofNat ((((s.getD (m + (((s.drop m).take (lp ph (s.drop m))).length)) 0).toNat : Nat) : Int)).toNat]))]]) rfl rfl rfl fun v8 X9 o10 => ?_
      refine rl_perm (List.Perm.append_left _ (List.Perm.append_left _ (List.Perm.append_left _ (List.perm_append_comm_assoc _ _ _)))) ?_
      refine rl_perm (List.Perm.append_left _ (List.Perm.append_left _ (List.perm_append_comm_assoc _ _ _))) ?_
      refine rl_perm (List.Perm.append_left _ (List.perm_append_comm_assoc _ _ _)) ?_
      refine rl_own (L' := ([] : Pcs) ++ (X3 ++ (X9 ++ (X1 ++ (X2 ++ []))))) rfl ?_
      refine rl_appendO ([] : Pcs) X3 X9 (met_none rfl) Tryd.underlying22 tS9 tZ9 rfl tB9 Tryd.underlying22 rfl rfl o3 o10 (ones_of rfl) (by rw [scs_length]; simp only [List.length_cons, List.length_nil]; omega) (by decide) fun v11 X12 o13 => ?_
      refine rl_norm (tm' := [_,_,_,_,_,_,_,_,_,_,_,_,_,_,_,_,_,_,_,_,_,_,_,_,_,_,_,_,_,_,_,_,_,_,_,_,_,_,_,_,_,_,_,_,_,_,_,_,_,_,_,_,_,_,_,_,_,_,_,_,_]) rfl ?_
      refine rl_det (met_none rfl) (fun h_ H_ => exd_assign (v := v11) rfl) rfl ?_
      refine rl_end ?_
      refine fl_seq ?_
      have hs_ := step_more (T := (((s.drop m).take (lp ph (s.drop m))) ++ ([UInt8.ofNat ((((s.getD (m + (((s.drop m).take (lp ph (s.drop m))).length)) 0).toNat : Nat) : Int)).toNat]))) hP (by omega) (part_more (by omega))
      have hlp := lp_le ph (s.drop m)
      rw [List.length_drop] at hlp
      have hT_ := hs_.2.2.2
      have hlt_ := lp_take (s := s) (m := m) (ph := ph)
      refine rl_start ?_
      refine rl_det (met_none rfl) (fun h_ H_ => exd_move (v := w1) rfl) rfl ?_
      refine rl_det (met_none rfl) (fun h_ H_ => exd_move (v := .int .i64 (((ph.idxOf ((s.drop m).take (lp ph (s.drop m))) : Nat) : Int))) rfl) (tm' := [_,_,_,_,_,_,_,_,_,_,_,_,_,_,_,_,_,_,_,_,_,_,_,_,_,_,_,_,_,_,_,_,_,_,_,_,_,_,_,_,_,_,_,_,_,_,_,_,_,_,_,_,_,_,_,_,_,_,_,_,_]) rfl ?_
      refine rl_det (met_none rfl) (fun h_ H_ => exd_move (v := .int .i64 ((((s.getD (m + (((s.drop m).take (lp ph (s.drop m))).length)) 0).toNat : Nat) : Int))) rfl) rfl ?_
      refine rl_det (met_none rfl) (fun h_ H_ => exd_build tZ60 tP60 (vs := [(0, .int .i64 (((ph.idxOf ((s.drop m).take (lp ph (s.drop m))) : Nat) : Int))), (1, .int .i64 ((((s.getD (m + (((s.drop m).take (lp ph (s.drop m))).length)) 0).toNat : Nat) : Int)))]) rfl (cells := #[.int .i64 (((ph.idxOf ((s.drop m).take (lp ph (s.drop m))) : Nat) : Int)), .int .i64 ((((s.getD (m + (((s.drop m).take (lp ph (s.drop m))).length)) 0).toNat : Nat) : Int))]) rfl) rfl ?_
      refine rl_buildO ([] : Pcs) (met_none rfl) Tryd.underlying49 tS60 tZ60 (Nat.le_of_ble_eq_true rfl) (vs := [(0, .agg #[.int .i64 (((ph.idxOf ((s.drop m).take (lp ph (s.drop m))) : Nat) : Int)), .int .i64 ((((s.getD (m + (((s.drop m).take (lp ph (s.drop m))).length)) 0).toNat : Nat) : Int))])]) rfl rfl (es := [[.int .i64 (((ph.idxOf ((s.drop m).take (lp ph (s.drop m))) : Nat) : Int)), .int .i64 ((((s.getD (m + (((s.drop m).take (lp ph (s.drop m))).length)) 0).toNat : Nat) : Int))]]) rfl rfl rfl fun v14 X15 o16 => ?_
      refine rl_norm (tm' := [_,_,_,_,_,_,_,_,_,_,_,_,_,_,_,_,_,_,_,_,_,_,_,_,_,_,_,_,_,_,_,_,_,_,_,_,_,_,_,_,_,_,_,_,_,_,_,_,_,_,_,_,_,_,_,_,_,_,_,_,_]) rfl ?_
      refine rl_perm (List.Perm.append_left _ (List.Perm.append_left _ (List.perm_append_comm_assoc _ _ _))) ?_
      refine rl_perm (List.Perm.append_left _ (List.perm_append_comm_assoc _ _ _)) ?_
      refine rl_own (L' := ([] : Pcs) ++ (X1 ++ (X15 ++ (X12 ++ (X2 ++ []))))) rfl ?_
      refine rl_appendO ([] : Pcs) X1 X15 (met_none rfl) Tryd.underlying49 tS60 tZ60 rfl tB60 Tryd.underlying49 rfl rfl o1 o16 (ones_of rfl) (by rw [pies_length]; simp only [List.length_cons, List.length_nil]; omega) (by decide) fun v17 X18 o19 => ?_
      refine rl_det (met_none rfl) (fun h_ H_ => exd_assign (v := v17) rfl) rfl ?_
      refine rl_end ?_
      refine fl_seq ?_
      refine rl_start ?_
      refine rl_det (met_none rfl) (fun h_ H_ => exd_move (v := w2) rfl) (tm' := [_,_,_,_,_,_,_,_,_,_,_,_,_,_,_,_,_,_,_,_,_,_,_,_,_,_,_,_,_,_,_,_,_,_,_,_,_,_,_,_,_,_,_,_,_,_,_,_,_,_,_,_,_,_,_,_,_,_,_,_,_]) rfl ?_
      refine rl_det (met_none rfl) (fun h_ H_ => exd_move (v := sv (((s.drop m).take (lp ph (s.drop m))) ++ ([UInt8.ofNat ((((s.getD (m + (((s.drop m).take (lp ph (s.drop m))).length)) 0).toNat : Nat) : Int)).toNat]))) rfl) rfl ?_
      refine rl_buildO ([] : Pcs) (met_none rfl) Tryd.underlying22 tS9 tZ9 (Nat.le_of_ble_eq_true rfl) (vs := [(0, sv (((s.drop m).take (lp ph (s.drop m))) ++ ([UInt8.ofNat ((((s.getD (m + (((s.drop m).take (lp ph (s.drop m))).length)) 0).toNat : Nat) : Int)).toNat])))]) rfl rfl (es := [[sv (((s.drop m).take (lp ph (s.drop m))) ++ ([UInt8.ofNat ((((s.getD (m + (((s.drop m).take (lp ph (s.drop m))).length)) 0).toNat : Nat) : Int)).toNat]))]]) rfl rfl rfl fun v20 X21 o22 => ?_
      refine rl_perm (List.Perm.append_left _ (List.Perm.append_left _ (List.Perm.append_left _ (List.perm_append_comm_assoc _ _ _)))) ?_
      refine rl_perm (List.Perm.append_left _ (List.Perm.append_left _ (List.perm_append_comm_assoc _ _ _))) ?_
      refine rl_perm (List.Perm.append_left _ (List.perm_append_comm_assoc _ _ _)) ?_
      refine rl_own (L' := ([] : Pcs) ++ (X2 ++ (X21 ++ (X18 ++ (X12 ++ []))))) rfl ?_
      refine rl_appendO ([] : Pcs) X2 X21 (met_none rfl) Tryd.underlying22 tS9 tZ9 rfl tB9 Tryd.underlying22 rfl rfl o2 o22 (ones_of rfl) (by rw [scs_length]; simp only [List.length_cons, List.length_nil]; omega) (by decide) fun v23 X24 o25 => ?_
      refine rl_norm (tm' := [_,_,_,_,_,_,_,_,_,_,_,_,_,_,_,_,_,_,_,_,_,_,_,_,_,_,_,_,_,_,_,_,_,_,_,_,_,_,_,_,_,_,_,_,_,_,_,_,_,_,_,_,_,_,_,_,_,_,_,_,_]) rfl ?_
      refine rl_det (met_none rfl) (fun h_ H_ => exd_assign (v := v23) rfl) rfl ?_
      refine rl_end ?_
      refine rl_start ?_
      refine rl_det (met_none rfl) (fun h_ H_ => exd_move (v := .int .i64 (((m : Nat) : Int))) rfl) rfl ?_
      refine rl_det (met_none rfl) (fun h_ H_ => exd_move (v := sv (((s.drop m).take (lp ph (s.drop m))) ++ ([UInt8.ofNat ((((s.getD (m + (((s.drop m).take (lp ph (s.drop m))).length)) 0).toNat : Nat) : Int)).toNat]))) rfl) (tm' := [_,_,_,_,_,_,_,_,_,_,_,_,_,_,_,_,_,_,_,_,_,_,_,_,_,_,_,_,_,_,_,_,_,_,_,_,_,_,_,_,_,_,_,_,_,_,_,_,_,_,_,_,_,_,_,_,_,_,_,_,_]) rfl ?_
      refine rl_det (met_none rfl) (fun h_ H_ => exd_lenS (l := ((s.drop m).take (lp ph (s.drop m))) ++ ([UInt8.ofNat ((((s.getD (m + (((s.drop m).take (lp ph (s.drop m))).length)) 0).toNat : Nat) : Int)).toNat])) Tryd.underlying9 rfl) rfl ?_
      refine rl_det (met_none rfl) (fun h_ H_ => exd_add rfl rfl (n := ((m + ((((s.drop m).take (lp ph (s.drop m))) ++ ([UInt8.ofNat ((((s.getD (m + (((s.drop m).take (lp ph (s.drop m))).length)) 0).toNat : Nat) : Int)).toNat])).length) : Nat) : Int)) (wr (by omega))) rfl ?_
      refine rl_det (met_none rfl) (fun h_ H_ => exd_assign (v := .int .i64 (((m + ((((s.drop m).take (lp ph (s.drop m))) ++ ([UInt8.ofNat ((((s.getD (m + (((s.drop m).take (lp ph (s.drop m))).length)) 0).toNat : Nat) : Int)).toNat])).length) : Nat) : Int))) rfl) (tm' := _::_::_::_::_::_::_) rfl ?_
      refine rl_end ?_
      refine fl_inBlock ?_
      refine rs_perm (List.Perm.append_left _ (List.perm_append_comm_assoc _ _ _)) ?_
      refine rs_own (L' := ([] : Pcs) ++ (X18 ++ (X24 ++ (X12 ++ [])))) rfl ?_
      exact fun h_ H_ => IH5 _ _ (by omega) h_ ⟨(m + (((s.drop m).take (lp ph (s.drop m))) ++ ([UInt8.ofNat ((((s.getD (m + (((s.drop m).take (lp ph (s.drop m))).length)) 0).toNat : Nat) : Int)).toNat])).length), (ph ++ [(((s.drop m).take (lp ph (s.drop m))) ++ ([UInt8.ofNat ((((s.getD (m + (((s.drop m).take (lp ph (s.drop m))).length)) 0).toNat : Nat) : Int)).toNat]))]), (out ++ [(((ph.idxOf ((s.drop m).take (lp ph (s.drop m))) : Nat) : Int), (((s.getD (m + (((s.drop m).take (lp ph (s.drop m))).length)) 0).toNat : Nat) : Int))]), (ea ++ [(((s.drop m).take (lp ph (s.drop m))) ++ ([UInt8.ofNat ((((s.getD (m + (((s.drop m).take (lp ph (s.drop m))).length)) 0).toNat : Nat) : Int)).toNat]))]), v17, X18, v23, X24, v11, X12, rfl, (y_of rfl), ⟨by omega, hs_.2.2.1, by rw [List.append_assoc, List.singleton_append, ← hs_.1]; exact hE, by rw [List.append_assoc, List.singleton_append, ← hs_.2.1]; exact hA, by rw [List.length_append, List.length_singleton]; omega, by rw [List.length_append, List.length_singleton]; omega, by rw [List.length_append, List.length_singleton]; omega⟩, (o19.as (pies_snoc out (((ph.idxOf ((s.drop m).take (lp ph (s.drop m))) : Nat) : Int), (((s.getD (m + (((s.drop m).take (lp ph (s.drop m))).length)) 0).toNat : Nat) : Int)))), (o25.as (scs_snoc _ _)), (o13.as (scs_snoc _ _)), H_⟩
    · refine fl_else rfl (decide_eq_false cc7) ?_
      refine fl_skip ?_
      refine fl_seq ?_
      have hs_ := step_last (s := s) (m := m) (ph := ph) (by omega) (by omega)
      have hlp := lp_le ph (s.drop m)
      rw [List.length_drop] at hlp
      have hT_ := hs_.2.2
      have hlt_ := lp_take (s := s) (m := m) (ph := ph)
      refine rl_start ?_
      refine rl_det (met_none rfl) (fun h_ H_ => exd_move (v := w1) rfl) rfl ?_
      refine rl_det (met_none rfl) (fun h_ H_ => exd_move (v := .int .i64 (((ph.idxOf ((s.drop m).take (lp ph (s.drop m))) : Nat) : Int))) rfl) rfl ?_
      refine rl_det (met_none rfl) (fun h_ H_ => exd_move (v := .int .i64 (-1)) rfl) (tm' := [_,_,_,_,_,_,_,_,_,_,_,_,_,_,_,_,_,_,_,_,_,_,_,_,_,_,_,_,_,_,_,_,_,_,_,_,_,_,_,_,_,_,_,_,_,_,_,_,_,_,_,_,_,_,_,_,_,_,_,_,_]) rfl ?_
      refine rl_det (met_none rfl) (fun h_ H_ => exd_build tZ60 tP60 (vs := [(0, .int .i64 (((ph.idxOf ((s.drop m).take (lp ph (s.drop m))) : Nat) : Int))), (1, .int .i64 (-1))]) rfl (cells := #[.int .i64 (((ph.idxOf ((s.drop m).take (lp ph (s.drop m))) : Nat) : Int)), .int .i64 (-1)]) rfl) rfl ?_
      refine rl_buildO ([] : Pcs) (met_none rfl) Tryd.underlying49 tS60 tZ60 (Nat.le_of_ble_eq_true rfl) (vs := [(0, .agg #[.int .i64 (((ph.idxOf ((s.drop m).take (lp ph (s.drop m))) : Nat) : Int)), .int .i64 (-1)])]) rfl rfl (es := [[.int .i64 (((ph.idxOf ((s.drop m).take (lp ph (s.drop m))) : Nat) : Int)), .int .i64 (-1)]]) rfl rfl rfl fun v26 X27 o28 => ?_
      refine rl_perm (List.Perm.append_left _ (List.perm_append_comm_assoc _ _ _)) ?_
      refine rl_own (L' := ([] : Pcs) ++ (X1 ++ (X27 ++ (X2 ++ (X3 ++ []))))) rfl ?_
      refine rl_appendO ([] : Pcs) X1 X27 (met_none rfl) Tryd.underlying49 tS60 tZ60 rfl tB60 Tryd.underlying49 rfl rfl o1 o28 (ones_of rfl) (by rw [pies_length]; simp only [List.length_cons, List.length_nil]; omega) (by decide) fun v29 X30 o31 => ?_
      refine rl_norm (tm' := [_,_,_,_,_,_,_,_,_,_,_,_,_,_,_,_,_,_,_,_,_,_,_,_,_,_,_,_,_,_,_,_,_,_,_,_,_,_,_,_,_,_,_,_,_,_,_,_,_,_,_,_,_,_,_,_,_,_,_,_,_]) rfl ?_
      refine rl_det (met_none rfl) (fun h_ H_ => exd_assign (v := v29) rfl) rfl ?_
      refine rl_end ?_
      refine fl_seq ?_
      refine rl_start ?_
      refine rl_det (met_none rfl) (fun h_ H_ => exd_move (v := w2) rfl) rfl ?_
      refine rl_det (met_none rfl) (fun h_ H_ => exd_move (v := sv ((s.drop m).take (lp ph (s.drop m)))) rfl) (tm' := [_,_,_,_,_,_,_,_,_,_,_,_,_,_,_,_,_,_,_,_,_,_,_,_,_,_,_,_,_,_,_,_,_,_,_,_,_,_,_,_,_,_,_,_,_,_,_,_,_,_,_,_,_,_,_,_,_,_,_,_,_]) rfl ?_
      refine rl_buildO ([] : Pcs) (met_none rfl) Tryd.underlying22 tS9 tZ9 (Nat.le_of_ble_eq_true rfl) (vs := [(0, sv ((s.drop m).take (lp ph (s.drop m))))]) rfl rfl (es := [[sv ((s.drop m).take (lp ph (s.drop m)))]]) rfl rfl rfl fun v32 X33 o34 => ?_
      refine rl_perm (List.Perm.append_left _ (List.Perm.append_left _ (List.perm_append_comm_assoc _ _ _))) ?_
      refine rl_perm (List.Perm.append_left _ (List.perm_append_comm_assoc _ _ _)) ?_
      refine rl_own (L' := ([] : Pcs) ++ (X2 ++ (X33 ++ (X30 ++ (X3 ++ []))))) rfl ?_
      refine rl_appendO ([] : Pcs) X2 X33 (met_none rfl) Tryd.underlying22 tS9 tZ9 rfl tB9 Tryd.underlying22 rfl rfl o2 o34 (ones_of rfl) (by rw [scs_length]; simp only [List.length_cons, List.length_nil]; omega) (by decide) fun v35 X36 o37 => ?_
      refine rl_det (met_none rfl) (fun h_ H_ => exd_assign (v := v35) rfl) (tm' := _::_::_::_::_) rfl ?_
      refine rl_end ?_
      refine rl_start ?_
      refine rl_det (met_none rfl) (fun h_ H_ => exd_move (v := .int .i64 (((m : Nat) : Int))) rfl) rfl ?_
      refine rl_det (met_none rfl) (fun h_ H_ => exd_move (v := sv ((s.drop m).take (lp ph (s.drop m)))) rfl) rfl ?_
      refine rl_det (met_none rfl) (fun h_ H_ => exd_lenS (l := (s.drop m).take (lp ph (s.drop m))) Tryd.underlying9 rfl) (tm' := [_,_,_,_,_,_,_,_,_,_,_,_,_,_,_,_,_,_,_,_,_,_,_,_,_,_,_,_,_,_,_,_,_,_,_,_,_,_,_,_,_,_,_,_,_,_,_,_,_,_,_,_,_,_,_,_,_,_,_,_,_]) rfl ?_
      refine rl_det (met_none rfl) (fun h_ H_ => exd_add rfl rfl (n := ((m + (((s.drop m).take (lp ph (s.drop m))).length) : Nat) : Int)) (wr (by omega))) rfl ?_
      refine rl_det (met_none rfl) (fun h_ H_ => exd_assign (v := .int .i64 (((m + (((s.drop m).take (lp ph (s.drop m))).length) : Nat) : Int))) rfl) rfl ?_
      refine rl_end ?_
      refine fl_inBlock ?_
      refine rs_perm (List.Perm.append_left _ (List.perm_append_comm_assoc _ _ _)) ?_
      refine rs_own (L' := ([] : Pcs) ++ (X30 ++ (X36 ++ (X3 ++ [])))) rfl ?_
      exact fun h_ H_ => IH5 _ _ (by omega) h_ ⟨(m + ((s.drop m).take (lp ph (s.drop m))).length), ph, (out ++ [(((ph.idxOf ((s.drop m).take (lp ph (s.drop m))) : Nat) : Int), (-1))]), (ea ++ [((s.drop m).take (lp ph (s.drop m)))]), v29, X30, v35, X36, w3, X3, rfl, (y_of rfl), ⟨by omega, hP, by rw [List.append_assoc, List.singleton_append, ← hs_.1]; exact hE, by rw [List.append_assoc, List.singleton_append, ← hs_.2.1]; exact hA, by omega, by rw [List.length_append, List.length_singleton]; omega, by rw [List.length_append, List.length_singleton]; omega⟩, (o31.as (pies_snoc out (((ph.idxOf ((s.drop m).take (lp ph (s.drop m))) : Nat) : Int), (-1)))), (o37.as (scs_snoc _ _)), o3, H_⟩
  · refine fl_else rfl (decide_eq_false cc6) ?_
    refine fl_exit rfl ?_
    refine fl_seq ?_
    refine rl_start ?_
    refine rl_det (met_none rfl) (fun h_ H_ => exd_move (v := w1) rfl) (tm' := [_,_,_,_,_,_,_,_,_,_,_,_,_,_,_,_,_,_,_,_,_,_,_,_,_,_,_,_,_,_,_,_,_,_,_,_,_,_,_,_,_,_,_,_,_,_,_,_,_,_,_,_,_,_,_,_,_,_,_,_,_]) rfl ?_
    refine rl_det (met_none rfl) (fun h_ H_ => exd_move (v := w2) rfl) rfl ?_
    refine rl_det (met_none rfl) (fun h_ H_ => exd_assign (v := w1) rfl) rfl ?_
    refine rl_det (met_none rfl) (fun h_ H_ => exd_assign (v := w2) rfl) (tm' := _::_::_::_::_) rfl ?_
    refine rl_end ?_
    refine fl_ret Tryd.func60 rfl (vs := [w1, w2]) (fun h_ H_ => ⟨w1, _, rfl, rfl, ⟨w2, _, rfl, rfl, rfl⟩⟩) (v := .tuple #[w1, w2]) rfl ?_
    have hd : s.drop m = [] := List.drop_of_length_le (by omega)
    rw [hd, encS_nil, List.append_nil] at hE
    rw [hd, eachS_nil, List.append_nil] at hA
    exact fun h_ H_ => K _ _ ⟨_, _, _, _, rfl, o1.as (by rw [hE]), o2.as (by rw [hA]), (H_.sub (List.Sublist.append_left (List.Sublist.append_left (List.sublist_append_right X3 []) X2) X1 : (X1 ++ (X2 ++ [])).Sublist _)).new⟩
theorem c32 (md : Md) (h : Heap) (l : By) (hl : l.length ≤ 4096) : CallsX Tryd.prog md 32 #[sv l] h fun v h' => v = sv (sealB l) ∧ Keep h h' := by
  refine calls_intro (Φ := fun h_ => St h [] (fun _ => none) h_ []) Tryd.func32 rfl (tm := [_, _, _, _, _, _, _, _, _]) rfl ?_ (St.start h _ (fun _ _ e => by cases e))
  intro c₀ cs Stop K
  refine fl_seq ?_
  refine rl_start ?_
  refine rl_det (met_none rfl) (fun h_ H_ => exd_assign (v := sv ([] : List UInt8)) rfl) rfl ?_
  refine rl_end ?_
  refine fl_seq ?_
  refine rl_start ?_
  refine rl_det (met_none rfl) (fun h_ H_ => exd_move (v := sv l) rfl) rfl ?_
  refine rl_det (met_none rfl) (fun h_ H_ => exd_catS (l := l) (m := ([61] : List UInt8)) rfl rfl (by first | (simp only [List.length_singleton]; omega) | (simp only [List.length_append, four, List.length_cons, List.length_nil]; omega))) (tm' := _::_::_::_::_::_) rfl ?_
  refine rl_det (met_none rfl) (fun h_ H_ => exd_move (v := sv l) rfl) rfl ?_
  refine rl_calld (met_none rfl) (first := []) (cap := []) rfl rfl fC35 (fun h_ H_ => c35 md _ l (by omega)) rfl ?_
  refine rl_calld (met_none rfl) (first := []) (cap := []) rfl rfl fC65 (fun h_ H_ => c65 md _ (total l % 9973) (by omega)) (tm' := [_,_,_,_,_,_,_,_,_]) rfl ?_
  refine rl_det (met_none rfl) (fun h_ H_ => exd_catS (l := l ++ ([61] : List UInt8)) (m := four (total l % 9973)) rfl rfl (by first | (simp only [List.length_singleton]; omega) | (simp only [List.length_append, four, List.length_cons, List.length_nil]; omega))) rfl ?_
  refine rl_det (met_none rfl) (fun h_ H_ => exd_assign (v := sv ((l ++ ([61] : List UInt8)) ++ (four (total l % 9973)))) rfl) rfl ?_
  refine rl_end ?_
  refine fl_ret Tryd.func32 rfl (vs := [sv ((l ++ ([61] : List UInt8)) ++ (four (total l % 9973)))]) (fun h_ H_ => ⟨sv ((l ++ ([61] : List UInt8)) ++ (four (total l % 9973))), _, rfl, rfl, rfl⟩) (v := sv ((l ++ ([61] : List UInt8)) ++ (four (total l % 9973)))) rfl ?_
  exact fun h_ H_ => K _ _ ⟨by simp [sealB], H_.kept⟩
theorem c83 (md : Md) (h : Heap) (p : PHeap) (hp : Per p h) (a : Option Addr) (n c : Nat) (xs : List Pie) (D : Pies p a n xs) (hn : n ≤ 1000) (hx : ∀ x ∈ xs, 0 ≤ x.1 ∧ x.1 ≤ 1000 ∧ -1 ≤ x.2 ∧ x.2 ≤ 255) : CallsX Tryd.prog md 83 #[.slice a n c] h fun v h' => v = sv (sealB (filP xs)) ∧ Keep h h' := by
  refine calls_intro (Φ := fun h_ => St h [] p h_ []) Tryd.func83 rfl (tm := [_, _, _, _, _, _, _, _, _, _, _, _, _, _, _, _, _, _, _, _, _, _, _, _, _, _, _, _, _, _, _, _, _, _, _, _, _, _, _, _, _]) rfl ?_ (St.start h _ hp)
  intro c₀ cs Stop K
  have hl := D.len
  refine fl_seq ?_
  refine rl_start ?_
  refine rl_det (met_none rfl) (fun h_ H_ => exd_assign (v := sv ([] : List UInt8)) rfl) (tm' := _::_::_::_) rfl ?_
  refine rl_end ?_
  refine fl_seq ?_
  refine rl_start ?_
  refine rl_det (met_none rfl) (fun h_ H_ => exd_assign (v := sv ([] : List UInt8)) rfl) rfl ?_
  refine rl_end ?_
  refine fl_seq ?_
  refine fl_seq ?_
  refine rl_start ?_
  refine rl_det (met_none rfl) (fun h_ H_ => exd_assign (v := .int .i64 0) rfl) rfl ?_
  refine rl_end ?_
  refine fl_block ?_
  refine fl_loop (m₀ := n - 0) (fun m_ tm_ h_ => ∃ (k : Nat) (out : By), m_ = n - k ∧ (∃ y1 : Nat → Value, tm_ = [.slice a n c, undef, sv ([] : List UInt8), sv out, .int .i64 (((k : Nat) : Int)), (y1 5), (y1 6), (y1 7), (y1 8), (y1 9), (y1 10), (y1 11), (y1 12), (y1 13), (y1 14), (y1 15), (y1 16), (y1 17), (y1 18), (y1 19), (y1 20), (y1 21), (y1 22), (y1 23), (y1 24), (y1 25), (y1 26), (y1 27), (y1 28), (y1 29), (y1 30), (y1 31), (y1 32), (y1 33), (y1 34), (y1 35), (y1 36), (y1 37), (y1 38), undef, undef]) ∧ (k ≤ n) ∧ (out = filP (xs.take k)) ∧ St h [] p h_ ([])) (fun h_ H_ => ⟨0, [], rfl, (y_of rfl), Nat.zero_le _, rfl, H_⟩) ?_
  intro m_ tm_ IH2
  refine rs_ex fun k => rs_ex fun out => rs_and fun hm_ => rs_and fun ht_ => rs_and fun hk => rs_and fun hfo => ?_
  subst hm_; obtain ⟨y1, ht_⟩ := ht_; subst ht_
  refine fl_seq ?_
  refine fl_seq ?_
  refine rl_start ?_
  refine rl_det (met_none rfl) (fun h_ H_ => exd_move (v := .int .i64 (((k : Nat) : Int))) rfl) (tm' := _::_::_::_::_::_::_) rfl ?_
  refine rl_det (met_none rfl) (fun h_ H_ => exd_move (v := .slice a n c) rfl) rfl ?_
  refine rl_det (met_none rfl) (fun h_ H_ => exd_len Tryd.underlying49 rfl) rfl ?_
  refine rl_det (met_none rfl) (fun h_ H_ => exd_lss rfl rfl) (tm' := _::_::_::_::_::_::_::_::_::_) rfl ?_
  refine rl_end ?_
  by_cases cc3 : ((k : Nat) : Int) < ((n : Nat) : Int)
  · refine fl_then rfl (decide_eq_true cc3) ?_
    refine fl_skip ?_
    refine fl_seq ?_
    refine fl_block ?_
    refine fl_seq ?_
    have hxk := hx _ (gmem (d := pz) (show k < xs.length by omega))
    have hk2_ : k < xs.length := by omega
    have hfl := filP_len (xs.take k)
    have hft : (xs.take k).length ≤ k := by rw [List.length_take]; omega
    refine rl_start ?_
    refine rl_det (met_none rfl) (fun h_ H_ => exd_move (v := sv out) rfl) rfl ?_
    refine rl_det (met_none rfl) (fun h_ H_ => exd_move (v := .slice a n c) rfl) rfl ?_
    refine rl_det (met_none rfl) (fun h_ H_ => exd_move (v := .int .i64 (((k : Nat) : Int))) rfl) (tm' := _::_::_::_::_::_::_::_::_::_::_::_::_::_::_) rfl ?_
    refine rl_det (met_none rfl) (fun h_ H_ => exd_indexAddrN (i := k) Tryd.underlying49 tS60 (sl_ne a n c (D.ne (by omega))) rfl (by omega)) rfl ?_
    refine rl_det (met_none rfl) (fun h_ H_ => exd_fieldAddr tF60_0 rfl (a' := (adr a).add (k * 2)) rfl) rfl ?_
    refine rl_det (met_none rfl) (fun h_ H_ => exd_load_per H_ tA3 rfl (v := .int .i64 ((xs.getD k pz).1)) (D.ph (by omega))) (tm' := _::_::_::_::_::_::_::_::_::_::_::_::_::_::_::_::_::_) rfl ?_
    refine rl_calld (met_none rfl) (first := []) (cap := []) rfl rfl fC98 (fun h_ H_ => c98 md _ ((xs.getD k pz).1) (by omega) (by omega)) rfl ?_
    refine rl_det (met_none rfl) (fun h_ H_ => exd_catS (l := out) (m := two ((xs.getD k pz).1)) rfl rfl (by rw [hfo, two_len]; omega)) rfl ?_
    refine rl_det (met_none rfl) (fun h_ H_ => exd_assign (v := sv (out ++ (two ((xs.getD k pz).1)))) rfl) (tm' := _::_::_::_::_) rfl ?_
    refine rl_end ?_
    refine fl_seq ?_
    refine rl_start ?_
    refine rl_det (met_none rfl) (fun h_ H_ => exd_move (v := .slice a n c) rfl) rfl ?_
    refine rl_det (met_none rfl) (fun h_ H_ => exd_move (v := .int .i64 (((k : Nat) : Int))) rfl) rfl ?_
    refine rl_det (met_none rfl) (fun h_ H_ => exd_indexAddrN (i := k) Tryd.underlying49 tS60 (sl_ne a n c (D.ne (by omega))) rfl (by omega)) (tm' := _::_::_::_::_::_::_::_::_::_::_::_::_::_::_::_::_::_::_::_::_::_::_) rfl ?_
    refine rl_det (met_none rfl) (fun h_ H_ => exd_fieldAddr tF60_1 rfl (a' := ((adr a).add (k * 2)).add 1) rfl) rfl ?_
    refine rl_det (met_none rfl) (fun h_ H_ => exd_load_per H_ tA3 rfl (v := .int .i64 ((xs.getD k pz).2)) (D.by (by omega))) rfl ?_
    refine rl_end ?_
    refine fl_block ?_
    refine fl_seq ?_
    refine rl_start ?_
    refine rl_det (met_none rfl) (fun h_ H_ => exd_eql rfl rfl) (tm' := [_,_,_,_,_,_,_,_,_,_,_,_,_,_,_,_,_,_,_,_,_,_,_,_,_,_,_,_,_,_,_,_,_,_,_,_,_,_,_,_,_]) rfl ?_
    refine rl_det (met_none rfl) (fun h_ H_ => exd_assign (v := .bool (decide ((xs.getD k pz).2 = (-1)))) rfl) rfl ?_
    refine rl_end ?_
    by_cases cc4 : (xs.getD k pz).2 = (-1)
    · refine fl_then rfl (decide_eq_true cc4) ?_
      refine fl_skip ?_
      refine fl_inBlock ?_
      refine fl_inBlock ?_
      refine rl_start ?_
      refine rl_det (met_none rfl) (fun h_ H_ => exd_move (v := .int .i64 (((k : Nat) : Int))) rfl) rfl ?_
      refine rl_det (met_none rfl) (fun h_ H_ => exd_add rfl rfl (n := ((k + 1 : Nat) : Int)) (wr (by omega))) (tm' := _::_::_::_::_::_::_::_::_::_::_::_) rfl ?_
      refine rl_det (met_none rfl) (fun h_ H_ => exd_assign (v := .int .i64 (((k + 1 : Nat) : Int))) rfl) rfl ?_
      refine rl_end ?_
      exact fun h_ H_ => IH2 _ _ (by omega) h_ ⟨k + 1, (out ++ (two ((xs.getD k pz).1))), rfl, (y_of rfl), (by omega), (by rw [out_none hk2_ ‹_›, hfo]), H_⟩
    · refine fl_else rfl (decide_eq_false cc4) ?_
      refine fl_seq ?_
      refine rl_start ?_
      refine rl_det (met_none rfl) (fun h_ H_ => exd_eql rfl rfl) rfl ?_
      refine rl_det (met_none rfl) (fun h_ H_ => exd_assign (v := .bool (decide ((xs.getD k pz).2 = 10))) rfl) (tm' := [_,_,_,_,_,_,_,_,_,_,_,_,_,_,_,_,_,_,_,_,_,_,_,_,_,_,_,_,_,_,_,_,_,_,_,_,_,_,_,_,_]) rfl ?_
      refine rl_end ?_
      by_cases cc5 : (xs.getD k pz).2 = 10
      · refine fl_then rfl (decide_eq_true cc5) ?_
        refine rl_start ?_
        refine rl_det (met_none rfl) (fun h_ H_ => exd_move (v := sv (out ++ (two ((xs.getD k pz).1)))) rfl) rfl ?_
        refine rl_calld (met_none rfl) (first := []) (cap := []) rfl rfl fC64 (fun h_ H_ => c64 md _ (126 : Int) (by omega) (by omega)) rfl ?_
        refine rl_det (met_none rfl) (fun h_ H_ => exd_catS (l := out ++ (two ((xs.getD k pz).1))) (m := [UInt8.ofNat ((126 : Int)).toNat]) rfl rfl (by rw [List.length_append, hfo, two_len]; simp only [List.length_singleton]; omega)) (tm' := [_,_,_,_,_,_,_,_,_,_,_,_,_,_,_,_,_,_,_,_,_,_,_,_,_,_,_,_,_,_,_,_,_,_,_,_,_,_,_,_,_]) rfl ?_
        refine rl_det (met_none rfl) (fun h_ H_ => exd_assign (v := sv ((out ++ (two ((xs.getD k pz).1))) ++ ([UInt8.ofNat ((126 : Int)).toNat]))) rfl) rfl ?_
        refine rl_end ?_
        refine fl_inBlock ?_
        refine fl_inBlock ?_
        refine rl_start ?_
        refine rl_det (met_none rfl) (fun h_ H_ => exd_move (v := .int .i64 (((k : Nat) : Int))) rfl) rfl ?_
        refine rl_det (met_none rfl) (fun h_ H_ => exd_add rfl rfl (n := ((k + 1 : Nat) : Int)) (wr (by omega))) (tm' := _::_::_::_::_::_::_::_::_::_::_::_) rfl ?_
        refine rl_det (met_none rfl) (fun h_ H_ => exd_assign (v := .int .i64 (((k + 1 : Nat) : Int))) rfl) rfl ?_
        refine rl_end ?_
        exact fun h_ H_ => IH2 _ _ (by omega) h_ ⟨k + 1, ((out ++ (two ((xs.getD k pz).1))) ++ ([UInt8.ofNat ((126 : Int)).toNat])), rfl, (y_of rfl), (by omega), (by rw [out_feed hk2_ ‹_›, hfo]), H_⟩
      · refine fl_else rfl (decide_eq_false cc5) ?_
        refine rl_start ?_
        refine rl_det (met_none rfl) (fun h_ H_ => exd_move (v := sv (out ++ (two ((xs.getD k pz).1)))) rfl) rfl ?_
        refine rl_det (met_none rfl) (fun h_ H_ => exd_move (v := .slice a n c) rfl) (tm' := _::_::_::_::_::_::_::_::_::_::_::_::_::_::_::_::_::_::_::_::_::_::_::_::_::_::_) rfl ?_
        refine rl_det (met_none rfl) (fun h_ H_ => exd_move (v := .int .i64 (((k : Nat) : Int))) rfl) rfl ?_
        refine rl_det (met_none rfl) (fun h_ H_ => exd_indexAddrN (i := k) Tryd.underlying49 tS60 (sl_ne a n c (D.ne (by omega))) rfl (by omega)) rfl ?_
        refine rl_det (met_none rfl) (fun h_ H_ => exd_fieldAddr tF60_1 rfl (a' := ((adr a).add (k * 2)).add 1) rfl) (tm' := [_,_,_,_,_,_,_,_,_,_,_,_,_,_,_,_,_,_,_,_,_,_,_,_,_,_,_,_,_,_,_,_,_,_,_,_,_,_,_,_,_]) rfl ?_
        refine rl_det (met_none rfl) (fun h_ H_ => exd_load_per H_ tA3 rfl (v := .int .i64 ((xs.getD k pz).2)) (D.by (by omega))) rfl ?_
        refine rl_calld (met_none rfl) (first := []) (cap := []) rfl rfl fC64 (fun h_ H_ => c64 md _ ((xs.getD k pz).2) (by omega) (by omega)) rfl ?_
        refine rl_det (met_none rfl) (fun h_ H_ => exd_catS (l := out ++ (two ((xs.getD k pz).1))) (m := [UInt8.ofNat ((xs.getD k pz).2).toNat]) rfl rfl (by rw [List.length_append, hfo, two_len]; simp only [List.length_singleton]; omega)) (tm' := [_,_,_,_,_,_,_,_,_,_,_,_,_,_,_,_,_,_,_,_,_,_,_,_,_,_,_,_,_,_,_,_,_,_,_,_,_,_,_,_,_]) rfl ?_
        refine rl_det (met_none rfl) (fun h_ H_ => exd_assign (v := sv ((out ++ (two ((xs.getD k pz).1))) ++ ([UInt8.ofNat ((xs.getD k pz).2).toNat]))) rfl) rfl ?_
        refine rl_end ?_
        refine fl_inBlock ?_
        refine fl_inBlock ?_
        refine rl_start ?_
        refine rl_det (met_none rfl) (fun h_ H_ => exd_move (v := .int .i64 (((k : Nat) : Int))) rfl) rfl ?_
        refine rl_det (met_none rfl) (fun h_ H_ => exd_add rfl rfl (n := ((k + 1 : Nat) : Int)) (wr (by omega))) (tm' := _::_::_::_::_::_::_::_::_::_::_::_) rfl ?_
        refine rl_det (met_none rfl) (fun h_ H_ => exd_assign (v := .int .i64 (((k + 1 : Nat) : Int))) rfl) rfl ?_
        refine rl_end ?_
        exact fun h_ H_ => IH2 _ _ (by omega) h_ ⟨k + 1, ((out ++ (two ((xs.getD k pz).1))) ++ ([UInt8.ofNat ((xs.getD k pz).2).toNat])), rfl, (y_of rfl), (by omega), (by rw [out_byte hk2_ ‹_› ‹_›, hfo]), H_⟩
  · refine fl_else rfl (decide_eq_false cc3) ?_
    refine fl_exit rfl ?_
    refine fl_seq ?_
    refine rl_start ?_
    refine rl_det (met_none rfl) (fun h_ H_ => exd_move (v := sv out) rfl) rfl ?_
    refine rl_calld (met_none rfl) (first := []) (cap := []) rfl rfl fC32 (fun h_ H_ => c32 md _ out (by have hfl := filP_len (xs.take k); have hft : (xs.take k).length ≤ k := (by rw [List.length_take]; omega); rw [hfo]; omega)) (tm' := [_,_,_,_,_,_,_,_,_,_,_,_,_,_,_,_,_,_,_,_,_,_,_,_,_,_,_,_,_,_,_,_,_,_,_,_,_,_,_,_,_]) rfl ?_
    refine rl_det (met_none rfl) (fun h_ H_ => exd_assign (v := sv (sealB out)) rfl) rfl ?_
    refine rl_end ?_
    refine fl_ret Tryd.func83 rfl (vs := [sv (sealB out)]) (fun h_ H_ => ⟨sv (sealB out), _, rfl, rfl, rfl⟩) (v := sv (sealB out)) rfl ?_
    exact fun h_ H_ => K _ _ ⟨by rw [hfo, List.take_of_length_le (by omega)], H_.kept⟩
theorem c67 (md : Md) (h : Heap) (p : PHeap) (hp : Per p h) (a : Option Addr) (n c : Nat) (ts : List By) (T : Strs p a n ts) (hn : n ≤ 20) (ht : ∀ t ∈ ts, t.length ≤ 40) : CallsX Tryd.prog md 67 #[.slice a n c] h fun v h' => v = sv (fileB ts) ∧ Keep h h' := by
  refine calls_intro (Φ := fun h_ => St h [] p h_ []) Tryd.func67 rfl (tm := [_, _, _, _, _, _, _, _, _, _, _, _, _]) rfl ?_ (St.start h _ hp)
  intro c₀ cs Stop K
  have hl := T.len
  have hws := whole_len (ts := ts) (by omega) ht
  have hw200 : ∀ t ∈ ts, t.length ≤ 200 := fun t z => by have := ht t z; omega
  refine fl_seq ?_
  refine rl_start ?_
  refine rl_det (met_none rfl) (fun h_ H_ => exd_assign (v := sv ([] : List UInt8)) rfl) rfl ?_
  refine rl_end ?_
  refine fl_seq ?_
  refine rl_start ?_
  refine rl_det (met_none rfl) (fun h_ H_ => exd_move (v := .slice a n c) rfl) (tm' := _::_::_::_::_::_::_::_) rfl ?_
  refine rl_calld (met_none rfl) (first := []) (cap := []) rfl rfl fC31 (fun h_ H_ => c31 md _ _ (fun b_ o_ e_ => H_.per b_ o_ e_) a n _ _ T (by omega) hw200) rfl ?_
  refine rl_own (L' := ([] : Pcs) ++ []) rfl ?_
  refine rl_call (met_none rfl) (first := []) (cap := []) rfl rfl fC60 (R := fun v_ h_ => ∃ w1 : Value, ∃ X2 : Pcs, ∃ w3 : Value, ∃ X4 : Pcs, v_ = .tuple #[w1, w3] ∧ (OwnS 60 2 w1 (pies (encS [[]] (wholeB ts))) X2) ∧ (OwnS 9 1 w3 (scs (eachS [[]] (wholeB ts))) X4) ∧ St h [] p h_ (([] : Pcs) ++ ((X2 ++ (X4 ++ [])) ++ []))) (fun h_ H_ => (c60 md _ (wholeB ts) (by omega)).mono fun v_ h2_ ⟨w1, X2, w3, X4, e_, o5, o6, N_⟩ => ⟨w1, X2, w3, X4, e_, o5, o6, H_.callNA N_⟩) fun v_ => ?_
  refine rl_ex fun w1 => rl_ex fun X2 => rl_ex fun w3 => rl_ex fun X4 => rl_and fun ev_ => rl_and fun o5 => rl_and fun o6 => ?_
  have ev_ := ev_.symm; subst ev_
  refine rl_own (L' := ([] : Pcs) ++ (X2 ++ (X4 ++ []))) (by simp) ?_
  refine rl_det (met_none rfl) (fun h_ H_ => exd_move (v := .tuple #[w1, w3]) rfl) (tm' := _::_::_::_::_::_::_) rfl ?_
  refine rl_det (met_none rfl) (fun h_ H_ => exd_extract rfl (v := w1) rfl) rfl ?_
  refine rl_det (met_none rfl) (fun h_ H_ => exd_extract rfl (v := w3) rfl) rfl ?_
  refine rl_det (met_none rfl) (fun h_ H_ => exd_assign (v := w1) rfl) (tm' := _::_::_::_::_) rfl ?_
  refine rl_det (met_none rfl) (fun h_ H_ => exd_assign (v := w3) rfl) rfl ?_
  refine rl_end ?_
  refine fl_seq ?_
  refine rl_start ?_
  refine rl_det (met_none rfl) (fun h_ H_ => exd_move (v := w1) rfl) rfl ?_
  refine rl_calld (met_none rfl) (first := []) (cap := []) rfl rfl fC83 (fun h_ H_ => lend_to (n := (encS [[]] (wholeB ts)).length) o5 (pies_length _) H_ (fun x_ h_ => by simp [h_]) fun p_ a_ c_ hp_ _ hv_ D_ => by rw [hv_]; exact c83 md _ _ hp_ a_ _ c_ _ D_ (Nat.le_trans encS_len (by omega)) (fun x hx => by have := encS_mem hx; omega)) (tm' := [_,_,_,_,_,_,_,_,_,_,_,_,_]) rfl ?_
  refine rl_det (met_none rfl) (fun h_ H_ => exd_assign (v := sv (sealB (filP (encS [[]] (wholeB ts))))) rfl) rfl ?_
  refine rl_end ?_
  refine fl_ret Tryd.func67 rfl (vs := [sv (sealB (filP (encS [[]] (wholeB ts))))]) (fun h_ H_ => ⟨sv (sealB (filP (encS [[]] (wholeB ts)))), _, rfl, rfl, rfl⟩) (v := sv (sealB (filP (encS [[]] (wholeB ts))))) rfl ?_
  exact fun h_ H_ => K _ _ ⟨rfl, H_.kept⟩
end Go.Proofs.YtiinpnlfdeiloaaDoor
namespace Go.Proofs.YtiinpnlfdeiloaaDoor
open Go.X Go.X.Cent Go.Conc
set_option maxRecDepth 10000
set_option synthInstance.maxSize 2000
set_option synthInstance.maxHeartbeats 400000

set_option maxHeartbeats 2000000
theorem c36 (md : Md) (h : Heap) (s : By) (hs0 : s.length ≤ 2 ^ 60) : CallsX Tryd.prog md 36 #[sv s] h fun v h' => v = .tuple #[sv (bodyB s), .bool (decide (bodyOk s))] ∧ Keep h h' := by
  refine calls_intro (Φ := fun h_ => St h [] (fun _ => none) h_ []) Tryd.func36 rfl (tm := [_, _, _, _, _, _, _, _, _, _, _, _, _, _, _, _, _, _, _, _, _, _, _, _, _, _, _, _, _, _, _, _, _, _, _, _, _, _, _, _, _, _, _, _, _, _, _, _, _, _, _, _, _, _, _, _, _, _, _, _, _, _, _, _, _, _, _, _, _, _, _, _, _, _, _, _, _, _, _, _, _, _, _]) rfl ?_ (St.start h _ (fun _ _ e => by cases e))
  intro c₀ cs Stop K
  have e5 : (((s.length : Nat) : Int) - 5).toNat = s.length - 5 := by omega
  refine fl_seq ?_
  refine rl_start ?_
  refine rl_det (met_none rfl) (fun h_ H_ => exd_assign (v := sv ([] : List UInt8)) rfl) rfl ?_
  refine rl_det (met_none rfl) (fun h_ H_ => exd_assign (v := .bool (false)) rfl) rfl ?_
  refine rl_end ?_
  refine fl_seq ?_
  refine rl_start ?_
  refine rl_det (met_none rfl) (fun h_ H_ => exd_move (v := sv s) rfl) (tm' := _::_::_::_::_::_::_::_) rfl ?_
  refine rl_det (met_none rfl) (fun h_ H_ => exd_lenS (l := s) Tryd.underlying9 rfl) rfl ?_
  refine rl_det (met_none rfl) (fun h_ H_ => exd_sub rfl rfl (wr (by omega))) rfl ?_
  refine rl_det (met_none rfl) (fun h_ H_ => exd_assign (v := .int .i64 (((s.length : Nat) : Int) - 5)) rfl) (tm' := _::_::_::_::_::_) rfl ?_
  refine rl_end ?_
  refine fl_seq ?_
  refine fl_seq ?_
  refine rl_start ?_
  refine rl_det (met_none rfl) (fun h_ H_ => exd_move (v := .int .i64 (((s.length : Nat) : Int) - 5)) rfl) rfl ?_
  refine rl_det (met_none rfl) (fun h_ H_ => exd_lss rfl rfl) rfl ?_
  refine rl_det (met_none rfl) (fun h_ H_ => exd_move (v := .bool (decide (((s.length : Nat) : Int) - 5 < 0))) rfl) (tm' := _::_::_::_::_::_::_::_::_::_::_::_::_) rfl ?_
  by_cases cc1 : ((s.length : Nat) : Int) - 5 < 0
  · refine rl_pass (met_not rfl rfl (decide_eq_true cc1)) rfl ?_
    refine rl_pass (met_not rfl rfl (decide_eq_true cc1)) rfl ?_
    refine rl_pass (met_not rfl rfl (decide_eq_true cc1)) (tm' := _::_::_::_::_::_::_::_::_::_::_::_::_::_::_::_) rfl ?_
    refine rl_det (met_none rfl) (fun h_ H_ => exd_pick_t rfl (decide_eq_true cc1) (v := .bool (true)) rfl) rfl ?_
    refine rl_det (met_none rfl) (fun h_ H_ => exd_move (v := .bool (true)) rfl) rfl ?_
    refine rl_pass (met_not rfl rfl rfl) (tm' := _::_::_::_::_::_::_::_::_::_::_::_::_::_::_::_::_::_::_) rfl ?_
    refine rl_pass (met_not rfl rfl rfl) rfl ?_
    refine rl_pass (met_not rfl rfl rfl) rfl ?_
    refine rl_pass (met_not rfl rfl rfl) (tm' := _::_::_::_::_::_::_::_::_::_::_::_::_::_::_::_::_::_::_::_::_::_) rfl ?_
    refine rl_det (met_none rfl) (fun h_ H_ => exd_pick_t rfl rfl (v := .bool (true)) rfl) rfl ?_
    refine rl_det (met_none rfl) (fun h_ H_ => exd_move (v := .bool (true)) rfl) rfl ?_
    refine rl_pass (met_not rfl rfl rfl) (tm' := _::_::_::_::_::_::_::_::_::_::_::_::_::_::_::_::_::_::_::_::_::_::_::_::_) rfl ?_
    refine rl_pass (met_not rfl rfl rfl) rfl ?_
    refine rl_pass (met_not rfl rfl rfl) rfl ?_
    refine rl_det (met_none rfl) (fun h_ H_ => exd_pick_t rfl rfl (v := .bool (true)) rfl) (tm' := _::_::_::_::_::_::_::_::_::_::_::_::_::_::_::_::_::_::_::_::_::_::_::_::_::_::_::_) rfl ?_
    refine rl_end ?_
    refine fl_then rfl rfl ?_
    refine fl_seq ?_
    refine rl_start ?_
    refine rl_det (met_none rfl) (fun h_ H_ => exd_assign (v := sv ([] : List UInt8)) rfl) rfl ?_
    refine rl_det (met_none rfl) (fun h_ H_ => exd_assign (v := .bool (false)) rfl) rfl ?_
    refine rl_end ?_
    refine fl_ret Tryd.func36 rfl (vs := [sv ([] : List UInt8), .bool (false)]) (fun h_ H_ => ⟨sv ([] : List UInt8), _, rfl, rfl, ⟨.bool (false), _, rfl, rfl, rfl⟩⟩) (v := .tuple #[sv ([] : List UInt8), .bool (false)]) rfl ?_
    have hN : ¬ bodyOk s := fun z => by
      obtain ⟨z1, z2, z3, z4, z5⟩ := z
      first | omega | (rw [← e5] at z3; omega) | (have y_ := (z5 k (by omega)).1 (by omega); omega) | (have y_ := (z5 k (by omega)).2.1 (by omega) (by omega); omega) | (have y_ := (z5 k (by omega)).2.2 (by omega) (by omega); omega)
    exact fun h_ H_ => K _ _ ⟨by rw [bodyB, if_neg hN, decide_eq_false hN], H_.kept⟩
  · refine rl_det (met_some rfl rfl (decide_eq_false cc1)) (fun h_ H_ => exd_move (v := sv s) rfl) (tm' := _::_::_::_::_::_::_::_::_::_::_::_::_::_) rfl ?_
    refine rl_det (met_some rfl rfl (decide_eq_false cc1)) (fun h_ H_ => exd_lenS (l := s) Tryd.underlying9 rfl) rfl ?_
    refine rl_det (met_some rfl rfl (decide_eq_false cc1)) (fun h_ H_ => exd_gtr rfl rfl) rfl ?_
    refine rl_det (met_none rfl) (fun h_ H_ => exd_pick_f rfl (decide_eq_false cc1) (v := .bool (decide (1400 < ((s.length : Nat) : Int)))) rfl) (tm' := _::_::_::_::_::_::_::_::_::_::_::_::_::_::_::_::_) rfl ?_
    refine rl_det (met_none rfl) (fun h_ H_ => exd_move (v := .bool (decide (1400 < ((s.length : Nat) : Int)))) rfl) rfl ?_
    by_cases cc2 : 1400 < ((s.length : Nat) : Int)
    · refine rl_pass (met_not rfl rfl (decide_eq_true cc2)) rfl ?_
      refine rl_pass (met_not rfl rfl (decide_eq_true cc2)) (tm' := _::_::_::_::_::_::_::_::_::_::_::_::_::_::_::_::_::_::_::_) rfl ?_
      refine rl_pass (met_not rfl rfl (decide_eq_true cc2)) rfl ?_
      refine rl_pass (met_not rfl rfl (decide_eq_true cc2)) rfl ?_
      refine rl_det (met_none rfl) (fun h_ H_ => exd_pick_t rfl (decide_eq_true cc2) (v := .bool (true)) rfl) (tm' := _::_::_::_::_::_::_::_::_::_::_::_::_::_::_::_::_::_::_::_::_::_::_) rfl ?_
      refine rl_det (met_none rfl) (fun h_ H_ => exd_move (v := .bool (true)) rfl) rfl ?_
      refine rl_pass (met_not rfl rfl rfl) rfl ?_
      refine rl_pass (met_not rfl rfl rfl) (tm' := _::_::_::_::_::_::_::_::_::_::_::_::_::_::_::_::_::_::_::_::_::_::_::_::_::_) rfl ?_
      refine rl_pass (met_not rfl rfl rfl) rfl ?_
      refine rl_det (met_none rfl) (fun h_ H_ => exd_pick_t rfl rfl (v := .bool (true)) rfl) rfl ?_
      refine rl_end ?_
      refine fl_then rfl rfl ?_
      refine fl_seq ?_
      refine rl_start ?_
      refine rl_det (met_none rfl) (fun h_ H_ => exd_assign (v := sv ([] : List UInt8)) rfl) (tm' := _::_::_::_) rfl ?_
      refine rl_det (met_none rfl) (fun h_ H_ => exd_assign (v := .bool (false)) rfl) rfl ?_
      refine rl_end ?_
      refine fl_ret Tryd.func36 rfl (vs := [sv ([] : List UInt8), .bool (false)]) (fun h_ H_ => ⟨sv ([] : List UInt8), _, rfl, rfl, ⟨.bool (false), _, rfl, rfl, rfl⟩⟩) (v := .tuple #[sv ([] : List UInt8), .bool (false)]) rfl ?_
      have hN : ¬ bodyOk s := fun z => by
        obtain ⟨z1, z2, z3, z4, z5⟩ := z
        first | omega | (rw [← e5] at z3; omega) | (have y_ := (z5 k (by omega)).1 (by omega); omega) | (have y_ := (z5 k (by omega)).2.1 (by omega) (by omega); omega) | (have y_ := (z5 k (by omega)).2.2 (by omega) (by omega); omega)
      exact fun h_ H_ => K _ _ ⟨by rw [bodyB, if_neg hN, decide_eq_false hN], H_.kept⟩
    · refine rl_det (met_some rfl rfl (decide_eq_false cc2)) (fun h_ H_ => exd_move (v := sv s) rfl) rfl ?_
      refine rl_det (met_some rfl rfl (decide_eq_false cc2)) (fun h_ H_ => exd_move (v := .int .i64 (((s.length : Nat) : Int) - 5)) rfl) (tm' := _::_::_::_::_::_::_::_::_::_::_::_::_::_::_::_::_::_::_::_) rfl ?_
      refine rl_det (met_some rfl rfl (decide_eq_false cc2)) (fun h_ H_ => exd_indexS (l := s) (i := ((s.length : Nat) : Int) - 5) Tryd.underlying9 rfl rfl (by omega) (by omega)) rfl ?_
      refine rl_det (met_some rfl rfl (decide_eq_false cc2)) (fun h_ H_ => exd_neq rfl rfl) rfl ?_
      refine rl_det (met_none rfl) (fun h_ H_ => exd_pick_f rfl (decide_eq_false cc2) (v := .bool (decide ((((s.getD (((s.length : Nat) : Int) - 5).toNat 0).toNat : Nat) : Int) ≠ 61))) rfl) (tm' := _::_::_::_::_::_::_::_::_::_::_::_::_::_::_::_::_::_::_::_::_::_::_) rfl ?_
      refine rl_det (met_none rfl) (fun h_ H_ => exd_move (v := .bool (decide ((((s.getD (((s.length : Nat) : Int) - 5).toNat 0).toNat : Nat) : Int) ≠ 61))) rfl) rfl ?_
      by_cases cc3 : (((s.getD (((s.length : Nat) : Int) - 5).toNat 0).toNat : Nat) : Int) ≠ 61
      · refine rl_pass (met_not rfl rfl (decide_eq_true cc3)) rfl ?_
        refine rl_pass (met_not rfl rfl (decide_eq_true cc3)) (tm' := _::_::_::_::_::_::_::_::_::_::_::_::_::_::_::_::_::_::_::_::_::_::_::_::_::_) rfl ?_
        refine rl_pass (met_not rfl rfl (decide_eq_true cc3)) rfl ?_
        refine rl_det (met_none rfl) (fun h_ H_ => exd_pick_t rfl (decide_eq_true cc3) (v := .bool (true)) rfl) rfl ?_
        refine rl_end ?_
        refine fl_then rfl rfl ?_
        refine fl_seq ?_
        refine rl_start ?_
        refine rl_det (met_none rfl) (fun h_ H_ => exd_assign (v := sv ([] : List UInt8)) rfl) (tm' := _::_::_::_) rfl ?_
        refine rl_det (met_none rfl) (fun h_ H_ => exd_assign (v := .bool (false)) rfl) rfl ?_
        refine rl_end ?_
        refine fl_ret Tryd.func36 rfl (vs := [sv ([] : List UInt8), .bool (false)]) (fun h_ H_ => ⟨sv ([] : List UInt8), _, rfl, rfl, ⟨.bool (false), _, rfl, rfl, rfl⟩⟩) (v := .tuple #[sv ([] : List UInt8), .bool (false)]) rfl ?_
        have hN : ¬ bodyOk s := fun z => by
          obtain ⟨z1, z2, z3, z4, z5⟩ := z
          first | omega | (rw [← e5] at z3; omega) | (have y_ := (z5 k (by omega)).1 (by omega); omega) | (have y_ := (z5 k (by omega)).2.1 (by omega) (by omega); omega) | (have y_ := (z5 k (by omega)).2.2 (by omega) (by omega); omega)
        exact fun h_ H_ => K _ _ ⟨by rw [bodyB, if_neg hN, decide_eq_false hN], H_.kept⟩
      · refine rl_det (met_some rfl rfl (decide_eq_false cc3)) (fun h_ H_ => exd_move (v := .int .i64 (((s.length : Nat) : Int) - 5)) rfl) rfl ?_
        refine rl_det (met_some rfl rfl (decide_eq_false cc3)) (fun h_ H_ => exd_rem rfl rfl (by decide) (n := (((s.length : Nat) : Int) - 5) % 3) (Int.tmod_eq_emod_of_nonneg (by omega))) (tm' := _::_::_::_::_::_::_::_::_::_::_::_::_::_::_::_::_::_::_::_::_::_::_::_::_::_) rfl ?_
        refine rl_det (met_some rfl rfl (decide_eq_false cc3)) (fun h_ H_ => exd_eql rfl rfl) rfl ?_
        refine rl_det (met_none rfl) (fun h_ H_ => exd_pick_f rfl (decide_eq_false cc3) (v := .bool (decide ((((s.length : Nat) : Int) - 5) % 3 = 1))) rfl) rfl ?_
        refine rl_end ?_
        by_cases cc4 : (((s.length : Nat) : Int) - 5) % 3 = 1
        · refine fl_then rfl (decide_eq_true cc4) ?_
          refine fl_seq ?_
          refine rl_start ?_
          refine rl_det (met_none rfl) (fun h_ H_ => exd_assign (v := sv ([] : List UInt8)) rfl) (tm' := _::_::_::_) rfl ?_
          refine rl_det (met_none rfl) (fun h_ H_ => exd_assign (v := .bool (false)) rfl) rfl ?_
          refine rl_end ?_
          refine fl_ret Tryd.func36 rfl (vs := [sv ([] : List UInt8), .bool (false)]) (fun h_ H_ => ⟨sv ([] : List UInt8), _, rfl, rfl, ⟨.bool (false), _, rfl, rfl, rfl⟩⟩) (v := .tuple #[sv ([] : List UInt8), .bool (false)]) rfl ?_
          have hN : ¬ bodyOk s := fun z => by
            obtain ⟨z1, z2, z3, z4, z5⟩ := z
            first | omega | (rw [← e5] at z3; omega) | (have y_ := (z5 k (by omega)).1 (by omega); omega) | (have y_ := (z5 k (by omega)).2.1 (by omega) (by omega); omega) | (have y_ := (z5 k (by omega)).2.2 (by omega) (by omega); omega)
          exact fun h_ H_ => K _ _ ⟨by rw [bodyB, if_neg hN, decide_eq_false hN], H_.kept⟩
        · refine fl_else rfl (decide_eq_false cc4) ?_
          refine fl_skip ?_
          refine fl_seq ?_
          refine fl_seq ?_
          refine rl_start ?_
          refine rl_det (met_none rfl) (fun h_ H_ => exd_assign (v := .int .i64 0) rfl) rfl ?_
          refine rl_end ?_
          refine fl_block ?_
          refine fl_loop (sI := by intro _ _; infer_instance) (m₀ := s.length - 0) (fun m_ tm_ h_ => ∃ (k : Nat), m_ = s.length - k ∧ (∃ y5 : Nat → Value, tm_ = [sv s, undef, (y5 2), (y5 3), .int .i64 (((s.length : Nat) : Int) - 5), .int .i64 (((k : Nat) : Int)), sv s, .int .i64 (((s.length : Nat) : Int)), .int .i64 (((s.length : Nat) : Int) - 5), .int .i64 (((s.length : Nat) : Int) - 5), .bool (decide (((s.length : Nat) : Int) - 5 < 0)), .bool (decide (((s.length : Nat) : Int) - 5 < 0)), sv s, .int .i64 (((s.length : Nat) : Int)), .bool (decide (1400 < ((s.length : Nat) : Int))), .bool (decide (1400 < ((s.length : Nat) : Int))), .bool (decide (1400 < ((s.length : Nat) : Int))), sv s, .int .i64 (((s.length : Nat) : Int) - 5), .int .u8 ((((s.getD (((s.length : Nat) : Int) - 5).toNat 0).toNat : Nat) : Int)), .bool (decide ((((s.getD (((s.length : Nat) : Int) - 5).toNat 0).toNat : Nat) : Int) ≠ 61)), .bool (decide ((((s.getD (((s.length : Nat) : Int) - 5).toNat 0).toNat : Nat) : Int) ≠ 61)), .bool (decide ((((s.getD (((s.length : Nat) : Int) - 5).toNat 0).toNat : Nat) : Int) ≠ 61)), .int .i64 (((s.length : Nat) : Int) - 5), .int .i64 ((((s.length : Nat) : Int) - 5) % 3), .bool (decide ((((s.length : Nat) : Int) - 5) % 3 = 1)), .bool (decide ((((s.length : Nat) : Int) - 5) % 3 = 1)), (y5 27), (y5 28), (y5 29), (y5 30), (y5 31), (y5 32), (y5 33), (y5 34), (y5 35), (y5 36), (y5 37), (y5 38), (y5 39), (y5 40), (y5 41), (y5 42), (y5 43), (y5 44), (y5 45), (y5 46), (y5 47), (y5 48), (y5 49), (y5 50), (y5 51), (y5 52), (y5 53), (y5 54), (y5 55), (y5 56), (y5 57), (y5 58), (y5 59), (y5 60), (y5 61), (y5 62), (y5 63), (y5 64), (y5 65), (y5 66), (y5 67), (y5 68), (y5 69), (y5 70), (y5 71), (y5 72), (y5 73), (y5 74), (y5 75), (y5 76), (y5 77), (y5 78), (y5 79), undef, undef, undef]) ∧ (k ≤ s.length ∧ okUp s (s.length - 5) k) ∧ St h [] (fun _ => none) h_ ([])) (fun h_ H_ => ⟨0, rfl, (y_of rfl), ⟨Nat.zero_le _, fun i hi => absurd hi (Nat.not_lt_zero i)⟩, H_⟩) ?_
          intro m_ tm_ IH6
          refine rs_ex fun k => rs_and fun hm_ => rs_and fun ht_ => rs_and fun hq => ?_
          subst hm_; obtain ⟨y5, ht_⟩ := ht_; subst ht_
          obtain ⟨hk, hs⟩ := hq
          refine fl_seq ?_
          refine fl_seq ?_
          refine rl_start ?_
          refine rl_det (met_none rfl) (fun h_ H_ => exd_move (v := .int .i64 (((k : Nat) : Int))) rfl) (tm' := _::_::_::_::_::_::_::_::_::_::_::_::_::_::_::_::_::_::_::_::_::_::_::_::_::_::_::_::_) rfl ?_
          refine rl_det (met_none rfl) (fun h_ H_ => exd_move (v := sv s) rfl) rfl ?_
          refine rl_det (met_none rfl) (fun h_ H_ => exd_lenS (l := s) Tryd.underlying9 rfl) rfl ?_
          refine rl_det (met_none rfl) (fun h_ H_ => exd_lss rfl rfl) (tm' := _::_::_::_::_::_::_::_::_::_::_::_::_::_::_::_::_::_::_::_::_::_::_::_::_::_::_::_::_::_::_::_) rfl ?_
          refine rl_end ?_
          by_cases cc7 : ((k : Nat) : Int) < ((s.length : Nat) : Int)
          · refine fl_then rfl (decide_eq_true cc7) ?_
            refine fl_skip ?_
            refine fl_seq ?_
            refine fl_block ?_
            refine fl_block ?_
            refine fl_seq ?_
            refine rl_start ?_
            refine rl_det (met_none rfl) (fun h_ H_ => exd_move (v := .int .i64 (((k : Nat) : Int))) rfl) rfl ?_
            refine rl_det (met_none rfl) (fun h_ H_ => exd_move (v := .int .i64 (((s.length : Nat) : Int) - 5)) rfl) rfl ?_
            refine rl_det (met_none rfl) (fun h_ H_ => exd_gtr rfl rfl) (tm' := _::_::_::_::_::_::_::_::_::_::_::_::_::_::_::_::_::_::_::_::_::_::_::_::_::_::_::_::_::_::_::_::_::_::_::_::_::_) rfl ?_
            refine rl_det (met_none rfl) (fun h_ H_ => exd_assign (v := .bool (decide (((s.length : Nat) : Int) - 5 < ((k : Nat) : Int)))) rfl) rfl ?_
            refine rl_end ?_
            by_cases cc8 : ((s.length : Nat) : Int) - 5 < ((k : Nat) : Int)
            · refine fl_then rfl (decide_eq_true cc8) ?_
              refine fl_seq ?_
              refine rl_start ?_
              refine rl_det (met_none rfl) (fun h_ H_ => exd_move (v := sv s) rfl) rfl ?_
              refine rl_det (met_none rfl) (fun h_ H_ => exd_move (v := .int .i64 (((k : Nat) : Int))) rfl) (tm' := _::_::_::_::_::_::_::_::_::_::_::_::_::_::_::_::_::_::_::_::_::_::_::_::_::_::_::_::_::_::_::_::_::_::_::_::_::_::_::_) rfl ?_
              refine rl_det (met_none rfl) (fun h_ H_ => exd_indexSN (l := s) (i := k) Tryd.underlying9 rfl rfl (by omega)) rfl ?_
              refine rl_det (met_none rfl) (fun h_ H_ => exd_lss rfl rfl) rfl ?_
              refine rl_det (met_none rfl) (fun h_ H_ => exd_move (v := .bool (decide ((((s.getD k 0).toNat : Nat) : Int) < 48))) rfl) (tm' := _::_::_::_::_::_::_::_::_::_::_::_::_::_::_::_::_::_::_::_::_::_::_::_::_::_::_::_::_::_::_::_::_::_::_::_::_::_::_::_::_::_::_) rfl ?_
              by_cases cc9 : (((s.getD k 0).toNat : Nat) : Int) < 48
              · refine rl_pass (met_not rfl rfl (decide_eq_true cc9)) rfl ?_
                refine rl_pass (met_not rfl rfl (decide_eq_true cc9)) rfl ?_
                refine rl_pass (met_not rfl rfl (decide_eq_true cc9)) (tm' := _::_::_::_::_::_::_::_::_::_::_::_::_::_::_::_::_::_::_::_::_::_::_::_::_::_::_::_::_::_::_::_::_::_::_::_::_::_::_::_::_::_::_::_::_::_) rfl ?_
                refine rl_pass (met_not rfl rfl (decide_eq_true cc9)) rfl ?_
                refine rl_det (met_none rfl) (fun h_ H_ => exd_pick_t rfl (decide_eq_true cc9) (v := .bool (true)) rfl) rfl ?_
                refine rl_end ?_
                refine fl_then rfl rfl ?_
                refine fl_seq ?_
                refine rl_start ?_
                refine rl_det (met_none rfl) (fun h_ H_ => exd_assign (v := sv ([] : List UInt8)) rfl) (tm' := _::_::_::_) rfl ?_
                refine rl_det (met_none rfl) (fun h_ H_ => exd_assign (v := .bool (false)) rfl) rfl ?_
                refine rl_end ?_
                refine fl_ret Tryd.func36 rfl (vs := [sv ([] : List UInt8), .bool (false)]) (fun h_ H_ => ⟨sv ([] : List UInt8), _, rfl, rfl, ⟨.bool (false), _, rfl, rfl, rfl⟩⟩) (v := .tuple #[sv ([] : List UInt8), .bool (false)]) rfl ?_
                have hN : ¬ bodyOk s := fun z => by
                  obtain ⟨z1, z2, z3, z4, z5⟩ := z
                  first | omega | (rw [← e5] at z3; omega) | (have y_ := (z5 k (by omega)).1 (by omega); omega) | (have y_ := (z5 k (by omega)).2.1 (by omega) (by omega); omega) | (have y_ := (z5 k (by omega)).2.2 (by omega) (by omega); omega)
                exact fun h_ H_ => K _ _ ⟨by rw [bodyB, if_neg hN, decide_eq_false hN], H_.kept⟩
              · refine rl_det (met_some rfl rfl (decide_eq_false cc9)) (fun h_ H_ => exd_move (v := sv s) rfl) rfl ?_
                refine rl_det (met_some rfl rfl (decide_eq_false cc9)) (fun h_ H_ => exd_move (v := .int .i64 (((k : Nat) : Int))) rfl) (tm' := _::_::_::_::_::_::_::_::_::_::_::_::_::_::_::_::_::_::_::_::_::_::_::_::_::_::_::_::_::_::_::_::_::_::_::_::_::_::_::_::_::_::_::_::_) rfl ?_
                refine rl_det (met_some rfl rfl (decide_eq_false cc9)) (fun h_ H_ => exd_indexSN (l := s) (i := k) Tryd.underlying9 rfl rfl (by omega)) rfl ?_
                refine rl_det (met_some rfl rfl (decide_eq_false cc9)) (fun h_ H_ => exd_gtr rfl rfl) rfl ?_
                refine rl_det (met_none rfl) (fun h_ H_ => exd_pick_f rfl (decide_eq_false cc9) (v := .bool (decide (57 < (((s.getD k 0).toNat : Nat) : Int)))) rfl) (tm' := _::_::_::_::_::_::_::_::_::_::_::_::_::_::_::_::_::_::_::_::_::_::_::_::_::_::_::_::_::_::_::_::_::_::_::_::_::_::_::_::_::_::_::_::_::_::_::_) rfl ?_
                refine rl_end ?_
                by_cases cc10 : 57 < (((s.getD k 0).toNat : Nat) : Int)
                · refine fl_then rfl (decide_eq_true cc10) ?_
                  refine fl_seq ?_
                  refine rl_start ?_
                  refine rl_det (met_none rfl) (fun h_ H_ => exd_assign (v := sv ([] : List UInt8)) rfl) rfl ?_
                  refine rl_det (met_none rfl) (fun h_ H_ => exd_assign (v := .bool (false)) rfl) rfl ?_
                  refine rl_end ?_
                  refine fl_ret Tryd.func36 rfl (vs := [sv ([] : List UInt8), .bool (false)]) (fun h_ H_ => ⟨sv ([] : List UInt8), _, rfl, rfl, ⟨.bool (false), _, rfl, rfl, rfl⟩⟩) (v := .tuple #[sv ([] : List UInt8), .bool (false)]) rfl ?_
                  have hN : ¬ bodyOk s := fun z => by
                    obtain ⟨z1, z2, z3, z4, z5⟩ := z
                    first | omega | (rw [← e5] at z3; omega) | (have y_ := (z5 k (by omega)).1 (by omega); omega) | (have y_ := (z5 k (by omega)).2.1 (by omega) (by omega); omega) | (have y_ := (z5 k (by omega)).2.2 (by omega) (by omega); omega)
                  exact fun h_ H_ => K _ _ ⟨by rw [bodyB, if_neg hN, decide_eq_false hN], H_.kept⟩
                · refine fl_else rfl (decide_eq_false cc10) ?_
                  refine fl_skip ?_
                  refine fl_inBlock ?_
                  refine fl_inBlock ?_
                  refine rl_start ?_
                  refine rl_det (met_none rfl) (fun h_ H_ => exd_move (v := .int .i64 (((k : Nat) : Int))) rfl) (tm' := _::_::_::_::_::_::_::_::_::_::_::_::_::_::_::_::_::_::_::_::_::_::_::_::_::_::_::_::_::_::_::_::_) rfl ?_
                  refine rl_det (met_none rfl) (fun h_ H_ => exd_add rfl rfl (n := ((k + 1 : Nat) : Int)) (wr (by omega))) rfl ?_
                  refine rl_det (met_none rfl) (fun h_ H_ => exd_assign (v := .int .i64 (((k + 1 : Nat) : Int))) rfl) rfl ?_
                  refine rl_end ?_
                  exact fun h_ H_ => IH6 _ _ (by omega) h_ ⟨k + 1, rfl, (y_of rfl), ⟨by omega, upto_step hs ⟨fun h1_ => by omega, fun h1_ h2_ => by omega, fun h1_ h2_ => by omega⟩⟩, H_⟩
            · refine fl_else rfl (decide_eq_false cc8) ?_
              refine fl_seq ?_
              refine rl_start ?_
              refine rl_det (met_none rfl) (fun h_ H_ => exd_move (v := .int .i64 (((k : Nat) : Int))) rfl) (tm' := _::_::_::_::_::_::_::_::_::_::_::_::_::_::_::_::_::_::_::_::_::_::_::_::_::_::_::_::_::_::_::_::_::_::_::_::_::_::_::_::_::_::_::_::_::_::_::_::_::_) rfl ?_
              refine rl_det (met_none rfl) (fun h_ H_ => exd_move (v := .int .i64 (((s.length : Nat) : Int) - 5)) rfl) rfl ?_
              refine rl_det (met_none rfl) (fun h_ H_ => exd_lss rfl rfl) rfl ?_
              refine rl_det (met_none rfl) (fun h_ H_ => exd_move (v := .bool (decide (((k : Nat) : Int) < ((s.length : Nat) : Int) - 5))) rfl) (tm' := _::_::_::_::_::_::_::_::_::_::_::_::_::_::_::_::_::_::_::_::_::_::_::_::_::_::_::_::_::_::_::_::_::_::_::_::_::_::_::_::_::_::_::_::_::_::_::_::_::_::_::_::_) rfl ?_
              by_cases cc11 : ((k : Nat) : Int) < ((s.length : Nat) : Int) - 5
              · refine rl_det (met_some rfl rfl (decide_eq_true cc11)) (fun h_ H_ => exd_move (v := .int .i64 (((k : Nat) : Int))) rfl) rfl ?_
                refine rl_det (met_some rfl rfl (decide_eq_true cc11)) (fun h_ H_ => exd_rem rfl rfl (by decide) (n := ((k : Nat) : Int) % 3) (Int.tmod_eq_emod_of_nonneg (by omega))) rfl ?_
                refine rl_det (met_some rfl rfl (decide_eq_true cc11)) (fun h_ H_ => exd_lss rfl rfl) (tm' := _::_::_::_::_::_::_::_::_::_::_::_::_::_::_::_::_::_::_::_::_::_::_::_::_::_::_::_::_::_::_::_::_::_::_::_::_::_::_::_::_::_::_::_::_::_::_::_::_::_::_::_::_::_::_::_) rfl ?_
                refine rl_det (met_none rfl) (fun h_ H_ => exd_pick_t rfl (decide_eq_true cc11) (v := .bool (decide (((k : Nat) : Int) % 3 < 2))) rfl) rfl ?_
                refine rl_det (met_none rfl) (fun h_ H_ => exd_assign (v := .bool (decide (((k : Nat) : Int) % 3 < 2))) rfl) rfl ?_
                refine rl_end ?_
                by_cases cc12 : ((k : Nat) : Int) % 3 < 2
                · refine fl_then rfl (decide_eq_true cc12) ?_
                  refine fl_seq ?_
                  refine rl_start ?_
                  refine rl_det (met_none rfl) (fun h_ H_ => exd_move (v := sv s) rfl) (tm' := [_,_,_,_,_,_,_,_,_,_,_,_,_,_,_,_,_,_,_,_,_,_,_,_,_,_,_,_,_,_,_,_,_,_,_,_,_,_,_,_,_,_,_,_,_,_,_,_,_,_,_,_,_,_,_,_,_,_,_,_,_,_,_,_,_,_,_,_,_,_,_,_,_,_,_,_,_,_,_,_,_,_,_]) rfl ?_
                  refine rl_det (met_none rfl) (fun h_ H_ => exd_move (v := .int .i64 (((k : Nat) : Int))) rfl) rfl ?_
                  refine rl_det (met_none rfl) (fun h_ H_ => exd_indexSN (l := s) (i := k) Tryd.underlying9 rfl rfl (by omega)) rfl ?_
                  refine rl_det (met_none rfl) (fun h_ H_ => exd_lss rfl rfl) (tm' := [_,_,_,_,_,_,_,_,_,_,_,_,_,_,_,_,_,_,_,_,_,_,_,_,_,_,_,_,_,_,_,_,_,_,_,_,_,_,_,_,_,_,_,_,_,_,_,_,_,_,_,_,_,_,_,_,_,_,_,_,_,_,_,_,_,_,_,_,_,_,_,_,_,_,_,_,_,_,_,_,_,_,_]) rfl ?_
                  refine rl_det (met_none rfl) (fun h_ H_ => exd_move (v := .bool (decide ((((s.getD k 0).toNat : Nat) : Int) < 65))) rfl) rfl ?_
                  by_cases cc13 : (((s.getD k 0).toNat : Nat) : Int) < 65
                  · refine rl_pass (met_not rfl rfl (decide_eq_true cc13)) rfl ?_
                    refine rl_pass (met_not rfl rfl (decide_eq_true cc13)) (tm' := [_,_,_,_,_,_,_,_,_,_,_,_,_,_,_,_,_,_,_,_,_,_,_,_,_,_,_,_,_,_,_,_,_,_,_,_,_,_,_,_,_,_,_,_,_,_,_,_,_,_,_,_,_,_,_,_,_,_,_,_,_,_,_,_,_,_,_,_,_,_,_,_,_,_,_,_,_,_,_,_,_,_,_]) rfl ?_
                    refine rl_pass (met_not rfl rfl (decide_eq_true cc13)) rfl ?_
                    refine rl_pass (met_not rfl rfl (decide_eq_true cc13)) rfl ?_
                    refine rl_det (met_none rfl) (fun h_ H_ => exd_pick_t rfl (decide_eq_true cc13) (v := .bool (true)) rfl) (tm' := [_,_,_,_,_,_,_,_,_,_,_,_,_,_,_,_,_,_,_,_,_,_,_,_,_,_,_,_,_,_,_,_,_,_,_,_,_,_,_,_,_,_,_,_,_,_,_,_,_,_,_,_,_,_,_,_,_,_,_,_,_,_,_,_,_,_,_,_,_,_,_,_,_,_,_,_,_,_,_,_,_,_,_]) rfl ?_
                    refine rl_end ?_
                    refine fl_then rfl rfl ?_
                    refine fl_seq ?_
                    refine rl_start ?_
                    refine rl_det (met_none rfl) (fun h_ H_ => exd_assign (v := sv ([] : List UInt8)) rfl) rfl ?_
                    refine rl_det (met_none rfl) (fun h_ H_ => exd_assign (v := .bool (false)) rfl) rfl ?_
                    refine rl_end ?_
                    refine fl_ret Tryd.func36 rfl (vs := [sv ([] : List UInt8), .bool (false)]) (fun h_ H_ => ⟨sv ([] : List UInt8), _, rfl, rfl, ⟨.bool (false), _, rfl, rfl, rfl⟩⟩) (v := .tuple #[sv ([] : List UInt8), .bool (false)]) rfl ?_
                    have hN : ¬ bodyOk s := fun z => by
                      obtain ⟨z1, z2, z3, z4, z5⟩ := z
                      first | omega | (rw [← e5] at z3; omega) | (have y_ := (z5 k (by omega)).1 (by omega); omega) | (have y_ := (z5 k (by omega)).2.1 (by omega) (by omega); omega) | (have y_ := (z5 k (by omega)).2.2 (by omega) (by omega); omega)
                    exact fun h_ H_ => K _ _ ⟨by rw [bodyB, if_neg hN, decide_eq_false hN], H_.kept⟩
                  · refine rl_det (met_some rfl rfl (decide_eq_false cc13)) (fun h_ H_ => exd_move (v := sv s) rfl) (tm' := [_,_,_,_,_,_,_,_,_,_,_,_,_,_,_,_,_,_,_,_,_,_,_,_,_,_,_,_,_,_,_,_,_,_,_,_,_,_,_,_,_,_,_,_,_,_,_,_,_,_,_,_,_,_,_,_,_,_,_,_,_,_,_,_,_,_,_,_,_,_,_,_,_,_,_,_,_,_,_,_,_,_,_]) rfl ?_
                    refine rl_det (met_some rfl rfl (decide_eq_false cc13)) (fun h_ H_ => exd_move (v := .int .i64 (((k : Nat) : Int))) rfl) rfl ?_
                    refine rl_det (met_some rfl rfl (decide_eq_false cc13)) (fun h_ H_ => exd_indexSN (l := s) (i := k) Tryd.underlying9 rfl rfl (by omega)) rfl ?_
                    refine rl_det (met_some rfl rfl (decide_eq_false cc13)) (fun h_ H_ => exd_gtr rfl rfl) (tm' := [_,_,_,_,_,_,_,_,_,_,_,_,_,_,_,_,_,_,_,_,_,_,_,_,_,_,_,_,_,_,_,_,_,_,_,_,_,_,_,_,_,_,_,_,_,_,_,_,_,_,_,_,_,_,_,_,_,_,_,_,_,_,_,_,_,_,_,_,_,_,_,_,_,_,_,_,_,_,_,_,_,_,_]) rfl ?_
                    refine rl_det (met_none rfl) (fun h_ H_ => exd_pick_f rfl (decide_eq_false cc13) (v := .bool (decide (90 < (((s.getD k 0).toNat : Nat) : Int)))) rfl) rfl ?_
                    refine rl_end ?_
                    by_cases cc14 : 90 < (((s.getD k 0).toNat : Nat) : Int)
                    · refine fl_then rfl (decide_eq_true cc14) ?_
                      refine fl_seq ?_
                      refine rl_start ?_
                      refine rl_det (met_none rfl) (fun h_ H_ => exd_assign (v := sv ([] : List UInt8)) rfl) rfl ?_
                      refine rl_det (met_none rfl) (fun h_ H_ => exd_assign (v := .bool (false)) rfl) (tm' := _::_::_::_::_) rfl ?_
                      refine rl_end ?_
                      refine fl_ret Tryd.func36 rfl (vs := [sv ([] : List UInt8), .bool (false)]) (fun h_ H_ => ⟨sv ([] : List UInt8), _, rfl, rfl, ⟨.bool (false), _, rfl, rfl, rfl⟩⟩) (v := .tuple #[sv ([] : List UInt8), .bool (false)]) rfl ?_
                      have hN : ¬ bodyOk s := fun z => by
                        obtain ⟨z1, z2, z3, z4, z5⟩ := z
                        first | omega | (rw [← e5] at z3; omega) | (have y_ := (z5 k (by omega)).1 (by omega); omega) | (have y_ := (z5 k (by omega)).2.1 (by omega) (by omega); omega) | (have y_ := (z5 k (by omega)).2.2 (by omega) (by omega); omega)
                      exact fun h_ H_ => K _ _ ⟨by rw [bodyB, if_neg hN, decide_eq_false hN], H_.kept⟩
                    · refine fl_else rfl (decide_eq_false cc14) ?_
                      refine fl_skip ?_
                      refine fl_inBlock ?_
                      refine fl_inBlock ?_
                      refine rl_start ?_
                      refine rl_det (met_none rfl) (fun h_ H_ => exd_move (v := .int .i64 (((k : Nat) : Int))) rfl) rfl ?_
                      refine rl_det (met_none rfl) (fun h_ H_ => exd_add rfl rfl (n := ((k + 1 : Nat) : Int)) (wr (by omega))) rfl ?_
                      refine rl_det (met_none rfl) (fun h_ H_ => exd_assign (v := .int .i64 (((k + 1 : Nat) : Int))) rfl) (tm' := _::_::_::_::_::_::_) rfl ?_
                      refine rl_end ?_
                      exact fun h_ H_ => IH6 _ _ (by omega) h_ ⟨k + 1, rfl, (y_of rfl), ⟨by omega, upto_step hs ⟨fun h1_ => by omega, fun h1_ h2_ => by omega, fun h1_ h2_ => by omega⟩⟩, H_⟩
                · refine fl_else rfl (decide_eq_false cc12) ?_
                  refine fl_seq ?_
                  refine rl_start ?_
                  refine rl_det (met_none rfl) (fun h_ H_ => exd_move (v := .int .i64 (((k : Nat) : Int))) rfl) rfl ?_
                  refine rl_det (met_none rfl) (fun h_ H_ => exd_move (v := .int .i64 (((s.length : Nat) : Int) - 5)) rfl) rfl ?_
                  refine rl_det (met_none rfl) (fun h_ H_ => exd_lss rfl rfl) (tm' := [_,_,_,_,_,_,_,_,_,_,_,_,_,_,_,_,_,_,_,_,_,_,_,_,_,_,_,_,_,_,_,_,_,_,_,_,_,_,_,_,_,_,_,_,_,_,_,_,_,_,_,_,_,_,_,_,_,_,_,_,_,_,_,_,_,_,_,_,_,_,_,_,_,_,_,_,_,_,_,_,_,_,_]) rfl ?_
                  refine rl_det (met_none rfl) (fun h_ H_ => exd_assign (v := .bool (decide (((k : Nat) : Int) < ((s.length : Nat) : Int) - 5))) rfl) rfl ?_
                  refine rl_end ?_
                  refine fl_then rfl (decide_eq_true cc11) ?_
                  refine fl_seq ?_
                  refine rl_start ?_
                  refine rl_det (met_none rfl) (fun h_ H_ => exd_move (v := sv s) rfl) rfl ?_
                  refine rl_det (met_none rfl) (fun h_ H_ => exd_move (v := .int .i64 (((k : Nat) : Int))) rfl) (tm' := [_,_,_,_,_,_,_,_,_,_,_,_,_,_,_,_,_,_,_,_,_,_,_,_,_,_,_,_,_,_,_,_,_,_,_,_,_,_,_,_,_,_,_,_,_,_,_,_,_,_,_,_,_,_,_,_,_,_,_,_,_,_,_,_,_,_,_,_,_,_,_,_,_,_,_,_,_,_,_,_,_,_,_]) rfl ?_
                  refine rl_det (met_none rfl) (fun h_ H_ => exd_indexSN (l := s) (i := k) Tryd.underlying9 rfl rfl (by omega)) rfl ?_
                  refine rl_det (met_none rfl) (fun h_ H_ => exd_lss rfl rfl) rfl ?_
                  refine rl_det (met_none rfl) (fun h_ H_ => exd_move (v := .bool (decide ((((s.getD k 0).toNat : Nat) : Int) < 32))) rfl) (tm' := [_,_,_,_,_,_,_,_,_,_,_,_,_,_,_,_,_,_,_,_,_,_,_,_,_,_,_,_,_,_,_,_,_,_,_,_,_,_,_,_,_,_,_,_,_,_,_,_,_,_,_,_,_,_,_,_,_,_,_,_,_,_,_,_,_,_,_,_,_,_,_,_,_,_,_,_,_,_,_,_,_,_,_]) rfl ?_
                  by_cases cc15 : (((s.getD k 0).toNat : Nat) : Int) < 32
                  · refine rl_pass (met_not rfl rfl (decide_eq_true cc15)) rfl ?_
                    refine rl_pass (met_not rfl rfl (decide_eq_true cc15)) rfl ?_
                    refine rl_pass (met_not rfl rfl (decide_eq_true cc15)) (tm' := [_,_,_,_,_,_,_,_,_,_,_,_,_,_,_,_,_,_,_,_,_,_,_,_,_,_,_,_,_,_,_,_,_,_,_,_,_,_,_,_,_,_,_,_,_,_,_,_,_,_,_,_,_,_,_,_,_,_,_,_,_,_,_,_,_,_,_,_,_,_,_,_,_,_,_,_,_,_,_,_,_,_,_]) rfl ?_
                    refine rl_pass (met_not rfl rfl (decide_eq_true cc15)) rfl ?_
                    refine rl_det (met_none rfl) (fun h_ H_ => exd_pick_t rfl (decide_eq_true cc15) (v := .bool (true)) rfl) rfl ?_
                    refine rl_end ?_
                    refine fl_then rfl rfl ?_
                    refine fl_seq ?_
                    refine rl_start ?_
                    refine rl_det (met_none rfl) (fun h_ H_ => exd_assign (v := sv ([] : List UInt8)) rfl) (tm' := _::_::_::_) rfl ?_
                    refine rl_det (met_none rfl) (fun h_ H_ => exd_assign (v := .bool (false)) rfl) rfl ?_
                    refine rl_end ?_
                    refine fl_ret Tryd.func36 rfl (vs := [sv ([] : List UInt8), .bool (false)]) (fun h_ H_ => ⟨sv ([] : List UInt8), _, rfl, rfl, ⟨.bool (false), _, rfl, rfl, rfl⟩⟩) (v := .tuple #[sv ([] : List UInt8), .bool (false)]) rfl ?_
                    have hN : ¬ bodyOk s := fun z => by
                      obtain ⟨z1, z2, z3, z4, z5⟩ := z
                      first | omega | (rw [← e5] at z3; omega) | (have y_ := (z5 k (by omega)).1 (by omega); omega) | (have y_ := (z5 k (by omega)).2.1 (by omega) (by omega); omega) | (have y_ := (z5 k (by omega)).2.2 (by omega) (by omega); omega)
                    exact fun h_ H_ => K _ _ ⟨by rw [bodyB, if_neg hN, decide_eq_false hN], H_.kept⟩
                  · refine rl_det (met_some rfl rfl (decide_eq_false cc15)) (fun h_ H_ => exd_move (v := sv s) rfl) rfl ?_
                    refine rl_det (met_some rfl rfl (decide_eq_false cc15)) (fun h_ H_ => exd_move (v := .int .i64 (((k : Nat) : Int))) rfl) (tm' := [_,_,_,_,_,_,_,_,_,_,_,_,_,_,_,_,_,_,_,_,_,_,_,_,_,_,_,_,_,_,_,_,_,_,_,_,_,_,_,_,_,_,_,_,_,_,_,_,_,_,_,_,_,_,_,_,_,_,_,_,_,_,_,_,_,_,_,_,_,_,_,_,_,_,_,_,_,_,_,_,_,_,_]) rfl ?_
                    refine rl_det (met_some rfl rfl (decide_eq_false cc15)) (fun h_ H_ => exd_indexSN (l := s) (i := k) Tryd.underlying9 rfl rfl (by omega)) rfl ?_
                    refine rl_det (met_some rfl rfl (decide_eq_false cc15)) (fun h_ H_ => exd_gtr rfl rfl) rfl ?_
                    refine rl_det (met_none rfl) (fun h_ H_ => exd_pick_f rfl (decide_eq_false cc15) (v := .bool (decide (126 < (((s.getD k 0).toNat : Nat) : Int)))) rfl) (tm' := [_,_,_,_,_,_,_,_,_,_,_,_,_,_,_,_,_,_,_,_,_,_,_,_,_,_,_,_,_,_,_,_,_,_,_,_,_,_,_,_,_,_,_,_,_,_,_,_,_,_,_,_,_,_,_,_,_,_,_,_,_,_,_,_,_,_,_,_,_,_,_,_,_,_,_,_,_,_,_,_,_,_,_]) rfl ?_
                    refine rl_end ?_
                    by_cases cc16 : 126 < (((s.getD k 0).toNat : Nat) : Int)
                    · refine fl_then rfl (decide_eq_true cc16) ?_
                      refine fl_seq ?_
                      refine rl_start ?_
                      refine rl_det (met_none rfl) (fun h_ H_ => exd_assign (v := sv ([] : List UInt8)) rfl) rfl ?_
                      refine rl_det (met_none rfl) (fun h_ H_ => exd_assign (v := .bool (false)) rfl) rfl ?_
                      refine rl_end ?_
                      refine fl_ret Tryd.func36 rfl (vs := [sv ([] : List UInt8), .bool (false)]) (fun h_ H_ => ⟨sv ([] : List UInt8), _, rfl, rfl, ⟨.bool (false), _, rfl, rfl, rfl⟩⟩) (v := .tuple #[sv ([] : List UInt8), .bool (false)]) rfl ?_
                      have hN : ¬ bodyOk s := fun z => by
                        obtain ⟨z1, z2, z3, z4, z5⟩ := z
                        first | omega | (rw [← e5] at z3; omega) | (have y_ := (z5 k (by omega)).1 (by omega); omega) | (have y_ := (z5 k (by omega)).2.1 (by omega) (by omega); omega) | (have y_ := (z5 k (by omega)).2.2 (by omega) (by omega); omega)
                      exact fun h_ H_ => K _ _ ⟨by rw [bodyB, if_neg hN, decide_eq_false hN], H_.kept⟩
                    · refine fl_else rfl (decide_eq_false cc16) ?_
                      refine fl_skip ?_
                      refine fl_inBlock ?_
                      refine fl_inBlock ?_
                      refine rl_start ?_
                      refine rl_det (met_none rfl) (fun h_ H_ => exd_move (v := .int .i64 (((k : Nat) : Int))) rfl) (tm' := _::_::_::_::_::_::_::_::_::_::_::_::_::_::_::_::_::_::_::_::_::_::_::_::_::_::_::_::_::_::_::_::_) rfl ?_
                      refine rl_det (met_none rfl) (fun h_ H_ => exd_add rfl rfl (n := ((k + 1 : Nat) : Int)) (wr (by omega))) rfl ?_
                      refine rl_det (met_none rfl) (fun h_ H_ => exd_assign (v := .int .i64 (((k + 1 : Nat) : Int))) rfl) rfl ?_
                      refine rl_end ?_
                      exact fun h_ H_ => IH6 _ _ (by omega) h_ ⟨k + 1, rfl, (y_of rfl), ⟨by omega, upto_step hs ⟨fun h1_ => by omega, fun h1_ h2_ => by omega, fun h1_ h2_ => by omega⟩⟩, H_⟩
              · refine rl_pass (met_not rfl rfl (decide_eq_false cc11)) (tm' := _::_::_::_::_::_::_::_::_::_::_::_::_::_::_::_::_::_::_::_::_::_::_::_::_::_::_::_::_::_::_::_::_::_::_::_::_::_::_::_::_::_::_::_::_::_::_::_::_::_::_::_::_::_) rfl ?_
                refine rl_pass (met_not rfl rfl (decide_eq_false cc11)) rfl ?_
                refine rl_pass (met_not rfl rfl (decide_eq_false cc11)) rfl ?_
                refine rl_det (met_none rfl) (fun h_ H_ => exd_pick_f rfl (decide_eq_false cc11) (v := .bool (false)) rfl) (tm' := [_,_,_,_,_,_,_,_,_,_,_,_,_,_,_,_,_,_,_,_,_,_,_,_,_,_,_,_,_,_,_,_,_,_,_,_,_,_,_,_,_,_,_,_,_,_,_,_,_,_,_,_,_,_,_,_,_,_,_,_,_,_,_,_,_,_,_,_,_,_,_,_,_,_,_,_,_,_,_,_,_,_,_]) rfl ?_
                refine rl_det (met_none rfl) (fun h_ H_ => exd_assign (v := .bool (false)) rfl) rfl ?_
                refine rl_end ?_
                refine fl_else rfl rfl ?_
                refine fl_seq ?_
                refine rl_start ?_
                refine rl_det (met_none rfl) (fun h_ H_ => exd_move (v := .int .i64 (((k : Nat) : Int))) rfl) rfl ?_
                refine rl_det (met_none rfl) (fun h_ H_ => exd_move (v := .int .i64 (((s.length : Nat) : Int) - 5)) rfl) (tm' := [_,_,_,_,_,_,_,_,_,_,_,_,_,_,_,_,_,_,_,_,_,_,_,_,_,_,_,_,_,_,_,_,_,_,_,_,_,_,_,_,_,_,_,_,_,_,_,_,_,_,_,_,_,_,_,_,_,_,_,_,_,_,_,_,_,_,_,_,_,_,_,_,_,_,_,_,_,_,_,_,_,_,_]) rfl ?_
                refine rl_det (met_none rfl) (fun h_ H_ => exd_lss rfl rfl) rfl ?_
                refine rl_det (met_none rfl) (fun h_ H_ => exd_assign (v := .bool (decide (((k : Nat) : Int) < ((s.length : Nat) : Int) - 5))) rfl) rfl ?_
                refine rl_end ?_
                refine fl_else rfl (decide_eq_false cc11) ?_
                refine fl_skip ?_
                refine fl_inBlock ?_
                refine fl_inBlock ?_
                refine rl_start ?_
                refine rl_det (met_none rfl) (fun h_ H_ => exd_move (v := .int .i64 (((k : Nat) : Int))) rfl) (tm' := _::_::_::_::_::_::_::_::_::_::_::_::_::_::_::_::_::_::_::_::_::_::_::_::_::_::_::_::_::_::_::_::_) rfl ?_
                refine rl_det (met_none rfl) (fun h_ H_ => exd_add rfl rfl (n := ((k + 1 : Nat) : Int)) (wr (by omega))) rfl ?_
                refine rl_det (met_none rfl) (fun h_ H_ => exd_assign (v := .int .i64 (((k + 1 : Nat) : Int))) rfl) rfl ?_
                refine rl_end ?_
                exact fun h_ H_ => IH6 _ _ (by omega) h_ ⟨k + 1, rfl, (y_of rfl), ⟨by omega, upto_step hs ⟨fun h1_ => by omega, fun h1_ h2_ => by omega, fun h1_ h2_ => by omega⟩⟩, H_⟩
          · refine fl_else rfl (decide_eq_false cc7) ?_
            refine fl_exit rfl ?_
            refine fl_seq ?_
            refine rl_start ?_
            refine rl_det (met_none rfl) (fun h_ H_ => exd_move (v := sv s) rfl) (tm' := [_,_,_,_,_,_,_,_,_,_,_,_,_,_,_,_,_,_,_,_,_,_,_,_,_,_,_,_,_,_,_,_,_,_,_,_,_,_,_,_,_,_,_,_,_,_,_,_,_,_,_,_,_,_,_,_,_,_,_,_,_,_,_,_,_,_,_,_,_,_,_,_,_,_,_,_,_,_,_,_,_,_,_]) rfl ?_
            refine rl_det (met_none rfl) (fun h_ H_ => exd_move (v := .int .i64 (((s.length : Nat) : Int) - 5)) rfl) rfl ?_
            refine rl_det (met_none rfl) (fun h_ H_ => exd_takeS (l := s) (r := ((((s.length : Nat) : Int) - 5)).toNat) Tryd.underlying9 rfl (.some _ rfl (by omega)) (by omega)) rfl ?_
            refine rl_det (met_none rfl) (fun h_ H_ => exd_assign (v := sv (s.take (((((s.length : Nat) : Int) - 5)).toNat))) rfl) (tm' := _::_::_::_) rfl ?_
            refine rl_det (met_none rfl) (fun h_ H_ => exd_assign (v := .bool (true)) rfl) rfl ?_
            refine rl_end ?_
            refine fl_ret Tryd.func36 rfl (vs := [sv (s.take (((((s.length : Nat) : Int) - 5)).toNat)), .bool (true)]) (fun h_ H_ => ⟨sv (s.take (((((s.length : Nat) : Int) - 5)).toNat)), _, rfl, rfl, ⟨.bool (true), _, rfl, rfl, rfl⟩⟩) (v := .tuple #[sv (s.take (((((s.length : Nat) : Int) - 5)).toNat)), .bool (true)]) rfl ?_
            have hY : bodyOk s := ⟨by omega, by omega, by rw [← e5]; omega, by omega, fun i hi => hs i (by omega)⟩
            exact fun h_ H_ => K _ _ ⟨by rw [bodyB, if_pos hY, decide_eq_true hY, ← e5], H_.kept⟩
theorem c38 (md : Md) (h : Heap) (s : By) (hs : s.length ≤ 2 ^ 60) : CallsX Tryd.prog md 38 #[sv s] h fun v h' => ∃ w X, v = .tuple #[w, .int .i64 (perR s)] ∧ OwnS 60 2 w (pies (parseR s)) X ∧ New h h' X := by
  refine calls_intro (Φ := fun h_ => St h [] (fun _ => none) h_ []) Tryd.func38 rfl (tm := [_, _, _, _, _, _, _, _, _, _, _, _, _, _, _, _, _, _, _, _, _, _, _, _, _, _, _, _, _, _, _, _, _, _, _, _, _, _, _, _, _, _, _, _, _, _, _, _, _, _, _, _, _, _, _, _]) rfl ?_ (St.start h _ (fun _ _ e => by cases e))
  intro c₀ cs Stop K
  refine fl_seq ?_
  refine rl_start ?_
  refine rl_det (met_none rfl) (fun h_ H_ => exd_assign (v := .slice none 0 0) rfl) rfl ?_
  refine rl_det (met_none rfl) (fun h_ H_ => exd_assign (v := .int .i64 0) rfl) (tm' := _::_::_::_::_) rfl ?_
  refine rl_end ?_
  refine fl_seq ?_
  refine rl_start ?_
  refine rl_det (met_none rfl) (fun h_ H_ => exd_move (v := sv s) rfl) rfl ?_
  refine rl_calld (met_none rfl) (first := []) (cap := []) rfl rfl fC36 (fun h_ H_ => c36 md _ s (by omega)) rfl ?_
  refine rl_det (met_none rfl) (fun h_ H_ => exd_move (v := .tuple #[sv (bodyB s), .bool (decide (bodyOk s))]) rfl) (tm' := _::_::_::_::_::_::_::_::_::_::_) rfl ?_
  refine rl_det (met_none rfl) (fun h_ H_ => exd_extract rfl (v := sv (bodyB s)) rfl) rfl ?_
  refine rl_det (met_none rfl) (fun h_ H_ => exd_extract rfl (v := .bool (decide (bodyOk s))) rfl) rfl ?_
  refine rl_det (met_none rfl) (fun h_ H_ => exd_assign (v := sv (bodyB s)) rfl) (tm' := _::_::_::_::_::_) rfl ?_
  refine rl_det (met_none rfl) (fun h_ H_ => exd_assign (v := .bool (decide (bodyOk s))) rfl) rfl ?_
  refine rl_end ?_
  refine fl_seq ?_
  refine fl_seq ?_
  refine rl_start ?_
  refine rl_det (met_none rfl) (fun h_ H_ => exd_move (v := .bool (decide (bodyOk s))) rfl) rfl ?_
  refine rl_det (met_none rfl) (fun h_ H_ => exd_not rfl) (tm' := _::_::_::_::_::_::_::_::_::_::_::_::_::_::_::_::_) rfl ?_
  refine rl_end ?_
  by_cases cc1 : bodyOk s
  · refine fl_else rfl (not_f (decide_eq_true cc1)) ?_
    refine fl_skip ?_
    refine fl_seq ?_
    have hB : bodyOk s := by assumption
    have hbl := body_len hB
    have hb : bodyB s = s.take (s.length - 5) := if_pos hB
    have h14 := hB.2.1
    refine rl_start ?_
    refine rl_det (met_none rfl) (fun h_ H_ => exd_assign (v := .slice none 0 0) rfl) rfl ?_
    refine rl_end ?_
    refine fl_seq ?_
    refine fl_seq ?_
    refine rl_start ?_
    refine rl_det (met_none rfl) (fun h_ H_ => exd_assign (v := .int .i64 0) rfl) rfl ?_
    refine rl_end ?_
    refine fl_block ?_
    refine fl_loop (m₀ := (bodyB s).length + 3 - 0) (fun m_ tm_ h_ => ∃ (m : Nat) (out : List Pie) (w1 : Value) (X1 : Pcs), m_ = (bodyB s).length + 3 - m ∧ (∃ y2 : Nat → Value, tm_ = [sv s, undef, .slice none 0 0, .int .i64 0, sv (bodyB s), .bool (decide (bodyOk s)), w1, .int .i64 (((m : Nat) : Int)), (y2 8), .tuple #[sv (bodyB s), .bool (decide (bodyOk s))], sv s, .tuple #[sv (bodyB s), .bool (decide (bodyOk s))], sv (bodyB s), .bool (decide (bodyOk s)), .bool (decide (bodyOk s)), .bool (!(decide (bodyOk s))), (y2 16), (y2 17), (y2 18), (y2 19), (y2 20), (y2 21), (y2 22), (y2 23), (y2 24), (y2 25), (y2 26), (y2 27), (y2 28), (y2 29), (y2 30), (y2 31), (y2 32), (y2 33), (y2 34), (y2 35), (y2 36), (y2 37), (y2 38), (y2 39), (y2 40), (y2 41), (y2 42), (y2 43), (y2 44), (y2 45), (y2 46), (y2 47), (y2 48), (y2 49), (y2 50), (y2 51), (y2 52), (y2 53), (y2 54), undef]) ∧ (m ≤ (bodyB s).length + 2 ∧ m % 3 = 0 ∧ out ++ refS ((bodyB s).drop m) = refS (bodyB s) ∧ out.length * 3 ≤ m) ∧ (OwnS 60 2 w1 (pies out) X1) ∧ St h [] (fun _ => none) h_ (([] : Pcs) ++ (X1 ++ []))) (fun h_ H_ => ⟨0, [], (.slice none 0 0), [], rfl, (y_of rfl), ⟨by omega, rfl, rfl, by simp⟩, (OwnS.empty _ _), H_⟩) ?_
    intro m_ tm_ IH3
    refine rs_ex fun m => rs_ex fun out => rs_ex fun w1 => rs_ex fun X1 => rs_and fun hm_ => rs_and fun ht_ => rs_and fun hq => rs_and fun o1 => ?_
    subst hm_; obtain ⟨y2, ht_⟩ := ht_; subst ht_
    obtain ⟨hm, hm3, hR, hol⟩ := hq
    refine fl_seq ?_
    refine fl_seq ?_
    refine rl_start ?_
    refine rl_det (met_none rfl) (fun h_ H_ => exd_move (v := .int .i64 (((m : Nat) : Int))) rfl) (tm' := _::_::_::_::_::_::_::_::_::_::_::_::_::_::_::_::_::_) rfl ?_
    refine rl_det (met_none rfl) (fun h_ H_ => exd_move (v := sv (bodyB s)) rfl) rfl ?_
    refine rl_det (met_none rfl) (fun h_ H_ => exd_lenS (l := bodyB s) Tryd.underlying9 rfl) rfl ?_
    refine rl_det (met_none rfl) (fun h_ H_ => exd_lss rfl rfl) (tm' := _::_::_::_::_::_::_::_::_::_::_::_::_::_::_::_::_::_::_::_::_) rfl ?_
    refine rl_end ?_
    by_cases cc4 : ((m : Nat) : Int) < (((bodyB s).length : Nat) : Int)
    · refine fl_then rfl (decide_eq_true cc4) ?_
      refine fl_skip ?_
      refine fl_seq ?_
      refine fl_block ?_
      refine fl_seq ?_
      obtain ⟨g1, g2, g3⟩ := body_bytes (i := m) hB (by omega) hm3
      rw [← hb] at g2 g3
      obtain ⟨Gb7, hG14_⟩ := sk1 (fun (v_ : Value) (x_ : Pcs) (b7 : Nat) => v_ = .pointer (some ⟨b7, 0, none⟩) ∧ x_ = (([(b7, .cells #[.int .i64 0, .int .i64 0] 60 (0, 0))] : Pcs) ++ []))
      refine rs_as (fl_mixed2 (C := []) (A := ([] : Pcs)) 15 [] [15] [15, 14] [0, 1, 2, 3, 4, 5, 6, 7, 8, 9, 10, 11, 12, 13] (fun i_ => match i_ with | 15 => X1 | _ => []) (fun _ => []) (fun i_ => match i_ with | 0 => [] | 1 => [] | 2 => [0, 1] | 3 => [2] | 4 => [3] | 5 => [4] | 6 => [] | 7 => [] | 8 => [7] | 9 => [6, 8] | 10 => [9] | 11 => [10] | 12 => [5, 11] | 13 => [12] | 14 => [] | _ => []) (fun i_ val_ pc_ v_ x_ => match i_ with | 0 => v_ = sv (bodyB s) ∧ x_ = [] | 1 => v_ = .int .i64 (((m : Nat) : Int)) ∧ x_ = [] | 2 => v_ = .int .u8 (((((bodyB s).getD m 0).toNat : Nat) : Int)) ∧ x_ = [] | 3 => v_ = .int .u8 (((((bodyB s).getD m 0).toNat : Nat) : Int) - 65) ∧ x_ = [] | 4 => v_ = .int .i64 (((((bodyB s).getD m 0).toNat : Nat) : Int) - 65) ∧ x_ = [] | 5 => v_ = .int .i64 (26 * (((((bodyB s).getD m 0).toNat : Nat) : Int) - 65)) ∧ x_ = [] | 6 => v_ = sv (bodyB s) ∧ x_ = [] | 7 => v_ = .int .i64 (((m : Nat) : Int)) ∧ x_ = [] | 8 => v_ = .int .i64 (((m + 1 : Nat) : Int)) ∧ x_ = [] | 9 => v_ = .int .u8 (((((bodyB s).getD (m + 1) 0).toNat : Nat) : Int)) ∧ x_ = [] | 10 => v_ = .int .u8 (((((bodyB s).getD (m + 1) 0).toNat : Nat) : Int) - 65) ∧ x_ = [] | 11 => v_ = .int .i64 (((((bodyB s).getD (m + 1) 0).toNat : Nat) : Int) - 65) ∧ x_ = [] | 12 => v_ = .int .i64 ((26 * (((((bodyB s).getD m 0).toNat : Nat) : Int) - 65)) + (((((bodyB s).getD (m + 1) 0).toNat : Nat) : Int) - 65)) ∧ x_ = [] | 13 => v_ = .agg #[.int .i64 ((26 * (((((bodyB s).getD m 0).toNat : Nat) : Int) - 65)) + (((((bodyB s).getD (m + 1) 0).toNat : Nat) : Int) - 65)), .int .i64 (-1)] ∧ x_ = [] | 14 => ∃ b7 : Nat, v_ = .pointer (some ⟨b7, 0, none⟩) ∧ x_ = (([(b7, .cells #[.int .i64 0, .int .i64 0] 60 (0, 0))] : Pcs) ++ []) | _ => True) (fun val5 => [sv s, undef, .slice none 0 0, .int .i64 0, sv (bodyB s), .bool (decide (bodyOk s)), w1, .int .i64 (((m : Nat) : Int)), (val5 14), .tuple #[sv (bodyB s), .bool (decide (bodyOk s))], sv s, .tuple #[sv (bodyB s), .bool (decide (bodyOk s))], sv (bodyB s), .bool (decide (bodyOk s)), .bool (decide (bodyOk s)), .bool (!(decide (bodyOk s))), .int .i64 (((m : Nat) : Int)), sv (bodyB s), .int .i64 ((((bodyB s).length : Nat) : Int)), .bool (decide (((m : Nat) : Int) < (((bodyB s).length : Nat) : Int))), (y2 20), (y2 21), (val5 0), (val5 1), (val5 2), (val5 3), (val5 4), (val5 5), (val5 6), (val5 7), (val5 8), (val5 9), (val5 10), (val5 11), (val5 12), (val5 13), (y2 36), (y2 37), (y2 38), (y2 39), (y2 40), (y2 41), (y2 42), (y2 43), (y2 44), (y2 45), (y2 46), (y2 47), (y2 48), (y2 49), (y2 50), (y2 51), (y2 52), (y2 53), (y2 54), undef]) mixed (by kernel_rfl) (Nat.le_of_ble_eq_true rfl) (by kernel_rfl) (by kernel_rfl) (by kernel_rfl) (fun _ _ => ⟨fun _ _ h => h.2, ⟨fun _ _ h => h.2, ⟨fun _ _ h => h.2, ⟨fun _ _ h => h.2, ⟨fun _ _ h => h.2, ⟨fun _ _ h => h.2, ⟨fun _ _ h => h.2, ⟨fun _ _ h => h.2, ⟨fun _ _ h => h.2, ⟨fun _ _ h => h.2, ⟨fun _ _ h => h.2, ⟨fun _ _ h => h.2, ⟨fun _ _ h => h.2, ⟨fun _ _ h => h.2, trivial⟩⟩⟩⟩⟩⟩⟩⟩⟩⟩⟩⟩⟩⟩) (fun _ => by kernel_rfl) (by kernel_rfl) ?_ ?_) (fun h_ H_ => St.swap (A := ([] : Pcs)) (U := (X1 ++ [])) H_)
      · refine mixes_cons rfl (opmix2 ?_) ?_
        · intro val5 pc6 hQ_ hX_
          obtain ⟨q_, hq0_⟩ : ∃ q_ : Value → Pcs → Prop, q_ = (fun v_ x_ => v_ = sv (bodyB s) ∧ x_ = []) := ⟨_, rfl⟩
          refine ⟨[sv s, undef, .slice none 0 0, .int .i64 0, sv (bodyB s), .bool (decide (bodyOk s)), w1, .int .i64 (((m : Nat) : Int)), (val5 14), .tuple #[sv (bodyB s), .bool (decide (bodyOk s))], sv s, .tuple #[sv (bodyB s), .bool (decide (bodyOk s))], sv (bodyB s), .bool (decide (bodyOk s)), .bool (decide (bodyOk s)), .bool (!(decide (bodyOk s))), .int .i64 (((m : Nat) : Int)), sv (bodyB s), .int .i64 ((((bodyB s).length : Nat) : Int)), .bool (decide (((m : Nat) : Int) < (((bodyB s).length : Nat) : Int))), (y2 20), (y2 21), (val5 0), (val5 1), (val5 2), (val5 3), (val5 4), (val5 5), (val5 6), (val5 7), (val5 8), (val5 9), (val5 10), (val5 11), (val5 12), (val5 13), (y2 36), (y2 37), (y2 38), (y2 39), (y2 40), (y2 41), (y2 42), (y2 43), (y2 44), (y2 45), (y2 46), (y2 47), (y2 48), (y2 49), (y2 50), (y2 51), (y2 52), (y2 53), (y2 54), undef], [], q_, rfl, rfl, (fun _ _ z_ => by subst hq0_; exact z_), ?_⟩
          subst hq0_
          exact mix_det (met_none rfl) (fun _ h_ H_ => exd_move (v := sv (bodyB s)) rfl) ⟨rfl, rfl⟩
        refine mixes_cons rfl (opmix2 ?_) ?_
        · intro val5 pc6 hQ_ hX_
          obtain ⟨q_, hq0_⟩ : ∃ q_ : Value → Pcs → Prop, q_ = (fun v_ x_ => v_ = .int .i64 (((m : Nat) : Int)) ∧ x_ = []) := ⟨_, rfl⟩
          refine ⟨[sv s, undef, .slice none 0 0, .int .i64 0, sv (bodyB s), .bool (decide (bodyOk s)), w1, .int .i64 (((m : Nat) : Int)), (val5 14), .tuple #[sv (bodyB s), .bool (decide (bodyOk s))], sv s, .tuple #[sv (bodyB s), .bool (decide (bodyOk s))], sv (bodyB s), .bool (decide (bodyOk s)), .bool (decide (bodyOk s)), .bool (!(decide (bodyOk s))), .int .i64 (((m : Nat) : Int)), sv (bodyB s), .int .i64 ((((bodyB s).length : Nat) : Int)), .bool (decide (((m : Nat) : Int) < (((bodyB s).length : Nat) : Int))), (y2 20), (y2 21), (val5 0), (val5 1), (val5 2), (val5 3), (val5 4), (val5 5), (val5 6), (val5 7), (val5 8), (val5 9), (val5 10), (val5 11), (val5 12), (val5 13), (y2 36), (y2 37), (y2 38), (y2 39), (y2 40), (y2 41), (y2 42), (y2 43), (y2 44), (y2 45), (y2 46), (y2 47), (y2 48), (y2 49), (y2 50), (y2 51), (y2 52), (y2 53), (y2 54), undef], [], q_, rfl, rfl, (fun _ _ z_ => by subst hq0_; exact z_), ?_⟩
          subst hq0_
          exact mix_det (met_none rfl) (fun _ h_ H_ => exd_move (v := .int .i64 (((m : Nat) : Int))) rfl) ⟨rfl, rfl⟩
        refine mixes_cons rfl (opmix2 ?_) ?_
        · intro val5 pc6 hQ_ hX_
          have e0_ : val5 0 = sv (bodyB s) := (hQ_ 0 rfl).1
          have e1_ : val5 1 = .int .i64 (((m : Nat) : Int)) := (hQ_ 1 rfl).1
          obtain ⟨q_, hq0_⟩ : ∃ q_ : Value → Pcs → Prop, q_ = (fun v_ x_ => v_ = .int .u8 (((((bodyB s).getD m 0).toNat : Nat) : Int)) ∧ x_ = []) := ⟨_, rfl⟩
          refine ⟨[sv s, undef, .slice none 0 0, .int .i64 0, sv (bodyB s), .bool (decide (bodyOk s)), w1, .int .i64 (((m : Nat) : Int)), (val5 14), .tuple #[sv (bodyB s), .bool (decide (bodyOk s))], sv s, .tuple #[sv (bodyB s), .bool (decide (bodyOk s))], sv (bodyB s), .bool (decide (bodyOk s)), .bool (decide (bodyOk s)), .bool (!(decide (bodyOk s))), .int .i64 (((m : Nat) : Int)), sv (bodyB s), .int .i64 ((((bodyB s).length : Nat) : Int)), .bool (decide (((m : Nat) : Int) < (((bodyB s).length : Nat) : Int))), (y2 20), (y2 21), sv (bodyB s), .int .i64 (((m : Nat) : Int)), (val5 2), (val5 3), (val5 4), (val5 5), (val5 6), (val5 7), (val5 8), (val5 9), (val5 10), (val5 11), (val5 12), (val5 13), (y2 36), (y2 37), (y2 38), (y2 39), (y2 40), (y2 41), (y2 42), (y2 43), (y2 44), (y2 45), (y2 46), (y2 47), (y2 48), (y2 49), (y2 50), (y2 51), (y2 52), (y2 53), (y2 54), undef], [], q_, (by simp only [e0_, e1_]), rfl, (fun _ _ z_ => by subst hq0_; exact z_), ?_⟩
          subst hq0_
          exact mix_det (met_none rfl) (fun _ h_ H_ => exd_indexSN (l := bodyB s) (i := m) Tryd.underlying9 rfl rfl (by omega)) ⟨rfl, rfl⟩
        refine mixes_cons rfl (opmix2 ?_) ?_
        · intro val5 pc6 hQ_ hX_
          have e2_ : val5 2 = .int .u8 (((((bodyB s).getD m 0).toNat : Nat) : Int)) := (hQ_ 2 rfl).1
          obtain ⟨q_, hq0_⟩ : ∃ q_ : Value → Pcs → Prop, q_ = (fun v_ x_ => v_ = .int .u8 (((((bodyB s).getD m 0).toNat : Nat) : Int) - 65) ∧ x_ = []) := ⟨_, rfl⟩
          refine ⟨[sv s, undef, .slice none 0 0, .int .i64 0, sv (bodyB s), .bool (decide (bodyOk s)), w1, .int .i64 (((m : Nat) : Int)), (val5 14), .tuple #[sv (bodyB s), .bool (decide (bodyOk s))], sv s, .tuple #[sv (bodyB s), .bool (decide (bodyOk s))], sv (bodyB s), .bool (decide (bodyOk s)), .bool (decide (bodyOk s)), .bool (!(decide (bodyOk s))), .int .i64 (((m : Nat) : Int)), sv (bodyB s), .int .i64 ((((bodyB s).length : Nat) : Int)), .bool (decide (((m : Nat) : Int) < (((bodyB s).length : Nat) : Int))), (y2 20), (y2 21), (val5 0), (val5 1), .int .u8 (((((bodyB s).getD m 0).toNat : Nat) : Int)), (val5 3), (val5 4), (val5 5), (val5 6), (val5 7), (val5 8), (val5 9), (val5 10), (val5 11), (val5 12), (val5 13), (y2 36), (y2 37), (y2 38), (y2 39), (y2 40), (y2 41), (y2 42), (y2 43), (y2 44), (y2 45), (y2 46), (y2 47), (y2 48), (y2 49), (y2 50), (y2 51), (y2 52), (y2 53), (y2 54), undef], [], q_, (by simp only [e2_]), rfl, (fun _ _ z_ => by subst hq0_; exact z_), ?_⟩
          subst hq0_
          exact mix_det (met_none rfl) (fun _ h_ H_ => exd_sub rfl rfl (wr8 (by omega))) ⟨rfl, rfl⟩
        refine mixes_cons rfl (opmix2 ?_) ?_
        · intro val5 pc6 hQ_ hX_
          have e3_ : val5 3 = .int .u8 (((((bodyB s).getD m 0).toNat : Nat) : Int) - 65) := (hQ_ 3 rfl).1
          obtain ⟨q_, hq0_⟩ : ∃ q_ : Value → Pcs → Prop, q_ = (fun v_ x_ => v_ = .int .i64 (((((bodyB s).getD m 0).toNat : Nat) : Int) - 65) ∧ x_ = []) := ⟨_, rfl⟩
          refine ⟨[sv s, undef, .slice none 0 0, .int .i64 0, sv (bodyB s), .bool (decide (bodyOk s)), w1, .int .i64 (((m : Nat) : Int)), (val5 14), .tuple #[sv (bodyB s), .bool (decide (bodyOk s))], sv s, .tuple #[sv (bodyB s), .bool (decide (bodyOk s))], sv (bodyB s), .bool (decide (bodyOk s)), .bool (decide (bodyOk s)), .bool (!(decide (bodyOk s))), .int .i64 (((m : Nat) : Int)), sv (bodyB s), .int .i64 ((((bodyB s).length : Nat) : Int)), .bool (decide (((m : Nat) : Int) < (((bodyB s).length : Nat) : Int))), (y2 20), (y2 21), (val5 0), (val5 1), (val5 2), .int .u8 (((((bodyB s).getD m 0).toNat : Nat) : Int) - 65), (val5 4), (val5 5), (val5 6), (val5 7), (val5 8), (val5 9), (val5 10), (val5 11), (val5 12), (val5 13), (y2 36), (y2 37), (y2 38), (y2 39), (y2 40), (y2 41), (y2 42), (y2 43), (y2 44), (y2 45), (y2 46), (y2 47), (y2 48), (y2 49), (y2 50), (y2 51), (y2 52), (y2 53), (y2 54), undef], [], q_, (by simp only [e3_]), rfl, (fun _ _ z_ => by subst hq0_; exact z_), ?_⟩
          subst hq0_
          exact mix_det (met_none rfl) (fun _ h_ H_ => exd_conv ⟨_, Tryd.underlying5⟩ Tryd.underlying3 rfl (n := ((((bodyB s).getD m 0).toNat : Nat) : Int) - 65) (wr (by omega))) ⟨rfl, rfl⟩
        refine mixes_cons rfl (opmix2 ?_) ?_
        · intro val5 pc6 hQ_ hX_
          have e4_ : val5 4 = .int .i64 (((((bodyB s).getD m 0).toNat : Nat) : Int) - 65) := (hQ_ 4 rfl).1
          obtain ⟨q_, hq0_⟩ : ∃ q_ : Value → Pcs → Prop, q_ = (fun v_ x_ => v_ = .int .i64 (26 * (((((bodyB s).getD m 0).toNat : Nat) : Int) - 65)) ∧ x_ = []) := ⟨_, rfl⟩
          refine ⟨[sv s, undef, .slice none 0 0, .int .i64 0, sv (bodyB s), .bool (decide (bodyOk s)), w1, .int .i64 (((m : Nat) : Int)), (val5 14), .tuple #[sv (bodyB s), .bool (decide (bodyOk s))], sv s, .tuple #[sv (bodyB s), .bool (decide (bodyOk s))], sv (bodyB s), .bool (decide (bodyOk s)), .bool (decide (bodyOk s)), .bool (!(decide (bodyOk s))), .int .i64 (((m : Nat) : Int)), sv (bodyB s), .int .i64 ((((bodyB s).length : Nat) : Int)), .bool (decide (((m : Nat) : Int) < (((bodyB s).length : Nat) : Int))), (y2 20), (y2 21), (val5 0), (val5 1), (val5 2), (val5 3), .int .i64 (((((bodyB s).getD m 0).toNat : Nat) : Int) - 65), (val5 5), (val5 6), (val5 7), (val5 8), (val5 9), (val5 10), (val5 11), (val5 12), (val5 13), (y2 36), (y2 37), (y2 38), (y2 39), (y2 40), (y2 41), (y2 42), (y2 43), (y2 44), (y2 45), (y2 46), (y2 47), (y2 48), (y2 49), (y2 50), (y2 51), (y2 52), (y2 53), (y2 54), undef], [], q_, (by simp only [e4_]), rfl, (fun _ _ z_ => by subst hq0_; exact z_), ?_⟩
          subst hq0_
          exact mix_det (met_none rfl) (fun _ h_ H_ => exd_mul rfl rfl (wr (by omega))) ⟨rfl, rfl⟩
        refine mixes_cons rfl (opmix2 ?_) ?_
        · intro val5 pc6 hQ_ hX_
          obtain ⟨q_, hq0_⟩ : ∃ q_ : Value → Pcs → Prop, q_ = (fun v_ x_ => v_ = sv (bodyB s) ∧ x_ = []) := ⟨_, rfl⟩
          refine ⟨[sv s, undef, .slice none 0 0, .int .i64 0, sv (bodyB s), .bool (decide (bodyOk s)), w1, .int .i64 (((m : Nat) : Int)), (val5 14), .tuple #[sv (bodyB s), .bool (decide (bodyOk s))], sv s, .tuple #[sv (bodyB s), .bool (decide (bodyOk s))], sv (bodyB s), .bool (decide (bodyOk s)), .bool (decide (bodyOk s)), .bool (!(decide (bodyOk s))), .int .i64 (((m : Nat) : Int)), sv (bodyB s), .int .i64 ((((bodyB s).length : Nat) : Int)), .bool (decide (((m : Nat) : Int) < (((bodyB s).length : Nat) : Int))), (y2 20), (y2 21), (val5 0), (val5 1), (val5 2), (val5 3), (val5 4), (val5 5), (val5 6), (val5 7), (val5 8), (val5 9), (val5 10), (val5 11), (val5 12), (val5 13), (y2 36), (y2 37), (y2 38), (y2 39), (y2 40), (y2 41), (y2 42), (y2 43), (y2 44), (y2 45), (y2 46), (y2 47), (y2 48), (y2 49), (y2 50), (y2 51), (y2 52), (y2 53), (y2 54), undef], [], q_, rfl, rfl, (fun _ _ z_ => by subst hq0_; exact z_), ?_⟩
          subst hq0_
          exact mix_det (met_none rfl) (fun _ h_ H_ => exd_move (v := sv (bodyB s)) rfl) ⟨rfl, rfl⟩
        refine mixes_cons rfl (opmix2 ?_) ?_
        · intro val5 pc6 hQ_ hX_
          obtain ⟨q_, hq0_⟩ : ∃ q_ : Value → Pcs → Prop, q_ = (fun v_ x_ => v_ = .int .i64 (((m : Nat) : Int)) ∧ x_ = []) := ⟨_, rfl⟩
          refine ⟨[sv s, undef, .slice none 0 0, .int .i64 0, sv (bodyB s), .bool (decide (bodyOk s)), w1, .int .i64 (((m : Nat) : Int)), (val5 14), .tuple #[sv (bodyB s), .bool (decide (bodyOk s))], sv s, .tuple #[sv (bodyB s), .bool (decide (bodyOk s))], sv (bodyB s), .bool (decide (bodyOk s)), .bool (decide (bodyOk s)), .bool (!(decide (bodyOk s))), .int .i64 (((m : Nat) : Int)), sv (bodyB s), .int .i64 ((((bodyB s).length : Nat) : Int)), .bool (decide (((m : Nat) : Int) < (((bodyB s).length : Nat) : Int))), (y2 20), (y2 21), (val5 0), (val5 1), (val5 2), (val5 3), (val5 4), (val5 5), (val5 6), (val5 7), (val5 8), (val5 9), (val5 10), (val5 11), (val5 12), (val5 13), (y2 36), (y2 37), (y2 38), (y2 39), (y2 40), (y2 41), (y2 42), (y2 43), (y2 44), (y2 45), (y2 46), (y2 47), (y2 48), (y2 49), (y2 50), (y2 51), (y2 52), (y2 53), (y2 54), undef], [], q_, rfl, rfl, (fun _ _ z_ => by subst hq0_; exact z_), ?_⟩
          subst hq0_
          exact mix_det (met_none rfl) (fun _ h_ H_ => exd_move (v := .int .i64 (((m : Nat) : Int))) rfl) ⟨rfl, rfl⟩
        refine mixes_cons rfl (opmix2 ?_) ?_
        · intro val5 pc6 hQ_ hX_
          have e7_ : val5 7 = .int .i64 (((m : Nat) : Int)) := (hQ_ 7 rfl).1
          obtain ⟨q_, hq0_⟩ : ∃ q_ : Value → Pcs → Prop, q_ = (fun v_ x_ => v_ = .int .i64 (((m + 1 : Nat) : Int)) ∧ x_ = []) := ⟨_, rfl⟩
          refine ⟨[sv s, undef, .slice none 0 0, .int .i64 0, sv (bodyB s), .bool (decide (bodyOk s)), w1, .int .i64 (((m : Nat) : Int)), (val5 14), .tuple #[sv (bodyB s), .bool (decide (bodyOk s))], sv s, .tuple #[sv (bodyB s), .bool (decide (bodyOk s))], sv (bodyB s), .bool (decide (bodyOk s)), .bool (decide (bodyOk s)), .bool (!(decide (bodyOk s))), .int .i64 (((m : Nat) : Int)), sv (bodyB s), .int .i64 ((((bodyB s).length : Nat) : Int)), .bool (decide (((m : Nat) : Int) < (((bodyB s).length : Nat) : Int))), (y2 20), (y2 21), (val5 0), (val5 1), (val5 2), (val5 3), (val5 4), (val5 5), (val5 6), .int .i64 (((m : Nat) : Int)), (val5 8), (val5 9), (val5 10), (val5 11), (val5 12), (val5 13), (y2 36), (y2 37), (y2 38), (y2 39), (y2 40), (y2 41), (y2 42), (y2 43), (y2 44), (y2 45), (y2 46), (y2 47), (y2 48), (y2 49), (y2 50), (y2 51), (y2 52), (y2 53), (y2 54), undef], [], q_, (by simp only [e7_]), rfl, (fun _ _ z_ => by subst hq0_; exact z_), ?_⟩
          subst hq0_
          exact mix_det (met_none rfl) (fun _ h_ H_ => exd_add rfl rfl (n := ((m + 1 : Nat) : Int)) (wr (by omega))) ⟨rfl, rfl⟩
        refine mixes_cons rfl (opmix2 ?_) ?_
        · intro val5 pc6 hQ_ hX_
          have e6_ : val5 6 = sv (bodyB s) := (hQ_ 6 rfl).1
          have e8_ : val5 8 = .int .i64 (((m + 1 : Nat) : Int)) := (hQ_ 8 rfl).1
          obtain ⟨q_, hq0_⟩ : ∃ q_ : Value → Pcs → Prop, q_ = (fun v_ x_ => v_ = .int .u8 (((((bodyB s).getD (m + 1) 0).toNat : Nat) : Int)) ∧ x_ = []) := ⟨_, rfl⟩
          refine ⟨[sv s, undef, .slice none 0 0, .int .i64 0, sv (bodyB s), .bool (decide (bodyOk s)), w1, .int .i64 (((m : Nat) : Int)), (val5 14), .tuple #[sv (bodyB s), .bool (decide (bodyOk s))], sv s, .tuple #[sv (bodyB s), .bool (decide (bodyOk s))], sv (bodyB s), .bool (decide (bodyOk s)), .bool (decide (bodyOk s)), .bool (!(decide (bodyOk s))), .int .i64 (((m : Nat) : Int)), sv (bodyB s), .int .i64 ((((bodyB s).length : Nat) : Int)), .bool (decide (((m : Nat) : Int) < (((bodyB s).length : Nat) : Int))), (y2 20), (y2 21), (val5 0), (val5 1), (val5 2), (val5 3), (val5 4), (val5 5), sv (bodyB s), (val5 7), .int .i64 (((m + 1 : Nat) : Int)), (val5 9), (val5 10), (val5 11), (val5 12), (val5 13), (y2 36), (y2 37), (y2 38), (y2 39), (y2 40), (y2 41), (y2 42), (y2 43), (y2 44), (y2 45), (y2 46), (y2 47), (y2 48), (y2 49), (y2 50), (y2 51), (y2 52), (y2 53), (y2 54), undef], [], q_, (by simp only [e6_, e8_]), rfl, (fun _ _ z_ => by subst hq0_; exact z_), ?_⟩
          subst hq0_
          exact mix_det (met_none rfl) (fun _ h_ H_ => exd_indexSN (l := bodyB s) (i := (m + 1)) Tryd.underlying9 rfl rfl (by omega)) ⟨rfl, rfl⟩
        refine mixes_cons rfl (opmix2 ?_) ?_
        · intro val5 pc6 hQ_ hX_
          have e9_ : val5 9 = .int .u8 (((((bodyB s).getD (m + 1) 0).toNat : Nat) : Int)) := (hQ_ 9 rfl).1
          obtain ⟨q_, hq0_⟩ : ∃ q_ : Value → Pcs → Prop, q_ = (fun v_ x_ => v_ = .int .u8 (((((bodyB s).getD (m + 1) 0).toNat : Nat) : Int) - 65) ∧ x_ = []) := ⟨_, rfl⟩
          refine ⟨[sv s, undef, .slice none 0 0, .int .i64 0, sv (bodyB s), .bool (decide (bodyOk s)), w1, .int .i64 (((m : Nat) : Int)), (val5 14), .tuple #[sv (bodyB s), .bool (decide (bodyOk s))], sv s, .tuple #[sv (bodyB s), .bool (decide (bodyOk s))], sv (bodyB s), .bool (decide (bodyOk s)), .bool (decide (bodyOk s)), .bool (!(decide (bodyOk s))), .int .i64 (((m : Nat) : Int)), sv (bodyB s), .int .i64 ((((bodyB s).length : Nat) : Int)), .bool (decide (((m : Nat) : Int) < (((bodyB s).length : Nat) : Int))), (y2 20), (y2 21), (val5 0), (val5 1), (val5 2), (val5 3), (val5 4), (val5 5), (val5 6), (val5 7), (val5 8), .int .u8 (((((bodyB s).getD (m + 1) 0).toNat : Nat) : Int)), (val5 10), (val5 11), (val5 12), (val5 13), (y2 36), (y2 37), (y2 38), (y2 39), (y2 40), (y2 41), (y2 42), (y2 43), (y2 44), (y2 45), (y2 46), (y2 47), (y2 48), (y2 49), (y2 50), (y2 51), (y2 52), (y2 53), (y2 54), undef], [], q_, (by simp only [e9_]), rfl, (fun _ _ z_ => by subst hq0_; exact z_), ?_⟩
          subst hq0_
          exact mix_det (met_none rfl) (fun _ h_ H_ => exd_sub rfl rfl (wr8 (by omega))) ⟨rfl, rfl⟩
        refine mixes_cons rfl (opmix2 ?_) ?_
        · intro val5 pc6 hQ_ hX_
          have e10_ : val5 10 = .int .u8 (((((bodyB s).getD (m + 1) 0).toNat : Nat) : Int) - 65) := (hQ_ 10 rfl).1
          obtain ⟨q_, hq0_⟩ : ∃ q_ : Value → Pcs → Prop, q_ = (fun v_ x_ => v_ = .int .i64 (((((bodyB s).getD (m + 1) 0).toNat : Nat) : Int) - 65) ∧ x_ = []) := ⟨_, rfl⟩
          refine ⟨[sv s, undef, .slice none 0 0, .int .i64 0, sv (bodyB s), .bool (decide (bodyOk s)), w1, .int .i64 (((m : Nat) : Int)), (val5 14), .tuple #[sv (bodyB s), .bool (decide (bodyOk s))], sv s, .tuple #[sv (bodyB s), .bool (decide (bodyOk s))], sv (bodyB s), .bool (decide (bodyOk s)), .bool (decide (bodyOk s)), .bool (!(decide (bodyOk s))), .int .i64 (((m : Nat) : Int)), sv (bodyB s), .int .i64 ((((bodyB s).length : Nat) : Int)), .bool (decide (((m : Nat) : Int) < (((bodyB s).length : Nat) : Int))), (y2 20), (y2 21), (val5 0), (val5 1), (val5 2), (val5 3), (val5 4), (val5 5), (val5 6), (val5 7), (val5 8), (val5 9), .int .u8 (((((bodyB s).getD (m + 1) 0).toNat : Nat) : Int) - 65), (val5 11), (val5 12), (val5 13), (y2 36), (y2 37), (y2 38), (y2 39), (y2 40), (y2 41), (y2 42), (y2 43), (y2 44), (y2 45), (y2 46), (y2 47), (y2 48), (y2 49), (y2 50), (y2 51), (y2 52), (y2 53), (y2 54), undef], [], q_, (by simp only [e10_]), rfl, (fun _ _ z_ => by subst hq0_; exact z_), ?_⟩
          subst hq0_
          exact mix_det (met_none rfl) (fun _ h_ H_ => exd_conv ⟨_, Tryd.underlying5⟩ Tryd.underlying3 rfl (n := ((((bodyB s).getD (m + 1) 0).toNat : Nat) : Int) - 65) (wr (by omega))) ⟨rfl, rfl⟩
        refine mixes_cons rfl (opmix2 ?_) ?_
        · intro val5 pc6 hQ_ hX_
          have e5_ : val5 5 = .int .i64 (26 * (((((bodyB s).getD m 0).toNat : Nat) : Int) - 65)) := (hQ_ 5 rfl).1
          have e11_ : val5 11 = .int .i64 (((((bodyB s).getD (m + 1) 0).toNat : Nat) : Int) - 65) := (hQ_ 11 rfl).1
          obtain ⟨q_, hq0_⟩ : ∃ q_ : Value → Pcs → Prop, q_ = (fun v_ x_ => v_ = .int .i64 ((26 * (((((bodyB s).getD m 0).toNat : Nat) : Int) - 65)) + (((((bodyB s).getD (m + 1) 0).toNat : Nat) : Int) - 65)) ∧ x_ = []) := ⟨_, rfl⟩
          refine ⟨[sv s, undef, .slice none 0 0, .int .i64 0, sv (bodyB s), .bool (decide (bodyOk s)), w1, .int .i64 (((m : Nat) : Int)), (val5 14), .tuple #[sv (bodyB s), .bool (decide (bodyOk s))], sv s, .tuple #[sv (bodyB s), .bool (decide (bodyOk s))], sv (bodyB s), .bool (decide (bodyOk s)), .bool (decide (bodyOk s)), .bool (!(decide (bodyOk s))), .int .i64 (((m : Nat) : Int)), sv (bodyB s), .int .i64 ((((bodyB s).length : Nat) : Int)), .bool (decide (((m : Nat) : Int) < (((bodyB s).length : Nat) : Int))), (y2 20), (y2 21), (val5 0), (val5 1), (val5 2), (val5 3), (val5 4), .int .i64 (26 * (((((bodyB s).getD m 0).toNat : Nat) : Int) - 65)), (val5 6), (val5 7), (val5 8), (val5 9), (val5 10), .int .i64 (((((bodyB s).getD (m + 1) 0).toNat : Nat) : Int) - 65), (val5 12), (val5 13), (y2 36), (y2 37), (y2 38), (y2 39), (y2 40), (y2 41), (y2 42), (y2 43), (y2 44), (y2 45), (y2 46), (y2 47), (y2 48), (y2 49), (y2 50), (y2 51), (y2 52), (y2 53), (y2 54), undef], [], q_, (by simp only [e5_, e11_]), rfl, (fun _ _ z_ => by subst hq0_; exact z_), ?_⟩
          subst hq0_
          exact mix_det (met_none rfl) (fun _ h_ H_ => exd_add rfl rfl (wr (by omega))) ⟨rfl, rfl⟩
        refine mixes_cons rfl (opmix2 ?_) ?_
        · intro val5 pc6 hQ_ hX_
          have e12_ : val5 12 = .int .i64 ((26 * (((((bodyB s).getD m 0).toNat : Nat) : Int) - 65)) + (((((bodyB s).getD (m + 1) 0).toNat : Nat) : Int) - 65)) := (hQ_ 12 rfl).1
          obtain ⟨q_, hq0_⟩ : ∃ q_ : Value → Pcs → Prop, q_ = (fun v_ x_ => v_ = .agg #[.int .i64 ((26 * (((((bodyB s).getD m 0).toNat : Nat) : Int) - 65)) + (((((bodyB s).getD (m + 1) 0).toNat : Nat) : Int) - 65)), .int .i64 (-1)] ∧ x_ = []) := ⟨_, rfl⟩
          refine ⟨[sv s, undef, .slice none 0 0, .int .i64 0, sv (bodyB s), .bool (decide (bodyOk s)), w1, .int .i64 (((m : Nat) : Int)), (val5 14), .tuple #[sv (bodyB s), .bool (decide (bodyOk s))], sv s, .tuple #[sv (bodyB s), .bool (decide (bodyOk s))], sv (bodyB s), .bool (decide (bodyOk s)), .bool (decide (bodyOk s)), .bool (!(decide (bodyOk s))), .int .i64 (((m : Nat) : Int)), sv (bodyB s), .int .i64 ((((bodyB s).length : Nat) : Int)), .bool (decide (((m : Nat) : Int) < (((bodyB s).length : Nat) : Int))), (y2 20), (y2 21), (val5 0), (val5 1), (val5 2), (val5 3), (val5 4), (val5 5), (val5 6), (val5 7), (val5 8), (val5 9), (val5 10), (val5 11), .int .i64 ((26 * (((((bodyB s).getD m 0).toNat : Nat) : Int) - 65)) + (((((bodyB s).getD (m + 1) 0).toNat : Nat) : Int) - 65)), (val5 13), (y2 36), (y2 37), (y2 38), (y2 39), (y2 40), (y2 41), (y2 42), (y2 43), (y2 44), (y2 45), (y2 46), (y2 47), (y2 48), (y2 49), (y2 50), (y2 51), (y2 52), (y2 53), (y2 54), undef], [], q_, (by simp only [e12_]), rfl, (fun _ _ z_ => by subst hq0_; exact z_), ?_⟩
          subst hq0_
          exact mix_det (met_none rfl) (fun _ h_ H_ => exd_build tZ60 tP60 (vs := [(0, .int .i64 ((26 * (((((bodyB s).getD m 0).toNat : Nat) : Int) - 65)) + (((((bodyB s).getD (m + 1) 0).toNat : Nat) : Int) - 65))), (1, .int .i64 (-1))]) rfl (cells := #[.int .i64 ((26 * (((((bodyB s).getD m 0).toNat : Nat) : Int) - 65)) + (((((bodyB s).getD (m + 1) 0).toNat : Nat) : Int) - 65)), .int .i64 (-1)]) rfl) ⟨rfl, rfl⟩
        refine mixes_cons rfl (opmix2 ?_) ?_
        · intro val5 pc6 hQ_ hX_
          obtain ⟨q_, hq0_⟩ : ∃ q_ : Value → Pcs → Prop, q_ = (fun v_ x_ => ∃ b7 : Nat, v_ = .pointer (some ⟨b7, 0, none⟩) ∧ x_ = (([(b7, .cells #[.int .i64 0, .int .i64 0] 60 (0, 0))] : Pcs) ++ [])) := ⟨_, rfl⟩
          refine ⟨[sv s, undef, .slice none 0 0, .int .i64 0, sv (bodyB s), .bool (decide (bodyOk s)), w1, .int .i64 (((m : Nat) : Int)), (val5 14), .tuple #[sv (bodyB s), .bool (decide (bodyOk s))], sv s, .tuple #[sv (bodyB s), .bool (decide (bodyOk s))], sv (bodyB s), .bool (decide (bodyOk s)), .bool (decide (bodyOk s)), .bool (!(decide (bodyOk s))), .int .i64 (((m : Nat) : Int)), sv (bodyB s), .int .i64 ((((bodyB s).length : Nat) : Int)), .bool (decide (((m : Nat) : Int) < (((bodyB s).length : Nat) : Int))), (y2 20), (y2 21), (val5 0), (val5 1), (val5 2), (val5 3), (val5 4), (val5 5), (val5 6), (val5 7), (val5 8), (val5 9), (val5 10), (val5 11), (val5 12), (val5 13), (y2 36), (y2 37), (y2 38), (y2 39), (y2 40), (y2 41), (y2 42), (y2 43), (y2 44), (y2 45), (y2 46), (y2 47), (y2 48), (y2 49), (y2 50), (y2 51), (y2 52), (y2 53), (y2 54), undef], [], q_, rfl, rfl, (fun _ _ z_ => by subst hq0_; exact z_), ?_⟩
          subst hq0_
          exact mix_alloc (met_none rfl) tZ60 rfl fun b_ => ⟨b_, rfl, rfl⟩
        exact mixes_nil rfl
      intro val5 pc6 hQ_ hX_
      have e0_ : val5 0 = sv (bodyB s) := (hQ_ 0 (by decide)).1
      have e1_ : val5 1 = .int .i64 (((m : Nat) : Int)) := (hQ_ 1 (by decide)).1
      have e2_ : val5 2 = .int .u8 (((((bodyB s).getD m 0).toNat : Nat) : Int)) := (hQ_ 2 (by decide)).1
      have e3_ : val5 3 = .int .u8 (((((bodyB s).getD m 0).toNat : Nat) : Int) - 65) := (hQ_ 3 (by decide)).1
      have e4_ : val5 4 = .int .i64 (((((bodyB s).getD m 0).toNat : Nat) : Int) - 65) := (hQ_ 4 (by decide)).1
      have e5_ : val5 5 = .int .i64 (26 * (((((bodyB s).getD m 0).toNat : Nat) : Int) - 65)) := (hQ_ 5 (by decide)).1
      have e6_ : val5 6 = sv (bodyB s) := (hQ_ 6 (by decide)).1
      have e7_ : val5 7 = .int .i64 (((m : Nat) : Int)) := (hQ_ 7 (by decide)).1
      have e8_ : val5 8 = .int .i64 (((m + 1 : Nat) : Int)) := (hQ_ 8 (by decide)).1
      have e9_ : val5 9 = .int .u8 (((((bodyB s).getD (m + 1) 0).toNat : Nat) : Int)) := (hQ_ 9 (by decide)).1
      have e10_ : val5 10 = .int .u8 (((((bodyB s).getD (m + 1) 0).toNat : Nat) : Int) - 65) := (hQ_ 10 (by decide)).1
      have e11_ : val5 11 = .int .i64 (((((bodyB s).getD (m + 1) 0).toNat : Nat) : Int) - 65) := (hQ_ 11 (by decide)).1
      have e12_ : val5 12 = .int .i64 ((26 * (((((bodyB s).getD m 0).toNat : Nat) : Int) - 65)) + (((((bodyB s).getD (m + 1) 0).toNat : Nat) : Int) - 65)) := (hQ_ 12 (by decide)).1
      have e13_ : val5 13 = .agg #[.int .i64 ((26 * (((((bodyB s).getD m 0).toNat : Nat) : Int) - 65)) + (((((bodyB s).getD (m + 1) 0).toNat : Nat) : Int) - 65)), .int .i64 (-1)] := (hQ_ 13 (by decide)).1
      obtain ⟨e14_, x14_⟩ := hG14_ _ _ (hQ_ 14 (by decide))
      have x15_ : pc6 15 = X1 := hX_ 15 (by decide)
      clear hQ_ hX_
      generalize Gb7 (val5 14) (pc6 14) = b7 at *
      refine rl_as (Φ := fun h_ => St h [] (fun _ => none) h_ (([] : Pcs) ++ (pc6 15 ++ (pc6 14 ++ [])))) ?_ (fun h_ H_ => H_.swap')
      rw [x15_, x14_]
      refine rl_own (L' := ([] : Pcs) ++ (X1 ++ (([(b7, .cells #[.int .i64 0, .int .i64 0] 60 (0, 0))] : Pcs) ++ []))) (by simp) ?_
      refine rl_norm (tm' := [sv s, undef, .slice none 0 0, .int .i64 0, sv (bodyB s), .bool (decide (bodyOk s)), w1, .int .i64 (((m : Nat) : Int)), .pointer (some ⟨b7, 0, none⟩), .tuple #[sv (bodyB s), .bool (decide (bodyOk s))], sv s, .tuple #[sv (bodyB s), .bool (decide (bodyOk s))], sv (bodyB s), .bool (decide (bodyOk s)), .bool (decide (bodyOk s)), .bool (!(decide (bodyOk s))), .int .i64 (((m : Nat) : Int)), sv (bodyB s), .int .i64 ((((bodyB s).length : Nat) : Int)), .bool (decide (((m : Nat) : Int) < (((bodyB s).length : Nat) : Int))), (y2 20), (y2 21), sv (bodyB s), .int .i64 (((m : Nat) : Int)), .int .u8 (((((bodyB s).getD m 0).toNat : Nat) : Int)), .int .u8 (((((bodyB s).getD m 0).toNat : Nat) : Int) - 65), .int .i64 (((((bodyB s).getD m 0).toNat : Nat) : Int) - 65), .int .i64 (26 * (((((bodyB s).getD m 0).toNat : Nat) : Int) - 65)), sv (bodyB s), .int .i64 (((m : Nat) : Int)), .int .i64 (((m + 1 : Nat) : Int)), .int .u8 (((((bodyB s).getD (m + 1) 0).toNat : Nat) : Int)), .int .u8 (((((bodyB s).getD (m + 1) 0).toNat : Nat) : Int) - 65), .int .i64 (((((bodyB s).getD (m + 1) 0).toNat : Nat) : Int) - 65), .int .i64 ((26 * (((((bodyB s).getD m 0).toNat : Nat) : Int) - 65)) + (((((bodyB s).getD (m + 1) 0).toNat : Nat) : Int) - 65)), .agg #[.int .i64 ((26 * (((((bodyB s).getD m 0).toNat : Nat) : Int) - 65)) + (((((bodyB s).getD (m + 1) 0).toNat : Nat) : Int) - 65)), .int .i64 (-1)], (y2 36), (y2 37), (y2 38), (y2 39), (y2 40), (y2 41), (y2 42), (y2 43), (y2 44), (y2 45), (y2 46), (y2 47), (y2 48), (y2 49), (y2 50), (y2 51), (y2 52), (y2 53), (y2 54), undef]) (by simp only [e0_, e1_, e2_, e3_, e4_, e5_, e6_, e7_, e8_, e9_, e10_, e11_, e12_, e13_, e14_]) ?_
      refine rl_own (L' := ([] : Pcs) ++ (X1 ++ (([(b7, .cells #[.int .i64 0, .int .i64 0] 60 (0, 0))] : Pcs) ++ []))) rfl ?_
      refine rl_perm (List.Perm.append_left _ (List.perm_append_comm_assoc _ _ _)) ?_
      refine rl_own (L' := ([] : Pcs) ++ (([(b7, .cells #[.int .i64 0, .int .i64 0] 60 (0, 0))] : Pcs) ++ (X1 ++ []))) rfl ?_
      refine rl_perm (List.perm_append_comm_assoc ([] : Pcs) ([(b7, .cells #[.int .i64 0, .int .i64 0] 60 (0, 0))] : Pcs) _) ?_
      refine rl_own (L' := ([(b7, .cells #[.int .i64 0, .int .i64 0] 60 (0, 0))] : Pcs) ++ (X1 ++ [])) rfl ?_
      refine rl_store (met_none rfl) tS60 rfl (v := .agg #[.int .i64 ((26 * (((((bodyB s).getD m 0).toNat : Nat) : Int) - 65)) + (((((bodyB s).getD (m + 1) 0).toNat : Nat) : Int) - 65)), .int .i64 (-1)]) rfl (i := 0) rfl rfl rfl (Nat.le_of_ble_eq_true rfl) (cs2 := [.int .i64 ((26 * (((((bodyB s).getD m 0).toNat : Nat) : Int) - 65)) + (((((bodyB s).getD (m + 1) 0).toNat : Nat) : Int) - 65)), .int .i64 (-1)]) rfl (rl_own (L' := ([(b7, .cells #[.int .i64 ((26 * (((((bodyB s).getD m 0).toNat : Nat) : Int) - 65)) + (((((bodyB s).getD (m + 1) 0).toNat : Nat) : Int) - 65)), .int .i64 (-1)] 60 (0, 0))] : Pcs) ++ (X1 ++ [])) rfl ?_)
      refine rl_end ?_
      refine fl_seq ?_
      refine fl_seq ?_
      refine rl_start ?_
      refine rl_det (met_none rfl) (fun h_ H_ => exd_move (v := .int .i64 (((m : Nat) : Int))) rfl) (tm' := _::_::_::_::_::_::_::_::_::_::_::_::_::_::_::_::_::_::_::_::_::_::_::_::_::_::_::_::_::_::_::_::_::_::_::_::_::_) rfl ?_
      refine rl_det (met_none rfl) (fun h_ H_ => exd_add rfl rfl (n := ((m + 2 : Nat) : Int)) (wr (by omega))) rfl ?_
      refine rl_det (met_none rfl) (fun h_ H_ => exd_move (v := sv (bodyB s)) rfl) rfl ?_
      refine rl_det (met_none rfl) (fun h_ H_ => exd_lenS (l := bodyB s) Tryd.underlying9 rfl) (tm' := [_,_,_,_,_,_,_,_,_,_,_,_,_,_,_,_,_,_,_,_,_,_,_,_,_,_,_,_,_,_,_,_,_,_,_,_,_,_,_,_,_,_,_,_,_,_,_,_,_,_,_,_,_,_,_,_]) rfl ?_
      refine rl_det (met_none rfl) (fun h_ H_ => exd_lss rfl rfl) rfl ?_
      refine rl_end ?_
      by_cases cc10 : ((m + 2 : Nat) : Int) < (((bodyB s).length : Nat) : Int)
      · refine fl_then rfl (decide_eq_true cc10) ?_
        refine rl_start ?_
        refine rl_det (met_none rfl) (fun h_ H_ => exd_move (v := sv (bodyB s)) rfl) rfl ?_
        refine rl_det (met_none rfl) (fun h_ H_ => exd_move (v := .int .i64 (((m : Nat) : Int))) rfl) (tm' := [_,_,_,_,_,_,_,_,_,_,_,_,_,_,_,_,_,_,_,_,_,_,_,_,_,_,_,_,_,_,_,_,_,_,_,_,_,_,_,_,_,_,_,_,_,_,_,_,_,_,_,_,_,_,_,_]) rfl ?_
        refine rl_det (met_none rfl) (fun h_ H_ => exd_add rfl rfl (n := ((m + 2 : Nat) : Int)) (wr (by omega))) rfl ?_
        refine rl_det (met_none rfl) (fun h_ H_ => exd_indexSN (l := bodyB s) (i := (m + 2)) Tryd.underlying9 rfl rfl (by omega)) rfl ?_
        refine rl_det (met_none rfl) (fun h_ H_ => exd_conv ⟨_, Tryd.underlying5⟩ Tryd.underlying3 rfl (n := ((((bodyB s).getD (m + 2) 0).toNat : Nat) : Int)) (wrB _)) (tm' := [_,_,_,_,_,_,_,_,_,_,_,_,_,_,_,_,_,_,_,_,_,_,_,_,_,_,_,_,_,_,_,_,_,_,_,_,_,_,_,_,_,_,_,_,_,_,_,_,_,_,_,_,_,_,_,_]) rfl ?_
        refine rl_det (met_none rfl) (fun h_ H_ => exd_fieldAddr tF60_1 rfl (a' := ⟨b7, 1, none⟩) rfl) rfl ?_
        refine rl_store (met_none rfl) tS3 rfl (v := .int .i64 (((((bodyB s).getD (m + 2) 0).toNat : Nat) : Int))) rfl (i := 0) rfl rfl rfl (Nat.le_of_ble_eq_true rfl) (cs2 := [.int .i64 ((26 * (((((bodyB s).getD m 0).toNat : Nat) : Int) - 65)) + (((((bodyB s).getD (m + 1) 0).toNat : Nat) : Int) - 65)), .int .i64 (((((bodyB s).getD (m + 2) 0).toNat : Nat) : Int))]) rfl (rl_own (L' := ([(b7, .cells #[.int .i64 ((26 * (((((bodyB s).getD m 0).toNat : Nat) : Int) - 65)) + (((((bodyB s).getD (m + 1) 0).toNat : Nat) : Int) - 65)), .int .i64 (((((bodyB s).getD (m + 2) 0).toNat : Nat) : Int))] 60 (0, 0))] : Pcs) ++ (X1 ++ [])) rfl ?_)
        refine rl_end ?_
        refine fl_seq ?_
        refine fl_seq ?_
        refine rl_start ?_
        refine rl_det (met_none rfl) (fun h_ H_ => exd_fieldAddr tF60_1 rfl (a' := ⟨b7, 1, none⟩) rfl) rfl ?_
        refine rl_det (met_none rfl) (fun h_ H_ => exd_load_own H_ tA3 rfl (i := 0) rfl (v := .int .i64 (((((bodyB s).getD (m + 2) 0).toNat : Nat) : Int))) rfl) (tm' := [_,_,_,_,_,_,_,_,_,_,_,_,_,_,_,_,_,_,_,_,_,_,_,_,_,_,_,_,_,_,_,_,_,_,_,_,_,_,_,_,_,_,_,_,_,_,_,_,_,_,_,_,_,_,_,_]) rfl ?_
        refine rl_det (met_none rfl) (fun h_ H_ => exd_eql rfl rfl) rfl ?_
        refine rl_end ?_
        by_cases cc11 : ((((bodyB s).getD (m + 2) 0).toNat : Nat) : Int) = 126
        · refine fl_then rfl (decide_eq_true cc11) ?_
          refine rl_start ?_
          refine rl_det (met_none rfl) (fun h_ H_ => exd_fieldAddr tF60_1 rfl (a' := ⟨b7, 1, none⟩) rfl) rfl ?_
          refine rl_store (met_none rfl) tS3 rfl (v := .int .i64 10) rfl (i := 0) rfl rfl rfl (Nat.le_of_ble_eq_true rfl) (cs2 := [.int .i64 ((26 * (((((bodyB s).getD m 0).toNat : Nat) : Int) - 65)) + (((((bodyB s).getD (m + 1) 0).toNat : Nat) : Int) - 65)), .int .i64 10]) rfl (rl_own (L' := ([(b7, .cells #[.int .i64 ((26 * (((((bodyB s).getD m 0).toNat : Nat) : Int) - 65)) + (((((bodyB s).getD (m + 1) 0).toNat : Nat) : Int) - 65)), .int .i64 10] 60 (0, 0))] : Pcs) ++ (X1 ++ [])) rfl ?_)
          refine rl_end ?_
          have hx_ : pieR ((bodyB s).drop m) = ((26 * (((((bodyB s).getD m 0).toNat : Nat) : Int) - 65)) + (((((bodyB s).getD (m + 1) 0).toNat : Nat) : Int) - 65), 10) := by rw [pieR_at, if_pos (by omega), byB, if_pos ‹_›]
          refine rl_start ?_
          refine rl_det (met_none rfl) (fun h_ H_ => exd_move (v := w1) rfl) (tm' := [_,_,_,_,_,_,_,_,_,_,_,_,_,_,_,_,_,_,_,_,_,_,_,_,_,_,_,_,_,_,_,_,_,_,_,_,_,_,_,_,_,_,_,_,_,_,_,_,_,_,_,_,_,_,_,_]) rfl ?_
          refine rl_det (met_none rfl) (fun h_ H_ => exd_loadN_own H_ tA60 tS60 rfl (i := 0) rfl (vs := [.int .i64 ((26 * (((((bodyB s).getD m 0).toNat : Nat) : Int) - 65)) + (((((bodyB s).getD (m + 1) 0).toNat : Nat) : Int) - 65)), .int .i64 10]) rfl rfl) rfl ?_
          refine rl_buildO ([(b7, .cells #[.int .i64 ((26 * (((((bodyB s).getD m 0).toNat : Nat) : Int) - 65)) + (((((bodyB s).getD (m + 1) 0).toNat : Nat) : Int) - 65)), .int .i64 10] 60 (0, 0))] : Pcs) (met_none rfl) Tryd.underlying49 tS60 tZ60 (Nat.le_of_ble_eq_true rfl) (vs := [(0, .agg #[.int .i64 ((26 * (((((bodyB s).getD m 0).toNat : Nat) : Int) - 65)) + (((((bodyB s).getD (m + 1) 0).toNat : Nat) : Int) - 65)), .int .i64 10])]) rfl rfl (es := [[.int .i64 ((26 * (((((bodyB s).getD m 0).toNat : Nat) : Int) - 65)) + (((((bodyB s).getD (m + 1) 0).toNat : Nat) : Int) - 65)), .int .i64 10]]) rfl rfl rfl fun v12 X13 o14 => ?_
          refine rl_perm (List.Perm.append_left _ (List.perm_append_comm_assoc _ _ _)) ?_
          refine rl_own (L' := ([(b7, .cells #[.int .i64 ((26 * (((((bodyB s).getD m 0).toNat : Nat) : Int) - 65)) + (((((bodyB s).getD (m + 1) 0).toNat : Nat) : Int) - 65)), .int .i64 10] 60 (0, 0))] : Pcs) ++ (X1 ++ (X13 ++ []))) rfl ?_
          refine rl_appendO ([(b7, .cells #[.int .i64 ((26 * (((((bodyB s).getD m 0).toNat : Nat) : Int) - 65)) + (((((bodyB s).getD (m + 1) 0).toNat : Nat) : Int) - 65)), .int .i64 10] 60 (0, 0))] : Pcs) X1 X13 (met_none rfl) Tryd.underlying49 tS60 tZ60 rfl tB60 Tryd.underlying49 rfl rfl o1 o14 (ones_of rfl) (by rw [pies_length]; simp only [List.length_cons, List.length_nil]; omega) (by decide) fun v15 X16 o17 => ?_
          refine rl_norm (tm' := [_,_,_,_,_,_,_,_,_,_,_,_,_,_,_,_,_,_,_,_,_,_,_,_,_,_,_,_,_,_,_,_,_,_,_,_,_,_,_,_,_,_,_,_,_,_,_,_,_,_,_,_,_,_,_,_]) rfl ?_
          refine rl_det (met_none rfl) (fun h_ H_ => exd_assign (v := v15) rfl) rfl ?_
          refine rl_end ?_
          refine fl_inBlock ?_
          refine rl_start ?_
          refine rl_det (met_none rfl) (fun h_ H_ => exd_move (v := .int .i64 (((m : Nat) : Int))) rfl) rfl ?_
          refine rl_det (met_none rfl) (fun h_ H_ => exd_add rfl rfl (n := ((m + 3 : Nat) : Int)) (wr (by omega))) (tm' := _::_::_::_::_::_::_::_::_::_::_::_::_::_::_::_::_::_::_::_::_::_::_) rfl ?_
          refine rl_det (met_none rfl) (fun h_ H_ => exd_assign (v := .int .i64 (((m + 3 : Nat) : Int))) rfl) rfl ?_
          refine rl_end ?_
          exact fun h_ H_ => IH3 _ _ (by omega) h_ ⟨m + 3, (out ++ [((26 * (((((bodyB s).getD m 0).toNat : Nat) : Int) - 65)) + (((((bodyB s).getD (m + 1) 0).toNat : Nat) : Int) - 65), 10)]), v15, X16, rfl, (y_of rfl), ⟨by omega, by omega, by rw [List.append_assoc, List.singleton_append, ← hx_, ← refS_at (by omega)]; exact hR, by rw [List.length_append, List.length_singleton]; omega⟩, (o17.as (pies_snoc out ((26 * (((((bodyB s).getD m 0).toNat : Nat) : Int) - 65)) + (((((bodyB s).getD (m + 1) 0).toNat : Nat) : Int) - 65), 10))), H_.drop⟩
        · refine fl_else rfl (decide_eq_false cc11) ?_
          refine fl_skip ?_
          have hx_ : pieR ((bodyB s).drop m) = ((26 * (((((bodyB s).getD m 0).toNat : Nat) : Int) - 65)) + (((((bodyB s).getD (m + 1) 0).toNat : Nat) : Int) - 65), ((((bodyB s).getD (m + 2) 0).toNat : Nat) : Int)) := by rw [pieR_at, if_pos (by omega), byB, if_neg ‹_›]
          refine rl_start ?_
          refine rl_det (met_none rfl) (fun h_ H_ => exd_move (v := w1) rfl) rfl ?_
          refine rl_det (met_none rfl) (fun h_ H_ => exd_loadN_own H_ tA60 tS60 rfl (i := 0) rfl (vs := [.int .i64 ((26 * (((((bodyB s).getD m 0).toNat : Nat) : Int) - 65)) + (((((bodyB s).getD (m + 1) 0).toNat : Nat) : Int) - 65)), .int .i64 (((((bodyB s).getD (m + 2) 0).toNat : Nat) : Int))]) rfl rfl) (tm' := [_,_,_,_,_,_,_,_,_,_,_,_,_,_,_,_,_,_,_,_,_,_,_,_,_,_,_,_,_,_,_,_,_,_,_,_,_,_,_,_,_,_,_,_,_,_,_,_,_,_,_,_,_,_,_,_]) rfl ?_
          refine rl_buildO ([(b7, .cells #[.int .i64 ((26 * (((((bodyB s).getD m 0).toNat : Nat) : Int) - 65)) + (((((bodyB s).getD (m + 1) 0).toNat : Nat) : Int) - 65)), .int .i64 (((((bodyB s).getD (m + 2) 0).toNat : Nat) : Int))] 60 (0, 0))] : Pcs) (met_none rfl) Tryd.underlying49 tS60 tZ60 (Nat.le_of_ble_eq_true rfl) (vs := [(0, .agg #[.int .i64 ((26 * (((((bodyB s).getD m 0).toNat : Nat) : Int) - 65)) + (((((bodyB s).getD (m + 1) 0).toNat : Nat) : Int) - 65)), .int .i64 (((((bodyB s).getD (m + 2) 0).toNat : Nat) : Int))])]) rfl rfl (es := [[.int .i64 ((26 * (((((bodyB s).getD m 0).toNat : Nat) : Int) - 65)) + (((((bodyB s).getD (m + 1) 0).toNat : Nat) : Int) - 65)), .int .i64 (((((bodyB s).getD (m + 2) 0).toNat : Nat) : Int))]]) rfl rfl rfl fun v18 X19 o20 => ?_
          refine rl_perm (List.Perm.append_left _ (List.perm_append_comm_assoc _ _ _)) ?_
          refine rl_own (L' := ([(b7, .cells #[.int .i64 ((26 * (((((bodyB s).getD m 0).toNat : Nat) : Int) - 65)) + (((((bodyB s).getD (m + 1) 0).toNat : Nat) : Int) - 65)), .int .i64 (((((bodyB s).getD (m + 2) 0).toNat : Nat) : Int))] 60 (0, 0))] : Pcs) ++ (X1 ++ (X19 ++ []))) rfl ?_
          refine rl_appendO ([(b7, .cells #[.int .i64 ((26 * (((((bodyB s).getD m 0).toNat : Nat) : Int) - 65)) + (((((bodyB s).getD (m + 1) 0).toNat : Nat) : Int) - 65)), .int .i64 (((((bodyB s).getD (m + 2) 0).toNat : Nat) : Int))] 60 (0, 0))] : Pcs) X1 X19 (met_none rfl) Tryd.underlying49 tS60 tZ60 rfl tB60 Tryd.underlying49 rfl rfl o1 o20 (ones_of rfl) (by rw [pies_length]; simp only [List.length_cons, List.length_nil]; omega) (by decide) fun v21 X22 o23 => ?_
          refine rl_det (met_none rfl) (fun h_ H_ => exd_assign (v := v21) rfl) (tm' := _::_::_::_::_::_::_::_) rfl ?_
          refine rl_end ?_
          refine fl_inBlock ?_
          refine rl_start ?_
          refine rl_det (met_none rfl) (fun h_ H_ => exd_move (v := .int .i64 (((m : Nat) : Int))) rfl) rfl ?_
          refine rl_det (met_none rfl) (fun h_ H_ => exd_add rfl rfl (n := ((m + 3 : Nat) : Int)) (wr (by omega))) rfl ?_
          refine rl_det (met_none rfl) (fun h_ H_ => exd_assign (v := .int .i64 (((m + 3 : Nat) : Int))) rfl) (tm' := _::_::_::_::_::_::_::_::_) rfl ?_
          refine rl_end ?_
          exact fun h_ H_ => IH3 _ _ (by omega) h_ ⟨m + 3, (out ++ [((26 * (((((bodyB s).getD m 0).toNat : Nat) : Int) - 65)) + (((((bodyB s).getD (m + 1) 0).toNat : Nat) : Int) - 65), ((((bodyB s).getD (m + 2) 0).toNat : Nat) : Int))]), v21, X22, rfl, (y_of rfl), ⟨by omega, by omega, by rw [List.append_assoc, List.singleton_append, ← hx_, ← refS_at (by omega)]; exact hR, by rw [List.length_append, List.length_singleton]; omega⟩, (o23.as (pies_snoc out ((26 * (((((bodyB s).getD m 0).toNat : Nat) : Int) - 65)) + (((((bodyB s).getD (m + 1) 0).toNat : Nat) : Int) - 65), ((((bodyB s).getD (m + 2) 0).toNat : Nat) : Int)))), H_.drop⟩
      · refine fl_else rfl (decide_eq_false cc10) ?_
        refine fl_skip ?_
        refine fl_seq ?_
        refine fl_seq ?_
        refine rl_start ?_
        refine rl_det (met_none rfl) (fun h_ H_ => exd_fieldAddr tF60_1 rfl (a' := ⟨b7, 1, none⟩) rfl) rfl ?_
        refine rl_det (met_none rfl) (fun h_ H_ => exd_load_own H_ tA3 rfl (i := 0) rfl (v := .int .i64 (-1)) rfl) rfl ?_
        refine rl_det (met_none rfl) (fun h_ H_ => exd_eql rfl rfl) (tm' := [_,_,_,_,_,_,_,_,_,_,_,_,_,_,_,_,_,_,_,_,_,_,_,_,_,_,_,_,_,_,_,_,_,_,_,_,_,_,_,_,_,_,_,_,_,_,_,_,_,_,_,_,_,_,_,_]) rfl ?_
        refine rl_end ?_
        by_cases cc24 : ((-1) : Int) = 126
        · exact absurd cc24 (by decide)
        · refine fl_else rfl (decide_eq_false cc24) ?_
          refine fl_skip ?_
          have hx_ : pieR ((bodyB s).drop m) = ((26 * (((((bodyB s).getD m 0).toNat : Nat) : Int) - 65)) + (((((bodyB s).getD (m + 1) 0).toNat : Nat) : Int) - 65), (-1)) := by rw [pieR_at, if_neg (by omega), byB, if_neg (by decide)]
          refine rl_start ?_
          refine rl_det (met_none rfl) (fun h_ H_ => exd_move (v := w1) rfl) rfl ?_
          refine rl_det (met_none rfl) (fun h_ H_ => exd_loadN_own H_ tA60 tS60 rfl (i := 0) rfl (vs := [.int .i64 ((26 * (((((bodyB s).getD m 0).toNat : Nat) : Int) - 65)) + (((((bodyB s).getD (m + 1) 0).toNat : Nat) : Int) - 65)), .int .i64 (-1)]) rfl rfl) rfl ?_
          refine rl_buildO ([(b7, .cells #[.int .i64 ((26 * (((((bodyB s).getD m 0).toNat : Nat) : Int) - 65)) + (((((bodyB s).getD (m + 1) 0).toNat : Nat) : Int) - 65)), .int .i64 (-1)] 60 (0, 0))] : Pcs) (met_none rfl) Tryd.underlying49 tS60 tZ60 (Nat.le_of_ble_eq_true rfl) (vs := [(0, .agg #[.int .i64 ((26 * (((((bodyB s).getD m 0).toNat : Nat) : Int) - 65)) + (((((bodyB s).getD (m + 1) 0).toNat : Nat) : Int) - 65)), .int .i64 (-1)])]) rfl rfl (es := [[.int .i64 ((26 * (((((bodyB s).getD m 0).toNat : Nat) : Int) - 65)) + (((((bodyB s).getD (m + 1) 0).toNat : Nat) : Int) - 65)), .int .i64 (-1)]]) rfl rfl rfl fun v25 X26 o27 => ?_
          refine rl_norm (tm' := [_,_,_,_,_,_,_,_,_,_,_,_,_,_,_,_,_,_,_,_,_,_,_,_,_,_,_,_,_,_,_,_,_,_,_,_,_,_,_,_,_,_,_,_,_,_,_,_,_,_,_,_,_,_,_,_]) rfl ?_
          refine rl_perm (List.Perm.append_left _ (List.perm_append_comm_assoc _ _ _)) ?_
          refine rl_own (L' := ([(b7, .cells #[.int .i64 ((26 * (((((bodyB s).getD m 0).toNat : Nat) : Int) - 65)) + (((((bodyB s).getD (m + 1) 0).toNat : Nat) : Int) - 65)), .int .i64 (-1)] 60 (0, 0))] : Pcs) ++ (X1 ++ (X26 ++ []))) rfl ?_
          refine rl_appendO ([(b7, .cells #[.int .i64 ((26 * (((((bodyB s).getD m 0).toNat : Nat) : Int) - 65)) + (((((bodyB s).getD (m + 1) 0).toNat : Nat) : Int) - 65)), .int .i64 (-1)] 60 (0, 0))] : Pcs) X1 X26 (met_none rfl) Tryd.underlying49 tS60 tZ60 rfl tB60 Tryd.underlying49 rfl rfl o1 o27 (ones_of rfl) (by rw [pies_length]; simp only [List.length_cons, List.length_nil]; omega) (by decide) fun v28 X29 o30 => ?_
          refine rl_det (met_none rfl) (fun h_ H_ => exd_assign (v := v28) rfl) rfl ?_
          refine rl_end ?_
          refine fl_inBlock ?_
          refine rl_start ?_
          refine rl_det (met_none rfl) (fun h_ H_ => exd_move (v := .int .i64 (((m : Nat) : Int))) rfl) (tm' := _::_::_::_::_::_::_::_::_::_::_::_::_::_::_::_::_::_::_::_::_::_) rfl ?_
          refine rl_det (met_none rfl) (fun h_ H_ => exd_add rfl rfl (n := ((m + 3 : Nat) : Int)) (wr (by omega))) rfl ?_
          refine rl_det (met_none rfl) (fun h_ H_ => exd_assign (v := .int .i64 (((m + 3 : Nat) : Int))) rfl) rfl ?_
          refine rl_end ?_
          exact fun h_ H_ => IH3 _ _ (by omega) h_ ⟨m + 3, (out ++ [((26 * (((((bodyB s).getD m 0).toNat : Nat) : Int) - 65)) + (((((bodyB s).getD (m + 1) 0).toNat : Nat) : Int) - 65), (-1))]), v28, X29, rfl, (y_of rfl), ⟨by omega, by omega, by rw [List.append_assoc, List.singleton_append, ← hx_, ← refS_at (by omega)]; exact hR, by rw [List.length_append, List.length_singleton]; omega⟩, (o30.as (pies_snoc out ((26 * (((((bodyB s).getD m 0).toNat : Nat) : Int) - 65)) + (((((bodyB s).getD (m + 1) 0).toNat : Nat) : Int) - 65), (-1)))), H_.drop⟩
    · refine fl_else rfl (decide_eq_false cc4) ?_
      refine fl_exit rfl ?_
      refine fl_seq ?_
      refine rl_start ?_
      refine rl_det (met_none rfl) (fun h_ H_ => exd_move (v := w1) rfl) (tm' := [_,_,_,_,_,_,_,_,_,_,_,_,_,_,_,_,_,_,_,_,_,_,_,_,_,_,_,_,_,_,_,_,_,_,_,_,_,_,_,_,_,_,_,_,_,_,_,_,_,_,_,_,_,_,_,_]) rfl ?_
      refine rl_det (met_none rfl) (fun h_ H_ => exd_assign (v := w1) rfl) rfl ?_
      refine rl_det (met_none rfl) (fun h_ H_ => exd_assign (v := .int .i64 0) rfl) rfl ?_
      refine rl_end ?_
      refine fl_ret Tryd.func38 rfl (vs := [w1, .int .i64 0]) (fun h_ H_ => ⟨w1, _, rfl, rfl, ⟨.int .i64 0, _, rfl, rfl, rfl⟩⟩) (v := .tuple #[w1, .int .i64 0]) rfl ?_
      have hd : (bodyB s).drop m = [] := List.drop_of_length_le (by omega)
      rw [hd, refS_nil, List.append_nil] at hR
      exact fun h_ H_ => K _ _ ⟨_, _, by rw [perR, if_pos hB], by rw [parseR, if_pos hB, ← hb, ← hR]; exact o1, by simpa using H_.dropA.new⟩
  · refine fl_then rfl (not_t (decide_eq_false cc1)) ?_
    refine fl_seq ?_
    refine rl_start ?_
    refine rl_det (met_none rfl) (fun h_ H_ => exd_assign (v := .slice none 0 0) rfl) (tm' := _::_::_::_) rfl ?_
    refine rl_det (met_none rfl) (fun h_ H_ => exd_assign (v := .int .i64 140) rfl) rfl ?_
    refine rl_end ?_
    refine fl_ret Tryd.func38 rfl (vs := [.slice none 0 0, .int .i64 140]) (fun h_ H_ => ⟨.slice none 0 0, _, rfl, rfl, ⟨.int .i64 140, _, rfl, rfl, rfl⟩⟩) (v := .tuple #[.slice none 0 0, .int .i64 140]) rfl ?_
    exact fun h_ H_ => K _ _ ⟨.slice none 0 0, [], by rw [perR, if_neg ‹_›], by rw [parseR, if_neg ‹_›]; exact OwnS.empty _ _, (H_.sub (List.nil_sublist _)).new⟩
theorem c66 (md : Md) (h : Heap) (p : PHeap) (hp : Per p h) (a : Option Addr) (n c : Nat) (xs : List Pie) (D : Pies p a n xs) (hn : n ≤ 1000) (hx : ∀ x ∈ xs, 0 ≤ x.1 ∧ x.1 ≤ 1000 ∧ -1 ≤ x.2 ∧ x.2 ≤ 255) : CallsX Tryd.prog md 66 #[.slice a n c] h fun v h' => ∃ w X, v = .tuple #[w, .bool (texR xs).2] ∧ OwnS 9 1 w (scs (texR xs).1) X ∧ New h h' X := by
  refine calls_intro (Φ := fun h_ => St h [] p h_ []) Tryd.func66 rfl (tm := [_, _, _, _, _, _, _, _, _, _, _, _, _, _, _, _, _, _, _, _, _, _, _, _, _, _, _, _, _, _, _, _, _, _, _, _, _, _, _, _, _, _, _, _, _, _, _, _, _, _, _, _, _, _, _, _, _, _, _, _, _, _, _, _, _, _, _, _, _, _, _, _, _, _, _, _, _]) rfl ?_ (St.start h _ hp)
  intro c₀ cs Stop K
  have hl := D.len
  refine fl_seq ?_
  refine rl_start ?_
  refine rl_det (met_none rfl) (fun h_ H_ => exd_assign (v := .slice none 0 0) rfl) rfl ?_
  refine rl_det (met_none rfl) (fun h_ H_ => exd_assign (v := .bool (false)) rfl) (tm' := _::_::_::_::_) rfl ?_
  refine rl_end ?_
  refine fl_seq ?_
  refine rl_start ?_
  refine rl_own (L' := ([] : Pcs) ++ []) rfl ?_
  refine rl_buildO ([] : Pcs) (met_none rfl) Tryd.underlying22 tS9 tZ9 (Nat.le_of_ble_eq_true rfl) (vs := [(0, sv ([] : List UInt8))]) rfl rfl (es := [[sv ([] : List UInt8)]]) rfl rfl rfl fun v1 X2 o3 => ?_
  refine rl_det (met_none rfl) (fun h_ H_ => exd_assign (v := v1) rfl) rfl ?_
  refine rl_end ?_
  refine fl_seq ?_
  refine rl_start ?_
  refine rl_det (met_none rfl) (fun h_ H_ => exd_assign (v := sv ([] : List UInt8)) rfl) (tm' := _::_::_::_::_::_::_) rfl ?_
  refine rl_end ?_
  refine fl_seq ?_
  refine fl_seq ?_
  refine rl_start ?_
  refine rl_det (met_none rfl) (fun h_ H_ => exd_assign (v := .int .i64 0) rfl) rfl ?_
  refine rl_end ?_
  refine fl_block ?_
  refine fl_loop (m₀ := n - 0) (fun m_ tm_ h_ => ∃ (k : Nat) (ph : List By) (al : By) (w1 : Value) (X1 : Pcs), m_ = n - k ∧ (∃ y4 : Nat → Value, tm_ = [.slice a n c, undef, (y4 2), (y4 3), w1, sv al, .int .i64 (((k : Nat) : Int)), (y4 7), (y4 8), undef, undef, undef, v1, (y4 13), (y4 14), (y4 15), (y4 16), (y4 17), (y4 18), (y4 19), (y4 20), (y4 21), (y4 22), (y4 23), (y4 24), (y4 25), (y4 26), (y4 27), (y4 28), (y4 29), (y4 30), (y4 31), (y4 32), (y4 33), (y4 34), (y4 35), (y4 36), (y4 37), (y4 38), (y4 39), (y4 40), (y4 41), (y4 42), (y4 43), (y4 44), (y4 45), (y4 46), (y4 47), (y4 48), (y4 49), (y4 50), (y4 51), (y4 52), undef, undef, undef, undef, undef, undef, undef, undef, undef, undef, undef, undef, undef, undef, undef, undef, undef, undef, undef, undef, undef, undef, undef, undef]) ∧ (k ≤ n ∧ rdR ph al (xs.drop k) = rdR [[]] [] xs ∧ ph.length = k + 1 ∧ (∀ t ∈ ph, t.length ≤ k) ∧ al.length ≤ 2000) ∧ (OwnS 9 1 w1 (scs ph) X1) ∧ St h [] p h_ (([] : Pcs) ++ (X1 ++ []))) (fun h_ H_ => ⟨0, [[]], [], v1, X2, rfl, (y_of rfl), ⟨Nat.zero_le _, rfl, rfl, by simp, by simp⟩, o3, H_⟩) ?_
  intro m_ tm_ IH5
  refine rs_ex fun k => rs_ex fun ph => rs_ex fun al => rs_ex fun w1 => rs_ex fun X1 => rs_and fun hm_ => rs_and fun ht_ => rs_and fun hq => rs_and fun o1 => ?_
  subst hm_; obtain ⟨y4, ht_⟩ := ht_; subst ht_
  obtain ⟨hk, hR, hpn, hpm, hal⟩ := hq
  refine fl_seq ?_
  refine fl_seq ?_
  refine rl_start ?_
  refine rl_det (met_none rfl) (fun h_ H_ => exd_move (v := .int .i64 (((k : Nat) : Int))) rfl) rfl ?_
  refine rl_det (met_none rfl) (fun h_ H_ => exd_move (v := .slice a n c) rfl) (tm' := _::_::_::_::_::_::_::_::_::_::_::_::_::_::_::_) rfl ?_
  refine rl_det (met_none rfl) (fun h_ H_ => exd_len Tryd.underlying49 rfl) rfl ?_
  refine rl_det (met_none rfl) (fun h_ H_ => exd_lss rfl rfl) rfl ?_
  refine rl_end ?_
  by_cases cc6 : ((k : Nat) : Int) < ((n : Nat) : Int)
  · refine fl_then rfl (decide_eq_true cc6) ?_
    refine fl_skip ?_
    refine fl_seq ?_
    refine fl_block ?_
    refine fl_seq ?_
    have hxk := hx _ (gmem (d := pz) (show k < xs.length by omega))
    have hpl := ph_le (i := (xs.getD k pz).1.toNat) hpm
    refine rl_start ?_
    refine rl_det (met_none rfl) (fun h_ H_ => exd_move (v := .slice a n c) rfl) (tm' := _::_::_::_::_::_::_::_::_::_::_::_::_::_::_::_::_::_::_::_::_) rfl ?_
    refine rl_det (met_none rfl) (fun h_ H_ => exd_move (v := .int .i64 (((k : Nat) : Int))) rfl) rfl ?_
    refine rl_det (met_none rfl) (fun h_ H_ => exd_indexAddrN (i := k) Tryd.underlying49 tS60 (sl_ne a n c (D.ne (by omega))) rfl (by omega)) rfl ?_
    refine rl_det (met_none rfl) (fun h_ H_ => exd_loadN_per H_ tA60 tS60 rfl (vs := [.int .i64 ((xs.getD k pz).1), .int .i64 ((xs.getD k pz).2)]) rfl (D.all (by omega))) (tm' := _::_::_::_::_::_::_::_::_::_::_::_::_::_::_::_::_::_::_::_::_::_::_::_) rfl ?_
    refine rl_alloc (met_none rfl) tZ60 rfl fun b7 => rl_own (L' := ([(b7, .cells #[.int .i64 0, .int .i64 0] 60 (0, 0))] : Pcs) ++ (X1 ++ [])) rfl ?_
    refine rl_store (met_none rfl) tS60 rfl (v := .agg #[.int .i64 ((xs.getD k pz).1), .int .i64 ((xs.getD k pz).2)]) rfl (i := 0) rfl rfl rfl (Nat.le_of_ble_eq_true rfl) (cs2 := [.int .i64 ((xs.getD k pz).1), .int .i64 ((xs.getD k pz).2)]) rfl (rl_own (L' := ([(b7, .cells #[.int .i64 ((xs.getD k pz).1), .int .i64 ((xs.getD k pz).2)] 60 (0, 0))] : Pcs) ++ (X1 ++ [])) rfl ?_)
    refine rl_end ?_
    refine fl_seq ?_
    refine fl_seq ?_
    refine rl_start ?_
    refine rl_det (met_none rfl) (fun h_ H_ => exd_fieldAddr tF60_0 rfl (a' := ⟨b7, 0, none⟩) rfl) rfl ?_
    refine rl_det (met_none rfl) (fun h_ H_ => exd_load_own H_ tA3 rfl (i := 0) rfl (v := .int .i64 ((xs.getD k pz).1)) rfl) (tm' := _::_::_::_::_::_::_::_::_::_::_::_::_::_::_::_::_::_::_::_::_::_::_::_::_::_) rfl ?_
    refine rl_det (met_none rfl) (fun h_ H_ => exd_move (v := w1) rfl) rfl ?_
    refine rl_det (met_none rfl) (fun h_ H_ => exd_lenN o1 (scs_length _) Tryd.underlying22 rfl) rfl ?_
    refine rl_det (met_none rfl) (fun h_ H_ => exd_geq rfl rfl) (tm' := _::_::_::_::_::_::_::_::_::_::_::_::_::_::_::_::_::_::_::_::_::_::_::_::_::_::_::_::_) rfl ?_
    refine rl_det (met_none rfl) (fun h_ H_ => exd_move (v := .bool (decide (((ph.length : Nat) : Int) ≤ (xs.getD k pz).1))) rfl) rfl ?_
    by_cases cc8 : ((ph.length : Nat) : Int) ≤ (xs.getD k pz).1
    · refine rl_pass (met_not rfl rfl (decide_eq_true cc8)) rfl ?_
      refine rl_pass (met_not rfl rfl (decide_eq_true cc8)) (tm' := _::_::_::_::_::_::_::_::_::_::_::_::_::_::_::_::_::_::_::_::_::_::_::_::_::_::_::_::_::_::_::_) rfl ?_
      refine rl_pass (met_not rfl rfl (decide_eq_true cc8)) rfl ?_
      refine rl_det (met_none rfl) (fun h_ H_ => exd_pick_t rfl (decide_eq_true cc8) (v := .bool (true)) rfl) rfl ?_
      refine rl_end ?_
      refine fl_then rfl rfl ?_
      refine fl_seq ?_
      refine rl_start ?_
      refine rl_det (met_none rfl) (fun h_ H_ => exd_assign (v := .slice none 0 0) rfl) (tm' := _::_::_::_) rfl ?_
      refine rl_det (met_none rfl) (fun h_ H_ => exd_assign (v := .bool (false)) rfl) rfl ?_
      refine rl_end ?_
      refine fl_ret Tryd.func66 rfl (vs := [.slice none 0 0, .bool (false)]) (fun h_ H_ => ⟨.slice none 0 0, _, rfl, rfl, ⟨.bool (false), _, rfl, rfl, rfl⟩⟩) (v := .tuple #[.slice none 0 0, .bool (false)]) rfl ?_
      have hN : texR xs = ([], false) := by rw [texR, ← hR, rr_bad (by omega) (by omega)]
      exact fun h_ H_ => K _ _ ⟨.slice none 0 0, [], by rw [hN], by rw [hN]; exact OwnS.empty _ _, (H_.sub (List.nil_sublist _)).new⟩
    · refine rl_det (met_some rfl rfl (decide_eq_false cc8)) (fun h_ H_ => exd_move (v := sv al) rfl) rfl ?_
      refine rl_det (met_some rfl rfl (decide_eq_false cc8)) (fun h_ H_ => exd_lenS (l := al) Tryd.underlying9 rfl) (tm' := _::_::_::_::_::_::_::_::_::_::_::_::_::_::_::_::_::_::_::_::_::_::_::_::_::_::_::_::_::_::_::_) rfl ?_
      refine rl_det (met_some rfl rfl (decide_eq_false cc8)) (fun h_ H_ => exd_gtr rfl rfl) rfl ?_
      refine rl_det (met_none rfl) (fun h_ H_ => exd_pick_f rfl (decide_eq_false cc8) (v := .bool (decide (820 < ((al.length : Nat) : Int)))) rfl) rfl ?_
      refine rl_end ?_
      by_cases cc9 : 820 < ((al.length : Nat) : Int)
      · refine fl_then rfl (decide_eq_true cc9) ?_
        refine fl_seq ?_
        refine rl_start ?_
        refine rl_det (met_none rfl) (fun h_ H_ => exd_assign (v := .slice none 0 0) rfl) (tm' := _::_::_::_) rfl ?_
        refine rl_det (met_none rfl) (fun h_ H_ => exd_assign (v := .bool (false)) rfl) rfl ?_
        refine rl_end ?_
        refine fl_ret Tryd.func66 rfl (vs := [.slice none 0 0, .bool (false)]) (fun h_ H_ => ⟨.slice none 0 0, _, rfl, rfl, ⟨.bool (false), _, rfl, rfl, rfl⟩⟩) (v := .tuple #[.slice none 0 0, .bool (false)]) rfl ?_
        have hN : texR xs = ([], false) := by rw [texR, ← hR, rr_bad (by omega) (by omega)]
        exact fun h_ H_ => K _ _ ⟨.slice none 0 0, [], by rw [hN], by rw [hN]; exact OwnS.empty _ _, (H_.sub (List.nil_sublist _)).new⟩
      · refine fl_else rfl (decide_eq_false cc9) ?_
        refine fl_skip ?_
        refine fl_seq ?_
        refine rl_start ?_
        refine rl_det (met_none rfl) (fun h_ H_ => exd_move (v := w1) rfl) rfl ?_
        refine rl_det (met_none rfl) (fun h_ H_ => exd_fieldAddr tF60_0 rfl (a' := ⟨b7, 0, none⟩) rfl) (tm' := _::_::_::_::_::_::_::_::_::_::_::_::_::_::_::_::_::_::_::_::_::_::_::_::_::_::_::_::_::_::_::_::_::_::_::_) rfl ?_
        refine rl_det (met_none rfl) (fun h_ H_ => exd_load_own H_ tA3 rfl (i := 0) rfl (v := .int .i64 ((xs.getD k pz).1)) rfl) rfl ?_
        refine rl_det (met_none rfl) (fun h_ H_ => exd_indexOI o1 Tryd.underlying22 tS9 rfl rfl (by omega) (by rw [(scs_length _)]; omega)) rfl ?_
        refine rl_det (met_none rfl) (fun h_ H_ => exd_loadO (A := ([(b7, .cells #[.int .i64 ((xs.getD k pz).1), .int .i64 ((xs.getD k pz).2)] 60 (0, 0))] : Pcs)) (i := (((xs.getD k pz).1)).toNat) (j := 0) (e := [sv (ph.getD ((((xs.getD k pz).1)).toNat) [])]) o1 H_ tA9 rfl rfl (scs_at (by omega)) (u := sv (ph.getD ((((xs.getD k pz).1)).toNat) [])) rfl) (tm' := _::_::_::_::_::_::_::_::_::_::_::_::_::_::_::_::_::_::_::_::_::_::_::_::_::_::_::_::_::_::_::_::_::_::_::_::_::_::_) rfl ?_
        refine rl_det (met_none rfl) (fun h_ H_ => exd_assign (v := sv (ph.getD ((((xs.getD k pz).1)).toNat) [])) rfl) rfl ?_
        refine rl_end ?_
        refine fl_seq ?_
        refine fl_seq ?_
        refine rl_start ?_
        refine rl_det (met_none rfl) (fun h_ H_ => exd_fieldAddr tF60_1 rfl (a' := ⟨b7, 1, none⟩) rfl) rfl ?_
        refine rl_det (met_none rfl) (fun h_ H_ => exd_load_own H_ tA3 rfl (i := 0) rfl (v := .int .i64 ((xs.getD k pz).2)) rfl) (tm' := _::_::_::_::_::_::_::_::_::_::_::_::_::_::_::_::_::_::_::_::_::_::_::_::_::_::_::_::_::_::_::_::_::_::_::_::_::_::_::_::_) rfl ?_
        refine rl_det (met_none rfl) (fun h_ H_ => exd_neq rfl rfl) rfl ?_
        refine rl_end ?_
        by_cases cc10 : (xs.getD k pz).2 ≠ (-1)
        · refine fl_then rfl (decide_eq_true cc10) ?_
          refine rl_start ?_
          refine rl_det (met_none rfl) (fun h_ H_ => exd_move (v := sv (ph.getD ((((xs.getD k pz).1)).toNat) [])) rfl) rfl ?_
          refine rl_det (met_none rfl) (fun h_ H_ => exd_fieldAddr tF60_1 rfl (a' := ⟨b7, 1, none⟩) rfl) (tm' := _::_::_::_::_::_::_::_::_::_::_::_::_::_::_::_::_::_::_::_::_::_::_::_::_::_::_::_::_::_::_::_::_::_::_::_::_::_::_::_::_::_::_::_) rfl ?_
          refine rl_det (met_none rfl) (fun h_ H_ => exd_load_own H_ tA3 rfl (i := 0) rfl (v := .int .i64 ((xs.getD k pz).2)) rfl) rfl ?_
          refine rl_calld (met_none rfl) (first := []) (cap := []) rfl rfl fC64 (fun h_ H_ => c64 md _ ((xs.getD k pz).2) (by omega) (by omega)) rfl ?_
          refine rl_det (met_none rfl) (fun h_ H_ => exd_catS (l := ph.getD ((((xs.getD k pz).1)).toNat) []) (m := [UInt8.ofNat ((xs.getD k pz).2).toNat]) rfl rfl (by simp only [List.length_singleton]; omega)) (tm' := _::_::_::_::_::_::_::_::_::_::_::_::_::_::_::_::_::_::_::_::_::_::_::_::_::_::_::_::_::_::_::_::_::_::_::_::_::_::_::_::_::_::_::_::_::_::_) rfl ?_
          refine rl_det (met_none rfl) (fun h_ H_ => exd_assign (v := sv ((ph.getD ((((xs.getD k pz).1)).toNat) []) ++ ([UInt8.ofNat ((xs.getD k pz).2).toNat]))) rfl) rfl ?_
          refine rl_end ?_
          refine fl_seq ?_
          refine rl_start ?_
          refine rl_det (met_none rfl) (fun h_ H_ => exd_move (v := w1) rfl) rfl ?_
          refine rl_det (met_none rfl) (fun h_ H_ => exd_move (v := sv ((ph.getD ((((xs.getD k pz).1)).toNat) []) ++ ([UInt8.ofNat ((xs.getD k pz).2).toNat]))) rfl) (tm' := _::_::_::_::_::_::_::_::_::_::_::_::_::_::_::_::_::_::_::_::_::_::_::_::_::_::_::_::_::_::_::_::_::_::_::_::_::_::_::_::_::_::_::_::_::_::_::_::_) rfl ?_
          refine rl_buildO ([(b7, .cells #[.int .i64 ((xs.getD k pz).1), .int .i64 ((xs.getD k pz).2)] 60 (0, 0))] : Pcs) (met_none rfl) Tryd.underlying22 tS9 tZ9 (Nat.le_of_ble_eq_true rfl) (vs := [(0, sv ((ph.getD ((((xs.getD k pz).1)).toNat) []) ++ ([UInt8.ofNat ((xs.getD k pz).2).toNat])))]) rfl rfl (es := [[sv ((ph.getD ((((xs.getD k pz).1)).toNat) []) ++ ([UInt8.ofNat ((xs.getD k pz).2).toNat]))]]) rfl rfl rfl fun v11 X12 o13 => ?_
          refine rl_perm (List.Perm.append_left _ (List.perm_append_comm_assoc _ _ _)) ?_
          refine rl_own (L' := ([(b7, .cells #[.int .i64 ((xs.getD k pz).1), .int .i64 ((xs.getD k pz).2)] 60 (0, 0))] : Pcs) ++ (X1 ++ (X12 ++ []))) rfl ?_
          refine rl_appendO ([(b7, .cells #[.int .i64 ((xs.getD k pz).1), .int .i64 ((xs.getD k pz).2)] 60 (0, 0))] : Pcs) X1 X12 (met_none rfl) Tryd.underlying22 tS9 tZ9 rfl tB9 Tryd.underlying22 rfl rfl o1 o13 (ones_of rfl) (by rw [scs_length]; simp only [List.length_cons, List.length_nil]; omega) (by decide) fun v14 X15 o16 => ?_
          refine rl_det (met_none rfl) (fun h_ H_ => exd_assign (v := v14) rfl) (tm' := _::_::_::_::_::_) rfl ?_
          refine rl_end ?_
          refine rl_start ?_
          refine rl_det (met_none rfl) (fun h_ H_ => exd_move (v := sv al) rfl) rfl ?_
          refine rl_det (met_none rfl) (fun h_ H_ => exd_move (v := sv ((ph.getD ((((xs.getD k pz).1)).toNat) []) ++ ([UInt8.ofNat ((xs.getD k pz).2).toNat]))) rfl) rfl ?_
          refine rl_det (met_none rfl) (fun h_ H_ => exd_catS (l := al) (m := (ph.getD ((((xs.getD k pz).1)).toNat) []) ++ ([UInt8.ofNat ((xs.getD k pz).2).toNat])) rfl rfl (by first | omega | (simp only [List.length_append, List.length_singleton]; omega))) (tm' := [_,_,_,_,_,_,_,_,_,_,_,_,_,_,_,_,_,_,_,_,_,_,_,_,_,_,_,_,_,_,_,_,_,_,_,_,_,_,_,_,_,_,_,_,_,_,_,_,_,_,_,_,_,_,_,_,_,_,_,_,_,_,_,_,_,_,_,_,_,_,_,_,_,_,_,_,_]) rfl ?_
          refine rl_det (met_none rfl) (fun h_ H_ => exd_assign (v := sv (al ++ ((ph.getD ((((xs.getD k pz).1)).toNat) []) ++ ([UInt8.ofNat ((xs.getD k pz).2).toNat])))) rfl) rfl ?_
          refine rl_end ?_
          refine fl_inBlock ?_
          refine rl_start ?_
          refine rl_det (met_none rfl) (fun h_ H_ => exd_move (v := .int .i64 (((k : Nat) : Int))) rfl) rfl ?_
          refine rl_det (met_none rfl) (fun h_ H_ => exd_add rfl rfl (n := ((k + 1 : Nat) : Int)) (wr (by omega))) (tm' := _::_::_::_::_::_::_::_::_::_::_::_::_::_::_::_::_::_::_::_) rfl ?_
          refine rl_det (met_none rfl) (fun h_ H_ => exd_assign (v := .int .i64 (((k + 1 : Nat) : Int))) rfl) rfl ?_
          refine rl_end ?_
          exact fun h_ H_ => IH5 _ _ (by omega) h_ ⟨k + 1, (ph ++ [((ph.getD ((((xs.getD k pz).1)).toNat) []) ++ ([UInt8.ofNat ((xs.getD k pz).2).toNat]))]), al ++ ((ph.getD ((((xs.getD k pz).1)).toNat) []) ++ ([UInt8.ofNat ((xs.getD k pz).2).toNat])), v14, X15, rfl, (y_of rfl), ⟨by omega, (rr_step1 (by omega) (by omega) (by omega)).symm.trans hR, by rw [List.length_append, List.length_singleton]; omega, ph_snoc hpm (by simp only [List.length_append, List.length_singleton]; omega), by rw [List.length_append]; simp only [List.length_append, List.length_singleton]; omega⟩, (o16.as (scs_snoc _ _)), H_.drop⟩
        · refine fl_else rfl (decide_eq_false cc10) ?_
          refine fl_skip ?_
          refine fl_seq ?_
          refine rl_start ?_
          refine rl_det (met_none rfl) (fun h_ H_ => exd_move (v := w1) rfl) rfl ?_
          refine rl_det (met_none rfl) (fun h_ H_ => exd_move (v := sv (ph.getD ((((xs.getD k pz).1)).toNat) [])) rfl) (tm' := _::_::_::_::_::_::_::_::_::_::_::_::_::_::_::_::_::_::_::_::_::_::_::_::_::_::_::_::_::_::_::_::_::_::_::_::_::_::_::_::_::_::_::_::_::_::_::_::_) rfl ?_
          refine rl_buildO ([(b7, .cells #[.int .i64 ((xs.getD k pz).1), .int .i64 ((xs.getD k pz).2)] 60 (0, 0))] : Pcs) (met_none rfl) Tryd.underlying22 tS9 tZ9 (Nat.le_of_ble_eq_true rfl) (vs := [(0, sv (ph.getD ((((xs.getD k pz).1)).toNat) []))]) rfl rfl (es := [[sv (ph.getD ((((xs.getD k pz).1)).toNat) [])]]) rfl rfl rfl fun v17 X18 o19 => ?_
          refine rl_perm (List.Perm.append_left _ (List.perm_append_comm_assoc _ _ _)) ?_
          refine rl_own (L' := ([(b7, .cells #[.int .i64 ((xs.getD k pz).1), .int .i64 ((xs.getD k pz).2)] 60 (0, 0))] : Pcs) ++ (X1 ++ (X18 ++ []))) rfl ?_
          refine rl_appendO ([(b7, .cells #[.int .i64 ((xs.getD k pz).1), .int .i64 ((xs.getD k pz).2)] 60 (0, 0))] : Pcs) X1 X18 (met_none rfl) Tryd.underlying22 tS9 tZ9 rfl tB9 Tryd.underlying22 rfl rfl o1 o19 (ones_of rfl) (by rw [scs_length]; simp only [List.length_cons, List.length_nil]; omega) (by decide) fun v20 X21 o22 => ?_
          refine rl_det (met_none rfl) (fun h_ H_ => exd_assign (v := v20) rfl) (tm' := _::_::_::_::_::_) rfl ?_
          refine rl_end ?_
          refine rl_start ?_
          refine rl_det (met_none rfl) (fun h_ H_ => exd_move (v := sv al) rfl) rfl ?_
          refine rl_det (met_none rfl) (fun h_ H_ => exd_move (v := sv (ph.getD ((((xs.getD k pz).1)).toNat) [])) rfl) rfl ?_
          refine rl_det (met_none rfl) (fun h_ H_ => exd_catS (l := al) (m := ph.getD ((((xs.getD k pz).1)).toNat) []) rfl rfl (by first | omega | (simp only [List.length_append, List.length_singleton]; omega))) (tm' := [_,_,_,_,_,_,_,_,_,_,_,_,_,_,_,_,_,_,_,_,_,_,_,_,_,_,_,_,_,_,_,_,_,_,_,_,_,_,_,_,_,_,_,_,_,_,_,_,_,_,_,_,_,_,_,_,_,_,_,_,_,_,_,_,_,_,_,_,_,_,_,_,_,_,_,_,_]) rfl ?_
          refine rl_det (met_none rfl) (fun h_ H_ => exd_assign (v := sv (al ++ (ph.getD ((((xs.getD k pz).1)).toNat) []))) rfl) rfl ?_
          refine rl_end ?_
          refine fl_inBlock ?_
          refine rl_start ?_
          refine rl_det (met_none rfl) (fun h_ H_ => exd_move (v := .int .i64 (((k : Nat) : Int))) rfl) rfl ?_
          refine rl_det (met_none rfl) (fun h_ H_ => exd_add rfl rfl (n := ((k + 1 : Nat) : Int)) (wr (by omega))) (tm' := _::_::_::_::_::_::_::_::_::_::_::_::_::_::_::_::_::_::_::_) rfl ?_
          refine rl_det (met_none rfl) (fun h_ H_ => exd_assign (v := .int .i64 (((k + 1 : Nat) : Int))) rfl) rfl ?_
          refine rl_end ?_
          exact fun h_ H_ => IH5 _ _ (by omega) h_ ⟨k + 1, (ph ++ [(ph.getD ((((xs.getD k pz).1)).toNat) [])]), al ++ (ph.getD ((((xs.getD k pz).1)).toNat) []), v20, X21, rfl, (y_of rfl), ⟨by omega, (rr_step0 (by omega) (by omega) (by omega)).symm.trans hR, by rw [List.length_append, List.length_singleton]; omega, ph_snoc hpm (by omega), by rw [List.length_append]; omega⟩, (o22.as (scs_snoc _ _)), H_.drop⟩
  · refine fl_else rfl (decide_eq_false cc6) ?_
    refine fl_exit rfl ?_
    refine fl_seq ?_
    have hW : rdR [[]] [] xs = some al := by rw [← hR, List.drop_of_length_le (by omega), rdR]
    refine rl_start ?_
    refine rl_det (met_none rfl) (fun h_ H_ => exd_assign (v := .slice none 0 0) rfl) rfl ?_
    refine rl_end ?_
    refine fl_seq ?_
    refine rl_start ?_
    refine rl_det (met_none rfl) (fun h_ H_ => exd_assign (v := sv ([] : List UInt8)) rfl) (tm' := _::_::_::_::_::_::_::_::_::_::_::_) rfl ?_
    refine rl_end ?_
    refine fl_seq ?_
    refine fl_seq ?_
    refine rl_start ?_
    refine rl_det (met_none rfl) (fun h_ H_ => exd_assign (v := .int .i64 0) rfl) rfl ?_
    refine rl_end ?_
    refine fl_block ?_
    refine fl_loop (m₀ := al.length - 0) (fun m_ tm_ h_ => ∃ (j : Nat) (out : List By) (tx : By) (w2 : Value) (X2 : Pcs), m_ = al.length - j ∧ (∃ y23 : Nat → Value, tm_ = [.slice a n c, undef, (y4 2), (y4 3), w1, sv al, .int .i64 (((k : Nat) : Int)), (y4 7), (y4 8), w2, sv tx, .int .i64 (((j : Nat) : Int)), v1, .int .i64 (((k : Nat) : Int)), .slice a n c, .int .i64 (((n : Nat) : Int)), .bool (decide (((k : Nat) : Int) < ((n : Nat) : Int))), (y4 17), (y4 18), (y4 19), (y4 20), (y4 21), (y4 22), (y4 23), (y4 24), (y4 25), (y4 26), (y4 27), (y4 28), (y4 29), (y4 30), (y4 31), (y4 32), (y4 33), (y4 34), (y4 35), (y4 36), (y4 37), (y4 38), (y4 39), (y4 40), (y4 41), (y4 42), (y4 43), (y4 44), (y4 45), (y4 46), (y4 47), (y4 48), (y4 49), (y4 50), (y4 51), (y4 52), (y23 53), (y23 54), (y23 55), (y23 56), (y23 57), (y23 58), (y23 59), (y23 60), (y23 61), (y23 62), (y23 63), (y23 64), (y23 65), (y23 66), (y23 67), (y23 68), (y23 69), (y23 70), (y23 71), (y23 72), (y23 73), undef, undef, undef]) ∧ (j ≤ al.length ∧ lnR out tx (al.drop j) = lnR [] [] al ∧ out.length ≤ j ∧ tx.length ≤ j) ∧ (OwnS 9 1 w2 (scs out) X2) ∧ St h [] p h_ (([] : Pcs) ++ (X2 ++ (X1 ++ [])))) (fun h_ H_ => ⟨0, [], [], (.slice none 0 0), [], rfl, (y_of rfl), ⟨Nat.zero_le _, rfl, by simp, by simp⟩, (OwnS.empty _ _), H_⟩) ?_
    intro m_ tm_ IH24
    refine rs_ex fun j => rs_ex fun out => rs_ex fun tx => rs_ex fun w2 => rs_ex fun X2 => rs_and fun hm_ => rs_and fun ht_ => rs_and fun hq2 => rs_and fun o2 => ?_
    subst hm_; obtain ⟨y23, ht_⟩ := ht_; subst ht_
    obtain ⟨hj, hL, hol, htl⟩ := hq2
    refine fl_seq ?_
    refine fl_seq ?_
    refine rl_start ?_
    refine rl_det (met_none rfl) (fun h_ H_ => exd_move (v := .int .i64 (((j : Nat) : Int))) rfl) rfl ?_
    refine rl_det (met_none rfl) (fun h_ H_ => exd_move (v := sv al) rfl) (tm' := [_,_,_,_,_,_,_,_,_,_,_,_,_,_,_,_,_,_,_,_,_,_,_,_,_,_,_,_,_,_,_,_,_,_,_,_,_,_,_,_,_,_,_,_,_,_,_,_,_,_,_,_,_,_,_,_,_,_,_,_,_,_,_,_,_,_,_,_,_,_,_,_,_,_,_,_,_]) rfl ?_
    refine rl_det (met_none rfl) (fun h_ H_ => exd_lenS (l := al) Tryd.underlying9 rfl) rfl ?_
    refine rl_det (met_none rfl) (fun h_ H_ => exd_lss rfl rfl) rfl ?_
    refine rl_end ?_
    by_cases cc25 : ((j : Nat) : Int) < ((al.length : Nat) : Int)
    · refine fl_then rfl (decide_eq_true cc25) ?_
      refine fl_skip ?_
      refine fl_seq ?_
      refine fl_block ?_
      refine fl_seq ?_
      refine rl_start ?_
      refine rl_det (met_none rfl) (fun h_ H_ => exd_move (v := sv al) rfl) (tm' := [_,_,_,_,_,_,_,_,_,_,_,_,_,_,_,_,_,_,_,_,_,_,_,_,_,_,_,_,_,_,_,_,_,_,_,_,_,_,_,_,_,_,_,_,_,_,_,_,_,_,_,_,_,_,_,_,_,_,_,_,_,_,_,_,_,_,_,_,_,_,_,_,_,_,_,_,_]) rfl ?_
      refine rl_det (met_none rfl) (fun h_ H_ => exd_move (v := .int .i64 (((j : Nat) : Int))) rfl) rfl ?_
      refine rl_det (met_none rfl) (fun h_ H_ => exd_indexSN (l := al) (i := j) Tryd.underlying9 rfl rfl (by omega)) rfl ?_
      refine rl_det (met_none rfl) (fun h_ H_ => exd_eql rfl rfl) (tm' := [_,_,_,_,_,_,_,_,_,_,_,_,_,_,_,_,_,_,_,_,_,_,_,_,_,_,_,_,_,_,_,_,_,_,_,_,_,_,_,_,_,_,_,_,_,_,_,_,_,_,_,_,_,_,_,_,_,_,_,_,_,_,_,_,_,_,_,_,_,_,_,_,_,_,_,_,_]) rfl ?_
      refine rl_end ?_
      by_cases cc26 : (((al.getD j 0).toNat : Nat) : Int) = 10
      · refine fl_then rfl (decide_eq_true cc26) ?_
        refine fl_seq ?_
        refine rl_start ?_
        refine rl_det (met_none rfl) (fun h_ H_ => exd_move (v := w2) rfl) rfl ?_
        refine rl_det (met_none rfl) (fun h_ H_ => exd_move (v := sv tx) rfl) rfl ?_
        refine rl_buildO ([] : Pcs) (met_none rfl) Tryd.underlying22 tS9 tZ9 (Nat.le_of_ble_eq_true rfl) (vs := [(0, sv tx)]) rfl rfl (es := [[sv tx]]) rfl rfl rfl fun v27 X28 o29 => ?_
        refine rl_norm (tm' := [_,_,_,_,_,_,_,_,_,_,_,_,_,_,_,_,_,_,_,_,_,_,_,_,_,_,_,_,_,_,_,_,_,_,_,_,_,_,_,_,_,_,_,_,_,_,_,_,_,_,_,_,_,_,_,_,_,_,_,_,_,_,_,_,_,_,_,_,_,_,_,_,_,_,_,_,_]) rfl ?_
        refine rl_perm (List.Perm.append_left _ (List.perm_append_comm_assoc _ _ _)) ?_
        refine rl_own (L' := ([] : Pcs) ++ (X2 ++ (X28 ++ (X1 ++ [])))) rfl ?_
        refine rl_appendO ([] : Pcs) X2 X28 (met_none rfl) Tryd.underlying22 tS9 tZ9 rfl tB9 Tryd.underlying22 rfl rfl o2 o29 (ones_of rfl) (by rw [scs_length]; simp only [List.length_cons, List.length_nil]; omega) (by decide) fun v30 X31 o32 => ?_
        refine rl_det (met_none rfl) (fun h_ H_ => exd_assign (v := v30) rfl) rfl ?_
        refine rl_end ?_
        refine rl_start ?_
        refine rl_det (met_none rfl) (fun h_ H_ => exd_assign (v := sv ([] : List UInt8)) rfl) (tm' := _::_::_::_::_::_::_::_::_::_::_::_) rfl ?_
        refine rl_end ?_
        refine fl_inBlock ?_
        refine rl_start ?_
        refine rl_det (met_none rfl) (fun h_ H_ => exd_move (v := .int .i64 (((j : Nat) : Int))) rfl) rfl ?_
        refine rl_det (met_none rfl) (fun h_ H_ => exd_add rfl rfl (n := ((j + 1 : Nat) : Int)) (wr (by omega))) rfl ?_
        refine rl_det (met_none rfl) (fun h_ H_ => exd_assign (v := .int .i64 (((j + 1 : Nat) : Int))) rfl) (tm' := _::_::_::_::_::_::_::_::_::_::_::_::_) rfl ?_
        refine rl_end ?_
        exact fun h_ H_ => IH24 _ _ (by omega) h_ ⟨j + 1, (out ++ [tx]), ([] : List UInt8), v30, X31, rfl, (y_of rfl), ⟨by omega, (ln_feed (by omega) ‹_›).symm.trans hL, by rw [List.length_append, List.length_singleton]; omega, by simp⟩, (o32.as (scs_snoc _ _)), H_⟩
      · refine fl_else rfl (decide_eq_false cc26) ?_
        refine rl_start ?_
        refine rl_det (met_none rfl) (fun h_ H_ => exd_move (v := sv tx) rfl) rfl ?_
        refine rl_det (met_none rfl) (fun h_ H_ => exd_move (v := sv al) rfl) rfl ?_
        refine rl_det (met_none rfl) (fun h_ H_ => exd_move (v := .int .i64 (((j : Nat) : Int))) rfl) (tm' := [_,_,_,_,_,_,_,_,_,_,_,_,_,_,_,_,_,_,_,_,_,_,_,_,_,_,_,_,_,_,_,_,_,_,_,_,_,_,_,_,_,_,_,_,_,_,_,_,_,_,_,_,_,_,_,_,_,_,_,_,_,_,_,_,_,_,_,_,_,_,_,_,_,_,_,_,_]) rfl ?_
        refine rl_det (met_none rfl) (fun h_ H_ => exd_indexSN (l := al) (i := j) Tryd.underlying9 rfl rfl (by omega)) rfl ?_
        refine rl_det (met_none rfl) (fun h_ H_ => exd_conv ⟨_, Tryd.underlying5⟩ Tryd.underlying3 rfl (n := (((al.getD j 0).toNat : Nat) : Int)) (wrB _)) rfl ?_
        refine rl_calld (met_none rfl) (first := []) (cap := []) rfl rfl fC64 (fun h_ H_ => c64 md _ (((al.getD j 0).toNat : Nat) : Int) (by omega) (by have := byte_le (al.getD j 0); omega)) (tm' := [_,_,_,_,_,_,_,_,_,_,_,_,_,_,_,_,_,_,_,_,_,_,_,_,_,_,_,_,_,_,_,_,_,_,_,_,_,_,_,_,_,_,_,_,_,_,_,_,_,_,_,_,_,_,_,_,_,_,_,_,_,_,_,_,_,_,_,_,_,_,_,_,_,_,_,_,_]) rfl ?_
        refine rl_det (met_none rfl) (fun h_ H_ => exd_catS (l := tx) (m := [UInt8.ofNat ((((al.getD j 0).toNat : Nat) : Int)).toNat]) rfl rfl (by simp only [List.length_singleton]; omega)) rfl ?_
        refine rl_det (met_none rfl) (fun h_ H_ => exd_assign (v := sv (tx ++ ([UInt8.ofNat ((((al.getD j 0).toNat : Nat) : Int)).toNat]))) rfl) rfl ?_
        refine rl_end ?_
        refine fl_inBlock ?_
        refine rl_start ?_
        refine rl_det (met_none rfl) (fun h_ H_ => exd_move (v := .int .i64 (((j : Nat) : Int))) rfl) (tm' := [_,_,_,_,_,_,_,_,_,_,_,_,_,_,_,_,_,_,_,_,_,_,_,_,_,_,_,_,_,_,_,_,_,_,_,_,_,_,_,_,_,_,_,_,_,_,_,_,_,_,_,_,_,_,_,_,_,_,_,_,_,_,_,_,_,_,_,_,_,_,_,_,_,_,_,_,_]) rfl ?_
        refine rl_det (met_none rfl) (fun h_ H_ => exd_add rfl rfl (n := ((j + 1 : Nat) : Int)) (wr (by omega))) rfl ?_
        refine rl_det (met_none rfl) (fun h_ H_ => exd_assign (v := .int .i64 (((j + 1 : Nat) : Int))) rfl) rfl ?_
        refine rl_end ?_
        exact fun h_ H_ => IH24 _ _ (by omega) h_ ⟨j + 1, out, tx ++ ([UInt8.ofNat ((((al.getD j 0).toNat : Nat) : Int)).toNat]), w2, X2, rfl, (y_of rfl), ⟨by omega, (ln_byte (by omega) ‹_›).symm.trans hL, by omega, by rw [List.length_append, List.length_singleton]; omega⟩, o2, H_⟩
    · refine fl_else rfl (decide_eq_false cc25) ?_
      refine fl_exit rfl ?_
      refine fl_seq ?_
      refine rl_start ?_
      refine rl_det (met_none rfl) (fun h_ H_ => exd_move (v := w2) rfl) (tm' := [_,_,_,_,_,_,_,_,_,_,_,_,_,_,_,_,_,_,_,_,_,_,_,_,_,_,_,_,_,_,_,_,_,_,_,_,_,_,_,_,_,_,_,_,_,_,_,_,_,_,_,_,_,_,_,_,_,_,_,_,_,_,_,_,_,_,_,_,_,_,_,_,_,_,_,_,_]) rfl ?_
      refine rl_det (met_none rfl) (fun h_ H_ => exd_move (v := sv tx) rfl) rfl ?_
      refine rl_det (met_none rfl) (fun h_ H_ => exd_eqlS (l := tx) (m := ([] : List UInt8)) rfl rfl) rfl ?_
      refine rl_det (met_none rfl) (fun h_ H_ => exd_assign (v := w2) rfl) (tm' := _::_::_::_) rfl ?_
      refine rl_det (met_none rfl) (fun h_ H_ => exd_assign (v := .bool (decide (tx = ([] : List UInt8)))) rfl) rfl ?_
      refine rl_end ?_
      refine fl_ret Tryd.func66 rfl (vs := [w2, .bool (decide (tx = ([] : List UInt8)))]) (fun h_ H_ => ⟨w2, _, rfl, rfl, ⟨.bool (decide (tx = ([] : List UInt8))), _, rfl, rfl, rfl⟩⟩) (v := .tuple #[w2, .bool (decide (tx = ([] : List UInt8)))]) rfl ?_
      have hY : texR xs = (out, decide (tx = [])) := by
        have e1 : al.drop j = [] := List.drop_of_length_le (by omega)
        rw [e1, lnR] at hL
        rw [texR, hW]
        show ((lnR [] [] al).1, decide ((lnR [] [] al).2 = [])) = _
        rw [← hL]
      exact fun h_ H_ => K _ _ ⟨_, _, by rw [hY], by rw [hY]; exact o2, (H_.sub (by simp)).new⟩
end Go.Proofs.YtiinpnlfdeiloaaDoor
namespace Go.Proofs.YtiinpnlfdeiloaaDoor
open Go.X Go.X.Cent Go.Conc
theorem c66o (md : Md) {v : Value} {xs : List Pie} {X L : Pcs} {p : PHeap} {h₀ h : Heap} {B₀ : List Nat} (o : OwnS 60 2 v (pies xs) X) (s : St h₀ B₀ p h L) (hX : ∀ x ∈ X, x ∈ L) (hn : xs.length ≤ 1000) (hx : ∀ x ∈ xs, 0 ≤ x.1 ∧ x.1 ≤ 1000 ∧ -1 ≤ x.2 ∧ x.2 ≤ 255) :
    CallsX Tryd.prog md 66 #[v] h fun v h' => ∃ w X, v = .tuple #[w, .bool (texR xs).2] ∧ OwnS 9 1 w (scs (texR xs).1) X ∧ New h h' X :=
  lend_to o (pies_length _) s hX fun p' a cap hp' _ hv D => by
    subst hv
    exact c66 md h p' hp' a _ cap xs D hn hx
end Go.Proofs.YtiinpnlfdeiloaaDoor
namespace Go.Proofs.YtiinpnlfdeiloaaDoor
open Go.X Go.X.Cent Go.Conc
set_option maxRecDepth 10000
set_option synthInstance.maxSize 2000
set_option synthInstance.maxHeartbeats 400000

set_option maxHeartbeats 1000000
theorem c46 (md : Md) (h : Heap) (p : PHeap) (hp : Per p h) (a : Option Addr) (n c : Nat) (ts : List By) (T : Strs p a n ts) (hn : n ≤ 2 ^ 60) (ht : ∀ i, i < n → (ts.getD i []).length ≤ 2 ^ 60) : CallsX Tryd.prog md 46 #[.slice a n c] h fun v h' => v = .tuple #[sv (writeB ts).1, .int .i64 (writeB ts).2] ∧ Keep h h' := by
  refine calls_intro (Φ := fun h_ => St h [] p h_ []) Tryd.func46 rfl (tm := [_, _, _, _, _, _, _, _, _, _, _, _]) rfl ?_ (St.start h _ hp)
  intro c₀ cs Stop K
  refine fl_seq ?_
  refine rl_start ?_
  refine rl_det (met_none rfl) (fun h_ H_ => exd_assign (v := sv ([] : List UInt8)) rfl) rfl ?_
  refine rl_det (met_none rfl) (fun h_ H_ => exd_assign (v := .int .i64 0) rfl) rfl ?_
  refine rl_end ?_
  refine fl_seq ?_
  refine fl_seq ?_
  refine rl_start ?_
  refine rl_det (met_none rfl) (fun h_ H_ => exd_move (v := .slice a n c) rfl) (tm' := _::_::_::_::_::_::_) rfl ?_
  refine rl_calld (met_none rfl) (first := []) (cap := []) rfl rfl fC51 (fun h_ H_ => c51 md _ _ (fun b_ o_ e_ => H_.per b_ o_ e_) a n _ _ T (by omega) (fun i_ h_ => ht i_ h_)) rfl ?_
  refine rl_det (met_none rfl) (fun h_ H_ => exd_assign (v := .int .i64 (chkT ts)) rfl) rfl ?_
  refine rl_end ?_
  refine fl_seq ?_
  refine rl_start ?_
  refine rl_det (met_none rfl) (fun h_ H_ => exd_move (v := .int .i64 (chkT ts)) rfl) (tm' := _::_::_::_::_::_::_::_::_) rfl ?_
  refine rl_det (met_none rfl) (fun h_ H_ => exd_neq rfl rfl) rfl ?_
  refine rl_end ?_
  by_cases cc1 : chkT ts ≠ 0
  · refine fl_then rfl (decide_eq_true cc1) ?_
    refine fl_seq ?_
    refine rl_start ?_
    refine rl_det (met_none rfl) (fun h_ H_ => exd_move (v := .int .i64 (chkT ts)) rfl) rfl ?_
    refine rl_det (met_none rfl) (fun h_ H_ => exd_assign (v := sv ([] : List UInt8)) rfl) (tm' := _::_::_::_) rfl ?_
    refine rl_det (met_none rfl) (fun h_ H_ => exd_assign (v := .int .i64 (chkT ts)) rfl) rfl ?_
    refine rl_end ?_
    refine fl_ret Tryd.func46 rfl (vs := [sv ([] : List UInt8), .int .i64 (chkT ts)]) (fun h_ H_ => ⟨sv ([] : List UInt8), _, rfl, rfl, ⟨.int .i64 (chkT ts), _, rfl, rfl, rfl⟩⟩) (v := .tuple #[sv ([] : List UInt8), .int .i64 (chkT ts)]) rfl ?_
    exact fun h_ H_ => K _ _ ⟨by rw [writeB, if_pos ‹_›], H_.kept⟩
  · refine fl_else rfl (decide_eq_false cc1) ?_
    refine fl_skip ?_
    refine fl_seq ?_
    obtain ⟨hw40, hw200, hw820, hts20, hen, hem⟩ := good_len ‹¬ chkT ts ≠ 0›
    have hl := T.len
    refine rl_start ?_
    refine rl_det (met_none rfl) (fun h_ H_ => exd_move (v := .slice a n c) rfl) rfl ?_
    refine rl_calld (met_none rfl) (first := []) (cap := []) rfl rfl fC67 (fun h_ H_ => c67 md _ _ (fun b_ o_ e_ => H_.per b_ o_ e_) a n _ _ T (by omega) hw40) (tm' := [_,_,_,_,_,_,_,_,_,_,_,_]) rfl ?_
    refine rl_det (met_none rfl) (fun h_ H_ => exd_assign (v := sv (fileB ts)) rfl) rfl ?_
    refine rl_det (met_none rfl) (fun h_ H_ => exd_assign (v := .int .i64 0) rfl) rfl ?_
    refine rl_end ?_
    refine fl_ret Tryd.func46 rfl (vs := [sv (fileB ts), .int .i64 0]) (fun h_ H_ => ⟨sv (fileB ts), _, rfl, rfl, ⟨.int .i64 0, _, rfl, rfl, rfl⟩⟩) (v := .tuple #[sv (fileB ts), .int .i64 0]) rfl ?_
    exact fun h_ H_ => K _ _ ⟨by rw [writeB, if_neg ‹_›], H_.kept⟩
theorem c61 (md : Md) (h : Heap) (p : PHeap) (hp : Per p h) (a : Option Addr) (n c : Nat) (xs : List Pie) (D : Pies p a n xs) (hn : n ≤ 1000) (m : Int) (hm : -9223372036854775808 ≤ m ∧ m ≤ 9223372036854775807) : CallsX Tryd.prog md 61 #[.slice a n c, .int .i64 (m)] h fun v h' => v = .bool (decide (¬ badN xs m)) ∧ Keep h h' := by
  refine calls_intro (Φ := fun h_ => St h [] p h_ []) Tryd.func61 rfl (tm := [_, _, _, _, _, _, _, _, _, _, _, _, _, _, _, _, _, _, _, _, _, _]) rfl ?_ (St.start h _ hp)
  intro c₀ cs Stop K
  have hl := D.len
  refine fl_seq ?_
  refine rl_start ?_
  refine rl_det (met_none rfl) (fun h_ H_ => exd_assign (v := .bool (false)) rfl) rfl ?_
  refine rl_end ?_
  refine fl_seq ?_
  refine rl_start ?_
  refine rl_det (met_none rfl) (fun h_ H_ => exd_move (v := .int .i64 (m)) rfl) rfl ?_
  refine rl_det (met_none rfl) (fun h_ H_ => exd_eql rfl rfl) (tm' := _::_::_::_::_::_::_::_) rfl ?_
  refine rl_det (met_none rfl) (fun h_ H_ => exd_move (v := .bool (decide (m = 0))) rfl) rfl ?_
  by_cases cc1 : m = 0
  · refine rl_pass (met_not rfl rfl (decide_eq_true cc1)) rfl ?_
    refine rl_pass (met_not rfl rfl (decide_eq_true cc1)) (tm' := _::_::_::_::_::_::_::_::_::_::_) rfl ?_
    refine rl_pass (met_not rfl rfl (decide_eq_true cc1)) rfl ?_
    refine rl_pass (met_not rfl rfl (decide_eq_true cc1)) rfl ?_
    refine rl_pass (met_not rfl rfl (decide_eq_true cc1)) (tm' := _::_::_::_::_::_::_::_::_::_::_::_::_::_) rfl ?_
    refine rl_pass (met_undef rfl rfl) rfl ?_
    refine rl_pass (met_undef rfl rfl) rfl ?_
    refine rl_pass (met_undef rfl rfl) (tm' := [_,_,_,_,_,_,_,_,_,_,_,_,_,_,_,_,_,_,_,_,_,_]) rfl ?_
    refine rl_pass (met_undef rfl rfl) rfl ?_
    refine rl_pass (met_undef rfl rfl) rfl ?_
    refine rl_pass (met_undef rfl rfl) (tm' := [_,_,_,_,_,_,_,_,_,_,_,_,_,_,_,_,_,_,_,_,_,_]) rfl ?_
    refine rl_pass (met_undef rfl rfl) rfl ?_
    refine rl_pass (met_not rfl rfl (decide_eq_true cc1)) rfl ?_
    refine rl_det (met_none rfl) (fun h_ H_ => exd_pick_t rfl (decide_eq_true cc1) (v := .bool (true)) rfl) (tm' := [_,_,_,_,_,_,_,_,_,_,_,_,_,_,_,_,_,_,_,_,_,_]) rfl ?_
    refine rl_det (met_none rfl) (fun h_ H_ => exd_assign (v := .bool (true)) rfl) rfl ?_
    refine rl_end ?_
    refine fl_ret Tryd.func61 rfl (vs := [.bool (true)]) (fun h_ H_ => ⟨.bool (true), _, rfl, rfl, rfl⟩) (v := .bool (true)) rfl ?_
    exact fun h_ H_ => K _ _ ⟨congrArg Value.bool ((decide_eq_true (by unfold badN; omega)).symm), H_.kept⟩
  · refine rl_det (met_some rfl rfl (decide_eq_false cc1)) (fun h_ H_ => exd_move (v := .int .i64 (m)) rfl) rfl ?_
    refine rl_det (met_some rfl rfl (decide_eq_false cc1)) (fun h_ H_ => exd_move (v := .slice a n c) rfl) (tm' := _::_::_::_::_::_::_::_::_::_::_) rfl ?_
    refine rl_det (met_some rfl rfl (decide_eq_false cc1)) (fun h_ H_ => exd_len Tryd.underlying49 rfl) rfl ?_
    refine rl_calld (met_some rfl rfl (decide_eq_false cc1)) (first := []) (cap := []) rfl rfl fC22 (fun h_ H_ => c22 md _ (m) (1) (((n : Nat) : Int))) rfl ?_
    refine rl_det (met_some rfl rfl (decide_eq_false cc1)) (fun h_ H_ => exd_move (v := .bool (decide (1 ≤ m ∧ m ≤ ((n : Nat) : Int)))) rfl) (tm' := _::_::_::_::_::_::_::_::_::_::_::_::_::_) rfl ?_
    by_cases cc2 : 1 ≤ m ∧ m ≤ ((n : Nat) : Int)
    · refine rl_det (met_some rfl rfl (decide_eq_true cc2)) (fun h_ H_ => exd_move (v := .slice a n c) rfl) rfl ?_
      refine rl_det (met_some rfl rfl (decide_eq_true cc2)) (fun h_ H_ => exd_move (v := .int .i64 (m)) rfl) rfl ?_
      refine rl_det (met_some rfl rfl (decide_eq_true cc2)) (fun h_ H_ => exd_sub rfl rfl (wr (by omega))) (tm' := [_,_,_,_,_,_,_,_,_,_,_,_,_,_,_,_,_,_,_,_,_,_]) rfl ?_
      refine rl_det (met_some rfl rfl (decide_eq_true cc2)) (fun h_ H_ => exd_indexAddr Tryd.underlying49 tS60 (sl_ne a n c (D.ne (by omega))) rfl (by omega) (by omega) (a' := (adr a).add (((m - 1)).toNat * 2)) rfl) rfl ?_
      refine rl_det (met_some rfl rfl (decide_eq_true cc2)) (fun h_ H_ => exd_fieldAddr tF60_1 rfl (a' := ((adr a).add (((m - 1)).toNat * 2)).add 1) rfl) rfl ?_
      refine rl_det (met_some rfl rfl (decide_eq_true cc2)) (fun h_ H_ => exd_load_per H_ tA3 rfl (v := .int .i64 ((xs.getD (((m - 1)).toNat) pz).2)) (D.by (by omega))) (tm' := [_,_,_,_,_,_,_,_,_,_,_,_,_,_,_,_,_,_,_,_,_,_]) rfl ?_
      refine rl_det (met_some rfl rfl (decide_eq_true cc2)) (fun h_ H_ => exd_neq rfl rfl) rfl ?_
      refine rl_det (met_some rfl rfl (decide_eq_false cc1)) (fun h_ H_ => exd_pick_t rfl (decide_eq_true cc2) (v := .bool (decide ((xs.getD (((m - 1)).toNat) pz).2 ≠ (-1)))) rfl) rfl ?_
      refine rl_det (met_none rfl) (fun h_ H_ => exd_pick_f rfl (decide_eq_false cc1) (v := .bool (decide ((xs.getD (((m - 1)).toNat) pz).2 ≠ (-1)))) rfl) (tm' := [_,_,_,_,_,_,_,_,_,_,_,_,_,_,_,_,_,_,_,_,_,_]) rfl ?_
      refine rl_det (met_none rfl) (fun h_ H_ => exd_assign (v := .bool (decide ((xs.getD (((m - 1)).toNat) pz).2 ≠ (-1)))) rfl) rfl ?_
      refine rl_end ?_
      refine fl_ret Tryd.func61 rfl (vs := [.bool (decide ((xs.getD (((m - 1)).toNat) pz).2 ≠ (-1)))]) (fun h_ H_ => ⟨.bool (decide ((xs.getD (((m - 1)).toNat) pz).2 ≠ (-1))), _, rfl, rfl, rfl⟩) (v := .bool (decide ((xs.getD (((m - 1)).toNat) pz).2 ≠ (-1)))) rfl ?_
      exact fun h_ H_ => K _ _ ⟨congrArg Value.bool (decide_eq_decide.2 (by unfold badN; omega)), H_.kept⟩
    · refine rl_pass (met_not rfl rfl (decide_eq_false cc2)) rfl ?_
      refine rl_pass (met_not rfl rfl (decide_eq_false cc2)) (tm' := [_,_,_,_,_,_,_,_,_,_,_,_,_,_,_,_,_,_,_,_,_,_]) rfl ?_
      refine rl_pass (met_not rfl rfl (decide_eq_false cc2)) rfl ?_
      refine rl_pass (met_not rfl rfl (decide_eq_false cc2)) rfl ?_
      refine rl_pass (met_not rfl rfl (decide_eq_false cc2)) (tm' := [_,_,_,_,_,_,_,_,_,_,_,_,_,_,_,_,_,_,_,_,_,_]) rfl ?_
      refine rl_pass (met_not rfl rfl (decide_eq_false cc2)) rfl ?_
      refine rl_pass (met_not rfl rfl (decide_eq_false cc2)) rfl ?_
      refine rl_det (met_some rfl rfl (decide_eq_false cc1)) (fun h_ H_ => exd_pick_f rfl (decide_eq_false cc2) (v := .bool (false)) rfl) (tm' := [_,_,_,_,_,_,_,_,_,_,_,_,_,_,_,_,_,_,_,_,_,_]) rfl ?_
      refine rl_det (met_none rfl) (fun h_ H_ => exd_pick_f rfl (decide_eq_false cc1) (v := .bool (false)) rfl) rfl ?_
      refine rl_det (met_none rfl) (fun h_ H_ => exd_assign (v := .bool (false)) rfl) rfl ?_
      refine rl_end ?_
      refine fl_ret Tryd.func61 rfl (vs := [.bool (false)]) (fun h_ H_ => ⟨.bool (false), _, rfl, rfl, rfl⟩) (v := .bool (false)) rfl ?_
      exact fun h_ H_ => K _ _ ⟨congrArg Value.bool ((decide_eq_false (by unfold badN; omega)).symm), H_.kept⟩
theorem c25 (md : Md) (h : Heap) (p : PHeap) (hp : Per p h) (a : Option Addr) (n c : Nat) (ts : List By) (T : Strs p a n ts) (hn : n ≤ 2 ^ 60) (ht : ∀ i, i < n → (ts.getD i []).length ≤ 2 ^ 60) (m : Int) (hm : -9223372036854775808 ≤ m ∧ m ≤ 9223372036854775807) : CallsX Tryd.prog md 25 #[.slice a n c, .int .i64 (m)] h fun v h' => v = .tuple #[.int .i64 (usesB ts m).1, .int .i64 (usesB ts m).2] ∧ Keep h h' := by
  refine calls_intro (Φ := fun h_ => St h [] p h_ []) Tryd.func25 rfl (tm := [_, _, _, _, _, _, _, _, _, _, _, _, _, _, _, _, _, _, _, _, _, _, _, _, _, _, _, _, _, _, _, _, _, _, _, _, _, _, _, _, _, _]) rfl ?_ (St.start h _ hp)
  intro c₀ cs Stop K
  refine fl_seq ?_
  refine rl_start ?_
  refine rl_det (met_none rfl) (fun h_ H_ => exd_assign (v := .int .i64 0) rfl) (tm' := _::_::_::_::_::_) rfl ?_
  refine rl_det (met_none rfl) (fun h_ H_ => exd_assign (v := .int .i64 0) rfl) rfl ?_
  refine rl_end ?_
  refine fl_seq ?_
  refine fl_seq ?_
  refine rl_start ?_
  refine rl_det (met_none rfl) (fun h_ H_ => exd_move (v := .slice a n c) rfl) rfl ?_
  refine rl_calld (met_none rfl) (first := []) (cap := []) rfl rfl fC51 (fun h_ H_ => c51 md _ _ (fun b_ o_ e_ => H_.per b_ o_ e_) a n _ _ T (by omega) (fun i_ h_ => ht i_ h_)) (tm' := _::_::_::_::_::_::_::_::_::_::_::_::_::_) rfl ?_
  refine rl_det (met_none rfl) (fun h_ H_ => exd_assign (v := .int .i64 (chkT ts)) rfl) rfl ?_
  refine rl_end ?_
  refine fl_seq ?_
  refine rl_start ?_
  refine rl_det (met_none rfl) (fun h_ H_ => exd_move (v := .int .i64 (chkT ts)) rfl) rfl ?_
  refine rl_det (met_none rfl) (fun h_ H_ => exd_neq rfl rfl) (tm' := _::_::_::_::_::_::_::_::_::_::_::_::_::_::_::_) rfl ?_
  refine rl_end ?_
  by_cases cc1 : chkT ts ≠ 0
  · refine fl_then rfl (decide_eq_true cc1) ?_
    refine fl_seq ?_
    refine rl_start ?_
    refine rl_det (met_none rfl) (fun h_ H_ => exd_move (v := .int .i64 (chkT ts)) rfl) rfl ?_
    refine rl_det (met_none rfl) (fun h_ H_ => exd_assign (v := .int .i64 0) rfl) rfl ?_
    refine rl_det (met_none rfl) (fun h_ H_ => exd_assign (v := .int .i64 (chkT ts)) rfl) (tm' := _::_::_::_::_::_::_) rfl ?_
    refine rl_end ?_
    refine fl_ret Tryd.func25 rfl (vs := [.int .i64 0, .int .i64 (chkT ts)]) (fun h_ H_ => ⟨.int .i64 0, _, rfl, rfl, ⟨.int .i64 (chkT ts), _, rfl, rfl, rfl⟩⟩) (v := .tuple #[.int .i64 0, .int .i64 (chkT ts)]) rfl ?_
    exact fun h_ H_ => K _ _ ⟨by rw [usesB, if_pos ‹_›], H_.kept⟩
  · refine fl_else rfl (decide_eq_false cc1) ?_
    refine fl_skip ?_
    refine fl_seq ?_
    obtain ⟨hw40, hw200, hw820, hts20, hen, hem⟩ := good_len ‹¬ chkT ts ≠ 0›
    have hl := T.len
    refine rl_start ?_
    refine rl_det (met_none rfl) (fun h_ H_ => exd_move (v := .slice a n c) rfl) rfl ?_
    refine rl_calld (met_none rfl) (first := []) (cap := []) rfl rfl fC31 (fun h_ H_ => c31 md _ _ (fun b_ o_ e_ => H_.per b_ o_ e_) a n _ _ T (by omega) hw200) rfl ?_
    refine rl_own (L' := ([] : Pcs) ++ []) rfl ?_
    refine rl_call (met_none rfl) (first := []) (cap := []) rfl rfl fC60 (R := fun v_ h_ => ∃ w2 : Value, ∃ X3 : Pcs, ∃ w4 : Value, ∃ X5 : Pcs, v_ = .tuple #[w2, w4] ∧ (OwnS 60 2 w2 (pies (encS [[]] (wholeB ts))) X3) ∧ (OwnS 9 1 w4 (scs (eachS [[]] (wholeB ts))) X5) ∧ St h [] p h_ (([] : Pcs) ++ ((X3 ++ (X5 ++ [])) ++ []))) (fun h_ H_ => (c60 md _ (wholeB ts) (by omega)).mono fun v_ h2_ ⟨w2, X3, w4, X5, e_, o6, o7, N_⟩ => ⟨w2, X3, w4, X5, e_, o6, o7, H_.callNA N_⟩) fun v_ => ?_
    refine rl_ex fun w2 => rl_ex fun X3 => rl_ex fun w4 => rl_ex fun X5 => rl_and fun ev_ => rl_and fun o6 => rl_and fun o7 => ?_
    have ev_ := ev_.symm; subst ev_
    refine rl_own (L' := ([] : Pcs) ++ (X3 ++ (X5 ++ []))) (by simp) ?_
    refine rl_norm (tm' := _::_::_::_::_::_::_::_::_::_::_::_::_::_::_::_::_::_::_::_::_) rfl ?_
    refine rl_det (met_none rfl) (fun h_ H_ => exd_move (v := .tuple #[w2, w4]) rfl) rfl ?_
    refine rl_det (met_none rfl) (fun h_ H_ => exd_extract rfl (v := w2) rfl) rfl ?_
    refine rl_det (met_none rfl) (fun h_ H_ => exd_extract rfl (v := w4) rfl) (tm' := _::_::_::_::_::_::_::_::_::_::_::_::_::_::_::_::_::_::_::_::_::_::_) rfl ?_
    refine rl_det (met_none rfl) (fun h_ H_ => exd_assign (v := w2) rfl) rfl ?_
    refine rl_det (met_none rfl) (fun h_ H_ => exd_assign (v := w4) rfl) rfl ?_
    refine rl_end ?_
    refine fl_seq ?_
    refine fl_seq ?_
    refine rl_start ?_
    refine rl_det (met_none rfl) (fun h_ H_ => exd_move (v := w2) rfl) (tm' := _::_::_::_::_::_::_::_::_::_::_::_::_::_::_::_::_::_::_::_::_::_::_::_) rfl ?_
    refine rl_det (met_none rfl) (fun h_ H_ => exd_move (v := .int .i64 (m)) rfl) rfl ?_
    refine rl_calld (met_none rfl) (first := []) (cap := []) rfl rfl fC61 (fun h_ H_ => lend_to (n := (encS [[]] (wholeB ts)).length) o6 (pies_length _) H_ (fun x_ h_ => by simp [h_]) fun p_ a_ c_ hp_ _ hv_ D_ => by rw [hv_]; exact c61 md _ _ hp_ a_ _ c_ _ D_ (by omega) m hm) rfl ?_
    refine rl_det (met_none rfl) (fun h_ H_ => exd_not rfl) (tm' := _::_::_::_::_::_::_::_::_::_::_::_::_::_::_::_::_::_::_::_::_::_::_::_::_::_::_) rfl ?_
    refine rl_end ?_
    by_cases cc8 : ¬ badN (encS [[]] (wholeB ts)) m
    · refine fl_else rfl (not_f (decide_eq_true cc8)) ?_
      refine fl_skip ?_
      refine fl_seq ?_
      refine rl_start ?_
      refine rl_det (met_none rfl) (fun h_ H_ => exd_assign (v := .int .i64 0) rfl) rfl ?_
      refine rl_end ?_
      refine fl_seq ?_
      refine fl_seq ?_
      refine rl_start ?_
      refine rl_det (met_none rfl) (fun h_ H_ => exd_assign (v := .int .i64 0) rfl) rfl ?_
      refine rl_end ?_
      refine fl_block ?_
      refine fl_loop (m₀ := (encS [[]] (wholeB ts)).length - 0) (fun m_ tm_ h_ => ∃ (k : Nat) (z : Int), m_ = (encS [[]] (wholeB ts)).length - k ∧ (∃ y9 : Nat → Value, tm_ = [.slice a n c, .int .i64 (m), undef, undef, .int .i64 0, .int .i64 0, .int .i64 (chkT ts), w2, w4, .int .i64 (z), .int .i64 (((k : Nat) : Int)), .slice a n c, .int .i64 (chkT ts), .int .i64 (chkT ts), .bool (decide (chkT ts ≠ 0)), undef, .tuple #[w2, w4], .slice a n c, sv (wholeB ts), .tuple #[w2, w4], w2, w4, w2, .int .i64 (m), .bool (decide (¬ badN (encS [[]] (wholeB ts)) m)), .bool (!(decide (¬ badN (encS [[]] (wholeB ts)) m))), (y9 26), (y9 27), (y9 28), (y9 29), (y9 30), (y9 31), (y9 32), (y9 33), (y9 34), (y9 35), (y9 36), (y9 37), (y9 38), (y9 39), (y9 40), undef]) ∧ (k ≤ (encS [[]] (wholeB ts)).length) ∧ (z = ((cntN ((encS [[]] (wholeB ts)).take k) m : Nat) : Int)) ∧ (0 ≤ z ∧ z ≤ k) ∧ St h [] p h_ (([] : Pcs) ++ (X3 ++ (X5 ++ [])))) (fun h_ H_ => ⟨0, 0, rfl, (y_of rfl), Nat.zero_le _, (by simp [cntN]), ⟨by omega, by omega⟩, H_⟩) ?_
      intro m_ tm_ IH10
      refine rs_ex fun k => rs_ex fun z => rs_and fun hm_ => rs_and fun ht_ => rs_and fun hk => rs_and fun hz => rs_and fun hzk => ?_
      subst hm_; obtain ⟨y9, ht_⟩ := ht_; subst ht_
      refine fl_seq ?_
      refine fl_seq ?_
      refine rl_start ?_
      refine rl_det (met_none rfl) (fun h_ H_ => exd_move (v := .int .i64 (((k : Nat) : Int))) rfl) (tm' := _::_::_::_::_::_::_::_::_::_::_::_::_::_::_::_::_::_::_::_::_::_::_::_::_::_::_::_) rfl ?_
      refine rl_det (met_none rfl) (fun h_ H_ => exd_move (v := w2) rfl) rfl ?_
      refine rl_det (met_none rfl) (fun h_ H_ => exd_lenN o6 (pies_length _) Tryd.underlying49 rfl) rfl ?_
      refine rl_det (met_none rfl) (fun h_ H_ => exd_lss rfl rfl) (tm' := [_,_,_,_,_,_,_,_,_,_,_,_,_,_,_,_,_,_,_,_,_,_,_,_,_,_,_,_,_,_,_,_,_,_,_,_,_,_,_,_,_,_]) rfl ?_
      refine rl_end ?_
      by_cases cc11 : ((k : Nat) : Int) < (((encS [[]] (wholeB ts)).length : Nat) : Int)
      · refine fl_then rfl (decide_eq_true cc11) ?_
        refine fl_skip ?_
        refine fl_seq ?_
        refine fl_block ?_
        refine fl_seq ?_
        refine rl_start ?_
        refine rl_det (met_none rfl) (fun h_ H_ => exd_move (v := w2) rfl) rfl ?_
        refine rl_det (met_none rfl) (fun h_ H_ => exd_move (v := .int .i64 (((k : Nat) : Int))) rfl) rfl ?_
        refine rl_det (met_none rfl) (fun h_ H_ => exd_indexO o6 Tryd.underlying49 tS60 rfl rfl (by rw [(pies_length _)]; omega)) (tm' := [_,_,_,_,_,_,_,_,_,_,_,_,_,_,_,_,_,_,_,_,_,_,_,_,_,_,_,_,_,_,_,_,_,_,_,_,_,_,_,_,_,_]) rfl ?_
        refine rl_det (met_none rfl) (fun h_ H_ => exd_fieldAddr tF60_0 rfl (a' := (adrV w2).add (k * 2)) rfl) rfl ?_
        refine rl_det (met_none rfl) (fun h_ H_ => exd_loadO (A := ([] : Pcs)) (i := k) (j := 0) (e := ((encS [[]] (wholeB ts)).getD k pz).cells) o6 H_ tA3 rfl rfl (pies_at (by omega)) (u := .int .i64 (((encS [[]] (wholeB ts)).getD k pz).1)) rfl) rfl ?_
        refine rl_det (met_none rfl) (fun h_ H_ => exd_move (v := .int .i64 (m)) rfl) (tm' := [_,_,_,_,_,_,_,_,_,_,_,_,_,_,_,_,_,_,_,_,_,_,_,_,_,_,_,_,_,_,_,_,_,_,_,_,_,_,_,_,_,_]) rfl ?_
        refine rl_det (met_none rfl) (fun h_ H_ => exd_eql rfl rfl) rfl ?_
        refine rl_end ?_
        by_cases cc12 : ((encS [[]] (wholeB ts)).getD k pz).1 = m
        · refine fl_then rfl (decide_eq_true cc12) ?_
          refine rl_start ?_
          refine rl_det (met_none rfl) (fun h_ H_ => exd_move (v := .int .i64 (z)) rfl) rfl ?_
          refine rl_det (met_none rfl) (fun h_ H_ => exd_add rfl rfl (wr (by omega))) (tm' := [_,_,_,_,_,_,_,_,_,_,_,_,_,_,_,_,_,_,_,_,_,_,_,_,_,_,_,_,_,_,_,_,_,_,_,_,_,_,_,_,_,_]) rfl ?_
          refine rl_det (met_none rfl) (fun h_ H_ => exd_assign (v := .int .i64 (z + 1)) rfl) rfl ?_
          refine rl_end ?_
          refine fl_inBlock ?_
          refine rl_start ?_
          refine rl_det (met_none rfl) (fun h_ H_ => exd_move (v := .int .i64 (((k : Nat) : Int))) rfl) rfl ?_
          refine rl_det (met_none rfl) (fun h_ H_ => exd_add rfl rfl (n := ((k + 1 : Nat) : Int)) (wr (by omega))) (tm' := [_,_,_,_,_,_,_,_,_,_,_,_,_,_,_,_,_,_,_,_,_,_,_,_,_,_,_,_,_,_,_,_,_,_,_,_,_,_,_,_,_,_]) rfl ?_
          refine rl_det (met_none rfl) (fun h_ H_ => exd_assign (v := .int .i64 (((k + 1 : Nat) : Int))) rfl) rfl ?_
          refine rl_end ?_
          exact fun h_ H_ => IH10 _ _ (by omega) h_ ⟨k + 1, z + 1, rfl, (y_of rfl), (by omega), (by rw [cnt_step (by omega), hz]; rw [if_pos ‹_›]; omega), ⟨by omega, by omega⟩, H_⟩
        · refine fl_else rfl (decide_eq_false cc12) ?_
          refine fl_skip ?_
          refine fl_inBlock ?_
          refine rl_start ?_
          refine rl_det (met_none rfl) (fun h_ H_ => exd_move (v := .int .i64 (((k : Nat) : Int))) rfl) rfl ?_
          refine rl_det (met_none rfl) (fun h_ H_ => exd_add rfl rfl (n := ((k + 1 : Nat) : Int)) (wr (by omega))) (tm' := [_,_,_,_,_,_,_,_,_,_,_,_,_,_,_,_,_,_,_,_,_,_,_,_,_,_,_,_,_,_,_,_,_,_,_,_,_,_,_,_,_,_]) rfl ?_
          refine rl_det (met_none rfl) (fun h_ H_ => exd_assign (v := .int .i64 (((k + 1 : Nat) : Int))) rfl) rfl ?_
          refine rl_end ?_
          exact fun h_ H_ => IH10 _ _ (by omega) h_ ⟨k + 1, z, rfl, (y_of rfl), (by omega), (by rw [cnt_step (by omega), hz]; rw [if_neg ‹_›]; omega), ⟨by omega, by omega⟩, H_⟩
      · refine fl_else rfl (decide_eq_false cc11) ?_
        refine fl_exit rfl ?_
        refine fl_seq ?_
        refine rl_start ?_
        refine rl_det (met_none rfl) (fun h_ H_ => exd_move (v := .int .i64 (z)) rfl) rfl ?_
        refine rl_det (met_none rfl) (fun h_ H_ => exd_assign (v := .int .i64 (z)) rfl) (tm' := _::_::_::_::_::_) rfl ?_
        refine rl_det (met_none rfl) (fun h_ H_ => exd_assign (v := .int .i64 0) rfl) rfl ?_
        refine rl_end ?_
        refine fl_ret Tryd.func25 rfl (vs := [.int .i64 (z), .int .i64 0]) (fun h_ H_ => ⟨.int .i64 (z), _, rfl, rfl, ⟨.int .i64 0, _, rfl, rfl, rfl⟩⟩) (v := .tuple #[.int .i64 (z), .int .i64 0]) rfl ?_
        have hz2 : z = ((cntN (encS [[]] (wholeB ts)) m : Nat) : Int) := by rw [hz, List.take_of_length_le (by omega)]
        exact fun h_ H_ => K _ _ ⟨by rw [usesB, if_neg ‹_›, if_neg ‹_›, hz2], H_.kept⟩
    · refine fl_then rfl (not_t (decide_eq_false cc8)) ?_
      refine fl_seq ?_
      refine rl_start ?_
      refine rl_det (met_none rfl) (fun h_ H_ => exd_assign (v := .int .i64 0) rfl) rfl ?_
      refine rl_det (met_none rfl) (fun h_ H_ => exd_assign (v := .int .i64 1) rfl) (tm' := _::_::_::_::_::_::_) rfl ?_
      refine rl_end ?_
      refine fl_ret Tryd.func25 rfl (vs := [.int .i64 0, .int .i64 1]) (fun h_ H_ => ⟨.int .i64 0, _, rfl, rfl, ⟨.int .i64 1, _, rfl, rfl, rfl⟩⟩) (v := .tuple #[.int .i64 0, .int .i64 1]) rfl ?_
      exact fun h_ H_ => K _ _ ⟨by rw [usesB, if_neg ‹_›, if_pos (Decidable.not_not.1 ‹_›)], H_.kept⟩
theorem c27 (md : Md) (h : Heap) (s : By) (hs : s.length ≤ 2 ^ 60) : CallsX Tryd.prog md 27 #[sv s] h fun v h' => v = .tuple #[.int .i64 (sumB s).1, .int .i64 (sumB s).2] ∧ Keep h h' := by
  refine calls_intro (Φ := fun h_ => St h [] (fun _ => none) h_ []) Tryd.func27 rfl (tm := [_, _, _, _, _, _, _, _, _]) rfl ?_ (St.start h _ (fun _ _ e => by cases e))
  intro c₀ cs Stop K
  refine fl_seq ?_
  refine rl_start ?_
  refine rl_det (met_none rfl) (fun h_ H_ => exd_assign (v := .int .i64 0) rfl) rfl ?_
  refine rl_det (met_none rfl) (fun h_ H_ => exd_assign (v := .int .i64 0) rfl) rfl ?_
  refine rl_end ?_
  refine fl_seq ?_
  refine fl_seq ?_
  refine rl_start ?_
  refine rl_det (met_none rfl) (fun h_ H_ => exd_move (v := sv s) rfl) (tm' := _::_::_::_::_::_) rfl ?_
  refine rl_det (met_none rfl) (fun h_ H_ => exd_lenS (l := s) Tryd.underlying9 rfl) rfl ?_
  refine rl_det (met_none rfl) (fun h_ H_ => exd_gtr rfl rfl) rfl ?_
  refine rl_end ?_
  by_cases cc1 : 1400 < ((s.length : Nat) : Int)
  · refine fl_then rfl (decide_eq_true cc1) ?_
    refine fl_seq ?_
    refine rl_start ?_
    refine rl_det (met_none rfl) (fun h_ H_ => exd_assign (v := .int .i64 0) rfl) (tm' := _::_::_::_) rfl ?_
    refine rl_det (met_none rfl) (fun h_ H_ => exd_assign (v := .int .i64 1) rfl) rfl ?_
    refine rl_end ?_
    refine fl_ret Tryd.func27 rfl (vs := [.int .i64 0, .int .i64 1]) (fun h_ H_ => ⟨.int .i64 0, _, rfl, rfl, ⟨.int .i64 1, _, rfl, rfl, rfl⟩⟩) (v := .tuple #[.int .i64 0, .int .i64 1]) rfl ?_
    exact fun h_ H_ => K _ _ ⟨by rw [sumB, if_pos (by omega)], H_.kept⟩
  · refine fl_else rfl (decide_eq_false cc1) ?_
    refine fl_skip ?_
    refine fl_seq ?_
    refine rl_start ?_
    refine rl_det (met_none rfl) (fun h_ H_ => exd_move (v := sv s) rfl) rfl ?_
    refine rl_calld (met_none rfl) (first := []) (cap := []) rfl rfl fC35 (fun h_ H_ => c35 md _ s (by omega)) (tm' := [_,_,_,_,_,_,_,_,_]) rfl ?_
    refine rl_det (met_none rfl) (fun h_ H_ => exd_assign (v := .int .i64 (((total s % 9973 : Nat) : Int))) rfl) rfl ?_
    refine rl_det (met_none rfl) (fun h_ H_ => exd_assign (v := .int .i64 0) rfl) rfl ?_
    refine rl_end ?_
    refine fl_ret Tryd.func27 rfl (vs := [.int .i64 (((total s % 9973 : Nat) : Int)), .int .i64 0]) (fun h_ H_ => ⟨.int .i64 (((total s % 9973 : Nat) : Int)), _, rfl, rfl, ⟨.int .i64 0, _, rfl, rfl, rfl⟩⟩) (v := .tuple #[.int .i64 (((total s % 9973 : Nat) : Int)), .int .i64 0]) rfl ?_
    exact fun h_ H_ => K _ _ ⟨by rw [sumB, if_neg (by omega)], H_.kept⟩
end Go.Proofs.YtiinpnlfdeiloaaDoor
