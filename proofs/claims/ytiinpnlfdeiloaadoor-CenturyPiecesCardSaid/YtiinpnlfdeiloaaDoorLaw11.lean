/-
  CenturyPieces, for every input: the law returns true and leaves its arguments as they were. The row, and the tied card.
-/
import Derived.Test.YtiinpnlfdeiloaaDoorD2
import Derived.Test.YtiinpnlfdeiloaaDoorD4
import Derived.Test.YtiinpnlfdeiloaaDoorCards
import Derived.Test.YtiinpnlfdeiloaaDoorTie
namespace Go.Proofs.YtiinpnlfdeiloaaDoor
open Go.X Go.X.Cent Go.Conc
set_option maxRecDepth 10000
set_option synthInstance.maxSize 2000
set_option synthInstance.maxHeartbeats 400000

set_option maxHeartbeats 2000000
theorem e11 (h : Heap) (p : PHeap) (hp : Per p h) (htab : Tab h) (a : Option Addr) (n c : Nat) (ts : List By) (T : Strs p a n ts) (hn : n ≤ 9223372036854775807) : EntersL Tryd.prog 11 #[.slice a n c] h fun v h' => v = .bool true ∧ Keep h h' := by
  refine enters_introL (Φ := fun h_ => St h [] p h_ []) Tryd.func11 rfl (tm := [_, _, _, _, _, _, _, _, _, _, _, _, _, _, _, _, _, _, _, _, _, _, _, _, _, _, _, _, _, _, _, _, _, _, _, _, _, _, _, _, _, _, _, _, _, _, _, _, _, _, _, _, _, _, _, _, _, _, _, _, _, _, _, _, _, _, _, _, _, _, _, _, _, _, _, _, _, _, _, _, _, _, _, _, _, _, _, _, _, _, _, _, _, _, _, _, _, _, _, _, _, _, _, _, _, _, _, _, _, _, _, _, _, _, _, _, _, _, _, _, _, _, _, _, _, _, _, _, _, _, _, _, _, _, _, _, _, _, _, _, _, _, _, _, _, _, _, _, _, _, _, _, _, _, _, _, _, _, _, _]) rfl ?_ (St.start h _ hp)
  intro cs
  have hl := T.len
  refine fl_seq ?_
  refine rl_start ?_
  refine rl_det (met_none rfl) (fun h_ H_ => exd_assign (v := .bool (false)) rfl) rfl ?_
  refine rl_end ?_
  refine fl_seq ?_
  refine fl_seq ?_
  refine rl_start ?_
  refine rl_det (met_none rfl) (fun h_ H_ => exd_move (v := .slice a n c) rfl) rfl ?_
  refine rl_calld (met_none rfl) (first := []) (cap := []) rfl rfl fC15 (fun h_ H_ => c15 _ _ (fun b_ o_ e_ => H_.per b_ o_ e_) a n _ ts T (by omega)) (tm' := _::_::_::_::_::_::_::_::_::_::_::_::_::_::_::_) rfl ?_
  refine rl_det (met_none rfl) (fun h_ H_ => exd_not rfl) rfl ?_
  refine rl_end ?_
  by_cases cc1 : readyT ts
  · refine fl_else rfl (not_f (decide_eq_true cc1)) ?_
    refine fl_skip ?_
    refine fl_seq ?_
    have hrd := ‹readyT ts›
    have hnf := far_facts T hrd.1
    obtain ⟨hn60, ht200, hta⟩ := hnf
    have ht0 : ∀ i, i < n → (ts.getD i []).length ≤ 2 ^ 60 := not_far T hrd.1
    have ht1 : ∀ i, i < ts.length → (ts.getD i []).length ≤ 2 ^ 60 := fun i hi => ht0 i (by omega)
    have hwl : (writeB ts).1.length ≤ 2 ^ 60 := write_len hrd.2
    have h20 := (chk_good hrd.2).1
    have hw200 := ht200
    refine rl_start ?_
    refine rl_det (met_none rfl) (fun h_ H_ => exd_move (v := .slice a n c) rfl) rfl ?_
    refine rl_own (L' := ([] : Pcs) ++ []) rfl ?_
    refine rl_call (met_none rfl) (first := []) (cap := []) rfl rfl fC41 (R := fun v_ h_ => ∃ w2 : Value, ∃ X3 : Pcs, v_ = .tuple #[w2, .bool (decide (chkT ts = 0))] ∧ (OwnS 9 1 w2 (scs (pcB ts)) X3) ∧ St h [] p h_ (([] : Pcs) ++ (X3 ++ []))) (fun h_ H_ => (c41 _ _ (fun b_ o_ e_ => H_.per b_ o_ e_) a n _ ts T (by omega) (by first | exact ht0 | exact ht1 | exact fun i h_ => absurd h_ (Nat.not_lt_zero i))).mono fun v_ h2_ ⟨w2, X3, e_, o4, N_⟩ => ⟨w2, X3, e_, o4, H_.callNA N_⟩) fun v_ => ?_
    refine rl_ex fun w2 => rl_ex fun X3 => rl_and fun ev_ => rl_and fun o4 => ?_
    have ev_ := ev_.symm; subst ev_
    refine rl_own (L' := ([] : Pcs) ++ (X3 ++ [])) rfl ?_
    refine rl_norm (tm' := _::_::_::_::_::_::_::_::_::_::_::_::_::_::_::_::_::_::_::_::_) rfl ?_
    refine rl_det (met_none rfl) (fun h_ H_ => exd_move (v := .tuple #[w2, .bool (decide (chkT ts = 0))]) rfl) rfl ?_
    refine rl_det (met_none rfl) (fun h_ H_ => exd_extract rfl (v := w2) rfl) rfl ?_
    refine rl_det (met_none rfl) (fun h_ H_ => exd_extract rfl (v := .bool (decide (chkT ts = 0))) rfl) (tm' := _::_::_::_::_::_::_::_::_::_::_::_::_::_::_::_::_::_::_::_::_::_::_) rfl ?_
    refine rl_det (met_none rfl) (fun h_ H_ => exd_assign (v := w2) rfl) rfl ?_
    refine rl_det (met_none rfl) (fun h_ H_ => exd_assign (v := .bool (decide (chkT ts = 0))) rfl) rfl ?_
    refine rl_end ?_
    refine fl_seq ?_
    refine rl_start ?_
    refine rl_det (met_none rfl) (fun h_ H_ => exd_move (v := .slice a n c) rfl) (tm' := _::_::_::_::_::_::_::_::_::_::_::_::_::_::_::_::_::_::_::_::_::_::_::_::_) rfl ?_
    refine rl_calld (met_none rfl) (first := []) (cap := []) rfl rfl fC17 (fun h_ H_ => c17 _ _ (fun b_ o_ e_ => H_.per b_ o_ e_) (htab.keep H_.kept) a n _ ts T (by omega) (by first | exact ht0 | exact ht1 | exact fun i h_ => absurd h_ (Nat.not_lt_zero i))) rfl ?_
    refine rl_det (met_none rfl) (fun h_ H_ => exd_move (v := .tuple #[sv ((writeB ts).1), .bool (decide (wrOk ts))]) rfl) rfl ?_
    refine rl_det (met_none rfl) (fun h_ H_ => exd_extract rfl (v := sv ((writeB ts).1)) rfl) (tm' := _::_::_::_::_::_::_::_::_::_::_::_::_::_::_::_::_::_::_::_::_::_::_::_::_::_::_) rfl ?_
    refine rl_det (met_none rfl) (fun h_ H_ => exd_extract rfl (v := .bool (decide (wrOk ts))) rfl) rfl ?_
    refine rl_det (met_none rfl) (fun h_ H_ => exd_assign (v := sv ((writeB ts).1)) rfl) rfl ?_
    refine rl_det (met_none rfl) (fun h_ H_ => exd_assign (v := .bool (decide (wrOk ts))) rfl) (tm' := _::_::_::_::_::_::_::_) rfl ?_
    refine rl_end ?_
    refine fl_seq ?_
    refine fl_seq ?_
    have hpb := pc_len (fun z_ : chkT ts ≠ 0 => z_ hrd.2)
    have hjl : ∀ t ∈ pcB ts, t.length ≤ 1000 := gall (d := []) (P := fun t => t.length ≤ 1000) (long_pc (fun z_ : chkT ts ≠ 0 => z_ hrd.2))
    refine rl_start ?_
    refine rl_det (met_none rfl) (fun h_ H_ => exd_move (v := .bool (decide (chkT ts = 0))) rfl) rfl ?_
    refine rl_det (met_none rfl) (fun h_ H_ => exd_not rfl) rfl ?_
    refine rl_det (met_none rfl) (fun h_ H_ => exd_move (v := .bool (!(decide (chkT ts = 0)))) rfl) (tm' := _::_::_::_::_::_::_::_::_::_::_::_::_::_::_::_::_::_::_::_::_::_::_::_::_::_::_::_::_::_::_) rfl ?_
    refine rl_det (met_some rfl rfl (not_f (decide_eq_true hrd.2))) (fun h_ H_ => exd_move (v := .bool (decide (wrOk ts))) rfl) rfl ?_
    refine rl_det (met_some rfl rfl (not_f (decide_eq_true hrd.2))) (fun h_ H_ => exd_not rfl) rfl ?_
    refine rl_det (met_none rfl) (fun h_ H_ => exd_pick_f rfl (not_f (decide_eq_true hrd.2)) (v := .bool (!(decide (wrOk ts)))) rfl) (tm' := _::_::_::_::_::_::_::_::_::_::_::_::_::_::_::_::_::_::_::_::_::_::_::_::_::_::_::_::_::_::_::_::_::_) rfl ?_
    refine rl_det (met_none rfl) (fun h_ H_ => exd_move (v := .bool (!(decide (wrOk ts)))) rfl) rfl ?_
    refine rl_det (met_some rfl rfl (not_f (decide_eq_true (wr_ok hrd.2)))) (fun h_ H_ => exd_move (v := w2) rfl) rfl ?_
    refine rl_lastC (A := ([] : Pcs)) o4 (scs_length _) (by decide) fun p5 a6 cp7 le8 ev_ D9 hcD9 => ?_
    subst ev_
    refine rl_own (L' := []) rfl ?_
    refine rl_calld (met_some rfl rfl (not_f (decide_eq_true (wr_ok hrd.2)))) (first := []) (cap := []) rfl rfl fC42 (fun h_ H_ => c42 _ _ (fun b_ o_ e_ => H_.per b_ o_ e_) a6 ((pcB ts).length) _ (pcB ts) (show Strs _ _ _ (pcB ts) from D9) (by omega) hjl) (tm' := _::_::_::_::_::_::_::_::_::_::_::_::_::_::_::_::_::_::_::_::_::_::_::_::_::_::_::_::_::_::_::_::_::_::_::_::_) rfl ?_
    refine rl_det (met_some rfl rfl (not_f (decide_eq_true (wr_ok hrd.2)))) (fun h_ H_ => exd_move (v := .slice a n c) rfl) rfl ?_
    refine rl_calld (met_some rfl rfl (not_f (decide_eq_true (wr_ok hrd.2)))) (first := []) (cap := []) rfl rfl fC31 (fun h_ H_ => c31 .lone _ _ (fun b_ o_ e_ => H_.per b_ o_ e_) a n _ ts (T.mono le8) (by omega) hw200) rfl ?_
    refine rl_det (met_some rfl rfl (not_f (decide_eq_true (wr_ok hrd.2)))) (fun h_ H_ => exd_neqS (l := (pcB ts).flatten) (m := wholeB ts) rfl rfl) (tm' := _::_::_::_::_::_::_::_::_::_::_::_::_::_::_::_::_::_::_::_::_::_::_::_::_::_::_::_::_::_::_::_::_::_::_::_::_::_::_::_) rfl ?_
    refine rl_det (met_none rfl) (fun h_ H_ => exd_pick_f rfl (not_f (decide_eq_true (wr_ok hrd.2))) (v := .bool (!decide ((pcB ts).flatten = wholeB ts))) rfl) rfl ?_
    refine rl_end ?_
    refine fl_else rfl (not_f (decide_eq_true (pc_join hrd.2))) ?_
    refine fl_skip ?_
    refine fl_seq ?_
    refine rl_start ?_
    refine rl_det (met_none rfl) (fun h_ H_ => exd_move (v := sv ((writeB ts).1)) rfl) rfl ?_
    refine rl_own (L' := ([] : Pcs) ++ []) rfl ?_
    refine rl_call (met_none rfl) (first := []) (cap := []) rfl rfl fC33 (R := fun v_ h_ => ∃ w10 : Value, ∃ X11 : Pcs, v_ = .tuple #[w10, .int .i64 (parseB ((writeB ts).1))] ∧ (OwnS 60 2 w10 (pies ((formB ((writeB ts).1)).getD [])) X11) ∧ St h [] p5 h_ (([] : Pcs) ++ (X11 ++ []))) (fun h_ H_ => (c33 _ ((writeB ts).1) (by first | omega | exact hwl)).mono fun v_ h2_ ⟨w10, X11, e_, o12, N_⟩ => ⟨w10, X11, e_, o12, H_.callNA N_⟩) fun v_ => ?_
    refine rl_ex fun w10 => rl_ex fun X11 => rl_and fun ev_ => rl_and fun o12 => ?_
    have ev_ := ev_.symm; subst ev_
    refine rl_own (L' := ([] : Pcs) ++ (X11 ++ [])) rfl ?_
    refine rl_norm (tm' := _::_::_::_::_::_::_::_::_::_::_::_::_::_::_::_::_::_::_::_::_::_::_::_::_::_::_::_::_::_::_::_::_::_::_::_::_::_::_::_::_::_::_::_) rfl ?_
    refine rl_det (met_none rfl) (fun h_ H_ => exd_move (v := .tuple #[w10, .int .i64 (parseB ((writeB ts).1))]) rfl) rfl ?_
    refine rl_det (met_none rfl) (fun h_ H_ => exd_extract rfl (v := w10) rfl) rfl ?_
    refine rl_det (met_none rfl) (fun h_ H_ => exd_extract rfl (v := .int .i64 (parseB ((writeB ts).1))) rfl) (tm' := _::_::_::_::_::_::_::_::_::_::_::_::_::_::_::_::_::_::_::_::_::_::_::_::_::_::_::_::_::_::_::_::_::_::_::_::_::_::_::_::_::_::_::_::_::_) rfl ?_
    refine rl_det (met_none rfl) (fun h_ H_ => exd_assign (v := w10) rfl) rfl ?_
    refine rl_det (met_none rfl) (fun h_ H_ => exd_assign (v := .int .i64 (parseB ((writeB ts).1))) rfl) rfl ?_
    refine rl_end ?_
    refine fl_seq ?_
    refine fl_seq ?_
    obtain ⟨LL, hLL⟩ : ∃ LL, LL = encS [[]] (wholeB ts) := ⟨_, rfl⟩
    have oK : OwnS 60 2 w10 (pies LL) X11 := o12.as (by rw [form_write hrd.2, hLL]; rfl)
    have F := pf_of hrd.2
    rw [← hLL] at F
    have hlen := F.len
    refine rs_lastC (A := ([] : Pcs)) oK (pies_length _) (by decide) fun p13 a14 cp15 le16 ev_ D17 hcD17 => ?_
    subst ev_
    refine rs_own (L' := []) rfl ?_
    refine rl_start ?_
    refine rl_det (met_none rfl) (fun h_ H_ => exd_move (v := .int .i64 (parseB ((writeB ts).1))) rfl) (tm' := _::_::_::_::_::_::_::_::_::_::_::_::_::_::_::_::_::_::_::_::_::_::_::_::_::_::_::_::_::_::_::_::_::_::_::_::_::_::_::_::_::_::_::_::_::_::_) rfl ?_
    refine rl_det (met_none rfl) (fun h_ H_ => exd_neq rfl rfl) rfl ?_
    refine rl_det (met_none rfl) (fun h_ H_ => exd_move (v := .bool (decide (parseB ((writeB ts).1) ≠ 0))) rfl) rfl ?_
    refine rl_det (met_some rfl rfl (decide_eq_false (fun z_ => z_ (parse_write hrd.2)))) (fun h_ H_ => exd_move (v := .slice a14 LL.length cp15) rfl) (tm' := _::_::_::_::_::_::_::_::_::_::_::_::_::_::_::_::_::_::_::_::_::_::_::_::_::_::_::_::_::_::_::_::_::_::_::_::_::_::_::_::_::_::_::_::_::_::_::_::_::_) rfl ?_
    refine rl_det (met_some rfl rfl (decide_eq_false (fun z_ => z_ (parse_write hrd.2)))) (fun h_ H_ => exd_len Tryd.underlying49 rfl) rfl ?_
    refine rl_det (met_some rfl rfl (decide_eq_false (fun z_ => z_ (parse_write hrd.2)))) (fun h_ H_ => exd_move (v := .slice a6 ((pcB ts).length) cp7) rfl) rfl ?_
    refine rl_det (met_some rfl rfl (decide_eq_false (fun z_ => z_ (parse_write hrd.2)))) (fun h_ H_ => exd_len Tryd.underlying22 rfl) (tm' := _::_::_::_::_::_::_::_::_::_::_::_::_::_::_::_::_::_::_::_::_::_::_::_::_::_::_::_::_::_::_::_::_::_::_::_::_::_::_::_::_::_::_::_::_::_::_::_::_::_::_::_::_) rfl ?_
    refine rl_det (met_some rfl rfl (decide_eq_false (fun z_ => z_ (parse_write hrd.2)))) (fun h_ H_ => exd_neq rfl rfl) rfl ?_
    refine rl_det (met_none rfl) (fun h_ H_ => exd_pick_f rfl (decide_eq_false (fun z_ => z_ (parse_write hrd.2))) (v := .bool (decide (((LL.length : Nat) : Int) ≠ (((pcB ts).length : Nat) : Int)))) rfl) rfl ?_
    refine rl_end ?_
    refine fl_else rfl (decide_eq_false (fun z_ => z_ (by rw [hlen]))) ?_
    refine fl_skip ?_
    refine fl_seq ?_
    refine fl_seq ?_
    refine rl_start ?_
    refine rl_det (met_none rfl) (fun h_ H_ => exd_assign (v := .int .i64 0) rfl) (tm' := _::_::_::_::_::_::_::_::_::_::_) rfl ?_
    refine rl_end ?_
    refine fl_block ?_
    refine fl_loop (m₀ := (pcB ts).length - 0) (fun m_ tm_ h_ => ∃ (k : Nat), m_ = (pcB ts).length - k ∧ (∃ y18 : Nat → Value, tm_ = [.slice a n c, undef, (y18 2), .slice a6 ((pcB ts).length) cp7, .bool (decide (chkT ts = 0)), sv ((writeB ts).1), .bool (decide (wrOk ts)), .slice a14 LL.length cp15, .int .i64 (parseB ((writeB ts).1)), .int .i64 (((k : Nat) : Int)), (y18 10), (y18 11), (y18 12), .slice a n c, .bool (decide (readyT ts)), .bool (!(decide (readyT ts))), undef, .tuple #[.slice a6 ((pcB ts).length) cp7, .bool (decide (chkT ts = 0))], .slice a n c, .tuple #[.slice a6 ((pcB ts).length) cp7, .bool (decide (chkT ts = 0))], .slice a6 ((pcB ts).length) cp7, .bool (decide (chkT ts = 0)), .tuple #[sv ((writeB ts).1), .bool (decide (wrOk ts))], .slice a n c, .tuple #[sv ((writeB ts).1), .bool (decide (wrOk ts))], sv ((writeB ts).1), .bool (decide (wrOk ts)), .bool (decide (chkT ts = 0)), .bool (!(decide (chkT ts = 0))), .bool (!(decide (chkT ts = 0))), .bool (decide (wrOk ts)), .bool (!(decide (wrOk ts))), .bool (!(decide (wrOk ts))), .bool (!(decide (wrOk ts))), .slice a6 ((pcB ts).length) cp7, sv ((pcB ts).flatten), .slice a n c, sv (wholeB ts), .bool (!decide ((pcB ts).flatten = wholeB ts)), .bool (!decide ((pcB ts).flatten = wholeB ts)), .tuple #[.slice a14 LL.length cp15, .int .i64 (parseB ((writeB ts).1))], sv ((writeB ts).1), .tuple #[.slice a14 LL.length cp15, .int .i64 (parseB ((writeB ts).1))], .slice a14 LL.length cp15, .int .i64 (parseB ((writeB ts).1)), .int .i64 (parseB ((writeB ts).1)), .bool (decide (parseB ((writeB ts).1) ≠ 0)), .bool (decide (parseB ((writeB ts).1) ≠ 0)), .slice a14 LL.length cp15, .int .i64 (((LL.length : Nat) : Int)), .slice a6 ((pcB ts).length) cp7, .int .i64 ((((pcB ts).length : Nat) : Int)), .bool (decide (((LL.length : Nat) : Int) ≠ (((pcB ts).length : Nat) : Int))), .bool (decide (((LL.length : Nat) : Int) ≠ (((pcB ts).length : Nat) : Int))), (y18 54), (y18 55), (y18 56), (y18 57), (y18 58), (y18 59), (y18 60), (y18 61), (y18 62), (y18 63), (y18 64), (y18 65), (y18 66), (y18 67), (y18 68), (y18 69), (y18 70), (y18 71), (y18 72), (y18 73), (y18 74), (y18 75), (y18 76), (y18 77), (y18 78), (y18 79), (y18 80), (y18 81), (y18 82), (y18 83), (y18 84), (y18 85), (y18 86), (y18 87), (y18 88), (y18 89), (y18 90), (y18 91), (y18 92), (y18 93), (y18 94), (y18 95), (y18 96), (y18 97), (y18 98), (y18 99), (y18 100), (y18 101), (y18 102), (y18 103), (y18 104), (y18 105), (y18 106), (y18 107), (y18 108), (y18 109), (y18 110), (y18 111), (y18 112), (y18 113), (y18 114), (y18 115), (y18 116), (y18 117), (y18 118), (y18 119), (y18 120), (y18 121), (y18 122), (y18 123), (y18 124), (y18 125), (y18 126), (y18 127), (y18 128), (y18 129), (y18 130), (y18 131), (y18 132), (y18 133), (y18 134), (y18 135), (y18 136), (y18 137), (y18 138), (y18 139), (y18 140), (y18 141), (y18 142), (y18 143), (y18 144), (y18 145), (y18 146), (y18 147), (y18 148), (y18 149), (y18 150), (y18 151), (y18 152), (y18 153), (y18 154), (y18 155), (y18 156), (y18 157), (y18 158), undef]) ∧ (k ≤ (pcB ts).length) ∧ St h [] p13 h_ ([])) (fun h_ H_ => ⟨0, rfl, (y_of rfl), Nat.zero_le _, H_⟩) ?_
    intro m_ tm_ IH19
    refine rs_ex fun k => rs_and fun hm_ => rs_and fun ht_ => rs_and fun hk => ?_
    subst hm_; obtain ⟨y18, ht_⟩ := ht_; subst ht_
    refine fl_seq ?_
    refine fl_seq ?_
    refine rl_start ?_
    refine rl_det (met_none rfl) (fun h_ H_ => exd_move (v := .int .i64 (((k : Nat) : Int))) rfl) rfl ?_
    refine rl_det (met_none rfl) (fun h_ H_ => exd_move (v := .slice a6 ((pcB ts).length) cp7) rfl) rfl ?_
    refine rl_det (met_none rfl) (fun h_ H_ => exd_len Tryd.underlying22 rfl) (tm' := _::_::_::_::_::_::_::_::_::_::_::_::_::_::_::_::_::_::_::_::_::_::_::_::_::_::_::_::_::_::_::_::_::_::_::_::_::_::_::_::_::_::_::_::_::_::_::_::_::_::_::_::_::_::_::_::_::_) rfl ?_
    refine rl_det (met_none rfl) (fun h_ H_ => exd_lss rfl rfl) rfl ?_
    refine rl_end ?_
    by_cases cc20 : ((k : Nat) : Int) < (((pcB ts).length : Nat) : Int)
    · refine fl_then rfl (decide_eq_true cc20) ?_
      refine fl_skip ?_
      refine fl_seq ?_
      refine fl_block ?_
      refine fl_seq ?_
      have hkL : k < LL.length := by omega
      have hlo := F.lo k hkL
      refine rl_start ?_
      refine rl_det (met_none rfl) (fun h_ H_ => exd_assign (v := sv ([] : List UInt8)) rfl) rfl ?_
      refine rl_end ?_
      refine fl_seq ?_
      refine fl_seq ?_
      refine rl_start ?_
      refine rl_det (met_none rfl) (fun h_ H_ => exd_move (v := .slice a14 LL.length cp15) rfl) (tm' := _::_::_::_::_::_::_::_::_::_::_::_::_::_::_::_::_::_::_::_::_::_::_::_::_::_::_::_::_::_::_::_::_::_::_::_::_::_::_::_::_::_::_::_::_::_::_::_::_::_::_::_::_::_::_::_::_::_::_::_::_::_) rfl ?_
      refine rl_det (met_none rfl) (fun h_ H_ => exd_move (v := .int .i64 (((k : Nat) : Int))) rfl) rfl ?_
      refine rl_det (met_none rfl) (fun h_ H_ => exd_indexAddrN (i := k) Tryd.underlying49 tS60 (sl_ne a14 LL.length cp15 ((show Pies _ _ _ LL from D17).ne (by omega))) rfl (by omega)) rfl ?_
      refine rl_det (met_none rfl) (fun h_ H_ => exd_fieldAddr tF60_0 rfl (a' := (adr a14).add (k * 2)) rfl) (tm' := _::_::_::_::_::_::_::_::_::_::_::_::_::_::_::_::_::_::_::_::_::_::_::_::_::_::_::_::_::_::_::_::_::_::_::_::_::_::_::_::_::_::_::_::_::_::_::_::_::_::_::_::_::_::_::_::_::_::_::_::_::_::_::_::_) rfl ?_
      refine rl_det (met_none rfl) (fun h_ H_ => exd_load_per H_ tA3 rfl (v := .int .i64 ((LL.getD k pz).1)) ((show Pies _ _ _ LL from D17).ph (by omega))) rfl ?_
      refine rl_det (met_none rfl) (fun h_ H_ => exd_assign (v := .int .i64 ((LL.getD k pz).1)) rfl) rfl ?_
      refine rl_end ?_
      refine fl_seq ?_
      refine rl_start ?_
      refine rl_det (met_none rfl) (fun h_ H_ => exd_move (v := .int .i64 ((LL.getD k pz).1)) rfl) (tm' := _::_::_::_::_::_::_::_::_::_::_::_::_::_::_::_::_::_::_::_::_::_::_::_::_::_::_::_::_::_::_::_::_::_::_::_::_::_::_::_::_::_::_::_::_::_::_::_::_::_::_::_::_::_::_::_::_::_::_::_::_::_::_::_::_::_::_) rfl ?_
      refine rl_det (met_none rfl) (fun h_ H_ => exd_lss rfl rfl) rfl ?_
      refine rl_det (met_none rfl) (fun h_ H_ => exd_move (v := .bool (decide ((LL.getD k pz).1 < 0))) rfl) rfl ?_
      refine rl_det (met_some rfl rfl (decide_eq_false (by omega))) (fun h_ H_ => exd_move (v := .int .i64 ((LL.getD k pz).1)) rfl) (tm' := _::_::_::_::_::_::_::_::_::_::_::_::_::_::_::_::_::_::_::_::_::_::_::_::_::_::_::_::_::_::_::_::_::_::_::_::_::_::_::_::_::_::_::_::_::_::_::_::_::_::_::_::_::_::_::_::_::_::_::_::_::_::_::_::_::_::_::_::_::_) rfl ?_
      refine rl_det (met_some rfl rfl (decide_eq_false (by omega))) (fun h_ H_ => exd_move (v := .int .i64 (((k : Nat) : Int))) rfl) rfl ?_
      refine rl_det (met_some rfl rfl (decide_eq_false (by omega))) (fun h_ H_ => exd_gtr rfl rfl) rfl ?_
      refine rl_det (met_none rfl) (fun h_ H_ => exd_pick_f rfl (decide_eq_false (by omega)) (v := .bool (decide (((k : Nat) : Int) < (LL.getD k pz).1))) rfl) (tm' := _::_::_::_::_::_::_::_::_::_::_::_::_::_::_::_::_::_::_::_::_::_::_::_::_::_::_::_::_::_::_::_::_::_::_::_::_::_::_::_::_::_::_::_::_::_::_::_::_::_::_::_::_::_::_::_::_::_::_::_::_::_::_::_::_::_::_::_::_::_::_::_::_) rfl ?_
      refine rl_end ?_
      refine fl_else rfl (decide_eq_false (by omega)) ?_
      refine fl_seq ?_
      refine rl_start ?_
      refine rl_det (met_none rfl) (fun h_ H_ => exd_move (v := .int .i64 ((LL.getD k pz).1)) rfl) rfl ?_
      refine rl_det (met_none rfl) (fun h_ H_ => exd_gtr rfl rfl) rfl ?_
      refine rl_end ?_
      by_cases cc21 : 0 < (LL.getD k pz).1
      · refine fl_then rfl (decide_eq_true cc21) ?_
        refine rl_start ?_
        refine rl_det (met_none rfl) (fun h_ H_ => exd_move (v := .slice a6 ((pcB ts).length) cp7) rfl) (tm' := _::_::_::_::_::_::_::_::_::_::_::_::_::_::_::_::_::_::_::_::_::_::_::_::_::_::_::_::_::_::_::_::_::_::_::_::_::_::_::_::_::_::_::_::_::_::_::_::_::_::_::_::_::_::_::_::_::_::_::_::_::_::_::_::_::_::_::_::_::_::_::_::_::_::_::_) rfl ?_
        refine rl_det (met_none rfl) (fun h_ H_ => exd_move (v := .int .i64 ((LL.getD k pz).1)) rfl) rfl ?_
        refine rl_det (met_none rfl) (fun h_ H_ => exd_sub rfl rfl (wr (by omega))) rfl ?_
        refine rl_det (met_none rfl) (fun h_ H_ => exd_indexAddr Tryd.underlying22 tS9 (sl_ne a6 ((pcB ts).length) cp7 (((show Strs _ _ _ (pcB ts) from D9).mono le16).ne (by omega))) rfl (by omega) (by omega) (a' := (adr a6).add (((((LL.getD k pz).1) - 1)).toNat * 1)) rfl) (tm' := _::_::_::_::_::_::_::_::_::_::_::_::_::_::_::_::_::_::_::_::_::_::_::_::_::_::_::_::_::_::_::_::_::_::_::_::_::_::_::_::_::_::_::_::_::_::_::_::_::_::_::_::_::_::_::_::_::_::_::_::_::_::_::_::_::_::_::_::_::_::_::_::_::_::_::_::_::_::_) rfl ?_
        refine rl_det (met_none rfl) (fun h_ H_ => exd_load_per H_ tA9 rfl (v := sv ((pcB ts).getD (((((LL.getD k pz).1) - 1)).toNat) [])) (((show Strs _ _ _ (pcB ts) from D9).mono le16).get (by omega))) rfl ?_
        refine rl_det (met_none rfl) (fun h_ H_ => exd_assign (v := sv ((pcB ts).getD (((((LL.getD k pz).1) - 1)).toNat) [])) rfl) rfl ?_
        refine rl_end ?_
        refine fl_seq ?_
        refine fl_seq ?_
        have hF : fstP LL (pcB ts) k = (pcB ts).getD (((((LL.getD k pz).1) - 1)).toNat) [] := by unfold fstP; rw [if_pos ‹_›]
        refine rl_start ?_
        refine rl_det (met_none rfl) (fun h_ H_ => exd_move (v := .slice a14 LL.length cp15) rfl) (tm' := _::_::_::_::_::_::_::_::_::_::_::_::_::_::_::_::_::_::_::_::_::_::_::_::_::_::_::_::_::_::_::_::_::_::_::_::_::_::_::_::_::_::_::_::_::_::_::_::_::_::_::_::_::_::_::_::_::_::_::_::_::_::_::_::_::_::_::_::_::_::_::_::_::_::_::_::_::_::_::_::_) rfl ?_
        refine rl_det (met_none rfl) (fun h_ H_ => exd_move (v := .int .i64 (((k : Nat) : Int))) rfl) rfl ?_
        refine rl_det (met_none rfl) (fun h_ H_ => exd_indexAddrN (i := k) Tryd.underlying49 tS60 (sl_ne a14 LL.length cp15 ((show Pies _ _ _ LL from D17).ne (by omega))) rfl (by omega)) rfl ?_
        refine rl_det (met_none rfl) (fun h_ H_ => exd_fieldAddr tF60_1 rfl (a' := ((adr a14).add (k * 2)).add 1) rfl) (tm' := _::_::_::_::_::_::_::_::_::_::_::_::_::_::_::_::_::_::_::_::_::_::_::_::_::_::_::_::_::_::_::_::_::_::_::_::_::_::_::_::_::_::_::_::_::_::_::_::_::_::_::_::_::_::_::_::_::_::_::_::_::_::_::_::_::_::_::_::_::_::_::_::_::_::_::_::_::_::_::_::_::_::_::_) rfl ?_
        refine rl_det (met_none rfl) (fun h_ H_ => exd_load_per H_ tA3 rfl (v := .int .i64 ((LL.getD k pz).2)) ((show Pies _ _ _ LL from D17).by (by omega))) rfl ?_
        refine rl_det (met_none rfl) (fun h_ H_ => exd_eql rfl rfl) rfl ?_
        refine rl_end ?_
        by_cases cc22 : (LL.getD k pz).2 = (-1)
        · refine fl_then rfl (decide_eq_true cc22) ?_
          refine fl_seq ?_
          refine fl_seq ?_
          refine fl_drawn2 21 [[], [], [1], [1, 2], [0, 1, 2, 3], [0, 1, 2, 3, 4], [], [], [6, 7], [6, 7, 8], [0, 1, 2, 3, 4], [0, 1, 2, 3, 4, 6, 7, 8, 9, 10], [0, 1, 2, 3, 4, 6, 7, 8, 9, 10, 11], [0, 1, 2, 3, 4, 5, 6, 7, 8, 9, 10, 11, 12], [], [], [14, 15], [], [0, 1, 2, 3, 4, 5, 6, 7, 8, 9, 10, 11, 12], [0, 1, 2, 3, 4, 5, 6, 7, 8, 9, 10, 11, 12, 17, 18], [0, 1, 2, 3, 4, 5, 6, 7, 8, 9, 10, 11, 12, 17, 18, 19], [0, 1, 2, 3, 4, 5, 6, 7, 8, 9, 10, 11, 12, 14, 15, 16, 17, 18, 19, 20], [0, 1, 2, 3, 4, 5, 6, 7, 8, 9, 10, 11, 12, 14, 15, 16, 17, 18, 19, 20, 21], []] mixed (by kernel_rfl) (Nat.le_of_ble_eq_true rfl) ?_
          refine swr_det (met_none rfl) (fun h_ H_ => exd_move (v := .int .i64 (((k : Nat) : Int))) rfl) rfl ?_
          refine swr_det (met_none rfl) (fun h_ H_ => exd_move (v := .slice a6 ((pcB ts).length) cp7) rfl) (tm' := _::_::_::_::_::_::_::_::_::_::_::_::_::_::_::_::_::_::_::_::_::_::_::_::_::_::_::_::_::_::_::_::_::_::_::_::_::_::_::_::_::_::_::_::_::_::_::_::_::_::_::_::_::_::_::_::_::_::_::_::_::_::_::_::_::_::_::_::_::_::_::_::_::_::_::_::_::_::_::_::_::_::_::_::_::_::_::_) rfl ?_
          refine swr_det (met_none rfl) (fun h_ H_ => exd_len Tryd.underlying22 rfl) rfl ?_
          refine swr_det (met_none rfl) (fun h_ H_ => exd_sub rfl rfl (wr (by omega))) (tm' := _::_::_::_::_::_::_::_::_::_::_::_::_::_::_::_::_::_::_::_::_::_::_::_::_::_::_::_::_::_::_::_::_::_::_::_::_::_::_::_::_::_::_::_::_::_::_::_::_::_::_::_::_::_::_::_::_::_::_::_::_::_::_::_::_::_::_::_::_::_::_::_::_::_::_::_::_::_::_::_::_::_::_::_::_::_::_::_::_::_) rfl ?_
          refine swr_det (met_none rfl) (fun h_ H_ => exd_lss rfl rfl) rfl ?_
          refine swr_det (met_none rfl) (fun h_ H_ => exd_move (v := .bool (decide (((k : Nat) : Int) < (((pcB ts).length : Nat) : Int) - 1))) rfl) (tm' := _::_::_::_::_::_::_::_::_::_::_::_::_::_::_::_::_::_::_::_::_::_::_::_::_::_::_::_::_::_::_::_::_::_::_::_::_::_::_::_::_::_::_::_::_::_::_::_::_::_::_::_::_::_::_::_::_::_::_::_::_::_::_::_::_::_::_::_::_::_::_::_::_::_::_::_::_::_::_::_::_::_::_::_::_::_::_::_::_::_::_::_) rfl ?_
          refine swr_det (met_some rfl rfl (decide_eq_false (by have z_ := (F.last k hkL ‹_›).1; omega))) (fun h_ H_ => exd_move (v := .slice a6 ((pcB ts).length) cp7) rfl) rfl ?_
          refine swr_det (met_some rfl rfl (decide_eq_false (by have z_ := (F.last k hkL ‹_›).1; omega))) (fun h_ H_ => exd_move (v := .int .i64 (((k : Nat) : Int))) rfl) (tm' := _::_::_::_::_::_::_::_::_::_::_::_::_::_::_::_::_::_::_::_::_::_::_::_::_::_::_::_::_::_::_::_::_::_::_::_::_::_::_::_::_::_::_::_::_::_::_::_::_::_::_::_::_::_::_::_::_::_::_::_::_::_::_::_::_::_::_::_::_::_::_::_::_::_::_::_::_::_::_::_::_::_::_::_::_::_::_::_::_::_::_::_::_::_) rfl ?_
          refine swr_det (met_some rfl rfl (decide_eq_false (by have z_ := (F.last k hkL ‹_›).1; omega))) (fun h_ H_ => exd_indexAddrN (i := k) Tryd.underlying22 tS9 (sl_ne a6 ((pcB ts).length) cp7 (((show Strs _ _ _ (pcB ts) from D9).mono le16).ne (by omega))) rfl (by omega)) rfl ?_
          refine swr_det (met_some rfl rfl (decide_eq_false (by have z_ := (F.last k hkL ‹_›).1; omega))) (fun h_ H_ => exd_load_per H_ tA9 rfl (v := sv ((pcB ts).getD k [])) (((show Strs _ _ _ (pcB ts) from D9).mono le16).get (by omega))) (tm' := _::_::_::_::_::_::_::_::_::_::_::_::_::_::_::_::_::_::_::_::_::_::_::_::_::_::_::_::_::_::_::_::_::_::_::_::_::_::_::_::_::_::_::_::_::_::_::_::_::_::_::_::_::_::_::_::_::_::_::_::_::_::_::_::_::_::_::_::_::_::_::_::_::_::_::_::_::_::_::_::_::_::_::_::_::_::_::_::_::_::_::_::_::_::_::_) rfl ?_
          refine swr_det (met_some rfl rfl (decide_eq_false (by have z_ := (F.last k hkL ‹_›).1; omega))) (fun h_ H_ => exd_move (v := sv ((pcB ts).getD (((((LL.getD k pz).1) - 1)).toNat) [])) rfl) rfl ?_
          refine swr_det (met_some rfl rfl (decide_eq_false (by have z_ := (F.last k hkL ‹_›).1; omega))) (fun h_ H_ => exd_neqS (l := (pcB ts).getD k []) (m := (pcB ts).getD (((((LL.getD k pz).1) - 1)).toNat) []) rfl rfl) (tm' := _::_::_::_::_::_::_::_::_::_::_::_::_::_::_::_::_::_::_::_::_::_::_::_::_::_::_::_::_::_::_::_::_::_::_::_::_::_::_::_::_::_::_::_::_::_::_::_::_::_::_::_::_::_::_::_::_::_::_::_::_::_::_::_::_::_::_::_::_::_::_::_::_::_::_::_::_::_::_::_::_::_::_::_::_::_::_::_::_::_::_::_::_::_::_::_::_::_) rfl ?_
          refine swr_det (met_none rfl) (fun h_ H_ => exd_pick_f rfl (decide_eq_false (by have z_ := (F.last k hkL ‹_›).1; omega)) (v := .bool (!decide ((pcB ts).getD k [] = (pcB ts).getD (((((LL.getD k pz).1) - 1)).toNat) []))) rfl) rfl ?_
          refine swr_det (met_none rfl) (fun h_ H_ => exd_move (v := .bool (!decide ((pcB ts).getD k [] = (pcB ts).getD (((((LL.getD k pz).1) - 1)).toNat) []))) rfl) (tm' := _::_::_::_::_::_::_::_::_::_::_::_::_::_::_::_::_::_::_::_::_::_::_::_::_::_::_::_::_::_::_::_::_::_::_::_::_::_::_::_::_::_::_::_::_::_::_::_::_::_::_::_::_::_::_::_::_::_::_::_::_::_::_::_::_::_::_::_::_::_::_::_::_::_::_::_::_::_::_::_::_::_::_::_::_::_::_::_::_::_::_::_::_::_::_::_::_::_::_::_) rfl ?_
          refine swr_det (met_some rfl rfl (not_f (decide_eq_true ((F.back hkL ‹_›).trans hF)))) (fun h_ H_ => exd_move (v := .slice a6 ((pcB ts).length) cp7) rfl) rfl ?_
          refine swr_det (met_some rfl rfl (not_f (decide_eq_true ((F.back hkL ‹_›).trans hF)))) (fun h_ H_ => exd_move (v := .int .i64 (((k : Nat) : Int))) rfl) (tm' := _::_::_::_::_::_::_::_::_::_::_::_::_::_::_::_::_::_::_::_::_::_::_::_::_::_::_::_::_::_::_::_::_::_::_::_::_::_::_::_::_::_::_::_::_::_::_::_::_::_::_::_::_::_::_::_::_::_::_::_::_::_::_::_::_::_::_::_::_::_::_::_::_::_::_::_::_::_::_::_::_::_::_::_::_::_::_::_::_::_::_::_::_::_::_::_::_::_::_::_::_::_) rfl ?_
          refine swr_det (met_some rfl rfl (not_f (decide_eq_true ((F.back hkL ‹_›).trans hF)))) (fun h_ H_ => exd_slice Tryd.underlying22 tS9 rfl (.none _) (.nat (z := k) _ rfl) (by omega) (by omega)) rfl ?_
          refine swr_det (met_some rfl rfl (not_f (decide_eq_true ((F.back hkL ‹_›).trans hF)))) (fun h_ H_ => exd_move (v := .slice a6 ((pcB ts).length) cp7) rfl) (tm' := _::_::_::_::_::_::_::_::_::_::_::_::_::_::_::_::_::_::_::_::_::_::_::_::_::_::_::_::_::_::_::_::_::_::_::_::_::_::_::_::_::_::_::_::_::_::_::_::_::_::_::_::_::_::_::_::_::_::_::_::_::_::_::_::_::_::_::_::_::_::_::_::_::_::_::_::_::_::_::_::_::_::_::_::_::_::_::_::_::_::_::_::_::_::_::_::_::_::_::_::_::_::_::_) rfl ?_
          refine swr_det (met_some rfl rfl (not_f (decide_eq_true ((F.back hkL ‹_›).trans hF)))) (fun h_ H_ => exd_move (v := .int .i64 (((k : Nat) : Int))) rfl) rfl ?_
          refine swr_det (met_some rfl rfl (not_f (decide_eq_true ((F.back hkL ‹_›).trans hF)))) (fun h_ H_ => exd_indexAddrN (i := k) Tryd.underlying22 tS9 (sl_ne a6 ((pcB ts).length) cp7 (((show Strs _ _ _ (pcB ts) from D9).mono le16).ne (by omega))) rfl (by omega)) (tm' := _::_::_::_::_::_::_::_::_::_::_::_::_::_::_::_::_::_::_::_::_::_::_::_::_::_::_::_::_::_::_::_::_::_::_::_::_::_::_::_::_::_::_::_::_::_::_::_::_::_::_::_::_::_::_::_::_::_::_::_::_::_::_::_::_::_::_::_::_::_::_::_::_::_::_::_::_::_::_::_::_::_::_::_::_::_::_::_::_::_::_::_::_::_::_::_::_::_::_::_::_::_::_::_::_::_) rfl ?_
          refine swr_det (met_some rfl rfl (not_f (decide_eq_true ((F.back hkL ‹_›).trans hF)))) (fun h_ H_ => exd_load_per H_ tA9 rfl (v := sv ((pcB ts).getD k [])) (((show Strs _ _ _ (pcB ts) from D9).mono le16).get (by omega))) rfl ?_
          refine swr_nil rfl ?_
          refine rl_calld (met_some rfl rfl (not_f (decide_eq_true ((F.back hkL ‹_›).trans hF)))) (first := []) (cap := []) rfl rfl fC43 (fun h_ H_ => c43 _ _ (fun b_ o_ e_ => H_.per b_ o_ e_) (cutA a6 cp7 0 1) k _ ((pcB ts).take k) (Strs.pre ((show Strs _ _ _ (pcB ts) from D9).mono le16) (by omega) (by omega)) ((pcB ts).getD k []) (by omega)) (tm' := [_,_,_,_,_,_,_,_,_,_,_,_,_,_,_,_,_,_,_,_,_,_,_,_,_,_,_,_,_,_,_,_,_,_,_,_,_,_,_,_,_,_,_,_,_,_,_,_,_,_,_,_,_,_,_,_,_,_,_,_,_,_,_,_,_,_,_,_,_,_,_,_,_,_,_,_,_,_,_,_,_,_,_,_,_,_,_,_,_,_,_,_,_,_,_,_,_,_,_,_,_,_,_,_,_,_,_,_,_,_,_,_,_,_,_,_,_,_,_,_,_,_,_,_,_,_,_,_,_,_,_,_,_,_,_,_,_,_,_,_,_,_,_,_,_,_,_,_,_,_,_,_,_,_,_,_,_,_,_,_]) rfl ?_
          refine rl_det (met_some rfl rfl (not_f (decide_eq_true ((F.back hkL ‹_›).trans hF)))) (fun h_ H_ => exd_lss rfl rfl) rfl ?_
          refine rl_det (met_none rfl) (fun h_ H_ => exd_pick_f rfl (not_f (decide_eq_true ((F.back hkL ‹_›).trans hF))) (v := .bool (decide (fndT ((pcB ts).take k) ((pcB ts).getD k []) < 0))) rfl) rfl ?_
          refine rl_end ?_
          refine fl_else rfl (decide_eq_false (fnd_lt (F.last k hkL ‹_›).2)) ?_
          refine fl_skip ?_
          refine fl_exit rfl ?_
          refine rl_start ?_
          refine rl_det (met_none rfl) (fun h_ H_ => exd_move (v := .int .i64 (((k : Nat) : Int))) rfl) (tm' := _::_::_::_::_::_::_::_::_::_::_::_::_::_::_::_::_::_::_::_::_::_::_::_::_::_::_::_::_::_::_::_::_::_::_::_::_::_::_::_::_::_::_::_::_::_::_::_::_::_::_::_::_::_::_::_::_::_::_::_) rfl ?_
          refine rl_det (met_none rfl) (fun h_ H_ => exd_add rfl rfl (n := ((k + 1 : Nat) : Int)) (wr (by omega))) rfl ?_
          refine rl_det (met_none rfl) (fun h_ H_ => exd_assign (v := .int .i64 (((k + 1 : Nat) : Int))) rfl) rfl ?_
          refine rl_end ?_
          exact fun h_ H_ => IH19 _ _ (by omega) h_ ⟨k + 1, rfl, (y_of rfl), (by omega), H_⟩
        · refine fl_else rfl (decide_eq_false cc22) ?_
          refine fl_skip ?_
          refine fl_seq ?_
          have hp1 := pc_pos (ts := ts) (i := k) (by omega)
          have hsh := F.short k hkL
          refine rl_start ?_
          refine rl_det (met_none rfl) (fun h_ H_ => exd_move (v := .slice a6 ((pcB ts).length) cp7) rfl) (tm' := [_,_,_,_,_,_,_,_,_,_,_,_,_,_,_,_,_,_,_,_,_,_,_,_,_,_,_,_,_,_,_,_,_,_,_,_,_,_,_,_,_,_,_,_,_,_,_,_,_,_,_,_,_,_,_,_,_,_,_,_,_,_,_,_,_,_,_,_,_,_,_,_,_,_,_,_,_,_,_,_,_,_,_,_,_,_,_,_,_,_,_,_,_,_,_,_,_,_,_,_,_,_,_,_,_,_,_,_,_,_,_,_,_,_,_,_,_,_,_,_,_,_,_,_,_,_,_,_,_,_,_,_,_,_,_,_,_,_,_,_,_,_,_,_,_,_,_,_,_,_,_,_,_,_,_,_,_,_,_,_]) rfl ?_
          refine rl_det (met_none rfl) (fun h_ H_ => exd_move (v := .int .i64 (((k : Nat) : Int))) rfl) rfl ?_
          refine rl_det (met_none rfl) (fun h_ H_ => exd_indexAddrN (i := k) Tryd.underlying22 tS9 (sl_ne a6 ((pcB ts).length) cp7 (((show Strs _ _ _ (pcB ts) from D9).mono le16).ne (by omega))) rfl (by omega)) rfl ?_
          refine rl_det (met_none rfl) (fun h_ H_ => exd_load_per H_ tA9 rfl (v := sv ((pcB ts).getD k [])) (((show Strs _ _ _ (pcB ts) from D9).mono le16).get (by omega))) (tm' := [_,_,_,_,_,_,_,_,_,_,_,_,_,_,_,_,_,_,_,_,_,_,_,_,_,_,_,_,_,_,_,_,_,_,_,_,_,_,_,_,_,_,_,_,_,_,_,_,_,_,_,_,_,_,_,_,_,_,_,_,_,_,_,_,_,_,_,_,_,_,_,_,_,_,_,_,_,_,_,_,_,_,_,_,_,_,_,_,_,_,_,_,_,_,_,_,_,_,_,_,_,_,_,_,_,_,_,_,_,_,_,_,_,_,_,_,_,_,_,_,_,_,_,_,_,_,_,_,_,_,_,_,_,_,_,_,_,_,_,_,_,_,_,_,_,_,_,_,_,_,_,_,_,_,_,_,_,_,_,_]) rfl ?_
          refine rl_det (met_none rfl) (fun h_ H_ => exd_lenS (l := (pcB ts).getD k []) Tryd.underlying9 rfl) rfl ?_
          refine rl_det (met_none rfl) (fun h_ H_ => exd_sub rfl rfl (wr (by omega))) rfl ?_
          refine rl_det (met_none rfl) (fun h_ H_ => exd_assign (v := .int .i64 (((((pcB ts).getD k []).length : Nat) : Int) - 1)) rfl) (tm' := _::_::_::_::_::_::_::_::_::_::_::_::_::_) rfl ?_
          refine rl_end ?_
          refine fl_seq ?_
          have hfr := F.front hkL ‹¬ (LL.getD k pz).2 = -1› (z := (((((pcB ts).getD k []).length : Nat) : Int) - 1).toNat) (by omega)
          refine fl_drawn2 42 [[], [], [0, 1], [0, 1, 2], [], [0, 1, 2, 3, 4], [], [0, 1, 2, 3, 4, 5, 6], [0, 1, 2, 3, 4, 5, 6, 7], [], [], [9, 10], [9, 10, 11], [], [9, 10, 11, 12, 13], [9, 10, 11, 12, 13, 14], [], [0, 1, 2, 3, 4, 5, 6, 7], [0, 1, 2, 3, 4, 5, 6, 7, 16, 17], [0, 1, 2, 3, 4, 5, 6, 7, 16, 17, 18], [0, 1, 2, 3, 4, 5, 6, 7, 16, 17, 18, 19], [0, 1, 2, 3, 4, 5, 6, 7, 9, 10, 11, 12, 13, 14, 15, 16, 17, 18, 19, 20], [0, 1, 2, 3, 4, 5, 6, 7, 9, 10, 11, 12, 13, 14, 15, 16, 17, 18, 19, 20, 21], [0, 1, 2, 3, 4, 5, 6, 7, 8, 9, 10, 11, 12, 13, 14, 15, 16, 17, 18, 19, 20, 21, 22], [], [], [24, 25], [], [0, 1, 2, 3, 4, 5, 6, 7, 8, 9, 10, 11, 12, 13, 14, 15, 16, 17, 18, 19, 20, 21, 22], [0, 1, 2, 3, 4, 5, 6, 7, 8, 9, 10, 11, 12, 13, 14, 15, 16, 17, 18, 19, 20, 21, 22, 27, 28], [0, 1, 2, 3, 4, 5, 6, 7, 8, 9, 10, 11, 12, 13, 14, 15, 16, 17, 18, 19, 20, 21, 22, 27, 28, 29], [0, 1, 2, 3, 4, 5, 6, 7, 8, 9, 10, 11, 12, 13, 14, 15, 16, 17, 18, 19, 20, 21, 22, 24, 25, 26, 27, 28, 29, 30], [0, 1, 2, 3, 4, 5, 6, 7, 8, 9, 10, 11, 12, 13, 14, 15, 16, 17, 18, 19, 20, 21, 22, 24, 25, 26, 27, 28, 29, 30], [0, 1, 2, 3, 4, 5, 6, 7, 8, 9, 10, 11, 12, 13, 14, 15, 16, 17, 18, 19, 20, 21, 22, 23, 24, 25, 26, 27, 28, 29, 30, 32], [0, 1, 2, 3, 4, 5, 6, 7, 8, 9, 10, 11, 12, 13, 14, 15, 16, 17, 18, 19, 20, 21, 22, 23, 24, 25, 26, 27, 28, 29, 30, 31, 32, 33], [], [], [35, 36], [35, 36, 37], [35, 36, 37, 38], [0, 1, 2, 3, 4, 5, 6, 7, 8, 9, 10, 11, 12, 13, 14, 15, 16, 17, 18, 19, 20, 21, 22, 23, 24, 25, 26, 27, 28, 29, 30, 31, 32, 33], [0, 1, 2, 3, 4, 5, 6, 7, 8, 9, 10, 11, 12, 13, 14, 15, 16, 17, 18, 19, 20, 21, 22, 23, 24, 25, 26, 27, 28, 29, 30, 31, 32, 33, 40], [0, 1, 2, 3, 4, 5, 6, 7, 8, 9, 10, 11, 12, 13, 14, 15, 16, 17, 18, 19, 20, 21, 22, 23, 24, 25, 26, 27, 28, 29, 30, 31, 32, 33, 35, 36, 37, 38, 39, 40, 41], []] mixed (by kernel_rfl) (Nat.le_of_ble_eq_true rfl) ?_
          refine swr_det (met_none rfl) (fun h_ H_ => exd_move (v := .slice a6 ((pcB ts).length) cp7) rfl) rfl ?_
          refine swr_det (met_none rfl) (fun h_ H_ => exd_move (v := .int .i64 (((k : Nat) : Int))) rfl) (tm' := [_,_,_,_,_,_,_,_,_,_,_,_,_,_,_,_,_,_,_,_,_,_,_,_,_,_,_,_,_,_,_,_,_,_,_,_,_,_,_,_,_,_,_,_,_,_,_,_,_,_,_,_,_,_,_,_,_,_,_,_,_,_,_,_,_,_,_,_,_,_,_,_,_,_,_,_,_,_,_,_,_,_,_,_,_,_,_,_,_,_,_,_,_,_,_,_,_,_,_,_,_,_,_,_,_,_,_,_,_,_,_,_,_,_,_,_,_,_,_,_,_,_,_,_,_,_,_,_,_,_,_,_,_,_,_,_,_,_,_,_,_,_,_,_,_,_,_,_,_,_,_,_,_,_,_,_,_,_,_,_]) rfl ?_
          refine swr_det (met_none rfl) (fun h_ H_ => exd_indexAddrN (i := k) Tryd.underlying22 tS9 (sl_ne a6 ((pcB ts).length) cp7 (((show Strs _ _ _ (pcB ts) from D9).mono le16).ne (by omega))) rfl (by omega)) rfl ?_
          refine swr_det (met_none rfl) (fun h_ H_ => exd_load_per H_ tA9 rfl (v := sv ((pcB ts).getD k [])) (((show Strs _ _ _ (pcB ts) from D9).mono le16).get (by omega))) (tm' := [_,_,_,_,_,_,_,_,_,_,_,_,_,_,_,_,_,_,_,_,_,_,_,_,_,_,_,_,_,_,_,_,_,_,_,_,_,_,_,_,_,_,_,_,_,_,_,_,_,_,_,_,_,_,_,_,_,_,_,_,_,_,_,_,_,_,_,_,_,_,_,_,_,_,_,_,_,_,_,_,_,_,_,_,_,_,_,_,_,_,_,_,_,_,_,_,_,_,_,_,_,_,_,_,_,_,_,_,_,_,_,_,_,_,_,_,_,_,_,_,_,_,_,_,_,_,_,_,_,_,_,_,_,_,_,_,_,_,_,_,_,_,_,_,_,_,_,_,_,_,_,_,_,_,_,_,_,_,_,_]) rfl ?_
          refine swr_det (met_none rfl) (fun h_ H_ => exd_move (v := .int .i64 (((((pcB ts).getD k []).length : Nat) : Int) - 1)) rfl) rfl ?_
          refine swr_det (met_none rfl) (fun h_ H_ => exd_takeS (l := (pcB ts).getD k []) (r := ((((((pcB ts).getD k []).length : Nat) : Int) - 1)).toNat) Tryd.underlying9 rfl (.some _ rfl (by omega)) (by omega)) (tm' := [_,_,_,_,_,_,_,_,_,_,_,_,_,_,_,_,_,_,_,_,_,_,_,_,_,_,_,_,_,_,_,_,_,_,_,_,_,_,_,_,_,_,_,_,_,_,_,_,_,_,_,_,_,_,_,_,_,_,_,_,_,_,_,_,_,_,_,_,_,_,_,_,_,_,_,_,_,_,_,_,_,_,_,_,_,_,_,_,_,_,_,_,_,_,_,_,_,_,_,_,_,_,_,_,_,_,_,_,_,_,_,_,_,_,_,_,_,_,_,_,_,_,_,_,_,_,_,_,_,_,_,_,_,_,_,_,_,_,_,_,_,_,_,_,_,_,_,_,_,_,_,_,_,_,_,_,_,_,_,_]) rfl ?_
          refine swr_det (met_none rfl) (fun h_ H_ => exd_move (v := sv ((pcB ts).getD (((((LL.getD k pz).1) - 1)).toNat) [])) rfl) rfl ?_
          refine swr_det (met_none rfl) (fun h_ H_ => exd_neqS (l := ((pcB ts).getD k []).take (((((((pcB ts).getD k []).length : Nat) : Int) - 1)).toNat)) (m := (pcB ts).getD (((((LL.getD k pz).1) - 1)).toNat) []) rfl rfl) (tm' := [_,_,_,_,_,_,_,_,_,_,_,_,_,_,_,_,_,_,_,_,_,_,_,_,_,_,_,_,_,_,_,_,_,_,_,_,_,_,_,_,_,_,_,_,_,_,_,_,_,_,_,_,_,_,_,_,_,_,_,_,_,_,_,_,_,_,_,_,_,_,_,_,_,_,_,_,_,_,_,_,_,_,_,_,_,_,_,_,_,_,_,_,_,_,_,_,_,_,_,_,_,_,_,_,_,_,_,_,_,_,_,_,_,_,_,_,_,_,_,_,_,_,_,_,_,_,_,_,_,_,_,_,_,_,_,_,_,_,_,_,_,_,_,_,_,_,_,_,_,_,_,_,_,_,_,_,_,_,_,_]) rfl ?_
          refine swr_det (met_none rfl) (fun h_ H_ => exd_move (v := .bool (!decide (((pcB ts).getD k []).take (((((((pcB ts).getD k []).length : Nat) : Int) - 1)).toNat) = (pcB ts).getD (((((LL.getD k pz).1) - 1)).toNat) []))) rfl) rfl ?_
          refine swr_det (met_some rfl rfl (not_f (decide_eq_true (hfr.1.trans hF)))) (fun h_ H_ => exd_move (v := .slice a6 ((pcB ts).length) cp7) rfl) (tm' := [_,_,_,_,_,_,_,_,_,_,_,_,_,_,_,_,_,_,_,_,_,_,_,_,_,_,_,_,_,_,_,_,_,_,_,_,_,_,_,_,_,_,_,_,_,_,_,_,_,_,_,_,_,_,_,_,_,_,_,_,_,_,_,_,_,_,_,_,_,_,_,_,_,_,_,_,_,_,_,_,_,_,_,_,_,_,_,_,_,_,_,_,_,_,_,_,_,_,_,_,_,_,_,_,_,_,_,_,_,_,_,_,_,_,_,_,_,_,_,_,_,_,_,_,_,_,_,_,_,_,_,_,_,_,_,_,_,_,_,_,_,_,_,_,_,_,_,_,_,_,_,_,_,_,_,_,_,_,_,_]) rfl ?_
          refine swr_det (met_some rfl rfl (not_f (decide_eq_true (hfr.1.trans hF)))) (fun h_ H_ => exd_move (v := .int .i64 (((k : Nat) : Int))) rfl) rfl ?_
          refine swr_det (met_some rfl rfl (not_f (decide_eq_true (hfr.1.trans hF)))) (fun h_ H_ => exd_indexAddrN (i := k) Tryd.underlying22 tS9 (sl_ne a6 ((pcB ts).length) cp7 (((show Strs _ _ _ (pcB ts) from D9).mono le16).ne (by omega))) rfl (by omega)) (tm' := [_,_,_,_,_,_,_,_,_,_,_,_,_,_,_,_,_,_,_,_,_,_,_,_,_,_,_,_,_,_,_,_,_,_,_,_,_,_,_,_,_,_,_,_,_,_,_,_,_,_,_,_,_,_,_,_,_,_,_,_,_,_,_,_,_,_,_,_,_,_,_,_,_,_,_,_,_,_,_,_,_,_,_,_,_,_,_,_,_,_,_,_,_,_,_,_,_,_,_,_,_,_,_,_,_,_,_,_,_,_,_,_,_,_,_,_,_,_,_,_,_,_,_,_,_,_,_,_,_,_,_,_,_,_,_,_,_,_,_,_,_,_,_,_,_,_,_,_,_,_,_,_,_,_,_,_,_,_,_,_]) rfl ?_
          refine swr_det (met_some rfl rfl (not_f (decide_eq_true (hfr.1.trans hF)))) (fun h_ H_ => exd_load_per H_ tA9 rfl (v := sv ((pcB ts).getD k [])) (((show Strs _ _ _ (pcB ts) from D9).mono le16).get (by omega))) rfl ?_
          refine swr_det (met_some rfl rfl (not_f (decide_eq_true (hfr.1.trans hF)))) (fun h_ H_ => exd_move (v := .int .i64 (((((pcB ts).getD k []).length : Nat) : Int) - 1)) rfl) (tm' := [_,_,_,_,_,_,_,_,_,_,_,_,_,_,_,_,_,_,_,_,_,_,_,_,_,_,_,_,_,_,_,_,_,_,_,_,_,_,_,_,_,_,_,_,_,_,_,_,_,_,_,_,_,_,_,_,_,_,_,_,_,_,_,_,_,_,_,_,_,_,_,_,_,_,_,_,_,_,_,_,_,_,_,_,_,_,_,_,_,_,_,_,_,_,_,_,_,_,_,_,_,_,_,_,_,_,_,_,_,_,_,_,_,_,_,_,_,_,_,_,_,_,_,_,_,_,_,_,_,_,_,_,_,_,_,_,_,_,_,_,_,_,_,_,_,_,_,_,_,_,_,_,_,_,_,_,_,_,_,_]) rfl ?_
          refine swr_det (met_some rfl rfl (not_f (decide_eq_true (hfr.1.trans hF)))) (fun h_ H_ => exd_indexS (l := (pcB ts).getD k []) (i := ((((pcB ts).getD k []).length : Nat) : Int) - 1) Tryd.underlying9 rfl rfl (by omega) (by omega)) rfl ?_
          refine swr_det (met_some rfl rfl (not_f (decide_eq_true (hfr.1.trans hF)))) (fun h_ H_ => exd_conv ⟨_, Tryd.underlying5⟩ Tryd.underlying3 rfl (n := (((((pcB ts).getD k []).getD (((((pcB ts).getD k []).length : Nat) : Int) - 1).toNat 0).toNat : Nat) : Int)) (wrB _)) (tm' := [_,_,_,_,_,_,_,_,_,_,_,_,_,_,_,_,_,_,_,_,_,_,_,_,_,_,_,_,_,_,_,_,_,_,_,_,_,_,_,_,_,_,_,_,_,_,_,_,_,_,_,_,_,_,_,_,_,_,_,_,_,_,_,_,_,_,_,_,_,_,_,_,_,_,_,_,_,_,_,_,_,_,_,_,_,_,_,_,_,_,_,_,_,_,_,_,_,_,_,_,_,_,_,_,_,_,_,_,_,_,_,_,_,_,_,_,_,_,_,_,_,_,_,_,_,_,_,_,_,_,_,_,_,_,_,_,_,_,_,_,_,_,_,_,_,_,_,_,_,_,_,_,_,_,_,_,_,_,_,_]) rfl ?_
          refine swr_det (met_some rfl rfl (not_f (decide_eq_true (hfr.1.trans hF)))) (fun h_ H_ => exd_move (v := .slice a14 LL.length cp15) rfl) rfl ?_
          refine swr_det (met_some rfl rfl (not_f (decide_eq_true (hfr.1.trans hF)))) (fun h_ H_ => exd_move (v := .int .i64 (((k : Nat) : Int))) rfl) (tm' := [_,_,_,_,_,_,_,_,_,_,_,_,_,_,_,_,_,_,_,_,_,_,_,_,_,_,_,_,_,_,_,_,_,_,_,_,_,_,_,_,_,_,_,_,_,_,_,_,_,_,_,_,_,_,_,_,_,_,_,_,_,_,_,_,_,_,_,_,_,_,_,_,_,_,_,_,_,_,_,_,_,_,_,_,_,_,_,_,_,_,_,_,_,_,_,_,_,_,_,_,_,_,_,_,_,_,_,_,_,_,_,_,_,_,_,_,_,_,_,_,_,_,_,_,_,_,_,_,_,_,_,_,_,_,_,_,_,_,_,_,_,_,_,_,_,_,_,_,_,_,_,_,_,_,_,_,_,_,_,_]) rfl ?_
          refine swr_det (met_some rfl rfl (not_f (decide_eq_true (hfr.1.trans hF)))) (fun h_ H_ => exd_indexAddrN (i := k) Tryd.underlying49 tS60 (sl_ne a14 LL.length cp15 ((show Pies _ _ _ LL from D17).ne (by omega))) rfl (by omega)) rfl ?_
          refine swr_det (met_some rfl rfl (not_f (decide_eq_true (hfr.1.trans hF)))) (fun h_ H_ => exd_fieldAddr tF60_1 rfl (a' := ((adr a14).add (k * 2)).add 1) rfl) (tm' := [_,_,_,_,_,_,_,_,_,_,_,_,_,_,_,_,_,_,_,_,_,_,_,_,_,_,_,_,_,_,_,_,_,_,_,_,_,_,_,_,_,_,_,_,_,_,_,_,_,_,_,_,_,_,_,_,_,_,_,_,_,_,_,_,_,_,_,_,_,_,_,_,_,_,_,_,_,_,_,_,_,_,_,_,_,_,_,_,_,_,_,_,_,_,_,_,_,_,_,_,_,_,_,_,_,_,_,_,_,_,_,_,_,_,_,_,_,_,_,_,_,_,_,_,_,_,_,_,_,_,_,_,_,_,_,_,_,_,_,_,_,_,_,_,_,_,_,_,_,_,_,_,_,_,_,_,_,_,_,_]) rfl ?_
          refine swr_det (met_some rfl rfl (not_f (decide_eq_true (hfr.1.trans hF)))) (fun h_ H_ => exd_load_per H_ tA3 rfl (v := .int .i64 ((LL.getD k pz).2)) ((show Pies _ _ _ LL from D17).by (by omega))) rfl ?_
          refine swr_det (met_some rfl rfl (not_f (decide_eq_true (hfr.1.trans hF)))) (fun h_ H_ => exd_neq rfl rfl) (tm' := [_,_,_,_,_,_,_,_,_,_,_,_,_,_,_,_,_,_,_,_,_,_,_,_,_,_,_,_,_,_,_,_,_,_,_,_,_,_,_,_,_,_,_,_,_,_,_,_,_,_,_,_,_,_,_,_,_,_,_,_,_,_,_,_,_,_,_,_,_,_,_,_,_,_,_,_,_,_,_,_,_,_,_,_,_,_,_,_,_,_,_,_,_,_,_,_,_,_,_,_,_,_,_,_,_,_,_,_,_,_,_,_,_,_,_,_,_,_,_,_,_,_,_,_,_,_,_,_,_,_,_,_,_,_,_,_,_,_,_,_,_,_,_,_,_,_,_,_,_,_,_,_,_,_,_,_,_,_,_,_]) rfl ?_
          refine swr_det (met_none rfl) (fun h_ H_ => exd_pick_f rfl (not_f (decide_eq_true (hfr.1.trans hF))) (v := .bool (decide ((((((pcB ts).getD k []).getD (((((pcB ts).getD k []).length : Nat) : Int) - 1).toNat 0).toNat : Nat) : Int) ≠ (LL.getD k pz).2))) rfl) rfl ?_
          refine swr_det (met_none rfl) (fun h_ H_ => exd_move (v := .bool (decide ((((((pcB ts).getD k []).getD (((((pcB ts).getD k []).length : Nat) : Int) - 1).toNat 0).toNat : Nat) : Int) ≠ (LL.getD k pz).2))) rfl) (tm' := [_,_,_,_,_,_,_,_,_,_,_,_,_,_,_,_,_,_,_,_,_,_,_,_,_,_,_,_,_,_,_,_,_,_,_,_,_,_,_,_,_,_,_,_,_,_,_,_,_,_,_,_,_,_,_,_,_,_,_,_,_,_,_,_,_,_,_,_,_,_,_,_,_,_,_,_,_,_,_,_,_,_,_,_,_,_,_,_,_,_,_,_,_,_,_,_,_,_,_,_,_,_,_,_,_,_,_,_,_,_,_,_,_,_,_,_,_,_,_,_,_,_,_,_,_,_,_,_,_,_,_,_,_,_,_,_,_,_,_,_,_,_,_,_,_,_,_,_,_,_,_,_,_,_,_,_,_,_,_,_]) rfl ?_
          refine swr_det (met_some rfl rfl (decide_eq_false (fun z_ => z_ hfr.2))) (fun h_ H_ => exd_move (v := .slice a6 ((pcB ts).length) cp7) rfl) rfl ?_
          refine swr_det (met_some rfl rfl (decide_eq_false (fun z_ => z_ hfr.2))) (fun h_ H_ => exd_move (v := .int .i64 (((k : Nat) : Int))) rfl) (tm' := [_,_,_,_,_,_,_,_,_,_,_,_,_,_,_,_,_,_,_,_,_,_,_,_,_,_,_,_,_,_,_,_,_,_,_,_,_,_,_,_,_,_,_,_,_,_,_,_,_,_,_,_,_,_,_,_,_,_,_,_,_,_,_,_,_,_,_,_,_,_,_,_,_,_,_,_,_,_,_,_,_,_,_,_,_,_,_,_,_,_,_,_,_,_,_,_,_,_,_,_,_,_,_,_,_,_,_,_,_,_,_,_,_,_,_,_,_,_,_,_,_,_,_,_,_,_,_,_,_,_,_,_,_,_,_,_,_,_,_,_,_,_,_,_,_,_,_,_,_,_,_,_,_,_,_,_,_,_,_,_]) rfl ?_
          refine swr_det (met_some rfl rfl (decide_eq_false (fun z_ => z_ hfr.2))) (fun h_ H_ => exd_slice Tryd.underlying22 tS9 rfl (.none _) (.nat (z := k) _ rfl) (by omega) (by omega)) rfl ?_
          refine swr_det (met_some rfl rfl (decide_eq_false (fun z_ => z_ hfr.2))) (fun h_ H_ => exd_move (v := .slice a6 ((pcB ts).length) cp7) rfl) (tm' := [_,_,_,_,_,_,_,_,_,_,_,_,_,_,_,_,_,_,_,_,_,_,_,_,_,_,_,_,_,_,_,_,_,_,_,_,_,_,_,_,_,_,_,_,_,_,_,_,_,_,_,_,_,_,_,_,_,_,_,_,_,_,_,_,_,_,_,_,_,_,_,_,_,_,_,_,_,_,_,_,_,_,_,_,_,_,_,_,_,_,_,_,_,_,_,_,_,_,_,_,_,_,_,_,_,_,_,_,_,_,_,_,_,_,_,_,_,_,_,_,_,_,_,_,_,_,_,_,_,_,_,_,_,_,_,_,_,_,_,_,_,_,_,_,_,_,_,_,_,_,_,_,_,_,_,_,_,_,_,_]) rfl ?_
          refine swr_det (met_some rfl rfl (decide_eq_false (fun z_ => z_ hfr.2))) (fun h_ H_ => exd_move (v := .int .i64 (((k : Nat) : Int))) rfl) rfl ?_
          refine swr_det (met_some rfl rfl (decide_eq_false (fun z_ => z_ hfr.2))) (fun h_ H_ => exd_indexAddrN (i := k) Tryd.underlying22 tS9 (sl_ne a6 ((pcB ts).length) cp7 (((show Strs _ _ _ (pcB ts) from D9).mono le16).ne (by omega))) rfl (by omega)) (tm' := [_,_,_,_,_,_,_,_,_,_,_,_,_,_,_,_,_,_,_,_,_,_,_,_,_,_,_,_,_,_,_,_,_,_,_,_,_,_,_,_,_,_,_,_,_,_,_,_,_,_,_,_,_,_,_,_,_,_,_,_,_,_,_,_,_,_,_,_,_,_,_,_,_,_,_,_,_,_,_,_,_,_,_,_,_,_,_,_,_,_,_,_,_,_,_,_,_,_,_,_,_,_,_,_,_,_,_,_,_,_,_,_,_,_,_,_,_,_,_,_,_,_,_,_,_,_,_,_,_,_,_,_,_,_,_,_,_,_,_,_,_,_,_,_,_,_,_,_,_,_,_,_,_,_,_,_,_,_,_,_]) rfl ?_
          refine swr_det (met_some rfl rfl (decide_eq_false (fun z_ => z_ hfr.2))) (fun h_ H_ => exd_load_per H_ tA9 rfl (v := sv ((pcB ts).getD k [])) (((show Strs _ _ _ (pcB ts) from D9).mono le16).get (by omega))) rfl ?_
          refine swr_call (met_some rfl rfl (decide_eq_false (fun z_ => z_ hfr.2))) (first := []) (cap := []) rfl rfl fC43 (fun h_ H_ => (c43 _ _ (fun b_ o_ e_ => H_.per b_ o_ e_) (cutA a6 cp7 0 1) k _ ((pcB ts).take k) (Strs.pre ((show Strs _ _ _ (pcB ts) from D9).mono le16) (by omega) (by omega)) ((pcB ts).getD k []) (by omega)).mono fun v_ h2_ ⟨e_, k_⟩ => ⟨e_, H_.call k_⟩) (tm' := [_,_,_,_,_,_,_,_,_,_,_,_,_,_,_,_,_,_,_,_,_,_,_,_,_,_,_,_,_,_,_,_,_,_,_,_,_,_,_,_,_,_,_,_,_,_,_,_,_,_,_,_,_,_,_,_,_,_,_,_,_,_,_,_,_,_,_,_,_,_,_,_,_,_,_,_,_,_,_,_,_,_,_,_,_,_,_,_,_,_,_,_,_,_,_,_,_,_,_,_,_,_,_,_,_,_,_,_,_,_,_,_,_,_,_,_,_,_,_,_,_,_,_,_,_,_,_,_,_,_,_,_,_,_,_,_,_,_,_,_,_,_,_,_,_,_,_,_,_,_,_,_,_,_,_,_,_,_,_,_]) rfl ?_
          refine swr_det (met_some rfl rfl (decide_eq_false (fun z_ => z_ hfr.2))) (fun h_ H_ => exd_geq rfl rfl) rfl ?_
          refine swr_det (met_none rfl) (fun h_ H_ => exd_pick_f rfl (decide_eq_false (fun z_ => z_ hfr.2)) (v := .bool (decide (0 ≤ fndT ((pcB ts).take k) ((pcB ts).getD k [])))) rfl) (tm' := [_,_,_,_,_,_,_,_,_,_,_,_,_,_,_,_,_,_,_,_,_,_,_,_,_,_,_,_,_,_,_,_,_,_,_,_,_,_,_,_,_,_,_,_,_,_,_,_,_,_,_,_,_,_,_,_,_,_,_,_,_,_,_,_,_,_,_,_,_,_,_,_,_,_,_,_,_,_,_,_,_,_,_,_,_,_,_,_,_,_,_,_,_,_,_,_,_,_,_,_,_,_,_,_,_,_,_,_,_,_,_,_,_,_,_,_,_,_,_,_,_,_,_,_,_,_,_,_,_,_,_,_,_,_,_,_,_,_,_,_,_,_,_,_,_,_,_,_,_,_,_,_,_,_,_,_,_,_,_,_]) rfl ?_
          refine swr_det (met_none rfl) (fun h_ H_ => exd_move (v := .bool (decide (0 ≤ fndT ((pcB ts).take k) ((pcB ts).getD k [])))) rfl) rfl ?_
          refine swr_det (met_some rfl rfl (decide_eq_false (fnd_ge (F.new k hkL ‹_›)))) (fun h_ H_ => exd_move (v := .slice a6 ((pcB ts).length) cp7) rfl) (tm' := [_,_,_,_,_,_,_,_,_,_,_,_,_,_,_,_,_,_,_,_,_,_,_,_,_,_,_,_,_,_,_,_,_,_,_,_,_,_,_,_,_,_,_,_,_,_,_,_,_,_,_,_,_,_,_,_,_,_,_,_,_,_,_,_,_,_,_,_,_,_,_,_,_,_,_,_,_,_,_,_,_,_,_,_,_,_,_,_,_,_,_,_,_,_,_,_,_,_,_,_,_,_,_,_,_,_,_,_,_,_,_,_,_,_,_,_,_,_,_,_,_,_,_,_,_,_,_,_,_,_,_,_,_,_,_,_,_,_,_,_,_,_,_,_,_,_,_,_,_,_,_,_,_,_,_,_,_,_,_,_]) rfl ?_
          refine swr_det (met_some rfl rfl (decide_eq_false (fnd_ge (F.new k hkL ‹_›)))) (fun h_ H_ => exd_move (v := .int .i64 (((k : Nat) : Int))) rfl) rfl ?_
          refine swr_det (met_some rfl rfl (decide_eq_false (fnd_ge (F.new k hkL ‹_›)))) (fun h_ H_ => exd_indexAddrN (i := k) Tryd.underlying22 tS9 (sl_ne a6 ((pcB ts).length) cp7 (((show Strs _ _ _ (pcB ts) from D9).mono le16).ne (by omega))) rfl (by omega)) (tm' := [_,_,_,_,_,_,_,_,_,_,_,_,_,_,_,_,_,_,_,_,_,_,_,_,_,_,_,_,_,_,_,_,_,_,_,_,_,_,_,_,_,_,_,_,_,_,_,_,_,_,_,_,_,_,_,_,_,_,_,_,_,_,_,_,_,_,_,_,_,_,_,_,_,_,_,_,_,_,_,_,_,_,_,_,_,_,_,_,_,_,_,_,_,_,_,_,_,_,_,_,_,_,_,_,_,_,_,_,_,_,_,_,_,_,_,_,_,_,_,_,_,_,_,_,_,_,_,_,_,_,_,_,_,_,_,_,_,_,_,_,_,_,_,_,_,_,_,_,_,_,_,_,_,_,_,_,_,_,_,_]) rfl ?_
          refine swr_det (met_some rfl rfl (decide_eq_false (fnd_ge (F.new k hkL ‹_›)))) (fun h_ H_ => exd_load_per H_ tA9 rfl (v := sv ((pcB ts).getD k [])) (((show Strs _ _ _ (pcB ts) from D9).mono le16).get (by omega))) rfl ?_
          refine swr_det (met_some rfl rfl (decide_eq_false (fnd_ge (F.new k hkL ‹_›)))) (fun h_ H_ => exd_lenS (l := (pcB ts).getD k []) Tryd.underlying9 rfl) (tm' := [_,_,_,_,_,_,_,_,_,_,_,_,_,_,_,_,_,_,_,_,_,_,_,_,_,_,_,_,_,_,_,_,_,_,_,_,_,_,_,_,_,_,_,_,_,_,_,_,_,_,_,_,_,_,_,_,_,_,_,_,_,_,_,_,_,_,_,_,_,_,_,_,_,_,_,_,_,_,_,_,_,_,_,_,_,_,_,_,_,_,_,_,_,_,_,_,_,_,_,_,_,_,_,_,_,_,_,_,_,_,_,_,_,_,_,_,_,_,_,_,_,_,_,_,_,_,_,_,_,_,_,_,_,_,_,_,_,_,_,_,_,_,_,_,_,_,_,_,_,_,_,_,_,_,_,_,_,_,_,_]) rfl ?_
          refine swr_det (met_some rfl rfl (decide_eq_false (fnd_ge (F.new k hkL ‹_›)))) (fun h_ H_ => exd_move (v := .int .i64 (((k : Nat) : Int))) rfl) rfl ?_
          refine swr_det (met_some rfl rfl (decide_eq_false (fnd_ge (F.new k hkL ‹_›)))) (fun h_ H_ => exd_add rfl rfl (n := ((k + 1 : Nat) : Int)) (wr (by omega))) (tm' := [_,_,_,_,_,_,_,_,_,_,_,_,_,_,_,_,_,_,_,_,_,_,_,_,_,_,_,_,_,_,_,_,_,_,_,_,_,_,_,_,_,_,_,_,_,_,_,_,_,_,_,_,_,_,_,_,_,_,_,_,_,_,_,_,_,_,_,_,_,_,_,_,_,_,_,_,_,_,_,_,_,_,_,_,_,_,_,_,_,_,_,_,_,_,_,_,_,_,_,_,_,_,_,_,_,_,_,_,_,_,_,_,_,_,_,_,_,_,_,_,_,_,_,_,_,_,_,_,_,_,_,_,_,_,_,_,_,_,_,_,_,_,_,_,_,_,_,_,_,_,_,_,_,_,_,_,_,_,_,_]) rfl ?_
          refine swr_nil rfl ?_
          refine rl_det (met_some rfl rfl (decide_eq_false (fnd_ge (F.new k hkL ‹_›)))) (fun h_ H_ => exd_gtr rfl rfl) rfl ?_
          refine rl_det (met_none rfl) (fun h_ H_ => exd_pick_f rfl (decide_eq_false (fnd_ge (F.new k hkL ‹_›))) (v := .bool (decide (((k + 1 : Nat) : Int) < ((((pcB ts).getD k []).length : Nat) : Int)))) rfl) rfl ?_
          refine rl_end ?_
          refine fl_else rfl (decide_eq_false (by have z_ := F.short k hkL; omega)) ?_
          refine fl_skip ?_
          refine fl_inBlock ?_
          refine rl_start ?_
          refine rl_det (met_none rfl) (fun h_ H_ => exd_move (v := .int .i64 (((k : Nat) : Int))) rfl) (tm' := _::_::_::_::_::_::_::_::_::_::_::_::_::_::_::_::_::_::_::_::_::_::_::_::_::_::_::_::_::_::_::_::_::_::_::_::_::_::_::_::_::_::_::_::_::_::_::_::_::_::_::_::_::_::_::_::_::_::_::_) rfl ?_
          refine rl_det (met_none rfl) (fun h_ H_ => exd_add rfl rfl (n := ((k + 1 : Nat) : Int)) (wr (by omega))) rfl ?_
          refine rl_det (met_none rfl) (fun h_ H_ => exd_assign (v := .int .i64 (((k + 1 : Nat) : Int))) rfl) rfl ?_
          refine rl_end ?_
          exact fun h_ H_ => IH19 _ _ (by omega) h_ ⟨k + 1, rfl, (y_of rfl), (by omega), H_⟩
      · refine fl_else rfl (decide_eq_false cc21) ?_
        refine fl_skip ?_
        refine fl_seq ?_
        refine fl_seq ?_
        have hF : fstP LL (pcB ts) k = ([] : List UInt8) := by unfold fstP; rw [if_neg ‹_›]
        refine rl_start ?_
        refine rl_det (met_none rfl) (fun h_ H_ => exd_move (v := .slice a14 LL.length cp15) rfl) (tm' := _::_::_::_::_::_::_::_::_::_::_::_::_::_::_::_::_::_::_::_::_::_::_::_::_::_::_::_::_::_::_::_::_::_::_::_::_::_::_::_::_::_::_::_::_::_::_::_::_::_::_::_::_::_::_::_::_::_::_::_::_::_::_::_::_::_::_::_::_::_::_::_::_::_::_::_::_::_::_::_::_) rfl ?_
        refine rl_det (met_none rfl) (fun h_ H_ => exd_move (v := .int .i64 (((k : Nat) : Int))) rfl) rfl ?_
        refine rl_det (met_none rfl) (fun h_ H_ => exd_indexAddrN (i := k) Tryd.underlying49 tS60 (sl_ne a14 LL.length cp15 ((show Pies _ _ _ LL from D17).ne (by omega))) rfl (by omega)) rfl ?_
        refine rl_det (met_none rfl) (fun h_ H_ => exd_fieldAddr tF60_1 rfl (a' := ((adr a14).add (k * 2)).add 1) rfl) (tm' := _::_::_::_::_::_::_::_::_::_::_::_::_::_::_::_::_::_::_::_::_::_::_::_::_::_::_::_::_::_::_::_::_::_::_::_::_::_::_::_::_::_::_::_::_::_::_::_::_::_::_::_::_::_::_::_::_::_::_::_::_::_::_::_::_::_::_::_::_::_::_::_::_::_::_::_::_::_::_::_::_::_::_::_) rfl ?_
        refine rl_det (met_none rfl) (fun h_ H_ => exd_load_per H_ tA3 rfl (v := .int .i64 ((LL.getD k pz).2)) ((show Pies _ _ _ LL from D17).by (by omega))) rfl ?_
        refine rl_det (met_none rfl) (fun h_ H_ => exd_eql rfl rfl) rfl ?_
        refine rl_end ?_
        by_cases cc23 : (LL.getD k pz).2 = (-1)
        · refine fl_then rfl (decide_eq_true cc23) ?_
          refine fl_seq ?_
          refine fl_seq ?_
          refine fl_drawn2 21 [[], [], [1], [1, 2], [0, 1, 2, 3], [0, 1, 2, 3, 4], [], [], [6, 7], [6, 7, 8], [0, 1, 2, 3, 4], [0, 1, 2, 3, 4, 6, 7, 8, 9, 10], [0, 1, 2, 3, 4, 6, 7, 8, 9, 10, 11], [0, 1, 2, 3, 4, 5, 6, 7, 8, 9, 10, 11, 12], [], [], [14, 15], [], [0, 1, 2, 3, 4, 5, 6, 7, 8, 9, 10, 11, 12], [0, 1, 2, 3, 4, 5, 6, 7, 8, 9, 10, 11, 12, 17, 18], [0, 1, 2, 3, 4, 5, 6, 7, 8, 9, 10, 11, 12, 17, 18, 19], [0, 1, 2, 3, 4, 5, 6, 7, 8, 9, 10, 11, 12, 14, 15, 16, 17, 18, 19, 20], [0, 1, 2, 3, 4, 5, 6, 7, 8, 9, 10, 11, 12, 14, 15, 16, 17, 18, 19, 20, 21], []] mixed (by kernel_rfl) (Nat.le_of_ble_eq_true rfl) ?_
          refine swr_det (met_none rfl) (fun h_ H_ => exd_move (v := .int .i64 (((k : Nat) : Int))) rfl) (tm' := _::_::_::_::_::_::_::_::_::_::_::_::_::_::_::_::_::_::_::_::_::_::_::_::_::_::_::_::_::_::_::_::_::_::_::_::_::_::_::_::_::_::_::_::_::_::_::_::_::_::_::_::_::_::_::_::_::_::_::_::_::_::_::_::_::_::_::_::_::_::_::_::_::_::_::_::_::_::_::_::_::_::_::_::_::_::_) rfl ?_
          refine swr_det (met_none rfl) (fun h_ H_ => exd_move (v := .slice a6 ((pcB ts).length) cp7) rfl) rfl ?_
          refine swr_det (met_none rfl) (fun h_ H_ => exd_len Tryd.underlying22 rfl) (tm' := _::_::_::_::_::_::_::_::_::_::_::_::_::_::_::_::_::_::_::_::_::_::_::_::_::_::_::_::_::_::_::_::_::_::_::_::_::_::_::_::_::_::_::_::_::_::_::_::_::_::_::_::_::_::_::_::_::_::_::_::_::_::_::_::_::_::_::_::_::_::_::_::_::_::_::_::_::_::_::_::_::_::_::_::_::_::_::_::_) rfl ?_
          refine swr_det (met_none rfl) (fun h_ H_ => exd_sub rfl rfl (wr (by omega))) rfl ?_
          refine swr_det (met_none rfl) (fun h_ H_ => exd_lss rfl rfl) (tm' := _::_::_::_::_::_::_::_::_::_::_::_::_::_::_::_::_::_::_::_::_::_::_::_::_::_::_::_::_::_::_::_::_::_::_::_::_::_::_::_::_::_::_::_::_::_::_::_::_::_::_::_::_::_::_::_::_::_::_::_::_::_::_::_::_::_::_::_::_::_::_::_::_::_::_::_::_::_::_::_::_::_::_::_::_::_::_::_::_::_::_) rfl ?_
          refine swr_det (met_none rfl) (fun h_ H_ => exd_move (v := .bool (decide (((k : Nat) : Int) < (((pcB ts).length : Nat) : Int) - 1))) rfl) rfl ?_
          refine swr_det (met_some rfl rfl (decide_eq_false (by have z_ := (F.last k hkL ‹_›).1; omega))) (fun h_ H_ => exd_move (v := .slice a6 ((pcB ts).length) cp7) rfl) (tm' := _::_::_::_::_::_::_::_::_::_::_::_::_::_::_::_::_::_::_::_::_::_::_::_::_::_::_::_::_::_::_::_::_::_::_::_::_::_::_::_::_::_::_::_::_::_::_::_::_::_::_::_::_::_::_::_::_::_::_::_::_::_::_::_::_::_::_::_::_::_::_::_::_::_::_::_::_::_::_::_::_::_::_::_::_::_::_::_::_::_::_::_::_) rfl ?_
          refine swr_det (met_some rfl rfl (decide_eq_false (by have z_ := (F.last k hkL ‹_›).1; omega))) (fun h_ H_ => exd_move (v := .int .i64 (((k : Nat) : Int))) rfl) rfl ?_
          refine swr_det (met_some rfl rfl (decide_eq_false (by have z_ := (F.last k hkL ‹_›).1; omega))) (fun h_ H_ => exd_indexAddrN (i := k) Tryd.underlying22 tS9 (sl_ne a6 ((pcB ts).length) cp7 (((show Strs _ _ _ (pcB ts) from D9).mono le16).ne (by omega))) rfl (by omega)) (tm' := _::_::_::_::_::_::_::_::_::_::_::_::_::_::_::_::_::_::_::_::_::_::_::_::_::_::_::_::_::_::_::_::_::_::_::_::_::_::_::_::_::_::_::_::_::_::_::_::_::_::_::_::_::_::_::_::_::_::_::_::_::_::_::_::_::_::_::_::_::_::_::_::_::_::_::_::_::_::_::_::_::_::_::_::_::_::_::_::_::_::_::_::_::_::_) rfl ?_
          refine swr_det (met_some rfl rfl (decide_eq_false (by have z_ := (F.last k hkL ‹_›).1; omega))) (fun h_ H_ => exd_load_per H_ tA9 rfl (v := sv ((pcB ts).getD k [])) (((show Strs _ _ _ (pcB ts) from D9).mono le16).get (by omega))) rfl ?_
          refine swr_det (met_some rfl rfl (decide_eq_false (by have z_ := (F.last k hkL ‹_›).1; omega))) (fun h_ H_ => exd_move (v := sv ([] : List UInt8)) rfl) (tm' := _::_::_::_::_::_::_::_::_::_::_::_::_::_::_::_::_::_::_::_::_::_::_::_::_::_::_::_::_::_::_::_::_::_::_::_::_::_::_::_::_::_::_::_::_::_::_::_::_::_::_::_::_::_::_::_::_::_::_::_::_::_::_::_::_::_::_::_::_::_::_::_::_::_::_::_::_::_::_::_::_::_::_::_::_::_::_::_::_::_::_::_::_::_::_::_::_) rfl ?_
          refine swr_det (met_some rfl rfl (decide_eq_false (by have z_ := (F.last k hkL ‹_›).1; omega))) (fun h_ H_ => exd_neqS (l := (pcB ts).getD k []) (m := ([] : List UInt8)) rfl rfl) rfl ?_
          refine swr_det (met_none rfl) (fun h_ H_ => exd_pick_f rfl (decide_eq_false (by have z_ := (F.last k hkL ‹_›).1; omega)) (v := .bool (!decide ((pcB ts).getD k [] = ([] : List UInt8)))) rfl) (tm' := _::_::_::_::_::_::_::_::_::_::_::_::_::_::_::_::_::_::_::_::_::_::_::_::_::_::_::_::_::_::_::_::_::_::_::_::_::_::_::_::_::_::_::_::_::_::_::_::_::_::_::_::_::_::_::_::_::_::_::_::_::_::_::_::_::_::_::_::_::_::_::_::_::_::_::_::_::_::_::_::_::_::_::_::_::_::_::_::_::_::_::_::_::_::_::_::_::_::_) rfl ?_
          refine swr_det (met_none rfl) (fun h_ H_ => exd_move (v := .bool (!decide ((pcB ts).getD k [] = ([] : List UInt8)))) rfl) rfl ?_
          refine swr_det (met_some rfl rfl (not_f (decide_eq_true ((F.back hkL ‹_›).trans hF)))) (fun h_ H_ => exd_move (v := .slice a6 ((pcB ts).length) cp7) rfl) (tm' := _::_::_::_::_::_::_::_::_::_::_::_::_::_::_::_::_::_::_::_::_::_::_::_::_::_::_::_::_::_::_::_::_::_::_::_::_::_::_::_::_::_::_::_::_::_::_::_::_::_::_::_::_::_::_::_::_::_::_::_::_::_::_::_::_::_::_::_::_::_::_::_::_::_::_::_::_::_::_::_::_::_::_::_::_::_::_::_::_::_::_::_::_::_::_::_::_::_::_::_::_) rfl ?_
          refine swr_det (met_some rfl rfl (not_f (decide_eq_true ((F.back hkL ‹_›).trans hF)))) (fun h_ H_ => exd_move (v := .int .i64 (((k : Nat) : Int))) rfl) rfl ?_
          refine swr_det (met_some rfl rfl (not_f (decide_eq_true ((F.back hkL ‹_›).trans hF)))) (fun h_ H_ => exd_slice Tryd.underlying22 tS9 rfl (.none _) (.nat (z := k) _ rfl) (by omega) (by omega)) (tm' := _::_::_::_::_::_::_::_::_::_::_::_::_::_::_::_::_::_::_::_::_::_::_::_::_::_::_::_::_::_::_::_::_::_::_::_::_::_::_::_::_::_::_::_::_::_::_::_::_::_::_::_::_::_::_::_::_::_::_::_::_::_::_::_::_::_::_::_::_::_::_::_::_::_::_::_::_::_::_::_::_::_::_::_::_::_::_::_::_::_::_::_::_::_::_::_::_::_::_::_::_::_::_) rfl ?_
          refine swr_det (met_some rfl rfl (not_f (decide_eq_true ((F.back hkL ‹_›).trans hF)))) (fun h_ H_ => exd_move (v := .slice a6 ((pcB ts).length) cp7) rfl) rfl ?_
          refine swr_det (met_some rfl rfl (not_f (decide_eq_true ((F.back hkL ‹_›).trans hF)))) (fun h_ H_ => exd_move (v := .int .i64 (((k : Nat) : Int))) rfl) (tm' := _::_::_::_::_::_::_::_::_::_::_::_::_::_::_::_::_::_::_::_::_::_::_::_::_::_::_::_::_::_::_::_::_::_::_::_::_::_::_::_::_::_::_::_::_::_::_::_::_::_::_::_::_::_::_::_::_::_::_::_::_::_::_::_::_::_::_::_::_::_::_::_::_::_::_::_::_::_::_::_::_::_::_::_::_::_::_::_::_::_::_::_::_::_::_::_::_::_::_::_::_::_::_::_::_) rfl ?_
          refine swr_det (met_some rfl rfl (not_f (decide_eq_true ((F.back hkL ‹_›).trans hF)))) (fun h_ H_ => exd_indexAddrN (i := k) Tryd.underlying22 tS9 (sl_ne a6 ((pcB ts).length) cp7 (((show Strs _ _ _ (pcB ts) from D9).mono le16).ne (by omega))) rfl (by omega)) rfl ?_
          refine swr_det (met_some rfl rfl (not_f (decide_eq_true ((F.back hkL ‹_›).trans hF)))) (fun h_ H_ => exd_load_per H_ tA9 rfl (v := sv ((pcB ts).getD k [])) (((show Strs _ _ _ (pcB ts) from D9).mono le16).get (by omega))) (tm' := _::_::_::_::_::_::_::_::_::_::_::_::_::_::_::_::_::_::_::_::_::_::_::_::_::_::_::_::_::_::_::_::_::_::_::_::_::_::_::_::_::_::_::_::_::_::_::_::_::_::_::_::_::_::_::_::_::_::_::_::_::_::_::_::_::_::_::_::_::_::_::_::_::_::_::_::_::_::_::_::_::_::_::_::_::_::_::_::_::_::_::_::_::_::_::_::_::_::_::_::_::_::_::_::_::_::_) rfl ?_
          refine swr_nil rfl ?_
          refine rl_calld (met_some rfl rfl (not_f (decide_eq_true ((F.back hkL ‹_›).trans hF)))) (first := []) (cap := []) rfl rfl fC43 (fun h_ H_ => c43 _ _ (fun b_ o_ e_ => H_.per b_ o_ e_) (cutA a6 cp7 0 1) k _ ((pcB ts).take k) (Strs.pre ((show Strs _ _ _ (pcB ts) from D9).mono le16) (by omega) (by omega)) ((pcB ts).getD k []) (by omega)) (tm' := [_,_,_,_,_,_,_,_,_,_,_,_,_,_,_,_,_,_,_,_,_,_,_,_,_,_,_,_,_,_,_,_,_,_,_,_,_,_,_,_,_,_,_,_,_,_,_,_,_,_,_,_,_,_,_,_,_,_,_,_,_,_,_,_,_,_,_,_,_,_,_,_,_,_,_,_,_,_,_,_,_,_,_,_,_,_,_,_,_,_,_,_,_,_,_,_,_,_,_,_,_,_,_,_,_,_,_,_,_,_,_,_,_,_,_,_,_,_,_,_,_,_,_,_,_,_,_,_,_,_,_,_,_,_,_,_,_,_,_,_,_,_,_,_,_,_,_,_,_,_,_,_,_,_,_,_,_,_,_,_]) rfl ?_
          refine rl_det (met_some rfl rfl (not_f (decide_eq_true ((F.back hkL ‹_›).trans hF)))) (fun h_ H_ => exd_lss rfl rfl) rfl ?_
          refine rl_det (met_none rfl) (fun h_ H_ => exd_pick_f rfl (not_f (decide_eq_true ((F.back hkL ‹_›).trans hF))) (v := .bool (decide (fndT ((pcB ts).take k) ((pcB ts).getD k []) < 0))) rfl) rfl ?_
          refine rl_end ?_
          refine fl_else rfl (decide_eq_false (fnd_lt (F.last k hkL ‹_›).2)) ?_
          refine fl_skip ?_
          refine fl_exit rfl ?_
          refine rl_start ?_
          refine rl_det (met_none rfl) (fun h_ H_ => exd_move (v := .int .i64 (((k : Nat) : Int))) rfl) (tm' := _::_::_::_::_::_::_::_::_::_::_::_::_::_::_::_::_::_::_::_::_::_::_::_::_::_::_::_::_::_::_::_::_::_::_::_::_::_::_::_::_::_::_::_::_::_::_::_::_::_::_::_::_::_::_::_::_::_::_::_) rfl ?_
          refine rl_det (met_none rfl) (fun h_ H_ => exd_add rfl rfl (n := ((k + 1 : Nat) : Int)) (wr (by omega))) rfl ?_
          refine rl_det (met_none rfl) (fun h_ H_ => exd_assign (v := .int .i64 (((k + 1 : Nat) : Int))) rfl) rfl ?_
          refine rl_end ?_
          exact fun h_ H_ => IH19 _ _ (by omega) h_ ⟨k + 1, rfl, (y_of rfl), (by omega), H_⟩
        · refine fl_else rfl (decide_eq_false cc23) ?_
          refine fl_skip ?_
          refine fl_seq ?_
          have hp1 := pc_pos (ts := ts) (i := k) (by omega)
          have hsh := F.short k hkL
          refine rl_start ?_
          refine rl_det (met_none rfl) (fun h_ H_ => exd_move (v := .slice a6 ((pcB ts).length) cp7) rfl) (tm' := [_,_,_,_,_,_,_,_,_,_,_,_,_,_,_,_,_,_,_,_,_,_,_,_,_,_,_,_,_,_,_,_,_,_,_,_,_,_,_,_,_,_,_,_,_,_,_,_,_,_,_,_,_,_,_,_,_,_,_,_,_,_,_,_,_,_,_,_,_,_,_,_,_,_,_,_,_,_,_,_,_,_,_,_,_,_,_,_,_,_,_,_,_,_,_,_,_,_,_,_,_,_,_,_,_,_,_,_,_,_,_,_,_,_,_,_,_,_,_,_,_,_,_,_,_,_,_,_,_,_,_,_,_,_,_,_,_,_,_,_,_,_,_,_,_,_,_,_,_,_,_,_,_,_,_,_,_,_,_,_]) rfl ?_
          refine rl_det (met_none rfl) (fun h_ H_ => exd_move (v := .int .i64 (((k : Nat) : Int))) rfl) rfl ?_
          refine rl_det (met_none rfl) (fun h_ H_ => exd_indexAddrN (i := k) Tryd.underlying22 tS9 (sl_ne a6 ((pcB ts).length) cp7 (((show Strs _ _ _ (pcB ts) from D9).mono le16).ne (by omega))) rfl (by omega)) rfl ?_
          refine rl_det (met_none rfl) (fun h_ H_ => exd_load_per H_ tA9 rfl (v := sv ((pcB ts).getD k [])) (((show Strs _ _ _ (pcB ts) from D9).mono le16).get (by omega))) (tm' := [_,_,_,_,_,_,_,_,_,_,_,_,_,_,_,_,_,_,_,_,_,_,_,_,_,_,_,_,_,_,_,_,_,_,_,_,_,_,_,_,_,_,_,_,_,_,_,_,_,_,_,_,_,_,_,_,_,_,_,_,_,_,_,_,_,_,_,_,_,_,_,_,_,_,_,_,_,_,_,_,_,_,_,_,_,_,_,_,_,_,_,_,_,_,_,_,_,_,_,_,_,_,_,_,_,_,_,_,_,_,_,_,_,_,_,_,_,_,_,_,_,_,_,_,_,_,_,_,_,_,_,_,_,_,_,_,_,_,_,_,_,_,_,_,_,_,_,_,_,_,_,_,_,_,_,_,_,_,_,_]) rfl ?_
          refine rl_det (met_none rfl) (fun h_ H_ => exd_lenS (l := (pcB ts).getD k []) Tryd.underlying9 rfl) rfl ?_
          refine rl_det (met_none rfl) (fun h_ H_ => exd_sub rfl rfl (wr (by omega))) rfl ?_
          refine rl_det (met_none rfl) (fun h_ H_ => exd_assign (v := .int .i64 (((((pcB ts).getD k []).length : Nat) : Int) - 1)) rfl) (tm' := _::_::_::_::_::_::_::_::_::_::_::_::_::_) rfl ?_
          refine rl_end ?_
          refine fl_seq ?_
          have hfr := F.front hkL ‹¬ (LL.getD k pz).2 = -1› (z := (((((pcB ts).getD k []).length : Nat) : Int) - 1).toNat) (by omega)
          refine fl_drawn2 42 [[], [], [0, 1], [0, 1, 2], [], [0, 1, 2, 3, 4], [], [0, 1, 2, 3, 4, 5, 6], [0, 1, 2, 3, 4, 5, 6, 7], [], [], [9, 10], [9, 10, 11], [], [9, 10, 11, 12, 13], [9, 10, 11, 12, 13, 14], [], [0, 1, 2, 3, 4, 5, 6, 7], [0, 1, 2, 3, 4, 5, 6, 7, 16, 17], [0, 1, 2, 3, 4, 5, 6, 7, 16, 17, 18], [0, 1, 2, 3, 4, 5, 6, 7, 16, 17, 18, 19], [0, 1, 2, 3, 4, 5, 6, 7, 9, 10, 11, 12, 13, 14, 15, 16, 17, 18, 19, 20], [0, 1, 2, 3, 4, 5, 6, 7, 9, 10, 11, 12, 13, 14, 15, 16, 17, 18, 19, 20, 21], [0, 1, 2, 3, 4, 5, 6, 7, 8, 9, 10, 11, 12, 13, 14, 15, 16, 17, 18, 19, 20, 21, 22], [], [], [24, 25], [], [0, 1, 2, 3, 4, 5, 6, 7, 8, 9, 10, 11, 12, 13, 14, 15, 16, 17, 18, 19, 20, 21, 22], [0, 1, 2, 3, 4, 5, 6, 7, 8, 9, 10, 11, 12, 13, 14, 15, 16, 17, 18, 19, 20, 21, 22, 27, 28], [0, 1, 2, 3, 4, 5, 6, 7, 8, 9, 10, 11, 12, 13, 14, 15, 16, 17, 18, 19, 20, 21, 22, 27, 28, 29], [0, 1, 2, 3, 4, 5, 6, 7, 8, 9, 10, 11, 12, 13, 14, 15, 16, 17, 18, 19, 20, 21, 22, 24, 25, 26, 27, 28, 29, 30], [0, 1, 2, 3, 4, 5, 6, 7, 8, 9, 10, 11, 12, 13, 14, 15, 16, 17, 18, 19, 20, 21, 22, 24, 25, 26, 27, 28, 29, 30], [0, 1, 2, 3, 4, 5, 6, 7, 8, 9, 10, 11, 12, 13, 14, 15, 16, 17, 18, 19, 20, 21, 22, 23, 24, 25, 26, 27, 28, 29, 30, 32], [0, 1, 2, 3, 4, 5, 6, 7, 8, 9, 10, 11, 12, 13, 14, 15, 16, 17, 18, 19, 20, 21, 22, 23, 24, 25, 26, 27, 28, 29, 30, 31, 32, 33], [], [], [35, 36], [35, 36, 37], [35, 36, 37, 38], [0, 1, 2, 3, 4, 5, 6, 7, 8, 9, 10, 11, 12, 13, 14, 15, 16, 17, 18, 19, 20, 21, 22, 23, 24, 25, 26, 27, 28, 29, 30, 31, 32, 33], [0, 1, 2, 3, 4, 5, 6, 7, 8, 9, 10, 11, 12, 13, 14, 15, 16, 17, 18, 19, 20, 21, 22, 23, 24, 25, 26, 27, 28, 29, 30, 31, 32, 33, 40], [0, 1, 2, 3, 4, 5, 6, 7, 8, 9, 10, 11, 12, 13, 14, 15, 16, 17, 18, 19, 20, 21, 22, 23, 24, 25, 26, 27, 28, 29, 30, 31, 32, 33, 35, 36, 37, 38, 39, 40, 41], []] mixed (by kernel_rfl) (Nat.le_of_ble_eq_true rfl) ?_
          refine swr_det (met_none rfl) (fun h_ H_ => exd_move (v := .slice a6 ((pcB ts).length) cp7) rfl) (tm' := [_,_,_,_,_,_,_,_,_,_,_,_,_,_,_,_,_,_,_,_,_,_,_,_,_,_,_,_,_,_,_,_,_,_,_,_,_,_,_,_,_,_,_,_,_,_,_,_,_,_,_,_,_,_,_,_,_,_,_,_,_,_,_,_,_,_,_,_,_,_,_,_,_,_,_,_,_,_,_,_,_,_,_,_,_,_,_,_,_,_,_,_,_,_,_,_,_,_,_,_,_,_,_,_,_,_,_,_,_,_,_,_,_,_,_,_,_,_,_,_,_,_,_,_,_,_,_,_,_,_,_,_,_,_,_,_,_,_,_,_,_,_,_,_,_,_,_,_,_,_,_,_,_,_,_,_,_,_,_,_]) rfl ?_
          refine swr_det (met_none rfl) (fun h_ H_ => exd_move (v := .int .i64 (((k : Nat) : Int))) rfl) rfl ?_
          refine swr_det (met_none rfl) (fun h_ H_ => exd_indexAddrN (i := k) Tryd.underlying22 tS9 (sl_ne a6 ((pcB ts).length) cp7 (((show Strs _ _ _ (pcB ts) from D9).mono le16).ne (by omega))) rfl (by omega)) (tm' := [_,_,_,_,_,_,_,_,_,_,_,_,_,_,_,_,_,_,_,_,_,_,_,_,_,_,_,_,_,_,_,_,_,_,_,_,_,_,_,_,_,_,_,_,_,_,_,_,_,_,_,_,_,_,_,_,_,_,_,_,_,_,_,_,_,_,_,_,_,_,_,_,_,_,_,_,_,_,_,_,_,_,_,_,_,_,_,_,_,_,_,_,_,_,_,_,_,_,_,_,_,_,_,_,_,_,_,_,_,_,_,_,_,_,_,_,_,_,_,_,_,_,_,_,_,_,_,_,_,_,_,_,_,_,_,_,_,_,_,_,_,_,_,_,_,_,_,_,_,_,_,_,_,_,_,_,_,_,_,_]) rfl ?_
          refine swr_det (met_none rfl) (fun h_ H_ => exd_load_per H_ tA9 rfl (v := sv ((pcB ts).getD k [])) (((show Strs _ _ _ (pcB ts) from D9).mono le16).get (by omega))) rfl ?_
          refine swr_det (met_none rfl) (fun h_ H_ => exd_move (v := .int .i64 (((((pcB ts).getD k []).length : Nat) : Int) - 1)) rfl) (tm' := [_,_,_,_,_,_,_,_,_,_,_,_,_,_,_,_,_,_,_,_,_,_,_,_,_,_,_,_,_,_,_,_,_,_,_,_,_,_,_,_,_,_,_,_,_,_,_,_,_,_,_,_,_,_,_,_,_,_,_,_,_,_,_,_,_,_,_,_,_,_,_,_,_,_,_,_,_,_,_,_,_,_,_,_,_,_,_,_,_,_,_,_,_,_,_,_,_,_,_,_,_,_,_,_,_,_,_,_,_,_,_,_,_,_,_,_,_,_,_,_,_,_,_,_,_,_,_,_,_,_,_,_,_,_,_,_,_,_,_,_,_,_,_,_,_,_,_,_,_,_,_,_,_,_,_,_,_,_,_,_]) rfl ?_
          refine swr_det (met_none rfl) (fun h_ H_ => exd_takeS (l := (pcB ts).getD k []) (r := ((((((pcB ts).getD k []).length : Nat) : Int) - 1)).toNat) Tryd.underlying9 rfl (.some _ rfl (by omega)) (by omega)) rfl ?_
          refine swr_det (met_none rfl) (fun h_ H_ => exd_move (v := sv ([] : List UInt8)) rfl) (tm' := [_,_,_,_,_,_,_,_,_,_,_,_,_,_,_,_,_,_,_,_,_,_,_,_,_,_,_,_,_,_,_,_,_,_,_,_,_,_,_,_,_,_,_,_,_,_,_,_,_,_,_,_,_,_,_,_,_,_,_,_,_,_,_,_,_,_,_,_,_,_,_,_,_,_,_,_,_,_,_,_,_,_,_,_,_,_,_,_,_,_,_,_,_,_,_,_,_,_,_,_,_,_,_,_,_,_,_,_,_,_,_,_,_,_,_,_,_,_,_,_,_,_,_,_,_,_,_,_,_,_,_,_,_,_,_,_,_,_,_,_,_,_,_,_,_,_,_,_,_,_,_,_,_,_,_,_,_,_,_,_]) rfl ?_
          refine swr_det (met_none rfl) (fun h_ H_ => exd_neqS (l := ((pcB ts).getD k []).take (((((((pcB ts).getD k []).length : Nat) : Int) - 1)).toNat)) (m := ([] : List UInt8)) rfl rfl) rfl ?_
          refine swr_det (met_none rfl) (fun h_ H_ => exd_move (v := .bool (!decide (((pcB ts).getD k []).take (((((((pcB ts).getD k []).length : Nat) : Int) - 1)).toNat) = ([] : List UInt8)))) rfl) (tm' := [_,_,_,_,_,_,_,_,_,_,_,_,_,_,_,_,_,_,_,_,_,_,_,_,_,_,_,_,_,_,_,_,_,_,_,_,_,_,_,_,_,_,_,_,_,_,_,_,_,_,_,_,_,_,_,_,_,_,_,_,_,_,_,_,_,_,_,_,_,_,_,_,_,_,_,_,_,_,_,_,_,_,_,_,_,_,_,_,_,_,_,_,_,_,_,_,_,_,_,_,_,_,_,_,_,_,_,_,_,_,_,_,_,_,_,_,_,_,_,_,_,_,_,_,_,_,_,_,_,_,_,_,_,_,_,_,_,_,_,_,_,_,_,_,_,_,_,_,_,_,_,_,_,_,_,_,_,_,_,_]) rfl ?_
          refine swr_det (met_some rfl rfl (not_f (decide_eq_true (hfr.1.trans hF)))) (fun h_ H_ => exd_move (v := .slice a6 ((pcB ts).length) cp7) rfl) rfl ?_
          refine swr_det (met_some rfl rfl (not_f (decide_eq_true (hfr.1.trans hF)))) (fun h_ H_ => exd_move (v := .int .i64 (((k : Nat) : Int))) rfl) (tm' := [_,_,_,_,_,_,_,_,_,_,_,_,_,_,_,_,_,_,_,_,_,_,_,_,_,_,_,_,_,_,_,_,_,_,_,_,_,_,_,_,_,_,_,_,_,_,_,_,_,_,_,_,_,_,_,_,_,_,_,_,_,_,_,_,_,_,_,_,_,_,_,_,_,_,_,_,_,_,_,_,_,_,_,_,_,_,_,_,_,_,_,_,_,_,_,_,_,_,_,_,_,_,_,_,_,_,_,_,_,_,_,_,_,_,_,_,_,_,_,_,_,_,_,_,_,_,_,_,_,_,_,_,_,_,_,_,_,_,_,_,_,_,_,_,_,_,_,_,_,_,_,_,_,_,_,_,_,_,_,_]) rfl ?_
          refine swr_det (met_some rfl rfl (not_f (decide_eq_true (hfr.1.trans hF)))) (fun h_ H_ => exd_indexAddrN (i := k) Tryd.underlying22 tS9 (sl_ne a6 ((pcB ts).length) cp7 (((show Strs _ _ _ (pcB ts) from D9).mono le16).ne (by omega))) rfl (by omega)) rfl ?_
          refine swr_det (met_some rfl rfl (not_f (decide_eq_true (hfr.1.trans hF)))) (fun h_ H_ => exd_load_per H_ tA9 rfl (v := sv ((pcB ts).getD k [])) (((show Strs _ _ _ (pcB ts) from D9).mono le16).get (by omega))) (tm' := [_,_,_,_,_,_,_,_,_,_,_,_,_,_,_,_,_,_,_,_,_,_,_,_,_,_,_,_,_,_,_,_,_,_,_,_,_,_,_,_,_,_,_,_,_,_,_,_,_,_,_,_,_,_,_,_,_,_,_,_,_,_,_,_,_,_,_,_,_,_,_,_,_,_,_,_,_,_,_,_,_,_,_,_,_,_,_,_,_,_,_,_,_,_,_,_,_,_,_,_,_,_,_,_,_,_,_,_,_,_,_,_,_,_,_,_,_,_,_,_,_,_,_,_,_,_,_,_,_,_,_,_,_,_,_,_,_,_,_,_,_,_,_,_,_,_,_,_,_,_,_,_,_,_,_,_,_,_,_,_]) rfl ?_
          refine swr_det (met_some rfl rfl (not_f (decide_eq_true (hfr.1.trans hF)))) (fun h_ H_ => exd_move (v := .int .i64 (((((pcB ts).getD k []).length : Nat) : Int) - 1)) rfl) rfl ?_
          refine swr_det (met_some rfl rfl (not_f (decide_eq_true (hfr.1.trans hF)))) (fun h_ H_ => exd_indexS (l := (pcB ts).getD k []) (i := ((((pcB ts).getD k []).length : Nat) : Int) - 1) Tryd.underlying9 rfl rfl (by omega) (by omega)) (tm' := [_,_,_,_,_,_,_,_,_,_,_,_,_,_,_,_,_,_,_,_,_,_,_,_,_,_,_,_,_,_,_,_,_,_,_,_,_,_,_,_,_,_,_,_,_,_,_,_,_,_,_,_,_,_,_,_,_,_,_,_,_,_,_,_,_,_,_,_,_,_,_,_,_,_,_,_,_,_,_,_,_,_,_,_,_,_,_,_,_,_,_,_,_,_,_,_,_,_,_,_,_,_,_,_,_,_,_,_,_,_,_,_,_,_,_,_,_,_,_,_,_,_,_,_,_,_,_,_,_,_,_,_,_,_,_,_,_,_,_,_,_,_,_,_,_,_,_,_,_,_,_,_,_,_,_,_,_,_,_,_]) rfl ?_
          refine swr_det (met_some rfl rfl (not_f (decide_eq_true (hfr.1.trans hF)))) (fun h_ H_ => exd_conv ⟨_, Tryd.underlying5⟩ Tryd.underlying3 rfl (n := (((((pcB ts).getD k []).getD (((((pcB ts).getD k []).length : Nat) : Int) - 1).toNat 0).toNat : Nat) : Int)) (wrB _)) rfl ?_
          refine swr_det (met_some rfl rfl (not_f (decide_eq_true (hfr.1.trans hF)))) (fun h_ H_ => exd_move (v := .slice a14 LL.length cp15) rfl) (tm' := [_,_,_,_,_,_,_,_,_,_,_,_,_,_,_,_,_,_,_,_,_,_,_,_,_,_,_,_,_,_,_,_,_,_,_,_,_,_,_,_,_,_,_,_,_,_,_,_,_,_,_,_,_,_,_,_,_,_,_,_,_,_,_,_,_,_,_,_,_,_,_,_,_,_,_,_,_,_,_,_,_,_,_,_,_,_,_,_,_,_,_,_,_,_,_,_,_,_,_,_,_,_,_,_,_,_,_,_,_,_,_,_,_,_,_,_,_,_,_,_,_,_,_,_,_,_,_,_,_,_,_,_,_,_,_,_,_,_,_,_,_,_,_,_,_,_,_,_,_,_,_,_,_,_,_,_,_,_,_,_]) rfl ?_
          refine swr_det (met_some rfl rfl (not_f (decide_eq_true (hfr.1.trans hF)))) (fun h_ H_ => exd_move (v := .int .i64 (((k : Nat) : Int))) rfl) rfl ?_
          refine swr_det (met_some rfl rfl (not_f (decide_eq_true (hfr.1.trans hF)))) (fun h_ H_ => exd_indexAddrN (i := k) Tryd.underlying49 tS60 (sl_ne a14 LL.length cp15 ((show Pies _ _ _ LL from D17).ne (by omega))) rfl (by omega)) (tm' := [_,_,_,_,_,_,_,_,_,_,_,_,_,_,_,_,_,_,_,_,_,_,_,_,_,_,_,_,_,_,_,_,_,_,_,_,_,_,_,_,_,_,_,_,_,_,_,_,_,_,_,_,_,_,_,_,_,_,_,_,_,_,_,_,_,_,_,_,_,_,_,_,_,_,_,_,_,_,_,_,_,_,_,_,_,_,_,_,_,_,_,_,_,_,_,_,_,_,_,_,_,_,_,_,_,_,_,_,_,_,_,_,_,_,_,_,_,_,_,_,_,_,_,_,_,_,_,_,_,_,_,_,_,_,_,_,_,_,_,_,_,_,_,_,_,_,_,_,_,_,_,_,_,_,_,_,_,_,_,_]) rfl ?_
          refine swr_det (met_some rfl rfl (not_f (decide_eq_true (hfr.1.trans hF)))) (fun h_ H_ => exd_fieldAddr tF60_1 rfl (a' := ((adr a14).add (k * 2)).add 1) rfl) rfl ?_
          refine swr_det (met_some rfl rfl (not_f (decide_eq_true (hfr.1.trans hF)))) (fun h_ H_ => exd_load_per H_ tA3 rfl (v := .int .i64 ((LL.getD k pz).2)) ((show Pies _ _ _ LL from D17).by (by omega))) (tm' := [_,_,_,_,_,_,_,_,_,_,_,_,_,_,_,_,_,_,_,_,_,_,_,_,_,_,_,_,_,_,_,_,_,_,_,_,_,_,_,_,_,_,_,_,_,_,_,_,_,_,_,_,_,_,_,_,_,_,_,_,_,_,_,_,_,_,_,_,_,_,_,_,_,_,_,_,_,_,_,_,_,_,_,_,_,_,_,_,_,_,_,_,_,_,_,_,_,_,_,_,_,_,_,_,_,_,_,_,_,_,_,_,_,_,_,_,_,_,_,_,_,_,_,_,_,_,_,_,_,_,_,_,_,_,_,_,_,_,_,_,_,_,_,_,_,_,_,_,_,_,_,_,_,_,_,_,_,_,_,_]) rfl ?_
          refine swr_det (met_some rfl rfl (not_f (decide_eq_true (hfr.1.trans hF)))) (fun h_ H_ => exd_neq rfl rfl) rfl ?_
          refine swr_det (met_none rfl) (fun h_ H_ => exd_pick_f rfl (not_f (decide_eq_true (hfr.1.trans hF))) (v := .bool (decide ((((((pcB ts).getD k []).getD (((((pcB ts).getD k []).length : Nat) : Int) - 1).toNat 0).toNat : Nat) : Int) ≠ (LL.getD k pz).2))) rfl) (tm' := [_,_,_,_,_,_,_,_,_,_,_,_,_,_,_,_,_,_,_,_,_,_,_,_,_,_,_,_,_,_,_,_,_,_,_,_,_,_,_,_,_,_,_,_,_,_,_,_,_,_,_,_,_,_,_,_,_,_,_,_,_,_,_,_,_,_,_,_,_,_,_,_,_,_,_,_,_,_,_,_,_,_,_,_,_,_,_,_,_,_,_,_,_,_,_,_,_,_,_,_,_,_,_,_,_,_,_,_,_,_,_,_,_,_,_,_,_,_,_,_,_,_,_,_,_,_,_,_,_,_,_,_,_,_,_,_,_,_,_,_,_,_,_,_,_,_,_,_,_,_,_,_,_,_,_,_,_,_,_,_]) rfl ?_
          refine swr_det (met_none rfl) (fun h_ H_ => exd_move (v := .bool (decide ((((((pcB ts).getD k []).getD (((((pcB ts).getD k []).length : Nat) : Int) - 1).toNat 0).toNat : Nat) : Int) ≠ (LL.getD k pz).2))) rfl) rfl ?_
          refine swr_det (met_some rfl rfl (decide_eq_false (fun z_ => z_ hfr.2))) (fun h_ H_ => exd_move (v := .slice a6 ((pcB ts).length) cp7) rfl) (tm' := [_,_,_,_,_,_,_,_,_,_,_,_,_,_,_,_,_,_,_,_,_,_,_,_,_,_,_,_,_,_,_,_,_,_,_,_,_,_,_,_,_,_,_,_,_,_,_,_,_,_,_,_,_,_,_,_,_,_,_,_,_,_,_,_,_,_,_,_,_,_,_,_,_,_,_,_,_,_,_,_,_,_,_,_,_,_,_,_,_,_,_,_,_,_,_,_,_,_,_,_,_,_,_,_,_,_,_,_,_,_,_,_,_,_,_,_,_,_,_,_,_,_,_,_,_,_,_,_,_,_,_,_,_,_,_,_,_,_,_,_,_,_,_,_,_,_,_,_,_,_,_,_,_,_,_,_,_,_,_,_]) rfl ?_
          refine swr_det (met_some rfl rfl (decide_eq_false (fun z_ => z_ hfr.2))) (fun h_ H_ => exd_move (v := .int .i64 (((k : Nat) : Int))) rfl) rfl ?_
          refine swr_det (met_some rfl rfl (decide_eq_false (fun z_ => z_ hfr.2))) (fun h_ H_ => exd_slice Tryd.underlying22 tS9 rfl (.none _) (.nat (z := k) _ rfl) (by omega) (by omega)) (tm' := [_,_,_,_,_,_,_,_,_,_,_,_,_,_,_,_,_,_,_,_,_,_,_,_,_,_,_,_,_,_,_,_,_,_,_,_,_,_,_,_,_,_,_,_,_,_,_,_,_,_,_,_,_,_,_,_,_,_,_,_,_,_,_,_,_,_,_,_,_,_,_,_,_,_,_,_,_,_,_,_,_,_,_,_,_,_,_,_,_,_,_,_,_,_,_,_,_,_,_,_,_,_,_,_,_,_,_,_,_,_,_,_,_,_,_,_,_,_,_,_,_,_,_,_,_,_,_,_,_,_,_,_,_,_,_,_,_,_,_,_,_,_,_,_,_,_,_,_,_,_,_,_,_,_,_,_,_,_,_,_]) rfl ?_
          refine swr_det (met_some rfl rfl (decide_eq_false (fun z_ => z_ hfr.2))) (fun h_ H_ => exd_move (v := .slice a6 ((pcB ts).length) cp7) rfl) rfl ?_
          refine swr_det (met_some rfl rfl (decide_eq_false (fun z_ => z_ hfr.2))) (fun h_ H_ => exd_move (v := .int .i64 (((k : Nat) : Int))) rfl) (tm' := [_,_,_,_,_,_,_,_,_,_,_,_,_,_,_,_,_,_,_,_,_,_,_,_,_,_,_,_,_,_,_,_,_,_,_,_,_,_,_,_,_,_,_,_,_,_,_,_,_,_,_,_,_,_,_,_,_,_,_,_,_,_,_,_,_,_,_,_,_,_,_,_,_,_,_,_,_,_,_,_,_,_,_,_,_,_,_,_,_,_,_,_,_,_,_,_,_,_,_,_,_,_,_,_,_,_,_,_,_,_,_,_,_,_,_,_,_,_,_,_,_,_,_,_,_,_,_,_,_,_,_,_,_,_,_,_,_,_,_,_,_,_,_,_,_,_,_,_,_,_,_,_,_,_,_,_,_,_,_,_]) rfl ?_
          refine swr_det (met_some rfl rfl (decide_eq_false (fun z_ => z_ hfr.2))) (fun h_ H_ => exd_indexAddrN (i := k) Tryd.underlying22 tS9 (sl_ne a6 ((pcB ts).length) cp7 (((show Strs _ _ _ (pcB ts) from D9).mono le16).ne (by omega))) rfl (by omega)) rfl ?_
          refine swr_det (met_some rfl rfl (decide_eq_false (fun z_ => z_ hfr.2))) (fun h_ H_ => exd_load_per H_ tA9 rfl (v := sv ((pcB ts).getD k [])) (((show Strs _ _ _ (pcB ts) from D9).mono le16).get (by omega))) (tm' := [_,_,_,_,_,_,_,_,_,_,_,_,_,_,_,_,_,_,_,_,_,_,_,_,_,_,_,_,_,_,_,_,_,_,_,_,_,_,_,_,_,_,_,_,_,_,_,_,_,_,_,_,_,_,_,_,_,_,_,_,_,_,_,_,_,_,_,_,_,_,_,_,_,_,_,_,_,_,_,_,_,_,_,_,_,_,_,_,_,_,_,_,_,_,_,_,_,_,_,_,_,_,_,_,_,_,_,_,_,_,_,_,_,_,_,_,_,_,_,_,_,_,_,_,_,_,_,_,_,_,_,_,_,_,_,_,_,_,_,_,_,_,_,_,_,_,_,_,_,_,_,_,_,_,_,_,_,_,_,_]) rfl ?_
          refine swr_call (met_some rfl rfl (decide_eq_false (fun z_ => z_ hfr.2))) (first := []) (cap := []) rfl rfl fC43 (fun h_ H_ => (c43 _ _ (fun b_ o_ e_ => H_.per b_ o_ e_) (cutA a6 cp7 0 1) k _ ((pcB ts).take k) (Strs.pre ((show Strs _ _ _ (pcB ts) from D9).mono le16) (by omega) (by omega)) ((pcB ts).getD k []) (by omega)).mono fun v_ h2_ ⟨e_, k_⟩ => ⟨e_, H_.call k_⟩) rfl ?_
          refine swr_det (met_some rfl rfl (decide_eq_false (fun z_ => z_ hfr.2))) (fun h_ H_ => exd_geq rfl rfl) (tm' := [_,_,_,_,_,_,_,_,_,_,_,_,_,_,_,_,_,_,_,_,_,_,_,_,_,_,_,_,_,_,_,_,_,_,_,_,_,_,_,_,_,_,_,_,_,_,_,_,_,_,_,_,_,_,_,_,_,_,_,_,_,_,_,_,_,_,_,_,_,_,_,_,_,_,_,_,_,_,_,_,_,_,_,_,_,_,_,_,_,_,_,_,_,_,_,_,_,_,_,_,_,_,_,_,_,_,_,_,_,_,_,_,_,_,_,_,_,_,_,_,_,_,_,_,_,_,_,_,_,_,_,_,_,_,_,_,_,_,_,_,_,_,_,_,_,_,_,_,_,_,_,_,_,_,_,_,_,_,_,_]) rfl ?_
          refine swr_det (met_none rfl) (fun h_ H_ => exd_pick_f rfl (decide_eq_false (fun z_ => z_ hfr.2)) (v := .bool (decide (0 ≤ fndT ((pcB ts).take k) ((pcB ts).getD k [])))) rfl) rfl ?_
          refine swr_det (met_none rfl) (fun h_ H_ => exd_move (v := .bool (decide (0 ≤ fndT ((pcB ts).take k) ((pcB ts).getD k [])))) rfl) (tm' := [_,_,_,_,_,_,_,_,_,_,_,_,_,_,_,_,_,_,_,_,_,_,_,_,_,_,_,_,_,_,_,_,_,_,_,_,_,_,_,_,_,_,_,_,_,_,_,_,_,_,_,_,_,_,_,_,_,_,_,_,_,_,_,_,_,_,_,_,_,_,_,_,_,_,_,_,_,_,_,_,_,_,_,_,_,_,_,_,_,_,_,_,_,_,_,_,_,_,_,_,_,_,_,_,_,_,_,_,_,_,_,_,_,_,_,_,_,_,_,_,_,_,_,_,_,_,_,_,_,_,_,_,_,_,_,_,_,_,_,_,_,_,_,_,_,_,_,_,_,_,_,_,_,_,_,_,_,_,_,_]) rfl ?_
          refine swr_det (met_some rfl rfl (decide_eq_false (fnd_ge (F.new k hkL ‹_›)))) (fun h_ H_ => exd_move (v := .slice a6 ((pcB ts).length) cp7) rfl) rfl ?_
          refine swr_det (met_some rfl rfl (decide_eq_false (fnd_ge (F.new k hkL ‹_›)))) (fun h_ H_ => exd_move (v := .int .i64 (((k : Nat) : Int))) rfl) (tm' := [_,_,_,_,_,_,_,_,_,_,_,_,_,_,_,_,_,_,_,_,_,_,_,_,_,_,_,_,_,_,_,_,_,_,_,_,_,_,_,_,_,_,_,_,_,_,_,_,_,_,_,_,_,_,_,_,_,_,_,_,_,_,_,_,_,_,_,_,_,_,_,_,_,_,_,_,_,_,_,_,_,_,_,_,_,_,_,_,_,_,_,_,_,_,_,_,_,_,_,_,_,_,_,_,_,_,_,_,_,_,_,_,_,_,_,_,_,_,_,_,_,_,_,_,_,_,_,_,_,_,_,_,_,_,_,_,_,_,_,_,_,_,_,_,_,_,_,_,_,_,_,_,_,_,_,_,_,_,_,_]) rfl ?_
          refine swr_det (met_some rfl rfl (decide_eq_false (fnd_ge (F.new k hkL ‹_›)))) (fun h_ H_ => exd_indexAddrN (i := k) Tryd.underlying22 tS9 (sl_ne a6 ((pcB ts).length) cp7 (((show Strs _ _ _ (pcB ts) from D9).mono le16).ne (by omega))) rfl (by omega)) rfl ?_
          refine swr_det (met_some rfl rfl (decide_eq_false (fnd_ge (F.new k hkL ‹_›)))) (fun h_ H_ => exd_load_per H_ tA9 rfl (v := sv ((pcB ts).getD k [])) (((show Strs _ _ _ (pcB ts) from D9).mono le16).get (by omega))) (tm' := [_,_,_,_,_,_,_,_,_,_,_,_,_,_,_,_,_,_,_,_,_,_,_,_,_,_,_,_,_,_,_,_,_,_,_,_,_,_,_,_,_,_,_,_,_,_,_,_,_,_,_,_,_,_,_,_,_,_,_,_,_,_,_,_,_,_,_,_,_,_,_,_,_,_,_,_,_,_,_,_,_,_,_,_,_,_,_,_,_,_,_,_,_,_,_,_,_,_,_,_,_,_,_,_,_,_,_,_,_,_,_,_,_,_,_,_,_,_,_,_,_,_,_,_,_,_,_,_,_,_,_,_,_,_,_,_,_,_,_,_,_,_,_,_,_,_,_,_,_,_,_,_,_,_,_,_,_,_,_,_]) rfl ?_
          refine swr_det (met_some rfl rfl (decide_eq_false (fnd_ge (F.new k hkL ‹_›)))) (fun h_ H_ => exd_lenS (l := (pcB ts).getD k []) Tryd.underlying9 rfl) rfl ?_
          refine swr_det (met_some rfl rfl (decide_eq_false (fnd_ge (F.new k hkL ‹_›)))) (fun h_ H_ => exd_move (v := .int .i64 (((k : Nat) : Int))) rfl) (tm' := [_,_,_,_,_,_,_,_,_,_,_,_,_,_,_,_,_,_,_,_,_,_,_,_,_,_,_,_,_,_,_,_,_,_,_,_,_,_,_,_,_,_,_,_,_,_,_,_,_,_,_,_,_,_,_,_,_,_,_,_,_,_,_,_,_,_,_,_,_,_,_,_,_,_,_,_,_,_,_,_,_,_,_,_,_,_,_,_,_,_,_,_,_,_,_,_,_,_,_,_,_,_,_,_,_,_,_,_,_,_,_,_,_,_,_,_,_,_,_,_,_,_,_,_,_,_,_,_,_,_,_,_,_,_,_,_,_,_,_,_,_,_,_,_,_,_,_,_,_,_,_,_,_,_,_,_,_,_,_,_]) rfl ?_
          refine swr_det (met_some rfl rfl (decide_eq_false (fnd_ge (F.new k hkL ‹_›)))) (fun h_ H_ => exd_add rfl rfl (n := ((k + 1 : Nat) : Int)) (wr (by omega))) rfl ?_
          refine swr_nil rfl ?_
          refine rl_det (met_some rfl rfl (decide_eq_false (fnd_ge (F.new k hkL ‹_›)))) (fun h_ H_ => exd_gtr rfl rfl) rfl ?_
          refine rl_det (met_none rfl) (fun h_ H_ => exd_pick_f rfl (decide_eq_false (fnd_ge (F.new k hkL ‹_›))) (v := .bool (decide (((k + 1 : Nat) : Int) < ((((pcB ts).getD k []).length : Nat) : Int)))) rfl) rfl ?_
          refine rl_end ?_
          refine fl_else rfl (decide_eq_false (by have z_ := F.short k hkL; omega)) ?_
          refine fl_skip ?_
          refine fl_inBlock ?_
          refine rl_start ?_
          refine rl_det (met_none rfl) (fun h_ H_ => exd_move (v := .int .i64 (((k : Nat) : Int))) rfl) (tm' := _::_::_::_::_::_::_::_::_::_::_::_::_::_::_::_::_::_::_::_::_::_::_::_::_::_::_::_::_::_::_::_::_::_::_::_::_::_::_::_::_::_::_::_::_::_::_::_::_::_::_::_::_::_::_::_::_::_::_::_) rfl ?_
          refine rl_det (met_none rfl) (fun h_ H_ => exd_add rfl rfl (n := ((k + 1 : Nat) : Int)) (wr (by omega))) rfl ?_
          refine rl_det (met_none rfl) (fun h_ H_ => exd_assign (v := .int .i64 (((k + 1 : Nat) : Int))) rfl) rfl ?_
          refine rl_end ?_
          exact fun h_ H_ => IH19 _ _ (by omega) h_ ⟨k + 1, rfl, (y_of rfl), (by omega), H_⟩
    · refine fl_else rfl (decide_eq_false cc20) ?_
      refine fl_exit rfl ?_
      refine fl_seq ?_
      refine rl_start ?_
      refine rl_calld (met_none rfl) (first := []) (cap := []) rfl rfl fC16 (fun h_ H_ => c16 _ (htab.keep H_.kept)) (tm' := [_,_,_,_,_,_,_,_,_,_,_,_,_,_,_,_,_,_,_,_,_,_,_,_,_,_,_,_,_,_,_,_,_,_,_,_,_,_,_,_,_,_,_,_,_,_,_,_,_,_,_,_,_,_,_,_,_,_,_,_,_,_,_,_,_,_,_,_,_,_,_,_,_,_,_,_,_,_,_,_,_,_,_,_,_,_,_,_,_,_,_,_,_,_,_,_,_,_,_,_,_,_,_,_,_,_,_,_,_,_,_,_,_,_,_,_,_,_,_,_,_,_,_,_,_,_,_,_,_,_,_,_,_,_,_,_,_,_,_,_,_,_,_,_,_,_,_,_,_,_,_,_,_,_,_,_,_,_,_,_]) rfl ?_
      refine rl_det (met_none rfl) (fun h_ H_ => exd_assign (v := .bool (true)) rfl) rfl ?_
      refine rl_end ?_
      refine fl_retL Tryd.func11 rfl (vs := [.bool (true)]) (fun h_ H_ => ⟨.bool (true), _, rfl, rfl, rfl⟩) (v := .bool (true)) rfl ?_
      exact fun h_ H_ => ⟨rfl, H_.kept⟩
  · refine fl_then rfl (not_t (decide_eq_false cc1)) ?_
    refine fl_seq ?_
    refine rl_start ?_
    refine rl_calld (met_none rfl) (first := []) (cap := []) rfl rfl fC16 (fun h_ H_ => c16 _ (htab.keep H_.kept)) rfl ?_
    refine rl_det (met_none rfl) (fun h_ H_ => exd_assign (v := .bool (true)) rfl) (tm' := _::_::_::_) rfl ?_
    refine rl_end ?_
    refine fl_retL Tryd.func11 rfl (vs := [.bool (true)]) (fun h_ H_ => ⟨.bool (true), _, rfl, rfl, rfl⟩) (v := .bool (true)) rfl ?_
    exact fun h_ H_ => ⟨rfl, H_.kept⟩
end Go.Proofs.YtiinpnlfdeiloaaDoor
namespace Go.Proofs.YtiinpnlfdeiloaaDoor
open Go.X Go.X.Cent Go.Conc Go.RowKit Go.ChangeShapes Go.WideShapes Go.ChangeAt Go.Joins
set_option maxRecDepth 100000

theorem lifted11 (os : Os) (started : os.Started) (H : Type) (enc : TypeId × Value → H) :
    ReturnsInHanded {} Tryd.checked os 11 .any (fun w args => (Rows.centuryPiecesSpec.pre enc Tryd.prog Tryd.f11 Rows.centuryPiecesRow.domain false w args ∧ laidMetH Tryd.prog Rows.centuryPiecesRow.laid w) ∧ sizedMet enc Tryd.prog Tryd.f11 (OpenSpec.ofChange Rows.centuryPiecesSpec) false w args) (Rows.centuryPiecesSpec.post enc Tryd.prog Tryd.f11 false true false false) := by
  refine returnsInHanded_of_change_and (C := Tryd.checked) (X := fun w _ => laidMetH Tryd.prog Rows.centuryPiecesRow.laid w) (fun _ _ _ hh h => h.of_heap hh) pOwn started (by kernel_rfl) Tryd.func11
    (ChangeSpec.witness_shaped (enc := enc) (C := Tryd.checked) (os := os) (X := fun w _ => laidMetH Tryd.prog Rows.centuryPiecesRow.laid w) false (laidW os) #[.slice none 0 0] 8 (World.laidAll_os _ _ _)
      (World.shaped_of_ZipB (by kernel_rfl) (by kernel_rfl)) (by kernel_rfl) (by kernel_rfl) (by kernel_rfl) (laidW_met os _)) ?_
  intro W base args ds gs before hval0 hW _ _ hL _
  have hval : ∀ (j : Nat) t v, Tryd.f11.params[j]? = some t → args[j]? = some v → Value.okWide Tryd.prog W .any base t v := hval0
  have hW2 := hW
  obtain ⟨p, q, hA0, hV, rfl, _, _⟩ := hW2
  have hA : DataW.TrodAll enc Tryd.prog W 0 (fun _ => true) true Tryd.f11.params.toList args.toList ds p := hA0
  rw [Tryd.params11] at hA hval
  obtain ⟨v0, d0, rfl, rfl, h0⟩ := trodAll_one hA
  obtain ⟨rfl, rfl⟩ := trodVars_none hV
  obtain ⟨a, n, c, ts, rfl, hn, T⟩ := open_texts (hval 0 22 v0 rfl rfl) h0
  refine (calls_of_enters (e11 W.heap (pW W) (pW_per W) (tab_of_laid hL) a n c ts T hn)).mono fun e W2 ⟨v, he, ⟨hv, hk_⟩, cl⟩ => ⟨v, he, ?_⟩
  subst hv
  exact law_post pLaid rfl (fun t ht => by rw [Tryd.params11] at ht; revert t; decide +kernel) rfl Tryd.underlying4 hW rfl (below_of hk_ cl)

theorem centuryPiecesRowHolds : Rows.CenturyPiecesSaid :=
  OpenClaim.holds_of_wide 11 Tryd.f11 rfl rfl rfl rfl rfl rfl rfl ⟨rfl, rfl, rfl, rfl, rfl⟩ rfl rfl rfl rfl rfl (by kernel_rfl) Tryd.func11 (by kernel_rfl)
    (of_decide_eq_true (by kernel_rfl)) (by unfold Func.isWrapper; first | (rw [if_pos (by decide +kernel)]; kernel_rfl) | (rw [if_neg (by decide +kernel)]; exact ⟨rfl, rfl⟩))
    (fun os started H enc _ => lifted11 os started H enc)

theorem centuryPiecesHolds : Rows.CenturyPiecesCardSaid :=
  Claim7.holds_tied_plain_at .later [] [.data, .data, .data, .data, .pinned] true (true, "d19a88c3556340bf03c70abcf51311f6c04bc6278884da2732a7a561c1b64cb8") false centuryPiecesRowHolds (fun _ h => by cases h) (by kernel_rfl) (fun _ h => by cases h) centuryPieces_row_tie rfl ⟨rfl, rfl⟩ (by kernel_rfl) rfl
    (fun f fn hf hfn => by
      obtain rfl : f = 11 := Option.some.inj ((show Tryd.prog.funcNamed "steening/steeninglaw14.CenturyPieces" = some 11 by kernel_rfl).symm.trans hf) |>.symm
      obtain rfl : fn = Tryd.f11 := (Option.some.inj (Tryd.func11.symm.trans hfn)).symm
      exact ⟨by kernel_rfl, fun j t ht => by
        rw [Tryd.params11] at ht
        have hm : t ∈ [22] := by simpa using Array.mem_of_getElem? ht
        have hall : ([22].all fun u => !Tryd.prog.wantsStandIn u) = true := by kernel_rfl
        exact (show Tryd.prog.wantsStandIn t = false by simpa using List.all_eq_true.1 hall t hm)⟩)
    (by kernel_rfl)

#print axioms centuryPiecesHolds
end Go.Proofs.YtiinpnlfdeiloaaDoor
