/-
  CisternsDry, for every input: the law returns true and leaves its arguments as they were. No condition.
-/
import Derived.Test.YtbmkacnlhlbnjaaLaw13P1
import Derived.Test.YtbmkacnlhlbnjaaC3x
namespace Go.Proofs.Ytbmkacnlhlbnjaa
open Go.X Go.X.Cist Go.Conc
set_option maxRecDepth 10000

theorem c77w (md : Md) (h : Heap) (p : PHeap) (hp : Per p h) (size start : Int) (a : Option Addr) (n c : Nat) (ds : List Day) (D : Days p a n ds) (hn : n ≤ 8) (hL : Lok size start ds) (hc : (wea ds).length ≤ 60) : CallsX Try.prog md 77 #[.agg #[.int .i64 (size), .int .i64 (start), .slice a n c]] h fun v h' => ∃ w es X Z, v = w ∧ OwnS 30 3 w es X ∧ InnS p n (yFL size start ds n) (yFK size start ds n) (yFO size start ds n) es (wea ds).length Z ∧ es.length = (wea ds).length ∧ New h h' (X ++ (Z ++ [])) :=
  (c77 md h p hp size start a n c ds D hn hL hc).mono fun v _ ⟨es, X, Z, o, i, el, N⟩ => ⟨v, es, X, Z, rfl, o, i, el, N⟩
theorem c42 (md : Md) (h : Heap) (p : PHeap) (hp : Per p h) (size start : Int) (a : Option Addr) (n c : Nat) (ds : List Day) (D : Days p a n ds) (hn : n ≤ 40) (hc0 : Ok size start ds → (wea ds).length ≤ 60) (day : Int) : CallsX Try.prog md 42 #[.agg #[.int .i64 (size), .int .i64 (start), .slice a n c], .int .i64 (day)] h fun v h' => v = .tuple #[.agg #[.int .i64 (lackR size start ds day).1.1, .int .i64 (lackR size start ds day).1.2], .int .i64 (lackR size start ds day).2] ∧ Keep h h' := by
  refine calls_intro (Φ := fun h_ => St h [] p h_ []) Try.func42 rfl (tm := [_, _, _, _, _, _, _, _, _, _, _, _, _, _, _, _, _, _, _, _, _, _, _, _, _, _, _, _, _, _, _, _, _, _, _, _, _, _, _, _, _, _, _, _, _, _, _, _, _, _, _, _, _]) rfl ?_ (St.start h _ hp)
  intro c₀ cs Stop K
  have hl := D.len
  refine fl_seq ?_
  refine rl_start ?_
  refine rl_box (met_none rfl) (v := .agg #[.int .i64 (size), .int .i64 (start), .slice a n c]) rfl fun b1 => rl_own (L' := [(b1, .cells #[.int .i64 (size), .int .i64 (start), .slice a n c] 24 (0, 0))]) rfl ?_
  refine rl_alloc (met_none rfl) tZ36 rfl fun b2 => rl_own (L' := [(b2, .cells #[.int .i64 0, .int .i64 0] 36 (0, 0)), (b1, .cells #[.int .i64 (size), .int .i64 (start), .slice a n c] 24 (0, 0))]) rfl ?_
  refine rl_norm (tm' := _::_::_::_::_::_) rfl ?_
  refine rl_det (met_none rfl) (fun h_ H_ => exd_assign (v := .int .i64 0) rfl) rfl ?_
  refine rl_end ?_
  refine fl_seq ?_
  refine fl_seq ?_
  refine fl_drawn2 4 [[], [], [], [1, 2], [], []] mixed (by kernel_rfl) (Nat.le_of_ble_eq_true rfl) ?_
  refine swr_det (met_none rfl) (fun h_ H_ => exd_loadN_own H_ tA24 tS24 rfl (i := 1) rfl (vs := [.int .i64 (size), .int .i64 (start), .slice a n c]) rfl rfl) (tm' := _::_::_::_::_::_::_::_::_::_::_::_) rfl ?_
  refine swr_det (met_none rfl) (fun h_ H_ => exd_loadN_own H_ tA24 tS24 rfl (i := 1) rfl (vs := [.int .i64 (size), .int .i64 (start), .slice a n c]) rfl rfl) rfl ?_
  refine swr_det (met_none rfl) (fun h_ H_ => exd_move (v := .int .i64 (day)) rfl) (tm' := _::_::_::_::_::_::_::_::_::_::_::_::_::_) rfl ?_
  refine swr_call (met_none rfl) (first := []) (cap := []) rfl rfl fC26 (fun h_ H_ => (c26 md _ _ (fun b_ o_ e_ => H_.per b_ o_ e_) (size) (start) _ _ _ _ D (by omega) day).mono fun v_ h2_ ⟨e_, k_⟩ => ⟨e_, H_.call k_⟩) rfl ?_
  refine swr_nil rfl ?_
  refine rl_calld (met_none rfl) (first := []) (cap := []) rfl rfl fC74 (fun h_ H_ => c74 md _ _ (fun b_ o_ e_ => H_.per b_ o_ e_) (size) (start) _ _ _ _ D (by omega) (decide (IsDay ds day))) (tm' := _::_::_::_::_::_::_::_::_::_::_::_::_::_::_::_) rfl ?_
  refine rl_det (met_none rfl) (fun h_ H_ => exd_assign (v := .int .i64 (askd (size) (start) ds (decide (IsDay ds day)))) rfl) rfl ?_
  refine rl_end ?_
  refine fl_seq ?_
  refine rl_start ?_
  refine rl_det (met_none rfl) (fun h_ H_ => exd_move (v := .int .i64 (askd (size) (start) ds (decide (IsDay ds day)))) rfl) rfl ?_
  refine rl_det (met_none rfl) (fun h_ H_ => exd_neq rfl rfl) (tm' := _::_::_::_::_::_::_::_::_::_::_::_::_::_::_::_::_::_) rfl ?_
  refine rl_end ?_
  by_cases cc3 : askd (size) (start) ds (decide (IsDay ds day)) ≠ 0
  · refine fl_then rfl (decide_eq_true cc3) ?_
    refine fl_seq ?_
    refine rl_start ?_
    refine rl_det (met_none rfl) (fun h_ H_ => exd_build tZ36 tP36 (vs := []) rfl (cells := #[.int .i64 0, .int .i64 0]) rfl) rfl ?_
    refine rl_det (met_none rfl) (fun h_ H_ => exd_move (v := .int .i64 (askd (size) (start) ds (decide (IsDay ds day)))) rfl) rfl ?_
    refine rl_store (met_none rfl) tS36 rfl (v := .agg #[.int .i64 0, .int .i64 0]) rfl (i := 0) rfl rfl rfl (Nat.le_of_ble_eq_true rfl) (cs2 := [.int .i64 0, .int .i64 0]) rfl (rl_own (L' := [(b2, .cells #[.int .i64 0, .int .i64 0] 36 (0, 0)), (b1, .cells #[.int .i64 (size), .int .i64 (start), .slice a n c] 24 (0, 0))]) rfl ?_)
    refine rl_det (met_none rfl) (fun h_ H_ => exd_assign (v := .int .i64 (askd (size) (start) ds (decide (IsDay ds day)))) rfl) (tm' := _::_::_::_::_::_::_) rfl ?_
    refine rl_end ?_
    refine fl_ret Try.func42 rfl (vs := [.agg #[.int .i64 0, .int .i64 0], .int .i64 (askd (size) (start) ds (decide (IsDay ds day)))]) (fun h_ H_ => ⟨.agg #[.int .i64 0, .int .i64 0], _, rfl, (wpS_bind (wpS_pure (wpS_loadVarN tA36 tS36 (vs := [.int .i64 0, .int .i64 0]) rfl (fun j_ v_ e_ => by rw [add_mk]; exact H_.ocell (i := 0) rfl (by simpa using e_)) ⟨rfl, rfl⟩))), ⟨.int .i64 (askd (size) (start) ds (decide (IsDay ds day))), _, rfl, rfl, rfl⟩⟩) (v := .tuple #[.agg #[.int .i64 0, .int .i64 0], .int .i64 (askd (size) (start) ds (decide (IsDay ds day)))]) rfl ?_
    exact fun h_ H_ => K _ _ ⟨by unfold lackR; rw [if_neg ‹_›], H_.kept⟩
  · refine fl_else rfl (decide_eq_false cc3) ?_
    refine fl_skip ?_
    refine fl_seq ?_
    have h0 : askd size start ds (decide (IsDay ds day)) = 0 := by omega
    have hOk : Ok size start ds := (askd_zero.1 h0).1
    have hL := hOk.lok
    have hd := hOk.dok
    have h8 := hOk.2.2.2.2.1
    have hc := hc0 hOk
    have hpos := wea_pos hd
    have hday : IsDay ds day := of_decide_eq_true (askd_zero.1 h0).2
    have hd0 := hday.1; have hd1 := hday.2
    refine rl_start ?_
    refine rl_det (met_none rfl) (fun h_ H_ => exd_loadN_own H_ tA24 tS24 rfl (i := 1) rfl (vs := [.int .i64 (size), .int .i64 (start), .slice a n c]) rfl rfl) rfl ?_
    refine rl_own (L' := ([(b2, .cells #[.int .i64 0, .int .i64 0] 36 (0, 0)), (b1, .cells #[.int .i64 (size), .int .i64 (start), .slice a n c] 24 (0, 0))] : Pcs) ++ []) rfl ?_
    refine rl_call (met_none rfl) (first := []) (cap := []) rfl rfl fC77 (R := fun v_ h_ => ∃ w10 : Value, ∃ es4 : List (List Value), ∃ X5 : Pcs, ∃ Z6 : Pcs, v_ = w10 ∧ (OwnS 30 3 w10 es4 X5) ∧ (InnS p n (yFL size start ds n) (yFK size start ds n) (yFO size start ds n) es4 (wea ds).length Z6) ∧ (es4.length = (wea ds).length) ∧ St h [] p h_ (([(b2, .cells #[.int .i64 0, .int .i64 0] 36 (0, 0)), (b1, .cells #[.int .i64 (size), .int .i64 (start), .slice a n c] 24 (0, 0))] : Pcs) ++ ((X5 ++ (Z6 ++ [])) ++ []))) (fun h_ H_ => (c77w md _ _ (fun b_ o_ e_ => H_.per b_ o_ e_) (size) (start) _ _ _ _ D (by omega) hL hc).mono fun v_ h2_ ⟨w10, es4, X5, Z6, e_, o7, i8, el9, N_⟩ => ⟨w10, es4, X5, Z6, e_, o7, i8, el9, H_.callNA N_⟩) fun v_ => ?_
    refine rl_ex fun w10 => rl_ex fun es4 => rl_ex fun X5 => rl_ex fun Z6 => rl_and fun ev_ => rl_and fun o7 => rl_and fun i8 => rl_and fun el9 => ?_
    have ev_ := ev_.symm; subst ev_
    refine rl_own (L' := ([(b2, .cells #[.int .i64 0, .int .i64 0] 36 (0, 0)), (b1, .cells #[.int .i64 (size), .int .i64 (start), .slice a n c] 24 (0, 0))] : Pcs) ++ (X5 ++ (Z6 ++ []))) (by simp) ?_
    refine rl_det (met_none rfl) (fun h_ H_ => exd_assign (v := w10) rfl) (tm' := _::_::_::_::_::_::_::_::_) rfl ?_
    refine rl_end ?_
    refine fl_seq ?_
    refine rs_perm (List.Perm.append_left _ (List.perm_append_comm_assoc _ _ _)) ?_
    refine rs_own (L' := ([(b2, .cells #[.int .i64 0, .int .i64 0] 36 (0, 0)), (b1, .cells #[.int .i64 (size), .int .i64 (start), .slice a n c] 24 (0, 0))] : Pcs) ++ (Z6 ++ (X5 ++ []))) rfl ?_
    refine rs_lastX (A := ([(b2, .cells #[.int .i64 0, .int .i64 0] 36 (0, 0)), (b1, .cells #[.int .i64 (size), .int .i64 (start), .slice a n c] 24 (0, 0))] : Pcs)) (Z := Z6) fun p11 le12 hz13 => ?_
    refine rs_lastN (A := ([(b2, .cells #[.int .i64 0, .int .i64 0] 36 (0, 0)), (b1, .cells #[.int .i64 (size), .int .i64 (start), .slice a n c] 24 (0, 0))] : Pcs)) o7 el9 fun p21 a22 cp23 le24 ev_ D25 => ?_
    subst ev_
    refine rs_own (L' := [(b2, .cells #[.int .i64 0, .int .i64 0] 36 (0, 0)), (b1, .cells #[.int .i64 (size), .int .i64 (start), .slice a n c] 24 (0, 0))]) rfl ?_
    obtain ⟨A15, C16, A17, C18, A19, C20, T14⟩ := (i8 _ (le12.trans le24) (fun x_ hx_ => le24 _ _ (hz13 x_ hx_))).tab D25
    obtain ⟨Gb28, hG15_⟩ := sk1 (fun (v_ : Value) (x_ : Pcs) (b28 : Nat) => v_ = .pointer (some ⟨b28, 0, none⟩) ∧ x_ = (([(b28, .cells #[.int .i64 0, .int .i64 0] 36 (0, 0))] : Pcs) ++ []))
    refine rs_as (fl_mixed2 (C := []) (A := ([(b2, .cells #[.int .i64 0, .int .i64 0] 36 (0, 0)), (b1, .cells #[.int .i64 (size), .int .i64 (start), .slice a n c] 24 (0, 0))] : Pcs)) 16 [] [] [15] [0, 1, 2, 3, 4, 5, 6, 7, 8, 9, 10, 11, 12, 13, 14] (fun _ => []) (fun _ => []) (fun i_ => match i_ with | 0 => [] | 1 => [0] | 2 => [1] | 3 => [2] | 4 => [] | 5 => [3, 4] | 6 => [5] | 7 => [] | 8 => [7] | 9 => [8] | 10 => [9] | 11 => [] | 12 => [10, 11] | 13 => [12] | 14 => [6, 13] | 15 => [] | _ => []) (fun i_ val_ pc_ v_ x_ => match i_ with | 0 => v_ = .slice a22 ((wea ds).length) cp23 ∧ x_ = [] | 1 => v_ = .pointer (some ((adr a22).add (0 * 3))) ∧ x_ = [] | 2 => v_ = .pointer (some (((adr a22).add (0 * 3)).add 1)) ∧ x_ = [] | 3 => v_ = .slice (A17 0) n (C18 0) ∧ x_ = [] | 4 => v_ = .int .i64 (day) ∧ x_ = [] | 5 => v_ = .pointer (some ((adr (A17 0)).add ((day).toNat * 1))) ∧ x_ = [] | 6 => v_ = .int .i64 ((yFK size start ds n 0).getD ((day).toNat) 0) ∧ x_ = [] | 7 => v_ = .slice a22 ((wea ds).length) cp23 ∧ x_ = [] | 8 => v_ = .pointer (some ((adr a22).add (0 * 3))) ∧ x_ = [] | 9 => v_ = .pointer (some (((adr a22).add (0 * 3)).add 1)) ∧ x_ = [] | 10 => v_ = .slice (A17 0) n (C18 0) ∧ x_ = [] | 11 => v_ = .int .i64 (day) ∧ x_ = [] | 12 => v_ = .pointer (some ((adr (A17 0)).add ((day).toNat * 1))) ∧ x_ = [] | 13 => v_ = .int .i64 ((yFK size start ds n 0).getD ((day).toNat) 0) ∧ x_ = [] | 14 => v_ = .agg #[.int .i64 ((yFK size start ds n 0).getD ((day).toNat) 0), .int .i64 ((yFK size start ds n 0).getD ((day).toNat) 0)] ∧ x_ = [] | 15 => ∃ b28 : Nat, v_ = .pointer (some ⟨b28, 0, none⟩) ∧ x_ = (([(b28, .cells #[.int .i64 0, .int .i64 0] 36 (0, 0))] : Pcs) ++ []) | _ => True) (fun val26 => [.agg #[.int .i64 (size), .int .i64 (start), .slice a n c], .int .i64 (day), .pointer (some ⟨b1, 0, none⟩), undef, .pointer (some ⟨b2, 0, none⟩), .int .i64 0, .int .i64 (askd (size) (start) ds (decide (IsDay ds day))), .slice a22 ((wea ds).length) cp23, (val26 15), undef, .agg #[.int .i64 (size), .int .i64 (start), .slice a n c], .agg #[.int .i64 (size), .int .i64 (start), .slice a n c], .int .i64 (day), .bool (decide (IsDay ds day)), .int .i64 (askd (size) (start) ds (decide (IsDay ds day))), .int .i64 (askd (size) (start) ds (decide (IsDay ds day))), .bool (decide (askd (size) (start) ds (decide (IsDay ds day)) ≠ 0)), undef, undef, .agg #[.int .i64 (size), .int .i64 (start), .slice a n c], .slice a22 ((wea ds).length) cp23, (val26 0), (val26 1), (val26 2), (val26 3), (val26 4), (val26 5), (val26 6), (val26 7), (val26 8), (val26 9), (val26 10), (val26 11), (val26 12), (val26 13), (val26 14), undef, undef, undef, undef, undef, undef, undef, undef, undef, undef, undef, undef, undef, undef, undef, undef, undef]) mixed (by kernel_rfl) (Nat.le_of_ble_eq_true rfl) (by kernel_rfl) (by kernel_rfl) (by kernel_rfl) (fun _ _ => ⟨fun _ _ h => h.2, ⟨fun _ _ h => h.2, ⟨fun _ _ h => h.2, ⟨fun _ _ h => h.2, ⟨fun _ _ h => h.2, ⟨fun _ _ h => h.2, ⟨fun _ _ h => h.2, ⟨fun _ _ h => h.2, ⟨fun _ _ h => h.2, ⟨fun _ _ h => h.2, ⟨fun _ _ h => h.2, ⟨fun _ _ h => h.2, ⟨fun _ _ h => h.2, ⟨fun _ _ h => h.2, ⟨fun _ _ h => h.2, trivial⟩⟩⟩⟩⟩⟩⟩⟩⟩⟩⟩⟩⟩⟩⟩) (fun _ => by kernel_rfl) (by kernel_rfl) ?_ ?_) (fun h_ H_ => St.swap (A := ([(b2, .cells #[.int .i64 0, .int .i64 0] 36 (0, 0)), (b1, .cells #[.int .i64 (size), .int .i64 (start), .slice a n c] 24 (0, 0))] : Pcs)) (U := []) H_)
    · refine mixes_cons rfl (opmix2 ?_) ?_
      · intro val26 pc27 hQ_ hX_
        have hq_ : ∀ v_ x_, (v_ = .slice a22 ((wea ds).length) cp23 ∧ x_ = []) → Qr (fun i_ => match i_ with | 0 => [] | 1 => [0] | 2 => [1] | 3 => [2] | 4 => [] | 5 => [3, 4] | 6 => [5] | 7 => [] | 8 => [7] | 9 => [8] | 10 => [9] | 11 => [] | 12 => [10, 11] | 13 => [12] | 14 => [6, 13] | 15 => [] | _ => []) (fun i_ val_ pc_ v_ x_ => match i_ with | 0 => v_ = .slice a22 ((wea ds).length) cp23 ∧ x_ = [] | 1 => v_ = .pointer (some ((adr a22).add (0 * 3))) ∧ x_ = [] | 2 => v_ = .pointer (some (((adr a22).add (0 * 3)).add 1)) ∧ x_ = [] | 3 => v_ = .slice (A17 0) n (C18 0) ∧ x_ = [] | 4 => v_ = .int .i64 (day) ∧ x_ = [] | 5 => v_ = .pointer (some ((adr (A17 0)).add ((day).toNat * 1))) ∧ x_ = [] | 6 => v_ = .int .i64 ((yFK size start ds n 0).getD ((day).toNat) 0) ∧ x_ = [] | 7 => v_ = .slice a22 ((wea ds).length) cp23 ∧ x_ = [] | 8 => v_ = .pointer (some ((adr a22).add (0 * 3))) ∧ x_ = [] | 9 => v_ = .pointer (some (((adr a22).add (0 * 3)).add 1)) ∧ x_ = [] | 10 => v_ = .slice (A17 0) n (C18 0) ∧ x_ = [] | 11 => v_ = .int .i64 (day) ∧ x_ = [] | 12 => v_ = .pointer (some ((adr (A17 0)).add ((day).toNat * 1))) ∧ x_ = [] | 13 => v_ = .int .i64 ((yFK size start ds n 0).getD ((day).toNat) 0) ∧ x_ = [] | 14 => v_ = .agg #[.int .i64 ((yFK size start ds n 0).getD ((day).toNat) 0), .int .i64 ((yFK size start ds n 0).getD ((day).toNat) 0)] ∧ x_ = [] | 15 => ∃ b28 : Nat, v_ = .pointer (some ⟨b28, 0, none⟩) ∧ x_ = (([(b28, .cells #[.int .i64 0, .int .i64 0] 36 (0, 0))] : Pcs) ++ []) | _ => True) val26 pc27 0 v_ x_ := fun _ _ q_ => q_
        refine ⟨[.agg #[.int .i64 (size), .int .i64 (start), .slice a n c], .int .i64 (day), .pointer (some ⟨b1, 0, none⟩), undef, .pointer (some ⟨b2, 0, none⟩), .int .i64 0, .int .i64 (askd (size) (start) ds (decide (IsDay ds day))), .slice a22 ((wea ds).length) cp23, (val26 15), undef, .agg #[.int .i64 (size), .int .i64 (start), .slice a n c], .agg #[.int .i64 (size), .int .i64 (start), .slice a n c], .int .i64 (day), .bool (decide (IsDay ds day)), .int .i64 (askd (size) (start) ds (decide (IsDay ds day))), .int .i64 (askd (size) (start) ds (decide (IsDay ds day))), .bool (decide (askd (size) (start) ds (decide (IsDay ds day)) ≠ 0)), undef, undef, .agg #[.int .i64 (size), .int .i64 (start), .slice a n c], .slice a22 ((wea ds).length) cp23, (val26 0), (val26 1), (val26 2), (val26 3), (val26 4), (val26 5), (val26 6), (val26 7), (val26 8), (val26 9), (val26 10), (val26 11), (val26 12), (val26 13), (val26 14), undef, undef, undef, undef, undef, undef, undef, undef, undef, undef, undef, undef, undef, undef, undef, undef, undef], [], _, rfl, rfl, hq_, ?_⟩
        exact mix_det (met_none rfl) (fun _ h_ H_ => exd_move (v := .slice a22 ((wea ds).length) cp23) rfl) ⟨rfl, rfl⟩
      refine mixes_cons rfl (opmix2 ?_) ?_
      · intro val26 pc27 hQ_ hX_
        have e0_ : val26 0 = .slice a22 ((wea ds).length) cp23 := (hQ_ 0 rfl).1
        have hq_ : ∀ v_ x_, (v_ = .pointer (some ((adr a22).add (0 * 3))) ∧ x_ = []) → Qr (fun i_ => match i_ with | 0 => [] | 1 => [0] | 2 => [1] | 3 => [2] | 4 => [] | 5 => [3, 4] | 6 => [5] | 7 => [] | 8 => [7] | 9 => [8] | 10 => [9] | 11 => [] | 12 => [10, 11] | 13 => [12] | 14 => [6, 13] | 15 => [] | _ => []) (fun i_ val_ pc_ v_ x_ => match i_ with | 0 => v_ = .slice a22 ((wea ds).length) cp23 ∧ x_ = [] | 1 => v_ = .pointer (some ((adr a22).add (0 * 3))) ∧ x_ = [] | 2 => v_ = .pointer (some (((adr a22).add (0 * 3)).add 1)) ∧ x_ = [] | 3 => v_ = .slice (A17 0) n (C18 0) ∧ x_ = [] | 4 => v_ = .int .i64 (day) ∧ x_ = [] | 5 => v_ = .pointer (some ((adr (A17 0)).add ((day).toNat * 1))) ∧ x_ = [] | 6 => v_ = .int .i64 ((yFK size start ds n 0).getD ((day).toNat) 0) ∧ x_ = [] | 7 => v_ = .slice a22 ((wea ds).length) cp23 ∧ x_ = [] | 8 => v_ = .pointer (some ((adr a22).add (0 * 3))) ∧ x_ = [] | 9 => v_ = .pointer (some (((adr a22).add (0 * 3)).add 1)) ∧ x_ = [] | 10 => v_ = .slice (A17 0) n (C18 0) ∧ x_ = [] | 11 => v_ = .int .i64 (day) ∧ x_ = [] | 12 => v_ = .pointer (some ((adr (A17 0)).add ((day).toNat * 1))) ∧ x_ = [] | 13 => v_ = .int .i64 ((yFK size start ds n 0).getD ((day).toNat) 0) ∧ x_ = [] | 14 => v_ = .agg #[.int .i64 ((yFK size start ds n 0).getD ((day).toNat) 0), .int .i64 ((yFK size start ds n 0).getD ((day).toNat) 0)] ∧ x_ = [] | 15 => ∃ b28 : Nat, v_ = .pointer (some ⟨b28, 0, none⟩) ∧ x_ = (([(b28, .cells #[.int .i64 0, .int .i64 0] 36 (0, 0))] : Pcs) ++ []) | _ => True) val26 pc27 1 v_ x_ := fun _ _ q_ => q_
        refine ⟨[.agg #[.int .i64 (size), .int .i64 (start), .slice a n c], .int .i64 (day), .pointer (some ⟨b1, 0, none⟩), undef, .pointer (some ⟨b2, 0, none⟩), .int .i64 0, .int .i64 (askd (size) (start) ds (decide (IsDay ds day))), .slice a22 ((wea ds).length) cp23, (val26 15), undef, .agg #[.int .i64 (size), .int .i64 (start), .slice a n c], .agg #[.int .i64 (size), .int .i64 (start), .slice a n c], .int .i64 (day), .bool (decide (IsDay ds day)), .int .i64 (askd (size) (start) ds (decide (IsDay ds day))), .int .i64 (askd (size) (start) ds (decide (IsDay ds day))), .bool (decide (askd (size) (start) ds (decide (IsDay ds day)) ≠ 0)), undef, undef, .agg #[.int .i64 (size), .int .i64 (start), .slice a n c], .slice a22 ((wea ds).length) cp23, .slice a22 ((wea ds).length) cp23, (val26 1), (val26 2), (val26 3), (val26 4), (val26 5), (val26 6), (val26 7), (val26 8), (val26 9), (val26 10), (val26 11), (val26 12), (val26 13), (val26 14), undef, undef, undef, undef, undef, undef, undef, undef, undef, undef, undef, undef, undef, undef, undef, undef, undef], [], _, (by simp only [e0_]), rfl, hq_, ?_⟩
        exact mix_det (met_none rfl) (fun _ h_ H_ => exd_indexAddrN (i := 0) Try.underlying81 tS30 (sl_ne a22 ((wea ds).length) cp23 (T14.ne (by omega))) rfl (by omega)) ⟨rfl, rfl⟩
      refine mixes_cons rfl (opmix2 ?_) ?_
      · intro val26 pc27 hQ_ hX_
        have e1_ : val26 1 = .pointer (some ((adr a22).add (0 * 3))) := (hQ_ 1 rfl).1
        have hq_ : ∀ v_ x_, (v_ = .pointer (some (((adr a22).add (0 * 3)).add 1)) ∧ x_ = []) → Qr (fun i_ => match i_ with | 0 => [] | 1 => [0] | 2 => [1] | 3 => [2] | 4 => [] | 5 => [3, 4] | 6 => [5] | 7 => [] | 8 => [7] | 9 => [8] | 10 => [9] | 11 => [] | 12 => [10, 11] | 13 => [12] | 14 => [6, 13] | 15 => [] | _ => []) (fun i_ val_ pc_ v_ x_ => match i_ with | 0 => v_ = .slice a22 ((wea ds).length) cp23 ∧ x_ = [] | 1 => v_ = .pointer (some ((adr a22).add (0 * 3))) ∧ x_ = [] | 2 => v_ = .pointer (some (((adr a22).add (0 * 3)).add 1)) ∧ x_ = [] | 3 => v_ = .slice (A17 0) n (C18 0) ∧ x_ = [] | 4 => v_ = .int .i64 (day) ∧ x_ = [] | 5 => v_ = .pointer (some ((adr (A17 0)).add ((day).toNat * 1))) ∧ x_ = [] | 6 => v_ = .int .i64 ((yFK size start ds n 0).getD ((day).toNat) 0) ∧ x_ = [] | 7 => v_ = .slice a22 ((wea ds).length) cp23 ∧ x_ = [] | 8 => v_ = .pointer (some ((adr a22).add (0 * 3))) ∧ x_ = [] | 9 => v_ = .pointer (some (((adr a22).add (0 * 3)).add 1)) ∧ x_ = [] | 10 => v_ = .slice (A17 0) n (C18 0) ∧ x_ = [] | 11 => v_ = .int .i64 (day) ∧ x_ = [] | 12 => v_ = .pointer (some ((adr (A17 0)).add ((day).toNat * 1))) ∧ x_ = [] | 13 => v_ = .int .i64 ((yFK size start ds n 0).getD ((day).toNat) 0) ∧ x_ = [] | 14 => v_ = .agg #[.int .i64 ((yFK size start ds n 0).getD ((day).toNat) 0), .int .i64 ((yFK size start ds n 0).getD ((day).toNat) 0)] ∧ x_ = [] | 15 => ∃ b28 : Nat, v_ = .pointer (some ⟨b28, 0, none⟩) ∧ x_ = (([(b28, .cells #[.int .i64 0, .int .i64 0] 36 (0, 0))] : Pcs) ++ []) | _ => True) val26 pc27 2 v_ x_ := fun _ _ q_ => q_
        refine ⟨[.agg #[.int .i64 (size), .int .i64 (start), .slice a n c], .int .i64 (day), .pointer (some ⟨b1, 0, none⟩), undef, .pointer (some ⟨b2, 0, none⟩), .int .i64 0, .int .i64 (askd (size) (start) ds (decide (IsDay ds day))), .slice a22 ((wea ds).length) cp23, (val26 15), undef, .agg #[.int .i64 (size), .int .i64 (start), .slice a n c], .agg #[.int .i64 (size), .int .i64 (start), .slice a n c], .int .i64 (day), .bool (decide (IsDay ds day)), .int .i64 (askd (size) (start) ds (decide (IsDay ds day))), .int .i64 (askd (size) (start) ds (decide (IsDay ds day))), .bool (decide (askd (size) (start) ds (decide (IsDay ds day)) ≠ 0)), undef, undef, .agg #[.int .i64 (size), .int .i64 (start), .slice a n c], .slice a22 ((wea ds).length) cp23, (val26 0), .pointer (some ((adr a22).add (0 * 3))), (val26 2), (val26 3), (val26 4), (val26 5), (val26 6), (val26 7), (val26 8), (val26 9), (val26 10), (val26 11), (val26 12), (val26 13), (val26 14), undef, undef, undef, undef, undef, undef, undef, undef, undef, undef, undef, undef, undef, undef, undef, undef, undef], [], _, (by simp only [e1_]), rfl, hq_, ?_⟩
        exact mix_det (met_none rfl) (fun _ h_ H_ => exd_fieldAddr tF30_1 rfl (a' := ((adr a22).add (0 * 3)).add 1) rfl) ⟨rfl, rfl⟩
      refine mixes_cons rfl (opmix2 ?_) ?_
      · intro val26 pc27 hQ_ hX_
        have e2_ : val26 2 = .pointer (some (((adr a22).add (0 * 3)).add 1)) := (hQ_ 2 rfl).1
        have hq_ : ∀ v_ x_, (v_ = .slice (A17 0) n (C18 0) ∧ x_ = []) → Qr (fun i_ => match i_ with | 0 => [] | 1 => [0] | 2 => [1] | 3 => [2] | 4 => [] | 5 => [3, 4] | 6 => [5] | 7 => [] | 8 => [7] | 9 => [8] | 10 => [9] | 11 => [] | 12 => [10, 11] | 13 => [12] | 14 => [6, 13] | 15 => [] | _ => []) (fun i_ val_ pc_ v_ x_ => match i_ with | 0 => v_ = .slice a22 ((wea ds).length) cp23 ∧ x_ = [] | 1 => v_ = .pointer (some ((adr a22).add (0 * 3))) ∧ x_ = [] | 2 => v_ = .pointer (some (((adr a22).add (0 * 3)).add 1)) ∧ x_ = [] | 3 => v_ = .slice (A17 0) n (C18 0) ∧ x_ = [] | 4 => v_ = .int .i64 (day) ∧ x_ = [] | 5 => v_ = .pointer (some ((adr (A17 0)).add ((day).toNat * 1))) ∧ x_ = [] | 6 => v_ = .int .i64 ((yFK size start ds n 0).getD ((day).toNat) 0) ∧ x_ = [] | 7 => v_ = .slice a22 ((wea ds).length) cp23 ∧ x_ = [] | 8 => v_ = .pointer (some ((adr a22).add (0 * 3))) ∧ x_ = [] | 9 => v_ = .pointer (some (((adr a22).add (0 * 3)).add 1)) ∧ x_ = [] | 10 => v_ = .slice (A17 0) n (C18 0) ∧ x_ = [] | 11 => v_ = .int .i64 (day) ∧ x_ = [] | 12 => v_ = .pointer (some ((adr (A17 0)).add ((day).toNat * 1))) ∧ x_ = [] | 13 => v_ = .int .i64 ((yFK size start ds n 0).getD ((day).toNat) 0) ∧ x_ = [] | 14 => v_ = .agg #[.int .i64 ((yFK size start ds n 0).getD ((day).toNat) 0), .int .i64 ((yFK size start ds n 0).getD ((day).toNat) 0)] ∧ x_ = [] | 15 => ∃ b28 : Nat, v_ = .pointer (some ⟨b28, 0, none⟩) ∧ x_ = (([(b28, .cells #[.int .i64 0, .int .i64 0] 36 (0, 0))] : Pcs) ++ []) | _ => True) val26 pc27 3 v_ x_ := fun _ _ q_ => q_
        refine ⟨[.agg #[.int .i64 (size), .int .i64 (start), .slice a n c], .int .i64 (day), .pointer (some ⟨b1, 0, none⟩), undef, .pointer (some ⟨b2, 0, none⟩), .int .i64 0, .int .i64 (askd (size) (start) ds (decide (IsDay ds day))), .slice a22 ((wea ds).length) cp23, (val26 15), undef, .agg #[.int .i64 (size), .int .i64 (start), .slice a n c], .agg #[.int .i64 (size), .int .i64 (start), .slice a n c], .int .i64 (day), .bool (decide (IsDay ds day)), .int .i64 (askd (size) (start) ds (decide (IsDay ds day))), .int .i64 (askd (size) (start) ds (decide (IsDay ds day))), .bool (decide (askd (size) (start) ds (decide (IsDay ds day)) ≠ 0)), undef, undef, .agg #[.int .i64 (size), .int .i64 (start), .slice a n c], .slice a22 ((wea ds).length) cp23, (val26 0), (val26 1), .pointer (some (((adr a22).add (0 * 3)).add 1)), (val26 3), (val26 4), (val26 5), (val26 6), (val26 7), (val26 8), (val26 9), (val26 10), (val26 11), (val26 12), (val26 13), (val26 14), undef, undef, undef, undef, undef, undef, undef, undef, undef, undef, undef, undef, undef, undef, undef, undef, undef], [], _, (by simp only [e2_]), rfl, hq_, ?_⟩
        exact mix_det (met_none rfl) (fun _ h_ H_ => exd_load_per H_ tA25 rfl (v := .slice (A17 0) n (C18 0)) (T14.cell2 _ (by omega))) ⟨rfl, rfl⟩
      refine mixes_cons rfl (opmix2 ?_) ?_
      · intro val26 pc27 hQ_ hX_
        have hq_ : ∀ v_ x_, (v_ = .int .i64 (day) ∧ x_ = []) → Qr (fun i_ => match i_ with | 0 => [] | 1 => [0] | 2 => [1] | 3 => [2] | 4 => [] | 5 => [3, 4] | 6 => [5] | 7 => [] | 8 => [7] | 9 => [8] | 10 => [9] | 11 => [] | 12 => [10, 11] | 13 => [12] | 14 => [6, 13] | 15 => [] | _ => []) (fun i_ val_ pc_ v_ x_ => match i_ with | 0 => v_ = .slice a22 ((wea ds).length) cp23 ∧ x_ = [] | 1 => v_ = .pointer (some ((adr a22).add (0 * 3))) ∧ x_ = [] | 2 => v_ = .pointer (some (((adr a22).add (0 * 3)).add 1)) ∧ x_ = [] | 3 => v_ = .slice (A17 0) n (C18 0) ∧ x_ = [] | 4 => v_ = .int .i64 (day) ∧ x_ = [] | 5 => v_ = .pointer (some ((adr (A17 0)).add ((day).toNat * 1))) ∧ x_ = [] | 6 => v_ = .int .i64 ((yFK size start ds n 0).getD ((day).toNat) 0) ∧ x_ = [] | 7 => v_ = .slice a22 ((wea ds).length) cp23 ∧ x_ = [] | 8 => v_ = .pointer (some ((adr a22).add (0 * 3))) ∧ x_ = [] | 9 => v_ = .pointer (some (((adr a22).add (0 * 3)).add 1)) ∧ x_ = [] | 10 => v_ = .slice (A17 0) n (C18 0) ∧ x_ = [] | 11 => v_ = .int .i64 (day) ∧ x_ = [] | 12 => v_ = .pointer (some ((adr (A17 0)).add ((day).toNat * 1))) ∧ x_ = [] | 13 => v_ = .int .i64 ((yFK size start ds n 0).getD ((day).toNat) 0) ∧ x_ = [] | 14 => v_ = .agg #[.int .i64 ((yFK size start ds n 0).getD ((day).toNat) 0), .int .i64 ((yFK size start ds n 0).getD ((day).toNat) 0)] ∧ x_ = [] | 15 => ∃ b28 : Nat, v_ = .pointer (some ⟨b28, 0, none⟩) ∧ x_ = (([(b28, .cells #[.int .i64 0, .int .i64 0] 36 (0, 0))] : Pcs) ++ []) | _ => True) val26 pc27 4 v_ x_ := fun _ _ q_ => q_
        refine ⟨[.agg #[.int .i64 (size), .int .i64 (start), .slice a n c], .int .i64 (day), .pointer (some ⟨b1, 0, none⟩), undef, .pointer (some ⟨b2, 0, none⟩), .int .i64 0, .int .i64 (askd (size) (start) ds (decide (IsDay ds day))), .slice a22 ((wea ds).length) cp23, (val26 15), undef, .agg #[.int .i64 (size), .int .i64 (start), .slice a n c], .agg #[.int .i64 (size), .int .i64 (start), .slice a n c], .int .i64 (day), .bool (decide (IsDay ds day)), .int .i64 (askd (size) (start) ds (decide (IsDay ds day))), .int .i64 (askd (size) (start) ds (decide (IsDay ds day))), .bool (decide (askd (size) (start) ds (decide (IsDay ds day)) ≠ 0)), undef, undef, .agg #[.int .i64 (size), .int .i64 (start), .slice a n c], .slice a22 ((wea ds).length) cp23, (val26 0), (val26 1), (val26 2), (val26 3), (val26 4), (val26 5), (val26 6), (val26 7), (val26 8), (val26 9), (val26 10), (val26 11), (val26 12), (val26 13), (val26 14), undef, undef, undef, undef, undef, undef, undef, undef, undef, undef, undef, undef, undef, undef, undef, undef, undef], [], _, rfl, rfl, hq_, ?_⟩
        exact mix_det (met_none rfl) (fun _ h_ H_ => exd_move (v := .int .i64 (day)) rfl) ⟨rfl, rfl⟩
      refine mixes_cons rfl (opmix2 ?_) ?_
      · intro val26 pc27 hQ_ hX_
        have e3_ : val26 3 = .slice (A17 0) n (C18 0) := (hQ_ 3 rfl).1
        have e4_ : val26 4 = .int .i64 (day) := (hQ_ 4 rfl).1
        have hq_ : ∀ v_ x_, (v_ = .pointer (some ((adr (A17 0)).add ((day).toNat * 1))) ∧ x_ = []) → Qr (fun i_ => match i_ with | 0 => [] | 1 => [0] | 2 => [1] | 3 => [2] | 4 => [] | 5 => [3, 4] | 6 => [5] | 7 => [] | 8 => [7] | 9 => [8] | 10 => [9] | 11 => [] | 12 => [10, 11] | 13 => [12] | 14 => [6, 13] | 15 => [] | _ => []) (fun i_ val_ pc_ v_ x_ => match i_ with | 0 => v_ = .slice a22 ((wea ds).length) cp23 ∧ x_ = [] | 1 => v_ = .pointer (some ((adr a22).add (0 * 3))) ∧ x_ = [] | 2 => v_ = .pointer (some (((adr a22).add (0 * 3)).add 1)) ∧ x_ = [] | 3 => v_ = .slice (A17 0) n (C18 0) ∧ x_ = [] | 4 => v_ = .int .i64 (day) ∧ x_ = [] | 5 => v_ = .pointer (some ((adr (A17 0)).add ((day).toNat * 1))) ∧ x_ = [] | 6 => v_ = .int .i64 ((yFK size start ds n 0).getD ((day).toNat) 0) ∧ x_ = [] | 7 => v_ = .slice a22 ((wea ds).length) cp23 ∧ x_ = [] | 8 => v_ = .pointer (some ((adr a22).add (0 * 3))) ∧ x_ = [] | 9 => v_ = .pointer (some (((adr a22).add (0 * 3)).add 1)) ∧ x_ = [] | 10 => v_ = .slice (A17 0) n (C18 0) ∧ x_ = [] | 11 => v_ = .int .i64 (day) ∧ x_ = [] | 12 => v_ = .pointer (some ((adr (A17 0)).add ((day).toNat * 1))) ∧ x_ = [] | 13 => v_ = .int .i64 ((yFK size start ds n 0).getD ((day).toNat) 0) ∧ x_ = [] | 14 => v_ = .agg #[.int .i64 ((yFK size start ds n 0).getD ((day).toNat) 0), .int .i64 ((yFK size start ds n 0).getD ((day).toNat) 0)] ∧ x_ = [] | 15 => ∃ b28 : Nat, v_ = .pointer (some ⟨b28, 0, none⟩) ∧ x_ = (([(b28, .cells #[.int .i64 0, .int .i64 0] 36 (0, 0))] : Pcs) ++ []) | _ => True) val26 pc27 5 v_ x_ := fun _ _ q_ => q_
        refine ⟨[.agg #[.int .i64 (size), .int .i64 (start), .slice a n c], .int .i64 (day), .pointer (some ⟨b1, 0, none⟩), undef, .pointer (some ⟨b2, 0, none⟩), .int .i64 0, .int .i64 (askd (size) (start) ds (decide (IsDay ds day))), .slice a22 ((wea ds).length) cp23, (val26 15), undef, .agg #[.int .i64 (size), .int .i64 (start), .slice a n c], .agg #[.int .i64 (size), .int .i64 (start), .slice a n c], .int .i64 (day), .bool (decide (IsDay ds day)), .int .i64 (askd (size) (start) ds (decide (IsDay ds day))), .int .i64 (askd (size) (start) ds (decide (IsDay ds day))), .bool (decide (askd (size) (start) ds (decide (IsDay ds day)) ≠ 0)), undef, undef, .agg #[.int .i64 (size), .int .i64 (start), .slice a n c], .slice a22 ((wea ds).length) cp23, (val26 0), (val26 1), (val26 2), .slice (A17 0) n (C18 0), .int .i64 (day), (val26 5), (val26 6), (val26 7), (val26 8), (val26 9), (val26 10), (val26 11), (val26 12), (val26 13), (val26 14), undef, undef, undef, undef, undef, undef, undef, undef, undef, undef, undef, undef, undef, undef, undef, undef, undef], [], _, (by simp only [e3_, e4_]), rfl, hq_, ?_⟩
        exact mix_det (met_none rfl) (fun _ h_ H_ => exd_indexAddr Try.underlying25 tS3 (sl_ne (A17 0) n (C18 0) ((T14.ints2 _ (by omega)).ne (by omega))) rfl (by omega) (by omega) (a' := (adr (A17 0)).add ((day).toNat * 1)) rfl) ⟨rfl, rfl⟩
      refine mixes_cons rfl (opmix2 ?_) ?_
      · intro val26 pc27 hQ_ hX_
        have e5_ : val26 5 = .pointer (some ((adr (A17 0)).add ((day).toNat * 1))) := (hQ_ 5 rfl).1
        have hq_ : ∀ v_ x_, (v_ = .int .i64 ((yFK size start ds n 0).getD ((day).toNat) 0) ∧ x_ = []) → Qr (fun i_ => match i_ with | 0 => [] | 1 => [0] | 2 => [1] | 3 => [2] | 4 => [] | 5 => [3, 4] | 6 => [5] | 7 => [] | 8 => [7] | 9 => [8] | 10 => [9] | 11 => [] | 12 => [10, 11] | 13 => [12] | 14 => [6, 13] | 15 => [] | _ => []) (fun i_ val_ pc_ v_ x_ => match i_ with | 0 => v_ = .slice a22 ((wea ds).length) cp23 ∧ x_ = [] | 1 => v_ = .pointer (some ((adr a22).add (0 * 3))) ∧ x_ = [] | 2 => v_ = .pointer (some (((adr a22).add (0 * 3)).add 1)) ∧ x_ = [] | 3 => v_ = .slice (A17 0) n (C18 0) ∧ x_ = [] | 4 => v_ = .int .i64 (day) ∧ x_ = [] | 5 => v_ = .pointer (some ((adr (A17 0)).add ((day).toNat * 1))) ∧ x_ = [] | 6 => v_ = .int .i64 ((yFK size start ds n 0).getD ((day).toNat) 0) ∧ x_ = [] | 7 => v_ = .slice a22 ((wea ds).length) cp23 ∧ x_ = [] | 8 => v_ = .pointer (some ((adr a22).add (0 * 3))) ∧ x_ = [] | 9 => v_ = .pointer (some (((adr a22).add (0 * 3)).add 1)) ∧ x_ = [] | 10 => v_ = .slice (A17 0) n (C18 0) ∧ x_ = [] | 11 => v_ = .int .i64 (day) ∧ x_ = [] | 12 => v_ = .pointer (some ((adr (A17 0)).add ((day).toNat * 1))) ∧ x_ = [] | 13 => v_ = .int .i64 ((yFK size start ds n 0).getD ((day).toNat) 0) ∧ x_ = [] | 14 => v_ = .agg #[.int .i64 ((yFK size start ds n 0).getD ((day).toNat) 0), .int .i64 ((yFK size start ds n 0).getD ((day).toNat) 0)] ∧ x_ = [] | 15 => ∃ b28 : Nat, v_ = .pointer (some ⟨b28, 0, none⟩) ∧ x_ = (([(b28, .cells #[.int .i64 0, .int .i64 0] 36 (0, 0))] : Pcs) ++ []) | _ => True) val26 pc27 6 v_ x_ := fun _ _ q_ => q_
        refine ⟨[.agg #[.int .i64 (size), .int .i64 (start), .slice a n c], .int .i64 (day), .pointer (some ⟨b1, 0, none⟩), undef, .pointer (some ⟨b2, 0, none⟩), .int .i64 0, .int .i64 (askd (size) (start) ds (decide (IsDay ds day))), .slice a22 ((wea ds).length) cp23, (val26 15), undef, .agg #[.int .i64 (size), .int .i64 (start), .slice a n c], .agg #[.int .i64 (size), .int .i64 (start), .slice a n c], .int .i64 (day), .bool (decide (IsDay ds day)), .int .i64 (askd (size) (start) ds (decide (IsDay ds day))), .int .i64 (askd (size) (start) ds (decide (IsDay ds day))), .bool (decide (askd (size) (start) ds (decide (IsDay ds day)) ≠ 0)), undef, undef, .agg #[.int .i64 (size), .int .i64 (start), .slice a n c], .slice a22 ((wea ds).length) cp23, (val26 0), (val26 1), (val26 2), (val26 3), (val26 4), .pointer (some ((adr (A17 0)).add ((day).toNat * 1))), (val26 6), (val26 7), (val26 8), (val26 9), (val26 10), (val26 11), (val26 12), (val26 13), (val26 14), undef, undef, undef, undef, undef, undef, undef, undef, undef, undef, undef, undef, undef, undef, undef, undef, undef], [], _, (by simp only [e5_]), rfl, hq_, ?_⟩
        exact mix_det (met_none rfl) (fun _ h_ H_ => exd_load_per H_ tA3 rfl (v := .int .i64 ((yFK size start ds n 0).getD ((day).toNat) 0)) ((T14.ints2 _ (by omega)).get (by omega))) ⟨rfl, rfl⟩
      refine mixes_cons rfl (opmix2 ?_) ?_
      · intro val26 pc27 hQ_ hX_
        have hq_ : ∀ v_ x_, (v_ = .slice a22 ((wea ds).length) cp23 ∧ x_ = []) → Qr (fun i_ => match i_ with | 0 => [] | 1 => [0] | 2 => [1] | 3 => [2] | 4 => [] | 5 => [3, 4] | 6 => [5] | 7 => [] | 8 => [7] | 9 => [8] | 10 => [9] | 11 => [] | 12 => [10, 11] | 13 => [12] | 14 => [6, 13] | 15 => [] | _ => []) (fun i_ val_ pc_ v_ x_ => match i_ with | 0 => v_ = .slice a22 ((wea ds).length) cp23 ∧ x_ = [] | 1 => v_ = .pointer (some ((adr a22).add (0 * 3))) ∧ x_ = [] | 2 => v_ = .pointer (some (((adr a22).add (0 * 3)).add 1)) ∧ x_ = [] | 3 => v_ = .slice (A17 0) n (C18 0) ∧ x_ = [] | 4 => v_ = .int .i64 (day) ∧ x_ = [] | 5 => v_ = .pointer (some ((adr (A17 0)).add ((day).toNat * 1))) ∧ x_ = [] | 6 => v_ = .int .i64 ((yFK size start ds n 0).getD ((day).toNat) 0) ∧ x_ = [] | 7 => v_ = .slice a22 ((wea ds).length) cp23 ∧ x_ = [] | 8 => v_ = .pointer (some ((adr a22).add (0 * 3))) ∧ x_ = [] | 9 => v_ = .pointer (some (((adr a22).add (0 * 3)).add 1)) ∧ x_ = [] | 10 => v_ = .slice (A17 0) n (C18 0) ∧ x_ = [] | 11 => v_ = .int .i64 (day) ∧ x_ = [] | 12 => v_ = .pointer (some ((adr (A17 0)).add ((day).toNat * 1))) ∧ x_ = [] | 13 => v_ = .int .i64 ((yFK size start ds n 0).getD ((day).toNat) 0) ∧ x_ = [] | 14 => v_ = .agg #[.int .i64 ((yFK size start ds n 0).getD ((day).toNat) 0), .int .i64 ((yFK size start ds n 0).getD ((day).toNat) 0)] ∧ x_ = [] | 15 => ∃ b28 : Nat, v_ = .pointer (some ⟨b28, 0, none⟩) ∧ x_ = (([(b28, .cells #[.int .i64 0, .int .i64 0] 36 (0, 0))] : Pcs) ++ []) | _ => True) val26 pc27 7 v_ x_ := fun _ _ q_ => q_
        refine ⟨[.agg #[.int .i64 (size), .int .i64 (start), .slice a n c], .int .i64 (day), .pointer (some ⟨b1, 0, none⟩), undef, .pointer (some ⟨b2, 0, none⟩), .int .i64 0, .int .i64 (askd (size) (start) ds (decide (IsDay ds day))), .slice a22 ((wea ds).length) cp23, (val26 15), undef, .agg #[.int .i64 (size), .int .i64 (start), .slice a n c], .agg #[.int .i64 (size), .int .i64 (start), .slice a n c], .int .i64 (day), .bool (decide (IsDay ds day)), .int .i64 (askd (size) (start) ds (decide (IsDay ds day))), .int .i64 (askd (size) (start) ds (decide (IsDay ds day))), .bool (decide (askd (size) (start) ds (decide (IsDay ds day)) ≠ 0)), undef, undef, .agg #[.int .i64 (size), .int .i64 (start), .slice a n c], .slice a22 ((wea ds).length) cp23, (val26 0), (val26 1), (val26 2), (val26 3), (val26 4), (val26 5), (val26 6), (val26 7), (val26 8), (val26 9), (val26 10), (val26 11), (val26 12), (val26 13), (val26 14), undef, undef, undef, undef, undef, undef, undef, undef, undef, undef, undef, undef, undef, undef, undef, undef, undef], [], _, rfl, rfl, hq_, ?_⟩
        exact mix_det (met_none rfl) (fun _ h_ H_ => exd_move (v := .slice a22 ((wea ds).length) cp23) rfl) ⟨rfl, rfl⟩
      refine mixes_cons rfl (opmix2 ?_) ?_
      · intro val26 pc27 hQ_ hX_
        have e7_ : val26 7 = .slice a22 ((wea ds).length) cp23 := (hQ_ 7 rfl).1
        have hq_ : ∀ v_ x_, (v_ = .pointer (some ((adr a22).add (0 * 3))) ∧ x_ = []) → Qr (fun i_ => match i_ with | 0 => [] | 1 => [0] | 2 => [1] | 3 => [2] | 4 => [] | 5 => [3, 4] | 6 => [5] | 7 => [] | 8 => [7] | 9 => [8] | 10 => [9] | 11 => [] | 12 => [10, 11] | 13 => [12] | 14 => [6, 13] | 15 => [] | _ => []) (fun i_ val_ pc_ v_ x_ => match i_ with | 0 => v_ = .slice a22 ((wea ds).length) cp23 ∧ x_ = [] | 1 => v_ = .pointer (some ((adr a22).add (0 * 3))) ∧ x_ = [] | 2 => v_ = .pointer (some (((adr a22).add (0 * 3)).add 1)) ∧ x_ = [] | 3 => v_ = .slice (A17 0) n (C18 0) ∧ x_ = [] | 4 => v_ = .int .i64 (day) ∧ x_ = [] | 5 => v_ = .pointer (some ((adr (A17 0)).add ((day).toNat * 1))) ∧ x_ = [] | 6 => v_ = .int .i64 ((yFK size start ds n 0).getD ((day).toNat) 0) ∧ x_ = [] | 7 => v_ = .slice a22 ((wea ds).length) cp23 ∧ x_ = [] | 8 => v_ = .pointer (some ((adr a22).add (0 * 3))) ∧ x_ = [] | 9 => v_ = .pointer (some (((adr a22).add (0 * 3)).add 1)) ∧ x_ = [] | 10 => v_ = .slice (A17 0) n (C18 0) ∧ x_ = [] | 11 => v_ = .int .i64 (day) ∧ x_ = [] | 12 => v_ = .pointer (some ((adr (A17 0)).add ((day).toNat * 1))) ∧ x_ = [] | 13 => v_ = .int .i64 ((yFK size start ds n 0).getD ((day).toNat) 0) ∧ x_ = [] | 14 => v_ = .agg #[.int .i64 ((yFK size start ds n 0).getD ((day).toNat) 0), .int .i64 ((yFK size start ds n 0).getD ((day).toNat) 0)] ∧ x_ = [] | 15 => ∃ b28 : Nat, v_ = .pointer (some ⟨b28, 0, none⟩) ∧ x_ = (([(b28, .cells #[.int .i64 0, .int .i64 0] 36 (0, 0))] : Pcs) ++ []) | _ => True) val26 pc27 8 v_ x_ := fun _ _ q_ => q_
        refine ⟨[.agg #[.int .i64 (size), .int .i64 (start), .slice a n c], .int .i64 (day), .pointer (some ⟨b1, 0, none⟩), undef, .pointer (some ⟨b2, 0, none⟩), .int .i64 0, .int .i64 (askd (size) (start) ds (decide (IsDay ds day))), .slice a22 ((wea ds).length) cp23, (val26 15), undef, .agg #[.int .i64 (size), .int .i64 (start), .slice a n c], .agg #[.int .i64 (size), .int .i64 (start), .slice a n c], .int .i64 (day), .bool (decide (IsDay ds day)), .int .i64 (askd (size) (start) ds (decide (IsDay ds day))), .int .i64 (askd (size) (start) ds (decide (IsDay ds day))), .bool (decide (askd (size) (start) ds (decide (IsDay ds day)) ≠ 0)), undef, undef, .agg #[.int .i64 (size), .int .i64 (start), .slice a n c], .slice a22 ((wea ds).length) cp23, (val26 0), (val26 1), (val26 2), (val26 3), (val26 4), (val26 5), (val26 6), .slice a22 ((wea ds).length) cp23, (val26 8), (val26 9), (val26 10), (val26 11), (val26 12), (val26 13), (val26 14), undef, undef, undef, undef, undef, undef, undef, undef, undef, undef, undef, undef, undef, undef, undef, undef, undef], [], _, (by simp only [e7_]), rfl, hq_, ?_⟩
        exact mix_det (met_none rfl) (fun _ h_ H_ => exd_indexAddrN (i := 0) Try.underlying81 tS30 (sl_ne a22 ((wea ds).length) cp23 (T14.ne (by omega))) rfl (by omega)) ⟨rfl, rfl⟩
      refine mixes_cons rfl (opmix2 ?_) ?_
      · intro val26 pc27 hQ_ hX_
        have e8_ : val26 8 = .pointer (some ((adr a22).add (0 * 3))) := (hQ_ 8 rfl).1
        have hq_ : ∀ v_ x_, (v_ = .pointer (some (((adr a22).add (0 * 3)).add 1)) ∧ x_ = []) → Qr (fun i_ => match i_ with | 0 => [] | 1 => [0] | 2 => [1] | 3 => [2] | 4 => [] | 5 => [3, 4] | 6 => [5] | 7 => [] | 8 => [7] | 9 => [8] | 10 => [9] | 11 => [] | 12 => [10, 11] | 13 => [12] | 14 => [6, 13] | 15 => [] | _ => []) (fun i_ val_ pc_ v_ x_ => match i_ with | 0 => v_ = .slice a22 ((wea ds).length) cp23 ∧ x_ = [] | 1 => v_ = .pointer (some ((adr a22).add (0 * 3))) ∧ x_ = [] | 2 => v_ = .pointer (some (((adr a22).add (0 * 3)).add 1)) ∧ x_ = [] | 3 => v_ = .slice (A17 0) n (C18 0) ∧ x_ = [] | 4 => v_ = .int .i64 (day) ∧ x_ = [] | 5 => v_ = .pointer (some ((adr (A17 0)).add ((day).toNat * 1))) ∧ x_ = [] | 6 => v_ = .int .i64 ((yFK size start ds n 0).getD ((day).toNat) 0) ∧ x_ = [] | 7 => v_ = .slice a22 ((wea ds).length) cp23 ∧ x_ = [] | 8 => v_ = .pointer (some ((adr a22).add (0 * 3))) ∧ x_ = [] | 9 => v_ = .pointer (some (((adr a22).add (0 * 3)).add 1)) ∧ x_ = [] | 10 => v_ = .slice (A17 0) n (C18 0) ∧ x_ = [] | 11 => v_ = .int .i64 (day) ∧ x_ = [] | 12 => v_ = .pointer (some ((adr (A17 0)).add ((day).toNat * 1))) ∧ x_ = [] | 13 => v_ = .int .i64 ((yFK size start ds n 0).getD ((day).toNat) 0) ∧ x_ = [] | 14 => v_ = .agg #[.int .i64 ((yFK size start ds n 0).getD ((day).toNat) 0), .int .i64 ((yFK size start ds n 0).getD ((day).toNat) 0)] ∧ x_ = [] | 15 => ∃ b28 : Nat, v_ = .pointer (some ⟨b28, 0, none⟩) ∧ x_ = (([(b28, .cells #[.int .i64 0, .int .i64 0] 36 (0, 0))] : Pcs) ++ []) | _ => True) val26 pc27 9 v_ x_ := fun _ _ q_ => q_
        refine ⟨[.agg #[.int .i64 (size), .int .i64 (start), .slice a n c], .int .i64 (day), .pointer (some ⟨b1, 0, none⟩), undef, .pointer (some ⟨b2, 0, none⟩), .int .i64 0, .int .i64 (askd (size) (start) ds (decide (IsDay ds day))), .slice a22 ((wea ds).length) cp23, (val26 15), undef, .agg #[.int .i64 (size), .int .i64 (start), .slice a n c], .agg #[.int .i64 (size), .int .i64 (start), .slice a n c], .int .i64 (day), .bool (decide (IsDay ds day)), .int .i64 (askd (size) (start) ds (decide (IsDay ds day))), .int .i64 (askd (size) (start) ds (decide (IsDay ds day))), .bool (decide (askd (size) (start) ds (decide (IsDay ds day)) ≠ 0)), undef, undef, .agg #[.int .i64 (size), .int .i64 (start), .slice a n c], .slice a22 ((wea ds).length) cp23, (val26 0), (val26 1), (val26 2), (val26 3), (val26 4), (val26 5), (val26 6), (val26 7), .pointer (some ((adr a22).add (0 * 3))), (val26 9), (val26 10), (val26 11), (val26 12), (val26 13), (val26 14), undef, undef, undef, undef, undef, undef, undef, undef, undef, undef, undef, undef, undef, undef, undef, undef, undef], [], _, (by simp only [e8_]), rfl, hq_, ?_⟩
        exact mix_det (met_none rfl) (fun _ h_ H_ => exd_fieldAddr tF30_1 rfl (a' := ((adr a22).add (0 * 3)).add 1) rfl) ⟨rfl, rfl⟩
      refine mixes_cons rfl (opmix2 ?_) ?_
      · intro val26 pc27 hQ_ hX_
        have e9_ : val26 9 = .pointer (some (((adr a22).add (0 * 3)).add 1)) := (hQ_ 9 rfl).1
        have hq_ : ∀ v_ x_, (v_ = .slice (A17 0) n (C18 0) ∧ x_ = []) → Qr (fun i_ => match i_ with | 0 => [] | 1 => [0] | 2 => [1] | 3 => [2] | 4 => [] | 5 => [3, 4] | 6 => [5] | 7 => [] | 8 => [7] | 9 => [8] | 10 => [9] | 11 => [] | 12 => [10, 11] | 13 => [12] | 14 => [6, 13] | 15 => [] | _ => []) (fun i_ val_ pc_ v_ x_ => match i_ with | 0 => v_ = .slice a22 ((wea ds).length) cp23 ∧ x_ = [] | 1 => v_ = .pointer (some ((adr a22).add (0 * 3))) ∧ x_ = [] | 2 => v_ = .pointer (some (((adr a22).add (0 * 3)).add 1)) ∧ x_ = [] | 3 => v_ = .slice (A17 0) n (C18 0) ∧ x_ = [] | 4 => v_ = .int .i64 (day) ∧ x_ = [] | 5 => v_ = .pointer (some ((adr (A17 0)).add ((day).toNat * 1))) ∧ x_ = [] | 6 => v_ = .int .i64 ((yFK size start ds n 0).getD ((day).toNat) 0) ∧ x_ = [] | 7 => v_ = .slice a22 ((wea ds).length) cp23 ∧ x_ = [] | 8 => v_ = .pointer (some ((adr a22).add (0 * 3))) ∧ x_ = [] | 9 => v_ = .pointer (some (((adr a22).add (0 * 3)).add 1)) ∧ x_ = [] | 10 => v_ = .slice (A17 0) n (C18 0) ∧ x_ = [] | 11 => v_ = .int .i64 (day) ∧ x_ = [] | 12 => v_ = .pointer (some ((adr (A17 0)).add ((day).toNat * 1))) ∧ x_ = [] | 13 => v_ = .int .i64 ((yFK size start ds n 0).getD ((day).toNat) 0) ∧ x_ = [] | 14 => v_ = .agg #[.int .i64 ((yFK size start ds n 0).getD ((day).toNat) 0), .int .i64 ((yFK size start ds n 0).getD ((day).toNat) 0)] ∧ x_ = [] | 15 => ∃ b28 : Nat, v_ = .pointer (some ⟨b28, 0, none⟩) ∧ x_ = (([(b28, .cells #[.int .i64 0, .int .i64 0] 36 (0, 0))] : Pcs) ++ []) | _ => True) val26 pc27 10 v_ x_ := fun _ _ q_ => q_
        refine ⟨[.agg #[.int .i64 (size), .int .i64 (start), .slice a n c], .int .i64 (day), .pointer (some ⟨b1, 0, none⟩), undef, .pointer (some ⟨b2, 0, none⟩), .int .i64 0, .int .i64 (askd (size) (start) ds (decide (IsDay ds day))), .slice a22 ((wea ds).length) cp23, (val26 15), undef, .agg #[.int .i64 (size), .int .i64 (start), .slice a n c], .agg #[.int .i64 (size), .int .i64 (start), .slice a n c], .int .i64 (day), .bool (decide (IsDay ds day)), .int .i64 (askd (size) (start) ds (decide (IsDay ds day))), .int .i64 (askd (size) (start) ds (decide (IsDay ds day))), .bool (decide (askd (size) (start) ds (decide (IsDay ds day)) ≠ 0)), undef, undef, .agg #[.int .i64 (size), .int .i64 (start), .slice a n c], .slice a22 ((wea ds).length) cp23, (val26 0), (val26 1), (val26 2), (val26 3), (val26 4), (val26 5), (val26 6), (val26 7), (val26 8), .pointer (some (((adr a22).add (0 * 3)).add 1)), (val26 10), (val26 11), (val26 12), (val26 13), (val26 14), undef, undef, undef, undef, undef, undef, undef, undef, undef, undef, undef, undef, undef, undef, undef, undef, undef], [], _, (by simp only [e9_]), rfl, hq_, ?_⟩
        exact mix_det (met_none rfl) (fun _ h_ H_ => exd_load_per H_ tA25 rfl (v := .slice (A17 0) n (C18 0)) (T14.cell2 _ (by omega))) ⟨rfl, rfl⟩
      refine mixes_cons rfl (opmix2 ?_) ?_
      · intro val26 pc27 hQ_ hX_
        have hq_ : ∀ v_ x_, (v_ = .int .i64 (day) ∧ x_ = []) → Qr (fun i_ => match i_ with | 0 => [] | 1 => [0] | 2 => [1] | 3 => [2] | 4 => [] | 5 => [3, 4] | 6 => [5] | 7 => [] | 8 => [7] | 9 => [8] | 10 => [9] | 11 => [] | 12 => [10, 11] | 13 => [12] | 14 => [6, 13] | 15 => [] | _ => []) (fun i_ val_ pc_ v_ x_ => match i_ with | 0 => v_ = .slice a22 ((wea ds).length) cp23 ∧ x_ = [] | 1 => v_ = .pointer (some ((adr a22).add (0 * 3))) ∧ x_ = [] | 2 => v_ = .pointer (some (((adr a22).add (0 * 3)).add 1)) ∧ x_ = [] | 3 => v_ = .slice (A17 0) n (C18 0) ∧ x_ = [] | 4 => v_ = .int .i64 (day) ∧ x_ = [] | 5 => v_ = .pointer (some ((adr (A17 0)).add ((day).toNat * 1))) ∧ x_ = [] | 6 => v_ = .int .i64 ((yFK size start ds n 0).getD ((day).toNat) 0) ∧ x_ = [] | 7 => v_ = .slice a22 ((wea ds).length) cp23 ∧ x_ = [] | 8 => v_ = .pointer (some ((adr a22).add (0 * 3))) ∧ x_ = [] | 9 => v_ = .pointer (some (((adr a22).add (0 * 3)).add 1)) ∧ x_ = [] | 10 => v_ = .slice (A17 0) n (C18 0) ∧ x_ = [] | 11 => v_ = .int .i64 (day) ∧ x_ = [] | 12 => v_ = .pointer (some ((adr (A17 0)).add ((day).toNat * 1))) ∧ x_ = [] | 13 => v_ = .int .i64 ((yFK size start ds n 0).getD ((day).toNat) 0) ∧ x_ = [] | 14 => v_ = .agg #[.int .i64 ((yFK size start ds n 0).getD ((day).toNat) 0), .int .i64 ((yFK size start ds n 0).getD ((day).toNat) 0)] ∧ x_ = [] | 15 => ∃ b28 : Nat, v_ = .pointer (some ⟨b28, 0, none⟩) ∧ x_ = (([(b28, .cells #[.int .i64 0, .int .i64 0] 36 (0, 0))] : Pcs) ++ []) | _ => True) val26 pc27 11 v_ x_ := fun _ _ q_ => q_
        refine ⟨[.agg #[.int .i64 (size), .int .i64 (start), .slice a n c], .int .i64 (day), .pointer (some ⟨b1, 0, none⟩), undef, .pointer (some ⟨b2, 0, none⟩), .int .i64 0, .int .i64 (askd (size) (start) ds (decide (IsDay ds day))), .slice a22 ((wea ds).length) cp23, (val26 15), undef, .agg #[.int .i64 (size), .int .i64 (start), .slice a n c], .agg #[.int .i64 (size), .int .i64 (start), .slice a n c], .int .i64 (day), .bool (decide (IsDay ds day)), .int .i64 (askd (size) (start) ds (decide (IsDay ds day))), .int .i64 (askd (size) (start) ds (decide (IsDay ds day))), .bool (decide (askd (size) (start) ds (decide (IsDay ds day)) ≠ 0)), undef, undef, .agg #[.int .i64 (size), .int .i64 (start), .slice a n c], .slice a22 ((wea ds).length) cp23, (val26 0), (val26 1), (val26 2), (val26 3), (val26 4), (val26 5), (val26 6), (val26 7), (val26 8), (val26 9), (val26 10), (val26 11), (val26 12), (val26 13), (val26 14), undef, undef, undef, undef, undef, undef, undef, undef, undef, undef, undef, undef, undef, undef, undef, undef, undef], [], _, rfl, rfl, hq_, ?_⟩
        exact mix_det (met_none rfl) (fun _ h_ H_ => exd_move (v := .int .i64 (day)) rfl) ⟨rfl, rfl⟩
      refine mixes_cons rfl (opmix2 ?_) ?_
      · intro val26 pc27 hQ_ hX_
        have e10_ : val26 10 = .slice (A17 0) n (C18 0) := (hQ_ 10 rfl).1
        have e11_ : val26 11 = .int .i64 (day) := (hQ_ 11 rfl).1
        have hq_ : ∀ v_ x_, (v_ = .pointer (some ((adr (A17 0)).add ((day).toNat * 1))) ∧ x_ = []) → Qr (fun i_ => match i_ with | 0 => [] | 1 => [0] | 2 => [1] | 3 => [2] | 4 => [] | 5 => [3, 4] | 6 => [5] | 7 => [] | 8 => [7] | 9 => [8] | 10 => [9] | 11 => [] | 12 => [10, 11] | 13 => [12] | 14 => [6, 13] | 15 => [] | _ => []) (fun i_ val_ pc_ v_ x_ => match i_ with | 0 => v_ = .slice a22 ((wea ds).length) cp23 ∧ x_ = [] | 1 => v_ = .pointer (some ((adr a22).add (0 * 3))) ∧ x_ = [] | 2 => v_ = .pointer (some (((adr a22).add (0 * 3)).add 1)) ∧ x_ = [] | 3 => v_ = .slice (A17 0) n (C18 0) ∧ x_ = [] | 4 => v_ = .int .i64 (day) ∧ x_ = [] | 5 => v_ = .pointer (some ((adr (A17 0)).add ((day).toNat * 1))) ∧ x_ = [] | 6 => v_ = .int .i64 ((yFK size start ds n 0).getD ((day).toNat) 0) ∧ x_ = [] | 7 => v_ = .slice a22 ((wea ds).length) cp23 ∧ x_ = [] | 8 => v_ = .pointer (some ((adr a22).add (0 * 3))) ∧ x_ = [] | 9 => v_ = .pointer (some (((adr a22).add (0 * 3)).add 1)) ∧ x_ = [] | 10 => v_ = .slice (A17 0) n (C18 0) ∧ x_ = [] | 11 => v_ = .int .i64 (day) ∧ x_ = [] | 12 => v_ = .pointer (some ((adr (A17 0)).add ((day).toNat * 1))) ∧ x_ = [] | 13 => v_ = .int .i64 ((yFK size start ds n 0).getD ((day).toNat) 0) ∧ x_ = [] | 14 => v_ = .agg #[.int .i64 ((yFK size start ds n 0).getD ((day).toNat) 0), .int .i64 ((yFK size start ds n 0).getD ((day).toNat) 0)] ∧ x_ = [] | 15 => ∃ b28 : Nat, v_ = .pointer (some ⟨b28, 0, none⟩) ∧ x_ = (([(b28, .cells #[.int .i64 0, .int .i64 0] 36 (0, 0))] : Pcs) ++ []) | _ => True) val26 pc27 12 v_ x_ := fun _ _ q_ => q_
        refine ⟨[.agg #[.int .i64 (size), .int .i64 (start), .slice a n c], .int .i64 (day), .pointer (some ⟨b1, 0, none⟩), undef, .pointer (some ⟨b2, 0, none⟩), .int .i64 0, .int .i64 (askd (size) (start) ds (decide (IsDay ds day))), .slice a22 ((wea ds).length) cp23, (val26 15), undef, .agg #[.int .i64 (size), .int .i64 (start), .slice a n c], .agg #[.int .i64 (size), .int .i64 (start), .slice a n c], .int .i64 (day), .bool (decide (IsDay ds day)), .int .i64 (askd (size) (start) ds (decide (IsDay ds day))), .int .i64 (askd (size) (start) ds (decide (IsDay ds day))), .bool (decide (askd (size) (start) ds (decide (IsDay ds day)) ≠ 0)), undef, undef, .agg #[.int .i64 (size), .int .i64 (start), .slice a n c], .slice a22 ((wea ds).length) cp23, (val26 0), (val26 1), (val26 2), (val26 3), (val26 4), (val26 5), (val26 6), (val26 7), (val26 8), (val26 9), .slice (A17 0) n (C18 0), .int .i64 (day), (val26 12), (val26 13), (val26 14), undef, undef, undef, undef, undef, undef, undef, undef, undef, undef, undef, undef, undef, undef, undef, undef, undef], [], _, (by simp only [e10_, e11_]), rfl, hq_, ?_⟩
        exact mix_det (met_none rfl) (fun _ h_ H_ => exd_indexAddr Try.underlying25 tS3 (sl_ne (A17 0) n (C18 0) ((T14.ints2 _ (by omega)).ne (by omega))) rfl (by omega) (by omega) (a' := (adr (A17 0)).add ((day).toNat * 1)) rfl) ⟨rfl, rfl⟩
      refine mixes_cons rfl (opmix2 ?_) ?_
      · intro val26 pc27 hQ_ hX_
        have e12_ : val26 12 = .pointer (some ((adr (A17 0)).add ((day).toNat * 1))) := (hQ_ 12 rfl).1
        have hq_ : ∀ v_ x_, (v_ = .int .i64 ((yFK size start ds n 0).getD ((day).toNat) 0) ∧ x_ = []) → Qr (fun i_ => match i_ with | 0 => [] | 1 => [0] | 2 => [1] | 3 => [2] | 4 => [] | 5 => [3, 4] | 6 => [5] | 7 => [] | 8 => [7] | 9 => [8] | 10 => [9] | 11 => [] | 12 => [10, 11] | 13 => [12] | 14 => [6, 13] | 15 => [] | _ => []) (fun i_ val_ pc_ v_ x_ => match i_ with | 0 => v_ = .slice a22 ((wea ds).length) cp23 ∧ x_ = [] | 1 => v_ = .pointer (some ((adr a22).add (0 * 3))) ∧ x_ = [] | 2 => v_ = .pointer (some (((adr a22).add (0 * 3)).add 1)) ∧ x_ = [] | 3 => v_ = .slice (A17 0) n (C18 0) ∧ x_ = [] | 4 => v_ = .int .i64 (day) ∧ x_ = [] | 5 => v_ = .pointer (some ((adr (A17 0)).add ((day).toNat * 1))) ∧ x_ = [] | 6 => v_ = .int .i64 ((yFK size start ds n 0).getD ((day).toNat) 0) ∧ x_ = [] | 7 => v_ = .slice a22 ((wea ds).length) cp23 ∧ x_ = [] | 8 => v_ = .pointer (some ((adr a22).add (0 * 3))) ∧ x_ = [] | 9 => v_ = .pointer (some (((adr a22).add (0 * 3)).add 1)) ∧ x_ = [] | 10 => v_ = .slice (A17 0) n (C18 0) ∧ x_ = [] | 11 => v_ = .int .i64 (day) ∧ x_ = [] | 12 => v_ = .pointer (some ((adr (A17 0)).add ((day).toNat * 1))) ∧ x_ = [] | 13 => v_ = .int .i64 ((yFK size start ds n 0).getD ((day).toNat) 0) ∧ x_ = [] | 14 => v_ = .agg #[.int .i64 ((yFK size start ds n 0).getD ((day).toNat) 0), .int .i64 ((yFK size start ds n 0).getD ((day).toNat) 0)] ∧ x_ = [] | 15 => ∃ b28 : Nat, v_ = .pointer (some ⟨b28, 0, none⟩) ∧ x_ = (([(b28, .cells #[.int .i64 0, .int .i64 0] 36 (0, 0))] : Pcs) ++ []) | _ => True) val26 pc27 13 v_ x_ := fun _ _ q_ => q_
        refine ⟨[.agg #[.int .i64 (size), .int .i64 (start), .slice a n c], .int .i64 (day), .pointer (some ⟨b1, 0, none⟩), undef, .pointer (some ⟨b2, 0, none⟩), .int .i64 0, .int .i64 (askd (size) (start) ds (decide (IsDay ds day))), .slice a22 ((wea ds).length) cp23, (val26 15), undef, .agg #[.int .i64 (size), .int .i64 (start), .slice a n c], .agg #[.int .i64 (size), .int .i64 (start), .slice a n c], .int .i64 (day), .bool (decide (IsDay ds day)), .int .i64 (askd (size) (start) ds (decide (IsDay ds day))), .int .i64 (askd (size) (start) ds (decide (IsDay ds day))), .bool (decide (askd (size) (start) ds (decide (IsDay ds day)) ≠ 0)), undef, undef, .agg #[.int .i64 (size), .int .i64 (start), .slice a n c], .slice a22 ((wea ds).length) cp23, (val26 0), (val26 1), (val26 2), (val26 3), (val26 4), (val26 5), (val26 6), (val26 7), (val26 8), (val26 9), (val26 10), (val26 11), .pointer (some ((adr (A17 0)).add ((day).toNat * 1))), (val26 13), (val26 14), undef, undef, undef, undef, undef, undef, undef, undef, undef, undef, undef, undef, undef, undef, undef, undef, undef], [], _, (by simp only [e12_]), rfl, hq_, ?_⟩
        exact mix_det (met_none rfl) (fun _ h_ H_ => exd_load_per H_ tA3 rfl (v := .int .i64 ((yFK size start ds n 0).getD ((day).toNat) 0)) ((T14.ints2 _ (by omega)).get (by omega))) ⟨rfl, rfl⟩
      refine mixes_cons rfl (opmix2 ?_) ?_
      · intro val26 pc27 hQ_ hX_
        have e6_ : val26 6 = .int .i64 ((yFK size start ds n 0).getD ((day).toNat) 0) := (hQ_ 6 rfl).1
        have e13_ : val26 13 = .int .i64 ((yFK size start ds n 0).getD ((day).toNat) 0) := (hQ_ 13 rfl).1
        have hq_ : ∀ v_ x_, (v_ = .agg #[.int .i64 ((yFK size start ds n 0).getD ((day).toNat) 0), .int .i64 ((yFK size start ds n 0).getD ((day).toNat) 0)] ∧ x_ = []) → Qr (fun i_ => match i_ with | 0 => [] | 1 => [0] | 2 => [1] | 3 => [2] | 4 => [] | 5 => [3, 4] | 6 => [5] | 7 => [] | 8 => [7] | 9 => [8] | 10 => [9] | 11 => [] | 12 => [10, 11] | 13 => [12] | 14 => [6, 13] | 15 => [] | _ => []) (fun i_ val_ pc_ v_ x_ => match i_ with | 0 => v_ = .slice a22 ((wea ds).length) cp23 ∧ x_ = [] | 1 => v_ = .pointer (some ((adr a22).add (0 * 3))) ∧ x_ = [] | 2 => v_ = .pointer (some (((adr a22).add (0 * 3)).add 1)) ∧ x_ = [] | 3 => v_ = .slice (A17 0) n (C18 0) ∧ x_ = [] | 4 => v_ = .int .i64 (day) ∧ x_ = [] | 5 => v_ = .pointer (some ((adr (A17 0)).add ((day).toNat * 1))) ∧ x_ = [] | 6 => v_ = .int .i64 ((yFK size start ds n 0).getD ((day).toNat) 0) ∧ x_ = [] | 7 => v_ = .slice a22 ((wea ds).length) cp23 ∧ x_ = [] | 8 => v_ = .pointer (some ((adr a22).add (0 * 3))) ∧ x_ = [] | 9 => v_ = .pointer (some (((adr a22).add (0 * 3)).add 1)) ∧ x_ = [] | 10 => v_ = .slice (A17 0) n (C18 0) ∧ x_ = [] | 11 => v_ = .int .i64 (day) ∧ x_ = [] | 12 => v_ = .pointer (some ((adr (A17 0)).add ((day).toNat * 1))) ∧ x_ = [] | 13 => v_ = .int .i64 ((yFK size start ds n 0).getD ((day).toNat) 0) ∧ x_ = [] | 14 => v_ = .agg #[.int .i64 ((yFK size start ds n 0).getD ((day).toNat) 0), .int .i64 ((yFK size start ds n 0).getD ((day).toNat) 0)] ∧ x_ = [] | 15 => ∃ b28 : Nat, v_ = .pointer (some ⟨b28, 0, none⟩) ∧ x_ = (([(b28, .cells #[.int .i64 0, .int .i64 0] 36 (0, 0))] : Pcs) ++ []) | _ => True) val26 pc27 14 v_ x_ := fun _ _ q_ => q_
        refine ⟨[.agg #[.int .i64 (size), .int .i64 (start), .slice a n c], .int .i64 (day), .pointer (some ⟨b1, 0, none⟩), undef, .pointer (some ⟨b2, 0, none⟩), .int .i64 0, .int .i64 (askd (size) (start) ds (decide (IsDay ds day))), .slice a22 ((wea ds).length) cp23, (val26 15), undef, .agg #[.int .i64 (size), .int .i64 (start), .slice a n c], .agg #[.int .i64 (size), .int .i64 (start), .slice a n c], .int .i64 (day), .bool (decide (IsDay ds day)), .int .i64 (askd (size) (start) ds (decide (IsDay ds day))), .int .i64 (askd (size) (start) ds (decide (IsDay ds day))), .bool (decide (askd (size) (start) ds (decide (IsDay ds day)) ≠ 0)), undef, undef, .agg #[.int .i64 (size), .int .i64 (start), .slice a n c], .slice a22 ((wea ds).length) cp23, (val26 0), (val26 1), (val26 2), (val26 3), (val26 4), (val26 5), .int .i64 ((yFK size start ds n 0).getD ((day).toNat) 0), (val26 7), (val26 8), (val26 9), (val26 10), (val26 11), (val26 12), .int .i64 ((yFK size start ds n 0).getD ((day).toNat) 0), (val26 14), undef, undef, undef, undef, undef, undef, undef, undef, undef, undef, undef, undef, undef, undef, undef, undef, undef], [], _, (by simp only [e6_, e13_]), rfl, hq_, ?_⟩
        exact mix_det (met_none rfl) (fun _ h_ H_ => exd_build tZ36 tP36 (vs := [(0, .int .i64 ((yFK size start ds n 0).getD ((day).toNat) 0)), (1, .int .i64 ((yFK size start ds n 0).getD ((day).toNat) 0))]) rfl (cells := #[.int .i64 ((yFK size start ds n 0).getD ((day).toNat) 0), .int .i64 ((yFK size start ds n 0).getD ((day).toNat) 0)]) rfl) ⟨rfl, rfl⟩
      refine mixes_cons rfl (opmix2 ?_) ?_
      · intro val26 pc27 hQ_ hX_
        have hq_ : ∀ v_ x_, (∃ b28 : Nat, v_ = .pointer (some ⟨b28, 0, none⟩) ∧ x_ = (([(b28, .cells #[.int .i64 0, .int .i64 0] 36 (0, 0))] : Pcs) ++ [])) → Qr (fun i_ => match i_ with | 0 => [] | 1 => [0] | 2 => [1] | 3 => [2] | 4 => [] | 5 => [3, 4] | 6 => [5] | 7 => [] | 8 => [7] | 9 => [8] | 10 => [9] | 11 => [] | 12 => [10, 11] | 13 => [12] | 14 => [6, 13] | 15 => [] | _ => []) (fun i_ val_ pc_ v_ x_ => match i_ with | 0 => v_ = .slice a22 ((wea ds).length) cp23 ∧ x_ = [] | 1 => v_ = .pointer (some ((adr a22).add (0 * 3))) ∧ x_ = [] | 2 => v_ = .pointer (some (((adr a22).add (0 * 3)).add 1)) ∧ x_ = [] | 3 => v_ = .slice (A17 0) n (C18 0) ∧ x_ = [] | 4 => v_ = .int .i64 (day) ∧ x_ = [] | 5 => v_ = .pointer (some ((adr (A17 0)).add ((day).toNat * 1))) ∧ x_ = [] | 6 => v_ = .int .i64 ((yFK size start ds n 0).getD ((day).toNat) 0) ∧ x_ = [] | 7 => v_ = .slice a22 ((wea ds).length) cp23 ∧ x_ = [] | 8 => v_ = .pointer (some ((adr a22).add (0 * 3))) ∧ x_ = [] | 9 => v_ = .pointer (some (((adr a22).add (0 * 3)).add 1)) ∧ x_ = [] | 10 => v_ = .slice (A17 0) n (C18 0) ∧ x_ = [] | 11 => v_ = .int .i64 (day) ∧ x_ = [] | 12 => v_ = .pointer (some ((adr (A17 0)).add ((day).toNat * 1))) ∧ x_ = [] | 13 => v_ = .int .i64 ((yFK size start ds n 0).getD ((day).toNat) 0) ∧ x_ = [] | 14 => v_ = .agg #[.int .i64 ((yFK size start ds n 0).getD ((day).toNat) 0), .int .i64 ((yFK size start ds n 0).getD ((day).toNat) 0)] ∧ x_ = [] | 15 => ∃ b28 : Nat, v_ = .pointer (some ⟨b28, 0, none⟩) ∧ x_ = (([(b28, .cells #[.int .i64 0, .int .i64 0] 36 (0, 0))] : Pcs) ++ []) | _ => True) val26 pc27 15 v_ x_ := fun _ _ q_ => q_
        refine ⟨[.agg #[.int .i64 (size), .int .i64 (start), .slice a n c], .int .i64 (day), .pointer (some ⟨b1, 0, none⟩), undef, .pointer (some ⟨b2, 0, none⟩), .int .i64 0, .int .i64 (askd (size) (start) ds (decide (IsDay ds day))), .slice a22 ((wea ds).length) cp23, (val26 15), undef, .agg #[.int .i64 (size), .int .i64 (start), .slice a n c], .agg #[.int .i64 (size), .int .i64 (start), .slice a n c], .int .i64 (day), .bool (decide (IsDay ds day)), .int .i64 (askd (size) (start) ds (decide (IsDay ds day))), .int .i64 (askd (size) (start) ds (decide (IsDay ds day))), .bool (decide (askd (size) (start) ds (decide (IsDay ds day)) ≠ 0)), undef, undef, .agg #[.int .i64 (size), .int .i64 (start), .slice a n c], .slice a22 ((wea ds).length) cp23, (val26 0), (val26 1), (val26 2), (val26 3), (val26 4), (val26 5), (val26 6), (val26 7), (val26 8), (val26 9), (val26 10), (val26 11), (val26 12), (val26 13), (val26 14), undef, undef, undef, undef, undef, undef, undef, undef, undef, undef, undef, undef, undef, undef, undef, undef, undef], [], _, rfl, rfl, hq_, ?_⟩
        exact mix_alloc (met_none rfl) tZ36 rfl fun b_ => ⟨b_, rfl, rfl⟩
      exact mixes_nil rfl
    intro val26 pc27 hQ_ hX_
    have e0_ : val26 0 = .slice a22 ((wea ds).length) cp23 := (hQ_ 0 (by decide)).1
    have e1_ : val26 1 = .pointer (some ((adr a22).add (0 * 3))) := (hQ_ 1 (by decide)).1
    have e2_ : val26 2 = .pointer (some (((adr a22).add (0 * 3)).add 1)) := (hQ_ 2 (by decide)).1
    have e3_ : val26 3 = .slice (A17 0) n (C18 0) := (hQ_ 3 (by decide)).1
    have e4_ : val26 4 = .int .i64 (day) := (hQ_ 4 (by decide)).1
    have e5_ : val26 5 = .pointer (some ((adr (A17 0)).add ((day).toNat * 1))) := (hQ_ 5 (by decide)).1
    have e6_ : val26 6 = .int .i64 ((yFK size start ds n 0).getD ((day).toNat) 0) := (hQ_ 6 (by decide)).1
    have e7_ : val26 7 = .slice a22 ((wea ds).length) cp23 := (hQ_ 7 (by decide)).1
    have e8_ : val26 8 = .pointer (some ((adr a22).add (0 * 3))) := (hQ_ 8 (by decide)).1
    have e9_ : val26 9 = .pointer (some (((adr a22).add (0 * 3)).add 1)) := (hQ_ 9 (by decide)).1
    have e10_ : val26 10 = .slice (A17 0) n (C18 0) := (hQ_ 10 (by decide)).1
    have e11_ : val26 11 = .int .i64 (day) := (hQ_ 11 (by decide)).1
    have e12_ : val26 12 = .pointer (some ((adr (A17 0)).add ((day).toNat * 1))) := (hQ_ 12 (by decide)).1
    have e13_ : val26 13 = .int .i64 ((yFK size start ds n 0).getD ((day).toNat) 0) := (hQ_ 13 (by decide)).1
    have e14_ : val26 14 = .agg #[.int .i64 ((yFK size start ds n 0).getD ((day).toNat) 0), .int .i64 ((yFK size start ds n 0).getD ((day).toNat) 0)] := (hQ_ 14 (by decide)).1
    obtain ⟨e15_, x15_⟩ := hG15_ _ _ (hQ_ 15 (by decide))
    clear hQ_ hX_
    generalize Gb28 (val26 15) (pc27 15) = b28 at *
    refine rl_as (Φ := fun h_ => St h [] p21 h_ (([(b2, .cells #[.int .i64 0, .int .i64 0] 36 (0, 0)), (b1, .cells #[.int .i64 (size), .int .i64 (start), .slice a n c] 24 (0, 0))] : Pcs) ++ (pc27 15 ++ []))) ?_ (fun h_ H_ => H_.swap')
    rw [x15_]
    refine rl_own (L' := ([(b2, .cells #[.int .i64 0, .int .i64 0] 36 (0, 0)), (b1, .cells #[.int .i64 (size), .int .i64 (start), .slice a n c] 24 (0, 0))] : Pcs) ++ (([(b28, .cells #[.int .i64 0, .int .i64 0] 36 (0, 0))] : Pcs) ++ [])) (by simp) ?_
    refine rl_norm (tm' := [.agg #[.int .i64 (size), .int .i64 (start), .slice a n c], .int .i64 (day), .pointer (some ⟨b1, 0, none⟩), undef, .pointer (some ⟨b2, 0, none⟩), .int .i64 0, .int .i64 (askd (size) (start) ds (decide (IsDay ds day))), .slice a22 ((wea ds).length) cp23, .pointer (some ⟨b28, 0, none⟩), undef, .agg #[.int .i64 (size), .int .i64 (start), .slice a n c], .agg #[.int .i64 (size), .int .i64 (start), .slice a n c], .int .i64 (day), .bool (decide (IsDay ds day)), .int .i64 (askd (size) (start) ds (decide (IsDay ds day))), .int .i64 (askd (size) (start) ds (decide (IsDay ds day))), .bool (decide (askd (size) (start) ds (decide (IsDay ds day)) ≠ 0)), undef, undef, .agg #[.int .i64 (size), .int .i64 (start), .slice a n c], .slice a22 ((wea ds).length) cp23, .slice a22 ((wea ds).length) cp23, .pointer (some ((adr a22).add (0 * 3))), .pointer (some (((adr a22).add (0 * 3)).add 1)), .slice (A17 0) n (C18 0), .int .i64 (day), .pointer (some ((adr (A17 0)).add ((day).toNat * 1))), .int .i64 ((yFK size start ds n 0).getD ((day).toNat) 0), .slice a22 ((wea ds).length) cp23, .pointer (some ((adr a22).add (0 * 3))), .pointer (some (((adr a22).add (0 * 3)).add 1)), .slice (A17 0) n (C18 0), .int .i64 (day), .pointer (some ((adr (A17 0)).add ((day).toNat * 1))), .int .i64 ((yFK size start ds n 0).getD ((day).toNat) 0), .agg #[.int .i64 ((yFK size start ds n 0).getD ((day).toNat) 0), .int .i64 ((yFK size start ds n 0).getD ((day).toNat) 0)], undef, undef, undef, undef, undef, undef, undef, undef, undef, undef, undef, undef, undef, undef, undef, undef, undef]) (by simp only [e0_, e1_, e2_, e3_, e4_, e5_, e6_, e7_, e8_, e9_, e10_, e11_, e12_, e13_, e14_, e15_]) ?_
    refine rl_own (L' := ([(b2, .cells #[.int .i64 0, .int .i64 0] 36 (0, 0)), (b1, .cells #[.int .i64 (size), .int .i64 (start), .slice a n c] 24 (0, 0))] : Pcs) ++ (([(b28, .cells #[.int .i64 0, .int .i64 0] 36 (0, 0))] : Pcs) ++ [])) rfl ?_
    refine rl_perm (List.perm_append_comm_assoc ([(b2, .cells #[.int .i64 0, .int .i64 0] 36 (0, 0)), (b1, .cells #[.int .i64 (size), .int .i64 (start), .slice a n c] 24 (0, 0))] : Pcs) ([(b28, .cells #[.int .i64 0, .int .i64 0] 36 (0, 0))] : Pcs) _) ?_
    refine rl_own (L' := [(b28, .cells #[.int .i64 0, .int .i64 0] 36 (0, 0)), (b2, .cells #[.int .i64 0, .int .i64 0] 36 (0, 0)), (b1, .cells #[.int .i64 (size), .int .i64 (start), .slice a n c] 24 (0, 0))]) rfl ?_
    refine rl_store (met_none rfl) tS36 rfl (v := .agg #[.int .i64 ((yFK size start ds n 0).getD ((day).toNat) 0), .int .i64 ((yFK size start ds n 0).getD ((day).toNat) 0)]) rfl (i := 0) rfl rfl rfl (Nat.le_of_ble_eq_true rfl) (cs2 := [.int .i64 ((yFK size start ds n 0).getD ((day).toNat) 0), .int .i64 ((yFK size start ds n 0).getD ((day).toNat) 0)]) rfl (rl_own (L' := [(b28, .cells #[.int .i64 ((yFK size start ds n 0).getD ((day).toNat) 0), .int .i64 ((yFK size start ds n 0).getD ((day).toNat) 0)] 36 (0, 0)), (b2, .cells #[.int .i64 0, .int .i64 0] 36 (0, 0)), (b1, .cells #[.int .i64 (size), .int .i64 (start), .slice a n c] 24 (0, 0))]) rfl ?_)
    refine rl_end ?_
    refine fl_seq ?_
    refine fl_seq ?_
    refine rl_start ?_
    refine rl_det (met_none rfl) (fun h_ H_ => exd_assign (v := .int .i64 0) rfl) rfl ?_
    refine rl_end ?_
    refine fl_block ?_
    refine fl_loop (m₀ := (wea ds).length - 0) (fun m_ tm_ h_ => ∃ (k : Nat), m_ = (wea ds).length - k ∧ (∃ y31 : Nat → Value, tm_ = [.agg #[.int .i64 (size), .int .i64 (start), .slice a n c], .int .i64 (day), .pointer (some ⟨b1, 0, none⟩), undef, .pointer (some ⟨b2, 0, none⟩), .int .i64 0, .int .i64 (askd (size) (start) ds (decide (IsDay ds day))), .slice a22 ((wea ds).length) cp23, .pointer (some ⟨b28, 0, none⟩), .int .i64 (((k : Nat) : Int)), .agg #[.int .i64 (size), .int .i64 (start), .slice a n c], .agg #[.int .i64 (size), .int .i64 (start), .slice a n c], .int .i64 (day), .bool (decide (IsDay ds day)), .int .i64 (askd (size) (start) ds (decide (IsDay ds day))), .int .i64 (askd (size) (start) ds (decide (IsDay ds day))), .bool (decide (askd (size) (start) ds (decide (IsDay ds day)) ≠ 0)), undef, undef, .agg #[.int .i64 (size), .int .i64 (start), .slice a n c], .slice a22 ((wea ds).length) cp23, .slice a22 ((wea ds).length) cp23, .pointer (some ((adr a22).add (0 * 3))), .pointer (some (((adr a22).add (0 * 3)).add 1)), .slice (A17 0) n (C18 0), .int .i64 (day), .pointer (some ((adr (A17 0)).add ((day).toNat * 1))), .int .i64 ((yFK size start ds n 0).getD ((day).toNat) 0), .slice a22 ((wea ds).length) cp23, .pointer (some ((adr a22).add (0 * 3))), .pointer (some (((adr a22).add (0 * 3)).add 1)), .slice (A17 0) n (C18 0), .int .i64 (day), .pointer (some ((adr (A17 0)).add ((day).toNat * 1))), .int .i64 ((yFK size start ds n 0).getD ((day).toNat) 0), .agg #[.int .i64 ((yFK size start ds n 0).getD ((day).toNat) 0), .int .i64 ((yFK size start ds n 0).getD ((day).toNat) 0)], (y31 36), (y31 37), (y31 38), (y31 39), (y31 40), (y31 41), (y31 42), (y31 43), (y31 44), (y31 45), (y31 46), (y31 47), (y31 48), (y31 49), (y31 50), (y31 51), undef]) ∧ (k ≤ (wea ds).length) ∧ St h [] p21 h_ ([(b28, .cells #[.int .i64 (mnF (gK size start ds n (day).toNat) k), .int .i64 (mxF (gK size start ds n (day).toNat) k)] 36 (0, 0)), (b2, .cells #[.int .i64 0, .int .i64 0] 36 (0, 0)), (b1, .cells #[.int .i64 (size), .int .i64 (start), .slice a n c] 24 (0, 0))])) (fun h_ H_ => ⟨0, rfl, (y_of rfl), Nat.zero_le _, H_⟩) ?_
    intro m_ tm_ IH32
    refine rs_ex fun k => rs_and fun hm_ => rs_and fun ht_ => rs_and fun hk => ?_
    subst hm_; obtain ⟨y31, ht_⟩ := ht_; subst ht_
    refine fl_seq ?_
    refine fl_seq ?_
    refine rl_start ?_
    refine rl_det (met_none rfl) (fun h_ H_ => exd_move (v := .int .i64 (((k : Nat) : Int))) rfl) rfl ?_
    refine rl_det (met_none rfl) (fun h_ H_ => exd_move (v := .slice a22 ((wea ds).length) cp23) rfl) (tm' := [_,_,_,_,_,_,_,_,_,_,_,_,_,_,_,_,_,_,_,_,_,_,_,_,_,_,_,_,_,_,_,_,_,_,_,_,_,_,_,_,_,_,_,_,_,_,_,_,_,_,_,_,_]) rfl ?_
    refine rl_det (met_none rfl) (fun h_ H_ => exd_len Try.underlying81 rfl) rfl ?_
    refine rl_det (met_none rfl) (fun h_ H_ => exd_lss rfl rfl) rfl ?_
    refine rl_end ?_
    by_cases cc33 : ((k : Nat) : Int) < (((wea ds).length : Nat) : Int)
    · refine fl_then rfl (decide_eq_true cc33) ?_
      refine fl_skip ?_
      refine fl_seq ?_
      refine fl_block ?_
      refine fl_drawn2 9 [[], [], [], [1, 2], [1, 2, 3], [1, 2, 3, 4], [], [1, 2, 3, 4, 5, 6], [1, 2, 3, 4, 5, 6, 7], [], []] mixed (by kernel_rfl) (Nat.le_of_ble_eq_true rfl) ?_
      refine swr_det (met_none rfl) (fun h_ H_ => exd_loadN_own H_ tA36 tS36 rfl (i := 0) rfl (vs := [.int .i64 (mnF (gK size start ds n (day).toNat) k), .int .i64 (mxF (gK size start ds n (day).toNat) k)]) rfl rfl) (tm' := [_,_,_,_,_,_,_,_,_,_,_,_,_,_,_,_,_,_,_,_,_,_,_,_,_,_,_,_,_,_,_,_,_,_,_,_,_,_,_,_,_,_,_,_,_,_,_,_,_,_,_,_,_]) rfl ?_
      refine swr_det (met_none rfl) (fun h_ H_ => exd_move (v := .slice a22 ((wea ds).length) cp23) rfl) rfl ?_
      refine swr_det (met_none rfl) (fun h_ H_ => exd_move (v := .int .i64 (((k : Nat) : Int))) rfl) (tm' := [_,_,_,_,_,_,_,_,_,_,_,_,_,_,_,_,_,_,_,_,_,_,_,_,_,_,_,_,_,_,_,_,_,_,_,_,_,_,_,_,_,_,_,_,_,_,_,_,_,_,_,_,_]) rfl ?_
      refine swr_det (met_none rfl) (fun h_ H_ => exd_indexAddrN (i := k) Try.underlying81 tS30 (sl_ne a22 ((wea ds).length) cp23 (T14.ne (by omega))) rfl (by omega)) rfl ?_
      refine swr_det (met_none rfl) (fun h_ H_ => exd_fieldAddr tF30_1 rfl (a' := ((adr a22).add (k * 3)).add 1) rfl) (tm' := [_,_,_,_,_,_,_,_,_,_,_,_,_,_,_,_,_,_,_,_,_,_,_,_,_,_,_,_,_,_,_,_,_,_,_,_,_,_,_,_,_,_,_,_,_,_,_,_,_,_,_,_,_]) rfl ?_
      refine swr_det (met_none rfl) (fun h_ H_ => exd_load_per H_ tA25 rfl (v := .slice (A17 k) n (C18 k)) (T14.cell2 _ (by omega))) rfl ?_
      refine swr_det (met_none rfl) (fun h_ H_ => exd_move (v := .int .i64 (day)) rfl) (tm' := [_,_,_,_,_,_,_,_,_,_,_,_,_,_,_,_,_,_,_,_,_,_,_,_,_,_,_,_,_,_,_,_,_,_,_,_,_,_,_,_,_,_,_,_,_,_,_,_,_,_,_,_,_]) rfl ?_
      refine swr_det (met_none rfl) (fun h_ H_ => exd_indexAddr Try.underlying25 tS3 (sl_ne (A17 k) n (C18 k) ((T14.ints2 _ (by omega)).ne (by omega))) rfl (by omega) (by omega) (a' := (adr (A17 k)).add ((day).toNat * 1)) rfl) rfl ?_
      refine swr_det (met_none rfl) (fun h_ H_ => exd_load_per H_ tA3 rfl (v := .int .i64 ((yFK size start ds n k).getD ((day).toNat) 0)) ((T14.ints2 _ (by omega)).get (by omega))) (tm' := [_,_,_,_,_,_,_,_,_,_,_,_,_,_,_,_,_,_,_,_,_,_,_,_,_,_,_,_,_,_,_,_,_,_,_,_,_,_,_,_,_,_,_,_,_,_,_,_,_,_,_,_,_]) rfl ?_
      refine swr_nil rfl ?_
      refine rl_calld (met_none rfl) (first := []) (cap := []) rfl rfl fC78 (fun h_ H_ => c78 md _ (mnF (gK size start ds n (day).toNat) k) (mxF (gK size start ds n (day).toNat) k) ((yFK size start ds n k).getD ((day).toNat) 0)) (tm' := [_,_,_,_,_,_,_,_,_,_,_,_,_,_,_,_,_,_,_,_,_,_,_,_,_,_,_,_,_,_,_,_,_,_,_,_,_,_,_,_,_,_,_,_,_,_,_,_,_,_,_,_,_]) rfl ?_
      refine rl_store (met_none rfl) tS36 rfl (v := .agg #[.int .i64 (min (mnF (gK size start ds n (day).toNat) k) ((yFK size start ds n k).getD ((day).toNat) 0)), .int .i64 (max (mxF (gK size start ds n (day).toNat) k) ((yFK size start ds n k).getD ((day).toNat) 0))]) rfl (i := 0) rfl rfl rfl (Nat.le_of_ble_eq_true rfl) (cs2 := [.int .i64 (min (mnF (gK size start ds n (day).toNat) k) ((yFK size start ds n k).getD ((day).toNat) 0)), .int .i64 (max (mxF (gK size start ds n (day).toNat) k) ((yFK size start ds n k).getD ((day).toNat) 0))]) rfl (rl_own (L' := [(b28, .cells #[.int .i64 (min (mnF (gK size start ds n (day).toNat) k) ((yFK size start ds n k).getD ((day).toNat) 0)), .int .i64 (max (mxF (gK size start ds n (day).toNat) k) ((yFK size start ds n k).getD ((day).toNat) 0))] 36 (0, 0)), (b2, .cells #[.int .i64 0, .int .i64 0] 36 (0, 0)), (b1, .cells #[.int .i64 (size), .int .i64 (start), .slice a n c] 24 (0, 0))]) rfl ?_)
      refine rl_end ?_
      refine fl_inBlock ?_
      refine rl_start ?_
      refine rl_det (met_none rfl) (fun h_ H_ => exd_move (v := .int .i64 (((k : Nat) : Int))) rfl) rfl ?_
      refine rl_det (met_none rfl) (fun h_ H_ => exd_add rfl rfl (n := ((k + 1 : Nat) : Int)) (wr (by omega))) rfl ?_
      refine rl_det (met_none rfl) (fun h_ H_ => exd_assign (v := .int .i64 (((k + 1 : Nat) : Int))) rfl) (tm' := _::_::_::_::_::_::_::_::_::_::_) rfl ?_
      refine rl_end ?_
      exact fun h_ H_ => IH32 _ _ (by omega) h_ ⟨k + 1, rfl, (y_of rfl), (by omega), H_⟩
    · refine fl_else rfl (decide_eq_false cc33) ?_
      refine fl_exit rfl ?_
      refine fl_seq ?_
      refine rl_start ?_
      refine rl_det (met_none rfl) (fun h_ H_ => exd_loadN_own H_ tA36 tS36 rfl (i := 0) rfl (vs := [.int .i64 (mnF (gK size start ds n (day).toNat) k), .int .i64 (mxF (gK size start ds n (day).toNat) k)]) rfl rfl) rfl ?_
      refine rl_store (met_none rfl) tS36 rfl (v := .agg #[.int .i64 (mnF (gK size start ds n (day).toNat) k), .int .i64 (mxF (gK size start ds n (day).toNat) k)]) rfl (i := 1) rfl rfl rfl (Nat.le_of_ble_eq_true rfl) (cs2 := [.int .i64 (mnF (gK size start ds n (day).toNat) k), .int .i64 (mxF (gK size start ds n (day).toNat) k)]) rfl (rl_own (L' := [(b28, .cells #[.int .i64 (mnF (gK size start ds n (day).toNat) k), .int .i64 (mxF (gK size start ds n (day).toNat) k)] 36 (0, 0)), (b2, .cells #[.int .i64 (mnF (gK size start ds n (day).toNat) k), .int .i64 (mxF (gK size start ds n (day).toNat) k)] 36 (0, 0)), (b1, .cells #[.int .i64 (size), .int .i64 (start), .slice a n c] 24 (0, 0))]) rfl ?_)
      refine rl_det (met_none rfl) (fun h_ H_ => exd_assign (v := .int .i64 0) rfl) rfl ?_
      refine rl_end ?_
      refine fl_ret Try.func42 rfl (vs := [.agg #[.int .i64 (mnF (gK size start ds n (day).toNat) k), .int .i64 (mxF (gK size start ds n (day).toNat) k)], .int .i64 0]) (fun h_ H_ => ⟨.agg #[.int .i64 (mnF (gK size start ds n (day).toNat) k), .int .i64 (mxF (gK size start ds n (day).toNat) k)], _, rfl, (wpS_bind (wpS_pure (wpS_loadVarN tA36 tS36 (vs := [.int .i64 (mnF (gK size start ds n (day).toNat) k), .int .i64 (mxF (gK size start ds n (day).toNat) k)]) rfl (fun j_ v_ e_ => by rw [add_mk]; exact H_.ocell (i := 1) rfl (by simpa using e_)) ⟨rfl, rfl⟩))), ⟨.int .i64 0, _, rfl, rfl, rfl⟩⟩) (v := .tuple #[.agg #[.int .i64 (mnF (gK size start ds n (day).toNat) k), .int .i64 (mxF (gK size start ds n (day).toNat) k)], .int .i64 0]) rfl ?_
      obtain rfl : k = (wea ds).length := by omega
      exact fun h_ H_ => K _ _ ⟨by rw [lack_ref hOk hday hl], H_.kept⟩
theorem c82 (md : Md) (h : Heap) (p : PHeap) (hp : Per p h) (a1 a2 a3 : Option Addr) (n1 n2 n c1 c2 c3 : Nat) (xs : List Int) (A3 : Ints p a3 n xs) (hn : n ≤ 40) (hx : ∀ i, i < n → 0 ≤ xs.getD i 0 ∧ xs.getD i 0 ≤ 100) (m : Int) : CallsX Try.prog md 82 #[.agg #[.slice a1 n1 c1, .slice a2 n2 c2, .slice a3 n c3], .int .i64 (m)] h fun v h' => v = .int .i64 (whenX xs n m) ∧ Keep h h' := by
  refine calls_intro (Φ := fun h_ => St h [] p h_ []) Try.func82 rfl (tm := [_, _, _, _, _, _, _, _, _, _, _, _, _, _, _, _, _, _, _, _]) rfl ?_ (St.start h _ hp)
  intro c₀ cs Stop K
  refine fl_seq ?_
  refine rl_start ?_
  refine rl_box (met_none rfl) (v := .agg #[.slice a1 n1 c1, .slice a2 n2 c2, .slice a3 n c3]) rfl fun b1 => rl_own (L' := [(b1, .cells #[.slice a1 n1 c1, .slice a2 n2 c2, .slice a3 n c3] 30 (0, 0))]) rfl ?_
  refine rl_det (met_none rfl) (fun h_ H_ => exd_assign (v := .int .i64 0) rfl) rfl ?_
  refine rl_end ?_
  refine fl_seq ?_
  refine fl_seq ?_
  refine rl_start ?_
  refine rl_det (met_none rfl) (fun h_ H_ => exd_assign (v := .int .i64 0) rfl) (tm' := _::_::_::_::_::_::_) rfl ?_
  refine rl_end ?_
  refine fl_block ?_
  refine fl_loop (m₀ := n - 0) (fun m_ tm_ h_ => ∃ (k : Nat), m_ = n - k ∧ (∃ y2 : Nat → Value, tm_ = [.agg #[.slice a1 n1 c1, .slice a2 n2 c2, .slice a3 n c3], .int .i64 (m), .pointer (some ⟨b1, 0, none⟩), undef, (y2 4), .int .i64 (((k : Nat) : Int)), (y2 6), (y2 7), (y2 8), (y2 9), (y2 10), (y2 11), (y2 12), (y2 13), (y2 14), (y2 15), (y2 16), (y2 17), (y2 18), (y2 19)]) ∧ (k ≤ n) ∧ (upTo (fun k => decide (m ≤ sumTo (listOf xs) (k + 1))) 0 n = upTo (fun k => decide (m ≤ sumTo (listOf xs) (k + 1))) k (n - k)) ∧ St h [] p h_ ([(b1, .cells #[.slice a1 n1 c1, .slice a2 n2 c2, .slice a3 n c3] 30 (0, 0))])) (fun h_ H_ => ⟨0, rfl, (y_of rfl), Nat.zero_le _, rfl, H_⟩) ?_
  intro m_ tm_ IH3
  refine rs_ex fun k => rs_and fun hm_ => rs_and fun ht_ => rs_and fun hk => rs_and fun hu => ?_
  subst hm_; obtain ⟨y2, ht_⟩ := ht_; subst ht_
  have hsk : k < n → sumTo (listOf xs) (min n (((k : Nat) : Int) + 1).toNat) = sumTo (listOf xs) (k + 1) := fun h_ => by rw [show min n (((k : Nat) : Int) + 1).toNat = k + 1 from by omega]
  refine fl_seq ?_
  refine fl_seq ?_
  refine rl_start ?_
  refine rl_det (met_none rfl) (fun h_ H_ => exd_move (v := .int .i64 (((k : Nat) : Int))) rfl) rfl ?_
  refine rl_det (met_none rfl) (fun h_ H_ => exd_fieldAddr tF30_2 rfl (a' := ⟨b1, 2, none⟩) rfl) rfl ?_
  refine rl_det (met_none rfl) (fun h_ H_ => exd_load_own H_ tA25 rfl (i := 0) rfl (v := .slice a3 n c3) rfl) (tm' := _::_::_::_::_::_::_::_::_::_) rfl ?_
  refine rl_det (met_none rfl) (fun h_ H_ => exd_len Try.underlying25 rfl) rfl ?_
  refine rl_det (met_none rfl) (fun h_ H_ => exd_lss rfl rfl) rfl ?_
  refine rl_end ?_
  by_cases cc4 : ((k : Nat) : Int) < ((n : Nat) : Int)
  · refine fl_then rfl (decide_eq_true cc4) ?_
    refine fl_skip ?_
    refine fl_seq ?_
    refine fl_block ?_
    refine fl_seq ?_
    refine rl_start ?_
    refine rl_det (met_none rfl) (fun h_ H_ => exd_fieldAddr tF30_2 rfl (a' := ⟨b1, 2, none⟩) rfl) (tm' := [_,_,_,_,_,_,_,_,_,_,_,_,_,_,_,_,_,_,_,_]) rfl ?_
    refine rl_det (met_none rfl) (fun h_ H_ => exd_load_own H_ tA25 rfl (i := 0) rfl (v := .slice a3 n c3) rfl) rfl ?_
    refine rl_det (met_none rfl) (fun h_ H_ => exd_move (v := .int .i64 (((k : Nat) : Int))) rfl) rfl ?_
    refine rl_calld (met_none rfl) (first := []) (cap := []) rfl rfl fC20 (fun h_ H_ => c20 md _ _ (fun b_ o_ e_ => H_.per b_ o_ e_) _ _ _ _ A3 (by omega) ((k : Nat) : Int) hx) (tm' := [_,_,_,_,_,_,_,_,_,_,_,_,_,_,_,_,_,_,_,_]) rfl ?_
    refine rl_det (met_none rfl) (fun h_ H_ => exd_move (v := .int .i64 (m)) rfl) rfl ?_
    refine rl_det (met_none rfl) (fun h_ H_ => exd_geq rfl rfl) rfl ?_
    refine rl_end ?_
    by_cases cc5 : m ≤ sumTo (listOf xs) (min n (((k : Nat) : Int) + 1).toNat)
    · refine fl_then rfl (decide_eq_true cc5) ?_
      refine fl_seq ?_
      refine rl_start ?_
      refine rl_det (met_none rfl) (fun h_ H_ => exd_move (v := .int .i64 (((k : Nat) : Int))) rfl) (tm' := [_,_,_,_,_,_,_,_,_,_,_,_,_,_,_,_,_,_,_,_]) rfl ?_
      refine rl_det (met_none rfl) (fun h_ H_ => exd_assign (v := .int .i64 (((k : Nat) : Int))) rfl) rfl ?_
      refine rl_end ?_
      refine fl_ret Try.func82 rfl (vs := [.int .i64 (((k : Nat) : Int))]) (fun h_ H_ => ⟨.int .i64 (((k : Nat) : Int)), _, rfl, rfl, rfl⟩) (v := .int .i64 (((k : Nat) : Int))) rfl ?_
      exact fun h_ H_ => K _ _ ⟨by have e_ := hu.trans (upTo_hit (by omega) (decide_eq_true (by have h_ := ‹m ≤ sumTo _ _›; rw [hsk (by omega)] at h_; exact h_))); unfold whenX; simp only [e_], H_.kept⟩
    · refine fl_else rfl (decide_eq_false cc5) ?_
      refine fl_skip ?_
      refine fl_inBlock ?_
      refine rl_start ?_
      refine rl_det (met_none rfl) (fun h_ H_ => exd_move (v := .int .i64 (((k : Nat) : Int))) rfl) rfl ?_
      refine rl_det (met_none rfl) (fun h_ H_ => exd_add rfl rfl (n := ((k + 1 : Nat) : Int)) (wr (by omega))) (tm' := _::_::_::_::_::_::_::_::_::_::_::_::_::_) rfl ?_
      refine rl_det (met_none rfl) (fun h_ H_ => exd_assign (v := .int .i64 (((k + 1 : Nat) : Int))) rfl) rfl ?_
      refine rl_end ?_
      exact fun h_ H_ => IH3 _ _ (by omega) h_ ⟨k + 1, rfl, (y_of rfl), (by omega), (hu.trans (upTo_miss (by omega) (decide_eq_false (by have h_ := ‹¬ m ≤ sumTo _ _›; rw [hsk (by omega)] at h_; exact h_)))), H_⟩
  · refine fl_else rfl (decide_eq_false cc4) ?_
    refine fl_exit rfl ?_
    refine fl_seq ?_
    refine rl_start ?_
    refine rl_det (met_none rfl) (fun h_ H_ => exd_assign (v := .int .i64 (-1)) rfl) rfl ?_
    refine rl_end ?_
    refine fl_ret Try.func82 rfl (vs := [.int .i64 (-1)]) (fun h_ H_ => ⟨.int .i64 (-1), _, rfl, rfl, rfl⟩) (v := .int .i64 (-1)) rfl ?_
    exact fun h_ H_ => K _ _ ⟨by have e_ := hu.trans (upTo_end (by omega)); unfold whenX; simp only [e_], H_.kept⟩
theorem c54 (md : Md) (h : Heap) (p : PHeap) (hp : Per p h) (size start : Int) (a : Option Addr) (n c : Nat) (ds : List Day) (D : Days p a n ds) (hn : n ≤ 40) (hc0 : Ok size start ds → (wea ds).length ≤ 60) (amt : Int) : CallsX Try.prog md 54 #[.agg #[.int .i64 (size), .int .i64 (start), .slice a n c], .int .i64 (amt)] h fun v h' => v = .tuple #[.agg #[.int .i64 (rightR size start ds amt).1.1, .int .i64 (rightR size start ds amt).1.2], .int .i64 (rightR size start ds amt).2] ∧ Keep h h' := by
  refine calls_intro (Φ := fun h_ => St h [] p h_ []) Try.func54 rfl (tm := [_, _, _, _, _, _, _, _, _, _, _, _, _, _, _, _, _, _, _, _, _, _, _, _, _, _, _, _, _, _, _, _, _, _, _, _, _, _, _, _, _, _, _, _, _, _, _, _]) rfl ?_ (St.start h _ hp)
  intro c₀ cs Stop K
  have hl := D.len
  refine fl_seq ?_
  refine rl_start ?_
  refine rl_box (met_none rfl) (v := .agg #[.int .i64 (size), .int .i64 (start), .slice a n c]) rfl fun b1 => rl_own (L' := [(b1, .cells #[.int .i64 (size), .int .i64 (start), .slice a n c] 24 (0, 0))]) rfl ?_
  refine rl_norm (tm' := _::_::_::_) rfl ?_
  refine rl_alloc (met_none rfl) tZ36 rfl fun b2 => rl_own (L' := [(b2, .cells #[.int .i64 0, .int .i64 0] 36 (0, 0)), (b1, .cells #[.int .i64 (size), .int .i64 (start), .slice a n c] 24 (0, 0))]) rfl ?_
  refine rl_det (met_none rfl) (fun h_ H_ => exd_assign (v := .int .i64 0) rfl) rfl ?_
  refine rl_end ?_
  refine fl_seq ?_
  refine fl_seq ?_
  refine fl_drawn2 3 [[], [], [1], [], []] mixed (by kernel_rfl) (Nat.le_of_ble_eq_true rfl) ?_
  refine swr_det (met_none rfl) (fun h_ H_ => exd_loadN_own H_ tA24 tS24 rfl (i := 1) rfl (vs := [.int .i64 (size), .int .i64 (start), .slice a n c]) rfl rfl) rfl ?_
  refine swr_det (met_none rfl) (fun h_ H_ => exd_move (v := .int .i64 (amt)) rfl) (tm' := _::_::_::_::_::_::_::_::_::_::_::_::_::_) rfl ?_
  refine swr_call (met_none rfl) (first := []) (cap := []) rfl rfl fC60 (fun h_ H_ => (c60 md _ (amt) (1) (999)).mono fun v_ h2_ ⟨e_, k_⟩ => ⟨e_, H_.call k_⟩) rfl ?_
  refine swr_nil rfl ?_
  refine rl_calld (met_none rfl) (first := []) (cap := []) rfl rfl fC74 (fun h_ H_ => c74 md _ _ (fun b_ o_ e_ => H_.per b_ o_ e_) (size) (start) _ _ _ _ D (by omega) (decide (1 ≤ amt ∧ amt ≤ 999))) (tm' := _::_::_::_::_::_::_::_::_::_::_::_::_::_::_::_) rfl ?_
  refine rl_det (met_none rfl) (fun h_ H_ => exd_assign (v := .int .i64 (askd (size) (start) ds (decide (1 ≤ amt ∧ amt ≤ 999)))) rfl) rfl ?_
  refine rl_end ?_
  refine fl_seq ?_
  refine rl_start ?_
  refine rl_det (met_none rfl) (fun h_ H_ => exd_move (v := .int .i64 (askd (size) (start) ds (decide (1 ≤ amt ∧ amt ≤ 999)))) rfl) rfl ?_
  refine rl_det (met_none rfl) (fun h_ H_ => exd_neq rfl rfl) (tm' := _::_::_::_::_::_::_::_::_::_::_::_::_::_::_::_::_::_) rfl ?_
  refine rl_end ?_
  by_cases cc3 : askd (size) (start) ds (decide (1 ≤ amt ∧ amt ≤ 999)) ≠ 0
  · refine fl_then rfl (decide_eq_true cc3) ?_
    refine fl_seq ?_
    refine rl_start ?_
    refine rl_det (met_none rfl) (fun h_ H_ => exd_build tZ36 tP36 (vs := []) rfl (cells := #[.int .i64 0, .int .i64 0]) rfl) rfl ?_
    refine rl_det (met_none rfl) (fun h_ H_ => exd_move (v := .int .i64 (askd (size) (start) ds (decide (1 ≤ amt ∧ amt ≤ 999)))) rfl) rfl ?_
    refine rl_store (met_none rfl) tS36 rfl (v := .agg #[.int .i64 0, .int .i64 0]) rfl (i := 0) rfl rfl rfl (Nat.le_of_ble_eq_true rfl) (cs2 := [.int .i64 0, .int .i64 0]) rfl (rl_own (L' := [(b2, .cells #[.int .i64 0, .int .i64 0] 36 (0, 0)), (b1, .cells #[.int .i64 (size), .int .i64 (start), .slice a n c] 24 (0, 0))]) rfl ?_)
    refine rl_det (met_none rfl) (fun h_ H_ => exd_assign (v := .int .i64 (askd (size) (start) ds (decide (1 ≤ amt ∧ amt ≤ 999)))) rfl) (tm' := _::_::_::_::_::_::_) rfl ?_
    refine rl_end ?_
    refine fl_ret Try.func54 rfl (vs := [.agg #[.int .i64 0, .int .i64 0], .int .i64 (askd (size) (start) ds (decide (1 ≤ amt ∧ amt ≤ 999)))]) (fun h_ H_ => ⟨.agg #[.int .i64 0, .int .i64 0], _, rfl, (wpS_bind (wpS_pure (wpS_loadVarN tA36 tS36 (vs := [.int .i64 0, .int .i64 0]) rfl (fun j_ v_ e_ => by rw [add_mk]; exact H_.ocell (i := 0) rfl (by simpa using e_)) ⟨rfl, rfl⟩))), ⟨.int .i64 (askd (size) (start) ds (decide (1 ≤ amt ∧ amt ≤ 999))), _, rfl, rfl, rfl⟩⟩) (v := .tuple #[.agg #[.int .i64 0, .int .i64 0], .int .i64 (askd (size) (start) ds (decide (1 ≤ amt ∧ amt ≤ 999)))]) rfl ?_
    exact fun h_ H_ => K _ _ ⟨by unfold rightR; rw [if_neg ‹_›], H_.kept⟩
  · refine fl_else rfl (decide_eq_false cc3) ?_
    refine fl_skip ?_
    refine fl_seq ?_
    have h0 : askd size start ds (decide (1 ≤ amt ∧ amt ≤ 999)) = 0 := by omega
    have hOk : Ok size start ds := (askd_zero.1 h0).1
    have hL := hOk.lok
    have hd := hOk.dok
    have h8 := hOk.2.2.2.2.1
    have hc := hc0 hOk
    have hpos := wea_pos hd
    have hamt : 1 ≤ amt ∧ amt ≤ 999 := of_decide_eq_true (askd_zero.1 h0).2
    refine rl_start ?_
    refine rl_det (met_none rfl) (fun h_ H_ => exd_loadN_own H_ tA24 tS24 rfl (i := 1) rfl (vs := [.int .i64 (size), .int .i64 (start), .slice a n c]) rfl rfl) rfl ?_
    refine rl_own (L' := ([(b2, .cells #[.int .i64 0, .int .i64 0] 36 (0, 0)), (b1, .cells #[.int .i64 (size), .int .i64 (start), .slice a n c] 24 (0, 0))] : Pcs) ++ []) rfl ?_
    refine rl_call (met_none rfl) (first := []) (cap := []) rfl rfl fC77 (R := fun v_ h_ => ∃ w10 : Value, ∃ es4 : List (List Value), ∃ X5 : Pcs, ∃ Z6 : Pcs, v_ = w10 ∧ (OwnS 30 3 w10 es4 X5) ∧ (InnS p n (yFL size start ds n) (yFK size start ds n) (yFO size start ds n) es4 (wea ds).length Z6) ∧ (es4.length = (wea ds).length) ∧ St h [] p h_ (([(b2, .cells #[.int .i64 0, .int .i64 0] 36 (0, 0)), (b1, .cells #[.int .i64 (size), .int .i64 (start), .slice a n c] 24 (0, 0))] : Pcs) ++ ((X5 ++ (Z6 ++ [])) ++ []))) (fun h_ H_ => (c77w md _ _ (fun b_ o_ e_ => H_.per b_ o_ e_) (size) (start) _ _ _ _ D (by omega) hL hc).mono fun v_ h2_ ⟨w10, es4, X5, Z6, e_, o7, i8, el9, N_⟩ => ⟨w10, es4, X5, Z6, e_, o7, i8, el9, H_.callNA N_⟩) fun v_ => ?_
    refine rl_ex fun w10 => rl_ex fun es4 => rl_ex fun X5 => rl_ex fun Z6 => rl_and fun ev_ => rl_and fun o7 => rl_and fun i8 => rl_and fun el9 => ?_
    have ev_ := ev_.symm; subst ev_
    refine rl_own (L' := ([(b2, .cells #[.int .i64 0, .int .i64 0] 36 (0, 0)), (b1, .cells #[.int .i64 (size), .int .i64 (start), .slice a n c] 24 (0, 0))] : Pcs) ++ (X5 ++ (Z6 ++ []))) (by simp) ?_
    refine rl_det (met_none rfl) (fun h_ H_ => exd_assign (v := w10) rfl) (tm' := _::_::_::_::_::_::_::_::_) rfl ?_
    refine rl_end ?_
    refine fl_seq ?_
    refine rs_perm (List.Perm.append_left _ (List.perm_append_comm_assoc _ _ _)) ?_
    refine rs_own (L' := ([(b2, .cells #[.int .i64 0, .int .i64 0] 36 (0, 0)), (b1, .cells #[.int .i64 (size), .int .i64 (start), .slice a n c] 24 (0, 0))] : Pcs) ++ (Z6 ++ (X5 ++ []))) rfl ?_
    refine rs_lastX (A := ([(b2, .cells #[.int .i64 0, .int .i64 0] 36 (0, 0)), (b1, .cells #[.int .i64 (size), .int .i64 (start), .slice a n c] 24 (0, 0))] : Pcs)) (Z := Z6) fun p11 le12 hz13 => ?_
    refine rs_lastN (A := ([(b2, .cells #[.int .i64 0, .int .i64 0] 36 (0, 0)), (b1, .cells #[.int .i64 (size), .int .i64 (start), .slice a n c] 24 (0, 0))] : Pcs)) o7 el9 fun p21 a22 cp23 le24 ev_ D25 => ?_
    subst ev_
    refine rs_own (L' := [(b2, .cells #[.int .i64 0, .int .i64 0] 36 (0, 0)), (b1, .cells #[.int .i64 (size), .int .i64 (start), .slice a n c] 24 (0, 0))]) rfl ?_
    obtain ⟨A15, C16, A17, C18, A19, C20, T14⟩ := (i8 _ (le12.trans le24) (fun x_ hx_ => le24 _ _ (hz13 x_ hx_))).tab D25
    refine rl_start ?_
    refine rl_det (met_none rfl) (fun h_ H_ => exd_move (v := .slice a22 ((wea ds).length) cp23) rfl) rfl ?_
    refine rl_det (met_none rfl) (fun h_ H_ => exd_indexAddrN (i := 0) Try.underlying81 tS30 (sl_ne a22 ((wea ds).length) cp23 (T14.ne (by omega))) rfl (by omega)) rfl ?_
    refine rl_det (met_none rfl) (fun h_ H_ => exd_loadN_per H_ tA30 tS30 rfl (vs := [.slice (A15 0) n (C16 0), .slice (A17 0) n (C18 0), .slice (A19 0) n (C20 0)]) rfl (T14.all (by omega))) (tm' := _::_::_::_::_::_::_::_::_::_::_::_::_::_::_::_::_::_::_::_::_::_::_::_::_) rfl ?_
    refine rl_det (met_none rfl) (fun h_ H_ => exd_move (v := .int .i64 (amt)) rfl) rfl ?_
    refine rl_calld (met_none rfl) (first := []) (cap := []) rfl rfl fC82 (fun h_ H_ => c82 md _ _ (fun b_ o_ e_ => H_.per b_ o_ e_) _ _ _ _ _ _ _ _ _ _ (T14.ints3 _ (by omega)) (by omega) (fo_ok hL hl (by omega)) amt) rfl ?_
    refine rl_det (met_none rfl) (fun h_ H_ => exd_assign (v := .int .i64 (whenX (yFO size start ds n 0) n amt)) rfl) (tm' := _::_::_::_::_::_::_::_::_::_) rfl ?_
    refine rl_end ?_
    refine fl_seq ?_
    refine rl_start ?_
    refine rl_det (met_none rfl) (fun h_ H_ => exd_move (v := .int .i64 (whenX (yFO size start ds n 0) n amt)) rfl) rfl ?_
    refine rl_det (met_none rfl) (fun h_ H_ => exd_move (v := .int .i64 (whenX (yFO size start ds n 0) n amt)) rfl) rfl ?_
    refine rl_det (met_none rfl) (fun h_ H_ => exd_build tZ36 tP36 (vs := [(0, .int .i64 (whenX (yFO size start ds n 0) n amt)), (1, .int .i64 (whenX (yFO size start ds n 0) n amt))]) rfl (cells := #[.int .i64 (whenX (yFO size start ds n 0) n amt), .int .i64 (whenX (yFO size start ds n 0) n amt)]) rfl) (tm' := _::_::_::_::_::_::_::_::_::_::_::_::_::_::_::_::_::_::_::_::_::_::_::_::_::_::_::_::_::_) rfl ?_
    refine rl_alloc (met_none rfl) tZ36 rfl fun b26 => rl_own (L' := [(b26, .cells #[.int .i64 0, .int .i64 0] 36 (0, 0)), (b2, .cells #[.int .i64 0, .int .i64 0] 36 (0, 0)), (b1, .cells #[.int .i64 (size), .int .i64 (start), .slice a n c] 24 (0, 0))]) rfl ?_
    refine rl_store (met_none rfl) tS36 rfl (v := .agg #[.int .i64 (whenX (yFO size start ds n 0) n amt), .int .i64 (whenX (yFO size start ds n 0) n amt)]) rfl (i := 0) rfl rfl rfl (Nat.le_of_ble_eq_true rfl) (cs2 := [.int .i64 (whenX (yFO size start ds n 0) n amt), .int .i64 (whenX (yFO size start ds n 0) n amt)]) rfl (rl_own (L' := [(b26, .cells #[.int .i64 (whenX (yFO size start ds n 0) n amt), .int .i64 (whenX (yFO size start ds n 0) n amt)] 36 (0, 0)), (b2, .cells #[.int .i64 0, .int .i64 0] 36 (0, 0)), (b1, .cells #[.int .i64 (size), .int .i64 (start), .slice a n c] 24 (0, 0))]) rfl ?_)
    refine rl_end ?_
    refine fl_seq ?_
    refine fl_seq ?_
    refine rl_start ?_
    refine rl_det (met_none rfl) (fun h_ H_ => exd_assign (v := .int .i64 0) rfl) rfl ?_
    refine rl_end ?_
    refine fl_block ?_
    refine fl_loop (m₀ := (wea ds).length - 0) (fun m_ tm_ h_ => ∃ (k : Nat), m_ = (wea ds).length - k ∧ (∃ y27 : Nat → Value, tm_ = [.agg #[.int .i64 (size), .int .i64 (start), .slice a n c], .int .i64 (amt), .pointer (some ⟨b1, 0, none⟩), undef, .pointer (some ⟨b2, 0, none⟩), .int .i64 0, .int .i64 (askd (size) (start) ds (decide (1 ≤ amt ∧ amt ≤ 999))), .slice a22 ((wea ds).length) cp23, .int .i64 (whenX (yFO size start ds n 0) n amt), .pointer (some ⟨b26, 0, none⟩), .int .i64 (((k : Nat) : Int)), .agg #[.int .i64 (size), .int .i64 (start), .slice a n c], .int .i64 (amt), .bool (decide (1 ≤ amt ∧ amt ≤ 999)), .int .i64 (askd (size) (start) ds (decide (1 ≤ amt ∧ amt ≤ 999))), .int .i64 (askd (size) (start) ds (decide (1 ≤ amt ∧ amt ≤ 999))), .bool (decide (askd (size) (start) ds (decide (1 ≤ amt ∧ amt ≤ 999)) ≠ 0)), undef, undef, .agg #[.int .i64 (size), .int .i64 (start), .slice a n c], .slice a22 ((wea ds).length) cp23, .slice a22 ((wea ds).length) cp23, .pointer (some ((adr a22).add (0 * 3))), .agg #[.slice (A15 0) n (C16 0), .slice (A17 0) n (C18 0), .slice (A19 0) n (C20 0)], .int .i64 (amt), .int .i64 (whenX (yFO size start ds n 0) n amt), .int .i64 (whenX (yFO size start ds n 0) n amt), .int .i64 (whenX (yFO size start ds n 0) n amt), .agg #[.int .i64 (whenX (yFO size start ds n 0) n amt), .int .i64 (whenX (yFO size start ds n 0) n amt)], (y27 29), (y27 30), (y27 31), (y27 32), (y27 33), (y27 34), (y27 35), (y27 36), (y27 37), (y27 38), (y27 39), (y27 40), (y27 41), (y27 42), undef, undef, undef, undef, undef]) ∧ (k ≤ (wea ds).length) ∧ St h [] p21 h_ ([(b26, .cells #[.int .i64 (mnF (gR size start ds n amt) k), .int .i64 (mxF (gR size start ds n amt) k)] 36 (0, 0)), (b2, .cells #[.int .i64 0, .int .i64 0] 36 (0, 0)), (b1, .cells #[.int .i64 (size), .int .i64 (start), .slice a n c] 24 (0, 0))])) (fun h_ H_ => ⟨0, rfl, (y_of rfl), Nat.zero_le _, H_⟩) ?_
    intro m_ tm_ IH28
    refine rs_ex fun k => rs_and fun hm_ => rs_and fun ht_ => rs_and fun hk => ?_
    subst hm_; obtain ⟨y27, ht_⟩ := ht_; subst ht_
    refine fl_seq ?_
    refine fl_seq ?_
    refine rl_start ?_
    refine rl_det (met_none rfl) (fun h_ H_ => exd_move (v := .int .i64 (((k : Nat) : Int))) rfl) (tm' := _::_::_::_::_::_::_::_::_::_::_::_::_::_::_::_::_::_::_::_::_::_::_::_::_::_::_::_::_::_::_) rfl ?_
    refine rl_det (met_none rfl) (fun h_ H_ => exd_move (v := .slice a22 ((wea ds).length) cp23) rfl) rfl ?_
    refine rl_det (met_none rfl) (fun h_ H_ => exd_len Try.underlying81 rfl) rfl ?_
    refine rl_det (met_none rfl) (fun h_ H_ => exd_lss rfl rfl) (tm' := [_,_,_,_,_,_,_,_,_,_,_,_,_,_,_,_,_,_,_,_,_,_,_,_,_,_,_,_,_,_,_,_,_,_,_,_,_,_,_,_,_,_,_,_,_,_,_,_]) rfl ?_
    refine rl_end ?_
    by_cases cc29 : ((k : Nat) : Int) < (((wea ds).length : Nat) : Int)
    · refine fl_then rfl (decide_eq_true cc29) ?_
      refine fl_skip ?_
      refine fl_seq ?_
      refine fl_block ?_
      refine fl_drawn2 7 [[], [], [], [1, 2], [1, 2, 3], [], [1, 2, 3, 4, 5], [], []] mixed (by kernel_rfl) (Nat.le_of_ble_eq_true rfl) ?_
      refine swr_det (met_none rfl) (fun h_ H_ => exd_loadN_own H_ tA36 tS36 rfl (i := 0) rfl (vs := [.int .i64 (mnF (gR size start ds n amt) k), .int .i64 (mxF (gR size start ds n amt) k)]) rfl rfl) rfl ?_
      refine swr_det (met_none rfl) (fun h_ H_ => exd_move (v := .slice a22 ((wea ds).length) cp23) rfl) (tm' := [_,_,_,_,_,_,_,_,_,_,_,_,_,_,_,_,_,_,_,_,_,_,_,_,_,_,_,_,_,_,_,_,_,_,_,_,_,_,_,_,_,_,_,_,_,_,_,_]) rfl ?_
      refine swr_det (met_none rfl) (fun h_ H_ => exd_move (v := .int .i64 (((k : Nat) : Int))) rfl) rfl ?_
      refine swr_det (met_none rfl) (fun h_ H_ => exd_indexAddrN (i := k) Try.underlying81 tS30 (sl_ne a22 ((wea ds).length) cp23 (T14.ne (by omega))) rfl (by omega)) (tm' := [_,_,_,_,_,_,_,_,_,_,_,_,_,_,_,_,_,_,_,_,_,_,_,_,_,_,_,_,_,_,_,_,_,_,_,_,_,_,_,_,_,_,_,_,_,_,_,_]) rfl ?_
      refine swr_det (met_none rfl) (fun h_ H_ => exd_loadN_per H_ tA30 tS30 rfl (vs := [.slice (A15 k) n (C16 k), .slice (A17 k) n (C18 k), .slice (A19 k) n (C20 k)]) rfl (T14.all (by omega))) rfl ?_
      refine swr_det (met_none rfl) (fun h_ H_ => exd_move (v := .int .i64 (amt)) rfl) (tm' := [_,_,_,_,_,_,_,_,_,_,_,_,_,_,_,_,_,_,_,_,_,_,_,_,_,_,_,_,_,_,_,_,_,_,_,_,_,_,_,_,_,_,_,_,_,_,_,_]) rfl ?_
      refine swr_call (met_none rfl) (first := []) (cap := []) rfl rfl fC82 (fun h_ H_ => (c82 md _ _ (fun b_ o_ e_ => H_.per b_ o_ e_) _ _ _ _ _ _ _ _ _ _ (T14.ints3 _ (by omega)) (by omega) (fo_ok hL hl (by omega)) amt).mono fun v_ h2_ ⟨e_, k_⟩ => ⟨e_, H_.call k_⟩) rfl ?_
      refine swr_nil rfl ?_
      refine rl_calld (met_none rfl) (first := []) (cap := []) rfl rfl fC78 (fun h_ H_ => c78 md _ (mnF (gR size start ds n amt) k) (mxF (gR size start ds n amt) k) (whenX (yFO size start ds n k) n amt)) rfl ?_
      refine rl_store (met_none rfl) tS36 rfl (v := .agg #[.int .i64 (min (mnF (gR size start ds n amt) k) (whenX (yFO size start ds n k) n amt)), .int .i64 (max (mxF (gR size start ds n amt) k) (whenX (yFO size start ds n k) n amt))]) rfl (i := 0) rfl rfl rfl (Nat.le_of_ble_eq_true rfl) (cs2 := [.int .i64 (min (mnF (gR size start ds n amt) k) (whenX (yFO size start ds n k) n amt)), .int .i64 (max (mxF (gR size start ds n amt) k) (whenX (yFO size start ds n k) n amt))]) rfl (rl_own (L' := [(b26, .cells #[.int .i64 (min (mnF (gR size start ds n amt) k) (whenX (yFO size start ds n k) n amt)), .int .i64 (max (mxF (gR size start ds n amt) k) (whenX (yFO size start ds n k) n amt))] 36 (0, 0)), (b2, .cells #[.int .i64 0, .int .i64 0] 36 (0, 0)), (b1, .cells #[.int .i64 (size), .int .i64 (start), .slice a n c] 24 (0, 0))]) rfl ?_)
      refine rl_end ?_
      refine fl_inBlock ?_
      refine rl_start ?_
      refine rl_det (met_none rfl) (fun h_ H_ => exd_move (v := .int .i64 (((k : Nat) : Int))) rfl) (tm' := [_,_,_,_,_,_,_,_,_,_,_,_,_,_,_,_,_,_,_,_,_,_,_,_,_,_,_,_,_,_,_,_,_,_,_,_,_,_,_,_,_,_,_,_,_,_,_,_]) rfl ?_
      refine rl_det (met_none rfl) (fun h_ H_ => exd_add rfl rfl (n := ((k + 1 : Nat) : Int)) (wr (by omega))) rfl ?_
      refine rl_det (met_none rfl) (fun h_ H_ => exd_assign (v := .int .i64 (((k + 1 : Nat) : Int))) rfl) rfl ?_
      refine rl_end ?_
      exact fun h_ H_ => IH28 _ _ (by omega) h_ ⟨k + 1, rfl, (y_of rfl), (by omega), H_⟩
    · refine fl_else rfl (decide_eq_false cc29) ?_
      refine fl_exit rfl ?_
      refine fl_seq ?_
      refine fl_seq ?_
      refine rl_start ?_
      refine rl_det (met_none rfl) (fun h_ H_ => exd_fieldAddr tF36_0 rfl (a' := ⟨b26, 0, none⟩) rfl) (tm' := [_,_,_,_,_,_,_,_,_,_,_,_,_,_,_,_,_,_,_,_,_,_,_,_,_,_,_,_,_,_,_,_,_,_,_,_,_,_,_,_,_,_,_,_,_,_,_,_]) rfl ?_
      refine rl_det (met_none rfl) (fun h_ H_ => exd_load_own H_ tA3 rfl (i := 0) rfl (v := .int .i64 (mnF (gR size start ds n amt) k)) rfl) rfl ?_
      refine rl_det (met_none rfl) (fun h_ H_ => exd_lss rfl rfl) rfl ?_
      refine rl_end ?_
      by_cases cc30 : mnF (gR size start ds n amt) k < 0
      · refine fl_then rfl (decide_eq_true cc30) ?_
        refine fl_seq ?_
        refine rl_start ?_
        refine rl_det (met_none rfl) (fun h_ H_ => exd_build tZ36 tP36 (vs := []) rfl (cells := #[.int .i64 0, .int .i64 0]) rfl) (tm' := [_,_,_,_,_,_,_,_,_,_,_,_,_,_,_,_,_,_,_,_,_,_,_,_,_,_,_,_,_,_,_,_,_,_,_,_,_,_,_,_,_,_,_,_,_,_,_,_]) rfl ?_
        refine rl_store (met_none rfl) tS36 rfl (v := .agg #[.int .i64 0, .int .i64 0]) rfl (i := 1) rfl rfl rfl (Nat.le_of_ble_eq_true rfl) (cs2 := [.int .i64 0, .int .i64 0]) rfl (rl_own (L' := [(b26, .cells #[.int .i64 (mnF (gR size start ds n amt) k), .int .i64 (mxF (gR size start ds n amt) k)] 36 (0, 0)), (b2, .cells #[.int .i64 0, .int .i64 0] 36 (0, 0)), (b1, .cells #[.int .i64 (size), .int .i64 (start), .slice a n c] 24 (0, 0))]) rfl ?_)
        refine rl_det (met_none rfl) (fun h_ H_ => exd_assign (v := .int .i64 3) rfl) rfl ?_
        refine rl_end ?_
        refine fl_ret Try.func54 rfl (vs := [.agg #[.int .i64 0, .int .i64 0], .int .i64 3]) (fun h_ H_ => ⟨.agg #[.int .i64 0, .int .i64 0], _, rfl, (wpS_bind (wpS_pure (wpS_loadVarN tA36 tS36 (vs := [.int .i64 0, .int .i64 0]) rfl (fun j_ v_ e_ => by rw [add_mk]; exact H_.ocell (i := 1) rfl (by simpa using e_)) ⟨rfl, rfl⟩))), ⟨.int .i64 3, _, rfl, rfl, rfl⟩⟩) (v := .tuple #[.agg #[.int .i64 0, .int .i64 0], .int .i64 3]) rfl ?_
        obtain rfl : k = (wea ds).length := by omega
        exact fun h_ H_ => K _ _ ⟨by rw [right_ref hOk hamt hl, if_pos ‹_›], H_.kept⟩
      · refine fl_else rfl (decide_eq_false cc30) ?_
        refine fl_skip ?_
        refine fl_seq ?_
        refine rl_start ?_
        refine rl_det (met_none rfl) (fun h_ H_ => exd_loadN_own H_ tA36 tS36 rfl (i := 0) rfl (vs := [.int .i64 (mnF (gR size start ds n amt) k), .int .i64 (mxF (gR size start ds n amt) k)]) rfl rfl) rfl ?_
        refine rl_store (met_none rfl) tS36 rfl (v := .agg #[.int .i64 (mnF (gR size start ds n amt) k), .int .i64 (mxF (gR size start ds n amt) k)]) rfl (i := 1) rfl rfl rfl (Nat.le_of_ble_eq_true rfl) (cs2 := [.int .i64 (mnF (gR size start ds n amt) k), .int .i64 (mxF (gR size start ds n amt) k)]) rfl (rl_own (L' := [(b26, .cells #[.int .i64 (mnF (gR size start ds n amt) k), .int .i64 (mxF (gR size start ds n amt) k)] 36 (0, 0)), (b2, .cells #[.int .i64 (mnF (gR size start ds n amt) k), .int .i64 (mxF (gR size start ds n amt) k)] 36 (0, 0)), (b1, .cells #[.int .i64 (size), .int .i64 (start), .slice a n c] 24 (0, 0))]) rfl ?_)
        refine rl_det (met_none rfl) (fun h_ H_ => exd_assign (v := .int .i64 0) rfl) (tm' := _::_::_::_::_::_::_) rfl ?_
        refine rl_end ?_
        refine fl_ret Try.func54 rfl (vs := [.agg #[.int .i64 (mnF (gR size start ds n amt) k), .int .i64 (mxF (gR size start ds n amt) k)], .int .i64 0]) (fun h_ H_ => ⟨.agg #[.int .i64 (mnF (gR size start ds n amt) k), .int .i64 (mxF (gR size start ds n amt) k)], _, rfl, (wpS_bind (wpS_pure (wpS_loadVarN tA36 tS36 (vs := [.int .i64 (mnF (gR size start ds n amt) k), .int .i64 (mxF (gR size start ds n amt) k)]) rfl (fun j_ v_ e_ => by rw [add_mk]; exact H_.ocell (i := 1) rfl (by simpa using e_)) ⟨rfl, rfl⟩))), ⟨.int .i64 0, _, rfl, rfl, rfl⟩⟩) (v := .tuple #[.agg #[.int .i64 (mnF (gR size start ds n amt) k), .int .i64 (mxF (gR size start ds n amt) k)], .int .i64 0]) rfl ?_
        obtain rfl : k = (wea ds).length := by omega
        exact fun h_ H_ => K _ _ ⟨by rw [right_ref hOk hamt hl, if_neg ‹_›], H_.kept⟩
end Go.Proofs.Ytbmkacnlhlbnjaa
namespace Go.Proofs.Ytbmkacnlhlbnjaa
open Go.X Go.X.Cist Go.Conc
set_option maxRecDepth 10000

theorem c56 (md : Md) (h : Heap) (p : PHeap) (hp : Per p h) (size start : Int) (a : Option Addr) (n c : Nat) (ds : List Day) (D : Days p a n ds) (hn : n ≤ 40) (hc0 : Ok size start ds → (wea ds).length ≤ 60) : CallsX Try.prog md 56 #[.agg #[.int .i64 (size), .int .i64 (start), .slice a n c]] h fun v h' => v = .tuple #[.int .i64 (dryR size start ds).1, .int .i64 (dryR size start ds).2] ∧ Keep h h' := by
  refine calls_intro (Φ := fun h_ => St h [] p h_ []) Try.func56 rfl (tm := [_, _, _, _, _, _, _, _, _, _, _, _, _, _, _, _, _, _, _, _, _, _, _, _, _, _, _, _, _, _]) rfl ?_ (St.start h _ hp)
  intro c₀ cs Stop K
  have hl := D.len
  refine fl_seq ?_
  refine rl_start ?_
  refine rl_box (met_none rfl) (v := .agg #[.int .i64 (size), .int .i64 (start), .slice a n c]) rfl fun b1 => rl_own (L' := [(b1, .cells #[.int .i64 (size), .int .i64 (start), .slice a n c] 24 (0, 0))]) rfl ?_
  refine rl_det (met_none rfl) (fun h_ H_ => exd_assign (v := .int .i64 0) rfl) rfl ?_
  refine rl_det (met_none rfl) (fun h_ H_ => exd_assign (v := .int .i64 0) rfl) (tm' := _::_::_::_::_) rfl ?_
  refine rl_end ?_
  refine fl_seq ?_
  refine fl_seq ?_
  refine rl_start ?_
  refine rl_det (met_none rfl) (fun h_ H_ => exd_loadN_own H_ tA24 tS24 rfl (i := 0) rfl (vs := [.int .i64 (size), .int .i64 (start), .slice a n c]) rfl rfl) rfl ?_
  refine rl_calld (met_none rfl) (first := []) (cap := []) rfl rfl fC33 (fun h_ H_ => c33 md _ _ (fun b_ o_ e_ => H_.per b_ o_ e_) (size) (start) _ _ _ _ D (by omega)) rfl ?_
  refine rl_det (met_none rfl) (fun h_ H_ => exd_assign (v := .int .i64 (chk (size) (start) ds)) rfl) (tm' := _::_::_::_::_::_) rfl ?_
  refine rl_end ?_
  refine fl_seq ?_
  refine rl_start ?_
  refine rl_det (met_none rfl) (fun h_ H_ => exd_move (v := .int .i64 (chk (size) (start) ds)) rfl) rfl ?_
  refine rl_det (met_none rfl) (fun h_ H_ => exd_neq rfl rfl) rfl ?_
  refine rl_end ?_
  by_cases cc2 : chk (size) (start) ds ≠ 0
  · refine fl_then rfl (decide_eq_true cc2) ?_
    refine fl_seq ?_
    refine rl_start ?_
    refine rl_det (met_none rfl) (fun h_ H_ => exd_move (v := .int .i64 (chk (size) (start) ds)) rfl) (tm' := _::_::_::_::_::_::_::_::_::_::_::_::_::_) rfl ?_
    refine rl_det (met_none rfl) (fun h_ H_ => exd_assign (v := .int .i64 0) rfl) rfl ?_
    refine rl_det (met_none rfl) (fun h_ H_ => exd_assign (v := .int .i64 (chk (size) (start) ds)) rfl) rfl ?_
    refine rl_end ?_
    refine fl_ret Try.func56 rfl (vs := [.int .i64 0, .int .i64 (chk (size) (start) ds)]) (fun h_ H_ => ⟨.int .i64 0, _, rfl, rfl, ⟨.int .i64 (chk (size) (start) ds), _, rfl, rfl, rfl⟩⟩) (v := .tuple #[.int .i64 0, .int .i64 (chk (size) (start) ds)]) rfl ?_
    have hOk : ¬ Ok size start ds := fun e => absurd (chk_yes e) ‹_›
    exact fun h_ H_ => K _ _ ⟨by unfold dryR; rw [if_neg hOk, chk_no hOk], H_.kept⟩
  · refine fl_else rfl (decide_eq_false cc2) ?_
    refine fl_skip ?_
    refine fl_seq ?_
    refine fl_seq ?_
    have hOk : Ok size start ds := chk_zero.1 (by omega)
    have hL := hOk.lok
    have hd := hOk.dok
    have h8 := hOk.2.2.2.2.1
    have hc := hc0 hOk
    have ho1 := hOk.1; have ho2 := hOk.2.1; have ho3 := hOk.2.2.1; have ho4 := hOk.2.2.2.1
    have hw : ∀ i, i < ds.length → (ds.getD i dz).want ≤ 20 := fun i hi => (hOk.2.2.2.2.2 i hi).2.2.2.2.2
    refine rl_start ?_
    refine rl_det (met_none rfl) (fun h_ H_ => exd_assign (v := .int .i64 0) rfl) (tm' := _::_::_::_::_::_::_) rfl ?_
    refine rl_end ?_
    refine fl_block ?_
    refine fl_loop (m₀ := n - 0) (fun m_ tm_ h_ => ∃ (k : Nat), m_ = n - k ∧ (∃ y3 : Nat → Value, tm_ = [.agg #[.int .i64 (size), .int .i64 (start), .slice a n c], .pointer (some ⟨b1, 0, none⟩), (y3 2), (y3 3), .int .i64 (chk (size) (start) ds), .int .i64 (((k : Nat) : Int)), (y3 6), (y3 7), .agg #[.int .i64 (size), .int .i64 (start), .slice a n c], .int .i64 (chk (size) (start) ds), .int .i64 (chk (size) (start) ds), .bool (decide (chk (size) (start) ds ≠ 0)), undef, (y3 13), (y3 14), (y3 15), (y3 16), (y3 17), (y3 18), (y3 19), (y3 20), (y3 21), (y3 22), (y3 23), (y3 24), (y3 25), (y3 26), (y3 27), (y3 28), (y3 29)]) ∧ (k ≤ n) ∧ (∀ i : Nat, i < k → ¬ 0 < (lackR size start ds ((i : Nat) : Int)).1.2) ∧ St h [] p h_ ([(b1, .cells #[.int .i64 (size), .int .i64 (start), .slice a n c] 24 (0, 0))])) (fun h_ H_ => ⟨0, rfl, (y_of rfl), Nat.zero_le _, (fun i hi => absurd hi (Nat.not_lt_zero i)), H_⟩) ?_
    intro m_ tm_ IH4
    refine rs_ex fun k => rs_and fun hm_ => rs_and fun ht_ => rs_and fun hk => rs_and fun hs => ?_
    subst hm_; obtain ⟨y3, ht_⟩ := ht_; subst ht_
    refine fl_seq ?_
    refine fl_seq ?_
    refine rl_start ?_
    refine rl_det (met_none rfl) (fun h_ H_ => exd_move (v := .int .i64 (((k : Nat) : Int))) rfl) rfl ?_
    refine rl_det (met_none rfl) (fun h_ H_ => exd_fieldAddr tF24_2 rfl (a' := ⟨b1, 2, none⟩) rfl) rfl ?_
    refine rl_det (met_none rfl) (fun h_ H_ => exd_load_own H_ tA22 rfl (i := 0) rfl (v := .slice a n c) rfl) (tm' := _::_::_::_::_::_::_::_::_::_::_::_::_::_::_::_::_) rfl ?_
    refine rl_det (met_none rfl) (fun h_ H_ => exd_len Try.underlying22 rfl) rfl ?_
    refine rl_det (met_none rfl) (fun h_ H_ => exd_lss rfl rfl) rfl ?_
    refine rl_end ?_
    by_cases cc5 : ((k : Nat) : Int) < ((n : Nat) : Int)
    · refine fl_then rfl (decide_eq_true cc5) ?_
      refine fl_skip ?_
      refine fl_seq ?_
      refine fl_block ?_
      refine fl_seq ?_
      refine rl_start ?_
      refine rl_det (met_none rfl) (fun h_ H_ => exd_loadN_own H_ tA24 tS24 rfl (i := 0) rfl (vs := [.int .i64 (size), .int .i64 (start), .slice a n c]) rfl rfl) (tm' := [_,_,_,_,_,_,_,_,_,_,_,_,_,_,_,_,_,_,_,_,_,_,_,_,_,_,_,_,_,_]) rfl ?_
      refine rl_det (met_none rfl) (fun h_ H_ => exd_move (v := .int .i64 (((k : Nat) : Int))) rfl) rfl ?_
      refine rl_calld (met_none rfl) (first := []) (cap := []) rfl rfl fC42 (fun h_ H_ => c42 md _ _ (fun b_ o_ e_ => H_.per b_ o_ e_) (size) (start) _ _ _ _ D (by omega) hc0 ((k : Nat) : Int)) rfl ?_
      refine rl_det (met_none rfl) (fun h_ H_ => exd_move (v := .tuple #[.agg #[.int .i64 ((lackR size start ds ((k : Nat) : Int)).1.1), .int .i64 ((lackR size start ds ((k : Nat) : Int)).1.2)], .int .i64 ((lackR size start ds ((k : Nat) : Int)).2)]) rfl) (tm' := [_,_,_,_,_,_,_,_,_,_,_,_,_,_,_,_,_,_,_,_,_,_,_,_,_,_,_,_,_,_]) rfl ?_
      refine rl_det (met_none rfl) (fun h_ H_ => exd_extract rfl (v := .agg #[.int .i64 ((lackR size start ds ((k : Nat) : Int)).1.1), .int .i64 ((lackR size start ds ((k : Nat) : Int)).1.2)]) rfl) rfl ?_
      refine rl_det (met_none rfl) (fun h_ H_ => exd_extract rfl (v := .int .i64 ((lackR size start ds ((k : Nat) : Int)).2)) rfl) rfl ?_
      refine rl_alloc (met_none rfl) tZ36 rfl fun b6 => rl_own (L' := [(b6, .cells #[.int .i64 0, .int .i64 0] 36 (0, 0)), (b1, .cells #[.int .i64 (size), .int .i64 (start), .slice a n c] 24 (0, 0))]) rfl ?_
      refine rl_norm (tm' := _::_::_::_::_::_::_::_) rfl ?_
      refine rl_store (met_none rfl) tS36 rfl (v := .agg #[.int .i64 ((lackR size start ds ((k : Nat) : Int)).1.1), .int .i64 ((lackR size start ds ((k : Nat) : Int)).1.2)]) rfl (i := 0) rfl rfl rfl (Nat.le_of_ble_eq_true rfl) (cs2 := [.int .i64 ((lackR size start ds ((k : Nat) : Int)).1.1), .int .i64 ((lackR size start ds ((k : Nat) : Int)).1.2)]) rfl (rl_own (L' := [(b6, .cells #[.int .i64 ((lackR size start ds ((k : Nat) : Int)).1.1), .int .i64 ((lackR size start ds ((k : Nat) : Int)).1.2)] 36 (0, 0)), (b1, .cells #[.int .i64 (size), .int .i64 (start), .slice a n c] 24 (0, 0))]) rfl ?_)
      refine rl_det (met_none rfl) (fun h_ H_ => exd_assign (v := .int .i64 ((lackR size start ds ((k : Nat) : Int)).2)) rfl) rfl ?_
      refine rl_end ?_
      refine fl_seq ?_
      refine rl_start ?_
      refine rl_det (met_none rfl) (fun h_ H_ => exd_fieldAddr tF36_1 rfl (a' := ⟨b6, 1, none⟩) rfl) rfl ?_
      refine rl_det (met_none rfl) (fun h_ H_ => exd_load_own H_ tA3 rfl (i := 0) rfl (v := .int .i64 ((lackR size start ds ((k : Nat) : Int)).1.2)) rfl) (tm' := [_,_,_,_,_,_,_,_,_,_,_,_,_,_,_,_,_,_,_,_,_,_,_,_,_,_,_,_,_,_]) rfl ?_
      refine rl_det (met_none rfl) (fun h_ H_ => exd_gtr rfl rfl) rfl ?_
      refine rl_end ?_
      by_cases cc7 : 0 < (lackR size start ds ((k : Nat) : Int)).1.2
      · refine fl_then rfl (decide_eq_true cc7) ?_
        refine fl_seq ?_
        refine rl_start ?_
        refine rl_det (met_none rfl) (fun h_ H_ => exd_move (v := .int .i64 (((k : Nat) : Int))) rfl) rfl ?_
        refine rl_det (met_none rfl) (fun h_ H_ => exd_assign (v := .int .i64 (((k : Nat) : Int))) rfl) (tm' := _::_::_::_) rfl ?_
        refine rl_det (met_none rfl) (fun h_ H_ => exd_assign (v := .int .i64 0) rfl) rfl ?_
        refine rl_end ?_
        refine fl_ret Try.func56 rfl (vs := [.int .i64 (((k : Nat) : Int)), .int .i64 0]) (fun h_ H_ => ⟨.int .i64 (((k : Nat) : Int)), _, rfl, rfl, ⟨.int .i64 0, _, rfl, rfl, rfl⟩⟩) (v := .tuple #[.int .i64 (((k : Nat) : Int)), .int .i64 0]) rfl ?_
        exact fun h_ H_ => K _ _ ⟨by rw [dry_hit hOk (k := k) (by omega) (by assumption) hs], H_.kept⟩
      · refine fl_else rfl (decide_eq_false cc7) ?_
        refine fl_skip ?_
        refine fl_inBlock ?_
        refine rl_start ?_
        refine rl_det (met_none rfl) (fun h_ H_ => exd_move (v := .int .i64 (((k : Nat) : Int))) rfl) rfl ?_
        refine rl_det (met_none rfl) (fun h_ H_ => exd_add rfl rfl (n := ((k + 1 : Nat) : Int)) (wr (by omega))) (tm' := _::_::_::_::_::_::_::_::_::_::_::_::_::_::_::_::_::_::_::_::_) rfl ?_
        refine rl_det (met_none rfl) (fun h_ H_ => exd_assign (v := .int .i64 (((k + 1 : Nat) : Int))) rfl) rfl ?_
        refine rl_end ?_
        exact fun h_ H_ => IH4 _ _ (by omega) h_ ⟨k + 1, rfl, (y_of rfl), (by omega), (none_step hs (by assumption)), H_.drop⟩
    · refine fl_else rfl (decide_eq_false cc5) ?_
      refine fl_exit rfl ?_
      refine fl_seq ?_
      refine rl_start ?_
      refine rl_det (met_none rfl) (fun h_ H_ => exd_assign (v := .int .i64 0) rfl) rfl ?_
      refine rl_det (met_none rfl) (fun h_ H_ => exd_assign (v := .int .i64 3) rfl) (tm' := _::_::_::_::_) rfl ?_
      refine rl_end ?_
      refine fl_ret Try.func56 rfl (vs := [.int .i64 0, .int .i64 3]) (fun h_ H_ => ⟨.int .i64 0, _, rfl, rfl, ⟨.int .i64 3, _, rfl, rfl, rfl⟩⟩) (v := .tuple #[.int .i64 0, .int .i64 3]) rfl ?_
      exact fun h_ H_ => K _ _ ⟨by rw [dry_miss hOk (fun i hi => hs i (by omega))], H_.kept⟩
theorem c58 (md : Md) (h : Heap) (p : PHeap) (hp : Per p h) (size start : Int) (a : Option Addr) (n c : Nat) (ds : List Day) (D : Days p a n ds) (hn : n ≤ 40) (hc0 : Ok size start ds → (wea ds).length ≤ 60) : CallsX Try.prog md 58 #[.agg #[.int .i64 (size), .int .i64 (start), .slice a n c]] h fun v h' => v = .tuple #[.int .i64 (mustR size start ds).1, .int .i64 (mustR size start ds).2] ∧ Keep h h' := by
  refine calls_intro (Φ := fun h_ => St h [] p h_ []) Try.func58 rfl (tm := [_, _, _, _, _, _, _, _, _, _, _, _, _, _, _, _, _, _, _, _, _, _, _, _, _, _, _, _, _, _]) rfl ?_ (St.start h _ hp)
  intro c₀ cs Stop K
  have hl := D.len
  refine fl_seq ?_
  refine rl_start ?_
  refine rl_box (met_none rfl) (v := .agg #[.int .i64 (size), .int .i64 (start), .slice a n c]) rfl fun b1 => rl_own (L' := [(b1, .cells #[.int .i64 (size), .int .i64 (start), .slice a n c] 24 (0, 0))]) rfl ?_
  refine rl_det (met_none rfl) (fun h_ H_ => exd_assign (v := .int .i64 0) rfl) rfl ?_
  refine rl_det (met_none rfl) (fun h_ H_ => exd_assign (v := .int .i64 0) rfl) (tm' := _::_::_::_::_) rfl ?_
  refine rl_end ?_
  refine fl_seq ?_
  refine fl_seq ?_
  refine rl_start ?_
  refine rl_det (met_none rfl) (fun h_ H_ => exd_loadN_own H_ tA24 tS24 rfl (i := 0) rfl (vs := [.int .i64 (size), .int .i64 (start), .slice a n c]) rfl rfl) rfl ?_
  refine rl_calld (met_none rfl) (first := []) (cap := []) rfl rfl fC33 (fun h_ H_ => c33 md _ _ (fun b_ o_ e_ => H_.per b_ o_ e_) (size) (start) _ _ _ _ D (by omega)) rfl ?_
  refine rl_det (met_none rfl) (fun h_ H_ => exd_assign (v := .int .i64 (chk (size) (start) ds)) rfl) (tm' := _::_::_::_::_::_) rfl ?_
  refine rl_end ?_
  refine fl_seq ?_
  refine rl_start ?_
  refine rl_det (met_none rfl) (fun h_ H_ => exd_move (v := .int .i64 (chk (size) (start) ds)) rfl) rfl ?_
  refine rl_det (met_none rfl) (fun h_ H_ => exd_neq rfl rfl) rfl ?_
  refine rl_end ?_
  by_cases cc2 : chk (size) (start) ds ≠ 0
  · refine fl_then rfl (decide_eq_true cc2) ?_
    refine fl_seq ?_
    refine rl_start ?_
    refine rl_det (met_none rfl) (fun h_ H_ => exd_move (v := .int .i64 (chk (size) (start) ds)) rfl) (tm' := _::_::_::_::_::_::_::_::_::_::_::_::_::_) rfl ?_
    refine rl_det (met_none rfl) (fun h_ H_ => exd_assign (v := .int .i64 0) rfl) rfl ?_
    refine rl_det (met_none rfl) (fun h_ H_ => exd_assign (v := .int .i64 (chk (size) (start) ds)) rfl) rfl ?_
    refine rl_end ?_
    refine fl_ret Try.func58 rfl (vs := [.int .i64 0, .int .i64 (chk (size) (start) ds)]) (fun h_ H_ => ⟨.int .i64 0, _, rfl, rfl, ⟨.int .i64 (chk (size) (start) ds), _, rfl, rfl, rfl⟩⟩) (v := .tuple #[.int .i64 0, .int .i64 (chk (size) (start) ds)]) rfl ?_
    have hOk : ¬ Ok size start ds := fun e => absurd (chk_yes e) ‹_›
    exact fun h_ H_ => K _ _ ⟨by unfold mustR; rw [if_neg hOk, chk_no hOk], H_.kept⟩
  · refine fl_else rfl (decide_eq_false cc2) ?_
    refine fl_skip ?_
    refine fl_seq ?_
    refine fl_seq ?_
    have hOk : Ok size start ds := chk_zero.1 (by omega)
    have hL := hOk.lok
    have hd := hOk.dok
    have h8 := hOk.2.2.2.2.1
    have hc := hc0 hOk
    have ho1 := hOk.1; have ho2 := hOk.2.1; have ho3 := hOk.2.2.1; have ho4 := hOk.2.2.2.1
    have hw : ∀ i, i < ds.length → (ds.getD i dz).want ≤ 20 := fun i hi => (hOk.2.2.2.2.2 i hi).2.2.2.2.2
    refine rl_start ?_
    refine rl_det (met_none rfl) (fun h_ H_ => exd_assign (v := .int .i64 0) rfl) (tm' := _::_::_::_::_::_::_) rfl ?_
    refine rl_end ?_
    refine fl_block ?_
    refine fl_loop (m₀ := n - 0) (fun m_ tm_ h_ => ∃ (k : Nat), m_ = n - k ∧ (∃ y3 : Nat → Value, tm_ = [.agg #[.int .i64 (size), .int .i64 (start), .slice a n c], .pointer (some ⟨b1, 0, none⟩), (y3 2), (y3 3), .int .i64 (chk (size) (start) ds), .int .i64 (((k : Nat) : Int)), (y3 6), (y3 7), .agg #[.int .i64 (size), .int .i64 (start), .slice a n c], .int .i64 (chk (size) (start) ds), .int .i64 (chk (size) (start) ds), .bool (decide (chk (size) (start) ds ≠ 0)), undef, (y3 13), (y3 14), (y3 15), (y3 16), (y3 17), (y3 18), (y3 19), (y3 20), (y3 21), (y3 22), (y3 23), (y3 24), (y3 25), (y3 26), (y3 27), (y3 28), (y3 29)]) ∧ (k ≤ n) ∧ (∀ i : Nat, i < k → ¬ 0 < (lackR size start ds ((i : Nat) : Int)).1.1) ∧ St h [] p h_ ([(b1, .cells #[.int .i64 (size), .int .i64 (start), .slice a n c] 24 (0, 0))])) (fun h_ H_ => ⟨0, rfl, (y_of rfl), Nat.zero_le _, (fun i hi => absurd hi (Nat.not_lt_zero i)), H_⟩) ?_
    intro m_ tm_ IH4
    refine rs_ex fun k => rs_and fun hm_ => rs_and fun ht_ => rs_and fun hk => rs_and fun hs => ?_
    subst hm_; obtain ⟨y3, ht_⟩ := ht_; subst ht_
    refine fl_seq ?_
    refine fl_seq ?_
    refine rl_start ?_
    refine rl_det (met_none rfl) (fun h_ H_ => exd_move (v := .int .i64 (((k : Nat) : Int))) rfl) rfl ?_
    refine rl_det (met_none rfl) (fun h_ H_ => exd_fieldAddr tF24_2 rfl (a' := ⟨b1, 2, none⟩) rfl) rfl ?_
    refine rl_det (met_none rfl) (fun h_ H_ => exd_load_own H_ tA22 rfl (i := 0) rfl (v := .slice a n c) rfl) (tm' := _::_::_::_::_::_::_::_::_::_::_::_::_::_::_::_::_) rfl ?_
    refine rl_det (met_none rfl) (fun h_ H_ => exd_len Try.underlying22 rfl) rfl ?_
    refine rl_det (met_none rfl) (fun h_ H_ => exd_lss rfl rfl) rfl ?_
    refine rl_end ?_
    by_cases cc5 : ((k : Nat) : Int) < ((n : Nat) : Int)
    · refine fl_then rfl (decide_eq_true cc5) ?_
      refine fl_skip ?_
      refine fl_seq ?_
      refine fl_block ?_
      refine fl_seq ?_
      refine rl_start ?_
      refine rl_det (met_none rfl) (fun h_ H_ => exd_loadN_own H_ tA24 tS24 rfl (i := 0) rfl (vs := [.int .i64 (size), .int .i64 (start), .slice a n c]) rfl rfl) (tm' := [_,_,_,_,_,_,_,_,_,_,_,_,_,_,_,_,_,_,_,_,_,_,_,_,_,_,_,_,_,_]) rfl ?_
      refine rl_det (met_none rfl) (fun h_ H_ => exd_move (v := .int .i64 (((k : Nat) : Int))) rfl) rfl ?_
      refine rl_calld (met_none rfl) (first := []) (cap := []) rfl rfl fC42 (fun h_ H_ => c42 md _ _ (fun b_ o_ e_ => H_.per b_ o_ e_) (size) (start) _ _ _ _ D (by omega) hc0 ((k : Nat) : Int)) rfl ?_
      refine rl_det (met_none rfl) (fun h_ H_ => exd_move (v := .tuple #[.agg #[.int .i64 ((lackR size start ds ((k : Nat) : Int)).1.1), .int .i64 ((lackR size start ds ((k : Nat) : Int)).1.2)], .int .i64 ((lackR size start ds ((k : Nat) : Int)).2)]) rfl) (tm' := [_,_,_,_,_,_,_,_,_,_,_,_,_,_,_,_,_,_,_,_,_,_,_,_,_,_,_,_,_,_]) rfl ?_
      refine rl_det (met_none rfl) (fun h_ H_ => exd_extract rfl (v := .agg #[.int .i64 ((lackR size start ds ((k : Nat) : Int)).1.1), .int .i64 ((lackR size start ds ((k : Nat) : Int)).1.2)]) rfl) rfl ?_
      refine rl_det (met_none rfl) (fun h_ H_ => exd_extract rfl (v := .int .i64 ((lackR size start ds ((k : Nat) : Int)).2)) rfl) rfl ?_
      refine rl_alloc (met_none rfl) tZ36 rfl fun b6 => rl_own (L' := [(b6, .cells #[.int .i64 0, .int .i64 0] 36 (0, 0)), (b1, .cells #[.int .i64 (size), .int .i64 (start), .slice a n c] 24 (0, 0))]) rfl ?_
      refine rl_norm (tm' := _::_::_::_::_::_::_::_) rfl ?_
      refine rl_store (met_none rfl) tS36 rfl (v := .agg #[.int .i64 ((lackR size start ds ((k : Nat) : Int)).1.1), .int .i64 ((lackR size start ds ((k : Nat) : Int)).1.2)]) rfl (i := 0) rfl rfl rfl (Nat.le_of_ble_eq_true rfl) (cs2 := [.int .i64 ((lackR size start ds ((k : Nat) : Int)).1.1), .int .i64 ((lackR size start ds ((k : Nat) : Int)).1.2)]) rfl (rl_own (L' := [(b6, .cells #[.int .i64 ((lackR size start ds ((k : Nat) : Int)).1.1), .int .i64 ((lackR size start ds ((k : Nat) : Int)).1.2)] 36 (0, 0)), (b1, .cells #[.int .i64 (size), .int .i64 (start), .slice a n c] 24 (0, 0))]) rfl ?_)
      refine rl_det (met_none rfl) (fun h_ H_ => exd_assign (v := .int .i64 ((lackR size start ds ((k : Nat) : Int)).2)) rfl) rfl ?_
      refine rl_end ?_
      refine fl_seq ?_
      refine rl_start ?_
      refine rl_det (met_none rfl) (fun h_ H_ => exd_fieldAddr tF36_0 rfl (a' := ⟨b6, 0, none⟩) rfl) rfl ?_
      refine rl_det (met_none rfl) (fun h_ H_ => exd_load_own H_ tA3 rfl (i := 0) rfl (v := .int .i64 ((lackR size start ds ((k : Nat) : Int)).1.1)) rfl) (tm' := [_,_,_,_,_,_,_,_,_,_,_,_,_,_,_,_,_,_,_,_,_,_,_,_,_,_,_,_,_,_]) rfl ?_
      refine rl_det (met_none rfl) (fun h_ H_ => exd_gtr rfl rfl) rfl ?_
      refine rl_end ?_
      by_cases cc7 : 0 < (lackR size start ds ((k : Nat) : Int)).1.1
      · refine fl_then rfl (decide_eq_true cc7) ?_
        refine fl_seq ?_
        refine rl_start ?_
        refine rl_det (met_none rfl) (fun h_ H_ => exd_move (v := .int .i64 (((k : Nat) : Int))) rfl) rfl ?_
        refine rl_det (met_none rfl) (fun h_ H_ => exd_assign (v := .int .i64 (((k : Nat) : Int))) rfl) (tm' := _::_::_::_) rfl ?_
        refine rl_det (met_none rfl) (fun h_ H_ => exd_assign (v := .int .i64 0) rfl) rfl ?_
        refine rl_end ?_
        refine fl_ret Try.func58 rfl (vs := [.int .i64 (((k : Nat) : Int)), .int .i64 0]) (fun h_ H_ => ⟨.int .i64 (((k : Nat) : Int)), _, rfl, rfl, ⟨.int .i64 0, _, rfl, rfl, rfl⟩⟩) (v := .tuple #[.int .i64 (((k : Nat) : Int)), .int .i64 0]) rfl ?_
        exact fun h_ H_ => K _ _ ⟨by rw [must_hit hOk (k := k) (by omega) (by assumption) hs], H_.kept⟩
      · refine fl_else rfl (decide_eq_false cc7) ?_
        refine fl_skip ?_
        refine fl_inBlock ?_
        refine rl_start ?_
        refine rl_det (met_none rfl) (fun h_ H_ => exd_move (v := .int .i64 (((k : Nat) : Int))) rfl) rfl ?_
        refine rl_det (met_none rfl) (fun h_ H_ => exd_add rfl rfl (n := ((k + 1 : Nat) : Int)) (wr (by omega))) (tm' := _::_::_::_::_::_::_::_::_::_::_::_::_::_::_::_::_::_::_::_::_) rfl ?_
        refine rl_det (met_none rfl) (fun h_ H_ => exd_assign (v := .int .i64 (((k + 1 : Nat) : Int))) rfl) rfl ?_
        refine rl_end ?_
        exact fun h_ H_ => IH4 _ _ (by omega) h_ ⟨k + 1, rfl, (y_of rfl), (by omega), (none_step hs (by assumption)), H_.drop⟩
    · refine fl_else rfl (decide_eq_false cc5) ?_
      refine fl_exit rfl ?_
      refine fl_seq ?_
      refine rl_start ?_
      refine rl_det (met_none rfl) (fun h_ H_ => exd_assign (v := .int .i64 0) rfl) rfl ?_
      refine rl_det (met_none rfl) (fun h_ H_ => exd_assign (v := .int .i64 3) rfl) (tm' := _::_::_::_::_) rfl ?_
      refine rl_end ?_
      refine fl_ret Try.func58 rfl (vs := [.int .i64 0, .int .i64 3]) (fun h_ H_ => ⟨.int .i64 0, _, rfl, rfl, ⟨.int .i64 3, _, rfl, rfl, rfl⟩⟩) (v := .tuple #[.int .i64 0, .int .i64 3]) rfl ?_
      exact fun h_ H_ => K _ _ ⟨by rw [must_miss hOk (fun i hi => hs i (by omega))], H_.kept⟩
end Go.Proofs.Ytbmkacnlhlbnjaa
namespace Go.Proofs.Ytbmkacnlhlbnjaa
open Go.X Go.X.Cist Go.Conc
set_option maxRecDepth 10000

set_option maxHeartbeats 8000000
theorem e13 (h : Heap) (p : PHeap) (hp : Per p h) (size start : Int) (a : Option Addr) (n c : Nat) (ds : List Day) (D : Days p a n ds) (k : Int) (_hk64 : -9223372036854775808 ≤ k ∧ k ≤ 9223372036854775807) : EntersX Try.prog (.main true) 13 #[.agg #[.int .i64 (size), .int .i64 (start), .slice a n c], .int .i64 (k)] h fun v h' => v = .bool true ∧ Keep h h' := by
  refine enters_intro (Φ := fun h_ => St h [] p h_ []) Try.func13 rfl (tm := [_, _, _, _, _, _, _, _, _, _, _, _, _, _, _, _, _, _, _, _, _, _, _, _, _, _, _, _, _, _, _, _, _, _, _, _, _, _, _, _, _, _, _, _, _, _, _, _, _, _, _, _, _, _, _, _, _, _, _, _, _, _, _, _, _, _, _, _, _, _, _, _, _, _, _, _, _, _, _, _, _, _, _, _, _, _, _, _, _, _, _]) rfl ?_ (St.start h _ hp)
  intro K
  have hl := D.len
  refine fl_seq ?_
  refine rl_start ?_
  refine rl_box (met_none rfl) (v := .agg #[.int .i64 (size), .int .i64 (start), .slice a n c]) rfl fun b1 => rl_own (L' := [(b1, .cells #[.int .i64 (size), .int .i64 (start), .slice a n c] 24 (0, 0))]) rfl ?_
  refine rl_det (met_none rfl) (fun h_ H_ => exd_assign (v := .bool (false)) rfl) rfl ?_
  refine rl_end ?_
  refine fl_seq ?_
  refine fl_seq ?_
  refine rl_start ?_
  refine rl_det (met_none rfl) (fun h_ H_ => exd_loadN_own H_ tA24 tS24 rfl (i := 0) rfl (vs := [.int .i64 (size), .int .i64 (start), .slice a n c]) rfl rfl) (tm' := _::_::_::_::_::_::_::_::_::_::_::_::_::_::_::_::_::_::_::_) rfl ?_
  refine rl_calld (met_none rfl) (first := []) (cap := []) rfl rfl fC39 (fun h_ H_ => c39 (.main true) _ _ (fun b_ o_ e_ => H_.per b_ o_ e_) size start _ _ _ _ D) rfl ?_
  refine rl_end ?_
  by_cases cc2 : FarD size start ds
  · refine fl_then rfl (decide_eq_true cc2) ?_
    refine fl_seq ?_
    refine rl_start ?_
    refine rl_calld (met_none rfl) (first := []) (cap := []) rfl rfl fC18 (fun h_ H_ => c18 _) rfl ?_
    refine rl_det (met_none rfl) (fun h_ H_ => exd_assign (v := .bool (true)) rfl) (tm' := _::_::_::_::_::_) rfl ?_
    refine rl_end ?_
    refine fl_retE (by kernel_rfl) Try.func13 rfl (vs := [.bool (true)]) (fun h_ H_ => ⟨.bool (true), _, rfl, rfl, rfl⟩) (v := .bool (true)) rfl ?_
    exact fun h_ H_ => K _ _ ⟨rfl, H_.kept⟩
  · refine fl_else rfl (decide_eq_false cc2) ?_
    refine fl_skip ?_
    refine fl_seq ?_
    have hf := ‹¬ FarD size start ds›
    have h40 : ds.length ≤ 40 := Nat.not_lt.1 fun h_ => hf (.inl h_)
    refine rl_start ?_
    refine rl_det (met_none rfl) (fun h_ H_ => exd_loadN_own H_ tA24 tS24 rfl (i := 0) rfl (vs := [.int .i64 (size), .int .i64 (start), .slice a n c]) rfl rfl) rfl ?_
    refine rl_own (L' := ([(b1, .cells #[.int .i64 (size), .int .i64 (start), .slice a n c] 24 (0, 0))] : Pcs) ++ []) rfl ?_
    refine rl_call (met_none rfl) (first := []) (cap := []) rfl rfl fC30 (R := fun v_ h_ => ∃ w3 : Value, ∃ X4 : Pcs, v_ = .agg #[.int .i64 (size), .int .i64 (start), w3] ∧ (OwnS 38 3 w3 (dcs ds) X4) ∧ St h [] p h_ (([(b1, .cells #[.int .i64 (size), .int .i64 (start), .slice a n c] 24 (0, 0))] : Pcs) ++ (X4 ++ []))) (fun h_ H_ => (c30 (.main true) _ _ (fun b_ o_ e_ => H_.per b_ o_ e_) (size) (start) _ _ _ _ D (by omega)).mono fun v_ h2_ ⟨w3, X4, e_, o5, N_⟩ => ⟨w3, X4, e_, o5, H_.callNA N_⟩) fun v_ => ?_
    refine rl_ex fun w3 => rl_ex fun X4 => rl_and fun ev_ => rl_and fun o5 => ?_
    have ev_ := ev_.symm; subst ev_
    refine rl_own (L' := ([(b1, .cells #[.int .i64 (size), .int .i64 (start), .slice a n c] 24 (0, 0))] : Pcs) ++ (X4 ++ [])) rfl ?_
    refine rl_alloc (met_none rfl) tZ24 rfl fun b6 => rl_own (L' := ([(b6, .cells #[.int .i64 0, .int .i64 0, .slice none 0 0] 24 (0, 0)), (b1, .cells #[.int .i64 (size), .int .i64 (start), .slice a n c] 24 (0, 0))] : Pcs) ++ (X4 ++ [])) rfl ?_
    refine rl_norm (tm' := _::_::_::_::_::_::_) rfl ?_
    refine rl_store (met_none rfl) tS24 rfl (v := .agg #[.int .i64 (size), .int .i64 (start), w3]) rfl (i := 0) rfl rfl (ones_cons rfl (ones_cons rfl (ones_cons o5.one.2 rfl))) (Nat.le_of_ble_eq_true rfl) (cs2 := [.int .i64 (size), .int .i64 (start), w3]) rfl (rl_own (L' := ([(b6, .cells #[.int .i64 (size), .int .i64 (start), w3] 24 (0, 0)), (b1, .cells #[.int .i64 (size), .int .i64 (start), .slice a n c] 24 (0, 0))] : Pcs) ++ (X4 ++ [])) rfl ?_)
    refine rl_end ?_
    refine fl_seq ?_
    refine rs_lastN (A := ([(b6, .cells #[.int .i64 (size), .int .i64 (start), w3] 24 (0, 0)), (b1, .cells #[.int .i64 (size), .int .i64 (start), .slice a n c] 24 (0, 0))] : Pcs)) o5 (show (dcs ds).length = n by rw [dcs_length]; omega) fun p7 a8 cp9 le10 ev_ D11 => ?_
    subst ev_
    refine rs_own (L' := [(b6, .cells #[.int .i64 (size), .int .i64 (start), .slice a8 n cp9] 24 (0, 0)), (b1, .cells #[.int .i64 (size), .int .i64 (start), .slice a n c] 24 (0, 0))]) rfl ?_
    refine rl_start ?_
    refine rl_det (met_none rfl) (fun h_ H_ => exd_loadN_own H_ tA24 tS24 rfl (i := 0) rfl (vs := [.int .i64 (size), .int .i64 (start), .slice a8 n cp9]) rfl rfl) rfl ?_
    refine rl_det (met_none rfl) (fun h_ H_ => exd_move (v := .int .i64 (k)) rfl) rfl ?_
    refine rl_calld (met_none rfl) (first := []) (cap := []) rfl rfl fC53 (fun h_ H_ => c53 _ _ (fun b_ o_ e_ => H_.per b_ o_ e_) (size) (start) _ _ _ _ (show Days _ _ _ ds from D11) (by omega) k) (tm' := _::_::_::_::_::_::_::_::_::_::_::_::_::_::_::_::_::_::_::_::_::_::_::_::_::_::_::_) rfl ?_
    refine rl_det (met_none rfl) (fun h_ H_ => exd_move (v := .tuple #[.agg #[.int .i64 ((rightR size start ds k).1.1), .int .i64 ((rightR size start ds k).1.2)], .int .i64 ((rightR size start ds k).2)]) rfl) rfl ?_
    refine rl_det (met_none rfl) (fun h_ H_ => exd_extract rfl (v := .agg #[.int .i64 ((rightR size start ds k).1.1), .int .i64 ((rightR size start ds k).1.2)]) rfl) rfl ?_
    refine rl_det (met_none rfl) (fun h_ H_ => exd_extract rfl (v := .int .i64 ((rightR size start ds k).2)) rfl) (tm' := _::_::_::_::_::_::_::_::_::_::_::_::_::_::_::_::_::_::_::_::_::_::_::_::_::_::_::_::_::_) rfl ?_
    refine rl_alloc (met_none rfl) tZ36 rfl fun b12 => rl_own (L' := [(b12, .cells #[.int .i64 0, .int .i64 0] 36 (0, 0)), (b6, .cells #[.int .i64 (size), .int .i64 (start), .slice a8 n cp9] 24 (0, 0)), (b1, .cells #[.int .i64 (size), .int .i64 (start), .slice a n c] 24 (0, 0))]) rfl ?_
    refine rl_store (met_none rfl) tS36 rfl (v := .agg #[.int .i64 ((rightR size start ds k).1.1), .int .i64 ((rightR size start ds k).1.2)]) rfl (i := 0) rfl rfl rfl (Nat.le_of_ble_eq_true rfl) (cs2 := [.int .i64 ((rightR size start ds k).1.1), .int .i64 ((rightR size start ds k).1.2)]) rfl (rl_own (L' := [(b12, .cells #[.int .i64 ((rightR size start ds k).1.1), .int .i64 ((rightR size start ds k).1.2)] 36 (0, 0)), (b6, .cells #[.int .i64 (size), .int .i64 (start), .slice a8 n cp9] 24 (0, 0)), (b1, .cells #[.int .i64 (size), .int .i64 (start), .slice a n c] 24 (0, 0))]) rfl ?_)
    refine rl_det (met_none rfl) (fun h_ H_ => exd_assign (v := .int .i64 ((rightR size start ds k).2)) rfl) rfl ?_
    refine rl_end ?_
    refine fl_seq ?_
    refine rl_start ?_
    refine rl_det (met_none rfl) (fun h_ H_ => exd_loadN_own H_ tA24 tS24 rfl (i := 2) rfl (vs := [.int .i64 (size), .int .i64 (start), .slice a n c]) rfl rfl) (tm' := _::_::_::_::_::_::_::_::_::_::_::_::_::_::_::_::_::_::_::_::_::_::_::_::_::_::_::_::_::_::_::_) rfl ?_
    refine rl_det (met_none rfl) (fun h_ H_ => exd_move (v := .int .i64 (k)) rfl) rfl ?_
    refine rl_calld (met_none rfl) (first := []) (cap := []) rfl rfl fC54 (fun h_ H_ => c54 (.main true) _ _ (fun b_ o_ e_ => H_.per b_ o_ e_) (size) (start) _ _ _ _ (D.mono le10) (by omega) (fun hO_ => far_wea hO_ hf) k) rfl ?_
    refine rl_det (met_none rfl) (fun h_ H_ => exd_move (v := .tuple #[.agg #[.int .i64 ((rightR size start ds k).1.1), .int .i64 ((rightR size start ds k).1.2)], .int .i64 ((rightR size start ds k).2)]) rfl) (tm' := _::_::_::_::_::_::_::_::_::_::_::_::_::_::_::_::_::_::_::_::_::_::_::_::_::_::_::_::_::_::_) rfl ?_
    refine rl_det (met_none rfl) (fun h_ H_ => exd_extract rfl (v := .agg #[.int .i64 ((rightR size start ds k).1.1), .int .i64 ((rightR size start ds k).1.2)]) rfl) rfl ?_
    refine rl_det (met_none rfl) (fun h_ H_ => exd_extract rfl (v := .int .i64 ((rightR size start ds k).2)) rfl) rfl ?_
    refine rl_alloc (met_none rfl) tZ36 rfl fun b13 => rl_own (L' := [(b13, .cells #[.int .i64 0, .int .i64 0] 36 (0, 0)), (b12, .cells #[.int .i64 ((rightR size start ds k).1.1), .int .i64 ((rightR size start ds k).1.2)] 36 (0, 0)), (b6, .cells #[.int .i64 (size), .int .i64 (start), .slice a8 n cp9] 24 (0, 0)), (b1, .cells #[.int .i64 (size), .int .i64 (start), .slice a n c] 24 (0, 0))]) rfl ?_
    refine rl_norm (tm' := _::_::_::_::_::_::_::_::_::_) rfl ?_
    refine rl_store (met_none rfl) tS36 rfl (v := .agg #[.int .i64 ((rightR size start ds k).1.1), .int .i64 ((rightR size start ds k).1.2)]) rfl (i := 0) rfl rfl rfl (Nat.le_of_ble_eq_true rfl) (cs2 := [.int .i64 ((rightR size start ds k).1.1), .int .i64 ((rightR size start ds k).1.2)]) rfl (rl_own (L' := [(b13, .cells #[.int .i64 ((rightR size start ds k).1.1), .int .i64 ((rightR size start ds k).1.2)] 36 (0, 0)), (b12, .cells #[.int .i64 ((rightR size start ds k).1.1), .int .i64 ((rightR size start ds k).1.2)] 36 (0, 0)), (b6, .cells #[.int .i64 (size), .int .i64 (start), .slice a8 n cp9] 24 (0, 0)), (b1, .cells #[.int .i64 (size), .int .i64 (start), .slice a n c] 24 (0, 0))]) rfl ?_)
    refine rl_det (met_none rfl) (fun h_ H_ => exd_assign (v := .int .i64 ((rightR size start ds k).2)) rfl) rfl ?_
    refine rl_end ?_
    refine fl_seq ?_
    refine rl_start ?_
    refine rl_det (met_none rfl) (fun h_ H_ => exd_loadN_own H_ tA24 tS24 rfl (i := 2) rfl (vs := [.int .i64 (size), .int .i64 (start), .slice a8 n cp9]) rfl rfl) rfl ?_
    refine rl_calld (met_none rfl) (first := []) (cap := []) rfl rfl fC55 (fun h_ H_ => c55 _ _ (fun b_ o_ e_ => H_.per b_ o_ e_) (size) (start) _ _ _ _ (show Days _ _ _ ds from D11) (by omega)) (tm' := _::_::_::_::_::_::_::_::_::_::_::_::_::_::_::_::_::_::_::_::_::_::_::_::_::_::_::_::_::_::_::_::_::_::_::_::_::_::_) rfl ?_
    refine rl_det (met_none rfl) (fun h_ H_ => exd_move (v := .tuple #[.int .i64 ((dryR size start ds).1), .int .i64 ((dryR size start ds).2)]) rfl) rfl ?_
    refine rl_det (met_none rfl) (fun h_ H_ => exd_extract rfl (v := .int .i64 ((dryR size start ds).1)) rfl) rfl ?_
    refine rl_det (met_none rfl) (fun h_ H_ => exd_extract rfl (v := .int .i64 ((dryR size start ds).2)) rfl) (tm' := _::_::_::_::_::_::_::_::_::_::_::_::_::_::_::_::_::_::_::_::_::_::_::_::_::_::_::_::_::_::_::_::_::_::_::_::_::_::_::_::_) rfl ?_
    refine rl_det (met_none rfl) (fun h_ H_ => exd_assign (v := .int .i64 ((dryR size start ds).1)) rfl) rfl ?_
    refine rl_det (met_none rfl) (fun h_ H_ => exd_assign (v := .int .i64 ((dryR size start ds).2)) rfl) rfl ?_
    refine rl_end ?_
    refine fl_seq ?_
    refine rl_start ?_
    refine rl_det (met_none rfl) (fun h_ H_ => exd_loadN_own H_ tA24 tS24 rfl (i := 3) rfl (vs := [.int .i64 (size), .int .i64 (start), .slice a n c]) rfl rfl) (tm' := _::_::_::_::_::_::_::_::_::_::_::_::_::_::_::_::_::_::_::_::_::_::_::_::_::_::_::_::_::_::_::_::_::_::_::_::_::_::_::_::_::_::_) rfl ?_
    refine rl_calld (met_none rfl) (first := []) (cap := []) rfl rfl fC56 (fun h_ H_ => c56 (.main true) _ _ (fun b_ o_ e_ => H_.per b_ o_ e_) (size) (start) _ _ _ _ (D.mono le10) (by omega) (fun hO_ => far_wea hO_ hf)) rfl ?_
    refine rl_det (met_none rfl) (fun h_ H_ => exd_move (v := .tuple #[.int .i64 ((dryR size start ds).1), .int .i64 ((dryR size start ds).2)]) rfl) rfl ?_
    refine rl_det (met_none rfl) (fun h_ H_ => exd_extract rfl (v := .int .i64 ((dryR size start ds).1)) rfl) (tm' := _::_::_::_::_::_::_::_::_::_::_::_::_::_::_::_::_::_::_::_::_::_::_::_::_::_::_::_::_::_::_::_::_::_::_::_::_::_::_::_::_::_::_::_::_) rfl ?_
    refine rl_det (met_none rfl) (fun h_ H_ => exd_extract rfl (v := .int .i64 ((dryR size start ds).2)) rfl) rfl ?_
    refine rl_det (met_none rfl) (fun h_ H_ => exd_assign (v := .int .i64 ((dryR size start ds).1)) rfl) rfl ?_
    refine rl_det (met_none rfl) (fun h_ H_ => exd_assign (v := .int .i64 ((dryR size start ds).2)) rfl) (tm' := _::_::_::_::_::_::_::_::_::_::_::_::_::_::_) rfl ?_
    refine rl_end ?_
    refine fl_seq ?_
    refine rl_start ?_
    refine rl_det (met_none rfl) (fun h_ H_ => exd_loadN_own H_ tA24 tS24 rfl (i := 2) rfl (vs := [.int .i64 (size), .int .i64 (start), .slice a8 n cp9]) rfl rfl) rfl ?_
    refine rl_calld (met_none rfl) (first := []) (cap := []) rfl rfl fC57 (fun h_ H_ => c57 _ _ (fun b_ o_ e_ => H_.per b_ o_ e_) (size) (start) _ _ _ _ (show Days _ _ _ ds from D11) (by omega)) rfl ?_
    refine rl_det (met_none rfl) (fun h_ H_ => exd_move (v := .tuple #[.int .i64 ((mustR size start ds).1), .int .i64 ((mustR size start ds).2)]) rfl) (tm' := _::_::_::_::_::_::_::_::_::_::_::_::_::_::_::_::_::_::_::_::_::_::_::_::_::_::_::_::_::_::_::_::_::_::_::_::_::_::_::_::_::_::_::_::_::_::_) rfl ?_
    refine rl_det (met_none rfl) (fun h_ H_ => exd_extract rfl (v := .int .i64 ((mustR size start ds).1)) rfl) rfl ?_
    refine rl_det (met_none rfl) (fun h_ H_ => exd_extract rfl (v := .int .i64 ((mustR size start ds).2)) rfl) rfl ?_
    refine rl_det (met_none rfl) (fun h_ H_ => exd_assign (v := .int .i64 ((mustR size start ds).1)) rfl) (tm' := _::_::_::_::_::_::_::_::_::_::_::_::_::_::_::_) rfl ?_
    refine rl_det (met_none rfl) (fun h_ H_ => exd_assign (v := .int .i64 ((mustR size start ds).2)) rfl) rfl ?_
    refine rl_end ?_
    refine fl_seq ?_
    refine rl_start ?_
    refine rl_det (met_none rfl) (fun h_ H_ => exd_loadN_own H_ tA24 tS24 rfl (i := 3) rfl (vs := [.int .i64 (size), .int .i64 (start), .slice a n c]) rfl rfl) rfl ?_
    refine rl_calld (met_none rfl) (first := []) (cap := []) rfl rfl fC58 (fun h_ H_ => c58 (.main true) _ _ (fun b_ o_ e_ => H_.per b_ o_ e_) (size) (start) _ _ _ _ (D.mono le10) (by omega) (fun hO_ => far_wea hO_ hf)) (tm' := _::_::_::_::_::_::_::_::_::_::_::_::_::_::_::_::_::_::_::_::_::_::_::_::_::_::_::_::_::_::_::_::_::_::_::_::_::_::_::_::_::_::_::_::_::_::_::_::_::_::_::_::_::_) rfl ?_
    refine rl_det (met_none rfl) (fun h_ H_ => exd_move (v := .tuple #[.int .i64 ((mustR size start ds).1), .int .i64 ((mustR size start ds).2)]) rfl) rfl ?_
    refine rl_det (met_none rfl) (fun h_ H_ => exd_extract rfl (v := .int .i64 ((mustR size start ds).1)) rfl) rfl ?_
    refine rl_det (met_none rfl) (fun h_ H_ => exd_extract rfl (v := .int .i64 ((mustR size start ds).2)) rfl) (tm' := _::_::_::_::_::_::_::_::_::_::_::_::_::_::_::_::_::_::_::_::_::_::_::_::_::_::_::_::_::_::_::_::_::_::_::_::_::_::_::_::_::_::_::_::_::_::_::_::_::_::_::_::_::_::_::_) rfl ?_
    refine rl_det (met_none rfl) (fun h_ H_ => exd_assign (v := .int .i64 ((mustR size start ds).1)) rfl) rfl ?_
    refine rl_det (met_none rfl) (fun h_ H_ => exd_assign (v := .int .i64 ((mustR size start ds).2)) rfl) rfl ?_
    refine rl_end ?_
    refine fl_seq ?_
    refine rl_start ?_
    refine rl_det (met_none rfl) (fun h_ H_ => exd_loadN_own H_ tA36 tS36 rfl (i := 1) rfl (vs := [.int .i64 ((rightR size start ds k).1.1), .int .i64 ((rightR size start ds k).1.2)]) rfl rfl) (tm' := _::_::_::_::_::_::_::_::_::_::_::_::_::_::_::_::_::_::_::_::_::_::_::_::_::_::_::_::_::_::_::_::_::_::_::_::_::_::_::_::_::_::_::_::_::_::_::_::_::_::_::_::_::_::_::_::_) rfl ?_
    refine rl_det (met_none rfl) (fun h_ H_ => exd_loadN_own H_ tA36 tS36 rfl (i := 0) rfl (vs := [.int .i64 ((rightR size start ds k).1.1), .int .i64 ((rightR size start ds k).1.2)]) rfl rfl) rfl ?_
    refine rl_det (met_none rfl) (fun h_ H_ => exd_eqAgg gT36 (spanEq 9998 _ _ _ _) rfl rfl) rfl ?_
    refine rl_det (met_none rfl) (fun h_ H_ => exd_move (v := .bool (decide ((rightR size start ds k).1.1 = (rightR size start ds k).1.1 ∧ (rightR size start ds k).1.2 = (rightR size start ds k).1.2))) rfl) (tm' := _::_::_::_::_::_::_::_::_::_::_::_::_::_::_::_::_::_::_::_::_::_::_::_::_::_::_::_::_::_::_::_::_::_::_::_::_::_::_::_::_::_::_::_::_::_::_::_::_::_::_::_::_::_::_::_::_::_::_::_) rfl ?_
    refine rl_det (met_some rfl rfl (decide_eq_true ⟨rfl, rfl⟩)) (fun h_ H_ => exd_move (v := .int .i64 ((rightR size start ds k).2)) rfl) rfl ?_
    refine rl_det (met_some rfl rfl (decide_eq_true ⟨rfl, rfl⟩)) (fun h_ H_ => exd_move (v := .int .i64 ((rightR size start ds k).2)) rfl) rfl ?_
    refine rl_det (met_some rfl rfl (decide_eq_true ⟨rfl, rfl⟩)) (fun h_ H_ => exd_eql rfl rfl) (tm' := [_,_,_,_,_,_,_,_,_,_,_,_,_,_,_,_,_,_,_,_,_,_,_,_,_,_,_,_,_,_,_,_,_,_,_,_,_,_,_,_,_,_,_,_,_,_,_,_,_,_,_,_,_,_,_,_,_,_,_,_,_,_,_,_,_,_,_,_,_,_,_,_,_,_,_,_,_,_,_,_,_,_,_,_,_,_,_,_,_,_,_]) rfl ?_
    refine rl_det (met_none rfl) (fun h_ H_ => exd_pick_t rfl (decide_eq_true ⟨rfl, rfl⟩) (v := .bool (decide ((rightR size start ds k).2 = (rightR size start ds k).2))) rfl) rfl ?_
    refine rl_det (met_none rfl) (fun h_ H_ => exd_move (v := .bool (decide ((rightR size start ds k).2 = (rightR size start ds k).2))) rfl) rfl ?_
    refine rl_det (met_some rfl rfl (decide_eq_true rfl)) (fun h_ H_ => exd_move (v := .int .i64 ((dryR size start ds).1)) rfl) (tm' := [_,_,_,_,_,_,_,_,_,_,_,_,_,_,_,_,_,_,_,_,_,_,_,_,_,_,_,_,_,_,_,_,_,_,_,_,_,_,_,_,_,_,_,_,_,_,_,_,_,_,_,_,_,_,_,_,_,_,_,_,_,_,_,_,_,_,_,_,_,_,_,_,_,_,_,_,_,_,_,_,_,_,_,_,_,_,_,_,_,_,_]) rfl ?_
    refine rl_det (met_some rfl rfl (decide_eq_true rfl)) (fun h_ H_ => exd_move (v := .int .i64 ((dryR size start ds).1)) rfl) rfl ?_
    refine rl_det (met_some rfl rfl (decide_eq_true rfl)) (fun h_ H_ => exd_eql rfl rfl) rfl ?_
    refine rl_det (met_none rfl) (fun h_ H_ => exd_pick_t rfl (decide_eq_true rfl) (v := .bool (decide ((dryR size start ds).1 = (dryR size start ds).1))) rfl) (tm' := [_,_,_,_,_,_,_,_,_,_,_,_,_,_,_,_,_,_,_,_,_,_,_,_,_,_,_,_,_,_,_,_,_,_,_,_,_,_,_,_,_,_,_,_,_,_,_,_,_,_,_,_,_,_,_,_,_,_,_,_,_,_,_,_,_,_,_,_,_,_,_,_,_,_,_,_,_,_,_,_,_,_,_,_,_,_,_,_,_,_,_]) rfl ?_
    refine rl_det (met_none rfl) (fun h_ H_ => exd_move (v := .bool (decide ((dryR size start ds).1 = (dryR size start ds).1))) rfl) rfl ?_
    refine rl_det (met_some rfl rfl (decide_eq_true rfl)) (fun h_ H_ => exd_move (v := .int .i64 ((dryR size start ds).2)) rfl) rfl ?_
    refine rl_det (met_some rfl rfl (decide_eq_true rfl)) (fun h_ H_ => exd_move (v := .int .i64 ((dryR size start ds).2)) rfl) (tm' := [_,_,_,_,_,_,_,_,_,_,_,_,_,_,_,_,_,_,_,_,_,_,_,_,_,_,_,_,_,_,_,_,_,_,_,_,_,_,_,_,_,_,_,_,_,_,_,_,_,_,_,_,_,_,_,_,_,_,_,_,_,_,_,_,_,_,_,_,_,_,_,_,_,_,_,_,_,_,_,_,_,_,_,_,_,_,_,_,_,_,_]) rfl ?_
    refine rl_det (met_some rfl rfl (decide_eq_true rfl)) (fun h_ H_ => exd_eql rfl rfl) rfl ?_
    refine rl_det (met_none rfl) (fun h_ H_ => exd_pick_t rfl (decide_eq_true rfl) (v := .bool (decide ((dryR size start ds).2 = (dryR size start ds).2))) rfl) rfl ?_
    refine rl_det (met_none rfl) (fun h_ H_ => exd_move (v := .bool (decide ((dryR size start ds).2 = (dryR size start ds).2))) rfl) (tm' := [_,_,_,_,_,_,_,_,_,_,_,_,_,_,_,_,_,_,_,_,_,_,_,_,_,_,_,_,_,_,_,_,_,_,_,_,_,_,_,_,_,_,_,_,_,_,_,_,_,_,_,_,_,_,_,_,_,_,_,_,_,_,_,_,_,_,_,_,_,_,_,_,_,_,_,_,_,_,_,_,_,_,_,_,_,_,_,_,_,_,_]) rfl ?_
    refine rl_det (met_some rfl rfl (decide_eq_true rfl)) (fun h_ H_ => exd_move (v := .int .i64 ((mustR size start ds).1)) rfl) rfl ?_
    refine rl_det (met_some rfl rfl (decide_eq_true rfl)) (fun h_ H_ => exd_move (v := .int .i64 ((mustR size start ds).1)) rfl) rfl ?_
    refine rl_det (met_some rfl rfl (decide_eq_true rfl)) (fun h_ H_ => exd_eql rfl rfl) (tm' := [_,_,_,_,_,_,_,_,_,_,_,_,_,_,_,_,_,_,_,_,_,_,_,_,_,_,_,_,_,_,_,_,_,_,_,_,_,_,_,_,_,_,_,_,_,_,_,_,_,_,_,_,_,_,_,_,_,_,_,_,_,_,_,_,_,_,_,_,_,_,_,_,_,_,_,_,_,_,_,_,_,_,_,_,_,_,_,_,_,_,_]) rfl ?_
    refine rl_det (met_none rfl) (fun h_ H_ => exd_pick_t rfl (decide_eq_true rfl) (v := .bool (decide ((mustR size start ds).1 = (mustR size start ds).1))) rfl) rfl ?_
    refine rl_det (met_none rfl) (fun h_ H_ => exd_move (v := .bool (decide ((mustR size start ds).1 = (mustR size start ds).1))) rfl) rfl ?_
    refine rl_det (met_some rfl rfl (decide_eq_true rfl)) (fun h_ H_ => exd_move (v := .int .i64 ((mustR size start ds).2)) rfl) (tm' := [_,_,_,_,_,_,_,_,_,_,_,_,_,_,_,_,_,_,_,_,_,_,_,_,_,_,_,_,_,_,_,_,_,_,_,_,_,_,_,_,_,_,_,_,_,_,_,_,_,_,_,_,_,_,_,_,_,_,_,_,_,_,_,_,_,_,_,_,_,_,_,_,_,_,_,_,_,_,_,_,_,_,_,_,_,_,_,_,_,_,_]) rfl ?_
    refine rl_det (met_some rfl rfl (decide_eq_true rfl)) (fun h_ H_ => exd_move (v := .int .i64 ((mustR size start ds).2)) rfl) rfl ?_
    refine rl_det (met_some rfl rfl (decide_eq_true rfl)) (fun h_ H_ => exd_eql rfl rfl) rfl ?_
    refine rl_det (met_none rfl) (fun h_ H_ => exd_pick_t rfl (decide_eq_true rfl) (v := .bool (decide ((mustR size start ds).2 = (mustR size start ds).2))) rfl) (tm' := [_,_,_,_,_,_,_,_,_,_,_,_,_,_,_,_,_,_,_,_,_,_,_,_,_,_,_,_,_,_,_,_,_,_,_,_,_,_,_,_,_,_,_,_,_,_,_,_,_,_,_,_,_,_,_,_,_,_,_,_,_,_,_,_,_,_,_,_,_,_,_,_,_,_,_,_,_,_,_,_,_,_,_,_,_,_,_,_,_,_,_]) rfl ?_
    refine rl_det (met_none rfl) (fun h_ H_ => exd_move (v := .bool (decide ((mustR size start ds).2 = (mustR size start ds).2))) rfl) rfl ?_
    refine rl_det (met_some rfl rfl (decide_eq_true rfl)) (fun h_ H_ => exd_loadN_own H_ tA24 tS24 rfl (i := 2) rfl (vs := [.int .i64 (size), .int .i64 (start), .slice a8 n cp9]) rfl rfl) rfl ?_
    refine rl_det (met_some rfl rfl (decide_eq_true rfl)) (fun h_ H_ => exd_loadN_own H_ tA24 tS24 rfl (i := 3) rfl (vs := [.int .i64 (size), .int .i64 (start), .slice a n c]) rfl rfl) (tm' := [_,_,_,_,_,_,_,_,_,_,_,_,_,_,_,_,_,_,_,_,_,_,_,_,_,_,_,_,_,_,_,_,_,_,_,_,_,_,_,_,_,_,_,_,_,_,_,_,_,_,_,_,_,_,_,_,_,_,_,_,_,_,_,_,_,_,_,_,_,_,_,_,_,_,_,_,_,_,_,_,_,_,_,_,_,_,_,_,_,_,_]) rfl ?_
    refine rl_calld (met_some rfl rfl (decide_eq_true rfl)) (first := []) (cap := []) rfl rfl fC37 (fun h_ H_ => c37 (.main true) _ _ (fun b_ o_ e_ => H_.per b_ o_ e_) size start _ _ _ _ (show Days _ _ _ ds from D11) size start _ _ _ _ (D.mono le10) (by omega)) rfl ?_
    refine rl_det (met_none rfl) (fun h_ H_ => exd_pick_t rfl (decide_eq_true rfl) (v := .bool (decide (size = size ∧ start = start ∧ ds = ds))) rfl) rfl ?_
    refine rl_det (met_none rfl) (fun h_ H_ => exd_move (v := .bool (decide (size = size ∧ start = start ∧ ds = ds))) rfl) (tm' := [_,_,_,_,_,_,_,_,_,_,_,_,_,_,_,_,_,_,_,_,_,_,_,_,_,_,_,_,_,_,_,_,_,_,_,_,_,_,_,_,_,_,_,_,_,_,_,_,_,_,_,_,_,_,_,_,_,_,_,_,_,_,_,_,_,_,_,_,_,_,_,_,_,_,_,_,_,_,_,_,_,_,_,_,_,_,_,_,_,_,_]) rfl ?_
    refine rl_calld (met_some rfl rfl (decide_eq_true ⟨rfl, rfl, rfl⟩)) (first := []) (cap := []) rfl rfl fC18 (fun h_ H_ => c18 _) rfl ?_
    refine rl_det (met_none rfl) (fun h_ H_ => exd_pick_t rfl (decide_eq_true ⟨rfl, rfl, rfl⟩) (v := .bool (true)) rfl) rfl ?_
    refine rl_det (met_none rfl) (fun h_ H_ => exd_assign (v := .bool (true)) rfl) (tm' := _::_::_::_::_::_) rfl ?_
    refine rl_end ?_
    refine fl_retE (by kernel_rfl) Try.func13 rfl (vs := [.bool (true)]) (fun h_ H_ => ⟨.bool (true), _, rfl, rfl, rfl⟩) (v := .bool (true)) rfl ?_
    exact fun h_ H_ => K _ _ ⟨rfl, H_.kept⟩
end Go.Proofs.Ytbmkacnlhlbnjaa
namespace Go.Proofs.Ytbmkacnlhlbnjaa
open Go.X Go.X.Cist Go.Conc Go.RowKit Go.ChangeShapes Go.WideShapes Go.ChangeAt Go.Joins
set_option maxRecDepth 100000

theorem lifted13 (os : Os) (started : os.Started) (H : Type) (enc : TypeId × Value → H) :
    ReturnsInLeavingWide {} Try.checked os 13 .any (Rows.cisternsDrySpec.pre6 enc Try.prog Try.f13 Rows.cisternsDryRow.domain false) (Rows.cisternsDrySpec.post enc Try.prog Try.f13 false true false false) := by
  refine returnsInLeavingWide_of_change_sized (C := Try.checked) pOwn started Try.func13
    (ChangeSpec.witness6 (enc := enc) (C := Try.checked) false ⟨#[], #[.agg #[.int .i64 0, .int .i64 0, .slice none 0 0], .int .i64 0], []⟩ 8 (by kernel_rfl) (by kernel_rfl) (by kernel_rfl) (by kernel_rfl)) ?_
  intro W base args ds gs before hval0 hW _ _ _
  have hval : ∀ (j : Nat) t v, Try.f13.params[j]? = some t → args[j]? = some v → Value.okWide Try.prog W .any base t v := hval0
  have hW2 := hW
  obtain ⟨p, q, hA0, hV, rfl, _, _⟩ := hW2
  have hA : DataW.TrodAll enc Try.prog W 0 (fun _ => true) true Try.f13.params.toList args.toList ds p := hA0
  rw [Try.params13] at hA hval
  obtain ⟨v0, v1, d0, d1, p0, p1, rfl, rfl, _, h0, h1⟩ := trodAll_two hA
  obtain ⟨rfl, rfl⟩ := trodVars_none hV
  obtain ⟨size, start, a, n, c, ds, rfl, D⟩ := open_year (hval 0 24 v0 rfl rfl) h0
  obtain ⟨k, rfl, hk⟩ := open_num (hval 1 3 v1 rfl rfl) h1
  obtain ⟨N, last, o, w2, t2, r1, r2, r3, r4⟩ := good_of_enters (w := W) (e13 (nilV W.heap) (vwP W) (vwP_per W) size start a n c ds D k hk) fun v h2 r => r.2
  refine ⟨N, last, o, w2, t2, r1, r2, r3, r4.mono fun v ⟨hB, h2, e, _⟩ => ?_⟩
  subst e
  exact law_post pLaid rfl (fun t ht => by rw [Try.params13] at ht; revert t; decide +kernel) rfl Try.underlying4 hW rfl hB

theorem cisternsDryHolds : Rows.CisternsDrySaid :=
  OpenClaim.holds_of_wide_leaving 13 Try.f13 rfl rfl rfl rfl rfl rfl rfl ⟨rfl, rfl, rfl, rfl, rfl⟩ rfl rfl rfl rfl rfl (by kernel_rfl) Try.func13 (by kernel_rfl)
    (of_decide_eq_true (by kernel_rfl)) (by unfold Func.isWrapper; rw [if_neg (of_decide_eq_false (by kernel_rfl))]; exact ⟨rfl, rfl⟩)
    (fun os started H enc _ => lifted13 os started H enc)

#print axioms cisternsDryHolds
end Go.Proofs.Ytbmkacnlhlbnjaa
