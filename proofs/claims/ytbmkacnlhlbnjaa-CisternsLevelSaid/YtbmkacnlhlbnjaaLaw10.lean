/-
  CisternsLevel, for every input: the law returns true and leaves its arguments as they were. No condition.
-/
import Derived.Test.YtbmkacnlhlbnjaaLaw10P1
import Derived.Test.YtbmkacnlhlbnjaaC3x
namespace Go.Proofs.Ytbmkacnlhlbnjaa
open Go.X Go.X.Cist Go.Conc
set_option maxRecDepth 10000

theorem c77w (md : Md) (h : Heap) (p : PHeap) (hp : Per p h) (size start : Int) (a : Option Addr) (n c : Nat) (ds : List Day) (D : Days p a n ds) (hn : n ≤ 8) (hL : Lok size start ds) (hc : (wea ds).length ≤ 60) : CallsX Try.prog md 77 #[.agg #[.int .i64 (size), .int .i64 (start), .slice a n c]] h fun v h' => ∃ w es X Z, v = w ∧ OwnS 30 3 w es X ∧ InnS p n (yFL size start ds n) (yFK size start ds n) (yFO size start ds n) es (wea ds).length Z ∧ es.length = (wea ds).length ∧ New h h' (X ++ (Z ++ [])) :=
  (c77 md h p hp size start a n c ds D hn hL hc).mono fun v _ ⟨es, X, Z, o, i, el, N⟩ => ⟨v, es, X, Z, rfl, o, i, el, N⟩
theorem c40 (md : Md) (h : Heap) (p : PHeap) (hp : Per p h) (size start : Int) (a : Option Addr) (n c : Nat) (ds : List Day) (D : Days p a n ds) (hn : n ≤ 40) (hc0 : Ok size start ds → (wea ds).length ≤ 60) (day : Int) : CallsX Try.prog md 40 #[.agg #[.int .i64 (size), .int .i64 (start), .slice a n c], .int .i64 (day)] h fun v h' => v = .tuple #[.agg #[.int .i64 (levelR size start ds day).1.1, .int .i64 (levelR size start ds day).1.2], .int .i64 (levelR size start ds day).2] ∧ Keep h h' := by
  refine calls_intro (Φ := fun h_ => St h [] p h_ []) Try.func40 rfl (tm := [_, _, _, _, _, _, _, _, _, _, _, _, _, _, _, _, _, _, _, _, _, _, _, _, _, _, _, _, _, _, _, _, _, _, _, _, _, _, _, _, _, _, _, _, _, _, _, _, _, _, _, _, _]) rfl ?_ (St.start h _ hp)
  intro c₀ cs Stop K
  have hl := D.len
  refine fl_seq ?_
  refine rl_start ?_
  refine rl_box (met_none rfl) (v := .agg #[.int .i64 (size), .int .i64 (start), .slice a n c]) rfl fun b1 => rl_own (L' := [(b1, .cells #[.int .i64 (size), .int .i64 (start), .slice a n c] 24 (0, 0))]) rfl ?_
  refine rl_alloc (met_none rfl) tZ36 rfl fun b2 => rl_own (L' := [(b2, .cells #[.int .i64 0, .int .i64 0] 36 (0, 0)), (b1, .cells #[.int .i64 (size), .int .i64 (start), .slice a n c] 24 (0, 0))]) rfl ?_
  refine rl_det (met_none rfl) (fun h_ H_ => exd_assign (v := .int .i64 0) rfl) (tm' := _::_::_::_::_::_::_) rfl ?_
  refine rl_end ?_
  refine fl_seq ?_
  refine fl_seq ?_
  refine fl_drawn2 4 [[], [], [], [1, 2], [], []] mixed (by kernel_rfl) (Nat.le_of_ble_eq_true rfl) ?_
  refine swr_det (met_none rfl) (fun h_ H_ => exd_loadN_own H_ tA24 tS24 rfl (i := 1) rfl (vs := [.int .i64 (size), .int .i64 (start), .slice a n c]) rfl rfl) (tm' := _::_::_::_::_::_::_::_::_::_::_::_) rfl ?_
  refine swr_det (met_none rfl) (fun h_ H_ => exd_loadN_own H_ tA24 tS24 rfl (i := 1) rfl (vs := [.int .i64 (size), .int .i64 (start), .slice a n c]) rfl rfl) rfl ?_
  refine swr_det (met_none rfl) (fun h_ H_ => exd_move (v := .int .i64 (day)) rfl) (tm' := _::_::_::_::_::_::_::_::_::_::_::_::_::_) rfl ?_
  refine swr_call (met_none rfl) (first := []) (cap := []) rfl rfl fC26 (fun h_ H_ => (c26 md _ _ (fun b_ o_ e_ => H_.per b_ o_ e_) (size) (start) _ _ _ _ D (by omega) day).mono fun v_ h2_ ⟨e_, k_⟩ => ⟨e_, H_.call k_⟩) rfl ?_
  refine swr_nil rfl ?_
  refine rl_calld (met_none rfl) (first := []) (cap := []) rfl rfl fC74 (fun h_ H_ => c74 md _ _ (fun b_ o_ e_ => H_.per b_ o_ e_) (size) (start) _ _ _ _ D (by omega) (decide (IsDay ds day))) rfl ?_
  refine rl_det (met_none rfl) (fun h_ H_ => exd_assign (v := .int .i64 (askd (size) (start) ds (decide (IsDay ds day)))) rfl) (tm' := _::_::_::_::_::_::_::_) rfl ?_
  refine rl_end ?_
  refine fl_seq ?_
  refine rl_start ?_
  refine rl_det (met_none rfl) (fun h_ H_ => exd_move (v := .int .i64 (askd (size) (start) ds (decide (IsDay ds day)))) rfl) rfl ?_
  refine rl_det (met_none rfl) (fun h_ H_ => exd_neq rfl rfl) rfl ?_
  refine rl_end ?_
  by_cases cc3 : askd (size) (start) ds (decide (IsDay ds day)) ≠ 0
  · refine fl_then rfl (decide_eq_true cc3) ?_
    refine fl_seq ?_
    refine rl_start ?_
    refine rl_det (met_none rfl) (fun h_ H_ => exd_build tZ36 tP36 (vs := []) rfl (cells := #[.int .i64 0, .int .i64 0]) rfl) (tm' := _::_::_::_::_::_::_::_::_::_::_::_::_::_::_::_::_::_::_) rfl ?_
    refine rl_det (met_none rfl) (fun h_ H_ => exd_move (v := .int .i64 (askd (size) (start) ds (decide (IsDay ds day)))) rfl) rfl ?_
    refine rl_store (met_none rfl) tS36 rfl (v := .agg #[.int .i64 0, .int .i64 0]) rfl (i := 0) rfl rfl rfl (Nat.le_of_ble_eq_true rfl) (cs2 := [.int .i64 0, .int .i64 0]) rfl (rl_own (L' := [(b2, .cells #[.int .i64 0, .int .i64 0] 36 (0, 0)), (b1, .cells #[.int .i64 (size), .int .i64 (start), .slice a n c] 24 (0, 0))]) rfl ?_)
    refine rl_det (met_none rfl) (fun h_ H_ => exd_assign (v := .int .i64 (askd (size) (start) ds (decide (IsDay ds day)))) rfl) rfl ?_
    refine rl_end ?_
    refine fl_ret Try.func40 rfl (vs := [.agg #[.int .i64 0, .int .i64 0], .int .i64 (askd (size) (start) ds (decide (IsDay ds day)))]) (fun h_ H_ => ⟨.agg #[.int .i64 0, .int .i64 0], _, rfl, (wpS_bind (wpS_pure (wpS_loadVarN tA36 tS36 (vs := [.int .i64 0, .int .i64 0]) rfl (fun j_ v_ e_ => by rw [add_mk]; exact H_.ocell (i := 0) rfl (by simpa using e_)) ⟨rfl, rfl⟩))), ⟨.int .i64 (askd (size) (start) ds (decide (IsDay ds day))), _, rfl, rfl, rfl⟩⟩) (v := .tuple #[.agg #[.int .i64 0, .int .i64 0], .int .i64 (askd (size) (start) ds (decide (IsDay ds day)))]) rfl ?_
    exact fun h_ H_ => K _ _ ⟨by unfold levelR; rw [if_neg ‹_›], H_.kept⟩
  · refine fl_else rfl (decide_eq_false cc3) ?_
    refine fl_skip ?_
    refine fl_seq ?_
    have h0 : askd size start ds (decide (IsDay ds day)) = 0 := by omega
    have hOk : Ok size start ds := (askd_zero.1 h0).1
    have hL := hOk.lok
    have hd := hOk.dok
    have h8 := hOk.2.2.2.2.1
    have hc := hc0 hOk
    have hpos := wea_pos hd
    have hday : IsDay ds day := of_decide_eq_true (askd_zero.1 h0).2
    have hd0 := hday.1; have hd1 := hday.2
    refine rl_start ?_
    refine rl_det (met_none rfl) (fun h_ H_ => exd_loadN_own H_ tA24 tS24 rfl (i := 1) rfl (vs := [.int .i64 (size), .int .i64 (start), .slice a n c]) rfl rfl) (tm' := _::_::_::_::_::_::_::_::_::_::_::_::_::_::_::_::_::_::_::_::_) rfl ?_
    refine rl_own (L' := ([(b2, .cells #[.int .i64 0, .int .i64 0] 36 (0, 0)), (b1, .cells #[.int .i64 (size), .int .i64 (start), .slice a n c] 24 (0, 0))] : Pcs) ++ []) rfl ?_
    refine rl_call (met_none rfl) (first := []) (cap := []) rfl rfl fC77 (R := fun v_ h_ => ∃ w10 : Value, ∃ es4 : List (List Value), ∃ X5 : Pcs, ∃ Z6 : Pcs, v_ = w10 ∧ (OwnS 30 3 w10 es4 X5) ∧ (InnS p n (yFL size start ds n) (yFK size start ds n) (yFO size start ds n) es4 (wea ds).length Z6) ∧ (es4.length = (wea ds).length) ∧ St h [] p h_ (([(b2, .cells #[.int .i64 0, .int .i64 0] 36 (0, 0)), (b1, .cells #[.int .i64 (size), .int .i64 (start), .slice a n c] 24 (0, 0))] : Pcs) ++ ((X5 ++ (Z6 ++ [])) ++ []))) (fun h_ H_ => (c77w md _ _ (fun b_ o_ e_ => H_.per b_ o_ e_) (size) (start) _ _ _ _ D (by omega) hL hc).mono fun v_ h2_ ⟨w10, es4, X5, Z6, e_, o7, i8, el9, N_⟩ => ⟨w10, es4, X5, Z6, e_, o7, i8, el9, H_.callNA N_⟩) fun v_ => ?_
    refine rl_ex fun w10 => rl_ex fun es4 => rl_ex fun X5 => rl_ex fun Z6 => rl_and fun ev_ => rl_and fun o7 => rl_and fun i8 => rl_and fun el9 => ?_
    have ev_ := ev_.symm; subst ev_
    refine rl_own (L' := ([(b2, .cells #[.int .i64 0, .int .i64 0] 36 (0, 0)), (b1, .cells #[.int .i64 (size), .int .i64 (start), .slice a n c] 24 (0, 0))] : Pcs) ++ (X5 ++ (Z6 ++ []))) (by simp) ?_
    refine rl_det (met_none rfl) (fun h_ H_ => exd_assign (v := w10) rfl) rfl ?_
    refine rl_end ?_
    refine fl_seq ?_
    refine rs_perm (List.Perm.append_left _ (List.perm_append_comm_assoc _ _ _)) ?_
    refine rs_own (L' := ([(b2, .cells #[.int .i64 0, .int .i64 0] 36 (0, 0)), (b1, .cells #[.int .i64 (size), .int .i64 (start), .slice a n c] 24 (0, 0))] : Pcs) ++ (Z6 ++ (X5 ++ []))) rfl ?_
    refine rs_lastX (A := ([(b2, .cells #[.int .i64 0, .int .i64 0] 36 (0, 0)), (b1, .cells #[.int .i64 (size), .int .i64 (start), .slice a n c] 24 (0, 0))] : Pcs)) (Z := Z6) fun p11 le12 hz13 => ?_
    refine rs_lastN (A := ([(b2, .cells #[.int .i64 0, .int .i64 0] 36 (0, 0)), (b1, .cells #[.int .i64 (size), .int .i64 (start), .slice a n c] 24 (0, 0))] : Pcs)) o7 el9 fun p21 a22 cp23 le24 ev_ D25 => ?_
    subst ev_
    refine rs_own (L' := [(b2, .cells #[.int .i64 0, .int .i64 0] 36 (0, 0)), (b1, .cells #[.int .i64 (size), .int .i64 (start), .slice a n c] 24 (0, 0))]) rfl ?_
    obtain ⟨A15, C16, A17, C18, A19, C20, T14⟩ := (i8 _ (le12.trans le24) (fun x_ hx_ => le24 _ _ (hz13 x_ hx_))).tab D25
    obtain ⟨Gb28, hG15_⟩ := sk1 (fun (v_ : Value) (x_ : Pcs) (b28 : Nat) => v_ = .pointer (some ⟨b28, 0, none⟩) ∧ x_ = (([(b28, .cells #[.int .i64 0, .int .i64 0] 36 (0, 0))] : Pcs) ++ []))
    refine rs_as (fl_mixed2 (C := []) (A := ([(b2, .cells #[.int .i64 0, .int .i64 0] 36 (0, 0)), (b1, .cells #[.int .i64 (size), .int .i64 (start), .slice a n c] 24 (0, 0))] : Pcs)) 16 [] [] [15] [0, 1, 2, 3, 4, 5, 6, 7, 8, 9, 10, 11, 12, 13, 14] (fun _ => []) (fun _ => []) (fun i_ => match i_ with | 0 => [] | 1 => [0] | 2 => [1] | 3 => [2] | 4 => [] | 5 => [3, 4] | 6 => [5] | 7 => [] | 8 => [7] | 9 => [8] | 10 => [9] | 11 => [] | 12 => [10, 11] | 13 => [12] | 14 => [6, 13] | 15 => [] | _ => []) (fun i_ val_ pc_ v_ x_ => match i_ with | 0 => v_ = .slice a22 ((wea ds).length) cp23 ∧ x_ = [] | 1 => v_ = .pointer (some ((adr a22).add (0 * 3))) ∧ x_ = [] | 2 => v_ = .pointer (some ((adr a22).add (0 * 3))) ∧ x_ = [] | 3 => v_ = .slice (A15 0) n (C16 0) ∧ x_ = [] | 4 => v_ = .int .i64 (day) ∧ x_ = [] | 5 => v_ = .pointer (some ((adr (A15 0)).add ((day).toNat * 1))) ∧ x_ = [] | 6 => v_ = .int .i64 ((yFL size start ds n 0).getD ((day).toNat) 0) ∧ x_ = [] | 7 => v_ = .slice a22 ((wea ds).length) cp23 ∧ x_ = [] | 8 => v_ = .pointer (some ((adr a22).add (0 * 3))) ∧ x_ = [] | 9 => v_ = .pointer (some ((adr a22).add (0 * 3))) ∧ x_ = [] | 10 => v_ = .slice (A15 0) n (C16 0) ∧ x_ = [] | 11 => v_ = .int .i64 (day) ∧ x_ = [] | 12 => v_ = .pointer (some ((adr (A15 0)).add ((day).toNat * 1))) ∧ x_ = [] | 13 => v_ = .int .i64 ((yFL size start ds n 0).getD ((day).toNat) 0) ∧ x_ = [] | 14 => v_ = .agg #[.int .i64 ((yFL size start ds n 0).getD ((day).toNat) 0), .int .i64 ((yFL size start ds n 0).getD ((day).toNat) 0)] ∧ x_ = [] | 15 => ∃ b28 : Nat, v_ = .pointer (some ⟨b28, 0, none⟩) ∧ x_ = (([(b28, .cells #[.int .i64 0, .int .i64 0] 36 (0, 0))] : Pcs) ++ []) | _ => True) (fun val26 => [.agg #[.int .i64 (size), .int .i64 (start), .slice a n c], .int .i64 (day), .pointer (some ⟨b1, 0, none⟩), undef, .pointer (some ⟨b2, 0, none⟩), .int .i64 0, .int .i64 (askd (size) (start) ds (decide (IsDay ds day))), .slice a22 ((wea ds).length) cp23, (val26 15), undef, .agg #[.int .i64 (size), .int .i64 (start), .slice a n c], .agg #[.int .i64 (size), .int .i64 (start), .slice a n c], .int .i64 (day), .bool (decide (IsDay ds day)), .int .i64 (askd (size) (start) ds (decide (IsDay ds day))), .int .i64 (askd (size) (start) ds (decide (IsDay ds day))), .bool (decide (askd (size) (start) ds (decide (IsDay ds day)) ≠ 0)), undef, undef, .agg #[.int .i64 (size), .int .i64 (start), .slice a n c], .slice a22 ((wea ds).length) cp23, (val26 0), (val26 1), (val26 2), (val26 3), (val26 4), (val26 5), (val26 6), (val26 7), (val26 8), (val26 9), (val26 10), (val26 11), (val26 12), (val26 13), (val26 14), undef, undef, undef, undef, undef, undef, undef, undef, undef, undef, undef, undef, undef, undef, undef, undef, undef]) mixed (by kernel_rfl) (Nat.le_of_ble_eq_true rfl) (by kernel_rfl) (by kernel_rfl) (by kernel_rfl) (fun _ _ => ⟨fun _ _ h => h.2, ⟨fun _ _ h => h.2, ⟨fun _ _ h => h.2, ⟨fun _ _ h => h.2, ⟨fun _ _ h => h.2, ⟨fun _ _ h => h.2, ⟨fun _ _ h => h.2, ⟨fun _ _ h => h.2, ⟨fun _ _ h => h.2, ⟨fun _ _ h => h.2, ⟨fun _ _ h => h.2, ⟨fun _ _ h => h.2, ⟨fun _ _ h => h.2, ⟨fun _ _ h => h.2, ⟨fun _ _ h => h.2, trivial⟩⟩⟩⟩⟩⟩⟩⟩⟩⟩⟩⟩⟩⟩⟩) (fun _ => by kernel_rfl) (by kernel_rfl) ?_ ?_) (fun h_ H_ => St.swap (A := ([(b2, .cells #[.int .i64 0, .int .i64 0] 36 (0, 0)), (b1, .cells #[.int .i64 (size), .int .i64 (start), .slice a n c] 24 (0, 0))] : Pcs)) (U := []) H_)
    · refine mixes_cons rfl (opmix2 ?_) ?_
      · intro val26 pc27 hQ_ hX_
        obtain ⟨q_, hq0_⟩ : ∃ q_ : Value → Pcs → Prop, q_ = (fun v_ x_ => v_ = .slice a22 ((wea ds).length) cp23 ∧ x_ = []) := ⟨_, rfl⟩
        refine ⟨[.agg #[.int .i64 (size), .int .i64 (start), .slice a n c], .int .i64 (day), .pointer (some ⟨b1, 0, none⟩), undef, .pointer (some ⟨b2, 0, none⟩), .int .i64 0, .int .i64 (askd (size) (start) ds (decide (IsDay ds day))), .slice a22 ((wea ds).length) cp23, (val26 15), undef, .agg #[.int .i64 (size), .int .i64 (start), .slice a n c], .agg #[.int .i64 (size), .int .i64 (start), .slice a n c], .int .i64 (day), .bool (decide (IsDay ds day)), .int .i64 (askd (size) (start) ds (decide (IsDay ds day))), .int .i64 (askd (size) (start) ds (decide (IsDay ds day))), .bool (decide (askd (size) (start) ds (decide (IsDay ds day)) ≠ 0)), undef, undef, .agg #[.int .i64 (size), .int .i64 (start), .slice a n c], .slice a22 ((wea ds).length) cp23, (val26 0), (val26 1), (val26 2), (val26 3), (val26 4), (val26 5), (val26 6), (val26 7), (val26 8), (val26 9), (val26 10), (val26 11), (val26 12), (val26 13), (val26 14), undef, undef, undef, undef, undef, undef, undef, undef, undef, undef, undef, undef, undef, undef, undef, undef, undef], [], q_, rfl, rfl, (fun _ _ z_ => by subst hq0_; exact z_), ?_⟩
        subst hq0_
        exact mix_det (met_none rfl) (fun _ h_ H_ => exd_move (v := .slice a22 ((wea ds).length) cp23) rfl) ⟨rfl, rfl⟩
      refine mixes_cons rfl (opmix2 ?_) ?_
      · intro val26 pc27 hQ_ hX_
        have e0_ : val26 0 = .slice a22 ((wea ds).length) cp23 := (hQ_ 0 rfl).1
        obtain ⟨q_, hq0_⟩ : ∃ q_ : Value → Pcs → Prop, q_ = (fun v_ x_ => v_ = .pointer (some ((adr a22).add (0 * 3))) ∧ x_ = []) := ⟨_, rfl⟩
        refine ⟨[.agg #[.int .i64 (size), .int .i64 (start), .slice a n c], .int .i64 (day), .pointer (some ⟨b1, 0, none⟩), undef, .pointer (some ⟨b2, 0, none⟩), .int .i64 0, .int .i64 (askd (size) (start) ds (decide (IsDay ds day))), .slice a22 ((wea ds).length) cp23, (val26 15), undef, .agg #[.int .i64 (size), .int .i64 (start), .slice a n c], .agg #[.int .i64 (size), .int .i64 (start), .slice a n c], .int .i64 (day), .bool (decide (IsDay ds day)), .int .i64 (askd (size) (start) ds (decide (IsDay ds day))), .int .i64 (askd (size) (start) ds (decide (IsDay ds day))), .bool (decide (askd (size) (start) ds (decide (IsDay ds day)) ≠ 0)), undef, undef, .agg #[.int .i64 (size), .int .i64 (start), .slice a n c], .slice a22 ((wea ds).length) cp23, .slice a22 ((wea ds).length) cp23, (val26 1), (val26 2), (val26 3), (val26 4), (val26 5), (val26 6), (val26 7), (val26 8), (val26 9), (val26 10), (val26 11), (val26 12), (val26 13), (val26 14), undef, undef, undef, undef, undef, undef, undef, undef, undef, undef, undef, undef, undef, undef, undef, undef, undef], [], q_, (by simp only [e0_]), rfl, (fun _ _ z_ => by subst hq0_; exact z_), ?_⟩
        subst hq0_
        exact mix_det (met_none rfl) (fun _ h_ H_ => exd_indexAddrN (i := 0) Try.underlying81 tS30 (sl_ne a22 ((wea ds).length) cp23 (T14.ne (by omega))) rfl (by omega)) ⟨rfl, rfl⟩
      refine mixes_cons rfl (opmix2 ?_) ?_
      · intro val26 pc27 hQ_ hX_
        have e1_ : val26 1 = .pointer (some ((adr a22).add (0 * 3))) := (hQ_ 1 rfl).1
        obtain ⟨q_, hq0_⟩ : ∃ q_ : Value → Pcs → Prop, q_ = (fun v_ x_ => v_ = .pointer (some ((adr a22).add (0 * 3))) ∧ x_ = []) := ⟨_, rfl⟩
        refine ⟨[.agg #[.int .i64 (size), .int .i64 (start), .slice a n c], .int .i64 (day), .pointer (some ⟨b1, 0, none⟩), undef, .pointer (some ⟨b2, 0, none⟩), .int .i64 0, .int .i64 (askd (size) (start) ds (decide (IsDay ds day))), .slice a22 ((wea ds).length) cp23, (val26 15), undef, .agg #[.int .i64 (size), .int .i64 (start), .slice a n c], .agg #[.int .i64 (size), .int .i64 (start), .slice a n c], .int .i64 (day), .bool (decide (IsDay ds day)), .int .i64 (askd (size) (start) ds (decide (IsDay ds day))), .int .i64 (askd (size) (start) ds (decide (IsDay ds day))), .bool (decide (askd (size) (start) ds (decide (IsDay ds day)) ≠ 0)), undef, undef, .agg #[.int .i64 (size), .int .i64 (start), .slice a n c], .slice a22 ((wea ds).length) cp23, (val26 0), .pointer (some ((adr a22).add (0 * 3))), (val26 2), (val26 3), (val26 4), (val26 5), (val26 6), (val26 7), (val26 8), (val26 9), (val26 10), (val26 11), (val26 12), (val26 13), (val26 14), undef, undef, undef, undef, undef, undef, undef, undef, undef, undef, undef, undef, undef, undef, undef, undef, undef], [], q_, (by simp only [e1_]), rfl, (fun _ _ z_ => by subst hq0_; exact z_), ?_⟩
        subst hq0_
        exact mix_det (met_none rfl) (fun _ h_ H_ => exd_fieldAddr tF30_0 rfl (a' := (adr a22).add (0 * 3)) rfl) ⟨rfl, rfl⟩
      refine mixes_cons rfl (opmix2 ?_) ?_
      · intro val26 pc27 hQ_ hX_
        have e2_ : val26 2 = .pointer (some ((adr a22).add (0 * 3))) := (hQ_ 2 rfl).1
        obtain ⟨q_, hq0_⟩ : ∃ q_ : Value → Pcs → Prop, q_ = (fun v_ x_ => v_ = .slice (A15 0) n (C16 0) ∧ x_ = []) := ⟨_, rfl⟩
        refine ⟨[.agg #[.int .i64 (size), .int .i64 (start), .slice a n c], .int .i64 (day), .pointer (some ⟨b1, 0, none⟩), undef, .pointer (some ⟨b2, 0, none⟩), .int .i64 0, .int .i64 (askd (size) (start) ds (decide (IsDay ds day))), .slice a22 ((wea ds).length) cp23, (val26 15), undef, .agg #[.int .i64 (size), .int .i64 (start), .slice a n c], .agg #[.int .i64 (size), .int .i64 (start), .slice a n c], .int .i64 (day), .bool (decide (IsDay ds day)), .int .i64 (askd (size) (start) ds (decide (IsDay ds day))), .int .i64 (askd (size) (start) ds (decide (IsDay ds day))), .bool (decide (askd (size) (start) ds (decide (IsDay ds day)) ≠ 0)), undef, undef, .agg #[.int .i64 (size), .int .i64 (start), .slice a n c], .slice a22 ((wea ds).length) cp23, (val26 0), (val26 1), .pointer (some ((adr a22).add (0 * 3))), (val26 3), (val26 4), (val26 5), (val26 6), (val26 7), (val26 8), (val26 9), (val26 10), (val26 11), (val26 12), (val26 13), (val26 14), undef, undef, undef, undef, undef, undef, undef, undef, undef, undef, undef, undef, undef, undef, undef, undef, undef], [], q_, (by simp only [e2_]), rfl, (fun _ _ z_ => by subst hq0_; exact z_), ?_⟩
        subst hq0_
        exact mix_det (met_none rfl) (fun _ h_ H_ => exd_load_per H_ tA25 rfl (v := .slice (A15 0) n (C16 0)) (T14.cell1 _ (by omega))) ⟨rfl, rfl⟩
      refine mixes_cons rfl (opmix2 ?_) ?_
      · intro val26 pc27 hQ_ hX_
        obtain ⟨q_, hq0_⟩ : ∃ q_ : Value → Pcs → Prop, q_ = (fun v_ x_ => v_ = .int .i64 (day) ∧ x_ = []) := ⟨_, rfl⟩
        refine ⟨[.agg #[.int .i64 (size), .int .i64 (start), .slice a n c], .int .i64 (day), .pointer (some ⟨b1, 0, none⟩), undef, .pointer (some ⟨b2, 0, none⟩), .int .i64 0, .int .i64 (askd (size) (start) ds (decide (IsDay ds day))), .slice a22 ((wea ds).length) cp23, (val26 15), undef, .agg #[.int .i64 (size), .int .i64 (start), .slice a n c], .agg #[.int .i64 (size), .int .i64 (start), .slice a n c], .int .i64 (day), .bool (decide (IsDay ds day)), .int .i64 (askd (size) (start) ds (decide (IsDay ds day))), .int .i64 (askd (size) (start) ds (decide (IsDay ds day))), .bool (decide (askd (size) (start) ds (decide (IsDay ds day)) ≠ 0)), undef, undef, .agg #[.int .i64 (size), .int .i64 (start), .slice a n c], .slice a22 ((wea ds).length) cp23, (val26 0), (val26 1), (val26 2), (val26 3), (val26 4), (val26 5), (val26 6), (val26 7), (val26 8), (val26 9), (val26 10), (val26 11), (val26 12), (val26 13), (val26 14), undef, undef, undef, undef, undef, undef, undef, undef, undef, undef, undef, undef, undef, undef, undef, undef, undef], [], q_, rfl, rfl, (fun _ _ z_ => by subst hq0_; exact z_), ?_⟩
        subst hq0_
        exact mix_det (met_none rfl) (fun _ h_ H_ => exd_move (v := .int .i64 (day)) rfl) ⟨rfl, rfl⟩
      refine mixes_cons rfl (opmix2 ?_) ?_
      · intro val26 pc27 hQ_ hX_
        have e3_ : val26 3 = .slice (A15 0) n (C16 0) := (hQ_ 3 rfl).1
        have e4_ : val26 4 = .int .i64 (day) := (hQ_ 4 rfl).1
        obtain ⟨q_, hq0_⟩ : ∃ q_ : Value → Pcs → Prop, q_ = (fun v_ x_ => v_ = .pointer (some ((adr (A15 0)).add ((day).toNat * 1))) ∧ x_ = []) := ⟨_, rfl⟩
        refine ⟨[.agg #[.int .i64 (size), .int .i64 (start), .slice a n c], .int .i64 (day), .pointer (some ⟨b1, 0, none⟩), undef, .pointer (some ⟨b2, 0, none⟩), .int .i64 0, .int .i64 (askd (size) (start) ds (decide (IsDay ds day))), .slice a22 ((wea ds).length) cp23, (val26 15), undef, .agg #[.int .i64 (size), .int .i64 (start), .slice a n c], .agg #[.int .i64 (size), .int .i64 (start), .slice a n c], .int .i64 (day), .bool (decide (IsDay ds day)), .int .i64 (askd (size) (start) ds (decide (IsDay ds day))), .int .i64 (askd (size) (start) ds (decide (IsDay ds day))), .bool (decide (askd (size) (start) ds (decide (IsDay ds day)) ≠ 0)), undef, undef, .agg #[.int .i64 (size), .int .i64 (start), .slice a n c], .slice a22 ((wea ds).length) cp23, (val26 0), (val26 1), (val26 2), .slice (A15 0) n (C16 0), .int .i64 (day), (val26 5), (val26 6), (val26 7), (val26 8), (val26 9), (val26 10), (val26 11), (val26 12), (val26 13), (val26 14), undef, undef, undef, undef, undef, undef, undef, undef, undef, undef, undef, undef, undef, undef, undef, undef, undef], [], q_, (by simp only [e3_, e4_]), rfl, (fun _ _ z_ => by subst hq0_; exact z_), ?_⟩
        subst hq0_
        exact mix_det (met_none rfl) (fun _ h_ H_ => exd_indexAddr Try.underlying25 tS3 (sl_ne (A15 0) n (C16 0) ((T14.ints1 _ (by omega)).ne (by omega))) rfl (by omega) (by omega) (a' := (adr (A15 0)).add ((day).toNat * 1)) rfl) ⟨rfl, rfl⟩
      refine mixes_cons rfl (opmix2 ?_) ?_
      · intro val26 pc27 hQ_ hX_
        have e5_ : val26 5 = .pointer (some ((adr (A15 0)).add ((day).toNat * 1))) := (hQ_ 5 rfl).1
        obtain ⟨q_, hq0_⟩ : ∃ q_ : Value → Pcs → Prop, q_ = (fun v_ x_ => v_ = .int .i64 ((yFL size start ds n 0).getD ((day).toNat) 0) ∧ x_ = []) := ⟨_, rfl⟩
        refine ⟨[.agg #[.int .i64 (size), .int .i64 (start), .slice a n c], .int .i64 (day), .pointer (some ⟨b1, 0, none⟩), undef, .pointer (some ⟨b2, 0, none⟩), .int .i64 0, .int .i64 (askd (size) (start) ds (decide (IsDay ds day))), .slice a22 ((wea ds).length) cp23, (val26 15), undef, .agg #[.int .i64 (size), .int .i64 (start), .slice a n c], .agg #[.int .i64 (size), .int .i64 (start), .slice a n c], .int .i64 (day), .bool (decide (IsDay ds day)), .int .i64 (askd (size) (start) ds (decide (IsDay ds day))), .int .i64 (askd (size) (start) ds (decide (IsDay ds day))), .bool (decide (askd (size) (start) ds (decide (IsDay ds day)) ≠ 0)), undef, undef, .agg #[.int .i64 (size), .int .i64 (start), .slice a n c], .slice a22 ((wea ds).length) cp23, (val26 0), (val26 1), (val26 2), (val26 3), (val26 4), .pointer (some ((adr (A15 0)).add ((day).toNat * 1))), (val26 6), (val26 7), (val26 8), (val26 9), (val26 10), (val26 11), (val26 12), (val26 13), (val26 14), undef, undef, undef, undef, undef, undef, undef, undef, undef, undef, undef, undef, undef, undef, undef, undef, undef], [], q_, (by simp only [e5_]), rfl, (fun _ _ z_ => by subst hq0_; exact z_), ?_⟩
        subst hq0_
        exact mix_det (met_none rfl) (fun _ h_ H_ => exd_load_per H_ tA3 rfl (v := .int .i64 ((yFL size start ds n 0).getD ((day).toNat) 0)) ((T14.ints1 _ (by omega)).get (by omega))) ⟨rfl, rfl⟩
      refine mixes_cons rfl (opmix2 ?_) ?_
      · intro val26 pc27 hQ_ hX_
        obtain ⟨q_, hq0_⟩ : ∃ q_ : Value → Pcs → Prop, q_ = (fun v_ x_ => v_ = .slice a22 ((wea ds).length) cp23 ∧ x_ = []) := ⟨_, rfl⟩
        refine ⟨[.agg #[.int .i64 (size), .int .i64 (start), .slice a n c], .int .i64 (day), .pointer (some ⟨b1, 0, none⟩), undef, .pointer (some ⟨b2, 0, none⟩), .int .i64 0, .int .i64 (askd (size) (start) ds (decide (IsDay ds day))), .slice a22 ((wea ds).length) cp23, (val26 15), undef, .agg #[.int .i64 (size), .int .i64 (start), .slice a n c], .agg #[.int .i64 (size), .int .i64 (start), .slice a n c], .int .i64 (day), .bool (decide (IsDay ds day)), .int .i64 (askd (size) (start) ds (decide (IsDay ds day))), .int .i64 (askd (size) (start) ds (decide (IsDay ds day))), .bool (decide (askd (size) (start) ds (decide (IsDay ds day)) ≠ 0)), undef, undef, .agg #[.int .i64 (size), .int .i64 (start), .slice a n c], .slice a22 ((wea ds).length) cp23, (val26 0), (val26 1), (val26 2), (val26 3), (val26 4), (val26 5), (val26 6), (val26 7), (val26 8), (val26 9), (val26 10), (val26 11), (val26 12), (val26 13), (val26 14), undef, undef, undef, undef, undef, undef, undef, undef, undef, undef, undef, undef, undef, undef, undef, undef, undef], [], q_, rfl, rfl, (fun _ _ z_ => by subst hq0_; exact z_), ?_⟩
        subst hq0_
        exact mix_det (met_none rfl) (fun _ h_ H_ => exd_move (v := .slice a22 ((wea ds).length) cp23) rfl) ⟨rfl, rfl⟩
      refine mixes_cons rfl (opmix2 ?_) ?_
      · intro val26 pc27 hQ_ hX_
        have e7_ : val26 7 = .slice a22 ((wea ds).length) cp23 := (hQ_ 7 rfl).1
        obtain ⟨q_, hq0_⟩ : ∃ q_ : Value → Pcs → Prop, q_ = (fun v_ x_ => v_ = .pointer (some ((adr a22).add (0 * 3))) ∧ x_ = []) := ⟨_, rfl⟩
        refine ⟨[.agg #[.int .i64 (size), .int .i64 (start), .slice a n c], .int .i64 (day), .pointer (some ⟨b1, 0, none⟩), undef, .pointer (some ⟨b2, 0, none⟩), .int .i64 0, .int .i64 (askd (size) (start) ds (decide (IsDay ds day))), .slice a22 ((wea ds).length) cp23, (val26 15), undef, .agg #[.int .i64 (size), .int .i64 (start), .slice a n c], .agg #[.int .i64 (size), .int .i64 (start), .slice a n c], .int .i64 (day), .bool (decide (IsDay ds day)), .int .i64 (askd (size) (start) ds (decide (IsDay ds day))), .int .i64 (askd (size) (start) ds (decide (IsDay ds day))), .bool (decide (askd (size) (start) ds (decide (IsDay ds day)) ≠ 0)), undef, undef, .agg #[.int .i64 (size), .int .i64 (start), .slice a n c], .slice a22 ((wea ds).length) cp23, (val26 0), (val26 1), (val26 2), (val26 3), (val26 4), (val26 5), (val26 6), .slice a22 ((wea ds).length) cp23, (val26 8), (val26 9), (val26 10), (val26 11), (val26 12), (val26 13), (val26 14), undef, undef, undef, undef, undef, undef, undef, undef, undef, undef, undef, undef, undef, undef, undef, undef, undef], [], q_, (by simp only [e7_]), rfl, (fun _ _ z_ => by subst hq0_; exact z_), ?_⟩
        subst hq0_
        exact mix_det (met_none rfl) (fun _ h_ H_ => exd_indexAddrN (i := 0) Try.underlying81 tS30 (sl_ne a22 ((wea ds).length) cp23 (T14.ne (by omega))) rfl (by omega)) ⟨rfl, rfl⟩
      refine mixes_cons rfl (opmix2 ?_) ?_
      · intro val26 pc27 hQ_ hX_
        have e8_ : val26 8 = .pointer (some ((adr a22).add (0 * 3))) := (hQ_ 8 rfl).1
        obtain ⟨q_, hq0_⟩ : ∃ q_ : Value → Pcs → Prop, q_ = (fun v_ x_ => v_ = .pointer (some ((adr a22).add (0 * 3))) ∧ x_ = []) := ⟨_, rfl⟩
        refine ⟨[.agg #[.int .i64 (size), .int .i64 (start), .slice a n c], .int .i64 (day), .pointer (some ⟨b1, 0, none⟩), undef, .pointer (some ⟨b2, 0, none⟩), .int .i64 0, .int .i64 (askd (size) (start) ds (decide (IsDay ds day))), .slice a22 ((wea ds).length) cp23, (val26 15), undef, .agg #[.int .i64 (size), .int .i64 (start), .slice a n c], .agg #[.int .i64 (size), .int .i64 (start), .slice a n c], .int .i64 (day), .bool (decide (IsDay ds day)), .int .i64 (askd (size) (start) ds (decide (IsDay ds day))), .int .i64 (askd (size) (start) ds (decide (IsDay ds day))), .bool (decide (askd (size) (start) ds (decide (IsDay ds day)) ≠ 0)), undef, undef, .agg #[.int .i64 (size), .int .i64 (start), .slice a n c], .slice a22 ((wea ds).length) cp23, (val26 0), (val26 1), (val26 2), (val26 3), (val26 4), (val26 5), (val26 6), (val26 7), .pointer (some ((adr a22).add (0 * 3))), (val26 9), (val26 10), (val26 11), (val26 12), (val26 13), (val26 14), undef, undef, undef, undef, undef, undef, undef, undef, undef, undef, undef, undef, undef, undef, undef, undef, undef], [], q_, (by simp only [e8_]), rfl, (fun _ _ z_ => by subst hq0_; exact z_), ?_⟩
        subst hq0_
        exact mix_det (met_none rfl) (fun _ h_ H_ => exd_fieldAddr tF30_0 rfl (a' := (adr a22).add (0 * 3)) rfl) ⟨rfl, rfl⟩
      refine mixes_cons rfl (opmix2 ?_) ?_
      · intro val26 pc27 hQ_ hX_
        have e9_ : val26 9 = .pointer (some ((adr a22).add (0 * 3))) := (hQ_ 9 rfl).1
        obtain ⟨q_, hq0_⟩ : ∃ q_ : Value → Pcs → Prop, q_ = (fun v_ x_ => v_ = .slice (A15 0) n (C16 0) ∧ x_ = []) := ⟨_, rfl⟩
        refine ⟨[.agg #[.int .i64 (size), .int .i64 (start), .slice a n c], .int .i64 (day), .pointer (some ⟨b1, 0, none⟩), undef, .pointer (some ⟨b2, 0, none⟩), .int .i64 0, .int .i64 (askd (size) (start) ds (decide (IsDay ds day))), .slice a22 ((wea ds).length) cp23, (val26 15), undef, .agg #[.int .i64 (size), .int .i64 (start), .slice a n c], .agg #[.int .i64 (size), .int .i64 (start), .slice a n c], .int .i64 (day), .bool (decide (IsDay ds day)), .int .i64 (askd (size) (start) ds (decide (IsDay ds day))), .int .i64 (askd (size) (start) ds (decide (IsDay ds day))), .bool (decide (askd (size) (start) ds (decide (IsDay ds day)) ≠ 0)), undef, undef, .agg #[.int .i64 (size), .int .i64 (start), .slice a n c], .slice a22 ((wea ds).length) cp23, (val26 0), (val26 1), (val26 2), (val26 3), (val26 4), (val26 5), (val26 6), (val26 7), (val26 8), .pointer (some ((adr a22).add (0 * 3))), (val26 10), (val26 11), (val26 12), (val26 13), (val26 14), undef, undef, undef, undef, undef, undef, undef, undef, undef, undef, undef, undef, undef, undef, undef, undef, undef], [], q_, (by simp only [e9_]), rfl, (fun _ _ z_ => by subst hq0_; exact z_), ?_⟩
        subst hq0_
        exact mix_det (met_none rfl) (fun _ h_ H_ => exd_load_per H_ tA25 rfl (v := .slice (A15 0) n (C16 0)) (T14.cell1 _ (by omega))) ⟨rfl, rfl⟩
      refine mixes_cons rfl (opmix2 ?_) ?_
      · intro val26 pc27 hQ_ hX_
        obtain ⟨q_, hq0_⟩ : ∃ q_ : Value → Pcs → Prop, q_ = (fun v_ x_ => v_ = .int .i64 (day) ∧ x_ = []) := ⟨_, rfl⟩
        refine ⟨[.agg #[.int .i64 (size), .int .i64 (start), .slice a n c], .int .i64 (day), .pointer (some ⟨b1, 0, none⟩), undef, .pointer (some ⟨b2, 0, none⟩), .int .i64 0, .int .i64 (askd (size) (start) ds (decide (IsDay ds day))), .slice a22 ((wea ds).length) cp23, (val26 15), undef, .agg #[.int .i64 (size), .int .i64 (start), .slice a n c], .agg #[.int .i64 (size), .int .i64 (start), .slice a n c], .int .i64 (day), .bool (decide (IsDay ds day)), .int .i64 (askd (size) (start) ds (decide (IsDay ds day))), .int .i64 (askd (size) (start) ds (decide (IsDay ds day))), .bool (decide (askd (size) (start) ds (decide (IsDay ds day)) ≠ 0)), undef, undef, .agg #[.int .i64 (size), .int .i64 (start), .slice a n c], .slice a22 ((wea ds).length) cp23, (val26 0), (val26 1), (val26 2), (val26 3), (val26 4), (val26 5), (val26 6), (val26 7), (val26 8), (val26 9), (val26 10), (val26 11), (val26 12), (val26 13), (val26 14), undef, undef, undef, undef, undef, undef, undef, undef, undef, undef, undef, undef, undef, undef, undef, undef, undef], [], q_, rfl, rfl, (fun _ _ z_ => by subst hq0_; exact z_), ?_⟩
        subst hq0_
        exact mix_det (met_none rfl) (fun _ h_ H_ => exd_move (v := .int .i64 (day)) rfl) ⟨rfl, rfl⟩
      refine mixes_cons rfl (opmix2 ?_) ?_
      · intro val26 pc27 hQ_ hX_
        have e10_ : val26 10 = .slice (A15 0) n (C16 0) := (hQ_ 10 rfl).1
        have e11_ : val26 11 = .int .i64 (day) := (hQ_ 11 rfl).1
        obtain ⟨q_, hq0_⟩ : ∃ q_ : Value → Pcs → Prop, q_ = (fun v_ x_ => v_ = .pointer (some ((adr (A15 0)).add ((day).toNat * 1))) ∧ x_ = []) := ⟨_, rfl⟩
        refine ⟨[.agg #[.int .i64 (size), .int .i64 (start), .slice a n c], .int .i64 (day), .pointer (some ⟨b1, 0, none⟩), undef, .pointer (some ⟨b2, 0, none⟩), .int .i64 0, .int .i64 (askd (size) (start) ds (decide (IsDay ds day))), .slice a22 ((wea ds).length) cp23, (val26 15), undef, .agg #[.int .i64 (size), .int .i64 (start), .slice a n c], .agg #[.int .i64 (size), .int .i64 (start), .slice a n c], .int .i64 (day), .bool (decide (IsDay ds day)), .int .i64 (askd (size) (start) ds (decide (IsDay ds day))), .int .i64 (askd (size) (start) ds (decide (IsDay ds day))), .bool (decide (askd (size) (start) ds (decide (IsDay ds day)) ≠ 0)), undef, undef, .agg #[.int .i64 (size), .int .i64 (start), .slice a n c], .slice a22 ((wea ds).length) cp23, (val26 0), (val26 1), (val26 2), (val26 3), (val26 4), (val26 5), (val26 6), (val26 7), (val26 8), (val26 9), .slice (A15 0) n (C16 0), .int .i64 (day), (val26 12), (val26 13), (val26 14), undef, undef, undef, undef, undef, undef, undef, undef, undef, undef, undef, undef, undef, undef, undef, undef, undef], [], q_, (by simp only [e10_, e11_]), rfl, (fun _ _ z_ => by subst hq0_; exact z_), ?_⟩
        subst hq0_
        exact mix_det (met_none rfl) (fun _ h_ H_ => exd_indexAddr Try.underlying25 tS3 (sl_ne (A15 0) n (C16 0) ((T14.ints1 _ (by omega)).ne (by omega))) rfl (by omega) (by omega) (a' := (adr (A15 0)).add ((day).toNat * 1)) rfl) ⟨rfl, rfl⟩
      refine mixes_cons rfl (opmix2 ?_) ?_
      · intro val26 pc27 hQ_ hX_
        have e12_ : val26 12 = .pointer (some ((adr (A15 0)).add ((day).toNat * 1))) := (hQ_ 12 rfl).1
        obtain ⟨q_, hq0_⟩ : ∃ q_ : Value → Pcs → Prop, q_ = (fun v_ x_ => v_ = .int .i64 ((yFL size start ds n 0).getD ((day).toNat) 0) ∧ x_ = []) := ⟨_, rfl⟩
        refine ⟨[.agg #[.int .i64 (size), .int .i64 (start), .slice a n c], .int .i64 (day), .pointer (some ⟨b1, 0, none⟩), undef, .pointer (some ⟨b2, 0, none⟩), .int .i64 0, .int .i64 (askd (size) (start) ds (decide (IsDay ds day))), .slice a22 ((wea ds).length) cp23, (val26 15), undef, .agg #[.int .i64 (size), .int .i64 (start), .slice a n c], .agg #[.int .i64 (size), .int .i64 (start), .slice a n c], .int .i64 (day), .bool (decide (IsDay ds day)), .int .i64 (askd (size) (start) ds (decide (IsDay ds day))), .int .i64 (askd (size) (start) ds (decide (IsDay ds day))), .bool (decide (askd (size) (start) ds (decide (IsDay ds day)) ≠ 0)), undef, undef, .agg #[.int .i64 (size), .int .i64 (start), .slice a n c], .slice a22 ((wea ds).length) cp23, (val26 0), (val26 1), (val26 2), (val26 3), (val26 4), (val26 5), (val26 6), (val26 7), (val26 8), (val26 9), (val26 10), (val26 11), .pointer (some ((adr (A15 0)).add ((day).toNat * 1))), (val26 13), (val26 14), undef, undef, undef, undef, undef, undef, undef, undef, undef, undef, undef, undef, undef, undef, undef, undef, undef], [], q_, (by simp only [e12_]), rfl, (fun _ _ z_ => by subst hq0_; exact z_), ?_⟩
        subst hq0_
        exact mix_det (met_none rfl) (fun _ h_ H_ => exd_load_per H_ tA3 rfl (v := .int .i64 ((yFL size start ds n 0).getD ((day).toNat) 0)) ((T14.ints1 _ (by omega)).get (by omega))) ⟨rfl, rfl⟩
      refine mixes_cons rfl (opmix2 ?_) ?_
      · intro val26 pc27 hQ_ hX_
        have e6_ : val26 6 = .int .i64 ((yFL size start ds n 0).getD ((day).toNat) 0) := (hQ_ 6 rfl).1
        have e13_ : val26 13 = .int .i64 ((yFL size start ds n 0).getD ((day).toNat) 0) := (hQ_ 13 rfl).1
        obtain ⟨q_, hq0_⟩ : ∃ q_ : Value → Pcs → Prop, q_ = (fun v_ x_ => v_ = .agg #[.int .i64 ((yFL size start ds n 0).getD ((day).toNat) 0), .int .i64 ((yFL size start ds n 0).getD ((day).toNat) 0)] ∧ x_ = []) := ⟨_, rfl⟩
        refine ⟨[.agg #[.int .i64 (size), .int .i64 (start), .slice a n c], .int .i64 (day), .pointer (some ⟨b1, 0, none⟩), undef, .pointer (some ⟨b2, 0, none⟩), .int .i64 0, .int .i64 (askd (size) (start) ds (decide (IsDay ds day))), .slice a22 ((wea ds).length) cp23, (val26 15), undef, .agg #[.int .i64 (size), .int .i64 (start), .slice a n c], .agg #[.int .i64 (size), .int .i64 (start), .slice a n c], .int .i64 (day), .bool (decide (IsDay ds day)), .int .i64 (askd (size) (start) ds (decide (IsDay ds day))), .int .i64 (askd (size) (start) ds (decide (IsDay ds day))), .bool (decide (askd (size) (start) ds (decide (IsDay ds day)) ≠ 0)), undef, undef, .agg #[.int .i64 (size), .int .i64 (start), .slice a n c], .slice a22 ((wea ds).length) cp23, (val26 0), (val26 1), (val26 2), (val26 3), (val26 4), (val26 5), .int .i64 ((yFL size start ds n 0).getD ((day).toNat) 0), (val26 7), (val26 8), (val26 9), (val26 10), (val26 11), (val26 12), .int .i64 ((yFL size start ds n 0).getD ((day).toNat) 0), (val26 14), undef, undef, undef, undef, undef, undef, undef, undef, undef, undef, undef, undef, undef, undef, undef, undef, undef], [], q_, (by simp only [e6_, e13_]), rfl, (fun _ _ z_ => by subst hq0_; exact z_), ?_⟩
        subst hq0_
        exact mix_det (met_none rfl) (fun _ h_ H_ => exd_build tZ36 tP36 (vs := [(0, .int .i64 ((yFL size start ds n 0).getD ((day).toNat) 0)), (1, .int .i64 ((yFL size start ds n 0).getD ((day).toNat) 0))]) rfl (cells := #[.int .i64 ((yFL size start ds n 0).getD ((day).toNat) 0), .int .i64 ((yFL size start ds n 0).getD ((day).toNat) 0)]) rfl) ⟨rfl, rfl⟩
      refine mixes_cons rfl (opmix2 ?_) ?_
      · intro val26 pc27 hQ_ hX_
        obtain ⟨q_, hq0_⟩ : ∃ q_ : Value → Pcs → Prop, q_ = (fun v_ x_ => ∃ b28 : Nat, v_ = .pointer (some ⟨b28, 0, none⟩) ∧ x_ = (([(b28, .cells #[.int .i64 0, .int .i64 0] 36 (0, 0))] : Pcs) ++ [])) := ⟨_, rfl⟩
        refine ⟨[.agg #[.int .i64 (size), .int .i64 (start), .slice a n c], .int .i64 (day), .pointer (some ⟨b1, 0, none⟩), undef, .pointer (some ⟨b2, 0, none⟩), .int .i64 0, .int .i64 (askd (size) (start) ds (decide (IsDay ds day))), .slice a22 ((wea ds).length) cp23, (val26 15), undef, .agg #[.int .i64 (size), .int .i64 (start), .slice a n c], .agg #[.int .i64 (size), .int .i64 (start), .slice a n c], .int .i64 (day), .bool (decide (IsDay ds day)), .int .i64 (askd (size) (start) ds (decide (IsDay ds day))), .int .i64 (askd (size) (start) ds (decide (IsDay ds day))), .bool (decide (askd (size) (start) ds (decide (IsDay ds day)) ≠ 0)), undef, undef, .agg #[.int .i64 (size), .int .i64 (start), .slice a n c], .slice a22 ((wea ds).length) cp23, (val26 0), (val26 1), (val26 2), (val26 3), (val26 4), (val26 5), (val26 6), (val26 7), (val26 8), (val26 9), (val26 10), (val26 11), (val26 12), (val26 13), (val26 14), undef, undef, undef, undef, undef, undef, undef, undef, undef, undef, undef, undef, undef, undef, undef, undef, undef], [], q_, rfl, rfl, (fun _ _ z_ => by subst hq0_; exact z_), ?_⟩
        subst hq0_
        exact mix_alloc (met_none rfl) tZ36 rfl fun b_ => ⟨b_, rfl, rfl⟩
      exact mixes_nil rfl
    intro val26 pc27 hQ_ hX_
    have e0_ : val26 0 = .slice a22 ((wea ds).length) cp23 := (hQ_ 0 (by decide)).1
    have e1_ : val26 1 = .pointer (some ((adr a22).add (0 * 3))) := (hQ_ 1 (by decide)).1
    have e2_ : val26 2 = .pointer (some ((adr a22).add (0 * 3))) := (hQ_ 2 (by decide)).1
    have e3_ : val26 3 = .slice (A15 0) n (C16 0) := (hQ_ 3 (by decide)).1
    have e4_ : val26 4 = .int .i64 (day) := (hQ_ 4 (by decide)).1
    have e5_ : val26 5 = .pointer (some ((adr (A15 0)).add ((day).toNat * 1))) := (hQ_ 5 (by decide)).1
    have e6_ : val26 6 = .int .i64 ((yFL size start ds n 0).getD ((day).toNat) 0) := (hQ_ 6 (by decide)).1
    have e7_ : val26 7 = .slice a22 ((wea ds).length) cp23 := (hQ_ 7 (by decide)).1
    have e8_ : val26 8 = .pointer (some ((adr a22).add (0 * 3))) := (hQ_ 8 (by decide)).1
    have e9_ : val26 9 = .pointer (some ((adr a22).add (0 * 3))) := (hQ_ 9 (by decide)).1
    have e10_ : val26 10 = .slice (A15 0) n (C16 0) := (hQ_ 10 (by decide)).1
    have e11_ : val26 11 = .int .i64 (day) := (hQ_ 11 (by decide)).1
    have e12_ : val26 12 = .pointer (some ((adr (A15 0)).add ((day).toNat * 1))) := (hQ_ 12 (by decide)).1
    have e13_ : val26 13 = .int .i64 ((yFL size start ds n 0).getD ((day).toNat) 0) := (hQ_ 13 (by decide)).1
    have e14_ : val26 14 = .agg #[.int .i64 ((yFL size start ds n 0).getD ((day).toNat) 0), .int .i64 ((yFL size start ds n 0).getD ((day).toNat) 0)] := (hQ_ 14 (by decide)).1
    obtain ⟨e15_, x15_⟩ := hG15_ _ _ (hQ_ 15 (by decide))
    clear hQ_ hX_
    generalize Gb28 (val26 15) (pc27 15) = b28 at *
    refine rl_as (Φ := fun h_ => St h [] p21 h_ (([(b2, .cells #[.int .i64 0, .int .i64 0] 36 (0, 0)), (b1, .cells #[.int .i64 (size), .int .i64 (start), .slice a n c] 24 (0, 0))] : Pcs) ++ (pc27 15 ++ []))) ?_ (fun h_ H_ => H_.swap')
    rw [x15_]
    refine rl_own (L' := ([(b2, .cells #[.int .i64 0, .int .i64 0] 36 (0, 0)), (b1, .cells #[.int .i64 (size), .int .i64 (start), .slice a n c] 24 (0, 0))] : Pcs) ++ (([(b28, .cells #[.int .i64 0, .int .i64 0] 36 (0, 0))] : Pcs) ++ [])) (by simp) ?_
    refine rl_norm (tm' := [.agg #[.int .i64 (size), .int .i64 (start), .slice a n c], .int .i64 (day), .pointer (some ⟨b1, 0, none⟩), undef, .pointer (some ⟨b2, 0, none⟩), .int .i64 0, .int .i64 (askd (size) (start) ds (decide (IsDay ds day))), .slice a22 ((wea ds).length) cp23, .pointer (some ⟨b28, 0, none⟩), undef, .agg #[.int .i64 (size), .int .i64 (start), .slice a n c], .agg #[.int .i64 (size), .int .i64 (start), .slice a n c], .int .i64 (day), .bool (decide (IsDay ds day)), .int .i64 (askd (size) (start) ds (decide (IsDay ds day))), .int .i64 (askd (size) (start) ds (decide (IsDay ds day))), .bool (decide (askd (size) (start) ds (decide (IsDay ds day)) ≠ 0)), undef, undef, .agg #[.int .i64 (size), .int .i64 (start), .slice a n c], .slice a22 ((wea ds).length) cp23, .slice a22 ((wea ds).length) cp23, .pointer (some ((adr a22).add (0 * 3))), .pointer (some ((adr a22).add (0 * 3))), .slice (A15 0) n (C16 0), .int .i64 (day), .pointer (some ((adr (A15 0)).add ((day).toNat * 1))), .int .i64 ((yFL size start ds n 0).getD ((day).toNat) 0), .slice a22 ((wea ds).length) cp23, .pointer (some ((adr a22).add (0 * 3))), .pointer (some ((adr a22).add (0 * 3))), .slice (A15 0) n (C16 0), .int .i64 (day), .pointer (some ((adr (A15 0)).add ((day).toNat * 1))), .int .i64 ((yFL size start ds n 0).getD ((day).toNat) 0), .agg #[.int .i64 ((yFL size start ds n 0).getD ((day).toNat) 0), .int .i64 ((yFL size start ds n 0).getD ((day).toNat) 0)], undef, undef, undef, undef, undef, undef, undef, undef, undef, undef, undef, undef, undef, undef, undef, undef, undef]) (by simp only [e0_, e1_, e2_, e3_, e4_, e5_, e6_, e7_, e8_, e9_, e10_, e11_, e12_, e13_, e14_, e15_]) ?_
    refine rl_own (L' := ([(b2, .cells #[.int .i64 0, .int .i64 0] 36 (0, 0)), (b1, .cells #[.int .i64 (size), .int .i64 (start), .slice a n c] 24 (0, 0))] : Pcs) ++ (([(b28, .cells #[.int .i64 0, .int .i64 0] 36 (0, 0))] : Pcs) ++ [])) rfl ?_
    refine rl_perm (List.perm_append_comm_assoc ([(b2, .cells #[.int .i64 0, .int .i64 0] 36 (0, 0)), (b1, .cells #[.int .i64 (size), .int .i64 (start), .slice a n c] 24 (0, 0))] : Pcs) ([(b28, .cells #[.int .i64 0, .int .i64 0] 36 (0, 0))] : Pcs) _) ?_
    refine rl_own (L' := [(b28, .cells #[.int .i64 0, .int .i64 0] 36 (0, 0)), (b2, .cells #[.int .i64 0, .int .i64 0] 36 (0, 0)), (b1, .cells #[.int .i64 (size), .int .i64 (start), .slice a n c] 24 (0, 0))]) rfl ?_
    refine rl_store (met_none rfl) tS36 rfl (v := .agg #[.int .i64 ((yFL size start ds n 0).getD ((day).toNat) 0), .int .i64 ((yFL size start ds n 0).getD ((day).toNat) 0)]) rfl (i := 0) rfl rfl rfl (Nat.le_of_ble_eq_true rfl) (cs2 := [.int .i64 ((yFL size start ds n 0).getD ((day).toNat) 0), .int .i64 ((yFL size start ds n 0).getD ((day).toNat) 0)]) rfl (rl_own (L' := [(b28, .cells #[.int .i64 ((yFL size start ds n 0).getD ((day).toNat) 0), .int .i64 ((yFL size start ds n 0).getD ((day).toNat) 0)] 36 (0, 0)), (b2, .cells #[.int .i64 0, .int .i64 0] 36 (0, 0)), (b1, .cells #[.int .i64 (size), .int .i64 (start), .slice a n c] 24 (0, 0))]) rfl ?_)
    refine rl_end ?_
    refine fl_seq ?_
    refine fl_seq ?_
    refine rl_start ?_
    refine rl_det (met_none rfl) (fun h_ H_ => exd_assign (v := .int .i64 0) rfl) (tm' := _::_::_::_::_::_::_::_::_::_::_) rfl ?_
    refine rl_end ?_
    refine fl_block ?_
    refine fl_loop (m₀ := (wea ds).length - 0) (fun m_ tm_ h_ => ∃ (k : Nat), m_ = (wea ds).length - k ∧ (∃ y31 : Nat → Value, tm_ = [.agg #[.int .i64 (size), .int .i64 (start), .slice a n c], .int .i64 (day), .pointer (some ⟨b1, 0, none⟩), undef, .pointer (some ⟨b2, 0, none⟩), .int .i64 0, .int .i64 (askd (size) (start) ds (decide (IsDay ds day))), .slice a22 ((wea ds).length) cp23, .pointer (some ⟨b28, 0, none⟩), .int .i64 (((k : Nat) : Int)), .agg #[.int .i64 (size), .int .i64 (start), .slice a n c], .agg #[.int .i64 (size), .int .i64 (start), .slice a n c], .int .i64 (day), .bool (decide (IsDay ds day)), .int .i64 (askd (size) (start) ds (decide (IsDay ds day))), .int .i64 (askd (size) (start) ds (decide (IsDay ds day))), .bool (decide (askd (size) (start) ds (decide (IsDay ds day)) ≠ 0)), undef, undef, .agg #[.int .i64 (size), .int .i64 (start), .slice a n c], .slice a22 ((wea ds).length) cp23, .slice a22 ((wea ds).length) cp23, .pointer (some ((adr a22).add (0 * 3))), .pointer (some ((adr a22).add (0 * 3))), .slice (A15 0) n (C16 0), .int .i64 (day), .pointer (some ((adr (A15 0)).add ((day).toNat * 1))), .int .i64 ((yFL size start ds n 0).getD ((day).toNat) 0), .slice a22 ((wea ds).length) cp23, .pointer (some ((adr a22).add (0 * 3))), .pointer (some ((adr a22).add (0 * 3))), .slice (A15 0) n (C16 0), .int .i64 (day), .pointer (some ((adr (A15 0)).add ((day).toNat * 1))), .int .i64 ((yFL size start ds n 0).getD ((day).toNat) 0), .agg #[.int .i64 ((yFL size start ds n 0).getD ((day).toNat) 0), .int .i64 ((yFL size start ds n 0).getD ((day).toNat) 0)], (y31 36), (y31 37), (y31 38), (y31 39), (y31 40), (y31 41), (y31 42), (y31 43), (y31 44), (y31 45), (y31 46), (y31 47), (y31 48), (y31 49), (y31 50), (y31 51), undef]) ∧ (k ≤ (wea ds).length) ∧ St h [] p21 h_ ([(b28, .cells #[.int .i64 (mnF (gL size start ds n (day).toNat) k), .int .i64 (mxF (gL size start ds n (day).toNat) k)] 36 (0, 0)), (b2, .cells #[.int .i64 0, .int .i64 0] 36 (0, 0)), (b1, .cells #[.int .i64 (size), .int .i64 (start), .slice a n c] 24 (0, 0))])) (fun h_ H_ => ⟨0, rfl, (y_of rfl), Nat.zero_le _, H_⟩) ?_
    intro m_ tm_ IH32
    refine rs_ex fun k => rs_and fun hm_ => rs_and fun ht_ => rs_and fun hk => ?_
    subst hm_; obtain ⟨y31, ht_⟩ := ht_; subst ht_
    refine fl_seq ?_
    refine fl_seq ?_
    refine rl_start ?_
    refine rl_det (met_none rfl) (fun h_ H_ => exd_move (v := .int .i64 (((k : Nat) : Int))) rfl) rfl ?_
    refine rl_det (met_none rfl) (fun h_ H_ => exd_move (v := .slice a22 ((wea ds).length) cp23) rfl) rfl ?_
    refine rl_det (met_none rfl) (fun h_ H_ => exd_len Try.underlying81 rfl) (tm' := [_,_,_,_,_,_,_,_,_,_,_,_,_,_,_,_,_,_,_,_,_,_,_,_,_,_,_,_,_,_,_,_,_,_,_,_,_,_,_,_,_,_,_,_,_,_,_,_,_,_,_,_,_]) rfl ?_
    refine rl_det (met_none rfl) (fun h_ H_ => exd_lss rfl rfl) rfl ?_
    refine rl_end ?_
    by_cases cc33 : ((k : Nat) : Int) < (((wea ds).length : Nat) : Int)
    · refine fl_then rfl (decide_eq_true cc33) ?_
      refine fl_skip ?_
      refine fl_seq ?_
      refine fl_block ?_
      refine fl_drawn2 9 [[], [], [], [1, 2], [1, 2, 3], [1, 2, 3, 4], [], [1, 2, 3, 4, 5, 6], [1, 2, 3, 4, 5, 6, 7], [], []] mixed (by kernel_rfl) (Nat.le_of_ble_eq_true rfl) ?_
      refine swr_det (met_none rfl) (fun h_ H_ => exd_loadN_own H_ tA36 tS36 rfl (i := 0) rfl (vs := [.int .i64 (mnF (gL size start ds n (day).toNat) k), .int .i64 (mxF (gL size start ds n (day).toNat) k)]) rfl rfl) (tm' := [_,_,_,_,_,_,_,_,_,_,_,_,_,_,_,_,_,_,_,_,_,_,_,_,_,_,_,_,_,_,_,_,_,_,_,_,_,_,_,_,_,_,_,_,_,_,_,_,_,_,_,_,_]) rfl ?_
      refine swr_det (met_none rfl) (fun h_ H_ => exd_move (v := .slice a22 ((wea ds).length) cp23) rfl) rfl ?_
      refine swr_det (met_none rfl) (fun h_ H_ => exd_move (v := .int .i64 (((k : Nat) : Int))) rfl) (tm' := [_,_,_,_,_,_,_,_,_,_,_,_,_,_,_,_,_,_,_,_,_,_,_,_,_,_,_,_,_,_,_,_,_,_,_,_,_,_,_,_,_,_,_,_,_,_,_,_,_,_,_,_,_]) rfl ?_
      refine swr_det (met_none rfl) (fun h_ H_ => exd_indexAddrN (i := k) Try.underlying81 tS30 (sl_ne a22 ((wea ds).length) cp23 (T14.ne (by omega))) rfl (by omega)) rfl ?_
      refine swr_det (met_none rfl) (fun h_ H_ => exd_fieldAddr tF30_0 rfl (a' := (adr a22).add (k * 3)) rfl) (tm' := [_,_,_,_,_,_,_,_,_,_,_,_,_,_,_,_,_,_,_,_,_,_,_,_,_,_,_,_,_,_,_,_,_,_,_,_,_,_,_,_,_,_,_,_,_,_,_,_,_,_,_,_,_]) rfl ?_
      refine swr_det (met_none rfl) (fun h_ H_ => exd_load_per H_ tA25 rfl (v := .slice (A15 k) n (C16 k)) (T14.cell1 _ (by omega))) rfl ?_
      refine swr_det (met_none rfl) (fun h_ H_ => exd_move (v := .int .i64 (day)) rfl) (tm' := [_,_,_,_,_,_,_,_,_,_,_,_,_,_,_,_,_,_,_,_,_,_,_,_,_,_,_,_,_,_,_,_,_,_,_,_,_,_,_,_,_,_,_,_,_,_,_,_,_,_,_,_,_]) rfl ?_
      refine swr_det (met_none rfl) (fun h_ H_ => exd_indexAddr Try.underlying25 tS3 (sl_ne (A15 k) n (C16 k) ((T14.ints1 _ (by omega)).ne (by omega))) rfl (by omega) (by omega) (a' := (adr (A15 k)).add ((day).toNat * 1)) rfl) rfl ?_
      refine swr_det (met_none rfl) (fun h_ H_ => exd_load_per H_ tA3 rfl (v := .int .i64 ((yFL size start ds n k).getD ((day).toNat) 0)) ((T14.ints1 _ (by omega)).get (by omega))) (tm' := [_,_,_,_,_,_,_,_,_,_,_,_,_,_,_,_,_,_,_,_,_,_,_,_,_,_,_,_,_,_,_,_,_,_,_,_,_,_,_,_,_,_,_,_,_,_,_,_,_,_,_,_,_]) rfl ?_
      refine swr_nil rfl ?_
      refine rl_calld (met_none rfl) (first := []) (cap := []) rfl rfl fC78 (fun h_ H_ => c78 md _ (mnF (gL size start ds n (day).toNat) k) (mxF (gL size start ds n (day).toNat) k) ((yFL size start ds n k).getD ((day).toNat) 0)) rfl ?_
      refine rl_store (met_none rfl) tS36 rfl (v := .agg #[.int .i64 (min (mnF (gL size start ds n (day).toNat) k) ((yFL size start ds n k).getD ((day).toNat) 0)), .int .i64 (max (mxF (gL size start ds n (day).toNat) k) ((yFL size start ds n k).getD ((day).toNat) 0))]) rfl (i := 0) rfl rfl rfl (Nat.le_of_ble_eq_true rfl) (cs2 := [.int .i64 (min (mnF (gL size start ds n (day).toNat) k) ((yFL size start ds n k).getD ((day).toNat) 0)), .int .i64 (max (mxF (gL size start ds n (day).toNat) k) ((yFL size start ds n k).getD ((day).toNat) 0))]) rfl (rl_own (L' := [(b28, .cells #[.int .i64 (min (mnF (gL size start ds n (day).toNat) k) ((yFL size start ds n k).getD ((day).toNat) 0)), .int .i64 (max (mxF (gL size start ds n (day).toNat) k) ((yFL size start ds n k).getD ((day).toNat) 0))] 36 (0, 0)), (b2, .cells #[.int .i64 0, .int .i64 0] 36 (0, 0)), (b1, .cells #[.int .i64 (size), .int .i64 (start), .slice a n c] 24 (0, 0))]) rfl ?_)
      refine rl_end ?_
      refine fl_inBlock ?_
      refine rl_start ?_
      refine rl_det (met_none rfl) (fun h_ H_ => exd_move (v := .int .i64 (((k : Nat) : Int))) rfl) (tm' := [_,_,_,_,_,_,_,_,_,_,_,_,_,_,_,_,_,_,_,_,_,_,_,_,_,_,_,_,_,_,_,_,_,_,_,_,_,_,_,_,_,_,_,_,_,_,_,_,_,_,_,_,_]) rfl ?_
      refine rl_det (met_none rfl) (fun h_ H_ => exd_add rfl rfl (n := ((k + 1 : Nat) : Int)) (wr (by omega))) rfl ?_
      refine rl_det (met_none rfl) (fun h_ H_ => exd_assign (v := .int .i64 (((k + 1 : Nat) : Int))) rfl) rfl ?_
      refine rl_end ?_
      exact fun h_ H_ => IH32 _ _ (by omega) h_ ⟨k + 1, rfl, (y_of rfl), (by omega), H_⟩
    · refine fl_else rfl (decide_eq_false cc33) ?_
      refine fl_exit rfl ?_
      refine fl_seq ?_
      refine rl_start ?_
      refine rl_det (met_none rfl) (fun h_ H_ => exd_loadN_own H_ tA36 tS36 rfl (i := 0) rfl (vs := [.int .i64 (mnF (gL size start ds n (day).toNat) k), .int .i64 (mxF (gL size start ds n (day).toNat) k)]) rfl rfl) (tm' := [_,_,_,_,_,_,_,_,_,_,_,_,_,_,_,_,_,_,_,_,_,_,_,_,_,_,_,_,_,_,_,_,_,_,_,_,_,_,_,_,_,_,_,_,_,_,_,_,_,_,_,_,_]) rfl ?_
      refine rl_store (met_none rfl) tS36 rfl (v := .agg #[.int .i64 (mnF (gL size start ds n (day).toNat) k), .int .i64 (mxF (gL size start ds n (day).toNat) k)]) rfl (i := 1) rfl rfl rfl (Nat.le_of_ble_eq_true rfl) (cs2 := [.int .i64 (mnF (gL size start ds n (day).toNat) k), .int .i64 (mxF (gL size start ds n (day).toNat) k)]) rfl (rl_own (L' := [(b28, .cells #[.int .i64 (mnF (gL size start ds n (day).toNat) k), .int .i64 (mxF (gL size start ds n (day).toNat) k)] 36 (0, 0)), (b2, .cells #[.int .i64 (mnF (gL size start ds n (day).toNat) k), .int .i64 (mxF (gL size start ds n (day).toNat) k)] 36 (0, 0)), (b1, .cells #[.int .i64 (size), .int .i64 (start), .slice a n c] 24 (0, 0))]) rfl ?_)
      refine rl_det (met_none rfl) (fun h_ H_ => exd_assign (v := .int .i64 0) rfl) rfl ?_
      refine rl_end ?_
      refine fl_ret Try.func40 rfl (vs := [.agg #[.int .i64 (mnF (gL size start ds n (day).toNat) k), .int .i64 (mxF (gL size start ds n (day).toNat) k)], .int .i64 0]) (fun h_ H_ => ⟨.agg #[.int .i64 (mnF (gL size start ds n (day).toNat) k), .int .i64 (mxF (gL size start ds n (day).toNat) k)], _, rfl, (wpS_bind (wpS_pure (wpS_loadVarN tA36 tS36 (vs := [.int .i64 (mnF (gL size start ds n (day).toNat) k), .int .i64 (mxF (gL size start ds n (day).toNat) k)]) rfl (fun j_ v_ e_ => by rw [add_mk]; exact H_.ocell (i := 1) rfl (by simpa using e_)) ⟨rfl, rfl⟩))), ⟨.int .i64 0, _, rfl, rfl, rfl⟩⟩) (v := .tuple #[.agg #[.int .i64 (mnF (gL size start ds n (day).toNat) k), .int .i64 (mxF (gL size start ds n (day).toNat) k)], .int .i64 0]) rfl ?_
      obtain rfl : k = (wea ds).length := by omega
      exact fun h_ H_ => K _ _ ⟨by rw [level_ref hOk hday hl], H_.kept⟩
theorem c42 (md : Md) (h : Heap) (p : PHeap) (hp : Per p h) (size start : Int) (a : Option Addr) (n c : Nat) (ds : List Day) (D : Days p a n ds) (hn : n ≤ 40) (hc0 : Ok size start ds → (wea ds).length ≤ 60) (day : Int) : CallsX Try.prog md 42 #[.agg #[.int .i64 (size), .int .i64 (start), .slice a n c], .int .i64 (day)] h fun v h' => v = .tuple #[.agg #[.int .i64 (lackR size start ds day).1.1, .int .i64 (lackR size start ds day).1.2], .int .i64 (lackR size start ds day).2] ∧ Keep h h' := by
  refine calls_intro (Φ := fun h_ => St h [] p h_ []) Try.func42 rfl (tm := [_, _, _, _, _, _, _, _, _, _, _, _, _, _, _, _, _, _, _, _, _, _, _, _, _, _, _, _, _, _, _, _, _, _, _, _, _, _, _, _, _, _, _, _, _, _, _, _, _, _, _, _, _]) rfl ?_ (St.start h _ hp)
  intro c₀ cs Stop K
  have hl := D.len
  refine fl_seq ?_
  refine rl_start ?_
  refine rl_box (met_none rfl) (v := .agg #[.int .i64 (size), .int .i64 (start), .slice a n c]) rfl fun b1 => rl_own (L' := [(b1, .cells #[.int .i64 (size), .int .i64 (start), .slice a n c] 24 (0, 0))]) rfl ?_
  refine rl_alloc (met_none rfl) tZ36 rfl fun b2 => rl_own (L' := [(b2, .cells #[.int .i64 0, .int .i64 0] 36 (0, 0)), (b1, .cells #[.int .i64 (size), .int .i64 (start), .slice a n c] 24 (0, 0))]) rfl ?_
  refine rl_norm (tm' := _::_::_::_::_::_) rfl ?_
  refine rl_det (met_none rfl) (fun h_ H_ => exd_assign (v := .int .i64 0) rfl) rfl ?_
  refine rl_end ?_
  refine fl_seq ?_
  refine fl_seq ?_
  refine fl_drawn2 4 [[], [], [], [1, 2], [], []] mixed (by kernel_rfl) (Nat.le_of_ble_eq_true rfl) ?_
  refine swr_det (met_none rfl) (fun h_ H_ => exd_loadN_own H_ tA24 tS24 rfl (i := 1) rfl (vs := [.int .i64 (size), .int .i64 (start), .slice a n c]) rfl rfl) (tm' := _::_::_::_::_::_::_::_::_::_::_::_) rfl ?_
  refine swr_det (met_none rfl) (fun h_ H_ => exd_loadN_own H_ tA24 tS24 rfl (i := 1) rfl (vs := [.int .i64 (size), .int .i64 (start), .slice a n c]) rfl rfl) rfl ?_
  refine swr_det (met_none rfl) (fun h_ H_ => exd_move (v := .int .i64 (day)) rfl) (tm' := _::_::_::_::_::_::_::_::_::_::_::_::_::_) rfl ?_
  refine swr_call (met_none rfl) (first := []) (cap := []) rfl rfl fC26 (fun h_ H_ => (c26 md _ _ (fun b_ o_ e_ => H_.per b_ o_ e_) (size) (start) _ _ _ _ D (by omega) day).mono fun v_ h2_ ⟨e_, k_⟩ => ⟨e_, H_.call k_⟩) rfl ?_
  refine swr_nil rfl ?_
  refine rl_calld (met_none rfl) (first := []) (cap := []) rfl rfl fC74 (fun h_ H_ => c74 md _ _ (fun b_ o_ e_ => H_.per b_ o_ e_) (size) (start) _ _ _ _ D (by omega) (decide (IsDay ds day))) (tm' := _::_::_::_::_::_::_::_::_::_::_::_::_::_::_::_) rfl ?_
  refine rl_det (met_none rfl) (fun h_ H_ => exd_assign (v := .int .i64 (askd (size) (start) ds (decide (IsDay ds day)))) rfl) rfl ?_
  refine rl_end ?_
  refine fl_seq ?_
  refine rl_start ?_
  refine rl_det (met_none rfl) (fun h_ H_ => exd_move (v := .int .i64 (askd (size) (start) ds (decide (IsDay ds day)))) rfl) rfl ?_
  refine rl_det (met_none rfl) (fun h_ H_ => exd_neq rfl rfl) (tm' := _::_::_::_::_::_::_::_::_::_::_::_::_::_::_::_::_::_) rfl ?_
  refine rl_end ?_
  by_cases cc3 : askd (size) (start) ds (decide (IsDay ds day)) ≠ 0
  · refine fl_then rfl (decide_eq_true cc3) ?_
    refine fl_seq ?_
    refine rl_start ?_
    refine rl_det (met_none rfl) (fun h_ H_ => exd_build tZ36 tP36 (vs := []) rfl (cells := #[.int .i64 0, .int .i64 0]) rfl) rfl ?_
    refine rl_det (met_none rfl) (fun h_ H_ => exd_move (v := .int .i64 (askd (size) (start) ds (decide (IsDay ds day)))) rfl) rfl ?_
    refine rl_store (met_none rfl) tS36 rfl (v := .agg #[.int .i64 0, .int .i64 0]) rfl (i := 0) rfl rfl rfl (Nat.le_of_ble_eq_true rfl) (cs2 := [.int .i64 0, .int .i64 0]) rfl (rl_own (L' := [(b2, .cells #[.int .i64 0, .int .i64 0] 36 (0, 0)), (b1, .cells #[.int .i64 (size), .int .i64 (start), .slice a n c] 24 (0, 0))]) rfl ?_)
    refine rl_det (met_none rfl) (fun h_ H_ => exd_assign (v := .int .i64 (askd (size) (start) ds (decide (IsDay ds day)))) rfl) (tm' := _::_::_::_::_::_::_) rfl ?_
    refine rl_end ?_
    refine fl_ret Try.func42 rfl (vs := [.agg #[.int .i64 0, .int .i64 0], .int .i64 (askd (size) (start) ds (decide (IsDay ds day)))]) (fun h_ H_ => ⟨.agg #[.int .i64 0, .int .i64 0], _, rfl, (wpS_bind (wpS_pure (wpS_loadVarN tA36 tS36 (vs := [.int .i64 0, .int .i64 0]) rfl (fun j_ v_ e_ => by rw [add_mk]; exact H_.ocell (i := 0) rfl (by simpa using e_)) ⟨rfl, rfl⟩))), ⟨.int .i64 (askd (size) (start) ds (decide (IsDay ds day))), _, rfl, rfl, rfl⟩⟩) (v := .tuple #[.agg #[.int .i64 0, .int .i64 0], .int .i64 (askd (size) (start) ds (decide (IsDay ds day)))]) rfl ?_
    exact fun h_ H_ => K _ _ ⟨by unfold lackR; rw [if_neg ‹_›], H_.kept⟩
  · refine fl_else rfl (decide_eq_false cc3) ?_
    refine fl_skip ?_
    refine fl_seq ?_
    have h0 : askd size start ds (decide (IsDay ds day)) = 0 := by omega
    have hOk : Ok size start ds := (askd_zero.1 h0).1
    have hL := hOk.lok
    have hd := hOk.dok
    have h8 := hOk.2.2.2.2.1
    have hc := hc0 hOk
    have hpos := wea_pos hd
    have hday : IsDay ds day := of_decide_eq_true (askd_zero.1 h0).2
    have hd0 := hday.1; have hd1 := hday.2
    refine rl_start ?_
    refine rl_det (met_none rfl) (fun h_ H_ => exd_loadN_own H_ tA24 tS24 rfl (i := 1) rfl (vs := [.int .i64 (size), .int .i64 (start), .slice a n c]) rfl rfl) rfl ?_
    refine rl_own (L' := ([(b2, .cells #[.int .i64 0, .int .i64 0] 36 (0, 0)), (b1, .cells #[.int .i64 (size), .int .i64 (start), .slice a n c] 24 (0, 0))] : Pcs) ++ []) rfl ?_
    refine rl_call (met_none rfl) (first := []) (cap := []) rfl rfl fC77 (R := fun v_ h_ => ∃ w10 : Value, ∃ es4 : List (List Value), ∃ X5 : Pcs, ∃ Z6 : Pcs, v_ = w10 ∧ (OwnS 30 3 w10 es4 X5) ∧ (InnS p n (yFL size start ds n) (yFK size start ds n) (yFO size start ds n) es4 (wea ds).length Z6) ∧ (es4.length = (wea ds).length) ∧ St h [] p h_ (([(b2, .cells #[.int .i64 0, .int .i64 0] 36 (0, 0)), (b1, .cells #[.int .i64 (size), .int .i64 (start), .slice a n c] 24 (0, 0))] : Pcs) ++ ((X5 ++ (Z6 ++ [])) ++ []))) (fun h_ H_ => (c77w md _ _ (fun b_ o_ e_ => H_.per b_ o_ e_) (size) (start) _ _ _ _ D (by omega) hL hc).mono fun v_ h2_ ⟨w10, es4, X5, Z6, e_, o7, i8, el9, N_⟩ => ⟨w10, es4, X5, Z6, e_, o7, i8, el9, H_.callNA N_⟩) fun v_ => ?_
    refine rl_ex fun w10 => rl_ex fun es4 => rl_ex fun X5 => rl_ex fun Z6 => rl_and fun ev_ => rl_and fun o7 => rl_and fun i8 => rl_and fun el9 => ?_
    have ev_ := ev_.symm; subst ev_
    refine rl_own (L' := ([(b2, .cells #[.int .i64 0, .int .i64 0] 36 (0, 0)), (b1, .cells #[.int .i64 (size), .int .i64 (start), .slice a n c] 24 (0, 0))] : Pcs) ++ (X5 ++ (Z6 ++ []))) (by simp) ?_
    refine rl_det (met_none rfl) (fun h_ H_ => exd_assign (v := w10) rfl) (tm' := _::_::_::_::_::_::_::_::_) rfl ?_
    refine rl_end ?_
    refine fl_seq ?_
    refine rs_perm (List.Perm.append_left _ (List.perm_append_comm_assoc _ _ _)) ?_
    refine rs_own (L' := ([(b2, .cells #[.int .i64 0, .int .i64 0] 36 (0, 0)), (b1, .cells #[.int .i64 (size), .int .i64 (start), .slice a n c] 24 (0, 0))] : Pcs) ++ (Z6 ++ (X5 ++ []))) rfl ?_
    refine rs_lastX (A := ([(b2, .cells #[.int .i64 0, .int .i64 0] 36 (0, 0)), (b1, .cells #[.int .i64 (size), .int .i64 (start), .slice a n c] 24 (0, 0))] : Pcs)) (Z := Z6) fun p11 le12 hz13 => ?_
    refine rs_lastN (A := ([(b2, .cells #[.int .i64 0, .int .i64 0] 36 (0, 0)), (b1, .cells #[.int .i64 (size), .int .i64 (start), .slice a n c] 24 (0, 0))] : Pcs)) o7 el9 fun p21 a22 cp23 le24 ev_ D25 => ?_
    subst ev_
    refine rs_own (L' := [(b2, .cells #[.int .i64 0, .int .i64 0] 36 (0, 0)), (b1, .cells #[.int .i64 (size), .int .i64 (start), .slice a n c] 24 (0, 0))]) rfl ?_
    obtain ⟨A15, C16, A17, C18, A19, C20, T14⟩ := (i8 _ (le12.trans le24) (fun x_ hx_ => le24 _ _ (hz13 x_ hx_))).tab D25
    obtain ⟨Gb28, hG15_⟩ := sk1 (fun (v_ : Value) (x_ : Pcs) (b28 : Nat) => v_ = .pointer (some ⟨b28, 0, none⟩) ∧ x_ = (([(b28, .cells #[.int .i64 0, .int .i64 0] 36 (0, 0))] : Pcs) ++ []))
    refine rs_as (fl_mixed2 (C := []) (A := ([(b2, .cells #[.int .i64 0, .int .i64 0] 36 (0, 0)), (b1, .cells #[.int .i64 (size), .int .i64 (start), .slice a n c] 24 (0, 0))] : Pcs)) 16 [] [] [15] [0, 1, 2, 3, 4, 5, 6, 7, 8, 9, 10, 11, 12, 13, 14] (fun _ => []) (fun _ => []) (fun i_ => match i_ with | 0 => [] | 1 => [0] | 2 => [1] | 3 => [2] | 4 => [] | 5 => [3, 4] | 6 => [5] | 7 => [] | 8 => [7] | 9 => [8] | 10 => [9] | 11 => [] | 12 => [10, 11] | 13 => [12] | 14 => [6, 13] | 15 => [] | _ => []) (fun i_ val_ pc_ v_ x_ => match i_ with | 0 => v_ = .slice a22 ((wea ds).length) cp23 ∧ x_ = [] | 1 => v_ = .pointer (some ((adr a22).add (0 * 3))) ∧ x_ = [] | 2 => v_ = .pointer (some (((adr a22).add (0 * 3)).add 1)) ∧ x_ = [] | 3 => v_ = .slice (A17 0) n (C18 0) ∧ x_ = [] | 4 => v_ = .int .i64 (day) ∧ x_ = [] | 5 => v_ = .pointer (some ((adr (A17 0)).add ((day).toNat * 1))) ∧ x_ = [] | 6 => v_ = .int .i64 ((yFK size start ds n 0).getD ((day).toNat) 0) ∧ x_ = [] | 7 => v_ = .slice a22 ((wea ds).length) cp23 ∧ x_ = [] | 8 => v_ = .pointer (some ((adr a22).add (0 * 3))) ∧ x_ = [] | 9 => v_ = .pointer (some (((adr a22).add (0 * 3)).add 1)) ∧ x_ = [] | 10 => v_ = .slice (A17 0) n (C18 0) ∧ x_ = [] | 11 => v_ = .int .i64 (day) ∧ x_ = [] | 12 => v_ = .pointer (some ((adr (A17 0)).add ((day).toNat * 1))) ∧ x_ = [] | 13 => v_ = .int .i64 ((yFK size start ds n 0).getD ((day).toNat) 0) ∧ x_ = [] | 14 => v_ = .agg #[.int .i64 ((yFK size start ds n 0).getD ((day).toNat) 0), .int .i64 ((yFK size start ds n 0).getD ((day).toNat) 0)] ∧ x_ = [] | 15 => ∃ b28 : Nat, v_ = .pointer (some ⟨b28, 0, none⟩) ∧ x_ = (([(b28, .cells #[.int .i64 0, .int .i64 0] 36 (0, 0))] : Pcs) ++ []) | _ => True) (fun val26 => [.agg #[.int .i64 (size), .int .i64 (start), .slice a n c], .int .i64 (day), .pointer (some ⟨b1, 0, none⟩), undef, .pointer (some ⟨b2, 0, none⟩), .int .i64 0, .int .i64 (askd (size) (start) ds (decide (IsDay ds day))), .slice a22 ((wea ds).length) cp23, (val26 15), undef, .agg #[.int .i64 (size), .int .i64 (start), .slice a n c], .agg #[.int .i64 (size), .int .i64 (start), .slice a n c], .int .i64 (day), .bool (decide (IsDay ds day)), .int .i64 (askd (size) (start) ds (decide (IsDay ds day))), .int .i64 (askd (size) (start) ds (decide (IsDay ds day))), .bool (decide (askd (size) (start) ds (decide (IsDay ds day)) ≠ 0)), undef, undef, .agg #[.int .i64 (size), .int .i64 (start), .slice a n c], .slice a22 ((wea ds).length) cp23, (val26 0), (val26 1), (val26 2), (val26 3), (val26 4), (val26 5), (val26 6), (val26 7), (val26 8), (val26 9), (val26 10), (val26 11), (val26 12), (val26 13), (val26 14), undef, undef, undef, undef, undef, undef, undef, undef, undef, undef, undef, undef, undef, undef, undef, undef, undef]) mixed (by kernel_rfl) (Nat.le_of_ble_eq_true rfl) (by kernel_rfl) (by kernel_rfl) (by kernel_rfl) (fun _ _ => ⟨fun _ _ h => h.2, ⟨fun _ _ h => h.2, ⟨fun _ _ h => h.2, ⟨fun _ _ h => h.2, ⟨fun _ _ h => h.2, ⟨fun _ _ h => h.2, ⟨fun _ _ h => h.2, ⟨fun _ _ h => h.2, ⟨fun _ _ h => h.2, ⟨fun _ _ h => h.2, ⟨fun _ _ h => h.2, ⟨fun _ _ h => h.2, ⟨fun _ _ h => h.2, ⟨fun _ _ h => h.2, ⟨fun _ _ h => h.2, trivial⟩⟩⟩⟩⟩⟩⟩⟩⟩⟩⟩⟩⟩⟩⟩) (fun _ => by kernel_rfl) (by kernel_rfl) ?_ ?_) (fun h_ H_ => St.swap (A := ([(b2, .cells #[.int .i64 0, .int .i64 0] 36 (0, 0)), (b1, .cells #[.int .i64 (size), .int .i64 (start), .slice a n c] 24 (0, 0))] : Pcs)) (U := []) H_)
    · refine mixes_cons rfl (opmix2 ?_) ?_
      · intro val26 pc27 hQ_ hX_
        obtain ⟨q_, hq0_⟩ : ∃ q_ : Value → Pcs → Prop, q_ = (fun v_ x_ => v_ = .slice a22 ((wea ds).length) cp23 ∧ x_ = []) := ⟨_, rfl⟩
        refine ⟨[.agg #[.int .i64 (size), .int .i64 (start), .slice a n c], .int .i64 (day), .pointer (some ⟨b1, 0, none⟩), undef, .pointer (some ⟨b2, 0, none⟩), .int .i64 0, .int .i64 (askd (size) (start) ds (decide (IsDay ds day))), .slice a22 ((wea ds).length) cp23, (val26 15), undef, .agg #[.int .i64 (size), .int .i64 (start), .slice a n c], .agg #[.int .i64 (size), .int .i64 (start), .slice a n c], .int .i64 (day), .bool (decide (IsDay ds day)), .int .i64 (askd (size) (start) ds (decide (IsDay ds day))), .int .i64 (askd (size) (start) ds (decide (IsDay ds day))), .bool (decide (askd (size) (start) ds (decide (IsDay ds day)) ≠ 0)), undef, undef, .agg #[.int .i64 (size), .int .i64 (start), .slice a n c], .slice a22 ((wea ds).length) cp23, (val26 0), (val26 1), (val26 2), (val26 3), (val26 4), (val26 5), (val26 6), (val26 7), (val26 8), (val26 9), (val26 10), (val26 11), (val26 12), (val26 13), (val26 14), undef, undef, undef, undef, undef, undef, undef, undef, undef, undef, undef, undef, undef, undef, undef, undef, undef], [], q_, rfl, rfl, (fun _ _ z_ => by subst hq0_; exact z_), ?_⟩
        subst hq0_
        exact mix_det (met_none rfl) (fun _ h_ H_ => exd_move (v := .slice a22 ((wea ds).length) cp23) rfl) ⟨rfl, rfl⟩
      refine mixes_cons rfl (opmix2 ?_) ?_
      · intro val26 pc27 hQ_ hX_
        have e0_ : val26 0 = .slice a22 ((wea ds).length) cp23 := (hQ_ 0 rfl).1
        obtain ⟨q_, hq0_⟩ : ∃ q_ : Value → Pcs → Prop, q_ = (fun v_ x_ => v_ = .pointer (some ((adr a22).add (0 * 3))) ∧ x_ = []) := ⟨_, rfl⟩
        refine ⟨[.agg #[.int .i64 (size), .int .i64 (start), .slice a n c], .int .i64 (day), .pointer (some ⟨b1, 0, none⟩), undef, .pointer (some ⟨b2, 0, none⟩), .int .i64 0, .int .i64 (askd (size) (start) ds (decide (IsDay ds day))), .slice a22 ((wea ds).length) cp23, (val26 15), undef, .agg #[.int .i64 (size), .int .i64 (start), .slice a n c], .agg #[.int .i64 (size), .int .i64 (start), .slice a n c], .int .i64 (day), .bool (decide (IsDay ds day)), .int .i64 (askd (size) (start) ds (decide (IsDay ds day))), .int .i64 (askd (size) (start) ds (decide (IsDay ds day))), .bool (decide (askd (size) (start) ds (decide (IsDay ds day)) ≠ 0)), undef, undef, .agg #[.int .i64 (size), .int .i64 (start), .slice a n c], .slice a22 ((wea ds).length) cp23, .slice a22 ((wea ds).length) cp23, (val26 1), (val26 2), (val26 3), (val26 4), (val26 5), (val26 6), (val26 7), (val26 8), (val26 9), (val26 10), (val26 11), (val26 12), (val26 13), (val26 14), undef, undef, undef, undef, undef, undef, undef, undef, undef, undef, undef, undef, undef, undef, undef, undef, undef], [], q_, (by simp only [e0_]), rfl, (fun _ _ z_ => by subst hq0_; exact z_), ?_⟩
        subst hq0_
        exact mix_det (met_none rfl) (fun _ h_ H_ => exd_indexAddrN (i := 0) Try.underlying81 tS30 (sl_ne a22 ((wea ds).length) cp23 (T14.ne (by omega))) rfl (by omega)) ⟨rfl, rfl⟩
      refine mixes_cons rfl (opmix2 ?_) ?_
      · intro val26 pc27 hQ_ hX_
        have e1_ : val26 1 = .pointer (some ((adr a22).add (0 * 3))) := (hQ_ 1 rfl).1
        obtain ⟨q_, hq0_⟩ : ∃ q_ : Value → Pcs → Prop, q_ = (fun v_ x_ => v_ = .pointer (some (((adr a22).add (0 * 3)).add 1)) ∧ x_ = []) := ⟨_, rfl⟩
        refine ⟨[.agg #[.int .i64 (size), .int .i64 (start), .slice a n c], .int .i64 (day), .pointer (some ⟨b1, 0, none⟩), undef, .pointer (some ⟨b2, 0, none⟩), .int .i64 0, .int .i64 (askd (size) (start) ds (decide (IsDay ds day))), .slice a22 ((wea ds).length) cp23, (val26 15), undef, .agg #[.int .i64 (size), .int .i64 (start), .slice a n c], .agg #[.int .i64 (size), .int .i64 (start), .slice a n c], .int .i64 (day), .bool (decide (IsDay ds day)), .int .i64 (askd (size) (start) ds (decide (IsDay ds day))), .int .i64 (askd (size) (start) ds (decide (IsDay ds day))), .bool (decide (askd (size) (start) ds (decide (IsDay ds day)) ≠ 0)), undef, undef, .agg #[.int .i64 (size), .int .i64 (start), .slice a n c], .slice a22 ((wea ds).length) cp23, (val26 0), .pointer (some ((adr a22).add (0 * 3))), (val26 2), (val26 3), (val26 4), (val26 5), (val26 6), (val26 7), (val26 8), (val26 9), (val26 10), (val26 11), (val26 12), (val26 13), (val26 14), undef, undef, undef, undef, undef, undef, undef, undef, undef, undef, undef, undef, undef, undef, undef, undef, undef], [], q_, (by simp only [e1_]), rfl, (fun _ _ z_ => by subst hq0_; exact z_), ?_⟩
        subst hq0_
        exact mix_det (met_none rfl) (fun _ h_ H_ => exd_fieldAddr tF30_1 rfl (a' := ((adr a22).add (0 * 3)).add 1) rfl) ⟨rfl, rfl⟩
      refine mixes_cons rfl (opmix2 ?_) ?_
      · intro val26 pc27 hQ_ hX_
        have e2_ : val26 2 = .pointer (some (((adr a22).add (0 * 3)).add 1)) := (hQ_ 2 rfl).1
        obtain ⟨q_, hq0_⟩ : ∃ q_ : Value → Pcs → Prop, q_ = (fun v_ x_ => v_ = .slice (A17 0) n (C18 0) ∧ x_ = []) := ⟨_, rfl⟩
        refine ⟨[.agg #[.int .i64 (size), .int .i64 (start), .slice a n c], .int .i64 (day), .pointer (some ⟨b1, 0, none⟩), undef, .pointer (some ⟨b2, 0, none⟩), .int .i64 0, .int .i64 (askd (size) (start) ds (decide (IsDay ds day))), .slice a22 ((wea ds).length) cp23, (val26 15), undef, .agg #[.int .i64 (size), .int .i64 (start), .slice a n c], .agg #[.int .i64 (size), .int .i64 (start), .slice a n c], .int .i64 (day), .bool (decide (IsDay ds day)), .int .i64 (askd (size) (start) ds (decide (IsDay ds day))), .int .i64 (askd (size) (start) ds (decide (IsDay ds day))), .bool (decide (askd (size) (start) ds (decide (IsDay ds day)) ≠ 0)), undef, undef, .agg #[.int .i64 (size), .int .i64 (start), .slice a n c], .slice a22 ((wea ds).length) cp23, (val26 0), (val26 1), .pointer (some (((adr a22).add (0 * 3)).add 1)), (val26 3), (val26 4), (val26 5), (val26 6), (val26 7), (val26 8), (val26 9), (val26 10), (val26 11), (val26 12), (val26 13), (val26 14), undef, undef, undef, undef, undef, undef, undef, undef, undef, undef, undef, undef, undef, undef, undef, undef, undef], [], q_, (by simp only [e2_]), rfl, (fun _ _ z_ => by subst hq0_; exact z_), ?_⟩
        subst hq0_
        exact mix_det (met_none rfl) (fun _ h_ H_ => exd_load_per H_ tA25 rfl (v := .slice (A17 0) n (C18 0)) (T14.cell2 _ (by omega))) ⟨rfl, rfl⟩
      refine mixes_cons rfl (opmix2 ?_) ?_
      · intro val26 pc27 hQ_ hX_
        obtain ⟨q_, hq0_⟩ : ∃ q_ : Value → Pcs → Prop, q_ = (fun v_ x_ => v_ = .int .i64 (day) ∧ x_ = []) := ⟨_, rfl⟩
        refine ⟨[.agg #[.int .i64 (size), .int .i64 (start), .slice a n c], .int .i64 (day), .pointer (some ⟨b1, 0, none⟩), undef, .pointer (some ⟨b2, 0, none⟩), .int .i64 0, .int .i64 (askd (size) (start) ds (decide (IsDay ds day))), .slice a22 ((wea ds).length) cp23, (val26 15), undef, .agg #[.int .i64 (size), .int .i64 (start), .slice a n c], .agg #[.int .i64 (size), .int .i64 (start), .slice a n c], .int .i64 (day), .bool (decide (IsDay ds day)), .int .i64 (askd (size) (start) ds (decide (IsDay ds day))), .int .i64 (askd (size) (start) ds (decide (IsDay ds day))), .bool (decide (askd (size) (start) ds (decide (IsDay ds day)) ≠ 0)), undef, undef, .agg #[.int .i64 (size), .int .i64 (start), .slice a n c], .slice a22 ((wea ds).length) cp23, (val26 0), (val26 1), (val26 2), (val26 3), (val26 4), (val26 5), (val26 6), (val26 7), (val26 8), (val26 9), (val26 10), (val26 11), (val26 12), (val26 13), (val26 14), undef, undef, undef, undef, undef, undef, undef, undef, undef, undef, undef, undef, undef, undef, undef, undef, undef], [], q_, rfl, rfl, (fun _ _ z_ => by subst hq0_; exact z_), ?_⟩
        subst hq0_
        exact mix_det (met_none rfl) (fun _ h_ H_ => exd_move (v := .int .i64 (day)) rfl) ⟨rfl, rfl⟩
      refine mixes_cons rfl (opmix2 ?_) ?_
      · intro val26 pc27 hQ_ hX_
        have e3_ : val26 3 = .slice (A17 0) n (C18 0) := (hQ_ 3 rfl).1
        have e4_ : val26 4 = .int .i64 (day) := (hQ_ 4 rfl).1
        obtain ⟨q_, hq0_⟩ : ∃ q_ : Value → Pcs → Prop, q_ = (fun v_ x_ => v_ = .pointer (some ((adr (A17 0)).add ((day).toNat * 1))) ∧ x_ = []) := ⟨_, rfl⟩
        refine ⟨[.agg #[.int .i64 (size), .int .i64 (start), .slice a n c], .int .i64 (day), .pointer (some ⟨b1, 0, none⟩), undef, .pointer (some ⟨b2, 0, none⟩), .int .i64 0, .int .i64 (askd (size) (start) ds (decide (IsDay ds day))), .slice a22 ((wea ds).length) cp23, (val26 15), undef, .agg #[.int .i64 (size), .int .i64 (start), .slice a n c], .agg #[.int .i64 (size), .int .i64 (start), .slice a n c], .int .i64 (day), .bool (decide (IsDay ds day)), .int .i64 (askd (size) (start) ds (decide (IsDay ds day))), .int .i64 (askd (size) (start) ds (decide (IsDay ds day))), .bool (decide (askd (size) (start) ds (decide (IsDay ds day)) ≠ 0)), undef, undef, .agg #[.int .i64 (size), .int .i64 (start), .slice a n c], .slice a22 ((wea ds).length) cp23, (val26 0), (val26 1), (val26 2), .slice (A17 0) n (C18 0), .int .i64 (day), (val26 5), (val26 6), (val26 7), (val26 8), (val26 9), (val26 10), (val26 11), (val26 12), (val26 13), (val26 14), undef, undef, undef, undef, undef, undef, undef, undef, undef, undef, undef, undef, undef, undef, undef, undef, undef], [], q_, (by simp only [e3_, e4_]), rfl, (fun _ _ z_ => by subst hq0_; exact z_), ?_⟩
        subst hq0_
        exact mix_det (met_none rfl) (fun _ h_ H_ => exd_indexAddr Try.underlying25 tS3 (sl_ne (A17 0) n (C18 0) ((T14.ints2 _ (by omega)).ne (by omega))) rfl (by omega) (by omega) (a' := (adr (A17 0)).add ((day).toNat * 1)) rfl) ⟨rfl, rfl⟩
      refine mixes_cons rfl (opmix2 ?_) ?_
      · intro val26 pc27 hQ_ hX_
        have e5_ : val26 5 = .pointer (some ((adr (A17 0)).add ((day).toNat * 1))) := (hQ_ 5 rfl).1
        obtain ⟨q_, hq0_⟩ : ∃ q_ : Value → Pcs → Prop, q_ = (fun v_ x_ => v_ = .int .i64 ((yFK size start ds n 0).getD ((day).toNat) 0) ∧ x_ = []) := ⟨_, rfl⟩
        refine ⟨[.agg #[.int .i64 (size), .int .i64 (start), .slice a n c], .int .i64 (day), .pointer (some ⟨b1, 0, none⟩), undef, .pointer (some ⟨b2, 0, none⟩), .int .i64 0, .int .i64 (askd (size) (start) ds (decide (IsDay ds day))), .slice a22 ((wea ds).length) cp23, (val26 15), undef, .agg #[.int .i64 (size), .int .i64 (start), .slice a n c], .agg #[.int .i64 (size), .int .i64 (start), .slice a n c], .int .i64 (day), .bool (decide (IsDay ds day)), .int .i64 (askd (size) (start) ds (decide (IsDay ds day))), .int .i64 (askd (size) (start) ds (decide (IsDay ds day))), .bool (decide (askd (size) (start) ds (decide (IsDay ds day)) ≠ 0)), undef, undef, .agg #[.int .i64 (size), .int .i64 (start), .slice a n c], .slice a22 ((wea ds).length) cp23, (val26 0), (val26 1), (val26 2), (val26 3), (val26 4), .pointer (some ((adr (A17 0)).add ((day).toNat * 1))), (val26 6), (val26 7), (val26 8), (val26 9), (val26 10), (val26 11), (val26 12), (val26 13), (val26 14), undef, undef, undef, undef, undef, undef, undef, undef, undef, undef, undef, undef, undef, undef, undef, undef, undef], [], q_, (by simp only [e5_]), rfl, (fun _ _ z_ => by subst hq0_; exact z_), ?_⟩
        subst hq0_
        exact mix_det (met_none rfl) (fun _ h_ H_ => exd_load_per H_ tA3 rfl (v := .int .i64 ((yFK size start ds n 0).getD ((day).toNat) 0)) ((T14.ints2 _ (by omega)).get (by omega))) ⟨rfl, rfl⟩
      refine mixes_cons rfl (opmix2 ?_) ?_
      · intro val26 pc27 hQ_ hX_
        obtain ⟨q_, hq0_⟩ : ∃ q_ : Value → Pcs → Prop, q_ = (fun v_ x_ => v_ = .slice a22 ((wea ds).length) cp23 ∧ x_ = []) := ⟨_, rfl⟩
        refine ⟨[.agg #[.int .i64 (size), .int .i64 (start), .slice a n c], .int .i64 (day), .pointer (some ⟨b1, 0, none⟩), undef, .pointer (some ⟨b2, 0, none⟩), .int .i64 0, .int .i64 (askd (size) (start) ds (decide (IsDay ds day))), .slice a22 ((wea ds).length) cp23, (val26 15), undef, .agg #[.int .i64 (size), .int .i64 (start), .slice a n c], .agg #[.int .i64 (size), .int .i64 (start), .slice a n c], .int .i64 (day), .bool (decide (IsDay ds day)), .int .i64 (askd (size) (start) ds (decide (IsDay ds day))), .int .i64 (askd (size) (start) ds (decide (IsDay ds day))), .bool (decide (askd (size) (start) ds (decide (IsDay ds day)) ≠ 0)), undef, undef, .agg #[.int .i64 (size), .int .i64 (start), .slice a n c], .slice a22 ((wea ds).length) cp23, (val26 0), (val26 1), (val26 2), (val26 3), (val26 4), (val26 5), (val26 6), (val26 7), (val26 8), (val26 9), (val26 10), (val26 11), (val26 12), (val26 13), (val26 14), undef, undef, undef, undef, undef, undef, undef, undef, undef, undef, undef, undef, undef, undef, undef, undef, undef], [], q_, rfl, rfl, (fun _ _ z_ => by subst hq0_; exact z_), ?_⟩
        subst hq0_
        exact mix_det (met_none rfl) (fun _ h_ H_ => exd_move (v := .slice a22 ((wea ds).length) cp23) rfl) ⟨rfl, rfl⟩
      refine mixes_cons rfl (opmix2 ?_) ?_
      · intro val26 pc27 hQ_ hX_
        have e7_ : val26 7 = .slice a22 ((wea ds).length) cp23 := (hQ_ 7 rfl).1
        obtain ⟨q_, hq0_⟩ : ∃ q_ : Value → Pcs → Prop, q_ = (fun v_ x_ => v_ = .pointer (some ((adr a22).add (0 * 3))) ∧ x_ = []) := ⟨_, rfl⟩
        refine ⟨[.agg #[.int .i64 (size), .int .i64 (start), .slice a n c], .int .i64 (day), .pointer (some ⟨b1, 0, none⟩), undef, .pointer (some ⟨b2, 0, none⟩), .int .i64 0, .int .i64 (askd (size) (start) ds (decide (IsDay ds day))), .slice a22 ((wea ds).length) cp23, (val26 15), undef, .agg #[.int .i64 (size), .int .i64 (start), .slice a n c], .agg #[.int .i64 (size), .int .i64 (start), .slice a n c], .int .i64 (day), .bool (decide (IsDay ds day)), .int .i64 (askd (size) (start) ds (decide (IsDay ds day))), .int .i64 (askd (size) (start) ds (decide (IsDay ds day))), .bool (decide (askd (size) (start) ds (decide (IsDay ds day)) ≠ 0)), undef, undef, .agg #[.int .i64 (size), .int .i64 (start), .slice a n c], .slice a22 ((wea ds).length) cp23, (val26 0), (val26 1), (val26 2), (val26 3), (val26 4), (val26 5), (val26 6), .slice a22 ((wea ds).length) cp23, (val26 8), (val26 9), (val26 10), (val26 11), (val26 12), (val26 13), (val26 14), undef, undef, undef, undef, undef, undef, undef, undef, undef, undef, undef, undef, undef, undef, undef, undef, undef], [], q_, (by simp only [e7_]), rfl, (fun _ _ z_ => by subst hq0_; exact z_), ?_⟩
        subst hq0_
        exact mix_det (met_none rfl) (fun _ h_ H_ => exd_indexAddrN (i := 0) Try.underlying81 tS30 (sl_ne a22 ((wea ds).length) cp23 (T14.ne (by omega))) rfl (by omega)) ⟨rfl, rfl⟩
      refine mixes_cons rfl (opmix2 ?_) ?_
      · intro val26 pc27 hQ_ hX_
        have e8_ : val26 8 = .pointer (some ((adr a22).add (0 * 3))) := (hQ_ 8 rfl).1
        obtain ⟨q_, hq0_⟩ : ∃ q_ : Value → Pcs → Prop, q_ = (fun v_ x_ => v_ = .pointer (some (((adr a22).add (0 * 3)).add 1)) ∧ x_ = []) := ⟨_, rfl⟩
        refine ⟨[.agg #[.int .i64 (size), .int .i64 (start), .slice a n c], .int .i64 (day), .pointer (some ⟨b1, 0, none⟩), undef, .pointer (some ⟨b2, 0, none⟩), .int .i64 0, .int .i64 (askd (size) (start) ds (decide (IsDay ds day))), .slice a22 ((wea ds).length) cp23, (val26 15), undef, .agg #[.int .i64 (size), .int .i64 (start), .slice a n c], .agg #[.int .i64 (size), .int .i64 (start), .slice a n c], .int .i64 (day), .bool (decide (IsDay ds day)), .int .i64 (askd (size) (start) ds (decide (IsDay ds day))), .int .i64 (askd (size) (start) ds (decide (IsDay ds day))), .bool (decide (askd (size) (start) ds (decide (IsDay ds day)) ≠ 0)), undef, undef, .agg #[.int .i64 (size), .int .i64 (start), .slice a n c], .slice a22 ((wea ds).length) cp23, (val26 0), (val26 1), (val26 2), (val26 3), (val26 4), (val26 5), (val26 6), (val26 7), .pointer (some ((adr a22).add (0 * 3))), (val26 9), (val26 10), (val26 11), (val26 12), (val26 13), (val26 14), undef, undef, undef, undef, undef, undef, undef, undef, undef, undef, undef, undef, undef, undef, undef, undef, undef], [], q_, (by simp only [e8_]), rfl, (fun _ _ z_ => by subst hq0_; exact z_), ?_⟩
        subst hq0_
        exact mix_det (met_none rfl) (fun _ h_ H_ => exd_fieldAddr tF30_1 rfl (a' := ((adr a22).add (0 * 3)).add 1) rfl) ⟨rfl, rfl⟩
      refine mixes_cons rfl (opmix2 ?_) ?_
      · intro val26 pc27 hQ_ hX_
        have e9_ : val26 9 = .pointer (some (((adr a22).add (0 * 3)).add 1)) := (hQ_ 9 rfl).1
        obtain ⟨q_, hq0_⟩ : ∃ q_ : Value → Pcs → Prop, q_ = (fun v_ x_ => v_ = .slice (A17 0) n (C18 0) ∧ x_ = []) := ⟨_, rfl⟩
        refine ⟨[.agg #[.int .i64 (size), .int .i64 (start), .slice a n c], .int .i64 (day), .pointer (some ⟨b1, 0, none⟩), undef, .pointer (some ⟨b2, 0, none⟩), .int .i64 0, .int .i64 (askd (size) (start) ds (decide (IsDay ds day))), .slice a22 ((wea ds).length) cp23, (val26 15), undef, .agg #[.int .i64 (size), .int .i64 (start), .slice a n c], .agg #[.int .i64 (size), .int .i64 (start), .slice a n c], .int .i64 (day), .bool (decide (IsDay ds day)), .int .i64 (askd (size) (start) ds (decide (IsDay ds day))), .int .i64 (askd (size) (start) ds (decide (IsDay ds day))), .bool (decide (askd (size) (start) ds (decide (IsDay ds day)) ≠ 0)), undef, undef, .agg #[.int .i64 (size), .int .i64 (start), .slice a n c], .slice a22 ((wea ds).length) cp23, (val26 0), (val26 1), (val26 2), (val26 3), (val26 4), (val26 5), (val26 6), (val26 7), (val26 8), .pointer (some (((adr a22).add (0 * 3)).add 1)), (val26 10), (val26 11), (val26 12), (val26 13), (val26 14), undef, undef, undef, undef, undef, undef, undef, undef, undef, undef, undef, undef, undef, undef, undef, undef, undef], [], q_, (by simp only [e9_]), rfl, (fun _ _ z_ => by subst hq0_; exact z_), ?_⟩
        subst hq0_
        exact mix_det (met_none rfl) (fun _ h_ H_ => exd_load_per H_ tA25 rfl (v := .slice (A17 0) n (C18 0)) (T14.cell2 _ (by omega))) ⟨rfl, rfl⟩
      refine mixes_cons rfl (opmix2 ?_) ?_
      · intro val26 pc27 hQ_ hX_
        obtain ⟨q_, hq0_⟩ : ∃ q_ : Value → Pcs → Prop, q_ = (fun v_ x_ => v_ = .int .i64 (day) ∧ x_ = []) := ⟨_, rfl⟩
        refine ⟨[.agg #[.int .i64 (size), .int .i64 (start), .slice a n c], .int .i64 (day), .pointer (some ⟨b1, 0, none⟩), undef, .pointer (some ⟨b2, 0, none⟩), .int .i64 0, .int .i64 (askd (size) (start) ds (decide (IsDay ds day))), .slice a22 ((wea ds).length) cp23, (val26 15), undef, .agg #[.int .i64 (size), .int .i64 (start), .slice a n c], .agg #[.int .i64 (size), .int .i64 (start), .slice a n c], .int .i64 (day), .bool (decide (IsDay ds day)), .int .i64 (askd (size) (start) ds (decide (IsDay ds day))), .int .i64 (askd (size) (start) ds (decide (IsDay ds day))), .bool (decide (askd (size) (start) ds (decide (IsDay ds day)) ≠ 0)), undef, undef, .agg #[.int .i64 (size), .int .i64 (start), .slice a n c], .slice a22 ((wea ds).length) cp23, (val26 0), (val26 1), (val26 2), (val26 3), (val26 4), (val26 5), (val26 6), (val26 7), (val26 8), (val26 9), (val26 10), (val26 11), (val26 12), (val26 13), (val26 14), undef, undef, undef, undef, undef, undef, undef, undef, undef, undef, undef, undef, undef, undef, undef, undef, undef], [], q_, rfl, rfl, (fun _ _ z_ => by subst hq0_; exact z_), ?_⟩
        subst hq0_
        exact mix_det (met_none rfl) (fun _ h_ H_ => exd_move (v := .int .i64 (day)) rfl) ⟨rfl, rfl⟩
      refine mixes_cons rfl (opmix2 ?_) ?_
      · intro val26 pc27 hQ_ hX_
        have e10_ : val26 10 = .slice (A17 0) n (C18 0) := (hQ_ 10 rfl).1
        have e11_ : val26 11 = .int .i64 (day) := (hQ_ 11 rfl).1
        obtain ⟨q_, hq0_⟩ : ∃ q_ : Value → Pcs → Prop, q_ = (fun v_ x_ => v_ = .pointer (some ((adr (A17 0)).add ((day).toNat * 1))) ∧ x_ = []) := ⟨_, rfl⟩
        refine ⟨[.agg #[.int .i64 (size), .int .i64 (start), .slice a n c], .int .i64 (day), .pointer (some ⟨b1, 0, none⟩), undef, .pointer (some ⟨b2, 0, none⟩), .int .i64 0, .int .i64 (askd (size) (start) ds (decide (IsDay ds day))), .slice a22 ((wea ds).length) cp23, (val26 15), undef, .agg #[.int .i64 (size), .int .i64 (start), .slice a n c], .agg #[.int .i64 (size), .int .i64 (start), .slice a n c], .int .i64 (day), .bool (decide (IsDay ds day)), .int .i64 (askd (size) (start) ds (decide (IsDay ds day))), .int .i64 (askd (size) (start) ds (decide (IsDay ds day))), .bool (decide (askd (size) (start) ds (decide (IsDay ds day)) ≠ 0)), undef, undef, .agg #[.int .i64 (size), .int .i64 (start), .slice a n c], .slice a22 ((wea ds).length) cp23, (val26 0), (val26 1), (val26 2), (val26 3), (val26 4), (val26 5), (val26 6), (val26 7), (val26 8), (val26 9), .slice (A17 0) n (C18 0), .int .i64 (day), (val26 12), (val26 13), (val26 14), undef, undef, undef, undef, undef, undef, undef, undef, undef, undef, undef, undef, undef, undef, undef, undef, undef], [], q_, (by simp only [e10_, e11_]), rfl, (fun _ _ z_ => by subst hq0_; exact z_), ?_⟩
        subst hq0_
        exact mix_det (met_none rfl) (fun _ h_ H_ => exd_indexAddr Try.underlying25 tS3 (sl_ne (A17 0) n (C18 0) ((T14.ints2 _ (by omega)).ne (by omega))) rfl (by omega) (by omega) (a' := (adr (A17 0)).add ((day).toNat * 1)) rfl) ⟨rfl, rfl⟩
      refine mixes_cons rfl (opmix2 ?_) ?_
      · intro val26 pc27 hQ_ hX_
        have e12_ : val26 12 = .pointer (some ((adr (A17 0)).add ((day).toNat * 1))) := (hQ_ 12 rfl).1
        obtain ⟨q_, hq0_⟩ : ∃ q_ : Value → Pcs → Prop, q_ = (fun v_ x_ => v_ = .int .i64 ((yFK size start ds n 0).getD ((day).toNat) 0) ∧ x_ = []) := ⟨_, rfl⟩
        refine ⟨[.agg #[.int .i64 (size), .int .i64 (start), .slice a n c], .int .i64 (day), .pointer (some ⟨b1, 0, none⟩), undef, .pointer (some ⟨b2, 0, none⟩), .int .i64 0, .int .i64 (askd (size) (start) ds (decide (IsDay ds day))), .slice a22 ((wea ds).length) cp23, (val26 15), undef, .agg #[.int .i64 (size), .int .i64 (start), .slice a n c], .agg #[.int .i64 (size), .int .i64 (start), .slice a n c], .int .i64 (day), .bool (decide (IsDay ds day)), .int .i64 (askd (size) (start) ds (decide (IsDay ds day))), .int .i64 (askd (size) (start) ds (decide (IsDay ds day))), .bool (decide (askd (size) (start) ds (decide (IsDay ds day)) ≠ 0)), undef, undef, .agg #[.int .i64 (size), .int .i64 (start), .slice a n c], .slice a22 ((wea ds).length) cp23, (val26 0), (val26 1), (val26 2), (val26 3), (val26 4), (val26 5), (val26 6), (val26 7), (val26 8), (val26 9), (val26 10), (val26 11), .pointer (some ((adr (A17 0)).add ((day).toNat * 1))), (val26 13), (val26 14), undef, undef, undef, undef, undef, undef, undef, undef, undef, undef, undef, undef, undef, undef, undef, undef, undef], [], q_, (by simp only [e12_]), rfl, (fun _ _ z_ => by subst hq0_; exact z_), ?_⟩
        subst hq0_
        exact mix_det (met_none rfl) (fun _ h_ H_ => exd_load_per H_ tA3 rfl (v := .int .i64 ((yFK size start ds n 0).getD ((day).toNat) 0)) ((T14.ints2 _ (by omega)).get (by omega))) ⟨rfl, rfl⟩
      refine mixes_cons rfl (opmix2 ?_) ?_
      · intro val26 pc27 hQ_ hX_
        have e6_ : val26 6 = .int .i64 ((yFK size start ds n 0).getD ((day).toNat) 0) := (hQ_ 6 rfl).1
        have e13_ : val26 13 = .int .i64 ((yFK size start ds n 0).getD ((day).toNat) 0) := (hQ_ 13 rfl).1
        obtain ⟨q_, hq0_⟩ : ∃ q_ : Value → Pcs → Prop, q_ = (fun v_ x_ => v_ = .agg #[.int .i64 ((yFK size start ds n 0).getD ((day).toNat) 0), .int .i64 ((yFK size start ds n 0).getD ((day).toNat) 0)] ∧ x_ = []) := ⟨_, rfl⟩
        refine ⟨[.agg #[.int .i64 (size), .int .i64 (start), .slice a n c], .int .i64 (day), .pointer (some ⟨b1, 0, none⟩), undef, .pointer (some ⟨b2, 0, none⟩), .int .i64 0, .int .i64 (askd (size) (start) ds (decide (IsDay ds day))), .slice a22 ((wea ds).length) cp23, (val26 15), undef, .agg #[.int .i64 (size), .int .i64 (start), .slice a n c], .agg #[.int .i64 (size), .int .i64 (start), .slice a n c], .int .i64 (day), .bool (decide (IsDay ds day)), .int .i64 (askd (size) (start) ds (decide (IsDay ds day))), .int .i64 (askd (size) (start) ds (decide (IsDay ds day))), .bool (decide (askd (size) (start) ds (decide (IsDay ds day)) ≠ 0)), undef, undef, .agg #[.int .i64 (size), .int .i64 (start), .slice a n c], .slice a22 ((wea ds).length) cp23, (val26 0), (val26 1), (val26 2), (val26 3), (val26 4), (val26 5), .int .i64 ((yFK size start ds n 0).getD ((day).toNat) 0), (val26 7), (val26 8), (val26 9), (val26 10), (val26 11), (val26 12), .int .i64 ((yFK size start ds n 0).getD ((day).toNat) 0), (val26 14), undef, undef, undef, undef, undef, undef, undef, undef, undef, undef, undef, undef, undef, undef, undef, undef, undef], [], q_, (by simp only [e6_, e13_]), rfl, (fun _ _ z_ => by subst hq0_; exact z_), ?_⟩
        subst hq0_
        exact mix_det (met_none rfl) (fun _ h_ H_ => exd_build tZ36 tP36 (vs := [(0, .int .i64 ((yFK size start ds n 0).getD ((day).toNat) 0)), (1, .int .i64 ((yFK size start ds n 0).getD ((day).toNat) 0))]) rfl (cells := #[.int .i64 ((yFK size start ds n 0).getD ((day).toNat) 0), .int .i64 ((yFK size start ds n 0).getD ((day).toNat) 0)]) rfl) ⟨rfl, rfl⟩
      refine mixes_cons rfl (opmix2 ?_) ?_
      · intro val26 pc27 hQ_ hX_
        obtain ⟨q_, hq0_⟩ : ∃ q_ : Value → Pcs → Prop, q_ = (fun v_ x_ => ∃ b28 : Nat, v_ = .pointer (some ⟨b28, 0, none⟩) ∧ x_ = (([(b28, .cells #[.int .i64 0, .int .i64 0] 36 (0, 0))] : Pcs) ++ [])) := ⟨_, rfl⟩
        refine ⟨[.agg #[.int .i64 (size), .int .i64 (start), .slice a n c], .int .i64 (day), .pointer (some ⟨b1, 0, none⟩), undef, .pointer (some ⟨b2, 0, none⟩), .int .i64 0, .int .i64 (askd (size) (start) ds (decide (IsDay ds day))), .slice a22 ((wea ds).length) cp23, (val26 15), undef, .agg #[.int .i64 (size), .int .i64 (start), .slice a n c], .agg #[.int .i64 (size), .int .i64 (start), .slice a n c], .int .i64 (day), .bool (decide (IsDay ds day)), .int .i64 (askd (size) (start) ds (decide (IsDay ds day))), .int .i64 (askd (size) (start) ds (decide (IsDay ds day))), .bool (decide (askd (size) (start) ds (decide (IsDay ds day)) ≠ 0)), undef, undef, .agg #[.int .i64 (size), .int .i64 (start), .slice a n c], .slice a22 ((wea ds).length) cp23, (val26 0), (val26 1), (val26 2), (val26 3), (val26 4), (val26 5), (val26 6), (val26 7), (val26 8), (val26 9), (val26 10), (val26 11), (val26 12), (val26 13), (val26 14), undef, undef, undef, undef, undef, undef, undef, undef, undef, undef, undef, undef, undef, undef, undef, undef, undef], [], q_, rfl, rfl, (fun _ _ z_ => by subst hq0_; exact z_), ?_⟩
        subst hq0_
        exact mix_alloc (met_none rfl) tZ36 rfl fun b_ => ⟨b_, rfl, rfl⟩
      exact mixes_nil rfl
    intro val26 pc27 hQ_ hX_
    have e0_ : val26 0 = .slice a22 ((wea ds).length) cp23 := (hQ_ 0 (by decide)).1
    have e1_ : val26 1 = .pointer (some ((adr a22).add (0 * 3))) := (hQ_ 1 (by decide)).1
    have e2_ : val26 2 = .pointer (some (((adr a22).add (0 * 3)).add 1)) := (hQ_ 2 (by decide)).1
    have e3_ : val26 3 = .slice (A17 0) n (C18 0) := (hQ_ 3 (by decide)).1
    have e4_ : val26 4 = .int .i64 (day) := (hQ_ 4 (by decide)).1
    have e5_ : val26 5 = .pointer (some ((adr (A17 0)).add ((day).toNat * 1))) := (hQ_ 5 (by decide)).1
    have e6_ : val26 6 = .int .i64 ((yFK size start ds n 0).getD ((day).toNat) 0) := (hQ_ 6 (by decide)).1
    have e7_ : val26 7 = .slice a22 ((wea ds).length) cp23 := (hQ_ 7 (by decide)).1
    have e8_ : val26 8 = .pointer (some ((adr a22).add (0 * 3))) := (hQ_ 8 (by decide)).1
    have e9_ : val26 9 = .pointer (some (((adr a22).add (0 * 3)).add 1)) := (hQ_ 9 (by decide)).1
    have e10_ : val26 10 = .slice (A17 0) n (C18 0) := (hQ_ 10 (by decide)).1
    have e11_ : val26 11 = .int .i64 (day) := (hQ_ 11 (by decide)).1
    have e12_ : val26 12 = .pointer (some ((adr (A17 0)).add ((day).toNat * 1))) := (hQ_ 12 (by decide)).1
    have e13_ : val26 13 = .int .i64 ((yFK size start ds n 0).getD ((day).toNat) 0) := (hQ_ 13 (by decide)).1
    have e14_ : val26 14 = .agg #[.int .i64 ((yFK size start ds n 0).getD ((day).toNat) 0), .int .i64 ((yFK size start ds n 0).getD ((day).toNat) 0)] := (hQ_ 14 (by decide)).1
    obtain ⟨e15_, x15_⟩ := hG15_ _ _ (hQ_ 15 (by decide))
    clear hQ_ hX_
    generalize Gb28 (val26 15) (pc27 15) = b28 at *
    refine rl_as (Φ := fun h_ => St h [] p21 h_ (([(b2, .cells #[.int .i64 0, .int .i64 0] 36 (0, 0)), (b1, .cells #[.int .i64 (size), .int .i64 (start), .slice a n c] 24 (0, 0))] : Pcs) ++ (pc27 15 ++ []))) ?_ (fun h_ H_ => H_.swap')
    rw [x15_]
    refine rl_own (L' := ([(b2, .cells #[.int .i64 0, .int .i64 0] 36 (0, 0)), (b1, .cells #[.int .i64 (size), .int .i64 (start), .slice a n c] 24 (0, 0))] : Pcs) ++ (([(b28, .cells #[.int .i64 0, .int .i64 0] 36 (0, 0))] : Pcs) ++ [])) (by simp) ?_
    refine rl_norm (tm' := [.agg #[.int .i64 (size), .int .i64 (start), .slice a n c], .int .i64 (day), .pointer (some ⟨b1, 0, none⟩), undef, .pointer (some ⟨b2, 0, none⟩), .int .i64 0, .int .i64 (askd (size) (start) ds (decide (IsDay ds day))), .slice a22 ((wea ds).length) cp23, .pointer (some ⟨b28, 0, none⟩), undef, .agg #[.int .i64 (size), .int .i64 (start), .slice a n c], .agg #[.int .i64 (size), .int .i64 (start), .slice a n c], .int .i64 (day), .bool (decide (IsDay ds day)), .int .i64 (askd (size) (start) ds (decide (IsDay ds day))), .int .i64 (askd (size) (start) ds (decide (IsDay ds day))), .bool (decide (askd (size) (start) ds (decide (IsDay ds day)) ≠ 0)), undef, undef, .agg #[.int .i64 (size), .int .i64 (start), .slice a n c], .slice a22 ((wea ds).length) cp23, .slice a22 ((wea ds).length) cp23, .pointer (some ((adr a22).add (0 * 3))), .pointer (some (((adr a22).add (0 * 3)).add 1)), .slice (A17 0) n (C18 0), .int .i64 (day), .pointer (some ((adr (A17 0)).add ((day).toNat * 1))), .int .i64 ((yFK size start ds n 0).getD ((day).toNat) 0), .slice a22 ((wea ds).length) cp23, .pointer (some ((adr a22).add (0 * 3))), .pointer (some (((adr a22).add (0 * 3)).add 1)), .slice (A17 0) n (C18 0), .int .i64 (day), .pointer (some ((adr (A17 0)).add ((day).toNat * 1))), .int .i64 ((yFK size start ds n 0).getD ((day).toNat) 0), .agg #[.int .i64 ((yFK size start ds n 0).getD ((day).toNat) 0), .int .i64 ((yFK size start ds n 0).getD ((day).toNat) 0)], undef, undef, undef, undef, undef, undef, undef, undef, undef, undef, undef, undef, undef, undef, undef, undef, undef]) (by simp only [e0_, e1_, e2_, e3_, e4_, e5_, e6_, e7_, e8_, e9_, e10_, e11_, e12_, e13_, e14_, e15_]) ?_
    refine rl_own (L' := ([(b2, .cells #[.int .i64 0, .int .i64 0] 36 (0, 0)), (b1, .cells #[.int .i64 (size), .int .i64 (start), .slice a n c] 24 (0, 0))] : Pcs) ++ (([(b28, .cells #[.int .i64 0, .int .i64 0] 36 (0, 0))] : Pcs) ++ [])) rfl ?_
    refine rl_perm (List.perm_append_comm_assoc ([(b2, .cells #[.int .i64 0, .int .i64 0] 36 (0, 0)), (b1, .cells #[.int .i64 (size), .int .i64 (start), .slice a n c] 24 (0, 0))] : Pcs) ([(b28, .cells #[.int .i64 0, .int .i64 0] 36 (0, 0))] : Pcs) _) ?_
    refine rl_own (L' := [(b28, .cells #[.int .i64 0, .int .i64 0] 36 (0, 0)), (b2, .cells #[.int .i64 0, .int .i64 0] 36 (0, 0)), (b1, .cells #[.int .i64 (size), .int .i64 (start), .slice a n c] 24 (0, 0))]) rfl ?_
    refine rl_store (met_none rfl) tS36 rfl (v := .agg #[.int .i64 ((yFK size start ds n 0).getD ((day).toNat) 0), .int .i64 ((yFK size start ds n 0).getD ((day).toNat) 0)]) rfl (i := 0) rfl rfl rfl (Nat.le_of_ble_eq_true rfl) (cs2 := [.int .i64 ((yFK size start ds n 0).getD ((day).toNat) 0), .int .i64 ((yFK size start ds n 0).getD ((day).toNat) 0)]) rfl (rl_own (L' := [(b28, .cells #[.int .i64 ((yFK size start ds n 0).getD ((day).toNat) 0), .int .i64 ((yFK size start ds n 0).getD ((day).toNat) 0)] 36 (0, 0)), (b2, .cells #[.int .i64 0, .int .i64 0] 36 (0, 0)), (b1, .cells #[.int .i64 (size), .int .i64 (start), .slice a n c] 24 (0, 0))]) rfl ?_)
    refine rl_end ?_
    refine fl_seq ?_
    refine fl_seq ?_
    refine rl_start ?_
    refine rl_det (met_none rfl) (fun h_ H_ => exd_assign (v := .int .i64 0) rfl) rfl ?_
    refine rl_end ?_
    refine fl_block ?_
    refine fl_loop (m₀ := (wea ds).length - 0) (fun m_ tm_ h_ => ∃ (k : Nat), m_ = (wea ds).length - k ∧ (∃ y31 : Nat → Value, tm_ = [.agg #[.int .i64 (size), .int .i64 (start), .slice a n c], .int .i64 (day), .pointer (some ⟨b1, 0, none⟩), undef, .pointer (some ⟨b2, 0, none⟩), .int .i64 0, .int .i64 (askd (size) (start) ds (decide (IsDay ds day))), .slice a22 ((wea ds).length) cp23, .pointer (some ⟨b28, 0, none⟩), .int .i64 (((k : Nat) : Int)), .agg #[.int .i64 (size), .int .i64 (start), .slice a n c], .agg #[.int .i64 (size), .int .i64 (start), .slice a n c], .int .i64 (day), .bool (decide (IsDay ds day)), .int .i64 (askd (size) (start) ds (decide (IsDay ds day))), .int .i64 (askd (size) (start) ds (decide (IsDay ds day))), .bool (decide (askd (size) (start) ds (decide (IsDay ds day)) ≠ 0)), undef, undef, .agg #[.int .i64 (size), .int .i64 (start), .slice a n c], .slice a22 ((wea ds).length) cp23, .slice a22 ((wea ds).length) cp23, .pointer (some ((adr a22).add (0 * 3))), .pointer (some (((adr a22).add (0 * 3)).add 1)), .slice (A17 0) n (C18 0), .int .i64 (day), .pointer (some ((adr (A17 0)).add ((day).toNat * 1))), .int .i64 ((yFK size start ds n 0).getD ((day).toNat) 0), .slice a22 ((wea ds).length) cp23, .pointer (some ((adr a22).add (0 * 3))), .pointer (some (((adr a22).add (0 * 3)).add 1)), .slice (A17 0) n (C18 0), .int .i64 (day), .pointer (some ((adr (A17 0)).add ((day).toNat * 1))), .int .i64 ((yFK size start ds n 0).getD ((day).toNat) 0), .agg #[.int .i64 ((yFK size start ds n 0).getD ((day).toNat) 0), .int .i64 ((yFK size start ds n 0).getD ((day).toNat) 0)], (y31 36), (y31 37), (y31 38), (y31 39), (y31 40), (y31 41), (y31 42), (y31 43), (y31 44), (y31 45), (y31 46), (y31 47), (y31 48), (y31 49), (y31 50), (y31 51), undef]) ∧ (k ≤ (wea ds).length) ∧ St h [] p21 h_ ([(b28, .cells #[.int .i64 (mnF (gK size start ds n (day).toNat) k), .int .i64 (mxF (gK size start ds n (day).toNat) k)] 36 (0, 0)), (b2, .cells #[.int .i64 0, .int .i64 0] 36 (0, 0)), (b1, .cells #[.int .i64 (size), .int .i64 (start), .slice a n c] 24 (0, 0))])) (fun h_ H_ => ⟨0, rfl, (y_of rfl), Nat.zero_le _, H_⟩) ?_
    intro m_ tm_ IH32
    refine rs_ex fun k => rs_and fun hm_ => rs_and fun ht_ => rs_and fun hk => ?_
    subst hm_; obtain ⟨y31, ht_⟩ := ht_; subst ht_
    refine fl_seq ?_
    refine fl_seq ?_
    refine rl_start ?_
    refine rl_det (met_none rfl) (fun h_ H_ => exd_move (v := .int .i64 (((k : Nat) : Int))) rfl) rfl ?_
    refine rl_det (met_none rfl) (fun h_ H_ => exd_move (v := .slice a22 ((wea ds).length) cp23) rfl) (tm' := [_,_,_,_,_,_,_,_,_,_,_,_,_,_,_,_,_,_,_,_,_,_,_,_,_,_,_,_,_,_,_,_,_,_,_,_,_,_,_,_,_,_,_,_,_,_,_,_,_,_,_,_,_]) rfl ?_
    refine rl_det (met_none rfl) (fun h_ H_ => exd_len Try.underlying81 rfl) rfl ?_
    refine rl_det (met_none rfl) (fun h_ H_ => exd_lss rfl rfl) rfl ?_
    refine rl_end ?_
    by_cases cc33 : ((k : Nat) : Int) < (((wea ds).length : Nat) : Int)
    · refine fl_then rfl (decide_eq_true cc33) ?_
      refine fl_skip ?_
      refine fl_seq ?_
      refine fl_block ?_
      refine fl_drawn2 9 [[], [], [], [1, 2], [1, 2, 3], [1, 2, 3, 4], [], [1, 2, 3, 4, 5, 6], [1, 2, 3, 4, 5, 6, 7], [], []] mixed (by kernel_rfl) (Nat.le_of_ble_eq_true rfl) ?_
      refine swr_det (met_none rfl) (fun h_ H_ => exd_loadN_own H_ tA36 tS36 rfl (i := 0) rfl (vs := [.int .i64 (mnF (gK size start ds n (day).toNat) k), .int .i64 (mxF (gK size start ds n (day).toNat) k)]) rfl rfl) (tm' := [_,_,_,_,_,_,_,_,_,_,_,_,_,_,_,_,_,_,_,_,_,_,_,_,_,_,_,_,_,_,_,_,_,_,_,_,_,_,_,_,_,_,_,_,_,_,_,_,_,_,_,_,_]) rfl ?_
      refine swr_det (met_none rfl) (fun h_ H_ => exd_move (v := .slice a22 ((wea ds).length) cp23) rfl) rfl ?_
      refine swr_det (met_none rfl) (fun h_ H_ => exd_move (v := .int .i64 (((k : Nat) : Int))) rfl) (tm' := [_,_,_,_,_,_,_,_,_,_,_,_,_,_,_,_,_,_,_,_,_,_,_,_,_,_,_,_,_,_,_,_,_,_,_,_,_,_,_,_,_,_,_,_,_,_,_,_,_,_,_,_,_]) rfl ?_
      refine swr_det (met_none rfl) (fun h_ H_ => exd_indexAddrN (i := k) Try.underlying81 tS30 (sl_ne a22 ((wea ds).length) cp23 (T14.ne (by omega))) rfl (by omega)) rfl ?_
      refine swr_det (met_none rfl) (fun h_ H_ => exd_fieldAddr tF30_1 rfl (a' := ((adr a22).add (k * 3)).add 1) rfl) (tm' := [_,_,_,_,_,_,_,_,_,_,_,_,_,_,_,_,_,_,_,_,_,_,_,_,_,_,_,_,_,_,_,_,_,_,_,_,_,_,_,_,_,_,_,_,_,_,_,_,_,_,_,_,_]) rfl ?_
      refine swr_det (met_none rfl) (fun h_ H_ => exd_load_per H_ tA25 rfl (v := .slice (A17 k) n (C18 k)) (T14.cell2 _ (by omega))) rfl ?_
      refine swr_det (met_none rfl) (fun h_ H_ => exd_move (v := .int .i64 (day)) rfl) (tm' := [_,_,_,_,_,_,_,_,_,_,_,_,_,_,_,_,_,_,_,_,_,_,_,_,_,_,_,_,_,_,_,_,_,_,_,_,_,_,_,_,_,_,_,_,_,_,_,_,_,_,_,_,_]) rfl ?_
      refine swr_det (met_none rfl) (fun h_ H_ => exd_indexAddr Try.underlying25 tS3 (sl_ne (A17 k) n (C18 k) ((T14.ints2 _ (by omega)).ne (by omega))) rfl (by omega) (by omega) (a' := (adr (A17 k)).add ((day).toNat * 1)) rfl) rfl ?_
      refine swr_det (met_none rfl) (fun h_ H_ => exd_load_per H_ tA3 rfl (v := .int .i64 ((yFK size start ds n k).getD ((day).toNat) 0)) ((T14.ints2 _ (by omega)).get (by omega))) (tm' := [_,_,_,_,_,_,_,_,_,_,_,_,_,_,_,_,_,_,_,_,_,_,_,_,_,_,_,_,_,_,_,_,_,_,_,_,_,_,_,_,_,_,_,_,_,_,_,_,_,_,_,_,_]) rfl ?_
      refine swr_nil rfl ?_
      refine rl_calld (met_none rfl) (first := []) (cap := []) rfl rfl fC78 (fun h_ H_ => c78 md _ (mnF (gK size start ds n (day).toNat) k) (mxF (gK size start ds n (day).toNat) k) ((yFK size start ds n k).getD ((day).toNat) 0)) (tm' := [_,_,_,_,_,_,_,_,_,_,_,_,_,_,_,_,_,_,_,_,_,_,_,_,_,_,_,_,_,_,_,_,_,_,_,_,_,_,_,_,_,_,_,_,_,_,_,_,_,_,_,_,_]) rfl ?_
      refine rl_store (met_none rfl) tS36 rfl (v := .agg #[.int .i64 (min (mnF (gK size start ds n (day).toNat) k) ((yFK size start ds n k).getD ((day).toNat) 0)), .int .i64 (max (mxF (gK size start ds n (day).toNat) k) ((yFK size start ds n k).getD ((day).toNat) 0))]) rfl (i := 0) rfl rfl rfl (Nat.le_of_ble_eq_true rfl) (cs2 := [.int .i64 (min (mnF (gK size start ds n (day).toNat) k) ((yFK size start ds n k).getD ((day).toNat) 0)), .int .i64 (max (mxF (gK size start ds n (day).toNat) k) ((yFK size start ds n k).getD ((day).toNat) 0))]) rfl (rl_own (L' := [(b28, .cells #[.int .i64 (min (mnF (gK size start ds n (day).toNat) k) ((yFK size start ds n k).getD ((day).toNat) 0)), .int .i64 (max (mxF (gK size start ds n (day).toNat) k) ((yFK size start ds n k).getD ((day).toNat) 0))] 36 (0, 0)), (b2, .cells #[.int .i64 0, .int .i64 0] 36 (0, 0)), (b1, .cells #[.int .i64 (size), .int .i64 (start), .slice a n c] 24 (0, 0))]) rfl ?_)
      refine rl_end ?_
      refine fl_inBlock ?_
      refine rl_start ?_
      refine rl_det (met_none rfl) (fun h_ H_ => exd_move (v := .int .i64 (((k : Nat) : Int))) rfl) rfl ?_
      refine rl_det (met_none rfl) (fun h_ H_ => exd_add rfl rfl (n := ((k + 1 : Nat) : Int)) (wr (by omega))) rfl ?_
      refine rl_det (met_none rfl) (fun h_ H_ => exd_assign (v := .int .i64 (((k + 1 : Nat) : Int))) rfl) (tm' := _::_::_::_::_::_::_::_::_::_::_) rfl ?_
      refine rl_end ?_
      exact fun h_ H_ => IH32 _ _ (by omega) h_ ⟨k + 1, rfl, (y_of rfl), (by omega), H_⟩
    · refine fl_else rfl (decide_eq_false cc33) ?_
      refine fl_exit rfl ?_
      refine fl_seq ?_
      refine rl_start ?_
      refine rl_det (met_none rfl) (fun h_ H_ => exd_loadN_own H_ tA36 tS36 rfl (i := 0) rfl (vs := [.int .i64 (mnF (gK size start ds n (day).toNat) k), .int .i64 (mxF (gK size start ds n (day).toNat) k)]) rfl rfl) rfl ?_
      refine rl_store (met_none rfl) tS36 rfl (v := .agg #[.int .i64 (mnF (gK size start ds n (day).toNat) k), .int .i64 (mxF (gK size start ds n (day).toNat) k)]) rfl (i := 1) rfl rfl rfl (Nat.le_of_ble_eq_true rfl) (cs2 := [.int .i64 (mnF (gK size start ds n (day).toNat) k), .int .i64 (mxF (gK size start ds n (day).toNat) k)]) rfl (rl_own (L' := [(b28, .cells #[.int .i64 (mnF (gK size start ds n (day).toNat) k), .int .i64 (mxF (gK size start ds n (day).toNat) k)] 36 (0, 0)), (b2, .cells #[.int .i64 (mnF (gK size start ds n (day).toNat) k), .int .i64 (mxF (gK size start ds n (day).toNat) k)] 36 (0, 0)), (b1, .cells #[.int .i64 (size), .int .i64 (start), .slice a n c] 24 (0, 0))]) rfl ?_)
      refine rl_det (met_none rfl) (fun h_ H_ => exd_assign (v := .int .i64 0) rfl) rfl ?_
      refine rl_end ?_
      refine fl_ret Try.func42 rfl (vs := [.agg #[.int .i64 (mnF (gK size start ds n (day).toNat) k), .int .i64 (mxF (gK size start ds n (day).toNat) k)], .int .i64 0]) (fun h_ H_ => ⟨.agg #[.int .i64 (mnF (gK size start ds n (day).toNat) k), .int .i64 (mxF (gK size start ds n (day).toNat) k)], _, rfl, (wpS_bind (wpS_pure (wpS_loadVarN tA36 tS36 (vs := [.int .i64 (mnF (gK size start ds n (day).toNat) k), .int .i64 (mxF (gK size start ds n (day).toNat) k)]) rfl (fun j_ v_ e_ => by rw [add_mk]; exact H_.ocell (i := 1) rfl (by simpa using e_)) ⟨rfl, rfl⟩))), ⟨.int .i64 0, _, rfl, rfl, rfl⟩⟩) (v := .tuple #[.agg #[.int .i64 (mnF (gK size start ds n (day).toNat) k), .int .i64 (mxF (gK size start ds n (day).toNat) k)], .int .i64 0]) rfl ?_
      obtain rfl : k = (wea ds).length := by omega
      exact fun h_ H_ => K _ _ ⟨by rw [lack_ref hOk hday hl], H_.kept⟩
theorem c44 (md : Md) (h : Heap) (p : PHeap) (hp : Per p h) (size start : Int) (a : Option Addr) (n c : Nat) (ds : List Day) (D : Days p a n ds) (hn : n ≤ 40) (hc0 : Ok size start ds → (wea ds).length ≤ 60) (day : Int) : CallsX Try.prog md 44 #[.agg #[.int .i64 (size), .int .i64 (start), .slice a n c], .int .i64 (day)] h fun v h' => v = .tuple #[.agg #[.int .i64 (overR size start ds day).1.1, .int .i64 (overR size start ds day).1.2], .int .i64 (overR size start ds day).2] ∧ Keep h h' := by
  refine calls_intro (Φ := fun h_ => St h [] p h_ []) Try.func44 rfl (tm := [_, _, _, _, _, _, _, _, _, _, _, _, _, _, _, _, _, _, _, _, _, _, _, _, _, _, _, _, _, _, _, _, _, _, _, _, _, _, _, _, _, _, _, _, _, _, _, _, _, _]) rfl ?_ (St.start h _ hp)
  intro c₀ cs Stop K
  have hl := D.len
  refine fl_seq ?_
  refine rl_start ?_
  refine rl_box (met_none rfl) (v := .agg #[.int .i64 (size), .int .i64 (start), .slice a n c]) rfl fun b1 => rl_own (L' := [(b1, .cells #[.int .i64 (size), .int .i64 (start), .slice a n c] 24 (0, 0))]) rfl ?_
  refine rl_norm (tm' := _::_::_::_) rfl ?_
  refine rl_alloc (met_none rfl) tZ36 rfl fun b2 => rl_own (L' := [(b2, .cells #[.int .i64 0, .int .i64 0] 36 (0, 0)), (b1, .cells #[.int .i64 (size), .int .i64 (start), .slice a n c] 24 (0, 0))]) rfl ?_
  refine rl_det (met_none rfl) (fun h_ H_ => exd_assign (v := .int .i64 0) rfl) rfl ?_
  refine rl_end ?_
  refine fl_seq ?_
  refine fl_seq ?_
  refine fl_drawn2 4 [[], [], [], [1, 2], [], []] mixed (by kernel_rfl) (Nat.le_of_ble_eq_true rfl) ?_
  refine swr_det (met_none rfl) (fun h_ H_ => exd_loadN_own H_ tA24 tS24 rfl (i := 1) rfl (vs := [.int .i64 (size), .int .i64 (start), .slice a n c]) rfl rfl) (tm' := _::_::_::_::_::_::_::_::_::_::_::_) rfl ?_
  refine swr_det (met_none rfl) (fun h_ H_ => exd_loadN_own H_ tA24 tS24 rfl (i := 1) rfl (vs := [.int .i64 (size), .int .i64 (start), .slice a n c]) rfl rfl) rfl ?_
  refine swr_det (met_none rfl) (fun h_ H_ => exd_move (v := .int .i64 (day)) rfl) (tm' := _::_::_::_::_::_::_::_::_::_::_::_::_::_) rfl ?_
  refine swr_call (met_none rfl) (first := []) (cap := []) rfl rfl fC26 (fun h_ H_ => (c26 md _ _ (fun b_ o_ e_ => H_.per b_ o_ e_) (size) (start) _ _ _ _ D (by omega) day).mono fun v_ h2_ ⟨e_, k_⟩ => ⟨e_, H_.call k_⟩) rfl ?_
  refine swr_nil rfl ?_
  refine rl_calld (met_none rfl) (first := []) (cap := []) rfl rfl fC74 (fun h_ H_ => c74 md _ _ (fun b_ o_ e_ => H_.per b_ o_ e_) (size) (start) _ _ _ _ D (by omega) (decide (IsDay ds day))) rfl ?_
  refine rl_det (met_none rfl) (fun h_ H_ => exd_assign (v := .int .i64 (askd (size) (start) ds (decide (IsDay ds day)))) rfl) rfl ?_
  refine rl_end ?_
  refine fl_seq ?_
  refine rl_start ?_
  refine rl_det (met_none rfl) (fun h_ H_ => exd_move (v := .int .i64 (askd (size) (start) ds (decide (IsDay ds day)))) rfl) (tm' := _::_::_::_::_::_::_::_::_::_::_::_::_::_::_::_::_) rfl ?_
  refine rl_det (met_none rfl) (fun h_ H_ => exd_neq rfl rfl) rfl ?_
  refine rl_end ?_
  by_cases cc3 : askd (size) (start) ds (decide (IsDay ds day)) ≠ 0
  · refine fl_then rfl (decide_eq_true cc3) ?_
    refine fl_seq ?_
    refine rl_start ?_
    refine rl_det (met_none rfl) (fun h_ H_ => exd_build tZ36 tP36 (vs := []) rfl (cells := #[.int .i64 0, .int .i64 0]) rfl) rfl ?_
    refine rl_det (met_none rfl) (fun h_ H_ => exd_move (v := .int .i64 (askd (size) (start) ds (decide (IsDay ds day)))) rfl) (tm' := _::_::_::_::_::_::_::_::_::_::_::_::_::_::_::_::_::_::_::_) rfl ?_
    refine rl_store (met_none rfl) tS36 rfl (v := .agg #[.int .i64 0, .int .i64 0]) rfl (i := 0) rfl rfl rfl (Nat.le_of_ble_eq_true rfl) (cs2 := [.int .i64 0, .int .i64 0]) rfl (rl_own (L' := [(b2, .cells #[.int .i64 0, .int .i64 0] 36 (0, 0)), (b1, .cells #[.int .i64 (size), .int .i64 (start), .slice a n c] 24 (0, 0))]) rfl ?_)
    refine rl_det (met_none rfl) (fun h_ H_ => exd_assign (v := .int .i64 (askd (size) (start) ds (decide (IsDay ds day)))) rfl) rfl ?_
    refine rl_end ?_
    refine fl_ret Try.func44 rfl (vs := [.agg #[.int .i64 0, .int .i64 0], .int .i64 (askd (size) (start) ds (decide (IsDay ds day)))]) (fun h_ H_ => ⟨.agg #[.int .i64 0, .int .i64 0], _, rfl, (wpS_bind (wpS_pure (wpS_loadVarN tA36 tS36 (vs := [.int .i64 0, .int .i64 0]) rfl (fun j_ v_ e_ => by rw [add_mk]; exact H_.ocell (i := 0) rfl (by simpa using e_)) ⟨rfl, rfl⟩))), ⟨.int .i64 (askd (size) (start) ds (decide (IsDay ds day))), _, rfl, rfl, rfl⟩⟩) (v := .tuple #[.agg #[.int .i64 0, .int .i64 0], .int .i64 (askd (size) (start) ds (decide (IsDay ds day)))]) rfl ?_
    exact fun h_ H_ => K _ _ ⟨by unfold overR; rw [if_neg ‹_›], H_.kept⟩
  · refine fl_else rfl (decide_eq_false cc3) ?_
    refine fl_skip ?_
    refine fl_seq ?_
    have h0 : askd size start ds (decide (IsDay ds day)) = 0 := by omega
    have hOk : Ok size start ds := (askd_zero.1 h0).1
    have hL := hOk.lok
    have hd := hOk.dok
    have h8 := hOk.2.2.2.2.1
    have hc := hc0 hOk
    have hpos := wea_pos hd
    have hday : IsDay ds day := of_decide_eq_true (askd_zero.1 h0).2
    have hd0 := hday.1; have hd1 := hday.2
    refine rl_start ?_
    refine rl_det (met_none rfl) (fun h_ H_ => exd_loadN_own H_ tA24 tS24 rfl (i := 1) rfl (vs := [.int .i64 (size), .int .i64 (start), .slice a n c]) rfl rfl) rfl ?_
    refine rl_own (L' := ([(b2, .cells #[.int .i64 0, .int .i64 0] 36 (0, 0)), (b1, .cells #[.int .i64 (size), .int .i64 (start), .slice a n c] 24 (0, 0))] : Pcs) ++ []) rfl ?_
    refine rl_call (met_none rfl) (first := []) (cap := []) rfl rfl fC77 (R := fun v_ h_ => ∃ w10 : Value, ∃ es4 : List (List Value), ∃ X5 : Pcs, ∃ Z6 : Pcs, v_ = w10 ∧ (OwnS 30 3 w10 es4 X5) ∧ (InnS p n (yFL size start ds n) (yFK size start ds n) (yFO size start ds n) es4 (wea ds).length Z6) ∧ (es4.length = (wea ds).length) ∧ St h [] p h_ (([(b2, .cells #[.int .i64 0, .int .i64 0] 36 (0, 0)), (b1, .cells #[.int .i64 (size), .int .i64 (start), .slice a n c] 24 (0, 0))] : Pcs) ++ ((X5 ++ (Z6 ++ [])) ++ []))) (fun h_ H_ => (c77w md _ _ (fun b_ o_ e_ => H_.per b_ o_ e_) (size) (start) _ _ _ _ D (by omega) hL hc).mono fun v_ h2_ ⟨w10, es4, X5, Z6, e_, o7, i8, el9, N_⟩ => ⟨w10, es4, X5, Z6, e_, o7, i8, el9, H_.callNA N_⟩) fun v_ => ?_
    refine rl_ex fun w10 => rl_ex fun es4 => rl_ex fun X5 => rl_ex fun Z6 => rl_and fun ev_ => rl_and fun o7 => rl_and fun i8 => rl_and fun el9 => ?_
    have ev_ := ev_.symm; subst ev_
    refine rl_own (L' := ([(b2, .cells #[.int .i64 0, .int .i64 0] 36 (0, 0)), (b1, .cells #[.int .i64 (size), .int .i64 (start), .slice a n c] 24 (0, 0))] : Pcs) ++ (X5 ++ (Z6 ++ []))) (by simp) ?_
    refine rl_norm (tm' := _::_::_::_::_::_::_::_::_::_::_::_::_::_::_::_::_::_::_::_::_::_) rfl ?_
    refine rl_det (met_none rfl) (fun h_ H_ => exd_assign (v := w10) rfl) rfl ?_
    refine rl_end ?_
    refine fl_seq ?_
    refine rs_perm (List.Perm.append_left _ (List.perm_append_comm_assoc _ _ _)) ?_
    refine rs_own (L' := ([(b2, .cells #[.int .i64 0, .int .i64 0] 36 (0, 0)), (b1, .cells #[.int .i64 (size), .int .i64 (start), .slice a n c] 24 (0, 0))] : Pcs) ++ (Z6 ++ (X5 ++ []))) rfl ?_
    refine rs_lastX (A := ([(b2, .cells #[.int .i64 0, .int .i64 0] 36 (0, 0)), (b1, .cells #[.int .i64 (size), .int .i64 (start), .slice a n c] 24 (0, 0))] : Pcs)) (Z := Z6) fun p11 le12 hz13 => ?_
    refine rs_lastN (A := ([(b2, .cells #[.int .i64 0, .int .i64 0] 36 (0, 0)), (b1, .cells #[.int .i64 (size), .int .i64 (start), .slice a n c] 24 (0, 0))] : Pcs)) o7 el9 fun p21 a22 cp23 le24 ev_ D25 => ?_
    subst ev_
    refine rs_own (L' := [(b2, .cells #[.int .i64 0, .int .i64 0] 36 (0, 0)), (b1, .cells #[.int .i64 (size), .int .i64 (start), .slice a n c] 24 (0, 0))]) rfl ?_
    obtain ⟨A15, C16, A17, C18, A19, C20, T14⟩ := (i8 _ (le12.trans le24) (fun x_ hx_ => le24 _ _ (hz13 x_ hx_))).tab D25
    obtain ⟨Gb28, hG13_⟩ := sk1 (fun (v_ : Value) (x_ : Pcs) (b28 : Nat) => v_ = .pointer (some ⟨b28, 0, none⟩) ∧ x_ = (([(b28, .cells #[.int .i64 0, .int .i64 0] 36 (0, 0))] : Pcs) ++ []))
    refine rs_as (fl_mixed2 (C := []) (A := ([(b2, .cells #[.int .i64 0, .int .i64 0] 36 (0, 0)), (b1, .cells #[.int .i64 (size), .int .i64 (start), .slice a n c] 24 (0, 0))] : Pcs)) 14 [] [] [13] [0, 1, 2, 3, 4, 5, 6, 7, 8, 9, 10, 11, 12] (fun _ => []) (fun _ => []) (fun i_ => match i_ with | 0 => [] | 1 => [0] | 2 => [1] | 3 => [2] | 4 => [] | 5 => [3, 4] | 6 => [] | 7 => [6] | 8 => [7] | 9 => [8] | 10 => [] | 11 => [5, 9, 10] | 12 => [5, 11] | 13 => [] | _ => []) (fun i_ val_ pc_ v_ x_ => match i_ with | 0 => v_ = .slice a22 ((wea ds).length) cp23 ∧ x_ = [] | 1 => v_ = .pointer (some ((adr a22).add (0 * 3))) ∧ x_ = [] | 2 => v_ = .pointer (some (((adr a22).add (0 * 3)).add 2)) ∧ x_ = [] | 3 => v_ = .slice (A19 0) n (C20 0) ∧ x_ = [] | 4 => v_ = .int .i64 (day) ∧ x_ = [] | 5 => v_ = .int .i64 (sumTo (listOf (yFO size start ds n 0)) (min n (day + 1).toNat)) ∧ x_ = [] | 6 => v_ = .slice a22 ((wea ds).length) cp23 ∧ x_ = [] | 7 => v_ = .pointer (some ((adr a22).add (0 * 3))) ∧ x_ = [] | 8 => v_ = .pointer (some (((adr a22).add (0 * 3)).add 2)) ∧ x_ = [] | 9 => v_ = .slice (A19 0) n (C20 0) ∧ x_ = [] | 10 => v_ = .int .i64 (day) ∧ x_ = [] | 11 => v_ = .int .i64 (sumTo (listOf (yFO size start ds n 0)) (min n (day + 1).toNat)) ∧ x_ = [] | 12 => v_ = .agg #[.int .i64 (sumTo (listOf (yFO size start ds n 0)) (min n (day + 1).toNat)), .int .i64 (sumTo (listOf (yFO size start ds n 0)) (min n (day + 1).toNat))] ∧ x_ = [] | 13 => ∃ b28 : Nat, v_ = .pointer (some ⟨b28, 0, none⟩) ∧ x_ = (([(b28, .cells #[.int .i64 0, .int .i64 0] 36 (0, 0))] : Pcs) ++ []) | _ => True) (fun val26 => [.agg #[.int .i64 (size), .int .i64 (start), .slice a n c], .int .i64 (day), .pointer (some ⟨b1, 0, none⟩), undef, .pointer (some ⟨b2, 0, none⟩), .int .i64 0, .int .i64 (askd (size) (start) ds (decide (IsDay ds day))), .slice a22 ((wea ds).length) cp23, (val26 13), undef, .agg #[.int .i64 (size), .int .i64 (start), .slice a n c], .agg #[.int .i64 (size), .int .i64 (start), .slice a n c], .int .i64 (day), .bool (decide (IsDay ds day)), .int .i64 (askd (size) (start) ds (decide (IsDay ds day))), .int .i64 (askd (size) (start) ds (decide (IsDay ds day))), .bool (decide (askd (size) (start) ds (decide (IsDay ds day)) ≠ 0)), undef, undef, .agg #[.int .i64 (size), .int .i64 (start), .slice a n c], .slice a22 ((wea ds).length) cp23, (val26 0), (val26 1), (val26 2), (val26 3), (val26 4), (val26 5), (val26 6), (val26 7), (val26 8), (val26 9), (val26 10), (val26 11), (val26 12), undef, undef, undef, undef, undef, undef, undef, undef, undef, undef, undef, undef, undef, undef, undef, undef]) mixed (by kernel_rfl) (Nat.le_of_ble_eq_true rfl) (by kernel_rfl) (by kernel_rfl) (by kernel_rfl) (fun _ _ => ⟨fun _ _ h => h.2, ⟨fun _ _ h => h.2, ⟨fun _ _ h => h.2, ⟨fun _ _ h => h.2, ⟨fun _ _ h => h.2, ⟨fun _ _ h => h.2, ⟨fun _ _ h => h.2, ⟨fun _ _ h => h.2, ⟨fun _ _ h => h.2, ⟨fun _ _ h => h.2, ⟨fun _ _ h => h.2, ⟨fun _ _ h => h.2, ⟨fun _ _ h => h.2, trivial⟩⟩⟩⟩⟩⟩⟩⟩⟩⟩⟩⟩⟩) (fun _ => by kernel_rfl) (by kernel_rfl) ?_ ?_) (fun h_ H_ => St.swap (A := ([(b2, .cells #[.int .i64 0, .int .i64 0] 36 (0, 0)), (b1, .cells #[.int .i64 (size), .int .i64 (start), .slice a n c] 24 (0, 0))] : Pcs)) (U := []) H_)
    · refine mixes_cons rfl (opmix2 ?_) ?_
      · intro val26 pc27 hQ_ hX_
        obtain ⟨q_, hq0_⟩ : ∃ q_ : Value → Pcs → Prop, q_ = (fun v_ x_ => v_ = .slice a22 ((wea ds).length) cp23 ∧ x_ = []) := ⟨_, rfl⟩
        refine ⟨[.agg #[.int .i64 (size), .int .i64 (start), .slice a n c], .int .i64 (day), .pointer (some ⟨b1, 0, none⟩), undef, .pointer (some ⟨b2, 0, none⟩), .int .i64 0, .int .i64 (askd (size) (start) ds (decide (IsDay ds day))), .slice a22 ((wea ds).length) cp23, (val26 13), undef, .agg #[.int .i64 (size), .int .i64 (start), .slice a n c], .agg #[.int .i64 (size), .int .i64 (start), .slice a n c], .int .i64 (day), .bool (decide (IsDay ds day)), .int .i64 (askd (size) (start) ds (decide (IsDay ds day))), .int .i64 (askd (size) (start) ds (decide (IsDay ds day))), .bool (decide (askd (size) (start) ds (decide (IsDay ds day)) ≠ 0)), undef, undef, .agg #[.int .i64 (size), .int .i64 (start), .slice a n c], .slice a22 ((wea ds).length) cp23, (val26 0), (val26 1), (val26 2), (val26 3), (val26 4), (val26 5), (val26 6), (val26 7), (val26 8), (val26 9), (val26 10), (val26 11), (val26 12), undef, undef, undef, undef, undef, undef, undef, undef, undef, undef, undef, undef, undef, undef, undef, undef], [], q_, rfl, rfl, (fun _ _ z_ => by subst hq0_; exact z_), ?_⟩
        subst hq0_
        exact mix_det (met_none rfl) (fun _ h_ H_ => exd_move (v := .slice a22 ((wea ds).length) cp23) rfl) ⟨rfl, rfl⟩
      refine mixes_cons rfl (opmix2 ?_) ?_
      · intro val26 pc27 hQ_ hX_
        have e0_ : val26 0 = .slice a22 ((wea ds).length) cp23 := (hQ_ 0 rfl).1
        obtain ⟨q_, hq0_⟩ : ∃ q_ : Value → Pcs → Prop, q_ = (fun v_ x_ => v_ = .pointer (some ((adr a22).add (0 * 3))) ∧ x_ = []) := ⟨_, rfl⟩
        refine ⟨[.agg #[.int .i64 (size), .int .i64 (start), .slice a n c], .int .i64 (day), .pointer (some ⟨b1, 0, none⟩), undef, .pointer (some ⟨b2, 0, none⟩), .int .i64 0, .int .i64 (askd (size) (start) ds (decide (IsDay ds day))), .slice a22 ((wea ds).length) cp23, (val26 13), undef, .agg #[.int .i64 (size), .int .i64 (start), .slice a n c], .agg #[.int .i64 (size), .int .i64 (start), .slice a n c], .int .i64 (day), .bool (decide (IsDay ds day)), .int .i64 (askd (size) (start) ds (decide (IsDay ds day))), .int .i64 (askd (size) (start) ds (decide (IsDay ds day))), .bool (decide (askd (size) (start) ds (decide (IsDay ds day)) ≠ 0)), undef, undef, .agg #[.int .i64 (size), .int .i64 (start), .slice a n c], .slice a22 ((wea ds).length) cp23, .slice a22 ((wea ds).length) cp23, (val26 1), (val26 2), (val26 3), (val26 4), (val26 5), (val26 6), (val26 7), (val26 8), (val26 9), (val26 10), (val26 11), (val26 12), undef, undef, undef, undef, undef, undef, undef, undef, undef, undef, undef, undef, undef, undef, undef, undef], [], q_, (by simp only [e0_]), rfl, (fun _ _ z_ => by subst hq0_; exact z_), ?_⟩
        subst hq0_
        exact mix_det (met_none rfl) (fun _ h_ H_ => exd_indexAddrN (i := 0) Try.underlying81 tS30 (sl_ne a22 ((wea ds).length) cp23 (T14.ne (by omega))) rfl (by omega)) ⟨rfl, rfl⟩
      refine mixes_cons rfl (opmix2 ?_) ?_
      · intro val26 pc27 hQ_ hX_
        have e1_ : val26 1 = .pointer (some ((adr a22).add (0 * 3))) := (hQ_ 1 rfl).1
        obtain ⟨q_, hq0_⟩ : ∃ q_ : Value → Pcs → Prop, q_ = (fun v_ x_ => v_ = .pointer (some (((adr a22).add (0 * 3)).add 2)) ∧ x_ = []) := ⟨_, rfl⟩
        refine ⟨[.agg #[.int .i64 (size), .int .i64 (start), .slice a n c], .int .i64 (day), .pointer (some ⟨b1, 0, none⟩), undef, .pointer (some ⟨b2, 0, none⟩), .int .i64 0, .int .i64 (askd (size) (start) ds (decide (IsDay ds day))), .slice a22 ((wea ds).length) cp23, (val26 13), undef, .agg #[.int .i64 (size), .int .i64 (start), .slice a n c], .agg #[.int .i64 (size), .int .i64 (start), .slice a n c], .int .i64 (day), .bool (decide (IsDay ds day)), .int .i64 (askd (size) (start) ds (decide (IsDay ds day))), .int .i64 (askd (size) (start) ds (decide (IsDay ds day))), .bool (decide (askd (size) (start) ds (decide (IsDay ds day)) ≠ 0)), undef, undef, .agg #[.int .i64 (size), .int .i64 (start), .slice a n c], .slice a22 ((wea ds).length) cp23, (val26 0), .pointer (some ((adr a22).add (0 * 3))), (val26 2), (val26 3), (val26 4), (val26 5), (val26 6), (val26 7), (val26 8), (val26 9), (val26 10), (val26 11), (val26 12), undef, undef, undef, undef, undef, undef, undef, undef, undef, undef, undef, undef, undef, undef, undef, undef], [], q_, (by simp only [e1_]), rfl, (fun _ _ z_ => by subst hq0_; exact z_), ?_⟩
        subst hq0_
        exact mix_det (met_none rfl) (fun _ h_ H_ => exd_fieldAddr tF30_2 rfl (a' := ((adr a22).add (0 * 3)).add 2) rfl) ⟨rfl, rfl⟩
      refine mixes_cons rfl (opmix2 ?_) ?_
      · intro val26 pc27 hQ_ hX_
        have e2_ : val26 2 = .pointer (some (((adr a22).add (0 * 3)).add 2)) := (hQ_ 2 rfl).1
        obtain ⟨q_, hq0_⟩ : ∃ q_ : Value → Pcs → Prop, q_ = (fun v_ x_ => v_ = .slice (A19 0) n (C20 0) ∧ x_ = []) := ⟨_, rfl⟩
        refine ⟨[.agg #[.int .i64 (size), .int .i64 (start), .slice a n c], .int .i64 (day), .pointer (some ⟨b1, 0, none⟩), undef, .pointer (some ⟨b2, 0, none⟩), .int .i64 0, .int .i64 (askd (size) (start) ds (decide (IsDay ds day))), .slice a22 ((wea ds).length) cp23, (val26 13), undef, .agg #[.int .i64 (size), .int .i64 (start), .slice a n c], .agg #[.int .i64 (size), .int .i64 (start), .slice a n c], .int .i64 (day), .bool (decide (IsDay ds day)), .int .i64 (askd (size) (start) ds (decide (IsDay ds day))), .int .i64 (askd (size) (start) ds (decide (IsDay ds day))), .bool (decide (askd (size) (start) ds (decide (IsDay ds day)) ≠ 0)), undef, undef, .agg #[.int .i64 (size), .int .i64 (start), .slice a n c], .slice a22 ((wea ds).length) cp23, (val26 0), (val26 1), .pointer (some (((adr a22).add (0 * 3)).add 2)), (val26 3), (val26 4), (val26 5), (val26 6), (val26 7), (val26 8), (val26 9), (val26 10), (val26 11), (val26 12), undef, undef, undef, undef, undef, undef, undef, undef, undef, undef, undef, undef, undef, undef, undef, undef], [], q_, (by simp only [e2_]), rfl, (fun _ _ z_ => by subst hq0_; exact z_), ?_⟩
        subst hq0_
        exact mix_det (met_none rfl) (fun _ h_ H_ => exd_load_per H_ tA25 rfl (v := .slice (A19 0) n (C20 0)) (T14.cell3 _ (by omega))) ⟨rfl, rfl⟩
      refine mixes_cons rfl (opmix2 ?_) ?_
      · intro val26 pc27 hQ_ hX_
        obtain ⟨q_, hq0_⟩ : ∃ q_ : Value → Pcs → Prop, q_ = (fun v_ x_ => v_ = .int .i64 (day) ∧ x_ = []) := ⟨_, rfl⟩
        refine ⟨[.agg #[.int .i64 (size), .int .i64 (start), .slice a n c], .int .i64 (day), .pointer (some ⟨b1, 0, none⟩), undef, .pointer (some ⟨b2, 0, none⟩), .int .i64 0, .int .i64 (askd (size) (start) ds (decide (IsDay ds day))), .slice a22 ((wea ds).length) cp23, (val26 13), undef, .agg #[.int .i64 (size), .int .i64 (start), .slice a n c], .agg #[.int .i64 (size), .int .i64 (start), .slice a n c], .int .i64 (day), .bool (decide (IsDay ds day)), .int .i64 (askd (size) (start) ds (decide (IsDay ds day))), .int .i64 (askd (size) (start) ds (decide (IsDay ds day))), .bool (decide (askd (size) (start) ds (decide (IsDay ds day)) ≠ 0)), undef, undef, .agg #[.int .i64 (size), .int .i64 (start), .slice a n c], .slice a22 ((wea ds).length) cp23, (val26 0), (val26 1), (val26 2), (val26 3), (val26 4), (val26 5), (val26 6), (val26 7), (val26 8), (val26 9), (val26 10), (val26 11), (val26 12), undef, undef, undef, undef, undef, undef, undef, undef, undef, undef, undef, undef, undef, undef, undef, undef], [], q_, rfl, rfl, (fun _ _ z_ => by subst hq0_; exact z_), ?_⟩
        subst hq0_
        exact mix_det (met_none rfl) (fun _ h_ H_ => exd_move (v := .int .i64 (day)) rfl) ⟨rfl, rfl⟩
      refine mixes_cons rfl (opmix2 ?_) ?_
      · intro val26 pc27 hQ_ hX_
        have e3_ : val26 3 = .slice (A19 0) n (C20 0) := (hQ_ 3 rfl).1
        have e4_ : val26 4 = .int .i64 (day) := (hQ_ 4 rfl).1
        obtain ⟨q_, hq0_⟩ : ∃ q_ : Value → Pcs → Prop, q_ = (fun v_ x_ => v_ = .int .i64 (sumTo (listOf (yFO size start ds n 0)) (min n (day + 1).toNat)) ∧ x_ = []) := ⟨_, rfl⟩
        refine ⟨[.agg #[.int .i64 (size), .int .i64 (start), .slice a n c], .int .i64 (day), .pointer (some ⟨b1, 0, none⟩), undef, .pointer (some ⟨b2, 0, none⟩), .int .i64 0, .int .i64 (askd (size) (start) ds (decide (IsDay ds day))), .slice a22 ((wea ds).length) cp23, (val26 13), undef, .agg #[.int .i64 (size), .int .i64 (start), .slice a n c], .agg #[.int .i64 (size), .int .i64 (start), .slice a n c], .int .i64 (day), .bool (decide (IsDay ds day)), .int .i64 (askd (size) (start) ds (decide (IsDay ds day))), .int .i64 (askd (size) (start) ds (decide (IsDay ds day))), .bool (decide (askd (size) (start) ds (decide (IsDay ds day)) ≠ 0)), undef, undef, .agg #[.int .i64 (size), .int .i64 (start), .slice a n c], .slice a22 ((wea ds).length) cp23, (val26 0), (val26 1), (val26 2), .slice (A19 0) n (C20 0), .int .i64 (day), (val26 5), (val26 6), (val26 7), (val26 8), (val26 9), (val26 10), (val26 11), (val26 12), undef, undef, undef, undef, undef, undef, undef, undef, undef, undef, undef, undef, undef, undef, undef, undef], [], q_, (by simp only [e3_, e4_]), rfl, (fun _ _ z_ => by subst hq0_; exact z_), ?_⟩
        subst hq0_
        exact mix_call (met_none rfl) (first := []) (cap := []) rfl rfl fC20 (fun _ h_ H_ => (c20 md _ _ (fun b_ o_ e_ => H_.per b_ o_ e_) _ _ _ _ (T14.ints3 _ (by omega)) (by omega) day (fo_ok hL hl (by omega))).mono fun v_ h2_ ⟨e_, k_⟩ => ⟨[], ⟨e_, rfl⟩, H_.call k_⟩)
      refine mixes_cons rfl (opmix2 ?_) ?_
      · intro val26 pc27 hQ_ hX_
        obtain ⟨q_, hq0_⟩ : ∃ q_ : Value → Pcs → Prop, q_ = (fun v_ x_ => v_ = .slice a22 ((wea ds).length) cp23 ∧ x_ = []) := ⟨_, rfl⟩
        refine ⟨[.agg #[.int .i64 (size), .int .i64 (start), .slice a n c], .int .i64 (day), .pointer (some ⟨b1, 0, none⟩), undef, .pointer (some ⟨b2, 0, none⟩), .int .i64 0, .int .i64 (askd (size) (start) ds (decide (IsDay ds day))), .slice a22 ((wea ds).length) cp23, (val26 13), undef, .agg #[.int .i64 (size), .int .i64 (start), .slice a n c], .agg #[.int .i64 (size), .int .i64 (start), .slice a n c], .int .i64 (day), .bool (decide (IsDay ds day)), .int .i64 (askd (size) (start) ds (decide (IsDay ds day))), .int .i64 (askd (size) (start) ds (decide (IsDay ds day))), .bool (decide (askd (size) (start) ds (decide (IsDay ds day)) ≠ 0)), undef, undef, .agg #[.int .i64 (size), .int .i64 (start), .slice a n c], .slice a22 ((wea ds).length) cp23, (val26 0), (val26 1), (val26 2), (val26 3), (val26 4), (val26 5), (val26 6), (val26 7), (val26 8), (val26 9), (val26 10), (val26 11), (val26 12), undef, undef, undef, undef, undef, undef, undef, undef, undef, undef, undef, undef, undef, undef, undef, undef], [], q_, rfl, rfl, (fun _ _ z_ => by subst hq0_; exact z_), ?_⟩
        subst hq0_
        exact mix_det (met_none rfl) (fun _ h_ H_ => exd_move (v := .slice a22 ((wea ds).length) cp23) rfl) ⟨rfl, rfl⟩
      refine mixes_cons rfl (opmix2 ?_) ?_
      · intro val26 pc27 hQ_ hX_
        have e6_ : val26 6 = .slice a22 ((wea ds).length) cp23 := (hQ_ 6 rfl).1
        obtain ⟨q_, hq0_⟩ : ∃ q_ : Value → Pcs → Prop, q_ = (fun v_ x_ => v_ = .pointer (some ((adr a22).add (0 * 3))) ∧ x_ = []) := ⟨_, rfl⟩
        refine ⟨[.agg #[.int .i64 (size), .int .i64 (start), .slice a n c], .int .i64 (day), .pointer (some ⟨b1, 0, none⟩), undef, .pointer (some ⟨b2, 0, none⟩), .int .i64 0, .int .i64 (askd (size) (start) ds (decide (IsDay ds day))), .slice a22 ((wea ds).length) cp23, (val26 13), undef, .agg #[.int .i64 (size), .int .i64 (start), .slice a n c], .agg #[.int .i64 (size), .int .i64 (start), .slice a n c], .int .i64 (day), .bool (decide (IsDay ds day)), .int .i64 (askd (size) (start) ds (decide (IsDay ds day))), .int .i64 (askd (size) (start) ds (decide (IsDay ds day))), .bool (decide (askd (size) (start) ds (decide (IsDay ds day)) ≠ 0)), undef, undef, .agg #[.int .i64 (size), .int .i64 (start), .slice a n c], .slice a22 ((wea ds).length) cp23, (val26 0), (val26 1), (val26 2), (val26 3), (val26 4), (val26 5), .slice a22 ((wea ds).length) cp23, (val26 7), (val26 8), (val26 9), (val26 10), (val26 11), (val26 12), undef, undef, undef, undef, undef, undef, undef, undef, undef, undef, undef, undef, undef, undef, undef, undef], [], q_, (by simp only [e6_]), rfl, (fun _ _ z_ => by subst hq0_; exact z_), ?_⟩
        subst hq0_
        exact mix_det (met_none rfl) (fun _ h_ H_ => exd_indexAddrN (i := 0) Try.underlying81 tS30 (sl_ne a22 ((wea ds).length) cp23 (T14.ne (by omega))) rfl (by omega)) ⟨rfl, rfl⟩
      refine mixes_cons rfl (opmix2 ?_) ?_
      · intro val26 pc27 hQ_ hX_
        have e7_ : val26 7 = .pointer (some ((adr a22).add (0 * 3))) := (hQ_ 7 rfl).1
        obtain ⟨q_, hq0_⟩ : ∃ q_ : Value → Pcs → Prop, q_ = (fun v_ x_ => v_ = .pointer (some (((adr a22).add (0 * 3)).add 2)) ∧ x_ = []) := ⟨_, rfl⟩
        refine ⟨[.agg #[.int .i64 (size), .int .i64 (start), .slice a n c], .int .i64 (day), .pointer (some ⟨b1, 0, none⟩), undef, .pointer (some ⟨b2, 0, none⟩), .int .i64 0, .int .i64 (askd (size) (start) ds (decide (IsDay ds day))), .slice a22 ((wea ds).length) cp23, (val26 13), undef, .agg #[.int .i64 (size), .int .i64 (start), .slice a n c], .agg #[.int .i64 (size), .int .i64 (start), .slice a n c], .int .i64 (day), .bool (decide (IsDay ds day)), .int .i64 (askd (size) (start) ds (decide (IsDay ds day))), .int .i64 (askd (size) (start) ds (decide (IsDay ds day))), .bool (decide (askd (size) (start) ds (decide (IsDay ds day)) ≠ 0)), undef, undef, .agg #[.int .i64 (size), .int .i64 (start), .slice a n c], .slice a22 ((wea ds).length) cp23, (val26 0), (val26 1), (val26 2), (val26 3), (val26 4), (val26 5), (val26 6), .pointer (some ((adr a22).add (0 * 3))), (val26 8), (val26 9), (val26 10), (val26 11), (val26 12), undef, undef, undef, undef, undef, undef, undef, undef, undef, undef, undef, undef, undef, undef, undef, undef], [], q_, (by simp only [e7_]), rfl, (fun _ _ z_ => by subst hq0_; exact z_), ?_⟩
        subst hq0_
        exact mix_det (met_none rfl) (fun _ h_ H_ => exd_fieldAddr tF30_2 rfl (a' := ((adr a22).add (0 * 3)).add 2) rfl) ⟨rfl, rfl⟩
      refine mixes_cons rfl (opmix2 ?_) ?_
      · intro val26 pc27 hQ_ hX_
        have e8_ : val26 8 = .pointer (some (((adr a22).add (0 * 3)).add 2)) := (hQ_ 8 rfl).1
        obtain ⟨q_, hq0_⟩ : ∃ q_ : Value → Pcs → Prop, q_ = (fun v_ x_ => v_ = .slice (A19 0) n (C20 0) ∧ x_ = []) := ⟨_, rfl⟩
        refine ⟨[.agg #[.int .i64 (size), .int .i64 (start), .slice a n c], .int .i64 (day), .pointer (some ⟨b1, 0, none⟩), undef, .pointer (some ⟨b2, 0, none⟩), .int .i64 0, .int .i64 (askd (size) (start) ds (decide (IsDay ds day))), .slice a22 ((wea ds).length) cp23, (val26 13), undef, .agg #[.int .i64 (size), .int .i64 (start), .slice a n c], .agg #[.int .i64 (size), .int .i64 (start), .slice a n c], .int .i64 (day), .bool (decide (IsDay ds day)), .int .i64 (askd (size) (start) ds (decide (IsDay ds day))), .int .i64 (askd (size) (start) ds (decide (IsDay ds day))), .bool (decide (askd (size) (start) ds (decide (IsDay ds day)) ≠ 0)), undef, undef, .agg #[.int .i64 (size), .int .i64 (start), .slice a n c], .slice a22 ((wea ds).length) cp23, (val26 0), (val26 1), (val26 2), (val26 3), (val26 4), (val26 5), (val26 6), (val26 7), .pointer (some (((adr a22).add (0 * 3)).add 2)), (val26 9), (val26 10), (val26 11), (val26 12), undef, undef, undef, undef, undef, undef, undef, undef, undef, undef, undef, undef, undef, undef, undef, undef], [], q_, (by simp only [e8_]), rfl, (fun _ _ z_ => by subst hq0_; exact z_), ?_⟩
        subst hq0_
        exact mix_det (met_none rfl) (fun _ h_ H_ => exd_load_per H_ tA25 rfl (v := .slice (A19 0) n (C20 0)) (T14.cell3 _ (by omega))) ⟨rfl, rfl⟩
      refine mixes_cons rfl (opmix2 ?_) ?_
      · intro val26 pc27 hQ_ hX_
        obtain ⟨q_, hq0_⟩ : ∃ q_ : Value → Pcs → Prop, q_ = (fun v_ x_ => v_ = .int .i64 (day) ∧ x_ = []) := ⟨_, rfl⟩
        refine ⟨[.agg #[.int .i64 (size), .int .i64 (start), .slice a n c], .int .i64 (day), .pointer (some ⟨b1, 0, none⟩), undef, .pointer (some ⟨b2, 0, none⟩), .int .i64 0, .int .i64 (askd (size) (start) ds (decide (IsDay ds day))), .slice a22 ((wea ds).length) cp23, (val26 13), undef, .agg #[.int .i64 (size), .int .i64 (start), .slice a n c], .agg #[.int .i64 (size), .int .i64 (start), .slice a n c], .int .i64 (day), .bool (decide (IsDay ds day)), .int .i64 (askd (size) (start) ds (decide (IsDay ds day))), .int .i64 (askd (size) (start) ds (decide (IsDay ds day))), .bool (decide (askd (size) (start) ds (decide (IsDay ds day)) ≠ 0)), undef, undef, .agg #[.int .i64 (size), .int .i64 (start), .slice a n c], .slice a22 ((wea ds).length) cp23, (val26 0), (val26 1), (val26 2), (val26 3), (val26 4), (val26 5), (val26 6), (val26 7), (val26 8), (val26 9), (val26 10), (val26 11), (val26 12), undef, undef, undef, undef, undef, undef, undef, undef, undef, undef, undef, undef, undef, undef, undef, undef], [], q_, rfl, rfl, (fun _ _ z_ => by subst hq0_; exact z_), ?_⟩
        subst hq0_
        exact mix_det (met_none rfl) (fun _ h_ H_ => exd_move (v := .int .i64 (day)) rfl) ⟨rfl, rfl⟩
      refine mixes_cons rfl (opmix2 ?_) ?_
      · intro val26 pc27 hQ_ hX_
        have e5_ : val26 5 = .int .i64 (sumTo (listOf (yFO size start ds n 0)) (min n (day + 1).toNat)) := (hQ_ 5 rfl).1
        have e9_ : val26 9 = .slice (A19 0) n (C20 0) := (hQ_ 9 rfl).1
        have e10_ : val26 10 = .int .i64 (day) := (hQ_ 10 rfl).1
        obtain ⟨q_, hq0_⟩ : ∃ q_ : Value → Pcs → Prop, q_ = (fun v_ x_ => v_ = .int .i64 (sumTo (listOf (yFO size start ds n 0)) (min n (day + 1).toNat)) ∧ x_ = []) := ⟨_, rfl⟩
        refine ⟨[.agg #[.int .i64 (size), .int .i64 (start), .slice a n c], .int .i64 (day), .pointer (some ⟨b1, 0, none⟩), undef, .pointer (some ⟨b2, 0, none⟩), .int .i64 0, .int .i64 (askd (size) (start) ds (decide (IsDay ds day))), .slice a22 ((wea ds).length) cp23, (val26 13), undef, .agg #[.int .i64 (size), .int .i64 (start), .slice a n c], .agg #[.int .i64 (size), .int .i64 (start), .slice a n c], .int .i64 (day), .bool (decide (IsDay ds day)), .int .i64 (askd (size) (start) ds (decide (IsDay ds day))), .int .i64 (askd (size) (start) ds (decide (IsDay ds day))), .bool (decide (askd (size) (start) ds (decide (IsDay ds day)) ≠ 0)), undef, undef, .agg #[.int .i64 (size), .int .i64 (start), .slice a n c], .slice a22 ((wea ds).length) cp23, (val26 0), (val26 1), (val26 2), (val26 3), (val26 4), .int .i64 (sumTo (listOf (yFO size start ds n 0)) (min n (day + 1).toNat)), (val26 6), (val26 7), (val26 8), .slice (A19 0) n (C20 0), .int .i64 (day), (val26 11), (val26 12), undef, undef, undef, undef, undef, undef, undef, undef, undef, undef, undef, undef, undef, undef, undef, undef], [], q_, (by simp only [e5_, e9_, e10_]), rfl, (fun _ _ z_ => by subst hq0_; exact z_), ?_⟩
        subst hq0_
        exact mix_call (met_none rfl) (first := []) (cap := []) rfl rfl fC20 (fun _ h_ H_ => (c20 md _ _ (fun b_ o_ e_ => H_.per b_ o_ e_) _ _ _ _ (T14.ints3 _ (by omega)) (by omega) day (fo_ok hL hl (by omega))).mono fun v_ h2_ ⟨e_, k_⟩ => ⟨[], ⟨e_, rfl⟩, H_.call k_⟩)
      refine mixes_cons rfl (opmix2 ?_) ?_
      · intro val26 pc27 hQ_ hX_
        have e5_ : val26 5 = .int .i64 (sumTo (listOf (yFO size start ds n 0)) (min n (day + 1).toNat)) := (hQ_ 5 rfl).1
        have e11_ : val26 11 = .int .i64 (sumTo (listOf (yFO size start ds n 0)) (min n (day + 1).toNat)) := (hQ_ 11 rfl).1
        obtain ⟨q_, hq0_⟩ : ∃ q_ : Value → Pcs → Prop, q_ = (fun v_ x_ => v_ = .agg #[.int .i64 (sumTo (listOf (yFO size start ds n 0)) (min n (day + 1).toNat)), .int .i64 (sumTo (listOf (yFO size start ds n 0)) (min n (day + 1).toNat))] ∧ x_ = []) := ⟨_, rfl⟩
        refine ⟨[.agg #[.int .i64 (size), .int .i64 (start), .slice a n c], .int .i64 (day), .pointer (some ⟨b1, 0, none⟩), undef, .pointer (some ⟨b2, 0, none⟩), .int .i64 0, .int .i64 (askd (size) (start) ds (decide (IsDay ds day))), .slice a22 ((wea ds).length) cp23, (val26 13), undef, .agg #[.int .i64 (size), .int .i64 (start), .slice a n c], .agg #[.int .i64 (size), .int .i64 (start), .slice a n c], .int .i64 (day), .bool (decide (IsDay ds day)), .int .i64 (askd (size) (start) ds (decide (IsDay ds day))), .int .i64 (askd (size) (start) ds (decide (IsDay ds day))), .bool (decide (askd (size) (start) ds (decide (IsDay ds day)) ≠ 0)), undef, undef, .agg #[.int .i64 (size), .int .i64 (start), .slice a n c], .slice a22 ((wea ds).length) cp23, (val26 0), (val26 1), (val26 2), (val26 3), (val26 4), .int .i64 (sumTo (listOf (yFO size start ds n 0)) (min n (day + 1).toNat)), (val26 6), (val26 7), (val26 8), (val26 9), (val26 10), .int .i64 (sumTo (listOf (yFO size start ds n 0)) (min n (day + 1).toNat)), (val26 12), undef, undef, undef, undef, undef, undef, undef, undef, undef, undef, undef, undef, undef, undef, undef, undef], [], q_, (by simp only [e5_, e11_]), rfl, (fun _ _ z_ => by subst hq0_; exact z_), ?_⟩
        subst hq0_
        exact mix_det (met_none rfl) (fun _ h_ H_ => exd_build tZ36 tP36 (vs := [(0, .int .i64 (sumTo (listOf (yFO size start ds n 0)) (min n (day + 1).toNat))), (1, .int .i64 (sumTo (listOf (yFO size start ds n 0)) (min n (day + 1).toNat)))]) rfl (cells := #[.int .i64 (sumTo (listOf (yFO size start ds n 0)) (min n (day + 1).toNat)), .int .i64 (sumTo (listOf (yFO size start ds n 0)) (min n (day + 1).toNat))]) rfl) ⟨rfl, rfl⟩
      refine mixes_cons rfl (opmix2 ?_) ?_
      · intro val26 pc27 hQ_ hX_
        obtain ⟨q_, hq0_⟩ : ∃ q_ : Value → Pcs → Prop, q_ = (fun v_ x_ => ∃ b28 : Nat, v_ = .pointer (some ⟨b28, 0, none⟩) ∧ x_ = (([(b28, .cells #[.int .i64 0, .int .i64 0] 36 (0, 0))] : Pcs) ++ [])) := ⟨_, rfl⟩
        refine ⟨[.agg #[.int .i64 (size), .int .i64 (start), .slice a n c], .int .i64 (day), .pointer (some ⟨b1, 0, none⟩), undef, .pointer (some ⟨b2, 0, none⟩), .int .i64 0, .int .i64 (askd (size) (start) ds (decide (IsDay ds day))), .slice a22 ((wea ds).length) cp23, (val26 13), undef, .agg #[.int .i64 (size), .int .i64 (start), .slice a n c], .agg #[.int .i64 (size), .int .i64 (start), .slice a n c], .int .i64 (day), .bool (decide (IsDay ds day)), .int .i64 (askd (size) (start) ds (decide (IsDay ds day))), .int .i64 (askd (size) (start) ds (decide (IsDay ds day))), .bool (decide (askd (size) (start) ds (decide (IsDay ds day)) ≠ 0)), undef, undef, .agg #[.int .i64 (size), .int .i64 (start), .slice a n c], .slice a22 ((wea ds).length) cp23, (val26 0), (val26 1), (val26 2), (val26 3), (val26 4), (val26 5), (val26 6), (val26 7), (val26 8), (val26 9), (val26 10), (val26 11), (val26 12), undef, undef, undef, undef, undef, undef, undef, undef, undef, undef, undef, undef, undef, undef, undef, undef], [], q_, rfl, rfl, (fun _ _ z_ => by subst hq0_; exact z_), ?_⟩
        subst hq0_
        exact mix_alloc (met_none rfl) tZ36 rfl fun b_ => ⟨b_, rfl, rfl⟩
      exact mixes_nil rfl
    intro val26 pc27 hQ_ hX_
    have e0_ : val26 0 = .slice a22 ((wea ds).length) cp23 := (hQ_ 0 (by decide)).1
    have e1_ : val26 1 = .pointer (some ((adr a22).add (0 * 3))) := (hQ_ 1 (by decide)).1
    have e2_ : val26 2 = .pointer (some (((adr a22).add (0 * 3)).add 2)) := (hQ_ 2 (by decide)).1
    have e3_ : val26 3 = .slice (A19 0) n (C20 0) := (hQ_ 3 (by decide)).1
    have e4_ : val26 4 = .int .i64 (day) := (hQ_ 4 (by decide)).1
    have e5_ : val26 5 = .int .i64 (sumTo (listOf (yFO size start ds n 0)) (min n (day + 1).toNat)) := (hQ_ 5 (by decide)).1
    have e6_ : val26 6 = .slice a22 ((wea ds).length) cp23 := (hQ_ 6 (by decide)).1
    have e7_ : val26 7 = .pointer (some ((adr a22).add (0 * 3))) := (hQ_ 7 (by decide)).1
    have e8_ : val26 8 = .pointer (some (((adr a22).add (0 * 3)).add 2)) := (hQ_ 8 (by decide)).1
    have e9_ : val26 9 = .slice (A19 0) n (C20 0) := (hQ_ 9 (by decide)).1
    have e10_ : val26 10 = .int .i64 (day) := (hQ_ 10 (by decide)).1
    have e11_ : val26 11 = .int .i64 (sumTo (listOf (yFO size start ds n 0)) (min n (day + 1).toNat)) := (hQ_ 11 (by decide)).1
    have e12_ : val26 12 = .agg #[.int .i64 (sumTo (listOf (yFO size start ds n 0)) (min n (day + 1).toNat)), .int .i64 (sumTo (listOf (yFO size start ds n 0)) (min n (day + 1).toNat))] := (hQ_ 12 (by decide)).1
    obtain ⟨e13_, x13_⟩ := hG13_ _ _ (hQ_ 13 (by decide))
    clear hQ_ hX_
    generalize Gb28 (val26 13) (pc27 13) = b28 at *
    refine rl_as (Φ := fun h_ => St h [] p21 h_ (([(b2, .cells #[.int .i64 0, .int .i64 0] 36 (0, 0)), (b1, .cells #[.int .i64 (size), .int .i64 (start), .slice a n c] 24 (0, 0))] : Pcs) ++ (pc27 13 ++ []))) ?_ (fun h_ H_ => H_.swap')
    rw [x13_]
    refine rl_own (L' := ([(b2, .cells #[.int .i64 0, .int .i64 0] 36 (0, 0)), (b1, .cells #[.int .i64 (size), .int .i64 (start), .slice a n c] 24 (0, 0))] : Pcs) ++ (([(b28, .cells #[.int .i64 0, .int .i64 0] 36 (0, 0))] : Pcs) ++ [])) (by simp) ?_
    refine rl_norm (tm' := [.agg #[.int .i64 (size), .int .i64 (start), .slice a n c], .int .i64 (day), .pointer (some ⟨b1, 0, none⟩), undef, .pointer (some ⟨b2, 0, none⟩), .int .i64 0, .int .i64 (askd (size) (start) ds (decide (IsDay ds day))), .slice a22 ((wea ds).length) cp23, .pointer (some ⟨b28, 0, none⟩), undef, .agg #[.int .i64 (size), .int .i64 (start), .slice a n c], .agg #[.int .i64 (size), .int .i64 (start), .slice a n c], .int .i64 (day), .bool (decide (IsDay ds day)), .int .i64 (askd (size) (start) ds (decide (IsDay ds day))), .int .i64 (askd (size) (start) ds (decide (IsDay ds day))), .bool (decide (askd (size) (start) ds (decide (IsDay ds day)) ≠ 0)), undef, undef, .agg #[.int .i64 (size), .int .i64 (start), .slice a n c], .slice a22 ((wea ds).length) cp23, .slice a22 ((wea ds).length) cp23, .pointer (some ((adr a22).add (0 * 3))), .pointer (some (((adr a22).add (0 * 3)).add 2)), .slice (A19 0) n (C20 0), .int .i64 (day), .int .i64 (sumTo (listOf (yFO size start ds n 0)) (min n (day + 1).toNat)), .slice a22 ((wea ds).length) cp23, .pointer (some ((adr a22).add (0 * 3))), .pointer (some (((adr a22).add (0 * 3)).add 2)), .slice (A19 0) n (C20 0), .int .i64 (day), .int .i64 (sumTo (listOf (yFO size start ds n 0)) (min n (day + 1).toNat)), .agg #[.int .i64 (sumTo (listOf (yFO size start ds n 0)) (min n (day + 1).toNat)), .int .i64 (sumTo (listOf (yFO size start ds n 0)) (min n (day + 1).toNat))], undef, undef, undef, undef, undef, undef, undef, undef, undef, undef, undef, undef, undef, undef, undef, undef]) (by simp only [e0_, e1_, e2_, e3_, e4_, e5_, e6_, e7_, e8_, e9_, e10_, e11_, e12_, e13_]) ?_
    refine rl_own (L' := ([(b2, .cells #[.int .i64 0, .int .i64 0] 36 (0, 0)), (b1, .cells #[.int .i64 (size), .int .i64 (start), .slice a n c] 24 (0, 0))] : Pcs) ++ (([(b28, .cells #[.int .i64 0, .int .i64 0] 36 (0, 0))] : Pcs) ++ [])) rfl ?_
    refine rl_perm (List.perm_append_comm_assoc ([(b2, .cells #[.int .i64 0, .int .i64 0] 36 (0, 0)), (b1, .cells #[.int .i64 (size), .int .i64 (start), .slice a n c] 24 (0, 0))] : Pcs) ([(b28, .cells #[.int .i64 0, .int .i64 0] 36 (0, 0))] : Pcs) _) ?_
    refine rl_own (L' := [(b28, .cells #[.int .i64 0, .int .i64 0] 36 (0, 0)), (b2, .cells #[.int .i64 0, .int .i64 0] 36 (0, 0)), (b1, .cells #[.int .i64 (size), .int .i64 (start), .slice a n c] 24 (0, 0))]) rfl ?_
    refine rl_store (met_none rfl) tS36 rfl (v := .agg #[.int .i64 (sumTo (listOf (yFO size start ds n 0)) (min n (day + 1).toNat)), .int .i64 (sumTo (listOf (yFO size start ds n 0)) (min n (day + 1).toNat))]) rfl (i := 0) rfl rfl rfl (Nat.le_of_ble_eq_true rfl) (cs2 := [.int .i64 (sumTo (listOf (yFO size start ds n 0)) (min n (day + 1).toNat)), .int .i64 (sumTo (listOf (yFO size start ds n 0)) (min n (day + 1).toNat))]) rfl (rl_own (L' := [(b28, .cells #[.int .i64 (sumTo (listOf (yFO size start ds n 0)) (min n (day + 1).toNat)), .int .i64 (sumTo (listOf (yFO size start ds n 0)) (min n (day + 1).toNat))] 36 (0, 0)), (b2, .cells #[.int .i64 0, .int .i64 0] 36 (0, 0)), (b1, .cells #[.int .i64 (size), .int .i64 (start), .slice a n c] 24 (0, 0))]) rfl ?_)
    refine rl_end ?_
    refine fl_seq ?_
    refine fl_seq ?_
    refine rl_start ?_
    refine rl_det (met_none rfl) (fun h_ H_ => exd_assign (v := .int .i64 0) rfl) (tm' := _::_::_::_::_::_::_::_::_::_::_) rfl ?_
    refine rl_end ?_
    refine fl_block ?_
    refine fl_loop (m₀ := (wea ds).length - 0) (fun m_ tm_ h_ => ∃ (k : Nat), m_ = (wea ds).length - k ∧ (∃ y31 : Nat → Value, tm_ = [.agg #[.int .i64 (size), .int .i64 (start), .slice a n c], .int .i64 (day), .pointer (some ⟨b1, 0, none⟩), undef, .pointer (some ⟨b2, 0, none⟩), .int .i64 0, .int .i64 (askd (size) (start) ds (decide (IsDay ds day))), .slice a22 ((wea ds).length) cp23, .pointer (some ⟨b28, 0, none⟩), .int .i64 (((k : Nat) : Int)), .agg #[.int .i64 (size), .int .i64 (start), .slice a n c], .agg #[.int .i64 (size), .int .i64 (start), .slice a n c], .int .i64 (day), .bool (decide (IsDay ds day)), .int .i64 (askd (size) (start) ds (decide (IsDay ds day))), .int .i64 (askd (size) (start) ds (decide (IsDay ds day))), .bool (decide (askd (size) (start) ds (decide (IsDay ds day)) ≠ 0)), undef, undef, .agg #[.int .i64 (size), .int .i64 (start), .slice a n c], .slice a22 ((wea ds).length) cp23, .slice a22 ((wea ds).length) cp23, .pointer (some ((adr a22).add (0 * 3))), .pointer (some (((adr a22).add (0 * 3)).add 2)), .slice (A19 0) n (C20 0), .int .i64 (day), .int .i64 (sumTo (listOf (yFO size start ds n 0)) (min n (day + 1).toNat)), .slice a22 ((wea ds).length) cp23, .pointer (some ((adr a22).add (0 * 3))), .pointer (some (((adr a22).add (0 * 3)).add 2)), .slice (A19 0) n (C20 0), .int .i64 (day), .int .i64 (sumTo (listOf (yFO size start ds n 0)) (min n (day + 1).toNat)), .agg #[.int .i64 (sumTo (listOf (yFO size start ds n 0)) (min n (day + 1).toNat)), .int .i64 (sumTo (listOf (yFO size start ds n 0)) (min n (day + 1).toNat))], (y31 34), (y31 35), (y31 36), (y31 37), (y31 38), (y31 39), (y31 40), (y31 41), (y31 42), (y31 43), (y31 44), (y31 45), (y31 46), (y31 47), (y31 48), undef]) ∧ (k ≤ (wea ds).length) ∧ St h [] p21 h_ ([(b28, .cells #[.int .i64 (mnF (gO size start ds n day) k), .int .i64 (mxF (gO size start ds n day) k)] 36 (0, 0)), (b2, .cells #[.int .i64 0, .int .i64 0] 36 (0, 0)), (b1, .cells #[.int .i64 (size), .int .i64 (start), .slice a n c] 24 (0, 0))])) (fun h_ H_ => ⟨0, rfl, (y_of rfl), Nat.zero_le _, H_⟩) ?_
    intro m_ tm_ IH32
    refine rs_ex fun k => rs_and fun hm_ => rs_and fun ht_ => rs_and fun hk => ?_
    subst hm_; obtain ⟨y31, ht_⟩ := ht_; subst ht_
    refine fl_seq ?_
    refine fl_seq ?_
    refine rl_start ?_
    refine rl_det (met_none rfl) (fun h_ H_ => exd_move (v := .int .i64 (((k : Nat) : Int))) rfl) rfl ?_
    refine rl_det (met_none rfl) (fun h_ H_ => exd_move (v := .slice a22 ((wea ds).length) cp23) rfl) rfl ?_
    refine rl_det (met_none rfl) (fun h_ H_ => exd_len Try.underlying81 rfl) (tm' := [_,_,_,_,_,_,_,_,_,_,_,_,_,_,_,_,_,_,_,_,_,_,_,_,_,_,_,_,_,_,_,_,_,_,_,_,_,_,_,_,_,_,_,_,_,_,_,_,_,_]) rfl ?_
    refine rl_det (met_none rfl) (fun h_ H_ => exd_lss rfl rfl) rfl ?_
    refine rl_end ?_
    by_cases cc33 : ((k : Nat) : Int) < (((wea ds).length : Nat) : Int)
    · refine fl_then rfl (decide_eq_true cc33) ?_
      refine fl_skip ?_
      refine fl_seq ?_
      refine fl_block ?_
      refine fl_drawn2 8 [[], [], [], [1, 2], [1, 2, 3], [1, 2, 3, 4], [], [1, 2, 3, 4, 5, 6], [], []] mixed (by kernel_rfl) (Nat.le_of_ble_eq_true rfl) ?_
      refine swr_det (met_none rfl) (fun h_ H_ => exd_loadN_own H_ tA36 tS36 rfl (i := 0) rfl (vs := [.int .i64 (mnF (gO size start ds n day) k), .int .i64 (mxF (gO size start ds n day) k)]) rfl rfl) (tm' := [_,_,_,_,_,_,_,_,_,_,_,_,_,_,_,_,_,_,_,_,_,_,_,_,_,_,_,_,_,_,_,_,_,_,_,_,_,_,_,_,_,_,_,_,_,_,_,_,_,_]) rfl ?_
      refine swr_det (met_none rfl) (fun h_ H_ => exd_move (v := .slice a22 ((wea ds).length) cp23) rfl) rfl ?_
      refine swr_det (met_none rfl) (fun h_ H_ => exd_move (v := .int .i64 (((k : Nat) : Int))) rfl) (tm' := [_,_,_,_,_,_,_,_,_,_,_,_,_,_,_,_,_,_,_,_,_,_,_,_,_,_,_,_,_,_,_,_,_,_,_,_,_,_,_,_,_,_,_,_,_,_,_,_,_,_]) rfl ?_
      refine swr_det (met_none rfl) (fun h_ H_ => exd_indexAddrN (i := k) Try.underlying81 tS30 (sl_ne a22 ((wea ds).length) cp23 (T14.ne (by omega))) rfl (by omega)) rfl ?_
      refine swr_det (met_none rfl) (fun h_ H_ => exd_fieldAddr tF30_2 rfl (a' := ((adr a22).add (k * 3)).add 2) rfl) (tm' := [_,_,_,_,_,_,_,_,_,_,_,_,_,_,_,_,_,_,_,_,_,_,_,_,_,_,_,_,_,_,_,_,_,_,_,_,_,_,_,_,_,_,_,_,_,_,_,_,_,_]) rfl ?_
      refine swr_det (met_none rfl) (fun h_ H_ => exd_load_per H_ tA25 rfl (v := .slice (A19 k) n (C20 k)) (T14.cell3 _ (by omega))) rfl ?_
      refine swr_det (met_none rfl) (fun h_ H_ => exd_move (v := .int .i64 (day)) rfl) (tm' := [_,_,_,_,_,_,_,_,_,_,_,_,_,_,_,_,_,_,_,_,_,_,_,_,_,_,_,_,_,_,_,_,_,_,_,_,_,_,_,_,_,_,_,_,_,_,_,_,_,_]) rfl ?_
      refine swr_call (met_none rfl) (first := []) (cap := []) rfl rfl fC20 (fun h_ H_ => (c20 md _ _ (fun b_ o_ e_ => H_.per b_ o_ e_) _ _ _ _ (T14.ints3 _ (by omega)) (by omega) day (fo_ok hL hl (by omega))).mono fun v_ h2_ ⟨e_, k_⟩ => ⟨e_, H_.call k_⟩) rfl ?_
      refine swr_nil rfl ?_
      refine rl_calld (met_none rfl) (first := []) (cap := []) rfl rfl fC78 (fun h_ H_ => c78 md _ (mnF (gO size start ds n day) k) (mxF (gO size start ds n day) k) (sumTo (listOf (yFO size start ds n k)) (min n (day + 1).toNat))) rfl ?_
      refine rl_store (met_none rfl) tS36 rfl (v := .agg #[.int .i64 (min (mnF (gO size start ds n day) k) (sumTo (listOf (yFO size start ds n k)) (min n (day + 1).toNat))), .int .i64 (max (mxF (gO size start ds n day) k) (sumTo (listOf (yFO size start ds n k)) (min n (day + 1).toNat)))]) rfl (i := 0) rfl rfl rfl (Nat.le_of_ble_eq_true rfl) (cs2 := [.int .i64 (min (mnF (gO size start ds n day) k) (sumTo (listOf (yFO size start ds n k)) (min n (day + 1).toNat))), .int .i64 (max (mxF (gO size start ds n day) k) (sumTo (listOf (yFO size start ds n k)) (min n (day + 1).toNat)))]) rfl (rl_own (L' := [(b28, .cells #[.int .i64 (min (mnF (gO size start ds n day) k) (sumTo (listOf (yFO size start ds n k)) (min n (day + 1).toNat))), .int .i64 (max (mxF (gO size start ds n day) k) (sumTo (listOf (yFO size start ds n k)) (min n (day + 1).toNat)))] 36 (0, 0)), (b2, .cells #[.int .i64 0, .int .i64 0] 36 (0, 0)), (b1, .cells #[.int .i64 (size), .int .i64 (start), .slice a n c] 24 (0, 0))]) rfl ?_)
      refine rl_end ?_
      refine fl_inBlock ?_
      refine rl_start ?_
      refine rl_det (met_none rfl) (fun h_ H_ => exd_move (v := .int .i64 (((k : Nat) : Int))) rfl) rfl ?_
      refine rl_det (met_none rfl) (fun h_ H_ => exd_add rfl rfl (n := ((k + 1 : Nat) : Int)) (wr (by omega))) (tm' := [_,_,_,_,_,_,_,_,_,_,_,_,_,_,_,_,_,_,_,_,_,_,_,_,_,_,_,_,_,_,_,_,_,_,_,_,_,_,_,_,_,_,_,_,_,_,_,_,_,_]) rfl ?_
      refine rl_det (met_none rfl) (fun h_ H_ => exd_assign (v := .int .i64 (((k + 1 : Nat) : Int))) rfl) rfl ?_
      refine rl_end ?_
      exact fun h_ H_ => IH32 _ _ (by omega) h_ ⟨k + 1, rfl, (y_of rfl), (by omega), H_⟩
    · refine fl_else rfl (decide_eq_false cc33) ?_
      refine fl_exit rfl ?_
      refine fl_seq ?_
      refine rl_start ?_
      refine rl_det (met_none rfl) (fun h_ H_ => exd_loadN_own H_ tA36 tS36 rfl (i := 0) rfl (vs := [.int .i64 (mnF (gO size start ds n day) k), .int .i64 (mxF (gO size start ds n day) k)]) rfl rfl) rfl ?_
      refine rl_store (met_none rfl) tS36 rfl (v := .agg #[.int .i64 (mnF (gO size start ds n day) k), .int .i64 (mxF (gO size start ds n day) k)]) rfl (i := 1) rfl rfl rfl (Nat.le_of_ble_eq_true rfl) (cs2 := [.int .i64 (mnF (gO size start ds n day) k), .int .i64 (mxF (gO size start ds n day) k)]) rfl (rl_own (L' := [(b28, .cells #[.int .i64 (mnF (gO size start ds n day) k), .int .i64 (mxF (gO size start ds n day) k)] 36 (0, 0)), (b2, .cells #[.int .i64 (mnF (gO size start ds n day) k), .int .i64 (mxF (gO size start ds n day) k)] 36 (0, 0)), (b1, .cells #[.int .i64 (size), .int .i64 (start), .slice a n c] 24 (0, 0))]) rfl ?_)
      refine rl_det (met_none rfl) (fun h_ H_ => exd_assign (v := .int .i64 0) rfl) (tm' := _::_::_::_::_::_::_) rfl ?_
      refine rl_end ?_
      refine fl_ret Try.func44 rfl (vs := [.agg #[.int .i64 (mnF (gO size start ds n day) k), .int .i64 (mxF (gO size start ds n day) k)], .int .i64 0]) (fun h_ H_ => ⟨.agg #[.int .i64 (mnF (gO size start ds n day) k), .int .i64 (mxF (gO size start ds n day) k)], _, rfl, (wpS_bind (wpS_pure (wpS_loadVarN tA36 tS36 (vs := [.int .i64 (mnF (gO size start ds n day) k), .int .i64 (mxF (gO size start ds n day) k)]) rfl (fun j_ v_ e_ => by rw [add_mk]; exact H_.ocell (i := 1) rfl (by simpa using e_)) ⟨rfl, rfl⟩))), ⟨.int .i64 0, _, rfl, rfl, rfl⟩⟩) (v := .tuple #[.agg #[.int .i64 (mnF (gO size start ds n day) k), .int .i64 (mxF (gO size start ds n day) k)], .int .i64 0]) rfl ?_
      obtain rfl : k = (wea ds).length := by omega
      exact fun h_ H_ => K _ _ ⟨by rw [over_ref hOk hday hl], H_.kept⟩
end Go.Proofs.Ytbmkacnlhlbnjaa
namespace Go.Proofs.Ytbmkacnlhlbnjaa
open Go.X Go.X.Cist Go.Conc
set_option maxRecDepth 10000

end Go.Proofs.Ytbmkacnlhlbnjaa
namespace Go.Proofs.Ytbmkacnlhlbnjaa
open Go.X Go.X.Cist Go.Conc
set_option maxRecDepth 10000

set_option maxHeartbeats 8000000
theorem e10 (h : Heap) (p : PHeap) (hp : Per p h) (size start : Int) (a : Option Addr) (n c : Nat) (ds : List Day) (D : Days p a n ds) (k : Int) (_hk64 : -9223372036854775808 ≤ k ∧ k ≤ 9223372036854775807) : EntersX Try.prog (.main true) 10 #[.agg #[.int .i64 (size), .int .i64 (start), .slice a n c], .int .i64 (k)] h fun v h' => v = .bool true ∧ Keep h h' := by
  refine enters_intro (Φ := fun h_ => St h [] p h_ []) Try.func10 rfl (tm := [_, _, _, _, _, _, _, _, _, _, _, _, _, _, _, _, _, _, _, _, _, _, _, _, _, _, _, _, _, _, _, _, _, _, _, _, _, _, _, _, _, _, _, _, _, _, _, _, _, _, _, _, _, _, _, _, _, _, _, _, _, _, _, _, _, _, _, _, _, _, _, _, _, _, _, _, _, _, _, _, _, _, _, _, _, _, _, _, _, _, _, _, _, _, _]) rfl ?_ (St.start h _ hp)
  intro K
  have hl := D.len
  refine fl_seq ?_
  refine rl_start ?_
  refine rl_box (met_none rfl) (v := .agg #[.int .i64 (size), .int .i64 (start), .slice a n c]) rfl fun b1 => rl_own (L' := [(b1, .cells #[.int .i64 (size), .int .i64 (start), .slice a n c] 24 (0, 0))]) rfl ?_
  refine rl_det (met_none rfl) (fun h_ H_ => exd_assign (v := .bool (false)) rfl) rfl ?_
  refine rl_end ?_
  refine fl_seq ?_
  refine fl_seq ?_
  refine rl_start ?_
  refine rl_det (met_none rfl) (fun h_ H_ => exd_loadN_own H_ tA24 tS24 rfl (i := 0) rfl (vs := [.int .i64 (size), .int .i64 (start), .slice a n c]) rfl rfl) (tm' := _::_::_::_::_::_::_::_::_::_::_::_::_::_::_::_::_::_::_::_) rfl ?_
  refine rl_calld (met_none rfl) (first := []) (cap := []) rfl rfl fC39 (fun h_ H_ => c39 (.main true) _ _ (fun b_ o_ e_ => H_.per b_ o_ e_) size start _ _ _ _ D) rfl ?_
  refine rl_end ?_
  by_cases cc2 : FarD size start ds
  · refine fl_then rfl (decide_eq_true cc2) ?_
    refine fl_seq ?_
    refine rl_start ?_
    refine rl_calld (met_none rfl) (first := []) (cap := []) rfl rfl fC18 (fun h_ H_ => c18 _) rfl ?_
    refine rl_det (met_none rfl) (fun h_ H_ => exd_assign (v := .bool (true)) rfl) (tm' := _::_::_::_::_::_) rfl ?_
    refine rl_end ?_
    refine fl_retE (by kernel_rfl) Try.func10 rfl (vs := [.bool (true)]) (fun h_ H_ => ⟨.bool (true), _, rfl, rfl, rfl⟩) (v := .bool (true)) rfl ?_
    exact fun h_ H_ => K _ _ ⟨rfl, H_.kept⟩
  · refine fl_else rfl (decide_eq_false cc2) ?_
    refine fl_skip ?_
    refine fl_seq ?_
    have hf := ‹¬ FarD size start ds›
    have h40 : ds.length ≤ 40 := Nat.not_lt.1 fun h_ => hf (.inl h_)
    refine rl_start ?_
    refine rl_det (met_none rfl) (fun h_ H_ => exd_loadN_own H_ tA24 tS24 rfl (i := 0) rfl (vs := [.int .i64 (size), .int .i64 (start), .slice a n c]) rfl rfl) rfl ?_
    refine rl_own (L' := ([(b1, .cells #[.int .i64 (size), .int .i64 (start), .slice a n c] 24 (0, 0))] : Pcs) ++ []) rfl ?_
    refine rl_call (met_none rfl) (first := []) (cap := []) rfl rfl fC30 (R := fun v_ h_ => ∃ w3 : Value, ∃ X4 : Pcs, v_ = .agg #[.int .i64 (size), .int .i64 (start), w3] ∧ (OwnS 38 3 w3 (dcs ds) X4) ∧ St h [] p h_ (([(b1, .cells #[.int .i64 (size), .int .i64 (start), .slice a n c] 24 (0, 0))] : Pcs) ++ (X4 ++ []))) (fun h_ H_ => (c30 (.main true) _ _ (fun b_ o_ e_ => H_.per b_ o_ e_) (size) (start) _ _ _ _ D (by omega)).mono fun v_ h2_ ⟨w3, X4, e_, o5, N_⟩ => ⟨w3, X4, e_, o5, H_.callNA N_⟩) fun v_ => ?_
    refine rl_ex fun w3 => rl_ex fun X4 => rl_and fun ev_ => rl_and fun o5 => ?_
    have ev_ := ev_.symm; subst ev_
    refine rl_own (L' := ([(b1, .cells #[.int .i64 (size), .int .i64 (start), .slice a n c] 24 (0, 0))] : Pcs) ++ (X4 ++ [])) rfl ?_
    refine rl_alloc (met_none rfl) tZ24 rfl fun b6 => rl_own (L' := ([(b6, .cells #[.int .i64 0, .int .i64 0, .slice none 0 0] 24 (0, 0)), (b1, .cells #[.int .i64 (size), .int .i64 (start), .slice a n c] 24 (0, 0))] : Pcs) ++ (X4 ++ [])) rfl ?_
    refine rl_norm (tm' := _::_::_::_::_::_::_) rfl ?_
    refine rl_store (met_none rfl) tS24 rfl (v := .agg #[.int .i64 (size), .int .i64 (start), w3]) rfl (i := 0) rfl rfl (ones_cons rfl (ones_cons rfl (ones_cons o5.one.2 rfl))) (Nat.le_of_ble_eq_true rfl) (cs2 := [.int .i64 (size), .int .i64 (start), w3]) rfl (rl_own (L' := ([(b6, .cells #[.int .i64 (size), .int .i64 (start), w3] 24 (0, 0)), (b1, .cells #[.int .i64 (size), .int .i64 (start), .slice a n c] 24 (0, 0))] : Pcs) ++ (X4 ++ [])) rfl ?_)
    refine rl_end ?_
    refine fl_seq ?_
    refine rs_lastN (A := ([(b6, .cells #[.int .i64 (size), .int .i64 (start), w3] 24 (0, 0)), (b1, .cells #[.int .i64 (size), .int .i64 (start), .slice a n c] 24 (0, 0))] : Pcs)) o5 (show (dcs ds).length = n by rw [dcs_length]; omega) fun p7 a8 cp9 le10 ev_ D11 => ?_
    subst ev_
    refine rs_own (L' := [(b6, .cells #[.int .i64 (size), .int .i64 (start), .slice a8 n cp9] 24 (0, 0)), (b1, .cells #[.int .i64 (size), .int .i64 (start), .slice a n c] 24 (0, 0))]) rfl ?_
    refine rl_start ?_
    refine rl_det (met_none rfl) (fun h_ H_ => exd_loadN_own H_ tA24 tS24 rfl (i := 0) rfl (vs := [.int .i64 (size), .int .i64 (start), .slice a8 n cp9]) rfl rfl) rfl ?_
    refine rl_det (met_none rfl) (fun h_ H_ => exd_move (v := .int .i64 (k)) rfl) rfl ?_
    refine rl_calld (met_none rfl) (first := []) (cap := []) rfl rfl fC28 (fun h_ H_ => c28 _ _ (fun b_ o_ e_ => H_.per b_ o_ e_) (size) (start) _ _ _ _ (show Days _ _ _ ds from D11) (by omega) k) (tm' := _::_::_::_::_::_::_::_::_::_::_::_::_::_::_::_::_::_::_::_::_::_::_::_::_::_::_::_) rfl ?_
    refine rl_det (met_none rfl) (fun h_ H_ => exd_move (v := .tuple #[.agg #[.int .i64 ((levelR size start ds k).1.1), .int .i64 ((levelR size start ds k).1.2)], .int .i64 ((levelR size start ds k).2)]) rfl) rfl ?_
    refine rl_det (met_none rfl) (fun h_ H_ => exd_extract rfl (v := .agg #[.int .i64 ((levelR size start ds k).1.1), .int .i64 ((levelR size start ds k).1.2)]) rfl) rfl ?_
    refine rl_det (met_none rfl) (fun h_ H_ => exd_extract rfl (v := .int .i64 ((levelR size start ds k).2)) rfl) (tm' := _::_::_::_::_::_::_::_::_::_::_::_::_::_::_::_::_::_::_::_::_::_::_::_::_::_::_::_::_::_) rfl ?_
    refine rl_alloc (met_none rfl) tZ36 rfl fun b12 => rl_own (L' := [(b12, .cells #[.int .i64 0, .int .i64 0] 36 (0, 0)), (b6, .cells #[.int .i64 (size), .int .i64 (start), .slice a8 n cp9] 24 (0, 0)), (b1, .cells #[.int .i64 (size), .int .i64 (start), .slice a n c] 24 (0, 0))]) rfl ?_
    refine rl_store (met_none rfl) tS36 rfl (v := .agg #[.int .i64 ((levelR size start ds k).1.1), .int .i64 ((levelR size start ds k).1.2)]) rfl (i := 0) rfl rfl rfl (Nat.le_of_ble_eq_true rfl) (cs2 := [.int .i64 ((levelR size start ds k).1.1), .int .i64 ((levelR size start ds k).1.2)]) rfl (rl_own (L' := [(b12, .cells #[.int .i64 ((levelR size start ds k).1.1), .int .i64 ((levelR size start ds k).1.2)] 36 (0, 0)), (b6, .cells #[.int .i64 (size), .int .i64 (start), .slice a8 n cp9] 24 (0, 0)), (b1, .cells #[.int .i64 (size), .int .i64 (start), .slice a n c] 24 (0, 0))]) rfl ?_)
    refine rl_det (met_none rfl) (fun h_ H_ => exd_assign (v := .int .i64 ((levelR size start ds k).2)) rfl) rfl ?_
    refine rl_end ?_
    refine fl_seq ?_
    refine rl_start ?_
    refine rl_det (met_none rfl) (fun h_ H_ => exd_loadN_own H_ tA24 tS24 rfl (i := 2) rfl (vs := [.int .i64 (size), .int .i64 (start), .slice a n c]) rfl rfl) (tm' := _::_::_::_::_::_::_::_::_::_::_::_::_::_::_::_::_::_::_::_::_::_::_::_::_::_::_::_::_::_::_::_) rfl ?_
    refine rl_det (met_none rfl) (fun h_ H_ => exd_move (v := .int .i64 (k)) rfl) rfl ?_
    refine rl_calld (met_none rfl) (first := []) (cap := []) rfl rfl fC40 (fun h_ H_ => c40 (.main true) _ _ (fun b_ o_ e_ => H_.per b_ o_ e_) (size) (start) _ _ _ _ (D.mono le10) (by omega) (fun hO_ => far_wea hO_ hf) k) rfl ?_
    refine rl_det (met_none rfl) (fun h_ H_ => exd_move (v := .tuple #[.agg #[.int .i64 ((levelR size start ds k).1.1), .int .i64 ((levelR size start ds k).1.2)], .int .i64 ((levelR size start ds k).2)]) rfl) (tm' := _::_::_::_::_::_::_::_::_::_::_::_::_::_::_::_::_::_::_::_::_::_::_::_::_::_::_::_::_::_::_) rfl ?_
    refine rl_det (met_none rfl) (fun h_ H_ => exd_extract rfl (v := .agg #[.int .i64 ((levelR size start ds k).1.1), .int .i64 ((levelR size start ds k).1.2)]) rfl) rfl ?_
    refine rl_det (met_none rfl) (fun h_ H_ => exd_extract rfl (v := .int .i64 ((levelR size start ds k).2)) rfl) rfl ?_
    refine rl_alloc (met_none rfl) tZ36 rfl fun b13 => rl_own (L' := [(b13, .cells #[.int .i64 0, .int .i64 0] 36 (0, 0)), (b12, .cells #[.int .i64 ((levelR size start ds k).1.1), .int .i64 ((levelR size start ds k).1.2)] 36 (0, 0)), (b6, .cells #[.int .i64 (size), .int .i64 (start), .slice a8 n cp9] 24 (0, 0)), (b1, .cells #[.int .i64 (size), .int .i64 (start), .slice a n c] 24 (0, 0))]) rfl ?_
    refine rl_norm (tm' := _::_::_::_::_::_::_::_::_::_) rfl ?_
    refine rl_store (met_none rfl) tS36 rfl (v := .agg #[.int .i64 ((levelR size start ds k).1.1), .int .i64 ((levelR size start ds k).1.2)]) rfl (i := 0) rfl rfl rfl (Nat.le_of_ble_eq_true rfl) (cs2 := [.int .i64 ((levelR size start ds k).1.1), .int .i64 ((levelR size start ds k).1.2)]) rfl (rl_own (L' := [(b13, .cells #[.int .i64 ((levelR size start ds k).1.1), .int .i64 ((levelR size start ds k).1.2)] 36 (0, 0)), (b12, .cells #[.int .i64 ((levelR size start ds k).1.1), .int .i64 ((levelR size start ds k).1.2)] 36 (0, 0)), (b6, .cells #[.int .i64 (size), .int .i64 (start), .slice a8 n cp9] 24 (0, 0)), (b1, .cells #[.int .i64 (size), .int .i64 (start), .slice a n c] 24 (0, 0))]) rfl ?_)
    refine rl_det (met_none rfl) (fun h_ H_ => exd_assign (v := .int .i64 ((levelR size start ds k).2)) rfl) rfl ?_
    refine rl_end ?_
    refine fl_seq ?_
    refine rl_start ?_
    refine rl_det (met_none rfl) (fun h_ H_ => exd_loadN_own H_ tA24 tS24 rfl (i := 2) rfl (vs := [.int .i64 (size), .int .i64 (start), .slice a8 n cp9]) rfl rfl) rfl ?_
    refine rl_det (met_none rfl) (fun h_ H_ => exd_move (v := .int .i64 (k)) rfl) (tm' := _::_::_::_::_::_::_::_::_::_::_::_::_::_::_::_::_::_::_::_::_::_::_::_::_::_::_::_::_::_::_::_::_::_::_::_::_::_::_) rfl ?_
    refine rl_calld (met_none rfl) (first := []) (cap := []) rfl rfl fC41 (fun h_ H_ => c41 _ _ (fun b_ o_ e_ => H_.per b_ o_ e_) (size) (start) _ _ _ _ (show Days _ _ _ ds from D11) (by omega) k) rfl ?_
    refine rl_det (met_none rfl) (fun h_ H_ => exd_move (v := .tuple #[.agg #[.int .i64 ((lackR size start ds k).1.1), .int .i64 ((lackR size start ds k).1.2)], .int .i64 ((lackR size start ds k).2)]) rfl) rfl ?_
    refine rl_det (met_none rfl) (fun h_ H_ => exd_extract rfl (v := .agg #[.int .i64 ((lackR size start ds k).1.1), .int .i64 ((lackR size start ds k).1.2)]) rfl) (tm' := _::_::_::_::_::_::_::_::_::_::_::_::_::_::_::_::_::_::_::_::_::_::_::_::_::_::_::_::_::_::_::_::_::_::_::_::_::_::_::_::_) rfl ?_
    refine rl_det (met_none rfl) (fun h_ H_ => exd_extract rfl (v := .int .i64 ((lackR size start ds k).2)) rfl) rfl ?_
    refine rl_alloc (met_none rfl) tZ36 rfl fun b14 => rl_own (L' := [(b14, .cells #[.int .i64 0, .int .i64 0] 36 (0, 0)), (b13, .cells #[.int .i64 ((levelR size start ds k).1.1), .int .i64 ((levelR size start ds k).1.2)] 36 (0, 0)), (b12, .cells #[.int .i64 ((levelR size start ds k).1.1), .int .i64 ((levelR size start ds k).1.2)] 36 (0, 0)), (b6, .cells #[.int .i64 (size), .int .i64 (start), .slice a8 n cp9] 24 (0, 0)), (b1, .cells #[.int .i64 (size), .int .i64 (start), .slice a n c] 24 (0, 0))]) rfl ?_
    refine rl_store (met_none rfl) tS36 rfl (v := .agg #[.int .i64 ((lackR size start ds k).1.1), .int .i64 ((lackR size start ds k).1.2)]) rfl (i := 0) rfl rfl rfl (Nat.le_of_ble_eq_true rfl) (cs2 := [.int .i64 ((lackR size start ds k).1.1), .int .i64 ((lackR size start ds k).1.2)]) rfl (rl_own (L' := [(b14, .cells #[.int .i64 ((lackR size start ds k).1.1), .int .i64 ((lackR size start ds k).1.2)] 36 (0, 0)), (b13, .cells #[.int .i64 ((levelR size start ds k).1.1), .int .i64 ((levelR size start ds k).1.2)] 36 (0, 0)), (b12, .cells #[.int .i64 ((levelR size start ds k).1.1), .int .i64 ((levelR size start ds k).1.2)] 36 (0, 0)), (b6, .cells #[.int .i64 (size), .int .i64 (start), .slice a8 n cp9] 24 (0, 0)), (b1, .cells #[.int .i64 (size), .int .i64 (start), .slice a n c] 24 (0, 0))]) rfl ?_)
    refine rl_det (met_none rfl) (fun h_ H_ => exd_assign (v := .int .i64 ((lackR size start ds k).2)) rfl) (tm' := _::_::_::_::_::_::_::_::_::_::_::_::_) rfl ?_
    refine rl_end ?_
    refine fl_seq ?_
    refine rl_start ?_
    refine rl_det (met_none rfl) (fun h_ H_ => exd_loadN_own H_ tA24 tS24 rfl (i := 4) rfl (vs := [.int .i64 (size), .int .i64 (start), .slice a n c]) rfl rfl) rfl ?_
    refine rl_det (met_none rfl) (fun h_ H_ => exd_move (v := .int .i64 (k)) rfl) rfl ?_
    refine rl_calld (met_none rfl) (first := []) (cap := []) rfl rfl fC42 (fun h_ H_ => c42 (.main true) _ _ (fun b_ o_ e_ => H_.per b_ o_ e_) (size) (start) _ _ _ _ (D.mono le10) (by omega) (fun hO_ => far_wea hO_ hf) k) (tm' := _::_::_::_::_::_::_::_::_::_::_::_::_::_::_::_::_::_::_::_::_::_::_::_::_::_::_::_::_::_::_::_::_::_::_::_::_::_::_::_::_::_::_::_::_::_) rfl ?_
    refine rl_det (met_none rfl) (fun h_ H_ => exd_move (v := .tuple #[.agg #[.int .i64 ((lackR size start ds k).1.1), .int .i64 ((lackR size start ds k).1.2)], .int .i64 ((lackR size start ds k).2)]) rfl) rfl ?_
    refine rl_det (met_none rfl) (fun h_ H_ => exd_extract rfl (v := .agg #[.int .i64 ((lackR size start ds k).1.1), .int .i64 ((lackR size start ds k).1.2)]) rfl) rfl ?_
    refine rl_det (met_none rfl) (fun h_ H_ => exd_extract rfl (v := .int .i64 ((lackR size start ds k).2)) rfl) (tm' := _::_::_::_::_::_::_::_::_::_::_::_::_::_::_::_::_::_::_::_::_::_::_::_::_::_::_::_::_::_::_::_::_::_::_::_::_::_::_::_::_::_::_::_::_::_::_::_) rfl ?_
    refine rl_alloc (met_none rfl) tZ36 rfl fun b15 => rl_own (L' := [(b15, .cells #[.int .i64 0, .int .i64 0] 36 (0, 0)), (b14, .cells #[.int .i64 ((lackR size start ds k).1.1), .int .i64 ((lackR size start ds k).1.2)] 36 (0, 0)), (b13, .cells #[.int .i64 ((levelR size start ds k).1.1), .int .i64 ((levelR size start ds k).1.2)] 36 (0, 0)), (b12, .cells #[.int .i64 ((levelR size start ds k).1.1), .int .i64 ((levelR size start ds k).1.2)] 36 (0, 0)), (b6, .cells #[.int .i64 (size), .int .i64 (start), .slice a8 n cp9] 24 (0, 0)), (b1, .cells #[.int .i64 (size), .int .i64 (start), .slice a n c] 24 (0, 0))]) rfl ?_
    refine rl_store (met_none rfl) tS36 rfl (v := .agg #[.int .i64 ((lackR size start ds k).1.1), .int .i64 ((lackR size start ds k).1.2)]) rfl (i := 0) rfl rfl rfl (Nat.le_of_ble_eq_true rfl) (cs2 := [.int .i64 ((lackR size start ds k).1.1), .int .i64 ((lackR size start ds k).1.2)]) rfl (rl_own (L' := [(b15, .cells #[.int .i64 ((lackR size start ds k).1.1), .int .i64 ((lackR size start ds k).1.2)] 36 (0, 0)), (b14, .cells #[.int .i64 ((lackR size start ds k).1.1), .int .i64 ((lackR size start ds k).1.2)] 36 (0, 0)), (b13, .cells #[.int .i64 ((levelR size start ds k).1.1), .int .i64 ((levelR size start ds k).1.2)] 36 (0, 0)), (b12, .cells #[.int .i64 ((levelR size start ds k).1.1), .int .i64 ((levelR size start ds k).1.2)] 36 (0, 0)), (b6, .cells #[.int .i64 (size), .int .i64 (start), .slice a8 n cp9] 24 (0, 0)), (b1, .cells #[.int .i64 (size), .int .i64 (start), .slice a n c] 24 (0, 0))]) rfl ?_)
    refine rl_det (met_none rfl) (fun h_ H_ => exd_assign (v := .int .i64 ((lackR size start ds k).2)) rfl) rfl ?_
    refine rl_end ?_
    refine fl_seq ?_
    refine rl_start ?_
    refine rl_det (met_none rfl) (fun h_ H_ => exd_loadN_own H_ tA24 tS24 rfl (i := 4) rfl (vs := [.int .i64 (size), .int .i64 (start), .slice a8 n cp9]) rfl rfl) (tm' := _::_::_::_::_::_::_::_::_::_::_::_::_::_::_::_::_::_::_::_::_::_::_::_::_::_::_::_::_::_::_::_::_::_::_::_::_::_::_::_::_::_::_::_::_::_::_::_::_::_) rfl ?_
    refine rl_det (met_none rfl) (fun h_ H_ => exd_move (v := .int .i64 (k)) rfl) rfl ?_
    refine rl_calld (met_none rfl) (first := []) (cap := []) rfl rfl fC43 (fun h_ H_ => c43 _ _ (fun b_ o_ e_ => H_.per b_ o_ e_) (size) (start) _ _ _ _ (show Days _ _ _ ds from D11) (by omega) k) rfl ?_
    refine rl_det (met_none rfl) (fun h_ H_ => exd_move (v := .tuple #[.agg #[.int .i64 ((overR size start ds k).1.1), .int .i64 ((overR size start ds k).1.2)], .int .i64 ((overR size start ds k).2)]) rfl) (tm' := _::_::_::_::_::_::_::_::_::_::_::_::_::_::_::_::_::_::_::_::_::_::_::_::_::_::_::_::_::_::_::_::_::_::_::_::_::_::_::_::_::_::_::_::_::_::_::_::_) rfl ?_
    refine rl_det (met_none rfl) (fun h_ H_ => exd_extract rfl (v := .agg #[.int .i64 ((overR size start ds k).1.1), .int .i64 ((overR size start ds k).1.2)]) rfl) rfl ?_
    refine rl_det (met_none rfl) (fun h_ H_ => exd_extract rfl (v := .int .i64 ((overR size start ds k).2)) rfl) rfl ?_
    refine rl_alloc (met_none rfl) tZ36 rfl fun b16 => rl_own (L' := [(b16, .cells #[.int .i64 0, .int .i64 0] 36 (0, 0)), (b15, .cells #[.int .i64 ((lackR size start ds k).1.1), .int .i64 ((lackR size start ds k).1.2)] 36 (0, 0)), (b14, .cells #[.int .i64 ((lackR size start ds k).1.1), .int .i64 ((lackR size start ds k).1.2)] 36 (0, 0)), (b13, .cells #[.int .i64 ((levelR size start ds k).1.1), .int .i64 ((levelR size start ds k).1.2)] 36 (0, 0)), (b12, .cells #[.int .i64 ((levelR size start ds k).1.1), .int .i64 ((levelR size start ds k).1.2)] 36 (0, 0)), (b6, .cells #[.int .i64 (size), .int .i64 (start), .slice a8 n cp9] 24 (0, 0)), (b1, .cells #[.int .i64 (size), .int .i64 (start), .slice a n c] 24 (0, 0))]) rfl ?_
    refine rl_norm (tm' := _::_::_::_::_::_::_::_::_::_::_::_::_::_::_::_) rfl ?_
    refine rl_store (met_none rfl) tS36 rfl (v := .agg #[.int .i64 ((overR size start ds k).1.1), .int .i64 ((overR size start ds k).1.2)]) rfl (i := 0) rfl rfl rfl (Nat.le_of_ble_eq_true rfl) (cs2 := [.int .i64 ((overR size start ds k).1.1), .int .i64 ((overR size start ds k).1.2)]) rfl (rl_own (L' := [(b16, .cells #[.int .i64 ((overR size start ds k).1.1), .int .i64 ((overR size start ds k).1.2)] 36 (0, 0)), (b15, .cells #[.int .i64 ((lackR size start ds k).1.1), .int .i64 ((lackR size start ds k).1.2)] 36 (0, 0)), (b14, .cells #[.int .i64 ((lackR size start ds k).1.1), .int .i64 ((lackR size start ds k).1.2)] 36 (0, 0)), (b13, .cells #[.int .i64 ((levelR size start ds k).1.1), .int .i64 ((levelR size start ds k).1.2)] 36 (0, 0)), (b12, .cells #[.int .i64 ((levelR size start ds k).1.1), .int .i64 ((levelR size start ds k).1.2)] 36 (0, 0)), (b6, .cells #[.int .i64 (size), .int .i64 (start), .slice a8 n cp9] 24 (0, 0)), (b1, .cells #[.int .i64 (size), .int .i64 (start), .slice a n c] 24 (0, 0))]) rfl ?_)
    refine rl_det (met_none rfl) (fun h_ H_ => exd_assign (v := .int .i64 ((overR size start ds k).2)) rfl) rfl ?_
    refine rl_end ?_
    refine fl_seq ?_
    refine rl_start ?_
    refine rl_det (met_none rfl) (fun h_ H_ => exd_loadN_own H_ tA24 tS24 rfl (i := 6) rfl (vs := [.int .i64 (size), .int .i64 (start), .slice a n c]) rfl rfl) rfl ?_
    refine rl_det (met_none rfl) (fun h_ H_ => exd_move (v := .int .i64 (k)) rfl) (tm' := _::_::_::_::_::_::_::_::_::_::_::_::_::_::_::_::_::_::_::_::_::_::_::_::_::_::_::_::_::_::_::_::_::_::_::_::_::_::_::_::_::_::_::_::_::_::_::_::_::_::_::_::_::_::_::_::_) rfl ?_
    refine rl_calld (met_none rfl) (first := []) (cap := []) rfl rfl fC44 (fun h_ H_ => c44 (.main true) _ _ (fun b_ o_ e_ => H_.per b_ o_ e_) (size) (start) _ _ _ _ (D.mono le10) (by omega) (fun hO_ => far_wea hO_ hf) k) rfl ?_
    refine rl_det (met_none rfl) (fun h_ H_ => exd_move (v := .tuple #[.agg #[.int .i64 ((overR size start ds k).1.1), .int .i64 ((overR size start ds k).1.2)], .int .i64 ((overR size start ds k).2)]) rfl) rfl ?_
    refine rl_det (met_none rfl) (fun h_ H_ => exd_extract rfl (v := .agg #[.int .i64 ((overR size start ds k).1.1), .int .i64 ((overR size start ds k).1.2)]) rfl) (tm' := _::_::_::_::_::_::_::_::_::_::_::_::_::_::_::_::_::_::_::_::_::_::_::_::_::_::_::_::_::_::_::_::_::_::_::_::_::_::_::_::_::_::_::_::_::_::_::_::_::_::_::_::_::_::_::_::_::_::_) rfl ?_
    refine rl_det (met_none rfl) (fun h_ H_ => exd_extract rfl (v := .int .i64 ((overR size start ds k).2)) rfl) rfl ?_
    refine rl_alloc (met_none rfl) tZ36 rfl fun b17 => rl_own (L' := [(b17, .cells #[.int .i64 0, .int .i64 0] 36 (0, 0)), (b16, .cells #[.int .i64 ((overR size start ds k).1.1), .int .i64 ((overR size start ds k).1.2)] 36 (0, 0)), (b15, .cells #[.int .i64 ((lackR size start ds k).1.1), .int .i64 ((lackR size start ds k).1.2)] 36 (0, 0)), (b14, .cells #[.int .i64 ((lackR size start ds k).1.1), .int .i64 ((lackR size start ds k).1.2)] 36 (0, 0)), (b13, .cells #[.int .i64 ((levelR size start ds k).1.1), .int .i64 ((levelR size start ds k).1.2)] 36 (0, 0)), (b12, .cells #[.int .i64 ((levelR size start ds k).1.1), .int .i64 ((levelR size start ds k).1.2)] 36 (0, 0)), (b6, .cells #[.int .i64 (size), .int .i64 (start), .slice a8 n cp9] 24 (0, 0)), (b1, .cells #[.int .i64 (size), .int .i64 (start), .slice a n c] 24 (0, 0))]) rfl ?_
    refine rl_store (met_none rfl) tS36 rfl (v := .agg #[.int .i64 ((overR size start ds k).1.1), .int .i64 ((overR size start ds k).1.2)]) rfl (i := 0) rfl rfl rfl (Nat.le_of_ble_eq_true rfl) (cs2 := [.int .i64 ((overR size start ds k).1.1), .int .i64 ((overR size start ds k).1.2)]) rfl (rl_own (L' := [(b17, .cells #[.int .i64 ((overR size start ds k).1.1), .int .i64 ((overR size start ds k).1.2)] 36 (0, 0)), (b16, .cells #[.int .i64 ((overR size start ds k).1.1), .int .i64 ((overR size start ds k).1.2)] 36 (0, 0)), (b15, .cells #[.int .i64 ((lackR size start ds k).1.1), .int .i64 ((lackR size start ds k).1.2)] 36 (0, 0)), (b14, .cells #[.int .i64 ((lackR size start ds k).1.1), .int .i64 ((lackR size start ds k).1.2)] 36 (0, 0)), (b13, .cells #[.int .i64 ((levelR size start ds k).1.1), .int .i64 ((levelR size start ds k).1.2)] 36 (0, 0)), (b12, .cells #[.int .i64 ((levelR size start ds k).1.1), .int .i64 ((levelR size start ds k).1.2)] 36 (0, 0)), (b6, .cells #[.int .i64 (size), .int .i64 (start), .slice a8 n cp9] 24 (0, 0)), (b1, .cells #[.int .i64 (size), .int .i64 (start), .slice a n c] 24 (0, 0))]) rfl ?_)
    refine rl_det (met_none rfl) (fun h_ H_ => exd_assign (v := .int .i64 ((overR size start ds k).2)) rfl) (tm' := _::_::_::_::_::_::_::_::_::_::_::_::_::_::_::_::_::_::_) rfl ?_
    refine rl_end ?_
    refine fl_seq ?_
    refine rl_start ?_
    refine rl_det (met_none rfl) (fun h_ H_ => exd_loadN_own H_ tA36 tS36 rfl (i := 5) rfl (vs := [.int .i64 ((levelR size start ds k).1.1), .int .i64 ((levelR size start ds k).1.2)]) rfl rfl) rfl ?_
    refine rl_det (met_none rfl) (fun h_ H_ => exd_loadN_own H_ tA36 tS36 rfl (i := 4) rfl (vs := [.int .i64 ((levelR size start ds k).1.1), .int .i64 ((levelR size start ds k).1.2)]) rfl rfl) rfl ?_
    refine rl_det (met_none rfl) (fun h_ H_ => exd_eqAgg gT36 (spanEq 9998 _ _ _ _) rfl rfl) (tm' := _::_::_::_::_::_::_::_::_::_::_::_::_::_::_::_::_::_::_::_::_::_::_::_::_::_::_::_::_::_::_::_::_::_::_::_::_::_::_::_::_::_::_::_::_::_::_::_::_::_::_::_::_::_::_::_::_::_::_::_::_::_::_) rfl ?_
    refine rl_det (met_none rfl) (fun h_ H_ => exd_move (v := .bool (decide ((levelR size start ds k).1.1 = (levelR size start ds k).1.1 ∧ (levelR size start ds k).1.2 = (levelR size start ds k).1.2))) rfl) rfl ?_
    refine rl_det (met_some rfl rfl (decide_eq_true ⟨rfl, rfl⟩)) (fun h_ H_ => exd_move (v := .int .i64 ((levelR size start ds k).2)) rfl) rfl ?_
    refine rl_det (met_some rfl rfl (decide_eq_true ⟨rfl, rfl⟩)) (fun h_ H_ => exd_move (v := .int .i64 ((levelR size start ds k).2)) rfl) (tm' := [_,_,_,_,_,_,_,_,_,_,_,_,_,_,_,_,_,_,_,_,_,_,_,_,_,_,_,_,_,_,_,_,_,_,_,_,_,_,_,_,_,_,_,_,_,_,_,_,_,_,_,_,_,_,_,_,_,_,_,_,_,_,_,_,_,_,_,_,_,_,_,_,_,_,_,_,_,_,_,_,_,_,_,_,_,_,_,_,_,_,_,_,_,_,_]) rfl ?_
    refine rl_det (met_some rfl rfl (decide_eq_true ⟨rfl, rfl⟩)) (fun h_ H_ => exd_eql rfl rfl) rfl ?_
    refine rl_det (met_none rfl) (fun h_ H_ => exd_pick_t rfl (decide_eq_true ⟨rfl, rfl⟩) (v := .bool (decide ((levelR size start ds k).2 = (levelR size start ds k).2))) rfl) rfl ?_
    refine rl_det (met_none rfl) (fun h_ H_ => exd_move (v := .bool (decide ((levelR size start ds k).2 = (levelR size start ds k).2))) rfl) (tm' := [_,_,_,_,_,_,_,_,_,_,_,_,_,_,_,_,_,_,_,_,_,_,_,_,_,_,_,_,_,_,_,_,_,_,_,_,_,_,_,_,_,_,_,_,_,_,_,_,_,_,_,_,_,_,_,_,_,_,_,_,_,_,_,_,_,_,_,_,_,_,_,_,_,_,_,_,_,_,_,_,_,_,_,_,_,_,_,_,_,_,_,_,_,_,_]) rfl ?_
    refine rl_det (met_some rfl rfl (decide_eq_true rfl)) (fun h_ H_ => exd_loadN_own H_ tA36 tS36 rfl (i := 3) rfl (vs := [.int .i64 ((lackR size start ds k).1.1), .int .i64 ((lackR size start ds k).1.2)]) rfl rfl) rfl ?_
    refine rl_det (met_some rfl rfl (decide_eq_true rfl)) (fun h_ H_ => exd_loadN_own H_ tA36 tS36 rfl (i := 2) rfl (vs := [.int .i64 ((lackR size start ds k).1.1), .int .i64 ((lackR size start ds k).1.2)]) rfl rfl) rfl ?_
    refine rl_det (met_some rfl rfl (decide_eq_true rfl)) (fun h_ H_ => exd_eqAgg gT36 (spanEq 9998 _ _ _ _) rfl rfl) (tm' := [_,_,_,_,_,_,_,_,_,_,_,_,_,_,_,_,_,_,_,_,_,_,_,_,_,_,_,_,_,_,_,_,_,_,_,_,_,_,_,_,_,_,_,_,_,_,_,_,_,_,_,_,_,_,_,_,_,_,_,_,_,_,_,_,_,_,_,_,_,_,_,_,_,_,_,_,_,_,_,_,_,_,_,_,_,_,_,_,_,_,_,_,_,_,_]) rfl ?_
    refine rl_det (met_none rfl) (fun h_ H_ => exd_pick_t rfl (decide_eq_true rfl) (v := .bool (decide ((lackR size start ds k).1.1 = (lackR size start ds k).1.1 ∧ (lackR size start ds k).1.2 = (lackR size start ds k).1.2))) rfl) rfl ?_
    refine rl_det (met_none rfl) (fun h_ H_ => exd_move (v := .bool (decide ((lackR size start ds k).1.1 = (lackR size start ds k).1.1 ∧ (lackR size start ds k).1.2 = (lackR size start ds k).1.2))) rfl) rfl ?_
    refine rl_det (met_some rfl rfl (decide_eq_true ⟨rfl, rfl⟩)) (fun h_ H_ => exd_move (v := .int .i64 ((lackR size start ds k).2)) rfl) (tm' := [_,_,_,_,_,_,_,_,_,_,_,_,_,_,_,_,_,_,_,_,_,_,_,_,_,_,_,_,_,_,_,_,_,_,_,_,_,_,_,_,_,_,_,_,_,_,_,_,_,_,_,_,_,_,_,_,_,_,_,_,_,_,_,_,_,_,_,_,_,_,_,_,_,_,_,_,_,_,_,_,_,_,_,_,_,_,_,_,_,_,_,_,_,_,_]) rfl ?_
    refine rl_det (met_some rfl rfl (decide_eq_true ⟨rfl, rfl⟩)) (fun h_ H_ => exd_move (v := .int .i64 ((lackR size start ds k).2)) rfl) rfl ?_
    refine rl_det (met_some rfl rfl (decide_eq_true ⟨rfl, rfl⟩)) (fun h_ H_ => exd_eql rfl rfl) rfl ?_
    refine rl_det (met_none rfl) (fun h_ H_ => exd_pick_t rfl (decide_eq_true ⟨rfl, rfl⟩) (v := .bool (decide ((lackR size start ds k).2 = (lackR size start ds k).2))) rfl) (tm' := [_,_,_,_,_,_,_,_,_,_,_,_,_,_,_,_,_,_,_,_,_,_,_,_,_,_,_,_,_,_,_,_,_,_,_,_,_,_,_,_,_,_,_,_,_,_,_,_,_,_,_,_,_,_,_,_,_,_,_,_,_,_,_,_,_,_,_,_,_,_,_,_,_,_,_,_,_,_,_,_,_,_,_,_,_,_,_,_,_,_,_,_,_,_,_]) rfl ?_
    refine rl_det (met_none rfl) (fun h_ H_ => exd_move (v := .bool (decide ((lackR size start ds k).2 = (lackR size start ds k).2))) rfl) rfl ?_
    refine rl_det (met_some rfl rfl (decide_eq_true rfl)) (fun h_ H_ => exd_loadN_own H_ tA36 tS36 rfl (i := 1) rfl (vs := [.int .i64 ((overR size start ds k).1.1), .int .i64 ((overR size start ds k).1.2)]) rfl rfl) rfl ?_
    refine rl_det (met_some rfl rfl (decide_eq_true rfl)) (fun h_ H_ => exd_loadN_own H_ tA36 tS36 rfl (i := 0) rfl (vs := [.int .i64 ((overR size start ds k).1.1), .int .i64 ((overR size start ds k).1.2)]) rfl rfl) (tm' := [_,_,_,_,_,_,_,_,_,_,_,_,_,_,_,_,_,_,_,_,_,_,_,_,_,_,_,_,_,_,_,_,_,_,_,_,_,_,_,_,_,_,_,_,_,_,_,_,_,_,_,_,_,_,_,_,_,_,_,_,_,_,_,_,_,_,_,_,_,_,_,_,_,_,_,_,_,_,_,_,_,_,_,_,_,_,_,_,_,_,_,_,_,_,_]) rfl ?_
    refine rl_det (met_some rfl rfl (decide_eq_true rfl)) (fun h_ H_ => exd_eqAgg gT36 (spanEq 9998 _ _ _ _) rfl rfl) rfl ?_
    refine rl_det (met_none rfl) (fun h_ H_ => exd_pick_t rfl (decide_eq_true rfl) (v := .bool (decide ((overR size start ds k).1.1 = (overR size start ds k).1.1 ∧ (overR size start ds k).1.2 = (overR size start ds k).1.2))) rfl) rfl ?_
    refine rl_det (met_none rfl) (fun h_ H_ => exd_move (v := .bool (decide ((overR size start ds k).1.1 = (overR size start ds k).1.1 ∧ (overR size start ds k).1.2 = (overR size start ds k).1.2))) rfl) (tm' := [_,_,_,_,_,_,_,_,_,_,_,_,_,_,_,_,_,_,_,_,_,_,_,_,_,_,_,_,_,_,_,_,_,_,_,_,_,_,_,_,_,_,_,_,_,_,_,_,_,_,_,_,_,_,_,_,_,_,_,_,_,_,_,_,_,_,_,_,_,_,_,_,_,_,_,_,_,_,_,_,_,_,_,_,_,_,_,_,_,_,_,_,_,_,_]) rfl ?_
    refine rl_det (met_some rfl rfl (decide_eq_true ⟨rfl, rfl⟩)) (fun h_ H_ => exd_move (v := .int .i64 ((overR size start ds k).2)) rfl) rfl ?_
    refine rl_det (met_some rfl rfl (decide_eq_true ⟨rfl, rfl⟩)) (fun h_ H_ => exd_move (v := .int .i64 ((overR size start ds k).2)) rfl) rfl ?_
    refine rl_det (met_some rfl rfl (decide_eq_true ⟨rfl, rfl⟩)) (fun h_ H_ => exd_eql rfl rfl) (tm' := [_,_,_,_,_,_,_,_,_,_,_,_,_,_,_,_,_,_,_,_,_,_,_,_,_,_,_,_,_,_,_,_,_,_,_,_,_,_,_,_,_,_,_,_,_,_,_,_,_,_,_,_,_,_,_,_,_,_,_,_,_,_,_,_,_,_,_,_,_,_,_,_,_,_,_,_,_,_,_,_,_,_,_,_,_,_,_,_,_,_,_,_,_,_,_]) rfl ?_
    refine rl_det (met_none rfl) (fun h_ H_ => exd_pick_t rfl (decide_eq_true ⟨rfl, rfl⟩) (v := .bool (decide ((overR size start ds k).2 = (overR size start ds k).2))) rfl) rfl ?_
    refine rl_det (met_none rfl) (fun h_ H_ => exd_move (v := .bool (decide ((overR size start ds k).2 = (overR size start ds k).2))) rfl) rfl ?_
    refine rl_det (met_some rfl rfl (decide_eq_true rfl)) (fun h_ H_ => exd_loadN_own H_ tA24 tS24 rfl (i := 6) rfl (vs := [.int .i64 (size), .int .i64 (start), .slice a8 n cp9]) rfl rfl) (tm' := [_,_,_,_,_,_,_,_,_,_,_,_,_,_,_,_,_,_,_,_,_,_,_,_,_,_,_,_,_,_,_,_,_,_,_,_,_,_,_,_,_,_,_,_,_,_,_,_,_,_,_,_,_,_,_,_,_,_,_,_,_,_,_,_,_,_,_,_,_,_,_,_,_,_,_,_,_,_,_,_,_,_,_,_,_,_,_,_,_,_,_,_,_,_,_]) rfl ?_
    refine rl_det (met_some rfl rfl (decide_eq_true rfl)) (fun h_ H_ => exd_loadN_own H_ tA24 tS24 rfl (i := 7) rfl (vs := [.int .i64 (size), .int .i64 (start), .slice a n c]) rfl rfl) rfl ?_
    refine rl_calld (met_some rfl rfl (decide_eq_true rfl)) (first := []) (cap := []) rfl rfl fC37 (fun h_ H_ => c37 (.main true) _ _ (fun b_ o_ e_ => H_.per b_ o_ e_) size start _ _ _ _ (show Days _ _ _ ds from D11) size start _ _ _ _ (D.mono le10) (by omega)) rfl ?_
    refine rl_det (met_none rfl) (fun h_ H_ => exd_pick_t rfl (decide_eq_true rfl) (v := .bool (decide (size = size ∧ start = start ∧ ds = ds))) rfl) (tm' := [_,_,_,_,_,_,_,_,_,_,_,_,_,_,_,_,_,_,_,_,_,_,_,_,_,_,_,_,_,_,_,_,_,_,_,_,_,_,_,_,_,_,_,_,_,_,_,_,_,_,_,_,_,_,_,_,_,_,_,_,_,_,_,_,_,_,_,_,_,_,_,_,_,_,_,_,_,_,_,_,_,_,_,_,_,_,_,_,_,_,_,_,_,_,_]) rfl ?_
    refine rl_det (met_none rfl) (fun h_ H_ => exd_move (v := .bool (decide (size = size ∧ start = start ∧ ds = ds))) rfl) rfl ?_
    refine rl_calld (met_some rfl rfl (decide_eq_true ⟨rfl, rfl, rfl⟩)) (first := []) (cap := []) rfl rfl fC18 (fun h_ H_ => c18 _) rfl ?_
    refine rl_det (met_none rfl) (fun h_ H_ => exd_pick_t rfl (decide_eq_true ⟨rfl, rfl, rfl⟩) (v := .bool (true)) rfl) (tm' := [_,_,_,_,_,_,_,_,_,_,_,_,_,_,_,_,_,_,_,_,_,_,_,_,_,_,_,_,_,_,_,_,_,_,_,_,_,_,_,_,_,_,_,_,_,_,_,_,_,_,_,_,_,_,_,_,_,_,_,_,_,_,_,_,_,_,_,_,_,_,_,_,_,_,_,_,_,_,_,_,_,_,_,_,_,_,_,_,_,_,_,_,_,_,_]) rfl ?_
    refine rl_det (met_none rfl) (fun h_ H_ => exd_assign (v := .bool (true)) rfl) rfl ?_
    refine rl_end ?_
    refine fl_retE (by kernel_rfl) Try.func10 rfl (vs := [.bool (true)]) (fun h_ H_ => ⟨.bool (true), _, rfl, rfl, rfl⟩) (v := .bool (true)) rfl ?_
    exact fun h_ H_ => K _ _ ⟨rfl, H_.kept⟩
end Go.Proofs.Ytbmkacnlhlbnjaa
namespace Go.Proofs.Ytbmkacnlhlbnjaa
open Go.X Go.X.Cist Go.Conc Go.RowKit Go.ChangeShapes Go.WideShapes Go.ChangeAt Go.Joins
set_option maxRecDepth 100000

theorem lifted10 (os : Os) (started : os.Started) (H : Type) (enc : TypeId × Value → H) :
    ReturnsInLeavingWide {} Try.checked os 10 .any (Rows.cisternsLevelSpec.pre6 enc Try.prog Try.f10 Rows.cisternsLevelRow.domain false) (Rows.cisternsLevelSpec.post enc Try.prog Try.f10 false true false false) := by
  refine returnsInLeavingWide_of_change_sized (C := Try.checked) pOwn started Try.func10
    (ChangeSpec.witness6 (enc := enc) (C := Try.checked) false ⟨#[], #[.agg #[.int .i64 0, .int .i64 0, .slice none 0 0], .int .i64 0], []⟩ 8 (by kernel_rfl) (by kernel_rfl) (by kernel_rfl) (by kernel_rfl)) ?_
  intro W base args ds gs before hval0 hW _ _ _
  have hval : ∀ (j : Nat) t v, Try.f10.params[j]? = some t → args[j]? = some v → Value.okWide Try.prog W .any base t v := hval0
  have hW2 := hW
  obtain ⟨p, q, hA0, hV, rfl, _, _⟩ := hW2
  have hA : DataW.TrodAll enc Try.prog W 0 (fun _ => true) true Try.f10.params.toList args.toList ds p := hA0
  rw [Try.params10] at hA hval
  obtain ⟨v0, v1, d0, d1, p0, p1, rfl, rfl, _, h0, h1⟩ := trodAll_two hA
  obtain ⟨rfl, rfl⟩ := trodVars_none hV
  obtain ⟨size, start, a, n, c, ds, rfl, D⟩ := open_year (hval 0 24 v0 rfl rfl) h0
  obtain ⟨k, rfl, hk⟩ := open_num (hval 1 3 v1 rfl rfl) h1
  obtain ⟨N, last, o, w2, t2, r1, r2, r3, r4⟩ := good_of_enters (w := W) (e10 (nilV W.heap) (vwP W) (vwP_per W) size start a n c ds D k hk) fun v h2 r => r.2
  refine ⟨N, last, o, w2, t2, r1, r2, r3, r4.mono fun v ⟨hB, h2, e, _⟩ => ?_⟩
  subst e
  exact law_post pLaid rfl (fun t ht => by rw [Try.params10] at ht; revert t; decide +kernel) rfl Try.underlying4 hW rfl hB

theorem cisternsLevelHolds : Rows.CisternsLevelSaid :=
  OpenClaim.holds_of_wide_leaving 10 Try.f10 rfl rfl rfl rfl rfl rfl rfl ⟨rfl, rfl, rfl, rfl, rfl⟩ rfl rfl rfl rfl rfl (by kernel_rfl) Try.func10 (by kernel_rfl)
    (of_decide_eq_true (by kernel_rfl)) (by unfold Func.isWrapper; rw [if_neg (of_decide_eq_false (by kernel_rfl))]; exact ⟨rfl, rfl⟩)
    (fun os started H enc _ => lifted10 os started H enc)

#print axioms cisternsLevelHolds
end Go.Proofs.Ytbmkacnlhlbnjaa
