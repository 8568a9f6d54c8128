/-
  Part of proofs about the century: a lone run, and what it computes. No condition.
-/
import Derived.Test.YtiinpnlfdeiloaaDoorD2
import Derived.Test.YtiinpnlfdeiloaaDoorD1
namespace Go.Proofs.YtiinpnlfdeiloaaDoor
open Go.X Go.X.Cent Go.Conc
set_option maxRecDepth 10000
set_option synthInstance.maxSize 2000
set_option synthInstance.maxHeartbeats 400000

theorem c59 (h : Heap) (p : PHeap) (hp : Per p h) (a : Option Addr) (n c : Nat) (ts : List By) (T : Strs p a n ts) (hn : n ≤ 2 ^ 60) (ht : ∀ i, i < n → (ts.getD i []).length ≤ 2 ^ 60) : CallsX Tryd.prog .lone 59 #[.slice a n c] h fun v h' => ∃ w X, v = .tuple #[w, .int .i64 (chkT ts)] ∧ (chkT ts = 0 → OwnS 60 2 w (pies (encS [[]] (wholeB ts))) X) ∧ (chkT ts ≠ 0 → w = .slice none 0 0 ∧ X = []) ∧ New h h' X := by
  refine calls_intro (Φ := fun h_ => St h [] p h_ []) Tryd.func59 rfl (tm := [_, _, _, _, _, _, _, _, _, _, _, _, _, _]) rfl ?_ (St.start h _ hp)
  intro c₀ cs Stop K
  refine fl_seq ?_
  refine rl_start ?_
  refine rl_det (met_none rfl) (fun h_ H_ => exd_assign (v := .slice none 0 0) rfl) rfl ?_
  refine rl_det (met_none rfl) (fun h_ H_ => exd_assign (v := .int .i64 0) rfl) rfl ?_
  refine rl_end ?_
  refine fl_seq ?_
  refine fl_seq ?_
  refine rl_start ?_
  refine rl_det (met_none rfl) (fun h_ H_ => exd_move (v := .slice a n c) rfl) (tm' := _::_::_::_::_::_::_) rfl ?_
  refine rl_calld (met_none rfl) (first := []) (cap := []) rfl rfl fC57 (fun h_ H_ => c57 _ _ (fun b_ o_ e_ => H_.per b_ o_ e_) a n _ _ T (by omega) (fun i_ h_ => ht i_ h_)) rfl ?_
  refine rl_det (met_none rfl) (fun h_ H_ => exd_assign (v := .int .i64 (chkT ts)) rfl) rfl ?_
  refine rl_end ?_
  refine fl_seq ?_
  refine rl_start ?_
  refine rl_det (met_none rfl) (fun h_ H_ => exd_move (v := .int .i64 (chkT ts)) rfl) (tm' := _::_::_::_::_::_::_::_::_) rfl ?_
  refine rl_det (met_none rfl) (fun h_ H_ => exd_neq rfl rfl) rfl ?_
  refine rl_end ?_
  by_cases cc1 : chkT ts ≠ 0
  · refine fl_then rfl (decide_eq_true cc1) ?_
    refine fl_seq ?_
    refine rl_start ?_
    refine rl_det (met_none rfl) (fun h_ H_ => exd_move (v := .int .i64 (chkT ts)) rfl) rfl ?_
    refine rl_det (met_none rfl) (fun h_ H_ => exd_assign (v := .slice none 0 0) rfl) (tm' := _::_::_::_) rfl ?_
    refine rl_det (met_none rfl) (fun h_ H_ => exd_assign (v := .int .i64 (chkT ts)) rfl) rfl ?_
    refine rl_end ?_
    refine fl_ret Tryd.func59 rfl (vs := [.slice none 0 0, .int .i64 (chkT ts)]) (fun h_ H_ => ⟨.slice none 0 0, _, rfl, rfl, ⟨.int .i64 (chkT ts), _, rfl, rfl, rfl⟩⟩) (v := .tuple #[.slice none 0 0, .int .i64 (chkT ts)]) rfl ?_
    exact fun h_ H_ => K _ _ ⟨.slice none 0 0, [], rfl, fun e_ => absurd e_ ‹_›, fun _ => ⟨rfl, rfl⟩, (H_.sub (List.nil_sublist _)).new⟩
  · refine fl_else rfl (decide_eq_false cc1) ?_
    refine fl_skip ?_
    refine fl_seq ?_
    have hk0 : chkT ts = 0 := Decidable.not_not.1 ‹_›
    have hl := T.len
    have hg := chk_good hk0
    have hw200 : ∀ t ∈ ts, t.length ≤ 200 := fun t z => by have := (hg.2 t z).1; omega
    have hws : (wholeB ts).length ≤ 2 ^ 30 := by have := whole_len hg.1 (fun t z => (hg.2 t z).1); omega
    refine rl_start ?_
    refine rl_det (met_none rfl) (fun h_ H_ => exd_move (v := .slice a n c) rfl) rfl ?_
    refine rl_calld (met_none rfl) (first := []) (cap := []) rfl rfl fC63 (fun h_ H_ => c63 _ _ (fun b_ o_ e_ => H_.per b_ o_ e_) a n _ _ T (by omega) hw200) (tm' := [_,_,_,_,_,_,_,_,_,_,_,_,_,_]) rfl ?_
    refine rl_call (met_none rfl) (first := []) (cap := []) rfl rfl fC77 (R := fun v_ h_ => ∃ bs2 : Nat, v_ = .func (.func 94) #[] #[.pointer (some ⟨bs2, 0, none⟩)] ∧ St h [] p h_ ([(bs2, .cells #[sv (wholeB ts)] 9 (0, 0))])) (fun h_ H_ => (c77 .lone _ (wholeB ts)).mono fun v_ h2_ ⟨bs2, e_, N_⟩ => ⟨bs2, e_, H_.callN N_⟩) fun v_ => ?_
    refine rl_ex fun bs2 => rl_and fun ev_ => ?_
    have ev_ := ev_.symm; subst ev_
    refine rl_own (L' := ([(bs2, .cells #[sv (wholeB ts)] 9 (0, 0))] : Pcs) ++ ([] ++ [])) rfl ?_
    refine rl_call (met_none rfl) (first := []) (cap := []) rfl rfl fC80 (fun h_ H_ => c80 .lone _ _ _ _ bs2 (wholeB ts) ([]) hws H_) ?_
    refine fun v_ => rl_ex fun w3 => rl_ex fun X4 => rl_and fun ev_ => rl_and fun o5 => ?_
    have ev_ := ev_.symm; subst ev_
    refine rl_own (L' := ([] : Pcs) ++ (X4 ++ [])) rfl ?_
    refine rl_det (met_none rfl) (fun h_ H_ => exd_assign (v := w3) rfl) (tm' := _::_::_::_) rfl ?_
    refine rl_det (met_none rfl) (fun h_ H_ => exd_assign (v := .int .i64 0) rfl) rfl ?_
    refine rl_end ?_
    refine fl_ret Tryd.func59 rfl (vs := [w3, .int .i64 0]) (fun h_ H_ => ⟨w3, _, rfl, rfl, ⟨.int .i64 0, _, rfl, rfl, rfl⟩⟩) (v := .tuple #[w3, .int .i64 0]) rfl ?_
    exact fun h_ H_ => K _ _ ⟨_, _, by rw [hk0], fun _ => o5, fun e_ => absurd hk0 e_, (by simpa using H_.dropA.new)⟩
theorem c58 (h : Heap) (p : PHeap) (hp : Per p h) (htab : Tab h) (a : Option Addr) (n c : Nat) (ts : List By) (T : Strs p a n ts) (hn : n ≤ 20) (ht : ∀ t ∈ ts, t.length ≤ 40) : CallsX Tryd.prog .lone 58 #[.slice a n c] h fun v h' => v = sv (fileB ts) ∧ Keep h h' := by
  refine calls_intro (Φ := fun h_ => St h [] p h_ []) Tryd.func58 rfl (tm := [_, _, _, _, _, _, _, _, _, _, _, _, _, _, _, _, _, _, _, _, _, _, _, _, _, _, _, _, _, _, _, _, _, _]) rfl ?_ (St.start h _ hp)
  intro c₀ cs Stop K
  have hl := T.len
  have hws := whole_len (ts := ts) (by omega) ht
  have hw200 : ∀ t ∈ ts, t.length ≤ 200 := fun t z => by have := ht t z; omega
  refine fl_seq ?_
  refine rl_start ?_
  refine rl_det (met_none rfl) (fun h_ H_ => exd_assign (v := sv ([] : List UInt8)) rfl) rfl ?_
  refine rl_end ?_
  refine fl_seq ?_
  refine rl_start ?_
  refine rl_alloc (met_none rfl) tZ83 rfl fun b1 => rl_own (L' := [(b1, .cells #[.pointer none, .slice none 0 0] 83 (0, 0))]) rfl ?_
  refine rl_norm (tm' := _::_::_::_::_) rfl ?_
  refine rl_end ?_
  refine fl_seq ?_
  refine fl_seq ?_
  refine rl_start ?_
  refine rl_det (met_none rfl) (fun h_ H_ => exd_move (v := .slice a n c) rfl) rfl ?_
  refine rl_calld (met_none rfl) (first := []) (cap := []) rfl rfl fC63 (fun h_ H_ => c63 _ _ (fun b_ o_ e_ => H_.per b_ o_ e_) a n _ _ T (by omega) hw200) rfl ?_
  refine rl_call (met_none rfl) (first := []) (cap := []) rfl rfl fC77 (R := fun v_ h_ => ∃ bs2 : Nat, v_ = .func (.func 94) #[] #[.pointer (some ⟨bs2, 0, none⟩)] ∧ St h [] p h_ ([(bs2, .cells #[sv (wholeB ts)] 9 (0, 0)), (b1, .cells #[.pointer none, .slice none 0 0] 83 (0, 0))])) (fun h_ H_ => (c77 .lone _ (wholeB ts)).mono fun v_ h2_ ⟨bs2, e_, N_⟩ => ⟨bs2, e_, H_.callN N_⟩) fun v_ => ?_
  refine rl_ex fun bs2 => rl_and fun ev_ => ?_
  have ev_ := ev_.symm; subst ev_
  refine rl_norm (tm' := _::_::_::_::_::_::_::_::_) rfl ?_
  refine rl_end ?_
  refine fl_block ?_
  refine fl_range (R := fun r_ l_ lp_ _ h_ => ∃ X_, (∃ X : Pcs, X_ = ([(l_, .loop lp_), (r_, .deferred (some []))] : Pcs) ++ (X ++ []) ∧ (Bld b1 (filP (encS [[]] (wholeB ts))) X)) ∧ St h [] p h_ X_) ?_ ?_
  · intro r_ l_ lp_ h_ hlp_ s_
    show CallV _ .lone (.func (.func 94) ([] : List Value).toArray ([.pointer (some ⟨bs2, 0, none⟩)] : List Value).toArray) _ h_ _
    refine callv_of fC94 ?_
    refine c94 _ _ _ _ _ (.func (.yield l_) #[] #[]) bs2 (wholeB ts) (encS [[]] (wholeB ts)) _ (by omega) (fun rd_ X_ => ∃ X : Pcs, X_ = ([(l_, .loop lp_), (r_, .deferred (some []))] : Pcs) ++ (X ++ []) ∧ (Bld b1 (filP rd_) X)) rfl ⟨_, rfl, (Bld.new _)⟩ ?_ (St.lend s_ (i := 2) rfl rfl)
    intro rd_ x_ h_ Z_ X_ hi_ hI_ s_
    obtain ⟨X, rfl, B⟩ := hI_
    refine callv_round (Φ := fun h_ => St h [] p h_ (([(l_, .loop lp_), (r_, .deferred (some []))] : Pcs) ++ (X ++ (Z_ ++ [])))) (s_.rot.at (i := 0) rfl) hlp_ rfl (tm' := [.slice a n c, undef, sv ([] : List UInt8), .pointer (some ⟨b1, 0, none⟩), undef, .slice a n c, sv (wholeB ts), .func (.func 94) #[] #[.pointer (some ⟨bs2, 0, none⟩)], .agg #[.int .i64 (x_.1), .int .i64 (x_.2)], undef, undef, undef, undef, undef, undef, undef, undef, undef, undef, undef, undef, undef, undef, undef, undef, undef, undef, undef, undef, undef, undef, undef, undef, undef]) rfl ?_ (by simpa using s_.rot)
    intro c₁ cs₁ Stop₁ K₁
    have hi2 := pre_len hi_
    have hi3 := encS_len (ph := [[]]) (s := wholeB ts)
    have hi4 := encS_mem (pre_mem hi_)
    have hi5 := filP_len rd_
    refine rl_start ?_
    refine rl_alloc (met_none rfl) tZ60 rfl fun b3 => rl_own (L' := ([(b3, .cells #[.int .i64 0, .int .i64 0] 60 (0, 0)), (l_, .loop lp_), (r_, .deferred (some []))] : Pcs) ++ (X ++ (Z_ ++ []))) rfl ?_
    refine rl_store (met_none rfl) tS60 rfl (v := .agg #[.int .i64 (x_.1), .int .i64 (x_.2)]) rfl (i := 0) rfl rfl rfl (Nat.le_of_ble_eq_true rfl) (cs2 := [.int .i64 (x_.1), .int .i64 (x_.2)]) rfl (rl_own (L' := ([(b3, .cells #[.int .i64 (x_.1), .int .i64 (x_.2)] 60 (0, 0)), (l_, .loop lp_), (r_, .deferred (some []))] : Pcs) ++ (X ++ (Z_ ++ []))) rfl ?_)
    refine rl_end ?_
    refine fl_begin (i := 1) rfl (by rw [hlp_]; rfl) ?_
    refine rs_own (L' := ([(b3, .cells #[.int .i64 (x_.1), .int .i64 (x_.2)] 60 (0, 0)), (l_, .loop { lp_ with state := .busy }), (r_, .deferred (some []))] : Pcs) ++ (X ++ (Z_ ++ []))) rfl ?_
    refine fl_block ?_
    refine fl_seq ?_
    refine rl_start ?_
    refine rl_det (met_none rfl) (fun h_ H_ => exd_fieldAddr tF60_0 rfl (a' := ⟨b3, 0, none⟩) rfl) rfl ?_
    refine rl_det (met_none rfl) (fun h_ H_ => exd_load_own H_ tA3 rfl (i := 0) rfl (v := .int .i64 (x_.1)) rfl) (tm' := _::_::_::_::_::_::_::_::_::_::_::_) rfl ?_
    refine rl_det (met_none rfl) (fun h_ H_ => exd_quo rfl rfl (by decide) (n := x_.1 / 26) ((congrArg _ (Int.tdiv_eq_ediv_of_nonneg (by omega))).trans (wr (by omega)))) rfl ?_
    refine rl_det (met_none rfl) (fun h_ H_ => exd_conv ⟨_, Tryd.underlying3⟩ Tryd.underlying5 rfl (n := x_.1 / 26) (wr8 (by omega))) rfl ?_
    refine rl_det (met_none rfl) (fun h_ H_ => exd_add rfl rfl (wr8 (by omega))) (tm' := _::_::_::_::_::_::_::_::_::_::_::_::_::_::_) rfl ?_
    refine rl_call (met_none rfl) (first := []) (cap := []) rfl rfl fC78 (fun h_ H_ => bld_byteI B H_ (by first | omega | (simp only [List.length_append, List.length_singleton]; omega)) (65 + (x_.1 / 26)) (by omega) (by omega)) ?_
    refine fun v_ => rl_and fun ev_ => rl_ex fun X4 => rl_and fun B5 => ?_
    subst ev_
    refine rl_end ?_
    refine fl_seq ?_
    refine rl_start ?_
    refine rl_det (met_none rfl) (fun h_ H_ => exd_fieldAddr tF60_0 rfl (a' := ⟨b3, 0, none⟩) rfl) rfl ?_
    refine rl_det (met_none rfl) (fun h_ H_ => exd_load_own H_ tA3 rfl (i := 0) rfl (v := .int .i64 (x_.1)) rfl) (tm' := _::_::_::_::_::_::_::_::_::_::_::_::_::_::_::_::_::_) rfl ?_
    refine rl_det (met_none rfl) (fun h_ H_ => exd_rem rfl rfl (by decide) (n := x_.1 % 26) (Int.tmod_eq_emod_of_nonneg (by omega))) rfl ?_
    refine rl_det (met_none rfl) (fun h_ H_ => exd_conv ⟨_, Tryd.underlying3⟩ Tryd.underlying5 rfl (n := x_.1 % 26) (wr8 (by omega))) rfl ?_
    refine rl_det (met_none rfl) (fun h_ H_ => exd_add rfl rfl (wr8 (by omega))) (tm' := _::_::_::_::_::_::_::_::_::_::_::_::_::_::_::_::_::_::_::_::_) rfl ?_
    refine rl_call (met_none rfl) (first := []) (cap := []) rfl rfl fC78 (fun h_ H_ => bld_byteI B5 H_ (by first | omega | (simp only [List.length_append, List.length_singleton]; omega)) (65 + (x_.1 % 26)) (by omega) (by omega)) ?_
    refine fun v_ => rl_and fun ev_ => rl_ex fun X6 => rl_and fun B7 => ?_
    subst ev_
    refine rl_end ?_
    refine fl_seq ?_
    refine rl_start ?_
    refine rl_det (met_none rfl) (fun h_ H_ => exd_fieldAddr tF60_1 rfl (a' := ⟨b3, 1, none⟩) rfl) rfl ?_
    refine rl_det (met_none rfl) (fun h_ H_ => exd_load_own H_ tA3 rfl (i := 0) rfl (v := .int .i64 (x_.2)) rfl) (tm' := [_,_,_,_,_,_,_,_,_,_,_,_,_,_,_,_,_,_,_,_,_,_,_,_,_,_,_,_,_,_,_,_,_,_]) rfl ?_
    refine rl_end ?_
    refine fl_block ?_
    refine fl_seq ?_
    refine rl_start ?_
    refine rl_det (met_none rfl) (fun h_ H_ => exd_eql rfl rfl) rfl ?_
    refine rl_det (met_none rfl) (fun h_ H_ => exd_assign (v := .bool (decide (x_.2 = (-1)))) rfl) rfl ?_
    refine rl_end ?_
    by_cases cc8 : x_.2 = (-1)
    · refine fl_then rfl (decide_eq_true cc8) ?_
      refine fl_skip ?_
      refine fl_inBlock ?_
      refine fl_inBlock ?_
      refine fl_rend (i := 1) rfl (lp' := lp_) (by rw [hlp_]; rfl) ?_
      refine rs_own (L' := ([(b3, .cells #[.int .i64 (x_.1), .int .i64 (x_.2)] 60 (0, 0)), (l_, .loop lp_), (r_, .deferred (some []))] : Pcs) ++ (X6 ++ (Z_ ++ []))) rfl ?_
      exact fun h_ H_ => K₁ _ _ ⟨([(l_, .loop lp_), (r_, .deferred (some []))] : Pcs) ++ (X6 ++ []), rfl, ⟨X6, rfl, (B7.as (by first | exact fil_none ‹_› | exact fil_feed ‹_› | exact fil_byte ‹_› ‹_›))⟩, St.rot' (by simpa using (H_.drop))⟩
    · refine fl_else rfl (decide_eq_false cc8) ?_
      refine fl_seq ?_
      refine rl_start ?_
      refine rl_det (met_none rfl) (fun h_ H_ => exd_eql rfl rfl) (tm' := [_,_,_,_,_,_,_,_,_,_,_,_,_,_,_,_,_,_,_,_,_,_,_,_,_,_,_,_,_,_,_,_,_,_]) rfl ?_
      refine rl_det (met_none rfl) (fun h_ H_ => exd_assign (v := .bool (decide (x_.2 = 10))) rfl) rfl ?_
      refine rl_end ?_
      by_cases cc9 : x_.2 = 10
      · refine fl_then rfl (decide_eq_true cc9) ?_
        refine rl_start ?_
        refine rl_call (met_none rfl) (first := []) (cap := []) rfl rfl fC78 (fun h_ H_ => bld_byte B7 H_ (by first | omega | (simp only [List.length_append, List.length_singleton]; omega)) 126) ?_
        refine fun v_ => rl_and fun ev_ => rl_ex fun X10 => rl_and fun B11 => ?_
        subst ev_
        refine rl_end ?_
        refine fl_inBlock ?_
        refine fl_inBlock ?_
        refine fl_rend (i := 1) rfl (lp' := lp_) (by rw [hlp_]; rfl) ?_
        refine rs_own (L' := ([(b3, .cells #[.int .i64 (x_.1), .int .i64 (x_.2)] 60 (0, 0)), (l_, .loop lp_), (r_, .deferred (some []))] : Pcs) ++ (X10 ++ (Z_ ++ []))) rfl ?_
        exact fun h_ H_ => K₁ _ _ ⟨([(l_, .loop lp_), (r_, .deferred (some []))] : Pcs) ++ (X10 ++ []), rfl, ⟨X10, rfl, (B11.as (by first | exact fil_none ‹_› | exact fil_feed ‹_› | exact fil_byte ‹_› ‹_›))⟩, St.rot' (by simpa using (H_.drop))⟩
      · refine fl_else rfl (decide_eq_false cc9) ?_
        refine rl_start ?_
        refine rl_det (met_none rfl) (fun h_ H_ => exd_fieldAddr tF60_1 rfl (a' := ⟨b3, 1, none⟩) rfl) (tm' := [_,_,_,_,_,_,_,_,_,_,_,_,_,_,_,_,_,_,_,_,_,_,_,_,_,_,_,_,_,_,_,_,_,_]) rfl ?_
        refine rl_det (met_none rfl) (fun h_ H_ => exd_load_own H_ tA3 rfl (i := 0) rfl (v := .int .i64 (x_.2)) rfl) rfl ?_
        refine rl_det (met_none rfl) (fun h_ H_ => exd_conv ⟨_, Tryd.underlying3⟩ Tryd.underlying5 rfl (n := x_.2) (wr8 (by omega))) rfl ?_
        refine rl_call (met_none rfl) (first := []) (cap := []) rfl rfl fC78 (fun h_ H_ => bld_byteI B7 H_ (by first | omega | (simp only [List.length_append, List.length_singleton]; omega)) (x_.2) (by omega) (by omega)) ?_
        refine fun v_ => rl_and fun ev_ => rl_ex fun X12 => rl_and fun B13 => ?_
        subst ev_
        refine rl_norm (tm' := [_,_,_,_,_,_,_,_,_,_,_,_,_,_,_,_,_,_,_,_,_,_,_,_,_,_,_,_,_,_,_,_,_,_]) rfl ?_
        refine rl_end ?_
        refine fl_inBlock ?_
        refine fl_inBlock ?_
        refine fl_rend (i := 1) rfl (lp' := lp_) (by rw [hlp_]; rfl) ?_
        refine rs_own (L' := ([(b3, .cells #[.int .i64 (x_.1), .int .i64 (x_.2)] 60 (0, 0)), (l_, .loop lp_), (r_, .deferred (some []))] : Pcs) ++ (X12 ++ (Z_ ++ []))) rfl ?_
        exact fun h_ H_ => K₁ _ _ ⟨([(l_, .loop lp_), (r_, .deferred (some []))] : Pcs) ++ (X12 ++ []), rfl, ⟨X12, rfl, (B13.as (by first | exact fil_none ‹_› | exact fil_feed ‹_› | exact fil_byte ‹_› ‹_›))⟩, St.rot' (by simpa using (H_.drop))⟩
  · intro r_ l_ lp_ v_ hlp_
    refine rs_ex fun X_ => rs_and fun hIJ_ => ?_
    obtain ⟨X, rfl, B⟩ := hIJ_
    · refine fl_endNone (i := 0) rfl (by rw [hlp_]; simp [loopOf]) (by rw [hlp_]; rfl) ?_
      refine rs_own (L' := ([(l_, .loop { lp_ with state := .exhausted }), (r_, .deferred (some []))] : Pcs) ++ (X ++ [])) rfl ?_
      have hi3 := encS_len (ph := [[]]) (s := wholeB ts)
      have hi5 := filP_len (encS [[]] (wholeB ts))
      refine fl_inBlock ?_
      refine fl_seq ?_
      refine rl_start ?_
      refine rl_call (met_none rfl) (first := []) (cap := []) rfl rfl fC79 (fun h_ H_ => c79k B hp (fun x hx c z e => by simp at hx; rcases hx with rfl | rfl <;> cases e) (H_.perm (List.perm_append_comm_assoc _ _ _))) ?_
      refine fun v_ => rl_and fun ev_ => ?_
      subst ev_
      refine rl_own (L' := [(l_, .loop { lp_ with state := .exhausted }), (r_, .deferred (some []))]) rfl ?_
      refine rl_calld (met_none rfl) (first := []) (cap := []) rfl rfl fC53 (fun h_ H_ => c53 _ (htab.keep H_.kept) (filP (encS [[]] (wholeB ts))) (by omega)) rfl ?_
      refine rl_det (met_none rfl) (fun h_ H_ => exd_assign (v := sv (sealB (filP (encS [[]] (wholeB ts))))) rfl) (tm' := _::_::_::_) rfl ?_
      refine rl_end ?_
      refine fl_retD (i := 1) Tryd.func58 rfl rfl (vs := [sv (sealB (filP (encS [[]] (wholeB ts))))]) (fun h_ H_ => ⟨sv (sealB (filP (encS [[]] (wholeB ts)))), _, rfl, rfl, rfl⟩) (v := sv (sealB (filP (encS [[]] (wholeB ts))))) rfl ?_
      refine rs_own (L' := [(l_, .loop { lp_ with state := .exhausted }), (r_, .deferred none)]) rfl ?_
      exact fun h_ H_ => K _ _ ⟨rfl, H_.kept⟩
end Go.Proofs.YtiinpnlfdeiloaaDoor
namespace Go.Proofs.YtiinpnlfdeiloaaDoor
open Go.X Go.X.Cent Go.Conc
set_option maxRecDepth 10000
set_option synthInstance.maxSize 2000
set_option synthInstance.maxHeartbeats 400000

theorem c54 (md : Md) (h : Heap) (p : PHeap) (hp : Per p h) (a : Option Addr) (n c : Nat) (xs : List Pie) (D : Pies p a n xs) (hn : n ≤ 1000) (hx : ∀ x ∈ xs, 0 ≤ x.1 ∧ -1 ≤ x.2 ∧ x.2 ≤ 255) : CallsX Tryd.prog md 54 #[.slice a n c] h fun v h' => ∃ w X, v = .tuple #[sv ((rdTo [] xs).getD []).flatten, w, .bool (rdTo [] xs).isSome] ∧ OwnS 9 1 w (scs ((rdTo [] xs).getD [])) X ∧ New h h' X := by
  refine calls_intro (Φ := fun h_ => St h [] p h_ []) Tryd.func54 rfl (tm := [_, _, _, _, _, _, _, _, _, _, _, _, _, _, _, _, _, _, _, _, _, _, _, _, _, _, _, _, _, _, _, _, _, _, _, _, _, _, _, _, _, _, _, _, _, _, _, _, _, _, _, _]) rfl ?_ (St.start h _ hp)
  intro c₀ cs Stop K
  have hl := D.len
  refine fl_seq ?_
  refine rl_start ?_
  refine rl_det (met_none rfl) (fun h_ H_ => exd_assign (v := sv ([] : List UInt8)) rfl) rfl ?_
  refine rl_det (met_none rfl) (fun h_ H_ => exd_assign (v := .slice none 0 0) rfl) rfl ?_
  refine rl_det (met_none rfl) (fun h_ H_ => exd_assign (v := .bool (false)) rfl) (tm' := _::_::_::_::_::_) rfl ?_
  refine rl_end ?_
  refine fl_seq ?_
  refine rl_start ?_
  refine rl_own (L' := ([] : Pcs) ++ []) rfl ?_
  refine rl_buildO ([] : Pcs) (met_none rfl) Tryd.underlying22 tS9 tZ9 (Nat.le_of_ble_eq_true rfl) (vs := [(0, sv ([] : List UInt8))]) rfl rfl (es := [[sv ([] : List UInt8)]]) rfl rfl rfl fun v1 X2 o3 => ?_
  refine rl_det (met_none rfl) (fun h_ H_ => exd_assign (v := v1) rfl) rfl ?_
  refine rl_end ?_
  refine fl_seq ?_
  refine fl_seq ?_
  refine rl_start ?_
  refine rl_det (met_none rfl) (fun h_ H_ => exd_move (v := .slice a n c) rfl) (tm' := _::_::_::_::_::_::_::_::_::_::_::_) rfl ?_
  refine rl_det (met_none rfl) (fun h_ H_ => exd_len Tryd.underlying49 rfl) rfl ?_
  refine rl_det (met_none rfl) (fun h_ H_ => exd_move (v := .int .i64 0) rfl) rfl ?_
  refine rl_end ?_
  refine fl_block ?_
  refine fl_loop (m₀ := n - 0) (fun m_ tm_ h_ => ∃ (k : Nat) (e : List By) (w1 : Value) (X1 : Pcs) (w2 : Value) (X2 : Pcs) (al : By), m_ = n - k ∧ (∃ y4 : Nat → Value, tm_ = [.slice a n c, undef, sv al, w2, (y4 4), w1, undef, (y4 7), (y4 8), v1, .slice a n c, .int .i64 (((n : Nat) : Int)), .int .i64 (((k : Nat) : Int)), (y4 13), (y4 14), (y4 15), (y4 16), (y4 17), (y4 18), (y4 19), (y4 20), (y4 21), (y4 22), (y4 23), (y4 24), (y4 25), (y4 26), (y4 27), (y4 28), (y4 29), (y4 30), (y4 31), (y4 32), (y4 33), (y4 34), (y4 35), (y4 36), (y4 37), (y4 38), (y4 39), (y4 40), (y4 41), (y4 42), (y4 43), (y4 44), (y4 45), (y4 46), (y4 47), (y4 48), (y4 49), undef, undef]) ∧ (k ≤ n) ∧ (e.length = k ∧ (∀ t ∈ e, t.length ≤ k) ∧ al.length ≤ k * 1001 ∧ al = e.flatten) ∧ (rdTo e (xs.drop k) = rdTo [] xs) ∧ (OwnS 9 1 w1 (scs ([] :: e)) X1) ∧ (OwnS 9 1 w2 (scs e) X2) ∧ St h [] p h_ (([] : Pcs) ++ (X1 ++ (X2 ++ [])))) (fun h_ H_ => ⟨0, [], v1, X2, (.slice none 0 0), [], [], rfl, (y_of rfl), Nat.zero_le _, ⟨rfl, by simp, by simp, rfl⟩, rfl, o3, (OwnS.empty _ _), H_⟩) ?_
  intro m_ tm_ IH5
  refine rs_ex fun k => rs_ex fun e => rs_ex fun w1 => rs_ex fun X1 => rs_ex fun w2 => rs_ex fun X2 => rs_ex fun al => rs_and fun hm_ => rs_and fun ht_ => rs_and fun hk => rs_and fun hq => rs_and fun hR => rs_and fun o1 => rs_and fun o2 => ?_
  subst hm_; obtain ⟨y4, ht_⟩ := ht_; subst ht_
  obtain ⟨he, hm, hf, hal⟩ := hq
  refine fl_seq ?_
  refine rl_start ?_
  refine rl_det (met_none rfl) (fun h_ H_ => exd_lss rfl rfl) (tm' := _::_::_::_::_::_::_::_::_::_::_::_::_::_::_) rfl ?_
  refine rl_end ?_
  refine fl_seq ?_
  by_cases cc6 : ((k : Nat) : Int) < ((n : Nat) : Int)
  · refine fl_then rfl (decide_eq_true cc6) ?_
    refine fl_skip ?_
    refine fl_seq ?_
    refine fl_block ?_
    refine fl_seq ?_
    have hxk := hx _ (gmem (d := pz) (show k < xs.length by omega))
    have hpl := ph_len (i := (xs.getD k pz).1.toNat) hm
    refine rl_start ?_
    refine rl_det (met_none rfl) (fun h_ H_ => exd_indexAddrN (i := k) Tryd.underlying49 tS60 (sl_ne a n c (D.ne (by omega))) rfl (by omega)) rfl ?_
    refine rl_det (met_none rfl) (fun h_ H_ => exd_loadN_per H_ tA60 tS60 rfl (vs := [.int .i64 ((xs.getD k pz).1), .int .i64 ((xs.getD k pz).2)]) rfl (D.all (by omega))) rfl ?_
    refine rl_alloc (met_none rfl) tZ60 rfl fun b7 => rl_own (L' := ([(b7, .cells #[.int .i64 0, .int .i64 0] 60 (0, 0))] : Pcs) ++ (X1 ++ (X2 ++ []))) rfl ?_
    refine rl_norm (tm' := _::_::_::_::_::_::_::_::_) rfl ?_
    refine rl_store (met_none rfl) tS60 rfl (v := .agg #[.int .i64 ((xs.getD k pz).1), .int .i64 ((xs.getD k pz).2)]) rfl (i := 0) rfl rfl rfl (Nat.le_of_ble_eq_true rfl) (cs2 := [.int .i64 ((xs.getD k pz).1), .int .i64 ((xs.getD k pz).2)]) rfl (rl_own (L' := ([(b7, .cells #[.int .i64 ((xs.getD k pz).1), .int .i64 ((xs.getD k pz).2)] 60 (0, 0))] : Pcs) ++ (X1 ++ (X2 ++ []))) rfl ?_)
    refine rl_end ?_
    refine fl_seq ?_
    refine fl_seq ?_
    refine rl_start ?_
    refine rl_det (met_none rfl) (fun h_ H_ => exd_fieldAddr tF60_0 rfl (a' := ⟨b7, 0, none⟩) rfl) rfl ?_
    refine rl_det (met_none rfl) (fun h_ H_ => exd_load_own H_ tA3 rfl (i := 0) rfl (v := .int .i64 ((xs.getD k pz).1)) rfl) rfl ?_
    refine rl_det (met_none rfl) (fun h_ H_ => exd_move (v := w1) rfl) (tm' := _::_::_::_::_::_::_::_::_::_::_::_::_::_::_::_::_::_::_::_) rfl ?_
    refine rl_det (met_none rfl) (fun h_ H_ => exd_lenN o1 (scs_cons_len he) Tryd.underlying22 rfl) rfl ?_
    refine rl_det (met_none rfl) (fun h_ H_ => exd_geq rfl rfl) rfl ?_
    refine rl_end ?_
    by_cases cc8 : ((k + 1 : Nat) : Int) ≤ (xs.getD k pz).1
    · refine fl_then rfl (decide_eq_true cc8) ?_
      refine fl_seq ?_
      refine rl_start ?_
      refine rl_det (met_none rfl) (fun h_ H_ => exd_assign (v := sv ([] : List UInt8)) rfl) (tm' := _::_::_::_) rfl ?_
      refine rl_det (met_none rfl) (fun h_ H_ => exd_assign (v := .slice none 0 0) rfl) rfl ?_
      refine rl_det (met_none rfl) (fun h_ H_ => exd_assign (v := .bool (false)) rfl) rfl ?_
      refine rl_end ?_
      refine fl_ret Tryd.func54 rfl (vs := [sv ([] : List UInt8), .slice none 0 0, .bool (false)]) (fun h_ H_ => ⟨sv ([] : List UInt8), _, rfl, rfl, ⟨.slice none 0 0, _, rfl, rfl, ⟨.bool (false), _, rfl, rfl, rfl⟩⟩⟩) (v := .tuple #[sv ([] : List UInt8), .slice none 0 0, .bool (false)]) rfl ?_
      have hN : rdTo [] xs = none := hR.symm.trans (by first | exact rd_big he (by omega) ‹_› | exact rd_nil0 he (by omega) ‹_› (by omega) ‹_› | exact absurd ‹([] :: e).getD (xs.getD k pz).1.toNat [] ++ [UInt8.ofNat (xs.getD k pz).2.toNat] = []› (by simp))
      exact fun h_ H_ => K _ _ ⟨.slice none 0 0, [], by rw [hN]; rfl, by rw [hN]; exact OwnS.empty _ _, (H_.sub (List.nil_sublist _)).new⟩
    · refine fl_else rfl (decide_eq_false cc8) ?_
      refine fl_skip ?_
      refine fl_seq ?_
      refine rl_start ?_
      refine rl_det (met_none rfl) (fun h_ H_ => exd_move (v := w1) rfl) (tm' := _::_::_::_::_::_::_::_::_::_::_::_::_::_::_::_::_::_::_::_::_::_::_) rfl ?_
      refine rl_det (met_none rfl) (fun h_ H_ => exd_fieldAddr tF60_0 rfl (a' := ⟨b7, 0, none⟩) rfl) rfl ?_
      refine rl_det (met_none rfl) (fun h_ H_ => exd_load_own H_ tA3 rfl (i := 0) rfl (v := .int .i64 ((xs.getD k pz).1)) rfl) rfl ?_
      refine rl_det (met_none rfl) (fun h_ H_ => exd_indexOI o1 Tryd.underlying22 tS9 rfl rfl (by omega) (by rw [(scs_cons_len he)]; omega)) (tm' := _::_::_::_::_::_::_::_::_::_::_::_::_::_::_::_::_::_::_::_::_::_::_::_::_::_) rfl ?_
      refine rl_det (met_none rfl) (fun h_ H_ => exd_loadO (A := ([(b7, .cells #[.int .i64 ((xs.getD k pz).1), .int .i64 ((xs.getD k pz).2)] 60 (0, 0))] : Pcs)) (i := (((xs.getD k pz).1)).toNat) (j := 0) (e := [sv (([] :: e).getD ((((xs.getD k pz).1)).toNat) [])]) o1 H_ tA9 rfl rfl (scs_at (by simp only [List.length_cons]; omega)) (u := sv (([] :: e).getD ((((xs.getD k pz).1)).toNat) [])) rfl) rfl ?_
      refine rl_det (met_none rfl) (fun h_ H_ => exd_assign (v := sv (([] :: e).getD ((((xs.getD k pz).1)).toNat) [])) rfl) rfl ?_
      refine rl_end ?_
      refine fl_seq ?_
      refine fl_seq ?_
      refine rl_start ?_
      refine rl_det (met_none rfl) (fun h_ H_ => exd_fieldAddr tF60_1 rfl (a' := ⟨b7, 1, none⟩) rfl) (tm' := _::_::_::_::_::_::_::_::_::_::_::_::_::_::_::_::_::_::_::_::_::_::_::_::_::_::_::_) rfl ?_
      refine rl_det (met_none rfl) (fun h_ H_ => exd_load_own H_ tA3 rfl (i := 0) rfl (v := .int .i64 ((xs.getD k pz).2)) rfl) rfl ?_
      refine rl_det (met_none rfl) (fun h_ H_ => exd_neq rfl rfl) rfl ?_
      refine rl_end ?_
      by_cases cc9 : (xs.getD k pz).2 ≠ (-1)
      · refine fl_then rfl (decide_eq_true cc9) ?_
        refine rl_start ?_
        refine rl_det (met_none rfl) (fun h_ H_ => exd_move (v := sv (([] :: e).getD ((((xs.getD k pz).1)).toNat) [])) rfl) (tm' := _::_::_::_::_::_::_::_::_::_::_::_::_::_::_::_::_::_::_::_::_::_::_::_::_::_::_::_::_::_::_) rfl ?_
        refine rl_det (met_none rfl) (fun h_ H_ => exd_fieldAddr tF60_1 rfl (a' := ⟨b7, 1, none⟩) rfl) rfl ?_
        refine rl_det (met_none rfl) (fun h_ H_ => exd_load_own H_ tA3 rfl (i := 0) rfl (v := .int .i64 ((xs.getD k pz).2)) rfl) rfl ?_
        refine rl_det (met_none rfl) (fun h_ H_ => exd_conv ⟨_, Tryd.underlying3⟩ Tryd.underlying5 rfl (n := (xs.getD k pz).2) (wr8 (by first | omega | (simp only [List.length_singleton]; omega)))) (tm' := _::_::_::_::_::_::_::_::_::_::_::_::_::_::_::_::_::_::_::_::_::_::_::_::_::_::_::_::_::_::_::_::_::_) rfl ?_
        refine rl_buildO ([(b7, .cells #[.int .i64 ((xs.getD k pz).1), .int .i64 ((xs.getD k pz).2)] 60 (0, 0))] : Pcs) (met_none rfl) Tryd.underlying37 tS5 tZ5 (Nat.le_of_ble_eq_true rfl) (vs := [(0, .int .u8 ((xs.getD k pz).2))]) rfl rfl (es := [[.int .u8 ((xs.getD k pz).2)]]) rfl rfl rfl fun v10 X11 o12 => ?_
        refine rl_det (met_none rfl) (fun h_ H_ => exd_strOwn (A := ([(b7, .cells #[.int .i64 ((xs.getD k pz).1), .int .i64 ((xs.getD k pz).2)] 60 (0, 0))] : Pcs)) (o12.as (byte_own (by omega) (by omega))) H_ Tryd.underlying37 Tryd.underlying9 Tryd.underlying5 rfl) rfl ?_
        refine rl_det (met_none rfl) (fun h_ H_ => exd_catS (l := ([] :: e).getD ((((xs.getD k pz).1)).toNat) []) (m := [UInt8.ofNat (xs.getD k pz).2.toNat]) rfl rfl (by first | omega | (simp only [List.length_singleton]; omega))) (tm' := [_,_,_,_,_,_,_,_,_,_,_,_,_,_,_,_,_,_,_,_,_,_,_,_,_,_,_,_,_,_,_,_,_,_,_,_,_,_,_,_,_,_,_,_,_,_,_,_,_,_,_,_]) rfl ?_
        refine rl_det (met_none rfl) (fun h_ H_ => exd_assign (v := sv ((([] :: e).getD ((((xs.getD k pz).1)).toNat) []) ++ ([UInt8.ofNat (xs.getD k pz).2.toNat]))) rfl) rfl ?_
        refine rl_end ?_
        refine fl_seq ?_
        refine fl_seq ?_
        refine rl_start ?_
        refine rl_det (met_none rfl) (fun h_ H_ => exd_move (v := sv ((([] :: e).getD ((((xs.getD k pz).1)).toNat) []) ++ ([UInt8.ofNat (xs.getD k pz).2.toNat]))) rfl) rfl ?_
        refine rl_det (met_none rfl) (fun h_ H_ => exd_eqlS (l := (([] :: e).getD ((((xs.getD k pz).1)).toNat) []) ++ ([UInt8.ofNat (xs.getD k pz).2.toNat])) (m := ([] : List UInt8)) rfl rfl) (tm' := [_,_,_,_,_,_,_,_,_,_,_,_,_,_,_,_,_,_,_,_,_,_,_,_,_,_,_,_,_,_,_,_,_,_,_,_,_,_,_,_,_,_,_,_,_,_,_,_,_,_,_,_]) rfl ?_
        refine rl_end ?_
        by_cases cc13 : (([] :: e).getD ((((xs.getD k pz).1)).toNat) []) ++ ([UInt8.ofNat (xs.getD k pz).2.toNat]) = ([] : List UInt8)
        · refine fl_then rfl (decide_eq_true cc13) ?_
          refine fl_seq ?_
          refine rl_start ?_
          refine rl_det (met_none rfl) (fun h_ H_ => exd_assign (v := sv ([] : List UInt8)) rfl) rfl ?_
          refine rl_det (met_none rfl) (fun h_ H_ => exd_assign (v := .slice none 0 0) rfl) rfl ?_
          refine rl_det (met_none rfl) (fun h_ H_ => exd_assign (v := .bool (false)) rfl) (tm' := _::_::_::_::_::_) rfl ?_
          refine rl_end ?_
          refine fl_ret Tryd.func54 rfl (vs := [sv ([] : List UInt8), .slice none 0 0, .bool (false)]) (fun h_ H_ => ⟨sv ([] : List UInt8), _, rfl, rfl, ⟨.slice none 0 0, _, rfl, rfl, ⟨.bool (false), _, rfl, rfl, rfl⟩⟩⟩) (v := .tuple #[sv ([] : List UInt8), .slice none 0 0, .bool (false)]) rfl ?_
          have hN : rdTo [] xs = none := hR.symm.trans (by first | exact rd_big he (by omega) ‹_› | exact rd_nil0 he (by omega) ‹_› (by omega) ‹_› | exact absurd ‹([] :: e).getD (xs.getD k pz).1.toNat [] ++ [UInt8.ofNat (xs.getD k pz).2.toNat] = []› (by simp))
          exact fun h_ H_ => K _ _ ⟨.slice none 0 0, [], by rw [hN]; rfl, by rw [hN]; exact OwnS.empty _ _, (H_.sub (List.nil_sublist _)).new⟩
        · refine fl_else rfl (decide_eq_false cc13) ?_
          refine fl_skip ?_
          refine fl_seq ?_
          refine rl_start ?_
          refine rl_det (met_none rfl) (fun h_ H_ => exd_move (v := w1) rfl) rfl ?_
          refine rl_det (met_none rfl) (fun h_ H_ => exd_move (v := sv ((([] :: e).getD ((((xs.getD k pz).1)).toNat) []) ++ ([UInt8.ofNat (xs.getD k pz).2.toNat]))) rfl) rfl ?_
          refine rl_buildO ([(b7, .cells #[.int .i64 ((xs.getD k pz).1), .int .i64 ((xs.getD k pz).2)] 60 (0, 0))] : Pcs) (met_none rfl) Tryd.underlying22 tS9 tZ9 (Nat.le_of_ble_eq_true rfl) (vs := [(0, sv ((([] :: e).getD ((((xs.getD k pz).1)).toNat) []) ++ ([UInt8.ofNat (xs.getD k pz).2.toNat])))]) rfl rfl (es := [[sv ((([] :: e).getD ((((xs.getD k pz).1)).toNat) []) ++ ([UInt8.ofNat (xs.getD k pz).2.toNat]))]]) rfl rfl rfl fun v14 X15 o16 => ?_
          refine rl_norm (tm' := [_,_,_,_,_,_,_,_,_,_,_,_,_,_,_,_,_,_,_,_,_,_,_,_,_,_,_,_,_,_,_,_,_,_,_,_,_,_,_,_,_,_,_,_,_,_,_,_,_,_,_,_]) rfl ?_
          refine rl_perm (List.Perm.append_left _ (List.Perm.append_left _ (List.perm_append_comm_assoc _ _ _))) ?_
          refine rl_perm (List.Perm.append_left _ (List.perm_append_comm_assoc _ _ _)) ?_
          refine rl_own (L' := ([(b7, .cells #[.int .i64 ((xs.getD k pz).1), .int .i64 ((xs.getD k pz).2)] 60 (0, 0))] : Pcs) ++ (X1 ++ (X15 ++ (X11 ++ (X2 ++ []))))) rfl ?_
          refine rl_appendO ([(b7, .cells #[.int .i64 ((xs.getD k pz).1), .int .i64 ((xs.getD k pz).2)] 60 (0, 0))] : Pcs) X1 X15 (met_none rfl) Tryd.underlying22 tS9 tZ9 rfl tB9 Tryd.underlying22 rfl rfl o1 o16 (ones_of rfl) (by rw [scs_length]; simp only [List.length_cons, List.length_nil]; omega) (by decide) fun v17 X18 o19 => ?_
          refine rl_det (met_none rfl) (fun h_ H_ => exd_move (v := w2) rfl) rfl ?_
          refine rl_det (met_none rfl) (fun h_ H_ => exd_move (v := sv ((([] :: e).getD ((((xs.getD k pz).1)).toNat) []) ++ ([UInt8.ofNat (xs.getD k pz).2.toNat]))) rfl) (tm' := [_,_,_,_,_,_,_,_,_,_,_,_,_,_,_,_,_,_,_,_,_,_,_,_,_,_,_,_,_,_,_,_,_,_,_,_,_,_,_,_,_,_,_,_,_,_,_,_,_,_,_,_]) rfl ?_
          refine rl_buildO ([(b7, .cells #[.int .i64 ((xs.getD k pz).1), .int .i64 ((xs.getD k pz).2)] 60 (0, 0))] : Pcs) (met_none rfl) Tryd.underlying22 tS9 tZ9 (Nat.le_of_ble_eq_true rfl) (vs := [(0, sv ((([] :: e).getD ((((xs.getD k pz).1)).toNat) []) ++ ([UInt8.ofNat (xs.getD k pz).2.toNat])))]) rfl rfl (es := [[sv ((([] :: e).getD ((((xs.getD k pz).1)).toNat) []) ++ ([UInt8.ofNat (xs.getD k pz).2.toNat]))]]) rfl rfl rfl fun v20 X21 o22 => ?_
          refine rl_perm (List.Perm.append_left _ (List.Perm.append_left _ (List.Perm.append_left _ (List.perm_append_comm_assoc _ _ _)))) ?_
          refine rl_perm (List.Perm.append_left _ (List.Perm.append_left _ (List.perm_append_comm_assoc _ _ _))) ?_
          refine rl_perm (List.Perm.append_left _ (List.perm_append_comm_assoc _ _ _)) ?_
          refine rl_own (L' := ([(b7, .cells #[.int .i64 ((xs.getD k pz).1), .int .i64 ((xs.getD k pz).2)] 60 (0, 0))] : Pcs) ++ (X2 ++ (X21 ++ (X18 ++ (X11 ++ []))))) rfl ?_
          refine rl_appendO ([(b7, .cells #[.int .i64 ((xs.getD k pz).1), .int .i64 ((xs.getD k pz).2)] 60 (0, 0))] : Pcs) X2 X21 (met_none rfl) Tryd.underlying22 tS9 tZ9 rfl tB9 Tryd.underlying22 rfl rfl o2 o22 (ones_of rfl) (by rw [scs_length]; simp only [List.length_cons, List.length_nil]; omega) (by decide) fun v23 X24 o25 => ?_
          refine rl_det (met_none rfl) (fun h_ H_ => exd_assign (v := v17) rfl) (tm' := _::_::_::_::_::_::_) rfl ?_
          refine rl_det (met_none rfl) (fun h_ H_ => exd_assign (v := v23) rfl) rfl ?_
          refine rl_end ?_
          refine rl_start ?_
          refine rl_det (met_none rfl) (fun h_ H_ => exd_move (v := sv al) rfl) rfl ?_
          refine rl_det (met_none rfl) (fun h_ H_ => exd_move (v := sv ((([] :: e).getD ((((xs.getD k pz).1)).toNat) []) ++ ([UInt8.ofNat (xs.getD k pz).2.toNat]))) rfl) (tm' := [_,_,_,_,_,_,_,_,_,_,_,_,_,_,_,_,_,_,_,_,_,_,_,_,_,_,_,_,_,_,_,_,_,_,_,_,_,_,_,_,_,_,_,_,_,_,_,_,_,_,_,_]) rfl ?_
          refine rl_det (met_none rfl) (fun h_ H_ => exd_catS (l := al) (m := (([] :: e).getD ((((xs.getD k pz).1)).toNat) []) ++ ([UInt8.ofNat (xs.getD k pz).2.toNat])) rfl rfl (by first | omega | (simp only [List.length_append, List.length_singleton]; omega))) rfl ?_
          refine rl_det (met_none rfl) (fun h_ H_ => exd_assign (v := sv (al ++ ((([] :: e).getD ((((xs.getD k pz).1)).toNat) []) ++ ([UInt8.ofNat (xs.getD k pz).2.toNat])))) rfl) rfl ?_
          refine rl_end ?_
          refine fl_inBlock ?_
          refine rl_start ?_
          refine rl_det (met_none rfl) (fun h_ H_ => exd_add rfl rfl (n := ((k + 1 : Nat) : Int)) (wr (by omega))) (tm' := [_,_,_,_,_,_,_,_,_,_,_,_,_,_,_,_,_,_,_,_,_,_,_,_,_,_,_,_,_,_,_,_,_,_,_,_,_,_,_,_,_,_,_,_,_,_,_,_,_,_,_,_]) rfl ?_
          refine rl_det (met_none rfl) (fun h_ H_ => exd_move (v := .int .i64 (((k + 1 : Nat) : Int))) rfl) rfl ?_
          refine rl_end ?_
          refine rs_perm (List.Perm.append_left _ (List.Perm.append_left _ (List.perm_append_comm_assoc _ _ _))) ?_
          refine rs_perm (List.Perm.append_left _ (List.perm_append_comm_assoc _ _ _)) ?_
          refine rs_perm (List.Perm.append_left _ (List.Perm.append_left _ (List.perm_append_comm_assoc _ _ _))) ?_
          refine rs_own (L' := ([(b7, .cells #[.int .i64 ((xs.getD k pz).1), .int .i64 ((xs.getD k pz).2)] 60 (0, 0))] : Pcs) ++ (X11 ++ (X18 ++ (X24 ++ [])))) rfl ?_
          exact fun h_ H_ => IH5 _ _ (by omega) h_ ⟨k + 1, (e ++ [((([] :: e).getD ((((xs.getD k pz).1)).toNat) []) ++ ([UInt8.ofNat (xs.getD k pz).2.toNat]))]), v17, X18, v23, X24, al ++ ((([] :: e).getD ((((xs.getD k pz).1)).toNat) []) ++ ([UInt8.ofNat (xs.getD k pz).2.toNat])), rfl, (y_of rfl), (by omega), ⟨by rw [List.length_append, he]; rfl, all_snoc hm (by simp only [List.length_append, List.length_singleton]; omega), by rw [List.length_append]; simp only [List.length_append, List.length_singleton]; omega, by rw [flat_snoc, hal]⟩, ((rd_step1 he (by omega) ‹_› (by omega)).symm.trans hR), (o19.as (scs_snoc1 _ _)), (o25.as (scs_snoc _ _)), H_.dropX.drop⟩
      · refine fl_else rfl (decide_eq_false cc9) ?_
        refine fl_skip ?_
        refine fl_seq ?_
        refine fl_seq ?_
        refine rl_start ?_
        refine rl_det (met_none rfl) (fun h_ H_ => exd_move (v := sv (([] :: e).getD ((((xs.getD k pz).1)).toNat) [])) rfl) rfl ?_
        refine rl_det (met_none rfl) (fun h_ H_ => exd_eqlS (l := ([] :: e).getD ((((xs.getD k pz).1)).toNat) []) (m := ([] : List UInt8)) rfl rfl) (tm' := [_,_,_,_,_,_,_,_,_,_,_,_,_,_,_,_,_,_,_,_,_,_,_,_,_,_,_,_,_,_,_,_,_,_,_,_,_,_,_,_,_,_,_,_,_,_,_,_,_,_,_,_]) rfl ?_
        refine rl_end ?_
        by_cases cc26 : ([] :: e).getD ((((xs.getD k pz).1)).toNat) [] = ([] : List UInt8)
        · refine fl_then rfl (decide_eq_true cc26) ?_
          refine fl_seq ?_
          refine rl_start ?_
          refine rl_det (met_none rfl) (fun h_ H_ => exd_assign (v := sv ([] : List UInt8)) rfl) rfl ?_
          refine rl_det (met_none rfl) (fun h_ H_ => exd_assign (v := .slice none 0 0) rfl) rfl ?_
          refine rl_det (met_none rfl) (fun h_ H_ => exd_assign (v := .bool (false)) rfl) (tm' := _::_::_::_::_::_) rfl ?_
          refine rl_end ?_
          refine fl_ret Tryd.func54 rfl (vs := [sv ([] : List UInt8), .slice none 0 0, .bool (false)]) (fun h_ H_ => ⟨sv ([] : List UInt8), _, rfl, rfl, ⟨.slice none 0 0, _, rfl, rfl, ⟨.bool (false), _, rfl, rfl, rfl⟩⟩⟩) (v := .tuple #[sv ([] : List UInt8), .slice none 0 0, .bool (false)]) rfl ?_
          have hN : rdTo [] xs = none := hR.symm.trans (by first | exact rd_big he (by omega) ‹_› | exact rd_nil0 he (by omega) ‹_› (by omega) ‹_› | exact absurd ‹([] :: e).getD (xs.getD k pz).1.toNat [] ++ [UInt8.ofNat (xs.getD k pz).2.toNat] = []› (by simp))
          exact fun h_ H_ => K _ _ ⟨.slice none 0 0, [], by rw [hN]; rfl, by rw [hN]; exact OwnS.empty _ _, (H_.sub (List.nil_sublist _)).new⟩
        · refine fl_else rfl (decide_eq_false cc26) ?_
          refine fl_skip ?_
          refine fl_seq ?_
          refine rl_start ?_
          refine rl_det (met_none rfl) (fun h_ H_ => exd_move (v := w1) rfl) rfl ?_
          refine rl_det (met_none rfl) (fun h_ H_ => exd_move (v := sv (([] :: e).getD ((((xs.getD k pz).1)).toNat) [])) rfl) rfl ?_
          refine rl_buildO ([(b7, .cells #[.int .i64 ((xs.getD k pz).1), .int .i64 ((xs.getD k pz).2)] 60 (0, 0))] : Pcs) (met_none rfl) Tryd.underlying22 tS9 tZ9 (Nat.le_of_ble_eq_true rfl) (vs := [(0, sv (([] :: e).getD ((((xs.getD k pz).1)).toNat) []))]) rfl rfl (es := [[sv (([] :: e).getD ((((xs.getD k pz).1)).toNat) [])]]) rfl rfl rfl fun v27 X28 o29 => ?_
          refine rl_norm (tm' := [_,_,_,_,_,_,_,_,_,_,_,_,_,_,_,_,_,_,_,_,_,_,_,_,_,_,_,_,_,_,_,_,_,_,_,_,_,_,_,_,_,_,_,_,_,_,_,_,_,_,_,_]) rfl ?_
          refine rl_perm (List.Perm.append_left _ (List.perm_append_comm_assoc _ _ _)) ?_
          refine rl_own (L' := ([(b7, .cells #[.int .i64 ((xs.getD k pz).1), .int .i64 ((xs.getD k pz).2)] 60 (0, 0))] : Pcs) ++ (X1 ++ (X28 ++ (X2 ++ [])))) rfl ?_
          refine rl_appendO ([(b7, .cells #[.int .i64 ((xs.getD k pz).1), .int .i64 ((xs.getD k pz).2)] 60 (0, 0))] : Pcs) X1 X28 (met_none rfl) Tryd.underlying22 tS9 tZ9 rfl tB9 Tryd.underlying22 rfl rfl o1 o29 (ones_of rfl) (by rw [scs_length]; simp only [List.length_cons, List.length_nil]; omega) (by decide) fun v30 X31 o32 => ?_
          refine rl_det (met_none rfl) (fun h_ H_ => exd_move (v := w2) rfl) rfl ?_
          refine rl_det (met_none rfl) (fun h_ H_ => exd_move (v := sv (([] :: e).getD ((((xs.getD k pz).1)).toNat) [])) rfl) (tm' := [_,_,_,_,_,_,_,_,_,_,_,_,_,_,_,_,_,_,_,_,_,_,_,_,_,_,_,_,_,_,_,_,_,_,_,_,_,_,_,_,_,_,_,_,_,_,_,_,_,_,_,_]) rfl ?_
          refine rl_buildO ([(b7, .cells #[.int .i64 ((xs.getD k pz).1), .int .i64 ((xs.getD k pz).2)] 60 (0, 0))] : Pcs) (met_none rfl) Tryd.underlying22 tS9 tZ9 (Nat.le_of_ble_eq_true rfl) (vs := [(0, sv (([] :: e).getD ((((xs.getD k pz).1)).toNat) []))]) rfl rfl (es := [[sv (([] :: e).getD ((((xs.getD k pz).1)).toNat) [])]]) rfl rfl rfl fun v33 X34 o35 => ?_
          refine rl_perm (List.Perm.append_left _ (List.Perm.append_left _ (List.perm_append_comm_assoc _ _ _))) ?_
          refine rl_perm (List.Perm.append_left _ (List.perm_append_comm_assoc _ _ _)) ?_
          refine rl_own (L' := ([(b7, .cells #[.int .i64 ((xs.getD k pz).1), .int .i64 ((xs.getD k pz).2)] 60 (0, 0))] : Pcs) ++ (X2 ++ (X34 ++ (X31 ++ [])))) rfl ?_
          refine rl_appendO ([(b7, .cells #[.int .i64 ((xs.getD k pz).1), .int .i64 ((xs.getD k pz).2)] 60 (0, 0))] : Pcs) X2 X34 (met_none rfl) Tryd.underlying22 tS9 tZ9 rfl tB9 Tryd.underlying22 rfl rfl o2 o35 (ones_of rfl) (by rw [scs_length]; simp only [List.length_cons, List.length_nil]; omega) (by decide) fun v36 X37 o38 => ?_
          refine rl_det (met_none rfl) (fun h_ H_ => exd_assign (v := v30) rfl) (tm' := _::_::_::_::_::_::_) rfl ?_
          refine rl_det (met_none rfl) (fun h_ H_ => exd_assign (v := v36) rfl) rfl ?_
          refine rl_end ?_
          refine rl_start ?_
          refine rl_det (met_none rfl) (fun h_ H_ => exd_move (v := sv al) rfl) rfl ?_
          refine rl_det (met_none rfl) (fun h_ H_ => exd_move (v := sv (([] :: e).getD ((((xs.getD k pz).1)).toNat) [])) rfl) (tm' := [_,_,_,_,_,_,_,_,_,_,_,_,_,_,_,_,_,_,_,_,_,_,_,_,_,_,_,_,_,_,_,_,_,_,_,_,_,_,_,_,_,_,_,_,_,_,_,_,_,_,_,_]) rfl ?_
          refine rl_det (met_none rfl) (fun h_ H_ => exd_catS (l := al) (m := ([] :: e).getD ((((xs.getD k pz).1)).toNat) []) rfl rfl (by first | omega | (simp only [List.length_append, List.length_singleton]; omega))) rfl ?_
          refine rl_det (met_none rfl) (fun h_ H_ => exd_assign (v := sv (al ++ (([] :: e).getD ((((xs.getD k pz).1)).toNat) []))) rfl) rfl ?_
          refine rl_end ?_
          refine fl_inBlock ?_
          refine rl_start ?_
          refine rl_det (met_none rfl) (fun h_ H_ => exd_add rfl rfl (n := ((k + 1 : Nat) : Int)) (wr (by omega))) (tm' := [_,_,_,_,_,_,_,_,_,_,_,_,_,_,_,_,_,_,_,_,_,_,_,_,_,_,_,_,_,_,_,_,_,_,_,_,_,_,_,_,_,_,_,_,_,_,_,_,_,_,_,_]) rfl ?_
          refine rl_det (met_none rfl) (fun h_ H_ => exd_move (v := .int .i64 (((k + 1 : Nat) : Int))) rfl) rfl ?_
          refine rl_end ?_
          refine rs_perm (List.Perm.append_left _ (List.perm_append_comm_assoc _ _ _)) ?_
          refine rs_own (L' := ([(b7, .cells #[.int .i64 ((xs.getD k pz).1), .int .i64 ((xs.getD k pz).2)] 60 (0, 0))] : Pcs) ++ (X31 ++ (X37 ++ []))) rfl ?_
          exact fun h_ H_ => IH5 _ _ (by omega) h_ ⟨k + 1, (e ++ [(([] :: e).getD ((((xs.getD k pz).1)).toNat) [])]), v30, X31, v36, X37, al ++ (([] :: e).getD ((((xs.getD k pz).1)).toNat) []), rfl, (y_of rfl), (by omega), ⟨by rw [List.length_append, he]; rfl, all_snoc hm (by omega), by rw [List.length_append]; omega, by rw [flat_snoc, hal]⟩, ((rd_step0 he (by omega) ‹_› (by omega) ‹_›).symm.trans hR), (o32.as (scs_snoc1 _ _)), (o38.as (scs_snoc _ _)), H_.drop⟩
  · refine fl_else rfl (decide_eq_false cc6) ?_
    refine fl_exit rfl ?_
    refine fl_seq ?_
    refine rl_start ?_
    refine rl_det (met_none rfl) (fun h_ H_ => exd_move (v := sv al) rfl) rfl ?_
    refine rl_det (met_none rfl) (fun h_ H_ => exd_move (v := w2) rfl) (tm' := [_,_,_,_,_,_,_,_,_,_,_,_,_,_,_,_,_,_,_,_,_,_,_,_,_,_,_,_,_,_,_,_,_,_,_,_,_,_,_,_,_,_,_,_,_,_,_,_,_,_,_,_]) rfl ?_
    refine rl_det (met_none rfl) (fun h_ H_ => exd_assign (v := sv al) rfl) rfl ?_
    refine rl_det (met_none rfl) (fun h_ H_ => exd_assign (v := w2) rfl) rfl ?_
    refine rl_det (met_none rfl) (fun h_ H_ => exd_assign (v := .bool (true)) rfl) (tm' := _::_::_::_::_::_) rfl ?_
    refine rl_end ?_
    refine fl_ret Tryd.func54 rfl (vs := [sv al, w2, .bool (true)]) (fun h_ H_ => ⟨sv al, _, rfl, rfl, ⟨w2, _, rfl, rfl, ⟨.bool (true), _, rfl, rfl, rfl⟩⟩⟩) (v := .tuple #[sv al, w2, .bool (true)]) rfl ?_
    have hS := rd_end (by omega) hR
    exact fun h_ H_ => K _ _ ⟨_, _, by rw [hS, hal]; rfl, by rw [hS]; exact o2, by simpa using H_.dropA.dropA.new⟩
end Go.Proofs.YtiinpnlfdeiloaaDoor
namespace Go.Proofs.YtiinpnlfdeiloaaDoor
open Go.X Go.X.Cent Go.Conc
theorem c54o (md : Md) {v : Value} {xs : List Pie} {X L : Pcs} {p : PHeap} {h₀ h : Heap} {B₀ : List Nat} (o : OwnS 60 2 v (pies xs) X) (s : St h₀ B₀ p h L) (hX : ∀ x ∈ X, x ∈ L) (hn : xs.length ≤ 1000) (hx : ∀ x ∈ xs, 0 ≤ x.1 ∧ -1 ≤ x.2 ∧ x.2 ≤ 255) :
    CallsX Tryd.prog md 54 #[v] h fun v h' => ∃ w X, v = .tuple #[sv ((rdTo [] xs).getD []).flatten, w, .bool (rdTo [] xs).isSome] ∧ OwnS 9 1 w (scs ((rdTo [] xs).getD [])) X ∧ New h h' X :=
  lend_to o (pies_length _) s hX fun p' a cap hp' _ hv D => by
    subst hv
    exact c54 md h p' hp' a _ cap xs D hn hx
end Go.Proofs.YtiinpnlfdeiloaaDoor
namespace Go.Proofs.YtiinpnlfdeiloaaDoor
open Go.X Go.X.Cent Go.Conc
set_option maxRecDepth 10000
set_option synthInstance.maxSize 2000
set_option synthInstance.maxHeartbeats 400000

set_option maxHeartbeats 4000000
theorem c52 (h : Heap) (s : By) (hs : s.length ≤ 2 ^ 60) : CallsX Tryd.prog .lone 52 #[sv s] h fun v h' => ∃ w X, v = .tuple #[w, .bool (formB s).isSome] ∧ OwnS 60 2 w (pies ((formB s).getD [])) X ∧ New h h' X := by
  refine calls_intro (Φ := fun h_ => St h [] (fun _ => none) h_ []) Tryd.func52 rfl (tm := [_, _, _, _, _, _, _, _, _, _, _, _, _, _, _, _, _, _, _, _, _, _, _, _, _, _, _, _, _, _, _, _, _, _, _, _, _, _, _, _, _, _, _, _, _, _, _, _, _, _, _, _, _, _, _, _, _, _, _, _, _, _, _, _, _, _, _, _, _, _, _, _, _, _, _, _, _, _, _, _, _, _, _, _, _, _, _, _, _, _, _, _, _, _, _, _, _, _, _, _, _, _]) rfl ?_ (St.start h _ (fun _ _ e => by cases e))
  intro c₀ cs Stop K
  have e5 : (((s.length : Nat) : Int) - 5).toNat = s.length - 5 := by omega
  have e4 : 5 ≤ s.length → (((s.length : Nat) : Int) - 5 + 1).toNat = s.length - 4 := by omega
  refine fl_seq ?_
  refine rl_start ?_
  refine rl_det (met_none rfl) (fun h_ H_ => exd_assign (v := .slice none 0 0) rfl) rfl ?_
  refine rl_det (met_none rfl) (fun h_ H_ => exd_assign (v := .bool (false)) rfl) rfl ?_
  refine rl_end ?_
  refine fl_seq ?_
  refine rl_start ?_
  refine rl_det (met_none rfl) (fun h_ H_ => exd_move (v := sv s) rfl) (tm' := _::_::_::_::_::_::_::_::_::_::_::_::_) rfl ?_
  refine rl_det (met_none rfl) (fun h_ H_ => exd_lenS (l := s) Tryd.underlying9 rfl) rfl ?_
  refine rl_det (met_none rfl) (fun h_ H_ => exd_sub rfl rfl (wr (by omega))) rfl ?_
  refine rl_det (met_none rfl) (fun h_ H_ => exd_assign (v := .int .i64 (((s.length : Nat) : Int) - 5)) rfl) (tm' := _::_::_::_::_::_) rfl ?_
  refine rl_end ?_
  refine fl_seq ?_
  refine fl_seq ?_
  refine rl_start ?_
  refine rl_det (met_none rfl) (fun h_ H_ => exd_move (v := sv s) rfl) rfl ?_
  refine rl_det (met_none rfl) (fun h_ H_ => exd_lenS (l := s) Tryd.underlying9 rfl) rfl ?_
  refine rl_det (met_none rfl) (fun h_ H_ => exd_gtr rfl rfl) (tm' := _::_::_::_::_::_::_::_::_::_::_::_::_::_::_::_::_::_) rfl ?_
  refine rl_det (met_none rfl) (fun h_ H_ => exd_move (v := .bool (decide (1400 < ((s.length : Nat) : Int)))) rfl) rfl ?_
  by_cases cc1 : 1400 < ((s.length : Nat) : Int)
  · refine rl_pass (met_not rfl rfl (decide_eq_true cc1)) rfl ?_
    refine rl_pass (met_not rfl rfl (decide_eq_true cc1)) (tm' := _::_::_::_::_::_::_::_::_::_::_::_::_::_::_::_::_::_::_::_::_) rfl ?_
    refine rl_det (met_none rfl) (fun h_ H_ => exd_pick_t rfl (decide_eq_true cc1) (v := .bool (true)) rfl) rfl ?_
    refine rl_det (met_none rfl) (fun h_ H_ => exd_move (v := .bool (true)) rfl) rfl ?_
    refine rl_pass (met_not rfl rfl rfl) (tm' := _::_::_::_::_::_::_::_::_::_::_::_::_::_::_::_::_::_::_::_::_::_::_::_) rfl ?_
    refine rl_pass (met_not rfl rfl rfl) rfl ?_
    refine rl_pass (met_not rfl rfl rfl) rfl ?_
    refine rl_pass (met_not rfl rfl rfl) (tm' := _::_::_::_::_::_::_::_::_::_::_::_::_::_::_::_::_::_::_::_::_::_::_::_::_::_::_) rfl ?_
    refine rl_det (met_none rfl) (fun h_ H_ => exd_pick_t rfl rfl (v := .bool (true)) rfl) rfl ?_
    refine rl_end ?_
    refine fl_then rfl rfl ?_
    refine fl_seq ?_
    refine rl_start ?_
    refine rl_det (met_none rfl) (fun h_ H_ => exd_assign (v := .slice none 0 0) rfl) rfl ?_
    refine rl_det (met_none rfl) (fun h_ H_ => exd_assign (v := .bool (false)) rfl) (tm' := _::_::_::_::_) rfl ?_
    refine rl_end ?_
    refine fl_ret Tryd.func52 rfl (vs := [.slice none 0 0, .bool (false)]) (fun h_ H_ => ⟨.slice none 0 0, _, rfl, rfl, ⟨.bool (false), _, rfl, rfl, rfl⟩⟩) (v := .tuple #[.slice none 0 0, .bool (false)]) rfl ?_
    have hN : formB s = none := by rw [formB, if_pos]; first | exact .inl (by omega) | exact .inr (.inl (by omega)) | exact .inr (.inr (by rw [← e5]; omega))
    exact fun h_ H_ => K _ _ ⟨.slice none 0 0, [], by rw [hN]; rfl, by rw [hN]; exact OwnS.empty _ _, (H_.sub (List.nil_sublist _)).new⟩
  · refine rl_det (met_some rfl rfl (decide_eq_false cc1)) (fun h_ H_ => exd_move (v := .int .i64 (((s.length : Nat) : Int) - 5)) rfl) rfl ?_
    refine rl_det (met_some rfl rfl (decide_eq_false cc1)) (fun h_ H_ => exd_lss rfl rfl) rfl ?_
    refine rl_det (met_none rfl) (fun h_ H_ => exd_pick_f rfl (decide_eq_false cc1) (v := .bool (decide (((s.length : Nat) : Int) - 5 < 0))) rfl) (tm' := _::_::_::_::_::_::_::_::_::_::_::_::_::_::_::_::_::_::_::_::_::_) rfl ?_
    refine rl_det (met_none rfl) (fun h_ H_ => exd_move (v := .bool (decide (((s.length : Nat) : Int) - 5 < 0))) rfl) rfl ?_
    by_cases cc2 : ((s.length : Nat) : Int) - 5 < 0
    · refine rl_pass (met_not rfl rfl (decide_eq_true cc2)) rfl ?_
      refine rl_pass (met_not rfl rfl (decide_eq_true cc2)) (tm' := _::_::_::_::_::_::_::_::_::_::_::_::_::_::_::_::_::_::_::_::_::_::_::_::_) rfl ?_
      refine rl_pass (met_not rfl rfl (decide_eq_true cc2)) rfl ?_
      refine rl_pass (met_not rfl rfl (decide_eq_true cc2)) rfl ?_
      refine rl_det (met_none rfl) (fun h_ H_ => exd_pick_t rfl (decide_eq_true cc2) (v := .bool (true)) rfl) (tm' := _::_::_::_::_::_::_::_::_::_::_::_::_::_::_::_::_::_::_::_::_::_::_::_::_::_::_::_) rfl ?_
      refine rl_end ?_
      refine fl_then rfl rfl ?_
      refine fl_seq ?_
      refine rl_start ?_
      refine rl_det (met_none rfl) (fun h_ H_ => exd_assign (v := .slice none 0 0) rfl) rfl ?_
      refine rl_det (met_none rfl) (fun h_ H_ => exd_assign (v := .bool (false)) rfl) rfl ?_
      refine rl_end ?_
      refine fl_ret Tryd.func52 rfl (vs := [.slice none 0 0, .bool (false)]) (fun h_ H_ => ⟨.slice none 0 0, _, rfl, rfl, ⟨.bool (false), _, rfl, rfl, rfl⟩⟩) (v := .tuple #[.slice none 0 0, .bool (false)]) rfl ?_
      have hN : formB s = none := by rw [formB, if_pos]; first | exact .inl (by omega) | exact .inr (.inl (by omega)) | exact .inr (.inr (by rw [← e5]; omega))
      exact fun h_ H_ => K _ _ ⟨.slice none 0 0, [], by rw [hN]; rfl, by rw [hN]; exact OwnS.empty _ _, (H_.sub (List.nil_sublist _)).new⟩
    · refine rl_det (met_some rfl rfl (decide_eq_false cc2)) (fun h_ H_ => exd_move (v := sv s) rfl) (tm' := _::_::_::_::_::_::_::_::_::_::_::_::_::_::_::_::_::_::_::_::_::_::_::_) rfl ?_
      refine rl_det (met_some rfl rfl (decide_eq_false cc2)) (fun h_ H_ => exd_move (v := .int .i64 (((s.length : Nat) : Int) - 5)) rfl) rfl ?_
      refine rl_det (met_some rfl rfl (decide_eq_false cc2)) (fun h_ H_ => exd_indexS (l := s) (i := ((s.length : Nat) : Int) - 5) Tryd.underlying9 rfl rfl (by omega) (by omega)) rfl ?_
      refine rl_det (met_some rfl rfl (decide_eq_false cc2)) (fun h_ H_ => exd_neq rfl rfl) (tm' := _::_::_::_::_::_::_::_::_::_::_::_::_::_::_::_::_::_::_::_::_::_::_::_::_::_::_) rfl ?_
      refine rl_det (met_none rfl) (fun h_ H_ => exd_pick_f rfl (decide_eq_false cc2) (v := .bool (decide ((((s.getD (((s.length : Nat) : Int) - 5).toNat 0).toNat : Nat) : Int) ≠ 61))) rfl) rfl ?_
      refine rl_end ?_
      by_cases cc3 : (((s.getD (((s.length : Nat) : Int) - 5).toNat 0).toNat : Nat) : Int) ≠ 61
      · refine fl_then rfl (decide_eq_true cc3) ?_
        refine fl_seq ?_
        refine rl_start ?_
        refine rl_det (met_none rfl) (fun h_ H_ => exd_assign (v := .slice none 0 0) rfl) rfl ?_
        refine rl_det (met_none rfl) (fun h_ H_ => exd_assign (v := .bool (false)) rfl) (tm' := _::_::_::_::_) rfl ?_
        refine rl_end ?_
        refine fl_ret Tryd.func52 rfl (vs := [.slice none 0 0, .bool (false)]) (fun h_ H_ => ⟨.slice none 0 0, _, rfl, rfl, ⟨.bool (false), _, rfl, rfl, rfl⟩⟩) (v := .tuple #[.slice none 0 0, .bool (false)]) rfl ?_
        have hN : formB s = none := by rw [formB, if_pos]; first | exact .inl (by omega) | exact .inr (.inl (by omega)) | exact .inr (.inr (by rw [← e5]; omega))
        exact fun h_ H_ => K _ _ ⟨.slice none 0 0, [], by rw [hN]; rfl, by rw [hN]; exact OwnS.empty _ _, (H_.sub (List.nil_sublist _)).new⟩
      · refine fl_else rfl (decide_eq_false cc3) ?_
        refine fl_skip ?_
        refine fl_seq ?_
        refine fl_seq ?_
        have e4 := e4 (by omega)
        have hdl : (s.drop (((s.length : Nat) : Int) - 5 + 1).toNat).length ≤ 5 := by rw [List.length_drop]; omega
        have hf1 : ¬ (1400 < s.length ∨ s.length < 5 ∨ (s.getD (s.length - 5) 0).toNat ≠ 61) := by rw [← e5]; omega
        refine rl_start ?_
        refine rl_det (met_none rfl) (fun h_ H_ => exd_move (v := sv s) rfl) rfl ?_
        refine rl_det (met_none rfl) (fun h_ H_ => exd_move (v := .int .i64 (((s.length : Nat) : Int) - 5)) rfl) rfl ?_
        refine rl_det (met_none rfl) (fun h_ H_ => exd_add rfl rfl (wr (by omega))) (tm' := _::_::_::_::_::_::_::_::_::_::_::_::_::_::_::_::_::_::_::_::_::_::_::_::_::_::_::_::_::_::_) rfl ?_
        refine rl_det (met_none rfl) (fun h_ H_ => exd_dropS (l := s) (a := (((((s.length : Nat) : Int) - 5) + 1)).toNat) Tryd.underlying9 rfl (.some _ rfl (by omega)) (by omega)) rfl ?_
        refine rl_bytesP (met_none rfl) Tryd.underlying9 Tryd.underlying37 Tryd.underlying5 (l := s.drop ((((((s.length : Nat) : Int) - 5) + 1)).toNat)) rfl fun p4 a5 cp6 le7 D8 _ => ?_
        refine rl_det (met_none rfl) (fun h_ H_ => exd_len Tryd.underlying37 rfl) (tm' := _::_::_::_::_::_::_::_::_::_::_::_::_::_::_::_::_::_::_::_::_::_::_::_::_::_::_::_::_::_::_::_::_::_) rfl ?_
        refine rl_det (met_none rfl) (fun h_ H_ => exd_move (v := .int .i64 0) rfl) rfl ?_
        refine rl_end ?_
        refine fl_block ?_
        refine fl_loop (m₀ := (s.drop (((s.length : Nat) : Int) - 5 + 1).toNat).length - 0) (fun m_ tm_ h_ => ∃ (k : Nat), m_ = (s.drop (((s.length : Nat) : Int) - 5 + 1).toNat).length - k ∧ (∃ y9 : Nat → Value, tm_ = [sv s, undef, (y9 2), (y9 3), .int .i64 (((s.length : Nat) : Int) - 5), undef, (y9 6), undef, undef, undef, undef, sv s, .int .i64 (((s.length : Nat) : Int)), .int .i64 (((s.length : Nat) : Int) - 5), sv s, .int .i64 (((s.length : Nat) : Int)), .bool (decide (1400 < ((s.length : Nat) : Int))), .bool (decide (1400 < ((s.length : Nat) : Int))), .int .i64 (((s.length : Nat) : Int) - 5), .bool (decide (((s.length : Nat) : Int) - 5 < 0)), .bool (decide (((s.length : Nat) : Int) - 5 < 0)), .bool (decide (((s.length : Nat) : Int) - 5 < 0)), sv s, .int .i64 (((s.length : Nat) : Int) - 5), .int .u8 ((((s.getD (((s.length : Nat) : Int) - 5).toNat 0).toNat : Nat) : Int)), .bool (decide ((((s.getD (((s.length : Nat) : Int) - 5).toNat 0).toNat : Nat) : Int) ≠ 61)), .bool (decide ((((s.getD (((s.length : Nat) : Int) - 5).toNat 0).toNat : Nat) : Int) ≠ 61)), sv s, .int .i64 (((s.length : Nat) : Int) - 5), .int .i64 ((((s.length : Nat) : Int) - 5) + 1), sv (s.drop ((((((s.length : Nat) : Int) - 5) + 1)).toNat)), .slice a5 ((s.drop ((((((s.length : Nat) : Int) - 5) + 1)).toNat)).length) cp6, .int .i64 ((((s.drop ((((((s.length : Nat) : Int) - 5) + 1)).toNat)).length : Nat) : Int)), .int .i64 (((k : Nat) : Int)), (y9 34), (y9 35), (y9 36), (y9 37), (y9 38), (y9 39), (y9 40), (y9 41), (y9 42), (y9 43), undef, undef, undef, undef, undef, undef, undef, undef, undef, undef, undef, undef, undef, undef, undef, undef, undef, undef, undef, undef, undef, undef, undef, undef, undef, undef, undef, undef, undef, undef, undef, undef, undef, undef, undef, undef, undef, undef, undef, undef, undef, undef, undef, undef, undef, undef, undef, undef, undef, undef, undef, undef, undef, undef, undef, undef, undef, undef]) ∧ (k ≤ (s.drop (((s.length : Nat) : Int) - 5 + 1).toNat).length) ∧ (∀ i, i < k → 48 ≤ ((s.drop (((s.length : Nat) : Int) - 5 + 1).toNat).getD i 0).toNat ∧ ((s.drop (((s.length : Nat) : Int) - 5 + 1).toNat).getD i 0).toNat ≤ 57) ∧ St h [] p4 h_ ([])) (fun h_ H_ => ⟨0, rfl, (y_of rfl), Nat.zero_le _, (fun i hi => absurd hi (Nat.not_lt_zero i)), H_⟩) ?_
        intro m_ tm_ IH10
        refine rs_ex fun k => rs_and fun hm_ => rs_and fun ht_ => rs_and fun hk => rs_and fun hd => ?_
        subst hm_; obtain ⟨y9, ht_⟩ := ht_; subst ht_
        refine fl_seq ?_
        refine rl_start ?_
        refine rl_det (met_none rfl) (fun h_ H_ => exd_lss rfl rfl) rfl ?_
        refine rl_end ?_
        refine fl_seq ?_
        by_cases cc11 : ((k : Nat) : Int) < (((s.drop ((((((s.length : Nat) : Int) - 5) + 1)).toNat)).length : Nat) : Int)
        · refine fl_then rfl (decide_eq_true cc11) ?_
          refine fl_skip ?_
          refine fl_seq ?_
          refine fl_block ?_
          refine fl_seq ?_
          refine rl_start ?_
          refine rl_det (met_none rfl) (fun h_ H_ => exd_indexAddrN (i := k) Tryd.underlying37 tS5 (sl_ne a5 ((s.drop ((((((s.length : Nat) : Int) - 5) + 1)).toNat)).length) cp6 (D8.ne (by omega))) rfl (by omega)) (tm' := _::_::_::_::_::_::_::_::_::_::_::_::_::_::_::_::_::_::_::_::_::_::_::_::_::_::_::_::_::_::_::_::_::_::_::_::_) rfl ?_
          refine rl_det (met_none rfl) (fun h_ H_ => exd_load_per H_ tA5 rfl (v := .int .u8 (((((s.drop ((((((s.length : Nat) : Int) - 5) + 1)).toNat)).getD k 0).toNat : Nat) : Int))) (D8.get (by omega))) rfl ?_
          refine rl_det (met_none rfl) (fun h_ H_ => exd_assign (v := .int .u8 (((((s.drop ((((((s.length : Nat) : Int) - 5) + 1)).toNat)).getD k 0).toNat : Nat) : Int))) rfl) rfl ?_
          refine rl_end ?_
          refine fl_seq ?_
          refine rl_start ?_
          refine rl_det (met_none rfl) (fun h_ H_ => exd_move (v := .int .u8 (((((s.drop ((((((s.length : Nat) : Int) - 5) + 1)).toNat)).getD k 0).toNat : Nat) : Int))) rfl) (tm' := _::_::_::_::_::_::_::_::_::_::_::_::_::_::_::_::_::_::_::_::_::_::_::_::_::_::_::_::_::_::_::_::_::_::_::_::_::_::_) rfl ?_
          refine rl_det (met_none rfl) (fun h_ H_ => exd_lss rfl rfl) rfl ?_
          refine rl_det (met_none rfl) (fun h_ H_ => exd_move (v := .bool (decide (((((s.drop ((((((s.length : Nat) : Int) - 5) + 1)).toNat)).getD k 0).toNat : Nat) : Int) < 48))) rfl) rfl ?_
          by_cases cc12 : ((((s.drop ((((((s.length : Nat) : Int) - 5) + 1)).toNat)).getD k 0).toNat : Nat) : Int) < 48
          · refine rl_pass (met_not rfl rfl (decide_eq_true cc12)) (tm' := _::_::_::_::_::_::_::_::_::_::_::_::_::_::_::_::_::_::_::_::_::_::_::_::_::_::_::_::_::_::_::_::_::_::_::_::_::_::_::_::_::_) rfl ?_
            refine rl_pass (met_not rfl rfl (decide_eq_true cc12)) rfl ?_
            refine rl_det (met_none rfl) (fun h_ H_ => exd_pick_t rfl (decide_eq_true cc12) (v := .bool (true)) rfl) rfl ?_
            refine rl_end ?_
            refine fl_then rfl rfl ?_
            refine fl_seq ?_
            refine rl_start ?_
            refine rl_det (met_none rfl) (fun h_ H_ => exd_assign (v := .slice none 0 0) rfl) (tm' := _::_::_::_) rfl ?_
            refine rl_det (met_none rfl) (fun h_ H_ => exd_assign (v := .bool (false)) rfl) rfl ?_
            refine rl_end ?_
            refine fl_ret Tryd.func52 rfl (vs := [.slice none 0 0, .bool (false)]) (fun h_ H_ => ⟨.slice none 0 0, _, rfl, rfl, ⟨.bool (false), _, rfl, rfl, rfl⟩⟩) (v := .tuple #[.slice none 0 0, .bool (false)]) rfl ?_
            have hN : formB s = none := by rw [formB, if_neg hf1, if_pos ⟨(s.drop (s.length - 4)).getD k 0, gmem (by rw [← e4]; omega), by rw [← e4]; omega⟩]
            exact fun h_ H_ => K _ _ ⟨.slice none 0 0, [], by rw [hN]; rfl, by rw [hN]; exact OwnS.empty _ _, (H_.sub (List.nil_sublist _)).new⟩
          · refine rl_det (met_some rfl rfl (decide_eq_false cc12)) (fun h_ H_ => exd_move (v := .int .u8 (((((s.drop ((((((s.length : Nat) : Int) - 5) + 1)).toNat)).getD k 0).toNat : Nat) : Int))) rfl) rfl ?_
            refine rl_det (met_some rfl rfl (decide_eq_false cc12)) (fun h_ H_ => exd_gtr rfl rfl) (tm' := _::_::_::_::_::_::_::_::_::_::_::_::_::_::_::_::_::_::_::_::_::_::_::_::_::_::_::_::_::_::_::_::_::_::_::_::_::_::_::_::_::_::_) rfl ?_
            refine rl_det (met_none rfl) (fun h_ H_ => exd_pick_f rfl (decide_eq_false cc12) (v := .bool (decide (57 < ((((s.drop ((((((s.length : Nat) : Int) - 5) + 1)).toNat)).getD k 0).toNat : Nat) : Int)))) rfl) rfl ?_
            refine rl_end ?_
            by_cases cc13 : 57 < ((((s.drop ((((((s.length : Nat) : Int) - 5) + 1)).toNat)).getD k 0).toNat : Nat) : Int)
            · refine fl_then rfl (decide_eq_true cc13) ?_
              refine fl_seq ?_
              refine rl_start ?_
              refine rl_det (met_none rfl) (fun h_ H_ => exd_assign (v := .slice none 0 0) rfl) rfl ?_
              refine rl_det (met_none rfl) (fun h_ H_ => exd_assign (v := .bool (false)) rfl) (tm' := _::_::_::_::_) rfl ?_
              refine rl_end ?_
              refine fl_ret Tryd.func52 rfl (vs := [.slice none 0 0, .bool (false)]) (fun h_ H_ => ⟨.slice none 0 0, _, rfl, rfl, ⟨.bool (false), _, rfl, rfl, rfl⟩⟩) (v := .tuple #[.slice none 0 0, .bool (false)]) rfl ?_
              have hN : formB s = none := by rw [formB, if_neg hf1, if_pos ⟨(s.drop (s.length - 4)).getD k 0, gmem (by rw [← e4]; omega), by rw [← e4]; omega⟩]
              exact fun h_ H_ => K _ _ ⟨.slice none 0 0, [], by rw [hN]; rfl, by rw [hN]; exact OwnS.empty _ _, (H_.sub (List.nil_sublist _)).new⟩
            · refine fl_else rfl (decide_eq_false cc13) ?_
              refine fl_skip ?_
              refine fl_inBlock ?_
              refine rl_start ?_
              refine rl_det (met_none rfl) (fun h_ H_ => exd_add rfl rfl (n := ((k + 1 : Nat) : Int)) (wr (by omega))) rfl ?_
              refine rl_det (met_none rfl) (fun h_ H_ => exd_move (v := .int .i64 (((k + 1 : Nat) : Int))) rfl) rfl ?_
              refine rl_end ?_
              exact fun h_ H_ => IH10 _ _ (by omega) h_ ⟨k + 1, rfl, (y_of rfl), (by omega), (upto_step hd (by omega)), H_⟩
        · refine fl_else rfl (decide_eq_false cc11) ?_
          refine fl_exit rfl ?_
          refine fl_seq ?_
          have hf2 : ¬ ∃ c ∈ s.drop (s.length - 4), c.toNat < 48 ∨ 57 < c.toNat := by
            rintro ⟨c, hc, hz⟩
            have hd' := hd
            rw [e4] at hd'
            have hk3 : (s.drop (s.length - 4)).length ≤ k := by rw [← e4]; omega
            have hq := gall (d := 0) (P := fun c : UInt8 => 48 ≤ c.toNat ∧ c.toNat ≤ 57) (fun i hi => hd' i (by omega)) c hc
            omega
          refine rl_start ?_
          refine rl_det (met_none rfl) (fun h_ H_ => exd_assign (v := .slice none 0 0) rfl) (tm' := _::_::_::_::_::_::_::_::_) rfl ?_
          refine rl_end ?_
          refine fl_seq ?_
          refine fl_seq ?_
          refine rl_start ?_
          refine rl_det (met_none rfl) (fun h_ H_ => exd_move (v := sv s) rfl) rfl ?_
          refine rl_det (met_none rfl) (fun h_ H_ => exd_move (v := .int .i64 (((s.length : Nat) : Int) - 5)) rfl) rfl ?_
          refine rl_det (met_none rfl) (fun h_ H_ => exd_takeS (l := s) (r := ((((s.length : Nat) : Int) - 5)).toNat) Tryd.underlying9 rfl (.some _ rfl (by omega)) (by omega)) (tm' := _::_::_::_::_::_::_::_::_::_::_::_::_::_::_::_::_::_::_::_::_::_::_::_::_::_::_::_::_::_::_::_::_::_::_::_::_::_::_::_::_::_::_::_::_::_::_::_) rfl ?_
          refine rl_det (met_none rfl) (fun h_ H_ => exd_assign (v := sv (s.take (((((s.length : Nat) : Int) - 5)).toNat))) rfl) rfl ?_
          refine rl_end ?_
          refine fl_block ?_
          refine fl_loop (m₀ := _) (fun m_ tm_ h_ => ∃ (out : List Pie) (rest : By) (w1 : Value) (X1 : Pcs), m_ = rest.length ∧ (∃ y14 : Nat → Value, tm_ = [sv s, undef, (y14 2), (y14 3), .int .i64 (((s.length : Nat) : Int) - 5), undef, (y9 6), w1, sv rest, (y14 9), (y14 10), sv s, .int .i64 (((s.length : Nat) : Int)), .int .i64 (((s.length : Nat) : Int) - 5), sv s, .int .i64 (((s.length : Nat) : Int)), .bool (decide (1400 < ((s.length : Nat) : Int))), .bool (decide (1400 < ((s.length : Nat) : Int))), .int .i64 (((s.length : Nat) : Int) - 5), .bool (decide (((s.length : Nat) : Int) - 5 < 0)), .bool (decide (((s.length : Nat) : Int) - 5 < 0)), .bool (decide (((s.length : Nat) : Int) - 5 < 0)), sv s, .int .i64 (((s.length : Nat) : Int) - 5), .int .u8 ((((s.getD (((s.length : Nat) : Int) - 5).toNat 0).toNat : Nat) : Int)), .bool (decide ((((s.getD (((s.length : Nat) : Int) - 5).toNat 0).toNat : Nat) : Int) ≠ 61)), .bool (decide ((((s.getD (((s.length : Nat) : Int) - 5).toNat 0).toNat : Nat) : Int) ≠ 61)), sv s, .int .i64 (((s.length : Nat) : Int) - 5), .int .i64 ((((s.length : Nat) : Int) - 5) + 1), sv (s.drop ((((((s.length : Nat) : Int) - 5) + 1)).toNat)), .slice a5 ((s.drop ((((((s.length : Nat) : Int) - 5) + 1)).toNat)).length) cp6, .int .i64 ((((s.drop ((((((s.length : Nat) : Int) - 5) + 1)).toNat)).length : Nat) : Int)), .int .i64 (((k : Nat) : Int)), .bool (decide (((k : Nat) : Int) < (((s.drop ((((((s.length : Nat) : Int) - 5) + 1)).toNat)).length : Nat) : Int))), (y9 35), (y9 36), (y9 37), (y9 38), (y9 39), (y9 40), (y9 41), (y9 42), (y9 43), sv s, .int .i64 (((s.length : Nat) : Int) - 5), sv (s.take (((((s.length : Nat) : Int) - 5)).toNat)), (y14 47), (y14 48), (y14 49), (y14 50), (y14 51), (y14 52), (y14 53), (y14 54), (y14 55), (y14 56), (y14 57), (y14 58), (y14 59), (y14 60), (y14 61), (y14 62), (y14 63), (y14 64), (y14 65), (y14 66), (y14 67), (y14 68), (y14 69), (y14 70), (y14 71), (y14 72), (y14 73), (y14 74), (y14 75), (y14 76), (y14 77), (y14 78), (y14 79), (y14 80), (y14 81), (y14 82), (y14 83), (y14 84), (y14 85), (y14 86), (y14 87), (y14 88), (y14 89), (y14 90), (y14 91), (y14 92), (y14 93), (y14 94), (y14 95), (y14 96), (y14 97), (y14 98), (y14 99), (y14 100), undef]) ∧ (2 * out.length + rest.length ≤ 1400) ∧ (prsS out rest = prsS [] (s.take (s.length - 5))) ∧ (OwnS 60 2 w1 (pies out) X1) ∧ St h [] p4 h_ (([] : Pcs) ++ (X1 ++ []))) (fun h_ H_ => ⟨[], _, (.slice none 0 0), [], rfl, (y_of rfl), (by simp only [List.length_nil, List.length_take]; omega), (by rw [e5]), (OwnS.empty _ _), H_⟩) ?_
          intro m_ tm_ IH15
          refine rs_ex fun out => rs_ex fun rest => rs_ex fun w1 => rs_ex fun X1 => rs_and fun hm_ => rs_and fun ht_ => rs_and fun hb => rs_and fun hR => rs_and fun o1 => ?_
          subst hm_; obtain ⟨y14, ht_⟩ := ht_; subst ht_
          refine fl_seq ?_
          refine fl_seq ?_
          refine rl_start ?_
          refine rl_det (met_none rfl) (fun h_ H_ => exd_move (v := sv rest) rfl) rfl ?_
          refine rl_det (met_none rfl) (fun h_ H_ => exd_neqS (l := rest) (m := ([] : List UInt8)) rfl rfl) (tm' := _::_::_::_::_::_::_::_::_::_::_::_::_::_::_::_::_::_::_::_::_::_::_::_::_::_::_::_::_::_::_::_::_::_::_::_::_::_::_::_::_::_::_::_::_::_::_::_::_::_) rfl ?_
          refine rl_end ?_
          by_cases cc16 : rest = ([] : List UInt8)
          · refine fl_else rfl (not_f (decide_eq_true cc16)) ?_
            refine fl_exit rfl ?_
            refine fl_seq ?_
            refine rl_start ?_
            refine rl_det (met_none rfl) (fun h_ H_ => exd_move (v := w1) rfl) rfl ?_
            refine rl_det (met_none rfl) (fun h_ H_ => exd_assign (v := w1) rfl) rfl ?_
            refine rl_det (met_none rfl) (fun h_ H_ => exd_assign (v := .bool (true)) rfl) (tm' := _::_::_::_::_) rfl ?_
            refine rl_end ?_
            refine fl_ret Tryd.func52 rfl (vs := [w1, .bool (true)]) (fun h_ H_ => ⟨w1, _, rfl, rfl, ⟨.bool (true), _, rfl, rfl, rfl⟩⟩) (v := .tuple #[w1, .bool (true)]) rfl ?_
            have hr0 : rest = [] := ‹rest = []›
            have hS : formB s = some out := by rw [formB, if_neg hf1, if_neg hf2, ← hR, hr0, prs_end]
            exact fun h_ H_ => K _ _ ⟨_, _, by rw [hS]; rfl, by rw [hS]; exact o1, by simpa using H_.dropA.new⟩
          · refine fl_then rfl (not_t (decide_eq_false cc16)) ?_
            refine fl_skip ?_
            refine fl_block ?_
            refine fl_seq ?_
            refine fl_seq ?_
            have hne := List.length_pos_iff.2 ‹¬ rest = []›
            refine rl_start ?_
            refine rl_det (met_none rfl) (fun h_ H_ => exd_move (v := sv rest) rfl) rfl ?_
            refine rl_det (met_none rfl) (fun h_ H_ => exd_lenS (l := rest) Tryd.underlying9 rfl) rfl ?_
            refine rl_det (met_none rfl) (fun h_ H_ => exd_lss rfl rfl) (tm' := _::_::_::_::_::_::_::_::_::_::_::_::_::_::_::_::_::_::_::_::_::_::_::_::_::_::_::_::_::_::_::_::_::_::_::_::_::_::_::_::_::_::_::_::_::_::_::_::_::_::_::_::_) rfl ?_
            refine rl_det (met_none rfl) (fun h_ H_ => exd_move (v := .bool (decide (((rest.length : Nat) : Int) < 2))) rfl) rfl ?_
            by_cases cc17 : ((rest.length : Nat) : Int) < 2
            · refine rl_pass (met_not rfl rfl (decide_eq_true cc17)) rfl ?_
              refine rl_pass (met_not rfl rfl (decide_eq_true cc17)) (tm' := _::_::_::_::_::_::_::_::_::_::_::_::_::_::_::_::_::_::_::_::_::_::_::_::_::_::_::_::_::_::_::_::_::_::_::_::_::_::_::_::_::_::_::_::_::_::_::_::_::_::_::_::_::_::_::_) rfl ?_
              refine rl_pass (met_not rfl rfl (decide_eq_true cc17)) rfl ?_
              refine rl_pass (met_not rfl rfl (decide_eq_true cc17)) rfl ?_
              refine rl_det (met_none rfl) (fun h_ H_ => exd_pick_t rfl (decide_eq_true cc17) (v := .bool (true)) rfl) (tm' := _::_::_::_::_::_::_::_::_::_::_::_::_::_::_::_::_::_::_::_::_::_::_::_::_::_::_::_::_::_::_::_::_::_::_::_::_::_::_::_::_::_::_::_::_::_::_::_::_::_::_::_::_::_::_::_::_::_::_) rfl ?_
              refine rl_det (met_none rfl) (fun h_ H_ => exd_move (v := .bool (true)) rfl) rfl ?_
              refine rl_pass (met_not rfl rfl rfl) rfl ?_
              refine rl_pass (met_not rfl rfl rfl) (tm' := _::_::_::_::_::_::_::_::_::_::_::_::_::_::_::_::_::_::_::_::_::_::_::_::_::_::_::_::_::_::_::_::_::_::_::_::_::_::_::_::_::_::_::_::_::_::_::_::_::_::_::_::_::_::_::_::_::_::_::_::_::_) rfl ?_
              refine rl_pass (met_not rfl rfl rfl) rfl ?_
              refine rl_pass (met_not rfl rfl rfl) rfl ?_
              refine rl_det (met_none rfl) (fun h_ H_ => exd_pick_t rfl rfl (v := .bool (true)) rfl) (tm' := _::_::_::_::_::_::_::_::_::_::_::_::_::_::_::_::_::_::_::_::_::_::_::_::_::_::_::_::_::_::_::_::_::_::_::_::_::_::_::_::_::_::_::_::_::_::_::_::_::_::_::_::_::_::_::_::_::_::_::_::_::_::_::_::_) rfl ?_
              refine rl_end ?_
              refine fl_then rfl rfl ?_
              refine fl_seq ?_
              refine rl_start ?_
              refine rl_det (met_none rfl) (fun h_ H_ => exd_assign (v := .slice none 0 0) rfl) rfl ?_
              refine rl_det (met_none rfl) (fun h_ H_ => exd_assign (v := .bool (false)) rfl) rfl ?_
              refine rl_end ?_
              refine fl_ret Tryd.func52 rfl (vs := [.slice none 0 0, .bool (false)]) (fun h_ H_ => ⟨.slice none 0 0, _, rfl, rfl, ⟨.bool (false), _, rfl, rfl, rfl⟩⟩) (v := .tuple #[.slice none 0 0, .bool (false)]) rfl ?_
              have hN : formB s = none := by
                rw [formB, if_neg hf1, if_neg hf2, ← hR]
                refine prs_none (List.length_pos_iff.1 hne) ?_
                first | exact pie_bad (.inl (by omega)) | exact pie_bad (.inr (.inl (by assumption))) | exact pie_bad (.inr (.inr (by assumption))) | (rw [hp2, if_neg ‹_›, if_neg (by omega), if_pos (by omega)])
              exact fun h_ H_ => K _ _ ⟨.slice none 0 0, [], by rw [hN]; rfl, by rw [hN]; exact OwnS.empty _ _, (H_.sub (List.nil_sublist _)).new⟩
            · refine rl_det (met_some rfl rfl (decide_eq_false cc17)) (fun h_ H_ => exd_move (v := sv rest) rfl) (tm' := _::_::_::_::_::_::_::_::_::_::_::_::_::_::_::_::_::_::_::_::_::_::_::_::_::_::_::_::_::_::_::_::_::_::_::_::_::_::_::_::_::_::_::_::_::_::_::_::_::_::_::_::_::_::_) rfl ?_
              refine rl_det (met_some rfl rfl (decide_eq_false cc17)) (fun h_ H_ => exd_indexSN (l := rest) (i := 0) Tryd.underlying9 rfl rfl (by omega)) rfl ?_
              refine rl_calld (met_some rfl rfl (decide_eq_false cc17)) (first := []) (cap := []) rfl rfl fC69 (fun h_ H_ => c69 .lone _ ((((rest.getD 0 0).toNat : Nat) : Int))) rfl ?_
              refine rl_det (met_some rfl rfl (decide_eq_false cc17)) (fun h_ H_ => exd_not rfl) (tm' := _::_::_::_::_::_::_::_::_::_::_::_::_::_::_::_::_::_::_::_::_::_::_::_::_::_::_::_::_::_::_::_::_::_::_::_::_::_::_::_::_::_::_::_::_::_::_::_::_::_::_::_::_::_::_::_::_::_) rfl ?_
              refine rl_det (met_none rfl) (fun h_ H_ => exd_pick_f rfl (decide_eq_false cc17) (v := .bool (!(decide (65 ≤ (((rest.getD 0 0).toNat : Nat) : Int) ∧ (((rest.getD 0 0).toNat : Nat) : Int) ≤ 90)))) rfl) rfl ?_
              refine rl_det (met_none rfl) (fun h_ H_ => exd_move (v := .bool (!(decide (65 ≤ (((rest.getD 0 0).toNat : Nat) : Int) ∧ (((rest.getD 0 0).toNat : Nat) : Int) ≤ 90)))) rfl) rfl ?_
              by_cases cc18 : 65 ≤ (((rest.getD 0 0).toNat : Nat) : Int) ∧ (((rest.getD 0 0).toNat : Nat) : Int) ≤ 90
              · refine rl_det (met_some rfl rfl (not_f (decide_eq_true cc18))) (fun h_ H_ => exd_move (v := sv rest) rfl) (tm' := _::_::_::_::_::_::_::_::_::_::_::_::_::_::_::_::_::_::_::_::_::_::_::_::_::_::_::_::_::_::_::_::_::_::_::_::_::_::_::_::_::_::_::_::_::_::_::_::_::_::_::_::_::_::_::_::_::_::_::_::_) rfl ?_
                refine rl_det (met_some rfl rfl (not_f (decide_eq_true cc18))) (fun h_ H_ => exd_indexSN (l := rest) (i := 1) Tryd.underlying9 rfl rfl (by omega)) rfl ?_
                refine rl_calld (met_some rfl rfl (not_f (decide_eq_true cc18))) (first := []) (cap := []) rfl rfl fC69 (fun h_ H_ => c69 .lone _ ((((rest.getD 1 0).toNat : Nat) : Int))) rfl ?_
                refine rl_det (met_some rfl rfl (not_f (decide_eq_true cc18))) (fun h_ H_ => exd_not rfl) (tm' := _::_::_::_::_::_::_::_::_::_::_::_::_::_::_::_::_::_::_::_::_::_::_::_::_::_::_::_::_::_::_::_::_::_::_::_::_::_::_::_::_::_::_::_::_::_::_::_::_::_::_::_::_::_::_::_::_::_::_::_::_::_::_::_) rfl ?_
                refine rl_det (met_none rfl) (fun h_ H_ => exd_pick_f rfl (not_f (decide_eq_true cc18)) (v := .bool (!(decide (65 ≤ (((rest.getD 1 0).toNat : Nat) : Int) ∧ (((rest.getD 1 0).toNat : Nat) : Int) ≤ 90)))) rfl) rfl ?_
                refine rl_end ?_
                by_cases cc19 : 65 ≤ (((rest.getD 1 0).toNat : Nat) : Int) ∧ (((rest.getD 1 0).toNat : Nat) : Int) ≤ 90
                · refine fl_else rfl (not_f (decide_eq_true cc19)) ?_
                  refine fl_skip ?_
                  refine fl_seq ?_
                  have hp2 := pie_ok (s := rest) (by omega) (by assumption) (by assumption)
                  obtain ⟨Gb22, hG11_⟩ := sk1 (fun (v_ : Value) (x_ : Pcs) (b22 : Nat) => v_ = .pointer (some ⟨b22, 0, none⟩) ∧ x_ = (([(b22, .cells #[.int .i64 0, .int .i64 0] 60 (0, 0))] : Pcs) ++ []))
                  refine rs_as (fl_mixed2 (C := []) (A := ([] : Pcs)) 12 [] [12] [12, 11] [0, 1, 2, 3, 4, 5, 6, 7, 8, 9, 10] (fun i_ => match i_ with | 12 => X1 | _ => []) (fun _ => []) (fun i_ => match i_ with | 0 => [] | 1 => [0] | 2 => [1] | 3 => [2] | 4 => [3] | 5 => [] | 6 => [5] | 7 => [6] | 8 => [7] | 9 => [4, 8] | 10 => [9] | 11 => [] | _ => []) (fun i_ val_ pc_ v_ x_ => match i_ with | 0 => v_ = sv rest ∧ x_ = [] | 1 => v_ = .int .u8 ((((rest.getD 0 0).toNat : Nat) : Int)) ∧ x_ = [] | 2 => v_ = .int .u8 ((((rest.getD 0 0).toNat : Nat) : Int) - 65) ∧ x_ = [] | 3 => v_ = .int .i64 ((((rest.getD 0 0).toNat : Nat) : Int) - 65) ∧ x_ = [] | 4 => v_ = .int .i64 (((((rest.getD 0 0).toNat : Nat) : Int) - 65) * 26) ∧ x_ = [] | 5 => v_ = sv rest ∧ x_ = [] | 6 => v_ = .int .u8 ((((rest.getD 1 0).toNat : Nat) : Int)) ∧ x_ = [] | 7 => v_ = .int .u8 ((((rest.getD 1 0).toNat : Nat) : Int) - 65) ∧ x_ = [] | 8 => v_ = .int .i64 ((((rest.getD 1 0).toNat : Nat) : Int) - 65) ∧ x_ = [] | 9 => v_ = .int .i64 ((((((rest.getD 0 0).toNat : Nat) : Int) - 65) * 26) + ((((rest.getD 1 0).toNat : Nat) : Int) - 65)) ∧ x_ = [] | 10 => v_ = .agg #[.int .i64 ((((((rest.getD 0 0).toNat : Nat) : Int) - 65) * 26) + ((((rest.getD 1 0).toNat : Nat) : Int) - 65)), .int .i64 (-1)] ∧ x_ = [] | 11 => ∃ b22 : Nat, v_ = .pointer (some ⟨b22, 0, none⟩) ∧ x_ = (([(b22, .cells #[.int .i64 0, .int .i64 0] 60 (0, 0))] : Pcs) ++ []) | _ => True) (fun val20 => [sv s, undef, (y14 2), (y14 3), .int .i64 (((s.length : Nat) : Int) - 5), undef, (y9 6), w1, sv rest, (val20 11), (y14 10), sv s, .int .i64 (((s.length : Nat) : Int)), .int .i64 (((s.length : Nat) : Int) - 5), sv s, .int .i64 (((s.length : Nat) : Int)), .bool (decide (1400 < ((s.length : Nat) : Int))), .bool (decide (1400 < ((s.length : Nat) : Int))), .int .i64 (((s.length : Nat) : Int) - 5), .bool (decide (((s.length : Nat) : Int) - 5 < 0)), .bool (decide (((s.length : Nat) : Int) - 5 < 0)), .bool (decide (((s.length : Nat) : Int) - 5 < 0)), sv s, .int .i64 (((s.length : Nat) : Int) - 5), .int .u8 ((((s.getD (((s.length : Nat) : Int) - 5).toNat 0).toNat : Nat) : Int)), .bool (decide ((((s.getD (((s.length : Nat) : Int) - 5).toNat 0).toNat : Nat) : Int) ≠ 61)), .bool (decide ((((s.getD (((s.length : Nat) : Int) - 5).toNat 0).toNat : Nat) : Int) ≠ 61)), sv s, .int .i64 (((s.length : Nat) : Int) - 5), .int .i64 ((((s.length : Nat) : Int) - 5) + 1), sv (s.drop ((((((s.length : Nat) : Int) - 5) + 1)).toNat)), .slice a5 ((s.drop ((((((s.length : Nat) : Int) - 5) + 1)).toNat)).length) cp6, .int .i64 ((((s.drop ((((((s.length : Nat) : Int) - 5) + 1)).toNat)).length : Nat) : Int)), .int .i64 (((k : Nat) : Int)), .bool (decide (((k : Nat) : Int) < (((s.drop ((((((s.length : Nat) : Int) - 5) + 1)).toNat)).length : Nat) : Int))), (y9 35), (y9 36), (y9 37), (y9 38), (y9 39), (y9 40), (y9 41), (y9 42), (y9 43), sv s, .int .i64 (((s.length : Nat) : Int) - 5), sv (s.take (((((s.length : Nat) : Int) - 5)).toNat)), sv rest, .bool (!decide (rest = ([] : List UInt8))), sv rest, .int .i64 (((rest.length : Nat) : Int)), .bool (decide (((rest.length : Nat) : Int) < 2)), .bool (decide (((rest.length : Nat) : Int) < 2)), sv rest, .int .u8 ((((rest.getD 0 0).toNat : Nat) : Int)), .bool (decide (65 ≤ (((rest.getD 0 0).toNat : Nat) : Int) ∧ (((rest.getD 0 0).toNat : Nat) : Int) ≤ 90)), .bool (!(decide (65 ≤ (((rest.getD 0 0).toNat : Nat) : Int) ∧ (((rest.getD 0 0).toNat : Nat) : Int) ≤ 90))), .bool (!(decide (65 ≤ (((rest.getD 0 0).toNat : Nat) : Int) ∧ (((rest.getD 0 0).toNat : Nat) : Int) ≤ 90))), .bool (!(decide (65 ≤ (((rest.getD 0 0).toNat : Nat) : Int) ∧ (((rest.getD 0 0).toNat : Nat) : Int) ≤ 90))), sv rest, .int .u8 ((((rest.getD 1 0).toNat : Nat) : Int)), .bool (decide (65 ≤ (((rest.getD 1 0).toNat : Nat) : Int) ∧ (((rest.getD 1 0).toNat : Nat) : Int) ≤ 90)), .bool (!(decide (65 ≤ (((rest.getD 1 0).toNat : Nat) : Int) ∧ (((rest.getD 1 0).toNat : Nat) : Int) ≤ 90))), .bool (!(decide (65 ≤ (((rest.getD 1 0).toNat : Nat) : Int) ∧ (((rest.getD 1 0).toNat : Nat) : Int) ≤ 90))), (val20 0), (val20 1), (val20 2), (val20 3), (val20 4), (val20 5), (val20 6), (val20 7), (val20 8), (val20 9), (val20 10), (y14 75), (y14 76), (y14 77), (y14 78), (y14 79), (y14 80), (y14 81), (y14 82), (y14 83), (y14 84), (y14 85), (y14 86), (y14 87), (y14 88), (y14 89), (y14 90), (y14 91), (y14 92), (y14 93), (y14 94), (y14 95), (y14 96), (y14 97), (y14 98), (y14 99), (y14 100), undef]) mixed (by kernel_rfl) (Nat.le_of_ble_eq_true rfl) (by kernel_rfl) (by kernel_rfl) (by kernel_rfl) (fun _ _ => ⟨fun _ _ h => h.2, ⟨fun _ _ h => h.2, ⟨fun _ _ h => h.2, ⟨fun _ _ h => h.2, ⟨fun _ _ h => h.2, ⟨fun _ _ h => h.2, ⟨fun _ _ h => h.2, ⟨fun _ _ h => h.2, ⟨fun _ _ h => h.2, ⟨fun _ _ h => h.2, ⟨fun _ _ h => h.2, trivial⟩⟩⟩⟩⟩⟩⟩⟩⟩⟩⟩) (fun _ => by kernel_rfl) (by kernel_rfl) ?_ ?_) (fun h_ H_ => St.swap (A := ([] : Pcs)) (U := (X1 ++ [])) H_)
                  · refine mixes_cons rfl (opmix2 ?_) ?_
                    · intro val20 pc21 hQ_ hX_
                      obtain ⟨q_, hq0_⟩ : ∃ q_ : Value → Pcs → Prop, q_ = (fun v_ x_ => v_ = sv rest ∧ x_ = []) := ⟨_, rfl⟩
                      refine ⟨[sv s, undef, (y14 2), (y14 3), .int .i64 (((s.length : Nat) : Int) - 5), undef, (y9 6), w1, sv rest, (val20 11), (y14 10), sv s, .int .i64 (((s.length : Nat) : Int)), .int .i64 (((s.length : Nat) : Int) - 5), sv s, .int .i64 (((s.length : Nat) : Int)), .bool (decide (1400 < ((s.length : Nat) : Int))), .bool (decide (1400 < ((s.length : Nat) : Int))), .int .i64 (((s.length : Nat) : Int) - 5), .bool (decide (((s.length : Nat) : Int) - 5 < 0)), .bool (decide (((s.length : Nat) : Int) - 5 < 0)), .bool (decide (((s.length : Nat) : Int) - 5 < 0)), sv s, .int .i64 (((s.length : Nat) : Int) - 5), .int .u8 ((((s.getD (((s.length : Nat) : Int) - 5).toNat 0).toNat : Nat) : Int)), .bool (decide ((((s.getD (((s.length : Nat) : Int) - 5).toNat 0).toNat : Nat) : Int) ≠ 61)), .bool (decide ((((s.getD (((s.length : Nat) : Int) - 5).toNat 0).toNat : Nat) : Int) ≠ 61)), sv s, .int .i64 (((s.length : Nat) : Int) - 5), .int .i64 ((((s.length : Nat) : Int) - 5) + 1), sv (s.drop ((((((s.length : Nat) : Int) - 5) + 1)).toNat)), .slice a5 ((s.drop ((((((s.length : Nat) : Int) - 5) + 1)).toNat)).length) cp6, .int .i64 ((((s.drop ((((((s.length : Nat) : Int) - 5) + 1)).toNat)).length : Nat) : Int)), .int .i64 (((k : Nat) : Int)), .bool (decide (((k : Nat) : Int) < (((s.drop ((((((s.length : Nat) : Int) - 5) + 1)).toNat)).length : Nat) : Int))), (y9 35), (y9 36), (y9 37), (y9 38), (y9 39), (y9 40), (y9 41), (y9 42), (y9 43), sv s, .int .i64 (((s.length : Nat) : Int) - 5), sv (s.take (((((s.length : Nat) : Int) - 5)).toNat)), sv rest, .bool (!decide (rest = ([] : List UInt8))), sv rest, .int .i64 (((rest.length : Nat) : Int)), .bool (decide (((rest.length : Nat) : Int) < 2)), .bool (decide (((rest.length : Nat) : Int) < 2)), sv rest, .int .u8 ((((rest.getD 0 0).toNat : Nat) : Int)), .bool (decide (65 ≤ (((rest.getD 0 0).toNat : Nat) : Int) ∧ (((rest.getD 0 0).toNat : Nat) : Int) ≤ 90)), .bool (!(decide (65 ≤ (((rest.getD 0 0).toNat : Nat) : Int) ∧ (((rest.getD 0 0).toNat : Nat) : Int) ≤ 90))), .bool (!(decide (65 ≤ (((rest.getD 0 0).toNat : Nat) : Int) ∧ (((rest.getD 0 0).toNat : Nat) : Int) ≤ 90))), .bool (!(decide (65 ≤ (((rest.getD 0 0).toNat : Nat) : Int) ∧ (((rest.getD 0 0).toNat : Nat) : Int) ≤ 90))), sv rest, .int .u8 ((((rest.getD 1 0).toNat : Nat) : Int)), .bool (decide (65 ≤ (((rest.getD 1 0).toNat : Nat) : Int) ∧ (((rest.getD 1 0).toNat : Nat) : Int) ≤ 90)), .bool (!(decide (65 ≤ (((rest.getD 1 0).toNat : Nat) : Int) ∧ (((rest.getD 1 0).toNat : Nat) : Int) ≤ 90))), .bool (!(decide (65 ≤ (((rest.getD 1 0).toNat : Nat) : Int) ∧ (((rest.getD 1 0).toNat : Nat) : Int) ≤ 90))), (val20 0), (val20 1), (val20 2), (val20 3), (val20 4), (val20 5), (val20 6), (val20 7), (val20 8), (val20 9), (val20 10), (y14 75), (y14 76), (y14 77), (y14 78), (y14 79), (y14 80), (y14 81), (y14 82), (y14 83), (y14 84), (y14 85), (y14 86), (y14 87), (y14 88), (y14 89), (y14 90), (y14 91), (y14 92), (y14 93), (y14 94), (y14 95), (y14 96), (y14 97), (y14 98), (y14 99), (y14 100), undef], [], q_, rfl, rfl, (fun _ _ z_ => by subst hq0_; exact z_), ?_⟩
                      subst hq0_
                      exact mix_det (met_none rfl) (fun _ h_ H_ => exd_move (v := sv rest) rfl) ⟨rfl, rfl⟩
                    refine mixes_cons rfl (opmix2 ?_) ?_
                    · intro val20 pc21 hQ_ hX_
                      have e0_ : val20 0 = sv rest := (hQ_ 0 rfl).1
                      obtain ⟨q_, hq0_⟩ : ∃ q_ : Value → Pcs → Prop, q_ = (fun v_ x_ => v_ = .int .u8 ((((rest.getD 0 0).toNat : Nat) : Int)) ∧ x_ = []) := ⟨_, rfl⟩
                      refine ⟨[sv s, undef, (y14 2), (y14 3), .int .i64 (((s.length : Nat) : Int) - 5), undef, (y9 6), w1, sv rest, (val20 11), (y14 10), sv s, .int .i64 (((s.length : Nat) : Int)), .int .i64 (((s.length : Nat) : Int) - 5), sv s, .int .i64 (((s.length : Nat) : Int)), .bool (decide (1400 < ((s.length : Nat) : Int))), .bool (decide (1400 < ((s.length : Nat) : Int))), .int .i64 (((s.length : Nat) : Int) - 5), .bool (decide (((s.length : Nat) : Int) - 5 < 0)), .bool (decide (((s.length : Nat) : Int) - 5 < 0)), .bool (decide (((s.length : Nat) : Int) - 5 < 0)), sv s, .int .i64 (((s.length : Nat) : Int) - 5), .int .u8 ((((s.getD (((s.length : Nat) : Int) - 5).toNat 0).toNat : Nat) : Int)), .bool (decide ((((s.getD (((s.length : Nat) : Int) - 5).toNat 0).toNat : Nat) : Int) ≠ 61)), .bool (decide ((((s.getD (((s.length : Nat) : Int) - 5).toNat 0).toNat : Nat) : Int) ≠ 61)), sv s, .int .i64 (((s.length : Nat) : Int) - 5), .int .i64 ((((s.length : Nat) : Int) - 5) + 1), sv (s.drop ((((((s.length : Nat) : Int) - 5) + 1)).toNat)), .slice a5 ((s.drop ((((((s.length : Nat) : Int) - 5) + 1)).toNat)).length) cp6, .int .i64 ((((s.drop ((((((s.length : Nat) : Int) - 5) + 1)).toNat)).length : Nat) : Int)), .int .i64 (((k : Nat) : Int)), .bool (decide (((k : Nat) : Int) < (((s.drop ((((((s.length : Nat) : Int) - 5) + 1)).toNat)).length : Nat) : Int))), (y9 35), (y9 36), (y9 37), (y9 38), (y9 39), (y9 40), (y9 41), (y9 42), (y9 43), sv s, .int .i64 (((s.length : Nat) : Int) - 5), sv (s.take (((((s.length : Nat) : Int) - 5)).toNat)), sv rest, .bool (!decide (rest = ([] : List UInt8))), sv rest, .int .i64 (((rest.length : Nat) : Int)), .bool (decide (((rest.length : Nat) : Int) < 2)), .bool (decide (((rest.length : Nat) : Int) < 2)), sv rest, .int .u8 ((((rest.getD 0 0).toNat : Nat) : Int)), .bool (decide (65 ≤ (((rest.getD 0 0).toNat : Nat) : Int) ∧ (((rest.getD 0 0).toNat : Nat) : Int) ≤ 90)), .bool (!(decide (65 ≤ (((rest.getD 0 0).toNat : Nat) : Int) ∧ (((rest.getD 0 0).toNat : Nat) : Int) ≤ 90))), .bool (!(decide (65 ≤ (((rest.getD 0 0).toNat : Nat) : Int) ∧ (((rest.getD 0 0).toNat : Nat) : Int) ≤ 90))), .bool (!(decide (65 ≤ (((rest.getD 0 0).toNat : Nat) : Int) ∧ (((rest.getD 0 0).toNat : Nat) : Int) ≤ 90))), sv rest, .int .u8 ((((rest.getD 1 0).toNat : Nat) : Int)), .bool (decide (65 ≤ (((rest.getD 1 0).toNat : Nat) : Int) ∧ (((rest.getD 1 0).toNat : Nat) : Int) ≤ 90)), .bool (!(decide (65 ≤ (((rest.getD 1 0).toNat : Nat) : Int) ∧ (((rest.getD 1 0).toNat : Nat) : Int) ≤ 90))), .bool (!(decide (65 ≤ (((rest.getD 1 0).toNat : Nat) : Int) ∧ (((rest.getD 1 0).toNat : Nat) : Int) ≤ 90))), sv rest, (val20 1), (val20 2), (val20 3), (val20 4), (val20 5), (val20 6), (val20 7), (val20 8), (val20 9), (val20 10), (y14 75), (y14 76), (y14 77), (y14 78), (y14 79), (y14 80), (y14 81), (y14 82), (y14 83), (y14 84), (y14 85), (y14 86), (y14 87), (y14 88), (y14 89), (y14 90), (y14 91), (y14 92), (y14 93), (y14 94), (y14 95), (y14 96), (y14 97), (y14 98), (y14 99), (y14 100), undef], [], q_, (by simp only [e0_]), rfl, (fun _ _ z_ => by subst hq0_; exact z_), ?_⟩
                      subst hq0_
                      exact mix_det (met_none rfl) (fun _ h_ H_ => exd_indexSN (l := rest) (i := 0) Tryd.underlying9 rfl rfl (by omega)) ⟨rfl, rfl⟩
                    refine mixes_cons rfl (opmix2 ?_) ?_
                    · intro val20 pc21 hQ_ hX_
                      have e1_ : val20 1 = .int .u8 ((((rest.getD 0 0).toNat : Nat) : Int)) := (hQ_ 1 rfl).1
                      obtain ⟨q_, hq0_⟩ : ∃ q_ : Value → Pcs → Prop, q_ = (fun v_ x_ => v_ = .int .u8 ((((rest.getD 0 0).toNat : Nat) : Int) - 65) ∧ x_ = []) := ⟨_, rfl⟩
                      refine ⟨[sv s, undef, (y14 2), (y14 3), .int .i64 (((s.length : Nat) : Int) - 5), undef, (y9 6), w1, sv rest, (val20 11), (y14 10), sv s, .int .i64 (((s.length : Nat) : Int)), .int .i64 (((s.length : Nat) : Int) - 5), sv s, .int .i64 (((s.length : Nat) : Int)), .bool (decide (1400 < ((s.length : Nat) : Int))), .bool (decide (1400 < ((s.length : Nat) : Int))), .int .i64 (((s.length : Nat) : Int) - 5), .bool (decide (((s.length : Nat) : Int) - 5 < 0)), .bool (decide (((s.length : Nat) : Int) - 5 < 0)), .bool (decide (((s.length : Nat) : Int) - 5 < 0)), sv s, .int .i64 (((s.length : Nat) : Int) - 5), .int .u8 ((((s.getD (((s.length : Nat) : Int) - 5).toNat 0).toNat : Nat) : Int)), .bool (decide ((((s.getD (((s.length : Nat) : Int) - 5).toNat 0).toNat : Nat) : Int) ≠ 61)), .bool (decide ((((s.getD (((s.length : Nat) : Int) - 5).toNat 0).toNat : Nat) : Int) ≠ 61)), sv s, .int .i64 (((s.length : Nat) : Int) - 5), .int .i64 ((((s.length : Nat) : Int) - 5) + 1), sv (s.drop ((((((s.length : Nat) : Int) - 5) + 1)).toNat)), .slice a5 ((s.drop ((((((s.length : Nat) : Int) - 5) + 1)).toNat)).length) cp6, .int .i64 ((((s.drop ((((((s.length : Nat) : Int) - 5) + 1)).toNat)).length : Nat) : Int)), .int .i64 (((k : Nat) : Int)), .bool (decide (((k : Nat) : Int) < (((s.drop ((((((s.length : Nat) : Int) - 5) + 1)).toNat)).length : Nat) : Int))), (y9 35), (y9 36), (y9 37), (y9 38), (y9 39), (y9 40), (y9 41), (y9 42), (y9 43), sv s, .int .i64 (((s.length : Nat) : Int) - 5), sv (s.take (((((s.length : Nat) : Int) - 5)).toNat)), sv rest, .bool (!decide (rest = ([] : List UInt8))), sv rest, .int .i64 (((rest.length : Nat) : Int)), .bool (decide (((rest.length : Nat) : Int) < 2)), .bool (decide (((rest.length : Nat) : Int) < 2)), sv rest, .int .u8 ((((rest.getD 0 0).toNat : Nat) : Int)), .bool (decide (65 ≤ (((rest.getD 0 0).toNat : Nat) : Int) ∧ (((rest.getD 0 0).toNat : Nat) : Int) ≤ 90)), .bool (!(decide (65 ≤ (((rest.getD 0 0).toNat : Nat) : Int) ∧ (((rest.getD 0 0).toNat : Nat) : Int) ≤ 90))), .bool (!(decide (65 ≤ (((rest.getD 0 0).toNat : Nat) : Int) ∧ (((rest.getD 0 0).toNat : Nat) : Int) ≤ 90))), .bool (!(decide (65 ≤ (((rest.getD 0 0).toNat : Nat) : Int) ∧ (((rest.getD 0 0).toNat : Nat) : Int) ≤ 90))), sv rest, .int .u8 ((((rest.getD 1 0).toNat : Nat) : Int)), .bool (decide (65 ≤ (((rest.getD 1 0).toNat : Nat) : Int) ∧ (((rest.getD 1 0).toNat : Nat) : Int) ≤ 90)), .bool (!(decide (65 ≤ (((rest.getD 1 0).toNat : Nat) : Int) ∧ (((rest.getD 1 0).toNat : Nat) : Int) ≤ 90))), .bool (!(decide (65 ≤ (((rest.getD 1 0).toNat : Nat) : Int) ∧ (((rest.getD 1 0).toNat : Nat) : Int) ≤ 90))), (val20 0), .int .u8 ((((rest.getD 0 0).toNat : Nat) : Int)), (val20 2), (val20 3), (val20 4), (val20 5), (val20 6), (val20 7), (val20 8), (val20 9), (val20 10), (y14 75), (y14 76), (y14 77), (y14 78), (y14 79), (y14 80), (y14 81), (y14 82), (y14 83), (y14 84), (y14 85), (y14 86), (y14 87), (y14 88), (y14 89), (y14 90), (y14 91), (y14 92), (y14 93), (y14 94), (y14 95), (y14 96), (y14 97), (y14 98), (y14 99), (y14 100), undef], [], q_, (by simp only [e1_]), rfl, (fun _ _ z_ => by subst hq0_; exact z_), ?_⟩
                      subst hq0_
                      exact mix_det (met_none rfl) (fun _ h_ H_ => exd_sub rfl rfl (wr8 (by omega))) ⟨rfl, rfl⟩
                    refine mixes_cons rfl (opmix2 ?_) ?_
                    · intro val20 pc21 hQ_ hX_
                      have e2_ : val20 2 = .int .u8 ((((rest.getD 0 0).toNat : Nat) : Int) - 65) := (hQ_ 2 rfl).1
                      obtain ⟨q_, hq0_⟩ : ∃ q_ : Value → Pcs → Prop, q_ = (fun v_ x_ => v_ = .int .i64 ((((rest.getD 0 0).toNat : Nat) : Int) - 65) ∧ x_ = []) := ⟨_, rfl⟩
                      refine ⟨[sv s, undef, (y14 2), (y14 3), .int .i64 (((s.length : Nat) : Int) - 5), undef, (y9 6), w1, sv rest, (val20 11), (y14 10), sv s, .int .i64 (((s.length : Nat) : Int)), .int .i64 (((s.length : Nat) : Int) - 5), sv s, .int .i64 (((s.length : Nat) : Int)), .bool (decide (1400 < ((s.length : Nat) : Int))), .bool (decide (1400 < ((s.length : Nat) : Int))), .int .i64 (((s.length : Nat) : Int) - 5), .bool (decide (((s.length : Nat) : Int) - 5 < 0)), .bool (decide (((s.length : Nat) : Int) - 5 < 0)), .bool (decide (((s.length : Nat) : Int) - 5 < 0)), sv s, .int .i64 (((s.length : Nat) : Int) - 5), .int .u8 ((((s.getD (((s.length : Nat) : Int) - 5).toNat 0).toNat : Nat) : Int)), .bool (decide ((((s.getD (((s.length : Nat) : Int) - 5).toNat 0).toNat : Nat) : Int) ≠ 61)), .bool (decide ((((s.getD (((s.length : Nat) : Int) - 5).toNat 0).toNat : Nat) : Int) ≠ 61)), sv s, .int .i64 (((s.length : Nat) : Int) - 5), .int .i64 ((((s.length : Nat) : Int) - 5) + 1), sv (s.drop ((((((s.length : Nat) : Int) - 5) + 1)).toNat)), .slice a5 ((s.drop ((((((s.length : Nat) : Int) - 5) + 1)).toNat)).length) cp6, .int .i64 ((((s.drop ((((((s.length : Nat) : Int) - 5) + 1)).toNat)).length : Nat) : Int)), .int .i64 (((k : Nat) : Int)), .bool (decide (((k : Nat) : Int) < (((s.drop ((((((s.length : Nat) : Int) - 5) + 1)).toNat)).length : Nat) : Int))), (y9 35), (y9 36), (y9 37), (y9 38), (y9 39), (y9 40), (y9 41), (y9 42), (y9 43), sv s, .int .i64 (((s.length : Nat) : Int) - 5), sv (s.take (((((s.length : Nat) : Int) - 5)).toNat)), sv rest, .bool (!decide (rest = ([] : List UInt8))), sv rest, .int .i64 (((rest.length : Nat) : Int)), .bool (decide (((rest.length : Nat) : Int) < 2)), .bool (decide (((rest.length : Nat) : Int) < 2)), sv rest, .int .u8 ((((rest.getD 0 0).toNat : Nat) : Int)), .bool (decide (65 ≤ (((rest.getD 0 0).toNat : Nat) : Int) ∧ (((rest.getD 0 0).toNat : Nat) : Int) ≤ 90)), .bool (!(decide (65 ≤ (((rest.getD 0 0).toNat : Nat) : Int) ∧ (((rest.getD 0 0).toNat : Nat) : Int) ≤ 90))), .bool (!(decide (65 ≤ (((rest.getD 0 0).toNat : Nat) : Int) ∧ (((rest.getD 0 0).toNat : Nat) : Int) ≤ 90))), .bool (!(decide (65 ≤ (((rest.getD 0 0).toNat : Nat) : Int) ∧ (((rest.getD 0 0).toNat : Nat) : Int) ≤ 90))), sv rest, .int .u8 ((((rest.getD 1 0).toNat : Nat) : Int)), .bool (decide (65 ≤ (((rest.getD 1 0).toNat : Nat) : Int) ∧ (((rest.getD 1 0).toNat : Nat) : Int) ≤ 90)), .bool (!(decide (65 ≤ (((rest.getD 1 0).toNat : Nat) : Int) ∧ (((rest.getD 1 0).toNat : Nat) : Int) ≤ 90))), .bool (!(decide (65 ≤ (((rest.getD 1 0).toNat : Nat) : Int) ∧ (((rest.getD 1 0).toNat : Nat) : Int) ≤ 90))), (val20 0), (val20 1), .int .u8 ((((rest.getD 0 0).toNat : Nat) : Int) - 65), (val20 3), (val20 4), (val20 5), (val20 6), (val20 7), (val20 8), (val20 9), (val20 10), (y14 75), (y14 76), (y14 77), (y14 78), (y14 79), (y14 80), (y14 81), (y14 82), (y14 83), (y14 84), (y14 85), (y14 86), (y14 87), (y14 88), (y14 89), (y14 90), (y14 91), (y14 92), (y14 93), (y14 94), (y14 95), (y14 96), (y14 97), (y14 98), (y14 99), (y14 100), undef], [], q_, (by simp only [e2_]), rfl, (fun _ _ z_ => by subst hq0_; exact z_), ?_⟩
                      subst hq0_
                      exact mix_det (met_none rfl) (fun _ h_ H_ => exd_conv ⟨_, Tryd.underlying5⟩ Tryd.underlying3 rfl (n := (((rest.getD 0 0).toNat : Nat) : Int) - 65) (wr (by omega))) ⟨rfl, rfl⟩
                    refine mixes_cons rfl (opmix2 ?_) ?_
                    · intro val20 pc21 hQ_ hX_
                      have e3_ : val20 3 = .int .i64 ((((rest.getD 0 0).toNat : Nat) : Int) - 65) := (hQ_ 3 rfl).1
                      obtain ⟨q_, hq0_⟩ : ∃ q_ : Value → Pcs → Prop, q_ = (fun v_ x_ => v_ = .int .i64 (((((rest.getD 0 0).toNat : Nat) : Int) - 65) * 26) ∧ x_ = []) := ⟨_, rfl⟩
                      refine ⟨[sv s, undef, (y14 2), (y14 3), .int .i64 (((s.length : Nat) : Int) - 5), undef, (y9 6), w1, sv rest, (val20 11), (y14 10), sv s, .int .i64 (((s.length : Nat) : Int)), .int .i64 (((s.length : Nat) : Int) - 5), sv s, .int .i64 (((s.length : Nat) : Int)), .bool (decide (1400 < ((s.length : Nat) : Int))), .bool (decide (1400 < ((s.length : Nat) : Int))), .int .i64 (((s.length : Nat) : Int) - 5), .bool (decide (((s.length : Nat) : Int) - 5 < 0)), .bool (decide (((s.length : Nat) : Int) - 5 < 0)), .bool (decide (((s.length : Nat) : Int) - 5 < 0)), sv s, .int .i64 (((s.length : Nat) : Int) - 5), .int .u8 ((((s.getD (((s.length : Nat) : Int) - 5).toNat 0).toNat : Nat) : Int)), .bool (decide ((((s.getD (((s.length : Nat) : Int) - 5).toNat 0).toNat : Nat) : Int) ≠ 61)), .bool (decide ((((s.getD (((s.length : Nat) : Int) - 5).toNat 0).toNat : Nat) : Int) ≠ 61)), sv s, .int .i64 (((s.length : Nat) : Int) - 5), .int .i64 ((((s.length : Nat) : Int) - 5) + 1), sv (s.drop ((((((s.length : Nat) : Int) - 5) + 1)).toNat)), .slice a5 ((s.drop ((((((s.length : Nat) : Int) - 5) + 1)).toNat)).length) cp6, .int .i64 ((((s.drop ((((((s.length : Nat) : Int) - 5) + 1)).toNat)).length : Nat) : Int)), .int .i64 (((k : Nat) : Int)), .bool (decide (((k : Nat) : Int) < (((s.drop ((((((s.length : Nat) : Int) - 5) + 1)).toNat)).length : Nat) : Int))), (y9 35), (y9 36), (y9 37), (y9 38), (y9 39), (y9 40), (y9 41), (y9 42), (y9 43), sv s, .int .i64 (((s.length : Nat) : Int) - 5), sv (s.take (((((s.length : Nat) : Int) - 5)).toNat)), sv rest, .bool (!decide (rest = ([] : List UInt8))), sv rest, .int .i64 (((rest.length : Nat) : Int)), .bool (decide (((rest.length : Nat) : Int) < 2)), .bool (decide (((rest.length : Nat) : Int) < 2)), sv rest, .int .u8 ((((rest.getD 0 0).toNat : Nat) : Int)), .bool (decide (65 ≤ (((rest.getD 0 0).toNat : Nat) : Int) ∧ (((rest.getD 0 0).toNat : Nat) : Int) ≤ 90)), .bool (!(decide (65 ≤ (((rest.getD 0 0).toNat : Nat) : Int) ∧ (((rest.getD 0 0).toNat : Nat) : Int) ≤ 90))), .bool (!(decide (65 ≤ (((rest.getD 0 0).toNat : Nat) : Int) ∧ (((rest.getD 0 0).toNat : Nat) : Int) ≤ 90))), .bool (!(decide (65 ≤ (((rest.getD 0 0).toNat : Nat) : Int) ∧ (((rest.getD 0 0).toNat : Nat) : Int) ≤ 90))), sv rest, .int .u8 ((((rest.getD 1 0).toNat : Nat) : Int)), .bool (decide (65 ≤ (((rest.getD 1 0).toNat : Nat) : Int) ∧ (((rest.getD 1 0).toNat : Nat) : Int) ≤ 90)), .bool (!(decide (65 ≤ (((rest.getD 1 0).toNat : Nat) : Int) ∧ (((rest.getD 1 0).toNat : Nat) : Int) ≤ 90))), .bool (!(decide (65 ≤ (((rest.getD 1 0).toNat : Nat) : Int) ∧ (((rest.getD 1 0).toNat : Nat) : Int) ≤ 90))), (val20 0), (val20 1), (val20 2), .int .i64 ((((rest.getD 0 0).toNat : Nat) : Int) - 65), (val20 4), (val20 5), (val20 6), (val20 7), (val20 8), (val20 9), (val20 10), (y14 75), (y14 76), (y14 77), (y14 78), (y14 79), (y14 80), (y14 81), (y14 82), (y14 83), (y14 84), (y14 85), (y14 86), (y14 87), (y14 88), (y14 89), (y14 90), (y14 91), (y14 92), (y14 93), (y14 94), (y14 95), (y14 96), (y14 97), (y14 98), (y14 99), (y14 100), undef], [], q_, (by simp only [e3_]), rfl, (fun _ _ z_ => by subst hq0_; exact z_), ?_⟩
                      subst hq0_
                      exact mix_det (met_none rfl) (fun _ h_ H_ => exd_mul rfl rfl (wr (by omega))) ⟨rfl, rfl⟩
                    refine mixes_cons rfl (opmix2 ?_) ?_
                    · intro val20 pc21 hQ_ hX_
                      obtain ⟨q_, hq0_⟩ : ∃ q_ : Value → Pcs → Prop, q_ = (fun v_ x_ => v_ = sv rest ∧ x_ = []) := ⟨_, rfl⟩
                      refine ⟨[sv s, undef, (y14 2), (y14 3), .int .i64 (((s.length : Nat) : Int) - 5), undef, (y9 6), w1, sv rest, (val20 11), (y14 10), sv s, .int .i64 (((s.length : Nat) : Int)), .int .i64 (((s.length : Nat) : Int) - 5), sv s, .int .i64 (((s.length : Nat) : Int)), .bool (decide (1400 < ((s.length : Nat) : Int))), .bool (decide (1400 < ((s.length : Nat) : Int))), .int .i64 (((s.length : Nat) : Int) - 5), .bool (decide (((s.length : Nat) : Int) - 5 < 0)), .bool (decide (((s.length : Nat) : Int) - 5 < 0)), .bool (decide (((s.length : Nat) : Int) - 5 < 0)), sv s, .int .i64 (((s.length : Nat) : Int) - 5), .int .u8 ((((s.getD (((s.length : Nat) : Int) - 5).toNat 0).toNat : Nat) : Int)), .bool (decide ((((s.getD (((s.length : Nat) : Int) - 5).toNat 0).toNat : Nat) : Int) ≠ 61)), .bool (decide ((((s.getD (((s.length : Nat) : Int) - 5).toNat 0).toNat : Nat) : Int) ≠ 61)), sv s, .int .i64 (((s.length : Nat) : Int) - 5), .int .i64 ((((s.length : Nat) : Int) - 5) + 1), sv (s.drop ((((((s.length : Nat) : Int) - 5) + 1)).toNat)), .slice a5 ((s.drop ((((((s.length : Nat) : Int) - 5) + 1)).toNat)).length) cp6, .int .i64 ((((s.drop ((((((s.length : Nat) : Int) - 5) + 1)).toNat)).length : Nat) : Int)), .int .i64 (((k : Nat) : Int)), .bool (decide (((k : Nat) : Int) < (((s.drop ((((((s.length : Nat) : Int) - 5) + 1)).toNat)).length : Nat) : Int))), (y9 35), (y9 36), (y9 37), (y9 38), (y9 39), (y9 40), (y9 41), (y9 42), (y9 43), sv s, .int .i64 (((s.length : Nat) : Int) - 5), sv (s.take (((((s.length : Nat) : Int) - 5)).toNat)), sv rest, .bool (!decide (rest = ([] : List UInt8))), sv rest, .int .i64 (((rest.length : Nat) : Int)), .bool (decide (((rest.length : Nat) : Int) < 2)), .bool (decide (((rest.length : Nat) : Int) < 2)), sv rest, .int .u8 ((((rest.getD 0 0).toNat : Nat) : Int)), .bool (decide (65 ≤ (((rest.getD 0 0).toNat : Nat) : Int) ∧ (((rest.getD 0 0).toNat : Nat) : Int) ≤ 90)), .bool (!(decide (65 ≤ (((rest.getD 0 0).toNat : Nat) : Int) ∧ (((rest.getD 0 0).toNat : Nat) : Int) ≤ 90))), .bool (!(decide (65 ≤ (((rest.getD 0 0).toNat : Nat) : Int) ∧ (((rest.getD 0 0).toNat : Nat) : Int) ≤ 90))), .bool (!(decide (65 ≤ (((rest.getD 0 0).toNat : Nat) : Int) ∧ (((rest.getD 0 0).toNat : Nat) : Int) ≤ 90))), sv rest, .int .u8 ((((rest.getD 1 0).toNat : Nat) : Int)), .bool (decide (65 ≤ (((rest.getD 1 0).toNat : Nat) : Int) ∧ (((rest.getD 1 0).toNat : Nat) : Int) ≤ 90)), .bool (!(decide (65 ≤ (((rest.getD 1 0).toNat : Nat) : Int) ∧ (((rest.getD 1 0).toNat : Nat) : Int) ≤ 90))), .bool (!(decide (65 ≤ (((rest.getD 1 0).toNat : Nat) : Int) ∧ (((rest.getD 1 0).toNat : Nat) : Int) ≤ 90))), (val20 0), (val20 1), (val20 2), (val20 3), (val20 4), (val20 5), (val20 6), (val20 7), (val20 8), (val20 9), (val20 10), (y14 75), (y14 76), (y14 77), (y14 78), (y14 79), (y14 80), (y14 81), (y14 82), (y14 83), (y14 84), (y14 85), (y14 86), (y14 87), (y14 88), (y14 89), (y14 90), (y14 91), (y14 92), (y14 93), (y14 94), (y14 95), (y14 96), (y14 97), (y14 98), (y14 99), (y14 100), undef], [], q_, rfl, rfl, (fun _ _ z_ => by subst hq0_; exact z_), ?_⟩
                      subst hq0_
                      exact mix_det (met_none rfl) (fun _ h_ H_ => exd_move (v := sv rest) rfl) ⟨rfl, rfl⟩
                    refine mixes_cons rfl (opmix2 ?_) ?_
                    · intro val20 pc21 hQ_ hX_
                      have e5_ : val20 5 = sv rest := (hQ_ 5 rfl).1
                      obtain ⟨q_, hq0_⟩ : ∃ q_ : Value → Pcs → Prop, q_ = (fun v_ x_ => v_ = .int .u8 ((((rest.getD 1 0).toNat : Nat) : Int)) ∧ x_ = []) := ⟨_, rfl⟩
                      refine ⟨[sv s, undef, (y14 2), (y14 3), .int .i64 (((s.length : Nat) : Int) - 5), undef, (y9 6), w1, sv rest, (val20 11), (y14 10), sv s, .int .i64 (((s.length : Nat) : Int)), .int .i64 (((s.length : Nat) : Int) - 5), sv s, .int .i64 (((s.length : Nat) : Int)), .bool (decide (1400 < ((s.length : Nat) : Int))), .bool (decide (1400 < ((s.length : Nat) : Int))), .int .i64 (((s.length : Nat) : Int) - 5), .bool (decide (((s.length : Nat) : Int) - 5 < 0)), .bool (decide (((s.length : Nat) : Int) - 5 < 0)), .bool (decide (((s.length : Nat) : Int) - 5 < 0)), sv s, .int .i64 (((s.length : Nat) : Int) - 5), .int .u8 ((((s.getD (((s.length : Nat) : Int) - 5).toNat 0).toNat : Nat) : Int)), .bool (decide ((((s.getD (((s.length : Nat) : Int) - 5).toNat 0).toNat : Nat) : Int) ≠ 61)), .bool (decide ((((s.getD (((s.length : Nat) : Int) - 5).toNat 0).toNat : Nat) : Int) ≠ 61)), sv s, .int .i64 (((s.length : Nat) : Int) - 5), .int .i64 ((((s.length : Nat) : Int) - 5) + 1), sv (s.drop ((((((s.length : Nat) : Int) - 5) + 1)).toNat)), .slice a5 ((s.drop ((((((s.length : Nat) : Int) - 5) + 1)).toNat)).length) cp6, .int .i64 ((((s.drop ((((((s.length : Nat) : Int) - 5) + 1)).toNat)).length : Nat) : Int)), .int .i64 (((k : Nat) : Int)), .bool (decide (((k : Nat) : Int) < (((s.drop ((((((s.length : Nat) : Int) - 5) + 1)).toNat)).length : Nat) : Int))), (y9 35), (y9 36), (y9 37), (y9 38), (y9 39), (y9 40), (y9 41), (y9 42), (y9 43), sv s, .int .i64 (((s.length : Nat) : Int) - 5), sv (s.take (((((s.length : Nat) : Int) - 5)).toNat)), sv rest, .bool (!decide (rest = ([] : List UInt8))), sv rest, .int .i64 (((rest.length : Nat) : Int)), .bool (decide (((rest.length : Nat) : Int) < 2)), .bool (decide (((rest.length : Nat) : Int) < 2)), sv rest, .int .u8 ((((rest.getD 0 0).toNat : Nat) : Int)), .bool (decide (65 ≤ (((rest.getD 0 0).toNat : Nat) : Int) ∧ (((rest.getD 0 0).toNat : Nat) : Int) ≤ 90)), .bool (!(decide (65 ≤ (((rest.getD 0 0).toNat : Nat) : Int) ∧ (((rest.getD 0 0).toNat : Nat) : Int) ≤ 90))), .bool (!(decide (65 ≤ (((rest.getD 0 0).toNat : Nat) : Int) ∧ (((rest.getD 0 0).toNat : Nat) : Int) ≤ 90))), .bool (!(decide (65 ≤ (((rest.getD 0 0).toNat : Nat) : Int) ∧ (((rest.getD 0 0).toNat : Nat) : Int) ≤ 90))), sv rest, .int .u8 ((((rest.getD 1 0).toNat : Nat) : Int)), .bool (decide (65 ≤ (((rest.getD 1 0).toNat : Nat) : Int) ∧ (((rest.getD 1 0).toNat : Nat) : Int) ≤ 90)), .bool (!(decide (65 ≤ (((rest.getD 1 0).toNat : Nat) : Int) ∧ (((rest.getD 1 0).toNat : Nat) : Int) ≤ 90))), .bool (!(decide (65 ≤ (((rest.getD 1 0).toNat : Nat) : Int) ∧ (((rest.getD 1 0).toNat : Nat) : Int) ≤ 90))), (val20 0), (val20 1), (val20 2), (val20 3), (val20 4), sv rest, (val20 6), (val20 7), (val20 8), (val20 9), (val20 10), (y14 75), (y14 76), (y14 77), (y14 78), (y14 79), (y14 80), (y14 81), (y14 82), (y14 83), (y14 84), (y14 85), (y14 86), (y14 87), (y14 88), (y14 89), (y14 90), (y14 91), (y14 92), (y14 93), (y14 94), (y14 95), (y14 96), (y14 97), (y14 98), (y14 99), (y14 100), undef], [], q_, (by simp only [e5_]), rfl, (fun _ _ z_ => by subst hq0_; exact z_), ?_⟩
                      subst hq0_
                      exact mix_det (met_none rfl) (fun _ h_ H_ => exd_indexSN (l := rest) (i := 1) Tryd.underlying9 rfl rfl (by omega)) ⟨rfl, rfl⟩
                    refine mixes_cons rfl (opmix2 ?_) ?_
                    · intro val20 pc21 hQ_ hX_
                      have e6_ : val20 6 = .int .u8 ((((rest.getD 1 0).toNat : Nat) : Int)) := (hQ_ 6 rfl).1
                      obtain ⟨q_, hq0_⟩ : ∃ q_ : Value → Pcs → Prop, q_ = (fun v_ x_ => v_ = .int .u8 ((((rest.getD 1 0).toNat : Nat) : Int) - 65) ∧ x_ = []) := ⟨_, rfl⟩
                      refine ⟨[sv s, undef, (y14 2), (y14 3), .int .i64 (((s.length : Nat) : Int) - 5), undef, (y9 6), w1, sv rest, (val20 11), (y14 10), sv s, .int .i64 (((s.length : Nat) : Int)), .int .i64 (((s.length : Nat) : Int) - 5), sv s, .int .i64 (((s.length : Nat) : Int)), .bool (decide (1400 < ((s.length : Nat) : Int))), .bool (decide (1400 < ((s.length : Nat) : Int))), .int .i64 (((s.length : Nat) : Int) - 5), .bool (decide (((s.length : Nat) : Int) - 5 < 0)), .bool (decide (((s.length : Nat) : Int) - 5 < 0)), .bool (decide (((s.length : Nat) : Int) - 5 < 0)), sv s, .int .i64 (((s.length : Nat) : Int) - 5), .int .u8 ((((s.getD (((s.length : Nat) : Int) - 5).toNat 0).toNat : Nat) : Int)), .bool (decide ((((s.getD (((s.length : Nat) : Int) - 5).toNat 0).toNat : Nat) : Int) ≠ 61)), .bool (decide ((((s.getD (((s.length : Nat) : Int) - 5).toNat 0).toNat : Nat) : Int) ≠ 61)), sv s, .int .i64 (((s.length : Nat) : Int) - 5), .int .i64 ((((s.length : Nat) : Int) - 5) + 1), sv (s.drop ((((((s.length : Nat) : Int) - 5) + 1)).toNat)), .slice a5 ((s.drop ((((((s.length : Nat) : Int) - 5) + 1)).toNat)).length) cp6, .int .i64 ((((s.drop ((((((s.length : Nat) : Int) - 5) + 1)).toNat)).length : Nat) : Int)), .int .i64 (((k : Nat) : Int)), .bool (decide (((k : Nat) : Int) < (((s.drop ((((((s.length : Nat) : Int) - 5) + 1)).toNat)).length : Nat) : Int))), (y9 35), (y9 36), (y9 37), (y9 38), (y9 39), (y9 40), (y9 41), (y9 42), (y9 43), sv s, .int .i64 (((s.length : Nat) : Int) - 5), sv (s.take (((((s.length : Nat) : Int) - 5)).toNat)), sv rest, .bool (!decide (rest = ([] : List UInt8))), sv rest, .int .i64 (((rest.length : Nat) : Int)), .bool (decide (((rest.length : Nat) : Int) < 2)), .bool (decide (((rest.length : Nat) : Int) < 2)), sv rest, .int .u8 ((((rest.getD 0 0).toNat : Nat) : Int)), .bool (decide (65 ≤ (((rest.getD 0 0).toNat : Nat) : Int) ∧ (((rest.getD 0 0).toNat : Nat) : Int) ≤ 90)), .bool (!(decide (65 ≤ (((rest.getD 0 0).toNat : Nat) : Int) ∧ (((rest.getD 0 0).toNat : Nat) : Int) ≤ 90))), .bool (!(decide (65 ≤ (((rest.getD 0 0).toNat : Nat) : Int) ∧ (((rest.getD 0 0).toNat : Nat) : Int) ≤ 90))), .bool (!(decide (65 ≤ (((rest.getD 0 0).toNat : Nat) : Int) ∧ (((rest.getD 0 0).toNat : Nat) : Int) ≤ 90))), sv rest, .int .u8 ((((rest.getD 1 0).toNat : Nat) : Int)), .bool (decide (65 ≤ (((rest.getD 1 0).toNat : Nat) : Int) ∧ (((rest.getD 1 0).toNat : Nat) : Int) ≤ 90)), .bool (!(decide (65 ≤ (((rest.getD 1 0).toNat : Nat) : Int) ∧ (((rest.getD 1 0).toNat : Nat) : Int) ≤ 90))), .bool (!(decide (65 ≤ (((rest.getD 1 0).toNat : Nat) : Int) ∧ (((rest.getD 1 0).toNat : Nat) : Int) ≤ 90))), (val20 0), (val20 1), (val20 2), (val20 3), (val20 4), (val20 5), .int .u8 ((((rest.getD 1 0).toNat : Nat) : Int)), (val20 7), (val20 8), (val20 9), (val20 10), (y14 75), (y14 76), (y14 77), (y14 78), (y14 79), (y14 80), (y14 81), (y14 82), (y14 83), (y14 84), (y14 85), (y14 86), (y14 87), (y14 88), (y14 89), (y14 90), (y14 91), (y14 92), (y14 93), (y14 94), (y14 95), (y14 96), (y14 97), (y14 98), (y14 99), (y14 100), undef], [], q_, (by simp only [e6_]), rfl, (fun _ _ z_ => by subst hq0_; exact z_), ?_⟩
                      subst hq0_
                      exact mix_det (met_none rfl) (fun _ h_ H_ => exd_sub rfl rfl (wr8 (by omega))) ⟨rfl, rfl⟩
                    refine mixes_cons rfl (opmix2 ?_) ?_
                    · intro val20 pc21 hQ_ hX_
                      have e7_ : val20 7 = .int .u8 ((((rest.getD 1 0).toNat : Nat) : Int) - 65) := (hQ_ 7 rfl).1
                      obtain ⟨q_, hq0_⟩ : ∃ q_ : Value → Pcs → Prop, q_ = (fun v_ x_ => v_ = .int .i64 ((((rest.getD 1 0).toNat : Nat) : Int) - 65) ∧ x_ = []) := ⟨_, rfl⟩
                      refine ⟨[sv s, undef, (y14 2), (y14 3), .int .i64 (((s.length : Nat) : Int) - 5), undef, (y9 6), w1, sv rest, (val20 11), (y14 10), sv s, .int .i64 (((s.length : Nat) : Int)), .int .i64 (((s.length : Nat) : Int) - 5), sv s, .int .i64 (((s.length : Nat) : Int)), .bool (decide (1400 < ((s.length : Nat) : Int))), .bool (decide (1400 < ((s.length : Nat) : Int))), .int .i64 (((s.length : Nat) : Int) - 5), .bool (decide (((s.length : Nat) : Int) - 5 < 0)), .bool (decide (((s.length : Nat) : Int) - 5 < 0)), .bool (decide (((s.length : Nat) : Int) - 5 < 0)), sv s, .int .i64 (((s.length : Nat) : Int) - 5), .int .u8 ((((s.getD (((s.length : Nat) : Int) - 5).toNat 0).toNat : Nat) : Int)), .bool (decide ((((s.getD (((s.length : Nat) : Int) - 5).toNat 0).toNat : Nat) : Int) ≠ 61)), .bool (decide ((((s.getD (((s.length : Nat) : Int) - 5).toNat 0).toNat : Nat) : Int) ≠ 61)), sv s, .int .i64 (((s.length : Nat) : Int) - 5), .int .i64 ((((s.length : Nat) : Int) - 5) + 1), sv (s.drop ((((((s.length : Nat) : Int) - 5) + 1)).toNat)), .slice a5 ((s.drop ((((((s.length : Nat) : Int) - 5) + 1)).toNat)).length) cp6, .int .i64 ((((s.drop ((((((s.length : Nat) : Int) - 5) + 1)).toNat)).length : Nat) : Int)), .int .i64 (((k : Nat) : Int)), .bool (decide (((k : Nat) : Int) < (((s.drop ((((((s.length : Nat) : Int) - 5) + 1)).toNat)).length : Nat) : Int))), (y9 35), (y9 36), (y9 37), (y9 38), (y9 39), (y9 40), (y9 41), (y9 42), (y9 43), sv s, .int .i64 (((s.length : Nat) : Int) - 5), sv (s.take (((((s.length : Nat) : Int) - 5)).toNat)), sv rest, .bool (!decide (rest = ([] : List UInt8))), sv rest, .int .i64 (((rest.length : Nat) : Int)), .bool (decide (((rest.length : Nat) : Int) < 2)), .bool (decide (((rest.length : Nat) : Int) < 2)), sv rest, .int .u8 ((((rest.getD 0 0).toNat : Nat) : Int)), .bool (decide (65 ≤ (((rest.getD 0 0).toNat : Nat) : Int) ∧ (((rest.getD 0 0).toNat : Nat) : Int) ≤ 90)), .bool (!(decide (65 ≤ (((rest.getD 0 0).toNat : Nat) : Int) ∧ (((rest.getD 0 0).toNat : Nat) : Int) ≤ 90))), .bool (!(decide (65 ≤ (((rest.getD 0 0).toNat : Nat) : Int) ∧ (((rest.getD 0 0).toNat : Nat) : Int) ≤ 90))), .bool (!(decide (65 ≤ (((rest.getD 0 0).toNat : Nat) : Int) ∧ (((rest.getD 0 0).toNat : Nat) : Int) ≤ 90))), sv rest, .int .u8 ((((rest.getD 1 0).toNat : Nat) : Int)), .bool (decide (65 ≤ (((rest.getD 1 0).toNat : Nat) : Int) ∧ (((rest.getD 1 0).toNat : Nat) : Int) ≤ 90)), .bool (!(decide (65 ≤ (((rest.getD 1 0).toNat : Nat) : Int) ∧ (((rest.getD 1 0).toNat : Nat) : Int) ≤ 90))), .bool (!(decide (65 ≤ (((rest.getD 1 0).toNat : Nat) : Int) ∧ (((rest.getD 1 0).toNat : Nat) : Int) ≤ 90))), (val20 0), (val20 1), (val20 2), (val20 3), (val20 4), (val20 5), (val20 6), .int .u8 ((((rest.getD 1 0).toNat : Nat) : Int) - 65), (val20 8), (val20 9), (val20 10), (y14 75), (y14 76), (y14 77), (y14 78), (y14 79), (y14 80), (y14 81), (y14 82), (y14 83), (y14 84), (y14 85), (y14 86), (y14 87), (y14 88), (y14 89), (y14 90), (y14 91), (y14 92), (y14 93), (y14 94), (y14 95), (y14 96), (y14 97), (y14 98), (y14 99), (y14 100), undef], [], q_, (by simp only [e7_]), rfl, (fun _ _ z_ => by subst hq0_; exact z_), ?_⟩
                      subst hq0_
                      exact mix_det (met_none rfl) (fun _ h_ H_ => exd_conv ⟨_, Tryd.underlying5⟩ Tryd.underlying3 rfl (n := (((rest.getD 1 0).toNat : Nat) : Int) - 65) (wr (by omega))) ⟨rfl, rfl⟩
                    refine mixes_cons rfl (opmix2 ?_) ?_
                    · intro val20 pc21 hQ_ hX_
                      have e4_ : val20 4 = .int .i64 (((((rest.getD 0 0).toNat : Nat) : Int) - 65) * 26) := (hQ_ 4 rfl).1
                      have e8_ : val20 8 = .int .i64 ((((rest.getD 1 0).toNat : Nat) : Int) - 65) := (hQ_ 8 rfl).1
                      obtain ⟨q_, hq0_⟩ : ∃ q_ : Value → Pcs → Prop, q_ = (fun v_ x_ => v_ = .int .i64 ((((((rest.getD 0 0).toNat : Nat) : Int) - 65) * 26) + ((((rest.getD 1 0).toNat : Nat) : Int) - 65)) ∧ x_ = []) := ⟨_, rfl⟩
                      refine ⟨[sv s, undef, (y14 2), (y14 3), .int .i64 (((s.length : Nat) : Int) - 5), undef, (y9 6), w1, sv rest, (val20 11), (y14 10), sv s, .int .i64 (((s.length : Nat) : Int)), .int .i64 (((s.length : Nat) : Int) - 5), sv s, .int .i64 (((s.length : Nat) : Int)), .bool (decide (1400 < ((s.length : Nat) : Int))), .bool (decide (1400 < ((s.length : Nat) : Int))), .int .i64 (((s.length : Nat) : Int) - 5), .bool (decide (((s.length : Nat) : Int) - 5 < 0)), .bool (decide (((s.length : Nat) : Int) - 5 < 0)), .bool (decide (((s.length : Nat) : Int) - 5 < 0)), sv s, .int .i64 (((s.length : Nat) : Int) - 5), .int .u8 ((((s.getD (((s.length : Nat) : Int) - 5).toNat 0).toNat : Nat) : Int)), .bool (decide ((((s.getD (((s.length : Nat) : Int) - 5).toNat 0).toNat : Nat) : Int) ≠ 61)), .bool (decide ((((s.getD (((s.length : Nat) : Int) - 5).toNat 0).toNat : Nat) : Int) ≠ 61)), sv s, .int .i64 (((s.length : Nat) : Int) - 5), .int .i64 ((((s.length : Nat) : Int) - 5) + 1), sv (s.drop ((((((s.length : Nat) : Int) - 5) + 1)).toNat)), .slice a5 ((s.drop ((((((s.length : Nat) : Int) - 5) + 1)).toNat)).length) cp6, .int .i64 ((((s.drop ((((((s.length : Nat) : Int) - 5) + 1)).toNat)).length : Nat) : Int)), .int .i64 (((k : Nat) : Int)), .bool (decide (((k : Nat) : Int) < (((s.drop ((((((s.length : Nat) : Int) - 5) + 1)).toNat)).length : Nat) : Int))), (y9 35), (y9 36), (y9 37), (y9 38), (y9 39), (y9 40), (y9 41), (y9 42), (y9 43), sv s, .int .i64 (((s.length : Nat) : Int) - 5), sv (s.take (((((s.length : Nat) : Int) - 5)).toNat)), sv rest, .bool (!decide (rest = ([] : List UInt8))), sv rest, .int .i64 (((rest.length : Nat) : Int)), .bool (decide (((rest.length : Nat) : Int) < 2)), .bool (decide (((rest.length : Nat) : Int) < 2)), sv rest, .int .u8 ((((rest.getD 0 0).toNat : Nat) : Int)), .bool (decide (65 ≤ (((rest.getD 0 0).toNat : Nat) : Int) ∧ (((rest.getD 0 0).toNat : Nat) : Int) ≤ 90)), .bool (!(decide (65 ≤ (((rest.getD 0 0).toNat : Nat) : Int) ∧ (((rest.getD 0 0).toNat : Nat) : Int) ≤ 90))), .bool (!(decide (65 ≤ (((rest.getD 0 0).toNat : Nat) : Int) ∧ (((rest.getD 0 0).toNat : Nat) : Int) ≤ 90))), .bool (!(decide (65 ≤ (((rest.getD 0 0).toNat : Nat) : Int) ∧ (((rest.getD 0 0).toNat : Nat) : Int) ≤ 90))), sv rest, .int .u8 ((((rest.getD 1 0).toNat : Nat) : Int)), .bool (decide (65 ≤ (((rest.getD 1 0).toNat : Nat) : Int) ∧ (((rest.getD 1 0).toNat : Nat) : Int) ≤ 90)), .bool (!(decide (65 ≤ (((rest.getD 1 0).toNat : Nat) : Int) ∧ (((rest.getD 1 0).toNat : Nat) : Int) ≤ 90))), .bool (!(decide (65 ≤ (((rest.getD 1 0).toNat : Nat) : Int) ∧ (((rest.getD 1 0).toNat : Nat) : Int) ≤ 90))), (val20 0), (val20 1), (val20 2), (val20 3), .int .i64 (((((rest.getD 0 0).toNat : Nat) : Int) - 65) * 26), (val20 5), (val20 6), (val20 7), .int .i64 ((((rest.getD 1 0).toNat : Nat) : Int) - 65), (val20 9), (val20 10), (y14 75), (y14 76), (y14 77), (y14 78), (y14 79), (y14 80), (y14 81), (y14 82), (y14 83), (y14 84), (y14 85), (y14 86), (y14 87), (y14 88), (y14 89), (y14 90), (y14 91), (y14 92), (y14 93), (y14 94), (y14 95), (y14 96), (y14 97), (y14 98), (y14 99), (y14 100), undef], [], q_, (by simp only [e4_, e8_]), rfl, (fun _ _ z_ => by subst hq0_; exact z_), ?_⟩
                      subst hq0_
                      exact mix_det (met_none rfl) (fun _ h_ H_ => exd_add rfl rfl (wr (by omega))) ⟨rfl, rfl⟩
                    refine mixes_cons rfl (opmix2 ?_) ?_
                    · intro val20 pc21 hQ_ hX_
                      have e9_ : val20 9 = .int .i64 ((((((rest.getD 0 0).toNat : Nat) : Int) - 65) * 26) + ((((rest.getD 1 0).toNat : Nat) : Int) - 65)) := (hQ_ 9 rfl).1
                      obtain ⟨q_, hq0_⟩ : ∃ q_ : Value → Pcs → Prop, q_ = (fun v_ x_ => v_ = .agg #[.int .i64 ((((((rest.getD 0 0).toNat : Nat) : Int) - 65) * 26) + ((((rest.getD 1 0).toNat : Nat) : Int) - 65)), .int .i64 (-1)] ∧ x_ = []) := ⟨_, rfl⟩
                      refine ⟨[sv s, undef, (y14 2), (y14 3), .int .i64 (((s.length : Nat) : Int) - 5), undef, (y9 6), w1, sv rest, (val20 11), (y14 10), sv s, .int .i64 (((s.length : Nat) : Int)), .int .i64 (((s.length : Nat) : Int) - 5), sv s, .int .i64 (((s.length : Nat) : Int)), .bool (decide (1400 < ((s.length : Nat) : Int))), .bool (decide (1400 < ((s.length : Nat) : Int))), .int .i64 (((s.length : Nat) : Int) - 5), .bool (decide (((s.length : Nat) : Int) - 5 < 0)), .bool (decide (((s.length : Nat) : Int) - 5 < 0)), .bool (decide (((s.length : Nat) : Int) - 5 < 0)), sv s, .int .i64 (((s.length : Nat) : Int) - 5), .int .u8 ((((s.getD (((s.length : Nat) : Int) - 5).toNat 0).toNat : Nat) : Int)), .bool (decide ((((s.getD (((s.length : Nat) : Int) - 5).toNat 0).toNat : Nat) : Int) ≠ 61)), .bool (decide ((((s.getD (((s.length : Nat) : Int) - 5).toNat 0).toNat : Nat) : Int) ≠ 61)), sv s, .int .i64 (((s.length : Nat) : Int) - 5), .int .i64 ((((s.length : Nat) : Int) - 5) + 1), sv (s.drop ((((((s.length : Nat) : Int) - 5) + 1)).toNat)), .slice a5 ((s.drop ((((((s.length : Nat) : Int) - 5) + 1)).toNat)).length) cp6, .int .i64 ((((s.drop ((((((s.length : Nat) : Int) - 5) + 1)).toNat)).length : Nat) : Int)), .int .i64 (((k : Nat) : Int)), .bool (decide (((k : Nat) : Int) < (((s.drop ((((((s.length : Nat) : Int) - 5) + 1)).toNat)).length : Nat) : Int))), (y9 35), (y9 36), (y9 37), (y9 38), (y9 39), (y9 40), (y9 41), (y9 42), (y9 43), sv s, .int .i64 (((s.length : Nat) : Int) - 5), sv (s.take (((((s.length : Nat) : Int) - 5)).toNat)), sv rest, .bool (!decide (rest = ([] : List UInt8))), sv rest, .int .i64 (((rest.length : Nat) : Int)), .bool (decide (((rest.length : Nat) : Int) < 2)), .bool (decide (((rest.length : Nat) : Int) < 2)), sv rest, .int .u8 ((((rest.getD 0 0).toNat : Nat) : Int)), .bool (decide (65 ≤ (((rest.getD 0 0).toNat : Nat) : Int) ∧ (((rest.getD 0 0).toNat : Nat) : Int) ≤ 90)), .bool (!(decide (65 ≤ (((rest.getD 0 0).toNat : Nat) : Int) ∧ (((rest.getD 0 0).toNat : Nat) : Int) ≤ 90))), .bool (!(decide (65 ≤ (((rest.getD 0 0).toNat : Nat) : Int) ∧ (((rest.getD 0 0).toNat : Nat) : Int) ≤ 90))), .bool (!(decide (65 ≤ (((rest.getD 0 0).toNat : Nat) : Int) ∧ (((rest.getD 0 0).toNat : Nat) : Int) ≤ 90))), sv rest, .int .u8 ((((rest.getD 1 0).toNat : Nat) : Int)), .bool (decide (65 ≤ (((rest.getD 1 0).toNat : Nat) : Int) ∧ (((rest.getD 1 0).toNat : Nat) : Int) ≤ 90)), .bool (!(decide (65 ≤ (((rest.getD 1 0).toNat : Nat) : Int) ∧ (((rest.getD 1 0).toNat : Nat) : Int) ≤ 90))), .bool (!(decide (65 ≤ (((rest.getD 1 0).toNat : Nat) : Int) ∧ (((rest.getD 1 0).toNat : Nat) : Int) ≤ 90))), (val20 0), (val20 1), (val20 2), (val20 3), (val20 4), (val20 5), (val20 6), (val20 7), (val20 8), .int .i64 ((((((rest.getD 0 0).toNat : Nat) : Int) - 65) * 26) + ((((rest.getD 1 0).toNat : Nat) : Int) - 65)), (val20 10), (y14 75), (y14 76), (y14 77), (y14 78), (y14 79), (y14 80), (y14 81), (y14 82), (y14 83), (y14 84), (y14 85), (y14 86), (y14 87), (y14 88), (y14 89), (y14 90), (y14 91), (y14 92), (y14 93), (y14 94), (y14 95), (y14 96), (y14 97), (y14 98), (y14 99), (y14 100), undef], [], q_, (by simp only [e9_]), rfl, (fun _ _ z_ => by subst hq0_; exact z_), ?_⟩
                      subst hq0_
                      exact mix_det (met_none rfl) (fun _ h_ H_ => exd_build tZ60 tP60 (vs := [(0, .int .i64 ((((((rest.getD 0 0).toNat : Nat) : Int) - 65) * 26) + ((((rest.getD 1 0).toNat : Nat) : Int) - 65))), (1, .int .i64 (-1))]) rfl (cells := #[.int .i64 ((((((rest.getD 0 0).toNat : Nat) : Int) - 65) * 26) + ((((rest.getD 1 0).toNat : Nat) : Int) - 65)), .int .i64 (-1)]) rfl) ⟨rfl, rfl⟩
                    refine mixes_cons rfl (opmix2 ?_) ?_
                    · intro val20 pc21 hQ_ hX_
                      obtain ⟨q_, hq0_⟩ : ∃ q_ : Value → Pcs → Prop, q_ = (fun v_ x_ => ∃ b22 : Nat, v_ = .pointer (some ⟨b22, 0, none⟩) ∧ x_ = (([(b22, .cells #[.int .i64 0, .int .i64 0] 60 (0, 0))] : Pcs) ++ [])) := ⟨_, rfl⟩
                      refine ⟨[sv s, undef, (y14 2), (y14 3), .int .i64 (((s.length : Nat) : Int) - 5), undef, (y9 6), w1, sv rest, (val20 11), (y14 10), sv s, .int .i64 (((s.length : Nat) : Int)), .int .i64 (((s.length : Nat) : Int) - 5), sv s, .int .i64 (((s.length : Nat) : Int)), .bool (decide (1400 < ((s.length : Nat) : Int))), .bool (decide (1400 < ((s.length : Nat) : Int))), .int .i64 (((s.length : Nat) : Int) - 5), .bool (decide (((s.length : Nat) : Int) - 5 < 0)), .bool (decide (((s.length : Nat) : Int) - 5 < 0)), .bool (decide (((s.length : Nat) : Int) - 5 < 0)), sv s, .int .i64 (((s.length : Nat) : Int) - 5), .int .u8 ((((s.getD (((s.length : Nat) : Int) - 5).toNat 0).toNat : Nat) : Int)), .bool (decide ((((s.getD (((s.length : Nat) : Int) - 5).toNat 0).toNat : Nat) : Int) ≠ 61)), .bool (decide ((((s.getD (((s.length : Nat) : Int) - 5).toNat 0).toNat : Nat) : Int) ≠ 61)), sv s, .int .i64 (((s.length : Nat) : Int) - 5), .int .i64 ((((s.length : Nat) : Int) - 5) + 1), sv (s.drop ((((((s.length : Nat) : Int) - 5) + 1)).toNat)), .slice a5 ((s.drop ((((((s.length : Nat) : Int) - 5) + 1)).toNat)).length) cp6, .int .i64 ((((s.drop ((((((s.length : Nat) : Int) - 5) + 1)).toNat)).length : Nat) : Int)), .int .i64 (((k : Nat) : Int)), .bool (decide (((k : Nat) : Int) < (((s.drop ((((((s.length : Nat) : Int) - 5) + 1)).toNat)).length : Nat) : Int))), (y9 35), (y9 36), (y9 37), (y9 38), (y9 39), (y9 40), (y9 41), (y9 42), (y9 43), sv s, .int .i64 (((s.length : Nat) : Int) - 5), sv (s.take (((((s.length : Nat) : Int) - 5)).toNat)), sv rest, .bool (!decide (rest = ([] : List UInt8))), sv rest, .int .i64 (((rest.length : Nat) : Int)), .bool (decide (((rest.length : Nat) : Int) < 2)), .bool (decide (((rest.length : Nat) : Int) < 2)), sv rest, .int .u8 ((((rest.getD 0 0).toNat : Nat) : Int)), .bool (decide (65 ≤ (((rest.getD 0 0).toNat : Nat) : Int) ∧ (((rest.getD 0 0).toNat : Nat) : Int) ≤ 90)), .bool (!(decide (65 ≤ (((rest.getD 0 0).toNat : Nat) : Int) ∧ (((rest.getD 0 0).toNat : Nat) : Int) ≤ 90))), .bool (!(decide (65 ≤ (((rest.getD 0 0).toNat : Nat) : Int) ∧ (((rest.getD 0 0).toNat : Nat) : Int) ≤ 90))), .bool (!(decide (65 ≤ (((rest.getD 0 0).toNat : Nat) : Int) ∧ (((rest.getD 0 0).toNat : Nat) : Int) ≤ 90))), sv rest, .int .u8 ((((rest.getD 1 0).toNat : Nat) : Int)), .bool (decide (65 ≤ (((rest.getD 1 0).toNat : Nat) : Int) ∧ (((rest.getD 1 0).toNat : Nat) : Int) ≤ 90)), .bool (!(decide (65 ≤ (((rest.getD 1 0).toNat : Nat) : Int) ∧ (((rest.getD 1 0).toNat : Nat) : Int) ≤ 90))), .bool (!(decide (65 ≤ (((rest.getD 1 0).toNat : Nat) : Int) ∧ (((rest.getD 1 0).toNat : Nat) : Int) ≤ 90))), (val20 0), (val20 1), (val20 2), (val20 3), (val20 4), (val20 5), (val20 6), (val20 7), (val20 8), (val20 9), (val20 10), (y14 75), (y14 76), (y14 77), (y14 78), (y14 79), (y14 80), (y14 81), (y14 82), (y14 83), (y14 84), (y14 85), (y14 86), (y14 87), (y14 88), (y14 89), (y14 90), (y14 91), (y14 92), (y14 93), (y14 94), (y14 95), (y14 96), (y14 97), (y14 98), (y14 99), (y14 100), undef], [], q_, rfl, rfl, (fun _ _ z_ => by subst hq0_; exact z_), ?_⟩
                      subst hq0_
                      exact mix_alloc (met_none rfl) tZ60 rfl fun b_ => ⟨b_, rfl, rfl⟩
                    exact mixes_nil rfl
                  intro val20 pc21 hQ_ hX_
                  have e0_ : val20 0 = sv rest := (hQ_ 0 (by decide)).1
                  have e1_ : val20 1 = .int .u8 ((((rest.getD 0 0).toNat : Nat) : Int)) := (hQ_ 1 (by decide)).1
                  have e2_ : val20 2 = .int .u8 ((((rest.getD 0 0).toNat : Nat) : Int) - 65) := (hQ_ 2 (by decide)).1
                  have e3_ : val20 3 = .int .i64 ((((rest.getD 0 0).toNat : Nat) : Int) - 65) := (hQ_ 3 (by decide)).1
                  have e4_ : val20 4 = .int .i64 (((((rest.getD 0 0).toNat : Nat) : Int) - 65) * 26) := (hQ_ 4 (by decide)).1
                  have e5_ : val20 5 = sv rest := (hQ_ 5 (by decide)).1
                  have e6_ : val20 6 = .int .u8 ((((rest.getD 1 0).toNat : Nat) : Int)) := (hQ_ 6 (by decide)).1
                  have e7_ : val20 7 = .int .u8 ((((rest.getD 1 0).toNat : Nat) : Int) - 65) := (hQ_ 7 (by decide)).1
                  have e8_ : val20 8 = .int .i64 ((((rest.getD 1 0).toNat : Nat) : Int) - 65) := (hQ_ 8 (by decide)).1
                  have e9_ : val20 9 = .int .i64 ((((((rest.getD 0 0).toNat : Nat) : Int) - 65) * 26) + ((((rest.getD 1 0).toNat : Nat) : Int) - 65)) := (hQ_ 9 (by decide)).1
                  have e10_ : val20 10 = .agg #[.int .i64 ((((((rest.getD 0 0).toNat : Nat) : Int) - 65) * 26) + ((((rest.getD 1 0).toNat : Nat) : Int) - 65)), .int .i64 (-1)] := (hQ_ 10 (by decide)).1
                  obtain ⟨e11_, x11_⟩ := hG11_ _ _ (hQ_ 11 (by decide))
                  have x12_ : pc21 12 = X1 := hX_ 12 (by decide)
                  clear hQ_ hX_
                  generalize Gb22 (val20 11) (pc21 11) = b22 at *
                  refine rl_as (Φ := fun h_ => St h [] p4 h_ (([] : Pcs) ++ (pc21 12 ++ (pc21 11 ++ [])))) ?_ (fun h_ H_ => H_.swap')
                  rw [x12_, x11_]
                  refine rl_own (L' := ([] : Pcs) ++ (X1 ++ (([(b22, .cells #[.int .i64 0, .int .i64 0] 60 (0, 0))] : Pcs) ++ []))) (by simp) ?_
                  refine rl_norm (tm' := [sv s, undef, (y14 2), (y14 3), .int .i64 (((s.length : Nat) : Int) - 5), undef, (y9 6), w1, sv rest, .pointer (some ⟨b22, 0, none⟩), (y14 10), sv s, .int .i64 (((s.length : Nat) : Int)), .int .i64 (((s.length : Nat) : Int) - 5), sv s, .int .i64 (((s.length : Nat) : Int)), .bool (decide (1400 < ((s.length : Nat) : Int))), .bool (decide (1400 < ((s.length : Nat) : Int))), .int .i64 (((s.length : Nat) : Int) - 5), .bool (decide (((s.length : Nat) : Int) - 5 < 0)), .bool (decide (((s.length : Nat) : Int) - 5 < 0)), .bool (decide (((s.length : Nat) : Int) - 5 < 0)), sv s, .int .i64 (((s.length : Nat) : Int) - 5), .int .u8 ((((s.getD (((s.length : Nat) : Int) - 5).toNat 0).toNat : Nat) : Int)), .bool (decide ((((s.getD (((s.length : Nat) : Int) - 5).toNat 0).toNat : Nat) : Int) ≠ 61)), .bool (decide ((((s.getD (((s.length : Nat) : Int) - 5).toNat 0).toNat : Nat) : Int) ≠ 61)), sv s, .int .i64 (((s.length : Nat) : Int) - 5), .int .i64 ((((s.length : Nat) : Int) - 5) + 1), sv (s.drop ((((((s.length : Nat) : Int) - 5) + 1)).toNat)), .slice a5 ((s.drop ((((((s.length : Nat) : Int) - 5) + 1)).toNat)).length) cp6, .int .i64 ((((s.drop ((((((s.length : Nat) : Int) - 5) + 1)).toNat)).length : Nat) : Int)), .int .i64 (((k : Nat) : Int)), .bool (decide (((k : Nat) : Int) < (((s.drop ((((((s.length : Nat) : Int) - 5) + 1)).toNat)).length : Nat) : Int))), (y9 35), (y9 36), (y9 37), (y9 38), (y9 39), (y9 40), (y9 41), (y9 42), (y9 43), sv s, .int .i64 (((s.length : Nat) : Int) - 5), sv (s.take (((((s.length : Nat) : Int) - 5)).toNat)), sv rest, .bool (!decide (rest = ([] : List UInt8))), sv rest, .int .i64 (((rest.length : Nat) : Int)), .bool (decide (((rest.length : Nat) : Int) < 2)), .bool (decide (((rest.length : Nat) : Int) < 2)), sv rest, .int .u8 ((((rest.getD 0 0).toNat : Nat) : Int)), .bool (decide (65 ≤ (((rest.getD 0 0).toNat : Nat) : Int) ∧ (((rest.getD 0 0).toNat : Nat) : Int) ≤ 90)), .bool (!(decide (65 ≤ (((rest.getD 0 0).toNat : Nat) : Int) ∧ (((rest.getD 0 0).toNat : Nat) : Int) ≤ 90))), .bool (!(decide (65 ≤ (((rest.getD 0 0).toNat : Nat) : Int) ∧ (((rest.getD 0 0).toNat : Nat) : Int) ≤ 90))), .bool (!(decide (65 ≤ (((rest.getD 0 0).toNat : Nat) : Int) ∧ (((rest.getD 0 0).toNat : Nat) : Int) ≤ 90))), sv rest, .int .u8 ((((rest.getD 1 0).toNat : Nat) : Int)), .bool (decide (65 ≤ (((rest.getD 1 0).toNat : Nat) : Int) ∧ (((rest.getD 1 0).toNat : Nat) : Int) ≤ 90)), .bool (!(decide (65 ≤ (((rest.getD 1 0).toNat : Nat) : Int) ∧ (((rest.getD 1 0).toNat : Nat) : Int) ≤ 90))), .bool (!(decide (65 ≤ (((rest.getD 1 0).toNat : Nat) : Int) ∧ (((rest.getD 1 0).toNat : Nat) : Int) ≤ 90))), sv rest, .int .u8 ((((rest.getD 0 0).toNat : Nat) : Int)), .int .u8 ((((rest.getD 0 0).toNat : Nat) : Int) - 65), .int .i64 ((((rest.getD 0 0).toNat : Nat) : Int) - 65), .int .i64 (((((rest.getD 0 0).toNat : Nat) : Int) - 65) * 26), sv rest, .int .u8 ((((rest.getD 1 0).toNat : Nat) : Int)), .int .u8 ((((rest.getD 1 0).toNat : Nat) : Int) - 65), .int .i64 ((((rest.getD 1 0).toNat : Nat) : Int) - 65), .int .i64 ((((((rest.getD 0 0).toNat : Nat) : Int) - 65) * 26) + ((((rest.getD 1 0).toNat : Nat) : Int) - 65)), .agg #[.int .i64 ((((((rest.getD 0 0).toNat : Nat) : Int) - 65) * 26) + ((((rest.getD 1 0).toNat : Nat) : Int) - 65)), .int .i64 (-1)], (y14 75), (y14 76), (y14 77), (y14 78), (y14 79), (y14 80), (y14 81), (y14 82), (y14 83), (y14 84), (y14 85), (y14 86), (y14 87), (y14 88), (y14 89), (y14 90), (y14 91), (y14 92), (y14 93), (y14 94), (y14 95), (y14 96), (y14 97), (y14 98), (y14 99), (y14 100), undef]) (by simp only [e0_, e1_, e2_, e3_, e4_, e5_, e6_, e7_, e8_, e9_, e10_, e11_]) ?_
                  refine rl_own (L' := ([] : Pcs) ++ (X1 ++ (([(b22, .cells #[.int .i64 0, .int .i64 0] 60 (0, 0))] : Pcs) ++ []))) rfl ?_
                  refine rl_perm (List.Perm.append_left _ (List.perm_append_comm_assoc _ _ _)) ?_
                  refine rl_own (L' := ([] : Pcs) ++ (([(b22, .cells #[.int .i64 0, .int .i64 0] 60 (0, 0))] : Pcs) ++ (X1 ++ []))) rfl ?_
                  refine rl_perm (List.perm_append_comm_assoc ([] : Pcs) ([(b22, .cells #[.int .i64 0, .int .i64 0] 60 (0, 0))] : Pcs) _) ?_
                  refine rl_own (L' := ([(b22, .cells #[.int .i64 0, .int .i64 0] 60 (0, 0))] : Pcs) ++ (X1 ++ [])) rfl ?_
                  refine rl_store (met_none rfl) tS60 rfl (v := .agg #[.int .i64 ((((((rest.getD 0 0).toNat : Nat) : Int) - 65) * 26) + ((((rest.getD 1 0).toNat : Nat) : Int) - 65)), .int .i64 (-1)]) rfl (i := 0) rfl rfl rfl (Nat.le_of_ble_eq_true rfl) (cs2 := [.int .i64 ((((((rest.getD 0 0).toNat : Nat) : Int) - 65) * 26) + ((((rest.getD 1 0).toNat : Nat) : Int) - 65)), .int .i64 (-1)]) rfl (rl_own (L' := ([(b22, .cells #[.int .i64 ((((((rest.getD 0 0).toNat : Nat) : Int) - 65) * 26) + ((((rest.getD 1 0).toNat : Nat) : Int) - 65)), .int .i64 (-1)] 60 (0, 0))] : Pcs) ++ (X1 ++ [])) rfl ?_)
                  refine rl_end ?_
                  refine fl_seq ?_
                  refine rl_start ?_
                  refine rl_det (met_none rfl) (fun h_ H_ => exd_move (v := sv rest) rfl) rfl ?_
                  refine rl_det (met_none rfl) (fun h_ H_ => exd_dropS (l := rest) (a := 2) Tryd.underlying9 rfl (.nat (z := 2) _ rfl) (by omega)) rfl ?_
                  refine rl_det (met_none rfl) (fun h_ H_ => exd_assign (v := sv (rest.drop 2)) rfl) (tm' := _::_::_::_::_::_::_::_::_::_) rfl ?_
                  refine rl_end ?_
                  refine fl_seq ?_
                  refine fl_seq ?_
                  refine rl_start ?_
                  refine rl_det (met_none rfl) (fun h_ H_ => exd_move (v := sv (rest.drop 2)) rfl) rfl ?_
                  refine rl_det (met_none rfl) (fun h_ H_ => exd_neqS (l := rest.drop 2) (m := ([] : List UInt8)) rfl rfl) rfl ?_
                  refine rl_end ?_
                  by_cases cc25 : rest.drop 2 = ([] : List UInt8)
                  · refine fl_else rfl (not_f (decide_eq_true cc25)) ?_
                    refine fl_skip ?_
                    refine rl_start ?_
                    refine rl_det (met_none rfl) (fun h_ H_ => exd_move (v := w1) rfl) (tm' := [_,_,_,_,_,_,_,_,_,_,_,_,_,_,_,_,_,_,_,_,_,_,_,_,_,_,_,_,_,_,_,_,_,_,_,_,_,_,_,_,_,_,_,_,_,_,_,_,_,_,_,_,_,_,_,_,_,_,_,_,_,_,_,_,_,_,_,_,_,_,_,_,_,_,_,_,_,_,_,_,_,_,_,_,_,_,_,_,_,_,_,_,_,_,_,_,_,_,_,_,_,_]) rfl ?_
                    refine rl_det (met_none rfl) (fun h_ H_ => exd_loadN_own H_ tA60 tS60 rfl (i := 0) rfl (vs := [.int .i64 ((((((rest.getD 0 0).toNat : Nat) : Int) - 65) * 26) + ((((rest.getD 1 0).toNat : Nat) : Int) - 65)), .int .i64 (-1)]) rfl rfl) rfl ?_
                    refine rl_buildO ([(b22, .cells #[.int .i64 ((((((rest.getD 0 0).toNat : Nat) : Int) - 65) * 26) + ((((rest.getD 1 0).toNat : Nat) : Int) - 65)), .int .i64 (-1)] 60 (0, 0))] : Pcs) (met_none rfl) Tryd.underlying49 tS60 tZ60 (Nat.le_of_ble_eq_true rfl) (vs := [(0, .agg #[.int .i64 ((((((rest.getD 0 0).toNat : Nat) : Int) - 65) * 26) + ((((rest.getD 1 0).toNat : Nat) : Int) - 65)), .int .i64 (-1)])]) rfl rfl (es := [[.int .i64 ((((((rest.getD 0 0).toNat : Nat) : Int) - 65) * 26) + ((((rest.getD 1 0).toNat : Nat) : Int) - 65)), .int .i64 (-1)]]) rfl rfl rfl fun v26 X27 o28 => ?_
                    refine rl_perm (List.Perm.append_left _ (List.perm_append_comm_assoc _ _ _)) ?_
                    refine rl_own (L' := ([(b22, .cells #[.int .i64 ((((((rest.getD 0 0).toNat : Nat) : Int) - 65) * 26) + ((((rest.getD 1 0).toNat : Nat) : Int) - 65)), .int .i64 (-1)] 60 (0, 0))] : Pcs) ++ (X1 ++ (X27 ++ []))) rfl ?_
                    refine rl_appendO ([(b22, .cells #[.int .i64 ((((((rest.getD 0 0).toNat : Nat) : Int) - 65) * 26) + ((((rest.getD 1 0).toNat : Nat) : Int) - 65)), .int .i64 (-1)] 60 (0, 0))] : Pcs) X1 X27 (met_none rfl) Tryd.underlying49 tS60 tZ60 rfl tB60 Tryd.underlying49 rfl rfl o1 o28 (ones_of rfl) (by rw [pies_length]; simp only [List.length_cons, List.length_nil]; omega) (by decide) fun v29 X30 o31 => ?_
                    refine rl_norm (tm' := [_,_,_,_,_,_,_,_,_,_,_,_,_,_,_,_,_,_,_,_,_,_,_,_,_,_,_,_,_,_,_,_,_,_,_,_,_,_,_,_,_,_,_,_,_,_,_,_,_,_,_,_,_,_,_,_,_,_,_,_,_,_,_,_,_,_,_,_,_,_,_,_,_,_,_,_,_,_,_,_,_,_,_,_,_,_,_,_,_,_,_,_,_,_,_,_,_,_,_,_,_,_]) rfl ?_
                    refine rl_det (met_none rfl) (fun h_ H_ => exd_assign (v := v29) rfl) rfl ?_
                    refine rl_end ?_
                    refine fl_inBlock ?_
                    exact fun h_ H_ => IH15 _ _ (by simp only [List.length_drop]; omega) h_ ⟨(out ++ [((((((rest.getD 0 0).toNat : Nat) : Int) - 65) * 26) + ((((rest.getD 1 0).toNat : Nat) : Int) - 65), (-1))]), (rest.drop 2), v29, X30, rfl, (y_of rfl), (by rw [List.length_append]; simp only [List.length_drop, List.length_singleton]; omega), (by rw [← hR]; exact (prs_step (by rw [hp2, if_pos ‹_›]; rfl)).symm), (o31.as (pies_snoc out ((((((rest.getD 0 0).toNat : Nat) : Int) - 65) * 26) + ((((rest.getD 1 0).toNat : Nat) : Int) - 65), (-1)))), H_.drop⟩
                  · refine fl_then rfl (not_t (decide_eq_false cc25)) ?_
                    refine fl_seq ?_
                    refine fl_seq ?_
                    have hne2 := List.length_pos_iff.2 ‹¬ rest.drop 2 = []›
                    have hne3 : 3 ≤ rest.length := by rw [List.length_drop] at hne2; omega
                    refine rl_start ?_
                    refine rl_det (met_none rfl) (fun h_ H_ => exd_move (v := sv (rest.drop 2)) rfl) rfl ?_
                    refine rl_det (met_none rfl) (fun h_ H_ => exd_indexSN (l := rest.drop 2) (i := 0) Tryd.underlying9 rfl rfl (by omega)) (tm' := [_,_,_,_,_,_,_,_,_,_,_,_,_,_,_,_,_,_,_,_,_,_,_,_,_,_,_,_,_,_,_,_,_,_,_,_,_,_,_,_,_,_,_,_,_,_,_,_,_,_,_,_,_,_,_,_,_,_,_,_,_,_,_,_,_,_,_,_,_,_,_,_,_,_,_,_,_,_,_,_,_,_,_,_,_,_,_,_,_,_,_,_,_,_,_,_,_,_,_,_,_,_]) rfl ?_
                    refine rl_det (met_none rfl) (fun h_ H_ => exd_assign (v := .int .u8 (((((rest.drop 2).getD 0 0).toNat : Nat) : Int))) rfl) rfl ?_
                    refine rl_end ?_
                    refine fl_block ?_
                    refine fl_seq ?_
                    refine rl_start ?_
                    refine rl_det (met_none rfl) (fun h_ H_ => exd_move (v := .int .u8 (((((rest.drop 2).getD 0 0).toNat : Nat) : Int))) rfl) rfl ?_
                    refine rl_det (met_none rfl) (fun h_ H_ => exd_eql rfl rfl) (tm' := [_,_,_,_,_,_,_,_,_,_,_,_,_,_,_,_,_,_,_,_,_,_,_,_,_,_,_,_,_,_,_,_,_,_,_,_,_,_,_,_,_,_,_,_,_,_,_,_,_,_,_,_,_,_,_,_,_,_,_,_,_,_,_,_,_,_,_,_,_,_,_,_,_,_,_,_,_,_,_,_,_,_,_,_,_,_,_,_,_,_,_,_,_,_,_,_,_,_,_,_,_,_]) rfl ?_
                    refine rl_det (met_none rfl) (fun h_ H_ => exd_assign (v := .bool (decide (((((rest.drop 2).getD 0 0).toNat : Nat) : Int) = 126))) rfl) rfl ?_
                    refine rl_end ?_
                    by_cases cc32 : ((((rest.drop 2).getD 0 0).toNat : Nat) : Int) = 126
                    · refine fl_then rfl (decide_eq_true cc32) ?_
                      refine rl_start ?_
                      refine rl_det (met_none rfl) (fun h_ H_ => exd_fieldAddr tF60_1 rfl (a' := ⟨b22, 1, none⟩) rfl) rfl ?_
                      refine rl_store (met_none rfl) tS3 rfl (v := .int .i64 10) rfl (i := 0) rfl rfl rfl (Nat.le_of_ble_eq_true rfl) (cs2 := [.int .i64 ((((((rest.getD 0 0).toNat : Nat) : Int) - 65) * 26) + ((((rest.getD 1 0).toNat : Nat) : Int) - 65)), .int .i64 10]) rfl (rl_own (L' := ([(b22, .cells #[.int .i64 ((((((rest.getD 0 0).toNat : Nat) : Int) - 65) * 26) + ((((rest.getD 1 0).toNat : Nat) : Int) - 65)), .int .i64 10] 60 (0, 0))] : Pcs) ++ (X1 ++ [])) rfl ?_)
                      refine rl_end ?_
                      refine fl_inBlock ?_
                      refine rl_start ?_
                      refine rl_det (met_none rfl) (fun h_ H_ => exd_move (v := sv (rest.drop 2)) rfl) (tm' := [_,_,_,_,_,_,_,_,_,_,_,_,_,_,_,_,_,_,_,_,_,_,_,_,_,_,_,_,_,_,_,_,_,_,_,_,_,_,_,_,_,_,_,_,_,_,_,_,_,_,_,_,_,_,_,_,_,_,_,_,_,_,_,_,_,_,_,_,_,_,_,_,_,_,_,_,_,_,_,_,_,_,_,_,_,_,_,_,_,_,_,_,_,_,_,_,_,_,_,_,_,_]) rfl ?_
                      refine rl_det (met_none rfl) (fun h_ H_ => exd_dropS (l := rest.drop 2) (a := 1) Tryd.underlying9 rfl (.nat (z := 1) _ rfl) (by omega)) rfl ?_
                      refine rl_det (met_none rfl) (fun h_ H_ => exd_assign (v := sv ((rest.drop 2).drop 1)) rfl) rfl ?_
                      refine rl_end ?_
                      refine rl_start ?_
                      refine rl_det (met_none rfl) (fun h_ H_ => exd_move (v := w1) rfl) (tm' := [_,_,_,_,_,_,_,_,_,_,_,_,_,_,_,_,_,_,_,_,_,_,_,_,_,_,_,_,_,_,_,_,_,_,_,_,_,_,_,_,_,_,_,_,_,_,_,_,_,_,_,_,_,_,_,_,_,_,_,_,_,_,_,_,_,_,_,_,_,_,_,_,_,_,_,_,_,_,_,_,_,_,_,_,_,_,_,_,_,_,_,_,_,_,_,_,_,_,_,_,_,_]) rfl ?_
                      refine rl_det (met_none rfl) (fun h_ H_ => exd_loadN_own H_ tA60 tS60 rfl (i := 0) rfl (vs := [.int .i64 ((((((rest.getD 0 0).toNat : Nat) : Int) - 65) * 26) + ((((rest.getD 1 0).toNat : Nat) : Int) - 65)), .int .i64 10]) rfl rfl) rfl ?_
                      refine rl_buildO ([(b22, .cells #[.int .i64 ((((((rest.getD 0 0).toNat : Nat) : Int) - 65) * 26) + ((((rest.getD 1 0).toNat : Nat) : Int) - 65)), .int .i64 10] 60 (0, 0))] : Pcs) (met_none rfl) Tryd.underlying49 tS60 tZ60 (Nat.le_of_ble_eq_true rfl) (vs := [(0, .agg #[.int .i64 ((((((rest.getD 0 0).toNat : Nat) : Int) - 65) * 26) + ((((rest.getD 1 0).toNat : Nat) : Int) - 65)), .int .i64 10])]) rfl rfl (es := [[.int .i64 ((((((rest.getD 0 0).toNat : Nat) : Int) - 65) * 26) + ((((rest.getD 1 0).toNat : Nat) : Int) - 65)), .int .i64 10]]) rfl rfl rfl fun v33 X34 o35 => ?_
                      refine rl_perm (List.Perm.append_left _ (List.perm_append_comm_assoc _ _ _)) ?_
                      refine rl_own (L' := ([(b22, .cells #[.int .i64 ((((((rest.getD 0 0).toNat : Nat) : Int) - 65) * 26) + ((((rest.getD 1 0).toNat : Nat) : Int) - 65)), .int .i64 10] 60 (0, 0))] : Pcs) ++ (X1 ++ (X34 ++ []))) rfl ?_
                      refine rl_appendO ([(b22, .cells #[.int .i64 ((((((rest.getD 0 0).toNat : Nat) : Int) - 65) * 26) + ((((rest.getD 1 0).toNat : Nat) : Int) - 65)), .int .i64 10] 60 (0, 0))] : Pcs) X1 X34 (met_none rfl) Tryd.underlying49 tS60 tZ60 rfl tB60 Tryd.underlying49 rfl rfl o1 o35 (ones_of rfl) (by rw [pies_length]; simp only [List.length_cons, List.length_nil]; omega) (by decide) fun v36 X37 o38 => ?_
                      refine rl_norm (tm' := [_,_,_,_,_,_,_,_,_,_,_,_,_,_,_,_,_,_,_,_,_,_,_,_,_,_,_,_,_,_,_,_,_,_,_,_,_,_,_,_,_,_,_,_,_,_,_,_,_,_,_,_,_,_,_,_,_,_,_,_,_,_,_,_,_,_,_,_,_,_,_,_,_,_,_,_,_,_,_,_,_,_,_,_,_,_,_,_,_,_,_,_,_,_,_,_,_,_,_,_,_,_]) rfl ?_
                      refine rl_det (met_none rfl) (fun h_ H_ => exd_assign (v := v36) rfl) rfl ?_
                      refine rl_end ?_
                      refine fl_inBlock ?_
                      exact fun h_ H_ => IH15 _ _ (by simp only [List.length_drop]; omega) h_ ⟨(out ++ [((((((rest.getD 0 0).toNat : Nat) : Int) - 65) * 26) + ((((rest.getD 1 0).toNat : Nat) : Int) - 65), 10)]), ((rest.drop 2).drop 1), v36, X37, rfl, (y_of rfl), (by rw [List.length_append]; simp only [List.length_drop, List.length_singleton]; omega), (by rw [← hR]; exact (prs_step (by rw [hp2, if_neg ‹_›, if_pos (by omega)]; rfl)).symm), (o38.as (pies_snoc out ((((((rest.getD 0 0).toNat : Nat) : Int) - 65) * 26) + ((((rest.getD 1 0).toNat : Nat) : Int) - 65), 10))), H_.drop⟩
                    · refine fl_else rfl (decide_eq_false cc32) ?_
                      refine fl_seq ?_
                      refine rl_start ?_
                      refine rl_det (met_none rfl) (fun h_ H_ => exd_move (v := .int .u8 (((((rest.drop 2).getD 0 0).toNat : Nat) : Int))) rfl) rfl ?_
                      refine rl_det (met_none rfl) (fun h_ H_ => exd_lss rfl rfl) (tm' := [_,_,_,_,_,_,_,_,_,_,_,_,_,_,_,_,_,_,_,_,_,_,_,_,_,_,_,_,_,_,_,_,_,_,_,_,_,_,_,_,_,_,_,_,_,_,_,_,_,_,_,_,_,_,_,_,_,_,_,_,_,_,_,_,_,_,_,_,_,_,_,_,_,_,_,_,_,_,_,_,_,_,_,_,_,_,_,_,_,_,_,_,_,_,_,_,_,_,_,_,_,_]) rfl ?_
                      refine rl_det (met_none rfl) (fun h_ H_ => exd_move (v := .bool (decide (((((rest.drop 2).getD 0 0).toNat : Nat) : Int) < 32))) rfl) rfl ?_
                      by_cases cc39 : ((((rest.drop 2).getD 0 0).toNat : Nat) : Int) < 32
                      · refine rl_pass (met_not rfl rfl (decide_eq_true cc39)) rfl ?_
                        refine rl_pass (met_not rfl rfl (decide_eq_true cc39)) (tm' := [_,_,_,_,_,_,_,_,_,_,_,_,_,_,_,_,_,_,_,_,_,_,_,_,_,_,_,_,_,_,_,_,_,_,_,_,_,_,_,_,_,_,_,_,_,_,_,_,_,_,_,_,_,_,_,_,_,_,_,_,_,_,_,_,_,_,_,_,_,_,_,_,_,_,_,_,_,_,_,_,_,_,_,_,_,_,_,_,_,_,_,_,_,_,_,_,_,_,_,_,_,_]) rfl ?_
                        refine rl_det (met_none rfl) (fun h_ H_ => exd_pick_t rfl (decide_eq_true cc39) (v := .bool (true)) rfl) rfl ?_
                        refine rl_det (met_none rfl) (fun h_ H_ => exd_assign (v := .bool (true)) rfl) rfl ?_
                        refine rl_end ?_
                        refine fl_then rfl rfl ?_
                        refine fl_seq ?_
                        refine rl_start ?_
                        refine rl_det (met_none rfl) (fun h_ H_ => exd_assign (v := .slice none 0 0) rfl) (tm' := _::_::_::_) rfl ?_
                        refine rl_det (met_none rfl) (fun h_ H_ => exd_assign (v := .bool (false)) rfl) rfl ?_
                        refine rl_end ?_
                        refine fl_ret Tryd.func52 rfl (vs := [.slice none 0 0, .bool (false)]) (fun h_ H_ => ⟨.slice none 0 0, _, rfl, rfl, ⟨.bool (false), _, rfl, rfl, rfl⟩⟩) (v := .tuple #[.slice none 0 0, .bool (false)]) rfl ?_
                        have hN : formB s = none := by
                          rw [formB, if_neg hf1, if_neg hf2, ← hR]
                          refine prs_none (List.length_pos_iff.1 hne) ?_
                          first | exact pie_bad (.inl (by omega)) | exact pie_bad (.inr (.inl (by assumption))) | exact pie_bad (.inr (.inr (by assumption))) | (rw [hp2, if_neg ‹_›, if_neg (by omega), if_pos (by omega)])
                        exact fun h_ H_ => K _ _ ⟨.slice none 0 0, [], by rw [hN]; rfl, by rw [hN]; exact OwnS.empty _ _, (H_.sub (List.nil_sublist _)).new⟩
                      · refine rl_det (met_some rfl rfl (decide_eq_false cc39)) (fun h_ H_ => exd_move (v := .int .u8 (((((rest.drop 2).getD 0 0).toNat : Nat) : Int))) rfl) rfl ?_
                        refine rl_det (met_some rfl rfl (decide_eq_false cc39)) (fun h_ H_ => exd_gtr rfl rfl) (tm' := [_,_,_,_,_,_,_,_,_,_,_,_,_,_,_,_,_,_,_,_,_,_,_,_,_,_,_,_,_,_,_,_,_,_,_,_,_,_,_,_,_,_,_,_,_,_,_,_,_,_,_,_,_,_,_,_,_,_,_,_,_,_,_,_,_,_,_,_,_,_,_,_,_,_,_,_,_,_,_,_,_,_,_,_,_,_,_,_,_,_,_,_,_,_,_,_,_,_,_,_,_,_]) rfl ?_
                        refine rl_det (met_none rfl) (fun h_ H_ => exd_pick_f rfl (decide_eq_false cc39) (v := .bool (decide (125 < ((((rest.drop 2).getD 0 0).toNat : Nat) : Int)))) rfl) rfl ?_
                        refine rl_det (met_none rfl) (fun h_ H_ => exd_assign (v := .bool (decide (125 < ((((rest.drop 2).getD 0 0).toNat : Nat) : Int)))) rfl) rfl ?_
                        refine rl_end ?_
                        by_cases cc40 : 125 < ((((rest.drop 2).getD 0 0).toNat : Nat) : Int)
                        · refine fl_then rfl (decide_eq_true cc40) ?_
                          refine fl_seq ?_
                          refine rl_start ?_
                          refine rl_det (met_none rfl) (fun h_ H_ => exd_assign (v := .slice none 0 0) rfl) (tm' := _::_::_::_) rfl ?_
                          refine rl_det (met_none rfl) (fun h_ H_ => exd_assign (v := .bool (false)) rfl) rfl ?_
                          refine rl_end ?_
                          refine fl_ret Tryd.func52 rfl (vs := [.slice none 0 0, .bool (false)]) (fun h_ H_ => ⟨.slice none 0 0, _, rfl, rfl, ⟨.bool (false), _, rfl, rfl, rfl⟩⟩) (v := .tuple #[.slice none 0 0, .bool (false)]) rfl ?_
                          have hN : formB s = none := by
                            rw [formB, if_neg hf1, if_neg hf2, ← hR]
                            refine prs_none (List.length_pos_iff.1 hne) ?_
                            first | exact pie_bad (.inl (by omega)) | exact pie_bad (.inr (.inl (by assumption))) | exact pie_bad (.inr (.inr (by assumption))) | (rw [hp2, if_neg ‹_›, if_neg (by omega), if_pos (by omega)])
                          exact fun h_ H_ => K _ _ ⟨.slice none 0 0, [], by rw [hN]; rfl, by rw [hN]; exact OwnS.empty _ _, (H_.sub (List.nil_sublist _)).new⟩
                        · refine fl_else rfl (decide_eq_false cc40) ?_
                          refine rl_start ?_
                          refine rl_det (met_none rfl) (fun h_ H_ => exd_move (v := .int .u8 (((((rest.drop 2).getD 0 0).toNat : Nat) : Int))) rfl) rfl ?_
                          refine rl_det (met_none rfl) (fun h_ H_ => exd_conv ⟨_, Tryd.underlying5⟩ Tryd.underlying3 rfl (n := ((((rest.drop 2).getD 0 0).toNat : Nat) : Int)) (wrB _)) (tm' := [_,_,_,_,_,_,_,_,_,_,_,_,_,_,_,_,_,_,_,_,_,_,_,_,_,_,_,_,_,_,_,_,_,_,_,_,_,_,_,_,_,_,_,_,_,_,_,_,_,_,_,_,_,_,_,_,_,_,_,_,_,_,_,_,_,_,_,_,_,_,_,_,_,_,_,_,_,_,_,_,_,_,_,_,_,_,_,_,_,_,_,_,_,_,_,_,_,_,_,_,_,_]) rfl ?_
                          refine rl_det (met_none rfl) (fun h_ H_ => exd_fieldAddr tF60_1 rfl (a' := ⟨b22, 1, none⟩) rfl) rfl ?_
                          refine rl_store (met_none rfl) tS3 rfl (v := .int .i64 (((((rest.drop 2).getD 0 0).toNat : Nat) : Int))) rfl (i := 0) rfl rfl rfl (Nat.le_of_ble_eq_true rfl) (cs2 := [.int .i64 ((((((rest.getD 0 0).toNat : Nat) : Int) - 65) * 26) + ((((rest.getD 1 0).toNat : Nat) : Int) - 65)), .int .i64 (((((rest.drop 2).getD 0 0).toNat : Nat) : Int))]) rfl (rl_own (L' := ([(b22, .cells #[.int .i64 ((((((rest.getD 0 0).toNat : Nat) : Int) - 65) * 26) + ((((rest.getD 1 0).toNat : Nat) : Int) - 65)), .int .i64 (((((rest.drop 2).getD 0 0).toNat : Nat) : Int))] 60 (0, 0))] : Pcs) ++ (X1 ++ [])) rfl ?_)
                          refine rl_end ?_
                          refine fl_inBlock ?_
                          refine rl_start ?_
                          refine rl_det (met_none rfl) (fun h_ H_ => exd_move (v := sv (rest.drop 2)) rfl) rfl ?_
                          refine rl_det (met_none rfl) (fun h_ H_ => exd_dropS (l := rest.drop 2) (a := 1) Tryd.underlying9 rfl (.nat (z := 1) _ rfl) (by omega)) (tm' := [_,_,_,_,_,_,_,_,_,_,_,_,_,_,_,_,_,_,_,_,_,_,_,_,_,_,_,_,_,_,_,_,_,_,_,_,_,_,_,_,_,_,_,_,_,_,_,_,_,_,_,_,_,_,_,_,_,_,_,_,_,_,_,_,_,_,_,_,_,_,_,_,_,_,_,_,_,_,_,_,_,_,_,_,_,_,_,_,_,_,_,_,_,_,_,_,_,_,_,_,_,_]) rfl ?_
                          refine rl_det (met_none rfl) (fun h_ H_ => exd_assign (v := sv ((rest.drop 2).drop 1)) rfl) rfl ?_
                          refine rl_end ?_
                          refine rl_start ?_
                          refine rl_det (met_none rfl) (fun h_ H_ => exd_move (v := w1) rfl) rfl ?_
                          refine rl_det (met_none rfl) (fun h_ H_ => exd_loadN_own H_ tA60 tS60 rfl (i := 0) rfl (vs := [.int .i64 ((((((rest.getD 0 0).toNat : Nat) : Int) - 65) * 26) + ((((rest.getD 1 0).toNat : Nat) : Int) - 65)), .int .i64 (((((rest.drop 2).getD 0 0).toNat : Nat) : Int))]) rfl rfl) (tm' := [_,_,_,_,_,_,_,_,_,_,_,_,_,_,_,_,_,_,_,_,_,_,_,_,_,_,_,_,_,_,_,_,_,_,_,_,_,_,_,_,_,_,_,_,_,_,_,_,_,_,_,_,_,_,_,_,_,_,_,_,_,_,_,_,_,_,_,_,_,_,_,_,_,_,_,_,_,_,_,_,_,_,_,_,_,_,_,_,_,_,_,_,_,_,_,_,_,_,_,_,_,_]) rfl ?_
                          refine rl_buildO ([(b22, .cells #[.int .i64 ((((((rest.getD 0 0).toNat : Nat) : Int) - 65) * 26) + ((((rest.getD 1 0).toNat : Nat) : Int) - 65)), .int .i64 (((((rest.drop 2).getD 0 0).toNat : Nat) : Int))] 60 (0, 0))] : Pcs) (met_none rfl) Tryd.underlying49 tS60 tZ60 (Nat.le_of_ble_eq_true rfl) (vs := [(0, .agg #[.int .i64 ((((((rest.getD 0 0).toNat : Nat) : Int) - 65) * 26) + ((((rest.getD 1 0).toNat : Nat) : Int) - 65)), .int .i64 (((((rest.drop 2).getD 0 0).toNat : Nat) : Int))])]) rfl rfl (es := [[.int .i64 ((((((rest.getD 0 0).toNat : Nat) : Int) - 65) * 26) + ((((rest.getD 1 0).toNat : Nat) : Int) - 65)), .int .i64 (((((rest.drop 2).getD 0 0).toNat : Nat) : Int))]]) rfl rfl rfl fun v41 X42 o43 => ?_
                          refine rl_perm (List.Perm.append_left _ (List.perm_append_comm_assoc _ _ _)) ?_
                          refine rl_own (L' := ([(b22, .cells #[.int .i64 ((((((rest.getD 0 0).toNat : Nat) : Int) - 65) * 26) + ((((rest.getD 1 0).toNat : Nat) : Int) - 65)), .int .i64 (((((rest.drop 2).getD 0 0).toNat : Nat) : Int))] 60 (0, 0))] : Pcs) ++ (X1 ++ (X42 ++ []))) rfl ?_
                          refine rl_appendO ([(b22, .cells #[.int .i64 ((((((rest.getD 0 0).toNat : Nat) : Int) - 65) * 26) + ((((rest.getD 1 0).toNat : Nat) : Int) - 65)), .int .i64 (((((rest.drop 2).getD 0 0).toNat : Nat) : Int))] 60 (0, 0))] : Pcs) X1 X42 (met_none rfl) Tryd.underlying49 tS60 tZ60 rfl tB60 Tryd.underlying49 rfl rfl o1 o43 (ones_of rfl) (by rw [pies_length]; simp only [List.length_cons, List.length_nil]; omega) (by decide) fun v44 X45 o46 => ?_
                          refine rl_det (met_none rfl) (fun h_ H_ => exd_assign (v := v44) rfl) (tm' := _::_::_::_::_::_::_::_::_) rfl ?_
                          refine rl_end ?_
                          refine fl_inBlock ?_
                          exact fun h_ H_ => IH15 _ _ (by simp only [List.length_drop]; omega) h_ ⟨(out ++ [((((((rest.getD 0 0).toNat : Nat) : Int) - 65) * 26) + ((((rest.getD 1 0).toNat : Nat) : Int) - 65), ((((rest.drop 2).getD 0 0).toNat : Nat) : Int))]), ((rest.drop 2).drop 1), v44, X45, rfl, (y_of rfl), (by rw [List.length_append]; simp only [List.length_drop, List.length_singleton]; omega), (by rw [← hR]; exact (prs_step (by rw [hp2, if_neg ‹_›, if_neg (by omega), if_neg (by omega)]; rfl)).symm), (o46.as (pies_snoc out ((((((rest.getD 0 0).toNat : Nat) : Int) - 65) * 26) + ((((rest.getD 1 0).toNat : Nat) : Int) - 65), ((((rest.drop 2).getD 0 0).toNat : Nat) : Int)))), H_.drop⟩
                · refine fl_then rfl (not_t (decide_eq_false cc19)) ?_
                  refine fl_seq ?_
                  refine rl_start ?_
                  refine rl_det (met_none rfl) (fun h_ H_ => exd_assign (v := .slice none 0 0) rfl) rfl ?_
                  refine rl_det (met_none rfl) (fun h_ H_ => exd_assign (v := .bool (false)) rfl) rfl ?_
                  refine rl_end ?_
                  refine fl_ret Tryd.func52 rfl (vs := [.slice none 0 0, .bool (false)]) (fun h_ H_ => ⟨.slice none 0 0, _, rfl, rfl, ⟨.bool (false), _, rfl, rfl, rfl⟩⟩) (v := .tuple #[.slice none 0 0, .bool (false)]) rfl ?_
                  have hN : formB s = none := by
                    rw [formB, if_neg hf1, if_neg hf2, ← hR]
                    refine prs_none (List.length_pos_iff.1 hne) ?_
                    first | exact pie_bad (.inl (by omega)) | exact pie_bad (.inr (.inl (by assumption))) | exact pie_bad (.inr (.inr (by assumption))) | (rw [hp2, if_neg ‹_›, if_neg (by omega), if_pos (by omega)])
                  exact fun h_ H_ => K _ _ ⟨.slice none 0 0, [], by rw [hN]; rfl, by rw [hN]; exact OwnS.empty _ _, (H_.sub (List.nil_sublist _)).new⟩
              · refine rl_pass (met_not rfl rfl (not_t (decide_eq_false cc18))) (tm' := _::_::_::_::_::_::_::_::_::_::_::_::_::_::_::_::_::_::_::_::_::_::_::_::_::_::_::_::_::_::_::_::_::_::_::_::_::_::_::_::_::_::_::_::_::_::_::_::_::_::_::_::_::_::_::_::_::_::_::_::_) rfl ?_
                refine rl_pass (met_not rfl rfl (not_t (decide_eq_false cc18))) rfl ?_
                refine rl_pass (met_not rfl rfl (not_t (decide_eq_false cc18))) rfl ?_
                refine rl_pass (met_not rfl rfl (not_t (decide_eq_false cc18))) (tm' := _::_::_::_::_::_::_::_::_::_::_::_::_::_::_::_::_::_::_::_::_::_::_::_::_::_::_::_::_::_::_::_::_::_::_::_::_::_::_::_::_::_::_::_::_::_::_::_::_::_::_::_::_::_::_::_::_::_::_::_::_::_::_::_) rfl ?_
                refine rl_det (met_none rfl) (fun h_ H_ => exd_pick_t rfl (not_t (decide_eq_false cc18)) (v := .bool (true)) rfl) rfl ?_
                refine rl_end ?_
                refine fl_then rfl rfl ?_
                refine fl_seq ?_
                refine rl_start ?_
                refine rl_det (met_none rfl) (fun h_ H_ => exd_assign (v := .slice none 0 0) rfl) rfl ?_
                refine rl_det (met_none rfl) (fun h_ H_ => exd_assign (v := .bool (false)) rfl) (tm' := _::_::_::_::_) rfl ?_
                refine rl_end ?_
                refine fl_ret Tryd.func52 rfl (vs := [.slice none 0 0, .bool (false)]) (fun h_ H_ => ⟨.slice none 0 0, _, rfl, rfl, ⟨.bool (false), _, rfl, rfl, rfl⟩⟩) (v := .tuple #[.slice none 0 0, .bool (false)]) rfl ?_
                have hN : formB s = none := by
                  rw [formB, if_neg hf1, if_neg hf2, ← hR]
                  refine prs_none (List.length_pos_iff.1 hne) ?_
                  first | exact pie_bad (.inl (by omega)) | exact pie_bad (.inr (.inl (by assumption))) | exact pie_bad (.inr (.inr (by assumption))) | (rw [hp2, if_neg ‹_›, if_neg (by omega), if_pos (by omega)])
                exact fun h_ H_ => K _ _ ⟨.slice none 0 0, [], by rw [hN]; rfl, by rw [hN]; exact OwnS.empty _ _, (H_.sub (List.nil_sublist _)).new⟩
end Go.Proofs.YtiinpnlfdeiloaaDoor
namespace Go.Proofs.YtiinpnlfdeiloaaDoor
open Go.X Go.X.Cent Go.Conc
set_option maxRecDepth 10000
set_option synthInstance.maxSize 2000
set_option synthInstance.maxHeartbeats 400000

theorem c55 (h : Heap) (l : By) (c : UInt8) (hl : l.length < 4294967281) : CallsX Tryd.prog .lone 55 #[sv l, sv ([c])] h fun v h' => ∃ w X, v = w ∧ OwnS 9 1 w (scs (cutAfter c l)) X ∧ New h h' X := by
  refine calls_intro (Φ := fun h_ => St h [] (fun _ => none) h_ []) Tryd.func55 rfl (tm := [_, _, _, _, _, _, _, _, _, _]) rfl ?_ (St.start h _ (fun _ _ e => by cases e))
  intro c₀ cs Stop K
  refine fl_seq ?_
  refine rl_start ?_
  refine rl_det (met_none rfl) (fun h_ H_ => exd_assign (v := .slice none 0 0) rfl) rfl ?_
  refine rl_end ?_
  refine fl_seq ?_
  refine rl_start ?_
  refine rl_det (met_none rfl) (fun h_ H_ => exd_move (v := sv l) rfl) rfl ?_
  refine rl_det (met_none rfl) (fun h_ H_ => exd_move (v := sv ([c])) rfl) (tm' := [_,_,_,_,_,_,_,_,_,_]) rfl ?_
  refine rl_det (met_none rfl) (fun h_ H_ => exd_move (v := sv ([c])) rfl) rfl ?_
  refine rl_det (met_none rfl) (fun h_ H_ => exd_lenS (l := [c]) Tryd.underlying9 rfl) rfl ?_
  refine rl_own (L' := ([] : Pcs) ++ []) rfl ?_
  refine rl_call (met_none rfl) (first := []) (cap := []) rfl rfl fC72 (R := fun v_ h_ => ∃ w1 : Value, ∃ X2 : Pcs, v_ = w1 ∧ (OwnS 9 1 w1 (scs (cutAfter c l)) X2) ∧ St h [] (fun _ => none) h_ (([] : Pcs) ++ (X2 ++ []))) (fun h_ H_ => (c72 _ l c (by omega)).mono fun v_ h2_ ⟨w1, X2, e_, o3, N_⟩ => ⟨w1, X2, e_, o3, H_.callNA N_⟩) fun v_ => ?_
  refine rl_ex fun w1 => rl_ex fun X2 => rl_and fun ev_ => rl_and fun o3 => ?_
  have ev_ := ev_.symm; subst ev_
  refine rl_own (L' := ([] : Pcs) ++ (X2 ++ [])) rfl ?_
  refine rl_norm (tm' := [_,_,_,_,_,_,_,_,_,_]) rfl ?_
  refine rl_det (met_none rfl) (fun h_ H_ => exd_assign (v := w1) rfl) rfl ?_
  refine rl_end ?_
  refine fl_ret Tryd.func55 rfl (vs := [w1]) (fun h_ H_ => ⟨w1, _, rfl, rfl, rfl⟩) (v := w1) rfl ?_
  exact fun h_ H_ => K _ _ ⟨_, _, rfl, o3, by simpa using H_.new⟩
end Go.Proofs.YtiinpnlfdeiloaaDoor
namespace Go.Proofs.YtiinpnlfdeiloaaDoor
open Go.X Go.X.Cent Go.Conc
set_option maxRecDepth 10000
set_option synthInstance.maxSize 2000
set_option synthInstance.maxHeartbeats 400000

set_option maxHeartbeats 1000000
theorem c18 (h : Heap) (ht : Tab h) (s : By) (hs : s.length ≤ 2 ^ 60) : CallsX Tryd.prog .lone 18 #[sv s] h fun v h' => ∃ w X, v = .tuple #[w, .int .i64 (readB s).1] ∧ OwnS 9 1 w (scs (readB s).2) X ∧ New h h' X := by
  refine calls_intro (Φ := fun h_ => St h [] (fun _ => none) h_ []) Tryd.func18 rfl (tm := [_, _, _, _, _, _, _, _, _, _, _, _, _, _, _, _, _, _, _, _, _, _, _, _, _, _, _, _, _, _, _, _, _, _, _, _, _, _, _, _, _, _, _, _, _, _, _, _, _, _, _, _, _, _, _, _, _, _, _, _, _, _, _, _, _, _, _, _]) rfl ?_ (St.start h _ (fun _ _ e => by cases e))
  intro c₀ cs Stop K
  refine fl_seq ?_
  refine rl_start ?_
  refine rl_det (met_none rfl) (fun h_ H_ => exd_assign (v := .slice none 0 0) rfl) rfl ?_
  refine rl_det (met_none rfl) (fun h_ H_ => exd_assign (v := .int .i64 0) rfl) rfl ?_
  refine rl_end ?_
  refine fl_seq ?_
  refine rl_start ?_
  refine rl_det (met_none rfl) (fun h_ H_ => exd_move (v := sv s) rfl) (tm' := _::_::_::_::_::_::_::_::_::_::_::_::_) rfl ?_
  refine rl_own (L' := ([] : Pcs) ++ []) rfl ?_
  refine rl_call (met_none rfl) (first := []) (cap := []) rfl rfl fC52 (R := fun v_ h_ => ∃ w1 : Value, ∃ X2 : Pcs, v_ = .tuple #[w1, .bool ((formB s).isSome)] ∧ (OwnS 60 2 w1 (pies ((formB s).getD [])) X2) ∧ St h [] (fun _ => none) h_ (([] : Pcs) ++ (X2 ++ []))) (fun h_ H_ => (c52 _ s (by omega)).mono fun v_ h2_ ⟨w1, X2, e_, o3, N_⟩ => ⟨w1, X2, e_, o3, H_.callNA N_⟩) fun v_ => ?_
  refine rl_ex fun w1 => rl_ex fun X2 => rl_and fun ev_ => rl_and fun o3 => ?_
  have ev_ := ev_.symm; subst ev_
  refine rl_own (L' := ([] : Pcs) ++ (X2 ++ [])) rfl ?_
  refine rl_det (met_none rfl) (fun h_ H_ => exd_move (v := .tuple #[w1, .bool ((formB s).isSome)]) rfl) rfl ?_
  refine rl_det (met_none rfl) (fun h_ H_ => exd_extract rfl (v := w1) rfl) (tm' := _::_::_::_::_::_::_::_::_::_::_::_::_::_::_) rfl ?_
  refine rl_det (met_none rfl) (fun h_ H_ => exd_extract rfl (v := .bool ((formB s).isSome)) rfl) rfl ?_
  refine rl_det (met_none rfl) (fun h_ H_ => exd_assign (v := w1) rfl) rfl ?_
  refine rl_det (met_none rfl) (fun h_ H_ => exd_assign (v := .bool ((formB s).isSome)) rfl) (tm' := _::_::_::_::_::_::_) rfl ?_
  refine rl_end ?_
  refine fl_seq ?_
  refine fl_seq ?_
  refine rl_start ?_
  refine rl_det (met_none rfl) (fun h_ H_ => exd_move (v := .bool ((formB s).isSome)) rfl) rfl ?_
  refine rl_det (met_none rfl) (fun h_ H_ => exd_not rfl) rfl ?_
  refine rl_end ?_
  rcases bcases ((formB s).isSome) with cc4 | cc4
  · refine fl_else rfl (not_f cc4) ?_
    refine fl_skip ?_
    refine fl_seq ?_
    refine fl_seq ?_
    obtain ⟨l, hl⟩ := Option.isSome_iff_exists.1 ‹(formB s).isSome = true›
    have h5 := form_five hl
    have e5 : (((s.length : Nat) : Int) - 5).toNat = s.length - 5 := by omega
    have hx : (formB s).getD [] = l := by rw [hl]; rfl
    have hfo := form_ok s
    refine rl_start ?_
    refine rl_det (met_none rfl) (fun h_ H_ => exd_move (v := sv s) rfl) (tm' := _::_::_::_::_::_::_::_::_::_::_::_::_::_::_::_::_::_::_) rfl ?_
    refine rl_det (met_none rfl) (fun h_ H_ => exd_move (v := sv s) rfl) rfl ?_
    refine rl_det (met_none rfl) (fun h_ H_ => exd_lenS (l := s) Tryd.underlying9 rfl) rfl ?_
    refine rl_det (met_none rfl) (fun h_ H_ => exd_sub rfl rfl (wr (by omega))) (tm' := _::_::_::_::_::_::_::_::_::_::_::_::_::_::_::_::_::_::_::_::_::_) rfl ?_
    refine rl_det (met_none rfl) (fun h_ H_ => exd_takeS (l := s) (r := ((((s.length : Nat) : Int) - 5)).toNat) Tryd.underlying9 rfl (.some _ rfl (by omega)) (by omega)) rfl ?_
    refine rl_calld (met_none rfl) (first := []) (cap := []) rfl rfl fC53 (fun h_ H_ => c53 _ (ht.keep H_.kept) (s.take (((((s.length : Nat) : Int) - 5)).toNat)) (by rw [List.length_take]; omega)) rfl ?_
    refine rl_det (met_none rfl) (fun h_ H_ => exd_move (v := sv s) rfl) (tm' := _::_::_::_::_::_::_::_::_::_::_::_::_::_::_::_::_::_::_::_::_::_::_::_::_) rfl ?_
    refine rl_det (met_none rfl) (fun h_ H_ => exd_neqS (l := sealB (s.take (((((s.length : Nat) : Int) - 5)).toNat))) (m := s) rfl rfl) rfl ?_
    refine rl_end ?_
    by_cases cc5 : sealB (s.take (((((s.length : Nat) : Int) - 5)).toNat)) = s
    · refine fl_else rfl (not_f (decide_eq_true cc5)) ?_
      refine fl_skip ?_
      refine fl_seq ?_
      refine rl_start ?_
      refine rl_det (met_none rfl) (fun h_ H_ => exd_move (v := w1) rfl) rfl ?_
      refine rl_call (met_none rfl) (first := []) (cap := []) rfl rfl fC54 (R := fun v_ h_ => ∃ w6 : Value, ∃ X7 : Pcs, v_ = .tuple #[sv (((rdTo [] ((formB s).getD [])).getD []).flatten), w6, .bool ((rdTo [] ((formB s).getD [])).isSome)] ∧ (OwnS 9 1 w6 (scs ((rdTo [] ((formB s).getD [])).getD [])) X7) ∧ St h [] (fun _ => none) h_ (([] : Pcs) ++ (X7 ++ (X2 ++ [])))) (fun h_ H_ => (c54o .lone o3 H_ (fun x_ h_ => by simp [h_]) (by omega) (form_mem s)).mono fun v_ h2_ ⟨w6, X7, e_, o8, N_⟩ => ⟨w6, X7, e_, o8, H_.callNA N_⟩) fun v_ => ?_
      refine rl_ex fun w6 => rl_ex fun X7 => rl_and fun ev_ => rl_and fun o8 => ?_
      have ev_ := ev_.symm; subst ev_
      refine rl_own (L' := ([] : Pcs) ++ (X7 ++ (X2 ++ []))) rfl ?_
      refine rl_norm (tm' := _::_::_::_::_::_::_::_::_::_::_::_::_::_::_::_::_::_::_::_::_::_::_::_::_::_::_::_::_) rfl ?_
      refine rl_det (met_none rfl) (fun h_ H_ => exd_move (v := .tuple #[sv (((rdTo [] ((formB s).getD [])).getD []).flatten), w6, .bool ((rdTo [] ((formB s).getD [])).isSome)]) rfl) rfl ?_
      refine rl_det (met_none rfl) (fun h_ H_ => exd_extract rfl (v := sv (((rdTo [] ((formB s).getD [])).getD []).flatten)) rfl) rfl ?_
      refine rl_det (met_none rfl) (fun h_ H_ => exd_extract rfl (v := w6) rfl) (tm' := _::_::_::_::_::_::_::_::_::_::_::_::_::_::_::_::_::_::_::_::_::_::_::_::_::_::_::_::_::_::_) rfl ?_
      refine rl_det (met_none rfl) (fun h_ H_ => exd_extract rfl (v := .bool ((rdTo [] ((formB s).getD [])).isSome)) rfl) rfl ?_
      refine rl_det (met_none rfl) (fun h_ H_ => exd_assign (v := sv (((rdTo [] ((formB s).getD [])).getD []).flatten)) rfl) rfl ?_
      refine rl_det (met_none rfl) (fun h_ H_ => exd_assign (v := w6) rfl) (tm' := _::_::_::_::_::_::_::_::_) rfl ?_
      refine rl_det (met_none rfl) (fun h_ H_ => exd_assign (v := .bool ((rdTo [] ((formB s).getD [])).isSome)) rfl) rfl ?_
      refine rl_end ?_
      refine fl_seq ?_
      refine fl_seq ?_
      refine rl_start ?_
      refine rl_det (met_none rfl) (fun h_ H_ => exd_move (v := .bool ((rdTo [] ((formB s).getD [])).isSome)) rfl) rfl ?_
      refine rl_det (met_none rfl) (fun h_ H_ => exd_not rfl) (tm' := _::_::_::_::_::_::_::_::_::_::_::_::_::_::_::_::_::_::_::_::_::_::_::_::_::_::_::_::_::_::_::_::_::_) rfl ?_
      refine rl_end ?_
      rcases bcases ((rdTo [] ((formB s).getD [])).isSome) with cc9 | cc9
      · refine fl_else rfl (not_f cc9) ?_
        refine fl_skip ?_
        refine fl_seq ?_
        obtain ⟨e, he⟩ := Option.isSome_iff_exists.1 ‹(rdTo [] ((formB s).getD [])).isSome = true›
        have hfl := rd_flat he (by omega)
        rw [hx] at he
        have hAL : ((rdTo [] ((formB s).getD [])).getD []).flatten = e.flatten := by rw [hx, he]; rfl
        have hfl2 : ((rdTo [] ((formB s).getD [])).getD []).flatten.length ≤ 1000000 := by rw [hAL]; exact hfl
        have hcl := cut_len1 (((rdTo [] ((formB s).getD [])).getD []).flatten)
        refine rl_start ?_
        refine rl_det (met_none rfl) (fun h_ H_ => exd_move (v := sv (((rdTo [] ((formB s).getD [])).getD []).flatten)) rfl) rfl ?_
        refine rl_buildO ([] : Pcs) (met_none rfl) Tryd.underlying37 tS5 tZ5 (Nat.le_of_ble_eq_true rfl) (vs := [(0, .int .u8 10)]) rfl rfl (es := [[.int .u8 10]]) rfl rfl rfl fun v10 X11 o12 => ?_
        refine rl_det (met_none rfl) (fun h_ H_ => exd_strOwn (A := ([] : Pcs)) (o12.as (show _ = bcs [10] from rfl)) H_ Tryd.underlying37 Tryd.underlying9 Tryd.underlying5 rfl) (tm' := _::_::_::_::_::_::_::_::_::_::_::_::_::_::_::_::_::_::_::_::_::_::_::_::_::_::_::_::_::_::_::_::_::_::_::_::_) rfl ?_
        refine rl_call (met_none rfl) (first := []) (cap := []) rfl rfl fC55 (R := fun v_ h_ => ∃ w13 : Value, ∃ X14 : Pcs, v_ = w13 ∧ (OwnS 9 1 w13 (scs (cutAfter 10 (((rdTo [] ((formB s).getD [])).getD []).flatten))) X14) ∧ St h [] (fun _ => none) h_ (([] : Pcs) ++ (X14 ++ (X11 ++ (X7 ++ (X2 ++ [])))))) (fun h_ H_ => (c55 _ (((rdTo [] ((formB s).getD [])).getD []).flatten) 10 (by omega)).mono fun v_ h2_ ⟨w13, X14, e_, o15, N_⟩ => ⟨w13, X14, e_, o15, H_.callNA N_⟩) fun v_ => ?_
        refine rl_ex fun w13 => rl_ex fun X14 => rl_and fun ev_ => rl_and fun o15 => ?_
        have ev_ := ev_.symm; subst ev_
        refine rl_own (L' := ([] : Pcs) ++ (X14 ++ (X11 ++ (X7 ++ (X2 ++ []))))) rfl ?_
        refine rl_det (met_none rfl) (fun h_ H_ => exd_assign (v := w13) rfl) rfl ?_
        refine rl_end ?_
        refine fl_seq ?_
        refine rl_start ?_
        refine rl_det (met_none rfl) (fun h_ H_ => exd_move (v := w13) rfl) (tm' := _::_::_::_::_::_::_::_::_::_::_::_::_::_::_::_::_::_::_::_::_::_::_::_::_::_::_::_::_::_::_::_::_::_::_::_::_::_::_) rfl ?_
        refine rl_det (met_none rfl) (fun h_ H_ => exd_move (v := w13) rfl) rfl ?_
        refine rl_det (met_none rfl) (fun h_ H_ => exd_lenN o15 (scs_length _) Tryd.underlying22 rfl) rfl ?_
        refine rl_det (met_none rfl) (fun h_ H_ => exd_sub rfl rfl (wr (by omega))) (tm' := _::_::_::_::_::_::_::_::_::_::_::_::_::_::_::_::_::_::_::_::_::_::_::_::_::_::_::_::_::_::_::_::_::_::_::_::_::_::_::_::_::_) rfl ?_
        refine rl_det (met_none rfl) (fun h_ H_ => exd_takeO (by decide) o15 (scs_length _) Tryd.underlying22 tS9 rfl (.some _ rfl (by omega)) (by omega)) rfl ?_
        refine rl_det (met_none rfl) (fun h_ H_ => exd_assign (v := (tkV w13 ((((((cutAfter 10 (((rdTo [] ((formB s).getD [])).getD []).flatten)).length : Nat) : Int) - 1)).toNat))) rfl) rfl ?_
        refine rl_end ?_
        refine fl_seq ?_
        refine fl_seq ?_
        refine rs_perm (List.Perm.append_left _ (List.perm_append_comm_assoc _ _ _)) ?_
        refine rs_perm (List.Perm.append_left _ (List.Perm.append_left _ (List.perm_append_comm_assoc _ _ _))) ?_
        refine rs_perm (List.Perm.append_left _ (List.Perm.append_left _ (List.Perm.append_left _ (List.perm_append_comm_assoc _ _ _)))) ?_
        refine rs_own (L' := ([] : Pcs) ++ (X11 ++ (X7 ++ (X2 ++ (X14 ++ []))))) rfl ?_
        refine rs_as (Φ := fun h_ => St h [] (fun _ => none) h_ (([] : Pcs) ++ (X14 ++ []))) ?_ (fun h_ H_ => St.dropX (A := ([] : Pcs)) (St.dropX (A := ([] : Pcs)) (St.dropX (A := ([] : Pcs)) H_)))
        refine rs_own (L' := ([] : Pcs) ++ (X14 ++ [])) rfl ?_
        obtain ⟨TS, hTS⟩ : ∃ TS, TS = (cutAfter 10 (((rdTo [] ((formB s).getD [])).getD []).flatten)).take ((((((cutAfter 10 (((rdTo [] ((formB s).getD [])).getD []).flatten)).length : Nat) : Int) - 1)).toNat) := ⟨_, rfl⟩
        have oT : OwnS 9 1 (tkV w13 ((((((cutAfter 10 (((rdTo [] ((formB s).getD [])).getD []).flatten)).length : Nat) : Int) - 1)).toNat)) (scs TS) X14 := (OwnS.take o15 (k := (((((cutAfter 10 (((rdTo [] ((formB s).getD [])).getD []).flatten)).length : Nat) : Int) - 1)).toNat) (by rw [(scs_length _)]; omega)).as (by rw [hTS, scs_take])
        have hT2 : TS.map trim1 = linesB e.flatten := by rw [hTS, hAL, linesB]; congr 2; rw [← hAL]; omega
        have hTl : ∀ t ∈ TS, t.length ≤ 1000000 := fun t z => Nat.le_trans (cut_piece (List.mem_of_mem_take (hTS ▸ z))) hfl2
        have hTn : TS.length ≤ 1000001 := by rw [hTS, List.length_take]; omega
        clear hTS
        refine rl_start ?_
        refine rl_det (met_none rfl) (fun h_ H_ => exd_move (v := (tkV w13 ((((((cutAfter 10 (((rdTo [] ((formB s).getD [])).getD []).flatten)).length : Nat) : Int) - 1)).toNat))) rfl) (tm' := _::_::_::_::_::_::_::_::_::_::_::_::_::_::_::_::_::_::_::_::_::_::_::_::_::_::_::_::_::_::_::_::_::_::_::_::_::_::_::_::_::_::_::_) rfl ?_
        refine rl_det (met_none rfl) (fun h_ H_ => exd_lenN oT (scs_length _) Tryd.underlying22 rfl) rfl ?_
        refine rl_det (met_none rfl) (fun h_ H_ => exd_move (v := .int .i64 0) rfl) rfl ?_
        refine rl_end ?_
        refine fl_block ?_
        refine fl_loop (m₀ := TS.length - 0) (fun m_ tm_ h_ => ∃ (k : Nat) (X1 : Pcs), m_ = TS.length - k ∧ (∃ y16 : Nat → Value, tm_ = [sv s, undef, .slice none 0 0, .int .i64 0, w1, .bool ((rdTo [] ((formB s).getD [])).isSome), sv (((rdTo [] ((formB s).getD [])).getD []).flatten), w6, (tkV w13 ((((((cutAfter 10 (((rdTo [] ((formB s).getD [])).getD []).flatten)).length : Nat) : Int) - 1)).toNat)), (y16 9), .tuple #[w1, .bool ((formB s).isSome)], sv s, .tuple #[w1, .bool ((formB s).isSome)], w1, .bool ((formB s).isSome), .bool ((formB s).isSome), .bool (!((formB s).isSome)), sv s, sv s, .int .i64 (((s.length : Nat) : Int)), .int .i64 (((s.length : Nat) : Int) - 5), sv (s.take (((((s.length : Nat) : Int) - 5)).toNat)), sv (sealB (s.take (((((s.length : Nat) : Int) - 5)).toNat))), sv s, .bool (!decide (sealB (s.take (((((s.length : Nat) : Int) - 5)).toNat)) = s)), .tuple #[sv (((rdTo [] ((formB s).getD [])).getD []).flatten), w6, .bool ((rdTo [] ((formB s).getD [])).isSome)], w1, .tuple #[sv (((rdTo [] ((formB s).getD [])).getD []).flatten), w6, .bool ((rdTo [] ((formB s).getD [])).isSome)], sv (((rdTo [] ((formB s).getD [])).getD []).flatten), w6, .bool ((rdTo [] ((formB s).getD [])).isSome), .bool ((rdTo [] ((formB s).getD [])).isSome), .bool (!((rdTo [] ((formB s).getD [])).isSome)), sv (((rdTo [] ((formB s).getD [])).getD []).flatten), v10, sv ([10]), w13, w13, w13, .int .i64 ((((cutAfter 10 (((rdTo [] ((formB s).getD [])).getD []).flatten)).length : Nat) : Int)), .int .i64 ((((cutAfter 10 (((rdTo [] ((formB s).getD [])).getD []).flatten)).length : Nat) : Int) - 1), (tkV w13 ((((((cutAfter 10 (((rdTo [] ((formB s).getD [])).getD []).flatten)).length : Nat) : Int) - 1)).toNat)), (tkV w13 ((((((cutAfter 10 (((rdTo [] ((formB s).getD [])).getD []).flatten)).length : Nat) : Int) - 1)).toNat)), .int .i64 (((TS.length : Nat) : Int)), .int .i64 (((k : Nat) : Int)), (y16 45), (y16 46), (y16 47), (y16 48), (y16 49), (y16 50), (y16 51), (y16 52), (y16 53), (y16 54), (y16 55), (y16 56), (y16 57), undef, undef, undef, undef, undef, undef, undef, undef, undef, undef]) ∧ (k ≤ TS.length) ∧ (OwnS 9 1 (tkV w13 ((((((cutAfter 10 (((rdTo [] ((formB s).getD [])).getD []).flatten)).length : Nat) : Int) - 1)).toNat)) (scs (trimTo k TS)) X1) ∧ St h [] (fun _ => none) h_ (([] : Pcs) ++ (X1 ++ []))) (fun h_ H_ => ⟨0, X14, rfl, (y_of rfl), Nat.zero_le _, (oT.as (by rw [trimTo_zero])), H_⟩) ?_
        intro m_ tm_ IH17
        refine rs_ex fun k => rs_ex fun X1 => rs_and fun hm_ => rs_and fun ht_ => rs_and fun hk => rs_and fun o1 => ?_
        subst hm_; obtain ⟨y16, ht_⟩ := ht_; subst ht_
        refine fl_seq ?_
        refine rl_start ?_
        refine rl_det (met_none rfl) (fun h_ H_ => exd_lss rfl rfl) (tm' := [_,_,_,_,_,_,_,_,_,_,_,_,_,_,_,_,_,_,_,_,_,_,_,_,_,_,_,_,_,_,_,_,_,_,_,_,_,_,_,_,_,_,_,_,_,_,_,_,_,_,_,_,_,_,_,_,_,_,_,_,_,_,_,_,_,_,_,_]) rfl ?_
        refine rl_end ?_
        refine fl_seq ?_
        by_cases cc18 : ((k : Nat) : Int) < ((TS.length : Nat) : Int)
        · refine fl_then rfl (decide_eq_true cc18) ?_
          refine fl_skip ?_
          refine fl_seq ?_
          refine fl_block ?_
          refine fl_seq ?_
          refine rl_start ?_
          refine rl_det (met_none rfl) (fun h_ H_ => exd_move (v := .int .i64 (((k : Nat) : Int))) rfl) rfl ?_
          refine rl_det (met_none rfl) (fun h_ H_ => exd_assign (v := .int .i64 (((k : Nat) : Int))) rfl) rfl ?_
          refine rl_end ?_
          refine rs_as (fl_mixed2 (C := []) (A := (([] : Pcs) ++ X1)) 9 [] [] [] [0, 1, 2, 3, 4, 5, 7, 8] (fun _ => []) (fun i_ => match i_ with | 7 => [6] | _ => []) (fun i_ => match i_ with | 0 => [] | 1 => [] | 2 => [] | 3 => [] | 4 => [2, 3] | 5 => [4] | 6 => [] | 7 => [6] | 8 => [5, 7] | _ => []) (fun i_ val_ pc_ v_ x_ => match i_ with | 0 => v_ = (tkV w13 ((((((cutAfter 10 (((rdTo [] ((formB s).getD [])).getD []).flatten)).length : Nat) : Int) - 1)).toNat)) ∧ x_ = [] | 1 => v_ = .int .i64 (((k : Nat) : Int)) ∧ x_ = [] | 2 => v_ = (tkV w13 ((((((cutAfter 10 (((rdTo [] ((formB s).getD [])).getD []).flatten)).length : Nat) : Int) - 1)).toNat)) ∧ x_ = [] | 3 => v_ = .int .i64 (((k : Nat) : Int)) ∧ x_ = [] | 4 => v_ = .pointer (some ((adrV (tkV w13 ((((((cutAfter 10 (((rdTo [] ((formB s).getD [])).getD []).flatten)).length : Nat) : Int) - 1)).toNat))).add (k * 1))) ∧ x_ = [] | 5 => v_ = sv (TS.getD k []) ∧ x_ = [] | 6 => OwnS 5 1 v_ [[.int .u8 10]] x_ | 7 => v_ = sv ([10]) ∧ x_ = [] | 8 => v_ = sv (Lib.trimSuffix (TS.getD k []) ([10])) ∧ x_ = [] | _ => True) (fun val19 => [sv s, undef, .slice none 0 0, .int .i64 0, w1, .bool ((rdTo [] ((formB s).getD [])).isSome), sv (((rdTo [] ((formB s).getD [])).getD []).flatten), w6, (tkV w13 ((((((cutAfter 10 (((rdTo [] ((formB s).getD [])).getD []).flatten)).length : Nat) : Int) - 1)).toNat)), .int .i64 (((k : Nat) : Int)), .tuple #[w1, .bool ((formB s).isSome)], sv s, .tuple #[w1, .bool ((formB s).isSome)], w1, .bool ((formB s).isSome), .bool ((formB s).isSome), .bool (!((formB s).isSome)), sv s, sv s, .int .i64 (((s.length : Nat) : Int)), .int .i64 (((s.length : Nat) : Int) - 5), sv (s.take (((((s.length : Nat) : Int) - 5)).toNat)), sv (sealB (s.take (((((s.length : Nat) : Int) - 5)).toNat))), sv s, .bool (!decide (sealB (s.take (((((s.length : Nat) : Int) - 5)).toNat)) = s)), .tuple #[sv (((rdTo [] ((formB s).getD [])).getD []).flatten), w6, .bool ((rdTo [] ((formB s).getD [])).isSome)], w1, .tuple #[sv (((rdTo [] ((formB s).getD [])).getD []).flatten), w6, .bool ((rdTo [] ((formB s).getD [])).isSome)], sv (((rdTo [] ((formB s).getD [])).getD []).flatten), w6, .bool ((rdTo [] ((formB s).getD [])).isSome), .bool ((rdTo [] ((formB s).getD [])).isSome), .bool (!((rdTo [] ((formB s).getD [])).isSome)), sv (((rdTo [] ((formB s).getD [])).getD []).flatten), v10, sv ([10]), w13, w13, w13, .int .i64 ((((cutAfter 10 (((rdTo [] ((formB s).getD [])).getD []).flatten)).length : Nat) : Int)), .int .i64 ((((cutAfter 10 (((rdTo [] ((formB s).getD [])).getD []).flatten)).length : Nat) : Int) - 1), (tkV w13 ((((((cutAfter 10 (((rdTo [] ((formB s).getD [])).getD []).flatten)).length : Nat) : Int) - 1)).toNat)), (tkV w13 ((((((cutAfter 10 (((rdTo [] ((formB s).getD [])).getD []).flatten)).length : Nat) : Int) - 1)).toNat)), .int .i64 (((TS.length : Nat) : Int)), .int .i64 (((k : Nat) : Int)), .bool (decide (((k : Nat) : Int) < ((TS.length : Nat) : Int))), .int .i64 (((k : Nat) : Int)), (val19 0), (val19 1), (val19 2), (val19 3), (val19 4), (val19 5), (val19 6), (val19 7), (val19 8), (y16 56), (y16 57), undef, undef, undef, undef, undef, undef, undef, undef, undef, undef]) mixed (by kernel_rfl) (Nat.le_of_ble_eq_true rfl) (by kernel_rfl) (by kernel_rfl) (by kernel_rfl) (fun _ _ => ⟨fun _ _ h => h.2, ⟨fun _ _ h => h.2, ⟨fun _ _ h => h.2, ⟨fun _ _ h => h.2, ⟨fun _ _ h => h.2, ⟨fun _ _ h => h.2, ⟨fun _ _ h => h.2, ⟨fun _ _ h => h.2, trivial⟩⟩⟩⟩⟩⟩⟩⟩) (fun _ => by kernel_rfl) (by kernel_rfl) ?_ ?_) (fun h_ H_ => St.swap (A := (([] : Pcs) ++ X1)) (U := []) H_.assoc)
          · refine mixes_cons rfl (opmix2 ?_) ?_
            · intro val19 pc20 hQ_ hX_
              obtain ⟨q_, hq0_⟩ : ∃ q_ : Value → Pcs → Prop, q_ = (fun v_ x_ => v_ = (tkV w13 ((((((cutAfter 10 (((rdTo [] ((formB s).getD [])).getD []).flatten)).length : Nat) : Int) - 1)).toNat)) ∧ x_ = []) := ⟨_, rfl⟩
              refine ⟨[sv s, undef, .slice none 0 0, .int .i64 0, w1, .bool ((rdTo [] ((formB s).getD [])).isSome), sv (((rdTo [] ((formB s).getD [])).getD []).flatten), w6, (tkV w13 ((((((cutAfter 10 (((rdTo [] ((formB s).getD [])).getD []).flatten)).length : Nat) : Int) - 1)).toNat)), .int .i64 (((k : Nat) : Int)), .tuple #[w1, .bool ((formB s).isSome)], sv s, .tuple #[w1, .bool ((formB s).isSome)], w1, .bool ((formB s).isSome), .bool ((formB s).isSome), .bool (!((formB s).isSome)), sv s, sv s, .int .i64 (((s.length : Nat) : Int)), .int .i64 (((s.length : Nat) : Int) - 5), sv (s.take (((((s.length : Nat) : Int) - 5)).toNat)), sv (sealB (s.take (((((s.length : Nat) : Int) - 5)).toNat))), sv s, .bool (!decide (sealB (s.take (((((s.length : Nat) : Int) - 5)).toNat)) = s)), .tuple #[sv (((rdTo [] ((formB s).getD [])).getD []).flatten), w6, .bool ((rdTo [] ((formB s).getD [])).isSome)], w1, .tuple #[sv (((rdTo [] ((formB s).getD [])).getD []).flatten), w6, .bool ((rdTo [] ((formB s).getD [])).isSome)], sv (((rdTo [] ((formB s).getD [])).getD []).flatten), w6, .bool ((rdTo [] ((formB s).getD [])).isSome), .bool ((rdTo [] ((formB s).getD [])).isSome), .bool (!((rdTo [] ((formB s).getD [])).isSome)), sv (((rdTo [] ((formB s).getD [])).getD []).flatten), v10, sv ([10]), w13, w13, w13, .int .i64 ((((cutAfter 10 (((rdTo [] ((formB s).getD [])).getD []).flatten)).length : Nat) : Int)), .int .i64 ((((cutAfter 10 (((rdTo [] ((formB s).getD [])).getD []).flatten)).length : Nat) : Int) - 1), (tkV w13 ((((((cutAfter 10 (((rdTo [] ((formB s).getD [])).getD []).flatten)).length : Nat) : Int) - 1)).toNat)), (tkV w13 ((((((cutAfter 10 (((rdTo [] ((formB s).getD [])).getD []).flatten)).length : Nat) : Int) - 1)).toNat)), .int .i64 (((TS.length : Nat) : Int)), .int .i64 (((k : Nat) : Int)), .bool (decide (((k : Nat) : Int) < ((TS.length : Nat) : Int))), .int .i64 (((k : Nat) : Int)), (val19 0), (val19 1), (val19 2), (val19 3), (val19 4), (val19 5), (val19 6), (val19 7), (val19 8), (y16 56), (y16 57), undef, undef, undef, undef, undef, undef, undef, undef, undef, undef], [], q_, rfl, rfl, (fun _ _ z_ => by subst hq0_; exact z_), ?_⟩
              subst hq0_
              exact mix_det (met_none rfl) (fun _ h_ H_ => exd_move (v := (tkV w13 ((((((cutAfter 10 (((rdTo [] ((formB s).getD [])).getD []).flatten)).length : Nat) : Int) - 1)).toNat))) rfl) ⟨rfl, rfl⟩
            refine mixes_cons rfl (opmix2 ?_) ?_
            · intro val19 pc20 hQ_ hX_
              obtain ⟨q_, hq0_⟩ : ∃ q_ : Value → Pcs → Prop, q_ = (fun v_ x_ => v_ = .int .i64 (((k : Nat) : Int)) ∧ x_ = []) := ⟨_, rfl⟩
              refine ⟨[sv s, undef, .slice none 0 0, .int .i64 0, w1, .bool ((rdTo [] ((formB s).getD [])).isSome), sv (((rdTo [] ((formB s).getD [])).getD []).flatten), w6, (tkV w13 ((((((cutAfter 10 (((rdTo [] ((formB s).getD [])).getD []).flatten)).length : Nat) : Int) - 1)).toNat)), .int .i64 (((k : Nat) : Int)), .tuple #[w1, .bool ((formB s).isSome)], sv s, .tuple #[w1, .bool ((formB s).isSome)], w1, .bool ((formB s).isSome), .bool ((formB s).isSome), .bool (!((formB s).isSome)), sv s, sv s, .int .i64 (((s.length : Nat) : Int)), .int .i64 (((s.length : Nat) : Int) - 5), sv (s.take (((((s.length : Nat) : Int) - 5)).toNat)), sv (sealB (s.take (((((s.length : Nat) : Int) - 5)).toNat))), sv s, .bool (!decide (sealB (s.take (((((s.length : Nat) : Int) - 5)).toNat)) = s)), .tuple #[sv (((rdTo [] ((formB s).getD [])).getD []).flatten), w6, .bool ((rdTo [] ((formB s).getD [])).isSome)], w1, .tuple #[sv (((rdTo [] ((formB s).getD [])).getD []).flatten), w6, .bool ((rdTo [] ((formB s).getD [])).isSome)], sv (((rdTo [] ((formB s).getD [])).getD []).flatten), w6, .bool ((rdTo [] ((formB s).getD [])).isSome), .bool ((rdTo [] ((formB s).getD [])).isSome), .bool (!((rdTo [] ((formB s).getD [])).isSome)), sv (((rdTo [] ((formB s).getD [])).getD []).flatten), v10, sv ([10]), w13, w13, w13, .int .i64 ((((cutAfter 10 (((rdTo [] ((formB s).getD [])).getD []).flatten)).length : Nat) : Int)), .int .i64 ((((cutAfter 10 (((rdTo [] ((formB s).getD [])).getD []).flatten)).length : Nat) : Int) - 1), (tkV w13 ((((((cutAfter 10 (((rdTo [] ((formB s).getD [])).getD []).flatten)).length : Nat) : Int) - 1)).toNat)), (tkV w13 ((((((cutAfter 10 (((rdTo [] ((formB s).getD [])).getD []).flatten)).length : Nat) : Int) - 1)).toNat)), .int .i64 (((TS.length : Nat) : Int)), .int .i64 (((k : Nat) : Int)), .bool (decide (((k : Nat) : Int) < ((TS.length : Nat) : Int))), .int .i64 (((k : Nat) : Int)), (val19 0), (val19 1), (val19 2), (val19 3), (val19 4), (val19 5), (val19 6), (val19 7), (val19 8), (y16 56), (y16 57), undef, undef, undef, undef, undef, undef, undef, undef, undef, undef], [], q_, rfl, rfl, (fun _ _ z_ => by subst hq0_; exact z_), ?_⟩
              subst hq0_
              exact mix_det (met_none rfl) (fun _ h_ H_ => exd_move (v := .int .i64 (((k : Nat) : Int))) rfl) ⟨rfl, rfl⟩
            refine mixes_cons rfl (opmix2 ?_) ?_
            · intro val19 pc20 hQ_ hX_
              obtain ⟨q_, hq0_⟩ : ∃ q_ : Value → Pcs → Prop, q_ = (fun v_ x_ => v_ = (tkV w13 ((((((cutAfter 10 (((rdTo [] ((formB s).getD [])).getD []).flatten)).length : Nat) : Int) - 1)).toNat)) ∧ x_ = []) := ⟨_, rfl⟩
              refine ⟨[sv s, undef, .slice none 0 0, .int .i64 0, w1, .bool ((rdTo [] ((formB s).getD [])).isSome), sv (((rdTo [] ((formB s).getD [])).getD []).flatten), w6, (tkV w13 ((((((cutAfter 10 (((rdTo [] ((formB s).getD [])).getD []).flatten)).length : Nat) : Int) - 1)).toNat)), .int .i64 (((k : Nat) : Int)), .tuple #[w1, .bool ((formB s).isSome)], sv s, .tuple #[w1, .bool ((formB s).isSome)], w1, .bool ((formB s).isSome), .bool ((formB s).isSome), .bool (!((formB s).isSome)), sv s, sv s, .int .i64 (((s.length : Nat) : Int)), .int .i64 (((s.length : Nat) : Int) - 5), sv (s.take (((((s.length : Nat) : Int) - 5)).toNat)), sv (sealB (s.take (((((s.length : Nat) : Int) - 5)).toNat))), sv s, .bool (!decide (sealB (s.take (((((s.length : Nat) : Int) - 5)).toNat)) = s)), .tuple #[sv (((rdTo [] ((formB s).getD [])).getD []).flatten), w6, .bool ((rdTo [] ((formB s).getD [])).isSome)], w1, .tuple #[sv (((rdTo [] ((formB s).getD [])).getD []).flatten), w6, .bool ((rdTo [] ((formB s).getD [])).isSome)], sv (((rdTo [] ((formB s).getD [])).getD []).flatten), w6, .bool ((rdTo [] ((formB s).getD [])).isSome), .bool ((rdTo [] ((formB s).getD [])).isSome), .bool (!((rdTo [] ((formB s).getD [])).isSome)), sv (((rdTo [] ((formB s).getD [])).getD []).flatten), v10, sv ([10]), w13, w13, w13, .int .i64 ((((cutAfter 10 (((rdTo [] ((formB s).getD [])).getD []).flatten)).length : Nat) : Int)), .int .i64 ((((cutAfter 10 (((rdTo [] ((formB s).getD [])).getD []).flatten)).length : Nat) : Int) - 1), (tkV w13 ((((((cutAfter 10 (((rdTo [] ((formB s).getD [])).getD []).flatten)).length : Nat) : Int) - 1)).toNat)), (tkV w13 ((((((cutAfter 10 (((rdTo [] ((formB s).getD [])).getD []).flatten)).length : Nat) : Int) - 1)).toNat)), .int .i64 (((TS.length : Nat) : Int)), .int .i64 (((k : Nat) : Int)), .bool (decide (((k : Nat) : Int) < ((TS.length : Nat) : Int))), .int .i64 (((k : Nat) : Int)), (val19 0), (val19 1), (val19 2), (val19 3), (val19 4), (val19 5), (val19 6), (val19 7), (val19 8), (y16 56), (y16 57), undef, undef, undef, undef, undef, undef, undef, undef, undef, undef], [], q_, rfl, rfl, (fun _ _ z_ => by subst hq0_; exact z_), ?_⟩
              subst hq0_
              exact mix_det (met_none rfl) (fun _ h_ H_ => exd_move (v := (tkV w13 ((((((cutAfter 10 (((rdTo [] ((formB s).getD [])).getD []).flatten)).length : Nat) : Int) - 1)).toNat))) rfl) ⟨rfl, rfl⟩
            refine mixes_cons rfl (opmix2 ?_) ?_
            · intro val19 pc20 hQ_ hX_
              obtain ⟨q_, hq0_⟩ : ∃ q_ : Value → Pcs → Prop, q_ = (fun v_ x_ => v_ = .int .i64 (((k : Nat) : Int)) ∧ x_ = []) := ⟨_, rfl⟩
              refine ⟨[sv s, undef, .slice none 0 0, .int .i64 0, w1, .bool ((rdTo [] ((formB s).getD [])).isSome), sv (((rdTo [] ((formB s).getD [])).getD []).flatten), w6, (tkV w13 ((((((cutAfter 10 (((rdTo [] ((formB s).getD [])).getD []).flatten)).length : Nat) : Int) - 1)).toNat)), .int .i64 (((k : Nat) : Int)), .tuple #[w1, .bool ((formB s).isSome)], sv s, .tuple #[w1, .bool ((formB s).isSome)], w1, .bool ((formB s).isSome), .bool ((formB s).isSome), .bool (!((formB s).isSome)), sv s, sv s, .int .i64 (((s.length : Nat) : Int)), .int .i64 (((s.length : Nat) : Int) - 5), sv (s.take (((((s.length : Nat) : Int) - 5)).toNat)), sv (sealB (s.take (((((s.length : Nat) : Int) - 5)).toNat))), sv s, .bool (!decide (sealB (s.take (((((s.length : Nat) : Int) - 5)).toNat)) = s)), .tuple #[sv (((rdTo [] ((formB s).getD [])).getD []).flatten), w6, .bool ((rdTo [] ((formB s).getD [])).isSome)], w1, .tuple #[sv (((rdTo [] ((formB s).getD [])).getD []).flatten), w6, .bool ((rdTo [] ((formB s).getD [])).isSome)], sv (((rdTo [] ((formB s).getD [])).getD []).flatten), w6, .bool ((rdTo [] ((formB s).getD [])).isSome), .bool ((rdTo [] ((formB s).getD [])).isSome), .bool (!((rdTo [] ((formB s).getD [])).isSome)), sv (((rdTo [] ((formB s).getD [])).getD []).flatten), v10, sv ([10]), w13, w13, w13, .int .i64 ((((cutAfter 10 (((rdTo [] ((formB s).getD [])).getD []).flatten)).length : Nat) : Int)), .int .i64 ((((cutAfter 10 (((rdTo [] ((formB s).getD [])).getD []).flatten)).length : Nat) : Int) - 1), (tkV w13 ((((((cutAfter 10 (((rdTo [] ((formB s).getD [])).getD []).flatten)).length : Nat) : Int) - 1)).toNat)), (tkV w13 ((((((cutAfter 10 (((rdTo [] ((formB s).getD [])).getD []).flatten)).length : Nat) : Int) - 1)).toNat)), .int .i64 (((TS.length : Nat) : Int)), .int .i64 (((k : Nat) : Int)), .bool (decide (((k : Nat) : Int) < ((TS.length : Nat) : Int))), .int .i64 (((k : Nat) : Int)), (val19 0), (val19 1), (val19 2), (val19 3), (val19 4), (val19 5), (val19 6), (val19 7), (val19 8), (y16 56), (y16 57), undef, undef, undef, undef, undef, undef, undef, undef, undef, undef], [], q_, rfl, rfl, (fun _ _ z_ => by subst hq0_; exact z_), ?_⟩
              subst hq0_
              exact mix_det (met_none rfl) (fun _ h_ H_ => exd_move (v := .int .i64 (((k : Nat) : Int))) rfl) ⟨rfl, rfl⟩
            refine mixes_cons rfl (opmix2 ?_) ?_
            · intro val19 pc20 hQ_ hX_
              have e2_ : val19 2 = (tkV w13 ((((((cutAfter 10 (((rdTo [] ((formB s).getD [])).getD []).flatten)).length : Nat) : Int) - 1)).toNat)) := (hQ_ 2 rfl).1
              have e3_ : val19 3 = .int .i64 (((k : Nat) : Int)) := (hQ_ 3 rfl).1
              obtain ⟨q_, hq0_⟩ : ∃ q_ : Value → Pcs → Prop, q_ = (fun v_ x_ => v_ = .pointer (some ((adrV (tkV w13 ((((((cutAfter 10 (((rdTo [] ((formB s).getD [])).getD []).flatten)).length : Nat) : Int) - 1)).toNat))).add (k * 1))) ∧ x_ = []) := ⟨_, rfl⟩
              refine ⟨[sv s, undef, .slice none 0 0, .int .i64 0, w1, .bool ((rdTo [] ((formB s).getD [])).isSome), sv (((rdTo [] ((formB s).getD [])).getD []).flatten), w6, (tkV w13 ((((((cutAfter 10 (((rdTo [] ((formB s).getD [])).getD []).flatten)).length : Nat) : Int) - 1)).toNat)), .int .i64 (((k : Nat) : Int)), .tuple #[w1, .bool ((formB s).isSome)], sv s, .tuple #[w1, .bool ((formB s).isSome)], w1, .bool ((formB s).isSome), .bool ((formB s).isSome), .bool (!((formB s).isSome)), sv s, sv s, .int .i64 (((s.length : Nat) : Int)), .int .i64 (((s.length : Nat) : Int) - 5), sv (s.take (((((s.length : Nat) : Int) - 5)).toNat)), sv (sealB (s.take (((((s.length : Nat) : Int) - 5)).toNat))), sv s, .bool (!decide (sealB (s.take (((((s.length : Nat) : Int) - 5)).toNat)) = s)), .tuple #[sv (((rdTo [] ((formB s).getD [])).getD []).flatten), w6, .bool ((rdTo [] ((formB s).getD [])).isSome)], w1, .tuple #[sv (((rdTo [] ((formB s).getD [])).getD []).flatten), w6, .bool ((rdTo [] ((formB s).getD [])).isSome)], sv (((rdTo [] ((formB s).getD [])).getD []).flatten), w6, .bool ((rdTo [] ((formB s).getD [])).isSome), .bool ((rdTo [] ((formB s).getD [])).isSome), .bool (!((rdTo [] ((formB s).getD [])).isSome)), sv (((rdTo [] ((formB s).getD [])).getD []).flatten), v10, sv ([10]), w13, w13, w13, .int .i64 ((((cutAfter 10 (((rdTo [] ((formB s).getD [])).getD []).flatten)).length : Nat) : Int)), .int .i64 ((((cutAfter 10 (((rdTo [] ((formB s).getD [])).getD []).flatten)).length : Nat) : Int) - 1), (tkV w13 ((((((cutAfter 10 (((rdTo [] ((formB s).getD [])).getD []).flatten)).length : Nat) : Int) - 1)).toNat)), (tkV w13 ((((((cutAfter 10 (((rdTo [] ((formB s).getD [])).getD []).flatten)).length : Nat) : Int) - 1)).toNat)), .int .i64 (((TS.length : Nat) : Int)), .int .i64 (((k : Nat) : Int)), .bool (decide (((k : Nat) : Int) < ((TS.length : Nat) : Int))), .int .i64 (((k : Nat) : Int)), (val19 0), (val19 1), (tkV w13 ((((((cutAfter 10 (((rdTo [] ((formB s).getD [])).getD []).flatten)).length : Nat) : Int) - 1)).toNat)), .int .i64 (((k : Nat) : Int)), (val19 4), (val19 5), (val19 6), (val19 7), (val19 8), (y16 56), (y16 57), undef, undef, undef, undef, undef, undef, undef, undef, undef, undef], [], q_, (by simp only [e2_, e3_]), rfl, (fun _ _ z_ => by subst hq0_; exact z_), ?_⟩
              subst hq0_
              exact mix_det (met_none rfl) (fun _ h_ H_ => exd_indexO o1 Tryd.underlying22 tS9 rfl rfl (by rw [((scs_length _).trans (trimTo_len _ _))]; omega)) ⟨rfl, rfl⟩
            refine mixes_cons rfl (opmix2 ?_) ?_
            · intro val19 pc20 hQ_ hX_
              have e4_ : val19 4 = .pointer (some ((adrV (tkV w13 ((((((cutAfter 10 (((rdTo [] ((formB s).getD [])).getD []).flatten)).length : Nat) : Int) - 1)).toNat))).add (k * 1))) := (hQ_ 4 rfl).1
              obtain ⟨q_, hq0_⟩ : ∃ q_ : Value → Pcs → Prop, q_ = (fun v_ x_ => v_ = sv (TS.getD k []) ∧ x_ = []) := ⟨_, rfl⟩
              refine ⟨[sv s, undef, .slice none 0 0, .int .i64 0, w1, .bool ((rdTo [] ((formB s).getD [])).isSome), sv (((rdTo [] ((formB s).getD [])).getD []).flatten), w6, (tkV w13 ((((((cutAfter 10 (((rdTo [] ((formB s).getD [])).getD []).flatten)).length : Nat) : Int) - 1)).toNat)), .int .i64 (((k : Nat) : Int)), .tuple #[w1, .bool ((formB s).isSome)], sv s, .tuple #[w1, .bool ((formB s).isSome)], w1, .bool ((formB s).isSome), .bool ((formB s).isSome), .bool (!((formB s).isSome)), sv s, sv s, .int .i64 (((s.length : Nat) : Int)), .int .i64 (((s.length : Nat) : Int) - 5), sv (s.take (((((s.length : Nat) : Int) - 5)).toNat)), sv (sealB (s.take (((((s.length : Nat) : Int) - 5)).toNat))), sv s, .bool (!decide (sealB (s.take (((((s.length : Nat) : Int) - 5)).toNat)) = s)), .tuple #[sv (((rdTo [] ((formB s).getD [])).getD []).flatten), w6, .bool ((rdTo [] ((formB s).getD [])).isSome)], w1, .tuple #[sv (((rdTo [] ((formB s).getD [])).getD []).flatten), w6, .bool ((rdTo [] ((formB s).getD [])).isSome)], sv (((rdTo [] ((formB s).getD [])).getD []).flatten), w6, .bool ((rdTo [] ((formB s).getD [])).isSome), .bool ((rdTo [] ((formB s).getD [])).isSome), .bool (!((rdTo [] ((formB s).getD [])).isSome)), sv (((rdTo [] ((formB s).getD [])).getD []).flatten), v10, sv ([10]), w13, w13, w13, .int .i64 ((((cutAfter 10 (((rdTo [] ((formB s).getD [])).getD []).flatten)).length : Nat) : Int)), .int .i64 ((((cutAfter 10 (((rdTo [] ((formB s).getD [])).getD []).flatten)).length : Nat) : Int) - 1), (tkV w13 ((((((cutAfter 10 (((rdTo [] ((formB s).getD [])).getD []).flatten)).length : Nat) : Int) - 1)).toNat)), (tkV w13 ((((((cutAfter 10 (((rdTo [] ((formB s).getD [])).getD []).flatten)).length : Nat) : Int) - 1)).toNat)), .int .i64 (((TS.length : Nat) : Int)), .int .i64 (((k : Nat) : Int)), .bool (decide (((k : Nat) : Int) < ((TS.length : Nat) : Int))), .int .i64 (((k : Nat) : Int)), (val19 0), (val19 1), (val19 2), (val19 3), .pointer (some ((adrV (tkV w13 ((((((cutAfter 10 (((rdTo [] ((formB s).getD [])).getD []).flatten)).length : Nat) : Int) - 1)).toNat))).add (k * 1))), (val19 5), (val19 6), (val19 7), (val19 8), (y16 56), (y16 57), undef, undef, undef, undef, undef, undef, undef, undef, undef, undef], [], q_, (by simp only [e4_]), rfl, (fun _ _ z_ => by subst hq0_; exact z_), ?_⟩
              subst hq0_
              exact mix_det (met_none rfl) (fun _ h_ H_ => exd_loadM (i := k) (j := 0) (e := [sv (TS.getD k [])]) o1 H_ (fun x_ h_ => by simp [h_]) tA9 rfl rfl (scs_atT (by omega)) (u := sv (TS.getD k [])) rfl) ⟨rfl, rfl⟩
            refine mixes_cons rfl (opmix2 ?_) ?_
            · intro val19 pc20 hQ_ hX_
              obtain ⟨q_, hq0_⟩ : ∃ q_ : Value → Pcs → Prop, q_ = (fun v_ x_ => OwnS 5 1 v_ [[.int .u8 10]] x_) := ⟨_, rfl⟩
              refine ⟨[sv s, undef, .slice none 0 0, .int .i64 0, w1, .bool ((rdTo [] ((formB s).getD [])).isSome), sv (((rdTo [] ((formB s).getD [])).getD []).flatten), w6, (tkV w13 ((((((cutAfter 10 (((rdTo [] ((formB s).getD [])).getD []).flatten)).length : Nat) : Int) - 1)).toNat)), .int .i64 (((k : Nat) : Int)), .tuple #[w1, .bool ((formB s).isSome)], sv s, .tuple #[w1, .bool ((formB s).isSome)], w1, .bool ((formB s).isSome), .bool ((formB s).isSome), .bool (!((formB s).isSome)), sv s, sv s, .int .i64 (((s.length : Nat) : Int)), .int .i64 (((s.length : Nat) : Int) - 5), sv (s.take (((((s.length : Nat) : Int) - 5)).toNat)), sv (sealB (s.take (((((s.length : Nat) : Int) - 5)).toNat))), sv s, .bool (!decide (sealB (s.take (((((s.length : Nat) : Int) - 5)).toNat)) = s)), .tuple #[sv (((rdTo [] ((formB s).getD [])).getD []).flatten), w6, .bool ((rdTo [] ((formB s).getD [])).isSome)], w1, .tuple #[sv (((rdTo [] ((formB s).getD [])).getD []).flatten), w6, .bool ((rdTo [] ((formB s).getD [])).isSome)], sv (((rdTo [] ((formB s).getD [])).getD []).flatten), w6, .bool ((rdTo [] ((formB s).getD [])).isSome), .bool ((rdTo [] ((formB s).getD [])).isSome), .bool (!((rdTo [] ((formB s).getD [])).isSome)), sv (((rdTo [] ((formB s).getD [])).getD []).flatten), v10, sv ([10]), w13, w13, w13, .int .i64 ((((cutAfter 10 (((rdTo [] ((formB s).getD [])).getD []).flatten)).length : Nat) : Int)), .int .i64 ((((cutAfter 10 (((rdTo [] ((formB s).getD [])).getD []).flatten)).length : Nat) : Int) - 1), (tkV w13 ((((((cutAfter 10 (((rdTo [] ((formB s).getD [])).getD []).flatten)).length : Nat) : Int) - 1)).toNat)), (tkV w13 ((((((cutAfter 10 (((rdTo [] ((formB s).getD [])).getD []).flatten)).length : Nat) : Int) - 1)).toNat)), .int .i64 (((TS.length : Nat) : Int)), .int .i64 (((k : Nat) : Int)), .bool (decide (((k : Nat) : Int) < ((TS.length : Nat) : Int))), .int .i64 (((k : Nat) : Int)), (val19 0), (val19 1), (val19 2), (val19 3), (val19 4), (val19 5), (val19 6), (val19 7), (val19 8), (y16 56), (y16 57), undef, undef, undef, undef, undef, undef, undef, undef, undef, undef], [], q_, rfl, rfl, (fun _ _ z_ => by subst hq0_; exact z_), ?_⟩
              subst hq0_
              exact mix_buildO (met_none rfl) Tryd.underlying37 tS5 tZ5 (Nat.le_of_ble_eq_true rfl) (vs := [(0, .int .u8 10)]) rfl rfl (es := [[.int .u8 10]]) rfl rfl rfl fun _ _ o_ => o_
            refine mixes_cons rfl (opmix2 ?_) ?_
            · intro val19 pc20 hQ_ hX_
              have q6_ : OwnS 5 1 (val19 6) [[.int .u8 10]] (pc20 6) := hQ_ 6 rfl
              obtain ⟨q_, hq0_⟩ : ∃ q_ : Value → Pcs → Prop, q_ = (fun v_ x_ => v_ = sv ([10]) ∧ x_ = []) := ⟨_, rfl⟩
              refine ⟨[sv s, undef, .slice none 0 0, .int .i64 0, w1, .bool ((rdTo [] ((formB s).getD [])).isSome), sv (((rdTo [] ((formB s).getD [])).getD []).flatten), w6, (tkV w13 ((((((cutAfter 10 (((rdTo [] ((formB s).getD [])).getD []).flatten)).length : Nat) : Int) - 1)).toNat)), .int .i64 (((k : Nat) : Int)), .tuple #[w1, .bool ((formB s).isSome)], sv s, .tuple #[w1, .bool ((formB s).isSome)], w1, .bool ((formB s).isSome), .bool ((formB s).isSome), .bool (!((formB s).isSome)), sv s, sv s, .int .i64 (((s.length : Nat) : Int)), .int .i64 (((s.length : Nat) : Int) - 5), sv (s.take (((((s.length : Nat) : Int) - 5)).toNat)), sv (sealB (s.take (((((s.length : Nat) : Int) - 5)).toNat))), sv s, .bool (!decide (sealB (s.take (((((s.length : Nat) : Int) - 5)).toNat)) = s)), .tuple #[sv (((rdTo [] ((formB s).getD [])).getD []).flatten), w6, .bool ((rdTo [] ((formB s).getD [])).isSome)], w1, .tuple #[sv (((rdTo [] ((formB s).getD [])).getD []).flatten), w6, .bool ((rdTo [] ((formB s).getD [])).isSome)], sv (((rdTo [] ((formB s).getD [])).getD []).flatten), w6, .bool ((rdTo [] ((formB s).getD [])).isSome), .bool ((rdTo [] ((formB s).getD [])).isSome), .bool (!((rdTo [] ((formB s).getD [])).isSome)), sv (((rdTo [] ((formB s).getD [])).getD []).flatten), v10, sv ([10]), w13, w13, w13, .int .i64 ((((cutAfter 10 (((rdTo [] ((formB s).getD [])).getD []).flatten)).length : Nat) : Int)), .int .i64 ((((cutAfter 10 (((rdTo [] ((formB s).getD [])).getD []).flatten)).length : Nat) : Int) - 1), (tkV w13 ((((((cutAfter 10 (((rdTo [] ((formB s).getD [])).getD []).flatten)).length : Nat) : Int) - 1)).toNat)), (tkV w13 ((((((cutAfter 10 (((rdTo [] ((formB s).getD [])).getD []).flatten)).length : Nat) : Int) - 1)).toNat)), .int .i64 (((TS.length : Nat) : Int)), .int .i64 (((k : Nat) : Int)), .bool (decide (((k : Nat) : Int) < ((TS.length : Nat) : Int))), .int .i64 (((k : Nat) : Int)), (val19 0), (val19 1), (val19 2), (val19 3), (val19 4), (val19 5), (val19 6), (val19 7), (val19 8), (y16 56), (y16 57), undef, undef, undef, undef, undef, undef, undef, undef, undef, undef], ((pc20 6) ++ []), q_, rfl, rfl, (fun _ _ z_ => by subst hq0_; exact z_), ?_⟩
              subst hq0_
              exact mix_use (met_none rfl) (fun _ h_ H_ => exd_strOwn (A := ([] : Pcs)) (q6_.as (show _ = bcs [10] from rfl)) (St.one1 H_) Tryd.underlying37 Tryd.underlying9 Tryd.underlying5 rfl) ⟨rfl, rfl⟩
            refine mixes_cons rfl (opmix2 ?_) ?_
            · intro val19 pc20 hQ_ hX_
              have e5_ : val19 5 = sv (TS.getD k []) := (hQ_ 5 rfl).1
              have e7_ : val19 7 = sv ([10]) := (hQ_ 7 rfl).1
              obtain ⟨q_, hq0_⟩ : ∃ q_ : Value → Pcs → Prop, q_ = (fun v_ x_ => v_ = sv (Lib.trimSuffix (TS.getD k []) ([10])) ∧ x_ = []) := ⟨_, rfl⟩
              refine ⟨[sv s, undef, .slice none 0 0, .int .i64 0, w1, .bool ((rdTo [] ((formB s).getD [])).isSome), sv (((rdTo [] ((formB s).getD [])).getD []).flatten), w6, (tkV w13 ((((((cutAfter 10 (((rdTo [] ((formB s).getD [])).getD []).flatten)).length : Nat) : Int) - 1)).toNat)), .int .i64 (((k : Nat) : Int)), .tuple #[w1, .bool ((formB s).isSome)], sv s, .tuple #[w1, .bool ((formB s).isSome)], w1, .bool ((formB s).isSome), .bool ((formB s).isSome), .bool (!((formB s).isSome)), sv s, sv s, .int .i64 (((s.length : Nat) : Int)), .int .i64 (((s.length : Nat) : Int) - 5), sv (s.take (((((s.length : Nat) : Int) - 5)).toNat)), sv (sealB (s.take (((((s.length : Nat) : Int) - 5)).toNat))), sv s, .bool (!decide (sealB (s.take (((((s.length : Nat) : Int) - 5)).toNat)) = s)), .tuple #[sv (((rdTo [] ((formB s).getD [])).getD []).flatten), w6, .bool ((rdTo [] ((formB s).getD [])).isSome)], w1, .tuple #[sv (((rdTo [] ((formB s).getD [])).getD []).flatten), w6, .bool ((rdTo [] ((formB s).getD [])).isSome)], sv (((rdTo [] ((formB s).getD [])).getD []).flatten), w6, .bool ((rdTo [] ((formB s).getD [])).isSome), .bool ((rdTo [] ((formB s).getD [])).isSome), .bool (!((rdTo [] ((formB s).getD [])).isSome)), sv (((rdTo [] ((formB s).getD [])).getD []).flatten), v10, sv ([10]), w13, w13, w13, .int .i64 ((((cutAfter 10 (((rdTo [] ((formB s).getD [])).getD []).flatten)).length : Nat) : Int)), .int .i64 ((((cutAfter 10 (((rdTo [] ((formB s).getD [])).getD []).flatten)).length : Nat) : Int) - 1), (tkV w13 ((((((cutAfter 10 (((rdTo [] ((formB s).getD [])).getD []).flatten)).length : Nat) : Int) - 1)).toNat)), (tkV w13 ((((((cutAfter 10 (((rdTo [] ((formB s).getD [])).getD []).flatten)).length : Nat) : Int) - 1)).toNat)), .int .i64 (((TS.length : Nat) : Int)), .int .i64 (((k : Nat) : Int)), .bool (decide (((k : Nat) : Int) < ((TS.length : Nat) : Int))), .int .i64 (((k : Nat) : Int)), (val19 0), (val19 1), (val19 2), (val19 3), (val19 4), sv (TS.getD k []), (val19 6), sv ([10]), (val19 8), (y16 56), (y16 57), undef, undef, undef, undef, undef, undef, undef, undef, undef, undef], [], q_, (by simp only [e5_, e7_]), rfl, (fun _ _ z_ => by subst hq0_; exact z_), ?_⟩
              subst hq0_
              exact mix_call (met_none rfl) (first := []) (cap := []) rfl rfl fC56 (fun _ h_ H_ => (c56 _ (TS.getD k []) ([10]) (by have z_ := hTl _ (gmem (d := []) (show k < TS.length by omega)); omega)).mono fun v_ h2_ ⟨e_, k_⟩ => ⟨[], ⟨e_, rfl⟩, H_.call k_⟩)
            exact mixes_nil rfl
          intro val19 pc20 hQ_ hX_
          have e0_ : val19 0 = (tkV w13 ((((((cutAfter 10 (((rdTo [] ((formB s).getD [])).getD []).flatten)).length : Nat) : Int) - 1)).toNat)) := (hQ_ 0 (by decide)).1
          have e1_ : val19 1 = .int .i64 (((k : Nat) : Int)) := (hQ_ 1 (by decide)).1
          have e2_ : val19 2 = (tkV w13 ((((((cutAfter 10 (((rdTo [] ((formB s).getD [])).getD []).flatten)).length : Nat) : Int) - 1)).toNat)) := (hQ_ 2 (by decide)).1
          have e3_ : val19 3 = .int .i64 (((k : Nat) : Int)) := (hQ_ 3 (by decide)).1
          have e4_ : val19 4 = .pointer (some ((adrV (tkV w13 ((((((cutAfter 10 (((rdTo [] ((formB s).getD [])).getD []).flatten)).length : Nat) : Int) - 1)).toNat))).add (k * 1))) := (hQ_ 4 (by decide)).1
          have e5_ : val19 5 = sv (TS.getD k []) := (hQ_ 5 (by decide)).1
          have e7_ : val19 7 = sv ([10]) := (hQ_ 7 (by decide)).1
          have e8_ : val19 8 = sv (Lib.trimSuffix (TS.getD k []) ([10])) := (hQ_ 8 (by decide)).1
          clear hQ_ hX_
          refine rl_as (Φ := fun h_ => St h [] (fun _ => none) h_ (([] : Pcs) ++ (X1 ++ ([])))) ?_ (fun h_ H_ => (St.swap' (A := (([] : Pcs) ++ X1)) H_).assoc')
          refine rl_norm (tm' := [sv s, undef, .slice none 0 0, .int .i64 0, w1, .bool ((rdTo [] ((formB s).getD [])).isSome), sv (((rdTo [] ((formB s).getD [])).getD []).flatten), w6, (tkV w13 ((((((cutAfter 10 (((rdTo [] ((formB s).getD [])).getD []).flatten)).length : Nat) : Int) - 1)).toNat)), .int .i64 (((k : Nat) : Int)), .tuple #[w1, .bool ((formB s).isSome)], sv s, .tuple #[w1, .bool ((formB s).isSome)], w1, .bool ((formB s).isSome), .bool ((formB s).isSome), .bool (!((formB s).isSome)), sv s, sv s, .int .i64 (((s.length : Nat) : Int)), .int .i64 (((s.length : Nat) : Int) - 5), sv (s.take (((((s.length : Nat) : Int) - 5)).toNat)), sv (sealB (s.take (((((s.length : Nat) : Int) - 5)).toNat))), sv s, .bool (!decide (sealB (s.take (((((s.length : Nat) : Int) - 5)).toNat)) = s)), .tuple #[sv (((rdTo [] ((formB s).getD [])).getD []).flatten), w6, .bool ((rdTo [] ((formB s).getD [])).isSome)], w1, .tuple #[sv (((rdTo [] ((formB s).getD [])).getD []).flatten), w6, .bool ((rdTo [] ((formB s).getD [])).isSome)], sv (((rdTo [] ((formB s).getD [])).getD []).flatten), w6, .bool ((rdTo [] ((formB s).getD [])).isSome), .bool ((rdTo [] ((formB s).getD [])).isSome), .bool (!((rdTo [] ((formB s).getD [])).isSome)), sv (((rdTo [] ((formB s).getD [])).getD []).flatten), v10, sv ([10]), w13, w13, w13, .int .i64 ((((cutAfter 10 (((rdTo [] ((formB s).getD [])).getD []).flatten)).length : Nat) : Int)), .int .i64 ((((cutAfter 10 (((rdTo [] ((formB s).getD [])).getD []).flatten)).length : Nat) : Int) - 1), (tkV w13 ((((((cutAfter 10 (((rdTo [] ((formB s).getD [])).getD []).flatten)).length : Nat) : Int) - 1)).toNat)), (tkV w13 ((((((cutAfter 10 (((rdTo [] ((formB s).getD [])).getD []).flatten)).length : Nat) : Int) - 1)).toNat)), .int .i64 (((TS.length : Nat) : Int)), .int .i64 (((k : Nat) : Int)), .bool (decide (((k : Nat) : Int) < ((TS.length : Nat) : Int))), .int .i64 (((k : Nat) : Int)), (tkV w13 ((((((cutAfter 10 (((rdTo [] ((formB s).getD [])).getD []).flatten)).length : Nat) : Int) - 1)).toNat)), .int .i64 (((k : Nat) : Int)), (tkV w13 ((((((cutAfter 10 (((rdTo [] ((formB s).getD [])).getD []).flatten)).length : Nat) : Int) - 1)).toNat)), .int .i64 (((k : Nat) : Int)), .pointer (some ((adrV (tkV w13 ((((((cutAfter 10 (((rdTo [] ((formB s).getD [])).getD []).flatten)).length : Nat) : Int) - 1)).toNat))).add (k * 1))), sv (TS.getD k []), (val19 6), sv ([10]), sv (Lib.trimSuffix (TS.getD k []) ([10])), (y16 56), (y16 57), undef, undef, undef, undef, undef, undef, undef, undef, undef, undef]) (by simp only [e0_, e1_, e2_, e3_, e4_, e5_, e7_, e8_]) ?_
          refine rl_det (met_none rfl) (fun h_ H_ => exd_indexO o1 Tryd.underlying22 tS9 rfl rfl (by rw [((scs_length _).trans (trimTo_len _ _))]; omega)) (tm' := [_,_,_,_,_,_,_,_,_,_,_,_,_,_,_,_,_,_,_,_,_,_,_,_,_,_,_,_,_,_,_,_,_,_,_,_,_,_,_,_,_,_,_,_,_,_,_,_,_,_,_,_,_,_,_,_,_,_,_,_,_,_,_,_,_,_,_,_]) rfl ?_
          refine rl_storeO (A := ([] : Pcs)) (i := k) (j := 0) (e := [sv (TS.getD k [])]) (u := sv (Lib.trimSuffix (TS.getD k []) ([10]))) o1 (met_none rfl) tS9 rfl rfl rfl ⟨rfl, rfl⟩ (scs_atT (by omega)) (Nat.succ_le_iff.1 (Nat.le_of_ble_eq_true rfl)) fun X24 o25 => ?_
          refine rl_end ?_
          refine fl_inBlock ?_
          refine rl_start ?_
          refine rl_det (met_none rfl) (fun h_ H_ => exd_add rfl rfl (n := ((k + 1 : Nat) : Int)) (wr (by omega))) rfl ?_
          refine rl_det (met_none rfl) (fun h_ H_ => exd_move (v := .int .i64 (((k + 1 : Nat) : Int))) rfl) rfl ?_
          refine rl_end ?_
          exact fun h_ H_ => IH17 _ _ (by omega) h_ ⟨k + 1, X24, rfl, (y_of rfl), (by omega), (o25.as (trimTo_set (by omega))), H_⟩
        · refine fl_else rfl (decide_eq_false cc18) ?_
          refine fl_exit rfl ?_
          refine fl_seq ?_
          refine fl_seq ?_
          have oL : OwnS 9 1 (tkV w13 ((((((cutAfter 10 (((rdTo [] ((formB s).getD [])).getD []).flatten)).length : Nat) : Int) - 1)).toNat)) (scs (linesB e.flatten)) X1 := o1.as (by rw [trimTo_all (by omega), hT2])
          have hLn : (linesB e.flatten).length ≤ 1000000 := Nat.le_trans (lines_count _) hfl
          refine rl_start ?_
          refine rl_det (met_none rfl) (fun h_ H_ => exd_move (v := (tkV w13 ((((((cutAfter 10 (((rdTo [] ((formB s).getD [])).getD []).flatten)).length : Nat) : Int) - 1)).toNat))) rfl) (tm' := [_,_,_,_,_,_,_,_,_,_,_,_,_,_,_,_,_,_,_,_,_,_,_,_,_,_,_,_,_,_,_,_,_,_,_,_,_,_,_,_,_,_,_,_,_,_,_,_,_,_,_,_,_,_,_,_,_,_,_,_,_,_,_,_,_,_,_,_]) rfl ?_
          refine rl_calld (met_none rfl) (first := []) (cap := []) rfl rfl fC57 (fun h_ H_ => lend_to (n := (linesB e.flatten).length) oL (scs_length _) H_ (fun x_ h_ => by simp [h_]) fun p_ a_ c_ hp_ _ hv_ D_ => by rw [hv_]; exact c57 _ _ hp_ a_ _ c_ _ D_ (by omega) (fun i_ hi_ => Nat.le_trans (lines_len (gmem hi_)) (by omega))) rfl ?_
          refine rl_det (met_none rfl) (fun h_ H_ => exd_neq rfl rfl) rfl ?_
          refine rl_det (met_none rfl) (fun h_ H_ => exd_move (v := .bool (decide (chkT (linesB e.flatten) ≠ 0))) rfl) (tm' := [_,_,_,_,_,_,_,_,_,_,_,_,_,_,_,_,_,_,_,_,_,_,_,_,_,_,_,_,_,_,_,_,_,_,_,_,_,_,_,_,_,_,_,_,_,_,_,_,_,_,_,_,_,_,_,_,_,_,_,_,_,_,_,_,_,_,_,_]) rfl ?_
          by_cases cc26 : chkT (linesB e.flatten) ≠ 0
          · refine rl_pass (met_not rfl rfl (decide_eq_true cc26)) rfl ?_
            refine rl_pass (met_not rfl rfl (decide_eq_true cc26)) rfl ?_
            refine rl_pass (met_not rfl rfl (decide_eq_true cc26)) (tm' := [_,_,_,_,_,_,_,_,_,_,_,_,_,_,_,_,_,_,_,_,_,_,_,_,_,_,_,_,_,_,_,_,_,_,_,_,_,_,_,_,_,_,_,_,_,_,_,_,_,_,_,_,_,_,_,_,_,_,_,_,_,_,_,_,_,_,_,_]) rfl ?_
            refine rl_pass (met_not rfl rfl (decide_eq_true cc26)) rfl ?_
            refine rl_det (met_none rfl) (fun h_ H_ => exd_pick_t rfl (decide_eq_true cc26) (v := .bool (true)) rfl) rfl ?_
            refine rl_end ?_
            refine fl_then rfl rfl ?_
            refine fl_seq ?_
            refine rl_start ?_
            refine rl_det (met_none rfl) (fun h_ H_ => exd_assign (v := .slice none 0 0) rfl) (tm' := _::_::_::_) rfl ?_
            refine rl_det (met_none rfl) (fun h_ H_ => exd_assign (v := .int .i64 142) rfl) rfl ?_
            refine rl_end ?_
            refine fl_ret Tryd.func18 rfl (vs := [.slice none 0 0, .int .i64 142]) (fun h_ H_ => ⟨.slice none 0 0, _, rfl, rfl, ⟨.int .i64 142, _, rfl, rfl, rfl⟩⟩) (v := .tuple #[.slice none 0 0, .int .i64 142]) rfl ?_
            have hN : readB s = (142, []) := by simp only [readB, hl]; rw [if_neg (by rw [← e5]; exact fun z => z ‹_›), he]; simp only []; rw [if_pos (by first | exact .inl ‹_› | exact .inr ‹_›)]
            exact fun h_ H_ => K _ _ ⟨.slice none 0 0, [], by rw [hN], by rw [hN]; exact OwnS.empty _ _, (H_.sub (List.nil_sublist _)).new⟩
          · refine rl_det (met_some rfl rfl (decide_eq_false cc26)) (fun h_ H_ => exd_move (v := (tkV w13 ((((((cutAfter 10 (((rdTo [] ((formB s).getD [])).getD []).flatten)).length : Nat) : Int) - 1)).toNat))) rfl) rfl ?_
            refine rl_calld (met_some rfl rfl (decide_eq_false cc26)) (first := []) (cap := []) rfl rfl fC58 (fun h_ H_ => lend_to (n := (linesB e.flatten).length) oL (scs_length _) H_ (fun x_ h_ => by simp [h_]) fun p_ a_ c_ hp_ _ hv_ D_ => by rw [hv_]; exact c58 _ _ hp_ (ht.keep H_.kept) a_ _ c_ _ D_ (by have g_ := chk_good (Decidable.not_not.1 ‹¬ chkT (linesB e.flatten) ≠ 0›); exact (g_.1)) (by have g_ := chk_good (Decidable.not_not.1 ‹¬ chkT (linesB e.flatten) ≠ 0›); exact (fun t z => (g_.2 t z).1))) (tm' := [_,_,_,_,_,_,_,_,_,_,_,_,_,_,_,_,_,_,_,_,_,_,_,_,_,_,_,_,_,_,_,_,_,_,_,_,_,_,_,_,_,_,_,_,_,_,_,_,_,_,_,_,_,_,_,_,_,_,_,_,_,_,_,_,_,_,_,_]) rfl ?_
            refine rl_det (met_some rfl rfl (decide_eq_false cc26)) (fun h_ H_ => exd_move (v := sv s) rfl) rfl ?_
            refine rl_det (met_some rfl rfl (decide_eq_false cc26)) (fun h_ H_ => exd_neqS (l := fileB (linesB e.flatten)) (m := s) rfl rfl) rfl ?_
            refine rl_det (met_none rfl) (fun h_ H_ => exd_pick_f rfl (decide_eq_false cc26) (v := .bool (!decide (fileB (linesB e.flatten) = s))) rfl) (tm' := [_,_,_,_,_,_,_,_,_,_,_,_,_,_,_,_,_,_,_,_,_,_,_,_,_,_,_,_,_,_,_,_,_,_,_,_,_,_,_,_,_,_,_,_,_,_,_,_,_,_,_,_,_,_,_,_,_,_,_,_,_,_,_,_,_,_,_,_]) rfl ?_
            refine rl_end ?_
            by_cases cc27 : fileB (linesB e.flatten) = s
            · refine fl_else rfl (not_f (decide_eq_true cc27)) ?_
              refine fl_skip ?_
              refine fl_seq ?_
              refine rl_start ?_
              refine rl_det (met_none rfl) (fun h_ H_ => exd_move (v := (tkV w13 ((((((cutAfter 10 (((rdTo [] ((formB s).getD [])).getD []).flatten)).length : Nat) : Int) - 1)).toNat))) rfl) rfl ?_
              refine rl_det (met_none rfl) (fun h_ H_ => exd_assign (v := (tkV w13 ((((((cutAfter 10 (((rdTo [] ((formB s).getD [])).getD []).flatten)).length : Nat) : Int) - 1)).toNat))) rfl) rfl ?_
              refine rl_det (met_none rfl) (fun h_ H_ => exd_assign (v := .int .i64 0) rfl) (tm' := _::_::_::_::_) rfl ?_
              refine rl_end ?_
              refine fl_ret Tryd.func18 rfl (vs := [(tkV w13 ((((((cutAfter 10 (((rdTo [] ((formB s).getD [])).getD []).flatten)).length : Nat) : Int) - 1)).toNat)), .int .i64 0]) (fun h_ H_ => ⟨(tkV w13 ((((((cutAfter 10 (((rdTo [] ((formB s).getD [])).getD []).flatten)).length : Nat) : Int) - 1)).toNat)), _, rfl, rfl, ⟨.int .i64 0, _, rfl, rfl, rfl⟩⟩) (v := .tuple #[(tkV w13 ((((((cutAfter 10 (((rdTo [] ((formB s).getD [])).getD []).flatten)).length : Nat) : Int) - 1)).toNat)), .int .i64 0]) rfl ?_
              have hN : readB s = (0, linesB e.flatten) := by simp only [readB, hl]; rw [if_neg (by rw [← e5]; exact fun z => z ‹_›), he]; simp only []; rw [if_neg (fun z => z.elim (fun y => ‹¬ chkT (linesB e.flatten) ≠ 0› y) (fun y => y ‹_›))]
              exact fun h_ H_ => K _ _ ⟨_, _, by rw [hN], by rw [hN]; exact oL, by simpa using H_.new⟩
            · refine fl_then rfl (not_t (decide_eq_false cc27)) ?_
              refine fl_seq ?_
              refine rl_start ?_
              refine rl_det (met_none rfl) (fun h_ H_ => exd_assign (v := .slice none 0 0) rfl) rfl ?_
              refine rl_det (met_none rfl) (fun h_ H_ => exd_assign (v := .int .i64 142) rfl) rfl ?_
              refine rl_end ?_
              refine fl_ret Tryd.func18 rfl (vs := [.slice none 0 0, .int .i64 142]) (fun h_ H_ => ⟨.slice none 0 0, _, rfl, rfl, ⟨.int .i64 142, _, rfl, rfl, rfl⟩⟩) (v := .tuple #[.slice none 0 0, .int .i64 142]) rfl ?_
              have hN : readB s = (142, []) := by simp only [readB, hl]; rw [if_neg (by rw [← e5]; exact fun z => z ‹_›), he]; simp only []; rw [if_pos (by first | exact .inl ‹_› | exact .inr ‹_›)]
              exact fun h_ H_ => K _ _ ⟨.slice none 0 0, [], by rw [hN], by rw [hN]; exact OwnS.empty _ _, (H_.sub (List.nil_sublist _)).new⟩
      · refine fl_then rfl (not_t cc9) ?_
        refine fl_seq ?_
        refine rl_start ?_
        refine rl_det (met_none rfl) (fun h_ H_ => exd_assign (v := .slice none 0 0) rfl) (tm' := _::_::_::_) rfl ?_
        refine rl_det (met_none rfl) (fun h_ H_ => exd_assign (v := .int .i64 142) rfl) rfl ?_
        refine rl_end ?_
        refine fl_ret Tryd.func18 rfl (vs := [.slice none 0 0, .int .i64 142]) (fun h_ H_ => ⟨.slice none 0 0, _, rfl, rfl, ⟨.int .i64 142, _, rfl, rfl, rfl⟩⟩) (v := .tuple #[.slice none 0 0, .int .i64 142]) rfl ?_
        have hR : rdTo [] l = none := by rw [← hx]; exact Option.isNone_iff_eq_none.1 (by rw [← Option.not_isSome, ‹(rdTo [] ((formB s).getD [])).isSome = false›]; rfl)
        have hN : readB s = (142, []) := by simp only [readB, hl]; rw [if_neg (by rw [← e5]; exact fun z => z ‹_›), hR]
        exact fun h_ H_ => K _ _ ⟨.slice none 0 0, [], by rw [hN], by rw [hN]; exact OwnS.empty _ _, (H_.sub (List.nil_sublist _)).new⟩
    · refine fl_then rfl (not_t (decide_eq_false cc5)) ?_
      refine fl_seq ?_
      refine rl_start ?_
      refine rl_det (met_none rfl) (fun h_ H_ => exd_assign (v := .slice none 0 0) rfl) rfl ?_
      refine rl_det (met_none rfl) (fun h_ H_ => exd_assign (v := .int .i64 141) rfl) (tm' := _::_::_::_::_) rfl ?_
      refine rl_end ?_
      refine fl_ret Tryd.func18 rfl (vs := [.slice none 0 0, .int .i64 141]) (fun h_ H_ => ⟨.slice none 0 0, _, rfl, rfl, ⟨.int .i64 141, _, rfl, rfl, rfl⟩⟩) (v := .tuple #[.slice none 0 0, .int .i64 141]) rfl ?_
      have hN : readB s = (141, []) := by simp only [readB, hl]; rw [if_pos (by rw [← e5]; assumption)]
      exact fun h_ H_ => K _ _ ⟨.slice none 0 0, [], by rw [hN], by rw [hN]; exact OwnS.empty _ _, (H_.sub (List.nil_sublist _)).new⟩
  · refine fl_then rfl (not_t cc4) ?_
    refine fl_seq ?_
    refine rl_start ?_
    refine rl_det (met_none rfl) (fun h_ H_ => exd_assign (v := .slice none 0 0) rfl) rfl ?_
    refine rl_det (met_none rfl) (fun h_ H_ => exd_assign (v := .int .i64 140) rfl) rfl ?_
    refine rl_end ?_
    refine fl_ret Tryd.func18 rfl (vs := [.slice none 0 0, .int .i64 140]) (fun h_ H_ => ⟨.slice none 0 0, _, rfl, rfl, ⟨.int .i64 140, _, rfl, rfl, rfl⟩⟩) (v := .tuple #[.slice none 0 0, .int .i64 140]) rfl ?_
    have hN : readB s = (140, []) := by simp only [readB, form_none ‹_›]
    exact fun h_ H_ => K _ _ ⟨.slice none 0 0, [], by rw [hN], by rw [hN]; exact OwnS.empty _ _, (H_.sub (List.nil_sublist _)).new⟩
end Go.Proofs.YtiinpnlfdeiloaaDoor
namespace Go.Proofs.YtiinpnlfdeiloaaDoor
open Go.X Go.X.Cent Go.Conc
set_option maxRecDepth 10000
set_option synthInstance.maxSize 2000
set_option synthInstance.maxHeartbeats 400000

set_option maxHeartbeats 1000000
theorem c45 (h : Heap) (p : PHeap) (hp : Per p h) (htab : Tab h) (a : Option Addr) (n c : Nat) (ts : List By) (T : Strs p a n ts) (hn : n ≤ 2 ^ 60) (ht : ∀ i, i < n → (ts.getD i []).length ≤ 2 ^ 60) : CallsX Tryd.prog .lone 45 #[.slice a n c] h fun v h' => v = .tuple #[sv (writeB ts).1, .int .i64 (writeB ts).2] ∧ Keep h h' := by
  refine calls_intro (Φ := fun h_ => St h [] p h_ []) Tryd.func45 rfl (tm := [_, _, _, _, _, _, _, _, _, _, _, _]) rfl ?_ (St.start h _ hp)
  intro c₀ cs Stop K
  refine fl_seq ?_
  refine rl_start ?_
  refine rl_det (met_none rfl) (fun h_ H_ => exd_assign (v := sv ([] : List UInt8)) rfl) rfl ?_
  refine rl_det (met_none rfl) (fun h_ H_ => exd_assign (v := .int .i64 0) rfl) rfl ?_
  refine rl_end ?_
  refine fl_seq ?_
  refine fl_seq ?_
  refine rl_start ?_
  refine rl_det (met_none rfl) (fun h_ H_ => exd_move (v := .slice a n c) rfl) (tm' := _::_::_::_::_::_::_) rfl ?_
  refine rl_calld (met_none rfl) (first := []) (cap := []) rfl rfl fC57 (fun h_ H_ => c57 _ _ (fun b_ o_ e_ => H_.per b_ o_ e_) a n _ _ T (by omega) (fun i_ h_ => ht i_ h_)) rfl ?_
  refine rl_det (met_none rfl) (fun h_ H_ => exd_assign (v := .int .i64 (chkT ts)) rfl) rfl ?_
  refine rl_end ?_
  refine fl_seq ?_
  refine rl_start ?_
  refine rl_det (met_none rfl) (fun h_ H_ => exd_move (v := .int .i64 (chkT ts)) rfl) (tm' := _::_::_::_::_::_::_::_::_) rfl ?_
  refine rl_det (met_none rfl) (fun h_ H_ => exd_neq rfl rfl) rfl ?_
  refine rl_end ?_
  by_cases cc1 : chkT ts ≠ 0
  · refine fl_then rfl (decide_eq_true cc1) ?_
    refine fl_seq ?_
    refine rl_start ?_
    refine rl_det (met_none rfl) (fun h_ H_ => exd_move (v := .int .i64 (chkT ts)) rfl) rfl ?_
    refine rl_det (met_none rfl) (fun h_ H_ => exd_assign (v := sv ([] : List UInt8)) rfl) (tm' := _::_::_::_) rfl ?_
    refine rl_det (met_none rfl) (fun h_ H_ => exd_assign (v := .int .i64 (chkT ts)) rfl) rfl ?_
    refine rl_end ?_
    refine fl_ret Tryd.func45 rfl (vs := [sv ([] : List UInt8), .int .i64 (chkT ts)]) (fun h_ H_ => ⟨sv ([] : List UInt8), _, rfl, rfl, ⟨.int .i64 (chkT ts), _, rfl, rfl, rfl⟩⟩) (v := .tuple #[sv ([] : List UInt8), .int .i64 (chkT ts)]) rfl ?_
    exact fun h_ H_ => K _ _ ⟨by rw [writeB, if_pos ‹_›], H_.kept⟩
  · refine fl_else rfl (decide_eq_false cc1) ?_
    refine fl_skip ?_
    refine fl_seq ?_
    obtain ⟨hw40, hw200, hw820, hts20, hen, hem⟩ := good_len ‹¬ chkT ts ≠ 0›
    have hl := T.len
    refine rl_start ?_
    refine rl_det (met_none rfl) (fun h_ H_ => exd_move (v := .slice a n c) rfl) rfl ?_
    refine rl_calld (met_none rfl) (first := []) (cap := []) rfl rfl fC58 (fun h_ H_ => c58 _ _ (fun b_ o_ e_ => H_.per b_ o_ e_) (htab.keep H_.kept) a n _ _ T (by omega) hw40) (tm' := [_,_,_,_,_,_,_,_,_,_,_,_]) rfl ?_
    refine rl_det (met_none rfl) (fun h_ H_ => exd_assign (v := sv (fileB ts)) rfl) rfl ?_
    refine rl_det (met_none rfl) (fun h_ H_ => exd_assign (v := .int .i64 0) rfl) rfl ?_
    refine rl_end ?_
    refine fl_ret Tryd.func45 rfl (vs := [sv (fileB ts), .int .i64 0]) (fun h_ H_ => ⟨sv (fileB ts), _, rfl, rfl, ⟨.int .i64 0, _, rfl, rfl, rfl⟩⟩) (v := .tuple #[sv (fileB ts), .int .i64 0]) rfl ?_
    exact fun h_ H_ => K _ _ ⟨by rw [writeB, if_neg ‹_›], H_.kept⟩
theorem c24 (h : Heap) (p : PHeap) (hp : Per p h) (a : Option Addr) (n c : Nat) (ts : List By) (T : Strs p a n ts) (hn : n ≤ 2 ^ 60) (ht : ∀ i, i < n → (ts.getD i []).length ≤ 2 ^ 60) (m : Int) (hm : -9223372036854775808 ≤ m ∧ m ≤ 9223372036854775807) : CallsX Tryd.prog .lone 24 #[.slice a n c, .int .i64 (m)] h fun v h' => v = .tuple #[.int .i64 (usesB ts m).1, .int .i64 (usesB ts m).2] ∧ Keep h h' := by
  refine calls_intro (Φ := fun h_ => St h [] p h_ []) Tryd.func24 rfl (tm := [_, _, _, _, _, _, _, _, _, _, _, _, _, _, _, _, _, _, _, _, _, _, _, _, _, _, _, _, _, _, _, _, _, _, _, _, _, _, _, _, _, _, _, _, _, _, _, _, _, _, _, _, _, _]) rfl ?_ (St.start h _ hp)
  intro c₀ cs Stop K
  refine fl_seq ?_
  refine rl_start ?_
  refine rl_det (met_none rfl) (fun h_ H_ => exd_assign (v := .int .i64 0) rfl) (tm' := _::_::_::_::_::_) rfl ?_
  refine rl_det (met_none rfl) (fun h_ H_ => exd_assign (v := .int .i64 0) rfl) rfl ?_
  refine rl_end ?_
  refine fl_seq ?_
  refine rl_start ?_
  refine rl_det (met_none rfl) (fun h_ H_ => exd_move (v := .slice a n c) rfl) rfl ?_
  refine rl_own (L' := ([] : Pcs) ++ []) rfl ?_
  refine rl_call (met_none rfl) (first := []) (cap := []) rfl rfl fC59 (R := fun v_ h_ => ∃ w1 : Value, ∃ X2 : Pcs, v_ = .tuple #[w1, .int .i64 (chkT ts)] ∧ (chkT ts = 0 → OwnS 60 2 w1 (pies (encS [[]] (wholeB ts))) X2) ∧ (chkT ts ≠ 0 → w1 = .slice none 0 0 ∧ X2 = []) ∧ St h [] p h_ (([] : Pcs) ++ (X2 ++ []))) (fun h_ H_ => (c59 _ _ (fun b_ o_ e_ => H_.per b_ o_ e_) a n _ ts T (by omega) (fun i_ h_ => ht i_ h_)).mono fun v_ h2_ ⟨w1, X2, e_, F3, F4, N_⟩ => ⟨w1, X2, e_, F3, F4, H_.callNA N_⟩) fun v_ => ?_
  refine rl_ex fun w1 => rl_ex fun X2 => rl_and fun ev_ => rl_and fun F3 => rl_and fun F4 => ?_
  have ev_ := ev_.symm; subst ev_
  refine rl_own (L' := ([] : Pcs) ++ (X2 ++ [])) rfl ?_
  refine rl_norm (tm' := _::_::_::_::_::_::_::_::_::_::_::_::_::_::_) rfl ?_
  refine rl_det (met_none rfl) (fun h_ H_ => exd_move (v := .tuple #[w1, .int .i64 (chkT ts)]) rfl) rfl ?_
  refine rl_det (met_none rfl) (fun h_ H_ => exd_extract rfl (v := w1) rfl) rfl ?_
  refine rl_det (met_none rfl) (fun h_ H_ => exd_extract rfl (v := .int .i64 (chkT ts)) rfl) (tm' := _::_::_::_::_::_::_::_::_::_::_::_::_::_::_::_::_) rfl ?_
  refine rl_det (met_none rfl) (fun h_ H_ => exd_assign (v := w1) rfl) rfl ?_
  refine rl_det (met_none rfl) (fun h_ H_ => exd_assign (v := .int .i64 (chkT ts)) rfl) rfl ?_
  refine rl_end ?_
  refine fl_seq ?_
  refine fl_seq ?_
  refine rl_start ?_
  refine rl_det (met_none rfl) (fun h_ H_ => exd_move (v := .int .i64 (chkT ts)) rfl) (tm' := _::_::_::_::_::_::_::_::_::_::_::_::_::_::_::_::_::_) rfl ?_
  refine rl_det (met_none rfl) (fun h_ H_ => exd_neq rfl rfl) rfl ?_
  refine rl_end ?_
  by_cases cc5 : chkT ts ≠ 0
  · refine fl_then rfl (decide_eq_true cc5) ?_
    refine fl_seq ?_
    refine rl_start ?_
    refine rl_det (met_none rfl) (fun h_ H_ => exd_move (v := .int .i64 (chkT ts)) rfl) rfl ?_
    refine rl_det (met_none rfl) (fun h_ H_ => exd_assign (v := .int .i64 0) rfl) (tm' := _::_::_::_::_::_) rfl ?_
    refine rl_det (met_none rfl) (fun h_ H_ => exd_assign (v := .int .i64 (chkT ts)) rfl) rfl ?_
    refine rl_end ?_
    refine fl_ret Tryd.func24 rfl (vs := [.int .i64 0, .int .i64 (chkT ts)]) (fun h_ H_ => ⟨.int .i64 0, _, rfl, rfl, ⟨.int .i64 (chkT ts), _, rfl, rfl, rfl⟩⟩) (v := .tuple #[.int .i64 0, .int .i64 (chkT ts)]) rfl ?_
    exact fun h_ H_ => K _ _ ⟨by rw [usesB, if_pos ‹_›], H_.kept⟩
  · refine fl_else rfl (decide_eq_false cc5) ?_
    refine fl_skip ?_
    refine fl_seq ?_
    refine fl_seq ?_
    obtain ⟨hw40, hw200, hw820, hts20, hen, hem⟩ := good_len ‹¬ chkT ts ≠ 0›
    have hl := T.len
    have oK := F3 (Decidable.not_not.1 ‹_›)
    refine rs_lastN (A := ([] : Pcs)) oK (pies_length _) fun p6 a7 cp8 le9 ev_ D10 => ?_
    subst ev_
    refine rs_own (L' := []) rfl ?_
    refine rl_start ?_
    refine rl_det (met_none rfl) (fun h_ H_ => exd_move (v := .int .i64 (m)) rfl) rfl ?_
    refine rl_det (met_none rfl) (fun h_ H_ => exd_lss rfl rfl) (tm' := _::_::_::_::_::_::_::_::_::_::_::_::_::_::_::_::_::_::_::_::_::_) rfl ?_
    refine rl_det (met_none rfl) (fun h_ H_ => exd_move (v := .bool (decide (m < 0))) rfl) rfl ?_
    by_cases cc11 : m < 0
    · refine rl_pass (met_not rfl rfl (decide_eq_true cc11)) rfl ?_
      refine rl_pass (met_not rfl rfl (decide_eq_true cc11)) (tm' := _::_::_::_::_::_::_::_::_::_::_::_::_::_::_::_::_::_::_::_::_::_::_::_::_) rfl ?_
      refine rl_pass (met_not rfl rfl (decide_eq_true cc11)) rfl ?_
      refine rl_pass (met_not rfl rfl (decide_eq_true cc11)) rfl ?_
      refine rl_det (met_none rfl) (fun h_ H_ => exd_pick_t rfl (decide_eq_true cc11) (v := .bool (true)) rfl) (tm' := _::_::_::_::_::_::_::_::_::_::_::_::_::_::_::_::_::_::_::_::_::_::_::_::_::_::_::_) rfl ?_
      refine rl_det (met_none rfl) (fun h_ H_ => exd_move (v := .bool (true)) rfl) rfl ?_
      refine rl_pass (met_not rfl rfl rfl) rfl ?_
      refine rl_pass (met_not rfl rfl rfl) (tm' := _::_::_::_::_::_::_::_::_::_::_::_::_::_::_::_::_::_::_::_::_::_::_::_::_::_::_::_::_::_::_) rfl ?_
      refine rl_pass (met_not rfl rfl rfl) rfl ?_
      refine rl_pass (met_undef rfl rfl) rfl ?_
      refine rl_pass (met_undef rfl rfl) (tm' := _::_::_::_::_::_::_::_::_::_::_::_::_::_::_::_::_::_::_::_::_::_::_::_::_::_::_::_::_::_::_::_::_::_) rfl ?_
      refine rl_pass (met_undef rfl rfl) rfl ?_
      refine rl_pass (met_undef rfl rfl) rfl ?_
      refine rl_pass (met_undef rfl rfl) (tm' := _::_::_::_::_::_::_::_::_::_::_::_::_::_::_::_::_::_::_::_::_::_::_::_::_::_::_::_::_::_::_::_::_::_::_::_::_) rfl ?_
      refine rl_pass (met_undef rfl rfl) rfl ?_
      refine rl_pass (met_undef rfl rfl) rfl ?_
      refine rl_pass (met_not rfl rfl rfl) (tm' := [_,_,_,_,_,_,_,_,_,_,_,_,_,_,_,_,_,_,_,_,_,_,_,_,_,_,_,_,_,_,_,_,_,_,_,_,_,_,_,_,_,_,_,_,_,_,_,_,_,_,_,_,_,_]) rfl ?_
      refine rl_det (met_none rfl) (fun h_ H_ => exd_pick_t rfl rfl (v := .bool (true)) rfl) rfl ?_
      refine rl_end ?_
      refine fl_then rfl rfl ?_
      refine fl_seq ?_
      refine rl_start ?_
      refine rl_det (met_none rfl) (fun h_ H_ => exd_assign (v := .int .i64 0) rfl) rfl ?_
      refine rl_det (met_none rfl) (fun h_ H_ => exd_assign (v := .int .i64 1) rfl) (tm' := _::_::_::_::_::_::_) rfl ?_
      refine rl_end ?_
      refine fl_ret Tryd.func24 rfl (vs := [.int .i64 0, .int .i64 1]) (fun h_ H_ => ⟨.int .i64 0, _, rfl, rfl, ⟨.int .i64 1, _, rfl, rfl, rfl⟩⟩) (v := .tuple #[.int .i64 0, .int .i64 1]) rfl ?_
      have hb : badN (encS [[]] (wholeB ts)) m := by unfold badN; first | exact .inl (by omega) | exact .inr (.inl (by omega)) | exact .inr (.inr ⟨by omega, by assumption⟩)
      exact fun h_ H_ => K _ _ ⟨by rw [usesB, if_neg ‹_›, if_pos hb], H_.kept⟩
    · refine rl_det (met_some rfl rfl (decide_eq_false cc11)) (fun h_ H_ => exd_move (v := .int .i64 (m)) rfl) rfl ?_
      refine rl_det (met_some rfl rfl (decide_eq_false cc11)) (fun h_ H_ => exd_move (v := .slice a7 ((encS [[]] (wholeB ts)).length) cp8) rfl) rfl ?_
      refine rl_det (met_some rfl rfl (decide_eq_false cc11)) (fun h_ H_ => exd_len Tryd.underlying49 rfl) (tm' := _::_::_::_::_::_::_::_::_::_::_::_::_::_::_::_::_::_::_::_::_::_::_::_::_::_) rfl ?_
      refine rl_det (met_some rfl rfl (decide_eq_false cc11)) (fun h_ H_ => exd_gtr rfl rfl) rfl ?_
      refine rl_det (met_none rfl) (fun h_ H_ => exd_pick_f rfl (decide_eq_false cc11) (v := .bool (decide ((((encS [[]] (wholeB ts)).length : Nat) : Int) < m))) rfl) rfl ?_
      refine rl_det (met_none rfl) (fun h_ H_ => exd_move (v := .bool (decide ((((encS [[]] (wholeB ts)).length : Nat) : Int) < m))) rfl) (tm' := _::_::_::_::_::_::_::_::_::_::_::_::_::_::_::_::_::_::_::_::_::_::_::_::_::_::_::_::_) rfl ?_
      by_cases cc12 : (((encS [[]] (wholeB ts)).length : Nat) : Int) < m
      · refine rl_pass (met_not rfl rfl (decide_eq_true cc12)) rfl ?_
        refine rl_pass (met_not rfl rfl (decide_eq_true cc12)) rfl ?_
        refine rl_pass (met_not rfl rfl (decide_eq_true cc12)) (tm' := _::_::_::_::_::_::_::_::_::_::_::_::_::_::_::_::_::_::_::_::_::_::_::_::_::_::_::_::_::_::_::_) rfl ?_
        refine rl_pass (met_undef rfl rfl) rfl ?_
        refine rl_pass (met_undef rfl rfl) rfl ?_
        refine rl_pass (met_undef rfl rfl) (tm' := _::_::_::_::_::_::_::_::_::_::_::_::_::_::_::_::_::_::_::_::_::_::_::_::_::_::_::_::_::_::_::_::_::_::_) rfl ?_
        refine rl_pass (met_undef rfl rfl) rfl ?_
        refine rl_pass (met_undef rfl rfl) rfl ?_
        refine rl_pass (met_undef rfl rfl) (tm' := [_,_,_,_,_,_,_,_,_,_,_,_,_,_,_,_,_,_,_,_,_,_,_,_,_,_,_,_,_,_,_,_,_,_,_,_,_,_,_,_,_,_,_,_,_,_,_,_,_,_,_,_,_,_]) rfl ?_
        refine rl_pass (met_undef rfl rfl) rfl ?_
        refine rl_pass (met_not rfl rfl (decide_eq_true cc12)) rfl ?_
        refine rl_det (met_none rfl) (fun h_ H_ => exd_pick_t rfl (decide_eq_true cc12) (v := .bool (true)) rfl) (tm' := [_,_,_,_,_,_,_,_,_,_,_,_,_,_,_,_,_,_,_,_,_,_,_,_,_,_,_,_,_,_,_,_,_,_,_,_,_,_,_,_,_,_,_,_,_,_,_,_,_,_,_,_,_,_]) rfl ?_
        refine rl_end ?_
        refine fl_then rfl rfl ?_
        refine fl_seq ?_
        refine rl_start ?_
        refine rl_det (met_none rfl) (fun h_ H_ => exd_assign (v := .int .i64 0) rfl) rfl ?_
        refine rl_det (met_none rfl) (fun h_ H_ => exd_assign (v := .int .i64 1) rfl) rfl ?_
        refine rl_end ?_
        refine fl_ret Tryd.func24 rfl (vs := [.int .i64 0, .int .i64 1]) (fun h_ H_ => ⟨.int .i64 0, _, rfl, rfl, ⟨.int .i64 1, _, rfl, rfl, rfl⟩⟩) (v := .tuple #[.int .i64 0, .int .i64 1]) rfl ?_
        have hb : badN (encS [[]] (wholeB ts)) m := by unfold badN; first | exact .inl (by omega) | exact .inr (.inl (by omega)) | exact .inr (.inr ⟨by omega, by assumption⟩)
        exact fun h_ H_ => K _ _ ⟨by rw [usesB, if_neg ‹_›, if_pos hb], H_.kept⟩
      · refine rl_det (met_some rfl rfl (decide_eq_false cc12)) (fun h_ H_ => exd_move (v := .int .i64 (m)) rfl) (tm' := _::_::_::_::_::_::_::_::_::_::_::_::_::_::_::_::_::_::_::_::_::_::_::_::_::_::_::_::_::_) rfl ?_
        refine rl_det (met_some rfl rfl (decide_eq_false cc12)) (fun h_ H_ => exd_gtr rfl rfl) rfl ?_
        refine rl_det (met_some rfl rfl (decide_eq_false cc12)) (fun h_ H_ => exd_move (v := .bool (decide (0 < m))) rfl) rfl ?_
        by_cases cc13 : 0 < m
        · refine rl_det (met_some rfl rfl (decide_eq_true cc13)) (fun h_ H_ => exd_move (v := .slice a7 ((encS [[]] (wholeB ts)).length) cp8) rfl) (tm' := _::_::_::_::_::_::_::_::_::_::_::_::_::_::_::_::_::_::_::_::_::_::_::_::_::_::_::_::_::_::_::_::_) rfl ?_
          refine rl_det (met_some rfl rfl (decide_eq_true cc13)) (fun h_ H_ => exd_move (v := .int .i64 (m)) rfl) rfl ?_
          refine rl_det (met_some rfl rfl (decide_eq_true cc13)) (fun h_ H_ => exd_sub rfl rfl (wr (by omega))) rfl ?_
          refine rl_det (met_some rfl rfl (decide_eq_true cc13)) (fun h_ H_ => exd_indexAddr Tryd.underlying49 tS60 (sl_ne a7 ((encS [[]] (wholeB ts)).length) cp8 ((show Pies _ _ _ (encS [[]] (wholeB ts)) from D10).ne (by omega))) rfl (by omega) (by omega) (a' := (adr a7).add (((m - 1)).toNat * 2)) rfl) (tm' := _::_::_::_::_::_::_::_::_::_::_::_::_::_::_::_::_::_::_::_::_::_::_::_::_::_::_::_::_::_::_::_::_::_::_::_) rfl ?_
          refine rl_det (met_some rfl rfl (decide_eq_true cc13)) (fun h_ H_ => exd_fieldAddr tF60_1 rfl (a' := ((adr a7).add (((m - 1)).toNat * 2)).add 1) rfl) rfl ?_
          refine rl_det (met_some rfl rfl (decide_eq_true cc13)) (fun h_ H_ => exd_load_per H_ tA3 rfl (v := .int .i64 (((encS [[]] (wholeB ts)).getD (((m - 1)).toNat) pz).2)) ((show Pies _ _ _ (encS [[]] (wholeB ts)) from D10).by (by omega))) rfl ?_
          refine rl_det (met_some rfl rfl (decide_eq_true cc13)) (fun h_ H_ => exd_eql rfl rfl) (tm' := [_,_,_,_,_,_,_,_,_,_,_,_,_,_,_,_,_,_,_,_,_,_,_,_,_,_,_,_,_,_,_,_,_,_,_,_,_,_,_,_,_,_,_,_,_,_,_,_,_,_,_,_,_,_]) rfl ?_
          refine rl_det (met_some rfl rfl (decide_eq_false cc12)) (fun h_ H_ => exd_pick_t rfl (decide_eq_true cc13) (v := .bool (decide (((encS [[]] (wholeB ts)).getD (((m - 1)).toNat) pz).2 = (-1)))) rfl) rfl ?_
          refine rl_det (met_none rfl) (fun h_ H_ => exd_pick_f rfl (decide_eq_false cc12) (v := .bool (decide (((encS [[]] (wholeB ts)).getD (((m - 1)).toNat) pz).2 = (-1)))) rfl) rfl ?_
          refine rl_end ?_
          by_cases cc14 : ((encS [[]] (wholeB ts)).getD (((m - 1)).toNat) pz).2 = (-1)
          · refine fl_then rfl (decide_eq_true cc14) ?_
            refine fl_seq ?_
            refine rl_start ?_
            refine rl_det (met_none rfl) (fun h_ H_ => exd_assign (v := .int .i64 0) rfl) (tm' := _::_::_::_::_::_) rfl ?_
            refine rl_det (met_none rfl) (fun h_ H_ => exd_assign (v := .int .i64 1) rfl) rfl ?_
            refine rl_end ?_
            refine fl_ret Tryd.func24 rfl (vs := [.int .i64 0, .int .i64 1]) (fun h_ H_ => ⟨.int .i64 0, _, rfl, rfl, ⟨.int .i64 1, _, rfl, rfl, rfl⟩⟩) (v := .tuple #[.int .i64 0, .int .i64 1]) rfl ?_
            have hb : badN (encS [[]] (wholeB ts)) m := by unfold badN; first | exact .inl (by omega) | exact .inr (.inl (by omega)) | exact .inr (.inr ⟨by omega, by assumption⟩)
            exact fun h_ H_ => K _ _ ⟨by rw [usesB, if_neg ‹_›, if_pos hb], H_.kept⟩
          · refine fl_else rfl (decide_eq_false cc14) ?_
            refine fl_skip ?_
            refine fl_seq ?_
            refine rl_start ?_
            refine rl_det (met_none rfl) (fun h_ H_ => exd_assign (v := .int .i64 0) rfl) rfl ?_
            refine rl_end ?_
            refine fl_seq ?_
            refine fl_seq ?_
            refine rl_start ?_
            refine rl_det (met_none rfl) (fun h_ H_ => exd_move (v := .slice a7 ((encS [[]] (wholeB ts)).length) cp8) rfl) (tm' := [_,_,_,_,_,_,_,_,_,_,_,_,_,_,_,_,_,_,_,_,_,_,_,_,_,_,_,_,_,_,_,_,_,_,_,_,_,_,_,_,_,_,_,_,_,_,_,_,_,_,_,_,_,_]) rfl ?_
            refine rl_det (met_none rfl) (fun h_ H_ => exd_len Tryd.underlying49 rfl) rfl ?_
            refine rl_det (met_none rfl) (fun h_ H_ => exd_move (v := .int .i64 0) rfl) rfl ?_
            refine rl_end ?_
            refine fl_block ?_
            refine fl_loop (m₀ := (encS [[]] (wholeB ts)).length - 0) (fun m_ tm_ h_ => ∃ (k : Nat) (z : Int), m_ = (encS [[]] (wholeB ts)).length - k ∧ (∃ y15 : Nat → Value, tm_ = [.slice a n c, .int .i64 (m), undef, undef, .int .i64 0, .int .i64 0, .slice a7 ((encS [[]] (wholeB ts)).length) cp8, .int .i64 (chkT ts), .int .i64 (z), undef, (y15 10), .tuple #[.slice a7 ((encS [[]] (wholeB ts)).length) cp8, .int .i64 (chkT ts)], .slice a n c, .tuple #[.slice a7 ((encS [[]] (wholeB ts)).length) cp8, .int .i64 (chkT ts)], .slice a7 ((encS [[]] (wholeB ts)).length) cp8, .int .i64 (chkT ts), .int .i64 (chkT ts), .bool (decide (chkT ts ≠ 0)), undef, .int .i64 (m), .bool (decide (m < 0)), .bool (decide (m < 0)), .int .i64 (m), .slice a7 ((encS [[]] (wholeB ts)).length) cp8, .int .i64 ((((encS [[]] (wholeB ts)).length : Nat) : Int)), .bool (decide ((((encS [[]] (wholeB ts)).length : Nat) : Int) < m)), .bool (decide ((((encS [[]] (wholeB ts)).length : Nat) : Int) < m)), .bool (decide ((((encS [[]] (wholeB ts)).length : Nat) : Int) < m)), .int .i64 (m), .bool (decide (0 < m)), .bool (decide (0 < m)), .slice a7 ((encS [[]] (wholeB ts)).length) cp8, .int .i64 (m), .int .i64 (m - 1), .pointer (some ((adr a7).add (((m - 1)).toNat * 2))), .pointer (some (((adr a7).add (((m - 1)).toNat * 2)).add 1)), .int .i64 (((encS [[]] (wholeB ts)).getD (((m - 1)).toNat) pz).2), .bool (decide (((encS [[]] (wholeB ts)).getD (((m - 1)).toNat) pz).2 = (-1))), .bool (decide (((encS [[]] (wholeB ts)).getD (((m - 1)).toNat) pz).2 = (-1))), .bool (decide (((encS [[]] (wholeB ts)).getD (((m - 1)).toNat) pz).2 = (-1))), .slice a7 ((encS [[]] (wholeB ts)).length) cp8, .int .i64 ((((encS [[]] (wholeB ts)).length : Nat) : Int)), .int .i64 (((k : Nat) : Int)), (y15 43), (y15 44), (y15 45), (y15 46), (y15 47), (y15 48), (y15 49), (y15 50), (y15 51), (y15 52), undef]) ∧ (k ≤ (encS [[]] (wholeB ts)).length) ∧ (z = ((cntN ((encS [[]] (wholeB ts)).take k) m : Nat) : Int)) ∧ (0 ≤ z ∧ z ≤ k) ∧ St h [] p6 h_ ([])) (fun h_ H_ => ⟨0, 0, rfl, (y_of rfl), Nat.zero_le _, (by simp [cntN]), ⟨by omega, by omega⟩, H_⟩) ?_
            intro m_ tm_ IH16
            refine rs_ex fun k => rs_ex fun z => rs_and fun hm_ => rs_and fun ht_ => rs_and fun hk => rs_and fun hz => rs_and fun hzk => ?_
            subst hm_; obtain ⟨y15, ht_⟩ := ht_; subst ht_
            refine fl_seq ?_
            refine rl_start ?_
            refine rl_det (met_none rfl) (fun h_ H_ => exd_lss rfl rfl) (tm' := [_,_,_,_,_,_,_,_,_,_,_,_,_,_,_,_,_,_,_,_,_,_,_,_,_,_,_,_,_,_,_,_,_,_,_,_,_,_,_,_,_,_,_,_,_,_,_,_,_,_,_,_,_,_]) rfl ?_
            refine rl_end ?_
            refine fl_seq ?_
            by_cases cc17 : ((k : Nat) : Int) < (((encS [[]] (wholeB ts)).length : Nat) : Int)
            · refine fl_then rfl (decide_eq_true cc17) ?_
              refine fl_skip ?_
              refine fl_seq ?_
              refine fl_block ?_
              refine fl_seq ?_
              refine rl_start ?_
              refine rl_det (met_none rfl) (fun h_ H_ => exd_indexAddrN (i := k) Tryd.underlying49 tS60 (sl_ne a7 ((encS [[]] (wholeB ts)).length) cp8 ((show Pies _ _ _ (encS [[]] (wholeB ts)) from D10).ne (by omega))) rfl (by omega)) rfl ?_
              refine rl_det (met_none rfl) (fun h_ H_ => exd_loadN_per H_ tA60 tS60 rfl (vs := [.int .i64 (((encS [[]] (wholeB ts)).getD k pz).1), .int .i64 (((encS [[]] (wholeB ts)).getD k pz).2)]) rfl ((show Pies _ _ _ (encS [[]] (wholeB ts)) from D10).all (by omega))) rfl ?_
              refine rl_alloc (met_none rfl) tZ60 rfl fun b18 => rl_own (L' := [(b18, .cells #[.int .i64 0, .int .i64 0] 60 (0, 0))]) rfl ?_
              refine rl_norm (tm' := _::_::_::_::_::_::_::_::_::_::_::_) rfl ?_
              refine rl_store (met_none rfl) tS60 rfl (v := .agg #[.int .i64 (((encS [[]] (wholeB ts)).getD k pz).1), .int .i64 (((encS [[]] (wholeB ts)).getD k pz).2)]) rfl (i := 0) rfl rfl rfl (Nat.le_of_ble_eq_true rfl) (cs2 := [.int .i64 (((encS [[]] (wholeB ts)).getD k pz).1), .int .i64 (((encS [[]] (wholeB ts)).getD k pz).2)]) rfl (rl_own (L' := [(b18, .cells #[.int .i64 (((encS [[]] (wholeB ts)).getD k pz).1), .int .i64 (((encS [[]] (wholeB ts)).getD k pz).2)] 60 (0, 0))]) rfl ?_)
              refine rl_end ?_
              refine fl_seq ?_
              refine rl_start ?_
              refine rl_det (met_none rfl) (fun h_ H_ => exd_fieldAddr tF60_0 rfl (a' := ⟨b18, 0, none⟩) rfl) rfl ?_
              refine rl_det (met_none rfl) (fun h_ H_ => exd_load_own H_ tA3 rfl (i := 0) rfl (v := .int .i64 (((encS [[]] (wholeB ts)).getD k pz).1)) rfl) rfl ?_
              refine rl_det (met_none rfl) (fun h_ H_ => exd_move (v := .int .i64 (m)) rfl) (tm' := [_,_,_,_,_,_,_,_,_,_,_,_,_,_,_,_,_,_,_,_,_,_,_,_,_,_,_,_,_,_,_,_,_,_,_,_,_,_,_,_,_,_,_,_,_,_,_,_,_,_,_,_,_,_]) rfl ?_
              refine rl_det (met_none rfl) (fun h_ H_ => exd_eql rfl rfl) rfl ?_
              refine rl_end ?_
              by_cases cc19 : ((encS [[]] (wholeB ts)).getD k pz).1 = m
              · refine fl_then rfl (decide_eq_true cc19) ?_
                refine rl_start ?_
                refine rl_det (met_none rfl) (fun h_ H_ => exd_move (v := .int .i64 (z)) rfl) rfl ?_
                refine rl_det (met_none rfl) (fun h_ H_ => exd_add rfl rfl (wr (by omega))) (tm' := [_,_,_,_,_,_,_,_,_,_,_,_,_,_,_,_,_,_,_,_,_,_,_,_,_,_,_,_,_,_,_,_,_,_,_,_,_,_,_,_,_,_,_,_,_,_,_,_,_,_,_,_,_,_]) rfl ?_
                refine rl_det (met_none rfl) (fun h_ H_ => exd_assign (v := .int .i64 (z + 1)) rfl) rfl ?_
                refine rl_end ?_
                refine fl_inBlock ?_
                refine rl_start ?_
                refine rl_det (met_none rfl) (fun h_ H_ => exd_add rfl rfl (n := ((k + 1 : Nat) : Int)) (wr (by omega))) rfl ?_
                refine rl_det (met_none rfl) (fun h_ H_ => exd_move (v := .int .i64 (((k + 1 : Nat) : Int))) rfl) (tm' := [_,_,_,_,_,_,_,_,_,_,_,_,_,_,_,_,_,_,_,_,_,_,_,_,_,_,_,_,_,_,_,_,_,_,_,_,_,_,_,_,_,_,_,_,_,_,_,_,_,_,_,_,_,_]) rfl ?_
                refine rl_end ?_
                exact fun h_ H_ => IH16 _ _ (by omega) h_ ⟨k + 1, z + 1, rfl, (y_of rfl), (by omega), (by rw [cnt_step (by omega), hz]; rw [if_pos ‹_›]; omega), ⟨by omega, by omega⟩, H_.drop⟩
              · refine fl_else rfl (decide_eq_false cc19) ?_
                refine fl_skip ?_
                refine fl_inBlock ?_
                refine rl_start ?_
                refine rl_det (met_none rfl) (fun h_ H_ => exd_add rfl rfl (n := ((k + 1 : Nat) : Int)) (wr (by omega))) rfl ?_
                refine rl_det (met_none rfl) (fun h_ H_ => exd_move (v := .int .i64 (((k + 1 : Nat) : Int))) rfl) rfl ?_
                refine rl_end ?_
                exact fun h_ H_ => IH16 _ _ (by omega) h_ ⟨k + 1, z, rfl, (y_of rfl), (by omega), (by rw [cnt_step (by omega), hz]; rw [if_neg ‹_›]; omega), ⟨by omega, by omega⟩, H_.drop⟩
            · refine fl_else rfl (decide_eq_false cc17) ?_
              refine fl_exit rfl ?_
              refine fl_seq ?_
              refine rl_start ?_
              refine rl_det (met_none rfl) (fun h_ H_ => exd_move (v := .int .i64 (z)) rfl) (tm' := [_,_,_,_,_,_,_,_,_,_,_,_,_,_,_,_,_,_,_,_,_,_,_,_,_,_,_,_,_,_,_,_,_,_,_,_,_,_,_,_,_,_,_,_,_,_,_,_,_,_,_,_,_,_]) rfl ?_
              refine rl_det (met_none rfl) (fun h_ H_ => exd_assign (v := .int .i64 (z)) rfl) rfl ?_
              refine rl_det (met_none rfl) (fun h_ H_ => exd_assign (v := .int .i64 0) rfl) rfl ?_
              refine rl_end ?_
              refine fl_ret Tryd.func24 rfl (vs := [.int .i64 (z), .int .i64 0]) (fun h_ H_ => ⟨.int .i64 (z), _, rfl, rfl, ⟨.int .i64 0, _, rfl, rfl, rfl⟩⟩) (v := .tuple #[.int .i64 (z), .int .i64 0]) rfl ?_
              have hb : ¬ badN (encS [[]] (wholeB ts)) m := by unfold badN; rintro (z_ | z_ | ⟨z1_, z2_⟩) <;> first | omega | exact absurd z2_ ‹_›
              have hz2 : z = ((cntN (encS [[]] (wholeB ts)) m : Nat) : Int) := by rw [hz, List.take_of_length_le (by omega)]
              exact fun h_ H_ => K _ _ ⟨by rw [usesB, if_neg ‹_›, if_neg hb, hz2], H_.kept⟩
        · refine rl_pass (met_not rfl rfl (decide_eq_false cc13)) (tm' := _::_::_::_::_::_::_::_::_::_::_::_::_::_::_::_::_::_::_::_::_::_::_::_::_::_::_::_::_::_::_::_::_) rfl ?_
          refine rl_pass (met_not rfl rfl (decide_eq_false cc13)) rfl ?_
          refine rl_pass (met_not rfl rfl (decide_eq_false cc13)) rfl ?_
          refine rl_pass (met_not rfl rfl (decide_eq_false cc13)) (tm' := _::_::_::_::_::_::_::_::_::_::_::_::_::_::_::_::_::_::_::_::_::_::_::_::_::_::_::_::_::_::_::_::_::_::_::_) rfl ?_
          refine rl_pass (met_not rfl rfl (decide_eq_false cc13)) rfl ?_
          refine rl_pass (met_not rfl rfl (decide_eq_false cc13)) rfl ?_
          refine rl_pass (met_not rfl rfl (decide_eq_false cc13)) (tm' := [_,_,_,_,_,_,_,_,_,_,_,_,_,_,_,_,_,_,_,_,_,_,_,_,_,_,_,_,_,_,_,_,_,_,_,_,_,_,_,_,_,_,_,_,_,_,_,_,_,_,_,_,_,_]) rfl ?_
          refine rl_det (met_some rfl rfl (decide_eq_false cc12)) (fun h_ H_ => exd_pick_f rfl (decide_eq_false cc13) (v := .bool (false)) rfl) rfl ?_
          refine rl_det (met_none rfl) (fun h_ H_ => exd_pick_f rfl (decide_eq_false cc12) (v := .bool (false)) rfl) rfl ?_
          refine rl_end ?_
          refine fl_else rfl rfl ?_
          refine fl_skip ?_
          refine fl_seq ?_
          refine rl_start ?_
          refine rl_det (met_none rfl) (fun h_ H_ => exd_assign (v := .int .i64 0) rfl) (tm' := _::_::_::_::_::_::_::_::_::_) rfl ?_
          refine rl_end ?_
          refine fl_seq ?_
          refine fl_seq ?_
          refine rl_start ?_
          refine rl_det (met_none rfl) (fun h_ H_ => exd_move (v := .slice a7 ((encS [[]] (wholeB ts)).length) cp8) rfl) rfl ?_
          refine rl_det (met_none rfl) (fun h_ H_ => exd_len Tryd.underlying49 rfl) rfl ?_
          refine rl_det (met_none rfl) (fun h_ H_ => exd_move (v := .int .i64 0) rfl) (tm' := [_,_,_,_,_,_,_,_,_,_,_,_,_,_,_,_,_,_,_,_,_,_,_,_,_,_,_,_,_,_,_,_,_,_,_,_,_,_,_,_,_,_,_,_,_,_,_,_,_,_,_,_,_,_]) rfl ?_
          refine rl_end ?_
          refine fl_block ?_
          refine fl_loop (m₀ := (encS [[]] (wholeB ts)).length - 0) (fun m_ tm_ h_ => ∃ (k : Nat) (z : Int), m_ = (encS [[]] (wholeB ts)).length - k ∧ (∃ y20 : Nat → Value, tm_ = [.slice a n c, .int .i64 (m), undef, undef, .int .i64 0, .int .i64 0, .slice a7 ((encS [[]] (wholeB ts)).length) cp8, .int .i64 (chkT ts), .int .i64 (z), undef, (y20 10), .tuple #[.slice a7 ((encS [[]] (wholeB ts)).length) cp8, .int .i64 (chkT ts)], .slice a n c, .tuple #[.slice a7 ((encS [[]] (wholeB ts)).length) cp8, .int .i64 (chkT ts)], .slice a7 ((encS [[]] (wholeB ts)).length) cp8, .int .i64 (chkT ts), .int .i64 (chkT ts), .bool (decide (chkT ts ≠ 0)), undef, .int .i64 (m), .bool (decide (m < 0)), .bool (decide (m < 0)), .int .i64 (m), .slice a7 ((encS [[]] (wholeB ts)).length) cp8, .int .i64 ((((encS [[]] (wholeB ts)).length : Nat) : Int)), .bool (decide ((((encS [[]] (wholeB ts)).length : Nat) : Int) < m)), .bool (decide ((((encS [[]] (wholeB ts)).length : Nat) : Int) < m)), .bool (decide ((((encS [[]] (wholeB ts)).length : Nat) : Int) < m)), .int .i64 (m), .bool (decide (0 < m)), .bool (decide (0 < m)), undef, undef, undef, undef, undef, undef, undef, .bool (false), .bool (false), .slice a7 ((encS [[]] (wholeB ts)).length) cp8, .int .i64 ((((encS [[]] (wholeB ts)).length : Nat) : Int)), .int .i64 (((k : Nat) : Int)), (y20 43), (y20 44), (y20 45), (y20 46), (y20 47), (y20 48), (y20 49), (y20 50), (y20 51), (y20 52), undef]) ∧ (k ≤ (encS [[]] (wholeB ts)).length) ∧ (z = ((cntN ((encS [[]] (wholeB ts)).take k) m : Nat) : Int)) ∧ (0 ≤ z ∧ z ≤ k) ∧ St h [] p6 h_ ([])) (fun h_ H_ => ⟨0, 0, rfl, (y_of rfl), Nat.zero_le _, (by simp [cntN]), ⟨by omega, by omega⟩, H_⟩) ?_
          intro m_ tm_ IH21
          refine rs_ex fun k => rs_ex fun z => rs_and fun hm_ => rs_and fun ht_ => rs_and fun hk => rs_and fun hz => rs_and fun hzk => ?_
          subst hm_; obtain ⟨y20, ht_⟩ := ht_; subst ht_
          refine fl_seq ?_
          refine rl_start ?_
          refine rl_det (met_none rfl) (fun h_ H_ => exd_lss rfl rfl) rfl ?_
          refine rl_end ?_
          refine fl_seq ?_
          by_cases cc22 : ((k : Nat) : Int) < (((encS [[]] (wholeB ts)).length : Nat) : Int)
          · refine fl_then rfl (decide_eq_true cc22) ?_
            refine fl_skip ?_
            refine fl_seq ?_
            refine fl_block ?_
            refine fl_seq ?_
            refine rl_start ?_
            refine rl_det (met_none rfl) (fun h_ H_ => exd_indexAddrN (i := k) Tryd.underlying49 tS60 (sl_ne a7 ((encS [[]] (wholeB ts)).length) cp8 ((show Pies _ _ _ (encS [[]] (wholeB ts)) from D10).ne (by omega))) rfl (by omega)) rfl ?_
            refine rl_det (met_none rfl) (fun h_ H_ => exd_loadN_per H_ tA60 tS60 rfl (vs := [.int .i64 (((encS [[]] (wholeB ts)).getD k pz).1), .int .i64 (((encS [[]] (wholeB ts)).getD k pz).2)]) rfl ((show Pies _ _ _ (encS [[]] (wholeB ts)) from D10).all (by omega))) (tm' := [_,_,_,_,_,_,_,_,_,_,_,_,_,_,_,_,_,_,_,_,_,_,_,_,_,_,_,_,_,_,_,_,_,_,_,_,_,_,_,_,_,_,_,_,_,_,_,_,_,_,_,_,_,_]) rfl ?_
            refine rl_alloc (met_none rfl) tZ60 rfl fun b23 => rl_own (L' := [(b23, .cells #[.int .i64 0, .int .i64 0] 60 (0, 0))]) rfl ?_
            refine rl_store (met_none rfl) tS60 rfl (v := .agg #[.int .i64 (((encS [[]] (wholeB ts)).getD k pz).1), .int .i64 (((encS [[]] (wholeB ts)).getD k pz).2)]) rfl (i := 0) rfl rfl rfl (Nat.le_of_ble_eq_true rfl) (cs2 := [.int .i64 (((encS [[]] (wholeB ts)).getD k pz).1), .int .i64 (((encS [[]] (wholeB ts)).getD k pz).2)]) rfl (rl_own (L' := [(b23, .cells #[.int .i64 (((encS [[]] (wholeB ts)).getD k pz).1), .int .i64 (((encS [[]] (wholeB ts)).getD k pz).2)] 60 (0, 0))]) rfl ?_)
            refine rl_end ?_
            refine fl_seq ?_
            refine rl_start ?_
            refine rl_det (met_none rfl) (fun h_ H_ => exd_fieldAddr tF60_0 rfl (a' := ⟨b23, 0, none⟩) rfl) rfl ?_
            refine rl_det (met_none rfl) (fun h_ H_ => exd_load_own H_ tA3 rfl (i := 0) rfl (v := .int .i64 (((encS [[]] (wholeB ts)).getD k pz).1)) rfl) (tm' := [_,_,_,_,_,_,_,_,_,_,_,_,_,_,_,_,_,_,_,_,_,_,_,_,_,_,_,_,_,_,_,_,_,_,_,_,_,_,_,_,_,_,_,_,_,_,_,_,_,_,_,_,_,_]) rfl ?_
            refine rl_det (met_none rfl) (fun h_ H_ => exd_move (v := .int .i64 (m)) rfl) rfl ?_
            refine rl_det (met_none rfl) (fun h_ H_ => exd_eql rfl rfl) rfl ?_
            refine rl_end ?_
            by_cases cc24 : ((encS [[]] (wholeB ts)).getD k pz).1 = m
            · refine fl_then rfl (decide_eq_true cc24) ?_
              refine rl_start ?_
              refine rl_det (met_none rfl) (fun h_ H_ => exd_move (v := .int .i64 (z)) rfl) (tm' := [_,_,_,_,_,_,_,_,_,_,_,_,_,_,_,_,_,_,_,_,_,_,_,_,_,_,_,_,_,_,_,_,_,_,_,_,_,_,_,_,_,_,_,_,_,_,_,_,_,_,_,_,_,_]) rfl ?_
              refine rl_det (met_none rfl) (fun h_ H_ => exd_add rfl rfl (wr (by omega))) rfl ?_
              refine rl_det (met_none rfl) (fun h_ H_ => exd_assign (v := .int .i64 (z + 1)) rfl) rfl ?_
              refine rl_end ?_
              refine fl_inBlock ?_
              refine rl_start ?_
              refine rl_det (met_none rfl) (fun h_ H_ => exd_add rfl rfl (n := ((k + 1 : Nat) : Int)) (wr (by omega))) (tm' := [_,_,_,_,_,_,_,_,_,_,_,_,_,_,_,_,_,_,_,_,_,_,_,_,_,_,_,_,_,_,_,_,_,_,_,_,_,_,_,_,_,_,_,_,_,_,_,_,_,_,_,_,_,_]) rfl ?_
              refine rl_det (met_none rfl) (fun h_ H_ => exd_move (v := .int .i64 (((k + 1 : Nat) : Int))) rfl) rfl ?_
              refine rl_end ?_
              exact fun h_ H_ => IH21 _ _ (by omega) h_ ⟨k + 1, z + 1, rfl, (y_of rfl), (by omega), (by rw [cnt_step (by omega), hz]; rw [if_pos ‹_›]; omega), ⟨by omega, by omega⟩, H_.drop⟩
            · refine fl_else rfl (decide_eq_false cc24) ?_
              refine fl_skip ?_
              refine fl_inBlock ?_
              refine rl_start ?_
              refine rl_det (met_none rfl) (fun h_ H_ => exd_add rfl rfl (n := ((k + 1 : Nat) : Int)) (wr (by omega))) rfl ?_
              refine rl_det (met_none rfl) (fun h_ H_ => exd_move (v := .int .i64 (((k + 1 : Nat) : Int))) rfl) (tm' := [_,_,_,_,_,_,_,_,_,_,_,_,_,_,_,_,_,_,_,_,_,_,_,_,_,_,_,_,_,_,_,_,_,_,_,_,_,_,_,_,_,_,_,_,_,_,_,_,_,_,_,_,_,_]) rfl ?_
              refine rl_end ?_
              exact fun h_ H_ => IH21 _ _ (by omega) h_ ⟨k + 1, z, rfl, (y_of rfl), (by omega), (by rw [cnt_step (by omega), hz]; rw [if_neg ‹_›]; omega), ⟨by omega, by omega⟩, H_.drop⟩
          · refine fl_else rfl (decide_eq_false cc22) ?_
            refine fl_exit rfl ?_
            refine fl_seq ?_
            refine rl_start ?_
            refine rl_det (met_none rfl) (fun h_ H_ => exd_move (v := .int .i64 (z)) rfl) rfl ?_
            refine rl_det (met_none rfl) (fun h_ H_ => exd_assign (v := .int .i64 (z)) rfl) rfl ?_
            refine rl_det (met_none rfl) (fun h_ H_ => exd_assign (v := .int .i64 0) rfl) (tm' := _::_::_::_::_::_::_) rfl ?_
            refine rl_end ?_
            refine fl_ret Tryd.func24 rfl (vs := [.int .i64 (z), .int .i64 0]) (fun h_ H_ => ⟨.int .i64 (z), _, rfl, rfl, ⟨.int .i64 0, _, rfl, rfl, rfl⟩⟩) (v := .tuple #[.int .i64 (z), .int .i64 0]) rfl ?_
            have hb : ¬ badN (encS [[]] (wholeB ts)) m := by unfold badN; rintro (z_ | z_ | ⟨z1_, z2_⟩) <;> first | omega | exact absurd z2_ ‹_›
            have hz2 : z = ((cntN (encS [[]] (wholeB ts)) m : Nat) : Int) := by rw [hz, List.take_of_length_le (by omega)]
            exact fun h_ H_ => K _ _ ⟨by rw [usesB, if_neg ‹_›, if_neg hb, hz2], H_.kept⟩
theorem c26 (h : Heap) (s : By) (hs : s.length ≤ 2 ^ 60) : CallsX Tryd.prog .lone 26 #[sv s] h fun v h' => v = .tuple #[.int .i64 (sumB s).1, .int .i64 (sumB s).2] ∧ Keep h h' := by
  refine calls_intro (Φ := fun h_ => St h [] (fun _ => none) h_ []) Tryd.func26 rfl (tm := [_, _, _, _, _, _, _, _, _]) rfl ?_ (St.start h _ (fun _ _ e => by cases e))
  intro c₀ cs Stop K
  refine fl_seq ?_
  refine rl_start ?_
  refine rl_det (met_none rfl) (fun h_ H_ => exd_assign (v := .int .i64 0) rfl) (tm' := _::_::_::_) rfl ?_
  refine rl_det (met_none rfl) (fun h_ H_ => exd_assign (v := .int .i64 0) rfl) rfl ?_
  refine rl_end ?_
  refine fl_seq ?_
  refine fl_seq ?_
  refine rl_start ?_
  refine rl_det (met_none rfl) (fun h_ H_ => exd_move (v := sv s) rfl) rfl ?_
  refine rl_det (met_none rfl) (fun h_ H_ => exd_lenS (l := s) Tryd.underlying9 rfl) (tm' := _::_::_::_::_::_::_) rfl ?_
  refine rl_det (met_none rfl) (fun h_ H_ => exd_gtr rfl rfl) rfl ?_
  refine rl_end ?_
  by_cases cc1 : 1400 < ((s.length : Nat) : Int)
  · refine fl_then rfl (decide_eq_true cc1) ?_
    refine fl_seq ?_
    refine rl_start ?_
    refine rl_det (met_none rfl) (fun h_ H_ => exd_assign (v := .int .i64 0) rfl) rfl ?_
    refine rl_det (met_none rfl) (fun h_ H_ => exd_assign (v := .int .i64 1) rfl) (tm' := _::_::_::_::_) rfl ?_
    refine rl_end ?_
    refine fl_ret Tryd.func26 rfl (vs := [.int .i64 0, .int .i64 1]) (fun h_ H_ => ⟨.int .i64 0, _, rfl, rfl, ⟨.int .i64 1, _, rfl, rfl, rfl⟩⟩) (v := .tuple #[.int .i64 0, .int .i64 1]) rfl ?_
    exact fun h_ H_ => K _ _ ⟨by rw [sumB, if_pos (by omega)], H_.kept⟩
  · refine fl_else rfl (decide_eq_false cc1) ?_
    refine fl_skip ?_
    refine fl_seq ?_
    refine rl_start ?_
    refine rl_det (met_none rfl) (fun h_ H_ => exd_move (v := sv s) rfl) rfl ?_
    refine rl_calld (met_none rfl) (first := []) (cap := []) rfl rfl fC62 (fun h_ H_ => c62 .lone _ s (by omega)) rfl ?_
    refine rl_det (met_none rfl) (fun h_ H_ => exd_assign (v := .int .i64 (((total s % 9973 : Nat) : Int))) rfl) (tm' := _::_::_::_) rfl ?_
    refine rl_det (met_none rfl) (fun h_ H_ => exd_assign (v := .int .i64 0) rfl) rfl ?_
    refine rl_end ?_
    refine fl_ret Tryd.func26 rfl (vs := [.int .i64 (((total s % 9973 : Nat) : Int)), .int .i64 0]) (fun h_ H_ => ⟨.int .i64 (((total s % 9973 : Nat) : Int)), _, rfl, rfl, ⟨.int .i64 0, _, rfl, rfl, rfl⟩⟩) (v := .tuple #[.int .i64 (((total s % 9973 : Nat) : Int)), .int .i64 0]) rfl ?_
    exact fun h_ H_ => K _ _ ⟨by rw [sumB, if_neg (by omega)], H_.kept⟩
theorem c33 (h : Heap) (s : By) (hs : s.length ≤ 2 ^ 60) : CallsX Tryd.prog .lone 33 #[sv s] h fun v h' => ∃ w X, v = .tuple #[w, .int .i64 (parseB s)] ∧ OwnS 60 2 w (pies ((formB s).getD [])) X ∧ New h h' X := by
  refine calls_intro (Φ := fun h_ => St h [] (fun _ => none) h_ []) Tryd.func33 rfl (tm := [_, _, _, _, _, _, _, _, _, _, _, _, _, _]) rfl ?_ (St.start h _ (fun _ _ e => by cases e))
  intro c₀ cs Stop K
  refine fl_seq ?_
  refine rl_start ?_
  refine rl_det (met_none rfl) (fun h_ H_ => exd_assign (v := .slice none 0 0) rfl) rfl ?_
  refine rl_det (met_none rfl) (fun h_ H_ => exd_assign (v := .int .i64 0) rfl) (tm' := _::_::_::_::_) rfl ?_
  refine rl_end ?_
  refine fl_seq ?_
  refine rl_start ?_
  refine rl_det (met_none rfl) (fun h_ H_ => exd_move (v := sv s) rfl) rfl ?_
  refine rl_own (L' := ([] : Pcs) ++ []) rfl ?_
  refine rl_call (met_none rfl) (first := []) (cap := []) rfl rfl fC52 (R := fun v_ h_ => ∃ w1 : Value, ∃ X2 : Pcs, v_ = .tuple #[w1, .bool ((formB s).isSome)] ∧ (OwnS 60 2 w1 (pies ((formB s).getD [])) X2) ∧ St h [] (fun _ => none) h_ (([] : Pcs) ++ (X2 ++ []))) (fun h_ H_ => (c52 _ s (by omega)).mono fun v_ h2_ ⟨w1, X2, e_, o3, N_⟩ => ⟨w1, X2, e_, o3, H_.callNA N_⟩) fun v_ => ?_
  refine rl_ex fun w1 => rl_ex fun X2 => rl_and fun ev_ => rl_and fun o3 => ?_
  have ev_ := ev_.symm; subst ev_
  refine rl_own (L' := ([] : Pcs) ++ (X2 ++ [])) rfl ?_
  refine rl_det (met_none rfl) (fun h_ H_ => exd_move (v := .tuple #[w1, .bool ((formB s).isSome)]) rfl) (tm' := _::_::_::_::_::_::_::_) rfl ?_
  refine rl_det (met_none rfl) (fun h_ H_ => exd_extract rfl (v := w1) rfl) rfl ?_
  refine rl_det (met_none rfl) (fun h_ H_ => exd_extract rfl (v := .bool ((formB s).isSome)) rfl) rfl ?_
  refine rl_det (met_none rfl) (fun h_ H_ => exd_assign (v := w1) rfl) (tm' := _::_::_::_::_::_) rfl ?_
  refine rl_det (met_none rfl) (fun h_ H_ => exd_assign (v := .bool ((formB s).isSome)) rfl) rfl ?_
  refine rl_end ?_
  refine fl_seq ?_
  refine fl_seq ?_
  refine rl_start ?_
  refine rl_det (met_none rfl) (fun h_ H_ => exd_move (v := .bool ((formB s).isSome)) rfl) rfl ?_
  refine rl_det (met_none rfl) (fun h_ H_ => exd_not rfl) (tm' := [_,_,_,_,_,_,_,_,_,_,_,_,_,_]) rfl ?_
  refine rl_end ?_
  rcases bcases ((formB s).isSome) with cc4 | cc4
  · refine fl_else rfl (not_f cc4) ?_
    refine fl_skip ?_
    refine fl_seq ?_
    refine rl_start ?_
    refine rl_det (met_none rfl) (fun h_ H_ => exd_move (v := w1) rfl) rfl ?_
    refine rl_det (met_none rfl) (fun h_ H_ => exd_assign (v := w1) rfl) rfl ?_
    refine rl_det (met_none rfl) (fun h_ H_ => exd_assign (v := .int .i64 0) rfl) (tm' := _::_::_::_::_) rfl ?_
    refine rl_end ?_
    refine fl_ret Tryd.func33 rfl (vs := [w1, .int .i64 0]) (fun h_ H_ => ⟨w1, _, rfl, rfl, ⟨.int .i64 0, _, rfl, rfl, rfl⟩⟩) (v := .tuple #[w1, .int .i64 0]) rfl ?_
    exact fun h_ H_ => K _ _ ⟨_, _, by rw [parseB, if_pos ‹_›], o3, by simpa using H_.new⟩
  · refine fl_then rfl (not_t cc4) ?_
    refine fl_seq ?_
    refine rl_start ?_
    refine rl_det (met_none rfl) (fun h_ H_ => exd_assign (v := .slice none 0 0) rfl) rfl ?_
    refine rl_det (met_none rfl) (fun h_ H_ => exd_assign (v := .int .i64 140) rfl) rfl ?_
    refine rl_end ?_
    refine fl_ret Tryd.func33 rfl (vs := [.slice none 0 0, .int .i64 140]) (fun h_ H_ => ⟨.slice none 0 0, _, rfl, rfl, ⟨.int .i64 140, _, rfl, rfl, rfl⟩⟩) (v := .tuple #[.slice none 0 0, .int .i64 140]) rfl ?_
    exact fun h_ H_ => K _ _ ⟨.slice none 0 0, [], by rw [parseB, if_neg (by rw [‹(formB s).isSome = false›]; simp)], by rw [form_none ‹_›]; exact OwnS.empty _ _, (H_.sub (List.nil_sublist _)).new⟩
theorem c20 (h : Heap) (htab : Tab h) (s : By) (hs : s.length ≤ 2 ^ 60) : CallsX Tryd.prog .lone 20 #[sv s] h fun v h' => v = .int .i64 (stateB s) ∧ Keep h h' := by
  refine calls_intro (Φ := fun h_ => St h [] (fun _ => none) h_ []) Tryd.func20 rfl (tm := [_, _, _, _, _, _, _, _, _, _, _, _, _, _, _, _, _]) rfl ?_ (St.start h _ (fun _ _ e => by cases e))
  intro c₀ cs Stop K
  refine fl_seq ?_
  refine rl_start ?_
  refine rl_det (met_none rfl) (fun h_ H_ => exd_assign (v := .int .i64 0) rfl) (tm' := _::_::_::_) rfl ?_
  refine rl_end ?_
  refine fl_seq ?_
  refine fl_seq ?_
  refine rl_start ?_
  refine rl_det (met_none rfl) (fun h_ H_ => exd_move (v := sv s) rfl) rfl ?_
  refine rl_own (L' := ([] : Pcs) ++ []) rfl ?_
  refine rl_call (met_none rfl) (first := []) (cap := []) rfl rfl fC18 (R := fun v_ h_ => ∃ w1 : Value, ∃ X2 : Pcs, v_ = .tuple #[w1, .int .i64 ((readB s).1)] ∧ (OwnS 9 1 w1 (scs (readB s).2) X2) ∧ St h [] (fun _ => none) h_ (([] : Pcs) ++ (X2 ++ []))) (fun h_ H_ => (c18 _ (htab.keep H_.kept) s (by omega)).mono fun v_ h2_ ⟨w1, X2, e_, o3, N_⟩ => ⟨w1, X2, e_, o3, H_.callNA N_⟩) fun v_ => ?_
  refine rl_ex fun w1 => rl_ex fun X2 => rl_and fun ev_ => rl_and fun o3 => ?_
  have ev_ := ev_.symm; subst ev_
  refine rl_own (L' := ([] : Pcs) ++ (X2 ++ [])) rfl ?_
  refine rl_det (met_none rfl) (fun h_ H_ => exd_move (v := .tuple #[w1, .int .i64 ((readB s).1)]) rfl) (tm' := _::_::_::_::_::_::_) rfl ?_
  refine rl_det (met_none rfl) (fun h_ H_ => exd_extract rfl (v := w1) rfl) rfl ?_
  refine rl_det (met_none rfl) (fun h_ H_ => exd_extract rfl (v := .int .i64 ((readB s).1)) rfl) rfl ?_
  refine rl_det (met_none rfl) (fun h_ H_ => exd_assign (v := w1) rfl) (tm' := _::_::_::_::_) rfl ?_
  refine rl_det (met_none rfl) (fun h_ H_ => exd_assign (v := .int .i64 ((readB s).1)) rfl) rfl ?_
  refine rl_end ?_
  refine fl_seq ?_
  refine rl_start ?_
  refine rl_det (met_none rfl) (fun h_ H_ => exd_move (v := .int .i64 ((readB s).1)) rfl) rfl ?_
  refine rl_end ?_
  refine fl_block ?_
  refine fl_seq ?_
  refine rl_start ?_
  refine rl_det (met_none rfl) (fun h_ H_ => exd_eql rfl rfl) (tm' := [_,_,_,_,_,_,_,_,_,_,_,_,_,_,_,_,_]) rfl ?_
  refine rl_det (met_none rfl) (fun h_ H_ => exd_assign (v := .bool (decide ((readB s).1 = 0))) rfl) rfl ?_
  refine rl_end ?_
  by_cases cc4 : (readB s).1 = 0
  · refine fl_then rfl (decide_eq_true cc4) ?_
    refine fl_seq ?_
    refine rl_start ?_
    refine rl_det (met_none rfl) (fun h_ H_ => exd_assign (v := .int .i64 1) rfl) rfl ?_
    refine rl_end ?_
    refine fl_ret Tryd.func20 rfl (vs := [.int .i64 1]) (fun h_ H_ => ⟨.int .i64 1, _, rfl, rfl, rfl⟩) (v := .int .i64 1) rfl ?_
    exact fun h_ H_ => K _ _ ⟨by unfold stateB; first | rw [if_pos ‹_›] | rw [if_neg ‹_›, if_pos ‹_›] | rw [if_neg ‹_›, if_neg ‹_›, if_pos ‹_›] | rw [if_neg ‹_›, if_neg ‹_›, if_neg ‹_›], H_.kept⟩
  · refine fl_else rfl (decide_eq_false cc4) ?_
    refine fl_seq ?_
    refine rl_start ?_
    refine rl_det (met_none rfl) (fun h_ H_ => exd_eql rfl rfl) (tm' := [_,_,_,_,_,_,_,_,_,_,_,_,_,_,_,_,_]) rfl ?_
    refine rl_det (met_none rfl) (fun h_ H_ => exd_assign (v := .bool (decide ((readB s).1 = 140))) rfl) rfl ?_
    refine rl_end ?_
    by_cases cc5 : (readB s).1 = 140
    · refine fl_then rfl (decide_eq_true cc5) ?_
      refine fl_seq ?_
      refine rl_start ?_
      refine rl_det (met_none rfl) (fun h_ H_ => exd_assign (v := .int .i64 2) rfl) rfl ?_
      refine rl_end ?_
      refine fl_ret Tryd.func20 rfl (vs := [.int .i64 2]) (fun h_ H_ => ⟨.int .i64 2, _, rfl, rfl, rfl⟩) (v := .int .i64 2) rfl ?_
      exact fun h_ H_ => K _ _ ⟨by unfold stateB; first | rw [if_pos ‹_›] | rw [if_neg ‹_›, if_pos ‹_›] | rw [if_neg ‹_›, if_neg ‹_›, if_pos ‹_›] | rw [if_neg ‹_›, if_neg ‹_›, if_neg ‹_›], H_.kept⟩
    · refine fl_else rfl (decide_eq_false cc5) ?_
      refine fl_seq ?_
      refine rl_start ?_
      refine rl_det (met_none rfl) (fun h_ H_ => exd_eql rfl rfl) (tm' := [_,_,_,_,_,_,_,_,_,_,_,_,_,_,_,_,_]) rfl ?_
      refine rl_det (met_none rfl) (fun h_ H_ => exd_assign (v := .bool (decide ((readB s).1 = 141))) rfl) rfl ?_
      refine rl_end ?_
      by_cases cc6 : (readB s).1 = 141
      · refine fl_then rfl (decide_eq_true cc6) ?_
        refine fl_seq ?_
        refine rl_start ?_
        refine rl_det (met_none rfl) (fun h_ H_ => exd_assign (v := .int .i64 3) rfl) rfl ?_
        refine rl_end ?_
        refine fl_ret Tryd.func20 rfl (vs := [.int .i64 3]) (fun h_ H_ => ⟨.int .i64 3, _, rfl, rfl, rfl⟩) (v := .int .i64 3) rfl ?_
        exact fun h_ H_ => K _ _ ⟨by unfold stateB; first | rw [if_pos ‹_›] | rw [if_neg ‹_›, if_pos ‹_›] | rw [if_neg ‹_›, if_neg ‹_›, if_pos ‹_›] | rw [if_neg ‹_›, if_neg ‹_›, if_neg ‹_›], H_.kept⟩
      · refine fl_else rfl (decide_eq_false cc6) ?_
        refine fl_skip ?_
        refine fl_inBlock ?_
        refine fl_seq ?_
        refine rl_start ?_
        refine rl_det (met_none rfl) (fun h_ H_ => exd_assign (v := .int .i64 4) rfl) (tm' := _::_::_::_) rfl ?_
        refine rl_end ?_
        refine fl_ret Tryd.func20 rfl (vs := [.int .i64 4]) (fun h_ H_ => ⟨.int .i64 4, _, rfl, rfl, rfl⟩) (v := .int .i64 4) rfl ?_
        exact fun h_ H_ => K _ _ ⟨by unfold stateB; first | rw [if_pos ‹_›] | rw [if_neg ‹_›, if_pos ‹_›] | rw [if_neg ‹_›, if_neg ‹_›, if_pos ‹_›] | rw [if_neg ‹_›, if_neg ‹_›, if_neg ‹_›], H_.kept⟩
theorem c28 (h : Heap) (htab : Tab h) (s t : By) (hs : s.length ≤ 2 ^ 60) (ht : t.length ≤ 2 ^ 60) : CallsX Tryd.prog .lone 28 #[sv s, sv t] h fun v h' => v = .tuple #[sv (addB s t).1, .int .i64 (addB s t).2] ∧ Keep h h' := by
  refine calls_intro (Φ := fun h_ => St h [] (fun _ => none) h_ []) Tryd.func28 rfl (tm := [_, _, _, _, _, _, _, _, _, _, _, _, _, _, _, _, _, _, _, _, _, _, _]) rfl ?_ (St.start h _ (fun _ _ e => by cases e))
  intro c₀ cs Stop K
  refine fl_seq ?_
  refine rl_start ?_
  refine rl_det (met_none rfl) (fun h_ H_ => exd_assign (v := sv ([] : List UInt8)) rfl) rfl ?_
  refine rl_det (met_none rfl) (fun h_ H_ => exd_assign (v := .int .i64 0) rfl) rfl ?_
  refine rl_end ?_
  refine fl_seq ?_
  refine rl_start ?_
  refine rl_det (met_none rfl) (fun h_ H_ => exd_move (v := sv s) rfl) (tm' := _::_::_::_::_::_::_::_::_::_::_) rfl ?_
  refine rl_own (L' := ([] : Pcs) ++ []) rfl ?_
  refine rl_call (met_none rfl) (first := []) (cap := []) rfl rfl fC18 (R := fun v_ h_ => ∃ w1 : Value, ∃ X2 : Pcs, v_ = .tuple #[w1, .int .i64 ((readB s).1)] ∧ (OwnS 9 1 w1 (scs (readB s).2) X2) ∧ St h [] (fun _ => none) h_ (([] : Pcs) ++ (X2 ++ []))) (fun h_ H_ => (c18 _ (htab.keep H_.kept) s (by omega)).mono fun v_ h2_ ⟨w1, X2, e_, o3, N_⟩ => ⟨w1, X2, e_, o3, H_.callNA N_⟩) fun v_ => ?_
  refine rl_ex fun w1 => rl_ex fun X2 => rl_and fun ev_ => rl_and fun o3 => ?_
  have ev_ := ev_.symm; subst ev_
  refine rl_own (L' := ([] : Pcs) ++ (X2 ++ [])) rfl ?_
  refine rl_det (met_none rfl) (fun h_ H_ => exd_move (v := .tuple #[w1, .int .i64 ((readB s).1)]) rfl) rfl ?_
  refine rl_det (met_none rfl) (fun h_ H_ => exd_extract rfl (v := w1) rfl) (tm' := _::_::_::_::_::_::_::_::_::_::_::_::_) rfl ?_
  refine rl_det (met_none rfl) (fun h_ H_ => exd_extract rfl (v := .int .i64 ((readB s).1)) rfl) rfl ?_
  refine rl_det (met_none rfl) (fun h_ H_ => exd_assign (v := w1) rfl) rfl ?_
  refine rl_det (met_none rfl) (fun h_ H_ => exd_assign (v := .int .i64 ((readB s).1)) rfl) (tm' := _::_::_::_::_::_::_::_::_) rfl ?_
  refine rl_end ?_
  refine fl_seq ?_
  refine fl_seq ?_
  refine rl_start ?_
  refine rl_det (met_none rfl) (fun h_ H_ => exd_move (v := .int .i64 ((readB s).1)) rfl) rfl ?_
  refine rl_det (met_none rfl) (fun h_ H_ => exd_neq rfl rfl) rfl ?_
  refine rl_end ?_
  by_cases cc4 : (readB s).1 ≠ 0
  · refine fl_then rfl (decide_eq_true cc4) ?_
    refine fl_seq ?_
    refine rl_start ?_
    refine rl_det (met_none rfl) (fun h_ H_ => exd_move (v := .int .i64 ((readB s).1)) rfl) (tm' := [_,_,_,_,_,_,_,_,_,_,_,_,_,_,_,_,_,_,_,_,_,_,_]) rfl ?_
    refine rl_det (met_none rfl) (fun h_ H_ => exd_assign (v := sv ([] : List UInt8)) rfl) rfl ?_
    refine rl_det (met_none rfl) (fun h_ H_ => exd_assign (v := .int .i64 ((readB s).1)) rfl) rfl ?_
    refine rl_end ?_
    refine fl_ret Tryd.func28 rfl (vs := [sv ([] : List UInt8), .int .i64 ((readB s).1)]) (fun h_ H_ => ⟨sv ([] : List UInt8), _, rfl, rfl, ⟨.int .i64 ((readB s).1), _, rfl, rfl, rfl⟩⟩) (v := .tuple #[sv ([] : List UInt8), .int .i64 ((readB s).1)]) rfl ?_
    exact fun h_ H_ => K _ _ ⟨by rw [addB, if_pos ‹_›], H_.kept⟩
  · refine fl_else rfl (decide_eq_false cc4) ?_
    refine fl_skip ?_
    refine fl_seq ?_
    have hok := read_good (s := s) (Decidable.not_not.1 ‹_›)
    have hrl := hok.1
    refine rl_start ?_
    refine rl_det (met_none rfl) (fun h_ H_ => exd_move (v := w1) rfl) (tm' := [_,_,_,_,_,_,_,_,_,_,_,_,_,_,_,_,_,_,_,_,_,_,_]) rfl ?_
    refine rl_det (met_none rfl) (fun h_ H_ => exd_move (v := sv t) rfl) rfl ?_
    refine rl_buildO ([] : Pcs) (met_none rfl) Tryd.underlying22 tS9 tZ9 (Nat.le_of_ble_eq_true rfl) (vs := [(0, sv t)]) rfl rfl (es := [[sv t]]) rfl rfl rfl fun v5 X6 o7 => ?_
    refine rl_perm (List.Perm.append_left _ (List.perm_append_comm_assoc _ _ _)) ?_
    refine rl_own (L' := ([] : Pcs) ++ (X2 ++ (X6 ++ []))) rfl ?_
    refine rl_appendO ([] : Pcs) X2 X6 (met_none rfl) Tryd.underlying22 tS9 tZ9 rfl tB9 Tryd.underlying22 rfl rfl o3 o7 (ones_of rfl) (by rw [scs_length]; simp only [List.length_cons, List.length_nil]; omega) (by decide) fun v8 X9 o10 => ?_
    have o11 : OwnS 9 1 v8 (scs ((readB s).2 ++ [t])) X9 := o10.as (scs_snoc _ _)
    refine rl_norm (tm' := [_,_,_,_,_,_,_,_,_,_,_,_,_,_,_,_,_,_,_,_,_,_,_]) rfl ?_
    refine rl_calld (met_none rfl) (first := []) (cap := []) rfl rfl fC45 (fun h_ H_ => lend_to (n := ((readB s).2 ++ [t]).length) o11 (scs_length _) H_ (fun x_ h_ => by simp [h_]) fun p_ a_ c_ hp_ _ hv_ D_ => by rw [hv_]; exact c45 _ _ hp_ (htab.keep H_.kept) a_ _ c_ _ D_ (by rw [List.length_append, List.length_singleton]; omega) (read_more hok ht)) rfl ?_
    refine rl_det (met_none rfl) (fun h_ H_ => exd_extract rfl (v := sv ((writeB ((readB s).2 ++ [t])).1)) rfl) rfl ?_
    refine rl_det (met_none rfl) (fun h_ H_ => exd_extract rfl (v := .int .i64 ((writeB ((readB s).2 ++ [t])).2)) rfl) (tm' := [_,_,_,_,_,_,_,_,_,_,_,_,_,_,_,_,_,_,_,_,_,_,_]) rfl ?_
    refine rl_det (met_none rfl) (fun h_ H_ => exd_assign (v := sv ((writeB ((readB s).2 ++ [t])).1)) rfl) rfl ?_
    refine rl_det (met_none rfl) (fun h_ H_ => exd_assign (v := .int .i64 ((writeB ((readB s).2 ++ [t])).2)) rfl) rfl ?_
    refine rl_end ?_
    refine fl_ret Tryd.func28 rfl (vs := [sv ((writeB ((readB s).2 ++ [t])).1), .int .i64 ((writeB ((readB s).2 ++ [t])).2)]) (fun h_ H_ => ⟨sv ((writeB ((readB s).2 ++ [t])).1), _, rfl, rfl, ⟨.int .i64 ((writeB ((readB s).2 ++ [t])).2), _, rfl, rfl, rfl⟩⟩) (v := .tuple #[sv ((writeB ((readB s).2 ++ [t])).1), .int .i64 ((writeB ((readB s).2 ++ [t])).2)]) rfl ?_
    exact fun h_ H_ => K _ _ ⟨by rw [addB, if_neg ‹_›], H_.kept⟩
end Go.Proofs.YtiinpnlfdeiloaaDoor
namespace Go.Proofs.YtiinpnlfdeiloaaDoor
open Go.X Go.X.Cent Go.Conc
set_option maxRecDepth 10000
set_option synthInstance.maxSize 2000
set_option synthInstance.maxHeartbeats 400000

theorem c64 (md : Md) (h : Heap) (z : Int) (h0 : 0 ≤ z) (h1 : z ≤ 255) : CallsX Tryd.prog md 64 #[.int .i64 (z)] h fun v h' => v = sv [UInt8.ofNat z.toNat] ∧ Keep h h' := by
  refine calls_intro (Φ := fun h_ => St h [] (fun _ => none) h_ []) Tryd.func64 rfl (tm := [_, _, _, _, _, _, _]) rfl ?_ (St.start h _ (fun _ _ e => by cases e))
  intro c₀ cs Stop K
  refine fl_seq ?_
  refine rl_start ?_
  refine rl_det (met_none rfl) (fun h_ H_ => exd_assign (v := sv ([] : List UInt8)) rfl) rfl ?_
  refine rl_end ?_
  refine fl_seq ?_
  refine rl_start ?_
  refine rl_det (met_none rfl) (fun h_ H_ => exd_move (v := .int .i64 (z)) rfl) rfl ?_
  refine rl_det (met_none rfl) (fun h_ H_ => exd_conv ⟨_, Tryd.underlying3⟩ Tryd.underlying5 rfl (n := z) (wr8 (by omega))) (tm' := [_,_,_,_,_,_,_]) rfl ?_
  refine rl_own (L' := ([] : Pcs) ++ []) rfl ?_
  refine rl_buildO ([] : Pcs) (met_none rfl) Tryd.underlying37 tS5 tZ5 (Nat.le_of_ble_eq_true rfl) (vs := [(0, .int .u8 (z))]) rfl rfl (es := [[.int .u8 (z)]]) rfl rfl rfl fun v1 X2 o3 => ?_
  refine rl_det (met_none rfl) (fun h_ H_ => exd_strOwn (A := ([] : Pcs)) (o3.as (byte_own h0 h1)) H_ Tryd.underlying37 Tryd.underlying9 Tryd.underlying5 rfl) rfl ?_
  refine rl_det (met_none rfl) (fun h_ H_ => exd_assign (v := sv ([UInt8.ofNat z.toNat])) rfl) (tm' := _::_::_::_) rfl ?_
  refine rl_end ?_
  refine fl_ret Tryd.func64 rfl (vs := [sv ([UInt8.ofNat z.toNat])]) (fun h_ H_ => ⟨sv ([UInt8.ofNat z.toNat]), _, rfl, rfl, rfl⟩) (v := sv ([UInt8.ofNat z.toNat])) rfl ?_
  exact fun h_ H_ => K _ _ ⟨rfl, H_.kept⟩
theorem c65 (md : Md) (h : Heap) (n : Nat) (hn : n ≤ 10000) : CallsX Tryd.prog md 65 #[.int .i64 (((n : Nat) : Int))] h fun v h' => v = sv (four n) ∧ Keep h h' := by
  refine calls_intro (Φ := fun h_ => St h [] (fun _ => none) h_ []) Tryd.func65 rfl (tm := [_, _, _, _, _, _, _, _, _, _, _, _, _, _, _, _, _, _]) rfl ?_ (St.start h _ (fun _ _ e => by cases e))
  intro c₀ cs Stop K
  refine fl_seq ?_
  refine rl_start ?_
  refine rl_det (met_none rfl) (fun h_ H_ => exd_assign (v := sv ([] : List UInt8)) rfl) rfl ?_
  refine rl_end ?_
  refine fl_seq ?_
  refine rl_start ?_
  refine rl_det (met_none rfl) (fun h_ H_ => exd_assign (v := sv ([] : List UInt8)) rfl) rfl ?_
  refine rl_end ?_
  refine fl_seq ?_
  refine fl_seq ?_
  refine rl_start ?_
  refine rl_det (met_none rfl) (fun h_ H_ => exd_assign (v := .int .i64 0) rfl) (tm' := _::_::_::_::_::_) rfl ?_
  refine rl_end ?_
  refine fl_block ?_
  refine fl_loop (m₀ := 4 - 0) (fun m_ tm_ h_ => ∃ (k : Nat) (z : Int) (l : By), m_ = 4 - k ∧ (∃ y1 : Nat → Value, tm_ = [.int .i64 (z), undef, sv ([] : List UInt8), sv l, .int .i64 (((k : Nat) : Int)), (y1 5), (y1 6), (y1 7), (y1 8), (y1 9), (y1 10), (y1 11), (y1 12), (y1 13), (y1 14), (y1 15), (y1 16), undef]) ∧ (k ≤ 4) ∧ (z = ((n / 10 ^ k : Nat) : Int)) ∧ (l = fourTo n k) ∧ (0 ≤ z ∧ z ≤ 10000) ∧ (l.length = k) ∧ St h [] (fun _ => none) h_ ([])) (fun h_ H_ => ⟨0, ((n : Nat) : Int), [], rfl, (y_of rfl), Nat.zero_le _, (by simp), rfl, (by omega), rfl, H_⟩) ?_
  intro m_ tm_ IH2
  refine rs_ex fun k => rs_ex fun z => rs_ex fun l => rs_and fun hm_ => rs_and fun ht_ => rs_and fun hk => rs_and fun hz => rs_and fun hl => rs_and fun hz0 => rs_and fun hl0 => ?_
  subst hm_; obtain ⟨y1, ht_⟩ := ht_; subst ht_
  refine fl_seq ?_
  refine fl_seq ?_
  refine rl_start ?_
  refine rl_det (met_none rfl) (fun h_ H_ => exd_move (v := .int .i64 (((k : Nat) : Int))) rfl) rfl ?_
  refine rl_det (met_none rfl) (fun h_ H_ => exd_lss rfl rfl) rfl ?_
  refine rl_end ?_
  by_cases cc3 : ((k : Nat) : Int) < 4
  · refine fl_then rfl (decide_eq_true cc3) ?_
    refine fl_skip ?_
    refine fl_seq ?_
    refine fl_block ?_
    refine fl_seq ?_
    refine rl_start ?_
    refine rl_det (met_none rfl) (fun h_ H_ => exd_move (v := .int .i64 (z)) rfl) (tm' := _::_::_::_::_::_::_::_::_::_::_) rfl ?_
    refine rl_det (met_none rfl) (fun h_ H_ => exd_rem rfl rfl (by decide) (n := z % 10) (Int.tmod_eq_emod_of_nonneg (by omega))) rfl ?_
    refine rl_det (met_none rfl) (fun h_ H_ => exd_add rfl rfl (wr (by first | omega | (simp; omega)))) rfl ?_
    refine rl_calld (met_none rfl) (first := []) (cap := []) rfl rfl fC64 (fun h_ H_ => c64 md _ (48 + (z % 10)) (by omega) (by omega)) (tm' := [_,_,_,_,_,_,_,_,_,_,_,_,_,_,_,_,_,_]) rfl ?_
    refine rl_det (met_none rfl) (fun h_ H_ => exd_move (v := sv l) rfl) rfl ?_
    refine rl_det (met_none rfl) (fun h_ H_ => exd_catS (l := [UInt8.ofNat (48 + (z % 10)).toNat]) (m := l) rfl rfl (by first | omega | (simp; omega))) rfl ?_
    refine rl_det (met_none rfl) (fun h_ H_ => exd_assign (v := sv (([UInt8.ofNat (48 + (z % 10)).toNat]) ++ l)) rfl) (tm' := _::_::_::_::_) rfl ?_
    refine rl_end ?_
    refine rl_start ?_
    refine rl_det (met_none rfl) (fun h_ H_ => exd_move (v := .int .i64 (z)) rfl) rfl ?_
    refine rl_det (met_none rfl) (fun h_ H_ => exd_quo rfl rfl (by decide) (n := z / 10) ((congrArg _ (Int.tdiv_eq_ediv_of_nonneg (by omega))).trans (wr (by omega)))) rfl ?_
    refine rl_det (met_none rfl) (fun h_ H_ => exd_assign (v := .int .i64 (z / 10)) rfl) (tm' := _::_) rfl ?_
    refine rl_end ?_
    refine fl_inBlock ?_
    refine rl_start ?_
    refine rl_det (met_none rfl) (fun h_ H_ => exd_move (v := .int .i64 (((k : Nat) : Int))) rfl) rfl ?_
    refine rl_det (met_none rfl) (fun h_ H_ => exd_add rfl rfl (n := ((k + 1 : Nat) : Int)) (wr (by omega))) rfl ?_
    refine rl_det (met_none rfl) (fun h_ H_ => exd_assign (v := .int .i64 (((k + 1 : Nat) : Int))) rfl) (tm' := _::_::_::_::_::_) rfl ?_
    refine rl_end ?_
    exact fun h_ H_ => IH2 _ _ (by omega) h_ ⟨k + 1, z / 10, ([UInt8.ofNat (48 + (z % 10)).toNat]) ++ l, rfl, (y_of rfl), (by omega), (four_step hz hl).2, (four_step hz hl).1, (by omega), (by simp; omega), H_⟩
  · refine fl_else rfl (decide_eq_false cc3) ?_
    refine fl_exit rfl ?_
    refine fl_seq ?_
    refine rl_start ?_
    refine rl_det (met_none rfl) (fun h_ H_ => exd_move (v := sv l) rfl) rfl ?_
    refine rl_det (met_none rfl) (fun h_ H_ => exd_assign (v := sv l) rfl) rfl ?_
    refine rl_end ?_
    refine fl_ret Tryd.func65 rfl (vs := [sv l]) (fun h_ H_ => ⟨sv l, _, rfl, rfl, rfl⟩) (v := sv l) rfl ?_
    have e4 : k = 4 := by omega
    subst e4
    exact fun h_ H_ => K _ _ ⟨by rw [hl, fourTo_four], H_.kept⟩
end Go.Proofs.YtiinpnlfdeiloaaDoor
