/-
  CisternsSize, for every input: the law returns true and leaves its arguments as they were. No condition.
-/
import Derived.Test.YtbmkacnlhlbnjaaLaw12P1
import Derived.Test.YtbmkacnlhlbnjaaC3x
namespace Go.Proofs.Ytbmkacnlhlbnjaa
open Go.X Go.X.Cist Go.Conc
set_option maxRecDepth 10000

theorem c98w (md : Md) (h : Heap) (p : PHeap) (hp : Per p h) (size start : Int) (a : Option Addr) (n c : Nat) (ds : List Day) (D : Days p a n ds) (hn : n ≤ 8) (hd : Dok ds) : CallsX Try.prog md 98 #[.agg #[.int .i64 (size), .int .i64 (start), .slice a n c], .slice none 0 0] h fun v h' => ∃ w es X Z, v = w ∧ OwnS 25 1 w es X ∧ Inn p es (wea ds) Z ∧ es.length = (wea ds).length ∧ New h h' (X ++ (Z ++ [])) := by
  have hl := D.len
  subst hl
  exact (wea_all _ md h p hp size start a _ c ds D hn hd none 0 0 [] (ints_nil p) (by omega)).mono fun v h' ⟨es, X, Z, o, i, el, _, N⟩ => ⟨v, es, X, Z, rfl, o, i, el, N⟩
theorem c77 (md : Md) (h : Heap) (p : PHeap) (hp : Per p h) (size start : Int) (a : Option Addr) (n c : Nat) (ds : List Day) (D : Days p a n ds) (hn : n ≤ 8) (hL : Lok size start ds) (hc : (wea ds).length ≤ 60) : CallsX Try.prog md 77 #[.agg #[.int .i64 (size), .int .i64 (start), .slice a n c]] h fun v h' => ∃ es X Z, OwnS 30 3 v es X ∧ InnS p n (yFL size start ds n) (yFK size start ds n) (yFO size start ds n) es (wea ds).length Z ∧ es.length = (wea ds).length ∧ New h h' (X ++ (Z ++ [])) := by
  refine calls_intro (Φ := fun h_ => St h [] p h_ []) Try.func77 rfl (tm := [_, _, _, _, _, _, _, _, _, _, _, _, _, _, _, _, _, _, _, _, _, _, _, _]) rfl ?_ (St.start h _ hp)
  intro c₀ cs Stop K
  have hl := D.len
  have hd : Dok ds := fun i hi => by have := hL.2.2.2.2.2 i hi; omega
  refine fl_seq ?_
  refine rl_start ?_
  refine rl_box (met_none rfl) (v := .agg #[.int .i64 (size), .int .i64 (start), .slice a n c]) rfl fun b1 => rl_own (L' := [(b1, .cells #[.int .i64 (size), .int .i64 (start), .slice a n c] 24 (0, 0))]) rfl ?_
  refine rl_det (met_none rfl) (fun h_ H_ => exd_assign (v := .slice none 0 0) rfl) rfl ?_
  refine rl_end ?_
  refine fl_seq ?_
  refine rl_start ?_
  refine rl_det (met_none rfl) (fun h_ H_ => exd_loadN_own H_ tA24 tS24 rfl (i := 0) rfl (vs := [.int .i64 (size), .int .i64 (start), .slice a n c]) rfl rfl) (tm' := _::_::_::_::_::_::_::_) rfl ?_
  refine rl_own (L' := ([(b1, .cells #[.int .i64 (size), .int .i64 (start), .slice a n c] 24 (0, 0))] : Pcs) ++ []) rfl ?_
  refine rl_call (met_none rfl) (first := []) (cap := []) rfl rfl fC98 (R := fun v_ h_ => ∃ w2 : Value, ∃ es3 : List (List Value), ∃ X4 : Pcs, ∃ Z5 : Pcs, v_ = w2 ∧ (OwnS 25 1 w2 es3 X4) ∧ (Inn p es3 (wea ds) Z5) ∧ (es3.length = (wea ds).length) ∧ St h [] p h_ (([(b1, .cells #[.int .i64 (size), .int .i64 (start), .slice a n c] 24 (0, 0))] : Pcs) ++ ((X4 ++ (Z5 ++ [])) ++ []))) (fun h_ H_ => (c98w md _ _ (fun b_ o_ e_ => H_.per b_ o_ e_) (size) (start) _ _ _ _ D (by omega) hd).mono fun v_ h2_ ⟨w2, es3, X4, Z5, e_, o6, i7, el8, N_⟩ => ⟨w2, es3, X4, Z5, e_, o6, i7, el8, H_.callNA N_⟩) fun v_ => ?_
  refine rl_ex fun w2 => rl_ex fun es3 => rl_ex fun X4 => rl_ex fun Z5 => rl_and fun ev_ => rl_and fun o6 => rl_and fun i7 => rl_and fun el8 => ?_
  have ev_ := ev_.symm; subst ev_
  refine rl_own (L' := ([(b1, .cells #[.int .i64 (size), .int .i64 (start), .slice a n c] 24 (0, 0))] : Pcs) ++ (X4 ++ (Z5 ++ []))) (by simp) ?_
  refine rl_det (met_none rfl) (fun h_ H_ => exd_assign (v := w2) rfl) rfl ?_
  refine rl_end ?_
  refine fl_seq ?_
  refine rs_perm (List.Perm.append_left _ (List.perm_append_comm_assoc _ _ _)) ?_
  refine rs_own (L' := ([(b1, .cells #[.int .i64 (size), .int .i64 (start), .slice a n c] 24 (0, 0))] : Pcs) ++ (Z5 ++ (X4 ++ []))) rfl ?_
  refine rs_lastX (A := ([(b1, .cells #[.int .i64 (size), .int .i64 (start), .slice a n c] 24 (0, 0))] : Pcs)) (Z := Z5) fun p9 le10 hz11 => ?_
  refine rs_lastN (A := ([(b1, .cells #[.int .i64 (size), .int .i64 (start), .slice a n c] 24 (0, 0))] : Pcs)) o6 el8 fun p15 a16 cp17 le18 ev_ D19 => ?_
  subst ev_
  refine rs_own (L' := [(b1, .cells #[.int .i64 (size), .int .i64 (start), .slice a n c] 24 (0, 0))]) rfl ?_
  obtain ⟨A13, C14, T_⟩ := (i7 _ (le10.trans le18) (fun x_ hx_ => le18 _ _ (hz11 x_ hx_))).tab D19
  have T12 := Tab1.const (n := n) T_ (wea_len hd hl); clear T_
  refine rl_start ?_
  refine rl_det (met_none rfl) (fun h_ H_ => exd_assign (v := .slice none 0 0) rfl) (tm' := _::_::_::_::_::_) rfl ?_
  refine rl_end ?_
  refine fl_seq ?_
  refine fl_seq ?_
  refine rl_start ?_
  refine rl_det (met_none rfl) (fun h_ H_ => exd_assign (v := .int .i64 0) rfl) rfl ?_
  refine rl_end ?_
  refine fl_block ?_
  refine fl_loop (m₀ := (wea ds).length - 0) (fun m_ tm_ h_ => ∃ (k : Nat) (w : Value) (es : List (List Value)) (X : Pcs) (Z : Pcs), m_ = (wea ds).length - k ∧ (∃ y20 : Nat → Value, tm_ = [.agg #[.int .i64 (size), .int .i64 (start), .slice a n c], .pointer (some ⟨b1, 0, none⟩), .slice none 0 0, .slice a16 ((wea ds).length) cp17, w, .int .i64 (((k : Nat) : Int)), .agg #[.int .i64 (size), .int .i64 (start), .slice a n c], .slice a16 ((wea ds).length) cp17, (y20 8), (y20 9), (y20 10), (y20 11), (y20 12), (y20 13), (y20 14), (y20 15), (y20 16), (y20 17), (y20 18), (y20 19), (y20 20), (y20 21), (y20 22), undef]) ∧ (SInv p size start ds n k w es X Z) ∧ St h [] p15 h_ (([(b1, .cells #[.int .i64 (size), .int .i64 (start), .slice a n c] 24 (0, 0))] : Pcs) ++ (X ++ (Z ++ [])))) (fun h_ H_ => ⟨0, _, _, [], [], rfl, (y_of rfl), ⟨Nat.zero_le _, OwnS.empty _ _, InnS.nil, rfl⟩, H_⟩) ?_
  intro m_ tm_ IH21
  refine rs_ex fun k => rs_ex fun w => rs_ex fun es => rs_ex fun X => rs_ex fun Z => rs_and fun hm_ => rs_and fun ht_ => rs_and fun hI => ?_
  subst hm_; obtain ⟨y20, ht_⟩ := ht_; subst ht_
  have hk := hI.hk; have o := hI.o; have el := hI.el
  refine fl_seq ?_
  refine fl_seq ?_
  refine rl_start ?_
  refine rl_det (met_none rfl) (fun h_ H_ => exd_move (v := .int .i64 (((k : Nat) : Int))) rfl) rfl ?_
  refine rl_det (met_none rfl) (fun h_ H_ => exd_move (v := .slice a16 ((wea ds).length) cp17) rfl) (tm' := _::_::_::_::_::_::_::_::_::_::_) rfl ?_
  refine rl_det (met_none rfl) (fun h_ H_ => exd_len Try.underlying108 rfl) rfl ?_
  refine rl_det (met_none rfl) (fun h_ H_ => exd_lss rfl rfl) rfl ?_
  refine rl_end ?_
  by_cases cc22 : ((k : Nat) : Int) < (((wea ds).length : Nat) : Int)
  · refine fl_then rfl (decide_eq_true cc22) ?_
    refine fl_skip ?_
    refine fl_seq ?_
    refine fl_block ?_
    obtain ⟨Gw34, Gw35, Gw36, GX37, GX38, GX39, hG6_⟩ := sk6 (fun (v_ : Value) (x_ : Pcs) (w34 : Value) (w35 : Value) (w36 : Value) (X37 : Pcs) (X38 : Pcs) (X39 : Pcs) => v_ = .agg #[w34, w35, w36] ∧ (OwnS 3 1 w34 (ns (levs size start (wantOf ds) (listOf ((wea ds).getD k []))) n) X37) ∧ (OwnS 3 1 w35 (ns (lack size start (wantOf ds) (listOf ((wea ds).getD k []))) n) X38) ∧ (OwnS 3 1 w36 (ns (ovr size start (wantOf ds) (listOf ((wea ds).getD k []))) n) X39) ∧ x_ = (X37 ++ (X38 ++ (X39 ++ []))))
    refine rs_as (fl_mixed2 (C := []) (A := ([(b1, .cells #[.int .i64 (size), .int .i64 (start), .slice a n c] 24 (0, 0))] : Pcs)) 8 [[], [], [], [], [2, 3], [2, 3, 4], [1, 2, 3, 4, 5], [1, 2, 3, 4, 5], [], []] [8, 9] [8, 9, 6, 7] [0, 1, 2, 3, 4, 5] (fun i_ => match i_ with | 8 => X | 9 => Z | _ => []) (fun _ => []) (fun i_ => match i_ with | 0 => [] | 1 => [] | 2 => [] | 3 => [] | 4 => [2, 3] | 5 => [4] | 6 => [1, 5] | 7 => [6] | _ => []) (fun i_ val_ pc_ v_ x_ => match i_ with | 0 => v_ = w ∧ x_ = [] | 1 => v_ = .agg #[.int .i64 (size), .int .i64 (start), .slice a n c] ∧ x_ = [] | 2 => v_ = .slice a16 ((wea ds).length) cp17 ∧ x_ = [] | 3 => v_ = .int .i64 (((k : Nat) : Int)) ∧ x_ = [] | 4 => v_ = .pointer (some ((adr a16).add (k * 1))) ∧ x_ = [] | 5 => v_ = .slice (A13 k) n (C14 k) ∧ x_ = [] | 6 => ∃ w34 : Value, ∃ w35 : Value, ∃ w36 : Value, ∃ X37 : Pcs, ∃ X38 : Pcs, ∃ X39 : Pcs, v_ = .agg #[w34, w35, w36] ∧ (OwnS 3 1 w34 (ns (levs size start (wantOf ds) (listOf ((wea ds).getD k []))) n) X37) ∧ (OwnS 3 1 w35 (ns (lack size start (wantOf ds) (listOf ((wea ds).getD k []))) n) X38) ∧ (OwnS 3 1 w36 (ns (ovr size start (wantOf ds) (listOf ((wea ds).getD k []))) n) X39) ∧ x_ = (X37 ++ (X38 ++ (X39 ++ []))) | 7 => OwnS 30 3 v_ [[(Gw34 (val_ 6) (pc_ 6)), (Gw35 (val_ 6) (pc_ 6)), (Gw36 (val_ 6) (pc_ 6))]] x_ | _ => True) (fun val32 => [.agg #[.int .i64 (size), .int .i64 (start), .slice a n c], .pointer (some ⟨b1, 0, none⟩), .slice none 0 0, .slice a16 ((wea ds).length) cp17, w, .int .i64 (((k : Nat) : Int)), .agg #[.int .i64 (size), .int .i64 (start), .slice a n c], .slice a16 ((wea ds).length) cp17, .int .i64 (((k : Nat) : Int)), .slice a16 ((wea ds).length) cp17, .int .i64 ((((wea ds).length : Nat) : Int)), .bool (decide (((k : Nat) : Int) < (((wea ds).length : Nat) : Int))), (y20 12), (y20 13), (val32 0), (val32 1), (val32 2), (val32 3), (val32 4), (val32 5), (val32 6), (val32 7), (y20 22), undef]) mixed (by kernel_rfl) (Nat.le_of_ble_eq_true rfl) (by kernel_rfl) (by kernel_rfl) (by kernel_rfl) (fun _ _ => ⟨fun _ _ h => h.2, ⟨fun _ _ h => h.2, ⟨fun _ _ h => h.2, ⟨fun _ _ h => h.2, ⟨fun _ _ h => h.2, ⟨fun _ _ h => h.2, trivial⟩⟩⟩⟩⟩⟩) (fun _ => by kernel_rfl) (by kernel_rfl) ?_ ?_) (fun h_ H_ => St.swap (A := ([(b1, .cells #[.int .i64 (size), .int .i64 (start), .slice a n c] 24 (0, 0))] : Pcs)) (U := (X ++ (Z ++ []))) H_)
    · refine mixes_cons rfl (opmix2 ?_) ?_
      · intro val32 pc33 hQ_ hX_
        have hq_ : ∀ v_ x_, (v_ = w ∧ x_ = []) → Qr (fun i_ => match i_ with | 0 => [] | 1 => [] | 2 => [] | 3 => [] | 4 => [2, 3] | 5 => [4] | 6 => [1, 5] | 7 => [6] | _ => []) (fun i_ val_ pc_ v_ x_ => match i_ with | 0 => v_ = w ∧ x_ = [] | 1 => v_ = .agg #[.int .i64 (size), .int .i64 (start), .slice a n c] ∧ x_ = [] | 2 => v_ = .slice a16 ((wea ds).length) cp17 ∧ x_ = [] | 3 => v_ = .int .i64 (((k : Nat) : Int)) ∧ x_ = [] | 4 => v_ = .pointer (some ((adr a16).add (k * 1))) ∧ x_ = [] | 5 => v_ = .slice (A13 k) n (C14 k) ∧ x_ = [] | 6 => ∃ w34 : Value, ∃ w35 : Value, ∃ w36 : Value, ∃ X37 : Pcs, ∃ X38 : Pcs, ∃ X39 : Pcs, v_ = .agg #[w34, w35, w36] ∧ (OwnS 3 1 w34 (ns (levs size start (wantOf ds) (listOf ((wea ds).getD k []))) n) X37) ∧ (OwnS 3 1 w35 (ns (lack size start (wantOf ds) (listOf ((wea ds).getD k []))) n) X38) ∧ (OwnS 3 1 w36 (ns (ovr size start (wantOf ds) (listOf ((wea ds).getD k []))) n) X39) ∧ x_ = (X37 ++ (X38 ++ (X39 ++ []))) | 7 => OwnS 30 3 v_ [[(Gw34 (val_ 6) (pc_ 6)), (Gw35 (val_ 6) (pc_ 6)), (Gw36 (val_ 6) (pc_ 6))]] x_ | _ => True) val32 pc33 0 v_ x_ := fun _ _ q_ => q_
        refine ⟨[.agg #[.int .i64 (size), .int .i64 (start), .slice a n c], .pointer (some ⟨b1, 0, none⟩), .slice none 0 0, .slice a16 ((wea ds).length) cp17, w, .int .i64 (((k : Nat) : Int)), .agg #[.int .i64 (size), .int .i64 (start), .slice a n c], .slice a16 ((wea ds).length) cp17, .int .i64 (((k : Nat) : Int)), .slice a16 ((wea ds).length) cp17, .int .i64 ((((wea ds).length : Nat) : Int)), .bool (decide (((k : Nat) : Int) < (((wea ds).length : Nat) : Int))), (y20 12), (y20 13), (val32 0), (val32 1), (val32 2), (val32 3), (val32 4), (val32 5), (val32 6), (val32 7), (y20 22), undef], [], _, rfl, rfl, hq_, ?_⟩
        exact mix_det (met_none rfl) (fun _ h_ H_ => exd_move (v := w) rfl) ⟨rfl, rfl⟩
      refine mixes_cons rfl (opmix2 ?_) ?_
      · intro val32 pc33 hQ_ hX_
        have hq_ : ∀ v_ x_, (v_ = .agg #[.int .i64 (size), .int .i64 (start), .slice a n c] ∧ x_ = []) → Qr (fun i_ => match i_ with | 0 => [] | 1 => [] | 2 => [] | 3 => [] | 4 => [2, 3] | 5 => [4] | 6 => [1, 5] | 7 => [6] | _ => []) (fun i_ val_ pc_ v_ x_ => match i_ with | 0 => v_ = w ∧ x_ = [] | 1 => v_ = .agg #[.int .i64 (size), .int .i64 (start), .slice a n c] ∧ x_ = [] | 2 => v_ = .slice a16 ((wea ds).length) cp17 ∧ x_ = [] | 3 => v_ = .int .i64 (((k : Nat) : Int)) ∧ x_ = [] | 4 => v_ = .pointer (some ((adr a16).add (k * 1))) ∧ x_ = [] | 5 => v_ = .slice (A13 k) n (C14 k) ∧ x_ = [] | 6 => ∃ w34 : Value, ∃ w35 : Value, ∃ w36 : Value, ∃ X37 : Pcs, ∃ X38 : Pcs, ∃ X39 : Pcs, v_ = .agg #[w34, w35, w36] ∧ (OwnS 3 1 w34 (ns (levs size start (wantOf ds) (listOf ((wea ds).getD k []))) n) X37) ∧ (OwnS 3 1 w35 (ns (lack size start (wantOf ds) (listOf ((wea ds).getD k []))) n) X38) ∧ (OwnS 3 1 w36 (ns (ovr size start (wantOf ds) (listOf ((wea ds).getD k []))) n) X39) ∧ x_ = (X37 ++ (X38 ++ (X39 ++ []))) | 7 => OwnS 30 3 v_ [[(Gw34 (val_ 6) (pc_ 6)), (Gw35 (val_ 6) (pc_ 6)), (Gw36 (val_ 6) (pc_ 6))]] x_ | _ => True) val32 pc33 1 v_ x_ := fun _ _ q_ => q_
        refine ⟨[.agg #[.int .i64 (size), .int .i64 (start), .slice a n c], .pointer (some ⟨b1, 0, none⟩), .slice none 0 0, .slice a16 ((wea ds).length) cp17, w, .int .i64 (((k : Nat) : Int)), .agg #[.int .i64 (size), .int .i64 (start), .slice a n c], .slice a16 ((wea ds).length) cp17, .int .i64 (((k : Nat) : Int)), .slice a16 ((wea ds).length) cp17, .int .i64 ((((wea ds).length : Nat) : Int)), .bool (decide (((k : Nat) : Int) < (((wea ds).length : Nat) : Int))), (y20 12), (y20 13), (val32 0), (val32 1), (val32 2), (val32 3), (val32 4), (val32 5), (val32 6), (val32 7), (y20 22), undef], [], _, rfl, rfl, hq_, ?_⟩
        exact mix_det (met_none rfl) (fun _ h_ H_ => exd_loadN_own H_ tA24 tS24 rfl (i := 0) rfl (vs := [.int .i64 (size), .int .i64 (start), .slice a n c]) rfl rfl) ⟨rfl, rfl⟩
      refine mixes_cons rfl (opmix2 ?_) ?_
      · intro val32 pc33 hQ_ hX_
        have hq_ : ∀ v_ x_, (v_ = .slice a16 ((wea ds).length) cp17 ∧ x_ = []) → Qr (fun i_ => match i_ with | 0 => [] | 1 => [] | 2 => [] | 3 => [] | 4 => [2, 3] | 5 => [4] | 6 => [1, 5] | 7 => [6] | _ => []) (fun i_ val_ pc_ v_ x_ => match i_ with | 0 => v_ = w ∧ x_ = [] | 1 => v_ = .agg #[.int .i64 (size), .int .i64 (start), .slice a n c] ∧ x_ = [] | 2 => v_ = .slice a16 ((wea ds).length) cp17 ∧ x_ = [] | 3 => v_ = .int .i64 (((k : Nat) : Int)) ∧ x_ = [] | 4 => v_ = .pointer (some ((adr a16).add (k * 1))) ∧ x_ = [] | 5 => v_ = .slice (A13 k) n (C14 k) ∧ x_ = [] | 6 => ∃ w34 : Value, ∃ w35 : Value, ∃ w36 : Value, ∃ X37 : Pcs, ∃ X38 : Pcs, ∃ X39 : Pcs, v_ = .agg #[w34, w35, w36] ∧ (OwnS 3 1 w34 (ns (levs size start (wantOf ds) (listOf ((wea ds).getD k []))) n) X37) ∧ (OwnS 3 1 w35 (ns (lack size start (wantOf ds) (listOf ((wea ds).getD k []))) n) X38) ∧ (OwnS 3 1 w36 (ns (ovr size start (wantOf ds) (listOf ((wea ds).getD k []))) n) X39) ∧ x_ = (X37 ++ (X38 ++ (X39 ++ []))) | 7 => OwnS 30 3 v_ [[(Gw34 (val_ 6) (pc_ 6)), (Gw35 (val_ 6) (pc_ 6)), (Gw36 (val_ 6) (pc_ 6))]] x_ | _ => True) val32 pc33 2 v_ x_ := fun _ _ q_ => q_
        refine ⟨[.agg #[.int .i64 (size), .int .i64 (start), .slice a n c], .pointer (some ⟨b1, 0, none⟩), .slice none 0 0, .slice a16 ((wea ds).length) cp17, w, .int .i64 (((k : Nat) : Int)), .agg #[.int .i64 (size), .int .i64 (start), .slice a n c], .slice a16 ((wea ds).length) cp17, .int .i64 (((k : Nat) : Int)), .slice a16 ((wea ds).length) cp17, .int .i64 ((((wea ds).length : Nat) : Int)), .bool (decide (((k : Nat) : Int) < (((wea ds).length : Nat) : Int))), (y20 12), (y20 13), (val32 0), (val32 1), (val32 2), (val32 3), (val32 4), (val32 5), (val32 6), (val32 7), (y20 22), undef], [], _, rfl, rfl, hq_, ?_⟩
        exact mix_det (met_none rfl) (fun _ h_ H_ => exd_move (v := .slice a16 ((wea ds).length) cp17) rfl) ⟨rfl, rfl⟩
      refine mixes_cons rfl (opmix2 ?_) ?_
      · intro val32 pc33 hQ_ hX_
        have hq_ : ∀ v_ x_, (v_ = .int .i64 (((k : Nat) : Int)) ∧ x_ = []) → Qr (fun i_ => match i_ with | 0 => [] | 1 => [] | 2 => [] | 3 => [] | 4 => [2, 3] | 5 => [4] | 6 => [1, 5] | 7 => [6] | _ => []) (fun i_ val_ pc_ v_ x_ => match i_ with | 0 => v_ = w ∧ x_ = [] | 1 => v_ = .agg #[.int .i64 (size), .int .i64 (start), .slice a n c] ∧ x_ = [] | 2 => v_ = .slice a16 ((wea ds).length) cp17 ∧ x_ = [] | 3 => v_ = .int .i64 (((k : Nat) : Int)) ∧ x_ = [] | 4 => v_ = .pointer (some ((adr a16).add (k * 1))) ∧ x_ = [] | 5 => v_ = .slice (A13 k) n (C14 k) ∧ x_ = [] | 6 => ∃ w34 : Value, ∃ w35 : Value, ∃ w36 : Value, ∃ X37 : Pcs, ∃ X38 : Pcs, ∃ X39 : Pcs, v_ = .agg #[w34, w35, w36] ∧ (OwnS 3 1 w34 (ns (levs size start (wantOf ds) (listOf ((wea ds).getD k []))) n) X37) ∧ (OwnS 3 1 w35 (ns (lack size start (wantOf ds) (listOf ((wea ds).getD k []))) n) X38) ∧ (OwnS 3 1 w36 (ns (ovr size start (wantOf ds) (listOf ((wea ds).getD k []))) n) X39) ∧ x_ = (X37 ++ (X38 ++ (X39 ++ []))) | 7 => OwnS 30 3 v_ [[(Gw34 (val_ 6) (pc_ 6)), (Gw35 (val_ 6) (pc_ 6)), (Gw36 (val_ 6) (pc_ 6))]] x_ | _ => True) val32 pc33 3 v_ x_ := fun _ _ q_ => q_
        refine ⟨[.agg #[.int .i64 (size), .int .i64 (start), .slice a n c], .pointer (some ⟨b1, 0, none⟩), .slice none 0 0, .slice a16 ((wea ds).length) cp17, w, .int .i64 (((k : Nat) : Int)), .agg #[.int .i64 (size), .int .i64 (start), .slice a n c], .slice a16 ((wea ds).length) cp17, .int .i64 (((k : Nat) : Int)), .slice a16 ((wea ds).length) cp17, .int .i64 ((((wea ds).length : Nat) : Int)), .bool (decide (((k : Nat) : Int) < (((wea ds).length : Nat) : Int))), (y20 12), (y20 13), (val32 0), (val32 1), (val32 2), (val32 3), (val32 4), (val32 5), (val32 6), (val32 7), (y20 22), undef], [], _, rfl, rfl, hq_, ?_⟩
        exact mix_det (met_none rfl) (fun _ h_ H_ => exd_move (v := .int .i64 (((k : Nat) : Int))) rfl) ⟨rfl, rfl⟩
      refine mixes_cons rfl (opmix2 ?_) ?_
      · intro val32 pc33 hQ_ hX_
        have e2_ : val32 2 = .slice a16 ((wea ds).length) cp17 := (hQ_ 2 rfl).1
        have e3_ : val32 3 = .int .i64 (((k : Nat) : Int)) := (hQ_ 3 rfl).1
        have hq_ : ∀ v_ x_, (v_ = .pointer (some ((adr a16).add (k * 1))) ∧ x_ = []) → Qr (fun i_ => match i_ with | 0 => [] | 1 => [] | 2 => [] | 3 => [] | 4 => [2, 3] | 5 => [4] | 6 => [1, 5] | 7 => [6] | _ => []) (fun i_ val_ pc_ v_ x_ => match i_ with | 0 => v_ = w ∧ x_ = [] | 1 => v_ = .agg #[.int .i64 (size), .int .i64 (start), .slice a n c] ∧ x_ = [] | 2 => v_ = .slice a16 ((wea ds).length) cp17 ∧ x_ = [] | 3 => v_ = .int .i64 (((k : Nat) : Int)) ∧ x_ = [] | 4 => v_ = .pointer (some ((adr a16).add (k * 1))) ∧ x_ = [] | 5 => v_ = .slice (A13 k) n (C14 k) ∧ x_ = [] | 6 => ∃ w34 : Value, ∃ w35 : Value, ∃ w36 : Value, ∃ X37 : Pcs, ∃ X38 : Pcs, ∃ X39 : Pcs, v_ = .agg #[w34, w35, w36] ∧ (OwnS 3 1 w34 (ns (levs size start (wantOf ds) (listOf ((wea ds).getD k []))) n) X37) ∧ (OwnS 3 1 w35 (ns (lack size start (wantOf ds) (listOf ((wea ds).getD k []))) n) X38) ∧ (OwnS 3 1 w36 (ns (ovr size start (wantOf ds) (listOf ((wea ds).getD k []))) n) X39) ∧ x_ = (X37 ++ (X38 ++ (X39 ++ []))) | 7 => OwnS 30 3 v_ [[(Gw34 (val_ 6) (pc_ 6)), (Gw35 (val_ 6) (pc_ 6)), (Gw36 (val_ 6) (pc_ 6))]] x_ | _ => True) val32 pc33 4 v_ x_ := fun _ _ q_ => q_
        refine ⟨[.agg #[.int .i64 (size), .int .i64 (start), .slice a n c], .pointer (some ⟨b1, 0, none⟩), .slice none 0 0, .slice a16 ((wea ds).length) cp17, w, .int .i64 (((k : Nat) : Int)), .agg #[.int .i64 (size), .int .i64 (start), .slice a n c], .slice a16 ((wea ds).length) cp17, .int .i64 (((k : Nat) : Int)), .slice a16 ((wea ds).length) cp17, .int .i64 ((((wea ds).length : Nat) : Int)), .bool (decide (((k : Nat) : Int) < (((wea ds).length : Nat) : Int))), (y20 12), (y20 13), (val32 0), (val32 1), .slice a16 ((wea ds).length) cp17, .int .i64 (((k : Nat) : Int)), (val32 4), (val32 5), (val32 6), (val32 7), (y20 22), undef], [], _, (by simp only [e2_, e3_]), rfl, hq_, ?_⟩
        exact mix_det (met_none rfl) (fun _ h_ H_ => exd_indexAddrN (i := k) Try.underlying108 tS25 (sl_ne a16 ((wea ds).length) cp17 (T12.ne (by omega))) rfl (by omega)) ⟨rfl, rfl⟩
      refine mixes_cons rfl (opmix2 ?_) ?_
      · intro val32 pc33 hQ_ hX_
        have e4_ : val32 4 = .pointer (some ((adr a16).add (k * 1))) := (hQ_ 4 rfl).1
        have hq_ : ∀ v_ x_, (v_ = .slice (A13 k) n (C14 k) ∧ x_ = []) → Qr (fun i_ => match i_ with | 0 => [] | 1 => [] | 2 => [] | 3 => [] | 4 => [2, 3] | 5 => [4] | 6 => [1, 5] | 7 => [6] | _ => []) (fun i_ val_ pc_ v_ x_ => match i_ with | 0 => v_ = w ∧ x_ = [] | 1 => v_ = .agg #[.int .i64 (size), .int .i64 (start), .slice a n c] ∧ x_ = [] | 2 => v_ = .slice a16 ((wea ds).length) cp17 ∧ x_ = [] | 3 => v_ = .int .i64 (((k : Nat) : Int)) ∧ x_ = [] | 4 => v_ = .pointer (some ((adr a16).add (k * 1))) ∧ x_ = [] | 5 => v_ = .slice (A13 k) n (C14 k) ∧ x_ = [] | 6 => ∃ w34 : Value, ∃ w35 : Value, ∃ w36 : Value, ∃ X37 : Pcs, ∃ X38 : Pcs, ∃ X39 : Pcs, v_ = .agg #[w34, w35, w36] ∧ (OwnS 3 1 w34 (ns (levs size start (wantOf ds) (listOf ((wea ds).getD k []))) n) X37) ∧ (OwnS 3 1 w35 (ns (lack size start (wantOf ds) (listOf ((wea ds).getD k []))) n) X38) ∧ (OwnS 3 1 w36 (ns (ovr size start (wantOf ds) (listOf ((wea ds).getD k []))) n) X39) ∧ x_ = (X37 ++ (X38 ++ (X39 ++ []))) | 7 => OwnS 30 3 v_ [[(Gw34 (val_ 6) (pc_ 6)), (Gw35 (val_ 6) (pc_ 6)), (Gw36 (val_ 6) (pc_ 6))]] x_ | _ => True) val32 pc33 5 v_ x_ := fun _ _ q_ => q_
        refine ⟨[.agg #[.int .i64 (size), .int .i64 (start), .slice a n c], .pointer (some ⟨b1, 0, none⟩), .slice none 0 0, .slice a16 ((wea ds).length) cp17, w, .int .i64 (((k : Nat) : Int)), .agg #[.int .i64 (size), .int .i64 (start), .slice a n c], .slice a16 ((wea ds).length) cp17, .int .i64 (((k : Nat) : Int)), .slice a16 ((wea ds).length) cp17, .int .i64 ((((wea ds).length : Nat) : Int)), .bool (decide (((k : Nat) : Int) < (((wea ds).length : Nat) : Int))), (y20 12), (y20 13), (val32 0), (val32 1), (val32 2), (val32 3), .pointer (some ((adr a16).add (k * 1))), (val32 5), (val32 6), (val32 7), (y20 22), undef], [], _, (by simp only [e4_]), rfl, hq_, ?_⟩
        exact mix_det (met_none rfl) (fun _ h_ H_ => exd_load_per H_ tA25 rfl (v := .slice (A13 k) n (C14 k)) (T12.cell _ (by omega))) ⟨rfl, rfl⟩
      refine mixes_cons rfl (opmix2 ?_) ?_
      · intro val32 pc33 hQ_ hX_
        have e1_ : val32 1 = .agg #[.int .i64 (size), .int .i64 (start), .slice a n c] := (hQ_ 1 rfl).1
        have e5_ : val32 5 = .slice (A13 k) n (C14 k) := (hQ_ 5 rfl).1
        have hq_ : ∀ v_ x_, (∃ w34 : Value, ∃ w35 : Value, ∃ w36 : Value, ∃ X37 : Pcs, ∃ X38 : Pcs, ∃ X39 : Pcs, v_ = .agg #[w34, w35, w36] ∧ (OwnS 3 1 w34 (ns (levs size start (wantOf ds) (listOf ((wea ds).getD k []))) n) X37) ∧ (OwnS 3 1 w35 (ns (lack size start (wantOf ds) (listOf ((wea ds).getD k []))) n) X38) ∧ (OwnS 3 1 w36 (ns (ovr size start (wantOf ds) (listOf ((wea ds).getD k []))) n) X39) ∧ x_ = (X37 ++ (X38 ++ (X39 ++ [])))) → Qr (fun i_ => match i_ with | 0 => [] | 1 => [] | 2 => [] | 3 => [] | 4 => [2, 3] | 5 => [4] | 6 => [1, 5] | 7 => [6] | _ => []) (fun i_ val_ pc_ v_ x_ => match i_ with | 0 => v_ = w ∧ x_ = [] | 1 => v_ = .agg #[.int .i64 (size), .int .i64 (start), .slice a n c] ∧ x_ = [] | 2 => v_ = .slice a16 ((wea ds).length) cp17 ∧ x_ = [] | 3 => v_ = .int .i64 (((k : Nat) : Int)) ∧ x_ = [] | 4 => v_ = .pointer (some ((adr a16).add (k * 1))) ∧ x_ = [] | 5 => v_ = .slice (A13 k) n (C14 k) ∧ x_ = [] | 6 => ∃ w34 : Value, ∃ w35 : Value, ∃ w36 : Value, ∃ X37 : Pcs, ∃ X38 : Pcs, ∃ X39 : Pcs, v_ = .agg #[w34, w35, w36] ∧ (OwnS 3 1 w34 (ns (levs size start (wantOf ds) (listOf ((wea ds).getD k []))) n) X37) ∧ (OwnS 3 1 w35 (ns (lack size start (wantOf ds) (listOf ((wea ds).getD k []))) n) X38) ∧ (OwnS 3 1 w36 (ns (ovr size start (wantOf ds) (listOf ((wea ds).getD k []))) n) X39) ∧ x_ = (X37 ++ (X38 ++ (X39 ++ []))) | 7 => OwnS 30 3 v_ [[(Gw34 (val_ 6) (pc_ 6)), (Gw35 (val_ 6) (pc_ 6)), (Gw36 (val_ 6) (pc_ 6))]] x_ | _ => True) val32 pc33 6 v_ x_ := fun _ _ q_ => q_
        refine ⟨[.agg #[.int .i64 (size), .int .i64 (start), .slice a n c], .pointer (some ⟨b1, 0, none⟩), .slice none 0 0, .slice a16 ((wea ds).length) cp17, w, .int .i64 (((k : Nat) : Int)), .agg #[.int .i64 (size), .int .i64 (start), .slice a n c], .slice a16 ((wea ds).length) cp17, .int .i64 (((k : Nat) : Int)), .slice a16 ((wea ds).length) cp17, .int .i64 ((((wea ds).length : Nat) : Int)), .bool (decide (((k : Nat) : Int) < (((wea ds).length : Nat) : Int))), (y20 12), (y20 13), (val32 0), .agg #[.int .i64 (size), .int .i64 (start), .slice a n c], (val32 2), (val32 3), (val32 4), .slice (A13 k) n (C14 k), (val32 6), (val32 7), (y20 22), undef], [], _, (by simp only [e1_, e5_]), rfl, hq_, ?_⟩
        exact mix_call (met_none rfl) (first := []) (cap := []) rfl rfl fC75 (fun _ h_ H_ => (c75 md _ _ (fun b_ o_ e_ => H_.per b_ o_ e_) (size) (start) _ _ _ _ ((D.mono le10).mono le18) (by omega) _ _ _ _ (T12.ints _ (by omega)) hL (wea_weather hd (by omega))).mono fun v_ h2_ ⟨w34, w35, w36, X37, X38, X39, e_, o40, o41, o42, N_⟩ => ⟨_, ⟨w34, w35, w36, X37, X38, X39, e_, o40, o41, o42, rfl⟩, H_.callN N_⟩)
      refine mixes_cons rfl (opmix2 ?_) ?_
      · intro val32 pc33 hQ_ hX_
        obtain ⟨e6_, o40, o41, o42, x6_⟩ := hG6_ _ _ (hQ_ 6 rfl)
        have hq_ : ∀ v_ x_, (OwnS 30 3 v_ [[(Gw34 (val32 6) (pc33 6)), (Gw35 (val32 6) (pc33 6)), (Gw36 (val32 6) (pc33 6))]] x_) → Qr (fun i_ => match i_ with | 0 => [] | 1 => [] | 2 => [] | 3 => [] | 4 => [2, 3] | 5 => [4] | 6 => [1, 5] | 7 => [6] | _ => []) (fun i_ val_ pc_ v_ x_ => match i_ with | 0 => v_ = w ∧ x_ = [] | 1 => v_ = .agg #[.int .i64 (size), .int .i64 (start), .slice a n c] ∧ x_ = [] | 2 => v_ = .slice a16 ((wea ds).length) cp17 ∧ x_ = [] | 3 => v_ = .int .i64 (((k : Nat) : Int)) ∧ x_ = [] | 4 => v_ = .pointer (some ((adr a16).add (k * 1))) ∧ x_ = [] | 5 => v_ = .slice (A13 k) n (C14 k) ∧ x_ = [] | 6 => ∃ w34 : Value, ∃ w35 : Value, ∃ w36 : Value, ∃ X37 : Pcs, ∃ X38 : Pcs, ∃ X39 : Pcs, v_ = .agg #[w34, w35, w36] ∧ (OwnS 3 1 w34 (ns (levs size start (wantOf ds) (listOf ((wea ds).getD k []))) n) X37) ∧ (OwnS 3 1 w35 (ns (lack size start (wantOf ds) (listOf ((wea ds).getD k []))) n) X38) ∧ (OwnS 3 1 w36 (ns (ovr size start (wantOf ds) (listOf ((wea ds).getD k []))) n) X39) ∧ x_ = (X37 ++ (X38 ++ (X39 ++ []))) | 7 => OwnS 30 3 v_ [[(Gw34 (val_ 6) (pc_ 6)), (Gw35 (val_ 6) (pc_ 6)), (Gw36 (val_ 6) (pc_ 6))]] x_ | _ => True) val32 pc33 7 v_ x_ := fun _ _ q_ => q_
        generalize Gw34 (val32 6) (pc33 6) = w34 at *
        generalize Gw35 (val32 6) (pc33 6) = w35 at *
        generalize Gw36 (val32 6) (pc33 6) = w36 at *
        generalize GX37 (val32 6) (pc33 6) = X37 at *
        generalize GX38 (val32 6) (pc33 6) = X38 at *
        generalize GX39 (val32 6) (pc33 6) = X39 at *
        refine ⟨[.agg #[.int .i64 (size), .int .i64 (start), .slice a n c], .pointer (some ⟨b1, 0, none⟩), .slice none 0 0, .slice a16 ((wea ds).length) cp17, w, .int .i64 (((k : Nat) : Int)), .agg #[.int .i64 (size), .int .i64 (start), .slice a n c], .slice a16 ((wea ds).length) cp17, .int .i64 (((k : Nat) : Int)), .slice a16 ((wea ds).length) cp17, .int .i64 ((((wea ds).length : Nat) : Int)), .bool (decide (((k : Nat) : Int) < (((wea ds).length : Nat) : Int))), (y20 12), (y20 13), (val32 0), (val32 1), (val32 2), (val32 3), (val32 4), (val32 5), .agg #[w34, w35, w36], (val32 7), (y20 22), undef], [], _, (by simp only [e6_]), rfl, hq_, ?_⟩
        exact mix_buildO (met_none rfl) Try.underlying81 tS30 tZ30 (Nat.le_of_ble_eq_true rfl) (vs := [(0, .agg #[w34, w35, w36])]) rfl rfl (es := [[w34, w35, w36]]) rfl rfl rfl fun _ _ o_ => o_
      exact mixes_nil rfl
    intro val32 pc33 hQ_ hX_
    have e0_ : val32 0 = w := (hQ_ 0 (by decide)).1
    have e1_ : val32 1 = .agg #[.int .i64 (size), .int .i64 (start), .slice a n c] := (hQ_ 1 (by decide)).1
    have e2_ : val32 2 = .slice a16 ((wea ds).length) cp17 := (hQ_ 2 (by decide)).1
    have e3_ : val32 3 = .int .i64 (((k : Nat) : Int)) := (hQ_ 3 (by decide)).1
    have e4_ : val32 4 = .pointer (some ((adr a16).add (k * 1))) := (hQ_ 4 (by decide)).1
    have e5_ : val32 5 = .slice (A13 k) n (C14 k) := (hQ_ 5 (by decide)).1
    obtain ⟨e6_, o40, o41, o42, x6_⟩ := hG6_ _ _ (hQ_ 6 (by decide))
    have q7_ : OwnS 30 3 (val32 7) [[(Gw34 (val32 6) (pc33 6)), (Gw35 (val32 6) (pc33 6)), (Gw36 (val32 6) (pc33 6))]] (pc33 7) := hQ_ 7 (by decide)
    have x8_ : pc33 8 = X := hX_ 8 (by decide)
    have x9_ : pc33 9 = Z := hX_ 9 (by decide)
    clear hQ_ hX_
    generalize Gw34 (val32 6) (pc33 6) = w34 at *
    generalize Gw35 (val32 6) (pc33 6) = w35 at *
    generalize Gw36 (val32 6) (pc33 6) = w36 at *
    generalize GX37 (val32 6) (pc33 6) = X37 at *
    generalize GX38 (val32 6) (pc33 6) = X38 at *
    generalize GX39 (val32 6) (pc33 6) = X39 at *
    refine rl_as (Φ := fun h_ => St h [] p15 h_ (([(b1, .cells #[.int .i64 (size), .int .i64 (start), .slice a n c] 24 (0, 0))] : Pcs) ++ (pc33 8 ++ (pc33 9 ++ (pc33 6 ++ (pc33 7 ++ [])))))) ?_ (fun h_ H_ => H_.swap')
    rw [x8_, x9_, x6_]
    refine rl_own (L' := ([(b1, .cells #[.int .i64 (size), .int .i64 (start), .slice a n c] 24 (0, 0))] : Pcs) ++ (X ++ (Z ++ (X37 ++ (X38 ++ (X39 ++ ((pc33 7) ++ []))))))) (by simp) ?_
    refine rl_norm (tm' := [.agg #[.int .i64 (size), .int .i64 (start), .slice a n c], .pointer (some ⟨b1, 0, none⟩), .slice none 0 0, .slice a16 ((wea ds).length) cp17, w, .int .i64 (((k : Nat) : Int)), .agg #[.int .i64 (size), .int .i64 (start), .slice a n c], .slice a16 ((wea ds).length) cp17, .int .i64 (((k : Nat) : Int)), .slice a16 ((wea ds).length) cp17, .int .i64 ((((wea ds).length : Nat) : Int)), .bool (decide (((k : Nat) : Int) < (((wea ds).length : Nat) : Int))), (y20 12), (y20 13), w, .agg #[.int .i64 (size), .int .i64 (start), .slice a n c], .slice a16 ((wea ds).length) cp17, .int .i64 (((k : Nat) : Int)), .pointer (some ((adr a16).add (k * 1))), .slice (A13 k) n (C14 k), .agg #[w34, w35, w36], (val32 7), (y20 22), undef]) (by simp only [e0_, e1_, e2_, e3_, e4_, e5_, e6_]) ?_
    have o45 := q7_
    refine rl_perm (List.Perm.append_left _ (List.Perm.append_left _ (List.Perm.append_left _ (List.Perm.append_left _ (List.Perm.append_left _ (List.perm_append_comm_assoc _ _ _)))))) ?_
    refine rl_perm (List.Perm.append_left _ (List.Perm.append_left _ (List.Perm.append_left _ (List.Perm.append_left _ (List.perm_append_comm_assoc _ _ _))))) ?_
    refine rl_perm (List.Perm.append_left _ (List.Perm.append_left _ (List.Perm.append_left _ (List.perm_append_comm_assoc _ _ _)))) ?_
    refine rl_perm (List.Perm.append_left _ (List.Perm.append_left _ (List.perm_append_comm_assoc _ _ _))) ?_
    refine rl_own (L' := ([(b1, .cells #[.int .i64 (size), .int .i64 (start), .slice a n c] 24 (0, 0))] : Pcs) ++ (X ++ ((pc33 7) ++ (Z ++ (X37 ++ (X38 ++ (X39 ++ []))))))) rfl ?_
    refine rl_appendO ([(b1, .cells #[.int .i64 (size), .int .i64 (start), .slice a n c] 24 (0, 0))] : Pcs) X (pc33 7) (met_none rfl) Try.underlying81 tS30 tZ30 rfl tB30 Try.underlying81 rfl rfl o o45 (ones_of (ones_cons o40.one.2 (ones_cons o41.one.2 (ones_cons o42.one.2 rfl)))) (by simp only [List.length_cons, List.length_nil]; omega) (by decide) fun v46 X47 o48 => ?_
    refine rl_norm (tm' := [_,_,_,_,_,_,_,_,_,_,_,_,_,_,_,_,_,_,_,_,_,_,_,_]) rfl ?_
    refine rl_det (met_none rfl) (fun h_ H_ => exd_assign (v := v46) rfl) rfl ?_
    refine rl_end ?_
    refine fl_inBlock ?_
    refine rl_start ?_
    refine rl_det (met_none rfl) (fun h_ H_ => exd_move (v := .int .i64 (((k : Nat) : Int))) rfl) rfl ?_
    refine rl_det (met_none rfl) (fun h_ H_ => exd_add rfl rfl (n := ((k + 1 : Nat) : Int)) (wr (by omega))) (tm' := _::_::_::_::_::_::_::_::_::_::_::_::_::_::_) rfl ?_
    refine rl_det (met_none rfl) (fun h_ H_ => exd_assign (v := .int .i64 (((k + 1 : Nat) : Int))) rfl) rfl ?_
    refine rl_end ?_
    refine rs_own (L' := ([(b1, .cells #[.int .i64 (size), .int .i64 (start), .slice a n c] 24 (0, 0))] : Pcs) ++ (X47 ++ ((Z ++ (X37 ++ (X38 ++ X39))) ++ []))) (by simp) ?_
    exact fun h_ H_ => IH21 _ _ (by omega) h_ ⟨k + 1, v46, _, X47, (Z ++ (X37 ++ (X38 ++ X39))), rfl, (y_of rfl), ⟨(by omega), o48, (InnS.snoc hI.i o40 o41 o42 (nums_length _ _) (nums_length _ _) (nums_length _ _)), (by rw [List.length_append, el]; rfl)⟩, H_⟩
  · refine fl_else rfl (decide_eq_false cc22) ?_
    refine fl_exit rfl ?_
    refine fl_seq ?_
    refine rl_start ?_
    refine rl_det (met_none rfl) (fun h_ H_ => exd_move (v := w) rfl) rfl ?_
    refine rl_det (met_none rfl) (fun h_ H_ => exd_assign (v := w) rfl) (tm' := _::_::_::_) rfl ?_
    refine rl_end ?_
    refine fl_ret Try.func77 rfl (vs := [w]) (fun h_ H_ => ⟨w, _, rfl, rfl, rfl⟩) (v := w) rfl ?_
    obtain rfl : k = (wea ds).length := by omega
    exact fun h_ H_ => K _ _ ⟨_, _, _, o, hI.i, el, by simpa using H_.dropA.new⟩
end Go.Proofs.Ytbmkacnlhlbnjaa
namespace Go.X.Cist
open Go.X Go.Proofs.Ytbmkacnlhlbnjaa Go.Conc

section
variable {size start : Int} {ds : List Day} {n : Nat} {day : Int}
def gL (size start : Int) (ds : List Day) (n d i : Nat) : Int := (yFL size start ds n i).getD d 0
def gK (size start : Int) (ds : List Day) (n d i : Nat) : Int := (yFK size start ds n i).getD d 0
def gO (size start : Int) (ds : List Day) (n : Nat) (day : Int) (i : Nat) : Int := sumTo (listOf (yFO size start ds n i)) (min n (day + 1).toNat)

/-- The driest and the wettest weather. -/
def loList (ds : List Day) : List Int := nums (loOf ds) ds.length
def hiList (ds : List Day) : List Int := nums (hiOf ds) ds.length
theorem lo_weather (hd : Dok ds) : Weather ds (loList ds) := by
  refine ⟨nums_length _ _, fun i hi => ?_⟩
  rw [loList, nums_length] at hi
  have := (hd i hi).1
  rw [loList, nums_getD hi]
  exact ⟨Int.le_refl _, by unfold loOf; omega⟩
theorem lo_list {i : Nat} (h : i < ds.length) : listOf (loList ds) i = loOf ds i := nums_getD h
theorem wea_lo (hd : Dok ds) {i : Nat} (hi : i < (wea ds).length) : ∀ j, j < ds.length → loOf ds j ≤ listOf ((wea ds).getD i []) j := weather_lo (wea_weather hd hi)
theorem at_lo (hd : Dok ds) : ∃ i, i < (wea ds).length ∧ ∀ j, j < ds.length → listOf ((wea ds).getD i []) j = loOf ds j := by
  obtain ⟨i, hi, e⟩ := wea_at hd (lo_weather hd)
  exact ⟨i, hi, fun j hj => by rw [e]; exact lo_list hj⟩
/-! ### right -/
/-- The first day up to and with which so much has run over. -/
def whenX (xs : List Int) (n : Nat) (m : Int) : Int := match upTo (fun k => decide (m ≤ sumTo (listOf xs) (k + 1))) 0 n with | some k => ((k : Nat) : Int) | none => -1
def gR (size start : Int) (ds : List Day) (n : Nat) (m : Int) (i : Nat) : Int := whenX (yFO size start ds n i) n m
/-! ### dry, must -/
/-! ### what lasts -/
theorem fk_ok (hL : Lok size start ds) (hw : ∀ i, i < ds.length → (ds.getD i dz).want ≤ 100) (hl : ds.length = n) {i : Nat} (hi : i < (wea ds).length) (j : Nat) (hj : j < n) : 0 ≤ (yFK size start ds n i).getD j 0 ∧ (yFK size start ds n i).getD j 0 ≤ 100 := by
  subst hl
  have hd : Dok ds := fun i hi => by have := hL.2.2.2.2.2 i hi; omega
  have h1 := lok_day hL (wea_weather hd hi) (k := j) (by omega)
  have h2 := h1.2.2 hj
  unfold yFK
  rw [nums_getD hj]
  have := lack_le (want := wantOf ds) (rain := listOf ((wea ds).getD i [])) h1.2.1 h2.2.1 h2.1.1
  have h3 : wantOf ds j ≤ 100 := hw j hj
  omega
theorem sum_zero {f : Nat → Int} (h : ∀ i, 0 ≤ f i) : ∀ {k : Nat}, ¬ 0 < sumTo f k → ∀ i, i < k → f i = 0
  | 0, _, i, hi => absurd hi (by omega)
  | k + 1, hs, i, hi => by
    have hn : ∀ m, 0 ≤ sumTo f m := fun m => by
      induction m with
      | zero => exact Int.le_refl _
      | succ m ih => simp only [sumTo]; have := h m; omega
    simp only [sumTo] at hs
    have h1 := h k; have h2 := hn k
    by_cases e : i = k
    · subst e; omega
    · exact sum_zero h (k := k) (by omega) i (by omega)
theorem lack_nonneg (want rain : Nat → Int) (i : Nat) : 0 ≤ lack size start want rain i := by unfold lack; omega
def gS (size start : Int) (ds : List Day) (n i : Nat) : Int := sumTo (listOf (yFK size start ds n i)) (min n (((n : Nat) : Int) + 1).toNat)
theorem gS_eq {i : Nat} : gS size start ds n i = sumTo (lack size start (wantOf ds) (listOf ((wea ds).getD i []))) n := by
  unfold gS yFK
  rw [show min n (((n : Nat) : Int) + 1).toNat = n from by omega]
  exact sum_nums (Nat.le_refl _)
theorem lasts_no (hL : Lok size start ds) (hl : ds.length = n) {i : Nat} (hi : i < (wea ds).length) (h : 0 < gS size start ds n i) : ¬ Lasts size start ds := by
  subst hl
  have hd : Dok ds := fun i hi => by have := hL.2.2.2.2.2 i hi; omega
  intro hla
  have hz : sumTo (lack size start (wantOf ds) (listOf ((wea ds).getD i []))) ds.length = sumTo (fun _ => 0) ds.length := sumTo_congr fun j hj => by
    have h1 := hla j hj
    have e : min start size = start := by have := hL.2.2.2.1; omega
    rw [e] at h1
    have h2 := more_lack (size := size) (start := start) (want := wantOf ds) (wea_lo hd hi) j hj
    have h3 := lack_nonneg (size := size) (start := start) (wantOf ds) (listOf ((wea ds).getD i [])) j
    omega
  have : ∀ k, sumTo (fun _ => 0) k = 0 := fun k => by
    induction k with
    | zero => rfl
    | succ k ih => simp [sumTo, ih]
  rw [gS_eq, hz, this] at h
  omega
theorem lasts_yes (hL : Lok size start ds) (hl : ds.length = n) (h : ∀ i, i < (wea ds).length → ¬ 0 < gS size start ds n i) : Lasts size start ds := by
  subst hl
  have hd : Dok ds := fun i hi => by have := hL.2.2.2.2.2 i hi; omega
  obtain ⟨i, hi, e⟩ := at_lo hd
  intro j hj
  have h1 := h i hi
  rw [gS_eq] at h1
  have h2 := sum_zero (fun j => lack_nonneg (size := size) (start := start) (wantOf ds) (listOf ((wea ds).getD i [])) j) h1 j hj
  rw [lack_congr (fun _ _ => rfl) fun k hk => e k (by omega)] at h2
  have e : min start size = start := by have := hL.2.2.2.1; omega
  rw [e]; omega
theorem cnt_congr {ds' : List Day} : ∀ {k : Nat}, (∀ i, i < k → loOf ds' i = loOf ds i ∧ hiOf ds' i = hiOf ds i) → cnt ds' k = cnt ds k
  | 0, _ => rfl
  | k + 1, h => by simp only [cnt]; rw [cnt_congr fun i hi => h i (by omega), (h k (by omega)).1, (h k (by omega)).2]
theorem wea_wmap {wf : Nat → Int → Int} (hd : Dok ds) (hd' : Dok (wmap wf ds)) (hc : (wea ds).length ≤ 60) : (wea (wmap wf ds)).length ≤ 60 := by
  have h1 := wea_cnt hd
  have h2 := wea_cnt hd'
  rw [wmap_length, cnt_congr (ds := ds) (fun i hi => by unfold loOf hiOf; rw [wmap_getD hi]; exact ⟨rfl, rfl⟩)] at h2
  omega
theorem far_wea (hOk : Ok size start ds) (h : ¬ FarD size start ds) : (wea ds).length ≤ 60 := by
  have h1 := wea_cnt hOk.dok
  unfold FarD at h
  have : ¬ 60 < cnt ds ds.length := fun x => h (.inr ⟨hOk, x⟩)
  omega
theorem lok_sized (hOk : Ok size start ds) {z : Int} (h0 : 0 ≤ z) (h1 : z ≤ 60) : Lok z (min start z) ds := (sized_ok hOk h0 h1).lok
theorem dok_wanted {x : Int} (hOk : Ok size start ds) (h0 : 0 ≤ x) (h1 : x ≤ 61) : Dok (wanted day x ds) := dok_wmap hOk.dok fun i hi => by
  have := hOk.2.2.2.2.2 i hi
  unfold DayOk at this
  unfold moreF; split <;> omega
theorem want_wanted {x : Int} (hOk : Ok size start ds) (h0 : 0 ≤ x) (h1 : x ≤ 61) : ∀ i, i < (wanted day x ds).length → ((wanted day x ds).getD i dz).want ≤ 100 := fun i hi => by
  rw [wanted_length] at hi
  have := hOk.2.2.2.2.2 i hi
  unfold DayOk at this
  unfold wanted
  rw [wmap_getD hi]
  show moreF day x i _ ≤ 100
  unfold moreF; split <;> omega
theorem lok_wanted {x : Int} (hOk : Ok size start ds) (h0 : 0 ≤ x) (h1 : x ≤ 61) : Lok size start (wanted day x ds) := by
  refine ⟨hOk.1, hOk.2.1, hOk.2.2.1, hOk.2.2.2.1, by rw [wanted_length]; exact hOk.2.2.2.2.1, fun i hi => ?_⟩
  have h2 := want_wanted (day := day) hOk h0 h1 i hi
  have h3 := dok_wanted (day := day) hOk h0 h1 i hi
  omega
theorem lasts_min {z : Int} : Lasts z (min start z) ds ↔ Lasts z start ds := by unfold Lasts; rw [show min (min start z) z = min start z from by omega]
end
end Go.X.Cist
namespace Go.Proofs.Ytbmkacnlhlbnjaa
open Go.X Go.X.Cist Go.Conc
set_option maxRecDepth 10000

theorem c77w (md : Md) (h : Heap) (p : PHeap) (hp : Per p h) (size start : Int) (a : Option Addr) (n c : Nat) (ds : List Day) (D : Days p a n ds) (hn : n ≤ 8) (hL : Lok size start ds) (hc : (wea ds).length ≤ 60) : CallsX Try.prog md 77 #[.agg #[.int .i64 (size), .int .i64 (start), .slice a n c]] h fun v h' => ∃ w es X Z, v = w ∧ OwnS 30 3 w es X ∧ InnS p n (yFL size start ds n) (yFK size start ds n) (yFO size start ds n) es (wea ds).length Z ∧ es.length = (wea ds).length ∧ New h h' (X ++ (Z ++ [])) :=
  (c77 md h p hp size start a n c ds D hn hL hc).mono fun v _ ⟨es, X, Z, o, i, el, N⟩ => ⟨v, es, X, Z, rfl, o, i, el, N⟩
theorem c79 (md : Md) (h : Heap) (p : PHeap) (hp : Per p h) (size start : Int) (a : Option Addr) (n c : Nat) (ds : List Day) (D : Days p a n ds) (hn : n ≤ 8) (hL : Lok size start ds) (hc : (wea ds).length ≤ 60) (hw : ∀ i, i < ds.length → (ds.getD i dz).want ≤ 100) : CallsX Try.prog md 79 #[.agg #[.int .i64 (size), .int .i64 (start), .slice a n c]] h fun v h' => v = .bool (decide (Lasts size start ds)) ∧ Keep h h' := by
  refine calls_intro (Φ := fun h_ => St h [] p h_ []) Try.func79 rfl (tm := [_, _, _, _, _, _, _, _, _, _, _, _, _, _, _, _, _, _, _, _, _, _, _]) rfl ?_ (St.start h _ hp)
  intro c₀ cs Stop K
  have hl := D.len
  have hd : Dok ds := fun i hi => by have := hL.2.2.2.2.2 i hi; omega
  have hpos := wea_pos hd
  refine fl_seq ?_
  refine rl_start ?_
  refine rl_box (met_none rfl) (v := .agg #[.int .i64 (size), .int .i64 (start), .slice a n c]) rfl fun b1 => rl_own (L' := [(b1, .cells #[.int .i64 (size), .int .i64 (start), .slice a n c] 24 (0, 0))]) rfl ?_
  refine rl_det (met_none rfl) (fun h_ H_ => exd_assign (v := .bool (false)) rfl) rfl ?_
  refine rl_end ?_
  refine fl_seq ?_
  refine rl_start ?_
  refine rl_det (met_none rfl) (fun h_ H_ => exd_loadN_own H_ tA24 tS24 rfl (i := 0) rfl (vs := [.int .i64 (size), .int .i64 (start), .slice a n c]) rfl rfl) (tm' := _::_::_::_::_::_::_) rfl ?_
  refine rl_own (L' := ([(b1, .cells #[.int .i64 (size), .int .i64 (start), .slice a n c] 24 (0, 0))] : Pcs) ++ []) rfl ?_
  refine rl_call (met_none rfl) (first := []) (cap := []) rfl rfl fC77 (R := fun v_ h_ => ∃ w8 : Value, ∃ es2 : List (List Value), ∃ X3 : Pcs, ∃ Z4 : Pcs, v_ = w8 ∧ (OwnS 30 3 w8 es2 X3) ∧ (InnS p n (yFL size start ds n) (yFK size start ds n) (yFO size start ds n) es2 (wea ds).length Z4) ∧ (es2.length = (wea ds).length) ∧ St h [] p h_ (([(b1, .cells #[.int .i64 (size), .int .i64 (start), .slice a n c] 24 (0, 0))] : Pcs) ++ ((X3 ++ (Z4 ++ [])) ++ []))) (fun h_ H_ => (c77w md _ _ (fun b_ o_ e_ => H_.per b_ o_ e_) (size) (start) _ _ _ _ D (by omega) hL hc).mono fun v_ h2_ ⟨w8, es2, X3, Z4, e_, o5, i6, el7, N_⟩ => ⟨w8, es2, X3, Z4, e_, o5, i6, el7, H_.callNA N_⟩) fun v_ => ?_
  refine rl_ex fun w8 => rl_ex fun es2 => rl_ex fun X3 => rl_ex fun Z4 => rl_and fun ev_ => rl_and fun o5 => rl_and fun i6 => rl_and fun el7 => ?_
  have ev_ := ev_.symm; subst ev_
  refine rl_own (L' := ([(b1, .cells #[.int .i64 (size), .int .i64 (start), .slice a n c] 24 (0, 0))] : Pcs) ++ (X3 ++ (Z4 ++ []))) (by simp) ?_
  refine rl_det (met_none rfl) (fun h_ H_ => exd_assign (v := w8) rfl) rfl ?_
  refine rl_end ?_
  refine fl_seq ?_
  refine fl_seq ?_
  refine rs_perm (List.Perm.append_left _ (List.perm_append_comm_assoc _ _ _)) ?_
  refine rs_own (L' := ([(b1, .cells #[.int .i64 (size), .int .i64 (start), .slice a n c] 24 (0, 0))] : Pcs) ++ (Z4 ++ (X3 ++ []))) rfl ?_
  refine rs_lastX (A := ([(b1, .cells #[.int .i64 (size), .int .i64 (start), .slice a n c] 24 (0, 0))] : Pcs)) (Z := Z4) fun p9 le10 hz11 => ?_
  refine rs_lastN (A := ([(b1, .cells #[.int .i64 (size), .int .i64 (start), .slice a n c] 24 (0, 0))] : Pcs)) o5 el7 fun p19 a20 cp21 le22 ev_ D23 => ?_
  subst ev_
  refine rs_own (L' := [(b1, .cells #[.int .i64 (size), .int .i64 (start), .slice a n c] 24 (0, 0))]) rfl ?_
  obtain ⟨A13, C14, A15, C16, A17, C18, T12⟩ := (i6 _ (le10.trans le22) (fun x_ hx_ => le22 _ _ (hz11 x_ hx_))).tab D23
  refine rl_start ?_
  refine rl_det (met_none rfl) (fun h_ H_ => exd_assign (v := .int .i64 0) rfl) (tm' := _::_::_::_::_::_) rfl ?_
  refine rl_end ?_
  refine fl_block ?_
  refine fl_loop (m₀ := (wea ds).length - 0) (fun m_ tm_ h_ => ∃ (k : Nat), m_ = (wea ds).length - k ∧ (∃ y24 : Nat → Value, tm_ = [.agg #[.int .i64 (size), .int .i64 (start), .slice a n c], .pointer (some ⟨b1, 0, none⟩), (y24 2), .slice a20 ((wea ds).length) cp21, .int .i64 (((k : Nat) : Int)), .agg #[.int .i64 (size), .int .i64 (start), .slice a n c], .slice a20 ((wea ds).length) cp21, (y24 7), (y24 8), (y24 9), (y24 10), (y24 11), (y24 12), (y24 13), (y24 14), (y24 15), (y24 16), (y24 17), (y24 18), (y24 19), (y24 20), (y24 21), (y24 22)]) ∧ (k ≤ (wea ds).length) ∧ (∀ i, i < k → ¬ 0 < gS size start ds n i) ∧ St h [] p19 h_ ([(b1, .cells #[.int .i64 (size), .int .i64 (start), .slice a n c] 24 (0, 0))])) (fun h_ H_ => ⟨0, rfl, (y_of rfl), Nat.zero_le _, (fun i hi => absurd hi (Nat.not_lt_zero i)), H_⟩) ?_
  intro m_ tm_ IH25
  refine rs_ex fun k => rs_and fun hm_ => rs_and fun ht_ => rs_and fun hk => rs_and fun hs => ?_
  subst hm_; obtain ⟨y24, ht_⟩ := ht_; subst ht_
  refine fl_seq ?_
  refine fl_seq ?_
  refine rl_start ?_
  refine rl_det (met_none rfl) (fun h_ H_ => exd_move (v := .int .i64 (((k : Nat) : Int))) rfl) rfl ?_
  refine rl_det (met_none rfl) (fun h_ H_ => exd_move (v := .slice a20 ((wea ds).length) cp21) rfl) rfl ?_
  refine rl_det (met_none rfl) (fun h_ H_ => exd_len Try.underlying81 rfl) (tm' := _::_::_::_::_::_::_::_::_::_::_) rfl ?_
  refine rl_det (met_none rfl) (fun h_ H_ => exd_lss rfl rfl) rfl ?_
  refine rl_end ?_
  by_cases cc26 : ((k : Nat) : Int) < (((wea ds).length : Nat) : Int)
  · refine fl_then rfl (decide_eq_true cc26) ?_
    refine fl_skip ?_
    refine fl_seq ?_
    refine fl_block ?_
    refine fl_seq ?_
    refine fl_drawn2 8 [[], [], [0, 1], [0, 1, 2], [0, 1, 2, 3], [], [5], [5, 6], [0, 1, 2, 3, 4, 5, 6, 7], []] mixed (by kernel_rfl) (Nat.le_of_ble_eq_true rfl) ?_
    refine swr_det (met_none rfl) (fun h_ H_ => exd_move (v := .slice a20 ((wea ds).length) cp21) rfl) rfl ?_
    refine swr_det (met_none rfl) (fun h_ H_ => exd_move (v := .int .i64 (((k : Nat) : Int))) rfl) (tm' := _::_::_::_::_::_::_::_::_::_::_::_::_::_::_::_) rfl ?_
    refine swr_det (met_none rfl) (fun h_ H_ => exd_indexAddrN (i := k) Try.underlying81 tS30 (sl_ne a20 ((wea ds).length) cp21 (T12.ne (by omega))) rfl (by omega)) rfl ?_
    refine swr_det (met_none rfl) (fun h_ H_ => exd_fieldAddr tF30_1 rfl (a' := ((adr a20).add (k * 3)).add 1) rfl) (tm' := [_,_,_,_,_,_,_,_,_,_,_,_,_,_,_,_,_,_,_,_,_,_,_]) rfl ?_
    refine swr_det (met_none rfl) (fun h_ H_ => exd_load_per H_ tA25 rfl (v := .slice (A15 k) n (C16 k)) (T12.cell2 _ (by omega))) rfl ?_
    refine swr_det (met_none rfl) (fun h_ H_ => exd_fieldAddr tF24_2 rfl (a' := ⟨b1, 2, none⟩) rfl) (tm' := [_,_,_,_,_,_,_,_,_,_,_,_,_,_,_,_,_,_,_,_,_,_,_]) rfl ?_
    refine swr_det (met_none rfl) (fun h_ H_ => exd_load_own H_ tA22 rfl (i := 0) rfl (v := .slice a n c) rfl) rfl ?_
    refine swr_det (met_none rfl) (fun h_ H_ => exd_len Try.underlying22 rfl) (tm' := [_,_,_,_,_,_,_,_,_,_,_,_,_,_,_,_,_,_,_,_,_,_,_]) rfl ?_
    refine swr_nil rfl ?_
    refine rl_calld (met_none rfl) (first := []) (cap := []) rfl rfl fC20 (fun h_ H_ => c20 md _ _ (fun b_ o_ e_ => H_.per b_ o_ e_) _ _ _ _ (T12.ints2 _ (by omega)) (by omega) ((n : Nat) : Int) (fk_ok hL hw hl (by omega))) rfl ?_
    refine rl_det (met_none rfl) (fun h_ H_ => exd_gtr rfl rfl) rfl ?_
    refine rl_end ?_
    by_cases cc27 : 0 < sumTo (listOf (yFK size start ds n k)) (min n (((n : Nat) : Int) + 1).toNat)
    · refine fl_then rfl (decide_eq_true cc27) ?_
      refine fl_seq ?_
      refine rl_start ?_
      refine rl_det (met_none rfl) (fun h_ H_ => exd_assign (v := .bool (false)) rfl) (tm' := _::_::_::_) rfl ?_
      refine rl_end ?_
      refine fl_ret Try.func79 rfl (vs := [.bool (false)]) (fun h_ H_ => ⟨.bool (false), _, rfl, rfl, rfl⟩) (v := .bool (false)) rfl ?_
      exact fun h_ H_ => K _ _ ⟨by rw [decide_eq_false (lasts_no (n := n) hL hl (i := k) (by omega) (by assumption))], H_.kept⟩
    · refine fl_else rfl (decide_eq_false cc27) ?_
      refine fl_skip ?_
      refine fl_inBlock ?_
      refine rl_start ?_
      refine rl_det (met_none rfl) (fun h_ H_ => exd_move (v := .int .i64 (((k : Nat) : Int))) rfl) rfl ?_
      refine rl_det (met_none rfl) (fun h_ H_ => exd_add rfl rfl (n := ((k + 1 : Nat) : Int)) (wr (by omega))) rfl ?_
      refine rl_det (met_none rfl) (fun h_ H_ => exd_assign (v := .int .i64 (((k + 1 : Nat) : Int))) rfl) (tm' := _::_::_::_::_::_) rfl ?_
      refine rl_end ?_
      exact fun h_ H_ => IH25 _ _ (by omega) h_ ⟨k + 1, rfl, (y_of rfl), (by omega), (none_step hs (by assumption)), H_⟩
  · refine fl_else rfl (decide_eq_false cc26) ?_
    refine fl_exit rfl ?_
    refine fl_seq ?_
    refine rl_start ?_
    refine rl_det (met_none rfl) (fun h_ H_ => exd_assign (v := .bool (true)) rfl) rfl ?_
    refine rl_end ?_
    refine fl_ret Try.func79 rfl (vs := [.bool (true)]) (fun h_ H_ => ⟨.bool (true), _, rfl, rfl, rfl⟩) (v := .bool (true)) rfl ?_
    exact fun h_ H_ => K _ _ ⟨by rw [decide_eq_true (lasts_yes (n := n) hL hl fun i hi => hs i (by omega))], H_.kept⟩
end Go.Proofs.Ytbmkacnlhlbnjaa
namespace Go.Proofs.Ytbmkacnlhlbnjaa
open Go.X Go.X.Cist Go.Conc
set_option maxRecDepth 10000

theorem c79z (md : Md) (h : Heap) (p : PHeap) (hp : Per p h) (z start : Int) (a : Option Addr) (n c : Nat) (ds : List Day) (D : Days p a n ds) (hn : n ≤ 8) (hL : Lok z (min start z) ds) (hc : (wea ds).length ≤ 60) (hw : ∀ i, i < ds.length → (ds.getD i dz).want ≤ 100) : CallsX Try.prog md 79 #[.agg #[.int .i64 (z), .int .i64 (min start z), .slice a n c]] h fun v h' => v = .bool (decide (Lasts z start ds)) ∧ Keep h h' :=
  (c79 md h p hp z (min start z) a n c ds D hn hL hc hw).mono fun _ _ x => ⟨x.1.trans (congrArg Value.bool (decide_eq_decide.2 lasts_min)), x.2⟩
theorem c49 (md : Md) (h : Heap) (p : PHeap) (hp : Per p h) (size start : Int) (a : Option Addr) (n c : Nat) (ds : List Day) (D : Days p a n ds) (hn : n ≤ 40) (hc0 : Ok size start ds → (wea ds).length ≤ 60) : CallsX Try.prog md 49 #[.agg #[.int .i64 (size), .int .i64 (start), .slice a n c]] h fun v h' => v = .tuple #[.int .i64 (sizeR size start ds).1, .int .i64 (sizeR size start ds).2] ∧ Keep h h' := by
  refine calls_intro (Φ := fun h_ => St h [] p h_ []) Try.func49 rfl (tm := [_, _, _, _, _, _, _, _, _, _, _, _, _, _, _, _, _, _, _, _]) rfl ?_ (St.start h _ hp)
  intro c₀ cs Stop K
  have hl := D.len
  refine fl_seq ?_
  refine rl_start ?_
  refine rl_box (met_none rfl) (v := .agg #[.int .i64 (size), .int .i64 (start), .slice a n c]) rfl fun b1 => rl_own (L' := [(b1, .cells #[.int .i64 (size), .int .i64 (start), .slice a n c] 24 (0, 0))]) rfl ?_
  refine rl_det (met_none rfl) (fun h_ H_ => exd_assign (v := .int .i64 0) rfl) rfl ?_
  refine rl_det (met_none rfl) (fun h_ H_ => exd_assign (v := .int .i64 0) rfl) (tm' := _::_::_::_::_) rfl ?_
  refine rl_end ?_
  refine fl_seq ?_
  refine fl_seq ?_
  refine rl_start ?_
  refine rl_det (met_none rfl) (fun h_ H_ => exd_loadN_own H_ tA24 tS24 rfl (i := 0) rfl (vs := [.int .i64 (size), .int .i64 (start), .slice a n c]) rfl rfl) rfl ?_
  refine rl_calld (met_none rfl) (first := []) (cap := []) rfl rfl fC33 (fun h_ H_ => c33 md _ _ (fun b_ o_ e_ => H_.per b_ o_ e_) (size) (start) _ _ _ _ D (by omega)) rfl ?_
  refine rl_det (met_none rfl) (fun h_ H_ => exd_assign (v := .int .i64 (chk (size) (start) ds)) rfl) (tm' := _::_::_::_::_::_) rfl ?_
  refine rl_end ?_
  refine fl_seq ?_
  refine rl_start ?_
  refine rl_det (met_none rfl) (fun h_ H_ => exd_move (v := .int .i64 (chk (size) (start) ds)) rfl) rfl ?_
  refine rl_det (met_none rfl) (fun h_ H_ => exd_neq rfl rfl) rfl ?_
  refine rl_end ?_
  by_cases cc2 : chk (size) (start) ds ≠ 0
  · refine fl_then rfl (decide_eq_true cc2) ?_
    refine fl_seq ?_
    refine rl_start ?_
    refine rl_det (met_none rfl) (fun h_ H_ => exd_move (v := .int .i64 (chk (size) (start) ds)) rfl) (tm' := _::_::_::_::_::_::_::_::_::_::_::_) rfl ?_
    refine rl_det (met_none rfl) (fun h_ H_ => exd_assign (v := .int .i64 0) rfl) rfl ?_
    refine rl_det (met_none rfl) (fun h_ H_ => exd_assign (v := .int .i64 (chk (size) (start) ds)) rfl) rfl ?_
    refine rl_end ?_
    refine fl_ret Try.func49 rfl (vs := [.int .i64 0, .int .i64 (chk (size) (start) ds)]) (fun h_ H_ => ⟨.int .i64 0, _, rfl, rfl, ⟨.int .i64 (chk (size) (start) ds), _, rfl, rfl, rfl⟩⟩) (v := .tuple #[.int .i64 0, .int .i64 (chk (size) (start) ds)]) rfl ?_
    have hOk : ¬ Ok size start ds := fun e => absurd (chk_yes e) ‹_›
    exact fun h_ H_ => K _ _ ⟨by unfold sizeR; rw [if_neg hOk, chk_no hOk], H_.kept⟩
  · refine fl_else rfl (decide_eq_false cc2) ?_
    refine fl_skip ?_
    refine fl_seq ?_
    refine fl_seq ?_
    have hOk : Ok size start ds := chk_zero.1 (by omega)
    have hL := hOk.lok
    have hd := hOk.dok
    have h8 := hOk.2.2.2.2.1
    have hc := hc0 hOk
    have ho1 := hOk.1; have ho2 := hOk.2.1; have ho3 := hOk.2.2.1; have ho4 := hOk.2.2.2.1
    have hw : ∀ i, i < ds.length → (ds.getD i dz).want ≤ 20 := fun i hi => (hOk.2.2.2.2.2 i hi).2.2.2.2.2
    refine rl_start ?_
    refine rl_det (met_none rfl) (fun h_ H_ => exd_assign (v := .int .i64 0) rfl) (tm' := _::_::_::_::_::_::_) rfl ?_
    refine rl_end ?_
    refine fl_block ?_
    refine fl_loop (m₀ := 61 - 0) (fun m_ tm_ h_ => ∃ (k : Nat), m_ = 61 - k ∧ (∃ y3 : Nat → Value, tm_ = [.agg #[.int .i64 (size), .int .i64 (start), .slice a n c], .pointer (some ⟨b1, 0, none⟩), (y3 2), (y3 3), .int .i64 (chk (size) (start) ds), .int .i64 (((k : Nat) : Int)), .agg #[.int .i64 (size), .int .i64 (start), .slice a n c], .int .i64 (chk (size) (start) ds), .int .i64 (chk (size) (start) ds), .bool (decide (chk (size) (start) ds ≠ 0)), undef, (y3 11), (y3 12), (y3 13), (y3 14), (y3 15), (y3 16), (y3 17), (y3 18), (y3 19)]) ∧ (k ≤ 61) ∧ (upTo (fun k => decide (Lasts (k : Nat) start ds)) 0 (61) = upTo (fun k => decide (Lasts (k : Nat) start ds)) k (61 - k)) ∧ St h [] p h_ ([(b1, .cells #[.int .i64 (size), .int .i64 (start), .slice a n c] 24 (0, 0))])) (fun h_ H_ => ⟨0, rfl, (y_of rfl), Nat.zero_le _, rfl, H_⟩) ?_
    intro m_ tm_ IH4
    refine rs_ex fun k => rs_and fun hm_ => rs_and fun ht_ => rs_and fun hk => rs_and fun hr => ?_
    subst hm_; obtain ⟨y3, ht_⟩ := ht_; subst ht_
    refine fl_seq ?_
    refine fl_seq ?_
    refine rl_start ?_
    refine rl_det (met_none rfl) (fun h_ H_ => exd_move (v := .int .i64 (((k : Nat) : Int))) rfl) rfl ?_
    refine rl_det (met_none rfl) (fun h_ H_ => exd_leq rfl rfl) rfl ?_
    refine rl_end ?_
    by_cases cc5 : ((k : Nat) : Int) ≤ 60
    · refine fl_then rfl (decide_eq_true cc5) ?_
      refine fl_skip ?_
      refine fl_seq ?_
      refine fl_block ?_
      refine fl_seq ?_
      refine rl_start ?_
      refine rl_det (met_none rfl) (fun h_ H_ => exd_loadN_own H_ tA24 tS24 rfl (i := 0) rfl (vs := [.int .i64 (size), .int .i64 (start), .slice a n c]) rfl rfl) (tm' := [_,_,_,_,_,_,_,_,_,_,_,_,_,_,_,_,_,_,_,_]) rfl ?_
      refine rl_det (met_none rfl) (fun h_ H_ => exd_move (v := .int .i64 (((k : Nat) : Int))) rfl) rfl ?_
      refine rl_own (L' := ([(b1, .cells #[.int .i64 (size), .int .i64 (start), .slice a n c] 24 (0, 0))] : Pcs) ++ []) rfl ?_
      refine rl_call (met_none rfl) (first := []) (cap := []) rfl rfl fC47 (R := fun v_ h_ => ∃ w6 : Value, ∃ X7 : Pcs, v_ = .agg #[.int .i64 (((k : Nat) : Int)), .int .i64 (min start ((k : Nat) : Int)), w6] ∧ (OwnS 38 3 w6 (dcs ds) X7) ∧ St h [] p h_ (([(b1, .cells #[.int .i64 (size), .int .i64 (start), .slice a n c] 24 (0, 0))] : Pcs) ++ (X7 ++ []))) (fun h_ H_ => (c47 md _ _ (fun b_ o_ e_ => H_.per b_ o_ e_) (size) (start) _ _ _ _ D (by omega) ((k : Nat) : Int)).mono fun v_ h2_ ⟨w6, X7, e_, o8, N_⟩ => ⟨w6, X7, e_, o8, H_.callNA N_⟩) fun v_ => ?_
      refine rl_ex fun w6 => rl_ex fun X7 => rl_and fun ev_ => rl_and fun o8 => ?_
      have ev_ := ev_.symm; subst ev_
      refine rl_own (L' := ([(b1, .cells #[.int .i64 (size), .int .i64 (start), .slice a n c] 24 (0, 0))] : Pcs) ++ (X7 ++ [])) rfl ?_
      refine rl_lastN (A := ([(b1, .cells #[.int .i64 (size), .int .i64 (start), .slice a n c] 24 (0, 0))] : Pcs)) o8 (show (dcs ds).length = n by rw [dcs_length]; omega) fun p9 a10 cp11 le12 ev_ D13 => ?_
      subst ev_
      refine rl_own (L' := [(b1, .cells #[.int .i64 (size), .int .i64 (start), .slice a n c] 24 (0, 0))]) rfl ?_
      refine rl_calld (met_none rfl) (first := []) (cap := []) rfl rfl fC79 (fun h_ H_ => c79z md _ _ (fun b_ o_ e_ => H_.per b_ o_ e_) (((k : Nat) : Int)) start _ _ _ _ (show Days _ _ _ ds from D13) (by omega) (lok_sized hOk (by omega) (by omega)) hc (fun i hi => by have := hw i hi; omega)) (tm' := [_,_,_,_,_,_,_,_,_,_,_,_,_,_,_,_,_,_,_,_]) rfl ?_
      refine rl_end ?_
      by_cases cc14 : Lasts ((k : Nat) : Int) start ds
      · refine fl_then rfl (decide_eq_true cc14) ?_
        refine fl_seq ?_
        refine rl_start ?_
        refine rl_det (met_none rfl) (fun h_ H_ => exd_move (v := .int .i64 (((k : Nat) : Int))) rfl) rfl ?_
        refine rl_det (met_none rfl) (fun h_ H_ => exd_assign (v := .int .i64 (((k : Nat) : Int))) rfl) rfl ?_
        refine rl_det (met_none rfl) (fun h_ H_ => exd_assign (v := .int .i64 0) rfl) (tm' := _::_::_::_::_) rfl ?_
        refine rl_end ?_
        refine fl_ret Try.func49 rfl (vs := [.int .i64 (((k : Nat) : Int)), .int .i64 0]) (fun h_ H_ => ⟨.int .i64 (((k : Nat) : Int)), _, rfl, rfl, ⟨.int .i64 0, _, rfl, rfl, rfl⟩⟩) (v := .tuple #[.int .i64 (((k : Nat) : Int)), .int .i64 0]) rfl ?_
        exact fun h_ H_ => K _ _ ⟨by unfold sizeR; rw [if_pos hOk, hr, upTo_hit (by omega) (decide_eq_true ‹_›)]; rfl, H_.kept⟩
      · refine fl_else rfl (decide_eq_false cc14) ?_
        refine fl_skip ?_
        refine fl_inBlock ?_
        refine rl_start ?_
        refine rl_det (met_none rfl) (fun h_ H_ => exd_move (v := .int .i64 (((k : Nat) : Int))) rfl) rfl ?_
        refine rl_det (met_none rfl) (fun h_ H_ => exd_add rfl rfl (n := ((k + 1 : Nat) : Int)) (wr (by omega))) rfl ?_
        refine rl_det (met_none rfl) (fun h_ H_ => exd_assign (v := .int .i64 (((k + 1 : Nat) : Int))) rfl) (tm' := _::_::_::_::_::_::_) rfl ?_
        refine rl_end ?_
        exact fun h_ H_ => IH4 _ _ (by omega) h_ ⟨k + 1, rfl, (y_of rfl), (by omega), (hr.trans (upTo_miss (by omega) (decide_eq_false ‹_›))), (H_.forget le12)⟩
    · refine fl_else rfl (decide_eq_false cc5) ?_
      refine fl_exit rfl ?_
      refine fl_seq ?_
      refine rl_start ?_
      refine rl_det (met_none rfl) (fun h_ H_ => exd_assign (v := .int .i64 0) rfl) rfl ?_
      refine rl_det (met_none rfl) (fun h_ H_ => exd_assign (v := .int .i64 3) rfl) rfl ?_
      refine rl_end ?_
      refine fl_ret Try.func49 rfl (vs := [.int .i64 0, .int .i64 3]) (fun h_ H_ => ⟨.int .i64 0, _, rfl, rfl, ⟨.int .i64 3, _, rfl, rfl, rfl⟩⟩) (v := .tuple #[.int .i64 0, .int .i64 3]) rfl ?_
      exact fun h_ H_ => K _ _ ⟨by unfold sizeR; rw [if_pos hOk, hr, upTo_end (by omega)]; rfl, H_.kept⟩
theorem c50 (md : Md) (h : Heap) (p : PHeap) (hp : Per p h) (size start : Int) (a : Option Addr) (n c : Nat) (ds : List Day) (D : Days p a n ds) (hn : n ≤ 40) (hc0 : Ok size start ds → (wea ds).length ≤ 60) : CallsX Try.prog md 50 #[.agg #[.int .i64 (size), .int .i64 (start), .slice a n c]] h fun v h' => v = .tuple #[.int .i64 (startR size start ds).1, .int .i64 (startR size start ds).2] ∧ Keep h h' := by
  refine calls_intro (Φ := fun h_ => St h [] p h_ []) Try.func50 rfl (tm := [_, _, _, _, _, _, _, _, _, _, _, _, _, _, _, _, _, _, _, _, _, _]) rfl ?_ (St.start h _ hp)
  intro c₀ cs Stop K
  have hl := D.len
  refine fl_seq ?_
  refine rl_start ?_
  refine rl_box (met_none rfl) (v := .agg #[.int .i64 (size), .int .i64 (start), .slice a n c]) rfl fun b1 => rl_own (L' := [(b1, .cells #[.int .i64 (size), .int .i64 (start), .slice a n c] 24 (0, 0))]) rfl ?_
  refine rl_norm (tm' := _::_::_) rfl ?_
  refine rl_det (met_none rfl) (fun h_ H_ => exd_assign (v := .int .i64 0) rfl) rfl ?_
  refine rl_det (met_none rfl) (fun h_ H_ => exd_assign (v := .int .i64 0) rfl) rfl ?_
  refine rl_end ?_
  refine fl_seq ?_
  refine fl_seq ?_
  refine rl_start ?_
  refine rl_det (met_none rfl) (fun h_ H_ => exd_loadN_own H_ tA24 tS24 rfl (i := 0) rfl (vs := [.int .i64 (size), .int .i64 (start), .slice a n c]) rfl rfl) (tm' := _::_::_::_::_::_::_::_) rfl ?_
  refine rl_calld (met_none rfl) (first := []) (cap := []) rfl rfl fC33 (fun h_ H_ => c33 md _ _ (fun b_ o_ e_ => H_.per b_ o_ e_) (size) (start) _ _ _ _ D (by omega)) rfl ?_
  refine rl_det (met_none rfl) (fun h_ H_ => exd_assign (v := .int .i64 (chk (size) (start) ds)) rfl) rfl ?_
  refine rl_end ?_
  refine fl_seq ?_
  refine rl_start ?_
  refine rl_det (met_none rfl) (fun h_ H_ => exd_move (v := .int .i64 (chk (size) (start) ds)) rfl) (tm' := _::_::_::_::_::_::_::_::_::_) rfl ?_
  refine rl_det (met_none rfl) (fun h_ H_ => exd_neq rfl rfl) rfl ?_
  refine rl_end ?_
  by_cases cc2 : chk (size) (start) ds ≠ 0
  · refine fl_then rfl (decide_eq_true cc2) ?_
    refine fl_seq ?_
    refine rl_start ?_
    refine rl_det (met_none rfl) (fun h_ H_ => exd_move (v := .int .i64 (chk (size) (start) ds)) rfl) rfl ?_
    refine rl_det (met_none rfl) (fun h_ H_ => exd_assign (v := .int .i64 0) rfl) (tm' := _::_::_::_) rfl ?_
    refine rl_det (met_none rfl) (fun h_ H_ => exd_assign (v := .int .i64 (chk (size) (start) ds)) rfl) rfl ?_
    refine rl_end ?_
    refine fl_ret Try.func50 rfl (vs := [.int .i64 0, .int .i64 (chk (size) (start) ds)]) (fun h_ H_ => ⟨.int .i64 0, _, rfl, rfl, ⟨.int .i64 (chk (size) (start) ds), _, rfl, rfl, rfl⟩⟩) (v := .tuple #[.int .i64 0, .int .i64 (chk (size) (start) ds)]) rfl ?_
    have hOk : ¬ Ok size start ds := fun e => absurd (chk_yes e) ‹_›
    exact fun h_ H_ => K _ _ ⟨by unfold startR; rw [if_neg hOk, chk_no hOk], H_.kept⟩
  · refine fl_else rfl (decide_eq_false cc2) ?_
    refine fl_skip ?_
    refine fl_seq ?_
    refine fl_seq ?_
    have hOk : Ok size start ds := chk_zero.1 (by omega)
    have hL := hOk.lok
    have hd := hOk.dok
    have h8 := hOk.2.2.2.2.1
    have hc := hc0 hOk
    have ho1 := hOk.1; have ho2 := hOk.2.1; have ho3 := hOk.2.2.1; have ho4 := hOk.2.2.2.1
    have hw : ∀ i, i < ds.length → (ds.getD i dz).want ≤ 20 := fun i hi => (hOk.2.2.2.2.2 i hi).2.2.2.2.2
    refine rl_start ?_
    refine rl_det (met_none rfl) (fun h_ H_ => exd_assign (v := .int .i64 0) rfl) rfl ?_
    refine rl_end ?_
    refine fl_block ?_
    refine fl_loop (m₀ := (size.toNat + 1) - 0) (fun m_ tm_ h_ => ∃ (k : Nat), m_ = (size.toNat + 1) - k ∧ (∃ y3 : Nat → Value, tm_ = [.agg #[.int .i64 (size), .int .i64 (start), .slice a n c], .pointer (some ⟨b1, 0, none⟩), (y3 2), (y3 3), .int .i64 (chk (size) (start) ds), .int .i64 (((k : Nat) : Int)), .agg #[.int .i64 (size), .int .i64 (start), .slice a n c], .int .i64 (chk (size) (start) ds), .int .i64 (chk (size) (start) ds), .bool (decide (chk (size) (start) ds ≠ 0)), undef, (y3 11), (y3 12), (y3 13), (y3 14), (y3 15), (y3 16), (y3 17), (y3 18), (y3 19), (y3 20), (y3 21)]) ∧ (k ≤ (size.toNat + 1)) ∧ (upTo (fun k => decide (Lasts size (k : Nat) ds)) 0 ((size.toNat + 1)) = upTo (fun k => decide (Lasts size (k : Nat) ds)) k ((size.toNat + 1) - k)) ∧ St h [] p h_ ([(b1, .cells #[.int .i64 (size), .int .i64 (start), .slice a n c] 24 (0, 0))])) (fun h_ H_ => ⟨0, rfl, (y_of rfl), Nat.zero_le _, rfl, H_⟩) ?_
    intro m_ tm_ IH4
    refine rs_ex fun k => rs_and fun hm_ => rs_and fun ht_ => rs_and fun hk => rs_and fun hr => ?_
    subst hm_; obtain ⟨y3, ht_⟩ := ht_; subst ht_
    refine fl_seq ?_
    refine fl_seq ?_
    refine rl_start ?_
    refine rl_det (met_none rfl) (fun h_ H_ => exd_move (v := .int .i64 (((k : Nat) : Int))) rfl) (tm' := _::_::_::_::_::_::_::_::_::_::_::_::_) rfl ?_
    refine rl_det (met_none rfl) (fun h_ H_ => exd_fieldAddr tF24_0 rfl (a' := ⟨b1, 0, none⟩) rfl) rfl ?_
    refine rl_det (met_none rfl) (fun h_ H_ => exd_load_own H_ tA3 rfl (i := 0) rfl (v := .int .i64 (size)) rfl) rfl ?_
    refine rl_det (met_none rfl) (fun h_ H_ => exd_leq rfl rfl) (tm' := [_,_,_,_,_,_,_,_,_,_,_,_,_,_,_,_,_,_,_,_,_,_]) rfl ?_
    refine rl_end ?_
    by_cases cc5 : ((k : Nat) : Int) ≤ size
    · refine fl_then rfl (decide_eq_true cc5) ?_
      refine fl_skip ?_
      refine fl_seq ?_
      refine fl_block ?_
      refine fl_seq ?_
      refine rl_start ?_
      refine rl_det (met_none rfl) (fun h_ H_ => exd_loadN_own H_ tA24 tS24 rfl (i := 0) rfl (vs := [.int .i64 (size), .int .i64 (start), .slice a n c]) rfl rfl) rfl ?_
      refine rl_det (met_none rfl) (fun h_ H_ => exd_move (v := .int .i64 (((k : Nat) : Int))) rfl) rfl ?_
      refine rl_own (L' := ([(b1, .cells #[.int .i64 (size), .int .i64 (start), .slice a n c] 24 (0, 0))] : Pcs) ++ []) rfl ?_
      refine rl_call (met_none rfl) (first := []) (cap := []) rfl rfl fC48 (R := fun v_ h_ => ∃ w6 : Value, ∃ X7 : Pcs, v_ = .agg #[.int .i64 (size), .int .i64 (((k : Nat) : Int)), w6] ∧ (OwnS 38 3 w6 (dcs ds) X7) ∧ St h [] p h_ (([(b1, .cells #[.int .i64 (size), .int .i64 (start), .slice a n c] 24 (0, 0))] : Pcs) ++ (X7 ++ []))) (fun h_ H_ => (c48 md _ _ (fun b_ o_ e_ => H_.per b_ o_ e_) (size) (start) _ _ _ _ D (by omega) ((k : Nat) : Int)).mono fun v_ h2_ ⟨w6, X7, e_, o8, N_⟩ => ⟨w6, X7, e_, o8, H_.callNA N_⟩) fun v_ => ?_
      refine rl_ex fun w6 => rl_ex fun X7 => rl_and fun ev_ => rl_and fun o8 => ?_
      have ev_ := ev_.symm; subst ev_
      refine rl_own (L' := ([(b1, .cells #[.int .i64 (size), .int .i64 (start), .slice a n c] 24 (0, 0))] : Pcs) ++ (X7 ++ [])) rfl ?_
      refine rl_norm (tm' := [_,_,_,_,_,_,_,_,_,_,_,_,_,_,_,_,_,_,_,_,_,_]) rfl ?_
      refine rl_lastN (A := ([(b1, .cells #[.int .i64 (size), .int .i64 (start), .slice a n c] 24 (0, 0))] : Pcs)) o8 (show (dcs ds).length = n by rw [dcs_length]; omega) fun p9 a10 cp11 le12 ev_ D13 => ?_
      subst ev_
      refine rl_own (L' := [(b1, .cells #[.int .i64 (size), .int .i64 (start), .slice a n c] 24 (0, 0))]) rfl ?_
      refine rl_calld (met_none rfl) (first := []) (cap := []) rfl rfl fC79 (fun h_ H_ => c79 md _ _ (fun b_ o_ e_ => H_.per b_ o_ e_) (size) (((k : Nat) : Int)) _ _ _ _ (show Days _ _ _ ds from D13) (by omega) (started_ok hOk (by omega) (by omega)).lok hc (fun i hi => by have := hw i hi; omega)) rfl ?_
      refine rl_end ?_
      by_cases cc14 : Lasts (size) (((k : Nat) : Int)) ds
      · refine fl_then rfl (decide_eq_true cc14) ?_
        refine fl_seq ?_
        refine rl_start ?_
        refine rl_det (met_none rfl) (fun h_ H_ => exd_move (v := .int .i64 (((k : Nat) : Int))) rfl) rfl ?_
        refine rl_det (met_none rfl) (fun h_ H_ => exd_assign (v := .int .i64 (((k : Nat) : Int))) rfl) (tm' := _::_::_::_) rfl ?_
        refine rl_det (met_none rfl) (fun h_ H_ => exd_assign (v := .int .i64 0) rfl) rfl ?_
        refine rl_end ?_
        refine fl_ret Try.func50 rfl (vs := [.int .i64 (((k : Nat) : Int)), .int .i64 0]) (fun h_ H_ => ⟨.int .i64 (((k : Nat) : Int)), _, rfl, rfl, ⟨.int .i64 0, _, rfl, rfl, rfl⟩⟩) (v := .tuple #[.int .i64 (((k : Nat) : Int)), .int .i64 0]) rfl ?_
        exact fun h_ H_ => K _ _ ⟨by unfold startR; rw [if_pos hOk, hr, upTo_hit (by omega) (decide_eq_true ‹_›)]; rfl, H_.kept⟩
      · refine fl_else rfl (decide_eq_false cc14) ?_
        refine fl_skip ?_
        refine fl_inBlock ?_
        refine rl_start ?_
        refine rl_det (met_none rfl) (fun h_ H_ => exd_move (v := .int .i64 (((k : Nat) : Int))) rfl) rfl ?_
        refine rl_det (met_none rfl) (fun h_ H_ => exd_add rfl rfl (n := ((k + 1 : Nat) : Int)) (wr (by omega))) (tm' := [_,_,_,_,_,_,_,_,_,_,_,_,_,_,_,_,_,_,_,_,_,_]) rfl ?_
        refine rl_det (met_none rfl) (fun h_ H_ => exd_assign (v := .int .i64 (((k + 1 : Nat) : Int))) rfl) rfl ?_
        refine rl_end ?_
        exact fun h_ H_ => IH4 _ _ (by omega) h_ ⟨k + 1, rfl, (y_of rfl), (by omega), (hr.trans (upTo_miss (by omega) (decide_eq_false ‹_›))), (H_.forget le12)⟩
    · refine fl_else rfl (decide_eq_false cc5) ?_
      refine fl_exit rfl ?_
      refine fl_seq ?_
      refine rl_start ?_
      refine rl_det (met_none rfl) (fun h_ H_ => exd_assign (v := .int .i64 0) rfl) rfl ?_
      refine rl_det (met_none rfl) (fun h_ H_ => exd_assign (v := .int .i64 3) rfl) (tm' := _::_::_::_::_) rfl ?_
      refine rl_end ?_
      refine fl_ret Try.func50 rfl (vs := [.int .i64 0, .int .i64 3]) (fun h_ H_ => ⟨.int .i64 0, _, rfl, rfl, ⟨.int .i64 3, _, rfl, rfl, rfl⟩⟩) (v := .tuple #[.int .i64 0, .int .i64 3]) rfl ?_
      exact fun h_ H_ => K _ _ ⟨by unfold startR; rw [if_pos hOk, hr, upTo_end (by omega)]; rfl, H_.kept⟩
theorem c51 (md : Md) (h : Heap) (p : PHeap) (hp : Per p h) (size start : Int) (a : Option Addr) (n c : Nat) (ds : List Day) (D : Days p a n ds) (hn : n ≤ 40) (hc0 : Ok size start ds → (wea ds).length ≤ 60) : CallsX Try.prog md 51 #[.agg #[.int .i64 (size), .int .i64 (start), .slice a n c]] h fun v h' => v = .tuple #[.int .i64 (if Ok size start ds then ratDown size start ds 20 else 0), .int .i64 (chk size start ds)] ∧ Keep h h' := by
  refine calls_intro (Φ := fun h_ => St h [] p h_ []) Try.func51 rfl (tm := [_, _, _, _, _, _, _, _, _, _, _, _, _, _, _, _, _, _, _]) rfl ?_ (St.start h _ hp)
  intro c₀ cs Stop K
  have hl := D.len
  refine fl_seq ?_
  refine rl_start ?_
  refine rl_box (met_none rfl) (v := .agg #[.int .i64 (size), .int .i64 (start), .slice a n c]) rfl fun b1 => rl_own (L' := [(b1, .cells #[.int .i64 (size), .int .i64 (start), .slice a n c] 24 (0, 0))]) rfl ?_
  refine rl_det (met_none rfl) (fun h_ H_ => exd_assign (v := .int .i64 0) rfl) rfl ?_
  refine rl_det (met_none rfl) (fun h_ H_ => exd_assign (v := .int .i64 0) rfl) (tm' := _::_::_::_::_) rfl ?_
  refine rl_end ?_
  refine fl_seq ?_
  refine fl_seq ?_
  refine rl_start ?_
  refine rl_det (met_none rfl) (fun h_ H_ => exd_loadN_own H_ tA24 tS24 rfl (i := 0) rfl (vs := [.int .i64 (size), .int .i64 (start), .slice a n c]) rfl rfl) rfl ?_
  refine rl_calld (met_none rfl) (first := []) (cap := []) rfl rfl fC33 (fun h_ H_ => c33 md _ _ (fun b_ o_ e_ => H_.per b_ o_ e_) (size) (start) _ _ _ _ D (by omega)) rfl ?_
  refine rl_det (met_none rfl) (fun h_ H_ => exd_assign (v := .int .i64 (chk (size) (start) ds)) rfl) (tm' := _::_::_::_::_::_) rfl ?_
  refine rl_end ?_
  refine fl_seq ?_
  refine rl_start ?_
  refine rl_det (met_none rfl) (fun h_ H_ => exd_move (v := .int .i64 (chk (size) (start) ds)) rfl) rfl ?_
  refine rl_det (met_none rfl) (fun h_ H_ => exd_neq rfl rfl) rfl ?_
  refine rl_end ?_
  by_cases cc2 : chk (size) (start) ds ≠ 0
  · refine fl_then rfl (decide_eq_true cc2) ?_
    refine fl_seq ?_
    refine rl_start ?_
    refine rl_det (met_none rfl) (fun h_ H_ => exd_move (v := .int .i64 (chk (size) (start) ds)) rfl) (tm' := _::_::_::_::_::_::_::_::_::_::_::_) rfl ?_
    refine rl_det (met_none rfl) (fun h_ H_ => exd_assign (v := .int .i64 0) rfl) rfl ?_
    refine rl_det (met_none rfl) (fun h_ H_ => exd_assign (v := .int .i64 (chk (size) (start) ds)) rfl) rfl ?_
    refine rl_end ?_
    refine fl_ret Try.func51 rfl (vs := [.int .i64 0, .int .i64 (chk (size) (start) ds)]) (fun h_ H_ => ⟨.int .i64 0, _, rfl, rfl, ⟨.int .i64 (chk (size) (start) ds), _, rfl, rfl, rfl⟩⟩) (v := .tuple #[.int .i64 0, .int .i64 (chk (size) (start) ds)]) rfl ?_
    have hOk : ¬ Ok size start ds := fun e => absurd (chk_yes e) ‹_›
    exact fun h_ H_ => K _ _ ⟨by rw [if_neg hOk], H_.kept⟩
  · refine fl_else rfl (decide_eq_false cc2) ?_
    refine fl_skip ?_
    refine fl_seq ?_
    have hOk : Ok size start ds := chk_zero.1 (by omega)
    have hL := hOk.lok
    have hd := hOk.dok
    have h8 := hOk.2.2.2.2.1
    have hc := hc0 hOk
    have ho1 := hOk.1; have ho2 := hOk.2.1; have ho3 := hOk.2.2.1; have ho4 := hOk.2.2.2.1
    have hw : ∀ i, i < ds.length → (ds.getD i dz).want ≤ 20 := fun i hi => (hOk.2.2.2.2.2 i hi).2.2.2.2.2
    refine rl_start ?_
    refine rl_det (met_none rfl) (fun h_ H_ => exd_assign (v := .int .i64 20) rfl) (tm' := _::_::_::_::_::_::_) rfl ?_
    refine rl_end ?_
    refine fl_seq ?_
    refine fl_block ?_
    refine fl_loop (m₀ := 20 + 1) (fun m_ tm_ h_ => ∃ (k : Nat) (nn : Int), m_ = k + 1 ∧ (∃ y3 : Nat → Value, tm_ = [.agg #[.int .i64 (size), .int .i64 (start), .slice a n c], .pointer (some ⟨b1, 0, none⟩), .int .i64 0, .int .i64 0, .int .i64 (chk (size) (start) ds), .int .i64 (nn), .agg #[.int .i64 (size), .int .i64 (start), .slice a n c], .int .i64 (chk (size) (start) ds), .int .i64 (chk (size) (start) ds), .bool (decide (chk (size) (start) ds ≠ 0)), undef, (y3 11), (y3 12), (y3 13), (y3 14), (y3 15), (y3 16), (y3 17), undef]) ∧ (nn = ((k : Nat) : Int)) ∧ (k ≤ 20) ∧ (ratDown size start ds 20 = ratDown size start ds k) ∧ St h [] p h_ ([(b1, .cells #[.int .i64 (size), .int .i64 (start), .slice a n c] 24 (0, 0))])) (fun h_ H_ => ⟨20, 20, rfl, (y_of rfl), rfl, Nat.le_refl _, rfl, H_⟩) ?_
    intro m_ tm_ IH4
    refine rs_ex fun k => rs_ex fun nn => rs_and fun hm_ => rs_and fun ht_ => rs_and fun hnn => rs_and fun hk => rs_and fun hr => ?_
    subst hm_; obtain ⟨y3, ht_⟩ := ht_; subst ht_
    subst hnn
    refine fl_seq ?_
    refine fl_seq ?_
    refine rl_start ?_
    refine rl_det (met_none rfl) (fun h_ H_ => exd_loadN_own H_ tA24 tS24 rfl (i := 0) rfl (vs := [.int .i64 (size), .int .i64 (start), .slice a n c]) rfl rfl) rfl ?_
    refine rl_det (met_none rfl) (fun h_ H_ => exd_move (v := .int .i64 (((k : Nat) : Int))) rfl) rfl ?_
    refine rl_own (L' := ([(b1, .cells #[.int .i64 (size), .int .i64 (start), .slice a n c] 24 (0, 0))] : Pcs) ++ []) rfl ?_
    refine rl_call (met_none rfl) (first := []) (cap := []) rfl rfl fC25 (R := fun v_ h_ => ∃ w5 : Value, ∃ X6 : Pcs, v_ = .agg #[.int .i64 (size), .int .i64 (start), w5] ∧ (OwnS 38 3 w5 (dcs (rationed ((k : Nat) : Int) ds)) X6) ∧ St h [] p h_ (([(b1, .cells #[.int .i64 (size), .int .i64 (start), .slice a n c] 24 (0, 0))] : Pcs) ++ (X6 ++ []))) (fun h_ H_ => (c25 md _ _ (fun b_ o_ e_ => H_.per b_ o_ e_) (size) (start) _ _ _ _ D (by omega) ((k : Nat) : Int)).mono fun v_ h2_ ⟨w5, X6, e_, o7, N_⟩ => ⟨w5, X6, e_, o7, H_.callNA N_⟩) fun v_ => ?_
    refine rl_ex fun w5 => rl_ex fun X6 => rl_and fun ev_ => rl_and fun o7 => ?_
    have ev_ := ev_.symm; subst ev_
    refine rl_own (L' := ([(b1, .cells #[.int .i64 (size), .int .i64 (start), .slice a n c] 24 (0, 0))] : Pcs) ++ (X6 ++ [])) rfl ?_
    refine rl_norm (tm' := [_,_,_,_,_,_,_,_,_,_,_,_,_,_,_,_,_,_,_]) rfl ?_
    refine rl_lastN (A := ([(b1, .cells #[.int .i64 (size), .int .i64 (start), .slice a n c] 24 (0, 0))] : Pcs)) o7 (show (dcs (rationed ((k : Nat) : Int) ds)).length = n by rw [dcs_length, rationed_length]; omega) fun p8 a9 cp10 le11 ev_ D12 => ?_
    subst ev_
    refine rl_own (L' := [(b1, .cells #[.int .i64 (size), .int .i64 (start), .slice a n c] 24 (0, 0))]) rfl ?_
    refine rl_calld (met_none rfl) (first := []) (cap := []) rfl rfl fC79 (fun h_ H_ => c79 md _ _ (fun b_ o_ e_ => H_.per b_ o_ e_) (size) (start) _ _ _ _ (show Days _ _ _ (rationed ((k : Nat) : Int) ds) from D12) (by omega) (rationed_ok (by omega) hOk).lok (wea_wmap hd (rationed_ok (by omega) hOk).dok hc) (fun i hi => by have := ((rationed_ok (by omega) hOk).2.2.2.2.2 i hi).2.2.2.2.2; omega)) rfl ?_
    refine rl_det (met_none rfl) (fun h_ H_ => exd_not rfl) rfl ?_
    refine rl_end ?_
    by_cases cc13 : Lasts (size) (start) (rationed ((k : Nat) : Int) ds)
    · refine fl_else rfl (not_f (decide_eq_true cc13)) ?_
      refine fl_exit rfl ?_
      refine fl_seq ?_
      refine rl_start ?_
      refine rl_det (met_none rfl) (fun h_ H_ => exd_move (v := .int .i64 (((k : Nat) : Int))) rfl) (tm' := [_,_,_,_,_,_,_,_,_,_,_,_,_,_,_,_,_,_,_]) rfl ?_
      refine rl_det (met_none rfl) (fun h_ H_ => exd_assign (v := .int .i64 (((k : Nat) : Int))) rfl) rfl ?_
      refine rl_det (met_none rfl) (fun h_ H_ => exd_assign (v := .int .i64 0) rfl) rfl ?_
      refine rl_end ?_
      refine fl_ret Try.func51 rfl (vs := [.int .i64 (((k : Nat) : Int)), .int .i64 0]) (fun h_ H_ => ⟨.int .i64 (((k : Nat) : Int)), _, rfl, rfl, ⟨.int .i64 0, _, rfl, rfl, rfl⟩⟩) (v := .tuple #[.int .i64 (((k : Nat) : Int)), .int .i64 0]) rfl ?_
      exact fun h_ H_ => K _ _ ⟨by rw [if_pos hOk, chk_yes hOk, hr, rat_at ‹_›], H_.kept⟩
    · refine fl_then rfl (not_t (decide_eq_false cc13)) ?_
      refine fl_skip ?_
      refine fl_block ?_
      refine rl_start ?_
      refine rl_det (met_none rfl) (fun h_ H_ => exd_move (v := .int .i64 (((k : Nat) : Int))) rfl) (tm' := [_,_,_,_,_,_,_,_,_,_,_,_,_,_,_,_,_,_,_]) rfl ?_
      refine rl_det (met_none rfl) (fun h_ H_ => exd_sub rfl rfl (wr (by omega))) rfl ?_
      refine rl_det (met_none rfl) (fun h_ H_ => exd_assign (v := .int .i64 (((k : Nat) : Int) - 1)) rfl) rfl ?_
      refine rl_end ?_
      refine fl_inBlock ?_
      exact fun h_ H_ => IH4 _ _ (by have := rat_down ⟨hOk.1, hOk.2.2.1⟩ hOk.dok ‹¬ Lasts size start _›; omega) h_ ⟨k - 1, _, rfl, (y_of rfl), (by have := rat_down ⟨hOk.1, hOk.2.2.1⟩ hOk.dok ‹¬ Lasts size start _›; omega), (by omega), (hr.trans (rat_down ⟨hOk.1, hOk.2.2.1⟩ hOk.dok ‹¬ Lasts size start _›).2), (H_.forget le11)⟩
theorem c52 (md : Md) (h : Heap) (p : PHeap) (hp : Per p h) (size start : Int) (a : Option Addr) (n c : Nat) (ds : List Day) (D : Days p a n ds) (hn : n ≤ 40) (hc0 : Ok size start ds → (wea ds).length ≤ 60) (day : Int) : CallsX Try.prog md 52 #[.agg #[.int .i64 (size), .int .i64 (start), .slice a n c], .int .i64 (day)] h fun v h' => v = .tuple #[.int .i64 (spareR size start ds day).1, .int .i64 (spareR size start ds day).2] ∧ Keep h h' := by
  refine calls_intro (Φ := fun h_ => St h [] p h_ []) Try.func52 rfl (tm := [_, _, _, _, _, _, _, _, _, _, _, _, _, _, _, _, _, _, _, _, _, _, _, _, _, _, _, _]) rfl ?_ (St.start h _ hp)
  intro c₀ cs Stop K
  have hl := D.len
  refine fl_seq ?_
  refine rl_start ?_
  refine rl_box (met_none rfl) (v := .agg #[.int .i64 (size), .int .i64 (start), .slice a n c]) rfl fun b1 => rl_own (L' := [(b1, .cells #[.int .i64 (size), .int .i64 (start), .slice a n c] 24 (0, 0))]) rfl ?_
  refine rl_norm (tm' := _::_::_::_) rfl ?_
  refine rl_det (met_none rfl) (fun h_ H_ => exd_assign (v := .int .i64 0) rfl) rfl ?_
  refine rl_det (met_none rfl) (fun h_ H_ => exd_assign (v := .int .i64 0) rfl) rfl ?_
  refine rl_end ?_
  refine fl_seq ?_
  refine fl_seq ?_
  refine fl_drawn2 4 [[], [], [], [1, 2], [], []] mixed (by kernel_rfl) (Nat.le_of_ble_eq_true rfl) ?_
  refine swr_det (met_none rfl) (fun h_ H_ => exd_loadN_own H_ tA24 tS24 rfl (i := 0) rfl (vs := [.int .i64 (size), .int .i64 (start), .slice a n c]) rfl rfl) rfl ?_
  refine swr_det (met_none rfl) (fun h_ H_ => exd_loadN_own H_ tA24 tS24 rfl (i := 0) rfl (vs := [.int .i64 (size), .int .i64 (start), .slice a n c]) rfl rfl) (tm' := _::_::_::_::_::_::_::_::_::_::_) rfl ?_
  refine swr_det (met_none rfl) (fun h_ H_ => exd_move (v := .int .i64 (day)) rfl) rfl ?_
  refine swr_call (met_none rfl) (first := []) (cap := []) rfl rfl fC26 (fun h_ H_ => (c26 md _ _ (fun b_ o_ e_ => H_.per b_ o_ e_) (size) (start) _ _ _ _ D (by omega) day).mono fun v_ h2_ ⟨e_, k_⟩ => ⟨e_, H_.call k_⟩) (tm' := _::_::_::_::_::_::_::_::_::_::_::_::_) rfl ?_
  refine swr_nil rfl ?_
  refine rl_calld (met_none rfl) (first := []) (cap := []) rfl rfl fC74 (fun h_ H_ => c74 md _ _ (fun b_ o_ e_ => H_.per b_ o_ e_) (size) (start) _ _ _ _ D (by omega) (decide (IsDay ds day))) rfl ?_
  refine rl_det (met_none rfl) (fun h_ H_ => exd_assign (v := .int .i64 (askd (size) (start) ds (decide (IsDay ds day)))) rfl) rfl ?_
  refine rl_end ?_
  refine fl_seq ?_
  refine rl_start ?_
  refine rl_det (met_none rfl) (fun h_ H_ => exd_move (v := .int .i64 (askd (size) (start) ds (decide (IsDay ds day)))) rfl) (tm' := _::_::_::_::_::_::_::_::_::_::_::_::_::_::_) rfl ?_
  refine rl_det (met_none rfl) (fun h_ H_ => exd_neq rfl rfl) rfl ?_
  refine rl_end ?_
  by_cases cc2 : askd (size) (start) ds (decide (IsDay ds day)) ≠ 0
  · refine fl_then rfl (decide_eq_true cc2) ?_
    refine fl_seq ?_
    refine rl_start ?_
    refine rl_det (met_none rfl) (fun h_ H_ => exd_move (v := .int .i64 (askd (size) (start) ds (decide (IsDay ds day)))) rfl) rfl ?_
    refine rl_det (met_none rfl) (fun h_ H_ => exd_assign (v := .int .i64 0) rfl) (tm' := _::_::_::_::_::_) rfl ?_
    refine rl_det (met_none rfl) (fun h_ H_ => exd_assign (v := .int .i64 (askd (size) (start) ds (decide (IsDay ds day)))) rfl) rfl ?_
    refine rl_end ?_
    refine fl_ret Try.func52 rfl (vs := [.int .i64 0, .int .i64 (askd (size) (start) ds (decide (IsDay ds day)))]) (fun h_ H_ => ⟨.int .i64 0, _, rfl, rfl, ⟨.int .i64 (askd (size) (start) ds (decide (IsDay ds day))), _, rfl, rfl, rfl⟩⟩) (v := .tuple #[.int .i64 0, .int .i64 (askd (size) (start) ds (decide (IsDay ds day)))]) rfl ?_
    exact fun h_ H_ => K _ _ ⟨by unfold spareR; rw [if_neg ‹_›], H_.kept⟩
  · refine fl_else rfl (decide_eq_false cc2) ?_
    refine fl_skip ?_
    refine fl_seq ?_
    refine fl_seq ?_
    have h0 : askd size start ds (decide (IsDay ds day)) = 0 := by omega
    have hOk : Ok size start ds := (askd_zero.1 h0).1
    have hL := hOk.lok
    have hd := hOk.dok
    have h8 := hOk.2.2.2.2.1
    have hc := hc0 hOk
    have hday : IsDay ds day := of_decide_eq_true (askd_zero.1 h0).2
    have hd0 := hday.1; have hd1 := hday.2
    have hw : ∀ i, i < ds.length → (ds.getD i dz).want ≤ 20 := fun i hi => (hOk.2.2.2.2.2 i hi).2.2.2.2.2
    refine rl_start ?_
    refine rl_det (met_none rfl) (fun h_ H_ => exd_loadN_own H_ tA24 tS24 rfl (i := 0) rfl (vs := [.int .i64 (size), .int .i64 (start), .slice a n c]) rfl rfl) rfl ?_
    refine rl_calld (met_none rfl) (first := []) (cap := []) rfl rfl fC79 (fun h_ H_ => c79 md _ _ (fun b_ o_ e_ => H_.per b_ o_ e_) (size) (start) _ _ _ _ D (by omega) hL hc (fun i hi => by have := hw i hi; omega)) (tm' := _::_::_::_::_::_::_::_::_::_::_::_::_::_::_::_::_::_::_) rfl ?_
    refine rl_det (met_none rfl) (fun h_ H_ => exd_not rfl) rfl ?_
    refine rl_end ?_
    by_cases cc3 : Lasts (size) (start) ds
    · refine fl_else rfl (not_f (decide_eq_true cc3)) ?_
      refine fl_skip ?_
      refine fl_seq ?_
      have hla : Lasts size start ds := ‹_›
      refine rl_start ?_
      refine rl_det (met_none rfl) (fun h_ H_ => exd_assign (v := .int .i64 0) rfl) rfl ?_
      refine rl_end ?_
      refine fl_seq ?_
      refine fl_block ?_
      refine fl_loop (m₀ := 100 - 0) (fun m_ tm_ h_ => ∃ (k : Nat), m_ = 100 - k ∧ (∃ y4 : Nat → Value, tm_ = [.agg #[.int .i64 (size), .int .i64 (start), .slice a n c], .int .i64 (day), .pointer (some ⟨b1, 0, none⟩), undef, .int .i64 0, .int .i64 0, .int .i64 (askd (size) (start) ds (decide (IsDay ds day))), .int .i64 (((k : Nat) : Int)), .agg #[.int .i64 (size), .int .i64 (start), .slice a n c], .agg #[.int .i64 (size), .int .i64 (start), .slice a n c], .int .i64 (day), .bool (decide (IsDay ds day)), .int .i64 (askd (size) (start) ds (decide (IsDay ds day))), .int .i64 (askd (size) (start) ds (decide (IsDay ds day))), .bool (decide (askd (size) (start) ds (decide (IsDay ds day)) ≠ 0)), undef, .agg #[.int .i64 (size), .int .i64 (start), .slice a n c], .bool (decide (Lasts (size) (start) ds)), .bool (!(decide (Lasts (size) (start) ds))), (y4 19), (y4 20), (y4 21), (y4 22), (y4 23), (y4 24), (y4 25), (y4 26), undef]) ∧ (k ≤ 60) ∧ (upTo (fun k => decide (¬ Lasts size start (wanted day ((k : Nat) + 1) ds))) 0 100 = upTo (fun k => decide (¬ Lasts size start (wanted day ((k : Nat) + 1) ds))) k (100 - k)) ∧ St h [] p h_ ([(b1, .cells #[.int .i64 (size), .int .i64 (start), .slice a n c] 24 (0, 0))])) (fun h_ H_ => ⟨0, rfl, (y_of rfl), Nat.zero_le _, rfl, H_⟩) ?_
      intro m_ tm_ IH5
      refine rs_ex fun k => rs_and fun hm_ => rs_and fun ht_ => rs_and fun hk => rs_and fun hr => ?_
      subst hm_; obtain ⟨y4, ht_⟩ := ht_; subst ht_
      refine fl_seq ?_
      refine fl_seq ?_
      refine rl_start ?_
      refine rl_det (met_none rfl) (fun h_ H_ => exd_loadN_own H_ tA24 tS24 rfl (i := 0) rfl (vs := [.int .i64 (size), .int .i64 (start), .slice a n c]) rfl rfl) (tm' := [_,_,_,_,_,_,_,_,_,_,_,_,_,_,_,_,_,_,_,_,_,_,_,_,_,_,_,_]) rfl ?_
      refine rl_det (met_none rfl) (fun h_ H_ => exd_move (v := .int .i64 (day)) rfl) rfl ?_
      refine rl_det (met_none rfl) (fun h_ H_ => exd_move (v := .int .i64 (((k : Nat) : Int))) rfl) rfl ?_
      refine rl_det (met_none rfl) (fun h_ H_ => exd_add rfl rfl (n := ((k + 1 : Nat) : Int)) (wr (by omega))) (tm' := [_,_,_,_,_,_,_,_,_,_,_,_,_,_,_,_,_,_,_,_,_,_,_,_,_,_,_,_]) rfl ?_
      refine rl_own (L' := ([(b1, .cells #[.int .i64 (size), .int .i64 (start), .slice a n c] 24 (0, 0))] : Pcs) ++ []) rfl ?_
      refine rl_call (met_none rfl) (first := []) (cap := []) rfl rfl fC29 (R := fun v_ h_ => ∃ w6 : Value, ∃ X7 : Pcs, v_ = .agg #[.int .i64 (size), .int .i64 (start), w6] ∧ (OwnS 38 3 w6 (dcs (wanted day ((k + 1 : Nat) : Int) ds)) X7) ∧ St h [] p h_ (([(b1, .cells #[.int .i64 (size), .int .i64 (start), .slice a n c] 24 (0, 0))] : Pcs) ++ (X7 ++ []))) (fun h_ H_ => (c29i (fun b_ o_ e_ => H_.per b_ o_ e_) D (by omega) md hday (by have h_ := hOk.2.2.2.2.2 day.toNat (by omega); unfold DayOk at h_; omega)).mono fun v_ h2_ ⟨w6, X7, e_, o8, N_⟩ => ⟨w6, X7, e_, o8, H_.callNA N_⟩) fun v_ => ?_
      refine rl_ex fun w6 => rl_ex fun X7 => rl_and fun ev_ => rl_and fun o8 => ?_
      have ev_ := ev_.symm; subst ev_
      refine rl_own (L' := ([(b1, .cells #[.int .i64 (size), .int .i64 (start), .slice a n c] 24 (0, 0))] : Pcs) ++ (X7 ++ [])) rfl ?_
      refine rl_lastN (A := ([(b1, .cells #[.int .i64 (size), .int .i64 (start), .slice a n c] 24 (0, 0))] : Pcs)) o8 (show (dcs (wanted day ((k + 1 : Nat) : Int) ds)).length = n by rw [dcs_length, wanted_length]; omega) fun p9 a10 cp11 le12 ev_ D13 => ?_
      subst ev_
      refine rl_own (L' := [(b1, .cells #[.int .i64 (size), .int .i64 (start), .slice a n c] 24 (0, 0))]) rfl ?_
      refine rl_calld (met_none rfl) (first := []) (cap := []) rfl rfl fC79 (fun h_ H_ => c79 md _ _ (fun b_ o_ e_ => H_.per b_ o_ e_) (size) (start) _ _ _ _ (show Days _ _ _ (wanted day ((k + 1 : Nat) : Int) ds) from D13) (by omega) (lok_wanted hOk (by omega) (by omega)) (wea_wmap hd (dok_wanted hOk (by omega) (by omega)) hc) (want_wanted hOk (by omega) (by omega))) rfl ?_
      refine rl_end ?_
      by_cases cc14 : Lasts (size) (start) (wanted day ((k + 1 : Nat) : Int) ds)
      · refine fl_then rfl (decide_eq_true cc14) ?_
        refine fl_skip ?_
        refine fl_block ?_
        refine rl_start ?_
        refine rl_det (met_none rfl) (fun h_ H_ => exd_move (v := .int .i64 (((k : Nat) : Int))) rfl) (tm' := [_,_,_,_,_,_,_,_,_,_,_,_,_,_,_,_,_,_,_,_,_,_,_,_,_,_,_,_]) rfl ?_
        refine rl_det (met_none rfl) (fun h_ H_ => exd_add rfl rfl (n := ((k + 1 : Nat) : Int)) (wr (by omega))) rfl ?_
        refine rl_det (met_none rfl) (fun h_ H_ => exd_assign (v := .int .i64 (((k + 1 : Nat) : Int))) rfl) rfl ?_
        refine rl_end ?_
        refine fl_inBlock ?_
        have hk2 : k + 1 ≤ 60 := Decidable.not_not.1 (fun hc => not_lasts_more (more := ((k : Nat) : Int) + 1) ⟨hOk.1, hOk.2.1, hOk.2.2.1⟩ hOk.dok hday (by omega) ‹Lasts size start (wanted _ _ _)›)
        exact fun h_ H_ => IH5 _ _ (by omega) h_ ⟨k + 1, rfl, (y_of rfl), hk2, (hr.trans (upTo_miss (by omega) (by rw [decide_eq_false]; exact fun hc => hc ‹_›))), (H_.forget le12)⟩
      · refine fl_else rfl (decide_eq_false cc14) ?_
        refine fl_exit rfl ?_
        refine fl_seq ?_
        refine rl_start ?_
        refine rl_det (met_none rfl) (fun h_ H_ => exd_move (v := .int .i64 (((k : Nat) : Int))) rfl) (tm' := [_,_,_,_,_,_,_,_,_,_,_,_,_,_,_,_,_,_,_,_,_,_,_,_,_,_,_,_]) rfl ?_
        refine rl_det (met_none rfl) (fun h_ H_ => exd_assign (v := .int .i64 (((k : Nat) : Int))) rfl) rfl ?_
        refine rl_det (met_none rfl) (fun h_ H_ => exd_assign (v := .int .i64 0) rfl) rfl ?_
        refine rl_end ?_
        refine fl_ret Try.func52 rfl (vs := [.int .i64 (((k : Nat) : Int)), .int .i64 0]) (fun h_ H_ => ⟨.int .i64 (((k : Nat) : Int)), _, rfl, rfl, ⟨.int .i64 0, _, rfl, rfl, rfl⟩⟩) (v := .tuple #[.int .i64 (((k : Nat) : Int)), .int .i64 0]) rfl ?_
        exact fun h_ H_ => K _ _ ⟨by unfold spareR spUp; rw [if_pos h0, if_pos hla, hr, upTo_hit (by omega) (decide_eq_true ‹_›)]; rfl, H_.kept⟩
    · refine fl_then rfl (not_t (decide_eq_false cc3)) ?_
      refine fl_seq ?_
      refine rl_start ?_
      refine rl_det (met_none rfl) (fun h_ H_ => exd_assign (v := .int .i64 0) rfl) (tm' := _::_::_::_::_::_) rfl ?_
      refine rl_det (met_none rfl) (fun h_ H_ => exd_assign (v := .int .i64 3) rfl) rfl ?_
      refine rl_end ?_
      refine fl_ret Try.func52 rfl (vs := [.int .i64 0, .int .i64 3]) (fun h_ H_ => ⟨.int .i64 0, _, rfl, rfl, ⟨.int .i64 3, _, rfl, rfl, rfl⟩⟩) (v := .tuple #[.int .i64 0, .int .i64 3]) rfl ?_
      exact fun h_ H_ => K _ _ ⟨by unfold spareR; rw [if_pos (by omega), if_neg ‹_›], H_.kept⟩
end Go.Proofs.Ytbmkacnlhlbnjaa
namespace Go.Proofs.Ytbmkacnlhlbnjaa
open Go.X Go.X.Cist Go.Conc
set_option maxRecDepth 10000

set_option maxHeartbeats 8000000
theorem e12 (h : Heap) (p : PHeap) (hp : Per p h) (size start : Int) (a : Option Addr) (n c : Nat) (ds : List Day) (D : Days p a n ds) (k : Int) (_hk64 : -9223372036854775808 ≤ k ∧ k ≤ 9223372036854775807) : EntersX Try.prog (.main true) 12 #[.agg #[.int .i64 (size), .int .i64 (start), .slice a n c], .int .i64 (k)] h fun v h' => v = .bool true ∧ Keep h h' := by
  refine enters_intro (Φ := fun h_ => St h [] p h_ []) Try.func12 rfl (tm := [_, _, _, _, _, _, _, _, _, _, _, _, _, _, _, _, _, _, _, _, _, _, _, _, _, _, _, _, _, _, _, _, _, _, _, _, _, _, _, _, _, _, _, _, _, _, _, _, _, _, _, _, _, _, _, _, _, _, _, _, _, _, _, _, _, _, _, _, _, _, _, _, _, _, _, _, _, _, _, _, _, _, _, _, _, _, _, _, _, _, _, _, _, _, _, _, _, _, _, _, _, _, _, _, _, _, _, _, _, _, _, _, _, _, _]) rfl ?_ (St.start h _ hp)
  intro K
  have hl := D.len
  refine fl_seq ?_
  refine rl_start ?_
  refine rl_box (met_none rfl) (v := .agg #[.int .i64 (size), .int .i64 (start), .slice a n c]) rfl fun b1 => rl_own (L' := [(b1, .cells #[.int .i64 (size), .int .i64 (start), .slice a n c] 24 (0, 0))]) rfl ?_
  refine rl_det (met_none rfl) (fun h_ H_ => exd_assign (v := .bool (false)) rfl) rfl ?_
  refine rl_end ?_
  refine fl_seq ?_
  refine fl_seq ?_
  refine rl_start ?_
  refine rl_det (met_none rfl) (fun h_ H_ => exd_loadN_own H_ tA24 tS24 rfl (i := 0) rfl (vs := [.int .i64 (size), .int .i64 (start), .slice a n c]) rfl rfl) (tm' := _::_::_::_::_::_::_::_::_::_::_::_::_::_::_::_::_::_::_::_::_::_::_::_) rfl ?_
  refine rl_calld (met_none rfl) (first := []) (cap := []) rfl rfl fC39 (fun h_ H_ => c39 (.main true) _ _ (fun b_ o_ e_ => H_.per b_ o_ e_) size start _ _ _ _ D) rfl ?_
  refine rl_end ?_
  by_cases cc2 : FarD size start ds
  · refine fl_then rfl (decide_eq_true cc2) ?_
    refine fl_seq ?_
    refine rl_start ?_
    refine rl_calld (met_none rfl) (first := []) (cap := []) rfl rfl fC18 (fun h_ H_ => c18 _) rfl ?_
    refine rl_det (met_none rfl) (fun h_ H_ => exd_assign (v := .bool (true)) rfl) (tm' := _::_::_::_::_::_) rfl ?_
    refine rl_end ?_
    refine fl_retE (by kernel_rfl) Try.func12 rfl (vs := [.bool (true)]) (fun h_ H_ => ⟨.bool (true), _, rfl, rfl, rfl⟩) (v := .bool (true)) rfl ?_
    exact fun h_ H_ => K _ _ ⟨rfl, H_.kept⟩
  · refine fl_else rfl (decide_eq_false cc2) ?_
    refine fl_skip ?_
    refine fl_seq ?_
    have hf := ‹¬ FarD size start ds›
    have h40 : ds.length ≤ 40 := Nat.not_lt.1 fun h_ => hf (.inl h_)
    refine rl_start ?_
    refine rl_det (met_none rfl) (fun h_ H_ => exd_loadN_own H_ tA24 tS24 rfl (i := 0) rfl (vs := [.int .i64 (size), .int .i64 (start), .slice a n c]) rfl rfl) rfl ?_
    refine rl_own (L' := ([(b1, .cells #[.int .i64 (size), .int .i64 (start), .slice a n c] 24 (0, 0))] : Pcs) ++ []) rfl ?_
    refine rl_call (met_none rfl) (first := []) (cap := []) rfl rfl fC30 (R := fun v_ h_ => ∃ w3 : Value, ∃ X4 : Pcs, v_ = .agg #[.int .i64 (size), .int .i64 (start), w3] ∧ (OwnS 38 3 w3 (dcs ds) X4) ∧ St h [] p h_ (([(b1, .cells #[.int .i64 (size), .int .i64 (start), .slice a n c] 24 (0, 0))] : Pcs) ++ (X4 ++ []))) (fun h_ H_ => (c30 (.main true) _ _ (fun b_ o_ e_ => H_.per b_ o_ e_) (size) (start) _ _ _ _ D (by omega)).mono fun v_ h2_ ⟨w3, X4, e_, o5, N_⟩ => ⟨w3, X4, e_, o5, H_.callNA N_⟩) fun v_ => ?_
    refine rl_ex fun w3 => rl_ex fun X4 => rl_and fun ev_ => rl_and fun o5 => ?_
    have ev_ := ev_.symm; subst ev_
    refine rl_own (L' := ([(b1, .cells #[.int .i64 (size), .int .i64 (start), .slice a n c] 24 (0, 0))] : Pcs) ++ (X4 ++ [])) rfl ?_
    refine rl_alloc (met_none rfl) tZ24 rfl fun b6 => rl_own (L' := ([(b6, .cells #[.int .i64 0, .int .i64 0, .slice none 0 0] 24 (0, 0)), (b1, .cells #[.int .i64 (size), .int .i64 (start), .slice a n c] 24 (0, 0))] : Pcs) ++ (X4 ++ [])) rfl ?_
    refine rl_norm (tm' := _::_::_::_::_::_::_) rfl ?_
    refine rl_store (met_none rfl) tS24 rfl (v := .agg #[.int .i64 (size), .int .i64 (start), w3]) rfl (i := 0) rfl rfl (ones_cons rfl (ones_cons rfl (ones_cons o5.one.2 rfl))) (Nat.le_of_ble_eq_true rfl) (cs2 := [.int .i64 (size), .int .i64 (start), w3]) rfl (rl_own (L' := ([(b6, .cells #[.int .i64 (size), .int .i64 (start), w3] 24 (0, 0)), (b1, .cells #[.int .i64 (size), .int .i64 (start), .slice a n c] 24 (0, 0))] : Pcs) ++ (X4 ++ [])) rfl ?_)
    refine rl_end ?_
    refine fl_seq ?_
    refine rs_lastN (A := ([(b6, .cells #[.int .i64 (size), .int .i64 (start), w3] 24 (0, 0)), (b1, .cells #[.int .i64 (size), .int .i64 (start), .slice a n c] 24 (0, 0))] : Pcs)) o5 (show (dcs ds).length = n by rw [dcs_length]; omega) fun p7 a8 cp9 le10 ev_ D11 => ?_
    subst ev_
    refine rs_own (L' := [(b6, .cells #[.int .i64 (size), .int .i64 (start), .slice a8 n cp9] 24 (0, 0)), (b1, .cells #[.int .i64 (size), .int .i64 (start), .slice a n c] 24 (0, 0))]) rfl ?_
    refine rl_start ?_
    refine rl_det (met_none rfl) (fun h_ H_ => exd_loadN_own H_ tA24 tS24 rfl (i := 0) rfl (vs := [.int .i64 (size), .int .i64 (start), .slice a8 n cp9]) rfl rfl) rfl ?_
    refine rl_calld (met_none rfl) (first := []) (cap := []) rfl rfl fC45 (fun h_ H_ => c45 (.main true) _ _ (fun b_ o_ e_ => H_.per b_ o_ e_) (size) (start) _ _ _ _ (show Days _ _ _ ds from D11) (by omega)) rfl ?_
    refine rl_det (met_none rfl) (fun h_ H_ => exd_move (v := .tuple #[.int .i64 ((sizeR size start ds).1), .int .i64 ((sizeR size start ds).2)]) rfl) (tm' := _::_::_::_::_::_::_::_::_::_::_::_::_::_::_::_::_::_::_::_::_::_::_::_::_::_::_::_::_) rfl ?_
    refine rl_det (met_none rfl) (fun h_ H_ => exd_extract rfl (v := .int .i64 ((sizeR size start ds).1)) rfl) rfl ?_
    refine rl_det (met_none rfl) (fun h_ H_ => exd_extract rfl (v := .int .i64 ((sizeR size start ds).2)) rfl) rfl ?_
    refine rl_det (met_none rfl) (fun h_ H_ => exd_assign (v := .int .i64 ((sizeR size start ds).1)) rfl) (tm' := _::_::_::_::_::_::_::_) rfl ?_
    refine rl_det (met_none rfl) (fun h_ H_ => exd_assign (v := .int .i64 ((sizeR size start ds).2)) rfl) rfl ?_
    refine rl_end ?_
    refine fl_seq ?_
    refine rl_start ?_
    refine rl_det (met_none rfl) (fun h_ H_ => exd_loadN_own H_ tA24 tS24 rfl (i := 1) rfl (vs := [.int .i64 (size), .int .i64 (start), .slice a n c]) rfl rfl) rfl ?_
    refine rl_calld (met_none rfl) (first := []) (cap := []) rfl rfl fC49 (fun h_ H_ => c49 (.main true) _ _ (fun b_ o_ e_ => H_.per b_ o_ e_) (size) (start) _ _ _ _ (D.mono le10) (by omega) (fun hO_ => far_wea hO_ hf)) (tm' := _::_::_::_::_::_::_::_::_::_::_::_::_::_::_::_::_::_::_::_::_::_::_::_::_::_::_::_::_::_::_::_::_::_::_::_) rfl ?_
    refine rl_det (met_none rfl) (fun h_ H_ => exd_move (v := .tuple #[.int .i64 ((sizeR size start ds).1), .int .i64 ((sizeR size start ds).2)]) rfl) rfl ?_
    refine rl_det (met_none rfl) (fun h_ H_ => exd_extract rfl (v := .int .i64 ((sizeR size start ds).1)) rfl) rfl ?_
    refine rl_det (met_none rfl) (fun h_ H_ => exd_extract rfl (v := .int .i64 ((sizeR size start ds).2)) rfl) (tm' := _::_::_::_::_::_::_::_::_::_::_::_::_::_::_::_::_::_::_::_::_::_::_::_::_::_::_::_::_::_::_::_::_::_::_::_::_::_) rfl ?_
    refine rl_det (met_none rfl) (fun h_ H_ => exd_assign (v := .int .i64 ((sizeR size start ds).1)) rfl) rfl ?_
    refine rl_det (met_none rfl) (fun h_ H_ => exd_assign (v := .int .i64 ((sizeR size start ds).2)) rfl) rfl ?_
    refine rl_end ?_
    refine fl_seq ?_
    refine rl_start ?_
    refine rl_det (met_none rfl) (fun h_ H_ => exd_loadN_own H_ tA24 tS24 rfl (i := 0) rfl (vs := [.int .i64 (size), .int .i64 (start), .slice a8 n cp9]) rfl rfl) (tm' := _::_::_::_::_::_::_::_::_::_::_::_::_::_::_::_::_::_::_::_::_::_::_::_::_::_::_::_::_::_::_::_::_::_::_::_::_::_::_::_) rfl ?_
    refine rl_calld (met_none rfl) (first := []) (cap := []) rfl rfl fC46 (fun h_ H_ => c46 (.main true) _ _ (fun b_ o_ e_ => H_.per b_ o_ e_) (size) (start) _ _ _ _ (show Days _ _ _ ds from D11) (by omega)) rfl ?_
    refine rl_det (met_none rfl) (fun h_ H_ => exd_move (v := .tuple #[.int .i64 ((startR size start ds).1), .int .i64 ((startR size start ds).2)]) rfl) rfl ?_
    refine rl_det (met_none rfl) (fun h_ H_ => exd_extract rfl (v := .int .i64 ((startR size start ds).1)) rfl) (tm' := _::_::_::_::_::_::_::_::_::_::_::_::_::_::_::_::_::_::_::_::_::_::_::_::_::_::_::_::_::_::_::_::_::_::_::_::_::_::_::_::_::_) rfl ?_
    refine rl_det (met_none rfl) (fun h_ H_ => exd_extract rfl (v := .int .i64 ((startR size start ds).2)) rfl) rfl ?_
    refine rl_det (met_none rfl) (fun h_ H_ => exd_assign (v := .int .i64 ((startR size start ds).1)) rfl) rfl ?_
    refine rl_det (met_none rfl) (fun h_ H_ => exd_assign (v := .int .i64 ((startR size start ds).2)) rfl) (tm' := _::_::_::_::_::_::_::_::_::_::_::_::_) rfl ?_
    refine rl_end ?_
    refine fl_seq ?_
    refine rl_start ?_
    refine rl_det (met_none rfl) (fun h_ H_ => exd_loadN_own H_ tA24 tS24 rfl (i := 1) rfl (vs := [.int .i64 (size), .int .i64 (start), .slice a n c]) rfl rfl) rfl ?_
    refine rl_calld (met_none rfl) (first := []) (cap := []) rfl rfl fC50 (fun h_ H_ => c50 (.main true) _ _ (fun b_ o_ e_ => H_.per b_ o_ e_) (size) (start) _ _ _ _ (D.mono le10) (by omega) (fun hO_ => far_wea hO_ hf)) rfl ?_
    refine rl_det (met_none rfl) (fun h_ H_ => exd_move (v := .tuple #[.int .i64 ((startR size start ds).1), .int .i64 ((startR size start ds).2)]) rfl) (tm' := _::_::_::_::_::_::_::_::_::_::_::_::_::_::_::_::_::_::_::_::_::_::_::_::_::_::_::_::_::_::_::_::_::_::_::_::_::_::_::_::_::_::_::_) rfl ?_
    refine rl_det (met_none rfl) (fun h_ H_ => exd_extract rfl (v := .int .i64 ((startR size start ds).1)) rfl) rfl ?_
    refine rl_det (met_none rfl) (fun h_ H_ => exd_extract rfl (v := .int .i64 ((startR size start ds).2)) rfl) rfl ?_
    refine rl_det (met_none rfl) (fun h_ H_ => exd_assign (v := .int .i64 ((startR size start ds).1)) rfl) (tm' := _::_::_::_::_::_::_::_::_::_::_::_::_::_) rfl ?_
    refine rl_det (met_none rfl) (fun h_ H_ => exd_assign (v := .int .i64 ((startR size start ds).2)) rfl) rfl ?_
    refine rl_end ?_
    refine fl_seq ?_
    refine rl_start ?_
    refine rl_det (met_none rfl) (fun h_ H_ => exd_loadN_own H_ tA24 tS24 rfl (i := 0) rfl (vs := [.int .i64 (size), .int .i64 (start), .slice a8 n cp9]) rfl rfl) rfl ?_
    refine rl_calld (met_none rfl) (first := []) (cap := []) rfl rfl fC23 (fun h_ H_ => c23 (.main true) _ _ (fun b_ o_ e_ => H_.per b_ o_ e_) (size) (start) _ _ _ _ (show Days _ _ _ ds from D11) (by omega)) (tm' := _::_::_::_::_::_::_::_::_::_::_::_::_::_::_::_::_::_::_::_::_::_::_::_::_::_::_::_::_::_::_::_::_::_::_::_::_::_::_::_::_::_::_::_::_::_::_::_::_::_::_) rfl ?_
    refine rl_det (met_none rfl) (fun h_ H_ => exd_move (v := .tuple #[.int .i64 ((if Ok size start ds then ratDown size start ds 20 else 0)), .int .i64 ((chk size start ds))]) rfl) rfl ?_
    refine rl_det (met_none rfl) (fun h_ H_ => exd_extract rfl (v := .int .i64 ((if Ok size start ds then ratDown size start ds 20 else 0))) rfl) rfl ?_
    refine rl_det (met_none rfl) (fun h_ H_ => exd_extract rfl (v := .int .i64 ((chk size start ds))) rfl) (tm' := _::_::_::_::_::_::_::_::_::_::_::_::_::_::_::_::_::_::_::_::_::_::_::_::_::_::_::_::_::_::_::_::_::_::_::_::_::_::_::_::_::_::_::_::_::_::_::_::_::_::_::_::_) rfl ?_
    refine rl_det (met_none rfl) (fun h_ H_ => exd_assign (v := .int .i64 ((if Ok size start ds then ratDown size start ds 20 else 0))) rfl) rfl ?_
    refine rl_det (met_none rfl) (fun h_ H_ => exd_assign (v := .int .i64 ((chk size start ds))) rfl) rfl ?_
    refine rl_end ?_
    refine fl_seq ?_
    refine rl_start ?_
    refine rl_det (met_none rfl) (fun h_ H_ => exd_loadN_own H_ tA24 tS24 rfl (i := 1) rfl (vs := [.int .i64 (size), .int .i64 (start), .slice a n c]) rfl rfl) (tm' := _::_::_::_::_::_::_::_::_::_::_::_::_::_::_::_::_::_::_::_::_::_::_::_::_::_::_::_::_::_::_::_::_::_::_::_::_::_::_::_::_::_::_::_::_::_::_::_::_::_::_::_::_::_::_) rfl ?_
    refine rl_calld (met_none rfl) (first := []) (cap := []) rfl rfl fC51 (fun h_ H_ => c51 (.main true) _ _ (fun b_ o_ e_ => H_.per b_ o_ e_) (size) (start) _ _ _ _ (D.mono le10) (by omega) (fun hO_ => far_wea hO_ hf)) rfl ?_
    refine rl_det (met_none rfl) (fun h_ H_ => exd_move (v := .tuple #[.int .i64 ((if Ok size start ds then ratDown size start ds 20 else 0)), .int .i64 ((chk size start ds))]) rfl) rfl ?_
    refine rl_det (met_none rfl) (fun h_ H_ => exd_extract rfl (v := .int .i64 ((if Ok size start ds then ratDown size start ds 20 else 0))) rfl) (tm' := _::_::_::_::_::_::_::_::_::_::_::_::_::_::_::_::_::_::_::_::_::_::_::_::_::_::_::_::_::_::_::_::_::_::_::_::_::_::_::_::_::_::_::_::_::_::_::_::_::_::_::_::_::_::_::_::_) rfl ?_
    refine rl_det (met_none rfl) (fun h_ H_ => exd_extract rfl (v := .int .i64 ((chk size start ds))) rfl) rfl ?_
    refine rl_det (met_none rfl) (fun h_ H_ => exd_assign (v := .int .i64 ((if Ok size start ds then ratDown size start ds 20 else 0))) rfl) rfl ?_
    refine rl_det (met_none rfl) (fun h_ H_ => exd_assign (v := .int .i64 ((chk size start ds))) rfl) (tm' := _::_::_::_::_::_::_::_::_::_::_::_::_::_::_::_::_::_::_) rfl ?_
    refine rl_end ?_
    refine fl_seq ?_
    refine rl_start ?_
    refine rl_det (met_none rfl) (fun h_ H_ => exd_loadN_own H_ tA24 tS24 rfl (i := 0) rfl (vs := [.int .i64 (size), .int .i64 (start), .slice a8 n cp9]) rfl rfl) rfl ?_
    refine rl_det (met_none rfl) (fun h_ H_ => exd_move (v := .int .i64 (k)) rfl) rfl ?_
    refine rl_calld (met_none rfl) (first := []) (cap := []) rfl rfl fC27 (fun h_ H_ => c27 (.main true) _ _ (fun b_ o_ e_ => H_.per b_ o_ e_) (size) (start) _ _ _ _ (show Days _ _ _ ds from D11) (by omega) k) (tm' := _::_::_::_::_::_::_::_::_::_::_::_::_::_::_::_::_::_::_::_::_::_::_::_::_::_::_::_::_::_::_::_::_::_::_::_::_::_::_::_::_::_::_::_::_::_::_::_::_::_::_::_::_::_::_::_::_::_::_::_::_::_) rfl ?_
    refine rl_det (met_none rfl) (fun h_ H_ => exd_move (v := .tuple #[.int .i64 ((spareR size start ds k).1), .int .i64 ((spareR size start ds k).2)]) rfl) rfl ?_
    refine rl_det (met_none rfl) (fun h_ H_ => exd_extract rfl (v := .int .i64 ((spareR size start ds k).1)) rfl) rfl ?_
    refine rl_det (met_none rfl) (fun h_ H_ => exd_extract rfl (v := .int .i64 ((spareR size start ds k).2)) rfl) (tm' := _::_::_::_::_::_::_::_::_::_::_::_::_::_::_::_::_::_::_::_::_::_::_::_::_::_::_::_::_::_::_::_::_::_::_::_::_::_::_::_::_::_::_::_::_::_::_::_::_::_::_::_::_::_::_::_::_::_::_::_::_::_::_::_) rfl ?_
    refine rl_det (met_none rfl) (fun h_ H_ => exd_assign (v := .int .i64 ((spareR size start ds k).1)) rfl) rfl ?_
    refine rl_det (met_none rfl) (fun h_ H_ => exd_assign (v := .int .i64 ((spareR size start ds k).2)) rfl) rfl ?_
    refine rl_end ?_
    refine fl_seq ?_
    refine rl_start ?_
    refine rl_det (met_none rfl) (fun h_ H_ => exd_loadN_own H_ tA24 tS24 rfl (i := 1) rfl (vs := [.int .i64 (size), .int .i64 (start), .slice a n c]) rfl rfl) (tm' := _::_::_::_::_::_::_::_::_::_::_::_::_::_::_::_::_::_::_::_::_::_::_::_::_::_::_::_::_::_::_::_::_::_::_::_::_::_::_::_::_::_::_::_::_::_::_::_::_::_::_::_::_::_::_::_::_::_::_::_::_::_::_::_::_::_) rfl ?_
    refine rl_det (met_none rfl) (fun h_ H_ => exd_move (v := .int .i64 (k)) rfl) rfl ?_
    refine rl_calld (met_none rfl) (first := []) (cap := []) rfl rfl fC52 (fun h_ H_ => c52 (.main true) _ _ (fun b_ o_ e_ => H_.per b_ o_ e_) (size) (start) _ _ _ _ (D.mono le10) (by omega) (fun hO_ => far_wea hO_ hf) k) rfl ?_
    refine rl_det (met_none rfl) (fun h_ H_ => exd_move (v := .tuple #[.int .i64 ((spareR size start ds k).1), .int .i64 ((spareR size start ds k).2)]) rfl) (tm' := _::_::_::_::_::_::_::_::_::_::_::_::_::_::_::_::_::_::_::_::_::_::_::_::_::_::_::_::_::_::_::_::_::_::_::_::_::_::_::_::_::_::_::_::_::_::_::_::_::_::_::_::_::_::_::_::_::_::_::_::_::_::_::_::_) rfl ?_
    refine rl_det (met_none rfl) (fun h_ H_ => exd_extract rfl (v := .int .i64 ((spareR size start ds k).1)) rfl) rfl ?_
    refine rl_det (met_none rfl) (fun h_ H_ => exd_extract rfl (v := .int .i64 ((spareR size start ds k).2)) rfl) rfl ?_
    refine rl_det (met_none rfl) (fun h_ H_ => exd_assign (v := .int .i64 ((spareR size start ds k).1)) rfl) (tm' := _::_::_::_::_::_::_::_::_::_::_::_::_::_::_::_::_::_::_::_::_::_) rfl ?_
    refine rl_det (met_none rfl) (fun h_ H_ => exd_assign (v := .int .i64 ((spareR size start ds k).2)) rfl) rfl ?_
    refine rl_end ?_
    refine fl_seq ?_
    refine rl_start ?_
    refine rl_det (met_none rfl) (fun h_ H_ => exd_move (v := .int .i64 ((sizeR size start ds).1)) rfl) rfl ?_
    refine rl_det (met_none rfl) (fun h_ H_ => exd_move (v := .int .i64 ((sizeR size start ds).1)) rfl) (tm' := _::_::_::_::_::_::_::_::_::_::_::_::_::_::_::_::_::_::_::_::_::_::_::_::_::_::_::_::_::_::_::_::_::_::_::_::_::_::_::_::_::_::_::_::_::_::_::_::_::_::_::_::_::_::_::_::_::_::_::_::_::_::_::_::_::_::_::_::_::_::_::_) rfl ?_
    refine rl_det (met_none rfl) (fun h_ H_ => exd_eql rfl rfl) rfl ?_
    refine rl_det (met_none rfl) (fun h_ H_ => exd_move (v := .bool (decide ((sizeR size start ds).1 = (sizeR size start ds).1))) rfl) rfl ?_
    refine rl_det (met_some rfl rfl (decide_eq_true rfl)) (fun h_ H_ => exd_move (v := .int .i64 ((sizeR size start ds).2)) rfl) (tm' := _::_::_::_::_::_::_::_::_::_::_::_::_::_::_::_::_::_::_::_::_::_::_::_::_::_::_::_::_::_::_::_::_::_::_::_::_::_::_::_::_::_::_::_::_::_::_::_::_::_::_::_::_::_::_::_::_::_::_::_::_::_::_::_::_::_::_::_::_::_::_::_::_::_::_) rfl ?_
    refine rl_det (met_some rfl rfl (decide_eq_true rfl)) (fun h_ H_ => exd_move (v := .int .i64 ((sizeR size start ds).2)) rfl) rfl ?_
    refine rl_det (met_some rfl rfl (decide_eq_true rfl)) (fun h_ H_ => exd_eql rfl rfl) rfl ?_
    refine rl_det (met_none rfl) (fun h_ H_ => exd_pick_t rfl (decide_eq_true rfl) (v := .bool (decide ((sizeR size start ds).2 = (sizeR size start ds).2))) rfl) (tm' := [_,_,_,_,_,_,_,_,_,_,_,_,_,_,_,_,_,_,_,_,_,_,_,_,_,_,_,_,_,_,_,_,_,_,_,_,_,_,_,_,_,_,_,_,_,_,_,_,_,_,_,_,_,_,_,_,_,_,_,_,_,_,_,_,_,_,_,_,_,_,_,_,_,_,_,_,_,_,_,_,_,_,_,_,_,_,_,_,_,_,_,_,_,_,_,_,_,_,_,_,_,_,_,_,_,_,_,_,_,_,_,_,_,_,_]) rfl ?_
    refine rl_det (met_none rfl) (fun h_ H_ => exd_move (v := .bool (decide ((sizeR size start ds).2 = (sizeR size start ds).2))) rfl) rfl ?_
    refine rl_det (met_some rfl rfl (decide_eq_true rfl)) (fun h_ H_ => exd_move (v := .int .i64 ((startR size start ds).1)) rfl) rfl ?_
    refine rl_det (met_some rfl rfl (decide_eq_true rfl)) (fun h_ H_ => exd_move (v := .int .i64 ((startR size start ds).1)) rfl) (tm' := [_,_,_,_,_,_,_,_,_,_,_,_,_,_,_,_,_,_,_,_,_,_,_,_,_,_,_,_,_,_,_,_,_,_,_,_,_,_,_,_,_,_,_,_,_,_,_,_,_,_,_,_,_,_,_,_,_,_,_,_,_,_,_,_,_,_,_,_,_,_,_,_,_,_,_,_,_,_,_,_,_,_,_,_,_,_,_,_,_,_,_,_,_,_,_,_,_,_,_,_,_,_,_,_,_,_,_,_,_,_,_,_,_,_,_]) rfl ?_
    refine rl_det (met_some rfl rfl (decide_eq_true rfl)) (fun h_ H_ => exd_eql rfl rfl) rfl ?_
    refine rl_det (met_none rfl) (fun h_ H_ => exd_pick_t rfl (decide_eq_true rfl) (v := .bool (decide ((startR size start ds).1 = (startR size start ds).1))) rfl) rfl ?_
    refine rl_det (met_none rfl) (fun h_ H_ => exd_move (v := .bool (decide ((startR size start ds).1 = (startR size start ds).1))) rfl) (tm' := [_,_,_,_,_,_,_,_,_,_,_,_,_,_,_,_,_,_,_,_,_,_,_,_,_,_,_,_,_,_,_,_,_,_,_,_,_,_,_,_,_,_,_,_,_,_,_,_,_,_,_,_,_,_,_,_,_,_,_,_,_,_,_,_,_,_,_,_,_,_,_,_,_,_,_,_,_,_,_,_,_,_,_,_,_,_,_,_,_,_,_,_,_,_,_,_,_,_,_,_,_,_,_,_,_,_,_,_,_,_,_,_,_,_,_]) rfl ?_
    refine rl_det (met_some rfl rfl (decide_eq_true rfl)) (fun h_ H_ => exd_move (v := .int .i64 ((startR size start ds).2)) rfl) rfl ?_
    refine rl_det (met_some rfl rfl (decide_eq_true rfl)) (fun h_ H_ => exd_move (v := .int .i64 ((startR size start ds).2)) rfl) rfl ?_
    refine rl_det (met_some rfl rfl (decide_eq_true rfl)) (fun h_ H_ => exd_eql rfl rfl) (tm' := [_,_,_,_,_,_,_,_,_,_,_,_,_,_,_,_,_,_,_,_,_,_,_,_,_,_,_,_,_,_,_,_,_,_,_,_,_,_,_,_,_,_,_,_,_,_,_,_,_,_,_,_,_,_,_,_,_,_,_,_,_,_,_,_,_,_,_,_,_,_,_,_,_,_,_,_,_,_,_,_,_,_,_,_,_,_,_,_,_,_,_,_,_,_,_,_,_,_,_,_,_,_,_,_,_,_,_,_,_,_,_,_,_,_,_]) rfl ?_
    refine rl_det (met_none rfl) (fun h_ H_ => exd_pick_t rfl (decide_eq_true rfl) (v := .bool (decide ((startR size start ds).2 = (startR size start ds).2))) rfl) rfl ?_
    refine rl_det (met_none rfl) (fun h_ H_ => exd_move (v := .bool (decide ((startR size start ds).2 = (startR size start ds).2))) rfl) rfl ?_
    refine rl_det (met_some rfl rfl (decide_eq_true rfl)) (fun h_ H_ => exd_move (v := .int .i64 ((if Ok size start ds then ratDown size start ds 20 else 0))) rfl) (tm' := [_,_,_,_,_,_,_,_,_,_,_,_,_,_,_,_,_,_,_,_,_,_,_,_,_,_,_,_,_,_,_,_,_,_,_,_,_,_,_,_,_,_,_,_,_,_,_,_,_,_,_,_,_,_,_,_,_,_,_,_,_,_,_,_,_,_,_,_,_,_,_,_,_,_,_,_,_,_,_,_,_,_,_,_,_,_,_,_,_,_,_,_,_,_,_,_,_,_,_,_,_,_,_,_,_,_,_,_,_,_,_,_,_,_,_]) rfl ?_
    refine rl_det (met_some rfl rfl (decide_eq_true rfl)) (fun h_ H_ => exd_move (v := .int .i64 ((if Ok size start ds then ratDown size start ds 20 else 0))) rfl) rfl ?_
    refine rl_det (met_some rfl rfl (decide_eq_true rfl)) (fun h_ H_ => exd_eql rfl rfl) rfl ?_
    refine rl_det (met_none rfl) (fun h_ H_ => exd_pick_t rfl (decide_eq_true rfl) (v := .bool (decide ((if Ok size start ds then ratDown size start ds 20 else 0) = (if Ok size start ds then ratDown size start ds 20 else 0)))) rfl) (tm' := [_,_,_,_,_,_,_,_,_,_,_,_,_,_,_,_,_,_,_,_,_,_,_,_,_,_,_,_,_,_,_,_,_,_,_,_,_,_,_,_,_,_,_,_,_,_,_,_,_,_,_,_,_,_,_,_,_,_,_,_,_,_,_,_,_,_,_,_,_,_,_,_,_,_,_,_,_,_,_,_,_,_,_,_,_,_,_,_,_,_,_,_,_,_,_,_,_,_,_,_,_,_,_,_,_,_,_,_,_,_,_,_,_,_,_]) rfl ?_
    refine rl_det (met_none rfl) (fun h_ H_ => exd_move (v := .bool (decide ((if Ok size start ds then ratDown size start ds 20 else 0) = (if Ok size start ds then ratDown size start ds 20 else 0)))) rfl) rfl ?_
    refine rl_det (met_some rfl rfl (decide_eq_true rfl)) (fun h_ H_ => exd_move (v := .int .i64 ((chk size start ds))) rfl) rfl ?_
    refine rl_det (met_some rfl rfl (decide_eq_true rfl)) (fun h_ H_ => exd_move (v := .int .i64 ((chk size start ds))) rfl) (tm' := [_,_,_,_,_,_,_,_,_,_,_,_,_,_,_,_,_,_,_,_,_,_,_,_,_,_,_,_,_,_,_,_,_,_,_,_,_,_,_,_,_,_,_,_,_,_,_,_,_,_,_,_,_,_,_,_,_,_,_,_,_,_,_,_,_,_,_,_,_,_,_,_,_,_,_,_,_,_,_,_,_,_,_,_,_,_,_,_,_,_,_,_,_,_,_,_,_,_,_,_,_,_,_,_,_,_,_,_,_,_,_,_,_,_,_]) rfl ?_
    refine rl_det (met_some rfl rfl (decide_eq_true rfl)) (fun h_ H_ => exd_eql rfl rfl) rfl ?_
    refine rl_det (met_none rfl) (fun h_ H_ => exd_pick_t rfl (decide_eq_true rfl) (v := .bool (decide ((chk size start ds) = (chk size start ds)))) rfl) rfl ?_
    refine rl_det (met_none rfl) (fun h_ H_ => exd_move (v := .bool (decide ((chk size start ds) = (chk size start ds)))) rfl) (tm' := [_,_,_,_,_,_,_,_,_,_,_,_,_,_,_,_,_,_,_,_,_,_,_,_,_,_,_,_,_,_,_,_,_,_,_,_,_,_,_,_,_,_,_,_,_,_,_,_,_,_,_,_,_,_,_,_,_,_,_,_,_,_,_,_,_,_,_,_,_,_,_,_,_,_,_,_,_,_,_,_,_,_,_,_,_,_,_,_,_,_,_,_,_,_,_,_,_,_,_,_,_,_,_,_,_,_,_,_,_,_,_,_,_,_,_]) rfl ?_
    refine rl_det (met_some rfl rfl (decide_eq_true rfl)) (fun h_ H_ => exd_move (v := .int .i64 ((spareR size start ds k).1)) rfl) rfl ?_
    refine rl_det (met_some rfl rfl (decide_eq_true rfl)) (fun h_ H_ => exd_move (v := .int .i64 ((spareR size start ds k).1)) rfl) rfl ?_
    refine rl_det (met_some rfl rfl (decide_eq_true rfl)) (fun h_ H_ => exd_eql rfl rfl) (tm' := [_,_,_,_,_,_,_,_,_,_,_,_,_,_,_,_,_,_,_,_,_,_,_,_,_,_,_,_,_,_,_,_,_,_,_,_,_,_,_,_,_,_,_,_,_,_,_,_,_,_,_,_,_,_,_,_,_,_,_,_,_,_,_,_,_,_,_,_,_,_,_,_,_,_,_,_,_,_,_,_,_,_,_,_,_,_,_,_,_,_,_,_,_,_,_,_,_,_,_,_,_,_,_,_,_,_,_,_,_,_,_,_,_,_,_]) rfl ?_
    refine rl_det (met_none rfl) (fun h_ H_ => exd_pick_t rfl (decide_eq_true rfl) (v := .bool (decide ((spareR size start ds k).1 = (spareR size start ds k).1))) rfl) rfl ?_
    refine rl_det (met_none rfl) (fun h_ H_ => exd_move (v := .bool (decide ((spareR size start ds k).1 = (spareR size start ds k).1))) rfl) rfl ?_
    refine rl_det (met_some rfl rfl (decide_eq_true rfl)) (fun h_ H_ => exd_move (v := .int .i64 ((spareR size start ds k).2)) rfl) (tm' := [_,_,_,_,_,_,_,_,_,_,_,_,_,_,_,_,_,_,_,_,_,_,_,_,_,_,_,_,_,_,_,_,_,_,_,_,_,_,_,_,_,_,_,_,_,_,_,_,_,_,_,_,_,_,_,_,_,_,_,_,_,_,_,_,_,_,_,_,_,_,_,_,_,_,_,_,_,_,_,_,_,_,_,_,_,_,_,_,_,_,_,_,_,_,_,_,_,_,_,_,_,_,_,_,_,_,_,_,_,_,_,_,_,_,_]) rfl ?_
    refine rl_det (met_some rfl rfl (decide_eq_true rfl)) (fun h_ H_ => exd_move (v := .int .i64 ((spareR size start ds k).2)) rfl) rfl ?_
    refine rl_det (met_some rfl rfl (decide_eq_true rfl)) (fun h_ H_ => exd_eql rfl rfl) rfl ?_
    refine rl_det (met_none rfl) (fun h_ H_ => exd_pick_t rfl (decide_eq_true rfl) (v := .bool (decide ((spareR size start ds k).2 = (spareR size start ds k).2))) rfl) (tm' := [_,_,_,_,_,_,_,_,_,_,_,_,_,_,_,_,_,_,_,_,_,_,_,_,_,_,_,_,_,_,_,_,_,_,_,_,_,_,_,_,_,_,_,_,_,_,_,_,_,_,_,_,_,_,_,_,_,_,_,_,_,_,_,_,_,_,_,_,_,_,_,_,_,_,_,_,_,_,_,_,_,_,_,_,_,_,_,_,_,_,_,_,_,_,_,_,_,_,_,_,_,_,_,_,_,_,_,_,_,_,_,_,_,_,_]) rfl ?_
    refine rl_det (met_none rfl) (fun h_ H_ => exd_move (v := .bool (decide ((spareR size start ds k).2 = (spareR size start ds k).2))) rfl) rfl ?_
    refine rl_det (met_some rfl rfl (decide_eq_true rfl)) (fun h_ H_ => exd_loadN_own H_ tA24 tS24 rfl (i := 0) rfl (vs := [.int .i64 (size), .int .i64 (start), .slice a8 n cp9]) rfl rfl) rfl ?_
    refine rl_det (met_some rfl rfl (decide_eq_true rfl)) (fun h_ H_ => exd_loadN_own H_ tA24 tS24 rfl (i := 1) rfl (vs := [.int .i64 (size), .int .i64 (start), .slice a n c]) rfl rfl) (tm' := [_,_,_,_,_,_,_,_,_,_,_,_,_,_,_,_,_,_,_,_,_,_,_,_,_,_,_,_,_,_,_,_,_,_,_,_,_,_,_,_,_,_,_,_,_,_,_,_,_,_,_,_,_,_,_,_,_,_,_,_,_,_,_,_,_,_,_,_,_,_,_,_,_,_,_,_,_,_,_,_,_,_,_,_,_,_,_,_,_,_,_,_,_,_,_,_,_,_,_,_,_,_,_,_,_,_,_,_,_,_,_,_,_,_,_]) rfl ?_
    refine rl_calld (met_some rfl rfl (decide_eq_true rfl)) (first := []) (cap := []) rfl rfl fC37 (fun h_ H_ => c37 (.main true) _ _ (fun b_ o_ e_ => H_.per b_ o_ e_) size start _ _ _ _ (show Days _ _ _ ds from D11) size start _ _ _ _ (D.mono le10) (by omega)) rfl ?_
    refine rl_det (met_none rfl) (fun h_ H_ => exd_pick_t rfl (decide_eq_true rfl) (v := .bool (decide (size = size ∧ start = start ∧ ds = ds))) rfl) rfl ?_
    refine rl_det (met_none rfl) (fun h_ H_ => exd_move (v := .bool (decide (size = size ∧ start = start ∧ ds = ds))) rfl) (tm' := [_,_,_,_,_,_,_,_,_,_,_,_,_,_,_,_,_,_,_,_,_,_,_,_,_,_,_,_,_,_,_,_,_,_,_,_,_,_,_,_,_,_,_,_,_,_,_,_,_,_,_,_,_,_,_,_,_,_,_,_,_,_,_,_,_,_,_,_,_,_,_,_,_,_,_,_,_,_,_,_,_,_,_,_,_,_,_,_,_,_,_,_,_,_,_,_,_,_,_,_,_,_,_,_,_,_,_,_,_,_,_,_,_,_,_]) rfl ?_
    refine rl_calld (met_some rfl rfl (decide_eq_true ⟨rfl, rfl, rfl⟩)) (first := []) (cap := []) rfl rfl fC18 (fun h_ H_ => c18 _) rfl ?_
    refine rl_det (met_none rfl) (fun h_ H_ => exd_pick_t rfl (decide_eq_true ⟨rfl, rfl, rfl⟩) (v := .bool (true)) rfl) rfl ?_
    refine rl_det (met_none rfl) (fun h_ H_ => exd_assign (v := .bool (true)) rfl) (tm' := _::_::_::_::_::_) rfl ?_
    refine rl_end ?_
    refine fl_retE (by kernel_rfl) Try.func12 rfl (vs := [.bool (true)]) (fun h_ H_ => ⟨.bool (true), _, rfl, rfl, rfl⟩) (v := .bool (true)) rfl ?_
    exact fun h_ H_ => K _ _ ⟨rfl, H_.kept⟩
end Go.Proofs.Ytbmkacnlhlbnjaa
namespace Go.Proofs.Ytbmkacnlhlbnjaa
open Go.X Go.X.Cist Go.Conc Go.RowKit Go.ChangeShapes Go.WideShapes Go.ChangeAt Go.Joins
set_option maxRecDepth 100000

theorem lifted12 (os : Os) (started : os.Started) (H : Type) (enc : TypeId × Value → H) :
    ReturnsInLeavingWide {} Try.checked os 12 .any (Rows.cisternsSizeSpec.pre6 enc Try.prog Try.f12 Rows.cisternsSizeRow.domain false) (Rows.cisternsSizeSpec.post enc Try.prog Try.f12 false true false false) := by
  refine returnsInLeavingWide_of_change_sized (C := Try.checked) pOwn started Try.func12
    (ChangeSpec.witness6 (enc := enc) (C := Try.checked) false ⟨#[], #[.agg #[.int .i64 0, .int .i64 0, .slice none 0 0], .int .i64 0], []⟩ 8 (by kernel_rfl) (by kernel_rfl) (by kernel_rfl) (by kernel_rfl)) ?_
  intro W base args ds gs before hval0 hW _ _ _
  have hval : ∀ (j : Nat) t v, Try.f12.params[j]? = some t → args[j]? = some v → Value.okWide Try.prog W .any base t v := hval0
  have hW2 := hW
  obtain ⟨p, q, hA0, hV, rfl, _, _⟩ := hW2
  have hA : DataW.TrodAll enc Try.prog W 0 (fun _ => true) true Try.f12.params.toList args.toList ds p := hA0
  rw [Try.params12] at hA hval
  obtain ⟨v0, v1, d0, d1, p0, p1, rfl, rfl, _, h0, h1⟩ := trodAll_two hA
  obtain ⟨rfl, rfl⟩ := trodVars_none hV
  obtain ⟨size, start, a, n, c, ds, rfl, D⟩ := open_year (hval 0 24 v0 rfl rfl) h0
  obtain ⟨k, rfl, hk⟩ := open_num (hval 1 3 v1 rfl rfl) h1
  obtain ⟨N, last, o, w2, t2, r1, r2, r3, r4⟩ := good_of_enters (w := W) (e12 (nilV W.heap) (vwP W) (vwP_per W) size start a n c ds D k hk) fun v h2 r => r.2
  refine ⟨N, last, o, w2, t2, r1, r2, r3, r4.mono fun v ⟨hB, h2, e, _⟩ => ?_⟩
  subst e
  exact law_post pLaid rfl (fun t ht => by rw [Try.params12] at ht; revert t; decide +kernel) rfl Try.underlying4 hW rfl hB

theorem cisternsSizeHolds : Rows.CisternsSizeSaid :=
  OpenClaim.holds_of_wide_leaving 12 Try.f12 rfl rfl rfl rfl rfl rfl rfl ⟨rfl, rfl, rfl, rfl, rfl⟩ rfl rfl rfl rfl rfl (by kernel_rfl) Try.func12 (by kernel_rfl)
    (of_decide_eq_true (by kernel_rfl)) (by unfold Func.isWrapper; rw [if_neg (of_decide_eq_false (by kernel_rfl))]; exact ⟨rfl, rfl⟩)
    (fun os started H enc _ => lifted12 os started H enc)

#print axioms cisternsSizeHolds
end Go.Proofs.Ytbmkacnlhlbnjaa
