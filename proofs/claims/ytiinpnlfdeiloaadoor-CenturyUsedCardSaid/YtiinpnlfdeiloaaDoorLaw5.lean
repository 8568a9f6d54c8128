/-
  CenturyUsed, for every input: the law returns true and leaves its arguments as they were. The row, and the tied card.
-/
import Derived.Test.YtiinpnlfdeiloaaDoorD2
import Derived.Test.YtiinpnlfdeiloaaDoorD5
import Derived.Test.YtiinpnlfdeiloaaDoorCards
import Derived.Test.YtiinpnlfdeiloaaDoorTie
namespace Go.Proofs.YtiinpnlfdeiloaaDoor
open Go.X Go.X.Cent Go.Conc
set_option maxRecDepth 10000
set_option synthInstance.maxSize 2000
set_option synthInstance.maxHeartbeats 400000

set_option maxHeartbeats 2000000
theorem e5 (h : Heap) (p : PHeap) (hp : Per p h) (htab : Tab h) (a : Option Addr) (n c : Nat) (ts : List By) (T : Strs p a n ts) (hn : n ≤ 9223372036854775807) (m : Int) (hm : -9223372036854775808 ≤ m ∧ m ≤ 9223372036854775807) (s : By) : EntersL Tryd.prog 5 #[.slice a n c, .int .i64 (m), sv s] h fun v h' => v = .bool true ∧ Keep h h' := by
  refine enters_introL (Φ := fun h_ => St h [] p h_ []) Tryd.func5 rfl (tm := [_, _, _, _, _, _, _, _, _, _, _, _, _, _, _, _, _, _, _, _, _, _, _, _, _, _, _, _, _, _, _, _, _, _, _, _, _, _, _, _, _, _, _, _, _, _, _, _, _, _, _, _, _, _, _, _, _, _, _, _, _, _, _, _, _, _, _, _]) rfl ?_ (St.start h _ hp)
  intro cs
  have hl := T.len
  refine fl_seq ?_
  refine rl_start ?_
  refine rl_det (met_none rfl) (fun h_ H_ => exd_assign (v := .bool (false)) rfl) rfl ?_
  refine rl_end ?_
  refine fl_seq ?_
  refine fl_seq ?_
  refine rl_start ?_
  refine rl_det (met_none rfl) (fun h_ H_ => exd_move (v := .slice a n c) rfl) rfl ?_
  refine rl_calld (met_none rfl) (first := []) (cap := []) rfl rfl fC23 (fun h_ H_ => c23 .lone _ _ (fun b_ o_ e_ => H_.per b_ o_ e_) a n _ ts T (by omega)) (tm' := _::_::_::_::_::_::_::_::_::_::_::_::_::_::_::_::_::_) rfl ?_
  refine rl_det (met_none rfl) (fun h_ H_ => exd_move (v := .bool (decide (far ts))) rfl) rfl ?_
  by_cases cc1 : far ts
  · refine rl_pass (met_not rfl rfl (decide_eq_true cc1)) rfl ?_
    refine rl_pass (met_not rfl rfl (decide_eq_true cc1)) (tm' := _::_::_::_::_::_::_::_::_::_::_::_::_::_::_::_::_::_::_::_::_) rfl ?_
    refine rl_pass (met_not rfl rfl (decide_eq_true cc1)) rfl ?_
    refine rl_det (met_none rfl) (fun h_ H_ => exd_pick_t rfl (decide_eq_true cc1) (v := .bool (true)) rfl) rfl ?_
    refine rl_end ?_
    refine fl_then rfl rfl ?_
    refine fl_seq ?_
    refine rl_start ?_
    refine rl_calld (met_none rfl) (first := []) (cap := []) rfl rfl fC16 (fun h_ H_ => c16 _ (htab.keep H_.kept)) (tm' := _::_::_::_::_::_::_::_::_::_::_::_::_::_::_::_::_::_::_::_::_::_::_::_) rfl ?_
    refine rl_det (met_none rfl) (fun h_ H_ => exd_assign (v := .bool (true)) rfl) rfl ?_
    refine rl_end ?_
    refine fl_retL Tryd.func5 rfl (vs := [.bool (true)]) (fun h_ H_ => ⟨.bool (true), _, rfl, rfl, rfl⟩) (v := .bool (true)) rfl ?_
    exact fun h_ H_ => ⟨rfl, H_.kept⟩
  · refine rl_det (met_some rfl rfl (decide_eq_false cc1)) (fun h_ H_ => exd_move (v := sv s) rfl) rfl ?_
    refine rl_det (met_some rfl rfl (decide_eq_false cc1)) (fun h_ H_ => exd_lenS (l := s) Tryd.underlying9 rfl) (tm' := _::_::_::_::_::_::_::_::_::_::_::_::_::_::_::_::_::_::_::_::_) rfl ?_
    refine rl_det (met_some rfl rfl (decide_eq_false cc1)) (fun h_ H_ => exd_gtr rfl rfl) rfl ?_
    refine rl_det (met_none rfl) (fun h_ H_ => exd_pick_f rfl (decide_eq_false cc1) (v := .bool (decide (2000 < ((s.length : Nat) : Int)))) rfl) rfl ?_
    refine rl_end ?_
    by_cases cc2 : 2000 < ((s.length : Nat) : Int)
    · refine fl_then rfl (decide_eq_true cc2) ?_
      refine fl_seq ?_
      refine rl_start ?_
      refine rl_calld (met_none rfl) (first := []) (cap := []) rfl rfl fC16 (fun h_ H_ => c16 _ (htab.keep H_.kept)) (tm' := _::_::_::_::_::_::_::_::_::_::_::_::_::_::_::_::_::_::_::_::_::_::_::_) rfl ?_
      refine rl_det (met_none rfl) (fun h_ H_ => exd_assign (v := .bool (true)) rfl) rfl ?_
      refine rl_end ?_
      refine fl_retL Tryd.func5 rfl (vs := [.bool (true)]) (fun h_ H_ => ⟨.bool (true), _, rfl, rfl, rfl⟩) (v := .bool (true)) rfl ?_
      exact fun h_ H_ => ⟨rfl, H_.kept⟩
    · refine fl_else rfl (decide_eq_false cc2) ?_
      refine fl_skip ?_
      refine fl_seq ?_
      have hnf := far_facts T ‹¬ far ts›
      obtain ⟨hn60, ht200, hta⟩ := hnf
      have ht0 : ∀ i, i < n → (ts.getD i []).length ≤ 2 ^ 60 := not_far T ‹¬ far ts›
      have ht1 : ∀ i, i < ts.length → (ts.getD i []).length ≤ 2 ^ 60 := fun i hi => ht0 i (by omega)
      refine rl_start ?_
      refine rl_own (L' := ([] : Pcs) ++ []) rfl ?_
      refine rl_buildO ([] : Pcs) (met_none rfl) Tryd.underlying22 tS9 tZ9 (Nat.le_of_ble_eq_true rfl) (vs := []) rfl rfl (es := []) rfl rfl rfl fun v3 X4 o5 => ?_
      have o6 : OwnS 9 1 v3 (scs ([] : List By)) X4 := o5
      refine rl_det (met_none rfl) (fun h_ H_ => exd_move (v := .slice a n c) rfl) (tm' := _::_::_::_::_::_::_::_::_::_::_::_::_::_::_::_::_::_::_::_::_::_::_::_::_::_::_) rfl ?_
      refine rl_appendP ([] : Pcs) X4 (met_none rfl) Tryd.underlying22 tS9 tZ9 rfl tB9 Tryd.underlying22 rfl rfl o6 T (scs_ones _) (by show (0 + _) * _ ≤ _; omega) (by decide) (by decide) fun v7 X8 o9 => ?_
      have o10 : OwnS 9 1 v7 (scs ts) X8 := o9.as rfl
      refine rl_det (met_none rfl) (fun h_ H_ => exd_move (v := .int .i64 (m)) rfl) rfl ?_
      refine rl_lastN (A := ([] : Pcs)) o10 (scs_length _) fun p11 a12 cp13 le14 ev_ D15 => ?_
      subst ev_
      refine rl_own (L' := []) rfl ?_
      refine rl_calld (met_none rfl) (first := []) (cap := []) rfl rfl fC24 (fun h_ H_ => c24 _ _ (fun b_ o_ e_ => H_.per b_ o_ e_) a12 ts.length _ ts (show Strs _ _ _ ts from D15) (by omega) (by first | exact ht0 | exact ht1) m hm) (tm' := _::_::_::_::_::_::_::_::_::_::_::_::_::_::_::_::_::_::_::_::_::_::_::_::_::_::_::_::_::_) rfl ?_
      refine rl_det (met_none rfl) (fun h_ H_ => exd_move (v := .tuple #[.int .i64 ((usesB ts m).1), .int .i64 ((usesB ts m).2)]) rfl) rfl ?_
      refine rl_det (met_none rfl) (fun h_ H_ => exd_extract rfl (v := .int .i64 ((usesB ts m).1)) rfl) rfl ?_
      refine rl_det (met_none rfl) (fun h_ H_ => exd_extract rfl (v := .int .i64 ((usesB ts m).2)) rfl) (tm' := _::_::_::_::_::_::_::_::_::_::_::_::_::_::_::_::_::_::_::_::_::_::_::_::_::_::_::_::_::_::_::_) rfl ?_
      refine rl_det (met_none rfl) (fun h_ H_ => exd_assign (v := .int .i64 ((usesB ts m).1)) rfl) rfl ?_
      refine rl_det (met_none rfl) (fun h_ H_ => exd_assign (v := .int .i64 ((usesB ts m).2)) rfl) rfl ?_
      refine rl_end ?_
      refine fl_seq ?_
      refine rl_start ?_
      refine rl_det (met_none rfl) (fun h_ H_ => exd_move (v := .slice a n c) rfl) (tm' := _::_::_::_::_::_::_::_::_::_::_::_::_::_::_::_::_::_::_::_::_::_::_::_::_::_::_::_::_::_::_::_::_::_) rfl ?_
      refine rl_det (met_none rfl) (fun h_ H_ => exd_move (v := .int .i64 (m)) rfl) rfl ?_
      refine rl_calld (met_none rfl) (first := []) (cap := []) rfl rfl fC25 (fun h_ H_ => c25 .lone _ _ (fun b_ o_ e_ => H_.per b_ o_ e_) a n _ ts (T.mono le14) (by omega) (by first | exact ht0 | exact ht1) m hm) rfl ?_
      refine rl_det (met_none rfl) (fun h_ H_ => exd_move (v := .tuple #[.int .i64 ((usesB ts m).1), .int .i64 ((usesB ts m).2)]) rfl) (tm' := _::_::_::_::_::_::_::_::_::_::_::_::_::_::_::_::_::_::_::_::_::_::_::_::_::_::_::_::_::_::_::_::_) rfl ?_
      refine rl_det (met_none rfl) (fun h_ H_ => exd_extract rfl (v := .int .i64 ((usesB ts m).1)) rfl) rfl ?_
      refine rl_det (met_none rfl) (fun h_ H_ => exd_extract rfl (v := .int .i64 ((usesB ts m).2)) rfl) rfl ?_
      refine rl_det (met_none rfl) (fun h_ H_ => exd_assign (v := .int .i64 ((usesB ts m).1)) rfl) (tm' := _::_::_::_::_::_::_::_::_::_::_) rfl ?_
      refine rl_det (met_none rfl) (fun h_ H_ => exd_assign (v := .int .i64 ((usesB ts m).2)) rfl) rfl ?_
      refine rl_end ?_
      refine fl_seq ?_
      refine rl_start ?_
      refine rl_det (met_none rfl) (fun h_ H_ => exd_move (v := sv s) rfl) rfl ?_
      refine rl_calld (met_none rfl) (first := []) (cap := []) rfl rfl fC26 (fun h_ H_ => c26 _ s (by omega)) (tm' := _::_::_::_::_::_::_::_::_::_::_::_::_::_::_::_::_::_::_::_::_::_::_::_::_::_::_::_::_::_::_::_::_::_::_::_::_::_::_::_::_) rfl ?_
      refine rl_det (met_none rfl) (fun h_ H_ => exd_move (v := .tuple #[.int .i64 ((sumB s).1), .int .i64 ((sumB s).2)]) rfl) rfl ?_
      refine rl_det (met_none rfl) (fun h_ H_ => exd_extract rfl (v := .int .i64 ((sumB s).1)) rfl) rfl ?_
      refine rl_det (met_none rfl) (fun h_ H_ => exd_extract rfl (v := .int .i64 ((sumB s).2)) rfl) (tm' := _::_::_::_::_::_::_::_::_::_::_::_::_::_::_::_::_::_::_::_::_::_::_::_::_::_::_::_::_::_::_::_::_::_::_::_::_::_::_::_::_::_::_) rfl ?_
      refine rl_det (met_none rfl) (fun h_ H_ => exd_assign (v := .int .i64 ((sumB s).1)) rfl) rfl ?_
      refine rl_det (met_none rfl) (fun h_ H_ => exd_assign (v := .int .i64 ((sumB s).2)) rfl) rfl ?_
      refine rl_end ?_
      refine fl_seq ?_
      refine rl_start ?_
      refine rl_det (met_none rfl) (fun h_ H_ => exd_move (v := sv s) rfl) (tm' := _::_::_::_::_::_::_::_::_::_::_::_::_::_::_::_::_::_::_::_::_::_::_::_::_::_::_::_::_::_::_::_::_::_::_::_::_::_::_::_::_::_::_::_::_) rfl ?_
      refine rl_calld (met_none rfl) (first := []) (cap := []) rfl rfl fC27 (fun h_ H_ => c27 .lone _ s (by omega)) rfl ?_
      refine rl_det (met_none rfl) (fun h_ H_ => exd_move (v := .tuple #[.int .i64 ((sumB s).1), .int .i64 ((sumB s).2)]) rfl) rfl ?_
      refine rl_det (met_none rfl) (fun h_ H_ => exd_extract rfl (v := .int .i64 ((sumB s).1)) rfl) (tm' := [_,_,_,_,_,_,_,_,_,_,_,_,_,_,_,_,_,_,_,_,_,_,_,_,_,_,_,_,_,_,_,_,_,_,_,_,_,_,_,_,_,_,_,_,_,_,_,_,_,_,_,_,_,_,_,_,_,_,_,_,_,_,_,_,_,_,_,_]) rfl ?_
      refine rl_det (met_none rfl) (fun h_ H_ => exd_extract rfl (v := .int .i64 ((sumB s).2)) rfl) rfl ?_
      refine rl_det (met_none rfl) (fun h_ H_ => exd_assign (v := .int .i64 ((sumB s).1)) rfl) rfl ?_
      refine rl_det (met_none rfl) (fun h_ H_ => exd_assign (v := .int .i64 ((sumB s).2)) rfl) (tm' := _::_::_::_::_::_::_::_::_::_::_::_::_::_::_::_) rfl ?_
      refine rl_end ?_
      refine fl_seq ?_
      refine rl_start ?_
      refine rl_det (met_none rfl) (fun h_ H_ => exd_move (v := .int .i64 ((usesB ts m).1)) rfl) rfl ?_
      refine rl_det (met_none rfl) (fun h_ H_ => exd_move (v := .int .i64 ((usesB ts m).1)) rfl) rfl ?_
      refine rl_det (met_none rfl) (fun h_ H_ => exd_eql rfl rfl) (tm' := [_,_,_,_,_,_,_,_,_,_,_,_,_,_,_,_,_,_,_,_,_,_,_,_,_,_,_,_,_,_,_,_,_,_,_,_,_,_,_,_,_,_,_,_,_,_,_,_,_,_,_,_,_,_,_,_,_,_,_,_,_,_,_,_,_,_,_,_]) rfl ?_
      refine rl_det (met_none rfl) (fun h_ H_ => exd_move (v := .bool (decide ((usesB ts m).1 = (usesB ts m).1))) rfl) rfl ?_
      refine rl_det (met_some rfl rfl (decide_eq_true rfl)) (fun h_ H_ => exd_move (v := .int .i64 ((usesB ts m).2)) rfl) rfl ?_
      refine rl_det (met_some rfl rfl (decide_eq_true rfl)) (fun h_ H_ => exd_move (v := .int .i64 ((usesB ts m).2)) rfl) (tm' := [_,_,_,_,_,_,_,_,_,_,_,_,_,_,_,_,_,_,_,_,_,_,_,_,_,_,_,_,_,_,_,_,_,_,_,_,_,_,_,_,_,_,_,_,_,_,_,_,_,_,_,_,_,_,_,_,_,_,_,_,_,_,_,_,_,_,_,_]) rfl ?_
      refine rl_det (met_some rfl rfl (decide_eq_true rfl)) (fun h_ H_ => exd_eql rfl rfl) rfl ?_
      refine rl_det (met_none rfl) (fun h_ H_ => exd_pick_t rfl (decide_eq_true rfl) (v := .bool (decide ((usesB ts m).2 = (usesB ts m).2))) rfl) rfl ?_
      refine rl_det (met_none rfl) (fun h_ H_ => exd_move (v := .bool (decide ((usesB ts m).2 = (usesB ts m).2))) rfl) (tm' := [_,_,_,_,_,_,_,_,_,_,_,_,_,_,_,_,_,_,_,_,_,_,_,_,_,_,_,_,_,_,_,_,_,_,_,_,_,_,_,_,_,_,_,_,_,_,_,_,_,_,_,_,_,_,_,_,_,_,_,_,_,_,_,_,_,_,_,_]) rfl ?_
      refine rl_det (met_some rfl rfl (decide_eq_true rfl)) (fun h_ H_ => exd_move (v := .int .i64 ((sumB s).1)) rfl) rfl ?_
      refine rl_det (met_some rfl rfl (decide_eq_true rfl)) (fun h_ H_ => exd_move (v := .int .i64 ((sumB s).1)) rfl) rfl ?_
      refine rl_det (met_some rfl rfl (decide_eq_true rfl)) (fun h_ H_ => exd_eql rfl rfl) (tm' := [_,_,_,_,_,_,_,_,_,_,_,_,_,_,_,_,_,_,_,_,_,_,_,_,_,_,_,_,_,_,_,_,_,_,_,_,_,_,_,_,_,_,_,_,_,_,_,_,_,_,_,_,_,_,_,_,_,_,_,_,_,_,_,_,_,_,_,_]) rfl ?_
      refine rl_det (met_none rfl) (fun h_ H_ => exd_pick_t rfl (decide_eq_true rfl) (v := .bool (decide ((sumB s).1 = (sumB s).1))) rfl) rfl ?_
      refine rl_det (met_none rfl) (fun h_ H_ => exd_move (v := .bool (decide ((sumB s).1 = (sumB s).1))) rfl) rfl ?_
      refine rl_det (met_some rfl rfl (decide_eq_true rfl)) (fun h_ H_ => exd_move (v := .int .i64 ((sumB s).2)) rfl) (tm' := [_,_,_,_,_,_,_,_,_,_,_,_,_,_,_,_,_,_,_,_,_,_,_,_,_,_,_,_,_,_,_,_,_,_,_,_,_,_,_,_,_,_,_,_,_,_,_,_,_,_,_,_,_,_,_,_,_,_,_,_,_,_,_,_,_,_,_,_]) rfl ?_
      refine rl_det (met_some rfl rfl (decide_eq_true rfl)) (fun h_ H_ => exd_move (v := .int .i64 ((sumB s).2)) rfl) rfl ?_
      refine rl_det (met_some rfl rfl (decide_eq_true rfl)) (fun h_ H_ => exd_eql rfl rfl) rfl ?_
      refine rl_det (met_none rfl) (fun h_ H_ => exd_pick_t rfl (decide_eq_true rfl) (v := .bool (decide ((sumB s).2 = (sumB s).2))) rfl) (tm' := [_,_,_,_,_,_,_,_,_,_,_,_,_,_,_,_,_,_,_,_,_,_,_,_,_,_,_,_,_,_,_,_,_,_,_,_,_,_,_,_,_,_,_,_,_,_,_,_,_,_,_,_,_,_,_,_,_,_,_,_,_,_,_,_,_,_,_,_]) rfl ?_
      refine rl_det (met_none rfl) (fun h_ H_ => exd_move (v := .bool (decide ((sumB s).2 = (sumB s).2))) rfl) rfl ?_
      refine rl_calld (met_some rfl rfl (decide_eq_true rfl)) (first := []) (cap := []) rfl rfl fC16 (fun h_ H_ => c16 _ (htab.keep H_.kept)) rfl ?_
      refine rl_det (met_none rfl) (fun h_ H_ => exd_pick_t rfl (decide_eq_true rfl) (v := .bool (true)) rfl) (tm' := [_,_,_,_,_,_,_,_,_,_,_,_,_,_,_,_,_,_,_,_,_,_,_,_,_,_,_,_,_,_,_,_,_,_,_,_,_,_,_,_,_,_,_,_,_,_,_,_,_,_,_,_,_,_,_,_,_,_,_,_,_,_,_,_,_,_,_,_]) rfl ?_
      refine rl_det (met_none rfl) (fun h_ H_ => exd_assign (v := .bool (true)) rfl) rfl ?_
      refine rl_end ?_
      refine fl_retL Tryd.func5 rfl (vs := [.bool (true)]) (fun h_ H_ => ⟨.bool (true), _, rfl, rfl, rfl⟩) (v := .bool (true)) rfl ?_
      exact fun h_ H_ => ⟨rfl, H_.kept⟩
end Go.Proofs.YtiinpnlfdeiloaaDoor
namespace Go.Proofs.YtiinpnlfdeiloaaDoor
open Go.X Go.X.Cent Go.Conc Go.RowKit Go.ChangeShapes Go.WideShapes Go.ChangeAt Go.Joins
set_option maxRecDepth 100000

theorem lifted5 (os : Os) (started : os.Started) (H : Type) (enc : TypeId × Value → H) :
    ReturnsInHanded {} Tryd.checked os 5 .any (fun w args => (Rows.centuryUsedSpec.pre enc Tryd.prog Tryd.f5 Rows.centuryUsedRow.domain false w args ∧ laidMetH Tryd.prog Rows.centuryUsedRow.laid w) ∧ sizedMet enc Tryd.prog Tryd.f5 (OpenSpec.ofChange Rows.centuryUsedSpec) false w args) (Rows.centuryUsedSpec.post enc Tryd.prog Tryd.f5 false true false false) := by
  refine returnsInHanded_of_change_and (C := Tryd.checked) (X := fun w _ => laidMetH Tryd.prog Rows.centuryUsedRow.laid w) (fun _ _ _ hh h => h.of_heap hh) pOwn started (by kernel_rfl) Tryd.func5
    (ChangeSpec.witness_shaped (enc := enc) (C := Tryd.checked) (os := os) (X := fun w _ => laidMetH Tryd.prog Rows.centuryUsedRow.laid w) false (laidW os) #[.slice none 0 0, .int .i64 0, .string ⟨#[]⟩] 8 (World.laidAll_os _ _ _)
      (World.shaped_of_ZipB (by kernel_rfl) (by kernel_rfl)) (by kernel_rfl) (by kernel_rfl) (by kernel_rfl) (laidW_met os _)) ?_
  intro W base args ds gs before hval0 hW _ _ hL _
  have hval : ∀ (j : Nat) t v, Tryd.f5.params[j]? = some t → args[j]? = some v → Value.okWide Tryd.prog W .any base t v := hval0
  have hW2 := hW
  obtain ⟨p, q, hA0, hV, rfl, _, _⟩ := hW2
  have hA : DataW.TrodAll enc Tryd.prog W 0 (fun _ => true) true Tryd.f5.params.toList args.toList ds p := hA0
  rw [Tryd.params5] at hA hval
  obtain ⟨v0, v1, v2, d0, d1, d2, p0, p1, p2, rfl, rfl, _, h0, h1, h2⟩ := trodAll_three hA
  obtain ⟨rfl, rfl⟩ := trodVars_none hV
  obtain ⟨a, n, c, ts, rfl, hn, T⟩ := open_texts (hval 0 22 v0 rfl rfl) h0
  obtain ⟨k, rfl, hk⟩ := open_num (hval 1 3 v1 rfl rfl) h1
  obtain ⟨s2, rfl⟩ := open_str (hval 2 9 v2 rfl rfl) h2
  refine (calls_of_enters (e5 W.heap (pW W) (pW_per W) (tab_of_laid hL) a n c ts T hn k hk s2)).mono fun e W2 ⟨v, he, ⟨hv, hk_⟩, cl⟩ => ⟨v, he, ?_⟩
  subst hv
  exact law_post pLaid rfl (fun t ht => by rw [Tryd.params5] at ht; revert t; decide +kernel) rfl Tryd.underlying4 hW rfl (below_of hk_ cl)

theorem centuryUsedRowHolds : Rows.CenturyUsedSaid :=
  OpenClaim.holds_of_wide 5 Tryd.f5 rfl rfl rfl rfl rfl rfl rfl ⟨rfl, rfl, rfl, rfl, rfl⟩ rfl rfl rfl rfl rfl (by kernel_rfl) Tryd.func5 (by kernel_rfl)
    (of_decide_eq_true (by kernel_rfl)) (by unfold Func.isWrapper; first | (rw [if_pos (by decide +kernel)]; kernel_rfl) | (rw [if_neg (by decide +kernel)]; exact ⟨rfl, rfl⟩))
    (fun os started H enc _ => lifted5 os started H enc)

theorem centuryUsedHolds : Rows.CenturyUsedCardSaid :=
  Claim7.holds_tied_plain_at .later [] [.data, .data, .data, .data, .pinned] true (true, "d19a88c3556340bf03c70abcf51311f6c04bc6278884da2732a7a561c1b64cb8") false centuryUsedRowHolds (fun _ h => by cases h) (by kernel_rfl) (fun _ h => by cases h) centuryUsed_row_tie rfl ⟨rfl, rfl⟩ (by kernel_rfl) rfl
    (fun f fn hf hfn => by
      obtain rfl : f = 5 := Option.some.inj ((show Tryd.prog.funcNamed "steening/steeninglaw14.CenturyUsed" = some 5 by kernel_rfl).symm.trans hf) |>.symm
      obtain rfl : fn = Tryd.f5 := (Option.some.inj (Tryd.func5.symm.trans hfn)).symm
      exact ⟨by kernel_rfl, fun j t ht => by
        rw [Tryd.params5] at ht
        have hm : t ∈ [22, 3, 9] := by simpa using Array.mem_of_getElem? ht
        have hall : ([22, 3, 9].all fun u => !Tryd.prog.wantsStandIn u) = true := by kernel_rfl
        exact (show Tryd.prog.wantsStandIn t = false by simpa using List.all_eq_true.1 hall t hm)⟩)
    (by kernel_rfl)

#print axioms centuryUsedHolds
end Go.Proofs.YtiinpnlfdeiloaaDoor
