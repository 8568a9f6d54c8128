/-
  CenturyAdds, for every input: the law returns true and leaves its arguments as they were. The row, and the tied card.
-/
import Derived.Test.YtiinpnlfdeiloaaDoorD2
import Derived.Test.YtiinpnlfdeiloaaDoorD5
import Derived.Test.YtiinpnlfdeiloaaDoorCards
import Derived.Test.YtiinpnlfdeiloaaDoorTie
namespace Go.Proofs.YtiinpnlfdeiloaaDoor
open Go.X Go.X.Cent Go.Conc
set_option maxRecDepth 10000
set_option synthInstance.maxSize 2000
set_option synthInstance.maxHeartbeats 400000

set_option maxHeartbeats 2000000
theorem e6 (h : Heap) (htab : Tab h) (s t : By) : EntersL Tryd.prog 6 #[sv s, sv t] h fun v h' => v = .bool true ∧ Keep h h' := by
  refine enters_introL (Φ := fun h_ => St h [] (fun _ => none) h_ []) Tryd.func6 rfl (tm := [_, _, _, _, _, _, _, _, _, _, _, _, _, _, _, _, _, _, _, _, _, _, _, _, _, _, _, _, _, _, _, _, _, _, _, _, _, _, _, _, _]) rfl ?_ (St.start h _ (fun _ _ e => by cases e))
  intro cs
  refine fl_seq ?_
  refine rl_start ?_
  refine rl_det (met_none rfl) (fun h_ H_ => exd_assign (v := .bool (false)) rfl) rfl ?_
  refine rl_end ?_
  refine fl_seq ?_
  refine fl_seq ?_
  refine rl_start ?_
  refine rl_det (met_none rfl) (fun h_ H_ => exd_move (v := sv s) rfl) rfl ?_
  refine rl_det (met_none rfl) (fun h_ H_ => exd_lenS (l := s) Tryd.underlying9 rfl) (tm' := _::_::_::_::_::_::_::_::_::_::_::_) rfl ?_
  refine rl_det (met_none rfl) (fun h_ H_ => exd_gtr rfl rfl) rfl ?_
  refine rl_det (met_none rfl) (fun h_ H_ => exd_move (v := .bool (decide (2000 < ((s.length : Nat) : Int)))) rfl) rfl ?_
  by_cases cc1 : 2000 < ((s.length : Nat) : Int)
  · refine rl_pass (met_not rfl rfl (decide_eq_true cc1)) (tm' := _::_::_::_::_::_::_::_::_::_::_::_::_::_::_) rfl ?_
    refine rl_pass (met_not rfl rfl (decide_eq_true cc1)) rfl ?_
    refine rl_pass (met_not rfl rfl (decide_eq_true cc1)) rfl ?_
    refine rl_det (met_none rfl) (fun h_ H_ => exd_pick_t rfl (decide_eq_true cc1) (v := .bool (true)) rfl) (tm' := _::_::_::_::_::_::_::_::_::_::_::_::_::_::_::_::_::_) rfl ?_
    refine rl_end ?_
    refine fl_then rfl rfl ?_
    refine fl_seq ?_
    refine rl_start ?_
    refine rl_calld (met_none rfl) (first := []) (cap := []) rfl rfl fC16 (fun h_ H_ => c16 _ (htab.keep H_.kept)) rfl ?_
    refine rl_det (met_none rfl) (fun h_ H_ => exd_assign (v := .bool (true)) rfl) rfl ?_
    refine rl_end ?_
    refine fl_retL Tryd.func6 rfl (vs := [.bool (true)]) (fun h_ H_ => ⟨.bool (true), _, rfl, rfl, rfl⟩) (v := .bool (true)) rfl ?_
    exact fun h_ H_ => ⟨rfl, H_.kept⟩
  · refine rl_det (met_some rfl rfl (decide_eq_false cc1)) (fun h_ H_ => exd_move (v := sv t) rfl) (tm' := _::_::_::_::_::_::_::_::_::_::_::_::_::_::_) rfl ?_
    refine rl_det (met_some rfl rfl (decide_eq_false cc1)) (fun h_ H_ => exd_lenS (l := t) Tryd.underlying9 rfl) rfl ?_
    refine rl_det (met_some rfl rfl (decide_eq_false cc1)) (fun h_ H_ => exd_gtr rfl rfl) rfl ?_
    refine rl_det (met_none rfl) (fun h_ H_ => exd_pick_f rfl (decide_eq_false cc1) (v := .bool (decide (200 < ((t.length : Nat) : Int)))) rfl) (tm' := _::_::_::_::_::_::_::_::_::_::_::_::_::_::_::_::_::_) rfl ?_
    refine rl_end ?_
    by_cases cc2 : 200 < ((t.length : Nat) : Int)
    · refine fl_then rfl (decide_eq_true cc2) ?_
      refine fl_seq ?_
      refine rl_start ?_
      refine rl_calld (met_none rfl) (first := []) (cap := []) rfl rfl fC16 (fun h_ H_ => c16 _ (htab.keep H_.kept)) rfl ?_
      refine rl_det (met_none rfl) (fun h_ H_ => exd_assign (v := .bool (true)) rfl) rfl ?_
      refine rl_end ?_
      refine fl_retL Tryd.func6 rfl (vs := [.bool (true)]) (fun h_ H_ => ⟨.bool (true), _, rfl, rfl, rfl⟩) (v := .bool (true)) rfl ?_
      exact fun h_ H_ => ⟨rfl, H_.kept⟩
    · refine fl_else rfl (decide_eq_false cc2) ?_
      refine fl_skip ?_
      refine fl_seq ?_
      refine rl_start ?_
      refine rl_det (met_none rfl) (fun h_ H_ => exd_move (v := sv s) rfl) (tm' := _::_::_::_::_::_::_::_::_::_::_::_::_::_::_::_::_::_::_::_::_) rfl ?_
      refine rl_det (met_none rfl) (fun h_ H_ => exd_move (v := sv t) rfl) rfl ?_
      refine rl_calld (met_none rfl) (first := []) (cap := []) rfl rfl fC28 (fun h_ H_ => c28 _ (htab.keep H_.kept) s t (by omega) (by omega)) rfl ?_
      refine rl_det (met_none rfl) (fun h_ H_ => exd_move (v := .tuple #[sv ((addB s t).1), .int .i64 ((addB s t).2)]) rfl) (tm' := _::_::_::_::_::_::_::_::_::_::_::_::_::_::_::_::_::_::_::_) rfl ?_
      refine rl_det (met_none rfl) (fun h_ H_ => exd_extract rfl (v := sv ((addB s t).1)) rfl) rfl ?_
      refine rl_det (met_none rfl) (fun h_ H_ => exd_extract rfl (v := .int .i64 ((addB s t).2)) rfl) rfl ?_
      refine rl_det (met_none rfl) (fun h_ H_ => exd_assign (v := sv ((addB s t).1)) rfl) (tm' := _::_::_::_::_::_::_) rfl ?_
      refine rl_det (met_none rfl) (fun h_ H_ => exd_assign (v := .int .i64 ((addB s t).2)) rfl) rfl ?_
      refine rl_end ?_
      refine fl_seq ?_
      refine rl_start ?_
      refine rl_det (met_none rfl) (fun h_ H_ => exd_move (v := sv s) rfl) rfl ?_
      refine rl_det (met_none rfl) (fun h_ H_ => exd_move (v := sv t) rfl) (tm' := _::_::_::_::_::_::_::_::_::_::_::_::_::_::_::_::_::_::_::_::_::_::_::_::_::_::_::_) rfl ?_
      refine rl_calld (met_none rfl) (first := []) (cap := []) rfl rfl fC29 (fun h_ H_ => c29 .lone _ s t (by omega) (by omega)) rfl ?_
      refine rl_det (met_none rfl) (fun h_ H_ => exd_move (v := .tuple #[sv ((addR s t).1), .int .i64 ((addR s t).2)]) rfl) rfl ?_
      refine rl_det (met_none rfl) (fun h_ H_ => exd_extract rfl (v := sv ((addR s t).1)) rfl) (tm' := [_,_,_,_,_,_,_,_,_,_,_,_,_,_,_,_,_,_,_,_,_,_,_,_,_,_,_,_,_,_,_,_,_,_,_,_,_,_,_,_,_]) rfl ?_
      refine rl_det (met_none rfl) (fun h_ H_ => exd_extract rfl (v := .int .i64 ((addR s t).2)) rfl) rfl ?_
      refine rl_det (met_none rfl) (fun h_ H_ => exd_assign (v := sv ((addR s t).1)) rfl) rfl ?_
      refine rl_det (met_none rfl) (fun h_ H_ => exd_assign (v := .int .i64 ((addR s t).2)) rfl) (tm' := _::_::_::_::_::_::_::_::_::_) rfl ?_
      refine rl_end ?_
      refine fl_seq ?_
      refine rl_start ?_
      refine rl_det (met_none rfl) (fun h_ H_ => exd_move (v := sv ((addB s t).1)) rfl) rfl ?_
      refine rl_det (met_none rfl) (fun h_ H_ => exd_move (v := sv ((addR s t).1)) rfl) rfl ?_
      refine rl_det (met_none rfl) (fun h_ H_ => exd_eqlS (l := (addB s t).1) (m := (addR s t).1) rfl rfl) (tm' := [_,_,_,_,_,_,_,_,_,_,_,_,_,_,_,_,_,_,_,_,_,_,_,_,_,_,_,_,_,_,_,_,_,_,_,_,_,_,_,_,_]) rfl ?_
      refine rl_det (met_none rfl) (fun h_ H_ => exd_move (v := .bool (decide ((addB s t).1 = (addR s t).1))) rfl) rfl ?_
      refine rl_det (met_some rfl rfl (decide_eq_true (by rw [add_same]))) (fun h_ H_ => exd_move (v := .int .i64 ((addB s t).2)) rfl) rfl ?_
      refine rl_det (met_some rfl rfl (decide_eq_true (by rw [add_same]))) (fun h_ H_ => exd_move (v := .int .i64 ((addR s t).2)) rfl) (tm' := [_,_,_,_,_,_,_,_,_,_,_,_,_,_,_,_,_,_,_,_,_,_,_,_,_,_,_,_,_,_,_,_,_,_,_,_,_,_,_,_,_]) rfl ?_
      refine rl_det (met_some rfl rfl (decide_eq_true (by rw [add_same]))) (fun h_ H_ => exd_eql rfl rfl) rfl ?_
      refine rl_det (met_none rfl) (fun h_ H_ => exd_pick_t rfl (decide_eq_true (by rw [add_same])) (v := .bool (decide ((addB s t).2 = (addR s t).2))) rfl) rfl ?_
      refine rl_det (met_none rfl) (fun h_ H_ => exd_move (v := .bool (decide ((addB s t).2 = (addR s t).2))) rfl) (tm' := [_,_,_,_,_,_,_,_,_,_,_,_,_,_,_,_,_,_,_,_,_,_,_,_,_,_,_,_,_,_,_,_,_,_,_,_,_,_,_,_,_]) rfl ?_
      refine rl_calld (met_some rfl rfl (decide_eq_true (by rw [add_same]))) (first := []) (cap := []) rfl rfl fC16 (fun h_ H_ => c16 _ (htab.keep H_.kept)) rfl ?_
      refine rl_det (met_none rfl) (fun h_ H_ => exd_pick_t rfl (decide_eq_true (by rw [add_same])) (v := .bool (true)) rfl) rfl ?_
      refine rl_det (met_none rfl) (fun h_ H_ => exd_assign (v := .bool (true)) rfl) (tm' := _::_::_::_::_::_) rfl ?_
      refine rl_end ?_
      refine fl_retL Tryd.func6 rfl (vs := [.bool (true)]) (fun h_ H_ => ⟨.bool (true), _, rfl, rfl, rfl⟩) (v := .bool (true)) rfl ?_
      exact fun h_ H_ => ⟨rfl, H_.kept⟩
end Go.Proofs.YtiinpnlfdeiloaaDoor
namespace Go.Proofs.YtiinpnlfdeiloaaDoor
open Go.X Go.X.Cent Go.Conc Go.RowKit Go.ChangeShapes Go.WideShapes Go.ChangeAt Go.Joins
set_option maxRecDepth 100000

theorem lifted6 (os : Os) (started : os.Started) (H : Type) (enc : TypeId × Value → H) :
    ReturnsInHanded {} Tryd.checked os 6 .any (fun w args => (Rows.centuryAddsSpec.pre enc Tryd.prog Tryd.f6 Rows.centuryAddsRow.domain false w args ∧ laidMetH Tryd.prog Rows.centuryAddsRow.laid w) ∧ sizedMet enc Tryd.prog Tryd.f6 (OpenSpec.ofChange Rows.centuryAddsSpec) false w args) (Rows.centuryAddsSpec.post enc Tryd.prog Tryd.f6 false true false false) := by
  refine returnsInHanded_of_change_and (C := Tryd.checked) (X := fun w _ => laidMetH Tryd.prog Rows.centuryAddsRow.laid w) (fun _ _ _ hh h => h.of_heap hh) pOwn started (by kernel_rfl) Tryd.func6
    (ChangeSpec.witness_shaped (enc := enc) (C := Tryd.checked) (os := os) (X := fun w _ => laidMetH Tryd.prog Rows.centuryAddsRow.laid w) false (laidW os) #[.string ⟨#[]⟩, .string ⟨#[]⟩] 8 (World.laidAll_os _ _ _)
      (World.shaped_of_ZipB (by kernel_rfl) (by kernel_rfl)) (by kernel_rfl) (by kernel_rfl) (by kernel_rfl) (laidW_met os _)) ?_
  intro W base args ds gs before hval0 hW _ _ hL _
  have hval : ∀ (j : Nat) t v, Tryd.f6.params[j]? = some t → args[j]? = some v → Value.okWide Tryd.prog W .any base t v := hval0
  have hW2 := hW
  obtain ⟨p, q, hA0, hV, rfl, _, _⟩ := hW2
  have hA : DataW.TrodAll enc Tryd.prog W 0 (fun _ => true) true Tryd.f6.params.toList args.toList ds p := hA0
  rw [Tryd.params6] at hA hval
  obtain ⟨v0, v1, d0, d1, p0, p1, rfl, rfl, _, h0, h1⟩ := trodAll_two hA
  obtain ⟨rfl, rfl⟩ := trodVars_none hV
  obtain ⟨s0, rfl⟩ := open_str (hval 0 9 v0 rfl rfl) h0
  obtain ⟨s1, rfl⟩ := open_str (hval 1 9 v1 rfl rfl) h1
  refine (calls_of_enters (e6 W.heap (tab_of_laid hL) s0 s1)).mono fun e W2 ⟨v, he, ⟨hv, hk_⟩, cl⟩ => ⟨v, he, ?_⟩
  subst hv
  exact law_post pLaid rfl (fun t ht => by rw [Tryd.params6] at ht; revert t; decide +kernel) rfl Tryd.underlying4 hW rfl (below_of hk_ cl)

theorem centuryAddsRowHolds : Rows.CenturyAddsSaid :=
  OpenClaim.holds_of_wide 6 Tryd.f6 rfl rfl rfl rfl rfl rfl rfl ⟨rfl, rfl, rfl, rfl, rfl⟩ rfl rfl rfl rfl rfl (by kernel_rfl) Tryd.func6 (by kernel_rfl)
    (of_decide_eq_true (by kernel_rfl)) (by unfold Func.isWrapper; first | (rw [if_pos (by decide +kernel)]; kernel_rfl) | (rw [if_neg (by decide +kernel)]; exact ⟨rfl, rfl⟩))
    (fun os started H enc _ => lifted6 os started H enc)

theorem centuryAddsHolds : Rows.CenturyAddsCardSaid :=
  Claim7.holds_tied_plain_at .later [] [.data, .data, .data, .data, .pinned] true (true, "d19a88c3556340bf03c70abcf51311f6c04bc6278884da2732a7a561c1b64cb8") false centuryAddsRowHolds (fun _ h => by cases h) (by kernel_rfl) (fun _ h => by cases h) centuryAdds_row_tie rfl ⟨rfl, rfl⟩ (by kernel_rfl) rfl
    (fun f fn hf hfn => by
      obtain rfl : f = 6 := Option.some.inj ((show Tryd.prog.funcNamed "steening/steeninglaw14.CenturyAdds" = some 6 by kernel_rfl).symm.trans hf) |>.symm
      obtain rfl : fn = Tryd.f6 := (Option.some.inj (Tryd.func6.symm.trans hfn)).symm
      exact ⟨by kernel_rfl, fun j t ht => by
        rw [Tryd.params6] at ht
        have hm : t ∈ [9, 9] := by simpa using Array.mem_of_getElem? ht
        have hall : ([9, 9].all fun u => !Tryd.prog.wantsStandIn u) = true := by kernel_rfl
        exact (show Tryd.prog.wantsStandIn t = false by simpa using List.all_eq_true.1 hall t hm)⟩)
    (by kernel_rfl)

#print axioms centuryAddsHolds
end Go.Proofs.YtiinpnlfdeiloaaDoor
