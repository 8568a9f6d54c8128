/-
  BucketsAll, for every input: the law returns true and leaves its arguments as they were. The row, and the tied card.
-/
import Derived.Test.YtalfgojocdonhaaDoorD2
import Derived.Test.YtalfgojocdonhaaDoorD6
import Derived.Test.YtalfgojocdonhaaDoorD3
import Derived.Test.YtalfgojocdonhaaDoorD4
import Derived.Test.YtalfgojocdonhaaDoorD5
import Derived.Test.YtalfgojocdonhaaDoorCards
import Derived.Test.YtalfgojocdonhaaDoorTie
namespace Go.Proofs.YtalfgojocdonhaaDoor
open Go.X Go.X.Flow Go.Conc
set_option maxRecDepth 10000
set_option synthInstance.maxSize 2000

set_option maxHeartbeats 2000000
theorem e6 (h : Heap) (p : PHeap) (hp : Per p h) (a1 a2 a3 : Option Addr) (c1 c2 c3 : Nat) (t : Tn) (T : TownP p a1 t.nH a2 t.nW a3 t.m t) (hl : t.nH ≤ 9223372036854775807 ∧ t.nW ≤ 9223372036854775807 ∧ t.m ≤ 9223372036854775807) (N : NoneP p) (Z : TabP p) : EntersL Tryd.prog 6 #[.agg #[.slice a1 t.nH c1, .slice a2 t.nW c2, .slice a3 t.m c3]] h fun v h' => v = .bool true ∧ Keep h h' := by
 refine enters_introL (Φ := fun h_ => St h [] p h_ []) Tryd.func6 rfl (tm := zq2 (zq32 (zq32 []))) rfl ?_ (St.start h _ hp)
 intro cs
 refine fsr ?_
 refine rl_box mn (v := .agg #[.slice a1 t.nH c1, .slice a2 t.nW c2, .slice a3 t.m c3]) rfl fun b1 => rl_own (L' := [(b1, .cells #[.slice a1 t.nH c1, .slice a2 t.nW c2, .slice a3 t.m c3] 25 (0, 0))]) rfl ?_
 refine ro (exd_assign (v := .bool (false)) rfl) <| ren <| fsr ?_
 refine rl_det mn (fun h_ H_ => exd_loadN_own H_ tA25 tS25 rfl (i := 0) rfl (vs := [.slice a1 t.nH c1, .slice a2 t.nW c2, .slice a3 t.m c3]) rfl rfl) (tm' := zq2 (zq8 _)) rfl ?_
 refine rl_calld mn (first := []) (cap := []) rfl rfl fC23 (fun h_ H_ => c23 .lone _ _ H_.pe _ _ _ _ _ _ t (show TownP _ _ _ _ _ _ _ t from ⟨T.h, T.w, T.y⟩) hl) rfl ?_
 refine ro (exd_not rfl) <| rl_end ?_
 rcases bcases (readyB t) with cc2 | cc2
 ·
  obtain ⟨hf_, hc_⟩ := ready_of cc2
  have hn : t.nH ≤ 40 ∧ t.nW ≤ 40 ∧ t.m ≤ 41 := by have z_ := not_far hf_; unfold Big at z_; omega
  have hO : OkT t := okt_of hc_
  obtain ⟨h12, hV⟩ := vd_of hc_
  have oH := hO.nh
  have aE_ := all_eq hO
  have aB_ := most_bd hO
  have aD_ := divF hV hO none_sg
  refine fl_else rfl (not_f cc2) <| fl_skip <| fsr ?_
  refine rl_det mn (fun h_ H_ => exd_loadN_own H_ tA25 tS25 rfl (i := 0) rfl (vs := [.slice a1 t.nH c1, .slice a2 t.nW c2, .slice a3 t.m c3]) rfl rfl) (tm' := zq1 (zq2 (zq4 (zq8 _)))) rfl ?_
  refine rl_own (L' := ([(b1, .cells #[.slice a1 t.nH c1, .slice a2 t.nW c2, .slice a3 t.m c3] 25 (0, 0))] : Pcs) ++ []) rfl ?_
  refine rl_call mn (first := []) (cap := []) rfl rfl fC24 (R := fun v_ h_ => ∃ w3 : Value, ∃ X4 : Pcs, v_ = .tuple #[w3, .bool (true)] ∧ (OwnS 3 1 w3 (ics (LK t)) X4) ∧ St h [] p h_ (([(b1, .cells #[.slice a1 t.nH c1, .slice a2 t.nW c2, .slice a3 t.m c3] 25 (0, 0))] : Pcs) ++ (X4 ++ []))) (fun h_ H_ => (c24 .lone _ _ H_.pe _ _ _ _ _ _ t (show TownP _ _ _ _ _ _ _ t from ⟨T.h, T.w, T.y⟩) (by omega) N hc_).mono fun v_ h2_ ⟨w3, X4, e_, o5, N_⟩ => ⟨w3, X4, e_, o5, H_.callNA N_⟩) fun v_ => ?_
  refine rl_ex fun w3 => rl_ex fun X4 => rl_and fun ev_ => rl_and fun o5 => ?_
  have ev_ := ev_.symm; subst ev_
  refine rl_own (L' := ([(b1, .cells #[.slice a1 t.nH c1, .slice a2 t.nW c2, .slice a3 t.m c3] 25 (0, 0))] : Pcs) ++ (X4 ++ [])) rfl ?_
  refine ro (exd_move (v := .tuple #[w3, .bool (true)]) rfl) <| rt (exd_extract rfl (v := w3) rfl) (tm' := zq1 (zq16 _)) rfl <| ro (exd_extract rfl (v := .bool (true)) rfl) <| ro (exd_assign (v := w3) rfl) <| rt (exd_assign (v := .bool (true)) rfl) (tm' := zq1 (zq4 _)) rfl <| ren ?_
  refine rl_start <| rd (fun h_ H_ => exd_loadN_own H_ tA25 tS25 rfl (i := 0) rfl (vs := [.slice a1 t.nH c1, .slice a2 t.nW c2, .slice a3 t.m c3]) rfl rfl) ?_
  refine rl_calld mn (first := []) (cap := []) rfl rfl fC28 (fun h_ H_ => most_ok .lone H_.pe (show TownP _ _ _ _ _ _ _ t from ⟨T.h, T.w, T.y⟩) (by omega) N hc_) rfl ?_
  refine rt (exd_move (v := .tuple #[.int .i64 (mostV t), .int .i64 0]) rfl) (tm' := zq1 (zq2 (zq16 _))) rfl <| ro (exd_extract rfl (v := .int .i64 (mostV t)) rfl) <| ro (exd_extract rfl (v := .int .i64 0) rfl) <| rt (exd_assign (v := .int .i64 (mostV t)) rfl) (tm' := zq2 (zq4 _)) rfl <| ro (exd_assign (v := .int .i64 0) rfl) <| ren ?_
  refine rl_start <| rd (fun h_ H_ => exd_loadN_own H_ tA25 tS25 rfl (i := 0) rfl (vs := [.slice a1 t.nH c1, .slice a2 t.nW c2, .slice a3 t.m c3]) rfl rfl) ?_
  refine rl_call mn (first := []) (cap := []) rfl rfl fC30 (R := fun v_ h_ => ∃ w6 : Value, ∃ X7 : Pcs, v_ = .tuple #[w6, .int .i64 0] ∧ (OwnS 3 1 w6 (ics (fairP t none0)) X7) ∧ St h [] p h_ (([(b1, .cells #[.slice a1 t.nH c1, .slice a2 t.nW c2, .slice a3 t.m c3] 25 (0, 0))] : Pcs) ++ (X7 ++ (X4 ++ [])))) (fun h_ H_ => (fair_ok .lone H_.pe (show TownP _ _ _ _ _ _ _ t from ⟨T.h, T.w, T.y⟩) (by omega) N hc_).mono fun v_ h2_ ⟨w6, X7, e_, o8, N_⟩ => ⟨w6, X7, e_, o8, H_.callNA N_⟩) fun v_ => ?_
  refine rl_ex fun w6 => rl_ex fun X7 => rl_and fun ev_ => rl_and fun o8 => ?_
  have ev_ := ev_.symm; subst ev_
  refine rl_own (L' := ([(b1, .cells #[.slice a1 t.nH c1, .slice a2 t.nW c2, .slice a3 t.m c3] 25 (0, 0))] : Pcs) ++ (X7 ++ (X4 ++ []))) rfl ?_
  refine rl_norm (tm' := zq2 (zq8 (zq16 _))) rfl ?_
  refine ro (exd_move (v := .tuple #[w6, .int .i64 0]) rfl) <| ro (exd_extract rfl (v := w6) rfl) <| rt (exd_extract rfl (v := .int .i64 0) rfl) (tm' := zq4 (zq8 (zq16 _))) rfl <| ro (exd_assign (v := w6) rfl) <| ro (exd_assign (v := .int .i64 0) rfl) <| ren ?_
  refine rs_perm (List.Perm.append_left _ (List.perm_append_comm_assoc _ _ _)) ?_
  refine rs_own (L' := ([(b1, .cells #[.slice a1 t.nH c1, .slice a2 t.nW c2, .slice a3 t.m c3] 25 (0, 0))] : Pcs) ++ (X4 ++ (X7 ++ []))) rfl ?_
  refine rs_lastN (A := ([(b1, .cells #[.slice a1 t.nH c1, .slice a2 t.nW c2, .slice a3 t.m c3] 25 (0, 0))] : Pcs)) o5 ((ics_length _).trans (LK_len _)) fun p9 a10 cp11 le12 ev_ D13 => ?_
  subst ev_
  refine rs_lastN (A := ([(b1, .cells #[.slice a1 t.nH c1, .slice a2 t.nW c2, .slice a3 t.m c3] 25 (0, 0))] : Pcs)) o8 ((ics_length _).trans (fairP_len t _)) fun p14 a15 cp16 le17 ev_ D18 => ?_
  subst ev_
  refine rs_own (L' := [(b1, .cells #[.slice a1 t.nH c1, .slice a2 t.nW c2, .slice a3 t.m c3] 25 (0, 0))]) rfl ?_
  refine fl_drawn2 32 [[], [0], [0], [0, 2], [0, 2, 3], [0, 1, 2, 3, 4], [0, 1, 2, 3, 4], [0, 1, 2, 3, 4, 6], [0, 1, 2, 3, 4, 6, 7], [0, 1, 2, 3, 4, 5, 6, 7, 8], [0, 1, 2, 3, 4, 5, 6, 7, 8], [0, 1, 2, 3, 4, 5, 6, 7, 8, 10], [0, 1, 2, 3, 4, 5, 6, 7, 8, 10, 11], [0, 1, 2, 3, 4, 5, 6, 7, 8, 10, 11, 12], [0, 1, 2, 3, 4, 5, 6, 7, 8, 9, 10, 11, 12, 13], [], [0, 1, 2, 3, 4, 5, 6, 7, 8, 9, 10, 11, 12, 13], [0, 1, 2, 3, 4, 5, 6, 7, 8, 9, 10, 11, 12, 13, 15, 16], [0, 1, 2, 3, 4, 5, 6, 7, 8, 9, 10, 11, 12, 13, 14, 15, 16], [0, 1, 2, 3, 4, 5, 6, 7, 8, 9, 10, 11, 12, 13, 14, 15, 16, 17, 18], [], [0, 1, 2, 3, 4, 5, 6, 7, 8, 9, 10, 11, 12, 13, 14, 15, 16, 17, 18], [0, 1, 2, 3, 4, 5, 6, 7, 8, 9, 10, 11, 12, 13, 14, 15, 16, 17, 18, 21], [0, 1, 2, 3, 4, 5, 6, 7, 8, 9, 10, 11, 12, 13, 14, 15, 16, 17, 18, 20, 21], [0, 1, 2, 3, 4, 5, 6, 7, 8, 9, 10, 11, 12, 13, 14, 15, 16, 17, 18, 19, 20, 21, 23], [0, 1, 2, 3, 4, 5, 6, 7, 8, 9, 10, 11, 12, 13, 14, 15, 16, 17, 18, 19, 20, 21, 22, 23, 24], [], [26], [], [28], [26, 27, 28, 29], [0, 1, 2, 3, 4, 5, 6, 7, 8, 9, 10, 11, 12, 13, 14, 15, 16, 17, 18, 19, 20, 21, 22, 23, 24], [0, 1, 2, 3, 4, 5, 6, 7, 8, 9, 10, 11, 12, 13, 14, 15, 16, 17, 18, 19, 20, 21, 22, 23, 24, 26, 28, 29, 30, 31], [0, 1, 2, 3, 4, 5, 6, 7, 8, 9, 10, 11, 12, 13, 14, 15, 16, 17, 18, 19, 20, 21, 22, 23, 24, 26, 27, 28, 29, 30, 31, 32], [0, 1, 2, 3, 4, 5, 6, 7, 8, 9, 10, 11, 12, 13, 14, 15, 16, 17, 18, 19, 20, 21, 22, 23, 24, 25, 26, 27, 28, 29, 31, 32, 33], [0, 1, 2, 3, 4, 5, 6, 7, 8, 9, 10, 11, 12, 13, 14, 15, 16, 17, 18, 19, 20, 21, 22, 23, 24, 25, 26, 27, 28, 29, 30, 31, 32, 33, 34], [0, 1, 2, 3, 4, 5, 6, 7, 8, 9, 10, 11, 12, 13, 14, 15, 16, 17, 18, 19, 20, 21, 22, 23, 24, 25, 26, 27, 28, 29, 30, 31, 32, 33, 34], [], []] mixed (by kernel_rfl) (Nat.le_of_ble_eq_true rfl) ?_
  refine wo (exd_move (v := .bool (true)) rfl) <| wt (exd_move (v := .bool (true)) rfl) (tm' := zq2 (zq4 (zq8 (zq16 _)))) rfl ?_
  refine swr_det (ms rfl rfl rfl) (fun h_ H_ => exd_move (v := .int .i64 0) rfl) rfl ?_
  refine swr_det (ms rfl rfl rfl) (fun h_ H_ => exd_eql rfl rfl) (tm' := zq32 _) rfl ?_
  refine wo (exd_pick_t rfl rfl (v := .bool (decide ((0 : Int) = 0))) rfl) <| wt (exd_move (v := .bool (decide ((0 : Int) = 0))) rfl) (tm' := zq2 (zq32 _)) rfl ?_
  refine swr_det (ms rfl rfl (decide_eq_true (by decide))) (fun h_ H_ => exd_move (v := .int .i64 0) rfl) rfl ?_
  refine swr_det (ms rfl rfl (decide_eq_true (by decide))) (fun h_ H_ => exd_eql rfl rfl) (tm' := zq4 (zq32 _)) rfl ?_
  refine wo (exd_pick_t rfl (decide_eq_true (by decide)) (v := .bool (decide ((0 : Int) = 0))) rfl) ?_
  refine wt (exd_move (v := .bool (decide ((0 : Int) = 0))) rfl) (tm' := zq2 (zq4 (zq32 _))) rfl ?_
  refine swr_det (ms rfl rfl (decide_eq_true (by decide))) (fun h_ H_ => exd_move (v := .slice a15 t.m cp16) rfl) rfl ?_
  refine swr_det (ms rfl rfl (decide_eq_true (by decide))) (fun h_ H_ => exd_len Tryd.underlying22 rfl) (tm' := zq8 (zq32 _)) rfl ?_
  refine swr_det (ms rfl rfl (decide_eq_true (by decide))) (fun h_ H_ => exd_leq rfl rfl) rfl ?_
  refine wt (exd_pick_t rfl (decide_eq_true (by decide)) (v := .bool (decide (((t.m : Nat) : Int) ≤ 40))) rfl) (tm' := zq2 (zq8 (zq32 _))) rfl ?_
  refine wo (exd_move (v := .bool (decide (((t.m : Nat) : Int) ≤ 40))) rfl) ?_
  refine swr_det (ms rfl rfl (decide_eq_true (by omega))) (fun h_ H_ => exd_loadN_own H_ tA25 tS25 rfl (i := 0) rfl (vs := [.slice a1 t.nH c1, .slice a2 t.nW c2, .slice a3 t.m c3]) rfl rfl) (tm' := zq4 (zq8 (zq32 _))) rfl ?_
  refine swr_det (ms rfl rfl (decide_eq_true (by omega))) (fun h_ H_ => exd_move (v := .slice a15 t.m cp16) rfl) rfl ?_
  refine swr_call (ms rfl rfl (decide_eq_true (by omega))) (first := []) (cap := []) rfl rfl fC31 (fun h_ H_ => (c31 .lone _ _ H_.pe _ _ _ _ _ _ _ _ _ t (show TownP _ _ _ _ _ _ _ t from ⟨((T.h.mono le12).mono le17), ((T.w.mono le12).mono le17), ((T.y.mono le12).mono le17)⟩) (by omega) _ _ _ _ (show Ints _ _ _ (fairP t none0) from D18) hV.wok).mono fun v_ h2_ ⟨e_, k_⟩ => ⟨e_, H_.call k_⟩) (tm' := zq2 (zq32 (zq32 []))) rfl ?_
  refine wo (exd_pick_t rfl (decide_eq_true (by omega)) (v := .bool (decide (DivI t (fairP t none0)))) rfl) ?_
  refine wt (exd_move (v := .bool (decide (DivI t (fairP t none0)))) rfl) (tm' := zq2 (zq32 (zq32 []))) rfl ?_
  refine swr_det (ms rfl rfl (decide_eq_true aD_)) (fun h_ H_ => exd_move (v := .int .i64 (mostV t)) rfl) rfl ?_
  refine swr_det (ms rfl rfl (decide_eq_true aD_)) (fun h_ H_ => exd_move (v := .slice a15 t.m cp16) rfl) (tm' := zq2 (zq32 (zq32 []))) rfl ?_
  refine swr_call (ms rfl rfl (decide_eq_true aD_)) (first := []) (cap := []) rfl rfl fC32 (fun h_ H_ => (c32 .lone _ _ H_.pe _ _ _ _ (show Ints _ _ _ (fairP t none0) from D18) (by omega) (fun i hi => by have z_ := fairP_bd hO none_sg i hi; omega) (by omega)).mono fun v_ h2_ ⟨e_, k_⟩ => ⟨e_, H_.call k_⟩) rfl ?_
  refine swr_det (ms rfl rfl (decide_eq_true aD_)) (fun h_ H_ => exd_eql rfl rfl) (tm' := zq2 (zq32 (zq32 []))) rfl ?_
  refine wo (exd_pick_t rfl (decide_eq_true aD_) (v := .bool (decide (mostV t = sm t.m (dv (fairP t none0))))) rfl) <| wt (exd_move (v := .bool (decide (mostV t = sm t.m (dv (fairP t none0))))) rfl) (tm' := zq2 (zq32 (zq32 []))) rfl ?_
  refine swr_det (ms rfl rfl (decide_eq_true rfl)) (fun h_ H_ => exd_move (v := .slice a10 t.nH cp11) rfl) rfl ?_
  refine swr_call (ms rfl rfl (decide_eq_true rfl)) (first := []) (cap := []) rfl rfl fC32 (fun h_ H_ => (c32 .lone _ _ H_.pe _ _ _ _ ((show Ints _ _ _ (LK t) from D13).mono le17) (by omega) (fun i hi => by have z_ := LK_bd hO.toOk (i := i) (by rw [LK_len]; omega); omega) (by omega)).mono fun v_ h2_ ⟨e_, k_⟩ => ⟨e_, H_.call k_⟩) (tm' := zq2 (zq32 (zq32 []))) rfl ?_
  refine swr_det (ms rfl rfl (decide_eq_true rfl)) (fun h_ H_ => exd_fieldAddr tF25_0 rfl (a' := ⟨b1, 0, none⟩) rfl) rfl ?_
  refine swr_det (ms rfl rfl (decide_eq_true rfl)) (fun h_ H_ => exd_load_own H_ tA22 rfl (i := 0) rfl (v := .slice a1 t.nH c1) rfl) (tm' := zq2 (zq32 (zq32 []))) rfl ?_
  refine swr_call (ms rfl rfl (decide_eq_true rfl)) (first := []) (cap := []) rfl rfl fC32 (fun h_ H_ => (c32 .lone _ _ H_.pe _ _ _ _ ((T.h.mono le12).mono le17) (by omega) (fun i hi => by have z_ := hV.h i hi; omega) (by omega)).mono fun v_ h2_ ⟨e_, k_⟩ => ⟨e_, H_.call k_⟩) rfl ?_
  refine swr_det (ms rfl rfl (decide_eq_true rfl)) (fun h_ H_ => exd_move (v := .int .i64 (mostV t)) rfl) (tm' := zq2 (zq32 (zq32 []))) rfl ?_
  refine swr_nil rfl ?_
  refine rl_det (ms rfl rfl (decide_eq_true rfl)) (fun h_ H_ => exd_sub rfl rfl (wr (by omega))) rfl ?_
  refine rl_det (ms rfl rfl (decide_eq_true rfl)) (fun h_ H_ => exd_eql rfl rfl) (tm' := zq2 (zq32 (zq32 []))) rfl ?_
  refine ro (exd_pick_t rfl (decide_eq_true rfl) (v := .bool (decide (sm t.nH (dv (LK t)) = (sm t.nH (dv t.hs)) - (mostV t)))) rfl) <| ro (exd_move (v := .bool (decide (sm t.nH (dv (LK t)) = (sm t.nH (dv t.hs)) - (mostV t)))) rfl) ?_
  refine rl_calld (ms rfl rfl (decide_eq_true aE_)) (first := []) (cap := []) rfl rfl fC16 (fun h_ H_ => c16 .lone _ _ H_.pe ((N.mono le12).mono le17) ((Z.mono le12).mono le17)) (tm' := zq2 (zq32 (zq32 []))) rfl ?_
  refine ro (exd_pick_t rfl (decide_eq_true aE_) (v := .bool (true)) rfl) <| ro (exd_assign (v := .bool (true)) rfl) <| rl_end ?_
  refine fl_retL Tryd.func6 rfl (vs := [.bool (true)]) (fun h_ H_ => ⟨.bool (true), _, rfl, rfl, rfl⟩) (v := .bool (true)) rfl ?_
  exact fun h_ H_ => ⟨rfl, H_.kept⟩
 ·
  refine fl_then rfl (not_t cc2) <| fsr ?_
  refine rl_calld mn (first := []) (cap := []) rfl rfl fC16 (fun h_ H_ => c16 .lone _ _ H_.pe N Z) (tm' := zq1 (zq4 (zq8 _))) rfl ?_
  refine ro (exd_assign (v := .bool (true)) rfl) <| rl_end ?_
  refine fl_retL Tryd.func6 rfl (vs := [.bool (true)]) (fun h_ H_ => ⟨.bool (true), _, rfl, rfl, rfl⟩) (v := .bool (true)) rfl ?_
  exact fun h_ H_ => ⟨rfl, H_.kept⟩
end Go.Proofs.YtalfgojocdonhaaDoor
namespace Go.Proofs.YtalfgojocdonhaaDoor
open Go.X Go.X.Flow Go.Conc Go.RowKit Go.ChangeShapes Go.WideShapes Go.ChangeAt Go.Joins
set_option maxRecDepth 100000

theorem lifted6 (os : Os) (started : os.Started) (H : Type) (enc : TypeId × Value → H) :
    ReturnsInHanded {} Tryd.checked os 6 .any (fun w args => (Rows.bucketsAllSpec.pre enc Tryd.prog Tryd.f6 Rows.bucketsAllRow.domain false w args ∧ laidMetH Tryd.prog Rows.bucketsAllRow.laid w) ∧ sizedMet enc Tryd.prog Tryd.f6 (OpenSpec.ofChange Rows.bucketsAllSpec) false w args) (Rows.bucketsAllSpec.post enc Tryd.prog Tryd.f6 false true false false) := by
  refine returnsInHanded_of_change_and (C := Tryd.checked) (X := fun w _ => laidMetH Tryd.prog Rows.bucketsAllRow.laid w) (fun _ _ _ hh h => h.of_heap hh) pOwn started (by kernel_rfl) Tryd.func6
    (ChangeSpec.witness_shaped (enc := enc) (C := Tryd.checked) (os := os) (X := fun w _ => laidMetH Tryd.prog Rows.bucketsAllRow.laid w) false (laidW os) #[.agg #[.slice none 0 0, .slice none 0 0, .slice none 0 0]] 8 (World.laidAll_os _ _ _)
      (World.shaped_of_ZipB (by kernel_rfl) (by kernel_rfl)) (by kernel_rfl) (by kernel_rfl) (by kernel_rfl) (laidW_met os _)) ?_
  intro W base args ds gs before hval0 hW _ _ hL _
  have hval : ∀ (j : Nat) t v, Tryd.f6.params[j]? = some t → args[j]? = some v → Value.okWide Tryd.prog W .any base t v := hval0
  have hW2 := hW
  obtain ⟨p, q, hA0, hV, rfl, _, _⟩ := hW2
  have hA : DataW.TrodAll enc Tryd.prog W 0 (fun _ => true) true Tryd.f6.params.toList args.toList ds p := hA0
  rw [Tryd.params6] at hA hval
  obtain ⟨v0, d0, rfl, rfl, h0⟩ := trodAll_one hA
  obtain ⟨rfl, rfl⟩ := trodVars_none hV
  obtain ⟨a1, c1, a2, c2, a3, c3, t, rfl, hl, _, T⟩ := open_town (hval 0 25 v0 rfl rfl) h0
  refine (calls_of_enters (e6 W.heap (pW W) (pW_per W) a1 a2 a3 c1 c2 c3 t T hl (none_of_laid hL) (tab_of_laid hL))).mono fun e W2 ⟨v, he, ⟨hv, hk_⟩, cl⟩ => ⟨v, he, ?_⟩
  subst hv
  exact law_post pLaid rfl (fun t ht => by rw [Tryd.params6] at ht; revert t; decide +kernel) rfl Tryd.underlying4 hW rfl (below_of hk_ cl)

theorem bucketsAllRowHolds : Rows.BucketsAllSaid :=
  OpenClaim.holds_of_wide 6 Tryd.f6 rfl rfl rfl rfl rfl rfl rfl ⟨rfl, rfl, rfl, rfl, rfl⟩ rfl rfl rfl rfl rfl (by kernel_rfl) Tryd.func6 (by kernel_rfl)
    (of_decide_eq_true (by kernel_rfl)) (by unfold Func.isWrapper; first | (rw [if_pos (by decide +kernel)]; kernel_rfl) | (rw [if_neg (by decide +kernel)]; exact ⟨rfl, rfl⟩))
    (fun os started H enc _ => lifted6 os started H enc)

theorem bucketsAllHolds : Rows.BucketsAllCardSaid :=
  Claim7.holds_tied_plain_at .later [] [.data, .data, .data] true (true, "5334d201df14a8cbe7ef60c793562a47fe331153d035b74b45b1c636860d1486") false bucketsAllRowHolds (fun _ h => by cases h) (by kernel_rfl) (fun _ h => by cases h) bucketsAll_row_tie rfl ⟨rfl, rfl⟩ (by kernel_rfl) rfl
    (fun f fn hf hfn => by
      obtain rfl : f = 6 := Option.some.inj ((show Tryd.prog.funcNamed "steening/steeninglaw03.BucketsAll" = some 6 by kernel_rfl).symm.trans hf) |>.symm
      obtain rfl : fn = Tryd.f6 := (Option.some.inj (Tryd.func6.symm.trans hfn)).symm
      exact ⟨by kernel_rfl, fun j t ht => by
        rw [Tryd.params6] at ht
        have hm : t ∈ [25] := by simpa using Array.mem_of_getElem? ht
        have hall : ([25].all fun u => !Tryd.prog.wantsStandIn u) = true := by kernel_rfl
        exact (show Tryd.prog.wantsStandIn t = false by simpa using List.all_eq_true.1 hall t hm)⟩)
    (by kernel_rfl)

#print axioms bucketsAllHolds
end Go.Proofs.YtalfgojocdonhaaDoor
