/-
  BucketsOne, for every input: the law returns true and leaves its arguments as they were. The row, and the tied card.
-/
import Derived.Test.YtalfgojocdonhaaDoorD2
import Derived.Test.YtalfgojocdonhaaDoorD6
import Derived.Test.YtalfgojocdonhaaDoorD3
import Derived.Test.YtalfgojocdonhaaDoorD4
import Derived.Test.YtalfgojocdonhaaDoorD5
import Derived.Test.YtalfgojocdonhaaDoorCards
import Derived.Test.YtalfgojocdonhaaDoorTie
namespace Go.Proofs.YtalfgojocdonhaaDoor
open Go.X Go.X.Flow Go.Conc
set_option maxRecDepth 10000
set_option synthInstance.maxSize 2000

set_option maxHeartbeats 2000000
theorem e7 (h : Heap) (p : PHeap) (hp : Per p h) (a1 a2 a3 : Option Addr) (c1 c2 c3 : Nat) (t : Tn) (T : TownP p a1 t.nH a2 t.nW a3 t.m t) (hl : t.nH ≤ 9223372036854775807 ∧ t.nW ≤ 9223372036854775807 ∧ t.m ≤ 9223372036854775807) (z : Int) (N : NoneP p) (Z : TabP p) : EntersL Tryd.prog 7 #[.agg #[.slice a1 t.nH c1, .slice a2 t.nW c2, .slice a3 t.m c3], .int .i64 (z)] h fun v h' => v = .bool true ∧ Keep h h' := by
 refine enters_introL (Φ := fun h_ => St h [] p h_ []) Tryd.func7 rfl (tm := zq1 (zq4 (zq16 (zq32 (zq32 (zq32 [])))))) rfl ?_ (St.start h _ hp)
 intro cs
 refine fsr ?_
 refine rl_box mn (v := .agg #[.slice a1 t.nH c1, .slice a2 t.nW c2, .slice a3 t.m c3]) rfl fun b1 => rl_own (L' := [(b1, .cells #[.slice a1 t.nH c1, .slice a2 t.nW c2, .slice a3 t.m c3] 25 (0, 0))]) rfl ?_
 refine ro (exd_assign (v := .bool (false)) rfl) <| ren <| fsr ?_
 refine rl_det mn (fun h_ H_ => exd_loadN_own H_ tA25 tS25 rfl (i := 0) rfl (vs := [.slice a1 t.nH c1, .slice a2 t.nW c2, .slice a3 t.m c3]) rfl rfl) (tm' := zq2 (zq4 (zq8 _))) rfl ?_
 refine rl_calld mn (first := []) (cap := []) rfl rfl fC23 (fun h_ H_ => c23 .lone _ _ H_.pe _ _ _ _ _ _ t (show TownP _ _ _ _ _ _ _ t from ⟨T.h, T.w, T.y⟩) hl) rfl ?_
 refine ro (exd_not rfl) <| rt (exd_move (v := .bool (!(readyB t))) rfl) (tm' := zq1 (zq16 _)) rfl ?_
 rcases bcases (readyB t) with cc2 | cc2
 ·
  obtain ⟨hf_, hc_⟩ := ready_of cc2
  have hn : t.nH ≤ 40 ∧ t.nW ≤ 40 ∧ t.m ≤ 41 := by have z_ := not_far hf_; unfold Big at z_; omega
  have hO : OkT t := okt_of hc_
  obtain ⟨h12, hV⟩ := vd_of hc_
  have oH := hO.nh
  have aD_ := divF hV hO none_sg
  refine rl_det (ms rfl rfl (not_f cc2)) (fun h_ H_ => exd_loadN_own H_ tA25 tS25 rfl (i := 0) rfl (vs := [.slice a1 t.nH c1, .slice a2 t.nW c2, .slice a3 t.m c3]) rfl rfl) rfl ?_
  refine rl_det (ms rfl rfl (not_f cc2)) (fun h_ H_ => exd_move (v := .int .i64 (z)) rfl) rfl ?_
  refine rl_calld (ms rfl rfl (not_f cc2)) (first := []) (cap := []) rfl rfl fC33 (fun h_ H_ => c33 .lone _ _ H_.pe _ _ _ _ _ _ _ _ _ t (show TownP _ _ _ _ _ _ _ t from ⟨T.h, T.w, T.y⟩) (by omega) (z)) (tm' := zq4 (zq16 _)) rfl ?_
  refine rl_det (ms rfl rfl (not_f cc2)) (fun h_ H_ => exd_not rfl) rfl ?_
  refine ro (exd_pick_f rfl (not_f cc2) (v := .bool (!(decide (0 ≤ z ∧ z ≤ (t.nH : Int) - 1)))) rfl) <| rl_end ?_
  by_cases cc3 : 0 ≤ z ∧ z ≤ (t.nH : Int) - 1
  ·
   have hz_ := cc3
   have oF_ := one_facts hV hO hz_
   have oa_ := oF_.a; have ob_ := oF_.b; have oc_ := oF_.c; have od_ := oF_.d; have oe_ := oF_.e; have oh_ := oF_.h
   refine fl_else rfl (not_f (dtt cc3)) <| fl_skip <| fsr ?_
   refine rl_det mn (fun h_ H_ => exd_loadN_own H_ tA25 tS25 rfl (i := 0) rfl (vs := [.slice a1 t.nH c1, .slice a2 t.nW c2, .slice a3 t.m c3]) rfl rfl) (tm' := zq1 (zq8 (zq16 _))) rfl ?_
   refine ro (exd_move (v := .int .i64 (z)) rfl) ?_
   refine rl_calld mn (first := []) (cap := []) rfl rfl fC18 (fun h_ H_ => house_ok .lone H_.pe (show TownP _ _ _ _ _ _ _ t from ⟨T.h, T.w, T.y⟩) (by omega) N hc_ (z := z) hz_) rfl ?_
   refine rt (exd_move (v := .tuple #[.agg #[.int .i64 (drawV t (z) (-1)), .int .i64 (drawV t (z) 1)], .int .i64 0]) rfl) (tm' := zq8 (zq16 _)) rfl <| ro (exd_extract rfl (v := .agg #[.int .i64 (drawV t (z) (-1)), .int .i64 (drawV t (z) 1)]) rfl) <| ro (exd_extract rfl (v := .int .i64 0) rfl) ?_
   refine rl_alloc mn tZ30 rfl fun b4 => rl_own (L' := [(b4, .cells #[.int .i64 0, .int .i64 0] 30 (0, 0)), (b1, .cells #[.slice a1 t.nH c1, .slice a2 t.nW c2, .slice a3 t.m c3] 25 (0, 0))]) rfl ?_
   refine rl_norm (tm' := zq2 (zq4 _)) rfl ?_
   refine rl_store mn tS30 rfl (v := .agg #[.int .i64 (drawV t (z) (-1)), .int .i64 (drawV t (z) 1)]) rfl (i := 0) rfl rfl rfl (Nat.le_of_ble_eq_true rfl) (cs2 := [.int .i64 (drawV t (z) (-1)), .int .i64 (drawV t (z) 1)]) rfl (rl_own (L' := [(b4, .cells #[.int .i64 (drawV t (z) (-1)), .int .i64 (drawV t (z) 1)] 30 (0, 0)), (b1, .cells #[.slice a1 t.nH c1, .slice a2 t.nW c2, .slice a3 t.m c3] 25 (0, 0))]) rfl ?_)
   refine ro (exd_assign (v := .int .i64 0) rfl) <| ren <| rl_start <| rd (fun h_ H_ => exd_loadN_own H_ tA25 tS25 rfl (i := 1) rfl (vs := [.slice a1 t.nH c1, .slice a2 t.nW c2, .slice a3 t.m c3]) rfl rfl) ?_
   refine rl_own (L' := ([(b4, .cells #[.int .i64 (drawV t (z) (-1)), .int .i64 (drawV t (z) 1)] 30 (0, 0)), (b1, .cells #[.slice a1 t.nH c1, .slice a2 t.nW c2, .slice a3 t.m c3] 25 (0, 0))] : Pcs) ++ []) rfl ?_
   refine rl_call mn (first := []) (cap := []) rfl rfl fC24 (R := fun v_ h_ => ∃ w5 : Value, ∃ X6 : Pcs, v_ = .tuple #[w5, .bool (true)] ∧ (OwnS 3 1 w5 (ics (LK t)) X6) ∧ St h [] p h_ (([(b4, .cells #[.int .i64 (drawV t (z) (-1)), .int .i64 (drawV t (z) 1)] 30 (0, 0)), (b1, .cells #[.slice a1 t.nH c1, .slice a2 t.nW c2, .slice a3 t.m c3] 25 (0, 0))] : Pcs) ++ (X6 ++ []))) (fun h_ H_ => (c24 .lone _ _ H_.pe _ _ _ _ _ _ t (show TownP _ _ _ _ _ _ _ t from ⟨T.h, T.w, T.y⟩) (by omega) N hc_).mono fun v_ h2_ ⟨w5, X6, e_, o7, N_⟩ => ⟨w5, X6, e_, o7, H_.callNA N_⟩) fun v_ => ?_
   refine rl_ex fun w5 => rl_ex fun X6 => rl_and fun ev_ => rl_and fun o7 => ?_
   have ev_ := ev_.symm; subst ev_
   refine rl_own (L' := ([(b4, .cells #[.int .i64 (drawV t (z) (-1)), .int .i64 (drawV t (z) 1)] 30 (0, 0)), (b1, .cells #[.slice a1 t.nH c1, .slice a2 t.nW c2, .slice a3 t.m c3] 25 (0, 0))] : Pcs) ++ (X6 ++ [])) rfl ?_
   refine rl_norm (tm' := zq32 _) rfl ?_
   refine ro (exd_move (v := .tuple #[w5, .bool (true)]) rfl) <| ro (exd_extract rfl (v := w5) rfl) <| rt (exd_extract rfl (v := .bool (true)) rfl) (tm' := zq2 (zq32 _)) rfl <| ro (exd_assign (v := w5) rfl) <| ro (exd_assign (v := .bool (true)) rfl) <| ren ?_
   refine rl_start ?_
   refine rl_det mn (fun h_ H_ => exd_loadN_own H_ tA25 tS25 rfl (i := 1) rfl (vs := [.slice a1 t.nH c1, .slice a2 t.nW c2, .slice a3 t.m c3]) rfl rfl) (tm' := zq4 (zq32 _)) rfl ?_
   refine rl_call mn (first := []) (cap := []) rfl rfl fC30 (R := fun v_ h_ => ∃ w8 : Value, ∃ X9 : Pcs, v_ = .tuple #[w8, .int .i64 0] ∧ (OwnS 3 1 w8 (ics (fairP t none0)) X9) ∧ St h [] p h_ (([(b4, .cells #[.int .i64 (drawV t (z) (-1)), .int .i64 (drawV t (z) 1)] 30 (0, 0)), (b1, .cells #[.slice a1 t.nH c1, .slice a2 t.nW c2, .slice a3 t.m c3] 25 (0, 0))] : Pcs) ++ (X9 ++ (X6 ++ [])))) (fun h_ H_ => (fair_ok .lone H_.pe (show TownP _ _ _ _ _ _ _ t from ⟨T.h, T.w, T.y⟩) (by omega) N hc_).mono fun v_ h2_ ⟨w8, X9, e_, o10, N_⟩ => ⟨w8, X9, e_, o10, H_.callNA N_⟩) fun v_ => ?_
   refine rl_ex fun w8 => rl_ex fun X9 => rl_and fun ev_ => rl_and fun o10 => ?_
   have ev_ := ev_.symm; subst ev_
   refine rl_own (L' := ([(b4, .cells #[.int .i64 (drawV t (z) (-1)), .int .i64 (drawV t (z) 1)] 30 (0, 0)), (b1, .cells #[.slice a1 t.nH c1, .slice a2 t.nW c2, .slice a3 t.m c3] 25 (0, 0))] : Pcs) ++ (X9 ++ (X6 ++ []))) rfl ?_
   refine ro (exd_move (v := .tuple #[w8, .int .i64 0]) rfl) <| rt (exd_extract rfl (v := w8) rfl) (tm' := zq2 (zq4 (zq32 _))) rfl <| ro (exd_extract rfl (v := .int .i64 0) rfl) <| ro (exd_assign (v := w8) rfl) <| rt (exd_assign (v := .int .i64 0) rfl) (tm' := zq1 (zq2 (zq8 _))) rfl <| ren ?_
   refine fl_seq ?_
   refine rs_perm (List.Perm.append_left _ (List.perm_append_comm_assoc _ _ _)) ?_
   refine rs_own (L' := ([(b4, .cells #[.int .i64 (drawV t (z) (-1)), .int .i64 (drawV t (z) 1)] 30 (0, 0)), (b1, .cells #[.slice a1 t.nH c1, .slice a2 t.nW c2, .slice a3 t.m c3] 25 (0, 0))] : Pcs) ++ (X6 ++ (X9 ++ []))) rfl ?_
   refine rs_lastN (A := ([(b4, .cells #[.int .i64 (drawV t (z) (-1)), .int .i64 (drawV t (z) 1)] 30 (0, 0)), (b1, .cells #[.slice a1 t.nH c1, .slice a2 t.nW c2, .slice a3 t.m c3] 25 (0, 0))] : Pcs)) o7 ((ics_length _).trans (LK_len _)) fun p11 a12 cp13 le14 ev_ D15 => ?_
   subst ev_
   refine rs_lastN (A := ([(b4, .cells #[.int .i64 (drawV t (z) (-1)), .int .i64 (drawV t (z) 1)] 30 (0, 0)), (b1, .cells #[.slice a1 t.nH c1, .slice a2 t.nW c2, .slice a3 t.m c3] 25 (0, 0))] : Pcs)) o10 ((ics_length _).trans (fairP_len t _)) fun p16 a17 cp18 le19 ev_ D20 => ?_
   subst ev_
   refine rs_own (L' := [(b4, .cells #[.int .i64 (drawV t (z) (-1)), .int .i64 (drawV t (z) 1)] 30 (0, 0)), (b1, .cells #[.slice a1 t.nH c1, .slice a2 t.nW c2, .slice a3 t.m c3] 25 (0, 0))]) rfl ?_
   refine rl_start <| ro (exd_move (v := .int .i64 0) rfl) <| ro (exd_neq rfl rfl) <| rt (exd_move (v := .bool (decide ((0 : Int) ≠ 0))) rfl) (tm' := zq2 (zq8 (zq32 _))) rfl ?_
   refine rl_det (ms rfl rfl (decide_eq_false (by decide))) (fun h_ H_ => exd_move (v := .bool (true)) rfl) rfl ?_
   refine rl_det (ms rfl rfl (decide_eq_false (by decide))) (fun h_ H_ => exd_not rfl) rfl ?_
   refine rt (exd_pick_f rfl (decide_eq_false (by decide)) (v := .bool (!true)) rfl) (tm' := zq1 (zq4 (zq8 (zq32 _)))) rfl ?_
   refine ro (exd_move (v := .bool (!true)) rfl) ?_
   refine rl_det (ms rfl rfl (not_f rfl)) (fun h_ H_ => exd_move (v := .int .i64 0) rfl) rfl ?_
   refine rl_det (ms rfl rfl (not_f rfl)) (fun h_ H_ => exd_neq rfl rfl) (tm' := zq16 (zq32 _)) rfl ?_
   refine ro (exd_pick_f rfl (not_f rfl) (v := .bool (decide ((0 : Int) ≠ 0))) rfl) <| ro (exd_move (v := .bool (decide ((0 : Int) ≠ 0))) rfl) ?_
   refine rl_det (ms rfl rfl (decide_eq_false (by decide))) (fun h_ H_ => exd_move (v := .slice a17 t.m cp18) rfl) (tm' := zq1 (zq2 (zq16 (zq32 _)))) rfl ?_
   refine rl_det (ms rfl rfl (decide_eq_false (by decide))) (fun h_ H_ => exd_len Tryd.underlying22 rfl) rfl ?_
   refine rl_det (ms rfl rfl (decide_eq_false (by decide))) (fun h_ H_ => exd_gtr rfl rfl) rfl ?_
   refine rt (exd_pick_f rfl (decide_eq_false (by decide)) (v := .bool (decide (40 < ((t.m : Nat) : Int)))) rfl) (tm' := zq2 (zq4 (zq16 (zq32 _)))) rfl ?_
   refine ro (exd_move (v := .bool (decide (40 < ((t.m : Nat) : Int)))) rfl) ?_
   refine rl_det (ms rfl rfl (decide_eq_false (by omega))) (fun h_ H_ => exd_loadN_own H_ tA25 tS25 rfl (i := 1) rfl (vs := [.slice a1 t.nH c1, .slice a2 t.nW c2, .slice a3 t.m c3]) rfl rfl) rfl ?_
   refine rl_det (ms rfl rfl (decide_eq_false (by omega))) (fun h_ H_ => exd_move (v := .slice a17 t.m cp18) rfl) (tm' := zq1 (zq8 (zq16 (zq32 _)))) rfl ?_
   refine rl_calld (ms rfl rfl (decide_eq_false (by omega))) (first := []) (cap := []) rfl rfl fC31 (fun h_ H_ => c31 .lone _ _ H_.pe _ _ _ _ _ _ _ _ _ t (show TownP _ _ _ _ _ _ _ t from ⟨((T.h.mono le14).mono le19), ((T.w.mono le14).mono le19), ((T.y.mono le14).mono le19)⟩) (by omega) _ _ _ _ (show Ints _ _ _ (fairP t none0) from D20) hV.wok) rfl ?_
   refine rl_det (ms rfl rfl (decide_eq_false (by omega))) (fun h_ H_ => exd_not rfl) rfl ?_
   refine rt (exd_pick_f rfl (decide_eq_false (by omega)) (v := .bool (!(decide (DivI t (fairP t none0))))) rfl) (tm' := zq4 (zq8 (zq16 (zq32 _)))) rfl ?_
   refine rl_end <| fl_else rfl (not_f (decide_eq_true aD_)) <| fl_skip <| fsr <| rd (fun h_ H_ => exd_loadN_own H_ tA25 tS25 rfl (i := 1) rfl (vs := [.slice a1 t.nH c1, .slice a2 t.nW c2, .slice a3 t.m c3]) rfl rfl) <| ro (exd_move (v := .slice a17 t.m cp18) rfl) ?_
   refine rt (exd_move (v := .int .i64 (z)) rfl) (tm' := zq1 (zq2 (zq4 (zq8 (zq16 (zq32 _)))))) rfl ?_
   refine rl_calld mn (first := []) (cap := []) rfl rfl fC34 (fun h_ H_ => c34 .lone _ _ H_.pe _ _ _ _ _ _ _ _ _ t (show TownP _ _ _ _ _ _ _ t from ⟨((T.h.mono le14).mono le19), ((T.w.mono le14).mono le19), ((T.y.mono le14).mono le19)⟩) (by omega) _ _ _ _ (show Ints _ _ _ (fairP t none0) from D20) (by omega) (fun i hi => by have z_ := fairP_bd hO none_sg i hi; unfold dv; omega) (z)) rfl ?_
   refine ro (exd_assign (v := .int .i64 (drawI t (fairP t none0) (fairP t none0).length (z))) rfl) <| ren <| rl_start <| rt (exd_fieldAddr tF25_0 rfl (a' := ⟨b1, 0, none⟩) rfl) (tm' := zq1 (zq32 (zq32 _))) rfl <| rd (fun h_ H_ => exd_load_own H_ tA22 rfl (i := 1) rfl (v := .slice a1 t.nH c1) rfl) <| ro (exd_move (v := .int .i64 (z)) rfl) ?_
   refine rt (exd_indexAddr Tryd.underlying22 tS3 (sl_ne a1 t.nH c1 (((T.h.mono le14).mono le19).ne (by omega))) rfl (by omega) (by omega) (a' := (adr a1).add (((z).toNat) * 1)) rfl) (tm' := zq4 (zq32 (zq32 _))) rfl ?_
   refine rd (fun h_ H_ => exd_load_per H_ tA3 rfl (v := .int .i64 (t.hs.getD ((z).toNat) 0)) (((T.h.mono le14).mono le19).get (by omega))) ?_
   refine ro (exd_assign (v := .int .i64 (t.hs.getD ((z).toNat) 0)) rfl) <| ren <| rl_start <| rt (exd_fieldAddr tF30_0 rfl (a' := ⟨b4, 0, none⟩) rfl) (tm' := zq2 (zq4 (zq32 (zq32 _)))) rfl <| rd (fun h_ H_ => exd_load_own H_ tA3 rfl (i := 0) rfl (v := .int .i64 (drawV t (z) (-1))) rfl) <| ro (exd_geq rfl rfl) ?_
   refine rt (exd_move (v := .bool (decide (0 ≤ drawV t (z) (-1)))) rfl) (tm' := zq1 (zq8 (zq32 (zq32 _)))) rfl ?_
   refine rl_det (ms rfl rfl (decide_eq_true oF_.a)) (fun h_ H_ => exd_fieldAddr tF30_1 rfl (a' := ⟨b4, 1, none⟩) rfl) rfl ?_
   refine rl_det (ms rfl rfl (decide_eq_true oF_.a)) (fun h_ H_ => exd_load_own H_ tA3 rfl (i := 0) rfl (v := .int .i64 (drawV t (z) 1)) rfl) rfl ?_
   refine rl_det (ms rfl rfl (decide_eq_true oF_.a)) (fun h_ H_ => exd_move (v := .int .i64 (t.hs.getD ((z).toNat) 0)) rfl) (tm' := zq4 (zq8 (zq32 (zq32 _)))) rfl ?_
   refine rl_det (ms rfl rfl (decide_eq_true oF_.a)) (fun h_ H_ => exd_leq rfl rfl) rfl ?_
   refine ro (exd_pick_t rfl (decide_eq_true oF_.a) (v := .bool (decide (drawV t (z) 1 ≤ t.hs.getD ((z).toNat) 0))) rfl) <| rt (exd_move (v := .bool (decide (drawV t (z) 1 ≤ t.hs.getD ((z).toNat) 0))) rfl) (tm' := zq1 (zq4 (zq16 (zq32 (zq32 (zq32 [])))))) rfl ?_
   refine rl_det (ms rfl rfl (decide_eq_true oF_.b)) (fun h_ H_ => exd_fieldAddr tF30_0 rfl (a' := ⟨b4, 0, none⟩) rfl) rfl ?_
   refine rl_det (ms rfl rfl (decide_eq_true oF_.b)) (fun h_ H_ => exd_load_own H_ tA3 rfl (i := 0) rfl (v := .int .i64 (drawV t (z) (-1))) rfl) rfl ?_
   refine rl_det (ms rfl rfl (decide_eq_true oF_.b)) (fun h_ H_ => exd_move (v := .int .i64 (drawI t (fairP t none0) (fairP t none0).length (z))) rfl) (tm' := zq1 (zq4 (zq16 (zq32 (zq32 (zq32 [])))))) rfl ?_
   refine rl_det (ms rfl rfl (decide_eq_true oF_.b)) (fun h_ H_ => exd_leq rfl rfl) rfl ?_
   refine ro (exd_pick_t rfl (decide_eq_true oF_.b) (v := .bool (decide (drawV t (z) (-1) ≤ drawI t (fairP t none0) (fairP t none0).length (z)))) rfl) <| rt (exd_move (v := .bool (decide (drawV t (z) (-1) ≤ drawI t (fairP t none0) (fairP t none0).length (z)))) rfl) (tm' := zq1 (zq4 (zq16 (zq32 (zq32 (zq32 [])))))) rfl ?_
   refine rl_det (ms rfl rfl (decide_eq_true oF_.c)) (fun h_ H_ => exd_move (v := .int .i64 (drawI t (fairP t none0) (fairP t none0).length (z))) rfl) rfl ?_
   refine rl_det (ms rfl rfl (decide_eq_true oF_.c)) (fun h_ H_ => exd_fieldAddr tF30_1 rfl (a' := ⟨b4, 1, none⟩) rfl) rfl ?_
   refine rl_det (ms rfl rfl (decide_eq_true oF_.c)) (fun h_ H_ => exd_load_own H_ tA3 rfl (i := 0) rfl (v := .int .i64 (drawV t (z) 1)) rfl) (tm' := zq1 (zq4 (zq16 (zq32 (zq32 (zq32 [])))))) rfl ?_
   refine rl_det (ms rfl rfl (decide_eq_true oF_.c)) (fun h_ H_ => exd_leq rfl rfl) rfl ?_
   refine ro (exd_pick_t rfl (decide_eq_true oF_.c) (v := .bool (decide (drawI t (fairP t none0) (fairP t none0).length (z) ≤ drawV t (z) 1))) rfl) <| rt (exd_move (v := .bool (decide (drawI t (fairP t none0) (fairP t none0).length (z) ≤ drawV t (z) 1))) rfl) (tm' := zq1 (zq4 (zq16 (zq32 (zq32 (zq32 [])))))) rfl ?_
   refine rl_det (ms rfl rfl (decide_eq_true oF_.d)) (fun h_ H_ => exd_fieldAddr tF30_1 rfl (a' := ⟨b4, 1, none⟩) rfl) rfl ?_
   refine rl_det (ms rfl rfl (decide_eq_true oF_.d)) (fun h_ H_ => exd_load_own H_ tA3 rfl (i := 0) rfl (v := .int .i64 (drawV t (z) 1)) rfl) rfl ?_
   refine rl_det (ms rfl rfl (decide_eq_true oF_.d)) (fun h_ H_ => exd_fieldAddr tF30_0 rfl (a' := ⟨b4, 0, none⟩) rfl) (tm' := zq1 (zq4 (zq16 (zq32 (zq32 (zq32 [])))))) rfl ?_
   refine rl_det (ms rfl rfl (decide_eq_true oF_.d)) (fun h_ H_ => exd_load_own H_ tA3 rfl (i := 0) rfl (v := .int .i64 (drawV t (z) (-1))) rfl) rfl ?_
   refine rl_det (ms rfl rfl (decide_eq_true oF_.d)) (fun h_ H_ => exd_add rfl rfl (wr (by omega))) rfl ?_
   refine rl_det (ms rfl rfl (decide_eq_true oF_.d)) (fun h_ H_ => exd_leq rfl rfl) (tm' := zq1 (zq4 (zq16 (zq32 (zq32 (zq32 [])))))) rfl ?_
   refine ro (exd_pick_t rfl (decide_eq_true oF_.d) (v := .bool (decide (drawV t (z) 1 ≤ (drawV t (z) (-1)) + 1))) rfl) <| ro (exd_move (v := .bool (decide (drawV t (z) 1 ≤ (drawV t (z) (-1)) + 1))) rfl) ?_
   refine rl_det (ms rfl rfl (decide_eq_true oF_.e)) (fun h_ H_ => exd_move (v := .slice a12 t.nH cp13) rfl) (tm' := zq1 (zq4 (zq16 (zq32 (zq32 (zq32 [])))))) rfl ?_
   refine rl_det (ms rfl rfl (decide_eq_true oF_.e)) (fun h_ H_ => exd_move (v := .int .i64 (t.hs.getD ((z).toNat) 0)) rfl) rfl ?_
   refine rl_det (ms rfl rfl (decide_eq_true oF_.e)) (fun h_ H_ => exd_fieldAddr tF30_0 rfl (a' := ⟨b4, 0, none⟩) rfl) rfl ?_
   refine rl_det (ms rfl rfl (decide_eq_true oF_.e)) (fun h_ H_ => exd_load_own H_ tA3 rfl (i := 0) rfl (v := .int .i64 (drawV t (z) (-1))) rfl) (tm' := zq1 (zq4 (zq16 (zq32 (zq32 (zq32 [])))))) rfl ?_
   refine rl_det (ms rfl rfl (decide_eq_true oF_.e)) (fun h_ H_ => exd_sub rfl rfl (wr (by omega))) rfl ?_
   refine rl_calld (ms rfl rfl (decide_eq_true oF_.e)) (first := []) (cap := []) rfl rfl fC35 (fun h_ H_ => c35 .lone _ _ H_.pe _ _ _ _ ((show Ints _ _ _ (LK t) from D15).mono le19) (by omega) ((t.hs.getD ((z).toNat) 0) - (drawV t (z) (-1)))) rfl ?_
   refine rt (exd_pick_t rfl (decide_eq_true oF_.e) (v := .bool (decide ((t.hs.getD ((z).toNat) 0) - (drawV t (z) (-1)) ∈ (LK t)))) rfl) (tm' := zq1 (zq4 (zq16 (zq32 (zq32 (zq32 [])))))) rfl <| ro (exd_move (v := .bool (decide ((t.hs.getD ((z).toNat) 0) - (drawV t (z) (-1)) ∈ (LK t)))) rfl) ?_
   refine rl_det (ms rfl rfl (decide_eq_true oF_.f)) (fun h_ H_ => exd_move (v := .slice a12 t.nH cp13) rfl) rfl ?_
   refine rl_det (ms rfl rfl (decide_eq_true oF_.f)) (fun h_ H_ => exd_move (v := .int .i64 (t.hs.getD ((z).toNat) 0)) rfl) (tm' := zq1 (zq4 (zq16 (zq32 (zq32 (zq32 [])))))) rfl ?_
   refine rl_det (ms rfl rfl (decide_eq_true oF_.f)) (fun h_ H_ => exd_fieldAddr tF30_1 rfl (a' := ⟨b4, 1, none⟩) rfl) rfl ?_
   refine rl_det (ms rfl rfl (decide_eq_true oF_.f)) (fun h_ H_ => exd_load_own H_ tA3 rfl (i := 0) rfl (v := .int .i64 (drawV t (z) 1)) rfl) rfl ?_
   refine rl_det (ms rfl rfl (decide_eq_true oF_.f)) (fun h_ H_ => exd_sub rfl rfl (wr (by omega))) (tm' := zq1 (zq4 (zq16 (zq32 (zq32 (zq32 [])))))) rfl ?_
   refine rl_calld (ms rfl rfl (decide_eq_true oF_.f)) (first := []) (cap := []) rfl rfl fC35 (fun h_ H_ => c35 .lone _ _ H_.pe _ _ _ _ ((show Ints _ _ _ (LK t) from D15).mono le19) (by omega) ((t.hs.getD ((z).toNat) 0) - (drawV t (z) 1))) rfl ?_
   refine ro (exd_pick_t rfl (decide_eq_true oF_.f) (v := .bool (decide ((t.hs.getD ((z).toNat) 0) - (drawV t (z) 1) ∈ (LK t)))) rfl) <| rt (exd_move (v := .bool (decide ((t.hs.getD ((z).toNat) 0) - (drawV t (z) 1) ∈ (LK t)))) rfl) (tm' := zq1 (zq4 (zq16 (zq32 (zq32 (zq32 [])))))) rfl ?_
   refine rl_calld (ms rfl rfl (decide_eq_true oF_.g)) (first := []) (cap := []) rfl rfl fC16 (fun h_ H_ => c16 .lone _ _ H_.pe ((N.mono le14).mono le19) ((Z.mono le14).mono le19)) rfl ?_
   refine ro (exd_pick_t rfl (decide_eq_true oF_.g) (v := .bool (true)) rfl) <| rt (exd_assign (v := .bool (true)) rfl) (tm' := zq1 (zq4 _)) rfl <| rl_end ?_
   refine fl_retL Tryd.func7 rfl (vs := [.bool (true)]) (fun h_ H_ => ⟨.bool (true), _, rfl, rfl, rfl⟩) (v := .bool (true)) rfl ?_
   exact fun h_ H_ => ⟨rfl, H_.kept⟩
  ·
   refine fl_then rfl (not_t (dff cc3)) <| fsr ?_
   refine rl_calld mn (first := []) (cap := []) rfl rfl fC16 (fun h_ H_ => c16 .lone _ _ H_.pe N Z) rfl ?_
   refine ro (exd_assign (v := .bool (true)) rfl) <| rl_end ?_
   refine fl_retL Tryd.func7 rfl (vs := [.bool (true)]) (fun h_ H_ => ⟨.bool (true), _, rfl, rfl, rfl⟩) (v := .bool (true)) rfl ?_
   exact fun h_ H_ => ⟨rfl, H_.kept⟩
 ·
  refine rl_pass (mo rfl rfl (not_t cc2)) (tm' := zq2 (zq16 _)) rfl <| rp (mo rfl rfl (not_t cc2)) <| rp (mo rfl rfl (not_t cc2)) <| rl_pass (mo rfl rfl (not_t cc2)) (tm' := zq1 (zq4 (zq16 _))) rfl <| ro (exd_pick_t rfl (not_t cc2) (v := .bool (true)) rfl) <| rl_end ?_
  refine fl_then rfl rfl <| fsr ?_
  refine rl_calld mn (first := []) (cap := []) rfl rfl fC16 (fun h_ H_ => c16 .lone _ _ H_.pe N Z) rfl ?_
  refine rt (exd_assign (v := .bool (true)) rfl) (tm' := zq1 (zq4 _)) rfl <| rl_end ?_
  refine fl_retL Tryd.func7 rfl (vs := [.bool (true)]) (fun h_ H_ => ⟨.bool (true), _, rfl, rfl, rfl⟩) (v := .bool (true)) rfl ?_
  exact fun h_ H_ => ⟨rfl, H_.kept⟩
end Go.Proofs.YtalfgojocdonhaaDoor
namespace Go.Proofs.YtalfgojocdonhaaDoor
open Go.X Go.X.Flow Go.Conc Go.RowKit Go.ChangeShapes Go.WideShapes Go.ChangeAt Go.Joins
set_option maxRecDepth 100000

theorem lifted7 (os : Os) (started : os.Started) (H : Type) (enc : TypeId × Value → H) :
    ReturnsInHanded {} Tryd.checked os 7 .any (fun w args => (Rows.bucketsOneSpec.pre enc Tryd.prog Tryd.f7 Rows.bucketsOneRow.domain false w args ∧ laidMetH Tryd.prog Rows.bucketsOneRow.laid w) ∧ sizedMet enc Tryd.prog Tryd.f7 (OpenSpec.ofChange Rows.bucketsOneSpec) false w args) (Rows.bucketsOneSpec.post enc Tryd.prog Tryd.f7 false true false false) := by
  refine returnsInHanded_of_change_and (C := Tryd.checked) (X := fun w _ => laidMetH Tryd.prog Rows.bucketsOneRow.laid w) (fun _ _ _ hh h => h.of_heap hh) pOwn started (by kernel_rfl) Tryd.func7
    (ChangeSpec.witness_shaped (enc := enc) (C := Tryd.checked) (os := os) (X := fun w _ => laidMetH Tryd.prog Rows.bucketsOneRow.laid w) false (laidW os) #[.agg #[.slice none 0 0, .slice none 0 0, .slice none 0 0], .int .i64 0] 8 (World.laidAll_os _ _ _)
      (World.shaped_of_ZipB (by kernel_rfl) (by kernel_rfl)) (by kernel_rfl) (by kernel_rfl) (by kernel_rfl) (laidW_met os _)) ?_
  intro W base args ds gs before hval0 hW _ _ hL _
  have hval : ∀ (j : Nat) t v, Tryd.f7.params[j]? = some t → args[j]? = some v → Value.okWide Tryd.prog W .any base t v := hval0
  have hW2 := hW
  obtain ⟨p, q, hA0, hV, rfl, _, _⟩ := hW2
  have hA : DataW.TrodAll enc Tryd.prog W 0 (fun _ => true) true Tryd.f7.params.toList args.toList ds p := hA0
  rw [Tryd.params7] at hA hval
  obtain ⟨v0, v1, d0, d1, p0, p1, rfl, rfl, _, h0, h1⟩ := trodAll_two hA
  obtain ⟨rfl, rfl⟩ := trodVars_none hV
  obtain ⟨a1, c1, a2, c2, a3, c3, t, rfl, hl, _, T⟩ := open_town (hval 0 25 v0 rfl rfl) h0
  obtain ⟨k1, rfl, hk1⟩ := open_num (hval 1 3 v1 rfl rfl) h1
  refine (calls_of_enters (e7 W.heap (pW W) (pW_per W) a1 a2 a3 c1 c2 c3 t T hl k1 (none_of_laid hL) (tab_of_laid hL))).mono fun e W2 ⟨v, he, ⟨hv, hk_⟩, cl⟩ => ⟨v, he, ?_⟩
  subst hv
  exact law_post pLaid rfl (fun t ht => by rw [Tryd.params7] at ht; revert t; decide +kernel) rfl Tryd.underlying4 hW rfl (below_of hk_ cl)

theorem bucketsOneRowHolds : Rows.BucketsOneSaid :=
  OpenClaim.holds_of_wide 7 Tryd.f7 rfl rfl rfl rfl rfl rfl rfl ⟨rfl, rfl, rfl, rfl, rfl⟩ rfl rfl rfl rfl rfl (by kernel_rfl) Tryd.func7 (by kernel_rfl)
    (of_decide_eq_true (by kernel_rfl)) (by unfold Func.isWrapper; first | (rw [if_pos (by decide +kernel)]; kernel_rfl) | (rw [if_neg (by decide +kernel)]; exact ⟨rfl, rfl⟩))
    (fun os started H enc _ => lifted7 os started H enc)

theorem bucketsOneHolds : Rows.BucketsOneCardSaid :=
  Claim7.holds_tied_plain_at .later [] [.data, .data, .data] true (true, "5334d201df14a8cbe7ef60c793562a47fe331153d035b74b45b1c636860d1486") false bucketsOneRowHolds (fun _ h => by cases h) (by kernel_rfl) (fun _ h => by cases h) bucketsOne_row_tie rfl ⟨rfl, rfl⟩ (by kernel_rfl) rfl
    (fun f fn hf hfn => by
      obtain rfl : f = 7 := Option.some.inj ((show Tryd.prog.funcNamed "steening/steeninglaw03.BucketsOne" = some 7 by kernel_rfl).symm.trans hf) |>.symm
      obtain rfl : fn = Tryd.f7 := (Option.some.inj (Tryd.func7.symm.trans hfn)).symm
      exact ⟨by kernel_rfl, fun j t ht => by
        rw [Tryd.params7] at ht
        have hm : t ∈ [25, 3] := by simpa using Array.mem_of_getElem? ht
        have hall : ([25, 3].all fun u => !Tryd.prog.wantsStandIn u) = true := by kernel_rfl
        exact (show Tryd.prog.wantsStandIn t = false by simpa using List.all_eq_true.1 hall t hm)⟩)
    (by kernel_rfl)

#print axioms bucketsOneHolds
end Go.Proofs.YtalfgojocdonhaaDoor
