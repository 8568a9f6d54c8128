/-
  BucketsEach, for every input: the law returns true and leaves its arguments as they were. The row, and the tied card.
-/
import Derived.Test.YtalfgojocdonhaaDoorD2
import Derived.Test.YtalfgojocdonhaaDoorD6
import Derived.Test.YtalfgojocdonhaaDoorD3
import Derived.Test.YtalfgojocdonhaaDoorD4
import Derived.Test.YtalfgojocdonhaaDoorD5
import Derived.Test.YtalfgojocdonhaaDoorCards
import Derived.Test.YtalfgojocdonhaaDoorTie
namespace Go.Proofs.YtalfgojocdonhaaDoor
open Go.X Go.X.Flow Go.Conc
set_option maxRecDepth 10000
set_option synthInstance.maxSize 2000

set_option maxHeartbeats 2000000
theorem e14 (h : Heap) (p : PHeap) (hp : Per p h) (a1 a2 a3 : Option Addr) (c1 c2 c3 : Nat) (t : Tn) (T : TownP p a1 t.nH a2 t.nW a3 t.m t) (hl : t.nH ≤ 9223372036854775807 ∧ t.nW ≤ 9223372036854775807 ∧ t.m ≤ 9223372036854775807) (b : Option Addr) (m cb : Nat) (d : List Int) (D : Ints p b m d) (_hm : m ≤ 9223372036854775807) (N : NoneP p) (Z : TabP p) : EntersL Tryd.prog 14 #[.agg #[.slice a1 t.nH c1, .slice a2 t.nW c2, .slice a3 t.m c3], .slice b m cb] h fun v h' => v = .bool true ∧ Keep h h' := by
 refine enters_introL (Φ := fun h_ => St h [] p h_ []) Tryd.func14 rfl (tm := zq1 (zq4 (zq8 (zq32 (zq32 (zq32 (zq32 (zq32 [])))))))) rfl ?_ (St.start h _ hp)
 intro cs
 refine fsr ?_
 refine rl_box mn (v := .agg #[.slice a1 t.nH c1, .slice a2 t.nW c2, .slice a3 t.m c3]) rfl fun b1 => rl_own (L' := [(b1, .cells #[.slice a1 t.nH c1, .slice a2 t.nW c2, .slice a3 t.m c3] 25 (0, 0))]) rfl ?_
 refine ro (exd_assign (v := .bool (false)) rfl) <| ren <| fsr ?_
 refine rl_det mn (fun h_ H_ => exd_loadN_own H_ tA25 tS25 rfl (i := 0) rfl (vs := [.slice a1 t.nH c1, .slice a2 t.nW c2, .slice a3 t.m c3]) rfl rfl) (tm' := zq1 (zq4 (zq16 _))) rfl ?_
 refine rl_calld mn (first := []) (cap := []) rfl rfl fC23 (fun h_ H_ => c23 .lone _ _ H_.pe _ _ _ _ _ _ t (show TownP _ _ _ _ _ _ _ t from ⟨T.h, T.w, T.y⟩) hl) rfl ?_
 refine ro (exd_not rfl) <| rt (exd_move (v := .bool (!(readyB t))) rfl) (tm' := zq8 (zq16 _)) rfl ?_
 rcases bcases (readyB t) with cc2 | cc2
 ·
  obtain ⟨hf_, hc_⟩ := ready_of cc2
  have hn : t.nH ≤ 40 ∧ t.nW ≤ 40 ∧ t.m ≤ 41 := by have z_ := not_far hf_; unfold Big at z_; omega
  have hO : OkT t := okt_of hc_
  obtain ⟨h12, hV⟩ := vd_of hc_
  have oH := hO.nh
  have aD_ := divF hV hO none_sg
  refine rl_det (ms rfl rfl (not_f cc2)) (fun h_ H_ => exd_move (v := .slice b m cb) rfl) rfl ?_
  refine rl_det (ms rfl rfl (not_f cc2)) (fun h_ H_ => exd_len Tryd.underlying22 rfl) rfl ?_
  refine rl_det (ms rfl rfl (not_f cc2)) (fun h_ H_ => exd_gtr rfl rfl) (tm' := zq1 (zq2 (zq8 (zq16 _)))) rfl ?_
  refine ro (exd_pick_f rfl (not_f cc2) (v := .bool (decide (40 < ((m : Nat) : Int)))) rfl) <| ro (exd_move (v := .bool (decide (40 < ((m : Nat) : Int)))) rfl) ?_
  by_cases cc3 : 40 < ((m : Nat) : Int)
  ·
   refine rl_pass (mo rfl rfl (dtt cc3)) (tm' := zq2 (zq4 (zq8 (zq16 _)))) rfl <| rp (mo rfl rfl (dtt cc3)) <| rp (mo rfl rfl (dtt cc3)) <| rl_pass (mo rfl rfl (dtt cc3)) (tm' := zq1 (zq32 _)) rfl <| ro (exd_pick_t rfl (dtt cc3) (v := .bool (true)) rfl) <| rl_end ?_
   refine fl_then rfl rfl <| fsr ?_
   refine rl_calld mn (first := []) (cap := []) rfl rfl fC16 (fun h_ H_ => c16 .lone _ _ H_.pe N Z) rfl ?_
   refine rt (exd_assign (v := .bool (true)) rfl) (tm' := zq1 (zq4 _)) rfl <| rl_end ?_
   refine fl_retL Tryd.func14 rfl (vs := [.bool (true)]) (fun h_ H_ => ⟨.bool (true), _, rfl, rfl, rfl⟩) (v := .bool (true)) rfl ?_
   exact fun h_ H_ => ⟨rfl, H_.kept⟩
  ·
   refine rl_det (ms rfl rfl (dff cc3)) (fun h_ H_ => exd_loadN_own H_ tA25 tS25 rfl (i := 0) rfl (vs := [.slice a1 t.nH c1, .slice a2 t.nW c2, .slice a3 t.m c3]) rfl rfl) rfl ?_
   refine rl_det (ms rfl rfl (dff cc3)) (fun h_ H_ => exd_move (v := .slice b m cb) rfl) rfl ?_
   refine rl_calld (ms rfl rfl (dff cc3)) (first := []) (cap := []) rfl rfl fC31 (fun h_ H_ => c31 .lone _ _ H_.pe _ _ _ _ _ _ _ _ _ t (show TownP _ _ _ _ _ _ _ t from ⟨T.h, T.w, T.y⟩) (by omega) _ _ _ _ D hV.wok) (tm' := zq32 _) rfl ?_
   refine rl_det (ms rfl rfl (dff cc3)) (fun h_ H_ => exd_not rfl) rfl ?_
   refine ro (exd_pick_f rfl (dff cc3) (v := .bool (!(decide (DivI t d)))) rfl) <| rl_end ?_
   by_cases cc4 : DivI t d
   ·
    have hD_ := cc4
    have eF_ := each_facts hV hO hD_
    have mE_ : m = t.m := by have z_ := hD_.len; have z2_ := D.len; omega
    refine fl_else rfl (not_f (dtt cc4)) <| fl_skip <| fsr ?_
    refine rl_det mn (fun h_ H_ => exd_loadN_own H_ tA25 tS25 rfl (i := 0) rfl (vs := [.slice a1 t.nH c1, .slice a2 t.nW c2, .slice a3 t.m c3]) rfl rfl) (tm' := zq1 (zq4 (zq32 _))) rfl ?_
    refine rl_own (L' := ([(b1, .cells #[.slice a1 t.nH c1, .slice a2 t.nW c2, .slice a3 t.m c3] 25 (0, 0))] : Pcs) ++ []) rfl ?_
    refine rl_call mn (first := []) (cap := []) rfl rfl fC24 (R := fun v_ h_ => ∃ w5 : Value, ∃ X6 : Pcs, v_ = .tuple #[w5, .bool (true)] ∧ (OwnS 3 1 w5 (ics (LK t)) X6) ∧ St h [] p h_ (([(b1, .cells #[.slice a1 t.nH c1, .slice a2 t.nW c2, .slice a3 t.m c3] 25 (0, 0))] : Pcs) ++ (X6 ++ []))) (fun h_ H_ => (c24 .lone _ _ H_.pe _ _ _ _ _ _ t (show TownP _ _ _ _ _ _ _ t from ⟨T.h, T.w, T.y⟩) (by omega) N hc_).mono fun v_ h2_ ⟨w5, X6, e_, o7, N_⟩ => ⟨w5, X6, e_, o7, H_.callNA N_⟩) fun v_ => ?_
    refine rl_ex fun w5 => rl_ex fun X6 => rl_and fun ev_ => rl_and fun o7 => ?_
    have ev_ := ev_.symm; subst ev_
    refine rl_own (L' := ([(b1, .cells #[.slice a1 t.nH c1, .slice a2 t.nW c2, .slice a3 t.m c3] 25 (0, 0))] : Pcs) ++ (X6 ++ [])) rfl ?_
    refine ro (exd_move (v := .tuple #[w5, .bool (true)]) rfl) <| rt (exd_extract rfl (v := w5) rfl) (tm' := zq1 (zq2 (zq4 (zq32 _)))) rfl <| ro (exd_extract rfl (v := .bool (true)) rfl) <| ro (exd_assign (v := w5) rfl) <| rt (exd_assign (v := .bool (true)) rfl) (tm' := zq1 (zq2 (zq4 _))) rfl <| ren ?_
    refine rl_start <| rd (fun h_ H_ => exd_loadN_own H_ tA25 tS25 rfl (i := 0) rfl (vs := [.slice a1 t.nH c1, .slice a2 t.nW c2, .slice a3 t.m c3]) rfl rfl) <| ro (exd_move (v := .slice b m cb) rfl) ?_
    refine rl_call mn (first := []) (cap := []) rfl rfl fC45 (R := fun v_ h_ => ∃ w8 : Value, ∃ X9 : Pcs, v_ = w8 ∧ (OwnS 3 1 w8 (ics (lacks t d)) X9) ∧ St h [] p h_ (([(b1, .cells #[.slice a1 t.nH c1, .slice a2 t.nW c2, .slice a3 t.m c3] 25 (0, 0))] : Pcs) ++ (X9 ++ (X6 ++ [])))) (fun h_ H_ => (c45 .lone _ _ H_.pe _ _ _ _ _ _ _ _ _ t (show TownP _ _ _ _ _ _ _ t from ⟨T.h, T.w, T.y⟩) (by omega) _ _ _ _ D (by have z_ := hD_.len; have z2_ := D.len; omega) (fun i hi => by have z_ := hD_.pos i (by have z2_ := D.len; omega); unfold dv; omega) hV.wok (fun i hi => by have z_ := hV.h i hi; omega)).mono fun v_ h2_ ⟨w8, X9, e_, o10, N_⟩ => ⟨w8, X9, e_, o10, H_.callNA N_⟩) fun v_ => ?_
    refine rl_ex fun w8 => rl_ex fun X9 => rl_and fun ev_ => rl_and fun o10 => ?_
    have ev_ := ev_.symm; subst ev_
    refine rl_own (L' := ([(b1, .cells #[.slice a1 t.nH c1, .slice a2 t.nW c2, .slice a3 t.m c3] 25 (0, 0))] : Pcs) ++ (X9 ++ (X6 ++ []))) rfl ?_
    refine rl_norm (tm' := zq1 (zq2 (zq8 (zq32 _)))) rfl ?_
    refine ro (exd_assign (v := w8) rfl) <| ren <| rl_start <| rd (fun h_ H_ => exd_loadN_own H_ tA25 tS25 rfl (i := 0) rfl (vs := [.slice a1 t.nH c1, .slice a2 t.nW c2, .slice a3 t.m c3]) rfl rfl) ?_
    refine rl_calld mn (first := []) (cap := []) rfl rfl fC36 (fun h_ H_ => worst_ok .lone H_.pe (show TownP _ _ _ _ _ _ _ t from ⟨T.h, T.w, T.y⟩) (by omega) N hc_) (tm' := zq2 (zq4 (zq8 (zq32 _)))) rfl ?_
    refine ro (exd_move (v := .tuple #[.int .i64 (worstV t), .int .i64 0]) rfl) <| ro (exd_extract rfl (v := .int .i64 (worstV t)) rfl) <| rt (exd_extract rfl (v := .int .i64 0) rfl) (tm' := zq16 (zq32 _)) rfl <| ro (exd_assign (v := .int .i64 (worstV t)) rfl) <| ro (exd_assign (v := .int .i64 0) rfl) <| ren ?_
    refine rl_start ?_
    refine rl_det mn (fun h_ H_ => exd_loadN_own H_ tA25 tS25 rfl (i := 0) rfl (vs := [.slice a1 t.nH c1, .slice a2 t.nW c2, .slice a3 t.m c3]) rfl rfl) (tm' := zq2 (zq16 (zq32 _))) rfl ?_
    refine rl_calld mn (first := []) (cap := []) rfl rfl fC28 (fun h_ H_ => most_ok .lone H_.pe (show TownP _ _ _ _ _ _ _ t from ⟨T.h, T.w, T.y⟩) (by omega) N hc_) rfl ?_
    refine ro (exd_move (v := .tuple #[.int .i64 (mostV t), .int .i64 0]) rfl) <| rt (exd_extract rfl (v := .int .i64 (mostV t)) rfl) (tm' := zq4 (zq16 (zq32 _))) rfl <| ro (exd_extract rfl (v := .int .i64 0) rfl) <| ro (exd_assign (v := .int .i64 (mostV t)) rfl) <| rt (exd_assign (v := .int .i64 0) rfl) (tm' := zq4 (zq8 _)) rfl <| ren ?_
    refine rl_start <| rd (fun h_ H_ => exd_loadN_own H_ tA25 tS25 rfl (i := 0) rfl (vs := [.slice a1 t.nH c1, .slice a2 t.nW c2, .slice a3 t.m c3]) rfl rfl) ?_
    refine rl_call mn (first := []) (cap := []) rfl rfl fC30 (R := fun v_ h_ => ∃ w11 : Value, ∃ X12 : Pcs, v_ = .tuple #[w11, .int .i64 0] ∧ (OwnS 3 1 w11 (ics (fairP t none0)) X12) ∧ St h [] p h_ (([(b1, .cells #[.slice a1 t.nH c1, .slice a2 t.nW c2, .slice a3 t.m c3] 25 (0, 0))] : Pcs) ++ (X12 ++ (X9 ++ (X6 ++ []))))) (fun h_ H_ => (fair_ok .lone H_.pe (show TownP _ _ _ _ _ _ _ t from ⟨T.h, T.w, T.y⟩) (by omega) N hc_).mono fun v_ h2_ ⟨w11, X12, e_, o13, N_⟩ => ⟨w11, X12, e_, o13, H_.callNA N_⟩) fun v_ => ?_
    refine rl_ex fun w11 => rl_ex fun X12 => rl_and fun ev_ => rl_and fun o13 => ?_
    have ev_ := ev_.symm; subst ev_
    refine rl_own (L' := ([(b1, .cells #[.slice a1 t.nH c1, .slice a2 t.nW c2, .slice a3 t.m c3] 25 (0, 0))] : Pcs) ++ (X12 ++ (X9 ++ (X6 ++ [])))) rfl ?_
    refine rt (exd_move (v := .tuple #[w11, .int .i64 0]) rfl) (tm' := zq2 (zq4 (zq16 (zq32 _)))) rfl <| ro (exd_extract rfl (v := w11) rfl) <| ro (exd_extract rfl (v := .int .i64 0) rfl) <| rt (exd_assign (v := w11) rfl) (tm' := zq1 (zq4 (zq8 _))) rfl <| ro (exd_assign (v := .int .i64 0) rfl) <| ren ?_
    refine fl_seq ?_
    refine rs_perm (List.Perm.append_left _ (List.Perm.append_left _ (List.perm_append_comm_assoc _ _ _))) ?_
    refine rs_perm (List.Perm.append_left _ (List.perm_append_comm_assoc _ _ _)) ?_
    refine rs_own (L' := ([(b1, .cells #[.slice a1 t.nH c1, .slice a2 t.nW c2, .slice a3 t.m c3] 25 (0, 0))] : Pcs) ++ (X6 ++ (X12 ++ (X9 ++ [])))) rfl ?_
    refine rs_lastN (A := ([(b1, .cells #[.slice a1 t.nH c1, .slice a2 t.nW c2, .slice a3 t.m c3] 25 (0, 0))] : Pcs)) o7 ((ics_length _).trans (LK_len _)) fun p14 a15 cp16 le17 ev_ D18 => ?_
    subst ev_
    refine rs_perm (List.Perm.append_left _ (List.perm_append_comm_assoc _ _ _)) ?_
    refine rs_own (L' := ([(b1, .cells #[.slice a1 t.nH c1, .slice a2 t.nW c2, .slice a3 t.m c3] 25 (0, 0))] : Pcs) ++ (X9 ++ (X12 ++ []))) rfl ?_
    refine rs_lastN (A := ([(b1, .cells #[.slice a1 t.nH c1, .slice a2 t.nW c2, .slice a3 t.m c3] 25 (0, 0))] : Pcs)) o10 ((ics_length _).trans (lacks_len _ _)) fun p19 a20 cp21 le22 ev_ D23 => ?_
    subst ev_
    refine rs_lastN (A := ([(b1, .cells #[.slice a1 t.nH c1, .slice a2 t.nW c2, .slice a3 t.m c3] 25 (0, 0))] : Pcs)) o13 ((ics_length _).trans (fairP_len t _)) fun p24 a25 cp26 le27 ev_ D28 => ?_
    subst ev_
    refine rs_own (L' := [(b1, .cells #[.slice a1 t.nH c1, .slice a2 t.nW c2, .slice a3 t.m c3] 25 (0, 0))]) rfl ?_
    refine rl_start <| ro (exd_move (v := .bool (true)) rfl) <| rt (exd_not rfl) (tm' := zq4 (zq8 (zq16 (zq32 _)))) rfl <| ro (exd_move (v := .bool (!true)) rfl) ?_
    refine rl_det (ms rfl rfl (not_f rfl)) (fun h_ H_ => exd_move (v := .int .i64 0) rfl) rfl ?_
    refine rl_det (ms rfl rfl (not_f rfl)) (fun h_ H_ => exd_neq rfl rfl) (tm' := zq1 (zq2 (zq4 (zq8 (zq16 (zq32 _)))))) rfl ?_
    refine ro (exd_pick_f rfl (not_f rfl) (v := .bool (decide ((0 : Int) ≠ 0))) rfl) <| ro (exd_move (v := .bool (decide ((0 : Int) ≠ 0))) rfl) ?_
    refine rl_det (ms rfl rfl (decide_eq_false (by decide))) (fun h_ H_ => exd_move (v := .int .i64 0) rfl) (tm' := zq2 (zq32 (zq32 _))) rfl ?_
    refine rl_det (ms rfl rfl (decide_eq_false (by decide))) (fun h_ H_ => exd_neq rfl rfl) rfl ?_
    refine ro (exd_pick_f rfl (decide_eq_false (by decide)) (v := .bool (decide ((0 : Int) ≠ 0))) rfl) ?_
    refine rt (exd_move (v := .bool (decide ((0 : Int) ≠ 0))) rfl) (tm' := zq1 (zq4 (zq32 (zq32 _)))) rfl ?_
    refine rl_det (ms rfl rfl (decide_eq_false (by decide))) (fun h_ H_ => exd_move (v := .int .i64 0) rfl) rfl ?_
    refine rl_det (ms rfl rfl (decide_eq_false (by decide))) (fun h_ H_ => exd_neq rfl rfl) rfl ?_
    refine rt (exd_pick_f rfl (decide_eq_false (by decide)) (v := .bool (decide ((0 : Int) ≠ 0))) rfl) (tm' := zq8 (zq32 (zq32 _))) rfl ?_
    refine ro (exd_move (v := .bool (decide ((0 : Int) ≠ 0))) rfl) ?_
    refine rl_det (ms rfl rfl (decide_eq_false (by decide))) (fun h_ H_ => exd_move (v := .slice a20 t.nH cp21) rfl) rfl ?_
    refine rl_det (ms rfl rfl (decide_eq_false (by decide))) (fun h_ H_ => exd_move (v := .slice a15 t.nH cp16) rfl) (tm' := zq1 (zq2 (zq8 (zq32 (zq32 _))))) rfl ?_
    refine rl_calld (ms rfl rfl (decide_eq_false (by decide))) (first := []) (cap := []) rfl rfl fC59 (fun h_ H_ => ear_det .lone (H_.pe) (((show Ints _ _ _ (lacks t d) from D23).mono le27)) ((((show Ints _ _ _ (LK t) from D18).mono le22).mono le27)) (by omega)) rfl ?_
    refine ro (exd_pick_f rfl (decide_eq_false (by decide)) (v := .bool (decide (earlier (lacks t d) (LK t) = true))) rfl) ?_
    refine rt (exd_move (v := .bool (decide (earlier (lacks t d) (LK t) = true))) rfl) (tm' := zq2 (zq4 (zq8 (zq32 (zq32 _))))) rfl ?_
    refine rl_det (ms rfl rfl (decide_eq_false (by rw [eF_.a]; decide))) (fun h_ H_ => exd_move (v := .slice a15 t.nH cp16) rfl) rfl ?_
    refine rl_det (ms rfl rfl (decide_eq_false (by rw [eF_.a]; decide))) (fun h_ H_ => exd_len Tryd.underlying22 rfl) rfl ?_
    refine rl_det (ms rfl rfl (decide_eq_false (by rw [eF_.a]; decide))) (fun h_ H_ => exd_gtr rfl rfl) (tm' := zq1 (zq16 (zq32 (zq32 _)))) rfl ?_
    refine rl_det (ms rfl rfl (decide_eq_false (by rw [eF_.a]; decide))) (fun h_ H_ => exd_move (v := .bool (decide (0 < ((t.nH : Nat) : Int)))) rfl) rfl ?_
    by_cases cc29 : 0 < ((t.nH : Nat) : Int)
    ·
     refine rl_det (ms rfl rfl (dtt cc29)) (fun h_ H_ => exd_move (v := .int .i64 (worstV t)) rfl) rfl ?_
     refine rl_det (ms rfl rfl (dtt cc29)) (fun h_ H_ => exd_move (v := .slice a15 t.nH cp16) rfl) (tm' := zq4 (zq16 (zq32 (zq32 _)))) rfl ?_
     refine rl_det (ms rfl rfl (dtt cc29)) (fun h_ H_ => exd_indexAddrN (i := 0) Tryd.underlying22 tS3 (sl_ne a15 t.nH cp16 ((((show Ints _ _ _ (LK t) from D18).mono le22).mono le27).ne (by omega))) rfl (by omega)) rfl ?_
     refine rl_det (ms rfl rfl (dtt cc29)) (fun h_ H_ => exd_load_per H_ tA3 rfl (v := .int .i64 ((LK t).getD 0 0)) ((((show Ints _ _ _ (LK t) from D18).mono le22).mono le27).get (by omega))) rfl ?_
     refine rl_det (ms rfl rfl (dtt cc29)) (fun h_ H_ => exd_neq rfl rfl) (tm' := zq1 (zq2 (zq4 (zq16 (zq32 (zq32 _)))))) rfl ?_
     refine rl_det (ms rfl rfl (dtt cc29)) (fun h_ H_ => exd_move (v := .bool (decide (worstV t ≠ (LK t).getD 0 0))) rfl) rfl ?_
     refine rl_det (ms rfl rfl (decide_eq_false (fun z_ => z_ rfl))) (fun h_ H_ => exd_move (v := .slice a20 t.nH cp21) rfl) rfl ?_
     refine rl_det (ms rfl rfl (decide_eq_false (fun z_ => z_ rfl))) (fun h_ H_ => exd_indexAddrN (i := 0) Tryd.underlying22 tS3 (sl_ne a20 t.nH cp21 (((show Ints _ _ _ (lacks t d) from D23).mono le27).ne (by omega))) rfl (by omega)) (tm' := zq2 (zq8 (zq16 (zq32 (zq32 _))))) rfl ?_
     refine rl_det (ms rfl rfl (decide_eq_false (fun z_ => z_ rfl))) (fun h_ H_ => exd_load_per H_ tA3 rfl (v := .int .i64 ((lacks t d).getD 0 0)) (((show Ints _ _ _ (lacks t d) from D23).mono le27).get (by omega))) rfl ?_
     refine rl_det (ms rfl rfl (decide_eq_false (fun z_ => z_ rfl))) (fun h_ H_ => exd_move (v := .int .i64 (worstV t)) rfl) rfl ?_
     refine rl_det (ms rfl rfl (decide_eq_false (fun z_ => z_ rfl))) (fun h_ H_ => exd_lss rfl rfl) (tm' := zq1 (zq4 (zq8 (zq16 (zq32 (zq32 _)))))) rfl ?_
     refine rl_det (ms rfl rfl (dtt cc29)) (fun h_ H_ => exd_pick_f rfl (decide_eq_false (fun z_ => z_ rfl)) (v := .bool (decide ((lacks t d).getD 0 0 < worstV t))) rfl) rfl ?_
     refine rl_det (ms rfl rfl (decide_eq_false (by rw [eF_.a]; decide))) (fun h_ H_ => exd_pick_t rfl (dtt cc29) (v := .bool (decide ((lacks t d).getD 0 0 < worstV t))) rfl) rfl ?_
     refine rt (exd_pick_f rfl (decide_eq_false (by rw [eF_.a]; decide)) (v := .bool (decide ((lacks t d).getD 0 0 < worstV t))) rfl) (tm' := zq32 (zq32 (zq32 _))) rfl ?_
     refine ro (exd_move (v := .bool (decide ((lacks t d).getD 0 0 < worstV t))) rfl) ?_
     refine rl_det (ms rfl rfl (decide_eq_false (by have z_ := eF_.b (by omega); omega))) (fun h_ H_ => exd_move (v := .slice a15 t.nH cp16) rfl) rfl ?_
     refine rl_det (ms rfl rfl (decide_eq_false (by have z_ := eF_.b (by omega); omega))) (fun h_ H_ => exd_len Tryd.underlying22 rfl) (tm' := zq1 (zq2 (zq32 (zq32 (zq32 _))))) rfl ?_
     refine rl_det (ms rfl rfl (decide_eq_false (by have z_ := eF_.b (by omega); omega))) (fun h_ H_ => exd_eql rfl rfl) rfl ?_
     refine rl_det (ms rfl rfl (decide_eq_false (by have z_ := eF_.b (by omega); omega))) (fun h_ H_ => exd_move (v := .bool (decide (((t.nH : Nat) : Int) = 0))) rfl) rfl ?_
     refine rl_pass (mo rfl rfl (decide_eq_false (by omega))) (tm' := zq2 (zq4 (zq32 (zq32 (zq32 _))))) rfl ?_
     refine rp (mo rfl rfl (decide_eq_false (by omega))) ?_
     refine rl_det (ms rfl rfl (decide_eq_false (by have z_ := eF_.b (by omega); omega))) (fun h_ H_ => exd_pick_f rfl (decide_eq_false (by omega)) (v := .bool (false)) rfl) rfl ?_
     refine rt (exd_pick_f rfl (decide_eq_false (by have z_ := eF_.b (by omega); omega)) (v := .bool (false)) rfl) (tm' := zq1 (zq8 (zq32 (zq32 (zq32 _))))) rfl ?_
     refine ro (exd_move (v := .bool (false)) rfl) ?_
     refine rl_det (ms rfl rfl rfl) (fun h_ H_ => exd_move (v := .slice b m cb) rfl) rfl ?_
     refine rl_calld (ms rfl rfl rfl) (first := []) (cap := []) rfl rfl fC32 (fun h_ H_ => c32 .lone _ _ H_.pe _ _ _ _ (((D.mono le17).mono le22).mono le27) (by omega) (fun i hi => by have z_ := hD_.pos i (by have z2_ := D.len; omega); omega) (by omega)) (tm' := zq4 (zq8 (zq32 (zq32 (zq32 _))))) rfl ?_
     refine rl_det (ms rfl rfl rfl) (fun h_ H_ => exd_move (v := .int .i64 (mostV t)) rfl) rfl ?_
     refine rl_det (ms rfl rfl rfl) (fun h_ H_ => exd_gtr rfl rfl) rfl ?_
     refine rt (exd_pick_f rfl rfl (v := .bool (decide (mostV t < sm m (dv d)))) rfl) (tm' := zq1 (zq2 (zq4 (zq8 (zq32 (zq32 (zq32 _))))))) rfl <| ro (exd_move (v := .bool (decide (mostV t < sm m (dv d)))) rfl) ?_
     refine rl_det (ms rfl rfl (decide_eq_false (by have z_ := eF_.e; have z2_ := D.len; rw [z2_] at z_; omega))) (fun h_ H_ => exd_move (v := .slice a25 t.m cp26) rfl) rfl ?_
     refine rl_det (ms rfl rfl (decide_eq_false (by have z_ := eF_.e; have z2_ := D.len; rw [z2_] at z_; omega))) (fun h_ H_ => exd_len Tryd.underlying22 rfl) (tm' := zq2 (zq16 (zq32 (zq32 (zq32 _))))) rfl ?_
     refine rl_det (ms rfl rfl (decide_eq_false (by have z_ := eF_.e; have z2_ := D.len; rw [z2_] at z_; omega))) (fun h_ H_ => exd_gtr rfl rfl) rfl ?_
     refine ro (exd_pick_f rfl (decide_eq_false (by have z_ := eF_.e; have z2_ := D.len; rw [z2_] at z_; omega)) (v := .bool (decide (40 < ((t.m : Nat) : Int)))) rfl) ?_
     refine rt (exd_move (v := .bool (decide (40 < ((t.m : Nat) : Int)))) rfl) (tm' := zq1 (zq4 (zq8 (zq32 (zq32 (zq32 (zq32 (zq32 [])))))))) rfl ?_
     refine rl_det (ms rfl rfl (decide_eq_false (by omega))) (fun h_ H_ => exd_loadN_own H_ tA25 tS25 rfl (i := 0) rfl (vs := [.slice a1 t.nH c1, .slice a2 t.nW c2, .slice a3 t.m c3]) rfl rfl) rfl ?_
     refine rl_det (ms rfl rfl (decide_eq_false (by omega))) (fun h_ H_ => exd_move (v := .slice a25 t.m cp26) rfl) rfl ?_
     refine rl_calld (ms rfl rfl (decide_eq_false (by omega))) (first := []) (cap := []) rfl rfl fC31 (fun h_ H_ => c31 .lone _ _ H_.pe _ _ _ _ _ _ _ _ _ t (show TownP _ _ _ _ _ _ _ t from ⟨(((T.h.mono le17).mono le22).mono le27), (((T.w.mono le17).mono le22).mono le27), (((T.y.mono le17).mono le22).mono le27)⟩) (by omega) _ _ _ _ (show Ints _ _ _ (fairP t none0) from D28) hV.wok) (tm' := zq1 (zq4 (zq8 (zq32 (zq32 (zq32 (zq32 (zq32 [])))))))) rfl ?_
     refine rl_det (ms rfl rfl (decide_eq_false (by omega))) (fun h_ H_ => exd_not rfl) rfl ?_
     refine ro (exd_pick_f rfl (decide_eq_false (by omega)) (v := .bool (!(decide (DivI t (fairP t none0))))) rfl) ?_
     refine rt (exd_move (v := .bool (!(decide (DivI t (fairP t none0))))) rfl) (tm' := zq1 (zq4 (zq8 (zq32 (zq32 (zq32 (zq32 (zq32 [])))))))) rfl ?_
     refine rl_det (ms rfl rfl (not_f (decide_eq_true aD_))) (fun h_ H_ => exd_loadN_own H_ tA25 tS25 rfl (i := 0) rfl (vs := [.slice a1 t.nH c1, .slice a2 t.nW c2, .slice a3 t.m c3]) rfl rfl) rfl ?_
     refine rl_det (ms rfl rfl (not_f (decide_eq_true aD_))) (fun h_ H_ => exd_move (v := .slice a25 t.m cp26) rfl) rfl ?_
     refine rl_own (L' := ([(b1, .cells #[.slice a1 t.nH c1, .slice a2 t.nW c2, .slice a3 t.m c3] 25 (0, 0))] : Pcs) ++ []) rfl ?_
     refine rl_call (ms rfl rfl (not_f (decide_eq_true aD_))) (first := []) (cap := []) rfl rfl fC45 (R := fun v_ h_ => ∃ w30 : Value, ∃ X31 : Pcs, v_ = w30 ∧ (OwnS 3 1 w30 (ics (lacks t (fairP t none0))) X31) ∧ St h [] p24 h_ (([(b1, .cells #[.slice a1 t.nH c1, .slice a2 t.nW c2, .slice a3 t.m c3] 25 (0, 0))] : Pcs) ++ (X31 ++ []))) (fun h_ H_ => (c45 .lone _ _ H_.pe _ _ _ _ _ _ _ _ _ t (show TownP _ _ _ _ _ _ _ t from ⟨(((T.h.mono le17).mono le22).mono le27), (((T.w.mono le17).mono le22).mono le27), (((T.y.mono le17).mono le22).mono le27)⟩) (by omega) _ _ _ _ (show Ints _ _ _ (fairP t none0) from D28) rfl (fun i hi => by have z_ := fairP_bd hO none_sg i hi; unfold dv; omega) hV.wok (fun i hi => by have z_ := hV.h i hi; omega)).mono fun v_ h2_ ⟨w30, X31, e_, o32, N_⟩ => ⟨w30, X31, e_, o32, H_.callNA N_⟩) fun v_ => ?_
     refine rl_ex fun w30 => rl_ex fun X31 => rl_and fun ev_ => rl_and fun o32 => ?_
     have ev_ := ev_.symm; subst ev_
     refine rl_own (L' := ([(b1, .cells #[.slice a1 t.nH c1, .slice a2 t.nW c2, .slice a3 t.m c3] 25 (0, 0))] : Pcs) ++ (X31 ++ [])) rfl ?_
     refine rl_norm (tm' := zq1 (zq4 (zq8 (zq32 (zq32 (zq32 (zq32 (zq32 [])))))))) rfl ?_
     refine rl_det (ms rfl rfl (not_f (decide_eq_true aD_))) (fun h_ H_ => exd_move (v := .slice a15 t.nH cp16) rfl) rfl ?_
     refine rl_lastN (A := ([(b1, .cells #[.slice a1 t.nH c1, .slice a2 t.nW c2, .slice a3 t.m c3] 25 (0, 0))] : Pcs)) o32 ((ics_length _).trans (lacks_len _ _)) fun p33 a34 cp35 le36 ev_ D37 => ?_
     subst ev_
     refine rl_own (L' := [(b1, .cells #[.slice a1 t.nH c1, .slice a2 t.nW c2, .slice a3 t.m c3] 25 (0, 0))]) rfl ?_
     refine rl_calld (ms rfl rfl (not_f (decide_eq_true aD_))) (first := []) (cap := []) rfl rfl fC27 (fun h_ H_ => c27 .lone _ _ H_.pe _ _ _ _ _ _ _ _ (show Ints _ _ _ (lacks t (fairP t none0)) from D37) ((((show Ints _ _ _ (LK t) from D18).mono le22).mono le27).mono le36) (by omega)) rfl ?_
     refine rl_det (ms rfl rfl (not_f (decide_eq_true aD_))) (fun h_ H_ => exd_not rfl) (tm' := zq1 (zq4 (zq8 (zq32 (zq32 (zq32 (zq32 (zq32 [])))))))) rfl ?_
     refine ro (exd_pick_f rfl (not_f (decide_eq_true aD_)) (v := .bool (!(decide ((lacks t (fairP t none0)) = (LK t))))) rfl) <| rl_end <| fl_else rfl (not_f (decide_eq_true rfl)) <| fl_skip <| fl_seq ?_
     obtain ⟨Gw40, GX41, hG4_⟩ := sk2 (fun (v_ : Value) (x_ : Pcs) (w40 : Value) (X41 : Pcs) => v_ = .tuple #[w40, .bool (true), .int .i64 0] ∧ (OwnS 3 1 w40 (ics (lacks t d)) X41) ∧ x_ = (X41 ++ []))
     refine rs_as (fl_mixed2 (C := []) (A := ([(b1, .cells #[.slice a1 t.nH c1, .slice a2 t.nW c2, .slice a3 t.m c3] 25 (0, 0))] : Pcs)) 11 [[], [], [], [], [], [4], [], [], [], [], [], []] [] [4] [0, 2, 5, 6, 7, 8, 9, 10] (fun _ => []) (fun i_ => match i_ with | 3 => [1] | 4 => [3] | _ => []) (fun i_ => match i_ with | 0 => [] | 1 => [] | 2 => [] | 3 => [1, 2] | 4 => [0, 3] | 5 => [4] | 6 => [4, 5] | 7 => [4, 5] | 8 => [4, 5] | 9 => [0, 1, 2, 3, 4, 5, 6] | 10 => [0, 1, 2, 3, 4, 5, 6, 7, 9] | _ => []) (fun i_ val_ pc_ v_ x_ => match i_ with | 0 => v_ = .agg #[.slice a1 t.nH c1, .slice a2 t.nW c2, .slice a3 t.m c3] ∧ x_ = [] | 1 => OwnS 3 1 v_ [] x_ | 2 => v_ = .slice b m cb ∧ x_ = [] | 3 => OwnS 3 1 v_ ([] ++ (d.map fun x => [Value.int .i64 x])) x_ | 4 => ∃ w40 : Value, ∃ X41 : Pcs, v_ = .tuple #[w40, .bool (true), .int .i64 0] ∧ (OwnS 3 1 w40 (ics (lacks t d)) X41) ∧ x_ = (X41 ++ []) | 5 => v_ = .tuple #[(Gw40 (val_ 4) (pc_ 4)), .bool (true), .int .i64 0] ∧ x_ = [] | 6 => v_ = (Gw40 (val_ 4) (pc_ 4)) ∧ x_ = [] | 7 => v_ = .bool (true) ∧ x_ = [] | 8 => v_ = .int .i64 0 ∧ x_ = [] | 9 => v_ = (Gw40 (val_ 4) (pc_ 4)) ∧ x_ = [] | 10 => v_ = .bool (true) ∧ x_ = [] | _ => True) (fun val38 => (.agg #[.slice a1 t.nH c1, .slice a2 t.nW c2, .slice a3 t.m c3]::.slice b m cb::.pointer (some ⟨b1, 0, none⟩)::undef::.bool (false)::.slice a15 t.nH cp16::.bool (true)::.slice a20 t.nH cp21::.int .i64 (worstV t)::.int .i64 0::.int .i64 (mostV t)::.int .i64 0::.slice a25 t.m cp26::.int .i64 0::(val38 9)::(val38 10)::zu4 (.agg #[.slice a1 t.nH c1, .slice a2 t.nW c2, .slice a3 t.m c3]::.bool (readyB t)::.bool (!(readyB t))::.bool (!(readyB t))::.slice b m cb::.int .i64 (((m : Nat) : Int))::.bool (decide (40 < ((m : Nat) : Int)))::.bool (decide (40 < ((m : Nat) : Int)))::.bool (decide (40 < ((m : Nat) : Int)))::.agg #[.slice a1 t.nH c1, .slice a2 t.nW c2, .slice a3 t.m c3]::.slice b m cb::.bool (decide (DivI t d))::.bool (!(decide (DivI t d)))::.bool (!(decide (DivI t d)))::undef::.tuple #[.slice a15 t.nH cp16, .bool (true)]::.agg #[.slice a1 t.nH c1, .slice a2 t.nW c2, .slice a3 t.m c3]::.tuple #[.slice a15 t.nH cp16, .bool (true)]::.slice a15 t.nH cp16::.bool (true)::.agg #[.slice a1 t.nH c1, .slice a2 t.nW c2, .slice a3 t.m c3]::.slice b m cb::.slice a20 t.nH cp21::.tuple #[.int .i64 (worstV t), .int .i64 0]::.agg #[.slice a1 t.nH c1, .slice a2 t.nW c2, .slice a3 t.m c3]::.tuple #[.int .i64 (worstV t), .int .i64 0]::.int .i64 (worstV t)::.int .i64 0::.tuple #[.int .i64 (mostV t), .int .i64 0]::.agg #[.slice a1 t.nH c1, .slice a2 t.nW c2, .slice a3 t.m c3]::.tuple #[.int .i64 (mostV t), .int .i64 0]::.int .i64 (mostV t)::.int .i64 0::.tuple #[.slice a25 t.m cp26, .int .i64 0]::.agg #[.slice a1 t.nH c1, .slice a2 t.nW c2, .slice a3 t.m c3]::.tuple #[.slice a25 t.m cp26, .int .i64 0]::.slice a25 t.m cp26::.int .i64 0::.bool (true)::.bool (!true)::.bool (!true)::.int .i64 0::.bool (decide ((0 : Int) ≠ 0))::.bool (decide ((0 : Int) ≠ 0))::.bool (decide ((0 : Int) ≠ 0))::.int .i64 0::.bool (decide ((0 : Int) ≠ 0))::.bool (decide ((0 : Int) ≠ 0))::.bool (decide ((0 : Int) ≠ 0))::.int .i64 0::.bool (decide ((0 : Int) ≠ 0))::.bool (decide ((0 : Int) ≠ 0))::.bool (decide ((0 : Int) ≠ 0))::.slice a20 t.nH cp21::.slice a15 t.nH cp16::.bool (decide (earlier (lacks t d) (LK t) = true))::.bool (decide (earlier (lacks t d) (LK t) = true))::.bool (decide (earlier (lacks t d) (LK t) = true))::.slice a15 t.nH cp16::.int .i64 (((t.nH : Nat) : Int))::.bool (decide (0 < ((t.nH : Nat) : Int)))::.bool (decide (0 < ((t.nH : Nat) : Int)))::.int .i64 (worstV t)::.slice a15 t.nH cp16::.pointer (some ((adr a15).add (0 * 1)))::.int .i64 ((LK t).getD 0 0)::.bool (decide (worstV t ≠ (LK t).getD 0 0))::.bool (decide (worstV t ≠ (LK t).getD 0 0))::.slice a20 t.nH cp21::.pointer (some ((adr a20).add (0 * 1)))::.int .i64 ((lacks t d).getD 0 0)::.int .i64 (worstV t)::.bool (decide ((lacks t d).getD 0 0 < worstV t))::.bool (decide ((lacks t d).getD 0 0 < worstV t))::.bool (decide ((lacks t d).getD 0 0 < worstV t))::.bool (decide ((lacks t d).getD 0 0 < worstV t))::.bool (decide ((lacks t d).getD 0 0 < worstV t))::.slice a15 t.nH cp16::.int .i64 (((t.nH : Nat) : Int))::.bool (decide (((t.nH : Nat) : Int) = 0))::.bool (decide (((t.nH : Nat) : Int) = 0))::undef::undef::.bool (false)::.bool (false)::.bool (false)::.slice b m cb::.int .i64 (sm m (dv d))::.int .i64 (mostV t)::.bool (decide (mostV t < sm m (dv d)))::.bool (decide (mostV t < sm m (dv d)))::.bool (decide (mostV t < sm m (dv d)))::.slice a25 t.m cp26::.int .i64 (((t.m : Nat) : Int))::.bool (decide (40 < ((t.m : Nat) : Int)))::.bool (decide (40 < ((t.m : Nat) : Int)))::.bool (decide (40 < ((t.m : Nat) : Int)))::.agg #[.slice a1 t.nH c1, .slice a2 t.nW c2, .slice a3 t.m c3]::.slice a25 t.m cp26::.bool (decide (DivI t (fairP t none0)))::.bool (!(decide (DivI t (fairP t none0))))::.bool (!(decide (DivI t (fairP t none0))))::.bool (!(decide (DivI t (fairP t none0))))::.agg #[.slice a1 t.nH c1, .slice a2 t.nW c2, .slice a3 t.m c3]::.slice a25 t.m cp26::.slice a34 t.nH cp35::.slice a15 t.nH cp16::.bool (decide ((lacks t (fairP t none0)) = (LK t)))::.bool (!(decide ((lacks t (fairP t none0)) = (LK t))))::.bool (!(decide ((lacks t (fairP t none0)) = (LK t))))::(val38 5)::(val38 0)::(val38 1)::(val38 2)::(val38 3)::(val38 4)::(val38 6)::(val38 7)::(val38 8)::undef::undef::zu16 (zu16 [])))) mixed (by kernel_rfl) (Nat.le_of_ble_eq_true rfl) (by kernel_rfl) (by kernel_rfl) (by kernel_rfl) (fun _ _ => ⟨fun _ _ h => h.2, ⟨fun _ _ h => h.2, ⟨fun _ _ h => h.2, ⟨fun _ _ h => h.2, ⟨fun _ _ h => h.2, ⟨fun _ _ h => h.2, ⟨fun _ _ h => h.2, ⟨fun _ _ h => h.2, trivial⟩⟩⟩⟩⟩⟩⟩⟩) (fun _ => by kernel_rfl) (by kernel_rfl) ?_ ?_) (fun h_ H_ => St.swap (A := ([(b1, .cells #[.slice a1 t.nH c1, .slice a2 t.nW c2, .slice a3 t.m c3] 25 (0, 0))] : Pcs)) (U := []) H_)
     ·
      refine mixes_cons rfl (opmix2 ?_) ?_
      ·
       intro val38 pc39 hQ_ hX_
       obtain ⟨q_, hq0_⟩ : ∃ q_ : Value → Pcs → Prop, q_ = (fun v_ x_ => v_ = .agg #[.slice a1 t.nH c1, .slice a2 t.nW c2, .slice a3 t.m c3] ∧ x_ = []) := ⟨_, rfl⟩
       refine ⟨(zq1 (zq4 (zq8 (zq32 (zq32 (zq32 (zq32 (zq32 [])))))))), [], q_, rfl, rfl, (fun _ _ z_ => by subst hq0_; exact z_), ?_⟩
       subst hq0_
       exact mix_det mn (fun _ h_ H_ => exd_loadN_own H_ tA25 tS25 rfl (i := 0) rfl (vs := [.slice a1 t.nH c1, .slice a2 t.nW c2, .slice a3 t.m c3]) rfl rfl) ⟨rfl, rfl⟩
      refine mixes_cons rfl (opmix2 ?_) ?_
      ·
       intro val38 pc39 hQ_ hX_
       obtain ⟨q_, hq0_⟩ : ∃ q_ : Value → Pcs → Prop, q_ = (fun v_ x_ => OwnS 3 1 v_ [] x_) := ⟨_, rfl⟩
       refine ⟨(zq1 (zq4 (zq8 (zq32 (zq32 (zq32 (zq32 (zq32 [])))))))), [], q_, rfl, rfl, (fun _ _ z_ => by subst hq0_; exact z_), ?_⟩
       subst hq0_
       exact mix_buildO mn Tryd.underlying22 tS3 tZ3 (Nat.le_of_ble_eq_true rfl) (vs := []) rfl rfl (es := []) rfl rfl rfl fun _ _ o_ => o_
      refine mixes_cons rfl (opmix2 ?_) ?_
      ·
       intro val38 pc39 hQ_ hX_
       obtain ⟨q_, hq0_⟩ : ∃ q_ : Value → Pcs → Prop, q_ = (fun v_ x_ => v_ = .slice b m cb ∧ x_ = []) := ⟨_, rfl⟩
       refine ⟨(zq1 (zq4 (zq8 (zq32 (zq32 (zq32 (zq32 (zq32 [])))))))), [], q_, rfl, rfl, (fun _ _ z_ => by subst hq0_; exact z_), ?_⟩
       subst hq0_
       exact mix_det mn (fun _ h_ H_ => exd_move (v := .slice b m cb) rfl) ⟨rfl, rfl⟩
      refine mixes_cons rfl (opmix2 ?_) ?_
      ·
       intro val38 pc39 hQ_ hX_
       have q1_ : OwnS 3 1 (val38 1) [] (pc39 1) := hQ_ 1 rfl
       have e2_ : val38 2 = .slice b m cb := (hQ_ 2 rfl).1
       obtain ⟨q_, hq0_⟩ : ∃ q_ : Value → Pcs → Prop, q_ = (fun v_ x_ => OwnS 3 1 v_ ([] ++ (d.map fun x => [Value.int .i64 x])) x_) := ⟨_, rfl⟩
       refine ⟨(zq1 (zq4 (zq8 (zq32 (zq32 (zq32 (zq32 (zq32 [])))))))), ((pc39 1) ++ []), q_, (by rw [e2_]), rfl, (fun _ _ z_ => by subst hq0_; exact z_), ?_⟩
       subst hq0_
       exact mix_appendP mn Tryd.underlying22 tS3 tZ3 rfl tB3 Tryd.underlying22 rfl rfl q1_ ((((D.mono le17).mono le22).mono le27).mono le36) (ints_ones _) (by simp only [List.length_nil]; omega) (by decide) (by decide) fun _ _ o_ => o_
      refine mixes_cons rfl (opmix2 ?_) ?_
      ·
       intro val38 pc39 hQ_ hX_
       have e0_ : val38 0 = .agg #[.slice a1 t.nH c1, .slice a2 t.nW c2, .slice a3 t.m c3] := (hQ_ 0 rfl).1
       have q3_ : OwnS 3 1 (val38 3) ([] ++ (d.map fun x => [Value.int .i64 x])) (pc39 3) := hQ_ 3 rfl
       obtain ⟨q_, hq0_⟩ : ∃ q_ : Value → Pcs → Prop, q_ = (fun v_ x_ => ∃ w40 : Value, ∃ X41 : Pcs, v_ = .tuple #[w40, .bool (true), .int .i64 0] ∧ (OwnS 3 1 w40 (ics (lacks t d)) X41) ∧ x_ = (X41 ++ [])) := ⟨_, rfl⟩
       refine ⟨(zq1 (zq4 (zq8 (zq32 (zq32 (zq32 (zq32 (zq32 [])))))))), ((pc39 3) ++ []), q_, (by rw [e0_]), rfl, (fun _ _ z_ => by subst hq0_; exact z_), ?_⟩
       subst hq0_
       exact mix_call mn (first := []) (cap := []) rfl rfl fC49 (fun _ h_ H_ => good_lent .lone (show TownP _ _ _ _ _ _ _ t from ⟨((((T.h.mono le17).mono le22).mono le27).mono le36), ((((T.w.mono le17).mono le22).mono le27).mono le36), ((((T.y.mono le17).mono le22).mono le27).mono le36)⟩) (by omega) hc_ (show OwnS 3 1 _ (ics d) _ from q3_) ((ics_length _).trans D.len) (by omega) hD_ (fun x_ h_ => by simp [h_]) H_)
      refine mixes_cons rfl (opmix2 ?_) ?_
      ·
       intro val38 pc39 hQ_ hX_
       obtain ⟨e4_, o42, x4_⟩ := hG4_ _ _ (hQ_ 4 rfl)
       generalize hg_w40 : Gw40 (val38 4) (pc39 4) = w40 at *
       generalize hg_X41 : GX41 (val38 4) (pc39 4) = X41 at *
       obtain ⟨q_, hq0_⟩ : ∃ q_ : Value → Pcs → Prop, q_ = (fun v_ x_ => v_ = .tuple #[w40, .bool (true), .int .i64 0] ∧ x_ = []) := ⟨_, rfl⟩
       refine ⟨(zq1 (zq4 (zq8 (zq32 (zq32 (zq32 (zq32 (zq32 [])))))))), [], q_, (by rw [e4_]), rfl, (fun _ _ z_ => by subst hq0_ hg_w40 hg_X41; exact z_), ?_⟩
       subst hq0_
       exact mix_det mn (fun _ h_ H_ => exd_move (v := .tuple #[w40, .bool (true), .int .i64 0]) rfl) ⟨rfl, rfl⟩
      refine mixes_cons rfl (opmix2 ?_) ?_
      ·
       intro val38 pc39 hQ_ hX_
       obtain ⟨e4_, o42, x4_⟩ := hG4_ _ _ (hQ_ 4 rfl)
       have e5_ : val38 5 = .tuple #[(Gw40 (val38 4) (pc39 4)), .bool (true), .int .i64 0] := (hQ_ 5 rfl).1
       generalize hg_w40 : Gw40 (val38 4) (pc39 4) = w40 at *
       generalize hg_X41 : GX41 (val38 4) (pc39 4) = X41 at *
       obtain ⟨q_, hq0_⟩ : ∃ q_ : Value → Pcs → Prop, q_ = (fun v_ x_ => v_ = w40 ∧ x_ = []) := ⟨_, rfl⟩
       refine ⟨(zq1 (zq4 (zq8 (zq32 (zq32 (zq32 (zq32 (zq32 [])))))))), [], q_, (by rw [e4_, e5_]), rfl, (fun _ _ z_ => by subst hq0_ hg_w40 hg_X41; exact z_), ?_⟩
       subst hq0_
       exact mix_det mn (fun _ h_ H_ => exd_extract rfl (v := w40) rfl) ⟨rfl, rfl⟩
      refine mixes_cons rfl (opmix2 ?_) ?_
      ·
       intro val38 pc39 hQ_ hX_
       obtain ⟨e4_, o42, x4_⟩ := hG4_ _ _ (hQ_ 4 rfl)
       have e5_ : val38 5 = .tuple #[(Gw40 (val38 4) (pc39 4)), .bool (true), .int .i64 0] := (hQ_ 5 rfl).1
       generalize hg_w40 : Gw40 (val38 4) (pc39 4) = w40 at *
       generalize hg_X41 : GX41 (val38 4) (pc39 4) = X41 at *
       obtain ⟨q_, hq0_⟩ : ∃ q_ : Value → Pcs → Prop, q_ = (fun v_ x_ => v_ = .bool (true) ∧ x_ = []) := ⟨_, rfl⟩
       refine ⟨(zq1 (zq4 (zq8 (zq32 (zq32 (zq32 (zq32 (zq32 [])))))))), [], q_, (by rw [e4_, e5_]), rfl, (fun _ _ z_ => by subst hq0_ hg_w40 hg_X41; exact z_), ?_⟩
       subst hq0_
       exact mix_det mn (fun _ h_ H_ => exd_extract rfl (v := .bool (true)) rfl) ⟨rfl, rfl⟩
      refine mixes_cons rfl (opmix2 ?_) ?_
      ·
       intro val38 pc39 hQ_ hX_
       obtain ⟨e4_, o42, x4_⟩ := hG4_ _ _ (hQ_ 4 rfl)
       have e5_ : val38 5 = .tuple #[(Gw40 (val38 4) (pc39 4)), .bool (true), .int .i64 0] := (hQ_ 5 rfl).1
       generalize hg_w40 : Gw40 (val38 4) (pc39 4) = w40 at *
       generalize hg_X41 : GX41 (val38 4) (pc39 4) = X41 at *
       obtain ⟨q_, hq0_⟩ : ∃ q_ : Value → Pcs → Prop, q_ = (fun v_ x_ => v_ = .int .i64 0 ∧ x_ = []) := ⟨_, rfl⟩
       refine ⟨(zq1 (zq4 (zq8 (zq32 (zq32 (zq32 (zq32 (zq32 [])))))))), [], q_, (by rw [e4_, e5_]), rfl, (fun _ _ z_ => by subst hq0_ hg_w40 hg_X41; exact z_), ?_⟩
       subst hq0_
       exact mix_det mn (fun _ h_ H_ => exd_extract rfl (v := .int .i64 0) rfl) ⟨rfl, rfl⟩
      refine mixes_cons rfl (opmix2 ?_) ?_
      ·
       intro val38 pc39 hQ_ hX_
       have e0_ : val38 0 = .agg #[.slice a1 t.nH c1, .slice a2 t.nW c2, .slice a3 t.m c3] := (hQ_ 0 rfl).1
       have q1_ : OwnS 3 1 (val38 1) [] (pc39 1) := hQ_ 1 rfl
       have e2_ : val38 2 = .slice b m cb := (hQ_ 2 rfl).1
       have q3_ : OwnS 3 1 (val38 3) ([] ++ (d.map fun x => [Value.int .i64 x])) (pc39 3) := hQ_ 3 rfl
       obtain ⟨e4_, o42, x4_⟩ := hG4_ _ _ (hQ_ 4 rfl)
       have e5_ : val38 5 = .tuple #[(Gw40 (val38 4) (pc39 4)), .bool (true), .int .i64 0] := (hQ_ 5 rfl).1
       have e6_ : val38 6 = (Gw40 (val38 4) (pc39 4)) := (hQ_ 6 rfl).1
       generalize hg_w40 : Gw40 (val38 4) (pc39 4) = w40 at *
       generalize hg_X41 : GX41 (val38 4) (pc39 4) = X41 at *
       obtain ⟨q_, hq0_⟩ : ∃ q_ : Value → Pcs → Prop, q_ = (fun v_ x_ => v_ = w40 ∧ x_ = []) := ⟨_, rfl⟩
       refine ⟨(zq1 (zq4 (zq8 (zq32 (zq32 (zq32 (zq32 (zq32 [])))))))), [], q_, (by rw [e0_, e2_, e4_, e5_, e6_]), rfl, (fun _ _ z_ => by subst hq0_ hg_w40 hg_X41; exact z_), ?_⟩
       subst hq0_
       exact mix_det mn (fun _ h_ H_ => exd_assign (v := w40) rfl) ⟨rfl, rfl⟩
      refine mixes_cons rfl (opmix2 ?_) ?_
      ·
       intro val38 pc39 hQ_ hX_
       have e0_ : val38 0 = .agg #[.slice a1 t.nH c1, .slice a2 t.nW c2, .slice a3 t.m c3] := (hQ_ 0 rfl).1
       have q1_ : OwnS 3 1 (val38 1) [] (pc39 1) := hQ_ 1 rfl
       have e2_ : val38 2 = .slice b m cb := (hQ_ 2 rfl).1
       have q3_ : OwnS 3 1 (val38 3) ([] ++ (d.map fun x => [Value.int .i64 x])) (pc39 3) := hQ_ 3 rfl
       obtain ⟨e4_, o42, x4_⟩ := hG4_ _ _ (hQ_ 4 rfl)
       have e5_ : val38 5 = .tuple #[(Gw40 (val38 4) (pc39 4)), .bool (true), .int .i64 0] := (hQ_ 5 rfl).1
       have e6_ : val38 6 = (Gw40 (val38 4) (pc39 4)) := (hQ_ 6 rfl).1
       have e7_ : val38 7 = .bool (true) := (hQ_ 7 rfl).1
       have e9_ : val38 9 = (Gw40 (val38 4) (pc39 4)) := (hQ_ 9 rfl).1
       generalize hg_w40 : Gw40 (val38 4) (pc39 4) = w40 at *
       generalize hg_X41 : GX41 (val38 4) (pc39 4) = X41 at *
       obtain ⟨q_, hq0_⟩ : ∃ q_ : Value → Pcs → Prop, q_ = (fun v_ x_ => v_ = .bool (true) ∧ x_ = []) := ⟨_, rfl⟩
       refine ⟨(zq1 (zq4 (zq8 (zq32 (zq32 (zq32 (zq32 (zq32 [])))))))), [], q_, (by rw [e0_, e2_, e4_, e5_, e6_, e7_, e9_]), rfl, (fun _ _ z_ => by subst hq0_ hg_w40 hg_X41; exact z_), ?_⟩
       subst hq0_
       exact mix_det mn (fun _ h_ H_ => exd_assign (v := .bool (true)) rfl) ⟨rfl, rfl⟩
      exact mixes_nil rfl
     intro val38 pc39 hQ_ hX_
     have e0_ : val38 0 = .agg #[.slice a1 t.nH c1, .slice a2 t.nW c2, .slice a3 t.m c3] := (hQ_ 0 (by decide)).1
     have e2_ : val38 2 = .slice b m cb := (hQ_ 2 (by decide)).1
     obtain ⟨e4_, o42, x4_⟩ := hG4_ _ _ (hQ_ 4 (by decide))
     have e5_ : val38 5 = .tuple #[(Gw40 (val38 4) (pc39 4)), .bool (true), .int .i64 0] := (hQ_ 5 (by decide)).1
     have e6_ : val38 6 = (Gw40 (val38 4) (pc39 4)) := (hQ_ 6 (by decide)).1
     have e7_ : val38 7 = .bool (true) := (hQ_ 7 (by decide)).1
     have e8_ : val38 8 = .int .i64 0 := (hQ_ 8 (by decide)).1
     have e9_ : val38 9 = (Gw40 (val38 4) (pc39 4)) := (hQ_ 9 (by decide)).1
     have e10_ : val38 10 = .bool (true) := (hQ_ 10 (by decide)).1
     clear hQ_ hX_
     generalize Gw40 (val38 4) (pc39 4) = w40 at *
     generalize GX41 (val38 4) (pc39 4) = X41 at *
     refine rl_as (Φ := fun h_ => St h [] p33 h_ (([(b1, .cells #[.slice a1 t.nH c1, .slice a2 t.nW c2, .slice a3 t.m c3] 25 (0, 0))] : Pcs) ++ (pc39 4 ++ []))) ?_ (fun h_ H_ => H_.swap')
     rw [x4_]
     refine rl_own (L' := ([(b1, .cells #[.slice a1 t.nH c1, .slice a2 t.nW c2, .slice a3 t.m c3] 25 (0, 0))] : Pcs) ++ (X41 ++ [])) (by simp) ?_
     refine rl_norm (tm' := (zq1 (zq4 (zq8 (zq32 (zq32 (zq32 (zq32 (zq32 []))))))))) (by rw [e0_, e2_, e4_, e5_, e6_, e7_, e8_, e9_, e10_]) ?_
     refine rt (exd_assign (v := .int .i64 0) rfl) (tm' := zq1 (zq16 _)) rfl <| ren ?_
     obtain ⟨Gw49, GX50, hG4_⟩ := sk2 (fun (v_ : Value) (x_ : Pcs) (w49 : Value) (X50 : Pcs) => v_ = .tuple #[w49, .bool (true), .int .i64 0] ∧ (OwnS 3 1 w49 (ics (lacks t (fairP t none0))) X50) ∧ x_ = (X50 ++ []))
     refine rs_as (fl_mixed2 (C := []) (A := ([(b1, .cells #[.slice a1 t.nH c1, .slice a2 t.nW c2, .slice a3 t.m c3] 25 (0, 0))] : Pcs)) 11 [[], [], [], [], [], [4], [], [], [], [], [], []] [11] [11, 4] [0, 2, 5, 6, 7, 8, 9, 10] (fun i_ => match i_ with | 11 => X41 | _ => []) (fun i_ => match i_ with | 3 => [1] | 4 => [3] | _ => []) (fun i_ => match i_ with | 0 => [] | 1 => [] | 2 => [] | 3 => [1, 2] | 4 => [0, 3] | 5 => [4] | 6 => [4, 5] | 7 => [4, 5] | 8 => [4, 5] | 9 => [0, 1, 2, 3, 4, 5, 6] | 10 => [0, 1, 2, 3, 4, 5, 6, 7, 9] | _ => []) (fun i_ val_ pc_ v_ x_ => match i_ with | 0 => v_ = .agg #[.slice a1 t.nH c1, .slice a2 t.nW c2, .slice a3 t.m c3] ∧ x_ = [] | 1 => OwnS 3 1 v_ [] x_ | 2 => v_ = .slice a25 t.m cp26 ∧ x_ = [] | 3 => OwnS 3 1 v_ ([] ++ ((fairP t none0).map fun x => [Value.int .i64 x])) x_ | 4 => ∃ w49 : Value, ∃ X50 : Pcs, v_ = .tuple #[w49, .bool (true), .int .i64 0] ∧ (OwnS 3 1 w49 (ics (lacks t (fairP t none0))) X50) ∧ x_ = (X50 ++ []) | 5 => v_ = .tuple #[(Gw49 (val_ 4) (pc_ 4)), .bool (true), .int .i64 0] ∧ x_ = [] | 6 => v_ = (Gw49 (val_ 4) (pc_ 4)) ∧ x_ = [] | 7 => v_ = .bool (true) ∧ x_ = [] | 8 => v_ = .int .i64 0 ∧ x_ = [] | 9 => v_ = (Gw49 (val_ 4) (pc_ 4)) ∧ x_ = [] | 10 => v_ = .bool (true) ∧ x_ = [] | _ => True) (fun val47 => (.agg #[.slice a1 t.nH c1, .slice a2 t.nW c2, .slice a3 t.m c3]::.slice b m cb::.pointer (some ⟨b1, 0, none⟩)::undef::.bool (false)::.slice a15 t.nH cp16::.bool (true)::.slice a20 t.nH cp21::.int .i64 (worstV t)::.int .i64 0::.int .i64 (mostV t)::.int .i64 0::.slice a25 t.m cp26::.int .i64 0::w40::.bool (true)::.int .i64 0::(val47 9)::(val47 10)::undef::.agg #[.slice a1 t.nH c1, .slice a2 t.nW c2, .slice a3 t.m c3]::.bool (readyB t)::.bool (!(readyB t))::.bool (!(readyB t))::.slice b m cb::.int .i64 (((m : Nat) : Int))::.bool (decide (40 < ((m : Nat) : Int)))::.bool (decide (40 < ((m : Nat) : Int)))::.bool (decide (40 < ((m : Nat) : Int)))::.agg #[.slice a1 t.nH c1, .slice a2 t.nW c2, .slice a3 t.m c3]::.slice b m cb::.bool (decide (DivI t d))::.bool (!(decide (DivI t d)))::.bool (!(decide (DivI t d)))::undef::.tuple #[.slice a15 t.nH cp16, .bool (true)]::.agg #[.slice a1 t.nH c1, .slice a2 t.nW c2, .slice a3 t.m c3]::.tuple #[.slice a15 t.nH cp16, .bool (true)]::.slice a15 t.nH cp16::.bool (true)::.agg #[.slice a1 t.nH c1, .slice a2 t.nW c2, .slice a3 t.m c3]::.slice b m cb::.slice a20 t.nH cp21::.tuple #[.int .i64 (worstV t), .int .i64 0]::.agg #[.slice a1 t.nH c1, .slice a2 t.nW c2, .slice a3 t.m c3]::.tuple #[.int .i64 (worstV t), .int .i64 0]::.int .i64 (worstV t)::.int .i64 0::.tuple #[.int .i64 (mostV t), .int .i64 0]::.agg #[.slice a1 t.nH c1, .slice a2 t.nW c2, .slice a3 t.m c3]::.tuple #[.int .i64 (mostV t), .int .i64 0]::.int .i64 (mostV t)::.int .i64 0::.tuple #[.slice a25 t.m cp26, .int .i64 0]::.agg #[.slice a1 t.nH c1, .slice a2 t.nW c2, .slice a3 t.m c3]::.tuple #[.slice a25 t.m cp26, .int .i64 0]::.slice a25 t.m cp26::.int .i64 0::.bool (true)::.bool (!true)::.bool (!true)::.int .i64 0::.bool (decide ((0 : Int) ≠ 0))::.bool (decide ((0 : Int) ≠ 0))::.bool (decide ((0 : Int) ≠ 0))::.int .i64 0::.bool (decide ((0 : Int) ≠ 0))::.bool (decide ((0 : Int) ≠ 0))::.bool (decide ((0 : Int) ≠ 0))::.int .i64 0::.bool (decide ((0 : Int) ≠ 0))::.bool (decide ((0 : Int) ≠ 0))::.bool (decide ((0 : Int) ≠ 0))::.slice a20 t.nH cp21::.slice a15 t.nH cp16::.bool (decide (earlier (lacks t d) (LK t) = true))::.bool (decide (earlier (lacks t d) (LK t) = true))::.bool (decide (earlier (lacks t d) (LK t) = true))::.slice a15 t.nH cp16::.int .i64 (((t.nH : Nat) : Int))::.bool (decide (0 < ((t.nH : Nat) : Int)))::.bool (decide (0 < ((t.nH : Nat) : Int)))::.int .i64 (worstV t)::.slice a15 t.nH cp16::.pointer (some ((adr a15).add (0 * 1)))::.int .i64 ((LK t).getD 0 0)::.bool (decide (worstV t ≠ (LK t).getD 0 0))::.bool (decide (worstV t ≠ (LK t).getD 0 0))::.slice a20 t.nH cp21::.pointer (some ((adr a20).add (0 * 1)))::.int .i64 ((lacks t d).getD 0 0)::.int .i64 (worstV t)::.bool (decide ((lacks t d).getD 0 0 < worstV t))::.bool (decide ((lacks t d).getD 0 0 < worstV t))::.bool (decide ((lacks t d).getD 0 0 < worstV t))::.bool (decide ((lacks t d).getD 0 0 < worstV t))::.bool (decide ((lacks t d).getD 0 0 < worstV t))::.slice a15 t.nH cp16::.int .i64 (((t.nH : Nat) : Int))::.bool (decide (((t.nH : Nat) : Int) = 0))::.bool (decide (((t.nH : Nat) : Int) = 0))::undef::undef::.bool (false)::.bool (false)::.bool (false)::.slice b m cb::.int .i64 (sm m (dv d))::.int .i64 (mostV t)::.bool (decide (mostV t < sm m (dv d)))::.bool (decide (mostV t < sm m (dv d)))::.bool (decide (mostV t < sm m (dv d)))::.slice a25 t.m cp26::.int .i64 (((t.m : Nat) : Int))::.bool (decide (40 < ((t.m : Nat) : Int)))::.bool (decide (40 < ((t.m : Nat) : Int)))::.bool (decide (40 < ((t.m : Nat) : Int)))::.agg #[.slice a1 t.nH c1, .slice a2 t.nW c2, .slice a3 t.m c3]::.slice a25 t.m cp26::.bool (decide (DivI t (fairP t none0)))::.bool (!(decide (DivI t (fairP t none0))))::.bool (!(decide (DivI t (fairP t none0))))::.bool (!(decide (DivI t (fairP t none0))))::.agg #[.slice a1 t.nH c1, .slice a2 t.nW c2, .slice a3 t.m c3]::.slice a25 t.m cp26::.slice a34 t.nH cp35::.slice a15 t.nH cp16::.bool (decide ((lacks t (fairP t none0)) = (LK t)))::.bool (!(decide ((lacks t (fairP t none0)) = (LK t))))::.bool (!(decide ((lacks t (fairP t none0)) = (LK t))))::.tuple #[w40, .bool (true), .int .i64 0]::.agg #[.slice a1 t.nH c1, .slice a2 t.nW c2, .slice a3 t.m c3]::(val38 1)::.slice b m cb::(val38 3)::.tuple #[w40, .bool (true), .int .i64 0]::w40::.bool (true)::.int .i64 0::(val47 5)::(val47 0)::(val47 1)::(val47 2)::(val47 3)::(val47 4)::(val47 6)::(val47 7)::(val47 8)::undef::zu8 (zu16 []))) mixed (by kernel_rfl) (Nat.le_of_ble_eq_true rfl) (by kernel_rfl) (by kernel_rfl) (by kernel_rfl) (fun _ _ => ⟨fun _ _ h => h.2, ⟨fun _ _ h => h.2, ⟨fun _ _ h => h.2, ⟨fun _ _ h => h.2, ⟨fun _ _ h => h.2, ⟨fun _ _ h => h.2, ⟨fun _ _ h => h.2, ⟨fun _ _ h => h.2, trivial⟩⟩⟩⟩⟩⟩⟩⟩) (fun _ => by kernel_rfl) (by kernel_rfl) ?_ ?_) (fun h_ H_ => St.swap (A := ([(b1, .cells #[.slice a1 t.nH c1, .slice a2 t.nW c2, .slice a3 t.m c3] 25 (0, 0))] : Pcs)) (U := (X41 ++ [])) H_)
     ·
      refine mixes_cons rfl (opmix2 ?_) ?_
      ·
       intro val47 pc48 hQ_ hX_
       obtain ⟨q_, hq0_⟩ : ∃ q_ : Value → Pcs → Prop, q_ = (fun v_ x_ => v_ = .agg #[.slice a1 t.nH c1, .slice a2 t.nW c2, .slice a3 t.m c3] ∧ x_ = []) := ⟨_, rfl⟩
       refine ⟨(zq1 (zq4 (zq8 (zq32 (zq32 (zq32 (zq32 (zq32 [])))))))), [], q_, rfl, rfl, (fun _ _ z_ => by subst hq0_; exact z_), ?_⟩
       subst hq0_
       exact mix_det mn (fun _ h_ H_ => exd_loadN_own H_ tA25 tS25 rfl (i := 0) rfl (vs := [.slice a1 t.nH c1, .slice a2 t.nW c2, .slice a3 t.m c3]) rfl rfl) ⟨rfl, rfl⟩
      refine mixes_cons rfl (opmix2 ?_) ?_
      ·
       intro val47 pc48 hQ_ hX_
       obtain ⟨q_, hq0_⟩ : ∃ q_ : Value → Pcs → Prop, q_ = (fun v_ x_ => OwnS 3 1 v_ [] x_) := ⟨_, rfl⟩
       refine ⟨(zq1 (zq4 (zq8 (zq32 (zq32 (zq32 (zq32 (zq32 [])))))))), [], q_, rfl, rfl, (fun _ _ z_ => by subst hq0_; exact z_), ?_⟩
       subst hq0_
       exact mix_buildO mn Tryd.underlying22 tS3 tZ3 (Nat.le_of_ble_eq_true rfl) (vs := []) rfl rfl (es := []) rfl rfl rfl fun _ _ o_ => o_
      refine mixes_cons rfl (opmix2 ?_) ?_
      ·
       intro val47 pc48 hQ_ hX_
       obtain ⟨q_, hq0_⟩ : ∃ q_ : Value → Pcs → Prop, q_ = (fun v_ x_ => v_ = .slice a25 t.m cp26 ∧ x_ = []) := ⟨_, rfl⟩
       refine ⟨(zq1 (zq4 (zq8 (zq32 (zq32 (zq32 (zq32 (zq32 [])))))))), [], q_, rfl, rfl, (fun _ _ z_ => by subst hq0_; exact z_), ?_⟩
       subst hq0_
       exact mix_det mn (fun _ h_ H_ => exd_move (v := .slice a25 t.m cp26) rfl) ⟨rfl, rfl⟩
      refine mixes_cons rfl (opmix2 ?_) ?_
      ·
       intro val47 pc48 hQ_ hX_
       have q1_ : OwnS 3 1 (val47 1) [] (pc48 1) := hQ_ 1 rfl
       have e2_ : val47 2 = .slice a25 t.m cp26 := (hQ_ 2 rfl).1
       obtain ⟨q_, hq0_⟩ : ∃ q_ : Value → Pcs → Prop, q_ = (fun v_ x_ => OwnS 3 1 v_ ([] ++ ((fairP t none0).map fun x => [Value.int .i64 x])) x_) := ⟨_, rfl⟩
       refine ⟨(zq1 (zq4 (zq8 (zq32 (zq32 (zq32 (zq32 (zq32 [])))))))), ((pc48 1) ++ []), q_, (by rw [e2_]), rfl, (fun _ _ z_ => by subst hq0_; exact z_), ?_⟩
       subst hq0_
       exact mix_appendP mn Tryd.underlying22 tS3 tZ3 rfl tB3 Tryd.underlying22 rfl rfl q1_ ((show Ints _ _ _ (fairP t none0) from D28).mono le36) (ints_ones _) (by simp only [List.length_nil]; omega) (by decide) (by decide) fun _ _ o_ => o_
      refine mixes_cons rfl (opmix2 ?_) ?_
      ·
       intro val47 pc48 hQ_ hX_
       have e0_ : val47 0 = .agg #[.slice a1 t.nH c1, .slice a2 t.nW c2, .slice a3 t.m c3] := (hQ_ 0 rfl).1
       have q3_ : OwnS 3 1 (val47 3) ([] ++ ((fairP t none0).map fun x => [Value.int .i64 x])) (pc48 3) := hQ_ 3 rfl
       obtain ⟨q_, hq0_⟩ : ∃ q_ : Value → Pcs → Prop, q_ = (fun v_ x_ => ∃ w49 : Value, ∃ X50 : Pcs, v_ = .tuple #[w49, .bool (true), .int .i64 0] ∧ (OwnS 3 1 w49 (ics (lacks t (fairP t none0))) X50) ∧ x_ = (X50 ++ [])) := ⟨_, rfl⟩
       refine ⟨(zq1 (zq4 (zq8 (zq32 (zq32 (zq32 (zq32 (zq32 [])))))))), ((pc48 3) ++ []), q_, (by rw [e0_]), rfl, (fun _ _ z_ => by subst hq0_; exact z_), ?_⟩
       subst hq0_
       exact mix_call mn (first := []) (cap := []) rfl rfl fC49 (fun _ h_ H_ => good_lent .lone (show TownP _ _ _ _ _ _ _ t from ⟨((((T.h.mono le17).mono le22).mono le27).mono le36), ((((T.w.mono le17).mono le22).mono le27).mono le36), ((((T.y.mono le17).mono le22).mono le27).mono le36)⟩) (by omega) hc_ (show OwnS 3 1 _ (ics (fairP t none0)) _ from q3_) ((ics_length _).trans (fairP_len _ _)) (by omega) aD_ (fun x_ h_ => by simp [h_]) H_)
      refine mixes_cons rfl (opmix2 ?_) ?_
      ·
       intro val47 pc48 hQ_ hX_
       obtain ⟨e4_, o51, x4_⟩ := hG4_ _ _ (hQ_ 4 rfl)
       generalize hg_w49 : Gw49 (val47 4) (pc48 4) = w49 at *
       generalize hg_X50 : GX50 (val47 4) (pc48 4) = X50 at *
       obtain ⟨q_, hq0_⟩ : ∃ q_ : Value → Pcs → Prop, q_ = (fun v_ x_ => v_ = .tuple #[w49, .bool (true), .int .i64 0] ∧ x_ = []) := ⟨_, rfl⟩
       refine ⟨(zq1 (zq4 (zq8 (zq32 (zq32 (zq32 (zq32 (zq32 [])))))))), [], q_, (by rw [e4_]), rfl, (fun _ _ z_ => by subst hq0_ hg_w49 hg_X50; exact z_), ?_⟩
       subst hq0_
       exact mix_det mn (fun _ h_ H_ => exd_move (v := .tuple #[w49, .bool (true), .int .i64 0]) rfl) ⟨rfl, rfl⟩
      refine mixes_cons rfl (opmix2 ?_) ?_
      ·
       intro val47 pc48 hQ_ hX_
       obtain ⟨e4_, o51, x4_⟩ := hG4_ _ _ (hQ_ 4 rfl)
       have e5_ : val47 5 = .tuple #[(Gw49 (val47 4) (pc48 4)), .bool (true), .int .i64 0] := (hQ_ 5 rfl).1
       generalize hg_w49 : Gw49 (val47 4) (pc48 4) = w49 at *
       generalize hg_X50 : GX50 (val47 4) (pc48 4) = X50 at *
       obtain ⟨q_, hq0_⟩ : ∃ q_ : Value → Pcs → Prop, q_ = (fun v_ x_ => v_ = w49 ∧ x_ = []) := ⟨_, rfl⟩
       refine ⟨(zq1 (zq4 (zq8 (zq32 (zq32 (zq32 (zq32 (zq32 [])))))))), [], q_, (by rw [e4_, e5_]), rfl, (fun _ _ z_ => by subst hq0_ hg_w49 hg_X50; exact z_), ?_⟩
       subst hq0_
       exact mix_det mn (fun _ h_ H_ => exd_extract rfl (v := w49) rfl) ⟨rfl, rfl⟩
      refine mixes_cons rfl (opmix2 ?_) ?_
      ·
       intro val47 pc48 hQ_ hX_
       obtain ⟨e4_, o51, x4_⟩ := hG4_ _ _ (hQ_ 4 rfl)
       have e5_ : val47 5 = .tuple #[(Gw49 (val47 4) (pc48 4)), .bool (true), .int .i64 0] := (hQ_ 5 rfl).1
       generalize hg_w49 : Gw49 (val47 4) (pc48 4) = w49 at *
       generalize hg_X50 : GX50 (val47 4) (pc48 4) = X50 at *
       obtain ⟨q_, hq0_⟩ : ∃ q_ : Value → Pcs → Prop, q_ = (fun v_ x_ => v_ = .bool (true) ∧ x_ = []) := ⟨_, rfl⟩
       refine ⟨(zq1 (zq4 (zq8 (zq32 (zq32 (zq32 (zq32 (zq32 [])))))))), [], q_, (by rw [e4_, e5_]), rfl, (fun _ _ z_ => by subst hq0_ hg_w49 hg_X50; exact z_), ?_⟩
       subst hq0_
       exact mix_det mn (fun _ h_ H_ => exd_extract rfl (v := .bool (true)) rfl) ⟨rfl, rfl⟩
      refine mixes_cons rfl (opmix2 ?_) ?_
      ·
       intro val47 pc48 hQ_ hX_
       obtain ⟨e4_, o51, x4_⟩ := hG4_ _ _ (hQ_ 4 rfl)
       have e5_ : val47 5 = .tuple #[(Gw49 (val47 4) (pc48 4)), .bool (true), .int .i64 0] := (hQ_ 5 rfl).1
       generalize hg_w49 : Gw49 (val47 4) (pc48 4) = w49 at *
       generalize hg_X50 : GX50 (val47 4) (pc48 4) = X50 at *
       obtain ⟨q_, hq0_⟩ : ∃ q_ : Value → Pcs → Prop, q_ = (fun v_ x_ => v_ = .int .i64 0 ∧ x_ = []) := ⟨_, rfl⟩
       refine ⟨(zq1 (zq4 (zq8 (zq32 (zq32 (zq32 (zq32 (zq32 [])))))))), [], q_, (by rw [e4_, e5_]), rfl, (fun _ _ z_ => by subst hq0_ hg_w49 hg_X50; exact z_), ?_⟩
       subst hq0_
       exact mix_det mn (fun _ h_ H_ => exd_extract rfl (v := .int .i64 0) rfl) ⟨rfl, rfl⟩
      refine mixes_cons rfl (opmix2 ?_) ?_
      ·
       intro val47 pc48 hQ_ hX_
       have e0_ : val47 0 = .agg #[.slice a1 t.nH c1, .slice a2 t.nW c2, .slice a3 t.m c3] := (hQ_ 0 rfl).1
       have q1_ : OwnS 3 1 (val47 1) [] (pc48 1) := hQ_ 1 rfl
       have e2_ : val47 2 = .slice a25 t.m cp26 := (hQ_ 2 rfl).1
       have q3_ : OwnS 3 1 (val47 3) ([] ++ ((fairP t none0).map fun x => [Value.int .i64 x])) (pc48 3) := hQ_ 3 rfl
       obtain ⟨e4_, o51, x4_⟩ := hG4_ _ _ (hQ_ 4 rfl)
       have e5_ : val47 5 = .tuple #[(Gw49 (val47 4) (pc48 4)), .bool (true), .int .i64 0] := (hQ_ 5 rfl).1
       have e6_ : val47 6 = (Gw49 (val47 4) (pc48 4)) := (hQ_ 6 rfl).1
       generalize hg_w49 : Gw49 (val47 4) (pc48 4) = w49 at *
       generalize hg_X50 : GX50 (val47 4) (pc48 4) = X50 at *
       obtain ⟨q_, hq0_⟩ : ∃ q_ : Value → Pcs → Prop, q_ = (fun v_ x_ => v_ = w49 ∧ x_ = []) := ⟨_, rfl⟩
       refine ⟨(zq1 (zq4 (zq8 (zq32 (zq32 (zq32 (zq32 (zq32 [])))))))), [], q_, (by rw [e0_, e2_, e4_, e5_, e6_]), rfl, (fun _ _ z_ => by subst hq0_ hg_w49 hg_X50; exact z_), ?_⟩
       subst hq0_
       exact mix_det mn (fun _ h_ H_ => exd_assign (v := w49) rfl) ⟨rfl, rfl⟩
      refine mixes_cons rfl (opmix2 ?_) ?_
      ·
       intro val47 pc48 hQ_ hX_
       have e0_ : val47 0 = .agg #[.slice a1 t.nH c1, .slice a2 t.nW c2, .slice a3 t.m c3] := (hQ_ 0 rfl).1
       have q1_ : OwnS 3 1 (val47 1) [] (pc48 1) := hQ_ 1 rfl
       have e2_ : val47 2 = .slice a25 t.m cp26 := (hQ_ 2 rfl).1
       have q3_ : OwnS 3 1 (val47 3) ([] ++ ((fairP t none0).map fun x => [Value.int .i64 x])) (pc48 3) := hQ_ 3 rfl
       obtain ⟨e4_, o51, x4_⟩ := hG4_ _ _ (hQ_ 4 rfl)
       have e5_ : val47 5 = .tuple #[(Gw49 (val47 4) (pc48 4)), .bool (true), .int .i64 0] := (hQ_ 5 rfl).1
       have e6_ : val47 6 = (Gw49 (val47 4) (pc48 4)) := (hQ_ 6 rfl).1
       have e7_ : val47 7 = .bool (true) := (hQ_ 7 rfl).1
       have e9_ : val47 9 = (Gw49 (val47 4) (pc48 4)) := (hQ_ 9 rfl).1
       generalize hg_w49 : Gw49 (val47 4) (pc48 4) = w49 at *
       generalize hg_X50 : GX50 (val47 4) (pc48 4) = X50 at *
       obtain ⟨q_, hq0_⟩ : ∃ q_ : Value → Pcs → Prop, q_ = (fun v_ x_ => v_ = .bool (true) ∧ x_ = []) := ⟨_, rfl⟩
       refine ⟨(zq1 (zq4 (zq8 (zq32 (zq32 (zq32 (zq32 (zq32 [])))))))), [], q_, (by rw [e0_, e2_, e4_, e5_, e6_, e7_, e9_]), rfl, (fun _ _ z_ => by subst hq0_ hg_w49 hg_X50; exact z_), ?_⟩
       subst hq0_
       exact mix_det mn (fun _ h_ H_ => exd_assign (v := .bool (true)) rfl) ⟨rfl, rfl⟩
      exact mixes_nil rfl
     intro val47 pc48 hQ_ hX_
     have e0_ : val47 0 = .agg #[.slice a1 t.nH c1, .slice a2 t.nW c2, .slice a3 t.m c3] := (hQ_ 0 (by decide)).1
     have e2_ : val47 2 = .slice a25 t.m cp26 := (hQ_ 2 (by decide)).1
     obtain ⟨e4_, o51, x4_⟩ := hG4_ _ _ (hQ_ 4 (by decide))
     have e5_ : val47 5 = .tuple #[(Gw49 (val47 4) (pc48 4)), .bool (true), .int .i64 0] := (hQ_ 5 (by decide)).1
     have e6_ : val47 6 = (Gw49 (val47 4) (pc48 4)) := (hQ_ 6 (by decide)).1
     have e7_ : val47 7 = .bool (true) := (hQ_ 7 (by decide)).1
     have e8_ : val47 8 = .int .i64 0 := (hQ_ 8 (by decide)).1
     have e9_ : val47 9 = (Gw49 (val47 4) (pc48 4)) := (hQ_ 9 (by decide)).1
     have e10_ : val47 10 = .bool (true) := (hQ_ 10 (by decide)).1
     have x11_ : pc48 11 = X41 := hX_ 11 (by decide)
     clear hQ_ hX_
     generalize Gw49 (val47 4) (pc48 4) = w49 at *
     generalize GX50 (val47 4) (pc48 4) = X50 at *
     refine rl_as (Φ := fun h_ => St h [] p33 h_ (([(b1, .cells #[.slice a1 t.nH c1, .slice a2 t.nW c2, .slice a3 t.m c3] 25 (0, 0))] : Pcs) ++ (pc48 11 ++ (pc48 4 ++ [])))) ?_ (fun h_ H_ => H_.swap')
     rw [x11_, x4_]
     refine rl_own (L' := ([(b1, .cells #[.slice a1 t.nH c1, .slice a2 t.nW c2, .slice a3 t.m c3] 25 (0, 0))] : Pcs) ++ (X41 ++ (X50 ++ []))) (by simp) ?_
     refine rl_norm (tm' := (zq1 (zq4 (zq8 (zq32 (zq32 (zq32 (zq32 (zq32 []))))))))) (by rw [e0_, e2_, e4_, e5_, e6_, e7_, e8_, e9_, e10_]) ?_
     refine ro (exd_assign (v := .int .i64 0) rfl) <| ren <| rl_start <| rt (exd_move (v := .int .i64 0) rfl) (tm' := zq1 (zq4 (zq8 (zq32 (zq32 (zq32 (zq32 (zq32 [])))))))) rfl <| ro (exd_eql rfl rfl) <| ro (exd_move (v := .bool (decide ((0 : Int) = 0))) rfl) ?_
     refine rl_det (ms rfl rfl (decide_eq_true (by decide))) (fun h_ H_ => exd_move (v := .int .i64 0) rfl) (tm' := zq1 (zq4 (zq8 (zq32 (zq32 (zq32 (zq32 (zq32 [])))))))) rfl ?_
     refine rl_det (ms rfl rfl (decide_eq_true (by decide))) (fun h_ H_ => exd_eql rfl rfl) rfl ?_
     refine ro (exd_pick_t rfl (decide_eq_true (by decide)) (v := .bool (decide ((0 : Int) = 0))) rfl) ?_
     refine rt (exd_move (v := .bool (decide ((0 : Int) = 0))) rfl) (tm' := zq1 (zq4 (zq8 (zq32 (zq32 (zq32 (zq32 (zq32 [])))))))) rfl ?_
     refine rl_det (ms rfl rfl (decide_eq_true (by decide))) (fun h_ H_ => exd_move (v := .bool (true)) rfl) rfl ?_
     refine ro (exd_pick_t rfl (decide_eq_true (by decide)) (v := .bool (true)) rfl) ?_
     refine rt (exd_move (v := .bool (true)) rfl) (tm' := zq1 (zq4 (zq8 (zq32 (zq32 (zq32 (zq32 (zq32 [])))))))) rfl ?_
     refine rl_det (ms rfl rfl rfl) (fun h_ H_ => exd_move (v := .bool (true)) rfl) rfl ?_
     refine ro (exd_pick_t rfl rfl (v := .bool (true)) rfl) <| rt (exd_move (v := .bool (true)) rfl) (tm' := zq1 (zq4 (zq8 (zq32 (zq32 (zq32 (zq32 (zq32 [])))))))) rfl ?_
     refine rl_det (ms rfl rfl rfl) (fun h_ H_ => exd_move (v := w40) rfl) rfl ?_
     refine rl_det (ms rfl rfl rfl) (fun h_ H_ => exd_move (v := .slice a20 t.nH cp21) rfl) rfl ?_
     refine rl_lastN (A := ([(b1, .cells #[.slice a1 t.nH c1, .slice a2 t.nW c2, .slice a3 t.m c3] 25 (0, 0))] : Pcs)) o42 ((ics_length _).trans (lacks_len _ _)) fun p56 a57 cp58 le59 ev_ D60 => ?_
     subst ev_
     refine rl_calld (ms rfl rfl rfl) (first := []) (cap := []) rfl rfl fC27 (fun h_ H_ => c27 .lone _ _ H_.pe _ _ _ _ _ _ _ _ (show Ints _ _ _ (lacks t d) from D60) ((((show Ints _ _ _ (lacks t d) from D23).mono le27).mono le36).mono le59) (by omega)) (tm' := zq1 (zq4 (zq8 (zq32 (zq32 (zq32 (zq32 (zq32 [])))))))) rfl ?_
     refine ro (exd_pick_t rfl rfl (v := .bool (decide ((lacks t d) = (lacks t d)))) rfl) <| ro (exd_move (v := .bool (decide ((lacks t d) = (lacks t d)))) rfl) ?_
     refine rl_det (ms rfl rfl (decide_eq_true rfl)) (fun h_ H_ => exd_move (v := w49) rfl) (tm' := zq1 (zq4 (zq8 (zq32 (zq32 (zq32 (zq32 (zq32 [])))))))) rfl ?_
     refine rl_det (ms rfl rfl (decide_eq_true rfl)) (fun h_ H_ => exd_move (v := .slice a15 t.nH cp16) rfl) rfl ?_
     refine rl_lastN (A := ([(b1, .cells #[.slice a1 t.nH c1, .slice a2 t.nW c2, .slice a3 t.m c3] 25 (0, 0))] : Pcs)) o51 ((ics_length _).trans (lacks_len _ _)) fun p61 a62 cp63 le64 ev_ D65 => ?_
     subst ev_
     refine rl_own (L' := [(b1, .cells #[.slice a1 t.nH c1, .slice a2 t.nW c2, .slice a3 t.m c3] 25 (0, 0))]) rfl ?_
     refine rl_calld (ms rfl rfl (decide_eq_true rfl)) (first := []) (cap := []) rfl rfl fC27 (fun h_ H_ => c27 .lone _ _ H_.pe _ _ _ _ _ _ _ _ (show Ints _ _ _ (lacks t (fairP t none0)) from D65) ((((((show Ints _ _ _ (LK t) from D18).mono le22).mono le27).mono le36).mono le59).mono le64) (by omega)) rfl ?_
     refine rt (exd_pick_t rfl (decide_eq_true rfl) (v := .bool (decide ((lacks t (fairP t none0)) = (LK t)))) rfl) (tm' := zq1 (zq4 (zq8 (zq32 (zq32 (zq32 (zq32 (zq32 [])))))))) rfl <| ro (exd_move (v := .bool (decide ((lacks t (fairP t none0)) = (LK t)))) rfl) ?_
     refine rl_calld (ms rfl rfl (decide_eq_true rfl)) (first := []) (cap := []) rfl rfl fC16 (fun h_ H_ => c16 .lone _ _ H_.pe ((((((N.mono le17).mono le22).mono le27).mono le36).mono le59).mono le64) ((((((Z.mono le17).mono le22).mono le27).mono le36).mono le59).mono le64)) rfl ?_
     refine rt (exd_pick_t rfl (decide_eq_true rfl) (v := .bool (true)) rfl) (tm' := zq1 (zq4 (zq8 (zq32 (zq32 (zq32 (zq32 (zq32 [])))))))) rfl <| ro (exd_assign (v := .bool (true)) rfl) <| rl_end ?_
     refine fl_retL Tryd.func14 rfl (vs := [.bool (true)]) (fun h_ H_ => ⟨.bool (true), _, rfl, rfl, rfl⟩) (v := .bool (true)) rfl ?_
     exact fun h_ H_ => ⟨rfl, H_.kept⟩
    ·
     refine rp (mo rfl rfl (dff cc29)) <| rl_pass (mo rfl rfl (dff cc29)) (tm' := zq4 (zq16 (zq32 (zq32 _)))) rfl <| rp (mo rfl rfl (dff cc29)) <| rp (mo rfl rfl (dff cc29)) <| rl_pass (mo rfl rfl (dff cc29)) (tm' := zq1 (zq2 (zq4 (zq16 (zq32 (zq32 _)))))) rfl <| rp (mo rfl rfl (dff cc29)) ?_
     refine rp (met_undef rfl rfl) <| rl_pass (met_undef rfl rfl) (tm' := zq2 (zq8 (zq16 (zq32 (zq32 _))))) rfl <| rp (met_undef rfl rfl) <| rp (met_undef rfl rfl) <| rl_pass (met_undef rfl rfl) (tm' := zq1 (zq4 (zq8 (zq16 (zq32 (zq32 _)))))) rfl <| rp (mo rfl rfl (dff cc29)) ?_
     refine rl_det (ms rfl rfl (decide_eq_false (by rw [eF_.a]; decide))) (fun h_ H_ => exd_pick_f rfl (dff cc29) (v := .bool (false)) rfl) rfl ?_
     refine rt (exd_pick_f rfl (decide_eq_false (by rw [eF_.a]; decide)) (v := .bool (false)) rfl) (tm' := zq32 (zq32 (zq32 _))) rfl ?_
     refine ro (exd_move (v := .bool (false)) rfl) ?_
     refine rl_det (ms rfl rfl rfl) (fun h_ H_ => exd_move (v := .slice a15 t.nH cp16) rfl) rfl ?_
     refine rl_det (ms rfl rfl rfl) (fun h_ H_ => exd_len Tryd.underlying22 rfl) (tm' := zq1 (zq2 (zq32 (zq32 (zq32 _))))) rfl ?_
     refine rl_det (ms rfl rfl rfl) (fun h_ H_ => exd_eql rfl rfl) rfl ?_
     refine rl_det (ms rfl rfl rfl) (fun h_ H_ => exd_move (v := .bool (decide (((t.nH : Nat) : Int) = 0))) rfl) rfl ?_
     refine rl_det (ms rfl rfl (decide_eq_true (by omega))) (fun h_ H_ => exd_move (v := .int .i64 (worstV t)) rfl) (tm' := zq2 (zq4 (zq32 (zq32 (zq32 _))))) rfl ?_
     refine rl_det (ms rfl rfl (decide_eq_true (by omega))) (fun h_ H_ => exd_neq rfl rfl) rfl ?_
     refine rl_det (ms rfl rfl rfl) (fun h_ H_ => exd_pick_t rfl (decide_eq_true (by omega)) (v := .bool (decide (worstV t ≠ 0))) rfl) rfl ?_
     refine rt (exd_pick_f rfl rfl (v := .bool (decide (worstV t ≠ 0))) rfl) (tm' := zq1 (zq8 (zq32 (zq32 (zq32 _))))) rfl <| ro (exd_move (v := .bool (decide (worstV t ≠ 0))) rfl) ?_
     refine rl_det (ms rfl rfl (decide_eq_false (fun z_ => z_ (eF_.c (by omega))))) (fun h_ H_ => exd_move (v := .slice b m cb) rfl) rfl ?_
     refine rl_calld (ms rfl rfl (decide_eq_false (fun z_ => z_ (eF_.c (by omega))))) (first := []) (cap := []) rfl rfl fC32 (fun h_ H_ => c32 .lone _ _ H_.pe _ _ _ _ (((D.mono le17).mono le22).mono le27) (by omega) (fun i hi => by have z_ := hD_.pos i (by have z2_ := D.len; omega); omega) (by omega)) (tm' := zq4 (zq8 (zq32 (zq32 (zq32 _))))) rfl ?_
     refine rl_det (ms rfl rfl (decide_eq_false (fun z_ => z_ (eF_.c (by omega))))) (fun h_ H_ => exd_move (v := .int .i64 (mostV t)) rfl) rfl ?_
     refine rl_det (ms rfl rfl (decide_eq_false (fun z_ => z_ (eF_.c (by omega))))) (fun h_ H_ => exd_gtr rfl rfl) rfl ?_
     refine rt (exd_pick_f rfl (decide_eq_false (fun z_ => z_ (eF_.c (by omega)))) (v := .bool (decide (mostV t < sm m (dv d)))) rfl) (tm' := zq1 (zq2 (zq4 (zq8 (zq32 (zq32 (zq32 _))))))) rfl ?_
     refine ro (exd_move (v := .bool (decide (mostV t < sm m (dv d)))) rfl) ?_
     refine rl_det (ms rfl rfl (decide_eq_false (by have z_ := eF_.e; have z2_ := D.len; rw [z2_] at z_; omega))) (fun h_ H_ => exd_move (v := .slice a25 t.m cp26) rfl) rfl ?_
     refine rl_det (ms rfl rfl (decide_eq_false (by have z_ := eF_.e; have z2_ := D.len; rw [z2_] at z_; omega))) (fun h_ H_ => exd_len Tryd.underlying22 rfl) (tm' := zq2 (zq16 (zq32 (zq32 (zq32 _))))) rfl ?_
     refine rl_det (ms rfl rfl (decide_eq_false (by have z_ := eF_.e; have z2_ := D.len; rw [z2_] at z_; omega))) (fun h_ H_ => exd_gtr rfl rfl) rfl ?_
     refine ro (exd_pick_f rfl (decide_eq_false (by have z_ := eF_.e; have z2_ := D.len; rw [z2_] at z_; omega)) (v := .bool (decide (40 < ((t.m : Nat) : Int)))) rfl) ?_
     refine rt (exd_move (v := .bool (decide (40 < ((t.m : Nat) : Int)))) rfl) (tm' := zq1 (zq4 (zq8 (zq32 (zq32 (zq32 (zq32 (zq32 [])))))))) rfl ?_
     refine rl_det (ms rfl rfl (decide_eq_false (by omega))) (fun h_ H_ => exd_loadN_own H_ tA25 tS25 rfl (i := 0) rfl (vs := [.slice a1 t.nH c1, .slice a2 t.nW c2, .slice a3 t.m c3]) rfl rfl) rfl ?_
     refine rl_det (ms rfl rfl (decide_eq_false (by omega))) (fun h_ H_ => exd_move (v := .slice a25 t.m cp26) rfl) rfl ?_
     refine rl_calld (ms rfl rfl (decide_eq_false (by omega))) (first := []) (cap := []) rfl rfl fC31 (fun h_ H_ => c31 .lone _ _ H_.pe _ _ _ _ _ _ _ _ _ t (show TownP _ _ _ _ _ _ _ t from ⟨(((T.h.mono le17).mono le22).mono le27), (((T.w.mono le17).mono le22).mono le27), (((T.y.mono le17).mono le22).mono le27)⟩) (by omega) _ _ _ _ (show Ints _ _ _ (fairP t none0) from D28) hV.wok) (tm' := zq1 (zq4 (zq8 (zq32 (zq32 (zq32 (zq32 (zq32 [])))))))) rfl ?_
     refine rl_det (ms rfl rfl (decide_eq_false (by omega))) (fun h_ H_ => exd_not rfl) rfl ?_
     refine ro (exd_pick_f rfl (decide_eq_false (by omega)) (v := .bool (!(decide (DivI t (fairP t none0))))) rfl) ?_
     refine rt (exd_move (v := .bool (!(decide (DivI t (fairP t none0))))) rfl) (tm' := zq1 (zq4 (zq8 (zq32 (zq32 (zq32 (zq32 (zq32 [])))))))) rfl ?_
     refine rl_det (ms rfl rfl (not_f (decide_eq_true aD_))) (fun h_ H_ => exd_loadN_own H_ tA25 tS25 rfl (i := 0) rfl (vs := [.slice a1 t.nH c1, .slice a2 t.nW c2, .slice a3 t.m c3]) rfl rfl) rfl ?_
     refine rl_det (ms rfl rfl (not_f (decide_eq_true aD_))) (fun h_ H_ => exd_move (v := .slice a25 t.m cp26) rfl) rfl ?_
     refine rl_own (L' := ([(b1, .cells #[.slice a1 t.nH c1, .slice a2 t.nW c2, .slice a3 t.m c3] 25 (0, 0))] : Pcs) ++ []) rfl ?_
     refine rl_call (ms rfl rfl (not_f (decide_eq_true aD_))) (first := []) (cap := []) rfl rfl fC45 (R := fun v_ h_ => ∃ w66 : Value, ∃ X67 : Pcs, v_ = w66 ∧ (OwnS 3 1 w66 (ics (lacks t (fairP t none0))) X67) ∧ St h [] p24 h_ (([(b1, .cells #[.slice a1 t.nH c1, .slice a2 t.nW c2, .slice a3 t.m c3] 25 (0, 0))] : Pcs) ++ (X67 ++ []))) (fun h_ H_ => (c45 .lone _ _ H_.pe _ _ _ _ _ _ _ _ _ t (show TownP _ _ _ _ _ _ _ t from ⟨(((T.h.mono le17).mono le22).mono le27), (((T.w.mono le17).mono le22).mono le27), (((T.y.mono le17).mono le22).mono le27)⟩) (by omega) _ _ _ _ (show Ints _ _ _ (fairP t none0) from D28) rfl (fun i hi => by have z_ := fairP_bd hO none_sg i hi; unfold dv; omega) hV.wok (fun i hi => by have z_ := hV.h i hi; omega)).mono fun v_ h2_ ⟨w66, X67, e_, o68, N_⟩ => ⟨w66, X67, e_, o68, H_.callNA N_⟩) fun v_ => ?_
     refine rl_ex fun w66 => rl_ex fun X67 => rl_and fun ev_ => rl_and fun o68 => ?_
     have ev_ := ev_.symm; subst ev_
     refine rl_own (L' := ([(b1, .cells #[.slice a1 t.nH c1, .slice a2 t.nW c2, .slice a3 t.m c3] 25 (0, 0))] : Pcs) ++ (X67 ++ [])) rfl ?_
     refine rl_norm (tm' := zq1 (zq4 (zq8 (zq32 (zq32 (zq32 (zq32 (zq32 [])))))))) rfl ?_
     refine rl_det (ms rfl rfl (not_f (decide_eq_true aD_))) (fun h_ H_ => exd_move (v := .slice a15 t.nH cp16) rfl) rfl ?_
     refine rl_lastN (A := ([(b1, .cells #[.slice a1 t.nH c1, .slice a2 t.nW c2, .slice a3 t.m c3] 25 (0, 0))] : Pcs)) o68 ((ics_length _).trans (lacks_len _ _)) fun p69 a70 cp71 le72 ev_ D73 => ?_
     subst ev_
     refine rl_own (L' := [(b1, .cells #[.slice a1 t.nH c1, .slice a2 t.nW c2, .slice a3 t.m c3] 25 (0, 0))]) rfl ?_
     refine rl_calld (ms rfl rfl (not_f (decide_eq_true aD_))) (first := []) (cap := []) rfl rfl fC27 (fun h_ H_ => c27 .lone _ _ H_.pe _ _ _ _ _ _ _ _ (show Ints _ _ _ (lacks t (fairP t none0)) from D73) ((((show Ints _ _ _ (LK t) from D18).mono le22).mono le27).mono le72) (by omega)) rfl ?_
     refine rl_det (ms rfl rfl (not_f (decide_eq_true aD_))) (fun h_ H_ => exd_not rfl) (tm' := zq1 (zq4 (zq8 (zq32 (zq32 (zq32 (zq32 (zq32 [])))))))) rfl ?_
     refine ro (exd_pick_f rfl (not_f (decide_eq_true aD_)) (v := .bool (!(decide ((lacks t (fairP t none0)) = (LK t))))) rfl) <| rl_end <| fl_else rfl (not_f (decide_eq_true rfl)) <| fl_skip <| fl_seq ?_
     obtain ⟨Gw76, GX77, hG4_⟩ := sk2 (fun (v_ : Value) (x_ : Pcs) (w76 : Value) (X77 : Pcs) => v_ = .tuple #[w76, .bool (true), .int .i64 0] ∧ (OwnS 3 1 w76 (ics (lacks t d)) X77) ∧ x_ = (X77 ++ []))
     refine rs_as (fl_mixed2 (C := []) (A := ([(b1, .cells #[.slice a1 t.nH c1, .slice a2 t.nW c2, .slice a3 t.m c3] 25 (0, 0))] : Pcs)) 11 [[], [], [], [], [], [4], [], [], [], [], [], []] [] [4] [0, 2, 5, 6, 7, 8, 9, 10] (fun _ => []) (fun i_ => match i_ with | 3 => [1] | 4 => [3] | _ => []) (fun i_ => match i_ with | 0 => [] | 1 => [] | 2 => [] | 3 => [1, 2] | 4 => [0, 3] | 5 => [4] | 6 => [4, 5] | 7 => [4, 5] | 8 => [4, 5] | 9 => [0, 1, 2, 3, 4, 5, 6] | 10 => [0, 1, 2, 3, 4, 5, 6, 7, 9] | _ => []) (fun i_ val_ pc_ v_ x_ => match i_ with | 0 => v_ = .agg #[.slice a1 t.nH c1, .slice a2 t.nW c2, .slice a3 t.m c3] ∧ x_ = [] | 1 => OwnS 3 1 v_ [] x_ | 2 => v_ = .slice b m cb ∧ x_ = [] | 3 => OwnS 3 1 v_ ([] ++ (d.map fun x => [Value.int .i64 x])) x_ | 4 => ∃ w76 : Value, ∃ X77 : Pcs, v_ = .tuple #[w76, .bool (true), .int .i64 0] ∧ (OwnS 3 1 w76 (ics (lacks t d)) X77) ∧ x_ = (X77 ++ []) | 5 => v_ = .tuple #[(Gw76 (val_ 4) (pc_ 4)), .bool (true), .int .i64 0] ∧ x_ = [] | 6 => v_ = (Gw76 (val_ 4) (pc_ 4)) ∧ x_ = [] | 7 => v_ = .bool (true) ∧ x_ = [] | 8 => v_ = .int .i64 0 ∧ x_ = [] | 9 => v_ = (Gw76 (val_ 4) (pc_ 4)) ∧ x_ = [] | 10 => v_ = .bool (true) ∧ x_ = [] | _ => True) (fun val74 => (.agg #[.slice a1 t.nH c1, .slice a2 t.nW c2, .slice a3 t.m c3]::.slice b m cb::.pointer (some ⟨b1, 0, none⟩)::undef::.bool (false)::.slice a15 t.nH cp16::.bool (true)::.slice a20 t.nH cp21::.int .i64 (worstV t)::.int .i64 0::.int .i64 (mostV t)::.int .i64 0::.slice a25 t.m cp26::.int .i64 0::(val74 9)::(val74 10)::zu4 (.agg #[.slice a1 t.nH c1, .slice a2 t.nW c2, .slice a3 t.m c3]::.bool (readyB t)::.bool (!(readyB t))::.bool (!(readyB t))::.slice b m cb::.int .i64 (((m : Nat) : Int))::.bool (decide (40 < ((m : Nat) : Int)))::.bool (decide (40 < ((m : Nat) : Int)))::.bool (decide (40 < ((m : Nat) : Int)))::.agg #[.slice a1 t.nH c1, .slice a2 t.nW c2, .slice a3 t.m c3]::.slice b m cb::.bool (decide (DivI t d))::.bool (!(decide (DivI t d)))::.bool (!(decide (DivI t d)))::undef::.tuple #[.slice a15 t.nH cp16, .bool (true)]::.agg #[.slice a1 t.nH c1, .slice a2 t.nW c2, .slice a3 t.m c3]::.tuple #[.slice a15 t.nH cp16, .bool (true)]::.slice a15 t.nH cp16::.bool (true)::.agg #[.slice a1 t.nH c1, .slice a2 t.nW c2, .slice a3 t.m c3]::.slice b m cb::.slice a20 t.nH cp21::.tuple #[.int .i64 (worstV t), .int .i64 0]::.agg #[.slice a1 t.nH c1, .slice a2 t.nW c2, .slice a3 t.m c3]::.tuple #[.int .i64 (worstV t), .int .i64 0]::.int .i64 (worstV t)::.int .i64 0::.tuple #[.int .i64 (mostV t), .int .i64 0]::.agg #[.slice a1 t.nH c1, .slice a2 t.nW c2, .slice a3 t.m c3]::.tuple #[.int .i64 (mostV t), .int .i64 0]::.int .i64 (mostV t)::.int .i64 0::.tuple #[.slice a25 t.m cp26, .int .i64 0]::.agg #[.slice a1 t.nH c1, .slice a2 t.nW c2, .slice a3 t.m c3]::.tuple #[.slice a25 t.m cp26, .int .i64 0]::.slice a25 t.m cp26::.int .i64 0::.bool (true)::.bool (!true)::.bool (!true)::.int .i64 0::.bool (decide ((0 : Int) ≠ 0))::.bool (decide ((0 : Int) ≠ 0))::.bool (decide ((0 : Int) ≠ 0))::.int .i64 0::.bool (decide ((0 : Int) ≠ 0))::.bool (decide ((0 : Int) ≠ 0))::.bool (decide ((0 : Int) ≠ 0))::.int .i64 0::.bool (decide ((0 : Int) ≠ 0))::.bool (decide ((0 : Int) ≠ 0))::.bool (decide ((0 : Int) ≠ 0))::.slice a20 t.nH cp21::.slice a15 t.nH cp16::.bool (decide (earlier (lacks t d) (LK t) = true))::.bool (decide (earlier (lacks t d) (LK t) = true))::.bool (decide (earlier (lacks t d) (LK t) = true))::.slice a15 t.nH cp16::.int .i64 (((t.nH : Nat) : Int))::.bool (decide (0 < ((t.nH : Nat) : Int)))::.bool (decide (0 < ((t.nH : Nat) : Int)))::zu4 (zu8 (.bool (false)::.bool (false)::.bool (false)::.slice a15 t.nH cp16::.int .i64 (((t.nH : Nat) : Int))::.bool (decide (((t.nH : Nat) : Int) = 0))::.bool (decide (((t.nH : Nat) : Int) = 0))::.int .i64 (worstV t)::.bool (decide (worstV t ≠ 0))::.bool (decide (worstV t ≠ 0))::.bool (decide (worstV t ≠ 0))::.bool (decide (worstV t ≠ 0))::.slice b m cb::.int .i64 (sm m (dv d))::.int .i64 (mostV t)::.bool (decide (mostV t < sm m (dv d)))::.bool (decide (mostV t < sm m (dv d)))::.bool (decide (mostV t < sm m (dv d)))::.slice a25 t.m cp26::.int .i64 (((t.m : Nat) : Int))::.bool (decide (40 < ((t.m : Nat) : Int)))::.bool (decide (40 < ((t.m : Nat) : Int)))::.bool (decide (40 < ((t.m : Nat) : Int)))::.agg #[.slice a1 t.nH c1, .slice a2 t.nW c2, .slice a3 t.m c3]::.slice a25 t.m cp26::.bool (decide (DivI t (fairP t none0)))::.bool (!(decide (DivI t (fairP t none0))))::.bool (!(decide (DivI t (fairP t none0))))::.bool (!(decide (DivI t (fairP t none0))))::.agg #[.slice a1 t.nH c1, .slice a2 t.nW c2, .slice a3 t.m c3]::.slice a25 t.m cp26::.slice a70 t.nH cp71::.slice a15 t.nH cp16::.bool (decide ((lacks t (fairP t none0)) = (LK t)))::.bool (!(decide ((lacks t (fairP t none0)) = (LK t))))::.bool (!(decide ((lacks t (fairP t none0)) = (LK t))))::(val74 5)::(val74 0)::(val74 1)::(val74 2)::(val74 3)::(val74 4)::(val74 6)::(val74 7)::(val74 8)::undef::undef::zu16 (zu16 [])))))) mixed (by kernel_rfl) (Nat.le_of_ble_eq_true rfl) (by kernel_rfl) (by kernel_rfl) (by kernel_rfl) (fun _ _ => ⟨fun _ _ h => h.2, ⟨fun _ _ h => h.2, ⟨fun _ _ h => h.2, ⟨fun _ _ h => h.2, ⟨fun _ _ h => h.2, ⟨fun _ _ h => h.2, ⟨fun _ _ h => h.2, ⟨fun _ _ h => h.2, trivial⟩⟩⟩⟩⟩⟩⟩⟩) (fun _ => by kernel_rfl) (by kernel_rfl) ?_ ?_) (fun h_ H_ => St.swap (A := ([(b1, .cells #[.slice a1 t.nH c1, .slice a2 t.nW c2, .slice a3 t.m c3] 25 (0, 0))] : Pcs)) (U := []) H_)
     ·
      refine mixes_cons rfl (opmix2 ?_) ?_
      ·
       intro val74 pc75 hQ_ hX_
       obtain ⟨q_, hq0_⟩ : ∃ q_ : Value → Pcs → Prop, q_ = (fun v_ x_ => v_ = .agg #[.slice a1 t.nH c1, .slice a2 t.nW c2, .slice a3 t.m c3] ∧ x_ = []) := ⟨_, rfl⟩
       refine ⟨(zq1 (zq4 (zq8 (zq32 (zq32 (zq32 (zq32 (zq32 [])))))))), [], q_, rfl, rfl, (fun _ _ z_ => by subst hq0_; exact z_), ?_⟩
       subst hq0_
       exact mix_det mn (fun _ h_ H_ => exd_loadN_own H_ tA25 tS25 rfl (i := 0) rfl (vs := [.slice a1 t.nH c1, .slice a2 t.nW c2, .slice a3 t.m c3]) rfl rfl) ⟨rfl, rfl⟩
      refine mixes_cons rfl (opmix2 ?_) ?_
      ·
       intro val74 pc75 hQ_ hX_
       obtain ⟨q_, hq0_⟩ : ∃ q_ : Value → Pcs → Prop, q_ = (fun v_ x_ => OwnS 3 1 v_ [] x_) := ⟨_, rfl⟩
       refine ⟨(zq1 (zq4 (zq8 (zq32 (zq32 (zq32 (zq32 (zq32 [])))))))), [], q_, rfl, rfl, (fun _ _ z_ => by subst hq0_; exact z_), ?_⟩
       subst hq0_
       exact mix_buildO mn Tryd.underlying22 tS3 tZ3 (Nat.le_of_ble_eq_true rfl) (vs := []) rfl rfl (es := []) rfl rfl rfl fun _ _ o_ => o_
      refine mixes_cons rfl (opmix2 ?_) ?_
      ·
       intro val74 pc75 hQ_ hX_
       obtain ⟨q_, hq0_⟩ : ∃ q_ : Value → Pcs → Prop, q_ = (fun v_ x_ => v_ = .slice b m cb ∧ x_ = []) := ⟨_, rfl⟩
       refine ⟨(zq1 (zq4 (zq8 (zq32 (zq32 (zq32 (zq32 (zq32 [])))))))), [], q_, rfl, rfl, (fun _ _ z_ => by subst hq0_; exact z_), ?_⟩
       subst hq0_
       exact mix_det mn (fun _ h_ H_ => exd_move (v := .slice b m cb) rfl) ⟨rfl, rfl⟩
      refine mixes_cons rfl (opmix2 ?_) ?_
      ·
       intro val74 pc75 hQ_ hX_
       have q1_ : OwnS 3 1 (val74 1) [] (pc75 1) := hQ_ 1 rfl
       have e2_ : val74 2 = .slice b m cb := (hQ_ 2 rfl).1
       obtain ⟨q_, hq0_⟩ : ∃ q_ : Value → Pcs → Prop, q_ = (fun v_ x_ => OwnS 3 1 v_ ([] ++ (d.map fun x => [Value.int .i64 x])) x_) := ⟨_, rfl⟩
       refine ⟨(zq1 (zq4 (zq8 (zq32 (zq32 (zq32 (zq32 (zq32 [])))))))), ((pc75 1) ++ []), q_, (by rw [e2_]), rfl, (fun _ _ z_ => by subst hq0_; exact z_), ?_⟩
       subst hq0_
       exact mix_appendP mn Tryd.underlying22 tS3 tZ3 rfl tB3 Tryd.underlying22 rfl rfl q1_ ((((D.mono le17).mono le22).mono le27).mono le72) (ints_ones _) (by simp only [List.length_nil]; omega) (by decide) (by decide) fun _ _ o_ => o_
      refine mixes_cons rfl (opmix2 ?_) ?_
      ·
       intro val74 pc75 hQ_ hX_
       have e0_ : val74 0 = .agg #[.slice a1 t.nH c1, .slice a2 t.nW c2, .slice a3 t.m c3] := (hQ_ 0 rfl).1
       have q3_ : OwnS 3 1 (val74 3) ([] ++ (d.map fun x => [Value.int .i64 x])) (pc75 3) := hQ_ 3 rfl
       obtain ⟨q_, hq0_⟩ : ∃ q_ : Value → Pcs → Prop, q_ = (fun v_ x_ => ∃ w76 : Value, ∃ X77 : Pcs, v_ = .tuple #[w76, .bool (true), .int .i64 0] ∧ (OwnS 3 1 w76 (ics (lacks t d)) X77) ∧ x_ = (X77 ++ [])) := ⟨_, rfl⟩
       refine ⟨(zq1 (zq4 (zq8 (zq32 (zq32 (zq32 (zq32 (zq32 [])))))))), ((pc75 3) ++ []), q_, (by rw [e0_]), rfl, (fun _ _ z_ => by subst hq0_; exact z_), ?_⟩
       subst hq0_
       exact mix_call mn (first := []) (cap := []) rfl rfl fC49 (fun _ h_ H_ => good_lent .lone (show TownP _ _ _ _ _ _ _ t from ⟨((((T.h.mono le17).mono le22).mono le27).mono le72), ((((T.w.mono le17).mono le22).mono le27).mono le72), ((((T.y.mono le17).mono le22).mono le27).mono le72)⟩) (by omega) hc_ (show OwnS 3 1 _ (ics d) _ from q3_) ((ics_length _).trans D.len) (by omega) hD_ (fun x_ h_ => by simp [h_]) H_)
      refine mixes_cons rfl (opmix2 ?_) ?_
      ·
       intro val74 pc75 hQ_ hX_
       obtain ⟨e4_, o78, x4_⟩ := hG4_ _ _ (hQ_ 4 rfl)
       generalize hg_w76 : Gw76 (val74 4) (pc75 4) = w76 at *
       generalize hg_X77 : GX77 (val74 4) (pc75 4) = X77 at *
       obtain ⟨q_, hq0_⟩ : ∃ q_ : Value → Pcs → Prop, q_ = (fun v_ x_ => v_ = .tuple #[w76, .bool (true), .int .i64 0] ∧ x_ = []) := ⟨_, rfl⟩
       refine ⟨(zq1 (zq4 (zq8 (zq32 (zq32 (zq32 (zq32 (zq32 [])))))))), [], q_, (by rw [e4_]), rfl, (fun _ _ z_ => by subst hq0_ hg_w76 hg_X77; exact z_), ?_⟩
       subst hq0_
       exact mix_det mn (fun _ h_ H_ => exd_move (v := .tuple #[w76, .bool (true), .int .i64 0]) rfl) ⟨rfl, rfl⟩
      refine mixes_cons rfl (opmix2 ?_) ?_
      ·
       intro val74 pc75 hQ_ hX_
       obtain ⟨e4_, o78, x4_⟩ := hG4_ _ _ (hQ_ 4 rfl)
       have e5_ : val74 5 = .tuple #[(Gw76 (val74 4) (pc75 4)), .bool (true), .int .i64 0] := (hQ_ 5 rfl).1
       generalize hg_w76 : Gw76 (val74 4) (pc75 4) = w76 at *
       generalize hg_X77 : GX77 (val74 4) (pc75 4) = X77 at *
       obtain ⟨q_, hq0_⟩ : ∃ q_ : Value → Pcs → Prop, q_ = (fun v_ x_ => v_ = w76 ∧ x_ = []) := ⟨_, rfl⟩
       refine ⟨(zq1 (zq4 (zq8 (zq32 (zq32 (zq32 (zq32 (zq32 [])))))))), [], q_, (by rw [e4_, e5_]), rfl, (fun _ _ z_ => by subst hq0_ hg_w76 hg_X77; exact z_), ?_⟩
       subst hq0_
       exact mix_det mn (fun _ h_ H_ => exd_extract rfl (v := w76) rfl) ⟨rfl, rfl⟩
      refine mixes_cons rfl (opmix2 ?_) ?_
      ·
       intro val74 pc75 hQ_ hX_
       obtain ⟨e4_, o78, x4_⟩ := hG4_ _ _ (hQ_ 4 rfl)
       have e5_ : val74 5 = .tuple #[(Gw76 (val74 4) (pc75 4)), .bool (true), .int .i64 0] := (hQ_ 5 rfl).1
       generalize hg_w76 : Gw76 (val74 4) (pc75 4) = w76 at *
       generalize hg_X77 : GX77 (val74 4) (pc75 4) = X77 at *
       obtain ⟨q_, hq0_⟩ : ∃ q_ : Value → Pcs → Prop, q_ = (fun v_ x_ => v_ = .bool (true) ∧ x_ = []) := ⟨_, rfl⟩
       refine ⟨(zq1 (zq4 (zq8 (zq32 (zq32 (zq32 (zq32 (zq32 [])))))))), [], q_, (by rw [e4_, e5_]), rfl, (fun _ _ z_ => by subst hq0_ hg_w76 hg_X77; exact z_), ?_⟩
       subst hq0_
       exact mix_det mn (fun _ h_ H_ => exd_extract rfl (v := .bool (true)) rfl) ⟨rfl, rfl⟩
      refine mixes_cons rfl (opmix2 ?_) ?_
      ·
       intro val74 pc75 hQ_ hX_
       obtain ⟨e4_, o78, x4_⟩ := hG4_ _ _ (hQ_ 4 rfl)
       have e5_ : val74 5 = .tuple #[(Gw76 (val74 4) (pc75 4)), .bool (true), .int .i64 0] := (hQ_ 5 rfl).1
       generalize hg_w76 : Gw76 (val74 4) (pc75 4) = w76 at *
       generalize hg_X77 : GX77 (val74 4) (pc75 4) = X77 at *
       obtain ⟨q_, hq0_⟩ : ∃ q_ : Value → Pcs → Prop, q_ = (fun v_ x_ => v_ = .int .i64 0 ∧ x_ = []) := ⟨_, rfl⟩
       refine ⟨(zq1 (zq4 (zq8 (zq32 (zq32 (zq32 (zq32 (zq32 [])))))))), [], q_, (by rw [e4_, e5_]), rfl, (fun _ _ z_ => by subst hq0_ hg_w76 hg_X77; exact z_), ?_⟩
       subst hq0_
       exact mix_det mn (fun _ h_ H_ => exd_extract rfl (v := .int .i64 0) rfl) ⟨rfl, rfl⟩
      refine mixes_cons rfl (opmix2 ?_) ?_
      ·
       intro val74 pc75 hQ_ hX_
       have e0_ : val74 0 = .agg #[.slice a1 t.nH c1, .slice a2 t.nW c2, .slice a3 t.m c3] := (hQ_ 0 rfl).1
       have q1_ : OwnS 3 1 (val74 1) [] (pc75 1) := hQ_ 1 rfl
       have e2_ : val74 2 = .slice b m cb := (hQ_ 2 rfl).1
       have q3_ : OwnS 3 1 (val74 3) ([] ++ (d.map fun x => [Value.int .i64 x])) (pc75 3) := hQ_ 3 rfl
       obtain ⟨e4_, o78, x4_⟩ := hG4_ _ _ (hQ_ 4 rfl)
       have e5_ : val74 5 = .tuple #[(Gw76 (val74 4) (pc75 4)), .bool (true), .int .i64 0] := (hQ_ 5 rfl).1
       have e6_ : val74 6 = (Gw76 (val74 4) (pc75 4)) := (hQ_ 6 rfl).1
       generalize hg_w76 : Gw76 (val74 4) (pc75 4) = w76 at *
       generalize hg_X77 : GX77 (val74 4) (pc75 4) = X77 at *
       obtain ⟨q_, hq0_⟩ : ∃ q_ : Value → Pcs → Prop, q_ = (fun v_ x_ => v_ = w76 ∧ x_ = []) := ⟨_, rfl⟩
       refine ⟨(zq1 (zq4 (zq8 (zq32 (zq32 (zq32 (zq32 (zq32 [])))))))), [], q_, (by rw [e0_, e2_, e4_, e5_, e6_]), rfl, (fun _ _ z_ => by subst hq0_ hg_w76 hg_X77; exact z_), ?_⟩
       subst hq0_
       exact mix_det mn (fun _ h_ H_ => exd_assign (v := w76) rfl) ⟨rfl, rfl⟩
      refine mixes_cons rfl (opmix2 ?_) ?_
      ·
       intro val74 pc75 hQ_ hX_
       have e0_ : val74 0 = .agg #[.slice a1 t.nH c1, .slice a2 t.nW c2, .slice a3 t.m c3] := (hQ_ 0 rfl).1
       have q1_ : OwnS 3 1 (val74 1) [] (pc75 1) := hQ_ 1 rfl
       have e2_ : val74 2 = .slice b m cb := (hQ_ 2 rfl).1
       have q3_ : OwnS 3 1 (val74 3) ([] ++ (d.map fun x => [Value.int .i64 x])) (pc75 3) := hQ_ 3 rfl
       obtain ⟨e4_, o78, x4_⟩ := hG4_ _ _ (hQ_ 4 rfl)
       have e5_ : val74 5 = .tuple #[(Gw76 (val74 4) (pc75 4)), .bool (true), .int .i64 0] := (hQ_ 5 rfl).1
       have e6_ : val74 6 = (Gw76 (val74 4) (pc75 4)) := (hQ_ 6 rfl).1
       have e7_ : val74 7 = .bool (true) := (hQ_ 7 rfl).1
       have e9_ : val74 9 = (Gw76 (val74 4) (pc75 4)) := (hQ_ 9 rfl).1
       generalize hg_w76 : Gw76 (val74 4) (pc75 4) = w76 at *
       generalize hg_X77 : GX77 (val74 4) (pc75 4) = X77 at *
       obtain ⟨q_, hq0_⟩ : ∃ q_ : Value → Pcs → Prop, q_ = (fun v_ x_ => v_ = .bool (true) ∧ x_ = []) := ⟨_, rfl⟩
       refine ⟨(zq1 (zq4 (zq8 (zq32 (zq32 (zq32 (zq32 (zq32 [])))))))), [], q_, (by rw [e0_, e2_, e4_, e5_, e6_, e7_, e9_]), rfl, (fun _ _ z_ => by subst hq0_ hg_w76 hg_X77; exact z_), ?_⟩
       subst hq0_
       exact mix_det mn (fun _ h_ H_ => exd_assign (v := .bool (true)) rfl) ⟨rfl, rfl⟩
      exact mixes_nil rfl
     intro val74 pc75 hQ_ hX_
     have e0_ : val74 0 = .agg #[.slice a1 t.nH c1, .slice a2 t.nW c2, .slice a3 t.m c3] := (hQ_ 0 (by decide)).1
     have e2_ : val74 2 = .slice b m cb := (hQ_ 2 (by decide)).1
     obtain ⟨e4_, o78, x4_⟩ := hG4_ _ _ (hQ_ 4 (by decide))
     have e5_ : val74 5 = .tuple #[(Gw76 (val74 4) (pc75 4)), .bool (true), .int .i64 0] := (hQ_ 5 (by decide)).1
     have e6_ : val74 6 = (Gw76 (val74 4) (pc75 4)) := (hQ_ 6 (by decide)).1
     have e7_ : val74 7 = .bool (true) := (hQ_ 7 (by decide)).1
     have e8_ : val74 8 = .int .i64 0 := (hQ_ 8 (by decide)).1
     have e9_ : val74 9 = (Gw76 (val74 4) (pc75 4)) := (hQ_ 9 (by decide)).1
     have e10_ : val74 10 = .bool (true) := (hQ_ 10 (by decide)).1
     clear hQ_ hX_
     generalize Gw76 (val74 4) (pc75 4) = w76 at *
     generalize GX77 (val74 4) (pc75 4) = X77 at *
     refine rl_as (Φ := fun h_ => St h [] p69 h_ (([(b1, .cells #[.slice a1 t.nH c1, .slice a2 t.nW c2, .slice a3 t.m c3] 25 (0, 0))] : Pcs) ++ (pc75 4 ++ []))) ?_ (fun h_ H_ => H_.swap')
     rw [x4_]
     refine rl_own (L' := ([(b1, .cells #[.slice a1 t.nH c1, .slice a2 t.nW c2, .slice a3 t.m c3] 25 (0, 0))] : Pcs) ++ (X77 ++ [])) (by simp) ?_
     refine rl_norm (tm' := (zq1 (zq4 (zq8 (zq32 (zq32 (zq32 (zq32 (zq32 []))))))))) (by rw [e0_, e2_, e4_, e5_, e6_, e7_, e8_, e9_, e10_]) ?_
     refine rt (exd_assign (v := .int .i64 0) rfl) (tm' := zq1 (zq16 _)) rfl <| ren ?_
     obtain ⟨Gw85, GX86, hG4_⟩ := sk2 (fun (v_ : Value) (x_ : Pcs) (w85 : Value) (X86 : Pcs) => v_ = .tuple #[w85, .bool (true), .int .i64 0] ∧ (OwnS 3 1 w85 (ics (lacks t (fairP t none0))) X86) ∧ x_ = (X86 ++ []))
     refine rs_as (fl_mixed2 (C := []) (A := ([(b1, .cells #[.slice a1 t.nH c1, .slice a2 t.nW c2, .slice a3 t.m c3] 25 (0, 0))] : Pcs)) 11 [[], [], [], [], [], [4], [], [], [], [], [], []] [11] [11, 4] [0, 2, 5, 6, 7, 8, 9, 10] (fun i_ => match i_ with | 11 => X77 | _ => []) (fun i_ => match i_ with | 3 => [1] | 4 => [3] | _ => []) (fun i_ => match i_ with | 0 => [] | 1 => [] | 2 => [] | 3 => [1, 2] | 4 => [0, 3] | 5 => [4] | 6 => [4, 5] | 7 => [4, 5] | 8 => [4, 5] | 9 => [0, 1, 2, 3, 4, 5, 6] | 10 => [0, 1, 2, 3, 4, 5, 6, 7, 9] | _ => []) (fun i_ val_ pc_ v_ x_ => match i_ with | 0 => v_ = .agg #[.slice a1 t.nH c1, .slice a2 t.nW c2, .slice a3 t.m c3] ∧ x_ = [] | 1 => OwnS 3 1 v_ [] x_ | 2 => v_ = .slice a25 t.m cp26 ∧ x_ = [] | 3 => OwnS 3 1 v_ ([] ++ ((fairP t none0).map fun x => [Value.int .i64 x])) x_ | 4 => ∃ w85 : Value, ∃ X86 : Pcs, v_ = .tuple #[w85, .bool (true), .int .i64 0] ∧ (OwnS 3 1 w85 (ics (lacks t (fairP t none0))) X86) ∧ x_ = (X86 ++ []) | 5 => v_ = .tuple #[(Gw85 (val_ 4) (pc_ 4)), .bool (true), .int .i64 0] ∧ x_ = [] | 6 => v_ = (Gw85 (val_ 4) (pc_ 4)) ∧ x_ = [] | 7 => v_ = .bool (true) ∧ x_ = [] | 8 => v_ = .int .i64 0 ∧ x_ = [] | 9 => v_ = (Gw85 (val_ 4) (pc_ 4)) ∧ x_ = [] | 10 => v_ = .bool (true) ∧ x_ = [] | _ => True) (fun val83 => (.agg #[.slice a1 t.nH c1, .slice a2 t.nW c2, .slice a3 t.m c3]::.slice b m cb::.pointer (some ⟨b1, 0, none⟩)::undef::.bool (false)::.slice a15 t.nH cp16::.bool (true)::.slice a20 t.nH cp21::.int .i64 (worstV t)::.int .i64 0::.int .i64 (mostV t)::.int .i64 0::.slice a25 t.m cp26::.int .i64 0::w76::.bool (true)::.int .i64 0::(val83 9)::(val83 10)::undef::.agg #[.slice a1 t.nH c1, .slice a2 t.nW c2, .slice a3 t.m c3]::.bool (readyB t)::.bool (!(readyB t))::.bool (!(readyB t))::.slice b m cb::.int .i64 (((m : Nat) : Int))::.bool (decide (40 < ((m : Nat) : Int)))::.bool (decide (40 < ((m : Nat) : Int)))::.bool (decide (40 < ((m : Nat) : Int)))::.agg #[.slice a1 t.nH c1, .slice a2 t.nW c2, .slice a3 t.m c3]::.slice b m cb::.bool (decide (DivI t d))::.bool (!(decide (DivI t d)))::.bool (!(decide (DivI t d)))::undef::.tuple #[.slice a15 t.nH cp16, .bool (true)]::.agg #[.slice a1 t.nH c1, .slice a2 t.nW c2, .slice a3 t.m c3]::.tuple #[.slice a15 t.nH cp16, .bool (true)]::.slice a15 t.nH cp16::.bool (true)::.agg #[.slice a1 t.nH c1, .slice a2 t.nW c2, .slice a3 t.m c3]::.slice b m cb::.slice a20 t.nH cp21::.tuple #[.int .i64 (worstV t), .int .i64 0]::.agg #[.slice a1 t.nH c1, .slice a2 t.nW c2, .slice a3 t.m c3]::.tuple #[.int .i64 (worstV t), .int .i64 0]::.int .i64 (worstV t)::.int .i64 0::.tuple #[.int .i64 (mostV t), .int .i64 0]::.agg #[.slice a1 t.nH c1, .slice a2 t.nW c2, .slice a3 t.m c3]::.tuple #[.int .i64 (mostV t), .int .i64 0]::.int .i64 (mostV t)::.int .i64 0::.tuple #[.slice a25 t.m cp26, .int .i64 0]::.agg #[.slice a1 t.nH c1, .slice a2 t.nW c2, .slice a3 t.m c3]::.tuple #[.slice a25 t.m cp26, .int .i64 0]::.slice a25 t.m cp26::.int .i64 0::.bool (true)::.bool (!true)::.bool (!true)::.int .i64 0::.bool (decide ((0 : Int) ≠ 0))::.bool (decide ((0 : Int) ≠ 0))::.bool (decide ((0 : Int) ≠ 0))::.int .i64 0::.bool (decide ((0 : Int) ≠ 0))::.bool (decide ((0 : Int) ≠ 0))::.bool (decide ((0 : Int) ≠ 0))::.int .i64 0::.bool (decide ((0 : Int) ≠ 0))::.bool (decide ((0 : Int) ≠ 0))::.bool (decide ((0 : Int) ≠ 0))::.slice a20 t.nH cp21::.slice a15 t.nH cp16::.bool (decide (earlier (lacks t d) (LK t) = true))::.bool (decide (earlier (lacks t d) (LK t) = true))::.bool (decide (earlier (lacks t d) (LK t) = true))::.slice a15 t.nH cp16::.int .i64 (((t.nH : Nat) : Int))::.bool (decide (0 < ((t.nH : Nat) : Int)))::.bool (decide (0 < ((t.nH : Nat) : Int)))::zu4 (zu8 (.bool (false)::.bool (false)::.bool (false)::.slice a15 t.nH cp16::.int .i64 (((t.nH : Nat) : Int))::.bool (decide (((t.nH : Nat) : Int) = 0))::.bool (decide (((t.nH : Nat) : Int) = 0))::.int .i64 (worstV t)::.bool (decide (worstV t ≠ 0))::.bool (decide (worstV t ≠ 0))::.bool (decide (worstV t ≠ 0))::.bool (decide (worstV t ≠ 0))::.slice b m cb::.int .i64 (sm m (dv d))::.int .i64 (mostV t)::.bool (decide (mostV t < sm m (dv d)))::.bool (decide (mostV t < sm m (dv d)))::.bool (decide (mostV t < sm m (dv d)))::.slice a25 t.m cp26::.int .i64 (((t.m : Nat) : Int))::.bool (decide (40 < ((t.m : Nat) : Int)))::.bool (decide (40 < ((t.m : Nat) : Int)))::.bool (decide (40 < ((t.m : Nat) : Int)))::.agg #[.slice a1 t.nH c1, .slice a2 t.nW c2, .slice a3 t.m c3]::.slice a25 t.m cp26::.bool (decide (DivI t (fairP t none0)))::.bool (!(decide (DivI t (fairP t none0))))::.bool (!(decide (DivI t (fairP t none0))))::.bool (!(decide (DivI t (fairP t none0))))::.agg #[.slice a1 t.nH c1, .slice a2 t.nW c2, .slice a3 t.m c3]::.slice a25 t.m cp26::.slice a70 t.nH cp71::.slice a15 t.nH cp16::.bool (decide ((lacks t (fairP t none0)) = (LK t)))::.bool (!(decide ((lacks t (fairP t none0)) = (LK t))))::.bool (!(decide ((lacks t (fairP t none0)) = (LK t))))::.tuple #[w76, .bool (true), .int .i64 0]::.agg #[.slice a1 t.nH c1, .slice a2 t.nW c2, .slice a3 t.m c3]::(val74 1)::.slice b m cb::(val74 3)::.tuple #[w76, .bool (true), .int .i64 0]::w76::.bool (true)::.int .i64 0::(val83 5)::(val83 0)::(val83 1)::(val83 2)::(val83 3)::(val83 4)::(val83 6)::(val83 7)::(val83 8)::undef::zu8 (zu16 []))))) mixed (by kernel_rfl) (Nat.le_of_ble_eq_true rfl) (by kernel_rfl) (by kernel_rfl) (by kernel_rfl) (fun _ _ => ⟨fun _ _ h => h.2, ⟨fun _ _ h => h.2, ⟨fun _ _ h => h.2, ⟨fun _ _ h => h.2, ⟨fun _ _ h => h.2, ⟨fun _ _ h => h.2, ⟨fun _ _ h => h.2, ⟨fun _ _ h => h.2, trivial⟩⟩⟩⟩⟩⟩⟩⟩) (fun _ => by kernel_rfl) (by kernel_rfl) ?_ ?_) (fun h_ H_ => St.swap (A := ([(b1, .cells #[.slice a1 t.nH c1, .slice a2 t.nW c2, .slice a3 t.m c3] 25 (0, 0))] : Pcs)) (U := (X77 ++ [])) H_)
     ·
      refine mixes_cons rfl (opmix2 ?_) ?_
      ·
       intro val83 pc84 hQ_ hX_
       obtain ⟨q_, hq0_⟩ : ∃ q_ : Value → Pcs → Prop, q_ = (fun v_ x_ => v_ = .agg #[.slice a1 t.nH c1, .slice a2 t.nW c2, .slice a3 t.m c3] ∧ x_ = []) := ⟨_, rfl⟩
       refine ⟨(zq1 (zq4 (zq8 (zq32 (zq32 (zq32 (zq32 (zq32 [])))))))), [], q_, rfl, rfl, (fun _ _ z_ => by subst hq0_; exact z_), ?_⟩
       subst hq0_
       exact mix_det mn (fun _ h_ H_ => exd_loadN_own H_ tA25 tS25 rfl (i := 0) rfl (vs := [.slice a1 t.nH c1, .slice a2 t.nW c2, .slice a3 t.m c3]) rfl rfl) ⟨rfl, rfl⟩
      refine mixes_cons rfl (opmix2 ?_) ?_
      ·
       intro val83 pc84 hQ_ hX_
       obtain ⟨q_, hq0_⟩ : ∃ q_ : Value → Pcs → Prop, q_ = (fun v_ x_ => OwnS 3 1 v_ [] x_) := ⟨_, rfl⟩
       refine ⟨(zq1 (zq4 (zq8 (zq32 (zq32 (zq32 (zq32 (zq32 [])))))))), [], q_, rfl, rfl, (fun _ _ z_ => by subst hq0_; exact z_), ?_⟩
       subst hq0_
       exact mix_buildO mn Tryd.underlying22 tS3 tZ3 (Nat.le_of_ble_eq_true rfl) (vs := []) rfl rfl (es := []) rfl rfl rfl fun _ _ o_ => o_
      refine mixes_cons rfl (opmix2 ?_) ?_
      ·
       intro val83 pc84 hQ_ hX_
       obtain ⟨q_, hq0_⟩ : ∃ q_ : Value → Pcs → Prop, q_ = (fun v_ x_ => v_ = .slice a25 t.m cp26 ∧ x_ = []) := ⟨_, rfl⟩
       refine ⟨(zq1 (zq4 (zq8 (zq32 (zq32 (zq32 (zq32 (zq32 [])))))))), [], q_, rfl, rfl, (fun _ _ z_ => by subst hq0_; exact z_), ?_⟩
       subst hq0_
       exact mix_det mn (fun _ h_ H_ => exd_move (v := .slice a25 t.m cp26) rfl) ⟨rfl, rfl⟩
      refine mixes_cons rfl (opmix2 ?_) ?_
      ·
       intro val83 pc84 hQ_ hX_
       have q1_ : OwnS 3 1 (val83 1) [] (pc84 1) := hQ_ 1 rfl
       have e2_ : val83 2 = .slice a25 t.m cp26 := (hQ_ 2 rfl).1
       obtain ⟨q_, hq0_⟩ : ∃ q_ : Value → Pcs → Prop, q_ = (fun v_ x_ => OwnS 3 1 v_ ([] ++ ((fairP t none0).map fun x => [Value.int .i64 x])) x_) := ⟨_, rfl⟩
       refine ⟨(zq1 (zq4 (zq8 (zq32 (zq32 (zq32 (zq32 (zq32 [])))))))), ((pc84 1) ++ []), q_, (by rw [e2_]), rfl, (fun _ _ z_ => by subst hq0_; exact z_), ?_⟩
       subst hq0_
       exact mix_appendP mn Tryd.underlying22 tS3 tZ3 rfl tB3 Tryd.underlying22 rfl rfl q1_ ((show Ints _ _ _ (fairP t none0) from D28).mono le72) (ints_ones _) (by simp only [List.length_nil]; omega) (by decide) (by decide) fun _ _ o_ => o_
      refine mixes_cons rfl (opmix2 ?_) ?_
      ·
       intro val83 pc84 hQ_ hX_
       have e0_ : val83 0 = .agg #[.slice a1 t.nH c1, .slice a2 t.nW c2, .slice a3 t.m c3] := (hQ_ 0 rfl).1
       have q3_ : OwnS 3 1 (val83 3) ([] ++ ((fairP t none0).map fun x => [Value.int .i64 x])) (pc84 3) := hQ_ 3 rfl
       obtain ⟨q_, hq0_⟩ : ∃ q_ : Value → Pcs → Prop, q_ = (fun v_ x_ => ∃ w85 : Value, ∃ X86 : Pcs, v_ = .tuple #[w85, .bool (true), .int .i64 0] ∧ (OwnS 3 1 w85 (ics (lacks t (fairP t none0))) X86) ∧ x_ = (X86 ++ [])) := ⟨_, rfl⟩
       refine ⟨(zq1 (zq4 (zq8 (zq32 (zq32 (zq32 (zq32 (zq32 [])))))))), ((pc84 3) ++ []), q_, (by rw [e0_]), rfl, (fun _ _ z_ => by subst hq0_; exact z_), ?_⟩
       subst hq0_
       exact mix_call mn (first := []) (cap := []) rfl rfl fC49 (fun _ h_ H_ => good_lent .lone (show TownP _ _ _ _ _ _ _ t from ⟨((((T.h.mono le17).mono le22).mono le27).mono le72), ((((T.w.mono le17).mono le22).mono le27).mono le72), ((((T.y.mono le17).mono le22).mono le27).mono le72)⟩) (by omega) hc_ (show OwnS 3 1 _ (ics (fairP t none0)) _ from q3_) ((ics_length _).trans (fairP_len _ _)) (by omega) aD_ (fun x_ h_ => by simp [h_]) H_)
      refine mixes_cons rfl (opmix2 ?_) ?_
      ·
       intro val83 pc84 hQ_ hX_
       obtain ⟨e4_, o87, x4_⟩ := hG4_ _ _ (hQ_ 4 rfl)
       generalize hg_w85 : Gw85 (val83 4) (pc84 4) = w85 at *
       generalize hg_X86 : GX86 (val83 4) (pc84 4) = X86 at *
       obtain ⟨q_, hq0_⟩ : ∃ q_ : Value → Pcs → Prop, q_ = (fun v_ x_ => v_ = .tuple #[w85, .bool (true), .int .i64 0] ∧ x_ = []) := ⟨_, rfl⟩
       refine ⟨(zq1 (zq4 (zq8 (zq32 (zq32 (zq32 (zq32 (zq32 [])))))))), [], q_, (by rw [e4_]), rfl, (fun _ _ z_ => by subst hq0_ hg_w85 hg_X86; exact z_), ?_⟩
       subst hq0_
       exact mix_det mn (fun _ h_ H_ => exd_move (v := .tuple #[w85, .bool (true), .int .i64 0]) rfl) ⟨rfl, rfl⟩
      refine mixes_cons rfl (opmix2 ?_) ?_
      ·
       intro val83 pc84 hQ_ hX_
       obtain ⟨e4_, o87, x4_⟩ := hG4_ _ _ (hQ_ 4 rfl)
       have e5_ : val83 5 = .tuple #[(Gw85 (val83 4) (pc84 4)), .bool (true), .int .i64 0] := (hQ_ 5 rfl).1
       generalize hg_w85 : Gw85 (val83 4) (pc84 4) = w85 at *
       generalize hg_X86 : GX86 (val83 4) (pc84 4) = X86 at *
       obtain ⟨q_, hq0_⟩ : ∃ q_ : Value → Pcs → Prop, q_ = (fun v_ x_ => v_ = w85 ∧ x_ = []) := ⟨_, rfl⟩
       refine ⟨(zq1 (zq4 (zq8 (zq32 (zq32 (zq32 (zq32 (zq32 [])))))))), [], q_, (by rw [e4_, e5_]), rfl, (fun _ _ z_ => by subst hq0_ hg_w85 hg_X86; exact z_), ?_⟩
       subst hq0_
       exact mix_det mn (fun _ h_ H_ => exd_extract rfl (v := w85) rfl) ⟨rfl, rfl⟩
      refine mixes_cons rfl (opmix2 ?_) ?_
      ·
       intro val83 pc84 hQ_ hX_
       obtain ⟨e4_, o87, x4_⟩ := hG4_ _ _ (hQ_ 4 rfl)
       have e5_ : val83 5 = .tuple #[(Gw85 (val83 4) (pc84 4)), .bool (true), .int .i64 0] := (hQ_ 5 rfl).1
       generalize hg_w85 : Gw85 (val83 4) (pc84 4) = w85 at *
       generalize hg_X86 : GX86 (val83 4) (pc84 4) = X86 at *
       obtain ⟨q_, hq0_⟩ : ∃ q_ : Value → Pcs → Prop, q_ = (fun v_ x_ => v_ = .bool (true) ∧ x_ = []) := ⟨_, rfl⟩
       refine ⟨(zq1 (zq4 (zq8 (zq32 (zq32 (zq32 (zq32 (zq32 [])))))))), [], q_, (by rw [e4_, e5_]), rfl, (fun _ _ z_ => by subst hq0_ hg_w85 hg_X86; exact z_), ?_⟩
       subst hq0_
       exact mix_det mn (fun _ h_ H_ => exd_extract rfl (v := .bool (true)) rfl) ⟨rfl, rfl⟩
      refine mixes_cons rfl (opmix2 ?_) ?_
      ·
       intro val83 pc84 hQ_ hX_
       obtain ⟨e4_, o87, x4_⟩ := hG4_ _ _ (hQ_ 4 rfl)
       have e5_ : val83 5 = .tuple #[(Gw85 (val83 4) (pc84 4)), .bool (true), .int .i64 0] := (hQ_ 5 rfl).1
       generalize hg_w85 : Gw85 (val83 4) (pc84 4) = w85 at *
       generalize hg_X86 : GX86 (val83 4) (pc84 4) = X86 at *
       obtain ⟨q_, hq0_⟩ : ∃ q_ : Value → Pcs → Prop, q_ = (fun v_ x_ => v_ = .int .i64 0 ∧ x_ = []) := ⟨_, rfl⟩
       refine ⟨(zq1 (zq4 (zq8 (zq32 (zq32 (zq32 (zq32 (zq32 [])))))))), [], q_, (by rw [e4_, e5_]), rfl, (fun _ _ z_ => by subst hq0_ hg_w85 hg_X86; exact z_), ?_⟩
       subst hq0_
       exact mix_det mn (fun _ h_ H_ => exd_extract rfl (v := .int .i64 0) rfl) ⟨rfl, rfl⟩
      refine mixes_cons rfl (opmix2 ?_) ?_
      ·
       intro val83 pc84 hQ_ hX_
       have e0_ : val83 0 = .agg #[.slice a1 t.nH c1, .slice a2 t.nW c2, .slice a3 t.m c3] := (hQ_ 0 rfl).1
       have q1_ : OwnS 3 1 (val83 1) [] (pc84 1) := hQ_ 1 rfl
       have e2_ : val83 2 = .slice a25 t.m cp26 := (hQ_ 2 rfl).1
       have q3_ : OwnS 3 1 (val83 3) ([] ++ ((fairP t none0).map fun x => [Value.int .i64 x])) (pc84 3) := hQ_ 3 rfl
       obtain ⟨e4_, o87, x4_⟩ := hG4_ _ _ (hQ_ 4 rfl)
       have e5_ : val83 5 = .tuple #[(Gw85 (val83 4) (pc84 4)), .bool (true), .int .i64 0] := (hQ_ 5 rfl).1
       have e6_ : val83 6 = (Gw85 (val83 4) (pc84 4)) := (hQ_ 6 rfl).1
       generalize hg_w85 : Gw85 (val83 4) (pc84 4) = w85 at *
       generalize hg_X86 : GX86 (val83 4) (pc84 4) = X86 at *
       obtain ⟨q_, hq0_⟩ : ∃ q_ : Value → Pcs → Prop, q_ = (fun v_ x_ => v_ = w85 ∧ x_ = []) := ⟨_, rfl⟩
       refine ⟨(zq1 (zq4 (zq8 (zq32 (zq32 (zq32 (zq32 (zq32 [])))))))), [], q_, (by rw [e0_, e2_, e4_, e5_, e6_]), rfl, (fun _ _ z_ => by subst hq0_ hg_w85 hg_X86; exact z_), ?_⟩
       subst hq0_
       exact mix_det mn (fun _ h_ H_ => exd_assign (v := w85) rfl) ⟨rfl, rfl⟩
      refine mixes_cons rfl (opmix2 ?_) ?_
      ·
       intro val83 pc84 hQ_ hX_
       have e0_ : val83 0 = .agg #[.slice a1 t.nH c1, .slice a2 t.nW c2, .slice a3 t.m c3] := (hQ_ 0 rfl).1
       have q1_ : OwnS 3 1 (val83 1) [] (pc84 1) := hQ_ 1 rfl
       have e2_ : val83 2 = .slice a25 t.m cp26 := (hQ_ 2 rfl).1
       have q3_ : OwnS 3 1 (val83 3) ([] ++ ((fairP t none0).map fun x => [Value.int .i64 x])) (pc84 3) := hQ_ 3 rfl
       obtain ⟨e4_, o87, x4_⟩ := hG4_ _ _ (hQ_ 4 rfl)
       have e5_ : val83 5 = .tuple #[(Gw85 (val83 4) (pc84 4)), .bool (true), .int .i64 0] := (hQ_ 5 rfl).1
       have e6_ : val83 6 = (Gw85 (val83 4) (pc84 4)) := (hQ_ 6 rfl).1
       have e7_ : val83 7 = .bool (true) := (hQ_ 7 rfl).1
       have e9_ : val83 9 = (Gw85 (val83 4) (pc84 4)) := (hQ_ 9 rfl).1
       generalize hg_w85 : Gw85 (val83 4) (pc84 4) = w85 at *
       generalize hg_X86 : GX86 (val83 4) (pc84 4) = X86 at *
       obtain ⟨q_, hq0_⟩ : ∃ q_ : Value → Pcs → Prop, q_ = (fun v_ x_ => v_ = .bool (true) ∧ x_ = []) := ⟨_, rfl⟩
       refine ⟨(zq1 (zq4 (zq8 (zq32 (zq32 (zq32 (zq32 (zq32 [])))))))), [], q_, (by rw [e0_, e2_, e4_, e5_, e6_, e7_, e9_]), rfl, (fun _ _ z_ => by subst hq0_ hg_w85 hg_X86; exact z_), ?_⟩
       subst hq0_
       exact mix_det mn (fun _ h_ H_ => exd_assign (v := .bool (true)) rfl) ⟨rfl, rfl⟩
      exact mixes_nil rfl
     intro val83 pc84 hQ_ hX_
     have e0_ : val83 0 = .agg #[.slice a1 t.nH c1, .slice a2 t.nW c2, .slice a3 t.m c3] := (hQ_ 0 (by decide)).1
     have e2_ : val83 2 = .slice a25 t.m cp26 := (hQ_ 2 (by decide)).1
     obtain ⟨e4_, o87, x4_⟩ := hG4_ _ _ (hQ_ 4 (by decide))
     have e5_ : val83 5 = .tuple #[(Gw85 (val83 4) (pc84 4)), .bool (true), .int .i64 0] := (hQ_ 5 (by decide)).1
     have e6_ : val83 6 = (Gw85 (val83 4) (pc84 4)) := (hQ_ 6 (by decide)).1
     have e7_ : val83 7 = .bool (true) := (hQ_ 7 (by decide)).1
     have e8_ : val83 8 = .int .i64 0 := (hQ_ 8 (by decide)).1
     have e9_ : val83 9 = (Gw85 (val83 4) (pc84 4)) := (hQ_ 9 (by decide)).1
     have e10_ : val83 10 = .bool (true) := (hQ_ 10 (by decide)).1
     have x11_ : pc84 11 = X77 := hX_ 11 (by decide)
     clear hQ_ hX_
     generalize Gw85 (val83 4) (pc84 4) = w85 at *
     generalize GX86 (val83 4) (pc84 4) = X86 at *
     refine rl_as (Φ := fun h_ => St h [] p69 h_ (([(b1, .cells #[.slice a1 t.nH c1, .slice a2 t.nW c2, .slice a3 t.m c3] 25 (0, 0))] : Pcs) ++ (pc84 11 ++ (pc84 4 ++ [])))) ?_ (fun h_ H_ => H_.swap')
     rw [x11_, x4_]
     refine rl_own (L' := ([(b1, .cells #[.slice a1 t.nH c1, .slice a2 t.nW c2, .slice a3 t.m c3] 25 (0, 0))] : Pcs) ++ (X77 ++ (X86 ++ []))) (by simp) ?_
     refine rl_norm (tm' := (zq1 (zq4 (zq8 (zq32 (zq32 (zq32 (zq32 (zq32 []))))))))) (by rw [e0_, e2_, e4_, e5_, e6_, e7_, e8_, e9_, e10_]) ?_
     refine ro (exd_assign (v := .int .i64 0) rfl) <| ren <| rl_start <| rt (exd_move (v := .int .i64 0) rfl) (tm' := zq1 (zq4 (zq8 (zq32 (zq32 (zq32 (zq32 (zq32 [])))))))) rfl <| ro (exd_eql rfl rfl) <| ro (exd_move (v := .bool (decide ((0 : Int) = 0))) rfl) ?_
     refine rl_det (ms rfl rfl (decide_eq_true (by decide))) (fun h_ H_ => exd_move (v := .int .i64 0) rfl) (tm' := zq1 (zq4 (zq8 (zq32 (zq32 (zq32 (zq32 (zq32 [])))))))) rfl ?_
     refine rl_det (ms rfl rfl (decide_eq_true (by decide))) (fun h_ H_ => exd_eql rfl rfl) rfl ?_
     refine ro (exd_pick_t rfl (decide_eq_true (by decide)) (v := .bool (decide ((0 : Int) = 0))) rfl) ?_
     refine rt (exd_move (v := .bool (decide ((0 : Int) = 0))) rfl) (tm' := zq1 (zq4 (zq8 (zq32 (zq32 (zq32 (zq32 (zq32 [])))))))) rfl ?_
     refine rl_det (ms rfl rfl (decide_eq_true (by decide))) (fun h_ H_ => exd_move (v := .bool (true)) rfl) rfl ?_
     refine ro (exd_pick_t rfl (decide_eq_true (by decide)) (v := .bool (true)) rfl) ?_
     refine rt (exd_move (v := .bool (true)) rfl) (tm' := zq1 (zq4 (zq8 (zq32 (zq32 (zq32 (zq32 (zq32 [])))))))) rfl ?_
     refine rl_det (ms rfl rfl rfl) (fun h_ H_ => exd_move (v := .bool (true)) rfl) rfl ?_
     refine ro (exd_pick_t rfl rfl (v := .bool (true)) rfl) <| rt (exd_move (v := .bool (true)) rfl) (tm' := zq1 (zq4 (zq8 (zq32 (zq32 (zq32 (zq32 (zq32 [])))))))) rfl ?_
     refine rl_det (ms rfl rfl rfl) (fun h_ H_ => exd_move (v := w76) rfl) rfl ?_
     refine rl_det (ms rfl rfl rfl) (fun h_ H_ => exd_move (v := .slice a20 t.nH cp21) rfl) rfl ?_
     refine rl_lastN (A := ([(b1, .cells #[.slice a1 t.nH c1, .slice a2 t.nW c2, .slice a3 t.m c3] 25 (0, 0))] : Pcs)) o78 ((ics_length _).trans (lacks_len _ _)) fun p92 a93 cp94 le95 ev_ D96 => ?_
     subst ev_
     refine rl_calld (ms rfl rfl rfl) (first := []) (cap := []) rfl rfl fC27 (fun h_ H_ => c27 .lone _ _ H_.pe _ _ _ _ _ _ _ _ (show Ints _ _ _ (lacks t d) from D96) ((((show Ints _ _ _ (lacks t d) from D23).mono le27).mono le72).mono le95) (by omega)) (tm' := zq1 (zq4 (zq8 (zq32 (zq32 (zq32 (zq32 (zq32 [])))))))) rfl ?_
     refine ro (exd_pick_t rfl rfl (v := .bool (decide ((lacks t d) = (lacks t d)))) rfl) <| ro (exd_move (v := .bool (decide ((lacks t d) = (lacks t d)))) rfl) ?_
     refine rl_det (ms rfl rfl (decide_eq_true rfl)) (fun h_ H_ => exd_move (v := w85) rfl) (tm' := zq1 (zq4 (zq8 (zq32 (zq32 (zq32 (zq32 (zq32 [])))))))) rfl ?_
     refine rl_det (ms rfl rfl (decide_eq_true rfl)) (fun h_ H_ => exd_move (v := .slice a15 t.nH cp16) rfl) rfl ?_
     refine rl_lastN (A := ([(b1, .cells #[.slice a1 t.nH c1, .slice a2 t.nW c2, .slice a3 t.m c3] 25 (0, 0))] : Pcs)) o87 ((ics_length _).trans (lacks_len _ _)) fun p97 a98 cp99 le100 ev_ D101 => ?_
     subst ev_
     refine rl_own (L' := [(b1, .cells #[.slice a1 t.nH c1, .slice a2 t.nW c2, .slice a3 t.m c3] 25 (0, 0))]) rfl ?_
     refine rl_calld (ms rfl rfl (decide_eq_true rfl)) (first := []) (cap := []) rfl rfl fC27 (fun h_ H_ => c27 .lone _ _ H_.pe _ _ _ _ _ _ _ _ (show Ints _ _ _ (lacks t (fairP t none0)) from D101) ((((((show Ints _ _ _ (LK t) from D18).mono le22).mono le27).mono le72).mono le95).mono le100) (by omega)) rfl ?_
     refine rt (exd_pick_t rfl (decide_eq_true rfl) (v := .bool (decide ((lacks t (fairP t none0)) = (LK t)))) rfl) (tm' := zq1 (zq4 (zq8 (zq32 (zq32 (zq32 (zq32 (zq32 [])))))))) rfl <| ro (exd_move (v := .bool (decide ((lacks t (fairP t none0)) = (LK t)))) rfl) ?_
     refine rl_calld (ms rfl rfl (decide_eq_true rfl)) (first := []) (cap := []) rfl rfl fC16 (fun h_ H_ => c16 .lone _ _ H_.pe ((((((N.mono le17).mono le22).mono le27).mono le72).mono le95).mono le100) ((((((Z.mono le17).mono le22).mono le27).mono le72).mono le95).mono le100)) rfl ?_
     refine rt (exd_pick_t rfl (decide_eq_true rfl) (v := .bool (true)) rfl) (tm' := zq1 (zq4 (zq8 (zq32 (zq32 (zq32 (zq32 (zq32 [])))))))) rfl <| ro (exd_assign (v := .bool (true)) rfl) <| rl_end ?_
     refine fl_retL Tryd.func14 rfl (vs := [.bool (true)]) (fun h_ H_ => ⟨.bool (true), _, rfl, rfl, rfl⟩) (v := .bool (true)) rfl ?_
     exact fun h_ H_ => ⟨rfl, H_.kept⟩
   ·
    refine fl_then rfl (not_t (dff cc4)) <| fsr ?_
    refine rl_calld mn (first := []) (cap := []) rfl rfl fC16 (fun h_ H_ => c16 .lone _ _ H_.pe N Z) rfl ?_
    refine rt (exd_assign (v := .bool (true)) rfl) (tm' := zq1 (zq4 _)) rfl <| rl_end ?_
    refine fl_retL Tryd.func14 rfl (vs := [.bool (true)]) (fun h_ H_ => ⟨.bool (true), _, rfl, rfl, rfl⟩) (v := .bool (true)) rfl ?_
    exact fun h_ H_ => ⟨rfl, H_.kept⟩
 ·
  refine rp (mo rfl rfl (not_t cc2)) <| rp (mo rfl rfl (not_t cc2)) <| rl_pass (mo rfl rfl (not_t cc2)) (tm' := zq1 (zq2 (zq8 (zq16 _)))) rfl <| ro (exd_pick_t rfl (not_t cc2) (v := .bool (true)) rfl) <| ro (exd_move (v := .bool (true)) rfl) <| rl_pass (mo rfl rfl rfl) (tm' := zq2 (zq4 (zq8 (zq16 _)))) rfl ?_
  refine rp (mo rfl rfl rfl) <| rp (mo rfl rfl rfl) <| rl_pass (mo rfl rfl rfl) (tm' := zq1 (zq32 _)) rfl <| ro (exd_pick_t rfl rfl (v := .bool (true)) rfl) <| rl_end <| fl_then rfl rfl ?_
  refine fsr ?_
  refine rl_calld mn (first := []) (cap := []) rfl rfl fC16 (fun h_ H_ => c16 .lone _ _ H_.pe N Z) rfl ?_
  refine rt (exd_assign (v := .bool (true)) rfl) (tm' := zq1 (zq4 _)) rfl <| rl_end ?_
  refine fl_retL Tryd.func14 rfl (vs := [.bool (true)]) (fun h_ H_ => ⟨.bool (true), _, rfl, rfl, rfl⟩) (v := .bool (true)) rfl ?_
  exact fun h_ H_ => ⟨rfl, H_.kept⟩
end Go.Proofs.YtalfgojocdonhaaDoor
namespace Go.Proofs.YtalfgojocdonhaaDoor
open Go.X Go.X.Flow Go.Conc Go.RowKit Go.ChangeShapes Go.WideShapes Go.ChangeAt Go.Joins
set_option maxRecDepth 100000

theorem lifted14 (os : Os) (started : os.Started) (H : Type) (enc : TypeId × Value → H) :
    ReturnsInHanded {} Tryd.checked os 14 .any (fun w args => (Rows.bucketsEachSpec.pre enc Tryd.prog Tryd.f14 Rows.bucketsEachRow.domain false w args ∧ laidMetH Tryd.prog Rows.bucketsEachRow.laid w) ∧ sizedMet enc Tryd.prog Tryd.f14 (OpenSpec.ofChange Rows.bucketsEachSpec) false w args) (Rows.bucketsEachSpec.post enc Tryd.prog Tryd.f14 false true false false) := by
  refine returnsInHanded_of_change_and (C := Tryd.checked) (X := fun w _ => laidMetH Tryd.prog Rows.bucketsEachRow.laid w) (fun _ _ _ hh h => h.of_heap hh) pOwn started (by kernel_rfl) Tryd.func14
    (ChangeSpec.witness_shaped (enc := enc) (C := Tryd.checked) (os := os) (X := fun w _ => laidMetH Tryd.prog Rows.bucketsEachRow.laid w) false (laidW os) #[.agg #[.slice none 0 0, .slice none 0 0, .slice none 0 0], .slice none 0 0] 8 (World.laidAll_os _ _ _)
      (World.shaped_of_ZipB (by kernel_rfl) (by kernel_rfl)) (by kernel_rfl) (by kernel_rfl) (by kernel_rfl) (laidW_met os _)) ?_
  intro W base args ds gs before hval0 hW _ _ hL _
  have hval : ∀ (j : Nat) t v, Tryd.f14.params[j]? = some t → args[j]? = some v → Value.okWide Tryd.prog W .any base t v := hval0
  have hW2 := hW
  obtain ⟨p, q, hA0, hV, rfl, _, _⟩ := hW2
  have hA : DataW.TrodAll enc Tryd.prog W 0 (fun _ => true) true Tryd.f14.params.toList args.toList ds p := hA0
  rw [Tryd.params14] at hA hval
  obtain ⟨v0, v1, d0, d1, p0, p1, rfl, rfl, _, h0, h1⟩ := trodAll_two hA
  obtain ⟨rfl, rfl⟩ := trodVars_none hV
  obtain ⟨a1, c1, a2, c2, a3, c3, t, rfl, hl, _, T⟩ := open_town (hval 0 25 v0 rfl rfl) h0
  obtain ⟨b, m, cb, d, rfl, hm, D⟩ := open_ints (hval 1 22 v1 rfl rfl) h1
  refine (calls_of_enters (e14 W.heap (pW W) (pW_per W) a1 a2 a3 c1 c2 c3 t T hl b m cb d D hm (none_of_laid hL) (tab_of_laid hL))).mono fun e W2 ⟨v, he, ⟨hv, hk_⟩, cl⟩ => ⟨v, he, ?_⟩
  subst hv
  exact law_post pLaid rfl (fun t ht => by rw [Tryd.params14] at ht; revert t; decide +kernel) rfl Tryd.underlying4 hW rfl (below_of hk_ cl)

theorem bucketsEachRowHolds : Rows.BucketsEachSaid :=
  OpenClaim.holds_of_wide 14 Tryd.f14 rfl rfl rfl rfl rfl rfl rfl ⟨rfl, rfl, rfl, rfl, rfl⟩ rfl rfl rfl rfl rfl (by kernel_rfl) Tryd.func14 (by kernel_rfl)
    (of_decide_eq_true (by kernel_rfl)) (by unfold Func.isWrapper; first | (rw [if_pos (by decide +kernel)]; kernel_rfl) | (rw [if_neg (by decide +kernel)]; exact ⟨rfl, rfl⟩))
    (fun os started H enc _ => lifted14 os started H enc)

theorem bucketsEachHolds : Rows.BucketsEachCardSaid :=
  Claim7.holds_tied_plain_at .later [] [.data, .data, .data] true (true, "5334d201df14a8cbe7ef60c793562a47fe331153d035b74b45b1c636860d1486") false bucketsEachRowHolds (fun _ h => by cases h) (by kernel_rfl) (fun _ h => by cases h) bucketsEach_row_tie rfl ⟨rfl, rfl⟩ (by kernel_rfl) rfl
    (fun f fn hf hfn => by
      obtain rfl : f = 14 := Option.some.inj ((show Tryd.prog.funcNamed "steening/steeninglaw03.BucketsEach" = some 14 by kernel_rfl).symm.trans hf) |>.symm
      obtain rfl : fn = Tryd.f14 := (Option.some.inj (Tryd.func14.symm.trans hfn)).symm
      exact ⟨by kernel_rfl, fun j t ht => by
        rw [Tryd.params14] at ht
        have hm : t ∈ [25, 22] := by simpa using Array.mem_of_getElem? ht
        have hall : ([25, 22].all fun u => !Tryd.prog.wantsStandIn u) = true := by kernel_rfl
        exact (show Tryd.prog.wantsStandIn t = false by simpa using List.all_eq_true.1 hall t hm)⟩)
    (by kernel_rfl)

#print axioms bucketsEachHolds
end Go.Proofs.YtalfgojocdonhaaDoor
