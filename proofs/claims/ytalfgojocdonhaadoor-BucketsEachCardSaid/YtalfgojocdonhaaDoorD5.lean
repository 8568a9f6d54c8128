/-
  Part of proofs about buckets brought from wells to houses: a lone run, and what it computes. No condition.
-/
import Derived.Test.YtalfgojocdonhaaDoorD2
import Derived.Test.YtalfgojocdonhaaDoorD3
import Derived.Test.YtalfgojocdonhaaDoorD4
import Derived.Test.YtalfgojocdonhaaDoorD1
import Derived.Conc.LeavingOf
import Derived.Carry
import Derived.Deep.Slices
import Derived.Lib.SmallJoins
import Derived.Calls
namespace Go.Proofs.YtalfgojocdonhaaDoor
open Go.X Go.X.Flow Go.Conc
set_option maxRecDepth 10000
set_option synthInstance.maxSize 2000

set_option maxHeartbeats 2000000
theorem c36 (md : Md) (h : Heap) (p : PHeap) (hp : Per p h) (a1 a2 a3 : Option Addr) (c1 c2 c3 : Nat) (t : Tn) (T : TownP p a1 t.nH a2 t.nW a3 t.m t) (hn : t.nH ≤ 40 ∧ t.nW ≤ 40 ∧ t.m ≤ 41) (N : NoneP p) : CallsX Tryd.prog md 36 #[.agg #[.slice a1 t.nH c1, .slice a2 t.nW c2, .slice a3 t.m c3]] h fun v h' => v = .tuple #[.int .i64 (worstC t), .int .i64 (chkB t)] ∧ Keep h h' := by
 refine calls_intro (Φ := fun h_ => St h [] p h_ []) Tryd.func36 rfl (tm := zq2 (zq16 [])) rfl ?_ (St.start h _ hp)
 intro c₀ cs Stop K
 refine fsr ?_
 refine rl_box mn (v := .agg #[.slice a1 t.nH c1, .slice a2 t.nW c2, .slice a3 t.m c3]) rfl fun b1 => rl_own (L' := [(b1, .cells #[.slice a1 t.nH c1, .slice a2 t.nW c2, .slice a3 t.m c3] 25 (0, 0))]) rfl ?_
 refine ro (exd_assign (v := .int .i64 0) rfl) <| rt (exd_assign (v := .int .i64 0) rfl) (tm' := zq4 _) rfl <| ren <| rl_start <| rd (fun h_ H_ => exd_loadN_own H_ tA25 tS25 rfl (i := 0) rfl (vs := [.slice a1 t.nH c1, .slice a2 t.nW c2, .slice a3 t.m c3]) rfl rfl) ?_
 refine rl_own (L' := ([(b1, .cells #[.slice a1 t.nH c1, .slice a2 t.nW c2, .slice a3 t.m c3] 25 (0, 0))] : Pcs) ++ []) rfl ?_
 refine rl_call mn (first := []) (cap := []) rfl rfl fC43 (R := fun v_ h_ => ∃ w2 : Value, ∃ X3 : Pcs, v_ = .tuple #[w2, .int .i64 (chkB t)] ∧ (OwnS 3 1 w2 (ics (LKc t)) X3) ∧ St h [] p h_ (([(b1, .cells #[.slice a1 t.nH c1, .slice a2 t.nW c2, .slice a3 t.m c3] 25 (0, 0))] : Pcs) ++ (X3 ++ []))) (fun h_ H_ => (c43 md _ _ H_.pe _ _ _ _ _ _ t (show TownP _ _ _ _ _ _ _ t from ⟨T.h, T.w, T.y⟩) (by omega) N).mono fun v_ h2_ ⟨w2, X3, e_, o4, N_⟩ => ⟨w2, X3, e_, o4, H_.callNA N_⟩) fun v_ => ?_
 refine rl_ex fun w2 => rl_ex fun X3 => rl_and fun ev_ => rl_and fun o4 => ?_
 have ev_ := ev_.symm; subst ev_
 refine rl_own (L' := ([(b1, .cells #[.slice a1 t.nH c1, .slice a2 t.nW c2, .slice a3 t.m c3] 25 (0, 0))] : Pcs) ++ (X3 ++ [])) rfl ?_
 refine rt (exd_move (v := .tuple #[w2, .int .i64 (chkB t)]) rfl) (tm' := zq1 (zq2 (zq4 _))) rfl <| ro (exd_extract rfl (v := w2) rfl) <| ro (exd_extract rfl (v := .int .i64 (chkB t)) rfl) <| rt (exd_assign (v := w2) rfl) (tm' := zq1 (zq4 _)) rfl <| ro (exd_assign (v := .int .i64 (chkB t)) rfl) <| ren ?_
 refine fl_seq ?_
 refine rs_lastN (A := ([(b1, .cells #[.slice a1 t.nH c1, .slice a2 t.nW c2, .slice a3 t.m c3] 25 (0, 0))] : Pcs)) o4 ((ics_length _).trans rfl) fun p5 a6 cp7 le8 ev_ D9 => ?_
 subst ev_
 refine rs_own (L' := [(b1, .cells #[.slice a1 t.nH c1, .slice a2 t.nW c2, .slice a3 t.m c3] 25 (0, 0))]) rfl ?_
 refine rl_start <| ro (exd_move (v := .slice a6 ((LKc t).length) cp7) rfl) <| rt (exd_len Tryd.underlying22 rfl) (tm' := zq2 (zq16 [])) rfl <| ro (exd_eql rfl rfl) <| rl_end ?_
 by_cases cc10 : (((LKc t).length : Nat) : Int) = 0
 ·
  refine fl_then rfl (dtt cc10) <| fsr <| ro (exd_move (v := .int .i64 (chkB t)) rfl) <| rt (exd_assign (v := .int .i64 0) rfl) (tm' := _::_::_::_) rfl <| ro (exd_assign (v := .int .i64 (chkB t)) rfl) <| rl_end ?_
  refine fl_ret Tryd.func36 rfl (vs := [.int .i64 0, .int .i64 (chkB t)]) (fun h_ H_ => ⟨.int .i64 0, _, rfl, rfl, ⟨.int .i64 (chkB t), _, rfl, rfl, rfl⟩⟩) (v := .tuple #[.int .i64 0, .int .i64 (chkB t)]) rfl ?_
  have z1_ : LKc t = [] := List.length_eq_zero_iff.1 (by omega)
  exact fun h_ H_ => K _ _ ⟨by rw [worstC, z1_]; rfl, H_.kept⟩
 ·
  refine fl_else rfl (dff cc10) <| fl_skip <| fsr <| ro (exd_move (v := .slice a6 ((LKc t).length) cp7) rfl) ?_
  refine rt (exd_indexAddrN (i := 0) Tryd.underlying22 tS3 (sl_ne a6 ((LKc t).length) cp7 ((show Ints _ _ _ (LKc t) from D9).ne (by omega))) rfl (by omega)) (tm' := zq2 (zq16 [])) rfl ?_
  refine rd (fun h_ H_ => exd_load_per H_ tA3 rfl (v := .int .i64 ((LKc t).getD 0 0)) ((show Ints _ _ _ (LKc t) from D9).get (by omega))) ?_
  refine ro (exd_assign (v := .int .i64 ((LKc t).getD 0 0)) rfl) <| rt (exd_assign (v := .int .i64 0) rfl) (tm' := zq4 _) rfl <| rl_end ?_
  refine fl_ret Tryd.func36 rfl (vs := [.int .i64 ((LKc t).getD 0 0), .int .i64 0]) (fun h_ H_ => ⟨.int .i64 ((LKc t).getD 0 0), _, rfl, rfl, ⟨.int .i64 0, _, rfl, rfl, rfl⟩⟩) (v := .tuple #[.int .i64 ((LKc t).getD 0 0), .int .i64 0]) rfl ?_
  have e0_ : chkB t = 0 := Decidable.byContradiction fun z_ => by have z2_ := congrArg List.length (LKc_no z_); simp only [List.length_nil] at z2_; omega
  exact fun h_ H_ => K _ _ ⟨by rw [e0_]; rfl, H_.kept⟩
theorem c66 (md : Md) (h : Heap) (p : PHeap) (hp : Per p h) (a1 a2 a3 : Option Addr) (c1 c2 c3 : Nat) (t : Tn) (T : TownP p a1 t.nH a2 t.nW a3 t.m t) (O : OkT t) (z s : Int) (S : Sg ⟨z, -1, s⟩) (hz : 0 ≤ z ∧ z.toNat < t.nH) (bT bZ : Nat) (hT : p bT = some (.cells #[.slice a1 t.nH c1, .slice a2 t.nW c2, .slice a3 t.m c3] 25 (0, 0))) (hZ : p bZ = some (.cells #[.int .i64 z] 3 (0, 0))) : CallsX Tryd.prog md 66 #[.int .i64 (s), .pointer (some ⟨bT, 0, none⟩), .pointer (some ⟨bZ, 0, none⟩)] h fun v h' => v = .int .i64 (drawV t z s) ∧ Keep h h' := by
 refine calls_intro (Φ := fun h_ => St h [] p h_ []) Tryd.func66 rfl (tm := zq1 (zq2 (zq8 (zq16 [])))) rfl ?_ (St.start h _ hp)
 intro c₀ cs Stop K
 have oH := O.nh
 have oW := O.nw
 have oM := O.nm
 refine fsr <| ro (exd_assign (v := .int .i64 0) rfl) <| ren ?_
 obtain ⟨Gw6, GX7, hG5_⟩ := sk2 (fun (v_ : Value) (x_ : Pcs) (w6 : Value) (X7 : Pcs) => v_ = w6 ∧ (OwnS 3 1 w6 (ics (fairP t (⟨z, (-1), s⟩ : Wi))) X7) ∧ x_ = (X7 ++ []))
 obtain ⟨Gw9, Gw10, GX11, GX12, hG6_⟩ := sk4 (fun (v_ : Value) (x_ : Pcs) (w9 : Value) (w10 : Value) (X11 : Pcs) (X12 : Pcs) => v_ = .tuple #[w9, w10] ∧ (OwnS 3 1 w9 (ics (lackL t (fairP t (⟨z, (-1), s⟩ : Wi)))) X11) ∧ (OwnS 3 1 w10 (ics (hasL t (fairP t (⟨z, (-1), s⟩ : Wi)))) X12) ∧ x_ = (X12 ++ (X11 ++ [])))
 refine rs_as (fl_mixed2 (C := []) (A := ([] : Pcs)) 11 [[], [], [], [], [], [], [], [6], [], [], [], []] [] [6] [0, 1, 2, 3, 4, 7, 8, 9, 10] (fun _ => []) (fun i_ => match i_ with | 6 => [5] | _ => []) (fun i_ => match i_ with | 0 => [] | 1 => [] | 2 => [] | 3 => [] | 4 => [2, 3] | 5 => [1, 4] | 6 => [0, 5] | 7 => [6] | 8 => [6, 7] | 9 => [6, 7] | 10 => [0, 1, 2, 3, 4, 5, 6, 7, 8] | _ => []) (fun i_ val_ pc_ v_ x_ => match i_ with | 0 => v_ = .agg #[.slice a1 t.nH c1, .slice a2 t.nW c2, .slice a3 t.m c3] ∧ x_ = [] | 1 => v_ = .agg #[.slice a1 t.nH c1, .slice a2 t.nW c2, .slice a3 t.m c3] ∧ x_ = [] | 2 => v_ = .int .i64 (z) ∧ x_ = [] | 3 => v_ = .int .i64 (s) ∧ x_ = [] | 4 => v_ = .agg #[.int .i64 (z), .int .i64 (-1), .int .i64 (s)] ∧ x_ = [] | 5 => ∃ w6 : Value, ∃ X7 : Pcs, v_ = w6 ∧ (OwnS 3 1 w6 (ics (fairP t (⟨z, (-1), s⟩ : Wi))) X7) ∧ x_ = (X7 ++ []) | 6 => ∃ w9 : Value, ∃ w10 : Value, ∃ X11 : Pcs, ∃ X12 : Pcs, v_ = .tuple #[w9, w10] ∧ (OwnS 3 1 w9 (ics (lackL t (fairP t (⟨z, (-1), s⟩ : Wi)))) X11) ∧ (OwnS 3 1 w10 (ics (hasL t (fairP t (⟨z, (-1), s⟩ : Wi)))) X12) ∧ x_ = (X12 ++ (X11 ++ [])) | 7 => v_ = .tuple #[(Gw9 (val_ 6) (pc_ 6)), (Gw10 (val_ 6) (pc_ 6))] ∧ x_ = [] | 8 => v_ = (Gw9 (val_ 6) (pc_ 6)) ∧ x_ = [] | 9 => v_ = (Gw10 (val_ 6) (pc_ 6)) ∧ x_ = [] | 10 => v_ = (Gw9 (val_ 6) (pc_ 6)) ∧ x_ = [] | _ => True) (fun val4 => (.int .i64 (s)::.pointer (some ⟨bT, 0, none⟩)::.pointer (some ⟨bZ, 0, none⟩)::undef::.int .i64 0::(val4 10)::undef::(val4 7)::(val4 0)::(val4 1)::(val4 2)::(val4 3)::(val4 4)::(val4 5)::(val4 6)::(val4 8)::(val4 9)::undef::undef::zu8 [])) mixed (by kernel_rfl) (Nat.le_of_ble_eq_true rfl) (by kernel_rfl) (by kernel_rfl) (by kernel_rfl) (fun _ _ => ⟨fun _ _ h => h.2, ⟨fun _ _ h => h.2, ⟨fun _ _ h => h.2, ⟨fun _ _ h => h.2, ⟨fun _ _ h => h.2, ⟨fun _ _ h => h.2, ⟨fun _ _ h => h.2, ⟨fun _ _ h => h.2, ⟨fun _ _ h => h.2, trivial⟩⟩⟩⟩⟩⟩⟩⟩⟩) (fun _ => by kernel_rfl) (by kernel_rfl) ?_ ?_) (fun h_ H_ => St.swap (A := ([] : Pcs)) (U := []) H_)
 ·
  refine mixes_cons rfl (opmix2 ?_) ?_
  ·
   intro val4 pc5 hQ_ hX_
   obtain ⟨q_, hq0_⟩ : ∃ q_ : Value → Pcs → Prop, q_ = (fun v_ x_ => v_ = .agg #[.slice a1 t.nH c1, .slice a2 t.nW c2, .slice a3 t.m c3] ∧ x_ = []) := ⟨_, rfl⟩
   refine ⟨(zq1 (zq2 (zq8 (zq16 [])))), [], q_, rfl, rfl, (fun _ _ z_ => by subst hq0_; exact z_), ?_⟩
   subst hq0_
   exact mix_det mn (fun _ h_ H_ => exd_loadN_per H_ tA25 tS25 rfl (vs := [.slice a1 t.nH c1, .slice a2 t.nW c2, .slice a3 t.m c3]) rfl (per_cells (n := 3) hT rfl)) ⟨rfl, rfl⟩
  refine mixes_cons rfl (opmix2 ?_) ?_
  ·
   intro val4 pc5 hQ_ hX_
   obtain ⟨q_, hq0_⟩ : ∃ q_ : Value → Pcs → Prop, q_ = (fun v_ x_ => v_ = .agg #[.slice a1 t.nH c1, .slice a2 t.nW c2, .slice a3 t.m c3] ∧ x_ = []) := ⟨_, rfl⟩
   refine ⟨(zq1 (zq2 (zq8 (zq16 [])))), [], q_, rfl, rfl, (fun _ _ z_ => by subst hq0_; exact z_), ?_⟩
   subst hq0_
   exact mix_det mn (fun _ h_ H_ => exd_loadN_per H_ tA25 tS25 rfl (vs := [.slice a1 t.nH c1, .slice a2 t.nW c2, .slice a3 t.m c3]) rfl (per_cells (n := 3) hT rfl)) ⟨rfl, rfl⟩
  refine mixes_cons rfl (opmix2 ?_) ?_
  ·
   intro val4 pc5 hQ_ hX_
   obtain ⟨q_, hq0_⟩ : ∃ q_ : Value → Pcs → Prop, q_ = (fun v_ x_ => v_ = .int .i64 (z) ∧ x_ = []) := ⟨_, rfl⟩
   refine ⟨(zq1 (zq2 (zq8 (zq16 [])))), [], q_, rfl, rfl, (fun _ _ z_ => by subst hq0_; exact z_), ?_⟩
   subst hq0_
   exact mix_det mn (fun _ h_ H_ => exd_load_per H_ tA3 rfl (v := .int .i64 (z)) (per_cell hZ rfl)) ⟨rfl, rfl⟩
  refine mixes_cons rfl (opmix2 ?_) ?_
  ·
   intro val4 pc5 hQ_ hX_
   obtain ⟨q_, hq0_⟩ : ∃ q_ : Value → Pcs → Prop, q_ = (fun v_ x_ => v_ = .int .i64 (s) ∧ x_ = []) := ⟨_, rfl⟩
   refine ⟨(zq1 (zq2 (zq8 (zq16 [])))), [], q_, rfl, rfl, (fun _ _ z_ => by subst hq0_; exact z_), ?_⟩
   subst hq0_
   exact mix_det mn (fun _ h_ H_ => exd_move (v := .int .i64 (s)) rfl) ⟨rfl, rfl⟩
  refine mixes_cons rfl (opmix2 ?_) ?_
  ·
   intro val4 pc5 hQ_ hX_
   have e2_ : val4 2 = .int .i64 (z) := (hQ_ 2 rfl).1
   have e3_ : val4 3 = .int .i64 (s) := (hQ_ 3 rfl).1
   obtain ⟨q_, hq0_⟩ : ∃ q_ : Value → Pcs → Prop, q_ = (fun v_ x_ => v_ = .agg #[.int .i64 (z), .int .i64 (-1), .int .i64 (s)] ∧ x_ = []) := ⟨_, rfl⟩
   refine ⟨(zq1 (zq2 (zq8 (zq16 [])))), [], q_, (by rw [e2_, e3_]), rfl, (fun _ _ z_ => by subst hq0_; exact z_), ?_⟩
   subst hq0_
   exact mix_det mn (fun _ h_ H_ => exd_build tZ72 tP72 (vs := [(0, .int .i64 (z)), (1, .int .i64 (-1)), (2, .int .i64 (s))]) rfl (cells := #[.int .i64 (z), .int .i64 (-1), .int .i64 (s)]) rfl) ⟨rfl, rfl⟩
  refine mixes_cons rfl (opmix2 ?_) ?_
  ·
   intro val4 pc5 hQ_ hX_
   have e1_ : val4 1 = .agg #[.slice a1 t.nH c1, .slice a2 t.nW c2, .slice a3 t.m c3] := (hQ_ 1 rfl).1
   have e4_ : val4 4 = .agg #[.int .i64 (z), .int .i64 (-1), .int .i64 (s)] := (hQ_ 4 rfl).1
   obtain ⟨q_, hq0_⟩ : ∃ q_ : Value → Pcs → Prop, q_ = (fun v_ x_ => ∃ w6 : Value, ∃ X7 : Pcs, v_ = w6 ∧ (OwnS 3 1 w6 (ics (fairP t (⟨z, (-1), s⟩ : Wi))) X7) ∧ x_ = (X7 ++ [])) := ⟨_, rfl⟩
   refine ⟨(zq1 (zq2 (zq8 (zq16 [])))), [], q_, (by rw [e1_, e4_]), rfl, (fun _ _ z_ => by subst hq0_; exact z_), ?_⟩
   subst hq0_
   exact mix_call mn (first := []) (cap := []) rfl rfl fC68 (fun _ h_ H_ => (c68 md _ _ H_.pe _ _ _ _ _ _ t (show TownP _ _ _ _ _ _ _ t from ⟨T.h, T.w, T.y⟩) O (⟨z, (-1), s⟩ : Wi) S).mono fun v_ h2_ ⟨w6, X7, e_, o8, N_⟩ => ⟨_, ⟨w6, X7, e_, o8, rfl⟩, H_.callN (show New _ _ (X7 ++ []) by rw [List.append_nil]; exact N_)⟩)
  refine mixes_cons rfl (opmix2 ?_) ?_
  ·
   intro val4 pc5 hQ_ hX_
   have e0_ : val4 0 = .agg #[.slice a1 t.nH c1, .slice a2 t.nW c2, .slice a3 t.m c3] := (hQ_ 0 rfl).1
   obtain ⟨e5_, o8, x5_⟩ := hG5_ _ _ (hQ_ 5 rfl)
   generalize hg_w6 : Gw6 (val4 5) (pc5 5) = w6 at *
   generalize hg_X7 : GX7 (val4 5) (pc5 5) = X7 at *
   obtain ⟨q_, hq0_⟩ : ∃ q_ : Value → Pcs → Prop, q_ = (fun v_ x_ => ∃ w9 : Value, ∃ w10 : Value, ∃ X11 : Pcs, ∃ X12 : Pcs, v_ = .tuple #[w9, w10] ∧ (OwnS 3 1 w9 (ics (lackL t (fairP t (⟨z, (-1), s⟩ : Wi)))) X11) ∧ (OwnS 3 1 w10 (ics (hasL t (fairP t (⟨z, (-1), s⟩ : Wi)))) X12) ∧ x_ = (X12 ++ (X11 ++ []))) := ⟨_, rfl⟩
   refine ⟨(zq1 (zq2 (zq8 (zq16 [])))), ((X7 ++ []) ++ []), q_, (by rw [e0_, e5_]), (by rw [← x5_]; rfl), (fun _ _ z_ => by subst hq0_ hg_w6 hg_X7; exact z_), ?_⟩
   subst hq0_
   exact mix_call mn (first := []) (cap := []) rfl rfl fC67 (fun _ h_ H_ => lent_left md (show TownP _ _ _ _ _ _ _ t from ⟨T.h, T.w, T.y⟩) O (fairP_best O.toOk S).div o8 ((ics_length _).trans (fairP_len t _)) (fun x_ h_ => by simp [h_]) H_)
  refine mixes_cons rfl (opmix2 ?_) ?_
  ·
   intro val4 pc5 hQ_ hX_
   obtain ⟨e6_, o13, o14, x6_⟩ := hG6_ _ _ (hQ_ 6 rfl)
   generalize hg_w9 : Gw9 (val4 6) (pc5 6) = w9 at *
   generalize hg_w10 : Gw10 (val4 6) (pc5 6) = w10 at *
   generalize hg_X11 : GX11 (val4 6) (pc5 6) = X11 at *
   generalize hg_X12 : GX12 (val4 6) (pc5 6) = X12 at *
   obtain ⟨q_, hq0_⟩ : ∃ q_ : Value → Pcs → Prop, q_ = (fun v_ x_ => v_ = .tuple #[w9, w10] ∧ x_ = []) := ⟨_, rfl⟩
   refine ⟨(zq1 (zq2 (zq8 (zq16 [])))), [], q_, (by rw [e6_]), rfl, (fun _ _ z_ => by subst hq0_ hg_w9 hg_w10 hg_X11 hg_X12; exact z_), ?_⟩
   subst hq0_
   exact mix_det mn (fun _ h_ H_ => exd_move (v := .tuple #[w9, w10]) rfl) ⟨rfl, rfl⟩
  refine mixes_cons rfl (opmix2 ?_) ?_
  ·
   intro val4 pc5 hQ_ hX_
   obtain ⟨e6_, o13, o14, x6_⟩ := hG6_ _ _ (hQ_ 6 rfl)
   have e7_ : val4 7 = .tuple #[(Gw9 (val4 6) (pc5 6)), (Gw10 (val4 6) (pc5 6))] := (hQ_ 7 rfl).1
   generalize hg_w9 : Gw9 (val4 6) (pc5 6) = w9 at *
   generalize hg_w10 : Gw10 (val4 6) (pc5 6) = w10 at *
   generalize hg_X11 : GX11 (val4 6) (pc5 6) = X11 at *
   generalize hg_X12 : GX12 (val4 6) (pc5 6) = X12 at *
   obtain ⟨q_, hq0_⟩ : ∃ q_ : Value → Pcs → Prop, q_ = (fun v_ x_ => v_ = w9 ∧ x_ = []) := ⟨_, rfl⟩
   refine ⟨(zq1 (zq2 (zq8 (zq16 [])))), [], q_, (by rw [e6_, e7_]), rfl, (fun _ _ z_ => by subst hq0_ hg_w9 hg_w10 hg_X11 hg_X12; exact z_), ?_⟩
   subst hq0_
   exact mix_det mn (fun _ h_ H_ => exd_extract rfl (v := w9) rfl) ⟨rfl, rfl⟩
  refine mixes_cons rfl (opmix2 ?_) ?_
  ·
   intro val4 pc5 hQ_ hX_
   obtain ⟨e6_, o13, o14, x6_⟩ := hG6_ _ _ (hQ_ 6 rfl)
   have e7_ : val4 7 = .tuple #[(Gw9 (val4 6) (pc5 6)), (Gw10 (val4 6) (pc5 6))] := (hQ_ 7 rfl).1
   generalize hg_w9 : Gw9 (val4 6) (pc5 6) = w9 at *
   generalize hg_w10 : Gw10 (val4 6) (pc5 6) = w10 at *
   generalize hg_X11 : GX11 (val4 6) (pc5 6) = X11 at *
   generalize hg_X12 : GX12 (val4 6) (pc5 6) = X12 at *
   obtain ⟨q_, hq0_⟩ : ∃ q_ : Value → Pcs → Prop, q_ = (fun v_ x_ => v_ = w10 ∧ x_ = []) := ⟨_, rfl⟩
   refine ⟨(zq1 (zq2 (zq8 (zq16 [])))), [], q_, (by rw [e6_, e7_]), rfl, (fun _ _ z_ => by subst hq0_ hg_w9 hg_w10 hg_X11 hg_X12; exact z_), ?_⟩
   subst hq0_
   exact mix_det mn (fun _ h_ H_ => exd_extract rfl (v := w10) rfl) ⟨rfl, rfl⟩
  refine mixes_cons rfl (opmix2 ?_) ?_
  ·
   intro val4 pc5 hQ_ hX_
   have e0_ : val4 0 = .agg #[.slice a1 t.nH c1, .slice a2 t.nW c2, .slice a3 t.m c3] := (hQ_ 0 rfl).1
   have e1_ : val4 1 = .agg #[.slice a1 t.nH c1, .slice a2 t.nW c2, .slice a3 t.m c3] := (hQ_ 1 rfl).1
   have e2_ : val4 2 = .int .i64 (z) := (hQ_ 2 rfl).1
   have e3_ : val4 3 = .int .i64 (s) := (hQ_ 3 rfl).1
   have e4_ : val4 4 = .agg #[.int .i64 (z), .int .i64 (-1), .int .i64 (s)] := (hQ_ 4 rfl).1
   obtain ⟨e5_, o8, x5_⟩ := hG5_ _ _ (hQ_ 5 rfl)
   obtain ⟨e6_, o13, o14, x6_⟩ := hG6_ _ _ (hQ_ 6 rfl)
   have e7_ : val4 7 = .tuple #[(Gw9 (val4 6) (pc5 6)), (Gw10 (val4 6) (pc5 6))] := (hQ_ 7 rfl).1
   have e8_ : val4 8 = (Gw9 (val4 6) (pc5 6)) := (hQ_ 8 rfl).1
   generalize hg_w6 : Gw6 (val4 5) (pc5 5) = w6 at *
   generalize hg_X7 : GX7 (val4 5) (pc5 5) = X7 at *
   generalize hg_w9 : Gw9 (val4 6) (pc5 6) = w9 at *
   generalize hg_w10 : Gw10 (val4 6) (pc5 6) = w10 at *
   generalize hg_X11 : GX11 (val4 6) (pc5 6) = X11 at *
   generalize hg_X12 : GX12 (val4 6) (pc5 6) = X12 at *
   obtain ⟨q_, hq0_⟩ : ∃ q_ : Value → Pcs → Prop, q_ = (fun v_ x_ => v_ = w9 ∧ x_ = []) := ⟨_, rfl⟩
   refine ⟨(zq1 (zq2 (zq8 (zq16 [])))), [], q_, (by rw [e0_, e1_, e2_, e3_, e4_, e5_, e6_, e7_, e8_]), rfl, (fun _ _ z_ => by subst hq0_ hg_w6 hg_X7 hg_w9 hg_w10 hg_X11 hg_X12; exact z_), ?_⟩
   subst hq0_
   exact mix_det mn (fun _ h_ H_ => exd_assign (v := w9) rfl) ⟨rfl, rfl⟩
  exact mixes_nil rfl
 intro val4 pc5 hQ_ hX_
 have e0_ : val4 0 = .agg #[.slice a1 t.nH c1, .slice a2 t.nW c2, .slice a3 t.m c3] := (hQ_ 0 (by decide)).1
 have e1_ : val4 1 = .agg #[.slice a1 t.nH c1, .slice a2 t.nW c2, .slice a3 t.m c3] := (hQ_ 1 (by decide)).1
 have e2_ : val4 2 = .int .i64 (z) := (hQ_ 2 (by decide)).1
 have e3_ : val4 3 = .int .i64 (s) := (hQ_ 3 (by decide)).1
 have e4_ : val4 4 = .agg #[.int .i64 (z), .int .i64 (-1), .int .i64 (s)] := (hQ_ 4 (by decide)).1
 obtain ⟨e5_, o8, x5_⟩ := hG5_ _ _ (hQ_ 5 (by decide))
 obtain ⟨e6_, o13, o14, x6_⟩ := hG6_ _ _ (hQ_ 6 (by decide))
 have e7_ : val4 7 = .tuple #[(Gw9 (val4 6) (pc5 6)), (Gw10 (val4 6) (pc5 6))] := (hQ_ 7 (by decide)).1
 have e8_ : val4 8 = (Gw9 (val4 6) (pc5 6)) := (hQ_ 8 (by decide)).1
 have e9_ : val4 9 = (Gw10 (val4 6) (pc5 6)) := (hQ_ 9 (by decide)).1
 have e10_ : val4 10 = (Gw9 (val4 6) (pc5 6)) := (hQ_ 10 (by decide)).1
 clear hQ_ hX_
 generalize Gw6 (val4 5) (pc5 5) = w6 at *
 generalize GX7 (val4 5) (pc5 5) = X7 at *
 generalize Gw9 (val4 6) (pc5 6) = w9 at *
 generalize Gw10 (val4 6) (pc5 6) = w10 at *
 generalize GX11 (val4 6) (pc5 6) = X11 at *
 generalize GX12 (val4 6) (pc5 6) = X12 at *
 refine rl_as (Φ := fun h_ => St h [] p h_ (([] : Pcs) ++ (pc5 6 ++ []))) ?_ (fun h_ H_ => H_.swap')
 rw [x6_]
 refine rl_own (L' := ([] : Pcs) ++ (X12 ++ (X11 ++ []))) (by simp) ?_
 refine rl_norm (tm' := (zq1 (zq2 (zq8 (zq16 []))))) (by rw [e0_, e1_, e2_, e3_, e4_, e5_, e6_, e7_, e8_, e9_, e10_]) ?_
 refine ro (exd_assign (v := w10) rfl) <| ren ?_
 refine fl_drawn2 9 [[], [0], [], [0, 1, 2], [0, 1, 2, 3], [], [], [5, 6], [5, 6, 7], [], []] mixed (by kernel_rfl) (Nat.le_of_ble_eq_true rfl) ?_
 refine wo (exd_fieldAddr tF25_0 rfl (a' := ⟨bT, 0, none⟩) rfl) ?_
 refine swr_det mn (fun h_ H_ => exd_load_per H_ tA22 rfl (v := .slice a1 t.nH c1) (per_cell hT rfl)) (tm' := zq1 (zq2 (zq8 (zq16 [])))) rfl ?_
 refine wd (fun h_ H_ => exd_load_per H_ tA3 rfl (v := .int .i64 (z)) (per_cell hZ rfl)) ?_
 refine wt (exd_indexAddr Tryd.underlying22 tS3 (sl_ne a1 t.nH c1 (T.h.ne (by omega))) rfl (by omega) (by omega) (a' := (adr a1).add (((z).toNat) * 1)) rfl) (tm' := zq1 (zq2 (zq8 (zq16 [])))) rfl ?_
 refine wd (fun h_ H_ => exd_load_per H_ tA3 rfl (v := .int .i64 (t.hv ((z).toNat))) (T.h.get (by omega))) ?_
 refine wt (exd_move (v := w9) rfl) (tm' := zq1 (zq2 (zq8 (zq16 [])))) rfl <| wd (fun h_ H_ => exd_load_per H_ tA3 rfl (v := .int .i64 (z)) (per_cell hZ rfl)) ?_
 refine wt (exd_indexOI o13 Tryd.underlying22 tS3 rfl rfl (by omega) (by rw [((ics_length _).trans lackL_len)]; omega)) (tm' := zq1 (zq2 (zq8 (zq16 [])))) rfl ?_
 refine wd (fun h_ H_ => exd_loadM (i := (z).toNat) (j := 0) (e := [.int .i64 (lack t (fairP t (⟨z, (-1), s⟩ : Wi)) ((z).toNat))]) o13 H_ (fun x_ h_ => by simp [h_]) tA3 rfl rfl (lackO_at (by omega)) (u := .int .i64 (lack t (fairP t (⟨z, (-1), s⟩ : Wi)) ((z).toNat))) rfl) ?_
 refine swr_nil rfl ?_
 refine ro (exd_sub rfl rfl (wr (by have z1_ := lack_bd O (fairP_best O.toOk S).div hz.2; have z2_ := O.h _ hz.2; omega))) ?_
 refine rt (exd_assign (v := .int .i64 ((t.hv ((z).toNat)) - (lack t (fairP t (⟨z, (-1), s⟩ : Wi)) ((z).toNat)))) rfl) (tm' := zq1 (zq4 _)) rfl <| rl_end ?_
 refine fl_ret Tryd.func66 rfl (vs := [.int .i64 ((t.hv ((z).toNat)) - (lack t (fairP t (⟨z, (-1), s⟩ : Wi)) ((z).toNat)))]) (fun h_ H_ => ⟨.int .i64 ((t.hv ((z).toNat)) - (lack t (fairP t (⟨z, (-1), s⟩ : Wi)) ((z).toNat))), _, rfl, rfl, rfl⟩) (v := .int .i64 ((t.hv ((z).toNat)) - (lack t (fairP t (⟨z, (-1), s⟩ : Wi)) ((z).toNat)))) rfl ?_
 exact fun h_ H_ => K _ _ ⟨congrArg (Value.int .i64) (by unfold drawV lack; exact Int.sub_sub_self _ _), H_.kept⟩
theorem c18 (md : Md) (h : Heap) (p : PHeap) (hp : Per p h) (a1 a2 a3 : Option Addr) (c1 c2 c3 : Nat) (t : Tn) (T : TownP p a1 t.nH a2 t.nW a3 t.m t) (hn : t.nH ≤ 40 ∧ t.nW ≤ 40 ∧ t.m ≤ 41) (z : Int) (_N : NoneP p) : CallsX Tryd.prog md 18 #[.agg #[.slice a1 t.nH c1, .slice a2 t.nW c2, .slice a3 t.m c3], .int .i64 (z)] h fun v h' => v = .tuple #[.agg #[.int .i64 (houseC t z (-1)), .int .i64 (houseC t z 1)], .int .i64 (askB t (decide (0 ≤ z ∧ z ≤ (t.nH : Int) - 1)))] ∧ Keep h h' := by
 refine calls_intro (Φ := fun h_ => St h [] p h_ []) Tryd.func18 rfl (tm := zq1 (zq2 (zq4 (zq16 [])))) rfl ?_ (St.start h _ hp)
 intro c₀ cs Stop K
 refine fsr ?_
 refine rl_box mn (v := .agg #[.slice a1 t.nH c1, .slice a2 t.nW c2, .slice a3 t.m c3]) rfl fun b1 => rl_own (L' := [(b1, .cells #[.slice a1 t.nH c1, .slice a2 t.nW c2, .slice a3 t.m c3] 25 (0, 0))]) rfl ?_
 refine rl_box mn (v := .int .i64 (z)) rfl fun b2 => rl_own (L' := [(b2, .cells #[.int .i64 (z)] 3 (0, 0)), (b1, .cells #[.slice a1 t.nH c1, .slice a2 t.nW c2, .slice a3 t.m c3] 25 (0, 0))]) rfl ?_
 refine rl_alloc mn tZ30 rfl fun b3 => rl_own (L' := [(b3, .cells #[.int .i64 0, .int .i64 0] 30 (0, 0)), (b2, .cells #[.int .i64 (z)] 3 (0, 0)), (b1, .cells #[.slice a1 t.nH c1, .slice a2 t.nW c2, .slice a3 t.m c3] 25 (0, 0))]) rfl ?_
 refine rl_norm (tm' := zq1 (zq4 _)) rfl ?_
 refine ro (exd_assign (v := .int .i64 0) rfl) <| ren <| fl_seq ?_
 refine fl_drawn2 4 [[], [], [], [1, 2], [], []] mixed (by kernel_rfl) (Nat.le_of_ble_eq_true rfl) ?_
 refine swr_det mn (fun h_ H_ => exd_loadN_own H_ tA25 tS25 rfl (i := 2) rfl (vs := [.slice a1 t.nH c1, .slice a2 t.nW c2, .slice a3 t.m c3]) rfl rfl) (tm' := zq1 (zq8 _)) rfl ?_
 refine wd (fun h_ H_ => exd_loadN_own H_ tA25 tS25 rfl (i := 2) rfl (vs := [.slice a1 t.nH c1, .slice a2 t.nW c2, .slice a3 t.m c3]) rfl rfl) ?_
 refine swr_det mn (fun h_ H_ => exd_load_own H_ tA3 rfl (i := 1) rfl (v := .int .i64 (z)) rfl) (tm' := zq1 (zq2 (zq8 _))) rfl ?_
 refine swr_call mn (first := []) (cap := []) rfl rfl fC65 (fun h_ H_ => (c65 md _ _ H_.pe _ _ _ _ _ _ _ _ _ t (show TownP _ _ _ _ _ _ _ t from ⟨T.h, T.w, T.y⟩) (by omega) (z)).mono fun v_ h2_ ⟨e_, k_⟩ => ⟨e_, H_.call k_⟩) rfl ?_
 refine swr_nil rfl ?_
 refine rl_calld mn (first := []) (cap := []) rfl rfl fC64 (fun h_ H_ => c64 md _ _ H_.pe _ _ _ _ _ _ _ _ _ t (show TownP _ _ _ _ _ _ _ t from ⟨T.h, T.w, T.y⟩) (by omega) (decide (0 ≤ z ∧ z ≤ (t.nH : Int) - 1))) (tm' := zq1 (zq4 (zq8 _))) rfl ?_
 refine ro (exd_assign (v := .int .i64 (askB t (decide (0 ≤ z ∧ z ≤ (t.nH : Int) - 1)))) rfl) <| ren <| rl_start <| ro (exd_move (v := .int .i64 (askB t (decide (0 ≤ z ∧ z ≤ (t.nH : Int) - 1)))) rfl) <| rt (exd_neq rfl rfl) (tm' := zq1 (zq2 (zq4 (zq8 _)))) rfl <| rl_end ?_
 by_cases cc4 : askB t (decide (0 ≤ z ∧ z ≤ (t.nH : Int) - 1)) ≠ 0
 ·
  refine fl_then rfl (dtt cc4) <| fsr <| ro (exd_build tZ30 tP30 (vs := []) rfl (cells := #[.int .i64 0, .int .i64 0]) rfl) <| ro (exd_move (v := .int .i64 (askB t (decide (0 ≤ z ∧ z ≤ (t.nH : Int) - 1)))) rfl) ?_
  refine rl_store mn tS30 rfl (v := .agg #[.int .i64 0, .int .i64 0]) rfl (i := 0) rfl rfl rfl (Nat.le_of_ble_eq_true rfl) (cs2 := [.int .i64 0, .int .i64 0]) rfl (rl_own (L' := [(b3, .cells #[.int .i64 0, .int .i64 0] 30 (0, 0)), (b2, .cells #[.int .i64 (z)] 3 (0, 0)), (b1, .cells #[.slice a1 t.nH c1, .slice a2 t.nW c2, .slice a3 t.m c3] 25 (0, 0))]) rfl ?_)
  refine rt (exd_assign (v := .int .i64 (askB t (decide (0 ≤ z ∧ z ≤ (t.nH : Int) - 1)))) rfl) (tm' := zq2 (zq4 _)) rfl <| rl_end ?_
  refine fl_ret Tryd.func18 rfl (vs := [.agg #[.int .i64 0, .int .i64 0], .int .i64 (askB t (decide (0 ≤ z ∧ z ≤ (t.nH : Int) - 1)))]) (fun h_ H_ => ⟨.agg #[.int .i64 0, .int .i64 0], _, rfl, (wpS_bind (wpS_pure (wpS_loadVarN tA30 tS30 (vs := [.int .i64 0, .int .i64 0]) rfl (fun j_ v_ e_ => by rw [add_mk]; exact H_.ocell (i := 0) rfl (by simpa using e_)) ⟨rfl, rfl⟩))), ⟨.int .i64 (askB t (decide (0 ≤ z ∧ z ≤ (t.nH : Int) - 1))), _, rfl, rfl, rfl⟩⟩) (v := .tuple #[.agg #[.int .i64 0, .int .i64 0], .int .i64 (askB t (decide (0 ≤ z ∧ z ≤ (t.nH : Int) - 1)))]) rfl ?_
  exact fun h_ H_ => K _ _ ⟨by rw [houseC_no ‹_›, houseC_no ‹_›], H_.kept⟩
 ·
  refine fl_else rfl (dff cc4) <| fl_skip <| fl_seq ?_
  have ha_ : askB t (decide (0 ≤ z ∧ z ≤ (t.nH : Int) - 1)) = 0 := by omega
  obtain ⟨hc_, hd_⟩ := ask_ok ha_
  have hO : OkT t := okt_of hc_
  have hd2_ := of_decide_eq_true hd_
  have hz_ : 0 ≤ z ∧ z.toNat < t.nH := by omega
  refine rs_last 1 rfl (L' := [(b3, .cells #[.int .i64 0, .int .i64 0] 30 (0, 0)), (b1, .cells #[.slice a1 t.nH c1, .slice a2 t.nW c2, .slice a3 t.m c3] 25 (0, 0))]) rfl fun p5 le6 hb7 => ?_
  refine rs_last 1 rfl (L' := [(b3, .cells #[.int .i64 0, .int .i64 0] 30 (0, 0))]) rfl fun p8 le9 hb10 => ?_
  refine rl_start <| ro (exd_makeFunc (a := []) (b := [.pointer (some ⟨b1, 0, none⟩), .pointer (some ⟨b2, 0, none⟩)]) rfl rfl) <| ro (exd_assign (v := .func (.func 66) #[] #[.pointer (some ⟨b1, 0, none⟩), .pointer (some ⟨b2, 0, none⟩)]) rfl) <| ren <| rl_start <| rt (exd_move (v := .func (.func 66) #[] #[.pointer (some ⟨b1, 0, none⟩), .pointer (some ⟨b2, 0, none⟩)]) rfl) (tm' := zq1 (zq2 (zq4 (zq16 [])))) rfl ?_
  refine rl_calld mn (first := []) (cap := [.pointer (some ⟨b1, 0, none⟩), .pointer (some ⟨b2, 0, none⟩)]) rfl rfl fC66 (fun h_ H_ => c66 md _ _ H_.pe _ _ _ _ _ _ t (show TownP _ _ _ _ _ _ _ t from ⟨((T.h.mono le6).mono le9), ((T.w.mono le6).mono le9), ((T.y.mono le6).mono le9)⟩) hO _ ((-1)) (sg_of (by decide) (by decide)) hz_ _ _ hb10 (le9 _ _ hb7)) rfl ?_
  refine ro (exd_move (v := .func (.func 66) #[] #[.pointer (some ⟨b1, 0, none⟩), .pointer (some ⟨b2, 0, none⟩)]) rfl) ?_
  refine rl_calld mn (first := []) (cap := [.pointer (some ⟨b1, 0, none⟩), .pointer (some ⟨b2, 0, none⟩)]) rfl rfl fC66 (fun h_ H_ => c66 md _ _ H_.pe _ _ _ _ _ _ t (show TownP _ _ _ _ _ _ _ t from ⟨((T.h.mono le6).mono le9), ((T.w.mono le6).mono le9), ((T.y.mono le6).mono le9)⟩) hO _ (1) (sg_of (by decide) (by decide)) hz_ _ _ hb10 (le9 _ _ hb7)) (tm' := zq1 (zq2 (zq4 (zq16 [])))) rfl ?_
  refine ro (exd_build tZ30 tP30 (vs := [(0, .int .i64 (drawV t z ((-1)))), (1, .int .i64 (drawV t z (1)))]) rfl (cells := #[.int .i64 (drawV t z ((-1))), .int .i64 (drawV t z (1))]) rfl) ?_
  refine rl_store mn tS30 rfl (v := .agg #[.int .i64 (drawV t z ((-1))), .int .i64 (drawV t z (1))]) rfl (i := 0) rfl rfl rfl (Nat.le_of_ble_eq_true rfl) (cs2 := [.int .i64 (drawV t z ((-1))), .int .i64 (drawV t z (1))]) rfl (rl_own (L' := [(b3, .cells #[.int .i64 (drawV t z ((-1))), .int .i64 (drawV t z (1))] 30 (0, 0))]) rfl ?_)
  refine ro (exd_assign (v := .int .i64 0) rfl) <| rl_end ?_
  refine fl_ret Tryd.func18 rfl (vs := [.agg #[.int .i64 (drawV t z ((-1))), .int .i64 (drawV t z (1))], .int .i64 0]) (fun h_ H_ => ⟨.agg #[.int .i64 (drawV t z ((-1))), .int .i64 (drawV t z (1))], _, rfl, (wpS_bind (wpS_pure (wpS_loadVarN tA30 tS30 (vs := [.int .i64 (drawV t z ((-1))), .int .i64 (drawV t z (1))]) rfl (fun j_ v_ e_ => by rw [add_mk]; exact H_.ocell (i := 0) rfl (by simpa using e_)) ⟨rfl, rfl⟩))), ⟨.int .i64 0, _, rfl, rfl, rfl⟩⟩) (v := .tuple #[.agg #[.int .i64 (drawV t z ((-1))), .int .i64 (drawV t z (1))], .int .i64 0]) rfl ?_
  exact fun h_ H_ => K _ _ ⟨by rw [ha_, houseC_yes ha_]; first | rfl | (rw [houseC_yes ha_]), H_.kept⟩
theorem c71 (md : Md) (h : Heap) (p : PHeap) (hp : Per p h) (a1 a2 a3 : Option Addr) (c1 c2 c3 : Nat) (t : Tn) (T : TownP p a1 t.nH a2 t.nW a3 t.m t) (O : OkT t) (z s : Int) (S : Sg ⟨-1, z, s⟩) (hz : 0 ≤ z ∧ z.toNat < t.nW) (bT bZ : Nat) (hT : p bT = some (.cells #[.slice a1 t.nH c1, .slice a2 t.nW c2, .slice a3 t.m c3] 25 (0, 0))) (hZ : p bZ = some (.cells #[.int .i64 z] 3 (0, 0))) : CallsX Tryd.prog md 71 #[.int .i64 (s), .pointer (some ⟨bT, 0, none⟩), .pointer (some ⟨bZ, 0, none⟩)] h fun v h' => v = .int .i64 (restV t z s) ∧ Keep h h' := by
 refine calls_intro (Φ := fun h_ => St h [] p h_ []) Tryd.func71 rfl (tm := zq1 (zq4 (zq16 []))) rfl ?_ (St.start h _ hp)
 intro c₀ cs Stop K
 have oH := O.nh
 have oW := O.nw
 have oM := O.nm
 refine fsr <| rt (exd_assign (v := .int .i64 0) rfl) (tm' := zq1 (zq4 _)) rfl <| ren ?_
 obtain ⟨Gw6, GX7, hG5_⟩ := sk2 (fun (v_ : Value) (x_ : Pcs) (w6 : Value) (X7 : Pcs) => v_ = w6 ∧ (OwnS 3 1 w6 (ics (fairP t (⟨(-1), z, s⟩ : Wi))) X7) ∧ x_ = (X7 ++ []))
 obtain ⟨Gw9, Gw10, GX11, GX12, hG6_⟩ := sk4 (fun (v_ : Value) (x_ : Pcs) (w9 : Value) (w10 : Value) (X11 : Pcs) (X12 : Pcs) => v_ = .tuple #[w9, w10] ∧ (OwnS 3 1 w9 (ics (lackL t (fairP t (⟨(-1), z, s⟩ : Wi)))) X11) ∧ (OwnS 3 1 w10 (ics (hasL t (fairP t (⟨(-1), z, s⟩ : Wi)))) X12) ∧ x_ = (X12 ++ (X11 ++ [])))
 refine rs_as (fl_mixed2 (C := []) (A := ([] : Pcs)) 11 [[], [], [], [], [], [], [], [6], [], [], [], []] [] [6] [0, 1, 2, 3, 4, 7, 8, 9, 10] (fun _ => []) (fun i_ => match i_ with | 6 => [5] | _ => []) (fun i_ => match i_ with | 0 => [] | 1 => [] | 2 => [] | 3 => [] | 4 => [2, 3] | 5 => [1, 4] | 6 => [0, 5] | 7 => [6] | 8 => [6, 7] | 9 => [6, 7] | 10 => [0, 1, 2, 3, 4, 5, 6, 7, 8] | _ => []) (fun i_ val_ pc_ v_ x_ => match i_ with | 0 => v_ = .agg #[.slice a1 t.nH c1, .slice a2 t.nW c2, .slice a3 t.m c3] ∧ x_ = [] | 1 => v_ = .agg #[.slice a1 t.nH c1, .slice a2 t.nW c2, .slice a3 t.m c3] ∧ x_ = [] | 2 => v_ = .int .i64 (z) ∧ x_ = [] | 3 => v_ = .int .i64 (s) ∧ x_ = [] | 4 => v_ = .agg #[.int .i64 (-1), .int .i64 (z), .int .i64 (s)] ∧ x_ = [] | 5 => ∃ w6 : Value, ∃ X7 : Pcs, v_ = w6 ∧ (OwnS 3 1 w6 (ics (fairP t (⟨(-1), z, s⟩ : Wi))) X7) ∧ x_ = (X7 ++ []) | 6 => ∃ w9 : Value, ∃ w10 : Value, ∃ X11 : Pcs, ∃ X12 : Pcs, v_ = .tuple #[w9, w10] ∧ (OwnS 3 1 w9 (ics (lackL t (fairP t (⟨(-1), z, s⟩ : Wi)))) X11) ∧ (OwnS 3 1 w10 (ics (hasL t (fairP t (⟨(-1), z, s⟩ : Wi)))) X12) ∧ x_ = (X12 ++ (X11 ++ [])) | 7 => v_ = .tuple #[(Gw9 (val_ 6) (pc_ 6)), (Gw10 (val_ 6) (pc_ 6))] ∧ x_ = [] | 8 => v_ = (Gw9 (val_ 6) (pc_ 6)) ∧ x_ = [] | 9 => v_ = (Gw10 (val_ 6) (pc_ 6)) ∧ x_ = [] | 10 => v_ = (Gw9 (val_ 6) (pc_ 6)) ∧ x_ = [] | _ => True) (fun val4 => [.int .i64 (s), .pointer (some ⟨bT, 0, none⟩), .pointer (some ⟨bZ, 0, none⟩), undef, .int .i64 0, (val4 10), undef, (val4 7), (val4 0), (val4 1), (val4 2), (val4 3), (val4 4), (val4 5), (val4 6), (val4 8), (val4 9), undef, undef, undef, undef]) mixed (by kernel_rfl) (Nat.le_of_ble_eq_true rfl) (by kernel_rfl) (by kernel_rfl) (by kernel_rfl) (fun _ _ => ⟨fun _ _ h => h.2, ⟨fun _ _ h => h.2, ⟨fun _ _ h => h.2, ⟨fun _ _ h => h.2, ⟨fun _ _ h => h.2, ⟨fun _ _ h => h.2, ⟨fun _ _ h => h.2, ⟨fun _ _ h => h.2, ⟨fun _ _ h => h.2, trivial⟩⟩⟩⟩⟩⟩⟩⟩⟩) (fun _ => by kernel_rfl) (by kernel_rfl) ?_ ?_) (fun h_ H_ => St.swap (A := ([] : Pcs)) (U := []) H_)
 ·
  refine mixes_cons rfl (opmix2 ?_) ?_
  ·
   intro val4 pc5 hQ_ hX_
   obtain ⟨q_, hq0_⟩ : ∃ q_ : Value → Pcs → Prop, q_ = (fun v_ x_ => v_ = .agg #[.slice a1 t.nH c1, .slice a2 t.nW c2, .slice a3 t.m c3] ∧ x_ = []) := ⟨_, rfl⟩
   refine ⟨(zq1 (zq4 (zq16 []))), [], q_, rfl, rfl, (fun _ _ z_ => by subst hq0_; exact z_), ?_⟩
   subst hq0_
   exact mix_det mn (fun _ h_ H_ => exd_loadN_per H_ tA25 tS25 rfl (vs := [.slice a1 t.nH c1, .slice a2 t.nW c2, .slice a3 t.m c3]) rfl (per_cells (n := 3) hT rfl)) ⟨rfl, rfl⟩
  refine mixes_cons rfl (opmix2 ?_) ?_
  ·
   intro val4 pc5 hQ_ hX_
   obtain ⟨q_, hq0_⟩ : ∃ q_ : Value → Pcs → Prop, q_ = (fun v_ x_ => v_ = .agg #[.slice a1 t.nH c1, .slice a2 t.nW c2, .slice a3 t.m c3] ∧ x_ = []) := ⟨_, rfl⟩
   refine ⟨(zq1 (zq4 (zq16 []))), [], q_, rfl, rfl, (fun _ _ z_ => by subst hq0_; exact z_), ?_⟩
   subst hq0_
   exact mix_det mn (fun _ h_ H_ => exd_loadN_per H_ tA25 tS25 rfl (vs := [.slice a1 t.nH c1, .slice a2 t.nW c2, .slice a3 t.m c3]) rfl (per_cells (n := 3) hT rfl)) ⟨rfl, rfl⟩
  refine mixes_cons rfl (opmix2 ?_) ?_
  ·
   intro val4 pc5 hQ_ hX_
   obtain ⟨q_, hq0_⟩ : ∃ q_ : Value → Pcs → Prop, q_ = (fun v_ x_ => v_ = .int .i64 (z) ∧ x_ = []) := ⟨_, rfl⟩
   refine ⟨(zq1 (zq4 (zq16 []))), [], q_, rfl, rfl, (fun _ _ z_ => by subst hq0_; exact z_), ?_⟩
   subst hq0_
   exact mix_det mn (fun _ h_ H_ => exd_load_per H_ tA3 rfl (v := .int .i64 (z)) (per_cell hZ rfl)) ⟨rfl, rfl⟩
  refine mixes_cons rfl (opmix2 ?_) ?_
  ·
   intro val4 pc5 hQ_ hX_
   obtain ⟨q_, hq0_⟩ : ∃ q_ : Value → Pcs → Prop, q_ = (fun v_ x_ => v_ = .int .i64 (s) ∧ x_ = []) := ⟨_, rfl⟩
   refine ⟨(zq1 (zq4 (zq16 []))), [], q_, rfl, rfl, (fun _ _ z_ => by subst hq0_; exact z_), ?_⟩
   subst hq0_
   exact mix_det mn (fun _ h_ H_ => exd_move (v := .int .i64 (s)) rfl) ⟨rfl, rfl⟩
  refine mixes_cons rfl (opmix2 ?_) ?_
  ·
   intro val4 pc5 hQ_ hX_
   have e2_ : val4 2 = .int .i64 (z) := (hQ_ 2 rfl).1
   have e3_ : val4 3 = .int .i64 (s) := (hQ_ 3 rfl).1
   obtain ⟨q_, hq0_⟩ : ∃ q_ : Value → Pcs → Prop, q_ = (fun v_ x_ => v_ = .agg #[.int .i64 (-1), .int .i64 (z), .int .i64 (s)] ∧ x_ = []) := ⟨_, rfl⟩
   refine ⟨(zq1 (zq4 (zq16 []))), [], q_, (by rw [e2_, e3_]), rfl, (fun _ _ z_ => by subst hq0_; exact z_), ?_⟩
   subst hq0_
   exact mix_det mn (fun _ h_ H_ => exd_build tZ72 tP72 (vs := [(0, .int .i64 (-1)), (1, .int .i64 (z)), (2, .int .i64 (s))]) rfl (cells := #[.int .i64 (-1), .int .i64 (z), .int .i64 (s)]) rfl) ⟨rfl, rfl⟩
  refine mixes_cons rfl (opmix2 ?_) ?_
  ·
   intro val4 pc5 hQ_ hX_
   have e1_ : val4 1 = .agg #[.slice a1 t.nH c1, .slice a2 t.nW c2, .slice a3 t.m c3] := (hQ_ 1 rfl).1
   have e4_ : val4 4 = .agg #[.int .i64 (-1), .int .i64 (z), .int .i64 (s)] := (hQ_ 4 rfl).1
   obtain ⟨q_, hq0_⟩ : ∃ q_ : Value → Pcs → Prop, q_ = (fun v_ x_ => ∃ w6 : Value, ∃ X7 : Pcs, v_ = w6 ∧ (OwnS 3 1 w6 (ics (fairP t (⟨(-1), z, s⟩ : Wi))) X7) ∧ x_ = (X7 ++ [])) := ⟨_, rfl⟩
   refine ⟨(zq1 (zq4 (zq16 []))), [], q_, (by rw [e1_, e4_]), rfl, (fun _ _ z_ => by subst hq0_; exact z_), ?_⟩
   subst hq0_
   exact mix_call mn (first := []) (cap := []) rfl rfl fC68 (fun _ h_ H_ => (c68 md _ _ H_.pe _ _ _ _ _ _ t (show TownP _ _ _ _ _ _ _ t from ⟨T.h, T.w, T.y⟩) O (⟨(-1), z, s⟩ : Wi) S).mono fun v_ h2_ ⟨w6, X7, e_, o8, N_⟩ => ⟨_, ⟨w6, X7, e_, o8, rfl⟩, H_.callN (show New _ _ (X7 ++ []) by rw [List.append_nil]; exact N_)⟩)
  refine mixes_cons rfl (opmix2 ?_) ?_
  ·
   intro val4 pc5 hQ_ hX_
   have e0_ : val4 0 = .agg #[.slice a1 t.nH c1, .slice a2 t.nW c2, .slice a3 t.m c3] := (hQ_ 0 rfl).1
   obtain ⟨e5_, o8, x5_⟩ := hG5_ _ _ (hQ_ 5 rfl)
   generalize hg_w6 : Gw6 (val4 5) (pc5 5) = w6 at *
   generalize hg_X7 : GX7 (val4 5) (pc5 5) = X7 at *
   obtain ⟨q_, hq0_⟩ : ∃ q_ : Value → Pcs → Prop, q_ = (fun v_ x_ => ∃ w9 : Value, ∃ w10 : Value, ∃ X11 : Pcs, ∃ X12 : Pcs, v_ = .tuple #[w9, w10] ∧ (OwnS 3 1 w9 (ics (lackL t (fairP t (⟨(-1), z, s⟩ : Wi)))) X11) ∧ (OwnS 3 1 w10 (ics (hasL t (fairP t (⟨(-1), z, s⟩ : Wi)))) X12) ∧ x_ = (X12 ++ (X11 ++ []))) := ⟨_, rfl⟩
   refine ⟨(zq1 (zq4 (zq16 []))), ((X7 ++ []) ++ []), q_, (by rw [e0_, e5_]), (by rw [← x5_]; rfl), (fun _ _ z_ => by subst hq0_ hg_w6 hg_X7; exact z_), ?_⟩
   subst hq0_
   exact mix_call mn (first := []) (cap := []) rfl rfl fC67 (fun _ h_ H_ => lent_left md (show TownP _ _ _ _ _ _ _ t from ⟨T.h, T.w, T.y⟩) O (fairP_best O.toOk S).div o8 ((ics_length _).trans (fairP_len t _)) (fun x_ h_ => by simp [h_]) H_)
  refine mixes_cons rfl (opmix2 ?_) ?_
  ·
   intro val4 pc5 hQ_ hX_
   obtain ⟨e6_, o13, o14, x6_⟩ := hG6_ _ _ (hQ_ 6 rfl)
   generalize hg_w9 : Gw9 (val4 6) (pc5 6) = w9 at *
   generalize hg_w10 : Gw10 (val4 6) (pc5 6) = w10 at *
   generalize hg_X11 : GX11 (val4 6) (pc5 6) = X11 at *
   generalize hg_X12 : GX12 (val4 6) (pc5 6) = X12 at *
   obtain ⟨q_, hq0_⟩ : ∃ q_ : Value → Pcs → Prop, q_ = (fun v_ x_ => v_ = .tuple #[w9, w10] ∧ x_ = []) := ⟨_, rfl⟩
   refine ⟨(zq1 (zq4 (zq16 []))), [], q_, (by rw [e6_]), rfl, (fun _ _ z_ => by subst hq0_ hg_w9 hg_w10 hg_X11 hg_X12; exact z_), ?_⟩
   subst hq0_
   exact mix_det mn (fun _ h_ H_ => exd_move (v := .tuple #[w9, w10]) rfl) ⟨rfl, rfl⟩
  refine mixes_cons rfl (opmix2 ?_) ?_
  ·
   intro val4 pc5 hQ_ hX_
   obtain ⟨e6_, o13, o14, x6_⟩ := hG6_ _ _ (hQ_ 6 rfl)
   have e7_ : val4 7 = .tuple #[(Gw9 (val4 6) (pc5 6)), (Gw10 (val4 6) (pc5 6))] := (hQ_ 7 rfl).1
   generalize hg_w9 : Gw9 (val4 6) (pc5 6) = w9 at *
   generalize hg_w10 : Gw10 (val4 6) (pc5 6) = w10 at *
   generalize hg_X11 : GX11 (val4 6) (pc5 6) = X11 at *
   generalize hg_X12 : GX12 (val4 6) (pc5 6) = X12 at *
   obtain ⟨q_, hq0_⟩ : ∃ q_ : Value → Pcs → Prop, q_ = (fun v_ x_ => v_ = w9 ∧ x_ = []) := ⟨_, rfl⟩
   refine ⟨(zq1 (zq4 (zq16 []))), [], q_, (by rw [e6_, e7_]), rfl, (fun _ _ z_ => by subst hq0_ hg_w9 hg_w10 hg_X11 hg_X12; exact z_), ?_⟩
   subst hq0_
   exact mix_det mn (fun _ h_ H_ => exd_extract rfl (v := w9) rfl) ⟨rfl, rfl⟩
  refine mixes_cons rfl (opmix2 ?_) ?_
  ·
   intro val4 pc5 hQ_ hX_
   obtain ⟨e6_, o13, o14, x6_⟩ := hG6_ _ _ (hQ_ 6 rfl)
   have e7_ : val4 7 = .tuple #[(Gw9 (val4 6) (pc5 6)), (Gw10 (val4 6) (pc5 6))] := (hQ_ 7 rfl).1
   generalize hg_w9 : Gw9 (val4 6) (pc5 6) = w9 at *
   generalize hg_w10 : Gw10 (val4 6) (pc5 6) = w10 at *
   generalize hg_X11 : GX11 (val4 6) (pc5 6) = X11 at *
   generalize hg_X12 : GX12 (val4 6) (pc5 6) = X12 at *
   obtain ⟨q_, hq0_⟩ : ∃ q_ : Value → Pcs → Prop, q_ = (fun v_ x_ => v_ = w10 ∧ x_ = []) := ⟨_, rfl⟩
   refine ⟨(zq1 (zq4 (zq16 []))), [], q_, (by rw [e6_, e7_]), rfl, (fun _ _ z_ => by subst hq0_ hg_w9 hg_w10 hg_X11 hg_X12; exact z_), ?_⟩
   subst hq0_
   exact mix_det mn (fun _ h_ H_ => exd_extract rfl (v := w10) rfl) ⟨rfl, rfl⟩
  refine mixes_cons rfl (opmix2 ?_) ?_
  ·
   intro val4 pc5 hQ_ hX_
   have e0_ : val4 0 = .agg #[.slice a1 t.nH c1, .slice a2 t.nW c2, .slice a3 t.m c3] := (hQ_ 0 rfl).1
   have e1_ : val4 1 = .agg #[.slice a1 t.nH c1, .slice a2 t.nW c2, .slice a3 t.m c3] := (hQ_ 1 rfl).1
   have e2_ : val4 2 = .int .i64 (z) := (hQ_ 2 rfl).1
   have e3_ : val4 3 = .int .i64 (s) := (hQ_ 3 rfl).1
   have e4_ : val4 4 = .agg #[.int .i64 (-1), .int .i64 (z), .int .i64 (s)] := (hQ_ 4 rfl).1
   obtain ⟨e5_, o8, x5_⟩ := hG5_ _ _ (hQ_ 5 rfl)
   obtain ⟨e6_, o13, o14, x6_⟩ := hG6_ _ _ (hQ_ 6 rfl)
   have e7_ : val4 7 = .tuple #[(Gw9 (val4 6) (pc5 6)), (Gw10 (val4 6) (pc5 6))] := (hQ_ 7 rfl).1
   have e8_ : val4 8 = (Gw9 (val4 6) (pc5 6)) := (hQ_ 8 rfl).1
   generalize hg_w6 : Gw6 (val4 5) (pc5 5) = w6 at *
   generalize hg_X7 : GX7 (val4 5) (pc5 5) = X7 at *
   generalize hg_w9 : Gw9 (val4 6) (pc5 6) = w9 at *
   generalize hg_w10 : Gw10 (val4 6) (pc5 6) = w10 at *
   generalize hg_X11 : GX11 (val4 6) (pc5 6) = X11 at *
   generalize hg_X12 : GX12 (val4 6) (pc5 6) = X12 at *
   obtain ⟨q_, hq0_⟩ : ∃ q_ : Value → Pcs → Prop, q_ = (fun v_ x_ => v_ = w9 ∧ x_ = []) := ⟨_, rfl⟩
   refine ⟨(zq1 (zq4 (zq16 []))), [], q_, (by rw [e0_, e1_, e2_, e3_, e4_, e5_, e6_, e7_, e8_]), rfl, (fun _ _ z_ => by subst hq0_ hg_w6 hg_X7 hg_w9 hg_w10 hg_X11 hg_X12; exact z_), ?_⟩
   subst hq0_
   exact mix_det mn (fun _ h_ H_ => exd_assign (v := w9) rfl) ⟨rfl, rfl⟩
  exact mixes_nil rfl
 intro val4 pc5 hQ_ hX_
 have e0_ : val4 0 = .agg #[.slice a1 t.nH c1, .slice a2 t.nW c2, .slice a3 t.m c3] := (hQ_ 0 (by decide)).1
 have e1_ : val4 1 = .agg #[.slice a1 t.nH c1, .slice a2 t.nW c2, .slice a3 t.m c3] := (hQ_ 1 (by decide)).1
 have e2_ : val4 2 = .int .i64 (z) := (hQ_ 2 (by decide)).1
 have e3_ : val4 3 = .int .i64 (s) := (hQ_ 3 (by decide)).1
 have e4_ : val4 4 = .agg #[.int .i64 (-1), .int .i64 (z), .int .i64 (s)] := (hQ_ 4 (by decide)).1
 obtain ⟨e5_, o8, x5_⟩ := hG5_ _ _ (hQ_ 5 (by decide))
 obtain ⟨e6_, o13, o14, x6_⟩ := hG6_ _ _ (hQ_ 6 (by decide))
 have e7_ : val4 7 = .tuple #[(Gw9 (val4 6) (pc5 6)), (Gw10 (val4 6) (pc5 6))] := (hQ_ 7 (by decide)).1
 have e8_ : val4 8 = (Gw9 (val4 6) (pc5 6)) := (hQ_ 8 (by decide)).1
 have e9_ : val4 9 = (Gw10 (val4 6) (pc5 6)) := (hQ_ 9 (by decide)).1
 have e10_ : val4 10 = (Gw9 (val4 6) (pc5 6)) := (hQ_ 10 (by decide)).1
 clear hQ_ hX_
 generalize Gw6 (val4 5) (pc5 5) = w6 at *
 generalize GX7 (val4 5) (pc5 5) = X7 at *
 generalize Gw9 (val4 6) (pc5 6) = w9 at *
 generalize Gw10 (val4 6) (pc5 6) = w10 at *
 generalize GX11 (val4 6) (pc5 6) = X11 at *
 generalize GX12 (val4 6) (pc5 6) = X12 at *
 refine rl_as (Φ := fun h_ => St h [] p h_ (([] : Pcs) ++ (pc5 6 ++ []))) ?_ (fun h_ H_ => H_.swap')
 rw [x6_]
 refine rl_own (L' := ([] : Pcs) ++ (X12 ++ (X11 ++ []))) (by simp) ?_
 refine rl_norm (tm' := (zq1 (zq4 (zq16 [])))) (by rw [e0_, e1_, e2_, e3_, e4_, e5_, e6_, e7_, e8_, e9_, e10_]) ?_
 refine rt (exd_assign (v := w10) rfl) (tm' := zq1 (zq2 (zq4 _))) rfl <| ren <| rl_start <| ro (exd_move (v := w10) rfl) <| rd (fun h_ H_ => exd_load_per H_ tA3 rfl (v := .int .i64 (z)) (per_cell hZ rfl)) ?_
 refine rt (exd_indexOI o14 Tryd.underlying22 tS3 rfl rfl (by omega) (by rw [((ics_length _).trans hasL_len)]; omega)) (tm' := zq1 (zq4 (zq16 []))) rfl ?_
 refine rd (fun h_ H_ => exd_loadO (A := ([] : Pcs)) (i := (z).toNat) (j := 0) (e := [.int .i64 (has t (fairP t (⟨(-1), z, s⟩ : Wi)) ((z).toNat))]) o14 H_ tA3 rfl rfl (hasO_at (by omega)) (u := .int .i64 (has t (fairP t (⟨(-1), z, s⟩ : Wi)) ((z).toNat))) rfl) ?_
 refine ro (exd_assign (v := .int .i64 (has t (fairP t (⟨(-1), z, s⟩ : Wi)) ((z).toNat))) rfl) <| rl_end ?_
 refine fl_ret Tryd.func71 rfl (vs := [.int .i64 (has t (fairP t (⟨(-1), z, s⟩ : Wi)) ((z).toNat))]) (fun h_ H_ => ⟨.int .i64 (has t (fairP t (⟨(-1), z, s⟩ : Wi)) ((z).toNat)), _, rfl, rfl, rfl⟩) (v := .int .i64 (has t (fairP t (⟨(-1), z, s⟩ : Wi)) ((z).toNat))) rfl ?_
 exact fun h_ H_ => K _ _ ⟨congrArg (Value.int .i64) (by rfl), H_.kept⟩
theorem c20 (md : Md) (h : Heap) (p : PHeap) (hp : Per p h) (a1 a2 a3 : Option Addr) (c1 c2 c3 : Nat) (t : Tn) (T : TownP p a1 t.nH a2 t.nW a3 t.m t) (hn : t.nH ≤ 40 ∧ t.nW ≤ 40 ∧ t.m ≤ 41) (z : Int) (_N : NoneP p) : CallsX Tryd.prog md 20 #[.agg #[.slice a1 t.nH c1, .slice a2 t.nW c2, .slice a3 t.m c3], .int .i64 (z)] h fun v h' => v = .tuple #[.int .i64 (dryC t z), .int .i64 (askB t (decide (0 ≤ z ∧ z ≤ (t.nW : Int) - 1)))] ∧ Keep h h' := by
 refine calls_intro (Φ := fun h_ => St h [] p h_ []) Tryd.func20 rfl (tm := zq1 (zq8 (zq16 []))) rfl ?_ (St.start h _ hp)
 intro c₀ cs Stop K
 refine fsr ?_
 refine rl_box mn (v := .agg #[.slice a1 t.nH c1, .slice a2 t.nW c2, .slice a3 t.m c3]) rfl fun b1 => rl_own (L' := [(b1, .cells #[.slice a1 t.nH c1, .slice a2 t.nW c2, .slice a3 t.m c3] 25 (0, 0))]) rfl ?_
 refine rl_norm (tm' := _::_::_::_) rfl ?_
 refine rl_box mn (v := .int .i64 (z)) rfl fun b2 => rl_own (L' := [(b2, .cells #[.int .i64 (z)] 3 (0, 0)), (b1, .cells #[.slice a1 t.nH c1, .slice a2 t.nW c2, .slice a3 t.m c3] 25 (0, 0))]) rfl ?_
 refine ro (exd_assign (v := .int .i64 0) rfl) <| rt (exd_assign (v := .int .i64 0) rfl) (tm' := zq2 (zq4 _)) rfl <| ren <| fl_seq ?_
 refine fl_drawn2 4 [[], [], [], [1, 2], [], []] mixed (by kernel_rfl) (Nat.le_of_ble_eq_true rfl) ?_
 refine wd (fun h_ H_ => exd_loadN_own H_ tA25 tS25 rfl (i := 1) rfl (vs := [.slice a1 t.nH c1, .slice a2 t.nW c2, .slice a3 t.m c3]) rfl rfl) ?_
 refine swr_det mn (fun h_ H_ => exd_loadN_own H_ tA25 tS25 rfl (i := 1) rfl (vs := [.slice a1 t.nH c1, .slice a2 t.nW c2, .slice a3 t.m c3]) rfl rfl) (tm' := zq2 (zq8 _)) rfl ?_
 refine wd (fun h_ H_ => exd_load_own H_ tA3 rfl (i := 0) rfl (v := .int .i64 (z)) rfl) ?_
 refine swr_call mn (first := []) (cap := []) rfl rfl fC70 (fun h_ H_ => (c70 md _ _ H_.pe _ _ _ _ _ _ _ _ _ t (show TownP _ _ _ _ _ _ _ t from ⟨T.h, T.w, T.y⟩) (by omega) (z)).mono fun v_ h2_ ⟨e_, k_⟩ => ⟨e_, H_.call k_⟩) (tm' := zq4 (zq8 _)) rfl ?_
 refine swr_nil rfl ?_
 refine rl_calld mn (first := []) (cap := []) rfl rfl fC64 (fun h_ H_ => c64 md _ _ H_.pe _ _ _ _ _ _ _ _ _ t (show TownP _ _ _ _ _ _ _ t from ⟨T.h, T.w, T.y⟩) (by omega) (decide (0 ≤ z ∧ z ≤ (t.nW : Int) - 1))) rfl ?_
 refine rt (exd_assign (v := .int .i64 (askB t (decide (0 ≤ z ∧ z ≤ (t.nW : Int) - 1)))) rfl) (tm' := zq1 (zq2 (zq4 _))) rfl <| ren <| rl_start <| ro (exd_move (v := .int .i64 (askB t (decide (0 ≤ z ∧ z ≤ (t.nW : Int) - 1)))) rfl) <| ro (exd_neq rfl rfl) <| rl_end ?_
 by_cases cc3 : askB t (decide (0 ≤ z ∧ z ≤ (t.nW : Int) - 1)) ≠ 0
 ·
  refine fl_then rfl (dtt cc3) <| fsr <| rt (exd_move (v := .int .i64 (askB t (decide (0 ≤ z ∧ z ≤ (t.nW : Int) - 1)))) rfl) (tm' := zq16 _) rfl <| ro (exd_assign (v := .int .i64 0) rfl) <| ro (exd_assign (v := .int .i64 (askB t (decide (0 ≤ z ∧ z ≤ (t.nW : Int) - 1)))) rfl) <| rl_end ?_
  refine fl_ret Tryd.func20 rfl (vs := [.int .i64 0, .int .i64 (askB t (decide (0 ≤ z ∧ z ≤ (t.nW : Int) - 1)))]) (fun h_ H_ => ⟨.int .i64 0, _, rfl, rfl, ⟨.int .i64 (askB t (decide (0 ≤ z ∧ z ≤ (t.nW : Int) - 1))), _, rfl, rfl, rfl⟩⟩) (v := .tuple #[.int .i64 0, .int .i64 (askB t (decide (0 ≤ z ∧ z ≤ (t.nW : Int) - 1)))]) rfl ?_
  exact fun h_ H_ => K _ _ ⟨by rw [dryC_no ‹_›], H_.kept⟩
 ·
  refine fl_else rfl (dff cc3) <| fl_skip <| fl_seq ?_
  have ha_ : askB t (decide (0 ≤ z ∧ z ≤ (t.nW : Int) - 1)) = 0 := by omega
  obtain ⟨hc_, hd_⟩ := ask_ok ha_
  have hO : OkT t := okt_of hc_
  have hd2_ := of_decide_eq_true hd_
  have hz_ : 0 ≤ z ∧ z.toNat < t.nW := by omega
  refine rs_last 0 rfl (L' := [(b1, .cells #[.slice a1 t.nH c1, .slice a2 t.nW c2, .slice a3 t.m c3] 25 (0, 0))]) rfl fun p4 le5 hb6 => ?_
  refine rs_last 0 rfl (L' := []) rfl fun p7 le8 hb9 => ?_
  refine rl_start <| rt (exd_makeFunc (a := []) (b := [.pointer (some ⟨b1, 0, none⟩), .pointer (some ⟨b2, 0, none⟩)]) rfl rfl) (tm' := zq1 (zq8 (zq16 []))) rfl <| ro (exd_assign (v := .func (.func 71) #[] #[.pointer (some ⟨b1, 0, none⟩), .pointer (some ⟨b2, 0, none⟩)]) rfl) <| ren <| fl_block <| fsr ?_
  refine ro (exd_move (v := .func (.func 71) #[] #[.pointer (some ⟨b1, 0, none⟩), .pointer (some ⟨b2, 0, none⟩)]) rfl) ?_
  refine rl_calld mn (first := []) (cap := [.pointer (some ⟨b1, 0, none⟩), .pointer (some ⟨b2, 0, none⟩)]) rfl rfl fC71 (fun h_ H_ => c71 md _ _ H_.pe _ _ _ _ _ _ t (show TownP _ _ _ _ _ _ _ t from ⟨((T.h.mono le5).mono le8), ((T.w.mono le5).mono le8), ((T.y.mono le5).mono le8)⟩) hO _ ((-1)) (sg_of (by decide) (by decide)) hz_ _ _ hb9 (le8 _ _ hb6)) (tm' := zq1 (zq8 (zq16 []))) rfl ?_
  refine ro (exd_eql rfl rfl) <| ro (exd_assign (v := .bool (decide (restV t z ((-1)) = 0))) rfl) <| rl_end ?_
  by_cases cc10 : restV t z ((-1)) = 0
  ·
   refine fl_then rfl (dtt cc10) <| fsr <| rt (exd_assign (v := .int .i64 1) rfl) (tm' := zq1 (zq4 _)) rfl <| ro (exd_assign (v := .int .i64 0) rfl) <| rl_end ?_
   refine fl_ret Tryd.func20 rfl (vs := [.int .i64 1, .int .i64 0]) (fun h_ H_ => ⟨.int .i64 1, _, rfl, rfl, ⟨.int .i64 0, _, rfl, rfl, rfl⟩⟩) (v := .tuple #[.int .i64 1, .int .i64 0]) rfl ?_
   exact fun h_ H_ => K _ _ ⟨by rw [ha_, dryC_yes ha_]; (unfold dryV; first | rw [if_pos ‹_›] | (rw [if_neg ‹_›, if_pos ‹_›]) | (rw [if_neg ‹_›, if_neg ‹_›])), H_.kept⟩
  ·
   refine fl_else rfl (dff cc10) <| fsr <| ro (exd_move (v := .func (.func 71) #[] #[.pointer (some ⟨b1, 0, none⟩), .pointer (some ⟨b2, 0, none⟩)]) rfl) ?_
   refine rl_calld mn (first := []) (cap := [.pointer (some ⟨b1, 0, none⟩), .pointer (some ⟨b2, 0, none⟩)]) rfl rfl fC71 (fun h_ H_ => c71 md _ _ H_.pe _ _ _ _ _ _ t (show TownP _ _ _ _ _ _ _ t from ⟨((T.h.mono le5).mono le8), ((T.w.mono le5).mono le8), ((T.y.mono le5).mono le8)⟩) hO _ (1) (sg_of (by decide) (by decide)) hz_ _ _ hb9 (le8 _ _ hb6)) (tm' := zq1 (zq8 (zq16 []))) rfl ?_
   refine ro (exd_gtr rfl rfl) <| ro (exd_assign (v := .bool (decide (0 < restV t z (1)))) rfl) <| rl_end ?_
   by_cases cc11 : 0 < restV t z (1)
   ·
    refine fl_then rfl (dtt cc11) <| fsr <| rt (exd_assign (v := .int .i64 2) rfl) (tm' := zq1 (zq4 _)) rfl <| ro (exd_assign (v := .int .i64 0) rfl) <| rl_end ?_
    refine fl_ret Tryd.func20 rfl (vs := [.int .i64 2, .int .i64 0]) (fun h_ H_ => ⟨.int .i64 2, _, rfl, rfl, ⟨.int .i64 0, _, rfl, rfl, rfl⟩⟩) (v := .tuple #[.int .i64 2, .int .i64 0]) rfl ?_
    exact fun h_ H_ => K _ _ ⟨by rw [ha_, dryC_yes ha_]; (unfold dryV; first | rw [if_pos ‹_›] | (rw [if_neg ‹_›, if_pos ‹_›]) | (rw [if_neg ‹_›, if_neg ‹_›])), H_.kept⟩
   ·
    refine fl_else rfl (dff cc11) <| fl_skip <| fl_inBlock <| fsr <| ro (exd_assign (v := .int .i64 3) rfl) <| rt (exd_assign (v := .int .i64 0) rfl) (tm' := zq2 (zq4 _)) rfl ?_
    refine rl_end ?_
    refine fl_ret Tryd.func20 rfl (vs := [.int .i64 3, .int .i64 0]) (fun h_ H_ => ⟨.int .i64 3, _, rfl, rfl, ⟨.int .i64 0, _, rfl, rfl, rfl⟩⟩) (v := .tuple #[.int .i64 3, .int .i64 0]) rfl ?_
    exact fun h_ H_ => K _ _ ⟨by rw [ha_, dryC_yes ha_]; (unfold dryV; first | rw [if_pos ‹_›] | (rw [if_neg ‹_›, if_pos ‹_›]) | (rw [if_neg ‹_›, if_neg ‹_›])), H_.kept⟩
theorem left_raw (md : Md) {h : Heap} {p : PHeap} (hp : Per p h) {a1 a2 a3 : Option Addr} {c1 c2 c3 : Nat} {t : Tn} (T : TownP p a1 t.nH a2 t.nW a3 t.m t) (V : Vd t) (h12 : t.m ≤ 12) {b : Option Addr} {m cb : Nat} {d : List Int} (D : Ints p b m d) (hm : m = t.m) (hd : ∀ i, i < d.length → 0 ≤ d.getD i 0 ∧ d.getD i 0 ≤ 9) :
  CallsX Tryd.prog md 67 #[.agg #[.slice a1 t.nH c1, .slice a2 t.nW c2, .slice a3 t.m c3], .slice b m cb] h fun v h' => ∃ w1 w2 X1 X2, v = .tuple #[w1, w2] ∧ OwnS 3 1 w1 (ics (lackL t d)) X1 ∧ OwnS 3 1 w2 (ics (hasL t d)) X2 ∧ New h h' (X2 ++ (X1 ++ [])) := by
 subst hm
 have o1 := V.nh; have o2 := V.nw; have hl := D.len
 refine c67 md h p hp a1 _ c1 a2 _ c2 a3 _ c3 t T ⟨by omega, by omega, by omega⟩ b t.m cb d D ⟨Nat.le_refl _, by omega⟩ (fun i hi => by have := hd i (by omega); unfold dv; omega) (fun i hi => ?_) (fun i hi => ?_) (fun i hi => ?_)
 ·
  have := V.h i hi; omega
 ·
  have := V.w i hi; omega
 ·
  have h1 := V.y i hi; exact ⟨⟨h1.1.1, by have := h1.1; omega⟩, h1.2.1.1, by have := h1.2.1; omega⟩
theorem c49 (md : Md) (h : Heap) (p : PHeap) (hp : Per p h) (a1 a2 a3 : Option Addr) (c1 c2 c3 : Nat) (t : Tn) (T : TownP p a1 t.nH a2 t.nW a3 t.m t) (hn : t.nH ≤ 40 ∧ t.nW ≤ 40 ∧ t.m ≤ 41) (b : Option Addr) (m cb : Nat) (d : List Int) (D : Ints p b m d) (hm : m ≤ 40) : CallsX Tryd.prog md 49 #[.agg #[.slice a1 t.nH c1, .slice a2 t.nW c2, .slice a3 t.m c3], .slice b m cb] h fun v h' => ∃ w X, v = .tuple #[w, .bool (decide (chkB t = 0 ∧ DivI t d)), .int .i64 (chkB t)] ∧ OwnS 3 1 w (ics (goodL t d)) X ∧ New h h' X := by
 refine calls_intro (Φ := fun h_ => St h [] p h_ []) Tryd.func49 rfl (tm := zq1 (zq8 (zq32 []))) rfl ?_ (St.start h _ hp)
 intro c₀ cs Stop K
 refine fsr ?_
 refine rl_box mn (v := .agg #[.slice a1 t.nH c1, .slice a2 t.nW c2, .slice a3 t.m c3]) rfl fun b1 => rl_own (L' := [(b1, .cells #[.slice a1 t.nH c1, .slice a2 t.nW c2, .slice a3 t.m c3] 25 (0, 0))]) rfl ?_
 refine ro (exd_assign (v := .slice none 0 0) rfl) <| rt (exd_assign (v := .bool (false)) rfl) (tm' := zq2 (zq4 _)) rfl <| ro (exd_assign (v := .int .i64 0) rfl) <| ren <| fsr <| rd (fun h_ H_ => exd_loadN_own H_ tA25 tS25 rfl (i := 0) rfl (vs := [.slice a1 t.nH c1, .slice a2 t.nW c2, .slice a3 t.m c3]) rfl rfl) ?_
 refine rl_calld mn (first := []) (cap := []) rfl rfl fC47 (fun h_ H_ => c47 md _ _ H_.pe _ _ _ _ _ _ _ _ _ t (show TownP _ _ _ _ _ _ _ t from ⟨T.h, T.w, T.y⟩) (by omega)) (tm' := zq4 (zq8 _)) rfl ?_
 refine ro (exd_assign (v := .int .i64 (chkB t)) rfl) <| ren <| rl_start <| ro (exd_move (v := .int .i64 (chkB t)) rfl) <| rt (exd_neq rfl rfl) (tm' := zq2 (zq4 (zq8 _))) rfl <| rl_end ?_
 by_cases cc2 : chkB t ≠ 0
 ·
  refine fl_then rfl (dtt cc2) <| fsr <| ro (exd_move (v := .int .i64 (chkB t)) rfl) <| ro (exd_assign (v := .slice none 0 0) rfl) <| rt (exd_assign (v := .bool (false)) rfl) (tm' := zq2 (zq4 _)) rfl <| ro (exd_assign (v := .int .i64 (chkB t)) rfl) ?_
  refine rl_end ?_
  refine fl_ret Tryd.func49 rfl (vs := [.slice none 0 0, .bool (false), .int .i64 (chkB t)]) (fun h_ H_ => ⟨.slice none 0 0, _, rfl, rfl, ⟨.bool (false), _, rfl, rfl, ⟨.int .i64 (chkB t), _, rfl, rfl, rfl⟩⟩⟩) (v := .tuple #[.slice none 0 0, .bool (false), .int .i64 (chkB t)]) rfl ?_
  exact fun h_ H_ => K _ _ ⟨_, [], by rw [decide_eq_false (fun z_ => absurd z_.1 ‹_›)], (OwnS.empty _ _).as (by rw [goodL, if_neg (fun z_ => absurd z_.1 ‹_›)]; rfl), (H_.sub (List.nil_sublist _)).new⟩
 ·
  refine fl_else rfl (dff cc2) <| fl_skip <| fl_seq <| fsr <| ro (exd_move (v := .slice b m cb) rfl) <| rt (exd_len Tryd.underlying22 rfl) (tm' := zq1 (zq16 _)) rfl ?_
  refine ro (exd_fieldAddr tF25_2 rfl (a' := ⟨b1, 2, none⟩) rfl) <| rd (fun h_ H_ => exd_load_own H_ tA23 rfl (i := 0) rfl (v := .slice a3 t.m c3) rfl) <| rt (exd_len Tryd.underlying23 rfl) (tm' := zq4 (zq16 _)) rfl <| ro (exd_neq rfl rfl) <| ro (exd_move (v := .bool (decide (((m : Nat) : Int) ≠ ((t.m : Nat) : Int)))) rfl) ?_
  by_cases cc3 : ((m : Nat) : Int) ≠ ((t.m : Nat) : Int)
  ·
   refine rl_pass (mo rfl rfl (dtt cc3)) (tm' := zq1 (zq2 (zq4 (zq16 _)))) rfl <| rp (mo rfl rfl (dtt cc3)) <| ro (exd_pick_t rfl (dtt cc3) (v := .bool (true)) rfl) <| rl_end <| fl_then rfl rfl <| fsr ?_
   refine rt (exd_assign (v := .slice none 0 0) rfl) (tm' := zq1 (zq4 _)) rfl <| ro (exd_assign (v := .bool (false)) rfl) <| ro (exd_assign (v := .int .i64 0) rfl) <| rl_end ?_
   refine fl_ret Tryd.func49 rfl (vs := [.slice none 0 0, .bool (false), .int .i64 0]) (fun h_ H_ => ⟨.slice none 0 0, _, rfl, rfl, ⟨.bool (false), _, rfl, rfl, ⟨.int .i64 0, _, rfl, rfl, rfl⟩⟩⟩) (v := .tuple #[.slice none 0 0, .bool (false), .int .i64 0]) rfl ?_
   have hc2_ : chkB t = 0 := by omega
   have hn_ : ¬ (chkB t = 0 ∧ DivI t d) := fun z_ => absurd z_.2 (by first | exact good_no hV (.inl ‹0 ≤ idxA (fun n => decide (n < 0)) (lackL t d)›) | exact good_no hV (.inr ‹0 ≤ idxA (fun n => decide (n < 0)) (hasL t d)›) | exact good_no9 ‹0 ≤ idxA (badN 9) d› | exact fun z_ => by have z2_ := z_.len; have z3_ := D.len; omega)
   exact fun h_ H_ => K _ _ ⟨_, [], by rw [decide_eq_false hn_, hc2_], (OwnS.empty _ _).as (by rw [goodL, if_neg hn_]; rfl), (H_.sub (List.nil_sublist _)).new⟩
  ·
   refine rl_det (ms rfl rfl (dff cc3)) (fun h_ H_ => exd_move (v := .slice b m cb) rfl) (tm' := zq1 (zq2 (zq4 (zq16 _)))) rfl ?_
   refine rl_calld (ms rfl rfl (dff cc3)) (first := []) (cap := []) rfl rfl fC83 (fun h_ H_ => c83 md _ _ H_.pe (.func (.func 89) #[] #[]) _ _ _ _ D (by omega) (badN 9) (fun h_ hp_ i_ hi_ => callv_of fC89 (c89 md _ _))) rfl ?_
   refine ro (exd_pick_f rfl (dff cc3) (v := .bool (decide (0 ≤ idxA (badN 9) d))) rfl) <| rl_end ?_
   by_cases cc4 : 0 ≤ idxA (badN 9) d
   ·
    refine fl_then rfl (dtt cc4) <| fsr <| rt (exd_assign (v := .slice none 0 0) rfl) (tm' := zq1 (zq4 _)) rfl <| ro (exd_assign (v := .bool (false)) rfl) <| ro (exd_assign (v := .int .i64 0) rfl) <| rl_end ?_
    refine fl_ret Tryd.func49 rfl (vs := [.slice none 0 0, .bool (false), .int .i64 0]) (fun h_ H_ => ⟨.slice none 0 0, _, rfl, rfl, ⟨.bool (false), _, rfl, rfl, ⟨.int .i64 0, _, rfl, rfl, rfl⟩⟩⟩) (v := .tuple #[.slice none 0 0, .bool (false), .int .i64 0]) rfl ?_
    have hc2_ : chkB t = 0 := by omega
    have hn_ : ¬ (chkB t = 0 ∧ DivI t d) := fun z_ => absurd z_.2 (by first | exact good_no hV (.inl ‹0 ≤ idxA (fun n => decide (n < 0)) (lackL t d)›) | exact good_no hV (.inr ‹0 ≤ idxA (fun n => decide (n < 0)) (hasL t d)›) | exact good_no9 ‹0 ≤ idxA (badN 9) d› | exact fun z_ => by have z2_ := z_.len; have z3_ := D.len; omega)
    exact fun h_ H_ => K _ _ ⟨_, [], by rw [decide_eq_false hn_, hc2_], (OwnS.empty _ _).as (by rw [goodL, if_neg hn_]; rfl), (H_.sub (List.nil_sublist _)).new⟩
   ·
    refine fl_else rfl (dff cc4) <| fl_skip <| fl_seq ?_
    have hc_ : chkB t = 0 := by omega
    obtain ⟨h12, hV⟩ := vd_of hc_
    have h9_ : ¬ 0 ≤ idxA (badN 9) d := ‹_›
    have hl_ : d.length = t.m := by have z_ := D.len; omega
    refine rl_start ?_
    refine rl_det mn (fun h_ H_ => exd_loadN_own H_ tA25 tS25 rfl (i := 0) rfl (vs := [.slice a1 t.nH c1, .slice a2 t.nW c2, .slice a3 t.m c3]) rfl rfl) (tm' := zq1 (zq2 (zq8 (zq16 _)))) rfl ?_
    refine ro (exd_move (v := .slice b m cb) rfl) ?_
    refine rl_own (L' := ([(b1, .cells #[.slice a1 t.nH c1, .slice a2 t.nW c2, .slice a3 t.m c3] 25 (0, 0))] : Pcs) ++ []) rfl ?_
    refine rl_call mn (first := []) (cap := []) rfl rfl fC67 (R := fun v_ h_ => ∃ w5 : Value, ∃ w6 : Value, ∃ X7 : Pcs, ∃ X8 : Pcs, v_ = .tuple #[w5, w6] ∧ (OwnS 3 1 w5 (ics (lackL t d)) X7) ∧ (OwnS 3 1 w6 (ics (hasL t d)) X8) ∧ St h [] p h_ (([(b1, .cells #[.slice a1 t.nH c1, .slice a2 t.nW c2, .slice a3 t.m c3] 25 (0, 0))] : Pcs) ++ ((X8 ++ (X7 ++ [])) ++ []))) (fun h_ H_ => (left_raw md H_.pe (show TownP _ _ _ _ _ _ _ t from ⟨T.h, T.w, T.y⟩) hV h12 D (by omega) (badN_all h9_)).mono fun v_ h2_ ⟨w5, w6, X7, X8, e_, o9, o10, N_⟩ => ⟨w5, w6, X7, X8, e_, o9, o10, H_.callNA N_⟩) fun v_ => ?_
    refine rl_ex fun w5 => rl_ex fun w6 => rl_ex fun X7 => rl_ex fun X8 => rl_and fun ev_ => rl_and fun o9 => rl_and fun o10 => ?_
    have ev_ := ev_.symm; subst ev_
    refine rl_own (L' := ([(b1, .cells #[.slice a1 t.nH c1, .slice a2 t.nW c2, .slice a3 t.m c3] 25 (0, 0))] : Pcs) ++ (X8 ++ (X7 ++ []))) (by simp) ?_
    refine rt (exd_move (v := .tuple #[w5, w6]) rfl) (tm' := zq2 (zq8 (zq16 _))) rfl <| ro (exd_extract rfl (v := w5) rfl) <| ro (exd_extract rfl (v := w6) rfl) <| rt (exd_assign (v := w5) rfl) (tm' := zq1 (zq4 _)) rfl <| ro (exd_assign (v := w6) rfl) <| ren ?_
    refine rl_start <| ro (exd_assign (v := .func (.func 90) #[] #[]) rfl) <| ren <| fsr <| rt (exd_move (v := w5) rfl) (tm' := zq1 (zq8 (zq32 []))) rfl <| ro (exd_move (v := .func (.func 90) #[] #[]) rfl) ?_
    refine rl_calld mn (first := []) (cap := []) rfl rfl fC83 (fun h_ H_ => show CallsX Tryd.prog md 83 #[w5, .func (.func 90) #[] #[]] h_ (fun v_ h2_ => v_ = .bool (decide (0 ≤ idxA ((fun n => decide (n < 0))) (lackL t d))) ∧ Keep h_ h2_) from lend_to (n := t.nH) o9 ((ics_length _).trans lackL_len) H_ (fun x_ h_ => by simp [h_]) fun p_ a_ c_ hp_ _ hv_ D_ => by rw [hv_]; exact c83 md _ _ hp_ (.func (.func 90) #[] #[]) _ _ _ _ (show Ints _ _ _ (lackL t d) from D_) (by omega) ((fun n => decide (n < 0))) (fun h_ hp_ i_ hi_ => callv_of fC90 (c90 md _ _))) rfl ?_
    refine rt (exd_move (v := .bool (decide (0 ≤ idxA ((fun n => decide (n < 0))) (lackL t d)))) rfl) (tm' := zq1 (zq8 (zq32 []))) rfl ?_
    by_cases cc11 : 0 ≤ idxA ((fun n => decide (n < 0))) (lackL t d)
    ·
     refine rp (mo rfl rfl (dtt cc11)) <| rp (mo rfl rfl (dtt cc11)) <| rl_pass (mo rfl rfl (dtt cc11)) (tm' := zq1 (zq8 (zq32 []))) rfl <| ro (exd_pick_t rfl (dtt cc11) (v := .bool (true)) rfl) <| rl_end <| fl_then rfl rfl ?_
     refine fsr <| ro (exd_assign (v := .slice none 0 0) rfl) <| rt (exd_assign (v := .bool (false)) rfl) (tm' := zq2 (zq4 _)) rfl <| ro (exd_assign (v := .int .i64 0) rfl) <| rl_end ?_
     refine fl_ret Tryd.func49 rfl (vs := [.slice none 0 0, .bool (false), .int .i64 0]) (fun h_ H_ => ⟨.slice none 0 0, _, rfl, rfl, ⟨.bool (false), _, rfl, rfl, ⟨.int .i64 0, _, rfl, rfl, rfl⟩⟩⟩) (v := .tuple #[.slice none 0 0, .bool (false), .int .i64 0]) rfl ?_
     have hc2_ : chkB t = 0 := by omega
     have hn_ : ¬ (chkB t = 0 ∧ DivI t d) := fun z_ => absurd z_.2 (by first | exact good_no hV (.inl ‹0 ≤ idxA (fun n => decide (n < 0)) (lackL t d)›) | exact good_no hV (.inr ‹0 ≤ idxA (fun n => decide (n < 0)) (hasL t d)›) | exact good_no9 ‹0 ≤ idxA (badN 9) d› | exact fun z_ => by have z2_ := z_.len; have z3_ := D.len; omega)
     exact fun h_ H_ => K _ _ ⟨_, [], by rw [decide_eq_false hn_, hc2_], (OwnS.empty _ _).as (by rw [goodL, if_neg hn_]; rfl), (H_.sub (List.nil_sublist _)).new⟩
    ·
     refine rl_det (ms rfl rfl (dff cc11)) (fun h_ H_ => exd_move (v := w6) rfl) rfl ?_
     refine rl_det (ms rfl rfl (dff cc11)) (fun h_ H_ => exd_move (v := .func (.func 90) #[] #[]) rfl) (tm' := zq1 (zq8 (zq32 []))) rfl ?_
     refine rl_calld (ms rfl rfl (dff cc11)) (first := []) (cap := []) rfl rfl fC83 (fun h_ H_ => show CallsX Tryd.prog md 83 #[w6, .func (.func 90) #[] #[]] h_ (fun v_ h2_ => v_ = .bool (decide (0 ≤ idxA ((fun n => decide (n < 0))) (hasL t d))) ∧ Keep h_ h2_) from lend_to (n := t.nW) o10 ((ics_length _).trans hasL_len) H_ (fun x_ h_ => by simp [h_]) fun p_ a_ c_ hp_ _ hv_ D_ => by rw [hv_]; exact c83 md _ _ hp_ (.func (.func 90) #[] #[]) _ _ _ _ (show Ints _ _ _ (hasL t d) from D_) (by omega) ((fun n => decide (n < 0))) (fun h_ hp_ i_ hi_ => callv_of fC90 (c90 md _ _))) rfl ?_
     refine ro (exd_pick_f rfl (dff cc11) (v := .bool (decide (0 ≤ idxA ((fun n => decide (n < 0))) (hasL t d)))) rfl) <| rl_end ?_
     by_cases cc12 : 0 ≤ idxA ((fun n => decide (n < 0))) (hasL t d)
     ·
      refine fl_then rfl (dtt cc12) <| fsr <| rt (exd_assign (v := .slice none 0 0) rfl) (tm' := zq1 (zq4 _)) rfl <| ro (exd_assign (v := .bool (false)) rfl) <| ro (exd_assign (v := .int .i64 0) rfl) <| rl_end ?_
      refine fl_ret Tryd.func49 rfl (vs := [.slice none 0 0, .bool (false), .int .i64 0]) (fun h_ H_ => ⟨.slice none 0 0, _, rfl, rfl, ⟨.bool (false), _, rfl, rfl, ⟨.int .i64 0, _, rfl, rfl, rfl⟩⟩⟩) (v := .tuple #[.slice none 0 0, .bool (false), .int .i64 0]) rfl ?_
      have hc2_ : chkB t = 0 := by omega
      have hn_ : ¬ (chkB t = 0 ∧ DivI t d) := fun z_ => absurd z_.2 (by first | exact good_no hV (.inl ‹0 ≤ idxA (fun n => decide (n < 0)) (lackL t d)›) | exact good_no hV (.inr ‹0 ≤ idxA (fun n => decide (n < 0)) (hasL t d)›) | exact good_no9 ‹0 ≤ idxA (badN 9) d› | exact fun z_ => by have z2_ := z_.len; have z3_ := D.len; omega)
      exact fun h_ H_ => K _ _ ⟨_, [], by rw [decide_eq_false hn_, hc2_], (OwnS.empty _ _).as (by rw [goodL, if_neg hn_]; rfl), (H_.sub (List.nil_sublist _)).new⟩
     ·
      refine fl_else rfl (dff cc12) <| fl_skip <| fl_seq ?_
      refine rs_perm (List.Perm.append_left _ (List.perm_append_comm_assoc _ _ _)) ?_
      refine rs_own (L' := ([(b1, .cells #[.slice a1 t.nH c1, .slice a2 t.nW c2, .slice a3 t.m c3] 25 (0, 0))] : Pcs) ++ (X7 ++ (X8 ++ []))) rfl ?_
      refine rl_start <| rt (exd_move (v := w5) rfl) (tm' := zq1 (zq8 (zq32 []))) rfl ?_
      refine rl_call mn (first := []) (cap := []) rfl rfl fC91 (R := fun v_ h_ => ∃ X13 : Pcs, v_ = w5 ∧ OwnS 3 1 w5 (ics (srt (lackL t d))) X13 ∧ St h [] p h_ (([(b1, .cells #[.slice a1 t.nH c1, .slice a2 t.nW c2, .slice a3 t.m c3] 25 (0, 0))] : Pcs) ++ (X13 ++ (X8 ++ [])))) (fun h_ H_ => (c91 md _ _ _ _ w5 (lackL t d) _ _ o9 ((lackL t d).length) (⟨rfl, by rw [lackL_len]; have z_ := hV.nh; omega⟩) (H_.lentTo)).mono fun v_ h2_ ⟨X_, e_, o_, N_⟩ => ⟨X_, e_, o_, N_.lentBack⟩) fun v_ => ?_
      refine rl_ex fun X13 => rl_and fun ev_ => rl_and fun o14 => ?_
      have ev_ := ev_.symm; subst ev_
      refine ro (exd_assign (v := w5) rfl) <| rt (exd_assign (v := .bool (true)) rfl) (tm' := zq2 (zq4 _)) rfl <| ro (exd_assign (v := .int .i64 0) rfl) <| rl_end ?_
      refine fl_ret Tryd.func49 rfl (vs := [w5, .bool (true), .int .i64 0]) (fun h_ H_ => ⟨w5, _, rfl, rfl, ⟨.bool (true), _, rfl, rfl, ⟨.int .i64 0, _, rfl, rfl, rfl⟩⟩⟩) (v := .tuple #[w5, .bool (true), .int .i64 0]) rfl ?_
      have hD_ := good_yes hV hl_ h9_ ‹¬ 0 ≤ idxA (fun n => decide (n < 0)) (lackL t d)› ‹¬ 0 ≤ idxA (fun n => decide (n < 0)) (hasL t d)›
      exact fun h_ H_ => K _ _ ⟨_, _, by rw [decide_eq_true (And.intro hc_ hD_), hc_], o14.as (by rw [goodL, if_pos ⟨hc_, hD_⟩]; rfl), ((H_.dropA).sub (List.sublist_append_left _ _)).new⟩
end Go.Proofs.YtalfgojocdonhaaDoor
namespace Go.Proofs.YtalfgojocdonhaaDoor
open Go.X Go.X.Flow Go.Conc
set_option maxRecDepth 10000
set_option synthInstance.maxSize 2000

set_option maxHeartbeats 1000000
theorem c108 (md : Md) (h : Heap) (p : PHeap) (hp : Per p h) (x : Nat) (hx : 0 < x ∧ x < 64) (Z : TabP p) : CallsX Tryd.prog md 108 #[.int .u64 (((x : Nat) : Int))] h fun v h' => v = .int .i64 ((tzN x : Nat) : Int) ∧ Keep h h' := by
 refine calls_intro (Φ := fun h_ => St h [] p h_ []) Tryd.func108 rfl (tm := zq2 (zq4 (zq8 []))) rfl ?_ (St.start h _ hp)
 intro c₀ cs Stop K
 refine fsr <| ro (exd_assign (v := .int .i64 0) rfl) <| ren <| fsr <| ro (exd_move (v := .int .u64 (((x : Nat) : Int))) rfl) <| rt (exd_eql rfl rfl) (tm' := zq1 (zq4 _)) rfl ?_
 refine rl_end ?_
 by_cases cc1 : ((x : Nat) : Int) = 0
 ·
  exact absurd cc1 (by omega)
 ·
  refine fl_else rfl (dff cc1) <| fl_skip <| fl_seq ?_
  have tb_ := tab64_bd (tzF x)
  refine rl_start <| ro (exd_move (v := .int .u64 (((x : Nat) : Int))) rfl) <| ro (exd_move (v := .int .u64 (((x : Nat) : Int))) rfl) ?_
  refine rt (exd_negU (a := x) rfl (by omega) (by omega)) (tm' := zq8 _) rfl ?_
  refine ro (exd_andU (a := x) (b := 18446744073709551616 - x) rfl rfl (by omega) (by omega)) ?_
  refine ro (exd_mulU (a := x &&& (18446744073709551616 - x)) (b := 285870213051353865) rfl rfl) ?_
  refine rt (exd_shrU (a := (x &&& (18446744073709551616 - x)) * 285870213051353865 % 18446744073709551616) (s := 58) rfl rfl (show _ ≤ 64 from by omega)) (tm' := zq2 (zq4 (zq8 []))) rfl ?_
  refine ro (exd_indexArr (i := ((x &&& (18446744073709551616 - x)) * 285870213051353865 % 18446744073709551616) / 2 ^ 58) Tryd.underlying116 tS5 rfl rfl (tzF_lt x)) <| rd (fun h_ H_ => exd_load_per H_ tA5 rfl (v := .int .u8 (((tab64.getD (tzF x) 0 : Nat) : Int))) (Z.at (tzF_lt x))) ?_
  refine rt (exd_conv ⟨_, Tryd.underlying5⟩ Tryd.underlying3 rfl (n := ((tab64.getD (tzF x) 0 : Nat) : Int)) (wr (by omega))) (tm' := zq2 (zq4 (zq8 []))) rfl ?_
  refine ro (exd_assign (v := .int .i64 (((tab64.getD (tzF x) 0 : Nat) : Int))) rfl) <| rl_end ?_
  refine fl_ret Tryd.func108 rfl (vs := [.int .i64 (((tab64.getD (tzF x) 0 : Nat) : Int))]) (fun h_ H_ => ⟨.int .i64 (((tab64.getD (tzF x) 0 : Nat) : Int)), _, rfl, rfl, rfl⟩) (v := .int .i64 (((tab64.getD (tzF x) 0 : Nat) : Int))) rfl ?_
  exact fun h_ H_ => K _ _ ⟨rfl, H_.kept⟩
theorem c98 (md : Md) (h : Heap) (p : PHeap) (hp : Per p h) (x : Nat) (hx : 0 < x ∧ x < 64) (Z : TabP p) : CallsX Tryd.prog md 98 #[.int .u64 (((x : Nat) : Int))] h fun v h' => v = .int .i64 ((tzN x : Nat) : Int) ∧ Keep h h' := by
 refine calls_intro (Φ := fun h_ => St h [] p h_ []) Tryd.func98 rfl (tm := zq8 []) rfl ?_ (St.start h _ hp)
 intro c₀ cs Stop K
 refine fsr <| ro (exd_assign (v := .int .i64 0) rfl) <| ren <| fl_else rfl rfl <| fl_skip <| fsr ?_
 refine rt (exd_move (v := .int .u64 (((x : Nat) : Int))) rfl) (tm' := zq8 []) rfl ?_
 refine rl_calld mn (first := []) (cap := []) rfl rfl fC108 (fun h_ H_ => c108 md _ _ H_.pe x (by omega) Z) rfl ?_
 refine ro (exd_assign (v := .int .i64 (((tzN x : Nat) : Int))) rfl) <| rl_end ?_
 refine fl_ret Tryd.func98 rfl (vs := [.int .i64 (((tzN x : Nat) : Int))]) (fun h_ H_ => ⟨.int .i64 (((tzN x : Nat) : Int)), _, rfl, rfl, rfl⟩) (v := .int .i64 (((tzN x : Nat) : Int))) rfl ?_
 exact fun h_ H_ => K _ _ ⟨rfl, H_.kept⟩
theorem c73 (md : Md) (h : Heap) (p : PHeap) (hp : Per p h) (g : Nat) (hg : g < 64) (Z : TabP p) : CallsX Tryd.prog md 73 #[.int .u64 (((g : Nat) : Int))] h fun v h' => ∃ w X, v = w ∧ OwnS 3 1 w (ics (LG g)) X ∧ New h h' X := by
 refine calls_intro (Φ := fun h_ => St h [] p h_ []) Tryd.func73 rfl (tm := zq16 []) rfl ?_ (St.start h _ hp)
 intro c₀ cs Stop K
 refine fsr <| rt (exd_assign (v := .slice none 0 0) rfl) (tm' := _::_::_::_) rfl <| ren <| rl_start <| ro (exd_assign (v := .slice none 0 0) rfl) <| ren ?_
 refine fl_block ?_
 refine fl_loop (m₀ := g + 1) (fun m_ tm_ h_ => ∃ (n : Nat) (q : Nat) (acc : List Int) (w : Value) (X1 : Pcs), m_ = q + 1 ∧ (∃ y1 : Nat → Value, tm_ = [.int .u64 (((q : Nat) : Int)), undef, .slice none 0 0, w, (y1 4), (y1 5), (y1 6), (y1 7), (y1 8), (y1 9), (y1 10), (y1 11), (y1 12), (y1 13), (y1 14), undef]) ∧ (q < 64) ∧ (popL n q = true) ∧ (acc ++ listG n q = LG g) ∧ (OwnS 3 1 w (ics acc) X1) ∧ St h [] p h_ (([] : Pcs) ++ (X1 ++ []))) (fun h_ H_ => ⟨6, g, [], (.slice none 0 0), [], rfl, (y_of rfl), hg, (pop6 g hg), rfl, (OwnS.empty _ _), H_⟩) ?_
 intro m_ tm_ IH2
 refine rs_ex fun n => rs_ex fun q => rs_ex fun acc => rs_ex fun w => rs_ex fun X1 => rs_and fun hm_ => rs_and fun ht_ => rs_and fun hq => rs_and fun hp => rs_and fun hl => rs_and fun o1 => ?_
 subst hm_; obtain ⟨y1, ht_⟩ := ht_; subst ht_
 refine fl_seq <| fl_seq ?_
 have hlen_ : acc.length ≤ 6 := by have z_ := congrArg List.length hl; simp only [List.length_append] at z_; have z2_ := LG_len g hg; omega
 refine rl_start <| ro (exd_move (v := .int .u64 (((q : Nat) : Int))) rfl) <| rt (exd_neq rfl rfl) (tm' := zq2 (zq4 _)) rfl <| rl_end ?_
 by_cases cc3 : ((q : Nat) : Int) ≠ 0
 ·
  refine fl_then rfl (dtt cc3) <| fl_skip <| fl_seq <| fl_block ?_
  have hq0_ : ¬ q = 0 := by omega
  obtain ⟨n', rfl⟩ : ∃ n', n = n' + 1 := by cases n with | zero => exact absurd (popL_zero hp) ‹_› | succ n' => exact ⟨n', rfl⟩
  refine rl_start <| ro (exd_move (v := w) rfl) <| ro (exd_move (v := .int .u64 (((q : Nat) : Int))) rfl) ?_
  refine rl_calld mn (first := []) (cap := []) rfl rfl fC98 (fun h_ H_ => c98 md _ _ H_.pe q (by omega) Z) (tm' := zq16 []) rfl ?_
  refine rl_buildO ([] : Pcs) mn Tryd.underlying22 tS3 tZ3 (Nat.le_of_ble_eq_true rfl) (vs := [(0, .int .i64 (((tzN q : Nat) : Int)))]) rfl rfl (es := [[.int .i64 (((tzN q : Nat) : Int))]]) rfl rfl rfl fun v4 X5 o6 => ?_
  refine rl_perm (List.Perm.append_left _ (List.perm_append_comm_assoc _ _ _)) ?_
  refine rl_own (L' := ([] : Pcs) ++ (X1 ++ (X5 ++ []))) rfl ?_
  refine rl_appendO ([] : Pcs) X1 X5 mn Tryd.underlying22 tS3 tZ3 rfl tB3 Tryd.underlying22 rfl rfl o1 o6 (ones_of rfl) (by rw [ics_length]; simp only [List.length_cons, List.length_nil]; omega) (by decide) fun v7 X8 o9 => ?_
  have o10 : OwnS 3 1 v7 (ics (acc ++ [((tzN q : Nat) : Int)])) X8 := o9.as (ics_snoc _ _)
  refine rt (exd_assign (v := v7) rfl) (tm' := zq4 _) rfl <| rl_end <| fl_inBlock <| rl_start <| ro (exd_move (v := .int .u64 (((q : Nat) : Int))) rfl) <| ro (exd_move (v := .int .u64 (((q : Nat) : Int))) rfl) ?_
  refine rt (exd_sub rfl rfl (n := ((q - 1 : Nat) : Int)) (by rw [show ((q : Nat) : Int) - 1 = ((q - 1 : Nat) : Int) from by omega]; exact wrU (by omega))) (tm' := zq1 (zq8 _)) rfl ?_
  refine ro (exd_andU (a := q) (b := q - 1) rfl rfl (by omega) (by omega)) ?_
  refine ro (exd_assign (v := .int .u64 (((q &&& (q - 1) : Nat) : Int))) rfl) <| rl_end ?_
  exact fun h_ H_ => IH2 _ _ (by have z_ := Nat.and_le_right (n := q) (m := q - 1); omega) h_ ⟨n', (q &&& (q - 1)), (acc ++ [((tzN q : Nat) : Int)]), v7, X8, rfl, (y_of rfl), (by have z_ := Nat.and_le_right (n := q) (m := q - 1); omega), (popL_step hp ‹_›), (by rw [List.append_assoc, List.singleton_append, ← listG_succ ‹_›]; exact hl), o10, H_⟩
 ·
  refine fl_else rfl (dff cc3) <| fl_exit rfl <| fsr <| rt (exd_move (v := w) rfl) (tm' := zq16 []) rfl <| ro (exd_assign (v := w) rfl) <| rl_end ?_
  refine fl_ret Tryd.func73 rfl (vs := [w]) (fun h_ H_ => ⟨w, _, rfl, rfl, rfl⟩) (v := w) rfl ?_
  have hq0_ : q = 0 := by omega
  have hl2_ : acc = LG g := by rw [hq0_, listG_zero, List.append_nil] at hl; exact hl
  exact fun h_ H_ => K _ _ ⟨_, _, rfl, o1.as (by rw [hl2_]), ((H_.dropA).sub (List.sublist_append_left _ _)).new⟩
theorem c76 (md : Md) (h : Heap) (p : PHeap) (hp : Per p h) (a b : Option Addr) (m n c d : Nat) (xs ys : List Int) (A : Ints p a m xs) (B : Ints p b n ys) (hm : m ≤ 100 ∧ n ≤ 100) : CallsX Tryd.prog md 76 #[.slice a m c, .slice b n d] h fun v h' => v = .int .i64 (cmpL xs ys) ∧ Keep h h' := by
 refine calls_intro (Φ := fun h_ => St h [] p h_ []) Tryd.func76 rfl (tm := zq4 (zq32 [])) rfl ?_ (St.start h _ hp)
 intro c₀ cs Stop K
 refine fsr <| ro (exd_assign (v := .int .i64 0) rfl) <| ren <| fsr <| rt (exd_move (v := .slice a m c) rfl) (tm' := zq2 (zq8 _)) rfl <| ro (exd_len Tryd.underlying22 rfl) ?_
 refine ro (exd_move (v := .int .i64 0) rfl) <| rl_end <| fl_block ?_
 refine fl_loop (m₀ := m - 0) (fun m_ tm_ h_ => ∃ (k : Nat), m_ = m - k ∧ (∃ y1 : Nat → Value, tm_ = [.slice a m c, .slice b n d, undef, undef, (y1 4), (y1 5), (y1 6), (y1 7), (y1 8), .slice a m c, .int .i64 (((m : Nat) : Int)), .int .i64 (((k : Nat) : Int)), (y1 12), (y1 13), (y1 14), (y1 15), (y1 16), (y1 17), (y1 18), (y1 19), (y1 20), (y1 21), (y1 22), (y1 23), (y1 24), (y1 25), (y1 26), (y1 27), (y1 28), (y1 29), (y1 30), undef, undef, undef, undef, undef]) ∧ (k ≤ m ∧ k ≤ n) ∧ (cmpL (xs.drop k) (ys.drop k) = cmpL xs ys) ∧ St h [] p h_ ([])) (fun h_ H_ => ⟨0, rfl, (y_of rfl), ⟨Nat.zero_le _, Nat.zero_le _⟩, (by simp), H_⟩) ?_
 intro m_ tm_ IH2
 refine rs_ex fun k => rs_and fun hm_ => rs_and fun ht_ => rs_and fun hk => rs_and fun hc_ => ?_
 subst hm_; obtain ⟨y1, ht_⟩ := ht_; subst ht_
 have hl1 := A.len
 have hl2 := B.len
 refine fsr <| rt (exd_lss rfl rfl) (tm' := zq1 (zq4 (zq8 _))) rfl <| ren ?_
 by_cases cc3 : ((k : Nat) : Int) < ((m : Nat) : Int)
 ·
  refine fl_then rfl (dtt cc3) <| fl_skip <| fl_seq <| fl_block <| fsr <| ro (exd_move (v := .int .i64 (((k : Nat) : Int))) rfl) ?_
  refine ro (exd_indexAddrN (i := k) Tryd.underlying22 tS3 (sl_ne a m c (A.ne (by omega))) rfl (by omega)) ?_
  refine rl_det mn (fun h_ H_ => exd_load_per H_ tA3 rfl (v := .int .i64 (xs.getD k 0)) (A.get (by omega))) (tm' := zq16 _) rfl ?_
  refine ro (exd_assign (v := .int .i64 (((k : Nat) : Int))) rfl) <| ro (exd_assign (v := .int .i64 (xs.getD k 0)) rfl) <| ren <| fsr <| rt (exd_move (v := .int .i64 (((k : Nat) : Int))) rfl) (tm' := zq1 (zq16 _)) rfl <| ro (exd_move (v := .slice b n d) rfl) ?_
  refine ro (exd_len Tryd.underlying22 rfl) <| rt (exd_geq rfl rfl) (tm' := zq4 (zq16 _)) rfl <| rl_end ?_
  by_cases cc4 : ((n : Nat) : Int) ≤ ((k : Nat) : Int)
  ·
   refine fl_then rfl (dtt cc4) <| fsr <| ro (exd_assign (v := .int .i64 1) rfl) <| rl_end ?_
   refine fl_ret Tryd.func76 rfl (vs := [.int .i64 1]) (fun h_ H_ => ⟨.int .i64 1, _, rfl, rfl, rfl⟩) (v := .int .i64 1) rfl ?_
   exact fun h_ H_ => K _ _ ⟨congrArg (Value.int .i64) (by rw [← hc_]; first | exact (cmpL_end2 (by omega) (by omega)).symm | exact (cmpL_end1 (by omega) (by omega)).symm | exact (cmpL_end (by omega) (by omega)).symm | (rw [cmpL_drop (by omega) (by omega), if_neg (by omega)])), H_.kept⟩
  ·
   refine fl_else rfl (dff cc4) <| fl_skip <| fsr <| ro (exd_move (v := .slice b n d) rfl) <| rt (exd_move (v := .int .i64 (((k : Nat) : Int))) rfl) (tm' := zq2 (zq4 (zq16 _))) rfl ?_
   refine ro (exd_indexAddrN (i := k) Tryd.underlying22 tS3 (sl_ne b n d (B.ne (by omega))) rfl (by omega)) ?_
   refine rd (fun h_ H_ => exd_load_per H_ tA3 rfl (v := .int .i64 (ys.getD k 0)) (B.get (by omega))) ?_
   refine rt (exd_assign (v := .int .i64 (ys.getD k 0)) rfl) (tm' := zq8 _) rfl <| ren <| rl_start <| ro (exd_move (v := .int .i64 (xs.getD k 0)) rfl) <| ro (exd_move (v := .int .i64 (ys.getD k 0)) rfl) ?_
   refine rl_calld mn (first := []) (cap := []) rfl rfl fC101 (fun h_ H_ => c101 md _ (xs.getD k 0) (ys.getD k 0)) (tm' := zq4 (zq32 [])) rfl ?_
   refine ro (exd_assign (v := .int .i64 (cmpI (xs.getD k 0) (ys.getD k 0))) rfl) <| ren <| rl_start <| ro (exd_move (v := .int .i64 (cmpI (xs.getD k 0) (ys.getD k 0))) rfl) <| rt (exd_neq rfl rfl) (tm' := zq4 (zq32 [])) rfl <| rl_end ?_
   by_cases cc5 : cmpI (xs.getD k 0) (ys.getD k 0) ≠ 0
   ·
    refine fl_then rfl (dtt cc5) <| fsr <| ro (exd_move (v := .int .i64 (cmpI (xs.getD k 0) (ys.getD k 0))) rfl) <| ro (exd_assign (v := .int .i64 (cmpI (xs.getD k 0) (ys.getD k 0))) rfl) <| rl_end ?_
    refine fl_ret Tryd.func76 rfl (vs := [.int .i64 (cmpI (xs.getD k 0) (ys.getD k 0))]) (fun h_ H_ => ⟨.int .i64 (cmpI (xs.getD k 0) (ys.getD k 0)), _, rfl, rfl, rfl⟩) (v := .int .i64 (cmpI (xs.getD k 0) (ys.getD k 0))) rfl ?_
    exact fun h_ H_ => K _ _ ⟨congrArg (Value.int .i64) (by rw [← hc_]; first | exact (cmpL_end2 (by omega) (by omega)).symm | exact (cmpL_end1 (by omega) (by omega)).symm | exact (cmpL_end (by omega) (by omega)).symm | (rw [cmpL_drop (by omega) (by omega), if_neg (by omega)])), H_.kept⟩
   ·
    refine fl_else rfl (dff cc5) <| fl_skip <| fl_inBlock <| rl_start ?_
    refine rt (exd_add rfl rfl (n := ((k + 1 : Nat) : Int)) (wr (by omega))) (tm' := zq4 (zq32 [])) rfl ?_
    refine ro (exd_move (v := .int .i64 (((k + 1 : Nat) : Int))) rfl) <| rl_end ?_
    exact fun h_ H_ => IH2 _ _ (by omega) h_ ⟨k + 1, rfl, (y_of rfl), (by omega), (by rw [← hc_, cmpL_drop (k := k) (by omega) (by omega), if_pos (by omega)]), H_⟩
 ·
  refine fl_else rfl (dff cc3) <| fl_exit rfl <| fl_seq <| fsr <| ro (exd_move (v := .slice a m c) rfl) <| rt (exd_len Tryd.underlying22 rfl) (tm' := zq4 (zq32 [])) rfl ?_
  refine ro (exd_move (v := .slice b n d) rfl) <| ro (exd_len Tryd.underlying22 rfl) <| rt (exd_lss rfl rfl) (tm' := zq4 (zq32 [])) rfl <| rl_end ?_
  by_cases cc6 : ((m : Nat) : Int) < ((n : Nat) : Int)
  ·
   refine fl_then rfl (dtt cc6) <| fsr <| ro (exd_assign (v := .int .i64 (-1)) rfl) <| rl_end ?_
   refine fl_ret Tryd.func76 rfl (vs := [.int .i64 (-1)]) (fun h_ H_ => ⟨.int .i64 (-1), _, rfl, rfl, rfl⟩) (v := .int .i64 (-1)) rfl ?_
   exact fun h_ H_ => K _ _ ⟨congrArg (Value.int .i64) (by rw [← hc_]; first | exact (cmpL_end2 (by omega) (by omega)).symm | exact (cmpL_end1 (by omega) (by omega)).symm | exact (cmpL_end (by omega) (by omega)).symm | (rw [cmpL_drop (by omega) (by omega), if_neg (by omega)])), H_.kept⟩
  ·
   refine fl_else rfl (dff cc6) <| fl_skip <| fsr <| ro (exd_assign (v := .int .i64 0) rfl) <| rl_end ?_
   refine fl_ret Tryd.func76 rfl (vs := [.int .i64 0]) (fun h_ H_ => ⟨.int .i64 0, _, rfl, rfl, rfl⟩) (v := .int .i64 0) rfl ?_
   exact fun h_ H_ => K _ _ ⟨congrArg (Value.int .i64) (by rw [← hc_]; first | exact (cmpL_end2 (by omega) (by omega)).symm | exact (cmpL_end1 (by omega) (by omega)).symm | exact (cmpL_end (by omega) (by omega)).symm | (rw [cmpL_drop (by omega) (by omega), if_neg (by omega)])), H_.kept⟩
end Go.Proofs.YtalfgojocdonhaaDoor
namespace Go.Proofs.YtalfgojocdonhaaDoor
open Go.X Go.X.Flow Go.Conc
set_option maxRecDepth 10000
set_option synthInstance.maxSize 2000

set_option maxHeartbeats 1000000
theorem c109 (md : Md) (h : Heap) (p : PHeap) (hp : Per p h) (fv : Value) (a : Option Addr) (n c : Nat) (xs : List FWay) (A : Wys p a n xs) (hn : n ≤ 2 ^ 40) (q : FWay → Bool) (hf : ∀ h, Per p h → ∀ i, i < n → CallV Tryd.prog md fv [.agg #[.int .i64 (xs.getD i wz).1, .int .i64 (xs.getD i wz).2]] h fun v h' => v = .bool (q (xs.getD i wz)) ∧ Keep h h') : CallsX Tryd.prog md 109 #[.slice a n c, fv] h fun v h' => v = .int .i64 (idxA q xs) ∧ Keep h h' := by
 refine calls_intro (Φ := fun h_ => St h [] p h_ []) Tryd.func109 rfl (tm := zq1 (zq2 (zq16 []))) rfl ?_ (St.start h _ hp)
 intro c₀ cs Stop K
 refine fsr <| ro (exd_assign (v := .int .i64 0) rfl) <| ren <| fsr <| ro (exd_move (v := .slice a n c) rfl) <| rt (exd_len Tryd.underlying23 rfl) (tm' := zq8 _) rfl ?_
 refine ro (exd_move (v := .int .i64 0) rfl) <| rl_end <| fl_block ?_
 refine fl_loop (m₀ := n - 0) (fun m_ tm_ h_ => ∃ (k : Nat), m_ = n - k ∧ (∃ y1 : Nat → Value, tm_ = [.slice a n c, fv, undef, undef, (y1 4), (y1 5), .slice a n c, .int .i64 (((n : Nat) : Int)), .int .i64 (((k : Nat) : Int)), (y1 9), (y1 10), (y1 11), (y1 12), (y1 13), (y1 14), (y1 15), (y1 16), (y1 17), (y1 18)]) ∧ (k ≤ n) ∧ (∀ i, i < k → q (xs.getD i wz) = false) ∧ St h [] p h_ ([])) (fun h_ H_ => ⟨0, rfl, (y_of rfl), Nat.zero_le _, (fun i hi => absurd hi (Nat.not_lt_zero i)), H_⟩) ?_
 intro m_ tm_ IH2
 refine rs_ex fun k => rs_and fun hm_ => rs_and fun ht_ => rs_and fun hk => rs_and fun hs => ?_
 subst hm_; obtain ⟨y1, ht_⟩ := ht_; subst ht_
 refine fsr <| ro (exd_lss rfl rfl) <| ren ?_
 by_cases cc3 : ((k : Nat) : Int) < ((n : Nat) : Int)
 ·
  refine fl_then rfl (dtt cc3) <| fl_skip <| fl_seq <| fl_block <| fsr <| rt (exd_move (v := .int .i64 (((k : Nat) : Int))) rfl) (tm' := zq1 (zq2 (zq8 _))) rfl ?_
  refine ro (exd_assign (v := .int .i64 (((k : Nat) : Int))) rfl) <| ren <| rl_start <| ro (exd_move (v := fv) rfl) <| rt (exd_move (v := .slice a n c) rfl) (tm' := zq1 (zq2 (zq16 []))) rfl <| ro (exd_move (v := .int .i64 (((k : Nat) : Int))) rfl) ?_
  refine ro (exd_indexAddrN (i := k) Tryd.underlying23 tS43 (sl_ne a n c (A.ne (by omega))) rfl (by omega)) ?_
  refine rl_det mn (fun h_ H_ => exd_loadN_per H_ tA43 tS43 rfl (vs := [.int .i64 ((xs.getD k wz).1), .int .i64 ((xs.getD k wz).2)]) rfl (A.all (by omega))) (tm' := zq1 (zq2 (zq16 []))) rfl ?_
  refine rl_callvd mn rfl (vs := [.agg #[.int .i64 ((xs.getD k wz).1), .int .i64 ((xs.getD k wz).2)]]) rfl (fun h_ H_ => hf h_ H_.per k (show k < n by omega)) rfl ?_
  refine rl_end ?_
  rcases bcases ((q (xs.getD k wz))) with cc4 | cc4
  ·
   refine fl_then rfl cc4 <| fsr <| ro (exd_move (v := .int .i64 (((k : Nat) : Int))) rfl) <| rt (exd_assign (v := .int .i64 (((k : Nat) : Int))) rfl) (tm' := zq1 (zq4 _)) rfl <| rl_end ?_
   refine fl_ret Tryd.func109 rfl (vs := [.int .i64 (((k : Nat) : Int))]) (fun h_ H_ => ⟨.int .i64 (((k : Nat) : Int)), _, rfl, rfl, rfl⟩) (v := .int .i64 (((k : Nat) : Int))) rfl ?_
   have hl := A.len
   exact fun h_ H_ => K _ _ ⟨by first | (rw [idxA_some (z := wz) (k := k) (by omega) ‹_› hs]) | (rw [idxA_none (z := wz) (fun i hi => hs i (by omega))]), H_.kept⟩
  ·
   refine fl_else rfl cc4 <| fl_skip <| fl_inBlock <| rl_start ?_
   refine ro (exd_add rfl rfl (n := ((k + 1 : Nat) : Int)) (wr (by omega))) ?_
   refine ro (exd_move (v := .int .i64 (((k + 1 : Nat) : Int))) rfl) <| rl_end ?_
   exact fun h_ H_ => IH2 _ _ (by omega) h_ ⟨k + 1, rfl, (y_of rfl), (by omega), (upto_st (q := fun i => q (xs.getD i wz) = false) hs ‹_›), H_⟩
 ·
  refine fl_else rfl (dff cc3) <| fl_exit rfl <| fsr <| rt (exd_assign (v := .int .i64 (-1)) rfl) (tm' := zq1 (zq4 _)) rfl <| rl_end ?_
  refine fl_ret Tryd.func109 rfl (vs := [.int .i64 (-1)]) (fun h_ H_ => ⟨.int .i64 (-1), _, rfl, rfl, rfl⟩) (v := .int .i64 (-1)) rfl ?_
  have hl := A.len
  exact fun h_ H_ => K _ _ ⟨by first | (rw [idxA_some (z := wz) (k := k) (by omega) ‹_› hs]) | (rw [idxA_none (z := wz) (fun i hi => hs i (by omega))]), H_.kept⟩
theorem c100 (md : Md) (h : Heap) (p : PHeap) (hp : Per p h) (fv : Value) (a : Option Addr) (n c : Nat) (xs : List FWay) (A : Wys p a n xs) (hn : n ≤ 2 ^ 40) (q : FWay → Bool) (hf : ∀ h, Per p h → ∀ i, i < n → CallV Tryd.prog md fv [.agg #[.int .i64 (xs.getD i wz).1, .int .i64 (xs.getD i wz).2]] h fun v h' => v = .bool (q (xs.getD i wz)) ∧ Keep h h') : CallsX Tryd.prog md 100 #[.slice a n c, fv] h fun v h' => v = .bool (decide (0 ≤ idxA q xs)) ∧ Keep h h' := by
 refine calls_intro (Φ := fun h_ => St h [] p h_ []) Tryd.func100 rfl (tm := zq1 (zq8 [])) rfl ?_ (St.start h _ hp)
 intro c₀ cs Stop K
 refine fsr <| ro (exd_assign (v := .bool (false)) rfl) <| ren <| rl_start <| ro (exd_move (v := .slice a n c) rfl) <| rt (exd_move (v := fv) rfl) (tm' := zq1 (zq8 [])) rfl ?_
 refine rl_calld mn (first := []) (cap := []) rfl rfl fC109 (fun h_ H_ => c109 md _ _ H_.pe fv _ _ _ _ A (by omega) q hf) rfl ?_
 refine ro (exd_geq rfl rfl) <| rt (exd_assign (v := .bool (decide (0 ≤ idxA q xs))) rfl) (tm' := zq1 (zq4 _)) rfl <| rl_end ?_
 refine fl_ret Tryd.func100 rfl (vs := [.bool (decide (0 ≤ idxA q xs))]) (fun h_ H_ => ⟨.bool (decide (0 ≤ idxA q xs)), _, rfl, rfl, rfl⟩) (v := .bool (decide (0 ≤ idxA q xs))) rfl ?_
 exact fun h_ H_ => K _ _ ⟨rfl, H_.kept⟩
theorem c99 (md : Md) (h : Heap) (p : PHeap) (hp : Per p h) (x y gg w : Nat) (hx : x ≤ 63) (hg : gg < 64) (bW bG : Nat) (hW : p bW = some (.cells #[.int .i64 ((w : Nat) : Int)] 3 (0, 0))) (hG : p bG = some (.cells #[.int .u64 ((gg : Nat) : Int)] 79 (0, 0))) : CallsX Tryd.prog md 99 #[.agg #[.int .i64 (((x : Nat) : Int)), .int .i64 (((y : Nat) : Int))], .pointer (some ⟨bW, 0, none⟩), .pointer (some ⟨bG, 0, none⟩)] h fun v h' => v = .bool (shq gg w (((x : Nat) : Int), ((y : Nat) : Int))) ∧ Keep h h' := by
 refine calls_intro (Φ := fun h_ => St h [] p h_ []) Tryd.func99 rfl (tm := zq1 (zq16 [])) rfl ?_ (St.start h _ hp)
 intro c₀ cs Stop K
 refine fsr ?_
 refine rl_box mn (v := .agg #[.int .i64 (((x : Nat) : Int)), .int .i64 (((y : Nat) : Int))]) rfl fun b1 => rl_own (L' := [(b1, .cells #[.int .i64 (((x : Nat) : Int)), .int .i64 (((y : Nat) : Int))] 43 (0, 0))]) rfl ?_
 refine ro (exd_assign (v := .bool (false)) rfl) <| ren <| rl_start <| rt (exd_fieldAddr tF43_1 rfl (a' := ⟨b1, 1, none⟩) rfl) (tm' := zq2 (zq4 _)) rfl <| rd (fun h_ H_ => exd_load_own H_ tA3 rfl (i := 0) rfl (v := .int .i64 (((y : Nat) : Int))) rfl) <| rd (fun h_ H_ => exd_load_per H_ tA3 rfl (v := .int .i64 (((w : Nat) : Int))) (per_cell hW rfl)) ?_
 refine rt (exd_eql rfl rfl) (tm' := zq1 (zq8 _)) rfl <| ro (exd_move (v := .bool (decide (((y : Nat) : Int) = ((w : Nat) : Int)))) rfl) ?_
 by_cases cc2 : ((y : Nat) : Int) = ((w : Nat) : Int)
 ·
  refine rl_det (ms rfl rfl (dtt cc2)) (fun h_ H_ => exd_load_per H_ tA79 rfl (v := .int .u64 (((gg : Nat) : Int))) (per_cell hG rfl)) rfl ?_
  refine rl_det (ms rfl rfl (dtt cc2)) (fun h_ H_ => exd_fieldAddr tF43_0 rfl (a' := ⟨b1, 0, none⟩) rfl) (tm' := zq1 (zq16 [])) rfl ?_
  refine rl_det (ms rfl rfl (dtt cc2)) (fun h_ H_ => exd_load_own H_ tA3 rfl (i := 0) rfl (v := .int .i64 (((x : Nat) : Int))) rfl) rfl ?_
  refine rl_det (ms rfl rfl (dtt cc2)) (fun h_ H_ => exd_shrU (a := gg) (s := x) rfl rfl (show _ ≤ 64 from by omega)) rfl ?_
  refine rl_det (ms rfl rfl (dtt cc2)) (fun h_ H_ => exd_andU (a := gg / 2 ^ x) (b := 1) rfl rfl (by first | omega | exact Nat.lt_of_le_of_lt (Nat.div_le_self _ _) (by omega)) (by first | omega | exact Nat.lt_of_le_of_lt (Nat.div_le_self _ _) (by omega))) (tm' := zq1 (zq16 [])) rfl ?_
  refine rl_det (ms rfl rfl (dtt cc2)) (fun h_ H_ => exd_eql rfl rfl) rfl ?_
  refine ro (exd_pick_t rfl (dtt cc2) (v := .bool (decide ((((gg / 2 ^ x) &&& 1 : Nat) : Int) = 1))) rfl) <| rt (exd_assign (v := .bool (decide ((((gg / 2 ^ x) &&& 1 : Nat) : Int) = 1))) rfl) (tm' := zq1 (zq4 _)) rfl <| rl_end ?_
  refine fl_ret Tryd.func99 rfl (vs := [.bool (decide ((((gg / 2 ^ x) &&& 1 : Nat) : Int) = 1))]) (fun h_ H_ => ⟨.bool (decide ((((gg / 2 ^ x) &&& 1 : Nat) : Int) = 1)), _, rfl, rfl, rfl⟩) (v := .bool (decide ((((gg / 2 ^ x) &&& 1 : Nat) : Int) = 1))) rfl ?_
  exact fun h_ H_ => K _ _ ⟨congrArg Value.bool (by simp only [shq, Int.toNat_natCast]; first | (rw [Bool.eq_iff_iff]; simp only [decide_eq_true_eq]; omega) | (symm; rw [decide_eq_false_iff_not]; omega)), H_.kept⟩
 ·
  refine rp (mo rfl rfl (dff cc2)) <| rp (mo rfl rfl (dff cc2)) <| rl_pass (mo rfl rfl (dff cc2)) (tm' := zq1 (zq16 [])) rfl <| rp (mo rfl rfl (dff cc2)) <| rp (mo rfl rfl (dff cc2)) <| rl_pass (mo rfl rfl (dff cc2)) (tm' := zq1 (zq16 [])) rfl ?_
  refine ro (exd_pick_f rfl (dff cc2) (v := .bool (false)) rfl) <| ro (exd_assign (v := .bool (false)) rfl) <| rl_end ?_
  refine fl_ret Tryd.func99 rfl (vs := [.bool (false)]) (fun h_ H_ => ⟨.bool (false), _, rfl, rfl, rfl⟩) (v := .bool (false)) rfl ?_
  exact fun h_ H_ => K _ _ ⟨congrArg Value.bool (by simp only [shq, Int.toNat_natCast]; first | (rw [Bool.eq_iff_iff]; simp only [decide_eq_true_eq]; omega) | (symm; rw [decide_eq_false_iff_not]; omega)), H_.kept⟩
theorem sh_ok (md : Md) {h : Heap} {p : PHeap} (hp : Per p h) {g w : Nat} {x : FWay} (hx : 0 ≤ x.1 ∧ x.1 ≤ 63 ∧ 0 ≤ x.2) (hg : g < 64) {bW bG : Nat} (hW : p bW = some (.cells #[.int .i64 ((w : Nat) : Int)] 3 (0, 0))) (hG : p bG = some (.cells #[.int .u64 ((g : Nat) : Int)] 79 (0, 0))) :
  CallsX Tryd.prog md 99 #[.agg #[.int .i64 x.1, .int .i64 x.2], .pointer (some ⟨bW, 0, none⟩), .pointer (some ⟨bG, 0, none⟩)] h fun v h' => v = .bool (shq g w x) ∧ Keep h h' := by
 obtain ⟨a, b⟩ := x
 obtain ⟨a, rfl⟩ := Int.eq_ofNat_of_zero_le hx.1
 obtain ⟨b, rfl⟩ := Int.eq_ofNat_of_zero_le hx.2.2
 exact c99 md h p hp a b g w (by have := hx.2.1; simp only at this; omega) hg bW bG hW hG
theorem c74 (md : Md) (h : Heap) (p : PHeap) (hp : Per p h) (a1 a2 a3 : Option Addr) (c1 c2 c3 : Nat) (t : Tn) (T : TownP p a1 t.nH a2 t.nW a3 t.m t) (O : OkT t) (g : Nat) (hgk : g < 2 ^ t.nH) (Z : TabP p) : CallsX Tryd.prog md 74 #[.int .u64 (((g : Nat) : Int)), .agg #[.slice a1 t.nH c1, .slice a2 t.nW c2, .slice a3 t.m c3]] h fun v h' => v = .bool (decide (0 < shortN t g)) ∧ Keep h h' := by
 refine calls_intro (Φ := fun h_ => St h [] p h_ []) Tryd.func74 rfl (tm := zq1 (zq4 (zq8 (zq32 [])))) rfl ?_ (St.start h _ hp)
 intro c₀ cs Stop K
 have oH := O.nh
 have oW := O.nw
 have oM := O.nm
 have hg64 : g < 64 := by have z_ := pow_nH O.toOk; omega
 refine fsr ?_
 refine rl_box mn (v := .int .u64 (((g : Nat) : Int))) rfl fun b1 => rl_own (L' := [(b1, .cells #[.int .u64 (((g : Nat) : Int))] 79 (0, 0))]) rfl ?_
 refine rl_norm (tm' := _::_::_::_) rfl ?_
 refine rl_box mn (v := .agg #[.slice a1 t.nH c1, .slice a2 t.nW c2, .slice a3 t.m c3]) rfl fun b2 => rl_own (L' := [(b2, .cells #[.slice a1 t.nH c1, .slice a2 t.nW c2, .slice a3 t.m c3] 25 (0, 0)), (b1, .cells #[.int .u64 (((g : Nat) : Int))] 79 (0, 0))]) rfl ?_
 refine ro (exd_assign (v := .bool (false)) rfl) <| ren ?_
 refine rs_last 1 rfl (L' := [(b2, .cells #[.slice a1 t.nH c1, .slice a2 t.nW c2, .slice a3 t.m c3] 25 (0, 0))]) rfl fun p3 le4 hb5 => ?_
 refine rl_start <| rt (exd_assign (v := .int .i64 0) rfl) (tm' := zq2 (zq4 _)) rfl <| ren <| fsr <| rd (fun h_ H_ => exd_load_per H_ tA79 rfl (v := .int .u64 (((g : Nat) : Int))) (per_cell hb5 rfl)) ?_
 refine rl_own (L' := ([(b2, .cells #[.slice a1 t.nH c1, .slice a2 t.nW c2, .slice a3 t.m c3] 25 (0, 0))] : Pcs) ++ []) rfl ?_
 refine rl_call mn (first := []) (cap := []) rfl rfl fC73 (R := fun v_ h_ => ∃ w6 : Value, ∃ X7 : Pcs, v_ = w6 ∧ (OwnS 3 1 w6 (ics (LG g)) X7) ∧ St h [] p3 h_ (([(b2, .cells #[.slice a1 t.nH c1, .slice a2 t.nW c2, .slice a3 t.m c3] 25 (0, 0))] : Pcs) ++ (X7 ++ []))) (fun h_ H_ => (c73 md _ _ H_.pe g (by have z_ := pow_nH O.toOk; omega) (Z.mono le4)).mono fun v_ h2_ ⟨w6, X7, e_, o8, N_⟩ => ⟨w6, X7, e_, o8, H_.callNA N_⟩) fun v_ => ?_
 refine rl_ex fun w6 => rl_ex fun X7 => rl_and fun ev_ => rl_and fun o8 => ?_
 have ev_ := ev_.symm; subst ev_
 refine rl_own (L' := ([(b2, .cells #[.slice a1 t.nH c1, .slice a2 t.nW c2, .slice a3 t.m c3] 25 (0, 0))] : Pcs) ++ (X7 ++ [])) rfl ?_
 refine rt (exd_lenN o8 ((ics_length _).trans rfl) Tryd.underlying22 rfl) (tm' := zq2 (zq4 (zq8 _))) rfl <| ro (exd_move (v := .int .i64 0) rfl) <| rl_end <| fl_block ?_
 refine fl_loop (m₀ := (LG g).length - 0) (fun m_ tm_ h_ => ∃ (k : Nat) (s : Int), m_ = (LG g).length - k ∧ (∃ y9 : Nat → Value, tm_ = (.int .u64 (((g : Nat) : Int))::.agg #[.slice a1 t.nH c1, .slice a2 t.nW c2, .slice a3 t.m c3]::.pointer (some ⟨b1, 0, none⟩)::.pointer (some ⟨b2, 0, none⟩)::.bool (false)::.int .i64 (s)::undef::(y9 7)::undef::undef::undef::.int .u64 (((g : Nat) : Int))::w6::.int .i64 ((((LG g).length : Nat) : Int))::.int .i64 (((k : Nat) : Int))::(y9 15)::(y9 16)::(y9 17)::(y9 18)::(y9 19)::(y9 20)::(y9 21)::(y9 22)::(y9 23)::(y9 24)::(y9 25)::undef::undef::undef::zu16 [])) ∧ (k ≤ (LG g).length) ∧ (s = wantG t g k) ∧ St h [] p3 h_ (([(b2, .cells #[.slice a1 t.nH c1, .slice a2 t.nW c2, .slice a3 t.m c3] 25 (0, 0))] : Pcs) ++ (X7 ++ []))) (fun h_ H_ => ⟨0, 0, rfl, (y_of rfl), Nat.zero_le _, rfl, H_⟩) ?_
 intro m_ tm_ IH10
 refine rs_ex fun k => rs_ex fun s => rs_and fun hm_ => rs_and fun ht_ => rs_and fun hk => rs_and fun hs => ?_
 subst hm_; obtain ⟨y9, ht_⟩ := ht_; subst ht_
 have hwb_ := wantG_bd O.toOk hgk hk
 have hlb_ := fun z_ : k < (LG g).length => LG_bd O.nh hgk k z_
 have hl6_ := LG_len g (by have z_ := pow_nH O.toOk; omega)
 have hvb_ := fun z_ : ((LG g).getD k 0).toNat < t.nH => O.h _ z_
 refine fsr <| ro (exd_lss rfl rfl) <| ren ?_
 by_cases cc11 : ((k : Nat) : Int) < (((LG g).length : Nat) : Int)
 ·
  refine fl_then rfl (dtt cc11) <| fl_skip <| fl_seq <| fl_block <| fsr ?_
  refine rt (exd_indexO o8 Tryd.underlying22 tS3 rfl rfl (by rw [((ics_length _).trans rfl)]; first | omega | (simp only [List.length_set]; omega))) (tm' := zq1 (zq16 _)) rfl ?_
  refine rd (fun h_ H_ => exd_loadO (A := ([(b2, .cells #[.slice a1 t.nH c1, .slice a2 t.nW c2, .slice a3 t.m c3] 25 (0, 0))] : Pcs)) (i := k) (j := 0) (e := [.int .i64 ((LG g).getD k 0)]) o8 H_ tA3 rfl rfl (ics_at (by first | omega | (rw [leftK_length]; omega) | (simp only [List.length_set]; omega))) (u := .int .i64 ((LG g).getD k 0)) rfl) ?_
  refine ro (exd_assign (v := .int .i64 ((LG g).getD k 0)) rfl) <| rl_end <| rl_start <| rt (exd_move (v := .int .i64 (s)) rfl) (tm' := zq1 (zq2 (zq16 _))) rfl <| ro (exd_fieldAddr tF25_0 rfl (a' := ⟨b2, 0, none⟩) rfl) <| rd (fun h_ H_ => exd_load_own H_ tA22 rfl (i := 0) rfl (v := .slice a1 t.nH c1) rfl) ?_
  refine rt (exd_move (v := .int .i64 ((LG g).getD k 0)) rfl) (tm' := zq2 (zq4 (zq16 _))) rfl ?_
  refine ro (exd_indexAddr Tryd.underlying22 tS3 (sl_ne a1 t.nH c1 ((T.h.mono le4).ne (by omega))) rfl (by omega) (by omega) (a' := (adr a1).add (((((LG g).getD k 0)).toNat) * 1)) rfl) ?_
  refine rd (fun h_ H_ => exd_load_per H_ tA3 rfl (v := .int .i64 (t.hv ((((LG g).getD k 0)).toNat))) ((T.h.mono le4).get (by omega))) ?_
  refine rt (exd_add rfl rfl (wr (by have z1_ := hlb_ (by omega); have z2_ := hvb_ (by omega); omega))) (tm' := zq1 (zq8 (zq16 _))) rfl ?_
  refine ro (exd_assign (v := .int .i64 (s + (t.hv ((((LG g).getD k 0)).toNat)))) rfl) <| rl_end <| fl_inBlock <| rl_start ?_
  refine ro (exd_add rfl rfl (n := ((k + 1 : Nat) : Int)) (wr (by omega))) ?_
  refine rt (exd_move (v := .int .i64 (((k + 1 : Nat) : Int))) rfl) (tm' := zq1 (zq2 (zq4 (zq8 _)))) rfl <| rl_end ?_
  exact fun h_ H_ => IH10 _ _ (by omega) h_ ⟨k + 1, s + (t.hv ((((LG g).getD k 0)).toNat)), rfl, (y_of rfl), (by omega), (by rw [wantG_succ, ← hs]), H_⟩
 ·
  refine fl_else rfl (dff cc11) <| fl_exit rfl <| fl_seq <| fsr <| ro (exd_fieldAddr tF25_1 rfl (a' := ⟨b2, 1, none⟩) rfl) <| rd (fun h_ H_ => exd_load_own H_ tA22 rfl (i := 0) rfl (v := .slice a2 t.nW c2) rfl) ?_
  refine rt (exd_len Tryd.underlying22 rfl) (tm' := zq1 (zq4 (zq8 (zq16 _)))) rfl <| ro (exd_move (v := .int .i64 0) rfl) <| rl_end <| fl_block ?_
  refine fl_loop (m₀ := t.nW - 0) (fun m_ tm_ h_ => ∃ (l : Nat) (s2 : Int), m_ = t.nW - l ∧ (∃ y12 : Nat → Value, tm_ = [.int .u64 (((g : Nat) : Int)), .agg #[.slice a1 t.nH c1, .slice a2 t.nW c2, .slice a3 t.m c3], .pointer (some ⟨b1, 0, none⟩), .pointer (some ⟨b2, 0, none⟩), .bool (false), .int .i64 (s2), undef, (y9 7), (y12 8), (y12 9), (y12 10), .int .u64 (((g : Nat) : Int)), w6, .int .i64 ((((LG g).length : Nat) : Int)), .int .i64 (((k : Nat) : Int)), .bool (decide (((k : Nat) : Int) < (((LG g).length : Nat) : Int))), (y9 16), (y9 17), (y9 18), (y9 19), (y9 20), (y9 21), (y9 22), (y9 23), (y9 24), (y9 25), .pointer (some ⟨b2, 1, none⟩), .slice a2 t.nW c2, .int .i64 (((t.nW : Nat) : Int)), .int .i64 (((l : Nat) : Int)), (y12 30), (y12 31), (y12 32), (y12 33), (y12 34), (y12 35), (y12 36), (y12 37), (y12 38), (y12 39), (y12 40), (y12 41), (y12 42), undef, undef]) ∧ (l ≤ t.nW) ∧ (s2 = wantG t g (LG g).length - reachG t g l) ∧ St h [] p3 h_ (([(b2, .cells #[.slice a1 t.nH c1, .slice a2 t.nW c2, .slice a3 t.m c3] 25 (0, 0))] : Pcs) ++ (X7 ++ []))) (fun h_ H_ => ⟨0, s, rfl, (y_of rfl), Nat.zero_le _, (by have e_ : k = (LG g).length := (by omega); rw [hs, e_]; simp [reachG, sm]), H_⟩) ?_
  intro m_ tm_ IH13
  refine rs_ex fun l => rs_ex fun s2 => rs_and fun hm_ => rs_and fun ht_ => rs_and fun hl => rs_and fun hs2 => ?_
  subst hm_; obtain ⟨y12, ht_⟩ := ht_; subst ht_
  have hrb_ := reachG_bd O.toOk (g := g) hl
  have hwe_ := wantG_bd O.toOk hgk (Nat.le_refl (LG g).length)
  have hwv_ := fun z_ : l < t.nW => O.w l z_
  refine fsr <| ro (exd_lss rfl rfl) <| ren ?_
  by_cases cc14 : ((l : Nat) : Int) < ((t.nW : Nat) : Int)
  ·
   refine fl_then rfl (dtt cc14) <| fl_skip <| fl_seq <| fl_block <| fsr <| rt (exd_move (v := .int .i64 (((l : Nat) : Int))) rfl) (tm' := zq1 (zq4 (zq8 (zq32 [])))) rfl ?_
   refine ro (exd_indexAddrN (i := l) Tryd.underlying22 tS3 (sl_ne a2 t.nW c2 ((T.w.mono le4).ne (by omega))) rfl (by omega)) ?_
   refine rd (fun h_ H_ => exd_load_per H_ tA3 rfl (v := .int .i64 (t.wv l)) ((T.w.mono le4).get (by omega))) ?_
   refine rl_alloc mn tZ3 rfl fun b15 => rl_own (L' := ([(b15, .cells #[.int .i64 0] 3 (0, 0)), (b2, .cells #[.slice a1 t.nH c1, .slice a2 t.nW c2, .slice a3 t.m c3] 25 (0, 0))] : Pcs) ++ (X7 ++ [])) rfl ?_
   refine rl_norm (tm' := zq1 (zq8 _)) rfl ?_
   refine rl_store mn tS3 rfl (v := .int .i64 (((l : Nat) : Int))) rfl (i := 0) rfl rfl rfl (Nat.le_of_ble_eq_true rfl) (cs2 := [.int .i64 (((l : Nat) : Int))]) rfl (rl_own (L' := ([(b15, .cells #[.int .i64 (((l : Nat) : Int))] 3 (0, 0)), (b2, .cells #[.slice a1 t.nH c1, .slice a2 t.nW c2, .slice a3 t.m c3] 25 (0, 0))] : Pcs) ++ (X7 ++ [])) rfl ?_)
   refine ro (exd_assign (v := .int .i64 (t.wv l)) rfl) <| ren <| rl_start <| ro (exd_makeFunc (a := []) (b := [.pointer (some ⟨b15, 0, none⟩), .pointer (some ⟨b1, 0, none⟩)]) rfl rfl) <| rt (exd_assign (v := .func (.func 99) #[] #[.pointer (some ⟨b15, 0, none⟩), .pointer (some ⟨b1, 0, none⟩)]) rfl) (tm' := zq1 (zq2 (zq8 _))) rfl <| ren ?_
   refine rs_last 0 rfl (L' := ([(b2, .cells #[.slice a1 t.nH c1, .slice a2 t.nW c2, .slice a3 t.m c3] 25 (0, 0))] : Pcs) ++ (X7 ++ [])) rfl fun p16 le17 hb18 => ?_
   refine rl_start <| ro (exd_fieldAddr tF25_2 rfl (a' := ⟨b2, 2, none⟩) rfl) <| rd (fun h_ H_ => exd_load_own H_ tA23 rfl (i := 0) rfl (v := .slice a3 t.m c3) rfl) <| rt (exd_move (v := .func (.func 99) #[] #[.pointer (some ⟨b15, 0, none⟩), .pointer (some ⟨b1, 0, none⟩)]) rfl) (tm' := zq1 (zq4 (zq8 (zq32 [])))) rfl ?_
   refine rl_calld mn (first := []) (cap := []) rfl rfl fC100 (fun h_ H_ => c100 md _ _ H_.pe _ _ _ _ _ ((T.y.mono le4).mono le17) (by omega) (shq g l) (fun h_ hp_ i_ hi_ => callv_of fC99 (sh_ok md hp_ (way63 O hi_) (by omega) hb18 (le17 _ _ hb5)))) rfl ?_
   refine rl_end ?_
   by_cases cc19 : 0 ≤ idxA (shq g l) t.wy
   ·
    refine fl_then rfl (dtt cc19) <| rl_start <| ro (exd_move (v := .int .i64 (s2)) rfl) <| rt (exd_move (v := .int .i64 (t.wv l)) rfl) (tm' := zq1 (zq4 (zq8 (zq32 [])))) rfl ?_
    refine ro (exd_sub rfl rfl (wr (by have z1_ := hwv_ (by omega); omega))) ?_
    refine ro (exd_assign (v := .int .i64 (s2 - (t.wv l))) rfl) <| rl_end <| fl_inBlock <| rl_start ?_
    refine rt (exd_add rfl rfl (n := ((l + 1 : Nat) : Int)) (wr (by omega))) (tm' := zq1 (zq4 (zq8 (zq32 [])))) rfl ?_
    refine ro (exd_move (v := .int .i64 (((l + 1 : Nat) : Int))) rfl) <| rl_end ?_
    exact fun h_ H_ => IH13 _ _ (by omega) h_ ⟨l + 1, s2 - (t.wv l), rfl, (y_of rfl), (by omega), (by first | (rw [reachG_yes ‹_›]; omega) | (rw [reachG_no ‹_›]; omega)), (H_.forget le17)⟩
   ·
    refine fl_else rfl (dff cc19) <| fl_skip <| fl_inBlock <| rl_start ?_
    refine ro (exd_add rfl rfl (n := ((l + 1 : Nat) : Int)) (wr (by omega))) ?_
    refine rt (exd_move (v := .int .i64 (((l + 1 : Nat) : Int))) rfl) (tm' := zq2 (zq4 (zq8 (zq16 _)))) rfl <| rl_end ?_
    exact fun h_ H_ => IH13 _ _ (by omega) h_ ⟨l + 1, s2, rfl, (y_of rfl), (by omega), (by first | (rw [reachG_yes ‹_›]; omega) | (rw [reachG_no ‹_›]; omega)), (H_.forget le17)⟩
  ·
   refine fl_else rfl (dff cc14) <| fl_exit rfl <| fsr <| ro (exd_move (v := .int .i64 (s2)) rfl) <| ro (exd_gtr rfl rfl) <| rt (exd_assign (v := .bool (decide (0 < s2))) rfl) (tm' := zq1 (zq4 _)) rfl ?_
   refine rl_end ?_
   refine fl_ret Tryd.func74 rfl (vs := [.bool (decide (0 < s2))]) (fun h_ H_ => ⟨.bool (decide (0 < s2)), _, rfl, rfl, rfl⟩) (v := .bool (decide (0 < s2))) rfl ?_
   have e_ : l = t.nW := by omega
   exact fun h_ H_ => K _ _ ⟨congrArg Value.bool (by rw [hs2, e_]; rfl), H_.kept⟩
end Go.Proofs.YtalfgojocdonhaaDoor
namespace Go.Proofs.YtalfgojocdonhaaDoor
open Go.X Go.X.Flow Go.Conc
set_option maxRecDepth 10000
set_option synthInstance.maxSize 2000

set_option maxHeartbeats 1000000
theorem c105 (md : Md) (h : Heap) (p : PHeap) (hp : Per p h) (a : Option Addr) (n c : Nat) (xs : List FWay) (A : Wys p a n xs) (hn : n ≤ 100) (x y : Int) : CallsX Tryd.prog md 105 #[.slice a n c, .agg #[.int .i64 (x), .int .i64 (y)]] h fun v h' => v = .int .i64 (idxA (fun z => decide (z = ((x, y) : FWay))) xs) ∧ Keep h h' := by
 refine calls_intro (Φ := fun h_ => St h [] p h_ []) Tryd.func105 rfl (tm := zq1 (zq2 (zq16 []))) rfl ?_ (St.start h _ hp)
 intro c₀ cs Stop K
 refine fsr ?_
 refine rl_box mn (v := .agg #[.int .i64 (x), .int .i64 (y)]) rfl fun b1 => rl_own (L' := [(b1, .cells #[.int .i64 (x), .int .i64 (y)] 43 (0, 0))]) rfl ?_
 refine ro (exd_assign (v := .int .i64 0) rfl) <| ren <| fsr <| rt (exd_move (v := .slice a n c) rfl) (tm' := zq1 (zq2 (zq4 _))) rfl <| ro (exd_len Tryd.underlying23 rfl) <| ro (exd_move (v := .int .i64 0) rfl) ?_
 refine rl_end <| fl_block ?_
 refine fl_loop (m₀ := n - 0) (fun m_ tm_ h_ => ∃ (k : Nat), m_ = n - k ∧ (∃ y2 : Nat → Value, tm_ = [.slice a n c, .agg #[.int .i64 (x), .int .i64 (y)], undef, .pointer (some ⟨b1, 0, none⟩), (y2 4), (y2 5), .slice a n c, .int .i64 (((n : Nat) : Int)), .int .i64 (((k : Nat) : Int)), (y2 9), (y2 10), (y2 11), (y2 12), (y2 13), (y2 14), (y2 15), (y2 16), (y2 17), (y2 18)]) ∧ (k ≤ n) ∧ (∀ i, i < k → (fun z => decide (z = ((x, y) : FWay))) (xs.getD i wz) = false) ∧ St h [] p h_ ([(b1, .cells #[.int .i64 (x), .int .i64 (y)] 43 (0, 0))])) (fun h_ H_ => ⟨0, rfl, (y_of rfl), Nat.zero_le _, (fun i hi => absurd hi (Nat.not_lt_zero i)), H_⟩) ?_
 intro m_ tm_ IH3
 refine rs_ex fun k => rs_and fun hm_ => rs_and fun ht_ => rs_and fun hk => rs_and fun hs => ?_
 subst hm_; obtain ⟨y2, ht_⟩ := ht_; subst ht_
 refine fsr <| rt (exd_lss rfl rfl) (tm' := zq2 (zq8 _)) rfl <| ren ?_
 by_cases cc4 : ((k : Nat) : Int) < ((n : Nat) : Int)
 ·
  refine fl_then rfl (dtt cc4) <| fl_skip <| fl_seq <| fl_block <| fsr <| ro (exd_move (v := .int .i64 (((k : Nat) : Int))) rfl) ?_
  refine ro (exd_assign (v := .int .i64 (((k : Nat) : Int))) rfl) <| ren ?_
  refine fl_drawn2 5 [[], [], [], [1, 2], [1, 2, 3], []] mixed (by kernel_rfl) (Nat.le_of_ble_eq_true rfl) ?_
  refine wd (fun h_ H_ => exd_loadN_own H_ tA43 tS43 rfl (i := 0) rfl (vs := [.int .i64 (x), .int .i64 (y)]) rfl rfl) <| wt (exd_move (v := .slice a n c) rfl) (tm' := zq1 (zq2 (zq16 []))) rfl <| wo (exd_move (v := .int .i64 (((k : Nat) : Int))) rfl) ?_
  refine wt (exd_indexAddrN (i := k) Tryd.underlying23 tS43 (sl_ne a n c (A.ne (by omega))) rfl (by omega)) (tm' := zq1 (zq2 (zq16 []))) rfl ?_
  refine wd (fun h_ H_ => exd_loadN_per H_ tA43 tS43 rfl (vs := [.int .i64 ((xs.getD k wz).1), .int .i64 ((xs.getD k wz).2)]) rfl (A.all (by omega))) ?_
  refine swr_nil rfl ?_
  refine ro (exd_eqAgg gT43 (wayEq 9998 _ _ _ _) rfl rfl) <| rl_end ?_
  by_cases cc5 : x = (xs.getD k wz).1 ∧ y = (xs.getD k wz).2
  ·
   refine fl_then rfl (dtt cc5) <| fsr <| rt (exd_move (v := .int .i64 (((k : Nat) : Int))) rfl) (tm' := zq1 (zq2 (zq16 []))) rfl <| ro (exd_assign (v := .int .i64 (((k : Nat) : Int))) rfl) <| rl_end ?_
   refine fl_ret Tryd.func105 rfl (vs := [.int .i64 (((k : Nat) : Int))]) (fun h_ H_ => ⟨.int .i64 (((k : Nat) : Int)), _, rfl, rfl, rfl⟩) (v := .int .i64 (((k : Nat) : Int))) rfl ?_
   have hl := A.len
   exact fun h_ H_ => K _ _ ⟨by first | (rw [idxA_some (z := wz) (k := k) (by omega) (decide_eq_true (Prod.ext (‹x = (xs.getD k wz).1 ∧ y = (xs.getD k wz).2›).1.symm (‹x = (xs.getD k wz).1 ∧ y = (xs.getD k wz).2›).2.symm)) hs]) | (rw [idxA_none (z := wz) (fun i hi => hs i (by omega))]), H_.kept⟩
  ·
   refine fl_else rfl (dff cc5) <| fl_skip <| fl_inBlock <| rl_start ?_
   refine ro (exd_add rfl rfl (n := ((k + 1 : Nat) : Int)) (wr (by omega))) ?_
   refine rt (exd_move (v := .int .i64 (((k + 1 : Nat) : Int))) rfl) (tm' := zq1 (zq8 _)) rfl <| rl_end ?_
   exact fun h_ H_ => IH3 _ _ (by omega) h_ ⟨k + 1, rfl, (y_of rfl), (by omega), (upto_st (q := fun i => (fun z => decide (z = ((x, y) : FWay))) (xs.getD i wz) = false) hs (decide_eq_false fun e_ => absurd (show x = (xs.getD k wz).1 ∧ y = (xs.getD k wz).2 from ⟨by rw [e_], by rw [e_]⟩) ‹_›)), H_⟩
 ·
  refine fl_else rfl (dff cc4) <| fl_exit rfl <| fsr <| ro (exd_assign (v := .int .i64 (-1)) rfl) <| rl_end ?_
  refine fl_ret Tryd.func105 rfl (vs := [.int .i64 (-1)]) (fun h_ H_ => ⟨.int .i64 (-1), _, rfl, rfl, rfl⟩) (v := .int .i64 (-1)) rfl ?_
  have hl := A.len
  exact fun h_ H_ => K _ _ ⟨by first | (rw [idxA_some (z := wz) (k := k) (by omega) (decide_eq_true (Prod.ext (‹x = (xs.getD k wz).1 ∧ y = (xs.getD k wz).2›).1.symm (‹x = (xs.getD k wz).1 ∧ y = (xs.getD k wz).2›).2.symm)) hs]) | (rw [idxA_none (z := wz) (fun i hi => hs i (by omega))]), H_.kept⟩
theorem c95 (md : Md) (h : Heap) (p : PHeap) (hp : Per p h) (a : Option Addr) (n c : Nat) (xs : List FWay) (A : Wys p a n xs) (hn : n ≤ 100) (x y : Int) : CallsX Tryd.prog md 95 #[.slice a n c, .agg #[.int .i64 (x), .int .i64 (y)]] h fun v h' => v = .bool (decide (((x, y) : FWay) ∈ xs)) ∧ Keep h h' := by
 refine calls_intro (Φ := fun h_ => St h [] p h_ []) Tryd.func95 rfl (tm := zq1 (zq8 [])) rfl ?_ (St.start h _ hp)
 intro c₀ cs Stop K
 refine fsr ?_
 refine rl_box mn (v := .agg #[.int .i64 (x), .int .i64 (y)]) rfl fun b1 => rl_own (L' := [(b1, .cells #[.int .i64 (x), .int .i64 (y)] 43 (0, 0))]) rfl ?_
 refine rt (exd_assign (v := .bool (false)) rfl) (tm' := zq1 (zq4 _)) rfl <| ren <| rl_start <| ro (exd_move (v := .slice a n c) rfl) <| rd (fun h_ H_ => exd_loadN_own H_ tA43 tS43 rfl (i := 0) rfl (vs := [.int .i64 (x), .int .i64 (y)]) rfl rfl) ?_
 refine rl_calld mn (first := []) (cap := []) rfl rfl fC105 (fun h_ H_ => c105 md _ _ H_.pe _ _ _ _ A hn x y) (tm' := zq1 (zq8 [])) rfl ?_
 refine ro (exd_geq rfl rfl) <| ro (exd_assign (v := .bool (decide (0 ≤ idxA (fun z => decide (z = ((x, y) : FWay))) xs))) rfl) <| rl_end ?_
 refine fl_ret Tryd.func95 rfl (vs := [.bool (decide (0 ≤ idxA (fun z => decide (z = ((x, y) : FWay))) xs))]) (fun h_ H_ => ⟨.bool (decide (0 ≤ idxA (fun z => decide (z = ((x, y) : FWay))) xs)), _, rfl, rfl, rfl⟩) (v := .bool (decide (0 ≤ idxA (fun z => decide (z = ((x, y) : FWay))) xs))) rfl ?_
 exact fun h_ H_ => K _ _ ⟨congrArg Value.bool (decide_eq_decide.2 mem_idx), H_.kept⟩
theorem c94 (md : Md) (h : Heap) (p : PHeap) (hp : Per p h) (a1 a2 a3 : Option Addr) (c1 c2 c3 : Nat) (t : Tn) (T : TownP p a1 t.nH a2 t.nW a3 t.m t) (O : OkT t) (q1 q2 q3 : Option Addr) (d1 d2 d3 : Nat) (u : Tn) (U : TownP p q1 u.nH q2 u.nW q3 u.m u) (O2 : OkT u) (N : NoneP p) : CallsX Tryd.prog md 94 #[.agg #[.slice a1 t.nH c1, .slice a2 t.nW c2, .slice a3 t.m c3], .agg #[.slice q1 u.nH d1, .slice q2 u.nW d2, .slice q3 u.m d3]] h fun v h' => v = .bool (decide (cmpL (LK t) (LK u) < 0)) ∧ Keep h h' := by
 refine calls_intro (Φ := fun h_ => St h [] p h_ []) Tryd.func94 rfl (tm := zq1 (zq2 (zq8 []))) rfl ?_ (St.start h _ hp)
 intro c₀ cs Stop K
 have oH : t.nH ≤ 100 := by have := O.nh; omega
 have oU : u.nH ≤ 100 := by have := O2.nh; omega
 refine fsr ?_
 refine rl_box mn (v := .agg #[.slice a1 t.nH c1, .slice a2 t.nW c2, .slice a3 t.m c3]) rfl fun b1 => rl_own (L' := [(b1, .cells #[.slice a1 t.nH c1, .slice a2 t.nW c2, .slice a3 t.m c3] 25 (0, 0))]) rfl ?_
 refine rl_norm (tm' := _::_::_::_) rfl ?_
 refine rl_box mn (v := .agg #[.slice q1 u.nH d1, .slice q2 u.nW d2, .slice q3 u.m d3]) rfl fun b2 => rl_own (L' := [(b2, .cells #[.slice q1 u.nH d1, .slice q2 u.nW d2, .slice q3 u.m d3] 25 (0, 0)), (b1, .cells #[.slice a1 t.nH c1, .slice a2 t.nW c2, .slice a3 t.m c3] 25 (0, 0))]) rfl ?_
 refine ro (exd_assign (v := .bool (false)) rfl) <| ren ?_
 obtain ⟨Gw8, GX9, hG1_⟩ := sk2 (fun (v_ : Value) (x_ : Pcs) (w8 : Value) (X9 : Pcs) => v_ = w8 ∧ (OwnS 3 1 w8 (ics (LK t)) X9) ∧ x_ = (X9 ++ []))
 refine rs_as (fl_mixed2 (C := []) (A := ([(b2, .cells #[.slice q1 u.nH d1, .slice q2 u.nW d2, .slice q3 u.m d3] 25 (0, 0)), (b1, .cells #[.slice a1 t.nH c1, .slice a2 t.nW c2, .slice a3 t.m c3] 25 (0, 0))] : Pcs)) 3 [[], [0], [], [0, 2], [0, 1, 2, 3], [], []] [] [1] [0, 2] (fun _ => []) (fun _ => []) (fun i_ => match i_ with | 0 => [] | 1 => [0] | 2 => [] | _ => []) (fun i_ val_ pc_ v_ x_ => match i_ with | 0 => v_ = .agg #[.slice a1 t.nH c1, .slice a2 t.nW c2, .slice a3 t.m c3] ∧ x_ = [] | 1 => ∃ w8 : Value, ∃ X9 : Pcs, v_ = w8 ∧ (OwnS 3 1 w8 (ics (LK t)) X9) ∧ x_ = (X9 ++ []) | 2 => v_ = .agg #[.slice q1 u.nH d1, .slice q2 u.nW d2, .slice q3 u.m d3] ∧ x_ = [] | _ => True) (fun val6 => [.agg #[.slice a1 t.nH c1, .slice a2 t.nW c2, .slice a3 t.m c3], .agg #[.slice q1 u.nH d1, .slice q2 u.nW d2, .slice q3 u.m d3], .pointer (some ⟨b1, 0, none⟩), .pointer (some ⟨b2, 0, none⟩), .bool (false), (val6 0), (val6 1), (val6 2), undef, undef, undef]) mixed (by kernel_rfl) (Nat.le_of_ble_eq_true rfl) (by kernel_rfl) (by kernel_rfl) (by kernel_rfl) (fun _ _ => ⟨fun _ _ h => h.2, ⟨fun _ _ h => h.2, trivial⟩⟩) (fun _ => by kernel_rfl) (by kernel_rfl) ?_ ?_) (fun h_ H_ => St.swap (A := ([(b2, .cells #[.slice q1 u.nH d1, .slice q2 u.nW d2, .slice q3 u.m d3] 25 (0, 0)), (b1, .cells #[.slice a1 t.nH c1, .slice a2 t.nW c2, .slice a3 t.m c3] 25 (0, 0))] : Pcs)) (U := []) H_)
 ·
  refine mixes_cons rfl (opmix2 ?_) ?_
  ·
   intro val6 pc7 hQ_ hX_
   obtain ⟨q_, hq0_⟩ : ∃ q_ : Value → Pcs → Prop, q_ = (fun v_ x_ => v_ = .agg #[.slice a1 t.nH c1, .slice a2 t.nW c2, .slice a3 t.m c3] ∧ x_ = []) := ⟨_, rfl⟩
   refine ⟨(zq1 (zq2 (zq8 []))), [], q_, rfl, rfl, (fun _ _ z_ => by subst hq0_; exact z_), ?_⟩
   subst hq0_
   exact mix_det mn (fun _ h_ H_ => exd_loadN_own H_ tA25 tS25 rfl (i := 1) rfl (vs := [.slice a1 t.nH c1, .slice a2 t.nW c2, .slice a3 t.m c3]) rfl rfl) ⟨rfl, rfl⟩
  refine mixes_cons rfl (opmix2 ?_) ?_
  ·
   intro val6 pc7 hQ_ hX_
   have e0_ : val6 0 = .agg #[.slice a1 t.nH c1, .slice a2 t.nW c2, .slice a3 t.m c3] := (hQ_ 0 rfl).1
   obtain ⟨q_, hq0_⟩ : ∃ q_ : Value → Pcs → Prop, q_ = (fun v_ x_ => ∃ w8 : Value, ∃ X9 : Pcs, v_ = w8 ∧ (OwnS 3 1 w8 (ics (LK t)) X9) ∧ x_ = (X9 ++ [])) := ⟨_, rfl⟩
   refine ⟨(zq1 (zq2 (zq8 []))), [], q_, (by rw [e0_]), rfl, (fun _ _ z_ => by subst hq0_; exact z_), ?_⟩
   subst hq0_
   exact mix_call mn (first := []) (cap := []) rfl rfl fC81 (fun _ h_ H_ => (c81 md _ _ H_.pe _ _ _ _ _ _ t (show TownP _ _ _ _ _ _ _ t from ⟨T.h, T.w, T.y⟩) O N).mono fun v_ h2_ ⟨w8, X9, e_, o10, N_⟩ => ⟨_, ⟨w8, X9, e_, o10, rfl⟩, H_.callN (show New _ _ (X9 ++ []) by rw [List.append_nil]; exact N_)⟩)
  refine mixes_cons rfl (opmix2 ?_) ?_
  ·
   intro val6 pc7 hQ_ hX_
   obtain ⟨q_, hq0_⟩ : ∃ q_ : Value → Pcs → Prop, q_ = (fun v_ x_ => v_ = .agg #[.slice q1 u.nH d1, .slice q2 u.nW d2, .slice q3 u.m d3] ∧ x_ = []) := ⟨_, rfl⟩
   refine ⟨(zq1 (zq2 (zq8 []))), [], q_, rfl, rfl, (fun _ _ z_ => by subst hq0_; exact z_), ?_⟩
   subst hq0_
   exact mix_det mn (fun _ h_ H_ => exd_loadN_own H_ tA25 tS25 rfl (i := 0) rfl (vs := [.slice q1 u.nH d1, .slice q2 u.nW d2, .slice q3 u.m d3]) rfl rfl) ⟨rfl, rfl⟩
  exact mixes_nil rfl
 intro val6 pc7 hQ_ hX_
 have e0_ : val6 0 = .agg #[.slice a1 t.nH c1, .slice a2 t.nW c2, .slice a3 t.m c3] := (hQ_ 0 (by decide)).1
 obtain ⟨e1_, o10, x1_⟩ := hG1_ _ _ (hQ_ 1 (by decide))
 have e2_ : val6 2 = .agg #[.slice q1 u.nH d1, .slice q2 u.nW d2, .slice q3 u.m d3] := (hQ_ 2 (by decide)).1
 clear hQ_ hX_
 generalize Gw8 (val6 1) (pc7 1) = w8 at *
 generalize GX9 (val6 1) (pc7 1) = X9 at *
 refine rl_as (Φ := fun h_ => St h [] p h_ (([(b2, .cells #[.slice q1 u.nH d1, .slice q2 u.nW d2, .slice q3 u.m d3] 25 (0, 0)), (b1, .cells #[.slice a1 t.nH c1, .slice a2 t.nW c2, .slice a3 t.m c3] 25 (0, 0))] : Pcs) ++ (pc7 1 ++ []))) ?_ (fun h_ H_ => H_.swap')
 rw [x1_]
 refine rl_own (L' := ([(b2, .cells #[.slice q1 u.nH d1, .slice q2 u.nW d2, .slice q3 u.m d3] 25 (0, 0)), (b1, .cells #[.slice a1 t.nH c1, .slice a2 t.nW c2, .slice a3 t.m c3] 25 (0, 0))] : Pcs) ++ (X9 ++ [])) (by simp) ?_
 refine rl_norm (tm' := (zq1 (zq2 (zq8 [])))) (by rw [e0_, e1_, e2_]) ?_
 refine rl_call mn (first := []) (cap := []) rfl rfl fC81 (R := fun v_ h_ => ∃ w13 : Value, ∃ X14 : Pcs, v_ = w13 ∧ (OwnS 3 1 w13 (ics (LK u)) X14) ∧ St h [] p h_ (([(b2, .cells #[.slice q1 u.nH d1, .slice q2 u.nW d2, .slice q3 u.m d3] 25 (0, 0)), (b1, .cells #[.slice a1 t.nH c1, .slice a2 t.nW c2, .slice a3 t.m c3] 25 (0, 0))] : Pcs) ++ (X14 ++ (X9 ++ [])))) (fun h_ H_ => (c81 md _ _ H_.pe _ _ _ _ _ _ u (show TownP _ _ _ _ _ _ _ u from ⟨U.h, U.w, U.y⟩) O2 N).mono fun v_ h2_ ⟨w13, X14, e_, o15, N_⟩ => ⟨w13, X14, e_, o15, H_.callNA N_⟩) fun v_ => ?_
 refine rl_ex fun w13 => rl_ex fun X14 => rl_and fun ev_ => rl_and fun o15 => ?_
 have ev_ := ev_.symm; subst ev_
 refine rl_own (L' := ([(b2, .cells #[.slice q1 u.nH d1, .slice q2 u.nW d2, .slice q3 u.m d3] 25 (0, 0)), (b1, .cells #[.slice a1 t.nH c1, .slice a2 t.nW c2, .slice a3 t.m c3] 25 (0, 0))] : Pcs) ++ (X14 ++ (X9 ++ []))) rfl ?_
 refine rl_calld mn (first := []) (cap := []) rfl rfl fC76 (fun h_ H_ => show CallsX Tryd.prog md 76 #[w8, w13] h_ (fun v_ h2_ => v_ = .int .i64 (cmpL (LK t) (LK u)) ∧ Keep h_ h2_) from lend2 (n := t.nH) (n' := u.nH) o10 ((ics_length _).trans (LK_len _)) o15 ((ics_length _).trans (LK_len _)) H_ (fun x_ h_ => by simp at h_ ⊢; rcases h_ with h_ | h_ <;> simp [h_]) fun p_ a_ c_ a2_ c2_ hp_ _ hv_ hv2_ D_ D2_ => by rw [hv_, hv2_]; exact c76 md _ _ hp_ _ _ _ _ _ _ (LK t) (LK u) (show Ints _ _ _ (LK t) from D_) (show Ints _ _ _ (LK u) from D2_) ⟨oH, oU⟩) rfl ?_
 refine rt (exd_lss rfl rfl) (tm' := zq1 (zq2 (zq8 []))) rfl <| ro (exd_assign (v := .bool (decide (cmpL (LK t) (LK u) < 0))) rfl) <| rl_end ?_
 refine fl_ret Tryd.func94 rfl (vs := [.bool (decide (cmpL (LK t) (LK u) < 0))]) (fun h_ H_ => ⟨.bool (decide (cmpL (LK t) (LK u) < 0)), _, rfl, rfl, rfl⟩) (v := .bool (decide (cmpL (LK t) (LK u) < 0))) rfl ?_
 exact fun h_ H_ => K _ _ ⟨rfl, H_.kept⟩
theorem c25 (md : Md) (h : Heap) (p : PHeap) (hp : Per p h) (a1 a2 a3 : Option Addr) (c1 c2 c3 : Nat) (t : Tn) (T : TownP p a1 t.nH a2 t.nW a3 t.m t) (hn : t.nH ≤ 40 ∧ t.nW ≤ 40 ∧ t.m ≤ 41) (Z : TabP p) : CallsX Tryd.prog md 25 #[.agg #[.slice a1 t.nH c1, .slice a2 t.nW c2, .slice a3 t.m c3]] h fun v h' => ∃ w X, v = .tuple #[w, .int .i64 (shortE t)] ∧ OwnS 3 1 w (ics (shortC t)) X ∧ New h h' X := by
 refine calls_intro (Φ := fun h_ => St h [] p h_ []) Tryd.func25 rfl (tm := zq1 (zq2 (zq4 (zq8 (zq32 []))))) rfl ?_ (St.start h _ hp)
 intro c₀ cs Stop K
 refine fsr ?_
 refine rl_box mn (v := .agg #[.slice a1 t.nH c1, .slice a2 t.nW c2, .slice a3 t.m c3]) rfl fun b1 => rl_own (L' := [(b1, .cells #[.slice a1 t.nH c1, .slice a2 t.nW c2, .slice a3 t.m c3] 25 (0, 0))]) rfl ?_
 refine rt (exd_assign (v := .slice none 0 0) rfl) (tm' := _::_::_::_) rfl <| ro (exd_assign (v := .int .i64 0) rfl) <| ren <| fsr <| rd (fun h_ H_ => exd_loadN_own H_ tA25 tS25 rfl (i := 0) rfl (vs := [.slice a1 t.nH c1, .slice a2 t.nW c2, .slice a3 t.m c3]) rfl rfl) ?_
 refine rl_calld mn (first := []) (cap := []) rfl rfl fC47 (fun h_ H_ => c47 md _ _ H_.pe _ _ _ _ _ _ _ _ _ t (show TownP _ _ _ _ _ _ _ t from ⟨T.h, T.w, T.y⟩) (by omega)) (tm' := zq2 (zq8 _)) rfl ?_
 refine ro (exd_assign (v := .int .i64 (chkB t)) rfl) <| ren <| rl_start <| ro (exd_move (v := .int .i64 (chkB t)) rfl) <| rt (exd_neq rfl rfl) (tm' := zq4 (zq8 _)) rfl <| rl_end ?_
 by_cases cc2 : chkB t ≠ 0
 ·
  refine fl_then rfl (dtt cc2) <| fsr <| ro (exd_move (v := .int .i64 (chkB t)) rfl) <| ro (exd_assign (v := .slice none 0 0) rfl) <| rt (exd_assign (v := .int .i64 (chkB t)) rfl) (tm' := zq4 _) rfl <| rl_end ?_
  refine fl_ret Tryd.func25 rfl (vs := [.slice none 0 0, .int .i64 (chkB t)]) (fun h_ H_ => ⟨.slice none 0 0, _, rfl, rfl, ⟨.int .i64 (chkB t), _, rfl, rfl, rfl⟩⟩) (v := .tuple #[.slice none 0 0, .int .i64 (chkB t)]) rfl ?_
  exact fun h_ H_ => K _ _ ⟨_, [], by rw [shortE_no ‹_›], (OwnS.empty _ _).as (by rw [shortC_no ‹_›]; rfl), (H_.sub (List.nil_sublist _)).new⟩
 ·
  refine fl_else rfl (dff cc2) <| fl_skip <| fl_seq ?_
  have hc_ : chkB t = 0 := by omega
  have hO : OkT t := okt_of hc_
  have hp64_ := pow_nH hO.toOk
  refine rl_start <| ro (exd_assign (v := .slice none 0 0) rfl) <| ren <| fsr <| ro (exd_fieldAddr tF25_0 rfl (a' := ⟨b1, 0, none⟩) rfl) ?_
  refine rl_det mn (fun h_ H_ => exd_load_own H_ tA22 rfl (i := 0) rfl (v := .slice a1 t.nH c1) rfl) (tm' := zq1 (zq2 (zq4 (zq8 _)))) rfl ?_
  refine ro (exd_len Tryd.underlying22 rfl) ?_
  refine ro (exd_shlU (s := t.nH) rfl rfl (by omega)) ?_
  refine rt (exd_move (v := .int .u64 0) rfl) (tm' := zq2 (zq16 _)) rfl <| rl_end <| fl_block ?_
  refine fl_loop (m₀ := 2 ^ t.nH - 0) (fun m_ tm_ h_ => ∃ (k : Nat) (bl : List Int) (w : Value) (X1 : Pcs), m_ = 2 ^ t.nH - k ∧ (∃ y3 : Nat → Value, tm_ = [.agg #[.slice a1 t.nH c1, .slice a2 t.nW c2, .slice a3 t.m c3], .pointer (some ⟨b1, 0, none⟩), .slice none 0 0, .int .i64 0, .int .i64 (chkB t), w, (y3 6), (y3 7), .agg #[.slice a1 t.nH c1, .slice a2 t.nW c2, .slice a3 t.m c3], .int .i64 (chkB t), .int .i64 (chkB t), .bool (decide (chkB t ≠ 0)), undef, .pointer (some ⟨b1, 0, none⟩), .slice a1 t.nH c1, .int .i64 (((t.nH : Nat) : Int)), .int .u64 (((2 ^ t.nH : Nat) : Int)), .int .u64 (((k : Nat) : Int)), (y3 18), (y3 19), (y3 20), (y3 21), (y3 22), (y3 23), (y3 24), (y3 25), (y3 26), (y3 27), (y3 28), (y3 29), (y3 30), (y3 31), (y3 32), (y3 33), (y3 34), (y3 35), (y3 36), (y3 37), (y3 38), (y3 39), (y3 40), (y3 41), (y3 42), (y3 43), undef, undef, undef]) ∧ (k ≤ 2 ^ t.nH) ∧ (bl = shortF t k) ∧ (bl = [] → w = .slice none 0 0) ∧ (OwnS 3 1 w (ics bl) X1) ∧ St h [] p h_ (([(b1, .cells #[.slice a1 t.nH c1, .slice a2 t.nW c2, .slice a3 t.m c3] 25 (0, 0))] : Pcs) ++ (X1 ++ []))) (fun h_ H_ => ⟨0, [], (.slice none 0 0), [], rfl, (y_of rfl), Nat.zero_le _, rfl, (fun _ => rfl), (OwnS.empty _ _), H_⟩) ?_
  intro m_ tm_ IH4
  refine rs_ex fun k => rs_ex fun bl => rs_ex fun w => rs_ex fun X1 => rs_and fun hm_ => rs_and fun ht_ => rs_and fun hk => rs_and fun hb => rs_and fun hw0 => rs_and fun o1 => ?_
  subst hm_; obtain ⟨y3, ht_⟩ := ht_; subst ht_
  have hbl_ : bl.length ≤ 6 := by rw [hb]; exact shortF_len t k (by omega)
  have hgl_ := fun z_ : k < 64 => LG_len k z_
  have hgl2_ : (LG k).length ≤ 6 ∨ 64 ≤ k := by by_cases z_ : k < 64; exact .inl (hgl_ z_); exact .inr (by omega)
  refine fsr <| ro (exd_lss rfl rfl) <| ren ?_
  by_cases cc5 : ((k : Nat) : Int) < ((2 ^ t.nH : Nat) : Int)
  ·
   refine fl_then rfl (dtt cc5) <| fl_skip <| fl_seq <| fl_block <| fsr <| ro (exd_move (v := .int .u64 (((k : Nat) : Int))) rfl) ?_
   refine rt (exd_assign (v := .int .u64 (((k : Nat) : Int))) rfl) (tm' := zq1 (zq2 (zq4 _))) rfl <| ren <| rl_start <| ro (exd_move (v := .int .u64 (((k : Nat) : Int))) rfl) ?_
   refine rl_call mn (first := []) (cap := []) rfl rfl fC73 (R := fun v_ h_ => ∃ w6 : Value, ∃ X7 : Pcs, v_ = w6 ∧ (OwnS 3 1 w6 (ics (LG k)) X7) ∧ St h [] p h_ (([(b1, .cells #[.slice a1 t.nH c1, .slice a2 t.nW c2, .slice a3 t.m c3] 25 (0, 0))] : Pcs) ++ (X7 ++ (X1 ++ [])))) (fun h_ H_ => (c73 md _ _ H_.pe k (by omega) Z).mono fun v_ h2_ ⟨w6, X7, e_, o8, N_⟩ => ⟨w6, X7, e_, o8, H_.callNA N_⟩) fun v_ => ?_
   refine rl_ex fun w6 => rl_ex fun X7 => rl_and fun ev_ => rl_and fun o8 => ?_
   have ev_ := ev_.symm; subst ev_
   refine rl_own (L' := ([(b1, .cells #[.slice a1 t.nH c1, .slice a2 t.nW c2, .slice a3 t.m c3] 25 (0, 0))] : Pcs) ++ (X7 ++ (X1 ++ []))) rfl ?_
   refine rt (exd_assign (v := w6) rfl) (tm' := zq8 _) rfl <| ren <| rl_start <| ro (exd_move (v := .int .u64 (((k : Nat) : Int))) rfl) <| rd (fun h_ H_ => exd_loadN_own H_ tA25 tS25 rfl (i := 0) rfl (vs := [.slice a1 t.nH c1, .slice a2 t.nW c2, .slice a3 t.m c3]) rfl rfl) ?_
   refine rl_calld mn (first := []) (cap := []) rfl rfl fC74 (fun h_ H_ => c74 md _ _ H_.pe _ _ _ _ _ _ t (show TownP _ _ _ _ _ _ _ t from ⟨T.h, T.w, T.y⟩) hO k (by omega) Z) (tm' := zq1 (zq8 (zq16 _))) rfl ?_
   refine ro (exd_move (v := .bool (decide (0 < shortN t k))) rfl) ?_
   by_cases cc9 : 0 < shortN t k
   ·
    refine rl_det (ms rfl rfl (dtt cc9)) (fun h_ H_ => exd_move (v := w) rfl) rfl ?_
    refine rl_det (ms rfl rfl (dtt cc9)) (fun h_ H_ => exd_eqNilO (C := bl = []) o1 hw0 (fun z_ y_ => z_ (ics_nil y_)) Tryd.underlying22 rfl) (tm' := zq4 (zq8 (zq16 _))) rfl ?_
    refine rl_det (ms rfl rfl (dtt cc9)) (fun h_ H_ => exd_move (v := .bool (decide (bl = []))) rfl) rfl ?_
    by_cases cc10 : bl = []
    ·
     refine rp (mo rfl rfl (dtt cc10)) <| rl_pass (mo rfl rfl (dtt cc10)) (tm' := zq1 (zq2 (zq4 (zq8 (zq16 _))))) rfl <| rp (mo rfl rfl (dtt cc10)) <| rp (mo rfl rfl (dtt cc10)) <| rl_pass (mo rfl rfl (dtt cc10)) (tm' := zq1 (zq2 (zq4 (zq8 (zq32 []))))) rfl <| rp (mo rfl rfl (dtt cc10)) ?_
     refine rp (mo rfl rfl (dtt cc10)) <| rl_pass (mo rfl rfl (dtt cc10)) (tm' := zq1 (zq2 (zq4 (zq8 (zq32 []))))) rfl <| rp (mo rfl rfl (dtt cc10)) <| rp (mo rfl rfl (dtt cc10)) <| rl_pass (mo rfl rfl (dtt cc10)) (tm' := zq1 (zq2 (zq4 (zq8 (zq32 []))))) rfl ?_
     refine rl_det (ms rfl rfl (dtt cc9)) (fun h_ H_ => exd_pick_t rfl (dtt cc10) (v := .bool (true)) rfl) rfl ?_
     refine ro (exd_pick_t rfl (dtt cc9) (v := .bool (true)) rfl) <| rl_end <| fl_then rfl rfl <| rl_start <| rt (exd_move (v := w6) rfl) (tm' := zq1 (zq2 (zq4 (zq8 (zq32 []))))) rfl <| ro (exd_assign (v := w6) rfl) ?_
     refine rl_end <| fl_inBlock <| rl_start ?_
     refine ro (exd_add rfl rfl (n := ((k + 1 : Nat) : Int)) (wrU (by omega))) ?_
     refine rt (exd_move (v := .int .u64 (((k + 1 : Nat) : Int))) rfl) (tm' := zq2 (zq16 _)) rfl <| rl_end ?_
     refine rs_perm (List.Perm.append_left _ (List.perm_append_comm_assoc _ _ _)) ?_
     refine rs_own (L' := ([(b1, .cells #[.slice a1 t.nH c1, .slice a2 t.nW c2, .slice a3 t.m c3] 25 (0, 0))] : Pcs) ++ (X1 ++ (X7 ++ []))) rfl ?_
     exact fun h_ H_ => IH4 _ _ (by omega) h_ ⟨k + 1, (LG k), w6, X7, rfl, (y_of rfl), (by omega), (by rw [shortF_yes ‹_› (by rw [← hb]; first | exact .inl (by assumption) | exact .inr (by assumption))]), (fun z_ => absurd z_ (shortN_ne hO.toOk ‹_›)), o8, H_.dropX⟩
    ·
     refine rl_det (ms rfl rfl (dff cc10)) (fun h_ H_ => exd_move (v := w6) rfl) rfl ?_
     refine rl_det (ms rfl rfl (dff cc10)) (fun h_ H_ => exd_lenN o8 ((ics_length _).trans rfl) Tryd.underlying22 rfl) rfl ?_
     refine rl_det (ms rfl rfl (dff cc10)) (fun h_ H_ => exd_move (v := w) rfl) (tm' := zq1 (zq2 (zq4 (zq8 (zq32 []))))) rfl ?_
     refine rl_det (ms rfl rfl (dff cc10)) (fun h_ H_ => exd_lenN o1 ((ics_length _).trans rfl) Tryd.underlying22 rfl) rfl ?_
     refine rl_det (ms rfl rfl (dff cc10)) (fun h_ H_ => exd_sub rfl rfl (wr (by omega))) rfl ?_
     refine rl_det (ms rfl rfl (dff cc10)) (fun h_ H_ => exd_move (v := w6) rfl) (tm' := zq1 (zq2 (zq4 (zq8 (zq32 []))))) rfl ?_
     refine rl_det (ms rfl rfl (dff cc10)) (fun h_ H_ => exd_move (v := w) rfl) rfl ?_
     refine rl_calld (ms rfl rfl (dff cc10)) (first := []) (cap := []) rfl rfl fC76 (fun h_ H_ => show CallsX Tryd.prog md 76 #[w6, w] h_ (fun v_ h2_ => v_ = .int .i64 (cmpL (LG k) bl) ∧ Keep h_ h2_) from lend2 (n := (LG k).length) (n' := bl.length) o8 ((ics_length _).trans rfl) o1 ((ics_length _).trans rfl) H_ (fun x_ h_ => by simp at h_ ⊢; rcases h_ with h_ | h_ <;> simp [h_]) fun p_ a_ c_ a2_ c2_ hp_ _ hv_ hv2_ D_ D2_ => by rw [hv_, hv2_]; exact c76 md _ _ hp_ _ _ _ _ _ _ (LG k) bl (show Ints _ _ _ (LG k) from D_) (show Ints _ _ _ bl from D2_) (by omega)) rfl ?_
     refine rl_buildO ([(b1, .cells #[.slice a1 t.nH c1, .slice a2 t.nW c2, .slice a3 t.m c3] 25 (0, 0))] : Pcs) (ms rfl rfl (dff cc10)) Tryd.underlying22 tS3 tZ3 (Nat.le_of_ble_eq_true rfl) (vs := [(0, .int .i64 ((((LG k).length : Nat) : Int) - ((bl.length : Nat) : Int))), (1, .int .i64 (cmpL (LG k) bl))]) rfl rfl (es := [[.int .i64 ((((LG k).length : Nat) : Int) - ((bl.length : Nat) : Int))], [.int .i64 (cmpL (LG k) bl)]]) rfl rfl rfl fun v11 X12 o13 => ?_
     refine rl_norm (tm' := zq1 (zq2 (zq4 (zq8 (zq32 []))))) rfl ?_
     refine rl_calld (ms rfl rfl (dff cc10)) (first := []) (cap := []) rfl rfl fC75 (fun h_ H_ => lend_to (n := 2) o13 rfl H_ (fun x_ h_ => by simp [h_]) fun p_ a_ c_ hp_ _ hv_ D_ => by rw [hv_]; exact c75 md _ _ hp_ _ _ _ ([(((LG k).length : Nat) : Int) - ((bl.length : Nat) : Int), cmpL (LG k) bl]) (show Ints _ _ _ [(((LG k).length : Nat) : Int) - ((bl.length : Nat) : Int), cmpL (LG k) bl] from D_) (by omega)) rfl ?_
     refine rl_det (ms rfl rfl (dff cc10)) (fun h_ H_ => exd_lss rfl rfl) rfl ?_
     refine rl_det (ms rfl rfl (dtt cc9)) (fun h_ H_ => exd_pick_f rfl (dff cc10) (v := .bool (decide (orI ([(((LG k).length : Nat) : Int) - ((bl.length : Nat) : Int), cmpL (LG k) bl]) < 0))) rfl) (tm' := zq1 (zq2 (zq4 (zq8 (zq32 []))))) rfl ?_
     refine ro (exd_pick_t rfl (dtt cc9) (v := .bool (decide (orI ([(((LG k).length : Nat) : Int) - ((bl.length : Nat) : Int), cmpL (LG k) bl]) < 0))) rfl) <| rl_end ?_
     by_cases cc14 : orI ([(((LG k).length : Nat) : Int) - ((bl.length : Nat) : Int), cmpL (LG k) bl]) < 0
     ·
      refine fl_then rfl (dtt cc14) <| rl_start <| ro (exd_move (v := w6) rfl) <| rt (exd_assign (v := w6) rfl) (tm' := zq2 (zq4 _)) rfl <| rl_end <| fl_inBlock ?_
      refine rl_start ?_
      refine ro (exd_add rfl rfl (n := ((k + 1 : Nat) : Int)) (wrU (by omega))) ?_
      refine ro (exd_move (v := .int .u64 (((k + 1 : Nat) : Int))) rfl) <| rl_end ?_
      refine rs_perm (List.Perm.append_left _ (List.Perm.append_left _ (List.perm_append_comm_assoc _ _ _))) ?_
      refine rs_own (L' := ([(b1, .cells #[.slice a1 t.nH c1, .slice a2 t.nW c2, .slice a3 t.m c3] 25 (0, 0))] : Pcs) ++ (X12 ++ (X1 ++ (X7 ++ [])))) rfl ?_
      exact fun h_ H_ => IH4 _ _ (by omega) h_ ⟨k + 1, (LG k), w6, X7, rfl, (y_of rfl), (by omega), (by rw [shortF_yes ‹_› (by rw [← hb]; first | exact .inl (by assumption) | exact .inr (by assumption))]), (fun z_ => absurd z_ (shortN_ne hO.toOk ‹_›)), o8, H_.dropX.dropX⟩
     ·
      refine fl_else rfl (dff cc14) <| fl_skip <| fl_inBlock <| rl_start ?_
      refine rt (exd_add rfl rfl (n := ((k + 1 : Nat) : Int)) (wrU (by omega))) (tm' := zq1 (zq2 (zq4 (zq8 (zq32 []))))) rfl ?_
      refine ro (exd_move (v := .int .u64 (((k + 1 : Nat) : Int))) rfl) <| rl_end ?_
      exact fun h_ H_ => IH4 _ _ (by omega) h_ ⟨k + 1, bl, w, X1, rfl, (y_of rfl), (by omega), (by first | (rw [shortF_no1 ‹_›]; exact hb) | (rw [shortF_no2 (by rw [← hb]; assumption) (by rw [← hb]; assumption)]; exact hb)), hw0, o1, H_.dropX.dropX⟩
   ·
    refine rp (mo rfl rfl (dff cc9)) <| rl_pass (mo rfl rfl (dff cc9)) (tm' := zq4 (zq8 (zq16 _))) rfl <| rp (mo rfl rfl (dff cc9)) <| rp (met_undef rfl rfl) <| rl_pass (met_undef rfl rfl) (tm' := zq1 (zq2 (zq4 (zq8 (zq16 _))))) rfl <| rp (met_undef rfl rfl) ?_
    refine rp (met_undef rfl rfl) <| rl_pass (met_undef rfl rfl) (tm' := zq1 (zq2 (zq4 (zq8 (zq32 []))))) rfl <| rp (met_undef rfl rfl) <| rp (met_undef rfl rfl) <| rl_pass (met_undef rfl rfl) (tm' := zq1 (zq2 (zq4 (zq8 (zq32 []))))) rfl <| rp (met_undef rfl rfl) ?_
    refine rp (met_undef rfl rfl) <| rl_pass (met_undef rfl rfl) (tm' := zq1 (zq2 (zq4 (zq8 (zq32 []))))) rfl <| rp (mo rfl rfl (dff cc9)) <| ro (exd_pick_f rfl (dff cc9) (v := .bool (false)) rfl) <| rl_end <| fl_else rfl rfl ?_
    refine fl_skip <| fl_inBlock <| rl_start ?_
    refine rt (exd_add rfl rfl (n := ((k + 1 : Nat) : Int)) (wrU (by omega))) (tm' := zq1 (zq2 (zq4 (zq8 (zq32 []))))) rfl ?_
    refine ro (exd_move (v := .int .u64 (((k + 1 : Nat) : Int))) rfl) <| rl_end ?_
    exact fun h_ H_ => IH4 _ _ (by omega) h_ ⟨k + 1, bl, w, X1, rfl, (y_of rfl), (by omega), (by first | (rw [shortF_no1 ‹_›]; exact hb) | (rw [shortF_no2 (by rw [← hb]; assumption) (by rw [← hb]; assumption)]; exact hb)), hw0, o1, H_.dropX⟩
  ·
   refine fl_else rfl (dff cc5) <| fl_exit rfl <| fl_seq <| fsr <| ro (exd_move (v := w) rfl) <| rt (exd_eqNilO (C := bl = []) o1 hw0 (fun z_ y_ => z_ (ics_nil y_)) Tryd.underlying22 rfl) (tm' := zq1 (zq2 (zq4 (zq8 (zq32 []))))) rfl ?_
   refine rl_end ?_
   by_cases cc15 : bl = []
   ·
    refine fl_then rfl (dtt cc15) <| fsr <| ro (exd_assign (v := .slice none 0 0) rfl) <| ro (exd_assign (v := .int .i64 3) rfl) <| rl_end ?_
    refine fl_ret Tryd.func25 rfl (vs := [.slice none 0 0, .int .i64 3]) (fun h_ H_ => ⟨.slice none 0 0, _, rfl, rfl, ⟨.int .i64 3, _, rfl, rfl, rfl⟩⟩) (v := .tuple #[.slice none 0 0, .int .i64 3]) rfl ?_
    have e_ : k = 2 ^ t.nH := by omega
    have hP_ : bl = shortP t := by rw [hb, e_]; rfl
    have hP2_ : shortP t = [] := by rw [← hP_]; exact ‹bl = []›
    exact fun h_ H_ => K _ _ ⟨_, [], by rw [shortE_3 hc_ hP2_], (OwnS.empty _ _).as (by rw [shortC_yes hc_, hP2_]; rfl), (H_.sub (List.nil_sublist _)).new⟩
   ·
    refine fl_else rfl (dff cc15) <| fl_skip <| fsr <| rt (exd_move (v := w) rfl) (tm' := zq1 (zq2 (zq4 (zq8 (zq32 []))))) rfl <| ro (exd_assign (v := w) rfl) <| ro (exd_assign (v := .int .i64 0) rfl) ?_
    refine rl_end ?_
    refine fl_ret Tryd.func25 rfl (vs := [w, .int .i64 0]) (fun h_ H_ => ⟨w, _, rfl, rfl, ⟨.int .i64 0, _, rfl, rfl, rfl⟩⟩) (v := .tuple #[w, .int .i64 0]) rfl ?_
    have e_ : k = 2 ^ t.nH := by omega
    have hP_ : bl = shortP t := by rw [hb, e_]; rfl
    have hP2_ : ¬ shortP t = [] := by rw [← hP_]; exact ‹¬ bl = []›
    exact fun h_ H_ => K _ _ ⟨_, _, by rw [shortE_0 hc_ hP2_], o1.as (by rw [shortC_yes hc_, hP_]), ((H_.dropA).sub (List.sublist_append_left _ _)).new⟩
end Go.Proofs.YtalfgojocdonhaaDoor
namespace Go.Proofs.YtalfgojocdonhaaDoor
open Go.X Go.X.Flow Go.Conc
set_option maxRecDepth 10000
set_option synthInstance.maxSize 2000

set_option maxHeartbeats 1000000
theorem c55 (md : Md) (h : Heap) (p : PHeap) (hp : Per p h) (a1 a2 a3 : Option Addr) (c1 c2 c3 : Nat) (t : Tn) (T : TownP p a1 t.nH a2 t.nW a3 t.m t) (hn : t.nH ≤ 40 ∧ t.nW ≤ 40 ∧ t.m ≤ 41) (hcap : t.m ≤ c3) (x y : Int) (N : NoneP p) : CallsX Tryd.prog md 55 #[.agg #[.slice a1 t.nH c1, .slice a2 t.nW c2, .slice a3 t.m c3], .int .i64 (x), .int .i64 (y)] h fun v h' => v = .tuple #[.bool (wayB t x y), .int .i64 (wayE t x y)] ∧ Keep h h' := by
 refine calls_intro (Φ := fun h_ => St h [] p h_ []) Tryd.func55 rfl (tm := zq16 (zq32 [])) rfl ?_ (St.start h _ hp)
 intro c₀ cs Stop K
 refine fsr ?_
 refine rl_box mn (v := .agg #[.slice a1 t.nH c1, .slice a2 t.nW c2, .slice a3 t.m c3]) rfl fun b1 => rl_own (L' := [(b1, .cells #[.slice a1 t.nH c1, .slice a2 t.nW c2, .slice a3 t.m c3] 25 (0, 0))]) rfl ?_
 refine rl_norm (tm' := zq4 _) rfl ?_
 refine ro (exd_assign (v := .bool (false)) rfl) <| ro (exd_assign (v := .int .i64 0) rfl) <| ren <| fl_seq ?_
 by_cases cc2 : 0 ≤ x ∧ x ≤ (t.nH : Int) - 1
 ·
  refine fl_drawn2 9 [[], [], [], [1, 2], [1, 2, 3], [], [1, 2, 3], [1, 2, 3, 5, 6], [1, 2, 3, 4, 5, 6], [], []] mixed (by kernel_rfl) (Nat.le_of_ble_eq_true rfl) ?_
  refine swr_det mn (fun h_ H_ => exd_loadN_own H_ tA25 tS25 rfl (i := 0) rfl (vs := [.slice a1 t.nH c1, .slice a2 t.nW c2, .slice a3 t.m c3]) rfl rfl) (tm' := zq4 (zq8 _)) rfl ?_
  refine wd (fun h_ H_ => exd_loadN_own H_ tA25 tS25 rfl (i := 0) rfl (vs := [.slice a1 t.nH c1, .slice a2 t.nW c2, .slice a3 t.m c3]) rfl rfl) <| wt (exd_move (v := .int .i64 (x)) rfl) (tm' := zq2 (zq4 (zq8 _))) rfl ?_
  refine swr_call mn (first := []) (cap := []) rfl rfl fC65 (fun h_ H_ => (c65 md _ _ H_.pe _ _ _ _ _ _ _ _ _ t (show TownP _ _ _ _ _ _ _ t from ⟨T.h, T.w, T.y⟩) (by omega) (x)).mono fun v_ h2_ ⟨e_, k_⟩ => ⟨e_, H_.call k_⟩) rfl ?_
  refine wt (exd_move (v := .bool (decide (0 ≤ x ∧ x ≤ (t.nH : Int) - 1))) rfl) (tm' := zq16 _) rfl ?_
  refine swr_det (ms rfl rfl (dtt cc2)) (fun h_ H_ => exd_loadN_own H_ tA25 tS25 rfl (i := 0) rfl (vs := [.slice a1 t.nH c1, .slice a2 t.nW c2, .slice a3 t.m c3]) rfl rfl) rfl ?_
  refine swr_det (ms rfl rfl (dtt cc2)) (fun h_ H_ => exd_move (v := .int .i64 (y)) rfl) (tm' := zq2 (zq16 _)) rfl ?_
  refine swr_call (ms rfl rfl (dtt cc2)) (first := []) (cap := []) rfl rfl fC70 (fun h_ H_ => (c70 md _ _ H_.pe _ _ _ _ _ _ _ _ _ t (show TownP _ _ _ _ _ _ _ t from ⟨T.h, T.w, T.y⟩) (by omega) (y)).mono fun v_ h2_ ⟨e_, k_⟩ => ⟨e_, H_.call k_⟩) rfl ?_
  refine wt (exd_pick_t rfl (dtt cc2) (v := .bool (decide (0 ≤ y ∧ y ≤ (t.nW : Int) - 1))) rfl) (tm' := zq4 (zq16 _)) rfl ?_
  refine swr_nil rfl ?_
  refine rl_calld mn (first := []) (cap := []) rfl rfl fC64 (fun h_ H_ => c64 md _ _ H_.pe _ _ _ _ _ _ _ _ _ t (show TownP _ _ _ _ _ _ _ t from ⟨T.h, T.w, T.y⟩) (by omega) (decide (0 ≤ y ∧ y ≤ (t.nW : Int) - 1))) rfl ?_
  refine rt (exd_assign (v := .int .i64 (askB t (decide (0 ≤ y ∧ y ≤ (t.nW : Int) - 1)))) rfl) (tm' := zq1 (zq8 _)) rfl <| ren <| rl_start <| ro (exd_move (v := .int .i64 (askB t (decide (0 ≤ y ∧ y ≤ (t.nW : Int) - 1)))) rfl) <| ro (exd_neq rfl rfl) <| rl_end ?_
  by_cases cc3 : askB t (decide (0 ≤ y ∧ y ≤ (t.nW : Int) - 1)) ≠ 0
  ·
   refine fl_then rfl (dtt cc3) <| fsr <| rt (exd_move (v := .int .i64 (askB t (decide (0 ≤ y ∧ y ≤ (t.nW : Int) - 1)))) rfl) (tm' := zq8 (zq16 _)) rfl <| ro (exd_assign (v := .bool (false)) rfl) <| ro (exd_assign (v := .int .i64 (askB t (decide (0 ≤ y ∧ y ≤ (t.nW : Int) - 1)))) rfl) <| rl_end ?_
   refine fl_ret Tryd.func55 rfl (vs := [.bool (false), .int .i64 (askB t (decide (0 ≤ y ∧ y ≤ (t.nW : Int) - 1)))]) (fun h_ H_ => ⟨.bool (false), _, rfl, rfl, ⟨.int .i64 (askB t (decide (0 ≤ y ∧ y ≤ (t.nW : Int) - 1))), _, rfl, rfl, rfl⟩⟩) (v := .tuple #[.bool (false), .int .i64 (askB t (decide (0 ≤ y ∧ y ≤ (t.nW : Int) - 1)))]) rfl ?_
   have ha_ := wayA_tt (t := t) (x := x) (y := y) ‹_›
   have hn_ : ¬ wayA t x y = 0 := by rw [ha_]; assumption
   exact fun h_ H_ => K _ _ ⟨by rw [wayB_no hn_, wayE_no hn_, ha_], H_.kept⟩
  ·
   refine fl_else rfl (dff cc3) <| fl_skip <| fl_seq ?_
   have ha0_ : wayA t x y = 0 := by rw [wayA_tt (by assumption)]; omega
   obtain ⟨hc_, hx_, hy_⟩ := wayA_ok ha0_
   obtain ⟨h12, hV⟩ := vd_of hc_
   have hO : OkT t := okt_of hc_
   refine rl_start <| rt (exd_move (v := .int .i64 (x)) rfl) (tm' := zq1 (zq8 (zq16 _))) rfl <| ro (exd_move (v := .int .i64 (y)) rfl) <| ro (exd_build tZ43 tP43 (vs := [(0, .int .i64 (x)), (1, .int .i64 (y))]) rfl (cells := #[.int .i64 (x), .int .i64 (y)]) rfl) ?_
   refine rl_alloc mn tZ43 rfl fun b4 => rl_own (L' := [(b4, .cells #[.int .i64 0, .int .i64 0] 43 (0, 0)), (b1, .cells #[.slice a1 t.nH c1, .slice a2 t.nW c2, .slice a3 t.m c3] 25 (0, 0))]) rfl ?_
   refine rl_norm (tm' := zq2 (zq8 _)) rfl ?_
   refine rl_store mn tS43 rfl (v := .agg #[.int .i64 (x), .int .i64 (y)]) rfl (i := 0) rfl rfl rfl (Nat.le_of_ble_eq_true rfl) (cs2 := [.int .i64 (x), .int .i64 (y)]) rfl (rl_own (L' := [(b4, .cells #[.int .i64 (x), .int .i64 (y)] 43 (0, 0)), (b1, .cells #[.slice a1 t.nH c1, .slice a2 t.nW c2, .slice a3 t.m c3] 25 (0, 0))]) rfl ?_)
   refine ren <| fsr <| ro (exd_fieldAddr tF25_2 rfl (a' := ⟨b1, 2, none⟩) rfl) <| rd (fun h_ H_ => exd_load_own H_ tA23 rfl (i := 1) rfl (v := .slice a3 t.m c3) rfl) ?_
   refine rl_det mn (fun h_ H_ => exd_loadN_own H_ tA43 tS43 rfl (i := 0) rfl (vs := [.int .i64 (x), .int .i64 (y)]) rfl rfl) (tm' := zq2 (zq4 (zq8 (zq16 _)))) rfl ?_
   refine rl_calld mn (first := []) (cap := []) rfl rfl fC95 (fun h_ H_ => c95 md _ _ H_.pe _ _ _ _ T.y (by omega) (x) (y)) rfl ?_
   refine rl_end ?_
   by_cases cc5 : ((x, y) : FWay) ∈ t.wy
   ·
    refine fl_then rfl (dtt cc5) <| fsr <| ro (exd_assign (v := .bool (false)) rfl) <| rt (exd_assign (v := .int .i64 3) rfl) (tm' := zq8 _) rfl <| rl_end ?_
    refine fl_ret Tryd.func55 rfl (vs := [.bool (false), .int .i64 3]) (fun h_ H_ => ⟨.bool (false), _, rfl, rfl, ⟨.int .i64 3, _, rfl, rfl, rfl⟩⟩) (v := .tuple #[.bool (false), .int .i64 3]) rfl ?_
    exact fun h_ H_ => K _ _ ⟨by rw [wayB_3 ‹_›, wayE_3 ha0_ ‹_›], H_.kept⟩
   ·
    refine fl_else rfl (dff cc5) <| fl_skip <| fsr <| rd (fun h_ H_ => exd_loadN_own H_ tA25 tS25 rfl (i := 1) rfl (vs := [.slice a1 t.nH c1, .slice a2 t.nW c2, .slice a3 t.m c3]) rfl rfl) ?_
    refine rl_alloc mn tZ25 rfl fun b6 => rl_own (L' := [(b6, .cells #[.slice none 0 0, .slice none 0 0, .slice none 0 0] 25 (0, 0)), (b4, .cells #[.int .i64 (x), .int .i64 (y)] 43 (0, 0)), (b1, .cells #[.slice a1 t.nH c1, .slice a2 t.nW c2, .slice a3 t.m c3] 25 (0, 0))]) rfl ?_
    refine rl_store mn tS25 rfl (v := .agg #[.slice a1 t.nH c1, .slice a2 t.nW c2, .slice a3 t.m c3]) rfl (i := 0) rfl rfl rfl (Nat.le_of_ble_eq_true rfl) (cs2 := [.slice a1 t.nH c1, .slice a2 t.nW c2, .slice a3 t.m c3]) rfl (rl_own (L' := [(b6, .cells #[.slice a1 t.nH c1, .slice a2 t.nW c2, .slice a3 t.m c3] 25 (0, 0)), (b4, .cells #[.int .i64 (x), .int .i64 (y)] 43 (0, 0)), (b1, .cells #[.slice a1 t.nH c1, .slice a2 t.nW c2, .slice a3 t.m c3] 25 (0, 0))]) rfl ?_)
    refine ren ?_
    refine rs_as (fl_mixed2 (C := []) (A := ([(b6, .cells #[.slice a1 t.nH c1, .slice a2 t.nW c2, .slice a3 t.m c3] 25 (0, 0)), (b4, .cells #[.int .i64 (x), .int .i64 (y)] 43 (0, 0)), (b1, .cells #[.slice a1 t.nH c1, .slice a2 t.nW c2, .slice a3 t.m c3] 25 (0, 0))] : Pcs)) 11 [[], [0], [], [2], [2, 3], [], [5], [5, 6], [0, 1, 2, 3, 4, 5, 6, 7], [], [9], [], [], []] [] [10] [0, 1, 2, 3, 4, 5, 6, 7, 8, 9] (fun _ => []) (fun _ => []) (fun i_ => match i_ with | 0 => [] | 1 => [0] | 2 => [] | 3 => [2] | 4 => [3] | 5 => [] | 6 => [5] | 7 => [6] | 8 => [1, 4, 7] | 9 => [] | 10 => [9] | _ => []) (fun i_ val_ pc_ v_ x_ => match i_ with | 0 => v_ = .pointer (some ⟨b1, 2, none⟩) ∧ x_ = [] | 1 => v_ = .slice a3 t.m c3 ∧ x_ = [] | 2 => v_ = .pointer (some ⟨b1, 2, none⟩) ∧ x_ = [] | 3 => v_ = .slice a3 t.m c3 ∧ x_ = [] | 4 => v_ = .int .i64 (((t.m : Nat) : Int)) ∧ x_ = [] | 5 => v_ = .pointer (some ⟨b1, 2, none⟩) ∧ x_ = [] | 6 => v_ = .slice a3 t.m c3 ∧ x_ = [] | 7 => v_ = .int .i64 (((t.m : Nat) : Int)) ∧ x_ = [] | 8 => v_ = .slice a3 t.m t.m ∧ x_ = [] | 9 => v_ = .agg #[.int .i64 (x), .int .i64 (y)] ∧ x_ = [] | 10 => OwnS 43 2 v_ [[.int .i64 (x), .int .i64 (y)]] x_ | _ => True) (fun val7 => [.agg #[.slice a1 t.nH c1, .slice a2 t.nW c2, .slice a3 t.m c3], .int .i64 (x), .int .i64 (y), .pointer (some ⟨b1, 0, none⟩), undef, undef, .bool (false), .int .i64 0, .int .i64 (askB t (decide (0 ≤ y ∧ y ≤ (t.nW : Int) - 1))), .pointer (some ⟨b4, 0, none⟩), .pointer (some ⟨b6, 0, none⟩), .agg #[.slice a1 t.nH c1, .slice a2 t.nW c2, .slice a3 t.m c3], .agg #[.slice a1 t.nH c1, .slice a2 t.nW c2, .slice a3 t.m c3], .int .i64 (x), .bool (decide (0 ≤ x ∧ x ≤ (t.nH : Int) - 1)), .bool (decide (0 ≤ x ∧ x ≤ (t.nH : Int) - 1)), .agg #[.slice a1 t.nH c1, .slice a2 t.nW c2, .slice a3 t.m c3], .int .i64 (y), .bool (decide (0 ≤ y ∧ y ≤ (t.nW : Int) - 1)), .bool (decide (0 ≤ y ∧ y ≤ (t.nW : Int) - 1)), .int .i64 (askB t (decide (0 ≤ y ∧ y ≤ (t.nW : Int) - 1))), .int .i64 (askB t (decide (0 ≤ y ∧ y ≤ (t.nW : Int) - 1))), .bool (decide (askB t (decide (0 ≤ y ∧ y ≤ (t.nW : Int) - 1)) ≠ 0)), undef, .int .i64 (x), .int .i64 (y), .agg #[.int .i64 (x), .int .i64 (y)], .pointer (some ⟨b1, 2, none⟩), .slice a3 t.m c3, .agg #[.int .i64 (x), .int .i64 (y)], .bool (decide (((x, y) : FWay) ∈ t.wy)), .agg #[.slice a1 t.nH c1, .slice a2 t.nW c2, .slice a3 t.m c3], (val7 0), (val7 1), (val7 2), (val7 3), (val7 4), (val7 5), (val7 6), (val7 7), (val7 8), (val7 9), (val7 10), undef, undef, undef, undef, undef]) mixed (by kernel_rfl) (Nat.le_of_ble_eq_true rfl) (by kernel_rfl) (by kernel_rfl) (by kernel_rfl) (fun _ _ => ⟨fun _ _ h => h.2, ⟨fun _ _ h => h.2, ⟨fun _ _ h => h.2, ⟨fun _ _ h => h.2, ⟨fun _ _ h => h.2, ⟨fun _ _ h => h.2, ⟨fun _ _ h => h.2, ⟨fun _ _ h => h.2, ⟨fun _ _ h => h.2, ⟨fun _ _ h => h.2, trivial⟩⟩⟩⟩⟩⟩⟩⟩⟩⟩) (fun _ => by kernel_rfl) (by kernel_rfl) ?_ ?_) (fun h_ H_ => St.swap (A := ([(b6, .cells #[.slice a1 t.nH c1, .slice a2 t.nW c2, .slice a3 t.m c3] 25 (0, 0)), (b4, .cells #[.int .i64 (x), .int .i64 (y)] 43 (0, 0)), (b1, .cells #[.slice a1 t.nH c1, .slice a2 t.nW c2, .slice a3 t.m c3] 25 (0, 0))] : Pcs)) (U := []) H_)
    ·
     refine mixes_cons rfl (opmix2 ?_) ?_
     ·
      intro val7 pc8 hQ_ hX_
      obtain ⟨q_, hq0_⟩ : ∃ q_ : Value → Pcs → Prop, q_ = (fun v_ x_ => v_ = .pointer (some ⟨b1, 2, none⟩) ∧ x_ = []) := ⟨_, rfl⟩
      refine ⟨(zq16 (zq32 [])), [], q_, rfl, rfl, (fun _ _ z_ => by subst hq0_; exact z_), ?_⟩
      subst hq0_
      exact mix_det mn (fun _ h_ H_ => exd_fieldAddr tF25_2 rfl (a' := ⟨b1, 2, none⟩) rfl) ⟨rfl, rfl⟩
     refine mixes_cons rfl (opmix2 ?_) ?_
     ·
      intro val7 pc8 hQ_ hX_
      have e0_ : val7 0 = .pointer (some ⟨b1, 2, none⟩) := (hQ_ 0 rfl).1
      obtain ⟨q_, hq0_⟩ : ∃ q_ : Value → Pcs → Prop, q_ = (fun v_ x_ => v_ = .slice a3 t.m c3 ∧ x_ = []) := ⟨_, rfl⟩
      refine ⟨(zq16 (zq32 [])), [], q_, (by rw [e0_]), rfl, (fun _ _ z_ => by subst hq0_; exact z_), ?_⟩
      subst hq0_
      exact mix_det mn (fun _ h_ H_ => exd_load_own H_ tA23 rfl (i := 2) rfl (v := .slice a3 t.m c3) rfl) ⟨rfl, rfl⟩
     refine mixes_cons rfl (opmix2 ?_) ?_
     ·
      intro val7 pc8 hQ_ hX_
      obtain ⟨q_, hq0_⟩ : ∃ q_ : Value → Pcs → Prop, q_ = (fun v_ x_ => v_ = .pointer (some ⟨b1, 2, none⟩) ∧ x_ = []) := ⟨_, rfl⟩
      refine ⟨(zq16 (zq32 [])), [], q_, rfl, rfl, (fun _ _ z_ => by subst hq0_; exact z_), ?_⟩
      subst hq0_
      exact mix_det mn (fun _ h_ H_ => exd_fieldAddr tF25_2 rfl (a' := ⟨b1, 2, none⟩) rfl) ⟨rfl, rfl⟩
     refine mixes_cons rfl (opmix2 ?_) ?_
     ·
      intro val7 pc8 hQ_ hX_
      have e2_ : val7 2 = .pointer (some ⟨b1, 2, none⟩) := (hQ_ 2 rfl).1
      obtain ⟨q_, hq0_⟩ : ∃ q_ : Value → Pcs → Prop, q_ = (fun v_ x_ => v_ = .slice a3 t.m c3 ∧ x_ = []) := ⟨_, rfl⟩
      refine ⟨(zq16 (zq32 [])), [], q_, (by rw [e2_]), rfl, (fun _ _ z_ => by subst hq0_; exact z_), ?_⟩
      subst hq0_
      exact mix_det mn (fun _ h_ H_ => exd_load_own H_ tA23 rfl (i := 2) rfl (v := .slice a3 t.m c3) rfl) ⟨rfl, rfl⟩
     refine mixes_cons rfl (opmix2 ?_) ?_
     ·
      intro val7 pc8 hQ_ hX_
      have e3_ : val7 3 = .slice a3 t.m c3 := (hQ_ 3 rfl).1
      obtain ⟨q_, hq0_⟩ : ∃ q_ : Value → Pcs → Prop, q_ = (fun v_ x_ => v_ = .int .i64 (((t.m : Nat) : Int)) ∧ x_ = []) := ⟨_, rfl⟩
      refine ⟨(zq16 (zq32 [])), [], q_, (by rw [e3_]), rfl, (fun _ _ z_ => by subst hq0_; exact z_), ?_⟩
      subst hq0_
      exact mix_det mn (fun _ h_ H_ => exd_len Tryd.underlying23 rfl) ⟨rfl, rfl⟩
     refine mixes_cons rfl (opmix2 ?_) ?_
     ·
      intro val7 pc8 hQ_ hX_
      obtain ⟨q_, hq0_⟩ : ∃ q_ : Value → Pcs → Prop, q_ = (fun v_ x_ => v_ = .pointer (some ⟨b1, 2, none⟩) ∧ x_ = []) := ⟨_, rfl⟩
      refine ⟨(zq16 (zq32 [])), [], q_, rfl, rfl, (fun _ _ z_ => by subst hq0_; exact z_), ?_⟩
      subst hq0_
      exact mix_det mn (fun _ h_ H_ => exd_fieldAddr tF25_2 rfl (a' := ⟨b1, 2, none⟩) rfl) ⟨rfl, rfl⟩
     refine mixes_cons rfl (opmix2 ?_) ?_
     ·
      intro val7 pc8 hQ_ hX_
      have e5_ : val7 5 = .pointer (some ⟨b1, 2, none⟩) := (hQ_ 5 rfl).1
      obtain ⟨q_, hq0_⟩ : ∃ q_ : Value → Pcs → Prop, q_ = (fun v_ x_ => v_ = .slice a3 t.m c3 ∧ x_ = []) := ⟨_, rfl⟩
      refine ⟨(zq16 (zq32 [])), [], q_, (by rw [e5_]), rfl, (fun _ _ z_ => by subst hq0_; exact z_), ?_⟩
      subst hq0_
      exact mix_det mn (fun _ h_ H_ => exd_load_own H_ tA23 rfl (i := 2) rfl (v := .slice a3 t.m c3) rfl) ⟨rfl, rfl⟩
     refine mixes_cons rfl (opmix2 ?_) ?_
     ·
      intro val7 pc8 hQ_ hX_
      have e6_ : val7 6 = .slice a3 t.m c3 := (hQ_ 6 rfl).1
      obtain ⟨q_, hq0_⟩ : ∃ q_ : Value → Pcs → Prop, q_ = (fun v_ x_ => v_ = .int .i64 (((t.m : Nat) : Int)) ∧ x_ = []) := ⟨_, rfl⟩
      refine ⟨(zq16 (zq32 [])), [], q_, (by rw [e6_]), rfl, (fun _ _ z_ => by subst hq0_; exact z_), ?_⟩
      subst hq0_
      exact mix_det mn (fun _ h_ H_ => exd_len Tryd.underlying23 rfl) ⟨rfl, rfl⟩
     refine mixes_cons rfl (opmix2 ?_) ?_
     ·
      intro val7 pc8 hQ_ hX_
      have e1_ : val7 1 = .slice a3 t.m c3 := (hQ_ 1 rfl).1
      have e4_ : val7 4 = .int .i64 (((t.m : Nat) : Int)) := (hQ_ 4 rfl).1
      have e7_ : val7 7 = .int .i64 (((t.m : Nat) : Int)) := (hQ_ 7 rfl).1
      obtain ⟨q_, hq0_⟩ : ∃ q_ : Value → Pcs → Prop, q_ = (fun v_ x_ => v_ = .slice a3 t.m t.m ∧ x_ = []) := ⟨_, rfl⟩
      refine ⟨(zq16 (zq32 [])), [], q_, (by rw [e1_, e4_, e7_]), rfl, (fun _ _ z_ => by subst hq0_; exact z_), ?_⟩
      subst hq0_
      exact mix_det mn (fun _ h_ H_ => exd_slice3 (n := t.m) Tryd.underlying23 tS43 rfl rfl rfl hcap) ⟨rfl, rfl⟩
     refine mixes_cons rfl (opmix2 ?_) ?_
     ·
      intro val7 pc8 hQ_ hX_
      obtain ⟨q_, hq0_⟩ : ∃ q_ : Value → Pcs → Prop, q_ = (fun v_ x_ => v_ = .agg #[.int .i64 (x), .int .i64 (y)] ∧ x_ = []) := ⟨_, rfl⟩
      refine ⟨(zq16 (zq32 [])), [], q_, rfl, rfl, (fun _ _ z_ => by subst hq0_; exact z_), ?_⟩
      subst hq0_
      exact mix_det mn (fun _ h_ H_ => exd_loadN_own H_ tA43 tS43 rfl (i := 1) rfl (vs := [.int .i64 (x), .int .i64 (y)]) rfl rfl) ⟨rfl, rfl⟩
     refine mixes_cons rfl (opmix2 ?_) ?_
     ·
      intro val7 pc8 hQ_ hX_
      have e9_ : val7 9 = .agg #[.int .i64 (x), .int .i64 (y)] := (hQ_ 9 rfl).1
      obtain ⟨q_, hq0_⟩ : ∃ q_ : Value → Pcs → Prop, q_ = (fun v_ x_ => OwnS 43 2 v_ [[.int .i64 (x), .int .i64 (y)]] x_) := ⟨_, rfl⟩
      refine ⟨(zq16 (zq32 [])), [], q_, (by rw [e9_]), rfl, (fun _ _ z_ => by subst hq0_; exact z_), ?_⟩
      subst hq0_
      exact mix_buildO mn Tryd.underlying23 tS43 tZ43 (Nat.le_of_ble_eq_true rfl) (vs := [(0, .agg #[.int .i64 (x), .int .i64 (y)])]) rfl rfl (es := [[.int .i64 (x), .int .i64 (y)]]) rfl rfl rfl fun _ _ o_ => o_
     exact mixes_nil rfl
    intro val7 pc8 hQ_ hX_
    have e0_ : val7 0 = .pointer (some ⟨b1, 2, none⟩) := (hQ_ 0 (by decide)).1
    have e1_ : val7 1 = .slice a3 t.m c3 := (hQ_ 1 (by decide)).1
    have e2_ : val7 2 = .pointer (some ⟨b1, 2, none⟩) := (hQ_ 2 (by decide)).1
    have e3_ : val7 3 = .slice a3 t.m c3 := (hQ_ 3 (by decide)).1
    have e4_ : val7 4 = .int .i64 (((t.m : Nat) : Int)) := (hQ_ 4 (by decide)).1
    have e5_ : val7 5 = .pointer (some ⟨b1, 2, none⟩) := (hQ_ 5 (by decide)).1
    have e6_ : val7 6 = .slice a3 t.m c3 := (hQ_ 6 (by decide)).1
    have e7_ : val7 7 = .int .i64 (((t.m : Nat) : Int)) := (hQ_ 7 (by decide)).1
    have e8_ : val7 8 = .slice a3 t.m t.m := (hQ_ 8 (by decide)).1
    have e9_ : val7 9 = .agg #[.int .i64 (x), .int .i64 (y)] := (hQ_ 9 (by decide)).1
    have q10_ : OwnS 43 2 (val7 10) [[.int .i64 (x), .int .i64 (y)]] (pc8 10) := hQ_ 10 (by decide)
    clear hQ_ hX_
    refine rl_as (Φ := fun h_ => St h [] p h_ (([(b6, .cells #[.slice a1 t.nH c1, .slice a2 t.nW c2, .slice a3 t.m c3] 25 (0, 0)), (b4, .cells #[.int .i64 (x), .int .i64 (y)] 43 (0, 0)), (b1, .cells #[.slice a1 t.nH c1, .slice a2 t.nW c2, .slice a3 t.m c3] 25 (0, 0))] : Pcs) ++ (pc8 10 ++ []))) ?_ (fun h_ H_ => H_.swap')
    refine rl_norm (tm' := (zq16 (zq32 []))) (by rw [e0_, e1_, e2_, e3_, e4_, e5_, e6_, e7_, e8_, e9_]) ?_
    have o11 := q10_
    refine rl_appendF ([(b6, .cells #[.slice a1 t.nH c1, .slice a2 t.nW c2, .slice a3 t.m c3] 25 (0, 0)), (b4, .cells #[.int .i64 (x), .int .i64 (y)] 43 (0, 0)), (b1, .cells #[.slice a1 t.nH c1, .slice a2 t.nW c2, .slice a3 t.m c3] 25 (0, 0))] : Pcs) (pc8 10) mn Tryd.underlying23 tS43 tZ43 rfl tB43 Tryd.underlying23 rfl rfl T.y (by decide) (by decide) o11 (by simp) (by simp only [List.length_cons, List.length_nil]; omega) (by decide) fun v12 X13 o14 => ?_
    refine ro (exd_fieldAddr tF25_2 rfl (a' := ⟨b6, 2, none⟩) rfl) ?_
    refine rl_store1 mn tS23 rfl (v := v12) rfl o14.one (i := 0) rfl (Nat.succ_le_iff.1 (Nat.le_of_ble_eq_true rfl)) (cs2 := [.slice a1 t.nH c1, .slice a2 t.nW c2, v12]) rfl (rl_own (L' := ([(b6, .cells #[.slice a1 t.nH c1, .slice a2 t.nW c2, v12] 25 (0, 0)), (b4, .cells #[.int .i64 (x), .int .i64 (y)] 43 (0, 0)), (b1, .cells #[.slice a1 t.nH c1, .slice a2 t.nW c2, .slice a3 t.m c3] 25 (0, 0))] : Pcs) ++ (X13 ++ [])) rfl ?_)
    refine ren ?_
    have o15 : OwnS 43 2 v12 (wcs (wayM t (x, y)).wy) X13 := o14.as (wcs_snoc t.wy ((x, y) : FWay))
    refine rl_start ?_
    refine rl_det mn (fun h_ H_ => exd_loadN_own H_ tA25 tS25 rfl (i := 0) rfl (vs := [.slice a1 t.nH c1, .slice a2 t.nW c2, v12]) rfl rfl) (tm' := zq16 (zq32 [])) rfl ?_
    refine rd (fun h_ H_ => exd_loadN_own H_ tA25 tS25 rfl (i := 2) rfl (vs := [.slice a1 t.nH c1, .slice a2 t.nW c2, .slice a3 t.m c3]) rfl rfl) ?_
    refine rl_lastN (A := ([(b6, .cells #[.slice a1 t.nH c1, .slice a2 t.nW c2, v12] 25 (0, 0)), (b4, .cells #[.int .i64 (x), .int .i64 (y)] 43 (0, 0)), (b1, .cells #[.slice a1 t.nH c1, .slice a2 t.nW c2, .slice a3 t.m c3] 25 (0, 0))] : Pcs)) o15 (wcs_length _) fun p16 a17 cp18 le19 ev_ D20 => ?_
    subst ev_
    refine rl_own (L' := [(b6, .cells #[.slice a1 t.nH c1, .slice a2 t.nW c2, .slice a17 ((wayM t (x, y)).m) cp18] 25 (0, 0)), (b4, .cells #[.int .i64 (x), .int .i64 (y)] 43 (0, 0)), (b1, .cells #[.slice a1 t.nH c1, .slice a2 t.nW c2, .slice a3 t.m c3] 25 (0, 0))]) rfl ?_
    refine rl_calld mn (first := []) (cap := []) rfl rfl fC94 (fun h_ H_ => c94 md _ _ H_.pe _ _ _ _ _ _ (wayM t (x, y)) (show TownP _ _ (wayM t (x, y)).nH _ (wayM t (x, y)).nW _ (wayM t (x, y)).m (wayM t (x, y)) from ⟨(T.h.mono le19), (T.w.mono le19), (show Wys _ _ _ (wayM t (x, y)).wy from D20)⟩) (wayM_okt hO h12 (by omega) (by omega)) _ _ _ _ _ _ t (show TownP _ _ _ _ _ _ _ t from ⟨(T.h.mono le19), (T.w.mono le19), (T.y.mono le19)⟩) hO (N.mono le19)) rfl ?_
    refine rt (exd_assign (v := .bool (decide (cmpL (LK (wayM t (x, y))) (LK t) < 0))) rfl) (tm' := zq1 (zq2 (zq4 _))) rfl <| ro (exd_assign (v := .int .i64 0) rfl) <| rl_end ?_
    refine fl_ret Tryd.func55 rfl (vs := [.bool (decide (cmpL (LK (wayM t (x, y))) (LK t) < 0)), .int .i64 0]) (fun h_ H_ => ⟨.bool (decide (cmpL (LK (wayM t (x, y))) (LK t) < 0)), _, rfl, rfl, ⟨.int .i64 0, _, rfl, rfl, rfl⟩⟩) (v := .tuple #[.bool (decide (cmpL (LK (wayM t (x, y))) (LK t) < 0)), .int .i64 0]) rfl ?_
    exact fun h_ H_ => K _ _ ⟨by rw [wayB_0 ha0_ ‹_›, wayE_0 ha0_ ‹_›], H_.kept⟩
 ·
  refine fl_drawn2 9 [[], [], [], [1, 2], [1, 2, 3], [], [1, 2, 3], [1, 2, 3, 5, 6], [1, 2, 3, 4, 5, 6], [], []] mixed (by kernel_rfl) (Nat.le_of_ble_eq_true rfl) ?_
  refine wd (fun h_ H_ => exd_loadN_own H_ tA25 tS25 rfl (i := 0) rfl (vs := [.slice a1 t.nH c1, .slice a2 t.nW c2, .slice a3 t.m c3]) rfl rfl) ?_
  refine swr_det mn (fun h_ H_ => exd_loadN_own H_ tA25 tS25 rfl (i := 0) rfl (vs := [.slice a1 t.nH c1, .slice a2 t.nW c2, .slice a3 t.m c3]) rfl rfl) (tm' := zq1 (zq4 (zq8 _))) rfl ?_
  refine wo (exd_move (v := .int .i64 (x)) rfl) ?_
  refine swr_call mn (first := []) (cap := []) rfl rfl fC65 (fun h_ H_ => (c65 md _ _ H_.pe _ _ _ _ _ _ _ _ _ t (show TownP _ _ _ _ _ _ _ t from ⟨T.h, T.w, T.y⟩) (by omega) (x)).mono fun v_ h2_ ⟨e_, k_⟩ => ⟨e_, H_.call k_⟩) (tm' := zq1 (zq2 (zq4 (zq8 _)))) rfl ?_
  refine wo (exd_move (v := .bool (decide (0 ≤ x ∧ x ≤ (t.nH : Int) - 1))) rfl) <| swr_pass (mo rfl rfl (dff cc2)) (tm' := zq1 (zq16 _)) rfl <| wp (mo rfl rfl (dff cc2)) <| swr_pass (mo rfl rfl (dff cc2)) (tm' := zq1 (zq2 (zq16 _))) rfl <| wo (exd_pick_f rfl (dff cc2) (v := .bool (false)) rfl) ?_
  refine swr_nil rfl ?_
  refine rl_calld mn (first := []) (cap := []) rfl rfl fC64 (fun h_ H_ => c64 md _ _ H_.pe _ _ _ _ _ _ _ _ _ t (show TownP _ _ _ _ _ _ _ t from ⟨T.h, T.w, T.y⟩) (by omega) false) rfl ?_
  refine rt (exd_assign (v := .int .i64 (askB t false)) rfl) (tm' := zq1 (zq8 _)) rfl <| ren <| rl_start <| ro (exd_move (v := .int .i64 (askB t false)) rfl) <| ro (exd_neq rfl rfl) <| rl_end ?_
  by_cases cc21 : askB t false ≠ 0
  ·
   refine fl_then rfl (dtt cc21) <| fsr <| rt (exd_move (v := .int .i64 (askB t false)) rfl) (tm' := zq8 (zq16 _)) rfl <| ro (exd_assign (v := .bool (false)) rfl) <| ro (exd_assign (v := .int .i64 (askB t false)) rfl) <| rl_end ?_
   refine fl_ret Tryd.func55 rfl (vs := [.bool (false), .int .i64 (askB t false)]) (fun h_ H_ => ⟨.bool (false), _, rfl, rfl, ⟨.int .i64 (askB t false), _, rfl, rfl, rfl⟩⟩) (v := .tuple #[.bool (false), .int .i64 (askB t false)]) rfl ?_
   have ha_ := wayA_f (t := t) (x := x) (y := y) ‹_›
   have hn_ : ¬ wayA t x y = 0 := by rw [ha_]; assumption
   exact fun h_ H_ => K _ _ ⟨by rw [wayB_no hn_, wayE_no hn_, ha_], H_.kept⟩
  ·
   refine fl_else rfl (dff cc21) <| fl_skip <| fl_seq ?_
   have ha0_ : wayA t x y = 0 := by rw [wayA_f (by assumption)]; omega
   obtain ⟨hc_, hx_, hy_⟩ := wayA_ok ha0_
   obtain ⟨h12, hV⟩ := vd_of hc_
   have hO : OkT t := okt_of hc_
   refine rl_start <| rt (exd_move (v := .int .i64 (x)) rfl) (tm' := zq1 (zq8 (zq16 _))) rfl <| ro (exd_move (v := .int .i64 (y)) rfl) <| ro (exd_build tZ43 tP43 (vs := [(0, .int .i64 (x)), (1, .int .i64 (y))]) rfl (cells := #[.int .i64 (x), .int .i64 (y)]) rfl) ?_
   refine rl_alloc mn tZ43 rfl fun b22 => rl_own (L' := [(b22, .cells #[.int .i64 0, .int .i64 0] 43 (0, 0)), (b1, .cells #[.slice a1 t.nH c1, .slice a2 t.nW c2, .slice a3 t.m c3] 25 (0, 0))]) rfl ?_
   refine rl_norm (tm' := zq2 (zq8 _)) rfl ?_
   refine rl_store mn tS43 rfl (v := .agg #[.int .i64 (x), .int .i64 (y)]) rfl (i := 0) rfl rfl rfl (Nat.le_of_ble_eq_true rfl) (cs2 := [.int .i64 (x), .int .i64 (y)]) rfl (rl_own (L' := [(b22, .cells #[.int .i64 (x), .int .i64 (y)] 43 (0, 0)), (b1, .cells #[.slice a1 t.nH c1, .slice a2 t.nW c2, .slice a3 t.m c3] 25 (0, 0))]) rfl ?_)
   refine ren <| fsr <| ro (exd_fieldAddr tF25_2 rfl (a' := ⟨b1, 2, none⟩) rfl) <| rd (fun h_ H_ => exd_load_own H_ tA23 rfl (i := 1) rfl (v := .slice a3 t.m c3) rfl) ?_
   refine rl_det mn (fun h_ H_ => exd_loadN_own H_ tA43 tS43 rfl (i := 0) rfl (vs := [.int .i64 (x), .int .i64 (y)]) rfl rfl) (tm' := zq2 (zq4 (zq8 (zq16 _)))) rfl ?_
   refine rl_calld mn (first := []) (cap := []) rfl rfl fC95 (fun h_ H_ => c95 md _ _ H_.pe _ _ _ _ T.y (by omega) (x) (y)) rfl ?_
   refine rl_end ?_
   by_cases cc23 : ((x, y) : FWay) ∈ t.wy
   ·
    refine fl_then rfl (dtt cc23) <| fsr <| ro (exd_assign (v := .bool (false)) rfl) <| rt (exd_assign (v := .int .i64 3) rfl) (tm' := zq8 _) rfl <| rl_end ?_
    refine fl_ret Tryd.func55 rfl (vs := [.bool (false), .int .i64 3]) (fun h_ H_ => ⟨.bool (false), _, rfl, rfl, ⟨.int .i64 3, _, rfl, rfl, rfl⟩⟩) (v := .tuple #[.bool (false), .int .i64 3]) rfl ?_
    exact fun h_ H_ => K _ _ ⟨by rw [wayB_3 ‹_›, wayE_3 ha0_ ‹_›], H_.kept⟩
   ·
    refine fl_else rfl (dff cc23) <| fl_skip <| fsr <| rd (fun h_ H_ => exd_loadN_own H_ tA25 tS25 rfl (i := 1) rfl (vs := [.slice a1 t.nH c1, .slice a2 t.nW c2, .slice a3 t.m c3]) rfl rfl) ?_
    refine rl_alloc mn tZ25 rfl fun b24 => rl_own (L' := [(b24, .cells #[.slice none 0 0, .slice none 0 0, .slice none 0 0] 25 (0, 0)), (b22, .cells #[.int .i64 (x), .int .i64 (y)] 43 (0, 0)), (b1, .cells #[.slice a1 t.nH c1, .slice a2 t.nW c2, .slice a3 t.m c3] 25 (0, 0))]) rfl ?_
    refine rl_store mn tS25 rfl (v := .agg #[.slice a1 t.nH c1, .slice a2 t.nW c2, .slice a3 t.m c3]) rfl (i := 0) rfl rfl rfl (Nat.le_of_ble_eq_true rfl) (cs2 := [.slice a1 t.nH c1, .slice a2 t.nW c2, .slice a3 t.m c3]) rfl (rl_own (L' := [(b24, .cells #[.slice a1 t.nH c1, .slice a2 t.nW c2, .slice a3 t.m c3] 25 (0, 0)), (b22, .cells #[.int .i64 (x), .int .i64 (y)] 43 (0, 0)), (b1, .cells #[.slice a1 t.nH c1, .slice a2 t.nW c2, .slice a3 t.m c3] 25 (0, 0))]) rfl ?_)
    refine ren ?_
    refine rs_as (fl_mixed2 (C := []) (A := ([(b24, .cells #[.slice a1 t.nH c1, .slice a2 t.nW c2, .slice a3 t.m c3] 25 (0, 0)), (b22, .cells #[.int .i64 (x), .int .i64 (y)] 43 (0, 0)), (b1, .cells #[.slice a1 t.nH c1, .slice a2 t.nW c2, .slice a3 t.m c3] 25 (0, 0))] : Pcs)) 11 [[], [0], [], [2], [2, 3], [], [5], [5, 6], [0, 1, 2, 3, 4, 5, 6, 7], [], [9], [], [], []] [] [10] [0, 1, 2, 3, 4, 5, 6, 7, 8, 9] (fun _ => []) (fun _ => []) (fun i_ => match i_ with | 0 => [] | 1 => [0] | 2 => [] | 3 => [2] | 4 => [3] | 5 => [] | 6 => [5] | 7 => [6] | 8 => [1, 4, 7] | 9 => [] | 10 => [9] | _ => []) (fun i_ val_ pc_ v_ x_ => match i_ with | 0 => v_ = .pointer (some ⟨b1, 2, none⟩) ∧ x_ = [] | 1 => v_ = .slice a3 t.m c3 ∧ x_ = [] | 2 => v_ = .pointer (some ⟨b1, 2, none⟩) ∧ x_ = [] | 3 => v_ = .slice a3 t.m c3 ∧ x_ = [] | 4 => v_ = .int .i64 (((t.m : Nat) : Int)) ∧ x_ = [] | 5 => v_ = .pointer (some ⟨b1, 2, none⟩) ∧ x_ = [] | 6 => v_ = .slice a3 t.m c3 ∧ x_ = [] | 7 => v_ = .int .i64 (((t.m : Nat) : Int)) ∧ x_ = [] | 8 => v_ = .slice a3 t.m t.m ∧ x_ = [] | 9 => v_ = .agg #[.int .i64 (x), .int .i64 (y)] ∧ x_ = [] | 10 => OwnS 43 2 v_ [[.int .i64 (x), .int .i64 (y)]] x_ | _ => True) (fun val25 => [.agg #[.slice a1 t.nH c1, .slice a2 t.nW c2, .slice a3 t.m c3], .int .i64 (x), .int .i64 (y), .pointer (some ⟨b1, 0, none⟩), undef, undef, .bool (false), .int .i64 0, .int .i64 (askB t false), .pointer (some ⟨b22, 0, none⟩), .pointer (some ⟨b24, 0, none⟩), .agg #[.slice a1 t.nH c1, .slice a2 t.nW c2, .slice a3 t.m c3], .agg #[.slice a1 t.nH c1, .slice a2 t.nW c2, .slice a3 t.m c3], .int .i64 (x), .bool (decide (0 ≤ x ∧ x ≤ (t.nH : Int) - 1)), .bool (decide (0 ≤ x ∧ x ≤ (t.nH : Int) - 1)), undef, undef, undef, .bool (false), .int .i64 (askB t false), .int .i64 (askB t false), .bool (decide (askB t false ≠ 0)), undef, .int .i64 (x), .int .i64 (y), .agg #[.int .i64 (x), .int .i64 (y)], .pointer (some ⟨b1, 2, none⟩), .slice a3 t.m c3, .agg #[.int .i64 (x), .int .i64 (y)], .bool (decide (((x, y) : FWay) ∈ t.wy)), .agg #[.slice a1 t.nH c1, .slice a2 t.nW c2, .slice a3 t.m c3], (val25 0), (val25 1), (val25 2), (val25 3), (val25 4), (val25 5), (val25 6), (val25 7), (val25 8), (val25 9), (val25 10), undef, undef, undef, undef, undef]) mixed (by kernel_rfl) (Nat.le_of_ble_eq_true rfl) (by kernel_rfl) (by kernel_rfl) (by kernel_rfl) (fun _ _ => ⟨fun _ _ h => h.2, ⟨fun _ _ h => h.2, ⟨fun _ _ h => h.2, ⟨fun _ _ h => h.2, ⟨fun _ _ h => h.2, ⟨fun _ _ h => h.2, ⟨fun _ _ h => h.2, ⟨fun _ _ h => h.2, ⟨fun _ _ h => h.2, ⟨fun _ _ h => h.2, trivial⟩⟩⟩⟩⟩⟩⟩⟩⟩⟩) (fun _ => by kernel_rfl) (by kernel_rfl) ?_ ?_) (fun h_ H_ => St.swap (A := ([(b24, .cells #[.slice a1 t.nH c1, .slice a2 t.nW c2, .slice a3 t.m c3] 25 (0, 0)), (b22, .cells #[.int .i64 (x), .int .i64 (y)] 43 (0, 0)), (b1, .cells #[.slice a1 t.nH c1, .slice a2 t.nW c2, .slice a3 t.m c3] 25 (0, 0))] : Pcs)) (U := []) H_)
    ·
     refine mixes_cons rfl (opmix2 ?_) ?_
     ·
      intro val25 pc26 hQ_ hX_
      obtain ⟨q_, hq0_⟩ : ∃ q_ : Value → Pcs → Prop, q_ = (fun v_ x_ => v_ = .pointer (some ⟨b1, 2, none⟩) ∧ x_ = []) := ⟨_, rfl⟩
      refine ⟨(zq16 (zq32 [])), [], q_, rfl, rfl, (fun _ _ z_ => by subst hq0_; exact z_), ?_⟩
      subst hq0_
      exact mix_det mn (fun _ h_ H_ => exd_fieldAddr tF25_2 rfl (a' := ⟨b1, 2, none⟩) rfl) ⟨rfl, rfl⟩
     refine mixes_cons rfl (opmix2 ?_) ?_
     ·
      intro val25 pc26 hQ_ hX_
      have e0_ : val25 0 = .pointer (some ⟨b1, 2, none⟩) := (hQ_ 0 rfl).1
      obtain ⟨q_, hq0_⟩ : ∃ q_ : Value → Pcs → Prop, q_ = (fun v_ x_ => v_ = .slice a3 t.m c3 ∧ x_ = []) := ⟨_, rfl⟩
      refine ⟨(zq16 (zq32 [])), [], q_, (by rw [e0_]), rfl, (fun _ _ z_ => by subst hq0_; exact z_), ?_⟩
      subst hq0_
      exact mix_det mn (fun _ h_ H_ => exd_load_own H_ tA23 rfl (i := 2) rfl (v := .slice a3 t.m c3) rfl) ⟨rfl, rfl⟩
     refine mixes_cons rfl (opmix2 ?_) ?_
     ·
      intro val25 pc26 hQ_ hX_
      obtain ⟨q_, hq0_⟩ : ∃ q_ : Value → Pcs → Prop, q_ = (fun v_ x_ => v_ = .pointer (some ⟨b1, 2, none⟩) ∧ x_ = []) := ⟨_, rfl⟩
      refine ⟨(zq16 (zq32 [])), [], q_, rfl, rfl, (fun _ _ z_ => by subst hq0_; exact z_), ?_⟩
      subst hq0_
      exact mix_det mn (fun _ h_ H_ => exd_fieldAddr tF25_2 rfl (a' := ⟨b1, 2, none⟩) rfl) ⟨rfl, rfl⟩
     refine mixes_cons rfl (opmix2 ?_) ?_
     ·
      intro val25 pc26 hQ_ hX_
      have e2_ : val25 2 = .pointer (some ⟨b1, 2, none⟩) := (hQ_ 2 rfl).1
      obtain ⟨q_, hq0_⟩ : ∃ q_ : Value → Pcs → Prop, q_ = (fun v_ x_ => v_ = .slice a3 t.m c3 ∧ x_ = []) := ⟨_, rfl⟩
      refine ⟨(zq16 (zq32 [])), [], q_, (by rw [e2_]), rfl, (fun _ _ z_ => by subst hq0_; exact z_), ?_⟩
      subst hq0_
      exact mix_det mn (fun _ h_ H_ => exd_load_own H_ tA23 rfl (i := 2) rfl (v := .slice a3 t.m c3) rfl) ⟨rfl, rfl⟩
     refine mixes_cons rfl (opmix2 ?_) ?_
     ·
      intro val25 pc26 hQ_ hX_
      have e3_ : val25 3 = .slice a3 t.m c3 := (hQ_ 3 rfl).1
      obtain ⟨q_, hq0_⟩ : ∃ q_ : Value → Pcs → Prop, q_ = (fun v_ x_ => v_ = .int .i64 (((t.m : Nat) : Int)) ∧ x_ = []) := ⟨_, rfl⟩
      refine ⟨(zq16 (zq32 [])), [], q_, (by rw [e3_]), rfl, (fun _ _ z_ => by subst hq0_; exact z_), ?_⟩
      subst hq0_
      exact mix_det mn (fun _ h_ H_ => exd_len Tryd.underlying23 rfl) ⟨rfl, rfl⟩
     refine mixes_cons rfl (opmix2 ?_) ?_
     ·
      intro val25 pc26 hQ_ hX_
      obtain ⟨q_, hq0_⟩ : ∃ q_ : Value → Pcs → Prop, q_ = (fun v_ x_ => v_ = .pointer (some ⟨b1, 2, none⟩) ∧ x_ = []) := ⟨_, rfl⟩
      refine ⟨(zq16 (zq32 [])), [], q_, rfl, rfl, (fun _ _ z_ => by subst hq0_; exact z_), ?_⟩
      subst hq0_
      exact mix_det mn (fun _ h_ H_ => exd_fieldAddr tF25_2 rfl (a' := ⟨b1, 2, none⟩) rfl) ⟨rfl, rfl⟩
     refine mixes_cons rfl (opmix2 ?_) ?_
     ·
      intro val25 pc26 hQ_ hX_
      have e5_ : val25 5 = .pointer (some ⟨b1, 2, none⟩) := (hQ_ 5 rfl).1
      obtain ⟨q_, hq0_⟩ : ∃ q_ : Value → Pcs → Prop, q_ = (fun v_ x_ => v_ = .slice a3 t.m c3 ∧ x_ = []) := ⟨_, rfl⟩
      refine ⟨(zq16 (zq32 [])), [], q_, (by rw [e5_]), rfl, (fun _ _ z_ => by subst hq0_; exact z_), ?_⟩
      subst hq0_
      exact mix_det mn (fun _ h_ H_ => exd_load_own H_ tA23 rfl (i := 2) rfl (v := .slice a3 t.m c3) rfl) ⟨rfl, rfl⟩
     refine mixes_cons rfl (opmix2 ?_) ?_
     ·
      intro val25 pc26 hQ_ hX_
      have e6_ : val25 6 = .slice a3 t.m c3 := (hQ_ 6 rfl).1
      obtain ⟨q_, hq0_⟩ : ∃ q_ : Value → Pcs → Prop, q_ = (fun v_ x_ => v_ = .int .i64 (((t.m : Nat) : Int)) ∧ x_ = []) := ⟨_, rfl⟩
      refine ⟨(zq16 (zq32 [])), [], q_, (by rw [e6_]), rfl, (fun _ _ z_ => by subst hq0_; exact z_), ?_⟩
      subst hq0_
      exact mix_det mn (fun _ h_ H_ => exd_len Tryd.underlying23 rfl) ⟨rfl, rfl⟩
     refine mixes_cons rfl (opmix2 ?_) ?_
     ·
      intro val25 pc26 hQ_ hX_
      have e1_ : val25 1 = .slice a3 t.m c3 := (hQ_ 1 rfl).1
      have e4_ : val25 4 = .int .i64 (((t.m : Nat) : Int)) := (hQ_ 4 rfl).1
      have e7_ : val25 7 = .int .i64 (((t.m : Nat) : Int)) := (hQ_ 7 rfl).1
      obtain ⟨q_, hq0_⟩ : ∃ q_ : Value → Pcs → Prop, q_ = (fun v_ x_ => v_ = .slice a3 t.m t.m ∧ x_ = []) := ⟨_, rfl⟩
      refine ⟨(zq16 (zq32 [])), [], q_, (by rw [e1_, e4_, e7_]), rfl, (fun _ _ z_ => by subst hq0_; exact z_), ?_⟩
      subst hq0_
      exact mix_det mn (fun _ h_ H_ => exd_slice3 (n := t.m) Tryd.underlying23 tS43 rfl rfl rfl hcap) ⟨rfl, rfl⟩
     refine mixes_cons rfl (opmix2 ?_) ?_
     ·
      intro val25 pc26 hQ_ hX_
      obtain ⟨q_, hq0_⟩ : ∃ q_ : Value → Pcs → Prop, q_ = (fun v_ x_ => v_ = .agg #[.int .i64 (x), .int .i64 (y)] ∧ x_ = []) := ⟨_, rfl⟩
      refine ⟨(zq16 (zq32 [])), [], q_, rfl, rfl, (fun _ _ z_ => by subst hq0_; exact z_), ?_⟩
      subst hq0_
      exact mix_det mn (fun _ h_ H_ => exd_loadN_own H_ tA43 tS43 rfl (i := 1) rfl (vs := [.int .i64 (x), .int .i64 (y)]) rfl rfl) ⟨rfl, rfl⟩
     refine mixes_cons rfl (opmix2 ?_) ?_
     ·
      intro val25 pc26 hQ_ hX_
      have e9_ : val25 9 = .agg #[.int .i64 (x), .int .i64 (y)] := (hQ_ 9 rfl).1
      obtain ⟨q_, hq0_⟩ : ∃ q_ : Value → Pcs → Prop, q_ = (fun v_ x_ => OwnS 43 2 v_ [[.int .i64 (x), .int .i64 (y)]] x_) := ⟨_, rfl⟩
      refine ⟨(zq16 (zq32 [])), [], q_, (by rw [e9_]), rfl, (fun _ _ z_ => by subst hq0_; exact z_), ?_⟩
      subst hq0_
      exact mix_buildO mn Tryd.underlying23 tS43 tZ43 (Nat.le_of_ble_eq_true rfl) (vs := [(0, .agg #[.int .i64 (x), .int .i64 (y)])]) rfl rfl (es := [[.int .i64 (x), .int .i64 (y)]]) rfl rfl rfl fun _ _ o_ => o_
     exact mixes_nil rfl
    intro val25 pc26 hQ_ hX_
    have e0_ : val25 0 = .pointer (some ⟨b1, 2, none⟩) := (hQ_ 0 (by decide)).1
    have e1_ : val25 1 = .slice a3 t.m c3 := (hQ_ 1 (by decide)).1
    have e2_ : val25 2 = .pointer (some ⟨b1, 2, none⟩) := (hQ_ 2 (by decide)).1
    have e3_ : val25 3 = .slice a3 t.m c3 := (hQ_ 3 (by decide)).1
    have e4_ : val25 4 = .int .i64 (((t.m : Nat) : Int)) := (hQ_ 4 (by decide)).1
    have e5_ : val25 5 = .pointer (some ⟨b1, 2, none⟩) := (hQ_ 5 (by decide)).1
    have e6_ : val25 6 = .slice a3 t.m c3 := (hQ_ 6 (by decide)).1
    have e7_ : val25 7 = .int .i64 (((t.m : Nat) : Int)) := (hQ_ 7 (by decide)).1
    have e8_ : val25 8 = .slice a3 t.m t.m := (hQ_ 8 (by decide)).1
    have e9_ : val25 9 = .agg #[.int .i64 (x), .int .i64 (y)] := (hQ_ 9 (by decide)).1
    have q10_ : OwnS 43 2 (val25 10) [[.int .i64 (x), .int .i64 (y)]] (pc26 10) := hQ_ 10 (by decide)
    clear hQ_ hX_
    refine rl_as (Φ := fun h_ => St h [] p h_ (([(b24, .cells #[.slice a1 t.nH c1, .slice a2 t.nW c2, .slice a3 t.m c3] 25 (0, 0)), (b22, .cells #[.int .i64 (x), .int .i64 (y)] 43 (0, 0)), (b1, .cells #[.slice a1 t.nH c1, .slice a2 t.nW c2, .slice a3 t.m c3] 25 (0, 0))] : Pcs) ++ (pc26 10 ++ []))) ?_ (fun h_ H_ => H_.swap')
    refine rl_norm (tm' := (zq16 (zq32 []))) (by rw [e0_, e1_, e2_, e3_, e4_, e5_, e6_, e7_, e8_, e9_]) ?_
    have o29 := q10_
    refine rl_appendF ([(b24, .cells #[.slice a1 t.nH c1, .slice a2 t.nW c2, .slice a3 t.m c3] 25 (0, 0)), (b22, .cells #[.int .i64 (x), .int .i64 (y)] 43 (0, 0)), (b1, .cells #[.slice a1 t.nH c1, .slice a2 t.nW c2, .slice a3 t.m c3] 25 (0, 0))] : Pcs) (pc26 10) mn Tryd.underlying23 tS43 tZ43 rfl tB43 Tryd.underlying23 rfl rfl T.y (by decide) (by decide) o29 (by simp) (by simp only [List.length_cons, List.length_nil]; omega) (by decide) fun v30 X31 o32 => ?_
    refine ro (exd_fieldAddr tF25_2 rfl (a' := ⟨b24, 2, none⟩) rfl) ?_
    refine rl_store1 mn tS23 rfl (v := v30) rfl o32.one (i := 0) rfl (Nat.succ_le_iff.1 (Nat.le_of_ble_eq_true rfl)) (cs2 := [.slice a1 t.nH c1, .slice a2 t.nW c2, v30]) rfl (rl_own (L' := ([(b24, .cells #[.slice a1 t.nH c1, .slice a2 t.nW c2, v30] 25 (0, 0)), (b22, .cells #[.int .i64 (x), .int .i64 (y)] 43 (0, 0)), (b1, .cells #[.slice a1 t.nH c1, .slice a2 t.nW c2, .slice a3 t.m c3] 25 (0, 0))] : Pcs) ++ (X31 ++ [])) rfl ?_)
    refine ren ?_
    have o33 : OwnS 43 2 v30 (wcs (wayM t (x, y)).wy) X31 := o32.as (wcs_snoc t.wy ((x, y) : FWay))
    refine rl_start ?_
    refine rl_det mn (fun h_ H_ => exd_loadN_own H_ tA25 tS25 rfl (i := 0) rfl (vs := [.slice a1 t.nH c1, .slice a2 t.nW c2, v30]) rfl rfl) (tm' := zq16 (zq32 [])) rfl ?_
    refine rd (fun h_ H_ => exd_loadN_own H_ tA25 tS25 rfl (i := 2) rfl (vs := [.slice a1 t.nH c1, .slice a2 t.nW c2, .slice a3 t.m c3]) rfl rfl) ?_
    refine rl_lastN (A := ([(b24, .cells #[.slice a1 t.nH c1, .slice a2 t.nW c2, v30] 25 (0, 0)), (b22, .cells #[.int .i64 (x), .int .i64 (y)] 43 (0, 0)), (b1, .cells #[.slice a1 t.nH c1, .slice a2 t.nW c2, .slice a3 t.m c3] 25 (0, 0))] : Pcs)) o33 (wcs_length _) fun p34 a35 cp36 le37 ev_ D38 => ?_
    subst ev_
    refine rl_own (L' := [(b24, .cells #[.slice a1 t.nH c1, .slice a2 t.nW c2, .slice a35 ((wayM t (x, y)).m) cp36] 25 (0, 0)), (b22, .cells #[.int .i64 (x), .int .i64 (y)] 43 (0, 0)), (b1, .cells #[.slice a1 t.nH c1, .slice a2 t.nW c2, .slice a3 t.m c3] 25 (0, 0))]) rfl ?_
    refine rl_calld mn (first := []) (cap := []) rfl rfl fC94 (fun h_ H_ => c94 md _ _ H_.pe _ _ _ _ _ _ (wayM t (x, y)) (show TownP _ _ (wayM t (x, y)).nH _ (wayM t (x, y)).nW _ (wayM t (x, y)).m (wayM t (x, y)) from ⟨(T.h.mono le37), (T.w.mono le37), (show Wys _ _ _ (wayM t (x, y)).wy from D38)⟩) (wayM_okt hO h12 (by omega) (by omega)) _ _ _ _ _ _ t (show TownP _ _ _ _ _ _ _ t from ⟨(T.h.mono le37), (T.w.mono le37), (T.y.mono le37)⟩) hO (N.mono le37)) rfl ?_
    refine rt (exd_assign (v := .bool (decide (cmpL (LK (wayM t (x, y))) (LK t) < 0))) rfl) (tm' := zq1 (zq2 (zq4 _))) rfl <| ro (exd_assign (v := .int .i64 0) rfl) <| rl_end ?_
    refine fl_ret Tryd.func55 rfl (vs := [.bool (decide (cmpL (LK (wayM t (x, y))) (LK t) < 0)), .int .i64 0]) (fun h_ H_ => ⟨.bool (decide (cmpL (LK (wayM t (x, y))) (LK t) < 0)), _, rfl, rfl, ⟨.int .i64 0, _, rfl, rfl, rfl⟩⟩) (v := .tuple #[.bool (decide (cmpL (LK (wayM t (x, y))) (LK t) < 0)), .int .i64 0]) rfl ?_
    exact fun h_ H_ => K _ _ ⟨by rw [wayB_0 ha0_ ‹_›, wayE_0 ha0_ ‹_›], H_.kept⟩
end Go.Proofs.YtalfgojocdonhaaDoor
namespace Go.Proofs.YtalfgojocdonhaaDoor
open Go.X Go.X.Flow Go.Conc
set_option maxRecDepth 10000
set_option synthInstance.maxSize 2000

set_option maxHeartbeats 2000000
theorem c63 (md : Md) (h : Heap) : CallsX Tryd.prog md 63 #[] h fun v h' => ∃ w1 : Value, ∃ w2 : Value, ∃ w3 : Value, ∃ w4 : Value, ∃ w5 : Value, ∃ w6 : Value, ∃ w7 : Value, ∃ w8 : Value, ∃ w9 : Value, ∃ X1 : Pcs, ∃ X2 : Pcs, ∃ X3 : Pcs, ∃ X4 : Pcs, ∃ X5 : Pcs, ∃ X6 : Pcs, ∃ X7 : Pcs, ∃ X8 : Pcs, ∃ X9 : Pcs, v = .tuple #[.agg #[w1, w2, w3], .agg #[w4, w5, w6], .agg #[w7, w8, w9]] ∧ OwnS 3 1 w1 (ics exB.hs) X1 ∧ OwnS 3 1 w2 (ics exB.ws) X2 ∧ OwnS 43 2 w3 (wcs exB.wy) X3 ∧ OwnS 3 1 w4 (ics exC.hs) X4 ∧ OwnS 3 1 w5 (ics exC.ws) X5 ∧ OwnS 43 2 w6 (wcs exC.wy) X6 ∧ OwnS 3 1 w7 (ics exD.hs) X7 ∧ OwnS 3 1 w8 (ics exD.ws) X8 ∧ OwnS 43 2 w9 (wcs exD.wy) X9 ∧ New h h' ((X1 ++ (X2 ++ (X3 ++ (X4 ++ (X5 ++ (X6 ++ (X7 ++ (X8 ++ (X9 ++ [])))))))))) := by
 refine calls_intro (Φ := fun h_ => St h [] (fun _ => none) h_ []) Tryd.func63 rfl (tm := zq2 (zq8 (zq16 []))) rfl ?_ (St.start h _ (fun _ _ e => by cases e))
 intro c₀ cs Stop K
 refine fsr ?_
 refine rl_alloc mn tZ25 rfl fun b1 => rl_own (L' := [(b1, .cells #[.slice none 0 0, .slice none 0 0, .slice none 0 0] 25 (0, 0))]) rfl ?_
 refine rl_alloc mn tZ25 rfl fun b2 => rl_own (L' := [(b2, .cells #[.slice none 0 0, .slice none 0 0, .slice none 0 0] 25 (0, 0)), (b1, .cells #[.slice none 0 0, .slice none 0 0, .slice none 0 0] 25 (0, 0))]) rfl ?_
 refine rl_alloc mn tZ25 rfl fun b3 => rl_own (L' := [(b3, .cells #[.slice none 0 0, .slice none 0 0, .slice none 0 0] 25 (0, 0)), (b2, .cells #[.slice none 0 0, .slice none 0 0, .slice none 0 0] 25 (0, 0)), (b1, .cells #[.slice none 0 0, .slice none 0 0, .slice none 0 0] 25 (0, 0))]) rfl ?_
 refine rl_norm (tm' := _::_::_::_) rfl ?_
 refine ren <| rl_start ?_
 refine rl_own (L' := ([(b3, .cells #[.slice none 0 0, .slice none 0 0, .slice none 0 0] 25 (0, 0)), (b2, .cells #[.slice none 0 0, .slice none 0 0, .slice none 0 0] 25 (0, 0)), (b1, .cells #[.slice none 0 0, .slice none 0 0, .slice none 0 0] 25 (0, 0))] : Pcs) ++ []) rfl ?_
 refine rl_buildO ([(b3, .cells #[.slice none 0 0, .slice none 0 0, .slice none 0 0] 25 (0, 0)), (b2, .cells #[.slice none 0 0, .slice none 0 0, .slice none 0 0] 25 (0, 0)), (b1, .cells #[.slice none 0 0, .slice none 0 0, .slice none 0 0] 25 (0, 0))] : Pcs) mn Tryd.underlying22 tS3 tZ3 (Nat.le_of_ble_eq_true rfl) (vs := [(0, .int .i64 5), (1, .int .i64 4), (2, .int .i64 3)]) rfl rfl (es := [[.int .i64 5], [.int .i64 4], [.int .i64 3]]) rfl rfl rfl fun v4 X5 o6 => ?_
 refine rl_buildO ([(b3, .cells #[.slice none 0 0, .slice none 0 0, .slice none 0 0] 25 (0, 0)), (b2, .cells #[.slice none 0 0, .slice none 0 0, .slice none 0 0] 25 (0, 0)), (b1, .cells #[.slice none 0 0, .slice none 0 0, .slice none 0 0] 25 (0, 0))] : Pcs) mn Tryd.underlying22 tS3 tZ3 (Nat.le_of_ble_eq_true rfl) (vs := [(0, .int .i64 4), (1, .int .i64 3)]) rfl rfl (es := [[.int .i64 4], [.int .i64 3]]) rfl rfl rfl fun v7 X8 o9 => ?_
 refine rt (exd_build tZ43 tP43 (vs := [(0, .int .i64 0), (1, .int .i64 0)]) rfl (cells := #[.int .i64 0, .int .i64 0]) rfl) (tm' := zq2 (zq4 _)) rfl <| ro (exd_build tZ43 tP43 (vs := [(0, .int .i64 1), (1, .int .i64 0)]) rfl (cells := #[.int .i64 1, .int .i64 0]) rfl) <| ro (exd_build tZ43 tP43 (vs := [(0, .int .i64 1), (1, .int .i64 1)]) rfl (cells := #[.int .i64 1, .int .i64 1]) rfl) <| rt (exd_build tZ43 tP43 (vs := [(0, .int .i64 2), (1, .int .i64 1)]) rfl (cells := #[.int .i64 2, .int .i64 1]) rfl) (tm' := zq1 (zq8 _)) rfl ?_
 refine rl_buildO ([(b3, .cells #[.slice none 0 0, .slice none 0 0, .slice none 0 0] 25 (0, 0)), (b2, .cells #[.slice none 0 0, .slice none 0 0, .slice none 0 0] 25 (0, 0)), (b1, .cells #[.slice none 0 0, .slice none 0 0, .slice none 0 0] 25 (0, 0))] : Pcs) mn Tryd.underlying23 tS43 tZ43 (Nat.le_of_ble_eq_true rfl) (vs := [(0, .agg #[.int .i64 0, .int .i64 0]), (1, .agg #[.int .i64 1, .int .i64 0]), (2, .agg #[.int .i64 1, .int .i64 1]), (3, .agg #[.int .i64 2, .int .i64 1])]) rfl rfl (es := [[.int .i64 0, .int .i64 0], [.int .i64 1, .int .i64 0], [.int .i64 1, .int .i64 1], [.int .i64 2, .int .i64 1]]) rfl rfl rfl fun v10 X11 o12 => ?_
 obtain ⟨a13, c14, ev_, _⟩ := o6.val; have ev_ : v4 = .slice a13 3 c14 := ev_.trans (congrArg (fun q_ => Value.slice a13 q_ c14) (show _ = 3 from rfl)); subst ev_
 obtain ⟨a15, c16, ev_, _⟩ := o9.val; have ev_ : v7 = .slice a15 2 c16 := ev_.trans (congrArg (fun q_ => Value.slice a15 q_ c16) (show _ = 2 from rfl)); subst ev_
 obtain ⟨a17, c18, ev_, _⟩ := o12.val; have ev_ : v10 = .slice a17 4 c18 := ev_.trans (congrArg (fun q_ => Value.slice a17 q_ c18) (show _ = 4 from rfl)); subst ev_
 refine ro (exd_build tZ25 tP25 (vs := [(0, (.slice a13 3 c14)), (1, (.slice a15 2 c16)), (2, (.slice a17 4 c18))]) rfl (cells := #[(.slice a13 3 c14), (.slice a15 2 c16), (.slice a17 4 c18)]) rfl) ?_
 refine rl_store mn tS25 rfl (v := .agg #[(.slice a13 3 c14), (.slice a15 2 c16), (.slice a17 4 c18)]) rfl (i := 2) rfl rfl (ones_cons o6.one.2 (ones_cons o9.one.2 (ones_cons o12.one.2 rfl))) (Nat.le_of_ble_eq_true rfl) (cs2 := [(.slice a13 3 c14), (.slice a15 2 c16), (.slice a17 4 c18)]) rfl (rl_own (L' := ([(b3, .cells #[.slice none 0 0, .slice none 0 0, .slice none 0 0] 25 (0, 0)), (b2, .cells #[.slice none 0 0, .slice none 0 0, .slice none 0 0] 25 (0, 0)), (b1, .cells #[(.slice a13 3 c14), (.slice a15 2 c16), (.slice a17 4 c18)] 25 (0, 0))] : Pcs) ++ (X11 ++ (X8 ++ (X5 ++ [])))) rfl ?_)
 refine ren <| rl_start ?_
 refine rl_buildO ([(b3, .cells #[.slice none 0 0, .slice none 0 0, .slice none 0 0] 25 (0, 0)), (b2, .cells #[.slice none 0 0, .slice none 0 0, .slice none 0 0] 25 (0, 0)), (b1, .cells #[(.slice a13 3 c14), (.slice a15 2 c16), (.slice a17 4 c18)] 25 (0, 0))] : Pcs) mn Tryd.underlying22 tS3 tZ3 (Nat.le_of_ble_eq_true rfl) (vs := [(0, .int .i64 2), (1, .int .i64 3)]) rfl rfl (es := [[.int .i64 2], [.int .i64 3]]) rfl rfl rfl fun v19 X20 o21 => ?_
 refine rl_norm (tm' := zq4 (zq8 _)) rfl ?_
 refine rl_buildO ([(b3, .cells #[.slice none 0 0, .slice none 0 0, .slice none 0 0] 25 (0, 0)), (b2, .cells #[.slice none 0 0, .slice none 0 0, .slice none 0 0] 25 (0, 0)), (b1, .cells #[(.slice a13 3 c14), (.slice a15 2 c16), (.slice a17 4 c18)] 25 (0, 0))] : Pcs) mn Tryd.underlying22 tS3 tZ3 (Nat.le_of_ble_eq_true rfl) (vs := [(0, .int .i64 5), (1, .int .i64 0)]) rfl rfl (es := [[.int .i64 5], [.int .i64 0]]) rfl rfl rfl fun v22 X23 o24 => ?_
 refine ro (exd_build tZ43 tP43 (vs := [(0, .int .i64 0), (1, .int .i64 0)]) rfl (cells := #[.int .i64 0, .int .i64 0]) rfl) <| rt (exd_build tZ43 tP43 (vs := [(0, .int .i64 1), (1, .int .i64 1)]) rfl (cells := #[.int .i64 1, .int .i64 1]) rfl) (tm' := zq1 (zq2 (zq4 (zq8 _)))) rfl ?_
 refine rl_buildO ([(b3, .cells #[.slice none 0 0, .slice none 0 0, .slice none 0 0] 25 (0, 0)), (b2, .cells #[.slice none 0 0, .slice none 0 0, .slice none 0 0] 25 (0, 0)), (b1, .cells #[(.slice a13 3 c14), (.slice a15 2 c16), (.slice a17 4 c18)] 25 (0, 0))] : Pcs) mn Tryd.underlying23 tS43 tZ43 (Nat.le_of_ble_eq_true rfl) (vs := [(0, .agg #[.int .i64 0, .int .i64 0]), (1, .agg #[.int .i64 1, .int .i64 1])]) rfl rfl (es := [[.int .i64 0, .int .i64 0], [.int .i64 1, .int .i64 1]]) rfl rfl rfl fun v25 X26 o27 => ?_
 obtain ⟨a28, c29, ev_, _⟩ := o21.val; have ev_ : v19 = .slice a28 2 c29 := ev_.trans (congrArg (fun q_ => Value.slice a28 q_ c29) (show _ = 2 from rfl)); subst ev_
 obtain ⟨a30, c31, ev_, _⟩ := o24.val; have ev_ : v22 = .slice a30 2 c31 := ev_.trans (congrArg (fun q_ => Value.slice a30 q_ c31) (show _ = 2 from rfl)); subst ev_
 obtain ⟨a32, c33, ev_, _⟩ := o27.val; have ev_ : v25 = .slice a32 2 c33 := ev_.trans (congrArg (fun q_ => Value.slice a32 q_ c33) (show _ = 2 from rfl)); subst ev_
 refine ro (exd_build tZ25 tP25 (vs := [(0, (.slice a28 2 c29)), (1, (.slice a30 2 c31)), (2, (.slice a32 2 c33))]) rfl (cells := #[(.slice a28 2 c29), (.slice a30 2 c31), (.slice a32 2 c33)]) rfl) ?_
 refine rl_store mn tS25 rfl (v := .agg #[(.slice a28 2 c29), (.slice a30 2 c31), (.slice a32 2 c33)]) rfl (i := 1) rfl rfl (ones_cons o21.one.2 (ones_cons o24.one.2 (ones_cons o27.one.2 rfl))) (Nat.le_of_ble_eq_true rfl) (cs2 := [(.slice a28 2 c29), (.slice a30 2 c31), (.slice a32 2 c33)]) rfl (rl_own (L' := ([(b3, .cells #[.slice none 0 0, .slice none 0 0, .slice none 0 0] 25 (0, 0)), (b2, .cells #[(.slice a28 2 c29), (.slice a30 2 c31), (.slice a32 2 c33)] 25 (0, 0)), (b1, .cells #[(.slice a13 3 c14), (.slice a15 2 c16), (.slice a17 4 c18)] 25 (0, 0))] : Pcs) ++ (X26 ++ (X23 ++ (X20 ++ (X11 ++ (X8 ++ (X5 ++ []))))))) rfl ?_)
 refine ren <| rl_start ?_
 refine rl_buildO ([(b3, .cells #[.slice none 0 0, .slice none 0 0, .slice none 0 0] 25 (0, 0)), (b2, .cells #[(.slice a28 2 c29), (.slice a30 2 c31), (.slice a32 2 c33)] 25 (0, 0)), (b1, .cells #[(.slice a13 3 c14), (.slice a15 2 c16), (.slice a17 4 c18)] 25 (0, 0))] : Pcs) mn Tryd.underlying22 tS3 tZ3 (Nat.le_of_ble_eq_true rfl) (vs := [(0, .int .i64 1)]) rfl rfl (es := [[.int .i64 1]]) rfl rfl rfl fun v34 X35 o36 => ?_
 refine rl_norm (tm' := zq2 (zq8 (zq16 []))) rfl ?_
 refine rl_buildO ([(b3, .cells #[.slice none 0 0, .slice none 0 0, .slice none 0 0] 25 (0, 0)), (b2, .cells #[(.slice a28 2 c29), (.slice a30 2 c31), (.slice a32 2 c33)] 25 (0, 0)), (b1, .cells #[(.slice a13 3 c14), (.slice a15 2 c16), (.slice a17 4 c18)] 25 (0, 0))] : Pcs) mn Tryd.underlying22 tS3 tZ3 (Nat.le_of_ble_eq_true rfl) (vs := [(0, .int .i64 1), (1, .int .i64 1)]) rfl rfl (es := [[.int .i64 1], [.int .i64 1]]) rfl rfl rfl fun v37 X38 o39 => ?_
 refine ro (exd_build tZ43 tP43 (vs := [(0, .int .i64 0), (1, .int .i64 0)]) rfl (cells := #[.int .i64 0, .int .i64 0]) rfl) <| rt (exd_build tZ43 tP43 (vs := [(0, .int .i64 0), (1, .int .i64 1)]) rfl (cells := #[.int .i64 0, .int .i64 1]) rfl) (tm' := zq2 (zq8 (zq16 []))) rfl ?_
 refine rl_buildO ([(b3, .cells #[.slice none 0 0, .slice none 0 0, .slice none 0 0] 25 (0, 0)), (b2, .cells #[(.slice a28 2 c29), (.slice a30 2 c31), (.slice a32 2 c33)] 25 (0, 0)), (b1, .cells #[(.slice a13 3 c14), (.slice a15 2 c16), (.slice a17 4 c18)] 25 (0, 0))] : Pcs) mn Tryd.underlying23 tS43 tZ43 (Nat.le_of_ble_eq_true rfl) (vs := [(0, .agg #[.int .i64 0, .int .i64 0]), (1, .agg #[.int .i64 0, .int .i64 1])]) rfl rfl (es := [[.int .i64 0, .int .i64 0], [.int .i64 0, .int .i64 1]]) rfl rfl rfl fun v40 X41 o42 => ?_
 obtain ⟨a43, c44, ev_, _⟩ := o36.val; have ev_ : v34 = .slice a43 1 c44 := ev_.trans (congrArg (fun q_ => Value.slice a43 q_ c44) (show _ = 1 from rfl)); subst ev_
 obtain ⟨a45, c46, ev_, _⟩ := o39.val; have ev_ : v37 = .slice a45 2 c46 := ev_.trans (congrArg (fun q_ => Value.slice a45 q_ c46) (show _ = 2 from rfl)); subst ev_
 obtain ⟨a47, c48, ev_, _⟩ := o42.val; have ev_ : v40 = .slice a47 2 c48 := ev_.trans (congrArg (fun q_ => Value.slice a47 q_ c48) (show _ = 2 from rfl)); subst ev_
 refine ro (exd_build tZ25 tP25 (vs := [(0, (.slice a43 1 c44)), (1, (.slice a45 2 c46)), (2, (.slice a47 2 c48))]) rfl (cells := #[(.slice a43 1 c44), (.slice a45 2 c46), (.slice a47 2 c48)]) rfl) ?_
 refine rl_store mn tS25 rfl (v := .agg #[(.slice a43 1 c44), (.slice a45 2 c46), (.slice a47 2 c48)]) rfl (i := 0) rfl rfl (ones_cons o36.one.2 (ones_cons o39.one.2 (ones_cons o42.one.2 rfl))) (Nat.le_of_ble_eq_true rfl) (cs2 := [(.slice a43 1 c44), (.slice a45 2 c46), (.slice a47 2 c48)]) rfl (rl_own (L' := ([(b3, .cells #[(.slice a43 1 c44), (.slice a45 2 c46), (.slice a47 2 c48)] 25 (0, 0)), (b2, .cells #[(.slice a28 2 c29), (.slice a30 2 c31), (.slice a32 2 c33)] 25 (0, 0)), (b1, .cells #[(.slice a13 3 c14), (.slice a15 2 c16), (.slice a17 4 c18)] 25 (0, 0))] : Pcs) ++ (X41 ++ (X38 ++ (X35 ++ (X26 ++ (X23 ++ (X20 ++ (X11 ++ (X8 ++ (X5 ++ [])))))))))) rfl ?_)
 refine ren ?_
 refine rs_as (fl_mixed2 (C := []) (A := ([(b3, .cells #[(.slice a43 1 c44), (.slice a45 2 c46), (.slice a47 2 c48)] 25 (0, 0)), (b2, .cells #[(.slice a28 2 c29), (.slice a30 2 c31), (.slice a32 2 c33)] 25 (0, 0)), (b1, .cells #[(.slice a13 3 c14), (.slice a15 2 c16), (.slice a17 4 c18)] 25 (0, 0))] : Pcs)) 5 [] [5, 6, 7, 8, 9, 10, 11, 12, 13] [5, 6, 7, 8, 9, 10, 11, 12, 13] [0, 1, 2, 3, 4] (fun i_ => match i_ with | 5 => X41 | 6 => X38 | 7 => X35 | 8 => X26 | 9 => X23 | 10 => X20 | 11 => X11 | 12 => X8 | 13 => X5 | _ => []) (fun _ => []) (fun i_ => match i_ with | 0 => [] | 1 => [] | 2 => [] | 3 => [0] | 4 => [0, 1] | _ => []) (fun i_ val_ pc_ v_ x_ => match i_ with | 0 => v_ = .agg #[(.slice a13 3 c14), (.slice a15 2 c16), (.slice a17 4 c18)] ∧ x_ = [] | 1 => v_ = .agg #[(.slice a28 2 c29), (.slice a30 2 c31), (.slice a32 2 c33)] ∧ x_ = [] | 2 => v_ = .agg #[(.slice a43 1 c44), (.slice a45 2 c46), (.slice a47 2 c48)] ∧ x_ = [] | 3 => v_ = undef ∧ x_ = [] | 4 => v_ = undef ∧ x_ = [] | _ => True) (fun val49 => [.pointer (some ⟨b1, 0, none⟩), .pointer (some ⟨b2, 0, none⟩), .pointer (some ⟨b3, 0, none⟩), (.slice a13 3 c14), (.slice a15 2 c16), .agg #[.int .i64 0, .int .i64 0], .agg #[.int .i64 1, .int .i64 0], .agg #[.int .i64 1, .int .i64 1], .agg #[.int .i64 2, .int .i64 1], (.slice a17 4 c18), .agg #[(.slice a13 3 c14), (.slice a15 2 c16), (.slice a17 4 c18)], (.slice a28 2 c29), (.slice a30 2 c31), .agg #[.int .i64 0, .int .i64 0], .agg #[.int .i64 1, .int .i64 1], (.slice a32 2 c33), .agg #[(.slice a28 2 c29), (.slice a30 2 c31), (.slice a32 2 c33)], (.slice a43 1 c44), (.slice a45 2 c46), .agg #[.int .i64 0, .int .i64 0], .agg #[.int .i64 0, .int .i64 1], (.slice a47 2 c48), .agg #[(.slice a43 1 c44), (.slice a45 2 c46), (.slice a47 2 c48)], (val49 0), (val49 1), (val49 2)]) mixed (by kernel_rfl) (Nat.le_of_ble_eq_true rfl) (by kernel_rfl) (by kernel_rfl) (by kernel_rfl) (fun _ _ => ⟨fun _ _ h => h.2, ⟨fun _ _ h => h.2, ⟨fun _ _ h => h.2, ⟨fun _ _ h => h.2, ⟨fun _ _ h => h.2, trivial⟩⟩⟩⟩⟩) (fun _ => by kernel_rfl) (by kernel_rfl) ?_ ?_) (fun h_ H_ => St.swap (A := ([(b3, .cells #[(.slice a43 1 c44), (.slice a45 2 c46), (.slice a47 2 c48)] 25 (0, 0)), (b2, .cells #[(.slice a28 2 c29), (.slice a30 2 c31), (.slice a32 2 c33)] 25 (0, 0)), (b1, .cells #[(.slice a13 3 c14), (.slice a15 2 c16), (.slice a17 4 c18)] 25 (0, 0))] : Pcs)) (U := (X41 ++ (X38 ++ (X35 ++ (X26 ++ (X23 ++ (X20 ++ (X11 ++ (X8 ++ (X5 ++ [])))))))))) H_)
 ·
  refine mixes_cons rfl (opmix2 ?_) ?_
  ·
   intro val49 pc50 hQ_ hX_
   obtain ⟨q_, hq0_⟩ : ∃ q_ : Value → Pcs → Prop, q_ = (fun v_ x_ => v_ = .agg #[(.slice a13 3 c14), (.slice a15 2 c16), (.slice a17 4 c18)] ∧ x_ = []) := ⟨_, rfl⟩
   refine ⟨(zq2 (zq8 (zq16 []))), [], q_, rfl, rfl, (fun _ _ z_ => by subst hq0_; exact z_), ?_⟩
   subst hq0_
   exact mix_det mn (fun _ h_ H_ => exd_loadN_own H_ tA25 tS25 rfl (i := 2) rfl (vs := [(.slice a13 3 c14), (.slice a15 2 c16), (.slice a17 4 c18)]) rfl rfl) ⟨rfl, rfl⟩
  refine mixes_cons rfl (opmix2 ?_) ?_
  ·
   intro val49 pc50 hQ_ hX_
   obtain ⟨q_, hq0_⟩ : ∃ q_ : Value → Pcs → Prop, q_ = (fun v_ x_ => v_ = .agg #[(.slice a28 2 c29), (.slice a30 2 c31), (.slice a32 2 c33)] ∧ x_ = []) := ⟨_, rfl⟩
   refine ⟨(zq2 (zq8 (zq16 []))), [], q_, rfl, rfl, (fun _ _ z_ => by subst hq0_; exact z_), ?_⟩
   subst hq0_
   exact mix_det mn (fun _ h_ H_ => exd_loadN_own H_ tA25 tS25 rfl (i := 1) rfl (vs := [(.slice a28 2 c29), (.slice a30 2 c31), (.slice a32 2 c33)]) rfl rfl) ⟨rfl, rfl⟩
  refine mixes_cons rfl (opmix2 ?_) ?_
  ·
   intro val49 pc50 hQ_ hX_
   obtain ⟨q_, hq0_⟩ : ∃ q_ : Value → Pcs → Prop, q_ = (fun v_ x_ => v_ = .agg #[(.slice a43 1 c44), (.slice a45 2 c46), (.slice a47 2 c48)] ∧ x_ = []) := ⟨_, rfl⟩
   refine ⟨(zq2 (zq8 (zq16 []))), [], q_, rfl, rfl, (fun _ _ z_ => by subst hq0_; exact z_), ?_⟩
   subst hq0_
   exact mix_det mn (fun _ h_ H_ => exd_loadN_own H_ tA25 tS25 rfl (i := 0) rfl (vs := [(.slice a43 1 c44), (.slice a45 2 c46), (.slice a47 2 c48)]) rfl rfl) ⟨rfl, rfl⟩
  refine mixes_cons rfl (opmix2 ?_) ?_
  ·
   intro val49 pc50 hQ_ hX_
   have e0_ : val49 0 = .agg #[(.slice a13 3 c14), (.slice a15 2 c16), (.slice a17 4 c18)] := (hQ_ 0 rfl).1
   obtain ⟨q_, hq0_⟩ : ∃ q_ : Value → Pcs → Prop, q_ = (fun v_ x_ => v_ = undef ∧ x_ = []) := ⟨_, rfl⟩
   refine ⟨(zq2 (zq8 (zq16 []))), [], q_, (by rw [e0_]), rfl, (fun _ _ z_ => by subst hq0_; exact z_), ?_⟩
   subst hq0_
   exact mix_same mn tS25 rfl (v := .agg #[(.slice a13 3 c14), (.slice a15 2 c16), (.slice a17 4 c18)]) rfl (i := 2) (fun _ => rfl) rfl (ones_cons o6.one.2 (ones_cons o9.one.2 (ones_cons o12.one.2 rfl))) (Nat.le_of_ble_eq_true rfl) rfl ⟨rfl, rfl⟩
  refine mixes_cons rfl (opmix2 ?_) ?_
  ·
   intro val49 pc50 hQ_ hX_
   have e0_ : val49 0 = .agg #[(.slice a13 3 c14), (.slice a15 2 c16), (.slice a17 4 c18)] := (hQ_ 0 rfl).1
   have e1_ : val49 1 = .agg #[(.slice a28 2 c29), (.slice a30 2 c31), (.slice a32 2 c33)] := (hQ_ 1 rfl).1
   obtain ⟨q_, hq0_⟩ : ∃ q_ : Value → Pcs → Prop, q_ = (fun v_ x_ => v_ = undef ∧ x_ = []) := ⟨_, rfl⟩
   refine ⟨(zq2 (zq8 (zq16 []))), [], q_, (by rw [e0_, e1_]), rfl, (fun _ _ z_ => by subst hq0_; exact z_), ?_⟩
   subst hq0_
   exact mix_same mn tS25 rfl (v := .agg #[(.slice a28 2 c29), (.slice a30 2 c31), (.slice a32 2 c33)]) rfl (i := 1) (fun _ => rfl) rfl (ones_cons o21.one.2 (ones_cons o24.one.2 (ones_cons o27.one.2 rfl))) (Nat.le_of_ble_eq_true rfl) rfl ⟨rfl, rfl⟩
  exact mixes_nil rfl
 intro val49 pc50 hQ_ hX_
 have e0_ : val49 0 = .agg #[(.slice a13 3 c14), (.slice a15 2 c16), (.slice a17 4 c18)] := (hQ_ 0 (by decide)).1
 have e1_ : val49 1 = .agg #[(.slice a28 2 c29), (.slice a30 2 c31), (.slice a32 2 c33)] := (hQ_ 1 (by decide)).1
 have e2_ : val49 2 = .agg #[(.slice a43 1 c44), (.slice a45 2 c46), (.slice a47 2 c48)] := (hQ_ 2 (by decide)).1
 have x5_ : pc50 5 = X41 := hX_ 5 (by decide)
 have x6_ : pc50 6 = X38 := hX_ 6 (by decide)
 have x7_ : pc50 7 = X35 := hX_ 7 (by decide)
 have x8_ : pc50 8 = X26 := hX_ 8 (by decide)
 have x9_ : pc50 9 = X23 := hX_ 9 (by decide)
 have x10_ : pc50 10 = X20 := hX_ 10 (by decide)
 have x11_ : pc50 11 = X11 := hX_ 11 (by decide)
 have x12_ : pc50 12 = X8 := hX_ 12 (by decide)
 have x13_ : pc50 13 = X5 := hX_ 13 (by decide)
 clear hQ_ hX_
 refine rl_as (Φ := fun h_ => St h [] (fun _ => none) h_ (([(b3, .cells #[(.slice a43 1 c44), (.slice a45 2 c46), (.slice a47 2 c48)] 25 (0, 0)), (b2, .cells #[(.slice a28 2 c29), (.slice a30 2 c31), (.slice a32 2 c33)] 25 (0, 0)), (b1, .cells #[(.slice a13 3 c14), (.slice a15 2 c16), (.slice a17 4 c18)] 25 (0, 0))] : Pcs) ++ (pc50 5 ++ (pc50 6 ++ (pc50 7 ++ (pc50 8 ++ (pc50 9 ++ (pc50 10 ++ (pc50 11 ++ (pc50 12 ++ (pc50 13 ++ []))))))))))) ?_ (fun h_ H_ => H_.swap')
 rw [x5_, x6_, x7_, x8_, x9_, x10_, x11_, x12_, x13_]
 refine rl_norm (tm' := (zq2 (zq8 (zq16 [])))) (by rw [e0_, e1_, e2_]) ?_
 refine rl_store mn tS25 rfl (v := .agg #[(.slice a43 1 c44), (.slice a45 2 c46), (.slice a47 2 c48)]) rfl (i := 0) rfl rfl (ones_cons o36.one.2 (ones_cons o39.one.2 (ones_cons o42.one.2 rfl))) (Nat.le_of_ble_eq_true rfl) (cs2 := [(.slice a43 1 c44), (.slice a45 2 c46), (.slice a47 2 c48)]) rfl (rl_own (L' := ([(b3, .cells #[(.slice a43 1 c44), (.slice a45 2 c46), (.slice a47 2 c48)] 25 (0, 0)), (b2, .cells #[(.slice a28 2 c29), (.slice a30 2 c31), (.slice a32 2 c33)] 25 (0, 0)), (b1, .cells #[(.slice a13 3 c14), (.slice a15 2 c16), (.slice a17 4 c18)] 25 (0, 0))] : Pcs) ++ (X41 ++ (X38 ++ (X35 ++ (X26 ++ (X23 ++ (X20 ++ (X11 ++ (X8 ++ (X5 ++ [])))))))))) rfl ?_)
 refine rl_end ?_
 refine fl_ret Tryd.func63 rfl (vs := [.agg #[(.slice a13 3 c14), (.slice a15 2 c16), (.slice a17 4 c18)], .agg #[(.slice a28 2 c29), (.slice a30 2 c31), (.slice a32 2 c33)], .agg #[(.slice a43 1 c44), (.slice a45 2 c46), (.slice a47 2 c48)]]) (fun h_ H_ => ⟨.agg #[(.slice a13 3 c14), (.slice a15 2 c16), (.slice a17 4 c18)], _, rfl, (wpS_bind (wpS_pure (wpS_loadVarN tA25 tS25 (vs := [(.slice a13 3 c14), (.slice a15 2 c16), (.slice a17 4 c18)]) rfl (fun j_ v_ e_ => by rw [add_mk]; exact H_.ocell (i := 2) rfl (by simpa using e_)) ⟨rfl, rfl⟩))), ⟨.agg #[(.slice a28 2 c29), (.slice a30 2 c31), (.slice a32 2 c33)], _, rfl, (wpS_bind (wpS_pure (wpS_loadVarN tA25 tS25 (vs := [(.slice a28 2 c29), (.slice a30 2 c31), (.slice a32 2 c33)]) rfl (fun j_ v_ e_ => by rw [add_mk]; exact H_.ocell (i := 1) rfl (by simpa using e_)) ⟨rfl, rfl⟩))), ⟨.agg #[(.slice a43 1 c44), (.slice a45 2 c46), (.slice a47 2 c48)], _, rfl, (wpS_bind (wpS_pure (wpS_loadVarN tA25 tS25 (vs := [(.slice a43 1 c44), (.slice a45 2 c46), (.slice a47 2 c48)]) rfl (fun j_ v_ e_ => by rw [add_mk]; exact H_.ocell (i := 0) rfl (by simpa using e_)) ⟨rfl, rfl⟩))), rfl⟩⟩⟩) (v := .tuple #[.agg #[(.slice a13 3 c14), (.slice a15 2 c16), (.slice a17 4 c18)], .agg #[(.slice a28 2 c29), (.slice a30 2 c31), (.slice a32 2 c33)], .agg #[(.slice a43 1 c44), (.slice a45 2 c46), (.slice a47 2 c48)]]) rfl ?_
 refine rs_perm (List.Perm.append_left _ (List.Perm.append_left _ (List.Perm.append_left _ (List.Perm.append_left _ (List.Perm.append_left _ (List.Perm.append_left _ (List.Perm.append_left _ (List.Perm.append_left _ (List.perm_append_comm_assoc _ _ _))))))))) ?_
 refine rs_perm (List.Perm.append_left _ (List.Perm.append_left _ (List.Perm.append_left _ (List.Perm.append_left _ (List.Perm.append_left _ (List.Perm.append_left _ (List.Perm.append_left _ (List.perm_append_comm_assoc _ _ _)))))))) ?_
 refine rs_perm (List.Perm.append_left _ (List.Perm.append_left _ (List.Perm.append_left _ (List.Perm.append_left _ (List.Perm.append_left _ (List.Perm.append_left _ (List.perm_append_comm_assoc _ _ _))))))) ?_
 refine rs_perm (List.Perm.append_left _ (List.Perm.append_left _ (List.Perm.append_left _ (List.Perm.append_left _ (List.Perm.append_left _ (List.perm_append_comm_assoc _ _ _)))))) ?_
 refine rs_perm (List.Perm.append_left _ (List.Perm.append_left _ (List.Perm.append_left _ (List.Perm.append_left _ (List.perm_append_comm_assoc _ _ _))))) ?_
 refine rs_perm (List.Perm.append_left _ (List.Perm.append_left _ (List.Perm.append_left _ (List.perm_append_comm_assoc _ _ _)))) ?_
 refine rs_perm (List.Perm.append_left _ (List.Perm.append_left _ (List.perm_append_comm_assoc _ _ _))) ?_
 refine rs_perm (List.Perm.append_left _ (List.perm_append_comm_assoc _ _ _)) ?_
 refine rs_perm (List.Perm.append_left _ (List.Perm.append_left _ (List.Perm.append_left _ (List.Perm.append_left _ (List.Perm.append_left _ (List.Perm.append_left _ (List.Perm.append_left _ (List.Perm.append_left _ (List.perm_append_comm_assoc _ _ _))))))))) ?_
 refine rs_perm (List.Perm.append_left _ (List.Perm.append_left _ (List.Perm.append_left _ (List.Perm.append_left _ (List.Perm.append_left _ (List.Perm.append_left _ (List.Perm.append_left _ (List.perm_append_comm_assoc _ _ _)))))))) ?_
 refine rs_perm (List.Perm.append_left _ (List.Perm.append_left _ (List.Perm.append_left _ (List.Perm.append_left _ (List.Perm.append_left _ (List.Perm.append_left _ (List.perm_append_comm_assoc _ _ _))))))) ?_
 refine rs_perm (List.Perm.append_left _ (List.Perm.append_left _ (List.Perm.append_left _ (List.Perm.append_left _ (List.Perm.append_left _ (List.perm_append_comm_assoc _ _ _)))))) ?_
 refine rs_perm (List.Perm.append_left _ (List.Perm.append_left _ (List.Perm.append_left _ (List.Perm.append_left _ (List.perm_append_comm_assoc _ _ _))))) ?_
 refine rs_perm (List.Perm.append_left _ (List.Perm.append_left _ (List.Perm.append_left _ (List.perm_append_comm_assoc _ _ _)))) ?_
 refine rs_perm (List.Perm.append_left _ (List.Perm.append_left _ (List.perm_append_comm_assoc _ _ _))) ?_
 refine rs_perm (List.Perm.append_left _ (List.Perm.append_left _ (List.Perm.append_left _ (List.Perm.append_left _ (List.Perm.append_left _ (List.Perm.append_left _ (List.Perm.append_left _ (List.Perm.append_left _ (List.perm_append_comm_assoc _ _ _))))))))) ?_
 refine rs_perm (List.Perm.append_left _ (List.Perm.append_left _ (List.Perm.append_left _ (List.Perm.append_left _ (List.Perm.append_left _ (List.Perm.append_left _ (List.Perm.append_left _ (List.perm_append_comm_assoc _ _ _)))))))) ?_
 refine rs_perm (List.Perm.append_left _ (List.Perm.append_left _ (List.Perm.append_left _ (List.Perm.append_left _ (List.Perm.append_left _ (List.Perm.append_left _ (List.perm_append_comm_assoc _ _ _))))))) ?_
 refine rs_perm (List.Perm.append_left _ (List.Perm.append_left _ (List.Perm.append_left _ (List.Perm.append_left _ (List.Perm.append_left _ (List.perm_append_comm_assoc _ _ _)))))) ?_
 refine rs_perm (List.Perm.append_left _ (List.Perm.append_left _ (List.Perm.append_left _ (List.Perm.append_left _ (List.perm_append_comm_assoc _ _ _))))) ?_
 refine rs_perm (List.Perm.append_left _ (List.Perm.append_left _ (List.Perm.append_left _ (List.perm_append_comm_assoc _ _ _)))) ?_
 refine rs_perm (List.Perm.append_left _ (List.Perm.append_left _ (List.Perm.append_left _ (List.Perm.append_left _ (List.Perm.append_left _ (List.Perm.append_left _ (List.Perm.append_left _ (List.Perm.append_left _ (List.perm_append_comm_assoc _ _ _))))))))) ?_
 refine rs_perm (List.Perm.append_left _ (List.Perm.append_left _ (List.Perm.append_left _ (List.Perm.append_left _ (List.Perm.append_left _ (List.Perm.append_left _ (List.Perm.append_left _ (List.perm_append_comm_assoc _ _ _)))))))) ?_
 refine rs_perm (List.Perm.append_left _ (List.Perm.append_left _ (List.Perm.append_left _ (List.Perm.append_left _ (List.Perm.append_left _ (List.Perm.append_left _ (List.perm_append_comm_assoc _ _ _))))))) ?_
 refine rs_perm (List.Perm.append_left _ (List.Perm.append_left _ (List.Perm.append_left _ (List.Perm.append_left _ (List.Perm.append_left _ (List.perm_append_comm_assoc _ _ _)))))) ?_
 refine rs_perm (List.Perm.append_left _ (List.Perm.append_left _ (List.Perm.append_left _ (List.Perm.append_left _ (List.perm_append_comm_assoc _ _ _))))) ?_
 refine rs_perm (List.Perm.append_left _ (List.Perm.append_left _ (List.Perm.append_left _ (List.Perm.append_left _ (List.Perm.append_left _ (List.Perm.append_left _ (List.Perm.append_left _ (List.Perm.append_left _ (List.perm_append_comm_assoc _ _ _))))))))) ?_
 refine rs_perm (List.Perm.append_left _ (List.Perm.append_left _ (List.Perm.append_left _ (List.Perm.append_left _ (List.Perm.append_left _ (List.Perm.append_left _ (List.Perm.append_left _ (List.perm_append_comm_assoc _ _ _)))))))) ?_
 refine rs_perm (List.Perm.append_left _ (List.Perm.append_left _ (List.Perm.append_left _ (List.Perm.append_left _ (List.Perm.append_left _ (List.Perm.append_left _ (List.perm_append_comm_assoc _ _ _))))))) ?_
 refine rs_perm (List.Perm.append_left _ (List.Perm.append_left _ (List.Perm.append_left _ (List.Perm.append_left _ (List.Perm.append_left _ (List.perm_append_comm_assoc _ _ _)))))) ?_
 refine rs_perm (List.Perm.append_left _ (List.Perm.append_left _ (List.Perm.append_left _ (List.Perm.append_left _ (List.Perm.append_left _ (List.Perm.append_left _ (List.Perm.append_left _ (List.Perm.append_left _ (List.perm_append_comm_assoc _ _ _))))))))) ?_
 refine rs_perm (List.Perm.append_left _ (List.Perm.append_left _ (List.Perm.append_left _ (List.Perm.append_left _ (List.Perm.append_left _ (List.Perm.append_left _ (List.Perm.append_left _ (List.perm_append_comm_assoc _ _ _)))))))) ?_
 refine rs_perm (List.Perm.append_left _ (List.Perm.append_left _ (List.Perm.append_left _ (List.Perm.append_left _ (List.Perm.append_left _ (List.Perm.append_left _ (List.perm_append_comm_assoc _ _ _))))))) ?_
 refine rs_perm (List.Perm.append_left _ (List.Perm.append_left _ (List.Perm.append_left _ (List.Perm.append_left _ (List.Perm.append_left _ (List.Perm.append_left _ (List.Perm.append_left _ (List.Perm.append_left _ (List.perm_append_comm_assoc _ _ _))))))))) ?_
 refine rs_perm (List.Perm.append_left _ (List.Perm.append_left _ (List.Perm.append_left _ (List.Perm.append_left _ (List.Perm.append_left _ (List.Perm.append_left _ (List.Perm.append_left _ (List.perm_append_comm_assoc _ _ _)))))))) ?_
 refine rs_perm (List.Perm.append_left _ (List.Perm.append_left _ (List.Perm.append_left _ (List.Perm.append_left _ (List.Perm.append_left _ (List.Perm.append_left _ (List.Perm.append_left _ (List.Perm.append_left _ (List.perm_append_comm_assoc _ _ _))))))))) ?_
 refine rs_own (L' := ([(b3, .cells #[(.slice a43 1 c44), (.slice a45 2 c46), (.slice a47 2 c48)] 25 (0, 0)), (b2, .cells #[(.slice a28 2 c29), (.slice a30 2 c31), (.slice a32 2 c33)] 25 (0, 0)), (b1, .cells #[(.slice a13 3 c14), (.slice a15 2 c16), (.slice a17 4 c18)] 25 (0, 0))] : Pcs) ++ (X5 ++ (X8 ++ (X11 ++ (X20 ++ (X23 ++ (X26 ++ (X35 ++ (X38 ++ (X41 ++ [])))))))))) rfl ?_
 exact fun h_ H_ => K _ _ ⟨_, _, _, _, _, _, _, _, _, _, _, _, _, _, _, _, _, _, rfl, o6, o9, o12, o21, o24, o27, o36, o39, o42, by simpa using H_.dropA.new⟩
theorem c16 (md : Md) (h : Heap) (p : PHeap) (hp : Per p h) (N : NoneP p) (Z : TabP p) : CallsX Tryd.prog md 16 #[] h fun v h' => v = .bool true ∧ Keep h h' := by
 refine calls_intro (Φ := fun h_ => St h [] p h_ []) Tryd.func16 rfl (tm := zq1 (zq2 (zq32 (zq32 (zq32 []))))) rfl ?_ (St.start h _ hp)
 intro c₀ cs Stop K
 have nB1 : exB.nH = 3 := rfl
 have nB2 : exB.nW = 2 := rfl
 have nB3 : exB.m = 4 := rfl
 have nC1 : exC.nH = 2 := rfl
 have nC2 : exC.nW = 2 := rfl
 have nC3 : exC.m = 2 := rfl
 have nD1 : exD.nH = 1 := rfl
 have nD2 : exD.nW = 2 := rfl
 have nD3 : exD.m = 2 := rfl
 have mostB_ : mostC exB = 7 := by rw [mostC, if_pos chkE_B, mostE_B]
 have lkB_ : LKc exB = [2, 2, 1] := by rw [LKc_yes chkE_B, lkE_B]
 have shoC_ : shortC exC = [1] := by rw [shortC_yes chkE_C, shoE_C]
 have shoE_ : shortE exC = 0 := shortE_0 chkE_C (by rw [shoE_C]; decide)
 have nl1_ : (LKc exB).length = 3 := by rw [lkB_]; rfl
 have nl2_ : (shortC exC).length = 1 := by rw [shoC_]; rfl
 have wA_ : wayA exC 1 0 = 0 := by rw [wayA_tt (by omega), askB, if_pos chkE_C]; simp; omega
 have wayE_ : wayE exC 1 0 = 0 := wayE_0 wA_ (by decide)
 have wayB__ : wayB exC 1 0 = true := by rw [wayB_0 wA_ (by decide)]; exact decide_eq_true wayE_C
 have askB_ : askB exB (decide (0 ≤ (0 : Int) ∧ (0 : Int) ≤ (exB.nH : Int) - 1)) = 0 := by rw [askB, if_pos chkE_B]; simp; omega
 have askD_ : askB exD (decide (0 ≤ (0 : Int) ∧ (0 : Int) ≤ (exD.nW : Int) - 1)) = 0 := by rw [askB, if_pos chkE_D]; simp; omega
 have houB1_ : houseC exB 0 (-1) = 3 := by rw [houseC_yes askB_, houE_B1]
 have houB2_ : houseC exB 0 1 = 4 := by rw [houseC_yes askB_, houE_B2]
 have dryD_ : dryC exD 0 = 3 := by rw [dryC_yes askD_, dryE_D]
 refine fsr <| rt (exd_assign (v := .bool (false)) rfl) (tm' := _::_) rfl <| ren <| rl_start ?_
 refine rl_own (L' := ([] : Pcs) ++ []) rfl ?_
 refine rl_call mn (first := []) (cap := []) rfl rfl fC63 (R := fun v_ h_ => ∃ w1 : Value, ∃ w4 : Value, ∃ w7 : Value, ∃ w10 : Value, ∃ w13 : Value, ∃ w16 : Value, ∃ w19 : Value, ∃ w22 : Value, ∃ w25 : Value, ∃ X2 : Pcs, ∃ X5 : Pcs, ∃ X8 : Pcs, ∃ X11 : Pcs, ∃ X14 : Pcs, ∃ X17 : Pcs, ∃ X20 : Pcs, ∃ X23 : Pcs, ∃ X26 : Pcs, v_ = .tuple #[.agg #[w1, w4, w7], .agg #[w10, w13, w16], .agg #[w19, w22, w25]] ∧ (OwnS 3 1 w1 (ics exB.hs) X2) ∧ (OwnS 3 1 w4 (ics exB.ws) X5) ∧ (OwnS 43 2 w7 (wcs exB.wy) X8) ∧ (OwnS 3 1 w10 (ics exC.hs) X11) ∧ (OwnS 3 1 w13 (ics exC.ws) X14) ∧ (OwnS 43 2 w16 (wcs exC.wy) X17) ∧ (OwnS 3 1 w19 (ics exD.hs) X20) ∧ (OwnS 3 1 w22 (ics exD.ws) X23) ∧ (OwnS 43 2 w25 (wcs exD.wy) X26) ∧ St h [] p h_ (([] : Pcs) ++ ((X2 ++ (X5 ++ (X8 ++ (X11 ++ (X14 ++ (X17 ++ (X20 ++ (X23 ++ (X26 ++ []))))))))) ++ []))) (fun h_ H_ => (c63 md _).mono fun v_ h2_ ⟨w1, w4, w7, w10, w13, w16, w19, w22, w25, X2, X5, X8, X11, X14, X17, X20, X23, X26, e_, o3, o6, o9, o12, o15, o18, o21, o24, o27, N_⟩ => ⟨w1, w4, w7, w10, w13, w16, w19, w22, w25, X2, X5, X8, X11, X14, X17, X20, X23, X26, e_, o3, o6, o9, o12, o15, o18, o21, o24, o27, H_.callNA N_⟩) fun v_ => ?_
 refine rl_ex fun w1 => rl_ex fun w4 => rl_ex fun w7 => rl_ex fun w10 => rl_ex fun w13 => rl_ex fun w16 => rl_ex fun w19 => rl_ex fun w22 => rl_ex fun w25 => rl_ex fun X2 => rl_ex fun X5 => rl_ex fun X8 => rl_ex fun X11 => rl_ex fun X14 => rl_ex fun X17 => rl_ex fun X20 => rl_ex fun X23 => rl_ex fun X26 => rl_and fun ev_ => rl_and fun o3 => rl_and fun o6 => rl_and fun o9 => rl_and fun o12 => rl_and fun o15 => rl_and fun o18 => rl_and fun o21 => rl_and fun o24 => rl_and fun o27 => ?_
 have ev_ := ev_.symm; subst ev_
 refine rl_own (L' := ([] : Pcs) ++ (X2 ++ (X5 ++ (X8 ++ (X11 ++ (X14 ++ (X17 ++ (X20 ++ (X23 ++ (X26 ++ [])))))))))) (by simp) ?_
 refine ro (exd_move (v := .tuple #[.agg #[w1, w4, w7], .agg #[w10, w13, w16], .agg #[w19, w22, w25]]) rfl) <| rt (exd_extract rfl (v := .agg #[w1, w4, w7]) rfl) (tm' := zq1 (zq2 (zq16 _))) rfl <| ro (exd_extract rfl (v := .agg #[w10, w13, w16]) rfl) <| ro (exd_extract rfl (v := .agg #[w19, w22, w25]) rfl) ?_
 refine rl_alloc mn tZ25 rfl fun b28 => rl_own (L' := ([(b28, .cells #[.slice none 0 0, .slice none 0 0, .slice none 0 0] 25 (0, 0))] : Pcs) ++ (X2 ++ (X5 ++ (X8 ++ (X11 ++ (X14 ++ (X17 ++ (X20 ++ (X23 ++ (X26 ++ [])))))))))) rfl ?_
 refine rl_norm (tm' := _::_::_) rfl ?_
 refine rl_alloc mn tZ25 rfl fun b29 => rl_own (L' := ([(b29, .cells #[.slice none 0 0, .slice none 0 0, .slice none 0 0] 25 (0, 0)), (b28, .cells #[.slice none 0 0, .slice none 0 0, .slice none 0 0] 25 (0, 0))] : Pcs) ++ (X2 ++ (X5 ++ (X8 ++ (X11 ++ (X14 ++ (X17 ++ (X20 ++ (X23 ++ (X26 ++ [])))))))))) rfl ?_
 refine rl_alloc mn tZ25 rfl fun b30 => rl_own (L' := ([(b30, .cells #[.slice none 0 0, .slice none 0 0, .slice none 0 0] 25 (0, 0)), (b29, .cells #[.slice none 0 0, .slice none 0 0, .slice none 0 0] 25 (0, 0)), (b28, .cells #[.slice none 0 0, .slice none 0 0, .slice none 0 0] 25 (0, 0))] : Pcs) ++ (X2 ++ (X5 ++ (X8 ++ (X11 ++ (X14 ++ (X17 ++ (X20 ++ (X23 ++ (X26 ++ [])))))))))) rfl ?_
 refine rl_store mn tS25 rfl (v := .agg #[w1, w4, w7]) rfl (i := 2) rfl rfl (ones_cons o3.one.2 (ones_cons o6.one.2 (ones_cons o9.one.2 rfl))) (Nat.le_of_ble_eq_true rfl) (cs2 := [w1, w4, w7]) rfl (rl_own (L' := ([(b30, .cells #[.slice none 0 0, .slice none 0 0, .slice none 0 0] 25 (0, 0)), (b29, .cells #[.slice none 0 0, .slice none 0 0, .slice none 0 0] 25 (0, 0)), (b28, .cells #[w1, w4, w7] 25 (0, 0))] : Pcs) ++ (X2 ++ (X5 ++ (X8 ++ (X11 ++ (X14 ++ (X17 ++ (X20 ++ (X23 ++ (X26 ++ [])))))))))) rfl ?_)
 refine rl_store mn tS25 rfl (v := .agg #[w10, w13, w16]) rfl (i := 1) rfl rfl (ones_cons o12.one.2 (ones_cons o15.one.2 (ones_cons o18.one.2 rfl))) (Nat.le_of_ble_eq_true rfl) (cs2 := [w10, w13, w16]) rfl (rl_own (L' := ([(b30, .cells #[.slice none 0 0, .slice none 0 0, .slice none 0 0] 25 (0, 0)), (b29, .cells #[w10, w13, w16] 25 (0, 0)), (b28, .cells #[w1, w4, w7] 25 (0, 0))] : Pcs) ++ (X2 ++ (X5 ++ (X8 ++ (X11 ++ (X14 ++ (X17 ++ (X20 ++ (X23 ++ (X26 ++ [])))))))))) rfl ?_)
 refine rl_store mn tS25 rfl (v := .agg #[w19, w22, w25]) rfl (i := 0) rfl rfl (ones_cons o21.one.2 (ones_cons o24.one.2 (ones_cons o27.one.2 rfl))) (Nat.le_of_ble_eq_true rfl) (cs2 := [w19, w22, w25]) rfl (rl_own (L' := ([(b30, .cells #[w19, w22, w25] 25 (0, 0)), (b29, .cells #[w10, w13, w16] 25 (0, 0)), (b28, .cells #[w1, w4, w7] 25 (0, 0))] : Pcs) ++ (X2 ++ (X5 ++ (X8 ++ (X11 ++ (X14 ++ (X17 ++ (X20 ++ (X23 ++ (X26 ++ [])))))))))) rfl ?_)
 refine ren ?_
 refine rs_lastC (A := ([(b30, .cells #[w19, w22, w25] 25 (0, 0)), (b29, .cells #[w10, w13, w16] 25 (0, 0)), (b28, .cells #[w1, w4, w7] 25 (0, 0))] : Pcs)) o3 ((ics_length _).trans rfl) (by decide) fun p31 a32 cp33 le34 ev_ D35 hcD35 => ?_
 subst ev_
 refine rs_lastC (A := ([(b30, .cells #[w19, w22, w25] 25 (0, 0)), (b29, .cells #[w10, w13, w16] 25 (0, 0)), (b28, .cells #[.slice a32 exB.nH cp33, w4, w7] 25 (0, 0))] : Pcs)) o6 ((ics_length _).trans rfl) (by decide) fun p36 a37 cp38 le39 ev_ D40 hcD40 => ?_
 subst ev_
 refine rs_lastC (A := ([(b30, .cells #[w19, w22, w25] 25 (0, 0)), (b29, .cells #[w10, w13, w16] 25 (0, 0)), (b28, .cells #[.slice a32 exB.nH cp33, .slice a37 exB.nW cp38, w7] 25 (0, 0))] : Pcs)) o9 (show (wcs exB.wy).length = exB.m from rfl) (by decide) fun p41 a42 cp43 le44 ev_ D45 hcD45 => ?_
 subst ev_
 refine rs_lastC (A := ([(b30, .cells #[w19, w22, w25] 25 (0, 0)), (b29, .cells #[w10, w13, w16] 25 (0, 0)), (b28, .cells #[.slice a32 exB.nH cp33, .slice a37 exB.nW cp38, .slice a42 exB.m cp43] 25 (0, 0))] : Pcs)) o12 ((ics_length _).trans rfl) (by decide) fun p46 a47 cp48 le49 ev_ D50 hcD50 => ?_
 subst ev_
 refine rs_lastC (A := ([(b30, .cells #[w19, w22, w25] 25 (0, 0)), (b29, .cells #[.slice a47 exC.nH cp48, w13, w16] 25 (0, 0)), (b28, .cells #[.slice a32 exB.nH cp33, .slice a37 exB.nW cp38, .slice a42 exB.m cp43] 25 (0, 0))] : Pcs)) o15 ((ics_length _).trans rfl) (by decide) fun p51 a52 cp53 le54 ev_ D55 hcD55 => ?_
 subst ev_
 refine rs_lastC (A := ([(b30, .cells #[w19, w22, w25] 25 (0, 0)), (b29, .cells #[.slice a47 exC.nH cp48, .slice a52 exC.nW cp53, w16] 25 (0, 0)), (b28, .cells #[.slice a32 exB.nH cp33, .slice a37 exB.nW cp38, .slice a42 exB.m cp43] 25 (0, 0))] : Pcs)) o18 (show (wcs exC.wy).length = exC.m from rfl) (by decide) fun p56 a57 cp58 le59 ev_ D60 hcD60 => ?_
 subst ev_
 refine rs_lastC (A := ([(b30, .cells #[w19, w22, w25] 25 (0, 0)), (b29, .cells #[.slice a47 exC.nH cp48, .slice a52 exC.nW cp53, .slice a57 exC.m cp58] 25 (0, 0)), (b28, .cells #[.slice a32 exB.nH cp33, .slice a37 exB.nW cp38, .slice a42 exB.m cp43] 25 (0, 0))] : Pcs)) o21 ((ics_length _).trans rfl) (by decide) fun p61 a62 cp63 le64 ev_ D65 hcD65 => ?_
 subst ev_
 refine rs_lastC (A := ([(b30, .cells #[.slice a62 exD.nH cp63, w22, w25] 25 (0, 0)), (b29, .cells #[.slice a47 exC.nH cp48, .slice a52 exC.nW cp53, .slice a57 exC.m cp58] 25 (0, 0)), (b28, .cells #[.slice a32 exB.nH cp33, .slice a37 exB.nW cp38, .slice a42 exB.m cp43] 25 (0, 0))] : Pcs)) o24 ((ics_length _).trans rfl) (by decide) fun p66 a67 cp68 le69 ev_ D70 hcD70 => ?_
 subst ev_
 refine rs_lastC (A := ([(b30, .cells #[.slice a62 exD.nH cp63, .slice a67 exD.nW cp68, w25] 25 (0, 0)), (b29, .cells #[.slice a47 exC.nH cp48, .slice a52 exC.nW cp53, .slice a57 exC.m cp58] 25 (0, 0)), (b28, .cells #[.slice a32 exB.nH cp33, .slice a37 exB.nW cp38, .slice a42 exB.m cp43] 25 (0, 0))] : Pcs)) o27 (show (wcs exD.wy).length = exD.m from rfl) (by decide) fun p71 a72 cp73 le74 ev_ D75 hcD75 => ?_
 subst ev_
 refine rs_own (L' := [(b30, .cells #[.slice a62 exD.nH cp63, .slice a67 exD.nW cp68, .slice a72 exD.m cp73] 25 (0, 0)), (b29, .cells #[.slice a47 exC.nH cp48, .slice a52 exC.nW cp53, .slice a57 exC.m cp58] 25 (0, 0)), (b28, .cells #[.slice a32 exB.nH cp33, .slice a37 exB.nW cp38, .slice a42 exB.m cp43] 25 (0, 0))]) rfl ?_
 refine rl_start ?_
 refine rl_det mn (fun h_ H_ => exd_loadN_own H_ tA25 tS25 rfl (i := 2) rfl (vs := [.slice a32 exB.nH cp33, .slice a37 exB.nW cp38, .slice a42 exB.m cp43]) rfl rfl) (tm' := zq1 (zq2 (zq4 (zq16 _)))) rfl ?_
 refine rl_calld mn (first := []) (cap := []) rfl rfl fC28 (fun h_ H_ => c28 md _ _ H_.pe _ _ _ _ _ _ exB (show TownP _ _ _ _ _ _ _ exB from ⟨(((((((((show Ints _ _ _ exB.hs from D35).mono le39).mono le44).mono le49).mono le54).mono le59).mono le64).mono le69).mono le74), ((((((((show Ints _ _ _ exB.ws from D40).mono le44).mono le49).mono le54).mono le59).mono le64).mono le69).mono le74), (((((((show Wys _ _ _ exB.wy from D45).mono le49).mono le54).mono le59).mono le64).mono le69).mono le74)⟩) (by omega) (((((((((N.mono le34).mono le39).mono le44).mono le49).mono le54).mono le59).mono le64).mono le69).mono le74)) rfl ?_
 refine ro (exd_move (v := .tuple #[.int .i64 (mostC exB), .int .i64 (chkB exB)]) rfl) <| rt (exd_extract rfl (v := .int .i64 (mostC exB)) rfl) (tm' := zq1 (zq8 (zq16 _))) rfl <| ro (exd_extract rfl (v := .int .i64 (chkB exB)) rfl) <| ro (exd_assign (v := .int .i64 (mostC exB)) rfl) <| rt (exd_assign (v := .int .i64 (chkB exB)) rfl) (tm' := zq2 (zq4 _)) rfl <| ren ?_
 refine rl_start <| rd (fun h_ H_ => exd_loadN_own H_ tA25 tS25 rfl (i := 2) rfl (vs := [.slice a32 exB.nH cp33, .slice a37 exB.nW cp38, .slice a42 exB.m cp43]) rfl rfl) ?_
 refine rl_own (L' := ([(b30, .cells #[.slice a62 exD.nH cp63, .slice a67 exD.nW cp68, .slice a72 exD.m cp73] 25 (0, 0)), (b29, .cells #[.slice a47 exC.nH cp48, .slice a52 exC.nW cp53, .slice a57 exC.m cp58] 25 (0, 0)), (b28, .cells #[.slice a32 exB.nH cp33, .slice a37 exB.nW cp38, .slice a42 exB.m cp43] 25 (0, 0))] : Pcs) ++ []) rfl ?_
 refine rl_call mn (first := []) (cap := []) rfl rfl fC43 (R := fun v_ h_ => ∃ w76 : Value, ∃ X77 : Pcs, v_ = .tuple #[w76, .int .i64 (chkB exB)] ∧ (OwnS 3 1 w76 (ics (LKc exB)) X77) ∧ St h [] p71 h_ (([(b30, .cells #[.slice a62 exD.nH cp63, .slice a67 exD.nW cp68, .slice a72 exD.m cp73] 25 (0, 0)), (b29, .cells #[.slice a47 exC.nH cp48, .slice a52 exC.nW cp53, .slice a57 exC.m cp58] 25 (0, 0)), (b28, .cells #[.slice a32 exB.nH cp33, .slice a37 exB.nW cp38, .slice a42 exB.m cp43] 25 (0, 0))] : Pcs) ++ (X77 ++ []))) (fun h_ H_ => (c43 md _ _ H_.pe _ _ _ _ _ _ exB (show TownP _ _ _ _ _ _ _ exB from ⟨(((((((((show Ints _ _ _ exB.hs from D35).mono le39).mono le44).mono le49).mono le54).mono le59).mono le64).mono le69).mono le74), ((((((((show Ints _ _ _ exB.ws from D40).mono le44).mono le49).mono le54).mono le59).mono le64).mono le69).mono le74), (((((((show Wys _ _ _ exB.wy from D45).mono le49).mono le54).mono le59).mono le64).mono le69).mono le74)⟩) (by omega) (((((((((N.mono le34).mono le39).mono le44).mono le49).mono le54).mono le59).mono le64).mono le69).mono le74)).mono fun v_ h2_ ⟨w76, X77, e_, o78, N_⟩ => ⟨w76, X77, e_, o78, H_.callNA N_⟩) fun v_ => ?_
 refine rl_ex fun w76 => rl_ex fun X77 => rl_and fun ev_ => rl_and fun o78 => ?_
 have ev_ := ev_.symm; subst ev_
 refine rl_own (L' := ([(b30, .cells #[.slice a62 exD.nH cp63, .slice a67 exD.nW cp68, .slice a72 exD.m cp73] 25 (0, 0)), (b29, .cells #[.slice a47 exC.nH cp48, .slice a52 exC.nW cp53, .slice a57 exC.m cp58] 25 (0, 0)), (b28, .cells #[.slice a32 exB.nH cp33, .slice a37 exB.nW cp38, .slice a42 exB.m cp43] 25 (0, 0))] : Pcs) ++ (X77 ++ [])) rfl ?_
 refine rt (exd_move (v := .tuple #[w76, .int .i64 (chkB exB)]) rfl) (tm' := zq1 (zq2 (zq8 (zq16 _)))) rfl <| ro (exd_extract rfl (v := w76) rfl) <| ro (exd_extract rfl (v := .int .i64 (chkB exB)) rfl) <| rt (exd_assign (v := w76) rfl) (tm' := zq1 (zq2 (zq4 _))) rfl <| ro (exd_assign (v := .int .i64 (chkB exB)) rfl) <| ren ?_
 refine rl_start <| rd (fun h_ H_ => exd_loadN_own H_ tA25 tS25 rfl (i := 2) rfl (vs := [.slice a32 exB.nH cp33, .slice a37 exB.nW cp38, .slice a42 exB.m cp43]) rfl rfl) ?_
 refine rl_calld mn (first := []) (cap := []) rfl rfl fC18 (fun h_ H_ => c18 md _ _ H_.pe _ _ _ _ _ _ exB (show TownP _ _ _ _ _ _ _ exB from ⟨(((((((((show Ints _ _ _ exB.hs from D35).mono le39).mono le44).mono le49).mono le54).mono le59).mono le64).mono le69).mono le74), ((((((((show Ints _ _ _ exB.ws from D40).mono le44).mono le49).mono le54).mono le59).mono le64).mono le69).mono le74), (((((((show Wys _ _ _ exB.wy from D45).mono le49).mono le54).mono le59).mono le64).mono le69).mono le74)⟩) (by omega) (0) (((((((((N.mono le34).mono le39).mono le44).mono le49).mono le54).mono le59).mono le64).mono le69).mono le74)) (tm' := zq2 (zq32 _)) rfl ?_
 refine ro (exd_move (v := .tuple #[.agg #[.int .i64 (houseC exB (0) (-1)), .int .i64 (houseC exB (0) 1)], .int .i64 (askB exB (decide (0 ≤ 0 ∧ 0 ≤ (exB.nH : Int) - 1)))]) rfl) <| ro (exd_extract rfl (v := .agg #[.int .i64 (houseC exB (0) (-1)), .int .i64 (houseC exB (0) 1)]) rfl) <| rt (exd_extract rfl (v := .int .i64 (askB exB (decide (0 ≤ 0 ∧ 0 ≤ (exB.nH : Int) - 1)))) rfl) (tm' := zq4 (zq32 _)) rfl ?_
 refine rl_alloc mn tZ30 rfl fun b79 => rl_own (L' := ([(b79, .cells #[.int .i64 0, .int .i64 0] 30 (0, 0)), (b30, .cells #[.slice a62 exD.nH cp63, .slice a67 exD.nW cp68, .slice a72 exD.m cp73] 25 (0, 0)), (b29, .cells #[.slice a47 exC.nH cp48, .slice a52 exC.nW cp53, .slice a57 exC.m cp58] 25 (0, 0)), (b28, .cells #[.slice a32 exB.nH cp33, .slice a37 exB.nW cp38, .slice a42 exB.m cp43] 25 (0, 0))] : Pcs) ++ (X77 ++ [])) rfl ?_
 refine rl_store mn tS30 rfl (v := .agg #[.int .i64 (houseC exB (0) (-1)), .int .i64 (houseC exB (0) 1)]) rfl (i := 0) rfl rfl rfl (Nat.le_of_ble_eq_true rfl) (cs2 := [.int .i64 (houseC exB (0) (-1)), .int .i64 (houseC exB (0) 1)]) rfl (rl_own (L' := ([(b79, .cells #[.int .i64 (houseC exB (0) (-1)), .int .i64 (houseC exB (0) 1)] 30 (0, 0)), (b30, .cells #[.slice a62 exD.nH cp63, .slice a67 exD.nW cp68, .slice a72 exD.m cp73] 25 (0, 0)), (b29, .cells #[.slice a47 exC.nH cp48, .slice a52 exC.nW cp53, .slice a57 exC.m cp58] 25 (0, 0)), (b28, .cells #[.slice a32 exB.nH cp33, .slice a37 exB.nW cp38, .slice a42 exB.m cp43] 25 (0, 0))] : Pcs) ++ (X77 ++ [])) rfl ?_)
 refine ro (exd_assign (v := .int .i64 (askB exB (decide (0 ≤ 0 ∧ 0 ≤ (exB.nH : Int) - 1)))) rfl) <| ren <| rl_start ?_
 refine rl_det mn (fun h_ H_ => exd_loadN_own H_ tA25 tS25 rfl (i := 2) rfl (vs := [.slice a47 exC.nH cp48, .slice a52 exC.nW cp53, .slice a57 exC.m cp58]) rfl rfl) (tm' := zq2 (zq4 (zq32 _))) rfl ?_
 refine rl_call mn (first := []) (cap := []) rfl rfl fC25 (R := fun v_ h_ => ∃ w80 : Value, ∃ X81 : Pcs, v_ = .tuple #[w80, .int .i64 (shortE exC)] ∧ (OwnS 3 1 w80 (ics (shortC exC)) X81) ∧ St h [] p71 h_ (([(b79, .cells #[.int .i64 (houseC exB (0) (-1)), .int .i64 (houseC exB (0) 1)] 30 (0, 0)), (b30, .cells #[.slice a62 exD.nH cp63, .slice a67 exD.nW cp68, .slice a72 exD.m cp73] 25 (0, 0)), (b29, .cells #[.slice a47 exC.nH cp48, .slice a52 exC.nW cp53, .slice a57 exC.m cp58] 25 (0, 0)), (b28, .cells #[.slice a32 exB.nH cp33, .slice a37 exB.nW cp38, .slice a42 exB.m cp43] 25 (0, 0))] : Pcs) ++ (X81 ++ (X77 ++ [])))) (fun h_ H_ => (c25 md _ _ H_.pe _ _ _ _ _ _ exC (show TownP _ _ _ _ _ _ _ exC from ⟨((((((show Ints _ _ _ exC.hs from D50).mono le54).mono le59).mono le64).mono le69).mono le74), (((((show Ints _ _ _ exC.ws from D55).mono le59).mono le64).mono le69).mono le74), ((((show Wys _ _ _ exC.wy from D60).mono le64).mono le69).mono le74)⟩) (by omega) (((((((((Z.mono le34).mono le39).mono le44).mono le49).mono le54).mono le59).mono le64).mono le69).mono le74)).mono fun v_ h2_ ⟨w80, X81, e_, o82, N_⟩ => ⟨w80, X81, e_, o82, H_.callNA N_⟩) fun v_ => ?_
 refine rl_ex fun w80 => rl_ex fun X81 => rl_and fun ev_ => rl_and fun o82 => ?_
 have ev_ := ev_.symm; subst ev_
 refine rl_own (L' := ([(b79, .cells #[.int .i64 (houseC exB (0) (-1)), .int .i64 (houseC exB (0) 1)] 30 (0, 0)), (b30, .cells #[.slice a62 exD.nH cp63, .slice a67 exD.nW cp68, .slice a72 exD.m cp73] 25 (0, 0)), (b29, .cells #[.slice a47 exC.nH cp48, .slice a52 exC.nW cp53, .slice a57 exC.m cp58] 25 (0, 0)), (b28, .cells #[.slice a32 exB.nH cp33, .slice a37 exB.nW cp38, .slice a42 exB.m cp43] 25 (0, 0))] : Pcs) ++ (X81 ++ (X77 ++ []))) rfl ?_
 refine ro (exd_move (v := .tuple #[w80, .int .i64 (shortE exC)]) rfl) <| rt (exd_extract rfl (v := w80) rfl) (tm' := zq8 (zq32 _)) rfl <| ro (exd_extract rfl (v := .int .i64 (shortE exC)) rfl) <| ro (exd_assign (v := w80) rfl) <| rt (exd_assign (v := .int .i64 (shortE exC)) rfl) (tm' := zq4 (zq8 _)) rfl <| ren ?_
 refine rl_start <| rd (fun h_ H_ => exd_loadN_own H_ tA25 tS25 rfl (i := 2) rfl (vs := [.slice a47 exC.nH cp48, .slice a52 exC.nW cp53, .slice a57 exC.m cp58]) rfl rfl) ?_
 refine rl_calld mn (first := []) (cap := []) rfl rfl fC55 (fun h_ H_ => c55 md _ _ H_.pe _ _ _ _ _ _ exC (show TownP _ _ _ _ _ _ _ exC from ⟨((((((show Ints _ _ _ exC.hs from D50).mono le54).mono le59).mono le64).mono le69).mono le74), (((((show Ints _ _ _ exC.ws from D55).mono le59).mono le64).mono le69).mono le74), ((((show Wys _ _ _ exC.wy from D60).mono le64).mono le69).mono le74)⟩) (by omega) (hcD60) (1) (0) (((((((((N.mono le34).mono le39).mono le44).mono le49).mono le54).mono le59).mono le64).mono le69).mono le74)) rfl ?_
 refine rt (exd_move (v := .tuple #[.bool (wayB exC (1) (0)), .int .i64 (wayE exC (1) (0))]) rfl) (tm' := zq2 (zq8 (zq32 _))) rfl <| ro (exd_extract rfl (v := .bool (wayB exC (1) (0))) rfl) <| ro (exd_extract rfl (v := .int .i64 (wayE exC (1) (0))) rfl) <| rt (exd_assign (v := .bool (wayB exC (1) (0))) rfl) (tm' := zq1 (zq4 (zq8 _))) rfl <| ro (exd_assign (v := .int .i64 (wayE exC (1) (0))) rfl) <| ren ?_
 refine rl_start <| rd (fun h_ H_ => exd_loadN_own H_ tA25 tS25 rfl (i := 1) rfl (vs := [.slice a62 exD.nH cp63, .slice a67 exD.nW cp68, .slice a72 exD.m cp73]) rfl rfl) ?_
 refine rl_calld mn (first := []) (cap := []) rfl rfl fC20 (fun h_ H_ => c20 md _ _ H_.pe _ _ _ _ _ _ exD (show TownP _ _ _ _ _ _ _ exD from ⟨(((show Ints _ _ _ exD.hs from D65).mono le69).mono le74), ((show Ints _ _ _ exD.ws from D70).mono le74), (show Wys _ _ _ exD.wy from D75)⟩) (by omega) (0) (((((((((N.mono le34).mono le39).mono le44).mono le49).mono le54).mono le59).mono le64).mono le69).mono le74)) (tm' := zq1 (zq16 (zq32 _))) rfl ?_
 refine ro (exd_move (v := .tuple #[.int .i64 (dryC exD (0)), .int .i64 (askB exD (decide (0 ≤ 0 ∧ 0 ≤ (exD.nW : Int) - 1)))]) rfl) <| ro (exd_extract rfl (v := .int .i64 (dryC exD (0))) rfl) <| rt (exd_extract rfl (v := .int .i64 (askB exD (decide (0 ≤ 0 ∧ 0 ≤ (exD.nW : Int) - 1)))) rfl) (tm' := zq1 (zq2 (zq16 (zq32 _)))) rfl <| ro (exd_assign (v := .int .i64 (dryC exD (0))) rfl) <| ro (exd_assign (v := .int .i64 (askB exD (decide (0 ≤ 0 ∧ 0 ≤ (exD.nW : Int) - 1)))) rfl) <| ren ?_
 refine rl_start <| rt (exd_move (v := .int .i64 (chkB exB)) rfl) (tm' := zq4 (zq16 (zq32 _))) rfl <| ro (exd_eql rfl rfl) <| ro (exd_move (v := .bool (decide (chkB exB = 0))) rfl) ?_
 refine rl_det (ms rfl rfl (decide_eq_true chkE_B)) (fun h_ H_ => exd_move (v := .int .i64 (chkB exB)) rfl) (tm' := zq1 (zq2 (zq4 (zq16 (zq32 _))))) rfl ?_
 refine rl_det (ms rfl rfl (decide_eq_true chkE_B)) (fun h_ H_ => exd_eql rfl rfl) rfl ?_
 refine ro (exd_pick_t rfl (decide_eq_true chkE_B) (v := .bool (decide (chkB exB = 0))) rfl) <| rt (exd_move (v := .bool (decide (chkB exB = 0))) rfl) (tm' := zq2 (zq8 (zq16 (zq32 _)))) rfl ?_
 refine rl_det (ms rfl rfl (decide_eq_true chkE_B)) (fun h_ H_ => exd_move (v := .int .i64 (askB exB (decide (0 ≤ 0 ∧ 0 ≤ (exB.nH : Int) - 1)))) rfl) rfl ?_
 refine rl_det (ms rfl rfl (decide_eq_true chkE_B)) (fun h_ H_ => exd_eql rfl rfl) rfl ?_
 refine rt (exd_pick_t rfl (decide_eq_true chkE_B) (v := .bool (decide (askB exB (decide (0 ≤ 0 ∧ 0 ≤ (exB.nH : Int) - 1)) = 0))) rfl) (tm' := zq1 (zq4 (zq8 (zq16 (zq32 _))))) rfl <| ro (exd_move (v := .bool (decide (askB exB (decide (0 ≤ 0 ∧ 0 ≤ (exB.nH : Int) - 1)) = 0))) rfl) ?_
 refine rl_det (ms rfl rfl (decide_eq_true askB_)) (fun h_ H_ => exd_move (v := .int .i64 (shortE exC)) rfl) rfl ?_
 refine rl_det (ms rfl rfl (decide_eq_true askB_)) (fun h_ H_ => exd_eql rfl rfl) (tm' := zq32 (zq32 _)) rfl ?_
 refine ro (exd_pick_t rfl (decide_eq_true askB_) (v := .bool (decide (shortE exC = 0))) rfl) <| ro (exd_move (v := .bool (decide (shortE exC = 0))) rfl) ?_
 refine rl_det (ms rfl rfl (decide_eq_true shoE_)) (fun h_ H_ => exd_move (v := .int .i64 (wayE exC (1) (0))) rfl) (tm' := zq1 (zq2 (zq32 (zq32 (zq32 []))))) rfl ?_
 refine rl_det (ms rfl rfl (decide_eq_true shoE_)) (fun h_ H_ => exd_eql rfl rfl) rfl ?_
 refine ro (exd_pick_t rfl (decide_eq_true shoE_) (v := .bool (decide (wayE exC (1) (0) = 0))) rfl) <| rt (exd_move (v := .bool (decide (wayE exC (1) (0) = 0))) rfl) (tm' := zq1 (zq2 (zq32 (zq32 (zq32 []))))) rfl ?_
 refine rl_det (ms rfl rfl (decide_eq_true wayE_)) (fun h_ H_ => exd_move (v := .int .i64 (askB exD (decide (0 ≤ 0 ∧ 0 ≤ (exD.nW : Int) - 1)))) rfl) rfl ?_
 refine rl_det (ms rfl rfl (decide_eq_true wayE_)) (fun h_ H_ => exd_eql rfl rfl) rfl ?_
 refine rt (exd_pick_t rfl (decide_eq_true wayE_) (v := .bool (decide (askB exD (decide (0 ≤ 0 ∧ 0 ≤ (exD.nW : Int) - 1)) = 0))) rfl) (tm' := zq1 (zq2 (zq32 (zq32 (zq32 []))))) rfl <| ro (exd_move (v := .bool (decide (askB exD (decide (0 ≤ 0 ∧ 0 ≤ (exD.nW : Int) - 1)) = 0))) rfl) ?_
 refine rl_det (ms rfl rfl (decide_eq_true askD_)) (fun h_ H_ => exd_move (v := .int .i64 (mostC exB)) rfl) rfl ?_
 refine rl_det (ms rfl rfl (decide_eq_true askD_)) (fun h_ H_ => exd_eql rfl rfl) (tm' := zq1 (zq2 (zq32 (zq32 (zq32 []))))) rfl ?_
 refine ro (exd_pick_t rfl (decide_eq_true askD_) (v := .bool (decide (mostC exB = 7))) rfl) <| ro (exd_move (v := .bool (decide (mostC exB = 7))) rfl) ?_
 refine rl_det (ms rfl rfl (decide_eq_true mostB_)) (fun h_ H_ => exd_move (v := w76) rfl) (tm' := zq1 (zq2 (zq32 (zq32 (zq32 []))))) rfl ?_
 refine rl_buildO ([(b79, .cells #[.int .i64 (houseC exB (0) (-1)), .int .i64 (houseC exB (0) 1)] 30 (0, 0)), (b30, .cells #[.slice a62 exD.nH cp63, .slice a67 exD.nW cp68, .slice a72 exD.m cp73] 25 (0, 0)), (b29, .cells #[.slice a47 exC.nH cp48, .slice a52 exC.nW cp53, .slice a57 exC.m cp58] 25 (0, 0)), (b28, .cells #[.slice a32 exB.nH cp33, .slice a37 exB.nW cp38, .slice a42 exB.m cp43] 25 (0, 0))] : Pcs) (ms rfl rfl (decide_eq_true mostB_)) Tryd.underlying22 tS3 tZ3 (Nat.le_of_ble_eq_true rfl) (vs := [(0, .int .i64 2), (1, .int .i64 2), (2, .int .i64 1)]) rfl rfl (es := [[.int .i64 2], [.int .i64 2], [.int .i64 1]]) rfl rfl rfl fun v83 X84 o85 => ?_
 refine rl_perm (List.Perm.append_left _ (List.Perm.append_left _ (List.perm_append_comm_assoc _ _ _))) ?_
 refine rl_perm (List.Perm.append_left _ (List.perm_append_comm_assoc _ _ _)) ?_
 refine rl_own (L' := ([(b79, .cells #[.int .i64 (houseC exB (0) (-1)), .int .i64 (houseC exB (0) 1)] 30 (0, 0)), (b30, .cells #[.slice a62 exD.nH cp63, .slice a67 exD.nW cp68, .slice a72 exD.m cp73] 25 (0, 0)), (b29, .cells #[.slice a47 exC.nH cp48, .slice a52 exC.nW cp53, .slice a57 exC.m cp58] 25 (0, 0)), (b28, .cells #[.slice a32 exB.nH cp33, .slice a37 exB.nW cp38, .slice a42 exB.m cp43] 25 (0, 0))] : Pcs) ++ (X77 ++ (X84 ++ (X81 ++ [])))) rfl ?_
 refine rl_lastN (A := ([(b79, .cells #[.int .i64 (houseC exB (0) (-1)), .int .i64 (houseC exB (0) 1)] 30 (0, 0)), (b30, .cells #[.slice a62 exD.nH cp63, .slice a67 exD.nW cp68, .slice a72 exD.m cp73] 25 (0, 0)), (b29, .cells #[.slice a47 exC.nH cp48, .slice a52 exC.nW cp53, .slice a57 exC.m cp58] 25 (0, 0)), (b28, .cells #[.slice a32 exB.nH cp33, .slice a37 exB.nW cp38, .slice a42 exB.m cp43] 25 (0, 0))] : Pcs)) o78 ((ics_length _).trans rfl) fun p86 a87 cp88 le89 ev_ D90 => ?_
 subst ev_
 refine rl_lastN (A := ([(b79, .cells #[.int .i64 (houseC exB (0) (-1)), .int .i64 (houseC exB (0) 1)] 30 (0, 0)), (b30, .cells #[.slice a62 exD.nH cp63, .slice a67 exD.nW cp68, .slice a72 exD.m cp73] 25 (0, 0)), (b29, .cells #[.slice a47 exC.nH cp48, .slice a52 exC.nW cp53, .slice a57 exC.m cp58] 25 (0, 0)), (b28, .cells #[.slice a32 exB.nH cp33, .slice a37 exB.nW cp38, .slice a42 exB.m cp43] 25 (0, 0))] : Pcs)) o85 (show _ = 3 from rfl) fun p91 a92 cp93 le94 ev_ D95 => ?_
 subst ev_
 refine rl_calld (ms rfl rfl (decide_eq_true mostB_)) (first := []) (cap := []) rfl rfl fC27 (fun h_ H_ => c27 md _ _ H_.pe _ _ _ _ _ _ _ _ ((show Ints _ _ _ (LKc exB) from D90).mono le94) (show Ints _ _ _ [2, 2, 1] from D95) (by omega)) rfl ?_
 refine rt (exd_pick_t rfl (decide_eq_true mostB_) (v := .bool (decide ((LKc exB) = [2, 2, 1]))) rfl) (tm' := zq1 (zq2 (zq32 (zq32 (zq32 []))))) rfl <| ro (exd_move (v := .bool (decide ((LKc exB) = [2, 2, 1]))) rfl) ?_
 refine rl_det (ms rfl rfl (decide_eq_true lkB_)) (fun h_ H_ => exd_loadN_own H_ tA30 tS30 rfl (i := 0) rfl (vs := [.int .i64 (houseC exB (0) (-1)), .int .i64 (houseC exB (0) 1)]) rfl rfl) rfl ?_
 refine rl_det (ms rfl rfl (decide_eq_true lkB_)) (fun h_ H_ => exd_build tZ30 tP30 (vs := [(0, .int .i64 3), (1, .int .i64 4)]) rfl (cells := #[.int .i64 3, .int .i64 4]) rfl) (tm' := zq1 (zq2 (zq32 (zq32 (zq32 []))))) rfl ?_
 refine rl_det (ms rfl rfl (decide_eq_true lkB_)) (fun h_ H_ => exd_eqAgg gT30 (spanEq 9998 _ _ _ _) rfl rfl) rfl ?_
 refine ro (exd_pick_t rfl (decide_eq_true lkB_) (v := .bool (decide (houseC exB (0) (-1) = 3 ∧ houseC exB (0) 1 = 4))) rfl) <| rt (exd_move (v := .bool (decide (houseC exB (0) (-1) = 3 ∧ houseC exB (0) 1 = 4))) rfl) (tm' := zq1 (zq2 (zq32 (zq32 (zq32 []))))) rfl ?_
 refine rl_det (ms rfl rfl (decide_eq_true ⟨houB1_, houB2_⟩)) (fun h_ H_ => exd_move (v := w80) rfl) rfl ?_
 refine rl_buildO ([(b79, .cells #[.int .i64 (houseC exB (0) (-1)), .int .i64 (houseC exB (0) 1)] 30 (0, 0)), (b30, .cells #[.slice a62 exD.nH cp63, .slice a67 exD.nW cp68, .slice a72 exD.m cp73] 25 (0, 0)), (b29, .cells #[.slice a47 exC.nH cp48, .slice a52 exC.nW cp53, .slice a57 exC.m cp58] 25 (0, 0)), (b28, .cells #[.slice a32 exB.nH cp33, .slice a37 exB.nW cp38, .slice a42 exB.m cp43] 25 (0, 0))] : Pcs) (ms rfl rfl (decide_eq_true ⟨houB1_, houB2_⟩)) Tryd.underlying22 tS3 tZ3 (Nat.le_of_ble_eq_true rfl) (vs := [(0, .int .i64 1)]) rfl rfl (es := [[.int .i64 1]]) rfl rfl rfl fun v96 X97 o98 => ?_
 refine rl_perm (List.Perm.append_left _ (List.perm_append_comm_assoc _ _ _)) ?_
 refine rl_own (L' := ([(b79, .cells #[.int .i64 (houseC exB (0) (-1)), .int .i64 (houseC exB (0) 1)] 30 (0, 0)), (b30, .cells #[.slice a62 exD.nH cp63, .slice a67 exD.nW cp68, .slice a72 exD.m cp73] 25 (0, 0)), (b29, .cells #[.slice a47 exC.nH cp48, .slice a52 exC.nW cp53, .slice a57 exC.m cp58] 25 (0, 0)), (b28, .cells #[.slice a32 exB.nH cp33, .slice a37 exB.nW cp38, .slice a42 exB.m cp43] 25 (0, 0))] : Pcs) ++ (X81 ++ (X97 ++ []))) rfl ?_
 refine rl_lastN (A := ([(b79, .cells #[.int .i64 (houseC exB (0) (-1)), .int .i64 (houseC exB (0) 1)] 30 (0, 0)), (b30, .cells #[.slice a62 exD.nH cp63, .slice a67 exD.nW cp68, .slice a72 exD.m cp73] 25 (0, 0)), (b29, .cells #[.slice a47 exC.nH cp48, .slice a52 exC.nW cp53, .slice a57 exC.m cp58] 25 (0, 0)), (b28, .cells #[.slice a32 exB.nH cp33, .slice a37 exB.nW cp38, .slice a42 exB.m cp43] 25 (0, 0))] : Pcs)) o82 ((ics_length _).trans rfl) fun p99 a100 cp101 le102 ev_ D103 => ?_
 subst ev_
 refine rl_lastN (A := ([(b79, .cells #[.int .i64 (houseC exB (0) (-1)), .int .i64 (houseC exB (0) 1)] 30 (0, 0)), (b30, .cells #[.slice a62 exD.nH cp63, .slice a67 exD.nW cp68, .slice a72 exD.m cp73] 25 (0, 0)), (b29, .cells #[.slice a47 exC.nH cp48, .slice a52 exC.nW cp53, .slice a57 exC.m cp58] 25 (0, 0)), (b28, .cells #[.slice a32 exB.nH cp33, .slice a37 exB.nW cp38, .slice a42 exB.m cp43] 25 (0, 0))] : Pcs)) o98 (show _ = 1 from rfl) fun p104 a105 cp106 le107 ev_ D108 => ?_
 subst ev_
 refine rl_own (L' := [(b79, .cells #[.int .i64 (houseC exB (0) (-1)), .int .i64 (houseC exB (0) 1)] 30 (0, 0)), (b30, .cells #[.slice a62 exD.nH cp63, .slice a67 exD.nW cp68, .slice a72 exD.m cp73] 25 (0, 0)), (b29, .cells #[.slice a47 exC.nH cp48, .slice a52 exC.nW cp53, .slice a57 exC.m cp58] 25 (0, 0)), (b28, .cells #[.slice a32 exB.nH cp33, .slice a37 exB.nW cp38, .slice a42 exB.m cp43] 25 (0, 0))]) rfl ?_
 refine rl_calld (ms rfl rfl (decide_eq_true ⟨houB1_, houB2_⟩)) (first := []) (cap := []) rfl rfl fC27 (fun h_ H_ => c27 md _ _ H_.pe _ _ _ _ _ _ _ _ ((show Ints _ _ _ (shortC exC) from D103).mono le107) (show Ints _ _ _ [1] from D108) (by omega)) (tm' := zq1 (zq2 (zq32 (zq32 (zq32 []))))) rfl ?_
 refine ro (exd_pick_t rfl (decide_eq_true ⟨houB1_, houB2_⟩) (v := .bool (decide ((shortC exC) = [1]))) rfl) <| ro (exd_move (v := .bool (decide ((shortC exC) = [1]))) rfl) ?_
 refine rl_det (ms rfl rfl (decide_eq_true shoC_)) (fun h_ H_ => exd_move (v := .bool (wayB exC (1) (0))) rfl) (tm' := zq1 (zq2 (zq32 (zq32 (zq32 []))))) rfl ?_
 refine ro (exd_pick_t rfl (decide_eq_true shoC_) (v := .bool (wayB exC (1) (0))) rfl) <| ro (exd_move (v := .bool (wayB exC (1) (0))) rfl) ?_
 refine rl_det (ms rfl rfl wayB__) (fun h_ H_ => exd_move (v := .int .i64 (dryC exD (0))) rfl) (tm' := zq1 (zq2 (zq32 (zq32 (zq32 []))))) rfl ?_
 refine rl_det (ms rfl rfl wayB__) (fun h_ H_ => exd_eql rfl rfl) rfl ?_
 refine ro (exd_pick_t rfl wayB__ (v := .bool (decide (dryC exD (0) = 3))) rfl) <| rt (exd_assign (v := .bool (decide (dryC exD (0) = 3))) rfl) (tm' := _::_) rfl <| rl_end ?_
 refine fl_ret Tryd.func16 rfl (vs := [.bool (decide (dryC exD (0) = 3))]) (fun h_ H_ => ⟨.bool (decide (dryC exD (0) = 3)), _, rfl, rfl, rfl⟩) (v := .bool (decide (dryC exD (0) = 3))) rfl ?_
 exact fun h_ H_ => K _ _ ⟨congrArg Value.bool (decide_eq_true dryD_), H_.kept⟩
end Go.Proofs.YtalfgojocdonhaaDoor
namespace Go.Proofs.YtalfgojocdonhaaDoor
open Go.X Go.X.Flow Go.Conc
set_option maxRecDepth 10000
set_option synthInstance.maxSize 2000

set_option maxHeartbeats 2000000
theorem cb46 (md : Md) (h : Heap) (p : PHeap) (hp : Per p h) (a1 a2 a3 : Option Addr) (c1 c2 c3 : Nat) (t : Tn) (_T : TownP p a1 t.nH a2 t.nW a3 t.m t) (hl : t.nH ≤ 9223372036854775807 ∧ t.nW ≤ 9223372036854775807 ∧ t.m ≤ 9223372036854775807) : CallsX Tryd.prog md 46 #[.agg #[.slice a1 t.nH c1, .slice a2 t.nW c2, .slice a3 t.m c3]] h fun v h' => v = .bool (decide (Big t)) ∧ Keep h h' := by
 refine calls_intro (Φ := fun h_ => St h [] p h_ []) Tryd.func46 rfl (tm := zq1 (zq2 (zq16 []))) rfl ?_ (St.start h _ hp)
 intro c₀ cs Stop K
 refine fsr ?_
 refine rl_box mn (v := .agg #[.slice a1 t.nH c1, .slice a2 t.nW c2, .slice a3 t.m c3]) rfl fun b1 => rl_own (L' := [(b1, .cells #[.slice a1 t.nH c1, .slice a2 t.nW c2, .slice a3 t.m c3] 25 (0, 0))]) rfl ?_
 refine ro (exd_assign (v := .bool (false)) rfl) <| ren <| rl_start <| rt (exd_fieldAddr tF25_0 rfl (a' := ⟨b1, 0, none⟩) rfl) (tm' := zq4 _) rfl <| rd (fun h_ H_ => exd_load_own H_ tA22 rfl (i := 0) rfl (v := .slice a1 t.nH c1) rfl) <| ro (exd_len Tryd.underlying22 rfl) ?_
 refine rt (exd_gtr rfl rfl) (tm' := zq1 (zq2 (zq4 _))) rfl <| ro (exd_move (v := .bool (decide (40 < ((t.nH : Nat) : Int)))) rfl) ?_
 by_cases cc2 : 40 < ((t.nH : Nat) : Int)
 ·
  refine rp (mo rfl rfl (dtt cc2)) <| rl_pass (mo rfl rfl (dtt cc2)) (tm' := zq2 (zq8 _)) rfl <| rp (mo rfl rfl (dtt cc2)) <| rp (mo rfl rfl (dtt cc2)) <| rt (exd_pick_t rfl (dtt cc2) (v := .bool (true)) rfl) (tm' := zq1 (zq2 (zq16 []))) rfl <| ro (exd_move (v := .bool (true)) rfl) ?_
  refine rp (mo rfl rfl rfl) <| rl_pass (mo rfl rfl rfl) (tm' := zq1 (zq2 (zq16 []))) rfl <| rp (mo rfl rfl rfl) <| rp (mo rfl rfl rfl) <| rt (exd_pick_t rfl rfl (v := .bool (true)) rfl) (tm' := zq1 (zq2 (zq16 []))) rfl <| ro (exd_assign (v := .bool (true)) rfl) ?_
  refine rl_end ?_
  refine fl_ret Tryd.func46 rfl (vs := [.bool (true)]) (fun h_ H_ => ⟨.bool (true), _, rfl, rfl, rfl⟩) (v := .bool (true)) rfl ?_
  exact fun h_ H_ => K _ _ ⟨by congr 1; rw [Bool.eq_iff_iff, decide_eq_true_eq]; first | (simp; omega) | (simp [*]; done) | (simp [*]; omega), H_.kept⟩
 ·
  refine rl_det (ms rfl rfl (dff cc2)) (fun h_ H_ => exd_fieldAddr tF25_1 rfl (a' := ⟨b1, 1, none⟩) rfl) rfl ?_
  refine rl_det (ms rfl rfl (dff cc2)) (fun h_ H_ => exd_load_own H_ tA22 rfl (i := 0) rfl (v := .slice a2 t.nW c2) rfl) (tm' := zq2 (zq8 _)) rfl ?_
  refine rl_det (ms rfl rfl (dff cc2)) (fun h_ H_ => exd_len Tryd.underlying22 rfl) rfl ?_
  refine rl_det (ms rfl rfl (dff cc2)) (fun h_ H_ => exd_gtr rfl rfl) rfl ?_
  refine rt (exd_pick_f rfl (dff cc2) (v := .bool (decide (40 < ((t.nW : Nat) : Int)))) rfl) (tm' := zq1 (zq2 (zq16 []))) rfl <| ro (exd_move (v := .bool (decide (40 < ((t.nW : Nat) : Int)))) rfl) ?_
  by_cases cc3 : 40 < ((t.nW : Nat) : Int)
  ·
   refine rp (mo rfl rfl (dtt cc3)) <| rl_pass (mo rfl rfl (dtt cc3)) (tm' := zq1 (zq2 (zq16 []))) rfl <| rp (mo rfl rfl (dtt cc3)) <| rp (mo rfl rfl (dtt cc3)) <| rt (exd_pick_t rfl (dtt cc3) (v := .bool (true)) rfl) (tm' := zq1 (zq2 (zq16 []))) rfl <| ro (exd_assign (v := .bool (true)) rfl) ?_
   refine rl_end ?_
   refine fl_ret Tryd.func46 rfl (vs := [.bool (true)]) (fun h_ H_ => ⟨.bool (true), _, rfl, rfl, rfl⟩) (v := .bool (true)) rfl ?_
   exact fun h_ H_ => K _ _ ⟨by congr 1; rw [Bool.eq_iff_iff, decide_eq_true_eq]; first | (simp; omega) | (simp [*]; done) | (simp [*]; omega), H_.kept⟩
  ·
   refine rl_det (ms rfl rfl (dff cc3)) (fun h_ H_ => exd_fieldAddr tF25_2 rfl (a' := ⟨b1, 2, none⟩) rfl) rfl ?_
   refine rl_det (ms rfl rfl (dff cc3)) (fun h_ H_ => exd_load_own H_ tA23 rfl (i := 0) rfl (v := .slice a3 t.m c3) rfl) (tm' := zq1 (zq2 (zq16 []))) rfl ?_
   refine rl_det (ms rfl rfl (dff cc3)) (fun h_ H_ => exd_len Tryd.underlying23 rfl) rfl ?_
   refine rl_det (ms rfl rfl (dff cc3)) (fun h_ H_ => exd_gtr rfl rfl) rfl ?_
   refine rt (exd_pick_f rfl (dff cc3) (v := .bool (decide (40 < ((t.m : Nat) : Int)))) rfl) (tm' := zq1 (zq2 (zq16 []))) rfl <| ro (exd_assign (v := .bool (decide (40 < ((t.m : Nat) : Int)))) rfl) <| rl_end ?_
   refine fl_ret Tryd.func46 rfl (vs := [.bool (decide (40 < ((t.m : Nat) : Int)))]) (fun h_ H_ => ⟨.bool (decide (40 < ((t.m : Nat) : Int))), _, rfl, rfl, rfl⟩) (v := .bool (decide (40 < ((t.m : Nat) : Int)))) rfl ?_
   exact fun h_ H_ => K _ _ ⟨by congr 1; rw [Bool.eq_iff_iff, decide_eq_true_eq]; first | (simp; omega) | (simp [*]; done) | (simp [*]; omega), H_.kept⟩
theorem c15 (md : Md) (h : Heap) (p : PHeap) (hp : Per p h) (a1 a2 a3 : Option Addr) (c1 c2 c3 : Nat) (t : Tn) (T : TownP p a1 t.nH a2 t.nW a3 t.m t) (hl : t.nH ≤ 9223372036854775807 ∧ t.nW ≤ 9223372036854775807 ∧ t.m ≤ 9223372036854775807) : CallsX Tryd.prog md 15 #[.agg #[.slice a1 t.nH c1, .slice a2 t.nW c2, .slice a3 t.m c3]] h fun v h' => v = .bool (farB t) ∧ Keep h h' := by
 refine calls_intro (Φ := fun h_ => St h [] p h_ []) Tryd.func15 rfl (tm := zq1 (zq2 (zq8 (zq32 [])))) rfl ?_ (St.start h _ hp)
 intro c₀ cs Stop K
 refine fsr ?_
 refine rl_box mn (v := .agg #[.slice a1 t.nH c1, .slice a2 t.nW c2, .slice a3 t.m c3]) rfl fun b1 => rl_own (L' := [(b1, .cells #[.slice a1 t.nH c1, .slice a2 t.nW c2, .slice a3 t.m c3] 25 (0, 0))]) rfl ?_
 refine rt (exd_assign (v := .bool (false)) rfl) (tm' := _::_::_::_) rfl <| ren <| fsr <| rd (fun h_ H_ => exd_loadN_own H_ tA25 tS25 rfl (i := 0) rfl (vs := [.slice a1 t.nH c1, .slice a2 t.nW c2, .slice a3 t.m c3]) rfl rfl) ?_
 refine rl_calld mn (first := []) (cap := []) rfl rfl fC46 (fun h_ H_ => cb46 md _ _ H_.pe _ _ _ _ _ _ t (show TownP _ _ _ _ _ _ _ t from ⟨T.h, T.w, T.y⟩) hl) rfl ?_
 refine rl_end ?_
 by_cases cc2 : Big t
 ·
  refine fl_then rfl (dtt cc2) <| fsr <| rt (exd_assign (v := .bool (true)) rfl) (tm' := _::_::_::_) rfl <| rl_end ?_
  refine fl_ret Tryd.func15 rfl (vs := [.bool (true)]) (fun h_ H_ => ⟨.bool (true), _, rfl, rfl, rfl⟩) (v := .bool (true)) rfl ?_
  exact fun h_ H_ => K _ _ ⟨by rw [farB_big ‹_›], H_.kept⟩
 ·
  refine fl_else rfl (dff cc2) <| fl_skip <| fl_seq <| fl_seq ?_
  have hn : t.nH ≤ 40 ∧ t.nW ≤ 40 ∧ t.m ≤ 41 := by have z_ := ‹¬ Big t›; unfold Big at z_; omega
  refine rl_start <| rd (fun h_ H_ => exd_loadN_own H_ tA25 tS25 rfl (i := 0) rfl (vs := [.slice a1 t.nH c1, .slice a2 t.nW c2, .slice a3 t.m c3]) rfl rfl) ?_
  refine rl_calld mn (first := []) (cap := []) rfl rfl fC48 (fun h_ H_ => c48 md _ _ H_.pe _ _ _ _ _ _ _ _ _ t (show TownP _ _ _ _ _ _ _ t from ⟨T.h, T.w, T.y⟩) (by omega)) rfl ?_
  refine rt (exd_neq rfl rfl) (tm' := zq2 (zq8 _)) rfl <| rl_end ?_
  by_cases cc3 : chkB t ≠ 0
  ·
   refine fl_then rfl (dtt cc3) <| fsr <| ro (exd_assign (v := .bool (false)) rfl) <| rl_end ?_
   refine fl_ret Tryd.func15 rfl (vs := [.bool (false)]) (fun h_ H_ => ⟨.bool (false), _, rfl, rfl, rfl⟩) (v := .bool (false)) rfl ?_
   exact fun h_ H_ => K _ _ ⟨by rw [farB_bad ‹_› ‹_›], H_.kept⟩
  ·
   refine fl_else rfl (dff cc3) <| fl_skip <| fl_seq ?_
   have hc_ : chkB t = 0 := by omega
   have hO : OkT t := okt_of hc_
   have oM_ := hO.nm
   refine rl_start <| ro (exd_assign (v := .int .i64 1) rfl) <| ren <| fsr <| rt (exd_assign (v := .int .i64 0) rfl) (tm' := zq1 (zq4 _)) rfl <| rl_end ?_
   refine fl_block ?_
   refine fl_loop (m₀ := t.m - 0) (fun m_ tm_ h_ => ∃ (k : Nat) (s : Int), m_ = t.m - k ∧ (∃ y4 : Nat → Value, tm_ = [.agg #[.slice a1 t.nH c1, .slice a2 t.nW c2, .slice a3 t.m c3], .pointer (some ⟨b1, 0, none⟩), (y4 2), .int .i64 (s), .int .i64 (((k : Nat) : Int)), .agg #[.slice a1 t.nH c1, .slice a2 t.nW c2, .slice a3 t.m c3], .bool (decide (Big t)), .agg #[.slice a1 t.nH c1, .slice a2 t.nW c2, .slice a3 t.m c3], .int .i64 (chkB t), .bool (decide (chkB t ≠ 0)), (y4 10), (y4 11), (y4 12), (y4 13), (y4 14), (y4 15), (y4 16), (y4 17), (y4 18), (y4 19), (y4 20), (y4 21), (y4 22), (y4 23), (y4 24), (y4 25), (y4 26), (y4 27), (y4 28), (y4 29), (y4 30), (y4 31), (y4 32), (y4 33), (y4 34), (y4 35), (y4 36), (y4 37), (y4 38), (y4 39), (y4 40), (y4 41), (y4 42)]) ∧ (k ≤ t.m) ∧ (s = prodK t k) ∧ (s ≤ 2000) ∧ St h [] p h_ ([(b1, .cells #[.slice a1 t.nH c1, .slice a2 t.nW c2, .slice a3 t.m c3] 25 (0, 0))])) (fun h_ H_ => ⟨0, 1, rfl, (y_of rfl), Nat.zero_le _, rfl, (by decide), H_⟩) ?_
   intro m_ tm_ IH5
   refine rs_ex fun k => rs_ex fun s => rs_and fun hm_ => rs_and fun ht_ => rs_and fun hk => rs_and fun hs => rs_and fun h2 => ?_
   subst hm_; obtain ⟨y4, ht_⟩ := ht_; subst ht_
   have hy_ := fun z_ : k < t.m => hO.y k z_
   have hp_ : 1 ≤ s := by rw [hs]; exact prodK_pos hO.toOk k hk
   refine fl_seq <| fsr <| ro (exd_move (v := .int .i64 (((k : Nat) : Int))) rfl) <| ro (exd_fieldAddr tF25_2 rfl (a' := ⟨b1, 2, none⟩) rfl) ?_
   refine rl_det mn (fun h_ H_ => exd_load_own H_ tA23 rfl (i := 0) rfl (v := .slice a3 t.m c3) rfl) (tm' := zq1 (zq4 (zq8 _))) rfl ?_
   refine ro (exd_len Tryd.underlying23 rfl) <| ro (exd_lss rfl rfl) <| rl_end ?_
   by_cases cc6 : ((k : Nat) : Int) < ((t.m : Nat) : Int)
   ·
    refine fl_then rfl (dtt cc6) <| fl_skip <| fl_seq <| fl_block <| fl_seq ?_
    refine fl_drawn2 23 [[], [], [1], [], [3], [], [3, 4, 5], [3, 4, 5, 6], [3, 4, 5, 6, 7], [1, 2, 3, 4, 5, 6, 7, 8], [1, 2, 3, 4, 5, 6, 7, 8, 9], [], [11], [], [13], [], [13, 14, 15], [13, 14, 15, 16], [13, 14, 15, 16, 17], [11, 12, 13, 14, 15, 16, 17, 18], [11, 12, 13, 14, 15, 16, 17, 18, 19], [1, 2, 3, 4, 5, 6, 7, 8, 9, 10, 11, 12, 13, 14, 15, 16, 17, 18, 19, 20], [1, 2, 3, 4, 5, 6, 7, 8, 9, 10, 11, 12, 13, 14, 15, 16, 17, 18, 19, 20, 21], [], []] mixed (by kernel_rfl) (Nat.le_of_ble_eq_true rfl) ?_
    refine wt (exd_move (v := .int .i64 (s)) rfl) (tm' := zq2 (zq16 _)) rfl <| wo (exd_fieldAddr tF25_0 rfl (a' := ⟨b1, 0, none⟩) rfl) ?_
    refine swr_det mn (fun h_ H_ => exd_load_own H_ tA22 rfl (i := 0) rfl (v := .slice a1 t.nH c1) rfl) (tm' := zq4 (zq16 _)) rfl ?_
    refine wo (exd_fieldAddr tF25_2 rfl (a' := ⟨b1, 2, none⟩) rfl) ?_
    refine swr_det mn (fun h_ H_ => exd_load_own H_ tA23 rfl (i := 0) rfl (v := .slice a3 t.m c3) rfl) (tm' := zq2 (zq4 (zq16 _))) rfl ?_
    refine wo (exd_move (v := .int .i64 (((k : Nat) : Int))) rfl) ?_
    refine wt (exd_indexAddrN (i := k) Tryd.underlying23 tS43 (sl_ne a3 t.m c3 (T.y.ne (by omega))) rfl (by omega)) (tm' := zq8 (zq16 _)) rfl ?_
    refine wo (exd_fieldAddr tF43_0 rfl (a' := (adr a3).add (k * 2)) rfl) ?_
    refine swr_det mn (fun h_ H_ => exd_load_per H_ tA3 rfl (v := .int .i64 (((t.wh k : Nat) : Int))) (T.y.hoN (by omega) (hO.yp _ (by omega)).1)) (tm' := zq2 (zq8 (zq16 _))) rfl ?_
    refine wo (exd_indexAddrN (i := (t.wh k)) Tryd.underlying22 tS3 (sl_ne a1 t.nH c1 (T.h.ne (by omega))) rfl (by omega)) ?_
    refine swr_det mn (fun h_ H_ => exd_load_per H_ tA3 rfl (v := .int .i64 (t.hv (t.wh k))) (T.h.get (by omega))) (tm' := zq4 (zq8 (zq16 _))) rfl ?_
    refine wo (exd_fieldAddr tF25_1 rfl (a' := ⟨b1, 1, none⟩) rfl) ?_
    refine swr_det mn (fun h_ H_ => exd_load_own H_ tA22 rfl (i := 0) rfl (v := .slice a2 t.nW c2) rfl) (tm' := zq1 (zq2 (zq8 (zq32 [])))) rfl ?_
    refine wo (exd_fieldAddr tF25_2 rfl (a' := ⟨b1, 2, none⟩) rfl) ?_
    refine swr_det mn (fun h_ H_ => exd_load_own H_ tA23 rfl (i := 0) rfl (v := .slice a3 t.m c3) rfl) (tm' := zq1 (zq2 (zq8 (zq32 [])))) rfl ?_
    refine wo (exd_move (v := .int .i64 (((k : Nat) : Int))) rfl) ?_
    refine wt (exd_indexAddrN (i := k) Tryd.underlying23 tS43 (sl_ne a3 t.m c3 (T.y.ne (by omega))) rfl (by omega)) (tm' := zq1 (zq2 (zq8 (zq32 [])))) rfl ?_
    refine wo (exd_fieldAddr tF43_1 rfl (a' := ((adr a3).add (k * 2)).add 1) rfl) ?_
    refine swr_det mn (fun h_ H_ => exd_load_per H_ tA3 rfl (v := .int .i64 (((t.ww k : Nat) : Int))) (T.y.weN (by omega) (hO.yp _ (by omega)).2)) (tm' := zq1 (zq2 (zq8 (zq32 [])))) rfl ?_
    refine wo (exd_indexAddrN (i := (t.ww k)) Tryd.underlying22 tS3 (sl_ne a2 t.nW c2 (T.w.ne (by omega))) rfl (by omega)) ?_
    refine swr_det mn (fun h_ H_ => exd_load_per H_ tA3 rfl (v := .int .i64 (t.wv (t.ww k))) (T.w.get (by omega))) (tm' := zq1 (zq2 (zq8 (zq32 [])))) rfl ?_
    refine wo (exd_min rfl rfl) ?_
    refine wt (exd_add rfl rfl (wr (by have z1_ := hy_ (by omega); have z2_ := hO.h _ z1_.1; have z3_ := hO.w _ z1_.2; omega))) (tm' := zq1 (zq2 (zq8 (zq32 [])))) rfl ?_
    refine swr_nil rfl ?_
    refine ro (exd_mul rfl rfl (wr (by have z1_ := hy_ (by omega); have z2_ := hO.h _ z1_.1; have z3_ := hO.w _ z1_.2; have z4_ : 0 ≤ min (t.hv (t.wh k)) (t.wv (t.ww k)) + 1 ∧ min (t.hv (t.wh k)) (t.wv (t.ww k)) + 1 ≤ 10 := (by omega); have z5_ := Int.mul_le_mul (show s ≤ 2000 by omega) z4_.2 z4_.1 (by decide); have z6_ := Int.mul_nonneg (show 0 ≤ s by omega) z4_.1; omega))) ?_
    refine rt (exd_assign (v := .int .i64 (s * ((min (t.hv (t.wh k)) (t.wv (t.ww k))) + 1))) rfl) (tm' := zq4 _) rfl <| ren <| rl_start <| ro (exd_move (v := .int .i64 (s * ((min (t.hv (t.wh k)) (t.wv (t.ww k))) + 1))) rfl) <| ro (exd_gtr rfl rfl) <| rl_end ?_
    by_cases cc7 : 2000 < s * ((min (t.hv (t.wh k)) (t.wv (t.ww k))) + 1)
    ·
     refine fl_then rfl (dtt cc7) <| fsr <| rt (exd_assign (v := .bool (true)) rfl) (tm' := _::_::_::_) rfl <| rl_end ?_
     refine fl_ret Tryd.func15 rfl (vs := [.bool (true)]) (fun h_ H_ => ⟨.bool (true), _, rfl, rfl, rfl⟩) (v := .bool (true)) rfl ?_
     exact fun h_ H_ => K _ _ ⟨by rw [farB_far hO.toOk hc_ (k := k + 1) (by omega) (by rw [prodK, ← hs]; unfold fac; assumption)], H_.kept⟩
    ·
     refine fl_else rfl (dff cc7) <| fl_skip <| fl_inBlock <| rl_start <| ro (exd_move (v := .int .i64 (((k : Nat) : Int))) rfl) ?_
     refine ro (exd_add rfl rfl (n := ((k + 1 : Nat) : Int)) (wr (by omega))) ?_
     refine rt (exd_assign (v := .int .i64 (((k + 1 : Nat) : Int))) rfl) (tm' := zq1 (zq4 _)) rfl <| rl_end ?_
     exact fun h_ H_ => IH5 _ _ (by omega) h_ ⟨k + 1, s * ((min (t.hv (t.wh k)) (t.wv (t.ww k))) + 1), rfl, (y_of rfl), (by omega), (by rw [hs, prodK]; rfl), (by omega), H_⟩
   ·
    refine fl_else rfl (dff cc6) <| fl_exit rfl <| fsr <| ro (exd_assign (v := .bool (false)) rfl) <| rl_end ?_
    refine fl_ret Tryd.func15 rfl (vs := [.bool (false)]) (fun h_ H_ => ⟨.bool (false), _, rfl, rfl, rfl⟩) (v := .bool (false)) rfl ?_
    have e_ : k = t.m := by omega
    have z_ : ¬ 2000 < prodK t t.m := by rw [← e_, ← hs]; omega
    exact fun h_ H_ => K _ _ ⟨by rw [farB_near ‹_› z_], H_.kept⟩
theorem c23 (md : Md) (h : Heap) (p : PHeap) (hp : Per p h) (a1 a2 a3 : Option Addr) (c1 c2 c3 : Nat) (t : Tn) (T : TownP p a1 t.nH a2 t.nW a3 t.m t) (hl : t.nH ≤ 9223372036854775807 ∧ t.nW ≤ 9223372036854775807 ∧ t.m ≤ 9223372036854775807) : CallsX Tryd.prog md 23 #[.agg #[.slice a1 t.nH c1, .slice a2 t.nW c2, .slice a3 t.m c3]] h fun v h' => v = .bool (readyB t) ∧ Keep h h' := by
 refine calls_intro (Φ := fun h_ => St h [] p h_ []) Tryd.func23 rfl (tm := zq1 (zq2 (zq8 []))) rfl ?_ (St.start h _ hp)
 intro c₀ cs Stop K
 refine fsr ?_
 refine rl_box mn (v := .agg #[.slice a1 t.nH c1, .slice a2 t.nW c2, .slice a3 t.m c3]) rfl fun b1 => rl_own (L' := [(b1, .cells #[.slice a1 t.nH c1, .slice a2 t.nW c2, .slice a3 t.m c3] 25 (0, 0))]) rfl ?_
 refine rt (exd_assign (v := .bool (false)) rfl) (tm' := _::_::_::_) rfl <| ren <| rl_start <| rd (fun h_ H_ => exd_loadN_own H_ tA25 tS25 rfl (i := 0) rfl (vs := [.slice a1 t.nH c1, .slice a2 t.nW c2, .slice a3 t.m c3]) rfl rfl) ?_
 refine rl_calld mn (first := []) (cap := []) rfl rfl fC15 (fun h_ H_ => c15 md _ _ H_.pe _ _ _ _ _ _ t (show TownP _ _ _ _ _ _ _ t from ⟨T.h, T.w, T.y⟩) hl) rfl ?_
 refine rt (exd_not rfl) (tm' := zq2 (zq4 _)) rfl <| ro (exd_move (v := .bool (!(farB t))) rfl) ?_
 rcases bcases (farB t) with cc2 | cc2
 ·
  refine rp (mo rfl rfl (not_f cc2)) <| rl_pass (mo rfl rfl (not_f cc2)) (tm' := zq1 (zq2 (zq8 []))) rfl <| rp (mo rfl rfl (not_f cc2)) <| ro (exd_pick_f rfl (not_f cc2) (v := .bool (false)) rfl) <| rt (exd_assign (v := .bool (false)) rfl) (tm' := _::_::_::_) rfl <| rl_end ?_
  refine fl_ret Tryd.func23 rfl (vs := [.bool (false)]) (fun h_ H_ => ⟨.bool (false), _, rfl, rfl, rfl⟩) (v := .bool (false)) rfl ?_
  exact fun h_ H_ => K _ _ ⟨by unfold readyB; simp [*], H_.kept⟩
 ·
  have hn : t.nH ≤ 40 ∧ t.nW ≤ 40 ∧ t.m ≤ 41 := by have z_ := not_far cc2; unfold Big at z_; omega
  refine rl_det (ms rfl rfl (not_t cc2)) (fun h_ H_ => exd_loadN_own H_ tA25 tS25 rfl (i := 0) rfl (vs := [.slice a1 t.nH c1, .slice a2 t.nW c2, .slice a3 t.m c3]) rfl rfl) rfl ?_
  refine rl_calld (ms rfl rfl (not_t cc2)) (first := []) (cap := []) rfl rfl fC48 (fun h_ H_ => c48 md _ _ H_.pe _ _ _ _ _ _ _ _ _ t (show TownP _ _ _ _ _ _ _ t from ⟨T.h, T.w, T.y⟩) (by omega)) rfl ?_
  refine rl_det (ms rfl rfl (not_t cc2)) (fun h_ H_ => exd_eql rfl rfl) (tm' := zq1 (zq2 (zq8 []))) rfl ?_
  refine ro (exd_pick_t rfl (not_t cc2) (v := .bool (decide (chkB t = 0))) rfl) <| ro (exd_assign (v := .bool (decide (chkB t = 0))) rfl) <| rl_end ?_
  refine fl_ret Tryd.func23 rfl (vs := [.bool (decide (chkB t = 0))]) (fun h_ H_ => ⟨.bool (decide (chkB t = 0)), _, rfl, rfl, rfl⟩) (v := .bool (decide (chkB t = 0))) rfl ?_
  exact fun h_ H_ => K _ _ ⟨by unfold readyB; simp [*], H_.kept⟩
theorem lacks_ok (md : Md) {h : Heap} {p : PHeap} (hp : Per p h) {a1 a2 a3 : Option Addr} {c1 c2 c3 : Nat} {t : Tn} (T : TownP p a1 t.nH a2 t.nW a3 t.m t) (hn : t.nH ≤ 40 ∧ t.nW ≤ 40 ∧ t.m ≤ 41) (N : NoneP p) (hc : chkB t = 0) :
  CallsX Tryd.prog md 43 #[.agg #[.slice a1 t.nH c1, .slice a2 t.nW c2, .slice a3 t.m c3]] h fun v h' => ∃ w X, v = .tuple #[w, .int .i64 0] ∧ OwnS 3 1 w (ics (LK t)) X ∧ New h h' X :=
 (c43 md h p hp _ _ _ _ _ _ t T hn N).mono fun v h' ⟨w, X, e, o, k⟩ => ⟨w, X, by rw [e, hc], o.as (congrArg ics (LKc_yes hc)), k⟩
theorem fair_ok (md : Md) {h : Heap} {p : PHeap} (hp : Per p h) {a1 a2 a3 : Option Addr} {c1 c2 c3 : Nat} {t : Tn} (T : TownP p a1 t.nH a2 t.nW a3 t.m t) (hn : t.nH ≤ 40 ∧ t.nW ≤ 40 ∧ t.m ≤ 41) (N : NoneP p) (hc : chkB t = 0) :
  CallsX Tryd.prog md 30 #[.agg #[.slice a1 t.nH c1, .slice a2 t.nW c2, .slice a3 t.m c3]] h fun v h' => ∃ w X, v = .tuple #[w, .int .i64 0] ∧ OwnS 3 1 w (ics (fairP t none0)) X ∧ New h h' X :=
 (c30 md h p hp _ _ _ _ _ _ t T hn N).mono fun v h' ⟨w, X, e, o, k⟩ => ⟨w, X, by rw [e, hc], o.as (congrArg ics (fairC_yes hc)), k⟩
theorem most_ok (md : Md) {h : Heap} {p : PHeap} (hp : Per p h) {a1 a2 a3 : Option Addr} {c1 c2 c3 : Nat} {t : Tn} (T : TownP p a1 t.nH a2 t.nW a3 t.m t) (hn : t.nH ≤ 40 ∧ t.nW ≤ 40 ∧ t.m ≤ 41) (N : NoneP p) (hc : chkB t = 0) :
  CallsX Tryd.prog md 28 #[.agg #[.slice a1 t.nH c1, .slice a2 t.nW c2, .slice a3 t.m c3]] h fun v h' => v = .tuple #[.int .i64 (mostV t), .int .i64 0] ∧ Keep h h' :=
 (c28 md h p hp _ _ _ _ _ _ t T hn N).mono fun v h' ⟨e, k⟩ => ⟨by rw [e, mostC, if_pos hc, hc], k⟩
theorem worst_ok (md : Md) {h : Heap} {p : PHeap} (hp : Per p h) {a1 a2 a3 : Option Addr} {c1 c2 c3 : Nat} {t : Tn} (T : TownP p a1 t.nH a2 t.nW a3 t.m t) (hn : t.nH ≤ 40 ∧ t.nW ≤ 40 ∧ t.m ≤ 41) (N : NoneP p) (hc : chkB t = 0) :
  CallsX Tryd.prog md 36 #[.agg #[.slice a1 t.nH c1, .slice a2 t.nW c2, .slice a3 t.m c3]] h fun v h' => v = .tuple #[.int .i64 (worstV t), .int .i64 0] ∧ Keep h h' :=
 (c36 md h p hp _ _ _ _ _ _ t T hn N).mono fun v h' ⟨e, k⟩ => ⟨by rw [e, worstC, LKc_yes hc, hc]; rfl, k⟩
theorem house_ok (md : Md) {h : Heap} {p : PHeap} (hp : Per p h) {a1 a2 a3 : Option Addr} {c1 c2 c3 : Nat} {t : Tn} (T : TownP p a1 t.nH a2 t.nW a3 t.m t) (hn : t.nH ≤ 40 ∧ t.nW ≤ 40 ∧ t.m ≤ 41) (N : NoneP p) (hc : chkB t = 0) {z : Int} (hz : 0 ≤ z ∧ z ≤ (t.nH : Int) - 1) :
  CallsX Tryd.prog md 18 #[.agg #[.slice a1 t.nH c1, .slice a2 t.nW c2, .slice a3 t.m c3], .int .i64 z] h fun v h' => v = .tuple #[.agg #[.int .i64 (drawV t z (-1)), .int .i64 (drawV t z 1)], .int .i64 0] ∧ Keep h h' :=
 have ha : askB t (decide (0 ≤ z ∧ z ≤ (t.nH : Int) - 1)) = 0 := by rw [askB, if_pos hc, decide_eq_true hz]; rfl
 (c18 md h p hp _ _ _ _ _ _ t T hn z N).mono fun v h' ⟨e, k⟩ => ⟨by rw [e, houseC_yes ha, houseC_yes ha, ha], k⟩
theorem good_ok (md : Md) {h : Heap} {p : PHeap} (hp : Per p h) {a1 a2 a3 : Option Addr} {c1 c2 c3 : Nat} {t : Tn} (T : TownP p a1 t.nH a2 t.nW a3 t.m t) (hn : t.nH ≤ 40 ∧ t.nW ≤ 40 ∧ t.m ≤ 41) (hc : chkB t = 0) {b : Option Addr} {m cb : Nat} {d : List Int} (D : Ints p b m d) (hm : m ≤ 40) (hd : DivI t d) :
  CallsX Tryd.prog md 49 #[.agg #[.slice a1 t.nH c1, .slice a2 t.nW c2, .slice a3 t.m c3], .slice b m cb] h fun v h' => ∃ w X, v = .tuple #[w, .bool true, .int .i64 0] ∧ OwnS 3 1 w (ics (lacks t d)) X ∧ New h h' X :=
 (c49 md h p hp _ _ _ _ _ _ t T hn b m cb d D hm).mono fun v h' ⟨w, X, e, o, k⟩ => ⟨w, X, by rw [e, decide_eq_true (And.intro hc hd), hc], o.as (congrArg ics (if_pos ⟨hc, hd⟩)), k⟩
theorem good_lent (md : Md) {h h₀ : Heap} {B₀ : List Nat} {p : PHeap} {A C X U : Pcs} {a1 a2 a3 : Option Addr} {c1 c2 c3 : Nat} {t : Tn} (T : TownP p a1 t.nH a2 t.nW a3 t.m t) (hn : t.nH ≤ 40 ∧ t.nW ≤ 40 ∧ t.m ≤ 41) (hc : chkB t = 0) {w : Value} {m : Nat} {d : List Int} (o : OwnS 3 1 w (ics d) X) (hl : (ics d).length = m) (hm : m ≤ 40) (hd : DivI t d) (hX : ∀ x ∈ X, x ∈ U) (s : St h₀ B₀ p h (U ++ (A ++ C))) :
  CallsX Tryd.prog md 49 #[.agg #[.slice a1 t.nH c1, .slice a2 t.nW c2, .slice a3 t.m c3], w] h fun v h' => ∃ x, (∃ w X, v = .tuple #[w, .bool true, .int .i64 0] ∧ (OwnS 3 1 w (ics (lacks t d)) X) ∧ x = (X ++ [])) ∧ St h₀ B₀ p h' (x ++ (A ++ C)) :=
 lend_to o hl s (fun x hx => List.mem_append_left _ (hX x hx)) fun p' a cap hp le hv D => by
  subst hv
  exact (good_ok md hp (T.mono le) hn hc (show Ints _ _ _ d from D) hm hd).mono fun v h' ⟨w, X, e, o, N⟩ => ⟨_, ⟨w, X, e, o, rfl⟩, (s.callN (by rw [List.append_nil]; exact N)).sub (List.Sublist.append_left (List.sublist_append_right _ _) _)⟩
theorem c24 (md : Md) (h : Heap) (p : PHeap) (hp : Per p h) (a1 a2 a3 : Option Addr) (c1 c2 c3 : Nat) (t : Tn) (T : TownP p a1 t.nH a2 t.nW a3 t.m t) (hn : t.nH ≤ 40 ∧ t.nW ≤ 40 ∧ t.m ≤ 41) (N : NoneP p) (hc : chkB t = 0) : CallsX Tryd.prog md 24 #[.agg #[.slice a1 t.nH c1, .slice a2 t.nW c2, .slice a3 t.m c3]] h fun v h' => ∃ w X, v = .tuple #[w, .bool true] ∧ OwnS 3 1 w (ics (LK t)) X ∧ New h h' X := by
 refine calls_intro (Φ := fun h_ => St h [] p h_ []) Tryd.func24 rfl (tm := zq1 (zq2 (zq16 (zq32 [])))) rfl ?_ (St.start h _ hp)
 intro c₀ cs Stop K
 have hO : OkT t := okt_of hc
 have hLl := LK_len t
 refine fsr ?_
 refine rl_box mn (v := .agg #[.slice a1 t.nH c1, .slice a2 t.nW c2, .slice a3 t.m c3]) rfl fun b1 => rl_own (L' := [(b1, .cells #[.slice a1 t.nH c1, .slice a2 t.nW c2, .slice a3 t.m c3] 25 (0, 0))]) rfl ?_
 refine rl_norm (tm' := _::_::_) rfl ?_
 refine ro (exd_assign (v := .slice none 0 0) rfl) <| ro (exd_assign (v := .bool (false)) rfl) <| ren <| rl_start ?_
 refine rl_det mn (fun h_ H_ => exd_loadN_own H_ tA25 tS25 rfl (i := 0) rfl (vs := [.slice a1 t.nH c1, .slice a2 t.nW c2, .slice a3 t.m c3]) rfl rfl) (tm' := zq1 (zq8 _)) rfl ?_
 refine rl_own (L' := ([(b1, .cells #[.slice a1 t.nH c1, .slice a2 t.nW c2, .slice a3 t.m c3] 25 (0, 0))] : Pcs) ++ []) rfl ?_
 refine rl_call mn (first := []) (cap := []) rfl rfl fC43 (R := fun v_ h_ => ∃ w2 : Value, ∃ X3 : Pcs, v_ = .tuple #[w2, .int .i64 0] ∧ (OwnS 3 1 w2 (ics (LK t)) X3) ∧ St h [] p h_ (([(b1, .cells #[.slice a1 t.nH c1, .slice a2 t.nW c2, .slice a3 t.m c3] 25 (0, 0))] : Pcs) ++ (X3 ++ []))) (fun h_ H_ => (lacks_ok md H_.pe (show TownP _ _ _ _ _ _ _ t from ⟨T.h, T.w, T.y⟩) (by omega) N hc).mono fun v_ h2_ ⟨w2, X3, e_, o4, N_⟩ => ⟨w2, X3, e_, o4, H_.callNA N_⟩) fun v_ => ?_
 refine rl_ex fun w2 => rl_ex fun X3 => rl_and fun ev_ => rl_and fun o4 => ?_
 have ev_ := ev_.symm; subst ev_
 refine rl_own (L' := ([(b1, .cells #[.slice a1 t.nH c1, .slice a2 t.nW c2, .slice a3 t.m c3] 25 (0, 0))] : Pcs) ++ (X3 ++ [])) rfl ?_
 refine ro (exd_move (v := .tuple #[w2, .int .i64 0]) rfl) <| rt (exd_extract rfl (v := w2) rfl) (tm' := zq1 (zq2 (zq8 _))) rfl <| ro (exd_extract rfl (v := .int .i64 0) rfl) <| ro (exd_assign (v := w2) rfl) <| rt (exd_assign (v := .int .i64 0) rfl) (tm' := zq2 (zq4 _)) rfl <| ren ?_
 refine fsr <| ro (exd_move (v := .int .i64 0) rfl) <| ro (exd_neq rfl rfl) <| rt (exd_move (v := .bool (decide ((0 : Int) ≠ 0))) rfl) (tm' := zq1 (zq2 (zq4 (zq8 _)))) rfl ?_
 refine rl_det (ms rfl rfl (decide_eq_false (fun z_ => z_ rfl))) (fun h_ H_ => exd_move (v := w2) rfl) rfl ?_
 refine rl_det (ms rfl rfl (decide_eq_false (fun z_ => z_ rfl))) (fun h_ H_ => exd_lenN o4 ((ics_length _).trans (LK_len _)) Tryd.underlying22 rfl) rfl ?_
 refine rl_det (ms rfl rfl (decide_eq_false (fun z_ => z_ rfl))) (fun h_ H_ => exd_fieldAddr tF25_0 rfl (a' := ⟨b1, 0, none⟩) rfl) (tm' := zq2 (zq16 _)) rfl ?_
 refine rl_det (ms rfl rfl (decide_eq_false (fun z_ => z_ rfl))) (fun h_ H_ => exd_load_own H_ tA22 rfl (i := 0) rfl (v := .slice a1 t.nH c1) rfl) rfl ?_
 refine rl_det (ms rfl rfl (decide_eq_false (fun z_ => z_ rfl))) (fun h_ H_ => exd_len Tryd.underlying22 rfl) rfl ?_
 refine rl_det (ms rfl rfl (decide_eq_false (fun z_ => z_ rfl))) (fun h_ H_ => exd_neq rfl rfl) (tm' := zq1 (zq4 (zq16 _))) rfl ?_
 refine ro (exd_pick_f rfl (decide_eq_false (fun z_ => z_ rfl)) (v := .bool (decide (((t.nH : Nat) : Int) ≠ ((t.nH : Nat) : Int)))) rfl) <| rl_end <| fl_else rfl (decide_eq_false (fun z_ => z_ rfl)) <| fl_skip <| fl_seq <| fsr ?_
 refine ro (exd_assign (v := .int .i64 0) rfl) <| rl_end <| fl_block ?_
 refine fl_loop (m₀ := t.nH - 0) (fun m_ tm_ h_ => ∃ (k : Nat), m_ = t.nH - k ∧ (∃ y5 : Nat → Value, tm_ = [.agg #[.slice a1 t.nH c1, .slice a2 t.nW c2, .slice a3 t.m c3], .pointer (some ⟨b1, 0, none⟩), (y5 2), (y5 3), w2, .int .i64 0, .int .i64 (((k : Nat) : Int)), .tuple #[w2, .int .i64 0], .agg #[.slice a1 t.nH c1, .slice a2 t.nW c2, .slice a3 t.m c3], .tuple #[w2, .int .i64 0], w2, .int .i64 0, .int .i64 0, .bool (decide ((0 : Int) ≠ 0)), .bool (decide ((0 : Int) ≠ 0)), w2, .int .i64 (((t.nH : Nat) : Int)), .pointer (some ⟨b1, 0, none⟩), .slice a1 t.nH c1, .int .i64 (((t.nH : Nat) : Int)), .bool (decide (((t.nH : Nat) : Int) ≠ ((t.nH : Nat) : Int))), .bool (decide (((t.nH : Nat) : Int) ≠ ((t.nH : Nat) : Int))), (y5 22), (y5 23), (y5 24), (y5 25), (y5 26), (y5 27), (y5 28), (y5 29), (y5 30), (y5 31), (y5 32), (y5 33), (y5 34), (y5 35), (y5 36), (y5 37), (y5 38), (y5 39), (y5 40), (y5 41), (y5 42), (y5 43), (y5 44), (y5 45), (y5 46), (y5 47), (y5 48), (y5 49), undef]) ∧ (k ≤ t.nH) ∧ St h [] p h_ (([(b1, .cells #[.slice a1 t.nH c1, .slice a2 t.nW c2, .slice a3 t.m c3] 25 (0, 0))] : Pcs) ++ (X3 ++ []))) (fun h_ H_ => ⟨0, rfl, (y_of rfl), Nat.zero_le _, H_⟩) ?_
 intro m_ tm_ IH6
 refine rs_ex fun k => rs_and fun hm_ => rs_and fun ht_ => rs_and fun hk => ?_
 subst hm_; obtain ⟨y5, ht_⟩ := ht_; subst ht_
 refine fl_seq <| fsr <| rt (exd_move (v := .int .i64 (((k : Nat) : Int))) rfl) (tm' := zq1 (zq2 (zq4 (zq16 _)))) rfl <| ro (exd_move (v := w2) rfl) <| ro (exd_lenN o4 ((ics_length _).trans (LK_len _)) Tryd.underlying22 rfl) <| rt (exd_lss rfl rfl) (tm' := zq2 (zq8 (zq16 _))) rfl ?_
 refine rl_end ?_
 by_cases cc7 : ((k : Nat) : Int) < ((t.nH : Nat) : Int)
 ·
  refine fl_then rfl (dtt cc7) <| fl_skip <| fl_seq <| fl_block <| fl_seq ?_
  by_cases cc8 : 0 < ((k : Nat) : Int)
  ·
   refine fl_drawn2 19 [[], [], [0, 1], [0, 1, 2], [0, 1, 2, 3], [0, 1, 2, 3], [0, 1, 2, 3, 4, 5], [0, 1, 2, 3, 4, 5], [0, 1, 2, 3, 4, 5, 7], [0, 1, 2, 3, 4, 5, 6, 7, 8], [], [], [10, 11], [10, 11, 12], [], [0, 1, 2, 3, 4, 5, 6, 7, 8], [0, 1, 2, 3, 4, 5, 6, 7, 8, 15], [0, 1, 2, 3, 4, 5, 6, 7, 8, 14, 15, 16], [0, 1, 2, 3, 4, 5, 6, 7, 8, 14, 15, 16, 17], [0, 1, 2, 3, 4, 5, 7, 8, 10, 11, 12, 13, 14, 15, 16, 17, 18], [0, 1, 2, 3, 4, 5, 7, 8, 9, 10, 11, 12, 13, 14, 15, 16, 17, 18, 19], []] mixed (by kernel_rfl) (Nat.le_of_ble_eq_true rfl) ?_
   refine wo (exd_move (v := w2) rfl) <| wt (exd_move (v := .int .i64 (((k : Nat) : Int))) rfl) (tm' := zq2 (zq4 (zq8 (zq16 _)))) rfl ?_
   refine wo (exd_indexO o4 Tryd.underlying22 tS3 rfl rfl (by rw [((ics_length _).trans (LK_len _))]; first | omega | (simp only [List.length_set]; omega))) ?_
   refine swr_det mn (fun h_ H_ => exd_loadO (A := ([(b1, .cells #[.slice a1 t.nH c1, .slice a2 t.nW c2, .slice a3 t.m c3] 25 (0, 0))] : Pcs)) (i := k) (j := 0) (e := [.int .i64 ((LK t).getD k 0)]) o4 H_ tA3 rfl rfl (ics_at (by first | omega | (rw [leftK_length]; omega) | (simp only [List.length_set]; omega))) (u := .int .i64 ((LK t).getD k 0)) rfl) (tm' := zq32 _) rfl ?_
   refine swr_call mn (first := []) (cap := []) rfl rfl fC61 (fun h_ H_ => (c61 md _ ((LK t).getD k 0) (0) (9)).mono fun v_ h2_ ⟨e_, k_⟩ => ⟨e_, H_.call k_⟩) rfl ?_
   refine wt (exd_not rfl) (tm' := zq2 (zq32 _)) rfl <| wo (exd_move (v := .bool (!(decide (0 ≤ (LK t).getD k 0 ∧ (LK t).getD k 0 ≤ 9)))) rfl) ?_
   refine swr_det (ms rfl rfl (not_f (decide_eq_true (LK_bd hO.toOk (by omega))))) (fun h_ H_ => exd_move (v := .int .i64 (((k : Nat) : Int))) rfl) (tm' := zq1 (zq2 (zq16 (zq32 [])))) rfl ?_
   refine swr_det (ms rfl rfl (not_f (decide_eq_true (LK_bd hO.toOk (by omega))))) (fun h_ H_ => exd_gtr rfl rfl) rfl ?_
   refine swr_det (ms rfl rfl (not_f (decide_eq_true (LK_bd hO.toOk (by omega))))) (fun h_ H_ => exd_move (v := .bool (decide (0 < ((k : Nat) : Int)))) rfl) (tm' := zq1 (zq2 (zq16 (zq32 [])))) rfl ?_
   refine swr_det (ms rfl rfl (dtt cc8)) (fun h_ H_ => exd_move (v := w2) rfl) rfl ?_
   refine swr_det (ms rfl rfl (dtt cc8)) (fun h_ H_ => exd_move (v := .int .i64 (((k : Nat) : Int))) rfl) (tm' := zq1 (zq2 (zq16 (zq32 [])))) rfl ?_
   refine swr_det (ms rfl rfl (dtt cc8)) (fun h_ H_ => exd_indexO o4 Tryd.underlying22 tS3 rfl rfl (by rw [((ics_length _).trans (LK_len _))]; first | omega | (simp only [List.length_set]; omega))) rfl ?_
   refine swr_det (ms rfl rfl (dtt cc8)) (fun h_ H_ => exd_loadO (A := ([(b1, .cells #[.slice a1 t.nH c1, .slice a2 t.nW c2, .slice a3 t.m c3] 25 (0, 0))] : Pcs)) (i := k) (j := 0) (e := [.int .i64 ((LK t).getD k 0)]) o4 H_ tA3 rfl rfl (ics_at (by first | omega | (rw [leftK_length]; omega) | (simp only [List.length_set]; omega))) (u := .int .i64 ((LK t).getD k 0)) rfl) (tm' := zq1 (zq2 (zq16 (zq32 [])))) rfl ?_
   refine swr_det (ms rfl rfl (dtt cc8)) (fun h_ H_ => exd_move (v := w2) rfl) rfl ?_
   refine swr_det (ms rfl rfl (dtt cc8)) (fun h_ H_ => exd_move (v := .int .i64 (((k : Nat) : Int))) rfl) (tm' := zq1 (zq2 (zq16 (zq32 [])))) rfl ?_
   refine swr_det (ms rfl rfl (dtt cc8)) (fun h_ H_ => exd_sub rfl rfl (n := ((k - 1 : Nat) : Int)) (by rw [show ((k : Nat) : Int) - 1 = ((k - 1 : Nat) : Int) from by omega]; exact wr (by omega))) rfl ?_
   refine swr_det (ms rfl rfl (dtt cc8)) (fun h_ H_ => exd_indexO o4 Tryd.underlying22 tS3 rfl rfl (by rw [((ics_length _).trans (LK_len _))]; first | omega | (simp only [List.length_set]; omega))) (tm' := zq1 (zq2 (zq16 (zq32 [])))) rfl ?_
   refine swr_det (ms rfl rfl (dtt cc8)) (fun h_ H_ => exd_loadO (A := ([(b1, .cells #[.slice a1 t.nH c1, .slice a2 t.nW c2, .slice a3 t.m c3] 25 (0, 0))] : Pcs)) (i := k - 1) (j := 0) (e := [.int .i64 ((LK t).getD (k - 1) 0)]) o4 H_ tA3 rfl rfl (ics_at (by first | omega | (rw [leftK_length]; omega) | (simp only [List.length_set]; omega))) (u := .int .i64 ((LK t).getD (k - 1) 0)) rfl) rfl ?_
   refine swr_nil rfl ?_
   refine rl_det (ms rfl rfl (dtt cc8)) (fun h_ H_ => exd_gtr rfl rfl) (tm' := zq1 (zq2 (zq16 (zq32 [])))) rfl ?_
   refine rl_det (ms rfl rfl (not_f (decide_eq_true (LK_bd hO.toOk (by omega))))) (fun h_ H_ => exd_pick_t rfl (dtt cc8) (v := .bool (decide ((LK t).getD (k - 1) 0 < (LK t).getD k 0))) rfl) rfl ?_
   refine ro (exd_pick_f rfl (not_f (decide_eq_true (LK_bd hO.toOk (by omega)))) (v := .bool (decide ((LK t).getD (k - 1) 0 < (LK t).getD k 0))) rfl) ?_
   refine rl_end ?_
   refine fl_else rfl (decide_eq_false (by have z_ := LK_down (t := t) (i := k) (by omega) (by omega); omega)) ?_
   refine fl_skip <| fl_inBlock <| rl_start <| rt (exd_move (v := .int .i64 (((k : Nat) : Int))) rfl) (tm' := zq1 (zq2 (zq8 (zq16 _)))) rfl ?_
   refine ro (exd_add rfl rfl (n := ((k + 1 : Nat) : Int)) (wr (by omega))) ?_
   refine ro (exd_assign (v := .int .i64 (((k + 1 : Nat) : Int))) rfl) <| rl_end ?_
   exact fun h_ H_ => IH6 _ _ (by omega) h_ ⟨k + 1, rfl, (y_of rfl), (by omega), H_⟩
  ·
   refine fl_drawn2 19 [[], [], [0, 1], [0, 1, 2], [0, 1, 2, 3], [0, 1, 2, 3], [0, 1, 2, 3, 4, 5], [0, 1, 2, 3, 4, 5], [0, 1, 2, 3, 4, 5, 7], [0, 1, 2, 3, 4, 5, 6, 7, 8], [], [], [10, 11], [10, 11, 12], [], [0, 1, 2, 3, 4, 5, 6, 7, 8], [0, 1, 2, 3, 4, 5, 6, 7, 8, 15], [0, 1, 2, 3, 4, 5, 6, 7, 8, 14, 15, 16], [0, 1, 2, 3, 4, 5, 6, 7, 8, 14, 15, 16, 17], [0, 1, 2, 3, 4, 5, 7, 8, 10, 11, 12, 13, 14, 15, 16, 17, 18], [0, 1, 2, 3, 4, 5, 7, 8, 9, 10, 11, 12, 13, 14, 15, 16, 17, 18, 19], []] mixed (by kernel_rfl) (Nat.le_of_ble_eq_true rfl) ?_
   refine wt (exd_move (v := w2) rfl) (tm' := zq1 (zq4 (zq8 (zq16 _)))) rfl <| wo (exd_move (v := .int .i64 (((k : Nat) : Int))) rfl) ?_
   refine wt (exd_indexO o4 Tryd.underlying22 tS3 rfl rfl (by rw [((ics_length _).trans (LK_len _))]; first | omega | (simp only [List.length_set]; omega))) (tm' := zq1 (zq2 (zq4 (zq8 (zq16 _))))) rfl ?_
   refine wd (fun h_ H_ => exd_loadO (A := ([(b1, .cells #[.slice a1 t.nH c1, .slice a2 t.nW c2, .slice a3 t.m c3] 25 (0, 0))] : Pcs)) (i := k) (j := 0) (e := [.int .i64 ((LK t).getD k 0)]) o4 H_ tA3 rfl rfl (ics_at (by first | omega | (rw [leftK_length]; omega) | (simp only [List.length_set]; omega))) (u := .int .i64 ((LK t).getD k 0)) rfl) ?_
   refine swr_call mn (first := []) (cap := []) rfl rfl fC61 (fun h_ H_ => (c61 md _ ((LK t).getD k 0) (0) (9)).mono fun v_ h2_ ⟨e_, k_⟩ => ⟨e_, H_.call k_⟩) (tm' := zq1 (zq32 _)) rfl ?_
   refine wo (exd_not rfl) <| wt (exd_move (v := .bool (!(decide (0 ≤ (LK t).getD k 0 ∧ (LK t).getD k 0 ≤ 9)))) rfl) (tm' := zq1 (zq2 (zq16 (zq32 [])))) rfl ?_
   refine swr_det (ms rfl rfl (not_f (decide_eq_true (LK_bd hO.toOk (by omega))))) (fun h_ H_ => exd_move (v := .int .i64 (((k : Nat) : Int))) rfl) rfl ?_
   refine swr_det (ms rfl rfl (not_f (decide_eq_true (LK_bd hO.toOk (by omega))))) (fun h_ H_ => exd_gtr rfl rfl) (tm' := zq1 (zq2 (zq16 (zq32 [])))) rfl ?_
   refine swr_det (ms rfl rfl (not_f (decide_eq_true (LK_bd hO.toOk (by omega))))) (fun h_ H_ => exd_move (v := .bool (decide (0 < ((k : Nat) : Int)))) rfl) rfl ?_
   refine swr_pass (mo rfl rfl (dff cc8)) (tm' := zq1 (zq2 (zq16 (zq32 [])))) rfl <| wp (mo rfl rfl (dff cc8)) <| swr_pass (mo rfl rfl (dff cc8)) (tm' := zq1 (zq2 (zq16 (zq32 [])))) rfl <| wp (mo rfl rfl (dff cc8)) <| swr_pass (mo rfl rfl (dff cc8)) (tm' := zq1 (zq2 (zq16 (zq32 [])))) rfl <| wp (mo rfl rfl (dff cc8)) ?_
   refine swr_pass (mo rfl rfl (dff cc8)) (tm' := zq1 (zq2 (zq16 (zq32 [])))) rfl <| wp (mo rfl rfl (dff cc8)) <| swr_pass (mo rfl rfl (dff cc8)) (tm' := zq1 (zq2 (zq16 (zq32 [])))) rfl ?_
   refine swr_nil rfl ?_
   refine rp (mo rfl rfl (dff cc8)) ?_
   refine rl_det (ms rfl rfl (not_f (decide_eq_true (LK_bd hO.toOk (by omega))))) (fun h_ H_ => exd_pick_f rfl (dff cc8) (v := .bool (false)) rfl) rfl ?_
   refine rt (exd_pick_f rfl (not_f (decide_eq_true (LK_bd hO.toOk (by omega)))) (v := .bool (false)) rfl) (tm' := zq1 (zq2 (zq16 (zq32 [])))) rfl ?_
   refine rl_end <| fl_else rfl rfl <| fl_skip <| fl_inBlock <| rl_start <| ro (exd_move (v := .int .i64 (((k : Nat) : Int))) rfl) ?_
   refine ro (exd_add rfl rfl (n := ((k + 1 : Nat) : Int)) (wr (by omega))) ?_
   refine rt (exd_assign (v := .int .i64 (((k + 1 : Nat) : Int))) rfl) (tm' := zq1 (zq2 (zq4 _))) rfl <| rl_end ?_
   exact fun h_ H_ => IH6 _ _ (by omega) h_ ⟨k + 1, rfl, (y_of rfl), (by omega), H_⟩
 ·
  refine fl_else rfl (dff cc7) <| fl_exit rfl <| fsr <| ro (exd_move (v := w2) rfl) <| ro (exd_assign (v := w2) rfl) <| rt (exd_assign (v := .bool (true)) rfl) (tm' := zq4 _) rfl ?_
  refine rl_end ?_
  refine fl_ret Tryd.func24 rfl (vs := [w2, .bool (true)]) (fun h_ H_ => ⟨w2, _, rfl, rfl, ⟨.bool (true), _, rfl, rfl, rfl⟩⟩) (v := .tuple #[w2, .bool (true)]) rfl ?_
  exact fun h_ H_ => K _ _ ⟨_, _, rfl, o4, ((H_.dropA).sub (List.sublist_append_left _ _)).new⟩
end Go.Proofs.YtalfgojocdonhaaDoor
namespace Go.X
open Go.Conc Go.RowKit

/-- It stands at its last return. -/
def AtFin (P : Program) (v : Value) (g : Goroutine) : Prop := g.status = .running ∧ ∀ w : World, stepG P true g w = .ended (.done v) w #[]
def StopE (P : Program) (R : Value → Heap → Prop) (g : Goroutine) (h : Heap) : Prop := ∃ v, AtFin P v g ∧ R v h
/-- The contract of the function that is called first. -/
def EntersX (P : Program) (md : Md) (f : FuncId) (args : Array Value) (h : Heap) (R : Value → Heap → Prop) : Prop := Reach P md (G (Frame.enter P f args .normal) []) h (StopE P R)

section
variable {P : Program} {md : Md} {f : FuncId} {h : Heap} {Φ : Heap → Prop} {tm : List Value} {k : List Item} {R : Value → Heap → Prop}

end

/-! ### the run -/
def nilO : Obj → Obj
  | .cells c e f => if c.size = 0 then .cells #[] 0 (0, 0) else .cells c e f
  | o => o
/-- The heap as the call sees it: blocks without cells are dead. -/
def nilV (r : Heap) : Heap := r.map nilO
def Empty (r : Heap) (b : Nat) : Prop := ∃ e f, r[b]? = some (.cells #[] e f)
section
variable {P : Program} {f : FuncId} {args : Array Value} {w : World} {R : Value → Heap → Prop}
end
end Go.X
namespace Go.X
open Go.Conc Go.RowKit Go.ChangeShapes Go.WideShapes Go.ChangeAt

/-- Memory as the call finds it. -/
def vwP (W : World) : PHeap := fun b => (nilV W.heap)[b]?
theorem mapM_get {f : Nat → Option Value} : ∀ {l : List Nat} {r : List Value}, l.mapM f = some r → r.length = l.length ∧ ∀ (j : Nat) (x : Value), r[j]? = some x → ∃ i, l[j]? = some i ∧ f i = some x
  | [], r, h => by simp at h; subst h; simp
  | i :: l, r, h => by
    simp only [List.mapM_cons, Option.bind_eq_bind, Option.bind_eq_some_iff] at h
    obtain ⟨y, hy, ys, hys, e⟩ := h
    obtain rfl : y :: ys = r := by simpa using e
    obtain ⟨h1, h2⟩ := mapM_get hys
    refine ⟨by simp [h1], fun j x hx => ?_⟩
    cases j with
    | zero => simp at hx; subst hx; exact ⟨i, rfl, hy⟩
    | succ j => exact h2 j x (by simpa using hx)

theorem cells_get {W : World} {a : Addr} {n : Nat} {cs : List Value} (h : W.cells? 0 a n = some cs) : cs.length = n ∧ ∀ (j : Nat) (x : Value), cs[j]? = some x → W.cell? (a.add j) = some x := by
  unfold World.cells? at h
  rw [if_pos (Nat.zero_le _)] at h
  obtain ⟨h1, h2⟩ := mapM_get h
  refine ⟨by simpa using h1, fun j x hx => ?_⟩
  obtain ⟨i, hi, hf⟩ := h2 j x hx
  obtain ⟨_, rfl⟩ : j < n ∧ j = i := by simpa [List.getElem?_range'] using List.getElem?_eq_some_iff.1 hi
  exact hf

theorem sl_nil (p : PHeap) (w : Nat) : Sl p none 0 w [] := ⟨rfl, by simp, fun h => absurd h (by omega), fun i e he => by simp at he⟩

section
variable {H : Type} {enc : TypeId × Value → H} {P : Program} {W : World}
theorem trod_i64 {t : TypeId} {m : Nat} {cs : List Value} {y : DataW H × List MemPlace} (ht : P.underlying t = some (.int .i64)) (h : DataW.trod enc P W 0 (fun _ => true) true m t cs = some y) : ∃ n : Int, cs = [.int .i64 n] := by
  obtain ⟨n, e, _, _⟩ := DataW.trod_int ht h
  exact ⟨n, e⟩
theorem trodAll_below (hl : laidOutB P = true) {W' : World} (hB : Below W.heap.size W W') : ∀ {ts : List TypeId} {vs : List Value} {ds : List (DataW H)} {ps : List MemPlace}, (∀ t ∈ ts, P.readableRec t = true ∧ t < P.types.size) → (∀ x ∈ ps, x.block < W.heap.size) →
    DataW.TrodAll enc P W 0 (fun _ => true) true ts vs ds ps → DataW.TrodAll enc P W' 0 (fun b => decide (b < W.heap.size)) true ts vs ds ps
  | [], [], [], _, _, _, h => h
  | _ :: _, [], _, _, _, _, h => by cases h
  | [], _ :: _, _, _, _, _, h => by cases h
  | [], [], _ :: _, _, _, _, h => by cases h
  | _ :: _, _ :: _, [], _, _, _, h => by cases h
  | t :: ts, v :: vs, d :: ds, ps, hr, hlt, ⟨p, q, h1, h2, e⟩ => by
    subst e
    exact ⟨p, q, Below.trod hl (hr t (by simp)).1 (hr t (by simp)).2 h1 hB (fun x hx => hlt x (by simp [hx])), trodAll_below hl hB (fun t' ht' => hr t' (by simp [ht'])) (fun x hx => hlt x (by simp [hx])) h2, rfl⟩

/-- A law's row: it returned true, and all old memory stands. -/
theorem law_post {fn : Func} {s : ChangeSpec} {W' : World} {args : Array Value} {ds gs : List (DataW H)} {before : List MemPlace} {fresh handsOn : Bool} {tb : TypeId} (hl : laidOutB P = true) (hvars : s.vars = [])
    (hts : ∀ t ∈ fn.params.toList, P.readableRec t = true ∧ t < P.types.size) (hrt : fn.resultTypes = #[tb]) (hub : P.underlying tb = some .bool) (hW : DataW.Whole enc P fn.params.toList s.vars false W args.toList ds gs before)
    (hs : s.fn H (ds ++ gs) = { results := [.lit (.bool true)], args := ds }) (hB : Below W.heap.size W W') : s.post enc P fn false fresh handsOn false W args (.bool true) W' := by
  have hW' := hW
  obtain ⟨p, q, hA, hV, rfl, _, _⟩ := hW
  rw [hvars] at hV
  obtain rfl : q = [] := by
    cases gs with
    | nil => exact hV
    | cons _ _ => exact hV.elim
  refine ⟨ds, gs, p ++ [], [], p, [], hW', ?_, ?_, ?_, hB.frame _, fun h => by cases h⟩
  · rw [hs, hrt]
    exact ⟨[], [], ⟨1, by simp [DataW.trod, hub, Value.cells]⟩, rfl, rfl⟩
  · rw [hs]
    exact trodAll_below hl hB hts (fun x hx => hW'.lt x (by simp [hx])) hA
  · rw [hs, hvars]; rfl
end
end Go.X
namespace Go.X
open Go.Conc Go.RowKit

section
variable {P : Program} {f : FuncId} {args : Array Value} {h : Heap} {w : World} {R : Value → Heap → Prop}

/-- It stands at its return. -/
def StopL (P : Program) (f : FuncId) (cs : List Frame) (R : Value → Heap → Prop) (g : Goroutine) (h : Heap) : Prop :=
  ∃ fr v, g = G fr cs ∧ fr.fn = f ∧ (∀ w, fr.leaving P w (.returned v)) ∧ R v h
def EntersL (P : Program) (f : FuncId) (args : Array Value) (h : Heap) (R : Value → Heap → Prop) : Prop := ∀ cs, Reach P .lone (G (Frame.enter P f args .normal) cs) h (StopL P f cs R)

theorem calls_of_enters (x : EntersL P f args w.heap R) : Calls P f args w fun e w' => ∃ v, e = .returned v ∧ R v w'.heap ∧ Calm w w' := by
  intro cs
  obtain ⟨g', w', a, ⟨fr, v, rfl, hf, hl, hR⟩, c⟩ := x cs w rfl
  exact ⟨.returned v, w', fr, ⟨v, rfl, hR, c⟩, a, hf, hl w'⟩

theorem enters_introL {Φ : Heap → Prop} {tm : List Value} {fn : Func} {c : Code} (hf : P.funcs[f]? = some fn) (hb : fn.body = some c) (ht : args.toList ++ List.replicate (fn.ntmps - args.size) undef = tm)
    (x : ∀ cs, RS P .lone (G (FL f .none tm [] [.code c]) cs) Φ (StopL P f cs R)) (h0 : Φ h) : EntersL P f args h R := by
  intro cs
  have := x cs h h0
  have e : Frame.enter P f args .normal = FL f .none tm [] [.code c] := by
    unfold Frame.enter
    simp only [hf, hb, Option.map_some, Option.bind_some, Option.getD_some, FL, F, B, ← ht]
    simp [Rd.kind, Rd.round]
  rw [e]; exact this

theorem fl_retL {Φ : Heap → Prop} [Stb Φ] {cs : List Frame} {tm : List Value} {k : List Item} {fn : Func} {t : Nat} {vs : List Value} {v : Value} (hf : P.funcs[f]? = some fn) (hr : fn.results = #[.tmp t]) (e : ∀ h, Φ h → Res P h tm [.tmp t] vs) (hv : packs vs = v)
    (x : ∀ h, Φ h → R v h) : RS P .lone (G (FL f .none tm [] (.code .ret :: k)) cs) Φ (StopL P f cs R) :=
  rs_ret (hro := rfl) fun _ => fun h y => reach_stop (by
    obtain ⟨v', vs', rfl, h1, h2⟩ := e h y
    obtain rfl : vs' = [] := h2
    subst hv
    refine ⟨_, v', rfl, rfl, fun w => ⟨rfl, rfl, rfl, fn, hf, ?_⟩, x h y⟩
    unfold results
    simp only [hr, FR, B, ← h1]
    simp)
end
end Go.X
