/-
  Part of proofs about cisterns, beside goroutines that are only leaving. No condition.
-/
import Derived.Test.YtbmkacnlhlbnjaaC1
import Derived.Conc.WgGenN3
namespace Go.X
open Go.Conc Go.RowKit Go.Conc.Lib Go.ConcR.Gen Go.ConcN.Gen
open Go.ConcR (KK wgBlock WgAt stA smA rd wr mk DC0)
open Go.ConcN (WgLive st_flag st_waiters)
open Go.ConcN.Gen

section
variable {L : WgLink} {Wg : Nat} {b₀ : Frame} {a₀ : Act} {ops₀ : Array Oper} {i₀ : Nat} {rest₀ : List Nat} {k₀ : List Item} {cs : List Frame}
set_option maxRecDepth 100000 in
set_option maxHeartbeats 8000000 in
/-- Add(1), in whatever company. -/
theorem add_way {P : Program} (H : WgLib P L) (w : World) (hF : WgLive L.tWg Wg w) :
    ∃ m, Goes P true (RLv L.tWg Wg) DC0 (AtKdS P L.tWg Wg (G (b₀.at (a₀.put ((ops₀[i₀]?).bind (·.dst)) (.tuple #[])) (.inRegion ops₀ rest₀ :: k₀)) cs)) m (G ((base L.add).at ⟨#[.pointer (some ⟨Wg, 0, none⟩), .int .i64 1, undef, undef, undef, undef, undef, undef, undef, undef, undef, undef, undef, undef, undef, undef, undef, undef, undef, undef, undef, undef, undef, undef, undef, undef, undef, undef, undef, undef, undef, undef, undef, undef, undef, undef, undef, undef, undef, undef, undef, undef, undef, undef, undef, undef, undef, undef, undef, undef, undef, undef, undef, undef, undef, undef, undef, undef, undef, undef, undef, undef, undef, undef, undef, undef, undef, undef, undef, undef, undef, undef, undef, undef, undef, undef, undef, undef, undef, undef, undef, undef, undef, undef, undef, undef, undef, undef, undef, undef, undef, undef, undef, undef, undef, undef, undef, undef, undef, undef, undef, undef, undef, undef, undef, undef, undef, undef, undef, undef, undef, undef, undef, undef, undef, undef, undef], []⟩ [.code (body_add L)]) (b₀.at a₀ (.inRegion ops₀ (i₀ :: rest₀) :: k₀) :: cs)) w := by
  lib_facts
  simp only [body_add, addFn, Option.getD_some]
  refine ⟨30, ?_⟩
  u_c stepG_seq lv_rely hF
  u_cond true lv_rely hF
  u_c stepG_seq lv_rely hF
  u_c stepG_seq lv_rely hF
  u_reg lv_rely hF
  u_op lv_rely hF
  u_op lv_rely hF
  u_c stepG_region_end lv_rely hF
  u_cond false lv_rely hF
  u_c stepG_skip lv_rely hF
  u_c stepG_seq lv_rely hF
  u_reg lv_rely hF
  refine Goes.stop (fun w1 h1 => ?_)
  replace hF := lv_rely hF h1
  clear h1
  refine ⟨rfl, _, stepG_mark0 .disable (by simp) rfl rfl (by k_ne) rfl H.f_disable (x_disable_n L) (x_disable_b L) (x_disable_x L) (x_disable_f L), 60, ?_⟩
  walk_nrm
  u_c stepG_region_end lv_rely hF
  u_reg lv_rely hF
  u_defer lv_rely hF
  u_c stepG_region_end lv_rely hF
  u_c stepG_seq lv_rely hF
  u_reg lv_rely hF
  u_op lv_rely hF
  u_c stepG_region_end lv_rely hF
  u_c stepG_seq lv_rely hF
  u_c stepG_seq lv_rely hF
  u_reg lv_rely hF
  u_bub lv_rely hF
  u_c stepG_region_end lv_rely hF
  u_cond false lv_rely hF
  u_c stepG_skip lv_rely hF
  u_c stepG_seq lv_rely hF
  u_reg lv_rely hF
  u_op lv_rely hF
  u_op lv_rely hF
  u_op lv_rely hF
  u_op lv_rely hF
  u_op lv_rely hF
  u_op lv_rely hF
  u_call H.f_uAdd (nm_uAdd L) uAddFn lv_rely hF
  u_c stepG_seq lv_rely hF
  u_reg lv_rely hF
  u_op lv_rely hF
  u_c stepG_region_end lv_rely hF
  u_c stepG_seq lv_rely hF
  u_reg lv_rely hF
  u_op lv_rely hF
  u_op lv_rely hF
  u_op lv_rely hF
  u_op lv_rely hF
  refine Goes.stop (fun w2 h2 => ?_)
  replace hF := lv_rely hF h2
  clear h2
  refine ⟨rfl, fun v hv hw => ?_⟩
  rcases Nat.eq_zero_or_pos v with rfl | hvp
  · replace hw : WgAt L.tWg Wg w2 0 0 := by simpa using hw
    have z : (((0 : Nat) : Int) + 1) * KK = KK := by simp
    rw [z]
    have e0 : IntKind.u64.wrap (0 + 4294967296) = KK := by decide
    refine ⟨_, (stepG_add_atomic rfl rfl (by k_ne) rfl H.f_addU64 (x_addU64_n L) (x_addU64_b L) (x_addU64_x L) .u64 (x_addU64_f L) rfl rfl hw.cellSt (hw.thaw 0)).trans (by rw [e0]; rfl), fun _ => ⟨110, ?_⟩, fun h => absurd rfl h⟩
    replace hF : WgLive L.tWg Wg (w2.setCell (stA Wg) (.int .u64 KK)) := ⟨_, _, hw.setSt _⟩
    clear hw
    simp only [KK] at hF ⊢
    walk_nrm
    u_op lv_rely hF
    u_c stepG_region_end lv_rely hF
    u_c stepG_ret' lv_rely hF
    u_leave1 H.f_uAdd lv_rely hF
    u_op lv_rely hF
    u_c stepG_region_end lv_rely hF
    u_c stepG_seq lv_rely hF
    u_c stepG_seq lv_rely hF
    u_reg lv_rely hF
    u_op lv_rely hF
    u_op lv_rely hF
    u_op lv_rely hF
    u_op lv_rely hF
    u_skip lv_rely hF
    u_skip lv_rely hF
    u_op lv_rely hF
    u_c stepG_region_end lv_rely hF
    u_cond false lv_rely hF
    u_c stepG_skip lv_rely hF
    u_c stepG_seq lv_rely hF
    u_reg lv_rely hF
    u_op lv_rely hF
    u_op lv_rely hF
    u_op lv_rely hF
    u_op lv_rely hF
    u_c stepG_region_end lv_rely hF
    u_c stepG_seq lv_rely hF
    u_reg lv_rely hF
    u_op lv_rely hF
    u_op lv_rely hF
    u_op lv_rely hF
    u_op lv_rely hF
    u_c stepG_region_end lv_rely hF
    u_c stepG_seq lv_rely hF
    u_c stepG_seq lv_rely hF
    u_reg lv_rely hF
    u_op lv_rely hF
    u_op lv_rely hF
    u_op lv_rely hF
    u_op lv_rely hF
    u_op lv_rely hF
    u_op lv_rely hF
    u_op lv_rely hF
    u_op lv_rely hF
    u_op lv_rely hF
    u_op lv_rely hF
    u_c stepG_region_end lv_rely hF
    u_cond true lv_rely hF
    u_reg lv_rely hF
    u_op lv_rely hF
    u_op lv_rely hF
    u_op lv_rely hF
    u_conv H.underlying_tPU32 H.room_tU32 (WgLive.cell1 hF).choose_spec lv_rely hF
    refine Goes.stop (fun w3 h3 => ?_)
    replace hF := lv_rely hF h3
    clear h3
    refine ⟨rfl, _, stepG_markAt .read (by simp) rfl rfl (by k_ne) rfl H.f_raceRead (x_raceRead_n L) (x_raceRead_b L) (x_raceRead_x L) (x_raceRead_f L) (by simp [Act.eval, smA]), 110, ?_⟩
    walk_nrm
    u_c stepG_region_end lv_rely hF
    u_c stepG_seq lv_rely hF
    u_c stepG_seq lv_rely hF
    u_reg lv_rely hF
    u_op lv_rely hF
    u_op lv_rely hF
    u_c stepG_region_end lv_rely hF
    u_cond false lv_rely hF
    u_c stepG_skip lv_rely hF
    u_c stepG_seq lv_rely hF
    u_c stepG_seq lv_rely hF
    u_reg lv_rely hF
    u_op lv_rely hF
    u_op lv_rely hF
    u_op lv_rely hF
    u_skip lv_rely hF
    u_skip lv_rely hF
    u_op lv_rely hF
    u_op lv_rely hF
    u_skip lv_rely hF
    u_skip lv_rely hF
    u_skip lv_rely hF
    u_skip lv_rely hF
    u_op lv_rely hF
    u_c stepG_region_end lv_rely hF
    u_cond false lv_rely hF
    u_c stepG_skip lv_rely hF
    u_c stepG_seq lv_rely hF
    u_c stepG_seq lv_rely hF
    u_reg lv_rely hF
    u_op lv_rely hF
    u_op lv_rely hF
    u_op lv_rely hF
    u_skip lv_rely hF
    u_skip lv_rely hF
    u_op lv_rely hF
    u_c stepG_region_end lv_rely hF
    u_cond true lv_rely hF
    u_c stepG_ret' lv_rely hF
    refine Goes.stop (fun w4 h4 => ?_)
    replace hF := lv_rely hF h4
    clear h4
    refine ⟨rfl, _, stepG_unwind_entry (v := .tuple #[]) (evs := #[mk .enable]) rfl H.f_enable (x_enable_n L) (x_enable_b L) (x_enable_x L) (x_enable_f L) (by simp [Extern.Race.none_]) (by simp [mk]) (by simp [mk]), 4, ?_⟩
    u_leave0 H.f_add lv_rely hF
    exact Goes.stop fun w5 h5 => ⟨rfl, lv_rely hF h5⟩
  · obtain ⟨V, hV⟩ : ∃ V : Int, V = (v : Int) + 1 := ⟨_, rfl⟩
    obtain ⟨S, hS⟩ : ∃ S : Int, S = V * KK := ⟨_, rfl⟩
    have eS : IntKind.u64.wrap ((v : Int) * KK + 4294967296) = S := by rw [IntKind.wrap_u64, hS, hV]; simp only [KK]; omega
    rw [← hV, ← hS]
    have a1 : S / 4294967296 = V := by rw [hS]; simp only [KK]; omega
    have b1 : bits .and .u64 S 2147483648 = 0 := by rw [hS, hV]; have := st_flag (v + 1) 0 (by omega) (by omega); simpa [KK] using this
    have b2 : bits .and .u64 S 2147483647 = 0 := by rw [hS, hV]; have := st_waiters (v + 1) 0 (by omega) (by omega); simpa [KK] using this
    have c1 : IntKind.i32.wrap V = V := by rw [IntKind.wrap_i32]; omega
    have hV1 : 1 < V := by omega
    have hV2 : V < 2147483648 := by omega
    have q1 : (V == 1) = false := by simp; omega
    have q2 : decide (V = 1) = false := decide_eq_false (by omega)
    have q3 : decide (V < 0) = false := decide_eq_false (by omega)
    have q4 : decide (0 < V) = true := decide_eq_true (by omega)
    have q5 : (V == 0) = false := by simp; omega
    have q6 : decide (V = 0) = false := decide_eq_false (by omega)
    refine ⟨_, (stepG_add_atomic rfl rfl (by k_ne) rfl H.f_addU64 (x_addU64_n L) (x_addU64_b L) (x_addU64_x L) .u64 (x_addU64_f L) rfl rfl hw.cellSt (hw.thaw 0)).trans (by rw [eS]; rfl), fun h => absurd h (by omega), fun _ => ⟨110, ?_⟩⟩
    replace hF : WgLive L.tWg Wg (w2.setCell (stA Wg) (.int .u64 S)) := ⟨_, _, hw.setSt _⟩
    clear hw hS hV eS
    walk_nrm
    u_op lv_rely hF
    u_c stepG_region_end lv_rely hF
    u_c stepG_ret' lv_rely hF
    u_leave1 H.f_uAdd lv_rely hF
    u_op lv_rely hF
    u_c stepG_region_end lv_rely hF
    u_c stepG_seq lv_rely hF
    u_c stepG_seq lv_rely hF
    u_reg lv_rely hF
    u_op lv_rely hF
    u_op lv_rely hF
    u_op lv_rely hF
    u_op lv_rely hF
    u_skip lv_rely hF
    u_skip lv_rely hF
    u_op lv_rely hF
    u_c stepG_region_end lv_rely hF
    u_cnd false lv_rely hF
    u_c stepG_skip lv_rely hF
    u_c stepG_seq lv_rely hF
    u_reg lv_rely hF
    u_op lv_rely hF
    u_op lv_rely hF
    u_op lv_rely hF
    u_op lv_rely hF
    u_c stepG_region_end lv_rely hF
    u_c stepG_seq lv_rely hF
    u_reg lv_rely hF
    u_op lv_rely hF
    u_op lv_rely hF
    u_op lv_rely hF
    u_op lv_rely hF
    u_c stepG_region_end lv_rely hF
    u_c stepG_seq lv_rely hF
    u_c stepG_seq lv_rely hF
    u_reg lv_rely hF
    u_op lv_rely hF
    u_op lv_rely hF
    u_op lv_rely hF
    u_op lv_rely hF
    u_op lv_rely hF
    u_op lv_rely hF
    u_op lv_rely hF
    u_op lv_rely hF
    u_op lv_rely hF
    u_op lv_rely hF
    u_c stepG_region_end lv_rely hF
    u_cnd false lv_rely hF
    u_c stepG_skip lv_rely hF
    u_c stepG_seq lv_rely hF
    u_c stepG_seq lv_rely hF
    u_reg lv_rely hF
    u_op lv_rely hF
    u_op lv_rely hF
    u_c stepG_region_end lv_rely hF
    u_cnd false lv_rely hF
    u_c stepG_skip lv_rely hF
    u_c stepG_seq lv_rely hF
    u_c stepG_seq lv_rely hF
    u_reg lv_rely hF
    u_op lv_rely hF
    u_op lv_rely hF
    u_op lv_rely hF
    u_skip lv_rely hF
    u_skip lv_rely hF
    u_op lv_rely hF
    u_op lv_rely hF
    u_skip lv_rely hF
    u_skip lv_rely hF
    u_skip lv_rely hF
    u_skip lv_rely hF
    u_op lv_rely hF
    u_c stepG_region_end lv_rely hF
    u_cnd false lv_rely hF
    u_c stepG_skip lv_rely hF
    u_c stepG_seq lv_rely hF
    u_c stepG_seq lv_rely hF
    u_reg lv_rely hF
    u_op lv_rely hF
    u_op lv_rely hF
    u_op lv_rely hF
    u_skip lv_rely hF
    u_skip lv_rely hF
    u_op lv_rely hF
    u_c stepG_region_end lv_rely hF
    u_cnd true lv_rely hF
    u_c stepG_ret' lv_rely hF
    refine Goes.stop (fun w3 h3 => ?_)
    replace hF := lv_rely hF h3
    clear h3
    refine ⟨rfl, _, stepG_unwind_entry (v := .tuple #[]) (evs := #[mk .enable]) rfl H.f_enable (x_enable_n L) (x_enable_b L) (x_enable_x L) (x_enable_f L) (by simp [Extern.Race.none_]) (by simp [mk]) (by simp [mk]), 4, ?_⟩
    u_leave0 H.f_add lv_rely hF
    exact Goes.stop fun w5 h5 => ⟨rfl, lv_rely hF h5⟩
end
end Go.X
namespace Go.X
open Go.Conc Go.RowKit Go.Conc.Lib Go.ConcR.Gen Go.ConcN.Gen
open Go.ConcR (KK wgBlock WgAt stA smA rd wr mk DC0)
open Go.ConcN (WgLive st_flag st_waiters)
open Go.ConcN.Gen

section
variable {L : WgLink} {Wg : Nat} {b₀ : Frame} {a₀ : Act} {ops₀ : Array Oper} {i₀ : Nat} {rest₀ : List Nat} {k₀ : List Item} {cs : List Frame}
set_option maxRecDepth 100000 in
set_option maxHeartbeats 8000000 in
/-- Into Wait: to the head of its loop. -/
theorem wait_start {P : Program} (H : WgLib P L) (w : World) (hF : WgLive L.tWg Wg w) :
    ∃ m, Goes P true (RLv L.tWg Wg) DC0 (AtKd P L.tWg Wg (AnchX L Wg (b₀.at a₀ (.inRegion ops₀ (i₀ :: rest₀) :: k₀)) cs)) m (G ((base L.wait).at ⟨#[.pointer (some ⟨Wg, 0, none⟩), undef, undef, undef, undef, undef, undef, undef, undef, undef, undef, undef, undef, undef, undef, undef, undef, undef, undef, undef, undef, undef, undef, undef, undef, undef, undef, undef, undef, undef, undef, undef, undef, undef, undef, undef, undef, undef, undef, undef, undef, undef, undef, undef, undef, undef, undef, undef, undef, undef, undef, undef, undef, undef, undef, undef, undef, undef, undef, undef, undef, undef, undef, undef, undef, undef, undef, undef, undef, undef, undef, undef, undef, undef, undef, undef, undef, undef, undef, undef, undef, undef, undef, undef], []⟩ [.code (body_wait L)]) (b₀.at a₀ (.inRegion ops₀ (i₀ :: rest₀) :: k₀) :: cs)) w := by
  lib_facts
  simp only [body_wait, waitFn, Option.getD_some]
  refine ⟨9, ?_⟩
  u_c stepG_seq lv_rely hF
  u_cond true lv_rely hF
  u_reg lv_rely hF
  refine Goes.stop (fun w1 h1 => ?_)
  replace hF := lv_rely hF h1
  clear h1
  refine ⟨rfl, _, stepG_mark0 .disable (by simp) rfl rfl (by k_ne) rfl H.f_disable (x_disable_n L) (x_disable_b L) (x_disable_x L) (x_disable_f L), 9, ?_⟩
  walk_nrm
  u_c stepG_region_end lv_rely hF
  u_c stepG_block lv_rely hF
  u_c stepG_loop lv_rely hF
  exact Goes.stop (fun w2 h2 => ⟨_, rfl, by simp, by simp, lv_rely hF h2⟩)
set_option maxRecDepth 100000 in
set_option maxHeartbeats 8000000 in
/-- Once round the loop of Wait. -/
theorem wait_round {P : Program} (H : WgLib P L) (g : Goroutine) (w : World) (h : AnchX L Wg (b₀.at a₀ (.inRegion ops₀ (i₀ :: rest₀) :: k₀)) cs g w) :
    ∃ m, Goes P true (RLv L.tWg Wg) DC0 (AtW1 P L.tWg Wg (G (b₀.at (a₀.put ((ops₀[i₀]?).bind (·.dst)) (.tuple #[])) (.inRegion ops₀ rest₀ :: k₀)) cs) (AnchX L Wg (b₀.at a₀ (.inRegion ops₀ (i₀ :: rest₀) :: k₀)) cs)) m g w := by
  lib_facts
  obtain ⟨T, rfl, hT84, t0, hF⟩ := h
  obtain ⟨v0, v1, v2, v3, v4, v5, v6, v7, v8, v9, v10, v11, v12, v13, v14, v15, v16, v17, v18, v19, v20, v21, v22, v23, v24, v25, v26, v27, v28, v29, v30, v31, v32, v33, v34, v35, v36, v37, v38, v39, v40, v41, v42, v43, v44, v45, v46, v47, v48, v49, v50, v51, v52, v53, v54, v55, v56, v57, v58, v59, v60, v61, v62, v63, v64, v65, v66, v67, v68, v69, v70, v71, v72, v73, v74, v75, v76, v77, v78, v79, v80, v81, v82, v83, rfl⟩ := Go.ConcR.Gen.array84 T hT84
  simp only [List.getElem?_toArray, List.getElem?_cons_zero, Option.some.injEq] at t0
  subst t0
  refine ⟨30, ?_⟩
  simp only [L7, body_wait, waitFn, Option.getD_some]
  u_c stepG_block lv_rely hF
  u_c stepG_seq lv_rely hF
  u_reg lv_rely hF
  u_op lv_rely hF
  u_op lv_rely hF
  u_op lv_rely hF
  u_call H.f_uLoad (nm_uLoad L) uLoadFn lv_rely hF
  u_c stepG_seq lv_rely hF
  u_reg lv_rely hF
  u_op lv_rely hF
  u_c stepG_region_end lv_rely hF
  u_c stepG_seq lv_rely hF
  u_reg lv_rely hF
  u_op lv_rely hF
  u_op lv_rely hF
  u_op lv_rely hF
  refine Goes.stop (fun w1 h1 => ?_)
  replace hF := lv_rely hF h1
  clear h1
  refine ⟨rfl, fun v hv hw => ?_⟩
  rcases Nat.eq_zero_or_pos v with rfl | hvp
  · replace hw : WgAt L.tWg Wg w1 0 0 := by simpa using hw
    refine ⟨_, stepG_load_atomic (v := 0) rfl rfl (by k_ne) rfl H.f_loadU64 (x_loadU64_n L) (x_loadU64_b L) (x_loadU64_x L) .u64 (x_loadU64_f L) rfl hw.cellSt, fun _ => ⟨60, ?_⟩, fun h => absurd rfl h⟩
    clear hw
    walk_nrm
    u_op lv_rely hF
    u_c stepG_region_end lv_rely hF
    u_c stepG_ret' lv_rely hF
    u_leave1 H.f_uLoad lv_rely hF
    u_op lv_rely hF
    u_c stepG_region_end lv_rely hF
    u_c stepG_seq lv_rely hF
    u_reg lv_rely hF
    u_op lv_rely hF
    u_op lv_rely hF
    u_op lv_rely hF
    u_op lv_rely hF
    u_c stepG_region_end lv_rely hF
    u_c stepG_seq lv_rely hF
    u_reg lv_rely hF
    u_op lv_rely hF
    u_op lv_rely hF
    u_op lv_rely hF
    u_op lv_rely hF
    u_c stepG_region_end lv_rely hF
    u_c stepG_seq lv_rely hF
    u_c stepG_seq lv_rely hF
    u_reg lv_rely hF
    u_op lv_rely hF
    u_op lv_rely hF
    u_c stepG_region_end lv_rely hF
    u_cond true lv_rely hF
    u_c stepG_seq lv_rely hF
    u_cond true lv_rely hF
    u_c stepG_seq lv_rely hF
    u_reg lv_rely hF
    refine Goes.stop (fun w2 h2 => ?_)
    replace hF := lv_rely hF h2
    clear h2
    refine ⟨rfl, _, stepG_mark0 .enable (by simp) rfl rfl (by k_ne) rfl H.f_enable (x_enable_n L) (x_enable_b L) (x_enable_x L) (x_enable_f L), 12, ?_⟩
    walk_nrm
    u_c stepG_region_end lv_rely hF
    u_reg lv_rely hF
    u_op lv_rely hF
    u_conv H.underlying_tWgP H.room_tWg (WgLive.cell0 hF).choose_spec lv_rely hF
    refine Goes.stop (fun w3 h3 => ?_)
    replace hF := lv_rely hF h3
    clear h3
    refine ⟨rfl, _, stepG_markAt .acquire (by simp) rfl rfl (by k_ne) rfl H.f_acquire (x_acquire_n L) (x_acquire_b L) (x_acquire_x L) (x_acquire_f L) (by simp [Act.eval, stA]), 30, ?_⟩
    walk_nrm
    u_c stepG_region_end lv_rely hF
    u_c stepG_seq lv_rely hF
    u_c stepG_seq lv_rely hF
    u_reg lv_rely hF
    u_op lv_rely hF
    u_op lv_rely hF
    u_op lv_rely hF
    u_op lv_rely hF
    u_op lv_rely hF
    u_op lv_rely hF
    u_op lv_rely hF
    u_op lv_rely hF
    u_skip lv_rely hF
    u_skip lv_rely hF
    u_op lv_rely hF
    u_c stepG_region_end lv_rely hF
    u_cond false lv_rely hF
    u_c stepG_skip lv_rely hF
    u_c stepG_ret' lv_rely hF
    u_leave0 H.f_wait lv_rely hF
    exact Goes.stop fun w9 h9 => ⟨rfl, lv_rely hF h9⟩
  · obtain ⟨S, hS⟩ : ∃ S : Int, (v : Int) * KK = S := ⟨_, rfl⟩
    have a1 : S / 4294967296 = (v : Int) := by rw [← hS]; simp only [KK]; omega
    have b1 : bits .and .u64 S 2147483648 = 0 := by rw [← hS]; have := st_flag v 0 (by omega) (by omega); simpa [KK] using this
    have b2 : bits .and .u64 S 2147483647 = 0 := by rw [← hS]; have := st_waiters v 0 (by omega) (by omega); simpa [KK] using this
    have c1 : IntKind.i32.wrap (v : Int) = (v : Int) := by rw [IntKind.wrap_i32]; omega
    have w1_ : IntKind.u64.wrap (S + 1) = S + 1 := by rw [IntKind.wrap_u64, ← hS]; simp only [KK]; omega
    have q3 : decide ((v : Int) < 0) = false := decide_eq_false (by omega)
    have q4 : decide (0 < (v : Int)) = true := decide_eq_true (by omega)
    have q5 : ((v : Int) == 0) = false := by simp; omega
    have q6 : decide ((v : Int) = 0) = false := decide_eq_false (by omega)
    rw [hS] at hw
    refine ⟨_, stepG_load_atomic (v := S) rfl rfl (by k_ne) rfl H.f_loadU64 (x_loadU64_n L) (x_loadU64_b L) (x_loadU64_x L) .u64 (x_loadU64_f L) rfl hw.cellSt, fun h0 => absurd h0 (by omega), fun _ => ⟨60, ?_⟩⟩
    clear hw
    walk_nrm
    u_op lv_rely hF
    u_c stepG_region_end lv_rely hF
    u_c stepG_ret' lv_rely hF
    u_leave1 H.f_uLoad lv_rely hF
    u_op lv_rely hF
    u_c stepG_region_end lv_rely hF
    u_c stepG_seq lv_rely hF
    u_reg lv_rely hF
    u_op lv_rely hF
    u_op lv_rely hF
    u_op lv_rely hF
    u_op lv_rely hF
    u_c stepG_region_end lv_rely hF
    u_c stepG_seq lv_rely hF
    u_reg lv_rely hF
    u_op lv_rely hF
    u_op lv_rely hF
    u_op lv_rely hF
    u_op lv_rely hF
    u_c stepG_region_end lv_rely hF
    u_c stepG_seq lv_rely hF
    u_c stepG_seq lv_rely hF
    u_reg lv_rely hF
    u_op lv_rely hF
    u_op lv_rely hF
    u_c stepG_region_end lv_rely hF
    u_cnd false lv_rely hF
    u_c stepG_skip lv_rely hF
    u_c stepG_seq lv_rely hF
    u_reg lv_rely hF
    u_op lv_rely hF
    u_op lv_rely hF
    u_op lv_rely hF
    u_op lv_rely hF
    u_op lv_rely hF
    u_op lv_rely hF
    u_call H.f_uCas (nm_uCas L) uCasFn lv_rely hF
    u_c stepG_seq lv_rely hF
    u_reg lv_rely hF
    u_op lv_rely hF
    u_c stepG_region_end lv_rely hF
    u_c stepG_seq lv_rely hF
    u_reg lv_rely hF
    u_op lv_rely hF
    u_op lv_rely hF
    u_op lv_rely hF
    u_op lv_rely hF
    u_op lv_rely hF
    refine Goes.stop (fun w2 h2 => ?_)
    replace hF := lv_rely hF h2
    clear h2
    refine ⟨rfl, fun v' hv' hw => ⟨fun e => ?_, fun e => ?_⟩⟩
    · subst e
      rw [hS] at hw ⊢
      refine ⟨_, (stepG_cas_hit (v := S) (n := S + 1) rfl rfl (by k_ne) rfl H.f_casU64 (x_casU64_n L) (x_casU64_b L) (x_casU64_x L) .u64 (x_casU64_f L) rfl rfl rfl hw.cellSt (hw.thaw 0)).trans (by rfl), 70, ?_⟩
      replace hF : WgLive L.tWg Wg (w2.setCell (stA Wg) (.int .u64 (S + 1))) := ⟨_, _, hw.setSt _⟩
      clear hw
      walk_nrm
      u_op lv_rely hF
      u_c stepG_region_end lv_rely hF
      u_c stepG_ret' lv_rely hF
      u_leave1 H.f_uCas lv_rely hF
      u_c stepG_region_end lv_rely hF
      u_cond true lv_rely hF
      u_c stepG_seq lv_rely hF
      u_c stepG_seq lv_rely hF
      u_reg lv_rely hF
      u_op lv_rely hF
      u_op lv_rely hF
      u_op lv_rely hF
      u_op lv_rely hF
      u_c stepG_region_end lv_rely hF
      u_cond true lv_rely hF
      u_reg lv_rely hF
      u_op lv_rely hF
      u_op lv_rely hF
      u_op lv_rely hF
      u_conv H.underlying_tPU32 H.room_tU32 (WgLive.cell1 hF).choose_spec lv_rely hF
      refine Goes.stop (fun w3 h3 => ?_)
      replace hF := lv_rely hF h3
      clear h3
      refine ⟨rfl, _, stepG_markAt .write (by simp) rfl rfl (by k_ne) rfl H.f_raceWrite (x_raceWrite_n L) (x_raceWrite_b L) (x_raceWrite_x L) (x_raceWrite_f L) (by simp [Act.eval, smA]), 70, ?_⟩
      walk_nrm
      u_c stepG_region_end lv_rely hF
      u_c stepG_seq lv_rely hF
      u_reg lv_rely hF
      u_op lv_rely hF
      u_c stepG_region_end lv_rely hF
      u_c stepG_seq lv_rely hF
      u_c stepG_seq lv_rely hF
      u_reg lv_rely hF
      u_op lv_rely hF
      u_op lv_rely hF
      u_op lv_rely hF
      u_op lv_rely hF
      u_skip lv_rely hF
      u_op lv_rely hF
      u_c stepG_region_end lv_rely hF
      u_cond false lv_rely hF
      u_c stepG_skip lv_rely hF
      u_c stepG_seq lv_rely hF
      u_reg lv_rely hF
      u_op lv_rely hF
      u_op lv_rely hF
      u_op lv_rely hF
      u_op lv_rely hF
      refine Goes.stop (fun w4 h4 => ?_)
      replace hF := lv_rely hF h4
      clear h4
      refine ⟨rfl, rfl, fun ⟨st, hw⟩ => stepG_semacquire_wait rfl rfl rfl H.f_semacquire (x_semacquire_n L) (x_semacquire_b L) (x_semacquire_x L) (x_semacquire_f L) (by simp [Act.eval, smA]) hw.cellSm, fun hf => ?_⟩
      refine ⟨_, (stepG_semacquire (n := 1) rfl rfl (by k_ne) rfl H.f_semacquire (x_semacquire_n L) (x_semacquire_b L) (x_semacquire_x L) (x_semacquire_f L) (by simp [Act.eval, smA]) hf.cellSm (by k_ne) (hf.thaw 1)).trans (by rfl), 30, ?_⟩
      replace hF : WgLive L.tWg Wg (w4.setCell (smA Wg) (.int .u32 0)) := ⟨_, _, hf.setSm 0⟩
      clear hf
      walk_nrm
      u_c stepG_region_end lv_rely hF
      u_c stepG_seq lv_rely hF
      u_reg lv_rely hF
      u_op lv_rely hF
      u_op lv_rely hF
      u_op lv_rely hF
      u_call H.f_uLoad (nm_uLoad L) uLoadFn lv_rely hF
      u_c stepG_seq lv_rely hF
      u_reg lv_rely hF
      u_op lv_rely hF
      u_c stepG_region_end lv_rely hF
      u_c stepG_seq lv_rely hF
      u_reg lv_rely hF
      u_op lv_rely hF
      u_op lv_rely hF
      u_op lv_rely hF
      refine Goes.stop (fun w5 h5 => ?_)
      replace hF := lv_rely hF h5
      clear h5
      refine ⟨rfl, fun hw => ⟨_, stepG_load_atomic (v := 0) rfl rfl (by k_ne) rfl H.f_loadU64 (x_loadU64_n L) (x_loadU64_b L) (x_loadU64_x L) .u64 (x_loadU64_f L) rfl hw.cellSt, 30, ?_⟩⟩
      clear hw
      walk_nrm
      u_op lv_rely hF
      u_c stepG_region_end lv_rely hF
      u_c stepG_ret' lv_rely hF
      u_leave1 H.f_uLoad lv_rely hF
      u_op lv_rely hF
      u_op lv_rely hF
      u_c stepG_region_end lv_rely hF
      u_c stepG_seq lv_rely hF
      u_cond true lv_rely hF
      u_c stepG_seq lv_rely hF
      u_reg lv_rely hF
      refine Goes.stop (fun w6 h6 => ?_)
      replace hF := lv_rely hF h6
      clear h6
      refine ⟨rfl, _, stepG_mark0 .enable (by simp) rfl rfl (by k_ne) rfl H.f_enable (x_enable_n L) (x_enable_b L) (x_enable_x L) (x_enable_f L), 12, ?_⟩
      walk_nrm
      u_c stepG_region_end lv_rely hF
      u_reg lv_rely hF
      u_op lv_rely hF
      u_conv H.underlying_tWgP H.room_tWg (WgLive.cell0 hF).choose_spec lv_rely hF
      refine Goes.stop (fun w7 h7 => ?_)
      replace hF := lv_rely hF h7
      clear h7
      refine ⟨rfl, _, stepG_markAt .acquire (by simp) rfl rfl (by k_ne) rfl H.f_acquire (x_acquire_n L) (x_acquire_b L) (x_acquire_x L) (x_acquire_f L) (by simp [Act.eval, stA]), 30, ?_⟩
      walk_nrm
      u_c stepG_region_end lv_rely hF
      u_c stepG_seq lv_rely hF
      u_c stepG_seq lv_rely hF
      u_reg lv_rely hF
      u_op lv_rely hF
      u_c stepG_region_end lv_rely hF
      u_cond false lv_rely hF
      u_c stepG_skip lv_rely hF
      u_c stepG_ret' lv_rely hF
      u_leave0 H.f_wait lv_rely hF
      exact Goes.stop fun w9 h9 => ⟨rfl, lv_rely hF h9⟩
    · refine ⟨_, stepG_cas_miss (v := (v' : Int) * KK) (old := S) (n := S + 1) rfl rfl (by k_ne) rfl H.f_casU64 (x_casU64_n L) (x_casU64_b L) (x_casU64_x L) .u64 (x_casU64_f L) rfl rfl rfl hw.cellSt (hw.thaw 0) (by rw [← hS]; simp only [KK]; omega), 20, ?_⟩
      clear hw
      walk_nrm
      u_op lv_rely hF
      u_c stepG_region_end lv_rely hF
      u_c stepG_ret' lv_rely hF
      u_leave1 H.f_uCas lv_rely hF
      u_c stepG_region_end lv_rely hF
      u_cond false lv_rely hF
      u_c stepG_skip lv_rely hF
      u_c stepG_inBlock lv_rely hF
      u_c stepG_inLoop lv_rely hF
      refine Goes.stop (fun w3 h3 => ?_)
      replace hF := lv_rely hF h3
      exact ⟨_, rfl, by simp, by simp, hF⟩
end
end Go.X
namespace Go.X
open Go.Conc Go.RowKit Go.Conc.Lib Go.ConcR.Gen Go.ConcN.Gen
open Go.ConcR (KK wgBlock WgAt stA smA rd wr mk DC0)
open Go.ConcN (WgLive st_flag st_waiters)
open Go.ConcN.Gen

section
variable {L : WgLink} {Wg : Nat} {b₀ : Frame} {a₀ : Act} {ops₀ : Array Oper} {i₀ : Nat} {rest₀ : List Nat} {k₀ : List Item} {cs : List Frame}
set_option maxRecDepth 100000 in
set_option maxHeartbeats 8000000 in
/-- Add(-1), as Done calls it. -/
theorem neg_way {P : Program} (H : WgLib P L) {qt : Nat} (hT : QuitsD P qt 0 (G (b₀.at (a₀.put ((ops₀[i₀]?).bind (·.dst)) (.tuple #[])) (.inRegion ops₀ rest₀ :: k₀)) cs)) (w : World) (hF : WgLive L.tWg Wg w) :
    Goes P false (RLv L.tWg Wg) DC0 (AtR0 P L.tWg Wg) 40 (G ((base L.add).at ⟨#[.pointer (some ⟨Wg, 0, none⟩), .int .i64 (-1), undef, undef, undef, undef, undef, undef, undef, undef, undef, undef, undef, undef, undef, undef, undef, undef, undef, undef, undef, undef, undef, undef, undef, undef, undef, undef, undef, undef, undef, undef, undef, undef, undef, undef, undef, undef, undef, undef, undef, undef, undef, undef, undef, undef, undef, undef, undef, undef, undef, undef, undef, undef, undef, undef, undef, undef, undef, undef, undef, undef, undef, undef, undef, undef, undef, undef, undef, undef, undef, undef, undef, undef, undef, undef, undef, undef, undef, undef, undef, undef, undef, undef, undef, undef, undef, undef, undef, undef, undef, undef, undef, undef, undef, undef, undef, undef, undef, undef, undef, undef, undef, undef, undef, undef, undef, undef, undef, undef, undef, undef, undef, undef, undef, undef, undef], []⟩ [.code (body_add L)]) (b₀.at a₀ (.inRegion ops₀ (i₀ :: rest₀) :: k₀) :: cs)) w := by
  lib_facts
  simp only [body_add, addFn, Option.getD_some]
  u_c stepG_seq lv_rely hF
  u_cond true lv_rely hF
  u_c stepG_seq lv_rely hF
  u_c stepG_seq lv_rely hF
  u_reg lv_rely hF
  u_op lv_rely hF
  u_op lv_rely hF
  u_c stepG_region_end lv_rely hF
  u_cond true lv_rely hF
  u_reg lv_rely hF
  u_op lv_rely hF
  u_conv H.underlying_tWgP H.room_tWg (WgLive.cell0 hF).choose_spec lv_rely hF
  refine Goes.stop (fun w1 h1 => ?_)
  replace hF := lv_rely hF h1
  clear h1
  refine ⟨rfl, _, stepG_markAt .releaseMerge (by simp) rfl rfl (by k_ne) rfl H.f_relMerge (x_relMerge_n L) (x_relMerge_b L) (x_relMerge_x L) (x_relMerge_f L) (by simp [Act.eval, stA]), 20, ?_⟩
  walk_nrm
  u_c stepG_region_end lv_rely hF
  u_c stepG_seq lv_rely hF
  u_reg lv_rely hF
  refine Goes.stop (fun w2 h2 => ?_)
  replace hF := lv_rely hF h2
  clear h2
  refine ⟨rfl, _, stepG_mark0 .disable (by simp) rfl rfl (by k_ne) rfl H.f_disable (x_disable_n L) (x_disable_b L) (x_disable_x L) (x_disable_f L), 60, ?_⟩
  walk_nrm
  u_c stepG_region_end lv_rely hF
  u_reg lv_rely hF
  u_defer lv_rely hF
  u_c stepG_region_end lv_rely hF
  u_c stepG_seq lv_rely hF
  u_reg lv_rely hF
  u_op lv_rely hF
  u_c stepG_region_end lv_rely hF
  u_c stepG_seq lv_rely hF
  u_c stepG_seq lv_rely hF
  u_reg lv_rely hF
  u_bub lv_rely hF
  u_c stepG_region_end lv_rely hF
  u_cond false lv_rely hF
  u_c stepG_skip lv_rely hF
  u_c stepG_seq lv_rely hF
  u_reg lv_rely hF
  u_op lv_rely hF
  u_op lv_rely hF
  u_op lv_rely hF
  u_op lv_rely hF
  u_op lv_rely hF
  u_op lv_rely hF
  u_call H.f_uAdd (nm_uAdd L) uAddFn lv_rely hF
  u_c stepG_seq lv_rely hF
  u_reg lv_rely hF
  u_op lv_rely hF
  u_c stepG_region_end lv_rely hF
  u_c stepG_seq lv_rely hF
  u_reg lv_rely hF
  u_op lv_rely hF
  u_op lv_rely hF
  u_op lv_rely hF
  u_op lv_rely hF
  refine Goes.stop (fun w3 h3 => ?_)
  clear h3 hF
  refine ⟨rfl, fun v wt hwt hv hw => ?_⟩
  have e0 : IntKind.u64.wrap (KK + 18446744069414584320) = 0 := by decide
  have e1 : IntKind.u64.wrap (KK + 1 + 18446744069414584320) = 1 := by decide
  rcases Nat.eq_zero_or_pos v with rfl | hvp <;> (obtain rfl | rfl : wt = 0 ∨ wt = 1 := by omega)
  · replace hw : WgAt L.tWg Wg w3 KK 0 := by simpa using hw
    have z : ((0 : Nat) : Int) * KK + ((0 : Nat) : Int) = 0 := by simp
    rw [z]
    refine ⟨_, (stepG_add_atomic rfl rfl (by k_ne) rfl H.f_addU64 (x_addU64_n L) (x_addU64_b L) (x_addU64_x L) .u64 (x_addU64_f L) rfl rfl hw.cellSt (hw.thaw 0)).trans (by rw [e0]; rfl), fun hl => absurd hl.2 (by decide), fun _ => ⟨qt + 89, ?_⟩⟩
    clear hw
    walk_nrm
    q_val (.int .u64 0)
    q_c stepG_region_end
    q_c stepG_ret'
    q_leave1 H.f_uAdd
    q_val (.int .u64 0)
    q_c stepG_region_end
    q_c stepG_seq
    q_c stepG_seq
    q_reg
    q_val (.int .u64 0)
    q_val (.int .u64 0)
    q_val (.bool false)
    q_val (.bool false)
    q_skip
    q_skip
    q_val (.bool false)
    q_c stepG_region_end
    q_cond false
    q_c stepG_skip
    q_c stepG_seq
    q_reg
    q_val (.int .u64 0)
    q_val (.int .u64 0)
    q_val (.int .i32 0)
    q_val (.int .i32 0)
    q_c stepG_region_end
    q_c stepG_seq
    q_reg
    q_val (.int .u64 0)
    q_val (.int .u64 0)
    q_val (.int .u32 0)
    q_val (.int .u32 0)
    q_c stepG_region_end
    q_c stepG_seq
    q_c stepG_seq
    q_reg
    q_val (.bool true)
    q_val (.int .i64 (-1))
    q_val (.bool false)
    q_val (.bool false)
    q_val (.bool false)
    q_skip
    q_skip
    q_skip
    q_skip
    q_val (.bool false)
    q_c stepG_region_end
    q_cond false
    q_c stepG_skip
    q_c stepG_seq
    q_c stepG_seq
    q_reg
    q_val (.int .i32 0)
    q_val (.bool false)
    q_c stepG_region_end
    q_cond false
    q_c stepG_skip
    q_c stepG_seq
    q_c stepG_seq
    q_reg
    q_val (.int .u32 0)
    q_val (.bool false)
    q_val (.bool false)
    q_skip
    q_skip
    q_val (.bool false)
    q_val (.bool false)
    q_skip
    q_skip
    q_skip
    q_skip
    q_val (.bool false)
    q_c stepG_region_end
    q_cond false
    q_c stepG_skip
    q_c stepG_seq
    q_c stepG_seq
    q_reg
    q_val (.int .i32 0)
    q_val (.bool false)
    q_val (.bool false)
    q_val (.int .u32 0)
    q_val (.bool true)
    q_val (.bool true)
    q_c stepG_region_end
    q_cond true
    q_c stepG_ret'
    q_enable
    q_leave0 H.f_add
    exact hT
  · replace hw : WgAt L.tWg Wg w3 (KK + 1) 0 := by simpa using hw
    have z : ((0 : Nat) : Int) * KK + ((1 : Nat) : Int) = 1 := by simp
    rw [z]
    refine ⟨_, (stepG_add_atomic rfl rfl (by k_ne) rfl H.f_addU64 (x_addU64_n L) (x_addU64_b L) (x_addU64_x L) .u64 (x_addU64_f L) rfl rfl hw.cellSt (hw.thaw 0)).trans (by rw [e1]; rfl), fun _ => ⟨180, ?_⟩, fun hl => absurd ⟨rfl, rfl⟩ hl⟩
    have hF : WgLive L.tWg Wg (w3.setCell (stA Wg) (.int .u64 1)) := ⟨_, _, hw.setSt 1⟩
    clear hw
    walk_nrm
    u_op lv_rely hF
    u_c stepG_region_end lv_rely hF
    u_c stepG_ret' lv_rely hF
    u_leave1 H.f_uAdd lv_rely hF
    u_op lv_rely hF
    u_c stepG_region_end lv_rely hF
    u_c stepG_seq lv_rely hF
    u_c stepG_seq lv_rely hF
    u_reg lv_rely hF
    u_op lv_rely hF
    u_op lv_rely hF
    u_op lv_rely hF
    u_op lv_rely hF
    u_skip lv_rely hF
    u_skip lv_rely hF
    u_op lv_rely hF
    u_c stepG_region_end lv_rely hF
    u_cond false lv_rely hF
    u_c stepG_skip lv_rely hF
    u_c stepG_seq lv_rely hF
    u_reg lv_rely hF
    u_op lv_rely hF
    u_op lv_rely hF
    u_op lv_rely hF
    u_op lv_rely hF
    u_c stepG_region_end lv_rely hF
    u_c stepG_seq lv_rely hF
    u_reg lv_rely hF
    u_op lv_rely hF
    u_op lv_rely hF
    u_op lv_rely hF
    u_op lv_rely hF
    u_c stepG_region_end lv_rely hF
    u_c stepG_seq lv_rely hF
    u_c stepG_seq lv_rely hF
    u_reg lv_rely hF
    u_op lv_rely hF
    u_op lv_rely hF
    u_op lv_rely hF
    u_op lv_rely hF
    u_op lv_rely hF
    u_skip lv_rely hF
    u_skip lv_rely hF
    u_skip lv_rely hF
    u_skip lv_rely hF
    u_op lv_rely hF
    u_c stepG_region_end lv_rely hF
    u_cond false lv_rely hF
    u_c stepG_skip lv_rely hF
    u_c stepG_seq lv_rely hF
    u_c stepG_seq lv_rely hF
    u_reg lv_rely hF
    u_op lv_rely hF
    u_op lv_rely hF
    u_c stepG_region_end lv_rely hF
    u_cond false lv_rely hF
    u_c stepG_skip lv_rely hF
    u_c stepG_seq lv_rely hF
    u_c stepG_seq lv_rely hF
    u_reg lv_rely hF
    u_op lv_rely hF
    u_op lv_rely hF
    u_op lv_rely hF
    u_op lv_rely hF
    u_op lv_rely hF
    u_op lv_rely hF
    u_op lv_rely hF
    u_skip lv_rely hF
    u_skip lv_rely hF
    u_skip lv_rely hF
    u_skip lv_rely hF
    u_op lv_rely hF
    u_c stepG_region_end lv_rely hF
    u_cond false lv_rely hF
    u_c stepG_skip lv_rely hF
    u_c stepG_seq lv_rely hF
    u_c stepG_seq lv_rely hF
    u_reg lv_rely hF
    u_op lv_rely hF
    u_op lv_rely hF
    u_op lv_rely hF
    u_op lv_rely hF
    u_op lv_rely hF
    u_op lv_rely hF
    u_c stepG_region_end lv_rely hF
    u_cond false lv_rely hF
    u_c stepG_skip lv_rely hF
    u_c stepG_seq lv_rely hF
    u_c stepG_seq lv_rely hF
    u_reg lv_rely hF
    u_op lv_rely hF
    u_op lv_rely hF
    u_op lv_rely hF
    u_call H.f_uLoad (nm_uLoad L) uLoadFn lv_rely hF
    u_c stepG_seq lv_rely hF
    u_reg lv_rely hF
    u_op lv_rely hF
    u_c stepG_region_end lv_rely hF
    u_c stepG_seq lv_rely hF
    u_reg lv_rely hF
    u_op lv_rely hF
    u_op lv_rely hF
    u_op lv_rely hF
    refine Goes.stop (fun w4 h4 => ?_)
    clear h4 hF
    refine ⟨rfl, fun hw => ⟨_, stepG_load_atomic (v := 1) rfl rfl (by k_ne) rfl H.f_loadU64 (x_loadU64_n L) (x_loadU64_b L) (x_loadU64_x L) .u64 (x_loadU64_f L) rfl hw.cellSt, 60, ?_⟩⟩
    have hF : WgLive L.tWg Wg w4 := ⟨_, _, hw⟩
    clear hw
    walk_nrm
    u_op lv_rely hF
    u_c stepG_region_end lv_rely hF
    u_c stepG_ret' lv_rely hF
    u_leave1 H.f_uLoad lv_rely hF
    u_op lv_rely hF
    u_op lv_rely hF
    u_c stepG_region_end lv_rely hF
    u_cond false lv_rely hF
    u_c stepG_skip lv_rely hF
    u_c stepG_seq lv_rely hF
    u_reg lv_rely hF
    u_op lv_rely hF
    u_op lv_rely hF
    u_op lv_rely hF
    u_call H.f_uStore (nm_uStore L) uStoreFn lv_rely hF
    u_reg lv_rely hF
    u_op lv_rely hF
    u_op lv_rely hF
    u_op lv_rely hF
    u_op lv_rely hF
    refine Goes.stop (fun w5 h5 => ?_)
    clear h5 hF
    refine ⟨rfl, fun hw => ⟨_, stepG_store_atomic rfl rfl (by k_ne) rfl H.f_storeU64 (x_storeU64_n L) (x_storeU64_b L) (x_storeU64_x L) (x_storeU64_f L) rfl rfl hw.cellSt (hw.thaw 0), 60, ?_⟩⟩
    have hF : WgLive L.tWg Wg (w5.setCell (stA Wg) (.int .u64 0)) := ⟨_, _, hw.setSt 0⟩
    clear hw
    walk_nrm
    u_c stepG_region_end lv_rely hF
    u_c stepG_end lv_rely hF
    u_leave0 H.f_uStore lv_rely hF
    u_c stepG_region_end lv_rely hF
    u_c stepG_seq lv_rely hF
    u_c stepG_seq lv_rely hF
    u_reg lv_rely hF
    u_op lv_rely hF
    u_c stepG_region_end lv_rely hF
    u_cond false lv_rely hF
    u_c stepG_skip lv_rely hF
    u_c stepG_block lv_rely hF
    u_c stepG_loop lv_rely hF
    u_c stepG_seq lv_rely hF
    u_c stepG_seq lv_rely hF
    u_reg lv_rely hF
    u_op lv_rely hF
    u_op lv_rely hF
    u_c stepG_region_end lv_rely hF
    u_cond true lv_rely hF
    u_c stepG_skip lv_rely hF
    u_c stepG_seq lv_rely hF
    u_c stepG_block lv_rely hF
    u_reg lv_rely hF
    u_op lv_rely hF
    u_op lv_rely hF
    u_op lv_rely hF
    refine Goes.stop (fun w6 h6 => ?_)
    clear h6 hF
    refine ⟨rfl, mayWake_entry rfl rfl H.f_semrelease (x_semrelease_b L), fun hw => ⟨_, (stepG_semrelease rfl rfl (by k_ne) rfl H.f_semrelease (x_semrelease_n L) (x_semrelease_b L) (x_semrelease_x L) (x_semrelease_f L) (by simp [Act.eval, smA]) hw.cellSm (hw.thaw 1)).trans (by rfl), qt + 19, ?_⟩⟩
    clear hw
    walk_nrm
    q_c stepG_region_end
    q_c stepG_inBlock
    q_reg
    q_val (.int .u32 1)
    q_val (.int .u32 0)
    q_val (.int .u32 0)
    q_c stepG_region_end
    q_c stepG_inLoop
    q_c stepG_seq
    q_c stepG_seq
    q_reg
    q_val (.int .u32 0)
    q_val (.bool false)
    q_c stepG_region_end
    q_cond false
    q_exit
    q_c stepG_end
    q_enable
    q_leave0 H.f_add
    exact hT
  · replace hw : WgAt L.tWg Wg w3 (((v : Nat) + 1) * KK + 0) 0 := by simpa using hw
    have z : ((v : Nat) : Int) * KK + ((0 : Nat) : Int) = (v : Int) * KK + 0 := by simp
    rw [z]
    have hv0 : 0 < v := by omega
    have eS : IntKind.u64.wrap (((v : Nat) + 1) * KK + 0 + 18446744069414584320) = (v : Int) * KK + 0 := by rw [IntKind.wrap_u64]; simp only [KK]; omega
    obtain ⟨S, hS⟩ : ∃ S : Int, S = (v : Int) * KK + 0 := ⟨_, rfl⟩
    rw [← hS] at eS ⊢
    have a1 : S / 4294967296 = (v : Int) := by rw [hS]; simp only [KK]; omega
    have a2 : 0 ≤ S ∧ S < 9223372036854775808 := by rw [hS]; simp only [KK]; omega
    have b1 : bits .and .u64 S 2147483648 = 0 := by rw [hS]; have := st_flag v 0 (by omega) (by omega); simpa [KK] using this
    have b2 : bits .and .u64 S 2147483647 = 0 := by rw [hS]; have := st_waiters v 0 (by omega) (by omega); simpa [KK] using this
    clear hS z
    refine ⟨_, (stepG_add_atomic rfl rfl (by k_ne) rfl H.f_addU64 (x_addU64_n L) (x_addU64_b L) (x_addU64_x L) .u64 (x_addU64_f L) rfl rfl hw.cellSt (hw.thaw 0)).trans (by rw [eS]; rfl), fun hl => absurd hl.1 (by omega), fun _ => ⟨qt + 89, ?_⟩⟩
    clear hw
    walk_nrm
    q_vn (.int .u64 S)
    q_c stepG_region_end
    q_c stepG_ret'
    q_leave1 H.f_uAdd
    q_vn (.int .u64 S)
    q_c stepG_region_end
    q_c stepG_seq
    q_c stepG_seq
    q_reg
    q_vn (.int .u64 S)
    q_vn (.int .u64 0)
    q_vn (.bool false)
    q_vn (.bool false)
    q_skip
    q_skip
    q_vn (.bool false)
    q_c stepG_region_end
    q_cond false
    q_c stepG_skip
    q_c stepG_seq
    q_reg
    q_vn (.int .u64 S)
    q_vn (.int .u64 (v : Int))
    q_vn (.int .i32 (v : Int))
    q_vn (.int .i32 (v : Int))
    q_c stepG_region_end
    q_c stepG_seq
    q_reg
    q_vn (.int .u64 S)
    q_vn (.int .u64 0)
    q_vn (.int .u32 0)
    q_vn (.int .u32 0)
    q_c stepG_region_end
    q_c stepG_seq
    q_c stepG_seq
    q_reg
    q_vn (.bool true)
    q_vn (.int .i64 (-1))
    q_vn (.bool false)
    q_vn (.bool false)
    q_vn (.bool false)
    q_skip
    q_skip
    q_skip
    q_skip
    q_vn (.bool false)
    q_c stepG_region_end
    q_cond false
    q_c stepG_skip
    q_c stepG_seq
    q_c stepG_seq
    q_reg
    q_vn (.int .i32 (v : Int))
    q_vn (.bool false)
    q_c stepG_region_end
    q_cond false
    q_c stepG_skip
    q_c stepG_seq
    q_c stepG_seq
    q_reg
    q_vn (.int .u32 0)
    q_vn (.bool false)
    q_vn (.bool false)
    q_skip
    q_skip
    q_vn (.bool false)
    q_vn (.bool false)
    q_skip
    q_skip
    q_skip
    q_skip
    q_vn (.bool false)
    q_c stepG_region_end
    q_cond false
    q_c stepG_skip
    q_c stepG_seq
    q_c stepG_seq
    q_reg
    q_vn (.int .i32 (v : Int))
    q_vn (.bool true)
    q_vn (.bool true)
    q_skip
    q_skip
    q_vn (.bool true)
    q_c stepG_region_end
    q_cond true
    q_c stepG_ret'
    q_enable
    q_leave0 H.f_add
    exact hT
  · replace hw : WgAt L.tWg Wg w3 (((v : Nat) + 1) * KK + 1) 0 := by simpa using hw
    have z : ((v : Nat) : Int) * KK + ((1 : Nat) : Int) = (v : Int) * KK + 1 := by simp
    rw [z]
    have hv0 : 0 < v := by omega
    have eS : IntKind.u64.wrap (((v : Nat) + 1) * KK + 1 + 18446744069414584320) = (v : Int) * KK + 1 := by rw [IntKind.wrap_u64]; simp only [KK]; omega
    obtain ⟨S, hS⟩ : ∃ S : Int, S = (v : Int) * KK + 1 := ⟨_, rfl⟩
    rw [← hS] at eS ⊢
    have a1 : S / 4294967296 = (v : Int) := by rw [hS]; simp only [KK]; omega
    have a2 : 0 ≤ S ∧ S < 9223372036854775808 := by rw [hS]; simp only [KK]; omega
    have b1 : bits .and .u64 S 2147483648 = 0 := by rw [hS]; have := st_flag v 1 (by omega) (by omega); simpa [KK] using this
    have b2 : bits .and .u64 S 2147483647 = 1 := by rw [hS]; have := st_waiters v 1 (by omega) (by omega); simpa [KK] using this
    clear hS z
    refine ⟨_, (stepG_add_atomic rfl rfl (by k_ne) rfl H.f_addU64 (x_addU64_n L) (x_addU64_b L) (x_addU64_x L) .u64 (x_addU64_f L) rfl rfl hw.cellSt (hw.thaw 0)).trans (by rw [eS]; rfl), fun hl => absurd hl.1 (by omega), fun _ => ⟨qt + 89, ?_⟩⟩
    clear hw
    walk_nrm
    q_vn (.int .u64 S)
    q_c stepG_region_end
    q_c stepG_ret'
    q_leave1 H.f_uAdd
    q_vn (.int .u64 S)
    q_c stepG_region_end
    q_c stepG_seq
    q_c stepG_seq
    q_reg
    q_vn (.int .u64 S)
    q_vn (.int .u64 0)
    q_vn (.bool false)
    q_vn (.bool false)
    q_skip
    q_skip
    q_vn (.bool false)
    q_c stepG_region_end
    q_cond false
    q_c stepG_skip
    q_c stepG_seq
    q_reg
    q_vn (.int .u64 S)
    q_vn (.int .u64 (v : Int))
    q_vn (.int .i32 (v : Int))
    q_vn (.int .i32 (v : Int))
    q_c stepG_region_end
    q_c stepG_seq
    q_reg
    q_vn (.int .u64 S)
    q_vn (.int .u64 1)
    q_vn (.int .u32 1)
    q_vn (.int .u32 1)
    q_c stepG_region_end
    q_c stepG_seq
    q_c stepG_seq
    q_reg
    q_vn (.bool true)
    q_vn (.int .i64 (-1))
    q_vn (.bool false)
    q_vn (.bool false)
    q_vn (.bool false)
    q_skip
    q_skip
    q_skip
    q_skip
    q_vn (.bool false)
    q_c stepG_region_end
    q_cond false
    q_c stepG_skip
    q_c stepG_seq
    q_c stepG_seq
    q_reg
    q_vn (.int .i32 (v : Int))
    q_vn (.bool false)
    q_c stepG_region_end
    q_cond false
    q_c stepG_skip
    q_c stepG_seq
    q_c stepG_seq
    q_reg
    q_vn (.int .u32 1)
    q_vn (.bool true)
    q_vn (.bool true)
    q_vn (.int .i64 (-1))
    q_vn (.bool false)
    q_vn (.bool false)
    q_vn (.bool false)
    q_skip
    q_skip
    q_skip
    q_skip
    q_vn (.bool false)
    q_c stepG_region_end
    q_cond false
    q_c stepG_skip
    q_c stepG_seq
    q_c stepG_seq
    q_reg
    q_vn (.int .i32 (v : Int))
    q_vn (.bool true)
    q_vn (.bool true)
    q_skip
    q_skip
    q_vn (.bool true)
    q_c stepG_region_end
    q_cond true
    q_c stepG_ret'
    q_enable
    q_leave0 H.f_add
    exact hT
set_option maxRecDepth 100000 in
set_option maxHeartbeats 8000000 in
/-- A deferred Done. -/
theorem done_way {P : Program} (H : WgLib P L) {c : Frame} {qt : Nat} (hcm : c.mode = .returning) (hT : QuitsD P qt 0 (G c cs)) (w : World) (hF : WgLive L.tWg Wg w) :
    Goes P false (RLv L.tWg Wg) DC0 (AtR0 P L.tWg Wg) 43 (G ((baseD L.done).at ⟨#[.pointer (some ⟨Wg, 0, none⟩), undef, undef, undef], []⟩ [.code (body_done L)]) (c :: cs)) w := by
  lib_facts
  have hA := @neg_way L Wg
  simp only [body_done, body_add, doneFn, addFn, Option.getD_some] at hA ⊢
  u_reg lv_rely hF
  u_op lv_rely hF
  u_in lv_rely hF
  refine goes_call rfl rfl (by k_ne) rfl H.f_add (nm_add L) rfl ⟨by u_nil, ?_⟩
  walk_nrmf addFn
  refine hA (qt := qt + 3) H ?_ _ hF
  q_c stepG_region_end
  q_c stepG_end
  exact QuitsD.leaveD rfl rfl H.f_done rfl hcm hT
end
end Go.X
namespace Go.X
open Go.Conc Go.RowKit Go.Conc.Lib Go.ConcR.Gen Go.ConcN.Gen

theorem und_append {a : Array Value} {n : Nat} {l l' : List Value} (ha : a = l.toArray) (h : l ++ List.replicate n undef = l') : a ++ Array.replicate n undef = l'.toArray := by
  subst h; subst ha; simp

set_option maxRecDepth 100000 in
theorem enter_add {P : Program} {L : WgLink} (H : WgLib P L) (x y : Value) : Frame.enter P L.add #[x, y] .normal = (base L.add).at ⟨#[x, y, undef, undef, undef, undef, undef, undef, undef, undef, undef, undef, undef, undef, undef, undef, undef, undef, undef, undef, undef, undef, undef, undef, undef, undef, undef, undef, undef, undef, undef, undef, undef, undef, undef, undef, undef, undef, undef, undef, undef, undef, undef, undef, undef, undef, undef, undef, undef, undef, undef, undef, undef, undef, undef, undef, undef, undef, undef, undef, undef, undef, undef, undef, undef, undef, undef, undef, undef, undef, undef, undef, undef, undef, undef, undef, undef, undef, undef, undef, undef, undef, undef, undef, undef, undef, undef, undef, undef, undef, undef, undef, undef, undef, undef, undef, undef, undef, undef, undef, undef, undef, undef, undef, undef, undef, undef, undef, undef, undef, undef, undef, undef, undef, undef, undef, undef], []⟩ [.code (body_add L)] := by
  rw [enter_at _ H.f_add (show (addFn L).body = some (body_add L) from rfl)]
  have e : (#[x, y] : Array Value) ++ Array.replicate ((addFn L).ntmps - (#[x, y] : Array Value).size) undef = #[x, y, undef, undef, undef, undef, undef, undef, undef, undef, undef, undef, undef, undef, undef, undef, undef, undef, undef, undef, undef, undef, undef, undef, undef, undef, undef, undef, undef, undef, undef, undef, undef, undef, undef, undef, undef, undef, undef, undef, undef, undef, undef, undef, undef, undef, undef, undef, undef, undef, undef, undef, undef, undef, undef, undef, undef, undef, undef, undef, undef, undef, undef, undef, undef, undef, undef, undef, undef, undef, undef, undef, undef, undef, undef, undef, undef, undef, undef, undef, undef, undef, undef, undef, undef, undef, undef, undef, undef, undef, undef, undef, undef, undef, undef, undef, undef, undef, undef, undef, undef, undef, undef, undef, undef, undef, undef, undef, undef, undef, undef, undef, undef, undef, undef, undef, undef] := und_append (l := [x, y]) (n := 115) rfl rfl
  rw [e]
set_option maxRecDepth 100000 in
theorem enter_wait {P : Program} {L : WgLink} (H : WgLib P L) (x : Value) : Frame.enter P L.wait #[x] .normal = (base L.wait).at ⟨#[x, undef, undef, undef, undef, undef, undef, undef, undef, undef, undef, undef, undef, undef, undef, undef, undef, undef, undef, undef, undef, undef, undef, undef, undef, undef, undef, undef, undef, undef, undef, undef, undef, undef, undef, undef, undef, undef, undef, undef, undef, undef, undef, undef, undef, undef, undef, undef, undef, undef, undef, undef, undef, undef, undef, undef, undef, undef, undef, undef, undef, undef, undef, undef, undef, undef, undef, undef, undef, undef, undef, undef, undef, undef, undef, undef, undef, undef, undef, undef, undef, undef, undef, undef], []⟩ [.code (body_wait L)] := by
  rw [enter_at _ H.f_wait (show (waitFn L).body = some (body_wait L) from rfl)]
  have e : (#[x] : Array Value) ++ Array.replicate ((waitFn L).ntmps - (#[x] : Array Value).size) undef = #[x, undef, undef, undef, undef, undef, undef, undef, undef, undef, undef, undef, undef, undef, undef, undef, undef, undef, undef, undef, undef, undef, undef, undef, undef, undef, undef, undef, undef, undef, undef, undef, undef, undef, undef, undef, undef, undef, undef, undef, undef, undef, undef, undef, undef, undef, undef, undef, undef, undef, undef, undef, undef, undef, undef, undef, undef, undef, undef, undef, undef, undef, undef, undef, undef, undef, undef, undef, undef, undef, undef, undef, undef, undef, undef, undef, undef, undef, undef, undef, undef, undef, undef, undef] := und_append (l := [x]) (n := 83) rfl rfl
  rw [e]
end Go.X
