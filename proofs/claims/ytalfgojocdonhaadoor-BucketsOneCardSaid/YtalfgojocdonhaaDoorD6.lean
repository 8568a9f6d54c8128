/-
  Part of proofs about buckets brought from wells to houses: a lone run, and what it computes. No condition.
-/
import Derived.Test.YtalfgojocdonhaaDoorD5
import Derived.Test.YtalfgojocdonhaaDoorD2
import Derived.Test.YtalfgojocdonhaaDoorRows
import Derived.Lay
import Derived.Lib.LaidTab
import Derived.LaidSub
import Derived.MakeChecks
import Derived.JoinedOf
import Derived.Handed
import Derived.ChangeMaps5
import Derived.ProofKit
namespace Go.Proofs.YtalfgojocdonhaaDoor
open Go.X Go.X.Flow Go.Conc Go.RowKit Go.ChangeShapes Go.WideShapes Go.ChangeAt Go.Joins

set_option maxRecDepth 100000

theorem pOwn : ownKnob Tryd.prog.godebug = none := by kernel_rfl
theorem pLaid : laidOutB Tryd.prog = true := by kernel_rfl
theorem pC3 : Tryd.prog.cellsOf 3 = 1 := by kernel_rfl
theorem pC25 : Tryd.prog.cellsOf 25 = 3 := by kernel_rfl
theorem pC43 : Tryd.prog.cellsOf 43 = 2 := by kernel_rfl

/-- Memory as the call finds it. -/
def pW (W : World) : PHeap := fun b => W.heap[b]?
theorem pW_per (W : World) : Per (pW W) W.heap := fun _ _ e => e
theorem pcell_W {W : World} {a : Addr} {v : Value} (h : W.cell? a = some v) : pcell (pW W) a = some v := by
  unfold World.cell? at h
  unfold pcell pW
  cases e : W.heap[a.block]? with
  | none => rw [e] at h; cases h
  | some o =>
    rw [e] at h
    cases o with
    | cells c t f => exact h
    | _ => cases h
theorem sl_W {W : World} {a : Addr} {n w : Nat} {E : Nat → List Value} (h : ∀ i, i < n → W.cells? 0 (a.add (i * w)) w = some (E i)) : Sl (pW W) (some a) n w ((List.range n).map E) := by
  refine ⟨by simp, fun e he => ?_, fun _ => rfl, fun i e he j x hx => ?_⟩
  · obtain ⟨i, hi, rfl⟩ := List.mem_map.1 he
    exact (cells_get (h i (List.mem_range.1 hi))).1
  · rw [List.getElem?_map] at he
    obtain ⟨i', hi', rfl⟩ := Option.map_eq_some_iff.1 he
    obtain ⟨hlt, rfl⟩ : i < n ∧ i = i' := by simpa using List.getElem?_eq_some_iff.1 hi'
    exact pcell_W ((cells_get (h i hlt)).2 j x hx)

section
variable {H : Type} {enc : TypeId × Value → H} {W : World}
theorem open_slW {fuel : Nat} {t e w : TypeId} {v : Value} {y : DataW H × List MemPlace} {Q : List Value → Prop} (ht : Tryd.prog.underlying t = some (.slice e)) (hw : Tryd.prog.cellsOf e = w)
    (hQ : ∀ m cs y, DataW.trod enc Tryd.prog W 0 (fun _ => true) true m e cs = some y → Q cs) (h : DataW.trod enc Tryd.prog W 0 (fun _ => true) true fuel t [v] = some y) :
    ∃ a n c E, v = .slice a n c ∧ n ≤ 9223372036854775807 ∧ n ≤ c ∧ (∀ i, i < n → Q (E i)) ∧ Sl (pW W) a n w ((List.range n).map E) := by
  rcases Go.Deep.open_slice ht h with ⟨e1, _⟩ | ⟨a, len, cap, m, k, D, Pl, e1, _, hl, hcap, hm, _, hall⟩
  · obtain rfl : v = .slice none 0 0 := by simpa using e1
    exact ⟨none, 0, 0, fun _ => [], rfl, by omega, Nat.le_refl _, fun i hi => absurd hi (by omega), sl_nil _ _⟩
  · obtain rfl : v = .slice (some a) len cap := by simpa using e1
    simp only [if_true] at hm
    subst hw
    obtain ⟨E, hE⟩ := Go.Deep.choose_lt (n := len) (p := fun i cs => W.cells? 0 (a.add (i * Tryd.prog.cellsOf e)) (Tryd.prog.cellsOf e) = some cs ∧ Q cs) fun i hi => by
      obtain ⟨cs, h1, h2⟩ := hall i (by omega)
      exact ⟨cs, h1, hQ _ _ _ h2⟩
    exact ⟨_, _, _, E, rfl, by unfold maxLen at hcap; omega, hl, fun i hi => (hE i hi).2, sl_W fun i hi => (hE i hi).1⟩
theorem open_intsW {fuel : Nat} {v : Value} {y : DataW H × List MemPlace} (h : DataW.trod enc Tryd.prog W 0 (fun _ => true) true fuel 22 [v] = some y) :
    ∃ a n c xs, v = .slice a n c ∧ n ≤ 9223372036854775807 ∧ n ≤ c ∧ Ints (pW W) a n xs := by
  obtain ⟨a, n, c, E, rfl, hb, hc, hQ, s⟩ := open_slW Tryd.underlying22 pC3 (Q := fun cs => ∃ n : Int, cs = [.int .i64 n]) (fun m cs y h => trod_i64 Tryd.underlying3 h) h
  obtain ⟨z, hz⟩ := Go.Deep.choose_lt hQ
  refine ⟨a, n, c, (List.range n).map z, rfl, hb, hc, ?_⟩
  have : (List.range n).map E = ((List.range n).map z).map fun x => [Value.int .i64 x] := by
    rw [List.map_map]
    exact List.map_congr_left fun i hi => hz i (List.mem_range.1 hi)
  unfold Ints
  rw [← this]; exact s
theorem trod_way {m : Nat} {cs : List Value} {y : DataW H × List MemPlace} (h : DataW.trod enc Tryd.prog W 0 (fun _ => true) true m 43 cs = some y) : ∃ x : FWay, cs = x.cells := by
  obtain ⟨y0, y1, n, _, hl, h0, h1⟩ := trod_struct2 Tryd.underlying43 h
  rw [pC43] at hl
  obtain ⟨a, ha⟩ := trod_i64 Tryd.underlying3 h0
  obtain ⟨b, hb⟩ := trod_i64 Tryd.underlying3 h1
  match cs, hl with
  | [u, v], _ =>
    refine ⟨(a, b), ?_⟩
    simp [pC3] at ha hb
    simp [FWay.cells, ha, hb]
theorem open_waysW {fuel : Nat} {v : Value} {y : DataW H × List MemPlace} (h : DataW.trod enc Tryd.prog W 0 (fun _ => true) true fuel 23 [v] = some y) :
    ∃ a n c xs, v = .slice a n c ∧ n ≤ 9223372036854775807 ∧ n ≤ c ∧ Wys (pW W) a n xs := by
  obtain ⟨a, n, c, E, rfl, hb, hc, hQ, s⟩ := open_slW Tryd.underlying23 pC43 (Q := fun cs => ∃ x : FWay, cs = x.cells) (fun m cs y h => trod_way h) h
  obtain ⟨z, hz⟩ := Go.Deep.choose_lt hQ
  refine ⟨a, n, c, (List.range n).map z, rfl, hb, hc, ?_⟩
  have : (List.range n).map E = wcs ((List.range n).map z) := by
    unfold wcs
    rw [List.map_map]
    exact List.map_congr_left fun i hi => hz i (List.mem_range.1 hi)
  unfold Wys
  rw [← this]; exact s
theorem open_town {base : Nat} {v : Value} {d : DataW H} {p : List MemPlace} (hv : Value.okWide Tryd.prog W .any base 25 v) (h : DataW.Trod enc Tryd.prog W 0 (fun _ => true) true 25 v d p) :
    ∃ a1 c1 a2 c2 a3 c3 t, v = .agg #[.slice a1 t.nH c1, .slice a2 t.nW c2, .slice a3 t.m c3] ∧ (t.nH ≤ 9223372036854775807 ∧ t.nW ≤ 9223372036854775807 ∧ t.m ≤ 9223372036854775807) ∧ t.m ≤ c3 ∧ TownP (pW W) a1 t.nH a2 t.nW a3 t.m t := by
  obtain ⟨v0, v1, v2, y0, y1, y2, n, rfl, _, _, h0, h1, h2⟩ := open_agg3 Tryd.underlying25 (by kernel_rfl) pC25 hv h
  obtain ⟨a1, n1, c1, hs, rfl, b1, _, T1⟩ := open_intsW h0
  obtain ⟨a2, n2, c2, ws, rfl, b2, _, T2⟩ := open_intsW h1
  obtain ⟨a3, n3, c3, wy, rfl, b3, hc, T3⟩ := open_waysW h2
  obtain rfl := T1.len
  obtain rfl := T2.len
  obtain rfl := T3.len
  exact ⟨a1, c1, a2, c2, a3, c3, ⟨hs, ws, wy⟩, rfl, ⟨b1, b2, b3⟩, hc, ⟨T1, T2, T3⟩⟩
theorem open_ints {base : Nat} {v : Value} {d : DataW H} {p : List MemPlace} (hv : Value.okWide Tryd.prog W .any base 22 v) (h : DataW.Trod enc Tryd.prog W 0 (fun _ => true) true 22 v d p) :
    ∃ a n c xs, v = .slice a n c ∧ n ≤ 9223372036854775807 ∧ Ints (pW W) a n xs := by
  obtain ⟨a0, n0, c0, rfl⟩ := okWide_slice Tryd.underlying22 hv
  obtain ⟨fuel, hf⟩ := h
  obtain ⟨a, n, c, xs, e, b, _, T⟩ := open_intsW hf
  exact ⟨a, n, c, xs, by simpa [Value.cells] using e, b, T⟩
theorem open_num {base : Nat} {v : Value} {d : DataW H} {p : List MemPlace} (hv : Value.okWide Tryd.prog W .any base 3 v) (h : DataW.Trod enc Tryd.prog W 0 (fun _ => true) true 3 v d p) : ∃ n : Int, v = .int .i64 n ∧ (-9223372036854775808 ≤ n ∧ n ≤ 9223372036854775807) := by
  obtain ⟨n, rfl, _, _, hw⟩ := open_int Tryd.underlying3 hv h
  refine ⟨n, rfl, ?_⟩
  simpa [Lit.wf, IntKind.min, IntKind.max, IntKind.signed, IntKind.bits] using hw
end

/-! ### what the rows list -/
theorem g_none : Tryd.prog.globalNamed "steening/buckets.none" = some 0 := by kernel_rfl
theorem g_tab : Tryd.prog.globalNamed "math/bits.deBruijn64tab" = some 2 := by kernel_rfl
theorem var_heap {W : World} {n : String} {g : Nat} {cs : Array Value} (hg : Tryd.prog.globalNamed n = some g) (h : W.var? Tryd.prog n = some cs) : ∃ t z, pW W g = some (.cells cs t z) := by
  unfold World.var? at h
  rw [hg] at h
  simp only [Option.bind_some] at h
  unfold pW
  split at h
  · rename_i c t f e
    obtain rfl := Option.some.inj h
    exact ⟨t, f, e⟩
  · cases h
theorem tab_of_laid {W : World} (h : laidMetH Tryd.prog Rows.bucketsAllRow.laid W) : TabP (pW W) := by
  rw [MakeChecks.laidMetH_plain _ _ _ (by kernel_rfl)] at h
  have h2 := laidMet.filter (fun x => x.1 == "math/bits.deBruijn64tab") h
  have e : (Rows.bucketsAllRow.laid.filter fun x => x.1 == "math/bits.deBruijn64tab") = [("math/bits.deBruijn64tab", Lib.tabData .u8 (tab64.map fun n => ((n : Nat) : Int)))] := by kernel_rfl
  rw [e] at h2
  have h3 := Lib.tabIs_of_head (t := 116) (e := 5) (n := 64) g_tab (by kernel_rfl) (by kernel_rfl) (by kernel_rfl) (by kernel_rfl) (by kernel_rfl) h2
  obtain ⟨t, z, h4⟩ := var_heap g_tab h3
  exact ⟨t, z, by rw [h4]; simp⟩
theorem none_of_laid {W : World} (h : laidMetH Tryd.prog Rows.bucketsAllRow.laid W) : NoneP (pW W) := by
  rw [MakeChecks.laidMetH_plain _ _ _ (by kernel_rfl)] at h
  have h2 := laidMet.filter (fun x => x.1 == "steening/buckets.none") h
  have e : (Rows.bucketsAllRow.laid.filter fun x => x.1 == "steening/buckets.none") = [("steening/buckets.none", .agg [.lit (.int .i64 (-1)), .lit (.int .i64 (-1)), .lit (.int .i64 0)])] := by kernel_rfl
  rw [e] at h2
  obtain ⟨ps, ⟨g', t', cs, fuel, p, q, hg', ht', hvar, hd, _, _⟩, _⟩ := h2
  obtain rfl := Option.some.inj (g_none.symm.trans hg')
  obtain rfl : t' = 72 := Option.some.inj (ht'.symm.trans (by kernel_rfl))
  obtain ⟨y0, y1, y2, n, hx, hl, h0, h1, h2⟩ := Go.Deep.trod_struct3 Tryd.underlying72 hd
  have e72 : Tryd.prog.cellsOf 72 = 3 := by kernel_rfl
  rw [e72] at hl
  obtain ⟨a, ha, ea, _⟩ := DataW.trod_int Tryd.underlying3 h0
  obtain ⟨b, hb, eb, _⟩ := DataW.trod_int Tryd.underlying3 h1
  obtain ⟨c, hc, ec, _⟩ := DataW.trod_int Tryd.underlying3 h2
  obtain ⟨l⟩ := cs
  match l, hl with
  | [u, v, w], _ =>
    simp only [pC3] at ha hb hc
    simp at ha hb hc
    rw [ea, eb, ec] at hx
    simp at hx
    obtain ⟨t, z, h4⟩ := var_heap g_none hvar
    refine ⟨t, z, ?_⟩
    rw [h4, ha, hb, hc, ← hx.1.1, ← hx.1.2.1, ← hx.1.2.2]
noncomputable def laidW (os : Os) : World := World.laidAll Tryd.prog os Rows.bucketsAllRow.laid
theorem laidW_met (os : Os) (args : Array Value) : laidMetH Tryd.prog Rows.bucketsAllRow.laid ((laidW os).forCall (fun _ _ => 0) ⟨#[], args, []⟩).memory := by
  rw [MakeChecks.laidMetH_plain _ _ _ (by kernel_rfl)]
  exact laidMet_laidAll _ (by kernel_rfl) (by kernel_rfl)
theorem below_of {w w' : World} (k : Keep w.heap w'.heap) (c : Go.X.Calm w w') : Below w.heap.size w w' := ⟨c.os, c.tape, c.output, c.size, fun b hb => k.keep b hb⟩
end Go.Proofs.YtalfgojocdonhaaDoor
namespace Go.X.Flow
open Go.X
theorem sm_take (xs : List Int) : ∀ k, k ≤ xs.length → sm k (dv xs) = (xs.take k).sum
  | 0, _ => by simp [sm]
  | k + 1, h => by
    have e : xs.take (k + 1) = xs.take k ++ [xs[k]] := List.take_succ_eq_append_getElem (by omega)
    have e2 : dv xs k = xs[k] := by unfold dv; rw [List.getD_eq_getElem?_getD, List.getElem?_eq_getElem (by omega)]; rfl
    rw [sm, sm_take xs k (by omega), e, e2, List.sum_append]; simp
theorem sm_sum (xs : List Int) : sm xs.length (dv xs) = xs.sum := by rw [sm_take xs _ (Nat.le_refl _), List.take_length]
theorem divF {t : Tn} (V : Vd t) (O : OkT t) {w : Wi} (S : Sg w) : DivI t (fairP t w) := (divI_iff V).2 (fairP_best O.toOk S).div
theorem all_eq {t : Tn} (O : OkT t) : sm t.nH (dv (LK t)) = sm t.nH (dv t.hs) - mostV t := by
  have h1 := sum_lacks O.toOk (fairP t none0)
  have h2 := sm_sum (LK t)
  rw [LK_len] at h2
  rw [h2]; exact h1
theorem most_bd {t : Tn} (O : OkT t) : 0 ≤ mostV t ∧ mostV t ≤ 54 ∧ 0 ≤ sm t.nH (dv t.hs) ∧ sm t.nH (dv t.hs) ≤ 54 := by
  have D := (fairP_best O.toOk none_sg).div
  have h1 : tot t (fairP t none0) ≤ sm t.nH t.hv := tot_le O.toOk D
  have h2 : 0 ≤ tot t (fairP t none0) := sm_nonneg fun i hi => D.pos i hi
  have h3 : sm t.nH t.hv ≤ sm t.nH (fun _ => 9) := sm_le fun i hi => (O.h i hi).2
  have h4 : sm t.nH (fun _ => (9 : Int)) = 9 * (t.nH : Int) := by
    have : ∀ k : Nat, sm k (fun _ => (9 : Int)) = 9 * (k : Int) := by
      intro k; induction k with
      | zero => rfl
      | succ k ih => rw [sm, ih]; omega
    exact this _
  have h5 := O.nh
  have h6 : sm t.nH (dv t.hs) = sm t.nH t.hv := rfl
  have h7 : mostV t = tot t (fairP t none0) := rfl
  omega
theorem lack_mem {t : Tn} (O : OkT t) {w : Wi} (S : Sg w) {h : Nat} (hh : h < t.nH) : lack t (fairP t w) h ∈ LK t := by
  rw [← (fair_fairest O.toOk S).lk O.toOk, lacks, (srt_perm _).mem_iff]
  exact List.mem_map.2 ⟨h, List.mem_range.2 hh, rfl⟩
structure OneF (t : Tn) (z : Int) : Prop where
  a : 0 ≤ drawV t z (-1)
  b : drawV t z 1 ≤ t.hs.getD z.toNat 0
  c : drawV t z (-1) ≤ drawI t (fairP t none0) (fairP t none0).length z
  d : drawI t (fairP t none0) (fairP t none0).length z ≤ drawV t z 1
  e : drawV t z 1 ≤ drawV t z (-1) + 1
  f : t.hs.getD z.toNat 0 - drawV t z (-1) ∈ LK t
  g : t.hs.getD z.toNat 0 - drawV t z 1 ∈ LK t
  h : t.hs.getD z.toNat 0 ≤ 9
theorem one_facts {t : Tn} (V : Vd t) (O : OkT t) {z : Int} (hz : 0 ≤ z ∧ z ≤ (t.nH : Int) - 1) : OneF t z := by
  obtain ⟨n, rfl⟩ := Int.eq_ofNat_of_zero_le hz.1
  have hn : n < t.nH := by omega
  have e : ∀ s, drawV t ((n : Nat) : Int) s = draw t (fairP t ⟨((n : Nat) : Int), -1, s⟩) n := fun s => by unfold drawV; rw [Int.toNat_natCast]
  have ed : drawI t (fairP t none0) (fairP t none0).length ((n : Nat) : Int) = draw t (fairP t none0) n := drawI_eq V.wok (by rw [fairP_len]) rfl
  have Sm : Sg ⟨((n : Nat) : Int), -1, -1⟩ := sg_of (by decide) (by decide)
  have Sp : Sg ⟨((n : Nat) : Int), -1, 1⟩ := sg_of (by decide) (by decide)
  have Dm := (fairP_best O.toOk Sm).div
  have Dp := (fairP_best O.toOk Sp).div
  have F := fair_fairest O.toOk none_sg
  have hv9 := O.h n hn
  refine ⟨?_, ?_, ?_, ?_, ?_, ?_, ?_, ?_⟩
  · rw [e]; exact draw_nonneg Dm n
  · rw [e, Int.toNat_natCast]; exact Dp.hs n hn
  · rw [e, ed]; exact house_min O.toOk hn F
  · rw [e, ed]; exact house_max O.toOk hn F
  · rw [e, e]; exact house_one O.toOk hn
  · rw [e, Int.toNat_natCast]; exact lack_mem O Sm hn
  · rw [e, Int.toNat_natCast]; exact lack_mem O Sp hn
  · rw [Int.toNat_natCast]; exact hv9.2
structure EachF (t : Tn) (d : List Int) : Prop where
  a : earlier (lacks t d) (LK t) = false
  b : 0 < t.nH → worstV t ≤ (lacks t d).getD 0 0
  c : t.nH = 0 → worstV t = 0
  e : sm d.length (dv d) ≤ mostV t
theorem each_facts {t : Tn} (V : Vd t) (O : OkT t) {d : List Int} (hd : DivI t d) : EachF t d := by
  have D := (divI_iff V).1 hd
  refine ⟨LK_least O.toOk D, fun h0 => ?_, fun h0 => ?_, ?_⟩
  · have h := LK_least O.toOk D
    have l1 := lacks_len t d; have l2 := LK_len t
    unfold worstV
    match h1 : lacks t d, h2 : LK t with
    | [], _ => rw [h1] at l1; simp at l1; omega
    | _ :: _, [] => rw [h2] at l2; simp at l2; omega
    | x :: xs, y :: ys =>
      rw [h1, h2] at h
      simp only [earlier] at h
      simp only [List.getD_cons_zero]
      split at h
      · omega
      · have := of_decide_eq_false h; omega
  · unfold worstV
    have := LK_len t
    rw [List.eq_nil_of_length_eq_zero (by omega : (LK t).length = 0)]; rfl
  · rw [hd.len]; exact Best.most O.toOk (fairP_best O.toOk none_sg) D
end Go.X.Flow
