/-
  CisternsMore, for every input: the law returns true and leaves its arguments as they were. No condition.
-/
import Derived.Test.YtbmkacnlhlbnjaaB3x
import Derived.Test.YtbmkacnlhlbnjaaB4
import Derived.Test.YtbmkacnlhlbnjaaRows
import Derived.Test.YtbmkacnlhlbnjaaB6
import Derived.Test.YtbmkacnlhlbnjaaB2
import Derived.Test.YtbmkacnlhlbnjaaB5
namespace Go.Proofs.Ytbmkacnlhlbnjaa
open Go.X Go.X.Cist Go.Conc Go.RowKit Go.ChangeShapes Go.WideShapes Go.ChangeAt Go.Joins

set_option maxRecDepth 100000

theorem pOwn : ownKnob Try.prog.godebug = none := by kernel_rfl
theorem pLaid : laidOutB Try.prog = true := by kernel_rfl
theorem pC3 : Try.prog.cellsOf 3 = 1 := by kernel_rfl
theorem pC24 : Try.prog.cellsOf 24 = 3 := by kernel_rfl
theorem pC36 : Try.prog.cellsOf 36 = 2 := by kernel_rfl
theorem pC38 : Try.prog.cellsOf 38 = 3 := by kernel_rfl

section
variable {H : Type} {enc : TypeId × Value → H} {W : World}
theorem trod_day {m : Nat} {cs : List Value} {y : DataW H × List MemPlace} (h : DataW.trod enc Try.prog W 0 (fun _ => true) true m 38 cs = some y) : ∃ d : Day, cs = d.cells := by
  obtain ⟨y0, y1, n, _, hl, h0, h1⟩ := trod_struct2 Try.underlying38 h
  obtain ⟨z0, z1, n', _, hl', h2, h3⟩ := trod_struct2 Try.underlying36 h0
  rw [pC38] at hl
  obtain ⟨a, ha⟩ := trod_i64 Try.underlying3 h2
  obtain ⟨b, hb⟩ := trod_i64 Try.underlying3 h3
  obtain ⟨c, hc⟩ := trod_i64 Try.underlying3 h1
  match cs, hl with
  | [u, v, w], _ =>
    refine ⟨⟨a, b, c⟩, ?_⟩
    simp [pC36, pC3] at ha hb hc
    simp [Day.cells, ha, hb, hc]
theorem open_days {fuel : Nat} {v : Value} {y : DataW H × List MemPlace} (h : DataW.trod enc Try.prog W 0 (fun _ => true) true fuel 22 [v] = some y) : ∃ a n c ds, v = .slice a n c ∧ Days (vwP W) a n ds := by
  obtain ⟨a, n, c, E, rfl, hQ, s⟩ := open_sl Try.underlying22 pC38 (Q := fun cs => ∃ d : Day, cs = d.cells) (fun m cs y h => trod_day h) h
  obtain ⟨z, hz⟩ := Go.Deep.choose_lt hQ
  refine ⟨a, n, c, (List.range n).map z, rfl, ?_⟩
  have : (List.range n).map E = dcs ((List.range n).map z) := by
    unfold dcs
    rw [List.map_map]
    exact List.map_congr_left fun i hi => hz i (List.mem_range.1 hi)
  unfold Days
  rw [← this]; exact s
theorem open_year {base : Nat} {v : Value} {d : DataW H} {p : List MemPlace} (hv : Value.okWide Try.prog W .any base 24 v) (h : DataW.Trod enc Try.prog W 0 (fun _ => true) true 24 v d p) :
    ∃ size start a n c ds, v = .agg #[.int .i64 size, .int .i64 start, .slice a n c] ∧ Days (vwP W) a n ds := by
  obtain ⟨v0, v1, v2, y0, y1, y2, n, rfl, _, _, h0, h1, h2⟩ := open_agg3 Try.underlying24 (by kernel_rfl) pC24 hv h
  obtain ⟨size, e0⟩ := trod_i64 Try.underlying3 h0
  obtain ⟨start, e1⟩ := trod_i64 Try.underlying3 h1
  obtain ⟨a, n, c, ds, rfl, D⟩ := open_days h2
  obtain rfl : v0 = _ := by simpa using e0
  obtain rfl : v1 = _ := by simpa using e1
  exact ⟨size, start, a, n, c, ds, rfl, D⟩
theorem open_list {base : Nat} {v : Value} {d : DataW H} {p : List MemPlace} (hv : Value.okWide Try.prog W .any base 25 v) (h : DataW.Trod enc Try.prog W 0 (fun _ => true) true 25 v d p) : ∃ a n c xs, v = .slice a n c ∧ Ints (vwP W) a n xs := by
  obtain ⟨a, n, c, rfl⟩ := okWide_slice Try.underlying25 hv
  obtain ⟨fuel, hf⟩ := h
  exact open_intsX Try.underlying25 Try.underlying3 pC3 hf
theorem open_num {base : Nat} {v : Value} {d : DataW H} {p : List MemPlace} (hv : Value.okWide Try.prog W .any base 3 v) (h : DataW.Trod enc Try.prog W 0 (fun _ => true) true 3 v d p) : ∃ n : Int, v = .int .i64 n ∧ (-9223372036854775808 ≤ n ∧ n ≤ 9223372036854775807) := by
  obtain ⟨n, rfl, _, _, hw⟩ := open_int Try.underlying3 hv h
  refine ⟨n, rfl, ?_⟩
  simpa [Lit.wf, IntKind.min, IntKind.max, IntKind.signed, IntKind.bits] using hw
end
end Go.Proofs.Ytbmkacnlhlbnjaa
namespace Go.X.Cist
open Go.X Go.Proofs.Ytbmkacnlhlbnjaa

/-- What is left of a level and what comes, behind a want. -/
theorem lev_succ (size start : Int) (want rain : Nat → Int) (k : Nat) : lev size start want rain (k + 1) = lev size start want rain k + rain k - ovr size start want rain k - (want k - lack size start want rain k) := rfl
theorem sumTo_congr {f g : Nat → Int} : ∀ {k : Nat}, (∀ i, i < k → f i = g i) → sumTo f k = sumTo g k
  | 0, _ => rfl
  | k + 1, h => by simp only [sumTo]; rw [sumTo_congr fun i hi => h i (by omega), h k (by omega)]
theorem sumTo_le {f g : Nat → Int} : ∀ {k : Nat}, (∀ i, i < k → f i ≤ g i) → sumTo f k ≤ sumTo g k
  | 0, _ => Int.le_refl _
  | k + 1, h => by
    have h1 := sumTo_le (k := k) (f := f) (g := g) fun i hi => h i (by omega)
    have h2 := h k (by omega)
    simp only [sumTo]; omega
theorem sum_nums {f : Nat → Int} {n j : Nat} (h : j ≤ n) : sumTo (listOf (nums f n)) j = sumTo f j := sumTo_congr fun i hi => nums_getD (by omega)
theorem sum_at {f : Nat → Int} {n k : Nat} (h : k < n) : sumTo (listOf (nums f n)) (min n (((k : Nat) : Int) + 1).toNat) = sumTo f (k + 1) := by
  rw [show min n (((k : Nat) : Int) + 1).toNat = k + 1 from by omega]; exact sum_nums (by omega)

theorem lack_le {size start : Int} {want rain : Nat → Int} {k : Nat} (h : 0 ≤ lev size start want rain k ∧ lev size start want rain k ≤ size) (hw : 0 ≤ want k) (hr : 0 ≤ rain k) : 0 ≤ lack size start want rain k ∧ lack size start want rain k ≤ want k := by
  unfold lack ovr; omega
theorem ovr_le {size start : Int} {want rain : Nat → Int} {k : Nat} (h : 0 ≤ lev size start want rain k ∧ lev size start want rain k ≤ size) (hr : 0 ≤ rain k) : 0 ≤ ovr size start want rain k ∧ ovr size start want rain k ≤ rain k := by
  unfold ovr; omega

section
variable {size start : Int} {ds : List Day} {xs ys : List Int}
/-- What is known of a day of a valid year in a weather. -/
theorem day_ok (hOk : Ok size start ds) (hW : Weather ds xs) {k : Nat} (hk : k < ds.length) :
    (0 ≤ lev size start (wantOf ds) (listOf xs) k ∧ lev size start (wantOf ds) (listOf xs) k ≤ size) ∧ (0 ≤ levs size start (wantOf ds) (listOf xs) k ∧ levs size start (wantOf ds) (listOf xs) k ≤ size) ∧
    (0 ≤ lack size start (wantOf ds) (listOf xs) k ∧ lack size start (wantOf ds) (listOf xs) k ≤ (ds.getD k dz).want) ∧ (0 ≤ ovr size start (wantOf ds) (listOf xs) k ∧ ovr size start (wantOf ds) (listOf xs) k ≤ 20) ∧ 0 ≤ listOf xs k ∧ listOf xs k ≤ 20 := by
  have h0 := (lok_day hOk.lok hW (k := k) (by omega)).2.1
  have h1 := (lok_day hOk.lok hW (k := k + 1) (by omega)).2.1
  have h2 := (lok_day hOk.lok hW (k := k) (by omega)).2.2 hk
  have h3 : 0 ≤ listOf xs k ∧ listOf xs k ≤ 20 := h2.1
  have h4 := lack_le (want := wantOf ds) (rain := listOf xs) h0 h2.2.1 h3.1
  have h5 := ovr_le (want := wantOf ds) (rain := listOf xs) h0 h3.1
  exact ⟨h0, h1, h4, ⟨h5.1, by omega⟩, h3⟩
theorem overs_ok (hOk : Ok size start ds) (hW : Weather ds xs) {n : Nat} (hl : ds.length = n) (i : Nat) (hi : i < n) : 0 ≤ (nums (ovr size start (wantOf ds) (listOf xs)) n).getD i 0 ∧ (nums (ovr size start (wantOf ds) (listOf xs)) n).getD i 0 ≤ 100 := by
  rw [nums_getD hi]
  have := (day_ok hOk hW (k := i) (by omega)).2.2.2.1
  omega

/-! ### more rain -/
theorem more_lev {want r r' : Nat → Int} {n : Nat} (h : ∀ i, i < n → r i ≤ r' i) : ∀ k, k ≤ n → lev size start want r k ≤ lev size start want r' k
  | 0, _ => Int.le_refl _
  | k + 1, hk => by
    have h1 := more_lev (want := want) h k (by omega)
    have h2 := h k (by omega)
    simp only [lev]; omega
theorem more_lack {want r r' : Nat → Int} {n : Nat} (h : ∀ i, i < n → r i ≤ r' i) (k : Nat) (hk : k < n) : lack size start want r' k ≤ lack size start want r k := by
  have h1 := more_lev (size := size) (start := start) (want := want) h k (by omega)
  have h2 := h k hk
  unfold lack ovr; omega
theorem more_ovr {want r r' : Nat → Int} {n : Nat} (h : ∀ i, i < n → r i ≤ r' i) (k : Nat) (hk : k < n) : ovr size start want r k ≤ ovr size start want r' k := by
  have h1 := more_lev (size := size) (start := start) (want := want) h k (by omega)
  have h2 := h k hk
  unfold ovr; omega
theorem more_day {n k : Nat} (hk : k < n) (h : ∀ i, i < n → xs.getD i 0 ≤ ys.getD i 0) :
    (nums (levs size start (wantOf ds) (listOf xs)) n).getD k 0 ≤ (nums (levs size start (wantOf ds) (listOf ys)) n).getD k 0 ∧
    (nums (lack size start (wantOf ds) (listOf ys)) n).getD k 0 ≤ (nums (lack size start (wantOf ds) (listOf xs)) n).getD k 0 ∧
    sumTo (listOf (nums (ovr size start (wantOf ds) (listOf xs)) n)) (min n (((k : Nat) : Int) + 1).toNat) ≤ sumTo (listOf (nums (ovr size start (wantOf ds) (listOf ys)) n)) (min n (((k : Nat) : Int) + 1).toNat) := by
  rw [nums_getD hk, nums_getD hk, nums_getD hk, nums_getD hk, sum_at hk, sum_at hk]
  exact ⟨more_lev (r := listOf xs) (r' := listOf ys) h (k + 1) hk, more_lack (r := listOf xs) (r' := listOf ys) h k hk, sumTo_le fun i hi => more_ovr (r := listOf xs) (r' := listOf ys) h i (by omega)⟩

/-! ### nothing is lost -/
theorem balance {want rain : Nat → Int} : ∀ k, start + sumTo rain k = lev size start want rain k + sumTo (fun i => want i - lack size start want rain i) k + sumTo (ovr size start want rain) k
  | 0 => by simp [sumTo, lev]
  | k + 1 => by
    have h := balance (want := want) (rain := rain) k
    rw [lev_succ]; simp only [sumTo]; omega
theorem bal_day (hOk : Ok size start ds) (hW : Weather ds xs) {n k : Nat} (hl : ds.length = n) (hk : k < n) :
    start + sumTo (listOf xs) k + xs.getD k 0 = (nums (levs size start (wantOf ds) (listOf xs)) n).getD k 0 + (sumTo (fun i => wantOf ds i - lack size start (wantOf ds) (listOf xs) i) k + ((ds.getD k dz).want - (nums (lack size start (wantOf ds) (listOf xs)) n).getD k 0)) +
      sumTo (listOf (nums (ovr size start (wantOf ds) (listOf xs)) n)) (min n (((k : Nat) : Int) + 1).toNat) ∧
    (0 < (nums (lack size start (wantOf ds) (listOf xs)) n).getD k 0 → (nums (levs size start (wantOf ds) (listOf xs)) n).getD k 0 ≤ 0) ∧
    (0 < (nums (ovr size start (wantOf ds) (listOf xs)) n).getD k 0 → (nums (levs size start (wantOf ds) (listOf xs)) n).getD k 0 + ((ds.getD k dz).want - (nums (lack size start (wantOf ds) (listOf xs)) n).getD k 0) = size) ∧
    (0 ≤ (nums (levs size start (wantOf ds) (listOf xs)) n).getD k 0 ∧ (nums (levs size start (wantOf ds) (listOf xs)) n).getD k 0 ≤ 60) ∧ (0 ≤ (nums (lack size start (wantOf ds) (listOf xs)) n).getD k 0 ∧ (nums (lack size start (wantOf ds) (listOf xs)) n).getD k 0 ≤ (ds.getD k dz).want) ∧ (ds.getD k dz).want ≤ 20 ∧
    (0 ≤ sumTo (listOf (nums (ovr size start (wantOf ds) (listOf xs)) n)) (min n (((k : Nat) : Int) + 1).toNat) ∧ sumTo (listOf (nums (ovr size start (wantOf ds) (listOf xs)) n)) (min n (((k : Nat) : Int) + 1).toNat) ≤ 20 * (k + 1)) ∧
    (0 ≤ xs.getD k 0 ∧ xs.getD k 0 ≤ 20) := by
  subst hl
  have hb := balance (size := size) (start := start) (want := wantOf ds) (rain := listOf xs) (k + 1)
  have hd := day_ok hOk hW hk
  have hw := hOk.2.2.2.2.2 k hk
  have hs := sum_bound (size := size) (start := start) (want := wantOf ds) (rain := listOf xs) (n := ds.length) ⟨hOk.2.2.1, hOk.2.2.2.1⟩ (fun i hi => (hOk.dok i hi).2.1) (fun i hi => (day_ok hOk hW hi).2.2.2.2) (k + 1) hk
  have hz := hOk.2.1
  rw [nums_getD hk, nums_getD hk, nums_getD hk, sum_at hk]
  unfold DayOk at hw
  simp only [sumTo] at hb
  have h3 : lev size start (wantOf ds) (listOf xs) (k + 1) = levs size start (wantOf ds) (listOf xs) k := rfl
  have h4 : listOf xs k = xs.getD k 0 := rfl
  have h5 : wantOf ds k = (ds.getD k dz).want := rfl
  have h6 : sumTo (ovr size start (wantOf ds) (listOf xs)) (k + 1) = sumTo (ovr size start (wantOf ds) (listOf xs)) k + ovr size start (wantOf ds) (listOf xs) k := rfl
  have h7 : levs size start (wantOf ds) (listOf xs) k = lev size start (wantOf ds) (listOf xs) k + listOf xs k - ovr size start (wantOf ds) (listOf xs) k - (wantOf ds k - lack size start (wantOf ds) (listOf xs) k) := rfl
  have h8 : lack size start (wantOf ds) (listOf xs) k = max 0 (wantOf ds k - (lev size start (wantOf ds) (listOf xs) k + listOf xs k - ovr size start (wantOf ds) (listOf xs) k)) := rfl
  have h9 : ovr size start (wantOf ds) (listOf xs) k = max 0 (lev size start (wantOf ds) (listOf xs) k + listOf xs k - size) := rfl
  omega
end
end Go.X.Cist
namespace Go.Proofs.Ytbmkacnlhlbnjaa
open Go.X Go.X.Cist Go.Conc
set_option maxRecDepth 10000

theorem c19 (md : Md) (h : Heap) (p : PHeap) (hp : Per p h) (size start : Int) (a : Option Addr) (n c : Nat) (ds : List Day) (D : Days p a n ds) (hn : n ≤ 40) (b : Option Addr) (m d : Nat) (xs : List Int) (W : Ints p b m xs) (hm40 : m ≤ 40) (hOk : Ok size start ds) (hW : Weather ds xs) : CallsX Try.prog md 19 #[.agg #[.int .i64 (size), .int .i64 (start), .slice a n c], .slice b m d] h fun v h' => ∃ w1 w2 w3 X1 X2 X3, v = .tuple #[.agg #[w1, w2, w3], .bool true] ∧ OwnS 3 1 w1 (ns (levs size start (wantOf ds) (listOf xs)) n) X1 ∧ OwnS 3 1 w2 (ns (lack size start (wantOf ds) (listOf xs)) n) X2 ∧ OwnS 3 1 w3 (ns (ovr size start (wantOf ds) (listOf xs)) n) X3 ∧ New h h' (X1 ++ (X2 ++ (X3 ++ []))) := by
  refine calls_intro (Φ := fun h_ => St h [] p h_ []) Try.func19 rfl (tm := [_, _, _, _, _, _, _, _, _, _, _, _, _, _, _, _, _, _, _, _, _, _, _, _, _, _, _, _, _, _, _, _, _, _, _, _, _, _, _, _, _, _, _, _, _, _, _, _, _, _, _, _, _, _, _, _, _, _, _, _, _, _, _, _, _, _, _, _, _, _, _, _, _, _, _, _, _, _, _, _, _, _, _, _, _, _, _, _]) rfl ?_ (St.start h _ hp)
  intro c₀ cs Stop K
  have hl := D.len
  refine fl_seq ?_
  refine rl_start ?_
  refine rl_box (met_none rfl) (v := .agg #[.int .i64 (size), .int .i64 (start), .slice a n c]) rfl fun b1 => rl_own (L' := [(b1, .cells #[.int .i64 (size), .int .i64 (start), .slice a n c] 24 (0, 0))]) rfl ?_
  refine rl_norm (tm' := _::_::_::_) rfl ?_
  refine rl_alloc (met_none rfl) tZ30 rfl fun b2 => rl_own (L' := [(b2, .cells #[.slice none 0 0, .slice none 0 0, .slice none 0 0] 30 (0, 0)), (b1, .cells #[.int .i64 (size), .int .i64 (start), .slice a n c] 24 (0, 0))]) rfl ?_
  refine rl_norm (tm' := _::_::_::_::_::_) rfl ?_
  refine rl_det (met_none rfl) (fun h_ H_ => exd_assign (v := .bool (false)) rfl) (tm' := _::_::_::_::_::_::_) rfl ?_
  refine rl_end ?_
  refine fl_seq ?_
  refine rl_start ?_
  refine rl_det (met_none rfl) (fun h_ H_ => exd_loadN_own H_ tA24 tS24 rfl (i := 1) rfl (vs := [.int .i64 (size), .int .i64 (start), .slice a n c]) rfl rfl) (tm' := _::_::_::_::_::_::_::_::_::_::_::_::_::_) rfl ?_
  refine rl_own (L' := ([(b2, .cells #[.slice none 0 0, .slice none 0 0, .slice none 0 0] 30 (0, 0)), (b1, .cells #[.int .i64 (size), .int .i64 (start), .slice a n c] 24 (0, 0))] : Pcs) ++ []) rfl ?_
  refine rl_call (met_none rfl) (first := []) (cap := []) rfl rfl fC30 (R := fun v_ h_ => ∃ w3 : Value, ∃ X4 : Pcs, v_ = .agg #[.int .i64 (size), .int .i64 (start), w3] ∧ (OwnS 38 3 w3 (dcs ds) X4) ∧ St h [] p h_ (([(b2, .cells #[.slice none 0 0, .slice none 0 0, .slice none 0 0] 30 (0, 0)), (b1, .cells #[.int .i64 (size), .int .i64 (start), .slice a n c] 24 (0, 0))] : Pcs) ++ (X4 ++ []))) (fun h_ H_ => (c30 md _ _ (fun b_ o_ e_ => H_.per b_ o_ e_) (size) (start) _ _ _ _ D (by omega)).mono fun v_ h2_ ⟨w3, X4, e_, o5, N_⟩ => ⟨w3, X4, e_, o5, H_.callNA N_⟩) fun v_ => ?_
  refine rl_ex fun w3 => rl_ex fun X4 => rl_and fun ev_ => rl_and fun o5 => ?_
  have ev_ := ev_.symm; subst ev_
  refine rl_own (L' := ([(b2, .cells #[.slice none 0 0, .slice none 0 0, .slice none 0 0] 30 (0, 0)), (b1, .cells #[.int .i64 (size), .int .i64 (start), .slice a n c] 24 (0, 0))] : Pcs) ++ (X4 ++ [])) rfl ?_
  refine rl_norm (tm' := _::_::_::_::_::_::_::_::_::_::_::_::_::_::_) rfl ?_
  refine rl_buildO ([(b2, .cells #[.slice none 0 0, .slice none 0 0, .slice none 0 0] 30 (0, 0)), (b1, .cells #[.int .i64 (size), .int .i64 (start), .slice a n c] 24 (0, 0))] : Pcs) (met_none rfl) Try.underlying25 tS3 tZ3 (Nat.le_of_ble_eq_true rfl) (vs := []) rfl rfl (es := []) rfl rfl rfl fun v6 X7 o8 => ?_
  refine rl_norm (tm' := _::_::_::_::_::_::_::_::_::_::_::_::_::_::_::_) rfl ?_
  refine rl_det (met_none rfl) (fun h_ H_ => exd_move (v := .slice b m d) rfl) (tm' := _::_::_::_::_::_::_::_::_::_::_::_::_::_::_::_::_) rfl ?_
  refine rl_appendP ([(b2, .cells #[.slice none 0 0, .slice none 0 0, .slice none 0 0] 30 (0, 0)), (b1, .cells #[.int .i64 (size), .int .i64 (start), .slice a n c] 24 (0, 0))] : Pcs) X7 (met_none rfl) Try.underlying25 tS3 tZ3 rfl tB3 Try.underlying25 rfl rfl o8 W (ints_ones _) (by first | omega | (simp; omega) | simp) (by decide) (by decide) fun v9 X10 o11 => ?_
  refine rl_norm (tm' := _::_::_::_::_::_::_::_::_::_::_::_::_::_::_::_::_::_) rfl ?_
  refine rl_perm (List.Perm.append_left _ (List.perm_append_comm_assoc _ _ _)) ?_
  refine rl_own (L' := ([(b2, .cells #[.slice none 0 0, .slice none 0 0, .slice none 0 0] 30 (0, 0)), (b1, .cells #[.int .i64 (size), .int .i64 (start), .slice a n c] 24 (0, 0))] : Pcs) ++ (X4 ++ (X10 ++ []))) rfl ?_
  refine rl_lastN (A := ([(b2, .cells #[.slice none 0 0, .slice none 0 0, .slice none 0 0] 30 (0, 0)), (b1, .cells #[.int .i64 (size), .int .i64 (start), .slice a n c] 24 (0, 0))] : Pcs)) o5 (show (dcs ds).length = n by rw [dcs_length]; omega) fun p12 a13 cp14 le15 ev_ D16 => ?_
  subst ev_
  refine rl_lastN (A := ([(b2, .cells #[.slice none 0 0, .slice none 0 0, .slice none 0 0] 30 (0, 0)), (b1, .cells #[.int .i64 (size), .int .i64 (start), .slice a n c] 24 (0, 0))] : Pcs)) o11 (by have h_ := W.len; simpa using h_) fun p17 a18 cp19 le20 ev_ D21 => ?_
  subst ev_
  refine rl_own (L' := [(b2, .cells #[.slice none 0 0, .slice none 0 0, .slice none 0 0] 30 (0, 0)), (b1, .cells #[.int .i64 (size), .int .i64 (start), .slice a n c] 24 (0, 0))]) rfl ?_
  refine rl_own (L' := ([(b2, .cells #[.slice none 0 0, .slice none 0 0, .slice none 0 0] 30 (0, 0)), (b1, .cells #[.int .i64 (size), .int .i64 (start), .slice a n c] 24 (0, 0))] : Pcs) ++ []) rfl ?_
  refine rl_call (met_none rfl) (first := []) (cap := []) rfl rfl fC34 (R := fun v_ h_ => ∃ w22 : Value, ∃ w23 : Value, ∃ w24 : Value, ∃ X25 : Pcs, ∃ X26 : Pcs, ∃ X27 : Pcs, v_ = .tuple #[w22, w23, w24, .int .i64 0] ∧ (OwnS 3 1 w22 (ns (levs size start (wantOf ds) (listOf xs)) n) X25) ∧ (OwnS 3 1 w23 (ns (lack size start (wantOf ds) (listOf xs)) n) X26) ∧ (OwnS 3 1 w24 (ns (ovr size start (wantOf ds) (listOf xs)) n) X27) ∧ St h [] p17 h_ (([(b2, .cells #[.slice none 0 0, .slice none 0 0, .slice none 0 0] 30 (0, 0)), (b1, .cells #[.int .i64 (size), .int .i64 (start), .slice a n c] 24 (0, 0))] : Pcs) ++ ((X25 ++ (X26 ++ (X27 ++ []))) ++ []))) (fun h_ H_ => (c34ok md _ _ (fun b_ o_ e_ => H_.per b_ o_ e_) (size) (start) _ _ _ _ ((show Days _ _ _ ds from D16).mono le20) (by omega) _ _ _ _ (show Ints _ _ _ xs from D21) (by omega) hOk hW).mono fun v_ h2_ ⟨w22, w23, w24, X25, X26, X27, e_, o28, o29, o30, N_⟩ => ⟨w22, w23, w24, X25, X26, X27, e_, o28, o29, o30, H_.callNA N_⟩) fun v_ => ?_
  refine rl_ex fun w22 => rl_ex fun w23 => rl_ex fun w24 => rl_ex fun X25 => rl_ex fun X26 => rl_ex fun X27 => rl_and fun ev_ => rl_and fun o28 => rl_and fun o29 => rl_and fun o30 => ?_
  have ev_ := ev_.symm; subst ev_
  refine rl_own (L' := ([(b2, .cells #[.slice none 0 0, .slice none 0 0, .slice none 0 0] 30 (0, 0)), (b1, .cells #[.int .i64 (size), .int .i64 (start), .slice a n c] 24 (0, 0))] : Pcs) ++ (X25 ++ (X26 ++ (X27 ++ [])))) (by simp) ?_
  refine rl_norm (tm' := _::_::_::_::_::_::_::_::_::_::_::_::_::_::_::_::_::_::_) rfl ?_
  refine rl_det (met_none rfl) (fun h_ H_ => exd_move (v := .tuple #[w22, w23, w24, .int .i64 0]) rfl) (tm' := _::_::_::_::_::_::_::_::_::_::_::_::_) rfl ?_
  refine rl_det (met_none rfl) (fun h_ H_ => exd_extract rfl (v := w22) rfl) (tm' := _::_::_::_::_::_::_::_::_::_::_::_::_::_::_::_::_::_::_::_) rfl ?_
  refine rl_det (met_none rfl) (fun h_ H_ => exd_extract rfl (v := w23) rfl) (tm' := _::_::_::_::_::_::_::_::_::_::_::_::_::_::_::_::_::_::_::_::_) rfl ?_
  refine rl_det (met_none rfl) (fun h_ H_ => exd_extract rfl (v := w24) rfl) (tm' := _::_::_::_::_::_::_::_::_::_::_::_::_::_::_::_::_::_::_::_::_::_) rfl ?_
  refine rl_det (met_none rfl) (fun h_ H_ => exd_extract rfl (v := .int .i64 0) rfl) (tm' := _::_::_::_::_::_::_::_::_::_::_::_::_::_::_::_::_::_::_::_::_::_::_) rfl ?_
  refine rl_det (met_none rfl) (fun h_ H_ => exd_assign (v := w22) rfl) (tm' := _::_::_::_::_::_::_::_) rfl ?_
  refine rl_det (met_none rfl) (fun h_ H_ => exd_assign (v := w23) rfl) (tm' := _::_::_::_::_::_::_::_::_) rfl ?_
  refine rl_det (met_none rfl) (fun h_ H_ => exd_assign (v := w24) rfl) (tm' := _::_::_::_::_::_::_::_::_::_) rfl ?_
  refine rl_det (met_none rfl) (fun h_ H_ => exd_assign (v := .int .i64 0) rfl) (tm' := _::_::_::_::_::_::_::_::_::_::_) rfl ?_
  refine rl_end ?_
  refine fl_seq ?_
  refine fl_seq ?_
  refine rl_start ?_
  refine rl_det (met_none rfl) (fun h_ H_ => exd_move (v := .int .i64 0) rfl) (tm' := _::_::_::_::_::_::_::_::_::_::_::_::_::_::_::_::_::_::_::_::_::_::_::_) rfl ?_
  refine rl_det (met_none rfl) (fun h_ H_ => exd_neq rfl rfl) (tm' := _::_::_::_::_::_::_::_::_::_::_::_::_::_::_::_::_::_::_::_::_::_::_::_::_) rfl ?_
  refine rl_det (met_none rfl) (fun h_ H_ => exd_move (v := .bool (decide ((0 : Int) ≠ 0))) rfl) (tm' := _::_::_::_::_::_::_::_::_::_::_::_::_::_::_::_::_::_::_::_::_::_::_::_::_::_) rfl ?_
  refine rl_det (met_some rfl rfl (decide_eq_false (by decide))) (fun h_ H_ => exd_move (v := w22) rfl) (tm' := _::_::_::_::_::_::_::_::_::_::_::_::_::_::_::_::_::_::_::_::_::_::_::_::_::_::_) rfl ?_
  refine rl_det (met_some rfl rfl (decide_eq_false (by decide))) (fun h_ H_ => exd_lenN o28 (ns_length _ _) Try.underlying25 rfl) (tm' := _::_::_::_::_::_::_::_::_::_::_::_::_::_::_::_::_::_::_::_::_::_::_::_::_::_::_::_) rfl ?_
  refine rl_det (met_some rfl rfl (decide_eq_false (by decide))) (fun h_ H_ => exd_fieldAddr tF24_2 rfl (a' := ⟨b1, 2, none⟩) rfl) (tm' := _::_::_::_::_::_::_::_::_::_::_::_::_::_::_::_::_::_::_::_::_::_::_::_::_::_::_::_::_) rfl ?_
  refine rl_det (met_some rfl rfl (decide_eq_false (by decide))) (fun h_ H_ => exd_load_own H_ tA22 rfl (i := 1) rfl (v := .slice a n c) rfl) (tm' := _::_::_::_::_::_::_::_::_::_::_::_::_::_::_::_::_::_::_::_::_::_::_::_::_::_::_::_::_::_) rfl ?_
  refine rl_det (met_some rfl rfl (decide_eq_false (by decide))) (fun h_ H_ => exd_len Try.underlying22 rfl) (tm' := _::_::_::_::_::_::_::_::_::_::_::_::_::_::_::_::_::_::_::_::_::_::_::_::_::_::_::_::_::_::_) rfl ?_
  refine rl_det (met_some rfl rfl (decide_eq_false (by decide))) (fun h_ H_ => exd_neq rfl rfl) (tm' := _::_::_::_::_::_::_::_::_::_::_::_::_::_::_::_::_::_::_::_::_::_::_::_::_::_::_::_::_::_::_::_) rfl ?_
  refine rl_det (met_none rfl) (fun h_ H_ => exd_pick_f rfl (decide_eq_false (by decide)) (v := .bool (decide (((n : Nat) : Int) ≠ ((n : Nat) : Int)))) rfl) (tm' := _::_::_::_::_::_::_::_::_::_::_::_::_::_::_::_::_::_::_::_::_::_::_::_::_::_::_::_::_::_::_::_::_) rfl ?_
  refine rl_det (met_none rfl) (fun h_ H_ => exd_move (v := .bool (decide (((n : Nat) : Int) ≠ ((n : Nat) : Int)))) rfl) (tm' := _::_::_::_::_::_::_::_::_::_::_::_::_::_::_::_::_::_::_::_::_::_::_::_::_::_::_::_::_::_::_::_::_::_) rfl ?_
  refine rl_det (met_some rfl rfl (decide_eq_false (fun h_ => h_ rfl))) (fun h_ H_ => exd_move (v := w23) rfl) (tm' := _::_::_::_::_::_::_::_::_::_::_::_::_::_::_::_::_::_::_::_::_::_::_::_::_::_::_::_::_::_::_::_::_::_::_) rfl ?_
  refine rl_det (met_some rfl rfl (decide_eq_false (fun h_ => h_ rfl))) (fun h_ H_ => exd_lenN o29 (ns_length _ _) Try.underlying25 rfl) (tm' := _::_::_::_::_::_::_::_::_::_::_::_::_::_::_::_::_::_::_::_::_::_::_::_::_::_::_::_::_::_::_::_::_::_::_::_) rfl ?_
  refine rl_det (met_some rfl rfl (decide_eq_false (fun h_ => h_ rfl))) (fun h_ H_ => exd_move (v := w22) rfl) (tm' := _::_::_::_::_::_::_::_::_::_::_::_::_::_::_::_::_::_::_::_::_::_::_::_::_::_::_::_::_::_::_::_::_::_::_::_::_) rfl ?_
  refine rl_det (met_some rfl rfl (decide_eq_false (fun h_ => h_ rfl))) (fun h_ H_ => exd_lenN o28 (ns_length _ _) Try.underlying25 rfl) (tm' := _::_::_::_::_::_::_::_::_::_::_::_::_::_::_::_::_::_::_::_::_::_::_::_::_::_::_::_::_::_::_::_::_::_::_::_::_::_) rfl ?_
  refine rl_det (met_some rfl rfl (decide_eq_false (fun h_ => h_ rfl))) (fun h_ H_ => exd_neq rfl rfl) (tm' := _::_::_::_::_::_::_::_::_::_::_::_::_::_::_::_::_::_::_::_::_::_::_::_::_::_::_::_::_::_::_::_::_::_::_::_::_::_::_) rfl ?_
  refine rl_det (met_none rfl) (fun h_ H_ => exd_pick_f rfl (decide_eq_false (fun h_ => h_ rfl)) (v := .bool (decide (((n : Nat) : Int) ≠ ((n : Nat) : Int)))) rfl) (tm' := _::_::_::_::_::_::_::_::_::_::_::_::_::_::_::_::_::_::_::_::_::_::_::_::_::_::_::_::_::_::_::_::_::_::_::_::_::_::_::_) rfl ?_
  refine rl_det (met_none rfl) (fun h_ H_ => exd_move (v := .bool (decide (((n : Nat) : Int) ≠ ((n : Nat) : Int)))) rfl) (tm' := _::_::_::_::_::_::_::_::_::_::_::_::_::_::_::_::_::_::_::_::_::_::_::_::_::_::_::_::_::_::_::_::_::_::_::_::_::_::_::_::_) rfl ?_
  refine rl_det (met_some rfl rfl (decide_eq_false (fun h_ => h_ rfl))) (fun h_ H_ => exd_move (v := w24) rfl) (tm' := _::_::_::_::_::_::_::_::_::_::_::_::_::_::_::_::_::_::_::_::_::_::_::_::_::_::_::_::_::_::_::_::_::_::_::_::_::_::_::_::_::_) rfl ?_
  refine rl_det (met_some rfl rfl (decide_eq_false (fun h_ => h_ rfl))) (fun h_ H_ => exd_lenN o30 (ns_length _ _) Try.underlying25 rfl) (tm' := _::_::_::_::_::_::_::_::_::_::_::_::_::_::_::_::_::_::_::_::_::_::_::_::_::_::_::_::_::_::_::_::_::_::_::_::_::_::_::_::_::_::_) rfl ?_
  refine rl_det (met_some rfl rfl (decide_eq_false (fun h_ => h_ rfl))) (fun h_ H_ => exd_move (v := w22) rfl) (tm' := _::_::_::_::_::_::_::_::_::_::_::_::_::_::_::_::_::_::_::_::_::_::_::_::_::_::_::_::_::_::_::_::_::_::_::_::_::_::_::_::_::_::_::_) rfl ?_
  refine rl_det (met_some rfl rfl (decide_eq_false (fun h_ => h_ rfl))) (fun h_ H_ => exd_lenN o28 (ns_length _ _) Try.underlying25 rfl) (tm' := _::_::_::_::_::_::_::_::_::_::_::_::_::_::_::_::_::_::_::_::_::_::_::_::_::_::_::_::_::_::_::_::_::_::_::_::_::_::_::_::_::_::_::_::_) rfl ?_
  refine rl_det (met_some rfl rfl (decide_eq_false (fun h_ => h_ rfl))) (fun h_ H_ => exd_neq rfl rfl) (tm' := _::_::_::_::_::_::_::_::_::_::_::_::_::_::_::_::_::_::_::_::_::_::_::_::_::_::_::_::_::_::_::_::_::_::_::_::_::_::_::_::_::_::_::_::_::_) rfl ?_
  refine rl_det (met_none rfl) (fun h_ H_ => exd_pick_f rfl (decide_eq_false (fun h_ => h_ rfl)) (v := .bool (decide (((n : Nat) : Int) ≠ ((n : Nat) : Int)))) rfl) (tm' := _::_::_::_::_::_::_::_::_::_::_::_::_::_::_::_::_::_::_::_::_::_::_::_::_::_::_::_::_::_::_::_::_::_::_::_::_::_::_::_::_::_::_::_::_::_::_) rfl ?_
  refine rl_end ?_
  refine fl_else rfl (decide_eq_false (fun h_ => h_ rfl)) ?_
  refine fl_skip ?_
  refine fl_seq ?_
  refine fl_seq ?_
  refine rl_start ?_
  refine rl_det (met_none rfl) (fun h_ H_ => exd_assign (v := .int .i64 0) rfl) (tm' := _::_::_::_::_::_::_::_::_::_::_::_) rfl ?_
  refine rl_end ?_
  refine fl_block ?_
  refine fl_loop (m₀ := n - 0) (fun m_ tm_ h_ => ∃ (k : Nat) (y31 : Nat → Value), m_ = n - k ∧ tm_ = [.agg #[.int .i64 (size), .int .i64 (start), .slice a n c], .slice b m d, .pointer (some ⟨b1, 0, none⟩), undef, .pointer (some ⟨b2, 0, none⟩), (y31 0), w22, w23, w24, .int .i64 0, .int .i64 (((k : Nat) : Int)), .tuple #[w22, w23, w24, .int .i64 0], .agg #[.int .i64 (size), .int .i64 (start), .slice a n c], .agg #[.int .i64 (size), .int .i64 (start), .slice a13 n cp14], v6, .slice b m d, .slice a18 m cp19, .tuple #[w22, w23, w24, .int .i64 0], w22, w23, w24, .int .i64 0, .int .i64 0, .bool (decide ((0 : Int) ≠ 0)), .bool (decide ((0 : Int) ≠ 0)), w22, .int .i64 (((n : Nat) : Int)), .pointer (some ⟨b1, 2, none⟩), .slice a n c, .int .i64 (((n : Nat) : Int)), .bool (decide (((n : Nat) : Int) ≠ ((n : Nat) : Int))), .bool (decide (((n : Nat) : Int) ≠ ((n : Nat) : Int))), .bool (decide (((n : Nat) : Int) ≠ ((n : Nat) : Int))), w23, .int .i64 (((n : Nat) : Int)), w22, .int .i64 (((n : Nat) : Int)), .bool (decide (((n : Nat) : Int) ≠ ((n : Nat) : Int))), .bool (decide (((n : Nat) : Int) ≠ ((n : Nat) : Int))), .bool (decide (((n : Nat) : Int) ≠ ((n : Nat) : Int))), w24, .int .i64 (((n : Nat) : Int)), w22, .int .i64 (((n : Nat) : Int)), .bool (decide (((n : Nat) : Int) ≠ ((n : Nat) : Int))), .bool (decide (((n : Nat) : Int) ≠ ((n : Nat) : Int))), undef, (y31 1), (y31 2), (y31 3), (y31 4), (y31 5), (y31 6), (y31 7), (y31 8), (y31 9), (y31 10), (y31 11), (y31 12), (y31 13), (y31 14), (y31 15), (y31 16), (y31 17), (y31 18), (y31 19), (y31 20), (y31 21), (y31 22), (y31 23), (y31 24), (y31 25), (y31 26), (y31 27), (y31 28), (y31 29), (y31 30), (y31 31), (y31 32), (y31 33), (y31 34), (y31 35), (y31 36), (y31 37), undef, undef, undef, undef] ∧ (k ≤ n) ∧ St h [] p17 h_ (([(b2, .cells #[.slice none 0 0, .slice none 0 0, .slice none 0 0] 30 (0, 0)), (b1, .cells #[.int .i64 (size), .int .i64 (start), .slice a n c] 24 (0, 0))] : Pcs) ++ (X25 ++ (X26 ++ (X27 ++ []))))) (fun h_ H_ => ⟨0, (fun i_ => [.bool (false), undef, undef, undef, undef, undef, undef, undef, undef, undef, undef, undef, undef, undef, undef, undef, undef, undef, undef, undef, undef, undef, undef, undef, undef, undef, undef, undef, undef, undef, undef, undef, undef, undef, undef, undef, undef, undef].getD i_ undef), rfl, rfl, Nat.zero_le _, H_⟩) ?_
  intro m_ tm_ IH32
  refine rs_ex fun k => rs_ex fun y31 => rs_and fun hm_ => rs_and fun ht_ => rs_and fun hk => ?_
  subst hm_; subst ht_
  have hdk := day_ok hOk hW (k := k)
  refine fl_seq ?_
  refine fl_seq ?_
  refine rl_start ?_
  refine rl_det (met_none rfl) (fun h_ H_ => exd_move (v := .int .i64 (((k : Nat) : Int))) rfl) (tm' := _::_::_::_::_::_::_::_::_::_::_::_::_::_::_::_::_::_::_::_::_::_::_::_::_::_::_::_::_::_::_::_::_::_::_::_::_::_::_::_::_::_::_::_::_::_::_::_::_) rfl ?_
  refine rl_det (met_none rfl) (fun h_ H_ => exd_move (v := w22) rfl) (tm' := _::_::_::_::_::_::_::_::_::_::_::_::_::_::_::_::_::_::_::_::_::_::_::_::_::_::_::_::_::_::_::_::_::_::_::_::_::_::_::_::_::_::_::_::_::_::_::_::_::_) rfl ?_
  refine rl_det (met_none rfl) (fun h_ H_ => exd_lenN o28 (ns_length _ _) Try.underlying25 rfl) (tm' := _::_::_::_::_::_::_::_::_::_::_::_::_::_::_::_::_::_::_::_::_::_::_::_::_::_::_::_::_::_::_::_::_::_::_::_::_::_::_::_::_::_::_::_::_::_::_::_::_::_::_) rfl ?_
  refine rl_det (met_none rfl) (fun h_ H_ => exd_lss rfl rfl) (tm' := _::_::_::_::_::_::_::_::_::_::_::_::_::_::_::_::_::_::_::_::_::_::_::_::_::_::_::_::_::_::_::_::_::_::_::_::_::_::_::_::_::_::_::_::_::_::_::_::_::_::_::_) rfl ?_
  refine rl_end ?_
  by_cases c33 : ((k : Nat) : Int) < ((n : Nat) : Int)
  · refine fl_then rfl (decide_eq_true c33) ?_
    refine fl_skip ?_
    refine fl_seq ?_
    refine fl_block ?_
    refine fl_seq ?_
    refine fl_drawn 25 [[], [], [0, 1], [0, 1, 2], [], [4], [0, 1, 2, 3, 4, 5], [0, 1, 2, 3, 4, 5], [0, 1, 2, 3, 4, 5, 6, 7], [], [], [9, 10], [9, 10, 11], [], [13], [0, 1, 2, 3, 4, 5, 6, 7], [0, 1, 2, 3, 4, 5, 6, 7, 13, 14, 15], [0, 1, 2, 3, 4, 5, 6, 7, 13, 14, 15, 16], [0, 1, 2, 3, 4, 5, 6, 7, 13, 14, 15, 16, 17], [0, 1, 2, 3, 4, 5, 6, 7, 9, 10, 11, 12, 13, 14, 15, 16, 17, 18], [0, 1, 2, 3, 4, 5, 6, 7, 9, 10, 11, 12, 13, 14, 15, 16, 17, 18], [0, 1, 2, 3, 4, 5, 6, 7, 8, 9, 10, 11, 12, 13, 14, 15, 16, 17, 18, 20], [0, 1, 2, 3, 4, 5, 6, 7, 8, 9, 10, 11, 12, 13, 14, 15, 16, 17, 18, 19, 20, 21], [], [0, 1, 2, 3, 4, 5, 6, 7, 8, 9, 10, 11, 12, 13, 14, 15, 16, 17, 18, 19, 20, 21], [0, 1, 2, 3, 4, 5, 6, 7, 8, 9, 10, 11, 12, 13, 14, 15, 16, 17, 18, 19, 20, 21, 23, 24], [0, 1, 2, 3, 4, 5, 6, 7, 8, 9, 10, 11, 12, 13, 14, 15, 16, 17, 18, 19, 20, 21, 23, 24, 25], [0, 1, 2, 3, 4, 5, 6, 7, 8, 9, 10, 11, 12, 13, 14, 15, 16, 17, 18, 19, 20, 21, 23, 24, 25, 26], [0, 1, 2, 3, 4, 5, 6, 7, 8, 9, 10, 11, 12, 13, 14, 15, 16, 17, 18, 19, 20, 21, 23, 24, 25, 26, 27], []] mixed (by kernel_rfl) (Nat.le_of_ble_eq_true rfl) (tmF := [.agg #[.int .i64 (size), .int .i64 (start), .slice a n c], .slice b m d, .pointer (some ⟨b1, 0, none⟩), undef, .pointer (some ⟨b2, 0, none⟩), (y31 0), w22, w23, w24, .int .i64 0, .int .i64 (((k : Nat) : Int)), .tuple #[w22, w23, w24, .int .i64 0], .agg #[.int .i64 (size), .int .i64 (start), .slice a n c], .agg #[.int .i64 (size), .int .i64 (start), .slice a13 n cp14], v6, .slice b m d, .slice a18 m cp19, .tuple #[w22, w23, w24, .int .i64 0], w22, w23, w24, .int .i64 0, .int .i64 0, .bool (decide ((0 : Int) ≠ 0)), .bool (decide ((0 : Int) ≠ 0)), w22, .int .i64 (((n : Nat) : Int)), .pointer (some ⟨b1, 2, none⟩), .slice a n c, .int .i64 (((n : Nat) : Int)), .bool (decide (((n : Nat) : Int) ≠ ((n : Nat) : Int))), .bool (decide (((n : Nat) : Int) ≠ ((n : Nat) : Int))), .bool (decide (((n : Nat) : Int) ≠ ((n : Nat) : Int))), w23, .int .i64 (((n : Nat) : Int)), w22, .int .i64 (((n : Nat) : Int)), .bool (decide (((n : Nat) : Int) ≠ ((n : Nat) : Int))), .bool (decide (((n : Nat) : Int) ≠ ((n : Nat) : Int))), .bool (decide (((n : Nat) : Int) ≠ ((n : Nat) : Int))), w24, .int .i64 (((n : Nat) : Int)), w22, .int .i64 (((n : Nat) : Int)), .bool (decide (((n : Nat) : Int) ≠ ((n : Nat) : Int))), .bool (decide (((n : Nat) : Int) ≠ ((n : Nat) : Int))), undef, .int .i64 (((k : Nat) : Int)), w22, .int .i64 (((n : Nat) : Int)), .bool (decide (((k : Nat) : Int) < ((n : Nat) : Int))), (y31 5), (y31 6), w22, .int .i64 (((k : Nat) : Int)), .pointer (some ((adrV w22).add (k * 1))), .int .i64 (levs size start (wantOf ds) (listOf xs) k), .pointer (some ⟨b1, 0, none⟩), .int .i64 (size), .bool (decide (0 ≤ levs size start (wantOf ds) (listOf xs) k ∧ levs size start (wantOf ds) (listOf xs) k ≤ size)), .bool (!(decide (0 ≤ levs size start (wantOf ds) (listOf xs) k ∧ levs size start (wantOf ds) (listOf xs) k ≤ size))), .bool (!(decide (0 ≤ levs size start (wantOf ds) (listOf xs) k ∧ levs size start (wantOf ds) (listOf xs) k ≤ size))), w23, .int .i64 (((k : Nat) : Int)), .pointer (some ((adrV w23).add (k * 1))), .int .i64 (lack size start (wantOf ds) (listOf xs) k), .pointer (some ⟨b1, 2, none⟩), .slice a n c, .int .i64 (((k : Nat) : Int)), .pointer (some ((adr a).add (k * 3))), .pointer (some (((adr a).add (k * 3)).add 2)), .int .i64 ((ds.getD k dz).want), .bool (decide (0 ≤ lack size start (wantOf ds) (listOf xs) k ∧ lack size start (wantOf ds) (listOf xs) k ≤ (ds.getD k dz).want)), .bool (!(decide (0 ≤ lack size start (wantOf ds) (listOf xs) k ∧ lack size start (wantOf ds) (listOf xs) k ≤ (ds.getD k dz).want))), .bool (!(decide (0 ≤ lack size start (wantOf ds) (listOf xs) k ∧ lack size start (wantOf ds) (listOf xs) k ≤ (ds.getD k dz).want))), .bool (!(decide (0 ≤ lack size start (wantOf ds) (listOf xs) k ∧ lack size start (wantOf ds) (listOf xs) k ≤ (ds.getD k dz).want))), w24, .int .i64 (((k : Nat) : Int)), (y31 32), (y31 33), (y31 34), (y31 35), (y31 36), (y31 37), undef, undef, undef, undef]) ?_ ?_
    · refine sw_det (met_none rfl) (fun h_ H_ => exd_move (v := w22) rfl) (tm' := _::_::_::_::_::_::_::_::_::_::_::_::_::_::_::_::_::_::_::_::_::_::_::_::_::_::_::_::_::_::_::_::_::_::_::_::_::_::_::_::_::_::_::_::_::_::_::_::_::_::_::_::_::_::_) rfl ?_
      refine sw_det (met_none rfl) (fun h_ H_ => exd_move (v := .int .i64 (((k : Nat) : Int))) rfl) (tm' := _::_::_::_::_::_::_::_::_::_::_::_::_::_::_::_::_::_::_::_::_::_::_::_::_::_::_::_::_::_::_::_::_::_::_::_::_::_::_::_::_::_::_::_::_::_::_::_::_::_::_::_::_::_::_::_) rfl ?_
      refine sw_det (met_none rfl) (fun h_ H_ => exd_indexO o28 Try.underlying25 tS3 rfl rfl (by rw [(ns_length _ _)]; omega)) (tm' := _::_::_::_::_::_::_::_::_::_::_::_::_::_::_::_::_::_::_::_::_::_::_::_::_::_::_::_::_::_::_::_::_::_::_::_::_::_::_::_::_::_::_::_::_::_::_::_::_::_::_::_::_::_::_::_::_) rfl ?_
      refine sw_det (met_none rfl) (fun h_ H_ => exd_loadO (A := ([(b2, .cells #[.slice none 0 0, .slice none 0 0, .slice none 0 0] 30 (0, 0)), (b1, .cells #[.int .i64 (size), .int .i64 (start), .slice a n c] 24 (0, 0))] : Pcs)) (i := k) (j := 0) (e := [.int .i64 (levs size start (wantOf ds) (listOf xs) k)]) o28 H_ tA3 rfl rfl (ns_at (by omega)) (u := .int .i64 (levs size start (wantOf ds) (listOf xs) k)) rfl) (tm' := _::_::_::_::_::_::_::_::_::_::_::_::_::_::_::_::_::_::_::_::_::_::_::_::_::_::_::_::_::_::_::_::_::_::_::_::_::_::_::_::_::_::_::_::_::_::_::_::_::_::_::_::_::_::_::_::_::_) rfl ?_
      refine sw_det (met_none rfl) (fun h_ H_ => exd_fieldAddr tF24_0 rfl (a' := ⟨b1, 0, none⟩) rfl) (tm' := _::_::_::_::_::_::_::_::_::_::_::_::_::_::_::_::_::_::_::_::_::_::_::_::_::_::_::_::_::_::_::_::_::_::_::_::_::_::_::_::_::_::_::_::_::_::_::_::_::_::_::_::_::_::_::_::_::_::_) rfl ?_
      refine sw_det (met_none rfl) (fun h_ H_ => exd_load_own H_ tA3 rfl (i := 1) rfl (v := .int .i64 (size)) rfl) (tm' := [_,_,_,_,_,_,_,_,_,_,_,_,_,_,_,_,_,_,_,_,_,_,_,_,_,_,_,_,_,_,_,_,_,_,_,_,_,_,_,_,_,_,_,_,_,_,_,_,_,_,_,_,_,_,_,_,_,_,_,_,_,_,_,_,_,_,_,_,_,_,_,_,_,_,_,_,_,_,_,_,_,_,_,_,_,_,_,_]) rfl ?_
      refine sw_call (met_none rfl) (first := []) (cap := []) rfl rfl fC22 (fun h_ H_ => (c22 md _ (levs size start (wantOf ds) (listOf xs) k) (0) (size)).mono fun v_ h2_ ⟨e_, k_⟩ => ⟨e_, H_.call k_⟩) (tm' := [_,_,_,_,_,_,_,_,_,_,_,_,_,_,_,_,_,_,_,_,_,_,_,_,_,_,_,_,_,_,_,_,_,_,_,_,_,_,_,_,_,_,_,_,_,_,_,_,_,_,_,_,_,_,_,_,_,_,_,_,_,_,_,_,_,_,_,_,_,_,_,_,_,_,_,_,_,_,_,_,_,_,_,_,_,_,_,_]) rfl ?_
      refine sw_det (met_none rfl) (fun h_ H_ => exd_not rfl) (tm' := [_,_,_,_,_,_,_,_,_,_,_,_,_,_,_,_,_,_,_,_,_,_,_,_,_,_,_,_,_,_,_,_,_,_,_,_,_,_,_,_,_,_,_,_,_,_,_,_,_,_,_,_,_,_,_,_,_,_,_,_,_,_,_,_,_,_,_,_,_,_,_,_,_,_,_,_,_,_,_,_,_,_,_,_,_,_,_,_]) rfl ?_
      refine sw_det (met_none rfl) (fun h_ H_ => exd_move (v := .bool (!(decide (0 ≤ levs size start (wantOf ds) (listOf xs) k ∧ levs size start (wantOf ds) (listOf xs) k ≤ size)))) rfl) (tm' := [_,_,_,_,_,_,_,_,_,_,_,_,_,_,_,_,_,_,_,_,_,_,_,_,_,_,_,_,_,_,_,_,_,_,_,_,_,_,_,_,_,_,_,_,_,_,_,_,_,_,_,_,_,_,_,_,_,_,_,_,_,_,_,_,_,_,_,_,_,_,_,_,_,_,_,_,_,_,_,_,_,_,_,_,_,_,_,_]) rfl ?_
      refine sw_det (met_some rfl rfl (not_f (decide_eq_true (by omega)))) (fun h_ H_ => exd_move (v := w23) rfl) (tm' := [_,_,_,_,_,_,_,_,_,_,_,_,_,_,_,_,_,_,_,_,_,_,_,_,_,_,_,_,_,_,_,_,_,_,_,_,_,_,_,_,_,_,_,_,_,_,_,_,_,_,_,_,_,_,_,_,_,_,_,_,_,_,_,_,_,_,_,_,_,_,_,_,_,_,_,_,_,_,_,_,_,_,_,_,_,_,_,_]) rfl ?_
      refine sw_det (met_some rfl rfl (not_f (decide_eq_true (by omega)))) (fun h_ H_ => exd_move (v := .int .i64 (((k : Nat) : Int))) rfl) (tm' := [_,_,_,_,_,_,_,_,_,_,_,_,_,_,_,_,_,_,_,_,_,_,_,_,_,_,_,_,_,_,_,_,_,_,_,_,_,_,_,_,_,_,_,_,_,_,_,_,_,_,_,_,_,_,_,_,_,_,_,_,_,_,_,_,_,_,_,_,_,_,_,_,_,_,_,_,_,_,_,_,_,_,_,_,_,_,_,_]) rfl ?_
      refine sw_det (met_some rfl rfl (not_f (decide_eq_true (by omega)))) (fun h_ H_ => exd_indexO o29 Try.underlying25 tS3 rfl rfl (by rw [(ns_length _ _)]; omega)) (tm' := [_,_,_,_,_,_,_,_,_,_,_,_,_,_,_,_,_,_,_,_,_,_,_,_,_,_,_,_,_,_,_,_,_,_,_,_,_,_,_,_,_,_,_,_,_,_,_,_,_,_,_,_,_,_,_,_,_,_,_,_,_,_,_,_,_,_,_,_,_,_,_,_,_,_,_,_,_,_,_,_,_,_,_,_,_,_,_,_]) rfl ?_
      refine sw_det (met_some rfl rfl (not_f (decide_eq_true (by omega)))) (fun h_ H_ => exd_loadM (i := k) (j := 0) (e := [.int .i64 (lack size start (wantOf ds) (listOf xs) k)]) o29 H_ (fun x_ h_ => by simp [h_]) tA3 rfl rfl (ns_at (by omega)) (u := .int .i64 (lack size start (wantOf ds) (listOf xs) k)) rfl) (tm' := [_,_,_,_,_,_,_,_,_,_,_,_,_,_,_,_,_,_,_,_,_,_,_,_,_,_,_,_,_,_,_,_,_,_,_,_,_,_,_,_,_,_,_,_,_,_,_,_,_,_,_,_,_,_,_,_,_,_,_,_,_,_,_,_,_,_,_,_,_,_,_,_,_,_,_,_,_,_,_,_,_,_,_,_,_,_,_,_]) rfl ?_
      refine sw_det (met_some rfl rfl (not_f (decide_eq_true (by omega)))) (fun h_ H_ => exd_fieldAddr tF24_2 rfl (a' := ⟨b1, 2, none⟩) rfl) (tm' := [_,_,_,_,_,_,_,_,_,_,_,_,_,_,_,_,_,_,_,_,_,_,_,_,_,_,_,_,_,_,_,_,_,_,_,_,_,_,_,_,_,_,_,_,_,_,_,_,_,_,_,_,_,_,_,_,_,_,_,_,_,_,_,_,_,_,_,_,_,_,_,_,_,_,_,_,_,_,_,_,_,_,_,_,_,_,_,_]) rfl ?_
      refine sw_det (met_some rfl rfl (not_f (decide_eq_true (by omega)))) (fun h_ H_ => exd_load_own H_ tA22 rfl (i := 1) rfl (v := .slice a n c) rfl) (tm' := [_,_,_,_,_,_,_,_,_,_,_,_,_,_,_,_,_,_,_,_,_,_,_,_,_,_,_,_,_,_,_,_,_,_,_,_,_,_,_,_,_,_,_,_,_,_,_,_,_,_,_,_,_,_,_,_,_,_,_,_,_,_,_,_,_,_,_,_,_,_,_,_,_,_,_,_,_,_,_,_,_,_,_,_,_,_,_,_]) rfl ?_
      refine sw_det (met_some rfl rfl (not_f (decide_eq_true (by omega)))) (fun h_ H_ => exd_move (v := .int .i64 (((k : Nat) : Int))) rfl) (tm' := [_,_,_,_,_,_,_,_,_,_,_,_,_,_,_,_,_,_,_,_,_,_,_,_,_,_,_,_,_,_,_,_,_,_,_,_,_,_,_,_,_,_,_,_,_,_,_,_,_,_,_,_,_,_,_,_,_,_,_,_,_,_,_,_,_,_,_,_,_,_,_,_,_,_,_,_,_,_,_,_,_,_,_,_,_,_,_,_]) rfl ?_
      refine sw_det (met_some rfl rfl (not_f (decide_eq_true (by omega)))) (fun h_ H_ => exd_indexAddrN (i := k) Try.underlying22 tS38 (sl_ne a n c (((D.mono le15).mono le20).ne (by omega))) rfl (by omega)) (tm' := [_,_,_,_,_,_,_,_,_,_,_,_,_,_,_,_,_,_,_,_,_,_,_,_,_,_,_,_,_,_,_,_,_,_,_,_,_,_,_,_,_,_,_,_,_,_,_,_,_,_,_,_,_,_,_,_,_,_,_,_,_,_,_,_,_,_,_,_,_,_,_,_,_,_,_,_,_,_,_,_,_,_,_,_,_,_,_,_]) rfl ?_
      refine sw_det (met_some rfl rfl (not_f (decide_eq_true (by omega)))) (fun h_ H_ => exd_fieldAddr tF38_1 rfl (a' := ((adr a).add (k * 3)).add 2) rfl) (tm' := [_,_,_,_,_,_,_,_,_,_,_,_,_,_,_,_,_,_,_,_,_,_,_,_,_,_,_,_,_,_,_,_,_,_,_,_,_,_,_,_,_,_,_,_,_,_,_,_,_,_,_,_,_,_,_,_,_,_,_,_,_,_,_,_,_,_,_,_,_,_,_,_,_,_,_,_,_,_,_,_,_,_,_,_,_,_,_,_]) rfl ?_
      refine sw_det (met_some rfl rfl (not_f (decide_eq_true (by omega)))) (fun h_ H_ => exd_load_per H_ tA3 rfl (v := .int .i64 ((ds.getD k dz).want)) (((D.mono le15).mono le20).want (by omega))) (tm' := [_,_,_,_,_,_,_,_,_,_,_,_,_,_,_,_,_,_,_,_,_,_,_,_,_,_,_,_,_,_,_,_,_,_,_,_,_,_,_,_,_,_,_,_,_,_,_,_,_,_,_,_,_,_,_,_,_,_,_,_,_,_,_,_,_,_,_,_,_,_,_,_,_,_,_,_,_,_,_,_,_,_,_,_,_,_,_,_]) rfl ?_
      refine sw_call (met_some rfl rfl (not_f (decide_eq_true (by omega)))) (first := []) (cap := []) rfl rfl fC22 (fun h_ H_ => (c22 md _ (lack size start (wantOf ds) (listOf xs) k) (0) ((ds.getD k dz).want)).mono fun v_ h2_ ⟨e_, k_⟩ => ⟨e_, H_.call k_⟩) (tm' := [_,_,_,_,_,_,_,_,_,_,_,_,_,_,_,_,_,_,_,_,_,_,_,_,_,_,_,_,_,_,_,_,_,_,_,_,_,_,_,_,_,_,_,_,_,_,_,_,_,_,_,_,_,_,_,_,_,_,_,_,_,_,_,_,_,_,_,_,_,_,_,_,_,_,_,_,_,_,_,_,_,_,_,_,_,_,_,_]) rfl ?_
      refine sw_det (met_some rfl rfl (not_f (decide_eq_true (by omega)))) (fun h_ H_ => exd_not rfl) (tm' := [_,_,_,_,_,_,_,_,_,_,_,_,_,_,_,_,_,_,_,_,_,_,_,_,_,_,_,_,_,_,_,_,_,_,_,_,_,_,_,_,_,_,_,_,_,_,_,_,_,_,_,_,_,_,_,_,_,_,_,_,_,_,_,_,_,_,_,_,_,_,_,_,_,_,_,_,_,_,_,_,_,_,_,_,_,_,_,_]) rfl ?_
      refine sw_det (met_none rfl) (fun h_ H_ => exd_pick_f rfl (not_f (decide_eq_true (by omega))) (v := .bool (!(decide (0 ≤ lack size start (wantOf ds) (listOf xs) k ∧ lack size start (wantOf ds) (listOf xs) k ≤ (ds.getD k dz).want)))) rfl) (tm' := [_,_,_,_,_,_,_,_,_,_,_,_,_,_,_,_,_,_,_,_,_,_,_,_,_,_,_,_,_,_,_,_,_,_,_,_,_,_,_,_,_,_,_,_,_,_,_,_,_,_,_,_,_,_,_,_,_,_,_,_,_,_,_,_,_,_,_,_,_,_,_,_,_,_,_,_,_,_,_,_,_,_,_,_,_,_,_,_]) rfl ?_
      refine sw_det (met_none rfl) (fun h_ H_ => exd_move (v := .bool (!(decide (0 ≤ lack size start (wantOf ds) (listOf xs) k ∧ lack size start (wantOf ds) (listOf xs) k ≤ (ds.getD k dz).want)))) rfl) (tm' := [_,_,_,_,_,_,_,_,_,_,_,_,_,_,_,_,_,_,_,_,_,_,_,_,_,_,_,_,_,_,_,_,_,_,_,_,_,_,_,_,_,_,_,_,_,_,_,_,_,_,_,_,_,_,_,_,_,_,_,_,_,_,_,_,_,_,_,_,_,_,_,_,_,_,_,_,_,_,_,_,_,_,_,_,_,_,_,_]) rfl ?_
      refine sw_det (met_some rfl rfl (not_f (decide_eq_true (by omega)))) (fun h_ H_ => exd_move (v := w24) rfl) (tm' := [_,_,_,_,_,_,_,_,_,_,_,_,_,_,_,_,_,_,_,_,_,_,_,_,_,_,_,_,_,_,_,_,_,_,_,_,_,_,_,_,_,_,_,_,_,_,_,_,_,_,_,_,_,_,_,_,_,_,_,_,_,_,_,_,_,_,_,_,_,_,_,_,_,_,_,_,_,_,_,_,_,_,_,_,_,_,_,_]) rfl ?_
      refine sw_det (met_some rfl rfl (not_f (decide_eq_true (by omega)))) (fun h_ H_ => exd_move (v := .int .i64 (((k : Nat) : Int))) rfl) (tm' := [_,_,_,_,_,_,_,_,_,_,_,_,_,_,_,_,_,_,_,_,_,_,_,_,_,_,_,_,_,_,_,_,_,_,_,_,_,_,_,_,_,_,_,_,_,_,_,_,_,_,_,_,_,_,_,_,_,_,_,_,_,_,_,_,_,_,_,_,_,_,_,_,_,_,_,_,_,_,_,_,_,_,_,_,_,_,_,_]) rfl ?_
      exact sw_nil rfl rfl
    refine rl_det (met_some rfl rfl (not_f (decide_eq_true (by omega)))) (fun h_ H_ => exd_indexO o30 Try.underlying25 tS3 rfl rfl (by rw [(ns_length _ _)]; omega)) (tm' := [_,_,_,_,_,_,_,_,_,_,_,_,_,_,_,_,_,_,_,_,_,_,_,_,_,_,_,_,_,_,_,_,_,_,_,_,_,_,_,_,_,_,_,_,_,_,_,_,_,_,_,_,_,_,_,_,_,_,_,_,_,_,_,_,_,_,_,_,_,_,_,_,_,_,_,_,_,_,_,_,_,_,_,_,_,_,_,_]) rfl ?_
    refine rl_det (met_some rfl rfl (not_f (decide_eq_true (by omega)))) (fun h_ H_ => exd_loadM (i := k) (j := 0) (e := [.int .i64 (ovr size start (wantOf ds) (listOf xs) k)]) o30 H_ (fun x_ h_ => by simp [h_]) tA3 rfl rfl (ns_at (by omega)) (u := .int .i64 (ovr size start (wantOf ds) (listOf xs) k)) rfl) (tm' := [_,_,_,_,_,_,_,_,_,_,_,_,_,_,_,_,_,_,_,_,_,_,_,_,_,_,_,_,_,_,_,_,_,_,_,_,_,_,_,_,_,_,_,_,_,_,_,_,_,_,_,_,_,_,_,_,_,_,_,_,_,_,_,_,_,_,_,_,_,_,_,_,_,_,_,_,_,_,_,_,_,_,_,_,_,_,_,_]) rfl ?_
    refine rl_calld (met_some rfl rfl (not_f (decide_eq_true (by omega)))) (first := []) (cap := []) rfl rfl fC22 (fun h_ H_ => c22 md _ (ovr size start (wantOf ds) (listOf xs) k) (0) (80)) (tm' := [_,_,_,_,_,_,_,_,_,_,_,_,_,_,_,_,_,_,_,_,_,_,_,_,_,_,_,_,_,_,_,_,_,_,_,_,_,_,_,_,_,_,_,_,_,_,_,_,_,_,_,_,_,_,_,_,_,_,_,_,_,_,_,_,_,_,_,_,_,_,_,_,_,_,_,_,_,_,_,_,_,_,_,_,_,_,_,_]) rfl ?_
    refine rl_det (met_some rfl rfl (not_f (decide_eq_true (by omega)))) (fun h_ H_ => exd_not rfl) (tm' := [_,_,_,_,_,_,_,_,_,_,_,_,_,_,_,_,_,_,_,_,_,_,_,_,_,_,_,_,_,_,_,_,_,_,_,_,_,_,_,_,_,_,_,_,_,_,_,_,_,_,_,_,_,_,_,_,_,_,_,_,_,_,_,_,_,_,_,_,_,_,_,_,_,_,_,_,_,_,_,_,_,_,_,_,_,_,_,_]) rfl ?_
    refine rl_det (met_none rfl) (fun h_ H_ => exd_pick_f rfl (not_f (decide_eq_true (by omega))) (v := .bool (!(decide (0 ≤ ovr size start (wantOf ds) (listOf xs) k ∧ ovr size start (wantOf ds) (listOf xs) k ≤ 80)))) rfl) (tm' := [_,_,_,_,_,_,_,_,_,_,_,_,_,_,_,_,_,_,_,_,_,_,_,_,_,_,_,_,_,_,_,_,_,_,_,_,_,_,_,_,_,_,_,_,_,_,_,_,_,_,_,_,_,_,_,_,_,_,_,_,_,_,_,_,_,_,_,_,_,_,_,_,_,_,_,_,_,_,_,_,_,_,_,_,_,_,_,_]) rfl ?_
    refine rl_end ?_
    refine fl_else rfl (not_f (decide_eq_true (by omega))) ?_
    refine fl_skip ?_
    refine fl_inBlock ?_
    refine rl_start ?_
    refine rl_det (met_none rfl) (fun h_ H_ => exd_move (v := .int .i64 (((k : Nat) : Int))) rfl) (tm' := _::_::_::_::_::_::_::_::_::_::_::_::_::_::_::_::_::_::_::_::_::_::_::_::_::_::_::_::_::_::_::_::_::_::_::_::_::_::_::_::_::_::_::_::_::_::_::_::_::_::_::_::_) rfl ?_
    refine rl_det (met_none rfl) (fun h_ H_ => exd_add rfl rfl (n := ((k + 1 : Nat) : Int)) (wr (by omega))) (tm' := _::_::_::_::_::_::_::_::_::_::_::_::_::_::_::_::_::_::_::_::_::_::_::_::_::_::_::_::_::_::_::_::_::_::_::_::_::_::_::_::_::_::_::_::_::_::_::_::_::_::_::_::_::_) rfl ?_
    refine rl_det (met_none rfl) (fun h_ H_ => exd_assign (v := .int .i64 (((k + 1 : Nat) : Int))) rfl) (tm' := _::_::_::_::_::_::_::_::_::_::_::_) rfl ?_
    refine rl_end ?_
    exact fun h_ H_ => IH32 _ _ (by omega) h_ ⟨k + 1, (fun i_ => [(y31 0), .int .i64 (((k : Nat) : Int)), w22, .int .i64 (((n : Nat) : Int)), .bool (decide (((k : Nat) : Int) < ((n : Nat) : Int))), .int .i64 (((k : Nat) : Int)), .int .i64 (((k + 1 : Nat) : Int)), w22, .int .i64 (((k : Nat) : Int)), .pointer (some ((adrV w22).add (k * 1))), .int .i64 (levs size start (wantOf ds) (listOf xs) k), .pointer (some ⟨b1, 0, none⟩), .int .i64 (size), .bool (decide (0 ≤ levs size start (wantOf ds) (listOf xs) k ∧ levs size start (wantOf ds) (listOf xs) k ≤ size)), .bool (!(decide (0 ≤ levs size start (wantOf ds) (listOf xs) k ∧ levs size start (wantOf ds) (listOf xs) k ≤ size))), .bool (!(decide (0 ≤ levs size start (wantOf ds) (listOf xs) k ∧ levs size start (wantOf ds) (listOf xs) k ≤ size))), w23, .int .i64 (((k : Nat) : Int)), .pointer (some ((adrV w23).add (k * 1))), .int .i64 (lack size start (wantOf ds) (listOf xs) k), .pointer (some ⟨b1, 2, none⟩), .slice a n c, .int .i64 (((k : Nat) : Int)), .pointer (some ((adr a).add (k * 3))), .pointer (some (((adr a).add (k * 3)).add 2)), .int .i64 ((ds.getD k dz).want), .bool (decide (0 ≤ lack size start (wantOf ds) (listOf xs) k ∧ lack size start (wantOf ds) (listOf xs) k ≤ (ds.getD k dz).want)), .bool (!(decide (0 ≤ lack size start (wantOf ds) (listOf xs) k ∧ lack size start (wantOf ds) (listOf xs) k ≤ (ds.getD k dz).want))), .bool (!(decide (0 ≤ lack size start (wantOf ds) (listOf xs) k ∧ lack size start (wantOf ds) (listOf xs) k ≤ (ds.getD k dz).want))), .bool (!(decide (0 ≤ lack size start (wantOf ds) (listOf xs) k ∧ lack size start (wantOf ds) (listOf xs) k ≤ (ds.getD k dz).want))), w24, .int .i64 (((k : Nat) : Int)), .pointer (some ((adrV w24).add (k * 1))), .int .i64 (ovr size start (wantOf ds) (listOf xs) k), .bool (decide (0 ≤ ovr size start (wantOf ds) (listOf xs) k ∧ ovr size start (wantOf ds) (listOf xs) k ≤ 80)), .bool (!(decide (0 ≤ ovr size start (wantOf ds) (listOf xs) k ∧ ovr size start (wantOf ds) (listOf xs) k ≤ 80))), .bool (!(decide (0 ≤ ovr size start (wantOf ds) (listOf xs) k ∧ ovr size start (wantOf ds) (listOf xs) k ≤ 80))), (y31 37)].getD i_ undef), rfl, rfl, (by omega), H_⟩
  · refine fl_else rfl (decide_eq_false c33) ?_
    refine fl_exit rfl ?_
    refine fl_seq ?_
    refine rl_start ?_
    refine rl_det (met_none rfl) (fun h_ H_ => exd_move (v := w22) rfl) (tm' := [_,_,_,_,_,_,_,_,_,_,_,_,_,_,_,_,_,_,_,_,_,_,_,_,_,_,_,_,_,_,_,_,_,_,_,_,_,_,_,_,_,_,_,_,_,_,_,_,_,_,_,_,_,_,_,_,_,_,_,_,_,_,_,_,_,_,_,_,_,_,_,_,_,_,_,_,_,_,_,_,_,_,_,_,_,_,_,_]) rfl ?_
    refine rl_det (met_none rfl) (fun h_ H_ => exd_move (v := w23) rfl) (tm' := [_,_,_,_,_,_,_,_,_,_,_,_,_,_,_,_,_,_,_,_,_,_,_,_,_,_,_,_,_,_,_,_,_,_,_,_,_,_,_,_,_,_,_,_,_,_,_,_,_,_,_,_,_,_,_,_,_,_,_,_,_,_,_,_,_,_,_,_,_,_,_,_,_,_,_,_,_,_,_,_,_,_,_,_,_,_,_,_]) rfl ?_
    refine rl_det (met_none rfl) (fun h_ H_ => exd_move (v := w24) rfl) (tm' := [_,_,_,_,_,_,_,_,_,_,_,_,_,_,_,_,_,_,_,_,_,_,_,_,_,_,_,_,_,_,_,_,_,_,_,_,_,_,_,_,_,_,_,_,_,_,_,_,_,_,_,_,_,_,_,_,_,_,_,_,_,_,_,_,_,_,_,_,_,_,_,_,_,_,_,_,_,_,_,_,_,_,_,_,_,_,_,_]) rfl ?_
    obtain ⟨a34, c35, ev_, _⟩ := o28.val; have ev_ : w22 = .slice a34 n c35 := ev_.trans (congrArg (fun q_ => Value.slice a34 q_ c35) (ns_length _ _)); subst ev_
    obtain ⟨a36, c37, ev_, _⟩ := o29.val; have ev_ : w23 = .slice a36 n c37 := ev_.trans (congrArg (fun q_ => Value.slice a36 q_ c37) (ns_length _ _)); subst ev_
    obtain ⟨a38, c39, ev_, _⟩ := o30.val; have ev_ : w24 = .slice a38 n c39 := ev_.trans (congrArg (fun q_ => Value.slice a38 q_ c39) (ns_length _ _)); subst ev_
    refine rl_det (met_none rfl) (fun h_ H_ => exd_build tZ30 tP30 (vs := [(0, (.slice a34 n c35)), (1, (.slice a36 n c37)), (2, (.slice a38 n c39))]) rfl (cells := #[(.slice a34 n c35), (.slice a36 n c37), (.slice a38 n c39)]) rfl) (tm' := [_,_,_,_,_,_,_,_,_,_,_,_,_,_,_,_,_,_,_,_,_,_,_,_,_,_,_,_,_,_,_,_,_,_,_,_,_,_,_,_,_,_,_,_,_,_,_,_,_,_,_,_,_,_,_,_,_,_,_,_,_,_,_,_,_,_,_,_,_,_,_,_,_,_,_,_,_,_,_,_,_,_,_,_,_,_,_,_]) rfl ?_
    refine rl_store (met_none rfl) tS30 rfl (v := .agg #[(.slice a34 n c35), (.slice a36 n c37), (.slice a38 n c39)]) rfl (i := 0) rfl rfl (ones_cons o28.one.2 (ones_cons o29.one.2 (ones_cons o30.one.2 rfl))) (Nat.le_of_ble_eq_true rfl) (cs2 := [(.slice a34 n c35), (.slice a36 n c37), (.slice a38 n c39)]) rfl (rl_own (L' := ([(b2, .cells #[(.slice a34 n c35), (.slice a36 n c37), (.slice a38 n c39)] 30 (0, 0)), (b1, .cells #[.int .i64 (size), .int .i64 (start), .slice a n c] 24 (0, 0))] : Pcs) ++ (X25 ++ (X26 ++ (X27 ++ [])))) rfl ?_)
    refine rl_det (met_none rfl) (fun h_ H_ => exd_assign (v := .bool (true)) rfl) (tm' := _::_::_::_::_::_::_) rfl ?_
    refine rl_end ?_
    refine fl_ret Try.func19 rfl (vs := [.agg #[(.slice a34 n c35), (.slice a36 n c37), (.slice a38 n c39)], .bool (true)]) (fun h_ H_ => ⟨.agg #[(.slice a34 n c35), (.slice a36 n c37), (.slice a38 n c39)], _, rfl, (wpS_bind (wpS_pure (wpS_loadVarN tA30 tS30 (vs := [(.slice a34 n c35), (.slice a36 n c37), (.slice a38 n c39)]) rfl (fun j_ v_ e_ => by rw [add_mk]; exact H_.ocell (i := 0) rfl (by simpa using e_)) ⟨rfl, rfl⟩))), ⟨.bool (true), _, rfl, rfl, rfl⟩⟩) (v := .tuple #[.agg #[(.slice a34 n c35), (.slice a36 n c37), (.slice a38 n c39)], .bool (true)]) rfl ?_
    exact fun h_ H_ => K _ _ ⟨_, _, _, _, _, _, rfl, o28, o29, o30, H_.dropA.new⟩
end Go.Proofs.Ytbmkacnlhlbnjaa
namespace Go.Proofs.Ytbmkacnlhlbnjaa
open Go.X Go.X.Cist Go.Conc
set_option maxRecDepth 10000

set_option maxHeartbeats 8000000
theorem e3 (h : Heap) (p : PHeap) (hp : Per p h) (size start : Int) (a : Option Addr) (n c : Nat) (ds : List Day) (D : Days p a n ds) (b : Option Addr) (m d : Nat) (xs : List Int) (W : Ints p b m xs) (b2 : Option Addr) (m2 d2 : Nat) (ys : List Int) (W2 : Ints p b2 m2 ys) : EntersX Try.prog (.main true) 3 #[.agg #[.int .i64 (size), .int .i64 (start), .slice a n c], .slice b m d, .slice b2 m2 d2] h fun v h' => v = .bool true ∧ Keep h h' := by
  refine enters_intro (Φ := fun h_ => St h [] p h_ []) Try.func3 rfl (tm := [_, _, _, _, _, _, _, _, _, _, _, _, _, _, _, _, _, _, _, _, _, _, _, _, _, _, _, _, _, _, _, _, _, _, _, _, _, _, _, _, _, _, _, _, _, _, _, _, _, _, _, _, _, _, _, _, _, _, _, _, _, _, _, _, _, _, _, _, _, _, _, _, _, _, _, _, _, _, _, _, _, _, _, _, _, _, _, _, _, _, _, _, _, _, _, _, _, _, _, _, _, _, _, _, _, _, _, _, _, _, _, _, _, _, _, _]) rfl ?_ (St.start h _ hp)
  intro K
  have hl := D.len
  have hm := W.len
  have hm2 := W2.len
  refine fl_seq ?_
  refine rl_start ?_
  refine rl_box (met_none rfl) (v := .agg #[.int .i64 (size), .int .i64 (start), .slice a n c]) rfl fun b1 => rl_own (L' := [(b1, .cells #[.int .i64 (size), .int .i64 (start), .slice a n c] 24 (0, 0))]) rfl ?_
  refine rl_norm (tm' := _::_::_::_::_) rfl ?_
  refine rl_det (met_none rfl) (fun h_ H_ => exd_assign (v := .bool (false)) rfl) (tm' := _::_::_::_::_::_::_::_) rfl ?_
  refine rl_end ?_
  refine fl_seq ?_
  refine fl_seq ?_
  refine rl_start ?_
  refine rl_det (met_none rfl) (fun h_ H_ => exd_loadN_own H_ tA24 tS24 rfl (i := 0) rfl (vs := [.int .i64 (size), .int .i64 (start), .slice a n c]) rfl rfl) (tm' := _::_::_::_::_::_::_::_::_::_::_::_::_::_::_) rfl ?_
  refine rl_calld (met_none rfl) (first := []) (cap := []) rfl rfl fC16 (fun h_ H_ => c16 (.main true) _ _ (fun b_ o_ e_ => H_.per b_ o_ e_) size start _ _ _ _ D) (tm' := _::_::_::_::_::_::_::_::_::_::_::_::_::_::_::_) rfl ?_
  refine rl_det (met_none rfl) (fun h_ H_ => exd_not rfl) (tm' := _::_::_::_::_::_::_::_::_::_::_::_::_::_::_::_::_) rfl ?_
  refine rl_det (met_none rfl) (fun h_ H_ => exd_move (v := .bool (!(decide (ds.length ≤ 40 ∧ Ok size start ds)))) rfl) (tm' := _::_::_::_::_::_::_::_::_::_::_::_::_::_::_::_::_::_) rfl ?_
  by_cases c2 : ds.length ≤ 40 ∧ Ok size start ds
  · refine rl_det (met_some rfl rfl (not_f (decide_eq_true c2))) (fun h_ H_ => exd_move (v := .slice b m d) rfl) (tm' := _::_::_::_::_::_::_::_::_::_::_::_::_::_::_::_::_::_::_) rfl ?_
    refine rl_det (met_some rfl rfl (not_f (decide_eq_true c2))) (fun h_ H_ => exd_len Try.underlying25 rfl) (tm' := _::_::_::_::_::_::_::_::_::_::_::_::_::_::_::_::_::_::_::_) rfl ?_
    refine rl_det (met_some rfl rfl (not_f (decide_eq_true c2))) (fun h_ H_ => exd_gtr rfl rfl) (tm' := _::_::_::_::_::_::_::_::_::_::_::_::_::_::_::_::_::_::_::_::_) rfl ?_
    refine rl_det (met_none rfl) (fun h_ H_ => exd_pick_f rfl (not_f (decide_eq_true c2)) (v := .bool (decide (40 < ((m : Nat) : Int)))) rfl) (tm' := _::_::_::_::_::_::_::_::_::_::_::_::_::_::_::_::_::_::_::_::_::_) rfl ?_
    refine rl_det (met_none rfl) (fun h_ H_ => exd_move (v := .bool (decide (40 < ((m : Nat) : Int)))) rfl) (tm' := _::_::_::_::_::_::_::_::_::_::_::_::_::_::_::_::_::_::_::_::_::_::_) rfl ?_
    by_cases c3 : 40 < ((m : Nat) : Int)
    · refine rl_pass (met_not rfl rfl (decide_eq_true c3)) (tm' := _::_::_::_::_::_::_::_::_::_::_::_::_::_::_::_::_::_::_::_::_::_::_::_) rfl ?_
      refine rl_pass (met_not rfl rfl (decide_eq_true c3)) (tm' := _::_::_::_::_::_::_::_::_::_::_::_::_::_::_::_::_::_::_::_::_::_::_::_::_) rfl ?_
      refine rl_pass (met_not rfl rfl (decide_eq_true c3)) (tm' := _::_::_::_::_::_::_::_::_::_::_::_::_::_::_::_::_::_::_::_::_::_::_::_::_::_) rfl ?_
      refine rl_det (met_none rfl) (fun h_ H_ => exd_pick_t rfl (decide_eq_true c3) (v := .bool (true)) rfl) (tm' := _::_::_::_::_::_::_::_::_::_::_::_::_::_::_::_::_::_::_::_::_::_::_::_::_::_::_) rfl ?_
      refine rl_det (met_none rfl) (fun h_ H_ => exd_move (v := .bool (true)) rfl) (tm' := _::_::_::_::_::_::_::_::_::_::_::_::_::_::_::_::_::_::_::_::_::_::_::_::_::_::_::_) rfl ?_
      refine rl_pass (met_not rfl rfl rfl) (tm' := _::_::_::_::_::_::_::_::_::_::_::_::_::_::_::_::_::_::_::_::_::_::_::_::_::_::_::_::_) rfl ?_
      refine rl_pass (met_not rfl rfl rfl) (tm' := _::_::_::_::_::_::_::_::_::_::_::_::_::_::_::_::_::_::_::_::_::_::_::_::_::_::_::_::_::_) rfl ?_
      refine rl_pass (met_not rfl rfl rfl) (tm' := _::_::_::_::_::_::_::_::_::_::_::_::_::_::_::_::_::_::_::_::_::_::_::_::_::_::_::_::_::_::_) rfl ?_
      refine rl_pass (met_not rfl rfl rfl) (tm' := _::_::_::_::_::_::_::_::_::_::_::_::_::_::_::_::_::_::_::_::_::_::_::_::_::_::_::_::_::_::_::_) rfl ?_
      refine rl_det (met_none rfl) (fun h_ H_ => exd_pick_t rfl rfl (v := .bool (true)) rfl) (tm' := _::_::_::_::_::_::_::_::_::_::_::_::_::_::_::_::_::_::_::_::_::_::_::_::_::_::_::_::_::_::_::_::_) rfl ?_
      refine rl_det (met_none rfl) (fun h_ H_ => exd_move (v := .bool (true)) rfl) (tm' := _::_::_::_::_::_::_::_::_::_::_::_::_::_::_::_::_::_::_::_::_::_::_::_::_::_::_::_::_::_::_::_::_::_) rfl ?_
      refine rl_pass (met_not rfl rfl rfl) (tm' := _::_::_::_::_::_::_::_::_::_::_::_::_::_::_::_::_::_::_::_::_::_::_::_::_::_::_::_::_::_::_::_::_::_::_) rfl ?_
      refine rl_pass (met_not rfl rfl rfl) (tm' := _::_::_::_::_::_::_::_::_::_::_::_::_::_::_::_::_::_::_::_::_::_::_::_::_::_::_::_::_::_::_::_::_::_::_::_) rfl ?_
      refine rl_pass (met_not rfl rfl rfl) (tm' := _::_::_::_::_::_::_::_::_::_::_::_::_::_::_::_::_::_::_::_::_::_::_::_::_::_::_::_::_::_::_::_::_::_::_::_::_) rfl ?_
      refine rl_pass (met_not rfl rfl rfl) (tm' := _::_::_::_::_::_::_::_::_::_::_::_::_::_::_::_::_::_::_::_::_::_::_::_::_::_::_::_::_::_::_::_::_::_::_::_::_::_) rfl ?_
      refine rl_det (met_none rfl) (fun h_ H_ => exd_pick_t rfl rfl (v := .bool (true)) rfl) (tm' := _::_::_::_::_::_::_::_::_::_::_::_::_::_::_::_::_::_::_::_::_::_::_::_::_::_::_::_::_::_::_::_::_::_::_::_::_::_::_) rfl ?_
      refine rl_end ?_
      refine fl_then rfl rfl ?_
      refine fl_seq ?_
      refine rl_start ?_
      refine rl_calld (met_none rfl) (first := []) (cap := []) rfl rfl fC18 (fun h_ H_ => c18 _) (tm' := _::_::_::_::_::_::_::_::_::_::_::_::_::_::_::_::_::_::_::_::_::_::_::_::_::_::_::_::_::_::_::_::_::_::_::_::_::_::_::_) rfl ?_
      refine rl_det (met_none rfl) (fun h_ H_ => exd_assign (v := .bool (true)) rfl) (tm' := _::_::_::_::_::_::_::_) rfl ?_
      refine rl_end ?_
      refine fl_retE (by kernel_rfl) Try.func3 rfl (vs := [.bool (true)]) (fun h_ H_ => ⟨.bool (true), _, rfl, rfl, rfl⟩) (v := .bool (true)) rfl ?_
      exact fun h_ H_ => K _ _ ⟨rfl, H_.kept⟩
    · refine rl_det (met_some rfl rfl (decide_eq_false c3)) (fun h_ H_ => exd_move (v := .slice b2 m2 d2) rfl) (tm' := _::_::_::_::_::_::_::_::_::_::_::_::_::_::_::_::_::_::_::_::_::_::_::_) rfl ?_
      refine rl_det (met_some rfl rfl (decide_eq_false c3)) (fun h_ H_ => exd_len Try.underlying25 rfl) (tm' := _::_::_::_::_::_::_::_::_::_::_::_::_::_::_::_::_::_::_::_::_::_::_::_::_) rfl ?_
      refine rl_det (met_some rfl rfl (decide_eq_false c3)) (fun h_ H_ => exd_gtr rfl rfl) (tm' := _::_::_::_::_::_::_::_::_::_::_::_::_::_::_::_::_::_::_::_::_::_::_::_::_::_) rfl ?_
      refine rl_det (met_none rfl) (fun h_ H_ => exd_pick_f rfl (decide_eq_false c3) (v := .bool (decide (40 < ((m2 : Nat) : Int)))) rfl) (tm' := _::_::_::_::_::_::_::_::_::_::_::_::_::_::_::_::_::_::_::_::_::_::_::_::_::_::_) rfl ?_
      refine rl_det (met_none rfl) (fun h_ H_ => exd_move (v := .bool (decide (40 < ((m2 : Nat) : Int)))) rfl) (tm' := _::_::_::_::_::_::_::_::_::_::_::_::_::_::_::_::_::_::_::_::_::_::_::_::_::_::_::_) rfl ?_
      by_cases c4 : 40 < ((m2 : Nat) : Int)
      · refine rl_pass (met_not rfl rfl (decide_eq_true c4)) (tm' := _::_::_::_::_::_::_::_::_::_::_::_::_::_::_::_::_::_::_::_::_::_::_::_::_::_::_::_::_) rfl ?_
        refine rl_pass (met_not rfl rfl (decide_eq_true c4)) (tm' := _::_::_::_::_::_::_::_::_::_::_::_::_::_::_::_::_::_::_::_::_::_::_::_::_::_::_::_::_::_) rfl ?_
        refine rl_pass (met_not rfl rfl (decide_eq_true c4)) (tm' := _::_::_::_::_::_::_::_::_::_::_::_::_::_::_::_::_::_::_::_::_::_::_::_::_::_::_::_::_::_::_) rfl ?_
        refine rl_pass (met_not rfl rfl (decide_eq_true c4)) (tm' := _::_::_::_::_::_::_::_::_::_::_::_::_::_::_::_::_::_::_::_::_::_::_::_::_::_::_::_::_::_::_::_) rfl ?_
        refine rl_det (met_none rfl) (fun h_ H_ => exd_pick_t rfl (decide_eq_true c4) (v := .bool (true)) rfl) (tm' := _::_::_::_::_::_::_::_::_::_::_::_::_::_::_::_::_::_::_::_::_::_::_::_::_::_::_::_::_::_::_::_::_) rfl ?_
        refine rl_det (met_none rfl) (fun h_ H_ => exd_move (v := .bool (true)) rfl) (tm' := _::_::_::_::_::_::_::_::_::_::_::_::_::_::_::_::_::_::_::_::_::_::_::_::_::_::_::_::_::_::_::_::_::_) rfl ?_
        refine rl_pass (met_not rfl rfl rfl) (tm' := _::_::_::_::_::_::_::_::_::_::_::_::_::_::_::_::_::_::_::_::_::_::_::_::_::_::_::_::_::_::_::_::_::_::_) rfl ?_
        refine rl_pass (met_not rfl rfl rfl) (tm' := _::_::_::_::_::_::_::_::_::_::_::_::_::_::_::_::_::_::_::_::_::_::_::_::_::_::_::_::_::_::_::_::_::_::_::_) rfl ?_
        refine rl_pass (met_not rfl rfl rfl) (tm' := _::_::_::_::_::_::_::_::_::_::_::_::_::_::_::_::_::_::_::_::_::_::_::_::_::_::_::_::_::_::_::_::_::_::_::_::_) rfl ?_
        refine rl_pass (met_not rfl rfl rfl) (tm' := _::_::_::_::_::_::_::_::_::_::_::_::_::_::_::_::_::_::_::_::_::_::_::_::_::_::_::_::_::_::_::_::_::_::_::_::_::_) rfl ?_
        refine rl_det (met_none rfl) (fun h_ H_ => exd_pick_t rfl rfl (v := .bool (true)) rfl) (tm' := _::_::_::_::_::_::_::_::_::_::_::_::_::_::_::_::_::_::_::_::_::_::_::_::_::_::_::_::_::_::_::_::_::_::_::_::_::_::_) rfl ?_
        refine rl_end ?_
        refine fl_then rfl rfl ?_
        refine fl_seq ?_
        refine rl_start ?_
        refine rl_calld (met_none rfl) (first := []) (cap := []) rfl rfl fC18 (fun h_ H_ => c18 _) (tm' := _::_::_::_::_::_::_::_::_::_::_::_::_::_::_::_::_::_::_::_::_::_::_::_::_::_::_::_::_::_::_::_::_::_::_::_::_::_::_::_) rfl ?_
        refine rl_det (met_none rfl) (fun h_ H_ => exd_assign (v := .bool (true)) rfl) (tm' := _::_::_::_::_::_::_::_) rfl ?_
        refine rl_end ?_
        refine fl_retE (by kernel_rfl) Try.func3 rfl (vs := [.bool (true)]) (fun h_ H_ => ⟨.bool (true), _, rfl, rfl, rfl⟩) (v := .bool (true)) rfl ?_
        exact fun h_ H_ => K _ _ ⟨rfl, H_.kept⟩
      · refine rl_det (met_some rfl rfl (decide_eq_false c4)) (fun h_ H_ => exd_loadN_own H_ tA24 tS24 rfl (i := 0) rfl (vs := [.int .i64 (size), .int .i64 (start), .slice a n c]) rfl rfl) (tm' := _::_::_::_::_::_::_::_::_::_::_::_::_::_::_::_::_::_::_::_::_::_::_::_::_::_::_::_::_) rfl ?_
        refine rl_det (met_some rfl rfl (decide_eq_false c4)) (fun h_ H_ => exd_move (v := .slice b m d) rfl) (tm' := _::_::_::_::_::_::_::_::_::_::_::_::_::_::_::_::_::_::_::_::_::_::_::_::_::_::_::_::_::_) rfl ?_
        refine rl_calld (met_some rfl rfl (decide_eq_false c4)) (first := []) (cap := []) rfl rfl fC17 (fun h_ H_ => c17 (.main true) _ _ (fun b_ o_ e_ => H_.per b_ o_ e_) (size) (start) _ _ _ _ D (by omega) _ _ _ _ W) (tm' := _::_::_::_::_::_::_::_::_::_::_::_::_::_::_::_::_::_::_::_::_::_::_::_::_::_::_::_::_::_::_) rfl ?_
        refine rl_det (met_some rfl rfl (decide_eq_false c4)) (fun h_ H_ => exd_not rfl) (tm' := _::_::_::_::_::_::_::_::_::_::_::_::_::_::_::_::_::_::_::_::_::_::_::_::_::_::_::_::_::_::_::_) rfl ?_
        refine rl_det (met_none rfl) (fun h_ H_ => exd_pick_f rfl (decide_eq_false c4) (v := .bool (!(decide (Weather ds xs)))) rfl) (tm' := _::_::_::_::_::_::_::_::_::_::_::_::_::_::_::_::_::_::_::_::_::_::_::_::_::_::_::_::_::_::_::_::_) rfl ?_
        refine rl_det (met_none rfl) (fun h_ H_ => exd_move (v := .bool (!(decide (Weather ds xs)))) rfl) (tm' := _::_::_::_::_::_::_::_::_::_::_::_::_::_::_::_::_::_::_::_::_::_::_::_::_::_::_::_::_::_::_::_::_::_) rfl ?_
        by_cases c5 : Weather ds xs
        · refine rl_det (met_some rfl rfl (not_f (decide_eq_true c5))) (fun h_ H_ => exd_loadN_own H_ tA24 tS24 rfl (i := 0) rfl (vs := [.int .i64 (size), .int .i64 (start), .slice a n c]) rfl rfl) (tm' := _::_::_::_::_::_::_::_::_::_::_::_::_::_::_::_::_::_::_::_::_::_::_::_::_::_::_::_::_::_::_::_::_::_::_) rfl ?_
          refine rl_det (met_some rfl rfl (not_f (decide_eq_true c5))) (fun h_ H_ => exd_move (v := .slice b2 m2 d2) rfl) (tm' := _::_::_::_::_::_::_::_::_::_::_::_::_::_::_::_::_::_::_::_::_::_::_::_::_::_::_::_::_::_::_::_::_::_::_::_) rfl ?_
          refine rl_calld (met_some rfl rfl (not_f (decide_eq_true c5))) (first := []) (cap := []) rfl rfl fC17 (fun h_ H_ => c17 (.main true) _ _ (fun b_ o_ e_ => H_.per b_ o_ e_) (size) (start) _ _ _ _ D (by omega) _ _ _ _ W2) (tm' := _::_::_::_::_::_::_::_::_::_::_::_::_::_::_::_::_::_::_::_::_::_::_::_::_::_::_::_::_::_::_::_::_::_::_::_::_) rfl ?_
          refine rl_det (met_some rfl rfl (not_f (decide_eq_true c5))) (fun h_ H_ => exd_not rfl) (tm' := _::_::_::_::_::_::_::_::_::_::_::_::_::_::_::_::_::_::_::_::_::_::_::_::_::_::_::_::_::_::_::_::_::_::_::_::_::_) rfl ?_
          refine rl_det (met_none rfl) (fun h_ H_ => exd_pick_f rfl (not_f (decide_eq_true c5)) (v := .bool (!(decide (Weather ds ys)))) rfl) (tm' := _::_::_::_::_::_::_::_::_::_::_::_::_::_::_::_::_::_::_::_::_::_::_::_::_::_::_::_::_::_::_::_::_::_::_::_::_::_::_) rfl ?_
          refine rl_end ?_
          by_cases c6 : Weather ds ys
          · refine fl_else rfl (not_f (decide_eq_true c6)) ?_
            refine fl_skip ?_
            refine fl_seq ?_
            refine fl_seq ?_
            have hOk : Ok size start ds := (‹ds.length ≤ 40 ∧ Ok size start ds›).2
            have hX : Weather ds xs := ‹_›
            have hY : Weather ds ys := ‹_›
            have hX1 := hX.1; have hY1 := hY.1
            refine rl_start ?_
            refine rl_det (met_none rfl) (fun h_ H_ => exd_assign (v := .int .i64 0) rfl) (tm' := _::_::_::_::_::_::_::_::_) rfl ?_
            refine rl_end ?_
            refine fl_block ?_
            refine fl_loop (m₀ := m2 - 0) (fun m_ tm_ h_ => ∃ (k : Nat) (y7 : Nat → Value), m_ = m2 - k ∧ tm_ = [.agg #[.int .i64 (size), .int .i64 (start), .slice a n c], .slice b m d, .slice b2 m2 d2, .pointer (some ⟨b1, 0, none⟩), undef, undef, (y7 0), .int .i64 (((k : Nat) : Int)), undef, undef, undef, undef, undef, .agg #[.int .i64 (size), .int .i64 (start), .slice a n c], .bool (decide (ds.length ≤ 40 ∧ Ok size start ds)), .bool (!(decide (ds.length ≤ 40 ∧ Ok size start ds))), .bool (!(decide (ds.length ≤ 40 ∧ Ok size start ds))), .slice b m d, .int .i64 (((m : Nat) : Int)), .bool (decide (40 < ((m : Nat) : Int))), .bool (decide (40 < ((m : Nat) : Int))), .bool (decide (40 < ((m : Nat) : Int))), .slice b2 m2 d2, .int .i64 (((m2 : Nat) : Int)), .bool (decide (40 < ((m2 : Nat) : Int))), .bool (decide (40 < ((m2 : Nat) : Int))), .bool (decide (40 < ((m2 : Nat) : Int))), .agg #[.int .i64 (size), .int .i64 (start), .slice a n c], .slice b m d, .bool (decide (Weather ds xs)), .bool (!(decide (Weather ds xs))), .bool (!(decide (Weather ds xs))), .bool (!(decide (Weather ds xs))), .agg #[.int .i64 (size), .int .i64 (start), .slice a n c], .slice b2 m2 d2, .bool (decide (Weather ds ys)), .bool (!(decide (Weather ds ys))), .bool (!(decide (Weather ds ys))), undef, (y7 1), (y7 2), (y7 3), (y7 4), (y7 5), (y7 6), (y7 7), (y7 8), (y7 9), (y7 10), (y7 11), (y7 12), (y7 13), (y7 14), (y7 15), (y7 16), undef, undef, undef, undef, undef, undef, undef, undef, undef, undef, undef, undef, undef, undef, undef, undef, undef, undef, undef, undef, undef, undef, undef, undef, undef, undef, undef, undef, undef, undef, undef, undef, undef, undef, undef, undef, undef, undef, undef, undef, undef, undef, undef, undef, undef, undef, undef, undef, undef, undef, undef, undef, undef, undef, undef, undef, undef, undef, undef, undef, undef] ∧ (k ≤ m2) ∧ (∀ i, i < k → xs.getD i 0 ≤ ys.getD i 0) ∧ St h [] p h_ ([(b1, .cells #[.int .i64 (size), .int .i64 (start), .slice a n c] 24 (0, 0))])) (fun h_ H_ => ⟨0, (fun i_ => [.bool (false), undef, undef, undef, undef, undef, undef, undef, undef, undef, undef, undef, undef, undef, undef, undef, undef].getD i_ undef), rfl, rfl, Nat.zero_le _, (fun i hi => absurd hi (Nat.not_lt_zero i)), H_⟩) ?_
            intro m_ tm_ IH8
            refine rs_ex fun k => rs_ex fun y7 => rs_and fun hm_ => rs_and fun ht_ => rs_and fun hk => rs_and fun hs => ?_
            subst hm_; subst ht_
            refine fl_seq ?_
            refine fl_seq ?_
            refine rl_start ?_
            refine rl_det (met_none rfl) (fun h_ H_ => exd_move (v := .int .i64 (((k : Nat) : Int))) rfl) (tm' := _::_::_::_::_::_::_::_::_::_::_::_::_::_::_::_::_::_::_::_::_::_::_::_::_::_::_::_::_::_::_::_::_::_::_::_::_::_::_::_::_) rfl ?_
            refine rl_det (met_none rfl) (fun h_ H_ => exd_move (v := .slice b2 m2 d2) rfl) (tm' := _::_::_::_::_::_::_::_::_::_::_::_::_::_::_::_::_::_::_::_::_::_::_::_::_::_::_::_::_::_::_::_::_::_::_::_::_::_::_::_::_::_) rfl ?_
            refine rl_det (met_none rfl) (fun h_ H_ => exd_len Try.underlying25 rfl) (tm' := _::_::_::_::_::_::_::_::_::_::_::_::_::_::_::_::_::_::_::_::_::_::_::_::_::_::_::_::_::_::_::_::_::_::_::_::_::_::_::_::_::_::_) rfl ?_
            refine rl_det (met_none rfl) (fun h_ H_ => exd_lss rfl rfl) (tm' := _::_::_::_::_::_::_::_::_::_::_::_::_::_::_::_::_::_::_::_::_::_::_::_::_::_::_::_::_::_::_::_::_::_::_::_::_::_::_::_::_::_::_::_) rfl ?_
            refine rl_end ?_
            by_cases c9 : ((k : Nat) : Int) < ((m2 : Nat) : Int)
            · refine fl_then rfl (decide_eq_true c9) ?_
              refine fl_skip ?_
              refine fl_seq ?_
              refine fl_block ?_
              refine fl_seq ?_
              refine fl_drawn 8 [[], [], [0, 1], [0, 1, 2], [], [], [4, 5], [4, 5, 6], []] mixed (by kernel_rfl) (Nat.le_of_ble_eq_true rfl) (tmF := [.agg #[.int .i64 (size), .int .i64 (start), .slice a n c], .slice b m d, .slice b2 m2 d2, .pointer (some ⟨b1, 0, none⟩), undef, undef, (y7 0), .int .i64 (((k : Nat) : Int)), undef, undef, undef, undef, undef, .agg #[.int .i64 (size), .int .i64 (start), .slice a n c], .bool (decide (ds.length ≤ 40 ∧ Ok size start ds)), .bool (!(decide (ds.length ≤ 40 ∧ Ok size start ds))), .bool (!(decide (ds.length ≤ 40 ∧ Ok size start ds))), .slice b m d, .int .i64 (((m : Nat) : Int)), .bool (decide (40 < ((m : Nat) : Int))), .bool (decide (40 < ((m : Nat) : Int))), .bool (decide (40 < ((m : Nat) : Int))), .slice b2 m2 d2, .int .i64 (((m2 : Nat) : Int)), .bool (decide (40 < ((m2 : Nat) : Int))), .bool (decide (40 < ((m2 : Nat) : Int))), .bool (decide (40 < ((m2 : Nat) : Int))), .agg #[.int .i64 (size), .int .i64 (start), .slice a n c], .slice b m d, .bool (decide (Weather ds xs)), .bool (!(decide (Weather ds xs))), .bool (!(decide (Weather ds xs))), .bool (!(decide (Weather ds xs))), .agg #[.int .i64 (size), .int .i64 (start), .slice a n c], .slice b2 m2 d2, .bool (decide (Weather ds ys)), .bool (!(decide (Weather ds ys))), .bool (!(decide (Weather ds ys))), undef, .int .i64 (((k : Nat) : Int)), .slice b2 m2 d2, .int .i64 (((m2 : Nat) : Int)), .bool (decide (((k : Nat) : Int) < ((m2 : Nat) : Int))), (y7 5), (y7 6), .slice b2 m2 d2, .int .i64 (((k : Nat) : Int)), .pointer (some ((adr b2).add (k * 1))), .int .i64 (ys.getD k 0), .slice b m d, .int .i64 (((k : Nat) : Int)), .pointer (some ((adr b).add (k * 1))), .int .i64 (xs.getD k 0), (y7 15), (y7 16), undef, undef, undef, undef, undef, undef, undef, undef, undef, undef, undef, undef, undef, undef, undef, undef, undef, undef, undef, undef, undef, undef, undef, undef, undef, undef, undef, undef, undef, undef, undef, undef, undef, undef, undef, undef, undef, undef, undef, undef, undef, undef, undef, undef, undef, undef, undef, undef, undef, undef, undef, undef, undef, undef, undef, undef, undef, undef, undef, undef, undef]) ?_ ?_
              · refine sw_det (met_none rfl) (fun h_ H_ => exd_move (v := .slice b2 m2 d2) rfl) (tm' := _::_::_::_::_::_::_::_::_::_::_::_::_::_::_::_::_::_::_::_::_::_::_::_::_::_::_::_::_::_::_::_::_::_::_::_::_::_::_::_::_::_::_::_::_::_::_) rfl ?_
                refine sw_det (met_none rfl) (fun h_ H_ => exd_move (v := .int .i64 (((k : Nat) : Int))) rfl) (tm' := _::_::_::_::_::_::_::_::_::_::_::_::_::_::_::_::_::_::_::_::_::_::_::_::_::_::_::_::_::_::_::_::_::_::_::_::_::_::_::_::_::_::_::_::_::_::_::_) rfl ?_
                refine sw_det (met_none rfl) (fun h_ H_ => exd_indexAddrN (i := k) Try.underlying25 tS3 (sl_ne b2 m2 d2 (W2.ne (by omega))) rfl (by omega)) (tm' := _::_::_::_::_::_::_::_::_::_::_::_::_::_::_::_::_::_::_::_::_::_::_::_::_::_::_::_::_::_::_::_::_::_::_::_::_::_::_::_::_::_::_::_::_::_::_::_::_) rfl ?_
                refine sw_det (met_none rfl) (fun h_ H_ => exd_load_per H_ tA3 rfl (v := .int .i64 (ys.getD k 0)) (W2.get (by omega))) (tm' := _::_::_::_::_::_::_::_::_::_::_::_::_::_::_::_::_::_::_::_::_::_::_::_::_::_::_::_::_::_::_::_::_::_::_::_::_::_::_::_::_::_::_::_::_::_::_::_::_::_) rfl ?_
                refine sw_det (met_none rfl) (fun h_ H_ => exd_move (v := .slice b m d) rfl) (tm' := _::_::_::_::_::_::_::_::_::_::_::_::_::_::_::_::_::_::_::_::_::_::_::_::_::_::_::_::_::_::_::_::_::_::_::_::_::_::_::_::_::_::_::_::_::_::_::_::_::_::_) rfl ?_
                refine sw_det (met_none rfl) (fun h_ H_ => exd_move (v := .int .i64 (((k : Nat) : Int))) rfl) (tm' := _::_::_::_::_::_::_::_::_::_::_::_::_::_::_::_::_::_::_::_::_::_::_::_::_::_::_::_::_::_::_::_::_::_::_::_::_::_::_::_::_::_::_::_::_::_::_::_::_::_::_::_) rfl ?_
                refine sw_det (met_none rfl) (fun h_ H_ => exd_indexAddrN (i := k) Try.underlying25 tS3 (sl_ne b m d (W.ne (by omega))) rfl (by omega)) (tm' := _::_::_::_::_::_::_::_::_::_::_::_::_::_::_::_::_::_::_::_::_::_::_::_::_::_::_::_::_::_::_::_::_::_::_::_::_::_::_::_::_::_::_::_::_::_::_::_::_::_::_::_::_) rfl ?_
                refine sw_det (met_none rfl) (fun h_ H_ => exd_load_per H_ tA3 rfl (v := .int .i64 (xs.getD k 0)) (W.get (by omega))) (tm' := _::_::_::_::_::_::_::_::_::_::_::_::_::_::_::_::_::_::_::_::_::_::_::_::_::_::_::_::_::_::_::_::_::_::_::_::_::_::_::_::_::_::_::_::_::_::_::_::_::_::_::_::_::_) rfl ?_
                exact sw_nil rfl rfl
              refine rl_det (met_none rfl) (fun h_ H_ => exd_lss rfl rfl) (tm' := _::_::_::_::_::_::_::_::_::_::_::_::_::_::_::_::_::_::_::_::_::_::_::_::_::_::_::_::_::_::_::_::_::_::_::_::_::_::_::_::_::_::_::_::_::_::_::_::_::_::_::_::_::_::_) rfl ?_
              refine rl_end ?_
              by_cases c10 : ys.getD k 0 < xs.getD k 0
              · refine fl_then rfl (decide_eq_true c10) ?_
                refine fl_seq ?_
                refine rl_start ?_
                refine rl_calld (met_none rfl) (first := []) (cap := []) rfl rfl fC18 (fun h_ H_ => c18 _) (tm' := _::_::_::_::_::_::_::_::_::_::_::_::_::_::_::_::_::_::_::_::_::_::_::_::_::_::_::_::_::_::_::_::_::_::_::_::_::_::_::_::_::_::_::_::_::_::_::_::_::_::_::_::_::_::_::_) rfl ?_
                refine rl_det (met_none rfl) (fun h_ H_ => exd_assign (v := .bool (true)) rfl) (tm' := _::_::_::_::_::_::_::_) rfl ?_
                refine rl_end ?_
                refine fl_retE (by kernel_rfl) Try.func3 rfl (vs := [.bool (true)]) (fun h_ H_ => ⟨.bool (true), _, rfl, rfl, rfl⟩) (v := .bool (true)) rfl ?_
                exact fun h_ H_ => K _ _ ⟨rfl, H_.kept⟩
              · refine fl_else rfl (decide_eq_false c10) ?_
                refine fl_skip ?_
                refine fl_inBlock ?_
                refine rl_start ?_
                refine rl_det (met_none rfl) (fun h_ H_ => exd_move (v := .int .i64 (((k : Nat) : Int))) rfl) (tm' := _::_::_::_::_::_::_::_::_::_::_::_::_::_::_::_::_::_::_::_::_::_::_::_::_::_::_::_::_::_::_::_::_::_::_::_::_::_::_::_::_::_::_::_::_) rfl ?_
                refine rl_det (met_none rfl) (fun h_ H_ => exd_add rfl rfl (n := ((k + 1 : Nat) : Int)) (wr (by omega))) (tm' := _::_::_::_::_::_::_::_::_::_::_::_::_::_::_::_::_::_::_::_::_::_::_::_::_::_::_::_::_::_::_::_::_::_::_::_::_::_::_::_::_::_::_::_::_::_) rfl ?_
                refine rl_det (met_none rfl) (fun h_ H_ => exd_assign (v := .int .i64 (((k + 1 : Nat) : Int))) rfl) (tm' := _::_::_::_::_::_::_::_::_) rfl ?_
                refine rl_end ?_
                exact fun h_ H_ => IH8 _ _ (by omega) h_ ⟨k + 1, (fun i_ => [(y7 0), .int .i64 (((k : Nat) : Int)), .slice b2 m2 d2, .int .i64 (((m2 : Nat) : Int)), .bool (decide (((k : Nat) : Int) < ((m2 : Nat) : Int))), .int .i64 (((k : Nat) : Int)), .int .i64 (((k + 1 : Nat) : Int)), .slice b2 m2 d2, .int .i64 (((k : Nat) : Int)), .pointer (some ((adr b2).add (k * 1))), .int .i64 (ys.getD k 0), .slice b m d, .int .i64 (((k : Nat) : Int)), .pointer (some ((adr b).add (k * 1))), .int .i64 (xs.getD k 0), .bool (decide (ys.getD k 0 < xs.getD k 0)), (y7 16)].getD i_ undef), rfl, rfl, (by omega), (fun i hi => by by_cases e : i = k; (subst e; omega); exact hs i (by omega)), H_⟩
            · refine fl_else rfl (decide_eq_false c9) ?_
              refine fl_exit rfl ?_
              refine fl_seq ?_
              have hle : ∀ i, i < n → xs.getD i 0 ≤ ys.getD i 0 := fun i hi => hs i (by omega)
              refine rl_start ?_
              refine rl_det (met_none rfl) (fun h_ H_ => exd_loadN_own H_ tA24 tS24 rfl (i := 0) rfl (vs := [.int .i64 (size), .int .i64 (start), .slice a n c]) rfl rfl) (tm' := _::_::_::_::_::_::_::_::_::_::_::_::_::_::_::_::_::_::_::_::_::_::_::_::_::_::_::_::_::_::_::_::_::_::_::_::_::_::_::_::_::_::_::_::_::_::_::_::_::_::_::_::_::_::_::_::_::_) rfl ?_
              refine rl_det (met_none rfl) (fun h_ H_ => exd_move (v := .slice b m d) rfl) (tm' := _::_::_::_::_::_::_::_::_::_::_::_::_::_::_::_::_::_::_::_::_::_::_::_::_::_::_::_::_::_::_::_::_::_::_::_::_::_::_::_::_::_::_::_::_::_::_::_::_::_::_::_::_::_::_::_::_::_::_) rfl ?_
              refine rl_own (L' := ([(b1, .cells #[.int .i64 (size), .int .i64 (start), .slice a n c] 24 (0, 0))] : Pcs) ++ []) rfl ?_
              refine rl_call (met_none rfl) (first := []) (cap := []) rfl rfl fC19 (R := fun v_ h_ => ∃ w11 : Value, ∃ w12 : Value, ∃ w13 : Value, ∃ X14 : Pcs, ∃ X15 : Pcs, ∃ X16 : Pcs, v_ = .tuple #[.agg #[w11, w12, w13], .bool (true)] ∧ (OwnS 3 1 w11 (ns (levs size start (wantOf ds) (listOf xs)) n) X14) ∧ (OwnS 3 1 w12 (ns (lack size start (wantOf ds) (listOf xs)) n) X15) ∧ (OwnS 3 1 w13 (ns (ovr size start (wantOf ds) (listOf xs)) n) X16) ∧ St h [] p h_ (([(b1, .cells #[.int .i64 (size), .int .i64 (start), .slice a n c] 24 (0, 0))] : Pcs) ++ ((X14 ++ (X15 ++ (X16 ++ []))) ++ []))) (fun h_ H_ => (c19 (.main true) _ _ (fun b_ o_ e_ => H_.per b_ o_ e_) (size) (start) _ _ _ _ D (by omega) _ _ _ _ W (by omega) hOk hX).mono fun v_ h2_ ⟨w11, w12, w13, X14, X15, X16, e_, o17, o18, o19, N_⟩ => ⟨w11, w12, w13, X14, X15, X16, e_, o17, o18, o19, H_.callNA N_⟩) fun v_ => ?_
              refine rl_ex fun w11 => rl_ex fun w12 => rl_ex fun w13 => rl_ex fun X14 => rl_ex fun X15 => rl_ex fun X16 => rl_and fun ev_ => rl_and fun o17 => rl_and fun o18 => rl_and fun o19 => ?_
              have ev_ := ev_.symm; subst ev_
              refine rl_own (L' := ([(b1, .cells #[.int .i64 (size), .int .i64 (start), .slice a n c] 24 (0, 0))] : Pcs) ++ (X14 ++ (X15 ++ (X16 ++ [])))) (by simp) ?_
              refine rl_norm (tm' := _::_::_::_::_::_::_::_::_::_::_::_::_::_::_::_::_::_::_::_::_::_::_::_::_::_::_::_::_::_::_::_::_::_::_::_::_::_::_::_::_::_::_::_::_::_::_::_::_::_::_::_::_::_::_::_::_::_::_::_) rfl ?_
              refine rl_det (met_none rfl) (fun h_ H_ => exd_move (v := .tuple #[.agg #[w11, w12, w13], .bool (true)]) rfl) (tm' := _::_::_::_::_::_::_::_::_::_::_::_::_::_::_::_::_::_::_::_::_::_::_::_::_::_::_::_::_::_::_::_::_::_::_::_::_::_::_::_::_::_::_::_::_::_::_::_::_::_::_::_::_::_::_::_::_) rfl ?_
              refine rl_det (met_none rfl) (fun h_ H_ => exd_extract rfl (v := .agg #[w11, w12, w13]) rfl) (tm' := _::_::_::_::_::_::_::_::_::_::_::_::_::_::_::_::_::_::_::_::_::_::_::_::_::_::_::_::_::_::_::_::_::_::_::_::_::_::_::_::_::_::_::_::_::_::_::_::_::_::_::_::_::_::_::_::_::_::_::_::_) rfl ?_
              refine rl_det (met_none rfl) (fun h_ H_ => exd_extract rfl (v := .bool (true)) rfl) (tm' := _::_::_::_::_::_::_::_::_::_::_::_::_::_::_::_::_::_::_::_::_::_::_::_::_::_::_::_::_::_::_::_::_::_::_::_::_::_::_::_::_::_::_::_::_::_::_::_::_::_::_::_::_::_::_::_::_::_::_::_::_::_) rfl ?_
              refine rl_alloc (met_none rfl) tZ30 rfl fun b20 => rl_own (L' := ([(b20, .cells #[.slice none 0 0, .slice none 0 0, .slice none 0 0] 30 (0, 0)), (b1, .cells #[.int .i64 (size), .int .i64 (start), .slice a n c] 24 (0, 0))] : Pcs) ++ (X14 ++ (X15 ++ (X16 ++ [])))) rfl ?_
              refine rl_norm (tm' := _::_::_::_::_::_::_::_::_::_) rfl ?_
              refine rl_store (met_none rfl) tS30 rfl (v := .agg #[w11, w12, w13]) rfl (i := 0) rfl rfl (ones_cons o17.one.2 (ones_cons o18.one.2 (ones_cons o19.one.2 rfl))) (Nat.le_of_ble_eq_true rfl) (cs2 := [w11, w12, w13]) rfl (rl_own (L' := ([(b20, .cells #[w11, w12, w13] 30 (0, 0)), (b1, .cells #[.int .i64 (size), .int .i64 (start), .slice a n c] 24 (0, 0))] : Pcs) ++ (X14 ++ (X15 ++ (X16 ++ [])))) rfl ?_)
              refine rl_det (met_none rfl) (fun h_ H_ => exd_assign (v := .bool (true)) rfl) (tm' := _::_::_::_::_::_::_::_::_::_::_) rfl ?_
              refine rl_end ?_
              refine fl_seq ?_
              refine rl_start ?_
              refine rl_det (met_none rfl) (fun h_ H_ => exd_loadN_own H_ tA24 tS24 rfl (i := 1) rfl (vs := [.int .i64 (size), .int .i64 (start), .slice a n c]) rfl rfl) (tm' := _::_::_::_::_::_::_::_::_::_::_::_::_::_::_::_::_::_::_::_::_::_::_::_::_::_::_::_::_::_::_::_::_::_::_::_::_::_::_::_::_::_::_::_::_::_::_::_::_::_::_::_::_::_::_::_::_::_::_::_::_::_::_::_) rfl ?_
              refine rl_det (met_none rfl) (fun h_ H_ => exd_move (v := .slice b2 m2 d2) rfl) (tm' := _::_::_::_::_::_::_::_::_::_::_::_::_::_::_::_::_::_::_::_::_::_::_::_::_::_::_::_::_::_::_::_::_::_::_::_::_::_::_::_::_::_::_::_::_::_::_::_::_::_::_::_::_::_::_::_::_::_::_::_::_::_::_::_::_) rfl ?_
              refine rl_call (met_none rfl) (first := []) (cap := []) rfl rfl fC19 (R := fun v_ h_ => ∃ w21 : Value, ∃ w22 : Value, ∃ w23 : Value, ∃ X24 : Pcs, ∃ X25 : Pcs, ∃ X26 : Pcs, v_ = .tuple #[.agg #[w21, w22, w23], .bool (true)] ∧ (OwnS 3 1 w21 (ns (levs size start (wantOf ds) (listOf ys)) n) X24) ∧ (OwnS 3 1 w22 (ns (lack size start (wantOf ds) (listOf ys)) n) X25) ∧ (OwnS 3 1 w23 (ns (ovr size start (wantOf ds) (listOf ys)) n) X26) ∧ St h [] p h_ (([(b20, .cells #[w11, w12, w13] 30 (0, 0)), (b1, .cells #[.int .i64 (size), .int .i64 (start), .slice a n c] 24 (0, 0))] : Pcs) ++ ((X24 ++ (X25 ++ (X26 ++ []))) ++ (X14 ++ (X15 ++ (X16 ++ [])))))) (fun h_ H_ => (c19 (.main true) _ _ (fun b_ o_ e_ => H_.per b_ o_ e_) (size) (start) _ _ _ _ D (by omega) _ _ _ _ W2 (by omega) hOk hY).mono fun v_ h2_ ⟨w21, w22, w23, X24, X25, X26, e_, o27, o28, o29, N_⟩ => ⟨w21, w22, w23, X24, X25, X26, e_, o27, o28, o29, H_.callNA N_⟩) fun v_ => ?_
              refine rl_ex fun w21 => rl_ex fun w22 => rl_ex fun w23 => rl_ex fun X24 => rl_ex fun X25 => rl_ex fun X26 => rl_and fun ev_ => rl_and fun o27 => rl_and fun o28 => rl_and fun o29 => ?_
              have ev_ := ev_.symm; subst ev_
              refine rl_own (L' := ([(b20, .cells #[w11, w12, w13] 30 (0, 0)), (b1, .cells #[.int .i64 (size), .int .i64 (start), .slice a n c] 24 (0, 0))] : Pcs) ++ (X24 ++ (X25 ++ (X26 ++ (X14 ++ (X15 ++ (X16 ++ []))))))) (by simp) ?_
              refine rl_norm (tm' := _::_::_::_::_::_::_::_::_::_::_::_::_::_::_::_::_::_::_::_::_::_::_::_::_::_::_::_::_::_::_::_::_::_::_::_::_::_::_::_::_::_::_::_::_::_::_::_::_::_::_::_::_::_::_::_::_::_::_::_::_::_::_::_::_::_) rfl ?_
              refine rl_det (met_none rfl) (fun h_ H_ => exd_move (v := .tuple #[.agg #[w21, w22, w23], .bool (true)]) rfl) (tm' := _::_::_::_::_::_::_::_::_::_::_::_::_::_::_::_::_::_::_::_::_::_::_::_::_::_::_::_::_::_::_::_::_::_::_::_::_::_::_::_::_::_::_::_::_::_::_::_::_::_::_::_::_::_::_::_::_::_::_::_::_::_::_) rfl ?_
              refine rl_det (met_none rfl) (fun h_ H_ => exd_extract rfl (v := .agg #[w21, w22, w23]) rfl) (tm' := _::_::_::_::_::_::_::_::_::_::_::_::_::_::_::_::_::_::_::_::_::_::_::_::_::_::_::_::_::_::_::_::_::_::_::_::_::_::_::_::_::_::_::_::_::_::_::_::_::_::_::_::_::_::_::_::_::_::_::_::_::_::_::_::_::_::_) rfl ?_
              refine rl_det (met_none rfl) (fun h_ H_ => exd_extract rfl (v := .bool (true)) rfl) (tm' := _::_::_::_::_::_::_::_::_::_::_::_::_::_::_::_::_::_::_::_::_::_::_::_::_::_::_::_::_::_::_::_::_::_::_::_::_::_::_::_::_::_::_::_::_::_::_::_::_::_::_::_::_::_::_::_::_::_::_::_::_::_::_::_::_::_::_::_) rfl ?_
              refine rl_alloc (met_none rfl) tZ30 rfl fun b30 => rl_own (L' := ([(b30, .cells #[.slice none 0 0, .slice none 0 0, .slice none 0 0] 30 (0, 0)), (b20, .cells #[w11, w12, w13] 30 (0, 0)), (b1, .cells #[.int .i64 (size), .int .i64 (start), .slice a n c] 24 (0, 0))] : Pcs) ++ (X24 ++ (X25 ++ (X26 ++ (X14 ++ (X15 ++ (X16 ++ []))))))) rfl ?_
              refine rl_norm (tm' := _::_::_::_::_::_::_::_::_::_::_::_) rfl ?_
              refine rl_store (met_none rfl) tS30 rfl (v := .agg #[w21, w22, w23]) rfl (i := 0) rfl rfl (ones_cons o27.one.2 (ones_cons o28.one.2 (ones_cons o29.one.2 rfl))) (Nat.le_of_ble_eq_true rfl) (cs2 := [w21, w22, w23]) rfl (rl_own (L' := ([(b30, .cells #[w21, w22, w23] 30 (0, 0)), (b20, .cells #[w11, w12, w13] 30 (0, 0)), (b1, .cells #[.int .i64 (size), .int .i64 (start), .slice a n c] 24 (0, 0))] : Pcs) ++ (X24 ++ (X25 ++ (X26 ++ (X14 ++ (X15 ++ (X16 ++ []))))))) rfl ?_)
              refine rl_det (met_none rfl) (fun h_ H_ => exd_assign (v := .bool (true)) rfl) (tm' := _::_::_::_::_::_::_::_::_::_::_::_::_) rfl ?_
              refine rl_end ?_
              refine fl_seq ?_
              refine fl_seq ?_
              refine rs_lastN (A := ([(b30, .cells #[w21, w22, w23] 30 (0, 0)), (b20, .cells #[w11, w12, w13] 30 (0, 0)), (b1, .cells #[.int .i64 (size), .int .i64 (start), .slice a n c] 24 (0, 0))] : Pcs)) o27 (ns_length _ _) fun p31 a32 cp33 le34 ev_ D35 => ?_
              subst ev_
              refine rs_lastN (A := ([(b30, .cells #[.slice a32 n cp33, w22, w23] 30 (0, 0)), (b20, .cells #[w11, w12, w13] 30 (0, 0)), (b1, .cells #[.int .i64 (size), .int .i64 (start), .slice a n c] 24 (0, 0))] : Pcs)) o28 (ns_length _ _) fun p36 a37 cp38 le39 ev_ D40 => ?_
              subst ev_
              refine rs_lastN (A := ([(b30, .cells #[.slice a32 n cp33, .slice a37 n cp38, w23] 30 (0, 0)), (b20, .cells #[w11, w12, w13] 30 (0, 0)), (b1, .cells #[.int .i64 (size), .int .i64 (start), .slice a n c] 24 (0, 0))] : Pcs)) o29 (ns_length _ _) fun p41 a42 cp43 le44 ev_ D45 => ?_
              subst ev_
              refine rs_lastN (A := ([(b30, .cells #[.slice a32 n cp33, .slice a37 n cp38, .slice a42 n cp43] 30 (0, 0)), (b20, .cells #[w11, w12, w13] 30 (0, 0)), (b1, .cells #[.int .i64 (size), .int .i64 (start), .slice a n c] 24 (0, 0))] : Pcs)) o17 (ns_length _ _) fun p46 a47 cp48 le49 ev_ D50 => ?_
              subst ev_
              refine rs_lastN (A := ([(b30, .cells #[.slice a32 n cp33, .slice a37 n cp38, .slice a42 n cp43] 30 (0, 0)), (b20, .cells #[.slice a47 n cp48, w12, w13] 30 (0, 0)), (b1, .cells #[.int .i64 (size), .int .i64 (start), .slice a n c] 24 (0, 0))] : Pcs)) o18 (ns_length _ _) fun p51 a52 cp53 le54 ev_ D55 => ?_
              subst ev_
              refine rs_lastN (A := ([(b30, .cells #[.slice a32 n cp33, .slice a37 n cp38, .slice a42 n cp43] 30 (0, 0)), (b20, .cells #[.slice a47 n cp48, .slice a52 n cp53, w13] 30 (0, 0)), (b1, .cells #[.int .i64 (size), .int .i64 (start), .slice a n c] 24 (0, 0))] : Pcs)) o19 (ns_length _ _) fun p56 a57 cp58 le59 ev_ D60 => ?_
              subst ev_
              refine rs_own (L' := [(b30, .cells #[.slice a32 n cp33, .slice a37 n cp38, .slice a42 n cp43] 30 (0, 0)), (b20, .cells #[.slice a47 n cp48, .slice a52 n cp53, .slice a57 n cp58] 30 (0, 0)), (b1, .cells #[.int .i64 (size), .int .i64 (start), .slice a n c] 24 (0, 0))]) rfl ?_
              refine rl_start ?_
              refine rl_det (met_none rfl) (fun h_ H_ => exd_move (v := .bool (true)) rfl) (tm' := _::_::_::_::_::_::_::_::_::_::_::_::_::_::_::_::_::_::_::_::_::_::_::_::_::_::_::_::_::_::_::_::_::_::_::_::_::_::_::_::_::_::_::_::_::_::_::_::_::_::_::_::_::_::_::_::_::_::_::_::_::_::_::_::_::_::_::_::_) rfl ?_
              refine rl_det (met_none rfl) (fun h_ H_ => exd_not rfl) (tm' := _::_::_::_::_::_::_::_::_::_::_::_::_::_::_::_::_::_::_::_::_::_::_::_::_::_::_::_::_::_::_::_::_::_::_::_::_::_::_::_::_::_::_::_::_::_::_::_::_::_::_::_::_::_::_::_::_::_::_::_::_::_::_::_::_::_::_::_::_::_) rfl ?_
              refine rl_det (met_none rfl) (fun h_ H_ => exd_move (v := .bool (!true)) rfl) (tm' := _::_::_::_::_::_::_::_::_::_::_::_::_::_::_::_::_::_::_::_::_::_::_::_::_::_::_::_::_::_::_::_::_::_::_::_::_::_::_::_::_::_::_::_::_::_::_::_::_::_::_::_::_::_::_::_::_::_::_::_::_::_::_::_::_::_::_::_::_::_::_) rfl ?_
              refine rl_det (met_some rfl rfl (not_f rfl)) (fun h_ H_ => exd_move (v := .bool (true)) rfl) (tm' := _::_::_::_::_::_::_::_::_::_::_::_::_::_::_::_::_::_::_::_::_::_::_::_::_::_::_::_::_::_::_::_::_::_::_::_::_::_::_::_::_::_::_::_::_::_::_::_::_::_::_::_::_::_::_::_::_::_::_::_::_::_::_::_::_::_::_::_::_::_::_::_) rfl ?_
              refine rl_det (met_some rfl rfl (not_f rfl)) (fun h_ H_ => exd_not rfl) (tm' := _::_::_::_::_::_::_::_::_::_::_::_::_::_::_::_::_::_::_::_::_::_::_::_::_::_::_::_::_::_::_::_::_::_::_::_::_::_::_::_::_::_::_::_::_::_::_::_::_::_::_::_::_::_::_::_::_::_::_::_::_::_::_::_::_::_::_::_::_::_::_::_::_) rfl ?_
              refine rl_det (met_none rfl) (fun h_ H_ => exd_pick_f rfl (not_f rfl) (v := .bool (!true)) rfl) (tm' := _::_::_::_::_::_::_::_::_::_::_::_::_::_::_::_::_::_::_::_::_::_::_::_::_::_::_::_::_::_::_::_::_::_::_::_::_::_::_::_::_::_::_::_::_::_::_::_::_::_::_::_::_::_::_::_::_::_::_::_::_::_::_::_::_::_::_::_::_::_::_::_::_::_) rfl ?_
              refine rl_end ?_
              refine fl_else rfl (not_f rfl) ?_
              refine fl_skip ?_
              refine fl_seq ?_
              refine fl_seq ?_
              refine rl_start ?_
              refine rl_det (met_none rfl) (fun h_ H_ => exd_assign (v := .int .i64 0) rfl) (tm' := _::_::_::_::_::_::_::_::_::_::_::_::_::_) rfl ?_
              refine rl_end ?_
              refine fl_block ?_
              refine fl_loop (m₀ := n - 0) (fun m_ tm_ h_ => ∃ (j : Nat) (y61 : Nat → Value), m_ = n - j ∧ tm_ = [.agg #[.int .i64 (size), .int .i64 (start), .slice a n c], .slice b m d, .slice b2 m2 d2, .pointer (some ⟨b1, 0, none⟩), undef, undef, (y61 0), .int .i64 (((k : Nat) : Int)), .pointer (some ⟨b20, 0, none⟩), .bool (true), .pointer (some ⟨b30, 0, none⟩), .bool (true), .int .i64 (((j : Nat) : Int)), .agg #[.int .i64 (size), .int .i64 (start), .slice a n c], .bool (decide (ds.length ≤ 40 ∧ Ok size start ds)), .bool (!(decide (ds.length ≤ 40 ∧ Ok size start ds))), .bool (!(decide (ds.length ≤ 40 ∧ Ok size start ds))), .slice b m d, .int .i64 (((m : Nat) : Int)), .bool (decide (40 < ((m : Nat) : Int))), .bool (decide (40 < ((m : Nat) : Int))), .bool (decide (40 < ((m : Nat) : Int))), .slice b2 m2 d2, .int .i64 (((m2 : Nat) : Int)), .bool (decide (40 < ((m2 : Nat) : Int))), .bool (decide (40 < ((m2 : Nat) : Int))), .bool (decide (40 < ((m2 : Nat) : Int))), .agg #[.int .i64 (size), .int .i64 (start), .slice a n c], .slice b m d, .bool (decide (Weather ds xs)), .bool (!(decide (Weather ds xs))), .bool (!(decide (Weather ds xs))), .bool (!(decide (Weather ds xs))), .agg #[.int .i64 (size), .int .i64 (start), .slice a n c], .slice b2 m2 d2, .bool (decide (Weather ds ys)), .bool (!(decide (Weather ds ys))), .bool (!(decide (Weather ds ys))), undef, .int .i64 (((k : Nat) : Int)), .slice b2 m2 d2, .int .i64 (((m2 : Nat) : Int)), .bool (decide (((k : Nat) : Int) < ((m2 : Nat) : Int))), (y7 5), (y7 6), (y7 7), (y7 8), (y7 9), (y7 10), (y7 11), (y7 12), (y7 13), (y7 14), (y7 15), (y7 16), .tuple #[.agg #[.slice a47 n cp48, .slice a52 n cp53, .slice a57 n cp58], .bool (true)], .agg #[.int .i64 (size), .int .i64 (start), .slice a n c], .slice b m d, .tuple #[.agg #[.slice a47 n cp48, .slice a52 n cp53, .slice a57 n cp58], .bool (true)], .agg #[.slice a47 n cp48, .slice a52 n cp53, .slice a57 n cp58], .bool (true), .tuple #[.agg #[.slice a32 n cp33, .slice a37 n cp38, .slice a42 n cp43], .bool (true)], .agg #[.int .i64 (size), .int .i64 (start), .slice a n c], .slice b2 m2 d2, .tuple #[.agg #[.slice a32 n cp33, .slice a37 n cp38, .slice a42 n cp43], .bool (true)], .agg #[.slice a32 n cp33, .slice a37 n cp38, .slice a42 n cp43], .bool (true), .bool (true), .bool (!true), .bool (!true), .bool (true), .bool (!true), .bool (!true), (y61 1), (y61 2), (y61 3), (y61 4), (y61 5), (y61 6), (y61 7), (y61 8), (y61 9), (y61 10), (y61 11), (y61 12), (y61 13), (y61 14), (y61 15), (y61 16), (y61 17), (y61 18), (y61 19), (y61 20), (y61 21), (y61 22), (y61 23), (y61 24), (y61 25), (y61 26), (y61 27), (y61 28), (y61 29), (y61 30), (y61 31), (y61 32), (y61 33), (y61 34), (y61 35), (y61 36), (y61 37), (y61 38), (y61 39), (y61 40), (y61 41), (y61 42), undef] ∧ (j ≤ n) ∧ St h [] p56 h_ ([(b30, .cells #[.slice a32 n cp33, .slice a37 n cp38, .slice a42 n cp43] 30 (0, 0)), (b20, .cells #[.slice a47 n cp48, .slice a52 n cp53, .slice a57 n cp58] 30 (0, 0)), (b1, .cells #[.int .i64 (size), .int .i64 (start), .slice a n c] 24 (0, 0))])) (fun h_ H_ => ⟨0, (fun i_ => [(y7 0), undef, undef, undef, undef, undef, undef, undef, undef, undef, undef, undef, undef, undef, undef, undef, undef, undef, undef, undef, undef, undef, undef, undef, undef, undef, undef, undef, undef, undef, undef, undef, undef, undef, undef, undef, undef, undef, undef, undef, undef, undef, undef].getD i_ undef), rfl, rfl, Nat.zero_le _, H_⟩) ?_
              intro m_ tm_ IH62
              refine rs_ex fun j => rs_ex fun y61 => rs_and fun hm_ => rs_and fun ht_ => rs_and fun hj => ?_
              subst hm_; subst ht_
              have hmd := fun (h_ : j < n) => more_day (size := size) (start := start) (ds := ds) h_ hle
              refine fl_seq ?_
              refine fl_seq ?_
              refine rl_start ?_
              refine rl_det (met_none rfl) (fun h_ H_ => exd_move (v := .int .i64 (((j : Nat) : Int))) rfl) (tm' := _::_::_::_::_::_::_::_::_::_::_::_::_::_::_::_::_::_::_::_::_::_::_::_::_::_::_::_::_::_::_::_::_::_::_::_::_::_::_::_::_::_::_::_::_::_::_::_::_::_::_::_::_::_::_::_::_::_::_::_::_::_::_::_::_::_::_::_::_::_::_::_::_::_::_) rfl ?_
              refine rl_det (met_none rfl) (fun h_ H_ => exd_fieldAddr tF24_2 rfl (a' := ⟨b1, 2, none⟩) rfl) (tm' := _::_::_::_::_::_::_::_::_::_::_::_::_::_::_::_::_::_::_::_::_::_::_::_::_::_::_::_::_::_::_::_::_::_::_::_::_::_::_::_::_::_::_::_::_::_::_::_::_::_::_::_::_::_::_::_::_::_::_::_::_::_::_::_::_::_::_::_::_::_::_::_::_::_::_::_) rfl ?_
              refine rl_det (met_none rfl) (fun h_ H_ => exd_load_own H_ tA22 rfl (i := 2) rfl (v := .slice a n c) rfl) (tm' := _::_::_::_::_::_::_::_::_::_::_::_::_::_::_::_::_::_::_::_::_::_::_::_::_::_::_::_::_::_::_::_::_::_::_::_::_::_::_::_::_::_::_::_::_::_::_::_::_::_::_::_::_::_::_::_::_::_::_::_::_::_::_::_::_::_::_::_::_::_::_::_::_::_::_::_::_) rfl ?_
              refine rl_det (met_none rfl) (fun h_ H_ => exd_len Try.underlying22 rfl) (tm' := _::_::_::_::_::_::_::_::_::_::_::_::_::_::_::_::_::_::_::_::_::_::_::_::_::_::_::_::_::_::_::_::_::_::_::_::_::_::_::_::_::_::_::_::_::_::_::_::_::_::_::_::_::_::_::_::_::_::_::_::_::_::_::_::_::_::_::_::_::_::_::_::_::_::_::_::_::_) rfl ?_
              refine rl_det (met_none rfl) (fun h_ H_ => exd_lss rfl rfl) (tm' := [_,_,_,_,_,_,_,_,_,_,_,_,_,_,_,_,_,_,_,_,_,_,_,_,_,_,_,_,_,_,_,_,_,_,_,_,_,_,_,_,_,_,_,_,_,_,_,_,_,_,_,_,_,_,_,_,_,_,_,_,_,_,_,_,_,_,_,_,_,_,_,_,_,_,_,_,_,_,_,_,_,_,_,_,_,_,_,_,_,_,_,_,_,_,_,_,_,_,_,_,_,_,_,_,_,_,_,_,_,_,_,_,_,_,_,_]) rfl ?_
              refine rl_end ?_
              by_cases c63 : ((j : Nat) : Int) < ((n : Nat) : Int)
              · refine fl_then rfl (decide_eq_true c63) ?_
                refine fl_skip ?_
                refine fl_seq ?_
                refine fl_block ?_
                refine fl_seq ?_
                by_cases c64 : (nums (levs size start (wantOf ds) (listOf ys)) n).getD j 0 < (nums (levs size start (wantOf ds) (listOf xs)) n).getD j 0
                · omega
                · by_cases c65 : (nums (lack size start (wantOf ds) (listOf xs)) n).getD j 0 < (nums (lack size start (wantOf ds) (listOf ys)) n).getD j 0
                  · omega
                  · refine fl_drawn 32 [[], [0], [], [0, 1, 2], [0, 1, 2, 3], [], [5], [], [5, 6, 7], [5, 6, 7, 8], [0, 1, 2, 3, 4, 5, 6, 7, 8, 9], [0, 1, 2, 3, 4, 5, 6, 7, 8, 9, 10], [], [12], [], [12, 13, 14], [12, 13, 14, 15], [], [17], [0, 1, 2, 3, 4, 5, 6, 7, 8, 9, 10], [0, 1, 2, 3, 4, 5, 6, 7, 8, 9, 10, 17, 18, 19], [0, 1, 2, 3, 4, 5, 6, 7, 8, 9, 10, 17, 18, 19, 20], [0, 1, 2, 3, 4, 5, 6, 7, 8, 9, 10, 12, 13, 14, 15, 16, 17, 18, 19, 20, 21], [0, 1, 2, 3, 4, 5, 6, 7, 8, 9, 10, 12, 13, 14, 15, 16, 17, 18, 19, 20, 21, 22], [0, 1, 2, 3, 4, 5, 6, 7, 8, 9, 10, 11, 12, 13, 14, 15, 16, 17, 18, 19, 20, 21, 22, 23], [], [25], [], [25, 26, 27], [], [29], [0, 1, 2, 3, 4, 5, 6, 7, 8, 9, 10, 11, 12, 13, 14, 15, 16, 17, 18, 19, 20, 21, 22, 23], [0, 1, 2, 3, 4, 5, 6, 7, 8, 9, 10, 11, 12, 13, 14, 15, 16, 17, 18, 19, 20, 21, 22, 23, 25, 26, 27, 29, 30, 31], [0, 1, 2, 3, 4, 5, 6, 7, 8, 9, 10, 11, 12, 13, 14, 15, 16, 17, 18, 19, 20, 21, 22, 23, 25, 26, 27, 28, 29, 30, 31, 32], []] mixed (by kernel_rfl) (Nat.le_of_ble_eq_true rfl) (tmF := [.agg #[.int .i64 (size), .int .i64 (start), .slice a n c], .slice b m d, .slice b2 m2 d2, .pointer (some ⟨b1, 0, none⟩), undef, undef, (y61 0), .int .i64 (((k : Nat) : Int)), .pointer (some ⟨b20, 0, none⟩), .bool (true), .pointer (some ⟨b30, 0, none⟩), .bool (true), .int .i64 (((j : Nat) : Int)), .agg #[.int .i64 (size), .int .i64 (start), .slice a n c], .bool (decide (ds.length ≤ 40 ∧ Ok size start ds)), .bool (!(decide (ds.length ≤ 40 ∧ Ok size start ds))), .bool (!(decide (ds.length ≤ 40 ∧ Ok size start ds))), .slice b m d, .int .i64 (((m : Nat) : Int)), .bool (decide (40 < ((m : Nat) : Int))), .bool (decide (40 < ((m : Nat) : Int))), .bool (decide (40 < ((m : Nat) : Int))), .slice b2 m2 d2, .int .i64 (((m2 : Nat) : Int)), .bool (decide (40 < ((m2 : Nat) : Int))), .bool (decide (40 < ((m2 : Nat) : Int))), .bool (decide (40 < ((m2 : Nat) : Int))), .agg #[.int .i64 (size), .int .i64 (start), .slice a n c], .slice b m d, .bool (decide (Weather ds xs)), .bool (!(decide (Weather ds xs))), .bool (!(decide (Weather ds xs))), .bool (!(decide (Weather ds xs))), .agg #[.int .i64 (size), .int .i64 (start), .slice a n c], .slice b2 m2 d2, .bool (decide (Weather ds ys)), .bool (!(decide (Weather ds ys))), .bool (!(decide (Weather ds ys))), undef, .int .i64 (((k : Nat) : Int)), .slice b2 m2 d2, .int .i64 (((m2 : Nat) : Int)), .bool (decide (((k : Nat) : Int) < ((m2 : Nat) : Int))), (y7 5), (y7 6), (y7 7), (y7 8), (y7 9), (y7 10), (y7 11), (y7 12), (y7 13), (y7 14), (y7 15), (y7 16), .tuple #[.agg #[.slice a47 n cp48, .slice a52 n cp53, .slice a57 n cp58], .bool (true)], .agg #[.int .i64 (size), .int .i64 (start), .slice a n c], .slice b m d, .tuple #[.agg #[.slice a47 n cp48, .slice a52 n cp53, .slice a57 n cp58], .bool (true)], .agg #[.slice a47 n cp48, .slice a52 n cp53, .slice a57 n cp58], .bool (true), .tuple #[.agg #[.slice a32 n cp33, .slice a37 n cp38, .slice a42 n cp43], .bool (true)], .agg #[.int .i64 (size), .int .i64 (start), .slice a n c], .slice b2 m2 d2, .tuple #[.agg #[.slice a32 n cp33, .slice a37 n cp38, .slice a42 n cp43], .bool (true)], .agg #[.slice a32 n cp33, .slice a37 n cp38, .slice a42 n cp43], .bool (true), .bool (true), .bool (!true), .bool (!true), .bool (true), .bool (!true), .bool (!true), .int .i64 (((j : Nat) : Int)), .pointer (some ⟨b1, 2, none⟩), .slice a n c, .int .i64 (((n : Nat) : Int)), .bool (decide (((j : Nat) : Int) < ((n : Nat) : Int))), (y61 6), (y61 7), .pointer (some ⟨b30, 0, none⟩), .slice a32 n cp33, .int .i64 (((j : Nat) : Int)), .pointer (some ((adr a32).add (j * 1))), .int .i64 ((nums (levs size start (wantOf ds) (listOf ys)) n).getD j 0), .pointer (some ⟨b20, 0, none⟩), .slice a47 n cp48, .int .i64 (((j : Nat) : Int)), .pointer (some ((adr a47).add (j * 1))), .int .i64 ((nums (levs size start (wantOf ds) (listOf xs)) n).getD j 0), .bool (decide ((nums (levs size start (wantOf ds) (listOf ys)) n).getD j 0 < (nums (levs size start (wantOf ds) (listOf xs)) n).getD j 0)), .bool (decide ((nums (levs size start (wantOf ds) (listOf ys)) n).getD j 0 < (nums (levs size start (wantOf ds) (listOf xs)) n).getD j 0)), .pointer (some ⟨b30, 1, none⟩), .slice a37 n cp38, .int .i64 (((j : Nat) : Int)), .pointer (some ((adr a37).add (j * 1))), .int .i64 ((nums (lack size start (wantOf ds) (listOf ys)) n).getD j 0), .pointer (some ⟨b20, 1, none⟩), .slice a52 n cp53, .int .i64 (((j : Nat) : Int)), .pointer (some ((adr a52).add (j * 1))), .int .i64 ((nums (lack size start (wantOf ds) (listOf xs)) n).getD j 0), .bool (decide ((nums (lack size start (wantOf ds) (listOf xs)) n).getD j 0 < (nums (lack size start (wantOf ds) (listOf ys)) n).getD j 0)), .bool (decide ((nums (lack size start (wantOf ds) (listOf xs)) n).getD j 0 < (nums (lack size start (wantOf ds) (listOf ys)) n).getD j 0)), .bool (decide ((nums (lack size start (wantOf ds) (listOf xs)) n).getD j 0 < (nums (lack size start (wantOf ds) (listOf ys)) n).getD j 0)), .pointer (some ⟨b30, 2, none⟩), .slice a42 n cp43, .int .i64 (((j : Nat) : Int)), .int .i64 (sumTo (listOf (nums (ovr size start (wantOf ds) (listOf ys)) n)) (min n (((j : Nat) : Int) + 1).toNat)), .pointer (some ⟨b20, 2, none⟩), .slice a57 n cp58, .int .i64 (((j : Nat) : Int)), (y61 40), (y61 41), (y61 42), undef]) ?_ ?_
                    · refine sw_det (met_none rfl) (fun h_ H_ => exd_fieldAddr tF30_0 rfl (a' := ⟨b30, 0, none⟩) rfl) (tm' := [_,_,_,_,_,_,_,_,_,_,_,_,_,_,_,_,_,_,_,_,_,_,_,_,_,_,_,_,_,_,_,_,_,_,_,_,_,_,_,_,_,_,_,_,_,_,_,_,_,_,_,_,_,_,_,_,_,_,_,_,_,_,_,_,_,_,_,_,_,_,_,_,_,_,_,_,_,_,_,_,_,_,_,_,_,_,_,_,_,_,_,_,_,_,_,_,_,_,_,_,_,_,_,_,_,_,_,_,_,_,_,_,_,_,_,_]) rfl ?_
                      refine sw_det (met_none rfl) (fun h_ H_ => exd_load_own H_ tA25 rfl (i := 0) rfl (v := .slice a32 n cp33) rfl) (tm' := [_,_,_,_,_,_,_,_,_,_,_,_,_,_,_,_,_,_,_,_,_,_,_,_,_,_,_,_,_,_,_,_,_,_,_,_,_,_,_,_,_,_,_,_,_,_,_,_,_,_,_,_,_,_,_,_,_,_,_,_,_,_,_,_,_,_,_,_,_,_,_,_,_,_,_,_,_,_,_,_,_,_,_,_,_,_,_,_,_,_,_,_,_,_,_,_,_,_,_,_,_,_,_,_,_,_,_,_,_,_,_,_,_,_,_,_]) rfl ?_
                      refine sw_det (met_none rfl) (fun h_ H_ => exd_move (v := .int .i64 (((j : Nat) : Int))) rfl) (tm' := [_,_,_,_,_,_,_,_,_,_,_,_,_,_,_,_,_,_,_,_,_,_,_,_,_,_,_,_,_,_,_,_,_,_,_,_,_,_,_,_,_,_,_,_,_,_,_,_,_,_,_,_,_,_,_,_,_,_,_,_,_,_,_,_,_,_,_,_,_,_,_,_,_,_,_,_,_,_,_,_,_,_,_,_,_,_,_,_,_,_,_,_,_,_,_,_,_,_,_,_,_,_,_,_,_,_,_,_,_,_,_,_,_,_,_,_]) rfl ?_
                      refine sw_det (met_none rfl) (fun h_ H_ => exd_indexAddrN (i := j) Try.underlying25 tS3 (sl_ne a32 n cp33 (((((((show Ints _ _ _ (nums (levs size start (wantOf ds) (listOf ys)) n) from D35).mono le39).mono le44).mono le49).mono le54).mono le59).ne (by omega))) rfl (by omega)) (tm' := [_,_,_,_,_,_,_,_,_,_,_,_,_,_,_,_,_,_,_,_,_,_,_,_,_,_,_,_,_,_,_,_,_,_,_,_,_,_,_,_,_,_,_,_,_,_,_,_,_,_,_,_,_,_,_,_,_,_,_,_,_,_,_,_,_,_,_,_,_,_,_,_,_,_,_,_,_,_,_,_,_,_,_,_,_,_,_,_,_,_,_,_,_,_,_,_,_,_,_,_,_,_,_,_,_,_,_,_,_,_,_,_,_,_,_,_]) rfl ?_
                      refine sw_det (met_none rfl) (fun h_ H_ => exd_load_per H_ tA3 rfl (v := .int .i64 ((nums (levs size start (wantOf ds) (listOf ys)) n).getD j 0)) (((((((show Ints _ _ _ (nums (levs size start (wantOf ds) (listOf ys)) n) from D35).mono le39).mono le44).mono le49).mono le54).mono le59).get (by omega))) (tm' := [_,_,_,_,_,_,_,_,_,_,_,_,_,_,_,_,_,_,_,_,_,_,_,_,_,_,_,_,_,_,_,_,_,_,_,_,_,_,_,_,_,_,_,_,_,_,_,_,_,_,_,_,_,_,_,_,_,_,_,_,_,_,_,_,_,_,_,_,_,_,_,_,_,_,_,_,_,_,_,_,_,_,_,_,_,_,_,_,_,_,_,_,_,_,_,_,_,_,_,_,_,_,_,_,_,_,_,_,_,_,_,_,_,_,_,_]) rfl ?_
                      refine sw_det (met_none rfl) (fun h_ H_ => exd_fieldAddr tF30_0 rfl (a' := ⟨b20, 0, none⟩) rfl) (tm' := [_,_,_,_,_,_,_,_,_,_,_,_,_,_,_,_,_,_,_,_,_,_,_,_,_,_,_,_,_,_,_,_,_,_,_,_,_,_,_,_,_,_,_,_,_,_,_,_,_,_,_,_,_,_,_,_,_,_,_,_,_,_,_,_,_,_,_,_,_,_,_,_,_,_,_,_,_,_,_,_,_,_,_,_,_,_,_,_,_,_,_,_,_,_,_,_,_,_,_,_,_,_,_,_,_,_,_,_,_,_,_,_,_,_,_,_]) rfl ?_
                      refine sw_det (met_none rfl) (fun h_ H_ => exd_load_own H_ tA25 rfl (i := 1) rfl (v := .slice a47 n cp48) rfl) (tm' := [_,_,_,_,_,_,_,_,_,_,_,_,_,_,_,_,_,_,_,_,_,_,_,_,_,_,_,_,_,_,_,_,_,_,_,_,_,_,_,_,_,_,_,_,_,_,_,_,_,_,_,_,_,_,_,_,_,_,_,_,_,_,_,_,_,_,_,_,_,_,_,_,_,_,_,_,_,_,_,_,_,_,_,_,_,_,_,_,_,_,_,_,_,_,_,_,_,_,_,_,_,_,_,_,_,_,_,_,_,_,_,_,_,_,_,_]) rfl ?_
                      refine sw_det (met_none rfl) (fun h_ H_ => exd_move (v := .int .i64 (((j : Nat) : Int))) rfl) (tm' := [_,_,_,_,_,_,_,_,_,_,_,_,_,_,_,_,_,_,_,_,_,_,_,_,_,_,_,_,_,_,_,_,_,_,_,_,_,_,_,_,_,_,_,_,_,_,_,_,_,_,_,_,_,_,_,_,_,_,_,_,_,_,_,_,_,_,_,_,_,_,_,_,_,_,_,_,_,_,_,_,_,_,_,_,_,_,_,_,_,_,_,_,_,_,_,_,_,_,_,_,_,_,_,_,_,_,_,_,_,_,_,_,_,_,_,_]) rfl ?_
                      refine sw_det (met_none rfl) (fun h_ H_ => exd_indexAddrN (i := j) Try.underlying25 tS3 (sl_ne a47 n cp48 ((((show Ints _ _ _ (nums (levs size start (wantOf ds) (listOf xs)) n) from D50).mono le54).mono le59).ne (by omega))) rfl (by omega)) (tm' := [_,_,_,_,_,_,_,_,_,_,_,_,_,_,_,_,_,_,_,_,_,_,_,_,_,_,_,_,_,_,_,_,_,_,_,_,_,_,_,_,_,_,_,_,_,_,_,_,_,_,_,_,_,_,_,_,_,_,_,_,_,_,_,_,_,_,_,_,_,_,_,_,_,_,_,_,_,_,_,_,_,_,_,_,_,_,_,_,_,_,_,_,_,_,_,_,_,_,_,_,_,_,_,_,_,_,_,_,_,_,_,_,_,_,_,_]) rfl ?_
                      refine sw_det (met_none rfl) (fun h_ H_ => exd_load_per H_ tA3 rfl (v := .int .i64 ((nums (levs size start (wantOf ds) (listOf xs)) n).getD j 0)) ((((show Ints _ _ _ (nums (levs size start (wantOf ds) (listOf xs)) n) from D50).mono le54).mono le59).get (by omega))) (tm' := [_,_,_,_,_,_,_,_,_,_,_,_,_,_,_,_,_,_,_,_,_,_,_,_,_,_,_,_,_,_,_,_,_,_,_,_,_,_,_,_,_,_,_,_,_,_,_,_,_,_,_,_,_,_,_,_,_,_,_,_,_,_,_,_,_,_,_,_,_,_,_,_,_,_,_,_,_,_,_,_,_,_,_,_,_,_,_,_,_,_,_,_,_,_,_,_,_,_,_,_,_,_,_,_,_,_,_,_,_,_,_,_,_,_,_,_]) rfl ?_
                      refine sw_det (met_none rfl) (fun h_ H_ => exd_lss rfl rfl) (tm' := [_,_,_,_,_,_,_,_,_,_,_,_,_,_,_,_,_,_,_,_,_,_,_,_,_,_,_,_,_,_,_,_,_,_,_,_,_,_,_,_,_,_,_,_,_,_,_,_,_,_,_,_,_,_,_,_,_,_,_,_,_,_,_,_,_,_,_,_,_,_,_,_,_,_,_,_,_,_,_,_,_,_,_,_,_,_,_,_,_,_,_,_,_,_,_,_,_,_,_,_,_,_,_,_,_,_,_,_,_,_,_,_,_,_,_,_]) rfl ?_
                      refine sw_det (met_none rfl) (fun h_ H_ => exd_move (v := .bool (decide ((nums (levs size start (wantOf ds) (listOf ys)) n).getD j 0 < (nums (levs size start (wantOf ds) (listOf xs)) n).getD j 0))) rfl) (tm' := [_,_,_,_,_,_,_,_,_,_,_,_,_,_,_,_,_,_,_,_,_,_,_,_,_,_,_,_,_,_,_,_,_,_,_,_,_,_,_,_,_,_,_,_,_,_,_,_,_,_,_,_,_,_,_,_,_,_,_,_,_,_,_,_,_,_,_,_,_,_,_,_,_,_,_,_,_,_,_,_,_,_,_,_,_,_,_,_,_,_,_,_,_,_,_,_,_,_,_,_,_,_,_,_,_,_,_,_,_,_,_,_,_,_,_,_]) rfl ?_
                      refine sw_det (met_some rfl rfl (decide_eq_false c64)) (fun h_ H_ => exd_fieldAddr tF30_1 rfl (a' := ⟨b30, 1, none⟩) rfl) (tm' := [_,_,_,_,_,_,_,_,_,_,_,_,_,_,_,_,_,_,_,_,_,_,_,_,_,_,_,_,_,_,_,_,_,_,_,_,_,_,_,_,_,_,_,_,_,_,_,_,_,_,_,_,_,_,_,_,_,_,_,_,_,_,_,_,_,_,_,_,_,_,_,_,_,_,_,_,_,_,_,_,_,_,_,_,_,_,_,_,_,_,_,_,_,_,_,_,_,_,_,_,_,_,_,_,_,_,_,_,_,_,_,_,_,_,_,_]) rfl ?_
                      refine sw_det (met_some rfl rfl (decide_eq_false c64)) (fun h_ H_ => exd_load_own H_ tA25 rfl (i := 0) rfl (v := .slice a37 n cp38) rfl) (tm' := [_,_,_,_,_,_,_,_,_,_,_,_,_,_,_,_,_,_,_,_,_,_,_,_,_,_,_,_,_,_,_,_,_,_,_,_,_,_,_,_,_,_,_,_,_,_,_,_,_,_,_,_,_,_,_,_,_,_,_,_,_,_,_,_,_,_,_,_,_,_,_,_,_,_,_,_,_,_,_,_,_,_,_,_,_,_,_,_,_,_,_,_,_,_,_,_,_,_,_,_,_,_,_,_,_,_,_,_,_,_,_,_,_,_,_,_]) rfl ?_
                      refine sw_det (met_some rfl rfl (decide_eq_false c64)) (fun h_ H_ => exd_move (v := .int .i64 (((j : Nat) : Int))) rfl) (tm' := [_,_,_,_,_,_,_,_,_,_,_,_,_,_,_,_,_,_,_,_,_,_,_,_,_,_,_,_,_,_,_,_,_,_,_,_,_,_,_,_,_,_,_,_,_,_,_,_,_,_,_,_,_,_,_,_,_,_,_,_,_,_,_,_,_,_,_,_,_,_,_,_,_,_,_,_,_,_,_,_,_,_,_,_,_,_,_,_,_,_,_,_,_,_,_,_,_,_,_,_,_,_,_,_,_,_,_,_,_,_,_,_,_,_,_,_]) rfl ?_
                      refine sw_det (met_some rfl rfl (decide_eq_false c64)) (fun h_ H_ => exd_indexAddrN (i := j) Try.underlying25 tS3 (sl_ne a37 n cp38 ((((((show Ints _ _ _ (nums (lack size start (wantOf ds) (listOf ys)) n) from D40).mono le44).mono le49).mono le54).mono le59).ne (by omega))) rfl (by omega)) (tm' := [_,_,_,_,_,_,_,_,_,_,_,_,_,_,_,_,_,_,_,_,_,_,_,_,_,_,_,_,_,_,_,_,_,_,_,_,_,_,_,_,_,_,_,_,_,_,_,_,_,_,_,_,_,_,_,_,_,_,_,_,_,_,_,_,_,_,_,_,_,_,_,_,_,_,_,_,_,_,_,_,_,_,_,_,_,_,_,_,_,_,_,_,_,_,_,_,_,_,_,_,_,_,_,_,_,_,_,_,_,_,_,_,_,_,_,_]) rfl ?_
                      refine sw_det (met_some rfl rfl (decide_eq_false c64)) (fun h_ H_ => exd_load_per H_ tA3 rfl (v := .int .i64 ((nums (lack size start (wantOf ds) (listOf ys)) n).getD j 0)) ((((((show Ints _ _ _ (nums (lack size start (wantOf ds) (listOf ys)) n) from D40).mono le44).mono le49).mono le54).mono le59).get (by omega))) (tm' := [_,_,_,_,_,_,_,_,_,_,_,_,_,_,_,_,_,_,_,_,_,_,_,_,_,_,_,_,_,_,_,_,_,_,_,_,_,_,_,_,_,_,_,_,_,_,_,_,_,_,_,_,_,_,_,_,_,_,_,_,_,_,_,_,_,_,_,_,_,_,_,_,_,_,_,_,_,_,_,_,_,_,_,_,_,_,_,_,_,_,_,_,_,_,_,_,_,_,_,_,_,_,_,_,_,_,_,_,_,_,_,_,_,_,_,_]) rfl ?_
                      refine sw_det (met_some rfl rfl (decide_eq_false c64)) (fun h_ H_ => exd_fieldAddr tF30_1 rfl (a' := ⟨b20, 1, none⟩) rfl) (tm' := [_,_,_,_,_,_,_,_,_,_,_,_,_,_,_,_,_,_,_,_,_,_,_,_,_,_,_,_,_,_,_,_,_,_,_,_,_,_,_,_,_,_,_,_,_,_,_,_,_,_,_,_,_,_,_,_,_,_,_,_,_,_,_,_,_,_,_,_,_,_,_,_,_,_,_,_,_,_,_,_,_,_,_,_,_,_,_,_,_,_,_,_,_,_,_,_,_,_,_,_,_,_,_,_,_,_,_,_,_,_,_,_,_,_,_,_]) rfl ?_
                      refine sw_det (met_some rfl rfl (decide_eq_false c64)) (fun h_ H_ => exd_load_own H_ tA25 rfl (i := 1) rfl (v := .slice a52 n cp53) rfl) (tm' := [_,_,_,_,_,_,_,_,_,_,_,_,_,_,_,_,_,_,_,_,_,_,_,_,_,_,_,_,_,_,_,_,_,_,_,_,_,_,_,_,_,_,_,_,_,_,_,_,_,_,_,_,_,_,_,_,_,_,_,_,_,_,_,_,_,_,_,_,_,_,_,_,_,_,_,_,_,_,_,_,_,_,_,_,_,_,_,_,_,_,_,_,_,_,_,_,_,_,_,_,_,_,_,_,_,_,_,_,_,_,_,_,_,_,_,_]) rfl ?_
                      refine sw_det (met_some rfl rfl (decide_eq_false c64)) (fun h_ H_ => exd_move (v := .int .i64 (((j : Nat) : Int))) rfl) (tm' := [_,_,_,_,_,_,_,_,_,_,_,_,_,_,_,_,_,_,_,_,_,_,_,_,_,_,_,_,_,_,_,_,_,_,_,_,_,_,_,_,_,_,_,_,_,_,_,_,_,_,_,_,_,_,_,_,_,_,_,_,_,_,_,_,_,_,_,_,_,_,_,_,_,_,_,_,_,_,_,_,_,_,_,_,_,_,_,_,_,_,_,_,_,_,_,_,_,_,_,_,_,_,_,_,_,_,_,_,_,_,_,_,_,_,_,_]) rfl ?_
                      refine sw_det (met_some rfl rfl (decide_eq_false c64)) (fun h_ H_ => exd_indexAddrN (i := j) Try.underlying25 tS3 (sl_ne a52 n cp53 (((show Ints _ _ _ (nums (lack size start (wantOf ds) (listOf xs)) n) from D55).mono le59).ne (by omega))) rfl (by omega)) (tm' := [_,_,_,_,_,_,_,_,_,_,_,_,_,_,_,_,_,_,_,_,_,_,_,_,_,_,_,_,_,_,_,_,_,_,_,_,_,_,_,_,_,_,_,_,_,_,_,_,_,_,_,_,_,_,_,_,_,_,_,_,_,_,_,_,_,_,_,_,_,_,_,_,_,_,_,_,_,_,_,_,_,_,_,_,_,_,_,_,_,_,_,_,_,_,_,_,_,_,_,_,_,_,_,_,_,_,_,_,_,_,_,_,_,_,_,_]) rfl ?_
                      refine sw_det (met_some rfl rfl (decide_eq_false c64)) (fun h_ H_ => exd_load_per H_ tA3 rfl (v := .int .i64 ((nums (lack size start (wantOf ds) (listOf xs)) n).getD j 0)) (((show Ints _ _ _ (nums (lack size start (wantOf ds) (listOf xs)) n) from D55).mono le59).get (by omega))) (tm' := [_,_,_,_,_,_,_,_,_,_,_,_,_,_,_,_,_,_,_,_,_,_,_,_,_,_,_,_,_,_,_,_,_,_,_,_,_,_,_,_,_,_,_,_,_,_,_,_,_,_,_,_,_,_,_,_,_,_,_,_,_,_,_,_,_,_,_,_,_,_,_,_,_,_,_,_,_,_,_,_,_,_,_,_,_,_,_,_,_,_,_,_,_,_,_,_,_,_,_,_,_,_,_,_,_,_,_,_,_,_,_,_,_,_,_,_]) rfl ?_
                      refine sw_det (met_some rfl rfl (decide_eq_false c64)) (fun h_ H_ => exd_gtr rfl rfl) (tm' := [_,_,_,_,_,_,_,_,_,_,_,_,_,_,_,_,_,_,_,_,_,_,_,_,_,_,_,_,_,_,_,_,_,_,_,_,_,_,_,_,_,_,_,_,_,_,_,_,_,_,_,_,_,_,_,_,_,_,_,_,_,_,_,_,_,_,_,_,_,_,_,_,_,_,_,_,_,_,_,_,_,_,_,_,_,_,_,_,_,_,_,_,_,_,_,_,_,_,_,_,_,_,_,_,_,_,_,_,_,_,_,_,_,_,_,_]) rfl ?_
                      refine sw_det (met_none rfl) (fun h_ H_ => exd_pick_f rfl (decide_eq_false c64) (v := .bool (decide ((nums (lack size start (wantOf ds) (listOf xs)) n).getD j 0 < (nums (lack size start (wantOf ds) (listOf ys)) n).getD j 0))) rfl) (tm' := [_,_,_,_,_,_,_,_,_,_,_,_,_,_,_,_,_,_,_,_,_,_,_,_,_,_,_,_,_,_,_,_,_,_,_,_,_,_,_,_,_,_,_,_,_,_,_,_,_,_,_,_,_,_,_,_,_,_,_,_,_,_,_,_,_,_,_,_,_,_,_,_,_,_,_,_,_,_,_,_,_,_,_,_,_,_,_,_,_,_,_,_,_,_,_,_,_,_,_,_,_,_,_,_,_,_,_,_,_,_,_,_,_,_,_,_]) rfl ?_
                      refine sw_det (met_none rfl) (fun h_ H_ => exd_move (v := .bool (decide ((nums (lack size start (wantOf ds) (listOf xs)) n).getD j 0 < (nums (lack size start (wantOf ds) (listOf ys)) n).getD j 0))) rfl) (tm' := [_,_,_,_,_,_,_,_,_,_,_,_,_,_,_,_,_,_,_,_,_,_,_,_,_,_,_,_,_,_,_,_,_,_,_,_,_,_,_,_,_,_,_,_,_,_,_,_,_,_,_,_,_,_,_,_,_,_,_,_,_,_,_,_,_,_,_,_,_,_,_,_,_,_,_,_,_,_,_,_,_,_,_,_,_,_,_,_,_,_,_,_,_,_,_,_,_,_,_,_,_,_,_,_,_,_,_,_,_,_,_,_,_,_,_,_]) rfl ?_
                      refine sw_det (met_some rfl rfl (decide_eq_false c65)) (fun h_ H_ => exd_fieldAddr tF30_2 rfl (a' := ⟨b30, 2, none⟩) rfl) (tm' := [_,_,_,_,_,_,_,_,_,_,_,_,_,_,_,_,_,_,_,_,_,_,_,_,_,_,_,_,_,_,_,_,_,_,_,_,_,_,_,_,_,_,_,_,_,_,_,_,_,_,_,_,_,_,_,_,_,_,_,_,_,_,_,_,_,_,_,_,_,_,_,_,_,_,_,_,_,_,_,_,_,_,_,_,_,_,_,_,_,_,_,_,_,_,_,_,_,_,_,_,_,_,_,_,_,_,_,_,_,_,_,_,_,_,_,_]) rfl ?_
                      refine sw_det (met_some rfl rfl (decide_eq_false c65)) (fun h_ H_ => exd_load_own H_ tA25 rfl (i := 0) rfl (v := .slice a42 n cp43) rfl) (tm' := [_,_,_,_,_,_,_,_,_,_,_,_,_,_,_,_,_,_,_,_,_,_,_,_,_,_,_,_,_,_,_,_,_,_,_,_,_,_,_,_,_,_,_,_,_,_,_,_,_,_,_,_,_,_,_,_,_,_,_,_,_,_,_,_,_,_,_,_,_,_,_,_,_,_,_,_,_,_,_,_,_,_,_,_,_,_,_,_,_,_,_,_,_,_,_,_,_,_,_,_,_,_,_,_,_,_,_,_,_,_,_,_,_,_,_,_]) rfl ?_
                      refine sw_det (met_some rfl rfl (decide_eq_false c65)) (fun h_ H_ => exd_move (v := .int .i64 (((j : Nat) : Int))) rfl) (tm' := [_,_,_,_,_,_,_,_,_,_,_,_,_,_,_,_,_,_,_,_,_,_,_,_,_,_,_,_,_,_,_,_,_,_,_,_,_,_,_,_,_,_,_,_,_,_,_,_,_,_,_,_,_,_,_,_,_,_,_,_,_,_,_,_,_,_,_,_,_,_,_,_,_,_,_,_,_,_,_,_,_,_,_,_,_,_,_,_,_,_,_,_,_,_,_,_,_,_,_,_,_,_,_,_,_,_,_,_,_,_,_,_,_,_,_,_]) rfl ?_
                      refine sw_call (met_some rfl rfl (decide_eq_false c65)) (first := []) (cap := []) rfl rfl fC20 (fun h_ H_ => (c20 (.main true) _ _ (fun b_ o_ e_ => H_.per b_ o_ e_) _ _ _ _ ((((show Ints _ _ _ (nums (ovr size start (wantOf ds) (listOf ys)) n) from D45).mono le49).mono le54).mono le59) (by omega) ((j : Nat) : Int) (overs_ok hOk hY hl)).mono fun v_ h2_ ⟨e_, k_⟩ => ⟨e_, H_.call k_⟩) (tm' := [_,_,_,_,_,_,_,_,_,_,_,_,_,_,_,_,_,_,_,_,_,_,_,_,_,_,_,_,_,_,_,_,_,_,_,_,_,_,_,_,_,_,_,_,_,_,_,_,_,_,_,_,_,_,_,_,_,_,_,_,_,_,_,_,_,_,_,_,_,_,_,_,_,_,_,_,_,_,_,_,_,_,_,_,_,_,_,_,_,_,_,_,_,_,_,_,_,_,_,_,_,_,_,_,_,_,_,_,_,_,_,_,_,_,_,_]) rfl ?_
                      refine sw_det (met_some rfl rfl (decide_eq_false c65)) (fun h_ H_ => exd_fieldAddr tF30_2 rfl (a' := ⟨b20, 2, none⟩) rfl) (tm' := [_,_,_,_,_,_,_,_,_,_,_,_,_,_,_,_,_,_,_,_,_,_,_,_,_,_,_,_,_,_,_,_,_,_,_,_,_,_,_,_,_,_,_,_,_,_,_,_,_,_,_,_,_,_,_,_,_,_,_,_,_,_,_,_,_,_,_,_,_,_,_,_,_,_,_,_,_,_,_,_,_,_,_,_,_,_,_,_,_,_,_,_,_,_,_,_,_,_,_,_,_,_,_,_,_,_,_,_,_,_,_,_,_,_,_,_]) rfl ?_
                      refine sw_det (met_some rfl rfl (decide_eq_false c65)) (fun h_ H_ => exd_load_own H_ tA25 rfl (i := 1) rfl (v := .slice a57 n cp58) rfl) (tm' := [_,_,_,_,_,_,_,_,_,_,_,_,_,_,_,_,_,_,_,_,_,_,_,_,_,_,_,_,_,_,_,_,_,_,_,_,_,_,_,_,_,_,_,_,_,_,_,_,_,_,_,_,_,_,_,_,_,_,_,_,_,_,_,_,_,_,_,_,_,_,_,_,_,_,_,_,_,_,_,_,_,_,_,_,_,_,_,_,_,_,_,_,_,_,_,_,_,_,_,_,_,_,_,_,_,_,_,_,_,_,_,_,_,_,_,_]) rfl ?_
                      refine sw_det (met_some rfl rfl (decide_eq_false c65)) (fun h_ H_ => exd_move (v := .int .i64 (((j : Nat) : Int))) rfl) (tm' := [_,_,_,_,_,_,_,_,_,_,_,_,_,_,_,_,_,_,_,_,_,_,_,_,_,_,_,_,_,_,_,_,_,_,_,_,_,_,_,_,_,_,_,_,_,_,_,_,_,_,_,_,_,_,_,_,_,_,_,_,_,_,_,_,_,_,_,_,_,_,_,_,_,_,_,_,_,_,_,_,_,_,_,_,_,_,_,_,_,_,_,_,_,_,_,_,_,_,_,_,_,_,_,_,_,_,_,_,_,_,_,_,_,_,_,_]) rfl ?_
                      exact sw_nil rfl rfl
                    refine rl_calld (met_some rfl rfl (decide_eq_false c65)) (first := []) (cap := []) rfl rfl fC20 (fun h_ H_ => c20 (.main true) _ _ (fun b_ o_ e_ => H_.per b_ o_ e_) _ _ _ _ (show Ints _ _ _ (nums (ovr size start (wantOf ds) (listOf xs)) n) from D60) (by omega) ((j : Nat) : Int) (overs_ok hOk hX hl)) (tm' := [_,_,_,_,_,_,_,_,_,_,_,_,_,_,_,_,_,_,_,_,_,_,_,_,_,_,_,_,_,_,_,_,_,_,_,_,_,_,_,_,_,_,_,_,_,_,_,_,_,_,_,_,_,_,_,_,_,_,_,_,_,_,_,_,_,_,_,_,_,_,_,_,_,_,_,_,_,_,_,_,_,_,_,_,_,_,_,_,_,_,_,_,_,_,_,_,_,_,_,_,_,_,_,_,_,_,_,_,_,_,_,_,_,_,_,_]) rfl ?_
                    refine rl_det (met_some rfl rfl (decide_eq_false c65)) (fun h_ H_ => exd_lss rfl rfl) (tm' := [_,_,_,_,_,_,_,_,_,_,_,_,_,_,_,_,_,_,_,_,_,_,_,_,_,_,_,_,_,_,_,_,_,_,_,_,_,_,_,_,_,_,_,_,_,_,_,_,_,_,_,_,_,_,_,_,_,_,_,_,_,_,_,_,_,_,_,_,_,_,_,_,_,_,_,_,_,_,_,_,_,_,_,_,_,_,_,_,_,_,_,_,_,_,_,_,_,_,_,_,_,_,_,_,_,_,_,_,_,_,_,_,_,_,_,_]) rfl ?_
                    refine rl_det (met_none rfl) (fun h_ H_ => exd_pick_f rfl (decide_eq_false c65) (v := .bool (decide (sumTo (listOf (nums (ovr size start (wantOf ds) (listOf ys)) n)) (min n (((j : Nat) : Int) + 1).toNat) < sumTo (listOf (nums (ovr size start (wantOf ds) (listOf xs)) n)) (min n (((j : Nat) : Int) + 1).toNat)))) rfl) (tm' := [_,_,_,_,_,_,_,_,_,_,_,_,_,_,_,_,_,_,_,_,_,_,_,_,_,_,_,_,_,_,_,_,_,_,_,_,_,_,_,_,_,_,_,_,_,_,_,_,_,_,_,_,_,_,_,_,_,_,_,_,_,_,_,_,_,_,_,_,_,_,_,_,_,_,_,_,_,_,_,_,_,_,_,_,_,_,_,_,_,_,_,_,_,_,_,_,_,_,_,_,_,_,_,_,_,_,_,_,_,_,_,_,_,_,_,_]) rfl ?_
                    refine rl_end ?_
                    by_cases c66 : sumTo (listOf (nums (ovr size start (wantOf ds) (listOf ys)) n)) (min n (((j : Nat) : Int) + 1).toNat) < sumTo (listOf (nums (ovr size start (wantOf ds) (listOf xs)) n)) (min n (((j : Nat) : Int) + 1).toNat)
                    · omega
                    · refine fl_else rfl (decide_eq_false c66) ?_
                      refine fl_skip ?_
                      refine fl_inBlock ?_
                      refine rl_start ?_
                      refine rl_det (met_none rfl) (fun h_ H_ => exd_move (v := .int .i64 (((j : Nat) : Int))) rfl) (tm' := [_,_,_,_,_,_,_,_,_,_,_,_,_,_,_,_,_,_,_,_,_,_,_,_,_,_,_,_,_,_,_,_,_,_,_,_,_,_,_,_,_,_,_,_,_,_,_,_,_,_,_,_,_,_,_,_,_,_,_,_,_,_,_,_,_,_,_,_,_,_,_,_,_,_,_,_,_,_,_,_,_,_,_,_,_,_,_,_,_,_,_,_,_,_,_,_,_,_,_,_,_,_,_,_,_,_,_,_,_,_,_,_,_,_,_,_]) rfl ?_
                      refine rl_det (met_none rfl) (fun h_ H_ => exd_add rfl rfl (n := ((j + 1 : Nat) : Int)) (wr (by omega))) (tm' := [_,_,_,_,_,_,_,_,_,_,_,_,_,_,_,_,_,_,_,_,_,_,_,_,_,_,_,_,_,_,_,_,_,_,_,_,_,_,_,_,_,_,_,_,_,_,_,_,_,_,_,_,_,_,_,_,_,_,_,_,_,_,_,_,_,_,_,_,_,_,_,_,_,_,_,_,_,_,_,_,_,_,_,_,_,_,_,_,_,_,_,_,_,_,_,_,_,_,_,_,_,_,_,_,_,_,_,_,_,_,_,_,_,_,_,_]) rfl ?_
                      refine rl_det (met_none rfl) (fun h_ H_ => exd_assign (v := .int .i64 (((j + 1 : Nat) : Int))) rfl) (tm' := _::_::_::_::_::_::_::_::_::_::_::_::_::_) rfl ?_
                      refine rl_end ?_
                      exact fun h_ H_ => IH62 _ _ (by omega) h_ ⟨j + 1, (fun i_ => [(y61 0), .int .i64 (((j : Nat) : Int)), .pointer (some ⟨b1, 2, none⟩), .slice a n c, .int .i64 (((n : Nat) : Int)), .bool (decide (((j : Nat) : Int) < ((n : Nat) : Int))), .int .i64 (((j : Nat) : Int)), .int .i64 (((j + 1 : Nat) : Int)), .pointer (some ⟨b30, 0, none⟩), .slice a32 n cp33, .int .i64 (((j : Nat) : Int)), .pointer (some ((adr a32).add (j * 1))), .int .i64 ((nums (levs size start (wantOf ds) (listOf ys)) n).getD j 0), .pointer (some ⟨b20, 0, none⟩), .slice a47 n cp48, .int .i64 (((j : Nat) : Int)), .pointer (some ((adr a47).add (j * 1))), .int .i64 ((nums (levs size start (wantOf ds) (listOf xs)) n).getD j 0), .bool (decide ((nums (levs size start (wantOf ds) (listOf ys)) n).getD j 0 < (nums (levs size start (wantOf ds) (listOf xs)) n).getD j 0)), .bool (decide ((nums (levs size start (wantOf ds) (listOf ys)) n).getD j 0 < (nums (levs size start (wantOf ds) (listOf xs)) n).getD j 0)), .pointer (some ⟨b30, 1, none⟩), .slice a37 n cp38, .int .i64 (((j : Nat) : Int)), .pointer (some ((adr a37).add (j * 1))), .int .i64 ((nums (lack size start (wantOf ds) (listOf ys)) n).getD j 0), .pointer (some ⟨b20, 1, none⟩), .slice a52 n cp53, .int .i64 (((j : Nat) : Int)), .pointer (some ((adr a52).add (j * 1))), .int .i64 ((nums (lack size start (wantOf ds) (listOf xs)) n).getD j 0), .bool (decide ((nums (lack size start (wantOf ds) (listOf xs)) n).getD j 0 < (nums (lack size start (wantOf ds) (listOf ys)) n).getD j 0)), .bool (decide ((nums (lack size start (wantOf ds) (listOf xs)) n).getD j 0 < (nums (lack size start (wantOf ds) (listOf ys)) n).getD j 0)), .bool (decide ((nums (lack size start (wantOf ds) (listOf xs)) n).getD j 0 < (nums (lack size start (wantOf ds) (listOf ys)) n).getD j 0)), .pointer (some ⟨b30, 2, none⟩), .slice a42 n cp43, .int .i64 (((j : Nat) : Int)), .int .i64 (sumTo (listOf (nums (ovr size start (wantOf ds) (listOf ys)) n)) (min n (((j : Nat) : Int) + 1).toNat)), .pointer (some ⟨b20, 2, none⟩), .slice a57 n cp58, .int .i64 (((j : Nat) : Int)), .int .i64 (sumTo (listOf (nums (ovr size start (wantOf ds) (listOf xs)) n)) (min n (((j : Nat) : Int) + 1).toNat)), .bool (decide (sumTo (listOf (nums (ovr size start (wantOf ds) (listOf ys)) n)) (min n (((j : Nat) : Int) + 1).toNat) < sumTo (listOf (nums (ovr size start (wantOf ds) (listOf xs)) n)) (min n (((j : Nat) : Int) + 1).toNat))), .bool (decide (sumTo (listOf (nums (ovr size start (wantOf ds) (listOf ys)) n)) (min n (((j : Nat) : Int) + 1).toNat) < sumTo (listOf (nums (ovr size start (wantOf ds) (listOf xs)) n)) (min n (((j : Nat) : Int) + 1).toNat)))].getD i_ undef), rfl, rfl, (by omega), H_⟩
              · refine fl_else rfl (decide_eq_false c63) ?_
                refine fl_exit rfl ?_
                refine fl_seq ?_
                refine rl_start ?_
                refine rl_calld (met_none rfl) (first := []) (cap := []) rfl rfl fC18 (fun h_ H_ => c18 _) (tm' := [_,_,_,_,_,_,_,_,_,_,_,_,_,_,_,_,_,_,_,_,_,_,_,_,_,_,_,_,_,_,_,_,_,_,_,_,_,_,_,_,_,_,_,_,_,_,_,_,_,_,_,_,_,_,_,_,_,_,_,_,_,_,_,_,_,_,_,_,_,_,_,_,_,_,_,_,_,_,_,_,_,_,_,_,_,_,_,_,_,_,_,_,_,_,_,_,_,_,_,_,_,_,_,_,_,_,_,_,_,_,_,_,_,_,_,_]) rfl ?_
                refine rl_det (met_none rfl) (fun h_ H_ => exd_assign (v := .bool (true)) rfl) (tm' := _::_::_::_::_::_::_::_) rfl ?_
                refine rl_end ?_
                refine fl_retE (by kernel_rfl) Try.func3 rfl (vs := [.bool (true)]) (fun h_ H_ => ⟨.bool (true), _, rfl, rfl, rfl⟩) (v := .bool (true)) rfl ?_
                exact fun h_ H_ => K _ _ ⟨rfl, H_.kept⟩
          · refine fl_then rfl (not_t (decide_eq_false c6)) ?_
            refine fl_seq ?_
            refine rl_start ?_
            refine rl_calld (met_none rfl) (first := []) (cap := []) rfl rfl fC18 (fun h_ H_ => c18 _) (tm' := _::_::_::_::_::_::_::_::_::_::_::_::_::_::_::_::_::_::_::_::_::_::_::_::_::_::_::_::_::_::_::_::_::_::_::_::_::_::_::_) rfl ?_
            refine rl_det (met_none rfl) (fun h_ H_ => exd_assign (v := .bool (true)) rfl) (tm' := _::_::_::_::_::_::_::_) rfl ?_
            refine rl_end ?_
            refine fl_retE (by kernel_rfl) Try.func3 rfl (vs := [.bool (true)]) (fun h_ H_ => ⟨.bool (true), _, rfl, rfl, rfl⟩) (v := .bool (true)) rfl ?_
            exact fun h_ H_ => K _ _ ⟨rfl, H_.kept⟩
        · refine rl_pass (met_not rfl rfl (not_t (decide_eq_false c5))) (tm' := _::_::_::_::_::_::_::_::_::_::_::_::_::_::_::_::_::_::_::_::_::_::_::_::_::_::_::_::_::_::_::_::_::_::_) rfl ?_
          refine rl_pass (met_not rfl rfl (not_t (decide_eq_false c5))) (tm' := _::_::_::_::_::_::_::_::_::_::_::_::_::_::_::_::_::_::_::_::_::_::_::_::_::_::_::_::_::_::_::_::_::_::_::_) rfl ?_
          refine rl_pass (met_not rfl rfl (not_t (decide_eq_false c5))) (tm' := _::_::_::_::_::_::_::_::_::_::_::_::_::_::_::_::_::_::_::_::_::_::_::_::_::_::_::_::_::_::_::_::_::_::_::_::_) rfl ?_
          refine rl_pass (met_not rfl rfl (not_t (decide_eq_false c5))) (tm' := _::_::_::_::_::_::_::_::_::_::_::_::_::_::_::_::_::_::_::_::_::_::_::_::_::_::_::_::_::_::_::_::_::_::_::_::_::_) rfl ?_
          refine rl_det (met_none rfl) (fun h_ H_ => exd_pick_t rfl (not_t (decide_eq_false c5)) (v := .bool (true)) rfl) (tm' := _::_::_::_::_::_::_::_::_::_::_::_::_::_::_::_::_::_::_::_::_::_::_::_::_::_::_::_::_::_::_::_::_::_::_::_::_::_::_) rfl ?_
          refine rl_end ?_
          refine fl_then rfl rfl ?_
          refine fl_seq ?_
          refine rl_start ?_
          refine rl_calld (met_none rfl) (first := []) (cap := []) rfl rfl fC18 (fun h_ H_ => c18 _) (tm' := _::_::_::_::_::_::_::_::_::_::_::_::_::_::_::_::_::_::_::_::_::_::_::_::_::_::_::_::_::_::_::_::_::_::_::_::_::_::_::_) rfl ?_
          refine rl_det (met_none rfl) (fun h_ H_ => exd_assign (v := .bool (true)) rfl) (tm' := _::_::_::_::_::_::_::_) rfl ?_
          refine rl_end ?_
          refine fl_retE (by kernel_rfl) Try.func3 rfl (vs := [.bool (true)]) (fun h_ H_ => ⟨.bool (true), _, rfl, rfl, rfl⟩) (v := .bool (true)) rfl ?_
          exact fun h_ H_ => K _ _ ⟨rfl, H_.kept⟩
  · refine rl_pass (met_not rfl rfl (not_t (decide_eq_false c2))) (tm' := _::_::_::_::_::_::_::_::_::_::_::_::_::_::_::_::_::_::_) rfl ?_
    refine rl_pass (met_not rfl rfl (not_t (decide_eq_false c2))) (tm' := _::_::_::_::_::_::_::_::_::_::_::_::_::_::_::_::_::_::_::_) rfl ?_
    refine rl_pass (met_not rfl rfl (not_t (decide_eq_false c2))) (tm' := _::_::_::_::_::_::_::_::_::_::_::_::_::_::_::_::_::_::_::_::_) rfl ?_
    refine rl_det (met_none rfl) (fun h_ H_ => exd_pick_t rfl (not_t (decide_eq_false c2)) (v := .bool (true)) rfl) (tm' := _::_::_::_::_::_::_::_::_::_::_::_::_::_::_::_::_::_::_::_::_::_) rfl ?_
    refine rl_det (met_none rfl) (fun h_ H_ => exd_move (v := .bool (true)) rfl) (tm' := _::_::_::_::_::_::_::_::_::_::_::_::_::_::_::_::_::_::_::_::_::_::_) rfl ?_
    refine rl_pass (met_not rfl rfl rfl) (tm' := _::_::_::_::_::_::_::_::_::_::_::_::_::_::_::_::_::_::_::_::_::_::_::_) rfl ?_
    refine rl_pass (met_not rfl rfl rfl) (tm' := _::_::_::_::_::_::_::_::_::_::_::_::_::_::_::_::_::_::_::_::_::_::_::_::_) rfl ?_
    refine rl_pass (met_not rfl rfl rfl) (tm' := _::_::_::_::_::_::_::_::_::_::_::_::_::_::_::_::_::_::_::_::_::_::_::_::_::_) rfl ?_
    refine rl_det (met_none rfl) (fun h_ H_ => exd_pick_t rfl rfl (v := .bool (true)) rfl) (tm' := _::_::_::_::_::_::_::_::_::_::_::_::_::_::_::_::_::_::_::_::_::_::_::_::_::_::_) rfl ?_
    refine rl_det (met_none rfl) (fun h_ H_ => exd_move (v := .bool (true)) rfl) (tm' := _::_::_::_::_::_::_::_::_::_::_::_::_::_::_::_::_::_::_::_::_::_::_::_::_::_::_::_) rfl ?_
    refine rl_pass (met_not rfl rfl rfl) (tm' := _::_::_::_::_::_::_::_::_::_::_::_::_::_::_::_::_::_::_::_::_::_::_::_::_::_::_::_::_) rfl ?_
    refine rl_pass (met_not rfl rfl rfl) (tm' := _::_::_::_::_::_::_::_::_::_::_::_::_::_::_::_::_::_::_::_::_::_::_::_::_::_::_::_::_::_) rfl ?_
    refine rl_pass (met_not rfl rfl rfl) (tm' := _::_::_::_::_::_::_::_::_::_::_::_::_::_::_::_::_::_::_::_::_::_::_::_::_::_::_::_::_::_::_) rfl ?_
    refine rl_pass (met_not rfl rfl rfl) (tm' := _::_::_::_::_::_::_::_::_::_::_::_::_::_::_::_::_::_::_::_::_::_::_::_::_::_::_::_::_::_::_::_) rfl ?_
    refine rl_det (met_none rfl) (fun h_ H_ => exd_pick_t rfl rfl (v := .bool (true)) rfl) (tm' := _::_::_::_::_::_::_::_::_::_::_::_::_::_::_::_::_::_::_::_::_::_::_::_::_::_::_::_::_::_::_::_::_) rfl ?_
    refine rl_det (met_none rfl) (fun h_ H_ => exd_move (v := .bool (true)) rfl) (tm' := _::_::_::_::_::_::_::_::_::_::_::_::_::_::_::_::_::_::_::_::_::_::_::_::_::_::_::_::_::_::_::_::_::_) rfl ?_
    refine rl_pass (met_not rfl rfl rfl) (tm' := _::_::_::_::_::_::_::_::_::_::_::_::_::_::_::_::_::_::_::_::_::_::_::_::_::_::_::_::_::_::_::_::_::_::_) rfl ?_
    refine rl_pass (met_not rfl rfl rfl) (tm' := _::_::_::_::_::_::_::_::_::_::_::_::_::_::_::_::_::_::_::_::_::_::_::_::_::_::_::_::_::_::_::_::_::_::_::_) rfl ?_
    refine rl_pass (met_not rfl rfl rfl) (tm' := _::_::_::_::_::_::_::_::_::_::_::_::_::_::_::_::_::_::_::_::_::_::_::_::_::_::_::_::_::_::_::_::_::_::_::_::_) rfl ?_
    refine rl_pass (met_not rfl rfl rfl) (tm' := _::_::_::_::_::_::_::_::_::_::_::_::_::_::_::_::_::_::_::_::_::_::_::_::_::_::_::_::_::_::_::_::_::_::_::_::_::_) rfl ?_
    refine rl_det (met_none rfl) (fun h_ H_ => exd_pick_t rfl rfl (v := .bool (true)) rfl) (tm' := _::_::_::_::_::_::_::_::_::_::_::_::_::_::_::_::_::_::_::_::_::_::_::_::_::_::_::_::_::_::_::_::_::_::_::_::_::_::_) rfl ?_
    refine rl_end ?_
    refine fl_then rfl rfl ?_
    refine fl_seq ?_
    refine rl_start ?_
    refine rl_calld (met_none rfl) (first := []) (cap := []) rfl rfl fC18 (fun h_ H_ => c18 _) (tm' := _::_::_::_::_::_::_::_::_::_::_::_::_::_::_::_::_::_::_::_::_::_::_::_::_::_::_::_::_::_::_::_::_::_::_::_::_::_::_::_) rfl ?_
    refine rl_det (met_none rfl) (fun h_ H_ => exd_assign (v := .bool (true)) rfl) (tm' := _::_::_::_::_::_::_::_) rfl ?_
    refine rl_end ?_
    refine fl_retE (by kernel_rfl) Try.func3 rfl (vs := [.bool (true)]) (fun h_ H_ => ⟨.bool (true), _, rfl, rfl, rfl⟩) (v := .bool (true)) rfl ?_
    exact fun h_ H_ => K _ _ ⟨rfl, H_.kept⟩
end Go.Proofs.Ytbmkacnlhlbnjaa
namespace Go.Proofs.Ytbmkacnlhlbnjaa
open Go.X Go.X.Cist Go.Conc Go.RowKit Go.ChangeShapes Go.WideShapes Go.ChangeAt Go.Joins
set_option maxRecDepth 100000

theorem lifted3 (os : Os) (started : os.Started) (H : Type) (enc : TypeId × Value → H) :
    ReturnsInLeavingWide {} Try.checked os 3 .any (Rows.cisternsMoreSpec.pre6 enc Try.prog Try.f3 Rows.cisternsMoreRow.domain false) (Rows.cisternsMoreSpec.post enc Try.prog Try.f3 false true false false) := by
  refine returnsInLeavingWide_of_change_sized (C := Try.checked) pOwn started Try.func3
    (ChangeSpec.witness6 (enc := enc) (C := Try.checked) false ⟨#[], #[.agg #[.int .i64 0, .int .i64 0, .slice none 0 0], .slice none 0 0, .slice none 0 0], []⟩ 8 (by kernel_rfl) (by kernel_rfl) (by kernel_rfl) (by kernel_rfl)) ?_
  intro W base args ds gs before hval0 hW _ _ _
  have hval : ∀ (j : Nat) t v, Try.f3.params[j]? = some t → args[j]? = some v → Value.okWide Try.prog W .any base t v := hval0
  have hW2 := hW
  obtain ⟨p, q, hA0, hV, rfl, _, _⟩ := hW2
  have hA : DataW.TrodAll enc Try.prog W 0 (fun _ => true) true Try.f3.params.toList args.toList ds p := hA0
  rw [Try.params3] at hA hval
  obtain ⟨v0, v1, v2, d0, d1, d2, p0, p1, p2, rfl, rfl, _, h0, h1, h2⟩ := trodAll_three hA
  obtain ⟨rfl, rfl⟩ := trodVars_none hV
  obtain ⟨size, start, a, n, c, ds, rfl, D⟩ := open_year (hval 0 24 v0 rfl rfl) h0
  obtain ⟨ab, mb, cb, xsb, rfl, Db⟩ := open_list (hval 1 25 v1 rfl rfl) h1
  obtain ⟨ac, mc, cc, xsc, rfl, Dc⟩ := open_list (hval 2 25 v2 rfl rfl) h2
  obtain ⟨N, last, o, w2, t2, r1, r2, r3, r4⟩ := good_of_enters (w := W) (e3 (nilV W.heap) (vwP W) (vwP_per W) size start a n c ds D ab mb cb xsb Db ac mc cc xsc Dc) fun v h2 r => r.2
  refine ⟨N, last, o, w2, t2, r1, r2, r3, r4.mono fun v ⟨hB, h2, e, _⟩ => ?_⟩
  subst e
  exact law_post pLaid rfl (fun t ht => by rw [Try.params3] at ht; revert t; decide +kernel) rfl Try.underlying4 hW rfl hB

theorem cisternsMoreHolds : Rows.CisternsMoreSaid :=
  OpenClaim.holds_of_wide_leaving 3 Try.f3 rfl rfl rfl rfl rfl rfl rfl ⟨rfl, rfl, rfl, rfl, rfl⟩ rfl rfl rfl rfl rfl (by kernel_rfl) Try.func3 (by kernel_rfl)
    (of_decide_eq_true (by kernel_rfl)) (by unfold Func.isWrapper; rw [if_neg (of_decide_eq_false (by kernel_rfl))]; exact ⟨rfl, rfl⟩)
    (fun os started H enc _ => lifted3 os started H enc)

#print axioms cisternsMoreHolds
end Go.Proofs.Ytbmkacnlhlbnjaa
