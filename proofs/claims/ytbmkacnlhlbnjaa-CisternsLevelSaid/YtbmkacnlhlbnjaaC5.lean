/-
  Part of proofs about cisterns, beside goroutines that are only leaving. No condition.
-/
import Derived.Test.YtbmkacnlhlbnjaaC4
import Derived.Test.YtbmkacnlhlbnjaaC2
namespace Go.Proofs.Ytbmkacnlhlbnjaa
open Go.X Go.X.Cist Go.Conc
set_option maxRecDepth 10000

theorem c30 (md : Md) (h : Heap) (p : PHeap) (hp : Per p h) (size start : Int) (a : Option Addr) (n c : Nat) (ds : List Day) (D : Days p a n ds) (hn : n ≤ 40) : CallsX Try.prog md 30 #[.agg #[.int .i64 (size), .int .i64 (start), .slice a n c]] h fun v h' => ∃ w X, v = .agg #[.int .i64 size, .int .i64 start, w] ∧ OwnS 38 3 w (dcs ds) X ∧ New h h' X := by
  refine calls_intro (Φ := fun h_ => St h [] p h_ []) Try.func30 rfl (tm := [_, _, _, _, _, _, _, _, _, _, _]) rfl ?_ (St.start h _ hp)
  intro c₀ cs Stop K
  refine fl_seq ?_
  refine rl_start ?_
  refine rl_box (met_none rfl) (v := .agg #[.int .i64 (size), .int .i64 (start), .slice a n c]) rfl fun b1 => rl_own (L' := [(b1, .cells #[.int .i64 (size), .int .i64 (start), .slice a n c] 24 (0, 0))]) rfl ?_
  refine rl_alloc (met_none rfl) tZ24 rfl fun b2 => rl_own (L' := [(b2, .cells #[.int .i64 0, .int .i64 0, .slice none 0 0] 24 (0, 0)), (b1, .cells #[.int .i64 (size), .int .i64 (start), .slice a n c] 24 (0, 0))]) rfl ?_
  refine rl_end ?_
  refine fl_seq ?_
  refine rl_start ?_
  refine rl_det (met_none rfl) (fun h_ H_ => exd_loadN_own H_ tA24 tS24 rfl (i := 1) rfl (vs := [.int .i64 (size), .int .i64 (start), .slice a n c]) rfl rfl) (tm' := _::_::_::_::_::_) rfl ?_
  refine rl_alloc (met_none rfl) tZ24 rfl fun b3 => rl_own (L' := [(b3, .cells #[.int .i64 0, .int .i64 0, .slice none 0 0] 24 (0, 0)), (b2, .cells #[.int .i64 0, .int .i64 0, .slice none 0 0] 24 (0, 0)), (b1, .cells #[.int .i64 (size), .int .i64 (start), .slice a n c] 24 (0, 0))]) rfl ?_
  refine rl_store (met_none rfl) tS24 rfl (v := .agg #[.int .i64 (size), .int .i64 (start), .slice a n c]) rfl (i := 0) rfl rfl rfl (Nat.le_of_ble_eq_true rfl) (cs2 := [.int .i64 (size), .int .i64 (start), .slice a n c]) rfl (rl_own (L' := [(b3, .cells #[.int .i64 (size), .int .i64 (start), .slice a n c] 24 (0, 0)), (b2, .cells #[.int .i64 0, .int .i64 0, .slice none 0 0] 24 (0, 0)), (b1, .cells #[.int .i64 (size), .int .i64 (start), .slice a n c] 24 (0, 0))]) rfl ?_)
  refine rl_end ?_
  refine fl_seq ?_
  refine rl_start ?_
  refine rl_own (L' := ([(b3, .cells #[.int .i64 (size), .int .i64 (start), .slice a n c] 24 (0, 0)), (b2, .cells #[.int .i64 0, .int .i64 0, .slice none 0 0] 24 (0, 0)), (b1, .cells #[.int .i64 (size), .int .i64 (start), .slice a n c] 24 (0, 0))] : Pcs) ++ []) rfl ?_
  refine rl_buildO ([(b3, .cells #[.int .i64 (size), .int .i64 (start), .slice a n c] 24 (0, 0)), (b2, .cells #[.int .i64 0, .int .i64 0, .slice none 0 0] 24 (0, 0)), (b1, .cells #[.int .i64 (size), .int .i64 (start), .slice a n c] 24 (0, 0))] : Pcs) (met_none rfl) Try.underlying22 tS38 tZ38 (Nat.le_of_ble_eq_true rfl) (vs := []) rfl rfl (es := []) rfl rfl rfl fun v4 X5 o6 => ?_
  refine rl_det (met_none rfl) (fun h_ H_ => exd_fieldAddr tF24_2 rfl (a' := ⟨b1, 2, none⟩) rfl) (tm' := _::_::_::_::_::_::_::_) rfl ?_
  refine rl_det (met_none rfl) (fun h_ H_ => exd_load_own H_ tA22 rfl (i := 2) rfl (v := .slice a n c) rfl) rfl ?_
  refine rl_appendP ([(b3, .cells #[.int .i64 (size), .int .i64 (start), .slice a n c] 24 (0, 0)), (b2, .cells #[.int .i64 0, .int .i64 0, .slice none 0 0] 24 (0, 0)), (b1, .cells #[.int .i64 (size), .int .i64 (start), .slice a n c] 24 (0, 0))] : Pcs) X5 (met_none rfl) Try.underlying22 tS38 tZ38 rfl tB38 Try.underlying22 rfl rfl o6 D (dcs_ones _) (by simp only [List.length_nil]; omega) (by decide) (by decide) fun v7 X8 o9 => ?_
  refine rl_det (met_none rfl) (fun h_ H_ => exd_fieldAddr tF24_2 rfl (a' := ⟨b3, 2, none⟩) rfl) (tm' := [_,_,_,_,_,_,_,_,_,_,_]) rfl ?_
  refine rl_store1 (met_none rfl) tS22 rfl (v := v7) rfl o9.one (i := 0) rfl (Nat.succ_le_iff.1 (Nat.le_of_ble_eq_true rfl)) (cs2 := [.int .i64 (size), .int .i64 (start), v7]) rfl (rl_own (L' := ([(b3, .cells #[.int .i64 (size), .int .i64 (start), v7] 24 (0, 0)), (b2, .cells #[.int .i64 0, .int .i64 0, .slice none 0 0] 24 (0, 0)), (b1, .cells #[.int .i64 (size), .int .i64 (start), .slice a n c] 24 (0, 0))] : Pcs) ++ (X8 ++ [])) rfl ?_)
  refine rl_end ?_
  refine fl_seq ?_
  refine rl_start ?_
  refine rl_det (met_none rfl) (fun h_ H_ => exd_loadN_own H_ tA24 tS24 rfl (i := 0) rfl (vs := [.int .i64 (size), .int .i64 (start), v7]) rfl rfl) rfl ?_
  refine rl_store (met_none rfl) tS24 rfl (v := .agg #[.int .i64 (size), .int .i64 (start), v7]) rfl (i := 1) rfl rfl (ones_cons rfl (ones_cons rfl (ones_cons o9.one.2 rfl))) (Nat.le_of_ble_eq_true rfl) (cs2 := [.int .i64 (size), .int .i64 (start), v7]) rfl (rl_own (L' := ([(b3, .cells #[.int .i64 (size), .int .i64 (start), v7] 24 (0, 0)), (b2, .cells #[.int .i64 (size), .int .i64 (start), v7] 24 (0, 0)), (b1, .cells #[.int .i64 (size), .int .i64 (start), .slice a n c] 24 (0, 0))] : Pcs) ++ (X8 ++ [])) rfl ?_)
  refine rl_end ?_
  refine fl_ret Try.func30 rfl (vs := [.agg #[.int .i64 (size), .int .i64 (start), v7]]) (fun h_ H_ => ⟨.agg #[.int .i64 (size), .int .i64 (start), v7], _, rfl, (wpS_bind (wpS_pure (wpS_loadVarN tA24 tS24 (vs := [.int .i64 (size), .int .i64 (start), v7]) rfl (fun j_ v_ e_ => by rw [add_mk]; exact H_.ocell (i := 1) rfl (by simpa using e_)) ⟨rfl, rfl⟩))), rfl⟩) (v := .agg #[.int .i64 (size), .int .i64 (start), v7]) rfl ?_
  exact fun h_ H_ => K _ _ ⟨_, _, rfl, o9, by simpa using H_.dropA.new⟩
end Go.Proofs.Ytbmkacnlhlbnjaa
namespace Go.Proofs.Ytbmkacnlhlbnjaa
open Go.X Go.X.Cist Go.Conc
set_option maxRecDepth 10000

theorem c96 (md : Md) (h : Heap) (b : Nat) (z l n : Int) (hz : 0 ≤ z ∧ z ≤ 1000 ∧ 0 ≤ l ∧ l ≤ 1000 ∧ 0 ≤ n ∧ n ≤ 1000) (hb_ : h[b]? = some (.cells #[.int .i64 (z), .int .i64 (l)] 107 (0, 0))) : CallsX Try.prog md 96 #[.pointer (some ⟨b, 0, none⟩), .int .i64 (n)] h fun v h' => v = .int .i64 (max 0 (l + n - z)) ∧ Turned h h' b (.cells #[.int .i64 z, .int .i64 (l + n - max 0 (l + n - z))] 107 (0, 0)) := by
  refine calls_intro (Φ := fun h_ => St h [b] (fun _ => none) h_ ([(b, .cells #[.int .i64 (z), .int .i64 (l)] 107 (0, 0))])) Try.func96 rfl (tm := [_, _, _, _, _, _, _, _, _, _, _, _, _, _, _, _, _, _, _, _, _, _, _, _, _, _, _, _, _, _, _, _, _]) rfl ?_ (St.startB hb_)
  intro c₀ cs Stop K
  refine fl_seq ?_
  refine rl_start ?_
  refine rl_det (met_none rfl) (fun h_ H_ => exd_assign (v := .int .i64 0) rfl) rfl ?_
  refine rl_end ?_
  refine fl_seq ?_
  refine rl_start ?_
  refine rl_det (met_none rfl) (fun h_ H_ => exd_move (v := .pointer (some ⟨b, 0, none⟩)) rfl) rfl ?_
  refine rl_det (met_none rfl) (fun h_ H_ => exd_nilCheck rfl) (tm' := _::_::_::_::_::_::_::_::_) rfl ?_
  refine rl_det (met_none rfl) (fun h_ H_ => exd_fieldAddr tF107_1 rfl (a' := ⟨b, 1, none⟩) rfl) rfl ?_
  refine rl_det (met_none rfl) (fun h_ H_ => exd_load_own H_ tA3 rfl (i := 0) rfl (v := .int .i64 (l)) rfl) rfl ?_
  refine rl_det (met_none rfl) (fun h_ H_ => exd_move (v := .int .i64 (n)) rfl) (tm' := _::_::_::_::_::_::_::_::_::_::_::_) rfl ?_
  refine rl_det (met_none rfl) (fun h_ H_ => exd_add rfl rfl (wr (by omega))) rfl ?_
  refine rl_det (met_none rfl) (fun h_ H_ => exd_nilCheck rfl) rfl ?_
  refine rl_det (met_none rfl) (fun h_ H_ => exd_fieldAddr tF107_1 rfl (a' := ⟨b, 1, none⟩) rfl) (tm' := _::_::_::_::_::_::_::_::_::_::_::_::_::_::_) rfl ?_
  refine rl_store (met_none rfl) tS3 rfl (v := .int .i64 (l + n)) rfl (i := 0) rfl rfl rfl (Nat.le_of_ble_eq_true rfl) (cs2 := [.int .i64 (z), .int .i64 (l + n)]) rfl (rl_own (L' := [(b, .cells #[.int .i64 (z), .int .i64 (l + n)] 107 (0, 0))]) rfl ?_)
  refine rl_end ?_
  refine fl_seq ?_
  refine fl_drawn2 8 [[], [0], [0, 1], [0, 1, 2], [], [4], [4, 5], [4, 5, 6], [0, 1, 2, 3, 4, 5, 6, 7], [], []] mixed (by kernel_rfl) (Nat.le_of_ble_eq_true rfl) ?_
  refine swr_det (met_none rfl) (fun h_ H_ => exd_move (v := .pointer (some ⟨b, 0, none⟩)) rfl) (tm' := _::_::_::_::_::_::_::_::_::_::_::_::_::_::_::_) rfl ?_
  refine swr_det (met_none rfl) (fun h_ H_ => exd_nilCheck rfl) rfl ?_
  refine swr_det (met_none rfl) (fun h_ H_ => exd_fieldAddr tF107_1 rfl (a' := ⟨b, 1, none⟩) rfl) (tm' := _::_::_::_::_::_::_::_::_::_::_::_::_::_::_::_::_::_) rfl ?_
  refine swr_det (met_none rfl) (fun h_ H_ => exd_load_own H_ tA3 rfl (i := 0) rfl (v := .int .i64 (l + n)) rfl) rfl ?_
  refine swr_det (met_none rfl) (fun h_ H_ => exd_move (v := .pointer (some ⟨b, 0, none⟩)) rfl) (tm' := _::_::_::_::_::_::_::_::_::_::_::_::_::_::_::_::_::_::_::_) rfl ?_
  refine swr_det (met_none rfl) (fun h_ H_ => exd_nilCheck rfl) rfl ?_
  refine swr_det (met_none rfl) (fun h_ H_ => exd_fieldAddr tF107_0 rfl (a' := ⟨b, 0, none⟩) rfl) (tm' := _::_::_::_::_::_::_::_::_::_::_::_::_::_::_::_::_::_::_::_::_::_) rfl ?_
  refine swr_det (met_none rfl) (fun h_ H_ => exd_load_own H_ tA3 rfl (i := 0) rfl (v := .int .i64 (z)) rfl) rfl ?_
  refine swr_nil rfl ?_
  refine rl_det (met_none rfl) (fun h_ H_ => exd_sub rfl rfl (wr (by omega))) (tm' := [_,_,_,_,_,_,_,_,_,_,_,_,_,_,_,_,_,_,_,_,_,_,_,_,_,_,_,_,_,_,_,_,_]) rfl ?_
  refine rl_det (met_none rfl) (fun h_ H_ => exd_max rfl rfl) rfl ?_
  refine rl_det (met_none rfl) (fun h_ H_ => exd_assign (v := .int .i64 (max 0 ((l + n) - z))) rfl) rfl ?_
  refine rl_end ?_
  refine fl_seq ?_
  refine rl_start ?_
  refine rl_det (met_none rfl) (fun h_ H_ => exd_move (v := .pointer (some ⟨b, 0, none⟩)) rfl) (tm' := [_,_,_,_,_,_,_,_,_,_,_,_,_,_,_,_,_,_,_,_,_,_,_,_,_,_,_,_,_,_,_,_,_]) rfl ?_
  refine rl_det (met_none rfl) (fun h_ H_ => exd_nilCheck rfl) rfl ?_
  refine rl_det (met_none rfl) (fun h_ H_ => exd_fieldAddr tF107_1 rfl (a' := ⟨b, 1, none⟩) rfl) rfl ?_
  refine rl_det (met_none rfl) (fun h_ H_ => exd_load_own H_ tA3 rfl (i := 0) rfl (v := .int .i64 (l + n)) rfl) (tm' := [_,_,_,_,_,_,_,_,_,_,_,_,_,_,_,_,_,_,_,_,_,_,_,_,_,_,_,_,_,_,_,_,_]) rfl ?_
  refine rl_det (met_none rfl) (fun h_ H_ => exd_move (v := .int .i64 (max 0 ((l + n) - z))) rfl) rfl ?_
  refine rl_det (met_none rfl) (fun h_ H_ => exd_sub rfl rfl (wr (by omega))) rfl ?_
  refine rl_det (met_none rfl) (fun h_ H_ => exd_nilCheck rfl) (tm' := [_,_,_,_,_,_,_,_,_,_,_,_,_,_,_,_,_,_,_,_,_,_,_,_,_,_,_,_,_,_,_,_,_]) rfl ?_
  refine rl_det (met_none rfl) (fun h_ H_ => exd_fieldAddr tF107_1 rfl (a' := ⟨b, 1, none⟩) rfl) rfl ?_
  refine rl_store (met_none rfl) tS3 rfl (v := .int .i64 ((l + n) - (max 0 ((l + n) - z)))) rfl (i := 0) rfl rfl rfl (Nat.le_of_ble_eq_true rfl) (cs2 := [.int .i64 (z), .int .i64 ((l + n) - (max 0 ((l + n) - z)))]) rfl (rl_own (L' := [(b, .cells #[.int .i64 (z), .int .i64 ((l + n) - (max 0 ((l + n) - z)))] 107 (0, 0))]) rfl ?_)
  refine rl_end ?_
  refine fl_seq ?_
  refine rl_start ?_
  refine rl_det (met_none rfl) (fun h_ H_ => exd_move (v := .int .i64 (max 0 ((l + n) - z))) rfl) rfl ?_
  refine rl_det (met_none rfl) (fun h_ H_ => exd_assign (v := .int .i64 (max 0 ((l + n) - z))) rfl) (tm' := _::_::_::_::_::_) rfl ?_
  refine rl_end ?_
  refine fl_ret Try.func96 rfl (vs := [.int .i64 (max 0 ((l + n) - z))]) (fun h_ H_ => ⟨.int .i64 (max 0 ((l + n) - z)), _, rfl, rfl, rfl⟩) (v := .int .i64 (max 0 ((l + n) - z))) rfl ?_
  exact fun h_ H_ => K _ _ ⟨rfl, H_.turned 0 rfl⟩
theorem c97 (md : Md) (h : Heap) (b : Nat) (z l n : Int) (hz : 0 ≤ z ∧ z ≤ 1000 ∧ 0 ≤ l ∧ l ≤ 1000 ∧ 0 ≤ n ∧ n ≤ 1000) (hb_ : h[b]? = some (.cells #[.int .i64 (z), .int .i64 (l)] 107 (0, 0))) : CallsX Try.prog md 97 #[.pointer (some ⟨b, 0, none⟩), .int .i64 (n)] h fun v h' => v = .int .i64 (max 0 (n - l)) ∧ Turned h h' b (.cells #[.int .i64 z, .int .i64 (l - (n - max 0 (n - l)))] 107 (0, 0)) := by
  refine calls_intro (Φ := fun h_ => St h [b] (fun _ => none) h_ ([(b, .cells #[.int .i64 (z), .int .i64 (l)] 107 (0, 0))])) Try.func97 rfl (tm := [_, _, _, _, _, _, _, _, _, _, _, _, _, _, _, _, _, _, _, _, _, _, _]) rfl ?_ (St.startB hb_)
  intro c₀ cs Stop K
  refine fl_seq ?_
  refine rl_start ?_
  refine rl_det (met_none rfl) (fun h_ H_ => exd_assign (v := .int .i64 0) rfl) rfl ?_
  refine rl_end ?_
  refine fl_seq ?_
  refine rl_start ?_
  refine rl_det (met_none rfl) (fun h_ H_ => exd_move (v := .int .i64 (n)) rfl) rfl ?_
  refine rl_det (met_none rfl) (fun h_ H_ => exd_move (v := .pointer (some ⟨b, 0, none⟩)) rfl) (tm' := _::_::_::_::_::_::_::_::_) rfl ?_
  refine rl_det (met_none rfl) (fun h_ H_ => exd_nilCheck rfl) rfl ?_
  refine rl_det (met_none rfl) (fun h_ H_ => exd_fieldAddr tF107_1 rfl (a' := ⟨b, 1, none⟩) rfl) rfl ?_
  refine rl_det (met_none rfl) (fun h_ H_ => exd_load_own H_ tA3 rfl (i := 0) rfl (v := .int .i64 (l)) rfl) (tm' := _::_::_::_::_::_::_::_::_::_::_::_) rfl ?_
  refine rl_det (met_none rfl) (fun h_ H_ => exd_min rfl rfl) rfl ?_
  refine rl_det (met_none rfl) (fun h_ H_ => exd_assign (v := .int .i64 (min n l)) rfl) rfl ?_
  refine rl_end ?_
  refine fl_seq ?_
  refine rl_start ?_
  refine rl_det (met_none rfl) (fun h_ H_ => exd_move (v := .pointer (some ⟨b, 0, none⟩)) rfl) (tm' := _::_::_::_::_::_::_::_::_::_::_::_::_::_) rfl ?_
  refine rl_det (met_none rfl) (fun h_ H_ => exd_nilCheck rfl) rfl ?_
  refine rl_det (met_none rfl) (fun h_ H_ => exd_fieldAddr tF107_1 rfl (a' := ⟨b, 1, none⟩) rfl) rfl ?_
  refine rl_det (met_none rfl) (fun h_ H_ => exd_load_own H_ tA3 rfl (i := 0) rfl (v := .int .i64 (l)) rfl) (tm' := [_,_,_,_,_,_,_,_,_,_,_,_,_,_,_,_,_,_,_,_,_,_,_]) rfl ?_
  refine rl_det (met_none rfl) (fun h_ H_ => exd_move (v := .int .i64 (min n l)) rfl) rfl ?_
  refine rl_det (met_none rfl) (fun h_ H_ => exd_sub rfl rfl (wr (by omega))) rfl ?_
  refine rl_det (met_none rfl) (fun h_ H_ => exd_nilCheck rfl) (tm' := [_,_,_,_,_,_,_,_,_,_,_,_,_,_,_,_,_,_,_,_,_,_,_]) rfl ?_
  refine rl_det (met_none rfl) (fun h_ H_ => exd_fieldAddr tF107_1 rfl (a' := ⟨b, 1, none⟩) rfl) rfl ?_
  refine rl_store (met_none rfl) tS3 rfl (v := .int .i64 (l - (min n l))) rfl (i := 0) rfl rfl rfl (Nat.le_of_ble_eq_true rfl) (cs2 := [.int .i64 (z), .int .i64 (l - (min n l))]) rfl (rl_own (L' := [(b, .cells #[.int .i64 (z), .int .i64 (l - (min n l))] 107 (0, 0))]) rfl ?_)
  refine rl_end ?_
  refine fl_seq ?_
  refine rl_start ?_
  refine rl_det (met_none rfl) (fun h_ H_ => exd_move (v := .int .i64 (n)) rfl) rfl ?_
  refine rl_det (met_none rfl) (fun h_ H_ => exd_move (v := .int .i64 (min n l)) rfl) (tm' := [_,_,_,_,_,_,_,_,_,_,_,_,_,_,_,_,_,_,_,_,_,_,_]) rfl ?_
  refine rl_det (met_none rfl) (fun h_ H_ => exd_sub rfl rfl (wr (by omega))) rfl ?_
  refine rl_det (met_none rfl) (fun h_ H_ => exd_assign (v := .int .i64 (n - (min n l))) rfl) rfl ?_
  refine rl_end ?_
  refine fl_ret Try.func97 rfl (vs := [.int .i64 (n - (min n l))]) (fun h_ H_ => ⟨.int .i64 (n - (min n l)), _, rfl, rfl, rfl⟩) (v := .int .i64 (n - (min n l))) rfl ?_
  have e1 : max 0 (n - l) = n - min n l := by omega
  have e2 : l - (n - (n - min n l)) = l - min n l := by omega
  rw [e1, e2] at K
  exact fun h_ H_ => K _ _ ⟨rfl, H_.turned 0 rfl⟩
end Go.Proofs.Ytbmkacnlhlbnjaa
namespace Go.Proofs.Ytbmkacnlhlbnjaa
open Go.X Go.X.Cist Go.Conc
set_option maxRecDepth 10000

theorem c95 (md : Md) (h h₀ : Heap) (B₀ : List Nat) (p : PHeap) (X₀ : Pcs) (s₀ : St h₀ B₀ p h X₀) (yv rv : Value) (bY bR : Nat) (size start : Int) (a : Option Addr) (n c : Nat) (ds : List Day) (D : Days p a n ds) (hn : n ≤ 40) (rain : Nat → Int)
    (hb1 : p bY = some (.cells #[.int .i64 size, .int .i64 start, .slice a n c] 24 (0, 0))) (hb2 : p bR = some (.cells #[rv] 77 (0, 0))) (hs : 0 ≤ size ∧ size ≤ 60 ∧ 0 ≤ start) (hd : ∀ i, i < n → 0 ≤ (ds.getD i dz).want ∧ (ds.getD i dz).want ≤ 200) (hr0 : ∀ i, i < n → 0 ≤ rain i ∧ rain i ≤ 20)
    (hr : ∀ h i, Per p h → i < n → CallV Try.prog md rv [.int .i64 ((i : Nat) : Int)] h fun v h' => v = .int .i64 (rain i) ∧ Keep h h') (I : Nat → Pcs → Prop) (J : Pcs → Prop) (hI0 : I 0 X₀)
    (hy : ∀ i h A X, i < n → I i X → St h₀ B₀ p h (A ++ (X ++ [])) → CallV Try.prog md yv [.int .i64 ((i : Nat) : Int), .agg #[.int .i64 (lev size (min start size) (wantOf ds) rain (i + 1)), .int .i64 (lack size (min start size) (wantOf ds) rain i), .int .i64 (ovr size (min start size) (wantOf ds) rain i)]] h
      fun v h' => ∃ t X', v = .bool t ∧ ((t = true → I (i + 1) X') ∧ (t = false → J X')) ∧ St h₀ B₀ p h' (A ++ (X' ++ []))) : CallsX Try.prog md 95 #[yv, .pointer (some ⟨bY, 0, none⟩), .pointer (some ⟨bR, 0, none⟩)] h fun _ h' => ∃ X', (I n X' ∨ J X') ∧ St h₀ B₀ p h' X' := by
  refine calls_intro (Φ := fun h_ => St h₀ B₀ p h_ (([] : Pcs) ++ (X₀ ++ []))) Try.func95 rfl (tm := [_, _, _, _, _, _, _, _, _, _, _, _, _, _, _, _, _, _, _, _, _, _, _, _, _, _, _, _, _, _, _, _, _, _, _, _, _, _, _, _, _, _]) rfl ?_ (by simpa using s₀)
  intro c₀ cs Stop K
  refine fl_seq ?_
  refine rl_start ?_
  refine rl_det (met_none rfl) (fun h_ H_ => exd_fieldAddr tF24_0 rfl (a' := ⟨bY, 0, none⟩) rfl) rfl ?_
  refine rl_det (met_none rfl) (fun h_ H_ => exd_load_per H_ tA3 rfl (v := .int .i64 (size)) (per_cell hb1 rfl)) rfl ?_
  refine rl_det (met_none rfl) (fun h_ H_ => exd_fieldAddr tF24_1 rfl (a' := ⟨bY, 1, none⟩) rfl) (tm' := _::_::_::_::_::_::_::_::_::_::_::_::_) rfl ?_
  refine rl_det (met_none rfl) (fun h_ H_ => exd_load_per H_ tA3 rfl (v := .int .i64 (start)) (per_cell hb1 rfl)) rfl ?_
  refine rl_det (met_none rfl) (fun h_ H_ => exd_fieldAddr tF24_0 rfl (a' := ⟨bY, 0, none⟩) rfl) rfl ?_
  refine rl_det (met_none rfl) (fun h_ H_ => exd_load_per H_ tA3 rfl (v := .int .i64 (size)) (per_cell hb1 rfl)) (tm' := _::_::_::_::_::_::_::_::_::_::_::_::_::_::_::_) rfl ?_
  refine rl_det (met_none rfl) (fun h_ H_ => exd_min rfl rfl) rfl ?_
  refine rl_det (met_none rfl) (fun h_ H_ => exd_build tZ107 tP107 (vs := [(0, .int .i64 (size)), (1, .int .i64 (min start size))]) rfl (cells := #[.int .i64 (size), .int .i64 (min start size)]) rfl) rfl ?_
  refine rl_alloc (met_none rfl) tZ107 rfl fun b1 => rl_own (L' := ([(b1, .cells #[.int .i64 0, .int .i64 0] 107 (0, 0))] : Pcs) ++ (X₀ ++ [])) rfl ?_
  refine rl_norm (tm' := _::_::_::_::_::_) rfl ?_
  refine rl_store (met_none rfl) tS107 rfl (v := .agg #[.int .i64 (size), .int .i64 (min start size)]) rfl (i := 0) rfl rfl rfl (Nat.le_of_ble_eq_true rfl) (cs2 := [.int .i64 (size), .int .i64 (min start size)]) rfl (rl_own (L' := ([(b1, .cells #[.int .i64 (size), .int .i64 (min start size)] 107 (0, 0))] : Pcs) ++ (X₀ ++ [])) rfl ?_)
  refine rl_end ?_
  refine fl_seq ?_
  refine rl_start ?_
  refine rl_det (met_none rfl) (fun h_ H_ => exd_fieldAddr tF24_2 rfl (a' := ⟨bY, 2, none⟩) rfl) rfl ?_
  refine rl_det (met_none rfl) (fun h_ H_ => exd_load_per H_ tA22 rfl (v := .slice a n c) (per_cell hb1 rfl)) rfl ?_
  refine rl_det (met_none rfl) (fun h_ H_ => exd_len Try.underlying22 rfl) (tm' := _::_::_::_::_::_::_::_::_::_::_::_::_::_::_::_::_::_::_::_::_) rfl ?_
  refine rl_det (met_none rfl) (fun h_ H_ => exd_move (v := .int .i64 0) rfl) rfl ?_
  refine rl_end ?_
  refine fl_block ?_
  refine fl_loop (m₀ := n - 0) (fun m_ tm_ h_ => ∃ (k : Nat) (X : Pcs), m_ = n - k ∧ (∃ y2 : Nat → Value, tm_ = [yv, .pointer (some ⟨bY, 0, none⟩), .pointer (some ⟨bR, 0, none⟩), undef, .pointer (some ⟨b1, 0, none⟩), (y2 5), (y2 6), (y2 7), (y2 8), .pointer (some ⟨bY, 0, none⟩), .int .i64 (size), .pointer (some ⟨bY, 1, none⟩), .int .i64 (start), .pointer (some ⟨bY, 0, none⟩), .int .i64 (size), .int .i64 (min start size), .agg #[.int .i64 (size), .int .i64 (min start size)], .pointer (some ⟨bY, 2, none⟩), .slice a n c, .int .i64 (((n : Nat) : Int)), .int .i64 (((k : Nat) : Int)), (y2 21), (y2 22), (y2 23), (y2 24), (y2 25), (y2 26), (y2 27), (y2 28), (y2 29), (y2 30), (y2 31), (y2 32), (y2 33), (y2 34), (y2 35), (y2 36), (y2 37), (y2 38), (y2 39), (y2 40), (y2 41)]) ∧ (k ≤ n) ∧ (I k X) ∧ St h₀ B₀ p h_ (([(b1, .cells #[.int .i64 (size), .int .i64 (lev size (min start size) (wantOf ds) rain k)] 107 (0, 0))] : Pcs) ++ (X ++ []))) (fun h_ H_ => ⟨0, X₀, rfl, (y_of rfl), Nat.zero_le _, hI0, H_⟩) ?_
  intro m_ tm_ IH3
  refine rs_ex fun k => rs_ex fun X => rs_and fun hm_ => rs_and fun ht_ => rs_and fun hk => rs_and fun hI => ?_
  subst hm_; obtain ⟨y2, ht_⟩ := ht_; subst ht_
  have hl := lev_bound (size := size) (start := min start size) (want := wantOf ds) (rain := rain) (n := n) ⟨by omega, by omega⟩ (fun i hi => (hd i hi).1) k hk
  have hdk := hd k
  have hrk := hr0 k
  refine fl_seq ?_
  refine rl_start ?_
  refine rl_det (met_none rfl) (fun h_ H_ => exd_lss rfl rfl) rfl ?_
  refine rl_end ?_
  refine fl_seq ?_
  by_cases cc4 : ((k : Nat) : Int) < ((n : Nat) : Int)
  · refine fl_then rfl (decide_eq_true cc4) ?_
    refine fl_skip ?_
    refine fl_seq ?_
    refine fl_block ?_
    refine fl_seq ?_
    refine rl_start ?_
    refine rl_det (met_none rfl) (fun h_ H_ => exd_move (v := .int .i64 (((k : Nat) : Int))) rfl) (tm' := _::_::_::_::_::_::_::_::_::_::_::_::_::_::_::_::_::_::_::_::_::_::_::_) rfl ?_
    refine rl_det (met_none rfl) (fun h_ H_ => exd_indexAddrN (i := k) Try.underlying22 tS38 (sl_ne a n c (D.ne (by omega))) rfl (by omega)) rfl ?_
    refine rl_det (met_none rfl) (fun h_ H_ => exd_loadN_per H_ tA38 tS38 rfl (vs := [.int .i64 ((ds.getD k dz).lo), .int .i64 ((ds.getD k dz).hi), .int .i64 ((ds.getD k dz).want)]) rfl (D.all (by omega))) rfl ?_
    refine rl_alloc (met_none rfl) tZ38 rfl fun b5 => rl_own (L' := ([(b5, .cells #[.int .i64 0, .int .i64 0, .int .i64 0] 38 (0, 0)), (b1, .cells #[.int .i64 (size), .int .i64 (lev size (min start size) (wantOf ds) rain k)] 107 (0, 0))] : Pcs) ++ (X ++ [])) rfl ?_
    refine rl_norm (tm' := _::_::_::_::_::_::_::_) rfl ?_
    refine rl_det (met_none rfl) (fun h_ H_ => exd_assign (v := .int .i64 (((k : Nat) : Int))) rfl) rfl ?_
    refine rl_store (met_none rfl) tS38 rfl (v := .agg #[.int .i64 ((ds.getD k dz).lo), .int .i64 ((ds.getD k dz).hi), .int .i64 ((ds.getD k dz).want)]) rfl (i := 0) rfl rfl rfl (Nat.le_of_ble_eq_true rfl) (cs2 := [.int .i64 ((ds.getD k dz).lo), .int .i64 ((ds.getD k dz).hi), .int .i64 ((ds.getD k dz).want)]) rfl (rl_own (L' := ([(b5, .cells #[.int .i64 ((ds.getD k dz).lo), .int .i64 ((ds.getD k dz).hi), .int .i64 ((ds.getD k dz).want)] 38 (0, 0)), (b1, .cells #[.int .i64 (size), .int .i64 (lev size (min start size) (wantOf ds) rain k)] 107 (0, 0))] : Pcs) ++ (X ++ [])) rfl ?_)
    refine rl_end ?_
    refine fl_seq ?_
    refine rl_start ?_
    refine rl_det (met_none rfl) (fun h_ H_ => exd_load_per H_ tA77 rfl (v := rv) (per_cell hb2 rfl)) rfl ?_
    refine rl_det (met_none rfl) (fun h_ H_ => exd_move (v := .int .i64 (((k : Nat) : Int))) rfl) (tm' := _::_::_::_::_::_::_::_::_::_::_::_::_::_::_::_::_::_::_::_::_::_::_::_::_::_::_::_) rfl ?_
    refine rl_callvd (met_none rfl) rfl (vs := [.int .i64 (((k : Nat) : Int))]) rfl (fun h_ H_ => hr h_ k H_.per (show k < n by omega)) rfl ?_
    refine rl_call (met_none rfl) (first := []) (cap := []) rfl rfl fC96 (R := fun v_ h_ => v_ = .int .i64 (max 0 ((lev size (min start size) (wantOf ds) rain k) + (rain k) - size)) ∧ St h₀ B₀ p h_ (([(b5, .cells #[.int .i64 ((ds.getD k dz).lo), .int .i64 ((ds.getD k dz).hi), .int .i64 ((ds.getD k dz).want)] 38 (0, 0)), (b1, .cells #[.int .i64 (size), .int .i64 ((lev size (min start size) (wantOf ds) rain k) + (rain k) - max 0 ((lev size (min start size) (wantOf ds) rain k) + (rain k) - size))] 107 (0, 0))] : Pcs) ++ (X ++ []))) (fun h_ H_ => (c96 md _ _ (size) (lev size (min start size) (wantOf ds) rain k) (rain k) (by omega) (H_.at (i := 1) rfl)).mono fun v_ h2_ ⟨e_, T_⟩ => ⟨e_, H_.callT 1 rfl T_⟩) fun v_ => ?_
    refine rl_and fun ev_ => ?_
    have ev_ := ev_.symm; subst ev_
    refine rl_det (met_none rfl) (fun h_ H_ => exd_assign (v := .int .i64 (max 0 ((lev size (min start size) (wantOf ds) rain k) + (rain k) - size))) rfl) (tm' := _::_::_::_::_::_::_::_::_) rfl ?_
    refine rl_end ?_
    refine fl_seq ?_
    refine rl_start ?_
    refine rl_det (met_none rfl) (fun h_ H_ => exd_fieldAddr tF38_1 rfl (a' := ⟨b5, 2, none⟩) rfl) rfl ?_
    refine rl_det (met_none rfl) (fun h_ H_ => exd_load_own H_ tA3 rfl (i := 0) rfl (v := .int .i64 ((ds.getD k dz).want)) rfl) rfl ?_
    refine rl_call (met_none rfl) (first := []) (cap := []) rfl rfl fC97 (R := fun v_ h_ => v_ = .int .i64 (max 0 (((ds.getD k dz).want) - ((lev size (min start size) (wantOf ds) rain k) + (rain k) - max 0 ((lev size (min start size) (wantOf ds) rain k) + (rain k) - size)))) ∧ St h₀ B₀ p h_ (([(b5, .cells #[.int .i64 ((ds.getD k dz).lo), .int .i64 ((ds.getD k dz).hi), .int .i64 ((ds.getD k dz).want)] 38 (0, 0)), (b1, .cells #[.int .i64 (size), .int .i64 (((lev size (min start size) (wantOf ds) rain k) + (rain k) - max 0 ((lev size (min start size) (wantOf ds) rain k) + (rain k) - size)) - (((ds.getD k dz).want) - max 0 (((ds.getD k dz).want) - ((lev size (min start size) (wantOf ds) rain k) + (rain k) - max 0 ((lev size (min start size) (wantOf ds) rain k) + (rain k) - size)))))] 107 (0, 0))] : Pcs) ++ (X ++ []))) (fun h_ H_ => (c97 md _ _ (size) ((lev size (min start size) (wantOf ds) rain k) + (rain k) - max 0 ((lev size (min start size) (wantOf ds) rain k) + (rain k) - size)) ((ds.getD k dz).want) (by omega) (H_.at (i := 1) rfl)).mono fun v_ h2_ ⟨e_, T_⟩ => ⟨e_, H_.callT 1 rfl T_⟩) fun v_ => ?_
    refine rl_and fun ev_ => ?_
    have ev_ := ev_.symm; subst ev_
    refine rl_norm (tm' := [_,_,_,_,_,_,_,_,_,_,_,_,_,_,_,_,_,_,_,_,_,_,_,_,_,_,_,_,_,_,_,_,_,_,_,_,_,_,_,_,_,_]) rfl ?_
    refine rl_det (met_none rfl) (fun h_ H_ => exd_assign (v := .int .i64 (max 0 (((ds.getD k dz).want) - ((lev size (min start size) (wantOf ds) rain k) + (rain k) - max 0 ((lev size (min start size) (wantOf ds) rain k) + (rain k) - size))))) rfl) rfl ?_
    refine rl_end ?_
    refine fl_seq ?_
    refine rl_start ?_
    refine rl_det (met_none rfl) (fun h_ H_ => exd_move (v := yv) rfl) rfl ?_
    refine rl_det (met_none rfl) (fun h_ H_ => exd_move (v := .int .i64 (((k : Nat) : Int))) rfl) (tm' := [_,_,_,_,_,_,_,_,_,_,_,_,_,_,_,_,_,_,_,_,_,_,_,_,_,_,_,_,_,_,_,_,_,_,_,_,_,_,_,_,_,_]) rfl ?_
    refine rl_det (met_none rfl) (fun h_ H_ => exd_fieldAddr tF107_1 rfl (a' := ⟨b1, 1, none⟩) rfl) rfl ?_
    refine rl_det (met_none rfl) (fun h_ H_ => exd_load_own H_ tA3 rfl (i := 1) rfl (v := .int .i64 (((lev size (min start size) (wantOf ds) rain k) + (rain k) - max 0 ((lev size (min start size) (wantOf ds) rain k) + (rain k) - size)) - (((ds.getD k dz).want) - max 0 (((ds.getD k dz).want) - ((lev size (min start size) (wantOf ds) rain k) + (rain k) - max 0 ((lev size (min start size) (wantOf ds) rain k) + (rain k) - size)))))) rfl) rfl ?_
    refine rl_det (met_none rfl) (fun h_ H_ => exd_move (v := .int .i64 (max 0 (((ds.getD k dz).want) - ((lev size (min start size) (wantOf ds) rain k) + (rain k) - max 0 ((lev size (min start size) (wantOf ds) rain k) + (rain k) - size))))) rfl) (tm' := [_,_,_,_,_,_,_,_,_,_,_,_,_,_,_,_,_,_,_,_,_,_,_,_,_,_,_,_,_,_,_,_,_,_,_,_,_,_,_,_,_,_]) rfl ?_
    refine rl_det (met_none rfl) (fun h_ H_ => exd_move (v := .int .i64 (max 0 ((lev size (min start size) (wantOf ds) rain k) + (rain k) - size))) rfl) rfl ?_
    refine rl_det (met_none rfl) (fun h_ H_ => exd_build tZ72 tP72 (vs := [(0, .int .i64 (((lev size (min start size) (wantOf ds) rain k) + (rain k) - max 0 ((lev size (min start size) (wantOf ds) rain k) + (rain k) - size)) - (((ds.getD k dz).want) - max 0 (((ds.getD k dz).want) - ((lev size (min start size) (wantOf ds) rain k) + (rain k) - max 0 ((lev size (min start size) (wantOf ds) rain k) + (rain k) - size)))))), (1, .int .i64 (max 0 (((ds.getD k dz).want) - ((lev size (min start size) (wantOf ds) rain k) + (rain k) - max 0 ((lev size (min start size) (wantOf ds) rain k) + (rain k) - size))))), (2, .int .i64 (max 0 ((lev size (min start size) (wantOf ds) rain k) + (rain k) - size)))]) rfl (cells := #[.int .i64 (((lev size (min start size) (wantOf ds) rain k) + (rain k) - max 0 ((lev size (min start size) (wantOf ds) rain k) + (rain k) - size)) - (((ds.getD k dz).want) - max 0 (((ds.getD k dz).want) - ((lev size (min start size) (wantOf ds) rain k) + (rain k) - max 0 ((lev size (min start size) (wantOf ds) rain k) + (rain k) - size))))), .int .i64 (max 0 (((ds.getD k dz).want) - ((lev size (min start size) (wantOf ds) rain k) + (rain k) - max 0 ((lev size (min start size) (wantOf ds) rain k) + (rain k) - size)))), .int .i64 (max 0 ((lev size (min start size) (wantOf ds) rain k) + (rain k) - size))]) rfl) rfl ?_
    refine rl_callv (met_none rfl) rfl (vs := [.int .i64 ((k : Nat) : Int), .agg #[.int .i64 (lev size (min start size) (wantOf ds) rain (k + 1)), .int .i64 (lack size (min start size) (wantOf ds) rain k), .int .i64 (ovr size (min start size) (wantOf ds) rain k)]]) rfl (R := fun v_ h_ => ∃ t6 X7, v_ = .bool t6 ∧ ((t6 = true → I (k + 1) X7) ∧ (t6 = false → J X7)) ∧ St h₀ B₀ p h_ (([(b5, .cells #[.int .i64 ((ds.getD k dz).lo), .int .i64 ((ds.getD k dz).hi), .int .i64 ((ds.getD k dz).want)] 38 (0, 0)), (b1, .cells #[.int .i64 (size), .int .i64 (((lev size (min start size) (wantOf ds) rain k) + (rain k) - max 0 ((lev size (min start size) (wantOf ds) rain k) + (rain k) - size)) - (((ds.getD k dz).want) - max 0 (((ds.getD k dz).want) - ((lev size (min start size) (wantOf ds) rain k) + (rain k) - max 0 ((lev size (min start size) (wantOf ds) rain k) + (rain k) - size)))))] 107 (0, 0))] : Pcs) ++ (X7 ++ []))) (fun h_ H_ => hy k h_ _ _ (show k < n by omega) hI H_) fun v_ => ?_
    refine rl_ex fun t6 => rl_ex fun X7 => rl_and fun ev_ => rl_and fun hj8 => ?_
    subst ev_
    refine rl_norm (tm' := [_,_,_,_,_,_,_,_,_,_,_,_,_,_,_,_,_,_,_,_,_,_,_,_,_,_,_,_,_,_,_,_,_,_,_,_,_,_,_,_,_,_]) rfl ?_
    refine rl_det (met_none rfl) (fun h_ H_ => exd_not rfl) rfl ?_
    refine rl_end ?_
    rcases bcases (t6) with cc9 | cc9
    · refine fl_else rfl (not_f cc9) ?_
      refine fl_skip ?_
      refine fl_inBlock ?_
      refine rl_start ?_
      refine rl_det (met_none rfl) (fun h_ H_ => exd_add rfl rfl (n := ((k + 1 : Nat) : Int)) (wr (by omega))) rfl ?_
      refine rl_det (met_none rfl) (fun h_ H_ => exd_move (v := .int .i64 (((k + 1 : Nat) : Int))) rfl) (tm' := _::_::_::_::_::_::_::_::_::_::_::_::_::_::_::_::_::_::_::_::_::_) rfl ?_
      refine rl_end ?_
      exact fun h_ H_ => IH3 _ _ (by omega) h_ ⟨k + 1, X7, rfl, (y_of rfl), (by omega), (hj8.1 ‹_›), H_.drop⟩
    · refine fl_then rfl (not_t cc9) ?_
      refine fl_ret Try.func95 rfl (vs := []) (fun h_ H_ => rfl) (v := .tuple #[]) rfl ?_
      exact fun h_ H_ => K _ _ ⟨_, .inr (hj8.2 ‹_›), by simpa using H_.dropA⟩
  · refine fl_else rfl (decide_eq_false cc4) ?_
    refine fl_exit rfl ?_
    refine fl_fall Try.func95 rfl (vs := []) (fun h_ H_ => rfl) (v := .tuple #[]) rfl ?_
    obtain rfl : k = n := by omega
    exact fun h_ H_ => K _ _ ⟨_, .inl hI, by simpa using H_.dropA⟩
theorem c72 (md : Md) (h : Heap) (size start : Int) (a : Option Addr) (n c : Nat) (rv : Value) (h1 : rv.cells = #[rv]) : CallsX Try.prog md 72 #[.agg #[.int .i64 (size), .int .i64 (start), .slice a n c], rv] h fun v h' => ∃ b1 b2, v = .func (.func 95) #[] #[.pointer (some ⟨b1, 0, none⟩), .pointer (some ⟨b2, 0, none⟩)] ∧ New h h' [(b2, .cells #[rv] 77 (0, 0)), (b1, .cells #[.int .i64 size, .int .i64 start, .slice a n c] 24 (0, 0))] := by
  refine calls_intro (Φ := fun h_ => St h [] (fun _ => none) h_ []) Try.func72 rfl (tm := [_, _, _, _, _, _]) rfl ?_ (St.start h _ (fun _ _ e => by cases e))
  intro c₀ cs Stop K
  refine fl_seq ?_
  refine rl_start ?_
  refine rl_box (met_none rfl) (v := .agg #[.int .i64 (size), .int .i64 (start), .slice a n c]) rfl fun b1 => rl_own (L' := [(b1, .cells #[.int .i64 (size), .int .i64 (start), .slice a n c] 24 (0, 0))]) rfl ?_
  refine rl_box (met_none rfl) (v := rv) rfl fun b2 => rl_own (L' := [(b2, .cells #[rv] 77 (0, 0)), (b1, .cells #[.int .i64 (size), .int .i64 (start), .slice a n c] 24 (0, 0))]) (by rw [h1]) ?_
  refine rl_det (met_none rfl) (fun h_ H_ => exd_assign (v := .nilFunc) rfl) (tm' := [_,_,_,_,_,_]) rfl ?_
  refine rl_end ?_
  refine fl_seq ?_
  refine rl_start ?_
  refine rl_det (met_none rfl) (fun h_ H_ => exd_makeFunc (a := []) (b := [.pointer (some ⟨b1, 0, none⟩), .pointer (some ⟨b2, 0, none⟩)]) rfl rfl) rfl ?_
  refine rl_det (met_none rfl) (fun h_ H_ => exd_assign (v := .func (.func 95) #[] #[.pointer (some ⟨b1, 0, none⟩), .pointer (some ⟨b2, 0, none⟩)]) rfl) rfl ?_
  refine rl_end ?_
  refine fl_ret Try.func72 rfl (vs := [.func (.func 95) #[] #[.pointer (some ⟨b1, 0, none⟩), .pointer (some ⟨b2, 0, none⟩)]]) (fun h_ H_ => ⟨.func (.func 95) #[] #[.pointer (some ⟨b1, 0, none⟩), .pointer (some ⟨b2, 0, none⟩)], _, rfl, rfl, rfl⟩) (v := .func (.func 95) #[] #[.pointer (some ⟨b1, 0, none⟩), .pointer (some ⟨b2, 0, none⟩)]) rfl ?_
  exact fun h_ H_ => K _ _ ⟨_, _, rfl, H_.new⟩
end Go.Proofs.Ytbmkacnlhlbnjaa
namespace Go.Proofs.Ytbmkacnlhlbnjaa
open Go.X Go.X.Cist Go.Conc
set_option maxRecDepth 10000

theorem c73 (md : Md) (h : Heap) (p : PHeap) (hp : Per p h) (bW : Nat) (b : Option Addr) (m d : Nat) (xs : List Int) (W : Ints p b m xs) (hW : p bW = some (.cells #[.slice b m d] 25 (0, 0))) (k : Nat) (hk : k < m) : CallsX Try.prog md 73 #[.int .i64 (((k : Nat) : Int)), .pointer (some ⟨bW, 0, none⟩)] h fun v h' => v = .int .i64 (xs.getD k 0) ∧ Keep h h' := by
  refine calls_intro (Φ := fun h_ => St h [] p h_ []) Try.func73 rfl (tm := [_, _, _, _, _, _, _, _]) rfl ?_ (St.start h _ hp)
  intro c₀ cs Stop K
  refine fl_seq ?_
  refine rl_start ?_
  refine rl_det (met_none rfl) (fun h_ H_ => exd_assign (v := .int .i64 0) rfl) rfl ?_
  refine rl_end ?_
  refine fl_seq ?_
  refine rl_start ?_
  refine rl_det (met_none rfl) (fun h_ H_ => exd_load_per H_ tA25 rfl (v := .slice b m d) (per_cell hW rfl)) rfl ?_
  refine rl_det (met_none rfl) (fun h_ H_ => exd_move (v := .int .i64 (((k : Nat) : Int))) rfl) (tm' := [_,_,_,_,_,_,_,_]) rfl ?_
  refine rl_det (met_none rfl) (fun h_ H_ => exd_indexAddrN (i := k) Try.underlying25 tS3 (sl_ne b m d (W.ne (by omega))) rfl (by omega)) rfl ?_
  refine rl_det (met_none rfl) (fun h_ H_ => exd_load_per H_ tA3 rfl (v := .int .i64 (xs.getD k 0)) (W.get (by omega))) rfl ?_
  refine rl_det (met_none rfl) (fun h_ H_ => exd_assign (v := .int .i64 (xs.getD k 0)) rfl) (tm' := _::_::_::_::_) rfl ?_
  refine rl_end ?_
  refine fl_ret Try.func73 rfl (vs := [.int .i64 (xs.getD k 0)]) (fun h_ H_ => ⟨.int .i64 (xs.getD k 0), _, rfl, rfl, rfl⟩) (v := .int .i64 (xs.getD k 0)) rfl ?_
  exact fun h_ H_ => K _ _ ⟨rfl, H_.kept⟩
theorem c34 (md : Md) (h : Heap) (p : PHeap) (hp : Per p h) (size start : Int) (a : Option Addr) (n c : Nat) (ds : List Day) (D : Days p a n ds) (hn : n ≤ 40) (b : Option Addr) (m d : Nat) (xs : List Int) (W : Ints p b m xs) (hm40 : m ≤ 40) : CallsX Try.prog md 34 #[.agg #[.int .i64 (size), .int .i64 (start), .slice a n c], .slice b m d] h fun v h' => ∃ w1 w2 w3 X1 X2 X3, v = .tuple #[w1, w2, w3, .int .i64 (askd size start ds (decide (Weather ds xs)))] ∧ (Ok size start ds ∧ Weather ds xs → OwnS 3 1 w1 (ns (levs size start (wantOf ds) (listOf xs)) n) X1 ∧ OwnS 3 1 w2 (ns (lack size start (wantOf ds) (listOf xs)) n) X2 ∧ OwnS 3 1 w3 (ns (ovr size start (wantOf ds) (listOf xs)) n) X3) ∧ (¬ (Ok size start ds ∧ Weather ds xs) → w1 = .slice none 0 0 ∧ w2 = .slice none 0 0 ∧ w3 = .slice none 0 0 ∧ X1 = [] ∧ X2 = [] ∧ X3 = []) ∧ New h h' (X1 ++ (X2 ++ (X3 ++ []))) := by
  refine calls_intro (Φ := fun h_ => St h [] p h_ []) Try.func34 rfl (tm := [_, _, _, _, _, _, _, _, _, _, _, _, _, _, _, _, _, _, _, _, _, _, _, _, _, _, _, _, _, _, _, _, _, _, _, _, _, _, _, _, _, _, _, _, _, _, _, _, _, _, _, _, _, _, _, _, _, _, _, _, _, _, _, _, _, _, _, _, _]) rfl ?_ (St.start h _ hp)
  intro c₀ cs Stop K
  have hl := D.len
  have hm := W.len
  refine fl_seq ?_
  refine rl_start ?_
  refine rl_box (met_none rfl) (v := .agg #[.int .i64 (size), .int .i64 (start), .slice a n c]) rfl fun b1 => rl_own (L' := [(b1, .cells #[.int .i64 (size), .int .i64 (start), .slice a n c] 24 (0, 0))]) rfl ?_
  refine rl_box (met_none rfl) (v := .slice b m d) rfl fun b2 => rl_own (L' := [(b2, .cells #[.slice b m d] 25 (0, 0)), (b1, .cells #[.int .i64 (size), .int .i64 (start), .slice a n c] 24 (0, 0))]) rfl ?_
  refine rl_alloc (met_none rfl) tZ25 rfl fun b3 => rl_own (L' := [(b3, .cells #[.slice none 0 0] 25 (0, 0)), (b2, .cells #[.slice b m d] 25 (0, 0)), (b1, .cells #[.int .i64 (size), .int .i64 (start), .slice a n c] 24 (0, 0))]) rfl ?_
  refine rl_norm (tm' := _::_::_::_::_::_) rfl ?_
  refine rl_alloc (met_none rfl) tZ25 rfl fun b4 => rl_own (L' := [(b4, .cells #[.slice none 0 0] 25 (0, 0)), (b3, .cells #[.slice none 0 0] 25 (0, 0)), (b2, .cells #[.slice b m d] 25 (0, 0)), (b1, .cells #[.int .i64 (size), .int .i64 (start), .slice a n c] 24 (0, 0))]) rfl ?_
  refine rl_alloc (met_none rfl) tZ25 rfl fun b5 => rl_own (L' := [(b5, .cells #[.slice none 0 0] 25 (0, 0)), (b4, .cells #[.slice none 0 0] 25 (0, 0)), (b3, .cells #[.slice none 0 0] 25 (0, 0)), (b2, .cells #[.slice b m d] 25 (0, 0)), (b1, .cells #[.int .i64 (size), .int .i64 (start), .slice a n c] 24 (0, 0))]) rfl ?_
  refine rl_det (met_none rfl) (fun h_ H_ => exd_assign (v := .int .i64 0) rfl) (tm' := _::_::_::_::_::_::_::_::_) rfl ?_
  refine rl_end ?_
  refine fl_seq ?_
  refine fl_seq ?_
  refine rl_start ?_
  refine rl_det (met_none rfl) (fun h_ H_ => exd_loadN_own H_ tA24 tS24 rfl (i := 4) rfl (vs := [.int .i64 (size), .int .i64 (start), .slice a n c]) rfl rfl) rfl ?_
  refine rl_calld (met_none rfl) (first := []) (cap := []) rfl rfl fC32 (fun h_ H_ => c32 md _ _ (fun b_ o_ e_ => H_.per b_ o_ e_) (size) (start) _ _ _ _ D (by omega)) rfl ?_
  refine rl_det (met_none rfl) (fun h_ H_ => exd_assign (v := .int .i64 (chk (size) (start) ds)) rfl) (tm' := _::_::_::_::_::_::_::_::_::_) rfl ?_
  refine rl_end ?_
  refine fl_seq ?_
  refine rl_start ?_
  refine rl_det (met_none rfl) (fun h_ H_ => exd_move (v := .int .i64 (chk (size) (start) ds)) rfl) rfl ?_
  refine rl_det (met_none rfl) (fun h_ H_ => exd_neq rfl rfl) rfl ?_
  refine rl_end ?_
  by_cases cc6 : chk (size) (start) ds ≠ 0
  · refine fl_then rfl (decide_eq_true cc6) ?_
    refine fl_seq ?_
    refine rl_start ?_
    refine rl_det (met_none rfl) (fun h_ H_ => exd_move (v := .int .i64 (chk (size) (start) ds)) rfl) (tm' := _::_::_::_::_::_::_::_::_::_::_::_::_::_::_::_::_::_::_::_) rfl ?_
    refine rl_store (met_none rfl) tS25 rfl (v := .slice none 0 0) rfl (i := 2) rfl rfl rfl (Nat.le_of_ble_eq_true rfl) (cs2 := [.slice none 0 0]) rfl (rl_own (L' := [(b5, .cells #[.slice none 0 0] 25 (0, 0)), (b4, .cells #[.slice none 0 0] 25 (0, 0)), (b3, .cells #[.slice none 0 0] 25 (0, 0)), (b2, .cells #[.slice b m d] 25 (0, 0)), (b1, .cells #[.int .i64 (size), .int .i64 (start), .slice a n c] 24 (0, 0))]) rfl ?_)
    refine rl_store (met_none rfl) tS25 rfl (v := .slice none 0 0) rfl (i := 1) rfl rfl rfl (Nat.le_of_ble_eq_true rfl) (cs2 := [.slice none 0 0]) rfl (rl_own (L' := [(b5, .cells #[.slice none 0 0] 25 (0, 0)), (b4, .cells #[.slice none 0 0] 25 (0, 0)), (b3, .cells #[.slice none 0 0] 25 (0, 0)), (b2, .cells #[.slice b m d] 25 (0, 0)), (b1, .cells #[.int .i64 (size), .int .i64 (start), .slice a n c] 24 (0, 0))]) rfl ?_)
    refine rl_store (met_none rfl) tS25 rfl (v := .slice none 0 0) rfl (i := 0) rfl rfl rfl (Nat.le_of_ble_eq_true rfl) (cs2 := [.slice none 0 0]) rfl (rl_own (L' := [(b5, .cells #[.slice none 0 0] 25 (0, 0)), (b4, .cells #[.slice none 0 0] 25 (0, 0)), (b3, .cells #[.slice none 0 0] 25 (0, 0)), (b2, .cells #[.slice b m d] 25 (0, 0)), (b1, .cells #[.int .i64 (size), .int .i64 (start), .slice a n c] 24 (0, 0))]) rfl ?_)
    refine rl_det (met_none rfl) (fun h_ H_ => exd_assign (v := .int .i64 (chk (size) (start) ds)) rfl) rfl ?_
    refine rl_end ?_
    refine fl_ret Try.func34 rfl (vs := [.slice none 0 0, .slice none 0 0, .slice none 0 0, .int .i64 (chk (size) (start) ds)]) (fun h_ H_ => ⟨.slice none 0 0, _, rfl, (wpS_bind (wpS_pure (wpS_loadVar1 tA25 (H_.ocell (i := 2) rfl (v := .slice none 0 0) rfl) ⟨rfl, rfl⟩))), ⟨.slice none 0 0, _, rfl, (wpS_bind (wpS_pure (wpS_loadVar1 tA25 (H_.ocell (i := 1) rfl (v := .slice none 0 0) rfl) ⟨rfl, rfl⟩))), ⟨.slice none 0 0, _, rfl, (wpS_bind (wpS_pure (wpS_loadVar1 tA25 (H_.ocell (i := 0) rfl (v := .slice none 0 0) rfl) ⟨rfl, rfl⟩))), ⟨.int .i64 (chk (size) (start) ds), _, rfl, rfl, rfl⟩⟩⟩⟩) (v := .tuple #[.slice none 0 0, .slice none 0 0, .slice none 0 0, .int .i64 (chk (size) (start) ds)]) rfl ?_
    have hOk : ¬ Ok size start ds := fun e => absurd (chk_yes e) ‹_›
    exact fun h_ H_ => K _ _ ⟨.slice none 0 0, .slice none 0 0, .slice none 0 0, [], [], [], by rw [chk_no hOk, askd_no hOk], fun e => absurd e.1 hOk, fun _ => ⟨rfl, rfl, rfl, rfl, rfl, rfl⟩, (H_.sub (List.nil_sublist _)).new⟩
  · refine fl_else rfl (decide_eq_false cc6) ?_
    refine fl_skip ?_
    refine fl_seq ?_
    refine fl_seq ?_
    refine rl_start ?_
    refine rl_det (met_none rfl) (fun h_ H_ => exd_load_own H_ tA25 rfl (i := 3) rfl (v := .slice b m d) rfl) rfl ?_
    refine rl_det (met_none rfl) (fun h_ H_ => exd_len Try.underlying25 rfl) (tm' := _::_::_::_::_::_::_::_::_::_::_::_::_::_::_::_::_::_::_::_::_::_) rfl ?_
    refine rl_det (met_none rfl) (fun h_ H_ => exd_fieldAddr tF24_2 rfl (a' := ⟨b1, 2, none⟩) rfl) rfl ?_
    refine rl_det (met_none rfl) (fun h_ H_ => exd_load_own H_ tA22 rfl (i := 4) rfl (v := .slice a n c) rfl) rfl ?_
    refine rl_det (met_none rfl) (fun h_ H_ => exd_len Try.underlying22 rfl) (tm' := _::_::_::_::_::_::_::_::_::_::_::_::_::_::_::_::_::_::_::_::_::_::_::_::_) rfl ?_
    refine rl_det (met_none rfl) (fun h_ H_ => exd_neq rfl rfl) rfl ?_
    refine rl_end ?_
    by_cases cc7 : ((m : Nat) : Int) ≠ ((n : Nat) : Int)
    · refine fl_then rfl (decide_eq_true cc7) ?_
      refine fl_seq ?_
      refine rl_start ?_
      refine rl_store (met_none rfl) tS25 rfl (v := .slice none 0 0) rfl (i := 2) rfl rfl rfl (Nat.le_of_ble_eq_true rfl) (cs2 := [.slice none 0 0]) rfl (rl_own (L' := [(b5, .cells #[.slice none 0 0] 25 (0, 0)), (b4, .cells #[.slice none 0 0] 25 (0, 0)), (b3, .cells #[.slice none 0 0] 25 (0, 0)), (b2, .cells #[.slice b m d] 25 (0, 0)), (b1, .cells #[.int .i64 (size), .int .i64 (start), .slice a n c] 24 (0, 0))]) rfl ?_)
      refine rl_store (met_none rfl) tS25 rfl (v := .slice none 0 0) rfl (i := 1) rfl rfl rfl (Nat.le_of_ble_eq_true rfl) (cs2 := [.slice none 0 0]) rfl (rl_own (L' := [(b5, .cells #[.slice none 0 0] 25 (0, 0)), (b4, .cells #[.slice none 0 0] 25 (0, 0)), (b3, .cells #[.slice none 0 0] 25 (0, 0)), (b2, .cells #[.slice b m d] 25 (0, 0)), (b1, .cells #[.int .i64 (size), .int .i64 (start), .slice a n c] 24 (0, 0))]) rfl ?_)
      refine rl_store (met_none rfl) tS25 rfl (v := .slice none 0 0) rfl (i := 0) rfl rfl rfl (Nat.le_of_ble_eq_true rfl) (cs2 := [.slice none 0 0]) rfl (rl_own (L' := [(b5, .cells #[.slice none 0 0] 25 (0, 0)), (b4, .cells #[.slice none 0 0] 25 (0, 0)), (b3, .cells #[.slice none 0 0] 25 (0, 0)), (b2, .cells #[.slice b m d] 25 (0, 0)), (b1, .cells #[.int .i64 (size), .int .i64 (start), .slice a n c] 24 (0, 0))]) rfl ?_)
      refine rl_det (met_none rfl) (fun h_ H_ => exd_assign (v := .int .i64 1) rfl) rfl ?_
      refine rl_end ?_
      refine fl_ret Try.func34 rfl (vs := [.slice none 0 0, .slice none 0 0, .slice none 0 0, .int .i64 1]) (fun h_ H_ => ⟨.slice none 0 0, _, rfl, (wpS_bind (wpS_pure (wpS_loadVar1 tA25 (H_.ocell (i := 2) rfl (v := .slice none 0 0) rfl) ⟨rfl, rfl⟩))), ⟨.slice none 0 0, _, rfl, (wpS_bind (wpS_pure (wpS_loadVar1 tA25 (H_.ocell (i := 1) rfl (v := .slice none 0 0) rfl) ⟨rfl, rfl⟩))), ⟨.slice none 0 0, _, rfl, (wpS_bind (wpS_pure (wpS_loadVar1 tA25 (H_.ocell (i := 0) rfl (v := .slice none 0 0) rfl) ⟨rfl, rfl⟩))), ⟨.int .i64 1, _, rfl, rfl, rfl⟩⟩⟩⟩) (v := .tuple #[.slice none 0 0, .slice none 0 0, .slice none 0 0, .int .i64 1]) rfl ?_
      have hOk : Ok size start ds := chk_zero.1 (by omega)
      have hX : ¬ Weather ds xs := fun e => by first | (have := e.1; omega) | (have := e.2 k (by omega); omega)
      exact fun h_ H_ => K _ _ ⟨.slice none 0 0, .slice none 0 0, .slice none 0 0, [], [], [], by rw [askd_arg hOk (decide_eq_false hX)], fun e => absurd e.2 hX, fun _ => ⟨rfl, rfl, rfl, rfl, rfl, rfl⟩, (H_.sub (List.nil_sublist _)).new⟩
    · refine fl_else rfl (decide_eq_false cc7) ?_
      refine fl_skip ?_
      refine fl_seq ?_
      refine fl_seq ?_
      refine rl_start ?_
      refine rl_det (met_none rfl) (fun h_ H_ => exd_load_own H_ tA25 rfl (i := 3) rfl (v := .slice b m d) rfl) (tm' := _::_::_::_::_::_::_::_::_::_::_::_::_::_::_::_::_::_::_::_::_::_::_::_::_::_::_) rfl ?_
      refine rl_det (met_none rfl) (fun h_ H_ => exd_len Try.underlying25 rfl) rfl ?_
      refine rl_det (met_none rfl) (fun h_ H_ => exd_move (v := .int .i64 0) rfl) rfl ?_
      refine rl_end ?_
      refine fl_block ?_
      refine fl_loop (m₀ := m - 0) (fun m_ tm_ h_ => ∃ (k : Nat), m_ = m - k ∧ (∃ y8 : Nat → Value, tm_ = [.agg #[.int .i64 (size), .int .i64 (start), .slice a n c], .slice b m d, .pointer (some ⟨b1, 0, none⟩), .pointer (some ⟨b2, 0, none⟩), .pointer (some ⟨b3, 0, none⟩), .pointer (some ⟨b4, 0, none⟩), .pointer (some ⟨b5, 0, none⟩), (y8 7), .int .i64 (chk (size) (start) ds), (y8 9), (y8 10), (y8 11), undef, undef, .agg #[.int .i64 (size), .int .i64 (start), .slice a n c], .int .i64 (chk (size) (start) ds), .int .i64 (chk (size) (start) ds), .bool (decide (chk (size) (start) ds ≠ 0)), undef, .slice b m d, .int .i64 (((m : Nat) : Int)), .pointer (some ⟨b1, 2, none⟩), .slice a n c, .int .i64 (((n : Nat) : Int)), .bool (decide (((m : Nat) : Int) ≠ ((n : Nat) : Int))), .slice b m d, .int .i64 (((m : Nat) : Int)), .int .i64 (((k : Nat) : Int)), (y8 28), (y8 29), (y8 30), (y8 31), (y8 32), (y8 33), (y8 34), (y8 35), (y8 36), (y8 37), (y8 38), (y8 39), (y8 40), (y8 41), (y8 42), (y8 43), (y8 44), (y8 45), undef, undef, undef, undef, undef, undef, undef, undef, undef, undef, undef, undef, undef, undef, undef, undef, undef, undef, undef, undef, undef, undef, undef]) ∧ (k ≤ m) ∧ (∀ i, i < k → (ds.getD i dz).lo ≤ xs.getD i 0 ∧ xs.getD i 0 ≤ (ds.getD i dz).hi) ∧ St h [] p h_ ([(b5, .cells #[.slice none 0 0] 25 (0, 0)), (b4, .cells #[.slice none 0 0] 25 (0, 0)), (b3, .cells #[.slice none 0 0] 25 (0, 0)), (b2, .cells #[.slice b m d] 25 (0, 0)), (b1, .cells #[.int .i64 (size), .int .i64 (start), .slice a n c] 24 (0, 0))])) (fun h_ H_ => ⟨0, rfl, (y_of rfl), Nat.zero_le _, (fun i hi => absurd hi (Nat.not_lt_zero i)), H_⟩) ?_
      intro m_ tm_ IH9
      refine rs_ex fun k => rs_and fun hm_ => rs_and fun ht_ => rs_and fun hk => rs_and fun hs => ?_
      subst hm_; obtain ⟨y8, ht_⟩ := ht_; subst ht_
      refine fl_seq ?_
      refine rl_start ?_
      refine rl_det (met_none rfl) (fun h_ H_ => exd_lss rfl rfl) (tm' := _::_::_::_::_::_::_::_::_::_::_::_::_::_::_::_::_::_::_::_::_::_::_::_::_::_::_::_::_::_) rfl ?_
      refine rl_end ?_
      refine fl_seq ?_
      by_cases cc10 : ((k : Nat) : Int) < ((m : Nat) : Int)
      · refine fl_then rfl (decide_eq_true cc10) ?_
        refine fl_skip ?_
        refine fl_seq ?_
        refine fl_block ?_
        refine fl_seq ?_
        refine rl_start ?_
        refine rl_det (met_none rfl) (fun h_ H_ => exd_move (v := .int .i64 (((k : Nat) : Int))) rfl) rfl ?_
        refine rl_det (met_none rfl) (fun h_ H_ => exd_indexAddrN (i := k) Try.underlying25 tS3 (sl_ne b m d (W.ne (by omega))) rfl (by omega)) rfl ?_
        refine rl_det (met_none rfl) (fun h_ H_ => exd_load_per H_ tA3 rfl (v := .int .i64 (xs.getD k 0)) (W.get (by omega))) (tm' := _::_::_::_::_::_::_::_::_::_::_::_::_::_::_::_::_::_::_::_::_::_::_::_::_::_::_::_::_::_::_::_::_) rfl ?_
        refine rl_det (met_none rfl) (fun h_ H_ => exd_assign (v := .int .i64 (((k : Nat) : Int))) rfl) rfl ?_
        refine rl_det (met_none rfl) (fun h_ H_ => exd_assign (v := .int .i64 (xs.getD k 0)) rfl) rfl ?_
        refine rl_end ?_
        refine fl_seq ?_
        refine rl_start ?_
        refine rl_det (met_none rfl) (fun h_ H_ => exd_fieldAddr tF24_2 rfl (a' := ⟨b1, 2, none⟩) rfl) (tm' := _::_::_::_::_::_::_::_::_::_::_::_::_::_::_::_::_::_::_::_::_::_::_::_::_::_::_::_::_::_::_::_::_::_) rfl ?_
        refine rl_det (met_none rfl) (fun h_ H_ => exd_load_own H_ tA22 rfl (i := 4) rfl (v := .slice a n c) rfl) rfl ?_
        refine rl_det (met_none rfl) (fun h_ H_ => exd_move (v := .int .i64 (((k : Nat) : Int))) rfl) rfl ?_
        refine rl_det (met_none rfl) (fun h_ H_ => exd_indexAddrN (i := k) Try.underlying22 tS38 (sl_ne a n c (D.ne (by omega))) rfl (by omega)) (tm' := _::_::_::_::_::_::_::_::_::_::_::_::_::_::_::_::_::_::_::_::_::_::_::_::_::_::_::_::_::_::_::_::_::_::_::_::_) rfl ?_
        refine rl_det (met_none rfl) (fun h_ H_ => exd_fieldAddr tF38_0 rfl (a' := (adr a).add (k * 3)) rfl) rfl ?_
        refine rl_det (met_none rfl) (fun h_ H_ => exd_loadN_per H_ tA36 tS36 rfl (vs := [.int .i64 ((ds.getD k dz).lo), .int .i64 ((ds.getD k dz).hi)]) rfl (D.span (by omega))) rfl ?_
        refine rl_alloc (met_none rfl) tZ36 rfl fun b11 => rl_own (L' := [(b11, .cells #[.int .i64 0, .int .i64 0] 36 (0, 0)), (b5, .cells #[.slice none 0 0] 25 (0, 0)), (b4, .cells #[.slice none 0 0] 25 (0, 0)), (b3, .cells #[.slice none 0 0] 25 (0, 0)), (b2, .cells #[.slice b m d] 25 (0, 0)), (b1, .cells #[.int .i64 (size), .int .i64 (start), .slice a n c] 24 (0, 0))]) rfl ?_
        refine rl_norm (tm' := _::_::_::_::_::_::_::_::_::_::_::_::_) rfl ?_
        refine rl_store (met_none rfl) tS36 rfl (v := .agg #[.int .i64 ((ds.getD k dz).lo), .int .i64 ((ds.getD k dz).hi)]) rfl (i := 0) rfl rfl rfl (Nat.le_of_ble_eq_true rfl) (cs2 := [.int .i64 ((ds.getD k dz).lo), .int .i64 ((ds.getD k dz).hi)]) rfl (rl_own (L' := [(b11, .cells #[.int .i64 ((ds.getD k dz).lo), .int .i64 ((ds.getD k dz).hi)] 36 (0, 0)), (b5, .cells #[.slice none 0 0] 25 (0, 0)), (b4, .cells #[.slice none 0 0] 25 (0, 0)), (b3, .cells #[.slice none 0 0] 25 (0, 0)), (b2, .cells #[.slice b m d] 25 (0, 0)), (b1, .cells #[.int .i64 (size), .int .i64 (start), .slice a n c] 24 (0, 0))]) rfl ?_)
        refine rl_end ?_
        refine fl_seq ?_
        refine rl_start ?_
        refine rl_det (met_none rfl) (fun h_ H_ => exd_move (v := .int .i64 (xs.getD k 0)) rfl) rfl ?_
        refine rl_det (met_none rfl) (fun h_ H_ => exd_fieldAddr tF36_0 rfl (a' := ⟨b11, 0, none⟩) rfl) rfl ?_
        refine rl_det (met_none rfl) (fun h_ H_ => exd_load_own H_ tA3 rfl (i := 0) rfl (v := .int .i64 ((ds.getD k dz).lo)) rfl) (tm' := _::_::_::_::_::_::_::_::_::_::_::_::_::_::_::_::_::_::_::_::_::_::_::_::_::_::_::_::_::_::_::_::_::_::_::_::_::_::_::_::_::_) rfl ?_
        refine rl_det (met_none rfl) (fun h_ H_ => exd_fieldAddr tF36_1 rfl (a' := ⟨b11, 1, none⟩) rfl) rfl ?_
        refine rl_det (met_none rfl) (fun h_ H_ => exd_load_own H_ tA3 rfl (i := 0) rfl (v := .int .i64 ((ds.getD k dz).hi)) rfl) rfl ?_
        refine rl_calld (met_none rfl) (first := []) (cap := []) rfl rfl fC70 (fun h_ H_ => c70 md _ (xs.getD k 0) ((ds.getD k dz).lo) ((ds.getD k dz).hi)) (tm' := _::_::_::_::_::_::_::_::_::_::_::_::_::_::_::_::_::_::_::_::_::_::_::_::_::_::_::_::_::_::_::_::_::_::_::_::_::_::_::_::_::_::_::_::_) rfl ?_
        refine rl_det (met_none rfl) (fun h_ H_ => exd_not rfl) rfl ?_
        refine rl_end ?_
        by_cases cc12 : (ds.getD k dz).lo ≤ xs.getD k 0 ∧ xs.getD k 0 ≤ (ds.getD k dz).hi
        · refine fl_else rfl (not_f (decide_eq_true cc12)) ?_
          refine fl_skip ?_
          refine fl_inBlock ?_
          refine rl_start ?_
          refine rl_det (met_none rfl) (fun h_ H_ => exd_add rfl rfl (n := ((k + 1 : Nat) : Int)) (wr (by omega))) rfl ?_
          refine rl_det (met_none rfl) (fun h_ H_ => exd_move (v := .int .i64 (((k + 1 : Nat) : Int))) rfl) (tm' := _::_::_::_::_::_::_::_::_::_::_::_::_::_::_::_::_::_::_::_::_::_::_::_::_::_::_::_::_) rfl ?_
          refine rl_end ?_
          exact fun h_ H_ => IH9 _ _ (by omega) h_ ⟨k + 1, rfl, (y_of rfl), (by omega), (weather_step hs ‹_›), H_.drop⟩
        · refine fl_then rfl (not_t (decide_eq_false cc12)) ?_
          refine fl_seq ?_
          refine rl_start ?_
          refine rl_store (met_none rfl) tS25 rfl (v := .slice none 0 0) rfl (i := 3) rfl rfl rfl (Nat.le_of_ble_eq_true rfl) (cs2 := [.slice none 0 0]) rfl (rl_own (L' := [(b11, .cells #[.int .i64 ((ds.getD k dz).lo), .int .i64 ((ds.getD k dz).hi)] 36 (0, 0)), (b5, .cells #[.slice none 0 0] 25 (0, 0)), (b4, .cells #[.slice none 0 0] 25 (0, 0)), (b3, .cells #[.slice none 0 0] 25 (0, 0)), (b2, .cells #[.slice b m d] 25 (0, 0)), (b1, .cells #[.int .i64 (size), .int .i64 (start), .slice a n c] 24 (0, 0))]) rfl ?_)
          refine rl_store (met_none rfl) tS25 rfl (v := .slice none 0 0) rfl (i := 2) rfl rfl rfl (Nat.le_of_ble_eq_true rfl) (cs2 := [.slice none 0 0]) rfl (rl_own (L' := [(b11, .cells #[.int .i64 ((ds.getD k dz).lo), .int .i64 ((ds.getD k dz).hi)] 36 (0, 0)), (b5, .cells #[.slice none 0 0] 25 (0, 0)), (b4, .cells #[.slice none 0 0] 25 (0, 0)), (b3, .cells #[.slice none 0 0] 25 (0, 0)), (b2, .cells #[.slice b m d] 25 (0, 0)), (b1, .cells #[.int .i64 (size), .int .i64 (start), .slice a n c] 24 (0, 0))]) rfl ?_)
          refine rl_store (met_none rfl) tS25 rfl (v := .slice none 0 0) rfl (i := 1) rfl rfl rfl (Nat.le_of_ble_eq_true rfl) (cs2 := [.slice none 0 0]) rfl (rl_own (L' := [(b11, .cells #[.int .i64 ((ds.getD k dz).lo), .int .i64 ((ds.getD k dz).hi)] 36 (0, 0)), (b5, .cells #[.slice none 0 0] 25 (0, 0)), (b4, .cells #[.slice none 0 0] 25 (0, 0)), (b3, .cells #[.slice none 0 0] 25 (0, 0)), (b2, .cells #[.slice b m d] 25 (0, 0)), (b1, .cells #[.int .i64 (size), .int .i64 (start), .slice a n c] 24 (0, 0))]) rfl ?_)
          refine rl_det (met_none rfl) (fun h_ H_ => exd_assign (v := .int .i64 1) rfl) rfl ?_
          refine rl_end ?_
          refine fl_ret Try.func34 rfl (vs := [.slice none 0 0, .slice none 0 0, .slice none 0 0, .int .i64 1]) (fun h_ H_ => ⟨.slice none 0 0, _, rfl, (wpS_bind (wpS_pure (wpS_loadVar1 tA25 (H_.ocell (i := 3) rfl (v := .slice none 0 0) rfl) ⟨rfl, rfl⟩))), ⟨.slice none 0 0, _, rfl, (wpS_bind (wpS_pure (wpS_loadVar1 tA25 (H_.ocell (i := 2) rfl (v := .slice none 0 0) rfl) ⟨rfl, rfl⟩))), ⟨.slice none 0 0, _, rfl, (wpS_bind (wpS_pure (wpS_loadVar1 tA25 (H_.ocell (i := 1) rfl (v := .slice none 0 0) rfl) ⟨rfl, rfl⟩))), ⟨.int .i64 1, _, rfl, rfl, rfl⟩⟩⟩⟩) (v := .tuple #[.slice none 0 0, .slice none 0 0, .slice none 0 0, .int .i64 1]) rfl ?_
          have hOk : Ok size start ds := chk_zero.1 (by omega)
          have hX : ¬ Weather ds xs := fun e => by first | (have := e.1; omega) | (have := e.2 k (by omega); omega)
          exact fun h_ H_ => K _ _ ⟨.slice none 0 0, .slice none 0 0, .slice none 0 0, [], [], [], by rw [askd_arg hOk (decide_eq_false hX)], fun e => absurd e.2 hX, fun _ => ⟨rfl, rfl, rfl, rfl, rfl, rfl⟩, (H_.sub (List.nil_sublist _)).new⟩
      · refine fl_else rfl (decide_eq_false cc10) ?_
        refine fl_exit rfl ?_
        refine fl_seq ?_
        refine fl_seq ?_
        refine rl_start ?_
        refine rl_det (met_none rfl) (fun h_ H_ => exd_loadN_own H_ tA24 tS24 rfl (i := 4) rfl (vs := [.int .i64 (size), .int .i64 (start), .slice a n c]) rfl rfl) rfl ?_
        refine rl_det (met_none rfl) (fun h_ H_ => exd_makeFunc (a := []) (b := [.pointer (some ⟨b2, 0, none⟩)]) rfl rfl) (tm' := [_,_,_,_,_,_,_,_,_,_,_,_,_,_,_,_,_,_,_,_,_,_,_,_,_,_,_,_,_,_,_,_,_,_,_,_,_,_,_,_,_,_,_,_,_,_,_,_,_,_,_,_,_,_,_,_,_,_,_,_,_,_,_,_,_,_,_,_,_]) rfl ?_
        refine rl_call (met_none rfl) (first := []) (cap := []) rfl rfl fC72 (R := fun v_ h_ => ∃ b13 : Nat, ∃ b14 : Nat, v_ = .func (.func 95) #[] #[.pointer (some ⟨b13, 0, none⟩), .pointer (some ⟨b14, 0, none⟩)] ∧ St h [] p h_ ([(b14, .cells #[.func (.func 73) #[] #[.pointer (some ⟨b2, 0, none⟩)]] 77 (0, 0)), (b13, .cells #[.int .i64 (size), .int .i64 (start), .slice a n c] 24 (0, 0)), (b5, .cells #[.slice none 0 0] 25 (0, 0)), (b4, .cells #[.slice none 0 0] 25 (0, 0)), (b3, .cells #[.slice none 0 0] 25 (0, 0)), (b2, .cells #[.slice b m d] 25 (0, 0)), (b1, .cells #[.int .i64 (size), .int .i64 (start), .slice a n c] 24 (0, 0))])) (fun h_ H_ => (c72 md _ (size) (start) _ _ _ (.func (.func 73) #[] #[.pointer (some ⟨b2, 0, none⟩)]) rfl).mono fun v_ h2_ ⟨b13, b14, e_, N_⟩ => ⟨b13, b14, e_, H_.callN N_⟩) fun v_ => ?_
        refine rl_ex fun b13 => rl_ex fun b14 => rl_and fun ev_ => ?_
        have ev_ := ev_.symm; subst ev_
        refine rl_end ?_
        refine fl_block ?_
        refine rs_last 0 rfl (L' := [(b13, .cells #[.int .i64 (size), .int .i64 (start), .slice a n c] 24 (0, 0)), (b5, .cells #[.slice none 0 0] 25 (0, 0)), (b4, .cells #[.slice none 0 0] 25 (0, 0)), (b3, .cells #[.slice none 0 0] 25 (0, 0)), (b2, .cells #[.slice b m d] 25 (0, 0)), (b1, .cells #[.int .i64 (size), .int .i64 (start), .slice a n c] 24 (0, 0))]) rfl fun p15 le16 hb17 => ?_
        refine rs_last 0 rfl (L' := [(b5, .cells #[.slice none 0 0] 25 (0, 0)), (b4, .cells #[.slice none 0 0] 25 (0, 0)), (b3, .cells #[.slice none 0 0] 25 (0, 0)), (b2, .cells #[.slice b m d] 25 (0, 0)), (b1, .cells #[.int .i64 (size), .int .i64 (start), .slice a n c] 24 (0, 0))]) rfl fun p18 le19 hb20 => ?_
        refine rs_last 3 rfl (L' := [(b5, .cells #[.slice none 0 0] 25 (0, 0)), (b4, .cells #[.slice none 0 0] 25 (0, 0)), (b3, .cells #[.slice none 0 0] 25 (0, 0)), (b1, .cells #[.int .i64 (size), .int .i64 (start), .slice a n c] 24 (0, 0))]) rfl fun p21 le22 hb23 => ?_
        have hOk : Ok size start ds := chk_zero.1 (by omega)
        have hL := hOk.lok
        have hX : Weather ds xs := ⟨by omega, fun i hi => hs i (by omega)⟩
        have hmin : min start size = start := by have := hOk.2.2.2.1; omega
        have hb0 := hL.1; have hb1 := hL.2.1; have hb2 := hL.2.2.1
        refine fl_range (R := fun r_ l_ lp_ _ h_ => ∃ X_, ((∃ w1 : Value, ∃ w2 : Value, ∃ w3 : Value, ∃ X1 : Pcs, ∃ X2 : Pcs, ∃ X3 : Pcs, X_ = ([(l_, .loop lp_), (r_, .deferred (some [])), (b5, .cells #[w3] 25 (0, 0)), (b4, .cells #[w2] 25 (0, 0)), (b3, .cells #[w1] 25 (0, 0)), (b1, .cells #[.int .i64 (size), .int .i64 (start), .slice a n c] 24 (0, 0))] : Pcs) ++ (X1 ++ (X2 ++ (X3 ++ []))) ∧ (OwnS 3 1 w1 (ns (levs size (min start size) (wantOf ds) (listOf xs)) n) X1) ∧ (OwnS 3 1 w2 (ns (lack size (min start size) (wantOf ds) (listOf xs)) n) X2) ∧ (OwnS 3 1 w3 (ns (ovr size (min start size) (wantOf ds) (listOf xs)) n) X3)) ∨ (False)) ∧ St h [] p21 h_ X_) ?_ ?_
        · intro r_ l_ lp_ h_ hlp_ s_
          show CallV _ md (.func (.func 95) ([] : List Value).toArray ([.pointer (some ⟨b13, 0, none⟩), .pointer (some ⟨b14, 0, none⟩)] : List Value).toArray) _ h_ _
          refine callv_of fC95 ?_
          refine c95 md _ _ _ _ _ s_ (.func (.yield l_) #[] #[]) (.func (.func 73) #[] #[.pointer (some ⟨b2, 0, none⟩)]) _ _ _ _ _ _ _ _ (((D.mono le16).mono le19).mono le22) (by omega) (listOf xs) (le22 _ _ hb20) (le22 _ _ (le19 _ _ hb17)) ⟨by omega, by omega, by omega⟩ (fun i hi => by have := hL.2.2.2.2.2 i (by omega); omega) (fun i hi => by have := hL.2.2.2.2.2 i (by omega); have := hX.2 i (by omega); unfold listOf; omega) (fun h_ i_ hp_ hi_ => callv_of fC73 (c73 md _ _ hp_ _ _ _ _ _ (((W.mono le16).mono le19).mono le22) hb23 i_ (by omega))) (fun rd_ X_ => ∃ w1 : Value, ∃ w2 : Value, ∃ w3 : Value, ∃ X1 : Pcs, ∃ X2 : Pcs, ∃ X3 : Pcs, X_ = ([(l_, .loop lp_), (r_, .deferred (some [])), (b5, .cells #[w3] 25 (0, 0)), (b4, .cells #[w2] 25 (0, 0)), (b3, .cells #[w1] 25 (0, 0)), (b1, .cells #[.int .i64 (size), .int .i64 (start), .slice a n c] 24 (0, 0))] : Pcs) ++ (X1 ++ (X2 ++ (X3 ++ []))) ∧ (OwnS 3 1 w1 (ns (levs size (min start size) (wantOf ds) (listOf xs)) rd_) X1) ∧ (OwnS 3 1 w2 (ns (lack size (min start size) (wantOf ds) (listOf xs)) rd_) X2) ∧ (OwnS 3 1 w3 (ns (ovr size (min start size) (wantOf ds) (listOf xs)) rd_) X3)) (fun X_ => False) ⟨_, _, _, [], [], [], by simp, OwnS.empty _ _, OwnS.empty _ _, OwnS.empty _ _⟩ ?_
          intro rd_ h_ Z_ X_ hi_ hI_ s_
          obtain ⟨w1, w2, w3, X1, X2, X3, rfl, o1, o2, o3⟩ := hI_
          refine callv_round (Φ := fun h_ => St h [] p21 h_ (([(l_, .loop lp_), (r_, .deferred (some [])), (b5, .cells #[w3] 25 (0, 0)), (b4, .cells #[w2] 25 (0, 0)), (b3, .cells #[w1] 25 (0, 0)), (b1, .cells #[.int .i64 (size), .int .i64 (start), .slice a n c] 24 (0, 0))] : Pcs) ++ (X1 ++ (X2 ++ (X3 ++ (Z_ ++ [])))))) (s_.rot.at (i := 0) rfl) hlp_ rfl (tm' := [.agg #[.int .i64 (size), .int .i64 (start), .slice a n c], .slice b m d, .pointer (some ⟨b1, 0, none⟩), .pointer (some ⟨b2, 0, none⟩), .pointer (some ⟨b3, 0, none⟩), .pointer (some ⟨b4, 0, none⟩), .pointer (some ⟨b5, 0, none⟩), (y8 7), .int .i64 (chk (size) (start) ds), (y8 9), (y8 10), (y8 11), undef, undef, .agg #[.int .i64 (size), .int .i64 (start), .slice a n c], .int .i64 (chk (size) (start) ds), .int .i64 (chk (size) (start) ds), .bool (decide (chk (size) (start) ds ≠ 0)), undef, .slice b m d, .int .i64 (((m : Nat) : Int)), .pointer (some ⟨b1, 2, none⟩), .slice a n c, .int .i64 (((n : Nat) : Int)), .bool (decide (((m : Nat) : Int) ≠ ((n : Nat) : Int))), .slice b m d, .int .i64 (((m : Nat) : Int)), .int .i64 (((k : Nat) : Int)), .bool (decide (((k : Nat) : Int) < ((m : Nat) : Int))), (y8 29), (y8 30), (y8 31), (y8 32), (y8 33), (y8 34), (y8 35), (y8 36), (y8 37), (y8 38), (y8 39), (y8 40), (y8 41), (y8 42), (y8 43), (y8 44), (y8 45), .agg #[.int .i64 (size), .int .i64 (start), .slice a n c], .func (.func 73) #[] #[.pointer (some ⟨b2, 0, none⟩)], .func (.func 95) #[] #[.pointer (some ⟨b13, 0, none⟩), .pointer (some ⟨b14, 0, none⟩)], .int .i64 (((rd_ : Nat) : Int)), .agg #[.int .i64 (lev size (min start size) (wantOf ds) (listOf xs) (rd_ + 1)), .int .i64 (lack size (min start size) (wantOf ds) (listOf xs) rd_), .int .i64 (ovr size (min start size) (wantOf ds) (listOf xs) rd_)], undef, undef, undef, undef, undef, undef, undef, undef, undef, undef, undef, undef, undef, undef, undef, undef, undef, undef]) rfl ?_ (by simpa using s_.rot)
          intro c₁ cs₁ Stop₁ K₁
          refine rl_start ?_
          refine rl_alloc (met_none rfl) tZ72 rfl fun b24 => rl_own (L' := ([(b24, .cells #[.int .i64 0, .int .i64 0, .int .i64 0] 72 (0, 0)), (l_, .loop lp_), (r_, .deferred (some [])), (b5, .cells #[w3] 25 (0, 0)), (b4, .cells #[w2] 25 (0, 0)), (b3, .cells #[w1] 25 (0, 0)), (b1, .cells #[.int .i64 (size), .int .i64 (start), .slice a n c] 24 (0, 0))] : Pcs) ++ (X1 ++ (X2 ++ (X3 ++ (Z_ ++ []))))) rfl ?_
          refine rl_store (met_none rfl) tS72 rfl (v := .agg #[.int .i64 (lev size (min start size) (wantOf ds) (listOf xs) (rd_ + 1)), .int .i64 (lack size (min start size) (wantOf ds) (listOf xs) rd_), .int .i64 (ovr size (min start size) (wantOf ds) (listOf xs) rd_)]) rfl (i := 0) rfl rfl rfl (Nat.le_of_ble_eq_true rfl) (cs2 := [.int .i64 (lev size (min start size) (wantOf ds) (listOf xs) (rd_ + 1)), .int .i64 (lack size (min start size) (wantOf ds) (listOf xs) rd_), .int .i64 (ovr size (min start size) (wantOf ds) (listOf xs) rd_)]) rfl (rl_own (L' := ([(b24, .cells #[.int .i64 (lev size (min start size) (wantOf ds) (listOf xs) (rd_ + 1)), .int .i64 (lack size (min start size) (wantOf ds) (listOf xs) rd_), .int .i64 (ovr size (min start size) (wantOf ds) (listOf xs) rd_)] 72 (0, 0)), (l_, .loop lp_), (r_, .deferred (some [])), (b5, .cells #[w3] 25 (0, 0)), (b4, .cells #[w2] 25 (0, 0)), (b3, .cells #[w1] 25 (0, 0)), (b1, .cells #[.int .i64 (size), .int .i64 (start), .slice a n c] 24 (0, 0))] : Pcs) ++ (X1 ++ (X2 ++ (X3 ++ (Z_ ++ []))))) rfl ?_)
          refine rl_end ?_
          refine fl_begin (i := 1) rfl (by rw [hlp_]; rfl) ?_
          refine rs_own (L' := ([(b24, .cells #[.int .i64 (lev size (min start size) (wantOf ds) (listOf xs) (rd_ + 1)), .int .i64 (lack size (min start size) (wantOf ds) (listOf xs) rd_), .int .i64 (ovr size (min start size) (wantOf ds) (listOf xs) rd_)] 72 (0, 0)), (l_, .loop { lp_ with state := .busy }), (r_, .deferred (some [])), (b5, .cells #[w3] 25 (0, 0)), (b4, .cells #[w2] 25 (0, 0)), (b3, .cells #[w1] 25 (0, 0)), (b1, .cells #[.int .i64 (size), .int .i64 (start), .slice a n c] 24 (0, 0))] : Pcs) ++ (X1 ++ (X2 ++ (X3 ++ (Z_ ++ []))))) rfl ?_
          refine fl_block ?_
          refine rs_as (fl_mixed (C := []) (A := ([(b24, .cells #[.int .i64 (lev size (min start size) (wantOf ds) (listOf xs) (rd_ + 1)), .int .i64 (lack size (min start size) (wantOf ds) (listOf xs) rd_), .int .i64 (ovr size (min start size) (wantOf ds) (listOf xs) rd_)] 72 (0, 0)), (l_, .loop { lp_ with state := .busy }), (r_, .deferred (some [])), (b5, .cells #[w3] 25 (0, 0)), (b4, .cells #[w2] 25 (0, 0)), (b3, .cells #[w1] 25 (0, 0)), (b1, .cells #[.int .i64 (size), .int .i64 (start), .slice a n c] 24 (0, 0))] : Pcs)) 14 [[], [], [1], [1, 2], [0, 1, 2, 3], [], [], [6], [6, 7], [0, 1, 2, 3, 4, 5, 6, 7, 8], [], [], [11], [11, 12], [5, 6, 7, 8, 9, 10, 11, 12, 13], [10, 11, 12, 13, 14], [], []] [14, 15, 16, 17] [16, 17, 4, 9, 13] [0, 1, 2, 5, 6, 7, 10, 11, 12] (fun i_ => match i_ with | 14 => X1 | 15 => X2 | 16 => X3 | 17 => Z_ | _ => []) (fun i_ => match i_ with | 4 => [14, 3] | 9 => [15, 8] | _ => []) (fun i_ v_ x_ => match i_ with | 0 => v_ = w1 ∧ x_ = [] | 1 => v_ = .pointer (some ⟨b24, 0, none⟩) ∧ x_ = [] | 2 => v_ = .int .i64 (lev size (min start size) (wantOf ds) (listOf xs) (rd_ + 1)) ∧ x_ = [] | 3 => OwnS 3 1 v_ [[.int .i64 (lev size (min start size) (wantOf ds) (listOf xs) (rd_ + 1))]] x_ | 4 => OwnS 3 1 v_ (ns (levs size (min start size) (wantOf ds) (listOf xs)) rd_ ++ [[.int .i64 (lev size (min start size) (wantOf ds) (listOf xs) (rd_ + 1))]]) x_ | 5 => v_ = w2 ∧ x_ = [] | 6 => v_ = .pointer (some ⟨b24, 1, none⟩) ∧ x_ = [] | 7 => v_ = .int .i64 (lack size (min start size) (wantOf ds) (listOf xs) rd_) ∧ x_ = [] | 8 => OwnS 3 1 v_ [[.int .i64 (lack size (min start size) (wantOf ds) (listOf xs) rd_)]] x_ | 9 => OwnS 3 1 v_ (ns (lack size (min start size) (wantOf ds) (listOf xs)) rd_ ++ [[.int .i64 (lack size (min start size) (wantOf ds) (listOf xs) rd_)]]) x_ | 10 => v_ = w3 ∧ x_ = [] | 11 => v_ = .pointer (some ⟨b24, 2, none⟩) ∧ x_ = [] | 12 => v_ = .int .i64 (ovr size (min start size) (wantOf ds) (listOf xs) rd_) ∧ x_ = [] | 13 => OwnS 3 1 v_ [[.int .i64 (ovr size (min start size) (wantOf ds) (listOf xs) rd_)]] x_ | _ => True) (fun val25 => [.agg #[.int .i64 (size), .int .i64 (start), .slice a n c], .slice b m d, .pointer (some ⟨b1, 0, none⟩), .pointer (some ⟨b2, 0, none⟩), .pointer (some ⟨b3, 0, none⟩), .pointer (some ⟨b4, 0, none⟩), .pointer (some ⟨b5, 0, none⟩), (y8 7), .int .i64 (chk (size) (start) ds), (y8 9), (y8 10), (y8 11), undef, .pointer (some ⟨b24, 0, none⟩), .agg #[.int .i64 (size), .int .i64 (start), .slice a n c], .int .i64 (chk (size) (start) ds), .int .i64 (chk (size) (start) ds), .bool (decide (chk (size) (start) ds ≠ 0)), undef, .slice b m d, .int .i64 (((m : Nat) : Int)), .pointer (some ⟨b1, 2, none⟩), .slice a n c, .int .i64 (((n : Nat) : Int)), .bool (decide (((m : Nat) : Int) ≠ ((n : Nat) : Int))), .slice b m d, .int .i64 (((m : Nat) : Int)), .int .i64 (((k : Nat) : Int)), .bool (decide (((k : Nat) : Int) < ((m : Nat) : Int))), (y8 29), (y8 30), (y8 31), (y8 32), (y8 33), (y8 34), (y8 35), (y8 36), (y8 37), (y8 38), (y8 39), (y8 40), (y8 41), (y8 42), (y8 43), (y8 44), (y8 45), .agg #[.int .i64 (size), .int .i64 (start), .slice a n c], .func (.func 73) #[] #[.pointer (some ⟨b2, 0, none⟩)], .func (.func 95) #[] #[.pointer (some ⟨b13, 0, none⟩), .pointer (some ⟨b14, 0, none⟩)], .int .i64 (((rd_ : Nat) : Int)), .agg #[.int .i64 (lev size (min start size) (wantOf ds) (listOf xs) (rd_ + 1)), .int .i64 (lack size (min start size) (wantOf ds) (listOf xs) rd_), .int .i64 (ovr size (min start size) (wantOf ds) (listOf xs) rd_)], (val25 0), (val25 1), (val25 2), (val25 3), (val25 4), (val25 5), (val25 6), (val25 7), (val25 8), (val25 9), (val25 10), (val25 11), (val25 12), (val25 13), undef, undef, undef, undef]) mixed (by kernel_rfl) (Nat.le_of_ble_eq_true rfl) (by kernel_rfl) (by kernel_rfl) ⟨fun _ _ h => h.2, ⟨fun _ _ h => h.2, ⟨fun _ _ h => h.2, ⟨fun _ _ h => h.2, ⟨fun _ _ h => h.2, ⟨fun _ _ h => h.2, ⟨fun _ _ h => h.2, ⟨fun _ _ h => h.2, ⟨fun _ _ h => h.2, trivial⟩⟩⟩⟩⟩⟩⟩⟩⟩ (fun _ => by kernel_rfl) (by kernel_rfl) ?_ ?_) (fun h_ H_ => St.swap (A := ([(b24, .cells #[.int .i64 (lev size (min start size) (wantOf ds) (listOf xs) (rd_ + 1)), .int .i64 (lack size (min start size) (wantOf ds) (listOf xs) rd_), .int .i64 (ovr size (min start size) (wantOf ds) (listOf xs) rd_)] 72 (0, 0)), (l_, .loop { lp_ with state := .busy }), (r_, .deferred (some [])), (b5, .cells #[w3] 25 (0, 0)), (b4, .cells #[w2] 25 (0, 0)), (b3, .cells #[w1] 25 (0, 0)), (b1, .cells #[.int .i64 (size), .int .i64 (start), .slice a n c] 24 (0, 0))] : Pcs)) (U := (X1 ++ (X2 ++ (X3 ++ (Z_ ++ []))))) H_)
          · refine mixes_cons rfl (opmix ?_) ?_
            · intro val25 pc26 hQ_ hX_
              refine ⟨[.agg #[.int .i64 (size), .int .i64 (start), .slice a n c], .slice b m d, .pointer (some ⟨b1, 0, none⟩), .pointer (some ⟨b2, 0, none⟩), .pointer (some ⟨b3, 0, none⟩), .pointer (some ⟨b4, 0, none⟩), .pointer (some ⟨b5, 0, none⟩), (y8 7), .int .i64 (chk (size) (start) ds), (y8 9), (y8 10), (y8 11), undef, .pointer (some ⟨b24, 0, none⟩), .agg #[.int .i64 (size), .int .i64 (start), .slice a n c], .int .i64 (chk (size) (start) ds), .int .i64 (chk (size) (start) ds), .bool (decide (chk (size) (start) ds ≠ 0)), undef, .slice b m d, .int .i64 (((m : Nat) : Int)), .pointer (some ⟨b1, 2, none⟩), .slice a n c, .int .i64 (((n : Nat) : Int)), .bool (decide (((m : Nat) : Int) ≠ ((n : Nat) : Int))), .slice b m d, .int .i64 (((m : Nat) : Int)), .int .i64 (((k : Nat) : Int)), .bool (decide (((k : Nat) : Int) < ((m : Nat) : Int))), (y8 29), (y8 30), (y8 31), (y8 32), (y8 33), (y8 34), (y8 35), (y8 36), (y8 37), (y8 38), (y8 39), (y8 40), (y8 41), (y8 42), (y8 43), (y8 44), (y8 45), .agg #[.int .i64 (size), .int .i64 (start), .slice a n c], .func (.func 73) #[] #[.pointer (some ⟨b2, 0, none⟩)], .func (.func 95) #[] #[.pointer (some ⟨b13, 0, none⟩), .pointer (some ⟨b14, 0, none⟩)], .int .i64 (((rd_ : Nat) : Int)), .agg #[.int .i64 (lev size (min start size) (wantOf ds) (listOf xs) (rd_ + 1)), .int .i64 (lack size (min start size) (wantOf ds) (listOf xs) rd_), .int .i64 (ovr size (min start size) (wantOf ds) (listOf xs) rd_)], (val25 0), (val25 1), (val25 2), (val25 3), (val25 4), (val25 5), (val25 6), (val25 7), (val25 8), (val25 9), (val25 10), (val25 11), (val25 12), (val25 13), undef, undef, undef, undef], [], rfl, rfl, ?_⟩
              exact mix_det (met_none rfl) (fun _ h_ H_ => exd_load_own H_ tA25 rfl (i := 5) rfl (v := w1) rfl) ⟨rfl, rfl⟩
            refine mixes_cons rfl (opmix ?_) ?_
            · intro val25 pc26 hQ_ hX_
              refine ⟨[.agg #[.int .i64 (size), .int .i64 (start), .slice a n c], .slice b m d, .pointer (some ⟨b1, 0, none⟩), .pointer (some ⟨b2, 0, none⟩), .pointer (some ⟨b3, 0, none⟩), .pointer (some ⟨b4, 0, none⟩), .pointer (some ⟨b5, 0, none⟩), (y8 7), .int .i64 (chk (size) (start) ds), (y8 9), (y8 10), (y8 11), undef, .pointer (some ⟨b24, 0, none⟩), .agg #[.int .i64 (size), .int .i64 (start), .slice a n c], .int .i64 (chk (size) (start) ds), .int .i64 (chk (size) (start) ds), .bool (decide (chk (size) (start) ds ≠ 0)), undef, .slice b m d, .int .i64 (((m : Nat) : Int)), .pointer (some ⟨b1, 2, none⟩), .slice a n c, .int .i64 (((n : Nat) : Int)), .bool (decide (((m : Nat) : Int) ≠ ((n : Nat) : Int))), .slice b m d, .int .i64 (((m : Nat) : Int)), .int .i64 (((k : Nat) : Int)), .bool (decide (((k : Nat) : Int) < ((m : Nat) : Int))), (y8 29), (y8 30), (y8 31), (y8 32), (y8 33), (y8 34), (y8 35), (y8 36), (y8 37), (y8 38), (y8 39), (y8 40), (y8 41), (y8 42), (y8 43), (y8 44), (y8 45), .agg #[.int .i64 (size), .int .i64 (start), .slice a n c], .func (.func 73) #[] #[.pointer (some ⟨b2, 0, none⟩)], .func (.func 95) #[] #[.pointer (some ⟨b13, 0, none⟩), .pointer (some ⟨b14, 0, none⟩)], .int .i64 (((rd_ : Nat) : Int)), .agg #[.int .i64 (lev size (min start size) (wantOf ds) (listOf xs) (rd_ + 1)), .int .i64 (lack size (min start size) (wantOf ds) (listOf xs) rd_), .int .i64 (ovr size (min start size) (wantOf ds) (listOf xs) rd_)], (val25 0), (val25 1), (val25 2), (val25 3), (val25 4), (val25 5), (val25 6), (val25 7), (val25 8), (val25 9), (val25 10), (val25 11), (val25 12), (val25 13), undef, undef, undef, undef], [], rfl, rfl, ?_⟩
              exact mix_det (met_none rfl) (fun _ h_ H_ => exd_fieldAddr tF72_0 rfl (a' := ⟨b24, 0, none⟩) rfl) ⟨rfl, rfl⟩
            refine mixes_cons rfl (opmix ?_) ?_
            · intro val25 pc26 hQ_ hX_
              have e1_ : val25 1 = .pointer (some ⟨b24, 0, none⟩) := (hQ_ 1 rfl).1
              refine ⟨[.agg #[.int .i64 (size), .int .i64 (start), .slice a n c], .slice b m d, .pointer (some ⟨b1, 0, none⟩), .pointer (some ⟨b2, 0, none⟩), .pointer (some ⟨b3, 0, none⟩), .pointer (some ⟨b4, 0, none⟩), .pointer (some ⟨b5, 0, none⟩), (y8 7), .int .i64 (chk (size) (start) ds), (y8 9), (y8 10), (y8 11), undef, .pointer (some ⟨b24, 0, none⟩), .agg #[.int .i64 (size), .int .i64 (start), .slice a n c], .int .i64 (chk (size) (start) ds), .int .i64 (chk (size) (start) ds), .bool (decide (chk (size) (start) ds ≠ 0)), undef, .slice b m d, .int .i64 (((m : Nat) : Int)), .pointer (some ⟨b1, 2, none⟩), .slice a n c, .int .i64 (((n : Nat) : Int)), .bool (decide (((m : Nat) : Int) ≠ ((n : Nat) : Int))), .slice b m d, .int .i64 (((m : Nat) : Int)), .int .i64 (((k : Nat) : Int)), .bool (decide (((k : Nat) : Int) < ((m : Nat) : Int))), (y8 29), (y8 30), (y8 31), (y8 32), (y8 33), (y8 34), (y8 35), (y8 36), (y8 37), (y8 38), (y8 39), (y8 40), (y8 41), (y8 42), (y8 43), (y8 44), (y8 45), .agg #[.int .i64 (size), .int .i64 (start), .slice a n c], .func (.func 73) #[] #[.pointer (some ⟨b2, 0, none⟩)], .func (.func 95) #[] #[.pointer (some ⟨b13, 0, none⟩), .pointer (some ⟨b14, 0, none⟩)], .int .i64 (((rd_ : Nat) : Int)), .agg #[.int .i64 (lev size (min start size) (wantOf ds) (listOf xs) (rd_ + 1)), .int .i64 (lack size (min start size) (wantOf ds) (listOf xs) rd_), .int .i64 (ovr size (min start size) (wantOf ds) (listOf xs) rd_)], (val25 0), .pointer (some ⟨b24, 0, none⟩), (val25 2), (val25 3), (val25 4), (val25 5), (val25 6), (val25 7), (val25 8), (val25 9), (val25 10), (val25 11), (val25 12), (val25 13), undef, undef, undef, undef], [], (by simp only [e1_]), rfl, ?_⟩
              exact mix_det (met_none rfl) (fun _ h_ H_ => exd_load_own H_ tA3 rfl (i := 0) rfl (v := .int .i64 (lev size (min start size) (wantOf ds) (listOf xs) (rd_ + 1))) rfl) ⟨rfl, rfl⟩
            refine mixes_cons rfl (opmix ?_) ?_
            · intro val25 pc26 hQ_ hX_
              have e2_ : val25 2 = .int .i64 (lev size (min start size) (wantOf ds) (listOf xs) (rd_ + 1)) := (hQ_ 2 rfl).1
              refine ⟨[.agg #[.int .i64 (size), .int .i64 (start), .slice a n c], .slice b m d, .pointer (some ⟨b1, 0, none⟩), .pointer (some ⟨b2, 0, none⟩), .pointer (some ⟨b3, 0, none⟩), .pointer (some ⟨b4, 0, none⟩), .pointer (some ⟨b5, 0, none⟩), (y8 7), .int .i64 (chk (size) (start) ds), (y8 9), (y8 10), (y8 11), undef, .pointer (some ⟨b24, 0, none⟩), .agg #[.int .i64 (size), .int .i64 (start), .slice a n c], .int .i64 (chk (size) (start) ds), .int .i64 (chk (size) (start) ds), .bool (decide (chk (size) (start) ds ≠ 0)), undef, .slice b m d, .int .i64 (((m : Nat) : Int)), .pointer (some ⟨b1, 2, none⟩), .slice a n c, .int .i64 (((n : Nat) : Int)), .bool (decide (((m : Nat) : Int) ≠ ((n : Nat) : Int))), .slice b m d, .int .i64 (((m : Nat) : Int)), .int .i64 (((k : Nat) : Int)), .bool (decide (((k : Nat) : Int) < ((m : Nat) : Int))), (y8 29), (y8 30), (y8 31), (y8 32), (y8 33), (y8 34), (y8 35), (y8 36), (y8 37), (y8 38), (y8 39), (y8 40), (y8 41), (y8 42), (y8 43), (y8 44), (y8 45), .agg #[.int .i64 (size), .int .i64 (start), .slice a n c], .func (.func 73) #[] #[.pointer (some ⟨b2, 0, none⟩)], .func (.func 95) #[] #[.pointer (some ⟨b13, 0, none⟩), .pointer (some ⟨b14, 0, none⟩)], .int .i64 (((rd_ : Nat) : Int)), .agg #[.int .i64 (lev size (min start size) (wantOf ds) (listOf xs) (rd_ + 1)), .int .i64 (lack size (min start size) (wantOf ds) (listOf xs) rd_), .int .i64 (ovr size (min start size) (wantOf ds) (listOf xs) rd_)], (val25 0), (val25 1), .int .i64 (lev size (min start size) (wantOf ds) (listOf xs) (rd_ + 1)), (val25 3), (val25 4), (val25 5), (val25 6), (val25 7), (val25 8), (val25 9), (val25 10), (val25 11), (val25 12), (val25 13), undef, undef, undef, undef], [], (by simp only [e2_]), rfl, ?_⟩
              exact mix_buildO (met_none rfl) Try.underlying25 tS3 tZ3 (Nat.le_of_ble_eq_true rfl) (vs := [(0, .int .i64 (lev size (min start size) (wantOf ds) (listOf xs) (rd_ + 1)))]) rfl rfl (es := [[.int .i64 (lev size (min start size) (wantOf ds) (listOf xs) (rd_ + 1))]]) rfl rfl rfl fun _ _ o_ => o_
            refine mixes_cons rfl (opmix ?_) ?_
            · intro val25 pc26 hQ_ hX_
              have e0_ : val25 0 = w1 := (hQ_ 0 rfl).1
              have q3_ : OwnS 3 1 (val25 3) [[.int .i64 (lev size (min start size) (wantOf ds) (listOf xs) (rd_ + 1))]] (pc26 3) := hQ_ 3 rfl
              have x14_ : pc26 14 = X1 := hX_ 14 (by decide)
              refine ⟨[.agg #[.int .i64 (size), .int .i64 (start), .slice a n c], .slice b m d, .pointer (some ⟨b1, 0, none⟩), .pointer (some ⟨b2, 0, none⟩), .pointer (some ⟨b3, 0, none⟩), .pointer (some ⟨b4, 0, none⟩), .pointer (some ⟨b5, 0, none⟩), (y8 7), .int .i64 (chk (size) (start) ds), (y8 9), (y8 10), (y8 11), undef, .pointer (some ⟨b24, 0, none⟩), .agg #[.int .i64 (size), .int .i64 (start), .slice a n c], .int .i64 (chk (size) (start) ds), .int .i64 (chk (size) (start) ds), .bool (decide (chk (size) (start) ds ≠ 0)), undef, .slice b m d, .int .i64 (((m : Nat) : Int)), .pointer (some ⟨b1, 2, none⟩), .slice a n c, .int .i64 (((n : Nat) : Int)), .bool (decide (((m : Nat) : Int) ≠ ((n : Nat) : Int))), .slice b m d, .int .i64 (((m : Nat) : Int)), .int .i64 (((k : Nat) : Int)), .bool (decide (((k : Nat) : Int) < ((m : Nat) : Int))), (y8 29), (y8 30), (y8 31), (y8 32), (y8 33), (y8 34), (y8 35), (y8 36), (y8 37), (y8 38), (y8 39), (y8 40), (y8 41), (y8 42), (y8 43), (y8 44), (y8 45), .agg #[.int .i64 (size), .int .i64 (start), .slice a n c], .func (.func 73) #[] #[.pointer (some ⟨b2, 0, none⟩)], .func (.func 95) #[] #[.pointer (some ⟨b13, 0, none⟩), .pointer (some ⟨b14, 0, none⟩)], .int .i64 (((rd_ : Nat) : Int)), .agg #[.int .i64 (lev size (min start size) (wantOf ds) (listOf xs) (rd_ + 1)), .int .i64 (lack size (min start size) (wantOf ds) (listOf xs) rd_), .int .i64 (ovr size (min start size) (wantOf ds) (listOf xs) rd_)], w1, (val25 1), (val25 2), (val25 3), (val25 4), (val25 5), (val25 6), (val25 7), (val25 8), (val25 9), (val25 10), (val25 11), (val25 12), (val25 13), undef, undef, undef, undef], (X1 ++ ((pc26 3) ++ [])), (by simp only [e0_]), (by rw [← x14_]; rfl), ?_⟩
              exact mix_append (met_none rfl) Try.underlying25 tS3 tZ3 rfl tB3 Try.underlying25 rfl rfl o1 q3_ (ones_of rfl) (by rw [ns_length]; simp only [List.length_cons, List.length_nil]; omega) (by decide) fun _ _ o_ => o_
            refine mixes_cons rfl (opmix ?_) ?_
            · intro val25 pc26 hQ_ hX_
              refine ⟨[.agg #[.int .i64 (size), .int .i64 (start), .slice a n c], .slice b m d, .pointer (some ⟨b1, 0, none⟩), .pointer (some ⟨b2, 0, none⟩), .pointer (some ⟨b3, 0, none⟩), .pointer (some ⟨b4, 0, none⟩), .pointer (some ⟨b5, 0, none⟩), (y8 7), .int .i64 (chk (size) (start) ds), (y8 9), (y8 10), (y8 11), undef, .pointer (some ⟨b24, 0, none⟩), .agg #[.int .i64 (size), .int .i64 (start), .slice a n c], .int .i64 (chk (size) (start) ds), .int .i64 (chk (size) (start) ds), .bool (decide (chk (size) (start) ds ≠ 0)), undef, .slice b m d, .int .i64 (((m : Nat) : Int)), .pointer (some ⟨b1, 2, none⟩), .slice a n c, .int .i64 (((n : Nat) : Int)), .bool (decide (((m : Nat) : Int) ≠ ((n : Nat) : Int))), .slice b m d, .int .i64 (((m : Nat) : Int)), .int .i64 (((k : Nat) : Int)), .bool (decide (((k : Nat) : Int) < ((m : Nat) : Int))), (y8 29), (y8 30), (y8 31), (y8 32), (y8 33), (y8 34), (y8 35), (y8 36), (y8 37), (y8 38), (y8 39), (y8 40), (y8 41), (y8 42), (y8 43), (y8 44), (y8 45), .agg #[.int .i64 (size), .int .i64 (start), .slice a n c], .func (.func 73) #[] #[.pointer (some ⟨b2, 0, none⟩)], .func (.func 95) #[] #[.pointer (some ⟨b13, 0, none⟩), .pointer (some ⟨b14, 0, none⟩)], .int .i64 (((rd_ : Nat) : Int)), .agg #[.int .i64 (lev size (min start size) (wantOf ds) (listOf xs) (rd_ + 1)), .int .i64 (lack size (min start size) (wantOf ds) (listOf xs) rd_), .int .i64 (ovr size (min start size) (wantOf ds) (listOf xs) rd_)], (val25 0), (val25 1), (val25 2), (val25 3), (val25 4), (val25 5), (val25 6), (val25 7), (val25 8), (val25 9), (val25 10), (val25 11), (val25 12), (val25 13), undef, undef, undef, undef], [], rfl, rfl, ?_⟩
              exact mix_det (met_none rfl) (fun _ h_ H_ => exd_load_own H_ tA25 rfl (i := 4) rfl (v := w2) rfl) ⟨rfl, rfl⟩
            refine mixes_cons rfl (opmix ?_) ?_
            · intro val25 pc26 hQ_ hX_
              refine ⟨[.agg #[.int .i64 (size), .int .i64 (start), .slice a n c], .slice b m d, .pointer (some ⟨b1, 0, none⟩), .pointer (some ⟨b2, 0, none⟩), .pointer (some ⟨b3, 0, none⟩), .pointer (some ⟨b4, 0, none⟩), .pointer (some ⟨b5, 0, none⟩), (y8 7), .int .i64 (chk (size) (start) ds), (y8 9), (y8 10), (y8 11), undef, .pointer (some ⟨b24, 0, none⟩), .agg #[.int .i64 (size), .int .i64 (start), .slice a n c], .int .i64 (chk (size) (start) ds), .int .i64 (chk (size) (start) ds), .bool (decide (chk (size) (start) ds ≠ 0)), undef, .slice b m d, .int .i64 (((m : Nat) : Int)), .pointer (some ⟨b1, 2, none⟩), .slice a n c, .int .i64 (((n : Nat) : Int)), .bool (decide (((m : Nat) : Int) ≠ ((n : Nat) : Int))), .slice b m d, .int .i64 (((m : Nat) : Int)), .int .i64 (((k : Nat) : Int)), .bool (decide (((k : Nat) : Int) < ((m : Nat) : Int))), (y8 29), (y8 30), (y8 31), (y8 32), (y8 33), (y8 34), (y8 35), (y8 36), (y8 37), (y8 38), (y8 39), (y8 40), (y8 41), (y8 42), (y8 43), (y8 44), (y8 45), .agg #[.int .i64 (size), .int .i64 (start), .slice a n c], .func (.func 73) #[] #[.pointer (some ⟨b2, 0, none⟩)], .func (.func 95) #[] #[.pointer (some ⟨b13, 0, none⟩), .pointer (some ⟨b14, 0, none⟩)], .int .i64 (((rd_ : Nat) : Int)), .agg #[.int .i64 (lev size (min start size) (wantOf ds) (listOf xs) (rd_ + 1)), .int .i64 (lack size (min start size) (wantOf ds) (listOf xs) rd_), .int .i64 (ovr size (min start size) (wantOf ds) (listOf xs) rd_)], (val25 0), (val25 1), (val25 2), (val25 3), (val25 4), (val25 5), (val25 6), (val25 7), (val25 8), (val25 9), (val25 10), (val25 11), (val25 12), (val25 13), undef, undef, undef, undef], [], rfl, rfl, ?_⟩
              exact mix_det (met_none rfl) (fun _ h_ H_ => exd_fieldAddr tF72_1 rfl (a' := ⟨b24, 1, none⟩) rfl) ⟨rfl, rfl⟩
            refine mixes_cons rfl (opmix ?_) ?_
            · intro val25 pc26 hQ_ hX_
              have e6_ : val25 6 = .pointer (some ⟨b24, 1, none⟩) := (hQ_ 6 rfl).1
              refine ⟨[.agg #[.int .i64 (size), .int .i64 (start), .slice a n c], .slice b m d, .pointer (some ⟨b1, 0, none⟩), .pointer (some ⟨b2, 0, none⟩), .pointer (some ⟨b3, 0, none⟩), .pointer (some ⟨b4, 0, none⟩), .pointer (some ⟨b5, 0, none⟩), (y8 7), .int .i64 (chk (size) (start) ds), (y8 9), (y8 10), (y8 11), undef, .pointer (some ⟨b24, 0, none⟩), .agg #[.int .i64 (size), .int .i64 (start), .slice a n c], .int .i64 (chk (size) (start) ds), .int .i64 (chk (size) (start) ds), .bool (decide (chk (size) (start) ds ≠ 0)), undef, .slice b m d, .int .i64 (((m : Nat) : Int)), .pointer (some ⟨b1, 2, none⟩), .slice a n c, .int .i64 (((n : Nat) : Int)), .bool (decide (((m : Nat) : Int) ≠ ((n : Nat) : Int))), .slice b m d, .int .i64 (((m : Nat) : Int)), .int .i64 (((k : Nat) : Int)), .bool (decide (((k : Nat) : Int) < ((m : Nat) : Int))), (y8 29), (y8 30), (y8 31), (y8 32), (y8 33), (y8 34), (y8 35), (y8 36), (y8 37), (y8 38), (y8 39), (y8 40), (y8 41), (y8 42), (y8 43), (y8 44), (y8 45), .agg #[.int .i64 (size), .int .i64 (start), .slice a n c], .func (.func 73) #[] #[.pointer (some ⟨b2, 0, none⟩)], .func (.func 95) #[] #[.pointer (some ⟨b13, 0, none⟩), .pointer (some ⟨b14, 0, none⟩)], .int .i64 (((rd_ : Nat) : Int)), .agg #[.int .i64 (lev size (min start size) (wantOf ds) (listOf xs) (rd_ + 1)), .int .i64 (lack size (min start size) (wantOf ds) (listOf xs) rd_), .int .i64 (ovr size (min start size) (wantOf ds) (listOf xs) rd_)], (val25 0), (val25 1), (val25 2), (val25 3), (val25 4), (val25 5), .pointer (some ⟨b24, 1, none⟩), (val25 7), (val25 8), (val25 9), (val25 10), (val25 11), (val25 12), (val25 13), undef, undef, undef, undef], [], (by simp only [e6_]), rfl, ?_⟩
              exact mix_det (met_none rfl) (fun _ h_ H_ => exd_load_own H_ tA3 rfl (i := 0) rfl (v := .int .i64 (lack size (min start size) (wantOf ds) (listOf xs) rd_)) rfl) ⟨rfl, rfl⟩
            refine mixes_cons rfl (opmix ?_) ?_
            · intro val25 pc26 hQ_ hX_
              have e7_ : val25 7 = .int .i64 (lack size (min start size) (wantOf ds) (listOf xs) rd_) := (hQ_ 7 rfl).1
              refine ⟨[.agg #[.int .i64 (size), .int .i64 (start), .slice a n c], .slice b m d, .pointer (some ⟨b1, 0, none⟩), .pointer (some ⟨b2, 0, none⟩), .pointer (some ⟨b3, 0, none⟩), .pointer (some ⟨b4, 0, none⟩), .pointer (some ⟨b5, 0, none⟩), (y8 7), .int .i64 (chk (size) (start) ds), (y8 9), (y8 10), (y8 11), undef, .pointer (some ⟨b24, 0, none⟩), .agg #[.int .i64 (size), .int .i64 (start), .slice a n c], .int .i64 (chk (size) (start) ds), .int .i64 (chk (size) (start) ds), .bool (decide (chk (size) (start) ds ≠ 0)), undef, .slice b m d, .int .i64 (((m : Nat) : Int)), .pointer (some ⟨b1, 2, none⟩), .slice a n c, .int .i64 (((n : Nat) : Int)), .bool (decide (((m : Nat) : Int) ≠ ((n : Nat) : Int))), .slice b m d, .int .i64 (((m : Nat) : Int)), .int .i64 (((k : Nat) : Int)), .bool (decide (((k : Nat) : Int) < ((m : Nat) : Int))), (y8 29), (y8 30), (y8 31), (y8 32), (y8 33), (y8 34), (y8 35), (y8 36), (y8 37), (y8 38), (y8 39), (y8 40), (y8 41), (y8 42), (y8 43), (y8 44), (y8 45), .agg #[.int .i64 (size), .int .i64 (start), .slice a n c], .func (.func 73) #[] #[.pointer (some ⟨b2, 0, none⟩)], .func (.func 95) #[] #[.pointer (some ⟨b13, 0, none⟩), .pointer (some ⟨b14, 0, none⟩)], .int .i64 (((rd_ : Nat) : Int)), .agg #[.int .i64 (lev size (min start size) (wantOf ds) (listOf xs) (rd_ + 1)), .int .i64 (lack size (min start size) (wantOf ds) (listOf xs) rd_), .int .i64 (ovr size (min start size) (wantOf ds) (listOf xs) rd_)], (val25 0), (val25 1), (val25 2), (val25 3), (val25 4), (val25 5), (val25 6), .int .i64 (lack size (min start size) (wantOf ds) (listOf xs) rd_), (val25 8), (val25 9), (val25 10), (val25 11), (val25 12), (val25 13), undef, undef, undef, undef], [], (by simp only [e7_]), rfl, ?_⟩
              exact mix_buildO (met_none rfl) Try.underlying25 tS3 tZ3 (Nat.le_of_ble_eq_true rfl) (vs := [(0, .int .i64 (lack size (min start size) (wantOf ds) (listOf xs) rd_))]) rfl rfl (es := [[.int .i64 (lack size (min start size) (wantOf ds) (listOf xs) rd_)]]) rfl rfl rfl fun _ _ o_ => o_
            refine mixes_cons rfl (opmix ?_) ?_
            · intro val25 pc26 hQ_ hX_
              have q4_ : OwnS 3 1 (val25 4) (ns (levs size (min start size) (wantOf ds) (listOf xs)) rd_ ++ [[.int .i64 (lev size (min start size) (wantOf ds) (listOf xs) (rd_ + 1))]]) (pc26 4) := hQ_ 4 rfl
              have e5_ : val25 5 = w2 := (hQ_ 5 rfl).1
              have q8_ : OwnS 3 1 (val25 8) [[.int .i64 (lack size (min start size) (wantOf ds) (listOf xs) rd_)]] (pc26 8) := hQ_ 8 rfl
              have x15_ : pc26 15 = X2 := hX_ 15 (by decide)
              refine ⟨[.agg #[.int .i64 (size), .int .i64 (start), .slice a n c], .slice b m d, .pointer (some ⟨b1, 0, none⟩), .pointer (some ⟨b2, 0, none⟩), .pointer (some ⟨b3, 0, none⟩), .pointer (some ⟨b4, 0, none⟩), .pointer (some ⟨b5, 0, none⟩), (y8 7), .int .i64 (chk (size) (start) ds), (y8 9), (y8 10), (y8 11), undef, .pointer (some ⟨b24, 0, none⟩), .agg #[.int .i64 (size), .int .i64 (start), .slice a n c], .int .i64 (chk (size) (start) ds), .int .i64 (chk (size) (start) ds), .bool (decide (chk (size) (start) ds ≠ 0)), undef, .slice b m d, .int .i64 (((m : Nat) : Int)), .pointer (some ⟨b1, 2, none⟩), .slice a n c, .int .i64 (((n : Nat) : Int)), .bool (decide (((m : Nat) : Int) ≠ ((n : Nat) : Int))), .slice b m d, .int .i64 (((m : Nat) : Int)), .int .i64 (((k : Nat) : Int)), .bool (decide (((k : Nat) : Int) < ((m : Nat) : Int))), (y8 29), (y8 30), (y8 31), (y8 32), (y8 33), (y8 34), (y8 35), (y8 36), (y8 37), (y8 38), (y8 39), (y8 40), (y8 41), (y8 42), (y8 43), (y8 44), (y8 45), .agg #[.int .i64 (size), .int .i64 (start), .slice a n c], .func (.func 73) #[] #[.pointer (some ⟨b2, 0, none⟩)], .func (.func 95) #[] #[.pointer (some ⟨b13, 0, none⟩), .pointer (some ⟨b14, 0, none⟩)], .int .i64 (((rd_ : Nat) : Int)), .agg #[.int .i64 (lev size (min start size) (wantOf ds) (listOf xs) (rd_ + 1)), .int .i64 (lack size (min start size) (wantOf ds) (listOf xs) rd_), .int .i64 (ovr size (min start size) (wantOf ds) (listOf xs) rd_)], (val25 0), (val25 1), (val25 2), (val25 3), (val25 4), w2, (val25 6), (val25 7), (val25 8), (val25 9), (val25 10), (val25 11), (val25 12), (val25 13), undef, undef, undef, undef], (X2 ++ ((pc26 8) ++ [])), (by simp only [e5_]), (by rw [← x15_]; rfl), ?_⟩
              exact mix_append (met_none rfl) Try.underlying25 tS3 tZ3 rfl tB3 Try.underlying25 rfl rfl o2 q8_ (ones_of rfl) (by rw [ns_length]; simp only [List.length_cons, List.length_nil]; omega) (by decide) fun _ _ o_ => o_
            refine mixes_cons rfl (opmix ?_) ?_
            · intro val25 pc26 hQ_ hX_
              refine ⟨[.agg #[.int .i64 (size), .int .i64 (start), .slice a n c], .slice b m d, .pointer (some ⟨b1, 0, none⟩), .pointer (some ⟨b2, 0, none⟩), .pointer (some ⟨b3, 0, none⟩), .pointer (some ⟨b4, 0, none⟩), .pointer (some ⟨b5, 0, none⟩), (y8 7), .int .i64 (chk (size) (start) ds), (y8 9), (y8 10), (y8 11), undef, .pointer (some ⟨b24, 0, none⟩), .agg #[.int .i64 (size), .int .i64 (start), .slice a n c], .int .i64 (chk (size) (start) ds), .int .i64 (chk (size) (start) ds), .bool (decide (chk (size) (start) ds ≠ 0)), undef, .slice b m d, .int .i64 (((m : Nat) : Int)), .pointer (some ⟨b1, 2, none⟩), .slice a n c, .int .i64 (((n : Nat) : Int)), .bool (decide (((m : Nat) : Int) ≠ ((n : Nat) : Int))), .slice b m d, .int .i64 (((m : Nat) : Int)), .int .i64 (((k : Nat) : Int)), .bool (decide (((k : Nat) : Int) < ((m : Nat) : Int))), (y8 29), (y8 30), (y8 31), (y8 32), (y8 33), (y8 34), (y8 35), (y8 36), (y8 37), (y8 38), (y8 39), (y8 40), (y8 41), (y8 42), (y8 43), (y8 44), (y8 45), .agg #[.int .i64 (size), .int .i64 (start), .slice a n c], .func (.func 73) #[] #[.pointer (some ⟨b2, 0, none⟩)], .func (.func 95) #[] #[.pointer (some ⟨b13, 0, none⟩), .pointer (some ⟨b14, 0, none⟩)], .int .i64 (((rd_ : Nat) : Int)), .agg #[.int .i64 (lev size (min start size) (wantOf ds) (listOf xs) (rd_ + 1)), .int .i64 (lack size (min start size) (wantOf ds) (listOf xs) rd_), .int .i64 (ovr size (min start size) (wantOf ds) (listOf xs) rd_)], (val25 0), (val25 1), (val25 2), (val25 3), (val25 4), (val25 5), (val25 6), (val25 7), (val25 8), (val25 9), (val25 10), (val25 11), (val25 12), (val25 13), undef, undef, undef, undef], [], rfl, rfl, ?_⟩
              exact mix_det (met_none rfl) (fun _ h_ H_ => exd_load_own H_ tA25 rfl (i := 3) rfl (v := w3) rfl) ⟨rfl, rfl⟩
            refine mixes_cons rfl (opmix ?_) ?_
            · intro val25 pc26 hQ_ hX_
              refine ⟨[.agg #[.int .i64 (size), .int .i64 (start), .slice a n c], .slice b m d, .pointer (some ⟨b1, 0, none⟩), .pointer (some ⟨b2, 0, none⟩), .pointer (some ⟨b3, 0, none⟩), .pointer (some ⟨b4, 0, none⟩), .pointer (some ⟨b5, 0, none⟩), (y8 7), .int .i64 (chk (size) (start) ds), (y8 9), (y8 10), (y8 11), undef, .pointer (some ⟨b24, 0, none⟩), .agg #[.int .i64 (size), .int .i64 (start), .slice a n c], .int .i64 (chk (size) (start) ds), .int .i64 (chk (size) (start) ds), .bool (decide (chk (size) (start) ds ≠ 0)), undef, .slice b m d, .int .i64 (((m : Nat) : Int)), .pointer (some ⟨b1, 2, none⟩), .slice a n c, .int .i64 (((n : Nat) : Int)), .bool (decide (((m : Nat) : Int) ≠ ((n : Nat) : Int))), .slice b m d, .int .i64 (((m : Nat) : Int)), .int .i64 (((k : Nat) : Int)), .bool (decide (((k : Nat) : Int) < ((m : Nat) : Int))), (y8 29), (y8 30), (y8 31), (y8 32), (y8 33), (y8 34), (y8 35), (y8 36), (y8 37), (y8 38), (y8 39), (y8 40), (y8 41), (y8 42), (y8 43), (y8 44), (y8 45), .agg #[.int .i64 (size), .int .i64 (start), .slice a n c], .func (.func 73) #[] #[.pointer (some ⟨b2, 0, none⟩)], .func (.func 95) #[] #[.pointer (some ⟨b13, 0, none⟩), .pointer (some ⟨b14, 0, none⟩)], .int .i64 (((rd_ : Nat) : Int)), .agg #[.int .i64 (lev size (min start size) (wantOf ds) (listOf xs) (rd_ + 1)), .int .i64 (lack size (min start size) (wantOf ds) (listOf xs) rd_), .int .i64 (ovr size (min start size) (wantOf ds) (listOf xs) rd_)], (val25 0), (val25 1), (val25 2), (val25 3), (val25 4), (val25 5), (val25 6), (val25 7), (val25 8), (val25 9), (val25 10), (val25 11), (val25 12), (val25 13), undef, undef, undef, undef], [], rfl, rfl, ?_⟩
              exact mix_det (met_none rfl) (fun _ h_ H_ => exd_fieldAddr tF72_2 rfl (a' := ⟨b24, 2, none⟩) rfl) ⟨rfl, rfl⟩
            refine mixes_cons rfl (opmix ?_) ?_
            · intro val25 pc26 hQ_ hX_
              have e11_ : val25 11 = .pointer (some ⟨b24, 2, none⟩) := (hQ_ 11 rfl).1
              refine ⟨[.agg #[.int .i64 (size), .int .i64 (start), .slice a n c], .slice b m d, .pointer (some ⟨b1, 0, none⟩), .pointer (some ⟨b2, 0, none⟩), .pointer (some ⟨b3, 0, none⟩), .pointer (some ⟨b4, 0, none⟩), .pointer (some ⟨b5, 0, none⟩), (y8 7), .int .i64 (chk (size) (start) ds), (y8 9), (y8 10), (y8 11), undef, .pointer (some ⟨b24, 0, none⟩), .agg #[.int .i64 (size), .int .i64 (start), .slice a n c], .int .i64 (chk (size) (start) ds), .int .i64 (chk (size) (start) ds), .bool (decide (chk (size) (start) ds ≠ 0)), undef, .slice b m d, .int .i64 (((m : Nat) : Int)), .pointer (some ⟨b1, 2, none⟩), .slice a n c, .int .i64 (((n : Nat) : Int)), .bool (decide (((m : Nat) : Int) ≠ ((n : Nat) : Int))), .slice b m d, .int .i64 (((m : Nat) : Int)), .int .i64 (((k : Nat) : Int)), .bool (decide (((k : Nat) : Int) < ((m : Nat) : Int))), (y8 29), (y8 30), (y8 31), (y8 32), (y8 33), (y8 34), (y8 35), (y8 36), (y8 37), (y8 38), (y8 39), (y8 40), (y8 41), (y8 42), (y8 43), (y8 44), (y8 45), .agg #[.int .i64 (size), .int .i64 (start), .slice a n c], .func (.func 73) #[] #[.pointer (some ⟨b2, 0, none⟩)], .func (.func 95) #[] #[.pointer (some ⟨b13, 0, none⟩), .pointer (some ⟨b14, 0, none⟩)], .int .i64 (((rd_ : Nat) : Int)), .agg #[.int .i64 (lev size (min start size) (wantOf ds) (listOf xs) (rd_ + 1)), .int .i64 (lack size (min start size) (wantOf ds) (listOf xs) rd_), .int .i64 (ovr size (min start size) (wantOf ds) (listOf xs) rd_)], (val25 0), (val25 1), (val25 2), (val25 3), (val25 4), (val25 5), (val25 6), (val25 7), (val25 8), (val25 9), (val25 10), .pointer (some ⟨b24, 2, none⟩), (val25 12), (val25 13), undef, undef, undef, undef], [], (by simp only [e11_]), rfl, ?_⟩
              exact mix_det (met_none rfl) (fun _ h_ H_ => exd_load_own H_ tA3 rfl (i := 0) rfl (v := .int .i64 (ovr size (min start size) (wantOf ds) (listOf xs) rd_)) rfl) ⟨rfl, rfl⟩
            refine mixes_cons rfl (opmix ?_) ?_
            · intro val25 pc26 hQ_ hX_
              have e12_ : val25 12 = .int .i64 (ovr size (min start size) (wantOf ds) (listOf xs) rd_) := (hQ_ 12 rfl).1
              refine ⟨[.agg #[.int .i64 (size), .int .i64 (start), .slice a n c], .slice b m d, .pointer (some ⟨b1, 0, none⟩), .pointer (some ⟨b2, 0, none⟩), .pointer (some ⟨b3, 0, none⟩), .pointer (some ⟨b4, 0, none⟩), .pointer (some ⟨b5, 0, none⟩), (y8 7), .int .i64 (chk (size) (start) ds), (y8 9), (y8 10), (y8 11), undef, .pointer (some ⟨b24, 0, none⟩), .agg #[.int .i64 (size), .int .i64 (start), .slice a n c], .int .i64 (chk (size) (start) ds), .int .i64 (chk (size) (start) ds), .bool (decide (chk (size) (start) ds ≠ 0)), undef, .slice b m d, .int .i64 (((m : Nat) : Int)), .pointer (some ⟨b1, 2, none⟩), .slice a n c, .int .i64 (((n : Nat) : Int)), .bool (decide (((m : Nat) : Int) ≠ ((n : Nat) : Int))), .slice b m d, .int .i64 (((m : Nat) : Int)), .int .i64 (((k : Nat) : Int)), .bool (decide (((k : Nat) : Int) < ((m : Nat) : Int))), (y8 29), (y8 30), (y8 31), (y8 32), (y8 33), (y8 34), (y8 35), (y8 36), (y8 37), (y8 38), (y8 39), (y8 40), (y8 41), (y8 42), (y8 43), (y8 44), (y8 45), .agg #[.int .i64 (size), .int .i64 (start), .slice a n c], .func (.func 73) #[] #[.pointer (some ⟨b2, 0, none⟩)], .func (.func 95) #[] #[.pointer (some ⟨b13, 0, none⟩), .pointer (some ⟨b14, 0, none⟩)], .int .i64 (((rd_ : Nat) : Int)), .agg #[.int .i64 (lev size (min start size) (wantOf ds) (listOf xs) (rd_ + 1)), .int .i64 (lack size (min start size) (wantOf ds) (listOf xs) rd_), .int .i64 (ovr size (min start size) (wantOf ds) (listOf xs) rd_)], (val25 0), (val25 1), (val25 2), (val25 3), (val25 4), (val25 5), (val25 6), (val25 7), (val25 8), (val25 9), (val25 10), (val25 11), .int .i64 (ovr size (min start size) (wantOf ds) (listOf xs) rd_), (val25 13), undef, undef, undef, undef], [], (by simp only [e12_]), rfl, ?_⟩
              exact mix_buildO (met_none rfl) Try.underlying25 tS3 tZ3 (Nat.le_of_ble_eq_true rfl) (vs := [(0, .int .i64 (ovr size (min start size) (wantOf ds) (listOf xs) rd_))]) rfl rfl (es := [[.int .i64 (ovr size (min start size) (wantOf ds) (listOf xs) rd_)]]) rfl rfl rfl fun _ _ o_ => o_
            exact mixes_nil rfl
          intro val25 pc26 hQ_ hX_
          have e0_ : val25 0 = w1 := (hQ_ 0 (by decide)).1
          have e1_ : val25 1 = .pointer (some ⟨b24, 0, none⟩) := (hQ_ 1 (by decide)).1
          have e2_ : val25 2 = .int .i64 (lev size (min start size) (wantOf ds) (listOf xs) (rd_ + 1)) := (hQ_ 2 (by decide)).1
          have q4_ : OwnS 3 1 (val25 4) (ns (levs size (min start size) (wantOf ds) (listOf xs)) rd_ ++ [[.int .i64 (lev size (min start size) (wantOf ds) (listOf xs) (rd_ + 1))]]) (pc26 4) := hQ_ 4 (by decide)
          have e5_ : val25 5 = w2 := (hQ_ 5 (by decide)).1
          have e6_ : val25 6 = .pointer (some ⟨b24, 1, none⟩) := (hQ_ 6 (by decide)).1
          have e7_ : val25 7 = .int .i64 (lack size (min start size) (wantOf ds) (listOf xs) rd_) := (hQ_ 7 (by decide)).1
          have q9_ : OwnS 3 1 (val25 9) (ns (lack size (min start size) (wantOf ds) (listOf xs)) rd_ ++ [[.int .i64 (lack size (min start size) (wantOf ds) (listOf xs) rd_)]]) (pc26 9) := hQ_ 9 (by decide)
          have e10_ : val25 10 = w3 := (hQ_ 10 (by decide)).1
          have e11_ : val25 11 = .pointer (some ⟨b24, 2, none⟩) := (hQ_ 11 (by decide)).1
          have e12_ : val25 12 = .int .i64 (ovr size (min start size) (wantOf ds) (listOf xs) rd_) := (hQ_ 12 (by decide)).1
          have q13_ : OwnS 3 1 (val25 13) [[.int .i64 (ovr size (min start size) (wantOf ds) (listOf xs) rd_)]] (pc26 13) := hQ_ 13 (by decide)
          have x16_ : pc26 16 = X3 := hX_ 16 (by decide)
          have x17_ : pc26 17 = Z_ := hX_ 17 (by decide)
          refine rl_as (Φ := fun h_ => St h [] p21 h_ (([(b24, .cells #[.int .i64 (lev size (min start size) (wantOf ds) (listOf xs) (rd_ + 1)), .int .i64 (lack size (min start size) (wantOf ds) (listOf xs) rd_), .int .i64 (ovr size (min start size) (wantOf ds) (listOf xs) rd_)] 72 (0, 0)), (l_, .loop { lp_ with state := .busy }), (r_, .deferred (some [])), (b5, .cells #[w3] 25 (0, 0)), (b4, .cells #[w2] 25 (0, 0)), (b3, .cells #[w1] 25 (0, 0)), (b1, .cells #[.int .i64 (size), .int .i64 (start), .slice a n c] 24 (0, 0))] : Pcs) ++ (pc26 16 ++ (pc26 17 ++ (pc26 4 ++ (pc26 9 ++ (pc26 13 ++ []))))))) ?_ (fun h_ H_ => H_.swap')
          rw [x16_, x17_]
          refine rl_norm (tm' := [.agg #[.int .i64 (size), .int .i64 (start), .slice a n c], .slice b m d, .pointer (some ⟨b1, 0, none⟩), .pointer (some ⟨b2, 0, none⟩), .pointer (some ⟨b3, 0, none⟩), .pointer (some ⟨b4, 0, none⟩), .pointer (some ⟨b5, 0, none⟩), (y8 7), .int .i64 (chk (size) (start) ds), (y8 9), (y8 10), (y8 11), undef, .pointer (some ⟨b24, 0, none⟩), .agg #[.int .i64 (size), .int .i64 (start), .slice a n c], .int .i64 (chk (size) (start) ds), .int .i64 (chk (size) (start) ds), .bool (decide (chk (size) (start) ds ≠ 0)), undef, .slice b m d, .int .i64 (((m : Nat) : Int)), .pointer (some ⟨b1, 2, none⟩), .slice a n c, .int .i64 (((n : Nat) : Int)), .bool (decide (((m : Nat) : Int) ≠ ((n : Nat) : Int))), .slice b m d, .int .i64 (((m : Nat) : Int)), .int .i64 (((k : Nat) : Int)), .bool (decide (((k : Nat) : Int) < ((m : Nat) : Int))), (y8 29), (y8 30), (y8 31), (y8 32), (y8 33), (y8 34), (y8 35), (y8 36), (y8 37), (y8 38), (y8 39), (y8 40), (y8 41), (y8 42), (y8 43), (y8 44), (y8 45), .agg #[.int .i64 (size), .int .i64 (start), .slice a n c], .func (.func 73) #[] #[.pointer (some ⟨b2, 0, none⟩)], .func (.func 95) #[] #[.pointer (some ⟨b13, 0, none⟩), .pointer (some ⟨b14, 0, none⟩)], .int .i64 (((rd_ : Nat) : Int)), .agg #[.int .i64 (lev size (min start size) (wantOf ds) (listOf xs) (rd_ + 1)), .int .i64 (lack size (min start size) (wantOf ds) (listOf xs) rd_), .int .i64 (ovr size (min start size) (wantOf ds) (listOf xs) rd_)], w1, .pointer (some ⟨b24, 0, none⟩), .int .i64 (lev size (min start size) (wantOf ds) (listOf xs) (rd_ + 1)), (val25 3), (val25 4), w2, .pointer (some ⟨b24, 1, none⟩), .int .i64 (lack size (min start size) (wantOf ds) (listOf xs) rd_), (val25 8), (val25 9), w3, .pointer (some ⟨b24, 2, none⟩), .int .i64 (ovr size (min start size) (wantOf ds) (listOf xs) rd_), (val25 13), undef, undef, undef, undef]) (by simp only [e0_, e1_, e2_, e5_, e6_, e7_, e10_, e11_, e12_]) ?_
          clear hQ_ hX_
          have o28 := q4_
          have o30 := q9_
          have o31 := q13_
          refine rl_perm (List.Perm.append_left _ (List.Perm.append_left _ (List.Perm.append_left _ (List.Perm.append_left _ (List.perm_append_comm_assoc _ _ _))))) ?_
          refine rl_perm (List.Perm.append_left _ (List.Perm.append_left _ (List.Perm.append_left _ (List.perm_append_comm_assoc _ _ _)))) ?_
          refine rl_perm (List.Perm.append_left _ (List.Perm.append_left _ (List.perm_append_comm_assoc _ _ _))) ?_
          refine rl_own (L' := ([(b24, .cells #[.int .i64 (lev size (min start size) (wantOf ds) (listOf xs) (rd_ + 1)), .int .i64 (lack size (min start size) (wantOf ds) (listOf xs) rd_), .int .i64 (ovr size (min start size) (wantOf ds) (listOf xs) rd_)] 72 (0, 0)), (l_, .loop { lp_ with state := .busy }), (r_, .deferred (some [])), (b5, .cells #[w3] 25 (0, 0)), (b4, .cells #[w2] 25 (0, 0)), (b3, .cells #[w1] 25 (0, 0)), (b1, .cells #[.int .i64 (size), .int .i64 (start), .slice a n c] 24 (0, 0))] : Pcs) ++ (X3 ++ ((pc26 13) ++ (Z_ ++ ((pc26 4) ++ ((pc26 9) ++ [])))))) rfl ?_
          refine rl_appendO ([(b24, .cells #[.int .i64 (lev size (min start size) (wantOf ds) (listOf xs) (rd_ + 1)), .int .i64 (lack size (min start size) (wantOf ds) (listOf xs) rd_), .int .i64 (ovr size (min start size) (wantOf ds) (listOf xs) rd_)] 72 (0, 0)), (l_, .loop { lp_ with state := .busy }), (r_, .deferred (some [])), (b5, .cells #[w3] 25 (0, 0)), (b4, .cells #[w2] 25 (0, 0)), (b3, .cells #[w1] 25 (0, 0)), (b1, .cells #[.int .i64 (size), .int .i64 (start), .slice a n c] 24 (0, 0))] : Pcs) X3 (pc26 13) (met_none rfl) Try.underlying25 tS3 tZ3 rfl tB3 Try.underlying25 rfl rfl o3 o31 (ones_of rfl) (by rw [ns_length]; simp only [List.length_cons, List.length_nil]; omega) (by decide) fun v32 X33 o34 => ?_
          refine rl_norm (tm' := [_,_,_,_,_,_,_,_,_,_,_,_,_,_,_,_,_,_,_,_,_,_,_,_,_,_,_,_,_,_,_,_,_,_,_,_,_,_,_,_,_,_,_,_,_,_,_,_,_,_,_,_,_,_,_,_,_,_,_,_,_,_,_,_,_,_,_,_,_]) rfl ?_
          refine rl_store1 (met_none rfl) tS25 rfl (v := (val25 4)) rfl o28.one (i := 5) rfl (Nat.succ_le_iff.1 (Nat.le_of_ble_eq_true rfl)) (cs2 := [(val25 4)]) rfl (rl_own (L' := ([(b24, .cells #[.int .i64 (lev size (min start size) (wantOf ds) (listOf xs) (rd_ + 1)), .int .i64 (lack size (min start size) (wantOf ds) (listOf xs) rd_), .int .i64 (ovr size (min start size) (wantOf ds) (listOf xs) rd_)] 72 (0, 0)), (l_, .loop { lp_ with state := .busy }), (r_, .deferred (some [])), (b5, .cells #[w3] 25 (0, 0)), (b4, .cells #[w2] 25 (0, 0)), (b3, .cells #[(val25 4)] 25 (0, 0)), (b1, .cells #[.int .i64 (size), .int .i64 (start), .slice a n c] 24 (0, 0))] : Pcs) ++ (X33 ++ (Z_ ++ ((pc26 4) ++ ((pc26 9) ++ []))))) rfl ?_)
          refine rl_store1 (met_none rfl) tS25 rfl (v := (val25 9)) rfl o30.one (i := 4) rfl (Nat.succ_le_iff.1 (Nat.le_of_ble_eq_true rfl)) (cs2 := [(val25 9)]) rfl (rl_own (L' := ([(b24, .cells #[.int .i64 (lev size (min start size) (wantOf ds) (listOf xs) (rd_ + 1)), .int .i64 (lack size (min start size) (wantOf ds) (listOf xs) rd_), .int .i64 (ovr size (min start size) (wantOf ds) (listOf xs) rd_)] 72 (0, 0)), (l_, .loop { lp_ with state := .busy }), (r_, .deferred (some [])), (b5, .cells #[w3] 25 (0, 0)), (b4, .cells #[(val25 9)] 25 (0, 0)), (b3, .cells #[(val25 4)] 25 (0, 0)), (b1, .cells #[.int .i64 (size), .int .i64 (start), .slice a n c] 24 (0, 0))] : Pcs) ++ (X33 ++ (Z_ ++ ((pc26 4) ++ ((pc26 9) ++ []))))) rfl ?_)
          refine rl_store1 (met_none rfl) tS25 rfl (v := v32) rfl o34.one (i := 3) rfl (Nat.succ_le_iff.1 (Nat.le_of_ble_eq_true rfl)) (cs2 := [v32]) rfl (rl_own (L' := ([(b24, .cells #[.int .i64 (lev size (min start size) (wantOf ds) (listOf xs) (rd_ + 1)), .int .i64 (lack size (min start size) (wantOf ds) (listOf xs) rd_), .int .i64 (ovr size (min start size) (wantOf ds) (listOf xs) rd_)] 72 (0, 0)), (l_, .loop { lp_ with state := .busy }), (r_, .deferred (some [])), (b5, .cells #[v32] 25 (0, 0)), (b4, .cells #[(val25 9)] 25 (0, 0)), (b3, .cells #[(val25 4)] 25 (0, 0)), (b1, .cells #[.int .i64 (size), .int .i64 (start), .slice a n c] 24 (0, 0))] : Pcs) ++ (X33 ++ (Z_ ++ ((pc26 4) ++ ((pc26 9) ++ []))))) rfl ?_)
          refine rl_end ?_
          refine fl_inBlock ?_
          refine fl_rend (i := 1) rfl (lp' := lp_) (by rw [hlp_]; rfl) ?_
          refine rs_own (L' := ([(b24, .cells #[.int .i64 (lev size (min start size) (wantOf ds) (listOf xs) (rd_ + 1)), .int .i64 (lack size (min start size) (wantOf ds) (listOf xs) rd_), .int .i64 (ovr size (min start size) (wantOf ds) (listOf xs) rd_)] 72 (0, 0)), (l_, .loop lp_), (r_, .deferred (some [])), (b5, .cells #[v32] 25 (0, 0)), (b4, .cells #[(val25 9)] 25 (0, 0)), (b3, .cells #[(val25 4)] 25 (0, 0)), (b1, .cells #[.int .i64 (size), .int .i64 (start), .slice a n c] 24 (0, 0))] : Pcs) ++ (X33 ++ (Z_ ++ ((pc26 4) ++ ((pc26 9) ++ []))))) rfl ?_
          refine rs_perm (List.Perm.append_left _ (List.Perm.append_left _ (List.perm_append_comm_assoc _ _ _))) ?_
          refine rs_perm (List.Perm.append_left _ (List.perm_append_comm_assoc _ _ _)) ?_
          refine rs_perm (List.Perm.append_left _ (List.Perm.append_left _ (List.Perm.append_left _ (List.perm_append_comm_assoc _ _ _)))) ?_
          refine rs_perm (List.Perm.append_left _ (List.Perm.append_left _ (List.perm_append_comm_assoc _ _ _))) ?_
          refine rs_own (L' := ([(b24, .cells #[.int .i64 (lev size (min start size) (wantOf ds) (listOf xs) (rd_ + 1)), .int .i64 (lack size (min start size) (wantOf ds) (listOf xs) rd_), .int .i64 (ovr size (min start size) (wantOf ds) (listOf xs) rd_)] 72 (0, 0)), (l_, .loop lp_), (r_, .deferred (some [])), (b5, .cells #[v32] 25 (0, 0)), (b4, .cells #[(val25 9)] 25 (0, 0)), (b3, .cells #[(val25 4)] 25 (0, 0)), (b1, .cells #[.int .i64 (size), .int .i64 (start), .slice a n c] 24 (0, 0))] : Pcs) ++ ((pc26 4) ++ ((pc26 9) ++ (X33 ++ (Z_ ++ []))))) rfl ?_
          exact fun h_ H_ => K₁ _ _ ⟨true, ([(l_, .loop lp_), (r_, .deferred (some [])), (b5, .cells #[v32] 25 (0, 0)), (b4, .cells #[(val25 9)] 25 (0, 0)), (b3, .cells #[(val25 4)] 25 (0, 0)), (b1, .cells #[.int .i64 (size), .int .i64 (start), .slice a n c] 24 (0, 0))] : Pcs) ++ ((pc26 4) ++ ((pc26 9) ++ (X33 ++ []))), rfl, ⟨fun _ => ⟨(val25 4), (val25 9), v32, (pc26 4), (pc26 9), X33, rfl, (o28.as (ns_succ _ _).symm), (o30.as (ns_succ _ _).symm), (o34.as (ns_succ _ _).symm)⟩, fun e_ => (by cases e_)⟩, St.rot' (by simpa using (H_.drop))⟩
        · intro r_ l_ lp_ v_ hlp_
          refine rs_ex fun X_ => rs_and fun hIJ_ => ?_
          rcases hIJ_ with ⟨w1, w2, w3, X1, X2, X3, rfl, o1, o2, o3⟩ | hJ_
          · refine fl_endNone (i := 0) rfl (by rw [hlp_]; simp [loopOf]) (by rw [hlp_]; rfl) ?_
            refine rs_own (L' := ([(l_, .loop { lp_ with state := .exhausted }), (r_, .deferred (some [])), (b5, .cells #[w3] 25 (0, 0)), (b4, .cells #[w2] 25 (0, 0)), (b3, .cells #[w1] 25 (0, 0)), (b1, .cells #[.int .i64 (size), .int .i64 (start), .slice a n c] 24 (0, 0))] : Pcs) ++ (X1 ++ (X2 ++ (X3 ++ [])))) rfl ?_
            rw [hmin] at o1 o2 o3
            refine fl_inBlock ?_
            refine fl_seq ?_
            refine rs_as (fl_mixed (C := []) (A := ([(l_, .loop { lp_ with state := .exhausted }), (r_, .deferred (some [])), (b5, .cells #[w3] 25 (0, 0)), (b4, .cells #[w2] 25 (0, 0)), (b3, .cells #[w1] 25 (0, 0)), (b1, .cells #[.int .i64 (size), .int .i64 (start), .slice a n c] 24 (0, 0))] : Pcs)) 5 [] [5, 6, 7] [5, 6, 7] [0, 1, 2, 3, 4] (fun i_ => match i_ with | 5 => X1 | 6 => X2 | 7 => X3 | _ => []) (fun _ => []) (fun i_ v_ x_ => match i_ with | 0 => v_ = w1 ∧ x_ = [] | 1 => v_ = w2 ∧ x_ = [] | 2 => v_ = w3 ∧ x_ = [] | 3 => v_ = undef ∧ x_ = [] | 4 => v_ = undef ∧ x_ = [] | _ => True) (fun val35 => [.agg #[.int .i64 (size), .int .i64 (start), .slice a n c], .slice b m d, .pointer (some ⟨b1, 0, none⟩), .pointer (some ⟨b2, 0, none⟩), .pointer (some ⟨b3, 0, none⟩), .pointer (some ⟨b4, 0, none⟩), .pointer (some ⟨b5, 0, none⟩), (y8 7), .int .i64 (chk (size) (start) ds), (y8 9), (y8 10), (y8 11), undef, undef, .agg #[.int .i64 (size), .int .i64 (start), .slice a n c], .int .i64 (chk (size) (start) ds), .int .i64 (chk (size) (start) ds), .bool (decide (chk (size) (start) ds ≠ 0)), undef, .slice b m d, .int .i64 (((m : Nat) : Int)), .pointer (some ⟨b1, 2, none⟩), .slice a n c, .int .i64 (((n : Nat) : Int)), .bool (decide (((m : Nat) : Int) ≠ ((n : Nat) : Int))), .slice b m d, .int .i64 (((m : Nat) : Int)), .int .i64 (((k : Nat) : Int)), .bool (decide (((k : Nat) : Int) < ((m : Nat) : Int))), (y8 29), (y8 30), (y8 31), (y8 32), (y8 33), (y8 34), (y8 35), (y8 36), (y8 37), (y8 38), (y8 39), (y8 40), (y8 41), (y8 42), (y8 43), (y8 44), (y8 45), .agg #[.int .i64 (size), .int .i64 (start), .slice a n c], .func (.func 73) #[] #[.pointer (some ⟨b2, 0, none⟩)], .func (.func 95) #[] #[.pointer (some ⟨b13, 0, none⟩), .pointer (some ⟨b14, 0, none⟩)], undef, undef, undef, undef, undef, undef, undef, undef, undef, undef, undef, undef, undef, undef, undef, undef, undef, (val35 0), (val35 1), (val35 2)]) mixed (by kernel_rfl) (Nat.le_of_ble_eq_true rfl) (by kernel_rfl) (by kernel_rfl) ⟨fun _ _ h => h.2, ⟨fun _ _ h => h.2, ⟨fun _ _ h => h.2, ⟨fun _ _ h => h.2, ⟨fun _ _ h => h.2, trivial⟩⟩⟩⟩⟩ (fun _ => by kernel_rfl) (by kernel_rfl) ?_ ?_) (fun h_ H_ => St.swap (A := ([(l_, .loop { lp_ with state := .exhausted }), (r_, .deferred (some [])), (b5, .cells #[w3] 25 (0, 0)), (b4, .cells #[w2] 25 (0, 0)), (b3, .cells #[w1] 25 (0, 0)), (b1, .cells #[.int .i64 (size), .int .i64 (start), .slice a n c] 24 (0, 0))] : Pcs)) (U := (X1 ++ (X2 ++ (X3 ++ [])))) H_)
            · refine mixes_cons rfl (opmix ?_) ?_
              · intro val35 pc36 hQ_ hX_
                refine ⟨[.agg #[.int .i64 (size), .int .i64 (start), .slice a n c], .slice b m d, .pointer (some ⟨b1, 0, none⟩), .pointer (some ⟨b2, 0, none⟩), .pointer (some ⟨b3, 0, none⟩), .pointer (some ⟨b4, 0, none⟩), .pointer (some ⟨b5, 0, none⟩), (y8 7), .int .i64 (chk (size) (start) ds), (y8 9), (y8 10), (y8 11), undef, undef, .agg #[.int .i64 (size), .int .i64 (start), .slice a n c], .int .i64 (chk (size) (start) ds), .int .i64 (chk (size) (start) ds), .bool (decide (chk (size) (start) ds ≠ 0)), undef, .slice b m d, .int .i64 (((m : Nat) : Int)), .pointer (some ⟨b1, 2, none⟩), .slice a n c, .int .i64 (((n : Nat) : Int)), .bool (decide (((m : Nat) : Int) ≠ ((n : Nat) : Int))), .slice b m d, .int .i64 (((m : Nat) : Int)), .int .i64 (((k : Nat) : Int)), .bool (decide (((k : Nat) : Int) < ((m : Nat) : Int))), (y8 29), (y8 30), (y8 31), (y8 32), (y8 33), (y8 34), (y8 35), (y8 36), (y8 37), (y8 38), (y8 39), (y8 40), (y8 41), (y8 42), (y8 43), (y8 44), (y8 45), .agg #[.int .i64 (size), .int .i64 (start), .slice a n c], .func (.func 73) #[] #[.pointer (some ⟨b2, 0, none⟩)], .func (.func 95) #[] #[.pointer (some ⟨b13, 0, none⟩), .pointer (some ⟨b14, 0, none⟩)], undef, undef, undef, undef, undef, undef, undef, undef, undef, undef, undef, undef, undef, undef, undef, undef, undef, (val35 0), (val35 1), (val35 2)], [], rfl, rfl, ?_⟩
                exact mix_det (met_none rfl) (fun _ h_ H_ => exd_load_own H_ tA25 rfl (i := 4) rfl (v := w1) rfl) ⟨rfl, rfl⟩
              refine mixes_cons rfl (opmix ?_) ?_
              · intro val35 pc36 hQ_ hX_
                refine ⟨[.agg #[.int .i64 (size), .int .i64 (start), .slice a n c], .slice b m d, .pointer (some ⟨b1, 0, none⟩), .pointer (some ⟨b2, 0, none⟩), .pointer (some ⟨b3, 0, none⟩), .pointer (some ⟨b4, 0, none⟩), .pointer (some ⟨b5, 0, none⟩), (y8 7), .int .i64 (chk (size) (start) ds), (y8 9), (y8 10), (y8 11), undef, undef, .agg #[.int .i64 (size), .int .i64 (start), .slice a n c], .int .i64 (chk (size) (start) ds), .int .i64 (chk (size) (start) ds), .bool (decide (chk (size) (start) ds ≠ 0)), undef, .slice b m d, .int .i64 (((m : Nat) : Int)), .pointer (some ⟨b1, 2, none⟩), .slice a n c, .int .i64 (((n : Nat) : Int)), .bool (decide (((m : Nat) : Int) ≠ ((n : Nat) : Int))), .slice b m d, .int .i64 (((m : Nat) : Int)), .int .i64 (((k : Nat) : Int)), .bool (decide (((k : Nat) : Int) < ((m : Nat) : Int))), (y8 29), (y8 30), (y8 31), (y8 32), (y8 33), (y8 34), (y8 35), (y8 36), (y8 37), (y8 38), (y8 39), (y8 40), (y8 41), (y8 42), (y8 43), (y8 44), (y8 45), .agg #[.int .i64 (size), .int .i64 (start), .slice a n c], .func (.func 73) #[] #[.pointer (some ⟨b2, 0, none⟩)], .func (.func 95) #[] #[.pointer (some ⟨b13, 0, none⟩), .pointer (some ⟨b14, 0, none⟩)], undef, undef, undef, undef, undef, undef, undef, undef, undef, undef, undef, undef, undef, undef, undef, undef, undef, (val35 0), (val35 1), (val35 2)], [], rfl, rfl, ?_⟩
                exact mix_det (met_none rfl) (fun _ h_ H_ => exd_load_own H_ tA25 rfl (i := 3) rfl (v := w2) rfl) ⟨rfl, rfl⟩
              refine mixes_cons rfl (opmix ?_) ?_
              · intro val35 pc36 hQ_ hX_
                refine ⟨[.agg #[.int .i64 (size), .int .i64 (start), .slice a n c], .slice b m d, .pointer (some ⟨b1, 0, none⟩), .pointer (some ⟨b2, 0, none⟩), .pointer (some ⟨b3, 0, none⟩), .pointer (some ⟨b4, 0, none⟩), .pointer (some ⟨b5, 0, none⟩), (y8 7), .int .i64 (chk (size) (start) ds), (y8 9), (y8 10), (y8 11), undef, undef, .agg #[.int .i64 (size), .int .i64 (start), .slice a n c], .int .i64 (chk (size) (start) ds), .int .i64 (chk (size) (start) ds), .bool (decide (chk (size) (start) ds ≠ 0)), undef, .slice b m d, .int .i64 (((m : Nat) : Int)), .pointer (some ⟨b1, 2, none⟩), .slice a n c, .int .i64 (((n : Nat) : Int)), .bool (decide (((m : Nat) : Int) ≠ ((n : Nat) : Int))), .slice b m d, .int .i64 (((m : Nat) : Int)), .int .i64 (((k : Nat) : Int)), .bool (decide (((k : Nat) : Int) < ((m : Nat) : Int))), (y8 29), (y8 30), (y8 31), (y8 32), (y8 33), (y8 34), (y8 35), (y8 36), (y8 37), (y8 38), (y8 39), (y8 40), (y8 41), (y8 42), (y8 43), (y8 44), (y8 45), .agg #[.int .i64 (size), .int .i64 (start), .slice a n c], .func (.func 73) #[] #[.pointer (some ⟨b2, 0, none⟩)], .func (.func 95) #[] #[.pointer (some ⟨b13, 0, none⟩), .pointer (some ⟨b14, 0, none⟩)], undef, undef, undef, undef, undef, undef, undef, undef, undef, undef, undef, undef, undef, undef, undef, undef, undef, (val35 0), (val35 1), (val35 2)], [], rfl, rfl, ?_⟩
                exact mix_det (met_none rfl) (fun _ h_ H_ => exd_load_own H_ tA25 rfl (i := 2) rfl (v := w3) rfl) ⟨rfl, rfl⟩
              refine mixes_cons rfl (opmix ?_) ?_
              · intro val35 pc36 hQ_ hX_
                have e0_ : val35 0 = w1 := (hQ_ 0 rfl).1
                refine ⟨[.agg #[.int .i64 (size), .int .i64 (start), .slice a n c], .slice b m d, .pointer (some ⟨b1, 0, none⟩), .pointer (some ⟨b2, 0, none⟩), .pointer (some ⟨b3, 0, none⟩), .pointer (some ⟨b4, 0, none⟩), .pointer (some ⟨b5, 0, none⟩), (y8 7), .int .i64 (chk (size) (start) ds), (y8 9), (y8 10), (y8 11), undef, undef, .agg #[.int .i64 (size), .int .i64 (start), .slice a n c], .int .i64 (chk (size) (start) ds), .int .i64 (chk (size) (start) ds), .bool (decide (chk (size) (start) ds ≠ 0)), undef, .slice b m d, .int .i64 (((m : Nat) : Int)), .pointer (some ⟨b1, 2, none⟩), .slice a n c, .int .i64 (((n : Nat) : Int)), .bool (decide (((m : Nat) : Int) ≠ ((n : Nat) : Int))), .slice b m d, .int .i64 (((m : Nat) : Int)), .int .i64 (((k : Nat) : Int)), .bool (decide (((k : Nat) : Int) < ((m : Nat) : Int))), (y8 29), (y8 30), (y8 31), (y8 32), (y8 33), (y8 34), (y8 35), (y8 36), (y8 37), (y8 38), (y8 39), (y8 40), (y8 41), (y8 42), (y8 43), (y8 44), (y8 45), .agg #[.int .i64 (size), .int .i64 (start), .slice a n c], .func (.func 73) #[] #[.pointer (some ⟨b2, 0, none⟩)], .func (.func 95) #[] #[.pointer (some ⟨b13, 0, none⟩), .pointer (some ⟨b14, 0, none⟩)], undef, undef, undef, undef, undef, undef, undef, undef, undef, undef, undef, undef, undef, undef, undef, undef, undef, w1, (val35 1), (val35 2)], [], (by simp only [e0_]), rfl, ?_⟩
                exact mix_same1 (met_none rfl) tS25 rfl (v := w1) rfl o1.one (i := 4) (fun _ => rfl) (Nat.succ_le_iff.1 (Nat.le_of_ble_eq_true rfl)) rfl ⟨rfl, rfl⟩
              refine mixes_cons rfl (opmix ?_) ?_
              · intro val35 pc36 hQ_ hX_
                have e0_ : val35 0 = w1 := (hQ_ 0 rfl).1
                have e1_ : val35 1 = w2 := (hQ_ 1 rfl).1
                refine ⟨[.agg #[.int .i64 (size), .int .i64 (start), .slice a n c], .slice b m d, .pointer (some ⟨b1, 0, none⟩), .pointer (some ⟨b2, 0, none⟩), .pointer (some ⟨b3, 0, none⟩), .pointer (some ⟨b4, 0, none⟩), .pointer (some ⟨b5, 0, none⟩), (y8 7), .int .i64 (chk (size) (start) ds), (y8 9), (y8 10), (y8 11), undef, undef, .agg #[.int .i64 (size), .int .i64 (start), .slice a n c], .int .i64 (chk (size) (start) ds), .int .i64 (chk (size) (start) ds), .bool (decide (chk (size) (start) ds ≠ 0)), undef, .slice b m d, .int .i64 (((m : Nat) : Int)), .pointer (some ⟨b1, 2, none⟩), .slice a n c, .int .i64 (((n : Nat) : Int)), .bool (decide (((m : Nat) : Int) ≠ ((n : Nat) : Int))), .slice b m d, .int .i64 (((m : Nat) : Int)), .int .i64 (((k : Nat) : Int)), .bool (decide (((k : Nat) : Int) < ((m : Nat) : Int))), (y8 29), (y8 30), (y8 31), (y8 32), (y8 33), (y8 34), (y8 35), (y8 36), (y8 37), (y8 38), (y8 39), (y8 40), (y8 41), (y8 42), (y8 43), (y8 44), (y8 45), .agg #[.int .i64 (size), .int .i64 (start), .slice a n c], .func (.func 73) #[] #[.pointer (some ⟨b2, 0, none⟩)], .func (.func 95) #[] #[.pointer (some ⟨b13, 0, none⟩), .pointer (some ⟨b14, 0, none⟩)], undef, undef, undef, undef, undef, undef, undef, undef, undef, undef, undef, undef, undef, undef, undef, undef, undef, w1, w2, (val35 2)], [], (by simp only [e0_, e1_]), rfl, ?_⟩
                exact mix_same1 (met_none rfl) tS25 rfl (v := w2) rfl o2.one (i := 3) (fun _ => rfl) (Nat.succ_le_iff.1 (Nat.le_of_ble_eq_true rfl)) rfl ⟨rfl, rfl⟩
              exact mixes_nil rfl
            intro val35 pc36 hQ_ hX_
            have e0_ : val35 0 = w1 := (hQ_ 0 (by decide)).1
            have e1_ : val35 1 = w2 := (hQ_ 1 (by decide)).1
            have e2_ : val35 2 = w3 := (hQ_ 2 (by decide)).1
            have x5_ : pc36 5 = X1 := hX_ 5 (by decide)
            have x6_ : pc36 6 = X2 := hX_ 6 (by decide)
            have x7_ : pc36 7 = X3 := hX_ 7 (by decide)
            refine rl_as (Φ := fun h_ => St h [] p21 h_ (([(l_, .loop { lp_ with state := .exhausted }), (r_, .deferred (some [])), (b5, .cells #[w3] 25 (0, 0)), (b4, .cells #[w2] 25 (0, 0)), (b3, .cells #[w1] 25 (0, 0)), (b1, .cells #[.int .i64 (size), .int .i64 (start), .slice a n c] 24 (0, 0))] : Pcs) ++ (pc36 5 ++ (pc36 6 ++ (pc36 7 ++ []))))) ?_ (fun h_ H_ => H_.swap')
            rw [x5_, x6_, x7_]
            refine rl_norm (tm' := [.agg #[.int .i64 (size), .int .i64 (start), .slice a n c], .slice b m d, .pointer (some ⟨b1, 0, none⟩), .pointer (some ⟨b2, 0, none⟩), .pointer (some ⟨b3, 0, none⟩), .pointer (some ⟨b4, 0, none⟩), .pointer (some ⟨b5, 0, none⟩), (y8 7), .int .i64 (chk (size) (start) ds), (y8 9), (y8 10), (y8 11), undef, undef, .agg #[.int .i64 (size), .int .i64 (start), .slice a n c], .int .i64 (chk (size) (start) ds), .int .i64 (chk (size) (start) ds), .bool (decide (chk (size) (start) ds ≠ 0)), undef, .slice b m d, .int .i64 (((m : Nat) : Int)), .pointer (some ⟨b1, 2, none⟩), .slice a n c, .int .i64 (((n : Nat) : Int)), .bool (decide (((m : Nat) : Int) ≠ ((n : Nat) : Int))), .slice b m d, .int .i64 (((m : Nat) : Int)), .int .i64 (((k : Nat) : Int)), .bool (decide (((k : Nat) : Int) < ((m : Nat) : Int))), (y8 29), (y8 30), (y8 31), (y8 32), (y8 33), (y8 34), (y8 35), (y8 36), (y8 37), (y8 38), (y8 39), (y8 40), (y8 41), (y8 42), (y8 43), (y8 44), (y8 45), .agg #[.int .i64 (size), .int .i64 (start), .slice a n c], .func (.func 73) #[] #[.pointer (some ⟨b2, 0, none⟩)], .func (.func 95) #[] #[.pointer (some ⟨b13, 0, none⟩), .pointer (some ⟨b14, 0, none⟩)], undef, undef, undef, undef, undef, undef, undef, undef, undef, undef, undef, undef, undef, undef, undef, undef, undef, w1, w2, w3]) (by simp only [e0_, e1_, e2_]) ?_
            clear hQ_ hX_
            refine rl_store1 (met_none rfl) tS25 rfl (v := w3) rfl o3.one (i := 2) rfl (Nat.succ_le_iff.1 (Nat.le_of_ble_eq_true rfl)) (cs2 := [w3]) rfl (rl_own (L' := ([(l_, .loop { lp_ with state := .exhausted }), (r_, .deferred (some [])), (b5, .cells #[w3] 25 (0, 0)), (b4, .cells #[w2] 25 (0, 0)), (b3, .cells #[w1] 25 (0, 0)), (b1, .cells #[.int .i64 (size), .int .i64 (start), .slice a n c] 24 (0, 0))] : Pcs) ++ (X1 ++ (X2 ++ (X3 ++ [])))) rfl ?_)
            refine rl_det (met_none rfl) (fun h_ H_ => exd_assign (v := .int .i64 0) rfl) rfl ?_
            refine rl_end ?_
            refine fl_retD (i := 1) Try.func34 rfl rfl (vs := [w1, w2, w3, .int .i64 0]) (fun h_ H_ => ⟨w1, _, rfl, (wpS_bind (wpS_pure (wpS_loadVar1 tA25 (H_.ocell (i := 4) rfl (v := w1) rfl) ⟨rfl, rfl⟩))), ⟨w2, _, rfl, (wpS_bind (wpS_pure (wpS_loadVar1 tA25 (H_.ocell (i := 3) rfl (v := w2) rfl) ⟨rfl, rfl⟩))), ⟨w3, _, rfl, (wpS_bind (wpS_pure (wpS_loadVar1 tA25 (H_.ocell (i := 2) rfl (v := w3) rfl) ⟨rfl, rfl⟩))), ⟨.int .i64 0, _, rfl, rfl, rfl⟩⟩⟩⟩) (v := .tuple #[w1, w2, w3, .int .i64 0]) rfl ?_
            refine rs_own (L' := ([(l_, .loop { lp_ with state := .exhausted }), (r_, .deferred none), (b5, .cells #[w3] 25 (0, 0)), (b4, .cells #[w2] 25 (0, 0)), (b3, .cells #[w1] 25 (0, 0)), (b1, .cells #[.int .i64 (size), .int .i64 (start), .slice a n c] 24 (0, 0))] : Pcs) ++ (X1 ++ (X2 ++ (X3 ++ [])))) rfl ?_
            exact fun h_ H_ => K _ _ ⟨_, _, _, _, _, _, by rw [askd_ok hOk (decide_eq_true hX)], fun _ => ⟨o1, o2, o3⟩, fun e => absurd ⟨hOk, hX⟩ e, H_.dropA.new⟩
          · exact hJ_.elim
end Go.Proofs.Ytbmkacnlhlbnjaa
namespace Go.Proofs.Ytbmkacnlhlbnjaa
open Go.X Go.X.Cist Go.Conc
set_option maxRecDepth 10000

theorem c84 (md : Md) (h : Heap) (l k o : Int) : CallsX Try.prog md 84 #[.agg #[.int .i64 (l), .int .i64 (k), .int .i64 (o)]] h fun v h' => v = .bool (decide (0 < k)) ∧ Keep h h' := by
  refine calls_intro (Φ := fun h_ => St h [] (fun _ => none) h_ []) Try.func84 rfl (tm := [_, _, _, _, _, _]) rfl ?_ (St.start h _ (fun _ _ e => by cases e))
  intro c₀ cs Stop K
  refine fl_seq ?_
  refine rl_start ?_
  refine rl_box (met_none rfl) (v := .agg #[.int .i64 (l), .int .i64 (k), .int .i64 (o)]) rfl fun b1 => rl_own (L' := [(b1, .cells #[.int .i64 (l), .int .i64 (k), .int .i64 (o)] 72 (0, 0))]) rfl ?_
  refine rl_det (met_none rfl) (fun h_ H_ => exd_assign (v := .bool (false)) rfl) rfl ?_
  refine rl_end ?_
  refine fl_seq ?_
  refine rl_start ?_
  refine rl_det (met_none rfl) (fun h_ H_ => exd_fieldAddr tF72_1 rfl (a' := ⟨b1, 1, none⟩) rfl) (tm' := _::_::_::_::_) rfl ?_
  refine rl_det (met_none rfl) (fun h_ H_ => exd_load_own H_ tA3 rfl (i := 0) rfl (v := .int .i64 (k)) rfl) rfl ?_
  refine rl_det (met_none rfl) (fun h_ H_ => exd_gtr rfl rfl) rfl ?_
  refine rl_det (met_none rfl) (fun h_ H_ => exd_assign (v := .bool (decide (0 < k))) rfl) (tm' := _::_::_::_) rfl ?_
  refine rl_end ?_
  refine fl_ret Try.func84 rfl (vs := [.bool (decide (0 < k))]) (fun h_ H_ => ⟨.bool (decide (0 < k)), _, rfl, rfl, rfl⟩) (v := .bool (decide (0 < k))) rfl ?_
  exact fun h_ H_ => K _ _ ⟨rfl, H_.kept⟩
theorem c86 (md : Md) (h : Heap) (p : PHeap) (hp : Per p h) (bY : Nat) (size start : Int) (a : Option Addr) (n c : Nat) (ds : List Day) (D : Days p a n ds) (hn : n ≤ 40) (hY : p bY = some (.cells #[.int .i64 size, .int .i64 start, .slice a n c] 24 (0, 0))) (k : Nat) (hk : k < n) : CallsX Try.prog md 86 #[.int .i64 (((k : Nat) : Int)), .pointer (some ⟨bY, 0, none⟩)] h fun v h' => v = .int .i64 (ds.getD k dz).lo ∧ Keep h h' := by
  refine calls_intro (Φ := fun h_ => St h [] p h_ []) Try.func86 rfl (tm := [_, _, _, _, _, _, _, _, _, _, _]) rfl ?_ (St.start h _ hp)
  intro c₀ cs Stop K
  refine fl_seq ?_
  refine rl_start ?_
  refine rl_det (met_none rfl) (fun h_ H_ => exd_assign (v := .int .i64 0) rfl) rfl ?_
  refine rl_end ?_
  refine fl_seq ?_
  refine rl_start ?_
  refine rl_det (met_none rfl) (fun h_ H_ => exd_fieldAddr tF24_2 rfl (a' := ⟨bY, 2, none⟩) rfl) rfl ?_
  refine rl_det (met_none rfl) (fun h_ H_ => exd_load_per H_ tA22 rfl (v := .slice a n c) (per_cell hY rfl)) (tm' := _::_::_::_::_::_::_) rfl ?_
  refine rl_det (met_none rfl) (fun h_ H_ => exd_move (v := .int .i64 (((k : Nat) : Int))) rfl) rfl ?_
  refine rl_det (met_none rfl) (fun h_ H_ => exd_indexAddrN (i := k) Try.underlying22 tS38 (sl_ne a n c (D.ne (by omega))) rfl (by omega)) rfl ?_
  refine rl_det (met_none rfl) (fun h_ H_ => exd_fieldAddr tF38_0 rfl (a' := (adr a).add (k * 3)) rfl) (tm' := [_,_,_,_,_,_,_,_,_,_,_]) rfl ?_
  refine rl_det (met_none rfl) (fun h_ H_ => exd_fieldAddr tF36_0 rfl (a' := (adr a).add (k * 3)) rfl) rfl ?_
  refine rl_det (met_none rfl) (fun h_ H_ => exd_load_per H_ tA3 rfl (v := .int .i64 ((ds.getD k dz).lo)) (D.lo (by omega))) rfl ?_
  refine rl_det (met_none rfl) (fun h_ H_ => exd_assign (v := .int .i64 ((ds.getD k dz).lo)) rfl) (tm' := _::_::_::_::_) rfl ?_
  refine rl_end ?_
  refine fl_ret Try.func86 rfl (vs := [.int .i64 ((ds.getD k dz).lo)]) (fun h_ H_ => ⟨.int .i64 ((ds.getD k dz).lo), _, rfl, rfl, rfl⟩) (v := .int .i64 ((ds.getD k dz).lo)) rfl ?_
  exact fun h_ H_ => K _ _ ⟨rfl, H_.kept⟩
theorem c62 (md : Md) (h : Heap) (p : PHeap) (hp : Per p h) (size start : Int) (a : Option Addr) (n c : Nat) (ds : List Day) (D : Days p a n ds) (hn : n ≤ 40) (hs : 0 ≤ size ∧ size ≤ 60 ∧ 0 ≤ start) (hd : Dok ds) : CallsX Try.prog md 62 #[.agg #[.int .i64 (size), .int .i64 (start), .slice a n c]] h fun v h' => v = .bool (decide (Lasts size start ds)) ∧ Keep h h' := by
  refine calls_intro (Φ := fun h_ => St h [] p h_ []) Try.func62 rfl (tm := [_, _, _, _, _, _, _, _, _, _, _, _]) rfl ?_ (St.start h _ hp)
  intro c₀ cs Stop K
  have hl := D.len
  refine fl_seq ?_
  refine rl_start ?_
  refine rl_box (met_none rfl) (v := .agg #[.int .i64 (size), .int .i64 (start), .slice a n c]) rfl fun b1 => rl_own (L' := [(b1, .cells #[.int .i64 (size), .int .i64 (start), .slice a n c] 24 (0, 0))]) rfl ?_
  refine rl_alloc (met_none rfl) tZ4 rfl fun b2 => rl_own (L' := [(b2, .cells #[.bool (false)] 4 (0, 0)), (b1, .cells #[.int .i64 (size), .int .i64 (start), .slice a n c] 24 (0, 0))]) rfl ?_
  refine rl_end ?_
  refine fl_seq ?_
  refine fl_seq ?_
  refine rl_start ?_
  refine rl_det (met_none rfl) (fun h_ H_ => exd_loadN_own H_ tA24 tS24 rfl (i := 1) rfl (vs := [.int .i64 (size), .int .i64 (start), .slice a n c]) rfl rfl) (tm' := _::_::_::_::_::_::_) rfl ?_
  refine rl_det (met_none rfl) (fun h_ H_ => exd_makeFunc (a := []) (b := [.pointer (some ⟨b1, 0, none⟩)]) rfl rfl) rfl ?_
  refine rl_call (met_none rfl) (first := []) (cap := []) rfl rfl fC72 (R := fun v_ h_ => ∃ b3 : Nat, ∃ b4 : Nat, v_ = .func (.func 95) #[] #[.pointer (some ⟨b3, 0, none⟩), .pointer (some ⟨b4, 0, none⟩)] ∧ St h [] p h_ ([(b4, .cells #[.func (.func 86) #[] #[.pointer (some ⟨b1, 0, none⟩)]] 77 (0, 0)), (b3, .cells #[.int .i64 (size), .int .i64 (start), .slice a n c] 24 (0, 0)), (b2, .cells #[.bool (false)] 4 (0, 0)), (b1, .cells #[.int .i64 (size), .int .i64 (start), .slice a n c] 24 (0, 0))])) (fun h_ H_ => (c72 md _ (size) (start) _ _ _ (.func (.func 86) #[] #[.pointer (some ⟨b1, 0, none⟩)]) rfl).mono fun v_ h2_ ⟨b3, b4, e_, N_⟩ => ⟨b3, b4, e_, H_.callN N_⟩) fun v_ => ?_
  refine rl_ex fun b3 => rl_ex fun b4 => rl_and fun ev_ => ?_
  have ev_ := ev_.symm; subst ev_
  refine rl_end ?_
  refine fl_block ?_
  refine rs_last 0 rfl (L' := [(b3, .cells #[.int .i64 (size), .int .i64 (start), .slice a n c] 24 (0, 0)), (b2, .cells #[.bool (false)] 4 (0, 0)), (b1, .cells #[.int .i64 (size), .int .i64 (start), .slice a n c] 24 (0, 0))]) rfl fun p5 le6 hb7 => ?_
  refine rs_last 0 rfl (L' := [(b2, .cells #[.bool (false)] 4 (0, 0)), (b1, .cells #[.int .i64 (size), .int .i64 (start), .slice a n c] 24 (0, 0))]) rfl fun p8 le9 hb10 => ?_
  refine rs_last 1 rfl (L' := [(b2, .cells #[.bool (false)] 4 (0, 0))]) rfl fun p11 le12 hb13 => ?_
  refine fl_range (R := fun r_ l_ lp_ _ h_ => ∃ X_, ((X_ = ([(l_, .loop lp_), (r_, .deferred (some [])), (b2, .cells #[.bool (false)] 4 (0, 0))] : Pcs) ++ [] ∧ (∀ i, i < n → ¬ 0 < lack size (min start size) (wantOf ds) (loOf ds) i)) ∨ (X_ = ([(l_, .loop { { lp_ with state := .busy } with state := .done, pending := some .ret }), (r_, .deferred (some [])), (b2, .cells #[.bool (false)] 4 (0, 0))] : Pcs) ++ [] ∧ (∃ i, i < n ∧ 0 < lack size (min start size) (wantOf ds) (loOf ds) i))) ∧ St h [] p11 h_ X_) ?_ ?_
  · intro r_ l_ lp_ h_ hlp_ s_
    show CallV _ md (.func (.func 95) ([] : List Value).toArray ([.pointer (some ⟨b3, 0, none⟩), .pointer (some ⟨b4, 0, none⟩)] : List Value).toArray) _ h_ _
    refine callv_of fC95 ?_
    refine c95 md _ _ _ _ _ s_ (.func (.yield l_) #[] #[]) (.func (.func 86) #[] #[.pointer (some ⟨b1, 0, none⟩)]) _ _ _ _ _ _ _ _ (((D.mono le6).mono le9).mono le12) (by omega) (loOf ds) (le12 _ _ hb10) (le12 _ _ (le9 _ _ hb7)) hs (fun i hi => (hd i (by omega)).2) (fun i hi => by have := hd i (by omega); unfold loOf; omega) (fun h_ i_ hp_ hi_ => callv_of fC86 (c86 md _ _ hp_ _ _ _ _ _ _ _ (((D.mono le6).mono le9).mono le12) hn hb13 i_ (by omega))) (fun rd_ X_ => X_ = ([(l_, .loop lp_), (r_, .deferred (some [])), (b2, .cells #[.bool (false)] 4 (0, 0))] : Pcs) ++ [] ∧ (∀ i, i < rd_ → ¬ 0 < lack size (min start size) (wantOf ds) (loOf ds) i)) (fun X_ => X_ = ([(l_, .loop { { lp_ with state := .busy } with state := .done, pending := some .ret }), (r_, .deferred (some [])), (b2, .cells #[.bool (false)] 4 (0, 0))] : Pcs) ++ [] ∧ (∃ i, i < n ∧ 0 < lack size (min start size) (wantOf ds) (loOf ds) i)) ⟨by simp, (fun i hi => absurd hi (Nat.not_lt_zero i))⟩ ?_
    intro rd_ h_ Z_ X_ hi_ hI_ s_
    obtain ⟨rfl, ho⟩ := hI_
    refine callv_round (Φ := fun h_ => St h [] p11 h_ (([(l_, .loop lp_), (r_, .deferred (some [])), (b2, .cells #[.bool (false)] 4 (0, 0))] : Pcs) ++ (Z_ ++ []))) (s_.rot.at (i := 0) rfl) hlp_ rfl (tm' := [.agg #[.int .i64 (size), .int .i64 (start), .slice a n c], .pointer (some ⟨b1, 0, none⟩), .pointer (some ⟨b2, 0, none⟩), undef, undef, .agg #[.int .i64 (size), .int .i64 (start), .slice a n c], .func (.func 86) #[] #[.pointer (some ⟨b1, 0, none⟩)], .func (.func 95) #[] #[.pointer (some ⟨b3, 0, none⟩), .pointer (some ⟨b4, 0, none⟩)], .int .i64 (((rd_ : Nat) : Int)), .agg #[.int .i64 (lev size (min start size) (wantOf ds) (loOf ds) (rd_ + 1)), .int .i64 (lack size (min start size) (wantOf ds) (loOf ds) rd_), .int .i64 (ovr size (min start size) (wantOf ds) (loOf ds) rd_)], undef, undef]) rfl ?_ (by simpa using s_.rot)
    intro c₁ cs₁ Stop₁ K₁
    refine rl_start ?_
    refine rl_alloc (met_none rfl) tZ72 rfl fun b14 => rl_own (L' := ([(b14, .cells #[.int .i64 0, .int .i64 0, .int .i64 0] 72 (0, 0)), (l_, .loop lp_), (r_, .deferred (some [])), (b2, .cells #[.bool (false)] 4 (0, 0))] : Pcs) ++ (Z_ ++ [])) rfl ?_
    refine rl_norm (tm' := _::_::_::_::_::_) rfl ?_
    refine rl_store (met_none rfl) tS72 rfl (v := .agg #[.int .i64 (lev size (min start size) (wantOf ds) (loOf ds) (rd_ + 1)), .int .i64 (lack size (min start size) (wantOf ds) (loOf ds) rd_), .int .i64 (ovr size (min start size) (wantOf ds) (loOf ds) rd_)]) rfl (i := 0) rfl rfl rfl (Nat.le_of_ble_eq_true rfl) (cs2 := [.int .i64 (lev size (min start size) (wantOf ds) (loOf ds) (rd_ + 1)), .int .i64 (lack size (min start size) (wantOf ds) (loOf ds) rd_), .int .i64 (ovr size (min start size) (wantOf ds) (loOf ds) rd_)]) rfl (rl_own (L' := ([(b14, .cells #[.int .i64 (lev size (min start size) (wantOf ds) (loOf ds) (rd_ + 1)), .int .i64 (lack size (min start size) (wantOf ds) (loOf ds) rd_), .int .i64 (ovr size (min start size) (wantOf ds) (loOf ds) rd_)] 72 (0, 0)), (l_, .loop lp_), (r_, .deferred (some [])), (b2, .cells #[.bool (false)] 4 (0, 0))] : Pcs) ++ (Z_ ++ [])) rfl ?_)
    refine rl_end ?_
    refine fl_begin (i := 1) rfl (by rw [hlp_]; rfl) ?_
    refine rs_own (L' := ([(b14, .cells #[.int .i64 (lev size (min start size) (wantOf ds) (loOf ds) (rd_ + 1)), .int .i64 (lack size (min start size) (wantOf ds) (loOf ds) rd_), .int .i64 (ovr size (min start size) (wantOf ds) (loOf ds) rd_)] 72 (0, 0)), (l_, .loop { lp_ with state := .busy }), (r_, .deferred (some [])), (b2, .cells #[.bool (false)] 4 (0, 0))] : Pcs) ++ (Z_ ++ [])) rfl ?_
    refine fl_block ?_
    refine fl_seq ?_
    refine rl_start ?_
    refine rl_det (met_none rfl) (fun h_ H_ => exd_loadN_own H_ tA72 tS72 rfl (i := 0) rfl (vs := [.int .i64 (lev size (min start size) (wantOf ds) (loOf ds) (rd_ + 1)), .int .i64 (lack size (min start size) (wantOf ds) (loOf ds) rd_), .int .i64 (ovr size (min start size) (wantOf ds) (loOf ds) rd_)]) rfl rfl) rfl ?_
    refine rl_calld (met_none rfl) (first := []) (cap := []) rfl rfl fC84 (fun h_ H_ => c84 md _ (lev size (min start size) (wantOf ds) (loOf ds) (rd_ + 1)) (lack size (min start size) (wantOf ds) (loOf ds) rd_) (ovr size (min start size) (wantOf ds) (loOf ds) rd_)) rfl ?_
    refine rl_end ?_
    by_cases cc15 : 0 < lack size (min start size) (wantOf ds) (loOf ds) rd_
    · refine fl_then rfl (decide_eq_true cc15) ?_
      refine fl_seq ?_
      refine rl_start ?_
      refine rl_store (met_none rfl) tS4 rfl (v := .bool (false)) rfl (i := 3) rfl rfl rfl (Nat.le_of_ble_eq_true rfl) (cs2 := [.bool (false)]) rfl (rl_own (L' := ([(b14, .cells #[.int .i64 (lev size (min start size) (wantOf ds) (loOf ds) (rd_ + 1)), .int .i64 (lack size (min start size) (wantOf ds) (loOf ds) rd_), .int .i64 (ovr size (min start size) (wantOf ds) (loOf ds) rd_)] 72 (0, 0)), (l_, .loop { lp_ with state := .busy }), (r_, .deferred (some [])), (b2, .cells #[.bool (false)] 4 (0, 0))] : Pcs) ++ (Z_ ++ [])) rfl ?_)
      refine rl_end ?_
      refine fl_rret (i := 1) rfl rfl ?_
      refine rs_own (L' := ([(b14, .cells #[.int .i64 (lev size (min start size) (wantOf ds) (loOf ds) (rd_ + 1)), .int .i64 (lack size (min start size) (wantOf ds) (loOf ds) rd_), .int .i64 (ovr size (min start size) (wantOf ds) (loOf ds) rd_)] 72 (0, 0)), (l_, .loop { { lp_ with state := .busy } with state := .done, pending := some .ret }), (r_, .deferred (some [])), (b2, .cells #[.bool (false)] 4 (0, 0))] : Pcs) ++ (Z_ ++ [])) rfl ?_
      exact fun h_ H_ => K₁ _ _ ⟨false, ([(l_, .loop { { lp_ with state := .busy } with state := .done, pending := some .ret }), (r_, .deferred (some [])), (b2, .cells #[.bool (false)] 4 (0, 0))] : Pcs) ++ [], rfl, ⟨fun e_ => (by cases e_), fun _ => ⟨rfl, ⟨rd_, hi_, ‹_›⟩⟩⟩, St.rot' (by simpa using (H_.drop))⟩
    · refine fl_else rfl (decide_eq_false cc15) ?_
      refine fl_skip ?_
      refine fl_inBlock ?_
      refine fl_rend (i := 1) rfl (lp' := lp_) (by rw [hlp_]; rfl) ?_
      refine rs_own (L' := ([(b14, .cells #[.int .i64 (lev size (min start size) (wantOf ds) (loOf ds) (rd_ + 1)), .int .i64 (lack size (min start size) (wantOf ds) (loOf ds) rd_), .int .i64 (ovr size (min start size) (wantOf ds) (loOf ds) rd_)] 72 (0, 0)), (l_, .loop lp_), (r_, .deferred (some [])), (b2, .cells #[.bool (false)] 4 (0, 0))] : Pcs) ++ (Z_ ++ [])) rfl ?_
      exact fun h_ H_ => K₁ _ _ ⟨true, ([(l_, .loop lp_), (r_, .deferred (some [])), (b2, .cells #[.bool (false)] 4 (0, 0))] : Pcs) ++ [], rfl, ⟨fun _ => ⟨rfl, (none_step ho ‹_›)⟩, fun e_ => (by cases e_)⟩, St.rot' (by simpa using (H_.drop))⟩
  · intro r_ l_ lp_ v_ hlp_
    refine rs_ex fun X_ => rs_and fun hIJ_ => ?_
    rcases hIJ_ with ⟨rfl, ho⟩ | ⟨rfl, hj⟩
    · refine fl_endNone (i := 0) rfl (by rw [hlp_]; simp [loopOf]) (by rw [hlp_]; rfl) ?_
      refine rs_own (L' := [(l_, .loop { lp_ with state := .exhausted }), (r_, .deferred (some [])), (b2, .cells #[.bool (false)] 4 (0, 0))]) rfl ?_
      refine fl_inBlock ?_
      refine fl_seq ?_
      refine rl_start ?_
      refine rl_store (met_none rfl) tS4 rfl (v := .bool (true)) rfl (i := 2) rfl rfl rfl (Nat.le_of_ble_eq_true rfl) (cs2 := [.bool (true)]) rfl (rl_own (L' := [(l_, .loop { lp_ with state := .exhausted }), (r_, .deferred (some [])), (b2, .cells #[.bool (true)] 4 (0, 0))]) rfl ?_)
      refine rl_end ?_
      refine fl_retD (i := 1) Try.func62 rfl rfl (vs := [.bool (true)]) (fun h_ H_ => ⟨.bool (true), _, rfl, (wpS_bind (wpS_pure (wpS_loadVar1 tA4 (H_.ocell (i := 2) rfl (v := .bool (true)) rfl) ⟨rfl, rfl⟩))), rfl⟩) (v := .bool (true)) rfl ?_
      refine rs_own (L' := [(l_, .loop { lp_ with state := .exhausted }), (r_, .deferred none), (b2, .cells #[.bool (true)] 4 (0, 0))]) rfl ?_
      exact fun h_ H_ => K _ _ ⟨by first | (rw [decide_eq_true]; intro i hi; exact ho i (by omega)) | (rw [decide_eq_false]; intro e; obtain ⟨i, hi, hq⟩ := hj; exact e i (by omega) hq), H_.kept⟩
    · refine fl_endSome (i := 0) rfl (by simp) rfl ?_
      refine rs_own (L' := [(l_, .loop { { { lp_ with state := .busy } with state := .done, pending := some .ret } with state := .exhausted }), (r_, .deferred (some [])), (b2, .cells #[.bool (false)] 4 (0, 0))]) rfl ?_
      refine fl_retD (i := 1) Try.func62 rfl rfl (vs := [.bool (false)]) (fun h_ H_ => ⟨.bool (false), _, rfl, (wpS_bind (wpS_pure (wpS_loadVar1 tA4 (H_.ocell (i := 2) rfl (v := .bool (false)) rfl) ⟨rfl, rfl⟩))), rfl⟩) (v := .bool (false)) rfl ?_
      refine rs_own (L' := [(l_, .loop { { { lp_ with state := .busy } with state := .done, pending := some .ret } with state := .exhausted }), (r_, .deferred none), (b2, .cells #[.bool (false)] 4 (0, 0))]) rfl ?_
      exact fun h_ H_ => K _ _ ⟨by first | (rw [decide_eq_true]; intro i hi; exact ho i (by omega)) | (rw [decide_eq_false]; intro e; obtain ⟨i, hi, hq⟩ := hj; exact e i (by omega) hq), H_.kept⟩
end Go.Proofs.Ytbmkacnlhlbnjaa
namespace Go.Proofs.Ytbmkacnlhlbnjaa
open Go.X Go.X.Cist Go.Conc
set_option maxRecDepth 10000

theorem c87 (md : Md) (h : Heap) (p : PHeap) (hp : Per p h) (a : Option Addr) (n c : Nat) (ds : List Day) (D : Days p a n ds) (hn : n ≤ 40) : CallsX Try.prog md 87 #[.slice a n c] h fun v h' => ∃ w X, v = w ∧ OwnS 38 3 w (dcs ds) X ∧ New h h' X := by
  refine calls_intro (Φ := fun h_ => St h [] p h_ []) Try.func87 rfl (tm := [_, _, _, _, _, _, _, _]) rfl ?_ (St.start h _ hp)
  intro c₀ cs Stop K
  refine fl_seq ?_
  refine rl_start ?_
  refine rl_det (met_none rfl) (fun h_ H_ => exd_assign (v := .slice none 0 0) rfl) rfl ?_
  refine rl_end ?_
  refine fl_seq ?_
  refine fl_seq ?_
  refine rl_start ?_
  refine rl_det (met_none rfl) (fun h_ H_ => exd_move (v := .slice a n c) rfl) rfl ?_
  refine rl_det (met_none rfl) (fun h_ H_ => exd_eqNil Try.underlying22 rfl) (tm' := _::_::_::_::_::_) rfl ?_
  refine rl_end ?_
  rcases bcases (a.isNone) with cc1 | cc1
  · refine fl_then rfl cc1 ?_
    refine fl_seq ?_
    refine rl_start ?_
    refine rl_det (met_none rfl) (fun h_ H_ => exd_assign (v := .slice none 0 0) rfl) rfl ?_
    refine rl_end ?_
    refine fl_ret Try.func87 rfl (vs := [.slice none 0 0]) (fun h_ H_ => ⟨.slice none 0 0, _, rfl, rfl, rfl⟩) (v := .slice none 0 0) rfl ?_
    have e := nil_of_none D ‹_›
    subst e
    exact fun h_ H_ => K _ _ ⟨_, [], rfl, OwnS.empty _ _, H_.new⟩
  · refine fl_else rfl cc1 ?_
    refine fl_skip ?_
    refine fl_seq ?_
    refine rl_start ?_
    refine rl_own (L' := ([] : Pcs) ++ []) rfl ?_
    refine rl_buildO ([] : Pcs) (met_none rfl) Try.underlying22 tS38 tZ38 (Nat.le_of_ble_eq_true rfl) (vs := []) rfl rfl (es := []) rfl rfl rfl fun v2 X3 o4 => ?_
    refine rl_det (met_none rfl) (fun h_ H_ => exd_move (v := .slice a n c) rfl) (tm' := [_,_,_,_,_,_,_,_]) rfl ?_
    refine rl_appendP ([] : Pcs) X3 (met_none rfl) Try.underlying22 tS38 tZ38 rfl tB38 Try.underlying22 rfl rfl o4 D (dcs_ones _) (by simp only [List.length_nil]; omega) (by decide) (by decide) fun v5 X6 o7 => ?_
    refine rl_det (met_none rfl) (fun h_ H_ => exd_assign (v := v5) rfl) rfl ?_
    refine rl_end ?_
    refine fl_ret Try.func87 rfl (vs := [v5]) (fun h_ H_ => ⟨v5, _, rfl, rfl, rfl⟩) (v := v5) rfl ?_
    exact fun h_ H_ => K _ _ ⟨_, _, rfl, o7, by simpa using H_.dropA.new⟩
theorem c63 (md : Md) (h : Heap) (p : PHeap) (hp : Per p h) (size start : Int) (a : Option Addr) (n c : Nat) (ds : List Day) (D : Days p a n ds) (hn : n ≤ 40) (wv : Value) (wf : Nat → Int → Int) (hw : ∀ h, Per p h → ∀ i, i < n → CallV Try.prog md wv [.int .i64 ((i : Nat) : Int), .int .i64 (ds.getD i dz).want] h fun v h' => v = .int .i64 (wf i (ds.getD i dz).want) ∧ Keep h h') : CallsX Try.prog md 63 #[.agg #[.int .i64 (size), .int .i64 (start), .slice a n c], wv] h fun v h' => ∃ w X, v = .agg #[.int .i64 size, .int .i64 start, w] ∧ OwnS 38 3 w (dcs (wmap wf ds)) X ∧ New h h' X := by
  refine calls_intro (Φ := fun h_ => St h [] p h_ []) Try.func63 rfl (tm := [_, _, _, _, _, _, _, _, _, _, _, _, _, _, _, _, _, _, _, _, _, _, _, _, _, _, _, _, _, _, _, _]) rfl ?_ (St.start h _ hp)
  intro c₀ cs Stop K
  have hl := D.len
  refine fl_seq ?_
  refine rl_start ?_
  refine rl_box (met_none rfl) (v := .agg #[.int .i64 (size), .int .i64 (start), .slice a n c]) rfl fun b1 => rl_own (L' := [(b1, .cells #[.int .i64 (size), .int .i64 (start), .slice a n c] 24 (0, 0))]) rfl ?_
  refine rl_norm (tm' := _::_::_::_) rfl ?_
  refine rl_alloc (met_none rfl) tZ24 rfl fun b2 => rl_own (L' := [(b2, .cells #[.int .i64 0, .int .i64 0, .slice none 0 0] 24 (0, 0)), (b1, .cells #[.int .i64 (size), .int .i64 (start), .slice a n c] 24 (0, 0))]) rfl ?_
  refine rl_end ?_
  refine fl_seq ?_
  refine rl_start ?_
  refine rl_det (met_none rfl) (fun h_ H_ => exd_fieldAddr tF24_2 rfl (a' := ⟨b1, 2, none⟩) rfl) rfl ?_
  refine rl_det (met_none rfl) (fun h_ H_ => exd_load_own H_ tA22 rfl (i := 1) rfl (v := .slice a n c) rfl) (tm' := _::_::_::_::_::_::_::_::_) rfl ?_
  refine rl_own (L' := ([(b2, .cells #[.int .i64 0, .int .i64 0, .slice none 0 0] 24 (0, 0)), (b1, .cells #[.int .i64 (size), .int .i64 (start), .slice a n c] 24 (0, 0))] : Pcs) ++ []) rfl ?_
  refine rl_call (met_none rfl) (first := []) (cap := []) rfl rfl fC87 (R := fun v_ h_ => ∃ w3 : Value, ∃ X4 : Pcs, v_ = w3 ∧ (OwnS 38 3 w3 (dcs ds) X4) ∧ St h [] p h_ (([(b2, .cells #[.int .i64 0, .int .i64 0, .slice none 0 0] 24 (0, 0)), (b1, .cells #[.int .i64 (size), .int .i64 (start), .slice a n c] 24 (0, 0))] : Pcs) ++ (X4 ++ []))) (fun h_ H_ => (c87 md _ _ (fun b_ o_ e_ => H_.per b_ o_ e_) _ _ _ _ D (by omega)).mono fun v_ h2_ ⟨w3, X4, e_, o5, N_⟩ => ⟨w3, X4, e_, o5, H_.callNA N_⟩) fun v_ => ?_
  refine rl_ex fun w3 => rl_ex fun X4 => rl_and fun ev_ => rl_and fun o5 => ?_
  have ev_ := ev_.symm; subst ev_
  refine rl_own (L' := ([(b2, .cells #[.int .i64 0, .int .i64 0, .slice none 0 0] 24 (0, 0)), (b1, .cells #[.int .i64 (size), .int .i64 (start), .slice a n c] 24 (0, 0))] : Pcs) ++ (X4 ++ [])) rfl ?_
  refine rl_det (met_none rfl) (fun h_ H_ => exd_fieldAddr tF24_2 rfl (a' := ⟨b1, 2, none⟩) rfl) rfl ?_
  refine rl_store1 (met_none rfl) tS22 rfl (v := w3) rfl o5.one (i := 1) rfl (Nat.succ_le_iff.1 (Nat.le_of_ble_eq_true rfl)) (cs2 := [.int .i64 (size), .int .i64 (start), w3]) rfl (rl_own (L' := ([(b2, .cells #[.int .i64 0, .int .i64 0, .slice none 0 0] 24 (0, 0)), (b1, .cells #[.int .i64 (size), .int .i64 (start), w3] 24 (0, 0))] : Pcs) ++ (X4 ++ [])) rfl ?_)
  refine rl_end ?_
  refine fl_seq ?_
  refine fl_seq ?_
  refine rl_start ?_
  refine rl_det (met_none rfl) (fun h_ H_ => exd_fieldAddr tF24_2 rfl (a' := ⟨b1, 2, none⟩) rfl) (tm' := _::_::_::_::_::_::_::_::_::_::_::_) rfl ?_
  refine rl_det (met_none rfl) (fun h_ H_ => exd_load_own H_ tA22 rfl (i := 1) rfl (v := w3) rfl) rfl ?_
  refine rl_det (met_none rfl) (fun h_ H_ => exd_lenN o5 (show (dcs ds).length = n by rw [dcs_length]; exact hl) Try.underlying22 rfl) rfl ?_
  refine rl_det (met_none rfl) (fun h_ H_ => exd_move (v := .int .i64 0) rfl) (tm' := _::_::_::_::_::_::_::_::_::_::_::_::_::_::_) rfl ?_
  refine rl_end ?_
  refine fl_block ?_
  refine fl_loop (m₀ := n - 0) (fun m_ tm_ h_ => ∃ (k : Nat) (X : Pcs), m_ = n - k ∧ (∃ y6 : Nat → Value, tm_ = [.agg #[.int .i64 (size), .int .i64 (start), .slice a n c], wv, .pointer (some ⟨b1, 0, none⟩), undef, .pointer (some ⟨b2, 0, none⟩), (y6 5), .pointer (some ⟨b1, 2, none⟩), .slice a n c, w3, .pointer (some ⟨b1, 2, none⟩), .pointer (some ⟨b1, 2, none⟩), w3, .int .i64 (((n : Nat) : Int)), .int .i64 (((k : Nat) : Int)), (y6 14), (y6 15), (y6 16), (y6 17), (y6 18), (y6 19), (y6 20), (y6 21), (y6 22), (y6 23), (y6 24), (y6 25), (y6 26), (y6 27), (y6 28), (y6 29), (y6 30), undef]) ∧ (k ≤ n) ∧ (OwnS 38 3 w3 (dcs (wpre wf ds k)) X) ∧ St h [] p h_ (([(b2, .cells #[.int .i64 0, .int .i64 0, .slice none 0 0] 24 (0, 0)), (b1, .cells #[.int .i64 (size), .int .i64 (start), w3] 24 (0, 0))] : Pcs) ++ (X ++ []))) (fun h_ H_ => ⟨0, X4, rfl, (y_of rfl), Nat.zero_le _, (o5.as (by rw [wpre_zero])), H_⟩) ?_
  intro m_ tm_ IH7
  refine rs_ex fun k => rs_ex fun X => rs_and fun hm_ => rs_and fun ht_ => rs_and fun hk => rs_and fun o => ?_
  subst hm_; obtain ⟨y6, ht_⟩ := ht_; subst ht_
  refine fl_seq ?_
  refine rl_start ?_
  refine rl_det (met_none rfl) (fun h_ H_ => exd_lss rfl rfl) rfl ?_
  refine rl_end ?_
  refine fl_seq ?_
  by_cases cc8 : ((k : Nat) : Int) < ((n : Nat) : Int)
  · refine fl_then rfl (decide_eq_true cc8) ?_
    refine fl_skip ?_
    refine fl_seq ?_
    refine fl_block ?_
    refine fl_seq ?_
    refine rl_start ?_
    refine rl_det (met_none rfl) (fun h_ H_ => exd_move (v := .int .i64 (((k : Nat) : Int))) rfl) rfl ?_
    refine rl_det (met_none rfl) (fun h_ H_ => exd_assign (v := .int .i64 (((k : Nat) : Int))) rfl) (tm' := _::_::_::_::_::_::_) rfl ?_
    refine rl_end ?_
    refine fl_drawn2 12 [[], [], [], [], [], [], [], [], [], [], [], [], [], [12], []] mixed (by kernel_rfl) (Nat.le_of_ble_eq_true rfl) ?_
    refine swr_det (met_none rfl) (fun h_ H_ => exd_fieldAddr tF24_2 rfl (a' := ⟨b1, 2, none⟩) rfl) (tm' := _::_::_::_::_::_::_::_::_::_::_::_::_::_::_::_::_::_) rfl ?_
    refine swr_det (met_none rfl) (fun h_ H_ => exd_load_own H_ tA22 rfl (i := 1) rfl (v := w3) rfl) rfl ?_
    refine swr_det (met_none rfl) (fun h_ H_ => exd_move (v := .int .i64 (((k : Nat) : Int))) rfl) (tm' := _::_::_::_::_::_::_::_::_::_::_::_::_::_::_::_::_::_::_::_) rfl ?_
    refine swr_det (met_none rfl) (fun h_ H_ => exd_move (v := wv) rfl) rfl ?_
    refine swr_det (met_none rfl) (fun h_ H_ => exd_move (v := .int .i64 (((k : Nat) : Int))) rfl) (tm' := _::_::_::_::_::_::_::_::_::_::_::_::_::_::_::_::_::_::_::_::_::_) rfl ?_
    refine swr_det (met_none rfl) (fun h_ H_ => exd_fieldAddr tF24_2 rfl (a' := ⟨b1, 2, none⟩) rfl) rfl ?_
    refine swr_det (met_none rfl) (fun h_ H_ => exd_load_own H_ tA22 rfl (i := 1) rfl (v := w3) rfl) (tm' := [_,_,_,_,_,_,_,_,_,_,_,_,_,_,_,_,_,_,_,_,_,_,_,_,_,_,_,_,_,_,_,_]) rfl ?_
    refine swr_det (met_none rfl) (fun h_ H_ => exd_move (v := .int .i64 (((k : Nat) : Int))) rfl) rfl ?_
    refine swr_det (met_none rfl) (fun h_ H_ => exd_indexO o Try.underlying22 tS38 rfl rfl (by rw [(show (dcs (wpre wf ds k)).length = n by rw [dcs_length, wpre_length]; exact hl)]; omega)) (tm' := [_,_,_,_,_,_,_,_,_,_,_,_,_,_,_,_,_,_,_,_,_,_,_,_,_,_,_,_,_,_,_,_]) rfl ?_
    refine swr_det (met_none rfl) (fun h_ H_ => exd_fieldAddr tF38_1 rfl (a' := ((adrV w3).add (k * 3)).add 2) rfl) rfl ?_
    refine swr_det (met_none rfl) (fun h_ H_ => exd_loadO (A := ([(b2, .cells #[.int .i64 0, .int .i64 0, .slice none 0 0] 24 (0, 0)), (b1, .cells #[.int .i64 (size), .int .i64 (start), w3] 24 (0, 0))] : Pcs)) (i := k) (j := 2) (e := [.int .i64 (ds.getD k dz).lo, .int .i64 (ds.getD k dz).hi, .int .i64 (ds.getD k dz).want]) o H_ tA3 rfl rfl (wpre_at (by omega)) (u := .int .i64 ((ds.getD k dz).want)) rfl) (tm' := [_,_,_,_,_,_,_,_,_,_,_,_,_,_,_,_,_,_,_,_,_,_,_,_,_,_,_,_,_,_,_,_]) rfl ?_
    refine swr_callv (met_none rfl) rfl (vs := [.int .i64 (((k : Nat) : Int)), .int .i64 ((ds.getD k dz).want)]) rfl (fun h_ H_ => hw h_ H_.per k (by omega)) rfl ?_
    refine swr_nil rfl ?_
    refine rl_det (met_none rfl) (fun h_ H_ => exd_indexO o Try.underlying22 tS38 rfl rfl (by rw [(show (dcs (wpre wf ds k)).length = n by rw [dcs_length, wpre_length]; exact hl)]; omega)) rfl ?_
    refine rl_det (met_none rfl) (fun h_ H_ => exd_fieldAddr tF38_1 rfl (a' := ((adrV w3).add (k * 3)).add 2) rfl) rfl ?_
    refine rl_storeO (A := ([(b2, .cells #[.int .i64 0, .int .i64 0, .slice none 0 0] 24 (0, 0)), (b1, .cells #[.int .i64 (size), .int .i64 (start), w3] 24 (0, 0))] : Pcs)) (i := k) (j := 2) (e := [.int .i64 (ds.getD k dz).lo, .int .i64 (ds.getD k dz).hi, .int .i64 (ds.getD k dz).want]) (u := .int .i64 (wf k ((ds.getD k dz).want))) o (met_none rfl) tS3 rfl rfl rfl ⟨rfl, rfl⟩ (wpre_at (by omega)) (Nat.succ_le_iff.1 (Nat.le_of_ble_eq_true rfl)) fun X9 o10 => ?_
    refine rl_end ?_
    refine fl_inBlock ?_
    refine rl_start ?_
    refine rl_det (met_none rfl) (fun h_ H_ => exd_add rfl rfl (n := ((k + 1 : Nat) : Int)) (wr (by omega))) (tm' := [_,_,_,_,_,_,_,_,_,_,_,_,_,_,_,_,_,_,_,_,_,_,_,_,_,_,_,_,_,_,_,_]) rfl ?_
    refine rl_det (met_none rfl) (fun h_ H_ => exd_move (v := .int .i64 (((k + 1 : Nat) : Int))) rfl) rfl ?_
    refine rl_end ?_
    exact fun h_ H_ => IH7 _ _ (by omega) h_ ⟨k + 1, X9, rfl, (y_of rfl), (by omega), (o10.as (wpre_set (by omega))), H_⟩
  · refine fl_else rfl (decide_eq_false cc8) ?_
    refine fl_exit rfl ?_
    refine fl_seq ?_
    refine rl_start ?_
    refine rl_det (met_none rfl) (fun h_ H_ => exd_loadN_own H_ tA24 tS24 rfl (i := 1) rfl (vs := [.int .i64 (size), .int .i64 (start), w3]) rfl rfl) rfl ?_
    refine rl_store (met_none rfl) tS24 rfl (v := .agg #[.int .i64 (size), .int .i64 (start), w3]) rfl (i := 0) rfl rfl (ones_cons rfl (ones_cons rfl (ones_cons o.one.2 rfl))) (Nat.le_of_ble_eq_true rfl) (cs2 := [.int .i64 (size), .int .i64 (start), w3]) rfl (rl_own (L' := ([(b2, .cells #[.int .i64 (size), .int .i64 (start), w3] 24 (0, 0)), (b1, .cells #[.int .i64 (size), .int .i64 (start), w3] 24 (0, 0))] : Pcs) ++ (X ++ [])) rfl ?_)
    refine rl_end ?_
    refine fl_ret Try.func63 rfl (vs := [.agg #[.int .i64 (size), .int .i64 (start), w3]]) (fun h_ H_ => ⟨.agg #[.int .i64 (size), .int .i64 (start), w3], _, rfl, (wpS_bind (wpS_pure (wpS_loadVarN tA24 tS24 (vs := [.int .i64 (size), .int .i64 (start), w3]) rfl (fun j_ v_ e_ => by rw [add_mk]; exact H_.ocell (i := 0) rfl (by simpa using e_)) ⟨rfl, rfl⟩))), rfl⟩) (v := .agg #[.int .i64 (size), .int .i64 (start), w3]) rfl ?_
    obtain rfl : k = n := by omega
    exact fun h_ H_ => K _ _ ⟨_, _, rfl, o.as (by unfold wmap; rw [hl]), by simpa using H_.dropA.new⟩
end Go.Proofs.Ytbmkacnlhlbnjaa
namespace Go.Proofs.Ytbmkacnlhlbnjaa
open Go.X Go.X.Cist Go.Conc
set_option maxRecDepth 10000

theorem c64 (md : Md) (h : Heap) (p : PHeap) (hp : Per p h) (bN : Nat) (w n : Int) (hN : p bN = some (.cells #[.int .i64 n] 3 (0, 0))) (i : Int) : CallsX Try.prog md 64 #[.int .i64 (i), .int .i64 (w), .pointer (some ⟨bN, 0, none⟩)] h fun v h' => v = .int .i64 (min w n) ∧ Keep h h' := by
  refine calls_intro (Φ := fun h_ => St h [] p h_ []) Try.func64 rfl (tm := [_, _, _, _, _, _, _, _, _]) rfl ?_ (St.start h _ hp)
  intro c₀ cs Stop K
  refine fl_seq ?_
  refine rl_start ?_
  refine rl_det (met_none rfl) (fun h_ H_ => exd_assign (v := .int .i64 0) rfl) rfl ?_
  refine rl_end ?_
  refine fl_seq ?_
  refine rl_start ?_
  refine rl_det (met_none rfl) (fun h_ H_ => exd_move (v := .int .i64 (w)) rfl) rfl ?_
  refine rl_det (met_none rfl) (fun h_ H_ => exd_load_per H_ tA3 rfl (v := .int .i64 (n)) (per_cell hN rfl)) (tm' := [_,_,_,_,_,_,_,_,_]) rfl ?_
  refine rl_det (met_none rfl) (fun h_ H_ => exd_min rfl rfl) rfl ?_
  refine rl_det (met_none rfl) (fun h_ H_ => exd_assign (v := .int .i64 (min w n)) rfl) rfl ?_
  refine rl_end ?_
  refine fl_ret Try.func64 rfl (vs := [.int .i64 (min w n)]) (fun h_ H_ => ⟨.int .i64 (min w n), _, rfl, rfl, rfl⟩) (v := .int .i64 (min w n)) rfl ?_
  exact fun h_ H_ => K _ _ ⟨rfl, H_.kept⟩
theorem c23 (md : Md) (h : Heap) (p : PHeap) (hp : Per p h) (size start : Int) (a : Option Addr) (n c : Nat) (ds : List Day) (D : Days p a n ds) (hn : n ≤ 40) : CallsX Try.prog md 23 #[.agg #[.int .i64 (size), .int .i64 (start), .slice a n c]] h fun v h' => v = .tuple #[.int .i64 (if Ok size start ds then ratDown size start ds 20 else 0), .int .i64 (chk size start ds)] ∧ Keep h h' := by
  refine calls_intro (Φ := fun h_ => St h [] p h_ []) Try.func23 rfl (tm := [_, _, _, _, _, _, _, _, _, _, _, _, _, _, _, _, _, _, _]) rfl ?_ (St.start h _ hp)
  intro c₀ cs Stop K
  have hl := D.len
  refine fl_seq ?_
  refine rl_start ?_
  refine rl_box (met_none rfl) (v := .agg #[.int .i64 (size), .int .i64 (start), .slice a n c]) rfl fun b1 => rl_own (L' := [(b1, .cells #[.int .i64 (size), .int .i64 (start), .slice a n c] 24 (0, 0))]) rfl ?_
  refine rl_norm (tm' := _::_::_) rfl ?_
  refine rl_det (met_none rfl) (fun h_ H_ => exd_assign (v := .int .i64 0) rfl) rfl ?_
  refine rl_det (met_none rfl) (fun h_ H_ => exd_assign (v := .int .i64 0) rfl) rfl ?_
  refine rl_end ?_
  refine fl_seq ?_
  refine fl_seq ?_
  refine rl_start ?_
  refine rl_det (met_none rfl) (fun h_ H_ => exd_loadN_own H_ tA24 tS24 rfl (i := 0) rfl (vs := [.int .i64 (size), .int .i64 (start), .slice a n c]) rfl rfl) (tm' := _::_::_::_::_::_::_::_) rfl ?_
  refine rl_calld (met_none rfl) (first := []) (cap := []) rfl rfl fC32 (fun h_ H_ => c32 md _ _ (fun b_ o_ e_ => H_.per b_ o_ e_) (size) (start) _ _ _ _ D (by omega)) rfl ?_
  refine rl_det (met_none rfl) (fun h_ H_ => exd_assign (v := .int .i64 (chk (size) (start) ds)) rfl) rfl ?_
  refine rl_end ?_
  refine fl_seq ?_
  refine rl_start ?_
  refine rl_det (met_none rfl) (fun h_ H_ => exd_move (v := .int .i64 (chk (size) (start) ds)) rfl) (tm' := _::_::_::_::_::_::_::_::_::_) rfl ?_
  refine rl_det (met_none rfl) (fun h_ H_ => exd_neq rfl rfl) rfl ?_
  refine rl_end ?_
  by_cases cc2 : chk (size) (start) ds ≠ 0
  · refine fl_then rfl (decide_eq_true cc2) ?_
    refine fl_seq ?_
    refine rl_start ?_
    refine rl_det (met_none rfl) (fun h_ H_ => exd_move (v := .int .i64 (chk (size) (start) ds)) rfl) rfl ?_
    refine rl_det (met_none rfl) (fun h_ H_ => exd_assign (v := .int .i64 0) rfl) (tm' := _::_::_::_) rfl ?_
    refine rl_det (met_none rfl) (fun h_ H_ => exd_assign (v := .int .i64 (chk (size) (start) ds)) rfl) rfl ?_
    refine rl_end ?_
    refine fl_ret Try.func23 rfl (vs := [.int .i64 0, .int .i64 (chk (size) (start) ds)]) (fun h_ H_ => ⟨.int .i64 0, _, rfl, rfl, ⟨.int .i64 (chk (size) (start) ds), _, rfl, rfl, rfl⟩⟩) (v := .tuple #[.int .i64 0, .int .i64 (chk (size) (start) ds)]) rfl ?_
    have hOk : ¬ Ok size start ds := fun e => absurd (chk_yes e) ‹_›
    exact fun h_ H_ => K _ _ ⟨by rw [if_neg hOk], H_.kept⟩
  · refine fl_else rfl (decide_eq_false cc2) ?_
    refine fl_skip ?_
    refine fl_seq ?_
    have hOk : Ok size start ds := chk_zero.1 (by omega)
    refine rl_start ?_
    refine rl_alloc (met_none rfl) tZ3 rfl fun b3 => rl_own (L' := [(b3, .cells #[.int .i64 0] 3 (0, 0)), (b1, .cells #[.int .i64 (size), .int .i64 (start), .slice a n c] 24 (0, 0))]) rfl ?_
    refine rl_store (met_none rfl) tS3 rfl (v := .int .i64 20) rfl (i := 0) rfl rfl rfl (Nat.le_of_ble_eq_true rfl) (cs2 := [.int .i64 20]) rfl (rl_own (L' := [(b3, .cells #[.int .i64 20] 3 (0, 0)), (b1, .cells #[.int .i64 (size), .int .i64 (start), .slice a n c] 24 (0, 0))]) rfl ?_)
    refine rl_end ?_
    refine fl_seq ?_
    refine fl_block ?_
    refine fl_loop (m₀ := 20 + 1) (fun m_ tm_ h_ => ∃ (k : Nat) (nn : Int), m_ = k + 1 ∧ (∃ y4 : Nat → Value, tm_ = [.agg #[.int .i64 (size), .int .i64 (start), .slice a n c], .pointer (some ⟨b1, 0, none⟩), .int .i64 0, .int .i64 0, .int .i64 (chk (size) (start) ds), .pointer (some ⟨b3, 0, none⟩), .agg #[.int .i64 (size), .int .i64 (start), .slice a n c], .int .i64 (chk (size) (start) ds), .int .i64 (chk (size) (start) ds), .bool (decide (chk (size) (start) ds ≠ 0)), undef, (y4 11), (y4 12), (y4 13), (y4 14), (y4 15), (y4 16), (y4 17), undef]) ∧ (nn = ((k : Nat) : Int)) ∧ (k ≤ 20) ∧ (ratDown size start ds 20 = ratDown size start ds k) ∧ St h [] p h_ ([(b3, .cells #[.int .i64 (nn)] 3 (0, 0)), (b1, .cells #[.int .i64 (size), .int .i64 (start), .slice a n c] 24 (0, 0))])) (fun h_ H_ => ⟨20, 20, rfl, (y_of rfl), rfl, Nat.le_refl _, rfl, H_⟩) ?_
    intro m_ tm_ IH5
    refine rs_ex fun k => rs_ex fun nn => rs_and fun hm_ => rs_and fun ht_ => rs_and fun hnn => rs_and fun hk => rs_and fun hr => ?_
    subst hm_; obtain ⟨y4, ht_⟩ := ht_; subst ht_
    subst hnn
    refine fl_seq ?_
    refine fl_seq ?_
    refine rl_start ?_
    refine rl_det (met_none rfl) (fun h_ H_ => exd_loadN_own H_ tA24 tS24 rfl (i := 1) rfl (vs := [.int .i64 (size), .int .i64 (start), .slice a n c]) rfl rfl) (tm' := _::_::_::_::_::_::_::_::_::_::_::_::_) rfl ?_
    refine rl_det (met_none rfl) (fun h_ H_ => exd_makeFunc (a := []) (b := [.pointer (some ⟨b3, 0, none⟩)]) rfl rfl) rfl ?_
    refine rl_own (L' := ([(b3, .cells #[.int .i64 (((k : Nat) : Int))] 3 (0, 0)), (b1, .cells #[.int .i64 (size), .int .i64 (start), .slice a n c] 24 (0, 0))] : Pcs) ++ []) rfl ?_
    refine rl_call (met_none rfl) (first := []) (cap := []) rfl rfl fC63 (R := fun v_ h_ => ∃ w6 : Value, ∃ X7 : Pcs, v_ = .agg #[.int .i64 (size), .int .i64 (start), w6] ∧ (OwnS 38 3 w6 (dcs (wmap (fun _ w => min w (((k : Nat) : Int))) ds)) X7) ∧ St h [] p h_ (([(b3, .cells #[.int .i64 (((k : Nat) : Int))] 3 (0, 0)), (b1, .cells #[.int .i64 (size), .int .i64 (start), .slice a n c] 24 (0, 0))] : Pcs) ++ (X7 ++ []))) (fun h_ H_ => (c63 md _ (padd p b3 (.cells #[.int .i64 (((k : Nat) : Int))] 3 (0, 0))) (H_.perO (i := 0) rfl) (size) (start) _ _ _ _ (D.mono (H_.leO (i := 0) rfl)) (by omega) (.func (.func 64) #[] #[.pointer (some ⟨b3, 0, none⟩)]) (fun _ w => min w (((k : Nat) : Int))) (fun h_ hp_ i_ hi_ => callv_of fC64 (c64 md _ _ hp_ _ _ (((k : Nat) : Int)) padd_self _))).mono fun v_ h2_ ⟨w6, X7, e_, o8, N_⟩ => ⟨w6, X7, e_, o8, H_.callNA N_⟩) fun v_ => ?_
    refine rl_ex fun w6 => rl_ex fun X7 => rl_and fun ev_ => rl_and fun o8 => ?_
    have ev_ := ev_.symm; subst ev_
    refine rl_own (L' := ([(b3, .cells #[.int .i64 (((k : Nat) : Int))] 3 (0, 0)), (b1, .cells #[.int .i64 (size), .int .i64 (start), .slice a n c] 24 (0, 0))] : Pcs) ++ (X7 ++ [])) rfl ?_
    refine rl_lastN (A := ([(b3, .cells #[.int .i64 (((k : Nat) : Int))] 3 (0, 0)), (b1, .cells #[.int .i64 (size), .int .i64 (start), .slice a n c] 24 (0, 0))] : Pcs)) o8 (show (dcs (wmap (fun _ w => min w (((k : Nat) : Int))) ds)).length = n by rw [dcs_length, wmap_length]; exact hl) fun p9 a10 cp11 le12 ev_ D13 => ?_
    subst ev_
    refine rl_own (L' := [(b3, .cells #[.int .i64 (((k : Nat) : Int))] 3 (0, 0)), (b1, .cells #[.int .i64 (size), .int .i64 (start), .slice a n c] 24 (0, 0))]) rfl ?_
    refine rl_calld (met_none rfl) (first := []) (cap := []) rfl rfl fC62 (fun h_ H_ => c62 md _ _ (fun b_ o_ e_ => H_.per b_ o_ e_) (size) (start) _ _ _ _ D13 (by omega) ⟨hOk.1, hOk.2.1, hOk.2.2.1⟩ (dok_wmap hOk.dok (fun i hi => by have := (hOk.dok i hi).2; omega))) (tm' := [_,_,_,_,_,_,_,_,_,_,_,_,_,_,_,_,_,_,_]) rfl ?_
    refine rl_det (met_none rfl) (fun h_ H_ => exd_not rfl) rfl ?_
    refine rl_end ?_
    by_cases cc14 : Lasts (size) (start) (wmap (fun _ w => min w (((k : Nat) : Int))) ds)
    · refine fl_else rfl (not_f (decide_eq_true cc14)) ?_
      refine fl_exit rfl ?_
      refine fl_seq ?_
      refine rl_start ?_
      refine rl_det (met_none rfl) (fun h_ H_ => exd_load_own H_ tA3 rfl (i := 0) rfl (v := .int .i64 (((k : Nat) : Int))) rfl) rfl ?_
      refine rl_det (met_none rfl) (fun h_ H_ => exd_assign (v := .int .i64 (((k : Nat) : Int))) rfl) (tm' := _::_::_::_) rfl ?_
      refine rl_det (met_none rfl) (fun h_ H_ => exd_assign (v := .int .i64 0) rfl) rfl ?_
      refine rl_end ?_
      refine fl_ret Try.func23 rfl (vs := [.int .i64 (((k : Nat) : Int)), .int .i64 0]) (fun h_ H_ => ⟨.int .i64 (((k : Nat) : Int)), _, rfl, rfl, ⟨.int .i64 0, _, rfl, rfl, rfl⟩⟩) (v := .tuple #[.int .i64 (((k : Nat) : Int)), .int .i64 0]) rfl ?_
      exact fun h_ H_ => K _ _ ⟨by rw [if_pos hOk, chk_yes hOk, hr, rat_at ‹_›], H_.kept⟩
    · refine fl_then rfl (not_t (decide_eq_false cc14)) ?_
      refine fl_skip ?_
      refine fl_block ?_
      refine rl_start ?_
      refine rl_det (met_none rfl) (fun h_ H_ => exd_load_own H_ tA3 rfl (i := 0) rfl (v := .int .i64 (((k : Nat) : Int))) rfl) rfl ?_
      refine rl_det (met_none rfl) (fun h_ H_ => exd_sub rfl rfl (wr (by omega))) (tm' := [_,_,_,_,_,_,_,_,_,_,_,_,_,_,_,_,_,_,_]) rfl ?_
      refine rl_store (met_none rfl) tS3 rfl (v := .int .i64 (((k : Nat) : Int) - 1)) rfl (i := 0) rfl rfl rfl (Nat.le_of_ble_eq_true rfl) (cs2 := [.int .i64 (((k : Nat) : Int) - 1)]) rfl (rl_own (L' := [(b3, .cells #[.int .i64 (((k : Nat) : Int) - 1)] 3 (0, 0)), (b1, .cells #[.int .i64 (size), .int .i64 (start), .slice a n c] 24 (0, 0))]) rfl ?_)
      refine rl_end ?_
      refine fl_inBlock ?_
      exact fun h_ H_ => IH5 _ _ (by have := rat_down ⟨hOk.1, hOk.2.2.1⟩ hOk.dok ‹¬ Lasts size start _›; omega) h_ ⟨k - 1, _, rfl, (y_of rfl), (by have := rat_down ⟨hOk.1, hOk.2.2.1⟩ hOk.dok ‹¬ Lasts size start _›; omega), (by omega), (hr.trans (rat_down ⟨hOk.1, hOk.2.2.1⟩ hOk.dok ‹¬ Lasts size start _›).2), (H_.forget le12)⟩
end Go.Proofs.Ytbmkacnlhlbnjaa
namespace Go.Proofs.Ytbmkacnlhlbnjaa
open Go.X Go.X.Cist Go.Conc
set_option maxRecDepth 10000

theorem c45 (md : Md) (h : Heap) (p : PHeap) (hp : Per p h) (size start : Int) (a : Option Addr) (n c : Nat) (ds : List Day) (D : Days p a n ds) (hn : n ≤ 40) : CallsX Try.prog md 45 #[.agg #[.int .i64 (size), .int .i64 (start), .slice a n c]] h fun v h' => v = .tuple #[.int .i64 (sizeR size start ds).1, .int .i64 (sizeR size start ds).2] ∧ Keep h h' := by
  refine calls_intro (Φ := fun h_ => St h [] p h_ []) Try.func45 rfl (tm := [_, _, _, _, _, _, _, _, _, _, _, _, _, _, _, _, _, _, _, _, _, _]) rfl ?_ (St.start h _ hp)
  intro c₀ cs Stop K
  have hl := D.len
  refine fl_seq ?_
  refine rl_start ?_
  refine rl_box (met_none rfl) (v := .agg #[.int .i64 (size), .int .i64 (start), .slice a n c]) rfl fun b1 => rl_own (L' := [(b1, .cells #[.int .i64 (size), .int .i64 (start), .slice a n c] 24 (0, 0))]) rfl ?_
  refine rl_det (met_none rfl) (fun h_ H_ => exd_assign (v := .int .i64 0) rfl) rfl ?_
  refine rl_det (met_none rfl) (fun h_ H_ => exd_assign (v := .int .i64 0) rfl) (tm' := _::_::_::_::_) rfl ?_
  refine rl_end ?_
  refine fl_seq ?_
  refine fl_seq ?_
  refine rl_start ?_
  refine rl_det (met_none rfl) (fun h_ H_ => exd_loadN_own H_ tA24 tS24 rfl (i := 0) rfl (vs := [.int .i64 (size), .int .i64 (start), .slice a n c]) rfl rfl) rfl ?_
  refine rl_calld (met_none rfl) (first := []) (cap := []) rfl rfl fC32 (fun h_ H_ => c32 md _ _ (fun b_ o_ e_ => H_.per b_ o_ e_) (size) (start) _ _ _ _ D (by omega)) rfl ?_
  refine rl_det (met_none rfl) (fun h_ H_ => exd_assign (v := .int .i64 (chk (size) (start) ds)) rfl) (tm' := _::_::_::_::_::_) rfl ?_
  refine rl_end ?_
  refine fl_seq ?_
  refine rl_start ?_
  refine rl_det (met_none rfl) (fun h_ H_ => exd_move (v := .int .i64 (chk (size) (start) ds)) rfl) rfl ?_
  refine rl_det (met_none rfl) (fun h_ H_ => exd_neq rfl rfl) rfl ?_
  refine rl_end ?_
  by_cases cc2 : chk (size) (start) ds ≠ 0
  · refine fl_then rfl (decide_eq_true cc2) ?_
    refine fl_seq ?_
    refine rl_start ?_
    refine rl_det (met_none rfl) (fun h_ H_ => exd_move (v := .int .i64 (chk (size) (start) ds)) rfl) (tm' := _::_::_::_::_::_::_::_::_::_::_) rfl ?_
    refine rl_det (met_none rfl) (fun h_ H_ => exd_assign (v := .int .i64 0) rfl) rfl ?_
    refine rl_det (met_none rfl) (fun h_ H_ => exd_assign (v := .int .i64 (chk (size) (start) ds)) rfl) rfl ?_
    refine rl_end ?_
    refine fl_ret Try.func45 rfl (vs := [.int .i64 0, .int .i64 (chk (size) (start) ds)]) (fun h_ H_ => ⟨.int .i64 0, _, rfl, rfl, ⟨.int .i64 (chk (size) (start) ds), _, rfl, rfl, rfl⟩⟩) (v := .tuple #[.int .i64 0, .int .i64 (chk (size) (start) ds)]) rfl ?_
    have hOk : ¬ Ok size start ds := fun e => absurd (chk_yes e) ‹_›
    exact fun h_ H_ => K _ _ ⟨by unfold sizeR; rw [if_neg hOk, chk_no hOk], H_.kept⟩
  · refine fl_else rfl (decide_eq_false cc2) ?_
    refine fl_skip ?_
    refine fl_seq ?_
    refine fl_seq ?_
    have hOk : Ok size start ds := chk_zero.1 (by omega)
    have ho1 := hOk.1; have ho2 := hOk.2.1; have ho3 := hOk.2.2.1
    refine rl_start ?_
    refine rl_det (met_none rfl) (fun h_ H_ => exd_fieldAddr tF24_0 rfl (a' := ⟨b1, 0, none⟩) rfl) (tm' := _::_::_::_::_::_::_::_::_::_::_::_) rfl ?_
    refine rl_store (met_none rfl) tS3 rfl (v := .int .i64 0) rfl (i := 0) rfl rfl rfl (Nat.le_of_ble_eq_true rfl) (cs2 := [.int .i64 0, .int .i64 (start), .slice a n c]) rfl (rl_own (L' := [(b1, .cells #[.int .i64 0, .int .i64 (start), .slice a n c] 24 (0, 0))]) rfl ?_)
    refine rl_end ?_
    refine fl_block ?_
    refine fl_loop (m₀ := 61 - 0) (fun m_ tm_ h_ => ∃ (k : Nat) (nn : Int), m_ = 61 - k ∧ (∃ y3 : Nat → Value, tm_ = [.agg #[.int .i64 (size), .int .i64 (start), .slice a n c], .pointer (some ⟨b1, 0, none⟩), (y3 2), (y3 3), .int .i64 (chk (size) (start) ds), .agg #[.int .i64 (size), .int .i64 (start), .slice a n c], .int .i64 (chk (size) (start) ds), .int .i64 (chk (size) (start) ds), .bool (decide (chk (size) (start) ds ≠ 0)), undef, .pointer (some ⟨b1, 0, none⟩), (y3 11), (y3 12), (y3 13), (y3 14), (y3 15), (y3 16), (y3 17), (y3 18), (y3 19), (y3 20), (y3 21)]) ∧ (nn = ((k : Nat) : Int)) ∧ (k ≤ 61) ∧ (upTo (fun k => decide (Lasts (k : Nat) start ds)) 0 (61) = upTo (fun k => decide (Lasts (k : Nat) start ds)) k (61 - k)) ∧ St h [] p h_ ([(b1, .cells #[.int .i64 (nn), .int .i64 (start), .slice a n c] 24 (0, 0))])) (fun h_ H_ => ⟨0, 0, rfl, (y_of rfl), rfl, Nat.zero_le _, rfl, H_⟩) ?_
    intro m_ tm_ IH4
    refine rs_ex fun k => rs_ex fun nn => rs_and fun hm_ => rs_and fun ht_ => rs_and fun hnn => rs_and fun hk => rs_and fun hr => ?_
    subst hm_; obtain ⟨y3, ht_⟩ := ht_; subst ht_
    subst hnn
    refine fl_seq ?_
    refine fl_seq ?_
    refine rl_start ?_
    refine rl_det (met_none rfl) (fun h_ H_ => exd_fieldAddr tF24_0 rfl (a' := ⟨b1, 0, none⟩) rfl) rfl ?_
    refine rl_det (met_none rfl) (fun h_ H_ => exd_load_own H_ tA3 rfl (i := 0) rfl (v := .int .i64 (((k : Nat) : Int))) rfl) rfl ?_
    refine rl_det (met_none rfl) (fun h_ H_ => exd_leq rfl rfl) (tm' := _::_::_::_::_::_::_::_::_::_::_::_::_::_::_) rfl ?_
    refine rl_end ?_
    by_cases cc5 : ((k : Nat) : Int) ≤ 60
    · refine fl_then rfl (decide_eq_true cc5) ?_
      refine fl_skip ?_
      refine fl_seq ?_
      refine fl_block ?_
      refine fl_seq ?_
      refine rl_start ?_
      refine rl_det (met_none rfl) (fun h_ H_ => exd_loadN_own H_ tA24 tS24 rfl (i := 0) rfl (vs := [.int .i64 (((k : Nat) : Int)), .int .i64 (start), .slice a n c]) rfl rfl) rfl ?_
      refine rl_calld (met_none rfl) (first := []) (cap := []) rfl rfl fC62 (fun h_ H_ => c62 md _ _ (fun b_ o_ e_ => H_.per b_ o_ e_) (((k : Nat) : Int)) (start) _ _ _ _ D (by omega) ⟨by omega, by omega, by omega⟩ hOk.dok) rfl ?_
      refine rl_end ?_
      by_cases cc6 : Lasts (((k : Nat) : Int)) (start) ds
      · refine fl_then rfl (decide_eq_true cc6) ?_
        refine fl_seq ?_
        refine rl_start ?_
        refine rl_det (met_none rfl) (fun h_ H_ => exd_fieldAddr tF24_0 rfl (a' := ⟨b1, 0, none⟩) rfl) (tm' := [_,_,_,_,_,_,_,_,_,_,_,_,_,_,_,_,_,_,_,_,_,_]) rfl ?_
        refine rl_det (met_none rfl) (fun h_ H_ => exd_load_own H_ tA3 rfl (i := 0) rfl (v := .int .i64 (((k : Nat) : Int))) rfl) rfl ?_
        refine rl_det (met_none rfl) (fun h_ H_ => exd_assign (v := .int .i64 (((k : Nat) : Int))) rfl) rfl ?_
        refine rl_det (met_none rfl) (fun h_ H_ => exd_assign (v := .int .i64 0) rfl) (tm' := _::_::_::_::_) rfl ?_
        refine rl_end ?_
        refine fl_ret Try.func45 rfl (vs := [.int .i64 (((k : Nat) : Int)), .int .i64 0]) (fun h_ H_ => ⟨.int .i64 (((k : Nat) : Int)), _, rfl, rfl, ⟨.int .i64 0, _, rfl, rfl, rfl⟩⟩) (v := .tuple #[.int .i64 (((k : Nat) : Int)), .int .i64 0]) rfl ?_
        exact fun h_ H_ => K _ _ ⟨by unfold sizeR; rw [if_pos hOk, hr, upTo_hit (by omega) (decide_eq_true ‹_›)]; rfl, H_.kept⟩
      · refine fl_else rfl (decide_eq_false cc6) ?_
        refine fl_skip ?_
        refine fl_inBlock ?_
        refine rl_start ?_
        refine rl_det (met_none rfl) (fun h_ H_ => exd_fieldAddr tF24_0 rfl (a' := ⟨b1, 0, none⟩) rfl) rfl ?_
        refine rl_det (met_none rfl) (fun h_ H_ => exd_load_own H_ tA3 rfl (i := 0) rfl (v := .int .i64 (((k : Nat) : Int))) rfl) rfl ?_
        refine rl_det (met_none rfl) (fun h_ H_ => exd_add rfl rfl (n := ((k + 1 : Nat) : Int)) (wr (by omega))) (tm' := [_,_,_,_,_,_,_,_,_,_,_,_,_,_,_,_,_,_,_,_,_,_]) rfl ?_
        refine rl_det (met_none rfl) (fun h_ H_ => exd_fieldAddr tF24_0 rfl (a' := ⟨b1, 0, none⟩) rfl) rfl ?_
        refine rl_store (met_none rfl) tS3 rfl (v := .int .i64 (((k + 1 : Nat) : Int))) rfl (i := 0) rfl rfl rfl (Nat.le_of_ble_eq_true rfl) (cs2 := [.int .i64 (((k + 1 : Nat) : Int)), .int .i64 (start), .slice a n c]) rfl (rl_own (L' := [(b1, .cells #[.int .i64 (((k + 1 : Nat) : Int)), .int .i64 (start), .slice a n c] 24 (0, 0))]) rfl ?_)
        refine rl_end ?_
        exact fun h_ H_ => IH4 _ _ (by omega) h_ ⟨k + 1, _, rfl, (y_of rfl), (by omega), (by omega), (hr.trans (upTo_miss (by omega) (decide_eq_false ‹_›))), H_⟩
    · refine fl_else rfl (decide_eq_false cc5) ?_
      refine fl_exit rfl ?_
      refine fl_seq ?_
      refine rl_start ?_
      refine rl_det (met_none rfl) (fun h_ H_ => exd_assign (v := .int .i64 0) rfl) rfl ?_
      refine rl_det (met_none rfl) (fun h_ H_ => exd_assign (v := .int .i64 3) rfl) (tm' := _::_::_::_::_) rfl ?_
      refine rl_end ?_
      refine fl_ret Try.func45 rfl (vs := [.int .i64 0, .int .i64 3]) (fun h_ H_ => ⟨.int .i64 0, _, rfl, rfl, ⟨.int .i64 3, _, rfl, rfl, rfl⟩⟩) (v := .tuple #[.int .i64 0, .int .i64 3]) rfl ?_
      exact fun h_ H_ => K _ _ ⟨by unfold sizeR; rw [if_pos hOk, hr, upTo_end (by omega)]; rfl, H_.kept⟩
theorem c83 (md : Md) (h : Heap) (n : Int) : CallsX Try.prog md 83 #[.int .i64 (n)] h fun v h' => v = .tuple #[.int .i64 (if n < 0 then 0 else n), .int .i64 (if n < 0 then 3 else 0)] ∧ Keep h h' := by
  refine calls_intro (Φ := fun h_ => St h [] (fun _ => none) h_ []) Try.func83 rfl (tm := [_, _, _, _, _, _, _]) rfl ?_ (St.start h _ (fun _ _ e => by cases e))
  intro c₀ cs Stop K
  refine fl_seq ?_
  refine rl_start ?_
  refine rl_det (met_none rfl) (fun h_ H_ => exd_assign (v := .int .i64 0) rfl) (tm' := _::_::_::_) rfl ?_
  refine rl_det (met_none rfl) (fun h_ H_ => exd_assign (v := .int .i64 0) rfl) rfl ?_
  refine rl_end ?_
  refine fl_seq ?_
  refine fl_seq ?_
  refine rl_start ?_
  refine rl_det (met_none rfl) (fun h_ H_ => exd_move (v := .int .i64 (n)) rfl) rfl ?_
  refine rl_det (met_none rfl) (fun h_ H_ => exd_lss rfl rfl) (tm' := [_,_,_,_,_,_,_]) rfl ?_
  refine rl_end ?_
  by_cases cc1 : n < 0
  · refine fl_then rfl (decide_eq_true cc1) ?_
    refine fl_seq ?_
    refine rl_start ?_
    refine rl_det (met_none rfl) (fun h_ H_ => exd_assign (v := .int .i64 0) rfl) rfl ?_
    refine rl_det (met_none rfl) (fun h_ H_ => exd_assign (v := .int .i64 3) rfl) rfl ?_
    refine rl_end ?_
    refine fl_ret Try.func83 rfl (vs := [.int .i64 0, .int .i64 3]) (fun h_ H_ => ⟨.int .i64 0, _, rfl, rfl, ⟨.int .i64 3, _, rfl, rfl, rfl⟩⟩) (v := .tuple #[.int .i64 0, .int .i64 3]) rfl ?_
    exact fun h_ H_ => K _ _ ⟨by first | (rw [if_pos ‹_›, if_pos ‹_›]) | (rw [if_neg ‹_›, if_neg ‹_›]), H_.kept⟩
  · refine fl_else rfl (decide_eq_false cc1) ?_
    refine fl_skip ?_
    refine fl_seq ?_
    refine rl_start ?_
    refine rl_det (met_none rfl) (fun h_ H_ => exd_move (v := .int .i64 (n)) rfl) (tm' := [_,_,_,_,_,_,_]) rfl ?_
    refine rl_det (met_none rfl) (fun h_ H_ => exd_assign (v := .int .i64 (n)) rfl) rfl ?_
    refine rl_det (met_none rfl) (fun h_ H_ => exd_assign (v := .int .i64 0) rfl) rfl ?_
    refine rl_end ?_
    refine fl_ret Try.func83 rfl (vs := [.int .i64 (n), .int .i64 0]) (fun h_ H_ => ⟨.int .i64 (n), _, rfl, rfl, ⟨.int .i64 0, _, rfl, rfl, rfl⟩⟩) (v := .tuple #[.int .i64 (n), .int .i64 0]) rfl ?_
    exact fun h_ H_ => K _ _ ⟨by first | (rw [if_pos ‹_›, if_pos ‹_›]) | (rw [if_neg ‹_›, if_neg ‹_›]), H_.kept⟩
end Go.Proofs.Ytbmkacnlhlbnjaa
