/-
  Part of proofs about cisterns, beside goroutines that are only leaving. No condition.
-/
import Derived.Test.YtbmkacnlhlbnjaaBase1
import Derived.Test.YtbmkacnlhlbnjaaBase2
import Derived.Test.YtbmkacnlhlbnjaaBase3
namespace Go.Proofs.Ytbmkacnlhlbnjaa
open Go.X Go.X.Cist Go.Conc
set_option maxRecDepth 10000

theorem c17 (md : Md) (h : Heap) (p : PHeap) (hp : Per p h) (size start : Int) (a : Option Addr) (n c : Nat) (ds : List Day) (D : Days p a n ds) (hn : n ≤ 40) (b : Option Addr) (m d : Nat) (xs : List Int) (A : Ints p b m xs) : CallsX Try.prog md 17 #[.agg #[.int .i64 (size), .int .i64 (start), .slice a n c], .slice b m d] h fun v h' => v = .bool (decide (Weather ds xs)) ∧ Keep h h' := by
  refine calls_intro (Φ := fun h_ => St h [] p h_ []) Try.func17 rfl (tm := [_, _, _, _, _, _, _, _, _, _, _, _, _, _, _, _, _, _, _, _, _, _, _, _, _, _, _, _, _, _, _, _, _, _, _, _, _, _]) rfl ?_ (St.start h _ hp)
  intro c₀ cs Stop K
  refine fl_seq ?_
  refine rl_start ?_
  refine rl_box (met_none rfl) (v := .agg #[.int .i64 (size), .int .i64 (start), .slice a n c]) rfl fun b1 => rl_own (L' := [(b1, .cells #[.int .i64 (size), .int .i64 (start), .slice a n c] 24 (0, 0))]) rfl ?_
  refine rl_norm (tm' := _::_::_::_) rfl ?_
  refine rl_det (met_none rfl) (fun h_ H_ => exd_assign (v := .bool (false)) rfl) (tm' := _::_::_::_::_::_) rfl ?_
  refine rl_end ?_
  refine fl_seq ?_
  refine fl_seq ?_
  refine rl_start ?_
  refine rl_det (met_none rfl) (fun h_ H_ => exd_move (v := .slice b m d) rfl) (tm' := _::_::_::_::_::_::_::_) rfl ?_
  refine rl_det (met_none rfl) (fun h_ H_ => exd_len Try.underlying25 rfl) (tm' := _::_::_::_::_::_::_::_::_) rfl ?_
  refine rl_det (met_none rfl) (fun h_ H_ => exd_fieldAddr tF24_2 rfl (a' := ⟨b1, 2, none⟩) rfl) (tm' := _::_::_::_::_::_::_::_::_::_) rfl ?_
  refine rl_det (met_none rfl) (fun h_ H_ => exd_load_own H_ tA22 rfl (i := 0) rfl (v := .slice a n c) rfl) (tm' := _::_::_::_::_::_::_::_::_::_::_) rfl ?_
  refine rl_det (met_none rfl) (fun h_ H_ => exd_len Try.underlying22 rfl) (tm' := _::_::_::_::_::_::_::_::_::_::_::_) rfl ?_
  refine rl_det (met_none rfl) (fun h_ H_ => exd_neq rfl rfl) (tm' := _::_::_::_::_::_::_::_::_::_::_::_::_) rfl ?_
  refine rl_end ?_
  by_cases c2 : ((m : Nat) : Int) ≠ ((n : Nat) : Int)
  · refine fl_then rfl (decide_eq_true c2) ?_
    refine fl_seq ?_
    refine rl_start ?_
    refine rl_det (met_none rfl) (fun h_ H_ => exd_assign (v := .bool (false)) rfl) (tm' := _::_::_::_::_::_) rfl ?_
    refine rl_end ?_
    refine fl_ret Try.func17 rfl (vs := [.bool (false)]) (fun h_ H_ => ⟨.bool (false), _, rfl, rfl, rfl⟩) (v := .bool (false)) rfl ?_
    have hl := D.len; have hm := A.len
    exact fun h_ H_ => K _ _ ⟨by first | (rw [decide_eq_true]; exact ⟨by omega, fun i hi => hs i (by omega)⟩) | (rw [decide_eq_false]; intro e; have := e.1; omega) | (rw [decide_eq_false]; intro e; have := e.2 k (by omega); omega), H_.kept⟩
  · refine fl_else rfl (decide_eq_false c2) ?_
    refine fl_skip ?_
    refine fl_seq ?_
    refine fl_seq ?_
    refine rl_start ?_
    refine rl_det (met_none rfl) (fun h_ H_ => exd_assign (v := .int .i64 0) rfl) (tm' := _::_::_::_::_::_::_) rfl ?_
    refine rl_end ?_
    refine fl_block ?_
    refine fl_loop (m₀ := n - 0) (fun m_ tm_ h_ => ∃ (k : Nat) (y3 : Nat → Value), m_ = n - k ∧ tm_ = [.agg #[.int .i64 (size), .int .i64 (start), .slice a n c], .slice b m d, .pointer (some ⟨b1, 0, none⟩), undef, (y3 0), .int .i64 (((k : Nat) : Int)), .slice b m d, .int .i64 (((m : Nat) : Int)), .pointer (some ⟨b1, 2, none⟩), .slice a n c, .int .i64 (((n : Nat) : Int)), .bool (decide (((m : Nat) : Int) ≠ ((n : Nat) : Int))), (y3 1), (y3 2), (y3 3), (y3 4), (y3 5), (y3 6), (y3 7), (y3 8), (y3 9), (y3 10), (y3 11), (y3 12), (y3 13), (y3 14), (y3 15), (y3 16), (y3 17), (y3 18), (y3 19), (y3 20), (y3 21), (y3 22), (y3 23), (y3 24), (y3 25), (y3 26)] ∧ (k ≤ n) ∧ (∀ i, i < k → (ds.getD i dz).lo ≤ xs.getD i 0 ∧ xs.getD i 0 ≤ (ds.getD i dz).hi) ∧ St h [] p h_ ([(b1, .cells #[.int .i64 (size), .int .i64 (start), .slice a n c] 24 (0, 0))])) (fun h_ H_ => ⟨0, (fun i_ => [.bool (false), undef, undef, undef, undef, undef, undef, undef, undef, undef, undef, undef, undef, undef, undef, undef, undef, undef, undef, undef, undef, undef, undef, undef, undef, undef, undef].getD i_ undef), rfl, rfl, Nat.zero_le _, (fun i hi => absurd hi (Nat.not_lt_zero i)), H_⟩) ?_
    intro m_ tm_ IH4
    refine rs_ex fun k => rs_ex fun y3 => rs_and fun hm_ => rs_and fun ht_ => rs_and fun hk => rs_and fun hs => ?_
    subst hm_; subst ht_
    refine fl_seq ?_
    refine fl_seq ?_
    refine rl_start ?_
    refine rl_det (met_none rfl) (fun h_ H_ => exd_move (v := .int .i64 (((k : Nat) : Int))) rfl) (tm' := _::_::_::_::_::_::_::_::_::_::_::_::_::_) rfl ?_
    refine rl_det (met_none rfl) (fun h_ H_ => exd_move (v := .slice b m d) rfl) (tm' := _::_::_::_::_::_::_::_::_::_::_::_::_::_::_) rfl ?_
    refine rl_det (met_none rfl) (fun h_ H_ => exd_len Try.underlying25 rfl) (tm' := _::_::_::_::_::_::_::_::_::_::_::_::_::_::_::_) rfl ?_
    refine rl_det (met_none rfl) (fun h_ H_ => exd_lss rfl rfl) (tm' := _::_::_::_::_::_::_::_::_::_::_::_::_::_::_::_::_) rfl ?_
    refine rl_end ?_
    by_cases c5 : ((k : Nat) : Int) < ((m : Nat) : Int)
    · refine fl_then rfl (decide_eq_true c5) ?_
      refine fl_skip ?_
      refine fl_seq ?_
      refine fl_block ?_
      refine fl_seq ?_
      refine fl_drawn 18 [[], [], [0, 1], [0, 1, 2], [], [4], [], [4, 5, 6], [4, 5, 6, 7], [4, 5, 6, 7, 8], [4, 5, 6, 7, 8, 9], [], [11], [], [11, 12, 13], [11, 12, 13, 14], [11, 12, 13, 14, 15], [11, 12, 13, 14, 15, 16], [0, 1, 2, 3, 4, 5, 6, 7, 8, 9, 10, 11, 12, 13, 14, 15, 16, 17], []] mixed (by kernel_rfl) (Nat.le_of_ble_eq_true rfl) (tmF := [.agg #[.int .i64 (size), .int .i64 (start), .slice a n c], .slice b m d, .pointer (some ⟨b1, 0, none⟩), undef, (y3 0), .int .i64 (((k : Nat) : Int)), .slice b m d, .int .i64 (((m : Nat) : Int)), .pointer (some ⟨b1, 2, none⟩), .slice a n c, .int .i64 (((n : Nat) : Int)), .bool (decide (((m : Nat) : Int) ≠ ((n : Nat) : Int))), .int .i64 (((k : Nat) : Int)), .slice b m d, .int .i64 (((m : Nat) : Int)), .bool (decide (((k : Nat) : Int) < ((m : Nat) : Int))), (y3 5), (y3 6), .slice b m d, .int .i64 (((k : Nat) : Int)), .pointer (some ((adr b).add (k * 1))), .int .i64 (xs.getD k 0), .pointer (some ⟨b1, 2, none⟩), .slice a n c, .int .i64 (((k : Nat) : Int)), .pointer (some ((adr a).add (k * 3))), .pointer (some ((adr a).add (k * 3))), .pointer (some ((adr a).add (k * 3))), .int .i64 ((ds.getD k dz).lo), .pointer (some ⟨b1, 2, none⟩), .slice a n c, .int .i64 (((k : Nat) : Int)), .pointer (some ((adr a).add (k * 3))), .pointer (some ((adr a).add (k * 3))), .pointer (some (((adr a).add (k * 3)).add 1)), .int .i64 ((ds.getD k dz).hi), (y3 25), (y3 26)]) ?_ ?_
      · refine sw_det (met_none rfl) (fun h_ H_ => exd_move (v := .slice b m d) rfl) (tm' := _::_::_::_::_::_::_::_::_::_::_::_::_::_::_::_::_::_::_::_) rfl ?_
        refine sw_det (met_none rfl) (fun h_ H_ => exd_move (v := .int .i64 (((k : Nat) : Int))) rfl) (tm' := _::_::_::_::_::_::_::_::_::_::_::_::_::_::_::_::_::_::_::_::_) rfl ?_
        refine sw_det (met_none rfl) (fun h_ H_ => exd_indexAddrN (i := k) Try.underlying25 tS3 (sl_ne b m d (A.ne (by omega))) rfl (by omega)) (tm' := _::_::_::_::_::_::_::_::_::_::_::_::_::_::_::_::_::_::_::_::_::_) rfl ?_
        refine sw_det (met_none rfl) (fun h_ H_ => exd_load_per H_ tA3 rfl (v := .int .i64 (xs.getD k 0)) (A.get (by omega))) (tm' := _::_::_::_::_::_::_::_::_::_::_::_::_::_::_::_::_::_::_::_::_::_::_) rfl ?_
        refine sw_det (met_none rfl) (fun h_ H_ => exd_fieldAddr tF24_2 rfl (a' := ⟨b1, 2, none⟩) rfl) (tm' := _::_::_::_::_::_::_::_::_::_::_::_::_::_::_::_::_::_::_::_::_::_::_::_) rfl ?_
        refine sw_det (met_none rfl) (fun h_ H_ => exd_load_own H_ tA22 rfl (i := 0) rfl (v := .slice a n c) rfl) (tm' := _::_::_::_::_::_::_::_::_::_::_::_::_::_::_::_::_::_::_::_::_::_::_::_::_) rfl ?_
        refine sw_det (met_none rfl) (fun h_ H_ => exd_move (v := .int .i64 (((k : Nat) : Int))) rfl) (tm' := _::_::_::_::_::_::_::_::_::_::_::_::_::_::_::_::_::_::_::_::_::_::_::_::_::_) rfl ?_
        refine sw_det (met_none rfl) (fun h_ H_ => exd_indexAddrN (i := k) Try.underlying22 tS38 (sl_ne a n c (D.ne (by omega))) rfl (by omega)) (tm' := [_,_,_,_,_,_,_,_,_,_,_,_,_,_,_,_,_,_,_,_,_,_,_,_,_,_,_,_,_,_,_,_,_,_,_,_,_,_]) rfl ?_
        refine sw_det (met_none rfl) (fun h_ H_ => exd_fieldAddr tF38_0 rfl (a' := (adr a).add (k * 3)) rfl) (tm' := [_,_,_,_,_,_,_,_,_,_,_,_,_,_,_,_,_,_,_,_,_,_,_,_,_,_,_,_,_,_,_,_,_,_,_,_,_,_]) rfl ?_
        refine sw_det (met_none rfl) (fun h_ H_ => exd_fieldAddr tF36_0 rfl (a' := (adr a).add (k * 3)) rfl) (tm' := [_,_,_,_,_,_,_,_,_,_,_,_,_,_,_,_,_,_,_,_,_,_,_,_,_,_,_,_,_,_,_,_,_,_,_,_,_,_]) rfl ?_
        refine sw_det (met_none rfl) (fun h_ H_ => exd_load_per H_ tA3 rfl (v := .int .i64 ((ds.getD k dz).lo)) (D.lo (by omega))) (tm' := [_,_,_,_,_,_,_,_,_,_,_,_,_,_,_,_,_,_,_,_,_,_,_,_,_,_,_,_,_,_,_,_,_,_,_,_,_,_]) rfl ?_
        refine sw_det (met_none rfl) (fun h_ H_ => exd_fieldAddr tF24_2 rfl (a' := ⟨b1, 2, none⟩) rfl) (tm' := [_,_,_,_,_,_,_,_,_,_,_,_,_,_,_,_,_,_,_,_,_,_,_,_,_,_,_,_,_,_,_,_,_,_,_,_,_,_]) rfl ?_
        refine sw_det (met_none rfl) (fun h_ H_ => exd_load_own H_ tA22 rfl (i := 0) rfl (v := .slice a n c) rfl) (tm' := [_,_,_,_,_,_,_,_,_,_,_,_,_,_,_,_,_,_,_,_,_,_,_,_,_,_,_,_,_,_,_,_,_,_,_,_,_,_]) rfl ?_
        refine sw_det (met_none rfl) (fun h_ H_ => exd_move (v := .int .i64 (((k : Nat) : Int))) rfl) (tm' := [_,_,_,_,_,_,_,_,_,_,_,_,_,_,_,_,_,_,_,_,_,_,_,_,_,_,_,_,_,_,_,_,_,_,_,_,_,_]) rfl ?_
        refine sw_det (met_none rfl) (fun h_ H_ => exd_indexAddrN (i := k) Try.underlying22 tS38 (sl_ne a n c (D.ne (by omega))) rfl (by omega)) (tm' := [_,_,_,_,_,_,_,_,_,_,_,_,_,_,_,_,_,_,_,_,_,_,_,_,_,_,_,_,_,_,_,_,_,_,_,_,_,_]) rfl ?_
        refine sw_det (met_none rfl) (fun h_ H_ => exd_fieldAddr tF38_0 rfl (a' := (adr a).add (k * 3)) rfl) (tm' := [_,_,_,_,_,_,_,_,_,_,_,_,_,_,_,_,_,_,_,_,_,_,_,_,_,_,_,_,_,_,_,_,_,_,_,_,_,_]) rfl ?_
        refine sw_det (met_none rfl) (fun h_ H_ => exd_fieldAddr tF36_1 rfl (a' := ((adr a).add (k * 3)).add 1) rfl) (tm' := [_,_,_,_,_,_,_,_,_,_,_,_,_,_,_,_,_,_,_,_,_,_,_,_,_,_,_,_,_,_,_,_,_,_,_,_,_,_]) rfl ?_
        refine sw_det (met_none rfl) (fun h_ H_ => exd_load_per H_ tA3 rfl (v := .int .i64 ((ds.getD k dz).hi)) (D.hi (by omega))) (tm' := [_,_,_,_,_,_,_,_,_,_,_,_,_,_,_,_,_,_,_,_,_,_,_,_,_,_,_,_,_,_,_,_,_,_,_,_,_,_]) rfl ?_
        exact sw_nil rfl rfl
      refine rl_calld (met_none rfl) (first := []) (cap := []) rfl rfl fC60 (fun h_ H_ => c60 md _ (xs.getD k 0) ((ds.getD k dz).lo) ((ds.getD k dz).hi)) (tm' := [_,_,_,_,_,_,_,_,_,_,_,_,_,_,_,_,_,_,_,_,_,_,_,_,_,_,_,_,_,_,_,_,_,_,_,_,_,_]) rfl ?_
      refine rl_det (met_none rfl) (fun h_ H_ => exd_not rfl) (tm' := [_,_,_,_,_,_,_,_,_,_,_,_,_,_,_,_,_,_,_,_,_,_,_,_,_,_,_,_,_,_,_,_,_,_,_,_,_,_]) rfl ?_
      refine rl_end ?_
      by_cases c6 : (ds.getD k dz).lo ≤ xs.getD k 0 ∧ xs.getD k 0 ≤ (ds.getD k dz).hi
      · refine fl_else rfl (not_f (decide_eq_true c6)) ?_
        refine fl_skip ?_
        refine fl_inBlock ?_
        refine rl_start ?_
        refine rl_det (met_none rfl) (fun h_ H_ => exd_move (v := .int .i64 (((k : Nat) : Int))) rfl) (tm' := _::_::_::_::_::_::_::_::_::_::_::_::_::_::_::_::_::_) rfl ?_
        refine rl_det (met_none rfl) (fun h_ H_ => exd_add rfl rfl (n := ((k + 1 : Nat) : Int)) (wr (by omega))) (tm' := _::_::_::_::_::_::_::_::_::_::_::_::_::_::_::_::_::_::_) rfl ?_
        refine rl_det (met_none rfl) (fun h_ H_ => exd_assign (v := .int .i64 (((k + 1 : Nat) : Int))) rfl) (tm' := _::_::_::_::_::_::_) rfl ?_
        refine rl_end ?_
        exact fun h_ H_ => IH4 _ _ (by omega) h_ ⟨k + 1, (fun i_ => [(y3 0), .int .i64 (((k : Nat) : Int)), .slice b m d, .int .i64 (((m : Nat) : Int)), .bool (decide (((k : Nat) : Int) < ((m : Nat) : Int))), .int .i64 (((k : Nat) : Int)), .int .i64 (((k + 1 : Nat) : Int)), .slice b m d, .int .i64 (((k : Nat) : Int)), .pointer (some ((adr b).add (k * 1))), .int .i64 (xs.getD k 0), .pointer (some ⟨b1, 2, none⟩), .slice a n c, .int .i64 (((k : Nat) : Int)), .pointer (some ((adr a).add (k * 3))), .pointer (some ((adr a).add (k * 3))), .pointer (some ((adr a).add (k * 3))), .int .i64 ((ds.getD k dz).lo), .pointer (some ⟨b1, 2, none⟩), .slice a n c, .int .i64 (((k : Nat) : Int)), .pointer (some ((adr a).add (k * 3))), .pointer (some ((adr a).add (k * 3))), .pointer (some (((adr a).add (k * 3)).add 1)), .int .i64 ((ds.getD k dz).hi), .bool (decide ((ds.getD k dz).lo ≤ xs.getD k 0 ∧ xs.getD k 0 ≤ (ds.getD k dz).hi)), .bool (!(decide ((ds.getD k dz).lo ≤ xs.getD k 0 ∧ xs.getD k 0 ≤ (ds.getD k dz).hi)))].getD i_ undef), rfl, rfl, (by omega), (weather_step hs ‹_›), H_⟩
      · refine fl_then rfl (not_t (decide_eq_false c6)) ?_
        refine fl_seq ?_
        refine rl_start ?_
        refine rl_det (met_none rfl) (fun h_ H_ => exd_assign (v := .bool (false)) rfl) (tm' := _::_::_::_::_::_) rfl ?_
        refine rl_end ?_
        refine fl_ret Try.func17 rfl (vs := [.bool (false)]) (fun h_ H_ => ⟨.bool (false), _, rfl, rfl, rfl⟩) (v := .bool (false)) rfl ?_
        have hl := D.len; have hm := A.len
        exact fun h_ H_ => K _ _ ⟨by first | (rw [decide_eq_true]; exact ⟨by omega, fun i hi => hs i (by omega)⟩) | (rw [decide_eq_false]; intro e; have := e.1; omega) | (rw [decide_eq_false]; intro e; have := e.2 k (by omega); omega), H_.kept⟩
    · refine fl_else rfl (decide_eq_false c5) ?_
      refine fl_exit rfl ?_
      refine fl_seq ?_
      refine rl_start ?_
      refine rl_det (met_none rfl) (fun h_ H_ => exd_assign (v := .bool (true)) rfl) (tm' := _::_::_::_::_::_) rfl ?_
      refine rl_end ?_
      refine fl_ret Try.func17 rfl (vs := [.bool (true)]) (fun h_ H_ => ⟨.bool (true), _, rfl, rfl, rfl⟩) (v := .bool (true)) rfl ?_
      have hl := D.len; have hm := A.len
      exact fun h_ H_ => K _ _ ⟨by first | (rw [decide_eq_true]; exact ⟨by omega, fun i hi => hs i (by omega)⟩) | (rw [decide_eq_false]; intro e; have := e.1; omega) | (rw [decide_eq_false]; intro e; have := e.2 k (by omega); omega), H_.kept⟩
theorem c30 (md : Md) (h : Heap) (p : PHeap) (hp : Per p h) (size start : Int) (a : Option Addr) (n c : Nat) (ds : List Day) (D : Days p a n ds) (hn : n ≤ 40) : CallsX Try.prog md 30 #[.agg #[.int .i64 (size), .int .i64 (start), .slice a n c]] h fun v h' => ∃ w X, v = .agg #[.int .i64 size, .int .i64 start, w] ∧ OwnS 38 3 w (dcs ds) X ∧ New h h' X := by
  refine calls_intro (Φ := fun h_ => St h [] p h_ []) Try.func30 rfl (tm := [_, _, _, _, _, _, _, _, _, _, _]) rfl ?_ (St.start h _ hp)
  intro c₀ cs Stop K
  refine fl_seq ?_
  refine rl_start ?_
  refine rl_box (met_none rfl) (v := .agg #[.int .i64 (size), .int .i64 (start), .slice a n c]) rfl fun b1 => rl_own (L' := [(b1, .cells #[.int .i64 (size), .int .i64 (start), .slice a n c] 24 (0, 0))]) rfl ?_
  refine rl_norm (tm' := _::_::_) rfl ?_
  refine rl_alloc (met_none rfl) tZ24 rfl fun b2 => rl_own (L' := [(b2, .cells #[.int .i64 0, .int .i64 0, .slice none 0 0] 24 (0, 0)), (b1, .cells #[.int .i64 (size), .int .i64 (start), .slice a n c] 24 (0, 0))]) rfl ?_
  refine rl_norm (tm' := _::_::_::_) rfl ?_
  refine rl_end ?_
  refine fl_seq ?_
  refine rl_start ?_
  refine rl_det (met_none rfl) (fun h_ H_ => exd_loadN_own H_ tA24 tS24 rfl (i := 1) rfl (vs := [.int .i64 (size), .int .i64 (start), .slice a n c]) rfl rfl) (tm' := _::_::_::_::_::_) rfl ?_
  refine rl_alloc (met_none rfl) tZ24 rfl fun b3 => rl_own (L' := [(b3, .cells #[.int .i64 0, .int .i64 0, .slice none 0 0] 24 (0, 0)), (b2, .cells #[.int .i64 0, .int .i64 0, .slice none 0 0] 24 (0, 0)), (b1, .cells #[.int .i64 (size), .int .i64 (start), .slice a n c] 24 (0, 0))]) rfl ?_
  refine rl_norm (tm' := _::_::_::_::_) rfl ?_
  refine rl_store (met_none rfl) tS24 rfl (v := .agg #[.int .i64 (size), .int .i64 (start), .slice a n c]) rfl (i := 0) rfl rfl rfl (Nat.le_of_ble_eq_true rfl) (cs2 := [.int .i64 (size), .int .i64 (start), .slice a n c]) rfl (rl_own (L' := [(b3, .cells #[.int .i64 (size), .int .i64 (start), .slice a n c] 24 (0, 0)), (b2, .cells #[.int .i64 0, .int .i64 0, .slice none 0 0] 24 (0, 0)), (b1, .cells #[.int .i64 (size), .int .i64 (start), .slice a n c] 24 (0, 0))]) rfl ?_)
  refine rl_end ?_
  refine fl_seq ?_
  refine rl_start ?_
  refine rl_own (L' := ([(b3, .cells #[.int .i64 (size), .int .i64 (start), .slice a n c] 24 (0, 0)), (b2, .cells #[.int .i64 0, .int .i64 0, .slice none 0 0] 24 (0, 0)), (b1, .cells #[.int .i64 (size), .int .i64 (start), .slice a n c] 24 (0, 0))] : Pcs) ++ []) rfl ?_
  refine rl_buildO ([(b3, .cells #[.int .i64 (size), .int .i64 (start), .slice a n c] 24 (0, 0)), (b2, .cells #[.int .i64 0, .int .i64 0, .slice none 0 0] 24 (0, 0)), (b1, .cells #[.int .i64 (size), .int .i64 (start), .slice a n c] 24 (0, 0))] : Pcs) (met_none rfl) Try.underlying22 tS38 tZ38 (Nat.le_of_ble_eq_true rfl) (vs := []) rfl rfl (es := []) rfl rfl rfl fun v4 X5 o6 => ?_
  refine rl_norm (tm' := _::_::_::_::_::_::_) rfl ?_
  refine rl_det (met_none rfl) (fun h_ H_ => exd_fieldAddr tF24_2 rfl (a' := ⟨b1, 2, none⟩) rfl) (tm' := _::_::_::_::_::_::_::_) rfl ?_
  refine rl_det (met_none rfl) (fun h_ H_ => exd_load_own H_ tA22 rfl (i := 2) rfl (v := .slice a n c) rfl) (tm' := [_,_,_,_,_,_,_,_,_,_,_]) rfl ?_
  refine rl_appendP ([(b3, .cells #[.int .i64 (size), .int .i64 (start), .slice a n c] 24 (0, 0)), (b2, .cells #[.int .i64 0, .int .i64 0, .slice none 0 0] 24 (0, 0)), (b1, .cells #[.int .i64 (size), .int .i64 (start), .slice a n c] 24 (0, 0))] : Pcs) X5 (met_none rfl) Try.underlying22 tS38 tZ38 rfl tB38 Try.underlying22 rfl rfl o6 D (dcs_ones _) (by simp only [List.length_nil]; omega) (by decide) (by decide) fun v7 X8 o9 => ?_
  refine rl_norm (tm' := [_,_,_,_,_,_,_,_,_,_,_]) rfl ?_
  refine rl_det (met_none rfl) (fun h_ H_ => exd_fieldAddr tF24_2 rfl (a' := ⟨b3, 2, none⟩) rfl) (tm' := [_,_,_,_,_,_,_,_,_,_,_]) rfl ?_
  refine rl_store1 (met_none rfl) tS22 rfl (v := v7) rfl o9.one (i := 0) rfl (Nat.succ_le_iff.1 (Nat.le_of_ble_eq_true rfl)) (cs2 := [.int .i64 (size), .int .i64 (start), v7]) rfl (rl_own (L' := ([(b3, .cells #[.int .i64 (size), .int .i64 (start), v7] 24 (0, 0)), (b2, .cells #[.int .i64 0, .int .i64 0, .slice none 0 0] 24 (0, 0)), (b1, .cells #[.int .i64 (size), .int .i64 (start), .slice a n c] 24 (0, 0))] : Pcs) ++ (X8 ++ [])) rfl ?_)
  refine rl_end ?_
  refine fl_seq ?_
  refine rl_start ?_
  refine rl_det (met_none rfl) (fun h_ H_ => exd_loadN_own H_ tA24 tS24 rfl (i := 0) rfl (vs := [.int .i64 (size), .int .i64 (start), v7]) rfl rfl) (tm' := [_,_,_,_,_,_,_,_,_,_,_]) rfl ?_
  refine rl_store (met_none rfl) tS24 rfl (v := .agg #[.int .i64 (size), .int .i64 (start), v7]) rfl (i := 1) rfl rfl (ones_cons rfl (ones_cons rfl (ones_cons o9.one.2 rfl))) (Nat.le_of_ble_eq_true rfl) (cs2 := [.int .i64 (size), .int .i64 (start), v7]) rfl (rl_own (L' := ([(b3, .cells #[.int .i64 (size), .int .i64 (start), v7] 24 (0, 0)), (b2, .cells #[.int .i64 (size), .int .i64 (start), v7] 24 (0, 0)), (b1, .cells #[.int .i64 (size), .int .i64 (start), .slice a n c] 24 (0, 0))] : Pcs) ++ (X8 ++ [])) rfl ?_)
  refine rl_end ?_
  refine fl_ret Try.func30 rfl (vs := [.agg #[.int .i64 (size), .int .i64 (start), v7]]) (fun h_ H_ => ⟨.agg #[.int .i64 (size), .int .i64 (start), v7], _, rfl, (wpS_bind (wpS_pure (wpS_loadVarN tA24 tS24 (vs := [.int .i64 (size), .int .i64 (start), v7]) rfl (fun j_ v_ e_ => by rw [add_mk]; exact H_.ocell (i := 1) rfl (by simpa using e_)) ⟨rfl, rfl⟩))), rfl⟩) (v := .agg #[.int .i64 (size), .int .i64 (start), v7]) rfl ?_
  exact fun h_ H_ => K _ _ ⟨_, _, rfl, o9, by simpa using H_.dropA.new⟩
end Go.Proofs.Ytbmkacnlhlbnjaa
namespace Go.X
open Go.Conc
section
variable {P : Program} {h : Heap} {tm : List Value} {d : Option Tmp} {ty : TypeId} {pos : String} {aft : Array Edge} {gd : Option (Nat × Bool)}
theorem wpS_eqBool {d : Nat} {t : TypeId} {a b : Bool} {K : Bool → Heap → Prop} (ht : P.underlying t = some .bool) (x : K (a == b) h) : wpS P (Op.equalIn (d + 1) t (.bool a) (.bool b)) h K := by
  simp only [Op.equalIn]
  refine wpS_bind (wpS_underlying ht ?_)
  exact wpS_pure x
theorem eqBool_guard {op : BinOp} {T : TypeId} {x y : Operand} {a b : Bool} {K : Unit → Heap → Prop} (z : K () h) : wpS P (eqGuard op T x y (.bool a) (.bool b)) h K := by
  unfold eqGuard
  cases op <;> first | (rw [if_pos (by rfl)]; exact wpS_pure z) | (rw [if_neg (by decide)]; exact wpS_pure z)
theorem beq_iff' {p q : Prop} [Decidable p] [Decidable q] : (decide p == decide q) = decide (p ↔ q) := by
  by_cases hp : p <;> by_cases hq : q <;> simp [hp, hq]
theorem exd_eqlP {T T' : TypeId} {x y : Operand} {p q : Prop} [Decidable p] [Decidable q] (ht : P.underlying T = some .bool) (hx : evl tm x = .bool (decide p)) (hy : evl tm y = .bool (decide q)) :
    Exd P tm ⟨d, .binOp .eql T x y T', ty, pos, aft, gd⟩ h (.bool (decide (p ↔ q))) := by
  refine exd_bin hx hy (fun K z => eqBool_guard z) ?_
  simp only [binOp, Op.equal, Op.maxDepth]
  refine wpS_bind (wpS_eqBool ht ?_)
  exact wpS_pure ⟨by rw [beq_iff'], rfl⟩
theorem exd_neqP {T T' : TypeId} {x y : Operand} {p q : Prop} [Decidable p] [Decidable q] (ht : P.underlying T = some .bool) (hx : evl tm x = .bool (decide p)) (hy : evl tm y = .bool (decide q)) :
    Exd P tm ⟨d, .binOp .neq T x y T', ty, pos, aft, gd⟩ h (.bool (!decide (p ↔ q))) := by
  refine exd_bin hx hy (fun K z => eqBool_guard z) ?_
  simp only [binOp, Op.equal, Op.maxDepth]
  refine wpS_bind (wpS_eqBool ht ?_)
  exact wpS_pure ⟨by rw [beq_iff'], rfl⟩
end
end Go.X
namespace Go.X
open Go.Conc
section
variable {P : Program} {md : Md} {ops : List Oper} {tm : List Value} {h₀ : Heap} {B₀ : List Nat} {p : PHeap} {A : Pcs} {ty : TypeId} {pos : String} {aft : Array Edge} {gd : Option (Nat × Bool)}
theorem mix_put {T T' : TypeId} {x y : Operand} {b off nsz : Nat} {cs' cs2 : List Value} {v : Value} {q : Value → Pcs → Prop} (hm : Met ops tm ⟨none, .store T x y, ty, pos, aft, gd⟩ true) (hs : sizeT P T = some nsz)
    (hx : evl tm x = .pointer (some ⟨b, off, none⟩)) (hy : evl tm y = v) (hv : v.cells.size = nsz) (h1 : v.cells.toList.all isOne = true) (hlen : off + v.cells.size ≤ cs'.length) (h2 : setl cs' off v.cells.toList = cs2)
    (hq : q undef [(b, .cells cs2.toArray T' (0, 0))]) : Mix P md ops tm h₀ B₀ p A ([(b, .cells cs'.toArray T' (0, 0))] ++ []) q ⟨none, .store T x y, ty, pos, aft, gd⟩ :=
  .inl ⟨hm, fun C h s => .inl (by
    unfold Exv
    simp only [execOp, hx, hy]
    refine wpS_bind ?_
    unfold Instr.storeAt
    refine wpS_bind (wpS_pure ?_)
    unfold storeVar
    refine wpS_bind (wpS_sizeOf hs ?_)
    rw [if_neg (by simpa using hv)]
    refine wpS_storeCells (i := 0) s rfl (by simpa using hlen) (fun u hu => List.all_eq_true.1 h1 u hu) fun h' s' => ?_
    refine wpS_pure ⟨undef, .inr ⟨rfl, rfl⟩, _, hq, ?_⟩
    rw [Nat.add_zero, h2] at s'
    exact s')⟩
end
end Go.X
