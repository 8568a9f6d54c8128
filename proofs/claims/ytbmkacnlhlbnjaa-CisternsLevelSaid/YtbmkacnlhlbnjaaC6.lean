/-
  Part of proofs about cisterns, beside goroutines that are only leaving. No condition.
-/
import Derived.Test.YtbmkacnlhlbnjaaC4
import Derived.Test.YtbmkacnlhlbnjaaC2
import Derived.Test.YtbmkacnlhlbnjaaC5
import Derived.Test.YtbmkacnlhlbnjaaC3x
namespace Go.Proofs.Ytbmkacnlhlbnjaa
open Go.X Go.X.Cist Go.Conc
set_option maxRecDepth 10000

theorem c39 (md : Md) (h : Heap) (p : PHeap) (hp : Per p h) (size start : Int) (a : Option Addr) (n c : Nat) (ds : List Day) (D : Days p a n ds) : CallsX Try.prog md 39 #[.agg #[.int .i64 (size), .int .i64 (start), .slice a n c]] h fun v h' => v = .bool (decide (FarD size start ds)) ∧ Keep h h' := by
  refine calls_intro (Φ := fun h_ => St h [] p h_ []) Try.func39 rfl (tm := [_, _, _, _, _, _, _, _, _, _, _, _, _, _, _, _, _, _, _, _, _, _, _, _, _, _, _, _, _, _, _, _, _, _, _, _, _, _, _]) rfl ?_ (St.start h _ hp)
  intro c₀ cs Stop K
  have hl := D.len
  refine fl_seq ?_
  refine rl_start ?_
  refine rl_box (met_none rfl) (v := .agg #[.int .i64 (size), .int .i64 (start), .slice a n c]) rfl fun b1 => rl_own (L' := [(b1, .cells #[.int .i64 (size), .int .i64 (start), .slice a n c] 24 (0, 0))]) rfl ?_
  refine rl_det (met_none rfl) (fun h_ H_ => exd_assign (v := .bool (false)) rfl) rfl ?_
  refine rl_end ?_
  refine fl_seq ?_
  refine fl_seq ?_
  refine rl_start ?_
  refine rl_det (met_none rfl) (fun h_ H_ => exd_fieldAddr tF24_2 rfl (a' := ⟨b1, 2, none⟩) rfl) (tm' := _::_::_::_::_::_::_) rfl ?_
  refine rl_det (met_none rfl) (fun h_ H_ => exd_load_own H_ tA22 rfl (i := 0) rfl (v := .slice a n c) rfl) rfl ?_
  refine rl_det (met_none rfl) (fun h_ H_ => exd_len Try.underlying22 rfl) rfl ?_
  refine rl_det (met_none rfl) (fun h_ H_ => exd_gtr rfl rfl) (tm' := _::_::_::_::_::_::_::_::_::_) rfl ?_
  refine rl_end ?_
  by_cases cc2 : 40 < ((n : Nat) : Int)
  · refine fl_then rfl (decide_eq_true cc2) ?_
    refine fl_seq ?_
    refine rl_start ?_
    refine rl_det (met_none rfl) (fun h_ H_ => exd_assign (v := .bool (true)) rfl) rfl ?_
    refine rl_end ?_
    refine fl_ret Try.func39 rfl (vs := [.bool (true)]) (fun h_ H_ => ⟨.bool (true), _, rfl, rfl, rfl⟩) (v := .bool (true)) rfl ?_
    exact fun h_ H_ => K _ _ ⟨by rw [decide_eq_true]; first | exact .inl (by omega) | exact .inr ⟨hOk, Int.lt_of_lt_of_le (show 60 < cnt ds (k + 1) from ‹_›) (by have := cnt_le hOk.dok (k := k + 1) (n - (k + 1)) (by omega); rwa [show k + 1 + (n - (k + 1)) = ds.length from by omega] at this)⟩, H_.kept⟩
  · refine fl_else rfl (decide_eq_false cc2) ?_
    refine fl_skip ?_
    refine fl_seq ?_
    refine fl_seq ?_
    refine rl_start ?_
    refine rl_det (met_none rfl) (fun h_ H_ => exd_loadN_own H_ tA24 tS24 rfl (i := 0) rfl (vs := [.int .i64 (size), .int .i64 (start), .slice a n c]) rfl rfl) rfl ?_
    refine rl_calld (met_none rfl) (first := []) (cap := []) rfl rfl fC33 (fun h_ H_ => c33 md _ _ (fun b_ o_ e_ => H_.per b_ o_ e_) (size) (start) _ _ _ _ D (by omega)) (tm' := _::_::_::_::_::_::_::_::_::_::_::_) rfl ?_
    refine rl_det (met_none rfl) (fun h_ H_ => exd_neq rfl rfl) rfl ?_
    refine rl_end ?_
    by_cases cc3 : chk (size) (start) ds ≠ 0
    · refine fl_then rfl (decide_eq_true cc3) ?_
      refine fl_seq ?_
      refine rl_start ?_
      refine rl_det (met_none rfl) (fun h_ H_ => exd_assign (v := .bool (false)) rfl) rfl ?_
      refine rl_end ?_
      refine fl_ret Try.func39 rfl (vs := [.bool (false)]) (fun h_ H_ => ⟨.bool (false), _, rfl, rfl, rfl⟩) (v := .bool (false)) rfl ?_
      exact fun h_ H_ => K _ _ ⟨by rw [decide_eq_false]; first | exact fun e => e.elim (fun e => by omega) (fun e => absurd (chk_yes e.1) ‹_›) | exact fun e => e.elim (fun e => by omega) (fun e => by have h2 := e.2; rw [hl, show n = k from by omega] at h2; omega), H_.kept⟩
    · refine fl_else rfl (decide_eq_false cc3) ?_
      refine fl_skip ?_
      refine fl_seq ?_
      have hOk : Ok size start ds := chk_zero.1 (by omega)
      refine rl_start ?_
      refine rl_det (met_none rfl) (fun h_ H_ => exd_assign (v := .int .i64 1) rfl) (tm' := _::_::_::_::_) rfl ?_
      refine rl_end ?_
      refine fl_seq ?_
      refine fl_seq ?_
      refine rl_start ?_
      refine rl_det (met_none rfl) (fun h_ H_ => exd_assign (v := .int .i64 0) rfl) rfl ?_
      refine rl_end ?_
      refine fl_block ?_
      refine fl_loop (m₀ := n - 0) (fun m_ tm_ h_ => ∃ (k : Nat), m_ = n - k ∧ (∃ y4 : Nat → Value, tm_ = [.agg #[.int .i64 (size), .int .i64 (start), .slice a n c], .pointer (some ⟨b1, 0, none⟩), (y4 2), .int .i64 (cnt ds k), .int .i64 (((k : Nat) : Int)), .pointer (some ⟨b1, 2, none⟩), .slice a n c, .int .i64 (((n : Nat) : Int)), .bool (decide (40 < ((n : Nat) : Int))), .agg #[.int .i64 (size), .int .i64 (start), .slice a n c], .int .i64 (chk (size) (start) ds), .bool (decide (chk (size) (start) ds ≠ 0)), (y4 12), (y4 13), (y4 14), (y4 15), (y4 16), (y4 17), (y4 18), (y4 19), (y4 20), (y4 21), (y4 22), (y4 23), (y4 24), (y4 25), (y4 26), (y4 27), (y4 28), (y4 29), (y4 30), (y4 31), (y4 32), (y4 33), (y4 34), (y4 35), (y4 36), (y4 37), (y4 38)]) ∧ (k ≤ n) ∧ (cnt ds k ≤ 60) ∧ St h [] p h_ ([(b1, .cells #[.int .i64 (size), .int .i64 (start), .slice a n c] 24 (0, 0))])) (fun h_ H_ => ⟨0, rfl, (y_of rfl), Nat.zero_le _, (show (1 : Int) ≤ 60 by omega), H_⟩) ?_
      intro m_ tm_ IH5
      refine rs_ex fun k => rs_and fun hm_ => rs_and fun ht_ => rs_and fun hk => rs_and fun hc => ?_
      subst hm_; obtain ⟨y4, ht_⟩ := ht_; subst ht_
      have hdk := hOk.dok k
      refine fl_seq ?_
      refine fl_seq ?_
      refine rl_start ?_
      refine rl_det (met_none rfl) (fun h_ H_ => exd_move (v := .int .i64 (((k : Nat) : Int))) rfl) rfl ?_
      refine rl_det (met_none rfl) (fun h_ H_ => exd_fieldAddr tF24_2 rfl (a' := ⟨b1, 2, none⟩) rfl) (tm' := _::_::_::_::_::_::_::_::_::_::_::_::_::_::_) rfl ?_
      refine rl_det (met_none rfl) (fun h_ H_ => exd_load_own H_ tA22 rfl (i := 0) rfl (v := .slice a n c) rfl) rfl ?_
      refine rl_det (met_none rfl) (fun h_ H_ => exd_len Try.underlying22 rfl) rfl ?_
      refine rl_det (met_none rfl) (fun h_ H_ => exd_lss rfl rfl) (tm' := _::_::_::_::_::_::_::_::_::_::_::_::_::_::_::_::_::_) rfl ?_
      refine rl_end ?_
      by_cases cc6 : ((k : Nat) : Int) < ((n : Nat) : Int)
      · refine fl_then rfl (decide_eq_true cc6) ?_
        refine fl_skip ?_
        refine fl_seq ?_
        refine fl_block ?_
        refine fl_seq ?_
        refine fl_drawn2 17 [[], [], [1], [], [1, 2, 3], [1, 2, 3, 4], [1, 2, 3, 4, 5], [1, 2, 3, 4, 5, 6], [], [8], [], [8, 9, 10], [8, 9, 10, 11], [8, 9, 10, 11, 12], [8, 9, 10, 11, 12, 13], [1, 2, 3, 4, 5, 6, 7, 8, 9, 10, 11, 12, 13, 14], [1, 2, 3, 4, 5, 6, 7, 8, 9, 10, 11, 12, 13, 14, 15], [], []] mixed (by kernel_rfl) (Nat.le_of_ble_eq_true rfl) ?_
        refine swr_det (met_none rfl) (fun h_ H_ => exd_move (v := .int .i64 (cnt ds k)) rfl) rfl ?_
        refine swr_det (met_none rfl) (fun h_ H_ => exd_fieldAddr tF24_2 rfl (a' := ⟨b1, 2, none⟩) rfl) (tm' := _::_::_::_::_::_::_::_::_::_::_::_::_::_::_::_::_::_::_::_::_::_) rfl ?_
        refine swr_det (met_none rfl) (fun h_ H_ => exd_load_own H_ tA22 rfl (i := 0) rfl (v := .slice a n c) rfl) rfl ?_
        refine swr_det (met_none rfl) (fun h_ H_ => exd_move (v := .int .i64 (((k : Nat) : Int))) rfl) (tm' := _::_::_::_::_::_::_::_::_::_::_::_::_::_::_::_::_::_::_::_::_::_::_::_) rfl ?_
        refine swr_det (met_none rfl) (fun h_ H_ => exd_indexAddrN (i := k) Try.underlying22 tS38 (sl_ne a n c (D.ne (by omega))) rfl (by omega)) rfl ?_
        refine swr_det (met_none rfl) (fun h_ H_ => exd_fieldAddr tF38_0 rfl (a' := (adr a).add (k * 3)) rfl) (tm' := _::_::_::_::_::_::_::_::_::_::_::_::_::_::_::_::_::_::_::_::_::_::_::_::_::_) rfl ?_
        refine swr_det (met_none rfl) (fun h_ H_ => exd_fieldAddr tF36_1 rfl (a' := ((adr a).add (k * 3)).add 1) rfl) rfl ?_
        refine swr_det (met_none rfl) (fun h_ H_ => exd_load_per H_ tA3 rfl (v := .int .i64 ((ds.getD k dz).hi)) (D.hi (by omega))) (tm' := [_,_,_,_,_,_,_,_,_,_,_,_,_,_,_,_,_,_,_,_,_,_,_,_,_,_,_,_,_,_,_,_,_,_,_,_,_,_,_]) rfl ?_
        refine swr_det (met_none rfl) (fun h_ H_ => exd_fieldAddr tF24_2 rfl (a' := ⟨b1, 2, none⟩) rfl) rfl ?_
        refine swr_det (met_none rfl) (fun h_ H_ => exd_load_own H_ tA22 rfl (i := 0) rfl (v := .slice a n c) rfl) (tm' := [_,_,_,_,_,_,_,_,_,_,_,_,_,_,_,_,_,_,_,_,_,_,_,_,_,_,_,_,_,_,_,_,_,_,_,_,_,_,_]) rfl ?_
        refine swr_det (met_none rfl) (fun h_ H_ => exd_move (v := .int .i64 (((k : Nat) : Int))) rfl) rfl ?_
        refine swr_det (met_none rfl) (fun h_ H_ => exd_indexAddrN (i := k) Try.underlying22 tS38 (sl_ne a n c (D.ne (by omega))) rfl (by omega)) (tm' := [_,_,_,_,_,_,_,_,_,_,_,_,_,_,_,_,_,_,_,_,_,_,_,_,_,_,_,_,_,_,_,_,_,_,_,_,_,_,_]) rfl ?_
        refine swr_det (met_none rfl) (fun h_ H_ => exd_fieldAddr tF38_0 rfl (a' := (adr a).add (k * 3)) rfl) rfl ?_
        refine swr_det (met_none rfl) (fun h_ H_ => exd_fieldAddr tF36_0 rfl (a' := (adr a).add (k * 3)) rfl) (tm' := [_,_,_,_,_,_,_,_,_,_,_,_,_,_,_,_,_,_,_,_,_,_,_,_,_,_,_,_,_,_,_,_,_,_,_,_,_,_,_]) rfl ?_
        refine swr_det (met_none rfl) (fun h_ H_ => exd_load_per H_ tA3 rfl (v := .int .i64 ((ds.getD k dz).lo)) (D.lo (by omega))) rfl ?_
        refine swr_det (met_none rfl) (fun h_ H_ => exd_sub rfl rfl (wr (by first | omega | exact mul_bound ⟨cnt_mono hOk.dok (by omega), hc⟩ (by omega)))) (tm' := [_,_,_,_,_,_,_,_,_,_,_,_,_,_,_,_,_,_,_,_,_,_,_,_,_,_,_,_,_,_,_,_,_,_,_,_,_,_,_]) rfl ?_
        refine swr_det (met_none rfl) (fun h_ H_ => exd_add rfl rfl (wr (by first | omega | exact mul_bound ⟨cnt_mono hOk.dok (by omega), hc⟩ (by omega)))) rfl ?_
        refine swr_nil rfl ?_
        refine rl_det (met_none rfl) (fun h_ H_ => exd_mul rfl rfl (wr (by first | omega | exact mul_bound ⟨cnt_mono hOk.dok (by omega), hc⟩ (by omega)))) (tm' := [_,_,_,_,_,_,_,_,_,_,_,_,_,_,_,_,_,_,_,_,_,_,_,_,_,_,_,_,_,_,_,_,_,_,_,_,_,_,_]) rfl ?_
        refine rl_det (met_none rfl) (fun h_ H_ => exd_assign (v := .int .i64 ((cnt ds k) * ((((ds.getD k dz).hi) - ((ds.getD k dz).lo)) + 1))) rfl) rfl ?_
        refine rl_end ?_
        refine fl_seq ?_
        refine rl_start ?_
        refine rl_det (met_none rfl) (fun h_ H_ => exd_move (v := .int .i64 ((cnt ds k) * ((((ds.getD k dz).hi) - ((ds.getD k dz).lo)) + 1))) rfl) rfl ?_
        refine rl_det (met_none rfl) (fun h_ H_ => exd_gtr rfl rfl) (tm' := [_,_,_,_,_,_,_,_,_,_,_,_,_,_,_,_,_,_,_,_,_,_,_,_,_,_,_,_,_,_,_,_,_,_,_,_,_,_,_]) rfl ?_
        refine rl_end ?_
        by_cases cc7 : 60 < (cnt ds k) * ((((ds.getD k dz).hi) - ((ds.getD k dz).lo)) + 1)
        · refine fl_then rfl (decide_eq_true cc7) ?_
          refine fl_seq ?_
          refine rl_start ?_
          refine rl_det (met_none rfl) (fun h_ H_ => exd_assign (v := .bool (true)) rfl) rfl ?_
          refine rl_end ?_
          refine fl_ret Try.func39 rfl (vs := [.bool (true)]) (fun h_ H_ => ⟨.bool (true), _, rfl, rfl, rfl⟩) (v := .bool (true)) rfl ?_
          exact fun h_ H_ => K _ _ ⟨by rw [decide_eq_true]; first | exact .inl (by omega) | exact .inr ⟨hOk, Int.lt_of_lt_of_le (show 60 < cnt ds (k + 1) from ‹_›) (by have := cnt_le hOk.dok (k := k + 1) (n - (k + 1)) (by omega); rwa [show k + 1 + (n - (k + 1)) = ds.length from by omega] at this)⟩, H_.kept⟩
        · refine fl_else rfl (decide_eq_false cc7) ?_
          refine fl_skip ?_
          refine fl_inBlock ?_
          refine rl_start ?_
          refine rl_det (met_none rfl) (fun h_ H_ => exd_move (v := .int .i64 (((k : Nat) : Int))) rfl) rfl ?_
          refine rl_det (met_none rfl) (fun h_ H_ => exd_add rfl rfl (n := ((k + 1 : Nat) : Int)) (wr (by omega))) (tm' := _::_::_::_::_::_::_::_::_::_::_::_::_::_::_::_::_::_::_::_) rfl ?_
          refine rl_det (met_none rfl) (fun h_ H_ => exd_assign (v := .int .i64 (((k + 1 : Nat) : Int))) rfl) rfl ?_
          refine rl_end ?_
          exact fun h_ H_ => IH5 _ _ (by omega) h_ ⟨k + 1, rfl, (y_of rfl), (by omega), (show cnt ds (k + 1) ≤ 60 from Int.not_lt.1 ‹_›), H_⟩
      · refine fl_else rfl (decide_eq_false cc6) ?_
        refine fl_exit rfl ?_
        refine fl_seq ?_
        refine rl_start ?_
        refine rl_det (met_none rfl) (fun h_ H_ => exd_assign (v := .bool (false)) rfl) rfl ?_
        refine rl_end ?_
        refine fl_ret Try.func39 rfl (vs := [.bool (false)]) (fun h_ H_ => ⟨.bool (false), _, rfl, rfl, rfl⟩) (v := .bool (false)) rfl ?_
        exact fun h_ H_ => K _ _ ⟨by rw [decide_eq_false]; first | exact fun e => e.elim (fun e => by omega) (fun e => absurd (chk_yes e.1) ‹_›) | exact fun e => e.elim (fun e => by omega) (fun e => by have h2 := e.2; rw [hl, show n = k from by omega] at h2; omega), H_.kept⟩
end Go.Proofs.Ytbmkacnlhlbnjaa
namespace Go.Proofs.Ytbmkacnlhlbnjaa
open Go.X Go.X.Cist Go.Conc
set_option maxRecDepth 10000

theorem c78 (md : Md) (h : Heap) (a b n : Int) : CallsX Try.prog md 78 #[.agg #[.int .i64 (a), .int .i64 (b)], .int .i64 (n)] h fun v h' => v = .agg #[.int .i64 (min a n), .int .i64 (max b n)] ∧ Keep h h' := by
  refine calls_intro (Φ := fun h_ => St h [] (fun _ => none) h_ []) Try.func78 rfl (tm := [_, _, _, _, _, _, _, _, _, _, _, _, _, _]) rfl ?_ (St.start h _ (fun _ _ e => by cases e))
  intro c₀ cs Stop K
  refine fl_seq ?_
  refine rl_start ?_
  refine rl_box (met_none rfl) (v := .agg #[.int .i64 (a), .int .i64 (b)]) rfl fun b1 => rl_own (L' := [(b1, .cells #[.int .i64 (a), .int .i64 (b)] 36 (0, 0))]) rfl ?_
  refine rl_alloc (met_none rfl) tZ36 rfl fun b2 => rl_own (L' := [(b2, .cells #[.int .i64 0, .int .i64 0] 36 (0, 0)), (b1, .cells #[.int .i64 (a), .int .i64 (b)] 36 (0, 0))]) rfl ?_
  refine rl_end ?_
  refine fl_seq ?_
  refine rl_start ?_
  refine rl_det (met_none rfl) (fun h_ H_ => exd_fieldAddr tF36_0 rfl (a' := ⟨b1, 0, none⟩) rfl) (tm' := _::_::_::_::_::_::_) rfl ?_
  refine rl_det (met_none rfl) (fun h_ H_ => exd_load_own H_ tA3 rfl (i := 1) rfl (v := .int .i64 (a)) rfl) rfl ?_
  refine rl_det (met_none rfl) (fun h_ H_ => exd_move (v := .int .i64 (n)) rfl) rfl ?_
  refine rl_det (met_none rfl) (fun h_ H_ => exd_min rfl rfl) (tm' := _::_::_::_::_::_::_::_::_::_) rfl ?_
  refine rl_det (met_none rfl) (fun h_ H_ => exd_fieldAddr tF36_1 rfl (a' := ⟨b1, 1, none⟩) rfl) rfl ?_
  refine rl_det (met_none rfl) (fun h_ H_ => exd_load_own H_ tA3 rfl (i := 1) rfl (v := .int .i64 (b)) rfl) rfl ?_
  refine rl_det (met_none rfl) (fun h_ H_ => exd_move (v := .int .i64 (n)) rfl) (tm' := [_,_,_,_,_,_,_,_,_,_,_,_,_,_]) rfl ?_
  refine rl_det (met_none rfl) (fun h_ H_ => exd_max rfl rfl) rfl ?_
  refine rl_det (met_none rfl) (fun h_ H_ => exd_build tZ36 tP36 (vs := [(0, .int .i64 (min a n)), (1, .int .i64 (max b n))]) rfl (cells := #[.int .i64 (min a n), .int .i64 (max b n)]) rfl) rfl ?_
  refine rl_store (met_none rfl) tS36 rfl (v := .agg #[.int .i64 (min a n), .int .i64 (max b n)]) rfl (i := 0) rfl rfl rfl (Nat.le_of_ble_eq_true rfl) (cs2 := [.int .i64 (min a n), .int .i64 (max b n)]) rfl (rl_own (L' := [(b2, .cells #[.int .i64 (min a n), .int .i64 (max b n)] 36 (0, 0)), (b1, .cells #[.int .i64 (a), .int .i64 (b)] 36 (0, 0))]) rfl ?_)
  refine rl_end ?_
  refine fl_ret Try.func78 rfl (vs := [.agg #[.int .i64 (min a n), .int .i64 (max b n)]]) (fun h_ H_ => ⟨.agg #[.int .i64 (min a n), .int .i64 (max b n)], _, rfl, (wpS_bind (wpS_pure (wpS_loadVarN tA36 tS36 (vs := [.int .i64 (min a n), .int .i64 (max b n)]) rfl (fun j_ v_ e_ => by rw [add_mk]; exact H_.ocell (i := 0) rfl (by simpa using e_)) ⟨rfl, rfl⟩))), rfl⟩) (v := .agg #[.int .i64 (min a n), .int .i64 (max b n)]) rfl ?_
  exact fun h_ H_ => K _ _ ⟨rfl, H_.kept⟩
end Go.Proofs.Ytbmkacnlhlbnjaa
namespace Go.Proofs.Ytbmkacnlhlbnjaa
open Go.X Go.X.Cist Go.Conc
set_option maxRecDepth 10000

end Go.Proofs.Ytbmkacnlhlbnjaa
namespace Go.Proofs.Ytbmkacnlhlbnjaa
open Go.X Go.X.Cist Go.Conc
set_option maxRecDepth 10000

theorem c67 (md : Md) (h : Heap) (p : PHeap) (hp : Per p h) (bD bN : Nat) (day w n : Int) (hD : p bD = some (.cells #[.int .i64 day] 3 (0, 0))) (hN : p bN = some (.cells #[.int .i64 n] 3 (0, 0))) (i : Nat) (hb : 0 ≤ w ∧ w ≤ 200 ∧ 0 ≤ n ∧ n ≤ 100) : CallsX Try.prog md 67 #[.int .i64 (((i : Nat) : Int)), .int .i64 (w), .pointer (some ⟨bD, 0, none⟩), .pointer (some ⟨bN, 0, none⟩)] h fun v h' => v = .int .i64 (moreF day (n + 1) i w) ∧ Keep h h' := by
  refine calls_intro (Φ := fun h_ => St h [] p h_ []) Try.func67 rfl (tm := [_, _, _, _, _, _, _, _, _, _, _, _, _, _, _]) rfl ?_ (St.start h _ hp)
  intro c₀ cs Stop K
  refine fl_seq ?_
  refine rl_start ?_
  refine rl_det (met_none rfl) (fun h_ H_ => exd_assign (v := .int .i64 0) rfl) rfl ?_
  refine rl_end ?_
  refine fl_seq ?_
  refine fl_seq ?_
  refine rl_start ?_
  refine rl_det (met_none rfl) (fun h_ H_ => exd_move (v := .int .i64 (((i : Nat) : Int))) rfl) rfl ?_
  refine rl_det (met_none rfl) (fun h_ H_ => exd_load_per H_ tA3 rfl (v := .int .i64 (day)) (per_cell hD rfl)) (tm' := _::_::_::_::_::_::_::_::_::_) rfl ?_
  refine rl_det (met_none rfl) (fun h_ H_ => exd_eql rfl rfl) rfl ?_
  refine rl_end ?_
  by_cases cc1 : ((i : Nat) : Int) = day
  · refine fl_then rfl (decide_eq_true cc1) ?_
    refine fl_seq ?_
    refine rl_start ?_
    refine rl_det (met_none rfl) (fun h_ H_ => exd_move (v := .int .i64 (w)) rfl) rfl ?_
    refine rl_det (met_none rfl) (fun h_ H_ => exd_load_per H_ tA3 rfl (v := .int .i64 (n)) (per_cell hN rfl)) (tm' := [_,_,_,_,_,_,_,_,_,_,_,_,_,_,_]) rfl ?_
    refine rl_det (met_none rfl) (fun h_ H_ => exd_add rfl rfl (wr (by omega))) rfl ?_
    refine rl_det (met_none rfl) (fun h_ H_ => exd_add rfl rfl (wr (by omega))) rfl ?_
    refine rl_det (met_none rfl) (fun h_ H_ => exd_assign (v := .int .i64 ((w + n) + 1)) rfl) (tm' := _::_::_::_::_::_::_::_) rfl ?_
    refine rl_end ?_
    refine fl_ret Try.func67 rfl (vs := [.int .i64 ((w + n) + 1)]) (fun h_ H_ => ⟨.int .i64 ((w + n) + 1), _, rfl, rfl, rfl⟩) (v := .int .i64 ((w + n) + 1)) rfl ?_
    exact fun h_ H_ => K _ _ ⟨by unfold moreF; first | (rw [if_pos ‹_›]; congr 1; omega) | rw [if_neg ‹_›], H_.kept⟩
  · refine fl_else rfl (decide_eq_false cc1) ?_
    refine fl_skip ?_
    refine fl_seq ?_
    refine rl_start ?_
    refine rl_det (met_none rfl) (fun h_ H_ => exd_move (v := .int .i64 (w)) rfl) rfl ?_
    refine rl_det (met_none rfl) (fun h_ H_ => exd_assign (v := .int .i64 (w)) rfl) rfl ?_
    refine rl_end ?_
    refine fl_ret Try.func67 rfl (vs := [.int .i64 (w)]) (fun h_ H_ => ⟨.int .i64 (w), _, rfl, rfl, rfl⟩) (v := .int .i64 (w)) rfl ?_
    exact fun h_ H_ => K _ _ ⟨by unfold moreF; first | (rw [if_pos ‹_›]; congr 1; omega) | rw [if_neg ‹_›], H_.kept⟩
theorem c27 (md : Md) (h : Heap) (p : PHeap) (hp : Per p h) (size start : Int) (a : Option Addr) (n c : Nat) (ds : List Day) (D : Days p a n ds) (hn : n ≤ 40) (day : Int) : CallsX Try.prog md 27 #[.agg #[.int .i64 (size), .int .i64 (start), .slice a n c], .int .i64 (day)] h fun v h' => v = .tuple #[.int .i64 (spareR size start ds day).1, .int .i64 (spareR size start ds day).2] ∧ Keep h h' := by
  refine calls_intro (Φ := fun h_ => St h [] p h_ []) Try.func27 rfl (tm := [_, _, _, _, _, _, _, _, _, _, _, _, _, _, _, _, _, _, _, _, _, _, _, _, _, _]) rfl ?_ (St.start h _ hp)
  intro c₀ cs Stop K
  have hl := D.len
  refine fl_seq ?_
  refine rl_start ?_
  refine rl_box (met_none rfl) (v := .agg #[.int .i64 (size), .int .i64 (start), .slice a n c]) rfl fun b1 => rl_own (L' := [(b1, .cells #[.int .i64 (size), .int .i64 (start), .slice a n c] 24 (0, 0))]) rfl ?_
  refine rl_norm (tm' := _::_::_::_) rfl ?_
  refine rl_box (met_none rfl) (v := .int .i64 (day)) rfl fun b2 => rl_own (L' := [(b2, .cells #[.int .i64 (day)] 3 (0, 0)), (b1, .cells #[.int .i64 (size), .int .i64 (start), .slice a n c] 24 (0, 0))]) rfl ?_
  refine rl_det (met_none rfl) (fun h_ H_ => exd_assign (v := .int .i64 0) rfl) rfl ?_
  refine rl_det (met_none rfl) (fun h_ H_ => exd_assign (v := .int .i64 0) rfl) (tm' := _::_::_::_::_::_::_) rfl ?_
  refine rl_end ?_
  refine fl_seq ?_
  refine fl_seq ?_
  refine fl_drawn2 4 [[], [], [], [1, 2], [], []] mixed (by kernel_rfl) (Nat.le_of_ble_eq_true rfl) ?_
  refine swr_det (met_none rfl) (fun h_ H_ => exd_loadN_own H_ tA24 tS24 rfl (i := 1) rfl (vs := [.int .i64 (size), .int .i64 (start), .slice a n c]) rfl rfl) (tm' := _::_::_::_::_::_::_::_::_::_) rfl ?_
  refine swr_det (met_none rfl) (fun h_ H_ => exd_loadN_own H_ tA24 tS24 rfl (i := 1) rfl (vs := [.int .i64 (size), .int .i64 (start), .slice a n c]) rfl rfl) rfl ?_
  refine swr_det (met_none rfl) (fun h_ H_ => exd_load_own H_ tA3 rfl (i := 0) rfl (v := .int .i64 (day)) rfl) (tm' := _::_::_::_::_::_::_::_::_::_::_::_) rfl ?_
  refine swr_call (met_none rfl) (first := []) (cap := []) rfl rfl fC66 (fun h_ H_ => (c66 md _ _ (fun b_ o_ e_ => H_.per b_ o_ e_) (size) (start) _ _ _ _ D (by omega) day).mono fun v_ h2_ ⟨e_, k_⟩ => ⟨e_, H_.call k_⟩) rfl ?_
  refine swr_nil rfl ?_
  refine rl_calld (met_none rfl) (first := []) (cap := []) rfl rfl fC65 (fun h_ H_ => c65 md _ _ (fun b_ o_ e_ => H_.per b_ o_ e_) (size) (start) _ _ _ _ D (by omega) (decide (IsDay ds day))) rfl ?_
  refine rl_det (met_none rfl) (fun h_ H_ => exd_assign (v := .int .i64 (askd (size) (start) ds (decide (IsDay ds day)))) rfl) (tm' := _::_::_::_::_::_::_::_) rfl ?_
  refine rl_end ?_
  refine fl_seq ?_
  refine rl_start ?_
  refine rl_det (met_none rfl) (fun h_ H_ => exd_move (v := .int .i64 (askd (size) (start) ds (decide (IsDay ds day)))) rfl) rfl ?_
  refine rl_det (met_none rfl) (fun h_ H_ => exd_neq rfl rfl) rfl ?_
  refine rl_end ?_
  by_cases cc3 : askd (size) (start) ds (decide (IsDay ds day)) ≠ 0
  · refine fl_then rfl (decide_eq_true cc3) ?_
    refine fl_seq ?_
    refine rl_start ?_
    refine rl_det (met_none rfl) (fun h_ H_ => exd_move (v := .int .i64 (askd (size) (start) ds (decide (IsDay ds day)))) rfl) (tm' := _::_::_::_::_::_::_::_::_::_::_::_::_::_::_::_::_) rfl ?_
    refine rl_det (met_none rfl) (fun h_ H_ => exd_assign (v := .int .i64 0) rfl) rfl ?_
    refine rl_det (met_none rfl) (fun h_ H_ => exd_assign (v := .int .i64 (askd (size) (start) ds (decide (IsDay ds day)))) rfl) rfl ?_
    refine rl_end ?_
    refine fl_ret Try.func27 rfl (vs := [.int .i64 0, .int .i64 (askd (size) (start) ds (decide (IsDay ds day)))]) (fun h_ H_ => ⟨.int .i64 0, _, rfl, rfl, ⟨.int .i64 (askd (size) (start) ds (decide (IsDay ds day))), _, rfl, rfl, rfl⟩⟩) (v := .tuple #[.int .i64 0, .int .i64 (askd (size) (start) ds (decide (IsDay ds day)))]) rfl ?_
    exact fun h_ H_ => K _ _ ⟨by unfold spareR; rw [if_neg ‹_›], H_.kept⟩
  · refine fl_else rfl (decide_eq_false cc3) ?_
    refine fl_skip ?_
    refine fl_seq ?_
    refine fl_seq ?_
    have h0 : askd size start ds (decide (IsDay ds day)) = 0 := by omega
    have hOk : Ok size start ds := (askd_zero.1 h0).1
    have hday : IsDay ds day := of_decide_eq_true (askd_zero.1 h0).2
    refine rl_start ?_
    refine rl_det (met_none rfl) (fun h_ H_ => exd_loadN_own H_ tA24 tS24 rfl (i := 1) rfl (vs := [.int .i64 (size), .int .i64 (start), .slice a n c]) rfl rfl) (tm' := _::_::_::_::_::_::_::_::_::_::_::_::_::_::_::_::_::_) rfl ?_
    refine rl_calld (met_none rfl) (first := []) (cap := []) rfl rfl fC62 (fun h_ H_ => c62 md _ _ (fun b_ o_ e_ => H_.per b_ o_ e_) (size) (start) _ _ _ _ D (by omega) ⟨hOk.1, hOk.2.1, hOk.2.2.1⟩ hOk.dok) rfl ?_
    refine rl_det (met_none rfl) (fun h_ H_ => exd_not rfl) rfl ?_
    refine rl_end ?_
    by_cases cc4 : Lasts (size) (start) ds
    · refine fl_else rfl (not_f (decide_eq_true cc4)) ?_
      refine fl_skip ?_
      refine fl_seq ?_
      have hla : Lasts size start ds := ‹_›
      refine rs_last 0 rfl (L' := [(b1, .cells #[.int .i64 (size), .int .i64 (start), .slice a n c] 24 (0, 0))]) rfl fun p5 le6 hb7 => ?_
      refine rl_start ?_
      refine rl_alloc (met_none rfl) tZ3 rfl fun b8 => rl_own (L' := [(b8, .cells #[.int .i64 0] 3 (0, 0)), (b1, .cells #[.int .i64 (size), .int .i64 (start), .slice a n c] 24 (0, 0))]) rfl ?_
      refine rl_norm (tm' := _::_::_::_::_::_::_::_::_) rfl ?_
      refine rl_store (met_none rfl) tS3 rfl (v := .int .i64 0) rfl (i := 0) rfl rfl rfl (Nat.le_of_ble_eq_true rfl) (cs2 := [.int .i64 0]) rfl (rl_own (L' := [(b8, .cells #[.int .i64 0] 3 (0, 0)), (b1, .cells #[.int .i64 (size), .int .i64 (start), .slice a n c] 24 (0, 0))]) rfl ?_)
      refine rl_end ?_
      refine fl_seq ?_
      refine fl_block ?_
      refine fl_loop (m₀ := 100 - 0) (fun m_ tm_ h_ => ∃ (k : Nat) (nn : Int), m_ = 100 - k ∧ (∃ y9 : Nat → Value, tm_ = [.agg #[.int .i64 (size), .int .i64 (start), .slice a n c], .int .i64 (day), .pointer (some ⟨b1, 0, none⟩), .pointer (some ⟨b2, 0, none⟩), .int .i64 0, .int .i64 0, .int .i64 (askd (size) (start) ds (decide (IsDay ds day))), .pointer (some ⟨b8, 0, none⟩), .agg #[.int .i64 (size), .int .i64 (start), .slice a n c], .agg #[.int .i64 (size), .int .i64 (start), .slice a n c], .int .i64 (day), .bool (decide (IsDay ds day)), .int .i64 (askd (size) (start) ds (decide (IsDay ds day))), .int .i64 (askd (size) (start) ds (decide (IsDay ds day))), .bool (decide (askd (size) (start) ds (decide (IsDay ds day)) ≠ 0)), undef, .agg #[.int .i64 (size), .int .i64 (start), .slice a n c], .bool (decide (Lasts (size) (start) ds)), .bool (!(decide (Lasts (size) (start) ds))), (y9 19), (y9 20), (y9 21), (y9 22), (y9 23), (y9 24), undef]) ∧ (nn = ((k : Nat) : Int)) ∧ (k ≤ 60) ∧ (upTo (fun k => decide (¬ Lasts size start (wanted day ((k : Nat) + 1) ds))) 0 100 = upTo (fun k => decide (¬ Lasts size start (wanted day ((k : Nat) + 1) ds))) k (100 - k)) ∧ St h [] p5 h_ ([(b8, .cells #[.int .i64 (nn)] 3 (0, 0)), (b1, .cells #[.int .i64 (size), .int .i64 (start), .slice a n c] 24 (0, 0))])) (fun h_ H_ => ⟨0, 0, rfl, (y_of rfl), rfl, Nat.zero_le _, rfl, H_⟩) ?_
      intro m_ tm_ IH10
      refine rs_ex fun k => rs_ex fun nn => rs_and fun hm_ => rs_and fun ht_ => rs_and fun hnn => rs_and fun hk => rs_and fun hr => ?_
      subst hm_; obtain ⟨y9, ht_⟩ := ht_; subst ht_
      subst hnn
      refine fl_seq ?_
      refine fl_seq ?_
      refine rl_start ?_
      refine rl_det (met_none rfl) (fun h_ H_ => exd_loadN_own H_ tA24 tS24 rfl (i := 1) rfl (vs := [.int .i64 (size), .int .i64 (start), .slice a n c]) rfl rfl) rfl ?_
      refine rl_det (met_none rfl) (fun h_ H_ => exd_makeFunc (a := []) (b := [.pointer (some ⟨b2, 0, none⟩), .pointer (some ⟨b8, 0, none⟩)]) rfl rfl) rfl ?_
      refine rl_own (L' := ([(b8, .cells #[.int .i64 (((k : Nat) : Int))] 3 (0, 0)), (b1, .cells #[.int .i64 (size), .int .i64 (start), .slice a n c] 24 (0, 0))] : Pcs) ++ []) rfl ?_
      refine rl_call (met_none rfl) (first := []) (cap := []) rfl rfl fC63 (R := fun v_ h_ => ∃ w11 : Value, ∃ X12 : Pcs, v_ = .agg #[.int .i64 (size), .int .i64 (start), w11] ∧ (OwnS 38 3 w11 (dcs (wmap (moreF (day) (((k : Nat) : Int) + 1)) ds)) X12) ∧ St h [] p5 h_ (([(b8, .cells #[.int .i64 (((k : Nat) : Int))] 3 (0, 0)), (b1, .cells #[.int .i64 (size), .int .i64 (start), .slice a n c] 24 (0, 0))] : Pcs) ++ (X12 ++ []))) (fun h_ H_ => (c63 md _ (padd p5 b8 (.cells #[.int .i64 (((k : Nat) : Int))] 3 (0, 0))) (H_.perO (i := 0) rfl) (size) (start) _ _ _ _ ((D.mono le6).mono (H_.leO (i := 0) rfl)) (by omega) (.func (.func 67) #[] #[.pointer (some ⟨b2, 0, none⟩), .pointer (some ⟨b8, 0, none⟩)]) (moreF (day) (((k : Nat) : Int) + 1)) (fun h_ hp_ i_ hi_ => callv_of fC67 (c67 md _ _ hp_ _ _ (day) _ (((k : Nat) : Int)) (H_.leO (i := 0) rfl _ _ hb7) padd_self _ (by have := (hOk.dok i_ (by omega)).2; omega)))).mono fun v_ h2_ ⟨w11, X12, e_, o13, N_⟩ => ⟨w11, X12, e_, o13, H_.callNA N_⟩) fun v_ => ?_
      refine rl_ex fun w11 => rl_ex fun X12 => rl_and fun ev_ => rl_and fun o13 => ?_
      have ev_ := ev_.symm; subst ev_
      refine rl_own (L' := ([(b8, .cells #[.int .i64 (((k : Nat) : Int))] 3 (0, 0)), (b1, .cells #[.int .i64 (size), .int .i64 (start), .slice a n c] 24 (0, 0))] : Pcs) ++ (X12 ++ [])) rfl ?_
      refine rl_norm (tm' := [_,_,_,_,_,_,_,_,_,_,_,_,_,_,_,_,_,_,_,_,_,_,_,_,_,_]) rfl ?_
      refine rl_lastN (A := ([(b8, .cells #[.int .i64 (((k : Nat) : Int))] 3 (0, 0)), (b1, .cells #[.int .i64 (size), .int .i64 (start), .slice a n c] 24 (0, 0))] : Pcs)) o13 (show (dcs (wmap (moreF (day) (((k : Nat) : Int) + 1)) ds)).length = n by rw [dcs_length, wmap_length]; exact hl) fun p14 a15 cp16 le17 ev_ D18 => ?_
      subst ev_
      refine rl_own (L' := [(b8, .cells #[.int .i64 (((k : Nat) : Int))] 3 (0, 0)), (b1, .cells #[.int .i64 (size), .int .i64 (start), .slice a n c] 24 (0, 0))]) rfl ?_
      refine rl_calld (met_none rfl) (first := []) (cap := []) rfl rfl fC62 (fun h_ H_ => c62 md _ _ (fun b_ o_ e_ => H_.per b_ o_ e_) (size) (start) _ _ _ _ D18 (by omega) ⟨hOk.1, hOk.2.1, hOk.2.2.1⟩ (dok_wmap hOk.dok (fun i hi => by have := hOk.2.2.2.2.2 i hi; unfold DayOk at this; unfold moreF; split <;> omega))) rfl ?_
      refine rl_end ?_
      by_cases cc19 : Lasts (size) (start) (wmap (moreF (day) (((k : Nat) : Int) + 1)) ds)
      · refine fl_then rfl (decide_eq_true cc19) ?_
        refine fl_skip ?_
        refine fl_block ?_
        refine rl_start ?_
        refine rl_det (met_none rfl) (fun h_ H_ => exd_load_own H_ tA3 rfl (i := 0) rfl (v := .int .i64 (((k : Nat) : Int))) rfl) rfl ?_
        refine rl_det (met_none rfl) (fun h_ H_ => exd_add rfl rfl (n := ((k + 1 : Nat) : Int)) (wr (by omega))) (tm' := [_,_,_,_,_,_,_,_,_,_,_,_,_,_,_,_,_,_,_,_,_,_,_,_,_,_]) rfl ?_
        refine rl_store (met_none rfl) tS3 rfl (v := .int .i64 (((k + 1 : Nat) : Int))) rfl (i := 0) rfl rfl rfl (Nat.le_of_ble_eq_true rfl) (cs2 := [.int .i64 (((k + 1 : Nat) : Int))]) rfl (rl_own (L' := [(b8, .cells #[.int .i64 (((k + 1 : Nat) : Int))] 3 (0, 0)), (b1, .cells #[.int .i64 (size), .int .i64 (start), .slice a n c] 24 (0, 0))]) rfl ?_)
        refine rl_end ?_
        refine fl_inBlock ?_
        have hk2 : k + 1 ≤ 60 := Decidable.not_not.1 (fun hc => not_lasts_more (more := (k : Int) + 1) ⟨hOk.1, hOk.2.1, hOk.2.2.1⟩ hOk.dok hday (by omega) ‹Lasts size start (wmap _ _)›)
        exact fun h_ H_ => IH10 _ _ (by omega) h_ ⟨k + 1, _, rfl, (y_of rfl), (by omega), hk2, (hr.trans (upTo_miss (by omega) (by rw [decide_eq_false]; exact fun hc => hc ‹_›))), (H_.forget le17)⟩
      · refine fl_else rfl (decide_eq_false cc19) ?_
        refine fl_exit rfl ?_
        refine fl_seq ?_
        refine rl_start ?_
        refine rl_det (met_none rfl) (fun h_ H_ => exd_load_own H_ tA3 rfl (i := 0) rfl (v := .int .i64 (((k : Nat) : Int))) rfl) rfl ?_
        refine rl_det (met_none rfl) (fun h_ H_ => exd_assign (v := .int .i64 (((k : Nat) : Int))) rfl) rfl ?_
        refine rl_det (met_none rfl) (fun h_ H_ => exd_assign (v := .int .i64 0) rfl) (tm' := _::_::_::_::_::_::_) rfl ?_
        refine rl_end ?_
        refine fl_ret Try.func27 rfl (vs := [.int .i64 (((k : Nat) : Int)), .int .i64 0]) (fun h_ H_ => ⟨.int .i64 (((k : Nat) : Int)), _, rfl, rfl, ⟨.int .i64 0, _, rfl, rfl, rfl⟩⟩) (v := .tuple #[.int .i64 (((k : Nat) : Int)), .int .i64 0]) rfl ?_
        exact fun h_ H_ => K _ _ ⟨by unfold spareR spUp; rw [if_pos h0, if_pos hla, hr, upTo_hit (by omega) (decide_eq_true ‹_›)]; rfl, H_.kept⟩
    · refine fl_then rfl (not_t (decide_eq_false cc4)) ?_
      refine fl_seq ?_
      refine rl_start ?_
      refine rl_det (met_none rfl) (fun h_ H_ => exd_assign (v := .int .i64 0) rfl) rfl ?_
      refine rl_det (met_none rfl) (fun h_ H_ => exd_assign (v := .int .i64 3) rfl) rfl ?_
      refine rl_end ?_
      refine fl_ret Try.func27 rfl (vs := [.int .i64 0, .int .i64 3]) (fun h_ H_ => ⟨.int .i64 0, _, rfl, rfl, ⟨.int .i64 3, _, rfl, rfl, rfl⟩⟩) (v := .tuple #[.int .i64 0, .int .i64 3]) rfl ?_
      exact fun h_ H_ => K _ _ ⟨by unfold spareR; rw [if_pos (by omega), if_neg ‹_›], H_.kept⟩
theorem c81 (md : Md) (h : Heap) (p : PHeap) (hp : Per p h) (fv : Value) (a : Option Addr) (n c : Nat) (ds : List Day) (D : Days p a n ds) (hn : n ≤ 40) (q : Day → Bool) (hf : ∀ h, Per p h → ∀ i, i < n → CallV Try.prog md fv [.agg #[.int .i64 (ds.getD i dz).lo, .int .i64 (ds.getD i dz).hi, .int .i64 (ds.getD i dz).want]] h fun v h' => v = .bool (q (ds.getD i dz)) ∧ Keep h h') : CallsX Try.prog md 81 #[.slice a n c, fv] h fun v h' => v = .int .i64 (idxF q ds) ∧ Keep h h' := by
  refine calls_intro (Φ := fun h_ => St h [] p h_ []) Try.func81 rfl (tm := [_, _, _, _, _, _, _, _]) rfl ?_ (St.start h _ hp)
  intro c₀ cs Stop K
  refine fl_seq ?_
  refine rl_start ?_
  refine rl_det (met_none rfl) (fun h_ H_ => exd_assign (v := .int .i64 0) rfl) (tm' := _::_::_::_::_::_) rfl ?_
  refine rl_end ?_
  refine fl_seq ?_
  refine rl_start ?_
  refine rl_det (met_none rfl) (fun h_ H_ => exd_move (v := .slice a n c) rfl) rfl ?_
  refine rl_det (met_none rfl) (fun h_ H_ => exd_move (v := fv) rfl) rfl ?_
  refine rl_calld (met_none rfl) (first := []) (cap := []) rfl rfl fC99 (fun h_ H_ => c99 md _ _ (fun b_ o_ e_ => H_.per b_ o_ e_) fv _ _ _ _ D (by omega) q hf) (tm' := [_,_,_,_,_,_,_,_]) rfl ?_
  refine rl_det (met_none rfl) (fun h_ H_ => exd_assign (v := .int .i64 (idxF q ds)) rfl) rfl ?_
  refine rl_end ?_
  refine fl_ret Try.func81 rfl (vs := [.int .i64 (idxF q ds)]) (fun h_ H_ => ⟨.int .i64 (idxF q ds), _, rfl, rfl, rfl⟩) (v := .int .i64 (idxF q ds)) rfl ?_
  exact fun h_ H_ => K _ _ ⟨rfl, H_.kept⟩
end Go.Proofs.Ytbmkacnlhlbnjaa
namespace Go.Proofs.Ytbmkacnlhlbnjaa
open Go.X Go.X.Cist Go.Conc
set_option maxRecDepth 10000

theorem c88 (md : Md) (h : Heap) (p : PHeap) (hp : Per p h) (bY : Nat) (zY : Nat × Nat) (size start : Int) (a : Option Addr) (n c : Nat) (ds : List Day) (D : Days p a n ds) (hn : n ≤ 40) (hb1 : p bY = some (.cells #[.int .i64 size, .int .i64 start, .slice a n c] 24 zY)) (k : Nat) (hk : k < n) : CallsX Try.prog md 88 #[.int .i64 (((k : Nat) : Int)), .pointer (some ⟨bY, 0, none⟩)] h fun v h' => v = .int .i64 (loOf ds k) ∧ Keep h h' := by
  refine calls_intro (Φ := fun h_ => St h [] p h_ []) Try.func88 rfl (tm := [_, _, _, _, _, _, _, _, _, _, _]) rfl ?_ (St.start h _ hp)
  intro c₀ cs Stop K
  refine fl_seq ?_
  refine rl_start ?_
  refine rl_det (met_none rfl) (fun h_ H_ => exd_assign (v := .int .i64 0) rfl) rfl ?_
  refine rl_end ?_
  refine fl_seq ?_
  refine rl_start ?_
  refine rl_det (met_none rfl) (fun h_ H_ => exd_fieldAddr tF24_2 rfl (a' := ⟨bY, 2, none⟩) rfl) rfl ?_
  refine rl_det (met_none rfl) (fun h_ H_ => exd_load_per H_ tA22 rfl (v := .slice a n c) (per_cell hb1 rfl)) (tm' := _::_::_::_::_::_::_) rfl ?_
  refine rl_det (met_none rfl) (fun h_ H_ => exd_move (v := .int .i64 (((k : Nat) : Int))) rfl) rfl ?_
  refine rl_det (met_none rfl) (fun h_ H_ => exd_indexAddrN (i := k) Try.underlying22 tS38 (sl_ne a n c (D.ne (by omega))) rfl (by omega)) rfl ?_
  refine rl_det (met_none rfl) (fun h_ H_ => exd_fieldAddr tF38_0 rfl (a' := (adr a).add (k * 3)) rfl) (tm' := [_,_,_,_,_,_,_,_,_,_,_]) rfl ?_
  refine rl_det (met_none rfl) (fun h_ H_ => exd_fieldAddr tF36_0 rfl (a' := (adr a).add (k * 3)) rfl) rfl ?_
  refine rl_det (met_none rfl) (fun h_ H_ => exd_load_per H_ tA3 rfl (v := .int .i64 ((ds.getD k dz).lo)) (D.lo (by omega))) rfl ?_
  refine rl_det (met_none rfl) (fun h_ H_ => exd_assign (v := .int .i64 ((ds.getD k dz).lo)) rfl) (tm' := _::_::_::_::_) rfl ?_
  refine rl_end ?_
  refine fl_ret Try.func88 rfl (vs := [.int .i64 ((ds.getD k dz).lo)]) (fun h_ H_ => ⟨.int .i64 ((ds.getD k dz).lo), _, rfl, rfl, rfl⟩) (v := .int .i64 ((ds.getD k dz).lo)) rfl ?_
  exact fun h_ H_ => K _ _ ⟨rfl, H_.kept⟩
theorem c89 (md : Md) (h : Heap) (p : PHeap) (hp : Per p h) (bY : Nat) (zY : Nat × Nat) (size start : Int) (a : Option Addr) (n c : Nat) (ds : List Day) (D : Days p a n ds) (hn : n ≤ 40) (hb1 : p bY = some (.cells #[.int .i64 size, .int .i64 start, .slice a n c] 24 zY)) (k : Nat) (hk : k < n) : CallsX Try.prog md 89 #[.int .i64 (((k : Nat) : Int)), .pointer (some ⟨bY, 0, none⟩)] h fun v h' => v = .int .i64 (hiOf ds k) ∧ Keep h h' := by
  refine calls_intro (Φ := fun h_ => St h [] p h_ []) Try.func89 rfl (tm := [_, _, _, _, _, _, _, _, _, _, _]) rfl ?_ (St.start h _ hp)
  intro c₀ cs Stop K
  refine fl_seq ?_
  refine rl_start ?_
  refine rl_det (met_none rfl) (fun h_ H_ => exd_assign (v := .int .i64 0) rfl) rfl ?_
  refine rl_end ?_
  refine fl_seq ?_
  refine rl_start ?_
  refine rl_det (met_none rfl) (fun h_ H_ => exd_fieldAddr tF24_2 rfl (a' := ⟨bY, 2, none⟩) rfl) rfl ?_
  refine rl_det (met_none rfl) (fun h_ H_ => exd_load_per H_ tA22 rfl (v := .slice a n c) (per_cell hb1 rfl)) (tm' := _::_::_::_::_::_::_) rfl ?_
  refine rl_det (met_none rfl) (fun h_ H_ => exd_move (v := .int .i64 (((k : Nat) : Int))) rfl) rfl ?_
  refine rl_det (met_none rfl) (fun h_ H_ => exd_indexAddrN (i := k) Try.underlying22 tS38 (sl_ne a n c (D.ne (by omega))) rfl (by omega)) rfl ?_
  refine rl_det (met_none rfl) (fun h_ H_ => exd_fieldAddr tF38_0 rfl (a' := (adr a).add (k * 3)) rfl) (tm' := [_,_,_,_,_,_,_,_,_,_,_]) rfl ?_
  refine rl_det (met_none rfl) (fun h_ H_ => exd_fieldAddr tF36_1 rfl (a' := ((adr a).add (k * 3)).add 1) rfl) rfl ?_
  refine rl_det (met_none rfl) (fun h_ H_ => exd_load_per H_ tA3 rfl (v := .int .i64 ((ds.getD k dz).hi)) (D.hi (by omega))) rfl ?_
  refine rl_det (met_none rfl) (fun h_ H_ => exd_assign (v := .int .i64 ((ds.getD k dz).hi)) rfl) (tm' := _::_::_::_::_) rfl ?_
  refine rl_end ?_
  refine fl_ret Try.func89 rfl (vs := [.int .i64 ((ds.getD k dz).hi)]) (fun h_ H_ => ⟨.int .i64 ((ds.getD k dz).hi), _, rfl, rfl, rfl⟩) (v := .int .i64 ((ds.getD k dz).hi)) rfl ?_
  exact fun h_ H_ => K _ _ ⟨rfl, H_.kept⟩
theorem c91 (md : Md) (h : Heap) (p : PHeap) (bW bD bY bO : Nat) (zY zO : Nat × Nat) (size start : Int) (a : Option Addr) (n c : Nat) (ds : List Day) (D : Days p a n ds) (hn : n ≤ 40) (rv : Value) (h1 : rv.cells = #[rv]) (rain : Nat → Int)
    (hY : p bY = some (.cells #[.int .i64 size, .int .i64 start, .slice a n c] 24 zY)) (hO : p bO = some (.cells #[.pointer (some ⟨bD, 0, none⟩), rv] 101 zO)) (hs : 0 ≤ size ∧ size ≤ 60 ∧ 0 ≤ start) (hd : ∀ i, i < n → 0 ≤ (ds.getD i dz).want ∧ (ds.getD i dz).want ≤ 200) (hr0 : ∀ i, i < n → 0 ≤ rain i ∧ rain i ≤ 20)
    (hr : ∀ (p' : PHeap), PLe p p' → ∀ h i, Per p' h → i < n → CallV Try.prog md rv [.int .i64 ((i : Nat) : Int)] h fun v h' => v = .int .i64 (rain i) ∧ Keep h h') (s₀ : St h [bD] p h ([(bD, .cells #[.slice none 0 0] 68 (0, 0))])) (c₀ : Frame) (cs : List Frame) (Stop : Goroutine → Heap → Prop) (K : ∀ tm td h' w X (A : Pcs) p', OwnS 72 3 w (dcs (side size (min start size) (wantOf ds) rain n)) X → (n = 0 → X = []) → St h [bD] p' h' (A ++ ((bD, .cells #[w] 68 (0, 0)) :: (X ++ []))) → Go.X.Reach Try.prog md (G (FR (B 91 .dfd) tm [dcall 92 #[.pointer (some ⟨bW, 0, none⟩)]] td) (c₀ :: cs)) h' Stop) : Go.X.Reach Try.prog md (G (Frame.enter Try.prog 91 #[.pointer (some ⟨bW, 0, none⟩), .pointer (some ⟨bY, 0, none⟩), .pointer (some ⟨bO, 0, none⟩)] .deferred) (c₀ :: cs)) h Stop := by
  refine go_intro (Φ := fun h_ => St h [bD] p h_ ([(bD, .cells #[.slice none 0 0] 68 (0, 0))])) Try.func91 rfl (tm := [_, _, _, _, _, _, _, _, _, _, _, _, _, _, _, _, _, _, _, _, _, _, _, _, _, _, _, _]) rfl ?_ s₀
  refine fl_seq ?_
  refine rl_start ?_
  refine rl_defer (met_none rfl) rfl rfl ?_
  refine rl_end ?_
  refine fl_seq ?_
  refine rl_start ?_
  refine rl_alloc (met_none rfl) tZ3 rfl fun b1 => rl_own (L' := [(b1, .cells #[.int .i64 0] 3 (0, 0)), (bD, .cells #[.slice none 0 0] 68 (0, 0))]) rfl ?_
  refine rl_store (met_none rfl) tS3 rfl (v := .int .i64 0) rfl (i := 0) rfl rfl rfl (Nat.le_of_ble_eq_true rfl) (cs2 := [.int .i64 0]) rfl (rl_own (L' := [(b1, .cells #[.int .i64 0] 3 (0, 0)), (bD, .cells #[.slice none 0 0] 68 (0, 0))]) rfl ?_)
  refine rl_end ?_
  refine fl_seq ?_
  refine rl_start ?_
  refine rl_det (met_none rfl) (fun h_ H_ => exd_loadN_per H_ tA24 tS24 rfl (vs := [.int .i64 (size), .int .i64 (start), .slice a n c]) rfl (per_cells (n := 3) hY rfl)) rfl ?_
  refine rl_det (met_none rfl) (fun h_ H_ => exd_fieldAddr tF101_1 rfl (a' := ⟨bO, 1, none⟩) rfl) (tm' := _::_::_::_::_::_::_::_::_) rfl ?_
  refine rl_det (met_none rfl) (fun h_ H_ => exd_load_per H_ tA77 rfl (v := rv) (per_cell hO rfl)) rfl ?_
  refine rl_call (met_none rfl) (first := []) (cap := []) rfl rfl fC72 (R := fun v_ h_ => ∃ b2 : Nat, ∃ b3 : Nat, v_ = .func (.func 95) #[] #[.pointer (some ⟨b2, 0, none⟩), .pointer (some ⟨b3, 0, none⟩)] ∧ St h [bD] p h_ ([(b3, .cells #[rv] 77 (0, 0)), (b2, .cells #[.int .i64 (size), .int .i64 (start), .slice a n c] 24 (0, 0)), (b1, .cells #[.int .i64 0] 3 (0, 0)), (bD, .cells #[.slice none 0 0] 68 (0, 0))])) (fun h_ H_ => (c72 md _ (size) (start) _ _ _ (rv) h1).mono fun v_ h2_ ⟨b2, b3, e_, N_⟩ => ⟨b2, b3, e_, H_.callN N_⟩) fun v_ => ?_
  refine rl_ex fun b2 => rl_ex fun b3 => rl_and fun ev_ => ?_
  have ev_ := ev_.symm; subst ev_
  refine rl_end ?_
  refine fl_block ?_
  refine rs_last 0 rfl (L' := [(b2, .cells #[.int .i64 (size), .int .i64 (start), .slice a n c] 24 (0, 0)), (b1, .cells #[.int .i64 0] 3 (0, 0)), (bD, .cells #[.slice none 0 0] 68 (0, 0))]) rfl fun p4 le5 hb6 => ?_
  refine rs_last 0 rfl (L' := [(b1, .cells #[.int .i64 0] 3 (0, 0)), (bD, .cells #[.slice none 0 0] 68 (0, 0))]) rfl fun p7 le8 hb9 => ?_
  refine fl_range (R := fun r_ l_ lp_ _ h_ => ∃ X_, ((∃ w1 : Value, ∃ X1 : Pcs, ∃ sm : Int, X_ = ([(l_, .loop lp_), (r_, .deferred (some [])), (b1, .cells #[.int .i64 (sm)] 3 (0, 0)), (bD, .cells #[w1] 68 (0, 0))] : Pcs) ++ (X1 ++ []) ∧ (OwnS 72 3 w1 (dcs (side size (min start size) (wantOf ds) rain n)) X1) ∧ (sm = sumTo (ovr size (min start size) (wantOf ds) rain) n) ∧ (n = 0 → X1 = [])) ∨ (False)) ∧ St h [bD] p7 h_ X_) ?_ ?_
  · intro r_ l_ lp_ h_ hlp_ s_
    show CallV _ md (.func (.func 95) ([] : List Value).toArray ([.pointer (some ⟨b2, 0, none⟩), .pointer (some ⟨b3, 0, none⟩)] : List Value).toArray) _ h_ _
    refine callv_of fC95 ?_
    refine c95 md _ _ _ _ _ s_ (.func (.yield l_) #[] #[]) rv _ _ _ _ _ _ _ _ ((D.mono le5).mono le8) hn rain hb9 (le8 _ _ hb6) hs hd hr0 (hr _ (fun _ _ e_ => le8 _ _ (le5 _ _ (e_)))) (fun rd_ X_ => ∃ w1 : Value, ∃ X1 : Pcs, ∃ sm : Int, X_ = ([(l_, .loop lp_), (r_, .deferred (some [])), (b1, .cells #[.int .i64 (sm)] 3 (0, 0)), (bD, .cells #[w1] 68 (0, 0))] : Pcs) ++ (X1 ++ []) ∧ (OwnS 72 3 w1 (dcs (side size (min start size) (wantOf ds) rain rd_)) X1) ∧ (sm = sumTo (ovr size (min start size) (wantOf ds) rain) rd_) ∧ (rd_ = 0 → X1 = [])) (fun X_ => False) ⟨_, [], 0, by simp, OwnS.empty _ _, rfl, (fun _ => rfl)⟩ ?_
    intro rd_ h_ Z_ X_ hi_ hI_ s_
    obtain ⟨w1, X1, sm, rfl, o1, hsm, hx0⟩ := hI_
    refine callv_round (Φ := fun h_ => St h [bD] p7 h_ (([(l_, .loop lp_), (r_, .deferred (some [])), (b1, .cells #[.int .i64 (sm)] 3 (0, 0)), (bD, .cells #[w1] 68 (0, 0))] : Pcs) ++ (X1 ++ (Z_ ++ [])))) (s_.rot.at (i := 0) rfl) hlp_ rfl (tm' := [.pointer (some ⟨bW, 0, none⟩), .pointer (some ⟨bY, 0, none⟩), .pointer (some ⟨bO, 0, none⟩), .pointer (some ⟨b1, 0, none⟩), undef, undef, .agg #[.int .i64 (size), .int .i64 (start), .slice a n c], .pointer (some ⟨bO, 1, none⟩), rv, .func (.func 95) #[] #[.pointer (some ⟨b2, 0, none⟩), .pointer (some ⟨b3, 0, none⟩)], .int .i64 (((rd_ : Nat) : Int)), .agg #[.int .i64 (lev size (min start size) (wantOf ds) rain (rd_ + 1)), .int .i64 (lack size (min start size) (wantOf ds) rain rd_), .int .i64 (ovr size (min start size) (wantOf ds) rain rd_)], undef, undef, undef, undef, undef, undef, undef, undef, undef, undef, undef, undef, undef, undef, undef, undef]) rfl ?_ (by simpa using s_.rot)
    intro c₁ cs₁ Stop₁ K₁
    have hsum := sum_bound (size := size) (start := min start size) (want := wantOf ds) (rain := rain) (n := n) ⟨by omega, by omega⟩ (fun i hi => (hd i hi).1) hr0 rd_ (by omega)
    have hov := ovr_bound (size := size) (start := min start size) (want := wantOf ds) (rain := rain) (n := n) ⟨by omega, by omega⟩ (fun i hi => (hd i hi).1) hr0 (show rd_ < n by omega)
    refine rl_start ?_
    refine rl_alloc (met_none rfl) tZ72 rfl fun b10 => rl_own (L' := ([(b10, .cells #[.int .i64 0, .int .i64 0, .int .i64 0] 72 (0, 0)), (l_, .loop lp_), (r_, .deferred (some [])), (b1, .cells #[.int .i64 (sm)] 3 (0, 0)), (bD, .cells #[w1] 68 (0, 0))] : Pcs) ++ (X1 ++ (Z_ ++ []))) rfl ?_
    refine rl_norm (tm' := _::_::_::_::_::_::_) rfl ?_
    refine rl_store (met_none rfl) tS72 rfl (v := .agg #[.int .i64 (lev size (min start size) (wantOf ds) rain (rd_ + 1)), .int .i64 (lack size (min start size) (wantOf ds) rain rd_), .int .i64 (ovr size (min start size) (wantOf ds) rain rd_)]) rfl (i := 0) rfl rfl rfl (Nat.le_of_ble_eq_true rfl) (cs2 := [.int .i64 (lev size (min start size) (wantOf ds) rain (rd_ + 1)), .int .i64 (lack size (min start size) (wantOf ds) rain rd_), .int .i64 (ovr size (min start size) (wantOf ds) rain rd_)]) rfl (rl_own (L' := ([(b10, .cells #[.int .i64 (lev size (min start size) (wantOf ds) rain (rd_ + 1)), .int .i64 (lack size (min start size) (wantOf ds) rain rd_), .int .i64 (ovr size (min start size) (wantOf ds) rain rd_)] 72 (0, 0)), (l_, .loop lp_), (r_, .deferred (some [])), (b1, .cells #[.int .i64 (sm)] 3 (0, 0)), (bD, .cells #[w1] 68 (0, 0))] : Pcs) ++ (X1 ++ (Z_ ++ []))) rfl ?_)
    refine rl_end ?_
    refine fl_begin (i := 1) rfl (by rw [hlp_]; rfl) ?_
    refine rs_own (L' := ([(b10, .cells #[.int .i64 (lev size (min start size) (wantOf ds) rain (rd_ + 1)), .int .i64 (lack size (min start size) (wantOf ds) rain rd_), .int .i64 (ovr size (min start size) (wantOf ds) rain rd_)] 72 (0, 0)), (l_, .loop { lp_ with state := .busy }), (r_, .deferred (some [])), (b1, .cells #[.int .i64 (sm)] 3 (0, 0)), (bD, .cells #[w1] 68 (0, 0))] : Pcs) ++ (X1 ++ (Z_ ++ []))) rfl ?_
    refine fl_block ?_
    refine fl_seq ?_
    refine rl_start ?_
    refine rl_det (met_none rfl) (fun h_ H_ => exd_load_own H_ tA3 rfl (i := 3) rfl (v := .int .i64 (sm)) rfl) rfl ?_
    refine rl_det (met_none rfl) (fun h_ H_ => exd_fieldAddr tF72_2 rfl (a' := ⟨b10, 2, none⟩) rfl) rfl ?_
    refine rl_det (met_none rfl) (fun h_ H_ => exd_load_own H_ tA3 rfl (i := 0) rfl (v := .int .i64 (ovr size (min start size) (wantOf ds) rain rd_)) rfl) (tm' := _::_::_::_::_::_::_::_::_::_::_::_::_::_::_::_) rfl ?_
    refine rl_det (met_none rfl) (fun h_ H_ => exd_add rfl rfl (wr (by omega))) rfl ?_
    refine rl_store (met_none rfl) tS3 rfl (v := .int .i64 (sm + (ovr size (min start size) (wantOf ds) rain rd_))) rfl (i := 3) rfl rfl rfl (Nat.le_of_ble_eq_true rfl) (cs2 := [.int .i64 (sm + (ovr size (min start size) (wantOf ds) rain rd_))]) rfl (rl_own (L' := ([(b10, .cells #[.int .i64 (lev size (min start size) (wantOf ds) rain (rd_ + 1)), .int .i64 (lack size (min start size) (wantOf ds) rain rd_), .int .i64 (ovr size (min start size) (wantOf ds) rain rd_)] 72 (0, 0)), (l_, .loop { lp_ with state := .busy }), (r_, .deferred (some [])), (b1, .cells #[.int .i64 (sm + (ovr size (min start size) (wantOf ds) rain rd_))] 3 (0, 0)), (bD, .cells #[w1] 68 (0, 0))] : Pcs) ++ (X1 ++ (Z_ ++ []))) rfl ?_)
    refine rl_end ?_
    refine fl_seq ?_
    refine rl_start ?_
    refine rl_det (met_none rfl) (fun h_ H_ => exd_load_own H_ tA3 rfl (i := 3) rfl (v := .int .i64 (sm + (ovr size (min start size) (wantOf ds) rain rd_))) rfl) rfl ?_
    refine rl_det (met_none rfl) (fun h_ H_ => exd_fieldAddr tF72_2 rfl (a' := ⟨b10, 2, none⟩) rfl) (tm' := _::_::_::_::_::_::_::_::_::_::_::_::_::_::_::_::_::_::_) rfl ?_
    refine rl_store (met_none rfl) tS3 rfl (v := .int .i64 (sm + (ovr size (min start size) (wantOf ds) rain rd_))) rfl (i := 0) rfl rfl rfl (Nat.le_of_ble_eq_true rfl) (cs2 := [.int .i64 (lev size (min start size) (wantOf ds) rain (rd_ + 1)), .int .i64 (lack size (min start size) (wantOf ds) rain rd_), .int .i64 (sm + (ovr size (min start size) (wantOf ds) rain rd_))]) rfl (rl_own (L' := ([(b10, .cells #[.int .i64 (lev size (min start size) (wantOf ds) rain (rd_ + 1)), .int .i64 (lack size (min start size) (wantOf ds) rain rd_), .int .i64 (sm + (ovr size (min start size) (wantOf ds) rain rd_))] 72 (0, 0)), (l_, .loop { lp_ with state := .busy }), (r_, .deferred (some [])), (b1, .cells #[.int .i64 (sm + (ovr size (min start size) (wantOf ds) rain rd_))] 3 (0, 0)), (bD, .cells #[w1] 68 (0, 0))] : Pcs) ++ (X1 ++ (Z_ ++ []))) rfl ?_)
    refine rl_end ?_
    refine rs_as (fl_mixed (C := []) (A := ([(b10, .cells #[.int .i64 (lev size (min start size) (wantOf ds) rain (rd_ + 1)), .int .i64 (lack size (min start size) (wantOf ds) rain rd_), .int .i64 (sm + (ovr size (min start size) (wantOf ds) rain rd_))] 72 (0, 0)), (l_, .loop { lp_ with state := .busy }), (r_, .deferred (some [])), (b1, .cells #[.int .i64 (sm + (ovr size (min start size) (wantOf ds) rain rd_))] 3 (0, 0)), (bD, .cells #[w1] 68 (0, 0))] : Pcs)) 9 [] [9, 10] [10, 8] [0, 1, 2, 3, 4, 5, 6] (fun i_ => match i_ with | 9 => X1 | 10 => Z_ | _ => []) (fun i_ => match i_ with | 8 => [9, 7] | _ => []) (fun i_ v_ x_ => match i_ with | 0 => v_ = .pointer (some ⟨bO, 0, none⟩) ∧ x_ = [] | 1 => v_ = .pointer (some ⟨bD, 0, none⟩) ∧ x_ = [] | 2 => v_ = .pointer (some ⟨bO, 0, none⟩) ∧ x_ = [] | 3 => v_ = .pointer (some ⟨bD, 0, none⟩) ∧ x_ = [] | 4 => v_ = .pointer (some ⟨bD, 0, none⟩) ∧ x_ = [] | 5 => v_ = w1 ∧ x_ = [] | 6 => v_ = .agg #[.int .i64 (lev size (min start size) (wantOf ds) rain (rd_ + 1)), .int .i64 (lack size (min start size) (wantOf ds) rain rd_), .int .i64 (sm + (ovr size (min start size) (wantOf ds) rain rd_))] ∧ x_ = [] | 7 => OwnS 72 3 v_ [[.int .i64 (lev size (min start size) (wantOf ds) rain (rd_ + 1)), .int .i64 (lack size (min start size) (wantOf ds) rain rd_), .int .i64 (sm + (ovr size (min start size) (wantOf ds) rain rd_))]] x_ | 8 => OwnS 72 3 v_ (dcs (side size (min start size) (wantOf ds) rain rd_) ++ [[.int .i64 (lev size (min start size) (wantOf ds) rain (rd_ + 1)), .int .i64 (lack size (min start size) (wantOf ds) rain rd_), .int .i64 (sm + (ovr size (min start size) (wantOf ds) rain rd_))]]) x_ | _ => True) (fun val11 => [.pointer (some ⟨bW, 0, none⟩), .pointer (some ⟨bY, 0, none⟩), .pointer (some ⟨bO, 0, none⟩), .pointer (some ⟨b1, 0, none⟩), undef, .pointer (some ⟨b10, 0, none⟩), .agg #[.int .i64 (size), .int .i64 (start), .slice a n c], .pointer (some ⟨bO, 1, none⟩), rv, .func (.func 95) #[] #[.pointer (some ⟨b2, 0, none⟩), .pointer (some ⟨b3, 0, none⟩)], .int .i64 (((rd_ : Nat) : Int)), .agg #[.int .i64 (lev size (min start size) (wantOf ds) rain (rd_ + 1)), .int .i64 (lack size (min start size) (wantOf ds) rain rd_), .int .i64 (ovr size (min start size) (wantOf ds) rain rd_)], .int .i64 (sm), .pointer (some ⟨b10, 2, none⟩), .int .i64 (ovr size (min start size) (wantOf ds) rain rd_), .int .i64 (sm + (ovr size (min start size) (wantOf ds) rain rd_)), .int .i64 (sm + (ovr size (min start size) (wantOf ds) rain rd_)), .pointer (some ⟨b10, 2, none⟩), (val11 0), (val11 1), (val11 2), (val11 3), (val11 4), (val11 5), (val11 6), (val11 7), (val11 8), undef]) mixed (by kernel_rfl) (Nat.le_of_ble_eq_true rfl) (by kernel_rfl) (by kernel_rfl) ⟨fun _ _ h => h.2, ⟨fun _ _ h => h.2, ⟨fun _ _ h => h.2, ⟨fun _ _ h => h.2, ⟨fun _ _ h => h.2, ⟨fun _ _ h => h.2, ⟨fun _ _ h => h.2, trivial⟩⟩⟩⟩⟩⟩⟩ (fun _ => by kernel_rfl) (by kernel_rfl) ?_ ?_) (fun h_ H_ => St.swap (A := ([(b10, .cells #[.int .i64 (lev size (min start size) (wantOf ds) rain (rd_ + 1)), .int .i64 (lack size (min start size) (wantOf ds) rain rd_), .int .i64 (sm + (ovr size (min start size) (wantOf ds) rain rd_))] 72 (0, 0)), (l_, .loop { lp_ with state := .busy }), (r_, .deferred (some [])), (b1, .cells #[.int .i64 (sm + (ovr size (min start size) (wantOf ds) rain rd_))] 3 (0, 0)), (bD, .cells #[w1] 68 (0, 0))] : Pcs)) (U := (X1 ++ (Z_ ++ []))) H_)
    · refine mixes_cons rfl (opmix ?_) ?_
      · intro val11 pc12 hQ_ hX_
        refine ⟨[.pointer (some ⟨bW, 0, none⟩), .pointer (some ⟨bY, 0, none⟩), .pointer (some ⟨bO, 0, none⟩), .pointer (some ⟨b1, 0, none⟩), undef, .pointer (some ⟨b10, 0, none⟩), .agg #[.int .i64 (size), .int .i64 (start), .slice a n c], .pointer (some ⟨bO, 1, none⟩), rv, .func (.func 95) #[] #[.pointer (some ⟨b2, 0, none⟩), .pointer (some ⟨b3, 0, none⟩)], .int .i64 (((rd_ : Nat) : Int)), .agg #[.int .i64 (lev size (min start size) (wantOf ds) rain (rd_ + 1)), .int .i64 (lack size (min start size) (wantOf ds) rain rd_), .int .i64 (ovr size (min start size) (wantOf ds) rain rd_)], .int .i64 (sm), .pointer (some ⟨b10, 2, none⟩), .int .i64 (ovr size (min start size) (wantOf ds) rain rd_), .int .i64 (sm + (ovr size (min start size) (wantOf ds) rain rd_)), .int .i64 (sm + (ovr size (min start size) (wantOf ds) rain rd_)), .pointer (some ⟨b10, 2, none⟩), (val11 0), (val11 1), (val11 2), (val11 3), (val11 4), (val11 5), (val11 6), (val11 7), (val11 8), undef], [], rfl, rfl, ?_⟩
        exact mix_det (met_none rfl) (fun _ h_ H_ => exd_fieldAddr tF101_0 rfl (a' := ⟨bO, 0, none⟩) rfl) ⟨rfl, rfl⟩
      refine mixes_cons rfl (opmix ?_) ?_
      · intro val11 pc12 hQ_ hX_
        have e0_ : val11 0 = .pointer (some ⟨bO, 0, none⟩) := (hQ_ 0 rfl).1
        refine ⟨[.pointer (some ⟨bW, 0, none⟩), .pointer (some ⟨bY, 0, none⟩), .pointer (some ⟨bO, 0, none⟩), .pointer (some ⟨b1, 0, none⟩), undef, .pointer (some ⟨b10, 0, none⟩), .agg #[.int .i64 (size), .int .i64 (start), .slice a n c], .pointer (some ⟨bO, 1, none⟩), rv, .func (.func 95) #[] #[.pointer (some ⟨b2, 0, none⟩), .pointer (some ⟨b3, 0, none⟩)], .int .i64 (((rd_ : Nat) : Int)), .agg #[.int .i64 (lev size (min start size) (wantOf ds) rain (rd_ + 1)), .int .i64 (lack size (min start size) (wantOf ds) rain rd_), .int .i64 (ovr size (min start size) (wantOf ds) rain rd_)], .int .i64 (sm), .pointer (some ⟨b10, 2, none⟩), .int .i64 (ovr size (min start size) (wantOf ds) rain rd_), .int .i64 (sm + (ovr size (min start size) (wantOf ds) rain rd_)), .int .i64 (sm + (ovr size (min start size) (wantOf ds) rain rd_)), .pointer (some ⟨b10, 2, none⟩), .pointer (some ⟨bO, 0, none⟩), (val11 1), (val11 2), (val11 3), (val11 4), (val11 5), (val11 6), (val11 7), (val11 8), undef], [], (by simp only [e0_]), rfl, ?_⟩
        exact mix_det (met_none rfl) (fun _ h_ H_ => exd_load_per H_ tA100 rfl (v := .pointer (some ⟨bD, 0, none⟩)) (per_cell (le8 _ _ (le5 _ _ hO)) rfl)) ⟨rfl, rfl⟩
      refine mixes_cons rfl (opmix ?_) ?_
      · intro val11 pc12 hQ_ hX_
        refine ⟨[.pointer (some ⟨bW, 0, none⟩), .pointer (some ⟨bY, 0, none⟩), .pointer (some ⟨bO, 0, none⟩), .pointer (some ⟨b1, 0, none⟩), undef, .pointer (some ⟨b10, 0, none⟩), .agg #[.int .i64 (size), .int .i64 (start), .slice a n c], .pointer (some ⟨bO, 1, none⟩), rv, .func (.func 95) #[] #[.pointer (some ⟨b2, 0, none⟩), .pointer (some ⟨b3, 0, none⟩)], .int .i64 (((rd_ : Nat) : Int)), .agg #[.int .i64 (lev size (min start size) (wantOf ds) rain (rd_ + 1)), .int .i64 (lack size (min start size) (wantOf ds) rain rd_), .int .i64 (ovr size (min start size) (wantOf ds) rain rd_)], .int .i64 (sm), .pointer (some ⟨b10, 2, none⟩), .int .i64 (ovr size (min start size) (wantOf ds) rain rd_), .int .i64 (sm + (ovr size (min start size) (wantOf ds) rain rd_)), .int .i64 (sm + (ovr size (min start size) (wantOf ds) rain rd_)), .pointer (some ⟨b10, 2, none⟩), (val11 0), (val11 1), (val11 2), (val11 3), (val11 4), (val11 5), (val11 6), (val11 7), (val11 8), undef], [], rfl, rfl, ?_⟩
        exact mix_det (met_none rfl) (fun _ h_ H_ => exd_fieldAddr tF101_0 rfl (a' := ⟨bO, 0, none⟩) rfl) ⟨rfl, rfl⟩
      refine mixes_cons rfl (opmix ?_) ?_
      · intro val11 pc12 hQ_ hX_
        have e2_ : val11 2 = .pointer (some ⟨bO, 0, none⟩) := (hQ_ 2 rfl).1
        refine ⟨[.pointer (some ⟨bW, 0, none⟩), .pointer (some ⟨bY, 0, none⟩), .pointer (some ⟨bO, 0, none⟩), .pointer (some ⟨b1, 0, none⟩), undef, .pointer (some ⟨b10, 0, none⟩), .agg #[.int .i64 (size), .int .i64 (start), .slice a n c], .pointer (some ⟨bO, 1, none⟩), rv, .func (.func 95) #[] #[.pointer (some ⟨b2, 0, none⟩), .pointer (some ⟨b3, 0, none⟩)], .int .i64 (((rd_ : Nat) : Int)), .agg #[.int .i64 (lev size (min start size) (wantOf ds) rain (rd_ + 1)), .int .i64 (lack size (min start size) (wantOf ds) rain rd_), .int .i64 (ovr size (min start size) (wantOf ds) rain rd_)], .int .i64 (sm), .pointer (some ⟨b10, 2, none⟩), .int .i64 (ovr size (min start size) (wantOf ds) rain rd_), .int .i64 (sm + (ovr size (min start size) (wantOf ds) rain rd_)), .int .i64 (sm + (ovr size (min start size) (wantOf ds) rain rd_)), .pointer (some ⟨b10, 2, none⟩), (val11 0), (val11 1), .pointer (some ⟨bO, 0, none⟩), (val11 3), (val11 4), (val11 5), (val11 6), (val11 7), (val11 8), undef], [], (by simp only [e2_]), rfl, ?_⟩
        exact mix_det (met_none rfl) (fun _ h_ H_ => exd_load_per H_ tA100 rfl (v := .pointer (some ⟨bD, 0, none⟩)) (per_cell (le8 _ _ (le5 _ _ hO)) rfl)) ⟨rfl, rfl⟩
      refine mixes_cons rfl (opmix ?_) ?_
      · intro val11 pc12 hQ_ hX_
        have e3_ : val11 3 = .pointer (some ⟨bD, 0, none⟩) := (hQ_ 3 rfl).1
        refine ⟨[.pointer (some ⟨bW, 0, none⟩), .pointer (some ⟨bY, 0, none⟩), .pointer (some ⟨bO, 0, none⟩), .pointer (some ⟨b1, 0, none⟩), undef, .pointer (some ⟨b10, 0, none⟩), .agg #[.int .i64 (size), .int .i64 (start), .slice a n c], .pointer (some ⟨bO, 1, none⟩), rv, .func (.func 95) #[] #[.pointer (some ⟨b2, 0, none⟩), .pointer (some ⟨b3, 0, none⟩)], .int .i64 (((rd_ : Nat) : Int)), .agg #[.int .i64 (lev size (min start size) (wantOf ds) rain (rd_ + 1)), .int .i64 (lack size (min start size) (wantOf ds) rain rd_), .int .i64 (ovr size (min start size) (wantOf ds) rain rd_)], .int .i64 (sm), .pointer (some ⟨b10, 2, none⟩), .int .i64 (ovr size (min start size) (wantOf ds) rain rd_), .int .i64 (sm + (ovr size (min start size) (wantOf ds) rain rd_)), .int .i64 (sm + (ovr size (min start size) (wantOf ds) rain rd_)), .pointer (some ⟨b10, 2, none⟩), (val11 0), (val11 1), (val11 2), .pointer (some ⟨bD, 0, none⟩), (val11 4), (val11 5), (val11 6), (val11 7), (val11 8), undef], [], (by simp only [e3_]), rfl, ?_⟩
        exact mix_det (met_none rfl) (fun _ h_ H_ => exd_nilCheck rfl) ⟨rfl, rfl⟩
      refine mixes_cons rfl (opmix ?_) ?_
      · intro val11 pc12 hQ_ hX_
        have e4_ : val11 4 = .pointer (some ⟨bD, 0, none⟩) := (hQ_ 4 rfl).1
        refine ⟨[.pointer (some ⟨bW, 0, none⟩), .pointer (some ⟨bY, 0, none⟩), .pointer (some ⟨bO, 0, none⟩), .pointer (some ⟨b1, 0, none⟩), undef, .pointer (some ⟨b10, 0, none⟩), .agg #[.int .i64 (size), .int .i64 (start), .slice a n c], .pointer (some ⟨bO, 1, none⟩), rv, .func (.func 95) #[] #[.pointer (some ⟨b2, 0, none⟩), .pointer (some ⟨b3, 0, none⟩)], .int .i64 (((rd_ : Nat) : Int)), .agg #[.int .i64 (lev size (min start size) (wantOf ds) rain (rd_ + 1)), .int .i64 (lack size (min start size) (wantOf ds) rain rd_), .int .i64 (ovr size (min start size) (wantOf ds) rain rd_)], .int .i64 (sm), .pointer (some ⟨b10, 2, none⟩), .int .i64 (ovr size (min start size) (wantOf ds) rain rd_), .int .i64 (sm + (ovr size (min start size) (wantOf ds) rain rd_)), .int .i64 (sm + (ovr size (min start size) (wantOf ds) rain rd_)), .pointer (some ⟨b10, 2, none⟩), (val11 0), (val11 1), (val11 2), (val11 3), .pointer (some ⟨bD, 0, none⟩), (val11 5), (val11 6), (val11 7), (val11 8), undef], [], (by simp only [e4_]), rfl, ?_⟩
        exact mix_det (met_none rfl) (fun _ h_ H_ => exd_load_own H_ tA68 rfl (i := 4) rfl (v := w1) rfl) ⟨rfl, rfl⟩
      refine mixes_cons rfl (opmix ?_) ?_
      · intro val11 pc12 hQ_ hX_
        refine ⟨[.pointer (some ⟨bW, 0, none⟩), .pointer (some ⟨bY, 0, none⟩), .pointer (some ⟨bO, 0, none⟩), .pointer (some ⟨b1, 0, none⟩), undef, .pointer (some ⟨b10, 0, none⟩), .agg #[.int .i64 (size), .int .i64 (start), .slice a n c], .pointer (some ⟨bO, 1, none⟩), rv, .func (.func 95) #[] #[.pointer (some ⟨b2, 0, none⟩), .pointer (some ⟨b3, 0, none⟩)], .int .i64 (((rd_ : Nat) : Int)), .agg #[.int .i64 (lev size (min start size) (wantOf ds) rain (rd_ + 1)), .int .i64 (lack size (min start size) (wantOf ds) rain rd_), .int .i64 (ovr size (min start size) (wantOf ds) rain rd_)], .int .i64 (sm), .pointer (some ⟨b10, 2, none⟩), .int .i64 (ovr size (min start size) (wantOf ds) rain rd_), .int .i64 (sm + (ovr size (min start size) (wantOf ds) rain rd_)), .int .i64 (sm + (ovr size (min start size) (wantOf ds) rain rd_)), .pointer (some ⟨b10, 2, none⟩), (val11 0), (val11 1), (val11 2), (val11 3), (val11 4), (val11 5), (val11 6), (val11 7), (val11 8), undef], [], rfl, rfl, ?_⟩
        exact mix_det (met_none rfl) (fun _ h_ H_ => exd_loadN_own H_ tA72 tS72 rfl (i := 0) rfl (vs := [.int .i64 (lev size (min start size) (wantOf ds) rain (rd_ + 1)), .int .i64 (lack size (min start size) (wantOf ds) rain rd_), .int .i64 (sm + (ovr size (min start size) (wantOf ds) rain rd_))]) rfl rfl) ⟨rfl, rfl⟩
      refine mixes_cons rfl (opmix ?_) ?_
      · intro val11 pc12 hQ_ hX_
        have e6_ : val11 6 = .agg #[.int .i64 (lev size (min start size) (wantOf ds) rain (rd_ + 1)), .int .i64 (lack size (min start size) (wantOf ds) rain rd_), .int .i64 (sm + (ovr size (min start size) (wantOf ds) rain rd_))] := (hQ_ 6 rfl).1
        refine ⟨[.pointer (some ⟨bW, 0, none⟩), .pointer (some ⟨bY, 0, none⟩), .pointer (some ⟨bO, 0, none⟩), .pointer (some ⟨b1, 0, none⟩), undef, .pointer (some ⟨b10, 0, none⟩), .agg #[.int .i64 (size), .int .i64 (start), .slice a n c], .pointer (some ⟨bO, 1, none⟩), rv, .func (.func 95) #[] #[.pointer (some ⟨b2, 0, none⟩), .pointer (some ⟨b3, 0, none⟩)], .int .i64 (((rd_ : Nat) : Int)), .agg #[.int .i64 (lev size (min start size) (wantOf ds) rain (rd_ + 1)), .int .i64 (lack size (min start size) (wantOf ds) rain rd_), .int .i64 (ovr size (min start size) (wantOf ds) rain rd_)], .int .i64 (sm), .pointer (some ⟨b10, 2, none⟩), .int .i64 (ovr size (min start size) (wantOf ds) rain rd_), .int .i64 (sm + (ovr size (min start size) (wantOf ds) rain rd_)), .int .i64 (sm + (ovr size (min start size) (wantOf ds) rain rd_)), .pointer (some ⟨b10, 2, none⟩), (val11 0), (val11 1), (val11 2), (val11 3), (val11 4), (val11 5), .agg #[.int .i64 (lev size (min start size) (wantOf ds) rain (rd_ + 1)), .int .i64 (lack size (min start size) (wantOf ds) rain rd_), .int .i64 (sm + (ovr size (min start size) (wantOf ds) rain rd_))], (val11 7), (val11 8), undef], [], (by simp only [e6_]), rfl, ?_⟩
        exact mix_buildO (met_none rfl) Try.underlying68 tS72 tZ72 (Nat.le_of_ble_eq_true rfl) (vs := [(0, .agg #[.int .i64 (lev size (min start size) (wantOf ds) rain (rd_ + 1)), .int .i64 (lack size (min start size) (wantOf ds) rain rd_), .int .i64 (sm + (ovr size (min start size) (wantOf ds) rain rd_))])]) rfl rfl (es := [[.int .i64 (lev size (min start size) (wantOf ds) rain (rd_ + 1)), .int .i64 (lack size (min start size) (wantOf ds) rain rd_), .int .i64 (sm + (ovr size (min start size) (wantOf ds) rain rd_))]]) rfl rfl rfl fun _ _ o_ => o_
      refine mixes_cons rfl (opmix ?_) ?_
      · intro val11 pc12 hQ_ hX_
        have e5_ : val11 5 = w1 := (hQ_ 5 rfl).1
        have q7_ : OwnS 72 3 (val11 7) [[.int .i64 (lev size (min start size) (wantOf ds) rain (rd_ + 1)), .int .i64 (lack size (min start size) (wantOf ds) rain rd_), .int .i64 (sm + (ovr size (min start size) (wantOf ds) rain rd_))]] (pc12 7) := hQ_ 7 rfl
        have x9_ : pc12 9 = X1 := hX_ 9 (by decide)
        refine ⟨[.pointer (some ⟨bW, 0, none⟩), .pointer (some ⟨bY, 0, none⟩), .pointer (some ⟨bO, 0, none⟩), .pointer (some ⟨b1, 0, none⟩), undef, .pointer (some ⟨b10, 0, none⟩), .agg #[.int .i64 (size), .int .i64 (start), .slice a n c], .pointer (some ⟨bO, 1, none⟩), rv, .func (.func 95) #[] #[.pointer (some ⟨b2, 0, none⟩), .pointer (some ⟨b3, 0, none⟩)], .int .i64 (((rd_ : Nat) : Int)), .agg #[.int .i64 (lev size (min start size) (wantOf ds) rain (rd_ + 1)), .int .i64 (lack size (min start size) (wantOf ds) rain rd_), .int .i64 (ovr size (min start size) (wantOf ds) rain rd_)], .int .i64 (sm), .pointer (some ⟨b10, 2, none⟩), .int .i64 (ovr size (min start size) (wantOf ds) rain rd_), .int .i64 (sm + (ovr size (min start size) (wantOf ds) rain rd_)), .int .i64 (sm + (ovr size (min start size) (wantOf ds) rain rd_)), .pointer (some ⟨b10, 2, none⟩), (val11 0), (val11 1), (val11 2), (val11 3), (val11 4), w1, (val11 6), (val11 7), (val11 8), undef], (X1 ++ ((pc12 7) ++ [])), (by simp only [e5_]), (by rw [← x9_]; rfl), ?_⟩
        exact mix_append (met_none rfl) Try.underlying68 tS72 tZ72 rfl tB72 Try.underlying68 rfl rfl o1 q7_ (ones_of rfl) (by rw [dcs_length, side_length]; simp only [List.length_cons, List.length_nil]; omega) (by decide) fun _ _ o_ => o_
      exact mixes_nil rfl
    intro val11 pc12 hQ_ hX_
    have e0_ : val11 0 = .pointer (some ⟨bO, 0, none⟩) := (hQ_ 0 (by decide)).1
    have e1_ : val11 1 = .pointer (some ⟨bD, 0, none⟩) := (hQ_ 1 (by decide)).1
    have e2_ : val11 2 = .pointer (some ⟨bO, 0, none⟩) := (hQ_ 2 (by decide)).1
    have e3_ : val11 3 = .pointer (some ⟨bD, 0, none⟩) := (hQ_ 3 (by decide)).1
    have e4_ : val11 4 = .pointer (some ⟨bD, 0, none⟩) := (hQ_ 4 (by decide)).1
    have e5_ : val11 5 = w1 := (hQ_ 5 (by decide)).1
    have e6_ : val11 6 = .agg #[.int .i64 (lev size (min start size) (wantOf ds) rain (rd_ + 1)), .int .i64 (lack size (min start size) (wantOf ds) rain rd_), .int .i64 (sm + (ovr size (min start size) (wantOf ds) rain rd_))] := (hQ_ 6 (by decide)).1
    have q8_ : OwnS 72 3 (val11 8) (dcs (side size (min start size) (wantOf ds) rain rd_) ++ [[.int .i64 (lev size (min start size) (wantOf ds) rain (rd_ + 1)), .int .i64 (lack size (min start size) (wantOf ds) rain rd_), .int .i64 (sm + (ovr size (min start size) (wantOf ds) rain rd_))]]) (pc12 8) := hQ_ 8 (by decide)
    have x10_ : pc12 10 = Z_ := hX_ 10 (by decide)
    refine rl_as (Φ := fun h_ => St h [bD] p7 h_ (([(b10, .cells #[.int .i64 (lev size (min start size) (wantOf ds) rain (rd_ + 1)), .int .i64 (lack size (min start size) (wantOf ds) rain rd_), .int .i64 (sm + (ovr size (min start size) (wantOf ds) rain rd_))] 72 (0, 0)), (l_, .loop { lp_ with state := .busy }), (r_, .deferred (some [])), (b1, .cells #[.int .i64 (sm + (ovr size (min start size) (wantOf ds) rain rd_))] 3 (0, 0)), (bD, .cells #[w1] 68 (0, 0))] : Pcs) ++ (pc12 10 ++ (pc12 8 ++ [])))) ?_ (fun h_ H_ => H_.swap')
    rw [x10_]
    refine rl_norm (tm' := [.pointer (some ⟨bW, 0, none⟩), .pointer (some ⟨bY, 0, none⟩), .pointer (some ⟨bO, 0, none⟩), .pointer (some ⟨b1, 0, none⟩), undef, .pointer (some ⟨b10, 0, none⟩), .agg #[.int .i64 (size), .int .i64 (start), .slice a n c], .pointer (some ⟨bO, 1, none⟩), rv, .func (.func 95) #[] #[.pointer (some ⟨b2, 0, none⟩), .pointer (some ⟨b3, 0, none⟩)], .int .i64 (((rd_ : Nat) : Int)), .agg #[.int .i64 (lev size (min start size) (wantOf ds) rain (rd_ + 1)), .int .i64 (lack size (min start size) (wantOf ds) rain rd_), .int .i64 (ovr size (min start size) (wantOf ds) rain rd_)], .int .i64 (sm), .pointer (some ⟨b10, 2, none⟩), .int .i64 (ovr size (min start size) (wantOf ds) rain rd_), .int .i64 (sm + (ovr size (min start size) (wantOf ds) rain rd_)), .int .i64 (sm + (ovr size (min start size) (wantOf ds) rain rd_)), .pointer (some ⟨b10, 2, none⟩), .pointer (some ⟨bO, 0, none⟩), .pointer (some ⟨bD, 0, none⟩), .pointer (some ⟨bO, 0, none⟩), .pointer (some ⟨bD, 0, none⟩), .pointer (some ⟨bD, 0, none⟩), w1, .agg #[.int .i64 (lev size (min start size) (wantOf ds) rain (rd_ + 1)), .int .i64 (lack size (min start size) (wantOf ds) rain rd_), .int .i64 (sm + (ovr size (min start size) (wantOf ds) rain rd_))], (val11 7), (val11 8), undef]) (by simp only [e0_, e1_, e2_, e3_, e4_, e5_, e6_]) ?_
    clear hQ_ hX_
    have o14 := q8_
    refine rl_det (met_none rfl) (fun h_ H_ => exd_nilCheck rfl) rfl ?_
    refine rl_store1 (met_none rfl) tS68 rfl (v := (val11 8)) rfl o14.one (i := 4) rfl (Nat.succ_le_iff.1 (Nat.le_of_ble_eq_true rfl)) (cs2 := [(val11 8)]) rfl (rl_own (L' := ([(b10, .cells #[.int .i64 (lev size (min start size) (wantOf ds) rain (rd_ + 1)), .int .i64 (lack size (min start size) (wantOf ds) rain rd_), .int .i64 (sm + (ovr size (min start size) (wantOf ds) rain rd_))] 72 (0, 0)), (l_, .loop { lp_ with state := .busy }), (r_, .deferred (some [])), (b1, .cells #[.int .i64 (sm + (ovr size (min start size) (wantOf ds) rain rd_))] 3 (0, 0)), (bD, .cells #[(val11 8)] 68 (0, 0))] : Pcs) ++ (Z_ ++ ((pc12 8) ++ []))) rfl ?_)
    refine rl_end ?_
    refine fl_inBlock ?_
    refine fl_rend (i := 1) rfl (lp' := lp_) (by rw [hlp_]; rfl) ?_
    refine rs_own (L' := ([(b10, .cells #[.int .i64 (lev size (min start size) (wantOf ds) rain (rd_ + 1)), .int .i64 (lack size (min start size) (wantOf ds) rain rd_), .int .i64 (sm + (ovr size (min start size) (wantOf ds) rain rd_))] 72 (0, 0)), (l_, .loop lp_), (r_, .deferred (some [])), (b1, .cells #[.int .i64 (sm + (ovr size (min start size) (wantOf ds) rain rd_))] 3 (0, 0)), (bD, .cells #[(val11 8)] 68 (0, 0))] : Pcs) ++ (Z_ ++ ((pc12 8) ++ []))) rfl ?_
    refine rs_perm (List.Perm.append_left _ (List.perm_append_comm_assoc _ _ _)) ?_
    refine rs_own (L' := ([(b10, .cells #[.int .i64 (lev size (min start size) (wantOf ds) rain (rd_ + 1)), .int .i64 (lack size (min start size) (wantOf ds) rain rd_), .int .i64 (sm + (ovr size (min start size) (wantOf ds) rain rd_))] 72 (0, 0)), (l_, .loop lp_), (r_, .deferred (some [])), (b1, .cells #[.int .i64 (sm + (ovr size (min start size) (wantOf ds) rain rd_))] 3 (0, 0)), (bD, .cells #[(val11 8)] 68 (0, 0))] : Pcs) ++ ((pc12 8) ++ (Z_ ++ []))) rfl ?_
    exact fun h_ H_ => K₁ _ _ ⟨true, ([(l_, .loop lp_), (r_, .deferred (some [])), (b1, .cells #[.int .i64 (sm + (ovr size (min start size) (wantOf ds) rain rd_))] 3 (0, 0)), (bD, .cells #[(val11 8)] 68 (0, 0))] : Pcs) ++ ((pc12 8) ++ []), rfl, ⟨fun _ => ⟨(val11 8), (pc12 8), (sm + (ovr size (min start size) (wantOf ds) rain rd_)), rfl, (o14.as (by rw [hsm]; exact (dcs_side_succ _ _ _ _ _).symm)), (by rw [hsm]; rfl), (fun e_ => by omega)⟩, fun e_ => (by cases e_)⟩, St.rot' (by simpa using (H_.drop))⟩
  · intro r_ l_ lp_ v_ hlp_
    refine rs_ex fun X_ => rs_and fun hIJ_ => ?_
    rcases hIJ_ with ⟨w1, X1, sm, rfl, o1, hsm, hx0⟩ | hJ_
    · refine fl_endNone (i := 0) rfl (by rw [hlp_]; simp [loopOf]) (by rw [hlp_]; rfl) ?_
      refine rs_own (L' := ([(l_, .loop { lp_ with state := .exhausted }), (r_, .deferred (some [])), (b1, .cells #[.int .i64 (sm)] 3 (0, 0)), (bD, .cells #[w1] 68 (0, 0))] : Pcs) ++ (X1 ++ [])) rfl ?_
      refine fl_inBlock ?_
      refine fl_fallX (i := 1) rfl fun td_ => ?_
      refine rs_own (L' := ([(l_, .loop { lp_ with state := .exhausted }), (r_, .deferred none), (b1, .cells #[.int .i64 (sm)] 3 (0, 0)), (bD, .cells #[w1] 68 (0, 0))] : Pcs) ++ (X1 ++ [])) rfl ?_
      exact fun h_ H_ => K _ td_ h_ _ _ [_, _, _] _ o1 hx0 H_
    · exact hJ_.elim
end Go.Proofs.Ytbmkacnlhlbnjaa
namespace Go.Proofs.Ytbmkacnlhlbnjaa
open Go.X Go.X.Cist Go.Conc
set_option maxRecDepth 10000

/-- What a worker has left in the variable's block 'bD': a slice of these days. -/
def sideΨ (H bD : Nat) (ds : List Day) (h : Heap) : Prop := ∃ w X, OwnS 72 3 w (dcs ds) X ∧ (ds.length = 0 → X = []) ∧ h[bD]? = some (.cells #[w] 68 (0, 0)) ∧ ∀ x ∈ X, h[x.1]? = some x.2 ∧ H ≤ x.1
theorem sideΨ_keep {H bD : Nat} {ds : List Day} {h h' : Heap} (k : Keep h h') (x : sideΨ H bD ds h) : sideΨ H bD ds h' := by
  obtain ⟨w, X, o, h0, hb, hX⟩ := x
  exact ⟨w, X, o, h0, (k.keep _ (lt_of_get hb)).trans hb, fun x hx => ⟨(k.keep _ (lt_of_get (hX x hx).1)).trans (hX x hx).1, (hX x hx).2⟩⟩
def bothΨ (H bD bE : Nat) (d e : List Day) (k : Nat) (h : Heap) : Prop := if k = 0 then sideΨ H bD d h else sideΨ H bE e h
theorem bothΨ_keep {H bD bE : Nat} {d e : List Day} (k : Nat) (h h' : Heap) (hk : Keep h h') (x : bothΨ H bD bE d e k h) : bothΨ H bD bE d e k h' := by
  unfold bothΨ at x ⊢
  split at x
  · rename_i h0; rw [if_pos h0]; exact sideΨ_keep hk x
  · rename_i h0; rw [if_neg h0]; exact sideΨ_keep hk x

instance {hb : Heap} : Stb (fun h => Keep hb h) := ⟨fun _ _ a b => a.trans b⟩

/-- A worker. -/
theorem both_child {S : Nat → Prop} {h₀ hb : Heap} {Z : List Nat} {pp n₀ bW bD bY bO : Nat} {size start : Int} {a : Option Addr} {n c : Nat} {ds : List Day} (D : Days (Hp hb) a n ds) (hn : n ≤ 40) (g : FuncId) (rain : Nat → Int)
    (hbD : hb[bD]? = some (.cells #[.slice none 0 0] 68 (0, 0))) (hY : HC hb bY #[.int .i64 size, .int .i64 start, .slice a n c] 24) (hO : HC hb bO #[.pointer (some ⟨bD, 0, none⟩), .func (.func g) #[] #[.pointer (some ⟨bY, 0, none⟩)]] 101)
    (hne : bY ≠ bD ∧ bO ≠ bD) (hnD : 0 < n → (adr a).block ≠ bD) (hs : 0 ≤ size ∧ size ≤ 60 ∧ 0 ≤ start) (hd : ∀ i, i < n → 0 ≤ (ds.getD i dz).want ∧ (ds.getD i dz).want ≤ 200) (hr0 : ∀ i, i < n → 0 ≤ rain i ∧ rain i ≤ 20)
    (hr : ∀ (p : PHeap) (z : Nat × Nat), Days p a n ds → p bY = some (.cells #[.int .i64 size, .int .i64 start, .slice a n c] 24 z) → ∀ h i, Per p h → i < n →
      CallV Try.prog (.own false) (.func (.func g) #[] #[.pointer (some ⟨bY, 0, none⟩)]) [.int .i64 ((i : Nat) : Int)] h fun v h' => v = .int .i64 (rain i) ∧ Keep h h')
    {Φ : Heap → Prop} (hΦ : ∀ h, sideΨ hb.size bD (side size (min start size) (wantOf ds) rain n) h → Φ h) :
    Go.X.Reach Try.prog (.own false) (born Try.prog { target := .fn (.func 91) #[.pointer (some ⟨bW, 0, none⟩), .pointer (some ⟨bY, 0, none⟩), .pointer (some ⟨bO, 0, none⟩)], args := #[] }) hb (WDone Try.prog ⟨99, bW, S, h₀, Z, pp, n₀⟩ Φ) := by
  refine born_first (Φ := fun h => Keep hb h) Try.func91 (by kernel_rfl) (by kernel_rfl) (fun h hk => ?_) hb (.refl _)
  have hbD' : h[bD]? = some (.cells #[.slice none 0 0] 68 (0, 0)) := (hk.keep _ (lt_of_get hbD)).trans hbD
  obtain ⟨zY, hY'⟩ := hY.keep hk
  obtain ⟨zO, hO'⟩ := hO.keep hk
  let p : PHeap := fun b => if b = bD then none else h[b]?
  have hpY : p bY = some (.cells #[.int .i64 size, .int .i64 start, .slice a n c] 24 zY) := by simp only [p, if_neg hne.1]; exact hY'
  have hpO : p bO = some (.cells #[.pointer (some ⟨bD, 0, none⟩), .func (.func g) #[] #[.pointer (some ⟨bY, 0, none⟩)]] 101 zO) := by simp only [p, if_neg hne.2]; exact hO'
  have Dp : Days p a n ds := by
    refine ⟨Sl.len D, Sl.wid D, Sl.ne D, fun i e hi j v hj => ?_⟩
    have hx := (Hp_keep hk).cell (Sl.get D i e hi j v hj)
    have hn0 : 0 < n := by have := (List.getElem?_eq_some_iff.1 hi).1; have := Sl.len D; omega
    have hne' : (((adr a).add (i * 3)).add j).block ≠ bD := by rw [add_blk, add_blk]; exact hnD hn0
    unfold pcell at hx ⊢
    simp only [p, if_neg hne']
    exact hx
  have s₀ : St h [bD] p h [(bD, .cells #[.slice none 0 0] 68 (0, 0))] := by
    refine ⟨fun _ _ _ => rfl, Nat.le_refl _, fun b o e => ?_, fun x hx => ?_, by simp⟩
    · simp only [p] at e
      split at e
      · cases e
      · exact e
    · obtain rfl := List.mem_singleton.1 hx
      exact ⟨hbD', by simp [p], .inr (by simp)⟩
  refine c91 (.own false) h p bW bD bY bO zY zO size start a n c ds Dp hn _ rfl rain hpY hpO hs hd hr0 (fun p' le h₂ i hp2 hi => hr p' zY (Sl.mono le Dp) (le _ _ hpY) h₂ i hp2 hi) s₀ _ _ _ fun tm td h₂ w X A p' o h0 s₂ => ?_
  refine rs_done (Φ := fun h₃ => Keep h₂ h₃) Try.wgLib Try.func91 rfl (fun ge hge h₃ hk3 => reach_stop ⟨hge, hΦ h₃ (sideΨ_keep hk3 ⟨w, X, o, fun e => h0 (by rw [side_length] at e; exact e), ?_, fun x hx => ?_⟩)⟩) h₂ (.refl _)
  · exact (s₂.own (bD, .cells #[w] 68 (0, 0)) (by simp)).1
  · obtain ⟨h1, h2, h3⟩ := s₂.own x (by simp [hx])
    refine ⟨h1, Nat.le_trans hk.size (h3.resolve_right fun hm => ?_)⟩
    have hnd := s₂.nod
    rw [List.map_append, List.nodup_append] at hnd
    have hnd2 := hnd.2.1
    simp only [List.map_cons, List.nodup_cons] at hnd2
    refine hnd2.1 ?_
    have e : x.1 = bD := by simpa using hm
    rw [← e]
    exact List.mem_map.2 ⟨x, by simp [hx], rfl⟩

theorem own_exc {w : Value} {ds : List Day} {X : Pcs} {h : Heap} (o : OwnS 72 3 w (dcs ds) X) (hn : 0 < ds.length) (hX : ∀ x ∈ X, h[x.1]? = some x.2) : ∃ b o', X = [(b, o')] ∧ Exc h b := by
  have hl : (dcs ds).length = ds.length := dcs_length ds
  obtain ⟨hw, ⟨_, h0, _⟩ | ⟨b, cs, cap, rest, _, rfl, hcs, hlen⟩⟩ := o
  · rw [h0] at hl; simp at hl; omega
  · refine ⟨b, _, rfl, cs.toArray, 72, hX (b, .cells cs.toArray 72 (0, 0)) (by simp), ?_⟩
    have : (dcs ds).flatten.length = (dcs ds).length * 3 := flatten_length hw
    simp only [List.size_toArray, hcs, List.length_append]
    omega

theorem own_exc' {w : Value} {ds : List Day} {X : Pcs} {h : Heap} (o : OwnS 72 3 w (dcs ds) X) (h0 : ds.length = 0 → X = []) (hX : ∀ x ∈ X, h[x.1]? = some x.2) : (∀ x ∈ X, Exc h x.1) ∧ (X.map (·.1)).Nodup := by
  by_cases e : ds.length = 0
  · rw [h0 e]; simp
  · obtain ⟨b, o', rfl, ex⟩ := own_exc o (by omega) hX
    exact ⟨fun x hx => by rw [List.mem_singleton.1 hx]; exact ex, by simp⟩

/-- Both are back. -/
theorem both_back {h h₁ he : Heap} {p p8 : PHeap} {L : Pcs} {S : Nat → Prop} {q n₀ bW bD bE : Nat} {d e : List Day} {hw : Nat → Heap} (s₁ : St h [] p8 h₁ L) (le : PLe p p8) (hlo : h.size ≤ bW ∧ h.size ≤ bD ∧ h.size ≤ bE) (hlt : bD < h₁.size ∧ bE < h₁.size) (hne : bD ≠ bE)
    (hp : p8 bW = none ∧ p8 bD = none ∧ p8 bE = none) (J : Joined ⟨99, bW, S, h₁, [bD, bE], q, n₀⟩ (bothΨ h₁.size bD bE d e) hw he) :
    ∃ w1 w2 X1 X2, OwnS 72 3 w1 (dcs d) X1 ∧ OwnS 72 3 w2 (dcs e) X2 ∧ St h [] p he (([(bD, .cells #[w1] 68 (0, 0)), (bE, .cells #[w2] 68 (0, 0))] : Pcs) ++ (X1 ++ (X2 ++ []))) := by
  obtain ⟨J1, J2, J3, J4⟩ := J
  obtain ⟨w1, X1, o1, h01, hb1, hX1⟩ := (J3 0 (by omega)).1
  obtain ⟨w2, X2, o2, h02, hb2, hX2⟩ : sideΨ h₁.size bE e (hw 1) := (J3 1 (by omega)).1
  have j0 := fun b hb => ((J3 0 (by omega)).2 b hb).1
  have j1 := fun b hb => ((J3 1 (by omega)).2 b hb).1
  obtain ⟨ex1, nd1⟩ := own_exc' o1 h01 fun x hx => (hX1 x hx).1
  obtain ⟨ex2, nd2⟩ := own_exc' o2 h02 fun x hx => (hX2 x hx).1
  have old : ∀ b, b < h₁.size → b ≠ bW → b ≠ bD → b ≠ bE → he[b]? = h₁[b]? := fun b h1 h2 h3 h4 => J2 b ⟨h1, h2, by simp [h3, h4]⟩
  have heD := (j0 bD (Exc.of hb1 (by simp))).trans hb1
  have heE := (j1 bE (Exc.of hb2 (by simp))).trans hb2
  simp only at J1
  have hsz : h.size ≤ h₁.size := s₁.size
  have pnone : ∀ b, h₁.size ≤ b → p b = none := fun b hb => by
    cases hpb : p b with
    | none => rfl
    | some o => exact absurd (lt_of_get (s₁.per _ _ (le _ _ hpb))) (Nat.not_lt.2 hb)
  have pn : ∀ b, p8 b = none → p b = none := fun b hb => by
    cases hpb : p b with
    | none => rfl
    | some o => rw [le _ _ hpb] at hb; cases hb
  refine ⟨w1, w2, _, _, o1, o2, ⟨fun b hb _ => (old b (by omega) (by omega) (by omega) (by omega)).trans (s₁.keep b hb (by simp)), by omega, fun b o hb => ?_, fun x hx => ?_, ?_⟩⟩
  · have hb8 := le _ _ hb
    have := s₁.per _ _ hb8
    refine (old b (lt_of_get this) ?_ ?_ ?_).trans this
    · rintro rfl; rw [hp.1] at hb8; cases hb8
    · rintro rfl; rw [hp.2.1] at hb8; cases hb8
    · rintro rfl; rw [hp.2.2] at hb8; cases hb8
  · simp only [List.append_nil, List.cons_append, List.nil_append, List.mem_cons, List.mem_append] at hx
    rcases hx with rfl | rfl | hx | hx
    · exact ⟨heD, pn _ hp.2.1, .inl hlo.2.1⟩
    · exact ⟨heE, pn _ hp.2.2, .inl hlo.2.2⟩
    · have h1 := hX1 x hx
      exact ⟨(j0 _ (ex1 x hx)).trans h1.1, pnone _ h1.2, .inl (by omega)⟩
    · have h1 := hX2 x hx
      exact ⟨(j1 _ (ex2 x hx)).trans h1.1, pnone _ h1.2, .inl (by omega)⟩
  · have m1 : ∀ b, b ∈ X1.map (·.1) → h₁.size ≤ b := fun b hb => by obtain ⟨x, hx, rfl⟩ := List.mem_map.1 hb; exact (hX1 x hx).2
    have m2 : ∀ b, b ∈ X2.map (·.1) → h₁.size ≤ b := fun b hb => by obtain ⟨x, hx, rfl⟩ := List.mem_map.1 hb; exact (hX2 x hx).2
    simp only [List.append_nil, List.cons_append, List.nil_append, List.map_cons, List.map_append, List.nodup_cons, List.mem_cons, List.mem_append, not_or]
    refine ⟨⟨hne, fun hb => by have := m1 _ hb; omega, fun hb => by have := m2 _ hb; omega⟩, ⟨fun hb => by have := m1 _ hb; omega, fun hb => by have := m2 _ hb; omega⟩, List.nodup_append.2 ⟨nd1, nd2, ?_⟩⟩
    intro b hb c hc e
    subst e
    obtain ⟨x, hx, e1⟩ := List.mem_map.1 hb
    obtain ⟨y, hy, e2⟩ := List.mem_map.1 hc
    exact J4 b (e1 ▸ ex1 x hx) (e2 ▸ ex2 y hy)

noncomputable def bothBody : Code := (Try.f68.body).getD .skip
noncomputable def bothTail : Code := match bothBody with | .seq _ (.seq _ (.seq _ t)) => t | _ => .skip
noncomputable def bothOps : Array Oper := match bothTail with | .seq (.region _ ops _) _ => ops | _ => #[]
noncomputable def bothEnd : Code := match bothTail with | .seq _ t => t | _ => .skip
/-- Behind 'Wait'. -/
def bothKon (bD bE : Nat) (c₀ : Frame) (cs : List Frame) (gb : Goroutine) : Prop := ∃ y : Nat → Value,
  gb = G (FL 68 .none [y 0, y 1, .pointer (some ⟨bD, 0, none⟩), .pointer (some ⟨bE, 0, none⟩), y 4, y 5, y 6, y 7, y 8, y 9, y 10, y 11, y 12, y 13, y 14, y 15, y 16, y 17, y 18, y 19, y 20, y 21, y 22] [] [.inRegion bothOps [], .code bothEnd]) (c₀ :: cs)
theorem fl_regend {P : Program} {md : Md} {f : FuncId} {r : Rd} {tm : List Value} {df : List Deferred} {k : List Item} {cs : List Frame} {Φ : Heap → Prop} {Stop : Goroutine → Heap → Prop} [Stb Φ] {ops : Array Oper} (x : RS P md (G (FL f r tm df k) cs) Φ Stop) :
    RS P md (G (FL f r tm df (.inRegion ops [] :: k)) cs) Φ Stop := rs_region_end x
end Go.Proofs.Ytbmkacnlhlbnjaa
namespace Go.Proofs.Ytbmkacnlhlbnjaa
open Go.X Go.X.Cist Go.Conc
set_option maxRecDepth 10000

set_option maxHeartbeats 4000000
theorem c68 (h : Heap) (p : PHeap) (hp : Per p h) (size start : Int) (a : Option Addr) (n c : Nat) (ds : List Day) (D : Days p a n ds) (hn : n ≤ 40) (hs : 0 ≤ size ∧ size ≤ 60 ∧ 0 ≤ start) (hd : ∀ i, i < n → 0 ≤ (ds.getD i dz).want ∧ (ds.getD i dz).want ≤ 200) (hlo : ∀ i, i < n → 0 ≤ loOf ds i ∧ loOf ds i ≤ 20) (hhi : ∀ i, i < n → 0 ≤ hiOf ds i ∧ hiOf ds i ≤ 20) : CallsX Try.prog (.main true) 68 #[.agg #[.int .i64 (size), .int .i64 (start), .slice a n c]] h fun v h' => ∃ w1 w2 X1 X2, v = .tuple #[w1, w2] ∧ OwnS 72 3 w1 (dcs (side size (min start size) (wantOf ds) (loOf ds) n)) X1 ∧ OwnS 72 3 w2 (dcs (side size (min start size) (wantOf ds) (hiOf ds) n)) X2 ∧ New h h' (X1 ++ (X2 ++ [])) := by
  refine calls_intro (Φ := fun h_ => St h [] p h_ []) Try.func68 rfl (tm := [_, _, _, _, _, _, _, _, _, _, _, _, _, _, _, _, _, _, _, _, _, _, _]) rfl ?_ (St.start h _ hp)
  intro c₀ cs Stop K
  refine fl_seq ?_
  refine rl_start ?_
  refine rl_box (met_none rfl) (v := .agg #[.int .i64 (size), .int .i64 (start), .slice a n c]) rfl fun b1 => rl_own (L' := [(b1, .cells #[.int .i64 (size), .int .i64 (start), .slice a n c] 24 (0, 0))]) rfl ?_
  refine rl_alloc (met_none rfl) tZ68 rfl fun b2 => rl_own (L' := [(b2, .cells #[.slice none 0 0] 68 (0, 0)), (b1, .cells #[.int .i64 (size), .int .i64 (start), .slice a n c] 24 (0, 0))]) rfl ?_
  refine rl_alloc (met_none rfl) tZ68 rfl fun b3 => rl_own (L' := [(b3, .cells #[.slice none 0 0] 68 (0, 0)), (b2, .cells #[.slice none 0 0] 68 (0, 0)), (b1, .cells #[.int .i64 (size), .int .i64 (start), .slice a n c] 24 (0, 0))]) rfl ?_
  refine rl_norm (tm' := _::_::_::_::_) rfl ?_
  refine rl_end ?_
  refine fl_seq ?_
  refine rl_start ?_
  refine rl_alloc (met_none rfl) tZ99 rfl fun b4 => rl_own (L' := [(b4, .cells #[.int .u64 0, .int .u32 0] 99 (0, 0)), (b3, .cells #[.slice none 0 0] 68 (0, 0)), (b2, .cells #[.slice none 0 0] 68 (0, 0)), (b1, .cells #[.int .i64 (size), .int .i64 (start), .slice a n c] 24 (0, 0))]) rfl ?_
  refine rl_end ?_
  refine fl_seq ?_
  refine fl_seq ?_
  refine rl_start ?_
  refine rl_det (met_none rfl) (fun h_ H_ => exd_makeFunc (a := []) (b := [.pointer (some ⟨b1, 0, none⟩)]) rfl rfl) rfl ?_
  refine rl_det (met_none rfl) (fun h_ H_ => exd_build tZ101 tP101 (vs := [(0, .pointer (some ⟨b2, 0, none⟩)), (1, .func (.func 88) #[] #[.pointer (some ⟨b1, 0, none⟩)])]) rfl (cells := #[.pointer (some ⟨b2, 0, none⟩), .func (.func 88) #[] #[.pointer (some ⟨b1, 0, none⟩)]]) rfl) (tm' := _::_::_::_::_::_::_::_::_::_) rfl ?_
  refine rl_det (met_none rfl) (fun h_ H_ => exd_makeFunc (a := []) (b := [.pointer (some ⟨b1, 0, none⟩)]) rfl rfl) rfl ?_
  refine rl_det (met_none rfl) (fun h_ H_ => exd_build tZ101 tP101 (vs := [(0, .pointer (some ⟨b3, 0, none⟩)), (1, .func (.func 89) #[] #[.pointer (some ⟨b1, 0, none⟩)])]) rfl (cells := #[.pointer (some ⟨b3, 0, none⟩), .func (.func 89) #[] #[.pointer (some ⟨b1, 0, none⟩)]]) rfl) rfl ?_
  refine rl_own (L' := ([(b4, .cells #[.int .u64 0, .int .u32 0] 99 (0, 0)), (b3, .cells #[.slice none 0 0] 68 (0, 0)), (b2, .cells #[.slice none 0 0] 68 (0, 0)), (b1, .cells #[.int .i64 (size), .int .i64 (start), .slice a n c] 24 (0, 0))] : Pcs) ++ []) rfl ?_
  refine rl_buildO ([(b4, .cells #[.int .u64 0, .int .u32 0] 99 (0, 0)), (b3, .cells #[.slice none 0 0] 68 (0, 0)), (b2, .cells #[.slice none 0 0] 68 (0, 0)), (b1, .cells #[.int .i64 (size), .int .i64 (start), .slice a n c] 24 (0, 0))] : Pcs) (met_none rfl) Try.underlying102 tS101 tZ101 (Nat.le_of_ble_eq_true rfl) (vs := [(0, .agg #[.pointer (some ⟨b2, 0, none⟩), .func (.func 88) #[] #[.pointer (some ⟨b1, 0, none⟩)]]), (1, .agg #[.pointer (some ⟨b3, 0, none⟩), .func (.func 89) #[] #[.pointer (some ⟨b1, 0, none⟩)]])]) rfl rfl (es := [[.pointer (some ⟨b2, 0, none⟩), .func (.func 88) #[] #[.pointer (some ⟨b1, 0, none⟩)]], [.pointer (some ⟨b3, 0, none⟩), .func (.func 89) #[] #[.pointer (some ⟨b1, 0, none⟩)]]]) rfl rfl rfl fun v5 X6 o7 => ?_
  refine rl_norm (tm' := _::_::_::_::_::_::_::_::_::_::_::_::_) rfl ?_
  refine rl_lastN (A := ([(b4, .cells #[.int .u64 0, .int .u32 0] 99 (0, 0)), (b3, .cells #[.slice none 0 0] 68 (0, 0)), (b2, .cells #[.slice none 0 0] 68 (0, 0)), (b1, .cells #[.int .i64 (size), .int .i64 (start), .slice a n c] 24 (0, 0))] : Pcs)) o7 (n := 2) rfl fun p8 a9 cp10 le11 ev_ D12 => ?_
  subst ev_
  refine rl_own (L' := [(b4, .cells #[.int .u64 0, .int .u32 0] 99 (0, 0)), (b3, .cells #[.slice none 0 0] 68 (0, 0)), (b2, .cells #[.slice none 0 0] 68 (0, 0)), (b1, .cells #[.int .i64 (size), .int .i64 (start), .slice a n c] 24 (0, 0))]) rfl ?_
  refine rl_det (met_none rfl) (fun h_ H_ => exd_len Try.underlying102 rfl) rfl ?_
  refine rl_det (met_none rfl) (fun h_ H_ => exd_move (v := .int .i64 0) rfl) rfl ?_
  refine rl_end ?_
  refine fl_block ?_
  refine fl_loop1 ?_
  refine fl_seq ?_
  refine rl_start ?_
  refine rl_det (met_none rfl) (fun h_ H_ => exd_lss rfl rfl) (tm' := _::_::_::_::_::_::_::_::_::_::_::_::_::_::_::_) rfl ?_
  refine rl_end ?_
  refine fl_seq ?_
  refine fl_then rfl (decide_eq_true (by decide)) ?_
  refine fl_skip ?_
  refine fl_seq ?_
  refine fl_block ?_
  refine fl_seq ?_
  refine rl_start ?_
  refine rl_det (met_none rfl) (fun h_ H_ => exd_indexAddrN (i := 0) Try.underlying102 tS101 (sl_ne a9 2 cp10 (D12.ne (by omega))) rfl (by omega)) rfl ?_
  refine rl_det (met_none rfl) (fun h_ H_ => exd_loadN_per H_ tA101 tS101 rfl (vs := [.pointer (some ⟨b2, 0, none⟩), .func (.func 88) #[] #[.pointer (some ⟨b1, 0, none⟩)]]) rfl (fun j_ v_ e_ => D12.get 0 _ rfl j_ v_ e_)) rfl ?_
  refine rl_alloc (met_none rfl) tZ101 rfl fun b13 => rl_own (L' := [(b13, .cells #[.pointer none, .nilFunc] 101 (0, 0)), (b4, .cells #[.int .u64 0, .int .u32 0] 99 (0, 0)), (b3, .cells #[.slice none 0 0] 68 (0, 0)), (b2, .cells #[.slice none 0 0] 68 (0, 0)), (b1, .cells #[.int .i64 (size), .int .i64 (start), .slice a n c] 24 (0, 0))]) rfl ?_
  refine rl_norm (tm' := _::_::_::_::_::_::_::_) rfl ?_
  refine rl_store (met_none rfl) tS101 rfl (v := .agg #[.pointer (some ⟨b2, 0, none⟩), .func (.func 88) #[] #[.pointer (some ⟨b1, 0, none⟩)]]) rfl (i := 0) rfl rfl rfl (Nat.le_of_ble_eq_true rfl) (cs2 := [.pointer (some ⟨b2, 0, none⟩), .func (.func 88) #[] #[.pointer (some ⟨b1, 0, none⟩)]]) rfl (rl_own (L' := [(b13, .cells #[.pointer (some ⟨b2, 0, none⟩), .func (.func 88) #[] #[.pointer (some ⟨b1, 0, none⟩)]] 101 (0, 0)), (b4, .cells #[.int .u64 0, .int .u32 0] 99 (0, 0)), (b3, .cells #[.slice none 0 0] 68 (0, 0)), (b2, .cells #[.slice none 0 0] 68 (0, 0)), (b1, .cells #[.int .i64 (size), .int .i64 (start), .slice a n c] 24 (0, 0))]) rfl ?_)
  refine rl_end ?_
  refine fl_seq ?_
  refine rl_start ?_
  refine rl_add Try.wgLib (met_none rfl) rfl rfl rfl rfl fun ge gb way beh h1 H1 => ?_
  have Fb1 := H1.own _ (List.mem_of_getElem? (i := 4) rfl)
  have Fb2 := H1.own _ (List.mem_of_getElem? (i := 3) rfl)
  have Fb3 := H1.own _ (List.mem_of_getElem? (i := 2) rfl)
  have Fb4 := H1.own _ (List.mem_of_getElem? (i := 1) rfl)
  have Fb13 := H1.own _ (List.mem_of_getElem? (i := 0) rfl)
  simp only at Fb1 Fb2 Fb3 Fb4 Fb13
  have nd_ := H1.nod
  simp only [List.map_cons, List.map_nil, List.nodup_cons, List.mem_cons, List.not_mem_nil, or_false, not_or, not_false_eq_true, List.nodup_nil, and_true] at nd_
  have D1 := D.mono le11
  have dn4 : 0 < n → (adr a).block ≠ b4 := sl_ne_of D1 (by omega) Fb4.2.1
  have dn2 : 0 < n → (adr a).block ≠ b2 := sl_ne_of D1 (by omega) Fb2.2.1
  have dn3 : 0 < n → (adr a).block ≠ b3 := sl_ne_of D1 (by omega) Fb3.2.1
  have ln4 : (adr a9).block ≠ b4 := sl_ne_of D12 (by omega) Fb4.2.1 (by simp)
  have ln2 : (adr a9).block ≠ b2 := sl_ne_of D12 (by omega) Fb2.2.1 (by simp)
  have ln3 : (adr a9).block ≠ b3 := sl_ne_of D12 (by omega) Fb3.2.1 (by simp)
  have lt2 := lt_of_get Fb2.1; have lt3 := lt_of_get Fb3.1
  refine reach_joint (Ψ := bothΨ h1.size b2 b3 (side size (min start size) (wantOf ds) (loOf ds) n) (side size (min start size) (wantOf ds) (hiOf ds) n)) (Kon := bothKon b2 b3 c₀ cs) 99 b4 [b2, b3] Fb4.1 ?_ bothΨ_keep (fun gb_ ⟨_, e_⟩ => by rw [e_]; rfl) (fun S_ q_ n₀_ => ?_) (fun S_ q_ n₀_ gb_ hgb_ hw_ he_ HJ_ => ?_)
  · intro b_ hb_; simp only [List.mem_cons, List.not_mem_nil, or_false] at hb_; rcases hb_ with hb_ | hb_ <;> rw [hb_]
    · exact Exc.of Fb2.1 (by simp)
    · exact Exc.of Fb3.1 (by simp)
  refine ⟨gb, way, fun h2 k2 => ?_⟩
  have Db : Days (Hp (cutV [b4] [b2, b3] h1)) a n ds := sl_cut D1 H1.per fun h_ => not_mem1 (dn4 h_)
  have Lb := sl_cut (A := [b4]) (K := [b2, b3]) D12 H1.per fun _ => not_mem1 ln4
  have Yb : HC (cutV [b4] [b2, b3] h1) b1 _ _ := HC.cut ⟨_, Fb1.1⟩ (not_mem1 (by omega))
  have Ob : HC (cutV [b4] [b2, b3] h1) b13 _ _ := HC.cut ⟨_, Fb13.1⟩ (not_mem1 (by omega))
  have Wb : (cutV [b4] [b2, b3] h1)[b2]? = _ := kept_cut Fb2.1 (not_mem1 (by omega)) (by simp)
  have Eb : (cutV [b4] [b2, b3] h1)[b3]? = _ := kept_cut Fb3.1 (not_mem1 (by omega)) (by simp)
  have zb : (cutV [b4] [b2, b3] h1).size = h1.size := cutV_size
  generalize cutV [b4] [b2, b3] h1 = hb at *
  refine beh _ (fun h_ => St hb [] (Hp hb) h_ []) _ h2 ?_ ((St.start hb _ (fun _ _ e_ => e_)).call k2)
  refine rl_end ?_
  refine rl_start ?_
  refine rl_det (met_none rfl) (fun h_ H_ => exd_makeFunc (a := []) (b := [.pointer (some ⟨b4, 0, none⟩), .pointer (some ⟨b1, 0, none⟩), .pointer (some ⟨b13, 0, none⟩)]) rfl rfl) rfl ?_
  refine rl_go (met_none rfl) (first := []) rfl rfl rfl fun ga gn hrun_ hsp_ beh h3 H3 => reach_stop ⟨hrun_, gn, _, [b2], [b3], hsp_, ?_, ?_, fun h4 k4 => ⟨?_, ?_⟩⟩
  · intro b_ hb_; rw [List.mem_singleton.1 hb_]; exact (Exc.of Wb (by simp)).stay H3.kept
  · intro b_ hb_; rw [List.mem_singleton.1 hb_]; exact (Exc.of Eb (by simp)).stay H3.kept
  · have kk := H3.kept.trans k4
    refine both_child (sl_cut (Sl.mono (Hp_keep kk) Db) (Hp_per h4) fun h_ => not_mem1 (dn3 h_)) hn 88 (loOf ds) (kept_cut ((kk.keep _ (lt_of_get Wb)).trans Wb) (not_mem1 (by omega)) (by simp)) ((Yb.keep kk).cut (not_mem1 (by omega))) ((Ob.keep kk).cut (not_mem1 (by omega))) ⟨by omega, by omega⟩ dn2 hs hd hlo (fun p_ z_ D_ hY_ h_ i_ hp_ hi_ => callv_of fC88 (c88 (.own false) h_ p_ hp_ b1 z_ size start a n c ds D_ hn hY_ i_ hi_)) fun h_ x_ => ?_
    obtain ⟨w_, X_, o_, h0_, hb_, hX_⟩ := x_
    exact ⟨w_, X_, o_, h0_, hb_, fun x_ hx_ => ⟨(hX_ x_ hx_).1, by have := (hX_ x_ hx_).2; rw [cutV_size] at this; have := kk.size; omega⟩⟩
  have kk := H3.kept.trans k4
  have Dc : Days (Hp (cutV [b2] [b3] h4)) a n ds := sl_cut (Sl.mono (Hp_keep kk) Db) (Hp_per h4) fun h_ => not_mem1 (dn2 h_)
  have Lc := sl_cut (A := [b2]) (K := [b3]) (Sl.mono (Hp_keep kk) Lb) (Hp_per h4) fun _ => not_mem1 ln2
  have Yc : HC (cutV [b2] [b3] h4) b1 _ _ := (Yb.keep kk).cut (not_mem1 (by omega))
  have Ec : (cutV [b2] [b3] h4)[b3]? = _ := kept_cut ((kk.keep _ (lt_of_get Eb)).trans Eb) (not_mem1 (by omega)) (by simp)
  have zc : h1.size ≤ (cutV [b2] [b3] h4).size := by rw [cutV_size]; have := kk.size; omega
  refine beh _ (fun h_ => St (cutV [b2] [b3] h4) [] (Hp (cutV [b2] [b3] h4)) h_ []) _ _ ?_ (St.start _ _ (fun _ _ e_ => e_))
  generalize cutV [b2] [b3] h4 = hc at *
  refine rl_end ?_
  refine fl_inBlock ?_
  refine rl_start ?_
  refine rl_det (met_none rfl) (fun h_ H_ => exd_add rfl rfl (n := 1) (by decide)) rfl ?_
  refine rl_det (met_none rfl) (fun h_ H_ => exd_move (v := .int .i64 1) rfl) (tm' := _::_::_::_::_::_::_::_::_::_::_::_::_::_::_) rfl ?_
  refine rl_end ?_
  refine fl_inLoop1 ?_
  refine fl_seq ?_
  refine rl_start ?_
  refine rl_det (met_none rfl) (fun h_ H_ => exd_lss rfl rfl) rfl ?_
  refine rl_end ?_
  refine fl_seq ?_
  refine fl_then rfl (decide_eq_true (by decide)) ?_
  refine fl_skip ?_
  refine fl_seq ?_
  refine fl_block ?_
  refine fl_seq ?_
  refine rl_start ?_
  refine rl_det (met_none rfl) (fun h_ H_ => exd_indexAddrN (i := 1) Try.underlying102 tS101 (sl_ne a9 2 cp10 (Lc.ne (by omega))) rfl (by omega)) rfl ?_
  refine rl_det (met_none rfl) (fun h_ H_ => exd_loadN_per H_ tA101 tS101 rfl (vs := [.pointer (some ⟨b3, 0, none⟩), .func (.func 89) #[] #[.pointer (some ⟨b1, 0, none⟩)]]) rfl (fun j_ v_ e_ => Lc.get 1 _ rfl j_ v_ e_)) (tm' := [_,_,_,_,_,_,_,_,_,_,_,_,_,_,_,_,_,_,_,_,_,_,_]) rfl ?_
  refine rl_alloc (met_none rfl) tZ101 rfl fun b14 => rl_own (L' := [(b14, .cells #[.pointer none, .nilFunc] 101 (0, 0))]) rfl ?_
  refine rl_store (met_none rfl) tS101 rfl (v := .agg #[.pointer (some ⟨b3, 0, none⟩), .func (.func 89) #[] #[.pointer (some ⟨b1, 0, none⟩)]]) rfl (i := 0) rfl rfl rfl (Nat.le_of_ble_eq_true rfl) (cs2 := [.pointer (some ⟨b3, 0, none⟩), .func (.func 89) #[] #[.pointer (some ⟨b1, 0, none⟩)]]) rfl (rl_own (L' := [(b14, .cells #[.pointer (some ⟨b3, 0, none⟩), .func (.func 89) #[] #[.pointer (some ⟨b1, 0, none⟩)]] 101 (0, 0))]) rfl ?_)
  refine rl_end ?_
  refine fl_seq ?_
  refine rl_start ?_
  refine rl_add Try.wgLib (met_none rfl) rfl rfl rfl rfl fun ge gb way beh h5 H5 => reach_stop ⟨gb, way, fun h6 k6 => ?_⟩
  refine beh _ (fun h_ => St hc [] (Hp hc) h_ ([(b14, .cells #[.pointer (some ⟨b3, 0, none⟩), .func (.func 89) #[] #[.pointer (some ⟨b1, 0, none⟩)]] 101 (0, 0))])) _ h6 ?_ (H5.call k6)
  refine rl_end ?_
  refine rl_start ?_
  refine rl_det (met_none rfl) (fun h_ H_ => exd_makeFunc (a := []) (b := [.pointer (some ⟨b4, 0, none⟩), .pointer (some ⟨b1, 0, none⟩), .pointer (some ⟨b14, 0, none⟩)]) rfl rfl) rfl ?_
  refine rl_go (met_none rfl) (first := []) rfl rfl rfl fun ga gn hrun_ hsp_ beh h7 H7 => reach_stop ⟨hrun_, gn, _, [b3], [], hsp_, ?_, (fun _ hb_ => by cases hb_), fun h8 k8 => ⟨?_, ?_⟩⟩
  · intro b_ hb_; rw [List.mem_singleton.1 hb_]; exact (Exc.of Ec (by simp)).stay H7.kept
  · have kk := H7.kept.trans k8
    have O_ := (H7.own _ (List.mem_of_getElem? (i := 0) rfl))
    simp only at O_
    have Oc : HC h8 b14 _ _ := HC.keep ⟨_, O_.1⟩ k8
    have lt14 := lt_of_get Ec
    have hne14 : b14 ≠ b3 := by have := O_.2.2.resolve_right (by simp); omega
    refine both_child (sl_cut (Sl.mono (Hp_keep kk) Dc) (Hp_per h8) fun _ => by simp) hn 89 (hiOf ds) (kept_cut ((kk.keep _ (lt_of_get Ec)).trans Ec) (by simp) (by simp)) ((Yc.keep kk).cut (by simp)) (Oc.cut (by simp)) ⟨by omega, hne14⟩ dn3 hs hd hhi (fun p_ z_ D_ hY_ h_ i_ hp_ hi_ => callv_of fC89 (c89 (.own false) h_ p_ hp_ b1 z_ size start a n c ds D_ hn hY_ i_ hi_)) fun h_ x_ => ?_
    obtain ⟨w_, X_, o_, h0_, hb_, hX_⟩ := x_
    exact ⟨w_, X_, o_, h0_, hb_, fun x_ hx_ => ⟨(hX_ x_ hx_).1, by have := (hX_ x_ hx_).2; rw [cutV_size] at this; have := kk.size; omega⟩⟩
  refine beh _ (fun h_ => St (cutV [b3] [] h8) [] (Hp (cutV [b3] [] h8)) h_ []) _ _ ?_ (St.start _ _ (fun _ _ e_ => e_))
  refine rl_end ?_
  refine fl_inBlock ?_
  refine rl_start ?_
  refine rl_det (met_none rfl) (fun h_ H_ => exd_add rfl rfl (n := 2) (by decide)) (tm' := [_,_,_,_,_,_,_,_,_,_,_,_,_,_,_,_,_,_,_,_,_,_,_]) rfl ?_
  refine rl_det (met_none rfl) (fun h_ H_ => exd_move (v := .int .i64 2) rfl) rfl ?_
  refine rl_end ?_
  refine fl_inLoop1 ?_
  refine fl_seq ?_
  refine rl_start ?_
  refine rl_det (met_none rfl) (fun h_ H_ => exd_lss rfl rfl) rfl ?_
  refine rl_end ?_
  refine fl_seq ?_
  refine fl_else rfl (decide_eq_false (by decide)) ?_
  refine fl_exit rfl ?_
  refine fl_seq ?_
  refine rl_start ?_
  refine rl_wait Try.wgLib (met_none rfl) rfl rfl rfl rfl fun ge gb An a1_ a2_ a3_ hgb h9 H9 => reach_stop ⟨gb, An, ⟨a1_, a2_, ?_⟩, a3_⟩
  obtain ⟨l_, rfl, rfl⟩ := hgb
  exact ⟨fun i_ => ([.agg #[.int .i64 (size), .int .i64 (start), .slice a n c], .pointer (some ⟨b1, 0, none⟩), .pointer (some ⟨b2, 0, none⟩), .pointer (some ⟨b3, 0, none⟩), .pointer (some ⟨b4, 0, none⟩), undef, .pointer (some ⟨b14, 0, none⟩), .func (.func 88) #[] #[.pointer (some ⟨b1, 0, none⟩)], .agg #[.pointer (some ⟨b2, 0, none⟩), .func (.func 88) #[] #[.pointer (some ⟨b1, 0, none⟩)]], .func (.func 89) #[] #[.pointer (some ⟨b1, 0, none⟩)], .agg #[.pointer (some ⟨b3, 0, none⟩), .func (.func 89) #[] #[.pointer (some ⟨b1, 0, none⟩)]], .slice a9 2 cp10, .int .i64 (((2 : Nat) : Int)), .int .i64 2, .bool (decide (2 < ((2 : Nat) : Int))), .pointer (some ((adr a9).add (1 * 2))), .agg #[.pointer (some ⟨b3, 0, none⟩), .func (.func 89) #[] #[.pointer (some ⟨b1, 0, none⟩)]], .tuple #[], .func (.func 91) #[] #[.pointer (some ⟨b4, 0, none⟩), .pointer (some ⟨b1, 0, none⟩), .pointer (some ⟨b14, 0, none⟩)], .int .i64 2, .tuple #[], undef, undef] : List Value).getD i_ undef, rfl⟩
  obtain ⟨y, rfl⟩ := hgb_
  obtain ⟨w1, w2, X1, X2, o1, o2, HS⟩ := both_back H1 le11 ⟨Fb4.2.2.resolve_right (by simp), Fb2.2.2.resolve_right (by simp), Fb3.2.2.resolve_right (by simp)⟩ ⟨lt2, lt3⟩ (by omega) ⟨Fb4.2.1, Fb2.2.1, Fb3.2.1⟩ HJ_
  refine (?_ : RS Try.prog (.main true) _ (fun h_ => St h [] p h_ (([(b2, .cells #[w1] 68 (0, 0)), (b3, .cells #[w2] 68 (0, 0))] : Pcs) ++ (X1 ++ (X2 ++ [])))) Stop) he_ HS
  refine fl_regend ?_
  refine fl_seq ?_
  refine rl_start ?_
  refine rl_det (met_none rfl) (fun h_ H_ => exd_load_own H_ tA68 rfl (i := 0) rfl (v := w1) rfl) (tm' := [_,_,_,_,_,_,_,_,_,_,_,_,_,_,_,_,_,_,_,_,_,_,_]) rfl ?_
  refine rl_det (met_none rfl) (fun h_ H_ => exd_load_own H_ tA68 rfl (i := 1) rfl (v := w2) rfl) rfl ?_
  refine rl_store1 (met_none rfl) tS68 rfl (v := w1) rfl o1.one (i := 0) rfl (Nat.succ_le_iff.1 (Nat.le_of_ble_eq_true rfl)) (cs2 := [w1]) rfl (rl_own (L' := ([(b2, .cells #[w1] 68 (0, 0)), (b3, .cells #[w2] 68 (0, 0))] : Pcs) ++ (X1 ++ (X2 ++ []))) rfl ?_)
  refine rl_store1 (met_none rfl) tS68 rfl (v := w2) rfl o2.one (i := 1) rfl (Nat.succ_le_iff.1 (Nat.le_of_ble_eq_true rfl)) (cs2 := [w2]) rfl (rl_own (L' := ([(b2, .cells #[w1] 68 (0, 0)), (b3, .cells #[w2] 68 (0, 0))] : Pcs) ++ (X1 ++ (X2 ++ []))) rfl ?_)
  refine rl_end ?_
  refine fl_ret Try.func68 rfl (vs := [w1, w2]) (fun h_ H_ => ⟨w1, _, rfl, (wpS_bind (wpS_pure (wpS_loadVar1 tA68 (H_.ocell (i := 0) rfl (v := w1) rfl) ⟨rfl, rfl⟩))), ⟨w2, _, rfl, (wpS_bind (wpS_pure (wpS_loadVar1 tA68 (H_.ocell (i := 1) rfl (v := w2) rfl) ⟨rfl, rfl⟩))), rfl⟩⟩) (v := .tuple #[w1, w2]) rfl ?_
  exact fun h_ H_ => K _ _ ⟨w1, w2, X1, X2, rfl, o1, o2, H_.dropA.new⟩
end Go.Proofs.Ytbmkacnlhlbnjaa
namespace Go.X.Cist
/-- What becomes of a year in its driest and in its wettest weather. -/
def dryOf (size start : Int) (ds : List Day) : List Day := side size (min start size) (wantOf ds) (loOf ds) ds.length
def wetOf (size start : Int) (ds : List Day) : List Day := side size (min start size) (wantOf ds) (hiOf ds) ds.length
theorem dryOf_length {size start : Int} {ds : List Day} : (dryOf size start ds).length = ds.length := side_length
theorem wetOf_length {size start : Int} {ds : List Day} : (wetOf size start ds).length = ds.length := side_length

def levelR (size start : Int) (ds : List Day) (day : Int) : (Int × Int) × Int :=
  if askd size start ds (decide (IsDay ds day)) = 0 then (((((dryOf size start ds).getD day.toNat dz).lo, ((wetOf size start ds).getD day.toNat dz).lo)), 0) else ((0, 0), askd size start ds (decide (IsDay ds day)))
def lackR (size start : Int) (ds : List Day) (day : Int) : (Int × Int) × Int :=
  if askd size start ds (decide (IsDay ds day)) = 0 then (((((wetOf size start ds).getD day.toNat dz).hi, ((dryOf size start ds).getD day.toNat dz).hi)), 0) else ((0, 0), askd size start ds (decide (IsDay ds day)))
def overR (size start : Int) (ds : List Day) (day : Int) : (Int × Int) × Int :=
  if askd size start ds (decide (IsDay ds day)) = 0 then (((((dryOf size start ds).getD day.toNat dz).want, ((wetOf size start ds).getD day.toNat dz).want)), 0) else ((0, 0), askd size start ds (decide (IsDay ds day)))
def lackDay (d : Day) : Bool := decide (0 < d.hi)
def overGe (m : Int) (d : Day) : Bool := decide (m ≤ d.want)
def noneR (n : Int) : Int × Int := if n < 0 then (0, 3) else (n, 0)
def dryR (size start : Int) (ds : List Day) : Int × Int := if Ok size start ds then noneR (idxF lackDay (dryOf size start ds)) else (0, 100)
def mustR (size start : Int) (ds : List Day) : Int × Int := if Ok size start ds then noneR (idxF lackDay (wetOf size start ds)) else (0, 100)
def rightR (size start : Int) (ds : List Day) (m : Int) : (Int × Int) × Int :=
  if askd size start ds (decide (1 ≤ m ∧ m ≤ 999)) = 0 then
    (if idxF (overGe m) (dryOf size start ds) < 0 then ((0, 0), 3) else ((idxF (overGe m) (wetOf size start ds), idxF (overGe m) (dryOf size start ds)), 0))
  else ((0, 0), askd size start ds (decide (1 ≤ m ∧ m ≤ 999)))
end Go.X.Cist
namespace Go.Proofs.Ytbmkacnlhlbnjaa
open Go.X Go.X.Cist Go.Conc
theorem c68b (h : Heap) (p : PHeap) (hp : Per p h) (size start : Int) (a : Option Addr) (n c : Nat) (ds : List Day) (D : Days p a n ds) (hn : n ≤ 40) (hOk : Ok size start ds) : CallsX Try.prog (.main true) 68 #[.agg #[.int .i64 (size), .int .i64 (start), .slice a n c]] h
    fun v h' => ∃ w1 w2 X1 X2, v = .tuple #[w1, w2] ∧ OwnS 72 3 w1 (dcs (dryOf size start ds)) X1 ∧ OwnS 72 3 w2 (dcs (wetOf size start ds)) X2 ∧ New h h' (X1 ++ (X2 ++ [])) := by
  have hl := D.len
  subst hl
  refine c68 h p hp size start a _ c ds D hn ⟨hOk.1, hOk.2.1, hOk.2.2.1⟩ (fun i hi => ?_) (fun i hi => ?_) (fun i hi => ?_)
  · exact (hOk.dok i hi).2
  · have := (hOk.dok i hi).1; unfold loOf; omega
  · have := (hOk.dok i hi).1; unfold hiOf; omega
end Go.Proofs.Ytbmkacnlhlbnjaa
namespace Go.Proofs.Ytbmkacnlhlbnjaa
open Go.X Go.X.Cist Go.Conc
set_option maxRecDepth 10000

theorem c83' (md : Md) (h : Heap) (n : Int) : CallsX Try.prog md 83 #[.int .i64 (n)] h fun v h' => v = .tuple #[.int .i64 (noneR n).1, .int .i64 (noneR n).2] ∧ Keep h h' := (c83 md h n).mono fun v h' ⟨e, k⟩ => ⟨by rw [e]; unfold noneR; split <;> rfl, k⟩
theorem c28 (h : Heap) (p : PHeap) (hp : Per p h) (size start : Int) (a : Option Addr) (n c : Nat) (ds : List Day) (D : Days p a n ds) (hn : n ≤ 40) (day : Int) : CallsX Try.prog (.main true) 28 #[.agg #[.int .i64 (size), .int .i64 (start), .slice a n c], .int .i64 (day)] h fun v h' => v = .tuple #[.agg #[.int .i64 (levelR size start ds day).1.1, .int .i64 (levelR size start ds day).1.2], .int .i64 (levelR size start ds day).2] ∧ Keep h h' := by
  refine calls_intro (Φ := fun h_ => St h [] p h_ []) Try.func28 rfl (tm := [_, _, _, _, _, _, _, _, _, _, _, _, _, _, _, _, _, _, _, _, _, _, _, _, _, _, _, _, _, _, _, _, _, _]) rfl ?_ (St.start h _ hp)
  intro c₀ cs Stop K
  have hl := D.len
  refine fl_seq ?_
  refine rl_start ?_
  refine rl_box (met_none rfl) (v := .agg #[.int .i64 (size), .int .i64 (start), .slice a n c]) rfl fun b1 => rl_own (L' := [(b1, .cells #[.int .i64 (size), .int .i64 (start), .slice a n c] 24 (0, 0))]) rfl ?_
  refine rl_alloc (met_none rfl) tZ36 rfl fun b2 => rl_own (L' := [(b2, .cells #[.int .i64 0, .int .i64 0] 36 (0, 0)), (b1, .cells #[.int .i64 (size), .int .i64 (start), .slice a n c] 24 (0, 0))]) rfl ?_
  refine rl_det (met_none rfl) (fun h_ H_ => exd_assign (v := .int .i64 0) rfl) (tm' := _::_::_::_::_::_::_) rfl ?_
  refine rl_end ?_
  refine fl_seq ?_
  refine fl_seq ?_
  refine fl_drawn2 4 [[], [], [], [1, 2], [], []] mixed (by kernel_rfl) (Nat.le_of_ble_eq_true rfl) ?_
  refine swr_det (met_none rfl) (fun h_ H_ => exd_loadN_own H_ tA24 tS24 rfl (i := 1) rfl (vs := [.int .i64 (size), .int .i64 (start), .slice a n c]) rfl rfl) (tm' := _::_::_::_::_::_::_::_::_::_::_) rfl ?_
  refine swr_det (met_none rfl) (fun h_ H_ => exd_loadN_own H_ tA24 tS24 rfl (i := 1) rfl (vs := [.int .i64 (size), .int .i64 (start), .slice a n c]) rfl rfl) rfl ?_
  refine swr_det (met_none rfl) (fun h_ H_ => exd_move (v := .int .i64 (day)) rfl) (tm' := _::_::_::_::_::_::_::_::_::_::_::_::_) rfl ?_
  refine swr_call (met_none rfl) (first := []) (cap := []) rfl rfl fC66 (fun h_ H_ => (c66 (.main true) _ _ (fun b_ o_ e_ => H_.per b_ o_ e_) (size) (start) _ _ _ _ D (by omega) day).mono fun v_ h2_ ⟨e_, k_⟩ => ⟨e_, H_.call k_⟩) rfl ?_
  refine swr_nil rfl ?_
  refine rl_calld (met_none rfl) (first := []) (cap := []) rfl rfl fC65 (fun h_ H_ => c65 (.main true) _ _ (fun b_ o_ e_ => H_.per b_ o_ e_) (size) (start) _ _ _ _ D (by omega) (decide (IsDay ds day))) rfl ?_
  refine rl_det (met_none rfl) (fun h_ H_ => exd_assign (v := .int .i64 (askd (size) (start) ds (decide (IsDay ds day)))) rfl) (tm' := _::_::_::_::_::_::_::_) rfl ?_
  refine rl_end ?_
  refine fl_seq ?_
  refine rl_start ?_
  refine rl_det (met_none rfl) (fun h_ H_ => exd_move (v := .int .i64 (askd (size) (start) ds (decide (IsDay ds day)))) rfl) rfl ?_
  refine rl_det (met_none rfl) (fun h_ H_ => exd_neq rfl rfl) rfl ?_
  refine rl_end ?_
  by_cases cc3 : askd (size) (start) ds (decide (IsDay ds day)) ≠ 0
  · refine fl_then rfl (decide_eq_true cc3) ?_
    refine fl_seq ?_
    refine rl_start ?_
    refine rl_det (met_none rfl) (fun h_ H_ => exd_build tZ36 tP36 (vs := []) rfl (cells := #[.int .i64 0, .int .i64 0]) rfl) (tm' := _::_::_::_::_::_::_::_::_::_::_::_::_::_::_::_::_::_) rfl ?_
    refine rl_det (met_none rfl) (fun h_ H_ => exd_move (v := .int .i64 (askd (size) (start) ds (decide (IsDay ds day)))) rfl) rfl ?_
    refine rl_store (met_none rfl) tS36 rfl (v := .agg #[.int .i64 0, .int .i64 0]) rfl (i := 0) rfl rfl rfl (Nat.le_of_ble_eq_true rfl) (cs2 := [.int .i64 0, .int .i64 0]) rfl (rl_own (L' := [(b2, .cells #[.int .i64 0, .int .i64 0] 36 (0, 0)), (b1, .cells #[.int .i64 (size), .int .i64 (start), .slice a n c] 24 (0, 0))]) rfl ?_)
    refine rl_det (met_none rfl) (fun h_ H_ => exd_assign (v := .int .i64 (askd (size) (start) ds (decide (IsDay ds day)))) rfl) rfl ?_
    refine rl_end ?_
    refine fl_ret Try.func28 rfl (vs := [.agg #[.int .i64 0, .int .i64 0], .int .i64 (askd (size) (start) ds (decide (IsDay ds day)))]) (fun h_ H_ => ⟨.agg #[.int .i64 0, .int .i64 0], _, rfl, (wpS_bind (wpS_pure (wpS_loadVarN tA36 tS36 (vs := [.int .i64 0, .int .i64 0]) rfl (fun j_ v_ e_ => by rw [add_mk]; exact H_.ocell (i := 0) rfl (by simpa using e_)) ⟨rfl, rfl⟩))), ⟨.int .i64 (askd (size) (start) ds (decide (IsDay ds day))), _, rfl, rfl, rfl⟩⟩) (v := .tuple #[.agg #[.int .i64 0, .int .i64 0], .int .i64 (askd (size) (start) ds (decide (IsDay ds day)))]) rfl ?_
    exact fun h_ H_ => K _ _ ⟨by unfold levelR; rw [if_neg ‹_›], H_.kept⟩
  · refine fl_else rfl (decide_eq_false cc3) ?_
    refine fl_skip ?_
    refine fl_seq ?_
    have h0 : askd size start ds (decide (IsDay ds day)) = 0 := by omega
    have hOk : Ok size start ds := (askd_zero.1 h0).1
    have hday : IsDay ds day := of_decide_eq_true (askd_zero.1 h0).2
    have hd0 := hday.1; have hd1 := hday.2
    refine rl_start ?_
    refine rl_det (met_none rfl) (fun h_ H_ => exd_loadN_own H_ tA24 tS24 rfl (i := 1) rfl (vs := [.int .i64 (size), .int .i64 (start), .slice a n c]) rfl rfl) (tm' := _::_::_::_::_::_::_::_::_::_::_::_::_::_::_::_::_::_::_::_::_) rfl ?_
    refine rl_own (L' := ([(b2, .cells #[.int .i64 0, .int .i64 0] 36 (0, 0)), (b1, .cells #[.int .i64 (size), .int .i64 (start), .slice a n c] 24 (0, 0))] : Pcs) ++ []) rfl ?_
    refine rl_call (met_none rfl) (first := []) (cap := []) rfl rfl fC68 (R := fun v_ h_ => ∃ w4 : Value, ∃ w5 : Value, ∃ X6 : Pcs, ∃ X7 : Pcs, v_ = .tuple #[w4, w5] ∧ (OwnS 72 3 w4 (dcs (dryOf size start ds)) X6) ∧ (OwnS 72 3 w5 (dcs (wetOf size start ds)) X7) ∧ St h [] p h_ (([(b2, .cells #[.int .i64 0, .int .i64 0] 36 (0, 0)), (b1, .cells #[.int .i64 (size), .int .i64 (start), .slice a n c] 24 (0, 0))] : Pcs) ++ ((X6 ++ (X7 ++ [])) ++ []))) (fun h_ H_ => (c68b _ _ (fun b_ o_ e_ => H_.per b_ o_ e_) (size) (start) _ _ _ _ D (by omega) hOk).mono fun v_ h2_ ⟨w4, w5, X6, X7, e_, o8, o9, N_⟩ => ⟨w4, w5, X6, X7, e_, o8, o9, H_.callNA N_⟩) fun v_ => ?_
    refine rl_ex fun w4 => rl_ex fun w5 => rl_ex fun X6 => rl_ex fun X7 => rl_and fun ev_ => rl_and fun o8 => rl_and fun o9 => ?_
    have ev_ := ev_.symm; subst ev_
    refine rl_own (L' := ([(b2, .cells #[.int .i64 0, .int .i64 0] 36 (0, 0)), (b1, .cells #[.int .i64 (size), .int .i64 (start), .slice a n c] 24 (0, 0))] : Pcs) ++ (X6 ++ (X7 ++ []))) (by simp) ?_
    refine rl_det (met_none rfl) (fun h_ H_ => exd_move (v := .tuple #[w4, w5]) rfl) rfl ?_
    refine rl_det (met_none rfl) (fun h_ H_ => exd_extract rfl (v := w4) rfl) (tm' := _::_::_::_::_::_::_::_::_::_::_::_::_::_::_::_::_::_::_::_::_::_::_) rfl ?_
    refine rl_det (met_none rfl) (fun h_ H_ => exd_extract rfl (v := w5) rfl) rfl ?_
    refine rl_det (met_none rfl) (fun h_ H_ => exd_assign (v := w4) rfl) rfl ?_
    refine rl_det (met_none rfl) (fun h_ H_ => exd_assign (v := w5) rfl) (tm' := _::_::_::_::_::_::_::_::_::_) rfl ?_
    refine rl_end ?_
    refine fl_seq ?_
    refine rs_lastN (A := ([(b2, .cells #[.int .i64 0, .int .i64 0] 36 (0, 0)), (b1, .cells #[.int .i64 (size), .int .i64 (start), .slice a n c] 24 (0, 0))] : Pcs)) o8 (show (dcs (dryOf size start ds)).length = n by rw [dcs_length, dryOf_length]; exact hl) fun p10 a11 cp12 le13 ev_ D14 => ?_
    subst ev_
    refine rs_lastN (A := ([(b2, .cells #[.int .i64 0, .int .i64 0] 36 (0, 0)), (b1, .cells #[.int .i64 (size), .int .i64 (start), .slice a n c] 24 (0, 0))] : Pcs)) o9 (show (dcs (wetOf size start ds)).length = n by rw [dcs_length, wetOf_length]; exact hl) fun p15 a16 cp17 le18 ev_ D19 => ?_
    subst ev_
    refine rs_own (L' := [(b2, .cells #[.int .i64 0, .int .i64 0] 36 (0, 0)), (b1, .cells #[.int .i64 (size), .int .i64 (start), .slice a n c] 24 (0, 0))]) rfl ?_
    refine fl_drawn2 10 [[], [], [0, 1], [0, 1, 2], [0, 1, 2, 3], [], [], [5, 6], [5, 6, 7], [5, 6, 7, 8], [], [], []] mixed (by kernel_rfl) (Nat.le_of_ble_eq_true rfl) ?_
    refine swr_det (met_none rfl) (fun h_ H_ => exd_move (v := .slice a11 n cp12) rfl) (tm' := [_,_,_,_,_,_,_,_,_,_,_,_,_,_,_,_,_,_,_,_,_,_,_,_,_,_,_,_,_,_,_,_,_,_]) rfl ?_
    refine swr_det (met_none rfl) (fun h_ H_ => exd_move (v := .int .i64 (day)) rfl) rfl ?_
    refine swr_det (met_none rfl) (fun h_ H_ => exd_indexAddr Try.underlying68 tS72 (sl_ne a11 n cp12 (((show Days _ _ _ (dryOf size start ds) from D14).mono le18).ne (by omega))) rfl (by omega) (by omega) (a' := (adr a11).add ((day).toNat * 3)) rfl) (tm' := [_,_,_,_,_,_,_,_,_,_,_,_,_,_,_,_,_,_,_,_,_,_,_,_,_,_,_,_,_,_,_,_,_,_]) rfl ?_
    refine swr_det (met_none rfl) (fun h_ H_ => exd_fieldAddr tF72_0 rfl (a' := (adr a11).add ((day).toNat * 3)) rfl) rfl ?_
    refine swr_det (met_none rfl) (fun h_ H_ => exd_load_per H_ tA3 rfl (v := .int .i64 (((dryOf size start ds).getD ((day).toNat) dz).lo)) (((show Days _ _ _ (dryOf size start ds) from D14).mono le18).lo (by omega))) (tm' := [_,_,_,_,_,_,_,_,_,_,_,_,_,_,_,_,_,_,_,_,_,_,_,_,_,_,_,_,_,_,_,_,_,_]) rfl ?_
    refine swr_det (met_none rfl) (fun h_ H_ => exd_move (v := .slice a16 n cp17) rfl) rfl ?_
    refine swr_det (met_none rfl) (fun h_ H_ => exd_move (v := .int .i64 (day)) rfl) (tm' := [_,_,_,_,_,_,_,_,_,_,_,_,_,_,_,_,_,_,_,_,_,_,_,_,_,_,_,_,_,_,_,_,_,_]) rfl ?_
    refine swr_det (met_none rfl) (fun h_ H_ => exd_indexAddr Try.underlying68 tS72 (sl_ne a16 n cp17 ((show Days _ _ _ (wetOf size start ds) from D19).ne (by omega))) rfl (by omega) (by omega) (a' := (adr a16).add ((day).toNat * 3)) rfl) rfl ?_
    refine swr_det (met_none rfl) (fun h_ H_ => exd_fieldAddr tF72_0 rfl (a' := (adr a16).add ((day).toNat * 3)) rfl) (tm' := [_,_,_,_,_,_,_,_,_,_,_,_,_,_,_,_,_,_,_,_,_,_,_,_,_,_,_,_,_,_,_,_,_,_]) rfl ?_
    refine swr_det (met_none rfl) (fun h_ H_ => exd_load_per H_ tA3 rfl (v := .int .i64 (((wetOf size start ds).getD ((day).toNat) dz).lo)) ((show Days _ _ _ (wetOf size start ds) from D19).lo (by omega))) rfl ?_
    refine swr_nil rfl ?_
    refine rl_det (met_none rfl) (fun h_ H_ => exd_build tZ36 tP36 (vs := [(0, .int .i64 (((dryOf size start ds).getD ((day).toNat) dz).lo)), (1, .int .i64 (((wetOf size start ds).getD ((day).toNat) dz).lo))]) rfl (cells := #[.int .i64 (((dryOf size start ds).getD ((day).toNat) dz).lo), .int .i64 (((wetOf size start ds).getD ((day).toNat) dz).lo)]) rfl) rfl ?_
    refine rl_store (met_none rfl) tS36 rfl (v := .agg #[.int .i64 (((dryOf size start ds).getD ((day).toNat) dz).lo), .int .i64 (((wetOf size start ds).getD ((day).toNat) dz).lo)]) rfl (i := 0) rfl rfl rfl (Nat.le_of_ble_eq_true rfl) (cs2 := [.int .i64 (((dryOf size start ds).getD ((day).toNat) dz).lo), .int .i64 (((wetOf size start ds).getD ((day).toNat) dz).lo)]) rfl (rl_own (L' := [(b2, .cells #[.int .i64 (((dryOf size start ds).getD ((day).toNat) dz).lo), .int .i64 (((wetOf size start ds).getD ((day).toNat) dz).lo)] 36 (0, 0)), (b1, .cells #[.int .i64 (size), .int .i64 (start), .slice a n c] 24 (0, 0))]) rfl ?_)
    refine rl_det (met_none rfl) (fun h_ H_ => exd_assign (v := .int .i64 0) rfl) (tm' := _::_::_::_::_::_::_) rfl ?_
    refine rl_end ?_
    refine fl_ret Try.func28 rfl (vs := [.agg #[.int .i64 (((dryOf size start ds).getD ((day).toNat) dz).lo), .int .i64 (((wetOf size start ds).getD ((day).toNat) dz).lo)], .int .i64 0]) (fun h_ H_ => ⟨.agg #[.int .i64 (((dryOf size start ds).getD ((day).toNat) dz).lo), .int .i64 (((wetOf size start ds).getD ((day).toNat) dz).lo)], _, rfl, (wpS_bind (wpS_pure (wpS_loadVarN tA36 tS36 (vs := [.int .i64 (((dryOf size start ds).getD ((day).toNat) dz).lo), .int .i64 (((wetOf size start ds).getD ((day).toNat) dz).lo)]) rfl (fun j_ v_ e_ => by rw [add_mk]; exact H_.ocell (i := 0) rfl (by simpa using e_)) ⟨rfl, rfl⟩))), ⟨.int .i64 0, _, rfl, rfl, rfl⟩⟩) (v := .tuple #[.agg #[.int .i64 (((dryOf size start ds).getD ((day).toNat) dz).lo), .int .i64 (((wetOf size start ds).getD ((day).toNat) dz).lo)], .int .i64 0]) rfl ?_
    exact fun h_ H_ => K _ _ ⟨by unfold levelR; rw [if_pos h0], H_.kept⟩
theorem c41 (h : Heap) (p : PHeap) (hp : Per p h) (size start : Int) (a : Option Addr) (n c : Nat) (ds : List Day) (D : Days p a n ds) (hn : n ≤ 40) (day : Int) : CallsX Try.prog (.main true) 41 #[.agg #[.int .i64 (size), .int .i64 (start), .slice a n c], .int .i64 (day)] h fun v h' => v = .tuple #[.agg #[.int .i64 (lackR size start ds day).1.1, .int .i64 (lackR size start ds day).1.2], .int .i64 (lackR size start ds day).2] ∧ Keep h h' := by
  refine calls_intro (Φ := fun h_ => St h [] p h_ []) Try.func41 rfl (tm := [_, _, _, _, _, _, _, _, _, _, _, _, _, _, _, _, _, _, _, _, _, _, _, _, _, _, _, _, _, _, _, _, _, _]) rfl ?_ (St.start h _ hp)
  intro c₀ cs Stop K
  have hl := D.len
  refine fl_seq ?_
  refine rl_start ?_
  refine rl_box (met_none rfl) (v := .agg #[.int .i64 (size), .int .i64 (start), .slice a n c]) rfl fun b1 => rl_own (L' := [(b1, .cells #[.int .i64 (size), .int .i64 (start), .slice a n c] 24 (0, 0))]) rfl ?_
  refine rl_alloc (met_none rfl) tZ36 rfl fun b2 => rl_own (L' := [(b2, .cells #[.int .i64 0, .int .i64 0] 36 (0, 0)), (b1, .cells #[.int .i64 (size), .int .i64 (start), .slice a n c] 24 (0, 0))]) rfl ?_
  refine rl_det (met_none rfl) (fun h_ H_ => exd_assign (v := .int .i64 0) rfl) (tm' := _::_::_::_::_::_::_) rfl ?_
  refine rl_end ?_
  refine fl_seq ?_
  refine fl_seq ?_
  refine fl_drawn2 4 [[], [], [], [1, 2], [], []] mixed (by kernel_rfl) (Nat.le_of_ble_eq_true rfl) ?_
  refine swr_det (met_none rfl) (fun h_ H_ => exd_loadN_own H_ tA24 tS24 rfl (i := 1) rfl (vs := [.int .i64 (size), .int .i64 (start), .slice a n c]) rfl rfl) rfl ?_
  refine swr_det (met_none rfl) (fun h_ H_ => exd_loadN_own H_ tA24 tS24 rfl (i := 1) rfl (vs := [.int .i64 (size), .int .i64 (start), .slice a n c]) rfl rfl) (tm' := _::_::_::_::_::_::_::_::_::_::_::_) rfl ?_
  refine swr_det (met_none rfl) (fun h_ H_ => exd_move (v := .int .i64 (day)) rfl) rfl ?_
  refine swr_call (met_none rfl) (first := []) (cap := []) rfl rfl fC66 (fun h_ H_ => (c66 (.main true) _ _ (fun b_ o_ e_ => H_.per b_ o_ e_) (size) (start) _ _ _ _ D (by omega) day).mono fun v_ h2_ ⟨e_, k_⟩ => ⟨e_, H_.call k_⟩) (tm' := _::_::_::_::_::_::_::_::_::_::_::_::_::_) rfl ?_
  refine swr_nil rfl ?_
  refine rl_calld (met_none rfl) (first := []) (cap := []) rfl rfl fC65 (fun h_ H_ => c65 (.main true) _ _ (fun b_ o_ e_ => H_.per b_ o_ e_) (size) (start) _ _ _ _ D (by omega) (decide (IsDay ds day))) rfl ?_
  refine rl_det (met_none rfl) (fun h_ H_ => exd_assign (v := .int .i64 (askd (size) (start) ds (decide (IsDay ds day)))) rfl) (tm' := _::_::_::_::_::_::_::_) rfl ?_
  refine rl_end ?_
  refine fl_seq ?_
  refine rl_start ?_
  refine rl_det (met_none rfl) (fun h_ H_ => exd_move (v := .int .i64 (askd (size) (start) ds (decide (IsDay ds day)))) rfl) rfl ?_
  refine rl_det (met_none rfl) (fun h_ H_ => exd_neq rfl rfl) rfl ?_
  refine rl_end ?_
  by_cases cc3 : askd (size) (start) ds (decide (IsDay ds day)) ≠ 0
  · refine fl_then rfl (decide_eq_true cc3) ?_
    refine fl_seq ?_
    refine rl_start ?_
    refine rl_det (met_none rfl) (fun h_ H_ => exd_build tZ36 tP36 (vs := []) rfl (cells := #[.int .i64 0, .int .i64 0]) rfl) (tm' := _::_::_::_::_::_::_::_::_::_::_::_::_::_::_::_::_::_) rfl ?_
    refine rl_det (met_none rfl) (fun h_ H_ => exd_move (v := .int .i64 (askd (size) (start) ds (decide (IsDay ds day)))) rfl) rfl ?_
    refine rl_store (met_none rfl) tS36 rfl (v := .agg #[.int .i64 0, .int .i64 0]) rfl (i := 0) rfl rfl rfl (Nat.le_of_ble_eq_true rfl) (cs2 := [.int .i64 0, .int .i64 0]) rfl (rl_own (L' := [(b2, .cells #[.int .i64 0, .int .i64 0] 36 (0, 0)), (b1, .cells #[.int .i64 (size), .int .i64 (start), .slice a n c] 24 (0, 0))]) rfl ?_)
    refine rl_det (met_none rfl) (fun h_ H_ => exd_assign (v := .int .i64 (askd (size) (start) ds (decide (IsDay ds day)))) rfl) rfl ?_
    refine rl_end ?_
    refine fl_ret Try.func41 rfl (vs := [.agg #[.int .i64 0, .int .i64 0], .int .i64 (askd (size) (start) ds (decide (IsDay ds day)))]) (fun h_ H_ => ⟨.agg #[.int .i64 0, .int .i64 0], _, rfl, (wpS_bind (wpS_pure (wpS_loadVarN tA36 tS36 (vs := [.int .i64 0, .int .i64 0]) rfl (fun j_ v_ e_ => by rw [add_mk]; exact H_.ocell (i := 0) rfl (by simpa using e_)) ⟨rfl, rfl⟩))), ⟨.int .i64 (askd (size) (start) ds (decide (IsDay ds day))), _, rfl, rfl, rfl⟩⟩) (v := .tuple #[.agg #[.int .i64 0, .int .i64 0], .int .i64 (askd (size) (start) ds (decide (IsDay ds day)))]) rfl ?_
    exact fun h_ H_ => K _ _ ⟨by unfold lackR; rw [if_neg ‹_›], H_.kept⟩
  · refine fl_else rfl (decide_eq_false cc3) ?_
    refine fl_skip ?_
    refine fl_seq ?_
    have h0 : askd size start ds (decide (IsDay ds day)) = 0 := by omega
    have hOk : Ok size start ds := (askd_zero.1 h0).1
    have hday : IsDay ds day := of_decide_eq_true (askd_zero.1 h0).2
    have hd0 := hday.1; have hd1 := hday.2
    refine rl_start ?_
    refine rl_det (met_none rfl) (fun h_ H_ => exd_loadN_own H_ tA24 tS24 rfl (i := 1) rfl (vs := [.int .i64 (size), .int .i64 (start), .slice a n c]) rfl rfl) (tm' := _::_::_::_::_::_::_::_::_::_::_::_::_::_::_::_::_::_::_::_::_) rfl ?_
    refine rl_own (L' := ([(b2, .cells #[.int .i64 0, .int .i64 0] 36 (0, 0)), (b1, .cells #[.int .i64 (size), .int .i64 (start), .slice a n c] 24 (0, 0))] : Pcs) ++ []) rfl ?_
    refine rl_call (met_none rfl) (first := []) (cap := []) rfl rfl fC68 (R := fun v_ h_ => ∃ w4 : Value, ∃ w5 : Value, ∃ X6 : Pcs, ∃ X7 : Pcs, v_ = .tuple #[w4, w5] ∧ (OwnS 72 3 w4 (dcs (dryOf size start ds)) X6) ∧ (OwnS 72 3 w5 (dcs (wetOf size start ds)) X7) ∧ St h [] p h_ (([(b2, .cells #[.int .i64 0, .int .i64 0] 36 (0, 0)), (b1, .cells #[.int .i64 (size), .int .i64 (start), .slice a n c] 24 (0, 0))] : Pcs) ++ ((X6 ++ (X7 ++ [])) ++ []))) (fun h_ H_ => (c68b _ _ (fun b_ o_ e_ => H_.per b_ o_ e_) (size) (start) _ _ _ _ D (by omega) hOk).mono fun v_ h2_ ⟨w4, w5, X6, X7, e_, o8, o9, N_⟩ => ⟨w4, w5, X6, X7, e_, o8, o9, H_.callNA N_⟩) fun v_ => ?_
    refine rl_ex fun w4 => rl_ex fun w5 => rl_ex fun X6 => rl_ex fun X7 => rl_and fun ev_ => rl_and fun o8 => rl_and fun o9 => ?_
    have ev_ := ev_.symm; subst ev_
    refine rl_own (L' := ([(b2, .cells #[.int .i64 0, .int .i64 0] 36 (0, 0)), (b1, .cells #[.int .i64 (size), .int .i64 (start), .slice a n c] 24 (0, 0))] : Pcs) ++ (X6 ++ (X7 ++ []))) (by simp) ?_
    refine rl_det (met_none rfl) (fun h_ H_ => exd_move (v := .tuple #[w4, w5]) rfl) rfl ?_
    refine rl_det (met_none rfl) (fun h_ H_ => exd_extract rfl (v := w4) rfl) (tm' := _::_::_::_::_::_::_::_::_::_::_::_::_::_::_::_::_::_::_::_::_::_::_) rfl ?_
    refine rl_det (met_none rfl) (fun h_ H_ => exd_extract rfl (v := w5) rfl) rfl ?_
    refine rl_det (met_none rfl) (fun h_ H_ => exd_assign (v := w4) rfl) rfl ?_
    refine rl_det (met_none rfl) (fun h_ H_ => exd_assign (v := w5) rfl) (tm' := _::_::_::_::_::_::_::_::_::_) rfl ?_
    refine rl_end ?_
    refine fl_seq ?_
    refine rs_lastN (A := ([(b2, .cells #[.int .i64 0, .int .i64 0] 36 (0, 0)), (b1, .cells #[.int .i64 (size), .int .i64 (start), .slice a n c] 24 (0, 0))] : Pcs)) o8 (show (dcs (dryOf size start ds)).length = n by rw [dcs_length, dryOf_length]; exact hl) fun p10 a11 cp12 le13 ev_ D14 => ?_
    subst ev_
    refine rs_lastN (A := ([(b2, .cells #[.int .i64 0, .int .i64 0] 36 (0, 0)), (b1, .cells #[.int .i64 (size), .int .i64 (start), .slice a n c] 24 (0, 0))] : Pcs)) o9 (show (dcs (wetOf size start ds)).length = n by rw [dcs_length, wetOf_length]; exact hl) fun p15 a16 cp17 le18 ev_ D19 => ?_
    subst ev_
    refine rs_own (L' := [(b2, .cells #[.int .i64 0, .int .i64 0] 36 (0, 0)), (b1, .cells #[.int .i64 (size), .int .i64 (start), .slice a n c] 24 (0, 0))]) rfl ?_
    refine fl_drawn2 10 [[], [], [0, 1], [0, 1, 2], [0, 1, 2, 3], [], [], [5, 6], [5, 6, 7], [5, 6, 7, 8], [], [], []] mixed (by kernel_rfl) (Nat.le_of_ble_eq_true rfl) ?_
    refine swr_det (met_none rfl) (fun h_ H_ => exd_move (v := .slice a16 n cp17) rfl) rfl ?_
    refine swr_det (met_none rfl) (fun h_ H_ => exd_move (v := .int .i64 (day)) rfl) (tm' := [_,_,_,_,_,_,_,_,_,_,_,_,_,_,_,_,_,_,_,_,_,_,_,_,_,_,_,_,_,_,_,_,_,_]) rfl ?_
    refine swr_det (met_none rfl) (fun h_ H_ => exd_indexAddr Try.underlying68 tS72 (sl_ne a16 n cp17 ((show Days _ _ _ (wetOf size start ds) from D19).ne (by omega))) rfl (by omega) (by omega) (a' := (adr a16).add ((day).toNat * 3)) rfl) rfl ?_
    refine swr_det (met_none rfl) (fun h_ H_ => exd_fieldAddr tF72_1 rfl (a' := ((adr a16).add ((day).toNat * 3)).add 1) rfl) (tm' := [_,_,_,_,_,_,_,_,_,_,_,_,_,_,_,_,_,_,_,_,_,_,_,_,_,_,_,_,_,_,_,_,_,_]) rfl ?_
    refine swr_det (met_none rfl) (fun h_ H_ => exd_load_per H_ tA3 rfl (v := .int .i64 (((wetOf size start ds).getD ((day).toNat) dz).hi)) ((show Days _ _ _ (wetOf size start ds) from D19).hi (by omega))) rfl ?_
    refine swr_det (met_none rfl) (fun h_ H_ => exd_move (v := .slice a11 n cp12) rfl) (tm' := [_,_,_,_,_,_,_,_,_,_,_,_,_,_,_,_,_,_,_,_,_,_,_,_,_,_,_,_,_,_,_,_,_,_]) rfl ?_
    refine swr_det (met_none rfl) (fun h_ H_ => exd_move (v := .int .i64 (day)) rfl) rfl ?_
    refine swr_det (met_none rfl) (fun h_ H_ => exd_indexAddr Try.underlying68 tS72 (sl_ne a11 n cp12 (((show Days _ _ _ (dryOf size start ds) from D14).mono le18).ne (by omega))) rfl (by omega) (by omega) (a' := (adr a11).add ((day).toNat * 3)) rfl) (tm' := [_,_,_,_,_,_,_,_,_,_,_,_,_,_,_,_,_,_,_,_,_,_,_,_,_,_,_,_,_,_,_,_,_,_]) rfl ?_
    refine swr_det (met_none rfl) (fun h_ H_ => exd_fieldAddr tF72_1 rfl (a' := ((adr a11).add ((day).toNat * 3)).add 1) rfl) rfl ?_
    refine swr_det (met_none rfl) (fun h_ H_ => exd_load_per H_ tA3 rfl (v := .int .i64 (((dryOf size start ds).getD ((day).toNat) dz).hi)) (((show Days _ _ _ (dryOf size start ds) from D14).mono le18).hi (by omega))) (tm' := [_,_,_,_,_,_,_,_,_,_,_,_,_,_,_,_,_,_,_,_,_,_,_,_,_,_,_,_,_,_,_,_,_,_]) rfl ?_
    refine swr_nil rfl ?_
    refine rl_det (met_none rfl) (fun h_ H_ => exd_build tZ36 tP36 (vs := [(0, .int .i64 (((wetOf size start ds).getD ((day).toNat) dz).hi)), (1, .int .i64 (((dryOf size start ds).getD ((day).toNat) dz).hi))]) rfl (cells := #[.int .i64 (((wetOf size start ds).getD ((day).toNat) dz).hi), .int .i64 (((dryOf size start ds).getD ((day).toNat) dz).hi)]) rfl) rfl ?_
    refine rl_store (met_none rfl) tS36 rfl (v := .agg #[.int .i64 (((wetOf size start ds).getD ((day).toNat) dz).hi), .int .i64 (((dryOf size start ds).getD ((day).toNat) dz).hi)]) rfl (i := 0) rfl rfl rfl (Nat.le_of_ble_eq_true rfl) (cs2 := [.int .i64 (((wetOf size start ds).getD ((day).toNat) dz).hi), .int .i64 (((dryOf size start ds).getD ((day).toNat) dz).hi)]) rfl (rl_own (L' := [(b2, .cells #[.int .i64 (((wetOf size start ds).getD ((day).toNat) dz).hi), .int .i64 (((dryOf size start ds).getD ((day).toNat) dz).hi)] 36 (0, 0)), (b1, .cells #[.int .i64 (size), .int .i64 (start), .slice a n c] 24 (0, 0))]) rfl ?_)
    refine rl_det (met_none rfl) (fun h_ H_ => exd_assign (v := .int .i64 0) rfl) (tm' := _::_::_::_::_::_::_) rfl ?_
    refine rl_end ?_
    refine fl_ret Try.func41 rfl (vs := [.agg #[.int .i64 (((wetOf size start ds).getD ((day).toNat) dz).hi), .int .i64 (((dryOf size start ds).getD ((day).toNat) dz).hi)], .int .i64 0]) (fun h_ H_ => ⟨.agg #[.int .i64 (((wetOf size start ds).getD ((day).toNat) dz).hi), .int .i64 (((dryOf size start ds).getD ((day).toNat) dz).hi)], _, rfl, (wpS_bind (wpS_pure (wpS_loadVarN tA36 tS36 (vs := [.int .i64 (((wetOf size start ds).getD ((day).toNat) dz).hi), .int .i64 (((dryOf size start ds).getD ((day).toNat) dz).hi)]) rfl (fun j_ v_ e_ => by rw [add_mk]; exact H_.ocell (i := 0) rfl (by simpa using e_)) ⟨rfl, rfl⟩))), ⟨.int .i64 0, _, rfl, rfl, rfl⟩⟩) (v := .tuple #[.agg #[.int .i64 (((wetOf size start ds).getD ((day).toNat) dz).hi), .int .i64 (((dryOf size start ds).getD ((day).toNat) dz).hi)], .int .i64 0]) rfl ?_
    exact fun h_ H_ => K _ _ ⟨by unfold lackR; rw [if_pos h0], H_.kept⟩
theorem c43 (h : Heap) (p : PHeap) (hp : Per p h) (size start : Int) (a : Option Addr) (n c : Nat) (ds : List Day) (D : Days p a n ds) (hn : n ≤ 40) (day : Int) : CallsX Try.prog (.main true) 43 #[.agg #[.int .i64 (size), .int .i64 (start), .slice a n c], .int .i64 (day)] h fun v h' => v = .tuple #[.agg #[.int .i64 (overR size start ds day).1.1, .int .i64 (overR size start ds day).1.2], .int .i64 (overR size start ds day).2] ∧ Keep h h' := by
  refine calls_intro (Φ := fun h_ => St h [] p h_ []) Try.func43 rfl (tm := [_, _, _, _, _, _, _, _, _, _, _, _, _, _, _, _, _, _, _, _, _, _, _, _, _, _, _, _, _, _, _, _, _, _]) rfl ?_ (St.start h _ hp)
  intro c₀ cs Stop K
  have hl := D.len
  refine fl_seq ?_
  refine rl_start ?_
  refine rl_box (met_none rfl) (v := .agg #[.int .i64 (size), .int .i64 (start), .slice a n c]) rfl fun b1 => rl_own (L' := [(b1, .cells #[.int .i64 (size), .int .i64 (start), .slice a n c] 24 (0, 0))]) rfl ?_
  refine rl_alloc (met_none rfl) tZ36 rfl fun b2 => rl_own (L' := [(b2, .cells #[.int .i64 0, .int .i64 0] 36 (0, 0)), (b1, .cells #[.int .i64 (size), .int .i64 (start), .slice a n c] 24 (0, 0))]) rfl ?_
  refine rl_det (met_none rfl) (fun h_ H_ => exd_assign (v := .int .i64 0) rfl) (tm' := _::_::_::_::_::_::_) rfl ?_
  refine rl_end ?_
  refine fl_seq ?_
  refine fl_seq ?_
  refine fl_drawn2 4 [[], [], [], [1, 2], [], []] mixed (by kernel_rfl) (Nat.le_of_ble_eq_true rfl) ?_
  refine swr_det (met_none rfl) (fun h_ H_ => exd_loadN_own H_ tA24 tS24 rfl (i := 1) rfl (vs := [.int .i64 (size), .int .i64 (start), .slice a n c]) rfl rfl) (tm' := _::_::_::_::_::_::_::_::_::_::_) rfl ?_
  refine swr_det (met_none rfl) (fun h_ H_ => exd_loadN_own H_ tA24 tS24 rfl (i := 1) rfl (vs := [.int .i64 (size), .int .i64 (start), .slice a n c]) rfl rfl) rfl ?_
  refine swr_det (met_none rfl) (fun h_ H_ => exd_move (v := .int .i64 (day)) rfl) (tm' := _::_::_::_::_::_::_::_::_::_::_::_::_) rfl ?_
  refine swr_call (met_none rfl) (first := []) (cap := []) rfl rfl fC66 (fun h_ H_ => (c66 (.main true) _ _ (fun b_ o_ e_ => H_.per b_ o_ e_) (size) (start) _ _ _ _ D (by omega) day).mono fun v_ h2_ ⟨e_, k_⟩ => ⟨e_, H_.call k_⟩) rfl ?_
  refine swr_nil rfl ?_
  refine rl_calld (met_none rfl) (first := []) (cap := []) rfl rfl fC65 (fun h_ H_ => c65 (.main true) _ _ (fun b_ o_ e_ => H_.per b_ o_ e_) (size) (start) _ _ _ _ D (by omega) (decide (IsDay ds day))) rfl ?_
  refine rl_det (met_none rfl) (fun h_ H_ => exd_assign (v := .int .i64 (askd (size) (start) ds (decide (IsDay ds day)))) rfl) (tm' := _::_::_::_::_::_::_::_) rfl ?_
  refine rl_end ?_
  refine fl_seq ?_
  refine rl_start ?_
  refine rl_det (met_none rfl) (fun h_ H_ => exd_move (v := .int .i64 (askd (size) (start) ds (decide (IsDay ds day)))) rfl) rfl ?_
  refine rl_det (met_none rfl) (fun h_ H_ => exd_neq rfl rfl) rfl ?_
  refine rl_end ?_
  by_cases cc3 : askd (size) (start) ds (decide (IsDay ds day)) ≠ 0
  · refine fl_then rfl (decide_eq_true cc3) ?_
    refine fl_seq ?_
    refine rl_start ?_
    refine rl_det (met_none rfl) (fun h_ H_ => exd_build tZ36 tP36 (vs := []) rfl (cells := #[.int .i64 0, .int .i64 0]) rfl) (tm' := _::_::_::_::_::_::_::_::_::_::_::_::_::_::_::_::_::_) rfl ?_
    refine rl_det (met_none rfl) (fun h_ H_ => exd_move (v := .int .i64 (askd (size) (start) ds (decide (IsDay ds day)))) rfl) rfl ?_
    refine rl_store (met_none rfl) tS36 rfl (v := .agg #[.int .i64 0, .int .i64 0]) rfl (i := 0) rfl rfl rfl (Nat.le_of_ble_eq_true rfl) (cs2 := [.int .i64 0, .int .i64 0]) rfl (rl_own (L' := [(b2, .cells #[.int .i64 0, .int .i64 0] 36 (0, 0)), (b1, .cells #[.int .i64 (size), .int .i64 (start), .slice a n c] 24 (0, 0))]) rfl ?_)
    refine rl_det (met_none rfl) (fun h_ H_ => exd_assign (v := .int .i64 (askd (size) (start) ds (decide (IsDay ds day)))) rfl) rfl ?_
    refine rl_end ?_
    refine fl_ret Try.func43 rfl (vs := [.agg #[.int .i64 0, .int .i64 0], .int .i64 (askd (size) (start) ds (decide (IsDay ds day)))]) (fun h_ H_ => ⟨.agg #[.int .i64 0, .int .i64 0], _, rfl, (wpS_bind (wpS_pure (wpS_loadVarN tA36 tS36 (vs := [.int .i64 0, .int .i64 0]) rfl (fun j_ v_ e_ => by rw [add_mk]; exact H_.ocell (i := 0) rfl (by simpa using e_)) ⟨rfl, rfl⟩))), ⟨.int .i64 (askd (size) (start) ds (decide (IsDay ds day))), _, rfl, rfl, rfl⟩⟩) (v := .tuple #[.agg #[.int .i64 0, .int .i64 0], .int .i64 (askd (size) (start) ds (decide (IsDay ds day)))]) rfl ?_
    exact fun h_ H_ => K _ _ ⟨by unfold overR; rw [if_neg ‹_›], H_.kept⟩
  · refine fl_else rfl (decide_eq_false cc3) ?_
    refine fl_skip ?_
    refine fl_seq ?_
    have h0 : askd size start ds (decide (IsDay ds day)) = 0 := by omega
    have hOk : Ok size start ds := (askd_zero.1 h0).1
    have hday : IsDay ds day := of_decide_eq_true (askd_zero.1 h0).2
    have hd0 := hday.1; have hd1 := hday.2
    refine rl_start ?_
    refine rl_det (met_none rfl) (fun h_ H_ => exd_loadN_own H_ tA24 tS24 rfl (i := 1) rfl (vs := [.int .i64 (size), .int .i64 (start), .slice a n c]) rfl rfl) (tm' := _::_::_::_::_::_::_::_::_::_::_::_::_::_::_::_::_::_::_::_::_) rfl ?_
    refine rl_own (L' := ([(b2, .cells #[.int .i64 0, .int .i64 0] 36 (0, 0)), (b1, .cells #[.int .i64 (size), .int .i64 (start), .slice a n c] 24 (0, 0))] : Pcs) ++ []) rfl ?_
    refine rl_call (met_none rfl) (first := []) (cap := []) rfl rfl fC68 (R := fun v_ h_ => ∃ w4 : Value, ∃ w5 : Value, ∃ X6 : Pcs, ∃ X7 : Pcs, v_ = .tuple #[w4, w5] ∧ (OwnS 72 3 w4 (dcs (dryOf size start ds)) X6) ∧ (OwnS 72 3 w5 (dcs (wetOf size start ds)) X7) ∧ St h [] p h_ (([(b2, .cells #[.int .i64 0, .int .i64 0] 36 (0, 0)), (b1, .cells #[.int .i64 (size), .int .i64 (start), .slice a n c] 24 (0, 0))] : Pcs) ++ ((X6 ++ (X7 ++ [])) ++ []))) (fun h_ H_ => (c68b _ _ (fun b_ o_ e_ => H_.per b_ o_ e_) (size) (start) _ _ _ _ D (by omega) hOk).mono fun v_ h2_ ⟨w4, w5, X6, X7, e_, o8, o9, N_⟩ => ⟨w4, w5, X6, X7, e_, o8, o9, H_.callNA N_⟩) fun v_ => ?_
    refine rl_ex fun w4 => rl_ex fun w5 => rl_ex fun X6 => rl_ex fun X7 => rl_and fun ev_ => rl_and fun o8 => rl_and fun o9 => ?_
    have ev_ := ev_.symm; subst ev_
    refine rl_own (L' := ([(b2, .cells #[.int .i64 0, .int .i64 0] 36 (0, 0)), (b1, .cells #[.int .i64 (size), .int .i64 (start), .slice a n c] 24 (0, 0))] : Pcs) ++ (X6 ++ (X7 ++ []))) (by simp) ?_
    refine rl_det (met_none rfl) (fun h_ H_ => exd_move (v := .tuple #[w4, w5]) rfl) rfl ?_
    refine rl_det (met_none rfl) (fun h_ H_ => exd_extract rfl (v := w4) rfl) (tm' := _::_::_::_::_::_::_::_::_::_::_::_::_::_::_::_::_::_::_::_::_::_::_) rfl ?_
    refine rl_det (met_none rfl) (fun h_ H_ => exd_extract rfl (v := w5) rfl) rfl ?_
    refine rl_det (met_none rfl) (fun h_ H_ => exd_assign (v := w4) rfl) rfl ?_
    refine rl_det (met_none rfl) (fun h_ H_ => exd_assign (v := w5) rfl) (tm' := _::_::_::_::_::_::_::_::_::_) rfl ?_
    refine rl_end ?_
    refine fl_seq ?_
    refine rs_lastN (A := ([(b2, .cells #[.int .i64 0, .int .i64 0] 36 (0, 0)), (b1, .cells #[.int .i64 (size), .int .i64 (start), .slice a n c] 24 (0, 0))] : Pcs)) o8 (show (dcs (dryOf size start ds)).length = n by rw [dcs_length, dryOf_length]; exact hl) fun p10 a11 cp12 le13 ev_ D14 => ?_
    subst ev_
    refine rs_lastN (A := ([(b2, .cells #[.int .i64 0, .int .i64 0] 36 (0, 0)), (b1, .cells #[.int .i64 (size), .int .i64 (start), .slice a n c] 24 (0, 0))] : Pcs)) o9 (show (dcs (wetOf size start ds)).length = n by rw [dcs_length, wetOf_length]; exact hl) fun p15 a16 cp17 le18 ev_ D19 => ?_
    subst ev_
    refine rs_own (L' := [(b2, .cells #[.int .i64 0, .int .i64 0] 36 (0, 0)), (b1, .cells #[.int .i64 (size), .int .i64 (start), .slice a n c] 24 (0, 0))]) rfl ?_
    refine fl_drawn2 10 [[], [], [0, 1], [0, 1, 2], [0, 1, 2, 3], [], [], [5, 6], [5, 6, 7], [5, 6, 7, 8], [], [], []] mixed (by kernel_rfl) (Nat.le_of_ble_eq_true rfl) ?_
    refine swr_det (met_none rfl) (fun h_ H_ => exd_move (v := .slice a11 n cp12) rfl) (tm' := [_,_,_,_,_,_,_,_,_,_,_,_,_,_,_,_,_,_,_,_,_,_,_,_,_,_,_,_,_,_,_,_,_,_]) rfl ?_
    refine swr_det (met_none rfl) (fun h_ H_ => exd_move (v := .int .i64 (day)) rfl) rfl ?_
    refine swr_det (met_none rfl) (fun h_ H_ => exd_indexAddr Try.underlying68 tS72 (sl_ne a11 n cp12 (((show Days _ _ _ (dryOf size start ds) from D14).mono le18).ne (by omega))) rfl (by omega) (by omega) (a' := (adr a11).add ((day).toNat * 3)) rfl) (tm' := [_,_,_,_,_,_,_,_,_,_,_,_,_,_,_,_,_,_,_,_,_,_,_,_,_,_,_,_,_,_,_,_,_,_]) rfl ?_
    refine swr_det (met_none rfl) (fun h_ H_ => exd_fieldAddr tF72_2 rfl (a' := ((adr a11).add ((day).toNat * 3)).add 2) rfl) rfl ?_
    refine swr_det (met_none rfl) (fun h_ H_ => exd_load_per H_ tA3 rfl (v := .int .i64 (((dryOf size start ds).getD ((day).toNat) dz).want)) (((show Days _ _ _ (dryOf size start ds) from D14).mono le18).want (by omega))) (tm' := [_,_,_,_,_,_,_,_,_,_,_,_,_,_,_,_,_,_,_,_,_,_,_,_,_,_,_,_,_,_,_,_,_,_]) rfl ?_
    refine swr_det (met_none rfl) (fun h_ H_ => exd_move (v := .slice a16 n cp17) rfl) rfl ?_
    refine swr_det (met_none rfl) (fun h_ H_ => exd_move (v := .int .i64 (day)) rfl) (tm' := [_,_,_,_,_,_,_,_,_,_,_,_,_,_,_,_,_,_,_,_,_,_,_,_,_,_,_,_,_,_,_,_,_,_]) rfl ?_
    refine swr_det (met_none rfl) (fun h_ H_ => exd_indexAddr Try.underlying68 tS72 (sl_ne a16 n cp17 ((show Days _ _ _ (wetOf size start ds) from D19).ne (by omega))) rfl (by omega) (by omega) (a' := (adr a16).add ((day).toNat * 3)) rfl) rfl ?_
    refine swr_det (met_none rfl) (fun h_ H_ => exd_fieldAddr tF72_2 rfl (a' := ((adr a16).add ((day).toNat * 3)).add 2) rfl) (tm' := [_,_,_,_,_,_,_,_,_,_,_,_,_,_,_,_,_,_,_,_,_,_,_,_,_,_,_,_,_,_,_,_,_,_]) rfl ?_
    refine swr_det (met_none rfl) (fun h_ H_ => exd_load_per H_ tA3 rfl (v := .int .i64 (((wetOf size start ds).getD ((day).toNat) dz).want)) ((show Days _ _ _ (wetOf size start ds) from D19).want (by omega))) rfl ?_
    refine swr_nil rfl ?_
    refine rl_det (met_none rfl) (fun h_ H_ => exd_build tZ36 tP36 (vs := [(0, .int .i64 (((dryOf size start ds).getD ((day).toNat) dz).want)), (1, .int .i64 (((wetOf size start ds).getD ((day).toNat) dz).want))]) rfl (cells := #[.int .i64 (((dryOf size start ds).getD ((day).toNat) dz).want), .int .i64 (((wetOf size start ds).getD ((day).toNat) dz).want)]) rfl) rfl ?_
    refine rl_store (met_none rfl) tS36 rfl (v := .agg #[.int .i64 (((dryOf size start ds).getD ((day).toNat) dz).want), .int .i64 (((wetOf size start ds).getD ((day).toNat) dz).want)]) rfl (i := 0) rfl rfl rfl (Nat.le_of_ble_eq_true rfl) (cs2 := [.int .i64 (((dryOf size start ds).getD ((day).toNat) dz).want), .int .i64 (((wetOf size start ds).getD ((day).toNat) dz).want)]) rfl (rl_own (L' := [(b2, .cells #[.int .i64 (((dryOf size start ds).getD ((day).toNat) dz).want), .int .i64 (((wetOf size start ds).getD ((day).toNat) dz).want)] 36 (0, 0)), (b1, .cells #[.int .i64 (size), .int .i64 (start), .slice a n c] 24 (0, 0))]) rfl ?_)
    refine rl_det (met_none rfl) (fun h_ H_ => exd_assign (v := .int .i64 0) rfl) (tm' := _::_::_::_::_::_::_) rfl ?_
    refine rl_end ?_
    refine fl_ret Try.func43 rfl (vs := [.agg #[.int .i64 (((dryOf size start ds).getD ((day).toNat) dz).want), .int .i64 (((wetOf size start ds).getD ((day).toNat) dz).want)], .int .i64 0]) (fun h_ H_ => ⟨.agg #[.int .i64 (((dryOf size start ds).getD ((day).toNat) dz).want), .int .i64 (((wetOf size start ds).getD ((day).toNat) dz).want)], _, rfl, (wpS_bind (wpS_pure (wpS_loadVarN tA36 tS36 (vs := [.int .i64 (((dryOf size start ds).getD ((day).toNat) dz).want), .int .i64 (((wetOf size start ds).getD ((day).toNat) dz).want)]) rfl (fun j_ v_ e_ => by rw [add_mk]; exact H_.ocell (i := 0) rfl (by simpa using e_)) ⟨rfl, rfl⟩))), ⟨.int .i64 0, _, rfl, rfl, rfl⟩⟩) (v := .tuple #[.agg #[.int .i64 (((dryOf size start ds).getD ((day).toNat) dz).want), .int .i64 (((wetOf size start ds).getD ((day).toNat) dz).want)], .int .i64 0]) rfl ?_
    exact fun h_ H_ => K _ _ ⟨by unfold overR; rw [if_pos h0], H_.kept⟩
theorem c55 (h : Heap) (p : PHeap) (hp : Per p h) (size start : Int) (a : Option Addr) (n c : Nat) (ds : List Day) (D : Days p a n ds) (hn : n ≤ 40) : CallsX Try.prog (.main true) 55 #[.agg #[.int .i64 (size), .int .i64 (start), .slice a n c]] h fun v h' => v = .tuple #[.int .i64 (dryR size start ds).1, .int .i64 (dryR size start ds).2] ∧ Keep h h' := by
  refine calls_intro (Φ := fun h_ => St h [] p h_ []) Try.func55 rfl (tm := [_, _, _, _, _, _, _, _, _, _, _, _, _, _, _, _, _, _, _, _, _, _]) rfl ?_ (St.start h _ hp)
  intro c₀ cs Stop K
  have hl := D.len
  refine fl_seq ?_
  refine rl_start ?_
  refine rl_box (met_none rfl) (v := .agg #[.int .i64 (size), .int .i64 (start), .slice a n c]) rfl fun b1 => rl_own (L' := [(b1, .cells #[.int .i64 (size), .int .i64 (start), .slice a n c] 24 (0, 0))]) rfl ?_
  refine rl_det (met_none rfl) (fun h_ H_ => exd_assign (v := .int .i64 0) rfl) rfl ?_
  refine rl_det (met_none rfl) (fun h_ H_ => exd_assign (v := .int .i64 0) rfl) (tm' := _::_::_::_::_) rfl ?_
  refine rl_end ?_
  refine fl_seq ?_
  refine fl_seq ?_
  refine rl_start ?_
  refine rl_det (met_none rfl) (fun h_ H_ => exd_loadN_own H_ tA24 tS24 rfl (i := 0) rfl (vs := [.int .i64 (size), .int .i64 (start), .slice a n c]) rfl rfl) rfl ?_
  refine rl_calld (met_none rfl) (first := []) (cap := []) rfl rfl fC32 (fun h_ H_ => c32 (.main true) _ _ (fun b_ o_ e_ => H_.per b_ o_ e_) (size) (start) _ _ _ _ D (by omega)) rfl ?_
  refine rl_det (met_none rfl) (fun h_ H_ => exd_assign (v := .int .i64 (chk (size) (start) ds)) rfl) (tm' := _::_::_::_::_::_) rfl ?_
  refine rl_end ?_
  refine fl_seq ?_
  refine rl_start ?_
  refine rl_det (met_none rfl) (fun h_ H_ => exd_move (v := .int .i64 (chk (size) (start) ds)) rfl) rfl ?_
  refine rl_det (met_none rfl) (fun h_ H_ => exd_neq rfl rfl) rfl ?_
  refine rl_end ?_
  by_cases cc2 : chk (size) (start) ds ≠ 0
  · refine fl_then rfl (decide_eq_true cc2) ?_
    refine fl_seq ?_
    refine rl_start ?_
    refine rl_det (met_none rfl) (fun h_ H_ => exd_move (v := .int .i64 (chk (size) (start) ds)) rfl) (tm' := _::_::_::_::_::_::_::_::_::_::_::_::_) rfl ?_
    refine rl_det (met_none rfl) (fun h_ H_ => exd_assign (v := .int .i64 0) rfl) rfl ?_
    refine rl_det (met_none rfl) (fun h_ H_ => exd_assign (v := .int .i64 (chk (size) (start) ds)) rfl) rfl ?_
    refine rl_end ?_
    refine fl_ret Try.func55 rfl (vs := [.int .i64 0, .int .i64 (chk (size) (start) ds)]) (fun h_ H_ => ⟨.int .i64 0, _, rfl, rfl, ⟨.int .i64 (chk (size) (start) ds), _, rfl, rfl, rfl⟩⟩) (v := .tuple #[.int .i64 0, .int .i64 (chk (size) (start) ds)]) rfl ?_
    have hOk : ¬ Ok size start ds := fun e => absurd (chk_yes e) ‹_›
    exact fun h_ H_ => K _ _ ⟨by unfold dryR; rw [if_neg hOk, chk_no hOk], H_.kept⟩
  · refine fl_else rfl (decide_eq_false cc2) ?_
    refine fl_skip ?_
    refine fl_seq ?_
    have hOk : Ok size start ds := chk_zero.1 (by omega)
    refine rl_start ?_
    refine rl_det (met_none rfl) (fun h_ H_ => exd_loadN_own H_ tA24 tS24 rfl (i := 0) rfl (vs := [.int .i64 (size), .int .i64 (start), .slice a n c]) rfl rfl) (tm' := _::_::_::_::_::_::_::_::_::_::_::_::_::_::_) rfl ?_
    refine rl_own (L' := ([(b1, .cells #[.int .i64 (size), .int .i64 (start), .slice a n c] 24 (0, 0))] : Pcs) ++ []) rfl ?_
    refine rl_call (met_none rfl) (first := []) (cap := []) rfl rfl fC68 (R := fun v_ h_ => ∃ w3 : Value, ∃ w4 : Value, ∃ X5 : Pcs, ∃ X6 : Pcs, v_ = .tuple #[w3, w4] ∧ (OwnS 72 3 w3 (dcs (dryOf size start ds)) X5) ∧ (OwnS 72 3 w4 (dcs (wetOf size start ds)) X6) ∧ St h [] p h_ (([(b1, .cells #[.int .i64 (size), .int .i64 (start), .slice a n c] 24 (0, 0))] : Pcs) ++ ((X5 ++ (X6 ++ [])) ++ []))) (fun h_ H_ => (c68b _ _ (fun b_ o_ e_ => H_.per b_ o_ e_) (size) (start) _ _ _ _ D (by omega) hOk).mono fun v_ h2_ ⟨w3, w4, X5, X6, e_, o7, o8, N_⟩ => ⟨w3, w4, X5, X6, e_, o7, o8, H_.callNA N_⟩) fun v_ => ?_
    refine rl_ex fun w3 => rl_ex fun w4 => rl_ex fun X5 => rl_ex fun X6 => rl_and fun ev_ => rl_and fun o7 => rl_and fun o8 => ?_
    have ev_ := ev_.symm; subst ev_
    refine rl_own (L' := ([(b1, .cells #[.int .i64 (size), .int .i64 (start), .slice a n c] 24 (0, 0))] : Pcs) ++ (X5 ++ (X6 ++ []))) (by simp) ?_
    refine rl_det (met_none rfl) (fun h_ H_ => exd_move (v := .tuple #[w3, w4]) rfl) rfl ?_
    refine rl_det (met_none rfl) (fun h_ H_ => exd_extract rfl (v := w3) rfl) (tm' := [_,_,_,_,_,_,_,_,_,_,_,_,_,_,_,_,_,_,_,_,_,_]) rfl ?_
    refine rl_det (met_none rfl) (fun h_ H_ => exd_extract rfl (v := w4) rfl) rfl ?_
    refine rl_det (met_none rfl) (fun h_ H_ => exd_assign (v := w3) rfl) rfl ?_
    refine rl_det (met_none rfl) (fun h_ H_ => exd_assign (v := w4) rfl) (tm' := _::_::_::_::_::_::_::_) rfl ?_
    refine rl_end ?_
    refine fl_seq ?_
    refine rs_lastN (A := ([(b1, .cells #[.int .i64 (size), .int .i64 (start), .slice a n c] 24 (0, 0))] : Pcs)) o7 (show (dcs (dryOf size start ds)).length = n by rw [dcs_length, dryOf_length]; exact hl) fun p9 a10 cp11 le12 ev_ D13 => ?_
    subst ev_
    refine rl_start ?_
    refine rl_det (met_none rfl) (fun h_ H_ => exd_move (v := .slice a10 n cp11) rfl) rfl ?_
    refine rl_calld (met_none rfl) (first := []) (cap := []) rfl rfl fC81 (fun h_ H_ => c81 (.main true) _ _ (fun b_ o_ e_ => H_.per b_ o_ e_) (.func (.func 84) #[] #[]) _ _ _ _ (show Days _ _ _ (dryOf size start ds) from D13) (by omega) lackDay (fun h_ hp_ i_ hi_ => callv_of fC84 (c84 (.main true) _ _ _ _))) rfl ?_
    refine rl_calld (met_none rfl) (first := []) (cap := []) rfl rfl fC83 (fun h_ H_ => c83' (.main true) _ (idxF lackDay (dryOf size start ds))) (tm' := [_,_,_,_,_,_,_,_,_,_,_,_,_,_,_,_,_,_,_,_,_,_]) rfl ?_
    refine rl_det (met_none rfl) (fun h_ H_ => exd_extract rfl (v := .int .i64 ((noneR (idxF lackDay (dryOf size start ds))).1)) rfl) rfl ?_
    refine rl_det (met_none rfl) (fun h_ H_ => exd_extract rfl (v := .int .i64 ((noneR (idxF lackDay (dryOf size start ds))).2)) rfl) rfl ?_
    refine rl_det (met_none rfl) (fun h_ H_ => exd_assign (v := .int .i64 ((noneR (idxF lackDay (dryOf size start ds))).1)) rfl) (tm' := _::_::_::_) rfl ?_
    refine rl_det (met_none rfl) (fun h_ H_ => exd_assign (v := .int .i64 ((noneR (idxF lackDay (dryOf size start ds))).2)) rfl) rfl ?_
    refine rl_end ?_
    refine fl_ret Try.func55 rfl (vs := [.int .i64 ((noneR (idxF lackDay (dryOf size start ds))).1), .int .i64 ((noneR (idxF lackDay (dryOf size start ds))).2)]) (fun h_ H_ => ⟨.int .i64 ((noneR (idxF lackDay (dryOf size start ds))).1), _, rfl, rfl, ⟨.int .i64 ((noneR (idxF lackDay (dryOf size start ds))).2), _, rfl, rfl, rfl⟩⟩) (v := .tuple #[.int .i64 ((noneR (idxF lackDay (dryOf size start ds))).1), .int .i64 ((noneR (idxF lackDay (dryOf size start ds))).2)]) rfl ?_
    exact fun h_ H_ => K _ _ ⟨by unfold dryR; rw [if_pos hOk], H_.kept⟩
end Go.Proofs.Ytbmkacnlhlbnjaa
namespace Go.Proofs.Ytbmkacnlhlbnjaa
open Go.X Go.X.Cist Go.Conc
set_option maxRecDepth 10000

set_option maxHeartbeats 1000000
def exC : List Day := [⟨2, 5, 4⟩, ⟨0, 8, 6⟩, ⟨3, 3, 2⟩, ⟨0, 1, 5⟩]
def exD : List Day := [⟨0, 2, 1⟩, ⟨6, 9, 2⟩, ⟨0, 0, 7⟩, ⟨4, 4, 3⟩]
theorem c85 (md : Md) (h : Heap) (a b c : Int) : CallsX Try.prog md 85 #[.int .i64 (a), .int .i64 (b), .int .i64 (c)] h fun v h' => v = .agg #[.int .i64 (a), .int .i64 (b), .int .i64 (c)] ∧ Keep h h' := by
  refine calls_intro (Φ := fun h_ => St h [] (fun _ => none) h_ []) Try.func85 rfl (tm := [_, _, _, _, _, _, _, _, _, _, _, _]) rfl ?_ (St.start h _ (fun _ _ e => by cases e))
  intro c₀ cs Stop K
  refine fl_seq ?_
  refine rl_start ?_
  refine rl_alloc (met_none rfl) tZ38 rfl fun b1 => rl_own (L' := [(b1, .cells #[.int .i64 0, .int .i64 0, .int .i64 0] 38 (0, 0))]) rfl ?_
  refine rl_end ?_
  refine fl_seq ?_
  refine rl_start ?_
  refine rl_det (met_none rfl) (fun h_ H_ => exd_move (v := .int .i64 (a)) rfl) rfl ?_
  refine rl_det (met_none rfl) (fun h_ H_ => exd_move (v := .int .i64 (b)) rfl) (tm' := [_,_,_,_,_,_,_,_,_,_,_,_]) rfl ?_
  refine rl_det (met_none rfl) (fun h_ H_ => exd_build tZ36 tP36 (vs := [(0, .int .i64 (a)), (1, .int .i64 (b))]) rfl (cells := #[.int .i64 (a), .int .i64 (b)]) rfl) rfl ?_
  refine rl_det (met_none rfl) (fun h_ H_ => exd_move (v := .int .i64 (c)) rfl) rfl ?_
  refine rl_det (met_none rfl) (fun h_ H_ => exd_build tZ38 tP38 (vs := [(0, .agg #[.int .i64 (a), .int .i64 (b)]), (1, .int .i64 (c))]) rfl (cells := #[.int .i64 (a), .int .i64 (b), .int .i64 (c)]) rfl) (tm' := [_,_,_,_,_,_,_,_,_,_,_,_]) rfl ?_
  refine rl_store (met_none rfl) tS38 rfl (v := .agg #[.int .i64 (a), .int .i64 (b), .int .i64 (c)]) rfl (i := 0) rfl rfl rfl (Nat.le_of_ble_eq_true rfl) (cs2 := [.int .i64 (a), .int .i64 (b), .int .i64 (c)]) rfl (rl_own (L' := [(b1, .cells #[.int .i64 (a), .int .i64 (b), .int .i64 (c)] 38 (0, 0))]) rfl ?_)
  refine rl_end ?_
  refine fl_ret Try.func85 rfl (vs := [.agg #[.int .i64 (a), .int .i64 (b), .int .i64 (c)]]) (fun h_ H_ => ⟨.agg #[.int .i64 (a), .int .i64 (b), .int .i64 (c)], _, rfl, (wpS_bind (wpS_pure (wpS_loadVarN tA38 tS38 (vs := [.int .i64 (a), .int .i64 (b), .int .i64 (c)]) rfl (fun j_ v_ e_ => by rw [add_mk]; exact H_.ocell (i := 0) rfl (by simpa using e_)) ⟨rfl, rfl⟩))), rfl⟩) (v := .agg #[.int .i64 (a), .int .i64 (b), .int .i64 (c)]) rfl ?_
  exact fun h_ H_ => K _ _ ⟨rfl, H_.kept⟩
theorem c61 (md : Md) (h : Heap) : CallsX Try.prog md 61 #[] h fun v h' => ∃ w1 w2 X1 X2, v = .tuple #[.agg #[.int .i64 10, .int .i64 4, w1], .agg #[.int .i64 10, .int .i64 5, w2]] ∧ OwnS 38 3 w1 (dcs exC) X1 ∧ OwnS 38 3 w2 (dcs exD) X2 ∧ New h h' (X2 ++ (X1 ++ [])) := by
  refine calls_intro (Φ := fun h_ => St h [] (fun _ => none) h_ []) Try.func61 rfl (tm := [_, _, _, _, _, _, _, _, _, _, _, _, _, _, _, _]) rfl ?_ (St.start h _ (fun _ _ e => by cases e))
  intro c₀ cs Stop K
  refine fl_seq ?_
  refine rl_start ?_
  refine rl_alloc (met_none rfl) tZ24 rfl fun b1 => rl_own (L' := [(b1, .cells #[.int .i64 0, .int .i64 0, .slice none 0 0] 24 (0, 0))]) rfl ?_
  refine rl_alloc (met_none rfl) tZ24 rfl fun b2 => rl_own (L' := [(b2, .cells #[.int .i64 0, .int .i64 0, .slice none 0 0] 24 (0, 0)), (b1, .cells #[.int .i64 0, .int .i64 0, .slice none 0 0] 24 (0, 0))]) rfl ?_
  refine rl_end ?_
  refine fl_seq ?_
  refine rl_start ?_
  refine rl_calld (met_none rfl) (first := []) (cap := []) rfl rfl fC85 (fun h_ H_ => c85 md _ (2) (5) (4)) (tm' := _::_::_::_) rfl ?_
  refine rl_calld (met_none rfl) (first := []) (cap := []) rfl rfl fC85 (fun h_ H_ => c85 md _ (0) (8) (6)) rfl ?_
  refine rl_calld (met_none rfl) (first := []) (cap := []) rfl rfl fC85 (fun h_ H_ => c85 md _ (3) (3) (2)) rfl ?_
  refine rl_calld (met_none rfl) (first := []) (cap := []) rfl rfl fC85 (fun h_ H_ => c85 md _ (0) (1) (5)) (tm' := _::_::_::_::_::_::_) rfl ?_
  refine rl_own (L' := ([(b2, .cells #[.int .i64 0, .int .i64 0, .slice none 0 0] 24 (0, 0)), (b1, .cells #[.int .i64 0, .int .i64 0, .slice none 0 0] 24 (0, 0))] : Pcs) ++ []) rfl ?_
  refine rl_buildO ([(b2, .cells #[.int .i64 0, .int .i64 0, .slice none 0 0] 24 (0, 0)), (b1, .cells #[.int .i64 0, .int .i64 0, .slice none 0 0] 24 (0, 0))] : Pcs) (met_none rfl) Try.underlying22 tS38 tZ38 (Nat.le_of_ble_eq_true rfl) (vs := [(0, .agg #[.int .i64 2, .int .i64 5, .int .i64 4]), (1, .agg #[.int .i64 0, .int .i64 8, .int .i64 6]), (2, .agg #[.int .i64 3, .int .i64 3, .int .i64 2]), (3, .agg #[.int .i64 0, .int .i64 1, .int .i64 5])]) rfl rfl (es := [[.int .i64 2, .int .i64 5, .int .i64 4], [.int .i64 0, .int .i64 8, .int .i64 6], [.int .i64 3, .int .i64 3, .int .i64 2], [.int .i64 0, .int .i64 1, .int .i64 5]]) rfl rfl rfl fun v3 X4 o5 => ?_
  obtain ⟨a6, c7, ev_, _⟩ := o5.val; have ev_ : v3 = .slice a6 4 c7 := ev_.trans (congrArg (fun q_ => Value.slice a6 q_ c7) (show _ = 4 from rfl)); subst ev_
  refine rl_det (met_none rfl) (fun h_ H_ => exd_build tZ24 tP24 (vs := [(0, .int .i64 10), (1, .int .i64 4), (2, (.slice a6 4 c7))]) rfl (cells := #[.int .i64 10, .int .i64 4, (.slice a6 4 c7)]) rfl) rfl ?_
  refine rl_store (met_none rfl) tS24 rfl (v := .agg #[.int .i64 10, .int .i64 4, (.slice a6 4 c7)]) rfl (i := 1) rfl rfl (ones_cons rfl (ones_cons rfl (ones_cons o5.one.2 rfl))) (Nat.le_of_ble_eq_true rfl) (cs2 := [.int .i64 10, .int .i64 4, (.slice a6 4 c7)]) rfl (rl_own (L' := ([(b2, .cells #[.int .i64 0, .int .i64 0, .slice none 0 0] 24 (0, 0)), (b1, .cells #[.int .i64 10, .int .i64 4, (.slice a6 4 c7)] 24 (0, 0))] : Pcs) ++ (X4 ++ [])) rfl ?_)
  refine rl_end ?_
  refine fl_seq ?_
  refine rl_start ?_
  refine rl_calld (met_none rfl) (first := []) (cap := []) rfl rfl fC85 (fun h_ H_ => c85 md _ (0) (2) (1)) (tm' := _::_::_::_::_::_::_::_::_::_) rfl ?_
  refine rl_calld (met_none rfl) (first := []) (cap := []) rfl rfl fC85 (fun h_ H_ => c85 md _ (6) (9) (2)) rfl ?_
  refine rl_calld (met_none rfl) (first := []) (cap := []) rfl rfl fC85 (fun h_ H_ => c85 md _ (0) (0) (7)) rfl ?_
  refine rl_calld (met_none rfl) (first := []) (cap := []) rfl rfl fC85 (fun h_ H_ => c85 md _ (4) (4) (3)) (tm' := [_,_,_,_,_,_,_,_,_,_,_,_,_,_,_,_]) rfl ?_
  refine rl_buildO ([(b2, .cells #[.int .i64 0, .int .i64 0, .slice none 0 0] 24 (0, 0)), (b1, .cells #[.int .i64 10, .int .i64 4, (.slice a6 4 c7)] 24 (0, 0))] : Pcs) (met_none rfl) Try.underlying22 tS38 tZ38 (Nat.le_of_ble_eq_true rfl) (vs := [(0, .agg #[.int .i64 0, .int .i64 2, .int .i64 1]), (1, .agg #[.int .i64 6, .int .i64 9, .int .i64 2]), (2, .agg #[.int .i64 0, .int .i64 0, .int .i64 7]), (3, .agg #[.int .i64 4, .int .i64 4, .int .i64 3])]) rfl rfl (es := [[.int .i64 0, .int .i64 2, .int .i64 1], [.int .i64 6, .int .i64 9, .int .i64 2], [.int .i64 0, .int .i64 0, .int .i64 7], [.int .i64 4, .int .i64 4, .int .i64 3]]) rfl rfl rfl fun v8 X9 o10 => ?_
  obtain ⟨a11, c12, ev_, _⟩ := o10.val; have ev_ : v8 = .slice a11 4 c12 := ev_.trans (congrArg (fun q_ => Value.slice a11 q_ c12) (show _ = 4 from rfl)); subst ev_
  refine rl_det (met_none rfl) (fun h_ H_ => exd_build tZ24 tP24 (vs := [(0, .int .i64 10), (1, .int .i64 5), (2, (.slice a11 4 c12))]) rfl (cells := #[.int .i64 10, .int .i64 5, (.slice a11 4 c12)]) rfl) rfl ?_
  refine rl_store (met_none rfl) tS24 rfl (v := .agg #[.int .i64 10, .int .i64 5, (.slice a11 4 c12)]) rfl (i := 0) rfl rfl (ones_cons rfl (ones_cons rfl (ones_cons o10.one.2 rfl))) (Nat.le_of_ble_eq_true rfl) (cs2 := [.int .i64 10, .int .i64 5, (.slice a11 4 c12)]) rfl (rl_own (L' := ([(b2, .cells #[.int .i64 10, .int .i64 5, (.slice a11 4 c12)] 24 (0, 0)), (b1, .cells #[.int .i64 10, .int .i64 4, (.slice a6 4 c7)] 24 (0, 0))] : Pcs) ++ (X9 ++ (X4 ++ []))) rfl ?_)
  refine rl_end ?_
  refine fl_seq ?_
  refine rs_as (fl_mixed (C := []) (A := ([(b2, .cells #[.int .i64 10, .int .i64 5, (.slice a11 4 c12)] 24 (0, 0)), (b1, .cells #[.int .i64 10, .int .i64 4, (.slice a6 4 c7)] 24 (0, 0))] : Pcs)) 3 [] [3, 4] [3, 4] [0, 1, 2] (fun i_ => match i_ with | 3 => X9 | 4 => X4 | _ => []) (fun _ => []) (fun i_ v_ x_ => match i_ with | 0 => v_ = .agg #[.int .i64 10, .int .i64 4, (.slice a6 4 c7)] ∧ x_ = [] | 1 => v_ = .agg #[.int .i64 10, .int .i64 5, (.slice a11 4 c12)] ∧ x_ = [] | 2 => v_ = undef ∧ x_ = [] | _ => True) (fun val13 => [.pointer (some ⟨b1, 0, none⟩), .pointer (some ⟨b2, 0, none⟩), .agg #[.int .i64 2, .int .i64 5, .int .i64 4], .agg #[.int .i64 0, .int .i64 8, .int .i64 6], .agg #[.int .i64 3, .int .i64 3, .int .i64 2], .agg #[.int .i64 0, .int .i64 1, .int .i64 5], (.slice a6 4 c7), .agg #[.int .i64 10, .int .i64 4, (.slice a6 4 c7)], .agg #[.int .i64 0, .int .i64 2, .int .i64 1], .agg #[.int .i64 6, .int .i64 9, .int .i64 2], .agg #[.int .i64 0, .int .i64 0, .int .i64 7], .agg #[.int .i64 4, .int .i64 4, .int .i64 3], (.slice a11 4 c12), .agg #[.int .i64 10, .int .i64 5, (.slice a11 4 c12)], (val13 0), (val13 1)]) mixed (by kernel_rfl) (Nat.le_of_ble_eq_true rfl) (by kernel_rfl) (by kernel_rfl) ⟨fun _ _ h => h.2, ⟨fun _ _ h => h.2, ⟨fun _ _ h => h.2, trivial⟩⟩⟩ (fun _ => by kernel_rfl) (by kernel_rfl) ?_ ?_) (fun h_ H_ => St.swap (A := ([(b2, .cells #[.int .i64 10, .int .i64 5, (.slice a11 4 c12)] 24 (0, 0)), (b1, .cells #[.int .i64 10, .int .i64 4, (.slice a6 4 c7)] 24 (0, 0))] : Pcs)) (U := (X9 ++ (X4 ++ []))) H_)
  · refine mixes_cons rfl (opmix ?_) ?_
    · intro val13 pc14 hQ_ hX_
      refine ⟨[.pointer (some ⟨b1, 0, none⟩), .pointer (some ⟨b2, 0, none⟩), .agg #[.int .i64 2, .int .i64 5, .int .i64 4], .agg #[.int .i64 0, .int .i64 8, .int .i64 6], .agg #[.int .i64 3, .int .i64 3, .int .i64 2], .agg #[.int .i64 0, .int .i64 1, .int .i64 5], (.slice a6 4 c7), .agg #[.int .i64 10, .int .i64 4, (.slice a6 4 c7)], .agg #[.int .i64 0, .int .i64 2, .int .i64 1], .agg #[.int .i64 6, .int .i64 9, .int .i64 2], .agg #[.int .i64 0, .int .i64 0, .int .i64 7], .agg #[.int .i64 4, .int .i64 4, .int .i64 3], (.slice a11 4 c12), .agg #[.int .i64 10, .int .i64 5, (.slice a11 4 c12)], (val13 0), (val13 1)], [], rfl, rfl, ?_⟩
      exact mix_det (met_none rfl) (fun _ h_ H_ => exd_loadN_own H_ tA24 tS24 rfl (i := 1) rfl (vs := [.int .i64 10, .int .i64 4, (.slice a6 4 c7)]) rfl rfl) ⟨rfl, rfl⟩
    refine mixes_cons rfl (opmix ?_) ?_
    · intro val13 pc14 hQ_ hX_
      refine ⟨[.pointer (some ⟨b1, 0, none⟩), .pointer (some ⟨b2, 0, none⟩), .agg #[.int .i64 2, .int .i64 5, .int .i64 4], .agg #[.int .i64 0, .int .i64 8, .int .i64 6], .agg #[.int .i64 3, .int .i64 3, .int .i64 2], .agg #[.int .i64 0, .int .i64 1, .int .i64 5], (.slice a6 4 c7), .agg #[.int .i64 10, .int .i64 4, (.slice a6 4 c7)], .agg #[.int .i64 0, .int .i64 2, .int .i64 1], .agg #[.int .i64 6, .int .i64 9, .int .i64 2], .agg #[.int .i64 0, .int .i64 0, .int .i64 7], .agg #[.int .i64 4, .int .i64 4, .int .i64 3], (.slice a11 4 c12), .agg #[.int .i64 10, .int .i64 5, (.slice a11 4 c12)], (val13 0), (val13 1)], [], rfl, rfl, ?_⟩
      exact mix_det (met_none rfl) (fun _ h_ H_ => exd_loadN_own H_ tA24 tS24 rfl (i := 0) rfl (vs := [.int .i64 10, .int .i64 5, (.slice a11 4 c12)]) rfl rfl) ⟨rfl, rfl⟩
    refine mixes_cons rfl (opmix ?_) ?_
    · intro val13 pc14 hQ_ hX_
      have e0_ : val13 0 = .agg #[.int .i64 10, .int .i64 4, (.slice a6 4 c7)] := (hQ_ 0 rfl).1
      refine ⟨[.pointer (some ⟨b1, 0, none⟩), .pointer (some ⟨b2, 0, none⟩), .agg #[.int .i64 2, .int .i64 5, .int .i64 4], .agg #[.int .i64 0, .int .i64 8, .int .i64 6], .agg #[.int .i64 3, .int .i64 3, .int .i64 2], .agg #[.int .i64 0, .int .i64 1, .int .i64 5], (.slice a6 4 c7), .agg #[.int .i64 10, .int .i64 4, (.slice a6 4 c7)], .agg #[.int .i64 0, .int .i64 2, .int .i64 1], .agg #[.int .i64 6, .int .i64 9, .int .i64 2], .agg #[.int .i64 0, .int .i64 0, .int .i64 7], .agg #[.int .i64 4, .int .i64 4, .int .i64 3], (.slice a11 4 c12), .agg #[.int .i64 10, .int .i64 5, (.slice a11 4 c12)], .agg #[.int .i64 10, .int .i64 4, (.slice a6 4 c7)], (val13 1)], [], (by simp only [e0_]), rfl, ?_⟩
      exact mix_same (met_none rfl) tS24 rfl (v := .agg #[.int .i64 10, .int .i64 4, (.slice a6 4 c7)]) rfl (i := 1) (fun _ => rfl) rfl (ones_cons rfl (ones_cons rfl (ones_cons o5.one.2 rfl))) (Nat.le_of_ble_eq_true rfl) rfl ⟨rfl, rfl⟩
    exact mixes_nil rfl
  intro val13 pc14 hQ_ hX_
  have e0_ : val13 0 = .agg #[.int .i64 10, .int .i64 4, (.slice a6 4 c7)] := (hQ_ 0 (by decide)).1
  have e1_ : val13 1 = .agg #[.int .i64 10, .int .i64 5, (.slice a11 4 c12)] := (hQ_ 1 (by decide)).1
  have x3_ : pc14 3 = X9 := hX_ 3 (by decide)
  have x4_ : pc14 4 = X4 := hX_ 4 (by decide)
  refine rl_as (Φ := fun h_ => St h [] (fun _ => none) h_ (([(b2, .cells #[.int .i64 10, .int .i64 5, (.slice a11 4 c12)] 24 (0, 0)), (b1, .cells #[.int .i64 10, .int .i64 4, (.slice a6 4 c7)] 24 (0, 0))] : Pcs) ++ (pc14 3 ++ (pc14 4 ++ [])))) ?_ (fun h_ H_ => H_.swap')
  rw [x3_, x4_]
  refine rl_norm (tm' := [.pointer (some ⟨b1, 0, none⟩), .pointer (some ⟨b2, 0, none⟩), .agg #[.int .i64 2, .int .i64 5, .int .i64 4], .agg #[.int .i64 0, .int .i64 8, .int .i64 6], .agg #[.int .i64 3, .int .i64 3, .int .i64 2], .agg #[.int .i64 0, .int .i64 1, .int .i64 5], (.slice a6 4 c7), .agg #[.int .i64 10, .int .i64 4, (.slice a6 4 c7)], .agg #[.int .i64 0, .int .i64 2, .int .i64 1], .agg #[.int .i64 6, .int .i64 9, .int .i64 2], .agg #[.int .i64 0, .int .i64 0, .int .i64 7], .agg #[.int .i64 4, .int .i64 4, .int .i64 3], (.slice a11 4 c12), .agg #[.int .i64 10, .int .i64 5, (.slice a11 4 c12)], .agg #[.int .i64 10, .int .i64 4, (.slice a6 4 c7)], .agg #[.int .i64 10, .int .i64 5, (.slice a11 4 c12)]]) (by simp only [e0_, e1_]) ?_
  clear hQ_ hX_
  refine rl_store (met_none rfl) tS24 rfl (v := .agg #[.int .i64 10, .int .i64 5, (.slice a11 4 c12)]) rfl (i := 0) rfl rfl (ones_cons rfl (ones_cons rfl (ones_cons o10.one.2 rfl))) (Nat.le_of_ble_eq_true rfl) (cs2 := [.int .i64 10, .int .i64 5, (.slice a11 4 c12)]) rfl (rl_own (L' := ([(b2, .cells #[.int .i64 10, .int .i64 5, (.slice a11 4 c12)] 24 (0, 0)), (b1, .cells #[.int .i64 10, .int .i64 4, (.slice a6 4 c7)] 24 (0, 0))] : Pcs) ++ (X9 ++ (X4 ++ []))) rfl ?_)
  refine rl_end ?_
  refine fl_ret Try.func61 rfl (vs := [.agg #[.int .i64 10, .int .i64 4, (.slice a6 4 c7)], .agg #[.int .i64 10, .int .i64 5, (.slice a11 4 c12)]]) (fun h_ H_ => ⟨.agg #[.int .i64 10, .int .i64 4, (.slice a6 4 c7)], _, rfl, (wpS_bind (wpS_pure (wpS_loadVarN tA24 tS24 (vs := [.int .i64 10, .int .i64 4, (.slice a6 4 c7)]) rfl (fun j_ v_ e_ => by rw [add_mk]; exact H_.ocell (i := 1) rfl (by simpa using e_)) ⟨rfl, rfl⟩))), ⟨.agg #[.int .i64 10, .int .i64 5, (.slice a11 4 c12)], _, rfl, (wpS_bind (wpS_pure (wpS_loadVarN tA24 tS24 (vs := [.int .i64 10, .int .i64 5, (.slice a11 4 c12)]) rfl (fun j_ v_ e_ => by rw [add_mk]; exact H_.ocell (i := 0) rfl (by simpa using e_)) ⟨rfl, rfl⟩))), rfl⟩⟩) (v := .tuple #[.agg #[.int .i64 10, .int .i64 4, (.slice a6 4 c7)], .agg #[.int .i64 10, .int .i64 5, (.slice a11 4 c12)]]) rfl ?_
  exact fun h_ H_ => K _ _ ⟨_, _, _, _, rfl, o5, o10, H_.dropA.new⟩
theorem c34ok (md : Md) (h : Heap) (p : PHeap) (hp : Per p h) (size start : Int) (a : Option Addr) (n c : Nat) (ds : List Day) (D : Days p a n ds) (hn : n ≤ 40) (b : Option Addr) (m d : Nat) (xs : List Int) (W : Ints p b m xs) (hm40 : m ≤ 40) (hOk : Ok size start ds) (hW : Weather ds xs) : CallsX Try.prog md 34 #[.agg #[.int .i64 (size), .int .i64 (start), .slice a n c], .slice b m d] h fun v h' => ∃ w1 w2 w3 X1 X2 X3, v = .tuple #[w1, w2, w3, .int .i64 0] ∧ OwnS 3 1 w1 (ns (levs size start (wantOf ds) (listOf xs)) n) X1 ∧ OwnS 3 1 w2 (ns (lack size start (wantOf ds) (listOf xs)) n) X2 ∧ OwnS 3 1 w3 (ns (ovr size start (wantOf ds) (listOf xs)) n) X3 ∧ New h h' (X1 ++ (X2 ++ (X3 ++ []))) :=
  (c34 md h p hp size start a n c ds D hn b m d xs W hm40).mono fun v h' ⟨w1, w2, w3, X1, X2, X3, e, y, _, N⟩ => ⟨w1, w2, w3, X1, X2, X3, by rw [e, askd_ok hOk (decide_eq_true hW)], (y ⟨hOk, hW⟩).1, (y ⟨hOk, hW⟩).2.1, (y ⟨hOk, hW⟩).2.2, N⟩
theorem c18 (h : Heap) : CallsX Try.prog (.main true) 18 #[] h fun v h' => v = .bool true ∧ Keep h h' := by
  refine calls_intro (Φ := fun h_ => St h [] (fun _ => none) h_ []) Try.func18 rfl (tm := [_, _, _, _, _, _, _, _, _, _, _, _, _, _, _, _, _, _, _, _, _, _, _, _, _, _, _, _, _, _, _, _, _, _, _, _, _, _, _, _, _, _, _, _, _, _, _, _, _, _, _, _, _, _, _, _, _, _, _, _, _, _, _, _, _, _, _, _, _, _, _, _, _, _, _, _, _, _, _, _, _, _, _, _, _, _, _, _, _, _, _, _, _, _, _, _, _, _, _, _, _, _, _, _, _, _, _, _, _, _, _, _, _, _, _, _, _, _, _, _, _, _, _, _, _, _, _, _]) rfl ?_ (St.start h _ (fun _ _ e => by cases e))
  intro c₀ cs Stop K
  refine fl_seq ?_
  refine rl_start ?_
  refine rl_det (met_none rfl) (fun h_ H_ => exd_assign (v := .bool (false)) rfl) rfl ?_
  refine rl_end ?_
  refine fl_seq ?_
  refine rl_start ?_
  refine rl_own (L' := ([] : Pcs) ++ []) rfl ?_
  refine rl_call (met_none rfl) (first := []) (cap := []) rfl rfl fC61 (R := fun v_ h_ => ∃ w1 : Value, ∃ w2 : Value, ∃ X3 : Pcs, ∃ X4 : Pcs, v_ = .tuple #[.agg #[.int .i64 10, .int .i64 4, w1], .agg #[.int .i64 10, .int .i64 5, w2]] ∧ (OwnS 38 3 w1 (dcs exC) X3) ∧ (OwnS 38 3 w2 (dcs exD) X4) ∧ St h [] (fun _ => none) h_ (([] : Pcs) ++ ((X4 ++ (X3 ++ [])) ++ []))) (fun h_ H_ => (c61 (.main true) _).mono fun v_ h2_ ⟨w1, w2, X3, X4, e_, o5, o6, N_⟩ => ⟨w1, w2, X3, X4, e_, o5, o6, H_.callNA N_⟩) fun v_ => ?_
  refine rl_ex fun w1 => rl_ex fun w2 => rl_ex fun X3 => rl_ex fun X4 => rl_and fun ev_ => rl_and fun o5 => rl_and fun o6 => ?_
  have ev_ := ev_.symm; subst ev_
  refine rl_own (L' := ([] : Pcs) ++ (X4 ++ (X3 ++ []))) (by simp) ?_
  refine rl_norm (tm' := _::_::_::_::_::_::_::_::_::_::_::_::_::_::_::_::_::_::_::_::_::_) rfl ?_
  refine rl_det (met_none rfl) (fun h_ H_ => exd_move (v := .tuple #[.agg #[.int .i64 10, .int .i64 4, w1], .agg #[.int .i64 10, .int .i64 5, w2]]) rfl) rfl ?_
  refine rl_det (met_none rfl) (fun h_ H_ => exd_extract rfl (v := .agg #[.int .i64 10, .int .i64 4, w1]) rfl) rfl ?_
  refine rl_det (met_none rfl) (fun h_ H_ => exd_extract rfl (v := .agg #[.int .i64 10, .int .i64 5, w2]) rfl) (tm' := _::_::_::_::_::_::_::_::_::_::_::_::_::_::_::_::_::_::_::_::_::_::_::_) rfl ?_
  refine rl_alloc (met_none rfl) tZ24 rfl fun b7 => rl_own (L' := ([(b7, .cells #[.int .i64 0, .int .i64 0, .slice none 0 0] 24 (0, 0))] : Pcs) ++ (X4 ++ (X3 ++ []))) rfl ?_
  refine rl_alloc (met_none rfl) tZ24 rfl fun b8 => rl_own (L' := ([(b8, .cells #[.int .i64 0, .int .i64 0, .slice none 0 0] 24 (0, 0)), (b7, .cells #[.int .i64 0, .int .i64 0, .slice none 0 0] 24 (0, 0))] : Pcs) ++ (X4 ++ (X3 ++ []))) rfl ?_
  refine rl_store (met_none rfl) tS24 rfl (v := .agg #[.int .i64 10, .int .i64 4, w1]) rfl (i := 1) rfl rfl (ones_cons rfl (ones_cons rfl (ones_cons o5.one.2 rfl))) (Nat.le_of_ble_eq_true rfl) (cs2 := [.int .i64 10, .int .i64 4, w1]) rfl (rl_own (L' := ([(b8, .cells #[.int .i64 0, .int .i64 0, .slice none 0 0] 24 (0, 0)), (b7, .cells #[.int .i64 10, .int .i64 4, w1] 24 (0, 0))] : Pcs) ++ (X4 ++ (X3 ++ []))) rfl ?_)
  refine rl_store (met_none rfl) tS24 rfl (v := .agg #[.int .i64 10, .int .i64 5, w2]) rfl (i := 0) rfl rfl (ones_cons rfl (ones_cons rfl (ones_cons o6.one.2 rfl))) (Nat.le_of_ble_eq_true rfl) (cs2 := [.int .i64 10, .int .i64 5, w2]) rfl (rl_own (L' := ([(b8, .cells #[.int .i64 10, .int .i64 5, w2] 24 (0, 0)), (b7, .cells #[.int .i64 10, .int .i64 4, w1] 24 (0, 0))] : Pcs) ++ (X4 ++ (X3 ++ []))) rfl ?_)
  refine rl_end ?_
  refine fl_seq ?_
  refine rl_start ?_
  refine rl_det (met_none rfl) (fun h_ H_ => exd_loadN_own H_ tA24 tS24 rfl (i := 1) rfl (vs := [.int .i64 10, .int .i64 4, w1]) rfl rfl) (tm' := _::_::_::_::_::_::_::_::_::_::_::_::_::_::_::_::_::_::_::_::_::_::_::_::_::_) rfl ?_
  refine rl_buildO ([(b8, .cells #[.int .i64 10, .int .i64 5, w2] 24 (0, 0)), (b7, .cells #[.int .i64 10, .int .i64 4, w1] 24 (0, 0))] : Pcs) (met_none rfl) Try.underlying25 tS3 tZ3 (Nat.le_of_ble_eq_true rfl) (vs := [(0, .int .i64 5), (1, .int .i64 8), (2, .int .i64 3), (3, .int .i64 1)]) rfl rfl (es := [[.int .i64 5], [.int .i64 8], [.int .i64 3], [.int .i64 1]]) rfl rfl rfl fun v9 X10 o11 => ?_
  refine rl_perm (List.Perm.append_left _ (List.Perm.append_left _ (List.perm_append_comm_assoc _ _ _))) ?_
  refine rl_perm (List.Perm.append_left _ (List.perm_append_comm_assoc _ _ _)) ?_
  refine rl_own (L' := ([(b8, .cells #[.int .i64 10, .int .i64 5, w2] 24 (0, 0)), (b7, .cells #[.int .i64 10, .int .i64 4, w1] 24 (0, 0))] : Pcs) ++ (X3 ++ (X10 ++ (X4 ++ [])))) rfl ?_
  refine rl_lastN (A := ([(b8, .cells #[.int .i64 10, .int .i64 5, w2] 24 (0, 0)), (b7, .cells #[.int .i64 10, .int .i64 4, w1] 24 (0, 0))] : Pcs)) o5 (show _ = 4 from rfl) fun p12 a13 cp14 le15 ev_ D16 => ?_
  subst ev_
  refine rl_lastN (A := ([(b8, .cells #[.int .i64 10, .int .i64 5, w2] 24 (0, 0)), (b7, .cells #[.int .i64 10, .int .i64 4, .slice a13 4 cp14] 24 (0, 0))] : Pcs)) o11 (show _ = 4 from rfl) fun p17 a18 cp19 le20 ev_ D21 => ?_
  subst ev_
  refine rl_call (met_none rfl) (first := []) (cap := []) rfl rfl fC34 (R := fun v_ h_ => ∃ w22 : Value, ∃ w23 : Value, ∃ w24 : Value, ∃ X25 : Pcs, ∃ X26 : Pcs, ∃ X27 : Pcs, v_ = .tuple #[w22, w23, w24, .int .i64 0] ∧ (OwnS 3 1 w22 (ns (levs 10 4 (wantOf exC) (listOf ([5, 8, 3, 1]))) 4) X25) ∧ (OwnS 3 1 w23 (ns (lack 10 4 (wantOf exC) (listOf ([5, 8, 3, 1]))) 4) X26) ∧ (OwnS 3 1 w24 (ns (ovr 10 4 (wantOf exC) (listOf ([5, 8, 3, 1]))) 4) X27) ∧ St h [] p17 h_ (([(b8, .cells #[.int .i64 10, .int .i64 5, w2] 24 (0, 0)), (b7, .cells #[.int .i64 10, .int .i64 4, .slice a13 4 cp14] 24 (0, 0))] : Pcs) ++ ((X25 ++ (X26 ++ (X27 ++ []))) ++ (X4 ++ [])))) (fun h_ H_ => (c34ok (.main true) _ _ (fun b_ o_ e_ => H_.per b_ o_ e_) (10) (4) _ _ _ _ ((show Days _ _ _ exC from D16).mono le20) (by omega) _ _ _ _ (show Ints _ _ _ [5, 8, 3, 1] from D21) (by omega) (by decide +kernel) (by decide +kernel)).mono fun v_ h2_ ⟨w22, w23, w24, X25, X26, X27, e_, o28, o29, o30, N_⟩ => ⟨w22, w23, w24, X25, X26, X27, e_, o28, o29, o30, H_.callNA N_⟩) fun v_ => ?_
  refine rl_ex fun w22 => rl_ex fun w23 => rl_ex fun w24 => rl_ex fun X25 => rl_ex fun X26 => rl_ex fun X27 => rl_and fun ev_ => rl_and fun o28 => rl_and fun o29 => rl_and fun o30 => ?_
  have ev_ := ev_.symm; subst ev_
  refine rl_own (L' := ([(b8, .cells #[.int .i64 10, .int .i64 5, w2] 24 (0, 0)), (b7, .cells #[.int .i64 10, .int .i64 4, .slice a13 4 cp14] 24 (0, 0))] : Pcs) ++ (X25 ++ (X26 ++ (X27 ++ (X4 ++ []))))) (by simp) ?_
  refine rl_det (met_none rfl) (fun h_ H_ => exd_move (v := .tuple #[w22, w23, w24, .int .i64 0]) rfl) (tm' := _::_::_::_::_::_::_::_::_::_::_::_::_::_::_::_::_::_::_::_::_::_::_::_::_) rfl ?_
  refine rl_det (met_none rfl) (fun h_ H_ => exd_extract rfl (v := w22) rfl) rfl ?_
  refine rl_det (met_none rfl) (fun h_ H_ => exd_extract rfl (v := w23) rfl) rfl ?_
  refine rl_det (met_none rfl) (fun h_ H_ => exd_extract rfl (v := w24) rfl) (tm' := _::_::_::_::_::_::_::_::_::_::_::_::_::_::_::_::_::_::_::_::_::_::_::_::_::_::_::_::_::_::_) rfl ?_
  refine rl_det (met_none rfl) (fun h_ H_ => exd_extract rfl (v := .int .i64 0) rfl) rfl ?_
  refine rl_det (met_none rfl) (fun h_ H_ => exd_assign (v := w22) rfl) rfl ?_
  refine rl_det (met_none rfl) (fun h_ H_ => exd_assign (v := w23) rfl) (tm' := _::_::_::_::_::_) rfl ?_
  refine rl_det (met_none rfl) (fun h_ H_ => exd_assign (v := w24) rfl) rfl ?_
  refine rl_det (met_none rfl) (fun h_ H_ => exd_assign (v := .int .i64 0) rfl) rfl ?_
  refine rl_end ?_
  refine fl_seq ?_
  refine rl_start ?_
  refine rl_det (met_none rfl) (fun h_ H_ => exd_loadN_own H_ tA24 tS24 rfl (i := 1) rfl (vs := [.int .i64 10, .int .i64 4, .slice a13 4 cp14]) rfl rfl) (tm' := _::_::_::_::_::_::_::_::_::_::_::_::_::_::_::_::_::_::_::_::_::_::_::_::_::_::_::_::_::_::_::_::_::_) rfl ?_
  refine rl_calld (met_none rfl) (first := []) (cap := []) rfl rfl fC28 (fun h_ H_ => c28 _ _ (fun b_ o_ e_ => H_.per b_ o_ e_) (10) (4) _ _ _ _ ((show Days _ _ _ exC from D16).mono le20) (by omega) 1) rfl ?_
  refine rl_det (met_none rfl) (fun h_ H_ => exd_move (v := .tuple #[.agg #[.int .i64 ((levelR 10 4 exC 1).1.1), .int .i64 ((levelR 10 4 exC 1).1.2)], .int .i64 ((levelR 10 4 exC 1).2)]) rfl) rfl ?_
  refine rl_det (met_none rfl) (fun h_ H_ => exd_extract rfl (v := .agg #[.int .i64 ((levelR 10 4 exC 1).1.1), .int .i64 ((levelR 10 4 exC 1).1.2)]) rfl) (tm' := _::_::_::_::_::_::_::_::_::_::_::_::_::_::_::_::_::_::_::_::_::_::_::_::_::_::_::_::_::_::_::_::_::_::_::_) rfl ?_
  refine rl_det (met_none rfl) (fun h_ H_ => exd_extract rfl (v := .int .i64 ((levelR 10 4 exC 1).2)) rfl) rfl ?_
  refine rl_alloc (met_none rfl) tZ36 rfl fun b31 => rl_own (L' := ([(b31, .cells #[.int .i64 0, .int .i64 0] 36 (0, 0)), (b8, .cells #[.int .i64 10, .int .i64 5, w2] 24 (0, 0)), (b7, .cells #[.int .i64 10, .int .i64 4, .slice a13 4 cp14] 24 (0, 0))] : Pcs) ++ (X25 ++ (X26 ++ (X27 ++ (X4 ++ []))))) rfl ?_
  refine rl_store (met_none rfl) tS36 rfl (v := .agg #[.int .i64 ((levelR 10 4 exC 1).1.1), .int .i64 ((levelR 10 4 exC 1).1.2)]) rfl (i := 0) rfl rfl rfl (Nat.le_of_ble_eq_true rfl) (cs2 := [.int .i64 ((levelR 10 4 exC 1).1.1), .int .i64 ((levelR 10 4 exC 1).1.2)]) rfl (rl_own (L' := ([(b31, .cells #[.int .i64 ((levelR 10 4 exC 1).1.1), .int .i64 ((levelR 10 4 exC 1).1.2)] 36 (0, 0)), (b8, .cells #[.int .i64 10, .int .i64 5, w2] 24 (0, 0)), (b7, .cells #[.int .i64 10, .int .i64 4, .slice a13 4 cp14] 24 (0, 0))] : Pcs) ++ (X25 ++ (X26 ++ (X27 ++ (X4 ++ []))))) rfl ?_)
  refine rl_det (met_none rfl) (fun h_ H_ => exd_assign (v := .int .i64 ((levelR 10 4 exC 1).2)) rfl) (tm' := _::_::_::_::_::_::_::_::_::_) rfl ?_
  refine rl_end ?_
  refine fl_seq ?_
  refine rl_start ?_
  refine rl_det (met_none rfl) (fun h_ H_ => exd_loadN_own H_ tA24 tS24 rfl (i := 2) rfl (vs := [.int .i64 10, .int .i64 4, .slice a13 4 cp14]) rfl rfl) rfl ?_
  refine rl_calld (met_none rfl) (first := []) (cap := []) rfl rfl fC43 (fun h_ H_ => c43 _ _ (fun b_ o_ e_ => H_.per b_ o_ e_) (10) (4) _ _ _ _ ((show Days _ _ _ exC from D16).mono le20) (by omega) 3) rfl ?_
  refine rl_det (met_none rfl) (fun h_ H_ => exd_move (v := .tuple #[.agg #[.int .i64 ((overR 10 4 exC 3).1.1), .int .i64 ((overR 10 4 exC 3).1.2)], .int .i64 ((overR 10 4 exC 3).2)]) rfl) (tm' := _::_::_::_::_::_::_::_::_::_::_::_::_::_::_::_::_::_::_::_::_::_::_::_::_::_::_::_::_::_::_::_::_::_::_::_::_::_) rfl ?_
  refine rl_det (met_none rfl) (fun h_ H_ => exd_extract rfl (v := .agg #[.int .i64 ((overR 10 4 exC 3).1.1), .int .i64 ((overR 10 4 exC 3).1.2)]) rfl) rfl ?_
  refine rl_det (met_none rfl) (fun h_ H_ => exd_extract rfl (v := .int .i64 ((overR 10 4 exC 3).2)) rfl) rfl ?_
  refine rl_alloc (met_none rfl) tZ36 rfl fun b32 => rl_own (L' := ([(b32, .cells #[.int .i64 0, .int .i64 0] 36 (0, 0)), (b31, .cells #[.int .i64 ((levelR 10 4 exC 1).1.1), .int .i64 ((levelR 10 4 exC 1).1.2)] 36 (0, 0)), (b8, .cells #[.int .i64 10, .int .i64 5, w2] 24 (0, 0)), (b7, .cells #[.int .i64 10, .int .i64 4, .slice a13 4 cp14] 24 (0, 0))] : Pcs) ++ (X25 ++ (X26 ++ (X27 ++ (X4 ++ []))))) rfl ?_
  refine rl_norm (tm' := _::_::_::_::_::_::_::_::_::_::_) rfl ?_
  refine rl_store (met_none rfl) tS36 rfl (v := .agg #[.int .i64 ((overR 10 4 exC 3).1.1), .int .i64 ((overR 10 4 exC 3).1.2)]) rfl (i := 0) rfl rfl rfl (Nat.le_of_ble_eq_true rfl) (cs2 := [.int .i64 ((overR 10 4 exC 3).1.1), .int .i64 ((overR 10 4 exC 3).1.2)]) rfl (rl_own (L' := ([(b32, .cells #[.int .i64 ((overR 10 4 exC 3).1.1), .int .i64 ((overR 10 4 exC 3).1.2)] 36 (0, 0)), (b31, .cells #[.int .i64 ((levelR 10 4 exC 1).1.1), .int .i64 ((levelR 10 4 exC 1).1.2)] 36 (0, 0)), (b8, .cells #[.int .i64 10, .int .i64 5, w2] 24 (0, 0)), (b7, .cells #[.int .i64 10, .int .i64 4, .slice a13 4 cp14] 24 (0, 0))] : Pcs) ++ (X25 ++ (X26 ++ (X27 ++ (X4 ++ []))))) rfl ?_)
  refine rl_det (met_none rfl) (fun h_ H_ => exd_assign (v := .int .i64 ((overR 10 4 exC 3).2)) rfl) rfl ?_
  refine rl_end ?_
  refine fl_seq ?_
  refine rl_start ?_
  refine rl_det (met_none rfl) (fun h_ H_ => exd_loadN_own H_ tA24 tS24 rfl (i := 3) rfl (vs := [.int .i64 10, .int .i64 4, .slice a13 4 cp14]) rfl rfl) rfl ?_
  refine rl_calld (met_none rfl) (first := []) (cap := []) rfl rfl fC55 (fun h_ H_ => c55 _ _ (fun b_ o_ e_ => H_.per b_ o_ e_) (10) (4) _ _ _ _ ((show Days _ _ _ exC from D16).mono le20) (by omega)) (tm' := _::_::_::_::_::_::_::_::_::_::_::_::_::_::_::_::_::_::_::_::_::_::_::_::_::_::_::_::_::_::_::_::_::_::_::_::_::_::_::_::_::_::_::_::_) rfl ?_
  refine rl_det (met_none rfl) (fun h_ H_ => exd_move (v := .tuple #[.int .i64 ((dryR 10 4 exC).1), .int .i64 ((dryR 10 4 exC).2)]) rfl) rfl ?_
  refine rl_det (met_none rfl) (fun h_ H_ => exd_extract rfl (v := .int .i64 ((dryR 10 4 exC).1)) rfl) rfl ?_
  refine rl_det (met_none rfl) (fun h_ H_ => exd_extract rfl (v := .int .i64 ((dryR 10 4 exC).2)) rfl) (tm' := _::_::_::_::_::_::_::_::_::_::_::_::_::_::_::_::_::_::_::_::_::_::_::_::_::_::_::_::_::_::_::_::_::_::_::_::_::_::_::_::_::_::_::_::_::_::_) rfl ?_
  refine rl_det (met_none rfl) (fun h_ H_ => exd_assign (v := .int .i64 ((dryR 10 4 exC).1)) rfl) rfl ?_
  refine rl_det (met_none rfl) (fun h_ H_ => exd_assign (v := .int .i64 ((dryR 10 4 exC).2)) rfl) rfl ?_
  refine rl_end ?_
  refine fl_seq ?_
  refine rl_start ?_
  refine rl_det (met_none rfl) (fun h_ H_ => exd_loadN_own H_ tA24 tS24 rfl (i := 3) rfl (vs := [.int .i64 10, .int .i64 4, .slice a13 4 cp14]) rfl rfl) (tm' := _::_::_::_::_::_::_::_::_::_::_::_::_::_::_::_::_::_::_::_::_::_::_::_::_::_::_::_::_::_::_::_::_::_::_::_::_::_::_::_::_::_::_::_::_::_::_::_::_) rfl ?_
  refine rl_calld (met_none rfl) (first := []) (cap := []) rfl rfl fC23 (fun h_ H_ => c23 (.main true) _ _ (fun b_ o_ e_ => H_.per b_ o_ e_) (10) (4) _ _ _ _ ((show Days _ _ _ exC from D16).mono le20) (by omega)) rfl ?_
  refine rl_det (met_none rfl) (fun h_ H_ => exd_move (v := .tuple #[.int .i64 ((if Ok 10 4 exC then ratDown 10 4 exC 20 else 0)), .int .i64 ((chk 10 4 exC))]) rfl) rfl ?_
  refine rl_det (met_none rfl) (fun h_ H_ => exd_extract rfl (v := .int .i64 ((if Ok 10 4 exC then ratDown 10 4 exC 20 else 0))) rfl) (tm' := _::_::_::_::_::_::_::_::_::_::_::_::_::_::_::_::_::_::_::_::_::_::_::_::_::_::_::_::_::_::_::_::_::_::_::_::_::_::_::_::_::_::_::_::_::_::_::_::_::_::_) rfl ?_
  refine rl_det (met_none rfl) (fun h_ H_ => exd_extract rfl (v := .int .i64 ((chk 10 4 exC))) rfl) rfl ?_
  refine rl_det (met_none rfl) (fun h_ H_ => exd_assign (v := .int .i64 ((if Ok 10 4 exC then ratDown 10 4 exC 20 else 0))) rfl) rfl ?_
  refine rl_det (met_none rfl) (fun h_ H_ => exd_assign (v := .int .i64 ((chk 10 4 exC))) rfl) (tm' := _::_::_::_::_::_::_::_::_::_::_::_::_::_::_::_) rfl ?_
  refine rl_end ?_
  refine fl_seq ?_
  refine rl_start ?_
  refine rl_det (met_none rfl) (fun h_ H_ => exd_loadN_own H_ tA24 tS24 rfl (i := 2) rfl (vs := [.int .i64 10, .int .i64 5, w2]) rfl rfl) rfl ?_
  refine rl_perm (List.Perm.append_left _ (List.Perm.append_left _ (List.Perm.append_left _ (List.perm_append_comm_assoc _ _ _)))) ?_
  refine rl_perm (List.Perm.append_left _ (List.Perm.append_left _ (List.perm_append_comm_assoc _ _ _))) ?_
  refine rl_perm (List.Perm.append_left _ (List.perm_append_comm_assoc _ _ _)) ?_
  refine rl_own (L' := ([(b32, .cells #[.int .i64 ((overR 10 4 exC 3).1.1), .int .i64 ((overR 10 4 exC 3).1.2)] 36 (0, 0)), (b31, .cells #[.int .i64 ((levelR 10 4 exC 1).1.1), .int .i64 ((levelR 10 4 exC 1).1.2)] 36 (0, 0)), (b8, .cells #[.int .i64 10, .int .i64 5, w2] 24 (0, 0)), (b7, .cells #[.int .i64 10, .int .i64 4, .slice a13 4 cp14] 24 (0, 0))] : Pcs) ++ (X4 ++ (X25 ++ (X26 ++ (X27 ++ []))))) rfl ?_
  refine rl_lastN (A := ([(b32, .cells #[.int .i64 ((overR 10 4 exC 3).1.1), .int .i64 ((overR 10 4 exC 3).1.2)] 36 (0, 0)), (b31, .cells #[.int .i64 ((levelR 10 4 exC 1).1.1), .int .i64 ((levelR 10 4 exC 1).1.2)] 36 (0, 0)), (b8, .cells #[.int .i64 10, .int .i64 5, w2] 24 (0, 0)), (b7, .cells #[.int .i64 10, .int .i64 4, .slice a13 4 cp14] 24 (0, 0))] : Pcs)) o6 (show _ = 4 from rfl) fun p33 a34 cp35 le36 ev_ D37 => ?_
  subst ev_
  refine rl_calld (met_none rfl) (first := []) (cap := []) rfl rfl fC45 (fun h_ H_ => c45 (.main true) _ _ (fun b_ o_ e_ => H_.per b_ o_ e_) (10) (5) _ _ _ _ (show Days _ _ _ exD from D37) (by omega)) rfl ?_
  refine rl_det (met_none rfl) (fun h_ H_ => exd_move (v := .tuple #[.int .i64 ((sizeR 10 5 exD).1), .int .i64 ((sizeR 10 5 exD).2)]) rfl) (tm' := _::_::_::_::_::_::_::_::_::_::_::_::_::_::_::_::_::_::_::_::_::_::_::_::_::_::_::_::_::_::_::_::_::_::_::_::_::_::_::_::_::_::_::_::_::_::_::_::_::_::_::_::_) rfl ?_
  refine rl_det (met_none rfl) (fun h_ H_ => exd_extract rfl (v := .int .i64 ((sizeR 10 5 exD).1)) rfl) rfl ?_
  refine rl_det (met_none rfl) (fun h_ H_ => exd_extract rfl (v := .int .i64 ((sizeR 10 5 exD).2)) rfl) rfl ?_
  refine rl_det (met_none rfl) (fun h_ H_ => exd_assign (v := .int .i64 ((sizeR 10 5 exD).1)) rfl) (tm' := _::_::_::_::_::_::_::_::_::_::_::_::_::_::_::_::_) rfl ?_
  refine rl_det (met_none rfl) (fun h_ H_ => exd_assign (v := .int .i64 ((sizeR 10 5 exD).2)) rfl) rfl ?_
  refine rl_end ?_
  refine fl_seq ?_
  refine rl_start ?_
  refine rl_det (met_none rfl) (fun h_ H_ => exd_loadN_own H_ tA24 tS24 rfl (i := 2) rfl (vs := [.int .i64 10, .int .i64 5, .slice a34 4 cp35]) rfl rfl) rfl ?_
  refine rl_calld (met_none rfl) (first := []) (cap := []) rfl rfl fC27 (fun h_ H_ => c27 (.main true) _ _ (fun b_ o_ e_ => H_.per b_ o_ e_) (10) (5) _ _ _ _ (show Days _ _ _ exD from D37) (by omega) 3) (tm' := _::_::_::_::_::_::_::_::_::_::_::_::_::_::_::_::_::_::_::_::_::_::_::_::_::_::_::_::_::_::_::_::_::_::_::_::_::_::_::_::_::_::_::_::_::_::_::_::_::_::_::_::_::_::_::_::_::_::_::_) rfl ?_
  refine rl_det (met_none rfl) (fun h_ H_ => exd_move (v := .tuple #[.int .i64 ((spareR 10 5 exD 3).1), .int .i64 ((spareR 10 5 exD 3).2)]) rfl) rfl ?_
  refine rl_det (met_none rfl) (fun h_ H_ => exd_extract rfl (v := .int .i64 ((spareR 10 5 exD 3).1)) rfl) rfl ?_
  refine rl_det (met_none rfl) (fun h_ H_ => exd_extract rfl (v := .int .i64 ((spareR 10 5 exD 3).2)) rfl) (tm' := _::_::_::_::_::_::_::_::_::_::_::_::_::_::_::_::_::_::_::_::_::_::_::_::_::_::_::_::_::_::_::_::_::_::_::_::_::_::_::_::_::_::_::_::_::_::_::_::_::_::_::_::_::_::_::_::_::_::_::_::_::_) rfl ?_
  refine rl_det (met_none rfl) (fun h_ H_ => exd_assign (v := .int .i64 ((spareR 10 5 exD 3).1)) rfl) rfl ?_
  refine rl_det (met_none rfl) (fun h_ H_ => exd_assign (v := .int .i64 ((spareR 10 5 exD 3).2)) rfl) rfl ?_
  refine rl_end ?_
  refine fl_seq ?_
  refine rl_start ?_
  refine rl_det (met_none rfl) (fun h_ H_ => exd_move (v := .int .i64 0) rfl) (tm' := _::_::_::_::_::_::_::_::_::_::_::_::_::_::_::_::_::_::_::_::_::_::_::_::_::_::_::_::_::_::_::_::_::_::_::_::_::_::_::_::_::_::_::_::_::_::_::_::_::_::_::_::_::_::_::_::_::_::_::_::_::_::_) rfl ?_
  refine rl_det (met_none rfl) (fun h_ H_ => exd_eql rfl rfl) rfl ?_
  refine rl_det (met_none rfl) (fun h_ H_ => exd_move (v := .bool (decide ((0 : Int) = 0))) rfl) rfl ?_
  refine rl_det (met_some rfl rfl (decide_eq_true (by decide +kernel))) (fun h_ H_ => exd_move (v := .int .i64 ((levelR 10 4 exC 1).2)) rfl) (tm' := _::_::_::_::_::_::_::_::_::_::_::_::_::_::_::_::_::_::_::_::_::_::_::_::_::_::_::_::_::_::_::_::_::_::_::_::_::_::_::_::_::_::_::_::_::_::_::_::_::_::_::_::_::_::_::_::_::_::_::_::_::_::_::_::_::_) rfl ?_
  refine rl_det (met_some rfl rfl (decide_eq_true (by decide +kernel))) (fun h_ H_ => exd_eql rfl rfl) rfl ?_
  refine rl_det (met_none rfl) (fun h_ H_ => exd_pick_t rfl (decide_eq_true (by decide +kernel)) (v := .bool (decide ((levelR 10 4 exC 1).2 = 0))) rfl) rfl ?_
  refine rl_det (met_none rfl) (fun h_ H_ => exd_move (v := .bool (decide ((levelR 10 4 exC 1).2 = 0))) rfl) (tm' := _::_::_::_::_::_::_::_::_::_::_::_::_::_::_::_::_::_::_::_::_::_::_::_::_::_::_::_::_::_::_::_::_::_::_::_::_::_::_::_::_::_::_::_::_::_::_::_::_::_::_::_::_::_::_::_::_::_::_::_::_::_::_::_::_::_::_::_::_) rfl ?_
  refine rl_det (met_some rfl rfl (decide_eq_true (by decide +kernel))) (fun h_ H_ => exd_move (v := .int .i64 ((overR 10 4 exC 3).2)) rfl) rfl ?_
  refine rl_det (met_some rfl rfl (decide_eq_true (by decide +kernel))) (fun h_ H_ => exd_eql rfl rfl) rfl ?_
  refine rl_det (met_none rfl) (fun h_ H_ => exd_pick_t rfl (decide_eq_true (by decide +kernel)) (v := .bool (decide ((overR 10 4 exC 3).2 = 0))) rfl) (tm' := _::_::_::_::_::_::_::_::_::_::_::_::_::_::_::_::_::_::_::_::_::_::_::_::_::_::_::_::_::_::_::_::_::_::_::_::_::_::_::_::_::_::_::_::_::_::_::_::_::_::_::_::_::_::_::_::_::_::_::_::_::_::_::_::_::_::_::_::_::_::_::_) rfl ?_
  refine rl_det (met_none rfl) (fun h_ H_ => exd_move (v := .bool (decide ((overR 10 4 exC 3).2 = 0))) rfl) rfl ?_
  refine rl_det (met_some rfl rfl (decide_eq_true (by decide +kernel))) (fun h_ H_ => exd_move (v := .int .i64 ((dryR 10 4 exC).2)) rfl) rfl ?_
  refine rl_det (met_some rfl rfl (decide_eq_true (by decide +kernel))) (fun h_ H_ => exd_eql rfl rfl) (tm' := _::_::_::_::_::_::_::_::_::_::_::_::_::_::_::_::_::_::_::_::_::_::_::_::_::_::_::_::_::_::_::_::_::_::_::_::_::_::_::_::_::_::_::_::_::_::_::_::_::_::_::_::_::_::_::_::_::_::_::_::_::_::_::_::_::_::_::_::_::_::_::_::_::_::_) rfl ?_
  refine rl_det (met_none rfl) (fun h_ H_ => exd_pick_t rfl (decide_eq_true (by decide +kernel)) (v := .bool (decide ((dryR 10 4 exC).2 = 0))) rfl) rfl ?_
  refine rl_det (met_none rfl) (fun h_ H_ => exd_move (v := .bool (decide ((dryR 10 4 exC).2 = 0))) rfl) rfl ?_
  refine rl_det (met_some rfl rfl (decide_eq_true (by decide +kernel))) (fun h_ H_ => exd_move (v := .int .i64 ((chk 10 4 exC))) rfl) (tm' := _::_::_::_::_::_::_::_::_::_::_::_::_::_::_::_::_::_::_::_::_::_::_::_::_::_::_::_::_::_::_::_::_::_::_::_::_::_::_::_::_::_::_::_::_::_::_::_::_::_::_::_::_::_::_::_::_::_::_::_::_::_::_::_::_::_::_::_::_::_::_::_::_::_::_::_::_::_) rfl ?_
  refine rl_det (met_some rfl rfl (decide_eq_true (by decide +kernel))) (fun h_ H_ => exd_eql rfl rfl) rfl ?_
  refine rl_det (met_none rfl) (fun h_ H_ => exd_pick_t rfl (decide_eq_true (by decide +kernel)) (v := .bool (decide ((chk 10 4 exC) = 0))) rfl) rfl ?_
  refine rl_det (met_none rfl) (fun h_ H_ => exd_move (v := .bool (decide ((chk 10 4 exC) = 0))) rfl) (tm' := _::_::_::_::_::_::_::_::_::_::_::_::_::_::_::_::_::_::_::_::_::_::_::_::_::_::_::_::_::_::_::_::_::_::_::_::_::_::_::_::_::_::_::_::_::_::_::_::_::_::_::_::_::_::_::_::_::_::_::_::_::_::_::_::_::_::_::_::_::_::_::_::_::_::_::_::_::_::_::_::_) rfl ?_
  refine rl_det (met_some rfl rfl (decide_eq_true (by decide +kernel))) (fun h_ H_ => exd_move (v := .int .i64 ((sizeR 10 5 exD).2)) rfl) rfl ?_
  refine rl_det (met_some rfl rfl (decide_eq_true (by decide +kernel))) (fun h_ H_ => exd_eql rfl rfl) rfl ?_
  refine rl_det (met_none rfl) (fun h_ H_ => exd_pick_t rfl (decide_eq_true (by decide +kernel)) (v := .bool (decide ((sizeR 10 5 exD).2 = 0))) rfl) (tm' := _::_::_::_::_::_::_::_::_::_::_::_::_::_::_::_::_::_::_::_::_::_::_::_::_::_::_::_::_::_::_::_::_::_::_::_::_::_::_::_::_::_::_::_::_::_::_::_::_::_::_::_::_::_::_::_::_::_::_::_::_::_::_::_::_::_::_::_::_::_::_::_::_::_::_::_::_::_::_::_::_::_::_::_) rfl ?_
  refine rl_det (met_none rfl) (fun h_ H_ => exd_move (v := .bool (decide ((sizeR 10 5 exD).2 = 0))) rfl) rfl ?_
  refine rl_det (met_some rfl rfl (decide_eq_true (by decide +kernel))) (fun h_ H_ => exd_move (v := .int .i64 ((spareR 10 5 exD 3).2)) rfl) rfl ?_
  refine rl_det (met_some rfl rfl (decide_eq_true (by decide +kernel))) (fun h_ H_ => exd_eql rfl rfl) (tm' := [_,_,_,_,_,_,_,_,_,_,_,_,_,_,_,_,_,_,_,_,_,_,_,_,_,_,_,_,_,_,_,_,_,_,_,_,_,_,_,_,_,_,_,_,_,_,_,_,_,_,_,_,_,_,_,_,_,_,_,_,_,_,_,_,_,_,_,_,_,_,_,_,_,_,_,_,_,_,_,_,_,_,_,_,_,_,_,_,_,_,_,_,_,_,_,_,_,_,_,_,_,_,_,_,_,_,_,_,_,_,_,_,_,_,_,_,_,_,_,_,_,_,_,_,_,_,_,_]) rfl ?_
  refine rl_det (met_none rfl) (fun h_ H_ => exd_pick_t rfl (decide_eq_true (by decide +kernel)) (v := .bool (decide ((spareR 10 5 exD 3).2 = 0))) rfl) rfl ?_
  refine rl_det (met_none rfl) (fun h_ H_ => exd_move (v := .bool (decide ((spareR 10 5 exD 3).2 = 0))) rfl) rfl ?_
  refine rl_det (met_some rfl rfl (decide_eq_true (by decide +kernel))) (fun h_ H_ => exd_move (v := w22) rfl) (tm' := [_,_,_,_,_,_,_,_,_,_,_,_,_,_,_,_,_,_,_,_,_,_,_,_,_,_,_,_,_,_,_,_,_,_,_,_,_,_,_,_,_,_,_,_,_,_,_,_,_,_,_,_,_,_,_,_,_,_,_,_,_,_,_,_,_,_,_,_,_,_,_,_,_,_,_,_,_,_,_,_,_,_,_,_,_,_,_,_,_,_,_,_,_,_,_,_,_,_,_,_,_,_,_,_,_,_,_,_,_,_,_,_,_,_,_,_,_,_,_,_,_,_,_,_,_,_,_,_]) rfl ?_
  refine rl_buildO ([(b32, .cells #[.int .i64 ((overR 10 4 exC 3).1.1), .int .i64 ((overR 10 4 exC 3).1.2)] 36 (0, 0)), (b31, .cells #[.int .i64 ((levelR 10 4 exC 1).1.1), .int .i64 ((levelR 10 4 exC 1).1.2)] 36 (0, 0)), (b8, .cells #[.int .i64 10, .int .i64 5, .slice a34 4 cp35] 24 (0, 0)), (b7, .cells #[.int .i64 10, .int .i64 4, .slice a13 4 cp14] 24 (0, 0))] : Pcs) (met_some rfl rfl (decide_eq_true (by decide +kernel))) Try.underlying25 tS3 tZ3 (Nat.le_of_ble_eq_true rfl) (vs := [(0, .int .i64 5), (1, .int .i64 4), (2, .int .i64 5), (3, .int .i64 1)]) rfl rfl (es := [[.int .i64 5], [.int .i64 4], [.int .i64 5], [.int .i64 1]]) rfl rfl rfl fun v38 X39 o40 => ?_
  refine rl_perm (List.Perm.append_left _ (List.perm_append_comm_assoc _ _ _)) ?_
  refine rl_own (L' := ([(b32, .cells #[.int .i64 ((overR 10 4 exC 3).1.1), .int .i64 ((overR 10 4 exC 3).1.2)] 36 (0, 0)), (b31, .cells #[.int .i64 ((levelR 10 4 exC 1).1.1), .int .i64 ((levelR 10 4 exC 1).1.2)] 36 (0, 0)), (b8, .cells #[.int .i64 10, .int .i64 5, .slice a34 4 cp35] 24 (0, 0)), (b7, .cells #[.int .i64 10, .int .i64 4, .slice a13 4 cp14] 24 (0, 0))] : Pcs) ++ (X25 ++ (X39 ++ (X26 ++ (X27 ++ []))))) rfl ?_
  refine rl_lastN (A := ([(b32, .cells #[.int .i64 ((overR 10 4 exC 3).1.1), .int .i64 ((overR 10 4 exC 3).1.2)] 36 (0, 0)), (b31, .cells #[.int .i64 ((levelR 10 4 exC 1).1.1), .int .i64 ((levelR 10 4 exC 1).1.2)] 36 (0, 0)), (b8, .cells #[.int .i64 10, .int .i64 5, .slice a34 4 cp35] 24 (0, 0)), (b7, .cells #[.int .i64 10, .int .i64 4, .slice a13 4 cp14] 24 (0, 0))] : Pcs)) o28 (ns_length _ _) fun p41 a42 cp43 le44 ev_ D45 => ?_
  subst ev_
  refine rl_lastN (A := ([(b32, .cells #[.int .i64 ((overR 10 4 exC 3).1.1), .int .i64 ((overR 10 4 exC 3).1.2)] 36 (0, 0)), (b31, .cells #[.int .i64 ((levelR 10 4 exC 1).1.1), .int .i64 ((levelR 10 4 exC 1).1.2)] 36 (0, 0)), (b8, .cells #[.int .i64 10, .int .i64 5, .slice a34 4 cp35] 24 (0, 0)), (b7, .cells #[.int .i64 10, .int .i64 4, .slice a13 4 cp14] 24 (0, 0))] : Pcs)) o40 (show _ = 4 from rfl) fun p46 a47 cp48 le49 ev_ D50 => ?_
  subst ev_
  refine rl_calld (met_some rfl rfl (decide_eq_true (by decide +kernel))) (first := []) (cap := []) rfl rfl fC36 (fun h_ H_ => c36 (.main true) _ _ (fun b_ o_ e_ => H_.per b_ o_ e_) _ _ _ _ _ _ _ _ ((show Ints _ _ _ (nums (levs 10 4 (wantOf exC) (listOf ([5, 8, 3, 1]))) 4) from D45).mono le49) (show Ints _ _ _ [5, 4, 5, 1] from D50) (by omega)) rfl ?_
  refine rl_det (met_none rfl) (fun h_ H_ => exd_pick_t rfl (decide_eq_true (by decide +kernel)) (v := .bool (decide ((nums (levs 10 4 (wantOf exC) (listOf ([5, 8, 3, 1]))) 4) = [5, 4, 5, 1]))) rfl) (tm' := [_,_,_,_,_,_,_,_,_,_,_,_,_,_,_,_,_,_,_,_,_,_,_,_,_,_,_,_,_,_,_,_,_,_,_,_,_,_,_,_,_,_,_,_,_,_,_,_,_,_,_,_,_,_,_,_,_,_,_,_,_,_,_,_,_,_,_,_,_,_,_,_,_,_,_,_,_,_,_,_,_,_,_,_,_,_,_,_,_,_,_,_,_,_,_,_,_,_,_,_,_,_,_,_,_,_,_,_,_,_,_,_,_,_,_,_,_,_,_,_,_,_,_,_,_,_,_,_]) rfl ?_
  refine rl_det (met_none rfl) (fun h_ H_ => exd_move (v := .bool (decide ((nums (levs 10 4 (wantOf exC) (listOf ([5, 8, 3, 1]))) 4) = [5, 4, 5, 1]))) rfl) rfl ?_
  refine rl_det (met_some rfl rfl (decide_eq_true (by decide +kernel))) (fun h_ H_ => exd_move (v := w23) rfl) rfl ?_
  refine rl_buildO ([(b32, .cells #[.int .i64 ((overR 10 4 exC 3).1.1), .int .i64 ((overR 10 4 exC 3).1.2)] 36 (0, 0)), (b31, .cells #[.int .i64 ((levelR 10 4 exC 1).1.1), .int .i64 ((levelR 10 4 exC 1).1.2)] 36 (0, 0)), (b8, .cells #[.int .i64 10, .int .i64 5, .slice a34 4 cp35] 24 (0, 0)), (b7, .cells #[.int .i64 10, .int .i64 4, .slice a13 4 cp14] 24 (0, 0))] : Pcs) (met_some rfl rfl (decide_eq_true (by decide +kernel))) Try.underlying25 tS3 tZ3 (Nat.le_of_ble_eq_true rfl) (vs := [(0, .int .i64 0), (1, .int .i64 0), (2, .int .i64 0), (3, .int .i64 0)]) rfl rfl (es := [[.int .i64 0], [.int .i64 0], [.int .i64 0], [.int .i64 0]]) rfl rfl rfl fun v51 X52 o53 => ?_
  refine rl_norm (tm' := [_,_,_,_,_,_,_,_,_,_,_,_,_,_,_,_,_,_,_,_,_,_,_,_,_,_,_,_,_,_,_,_,_,_,_,_,_,_,_,_,_,_,_,_,_,_,_,_,_,_,_,_,_,_,_,_,_,_,_,_,_,_,_,_,_,_,_,_,_,_,_,_,_,_,_,_,_,_,_,_,_,_,_,_,_,_,_,_,_,_,_,_,_,_,_,_,_,_,_,_,_,_,_,_,_,_,_,_,_,_,_,_,_,_,_,_,_,_,_,_,_,_,_,_,_,_,_,_]) rfl ?_
  refine rl_perm (List.Perm.append_left _ (List.perm_append_comm_assoc _ _ _)) ?_
  refine rl_own (L' := ([(b32, .cells #[.int .i64 ((overR 10 4 exC 3).1.1), .int .i64 ((overR 10 4 exC 3).1.2)] 36 (0, 0)), (b31, .cells #[.int .i64 ((levelR 10 4 exC 1).1.1), .int .i64 ((levelR 10 4 exC 1).1.2)] 36 (0, 0)), (b8, .cells #[.int .i64 10, .int .i64 5, .slice a34 4 cp35] 24 (0, 0)), (b7, .cells #[.int .i64 10, .int .i64 4, .slice a13 4 cp14] 24 (0, 0))] : Pcs) ++ (X26 ++ (X52 ++ (X27 ++ [])))) rfl ?_
  refine rl_lastN (A := ([(b32, .cells #[.int .i64 ((overR 10 4 exC 3).1.1), .int .i64 ((overR 10 4 exC 3).1.2)] 36 (0, 0)), (b31, .cells #[.int .i64 ((levelR 10 4 exC 1).1.1), .int .i64 ((levelR 10 4 exC 1).1.2)] 36 (0, 0)), (b8, .cells #[.int .i64 10, .int .i64 5, .slice a34 4 cp35] 24 (0, 0)), (b7, .cells #[.int .i64 10, .int .i64 4, .slice a13 4 cp14] 24 (0, 0))] : Pcs)) o29 (ns_length _ _) fun p54 a55 cp56 le57 ev_ D58 => ?_
  subst ev_
  refine rl_lastN (A := ([(b32, .cells #[.int .i64 ((overR 10 4 exC 3).1.1), .int .i64 ((overR 10 4 exC 3).1.2)] 36 (0, 0)), (b31, .cells #[.int .i64 ((levelR 10 4 exC 1).1.1), .int .i64 ((levelR 10 4 exC 1).1.2)] 36 (0, 0)), (b8, .cells #[.int .i64 10, .int .i64 5, .slice a34 4 cp35] 24 (0, 0)), (b7, .cells #[.int .i64 10, .int .i64 4, .slice a13 4 cp14] 24 (0, 0))] : Pcs)) o53 (show _ = 4 from rfl) fun p59 a60 cp61 le62 ev_ D63 => ?_
  subst ev_
  refine rl_calld (met_some rfl rfl (decide_eq_true (by decide +kernel))) (first := []) (cap := []) rfl rfl fC36 (fun h_ H_ => c36 (.main true) _ _ (fun b_ o_ e_ => H_.per b_ o_ e_) _ _ _ _ _ _ _ _ ((show Ints _ _ _ (nums (lack 10 4 (wantOf exC) (listOf ([5, 8, 3, 1]))) 4) from D58).mono le62) (show Ints _ _ _ [0, 0, 0, 0] from D63) (by omega)) rfl ?_
  refine rl_det (met_none rfl) (fun h_ H_ => exd_pick_t rfl (decide_eq_true (by decide +kernel)) (v := .bool (decide ((nums (lack 10 4 (wantOf exC) (listOf ([5, 8, 3, 1]))) 4) = [0, 0, 0, 0]))) rfl) rfl ?_
  refine rl_det (met_none rfl) (fun h_ H_ => exd_move (v := .bool (decide ((nums (lack 10 4 (wantOf exC) (listOf ([5, 8, 3, 1]))) 4) = [0, 0, 0, 0]))) rfl) (tm' := [_,_,_,_,_,_,_,_,_,_,_,_,_,_,_,_,_,_,_,_,_,_,_,_,_,_,_,_,_,_,_,_,_,_,_,_,_,_,_,_,_,_,_,_,_,_,_,_,_,_,_,_,_,_,_,_,_,_,_,_,_,_,_,_,_,_,_,_,_,_,_,_,_,_,_,_,_,_,_,_,_,_,_,_,_,_,_,_,_,_,_,_,_,_,_,_,_,_,_,_,_,_,_,_,_,_,_,_,_,_,_,_,_,_,_,_,_,_,_,_,_,_,_,_,_,_,_,_]) rfl ?_
  refine rl_det (met_some rfl rfl (decide_eq_true (by decide +kernel))) (fun h_ H_ => exd_move (v := w24) rfl) rfl ?_
  refine rl_buildO ([(b32, .cells #[.int .i64 ((overR 10 4 exC 3).1.1), .int .i64 ((overR 10 4 exC 3).1.2)] 36 (0, 0)), (b31, .cells #[.int .i64 ((levelR 10 4 exC 1).1.1), .int .i64 ((levelR 10 4 exC 1).1.2)] 36 (0, 0)), (b8, .cells #[.int .i64 10, .int .i64 5, .slice a34 4 cp35] 24 (0, 0)), (b7, .cells #[.int .i64 10, .int .i64 4, .slice a13 4 cp14] 24 (0, 0))] : Pcs) (met_some rfl rfl (decide_eq_true (by decide +kernel))) Try.underlying25 tS3 tZ3 (Nat.le_of_ble_eq_true rfl) (vs := [(0, .int .i64 0), (1, .int .i64 3), (2, .int .i64 0), (3, .int .i64 0)]) rfl rfl (es := [[.int .i64 0], [.int .i64 3], [.int .i64 0], [.int .i64 0]]) rfl rfl rfl fun v64 X65 o66 => ?_
  refine rl_perm (List.Perm.append_left _ (List.perm_append_comm_assoc _ _ _)) ?_
  refine rl_own (L' := ([(b32, .cells #[.int .i64 ((overR 10 4 exC 3).1.1), .int .i64 ((overR 10 4 exC 3).1.2)] 36 (0, 0)), (b31, .cells #[.int .i64 ((levelR 10 4 exC 1).1.1), .int .i64 ((levelR 10 4 exC 1).1.2)] 36 (0, 0)), (b8, .cells #[.int .i64 10, .int .i64 5, .slice a34 4 cp35] 24 (0, 0)), (b7, .cells #[.int .i64 10, .int .i64 4, .slice a13 4 cp14] 24 (0, 0))] : Pcs) ++ (X27 ++ (X65 ++ []))) rfl ?_
  refine rl_lastN (A := ([(b32, .cells #[.int .i64 ((overR 10 4 exC 3).1.1), .int .i64 ((overR 10 4 exC 3).1.2)] 36 (0, 0)), (b31, .cells #[.int .i64 ((levelR 10 4 exC 1).1.1), .int .i64 ((levelR 10 4 exC 1).1.2)] 36 (0, 0)), (b8, .cells #[.int .i64 10, .int .i64 5, .slice a34 4 cp35] 24 (0, 0)), (b7, .cells #[.int .i64 10, .int .i64 4, .slice a13 4 cp14] 24 (0, 0))] : Pcs)) o30 (ns_length _ _) fun p67 a68 cp69 le70 ev_ D71 => ?_
  subst ev_
  refine rl_lastN (A := ([(b32, .cells #[.int .i64 ((overR 10 4 exC 3).1.1), .int .i64 ((overR 10 4 exC 3).1.2)] 36 (0, 0)), (b31, .cells #[.int .i64 ((levelR 10 4 exC 1).1.1), .int .i64 ((levelR 10 4 exC 1).1.2)] 36 (0, 0)), (b8, .cells #[.int .i64 10, .int .i64 5, .slice a34 4 cp35] 24 (0, 0)), (b7, .cells #[.int .i64 10, .int .i64 4, .slice a13 4 cp14] 24 (0, 0))] : Pcs)) o66 (show _ = 4 from rfl) fun p72 a73 cp74 le75 ev_ D76 => ?_
  subst ev_
  refine rl_own (L' := [(b32, .cells #[.int .i64 ((overR 10 4 exC 3).1.1), .int .i64 ((overR 10 4 exC 3).1.2)] 36 (0, 0)), (b31, .cells #[.int .i64 ((levelR 10 4 exC 1).1.1), .int .i64 ((levelR 10 4 exC 1).1.2)] 36 (0, 0)), (b8, .cells #[.int .i64 10, .int .i64 5, .slice a34 4 cp35] 24 (0, 0)), (b7, .cells #[.int .i64 10, .int .i64 4, .slice a13 4 cp14] 24 (0, 0))]) rfl ?_
  refine rl_calld (met_some rfl rfl (decide_eq_true (by decide +kernel))) (first := []) (cap := []) rfl rfl fC36 (fun h_ H_ => c36 (.main true) _ _ (fun b_ o_ e_ => H_.per b_ o_ e_) _ _ _ _ _ _ _ _ ((show Ints _ _ _ (nums (ovr 10 4 (wantOf exC) (listOf ([5, 8, 3, 1]))) 4) from D71).mono le75) (show Ints _ _ _ [0, 3, 0, 0] from D76) (by omega)) (tm' := [_,_,_,_,_,_,_,_,_,_,_,_,_,_,_,_,_,_,_,_,_,_,_,_,_,_,_,_,_,_,_,_,_,_,_,_,_,_,_,_,_,_,_,_,_,_,_,_,_,_,_,_,_,_,_,_,_,_,_,_,_,_,_,_,_,_,_,_,_,_,_,_,_,_,_,_,_,_,_,_,_,_,_,_,_,_,_,_,_,_,_,_,_,_,_,_,_,_,_,_,_,_,_,_,_,_,_,_,_,_,_,_,_,_,_,_,_,_,_,_,_,_,_,_,_,_,_,_]) rfl ?_
  refine rl_det (met_none rfl) (fun h_ H_ => exd_pick_t rfl (decide_eq_true (by decide +kernel)) (v := .bool (decide ((nums (ovr 10 4 (wantOf exC) (listOf ([5, 8, 3, 1]))) 4) = [0, 3, 0, 0]))) rfl) rfl ?_
  refine rl_det (met_none rfl) (fun h_ H_ => exd_move (v := .bool (decide ((nums (ovr 10 4 (wantOf exC) (listOf ([5, 8, 3, 1]))) 4) = [0, 3, 0, 0]))) rfl) rfl ?_
  refine rl_det (met_some rfl rfl (decide_eq_true (by decide +kernel))) (fun h_ H_ => exd_loadN_own H_ tA36 tS36 rfl (i := 1) rfl (vs := [.int .i64 ((levelR 10 4 exC 1).1.1), .int .i64 ((levelR 10 4 exC 1).1.2)]) rfl rfl) (tm' := [_,_,_,_,_,_,_,_,_,_,_,_,_,_,_,_,_,_,_,_,_,_,_,_,_,_,_,_,_,_,_,_,_,_,_,_,_,_,_,_,_,_,_,_,_,_,_,_,_,_,_,_,_,_,_,_,_,_,_,_,_,_,_,_,_,_,_,_,_,_,_,_,_,_,_,_,_,_,_,_,_,_,_,_,_,_,_,_,_,_,_,_,_,_,_,_,_,_,_,_,_,_,_,_,_,_,_,_,_,_,_,_,_,_,_,_,_,_,_,_,_,_,_,_,_,_,_,_]) rfl ?_
  refine rl_det (met_some rfl rfl (decide_eq_true (by decide +kernel))) (fun h_ H_ => exd_build tZ36 tP36 (vs := [(0, .int .i64 0), (1, .int .i64 4)]) rfl (cells := #[.int .i64 0, .int .i64 4]) rfl) rfl ?_
  refine rl_det (met_some rfl rfl (decide_eq_true (by decide +kernel))) (fun h_ H_ => exd_eqAgg gT36 (spanEq 9998 _ _ _ _) rfl rfl) rfl ?_
  refine rl_det (met_none rfl) (fun h_ H_ => exd_pick_t rfl (decide_eq_true (by decide +kernel)) (v := .bool (decide ((levelR 10 4 exC 1).1.1 = 0 ∧ (levelR 10 4 exC 1).1.2 = 4))) rfl) (tm' := [_,_,_,_,_,_,_,_,_,_,_,_,_,_,_,_,_,_,_,_,_,_,_,_,_,_,_,_,_,_,_,_,_,_,_,_,_,_,_,_,_,_,_,_,_,_,_,_,_,_,_,_,_,_,_,_,_,_,_,_,_,_,_,_,_,_,_,_,_,_,_,_,_,_,_,_,_,_,_,_,_,_,_,_,_,_,_,_,_,_,_,_,_,_,_,_,_,_,_,_,_,_,_,_,_,_,_,_,_,_,_,_,_,_,_,_,_,_,_,_,_,_,_,_,_,_,_,_]) rfl ?_
  refine rl_det (met_none rfl) (fun h_ H_ => exd_move (v := .bool (decide ((levelR 10 4 exC 1).1.1 = 0 ∧ (levelR 10 4 exC 1).1.2 = 4))) rfl) rfl ?_
  refine rl_det (met_some rfl rfl (decide_eq_true (by decide +kernel))) (fun h_ H_ => exd_loadN_own H_ tA36 tS36 rfl (i := 0) rfl (vs := [.int .i64 ((overR 10 4 exC 3).1.1), .int .i64 ((overR 10 4 exC 3).1.2)]) rfl rfl) rfl ?_
  refine rl_det (met_some rfl rfl (decide_eq_true (by decide +kernel))) (fun h_ H_ => exd_build tZ36 tP36 (vs := [(0, .int .i64 0), (1, .int .i64 3)]) rfl (cells := #[.int .i64 0, .int .i64 3]) rfl) (tm' := [_,_,_,_,_,_,_,_,_,_,_,_,_,_,_,_,_,_,_,_,_,_,_,_,_,_,_,_,_,_,_,_,_,_,_,_,_,_,_,_,_,_,_,_,_,_,_,_,_,_,_,_,_,_,_,_,_,_,_,_,_,_,_,_,_,_,_,_,_,_,_,_,_,_,_,_,_,_,_,_,_,_,_,_,_,_,_,_,_,_,_,_,_,_,_,_,_,_,_,_,_,_,_,_,_,_,_,_,_,_,_,_,_,_,_,_,_,_,_,_,_,_,_,_,_,_,_,_]) rfl ?_
  refine rl_det (met_some rfl rfl (decide_eq_true (by decide +kernel))) (fun h_ H_ => exd_eqAgg gT36 (spanEq 9998 _ _ _ _) rfl rfl) rfl ?_
  refine rl_det (met_none rfl) (fun h_ H_ => exd_pick_t rfl (decide_eq_true (by decide +kernel)) (v := .bool (decide ((overR 10 4 exC 3).1.1 = 0 ∧ (overR 10 4 exC 3).1.2 = 3))) rfl) rfl ?_
  refine rl_det (met_none rfl) (fun h_ H_ => exd_move (v := .bool (decide ((overR 10 4 exC 3).1.1 = 0 ∧ (overR 10 4 exC 3).1.2 = 3))) rfl) (tm' := [_,_,_,_,_,_,_,_,_,_,_,_,_,_,_,_,_,_,_,_,_,_,_,_,_,_,_,_,_,_,_,_,_,_,_,_,_,_,_,_,_,_,_,_,_,_,_,_,_,_,_,_,_,_,_,_,_,_,_,_,_,_,_,_,_,_,_,_,_,_,_,_,_,_,_,_,_,_,_,_,_,_,_,_,_,_,_,_,_,_,_,_,_,_,_,_,_,_,_,_,_,_,_,_,_,_,_,_,_,_,_,_,_,_,_,_,_,_,_,_,_,_,_,_,_,_,_,_]) rfl ?_
  refine rl_det (met_some rfl rfl (decide_eq_true (by decide +kernel))) (fun h_ H_ => exd_move (v := .int .i64 ((dryR 10 4 exC).1)) rfl) rfl ?_
  refine rl_det (met_some rfl rfl (decide_eq_true (by decide +kernel))) (fun h_ H_ => exd_eql rfl rfl) rfl ?_
  refine rl_det (met_none rfl) (fun h_ H_ => exd_pick_t rfl (decide_eq_true (by decide +kernel)) (v := .bool (decide ((dryR 10 4 exC).1 = 1))) rfl) (tm' := [_,_,_,_,_,_,_,_,_,_,_,_,_,_,_,_,_,_,_,_,_,_,_,_,_,_,_,_,_,_,_,_,_,_,_,_,_,_,_,_,_,_,_,_,_,_,_,_,_,_,_,_,_,_,_,_,_,_,_,_,_,_,_,_,_,_,_,_,_,_,_,_,_,_,_,_,_,_,_,_,_,_,_,_,_,_,_,_,_,_,_,_,_,_,_,_,_,_,_,_,_,_,_,_,_,_,_,_,_,_,_,_,_,_,_,_,_,_,_,_,_,_,_,_,_,_,_,_]) rfl ?_
  refine rl_det (met_none rfl) (fun h_ H_ => exd_move (v := .bool (decide ((dryR 10 4 exC).1 = 1))) rfl) rfl ?_
  refine rl_det (met_some rfl rfl (decide_eq_true (by decide +kernel))) (fun h_ H_ => exd_move (v := .int .i64 ((if Ok 10 4 exC then ratDown 10 4 exC 20 else 0))) rfl) rfl ?_
  refine rl_det (met_some rfl rfl (decide_eq_true (by decide +kernel))) (fun h_ H_ => exd_eql rfl rfl) (tm' := [_,_,_,_,_,_,_,_,_,_,_,_,_,_,_,_,_,_,_,_,_,_,_,_,_,_,_,_,_,_,_,_,_,_,_,_,_,_,_,_,_,_,_,_,_,_,_,_,_,_,_,_,_,_,_,_,_,_,_,_,_,_,_,_,_,_,_,_,_,_,_,_,_,_,_,_,_,_,_,_,_,_,_,_,_,_,_,_,_,_,_,_,_,_,_,_,_,_,_,_,_,_,_,_,_,_,_,_,_,_,_,_,_,_,_,_,_,_,_,_,_,_,_,_,_,_,_,_]) rfl ?_
  refine rl_det (met_none rfl) (fun h_ H_ => exd_pick_t rfl (decide_eq_true (by decide +kernel)) (v := .bool (decide ((if Ok 10 4 exC then ratDown 10 4 exC 20 else 0) = 2))) rfl) rfl ?_
  refine rl_det (met_none rfl) (fun h_ H_ => exd_move (v := .bool (decide ((if Ok 10 4 exC then ratDown 10 4 exC 20 else 0) = 2))) rfl) rfl ?_
  refine rl_det (met_some rfl rfl (decide_eq_true (by decide +kernel))) (fun h_ H_ => exd_move (v := .int .i64 ((sizeR 10 5 exD).1)) rfl) (tm' := [_,_,_,_,_,_,_,_,_,_,_,_,_,_,_,_,_,_,_,_,_,_,_,_,_,_,_,_,_,_,_,_,_,_,_,_,_,_,_,_,_,_,_,_,_,_,_,_,_,_,_,_,_,_,_,_,_,_,_,_,_,_,_,_,_,_,_,_,_,_,_,_,_,_,_,_,_,_,_,_,_,_,_,_,_,_,_,_,_,_,_,_,_,_,_,_,_,_,_,_,_,_,_,_,_,_,_,_,_,_,_,_,_,_,_,_,_,_,_,_,_,_,_,_,_,_,_,_]) rfl ?_
  refine rl_det (met_some rfl rfl (decide_eq_true (by decide +kernel))) (fun h_ H_ => exd_eql rfl rfl) rfl ?_
  refine rl_det (met_none rfl) (fun h_ H_ => exd_pick_t rfl (decide_eq_true (by decide +kernel)) (v := .bool (decide ((sizeR 10 5 exD).1 = 9))) rfl) rfl ?_
  refine rl_det (met_none rfl) (fun h_ H_ => exd_move (v := .bool (decide ((sizeR 10 5 exD).1 = 9))) rfl) (tm' := [_,_,_,_,_,_,_,_,_,_,_,_,_,_,_,_,_,_,_,_,_,_,_,_,_,_,_,_,_,_,_,_,_,_,_,_,_,_,_,_,_,_,_,_,_,_,_,_,_,_,_,_,_,_,_,_,_,_,_,_,_,_,_,_,_,_,_,_,_,_,_,_,_,_,_,_,_,_,_,_,_,_,_,_,_,_,_,_,_,_,_,_,_,_,_,_,_,_,_,_,_,_,_,_,_,_,_,_,_,_,_,_,_,_,_,_,_,_,_,_,_,_,_,_,_,_,_,_]) rfl ?_
  refine rl_det (met_some rfl rfl (decide_eq_true (by decide +kernel))) (fun h_ H_ => exd_move (v := .int .i64 ((spareR 10 5 exD 3).1)) rfl) rfl ?_
  refine rl_det (met_some rfl rfl (decide_eq_true (by decide +kernel))) (fun h_ H_ => exd_eql rfl rfl) rfl ?_
  refine rl_det (met_none rfl) (fun h_ H_ => exd_pick_t rfl (decide_eq_true (by decide +kernel)) (v := .bool (decide ((spareR 10 5 exD 3).1 = 2))) rfl) (tm' := [_,_,_,_,_,_,_,_,_,_,_,_,_,_,_,_,_,_,_,_,_,_,_,_,_,_,_,_,_,_,_,_,_,_,_,_,_,_,_,_,_,_,_,_,_,_,_,_,_,_,_,_,_,_,_,_,_,_,_,_,_,_,_,_,_,_,_,_,_,_,_,_,_,_,_,_,_,_,_,_,_,_,_,_,_,_,_,_,_,_,_,_,_,_,_,_,_,_,_,_,_,_,_,_,_,_,_,_,_,_,_,_,_,_,_,_,_,_,_,_,_,_,_,_,_,_,_,_]) rfl ?_
  refine rl_det (met_none rfl) (fun h_ H_ => exd_assign (v := .bool (decide ((spareR 10 5 exD 3).1 = 2))) rfl) rfl ?_
  refine rl_end ?_
  refine fl_ret Try.func18 rfl (vs := [.bool (decide ((spareR 10 5 exD 3).1 = 2))]) (fun h_ H_ => ⟨.bool (decide ((spareR 10 5 exD 3).1 = 2)), _, rfl, rfl, rfl⟩) (v := .bool (decide ((spareR 10 5 exD 3).1 = 2))) rfl ?_
  exact fun h_ H_ => K _ _ ⟨by rw [decide_eq_true (by decide +kernel)], H_.kept⟩
end Go.Proofs.Ytbmkacnlhlbnjaa
