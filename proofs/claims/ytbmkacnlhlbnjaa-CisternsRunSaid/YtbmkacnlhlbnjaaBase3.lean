/-
  Part of proofs about cisterns, beside goroutines that are only leaving. No condition.
-/
import Derived.Test.YtbmkacnlhlbnjaaBase2
import Derived.Conc.WgGenN3
import Derived.Test.YtbmkacnlhlbnjaaBase1
import Derived.Test.YtbmkacnlhlbnjaaChecked
import Derived.Conc.WgLib
namespace Go.X
open Go.Conc
open Go.ConcN (RelBy WD CTag Vc Ssum Fsum phi cnt pend sumTo upd sumTo_upd upd_ne upd_same WgLive exists_counted)
open Go.ConcR (KK wgBlock WgAt stA smA rd wr mk DC0 Bk)

section
variable {P : Program} {s : Site} {Ψ : Nat → Heap → Prop} {Kon : Goroutine → Prop} {w0 : Wk0} {j : Nat} {wk : Nat → Bool} {c : Nat → Goroutine × Heap} {V : Nat → Vw} {hv : Nat → Heap} {g : Nat → Goroutine} {dd q : Nat → Nat} {D : Nat → WD}
  {tag : CTag} {fl f0 : Nat} {st sm : Int} {gs : Array Goroutine} {w w' : World} {t : Trace} {M μ : Nat} {sl : Option (Nat × Nat)}

theorem MSx.key {key : Goroutine × Heap} {f d : Nat} {g : Goroutine} {h : Heap} (hw : w0 ≠ .none) (x : MSx P s Ψ Kon key tag w0 fl j f d g h w) : g = key.1 ∧ Keep key.2 h := by
  cases x <;> first | exact absurd rfl hw | exact ⟨‹_›, ‹_›⟩
theorem WSx.key {Φ : Heap → Prop} {key : Goroutine × Heap} {n m d : Nat} {g : Goroutine} {h : Heap} (x : WSx P s Φ key n true m d g h w) : g = key.1 ∧ Keep key.2 h ∧ m = 0 ∧ d = 0 := by
  cases x with
  | walk a b => exact ⟨a, b, rfl, rfl⟩

theorem stf_le {k : Nat} {S : Goroutine → Heap → Prop} (h : stf P s Ψ Kon w0 j wk k = some S) : k ≤ j := by
  cases k with
  | zero => exact Nat.zero_le _
  | succ k =>
    simp only [stf] at h
    split at h
    · rename_i hh; exact hh.1
    · cases h

/-- A worker that has done its work goes into the library. -/
theorem into_done (hΨ : ∀ k h h', Keep h h' → Ψ k h → Ψ k h') (hR : ∀ k, RK (stf P s Ψ Kon w0 j wk) P k (c k)) (I : InvAt P s Ψ Kon w0 j wk c V hv g dd q D tag fl f0 st sm gs w t)
    {k : Nat} (hk : k < j) (hwk : wk k = true) (hd : WDone P s (Ψ k) (c (k + 1)).1 (c (k + 1)).2) : Lower P s Ψ Kon (rank tag fl j wk D) (fuel s.p f0 j D q) w0 j wk c gs w t := by
  have hx := I.work k hk
  rw [hwk] at hx
  have h7 := hx.seven
  obtain ⟨e1, e2, e3, e4⟩ := hx.key
  have hd' := hd.stay (hΨ k) e2
  obtain ⟨m, hm⟩ := hd'.1 w I.live
  have hwalk : walks j (upd wk k false) + 1 = walks j wk := by
    have := sumTo_upd wk false (fun b => if b then 1 else 0) hk
    simp only [walks]
    simp only [hwk] at this
    simpa using this
  have hst : ∀ a, a < j → (upd D k ⟨(D k).stage, m, 0⟩ a).stage = (D a).stage := fun a _ => by
    by_cases e : a = k
    · subst e; rw [upd_same]
    · rw [upd_ne _ _ e]
  have eV : Vc j (upd D k ⟨(D k).stage, m, 0⟩) = Vc j D := Go.ConcN.sumTo_congr fun a ha => by simp only [cnt, hst a ha]
  have eS : Ssum j (upd D k ⟨(D k).stage, m, 0⟩) = Ssum j D := Go.ConcN.sumTo_congr fun a ha => hst a ha
  refine .inl ⟨_, w0, j, upd wk k false, c, _, ?_, fun n S hS => ?_, V, hv, g, dd, q, upd D k ⟨(D k).stage, m, 0⟩, tag, fl, f0, st, sm, ⟨I.crew, I.main, fun n hn => ?_, fun n hn hs => ?_, I.wg, I.mode.same m 0, I.acq⟩, rfl, rfl⟩
  · simp only [rank]; rw [eV, eS]; omega
  · cases n with
    | zero => exact hR 0 S hS
    | succ n =>
      by_cases e : n = k
      · subst e; simp [stf, upd_same] at hS
      · refine hR (n + 1) S ?_
        simp only [stf, upd_ne _ _ e] at hS ⊢
        exact hS
  · by_cases e : n = k
    · subst e
      rw [upd_same, upd_same]
      simp only
      rw [h7, e4, e1]
      exact .r0 hd'.2 hm
    · rw [upd_ne _ _ e, upd_ne _ _ e]
      exact I.work n hn
  · rw [hst n hn] at hs
    exact I.rel n hn hs

/-- The starter comes to the library. -/
theorem into_lib (hR : ∀ k, RK (stf P s Ψ Kon w0 j wk) P k (c k)) (I : InvAt P s Ψ Kon w0 j wk c V hv g dd q D tag fl f0 st sm gs w t)
    (hs : ∀ S, stop0 P s Ψ Kon w0 = some S → S (c 0).1 (c 0).2) (hw : w0 ≠ .none) (hg : ∀ r, w0 ≠ .go r) : Lower P s Ψ Kon (rank tag fl j wk D) (fuel s.p f0 j D q) w0 j wk c gs w t := by
  have hm := I.main
  have hkey := hm.key hw
  generalize hd : dd 0 = d0 at hm
  generalize hg0 : g 0 = g0 at hm hkey
  generalize hc : c 0 = c0 at hm hkey hs
  generalize hh : hv 0 = h0 at hm hkey
  have hR' : ∀ k, RK (stf P s Ψ Kon .none j wk) P k (c k) := fun k S hS => by
    cases k with
    | zero => cases hS
    | succ k => exact hR (k + 1) S hS
  cases hm <;> first | exact absurd rfl hw | exact absurd rfl (hg _) | skip
  · rename_i r a b e
    obtain ⟨gb, x, y⟩ := hs _ rfl
    obtain ⟨m, hm⟩ := x w I.live
    refine .inl ⟨_, .none, _, wk, c, _, ?_, hR', V, hv, g, dd, q, D, .sp r 5, 0, m, st, sm, ⟨I.crew, ?_, I.work, I.rel, I.wg, I.mode, by simp⟩, rfl, rfl⟩
    · simp only [rank]; omega
    · rw [hd, hg0, hc, hh, hkey.1]; exact .kd5 a hm (y.stay hkey.2)
  · obtain ⟨gb, An, x, y⟩ := hs _ rfl
    obtain ⟨m, hm⟩ := y w I.live
    refine .inl ⟨_, .none, _, wk, c, _, ?_, hR', V, hv, g, dd, q, D, .kd, 0, m, st, sm, ⟨I.crew, ?_, I.work, I.rel, I.wg, I.mode, by simp⟩, rfl, rfl⟩
    · simp only [rank]; omega
    · rw [hd, hg0, hc, hh, hkey.1]; exact .kd x hm

theorem someone (hkon : ∀ gb, Kon gb → gb.status = .running) (hR : ∀ k, RK (stf P s Ψ Kon w0 j wk) P k (c k)) (I : InvAt P s Ψ Kon w0 j wk c V hv g dd q D tag fl f0 st sm gs w t) : ∃ (i : Nat) (x : Goroutine), gs[i]? = some x ∧ x.status = .running := by
  have wrun : ∀ k, k < j → (D k).stage ≠ 1 → ∃ (i : Nat) (x : Goroutine), gs[i]? = some x ∧ x.status = .running := fun k hk h1 =>
    ⟨s.p + k, g (k + 1), I.crew.at' (k + 1) (by omega), ((I.work k hk).status I.live (rk_work hR hk)).elim id fun z => absurd z.2 h1⟩
  have hs := I.main.status I.live hkon (rk_main hR)
  rcases hs with ⟨hs, _⟩ | ⟨_, rfl⟩
  · exact ⟨0, g 0, I.crew.at' 0 (Nat.zero_le _), hs⟩
  · cases I.mode with
    | opn h1 _ _ => exact h1.elim
    | reg _ _ h3 =>
      obtain ⟨k, hk, h5⟩ := exists_counted h3
      exact wrun k hk (by omega)
    | last L _ h2 h3 _ => exact wrun L h2 (by omega)
    | fin h1 _ => exact h1.elim

theorem awake_all (hkon : ∀ gb, Kon gb → gb.status = .running) (hR : ∀ k, RK (stf P s Ψ Kon w0 j wk) P k (c k)) (I : InvAt P s Ψ Kon w0 j wk c V hv g dd q D tag fl f0 st sm gs w t) : ∀ x ∈ gs, awake x := by
  intro x hx
  obtain ⟨i, hi⟩ := Array.mem_iff_getElem?.1 hx
  have hlt := (Array.getElem?_eq_some_iff.1 hi).1
  rw [I.crew.size] at hlt
  rcases Nat.eq_zero_or_pos i with rfl | hpos
  · have := I.crew.at' 0 (Nat.zero_le _)
    rw [show gn s.p 0 = 0 from rfl, hi] at this
    cases this
    exact awake_of ((I.main.status I.live hkon (rk_main hR)).elim (fun z => .inl z.1) fun z => .inr (.inl z.1))
  · rcases Nat.lt_or_ge i s.p with hip | hip
    · exact awake_of ((I.crew.lv i x hpos hip hi).status.elim .inl fun z => .inr (.inr z))
    · have := I.crew.at' (i - s.p + 1) (by omega)
      rw [show gn s.p (i - s.p + 1) = i by simp only [gn]; omega, hi] at this
      cases this
      exact awake_of (((I.work (i - s.p) (by omega)).status I.live (rk_work hR (by omega))).elim .inl fun z => .inr (.inr z.1))

/-- ALL TOGETHER. -/
theorem joint (hSW : ¬ s.S s.Wg) (hΨ : ∀ k h h', Keep h h' → Ψ k h → Ψ k h') (hkon : ∀ gb, Kon gb → gb.status = .running) (hS0 : ∀ b, s.S b → s.h₀[b]? = some nil0) :
    ∀ M w0 j wk c, (∀ k, RK (stf P s Ψ Kon w0 j wk) P k (c k)) → ∀ μ gs w sl t, Good' P s Ψ Kon M w0 j wk c μ gs w t → Fin P s Ψ Kon gs w sl t := by
  intro M
  induction M using Nat.strongRecOn with
  | _ M ihM =>
  intro w0 j wk
  refine nest (n := 3) (J := fun c => ∀ μ gs w sl t, Good' P s Ψ Kon M w0 j wk c μ gs w t → Fin P s Ψ Kon gs w sl t) fun c hR hA => ?_
  intro μ
  induction μ using Nat.strongRecOn with
  | _ μ ihμ =>
  rintro gs w sl t ⟨V, hv, g, dd, q, D, tag, fl, f0, st, sm, I, rfl, rfl⟩
  have low : ∀ gs w sl t, Lower P s Ψ Kon (rank tag fl j wk D) (fuel s.p f0 j D q) w0 j wk c gs w t → Fin P s Ψ Kon gs w sl t := by
    rintro gs w sl t (⟨M', w0', j', wk', c', μ', hlt, hR', hG⟩ | ⟨μ', hlt, hG⟩)
    · exact ihM M' hlt _ _ _ _ hR' _ _ _ _ _ hG
    · exact ihμ μ' hlt _ _ _ _ hG
  have hp := I.crew.pos
  have hj := I.main.le.1
  obtain ⟨i, a, d, sl', hi, ha, hst⟩ := crowd_pick (P := P) (w := w) (sl := sl) (awake_all hkon hR I) (someone hkon hR I)
  have Id := I.draw hΨ d
  -- a step that goes
  have fin : ∀ {a' : Goroutine} {w' : World} {es : Array Event}, stepG P (i == 0) a (w.at d) = .go a' w' es → Quiet (.of s.S) (w.at d) w' → Fin P s Ψ Kon ((gs.map (woken P a a' w')).setIfInBounds i a') w' sl' (t ++ MemOp.ofEvents i a.frame.fn a.frame.place es) → Fin P s Ψ Kon gs w sl t :=
    fun hgo hc x => fin_step (hst.trans (runT_crowd_go (P := P) (sl := sl') (i := i) hi hgo)) ((quiet_at w d).trans hc) x
  -- a walker's own
  have walk : ∀ k S, k < 3 → stf P s Ψ Kon w0 j wk k = some S → (k = 0 → w0 ≠ .none) → (∀ m, k = m + 1 → wk m = true) → g k = (c k).1 ∧ Keep (c k).2 (hv k) → i = gn s.p k → a = g k →
      (Own P (k == 0) (c k).1 (c k).2 fun g h => Reach P (.own (k == 0)) g h S ∧ ∀ c', c' k = (g, h) → (∀ m, m < k → c' m = c m) → (∀ m, RK (stf P s Ψ Kon w0 j wk) P m (c' m)) → ∀ μ gs w sl t, Good' P s Ψ Kon (rank tag fl j wk D) w0 j wk c' μ gs w t → Fin P s Ψ Kon gs w sl t) → Fin P s Ψ Kon gs w sl t := by
    intro k S _ hS h0 h1 hkey hik hak o
    obtain ⟨a', h', w', es, hgo, ⟨hr, hcont⟩, hV', hq, hes⟩ := o.2 (hv k) hkey.2 (V k) (w.at d) (I.crew.veil k (stf_le hS))
    rw [← hkey.1, ← hak] at hgo
    obtain ⟨μ', hG⟩ := own_good hΨ hkon hR Id (stf_le hS) h0 h1 (a' := a') (fn := a.frame.fn) (pos := a.frame.place) hV' hq hes
    rw [← hak, ← hik] at hG
    refine fin (by rw [hik, gn_main hp]; exact hgo) (hq.mono fun b y => .inl (I.crew.sd k (stf_le hS) b (y.elim id fun z => z.elim))) (hcont (upd c k (a', h')) (upd_same _ _ _) (fun m hm => upd_ne _ _ (by omega)) (fun m => ?_) _ _ _ _ _ hG)
    by_cases e : m = k
    · subst e; rw [upd_same]; intro S' hS'; rw [hS] at hS'; cases hS'; exact hr
    · rw [upd_ne _ _ e]; exact hR m
  have hlt := (Array.getElem?_eq_some_iff.1 hi).1
  rw [I.crew.size] at hlt
  rcases Nat.eq_zero_or_pos i with rfl | hpos
  · -- the starter
    have e0 := I.crew.at' 0 (Nat.zero_le _)
    rw [show gn s.p 0 = 0 from rfl, hi] at e0
    obtain rfl : a = g 0 := Option.some.inj e0
    by_cases hw : w0 = .none
    · subst hw
      rcases main_lib hSW hΨ hR I ha rfl with hgo | hl | ⟨rfl, rfl, hk⟩
      · obtain ⟨a', w', es, h1, h2, h3⟩ := hgo d
        exact fin h1 h2 (low _ _ _ _ (h3 _ _))
      · exact low _ _ _ _ hl
      · exact last_fin hS0 I hk sl
    · have hkey := I.main.key hw
      have hS : ∃ S, stop0 P s Ψ Kon w0 = some S := by cases w0 <;> first | exact absurd rfl hw | exact ⟨_, rfl⟩
      obtain ⟨S, hS⟩ := hS
      rcases hA 0 (by omega) S hS with hstop | o
      · by_cases hg : ∃ r, w0 = .go r
        · obtain ⟨r, rfl⟩ := hg
          cases hS
          obtain ⟨_, g', child, X, Z, hsp, hX, hZ, hnext⟩ := AtGoX.stay hstop hkey.2
          obtain ⟨hn1, hn2⟩ := hnext _ (.refl _)
          obtain ⟨M', w0', j', wk', c', μ', hlt', hR', hG⟩ := spawn_good (fn := (g 0).frame.fn) (fn' := child.frame.fn) (pos := (g 0).frame.place) (pos' := (g 0).frame.place) Id hR rfl hX hZ hn1 hn2
          have hrun := runT_crowd_spawn (P := P) (sl := sl') (i := 0) (es := #[]) hi (show stepG P (0 == 0) (g 0) (w.at d) = .spawn g' child (w.at d) #[] by rw [hkey.1]; exact hsp _)
          rw [I.crew.size] at hrun
          refine fin_step (hst.trans hrun) (quiet_at w d) ?_
          refine ihM M' hlt' _ _ _ _ hR' μ' _ _ _ _ ?_
          have e : ((MemOp.ofEvents 0 (g 0).frame.fn (g 0).frame.place #[]).push { g := 0, fn := (g 0).frame.fn, pos := (g 0).frame.place, act := .go (s.p + j) }).push { g := s.p + j, fn := child.frame.fn, pos := (g 0).frame.place, act := .start } = #[{ g := 0, fn := (g 0).frame.fn, pos := (g 0).frame.place, act := .go (s.p + j) }, { g := s.p + j, fn := child.frame.fn, pos := (g 0).frame.place, act := .start }] := by
            rw [ofEvents_eq]; simp
          rw [e]; exact hG
        · exact low _ _ _ _ (into_lib hR I (fun S' hS' => by rw [hS] at hS'; cases hS'; exact hstop) hw fun r e => hg ⟨r, e⟩)
      · exact walk 0 S (by omega) hS (fun _ => hw) (fun m e => by omega) hkey rfl rfl o
  · rcases Nat.lt_or_ge i s.p with hip | hip
    · -- a leaver
      obtain ⟨a', w', es, h1, h2, h3⟩ := slip_low hΨ hkon hR I hpos hip hi ha d
      exact fin h1 h2 (low _ _ _ _ (h3 _ _))
    · -- a worker
      obtain ⟨k, rfl⟩ : ∃ k, i = s.p + k := ⟨i - s.p, by omega⟩
      have hk : k < j := by omega
      have e0 := I.crew.at' (k + 1) (by omega)
      rw [show gn s.p (k + 1) = s.p + k from rfl, hi] at e0
      obtain rfl : a = g (k + 1) := Option.some.inj e0
      cases hwk : wk k with
      | false =>
        obtain ⟨a', w', es, h1, h2, h3⟩ := work_lib hSW hΨ hkon hR I hk hwk ha d
        exact fin h1 h2 (low _ _ _ _ (h3 _ _))
      | true =>
        have hS : stf P s Ψ Kon w0 j wk (k + 1) = some (WDone P s (Ψ k)) := by simp [stf, hk, hwk]
        have hx := I.work k hk
        rw [hwk] at hx
        have hkey := hx.key
        rcases hA (k + 1) (by omega) _ hS with hstop | o
        · exact low _ _ _ _ (into_done hΨ hR I hk hwk hstop)
        · exact walk (k + 1) _ (by omega) hS (fun e => by omega) (fun m e => by cases e; exact hwk) ⟨hkey.1, hkey.2.1⟩ rfl rfl o
end
end Go.X
namespace Go.X
open Go.Conc
open Go.ConcN (WD CTag Vc pend upd)
open Go.ConcR (KK wgBlock WgAt)

theorem reach_joint {P : Program} {Ψ : Nat → Heap → Prop} {ge : Goroutine} {Kon : Goroutine → Prop} {h : Heap} {Stop : Goroutine → Heap → Prop} (ty : TypeId) (Wg : Nat) (Z : List Nat)
    (hWg : h[Wg]? = some (wgBlock ty 0 0)) (hZ : ∀ b ∈ Z, Exc h b) (hΨ : ∀ k h h', Keep h h' → Ψ k h → Ψ k h') (hrun : ∀ gb, Kon gb → gb.status = .running)
    (hadd : ∀ S p n₀, AtAddX P ⟨ty, Wg, S, h, Z, p, n₀⟩ Ψ 0 (Scr P ⟨ty, Wg, S, h, Z, p, n₀⟩ Ψ Kon 1) ge (cutV [Wg] Z h))
    (hend : ∀ S p n₀ gb, Kon gb → ∀ hw he, Joined ⟨ty, Wg, S, h, Z, p, n₀⟩ Ψ hw he → Reach P (.main true) gb he Stop) : Reach P (.main true) ge h Stop := by
  intro S gs w sl t q sc
  have hexW : Exc h Wg := ⟨_, _, hWg, by simp⟩
  obtain ⟨hnS, hnT⟩ := sc.veil.exc hexW
  have hwlt : Wg < h.size := (Array.getElem?_eq_some_iff.1 hWg).1
  have hgs := sc.main
  have hpos : 0 < gs.size := (Array.getElem?_eq_some_iff.1 hgs).1
  let s : Site := ⟨ty, Wg, S, h, Z, gs.size, t.size⟩
  obtain ⟨gb, hway, hcont⟩ := hadd S gs.size t.size
  have hwg : WgAt ty Wg w 0 0 := (sc.veil.same Wg hnS hnT).symm.trans hWg
  obtain ⟨m, hm⟩ := hway w ⟨_, _, hwg⟩
  have hdeadW : (cutW [Wg] Z h (.of S)).dead Wg := .inr ⟨hwlt, .inl (by simp)⟩
  have crew : Crew s P 0 (fun _ => cutW [Wg] Z h (.of S)) (fun _ => cutV [Wg] Z h) (fun _ => ge) (fun _ => 0) q gs w t := by
    refine ⟨hpos, rfl, fun k hk => ?_, fun i x hi _ hx => sc.leav.old i x hi hx, sc.leav.above, fun k _ => sc.veil.cut hZ, fun k _ b hb => cutW_apart hb, fun k m hk hm hkm => by omega, fun _ _ => hdeadW, fun b hb hS => (sc.veil.same b hS (fun h => h)).symm, fun k _ b hb => ?_,
      fun _ _ b hb => .inl hb, by rw [← sc.veil.size]; exact Nat.le_refl _, ?_, fun k hk => ?_⟩
    · obtain rfl : k = 0 := by omega
      exact hgs
    · by_cases hd : (cutW [Wg] Z h (.of S)).dead b
      · exact .inl hd
      · exact .inr (cutW_vis hb.1 hd hb.2.2)
    · exact TI.start sc.past hnS fun b hb hS => hb (.inl hS)
    · obtain rfl : k = 0 := by omega
      exact sc.past.hears
  have hG : Good' P s Ψ Kon (rank (.sp 1 5) 0 0 (fun _ => false) fun _ => ⟨0, 0, 0⟩) .none 0 (fun _ => false) (fun _ => (ge, h)) (fuel gs.size m 0 (fun _ => ⟨0, 0, 0⟩) q) gs w t := by
    refine ⟨_, _, _, _, _, fun _ => ⟨0, 0, 0⟩, .sp 1 5, 0, m, 0, 0, ⟨crew, .kd5 (by omega) hm hcont, fun k hk => by omega, fun k hk => by omega, hwg, ?_, by simp⟩, rfl, rfl⟩
    have := Go.ConcN.Mode.opn (j := 0) (D := fun _ => (⟨0, 0, 0⟩ : WD)) (tag := .sp 1 5) trivial (fun i hi => by omega) (fun vs e => by cases e)
    simpa [Vc, pend, Go.ConcN.sumTo] using this
  obtain ⟨N, S', gs', w', sl', t', q', gb', he, hw, h1, h2, h3, h4, h5, h6⟩ := joint (s := s) hnS hΨ hrun (fun b hb => sc.veil.shun b hb) _ _ _ _ _ (fun k S hS => by
    cases k with
    | zero => cases hS
    | succ k => simp [stf] at hS) _ gs w sl t hG
  obtain ⟨N2, S2, gs2, w2, sl2, t2, q2, g2, h2', a2, b2, c2, d2, e2, f2⟩ := hend S gs.size t.size gb' h3 hw he h4 S' gs' w' sl' t' q' h2
  exact ⟨N + N2, S2, gs2, w2, sl2, t2, q2, g2, h2', by rw [runNT_add, h1]; exact a2, b2, c2, h5.trans (d2.of h6), (fun z => by cases z), fun b hb => f2 b (h6 b hb)⟩
end Go.X
namespace Go.X
open Go.Conc Go.RowKit Go.Conc.Lib Go.ConcR.Gen Go.ConcN.Gen
open Go.ConcR (KK wgBlock WgAt stA smA rd wr mk DC0)
open Go.ConcN (WgLive st_flag st_waiters)
open Go.ConcN.Gen

section
variable {L : WgLink} {Wg : Nat} {b₀ : Frame} {a₀ : Act} {ops₀ : Array Oper} {i₀ : Nat} {rest₀ : List Nat} {k₀ : List Item} {cs : List Frame}
set_option maxRecDepth 100000 in
set_option maxHeartbeats 8000000 in
/-- Add(1), in whatever company. -/
theorem add_way {P : Program} (H : WgLib P L) (w : World) (hF : WgLive L.tWg Wg w) :
    ∃ m, Goes P true (RLv L.tWg Wg) DC0 (AtKdS P L.tWg Wg (G (b₀.at (a₀.put ((ops₀[i₀]?).bind (·.dst)) (.tuple #[])) (.inRegion ops₀ rest₀ :: k₀)) cs)) m (G ((base L.add).at ⟨#[.pointer (some ⟨Wg, 0, none⟩), .int .i64 1, undef, undef, undef, undef, undef, undef, undef, undef, undef, undef, undef, undef, undef, undef, undef, undef, undef, undef, undef, undef, undef, undef, undef, undef, undef, undef, undef, undef, undef, undef, undef, undef, undef, undef, undef, undef, undef, undef, undef, undef, undef, undef, undef, undef, undef, undef, undef, undef, undef, undef, undef, undef, undef, undef, undef, undef, undef, undef, undef, undef, undef, undef, undef, undef, undef, undef, undef, undef, undef, undef, undef, undef, undef, undef, undef, undef, undef, undef, undef, undef, undef, undef, undef, undef, undef, undef, undef, undef, undef, undef, undef, undef, undef, undef, undef, undef, undef, undef, undef, undef, undef, undef, undef, undef, undef, undef, undef, undef, undef, undef, undef, undef, undef, undef, undef], []⟩ [.code (body_add L)]) (b₀.at a₀ (.inRegion ops₀ (i₀ :: rest₀) :: k₀) :: cs)) w := by
  lib_facts
  simp only [body_add, addFn, Option.getD_some]
  refine ⟨30, ?_⟩
  u_c stepG_seq lv_rely hF
  u_cond true lv_rely hF
  u_c stepG_seq lv_rely hF
  u_c stepG_seq lv_rely hF
  u_reg lv_rely hF
  u_op lv_rely hF
  u_op lv_rely hF
  u_c stepG_region_end lv_rely hF
  u_cond false lv_rely hF
  u_c stepG_skip lv_rely hF
  u_c stepG_seq lv_rely hF
  u_reg lv_rely hF
  refine Goes.stop (fun w1 h1 => ?_)
  replace hF := lv_rely hF h1
  clear h1
  refine ⟨rfl, _, stepG_mark0 .disable (by simp) rfl rfl (by k_ne) rfl H.f_disable (x_disable_n L) (x_disable_b L) (x_disable_x L) (x_disable_f L), 60, ?_⟩
  walk_nrm
  u_c stepG_region_end lv_rely hF
  u_reg lv_rely hF
  u_defer lv_rely hF
  u_c stepG_region_end lv_rely hF
  u_c stepG_seq lv_rely hF
  u_reg lv_rely hF
  u_op lv_rely hF
  u_c stepG_region_end lv_rely hF
  u_c stepG_seq lv_rely hF
  u_c stepG_seq lv_rely hF
  u_reg lv_rely hF
  u_bub lv_rely hF
  u_c stepG_region_end lv_rely hF
  u_cond false lv_rely hF
  u_c stepG_skip lv_rely hF
  u_c stepG_seq lv_rely hF
  u_reg lv_rely hF
  u_op lv_rely hF
  u_op lv_rely hF
  u_op lv_rely hF
  u_op lv_rely hF
  u_op lv_rely hF
  u_op lv_rely hF
  u_call H.f_uAdd (nm_uAdd L) uAddFn lv_rely hF
  u_c stepG_seq lv_rely hF
  u_reg lv_rely hF
  u_op lv_rely hF
  u_c stepG_region_end lv_rely hF
  u_c stepG_seq lv_rely hF
  u_reg lv_rely hF
  u_op lv_rely hF
  u_op lv_rely hF
  u_op lv_rely hF
  u_op lv_rely hF
  refine Goes.stop (fun w2 h2 => ?_)
  replace hF := lv_rely hF h2
  clear h2
  refine ⟨rfl, fun v hv hw => ?_⟩
  rcases Nat.eq_zero_or_pos v with rfl | hvp
  · replace hw : WgAt L.tWg Wg w2 0 0 := by simpa using hw
    have z : (((0 : Nat) : Int) + 1) * KK = KK := by simp
    rw [z]
    have e0 : IntKind.u64.wrap (0 + 4294967296) = KK := by decide
    refine ⟨_, (stepG_add_atomic rfl rfl (by k_ne) rfl H.f_addU64 (x_addU64_n L) (x_addU64_b L) (x_addU64_x L) .u64 (x_addU64_f L) rfl rfl hw.cellSt (hw.thaw 0)).trans (by rw [e0]; rfl), fun _ => ⟨110, ?_⟩, fun h => absurd rfl h⟩
    replace hF : WgLive L.tWg Wg (w2.setCell (stA Wg) (.int .u64 KK)) := ⟨_, _, hw.setSt _⟩
    clear hw
    simp only [KK] at hF ⊢
    walk_nrm
    u_op lv_rely hF
    u_c stepG_region_end lv_rely hF
    u_c stepG_ret' lv_rely hF
    u_leave1 H.f_uAdd lv_rely hF
    u_op lv_rely hF
    u_c stepG_region_end lv_rely hF
    u_c stepG_seq lv_rely hF
    u_c stepG_seq lv_rely hF
    u_reg lv_rely hF
    u_op lv_rely hF
    u_op lv_rely hF
    u_op lv_rely hF
    u_op lv_rely hF
    u_skip lv_rely hF
    u_skip lv_rely hF
    u_op lv_rely hF
    u_c stepG_region_end lv_rely hF
    u_cond false lv_rely hF
    u_c stepG_skip lv_rely hF
    u_c stepG_seq lv_rely hF
    u_reg lv_rely hF
    u_op lv_rely hF
    u_op lv_rely hF
    u_op lv_rely hF
    u_op lv_rely hF
    u_c stepG_region_end lv_rely hF
    u_c stepG_seq lv_rely hF
    u_reg lv_rely hF
    u_op lv_rely hF
    u_op lv_rely hF
    u_op lv_rely hF
    u_op lv_rely hF
    u_c stepG_region_end lv_rely hF
    u_c stepG_seq lv_rely hF
    u_c stepG_seq lv_rely hF
    u_reg lv_rely hF
    u_op lv_rely hF
    u_op lv_rely hF
    u_op lv_rely hF
    u_op lv_rely hF
    u_op lv_rely hF
    u_op lv_rely hF
    u_op lv_rely hF
    u_op lv_rely hF
    u_op lv_rely hF
    u_op lv_rely hF
    u_c stepG_region_end lv_rely hF
    u_cond true lv_rely hF
    u_reg lv_rely hF
    u_op lv_rely hF
    u_op lv_rely hF
    u_op lv_rely hF
    u_conv H.underlying_tPU32 H.room_tU32 (WgLive.cell1 hF).choose_spec lv_rely hF
    refine Goes.stop (fun w3 h3 => ?_)
    replace hF := lv_rely hF h3
    clear h3
    refine ⟨rfl, _, stepG_markAt .read (by simp) rfl rfl (by k_ne) rfl H.f_raceRead (x_raceRead_n L) (x_raceRead_b L) (x_raceRead_x L) (x_raceRead_f L) (by simp [Act.eval, smA]), 110, ?_⟩
    walk_nrm
    u_c stepG_region_end lv_rely hF
    u_c stepG_seq lv_rely hF
    u_c stepG_seq lv_rely hF
    u_reg lv_rely hF
    u_op lv_rely hF
    u_op lv_rely hF
    u_c stepG_region_end lv_rely hF
    u_cond false lv_rely hF
    u_c stepG_skip lv_rely hF
    u_c stepG_seq lv_rely hF
    u_c stepG_seq lv_rely hF
    u_reg lv_rely hF
    u_op lv_rely hF
    u_op lv_rely hF
    u_op lv_rely hF
    u_skip lv_rely hF
    u_skip lv_rely hF
    u_op lv_rely hF
    u_op lv_rely hF
    u_skip lv_rely hF
    u_skip lv_rely hF
    u_skip lv_rely hF
    u_skip lv_rely hF
    u_op lv_rely hF
    u_c stepG_region_end lv_rely hF
    u_cond false lv_rely hF
    u_c stepG_skip lv_rely hF
    u_c stepG_seq lv_rely hF
    u_c stepG_seq lv_rely hF
    u_reg lv_rely hF
    u_op lv_rely hF
    u_op lv_rely hF
    u_op lv_rely hF
    u_skip lv_rely hF
    u_skip lv_rely hF
    u_op lv_rely hF
    u_c stepG_region_end lv_rely hF
    u_cond true lv_rely hF
    u_c stepG_ret' lv_rely hF
    refine Goes.stop (fun w4 h4 => ?_)
    replace hF := lv_rely hF h4
    clear h4
    refine ⟨rfl, _, stepG_unwind_entry (v := .tuple #[]) (evs := #[mk .enable]) rfl H.f_enable (x_enable_n L) (x_enable_b L) (x_enable_x L) (x_enable_f L) (by simp [Extern.Race.none_]) (by simp [mk]) (by simp [mk]), 4, ?_⟩
    u_leave0 H.f_add lv_rely hF
    exact Goes.stop fun w5 h5 => ⟨rfl, lv_rely hF h5⟩
  · obtain ⟨V, hV⟩ : ∃ V : Int, V = (v : Int) + 1 := ⟨_, rfl⟩
    obtain ⟨S, hS⟩ : ∃ S : Int, S = V * KK := ⟨_, rfl⟩
    have eS : IntKind.u64.wrap ((v : Int) * KK + 4294967296) = S := by rw [IntKind.wrap_u64, hS, hV]; simp only [KK]; omega
    rw [← hV, ← hS]
    have a1 : S / 4294967296 = V := by rw [hS]; simp only [KK]; omega
    have b1 : bits .and .u64 S 2147483648 = 0 := by rw [hS, hV]; have := st_flag (v + 1) 0 (by omega) (by omega); simpa [KK] using this
    have b2 : bits .and .u64 S 2147483647 = 0 := by rw [hS, hV]; have := st_waiters (v + 1) 0 (by omega) (by omega); simpa [KK] using this
    have c1 : IntKind.i32.wrap V = V := by rw [IntKind.wrap_i32]; omega
    have hV1 : 1 < V := by omega
    have hV2 : V < 2147483648 := by omega
    have q1 : (V == 1) = false := by simp; omega
    have q2 : decide (V = 1) = false := decide_eq_false (by omega)
    have q3 : decide (V < 0) = false := decide_eq_false (by omega)
    have q4 : decide (0 < V) = true := decide_eq_true (by omega)
    have q5 : (V == 0) = false := by simp; omega
    have q6 : decide (V = 0) = false := decide_eq_false (by omega)
    refine ⟨_, (stepG_add_atomic rfl rfl (by k_ne) rfl H.f_addU64 (x_addU64_n L) (x_addU64_b L) (x_addU64_x L) .u64 (x_addU64_f L) rfl rfl hw.cellSt (hw.thaw 0)).trans (by rw [eS]; rfl), fun h => absurd h (by omega), fun _ => ⟨110, ?_⟩⟩
    replace hF : WgLive L.tWg Wg (w2.setCell (stA Wg) (.int .u64 S)) := ⟨_, _, hw.setSt _⟩
    clear hw hS hV eS
    walk_nrm
    u_op lv_rely hF
    u_c stepG_region_end lv_rely hF
    u_c stepG_ret' lv_rely hF
    u_leave1 H.f_uAdd lv_rely hF
    u_op lv_rely hF
    u_c stepG_region_end lv_rely hF
    u_c stepG_seq lv_rely hF
    u_c stepG_seq lv_rely hF
    u_reg lv_rely hF
    u_op lv_rely hF
    u_op lv_rely hF
    u_op lv_rely hF
    u_op lv_rely hF
    u_skip lv_rely hF
    u_skip lv_rely hF
    u_op lv_rely hF
    u_c stepG_region_end lv_rely hF
    u_cnd false lv_rely hF
    u_c stepG_skip lv_rely hF
    u_c stepG_seq lv_rely hF
    u_reg lv_rely hF
    u_op lv_rely hF
    u_op lv_rely hF
    u_op lv_rely hF
    u_op lv_rely hF
    u_c stepG_region_end lv_rely hF
    u_c stepG_seq lv_rely hF
    u_reg lv_rely hF
    u_op lv_rely hF
    u_op lv_rely hF
    u_op lv_rely hF
    u_op lv_rely hF
    u_c stepG_region_end lv_rely hF
    u_c stepG_seq lv_rely hF
    u_c stepG_seq lv_rely hF
    u_reg lv_rely hF
    u_op lv_rely hF
    u_op lv_rely hF
    u_op lv_rely hF
    u_op lv_rely hF
    u_op lv_rely hF
    u_op lv_rely hF
    u_op lv_rely hF
    u_op lv_rely hF
    u_op lv_rely hF
    u_op lv_rely hF
    u_c stepG_region_end lv_rely hF
    u_cnd false lv_rely hF
    u_c stepG_skip lv_rely hF
    u_c stepG_seq lv_rely hF
    u_c stepG_seq lv_rely hF
    u_reg lv_rely hF
    u_op lv_rely hF
    u_op lv_rely hF
    u_c stepG_region_end lv_rely hF
    u_cnd false lv_rely hF
    u_c stepG_skip lv_rely hF
    u_c stepG_seq lv_rely hF
    u_c stepG_seq lv_rely hF
    u_reg lv_rely hF
    u_op lv_rely hF
    u_op lv_rely hF
    u_op lv_rely hF
    u_skip lv_rely hF
    u_skip lv_rely hF
    u_op lv_rely hF
    u_op lv_rely hF
    u_skip lv_rely hF
    u_skip lv_rely hF
    u_skip lv_rely hF
    u_skip lv_rely hF
    u_op lv_rely hF
    u_c stepG_region_end lv_rely hF
    u_cnd false lv_rely hF
    u_c stepG_skip lv_rely hF
    u_c stepG_seq lv_rely hF
    u_c stepG_seq lv_rely hF
    u_reg lv_rely hF
    u_op lv_rely hF
    u_op lv_rely hF
    u_op lv_rely hF
    u_skip lv_rely hF
    u_skip lv_rely hF
    u_op lv_rely hF
    u_c stepG_region_end lv_rely hF
    u_cnd true lv_rely hF
    u_c stepG_ret' lv_rely hF
    refine Goes.stop (fun w3 h3 => ?_)
    replace hF := lv_rely hF h3
    clear h3
    refine ⟨rfl, _, stepG_unwind_entry (v := .tuple #[]) (evs := #[mk .enable]) rfl H.f_enable (x_enable_n L) (x_enable_b L) (x_enable_x L) (x_enable_f L) (by simp [Extern.Race.none_]) (by simp [mk]) (by simp [mk]), 4, ?_⟩
    u_leave0 H.f_add lv_rely hF
    exact Goes.stop fun w5 h5 => ⟨rfl, lv_rely hF h5⟩
end
end Go.X
namespace Go.X
open Go.Conc Go.RowKit Go.Conc.Lib Go.ConcR.Gen Go.ConcN.Gen
open Go.ConcR (KK wgBlock WgAt stA smA rd wr mk DC0)
open Go.ConcN (WgLive st_flag st_waiters)
open Go.ConcN.Gen

section
variable {L : WgLink} {Wg : Nat} {b₀ : Frame} {a₀ : Act} {ops₀ : Array Oper} {i₀ : Nat} {rest₀ : List Nat} {k₀ : List Item} {cs : List Frame}
set_option maxRecDepth 100000 in
set_option maxHeartbeats 8000000 in
/-- Into Wait: to the head of its loop. -/
theorem wait_start {P : Program} (H : WgLib P L) (w : World) (hF : WgLive L.tWg Wg w) :
    ∃ m, Goes P true (RLv L.tWg Wg) DC0 (AtKd P L.tWg Wg (AnchX L Wg (b₀.at a₀ (.inRegion ops₀ (i₀ :: rest₀) :: k₀)) cs)) m (G ((base L.wait).at ⟨#[.pointer (some ⟨Wg, 0, none⟩), undef, undef, undef, undef, undef, undef, undef, undef, undef, undef, undef, undef, undef, undef, undef, undef, undef, undef, undef, undef, undef, undef, undef, undef, undef, undef, undef, undef, undef, undef, undef, undef, undef, undef, undef, undef, undef, undef, undef, undef, undef, undef, undef, undef, undef, undef, undef, undef, undef, undef, undef, undef, undef, undef, undef, undef, undef, undef, undef, undef, undef, undef, undef, undef, undef, undef, undef, undef, undef, undef, undef, undef, undef, undef, undef, undef, undef, undef, undef, undef, undef, undef, undef], []⟩ [.code (body_wait L)]) (b₀.at a₀ (.inRegion ops₀ (i₀ :: rest₀) :: k₀) :: cs)) w := by
  lib_facts
  simp only [body_wait, waitFn, Option.getD_some]
  refine ⟨9, ?_⟩
  u_c stepG_seq lv_rely hF
  u_cond true lv_rely hF
  u_reg lv_rely hF
  refine Goes.stop (fun w1 h1 => ?_)
  replace hF := lv_rely hF h1
  clear h1
  refine ⟨rfl, _, stepG_mark0 .disable (by simp) rfl rfl (by k_ne) rfl H.f_disable (x_disable_n L) (x_disable_b L) (x_disable_x L) (x_disable_f L), 9, ?_⟩
  walk_nrm
  u_c stepG_region_end lv_rely hF
  u_c stepG_block lv_rely hF
  u_c stepG_loop lv_rely hF
  exact Goes.stop (fun w2 h2 => ⟨_, rfl, by simp, by simp, lv_rely hF h2⟩)
set_option maxRecDepth 100000 in
set_option maxHeartbeats 8000000 in
/-- Once round the loop of Wait. -/
theorem wait_round {P : Program} (H : WgLib P L) (g : Goroutine) (w : World) (h : AnchX L Wg (b₀.at a₀ (.inRegion ops₀ (i₀ :: rest₀) :: k₀)) cs g w) :
    ∃ m, Goes P true (RLv L.tWg Wg) DC0 (AtW1 P L.tWg Wg (G (b₀.at (a₀.put ((ops₀[i₀]?).bind (·.dst)) (.tuple #[])) (.inRegion ops₀ rest₀ :: k₀)) cs) (AnchX L Wg (b₀.at a₀ (.inRegion ops₀ (i₀ :: rest₀) :: k₀)) cs)) m g w := by
  lib_facts
  obtain ⟨T, rfl, hT84, t0, hF⟩ := h
  obtain ⟨v0, v1, v2, v3, v4, v5, v6, v7, v8, v9, v10, v11, v12, v13, v14, v15, v16, v17, v18, v19, v20, v21, v22, v23, v24, v25, v26, v27, v28, v29, v30, v31, v32, v33, v34, v35, v36, v37, v38, v39, v40, v41, v42, v43, v44, v45, v46, v47, v48, v49, v50, v51, v52, v53, v54, v55, v56, v57, v58, v59, v60, v61, v62, v63, v64, v65, v66, v67, v68, v69, v70, v71, v72, v73, v74, v75, v76, v77, v78, v79, v80, v81, v82, v83, rfl⟩ := Go.ConcR.Gen.array84 T hT84
  simp only [List.getElem?_toArray, List.getElem?_cons_zero, Option.some.injEq] at t0
  subst t0
  refine ⟨30, ?_⟩
  simp only [L7, body_wait, waitFn, Option.getD_some]
  u_c stepG_block lv_rely hF
  u_c stepG_seq lv_rely hF
  u_reg lv_rely hF
  u_op lv_rely hF
  u_op lv_rely hF
  u_op lv_rely hF
  u_call H.f_uLoad (nm_uLoad L) uLoadFn lv_rely hF
  u_c stepG_seq lv_rely hF
  u_reg lv_rely hF
  u_op lv_rely hF
  u_c stepG_region_end lv_rely hF
  u_c stepG_seq lv_rely hF
  u_reg lv_rely hF
  u_op lv_rely hF
  u_op lv_rely hF
  u_op lv_rely hF
  refine Goes.stop (fun w1 h1 => ?_)
  replace hF := lv_rely hF h1
  clear h1
  refine ⟨rfl, fun v hv hw => ?_⟩
  rcases Nat.eq_zero_or_pos v with rfl | hvp
  · replace hw : WgAt L.tWg Wg w1 0 0 := by simpa using hw
    refine ⟨_, stepG_load_atomic (v := 0) rfl rfl (by k_ne) rfl H.f_loadU64 (x_loadU64_n L) (x_loadU64_b L) (x_loadU64_x L) .u64 (x_loadU64_f L) rfl hw.cellSt, fun _ => ⟨60, ?_⟩, fun h => absurd rfl h⟩
    clear hw
    walk_nrm
    u_op lv_rely hF
    u_c stepG_region_end lv_rely hF
    u_c stepG_ret' lv_rely hF
    u_leave1 H.f_uLoad lv_rely hF
    u_op lv_rely hF
    u_c stepG_region_end lv_rely hF
    u_c stepG_seq lv_rely hF
    u_reg lv_rely hF
    u_op lv_rely hF
    u_op lv_rely hF
    u_op lv_rely hF
    u_op lv_rely hF
    u_c stepG_region_end lv_rely hF
    u_c stepG_seq lv_rely hF
    u_reg lv_rely hF
    u_op lv_rely hF
    u_op lv_rely hF
    u_op lv_rely hF
    u_op lv_rely hF
    u_c stepG_region_end lv_rely hF
    u_c stepG_seq lv_rely hF
    u_c stepG_seq lv_rely hF
    u_reg lv_rely hF
    u_op lv_rely hF
    u_op lv_rely hF
    u_c stepG_region_end lv_rely hF
    u_cond true lv_rely hF
    u_c stepG_seq lv_rely hF
    u_cond true lv_rely hF
    u_c stepG_seq lv_rely hF
    u_reg lv_rely hF
    refine Goes.stop (fun w2 h2 => ?_)
    replace hF := lv_rely hF h2
    clear h2
    refine ⟨rfl, _, stepG_mark0 .enable (by simp) rfl rfl (by k_ne) rfl H.f_enable (x_enable_n L) (x_enable_b L) (x_enable_x L) (x_enable_f L), 12, ?_⟩
    walk_nrm
    u_c stepG_region_end lv_rely hF
    u_reg lv_rely hF
    u_op lv_rely hF
    u_conv H.underlying_tWgP H.room_tWg (WgLive.cell0 hF).choose_spec lv_rely hF
    refine Goes.stop (fun w3 h3 => ?_)
    replace hF := lv_rely hF h3
    clear h3
    refine ⟨rfl, _, stepG_markAt .acquire (by simp) rfl rfl (by k_ne) rfl H.f_acquire (x_acquire_n L) (x_acquire_b L) (x_acquire_x L) (x_acquire_f L) (by simp [Act.eval, stA]), 30, ?_⟩
    walk_nrm
    u_c stepG_region_end lv_rely hF
    u_c stepG_seq lv_rely hF
    u_c stepG_seq lv_rely hF
    u_reg lv_rely hF
    u_op lv_rely hF
    u_op lv_rely hF
    u_op lv_rely hF
    u_op lv_rely hF
    u_op lv_rely hF
    u_op lv_rely hF
    u_op lv_rely hF
    u_op lv_rely hF
    u_skip lv_rely hF
    u_skip lv_rely hF
    u_op lv_rely hF
    u_c stepG_region_end lv_rely hF
    u_cond false lv_rely hF
    u_c stepG_skip lv_rely hF
    u_c stepG_ret' lv_rely hF
    u_leave0 H.f_wait lv_rely hF
    exact Goes.stop fun w9 h9 => ⟨rfl, lv_rely hF h9⟩
  · obtain ⟨S, hS⟩ : ∃ S : Int, (v : Int) * KK = S := ⟨_, rfl⟩
    have a1 : S / 4294967296 = (v : Int) := by rw [← hS]; simp only [KK]; omega
    have b1 : bits .and .u64 S 2147483648 = 0 := by rw [← hS]; have := st_flag v 0 (by omega) (by omega); simpa [KK] using this
    have b2 : bits .and .u64 S 2147483647 = 0 := by rw [← hS]; have := st_waiters v 0 (by omega) (by omega); simpa [KK] using this
    have c1 : IntKind.i32.wrap (v : Int) = (v : Int) := by rw [IntKind.wrap_i32]; omega
    have w1_ : IntKind.u64.wrap (S + 1) = S + 1 := by rw [IntKind.wrap_u64, ← hS]; simp only [KK]; omega
    have q3 : decide ((v : Int) < 0) = false := decide_eq_false (by omega)
    have q4 : decide (0 < (v : Int)) = true := decide_eq_true (by omega)
    have q5 : ((v : Int) == 0) = false := by simp; omega
    have q6 : decide ((v : Int) = 0) = false := decide_eq_false (by omega)
    rw [hS] at hw
    refine ⟨_, stepG_load_atomic (v := S) rfl rfl (by k_ne) rfl H.f_loadU64 (x_loadU64_n L) (x_loadU64_b L) (x_loadU64_x L) .u64 (x_loadU64_f L) rfl hw.cellSt, fun h0 => absurd h0 (by omega), fun _ => ⟨60, ?_⟩⟩
    clear hw
    walk_nrm
    u_op lv_rely hF
    u_c stepG_region_end lv_rely hF
    u_c stepG_ret' lv_rely hF
    u_leave1 H.f_uLoad lv_rely hF
    u_op lv_rely hF
    u_c stepG_region_end lv_rely hF
    u_c stepG_seq lv_rely hF
    u_reg lv_rely hF
    u_op lv_rely hF
    u_op lv_rely hF
    u_op lv_rely hF
    u_op lv_rely hF
    u_c stepG_region_end lv_rely hF
    u_c stepG_seq lv_rely hF
    u_reg lv_rely hF
    u_op lv_rely hF
    u_op lv_rely hF
    u_op lv_rely hF
    u_op lv_rely hF
    u_c stepG_region_end lv_rely hF
    u_c stepG_seq lv_rely hF
    u_c stepG_seq lv_rely hF
    u_reg lv_rely hF
    u_op lv_rely hF
    u_op lv_rely hF
    u_c stepG_region_end lv_rely hF
    u_cnd false lv_rely hF
    u_c stepG_skip lv_rely hF
    u_c stepG_seq lv_rely hF
    u_reg lv_rely hF
    u_op lv_rely hF
    u_op lv_rely hF
    u_op lv_rely hF
    u_op lv_rely hF
    u_op lv_rely hF
    u_op lv_rely hF
    u_call H.f_uCas (nm_uCas L) uCasFn lv_rely hF
    u_c stepG_seq lv_rely hF
    u_reg lv_rely hF
    u_op lv_rely hF
    u_c stepG_region_end lv_rely hF
    u_c stepG_seq lv_rely hF
    u_reg lv_rely hF
    u_op lv_rely hF
    u_op lv_rely hF
    u_op lv_rely hF
    u_op lv_rely hF
    u_op lv_rely hF
    refine Goes.stop (fun w2 h2 => ?_)
    replace hF := lv_rely hF h2
    clear h2
    refine ⟨rfl, fun v' hv' hw => ⟨fun e => ?_, fun e => ?_⟩⟩
    · subst e
      rw [hS] at hw ⊢
      refine ⟨_, (stepG_cas_hit (v := S) (n := S + 1) rfl rfl (by k_ne) rfl H.f_casU64 (x_casU64_n L) (x_casU64_b L) (x_casU64_x L) .u64 (x_casU64_f L) rfl rfl rfl hw.cellSt (hw.thaw 0)).trans (by rfl), 70, ?_⟩
      replace hF : WgLive L.tWg Wg (w2.setCell (stA Wg) (.int .u64 (S + 1))) := ⟨_, _, hw.setSt _⟩
      clear hw
      walk_nrm
      u_op lv_rely hF
      u_c stepG_region_end lv_rely hF
      u_c stepG_ret' lv_rely hF
      u_leave1 H.f_uCas lv_rely hF
      u_c stepG_region_end lv_rely hF
      u_cond true lv_rely hF
      u_c stepG_seq lv_rely hF
      u_c stepG_seq lv_rely hF
      u_reg lv_rely hF
      u_op lv_rely hF
      u_op lv_rely hF
      u_op lv_rely hF
      u_op lv_rely hF
      u_c stepG_region_end lv_rely hF
      u_cond true lv_rely hF
      u_reg lv_rely hF
      u_op lv_rely hF
      u_op lv_rely hF
      u_op lv_rely hF
      u_conv H.underlying_tPU32 H.room_tU32 (WgLive.cell1 hF).choose_spec lv_rely hF
      refine Goes.stop (fun w3 h3 => ?_)
      replace hF := lv_rely hF h3
      clear h3
      refine ⟨rfl, _, stepG_markAt .write (by simp) rfl rfl (by k_ne) rfl H.f_raceWrite (x_raceWrite_n L) (x_raceWrite_b L) (x_raceWrite_x L) (x_raceWrite_f L) (by simp [Act.eval, smA]), 70, ?_⟩
      walk_nrm
      u_c stepG_region_end lv_rely hF
      u_c stepG_seq lv_rely hF
      u_reg lv_rely hF
      u_op lv_rely hF
      u_c stepG_region_end lv_rely hF
      u_c stepG_seq lv_rely hF
      u_c stepG_seq lv_rely hF
      u_reg lv_rely hF
      u_op lv_rely hF
      u_op lv_rely hF
      u_op lv_rely hF
      u_op lv_rely hF
      u_skip lv_rely hF
      u_op lv_rely hF
      u_c stepG_region_end lv_rely hF
      u_cond false lv_rely hF
      u_c stepG_skip lv_rely hF
      u_c stepG_seq lv_rely hF
      u_reg lv_rely hF
      u_op lv_rely hF
      u_op lv_rely hF
      u_op lv_rely hF
      u_op lv_rely hF
      refine Goes.stop (fun w4 h4 => ?_)
      replace hF := lv_rely hF h4
      clear h4
      refine ⟨rfl, rfl, fun ⟨st, hw⟩ => stepG_semacquire_wait rfl rfl rfl H.f_semacquire (x_semacquire_n L) (x_semacquire_b L) (x_semacquire_x L) (x_semacquire_f L) (by simp [Act.eval, smA]) hw.cellSm, fun hf => ?_⟩
      refine ⟨_, (stepG_semacquire (n := 1) rfl rfl (by k_ne) rfl H.f_semacquire (x_semacquire_n L) (x_semacquire_b L) (x_semacquire_x L) (x_semacquire_f L) (by simp [Act.eval, smA]) hf.cellSm (by k_ne) (hf.thaw 1)).trans (by rfl), 30, ?_⟩
      replace hF : WgLive L.tWg Wg (w4.setCell (smA Wg) (.int .u32 0)) := ⟨_, _, hf.setSm 0⟩
      clear hf
      walk_nrm
      u_c stepG_region_end lv_rely hF
      u_c stepG_seq lv_rely hF
      u_reg lv_rely hF
      u_op lv_rely hF
      u_op lv_rely hF
      u_op lv_rely hF
      u_call H.f_uLoad (nm_uLoad L) uLoadFn lv_rely hF
      u_c stepG_seq lv_rely hF
      u_reg lv_rely hF
      u_op lv_rely hF
      u_c stepG_region_end lv_rely hF
      u_c stepG_seq lv_rely hF
      u_reg lv_rely hF
      u_op lv_rely hF
      u_op lv_rely hF
      u_op lv_rely hF
      refine Goes.stop (fun w5 h5 => ?_)
      replace hF := lv_rely hF h5
      clear h5
      refine ⟨rfl, fun hw => ⟨_, stepG_load_atomic (v := 0) rfl rfl (by k_ne) rfl H.f_loadU64 (x_loadU64_n L) (x_loadU64_b L) (x_loadU64_x L) .u64 (x_loadU64_f L) rfl hw.cellSt, 30, ?_⟩⟩
      clear hw
      walk_nrm
      u_op lv_rely hF
      u_c stepG_region_end lv_rely hF
      u_c stepG_ret' lv_rely hF
      u_leave1 H.f_uLoad lv_rely hF
      u_op lv_rely hF
      u_op lv_rely hF
      u_c stepG_region_end lv_rely hF
      u_c stepG_seq lv_rely hF
      u_cond true lv_rely hF
      u_c stepG_seq lv_rely hF
      u_reg lv_rely hF
      refine Goes.stop (fun w6 h6 => ?_)
      replace hF := lv_rely hF h6
      clear h6
      refine ⟨rfl, _, stepG_mark0 .enable (by simp) rfl rfl (by k_ne) rfl H.f_enable (x_enable_n L) (x_enable_b L) (x_enable_x L) (x_enable_f L), 12, ?_⟩
      walk_nrm
      u_c stepG_region_end lv_rely hF
      u_reg lv_rely hF
      u_op lv_rely hF
      u_conv H.underlying_tWgP H.room_tWg (WgLive.cell0 hF).choose_spec lv_rely hF
      refine Goes.stop (fun w7 h7 => ?_)
      replace hF := lv_rely hF h7
      clear h7
      refine ⟨rfl, _, stepG_markAt .acquire (by simp) rfl rfl (by k_ne) rfl H.f_acquire (x_acquire_n L) (x_acquire_b L) (x_acquire_x L) (x_acquire_f L) (by simp [Act.eval, stA]), 30, ?_⟩
      walk_nrm
      u_c stepG_region_end lv_rely hF
      u_c stepG_seq lv_rely hF
      u_c stepG_seq lv_rely hF
      u_reg lv_rely hF
      u_op lv_rely hF
      u_c stepG_region_end lv_rely hF
      u_cond false lv_rely hF
      u_c stepG_skip lv_rely hF
      u_c stepG_ret' lv_rely hF
      u_leave0 H.f_wait lv_rely hF
      exact Goes.stop fun w9 h9 => ⟨rfl, lv_rely hF h9⟩
    · refine ⟨_, stepG_cas_miss (v := (v' : Int) * KK) (old := S) (n := S + 1) rfl rfl (by k_ne) rfl H.f_casU64 (x_casU64_n L) (x_casU64_b L) (x_casU64_x L) .u64 (x_casU64_f L) rfl rfl rfl hw.cellSt (hw.thaw 0) (by rw [← hS]; simp only [KK]; omega), 20, ?_⟩
      clear hw
      walk_nrm
      u_op lv_rely hF
      u_c stepG_region_end lv_rely hF
      u_c stepG_ret' lv_rely hF
      u_leave1 H.f_uCas lv_rely hF
      u_c stepG_region_end lv_rely hF
      u_cond false lv_rely hF
      u_c stepG_skip lv_rely hF
      u_c stepG_inBlock lv_rely hF
      u_c stepG_inLoop lv_rely hF
      refine Goes.stop (fun w3 h3 => ?_)
      replace hF := lv_rely hF h3
      exact ⟨_, rfl, by simp, by simp, hF⟩
end
end Go.X
namespace Go.X
open Go.Conc Go.RowKit Go.Conc.Lib Go.ConcR.Gen Go.ConcN.Gen
open Go.ConcR (KK wgBlock WgAt stA smA rd wr mk DC0)
open Go.ConcN (WgLive st_flag st_waiters)
open Go.ConcN.Gen

section
variable {L : WgLink} {Wg : Nat} {b₀ : Frame} {a₀ : Act} {ops₀ : Array Oper} {i₀ : Nat} {rest₀ : List Nat} {k₀ : List Item} {cs : List Frame}
set_option maxRecDepth 100000 in
set_option maxHeartbeats 8000000 in
/-- Add(-1), as Done calls it. -/
theorem neg_way {P : Program} (H : WgLib P L) {qt : Nat} (hT : QuitsD P qt 0 (G (b₀.at (a₀.put ((ops₀[i₀]?).bind (·.dst)) (.tuple #[])) (.inRegion ops₀ rest₀ :: k₀)) cs)) (w : World) (hF : WgLive L.tWg Wg w) :
    Goes P false (RLv L.tWg Wg) DC0 (AtR0 P L.tWg Wg) 40 (G ((base L.add).at ⟨#[.pointer (some ⟨Wg, 0, none⟩), .int .i64 (-1), undef, undef, undef, undef, undef, undef, undef, undef, undef, undef, undef, undef, undef, undef, undef, undef, undef, undef, undef, undef, undef, undef, undef, undef, undef, undef, undef, undef, undef, undef, undef, undef, undef, undef, undef, undef, undef, undef, undef, undef, undef, undef, undef, undef, undef, undef, undef, undef, undef, undef, undef, undef, undef, undef, undef, undef, undef, undef, undef, undef, undef, undef, undef, undef, undef, undef, undef, undef, undef, undef, undef, undef, undef, undef, undef, undef, undef, undef, undef, undef, undef, undef, undef, undef, undef, undef, undef, undef, undef, undef, undef, undef, undef, undef, undef, undef, undef, undef, undef, undef, undef, undef, undef, undef, undef, undef, undef, undef, undef, undef, undef, undef, undef, undef, undef], []⟩ [.code (body_add L)]) (b₀.at a₀ (.inRegion ops₀ (i₀ :: rest₀) :: k₀) :: cs)) w := by
  lib_facts
  simp only [body_add, addFn, Option.getD_some]
  u_c stepG_seq lv_rely hF
  u_cond true lv_rely hF
  u_c stepG_seq lv_rely hF
  u_c stepG_seq lv_rely hF
  u_reg lv_rely hF
  u_op lv_rely hF
  u_op lv_rely hF
  u_c stepG_region_end lv_rely hF
  u_cond true lv_rely hF
  u_reg lv_rely hF
  u_op lv_rely hF
  u_conv H.underlying_tWgP H.room_tWg (WgLive.cell0 hF).choose_spec lv_rely hF
  refine Goes.stop (fun w1 h1 => ?_)
  replace hF := lv_rely hF h1
  clear h1
  refine ⟨rfl, _, stepG_markAt .releaseMerge (by simp) rfl rfl (by k_ne) rfl H.f_relMerge (x_relMerge_n L) (x_relMerge_b L) (x_relMerge_x L) (x_relMerge_f L) (by simp [Act.eval, stA]), 20, ?_⟩
  walk_nrm
  u_c stepG_region_end lv_rely hF
  u_c stepG_seq lv_rely hF
  u_reg lv_rely hF
  refine Goes.stop (fun w2 h2 => ?_)
  replace hF := lv_rely hF h2
  clear h2
  refine ⟨rfl, _, stepG_mark0 .disable (by simp) rfl rfl (by k_ne) rfl H.f_disable (x_disable_n L) (x_disable_b L) (x_disable_x L) (x_disable_f L), 60, ?_⟩
  walk_nrm
  u_c stepG_region_end lv_rely hF
  u_reg lv_rely hF
  u_defer lv_rely hF
  u_c stepG_region_end lv_rely hF
  u_c stepG_seq lv_rely hF
  u_reg lv_rely hF
  u_op lv_rely hF
  u_c stepG_region_end lv_rely hF
  u_c stepG_seq lv_rely hF
  u_c stepG_seq lv_rely hF
  u_reg lv_rely hF
  u_bub lv_rely hF
  u_c stepG_region_end lv_rely hF
  u_cond false lv_rely hF
  u_c stepG_skip lv_rely hF
  u_c stepG_seq lv_rely hF
  u_reg lv_rely hF
  u_op lv_rely hF
  u_op lv_rely hF
  u_op lv_rely hF
  u_op lv_rely hF
  u_op lv_rely hF
  u_op lv_rely hF
  u_call H.f_uAdd (nm_uAdd L) uAddFn lv_rely hF
  u_c stepG_seq lv_rely hF
  u_reg lv_rely hF
  u_op lv_rely hF
  u_c stepG_region_end lv_rely hF
  u_c stepG_seq lv_rely hF
  u_reg lv_rely hF
  u_op lv_rely hF
  u_op lv_rely hF
  u_op lv_rely hF
  u_op lv_rely hF
  refine Goes.stop (fun w3 h3 => ?_)
  clear h3 hF
  refine ⟨rfl, fun v wt hwt hv hw => ?_⟩
  have e0 : IntKind.u64.wrap (KK + 18446744069414584320) = 0 := by decide
  have e1 : IntKind.u64.wrap (KK + 1 + 18446744069414584320) = 1 := by decide
  rcases Nat.eq_zero_or_pos v with rfl | hvp <;> (obtain rfl | rfl : wt = 0 ∨ wt = 1 := by omega)
  · replace hw : WgAt L.tWg Wg w3 KK 0 := by simpa using hw
    have z : ((0 : Nat) : Int) * KK + ((0 : Nat) : Int) = 0 := by simp
    rw [z]
    refine ⟨_, (stepG_add_atomic rfl rfl (by k_ne) rfl H.f_addU64 (x_addU64_n L) (x_addU64_b L) (x_addU64_x L) .u64 (x_addU64_f L) rfl rfl hw.cellSt (hw.thaw 0)).trans (by rw [e0]; rfl), fun hl => absurd hl.2 (by decide), fun _ => ⟨qt + 89, ?_⟩⟩
    clear hw
    walk_nrm
    q_val (.int .u64 0)
    q_c stepG_region_end
    q_c stepG_ret'
    q_leave1 H.f_uAdd
    q_val (.int .u64 0)
    q_c stepG_region_end
    q_c stepG_seq
    q_c stepG_seq
    q_reg
    q_val (.int .u64 0)
    q_val (.int .u64 0)
    q_val (.bool false)
    q_val (.bool false)
    q_skip
    q_skip
    q_val (.bool false)
    q_c stepG_region_end
    q_cond false
    q_c stepG_skip
    q_c stepG_seq
    q_reg
    q_val (.int .u64 0)
    q_val (.int .u64 0)
    q_val (.int .i32 0)
    q_val (.int .i32 0)
    q_c stepG_region_end
    q_c stepG_seq
    q_reg
    q_val (.int .u64 0)
    q_val (.int .u64 0)
    q_val (.int .u32 0)
    q_val (.int .u32 0)
    q_c stepG_region_end
    q_c stepG_seq
    q_c stepG_seq
    q_reg
    q_val (.bool true)
    q_val (.int .i64 (-1))
    q_val (.bool false)
    q_val (.bool false)
    q_val (.bool false)
    q_skip
    q_skip
    q_skip
    q_skip
    q_val (.bool false)
    q_c stepG_region_end
    q_cond false
    q_c stepG_skip
    q_c stepG_seq
    q_c stepG_seq
    q_reg
    q_val (.int .i32 0)
    q_val (.bool false)
    q_c stepG_region_end
    q_cond false
    q_c stepG_skip
    q_c stepG_seq
    q_c stepG_seq
    q_reg
    q_val (.int .u32 0)
    q_val (.bool false)
    q_val (.bool false)
    q_skip
    q_skip
    q_val (.bool false)
    q_val (.bool false)
    q_skip
    q_skip
    q_skip
    q_skip
    q_val (.bool false)
    q_c stepG_region_end
    q_cond false
    q_c stepG_skip
    q_c stepG_seq
    q_c stepG_seq
    q_reg
    q_val (.int .i32 0)
    q_val (.bool false)
    q_val (.bool false)
    q_val (.int .u32 0)
    q_val (.bool true)
    q_val (.bool true)
    q_c stepG_region_end
    q_cond true
    q_c stepG_ret'
    q_enable
    q_leave0 H.f_add
    exact hT
  · replace hw : WgAt L.tWg Wg w3 (KK + 1) 0 := by simpa using hw
    have z : ((0 : Nat) : Int) * KK + ((1 : Nat) : Int) = 1 := by simp
    rw [z]
    refine ⟨_, (stepG_add_atomic rfl rfl (by k_ne) rfl H.f_addU64 (x_addU64_n L) (x_addU64_b L) (x_addU64_x L) .u64 (x_addU64_f L) rfl rfl hw.cellSt (hw.thaw 0)).trans (by rw [e1]; rfl), fun _ => ⟨180, ?_⟩, fun hl => absurd ⟨rfl, rfl⟩ hl⟩
    have hF : WgLive L.tWg Wg (w3.setCell (stA Wg) (.int .u64 1)) := ⟨_, _, hw.setSt 1⟩
    clear hw
    walk_nrm
    u_op lv_rely hF
    u_c stepG_region_end lv_rely hF
    u_c stepG_ret' lv_rely hF
    u_leave1 H.f_uAdd lv_rely hF
    u_op lv_rely hF
    u_c stepG_region_end lv_rely hF
    u_c stepG_seq lv_rely hF
    u_c stepG_seq lv_rely hF
    u_reg lv_rely hF
    u_op lv_rely hF
    u_op lv_rely hF
    u_op lv_rely hF
    u_op lv_rely hF
    u_skip lv_rely hF
    u_skip lv_rely hF
    u_op lv_rely hF
    u_c stepG_region_end lv_rely hF
    u_cond false lv_rely hF
    u_c stepG_skip lv_rely hF
    u_c stepG_seq lv_rely hF
    u_reg lv_rely hF
    u_op lv_rely hF
    u_op lv_rely hF
    u_op lv_rely hF
    u_op lv_rely hF
    u_c stepG_region_end lv_rely hF
    u_c stepG_seq lv_rely hF
    u_reg lv_rely hF
    u_op lv_rely hF
    u_op lv_rely hF
    u_op lv_rely hF
    u_op lv_rely hF
    u_c stepG_region_end lv_rely hF
    u_c stepG_seq lv_rely hF
    u_c stepG_seq lv_rely hF
    u_reg lv_rely hF
    u_op lv_rely hF
    u_op lv_rely hF
    u_op lv_rely hF
    u_op lv_rely hF
    u_op lv_rely hF
    u_skip lv_rely hF
    u_skip lv_rely hF
    u_skip lv_rely hF
    u_skip lv_rely hF
    u_op lv_rely hF
    u_c stepG_region_end lv_rely hF
    u_cond false lv_rely hF
    u_c stepG_skip lv_rely hF
    u_c stepG_seq lv_rely hF
    u_c stepG_seq lv_rely hF
    u_reg lv_rely hF
    u_op lv_rely hF
    u_op lv_rely hF
    u_c stepG_region_end lv_rely hF
    u_cond false lv_rely hF
    u_c stepG_skip lv_rely hF
    u_c stepG_seq lv_rely hF
    u_c stepG_seq lv_rely hF
    u_reg lv_rely hF
    u_op lv_rely hF
    u_op lv_rely hF
    u_op lv_rely hF
    u_op lv_rely hF
    u_op lv_rely hF
    u_op lv_rely hF
    u_op lv_rely hF
    u_skip lv_rely hF
    u_skip lv_rely hF
    u_skip lv_rely hF
    u_skip lv_rely hF
    u_op lv_rely hF
    u_c stepG_region_end lv_rely hF
    u_cond false lv_rely hF
    u_c stepG_skip lv_rely hF
    u_c stepG_seq lv_rely hF
    u_c stepG_seq lv_rely hF
    u_reg lv_rely hF
    u_op lv_rely hF
    u_op lv_rely hF
    u_op lv_rely hF
    u_op lv_rely hF
    u_op lv_rely hF
    u_op lv_rely hF
    u_c stepG_region_end lv_rely hF
    u_cond false lv_rely hF
    u_c stepG_skip lv_rely hF
    u_c stepG_seq lv_rely hF
    u_c stepG_seq lv_rely hF
    u_reg lv_rely hF
    u_op lv_rely hF
    u_op lv_rely hF
    u_op lv_rely hF
    u_call H.f_uLoad (nm_uLoad L) uLoadFn lv_rely hF
    u_c stepG_seq lv_rely hF
    u_reg lv_rely hF
    u_op lv_rely hF
    u_c stepG_region_end lv_rely hF
    u_c stepG_seq lv_rely hF
    u_reg lv_rely hF
    u_op lv_rely hF
    u_op lv_rely hF
    u_op lv_rely hF
    refine Goes.stop (fun w4 h4 => ?_)
    clear h4 hF
    refine ⟨rfl, fun hw => ⟨_, stepG_load_atomic (v := 1) rfl rfl (by k_ne) rfl H.f_loadU64 (x_loadU64_n L) (x_loadU64_b L) (x_loadU64_x L) .u64 (x_loadU64_f L) rfl hw.cellSt, 60, ?_⟩⟩
    have hF : WgLive L.tWg Wg w4 := ⟨_, _, hw⟩
    clear hw
    walk_nrm
    u_op lv_rely hF
    u_c stepG_region_end lv_rely hF
    u_c stepG_ret' lv_rely hF
    u_leave1 H.f_uLoad lv_rely hF
    u_op lv_rely hF
    u_op lv_rely hF
    u_c stepG_region_end lv_rely hF
    u_cond false lv_rely hF
    u_c stepG_skip lv_rely hF
    u_c stepG_seq lv_rely hF
    u_reg lv_rely hF
    u_op lv_rely hF
    u_op lv_rely hF
    u_op lv_rely hF
    u_call H.f_uStore (nm_uStore L) uStoreFn lv_rely hF
    u_reg lv_rely hF
    u_op lv_rely hF
    u_op lv_rely hF
    u_op lv_rely hF
    u_op lv_rely hF
    refine Goes.stop (fun w5 h5 => ?_)
    clear h5 hF
    refine ⟨rfl, fun hw => ⟨_, stepG_store_atomic rfl rfl (by k_ne) rfl H.f_storeU64 (x_storeU64_n L) (x_storeU64_b L) (x_storeU64_x L) (x_storeU64_f L) rfl rfl hw.cellSt (hw.thaw 0), 60, ?_⟩⟩
    have hF : WgLive L.tWg Wg (w5.setCell (stA Wg) (.int .u64 0)) := ⟨_, _, hw.setSt 0⟩
    clear hw
    walk_nrm
    u_c stepG_region_end lv_rely hF
    u_c stepG_end lv_rely hF
    u_leave0 H.f_uStore lv_rely hF
    u_c stepG_region_end lv_rely hF
    u_c stepG_seq lv_rely hF
    u_c stepG_seq lv_rely hF
    u_reg lv_rely hF
    u_op lv_rely hF
    u_c stepG_region_end lv_rely hF
    u_cond false lv_rely hF
    u_c stepG_skip lv_rely hF
    u_c stepG_block lv_rely hF
    u_c stepG_loop lv_rely hF
    u_c stepG_seq lv_rely hF
    u_c stepG_seq lv_rely hF
    u_reg lv_rely hF
    u_op lv_rely hF
    u_op lv_rely hF
    u_c stepG_region_end lv_rely hF
    u_cond true lv_rely hF
    u_c stepG_skip lv_rely hF
    u_c stepG_seq lv_rely hF
    u_c stepG_block lv_rely hF
    u_reg lv_rely hF
    u_op lv_rely hF
    u_op lv_rely hF
    u_op lv_rely hF
    refine Goes.stop (fun w6 h6 => ?_)
    clear h6 hF
    refine ⟨rfl, mayWake_entry rfl rfl H.f_semrelease (x_semrelease_b L), fun hw => ⟨_, (stepG_semrelease rfl rfl (by k_ne) rfl H.f_semrelease (x_semrelease_n L) (x_semrelease_b L) (x_semrelease_x L) (x_semrelease_f L) (by simp [Act.eval, smA]) hw.cellSm (hw.thaw 1)).trans (by rfl), qt + 19, ?_⟩⟩
    clear hw
    walk_nrm
    q_c stepG_region_end
    q_c stepG_inBlock
    q_reg
    q_val (.int .u32 1)
    q_val (.int .u32 0)
    q_val (.int .u32 0)
    q_c stepG_region_end
    q_c stepG_inLoop
    q_c stepG_seq
    q_c stepG_seq
    q_reg
    q_val (.int .u32 0)
    q_val (.bool false)
    q_c stepG_region_end
    q_cond false
    q_exit
    q_c stepG_end
    q_enable
    q_leave0 H.f_add
    exact hT
  · replace hw : WgAt L.tWg Wg w3 (((v : Nat) + 1) * KK + 0) 0 := by simpa using hw
    have z : ((v : Nat) : Int) * KK + ((0 : Nat) : Int) = (v : Int) * KK + 0 := by simp
    rw [z]
    have hv0 : 0 < v := by omega
    have eS : IntKind.u64.wrap (((v : Nat) + 1) * KK + 0 + 18446744069414584320) = (v : Int) * KK + 0 := by rw [IntKind.wrap_u64]; simp only [KK]; omega
    obtain ⟨S, hS⟩ : ∃ S : Int, S = (v : Int) * KK + 0 := ⟨_, rfl⟩
    rw [← hS] at eS ⊢
    have a1 : S / 4294967296 = (v : Int) := by rw [hS]; simp only [KK]; omega
    have a2 : 0 ≤ S ∧ S < 9223372036854775808 := by rw [hS]; simp only [KK]; omega
    have b1 : bits .and .u64 S 2147483648 = 0 := by rw [hS]; have := st_flag v 0 (by omega) (by omega); simpa [KK] using this
    have b2 : bits .and .u64 S 2147483647 = 0 := by rw [hS]; have := st_waiters v 0 (by omega) (by omega); simpa [KK] using this
    clear hS z
    refine ⟨_, (stepG_add_atomic rfl rfl (by k_ne) rfl H.f_addU64 (x_addU64_n L) (x_addU64_b L) (x_addU64_x L) .u64 (x_addU64_f L) rfl rfl hw.cellSt (hw.thaw 0)).trans (by rw [eS]; rfl), fun hl => absurd hl.1 (by omega), fun _ => ⟨qt + 89, ?_⟩⟩
    clear hw
    walk_nrm
    q_vn (.int .u64 S)
    q_c stepG_region_end
    q_c stepG_ret'
    q_leave1 H.f_uAdd
    q_vn (.int .u64 S)
    q_c stepG_region_end
    q_c stepG_seq
    q_c stepG_seq
    q_reg
    q_vn (.int .u64 S)
    q_vn (.int .u64 0)
    q_vn (.bool false)
    q_vn (.bool false)
    q_skip
    q_skip
    q_vn (.bool false)
    q_c stepG_region_end
    q_cond false
    q_c stepG_skip
    q_c stepG_seq
    q_reg
    q_vn (.int .u64 S)
    q_vn (.int .u64 (v : Int))
    q_vn (.int .i32 (v : Int))
    q_vn (.int .i32 (v : Int))
    q_c stepG_region_end
    q_c stepG_seq
    q_reg
    q_vn (.int .u64 S)
    q_vn (.int .u64 0)
    q_vn (.int .u32 0)
    q_vn (.int .u32 0)
    q_c stepG_region_end
    q_c stepG_seq
    q_c stepG_seq
    q_reg
    q_vn (.bool true)
    q_vn (.int .i64 (-1))
    q_vn (.bool false)
    q_vn (.bool false)
    q_vn (.bool false)
    q_skip
    q_skip
    q_skip
    q_skip
    q_vn (.bool false)
    q_c stepG_region_end
    q_cond false
    q_c stepG_skip
    q_c stepG_seq
    q_c stepG_seq
    q_reg
    q_vn (.int .i32 (v : Int))
    q_vn (.bool false)
    q_c stepG_region_end
    q_cond false
    q_c stepG_skip
    q_c stepG_seq
    q_c stepG_seq
    q_reg
    q_vn (.int .u32 0)
    q_vn (.bool false)
    q_vn (.bool false)
    q_skip
    q_skip
    q_vn (.bool false)
    q_vn (.bool false)
    q_skip
    q_skip
    q_skip
    q_skip
    q_vn (.bool false)
    q_c stepG_region_end
    q_cond false
    q_c stepG_skip
    q_c stepG_seq
    q_c stepG_seq
    q_reg
    q_vn (.int .i32 (v : Int))
    q_vn (.bool true)
    q_vn (.bool true)
    q_skip
    q_skip
    q_vn (.bool true)
    q_c stepG_region_end
    q_cond true
    q_c stepG_ret'
    q_enable
    q_leave0 H.f_add
    exact hT
  · replace hw : WgAt L.tWg Wg w3 (((v : Nat) + 1) * KK + 1) 0 := by simpa using hw
    have z : ((v : Nat) : Int) * KK + ((1 : Nat) : Int) = (v : Int) * KK + 1 := by simp
    rw [z]
    have hv0 : 0 < v := by omega
    have eS : IntKind.u64.wrap (((v : Nat) + 1) * KK + 1 + 18446744069414584320) = (v : Int) * KK + 1 := by rw [IntKind.wrap_u64]; simp only [KK]; omega
    obtain ⟨S, hS⟩ : ∃ S : Int, S = (v : Int) * KK + 1 := ⟨_, rfl⟩
    rw [← hS] at eS ⊢
    have a1 : S / 4294967296 = (v : Int) := by rw [hS]; simp only [KK]; omega
    have a2 : 0 ≤ S ∧ S < 9223372036854775808 := by rw [hS]; simp only [KK]; omega
    have b1 : bits .and .u64 S 2147483648 = 0 := by rw [hS]; have := st_flag v 1 (by omega) (by omega); simpa [KK] using this
    have b2 : bits .and .u64 S 2147483647 = 1 := by rw [hS]; have := st_waiters v 1 (by omega) (by omega); simpa [KK] using this
    clear hS z
    refine ⟨_, (stepG_add_atomic rfl rfl (by k_ne) rfl H.f_addU64 (x_addU64_n L) (x_addU64_b L) (x_addU64_x L) .u64 (x_addU64_f L) rfl rfl hw.cellSt (hw.thaw 0)).trans (by rw [eS]; rfl), fun hl => absurd hl.1 (by omega), fun _ => ⟨qt + 89, ?_⟩⟩
    clear hw
    walk_nrm
    q_vn (.int .u64 S)
    q_c stepG_region_end
    q_c stepG_ret'
    q_leave1 H.f_uAdd
    q_vn (.int .u64 S)
    q_c stepG_region_end
    q_c stepG_seq
    q_c stepG_seq
    q_reg
    q_vn (.int .u64 S)
    q_vn (.int .u64 0)
    q_vn (.bool false)
    q_vn (.bool false)
    q_skip
    q_skip
    q_vn (.bool false)
    q_c stepG_region_end
    q_cond false
    q_c stepG_skip
    q_c stepG_seq
    q_reg
    q_vn (.int .u64 S)
    q_vn (.int .u64 (v : Int))
    q_vn (.int .i32 (v : Int))
    q_vn (.int .i32 (v : Int))
    q_c stepG_region_end
    q_c stepG_seq
    q_reg
    q_vn (.int .u64 S)
    q_vn (.int .u64 1)
    q_vn (.int .u32 1)
    q_vn (.int .u32 1)
    q_c stepG_region_end
    q_c stepG_seq
    q_c stepG_seq
    q_reg
    q_vn (.bool true)
    q_vn (.int .i64 (-1))
    q_vn (.bool false)
    q_vn (.bool false)
    q_vn (.bool false)
    q_skip
    q_skip
    q_skip
    q_skip
    q_vn (.bool false)
    q_c stepG_region_end
    q_cond false
    q_c stepG_skip
    q_c stepG_seq
    q_c stepG_seq
    q_reg
    q_vn (.int .i32 (v : Int))
    q_vn (.bool false)
    q_c stepG_region_end
    q_cond false
    q_c stepG_skip
    q_c stepG_seq
    q_c stepG_seq
    q_reg
    q_vn (.int .u32 1)
    q_vn (.bool true)
    q_vn (.bool true)
    q_vn (.int .i64 (-1))
    q_vn (.bool false)
    q_vn (.bool false)
    q_vn (.bool false)
    q_skip
    q_skip
    q_skip
    q_skip
    q_vn (.bool false)
    q_c stepG_region_end
    q_cond false
    q_c stepG_skip
    q_c stepG_seq
    q_c stepG_seq
    q_reg
    q_vn (.int .i32 (v : Int))
    q_vn (.bool true)
    q_vn (.bool true)
    q_skip
    q_skip
    q_vn (.bool true)
    q_c stepG_region_end
    q_cond true
    q_c stepG_ret'
    q_enable
    q_leave0 H.f_add
    exact hT
set_option maxRecDepth 100000 in
set_option maxHeartbeats 8000000 in
/-- A deferred Done. -/
theorem done_way {P : Program} (H : WgLib P L) {c : Frame} {qt : Nat} (hcm : c.mode = .returning) (hT : QuitsD P qt 0 (G c cs)) (w : World) (hF : WgLive L.tWg Wg w) :
    Goes P false (RLv L.tWg Wg) DC0 (AtR0 P L.tWg Wg) 43 (G ((baseD L.done).at ⟨#[.pointer (some ⟨Wg, 0, none⟩), undef, undef, undef], []⟩ [.code (body_done L)]) (c :: cs)) w := by
  lib_facts
  have hA := @neg_way L Wg
  simp only [body_done, body_add, doneFn, addFn, Option.getD_some] at hA ⊢
  u_reg lv_rely hF
  u_op lv_rely hF
  u_in lv_rely hF
  refine goes_call rfl rfl (by k_ne) rfl H.f_add (nm_add L) rfl ⟨by u_nil, ?_⟩
  walk_nrmf addFn
  refine hA (qt := qt + 3) H ?_ _ hF
  q_c stepG_region_end
  q_c stepG_end
  exact QuitsD.leaveD rfl rfl H.f_done rfl hcm hT
end
end Go.X
namespace Go.X
open Go.Conc Go.RowKit Go.Conc.Lib Go.ConcR.Gen Go.ConcN.Gen

theorem und_append {a : Array Value} {n : Nat} {l l' : List Value} (ha : a = l.toArray) (h : l ++ List.replicate n undef = l') : a ++ Array.replicate n undef = l'.toArray := by
  subst h; subst ha; simp

set_option maxRecDepth 100000 in
theorem enter_add {P : Program} {L : WgLink} (H : WgLib P L) (x y : Value) : Frame.enter P L.add #[x, y] .normal = (base L.add).at ⟨#[x, y, undef, undef, undef, undef, undef, undef, undef, undef, undef, undef, undef, undef, undef, undef, undef, undef, undef, undef, undef, undef, undef, undef, undef, undef, undef, undef, undef, undef, undef, undef, undef, undef, undef, undef, undef, undef, undef, undef, undef, undef, undef, undef, undef, undef, undef, undef, undef, undef, undef, undef, undef, undef, undef, undef, undef, undef, undef, undef, undef, undef, undef, undef, undef, undef, undef, undef, undef, undef, undef, undef, undef, undef, undef, undef, undef, undef, undef, undef, undef, undef, undef, undef, undef, undef, undef, undef, undef, undef, undef, undef, undef, undef, undef, undef, undef, undef, undef, undef, undef, undef, undef, undef, undef, undef, undef, undef, undef, undef, undef, undef, undef, undef, undef, undef, undef], []⟩ [.code (body_add L)] := by
  rw [enter_at _ H.f_add (show (addFn L).body = some (body_add L) from rfl)]
  have e : (#[x, y] : Array Value) ++ Array.replicate ((addFn L).ntmps - (#[x, y] : Array Value).size) undef = #[x, y, undef, undef, undef, undef, undef, undef, undef, undef, undef, undef, undef, undef, undef, undef, undef, undef, undef, undef, undef, undef, undef, undef, undef, undef, undef, undef, undef, undef, undef, undef, undef, undef, undef, undef, undef, undef, undef, undef, undef, undef, undef, undef, undef, undef, undef, undef, undef, undef, undef, undef, undef, undef, undef, undef, undef, undef, undef, undef, undef, undef, undef, undef, undef, undef, undef, undef, undef, undef, undef, undef, undef, undef, undef, undef, undef, undef, undef, undef, undef, undef, undef, undef, undef, undef, undef, undef, undef, undef, undef, undef, undef, undef, undef, undef, undef, undef, undef, undef, undef, undef, undef, undef, undef, undef, undef, undef, undef, undef, undef, undef, undef, undef, undef, undef, undef] := und_append (l := [x, y]) (n := 115) rfl rfl
  rw [e]
set_option maxRecDepth 100000 in
theorem enter_wait {P : Program} {L : WgLink} (H : WgLib P L) (x : Value) : Frame.enter P L.wait #[x] .normal = (base L.wait).at ⟨#[x, undef, undef, undef, undef, undef, undef, undef, undef, undef, undef, undef, undef, undef, undef, undef, undef, undef, undef, undef, undef, undef, undef, undef, undef, undef, undef, undef, undef, undef, undef, undef, undef, undef, undef, undef, undef, undef, undef, undef, undef, undef, undef, undef, undef, undef, undef, undef, undef, undef, undef, undef, undef, undef, undef, undef, undef, undef, undef, undef, undef, undef, undef, undef, undef, undef, undef, undef, undef, undef, undef, undef, undef, undef, undef, undef, undef, undef, undef, undef, undef, undef, undef, undef], []⟩ [.code (body_wait L)] := by
  rw [enter_at _ H.f_wait (show (waitFn L).body = some (body_wait L) from rfl)]
  have e : (#[x] : Array Value) ++ Array.replicate ((waitFn L).ntmps - (#[x] : Array Value).size) undef = #[x, undef, undef, undef, undef, undef, undef, undef, undef, undef, undef, undef, undef, undef, undef, undef, undef, undef, undef, undef, undef, undef, undef, undef, undef, undef, undef, undef, undef, undef, undef, undef, undef, undef, undef, undef, undef, undef, undef, undef, undef, undef, undef, undef, undef, undef, undef, undef, undef, undef, undef, undef, undef, undef, undef, undef, undef, undef, undef, undef, undef, undef, undef, undef, undef, undef, undef, undef, undef, undef, undef, undef, undef, undef, undef, undef, undef, undef, undef, undef, undef, undef, undef, undef] := und_append (l := [x]) (n := 83) rfl rfl
  rw [e]
end Go.X
namespace Go.X
open Go.Conc Go.Conc.Lib
open Go.ConcR (DC0)
open Go.ConcN (WgLive)

section
variable {P : Program} {md : Md} {f : FuncId} {r : Rd} {df : List Deferred} {k : List Item} {cs : List Frame} {Stop : Goroutine → Heap → Prop} {ops rest : List Oper} {tm tm' : List Value} {Φ : Heap → Prop} {L : WgLink}
  {dd : Tmp} {args : List Operand} {ats : Array TypeId} {ty : TypeId} {pos : String} {aft : Array Edge} {gd : Option (Nat × Bool)} {Wg : Nat}

/-- Where it goes on behind an operation. -/
def Behind (P : Program) (f : FuncId) (r : Rd) (df : List Deferred) (k : List Item) (cs : List Frame) (ops rest : List Oper) (tm' : List Value) (gb : Goroutine) : Prop :=
  ∀ (md' : Md) (Φ' : Heap → Prop) (Stop' : Goroutine → Heap → Prop) (h' : Heap), RL P md' f r df k cs Stop' ops rest tm' Φ' → Φ' h' → Reach P md' gb h' Stop'

theorem behind_at {pre : List Oper} {o : Oper} (e : ops = pre ++ o :: rest) (hr : r.round = none) {v : Value} (ht : putl tm o.dst v = tm') :
    Behind P f r df k cs ops rest tm' (G ((B f r).at (Act.put ⟨tm.toArray, df⟩ ((ops.toArray[pre.length]?).bind (·.dst)) v) (.inRegion ops.toArray (List.range' (pre.length + 1) rest.length) :: k)) cs) := by
  intro md' Φ' Stop' h' x y
  have := x (pre ++ [o]) (by simp [e]) h' y
  rw [rl_at e]
  have e2 : (B f r).at (Act.put ⟨tm.toArray, df⟩ ((some o).bind (·.dst)) v) (.inRegion ops.toArray (List.range' (pre.length + 1) rest.length) :: k) = FL f r tm' df (.inRegion ops.toArray (List.range' (pre.length + 1) rest.length) :: k) := by
    subst ht
    rw [F_at hr]
    cases hd : o.dst with
    | none => simp [Act.put, putl, hd]
    | some d => simp [Act.put, putl, hd]
  rw [e2]
  simpa using this

theorem wpS_op_call {tm : List Value} {x : Operand} {g : FuncId} {vs : List Value} {h : Heap} {K : Next → Heap → Prop} (hx : evl tm x = .func (.func g) #[] #[]) (hvs : args.map (evl tm) = vs) (hg : callable P g = true) (y : K (.enter g vs.toArray) h) :
    wpS P (execOp (evl tm) ⟨some dd, .call ⟨.value x, args.toArray, ats⟩, ty, pos, aft, gd⟩) h K := by
  have := wpS_call (P := P) (tm := tm) (h := h) (args := args) (ats := ats) (d := some dd) (ty := ty) (pos := pos) (aft := aft) (gd := gd) (x := x) (g := g) (first := []) (cap := []) (vs := vs) (by simpa using hx) (by simpa using hvs) hg
  refine wpS_mono this ?_
  rintro n h' ⟨e1, e2⟩
  subst e1; subst e2
  simpa using y

set_option maxRecDepth 100000 in
/-- A call of 'Add(1)' is entered. -/
theorem rl_add [Stb Φ] (H : WgLib P L) (hm : Met ops tm ⟨some dd, .call ⟨.value (.func L.add), args.toArray, ats⟩, ty, pos, aft, gd⟩ true) (hvs : args.map (evl tm) = [.pointer (some ⟨Wg, 0, none⟩), .int .i64 1]) (hr : r.round = none)
    (hc : callable P L.add = true) (ht : tm.set dd (.tuple #[]) = tm')
    (x : ∀ ge gb, (∀ w, WgLive L.tWg Wg w → ∃ m, Goes P true (RLv L.tWg Wg) DC0 (AtKdS P L.tWg Wg gb) m ge w) → Behind P f r df k cs ops rest tm' gb → ∀ h, Φ h → Reach P md ge h Stop) :
    RL P md f r df k cs Stop ops (⟨some dd, .call ⟨.value (.func L.add), args.toArray, ats⟩, ty, pos, aft, gd⟩ :: rest) tm Φ := by
  intro pre e
  rw [rl_next]
  refine rs_op (rl_at e) (wanted_of_met hm) B_kind (.inr rfl) fun h y => ?_
  rw [ev_toArray]
  refine wpS_op_call rfl hvs hc ?_
  refine x _ _ (fun w hw => ?_) (behind_at e hr (by exact ht)) h y
  have hway := add_way (cs := cs) (b₀ := B f r) (a₀ := ⟨tm.toArray, df⟩) (ops₀ := ops.toArray) (i₀ := pre.length) (rest₀ := List.range' (pre.length + 1) rest.length) (k₀ := k) H w hw
  have e2 : (F (B f r) tm.toArray df (.inRegion ops.toArray (pre.length :: List.range' (pre.length + 1) rest.length) :: k)) = (B f r).at ⟨tm.toArray, df⟩ (.inRegion ops.toArray (pre.length :: List.range' (pre.length + 1) rest.length) :: k) := F_at hr
  have e1 : ([.pointer (some ⟨Wg, 0, none⟩), .int .i64 1] : List Value).toArray = #[.pointer (some ⟨Wg, 0, none⟩), .int .i64 1] := rfl
  rw [e2, e1, enter_add H]
  exact hway

set_option maxRecDepth 100000 in
/-- A call of 'Wait' is entered. -/
theorem rl_wait [Stb Φ] (H : WgLib P L) (hm : Met ops tm ⟨some dd, .call ⟨.value (.func L.wait), args.toArray, ats⟩, ty, pos, aft, gd⟩ true) (hvs : args.map (evl tm) = [.pointer (some ⟨Wg, 0, none⟩)]) (hr : r.round = none)
    (hc : callable P L.wait = true) (ht : tm.set dd (.tuple #[]) = tm')
    (x : ∀ ge gb (An : Goroutine → World → Prop), (∀ g w, An g w → g.status = .running) → (∀ g w, An g w → ∃ m, Goes P true (RLv L.tWg Wg) DC0 (AtW1 P L.tWg Wg gb An) m g w) → (∀ w, WgLive L.tWg Wg w → ∃ m, Goes P true (RLv L.tWg Wg) DC0 (AtKd P L.tWg Wg An) m ge w) →
      (∃ l, gb = G (FL f r tm' df (.inRegion ops.toArray l :: k)) cs ∧ l = List.range' (ops.length - rest.length) rest.length) → ∀ h, Φ h → Reach P md ge h Stop) :
    RL P md f r df k cs Stop ops (⟨some dd, .call ⟨.value (.func L.wait), args.toArray, ats⟩, ty, pos, aft, gd⟩ :: rest) tm Φ := by
  intro pre e
  rw [rl_next]
  refine rs_op (rl_at e) (wanted_of_met hm) B_kind (.inr rfl) fun h y => ?_
  rw [ev_toArray]
  refine wpS_op_call rfl hvs hc ?_
  have e2 : (F (B f r) tm.toArray df (.inRegion ops.toArray (pre.length :: List.range' (pre.length + 1) rest.length) :: k)) = (B f r).at ⟨tm.toArray, df⟩ (.inRegion ops.toArray (pre.length :: List.range' (pre.length + 1) rest.length) :: k) := F_at hr
  rw [e2]
  refine x _ (G ((B f r).at (Act.put ⟨tm.toArray, df⟩ ((ops.toArray[pre.length]?).bind (·.dst)) (.tuple #[])) (.inRegion ops.toArray (List.range' (pre.length + 1) rest.length) :: k)) cs) (AnchX L Wg ((B f r).at ⟨tm.toArray, df⟩ (.inRegion ops.toArray (pre.length :: List.range' (pre.length + 1) rest.length) :: k)) cs)
    (fun g w ⟨T, hg, _⟩ => by rw [hg]; rfl) (fun g w hA => wait_round H g w hA) (fun w hw => ?_) ⟨_, ?_, rfl⟩ h y
  · have hway := wait_start (cs := cs) (b₀ := B f r) (a₀ := ⟨tm.toArray, df⟩) (ops₀ := ops.toArray) (i₀ := pre.length) (rest₀ := List.range' (pre.length + 1) rest.length) (k₀ := k) H w hw
    have e1 : ([.pointer (some ⟨Wg, 0, none⟩)] : List Value).toArray = #[.pointer (some ⟨Wg, 0, none⟩)] := rfl
    rw [e1, enter_wait H]
    exact hway
  · rw [rl_at e]
    have hl : ops.length - rest.length = pre.length + 1 := by rw [e]; simp; omega
    rw [hl]
    subst ht
    rw [F_at hr]
    simp [Act.put]

/-- A go statement. -/
theorem rl_go [Stb Φ] {x : Operand} {g : FuncId} {first cap vs : List Value} (hm : Met ops tm ⟨none, .go ⟨.value x, args.toArray, ats⟩, ty, pos, aft, gd⟩ true) (hx : evl tm x = .func (.func g) first.toArray cap.toArray) (hvs : args.map (evl tm) = vs) (hr : r.round = none)
    (n : ∀ ga gn, ga.status = .running → (∀ w, stepG P true ga w = .spawn gn (born P { target := .fn (.func g) cap.toArray, args := (first ++ vs).toArray }) w #[]) → Behind P f r df k cs ops rest tm gn → ∀ h, Φ h → Reach P md ga h Stop) :
    RL P md f r df k cs Stop ops (⟨none, .go ⟨.value x, args.toArray, ats⟩, ty, pos, aft, gd⟩ :: rest) tm Φ := by
  intro pre e h y
  rw [rl_next]
  have hb := behind_at (P := P) (f := f) (df := df) (k := k) (cs := cs) (tm := tm) (tm' := tm) e hr (v := undef) rfl
  have hev : Act.eval ⟨tm.toArray, df⟩ = evl tm := by
    funext z
    rw [← ev_toArray]
    cases z <;> rfl
  rw [F_at hr]
  refine n _ _ rfl (fun w => ?_) hb h y
  have hw := wanted_of_met hm
  have hop : (execOp (Act.eval ⟨tm.toArray, df⟩) ⟨none, .go ⟨.value x, args.toArray, ats⟩, ty, pos, aft, gd⟩).run P w = .ok (.spawn { target := .fn (.func g) cap.toArray, args := (first ++ vs).toArray }) w := by
    rw [hev]
    unfold execOp
    simp [resolve, Deferred.ofValue, hx, hvs]
  rw [stepG_spawn (f := .func g) (c := cap.toArray) (rl_at e) (by exact hw) B_kind hop rfl]
  have hl : listed P (B f r).fn ⟨tm.toArray, df⟩ ⟨none, .go ⟨.value x, args.toArray, ats⟩, ty, pos, aft, gd⟩ w = #[] := by
    unfold listed
    rw [hev]
    have : (execOp (evl tm) ⟨none, .go ⟨.value x, args.toArray, ats⟩, ty, pos, aft, gd⟩).events P w #[] = #[] := by
      unfold execOp
      simp [resolve, Deferred.ofValue, hx, hvs]
    rw [this, seen_none]
  rw [hl, rl_at e]
  rfl
end
end Go.X
namespace Go.X
open Go.Conc Go.Conc.Lib Go.ConcR.Gen
open Go.ConcR (DC0)
open Go.ConcN (WgLive)

section
variable {P : Program} {f : FuncId} {Stop : Goroutine → Heap → Prop} {Φ : Heap → Prop} {L : WgLink} {Wg : Nat} {tm : Array Value} {td : List Item}

/-- The started function's own way out: it only leaves. -/
theorem quits_tail {fn : Func} (hf : P.funcs[f]? = some fn) (hr : fn.results = #[]) : QuitsD P 2 0 (G (FR (B f .dfd) tm [] td) [botF P]) := by
  refine QuitsD.ctl (g' := G (botF P) []) rfl (fun w => ?_) ?_
  · simp [G, stepG, unwind, doReturn, results, FR, B, Rd.kind, Rd.round, botF, hf, hr, seen, GStep.after, goexitEntry]
  refine QuitsD.ctl (g' := { G (botF P) [] with status := .finished }) rfl (fun w => ?_) ⟨rfl, rfl⟩
  simp [G, stepG, unwind, botF, goexitEntry, Frame.catches]
  rfl

theorem rs_done [Stb Φ] (H : WgLib P L) {fn : Func} (hf : P.funcs[f]? = some fn) (hr : fn.results = #[])
    (x : ∀ ge, (∀ w, WgLive L.tWg Wg w → ∃ m, Goes P false (RLv L.tWg Wg) DC0 (AtR0 P L.tWg Wg) m ge w) → ∀ h, Φ h → Reach P (.own false) ge h Stop) :
    RS P (.own false) (G (FR (B f .dfd) tm [dcall L.done #[.pointer (some ⟨Wg, 0, none⟩)]] td) [botF P]) Φ Stop := by
  refine rs_go (g' := G ((baseD L.done).at { tmps := #[.pointer (some ⟨Wg, 0, none⟩)] ++ Array.replicate ((doneFn L).ntmps - (#[.pointer (some ⟨Wg, 0, none⟩)] : Array Value).size) undef, defers := [] } [.code (body_done L)]) (FR (B f .dfd) tm [] td :: [botF P])) rfl (fun w => ?_) ?_
  · exact stepG_unwind_enter (b := B f .dfd) (a := ⟨tm, [dcall L.done #[.pointer (some ⟨Wg, 0, none⟩)]]⟩) (ds := []) (todo := td) rfl H.f_done (nm_done L) rfl
  · exact fun h y => x _ (fun w hw => ⟨43, done_way H rfl (quits_tail hf hr) w hw⟩) h y
end
end Go.X
namespace Go.X
open Go.Conc

def Hp (h : Heap) : PHeap := fun b => h[b]?
theorem Hp_per (h : Heap) : Per (Hp h) h := fun _ _ e => e
theorem Hp_keep {h h' : Heap} (k : Keep h h') : PLe (Hp h) (Hp h') := fun b o e => by
  unfold Hp at e ⊢
  rw [k.keep b (Array.getElem?_eq_some_iff.1 e).1]; exact e
/-- In 'h' block 'b' has these cells. -/
def HC (h : Heap) (b : Nat) (c : Array Value) (e : TypeId) : Prop := ∃ z, h[b]? = some (.cells c e z)
theorem HC.keep {h h' : Heap} {b : Nat} {c : Array Value} {e : TypeId} (x : HC h b c e) (k : Keep h h') : HC h' b c e := by
  obtain ⟨z, hz⟩ := x
  exact ⟨z, (k.keep b (Array.getElem?_eq_some_iff.1 hz).1).trans hz⟩
theorem HC.cut {h : Heap} {b : Nat} {c : Array Value} {e : TypeId} {A K : List Nat} (x : HC h b c e) (h1 : b ∉ A) : HC (cutV A K h) b c e := by
  obtain ⟨z, hz⟩ := x
  by_cases h2 : b ∈ K
  · exact ⟨z, by rw [cutV_get, hz]; simp [h1, h2]⟩
  · exact ⟨(0, c.size), by rw [cutV_get, hz]; simp [h1, h2, frzO]⟩
theorem kept_cut {h : Heap} {b : Nat} {o : Obj} {A K : List Nat} (hz : h[b]? = some o) (h1 : b ∉ A) (h2 : b ∈ K) : (cutV A K h)[b]? = some o := by rw [cutV_get, hz]; simp [h1, h2]
theorem Exc.of {h : Heap} {b : Nat} {c : Array Value} {e : TypeId} (hb : h[b]? = some (.cells c e (0, 0))) (hc : 0 < c.size) : Exc h b := ⟨c, e, hb, hc⟩

theorem add_blk (a : Addr) (n : Nat) : (a.add n).block = a.block := by unfold Addr.add; split <;> rfl
theorem pcell_cut {h : Heap} {p : PHeap} {A K : List Nat} {a : Addr} {v : Value} (hp : ∀ b o, p b = some o → h[b]? = some o) (hA : a.block ∉ A) (x : pcell p a = some v) : pcell (Hp (cutV A K h)) a = some v := by
  unfold pcell at x
  split at x
  · rename_i c t z hb
    obtain ⟨z', hz'⟩ := HC.cut (A := A) (K := K) ⟨z, hp _ _ hb⟩ hA
    unfold pcell Hp
    rw [hz']; exact x
  · cases x
theorem sl_cut {h : Heap} {p : PHeap} {A K : List Nat} {a : Option Addr} {n w : Nat} {es : List (List Value)} (s : Sl p a n w es) (hp : ∀ b o, p b = some o → h[b]? = some o) (hA : 0 < n → (adr a).block ∉ A) : Sl (Hp (cutV A K h)) a n w es :=
  ⟨s.len, s.wid, s.ne, fun i e hi j v hj => by
    have hn : 0 < n := by have := (List.getElem?_eq_some_iff.1 hi).1; have := s.len; omega
    refine pcell_cut hp ?_ (s.get i e hi j v hj)
    rw [add_blk, add_blk]; exact hA hn⟩
/-- Memory that lasts is not the call's own. -/
theorem sl_ne_of {p : PHeap} {a : Option Addr} {n w : Nat} {es : List (List Value)} (s : Sl p a n w es) (hw : 0 < w) {b : Nat} (hb : p b = none) (hn : 0 < n) : (adr a).block ≠ b := by
  intro e
  have h0 : 0 < es.length := by have := s.len; omega
  have hl := s.wid es[0] (List.getElem_mem h0)
  have := s.get 0 es[0] (List.getElem?_eq_getElem h0) 0 (es[0][0]'(by omega)) (List.getElem?_eq_getElem (by omega))
  unfold pcell at this
  rw [add_blk, add_blk, e, hb] at this
  cases this
theorem not_mem1 {a b : Nat} (h : a ≠ b) : a ∉ [b] := by simpa using h
end Go.X
namespace Go.Proofs
abbrev Try.link : Go.Conc.Lib.WgLink := { add := 90, done := 92, wait := 93, relMerge := 100, disable := 101, enable := 102, inBubble := 103, associate := 104, fatal := 105, uOr := 106, uAdd := 107, raceRead := 108, uLoad := 109, uStore := 110, disassociate := 111, semrelease := 112, acquire := 113, isAssociated := 114, uCas := 115, raceWrite := 116, semacquire := 117, orU64 := 118, addU64 := 119, loadU64 := 120, storeU64 := 121, casU64 := 122, tWgP := 110, tUP := 112, tAssoc := 113, tWg := 99, tAU := 96, tU64 := 94, tUint := 117, tU32 := 97, tPU32 := 118, tPAU := 127, tPU64 := 129, tNoCopy := 91, tANoCopy := 92, tAlign64 := 93 }
theorem Try.wgLib : Go.Conc.Lib.WgLib Try.prog Try.link :=
  ⟨Try.func90, Try.func92, Try.func93, Try.func100, Try.func101, Try.func102, Try.func103, Try.func104, Try.func105, Try.func106, Try.func107, Try.func108, Try.func109, Try.func110, Try.func111, Try.func112, Try.func113, Try.func114, Try.func115, Try.func116, Try.func117, Try.func118, Try.func119, Try.func120, Try.func121, Try.func122, Try.underlying110, Try.runUnderlying110, Try.sizeOf110, Try.isAgg110, Try.zeroValue110, Try.underlying112, Try.runUnderlying112, Try.sizeOf112, Try.isAgg112, Try.zeroValue112, Try.underlying113, Try.runUnderlying113, Try.sizeOf113, Try.isAgg113, Try.zeroValue113, Try.underlying99, Try.runUnderlying99, Try.sizeOf99, Try.isAgg99, Try.zeroValue99, Try.underlying96, Try.runUnderlying96, Try.sizeOf96, Try.isAgg96, Try.zeroValue96, Try.underlying94, Try.runUnderlying94, Try.sizeOf94, Try.isAgg94, Try.zeroValue94, Try.underlying117, Try.runUnderlying117, Try.sizeOf117, Try.isAgg117, Try.zeroValue117, Try.underlying97, Try.runUnderlying97, Try.sizeOf97, Try.isAgg97, Try.zeroValue97, Try.underlying118, Try.runUnderlying118, Try.sizeOf118, Try.isAgg118, Try.zeroValue118, Try.underlying127, Try.runUnderlying127, Try.sizeOf127, Try.isAgg127, Try.zeroValue127, Try.underlying129, Try.runUnderlying129, Try.sizeOf129, Try.isAgg129, Try.zeroValue129, Try.underlying0, Try.runUnderlying0, Try.sizeOf0, Try.isAgg0, Try.zeroValue0, Try.underlying3, Try.runUnderlying3, Try.sizeOf3, Try.isAgg3, Try.zeroValue3, Try.underlying4, Try.runUnderlying4, Try.sizeOf4, Try.isAgg4, Try.zeroValue4, Try.underlying9, Try.runUnderlying9, Try.sizeOf9, Try.isAgg9, Try.zeroValue9, Try.underlying20, Try.runUnderlying20, Try.sizeOf20, Try.isAgg20, Try.zeroValue20, Try.underlying21, Try.runUnderlying21, Try.sizeOf21, Try.isAgg21, Try.zeroValue21, (by kernel_rfl), (by kernel_rfl)⟩
end Go.Proofs
namespace Go.Proofs.Ytbmkacnlhlbnjaa
open Go.X Go.X.Cist Go.Conc
set_option maxRecDepth 10000

/-- What a worker has left in the variable's block 'bD': a slice of these days. -/
def sideΨ (H bD : Nat) (ds : List Day) (h : Heap) : Prop := ∃ w X, OwnS 72 3 w (dcs ds) X ∧ (ds.length = 0 → X = []) ∧ h[bD]? = some (.cells #[w] 68 (0, 0)) ∧ ∀ x ∈ X, h[x.1]? = some x.2 ∧ H ≤ x.1
theorem sideΨ_keep {H bD : Nat} {ds : List Day} {h h' : Heap} (k : Keep h h') (x : sideΨ H bD ds h) : sideΨ H bD ds h' := by
  obtain ⟨w, X, o, h0, hb, hX⟩ := x
  exact ⟨w, X, o, h0, (k.keep _ (lt_of_get hb)).trans hb, fun x hx => ⟨(k.keep _ (lt_of_get (hX x hx).1)).trans (hX x hx).1, (hX x hx).2⟩⟩
def bothΨ (H bD bE : Nat) (d e : List Day) (k : Nat) (h : Heap) : Prop := if k = 0 then sideΨ H bD d h else sideΨ H bE e h
theorem bothΨ_keep {H bD bE : Nat} {d e : List Day} (k : Nat) (h h' : Heap) (hk : Keep h h') (x : bothΨ H bD bE d e k h) : bothΨ H bD bE d e k h' := by
  unfold bothΨ at x ⊢
  split at x
  · rename_i h0; rw [if_pos h0]; exact sideΨ_keep hk x
  · rename_i h0; rw [if_neg h0]; exact sideΨ_keep hk x

instance {hb : Heap} : Stb (fun h => Keep hb h) := ⟨fun _ _ a b => a.trans b⟩

/-- A worker. -/
theorem both_child {S : Nat → Prop} {h₀ hb : Heap} {Z : List Nat} {pp n₀ bW bD bY bO : Nat} {size start : Int} {a : Option Addr} {n c : Nat} {ds : List Day} (D : Days (Hp hb) a n ds) (hn : n ≤ 40) (g : FuncId) (rain : Nat → Int)
    (hbD : hb[bD]? = some (.cells #[.slice none 0 0] 68 (0, 0))) (hY : HC hb bY #[.int .i64 size, .int .i64 start, .slice a n c] 24) (hO : HC hb bO #[.pointer (some ⟨bD, 0, none⟩), .func (.func g) #[] #[.pointer (some ⟨bY, 0, none⟩)]] 101)
    (hne : bY ≠ bD ∧ bO ≠ bD) (hnD : 0 < n → (adr a).block ≠ bD) (hs : 0 ≤ size ∧ size ≤ 60 ∧ 0 ≤ start) (hd : ∀ i, i < n → 0 ≤ (ds.getD i dz).want ∧ (ds.getD i dz).want ≤ 200) (hr0 : ∀ i, i < n → 0 ≤ rain i ∧ rain i ≤ 20)
    (hr : ∀ (p : PHeap) (z : Nat × Nat), Days p a n ds → p bY = some (.cells #[.int .i64 size, .int .i64 start, .slice a n c] 24 z) → ∀ h i, Per p h → i < n →
      CallV Try.prog (.own false) (.func (.func g) #[] #[.pointer (some ⟨bY, 0, none⟩)]) [.int .i64 ((i : Nat) : Int)] h fun v h' => v = .int .i64 (rain i) ∧ Keep h h')
    {Φ : Heap → Prop} (hΦ : ∀ h, sideΨ hb.size bD (side size (min start size) (wantOf ds) rain n) h → Φ h) :
    Go.X.Reach Try.prog (.own false) (born Try.prog { target := .fn (.func 91) #[.pointer (some ⟨bW, 0, none⟩), .pointer (some ⟨bY, 0, none⟩), .pointer (some ⟨bO, 0, none⟩)], args := #[] }) hb (WDone Try.prog ⟨99, bW, S, h₀, Z, pp, n₀⟩ Φ) := by
  refine born_first (Φ := fun h => Keep hb h) Try.func91 (by kernel_rfl) (by kernel_rfl) (fun h hk => ?_) hb (.refl _)
  have hbD' : h[bD]? = some (.cells #[.slice none 0 0] 68 (0, 0)) := (hk.keep _ (lt_of_get hbD)).trans hbD
  obtain ⟨zY, hY'⟩ := hY.keep hk
  obtain ⟨zO, hO'⟩ := hO.keep hk
  let p : PHeap := fun b => if b = bD then none else h[b]?
  have hpY : p bY = some (.cells #[.int .i64 size, .int .i64 start, .slice a n c] 24 zY) := by simp only [p, if_neg hne.1]; exact hY'
  have hpO : p bO = some (.cells #[.pointer (some ⟨bD, 0, none⟩), .func (.func g) #[] #[.pointer (some ⟨bY, 0, none⟩)]] 101 zO) := by simp only [p, if_neg hne.2]; exact hO'
  have Dp : Days p a n ds := by
    refine ⟨Sl.len D, Sl.wid D, Sl.ne D, fun i e hi j v hj => ?_⟩
    have hx := (Hp_keep hk).cell (Sl.get D i e hi j v hj)
    have hn0 : 0 < n := by have := (List.getElem?_eq_some_iff.1 hi).1; have := Sl.len D; omega
    have hne' : (((adr a).add (i * 3)).add j).block ≠ bD := by rw [add_blk, add_blk]; exact hnD hn0
    unfold pcell at hx ⊢
    simp only [p, if_neg hne']
    exact hx
  have s₀ : St h [bD] p h [(bD, .cells #[.slice none 0 0] 68 (0, 0))] := by
    refine ⟨fun _ _ _ => rfl, Nat.le_refl _, fun b o e => ?_, fun x hx => ?_, by simp⟩
    · simp only [p] at e
      split at e
      · cases e
      · exact e
    · obtain rfl := List.mem_singleton.1 hx
      exact ⟨hbD', by simp [p], .inr (by simp)⟩
  refine c91 (.own false) h p bW bD bY bO zY zO size start a n c ds Dp hn _ rfl rain hpY hpO hs hd hr0 (fun p' le h₂ i hp2 hi => hr p' zY (Sl.mono le Dp) (le _ _ hpY) h₂ i hp2 hi) s₀ _ _ _ fun tm td h₂ w X A p' o h0 s₂ => ?_
  refine rs_done (Φ := fun h₃ => Keep h₂ h₃) Try.wgLib Try.func91 rfl (fun ge hge h₃ hk3 => reach_stop ⟨hge, hΦ h₃ (sideΨ_keep hk3 ⟨w, X, o, fun e => h0 (by rw [side_length] at e; exact e), ?_, fun x hx => ?_⟩)⟩) h₂ (.refl _)
  · exact (s₂.own (bD, .cells #[w] 68 (0, 0)) (by simp)).1
  · obtain ⟨h1, h2, h3⟩ := s₂.own x (by simp [hx])
    refine ⟨h1, Nat.le_trans hk.size (h3.resolve_right fun hm => ?_)⟩
    have hnd := s₂.nod
    rw [List.map_append, List.nodup_append] at hnd
    have hnd2 := hnd.2.1
    simp only [List.map_cons, List.nodup_cons] at hnd2
    refine hnd2.1 ?_
    have e : x.1 = bD := by simpa using hm
    rw [← e]
    exact List.mem_map.2 ⟨x, by simp [hx], rfl⟩

theorem own_exc {w : Value} {ds : List Day} {X : Pcs} {h : Heap} (o : OwnS 72 3 w (dcs ds) X) (hn : 0 < ds.length) (hX : ∀ x ∈ X, h[x.1]? = some x.2) : ∃ b o', X = [(b, o')] ∧ Exc h b := by
  have hl : (dcs ds).length = ds.length := dcs_length ds
  obtain ⟨hw, ⟨_, h0, _⟩ | ⟨b, cs, cap, rest, _, rfl, hcs, hlen⟩⟩ := o
  · rw [h0] at hl; simp at hl; omega
  · refine ⟨b, _, rfl, cs.toArray, 72, hX (b, .cells cs.toArray 72 (0, 0)) (by simp), ?_⟩
    have : (dcs ds).flatten.length = (dcs ds).length * 3 := flatten_length hw
    simp only [List.size_toArray, hcs, List.length_append]
    omega

theorem own_exc' {w : Value} {ds : List Day} {X : Pcs} {h : Heap} (o : OwnS 72 3 w (dcs ds) X) (h0 : ds.length = 0 → X = []) (hX : ∀ x ∈ X, h[x.1]? = some x.2) : (∀ x ∈ X, Exc h x.1) ∧ (X.map (·.1)).Nodup := by
  by_cases e : ds.length = 0
  · rw [h0 e]; simp
  · obtain ⟨b, o', rfl, ex⟩ := own_exc o (by omega) hX
    exact ⟨fun x hx => by rw [List.mem_singleton.1 hx]; exact ex, by simp⟩

/-- Both are back. -/
theorem both_back {h h₁ he : Heap} {p p8 : PHeap} {L : Pcs} {S : Nat → Prop} {q n₀ bW bD bE : Nat} {d e : List Day} {hw : Nat → Heap} (s₁ : St h [] p8 h₁ L) (le : PLe p p8) (hlo : h.size ≤ bW ∧ h.size ≤ bD ∧ h.size ≤ bE) (hlt : bD < h₁.size ∧ bE < h₁.size) (hne : bD ≠ bE)
    (hp : p8 bW = none ∧ p8 bD = none ∧ p8 bE = none) (J : Joined ⟨99, bW, S, h₁, [bD, bE], q, n₀⟩ (bothΨ h₁.size bD bE d e) hw he) :
    ∃ w1 w2 X1 X2, OwnS 72 3 w1 (dcs d) X1 ∧ OwnS 72 3 w2 (dcs e) X2 ∧ St h [] p he (([(bD, .cells #[w1] 68 (0, 0)), (bE, .cells #[w2] 68 (0, 0))] : Pcs) ++ (X1 ++ (X2 ++ []))) := by
  obtain ⟨J1, J2, J3, J4⟩ := J
  obtain ⟨w1, X1, o1, h01, hb1, hX1⟩ := (J3 0 (by omega)).1
  obtain ⟨w2, X2, o2, h02, hb2, hX2⟩ : sideΨ h₁.size bE e (hw 1) := (J3 1 (by omega)).1
  have j0 := fun b hb => ((J3 0 (by omega)).2 b hb).1
  have j1 := fun b hb => ((J3 1 (by omega)).2 b hb).1
  obtain ⟨ex1, nd1⟩ := own_exc' o1 h01 fun x hx => (hX1 x hx).1
  obtain ⟨ex2, nd2⟩ := own_exc' o2 h02 fun x hx => (hX2 x hx).1
  have old : ∀ b, b < h₁.size → b ≠ bW → b ≠ bD → b ≠ bE → he[b]? = h₁[b]? := fun b h1 h2 h3 h4 => J2 b ⟨h1, h2, by simp [h3, h4]⟩
  have heD := (j0 bD (Exc.of hb1 (by simp))).trans hb1
  have heE := (j1 bE (Exc.of hb2 (by simp))).trans hb2
  simp only at J1
  have hsz : h.size ≤ h₁.size := s₁.size
  have pnone : ∀ b, h₁.size ≤ b → p b = none := fun b hb => by
    cases hpb : p b with
    | none => rfl
    | some o => exact absurd (lt_of_get (s₁.per _ _ (le _ _ hpb))) (Nat.not_lt.2 hb)
  have pn : ∀ b, p8 b = none → p b = none := fun b hb => by
    cases hpb : p b with
    | none => rfl
    | some o => rw [le _ _ hpb] at hb; cases hb
  refine ⟨w1, w2, _, _, o1, o2, ⟨fun b hb _ => (old b (by omega) (by omega) (by omega) (by omega)).trans (s₁.keep b hb (by simp)), by omega, fun b o hb => ?_, fun x hx => ?_, ?_⟩⟩
  · have hb8 := le _ _ hb
    have := s₁.per _ _ hb8
    refine (old b (lt_of_get this) ?_ ?_ ?_).trans this
    · rintro rfl; rw [hp.1] at hb8; cases hb8
    · rintro rfl; rw [hp.2.1] at hb8; cases hb8
    · rintro rfl; rw [hp.2.2] at hb8; cases hb8
  · simp only [List.append_nil, List.cons_append, List.nil_append, List.mem_cons, List.mem_append] at hx
    rcases hx with rfl | rfl | hx | hx
    · exact ⟨heD, pn _ hp.2.1, .inl hlo.2.1⟩
    · exact ⟨heE, pn _ hp.2.2, .inl hlo.2.2⟩
    · have h1 := hX1 x hx
      exact ⟨(j0 _ (ex1 x hx)).trans h1.1, pnone _ h1.2, .inl (by omega)⟩
    · have h1 := hX2 x hx
      exact ⟨(j1 _ (ex2 x hx)).trans h1.1, pnone _ h1.2, .inl (by omega)⟩
  · have m1 : ∀ b, b ∈ X1.map (·.1) → h₁.size ≤ b := fun b hb => by obtain ⟨x, hx, rfl⟩ := List.mem_map.1 hb; exact (hX1 x hx).2
    have m2 : ∀ b, b ∈ X2.map (·.1) → h₁.size ≤ b := fun b hb => by obtain ⟨x, hx, rfl⟩ := List.mem_map.1 hb; exact (hX2 x hx).2
    simp only [List.append_nil, List.cons_append, List.nil_append, List.map_cons, List.map_append, List.nodup_cons, List.mem_cons, List.mem_append, not_or]
    refine ⟨⟨hne, fun hb => by have := m1 _ hb; omega, fun hb => by have := m2 _ hb; omega⟩, ⟨fun hb => by have := m1 _ hb; omega, fun hb => by have := m2 _ hb; omega⟩, List.nodup_append.2 ⟨nd1, nd2, ?_⟩⟩
    intro b hb c hc e
    subst e
    obtain ⟨x, hx, e1⟩ := List.mem_map.1 hb
    obtain ⟨y, hy, e2⟩ := List.mem_map.1 hc
    exact J4 b (e1 ▸ ex1 x hx) (e2 ▸ ex2 y hy)

noncomputable def bothBody : Code := (Try.f68.body).getD .skip
noncomputable def bothTail : Code := match bothBody with | .seq _ (.seq _ (.seq _ t)) => t | _ => .skip
noncomputable def bothOps : Array Oper := match bothTail with | .seq (.region _ ops _) _ => ops | _ => #[]
noncomputable def bothEnd : Code := match bothTail with | .seq _ t => t | _ => .skip
/-- Behind 'Wait'. -/
def bothKon (bD bE : Nat) (c₀ : Frame) (cs : List Frame) (gb : Goroutine) : Prop := ∃ y : Nat → Value,
  gb = G (FL 68 .none [y 0, y 1, .pointer (some ⟨bD, 0, none⟩), .pointer (some ⟨bE, 0, none⟩), y 4, y 5, y 6, y 7, y 8, y 9, y 10, y 11, y 12, y 13, y 14, y 15, y 16, y 17, y 18, y 19, y 20, y 21, y 22] [] [.inRegion bothOps [], .code bothEnd]) (c₀ :: cs)
theorem fl_regend {P : Program} {md : Md} {f : FuncId} {r : Rd} {tm : List Value} {df : List Deferred} {k : List Item} {cs : List Frame} {Φ : Heap → Prop} {Stop : Goroutine → Heap → Prop} [Stb Φ] {ops : Array Oper} (x : RS P md (G (FL f r tm df k) cs) Φ Stop) :
    RS P md (G (FL f r tm df (.inRegion ops [] :: k)) cs) Φ Stop := rs_region_end x
end Go.Proofs.Ytbmkacnlhlbnjaa
namespace Go.Proofs.Ytbmkacnlhlbnjaa
open Go.X Go.X.Cist Go.Conc
set_option maxRecDepth 10000

set_option maxHeartbeats 4000000
theorem c68 (h : Heap) (p : PHeap) (hp : Per p h) (size start : Int) (a : Option Addr) (n c : Nat) (ds : List Day) (D : Days p a n ds) (hn : n ≤ 40) (hs : 0 ≤ size ∧ size ≤ 60 ∧ 0 ≤ start) (hd : ∀ i, i < n → 0 ≤ (ds.getD i dz).want ∧ (ds.getD i dz).want ≤ 200) (hlo : ∀ i, i < n → 0 ≤ loOf ds i ∧ loOf ds i ≤ 20) (hhi : ∀ i, i < n → 0 ≤ hiOf ds i ∧ hiOf ds i ≤ 20) : CallsX Try.prog (.main true) 68 #[.agg #[.int .i64 (size), .int .i64 (start), .slice a n c]] h fun v h' => ∃ w1 w2 X1 X2, v = .tuple #[w1, w2] ∧ OwnS 72 3 w1 (dcs (side size (min start size) (wantOf ds) (loOf ds) n)) X1 ∧ OwnS 72 3 w2 (dcs (side size (min start size) (wantOf ds) (hiOf ds) n)) X2 ∧ New h h' (X1 ++ (X2 ++ [])) := by
  refine calls_intro (Φ := fun h_ => St h [] p h_ []) Try.func68 rfl (tm := [_, _, _, _, _, _, _, _, _, _, _, _, _, _, _, _, _, _, _, _, _, _, _]) rfl ?_ (St.start h _ hp)
  intro c₀ cs Stop K
  refine fl_seq ?_
  refine rl_start ?_
  refine rl_box (met_none rfl) (v := .agg #[.int .i64 (size), .int .i64 (start), .slice a n c]) rfl fun b1 => rl_own (L' := [(b1, .cells #[.int .i64 (size), .int .i64 (start), .slice a n c] 24 (0, 0))]) rfl ?_
  refine rl_norm (tm' := _::_::_) rfl ?_
  refine rl_alloc (met_none rfl) tZ68 rfl fun b2 => rl_own (L' := [(b2, .cells #[.slice none 0 0] 68 (0, 0)), (b1, .cells #[.int .i64 (size), .int .i64 (start), .slice a n c] 24 (0, 0))]) rfl ?_
  refine rl_norm (tm' := _::_::_::_) rfl ?_
  refine rl_alloc (met_none rfl) tZ68 rfl fun b3 => rl_own (L' := [(b3, .cells #[.slice none 0 0] 68 (0, 0)), (b2, .cells #[.slice none 0 0] 68 (0, 0)), (b1, .cells #[.int .i64 (size), .int .i64 (start), .slice a n c] 24 (0, 0))]) rfl ?_
  refine rl_norm (tm' := _::_::_::_::_) rfl ?_
  refine rl_end ?_
  refine fl_seq ?_
  refine rl_start ?_
  refine rl_alloc (met_none rfl) tZ99 rfl fun b4 => rl_own (L' := [(b4, .cells #[.int .u64 0, .int .u32 0] 99 (0, 0)), (b3, .cells #[.slice none 0 0] 68 (0, 0)), (b2, .cells #[.slice none 0 0] 68 (0, 0)), (b1, .cells #[.int .i64 (size), .int .i64 (start), .slice a n c] 24 (0, 0))]) rfl ?_
  refine rl_norm (tm' := _::_::_::_::_::_) rfl ?_
  refine rl_end ?_
  refine fl_seq ?_
  refine fl_seq ?_
  refine rl_start ?_
  refine rl_det (met_none rfl) (fun h_ H_ => exd_makeFunc (a := []) (b := [.pointer (some ⟨b1, 0, none⟩)]) rfl rfl) (tm' := _::_::_::_::_::_::_::_::_) rfl ?_
  refine rl_det (met_none rfl) (fun h_ H_ => exd_build tZ101 tP101 (vs := [(0, .pointer (some ⟨b2, 0, none⟩)), (1, .func (.func 88) #[] #[.pointer (some ⟨b1, 0, none⟩)])]) rfl (cells := #[.pointer (some ⟨b2, 0, none⟩), .func (.func 88) #[] #[.pointer (some ⟨b1, 0, none⟩)]]) rfl) (tm' := _::_::_::_::_::_::_::_::_::_) rfl ?_
  refine rl_det (met_none rfl) (fun h_ H_ => exd_makeFunc (a := []) (b := [.pointer (some ⟨b1, 0, none⟩)]) rfl rfl) (tm' := _::_::_::_::_::_::_::_::_::_::_) rfl ?_
  refine rl_det (met_none rfl) (fun h_ H_ => exd_build tZ101 tP101 (vs := [(0, .pointer (some ⟨b3, 0, none⟩)), (1, .func (.func 89) #[] #[.pointer (some ⟨b1, 0, none⟩)])]) rfl (cells := #[.pointer (some ⟨b3, 0, none⟩), .func (.func 89) #[] #[.pointer (some ⟨b1, 0, none⟩)]]) rfl) (tm' := _::_::_::_::_::_::_::_::_::_::_::_) rfl ?_
  refine rl_own (L' := ([(b4, .cells #[.int .u64 0, .int .u32 0] 99 (0, 0)), (b3, .cells #[.slice none 0 0] 68 (0, 0)), (b2, .cells #[.slice none 0 0] 68 (0, 0)), (b1, .cells #[.int .i64 (size), .int .i64 (start), .slice a n c] 24 (0, 0))] : Pcs) ++ []) rfl ?_
  refine rl_buildO ([(b4, .cells #[.int .u64 0, .int .u32 0] 99 (0, 0)), (b3, .cells #[.slice none 0 0] 68 (0, 0)), (b2, .cells #[.slice none 0 0] 68 (0, 0)), (b1, .cells #[.int .i64 (size), .int .i64 (start), .slice a n c] 24 (0, 0))] : Pcs) (met_none rfl) Try.underlying102 tS101 tZ101 (Nat.le_of_ble_eq_true rfl) (vs := [(0, .agg #[.pointer (some ⟨b2, 0, none⟩), .func (.func 88) #[] #[.pointer (some ⟨b1, 0, none⟩)]]), (1, .agg #[.pointer (some ⟨b3, 0, none⟩), .func (.func 89) #[] #[.pointer (some ⟨b1, 0, none⟩)]])]) rfl rfl (es := [[.pointer (some ⟨b2, 0, none⟩), .func (.func 88) #[] #[.pointer (some ⟨b1, 0, none⟩)]], [.pointer (some ⟨b3, 0, none⟩), .func (.func 89) #[] #[.pointer (some ⟨b1, 0, none⟩)]]]) rfl rfl rfl fun v5 X6 o7 => ?_
  refine rl_norm (tm' := _::_::_::_::_::_::_::_::_::_::_::_::_) rfl ?_
  refine rl_lastN (A := ([(b4, .cells #[.int .u64 0, .int .u32 0] 99 (0, 0)), (b3, .cells #[.slice none 0 0] 68 (0, 0)), (b2, .cells #[.slice none 0 0] 68 (0, 0)), (b1, .cells #[.int .i64 (size), .int .i64 (start), .slice a n c] 24 (0, 0))] : Pcs)) o7 (n := 2) rfl fun p8 a9 cp10 le11 ev_ D12 => ?_
  subst ev_
  refine rl_own (L' := [(b4, .cells #[.int .u64 0, .int .u32 0] 99 (0, 0)), (b3, .cells #[.slice none 0 0] 68 (0, 0)), (b2, .cells #[.slice none 0 0] 68 (0, 0)), (b1, .cells #[.int .i64 (size), .int .i64 (start), .slice a n c] 24 (0, 0))]) rfl ?_
  refine rl_det (met_none rfl) (fun h_ H_ => exd_len Try.underlying102 rfl) (tm' := _::_::_::_::_::_::_::_::_::_::_::_::_::_) rfl ?_
  refine rl_det (met_none rfl) (fun h_ H_ => exd_move (v := .int .i64 0) rfl) (tm' := _::_::_::_::_::_::_::_::_::_::_::_::_::_::_) rfl ?_
  refine rl_end ?_
  refine fl_block ?_
  refine fl_loop1 ?_
  refine fl_seq ?_
  refine rl_start ?_
  refine rl_det (met_none rfl) (fun h_ H_ => exd_lss rfl rfl) (tm' := _::_::_::_::_::_::_::_::_::_::_::_::_::_::_::_) rfl ?_
  refine rl_end ?_
  refine fl_seq ?_
  refine fl_then rfl (decide_eq_true (by decide)) ?_
  refine fl_skip ?_
  refine fl_seq ?_
  refine fl_block ?_
  refine fl_seq ?_
  refine rl_start ?_
  refine rl_det (met_none rfl) (fun h_ H_ => exd_indexAddrN (i := 0) Try.underlying102 tS101 (sl_ne a9 2 cp10 (D12.ne (by omega))) rfl (by omega)) (tm' := [_,_,_,_,_,_,_,_,_,_,_,_,_,_,_,_,_,_,_,_,_,_,_]) rfl ?_
  refine rl_det (met_none rfl) (fun h_ H_ => exd_loadN_per H_ tA101 tS101 rfl (vs := [.pointer (some ⟨b2, 0, none⟩), .func (.func 88) #[] #[.pointer (some ⟨b1, 0, none⟩)]]) rfl (fun j_ v_ e_ => D12.get 0 _ rfl j_ v_ e_)) (tm' := [_,_,_,_,_,_,_,_,_,_,_,_,_,_,_,_,_,_,_,_,_,_,_]) rfl ?_
  refine rl_alloc (met_none rfl) tZ101 rfl fun b13 => rl_own (L' := [(b13, .cells #[.pointer none, .nilFunc] 101 (0, 0)), (b4, .cells #[.int .u64 0, .int .u32 0] 99 (0, 0)), (b3, .cells #[.slice none 0 0] 68 (0, 0)), (b2, .cells #[.slice none 0 0] 68 (0, 0)), (b1, .cells #[.int .i64 (size), .int .i64 (start), .slice a n c] 24 (0, 0))]) rfl ?_
  refine rl_norm (tm' := _::_::_::_::_::_::_::_) rfl ?_
  refine rl_store (met_none rfl) tS101 rfl (v := .agg #[.pointer (some ⟨b2, 0, none⟩), .func (.func 88) #[] #[.pointer (some ⟨b1, 0, none⟩)]]) rfl (i := 0) rfl rfl rfl (Nat.le_of_ble_eq_true rfl) (cs2 := [.pointer (some ⟨b2, 0, none⟩), .func (.func 88) #[] #[.pointer (some ⟨b1, 0, none⟩)]]) rfl (rl_own (L' := [(b13, .cells #[.pointer (some ⟨b2, 0, none⟩), .func (.func 88) #[] #[.pointer (some ⟨b1, 0, none⟩)]] 101 (0, 0)), (b4, .cells #[.int .u64 0, .int .u32 0] 99 (0, 0)), (b3, .cells #[.slice none 0 0] 68 (0, 0)), (b2, .cells #[.slice none 0 0] 68 (0, 0)), (b1, .cells #[.int .i64 (size), .int .i64 (start), .slice a n c] 24 (0, 0))]) rfl ?_)
  refine rl_end ?_
  refine fl_seq ?_
  refine rl_start ?_
  refine rl_add Try.wgLib (met_none rfl) rfl rfl rfl rfl fun ge gb way beh h1 H1 => ?_
  have Fb1 := H1.own _ (List.mem_of_getElem? (i := 4) rfl)
  have Fb2 := H1.own _ (List.mem_of_getElem? (i := 3) rfl)
  have Fb3 := H1.own _ (List.mem_of_getElem? (i := 2) rfl)
  have Fb4 := H1.own _ (List.mem_of_getElem? (i := 1) rfl)
  have Fb13 := H1.own _ (List.mem_of_getElem? (i := 0) rfl)
  simp only at Fb1 Fb2 Fb3 Fb4 Fb13
  have nd_ := H1.nod
  simp only [List.map_cons, List.map_nil, List.nodup_cons, List.mem_cons, List.not_mem_nil, or_false, not_or, not_false_eq_true, List.nodup_nil, and_true] at nd_
  have D1 := D.mono le11
  have dn4 : 0 < n → (adr a).block ≠ b4 := sl_ne_of D1 (by omega) Fb4.2.1
  have dn2 : 0 < n → (adr a).block ≠ b2 := sl_ne_of D1 (by omega) Fb2.2.1
  have dn3 : 0 < n → (adr a).block ≠ b3 := sl_ne_of D1 (by omega) Fb3.2.1
  have ln4 : (adr a9).block ≠ b4 := sl_ne_of D12 (by omega) Fb4.2.1 (by simp)
  have ln2 : (adr a9).block ≠ b2 := sl_ne_of D12 (by omega) Fb2.2.1 (by simp)
  have ln3 : (adr a9).block ≠ b3 := sl_ne_of D12 (by omega) Fb3.2.1 (by simp)
  have lt2 := lt_of_get Fb2.1; have lt3 := lt_of_get Fb3.1
  refine reach_joint (Ψ := bothΨ h1.size b2 b3 (side size (min start size) (wantOf ds) (loOf ds) n) (side size (min start size) (wantOf ds) (hiOf ds) n)) (Kon := bothKon b2 b3 c₀ cs) 99 b4 [b2, b3] Fb4.1 ?_ bothΨ_keep (fun gb_ ⟨_, e_⟩ => by rw [e_]; rfl) (fun S_ q_ n₀_ => ?_) (fun S_ q_ n₀_ gb_ hgb_ hw_ he_ HJ_ => ?_)
  · intro b_ hb_; simp only [List.mem_cons, List.not_mem_nil, or_false] at hb_; rcases hb_ with hb_ | hb_ <;> rw [hb_]
    · exact Exc.of Fb2.1 (by simp)
    · exact Exc.of Fb3.1 (by simp)
  refine ⟨gb, way, fun h2 k2 => ?_⟩
  have Db : Days (Hp (cutV [b4] [b2, b3] h1)) a n ds := sl_cut D1 H1.per fun h_ => not_mem1 (dn4 h_)
  have Lb := sl_cut (A := [b4]) (K := [b2, b3]) D12 H1.per fun _ => not_mem1 ln4
  have Yb : HC (cutV [b4] [b2, b3] h1) b1 _ _ := HC.cut ⟨_, Fb1.1⟩ (not_mem1 (by omega))
  have Ob : HC (cutV [b4] [b2, b3] h1) b13 _ _ := HC.cut ⟨_, Fb13.1⟩ (not_mem1 (by omega))
  have Wb : (cutV [b4] [b2, b3] h1)[b2]? = _ := kept_cut Fb2.1 (not_mem1 (by omega)) (by simp)
  have Eb : (cutV [b4] [b2, b3] h1)[b3]? = _ := kept_cut Fb3.1 (not_mem1 (by omega)) (by simp)
  have zb : (cutV [b4] [b2, b3] h1).size = h1.size := cutV_size
  generalize cutV [b4] [b2, b3] h1 = hb at *
  refine beh _ (fun h_ => St hb [] (Hp hb) h_ []) _ h2 ?_ ((St.start hb _ (fun _ _ e_ => e_)).call k2)
  refine rl_end ?_
  refine rl_start ?_
  refine rl_det (met_none rfl) (fun h_ H_ => exd_makeFunc (a := []) (b := [.pointer (some ⟨b4, 0, none⟩), .pointer (some ⟨b1, 0, none⟩), .pointer (some ⟨b13, 0, none⟩)]) rfl rfl) (tm' := [_,_,_,_,_,_,_,_,_,_,_,_,_,_,_,_,_,_,_,_,_,_,_]) rfl ?_
  refine rl_go (met_none rfl) (first := []) rfl rfl rfl fun ga gn hrun_ hsp_ beh h3 H3 => reach_stop ⟨hrun_, gn, _, [b2], [b3], hsp_, ?_, ?_, fun h4 k4 => ⟨?_, ?_⟩⟩
  · intro b_ hb_; rw [List.mem_singleton.1 hb_]; exact (Exc.of Wb (by simp)).stay H3.kept
  · intro b_ hb_; rw [List.mem_singleton.1 hb_]; exact (Exc.of Eb (by simp)).stay H3.kept
  · have kk := H3.kept.trans k4
    refine both_child (sl_cut (Sl.mono (Hp_keep kk) Db) (Hp_per h4) fun h_ => not_mem1 (dn3 h_)) hn 88 (loOf ds) (kept_cut ((kk.keep _ (lt_of_get Wb)).trans Wb) (not_mem1 (by omega)) (by simp)) ((Yb.keep kk).cut (not_mem1 (by omega))) ((Ob.keep kk).cut (not_mem1 (by omega))) ⟨by omega, by omega⟩ dn2 hs hd hlo (fun p_ z_ D_ hY_ h_ i_ hp_ hi_ => callv_of fC88 (c88 (.own false) h_ p_ hp_ b1 z_ size start a n c ds D_ hn hY_ i_ hi_)) fun h_ x_ => ?_
    obtain ⟨w_, X_, o_, h0_, hb_, hX_⟩ := x_
    exact ⟨w_, X_, o_, h0_, hb_, fun x_ hx_ => ⟨(hX_ x_ hx_).1, by have := (hX_ x_ hx_).2; rw [cutV_size] at this; have := kk.size; omega⟩⟩
  have kk := H3.kept.trans k4
  have Dc : Days (Hp (cutV [b2] [b3] h4)) a n ds := sl_cut (Sl.mono (Hp_keep kk) Db) (Hp_per h4) fun h_ => not_mem1 (dn2 h_)
  have Lc := sl_cut (A := [b2]) (K := [b3]) (Sl.mono (Hp_keep kk) Lb) (Hp_per h4) fun _ => not_mem1 ln2
  have Yc : HC (cutV [b2] [b3] h4) b1 _ _ := (Yb.keep kk).cut (not_mem1 (by omega))
  have Ec : (cutV [b2] [b3] h4)[b3]? = _ := kept_cut ((kk.keep _ (lt_of_get Eb)).trans Eb) (not_mem1 (by omega)) (by simp)
  have zc : h1.size ≤ (cutV [b2] [b3] h4).size := by rw [cutV_size]; have := kk.size; omega
  refine beh _ (fun h_ => St (cutV [b2] [b3] h4) [] (Hp (cutV [b2] [b3] h4)) h_ []) _ _ ?_ (St.start _ _ (fun _ _ e_ => e_))
  generalize cutV [b2] [b3] h4 = hc at *
  refine rl_end ?_
  refine fl_inBlock ?_
  refine rl_start ?_
  refine rl_det (met_none rfl) (fun h_ H_ => exd_add rfl rfl (n := 1) (by decide)) (tm' := [_,_,_,_,_,_,_,_,_,_,_,_,_,_,_,_,_,_,_,_,_,_,_]) rfl ?_
  refine rl_det (met_none rfl) (fun h_ H_ => exd_move (v := .int .i64 1) rfl) (tm' := _::_::_::_::_::_::_::_::_::_::_::_::_::_::_) rfl ?_
  refine rl_end ?_
  refine fl_inLoop1 ?_
  refine fl_seq ?_
  refine rl_start ?_
  refine rl_det (met_none rfl) (fun h_ H_ => exd_lss rfl rfl) (tm' := _::_::_::_::_::_::_::_::_::_::_::_::_::_::_::_) rfl ?_
  refine rl_end ?_
  refine fl_seq ?_
  refine fl_then rfl (decide_eq_true (by decide)) ?_
  refine fl_skip ?_
  refine fl_seq ?_
  refine fl_block ?_
  refine fl_seq ?_
  refine rl_start ?_
  refine rl_det (met_none rfl) (fun h_ H_ => exd_indexAddrN (i := 1) Try.underlying102 tS101 (sl_ne a9 2 cp10 (Lc.ne (by omega))) rfl (by omega)) (tm' := [_,_,_,_,_,_,_,_,_,_,_,_,_,_,_,_,_,_,_,_,_,_,_]) rfl ?_
  refine rl_det (met_none rfl) (fun h_ H_ => exd_loadN_per H_ tA101 tS101 rfl (vs := [.pointer (some ⟨b3, 0, none⟩), .func (.func 89) #[] #[.pointer (some ⟨b1, 0, none⟩)]]) rfl (fun j_ v_ e_ => Lc.get 1 _ rfl j_ v_ e_)) (tm' := [_,_,_,_,_,_,_,_,_,_,_,_,_,_,_,_,_,_,_,_,_,_,_]) rfl ?_
  refine rl_alloc (met_none rfl) tZ101 rfl fun b14 => rl_own (L' := [(b14, .cells #[.pointer none, .nilFunc] 101 (0, 0))]) rfl ?_
  refine rl_norm (tm' := _::_::_::_::_::_::_::_) rfl ?_
  refine rl_store (met_none rfl) tS101 rfl (v := .agg #[.pointer (some ⟨b3, 0, none⟩), .func (.func 89) #[] #[.pointer (some ⟨b1, 0, none⟩)]]) rfl (i := 0) rfl rfl rfl (Nat.le_of_ble_eq_true rfl) (cs2 := [.pointer (some ⟨b3, 0, none⟩), .func (.func 89) #[] #[.pointer (some ⟨b1, 0, none⟩)]]) rfl (rl_own (L' := [(b14, .cells #[.pointer (some ⟨b3, 0, none⟩), .func (.func 89) #[] #[.pointer (some ⟨b1, 0, none⟩)]] 101 (0, 0))]) rfl ?_)
  refine rl_end ?_
  refine fl_seq ?_
  refine rl_start ?_
  refine rl_add Try.wgLib (met_none rfl) rfl rfl rfl rfl fun ge gb way beh h5 H5 => reach_stop ⟨gb, way, fun h6 k6 => ?_⟩
  refine beh _ (fun h_ => St hc [] (Hp hc) h_ ([(b14, .cells #[.pointer (some ⟨b3, 0, none⟩), .func (.func 89) #[] #[.pointer (some ⟨b1, 0, none⟩)]] 101 (0, 0))])) _ h6 ?_ (H5.call k6)
  refine rl_end ?_
  refine rl_start ?_
  refine rl_det (met_none rfl) (fun h_ H_ => exd_makeFunc (a := []) (b := [.pointer (some ⟨b4, 0, none⟩), .pointer (some ⟨b1, 0, none⟩), .pointer (some ⟨b14, 0, none⟩)]) rfl rfl) (tm' := [_,_,_,_,_,_,_,_,_,_,_,_,_,_,_,_,_,_,_,_,_,_,_]) rfl ?_
  refine rl_go (met_none rfl) (first := []) rfl rfl rfl fun ga gn hrun_ hsp_ beh h7 H7 => reach_stop ⟨hrun_, gn, _, [b3], [], hsp_, ?_, (fun _ hb_ => by cases hb_), fun h8 k8 => ⟨?_, ?_⟩⟩
  · intro b_ hb_; rw [List.mem_singleton.1 hb_]; exact (Exc.of Ec (by simp)).stay H7.kept
  · have kk := H7.kept.trans k8
    have O_ := (H7.own _ (List.mem_of_getElem? (i := 0) rfl))
    simp only at O_
    have Oc : HC h8 b14 _ _ := HC.keep ⟨_, O_.1⟩ k8
    have lt14 := lt_of_get Ec
    have hne14 : b14 ≠ b3 := by have := O_.2.2.resolve_right (by simp); omega
    refine both_child (sl_cut (Sl.mono (Hp_keep kk) Dc) (Hp_per h8) fun _ => by simp) hn 89 (hiOf ds) (kept_cut ((kk.keep _ (lt_of_get Ec)).trans Ec) (by simp) (by simp)) ((Yc.keep kk).cut (by simp)) (Oc.cut (by simp)) ⟨by omega, hne14⟩ dn3 hs hd hhi (fun p_ z_ D_ hY_ h_ i_ hp_ hi_ => callv_of fC89 (c89 (.own false) h_ p_ hp_ b1 z_ size start a n c ds D_ hn hY_ i_ hi_)) fun h_ x_ => ?_
    obtain ⟨w_, X_, o_, h0_, hb_, hX_⟩ := x_
    exact ⟨w_, X_, o_, h0_, hb_, fun x_ hx_ => ⟨(hX_ x_ hx_).1, by have := (hX_ x_ hx_).2; rw [cutV_size] at this; have := kk.size; omega⟩⟩
  refine beh _ (fun h_ => St (cutV [b3] [] h8) [] (Hp (cutV [b3] [] h8)) h_ []) _ _ ?_ (St.start _ _ (fun _ _ e_ => e_))
  refine rl_end ?_
  refine fl_inBlock ?_
  refine rl_start ?_
  refine rl_det (met_none rfl) (fun h_ H_ => exd_add rfl rfl (n := 2) (by decide)) (tm' := [_,_,_,_,_,_,_,_,_,_,_,_,_,_,_,_,_,_,_,_,_,_,_]) rfl ?_
  refine rl_det (met_none rfl) (fun h_ H_ => exd_move (v := .int .i64 2) rfl) (tm' := _::_::_::_::_::_::_::_::_::_::_::_::_::_::_) rfl ?_
  refine rl_end ?_
  refine fl_inLoop1 ?_
  refine fl_seq ?_
  refine rl_start ?_
  refine rl_det (met_none rfl) (fun h_ H_ => exd_lss rfl rfl) (tm' := _::_::_::_::_::_::_::_::_::_::_::_::_::_::_::_) rfl ?_
  refine rl_end ?_
  refine fl_seq ?_
  refine fl_else rfl (decide_eq_false (by decide)) ?_
  refine fl_exit rfl ?_
  refine fl_seq ?_
  refine rl_start ?_
  refine rl_wait Try.wgLib (met_none rfl) rfl rfl rfl rfl fun ge gb An a1_ a2_ a3_ hgb h9 H9 => reach_stop ⟨gb, An, ⟨a1_, a2_, ?_⟩, a3_⟩
  obtain ⟨l_, rfl, rfl⟩ := hgb
  exact ⟨fun i_ => ([.agg #[.int .i64 (size), .int .i64 (start), .slice a n c], .pointer (some ⟨b1, 0, none⟩), .pointer (some ⟨b2, 0, none⟩), .pointer (some ⟨b3, 0, none⟩), .pointer (some ⟨b4, 0, none⟩), undef, .pointer (some ⟨b14, 0, none⟩), .func (.func 88) #[] #[.pointer (some ⟨b1, 0, none⟩)], .agg #[.pointer (some ⟨b2, 0, none⟩), .func (.func 88) #[] #[.pointer (some ⟨b1, 0, none⟩)]], .func (.func 89) #[] #[.pointer (some ⟨b1, 0, none⟩)], .agg #[.pointer (some ⟨b3, 0, none⟩), .func (.func 89) #[] #[.pointer (some ⟨b1, 0, none⟩)]], .slice a9 2 cp10, .int .i64 (((2 : Nat) : Int)), .int .i64 2, .bool (decide (2 < ((2 : Nat) : Int))), .pointer (some ((adr a9).add (1 * 2))), .agg #[.pointer (some ⟨b3, 0, none⟩), .func (.func 89) #[] #[.pointer (some ⟨b1, 0, none⟩)]], .tuple #[], .func (.func 91) #[] #[.pointer (some ⟨b4, 0, none⟩), .pointer (some ⟨b1, 0, none⟩), .pointer (some ⟨b14, 0, none⟩)], .int .i64 2, .tuple #[], undef, undef] : List Value).getD i_ undef, rfl⟩
  obtain ⟨y, rfl⟩ := hgb_
  obtain ⟨w1, w2, X1, X2, o1, o2, HS⟩ := both_back H1 le11 ⟨Fb4.2.2.resolve_right (by simp), Fb2.2.2.resolve_right (by simp), Fb3.2.2.resolve_right (by simp)⟩ ⟨lt2, lt3⟩ (by omega) ⟨Fb4.2.1, Fb2.2.1, Fb3.2.1⟩ HJ_
  refine (?_ : RS Try.prog (.main true) _ (fun h_ => St h [] p h_ (([(b2, .cells #[w1] 68 (0, 0)), (b3, .cells #[w2] 68 (0, 0))] : Pcs) ++ (X1 ++ (X2 ++ [])))) Stop) he_ HS
  refine fl_regend ?_
  refine fl_seq ?_
  refine rl_start ?_
  refine rl_det (met_none rfl) (fun h_ H_ => exd_load_own H_ tA68 rfl (i := 0) rfl (v := w1) rfl) (tm' := [_,_,_,_,_,_,_,_,_,_,_,_,_,_,_,_,_,_,_,_,_,_,_]) rfl ?_
  refine rl_det (met_none rfl) (fun h_ H_ => exd_load_own H_ tA68 rfl (i := 1) rfl (v := w2) rfl) (tm' := [_,_,_,_,_,_,_,_,_,_,_,_,_,_,_,_,_,_,_,_,_,_,_]) rfl ?_
  refine rl_store1 (met_none rfl) tS68 rfl (v := w1) rfl o1.one (i := 0) rfl (Nat.succ_le_iff.1 (Nat.le_of_ble_eq_true rfl)) (cs2 := [w1]) rfl (rl_own (L' := ([(b2, .cells #[w1] 68 (0, 0)), (b3, .cells #[w2] 68 (0, 0))] : Pcs) ++ (X1 ++ (X2 ++ []))) rfl ?_)
  refine rl_store1 (met_none rfl) tS68 rfl (v := w2) rfl o2.one (i := 1) rfl (Nat.succ_le_iff.1 (Nat.le_of_ble_eq_true rfl)) (cs2 := [w2]) rfl (rl_own (L' := ([(b2, .cells #[w1] 68 (0, 0)), (b3, .cells #[w2] 68 (0, 0))] : Pcs) ++ (X1 ++ (X2 ++ []))) rfl ?_)
  refine rl_end ?_
  refine fl_ret Try.func68 rfl (vs := [w1, w2]) (fun h_ H_ => ⟨w1, _, rfl, (wpS_bind (wpS_pure (wpS_loadVar1 tA68 (H_.ocell (i := 0) rfl (v := w1) rfl) ⟨rfl, rfl⟩))), ⟨w2, _, rfl, (wpS_bind (wpS_pure (wpS_loadVar1 tA68 (H_.ocell (i := 1) rfl (v := w2) rfl) ⟨rfl, rfl⟩))), rfl⟩⟩) (v := .tuple #[w1, w2]) rfl ?_
  exact fun h_ H_ => K _ _ ⟨w1, w2, X1, X2, rfl, o1, o2, H_.dropA.new⟩
end Go.Proofs.Ytbmkacnlhlbnjaa
namespace Go.X.Cist
/-- What becomes of a year in its driest and in its wettest weather. -/
def dryOf (size start : Int) (ds : List Day) : List Day := side size (min start size) (wantOf ds) (loOf ds) ds.length
def wetOf (size start : Int) (ds : List Day) : List Day := side size (min start size) (wantOf ds) (hiOf ds) ds.length
theorem dryOf_length {size start : Int} {ds : List Day} : (dryOf size start ds).length = ds.length := side_length
theorem wetOf_length {size start : Int} {ds : List Day} : (wetOf size start ds).length = ds.length := side_length

def levelR (size start : Int) (ds : List Day) (day : Int) : (Int × Int) × Int :=
  if askd size start ds (decide (IsDay ds day)) = 0 then (((((dryOf size start ds).getD day.toNat dz).lo, ((wetOf size start ds).getD day.toNat dz).lo)), 0) else ((0, 0), askd size start ds (decide (IsDay ds day)))
def lackR (size start : Int) (ds : List Day) (day : Int) : (Int × Int) × Int :=
  if askd size start ds (decide (IsDay ds day)) = 0 then (((((wetOf size start ds).getD day.toNat dz).hi, ((dryOf size start ds).getD day.toNat dz).hi)), 0) else ((0, 0), askd size start ds (decide (IsDay ds day)))
def overR (size start : Int) (ds : List Day) (day : Int) : (Int × Int) × Int :=
  if askd size start ds (decide (IsDay ds day)) = 0 then (((((dryOf size start ds).getD day.toNat dz).want, ((wetOf size start ds).getD day.toNat dz).want)), 0) else ((0, 0), askd size start ds (decide (IsDay ds day)))
def lackDay (d : Day) : Bool := decide (0 < d.hi)
def overGe (m : Int) (d : Day) : Bool := decide (m ≤ d.want)
def noneR (n : Int) : Int × Int := if n < 0 then (0, 3) else (n, 0)
def dryR (size start : Int) (ds : List Day) : Int × Int := if Ok size start ds then noneR (idxF lackDay (dryOf size start ds)) else (0, 100)
def mustR (size start : Int) (ds : List Day) : Int × Int := if Ok size start ds then noneR (idxF lackDay (wetOf size start ds)) else (0, 100)
def rightR (size start : Int) (ds : List Day) (m : Int) : (Int × Int) × Int :=
  if askd size start ds (decide (1 ≤ m ∧ m ≤ 999)) = 0 then
    (if idxF (overGe m) (dryOf size start ds) < 0 then ((0, 0), 3) else ((idxF (overGe m) (wetOf size start ds), idxF (overGe m) (dryOf size start ds)), 0))
  else ((0, 0), askd size start ds (decide (1 ≤ m ∧ m ≤ 999)))
end Go.X.Cist
namespace Go.Proofs.Ytbmkacnlhlbnjaa
open Go.X Go.X.Cist Go.Conc
theorem c68b (h : Heap) (p : PHeap) (hp : Per p h) (size start : Int) (a : Option Addr) (n c : Nat) (ds : List Day) (D : Days p a n ds) (hn : n ≤ 40) (hOk : Ok size start ds) : CallsX Try.prog (.main true) 68 #[.agg #[.int .i64 (size), .int .i64 (start), .slice a n c]] h
    fun v h' => ∃ w1 w2 X1 X2, v = .tuple #[w1, w2] ∧ OwnS 72 3 w1 (dcs (dryOf size start ds)) X1 ∧ OwnS 72 3 w2 (dcs (wetOf size start ds)) X2 ∧ New h h' (X1 ++ (X2 ++ [])) := by
  have hl := D.len
  subst hl
  refine c68 h p hp size start a _ c ds D hn ⟨hOk.1, hOk.2.1, hOk.2.2.1⟩ (fun i hi => ?_) (fun i hi => ?_) (fun i hi => ?_)
  · exact (hOk.dok i hi).2
  · have := (hOk.dok i hi).1; unfold loOf; omega
  · have := (hOk.dok i hi).1; unfold hiOf; omega
end Go.Proofs.Ytbmkacnlhlbnjaa
namespace Go.Proofs.Ytbmkacnlhlbnjaa
open Go.X Go.X.Cist Go.Conc
set_option maxRecDepth 10000

theorem c69 (md : Md) (h : Heap) (d : Day) : CallsX Try.prog md 69 #[.agg #[.int .i64 (d.lo), .int .i64 (d.hi), .int .i64 (d.want)]] h fun v h' => v = .bool (badDay d) ∧ Keep h h' := by
  refine calls_intro (Φ := fun h_ => St h [] (fun _ => none) h_ []) Try.func69 rfl (tm := [_, _, _, _, _, _, _, _, _, _, _, _, _, _, _, _, _, _, _, _, _, _, _, _]) rfl ?_ (St.start h _ (fun _ _ e => by cases e))
  intro c₀ cs Stop K
  refine fl_seq ?_
  refine rl_start ?_
  refine rl_box (met_none rfl) (v := .agg #[.int .i64 (d.lo), .int .i64 (d.hi), .int .i64 (d.want)]) rfl fun b1 => rl_own (L' := [(b1, .cells #[.int .i64 (d.lo), .int .i64 (d.hi), .int .i64 (d.want)] 38 (0, 0))]) rfl ?_
  refine rl_norm (tm' := _::_::_) rfl ?_
  refine rl_det (met_none rfl) (fun h_ H_ => exd_assign (v := .bool (false)) rfl) (tm' := _::_::_::_) rfl ?_
  refine rl_end ?_
  refine fl_seq ?_
  refine rl_start ?_
  refine rl_det (met_none rfl) (fun h_ H_ => exd_fieldAddr tF38_0 rfl (a' := ⟨b1, 0, none⟩) rfl) (tm' := _::_::_::_::_) rfl ?_
  refine rl_det (met_none rfl) (fun h_ H_ => exd_fieldAddr tF36_1 rfl (a' := ⟨b1, 1, none⟩) rfl) (tm' := _::_::_::_::_::_) rfl ?_
  refine rl_det (met_none rfl) (fun h_ H_ => exd_load_own H_ tA3 rfl (i := 0) rfl (v := .int .i64 (d.hi)) rfl) (tm' := _::_::_::_::_::_::_) rfl ?_
  refine rl_calld (met_none rfl) (first := []) (cap := []) rfl rfl fC70 (fun h_ H_ => c70 md _ (d.hi) (0) (20)) (tm' := _::_::_::_::_::_::_::_) rfl ?_
  refine rl_det (met_none rfl) (fun h_ H_ => exd_not rfl) (tm' := _::_::_::_::_::_::_::_::_) rfl ?_
  refine rl_det (met_none rfl) (fun h_ H_ => exd_move (v := .bool (!(decide (0 ≤ d.hi ∧ d.hi ≤ 20)))) rfl) (tm' := _::_::_::_::_::_::_::_::_::_) rfl ?_
  by_cases c2 : 0 ≤ d.hi ∧ d.hi ≤ 20
  · refine rl_det (met_some rfl rfl (not_f (decide_eq_true c2))) (fun h_ H_ => exd_fieldAddr tF38_0 rfl (a' := ⟨b1, 0, none⟩) rfl) (tm' := _::_::_::_::_::_::_::_::_::_::_) rfl ?_
    refine rl_det (met_some rfl rfl (not_f (decide_eq_true c2))) (fun h_ H_ => exd_fieldAddr tF36_0 rfl (a' := ⟨b1, 0, none⟩) rfl) (tm' := _::_::_::_::_::_::_::_::_::_::_::_) rfl ?_
    refine rl_det (met_some rfl rfl (not_f (decide_eq_true c2))) (fun h_ H_ => exd_load_own H_ tA3 rfl (i := 0) rfl (v := .int .i64 (d.lo)) rfl) (tm' := _::_::_::_::_::_::_::_::_::_::_::_::_) rfl ?_
    refine rl_det (met_some rfl rfl (not_f (decide_eq_true c2))) (fun h_ H_ => exd_fieldAddr tF38_0 rfl (a' := ⟨b1, 0, none⟩) rfl) (tm' := _::_::_::_::_::_::_::_::_::_::_::_::_::_) rfl ?_
    refine rl_det (met_some rfl rfl (not_f (decide_eq_true c2))) (fun h_ H_ => exd_fieldAddr tF36_1 rfl (a' := ⟨b1, 1, none⟩) rfl) (tm' := _::_::_::_::_::_::_::_::_::_::_::_::_::_::_) rfl ?_
    refine rl_det (met_some rfl rfl (not_f (decide_eq_true c2))) (fun h_ H_ => exd_load_own H_ tA3 rfl (i := 0) rfl (v := .int .i64 (d.hi)) rfl) (tm' := _::_::_::_::_::_::_::_::_::_::_::_::_::_::_::_) rfl ?_
    refine rl_calld (met_some rfl rfl (not_f (decide_eq_true c2))) (first := []) (cap := []) rfl rfl fC70 (fun h_ H_ => c70 md _ (d.lo) (0) (d.hi)) (tm' := _::_::_::_::_::_::_::_::_::_::_::_::_::_::_::_::_) rfl ?_
    refine rl_det (met_some rfl rfl (not_f (decide_eq_true c2))) (fun h_ H_ => exd_not rfl) (tm' := [_,_,_,_,_,_,_,_,_,_,_,_,_,_,_,_,_,_,_,_,_,_,_,_]) rfl ?_
    refine rl_det (met_none rfl) (fun h_ H_ => exd_pick_f rfl (not_f (decide_eq_true c2)) (v := .bool (!(decide (0 ≤ d.lo ∧ d.lo ≤ d.hi)))) rfl) (tm' := [_,_,_,_,_,_,_,_,_,_,_,_,_,_,_,_,_,_,_,_,_,_,_,_]) rfl ?_
    refine rl_det (met_none rfl) (fun h_ H_ => exd_move (v := .bool (!(decide (0 ≤ d.lo ∧ d.lo ≤ d.hi)))) rfl) (tm' := [_,_,_,_,_,_,_,_,_,_,_,_,_,_,_,_,_,_,_,_,_,_,_,_]) rfl ?_
    by_cases c3 : 0 ≤ d.lo ∧ d.lo ≤ d.hi
    · refine rl_det (met_some rfl rfl (not_f (decide_eq_true c3))) (fun h_ H_ => exd_fieldAddr tF38_1 rfl (a' := ⟨b1, 2, none⟩) rfl) (tm' := [_,_,_,_,_,_,_,_,_,_,_,_,_,_,_,_,_,_,_,_,_,_,_,_]) rfl ?_
      refine rl_det (met_some rfl rfl (not_f (decide_eq_true c3))) (fun h_ H_ => exd_load_own H_ tA3 rfl (i := 0) rfl (v := .int .i64 (d.want)) rfl) (tm' := [_,_,_,_,_,_,_,_,_,_,_,_,_,_,_,_,_,_,_,_,_,_,_,_]) rfl ?_
      refine rl_calld (met_some rfl rfl (not_f (decide_eq_true c3))) (first := []) (cap := []) rfl rfl fC70 (fun h_ H_ => c70 md _ (d.want) (0) (20)) (tm' := [_,_,_,_,_,_,_,_,_,_,_,_,_,_,_,_,_,_,_,_,_,_,_,_]) rfl ?_
      refine rl_det (met_some rfl rfl (not_f (decide_eq_true c3))) (fun h_ H_ => exd_not rfl) (tm' := [_,_,_,_,_,_,_,_,_,_,_,_,_,_,_,_,_,_,_,_,_,_,_,_]) rfl ?_
      refine rl_det (met_none rfl) (fun h_ H_ => exd_pick_f rfl (not_f (decide_eq_true c3)) (v := .bool (!(decide (0 ≤ d.want ∧ d.want ≤ 20)))) rfl) (tm' := [_,_,_,_,_,_,_,_,_,_,_,_,_,_,_,_,_,_,_,_,_,_,_,_]) rfl ?_
      refine rl_det (met_none rfl) (fun h_ H_ => exd_assign (v := .bool (!(decide (0 ≤ d.want ∧ d.want ≤ 20)))) rfl) (tm' := _::_::_::_) rfl ?_
      refine rl_end ?_
      refine fl_ret Try.func69 rfl (vs := [.bool (!(decide (0 ≤ d.want ∧ d.want ≤ 20)))]) (fun h_ H_ => ⟨.bool (!(decide (0 ≤ d.want ∧ d.want ≤ 20))), _, rfl, rfl, rfl⟩) (v := .bool (!(decide (0 ≤ d.want ∧ d.want ≤ 20)))) rfl ?_
      exact fun h_ H_ => K _ _ ⟨by unfold badDay DayOk; first | (rw [decide_eq_true (by omega)]) | (congr 1; rw [Bool.eq_iff_iff]; simp only [Bool.not_eq_true', decide_eq_true_eq, decide_eq_false_iff_not]; omega), H_.kept⟩
    · refine rl_pass (met_not rfl rfl (not_t (decide_eq_false c3))) (tm' := [_,_,_,_,_,_,_,_,_,_,_,_,_,_,_,_,_,_,_,_,_,_,_,_]) rfl ?_
      refine rl_pass (met_not rfl rfl (not_t (decide_eq_false c3))) (tm' := [_,_,_,_,_,_,_,_,_,_,_,_,_,_,_,_,_,_,_,_,_,_,_,_]) rfl ?_
      refine rl_pass (met_not rfl rfl (not_t (decide_eq_false c3))) (tm' := [_,_,_,_,_,_,_,_,_,_,_,_,_,_,_,_,_,_,_,_,_,_,_,_]) rfl ?_
      refine rl_pass (met_not rfl rfl (not_t (decide_eq_false c3))) (tm' := [_,_,_,_,_,_,_,_,_,_,_,_,_,_,_,_,_,_,_,_,_,_,_,_]) rfl ?_
      refine rl_det (met_none rfl) (fun h_ H_ => exd_pick_t rfl (not_t (decide_eq_false c3)) (v := .bool (true)) rfl) (tm' := [_,_,_,_,_,_,_,_,_,_,_,_,_,_,_,_,_,_,_,_,_,_,_,_]) rfl ?_
      refine rl_det (met_none rfl) (fun h_ H_ => exd_assign (v := .bool (true)) rfl) (tm' := _::_::_::_) rfl ?_
      refine rl_end ?_
      refine fl_ret Try.func69 rfl (vs := [.bool (true)]) (fun h_ H_ => ⟨.bool (true), _, rfl, rfl, rfl⟩) (v := .bool (true)) rfl ?_
      exact fun h_ H_ => K _ _ ⟨by unfold badDay DayOk; first | (rw [decide_eq_true (by omega)]) | (congr 1; rw [Bool.eq_iff_iff]; simp only [Bool.not_eq_true', decide_eq_true_eq, decide_eq_false_iff_not]; omega), H_.kept⟩
  · refine rl_pass (met_not rfl rfl (not_t (decide_eq_false c2))) (tm' := _::_::_::_::_::_::_::_::_::_::_) rfl ?_
    refine rl_pass (met_not rfl rfl (not_t (decide_eq_false c2))) (tm' := _::_::_::_::_::_::_::_::_::_::_::_) rfl ?_
    refine rl_pass (met_not rfl rfl (not_t (decide_eq_false c2))) (tm' := _::_::_::_::_::_::_::_::_::_::_::_::_) rfl ?_
    refine rl_pass (met_not rfl rfl (not_t (decide_eq_false c2))) (tm' := _::_::_::_::_::_::_::_::_::_::_::_::_::_) rfl ?_
    refine rl_pass (met_not rfl rfl (not_t (decide_eq_false c2))) (tm' := _::_::_::_::_::_::_::_::_::_::_::_::_::_::_) rfl ?_
    refine rl_pass (met_not rfl rfl (not_t (decide_eq_false c2))) (tm' := _::_::_::_::_::_::_::_::_::_::_::_::_::_::_::_) rfl ?_
    refine rl_pass (met_not rfl rfl (not_t (decide_eq_false c2))) (tm' := _::_::_::_::_::_::_::_::_::_::_::_::_::_::_::_::_) rfl ?_
    refine rl_pass (met_not rfl rfl (not_t (decide_eq_false c2))) (tm' := [_,_,_,_,_,_,_,_,_,_,_,_,_,_,_,_,_,_,_,_,_,_,_,_]) rfl ?_
    refine rl_det (met_none rfl) (fun h_ H_ => exd_pick_t rfl (not_t (decide_eq_false c2)) (v := .bool (true)) rfl) (tm' := [_,_,_,_,_,_,_,_,_,_,_,_,_,_,_,_,_,_,_,_,_,_,_,_]) rfl ?_
    refine rl_det (met_none rfl) (fun h_ H_ => exd_move (v := .bool (true)) rfl) (tm' := [_,_,_,_,_,_,_,_,_,_,_,_,_,_,_,_,_,_,_,_,_,_,_,_]) rfl ?_
    refine rl_pass (met_not rfl rfl rfl) (tm' := [_,_,_,_,_,_,_,_,_,_,_,_,_,_,_,_,_,_,_,_,_,_,_,_]) rfl ?_
    refine rl_pass (met_not rfl rfl rfl) (tm' := [_,_,_,_,_,_,_,_,_,_,_,_,_,_,_,_,_,_,_,_,_,_,_,_]) rfl ?_
    refine rl_pass (met_not rfl rfl rfl) (tm' := [_,_,_,_,_,_,_,_,_,_,_,_,_,_,_,_,_,_,_,_,_,_,_,_]) rfl ?_
    refine rl_pass (met_not rfl rfl rfl) (tm' := [_,_,_,_,_,_,_,_,_,_,_,_,_,_,_,_,_,_,_,_,_,_,_,_]) rfl ?_
    refine rl_det (met_none rfl) (fun h_ H_ => exd_pick_t rfl rfl (v := .bool (true)) rfl) (tm' := [_,_,_,_,_,_,_,_,_,_,_,_,_,_,_,_,_,_,_,_,_,_,_,_]) rfl ?_
    refine rl_det (met_none rfl) (fun h_ H_ => exd_assign (v := .bool (true)) rfl) (tm' := _::_::_::_) rfl ?_
    refine rl_end ?_
    refine fl_ret Try.func69 rfl (vs := [.bool (true)]) (fun h_ H_ => ⟨.bool (true), _, rfl, rfl, rfl⟩) (v := .bool (true)) rfl ?_
    exact fun h_ H_ => K _ _ ⟨by unfold badDay DayOk; first | (rw [decide_eq_true (by omega)]) | (congr 1; rw [Bool.eq_iff_iff]; simp only [Bool.not_eq_true', decide_eq_true_eq, decide_eq_false_iff_not]; omega), H_.kept⟩
theorem c94 (md : Md) (h : Heap) (p : PHeap) (hp : Per p h) (fv : Value) (a : Option Addr) (n c : Nat) (ds : List Day) (D : Days p a n ds) (hn : n ≤ 40) (q : Day → Bool) (hf : ∀ h, Per p h → ∀ i, i < n → CallV Try.prog md fv [.agg #[.int .i64 (ds.getD i dz).lo, .int .i64 (ds.getD i dz).hi, .int .i64 (ds.getD i dz).want]] h fun v h' => v = .bool (q (ds.getD i dz)) ∧ Keep h h') : CallsX Try.prog md 94 #[.slice a n c, fv] h fun v h' => v = .int .i64 (idxF q ds) ∧ Keep h h' := by
  refine calls_intro (Φ := fun h_ => St h [] p h_ []) Try.func94 rfl (tm := [_, _, _, _, _, _, _, _, _, _, _, _, _, _, _, _, _, _, _]) rfl ?_ (St.start h _ hp)
  intro c₀ cs Stop K
  refine fl_seq ?_
  refine rl_start ?_
  refine rl_det (met_none rfl) (fun h_ H_ => exd_assign (v := .int .i64 0) rfl) (tm' := _::_::_::_::_::_) rfl ?_
  refine rl_end ?_
  refine fl_seq ?_
  refine fl_seq ?_
  refine rl_start ?_
  refine rl_det (met_none rfl) (fun h_ H_ => exd_move (v := .slice a n c) rfl) (tm' := _::_::_::_::_::_::_::_) rfl ?_
  refine rl_det (met_none rfl) (fun h_ H_ => exd_len Try.underlying22 rfl) (tm' := _::_::_::_::_::_::_::_::_) rfl ?_
  refine rl_det (met_none rfl) (fun h_ H_ => exd_move (v := .int .i64 0) rfl) (tm' := _::_::_::_::_::_::_::_::_::_) rfl ?_
  refine rl_end ?_
  refine fl_block ?_
  refine fl_loop (m₀ := n - 0) (fun m_ tm_ h_ => ∃ (k : Nat) (y1 : Nat → Value), m_ = n - k ∧ tm_ = [.slice a n c, fv, undef, undef, (y1 0), (y1 1), .slice a n c, .int .i64 (((n : Nat) : Int)), .int .i64 (((k : Nat) : Int)), (y1 2), (y1 3), (y1 4), (y1 5), (y1 6), (y1 7), (y1 8), (y1 9), (y1 10), (y1 11)] ∧ (k ≤ n) ∧ (∀ i, i < k → q (ds.getD i dz) = false) ∧ St h [] p h_ ([])) (fun h_ H_ => ⟨0, (fun i_ => [.int .i64 0, undef, undef, undef, undef, undef, undef, undef, undef, undef, undef, undef].getD i_ undef), rfl, rfl, Nat.zero_le _, (fun i hi => absurd hi (Nat.not_lt_zero i)), H_⟩) ?_
  intro m_ tm_ IH2
  refine rs_ex fun k => rs_ex fun y1 => rs_and fun hm_ => rs_and fun ht_ => rs_and fun hk => rs_and fun hs => ?_
  subst hm_; subst ht_
  refine fl_seq ?_
  refine rl_start ?_
  refine rl_det (met_none rfl) (fun h_ H_ => exd_lss rfl rfl) (tm' := _::_::_::_::_::_::_::_::_::_::_) rfl ?_
  refine rl_end ?_
  refine fl_seq ?_
  by_cases c3 : ((k : Nat) : Int) < ((n : Nat) : Int)
  · refine fl_then rfl (decide_eq_true c3) ?_
    refine fl_skip ?_
    refine fl_seq ?_
    refine fl_block ?_
    refine fl_seq ?_
    refine rl_start ?_
    refine rl_det (met_none rfl) (fun h_ H_ => exd_move (v := .int .i64 (((k : Nat) : Int))) rfl) (tm' := _::_::_::_::_::_::_::_::_::_::_::_) rfl ?_
    refine rl_det (met_none rfl) (fun h_ H_ => exd_assign (v := .int .i64 (((k : Nat) : Int))) rfl) (tm' := _::_::_::_::_::_::_) rfl ?_
    refine rl_end ?_
    refine fl_seq ?_
    refine rl_start ?_
    refine rl_det (met_none rfl) (fun h_ H_ => exd_move (v := fv) rfl) (tm' := _::_::_::_::_::_::_::_::_::_::_::_::_) rfl ?_
    refine rl_det (met_none rfl) (fun h_ H_ => exd_move (v := .slice a n c) rfl) (tm' := [_,_,_,_,_,_,_,_,_,_,_,_,_,_,_,_,_,_,_]) rfl ?_
    refine rl_det (met_none rfl) (fun h_ H_ => exd_move (v := .int .i64 (((k : Nat) : Int))) rfl) (tm' := [_,_,_,_,_,_,_,_,_,_,_,_,_,_,_,_,_,_,_]) rfl ?_
    refine rl_det (met_none rfl) (fun h_ H_ => exd_indexAddrN (i := k) Try.underlying22 tS38 (sl_ne a n c (D.ne (by omega))) rfl (by omega)) (tm' := [_,_,_,_,_,_,_,_,_,_,_,_,_,_,_,_,_,_,_]) rfl ?_
    refine rl_det (met_none rfl) (fun h_ H_ => exd_loadN_per H_ tA38 tS38 rfl (vs := [.int .i64 ((ds.getD k dz).lo), .int .i64 ((ds.getD k dz).hi), .int .i64 ((ds.getD k dz).want)]) rfl (D.all (by omega))) (tm' := [_,_,_,_,_,_,_,_,_,_,_,_,_,_,_,_,_,_,_]) rfl ?_
    refine rl_callvd (met_none rfl) rfl (vs := [.agg #[.int .i64 ((ds.getD k dz).lo), .int .i64 ((ds.getD k dz).hi), .int .i64 ((ds.getD k dz).want)]]) rfl (fun h_ H_ => hf h_ H_.per k (show k < n by omega)) (tm' := [_,_,_,_,_,_,_,_,_,_,_,_,_,_,_,_,_,_,_]) rfl ?_
    refine rl_end ?_
    rcases bcases ((q (ds.getD k dz))) with c4 | c4
    · refine fl_then rfl c4 ?_
      refine fl_seq ?_
      refine rl_start ?_
      refine rl_det (met_none rfl) (fun h_ H_ => exd_move (v := .int .i64 (((k : Nat) : Int))) rfl) (tm' := [_,_,_,_,_,_,_,_,_,_,_,_,_,_,_,_,_,_,_]) rfl ?_
      refine rl_det (met_none rfl) (fun h_ H_ => exd_assign (v := .int .i64 (((k : Nat) : Int))) rfl) (tm' := _::_::_::_::_::_) rfl ?_
      refine rl_end ?_
      refine fl_ret Try.func94 rfl (vs := [.int .i64 (((k : Nat) : Int))]) (fun h_ H_ => ⟨.int .i64 (((k : Nat) : Int)), _, rfl, rfl, rfl⟩) (v := .int .i64 (((k : Nat) : Int))) rfl ?_
      have hl := D.len
      exact fun h_ H_ => K _ _ ⟨by first | (rw [idxF_some (k := k) (by omega) ‹_› hs]) | (rw [idxF_none (fun i hi => hs i (by omega))]), H_.kept⟩
    · refine fl_else rfl c4 ?_
      refine fl_skip ?_
      refine fl_inBlock ?_
      refine rl_start ?_
      refine rl_det (met_none rfl) (fun h_ H_ => exd_add rfl rfl (n := ((k + 1 : Nat) : Int)) (wr (by omega))) (tm' := [_,_,_,_,_,_,_,_,_,_,_,_,_,_,_,_,_,_,_]) rfl ?_
      refine rl_det (met_none rfl) (fun h_ H_ => exd_move (v := .int .i64 (((k + 1 : Nat) : Int))) rfl) (tm' := _::_::_::_::_::_::_::_::_::_) rfl ?_
      refine rl_end ?_
      exact fun h_ H_ => IH2 _ _ (by omega) h_ ⟨k + 1, (fun i_ => [(y1 0), .int .i64 (((k : Nat) : Int)), .bool (decide (((k : Nat) : Int) < ((n : Nat) : Int))), .int .i64 (((k : Nat) : Int)), fv, .slice a n c, .int .i64 (((k : Nat) : Int)), .pointer (some ((adr a).add (k * 3))), .agg #[.int .i64 ((ds.getD k dz).lo), .int .i64 ((ds.getD k dz).hi), .int .i64 ((ds.getD k dz).want)], .bool ((q (ds.getD k dz))), (y1 10), .int .i64 (((k + 1 : Nat) : Int))].getD i_ undef), rfl, rfl, (by omega), (idx_step hs ‹_›), H_⟩
  · refine fl_else rfl (decide_eq_false c3) ?_
    refine fl_exit rfl ?_
    refine fl_seq ?_
    refine rl_start ?_
    refine rl_det (met_none rfl) (fun h_ H_ => exd_assign (v := .int .i64 (-1)) rfl) (tm' := _::_::_::_::_::_) rfl ?_
    refine rl_end ?_
    refine fl_ret Try.func94 rfl (vs := [.int .i64 (-1)]) (fun h_ H_ => ⟨.int .i64 (-1), _, rfl, rfl, rfl⟩) (v := .int .i64 (-1)) rfl ?_
    have hl := D.len
    exact fun h_ H_ => K _ _ ⟨by first | (rw [idxF_some (k := k) (by omega) ‹_› hs]) | (rw [idxF_none (fun i hi => hs i (by omega))]), H_.kept⟩
theorem c71 (md : Md) (h : Heap) (p : PHeap) (hp : Per p h) (fv : Value) (a : Option Addr) (n c : Nat) (ds : List Day) (D : Days p a n ds) (hn : n ≤ 40) (q : Day → Bool) (hf : ∀ h, Per p h → ∀ i, i < n → CallV Try.prog md fv [.agg #[.int .i64 (ds.getD i dz).lo, .int .i64 (ds.getD i dz).hi, .int .i64 (ds.getD i dz).want]] h fun v h' => v = .bool (q (ds.getD i dz)) ∧ Keep h h') : CallsX Try.prog md 71 #[.slice a n c, fv] h fun v h' => v = .bool (decide (0 ≤ idxF q ds)) ∧ Keep h h' := by
  refine calls_intro (Φ := fun h_ => St h [] p h_ []) Try.func71 rfl (tm := [_, _, _, _, _, _, _, _, _]) rfl ?_ (St.start h _ hp)
  intro c₀ cs Stop K
  refine fl_seq ?_
  refine rl_start ?_
  refine rl_det (met_none rfl) (fun h_ H_ => exd_assign (v := .bool (false)) rfl) (tm' := _::_::_::_::_::_) rfl ?_
  refine rl_end ?_
  refine fl_seq ?_
  refine rl_start ?_
  refine rl_det (met_none rfl) (fun h_ H_ => exd_move (v := .slice a n c) rfl) (tm' := _::_::_::_::_::_::_) rfl ?_
  refine rl_det (met_none rfl) (fun h_ H_ => exd_move (v := fv) rfl) (tm' := [_,_,_,_,_,_,_,_,_]) rfl ?_
  refine rl_calld (met_none rfl) (first := []) (cap := []) rfl rfl fC94 (fun h_ H_ => c94 md _ _ (fun b_ o_ e_ => H_.per b_ o_ e_) fv _ _ _ _ D (by omega) q hf) (tm' := [_,_,_,_,_,_,_,_,_]) rfl ?_
  refine rl_det (met_none rfl) (fun h_ H_ => exd_geq rfl rfl) (tm' := [_,_,_,_,_,_,_,_,_]) rfl ?_
  refine rl_det (met_none rfl) (fun h_ H_ => exd_assign (v := .bool (decide (0 ≤ idxF q ds))) rfl) (tm' := _::_::_::_::_::_) rfl ?_
  refine rl_end ?_
  refine fl_ret Try.func71 rfl (vs := [.bool (decide (0 ≤ idxF q ds))]) (fun h_ H_ => ⟨.bool (decide (0 ≤ idxF q ds)), _, rfl, rfl, rfl⟩) (v := .bool (decide (0 ≤ idxF q ds))) rfl ?_
  exact fun h_ H_ => K _ _ ⟨rfl, H_.kept⟩
theorem c99 (md : Md) (h : Heap) (p : PHeap) (hp : Per p h) (fv : Value) (a : Option Addr) (n c : Nat) (ds : List Day) (D : Days p a n ds) (hn : n ≤ 40) (q : Day → Bool) (hf : ∀ h, Per p h → ∀ i, i < n → CallV Try.prog md fv [.agg #[.int .i64 (ds.getD i dz).lo, .int .i64 (ds.getD i dz).hi, .int .i64 (ds.getD i dz).want]] h fun v h' => v = .bool (q (ds.getD i dz)) ∧ Keep h h') : CallsX Try.prog md 99 #[.slice a n c, fv] h fun v h' => v = .int .i64 (idxF q ds) ∧ Keep h h' := by
  refine calls_intro (Φ := fun h_ => St h [] p h_ []) Try.func99 rfl (tm := [_, _, _, _, _, _, _, _, _, _, _, _, _, _, _, _, _, _, _]) rfl ?_ (St.start h _ hp)
  intro c₀ cs Stop K
  refine fl_seq ?_
  refine rl_start ?_
  refine rl_det (met_none rfl) (fun h_ H_ => exd_assign (v := .int .i64 0) rfl) (tm' := _::_::_::_::_::_) rfl ?_
  refine rl_end ?_
  refine fl_seq ?_
  refine fl_seq ?_
  refine rl_start ?_
  refine rl_det (met_none rfl) (fun h_ H_ => exd_move (v := .slice a n c) rfl) (tm' := _::_::_::_::_::_::_::_) rfl ?_
  refine rl_det (met_none rfl) (fun h_ H_ => exd_len Try.underlying68 rfl) (tm' := _::_::_::_::_::_::_::_::_) rfl ?_
  refine rl_det (met_none rfl) (fun h_ H_ => exd_move (v := .int .i64 0) rfl) (tm' := _::_::_::_::_::_::_::_::_::_) rfl ?_
  refine rl_end ?_
  refine fl_block ?_
  refine fl_loop (m₀ := n - 0) (fun m_ tm_ h_ => ∃ (k : Nat) (y1 : Nat → Value), m_ = n - k ∧ tm_ = [.slice a n c, fv, undef, undef, (y1 0), (y1 1), .slice a n c, .int .i64 (((n : Nat) : Int)), .int .i64 (((k : Nat) : Int)), (y1 2), (y1 3), (y1 4), (y1 5), (y1 6), (y1 7), (y1 8), (y1 9), (y1 10), (y1 11)] ∧ (k ≤ n) ∧ (∀ i, i < k → q (ds.getD i dz) = false) ∧ St h [] p h_ ([])) (fun h_ H_ => ⟨0, (fun i_ => [.int .i64 0, undef, undef, undef, undef, undef, undef, undef, undef, undef, undef, undef].getD i_ undef), rfl, rfl, Nat.zero_le _, (fun i hi => absurd hi (Nat.not_lt_zero i)), H_⟩) ?_
  intro m_ tm_ IH2
  refine rs_ex fun k => rs_ex fun y1 => rs_and fun hm_ => rs_and fun ht_ => rs_and fun hk => rs_and fun hs => ?_
  subst hm_; subst ht_
  refine fl_seq ?_
  refine rl_start ?_
  refine rl_det (met_none rfl) (fun h_ H_ => exd_lss rfl rfl) (tm' := _::_::_::_::_::_::_::_::_::_::_) rfl ?_
  refine rl_end ?_
  refine fl_seq ?_
  by_cases c3 : ((k : Nat) : Int) < ((n : Nat) : Int)
  · refine fl_then rfl (decide_eq_true c3) ?_
    refine fl_skip ?_
    refine fl_seq ?_
    refine fl_block ?_
    refine fl_seq ?_
    refine rl_start ?_
    refine rl_det (met_none rfl) (fun h_ H_ => exd_move (v := .int .i64 (((k : Nat) : Int))) rfl) (tm' := _::_::_::_::_::_::_::_::_::_::_::_) rfl ?_
    refine rl_det (met_none rfl) (fun h_ H_ => exd_assign (v := .int .i64 (((k : Nat) : Int))) rfl) (tm' := _::_::_::_::_::_::_) rfl ?_
    refine rl_end ?_
    refine fl_seq ?_
    refine rl_start ?_
    refine rl_det (met_none rfl) (fun h_ H_ => exd_move (v := fv) rfl) (tm' := _::_::_::_::_::_::_::_::_::_::_::_::_) rfl ?_
    refine rl_det (met_none rfl) (fun h_ H_ => exd_move (v := .slice a n c) rfl) (tm' := [_,_,_,_,_,_,_,_,_,_,_,_,_,_,_,_,_,_,_]) rfl ?_
    refine rl_det (met_none rfl) (fun h_ H_ => exd_move (v := .int .i64 (((k : Nat) : Int))) rfl) (tm' := [_,_,_,_,_,_,_,_,_,_,_,_,_,_,_,_,_,_,_]) rfl ?_
    refine rl_det (met_none rfl) (fun h_ H_ => exd_indexAddrN (i := k) Try.underlying68 tS72 (sl_ne a n c (D.ne (by omega))) rfl (by omega)) (tm' := [_,_,_,_,_,_,_,_,_,_,_,_,_,_,_,_,_,_,_]) rfl ?_
    refine rl_det (met_none rfl) (fun h_ H_ => exd_loadN_per H_ tA72 tS72 rfl (vs := [.int .i64 ((ds.getD k dz).lo), .int .i64 ((ds.getD k dz).hi), .int .i64 ((ds.getD k dz).want)]) rfl (D.all (by omega))) (tm' := [_,_,_,_,_,_,_,_,_,_,_,_,_,_,_,_,_,_,_]) rfl ?_
    refine rl_callvd (met_none rfl) rfl (vs := [.agg #[.int .i64 ((ds.getD k dz).lo), .int .i64 ((ds.getD k dz).hi), .int .i64 ((ds.getD k dz).want)]]) rfl (fun h_ H_ => hf h_ H_.per k (show k < n by omega)) (tm' := [_,_,_,_,_,_,_,_,_,_,_,_,_,_,_,_,_,_,_]) rfl ?_
    refine rl_end ?_
    rcases bcases ((q (ds.getD k dz))) with c4 | c4
    · refine fl_then rfl c4 ?_
      refine fl_seq ?_
      refine rl_start ?_
      refine rl_det (met_none rfl) (fun h_ H_ => exd_move (v := .int .i64 (((k : Nat) : Int))) rfl) (tm' := [_,_,_,_,_,_,_,_,_,_,_,_,_,_,_,_,_,_,_]) rfl ?_
      refine rl_det (met_none rfl) (fun h_ H_ => exd_assign (v := .int .i64 (((k : Nat) : Int))) rfl) (tm' := _::_::_::_::_::_) rfl ?_
      refine rl_end ?_
      refine fl_ret Try.func99 rfl (vs := [.int .i64 (((k : Nat) : Int))]) (fun h_ H_ => ⟨.int .i64 (((k : Nat) : Int)), _, rfl, rfl, rfl⟩) (v := .int .i64 (((k : Nat) : Int))) rfl ?_
      have hl := D.len
      exact fun h_ H_ => K _ _ ⟨by first | (rw [idxF_some (k := k) (by omega) ‹_› hs]) | (rw [idxF_none (fun i hi => hs i (by omega))]), H_.kept⟩
    · refine fl_else rfl c4 ?_
      refine fl_skip ?_
      refine fl_inBlock ?_
      refine rl_start ?_
      refine rl_det (met_none rfl) (fun h_ H_ => exd_add rfl rfl (n := ((k + 1 : Nat) : Int)) (wr (by omega))) (tm' := [_,_,_,_,_,_,_,_,_,_,_,_,_,_,_,_,_,_,_]) rfl ?_
      refine rl_det (met_none rfl) (fun h_ H_ => exd_move (v := .int .i64 (((k + 1 : Nat) : Int))) rfl) (tm' := _::_::_::_::_::_::_::_::_::_) rfl ?_
      refine rl_end ?_
      exact fun h_ H_ => IH2 _ _ (by omega) h_ ⟨k + 1, (fun i_ => [(y1 0), .int .i64 (((k : Nat) : Int)), .bool (decide (((k : Nat) : Int) < ((n : Nat) : Int))), .int .i64 (((k : Nat) : Int)), fv, .slice a n c, .int .i64 (((k : Nat) : Int)), .pointer (some ((adr a).add (k * 3))), .agg #[.int .i64 ((ds.getD k dz).lo), .int .i64 ((ds.getD k dz).hi), .int .i64 ((ds.getD k dz).want)], .bool ((q (ds.getD k dz))), (y1 10), .int .i64 (((k + 1 : Nat) : Int))].getD i_ undef), rfl, rfl, (by omega), (idx_step hs ‹_›), H_⟩
  · refine fl_else rfl (decide_eq_false c3) ?_
    refine fl_exit rfl ?_
    refine fl_seq ?_
    refine rl_start ?_
    refine rl_det (met_none rfl) (fun h_ H_ => exd_assign (v := .int .i64 (-1)) rfl) (tm' := _::_::_::_::_::_) rfl ?_
    refine rl_end ?_
    refine fl_ret Try.func99 rfl (vs := [.int .i64 (-1)]) (fun h_ H_ => ⟨.int .i64 (-1), _, rfl, rfl, rfl⟩) (v := .int .i64 (-1)) rfl ?_
    have hl := D.len
    exact fun h_ H_ => K _ _ ⟨by first | (rw [idxF_some (k := k) (by omega) ‹_› hs]) | (rw [idxF_none (fun i hi => hs i (by omega))]), H_.kept⟩
theorem c32 (md : Md) (h : Heap) (p : PHeap) (hp : Per p h) (size start : Int) (a : Option Addr) (n c : Nat) (ds : List Day) (D : Days p a n ds) (hn : n ≤ 40) : CallsX Try.prog md 32 #[.agg #[.int .i64 (size), .int .i64 (start), .slice a n c]] h fun v h' => v = .int .i64 (chk size start ds) ∧ Keep h h' := by
  refine calls_intro (Φ := fun h_ => St h [] p h_ []) Try.func32 rfl (tm := [_, _, _, _, _, _, _, _, _, _, _, _, _, _, _, _, _, _, _, _, _, _, _, _, _, _, _, _]) rfl ?_ (St.start h _ hp)
  intro c₀ cs Stop K
  refine fl_seq ?_
  refine rl_start ?_
  refine rl_box (met_none rfl) (v := .agg #[.int .i64 (size), .int .i64 (start), .slice a n c]) rfl fun b1 => rl_own (L' := [(b1, .cells #[.int .i64 (size), .int .i64 (start), .slice a n c] 24 (0, 0))]) rfl ?_
  refine rl_norm (tm' := _::_::_) rfl ?_
  refine rl_det (met_none rfl) (fun h_ H_ => exd_assign (v := .int .i64 0) rfl) (tm' := _::_::_::_) rfl ?_
  refine rl_end ?_
  refine fl_seq ?_
  refine rl_start ?_
  refine rl_det (met_none rfl) (fun h_ H_ => exd_assign (v := .func (.func 69) #[] #[]) rfl) (tm' := _::_::_::_::_) rfl ?_
  refine rl_end ?_
  refine fl_seq ?_
  refine fl_seq ?_
  refine rl_start ?_
  refine rl_det (met_none rfl) (fun h_ H_ => exd_fieldAddr tF24_0 rfl (a' := ⟨b1, 0, none⟩) rfl) (tm' := _::_::_::_::_::_) rfl ?_
  refine rl_det (met_none rfl) (fun h_ H_ => exd_load_own H_ tA3 rfl (i := 0) rfl (v := .int .i64 (size)) rfl) (tm' := _::_::_::_::_::_::_) rfl ?_
  refine rl_calld (met_none rfl) (first := []) (cap := []) rfl rfl fC70 (fun h_ H_ => c70 md _ (size) (0) (60)) (tm' := _::_::_::_::_::_::_::_) rfl ?_
  refine rl_det (met_none rfl) (fun h_ H_ => exd_not rfl) (tm' := _::_::_::_::_::_::_::_::_) rfl ?_
  refine rl_det (met_none rfl) (fun h_ H_ => exd_move (v := .bool (!(decide (0 ≤ size ∧ size ≤ 60)))) rfl) (tm' := _::_::_::_::_::_::_::_::_::_) rfl ?_
  by_cases c2 : 0 ≤ size ∧ size ≤ 60
  · refine rl_det (met_some rfl rfl (not_f (decide_eq_true c2))) (fun h_ H_ => exd_fieldAddr tF24_1 rfl (a' := ⟨b1, 1, none⟩) rfl) (tm' := _::_::_::_::_::_::_::_::_::_::_) rfl ?_
    refine rl_det (met_some rfl rfl (not_f (decide_eq_true c2))) (fun h_ H_ => exd_load_own H_ tA3 rfl (i := 0) rfl (v := .int .i64 (start)) rfl) (tm' := _::_::_::_::_::_::_::_::_::_::_::_) rfl ?_
    refine rl_det (met_some rfl rfl (not_f (decide_eq_true c2))) (fun h_ H_ => exd_fieldAddr tF24_0 rfl (a' := ⟨b1, 0, none⟩) rfl) (tm' := _::_::_::_::_::_::_::_::_::_::_::_::_) rfl ?_
    refine rl_det (met_some rfl rfl (not_f (decide_eq_true c2))) (fun h_ H_ => exd_load_own H_ tA3 rfl (i := 0) rfl (v := .int .i64 (size)) rfl) (tm' := _::_::_::_::_::_::_::_::_::_::_::_::_::_) rfl ?_
    refine rl_calld (met_some rfl rfl (not_f (decide_eq_true c2))) (first := []) (cap := []) rfl rfl fC70 (fun h_ H_ => c70 md _ (start) (0) (size)) (tm' := _::_::_::_::_::_::_::_::_::_::_::_::_::_::_) rfl ?_
    refine rl_det (met_some rfl rfl (not_f (decide_eq_true c2))) (fun h_ H_ => exd_not rfl) (tm' := _::_::_::_::_::_::_::_::_::_::_::_::_::_::_::_) rfl ?_
    refine rl_det (met_none rfl) (fun h_ H_ => exd_pick_f rfl (not_f (decide_eq_true c2)) (v := .bool (!(decide (0 ≤ start ∧ start ≤ size)))) rfl) (tm' := _::_::_::_::_::_::_::_::_::_::_::_::_::_::_::_::_) rfl ?_
    refine rl_det (met_none rfl) (fun h_ H_ => exd_move (v := .bool (!(decide (0 ≤ start ∧ start ≤ size)))) rfl) (tm' := _::_::_::_::_::_::_::_::_::_::_::_::_::_::_::_::_::_) rfl ?_
    by_cases c3 : 0 ≤ start ∧ start ≤ size
    · refine rl_det (met_some rfl rfl (not_f (decide_eq_true c3))) (fun h_ H_ => exd_fieldAddr tF24_2 rfl (a' := ⟨b1, 2, none⟩) rfl) (tm' := _::_::_::_::_::_::_::_::_::_::_::_::_::_::_::_::_::_::_) rfl ?_
      refine rl_det (met_some rfl rfl (not_f (decide_eq_true c3))) (fun h_ H_ => exd_load_own H_ tA22 rfl (i := 0) rfl (v := .slice a n c) rfl) (tm' := [_,_,_,_,_,_,_,_,_,_,_,_,_,_,_,_,_,_,_,_,_,_,_,_,_,_,_,_]) rfl ?_
      refine rl_det (met_some rfl rfl (not_f (decide_eq_true c3))) (fun h_ H_ => exd_len Try.underlying22 rfl) (tm' := [_,_,_,_,_,_,_,_,_,_,_,_,_,_,_,_,_,_,_,_,_,_,_,_,_,_,_,_]) rfl ?_
      refine rl_det (met_some rfl rfl (not_f (decide_eq_true c3))) (fun h_ H_ => exd_gtr rfl rfl) (tm' := [_,_,_,_,_,_,_,_,_,_,_,_,_,_,_,_,_,_,_,_,_,_,_,_,_,_,_,_]) rfl ?_
      refine rl_det (met_none rfl) (fun h_ H_ => exd_pick_f rfl (not_f (decide_eq_true c3)) (v := .bool (decide (8 < ((n : Nat) : Int)))) rfl) (tm' := [_,_,_,_,_,_,_,_,_,_,_,_,_,_,_,_,_,_,_,_,_,_,_,_,_,_,_,_]) rfl ?_
      refine rl_det (met_none rfl) (fun h_ H_ => exd_move (v := .bool (decide (8 < ((n : Nat) : Int)))) rfl) (tm' := [_,_,_,_,_,_,_,_,_,_,_,_,_,_,_,_,_,_,_,_,_,_,_,_,_,_,_,_]) rfl ?_
      by_cases c4 : 8 < ((n : Nat) : Int)
      · refine rl_pass (met_not rfl rfl (decide_eq_true c4)) (tm' := [_,_,_,_,_,_,_,_,_,_,_,_,_,_,_,_,_,_,_,_,_,_,_,_,_,_,_,_]) rfl ?_
        refine rl_pass (met_not rfl rfl (decide_eq_true c4)) (tm' := [_,_,_,_,_,_,_,_,_,_,_,_,_,_,_,_,_,_,_,_,_,_,_,_,_,_,_,_]) rfl ?_
        refine rl_pass (met_not rfl rfl (decide_eq_true c4)) (tm' := [_,_,_,_,_,_,_,_,_,_,_,_,_,_,_,_,_,_,_,_,_,_,_,_,_,_,_,_]) rfl ?_
        refine rl_pass (met_not rfl rfl (decide_eq_true c4)) (tm' := [_,_,_,_,_,_,_,_,_,_,_,_,_,_,_,_,_,_,_,_,_,_,_,_,_,_,_,_]) rfl ?_
        refine rl_det (met_none rfl) (fun h_ H_ => exd_pick_t rfl (decide_eq_true c4) (v := .bool (true)) rfl) (tm' := [_,_,_,_,_,_,_,_,_,_,_,_,_,_,_,_,_,_,_,_,_,_,_,_,_,_,_,_]) rfl ?_
        refine rl_end ?_
        refine fl_then rfl rfl ?_
        refine fl_seq ?_
        refine rl_start ?_
        refine rl_det (met_none rfl) (fun h_ H_ => exd_assign (v := .int .i64 100) rfl) (tm' := _::_::_::_) rfl ?_
        refine rl_end ?_
        refine fl_ret Try.func32 rfl (vs := [.int .i64 100]) (fun h_ H_ => ⟨.int .i64 100, _, rfl, rfl, rfl⟩) (v := .int .i64 100) rfl ?_
        have hl := D.len
        exact fun h_ H_ => K _ _ ⟨by first | (rw [chk_good (by omega) (by omega) (by omega) (by omega)]) | (rw [chk_bad (by omega)]), H_.kept⟩
      · refine rl_det (met_some rfl rfl (decide_eq_false c4)) (fun h_ H_ => exd_fieldAddr tF24_2 rfl (a' := ⟨b1, 2, none⟩) rfl) (tm' := [_,_,_,_,_,_,_,_,_,_,_,_,_,_,_,_,_,_,_,_,_,_,_,_,_,_,_,_]) rfl ?_
        refine rl_det (met_some rfl rfl (decide_eq_false c4)) (fun h_ H_ => exd_load_own H_ tA22 rfl (i := 0) rfl (v := .slice a n c) rfl) (tm' := [_,_,_,_,_,_,_,_,_,_,_,_,_,_,_,_,_,_,_,_,_,_,_,_,_,_,_,_]) rfl ?_
        refine rl_det (met_some rfl rfl (decide_eq_false c4)) (fun h_ H_ => exd_move (v := .func (.func 69) #[] #[]) rfl) (tm' := [_,_,_,_,_,_,_,_,_,_,_,_,_,_,_,_,_,_,_,_,_,_,_,_,_,_,_,_]) rfl ?_
        refine rl_calld (met_some rfl rfl (decide_eq_false c4)) (first := []) (cap := []) rfl rfl fC71 (fun h_ H_ => c71 md _ _ (fun b_ o_ e_ => H_.per b_ o_ e_) (.func (.func 69) #[] #[]) _ _ _ _ D (by omega) badDay (fun h_ hp_ i_ hi_ => callv_of fC69 (c69 md _ _))) (tm' := [_,_,_,_,_,_,_,_,_,_,_,_,_,_,_,_,_,_,_,_,_,_,_,_,_,_,_,_]) rfl ?_
        refine rl_det (met_none rfl) (fun h_ H_ => exd_pick_f rfl (decide_eq_false c4) (v := .bool (decide (0 ≤ idxF badDay ds))) rfl) (tm' := [_,_,_,_,_,_,_,_,_,_,_,_,_,_,_,_,_,_,_,_,_,_,_,_,_,_,_,_]) rfl ?_
        refine rl_end ?_
        by_cases c5 : 0 ≤ idxF badDay ds
        · refine fl_then rfl (decide_eq_true c5) ?_
          refine fl_seq ?_
          refine rl_start ?_
          refine rl_det (met_none rfl) (fun h_ H_ => exd_assign (v := .int .i64 100) rfl) (tm' := _::_::_::_) rfl ?_
          refine rl_end ?_
          refine fl_ret Try.func32 rfl (vs := [.int .i64 100]) (fun h_ H_ => ⟨.int .i64 100, _, rfl, rfl, rfl⟩) (v := .int .i64 100) rfl ?_
          have hl := D.len
          exact fun h_ H_ => K _ _ ⟨by first | (rw [chk_good (by omega) (by omega) (by omega) (by omega)]) | (rw [chk_bad (by omega)]), H_.kept⟩
        · refine fl_else rfl (decide_eq_false c5) ?_
          refine fl_skip ?_
          refine fl_seq ?_
          refine rl_start ?_
          refine rl_det (met_none rfl) (fun h_ H_ => exd_assign (v := .int .i64 0) rfl) (tm' := _::_::_::_) rfl ?_
          refine rl_end ?_
          refine fl_ret Try.func32 rfl (vs := [.int .i64 0]) (fun h_ H_ => ⟨.int .i64 0, _, rfl, rfl, rfl⟩) (v := .int .i64 0) rfl ?_
          have hl := D.len
          exact fun h_ H_ => K _ _ ⟨by first | (rw [chk_good (by omega) (by omega) (by omega) (by omega)]) | (rw [chk_bad (by omega)]), H_.kept⟩
    · refine rl_pass (met_not rfl rfl (not_t (decide_eq_false c3))) (tm' := _::_::_::_::_::_::_::_::_::_::_::_::_::_::_::_::_::_::_) rfl ?_
      refine rl_pass (met_not rfl rfl (not_t (decide_eq_false c3))) (tm' := [_,_,_,_,_,_,_,_,_,_,_,_,_,_,_,_,_,_,_,_,_,_,_,_,_,_,_,_]) rfl ?_
      refine rl_pass (met_not rfl rfl (not_t (decide_eq_false c3))) (tm' := [_,_,_,_,_,_,_,_,_,_,_,_,_,_,_,_,_,_,_,_,_,_,_,_,_,_,_,_]) rfl ?_
      refine rl_pass (met_not rfl rfl (not_t (decide_eq_false c3))) (tm' := [_,_,_,_,_,_,_,_,_,_,_,_,_,_,_,_,_,_,_,_,_,_,_,_,_,_,_,_]) rfl ?_
      refine rl_det (met_none rfl) (fun h_ H_ => exd_pick_t rfl (not_t (decide_eq_false c3)) (v := .bool (true)) rfl) (tm' := [_,_,_,_,_,_,_,_,_,_,_,_,_,_,_,_,_,_,_,_,_,_,_,_,_,_,_,_]) rfl ?_
      refine rl_det (met_none rfl) (fun h_ H_ => exd_move (v := .bool (true)) rfl) (tm' := [_,_,_,_,_,_,_,_,_,_,_,_,_,_,_,_,_,_,_,_,_,_,_,_,_,_,_,_]) rfl ?_
      refine rl_pass (met_not rfl rfl rfl) (tm' := [_,_,_,_,_,_,_,_,_,_,_,_,_,_,_,_,_,_,_,_,_,_,_,_,_,_,_,_]) rfl ?_
      refine rl_pass (met_not rfl rfl rfl) (tm' := [_,_,_,_,_,_,_,_,_,_,_,_,_,_,_,_,_,_,_,_,_,_,_,_,_,_,_,_]) rfl ?_
      refine rl_pass (met_not rfl rfl rfl) (tm' := [_,_,_,_,_,_,_,_,_,_,_,_,_,_,_,_,_,_,_,_,_,_,_,_,_,_,_,_]) rfl ?_
      refine rl_pass (met_not rfl rfl rfl) (tm' := [_,_,_,_,_,_,_,_,_,_,_,_,_,_,_,_,_,_,_,_,_,_,_,_,_,_,_,_]) rfl ?_
      refine rl_det (met_none rfl) (fun h_ H_ => exd_pick_t rfl rfl (v := .bool (true)) rfl) (tm' := [_,_,_,_,_,_,_,_,_,_,_,_,_,_,_,_,_,_,_,_,_,_,_,_,_,_,_,_]) rfl ?_
      refine rl_end ?_
      refine fl_then rfl rfl ?_
      refine fl_seq ?_
      refine rl_start ?_
      refine rl_det (met_none rfl) (fun h_ H_ => exd_assign (v := .int .i64 100) rfl) (tm' := _::_::_::_) rfl ?_
      refine rl_end ?_
      refine fl_ret Try.func32 rfl (vs := [.int .i64 100]) (fun h_ H_ => ⟨.int .i64 100, _, rfl, rfl, rfl⟩) (v := .int .i64 100) rfl ?_
      have hl := D.len
      exact fun h_ H_ => K _ _ ⟨by first | (rw [chk_good (by omega) (by omega) (by omega) (by omega)]) | (rw [chk_bad (by omega)]), H_.kept⟩
  · refine rl_pass (met_not rfl rfl (not_t (decide_eq_false c2))) (tm' := _::_::_::_::_::_::_::_::_::_::_) rfl ?_
    refine rl_pass (met_not rfl rfl (not_t (decide_eq_false c2))) (tm' := _::_::_::_::_::_::_::_::_::_::_::_) rfl ?_
    refine rl_pass (met_not rfl rfl (not_t (decide_eq_false c2))) (tm' := _::_::_::_::_::_::_::_::_::_::_::_::_) rfl ?_
    refine rl_pass (met_not rfl rfl (not_t (decide_eq_false c2))) (tm' := _::_::_::_::_::_::_::_::_::_::_::_::_::_) rfl ?_
    refine rl_pass (met_not rfl rfl (not_t (decide_eq_false c2))) (tm' := _::_::_::_::_::_::_::_::_::_::_::_::_::_::_) rfl ?_
    refine rl_pass (met_not rfl rfl (not_t (decide_eq_false c2))) (tm' := _::_::_::_::_::_::_::_::_::_::_::_::_::_::_::_) rfl ?_
    refine rl_det (met_none rfl) (fun h_ H_ => exd_pick_t rfl (not_t (decide_eq_false c2)) (v := .bool (true)) rfl) (tm' := _::_::_::_::_::_::_::_::_::_::_::_::_::_::_::_::_) rfl ?_
    refine rl_det (met_none rfl) (fun h_ H_ => exd_move (v := .bool (true)) rfl) (tm' := _::_::_::_::_::_::_::_::_::_::_::_::_::_::_::_::_::_) rfl ?_
    refine rl_pass (met_not rfl rfl rfl) (tm' := _::_::_::_::_::_::_::_::_::_::_::_::_::_::_::_::_::_::_) rfl ?_
    refine rl_pass (met_not rfl rfl rfl) (tm' := [_,_,_,_,_,_,_,_,_,_,_,_,_,_,_,_,_,_,_,_,_,_,_,_,_,_,_,_]) rfl ?_
    refine rl_pass (met_not rfl rfl rfl) (tm' := [_,_,_,_,_,_,_,_,_,_,_,_,_,_,_,_,_,_,_,_,_,_,_,_,_,_,_,_]) rfl ?_
    refine rl_pass (met_not rfl rfl rfl) (tm' := [_,_,_,_,_,_,_,_,_,_,_,_,_,_,_,_,_,_,_,_,_,_,_,_,_,_,_,_]) rfl ?_
    refine rl_det (met_none rfl) (fun h_ H_ => exd_pick_t rfl rfl (v := .bool (true)) rfl) (tm' := [_,_,_,_,_,_,_,_,_,_,_,_,_,_,_,_,_,_,_,_,_,_,_,_,_,_,_,_]) rfl ?_
    refine rl_det (met_none rfl) (fun h_ H_ => exd_move (v := .bool (true)) rfl) (tm' := [_,_,_,_,_,_,_,_,_,_,_,_,_,_,_,_,_,_,_,_,_,_,_,_,_,_,_,_]) rfl ?_
    refine rl_pass (met_not rfl rfl rfl) (tm' := [_,_,_,_,_,_,_,_,_,_,_,_,_,_,_,_,_,_,_,_,_,_,_,_,_,_,_,_]) rfl ?_
    refine rl_pass (met_not rfl rfl rfl) (tm' := [_,_,_,_,_,_,_,_,_,_,_,_,_,_,_,_,_,_,_,_,_,_,_,_,_,_,_,_]) rfl ?_
    refine rl_pass (met_not rfl rfl rfl) (tm' := [_,_,_,_,_,_,_,_,_,_,_,_,_,_,_,_,_,_,_,_,_,_,_,_,_,_,_,_]) rfl ?_
    refine rl_pass (met_not rfl rfl rfl) (tm' := [_,_,_,_,_,_,_,_,_,_,_,_,_,_,_,_,_,_,_,_,_,_,_,_,_,_,_,_]) rfl ?_
    refine rl_det (met_none rfl) (fun h_ H_ => exd_pick_t rfl rfl (v := .bool (true)) rfl) (tm' := [_,_,_,_,_,_,_,_,_,_,_,_,_,_,_,_,_,_,_,_,_,_,_,_,_,_,_,_]) rfl ?_
    refine rl_end ?_
    refine fl_then rfl rfl ?_
    refine fl_seq ?_
    refine rl_start ?_
    refine rl_det (met_none rfl) (fun h_ H_ => exd_assign (v := .int .i64 100) rfl) (tm' := _::_::_::_) rfl ?_
    refine rl_end ?_
    refine fl_ret Try.func32 rfl (vs := [.int .i64 100]) (fun h_ H_ => ⟨.int .i64 100, _, rfl, rfl, rfl⟩) (v := .int .i64 100) rfl ?_
    have hl := D.len
    exact fun h_ H_ => K _ _ ⟨by first | (rw [chk_good (by omega) (by omega) (by omega) (by omega)]) | (rw [chk_bad (by omega)]), H_.kept⟩
theorem c65 (md : Md) (h : Heap) (p : PHeap) (hp : Per p h) (size start : Int) (a : Option Addr) (n c : Nat) (ds : List Day) (D : Days p a n ds) (hn : n ≤ 40) (t : Bool) : CallsX Try.prog md 65 #[.agg #[.int .i64 (size), .int .i64 (start), .slice a n c], .bool (t)] h fun v h' => v = .int .i64 (askd size start ds t) ∧ Keep h h' := by
  refine calls_intro (Φ := fun h_ => St h [] p h_ []) Try.func65 rfl (tm := [_, _, _, _, _, _, _, _, _, _, _, _, _]) rfl ?_ (St.start h _ hp)
  intro c₀ cs Stop K
  refine fl_seq ?_
  refine rl_start ?_
  refine rl_box (met_none rfl) (v := .agg #[.int .i64 (size), .int .i64 (start), .slice a n c]) rfl fun b1 => rl_own (L' := [(b1, .cells #[.int .i64 (size), .int .i64 (start), .slice a n c] 24 (0, 0))]) rfl ?_
  refine rl_norm (tm' := _::_::_::_) rfl ?_
  refine rl_det (met_none rfl) (fun h_ H_ => exd_assign (v := .int .i64 0) rfl) (tm' := _::_::_::_::_::_) rfl ?_
  refine rl_end ?_
  refine fl_seq ?_
  refine fl_seq ?_
  refine rl_start ?_
  refine rl_det (met_none rfl) (fun h_ H_ => exd_loadN_own H_ tA24 tS24 rfl (i := 0) rfl (vs := [.int .i64 (size), .int .i64 (start), .slice a n c]) rfl rfl) (tm' := _::_::_::_::_::_::_::_) rfl ?_
  refine rl_calld (met_none rfl) (first := []) (cap := []) rfl rfl fC32 (fun h_ H_ => c32 md _ _ (fun b_ o_ e_ => H_.per b_ o_ e_) (size) (start) _ _ _ _ D (by omega)) (tm' := _::_::_::_::_::_::_::_::_) rfl ?_
  refine rl_det (met_none rfl) (fun h_ H_ => exd_assign (v := .int .i64 (chk (size) (start) ds)) rfl) (tm' := _::_::_::_::_::_::_) rfl ?_
  refine rl_end ?_
  refine fl_seq ?_
  refine rl_start ?_
  refine rl_det (met_none rfl) (fun h_ H_ => exd_move (v := .int .i64 (chk (size) (start) ds)) rfl) (tm' := [_,_,_,_,_,_,_,_,_,_,_,_,_]) rfl ?_
  refine rl_det (met_none rfl) (fun h_ H_ => exd_neq rfl rfl) (tm' := [_,_,_,_,_,_,_,_,_,_,_,_,_]) rfl ?_
  refine rl_end ?_
  by_cases c2 : chk (size) (start) ds ≠ 0
  · refine fl_then rfl (decide_eq_true c2) ?_
    refine fl_seq ?_
    refine rl_start ?_
    refine rl_det (met_none rfl) (fun h_ H_ => exd_move (v := .int .i64 (chk (size) (start) ds)) rfl) (tm' := [_,_,_,_,_,_,_,_,_,_,_,_,_]) rfl ?_
    refine rl_det (met_none rfl) (fun h_ H_ => exd_assign (v := .int .i64 (chk (size) (start) ds)) rfl) (tm' := _::_::_::_::_::_) rfl ?_
    refine rl_end ?_
    refine fl_ret Try.func65 rfl (vs := [.int .i64 (chk (size) (start) ds)]) (fun h_ H_ => ⟨.int .i64 (chk (size) (start) ds), _, rfl, rfl, rfl⟩) (v := .int .i64 (chk (size) (start) ds)) rfl ?_
    exact fun h_ H_ => K _ _ ⟨by unfold askd; unfold chk at *; split <;> simp_all, H_.kept⟩
  · refine fl_else rfl (decide_eq_false c2) ?_
    refine fl_skip ?_
    refine fl_seq ?_
    refine fl_seq ?_
    refine rl_start ?_
    refine rl_det (met_none rfl) (fun h_ H_ => exd_move (v := .bool (t)) rfl) (tm' := [_,_,_,_,_,_,_,_,_,_,_,_,_]) rfl ?_
    refine rl_det (met_none rfl) (fun h_ H_ => exd_not rfl) (tm' := [_,_,_,_,_,_,_,_,_,_,_,_,_]) rfl ?_
    refine rl_end ?_
    rcases bcases (t) with c3 | c3
    · refine fl_else rfl (not_f c3) ?_
      refine fl_skip ?_
      refine fl_seq ?_
      refine rl_start ?_
      refine rl_det (met_none rfl) (fun h_ H_ => exd_assign (v := .int .i64 0) rfl) (tm' := _::_::_::_::_::_) rfl ?_
      refine rl_end ?_
      refine fl_ret Try.func65 rfl (vs := [.int .i64 0]) (fun h_ H_ => ⟨.int .i64 0, _, rfl, rfl, rfl⟩) (v := .int .i64 0) rfl ?_
      exact fun h_ H_ => K _ _ ⟨by unfold askd; unfold chk at *; split <;> simp_all, H_.kept⟩
    · refine fl_then rfl (not_t c3) ?_
      refine fl_seq ?_
      refine rl_start ?_
      refine rl_det (met_none rfl) (fun h_ H_ => exd_assign (v := .int .i64 1) rfl) (tm' := _::_::_::_::_::_) rfl ?_
      refine rl_end ?_
      refine fl_ret Try.func65 rfl (vs := [.int .i64 1]) (fun h_ H_ => ⟨.int .i64 1, _, rfl, rfl, rfl⟩) (v := .int .i64 1) rfl ?_
      exact fun h_ H_ => K _ _ ⟨by unfold askd; unfold chk at *; split <;> simp_all, H_.kept⟩
end Go.Proofs.Ytbmkacnlhlbnjaa
namespace Go.Proofs.Ytbmkacnlhlbnjaa
open Go.X Go.X.Cist Go.Conc
set_option maxRecDepth 10000

theorem c80 (md : Md) (h : Heap) (p : PHeap) (hp : Per p h) (bA : Nat) (l k o m : Int) (hA : p bA = some (.cells #[.int .i64 m] 3 (0, 0))) : CallsX Try.prog md 80 #[.agg #[.int .i64 (l), .int .i64 (k), .int .i64 (o)], .pointer (some ⟨bA, 0, none⟩)] h fun v h' => v = .bool (decide (m ≤ o)) ∧ Keep h h' := by
  refine calls_intro (Φ := fun h_ => St h [] p h_ []) Try.func80 rfl (tm := [_, _, _, _, _, _, _, _]) rfl ?_ (St.start h _ hp)
  intro c₀ cs Stop K
  refine fl_seq ?_
  refine rl_start ?_
  refine rl_box (met_none rfl) (v := .agg #[.int .i64 (l), .int .i64 (k), .int .i64 (o)]) rfl fun b1 => rl_own (L' := [(b1, .cells #[.int .i64 (l), .int .i64 (k), .int .i64 (o)] 72 (0, 0))]) rfl ?_
  refine rl_norm (tm' := _::_::_::_) rfl ?_
  refine rl_det (met_none rfl) (fun h_ H_ => exd_assign (v := .bool (false)) rfl) (tm' := _::_::_::_::_) rfl ?_
  refine rl_end ?_
  refine fl_seq ?_
  refine rl_start ?_
  refine rl_det (met_none rfl) (fun h_ H_ => exd_fieldAddr tF72_2 rfl (a' := ⟨b1, 2, none⟩) rfl) (tm' := _::_::_::_::_::_) rfl ?_
  refine rl_det (met_none rfl) (fun h_ H_ => exd_load_own H_ tA3 rfl (i := 0) rfl (v := .int .i64 (o)) rfl) (tm' := [_,_,_,_,_,_,_,_]) rfl ?_
  refine rl_det (met_none rfl) (fun h_ H_ => exd_load_per H_ tA3 rfl (v := .int .i64 (m)) (per_cell hA rfl)) (tm' := [_,_,_,_,_,_,_,_]) rfl ?_
  refine rl_det (met_none rfl) (fun h_ H_ => exd_geq rfl rfl) (tm' := [_,_,_,_,_,_,_,_]) rfl ?_
  refine rl_det (met_none rfl) (fun h_ H_ => exd_assign (v := .bool (decide (m ≤ o))) rfl) (tm' := _::_::_::_::_) rfl ?_
  refine rl_end ?_
  refine fl_ret Try.func80 rfl (vs := [.bool (decide (m ≤ o))]) (fun h_ H_ => ⟨.bool (decide (m ≤ o)), _, rfl, rfl, rfl⟩) (v := .bool (decide (m ≤ o))) rfl ?_
  exact fun h_ H_ => K _ _ ⟨rfl, H_.kept⟩
end Go.Proofs.Ytbmkacnlhlbnjaa
namespace Go.Proofs.Ytbmkacnlhlbnjaa
open Go.X Go.X.Cist Go.Conc
set_option maxRecDepth 10000

theorem c84 (md : Md) (h : Heap) (l k o : Int) : CallsX Try.prog md 84 #[.agg #[.int .i64 (l), .int .i64 (k), .int .i64 (o)]] h fun v h' => v = .bool (decide (0 < k)) ∧ Keep h h' := by
  refine calls_intro (Φ := fun h_ => St h [] (fun _ => none) h_ []) Try.func84 rfl (tm := [_, _, _, _, _, _]) rfl ?_ (St.start h _ (fun _ _ e => by cases e))
  intro c₀ cs Stop K
  refine fl_seq ?_
  refine rl_start ?_
  refine rl_box (met_none rfl) (v := .agg #[.int .i64 (l), .int .i64 (k), .int .i64 (o)]) rfl fun b1 => rl_own (L' := [(b1, .cells #[.int .i64 (l), .int .i64 (k), .int .i64 (o)] 72 (0, 0))]) rfl ?_
  refine rl_norm (tm' := _::_::_) rfl ?_
  refine rl_det (met_none rfl) (fun h_ H_ => exd_assign (v := .bool (false)) rfl) (tm' := _::_::_::_) rfl ?_
  refine rl_end ?_
  refine fl_seq ?_
  refine rl_start ?_
  refine rl_det (met_none rfl) (fun h_ H_ => exd_fieldAddr tF72_1 rfl (a' := ⟨b1, 1, none⟩) rfl) (tm' := _::_::_::_::_) rfl ?_
  refine rl_det (met_none rfl) (fun h_ H_ => exd_load_own H_ tA3 rfl (i := 0) rfl (v := .int .i64 (k)) rfl) (tm' := [_,_,_,_,_,_]) rfl ?_
  refine rl_det (met_none rfl) (fun h_ H_ => exd_gtr rfl rfl) (tm' := [_,_,_,_,_,_]) rfl ?_
  refine rl_det (met_none rfl) (fun h_ H_ => exd_assign (v := .bool (decide (0 < k))) rfl) (tm' := _::_::_::_) rfl ?_
  refine rl_end ?_
  refine fl_ret Try.func84 rfl (vs := [.bool (decide (0 < k))]) (fun h_ H_ => ⟨.bool (decide (0 < k)), _, rfl, rfl, rfl⟩) (v := .bool (decide (0 < k))) rfl ?_
  exact fun h_ H_ => K _ _ ⟨rfl, H_.kept⟩
theorem c86 (md : Md) (h : Heap) (p : PHeap) (hp : Per p h) (bY : Nat) (size start : Int) (a : Option Addr) (n c : Nat) (ds : List Day) (D : Days p a n ds) (hn : n ≤ 40) (hY : p bY = some (.cells #[.int .i64 size, .int .i64 start, .slice a n c] 24 (0, 0))) (k : Nat) (hk : k < n) : CallsX Try.prog md 86 #[.int .i64 (((k : Nat) : Int)), .pointer (some ⟨bY, 0, none⟩)] h fun v h' => v = .int .i64 (ds.getD k dz).lo ∧ Keep h h' := by
  refine calls_intro (Φ := fun h_ => St h [] p h_ []) Try.func86 rfl (tm := [_, _, _, _, _, _, _, _, _, _, _]) rfl ?_ (St.start h _ hp)
  intro c₀ cs Stop K
  refine fl_seq ?_
  refine rl_start ?_
  refine rl_det (met_none rfl) (fun h_ H_ => exd_assign (v := .int .i64 0) rfl) (tm' := _::_::_::_::_) rfl ?_
  refine rl_end ?_
  refine fl_seq ?_
  refine rl_start ?_
  refine rl_det (met_none rfl) (fun h_ H_ => exd_fieldAddr tF24_2 rfl (a' := ⟨bY, 2, none⟩) rfl) (tm' := _::_::_::_::_::_) rfl ?_
  refine rl_det (met_none rfl) (fun h_ H_ => exd_load_per H_ tA22 rfl (v := .slice a n c) (per_cell hY rfl)) (tm' := _::_::_::_::_::_::_) rfl ?_
  refine rl_det (met_none rfl) (fun h_ H_ => exd_move (v := .int .i64 (((k : Nat) : Int))) rfl) (tm' := _::_::_::_::_::_::_::_) rfl ?_
  refine rl_det (met_none rfl) (fun h_ H_ => exd_indexAddrN (i := k) Try.underlying22 tS38 (sl_ne a n c (D.ne (by omega))) rfl (by omega)) (tm' := [_,_,_,_,_,_,_,_,_,_,_]) rfl ?_
  refine rl_det (met_none rfl) (fun h_ H_ => exd_fieldAddr tF38_0 rfl (a' := (adr a).add (k * 3)) rfl) (tm' := [_,_,_,_,_,_,_,_,_,_,_]) rfl ?_
  refine rl_det (met_none rfl) (fun h_ H_ => exd_fieldAddr tF36_0 rfl (a' := (adr a).add (k * 3)) rfl) (tm' := [_,_,_,_,_,_,_,_,_,_,_]) rfl ?_
  refine rl_det (met_none rfl) (fun h_ H_ => exd_load_per H_ tA3 rfl (v := .int .i64 ((ds.getD k dz).lo)) (D.lo (by omega))) (tm' := [_,_,_,_,_,_,_,_,_,_,_]) rfl ?_
  refine rl_det (met_none rfl) (fun h_ H_ => exd_assign (v := .int .i64 ((ds.getD k dz).lo)) rfl) (tm' := _::_::_::_::_) rfl ?_
  refine rl_end ?_
  refine fl_ret Try.func86 rfl (vs := [.int .i64 ((ds.getD k dz).lo)]) (fun h_ H_ => ⟨.int .i64 ((ds.getD k dz).lo), _, rfl, rfl, rfl⟩) (v := .int .i64 ((ds.getD k dz).lo)) rfl ?_
  exact fun h_ H_ => K _ _ ⟨rfl, H_.kept⟩
theorem c62 (md : Md) (h : Heap) (p : PHeap) (hp : Per p h) (size start : Int) (a : Option Addr) (n c : Nat) (ds : List Day) (D : Days p a n ds) (hn : n ≤ 40) (hs : 0 ≤ size ∧ size ≤ 60 ∧ 0 ≤ start) (hd : Dok ds) : CallsX Try.prog md 62 #[.agg #[.int .i64 (size), .int .i64 (start), .slice a n c]] h fun v h' => v = .bool (decide (Lasts size start ds)) ∧ Keep h h' := by
  refine calls_intro (Φ := fun h_ => St h [] p h_ []) Try.func62 rfl (tm := [_, _, _, _, _, _, _, _, _, _, _, _]) rfl ?_ (St.start h _ hp)
  intro c₀ cs Stop K
  have hl := D.len
  refine fl_seq ?_
  refine rl_start ?_
  refine rl_box (met_none rfl) (v := .agg #[.int .i64 (size), .int .i64 (start), .slice a n c]) rfl fun b1 => rl_own (L' := [(b1, .cells #[.int .i64 (size), .int .i64 (start), .slice a n c] 24 (0, 0))]) rfl ?_
  refine rl_norm (tm' := _::_::_) rfl ?_
  refine rl_alloc (met_none rfl) tZ4 rfl fun b2 => rl_own (L' := [(b2, .cells #[.bool (false)] 4 (0, 0)), (b1, .cells #[.int .i64 (size), .int .i64 (start), .slice a n c] 24 (0, 0))]) rfl ?_
  refine rl_norm (tm' := _::_::_::_) rfl ?_
  refine rl_end ?_
  refine fl_seq ?_
  refine fl_seq ?_
  refine rl_start ?_
  refine rl_det (met_none rfl) (fun h_ H_ => exd_loadN_own H_ tA24 tS24 rfl (i := 1) rfl (vs := [.int .i64 (size), .int .i64 (start), .slice a n c]) rfl rfl) (tm' := _::_::_::_::_::_::_) rfl ?_
  refine rl_det (met_none rfl) (fun h_ H_ => exd_makeFunc (a := []) (b := [.pointer (some ⟨b1, 0, none⟩)]) rfl rfl) (tm' := _::_::_::_::_::_::_::_) rfl ?_
  refine rl_call (met_none rfl) (first := []) (cap := []) rfl rfl fC72 (R := fun v_ h_ => ∃ b3 : Nat, ∃ b4 : Nat, v_ = .func (.func 95) #[] #[.pointer (some ⟨b3, 0, none⟩), .pointer (some ⟨b4, 0, none⟩)] ∧ St h [] p h_ ([(b4, .cells #[.func (.func 86) #[] #[.pointer (some ⟨b1, 0, none⟩)]] 77 (0, 0)), (b3, .cells #[.int .i64 (size), .int .i64 (start), .slice a n c] 24 (0, 0)), (b2, .cells #[.bool (false)] 4 (0, 0)), (b1, .cells #[.int .i64 (size), .int .i64 (start), .slice a n c] 24 (0, 0))])) (fun h_ H_ => (c72 md _ (size) (start) _ _ _ (.func (.func 86) #[] #[.pointer (some ⟨b1, 0, none⟩)]) rfl).mono fun v_ h2_ ⟨b3, b4, e_, N_⟩ => ⟨b3, b4, e_, H_.callN N_⟩) fun v_ => ?_
  refine rl_ex fun b3 => rl_ex fun b4 => rl_and fun ev_ => ?_
  have ev_ := ev_.symm; subst ev_
  refine rl_norm (tm' := _::_::_::_::_::_::_::_::_) rfl ?_
  refine rl_end ?_
  refine fl_block ?_
  refine rs_last 0 rfl (L' := [(b3, .cells #[.int .i64 (size), .int .i64 (start), .slice a n c] 24 (0, 0)), (b2, .cells #[.bool (false)] 4 (0, 0)), (b1, .cells #[.int .i64 (size), .int .i64 (start), .slice a n c] 24 (0, 0))]) rfl fun p5 le6 hb7 => ?_
  refine rs_last 0 rfl (L' := [(b2, .cells #[.bool (false)] 4 (0, 0)), (b1, .cells #[.int .i64 (size), .int .i64 (start), .slice a n c] 24 (0, 0))]) rfl fun p8 le9 hb10 => ?_
  refine rs_last 1 rfl (L' := [(b2, .cells #[.bool (false)] 4 (0, 0))]) rfl fun p11 le12 hb13 => ?_
  refine fl_range (R := fun r_ l_ lp_ _ h_ => ∃ X_, ((X_ = ([(l_, .loop lp_), (r_, .deferred (some [])), (b2, .cells #[.bool (false)] 4 (0, 0))] : Pcs) ++ [] ∧ (∀ i, i < n → ¬ 0 < lack size (min start size) (wantOf ds) (loOf ds) i)) ∨ (X_ = ([(l_, .loop { { lp_ with state := .busy } with state := .done, pending := some .ret }), (r_, .deferred (some [])), (b2, .cells #[.bool (false)] 4 (0, 0))] : Pcs) ++ [] ∧ (∃ i, i < n ∧ 0 < lack size (min start size) (wantOf ds) (loOf ds) i))) ∧ St h [] p11 h_ X_) ?_ ?_
  · intro r_ l_ lp_ h_ hlp_ s_
    show CallV _ md (.func (.func 95) ([] : List Value).toArray ([.pointer (some ⟨b3, 0, none⟩), .pointer (some ⟨b4, 0, none⟩)] : List Value).toArray) _ h_ _
    refine callv_of fC95 ?_
    refine c95 md _ _ _ _ _ s_ (.func (.yield l_) #[] #[]) (.func (.func 86) #[] #[.pointer (some ⟨b1, 0, none⟩)]) _ _ _ _ _ _ _ _ (((D.mono le6).mono le9).mono le12) (by omega) (loOf ds) (le12 _ _ hb10) (le12 _ _ (le9 _ _ hb7)) hs (fun i hi => (hd i (by omega)).2) (fun i hi => by have := hd i (by omega); unfold loOf; omega) (fun h_ i_ hp_ hi_ => callv_of fC86 (c86 md _ _ hp_ _ _ _ _ _ _ _ (((D.mono le6).mono le9).mono le12) hn hb13 i_ (by omega))) (fun rd_ X_ => X_ = ([(l_, .loop lp_), (r_, .deferred (some [])), (b2, .cells #[.bool (false)] 4 (0, 0))] : Pcs) ++ [] ∧ (∀ i, i < rd_ → ¬ 0 < lack size (min start size) (wantOf ds) (loOf ds) i)) (fun X_ => X_ = ([(l_, .loop { { lp_ with state := .busy } with state := .done, pending := some .ret }), (r_, .deferred (some [])), (b2, .cells #[.bool (false)] 4 (0, 0))] : Pcs) ++ [] ∧ (∃ i, i < n ∧ 0 < lack size (min start size) (wantOf ds) (loOf ds) i)) ⟨by simp, (fun i hi => absurd hi (Nat.not_lt_zero i))⟩ ?_
    intro rd_ h_ Z_ X_ hi_ hI_ s_
    obtain ⟨rfl, ho⟩ := hI_
    refine callv_round (Φ := fun h_ => St h [] p11 h_ (([(l_, .loop lp_), (r_, .deferred (some [])), (b2, .cells #[.bool (false)] 4 (0, 0))] : Pcs) ++ (Z_ ++ []))) (s_.rot.at (i := 0) rfl) hlp_ rfl (tm' := [.agg #[.int .i64 (size), .int .i64 (start), .slice a n c], .pointer (some ⟨b1, 0, none⟩), .pointer (some ⟨b2, 0, none⟩), undef, undef, .agg #[.int .i64 (size), .int .i64 (start), .slice a n c], .func (.func 86) #[] #[.pointer (some ⟨b1, 0, none⟩)], .func (.func 95) #[] #[.pointer (some ⟨b3, 0, none⟩), .pointer (some ⟨b4, 0, none⟩)], .int .i64 (((rd_ : Nat) : Int)), .agg #[.int .i64 (lev size (min start size) (wantOf ds) (loOf ds) (rd_ + 1)), .int .i64 (lack size (min start size) (wantOf ds) (loOf ds) rd_), .int .i64 (ovr size (min start size) (wantOf ds) (loOf ds) rd_)], undef, undef]) rfl ?_ (by simpa using s_.rot)
    intro c₁ cs₁ Stop₁ K₁
    refine rl_start ?_
    refine rl_alloc (met_none rfl) tZ72 rfl fun b14 => rl_own (L' := ([(b14, .cells #[.int .i64 0, .int .i64 0, .int .i64 0] 72 (0, 0)), (l_, .loop lp_), (r_, .deferred (some [])), (b2, .cells #[.bool (false)] 4 (0, 0))] : Pcs) ++ (Z_ ++ [])) rfl ?_
    refine rl_norm (tm' := _::_::_::_::_::_) rfl ?_
    refine rl_store (met_none rfl) tS72 rfl (v := .agg #[.int .i64 (lev size (min start size) (wantOf ds) (loOf ds) (rd_ + 1)), .int .i64 (lack size (min start size) (wantOf ds) (loOf ds) rd_), .int .i64 (ovr size (min start size) (wantOf ds) (loOf ds) rd_)]) rfl (i := 0) rfl rfl rfl (Nat.le_of_ble_eq_true rfl) (cs2 := [.int .i64 (lev size (min start size) (wantOf ds) (loOf ds) (rd_ + 1)), .int .i64 (lack size (min start size) (wantOf ds) (loOf ds) rd_), .int .i64 (ovr size (min start size) (wantOf ds) (loOf ds) rd_)]) rfl (rl_own (L' := ([(b14, .cells #[.int .i64 (lev size (min start size) (wantOf ds) (loOf ds) (rd_ + 1)), .int .i64 (lack size (min start size) (wantOf ds) (loOf ds) rd_), .int .i64 (ovr size (min start size) (wantOf ds) (loOf ds) rd_)] 72 (0, 0)), (l_, .loop lp_), (r_, .deferred (some [])), (b2, .cells #[.bool (false)] 4 (0, 0))] : Pcs) ++ (Z_ ++ [])) rfl ?_)
    refine rl_end ?_
    refine fl_begin (i := 1) rfl (by rw [hlp_]; rfl) ?_
    refine rs_own (L' := ([(b14, .cells #[.int .i64 (lev size (min start size) (wantOf ds) (loOf ds) (rd_ + 1)), .int .i64 (lack size (min start size) (wantOf ds) (loOf ds) rd_), .int .i64 (ovr size (min start size) (wantOf ds) (loOf ds) rd_)] 72 (0, 0)), (l_, .loop { lp_ with state := .busy }), (r_, .deferred (some [])), (b2, .cells #[.bool (false)] 4 (0, 0))] : Pcs) ++ (Z_ ++ [])) rfl ?_
    refine fl_block ?_
    refine fl_seq ?_
    refine rl_start ?_
    refine rl_det (met_none rfl) (fun h_ H_ => exd_loadN_own H_ tA72 tS72 rfl (i := 0) rfl (vs := [.int .i64 (lev size (min start size) (wantOf ds) (loOf ds) (rd_ + 1)), .int .i64 (lack size (min start size) (wantOf ds) (loOf ds) rd_), .int .i64 (ovr size (min start size) (wantOf ds) (loOf ds) rd_)]) rfl rfl) (tm' := [_,_,_,_,_,_,_,_,_,_,_,_]) rfl ?_
    refine rl_calld (met_none rfl) (first := []) (cap := []) rfl rfl fC84 (fun h_ H_ => c84 md _ (lev size (min start size) (wantOf ds) (loOf ds) (rd_ + 1)) (lack size (min start size) (wantOf ds) (loOf ds) rd_) (ovr size (min start size) (wantOf ds) (loOf ds) rd_)) (tm' := [_,_,_,_,_,_,_,_,_,_,_,_]) rfl ?_
    refine rl_end ?_
    by_cases c15 : 0 < lack size (min start size) (wantOf ds) (loOf ds) rd_
    · refine fl_then rfl (decide_eq_true c15) ?_
      refine fl_seq ?_
      refine rl_start ?_
      refine rl_store (met_none rfl) tS4 rfl (v := .bool (false)) rfl (i := 3) rfl rfl rfl (Nat.le_of_ble_eq_true rfl) (cs2 := [.bool (false)]) rfl (rl_own (L' := ([(b14, .cells #[.int .i64 (lev size (min start size) (wantOf ds) (loOf ds) (rd_ + 1)), .int .i64 (lack size (min start size) (wantOf ds) (loOf ds) rd_), .int .i64 (ovr size (min start size) (wantOf ds) (loOf ds) rd_)] 72 (0, 0)), (l_, .loop { lp_ with state := .busy }), (r_, .deferred (some [])), (b2, .cells #[.bool (false)] 4 (0, 0))] : Pcs) ++ (Z_ ++ [])) rfl ?_)
      refine rl_end ?_
      refine fl_rret (i := 1) rfl rfl ?_
      refine rs_own (L' := ([(b14, .cells #[.int .i64 (lev size (min start size) (wantOf ds) (loOf ds) (rd_ + 1)), .int .i64 (lack size (min start size) (wantOf ds) (loOf ds) rd_), .int .i64 (ovr size (min start size) (wantOf ds) (loOf ds) rd_)] 72 (0, 0)), (l_, .loop { { lp_ with state := .busy } with state := .done, pending := some .ret }), (r_, .deferred (some [])), (b2, .cells #[.bool (false)] 4 (0, 0))] : Pcs) ++ (Z_ ++ [])) rfl ?_
      exact fun h_ H_ => K₁ _ _ ⟨false, ([(l_, .loop { { lp_ with state := .busy } with state := .done, pending := some .ret }), (r_, .deferred (some [])), (b2, .cells #[.bool (false)] 4 (0, 0))] : Pcs) ++ [], rfl, ⟨fun e_ => (by cases e_), fun _ => ⟨rfl, ⟨rd_, hi_, ‹_›⟩⟩⟩, St.rot' (by simpa using (H_.drop))⟩
    · refine fl_else rfl (decide_eq_false c15) ?_
      refine fl_skip ?_
      refine fl_inBlock ?_
      refine fl_rend (i := 1) rfl (lp' := lp_) (by rw [hlp_]; rfl) ?_
      refine rs_own (L' := ([(b14, .cells #[.int .i64 (lev size (min start size) (wantOf ds) (loOf ds) (rd_ + 1)), .int .i64 (lack size (min start size) (wantOf ds) (loOf ds) rd_), .int .i64 (ovr size (min start size) (wantOf ds) (loOf ds) rd_)] 72 (0, 0)), (l_, .loop lp_), (r_, .deferred (some [])), (b2, .cells #[.bool (false)] 4 (0, 0))] : Pcs) ++ (Z_ ++ [])) rfl ?_
      exact fun h_ H_ => K₁ _ _ ⟨true, ([(l_, .loop lp_), (r_, .deferred (some [])), (b2, .cells #[.bool (false)] 4 (0, 0))] : Pcs) ++ [], rfl, ⟨fun _ => ⟨rfl, (none_step ho ‹_›)⟩, fun e_ => (by cases e_)⟩, St.rot' (by simpa using (H_.drop))⟩
  · intro r_ l_ lp_ v_ hlp_
    refine rs_ex fun X_ => rs_and fun hIJ_ => ?_
    rcases hIJ_ with ⟨rfl, ho⟩ | ⟨rfl, hj⟩
    · refine fl_endNone (i := 0) rfl (by rw [hlp_]; simp [loopOf]) (by rw [hlp_]; rfl) ?_
      refine rs_own (L' := [(l_, .loop { lp_ with state := .exhausted }), (r_, .deferred (some [])), (b2, .cells #[.bool (false)] 4 (0, 0))]) rfl ?_
      refine fl_inBlock ?_
      refine fl_seq ?_
      refine rl_start ?_
      refine rl_store (met_none rfl) tS4 rfl (v := .bool (true)) rfl (i := 2) rfl rfl rfl (Nat.le_of_ble_eq_true rfl) (cs2 := [.bool (true)]) rfl (rl_own (L' := [(l_, .loop { lp_ with state := .exhausted }), (r_, .deferred (some [])), (b2, .cells #[.bool (true)] 4 (0, 0))]) rfl ?_)
      refine rl_end ?_
      refine fl_retD (i := 1) Try.func62 rfl rfl (vs := [.bool (true)]) (fun h_ H_ => ⟨.bool (true), _, rfl, (wpS_bind (wpS_pure (wpS_loadVar1 tA4 (H_.ocell (i := 2) rfl (v := .bool (true)) rfl) ⟨rfl, rfl⟩))), rfl⟩) (v := .bool (true)) rfl ?_
      refine rs_own (L' := [(l_, .loop { lp_ with state := .exhausted }), (r_, .deferred none), (b2, .cells #[.bool (true)] 4 (0, 0))]) rfl ?_
      exact fun h_ H_ => K _ _ ⟨by first | (rw [decide_eq_true]; intro i hi; exact ho i (by omega)) | (rw [decide_eq_false]; intro e; obtain ⟨i, hi, hq⟩ := hj; exact e i (by omega) hq), H_.kept⟩
    · refine fl_endSome (i := 0) rfl (by simp) rfl ?_
      refine rs_own (L' := [(l_, .loop { { { lp_ with state := .busy } with state := .done, pending := some .ret } with state := .exhausted }), (r_, .deferred (some [])), (b2, .cells #[.bool (false)] 4 (0, 0))]) rfl ?_
      refine fl_retD (i := 1) Try.func62 rfl rfl (vs := [.bool (false)]) (fun h_ H_ => ⟨.bool (false), _, rfl, (wpS_bind (wpS_pure (wpS_loadVar1 tA4 (H_.ocell (i := 2) rfl (v := .bool (false)) rfl) ⟨rfl, rfl⟩))), rfl⟩) (v := .bool (false)) rfl ?_
      refine rs_own (L' := [(l_, .loop { { { lp_ with state := .busy } with state := .done, pending := some .ret } with state := .exhausted }), (r_, .deferred none), (b2, .cells #[.bool (false)] 4 (0, 0))]) rfl ?_
      exact fun h_ H_ => K _ _ ⟨by first | (rw [decide_eq_true]; intro i hi; exact ho i (by omega)) | (rw [decide_eq_false]; intro e; obtain ⟨i, hi, hq⟩ := hj; exact e i (by omega) hq), H_.kept⟩
end Go.Proofs.Ytbmkacnlhlbnjaa
namespace Go.Proofs.Ytbmkacnlhlbnjaa
open Go.X Go.X.Cist Go.Conc
set_option maxRecDepth 10000

theorem c87 (md : Md) (h : Heap) (p : PHeap) (hp : Per p h) (a : Option Addr) (n c : Nat) (ds : List Day) (D : Days p a n ds) (hn : n ≤ 40) : CallsX Try.prog md 87 #[.slice a n c] h fun v h' => ∃ w X, v = w ∧ OwnS 38 3 w (dcs ds) X ∧ New h h' X := by
  refine calls_intro (Φ := fun h_ => St h [] p h_ []) Try.func87 rfl (tm := [_, _, _, _, _, _, _, _]) rfl ?_ (St.start h _ hp)
  intro c₀ cs Stop K
  refine fl_seq ?_
  refine rl_start ?_
  refine rl_det (met_none rfl) (fun h_ H_ => exd_assign (v := .slice none 0 0) rfl) (tm' := _::_::_::_) rfl ?_
  refine rl_end ?_
  refine fl_seq ?_
  refine fl_seq ?_
  refine rl_start ?_
  refine rl_det (met_none rfl) (fun h_ H_ => exd_move (v := .slice a n c) rfl) (tm' := _::_::_::_::_) rfl ?_
  refine rl_det (met_none rfl) (fun h_ H_ => exd_eqNil Try.underlying22 rfl) (tm' := _::_::_::_::_::_) rfl ?_
  refine rl_end ?_
  rcases bcases (a.isNone) with c1 | c1
  · refine fl_then rfl c1 ?_
    refine fl_seq ?_
    refine rl_start ?_
    refine rl_det (met_none rfl) (fun h_ H_ => exd_assign (v := .slice none 0 0) rfl) (tm' := _::_::_::_) rfl ?_
    refine rl_end ?_
    refine fl_ret Try.func87 rfl (vs := [.slice none 0 0]) (fun h_ H_ => ⟨.slice none 0 0, _, rfl, rfl, rfl⟩) (v := .slice none 0 0) rfl ?_
    have e := nil_of_none D ‹_›
    subst e
    exact fun h_ H_ => K _ _ ⟨_, [], rfl, OwnS.empty _ _, H_.new⟩
  · refine fl_else rfl c1 ?_
    refine fl_skip ?_
    refine fl_seq ?_
    refine rl_start ?_
    refine rl_own (L' := ([] : Pcs) ++ []) rfl ?_
    refine rl_buildO ([] : Pcs) (met_none rfl) Try.underlying22 tS38 tZ38 (Nat.le_of_ble_eq_true rfl) (vs := []) rfl rfl (es := []) rfl rfl rfl fun v2 X3 o4 => ?_
    refine rl_norm (tm' := [_,_,_,_,_,_,_,_]) rfl ?_
    refine rl_det (met_none rfl) (fun h_ H_ => exd_move (v := .slice a n c) rfl) (tm' := [_,_,_,_,_,_,_,_]) rfl ?_
    refine rl_appendP ([] : Pcs) X3 (met_none rfl) Try.underlying22 tS38 tZ38 rfl tB38 Try.underlying22 rfl rfl o4 D (dcs_ones _) (by simp only [List.length_nil]; omega) (by decide) (by decide) fun v5 X6 o7 => ?_
    refine rl_norm (tm' := [_,_,_,_,_,_,_,_]) rfl ?_
    refine rl_det (met_none rfl) (fun h_ H_ => exd_assign (v := v5) rfl) (tm' := _::_::_::_) rfl ?_
    refine rl_end ?_
    refine fl_ret Try.func87 rfl (vs := [v5]) (fun h_ H_ => ⟨v5, _, rfl, rfl, rfl⟩) (v := v5) rfl ?_
    exact fun h_ H_ => K _ _ ⟨_, _, rfl, o7, by simpa using H_.dropA.new⟩
theorem c63 (md : Md) (h : Heap) (p : PHeap) (hp : Per p h) (size start : Int) (a : Option Addr) (n c : Nat) (ds : List Day) (D : Days p a n ds) (hn : n ≤ 40) (wv : Value) (wf : Nat → Int → Int) (hw : ∀ h, Per p h → ∀ i, i < n → CallV Try.prog md wv [.int .i64 ((i : Nat) : Int), .int .i64 (ds.getD i dz).want] h fun v h' => v = .int .i64 (wf i (ds.getD i dz).want) ∧ Keep h h') : CallsX Try.prog md 63 #[.agg #[.int .i64 (size), .int .i64 (start), .slice a n c], wv] h fun v h' => ∃ w X, v = .agg #[.int .i64 size, .int .i64 start, w] ∧ OwnS 38 3 w (dcs (wmap wf ds)) X ∧ New h h' X := by
  refine calls_intro (Φ := fun h_ => St h [] p h_ []) Try.func63 rfl (tm := [_, _, _, _, _, _, _, _, _, _, _, _, _, _, _, _, _, _, _, _, _, _, _, _, _, _, _, _, _, _, _, _]) rfl ?_ (St.start h _ hp)
  intro c₀ cs Stop K
  have hl := D.len
  refine fl_seq ?_
  refine rl_start ?_
  refine rl_box (met_none rfl) (v := .agg #[.int .i64 (size), .int .i64 (start), .slice a n c]) rfl fun b1 => rl_own (L' := [(b1, .cells #[.int .i64 (size), .int .i64 (start), .slice a n c] 24 (0, 0))]) rfl ?_
  refine rl_norm (tm' := _::_::_::_) rfl ?_
  refine rl_alloc (met_none rfl) tZ24 rfl fun b2 => rl_own (L' := [(b2, .cells #[.int .i64 0, .int .i64 0, .slice none 0 0] 24 (0, 0)), (b1, .cells #[.int .i64 (size), .int .i64 (start), .slice a n c] 24 (0, 0))]) rfl ?_
  refine rl_norm (tm' := _::_::_::_::_::_) rfl ?_
  refine rl_end ?_
  refine fl_seq ?_
  refine rl_start ?_
  refine rl_det (met_none rfl) (fun h_ H_ => exd_fieldAddr tF24_2 rfl (a' := ⟨b1, 2, none⟩) rfl) (tm' := _::_::_::_::_::_::_::_) rfl ?_
  refine rl_det (met_none rfl) (fun h_ H_ => exd_load_own H_ tA22 rfl (i := 1) rfl (v := .slice a n c) rfl) (tm' := _::_::_::_::_::_::_::_::_) rfl ?_
  refine rl_own (L' := ([(b2, .cells #[.int .i64 0, .int .i64 0, .slice none 0 0] 24 (0, 0)), (b1, .cells #[.int .i64 (size), .int .i64 (start), .slice a n c] 24 (0, 0))] : Pcs) ++ []) rfl ?_
  refine rl_call (met_none rfl) (first := []) (cap := []) rfl rfl fC87 (R := fun v_ h_ => ∃ w3 : Value, ∃ X4 : Pcs, v_ = w3 ∧ (OwnS 38 3 w3 (dcs ds) X4) ∧ St h [] p h_ (([(b2, .cells #[.int .i64 0, .int .i64 0, .slice none 0 0] 24 (0, 0)), (b1, .cells #[.int .i64 (size), .int .i64 (start), .slice a n c] 24 (0, 0))] : Pcs) ++ (X4 ++ []))) (fun h_ H_ => (c87 md _ _ (fun b_ o_ e_ => H_.per b_ o_ e_) _ _ _ _ D (by omega)).mono fun v_ h2_ ⟨w3, X4, e_, o5, N_⟩ => ⟨w3, X4, e_, o5, H_.callNA N_⟩) fun v_ => ?_
  refine rl_ex fun w3 => rl_ex fun X4 => rl_and fun ev_ => rl_and fun o5 => ?_
  have ev_ := ev_.symm; subst ev_
  refine rl_own (L' := ([(b2, .cells #[.int .i64 0, .int .i64 0, .slice none 0 0] 24 (0, 0)), (b1, .cells #[.int .i64 (size), .int .i64 (start), .slice a n c] 24 (0, 0))] : Pcs) ++ (X4 ++ [])) rfl ?_
  refine rl_norm (tm' := _::_::_::_::_::_::_::_::_::_) rfl ?_
  refine rl_det (met_none rfl) (fun h_ H_ => exd_fieldAddr tF24_2 rfl (a' := ⟨b1, 2, none⟩) rfl) (tm' := _::_::_::_::_::_::_::_::_::_::_) rfl ?_
  refine rl_store1 (met_none rfl) tS22 rfl (v := w3) rfl o5.one (i := 1) rfl (Nat.succ_le_iff.1 (Nat.le_of_ble_eq_true rfl)) (cs2 := [.int .i64 (size), .int .i64 (start), w3]) rfl (rl_own (L' := ([(b2, .cells #[.int .i64 0, .int .i64 0, .slice none 0 0] 24 (0, 0)), (b1, .cells #[.int .i64 (size), .int .i64 (start), w3] 24 (0, 0))] : Pcs) ++ (X4 ++ [])) rfl ?_)
  refine rl_end ?_
  refine fl_seq ?_
  refine fl_seq ?_
  refine rl_start ?_
  refine rl_det (met_none rfl) (fun h_ H_ => exd_fieldAddr tF24_2 rfl (a' := ⟨b1, 2, none⟩) rfl) (tm' := _::_::_::_::_::_::_::_::_::_::_::_) rfl ?_
  refine rl_det (met_none rfl) (fun h_ H_ => exd_load_own H_ tA22 rfl (i := 1) rfl (v := w3) rfl) (tm' := _::_::_::_::_::_::_::_::_::_::_::_::_) rfl ?_
  refine rl_det (met_none rfl) (fun h_ H_ => exd_lenN o5 (show (dcs ds).length = n by rw [dcs_length]; exact hl) Try.underlying22 rfl) (tm' := _::_::_::_::_::_::_::_::_::_::_::_::_::_) rfl ?_
  refine rl_det (met_none rfl) (fun h_ H_ => exd_move (v := .int .i64 0) rfl) (tm' := _::_::_::_::_::_::_::_::_::_::_::_::_::_::_) rfl ?_
  refine rl_end ?_
  refine fl_block ?_
  refine fl_loop (m₀ := n - 0) (fun m_ tm_ h_ => ∃ (k : Nat) (X : Pcs) (y6 : Nat → Value), m_ = n - k ∧ tm_ = [.agg #[.int .i64 (size), .int .i64 (start), .slice a n c], wv, .pointer (some ⟨b1, 0, none⟩), undef, .pointer (some ⟨b2, 0, none⟩), (y6 0), .pointer (some ⟨b1, 2, none⟩), .slice a n c, w3, .pointer (some ⟨b1, 2, none⟩), .pointer (some ⟨b1, 2, none⟩), w3, .int .i64 (((n : Nat) : Int)), .int .i64 (((k : Nat) : Int)), (y6 1), (y6 2), (y6 3), (y6 4), (y6 5), (y6 6), (y6 7), (y6 8), (y6 9), (y6 10), (y6 11), (y6 12), (y6 13), (y6 14), (y6 15), (y6 16), (y6 17), undef] ∧ (k ≤ n) ∧ (OwnS 38 3 w3 (dcs (wpre wf ds k)) X) ∧ St h [] p h_ (([(b2, .cells #[.int .i64 0, .int .i64 0, .slice none 0 0] 24 (0, 0)), (b1, .cells #[.int .i64 (size), .int .i64 (start), w3] 24 (0, 0))] : Pcs) ++ (X ++ []))) (fun h_ H_ => ⟨0, X4, (fun i_ => [undef, undef, undef, undef, undef, undef, undef, undef, undef, undef, undef, undef, undef, undef, undef, undef, undef, undef].getD i_ undef), rfl, rfl, Nat.zero_le _, (o5.as (by rw [wpre_zero])), H_⟩) ?_
  intro m_ tm_ IH7
  refine rs_ex fun k => rs_ex fun X => rs_ex fun y6 => rs_and fun hm_ => rs_and fun ht_ => rs_and fun hk => rs_and fun o => ?_
  subst hm_; subst ht_
  refine fl_seq ?_
  refine rl_start ?_
  refine rl_det (met_none rfl) (fun h_ H_ => exd_lss rfl rfl) (tm' := _::_::_::_::_::_::_::_::_::_::_::_::_::_::_::_) rfl ?_
  refine rl_end ?_
  refine fl_seq ?_
  by_cases c8 : ((k : Nat) : Int) < ((n : Nat) : Int)
  · refine fl_then rfl (decide_eq_true c8) ?_
    refine fl_skip ?_
    refine fl_seq ?_
    refine fl_block ?_
    refine fl_seq ?_
    refine rl_start ?_
    refine rl_det (met_none rfl) (fun h_ H_ => exd_move (v := .int .i64 (((k : Nat) : Int))) rfl) (tm' := _::_::_::_::_::_::_::_::_::_::_::_::_::_::_::_::_) rfl ?_
    refine rl_det (met_none rfl) (fun h_ H_ => exd_assign (v := .int .i64 (((k : Nat) : Int))) rfl) (tm' := _::_::_::_::_::_::_) rfl ?_
    refine rl_end ?_
    refine fl_drawn 12 [[], [], [], [], [], [], [], [], [], [], [], [], [], [12], []] mixed (by kernel_rfl) (Nat.le_of_ble_eq_true rfl) (tmF := [.agg #[.int .i64 (size), .int .i64 (start), .slice a n c], wv, .pointer (some ⟨b1, 0, none⟩), undef, .pointer (some ⟨b2, 0, none⟩), .int .i64 (((k : Nat) : Int)), .pointer (some ⟨b1, 2, none⟩), .slice a n c, w3, .pointer (some ⟨b1, 2, none⟩), .pointer (some ⟨b1, 2, none⟩), w3, .int .i64 (((n : Nat) : Int)), .int .i64 (((k : Nat) : Int)), .bool (decide (((k : Nat) : Int) < ((n : Nat) : Int))), .int .i64 (((k : Nat) : Int)), .pointer (some ⟨b1, 2, none⟩), w3, .int .i64 (((k : Nat) : Int)), wv, .int .i64 (((k : Nat) : Int)), .pointer (some ⟨b1, 2, none⟩), w3, .int .i64 (((k : Nat) : Int)), .pointer (some ((adrV w3).add (k * 3))), .pointer (some (((adrV w3).add (k * 3)).add 2)), .int .i64 ((ds.getD k dz).want), .int .i64 (wf k ((ds.getD k dz).want)), (y6 15), (y6 16), (y6 17), undef]) ?_ ?_
    · refine sw_det (met_none rfl) (fun h_ H_ => exd_fieldAddr tF24_2 rfl (a' := ⟨b1, 2, none⟩) rfl) (tm' := _::_::_::_::_::_::_::_::_::_::_::_::_::_::_::_::_::_) rfl ?_
      refine sw_det (met_none rfl) (fun h_ H_ => exd_load_own H_ tA22 rfl (i := 1) rfl (v := w3) rfl) (tm' := _::_::_::_::_::_::_::_::_::_::_::_::_::_::_::_::_::_::_) rfl ?_
      refine sw_det (met_none rfl) (fun h_ H_ => exd_move (v := .int .i64 (((k : Nat) : Int))) rfl) (tm' := _::_::_::_::_::_::_::_::_::_::_::_::_::_::_::_::_::_::_::_) rfl ?_
      refine sw_det (met_none rfl) (fun h_ H_ => exd_move (v := wv) rfl) (tm' := _::_::_::_::_::_::_::_::_::_::_::_::_::_::_::_::_::_::_::_::_) rfl ?_
      refine sw_det (met_none rfl) (fun h_ H_ => exd_move (v := .int .i64 (((k : Nat) : Int))) rfl) (tm' := _::_::_::_::_::_::_::_::_::_::_::_::_::_::_::_::_::_::_::_::_::_) rfl ?_
      refine sw_det (met_none rfl) (fun h_ H_ => exd_fieldAddr tF24_2 rfl (a' := ⟨b1, 2, none⟩) rfl) (tm' := [_,_,_,_,_,_,_,_,_,_,_,_,_,_,_,_,_,_,_,_,_,_,_,_,_,_,_,_,_,_,_,_]) rfl ?_
      refine sw_det (met_none rfl) (fun h_ H_ => exd_load_own H_ tA22 rfl (i := 1) rfl (v := w3) rfl) (tm' := [_,_,_,_,_,_,_,_,_,_,_,_,_,_,_,_,_,_,_,_,_,_,_,_,_,_,_,_,_,_,_,_]) rfl ?_
      refine sw_det (met_none rfl) (fun h_ H_ => exd_move (v := .int .i64 (((k : Nat) : Int))) rfl) (tm' := [_,_,_,_,_,_,_,_,_,_,_,_,_,_,_,_,_,_,_,_,_,_,_,_,_,_,_,_,_,_,_,_]) rfl ?_
      refine sw_det (met_none rfl) (fun h_ H_ => exd_indexO o Try.underlying22 tS38 rfl rfl (by rw [(show (dcs (wpre wf ds k)).length = n by rw [dcs_length, wpre_length]; exact hl)]; omega)) (tm' := [_,_,_,_,_,_,_,_,_,_,_,_,_,_,_,_,_,_,_,_,_,_,_,_,_,_,_,_,_,_,_,_]) rfl ?_
      refine sw_det (met_none rfl) (fun h_ H_ => exd_fieldAddr tF38_1 rfl (a' := ((adrV w3).add (k * 3)).add 2) rfl) (tm' := [_,_,_,_,_,_,_,_,_,_,_,_,_,_,_,_,_,_,_,_,_,_,_,_,_,_,_,_,_,_,_,_]) rfl ?_
      refine sw_det (met_none rfl) (fun h_ H_ => exd_loadO (A := ([(b2, .cells #[.int .i64 0, .int .i64 0, .slice none 0 0] 24 (0, 0)), (b1, .cells #[.int .i64 (size), .int .i64 (start), w3] 24 (0, 0))] : Pcs)) (i := k) (j := 2) (e := [.int .i64 (ds.getD k dz).lo, .int .i64 (ds.getD k dz).hi, .int .i64 (ds.getD k dz).want]) o H_ tA3 rfl rfl (wpre_at (by omega)) (u := .int .i64 ((ds.getD k dz).want)) rfl) (tm' := [_,_,_,_,_,_,_,_,_,_,_,_,_,_,_,_,_,_,_,_,_,_,_,_,_,_,_,_,_,_,_,_]) rfl ?_
      refine sw_callv (met_none rfl) rfl (vs := [.int .i64 (((k : Nat) : Int)), .int .i64 ((ds.getD k dz).want)]) rfl (fun h_ H_ => hw h_ H_.per k (by omega)) (tm' := [_,_,_,_,_,_,_,_,_,_,_,_,_,_,_,_,_,_,_,_,_,_,_,_,_,_,_,_,_,_,_,_]) rfl ?_
      exact sw_nil rfl rfl
    refine rl_det (met_none rfl) (fun h_ H_ => exd_indexO o Try.underlying22 tS38 rfl rfl (by rw [(show (dcs (wpre wf ds k)).length = n by rw [dcs_length, wpre_length]; exact hl)]; omega)) (tm' := [_,_,_,_,_,_,_,_,_,_,_,_,_,_,_,_,_,_,_,_,_,_,_,_,_,_,_,_,_,_,_,_]) rfl ?_
    refine rl_det (met_none rfl) (fun h_ H_ => exd_fieldAddr tF38_1 rfl (a' := ((adrV w3).add (k * 3)).add 2) rfl) (tm' := [_,_,_,_,_,_,_,_,_,_,_,_,_,_,_,_,_,_,_,_,_,_,_,_,_,_,_,_,_,_,_,_]) rfl ?_
    refine rl_storeO (A := ([(b2, .cells #[.int .i64 0, .int .i64 0, .slice none 0 0] 24 (0, 0)), (b1, .cells #[.int .i64 (size), .int .i64 (start), w3] 24 (0, 0))] : Pcs)) (i := k) (j := 2) (e := [.int .i64 (ds.getD k dz).lo, .int .i64 (ds.getD k dz).hi, .int .i64 (ds.getD k dz).want]) (u := .int .i64 (wf k ((ds.getD k dz).want))) o (met_none rfl) tS3 rfl rfl rfl ⟨rfl, rfl⟩ (wpre_at (by omega)) (Nat.succ_le_iff.1 (Nat.le_of_ble_eq_true rfl)) fun X9 o10 => ?_
    refine rl_end ?_
    refine fl_inBlock ?_
    refine rl_start ?_
    refine rl_det (met_none rfl) (fun h_ H_ => exd_add rfl rfl (n := ((k + 1 : Nat) : Int)) (wr (by omega))) (tm' := [_,_,_,_,_,_,_,_,_,_,_,_,_,_,_,_,_,_,_,_,_,_,_,_,_,_,_,_,_,_,_,_]) rfl ?_
    refine rl_det (met_none rfl) (fun h_ H_ => exd_move (v := .int .i64 (((k + 1 : Nat) : Int))) rfl) (tm' := _::_::_::_::_::_::_::_::_::_::_::_::_::_::_) rfl ?_
    refine rl_end ?_
    exact fun h_ H_ => IH7 _ _ (by omega) h_ ⟨k + 1, X9, (fun i_ => [.int .i64 (((k : Nat) : Int)), .bool (decide (((k : Nat) : Int) < ((n : Nat) : Int))), .int .i64 (((k : Nat) : Int)), .pointer (some ⟨b1, 2, none⟩), w3, .int .i64 (((k : Nat) : Int)), wv, .int .i64 (((k : Nat) : Int)), .pointer (some ⟨b1, 2, none⟩), w3, .int .i64 (((k : Nat) : Int)), .pointer (some ((adrV w3).add (k * 3))), .pointer (some (((adrV w3).add (k * 3)).add 2)), .int .i64 ((ds.getD k dz).want), .int .i64 (wf k ((ds.getD k dz).want)), .pointer (some ((adrV w3).add (k * 3))), .pointer (some (((adrV w3).add (k * 3)).add 2)), .int .i64 (((k + 1 : Nat) : Int))].getD i_ undef), rfl, rfl, (by omega), (o10.as (wpre_set (by omega))), H_⟩
  · refine fl_else rfl (decide_eq_false c8) ?_
    refine fl_exit rfl ?_
    refine fl_seq ?_
    refine rl_start ?_
    refine rl_det (met_none rfl) (fun h_ H_ => exd_loadN_own H_ tA24 tS24 rfl (i := 1) rfl (vs := [.int .i64 (size), .int .i64 (start), w3]) rfl rfl) (tm' := [_,_,_,_,_,_,_,_,_,_,_,_,_,_,_,_,_,_,_,_,_,_,_,_,_,_,_,_,_,_,_,_]) rfl ?_
    refine rl_store (met_none rfl) tS24 rfl (v := .agg #[.int .i64 (size), .int .i64 (start), w3]) rfl (i := 0) rfl rfl (ones_cons rfl (ones_cons rfl (ones_cons o.one.2 rfl))) (Nat.le_of_ble_eq_true rfl) (cs2 := [.int .i64 (size), .int .i64 (start), w3]) rfl (rl_own (L' := ([(b2, .cells #[.int .i64 (size), .int .i64 (start), w3] 24 (0, 0)), (b1, .cells #[.int .i64 (size), .int .i64 (start), w3] 24 (0, 0))] : Pcs) ++ (X ++ [])) rfl ?_)
    refine rl_end ?_
    refine fl_ret Try.func63 rfl (vs := [.agg #[.int .i64 (size), .int .i64 (start), w3]]) (fun h_ H_ => ⟨.agg #[.int .i64 (size), .int .i64 (start), w3], _, rfl, (wpS_bind (wpS_pure (wpS_loadVarN tA24 tS24 (vs := [.int .i64 (size), .int .i64 (start), w3]) rfl (fun j_ v_ e_ => by rw [add_mk]; exact H_.ocell (i := 0) rfl (by simpa using e_)) ⟨rfl, rfl⟩))), rfl⟩) (v := .agg #[.int .i64 (size), .int .i64 (start), w3]) rfl ?_
    obtain rfl : k = n := by omega
    exact fun h_ H_ => K _ _ ⟨_, _, rfl, o.as (by unfold wmap; rw [hl]), by simpa using H_.dropA.new⟩
end Go.Proofs.Ytbmkacnlhlbnjaa
namespace Go.Proofs.Ytbmkacnlhlbnjaa
open Go.X Go.X.Cist Go.Conc
set_option maxRecDepth 10000

theorem c67 (md : Md) (h : Heap) (p : PHeap) (hp : Per p h) (bD bN : Nat) (day w n : Int) (hD : p bD = some (.cells #[.int .i64 day] 3 (0, 0))) (hN : p bN = some (.cells #[.int .i64 n] 3 (0, 0))) (i : Nat) (hb : 0 ≤ w ∧ w ≤ 200 ∧ 0 ≤ n ∧ n ≤ 100) : CallsX Try.prog md 67 #[.int .i64 (((i : Nat) : Int)), .int .i64 (w), .pointer (some ⟨bD, 0, none⟩), .pointer (some ⟨bN, 0, none⟩)] h fun v h' => v = .int .i64 (moreF day (n + 1) i w) ∧ Keep h h' := by
  refine calls_intro (Φ := fun h_ => St h [] p h_ []) Try.func67 rfl (tm := [_, _, _, _, _, _, _, _, _, _, _, _, _, _, _]) rfl ?_ (St.start h _ hp)
  intro c₀ cs Stop K
  refine fl_seq ?_
  refine rl_start ?_
  refine rl_det (met_none rfl) (fun h_ H_ => exd_assign (v := .int .i64 0) rfl) (tm' := _::_::_::_::_::_::_::_) rfl ?_
  refine rl_end ?_
  refine fl_seq ?_
  refine fl_seq ?_
  refine rl_start ?_
  refine rl_det (met_none rfl) (fun h_ H_ => exd_move (v := .int .i64 (((i : Nat) : Int))) rfl) (tm' := _::_::_::_::_::_::_::_::_) rfl ?_
  refine rl_det (met_none rfl) (fun h_ H_ => exd_load_per H_ tA3 rfl (v := .int .i64 (day)) (per_cell hD rfl)) (tm' := _::_::_::_::_::_::_::_::_::_) rfl ?_
  refine rl_det (met_none rfl) (fun h_ H_ => exd_eql rfl rfl) (tm' := _::_::_::_::_::_::_::_::_::_::_) rfl ?_
  refine rl_end ?_
  by_cases c1 : ((i : Nat) : Int) = day
  · refine fl_then rfl (decide_eq_true c1) ?_
    refine fl_seq ?_
    refine rl_start ?_
    refine rl_det (met_none rfl) (fun h_ H_ => exd_move (v := .int .i64 (w)) rfl) (tm' := [_,_,_,_,_,_,_,_,_,_,_,_,_,_,_]) rfl ?_
    refine rl_det (met_none rfl) (fun h_ H_ => exd_load_per H_ tA3 rfl (v := .int .i64 (n)) (per_cell hN rfl)) (tm' := [_,_,_,_,_,_,_,_,_,_,_,_,_,_,_]) rfl ?_
    refine rl_det (met_none rfl) (fun h_ H_ => exd_add rfl rfl (wr (by omega))) (tm' := [_,_,_,_,_,_,_,_,_,_,_,_,_,_,_]) rfl ?_
    refine rl_det (met_none rfl) (fun h_ H_ => exd_add rfl rfl (wr (by omega))) (tm' := [_,_,_,_,_,_,_,_,_,_,_,_,_,_,_]) rfl ?_
    refine rl_det (met_none rfl) (fun h_ H_ => exd_assign (v := .int .i64 ((w + n) + 1)) rfl) (tm' := _::_::_::_::_::_::_::_) rfl ?_
    refine rl_end ?_
    refine fl_ret Try.func67 rfl (vs := [.int .i64 ((w + n) + 1)]) (fun h_ H_ => ⟨.int .i64 ((w + n) + 1), _, rfl, rfl, rfl⟩) (v := .int .i64 ((w + n) + 1)) rfl ?_
    exact fun h_ H_ => K _ _ ⟨by unfold moreF; first | (rw [if_pos ‹_›]; congr 1; omega) | rw [if_neg ‹_›], H_.kept⟩
  · refine fl_else rfl (decide_eq_false c1) ?_
    refine fl_skip ?_
    refine fl_seq ?_
    refine rl_start ?_
    refine rl_det (met_none rfl) (fun h_ H_ => exd_move (v := .int .i64 (w)) rfl) (tm' := [_,_,_,_,_,_,_,_,_,_,_,_,_,_,_]) rfl ?_
    refine rl_det (met_none rfl) (fun h_ H_ => exd_assign (v := .int .i64 (w)) rfl) (tm' := _::_::_::_::_::_::_::_) rfl ?_
    refine rl_end ?_
    refine fl_ret Try.func67 rfl (vs := [.int .i64 (w)]) (fun h_ H_ => ⟨.int .i64 (w), _, rfl, rfl, rfl⟩) (v := .int .i64 (w)) rfl ?_
    exact fun h_ H_ => K _ _ ⟨by unfold moreF; first | (rw [if_pos ‹_›]; congr 1; omega) | rw [if_neg ‹_›], H_.kept⟩
theorem c27 (md : Md) (h : Heap) (p : PHeap) (hp : Per p h) (size start : Int) (a : Option Addr) (n c : Nat) (ds : List Day) (D : Days p a n ds) (hn : n ≤ 40) (day : Int) : CallsX Try.prog md 27 #[.agg #[.int .i64 (size), .int .i64 (start), .slice a n c], .int .i64 (day)] h fun v h' => v = .tuple #[.int .i64 (spareR size start ds day).1, .int .i64 (spareR size start ds day).2] ∧ Keep h h' := by
  refine calls_intro (Φ := fun h_ => St h [] p h_ []) Try.func27 rfl (tm := [_, _, _, _, _, _, _, _, _, _, _, _, _, _, _, _, _, _, _, _, _, _, _, _, _, _]) rfl ?_ (St.start h _ hp)
  intro c₀ cs Stop K
  have hl := D.len
  refine fl_seq ?_
  refine rl_start ?_
  refine rl_box (met_none rfl) (v := .agg #[.int .i64 (size), .int .i64 (start), .slice a n c]) rfl fun b1 => rl_own (L' := [(b1, .cells #[.int .i64 (size), .int .i64 (start), .slice a n c] 24 (0, 0))]) rfl ?_
  refine rl_norm (tm' := _::_::_::_) rfl ?_
  refine rl_box (met_none rfl) (v := .int .i64 (day)) rfl fun b2 => rl_own (L' := [(b2, .cells #[.int .i64 (day)] 3 (0, 0)), (b1, .cells #[.int .i64 (size), .int .i64 (start), .slice a n c] 24 (0, 0))]) rfl ?_
  refine rl_norm (tm' := _::_::_::_::_) rfl ?_
  refine rl_det (met_none rfl) (fun h_ H_ => exd_assign (v := .int .i64 0) rfl) (tm' := _::_::_::_::_::_) rfl ?_
  refine rl_det (met_none rfl) (fun h_ H_ => exd_assign (v := .int .i64 0) rfl) (tm' := _::_::_::_::_::_::_) rfl ?_
  refine rl_end ?_
  refine fl_seq ?_
  refine fl_seq ?_
  refine fl_drawn 4 [[], [], [], [1, 2], [], []] mixed (by kernel_rfl) (Nat.le_of_ble_eq_true rfl) (tmF := [.agg #[.int .i64 (size), .int .i64 (start), .slice a n c], .int .i64 (day), .pointer (some ⟨b1, 0, none⟩), .pointer (some ⟨b2, 0, none⟩), .int .i64 0, .int .i64 0, undef, undef, .agg #[.int .i64 (size), .int .i64 (start), .slice a n c], .agg #[.int .i64 (size), .int .i64 (start), .slice a n c], .int .i64 (day), .bool (decide (IsDay ds day)), undef, undef, undef, undef, undef, undef, undef, undef, undef, undef, undef, undef, undef, undef]) ?_ ?_
  · refine sw_det (met_none rfl) (fun h_ H_ => exd_loadN_own H_ tA24 tS24 rfl (i := 1) rfl (vs := [.int .i64 (size), .int .i64 (start), .slice a n c]) rfl rfl) (tm' := _::_::_::_::_::_::_::_::_::_) rfl ?_
    refine sw_det (met_none rfl) (fun h_ H_ => exd_loadN_own H_ tA24 tS24 rfl (i := 1) rfl (vs := [.int .i64 (size), .int .i64 (start), .slice a n c]) rfl rfl) (tm' := _::_::_::_::_::_::_::_::_::_::_) rfl ?_
    refine sw_det (met_none rfl) (fun h_ H_ => exd_load_own H_ tA3 rfl (i := 0) rfl (v := .int .i64 (day)) rfl) (tm' := _::_::_::_::_::_::_::_::_::_::_::_) rfl ?_
    refine sw_call (met_none rfl) (first := []) (cap := []) rfl rfl fC66 (fun h_ H_ => (c66 md _ _ (fun b_ o_ e_ => H_.per b_ o_ e_) (size) (start) _ _ _ _ D (by omega) day).mono fun v_ h2_ ⟨e_, k_⟩ => ⟨e_, H_.call k_⟩) (tm' := _::_::_::_::_::_::_::_::_::_::_::_::_) rfl ?_
    exact sw_nil rfl rfl
  refine rl_calld (met_none rfl) (first := []) (cap := []) rfl rfl fC65 (fun h_ H_ => c65 md _ _ (fun b_ o_ e_ => H_.per b_ o_ e_) (size) (start) _ _ _ _ D (by omega) (decide (IsDay ds day))) (tm' := _::_::_::_::_::_::_::_::_::_::_::_::_::_) rfl ?_
  refine rl_det (met_none rfl) (fun h_ H_ => exd_assign (v := .int .i64 (askd (size) (start) ds (decide (IsDay ds day)))) rfl) (tm' := _::_::_::_::_::_::_::_) rfl ?_
  refine rl_end ?_
  refine fl_seq ?_
  refine rl_start ?_
  refine rl_det (met_none rfl) (fun h_ H_ => exd_move (v := .int .i64 (askd (size) (start) ds (decide (IsDay ds day)))) rfl) (tm' := _::_::_::_::_::_::_::_::_::_::_::_::_::_::_) rfl ?_
  refine rl_det (met_none rfl) (fun h_ H_ => exd_neq rfl rfl) (tm' := _::_::_::_::_::_::_::_::_::_::_::_::_::_::_::_) rfl ?_
  refine rl_end ?_
  by_cases c3 : askd (size) (start) ds (decide (IsDay ds day)) ≠ 0
  · refine fl_then rfl (decide_eq_true c3) ?_
    refine fl_seq ?_
    refine rl_start ?_
    refine rl_det (met_none rfl) (fun h_ H_ => exd_move (v := .int .i64 (askd (size) (start) ds (decide (IsDay ds day)))) rfl) (tm' := _::_::_::_::_::_::_::_::_::_::_::_::_::_::_::_::_) rfl ?_
    refine rl_det (met_none rfl) (fun h_ H_ => exd_assign (v := .int .i64 0) rfl) (tm' := _::_::_::_::_::_) rfl ?_
    refine rl_det (met_none rfl) (fun h_ H_ => exd_assign (v := .int .i64 (askd (size) (start) ds (decide (IsDay ds day)))) rfl) (tm' := _::_::_::_::_::_::_) rfl ?_
    refine rl_end ?_
    refine fl_ret Try.func27 rfl (vs := [.int .i64 0, .int .i64 (askd (size) (start) ds (decide (IsDay ds day)))]) (fun h_ H_ => ⟨.int .i64 0, _, rfl, rfl, ⟨.int .i64 (askd (size) (start) ds (decide (IsDay ds day))), _, rfl, rfl, rfl⟩⟩) (v := .tuple #[.int .i64 0, .int .i64 (askd (size) (start) ds (decide (IsDay ds day)))]) rfl ?_
    exact fun h_ H_ => K _ _ ⟨by unfold spareR; rw [if_neg ‹_›], H_.kept⟩
  · refine fl_else rfl (decide_eq_false c3) ?_
    refine fl_skip ?_
    refine fl_seq ?_
    refine fl_seq ?_
    have h0 : askd size start ds (decide (IsDay ds day)) = 0 := by omega
    have hOk : Ok size start ds := (askd_zero.1 h0).1
    have hday : IsDay ds day := of_decide_eq_true (askd_zero.1 h0).2
    refine rl_start ?_
    refine rl_det (met_none rfl) (fun h_ H_ => exd_loadN_own H_ tA24 tS24 rfl (i := 1) rfl (vs := [.int .i64 (size), .int .i64 (start), .slice a n c]) rfl rfl) (tm' := _::_::_::_::_::_::_::_::_::_::_::_::_::_::_::_::_::_) rfl ?_
    refine rl_calld (met_none rfl) (first := []) (cap := []) rfl rfl fC62 (fun h_ H_ => c62 md _ _ (fun b_ o_ e_ => H_.per b_ o_ e_) (size) (start) _ _ _ _ D (by omega) ⟨hOk.1, hOk.2.1, hOk.2.2.1⟩ hOk.dok) (tm' := [_,_,_,_,_,_,_,_,_,_,_,_,_,_,_,_,_,_,_,_,_,_,_,_,_,_]) rfl ?_
    refine rl_det (met_none rfl) (fun h_ H_ => exd_not rfl) (tm' := [_,_,_,_,_,_,_,_,_,_,_,_,_,_,_,_,_,_,_,_,_,_,_,_,_,_]) rfl ?_
    refine rl_end ?_
    by_cases c4 : Lasts (size) (start) ds
    · refine fl_else rfl (not_f (decide_eq_true c4)) ?_
      refine fl_skip ?_
      refine fl_seq ?_
      have hla : Lasts size start ds := ‹_›
      refine rs_last 0 rfl (L' := [(b1, .cells #[.int .i64 (size), .int .i64 (start), .slice a n c] 24 (0, 0))]) rfl fun p5 le6 hb7 => ?_
      refine rl_start ?_
      refine rl_alloc (met_none rfl) tZ3 rfl fun b8 => rl_own (L' := [(b8, .cells #[.int .i64 0] 3 (0, 0)), (b1, .cells #[.int .i64 (size), .int .i64 (start), .slice a n c] 24 (0, 0))]) rfl ?_
      refine rl_norm (tm' := _::_::_::_::_::_::_::_::_) rfl ?_
      refine rl_store (met_none rfl) tS3 rfl (v := .int .i64 0) rfl (i := 0) rfl rfl rfl (Nat.le_of_ble_eq_true rfl) (cs2 := [.int .i64 0]) rfl (rl_own (L' := [(b8, .cells #[.int .i64 0] 3 (0, 0)), (b1, .cells #[.int .i64 (size), .int .i64 (start), .slice a n c] 24 (0, 0))]) rfl ?_)
      refine rl_end ?_
      refine fl_seq ?_
      refine fl_block ?_
      refine fl_loop (m₀ := 100 - 0) (fun m_ tm_ h_ => ∃ (k : Nat) (nn : Int) (y9 : Nat → Value), m_ = 100 - k ∧ tm_ = [.agg #[.int .i64 (size), .int .i64 (start), .slice a n c], .int .i64 (day), .pointer (some ⟨b1, 0, none⟩), .pointer (some ⟨b2, 0, none⟩), .int .i64 0, .int .i64 0, .int .i64 (askd (size) (start) ds (decide (IsDay ds day))), .pointer (some ⟨b8, 0, none⟩), .agg #[.int .i64 (size), .int .i64 (start), .slice a n c], .agg #[.int .i64 (size), .int .i64 (start), .slice a n c], .int .i64 (day), .bool (decide (IsDay ds day)), .int .i64 (askd (size) (start) ds (decide (IsDay ds day))), .int .i64 (askd (size) (start) ds (decide (IsDay ds day))), .bool (decide (askd (size) (start) ds (decide (IsDay ds day)) ≠ 0)), undef, .agg #[.int .i64 (size), .int .i64 (start), .slice a n c], .bool (decide (Lasts (size) (start) ds)), .bool (!(decide (Lasts (size) (start) ds))), (y9 0), (y9 1), (y9 2), (y9 3), (y9 4), (y9 5), undef] ∧ (nn = ((k : Nat) : Int)) ∧ (k ≤ 60) ∧ (upTo (fun k => decide (¬ Lasts size start (wanted day ((k : Nat) + 1) ds))) 0 100 = upTo (fun k => decide (¬ Lasts size start (wanted day ((k : Nat) + 1) ds))) k (100 - k)) ∧ St h [] p5 h_ ([(b8, .cells #[.int .i64 (nn)] 3 (0, 0)), (b1, .cells #[.int .i64 (size), .int .i64 (start), .slice a n c] 24 (0, 0))])) (fun h_ H_ => ⟨0, 0, (fun i_ => [undef, undef, undef, undef, undef, undef].getD i_ undef), rfl, rfl, rfl, Nat.zero_le _, rfl, H_⟩) ?_
      intro m_ tm_ IH10
      refine rs_ex fun k => rs_ex fun nn => rs_ex fun y9 => rs_and fun hm_ => rs_and fun ht_ => rs_and fun hnn => rs_and fun hk => rs_and fun hr => ?_
      subst hm_; subst ht_
      subst hnn
      refine fl_seq ?_
      refine fl_seq ?_
      refine rl_start ?_
      refine rl_det (met_none rfl) (fun h_ H_ => exd_loadN_own H_ tA24 tS24 rfl (i := 1) rfl (vs := [.int .i64 (size), .int .i64 (start), .slice a n c]) rfl rfl) (tm' := [_,_,_,_,_,_,_,_,_,_,_,_,_,_,_,_,_,_,_,_,_,_,_,_,_,_]) rfl ?_
      refine rl_det (met_none rfl) (fun h_ H_ => exd_makeFunc (a := []) (b := [.pointer (some ⟨b2, 0, none⟩), .pointer (some ⟨b8, 0, none⟩)]) rfl rfl) (tm' := [_,_,_,_,_,_,_,_,_,_,_,_,_,_,_,_,_,_,_,_,_,_,_,_,_,_]) rfl ?_
      refine rl_own (L' := ([(b8, .cells #[.int .i64 (((k : Nat) : Int))] 3 (0, 0)), (b1, .cells #[.int .i64 (size), .int .i64 (start), .slice a n c] 24 (0, 0))] : Pcs) ++ []) rfl ?_
      refine rl_call (met_none rfl) (first := []) (cap := []) rfl rfl fC63 (R := fun v_ h_ => ∃ w11 : Value, ∃ X12 : Pcs, v_ = .agg #[.int .i64 (size), .int .i64 (start), w11] ∧ (OwnS 38 3 w11 (dcs (wmap (moreF (day) (((k : Nat) : Int) + 1)) ds)) X12) ∧ St h [] p5 h_ (([(b8, .cells #[.int .i64 (((k : Nat) : Int))] 3 (0, 0)), (b1, .cells #[.int .i64 (size), .int .i64 (start), .slice a n c] 24 (0, 0))] : Pcs) ++ (X12 ++ []))) (fun h_ H_ => (c63 md _ (padd p5 b8 (.cells #[.int .i64 (((k : Nat) : Int))] 3 (0, 0))) (H_.perO (i := 0) rfl) (size) (start) _ _ _ _ ((D.mono le6).mono (H_.leO (i := 0) rfl)) (by omega) (.func (.func 67) #[] #[.pointer (some ⟨b2, 0, none⟩), .pointer (some ⟨b8, 0, none⟩)]) (moreF (day) (((k : Nat) : Int) + 1)) (fun h_ hp_ i_ hi_ => callv_of fC67 (c67 md _ _ hp_ _ _ (day) _ (((k : Nat) : Int)) (H_.leO (i := 0) rfl _ _ hb7) padd_self _ (by have := (hOk.dok i_ (by omega)).2; omega)))).mono fun v_ h2_ ⟨w11, X12, e_, o13, N_⟩ => ⟨w11, X12, e_, o13, H_.callNA N_⟩) fun v_ => ?_
      refine rl_ex fun w11 => rl_ex fun X12 => rl_and fun ev_ => rl_and fun o13 => ?_
      have ev_ := ev_.symm; subst ev_
      refine rl_own (L' := ([(b8, .cells #[.int .i64 (((k : Nat) : Int))] 3 (0, 0)), (b1, .cells #[.int .i64 (size), .int .i64 (start), .slice a n c] 24 (0, 0))] : Pcs) ++ (X12 ++ [])) rfl ?_
      refine rl_norm (tm' := [_,_,_,_,_,_,_,_,_,_,_,_,_,_,_,_,_,_,_,_,_,_,_,_,_,_]) rfl ?_
      refine rl_lastN (A := ([(b8, .cells #[.int .i64 (((k : Nat) : Int))] 3 (0, 0)), (b1, .cells #[.int .i64 (size), .int .i64 (start), .slice a n c] 24 (0, 0))] : Pcs)) o13 (show (dcs (wmap (moreF (day) (((k : Nat) : Int) + 1)) ds)).length = n by rw [dcs_length, wmap_length]; exact hl) fun p14 a15 cp16 le17 ev_ D18 => ?_
      subst ev_
      refine rl_own (L' := [(b8, .cells #[.int .i64 (((k : Nat) : Int))] 3 (0, 0)), (b1, .cells #[.int .i64 (size), .int .i64 (start), .slice a n c] 24 (0, 0))]) rfl ?_
      refine rl_calld (met_none rfl) (first := []) (cap := []) rfl rfl fC62 (fun h_ H_ => c62 md _ _ (fun b_ o_ e_ => H_.per b_ o_ e_) (size) (start) _ _ _ _ D18 (by omega) ⟨hOk.1, hOk.2.1, hOk.2.2.1⟩ (dok_wmap hOk.dok (fun i hi => by have := hOk.2.2.2.2.2 i hi; unfold DayOk at this; unfold moreF; split <;> omega))) (tm' := [_,_,_,_,_,_,_,_,_,_,_,_,_,_,_,_,_,_,_,_,_,_,_,_,_,_]) rfl ?_
      refine rl_end ?_
      by_cases c19 : Lasts (size) (start) (wmap (moreF (day) (((k : Nat) : Int) + 1)) ds)
      · refine fl_then rfl (decide_eq_true c19) ?_
        refine fl_skip ?_
        refine fl_block ?_
        refine rl_start ?_
        refine rl_det (met_none rfl) (fun h_ H_ => exd_load_own H_ tA3 rfl (i := 0) rfl (v := .int .i64 (((k : Nat) : Int))) rfl) (tm' := [_,_,_,_,_,_,_,_,_,_,_,_,_,_,_,_,_,_,_,_,_,_,_,_,_,_]) rfl ?_
        refine rl_det (met_none rfl) (fun h_ H_ => exd_add rfl rfl (n := ((k + 1 : Nat) : Int)) (wr (by omega))) (tm' := [_,_,_,_,_,_,_,_,_,_,_,_,_,_,_,_,_,_,_,_,_,_,_,_,_,_]) rfl ?_
        refine rl_store (met_none rfl) tS3 rfl (v := .int .i64 (((k + 1 : Nat) : Int))) rfl (i := 0) rfl rfl rfl (Nat.le_of_ble_eq_true rfl) (cs2 := [.int .i64 (((k + 1 : Nat) : Int))]) rfl (rl_own (L' := [(b8, .cells #[.int .i64 (((k + 1 : Nat) : Int))] 3 (0, 0)), (b1, .cells #[.int .i64 (size), .int .i64 (start), .slice a n c] 24 (0, 0))]) rfl ?_)
        refine rl_end ?_
        refine fl_inBlock ?_
        have hk2 : k + 1 ≤ 60 := Decidable.not_not.1 (fun hc => not_lasts_more (more := (k : Int) + 1) ⟨hOk.1, hOk.2.1, hOk.2.2.1⟩ hOk.dok hday (by omega) ‹Lasts size start (wmap _ _)›)
        exact fun h_ H_ => IH10 _ _ (by omega) h_ ⟨k + 1, _, (fun i_ => [.agg #[.int .i64 (size), .int .i64 (start), .slice a n c], .func (.func 67) #[] #[.pointer (some ⟨b2, 0, none⟩), .pointer (some ⟨b8, 0, none⟩)], .agg #[.int .i64 (size), .int .i64 (start), .slice a15 n cp16], .bool (decide (Lasts (size) (start) (wmap (moreF (day) (((k : Nat) : Int) + 1)) ds))), .int .i64 (((k : Nat) : Int)), .int .i64 (((k + 1 : Nat) : Int))].getD i_ undef), rfl, rfl, (by omega), hk2, (hr.trans (upTo_miss (by omega) (by rw [decide_eq_false]; exact fun hc => hc ‹_›))), (H_.forget le17)⟩
      · refine fl_else rfl (decide_eq_false c19) ?_
        refine fl_exit rfl ?_
        refine fl_seq ?_
        refine rl_start ?_
        refine rl_det (met_none rfl) (fun h_ H_ => exd_load_own H_ tA3 rfl (i := 0) rfl (v := .int .i64 (((k : Nat) : Int))) rfl) (tm' := [_,_,_,_,_,_,_,_,_,_,_,_,_,_,_,_,_,_,_,_,_,_,_,_,_,_]) rfl ?_
        refine rl_det (met_none rfl) (fun h_ H_ => exd_assign (v := .int .i64 (((k : Nat) : Int))) rfl) (tm' := _::_::_::_::_::_) rfl ?_
        refine rl_det (met_none rfl) (fun h_ H_ => exd_assign (v := .int .i64 0) rfl) (tm' := _::_::_::_::_::_::_) rfl ?_
        refine rl_end ?_
        refine fl_ret Try.func27 rfl (vs := [.int .i64 (((k : Nat) : Int)), .int .i64 0]) (fun h_ H_ => ⟨.int .i64 (((k : Nat) : Int)), _, rfl, rfl, ⟨.int .i64 0, _, rfl, rfl, rfl⟩⟩) (v := .tuple #[.int .i64 (((k : Nat) : Int)), .int .i64 0]) rfl ?_
        exact fun h_ H_ => K _ _ ⟨by unfold spareR spUp; rw [if_pos h0, if_pos hla, hr, upTo_hit (by omega) (decide_eq_true ‹_›)]; rfl, H_.kept⟩
    · refine fl_then rfl (not_t (decide_eq_false c4)) ?_
      refine fl_seq ?_
      refine rl_start ?_
      refine rl_det (met_none rfl) (fun h_ H_ => exd_assign (v := .int .i64 0) rfl) (tm' := _::_::_::_::_::_) rfl ?_
      refine rl_det (met_none rfl) (fun h_ H_ => exd_assign (v := .int .i64 3) rfl) (tm' := _::_::_::_::_::_::_) rfl ?_
      refine rl_end ?_
      refine fl_ret Try.func27 rfl (vs := [.int .i64 0, .int .i64 3]) (fun h_ H_ => ⟨.int .i64 0, _, rfl, rfl, ⟨.int .i64 3, _, rfl, rfl, rfl⟩⟩) (v := .tuple #[.int .i64 0, .int .i64 3]) rfl ?_
      exact fun h_ H_ => K _ _ ⟨by unfold spareR; rw [if_pos (by omega), if_neg ‹_›], H_.kept⟩
theorem c81 (md : Md) (h : Heap) (p : PHeap) (hp : Per p h) (fv : Value) (a : Option Addr) (n c : Nat) (ds : List Day) (D : Days p a n ds) (hn : n ≤ 40) (q : Day → Bool) (hf : ∀ h, Per p h → ∀ i, i < n → CallV Try.prog md fv [.agg #[.int .i64 (ds.getD i dz).lo, .int .i64 (ds.getD i dz).hi, .int .i64 (ds.getD i dz).want]] h fun v h' => v = .bool (q (ds.getD i dz)) ∧ Keep h h') : CallsX Try.prog md 81 #[.slice a n c, fv] h fun v h' => v = .int .i64 (idxF q ds) ∧ Keep h h' := by
  refine calls_intro (Φ := fun h_ => St h [] p h_ []) Try.func81 rfl (tm := [_, _, _, _, _, _, _, _]) rfl ?_ (St.start h _ hp)
  intro c₀ cs Stop K
  refine fl_seq ?_
  refine rl_start ?_
  refine rl_det (met_none rfl) (fun h_ H_ => exd_assign (v := .int .i64 0) rfl) (tm' := _::_::_::_::_::_) rfl ?_
  refine rl_end ?_
  refine fl_seq ?_
  refine rl_start ?_
  refine rl_det (met_none rfl) (fun h_ H_ => exd_move (v := .slice a n c) rfl) (tm' := [_,_,_,_,_,_,_,_]) rfl ?_
  refine rl_det (met_none rfl) (fun h_ H_ => exd_move (v := fv) rfl) (tm' := [_,_,_,_,_,_,_,_]) rfl ?_
  refine rl_calld (met_none rfl) (first := []) (cap := []) rfl rfl fC99 (fun h_ H_ => c99 md _ _ (fun b_ o_ e_ => H_.per b_ o_ e_) fv _ _ _ _ D (by omega) q hf) (tm' := [_,_,_,_,_,_,_,_]) rfl ?_
  refine rl_det (met_none rfl) (fun h_ H_ => exd_assign (v := .int .i64 (idxF q ds)) rfl) (tm' := _::_::_::_::_::_) rfl ?_
  refine rl_end ?_
  refine fl_ret Try.func81 rfl (vs := [.int .i64 (idxF q ds)]) (fun h_ H_ => ⟨.int .i64 (idxF q ds), _, rfl, rfl, rfl⟩) (v := .int .i64 (idxF q ds)) rfl ?_
  exact fun h_ H_ => K _ _ ⟨rfl, H_.kept⟩
end Go.Proofs.Ytbmkacnlhlbnjaa
namespace Go.Proofs.Ytbmkacnlhlbnjaa
open Go.X Go.X.Cist Go.Conc
set_option maxRecDepth 10000

theorem c45 (md : Md) (h : Heap) (p : PHeap) (hp : Per p h) (size start : Int) (a : Option Addr) (n c : Nat) (ds : List Day) (D : Days p a n ds) (hn : n ≤ 40) : CallsX Try.prog md 45 #[.agg #[.int .i64 (size), .int .i64 (start), .slice a n c]] h fun v h' => v = .tuple #[.int .i64 (sizeR size start ds).1, .int .i64 (sizeR size start ds).2] ∧ Keep h h' := by
  refine calls_intro (Φ := fun h_ => St h [] p h_ []) Try.func45 rfl (tm := [_, _, _, _, _, _, _, _, _, _, _, _, _, _, _, _, _, _, _, _, _, _]) rfl ?_ (St.start h _ hp)
  intro c₀ cs Stop K
  have hl := D.len
  refine fl_seq ?_
  refine rl_start ?_
  refine rl_box (met_none rfl) (v := .agg #[.int .i64 (size), .int .i64 (start), .slice a n c]) rfl fun b1 => rl_own (L' := [(b1, .cells #[.int .i64 (size), .int .i64 (start), .slice a n c] 24 (0, 0))]) rfl ?_
  refine rl_norm (tm' := _::_::_) rfl ?_
  refine rl_det (met_none rfl) (fun h_ H_ => exd_assign (v := .int .i64 0) rfl) (tm' := _::_::_::_) rfl ?_
  refine rl_det (met_none rfl) (fun h_ H_ => exd_assign (v := .int .i64 0) rfl) (tm' := _::_::_::_::_) rfl ?_
  refine rl_end ?_
  refine fl_seq ?_
  refine fl_seq ?_
  refine rl_start ?_
  refine rl_det (met_none rfl) (fun h_ H_ => exd_loadN_own H_ tA24 tS24 rfl (i := 0) rfl (vs := [.int .i64 (size), .int .i64 (start), .slice a n c]) rfl rfl) (tm' := _::_::_::_::_::_::_) rfl ?_
  refine rl_calld (met_none rfl) (first := []) (cap := []) rfl rfl fC32 (fun h_ H_ => c32 md _ _ (fun b_ o_ e_ => H_.per b_ o_ e_) (size) (start) _ _ _ _ D (by omega)) (tm' := _::_::_::_::_::_::_::_) rfl ?_
  refine rl_det (met_none rfl) (fun h_ H_ => exd_assign (v := .int .i64 (chk (size) (start) ds)) rfl) (tm' := _::_::_::_::_::_) rfl ?_
  refine rl_end ?_
  refine fl_seq ?_
  refine rl_start ?_
  refine rl_det (met_none rfl) (fun h_ H_ => exd_move (v := .int .i64 (chk (size) (start) ds)) rfl) (tm' := _::_::_::_::_::_::_::_::_) rfl ?_
  refine rl_det (met_none rfl) (fun h_ H_ => exd_neq rfl rfl) (tm' := _::_::_::_::_::_::_::_::_::_) rfl ?_
  refine rl_end ?_
  by_cases c2 : chk (size) (start) ds ≠ 0
  · refine fl_then rfl (decide_eq_true c2) ?_
    refine fl_seq ?_
    refine rl_start ?_
    refine rl_det (met_none rfl) (fun h_ H_ => exd_move (v := .int .i64 (chk (size) (start) ds)) rfl) (tm' := _::_::_::_::_::_::_::_::_::_::_) rfl ?_
    refine rl_det (met_none rfl) (fun h_ H_ => exd_assign (v := .int .i64 0) rfl) (tm' := _::_::_::_) rfl ?_
    refine rl_det (met_none rfl) (fun h_ H_ => exd_assign (v := .int .i64 (chk (size) (start) ds)) rfl) (tm' := _::_::_::_::_) rfl ?_
    refine rl_end ?_
    refine fl_ret Try.func45 rfl (vs := [.int .i64 0, .int .i64 (chk (size) (start) ds)]) (fun h_ H_ => ⟨.int .i64 0, _, rfl, rfl, ⟨.int .i64 (chk (size) (start) ds), _, rfl, rfl, rfl⟩⟩) (v := .tuple #[.int .i64 0, .int .i64 (chk (size) (start) ds)]) rfl ?_
    have hOk : ¬ Ok size start ds := fun e => absurd (chk_yes e) ‹_›
    exact fun h_ H_ => K _ _ ⟨by unfold sizeR; rw [if_neg hOk, chk_no hOk], H_.kept⟩
  · refine fl_else rfl (decide_eq_false c2) ?_
    refine fl_skip ?_
    refine fl_seq ?_
    refine fl_seq ?_
    have hOk : Ok size start ds := chk_zero.1 (by omega)
    have ho1 := hOk.1; have ho2 := hOk.2.1; have ho3 := hOk.2.2.1
    refine rl_start ?_
    refine rl_det (met_none rfl) (fun h_ H_ => exd_fieldAddr tF24_0 rfl (a' := ⟨b1, 0, none⟩) rfl) (tm' := _::_::_::_::_::_::_::_::_::_::_::_) rfl ?_
    refine rl_store (met_none rfl) tS3 rfl (v := .int .i64 0) rfl (i := 0) rfl rfl rfl (Nat.le_of_ble_eq_true rfl) (cs2 := [.int .i64 0, .int .i64 (start), .slice a n c]) rfl (rl_own (L' := [(b1, .cells #[.int .i64 0, .int .i64 (start), .slice a n c] 24 (0, 0))]) rfl ?_)
    refine rl_end ?_
    refine fl_block ?_
    refine fl_loop (m₀ := 61 - 0) (fun m_ tm_ h_ => ∃ (k : Nat) (nn : Int) (y3 : Nat → Value), m_ = 61 - k ∧ tm_ = [.agg #[.int .i64 (size), .int .i64 (start), .slice a n c], .pointer (some ⟨b1, 0, none⟩), (y3 0), (y3 1), .int .i64 (chk (size) (start) ds), .agg #[.int .i64 (size), .int .i64 (start), .slice a n c], .int .i64 (chk (size) (start) ds), .int .i64 (chk (size) (start) ds), .bool (decide (chk (size) (start) ds ≠ 0)), undef, .pointer (some ⟨b1, 0, none⟩), (y3 2), (y3 3), (y3 4), (y3 5), (y3 6), (y3 7), (y3 8), (y3 9), (y3 10), (y3 11), (y3 12)] ∧ (nn = ((k : Nat) : Int)) ∧ (k ≤ 61) ∧ (upTo (fun k => decide (Lasts (k : Nat) start ds)) 0 (61) = upTo (fun k => decide (Lasts (k : Nat) start ds)) k (61 - k)) ∧ St h [] p h_ ([(b1, .cells #[.int .i64 (nn), .int .i64 (start), .slice a n c] 24 (0, 0))])) (fun h_ H_ => ⟨0, 0, (fun i_ => [.int .i64 0, .int .i64 0, undef, undef, undef, undef, undef, undef, undef, undef, undef, undef, undef].getD i_ undef), rfl, rfl, rfl, Nat.zero_le _, rfl, H_⟩) ?_
    intro m_ tm_ IH4
    refine rs_ex fun k => rs_ex fun nn => rs_ex fun y3 => rs_and fun hm_ => rs_and fun ht_ => rs_and fun hnn => rs_and fun hk => rs_and fun hr => ?_
    subst hm_; subst ht_
    subst hnn
    refine fl_seq ?_
    refine fl_seq ?_
    refine rl_start ?_
    refine rl_det (met_none rfl) (fun h_ H_ => exd_fieldAddr tF24_0 rfl (a' := ⟨b1, 0, none⟩) rfl) (tm' := _::_::_::_::_::_::_::_::_::_::_::_::_) rfl ?_
    refine rl_det (met_none rfl) (fun h_ H_ => exd_load_own H_ tA3 rfl (i := 0) rfl (v := .int .i64 (((k : Nat) : Int))) rfl) (tm' := _::_::_::_::_::_::_::_::_::_::_::_::_::_) rfl ?_
    refine rl_det (met_none rfl) (fun h_ H_ => exd_leq rfl rfl) (tm' := _::_::_::_::_::_::_::_::_::_::_::_::_::_::_) rfl ?_
    refine rl_end ?_
    by_cases c5 : ((k : Nat) : Int) ≤ 60
    · refine fl_then rfl (decide_eq_true c5) ?_
      refine fl_skip ?_
      refine fl_seq ?_
      refine fl_block ?_
      refine fl_seq ?_
      refine rl_start ?_
      refine rl_det (met_none rfl) (fun h_ H_ => exd_loadN_own H_ tA24 tS24 rfl (i := 0) rfl (vs := [.int .i64 (((k : Nat) : Int)), .int .i64 (start), .slice a n c]) rfl rfl) (tm' := [_,_,_,_,_,_,_,_,_,_,_,_,_,_,_,_,_,_,_,_,_,_]) rfl ?_
      refine rl_calld (met_none rfl) (first := []) (cap := []) rfl rfl fC62 (fun h_ H_ => c62 md _ _ (fun b_ o_ e_ => H_.per b_ o_ e_) (((k : Nat) : Int)) (start) _ _ _ _ D (by omega) ⟨by omega, by omega, by omega⟩ hOk.dok) (tm' := [_,_,_,_,_,_,_,_,_,_,_,_,_,_,_,_,_,_,_,_,_,_]) rfl ?_
      refine rl_end ?_
      by_cases c6 : Lasts (((k : Nat) : Int)) (start) ds
      · refine fl_then rfl (decide_eq_true c6) ?_
        refine fl_seq ?_
        refine rl_start ?_
        refine rl_det (met_none rfl) (fun h_ H_ => exd_fieldAddr tF24_0 rfl (a' := ⟨b1, 0, none⟩) rfl) (tm' := [_,_,_,_,_,_,_,_,_,_,_,_,_,_,_,_,_,_,_,_,_,_]) rfl ?_
        refine rl_det (met_none rfl) (fun h_ H_ => exd_load_own H_ tA3 rfl (i := 0) rfl (v := .int .i64 (((k : Nat) : Int))) rfl) (tm' := [_,_,_,_,_,_,_,_,_,_,_,_,_,_,_,_,_,_,_,_,_,_]) rfl ?_
        refine rl_det (met_none rfl) (fun h_ H_ => exd_assign (v := .int .i64 (((k : Nat) : Int))) rfl) (tm' := _::_::_::_) rfl ?_
        refine rl_det (met_none rfl) (fun h_ H_ => exd_assign (v := .int .i64 0) rfl) (tm' := _::_::_::_::_) rfl ?_
        refine rl_end ?_
        refine fl_ret Try.func45 rfl (vs := [.int .i64 (((k : Nat) : Int)), .int .i64 0]) (fun h_ H_ => ⟨.int .i64 (((k : Nat) : Int)), _, rfl, rfl, ⟨.int .i64 0, _, rfl, rfl, rfl⟩⟩) (v := .tuple #[.int .i64 (((k : Nat) : Int)), .int .i64 0]) rfl ?_
        exact fun h_ H_ => K _ _ ⟨by unfold sizeR; rw [if_pos hOk, hr, upTo_hit (by omega) (decide_eq_true ‹_›)]; rfl, H_.kept⟩
      · refine fl_else rfl (decide_eq_false c6) ?_
        refine fl_skip ?_
        refine fl_inBlock ?_
        refine rl_start ?_
        refine rl_det (met_none rfl) (fun h_ H_ => exd_fieldAddr tF24_0 rfl (a' := ⟨b1, 0, none⟩) rfl) (tm' := [_,_,_,_,_,_,_,_,_,_,_,_,_,_,_,_,_,_,_,_,_,_]) rfl ?_
        refine rl_det (met_none rfl) (fun h_ H_ => exd_load_own H_ tA3 rfl (i := 0) rfl (v := .int .i64 (((k : Nat) : Int))) rfl) (tm' := [_,_,_,_,_,_,_,_,_,_,_,_,_,_,_,_,_,_,_,_,_,_]) rfl ?_
        refine rl_det (met_none rfl) (fun h_ H_ => exd_add rfl rfl (n := ((k + 1 : Nat) : Int)) (wr (by omega))) (tm' := [_,_,_,_,_,_,_,_,_,_,_,_,_,_,_,_,_,_,_,_,_,_]) rfl ?_
        refine rl_det (met_none rfl) (fun h_ H_ => exd_fieldAddr tF24_0 rfl (a' := ⟨b1, 0, none⟩) rfl) (tm' := [_,_,_,_,_,_,_,_,_,_,_,_,_,_,_,_,_,_,_,_,_,_]) rfl ?_
        refine rl_store (met_none rfl) tS3 rfl (v := .int .i64 (((k + 1 : Nat) : Int))) rfl (i := 0) rfl rfl rfl (Nat.le_of_ble_eq_true rfl) (cs2 := [.int .i64 (((k + 1 : Nat) : Int)), .int .i64 (start), .slice a n c]) rfl (rl_own (L' := [(b1, .cells #[.int .i64 (((k + 1 : Nat) : Int)), .int .i64 (start), .slice a n c] 24 (0, 0))]) rfl ?_)
        refine rl_end ?_
        exact fun h_ H_ => IH4 _ _ (by omega) h_ ⟨k + 1, _, (fun i_ => [(y3 0), (y3 1), .pointer (some ⟨b1, 0, none⟩), .int .i64 (((k : Nat) : Int)), .bool (decide (((k : Nat) : Int) ≤ 60)), .pointer (some ⟨b1, 0, none⟩), .int .i64 (((k : Nat) : Int)), .int .i64 (((k + 1 : Nat) : Int)), .pointer (some ⟨b1, 0, none⟩), .agg #[.int .i64 (((k : Nat) : Int)), .int .i64 (start), .slice a n c], .bool (decide (Lasts (((k : Nat) : Int)) (start) ds)), (y3 11), (y3 12)].getD i_ undef), rfl, rfl, (by omega), (by omega), (hr.trans (upTo_miss (by omega) (decide_eq_false ‹_›))), H_⟩
    · refine fl_else rfl (decide_eq_false c5) ?_
      refine fl_exit rfl ?_
      refine fl_seq ?_
      refine rl_start ?_
      refine rl_det (met_none rfl) (fun h_ H_ => exd_assign (v := .int .i64 0) rfl) (tm' := _::_::_::_) rfl ?_
      refine rl_det (met_none rfl) (fun h_ H_ => exd_assign (v := .int .i64 3) rfl) (tm' := _::_::_::_::_) rfl ?_
      refine rl_end ?_
      refine fl_ret Try.func45 rfl (vs := [.int .i64 0, .int .i64 3]) (fun h_ H_ => ⟨.int .i64 0, _, rfl, rfl, ⟨.int .i64 3, _, rfl, rfl, rfl⟩⟩) (v := .tuple #[.int .i64 0, .int .i64 3]) rfl ?_
      exact fun h_ H_ => K _ _ ⟨by unfold sizeR; rw [if_pos hOk, hr, upTo_end (by omega)]; rfl, H_.kept⟩
theorem c46 (md : Md) (h : Heap) (p : PHeap) (hp : Per p h) (size start : Int) (a : Option Addr) (n c : Nat) (ds : List Day) (D : Days p a n ds) (hn : n ≤ 40) : CallsX Try.prog md 46 #[.agg #[.int .i64 (size), .int .i64 (start), .slice a n c]] h fun v h' => v = .tuple #[.int .i64 (startR size start ds).1, .int .i64 (startR size start ds).2] ∧ Keep h h' := by
  refine calls_intro (Φ := fun h_ => St h [] p h_ []) Try.func46 rfl (tm := [_, _, _, _, _, _, _, _, _, _, _, _, _, _, _, _, _, _, _, _, _, _, _, _]) rfl ?_ (St.start h _ hp)
  intro c₀ cs Stop K
  have hl := D.len
  refine fl_seq ?_
  refine rl_start ?_
  refine rl_box (met_none rfl) (v := .agg #[.int .i64 (size), .int .i64 (start), .slice a n c]) rfl fun b1 => rl_own (L' := [(b1, .cells #[.int .i64 (size), .int .i64 (start), .slice a n c] 24 (0, 0))]) rfl ?_
  refine rl_norm (tm' := _::_::_) rfl ?_
  refine rl_det (met_none rfl) (fun h_ H_ => exd_assign (v := .int .i64 0) rfl) (tm' := _::_::_::_) rfl ?_
  refine rl_det (met_none rfl) (fun h_ H_ => exd_assign (v := .int .i64 0) rfl) (tm' := _::_::_::_::_) rfl ?_
  refine rl_end ?_
  refine fl_seq ?_
  refine fl_seq ?_
  refine rl_start ?_
  refine rl_det (met_none rfl) (fun h_ H_ => exd_loadN_own H_ tA24 tS24 rfl (i := 0) rfl (vs := [.int .i64 (size), .int .i64 (start), .slice a n c]) rfl rfl) (tm' := _::_::_::_::_::_::_) rfl ?_
  refine rl_calld (met_none rfl) (first := []) (cap := []) rfl rfl fC32 (fun h_ H_ => c32 md _ _ (fun b_ o_ e_ => H_.per b_ o_ e_) (size) (start) _ _ _ _ D (by omega)) (tm' := _::_::_::_::_::_::_::_) rfl ?_
  refine rl_det (met_none rfl) (fun h_ H_ => exd_assign (v := .int .i64 (chk (size) (start) ds)) rfl) (tm' := _::_::_::_::_::_) rfl ?_
  refine rl_end ?_
  refine fl_seq ?_
  refine rl_start ?_
  refine rl_det (met_none rfl) (fun h_ H_ => exd_move (v := .int .i64 (chk (size) (start) ds)) rfl) (tm' := _::_::_::_::_::_::_::_::_) rfl ?_
  refine rl_det (met_none rfl) (fun h_ H_ => exd_neq rfl rfl) (tm' := _::_::_::_::_::_::_::_::_::_) rfl ?_
  refine rl_end ?_
  by_cases c2 : chk (size) (start) ds ≠ 0
  · refine fl_then rfl (decide_eq_true c2) ?_
    refine fl_seq ?_
    refine rl_start ?_
    refine rl_det (met_none rfl) (fun h_ H_ => exd_move (v := .int .i64 (chk (size) (start) ds)) rfl) (tm' := _::_::_::_::_::_::_::_::_::_::_) rfl ?_
    refine rl_det (met_none rfl) (fun h_ H_ => exd_assign (v := .int .i64 0) rfl) (tm' := _::_::_::_) rfl ?_
    refine rl_det (met_none rfl) (fun h_ H_ => exd_assign (v := .int .i64 (chk (size) (start) ds)) rfl) (tm' := _::_::_::_::_) rfl ?_
    refine rl_end ?_
    refine fl_ret Try.func46 rfl (vs := [.int .i64 0, .int .i64 (chk (size) (start) ds)]) (fun h_ H_ => ⟨.int .i64 0, _, rfl, rfl, ⟨.int .i64 (chk (size) (start) ds), _, rfl, rfl, rfl⟩⟩) (v := .tuple #[.int .i64 0, .int .i64 (chk (size) (start) ds)]) rfl ?_
    have hOk : ¬ Ok size start ds := fun e => absurd (chk_yes e) ‹_›
    exact fun h_ H_ => K _ _ ⟨by unfold startR; rw [if_neg hOk, chk_no hOk], H_.kept⟩
  · refine fl_else rfl (decide_eq_false c2) ?_
    refine fl_skip ?_
    refine fl_seq ?_
    refine fl_seq ?_
    have hOk : Ok size start ds := chk_zero.1 (by omega)
    have ho1 := hOk.1; have ho2 := hOk.2.1; have ho3 := hOk.2.2.1
    refine rl_start ?_
    refine rl_det (met_none rfl) (fun h_ H_ => exd_fieldAddr tF24_1 rfl (a' := ⟨b1, 1, none⟩) rfl) (tm' := _::_::_::_::_::_::_::_::_::_::_::_) rfl ?_
    refine rl_store (met_none rfl) tS3 rfl (v := .int .i64 0) rfl (i := 0) rfl rfl rfl (Nat.le_of_ble_eq_true rfl) (cs2 := [.int .i64 (size), .int .i64 0, .slice a n c]) rfl (rl_own (L' := [(b1, .cells #[.int .i64 (size), .int .i64 0, .slice a n c] 24 (0, 0))]) rfl ?_)
    refine rl_end ?_
    refine fl_block ?_
    refine fl_loop (m₀ := (size.toNat + 1) - 0) (fun m_ tm_ h_ => ∃ (k : Nat) (nn : Int) (y3 : Nat → Value), m_ = (size.toNat + 1) - k ∧ tm_ = [.agg #[.int .i64 (size), .int .i64 (start), .slice a n c], .pointer (some ⟨b1, 0, none⟩), (y3 0), (y3 1), .int .i64 (chk (size) (start) ds), .agg #[.int .i64 (size), .int .i64 (start), .slice a n c], .int .i64 (chk (size) (start) ds), .int .i64 (chk (size) (start) ds), .bool (decide (chk (size) (start) ds ≠ 0)), undef, .pointer (some ⟨b1, 1, none⟩), (y3 2), (y3 3), (y3 4), (y3 5), (y3 6), (y3 7), (y3 8), (y3 9), (y3 10), (y3 11), (y3 12), (y3 13), (y3 14)] ∧ (nn = ((k : Nat) : Int)) ∧ (k ≤ (size.toNat + 1)) ∧ (upTo (fun k => decide (Lasts size (k : Nat) ds)) 0 ((size.toNat + 1)) = upTo (fun k => decide (Lasts size (k : Nat) ds)) k ((size.toNat + 1) - k)) ∧ St h [] p h_ ([(b1, .cells #[.int .i64 (size), .int .i64 (nn), .slice a n c] 24 (0, 0))])) (fun h_ H_ => ⟨0, 0, (fun i_ => [.int .i64 0, .int .i64 0, undef, undef, undef, undef, undef, undef, undef, undef, undef, undef, undef, undef, undef].getD i_ undef), rfl, rfl, rfl, Nat.zero_le _, rfl, H_⟩) ?_
    intro m_ tm_ IH4
    refine rs_ex fun k => rs_ex fun nn => rs_ex fun y3 => rs_and fun hm_ => rs_and fun ht_ => rs_and fun hnn => rs_and fun hk => rs_and fun hr => ?_
    subst hm_; subst ht_
    subst hnn
    refine fl_seq ?_
    refine fl_seq ?_
    refine rl_start ?_
    refine rl_det (met_none rfl) (fun h_ H_ => exd_fieldAddr tF24_1 rfl (a' := ⟨b1, 1, none⟩) rfl) (tm' := _::_::_::_::_::_::_::_::_::_::_::_::_) rfl ?_
    refine rl_det (met_none rfl) (fun h_ H_ => exd_load_own H_ tA3 rfl (i := 0) rfl (v := .int .i64 (((k : Nat) : Int))) rfl) (tm' := _::_::_::_::_::_::_::_::_::_::_::_::_::_) rfl ?_
    refine rl_det (met_none rfl) (fun h_ H_ => exd_fieldAddr tF24_0 rfl (a' := ⟨b1, 0, none⟩) rfl) (tm' := _::_::_::_::_::_::_::_::_::_::_::_::_::_::_) rfl ?_
    refine rl_det (met_none rfl) (fun h_ H_ => exd_load_own H_ tA3 rfl (i := 0) rfl (v := .int .i64 (size)) rfl) (tm' := _::_::_::_::_::_::_::_::_::_::_::_::_::_::_::_) rfl ?_
    refine rl_det (met_none rfl) (fun h_ H_ => exd_leq rfl rfl) (tm' := _::_::_::_::_::_::_::_::_::_::_::_::_::_::_::_::_) rfl ?_
    refine rl_end ?_
    by_cases c5 : ((k : Nat) : Int) ≤ size
    · refine fl_then rfl (decide_eq_true c5) ?_
      refine fl_skip ?_
      refine fl_seq ?_
      refine fl_block ?_
      refine fl_seq ?_
      refine rl_start ?_
      refine rl_det (met_none rfl) (fun h_ H_ => exd_loadN_own H_ tA24 tS24 rfl (i := 0) rfl (vs := [.int .i64 (size), .int .i64 (((k : Nat) : Int)), .slice a n c]) rfl rfl) (tm' := [_,_,_,_,_,_,_,_,_,_,_,_,_,_,_,_,_,_,_,_,_,_,_,_]) rfl ?_
      refine rl_calld (met_none rfl) (first := []) (cap := []) rfl rfl fC62 (fun h_ H_ => c62 md _ _ (fun b_ o_ e_ => H_.per b_ o_ e_) (size) (((k : Nat) : Int)) _ _ _ _ D (by omega) ⟨by omega, by omega, by omega⟩ hOk.dok) (tm' := [_,_,_,_,_,_,_,_,_,_,_,_,_,_,_,_,_,_,_,_,_,_,_,_]) rfl ?_
      refine rl_end ?_
      by_cases c6 : Lasts (size) (((k : Nat) : Int)) ds
      · refine fl_then rfl (decide_eq_true c6) ?_
        refine fl_seq ?_
        refine rl_start ?_
        refine rl_det (met_none rfl) (fun h_ H_ => exd_fieldAddr tF24_1 rfl (a' := ⟨b1, 1, none⟩) rfl) (tm' := [_,_,_,_,_,_,_,_,_,_,_,_,_,_,_,_,_,_,_,_,_,_,_,_]) rfl ?_
        refine rl_det (met_none rfl) (fun h_ H_ => exd_load_own H_ tA3 rfl (i := 0) rfl (v := .int .i64 (((k : Nat) : Int))) rfl) (tm' := [_,_,_,_,_,_,_,_,_,_,_,_,_,_,_,_,_,_,_,_,_,_,_,_]) rfl ?_
        refine rl_det (met_none rfl) (fun h_ H_ => exd_assign (v := .int .i64 (((k : Nat) : Int))) rfl) (tm' := _::_::_::_) rfl ?_
        refine rl_det (met_none rfl) (fun h_ H_ => exd_assign (v := .int .i64 0) rfl) (tm' := _::_::_::_::_) rfl ?_
        refine rl_end ?_
        refine fl_ret Try.func46 rfl (vs := [.int .i64 (((k : Nat) : Int)), .int .i64 0]) (fun h_ H_ => ⟨.int .i64 (((k : Nat) : Int)), _, rfl, rfl, ⟨.int .i64 0, _, rfl, rfl, rfl⟩⟩) (v := .tuple #[.int .i64 (((k : Nat) : Int)), .int .i64 0]) rfl ?_
        exact fun h_ H_ => K _ _ ⟨by unfold startR; rw [if_pos hOk, hr, upTo_hit (by omega) (decide_eq_true ‹_›)]; rfl, H_.kept⟩
      · refine fl_else rfl (decide_eq_false c6) ?_
        refine fl_skip ?_
        refine fl_inBlock ?_
        refine rl_start ?_
        refine rl_det (met_none rfl) (fun h_ H_ => exd_fieldAddr tF24_1 rfl (a' := ⟨b1, 1, none⟩) rfl) (tm' := [_,_,_,_,_,_,_,_,_,_,_,_,_,_,_,_,_,_,_,_,_,_,_,_]) rfl ?_
        refine rl_det (met_none rfl) (fun h_ H_ => exd_load_own H_ tA3 rfl (i := 0) rfl (v := .int .i64 (((k : Nat) : Int))) rfl) (tm' := [_,_,_,_,_,_,_,_,_,_,_,_,_,_,_,_,_,_,_,_,_,_,_,_]) rfl ?_
        refine rl_det (met_none rfl) (fun h_ H_ => exd_add rfl rfl (n := ((k + 1 : Nat) : Int)) (wr (by omega))) (tm' := [_,_,_,_,_,_,_,_,_,_,_,_,_,_,_,_,_,_,_,_,_,_,_,_]) rfl ?_
        refine rl_det (met_none rfl) (fun h_ H_ => exd_fieldAddr tF24_1 rfl (a' := ⟨b1, 1, none⟩) rfl) (tm' := [_,_,_,_,_,_,_,_,_,_,_,_,_,_,_,_,_,_,_,_,_,_,_,_]) rfl ?_
        refine rl_store (met_none rfl) tS3 rfl (v := .int .i64 (((k + 1 : Nat) : Int))) rfl (i := 0) rfl rfl rfl (Nat.le_of_ble_eq_true rfl) (cs2 := [.int .i64 (size), .int .i64 (((k + 1 : Nat) : Int)), .slice a n c]) rfl (rl_own (L' := [(b1, .cells #[.int .i64 (size), .int .i64 (((k + 1 : Nat) : Int)), .slice a n c] 24 (0, 0))]) rfl ?_)
        refine rl_end ?_
        exact fun h_ H_ => IH4 _ _ (by omega) h_ ⟨k + 1, _, (fun i_ => [(y3 0), (y3 1), .pointer (some ⟨b1, 1, none⟩), .int .i64 (((k : Nat) : Int)), .pointer (some ⟨b1, 0, none⟩), .int .i64 (size), .bool (decide (((k : Nat) : Int) ≤ size)), .pointer (some ⟨b1, 1, none⟩), .int .i64 (((k : Nat) : Int)), .int .i64 (((k + 1 : Nat) : Int)), .pointer (some ⟨b1, 1, none⟩), .agg #[.int .i64 (size), .int .i64 (((k : Nat) : Int)), .slice a n c], .bool (decide (Lasts (size) (((k : Nat) : Int)) ds)), (y3 13), (y3 14)].getD i_ undef), rfl, rfl, (by omega), (by omega), (hr.trans (upTo_miss (by omega) (decide_eq_false ‹_›))), H_⟩
    · refine fl_else rfl (decide_eq_false c5) ?_
      refine fl_exit rfl ?_
      refine fl_seq ?_
      refine rl_start ?_
      refine rl_det (met_none rfl) (fun h_ H_ => exd_assign (v := .int .i64 0) rfl) (tm' := _::_::_::_) rfl ?_
      refine rl_det (met_none rfl) (fun h_ H_ => exd_assign (v := .int .i64 3) rfl) (tm' := _::_::_::_::_) rfl ?_
      refine rl_end ?_
      refine fl_ret Try.func46 rfl (vs := [.int .i64 0, .int .i64 3]) (fun h_ H_ => ⟨.int .i64 0, _, rfl, rfl, ⟨.int .i64 3, _, rfl, rfl, rfl⟩⟩) (v := .tuple #[.int .i64 0, .int .i64 3]) rfl ?_
      exact fun h_ H_ => K _ _ ⟨by unfold startR; rw [if_pos hOk, hr, upTo_end (by omega)]; rfl, H_.kept⟩
theorem c83 (md : Md) (h : Heap) (n : Int) : CallsX Try.prog md 83 #[.int .i64 (n)] h fun v h' => v = .tuple #[.int .i64 (if n < 0 then 0 else n), .int .i64 (if n < 0 then 3 else 0)] ∧ Keep h h' := by
  refine calls_intro (Φ := fun h_ => St h [] (fun _ => none) h_ []) Try.func83 rfl (tm := [_, _, _, _, _, _, _]) rfl ?_ (St.start h _ (fun _ _ e => by cases e))
  intro c₀ cs Stop K
  refine fl_seq ?_
  refine rl_start ?_
  refine rl_det (met_none rfl) (fun h_ H_ => exd_assign (v := .int .i64 0) rfl) (tm' := _::_::_::_) rfl ?_
  refine rl_det (met_none rfl) (fun h_ H_ => exd_assign (v := .int .i64 0) rfl) (tm' := _::_::_::_::_) rfl ?_
  refine rl_end ?_
  refine fl_seq ?_
  refine fl_seq ?_
  refine rl_start ?_
  refine rl_det (met_none rfl) (fun h_ H_ => exd_move (v := .int .i64 (n)) rfl) (tm' := [_,_,_,_,_,_,_]) rfl ?_
  refine rl_det (met_none rfl) (fun h_ H_ => exd_lss rfl rfl) (tm' := [_,_,_,_,_,_,_]) rfl ?_
  refine rl_end ?_
  by_cases c1 : n < 0
  · refine fl_then rfl (decide_eq_true c1) ?_
    refine fl_seq ?_
    refine rl_start ?_
    refine rl_det (met_none rfl) (fun h_ H_ => exd_assign (v := .int .i64 0) rfl) (tm' := _::_::_::_) rfl ?_
    refine rl_det (met_none rfl) (fun h_ H_ => exd_assign (v := .int .i64 3) rfl) (tm' := _::_::_::_::_) rfl ?_
    refine rl_end ?_
    refine fl_ret Try.func83 rfl (vs := [.int .i64 0, .int .i64 3]) (fun h_ H_ => ⟨.int .i64 0, _, rfl, rfl, ⟨.int .i64 3, _, rfl, rfl, rfl⟩⟩) (v := .tuple #[.int .i64 0, .int .i64 3]) rfl ?_
    exact fun h_ H_ => K _ _ ⟨by first | (rw [if_pos ‹_›, if_pos ‹_›]) | (rw [if_neg ‹_›, if_neg ‹_›]), H_.kept⟩
  · refine fl_else rfl (decide_eq_false c1) ?_
    refine fl_skip ?_
    refine fl_seq ?_
    refine rl_start ?_
    refine rl_det (met_none rfl) (fun h_ H_ => exd_move (v := .int .i64 (n)) rfl) (tm' := [_,_,_,_,_,_,_]) rfl ?_
    refine rl_det (met_none rfl) (fun h_ H_ => exd_assign (v := .int .i64 (n)) rfl) (tm' := _::_::_::_) rfl ?_
    refine rl_det (met_none rfl) (fun h_ H_ => exd_assign (v := .int .i64 0) rfl) (tm' := _::_::_::_::_) rfl ?_
    refine rl_end ?_
    refine fl_ret Try.func83 rfl (vs := [.int .i64 (n), .int .i64 0]) (fun h_ H_ => ⟨.int .i64 (n), _, rfl, rfl, ⟨.int .i64 0, _, rfl, rfl, rfl⟩⟩) (v := .tuple #[.int .i64 (n), .int .i64 0]) rfl ?_
    exact fun h_ H_ => K _ _ ⟨by first | (rw [if_pos ‹_›, if_pos ‹_›]) | (rw [if_neg ‹_›, if_neg ‹_›]), H_.kept⟩
end Go.Proofs.Ytbmkacnlhlbnjaa
namespace Go.X
open Go.Conc
theorem rs_lastN {P : Program} {md : Md} {Stop : Goroutine → Heap → Prop} {h₀ : Heap} {B₀ : List Nat} {p : PHeap} {A X C : Pcs} {T : TypeId} {w : Nat} {v : Value} {es : List (List Value)} {g : Goroutine} {n : Nat} (o : OwnS T w v es X) (hn : es.length = n)
    (nx : ∀ p' a cap, PLe p p' → v = .slice a n cap → Sl p' a n w es → RS P md g (fun h => St h₀ B₀ p' h (A ++ C)) Stop) : RS P md g (fun h => St h₀ B₀ p h (A ++ (X ++ C))) Stop := by
  subst hn; exact rs_lastO o nx
section
variable {P : Program} {h₀ h : Heap} {B₀ : List Nat} {p : PHeap} {A X C L : Pcs} {T : TypeId} {w : Nat} {v : Value} {es : List (List Value)}
variable {tm : List Value} {d : Option Tmp} {ty : TypeId} {pos : String} {aft : Array Edge} {gd : Option (Nat × Bool)}
/-- A load from a slice of one's own, wherever it stands. -/
theorem exd_loadM {t : TypeId} {x : Operand} {i j : Nat} {e : List Value} {u : Value} {a : Addr} (o : OwnS T w v es X) (s : St h₀ B₀ p h L) (hX : ∀ x ∈ X, x ∈ L) (ht : aggT P t = some false) (hx : evl tm x = .pointer (some a)) (ha : ((adrV v).add (i * w)).add j = a)
    (hi : es[i]? = some e) (hj : e[j]? = some u) : Exd P tm ⟨d, .load t x, ty, pos, aft, gd⟩ h u := by
  obtain ⟨b, cs, cap, rest, e1, e2, e3, e4⟩ := o.has (List.getElem?_eq_some_iff.1 hi).1
  subst e1; subst e2; subst ha
  refine exd_load ht hx ?_
  simp only [adrV]
  rw [add_mk, add_mk]
  obtain ⟨q, hq⟩ := List.getElem?_of_mem (hX (b, .cells cs.toArray T (0, 0)) (by simp))
  refine s.ocell (i := q) (cs := cs.toArray) (T := T) (z := (0, 0)) hq ?_
  have := flatten_get o.1 hi hj
  rw [List.getElem?_toArray, e3, Nat.zero_add, List.getElem?_append_left (List.getElem?_eq_some_iff.1 this).1]
  exact this
theorem ns_at {f : Nat → Int} {k i : Nat} (h : i < k) : (ns f k)[i]? = some [.int .i64 (f i)] := by simp [ns, nums, h]
end
end Go.X
namespace Go.X
open Go.Conc

section
variable {P : Program} {h : Heap}

theorem wpS_partA {t : TypeId} {cs : Array Value} {off n : Nat} {K : Value → Heap → Prop} (ha : aggT P t = some true) (hs : sizeT P t = some n) (x : K (.agg (cs.extract off (off + n))) h) : wpS P (part t cs off) h K := by
  unfold part
  refine wpS_bind (wpS_isAgg ha ?_)
  rw [if_pos rfl]
  exact wpS_bind (wpS_sizeOf hs (wpS_pure x))
theorem wpS_part1 {t : TypeId} {cs : Array Value} {off : Nat} {v : Value} {K : Value → Heap → Prop} (ha : aggT P t = some false) (hv : cs[off]? = some v) (x : K v h) : wpS P (part t cs off) h K := by
  unfold part
  refine wpS_bind (wpS_isAgg ha ?_)
  rw [if_neg (by simp), hv]
  exact wpS_pure x

theorem wpS_program {K : Program → Heap → Prop} (x : K P h) : wpS P program h K := by simp only [program, wpS]; exact x

/-- Comparing from these fields on comes to 'r'. -/
def EqOk (P : Program) (d : Nat) (xs ys : Array Value) : List Field → Bool → Prop
  | [], r => r = true
  | f :: fs, r => f.name ≠ "_" ∧ ∃ a b q, (∀ h (K : Value → Heap → Prop), K a h → wpS P (part f.type xs f.offset) h K) ∧ (∀ h (K : Value → Heap → Prop), K b h → wpS P (part f.type ys f.offset) h K) ∧
      (∀ h (K : Bool → Heap → Prop), K q h → wpS P (Op.equalIn d f.type a b) h K) ∧ (q = false ∧ r = false ∨ q = true ∧ EqOk P d xs ys fs r)

theorem wpS_eqStruct {d : Nat} {t : TypeId} {fs : Array Field} {xs ys : Array Value} {r : Bool} {K : Bool → Heap → Prop} (ht : P.underlying t = some (.struct fs)) (hp : P.stoodInHeld t = false) (e : EqOk P d xs ys fs.toList r) (k : K r h) :
    wpS P (Op.equalIn (d + 1) t (.agg xs) (.agg ys)) h K := by
  simp only [Op.equalIn]
  refine wpS_bind (wpS_underlying ht ?_)
  simp only
  refine wpS_bind (wpS_program ?_)
  rw [if_neg (by rw [hp]; simp)]
  rw [← Array.forIn_toList]
  generalize fs.toList = l at e
  refine wpS_bind ?_
  induction l generalizing h with
  | nil =>
    rw [show r = true from e] at k
    simp only [List.forIn_nil]
    exact wpS_pure (wpS_pure k)
  | cons f l ih =>
    obtain ⟨hn, a, b, q, ha, hb, hq, hr⟩ := e
    simp only [List.forIn_cons]
    refine wpS_bind ?_
    rw [if_pos hn]
    refine wpS_bind (ha _ _ ?_)
    refine wpS_bind (hb _ _ ?_)
    refine wpS_bind (hq _ _ ?_)
    rcases hr with ⟨rfl, rfl⟩ | ⟨rfl, hr⟩
    · exact wpS_pure (wpS_pure (wpS_pure k))
    · exact wpS_pure (ih k hr)

theorem wpS_eqInt {d : Nat} {t : TypeId} {k : IntKind} {a b : Int} {K : Bool → Heap → Prop} (ht : P.underlying t = some (.int k)) (x : K (decide (a = b)) h) : wpS P (Op.equalIn (d + 1) t (.int k a) (.int k b)) h K := by
  simp only [Op.equalIn]
  refine wpS_bind (wpS_underlying ht ?_)
  simp only [if_true, ibeq]
  exact wpS_pure x

variable {tm : List Value} {d : Option Tmp} {ty : TypeId} {pos : String} {aft : Array Edge} {gd : Option (Nat × Bool)}
theorem eqAgg_guard {op : BinOp} {T : TypeId} {x y : Operand} {xs ys : Array Value} {K : Unit → Heap → Prop} (hg : P.eqGuardType P.depth T = false) (z : K () h) : wpS P (eqGuard op T x y (.agg xs) (.agg ys)) h K := by
  unfold eqGuard
  cases op <;> first | (rw [if_pos (by rfl)]; exact wpS_pure z) | (rw [if_neg (by decide)]; refine wpS_bind (wpS_program (wpS_bind (wpS_program ?_))); rw [if_pos (by rw [hg]; rfl)]; exact wpS_pure z)
theorem exd_eqAgg {T T' : TypeId} {x y : Operand} {xs ys : Array Value} {q : Bool} (hg : P.eqGuardType P.depth T = false) (e : ∀ h (K : Bool → Heap → Prop), K q h → wpS P (Op.equalIn (9999 + 1) T (.agg xs) (.agg ys)) h K) (hx : evl tm x = .agg xs) (hy : evl tm y = .agg ys) :
    Exd P tm ⟨d, .binOp .eql T x y T', ty, pos, aft, gd⟩ h (.bool q) := by
  refine exd_bin hx hy (fun K z => eqAgg_guard hg z) ?_
  simp only [binOp, Op.equal, Op.maxDepth]
  refine wpS_bind (e _ _ ?_)
  exact wpS_pure ⟨rfl, rfl⟩
theorem exd_neqAgg {T T' : TypeId} {x y : Operand} {xs ys : Array Value} {q : Bool} (hg : P.eqGuardType P.depth T = false) (e : ∀ h (K : Bool → Heap → Prop), K q h → wpS P (Op.equalIn (9999 + 1) T (.agg xs) (.agg ys)) h K) (hx : evl tm x = .agg xs) (hy : evl tm y = .agg ys) :
    Exd P tm ⟨d, .binOp .neq T x y T', ty, pos, aft, gd⟩ h (.bool (!q)) := by
  refine exd_bin hx hy (fun K z => eqAgg_guard hg z) ?_
  simp only [binOp, Op.equal, Op.maxDepth]
  refine wpS_bind (e _ _ ?_)
  exact wpS_pure ⟨rfl, rfl⟩
end
end Go.X
namespace Go.Proofs.Ytbmkacnlhlbnjaa
open Go.X Go.X.Cist Go.Conc

set_option maxRecDepth 10000

theorem spanEq (n : Nat) (a b c d : Int) : ∀ h (K : Bool → Heap → Prop), K (decide (a = c ∧ b = d)) h → wpS Try.prog (Op.equalIn (n + 2) 36 (.agg #[.int .i64 a, .int .i64 b]) (.agg #[.int .i64 c, .int .i64 d])) h K := fun h K x => by
  refine wpS_eqStruct Try.underlying36 (by kernel_rfl) (r := decide (a = c ∧ b = d)) ?_ x
  refine ⟨by decide, _, _, decide (a = c), fun h K k => wpS_part1 tA3 rfl k, fun h K k => wpS_part1 tA3 rfl k, fun h K k => wpS_eqInt Try.underlying3 k, ?_⟩
  by_cases e : a = c
  · refine .inr ⟨decide_eq_true e, by decide, _, _, decide (b = d), fun h K k => wpS_part1 tA3 rfl k, fun h K k => wpS_part1 tA3 rfl k, fun h K k => wpS_eqInt Try.underlying3 k, ?_⟩
    by_cases e2 : b = d
    · exact .inr ⟨decide_eq_true e2, decide_eq_true ⟨e, e2⟩⟩
    · exact .inl ⟨decide_eq_false e2, decide_eq_false fun x => e2 x.2⟩
  · exact .inl ⟨decide_eq_false e, decide_eq_false fun x => e x.1⟩

theorem dayEq (n : Nat) (x y : Day) : ∀ h (K : Bool → Heap → Prop), K (decide (x = y)) h → wpS Try.prog (Op.equalIn (n + 3) 38 (.agg #[.int .i64 x.lo, .int .i64 x.hi, .int .i64 x.want]) (.agg #[.int .i64 y.lo, .int .i64 y.hi, .int .i64 y.want])) h K := fun h K k => by
  obtain ⟨a, b, c⟩ := x
  obtain ⟨a', b', c'⟩ := y
  refine wpS_eqStruct Try.underlying38 (by kernel_rfl) (r := decide ((⟨a, b, c⟩ : Day) = ⟨a', b', c'⟩)) ?_ k
  refine ⟨by decide, _, _, decide (a = a' ∧ b = b'), fun h K k => wpS_partA tA36 tS36 k, fun h K k => wpS_partA tA36 tS36 k, fun h K k => spanEq _ _ _ _ _ _ _ k, ?_⟩
  by_cases e : a = a' ∧ b = b'
  · refine .inr ⟨decide_eq_true e, by decide, _, _, decide (c = c'), fun h K k => wpS_part1 tA3 rfl k, fun h K k => wpS_part1 tA3 rfl k, fun h K k => wpS_eqInt Try.underlying3 k, ?_⟩
    by_cases e2 : c = c'
    · exact .inr ⟨decide_eq_true e2, decide_eq_true (by rw [e.1, e.2, e2])⟩
    · exact .inl ⟨decide_eq_false e2, decide_eq_false fun x => e2 (by injection x)⟩
  · exact .inl ⟨decide_eq_false e, decide_eq_false fun x => e (by injection x with h1 h2; exact ⟨h1, h2⟩)⟩
theorem gT36 : Try.prog.eqGuardType Try.prog.depth 36 = false := by kernel_rfl
theorem gT38 : Try.prog.eqGuardType Try.prog.depth 38 = false := by kernel_rfl
end Go.Proofs.Ytbmkacnlhlbnjaa
