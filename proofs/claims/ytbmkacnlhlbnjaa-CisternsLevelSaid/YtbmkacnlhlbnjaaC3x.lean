/-
  Part of proofs about cisterns, beside goroutines that are only leaving. No condition.
-/
import Derived.Test.YtbmkacnlhlbnjaaC2
import Derived.Conc.DeferLaws
import Derived.Conc.Own2
import Derived.Test.YtbmkacnlhlbnjaaC1
import Derived.Test.YtbmkacnlhlbnjaaC3
import Derived.Conc.LeavingOf
import Derived.Carry
import Derived.Deep.Slices
import Derived.Lib.SmallJoins
namespace Go.X
open Go.Conc

section
variable {P : Program} {md : Md} {f : FuncId} {r : Rd} {df : List Deferred} {k : List Item} {cs : List Frame} {Stop : Goroutine → Heap → Prop} {ops rest : List Oper} {tm : List Value} {Φ : Heap → Prop} {h : Heap}

theorem F_at {a : List Value} (hr : r.round = none) : FL f r a df k = (B f r).at ⟨a.toArray, df⟩ k := by simp [FL, F, Frame.at, B, hr]

theorem rl_defer [Stb Φ] {g : FuncId} {args : List Operand} {ats : Array TypeId} {vs : List Value} {ty : TypeId} {pos : String} {aft : Array Edge} {gd : Option (Nat × Bool)}
    (hm : Met ops tm ⟨none, .defer ⟨.value (.func g), args.toArray, ats⟩, ty, pos, aft, gd⟩ true) (hvs : args.map (evl tm) = vs) (hr : r.round = none)
    (n : RL P md f r (dcall g vs.toArray :: df) k cs Stop ops rest tm Φ) : RL P md f r df k cs Stop ops (⟨none, .defer ⟨.value (.func g), args.toArray, ats⟩, ty, pos, aft, gd⟩ :: rest) tm Φ := by
  intro pre e
  rw [rl_next]
  have n' := n (pre ++ [⟨none, .defer ⟨.value (.func g), args.toArray, ats⟩, ty, pos, aft, gd⟩]) (by simp [e])
  refine rs_go rfl (fun w => ?_) n'
  rw [F_at hr, F_at hr]
  have hev : Act.eval ⟨tm.toArray, df⟩ = evl tm := by
    funext x
    rw [← ev_toArray]
    cases x <;> rfl
  have hw := wanted_of_met hm
  rw [stepG_defer (rl_at e) (by exact hw) B_kind rfl]
  simp only [Act.put, List.map_toArray, hev, hvs]
  simp

/-- A function that a go statement has started. -/
theorem go_intro {fn : Func} {c : Code} {args : Array Value} (hf : P.funcs[f]? = some fn) (hb : fn.body = some c) (ht : args.toList ++ List.replicate (fn.ntmps - args.size) undef = tm)
    (x : RS P md (G (FL f .dfd tm [] [.code c]) cs) Φ Stop) (h0 : Φ h) : Reach P md (G (Frame.enter P f args .deferred) cs) h Stop := by
  have := x h h0
  have e : Frame.enter P f args .deferred = FL f .dfd tm [] [.code c] := by
    unfold Frame.enter
    simp only [hf, hb, Option.map_some, Option.bind_some, Option.getD_some, FL, F, B, ← ht]
    simp [Rd.kind, Rd.round]
  rw [e]; exact this

/-- It comes to its end: what is deferred is left. -/
theorem fl_fallX {c₀ : Frame} {h₀ : Heap} {B₀ : List Nat} {p : PHeap} {L : Pcs} {m i : Nat} (hL : L[i]? = some (m, .deferred (some [])))
    (x : ∀ td, RS P md (G (FR (B f .dfd) tm.toArray df td) (c₀ :: cs)) (fun h => St h₀ B₀ p h (L.set i (m, .deferred none))) Stop) : RS P md (G (FL f .dfd tm (mark m :: df) []) (c₀ :: cs)) (fun h => St h₀ B₀ p h L) Stop :=
  rs_end (hro := rfl) fun td => rs_collected (fun _ s => s.at hL) fun _ s => x td _ (s.setObj hL)

theorem fl_loop1 [Stb Φ] {c : Code} (z : RS P md (G (FL f r tm df (.code c :: .inLoop c :: k)) cs) Φ Stop) : RS P md (G (FL f r tm df (.code (.loop c) :: k)) cs) Φ Stop := rs_loop z
theorem fl_inLoop1 [Stb Φ] {c : Code} (z : RS P md (G (FL f r tm df (.code c :: .inLoop c :: k)) cs) Φ Stop) : RS P md (G (FL f r tm df (.inLoop c :: k)) cs) Φ Stop := rs_inLoop z

/-- Its own bottom. -/
def botF (P : Program) : Frame := { (default : Frame) with fn := P.funcs.size, defers := [], mode := .panicking [goexitEntry] }

theorem born_first [Stb Φ] {fn : Func} {g : FuncId} {caps args : Array Value} (hf : P.funcs[g]? = some fn) (hname : (fn.name == "runtime.NumGoroutine") = false) (hb : fn.body.isNone = false)
    (x : RS P (.own false) (G (Frame.enter P g (args ++ caps) .deferred) [botF P]) Φ Stop) : RS P (.own false) (born P { target := .fn (.func g) caps, args := args }) Φ Stop := by
  refine rs_go rfl (fun w => ?_) x
  have hn : fn.body ≠ none := fun e => by rw [e] at hb; cases hb
  have hname' : ¬ fn.name = "runtime.NumGoroutine" := by simpa using hname
  show stepG P false (born P { target := .fn (.func g) caps, args := args }) w = _
  cases hbd : fn.body with
  | none => exact absurd hbd hn
  | some c => simp [born, stepG, unwind, callDeferred, invoke, callFunc, hf, hname', hbd, seen, GStep.after, G, botF]
end
end Go.X
namespace Go.X
open Go.Conc Go.Conc.Lib
open Go.ConcR (DC0)
open Go.ConcN (WgLive)

section
variable {P : Program} {md : Md} {f : FuncId} {r : Rd} {df : List Deferred} {k : List Item} {cs : List Frame} {Stop : Goroutine → Heap → Prop} {ops rest : List Oper} {tm tm' : List Value} {Φ : Heap → Prop} {L : WgLink}
  {dd : Tmp} {args : List Operand} {ats : Array TypeId} {ty : TypeId} {pos : String} {aft : Array Edge} {gd : Option (Nat × Bool)} {Wg : Nat}

/-- Where it goes on behind an operation. -/
def Behind (P : Program) (f : FuncId) (r : Rd) (df : List Deferred) (k : List Item) (cs : List Frame) (ops rest : List Oper) (tm' : List Value) (gb : Goroutine) : Prop :=
  ∀ (md' : Md) (Φ' : Heap → Prop) (Stop' : Goroutine → Heap → Prop) (h' : Heap), RL P md' f r df k cs Stop' ops rest tm' Φ' → Φ' h' → Reach P md' gb h' Stop'

theorem behind_at {pre : List Oper} {o : Oper} (e : ops = pre ++ o :: rest) (hr : r.round = none) {v : Value} (ht : putl tm o.dst v = tm') :
    Behind P f r df k cs ops rest tm' (G ((B f r).at (Act.put ⟨tm.toArray, df⟩ ((ops.toArray[pre.length]?).bind (·.dst)) v) (.inRegion ops.toArray (List.range' (pre.length + 1) rest.length) :: k)) cs) := by
  intro md' Φ' Stop' h' x y
  have := x (pre ++ [o]) (by simp [e]) h' y
  rw [rl_at e]
  have e2 : (B f r).at (Act.put ⟨tm.toArray, df⟩ ((some o).bind (·.dst)) v) (.inRegion ops.toArray (List.range' (pre.length + 1) rest.length) :: k) = FL f r tm' df (.inRegion ops.toArray (List.range' (pre.length + 1) rest.length) :: k) := by
    subst ht
    rw [F_at hr]
    cases hd : o.dst with
    | none => simp [Act.put, putl, hd]
    | some d => simp [Act.put, putl, hd]
  rw [e2]
  simpa using this

theorem wpS_op_call {tm : List Value} {x : Operand} {g : FuncId} {vs : List Value} {h : Heap} {K : Next → Heap → Prop} (hx : evl tm x = .func (.func g) #[] #[]) (hvs : args.map (evl tm) = vs) (hg : callable P g = true) (y : K (.enter g vs.toArray) h) :
    wpS P (execOp (evl tm) ⟨some dd, .call ⟨.value x, args.toArray, ats⟩, ty, pos, aft, gd⟩) h K := by
  have := wpS_call (P := P) (tm := tm) (h := h) (args := args) (ats := ats) (d := some dd) (ty := ty) (pos := pos) (aft := aft) (gd := gd) (x := x) (g := g) (first := []) (cap := []) (vs := vs) (by simpa using hx) (by simpa using hvs) hg
  refine wpS_mono this ?_
  rintro n h' ⟨e1, e2⟩
  subst e1; subst e2
  simpa using y

set_option maxRecDepth 100000 in
/-- A call of 'Add(1)' is entered. -/
theorem rl_add [Stb Φ] (H : WgLib P L) (hm : Met ops tm ⟨some dd, .call ⟨.value (.func L.add), args.toArray, ats⟩, ty, pos, aft, gd⟩ true) (hvs : args.map (evl tm) = [.pointer (some ⟨Wg, 0, none⟩), .int .i64 1]) (hr : r.round = none)
    (hc : callable P L.add = true) (ht : tm.set dd (.tuple #[]) = tm')
    (x : ∀ ge gb, (∀ w, WgLive L.tWg Wg w → ∃ m, Goes P true (RLv L.tWg Wg) DC0 (AtKdS P L.tWg Wg gb) m ge w) → Behind P f r df k cs ops rest tm' gb → ∀ h, Φ h → Reach P md ge h Stop) :
    RL P md f r df k cs Stop ops (⟨some dd, .call ⟨.value (.func L.add), args.toArray, ats⟩, ty, pos, aft, gd⟩ :: rest) tm Φ := by
  intro pre e
  rw [rl_next]
  refine rs_op (rl_at e) (wanted_of_met hm) B_kind (.inr rfl) fun h y => ?_
  rw [ev_toArray]
  refine wpS_op_call rfl hvs hc ?_
  refine x _ _ (fun w hw => ?_) (behind_at e hr (by exact ht)) h y
  have hway := add_way (cs := cs) (b₀ := B f r) (a₀ := ⟨tm.toArray, df⟩) (ops₀ := ops.toArray) (i₀ := pre.length) (rest₀ := List.range' (pre.length + 1) rest.length) (k₀ := k) H w hw
  have e2 : (F (B f r) tm.toArray df (.inRegion ops.toArray (pre.length :: List.range' (pre.length + 1) rest.length) :: k)) = (B f r).at ⟨tm.toArray, df⟩ (.inRegion ops.toArray (pre.length :: List.range' (pre.length + 1) rest.length) :: k) := F_at hr
  have e1 : ([.pointer (some ⟨Wg, 0, none⟩), .int .i64 1] : List Value).toArray = #[.pointer (some ⟨Wg, 0, none⟩), .int .i64 1] := rfl
  rw [e2, e1, enter_add H]
  exact hway

set_option maxRecDepth 100000 in
/-- A call of 'Wait' is entered. -/
theorem rl_wait [Stb Φ] (H : WgLib P L) (hm : Met ops tm ⟨some dd, .call ⟨.value (.func L.wait), args.toArray, ats⟩, ty, pos, aft, gd⟩ true) (hvs : args.map (evl tm) = [.pointer (some ⟨Wg, 0, none⟩)]) (hr : r.round = none)
    (hc : callable P L.wait = true) (ht : tm.set dd (.tuple #[]) = tm')
    (x : ∀ ge gb (An : Goroutine → World → Prop), (∀ g w, An g w → g.status = .running) → (∀ g w, An g w → ∃ m, Goes P true (RLv L.tWg Wg) DC0 (AtW1 P L.tWg Wg gb An) m g w) → (∀ w, WgLive L.tWg Wg w → ∃ m, Goes P true (RLv L.tWg Wg) DC0 (AtKd P L.tWg Wg An) m ge w) →
      (∃ l, gb = G (FL f r tm' df (.inRegion ops.toArray l :: k)) cs ∧ l = List.range' (ops.length - rest.length) rest.length) → ∀ h, Φ h → Reach P md ge h Stop) :
    RL P md f r df k cs Stop ops (⟨some dd, .call ⟨.value (.func L.wait), args.toArray, ats⟩, ty, pos, aft, gd⟩ :: rest) tm Φ := by
  intro pre e
  rw [rl_next]
  refine rs_op (rl_at e) (wanted_of_met hm) B_kind (.inr rfl) fun h y => ?_
  rw [ev_toArray]
  refine wpS_op_call rfl hvs hc ?_
  have e2 : (F (B f r) tm.toArray df (.inRegion ops.toArray (pre.length :: List.range' (pre.length + 1) rest.length) :: k)) = (B f r).at ⟨tm.toArray, df⟩ (.inRegion ops.toArray (pre.length :: List.range' (pre.length + 1) rest.length) :: k) := F_at hr
  rw [e2]
  refine x _ (G ((B f r).at (Act.put ⟨tm.toArray, df⟩ ((ops.toArray[pre.length]?).bind (·.dst)) (.tuple #[])) (.inRegion ops.toArray (List.range' (pre.length + 1) rest.length) :: k)) cs) (AnchX L Wg ((B f r).at ⟨tm.toArray, df⟩ (.inRegion ops.toArray (pre.length :: List.range' (pre.length + 1) rest.length) :: k)) cs)
    (fun g w ⟨T, hg, _⟩ => by rw [hg]; rfl) (fun g w hA => wait_round H g w hA) (fun w hw => ?_) ⟨_, ?_, rfl⟩ h y
  · have hway := wait_start (cs := cs) (b₀ := B f r) (a₀ := ⟨tm.toArray, df⟩) (ops₀ := ops.toArray) (i₀ := pre.length) (rest₀ := List.range' (pre.length + 1) rest.length) (k₀ := k) H w hw
    have e1 : ([.pointer (some ⟨Wg, 0, none⟩)] : List Value).toArray = #[.pointer (some ⟨Wg, 0, none⟩)] := rfl
    rw [e1, enter_wait H]
    exact hway
  · rw [rl_at e]
    have hl : ops.length - rest.length = pre.length + 1 := by rw [e]; simp; omega
    rw [hl]
    subst ht
    rw [F_at hr]
    simp [Act.put]

/-- A go statement. -/
theorem rl_go [Stb Φ] {x : Operand} {g : FuncId} {first cap vs : List Value} (hm : Met ops tm ⟨none, .go ⟨.value x, args.toArray, ats⟩, ty, pos, aft, gd⟩ true) (hx : evl tm x = .func (.func g) first.toArray cap.toArray) (hvs : args.map (evl tm) = vs) (hr : r.round = none)
    (n : ∀ ga gn, ga.status = .running → (∀ w, stepG P true ga w = .spawn gn (born P { target := .fn (.func g) cap.toArray, args := (first ++ vs).toArray }) w #[]) → Behind P f r df k cs ops rest tm gn → ∀ h, Φ h → Reach P md ga h Stop) :
    RL P md f r df k cs Stop ops (⟨none, .go ⟨.value x, args.toArray, ats⟩, ty, pos, aft, gd⟩ :: rest) tm Φ := by
  intro pre e h y
  rw [rl_next]
  have hb := behind_at (P := P) (f := f) (df := df) (k := k) (cs := cs) (tm := tm) (tm' := tm) e hr (v := undef) rfl
  have hev : Act.eval ⟨tm.toArray, df⟩ = evl tm := by
    funext z
    rw [← ev_toArray]
    cases z <;> rfl
  rw [F_at hr]
  refine n _ _ rfl (fun w => ?_) hb h y
  have hw := wanted_of_met hm
  have hop : (execOp (Act.eval ⟨tm.toArray, df⟩) ⟨none, .go ⟨.value x, args.toArray, ats⟩, ty, pos, aft, gd⟩).run P w = .ok (.spawn { target := .fn (.func g) cap.toArray, args := (first ++ vs).toArray }) w := by
    rw [hev]
    unfold execOp
    simp [resolve, Deferred.ofValue, hx, hvs]
  rw [stepG_spawn (f := .func g) (c := cap.toArray) (rl_at e) (by exact hw) B_kind hop rfl]
  have hl : listed P (B f r).fn ⟨tm.toArray, df⟩ ⟨none, .go ⟨.value x, args.toArray, ats⟩, ty, pos, aft, gd⟩ w = #[] := by
    unfold listed
    rw [hev]
    have : (execOp (evl tm) ⟨none, .go ⟨.value x, args.toArray, ats⟩, ty, pos, aft, gd⟩).events P w #[] = #[] := by
      unfold execOp
      simp [resolve, Deferred.ofValue, hx, hvs]
    rw [this, seen_none]
  rw [hl, rl_at e]
  rfl
end
end Go.X
namespace Go.X
open Go.Conc Go.Conc.Lib Go.ConcR.Gen
open Go.ConcR (DC0)
open Go.ConcN (WgLive)

section
variable {P : Program} {f : FuncId} {Stop : Goroutine → Heap → Prop} {Φ : Heap → Prop} {L : WgLink} {Wg : Nat} {tm : Array Value} {td : List Item}

/-- The started function's own way out: it only leaves. -/
theorem quits_tail {fn : Func} (hf : P.funcs[f]? = some fn) (hr : fn.results = #[]) : QuitsD P 2 0 (G (FR (B f .dfd) tm [] td) [botF P]) := by
  refine QuitsD.ctl (g' := G (botF P) []) rfl (fun w => ?_) ?_
  · simp [G, stepG, unwind, doReturn, results, FR, B, Rd.kind, Rd.round, botF, hf, hr, seen, GStep.after, goexitEntry]
  refine QuitsD.ctl (g' := { G (botF P) [] with status := .finished }) rfl (fun w => ?_) ⟨rfl, rfl⟩
  simp [G, stepG, unwind, botF, goexitEntry, Frame.catches]
  rfl

theorem rs_done [Stb Φ] (H : WgLib P L) {fn : Func} (hf : P.funcs[f]? = some fn) (hr : fn.results = #[])
    (x : ∀ ge, (∀ w, WgLive L.tWg Wg w → ∃ m, Goes P false (RLv L.tWg Wg) DC0 (AtR0 P L.tWg Wg) m ge w) → ∀ h, Φ h → Reach P (.own false) ge h Stop) :
    RS P (.own false) (G (FR (B f .dfd) tm [dcall L.done #[.pointer (some ⟨Wg, 0, none⟩)]] td) [botF P]) Φ Stop := by
  refine rs_go (g' := G ((baseD L.done).at { tmps := #[.pointer (some ⟨Wg, 0, none⟩)] ++ Array.replicate ((doneFn L).ntmps - (#[.pointer (some ⟨Wg, 0, none⟩)] : Array Value).size) undef, defers := [] } [.code (body_done L)]) (FR (B f .dfd) tm [] td :: [botF P])) rfl (fun w => ?_) ?_
  · exact stepG_unwind_enter (b := B f .dfd) (a := ⟨tm, [dcall L.done #[.pointer (some ⟨Wg, 0, none⟩)]]⟩) (ds := []) (todo := td) rfl H.f_done (nm_done L) rfl
  · exact fun h y => x _ (fun w hw => ⟨43, done_way H rfl (quits_tail hf hr) w hw⟩) h y
end
end Go.X
namespace Go.X
open Go.Conc

def Hp (h : Heap) : PHeap := fun b => h[b]?
theorem Hp_per (h : Heap) : Per (Hp h) h := fun _ _ e => e
theorem Hp_keep {h h' : Heap} (k : Keep h h') : PLe (Hp h) (Hp h') := fun b o e => by
  unfold Hp at e ⊢
  rw [k.keep b (Array.getElem?_eq_some_iff.1 e).1]; exact e
/-- In 'h' block 'b' has these cells. -/
def HC (h : Heap) (b : Nat) (c : Array Value) (e : TypeId) : Prop := ∃ z, h[b]? = some (.cells c e z)
theorem HC.keep {h h' : Heap} {b : Nat} {c : Array Value} {e : TypeId} (x : HC h b c e) (k : Keep h h') : HC h' b c e := by
  obtain ⟨z, hz⟩ := x
  exact ⟨z, (k.keep b (Array.getElem?_eq_some_iff.1 hz).1).trans hz⟩
theorem HC.cut {h : Heap} {b : Nat} {c : Array Value} {e : TypeId} {A K : List Nat} (x : HC h b c e) (h1 : b ∉ A) : HC (cutV A K h) b c e := by
  obtain ⟨z, hz⟩ := x
  by_cases h2 : b ∈ K
  · exact ⟨z, by rw [cutV_get, hz]; simp [h1, h2]⟩
  · exact ⟨(0, c.size), by rw [cutV_get, hz]; simp [h1, h2, frzO]⟩
theorem kept_cut {h : Heap} {b : Nat} {o : Obj} {A K : List Nat} (hz : h[b]? = some o) (h1 : b ∉ A) (h2 : b ∈ K) : (cutV A K h)[b]? = some o := by rw [cutV_get, hz]; simp [h1, h2]
theorem Exc.of {h : Heap} {b : Nat} {c : Array Value} {e : TypeId} (hb : h[b]? = some (.cells c e (0, 0))) (hc : 0 < c.size) : Exc h b := ⟨c, e, hb, hc⟩

theorem add_blk (a : Addr) (n : Nat) : (a.add n).block = a.block := by unfold Addr.add; split <;> rfl
theorem pcell_cut {h : Heap} {p : PHeap} {A K : List Nat} {a : Addr} {v : Value} (hp : ∀ b o, p b = some o → h[b]? = some o) (hA : a.block ∉ A) (x : pcell p a = some v) : pcell (Hp (cutV A K h)) a = some v := by
  unfold pcell at x
  split at x
  · rename_i c t z hb
    obtain ⟨z', hz'⟩ := HC.cut (A := A) (K := K) ⟨z, hp _ _ hb⟩ hA
    unfold pcell Hp
    rw [hz']; exact x
  · cases x
theorem sl_cut {h : Heap} {p : PHeap} {A K : List Nat} {a : Option Addr} {n w : Nat} {es : List (List Value)} (s : Sl p a n w es) (hp : ∀ b o, p b = some o → h[b]? = some o) (hA : 0 < n → (adr a).block ∉ A) : Sl (Hp (cutV A K h)) a n w es :=
  ⟨s.len, s.wid, s.ne, fun i e hi j v hj => by
    have hn : 0 < n := by have := (List.getElem?_eq_some_iff.1 hi).1; have := s.len; omega
    refine pcell_cut hp ?_ (s.get i e hi j v hj)
    rw [add_blk, add_blk]; exact hA hn⟩
/-- Memory that lasts is not the call's own. -/
theorem sl_ne_of {p : PHeap} {a : Option Addr} {n w : Nat} {es : List (List Value)} (s : Sl p a n w es) (hw : 0 < w) {b : Nat} (hb : p b = none) (hn : 0 < n) : (adr a).block ≠ b := by
  intro e
  have h0 : 0 < es.length := by have := s.len; omega
  have hl := s.wid es[0] (List.getElem_mem h0)
  have := s.get 0 es[0] (List.getElem?_eq_getElem h0) 0 (es[0][0]'(by omega)) (List.getElem?_eq_getElem (by omega))
  unfold pcell at this
  rw [add_blk, add_blk, e, hb] at this
  cases this
theorem not_mem1 {a b : Nat} (h : a ≠ b) : a ∉ [b] := by simpa using h
end Go.X
namespace Go.X
open Go.Conc Go.RowKit

/-- It stands at its last return. -/
def AtFin (P : Program) (v : Value) (g : Goroutine) : Prop := g.status = .running ∧ ∀ w : World, stepG P true g w = .ended (.done v) w #[]
def StopE (P : Program) (R : Value → Heap → Prop) (g : Goroutine) (h : Heap) : Prop := ∃ v, AtFin P v g ∧ R v h
/-- The contract of the function that is called first. -/
def EntersX (P : Program) (md : Md) (f : FuncId) (args : Array Value) (h : Heap) (R : Value → Heap → Prop) : Prop := Reach P md (G (Frame.enter P f args .normal) []) h (StopE P R)

section
variable {P : Program} {md : Md} {f : FuncId} {h : Heap} {Φ : Heap → Prop} {tm : List Value} {k : List Item} {R : Value → Heap → Prop}

theorem fin_of {fn : Func} {t : Nat} {v : Value} {td : List Item} (hi : P.inits.idxOf? f = none) (hf : P.funcs[f]? = some fn) (hr : fn.results = #[.tmp t]) (hv : tm.getD t undef = v) : AtFin P v (G (FR (B f .none) tm.toArray [] td) []) := by
  refine ⟨rfl, fun w => ?_⟩
  have e : (results fn tm.toArray).runT P w #[] = (.ok v w, #[]) := by
    unfold results
    simp [hr, ← hv]
  have es : seen P (B f .none).fn #[] = #[] := by simp [seen]
  simp only [G, stepG, unwind, FR, show P.funcs[(B f .none).fn]? = some fn from hf, e, doReturn, GStep.after, es, show P.inits.idxOf? (B f .none).fn = none from hi]
  rfl

theorem enters_intro {fn : Func} {c : Code} {args : Array Value} (hf : P.funcs[f]? = some fn) (hb : fn.body = some c) (ht : args.toList ++ List.replicate (fn.ntmps - args.size) undef = tm)
    (x : (∀ v h', R v h' → R v h') → RS P md (G (FL f .none tm [] [.code c]) []) Φ (StopE P R)) (h0 : Φ h) : EntersX P md f args h R := by
  have := x (fun _ _ y => y) h h0
  have e : Frame.enter P f args .normal = FL f .none tm [] [.code c] := by
    unfold Frame.enter
    simp only [hf, hb, Option.map_some, Option.bind_some, Option.getD_some, FL, F, B, ← ht]
    simp [Rd.kind, Rd.round]
  unfold EntersX
  rw [e]; exact this

theorem fl_retE [Stb Φ] {fn : Func} {t : Nat} {vs : List Value} {v : Value} (hi : P.inits.idxOf? f = none) (hf : P.funcs[f]? = some fn) (hr : fn.results = #[.tmp t]) (e : ∀ h, Φ h → Res P h tm [.tmp t] vs) (hv : packs vs = v)
    (x : ∀ h, Φ h → R v h) : RS P md (G (FL f .none tm [] (.code .ret :: k)) []) Φ (StopE P R) :=
  rs_ret (hro := rfl) fun _ => fun h y => reach_stop (by
    obtain ⟨v', vs', rfl, h1, h2⟩ := e h y
    obtain rfl : vs' = [] := h2
    subst hv
    exact ⟨_, fin_of hi hf hr h1, x h y⟩)
end

/-! ### the run -/
def nilO : Obj → Obj
  | .cells c e f => if c.size = 0 then .cells #[] 0 (0, 0) else .cells c e f
  | o => o
/-- The heap as the call sees it: blocks without cells are dead. -/
def nilV (r : Heap) : Heap := r.map nilO
def Empty (r : Heap) (b : Nat) : Prop := ∃ e f, r[b]? = some (.cells #[] e f)
theorem nilV_get {r : Heap} {b : Nat} : (nilV r)[b]? = (r[b]?).map nilO := by simp [nilV]
theorem nilV_size {r : Heap} : (nilV r).size = r.size := by simp [nilV]
theorem nilV_old {r : Heap} {b : Nat} (h : ¬ Empty r b) : (nilV r)[b]? = r[b]? := by
  rw [nilV_get]
  cases e : r[b]? with
  | none => rfl
  | some o =>
    cases o with
    | cells c t f =>
      have hc : c.size ≠ 0 := fun hz => h ⟨t, f, by rw [e, Array.eq_empty_of_size_eq_zero hz]⟩
      simp [nilO, hc]
    | _ => rfl
theorem nilV_veil (r : Heap) : Veil (.of (Empty r)) (nilV r) r := by
  refine ⟨nilV_size, fun b hd _ => nilV_old hd, fun b hd => ?_, fun b hs => hs.elim⟩
  obtain ⟨e, f, he⟩ := hd
  rw [nilV_get, he]
  simp [nilO]

theorem past_new (Sh : Loc → Prop) (B : Nat) : Past Sh B #[] :=
  ⟨fun said => by rintro ⟨i, j, _, ⟨a, b, ha, _⟩, _⟩; simp [Trace.act?] at ha, fun i a ha => by simp [touchAt, Trace.act?] at ha, fun i g hg => by simp [Trace.g?] at hg, rfl, by simp⟩

section
variable {P : Program} {f : FuncId} {args : Array Value} {w : World} {R : Value → Heap → Prop}
theorem good_of_enters (x : EntersX P (.main true) f args (nilV w.heap) R) (hR : ∀ v h', R v h' → Keep (nilV w.heap) h') :
    ∃ N last o w' t', runNT P (N + 1) (solo (G (Frame.enter P f args .normal) []) w) #[] = (.ended o w', t') ∧ runN P N (solo (G (Frame.enter P f args .normal) []) w) = .next last ∧ step P last = .ended o w' ∧
      Go.Conc.Good P (fun v w' => Below w.heap.size w w' ∧ ∃ h', R v h') last o w' t' := by
  have sc : Scene P (Empty w.heap) #[G (Frame.enter P f args .normal) []] w #[] (fun _ => 0) (G (Frame.enter P f args .normal) []) (nilV w.heap) := ⟨rfl, leavers_one P _, past_new _ _, nilV_veil _⟩
  obtain ⟨N, S', gs', w1, sl', t', q', g', h', hrun, sc', ⟨v, hfin, hv⟩, hq, _, hS⟩ := x _ _ w none _ _ sc
  have post : ∀ w₁, AtRel w1 w₁ → Below w.heap.size w w₁ := by
    rintro _ ⟨d, rfl⟩
    refine ⟨hq.calm.os, hq.calm.tape, hq.calm.output, hq.calm.size, fun k hk => ?_⟩
    show w1.heap[k]? = w.heap[k]?
    by_cases he : Empty w.heap k
    · exact hq.stand k hk (.inl he)
    · have h1 := (hR v h' hv).keep k (by rw [nilV_size]; exact hk)
      have h2 : ¬ S' k := fun hs => by
        have h3 := sc'.veil.shun k hs
        rw [h1, nilV_old he] at h3
        exact he ⟨_, _, h3⟩
      exact (sc'.veil.same k h2 (fun y => y)).symm.trans (h1.trans (nilV_old he))
  obtain ⟨N2, last, o, w2, t2, h1, h2, h3, h4⟩ := beside_ends (P := P) (Shun := ShunOf S') (B := w1.heap.size) (D := fun _ _ _ => False) (Post := fun v w' => Below w.heap.size w w' ∧ ∃ h', R v h') (n := 0) (fun _ _ _ y => y.elim) (sl := sl') sc'.main sc'.leav sc'.past
    (fun w₁ hr => ⟨hfin.1, v, #[], hfin.2 w₁, by simp, post w₁ hr, h', hv⟩)
  refine ⟨N + N2, last, o, w2, t2, ?_, ?_, h3, h4⟩
  · rw [Nat.add_assoc, runNT_add, solo_eq_crowd, hrun]; exact h1
  · rw [runN_add, ← runNT_fst P N _ #[], solo_eq_crowd, hrun]; exact h2
end
end Go.X
namespace Go.X
open Go.Conc Go.RowKit Go.ChangeShapes Go.WideShapes Go.ChangeAt

/-- Memory as the call finds it. -/
def vwP (W : World) : PHeap := fun b => (nilV W.heap)[b]?
theorem vwP_per (W : World) : Per (vwP W) (nilV W.heap) := fun _ _ e => e
theorem pcell_of {W : World} {a : Addr} {v : Value} (h : W.cell? a = some v) : pcell (vwP W) a = some v := by
  unfold World.cell? at h
  unfold pcell vwP
  cases e : W.heap[a.block]? with
  | none => rw [e] at h; cases h
  | some o =>
    rw [e] at h
    cases o with
    | cells c t f =>
      have hne : ¬ Empty W.heap a.block := by
        rintro ⟨t', f', h'⟩
        rw [e] at h'
        obtain ⟨rfl, rfl, rfl⟩ : c = #[] ∧ t = t' ∧ f = f' := by simpa using h'
        revert h; simp
      rw [nilV_old hne, e]
      exact h
    | _ => cases h

theorem mapM_get {f : Nat → Option Value} : ∀ {l : List Nat} {r : List Value}, l.mapM f = some r → r.length = l.length ∧ ∀ (j : Nat) (x : Value), r[j]? = some x → ∃ i, l[j]? = some i ∧ f i = some x
  | [], r, h => by simp at h; subst h; simp
  | i :: l, r, h => by
    simp only [List.mapM_cons, Option.bind_eq_bind, Option.bind_eq_some_iff] at h
    obtain ⟨y, hy, ys, hys, e⟩ := h
    obtain rfl : y :: ys = r := by simpa using e
    obtain ⟨h1, h2⟩ := mapM_get hys
    refine ⟨by simp [h1], fun j x hx => ?_⟩
    cases j with
    | zero => simp at hx; subst hx; exact ⟨i, rfl, hy⟩
    | succ j => exact h2 j x (by simpa using hx)

theorem cells_get {W : World} {a : Addr} {n : Nat} {cs : List Value} (h : W.cells? 0 a n = some cs) : cs.length = n ∧ ∀ (j : Nat) (x : Value), cs[j]? = some x → W.cell? (a.add j) = some x := by
  unfold World.cells? at h
  rw [if_pos (Nat.zero_le _)] at h
  obtain ⟨h1, h2⟩ := mapM_get h
  refine ⟨by simpa using h1, fun j x hx => ?_⟩
  obtain ⟨i, hi, hf⟩ := h2 j x hx
  obtain ⟨_, rfl⟩ : j < n ∧ j = i := by simpa [List.getElem?_range'] using List.getElem?_eq_some_iff.1 hi
  exact hf

theorem sl_of {W : World} {a : Addr} {n w : Nat} {E : Nat → List Value} (h : ∀ i, i < n → W.cells? 0 (a.add (i * w)) w = some (E i)) : Sl (vwP W) (some a) n w ((List.range n).map E) := by
  refine ⟨by simp, fun e he => ?_, fun _ => rfl, fun i e he j x hx => ?_⟩
  · obtain ⟨i, hi, rfl⟩ := List.mem_map.1 he
    exact (cells_get (h i (List.mem_range.1 hi))).1
  · rw [List.getElem?_map] at he
    obtain ⟨i', hi', rfl⟩ := Option.map_eq_some_iff.1 he
    obtain ⟨hlt, rfl⟩ : i < n ∧ i = i' := by simpa using List.getElem?_eq_some_iff.1 hi'
    exact pcell_of ((cells_get (h i hlt)).2 j x hx)
theorem sl_nil (p : PHeap) (w : Nat) : Sl p none 0 w [] := ⟨rfl, by simp, fun h => absurd h (by omega), fun i e he => by simp at he⟩

section
variable {H : Type} {enc : TypeId × Value → H} {P : Program} {W : World}
/-- A slice that came in, whatever its elements are. -/
theorem open_sl {fuel : Nat} {t e w : TypeId} {v : Value} {y : DataW H × List MemPlace} {Q : List Value → Prop} (ht : P.underlying t = some (.slice e)) (hw : P.cellsOf e = w)
    (hQ : ∀ m cs y, DataW.trod enc P W 0 (fun _ => true) true m e cs = some y → Q cs) (h : DataW.trod enc P W 0 (fun _ => true) true fuel t [v] = some y) :
    ∃ a n c E, v = .slice a n c ∧ (∀ i, i < n → Q (E i)) ∧ Sl (vwP W) a n w ((List.range n).map E) := by
  rcases Go.Deep.open_slice ht h with ⟨e1, _⟩ | ⟨a, len, cap, m, k, D, Pl, e1, _, hl, _, hm, _, hall⟩
  · obtain rfl : v = .slice none 0 0 := by simpa using e1
    exact ⟨none, 0, 0, fun _ => [], rfl, fun i hi => absurd hi (by omega), sl_nil _ _⟩
  · obtain rfl : v = .slice (some a) len cap := by simpa using e1
    simp only [if_true] at hm
    subst hw
    obtain ⟨E, hE⟩ := Go.Deep.choose_lt (n := len) (p := fun i cs => W.cells? 0 (a.add (i * P.cellsOf e)) (P.cellsOf e) = some cs ∧ Q cs) fun i hi => by
      obtain ⟨cs, h1, h2⟩ := hall i (by omega)
      exact ⟨cs, h1, hQ _ _ _ h2⟩
    exact ⟨_, _, _, E, rfl, fun i hi => (hE i hi).2, sl_of fun i hi => (hE i hi).1⟩
theorem trod_i64 {t : TypeId} {m : Nat} {cs : List Value} {y : DataW H × List MemPlace} (ht : P.underlying t = some (.int .i64)) (h : DataW.trod enc P W 0 (fun _ => true) true m t cs = some y) : ∃ n : Int, cs = [.int .i64 n] := by
  obtain ⟨n, e, _, _⟩ := DataW.trod_int ht h
  exact ⟨n, e⟩
theorem trodAll_below (hl : laidOutB P = true) {W' : World} (hB : Below W.heap.size W W') : ∀ {ts : List TypeId} {vs : List Value} {ds : List (DataW H)} {ps : List MemPlace}, (∀ t ∈ ts, P.readableRec t = true ∧ t < P.types.size) → (∀ x ∈ ps, x.block < W.heap.size) →
    DataW.TrodAll enc P W 0 (fun _ => true) true ts vs ds ps → DataW.TrodAll enc P W' 0 (fun b => decide (b < W.heap.size)) true ts vs ds ps
  | [], [], [], _, _, _, h => h
  | _ :: _, [], _, _, _, _, h => by cases h
  | [], _ :: _, _, _, _, _, h => by cases h
  | [], [], _ :: _, _, _, _, h => by cases h
  | _ :: _, _ :: _, [], _, _, _, h => by cases h
  | t :: ts, v :: vs, d :: ds, ps, hr, hlt, ⟨p, q, h1, h2, e⟩ => by
    subst e
    exact ⟨p, q, Below.trod hl (hr t (by simp)).1 (hr t (by simp)).2 h1 hB (fun x hx => hlt x (by simp [hx])), trodAll_below hl hB (fun t' ht' => hr t' (by simp [ht'])) (fun x hx => hlt x (by simp [hx])) h2, rfl⟩

/-- A law's row: it returned true, and all old memory stands. -/
theorem law_post {fn : Func} {s : ChangeSpec} {W' : World} {args : Array Value} {ds gs : List (DataW H)} {before : List MemPlace} {fresh handsOn : Bool} {tb : TypeId} (hl : laidOutB P = true) (hvars : s.vars = [])
    (hts : ∀ t ∈ fn.params.toList, P.readableRec t = true ∧ t < P.types.size) (hrt : fn.resultTypes = #[tb]) (hub : P.underlying tb = some .bool) (hW : DataW.Whole enc P fn.params.toList s.vars false W args.toList ds gs before)
    (hs : s.fn H (ds ++ gs) = { results := [.lit (.bool true)], args := ds }) (hB : Below W.heap.size W W') : s.post enc P fn false fresh handsOn false W args (.bool true) W' := by
  have hW' := hW
  obtain ⟨p, q, hA, hV, rfl, _, _⟩ := hW
  rw [hvars] at hV
  obtain rfl : q = [] := by
    cases gs with
    | nil => exact hV
    | cons _ _ => exact hV.elim
  refine ⟨ds, gs, p ++ [], [], p, [], hW', ?_, ?_, ?_, hB.frame _, fun h => by cases h⟩
  · rw [hs, hrt]
    exact ⟨[], [], ⟨1, by simp [DataW.trod, hub, Value.cells]⟩, rfl, rfl⟩
  · rw [hs]
    exact trodAll_below hl hB hts (fun x hx => hW'.lt x (by simp [hx])) hA
  · rw [hs, hvars]; rfl
end
end Go.X
