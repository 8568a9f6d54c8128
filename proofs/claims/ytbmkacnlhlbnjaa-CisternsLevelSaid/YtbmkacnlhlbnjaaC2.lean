/-
  Part of proofs about cisterns, beside goroutines that are only leaving. No condition.
-/
import Derived.Test.YtbmkacnlhlbnjaaC1
import Derived.IntWalk
import Derived.Orders
namespace Go.X
open Go.Conc

def F (b : Frame) (tm : Array Value) (df : List Deferred) (k : List Item) : Frame := { b with tmps := tm, defers := df, todo := k, mode := .run }
def FR (b : Frame) (tm : Array Value) (df : List Deferred) (k : List Item) : Frame := { b with tmps := tm, defers := df, todo := k, mode := .returning }

def ev (tm : Array Value) : Operand → Value
  | .tmp t => tm.getD t undef
  | .const v => v
  | .global g => .pointer (some ⟨g, 0, none⟩)
  | .func f => .func (.func f) #[] #[]

def put (tm : Array Value) (dst : Option Tmp) (v : Value) : Array Value :=
  match dst with
  | some d => tm.setIfInBounds d v
  | none => tm

/-- What is said of the heap abides what the others lay. -/
class Stb (Φ : Heap → Prop) : Prop where
  stb : ∀ h h', Φ h → Keep h h' → Φ h'

/-- From wherever 'Φ' holds of the heap. -/
def RS (P : Program) (md : Md) (g : Goroutine) (Φ : Heap → Prop) (Stop : Goroutine → Heap → Prop) : Prop := ∀ h, Φ h → Reach P md g h Stop

instance {α : Type} {Φ : α → Heap → Prop} [s : ∀ x, Stb (Φ x)] : Stb (fun h => ∃ x, Φ x h) := ⟨fun h h' ⟨x, y⟩ k => ⟨x, (s x).stb h h' y k⟩⟩
instance {c : Prop} {Φ : Heap → Prop} [s : Stb Φ] : Stb (fun h => c ∧ Φ h) := ⟨fun h h' ⟨x, y⟩ k => ⟨x, s.stb h h' y k⟩⟩
theorem rs_ex {α : Type} {P : Program} {md : Md} {g : Goroutine} {Ψ : α → Heap → Prop} {Stop : Goroutine → Heap → Prop} (n : ∀ x, RS P md g (Ψ x) Stop) : RS P md g (fun h => ∃ x, Ψ x h) Stop := fun h ⟨x, y⟩ => n x h y
theorem rs_and {c : Prop} {P : Program} {md : Md} {g : Goroutine} {Φ : Heap → Prop} {Stop : Goroutine → Heap → Prop} (n : c → RS P md g Φ Stop) : RS P md g (fun h => c ∧ Φ h) Stop := fun h ⟨x, y⟩ => n x h y

section
variable {P : Program} {md : Md} {b : Frame} {tm : Array Value} {df : List Deferred} {k : List Item} {cs : List Frame} {h : Heap} {Φ : Heap → Prop} {Stop : Goroutine → Heap → Prop}

theorem eval_F : (F b tm df k).eval = ev tm := by funext x; cases x <;> rfl

theorem evL_seen {S : Vw} {fn : FuncId} {B : Nat} {es : Array Event} (x : ∀ e ∈ es, EvX S B e) : ∀ e ∈ seen P fn es, EvX S B e := by
  unfold seen
  refine Array.foldl_induction (motive := fun _ (s : Bool × Array Event) => ∀ e ∈ s.2, EvX S B e) (by simp) ?_
  rintro i ⟨q, kept⟩ hs
  simp only at hs ⊢
  split
  · exact hs
  · simp only
    split
    · exact hs
    · intro e he
      rcases Array.mem_push.1 he with he | rfl
      · exact hs e he
      · exact x _ (Array.getElem_mem _)

/-- A step of control: nothing is touched. -/
theorem rs_go [hs : Stb Φ] {g g' : Goroutine} (hr : g.status = .running) (he : ∀ w, stepG P md.isMain g w = .go g' w #[]) (x : RS P md g' Φ Stop) : RS P md g Φ Stop :=
  fun h y => reach_step ⟨hr, fun h₁ k₁ S w V => ⟨g', h₁, w, #[], he w, x h₁ (hs.stb _ _ y k₁), V, .refl _, by simp⟩⟩

section
variable [Stb Φ]
theorem rs_seq {x y : Code} (r : RS P md (G (F b tm df (.code x :: .code y :: k)) cs) Φ Stop) : RS P md (G (F b tm df (.code (.seq x y) :: k)) cs) Φ Stop :=
  rs_go rfl (fun w => by simp [G, stepG, stepG.exec, F]) r
theorem rs_skip (r : RS P md (G (F b tm df k) cs) Φ Stop) : RS P md (G (F b tm df (.code .skip :: k)) cs) Φ Stop :=
  rs_go rfl (fun w => by simp [G, stepG, stepG.exec, F]) r
theorem rs_inBlock {id : Nat} (r : RS P md (G (F b tm df k) cs) Φ Stop) : RS P md (G (F b tm df (.inBlock id :: k)) cs) Φ Stop :=
  rs_go rfl (fun w => by simp [G, stepG, stepG.exec, F]) r
theorem rs_block {id : Nat} {c : Code} (r : RS P md (G (F b tm df (.code c :: .inBlock id :: k)) cs) Φ Stop) : RS P md (G (F b tm df (.code (.block id c) :: k)) cs) Φ Stop :=
  rs_go rfl (fun w => by simp [G, stepG, stepG.exec, F]) r
theorem rs_loop {c : Code} (r : RS P md (G (F b tm df (.code c :: .inLoop c :: k)) cs) Φ Stop) : RS P md (G (F b tm df (.code (.loop c) :: k)) cs) Φ Stop :=
  rs_go rfl (fun w => by simp [G, stepG, stepG.exec, F]) r
theorem rs_inLoop {c : Code} (r : RS P md (G (F b tm df (.code c :: .inLoop c :: k)) cs) Φ Stop) : RS P md (G (F b tm df (.inLoop c :: k)) cs) Φ Stop :=
  rs_go rfl (fun w => by simp [G, stepG, stepG.exec, F]) r
theorem rs_exit {id : Nat} {k' : List Item} (hk : exitTo id k = some k') (r : RS P md (G (F b tm df k') cs) Φ Stop) : RS P md (G (F b tm df (.code (.exit id) :: k)) cs) Φ Stop :=
  rs_go rfl (fun w => by simp [G, stepG, stepG.exec, F, hk]) r
theorem rs_cond {c : Operand} {x y : Code} {t : Bool} (hc : ev tm c = .bool t) (r : RS P md (G (F b tm df (.code (if t then x else y) :: k)) cs) Φ Stop) :
    RS P md (G (F b tm df (.code (.cond c x y) :: k)) cs) Φ Stop :=
  rs_go rfl (fun w => by
    have h' : (F b tm df (.code (.cond c x y) :: k)).eval c = .bool t := by rw [eval_F]; exact hc
    simp only [F] at h'
    simp [G, stepG, stepG.exec, F, h']) r
theorem rs_region {id : Nat} {ops : Array Oper} (r : RS P md (G (F b tm df (.inRegion ops (List.range ops.size) :: k)) cs) Φ Stop) :
    RS P md (G (F b tm df (.code (.region id ops false) :: k)) cs) Φ Stop :=
  rs_go rfl (fun w => by simp [G, stepG, stepG.exec, F]) r
theorem rs_region_end {ops : Array Oper} (r : RS P md (G (F b tm df k) cs) Φ Stop) : RS P md (G (F b tm df (.inRegion ops [] :: k)) cs) Φ Stop :=
  rs_go rfl (fun w => by simp [G, stepG, stepG.exec, F]) r
theorem rs_drawn {id : Nat} {ops : Array Oper} (r : ∀ t, RS P md (G (F b tm df (.inRegion ops (Region.schedule (P.follows .mixedOrders) ops t) :: k)) cs) Φ Stop) :
    RS P md (G (F b tm df (.code (.region id ops true) :: k)) cs) Φ Stop :=
  fun h y => reach_step ⟨rfl, fun h₁ k₁ S w V => ⟨_, h₁, { w with drawn := w.drawn + 1 }, #[], by
    simp [G, stepG, stepG.exec, F, choose, Sem.run, Question.forced, Question.cut], r (w.tape w.drawn (.order b.fn id)) h₁ (Stb.stb _ _ y k₁), V, ⟨⟨rfl, rfl, rfl, Nat.le_refl _⟩, fun _ _ _ => rfl⟩, by simp⟩⟩
/-- An operation whose guard is not met is passed over. -/
theorem rs_pass {ops : Array Oper} {i : Nat} {rest : List Nat} {o : Oper} (ho : ops[i]? = some o) (hw : Region.wanted o (yielded ops tm) = false)
    (r : RS P md (G (F b (put tm o.dst undef) df (.inRegion ops rest :: k)) cs) Φ Stop) : RS P md (G (F b tm df (.inRegion ops (i :: rest) :: k)) cs) Φ Stop :=
  rs_go rfl (fun w => by
    simp only [G, stepG, stepG.exec, F, ho, Option.map_some, hw, Option.getD_some, Frame.finish, Option.bind_some, put]
    rfl) r

theorem finish_region {ops : Array Oper} {i : Nat} {rest : List Nat} {o : Oper} (ho : ops[i]? = some o) (v : Value) :
    (F b tm df (.inRegion ops (i :: rest) :: k)).finish v = F b (put tm o.dst v) df (.inRegion ops rest :: k) := by
  simp only [Frame.finish, F, ho, Option.bind_some, put]
  cases o.dst <;> rfl

/-- What an operation that has come to its end leads to. -/
def Upon (P : Program) (md : Md) (fr : Frame) (cs : List Frame) (Stop : Goroutine → Heap → Prop) : Next → Heap → Prop
  | .value v, h => Reach P md (G (fr.finish v) cs) h Stop
  | .skip, h => Reach P md (G (fr.finish undef) cs) h Stop
  | .enter f args, h => Reach P md (G (Frame.enter P f args .normal) (fr :: cs)) h Stop
  | .round l f tmps assign body, h => Reach P md (G (Frame.round l f tmps assign body .normal) (fr :: cs)) h Stop
  | _, _ => False

theorem rs_apply {fr : Frame} {s : Sem Next} (hk : fr.kind ≠ .early) (hnc : (match fr.todo with | .call _ true _ _ :: _ => false | _ => true) = true)
    (hs : ∀ w, stepG P md.isMain (G fr cs) w = stepG.apply P true fr cs none s w) (x : ∀ h, Φ h → wpS P s h (Upon P md fr cs Stop)) : RS P md (G fr cs) Φ Stop := by
  intro h y
  refine reach_step ⟨rfl, fun h₁ k₁ S w V => ?_⟩
  obtain ⟨n, h', w', es, e1, e2, e3, e4, e5, e6⟩ := wpS_run s #[] (x h₁ (Stb.stb _ _ y k₁)) V
  have hk' : (fr.kind == CallKind.early) = false := by simpa using hk
  rw [hs w]
  simp only [Array.empty_append] at e1
  cases n <;> first | exact e3.elim | skip
  all_goals
    refine ⟨_, h', w', seen P fr.fn es, ?_, e3, e4, e5, evL_seen e6⟩
    simp only [stepG.apply, if_true, e1, hk', Bool.false_eq_true, if_false, GStep.after, G, Array.append_empty]
    try
      split
      · rename_i he; rw [he] at hnc; simp at hnc
      · rfl

theorem rs_op {ops : Array Oper} {i : Nat} {rest : List Nat} {o : Oper} (ho : ops[i]? = some o) (hw : Region.wanted o (yielded ops tm) = true) (hk : b.kind ≠ .early)
    (hnd : b.roundOf = none ∨ (match o.op with | .defer _ => false | _ => true) = true)
    (x : ∀ h, Φ h → wpS P (execOp (ev tm) o) h (Upon P md (F b tm df (.inRegion ops (i :: rest) :: k)) cs Stop)) :
    RS P md (G (F b tm df (.inRegion ops (i :: rest) :: k)) cs) Φ Stop := by
  refine rs_apply hk rfl (fun w => ?_) x
  have he : Frame.eval (F b tm df (.inRegion ops (i :: rest) :: k)) = ev tm := eval_F
  simp only [F] at he
  simp only [G, stepG, stepG.exec, F, ho, Option.map_some, hw, Option.getD_some, if_true, stepG.oper, Frame.oper?, he]
  rcases hnd with hn | hn
  · rw [hn]
  · cases hrn : b.roundOf with
    | none => rfl
    | some l =>
      revert hn
      cases o.op <;> simp

/-- .. that yields a value. -/
theorem rs_val {ops : Array Oper} {i : Nat} {rest : List Nat} {o : Oper} (ho : ops[i]? = some o) (hw : Region.wanted o (yielded ops tm) = true) (hk : b.kind ≠ .early)
    (hnd : (match o.op with | .defer _ => false | _ => true) = true)
    (x : ∀ h, Φ h → wpS P (execOp (ev tm) o) h fun n h' => ∃ v, n = .value v ∧ Reach P md (G (F b (put tm o.dst v) df (.inRegion ops rest :: k)) cs) h' Stop) :
    RS P md (G (F b tm df (.inRegion ops (i :: rest) :: k)) cs) Φ Stop :=
  rs_op ho hw hk (.inr hnd) fun h y => wpS_mono (x h y) fun n h' ⟨v, e, r⟩ => by subst e; show Reach P md (G ((F b tm df _).finish v) cs) h' Stop; rw [finish_region ho]; exact r
theorem rs_unit {ops : Array Oper} {i : Nat} {rest : List Nat} {o : Oper} (ho : ops[i]? = some o) (hw : Region.wanted o (yielded ops tm) = true) (hk : b.kind ≠ .early)
    (hnd : (match o.op with | .defer _ => false | _ => true) = true)
    (x : ∀ h, Φ h → wpS P (execOp (ev tm) o) h fun n h' => n = .skip ∧ Reach P md (G (F b (put tm o.dst undef) df (.inRegion ops rest :: k)) cs) h' Stop) :
    RS P md (G (F b tm df (.inRegion ops (i :: rest) :: k)) cs) Φ Stop :=
  rs_op ho hw hk (.inr hnd) fun h y => wpS_mono (x h y) fun n h' ⟨e, r⟩ => by subst e; show Reach P md (G ((F b tm df _).finish undef) cs) h' Stop; rw [finish_region ho]; exact r

/-- A call: whoever calls 'f' with these arguments in heap 'h' gets back a value and a heap of which 'R' holds. -/
def CallsX (P : Program) (md : Md) (f : FuncId) (args : Array Value) (h : Heap) (R : Value → Heap → Prop) : Prop :=
  ∀ (c : Frame) (cs : List Frame) (Stop : Goroutine → Heap → Prop), (∀ v h', R v h' → Reach P md (G (c.finish v) cs) h' Stop) →
    Reach P md (G (Frame.enter P f args .normal) (c :: cs)) h Stop

theorem CallsX.mono {f : FuncId} {args : Array Value} {R R' : Value → Heap → Prop} (x : CallsX P md f args h R) (y : ∀ v h', R v h' → R' v h') : CallsX P md f args h R' :=
  fun c cs Stop z => x c cs Stop fun v h' r => z v h' (y v h' r)

theorem rs_call {ops : Array Oper} {i : Nat} {rest : List Nat} {o : Oper} {f : FuncId} {args : Array Value} {R : Value → Heap → Prop}
    (ho : ops[i]? = some o) (hw : Region.wanted o (yielded ops tm) = true) (hk : b.kind ≠ .early)
    (hnd : (match o.op with | .defer _ => false | _ => true) = true)
    (x : ∀ h, Φ h → wpS P (execOp (ev tm) o) h fun n h' => n = .enter f args ∧ h' = h) (c : ∀ h, Φ h → CallsX P md f args h R)
    (r : ∀ v h', R v h' → Reach P md (G (F b (put tm o.dst v) df (.inRegion ops rest :: k)) cs) h' Stop) :
    RS P md (G (F b tm df (.inRegion ops (i :: rest) :: k)) cs) Φ Stop :=
  rs_op ho hw hk (.inr hnd) fun h y => wpS_mono (x h y) fun n h' ⟨e, eh⟩ => by
    subst e; subst eh
    exact c _ y _ _ _ fun v h' q => by rw [finish_region ho]; exact r v h' q

/-- A function that stands at its return, nothing deferred. -/
theorem rs_return {c : Frame} {fn : Func} {td : List Item} (hf : P.funcs[b.fn]? = some fn) (hk : b.kind = .normal)
    (x : ∀ h, Φ h → wpS P (results fn tm) h fun v h' => Reach P md (G (c.finish v) cs) h' Stop) : RS P md (G (FR b tm [] td) (c :: cs)) Φ Stop := by
  intro h y
  refine reach_step ⟨rfl, fun h₁ k₁ S w V => ?_⟩
  obtain ⟨v, h', w', es, e1, e2, e3, e4, e5, e6⟩ := wpS_run (results fn tm) #[] (x h₁ (Stb.stb _ _ y k₁)) V
  refine ⟨_, h', w', seen P b.fn es, ?_, e3, e4, e5, evL_seen e6⟩
  simp only [Array.empty_append] at e1
  simp only [G, stepG, unwind, FR, hf, e1, doReturn, hk, GStep.after, Array.append_empty]

theorem rs_collected {c : Frame} {td : List Item} {r : Nat} {ds : List Deferred} (hr : ∀ h, Φ h → h[r]? = some (.deferred (some [])))
    (x : ∀ h, Φ h → Reach P md (G (FR b tm ds td) (c :: cs)) (h.setIfInBounds r (.deferred none)) Stop) : RS P md (G (FR b tm ({ target := .collected r, args := #[] } :: ds) td) (c :: cs)) Φ Stop := by
  intro h y
  refine reach_step ⟨rfl, fun h₁ k₁ S w V => ?_⟩
  have y₁ := Stb.stb _ _ y k₁
  have hr₁ := hr h₁ y₁
  have hx : wpS P (Instr.takeDeferred r) h₁ fun l h' => l = [] ∧ h' = h₁.setIfInBounds r (.deferred none) := by
    unfold Instr.takeDeferred
    refine wpS_bind ?_
    simp only [getObj, wpS, hr₁]
    refine ⟨rfl, ?_⟩
    refine wpS_bind ?_
    simp only [setObj, wpS, hr₁]
    refine ⟨rfl, rfl, ?_⟩
    exact wpS_pure ⟨rfl, rfl⟩
  obtain ⟨v, h', w', es, e1, e2, ⟨rfl, rfl⟩, e4, e5, e6⟩ := wpS_run _ #[] hx V
  refine ⟨_, _, w', seen P b.fn es, ?_, x h₁ y₁, e4, e5, evL_seen e6⟩
  simp only [Array.empty_append] at e1
  simp only [G, stepG, unwind, FR, e1, GStep.after, Array.append_empty, List.nil_append]

theorem rs_ret {hro : b.roundOf = none} (x : ∀ td, RS P md (G (FR b tm df td) cs) Φ Stop) : RS P md (G (F b tm df (.code .ret :: k)) cs) Φ Stop :=
  rs_go rfl (fun w => by simp [G, stepG, stepG.exec, F, FR, hro]) (x (.code .ret :: k))
theorem rs_end {hro : b.roundOf = none} (x : ∀ td, RS P md (G (FR b tm df td) cs) Φ Stop) : RS P md (G (F b tm df []) cs) Φ Stop :=
  rs_go rfl (fun w => by simp [G, stepG, stepG.exec, F, FR, hro]) (x [])
end
end
end Go.X
namespace Go.X
open Go.Conc

/-- Whose frame: a function's that was called; a loop's round; a function's that was deferred, or started. -/
inductive Rd where
  | none
  | some (l : Nat)
  | dfd
def Rd.round : Rd → Option Nat
  | .some l => Option.some l
  | _ => Option.none
def Rd.kind : Rd → CallKind
  | .dfd => .deferred
  | _ => .normal
def B (f : FuncId) (r : Rd) : Frame := { fn := f, tmps := #[], todo := [], defers := [], mode := .run, kind := r.kind, roundOf := r.round }
theorem B_kind {f : FuncId} {r : Rd} : (B f r).kind ≠ .early := by cases r <;> simp [B, Rd.kind]
def FL (f : FuncId) (r : Rd) (tm : List Value) (df : List Deferred) (k : List Item) : Frame := F (B f r) tm.toArray df k

def evl (tm : List Value) : Operand → Value
  | .tmp t => tm.getD t undef
  | .const v => v
  | .global g => .pointer (some ⟨g, 0, none⟩)
  | .func f => .func (.func f) #[] #[]

def putl (tm : List Value) (dst : Option Tmp) (v : Value) : List Value :=
  match dst with
  | some d => tm.set d v
  | none => tm

theorem ev_toArray (tm : List Value) : ev tm.toArray = evl tm := by
  funext x
  cases x <;> simp [ev, evl, Array.getD_eq_getD_getElem?, List.getD_eq_getElem?_getD]

theorem put_toArray (tm : List Value) (dst : Option Tmp) (v : Value) : put tm.toArray dst v = (putl tm dst v).toArray := by
  cases dst <;> simp [put, putl]

def yieldl (ops : List Oper) (tm : List Value) (j : Nat) : Option Bool :=
  match ((ops[j]?).bind (·.dst)).bind (tm[·]?) with
  | some (.bool b) => some b
  | _ => none

/-- Is the operation's guard met? -/
def Met (ops : List Oper) (tm : List Value) (o : Oper) (t : Bool) : Prop :=
  match o.guard with
  | none => t = true
  | some (j, want) => (yieldl ops tm j == some want) = t

theorem yielded_toArray (ops : List Oper) (tm : List Value) : yielded ops.toArray tm.toArray = yieldl ops tm := by
  funext j; simp [yielded, yieldl]; rfl

theorem wanted_of_met {ops : List Oper} {tm : List Value} {o : Oper} {t : Bool} (m : Met ops tm o t) : Region.wanted o (yielded ops.toArray tm.toArray) = t := by
  rw [yielded_toArray]
  unfold Met at m
  unfold Region.wanted
  split at m
  · rename_i e; rw [e]; exact m.symm
  · rename_i e; rw [e]; exact m

theorem met_none {ops : List Oper} {tm : List Value} {o : Oper} (h : o.guard = none) : Met ops tm o true := by unfold Met; rw [h]
theorem met_some {ops : List Oper} {tm : List Value} {o : Oper} {j : Nat} {want b : Bool} (h : o.guard = some (j, want)) (hy : yieldl ops tm j = some b) (hb : b = want) : Met ops tm o true := by
  unfold Met; rw [h]; subst hb; simp only [hy, beq_self_eq_true]
theorem met_not {ops : List Oper} {tm : List Value} {o : Oper} {j : Nat} {want b : Bool} (h : o.guard = some (j, want)) (hy : yieldl ops tm j = some b) (hb : b = !want) : Met ops tm o false := by
  unfold Met; rw [h]; subst hb; simp only [hy]; cases want <;> rfl
/-- 'o' yields a value, and 'K' of it and of the heap. -/
def Ex (P : Program) (tm : List Value) (o : Oper) (h : Heap) (K : Value → Heap → Prop) : Prop :=
  wpS P (execOp (evl tm) o) h fun n h' => ∃ v, n = .value v ∧ K v h'
/-- 'o' yields just 'v', and leaves the heap. -/
def Exd (P : Program) (tm : List Value) (o : Oper) (h : Heap) (v : Value) : Prop := Ex P tm o h fun v' h' => v' = v ∧ h' = h

def noDefer : Op → Bool
  | .defer _ => false
  | _ => true

section
variable (P : Program) (md : Md) (f : FuncId) (r : Rd) (df : List Deferred) (k : List Item) (cs : List Frame) (Stop : Goroutine → Heap → Prop)
/-- The region 'ops' with 'rest' still to do, in the text's order. -/
def RL (ops rest : List Oper) (tm : List Value) (Φ : Heap → Prop) : Prop :=
  ∀ pre, ops = pre ++ rest → RS P md (G (FL f r tm df (.inRegion ops.toArray (List.range' pre.length rest.length) :: k)) cs) Φ Stop
end

section
variable {P : Program} {md : Md} {f : FuncId} {r : Rd} {df : List Deferred} {k : List Item} {cs : List Frame} {Stop : Goroutine → Heap → Prop}
  {ops rest : List Oper} {tm tm' : List Value} {h : Heap} {Φ : Heap → Prop} {o : Oper}

theorem rl_start [Stb Φ] {id : Nat} {l : List Oper} (x : RL P md f r df k cs Stop l l tm Φ) : RS P md (G (FL f r tm df (.code (.region id l.toArray false) :: k)) cs) Φ Stop := by
  refine rs_region ?_
  have := x [] rfl
  simpa [FL, List.range_eq_range'] using this

theorem rl_end [Stb Φ] (x : RS P md (G (FL f r tm df k) cs) Φ Stop) : RL P md f r df k cs Stop ops [] tm Φ :=
  fun _ _ => rs_region_end x

theorem rl_at {pre : List Oper} (e : ops = pre ++ o :: rest) : ops.toArray[pre.length]? = some o := by subst e; simp

theorem rl_next {pre : List Oper} : List.range' pre.length (o :: rest).length = pre.length :: List.range' (pre.length + 1) rest.length := by simp [List.range'_succ]

theorem rl_step [Stb Φ] {K : Value → Heap → Prop} (hm : Met ops tm o true) (hd : noDefer o.op = true) (hx : ∀ h, Φ h → Ex P tm o h K)
    (n : ∀ v, RL P md f r df k cs Stop ops rest (putl tm o.dst v) (K v)) : RL P md f r df k cs Stop ops (o :: rest) tm Φ := by
  intro pre e
  rw [rl_next]
  refine rs_val (rl_at e) (wanted_of_met hm) B_kind (by revert hd; cases o.op <;> simp [noDefer]) fun h y => ?_
  rw [ev_toArray]
  refine wpS_mono (hx h y) fun n' h' ⟨v, e', hK⟩ => ⟨v, e', ?_⟩
  have := n v (pre ++ [o]) (by simp [e]) h' hK
  rw [put_toArray]
  simpa [FL] using this

theorem rl_det [Stb Φ] {v : Value} (hm : Met ops tm o true) (hx : ∀ h, Φ h → Exd P tm o h v) (ht : putl tm o.dst v = tm') (n : RL P md f r df k cs Stop ops rest tm' Φ) (hd : noDefer o.op = true := by rfl) :
    RL P md f r df k cs Stop ops (o :: rest) tm Φ :=
  rl_step (K := fun v' h' => v' = v ∧ Φ h') hm hd (fun h y => wpS_mono (hx h y) fun _ _ ⟨v', e1, e2, e3⟩ => ⟨v', e1, e2, by rw [e3]; exact y⟩) fun v' pre e h ⟨e1, y⟩ => by subst e1; rw [ht]; exact n pre e h y

theorem rl_unit [Stb Φ] {K : Heap → Prop} (hm : Met ops tm o true) (hd : noDefer o.op = true) (hx : ∀ h, Φ h → wpS P (execOp (evl tm) o) h fun n h' => n = .skip ∧ K h')
    (ht : putl tm o.dst undef = tm') (n : RL P md f r df k cs Stop ops rest tm' K) : RL P md f r df k cs Stop ops (o :: rest) tm Φ := by
  intro pre e
  rw [rl_next]
  refine rs_unit (rl_at e) (wanted_of_met hm) B_kind (by revert hd; cases o.op <;> simp [noDefer]) fun h y => ?_
  rw [ev_toArray]
  refine wpS_mono (hx h y) fun n' h' ⟨e', hK⟩ => ⟨e', ?_⟩
  have := n (pre ++ [o]) (by simp [e]) h' hK
  rw [put_toArray, ht]
  simpa [FL] using this

theorem rl_pass [Stb Φ] (hm : Met ops tm o false) (ht : putl tm o.dst undef = tm') (n : RL P md f r df k cs Stop ops rest tm' Φ) : RL P md f r df k cs Stop ops (o :: rest) tm Φ := by
  intro pre e
  rw [rl_next]
  refine rs_pass (rl_at e) (wanted_of_met hm) ?_
  have := n (pre ++ [o]) (by simp [e])
  rw [put_toArray, ht]
  simpa [FL] using this

/-! what is said of the heap may be opened -/
theorem rl_ex {α : Type} {Ψ : α → Heap → Prop} (n : ∀ x, RL P md f r df k cs Stop ops rest tm (Ψ x)) : RL P md f r df k cs Stop ops rest tm (fun h => ∃ x, Ψ x h) := fun pre e h ⟨x, y⟩ => n x pre e h y
theorem rl_and {c : Prop} (n : c → RL P md f r df k cs Stop ops rest tm Φ) : RL P md f r df k cs Stop ops rest tm (fun h => c ∧ Φ h) := fun pre e h ⟨x, y⟩ => n x pre e h y
theorem rl_as {Ψ : Heap → Prop} (n : RL P md f r df k cs Stop ops rest tm Φ) (hi : ∀ h, Ψ h → Φ h) : RL P md f r df k cs Stop ops rest tm Ψ := fun pre e h y => n pre e h (hi h y)
theorem rs_as {g : Goroutine} {Ψ : Heap → Prop} (n : RS P md g Φ Stop) (hi : ∀ h, Ψ h → Φ h) : RS P md g Ψ Stop := fun h y => n h (hi h y)
theorem rl_norm (e : tm = tm') (x : RL P md f r df k cs Stop ops rest tm' Φ) : RL P md f r df k cs Stop ops rest tm Φ := by subst e; exact x

/-! ### calls -/
/-- May the function be entered? -/
def callable (P : Program) (g : FuncId) : Bool :=
  match P.funcs[g]? with
  | some fn => fn.name != "runtime.NumGoroutine" && fn.body.isSome
  | none => false

theorem wpS_callFunc {g : FuncId} {args : Array Value} {K : Next → Heap → Prop} (hc : callable P g = true) (x : K (.enter g args) h) : wpS P (callFunc g args) h K := by
  unfold callable at hc
  unfold callFunc
  refine wpS_bind ?_
  show wpS P program h _
  simp only [program, wpS]
  split at hc
  · rename_i fn hfn
    simp only [Bool.and_eq_true, bne_iff_ne, ne_eq] at hc
    rw [hfn]
    simp only
    rw [if_neg (by simpa using hc.1), if_neg (by have := hc.2; cases hb : fn.body <;> simp_all)]
    exact wpS_pure x
  · cases hc

theorem wpS_call {args : List Operand} {ats : Array TypeId} {d : Option Tmp} {ty : TypeId} {pos : String} {aft : Array Edge} {gd : Option (Nat × Bool)} {x : Operand} {g : FuncId} {first cap vs : List Value}
    (hx : evl tm x = .func (.func g) first.toArray cap.toArray) (hvs : first ++ (args.map (evl tm) ++ cap) = vs) (hg : callable P g = true) :
    wpS P (execOp (evl tm) ⟨d, .call ⟨.value x, args.toArray, ats⟩, ty, pos, aft, gd⟩) h fun n h' => n = .enter g vs.toArray ∧ h' = h := by
  simp only [execOp]
  refine wpS_bind ?_
  unfold resolve
  simp only [hx, Deferred.ofValue]
  refine wpS_pure ?_
  simp only [invoke]
  refine wpS_callFunc hg ⟨?_, rfl⟩
  rw [← hvs]; simp

theorem rl_call [Stb Φ] {args : List Operand} {ats : Array TypeId} {d : Option Tmp} {ty : TypeId} {pos : String} {aft : Array Edge} {gd : Option (Nat × Bool)} {x : Operand} {g : FuncId} {first cap vs : List Value} {R : Value → Heap → Prop}
    (hm : Met ops tm ⟨d, .call ⟨.value x, args.toArray, ats⟩, ty, pos, aft, gd⟩ true) (hx : evl tm x = .func (.func g) first.toArray cap.toArray) (hvs : first ++ (args.map (evl tm) ++ cap) = vs) (hg : callable P g = true)
    (hc : ∀ h, Φ h → CallsX P md g vs.toArray h R) (n : ∀ v, RL P md f r df k cs Stop ops rest (putl tm d v) (R v)) :
    RL P md f r df k cs Stop ops (⟨d, .call ⟨.value x, args.toArray, ats⟩, ty, pos, aft, gd⟩ :: rest) tm Φ := by
  intro pre e
  rw [rl_next]
  refine rs_call (rl_at e) (wanted_of_met hm) B_kind rfl (fun h y => by rw [ev_toArray]; exact wpS_call hx hvs hg) hc fun v h' hR => ?_
  have := n v (pre ++ [⟨d, .call ⟨.value x, args.toArray, ats⟩, ty, pos, aft, gd⟩]) (by simp [e]) h' hR
  rw [put_toArray]
  simpa [FL] using this

/-- A call whose value is known, and which leaves what was there. -/
theorem rl_calld [sb : Stb Φ] {args : List Operand} {ats : Array TypeId} {d : Option Tmp} {ty : TypeId} {pos : String} {aft : Array Edge} {gd : Option (Nat × Bool)} {x : Operand} {g : FuncId} {first cap vs : List Value} {v : Value}
    (hm : Met ops tm ⟨d, .call ⟨.value x, args.toArray, ats⟩, ty, pos, aft, gd⟩ true) (hx : evl tm x = .func (.func g) first.toArray cap.toArray) (hvs : first ++ (args.map (evl tm) ++ cap) = vs) (hg : callable P g = true)
    (hc : ∀ h, Φ h → CallsX P md g vs.toArray h fun v' h' => v' = v ∧ Keep h h') (ht : putl tm d v = tm') (n : RL P md f r df k cs Stop ops rest tm' Φ) :
    RL P md f r df k cs Stop ops (⟨d, .call ⟨.value x, args.toArray, ats⟩, ty, pos, aft, gd⟩ :: rest) tm Φ :=
  rl_call (R := fun v' h' => v' = v ∧ Φ h') hm hx hvs hg (fun h y => (hc h y).mono fun _ h' ⟨e1, e2⟩ => ⟨e1, sb.stb _ _ y e2⟩) fun v' pre e h ⟨e1, y⟩ => by subst e1; rw [ht]; exact n pre e h y

/-! ### control -/
section
variable [Stb Φ]
theorem fl_seq {x y : Code} (z : RS P md (G (FL f r tm df (.code x :: .code y :: k)) cs) Φ Stop) : RS P md (G (FL f r tm df (.code (.seq x y) :: k)) cs) Φ Stop := rs_seq z
theorem fl_skip (z : RS P md (G (FL f r tm df k) cs) Φ Stop) : RS P md (G (FL f r tm df (.code .skip :: k)) cs) Φ Stop := rs_skip z
theorem fl_inBlock {id : Nat} (z : RS P md (G (FL f r tm df k) cs) Φ Stop) : RS P md (G (FL f r tm df (.inBlock id :: k)) cs) Φ Stop := rs_inBlock z
theorem fl_block {id : Nat} {c : Code} (z : RS P md (G (FL f r tm df (.code c :: .inBlock id :: k)) cs) Φ Stop) : RS P md (G (FL f r tm df (.code (.block id c) :: k)) cs) Φ Stop := rs_block z
theorem fl_exit {id : Nat} {k' : List Item} (hk : exitTo id k = some k') (z : RS P md (G (FL f r tm df k') cs) Φ Stop) : RS P md (G (FL f r tm df (.code (.exit id) :: k)) cs) Φ Stop := rs_exit hk z
theorem fl_if {c : Operand} {x y : Code} {t : Bool} (hc : evl tm c = .bool t) (h1 : t = true → RS P md (G (FL f r tm df (.code x :: k)) cs) Φ Stop) (h2 : t = false → RS P md (G (FL f r tm df (.code y :: k)) cs) Φ Stop) :
    RS P md (G (FL f r tm df (.code (.cond c x y) :: k)) cs) Φ Stop := by
  refine rs_cond (t := t) (by rw [ev_toArray]; exact hc) ?_
  cases t
  · exact h2 rfl
  · exact h1 rfl
theorem fl_then {c : Operand} {x y : Code} {t : Bool} (hc : evl tm c = .bool t) (ht : t = true) (z : RS P md (G (FL f r tm df (.code x :: k)) cs) Φ Stop) :
    RS P md (G (FL f r tm df (.code (.cond c x y) :: k)) cs) Φ Stop := fl_if hc (fun _ => z) (fun e => by rw [ht] at e; cases e)
theorem fl_else {c : Operand} {x y : Code} {t : Bool} (hc : evl tm c = .bool t) (ht : t = false) (z : RS P md (G (FL f r tm df (.code y :: k)) cs) Φ Stop) :
    RS P md (G (FL f r tm df (.code (.cond c x y) :: k)) cs) Φ Stop := fl_if hc (fun e => by rw [ht] at e; cases e) (fun _ => z)

/-- A loop, by what holds at its head ('I', with a measure). -/
theorem fl_loop {c : Code} {m₀ : Nat} (I : Nat → List Value → Heap → Prop) [sI : ∀ m tm, Stb (I m tm)] (start : ∀ h, Φ h → I m₀ tm h)
    (round : ∀ m tm, (∀ m' tm', m' < m → RS P md (G (FL f r tm' df (.inLoop c :: k)) cs) (I m' tm') Stop) → RS P md (G (FL f r tm df (.code c :: .inLoop c :: k)) cs) (I m tm) Stop) :
    RS P md (G (FL f r tm df (.code (.loop c) :: k)) cs) Φ Stop := by
  refine rs_loop ?_
  suffices H : ∀ m tm, RS P md (G (FL f r tm df (.code c :: .inLoop c :: k)) cs) (I m tm) Stop from fun h y => H _ _ h (start h y)
  intro m
  induction m using Nat.strongRecOn with
  | _ m ih => exact fun tm => round m tm fun m' tm' hlt => rs_inLoop (ih m' hlt tm')
end

/-! ### entering and leaving -/
theorem calls_intro {fn : Func} {c : Code} {args : Array Value} {tm : List Value} {R : Value → Heap → Prop} (hf : P.funcs[f]? = some fn) (hb : fn.body = some c)
    (ht : args.toList ++ List.replicate (fn.ntmps - args.size) undef = tm)
    (x : ∀ (c₀ : Frame) (cs : List Frame) (Stop : Goroutine → Heap → Prop), (∀ v h', R v h' → Reach P md (G (c₀.finish v) cs) h' Stop) →
      RS P md (G (FL f .none tm [] [.code c]) (c₀ :: cs)) Φ Stop) (h0 : Φ h) : CallsX P md f args h R := by
  intro c₀ cs Stop K
  have := x c₀ cs Stop K h h0
  have e : Frame.enter P f args .normal = FL f .none tm [] [.code c] := by
    unfold Frame.enter
    simp only [hf, hb, Option.map_some, Option.bind_some, Option.getD_some, FL, F, B, ← ht]
    simp [Rd.kind, Rd.round]
  rw [e]; exact this

/-- What a result variable holds. -/
def Res (P : Program) (h : Heap) (tm : List Value) : List ResultVar → List Value → Prop
  | [], vs => vs = []
  | .tmp t :: rs, vs => ∃ v vs', vs = v :: vs' ∧ tm.getD t undef = v ∧ Res P h tm rs vs'
  | .cell a t :: rs, vs => ∃ v vs', vs = v :: vs' ∧ wpS P (do loadVar t (← asAddr (tm.getD a undef))) h (fun v' h' => v' = v ∧ h' = h) ∧ Res P h tm rs vs'

theorem wpS_mapM_res {rs : List ResultVar} : ∀ {vs : List Value} {acc : Array Value} {K : Array Value → Heap → Prop}, Res P h tm rs vs → K (acc ++ vs.toArray) h →
    wpS P (rs.foldlM (fun (bs : Array Value) a => bs.push <$> (match a with
      | .tmp t => pure (tm.toArray.getD t undef)
      | .cell a t => do loadVar t (← asAddr (tm.toArray.getD a undef)) : Sem Value)) acc) h K := by
  induction rs with
  | nil => intro vs acc K e x; simp only [Res] at e; subst e; exact wpS_pure (by simpa using x)
  | cons a rs ih =>
    intro vs acc K e x
    rw [List.foldlM_cons]
    have hget : ∀ t, tm.toArray.getD t undef = tm.getD t undef := fun t => by simp [Array.getD_eq_getD_getElem?, List.getD_eq_getElem?_getD]
    cases a with
    | tmp t =>
      obtain ⟨v, vs', rfl, hv, hr⟩ := e
      refine wpS_bind ?_
      show wpS P (Sem.bind _ _) h _
      refine wpS_bind' ?_
      refine wpS_pure ?_
      refine wpS_pure ?_
      refine ih hr ?_
      rw [hget, hv]
      simpa using x
    | cell a t =>
      obtain ⟨v, vs', rfl, hv, hr⟩ := e
      refine wpS_bind ?_
      show wpS P (Sem.bind _ _) h _
      refine wpS_bind' ?_
      have hv' : wpS P (do loadVar t (← asAddr (tm.toArray.getD a undef))) h (fun v' h' => v' = v ∧ h' = h) := by rw [hget]; exact hv
      refine wpS_mono hv' fun v' h' ⟨e1, e2⟩ => ?_
      subst e1; subst e2
      refine wpS_pure ?_
      refine ih hr ?_
      simpa using x

def packs : List Value → Value
  | [v] => v
  | vs => .tuple vs.toArray

theorem wpS_results {fn : Func} {rs : List ResultVar} {vs : List Value} {v : Value} {K : Value → Heap → Prop} (hr : fn.results = rs.toArray) (e : Res P h tm rs vs) (hv : packs vs = v) (x : K v h) :
    wpS P (results fn tm.toArray) h K := by
  unfold results
  refine wpS_bind ?_
  rw [hr, Array.mapM_eq_foldlM, List.foldlM_toArray]
  refine wpS_mapM_res e ?_
  refine wpS_pure ?_
  subst hv
  simp only [Array.empty_append]
  match vs, x with
  | [], x => exact x
  | [_], x => exact x
  | _ :: _ :: _, x => simpa [packs] using x

theorem fl_ret [Stb Φ] {c₀ : Frame} {fn : Func} {rs : List ResultVar} {vs : List Value} {v : Value} (hf : P.funcs[f]? = some fn) (hr : fn.results = rs.toArray) (e : ∀ h, Φ h → Res P h tm rs vs) (hv : packs vs = v)
    (x : RS P md (G (c₀.finish v) cs) Φ Stop) : RS P md (G (FL f .none tm [] (.code .ret :: k)) (c₀ :: cs)) Φ Stop :=
  rs_ret (hro := rfl) fun _ => rs_return hf rfl fun h y => wpS_results hr (e h y) hv (x h y)
theorem fl_fall [Stb Φ] {c₀ : Frame} {fn : Func} {rs : List ResultVar} {vs : List Value} {v : Value} (hf : P.funcs[f]? = some fn) (hr : fn.results = rs.toArray) (e : ∀ h, Φ h → Res P h tm rs vs) (hv : packs vs = v)
    (x : RS P md (G (c₀.finish v) cs) Φ Stop) : RS P md (G (FL f .none tm [] []) (c₀ :: cs)) Φ Stop :=
  rs_end (hro := rfl) fun _ => rs_return hf rfl fun h y => wpS_results hr (e h y) hv (x h y)
end
end Go.X
namespace Go.X
open Go.Conc

abbrev PHeap := Nat → Option Obj

def pcell (p : PHeap) (a : Addr) : Option Value :=
  match p a.block with
  | some (.cells c _ _) => if a.spot.isSome then none else c[a.off]?
  | _ => none

def PLe (p p' : PHeap) : Prop := ∀ b o, p b = some o → p' b = some o
theorem PLe.refl (p : PHeap) : PLe p p := fun _ _ x => x
theorem PLe.trans {p q r : PHeap} (x : PLe p q) (y : PLe q r) : PLe p r := fun b o z => y b o (x b o z)
theorem PLe.cell {p p' : PHeap} (x : PLe p p') {a : Addr} {v : Value} (y : pcell p a = some v) : pcell p' a = some v := by
  unfold pcell at y ⊢
  split at y
  · rename_i c t z hb; rw [x _ _ hb]; exact y
  · cases y

/-- 'h₀': the heap as the call began; 'B₀': blocks of it that the call may turn; 'p': blocks that last; 'L': blocks that are the call's own just now. -/
structure St (h₀ : Heap) (B₀ : List Nat) (p : PHeap) (h : Heap) (L : List (Nat × Obj)) : Prop where
  keep : ∀ b, b < h₀.size → b ∉ B₀ → h[b]? = h₀[b]?
  size : h₀.size ≤ h.size
  per : ∀ b o, p b = some o → h[b]? = some o
  own : ∀ x ∈ L, h[x.1]? = some x.2 ∧ p x.1 = none ∧ (h₀.size ≤ x.1 ∨ x.1 ∈ B₀)
  nod : (L.map (·.1)).Nodup

section
variable {h₀ h h' : Heap} {B₀ : List Nat} {p p' : PHeap} {L : List (Nat × Obj)}

theorem lt_of_get {b : Nat} {o : Obj} (x : h[b]? = some o) : b < h.size := (Array.getElem?_eq_some_iff.1 x).1

theorem St.kept (s : St h₀ [] p h L) : Keep h₀ h := ⟨s.size, fun b hb => s.keep b hb (by simp)⟩

theorem St.start (h : Heap) (p : PHeap) (hp : ∀ b o, p b = some o → h[b]? = some o) : St h [] p h [] :=
  ⟨fun _ _ _ => rfl, Nat.le_refl _, hp, by simp, by simp⟩

theorem St.drop {x : Nat × Obj} (s : St h₀ B₀ p h (x :: L)) : St h₀ B₀ p h L :=
  ⟨s.keep, s.size, s.per, fun y hy => s.own y (by simp [hy]), by have := s.nod; simp at this; exact this.2⟩

theorem St.sub {L' : List (Nat × Obj)} (s : St h₀ B₀ p h L) (hs : L'.Sublist L) : St h₀ B₀ p h L' :=
  ⟨s.keep, s.size, s.per, fun y hy => s.own y (hs.subset hy), s.nod.sublist (hs.map _)⟩

theorem St.perm {L' : List (Nat × Obj)} (s : St h₀ B₀ p h L) (hs : L.Perm L') : St h₀ B₀ p h L' :=
  ⟨s.keep, s.size, s.per, fun y hy => s.own y (hs.mem_iff.2 hy), (hs.map (·.1)).nodup_iff.1 s.nod⟩

theorem St.call (s : St h₀ B₀ p h L) (k : Keep h h') : St h₀ B₀ p h' L :=
  ⟨fun b hb hn => (k.keep b (Nat.lt_of_lt_of_le hb s.size)).trans (s.keep b hb hn), Nat.le_trans s.size k.size,
    fun b o x => (k.keep b (lt_of_get (s.per b o x))).trans (s.per b o x),
    fun x hx => ⟨(k.keep _ (lt_of_get (s.own x hx).1)).trans (s.own x hx).1, (s.own x hx).2⟩, s.nod⟩

instance : Stb (fun h => St h₀ B₀ p h L) := ⟨fun _ _ s k => s.call k⟩

theorem St.push (s : St h₀ B₀ p h L) (o : Obj) : St h₀ B₀ p (h.push o) ((h.size, o) :: L) := by
  have k : Keep h (h.push o) := ⟨by simp, fun b hb => by rw [Array.getElem?_push, if_neg (by omega)]⟩
  have s' := s.call k
  refine ⟨s'.keep, s'.size, s'.per, ?_, ?_⟩
  · intro x hx
    rcases List.mem_cons.1 hx with rfl | hx
    · refine ⟨by simp, ?_, .inl s.size⟩
      cases hp : p h.size with
      | none => rfl
      | some y => exact absurd (lt_of_get (s.per _ _ hp)) (by simp)
    · exact s'.own x hx
  · simp only [List.map_cons, List.nodup_cons]
    refine ⟨?_, s.nod⟩
    intro hm
    obtain ⟨x, hx, e⟩ := List.mem_map.1 hm
    have := lt_of_get (s.own x hx).1
    omega

theorem mem_of_get? {α : Type} {l : List α} {i : Nat} {x : α} (h : l[i]? = some x) : x ∈ l := List.mem_of_getElem? h

theorem St.at (s : St h₀ B₀ p h L) {i b : Nat} {o : Obj} (hL : L[i]? = some (b, o)) : h[b]? = some o := (s.own _ (mem_of_get? hL)).1

theorem nodup_idx {l : List Nat} (hn : l.Nodup) {i j x : Nat} (hi : l[i]? = some x) (hj : l[j]? = some x) : i = j := by
  obtain ⟨hi', ei⟩ := List.getElem?_eq_some_iff.1 hi
  obtain ⟨hj', ej⟩ := List.getElem?_eq_some_iff.1 hj
  have h := List.pairwise_iff_getElem.1 hn
  rcases Nat.lt_trichotomy i j with hlt | rfl | hlt
  · exact absurd (ei.trans ej.symm) (h i j hi' hj' hlt)
  · rfl
  · exact absurd (ej.trans ei.symm) (h j i hj' hi' hlt)

/-- One block of the call's own is turned. -/
theorem St.turn (s : St h₀ B₀ p h L) {i b : Nat} {o o' : Obj} (hL : L[i]? = some (b, o)) (hb : h'[b]? = some o') (hs : h'.size = h.size)
    (hne : ∀ c, c ≠ b → h'[c]? = h[c]?) : St h₀ B₀ p h' (L.set i (b, o')) := by
  have ho := s.own _ (mem_of_get? hL)
  have hp : ∀ c o, p c = some o → c ≠ b := fun c o hc e => by subst e; rw [ho.2.1] at hc; cases hc
  refine ⟨fun c hc hn => ?_, by rw [hs]; exact s.size, fun c o hc => by rw [hne c (hp c o hc)]; exact s.per c o hc, ?_, ?_⟩
  · by_cases e : c = b
    · subst e
      rcases ho.2.2 with x | x
      · omega
      · exact absurd x hn
    · rw [hne c e]; exact s.keep c hc hn
  · intro x hx
    obtain ⟨j, hj⟩ := List.getElem?_of_mem hx
    rw [List.getElem?_set] at hj
    split at hj
    · split at hj
      · cases hj; exact ⟨hb, ho.2⟩
      · cases hj
    · rename_i hij
      have hx' := s.own x (mem_of_get? hj)
      have hxb : x.1 ≠ b := by
        intro e
        refine hij (nodup_idx s.nod (i := i) (j := j) (x := b) ?_ ?_)
        · rw [List.getElem?_map, hL]; rfl
        · rw [List.getElem?_map, hj]; simp [e]
      rw [hne _ hxb]; exact hx'
  · have : (L.set i (b, o')).map (·.1) = L.map (·.1) := by
      rw [List.map_set]
      refine List.ext_getElem? fun j => ?_
      rw [List.getElem?_set]
      split
      · rename_i e; subst e
        simp only [List.length_map, List.getElem?_map, hL, Option.map_some]
        rw [if_pos (List.getElem?_eq_some_iff.1 hL).1]
      · rfl
    rw [this]; exact s.nod

theorem setCell_get {b off : Nat} {cs : Array Value} {T : TypeId} {z : Nat × Nat} {v : Value} (hb : h[b]? = some (.cells cs T z)) :
    (setCell h ⟨b, off, none⟩ v)[b]? = some (.cells (cs.setIfInBounds off v) T z) := by
  unfold setCell
  rw [getElem?_modify', if_pos rfl, hb]; rfl
theorem setCell_ne {b off c : Nat} {v : Value} (hc : c ≠ b) : (setCell h ⟨b, off, none⟩ v)[c]? = h[c]? := by
  unfold setCell
  rw [getElem?_modify', if_neg (fun e => hc e.symm)]
theorem setCell_size {a : Addr} {v : Value} : (setCell h a v).size = h.size := by simp [setCell]

theorem St.store (s : St h₀ B₀ p h L) {i b off : Nat} {cs : Array Value} {T : TypeId} {z : Nat × Nat} {v : Value} (hL : L[i]? = some (b, .cells cs T z)) :
    St h₀ B₀ p (setCell h ⟨b, off, none⟩ v) (L.set i (b, .cells (cs.setIfInBounds off v) T z)) :=
  s.turn hL (setCell_get (s.at hL)) setCell_size fun _ => setCell_ne

/-- What lasts may grow. -/
theorem St.grow (s : St h₀ B₀ p h L) (_hle : PLe p p') (hp : ∀ b o, p' b = some o → h[b]? = some o) (hn : ∀ x ∈ L, p' x.1 = none) : St h₀ B₀ p' h L :=
  ⟨s.keep, s.size, hp, fun x hx => ⟨(s.own x hx).1, hn x hx, (s.own x hx).2.2⟩, s.nod⟩

/-- A block of the call's own lasts from now on. -/
def padd (p : PHeap) (b : Nat) (o : Obj) : PHeap := fun c => if c = b then some o else p c
theorem padd_le {b : Nat} {o : Obj} (hb : p b = none) : PLe p (padd p b o) := fun c x hc => by
  unfold padd; rw [if_neg]; exact hc
  intro e; subst e; rw [hb] at hc; cases hc
theorem padd_self {b : Nat} {o : Obj} : padd p b o b = some o := if_pos rfl

theorem St.last {b : Nat} {o : Obj} (s : St h₀ B₀ p h ((b, o) :: L)) : PLe p (padd p b o) ∧ St h₀ B₀ (padd p b o) h L := by
  have ho := s.own (b, o) (by simp)
  refine ⟨padd_le ho.2.1, s.drop.grow (padd_le ho.2.1) ?_ ?_⟩
  · intro c x hc
    unfold padd at hc
    split at hc
    · rename_i e; subst e; cases hc; exact ho.1
    · exact s.per c x hc
  · intro x hx
    unfold padd
    have hn := s.nod
    simp only [List.map_cons, List.nodup_cons] at hn
    rw [if_neg (fun e => hn.1 (List.mem_map.2 ⟨x, hx, e⟩))]
    exact (s.own x (by simp [hx])).2.1

/-- What a call that makes memory leaves: 'p'' lasts behind it. -/
structure Grow (p : PHeap) (h : Heap) (p' : PHeap) (h' : Heap) : Prop where
  keep : Keep h h'
  le : PLe p p'
  per : ∀ b o, p' b = some o → h'[b]? = some o
  new : ∀ b, p b = none → b < h.size → p' b = none

theorem St.Grow (s : St h₀ [] p' h L) {p₀ : PHeap} (hp : PLe p₀ p') (hn : ∀ b, p₀ b = none → b < h₀.size → p' b = none) : Grow p₀ h₀ p' h := ⟨s.kept, hp, s.per, hn⟩

theorem St.cell (s : St h₀ B₀ p h L) {a : Addr} {v : Value} (x : pcell p a = some v) : cell? h a = some v := by
  unfold pcell at x
  unfold cell?
  split at x
  · rename_i c t z hb; rw [s.per _ _ hb]; exact x
  · cases x
theorem St.ocell (s : St h₀ B₀ p h L) {i b off : Nat} {cs : Array Value} {T : TypeId} {z : Nat × Nat} {v : Value} (hL : L[i]? = some (b, .cells cs T z)) (hv : cs[off]? = some v) :
    cell? h ⟨b, off, none⟩ = some v := by
  unfold cell?; rw [s.at hL]; exact hv
end

/-! ### types -/
def aggT (P : Program) (t : TypeId) : Option Bool := (P.underlying t).map fun | .struct _ => true | .array _ _ => true | _ => false
def sizeT (P : Program) (t : TypeId) : Option Nat := (P.info? t).map (·.size)
def bytesT (P : Program) (t : TypeId) : Option Nat := (P.info? t).map (·.bytes)
def zeroT (P : Program) (t : TypeId) : Option Value := (P.info? t).bind (·.zero)
/-- A struct's fields: where each begins, and how many cells it has. -/
def placesT (P : Program) (t : TypeId) : Option (List (Nat × Nat)) :=
  match P.underlying t with
  | some (.struct fs) => fs.toList.mapM fun f => (sizeT P f.type).map fun n => (f.offset, n)
  | _ => none

section
variable {P : Program} {h : Heap}

theorem wpS_underlying {t : TypeId} {d : TypeDesc} {K : TypeDesc → Heap → Prop} (ht : P.underlying t = some d) (x : K d h) : wpS P (underlying t) h K := by
  unfold underlying
  refine wpS_bind ?_
  simp only [program, wpS, ht]
  exact wpS_pure x
theorem wpS_typeInfo {t : TypeId} {i : TypeInfo} {K : TypeInfo → Heap → Prop} (ht : P.info? t = some i) (x : K i h) : wpS P (typeInfo t) h K := by
  unfold typeInfo
  refine wpS_bind ?_
  simp only [program, wpS, ht]
  exact wpS_pure x
theorem wpS_sizeOf {t : TypeId} {n : Nat} {K : Nat → Heap → Prop} (ht : sizeT P t = some n) (x : K n h) : wpS P (sizeOf t) h K := by
  unfold sizeT at ht
  cases hi : P.info? t with
  | none => rw [hi] at ht; cases ht
  | some i =>
    rw [hi] at ht; cases ht
    unfold sizeOf
    refine wpS_bind (wpS_typeInfo hi ?_)
    exact wpS_pure x
theorem wpS_zeroValue {t : TypeId} {v : Value} {K : Value → Heap → Prop} (ht : zeroT P t = some v) (x : K v h) : wpS P (zeroValue t) h K := by
  unfold zeroT at ht
  cases hi : P.info? t with
  | none => rw [hi] at ht; cases ht
  | some i =>
    rw [hi] at ht
    unfold zeroValue
    refine wpS_bind (wpS_typeInfo hi ?_)
    simp only [Option.bind_some] at ht
    simp only [ht]
    exact wpS_pure x
theorem wpS_isAgg {t : TypeId} {b : Bool} {K : Bool → Heap → Prop} (ht : aggT P t = some b) (x : K b h) : wpS P (isAgg t) h K := by
  unfold aggT at ht
  cases hu : P.underlying t with
  | none => rw [hu] at ht; cases ht
  | some d =>
    rw [hu] at ht
    unfold isAgg
    refine wpS_bind (wpS_underlying hu ?_)
    cases d <;> simp at ht <;> subst ht <;> exact wpS_pure x

theorem wpS_loadCellsFrom {a : Addr} : ∀ {n i : Nat} {vs : List Value} {acc : Array Value} {K : Array Value → Heap → Prop}, vs.length = n →
    (∀ j v, vs[j]? = some v → cell? h (a.add (i + j)) = some v) → K (acc ++ vs.toArray) h → wpS P (loadCellsFrom a i n acc) h K
  | 0, i, vs, acc, K, hn, _, x => by
    obtain rfl := List.eq_nil_of_length_eq_zero hn
    exact wpS_pure (by simpa using x)
  | n + 1, i, vs, acc, K, hn, hc, x => by
    match vs, hn with
    | v :: vs, hn =>
      unfold loadCellsFrom
      refine wpS_bind ?_
      refine ⟨rfl, v, by simpa using hc 0 v rfl, ?_⟩
      refine wpS_loadCellsFrom (vs := vs) (by simpa using hn) (fun j u hj => ?_) (by simpa using x)
      have := hc (j + 1) u (by simpa using hj)
      rwa [show i + 1 + j = i + (j + 1) from by omega]

theorem wpS_loadCells {a : Addr} {n : Nat} {vs : List Value} {K : Array Value → Heap → Prop} (hn : vs.length = n) (hc : ∀ j v, vs[j]? = some v → cell? h (a.add j) = some v) (x : K vs.toArray h) :
    wpS P (loadCells a n) h K := wpS_loadCellsFrom hn (by simpa using hc) (by simpa using x)

theorem wpS_loadVar1 {t : TypeId} {a : Addr} {v : Value} {K : Value → Heap → Prop} (ht : aggT P t = some false) (hc : cell? h a = some v) (x : K v h) : wpS P (loadVar t a) h K := by
  unfold loadVar
  refine wpS_bind (wpS_isAgg ht ?_)
  exact ⟨rfl, v, hc, x⟩
theorem wpS_loadVarN {t : TypeId} {a : Addr} {n : Nat} {vs : List Value} {K : Value → Heap → Prop} (ht : aggT P t = some true) (hs : sizeT P t = some n) (hn : vs.length = n)
    (hc : ∀ j v, vs[j]? = some v → cell? h (a.add j) = some v) (x : K (.agg vs.toArray) h) : wpS P (loadVar t a) h K := by
  unfold loadVar
  refine wpS_bind (wpS_isAgg ht ?_)
  simp only [if_true]
  refine wpS_bind (wpS_sizeOf hs ?_)
  refine wpS_bind (wpS_loadCells hn hc ?_)
  exact wpS_pure x

theorem add_mk (b off n : Nat) : (⟨b, off, none⟩ : Addr).add n = ⟨b, off + n, none⟩ := by unfold Addr.add; split <;> simp_all
end
end Go.X
namespace Go.X
open Go.Conc
open Go.RowKit (wrap64)

section
variable {P : Program} {tm : List Value} {h : Heap} {d : Option Tmp} {ty : TypeId} {pos : String} {aft : Array Edge} {gd : Option (Nat × Bool)}

/-- What a list holds, as a function of the place. -/
theorem y_of {tm : List Value} {F : (Nat → Value) → List Value} (h : tm = F (fun i => tm.getD i undef)) : ∃ y : Nat → Value, tm = F y := ⟨_, h⟩
theorem not_t {x : Bool} (h : x = false) : (!x) = true := by rw [h]; rfl
theorem not_f {x : Bool} (h : x = true) : (!x) = false := by rw [h]; rfl
theorem bcases (b : Bool) : b = true ∨ b = false := by cases b <;> simp
theorem wr {n : Int} (h : -9223372036854775808 ≤ n ∧ n ≤ 9223372036854775807) : IntKind.i64.wrap n = n := IntWalk.i64_in n h

theorem exd_of {o : Oper} {v : Value} {s : Sem Value} (e : execOp (evl tm) o = (do pure (.value (← s)))) (x : wpS P s h fun v' h' => v' = v ∧ h' = h) : Exd P tm o h v := by
  unfold Exd Ex
  rw [e]
  refine wpS_bind (wpS_mono x fun v' h' ⟨e1, e2⟩ => ?_)
  exact wpS_pure ⟨v', rfl, e1, e2⟩

theorem exd_move {x : Operand} {v : Value} (hx : evl tm x = v) : Exd P tm ⟨d, .move x, ty, pos, aft, gd⟩ h v := by
  unfold Exd Ex; simp only [execOp]; exact wpS_pure ⟨_, rfl, hx, rfl⟩
theorem exd_assign {x : Operand} {v : Value} (hx : evl tm x = v) : Exd P tm ⟨d, .assign x, ty, pos, aft, gd⟩ h v := by
  unfold Exd Ex; simp only [execOp]; exact wpS_pure ⟨_, rfl, hx, rfl⟩

theorem exd_pick {c a b : Operand} {t : Bool} {v : Value} (hc : evl tm c = .bool t) (hv : (if t then evl tm a else evl tm b) = v) : Exd P tm ⟨d, .pick c a b, ty, pos, aft, gd⟩ h v := by
  unfold Exd Ex
  simp only [execOp, hc]
  refine wpS_bind ?_
  refine wpS_pure ?_
  refine wpS_pure ⟨_, rfl, ?_, rfl⟩
  rw [← hv]
theorem exd_pick_t {c a b : Operand} {t : Bool} {v : Value} (hc : evl tm c = .bool t) (ht : t = true) (ha : evl tm a = v) : Exd P tm ⟨d, .pick c a b, ty, pos, aft, gd⟩ h v := exd_pick hc (by rw [ht]; exact ha)
theorem exd_pick_f {c a b : Operand} {t : Bool} {v : Value} (hc : evl tm c = .bool t) (ht : t = false) (hb : evl tm b = v) : Exd P tm ⟨d, .pick c a b, ty, pos, aft, gd⟩ h v := exd_pick hc (by rw [ht]; exact hb)

theorem exd_bin {op : BinOp} {T T' : TypeId} {x y : Operand} {v a b : Value} (hx : evl tm x = a) (hy : evl tm y = b) (hg : ∀ K : Unit → Heap → Prop, K () h → wpS P (eqGuard op T x y a b) h K)
    (hv : wpS P (binOp op T a b) h fun v' h' => v' = v ∧ h' = h) : Exd P tm ⟨d, .binOp op T x y T', ty, pos, aft, gd⟩ h v := by
  refine exd_of (s := do eqGuard op T x y a b; binOp op T a b) (by simp only [execOp, hx, hy]) ?_
  refine wpS_bind (hg _ ?_)
  exact hv

theorem wpS_eqGuard_no {op : BinOp} {T : TypeId} {x y : Operand} {a b : Value} (ho : (match op with | .eql => false | .neq => false | _ => true) = true) {K : Unit → Heap → Prop} (k : K () h) : wpS P (eqGuard op T x y a b) h K := by
  unfold eqGuard
  cases op <;> first | exact absurd ho (by decide) | (rw [if_pos (by rfl)]; exact wpS_pure k)
theorem wpS_eqGuard_int {op : BinOp} {T : TypeId} {x y : Operand} {k k' : IntKind} {a b : Int} {K : Unit → Heap → Prop} (z : K () h) : wpS P (eqGuard op T x y (.int k a) (.int k' b)) h K := by
  unfold eqGuard
  cases op <;> first | (rw [if_pos (by rfl)]; exact wpS_pure z) | (rw [if_neg (by decide)]; exact wpS_pure z)

theorem ibeq (a b : Int) : (a == b) = decide (a = b) := by rw [Bool.eq_iff_iff]; simp

theorem exd_add {k : IntKind} {T T' : TypeId} {x y : Operand} {a b n : Int} (hx : evl tm x = .int k a) (hy : evl tm y = .int k b) (hn : k.wrap (a + b) = n) : Exd P tm ⟨d, .binOp .add T x y T', ty, pos, aft, gd⟩ h (.int k n) :=
  exd_bin hx hy (fun K z => wpS_eqGuard_no rfl z) (by simp only [binOp, ne_eq, not_true_eq_false, if_false, Op.intArith, hn]; exact wpS_pure ⟨rfl, rfl⟩)
theorem exd_sub {k : IntKind} {T T' : TypeId} {x y : Operand} {a b n : Int} (hx : evl tm x = .int k a) (hy : evl tm y = .int k b) (hn : k.wrap (a - b) = n) : Exd P tm ⟨d, .binOp .sub T x y T', ty, pos, aft, gd⟩ h (.int k n) :=
  exd_bin hx hy (fun K z => wpS_eqGuard_no rfl z) (by simp only [binOp, ne_eq, not_true_eq_false, if_false, Op.intArith, hn]; exact wpS_pure ⟨rfl, rfl⟩)
theorem exd_mul {k : IntKind} {T T' : TypeId} {x y : Operand} {a b n : Int} (hx : evl tm x = .int k a) (hy : evl tm y = .int k b) (hn : k.wrap (a * b) = n) : Exd P tm ⟨d, .binOp .mul T x y T', ty, pos, aft, gd⟩ h (.int k n) :=
  exd_bin hx hy (fun K z => wpS_eqGuard_no rfl z) (by simp only [binOp, ne_eq, not_true_eq_false, if_false, Op.intArith, hn]; exact wpS_pure ⟨rfl, rfl⟩)
theorem exd_lss {k : IntKind} {T T' : TypeId} {x y : Operand} {a b : Int} (hx : evl tm x = .int k a) (hy : evl tm y = .int k b) : Exd P tm ⟨d, .binOp .lss T x y T', ty, pos, aft, gd⟩ h (.bool (decide (a < b))) :=
  exd_bin hx hy (fun K z => wpS_eqGuard_no rfl z) (by simp only [binOp, ne_eq, not_true_eq_false, if_false, Op.intCmp]; exact wpS_pure ⟨rfl, rfl⟩)
theorem exd_leq {k : IntKind} {T T' : TypeId} {x y : Operand} {a b : Int} (hx : evl tm x = .int k a) (hy : evl tm y = .int k b) : Exd P tm ⟨d, .binOp .leq T x y T', ty, pos, aft, gd⟩ h (.bool (decide (a ≤ b))) :=
  exd_bin hx hy (fun K z => wpS_eqGuard_no rfl z) (by simp only [binOp, ne_eq, not_true_eq_false, if_false, Op.intCmp]; exact wpS_pure ⟨rfl, rfl⟩)
theorem exd_gtr {k : IntKind} {T T' : TypeId} {x y : Operand} {a b : Int} (hx : evl tm x = .int k a) (hy : evl tm y = .int k b) : Exd P tm ⟨d, .binOp .gtr T x y T', ty, pos, aft, gd⟩ h (.bool (decide (b < a))) :=
  exd_bin hx hy (fun K z => wpS_eqGuard_no rfl z) (by simp only [binOp, ne_eq, not_true_eq_false, if_false, Op.intCmp]; exact wpS_pure ⟨rfl, rfl⟩)
theorem exd_geq {k : IntKind} {T T' : TypeId} {x y : Operand} {a b : Int} (hx : evl tm x = .int k a) (hy : evl tm y = .int k b) : Exd P tm ⟨d, .binOp .geq T x y T', ty, pos, aft, gd⟩ h (.bool (decide (b ≤ a))) :=
  exd_bin hx hy (fun K z => wpS_eqGuard_no rfl z) (by simp only [binOp, ne_eq, not_true_eq_false, if_false, Op.intCmp]; exact wpS_pure ⟨rfl, rfl⟩)
theorem exd_eql {k : IntKind} {T T' : TypeId} {x y : Operand} {a b : Int} (hx : evl tm x = .int k a) (hy : evl tm y = .int k b) : Exd P tm ⟨d, .binOp .eql T x y T', ty, pos, aft, gd⟩ h (.bool (decide (a = b))) :=
  exd_bin hx hy (fun K z => wpS_eqGuard_int z) (by simp only [binOp, ne_eq, not_true_eq_false, if_false, Op.intCmp]; exact wpS_pure ⟨by rw [ibeq], rfl⟩)
theorem exd_neq {k : IntKind} {T T' : TypeId} {x y : Operand} {a b : Int} (hx : evl tm x = .int k a) (hy : evl tm y = .int k b) : Exd P tm ⟨d, .binOp .neq T x y T', ty, pos, aft, gd⟩ h (.bool (decide (a ≠ b))) :=
  exd_bin hx hy (fun K z => wpS_eqGuard_int z) (by simp only [binOp, ne_eq, not_true_eq_false, if_false, Op.intCmp]; exact wpS_pure ⟨by simp [bne, ibeq], rfl⟩)

theorem exd_not {T : TypeId} {x : Operand} {b : Bool} (hx : evl tm x = .bool b) : Exd P tm ⟨d, .unOp .not T x, ty, pos, aft, gd⟩ h (.bool (!b)) :=
  exd_of (s := pure (.bool (!b))) (by simp only [execOp, hx, Op.unary]) (wpS_pure ⟨rfl, rfl⟩)
theorem exd_builtin {b : Builtin} {args : Array Operand} {ats : Array TypeId} {v : Value} {s : Sem Value}
    (e : ∀ cs, builtin b ats ty cs (args.map (evl tm)) = (do pure (.value (← s)))) (x : wpS P s h fun v' h' => v' = v ∧ h' = h) :
    Exd P tm ⟨d, .call { callee := .builtin b, args := args, argTypes := ats }, ty, pos, aft, gd⟩ h v := by
  unfold Exd Ex
  simp only [execOp, resolve]
  refine wpS_bind (wpS_pure ?_)
  simp only [invoke]
  rw [e]
  refine wpS_bind (wpS_mono x fun v' h' ⟨e1, e2⟩ => ?_)
  exact wpS_pure ⟨v', rfl, e1, e2⟩

theorem exd_len {t e : TypeId} {x : Operand} {a : Option Addr} {n c : Nat} (ht : P.underlying t = some (.slice e)) (hx : evl tm x = .slice a n c) :
    Exd P tm ⟨d, .call { callee := .builtin .len, args := #[x], argTypes := #[t] }, ty, pos, aft, gd⟩ h (.int .i64 n) := by
  refine exd_builtin (s := Builtin.len_ #[t] ty #[.slice a n c]) (fun cs => by simp only [builtin, List.map_toArray, List.map_cons, List.map_nil, hx]) ?_
  simp only [Builtin.len_]
  refine wpS_bind (wpS_underlying ht ?_)
  exact wpS_pure ⟨rfl, rfl⟩
theorem exd_min {ats : Array TypeId} {k k' : IntKind} {x y : Operand} {a b : Int} (hx : evl tm x = .int k a) (hy : evl tm y = .int k' b) :
    Exd P tm ⟨d, .call { callee := .builtin .min, args := #[x, y], argTypes := ats }, ty, pos, aft, gd⟩ h (.int k (min a b)) := by
  refine exd_builtin (s := pure (.int k (min a b))) (fun cs => ?_) (wpS_pure ⟨rfl, rfl⟩)
  have e : (if b < a then b else a) = min a b := by rw [Int.min_def]; split <;> split <;> omega
  simp [builtin, hx, hy, Builtin.min_, Builtin.min2, e]
theorem exd_max {ats : Array TypeId} {k k' : IntKind} {x y : Operand} {a b : Int} (hx : evl tm x = .int k a) (hy : evl tm y = .int k' b) :
    Exd P tm ⟨d, .call { callee := .builtin .max, args := #[x, y], argTypes := ats }, ty, pos, aft, gd⟩ h (.int k (max a b)) := by
  refine exd_builtin (s := pure (.int k (max a b))) (fun cs => ?_) (wpS_pure ⟨rfl, rfl⟩)
  have e : (if b > a then b else a) = max a b := by rw [Int.max_def]; split <;> split <;> omega
  simp [builtin, hx, hy, Builtin.max_, Builtin.max2, e]

theorem exd_extract {x : Operand} {i : Nat} {vs : Array Value} {v : Value} (hx : evl tm x = .tuple vs) (hv : vs[i]? = some v) : Exd P tm ⟨d, .extract x i, ty, pos, aft, gd⟩ h v :=
  exd_of (s := pure v) (by simp only [execOp, hx, Instr.extract, hv]) (wpS_pure ⟨rfl, rfl⟩)

theorem exd_makeFunc {fn : Fn} {first cap : List Operand} {a b : List Value} (ha : first.map (evl tm) = a) (hb : cap.map (evl tm) = b) : Exd P tm ⟨d, .makeFunc fn first.toArray cap.toArray, ty, pos, aft, gd⟩ h (.func fn a.toArray b.toArray) :=
  exd_of (s := pure (.func fn a.toArray b.toArray)) (by simp only [execOp, Instr.makeFunc, ← ha, ← hb, List.map_toArray]) (wpS_pure ⟨rfl, rfl⟩)

theorem wpS_fieldsPlaces {fs : List Field} : ∀ {pl : List (Nat × Nat)} {acc : Array (Nat × Nat)} {K : Array (Nat × Nat) → Heap → Prop},
    (fs.mapM fun f => (sizeT P f.type).map fun n => (f.offset, n)) = some pl → K (acc ++ pl.toArray) h →
    wpS P (fs.foldlM (fun (bs : Array (Nat × Nat)) f => bs.push <$> (do pure (f.offset, ← sizeOf f.type) : Sem (Nat × Nat))) acc) h K := by
  induction fs with
  | nil => intro pl acc K e x; simp at e; subst e; exact wpS_pure (by simpa using x)
  | cons f fs ih =>
    intro pl acc K e x
    simp only [List.mapM_cons, Option.bind_eq_bind] at e
    cases hs : sizeT P f.type with
    | none => rw [hs] at e; cases e
    | some n =>
      rw [hs] at e
      simp only [Option.map_some, Option.bind_some] at e
      cases hr : (fs.mapM fun f => (sizeT P f.type).map fun n => (f.offset, n)) with
      | none => rw [hr] at e; cases e
      | some pl' =>
        rw [hr] at e
        simp at e
        subst e
        rw [List.foldlM_cons]
        refine wpS_bind ?_
        show wpS P (Sem.bind _ _) h _
        refine wpS_bind' ?_
        refine wpS_bind (wpS_sizeOf hs ?_)
        refine wpS_pure ?_
        refine wpS_pure ?_
        exact ih hr (by simpa using x)

theorem exd_build {t : TypeId} {parts : List (Nat × Operand)} {z : Value} {pl : List (Nat × Nat)} {cells : Array Value} {vs : List (Nat × Value)} (hz : zeroT P t = some z) (hp : placesT P t = some pl)
    (hvs : (parts.map fun (i, x) => (i, evl tm x)) = vs) (hf : Instr.fill (fun i => pl[i]?) z.cells vs = some cells) : Exd P tm ⟨d, .build t parts.toArray, ty, pos, aft, gd⟩ h (.agg cells) := by
  unfold placesT at hp
  split at hp
  · rename_i fs hu
    refine exd_of (s := Instr.build t (parts.toArray.map fun (i, x) => (i, evl tm x))) rfl ?_
    unfold Instr.build
    refine wpS_bind (wpS_zeroValue hz ?_)
    refine wpS_bind (wpS_underlying hu ?_)
    refine wpS_bind ?_
    rw [Array.mapM_eq_foldlM, ← Array.foldlM_toList]
    refine wpS_fieldsPlaces hp ?_
    simp only [Array.empty_append, List.map_toArray, hvs, List.getElem?_toArray, hf]
    exact wpS_pure ⟨rfl, rfl⟩
  · cases hp

/-- The place of a struct's field: its offset and the cells of its type (at least one). -/
def fieldT (P : Program) (s : TypeId) (i : Nat) : Option (Nat × Nat) :=
  match P.underlying s with
  | some (.struct fs) => (fs[i]?).bind fun f => (sizeT P f.type).map fun n => (f.offset, n)
  | _ => none

theorem exd_fieldAddr {s : TypeId} {x : Operand} {i o n : Nat} {a a' : Addr} (hf : fieldT P s i = some (o, n + 1)) (hx : evl tm x = .pointer (some a)) (ha : a.add o = a') :
    Exd P tm ⟨d, .fieldAddr s x i, ty, pos, aft, gd⟩ h (.pointer (some a')) := by
  unfold fieldT at hf
  split at hf
  · rename_i fs hu
    cases hi : fs[i]? with
    | none => rw [hi] at hf; cases hf
    | some fd =>
      rw [hi] at hf
      cases hs : sizeT P fd.type with
      | none => simp [hs] at hf
      | some m =>
        simp [hs] at hf
        obtain ⟨h1, rfl⟩ := hf
        refine exd_of (s := Instr.fieldAt s (.pointer (some a)) i) (by simp only [execOp, hx]) ?_
        unfold Instr.fieldAt
        refine wpS_bind (wpS_underlying hu ?_)
        simp only [hi, Instr.sureAddr]
        refine wpS_bind (wpS_pure ?_)
        refine wpS_bind ?_
        unfold fieldPlace
        refine wpS_bind (wpS_sizeOf hs ?_)
        rw [if_neg (by omega)]
        refine wpS_pure ?_
        refine wpS_pure ⟨?_, rfl⟩
        rw [h1, ha]
  · cases hf

theorem exd_indexAddr {t e : TypeId} {x y : Operand} {w n c : Nat} {k : IntKind} {i : Int} {a a' : Addr} (ht : P.underlying t = some (.slice e)) (hs : sizeT P e = some w) (hx : evl tm x = .slice (some a) n c) (hy : evl tm y = .int k i)
    (h0 : 0 ≤ i) (h1 : i < n) (ha : a.add (i.toNat * w) = a') : Exd P tm ⟨d, .indexAddr t x y, ty, pos, aft, gd⟩ h (.pointer (some a')) := by
  refine exd_of (s := Instr.indexAt t (.slice (some a) n c) (.int k i)) (by simp only [execOp, hx, hy]) ?_
  unfold Instr.indexAt
  refine wpS_bind (wpS_pure ?_)
  simp only
  refine wpS_bind (wpS_underlying ht ?_)
  simp only
  refine wpS_bind (wpS_pure ?_)
  simp only
  refine wpS_bind (wpS_underlying ht ?_)
  rw [if_pos ⟨h0, h1⟩]
  refine wpS_bind (wpS_sizeOf hs ?_)
  exact wpS_pure ⟨by rw [ha], rfl⟩

theorem exd_indexAddrN {t e : TypeId} {x y : Operand} {w n c i : Nat} {k : IntKind} {a : Addr} (ht : P.underlying t = some (.slice e)) (hs : sizeT P e = some w) (hx : evl tm x = .slice (some a) n c) (hy : evl tm y = .int k (i : Nat))
    (h1 : i < n) : Exd P tm ⟨d, .indexAddr t x y, ty, pos, aft, gd⟩ h (.pointer (some (a.add (i * w)))) :=
  exd_indexAddr ht hs hx hy (by omega) (by omega) (by rw [Int.toNat_natCast])

theorem exd_load {t : TypeId} {x : Operand} {a : Addr} {v : Value} (ht : aggT P t = some false) (hx : evl tm x = .pointer (some a)) (hc : cell? h a = some v) : Exd P tm ⟨d, .load t x, ty, pos, aft, gd⟩ h v := by
  refine exd_of (s := Instr.loadAt t (.pointer (some a))) (by simp only [execOp, hx]) ?_
  unfold Instr.loadAt
  refine wpS_bind (wpS_pure ?_)
  exact wpS_loadVar1 ht hc ⟨rfl, rfl⟩
theorem exd_loadN {t : TypeId} {x : Operand} {a : Addr} {n : Nat} {vs : List Value} (ht : aggT P t = some true) (hs : sizeT P t = some n) (hn : vs.length = n) (hx : evl tm x = .pointer (some a))
    (hc : ∀ j v, vs[j]? = some v → cell? h (a.add j) = some v) : Exd P tm ⟨d, .load t x, ty, pos, aft, gd⟩ h (.agg vs.toArray) := by
  refine exd_of (s := Instr.loadAt t (.pointer (some a))) (by simp only [execOp, hx]) ?_
  unfold Instr.loadAt
  refine wpS_bind (wpS_pure ?_)
  exact wpS_loadVarN ht hs hn hc ⟨rfl, rfl⟩

section
variable {h₀ : Heap} {B₀ : List Nat} {p : PHeap} {L : List (Nat × Obj)}

/-- Out of the call's own block number 'i'. -/
theorem exd_load_own {t : TypeId} {x : Operand} {i b off : Nat} {cs : Array Value} {T : TypeId} {z : Nat × Nat} {v : Value} (s : St h₀ B₀ p h L) (ht : aggT P t = some false) (hx : evl tm x = .pointer (some ⟨b, off, none⟩))
    (hL : L[i]? = some (b, .cells cs T z)) (hv : cs[off]? = some v) : Exd P tm ⟨d, .load t x, ty, pos, aft, gd⟩ h v :=
  exd_load ht hx (s.ocell hL hv)
theorem exd_loadN_own {t : TypeId} {x : Operand} {i b off n : Nat} {cs : Array Value} {T : TypeId} {z : Nat × Nat} {vs : List Value} (s : St h₀ B₀ p h L) (ht : aggT P t = some true) (hs : sizeT P t = some n) (hx : evl tm x = .pointer (some ⟨b, off, none⟩))
    (hL : L[i]? = some (b, .cells cs T z)) (hv : (cs.toList.drop off).take n = vs) (hn : vs.length = n) : Exd P tm ⟨d, .load t x, ty, pos, aft, gd⟩ h (.agg vs.toArray) :=
  exd_loadN ht hs hn hx fun j v hj => by
    rw [add_mk]
    refine s.ocell hL ?_
    subst hv
    rw [List.getElem?_take] at hj
    split at hj
    · rw [List.getElem?_drop] at hj; simpa using hj
    · cases hj
/-- Out of memory that lasts. -/
theorem exd_load_per {t : TypeId} {x : Operand} {a : Addr} {v : Value} (s : St h₀ B₀ p h L) (ht : aggT P t = some false) (hx : evl tm x = .pointer (some a)) (hv : pcell p a = some v) : Exd P tm ⟨d, .load t x, ty, pos, aft, gd⟩ h v :=
  exd_load ht hx (s.cell hv)
theorem exd_loadN_per {t : TypeId} {x : Operand} {a : Addr} {n : Nat} {vs : List Value} (s : St h₀ B₀ p h L) (ht : aggT P t = some true) (hs : sizeT P t = some n) (hx : evl tm x = .pointer (some a))
    (hn : vs.length = n) (hv : ∀ j v, vs[j]? = some v → pcell p (a.add j) = some v) : Exd P tm ⟨d, .load t x, ty, pos, aft, gd⟩ h (.agg vs.toArray) :=
  exd_loadN ht hs hn hx fun j v hj => s.cell (hv j v hj)

variable {md : Md} {f : FuncId} {r : Rd} {df : List Deferred} {k : List Item} {cs : List Frame} {Stop : Goroutine → Heap → Prop} {ops rest : List Oper} {tm' : List Value}

theorem wpS_newRow {T : TypeId} {cells : Array Value} {K : Addr → Heap → Prop} (x : K ⟨h.size, 0, none⟩ (h.push (.cells cells T))) : wpS P (newRow T cells) h K := by
  unfold newRow
  refine wpS_bind ?_
  exact wpS_pure (P := P) x

theorem rl_box {dd : Nat} {T : TypeId} {x : Operand} {v : Value} (hm : Met ops tm ⟨some dd, .box T x, ty, pos, aft, gd⟩ true) (hx : evl tm x = v)
    (n : ∀ b, RL P md f r df k cs Stop ops rest (tm.set dd (.pointer (some ⟨b, 0, none⟩))) (fun h => St h₀ B₀ p h ((b, .cells v.cells T (0, 0)) :: L))) :
    RL P md f r df k cs Stop ops (⟨some dd, .box T x, ty, pos, aft, gd⟩ :: rest) tm (fun h => St h₀ B₀ p h L) := by
  refine rl_step (K := fun v' h' => ∃ b, v' = .pointer (some ⟨b, 0, none⟩) ∧ St h₀ B₀ p h' ((b, .cells v.cells T (0, 0)) :: L)) hm rfl (fun h s => ?_) fun v' => rl_ex fun b => rl_and fun e => by subst e; exact n b
  unfold Ex
  simp only [execOp, hx]
  refine wpS_bind ?_
  unfold Instr.box newVar
  refine wpS_bind (wpS_newRow ?_)
  refine wpS_pure ?_
  exact wpS_pure ⟨_, rfl, _, rfl, s.push _⟩

theorem rl_alloc {dd : Nat} {T : TypeId} {z : Value} {cells : Array Value} (hm : Met ops tm ⟨some dd, .alloc T, ty, pos, aft, gd⟩ true) (hz : zeroT P T = some z) (hc : z.cells = cells)
    (n : ∀ b, RL P md f r df k cs Stop ops rest (tm.set dd (.pointer (some ⟨b, 0, none⟩))) (fun h => St h₀ B₀ p h ((b, .cells cells T (0, 0)) :: L))) :
    RL P md f r df k cs Stop ops (⟨some dd, .alloc T, ty, pos, aft, gd⟩ :: rest) tm (fun h => St h₀ B₀ p h L) := by
  refine rl_step (K := fun v' h' => ∃ b, v' = .pointer (some ⟨b, 0, none⟩) ∧ St h₀ B₀ p h' ((b, .cells cells T (0, 0)) :: L)) hm rfl (fun h s => ?_) fun v' => rl_ex fun b => rl_and fun e => by subst e; exact n b
  unfold Ex
  simp only [execOp]
  refine wpS_bind ?_
  unfold Instr.alloc
  refine wpS_bind (wpS_zeroValue hz ?_)
  simp only
  unfold newVar
  rw [hc]
  refine wpS_bind (wpS_newRow ?_)
  refine wpS_pure ?_
  exact wpS_pure ⟨_, rfl, _, rfl, s.push _⟩

theorem setIfInBounds_mk (cs : Array Value) (i : Nat) (v : Value) : cs.setIfInBounds i v = (cs.toList.set i v).toArray := by
  apply Array.ext'; simp

/-- Cells stored one behind the other. -/
def setl (cs : List Value) (off : Nat) : List Value → List Value
  | [] => cs
  | v :: vs => setl (cs.set off v) (off + 1) vs

theorem wpS_storeCells {b : Nat} {T : TypeId} {i : Nat} : ∀ {vs : List Value} {off j : Nat} {h : Heap} {cs : List Value} {L : List (Nat × Obj)} {K : Unit → Heap → Prop}, St h₀ B₀ p h L → L[i]? = some (b, .cells cs.toArray T (0, 0)) →
    off + j + vs.length ≤ cs.length → (∀ v ∈ vs, isOne v = true) →
    (∀ h', St h₀ B₀ p h' (L.set i (b, .cells (setl cs (off + j) vs).toArray T (0, 0))) → K () h') → wpS P (storeCells ⟨b, off, none⟩ vs j) h K
  | [], off, j, h, cs, L, K, s, hL, _, _, n => by
    refine wpS_pure (n h ?_)
    have : L.set i (b, .cells (setl cs (off + j) []).toArray T (0, 0)) = L := by
      refine List.ext_getElem? fun m => ?_
      rw [List.getElem?_set]
      split
      · rename_i e; subst e; rw [if_pos (List.getElem?_eq_some_iff.1 hL).1, hL]; rfl
      · rfl
    rw [this]; exact s
  | v :: vs, off, j, h, cs, L, K, s, hL, hlen, h1, n => by
    unfold storeCells
    refine wpS_bind ?_
    rw [add_mk]
    have hi : i < L.length := (List.getElem?_eq_some_iff.1 hL).1
    simp only [List.length_cons] at hlen
    refine ⟨rfl, h1 v (by simp), ⟨cs[off + j], s.ocell hL (by simp)⟩, ?_, ?_⟩
    · unfold frozenAt; rw [s.at hL]; simp
    · show wpS P (storeCells _ vs (j + 1)) _ K
      have s' := s.store (off := off + j) (v := v) hL
      rw [setIfInBounds_mk] at s'
      refine wpS_storeCells (i := i) (T := T) s' (cs := cs.set (off + j) v) (by rw [List.getElem?_set_self hi]) (by simp; omega) (fun u hu => h1 u (by simp [hu])) fun h' s'' => n h' ?_
      rw [List.set_set] at s''
      exact s''

theorem rl_store {T T' : TypeId} {x y : Operand} {i b off : Nat} {cs' cs2 : List Value} {v : Value} {nsz : Nat} (hm : Met ops tm ⟨none, .store T x y, ty, pos, aft, gd⟩ true) (hs : sizeT P T = some nsz)
    (hx : evl tm x = .pointer (some ⟨b, off, none⟩)) (hy : evl tm y = v) (hL : L[i]? = some (b, .cells cs'.toArray T' (0, 0))) (hv : v.cells.size = nsz) (h1 : v.cells.toList.all isOne = true) (hlen : off + v.cells.size ≤ cs'.length) (h2 : setl cs' off v.cells.toList = cs2)
    (n : RL P md f r df k cs Stop ops rest tm (fun h => St h₀ B₀ p h (L.set i (b, .cells cs2.toArray T' (0, 0))))) :
    RL P md f r df k cs Stop ops (⟨none, .store T x y, ty, pos, aft, gd⟩ :: rest) tm (fun h => St h₀ B₀ p h L) := by
  refine rl_unit (K := fun h' => St h₀ B₀ p h' (L.set i (b, .cells cs2.toArray T' (0, 0)))) hm rfl (fun h s => ?_) rfl n
  simp only [execOp, hx, hy]
  refine wpS_bind ?_
  unfold Instr.storeAt
  refine wpS_bind (wpS_pure ?_)
  unfold storeVar
  refine wpS_bind (wpS_sizeOf hs ?_)
  rw [if_neg (by simpa using hv)]
  refine wpS_storeCells s hL (by simpa using hlen) (fun u hu => List.all_eq_true.1 h1 u hu) fun h' s' => ?_
  refine wpS_pure ⟨rfl, ?_⟩
  rw [Nat.add_zero, h2] at s'
  exact s'
/-- What is the call's own, written otherwise. -/
theorem rl_own {L' : List (Nat × Obj)} (e : L = L') (n : RL P md f r df k cs Stop ops rest tm (fun h => St h₀ B₀ p h L')) : RL P md f r df k cs Stop ops rest tm (fun h => St h₀ B₀ p h L) := by subst e; exact n
end
end
end Go.X
namespace Go.X
open Go.Conc

def adr (a : Option Addr) : Addr := a.getD ⟨0, 0, none⟩

theorem sl_ne (a : Option Addr) (n c : Nat) (h : a = some (adr a)) : Value.slice a n c = .slice (some (adr a)) n c := by rw [← h]

/-- 'p' lies in the heap. -/
def Per (p : PHeap) (h : Heap) : Prop := ∀ b o, p b = some o → h[b]? = some o

/-- The slice value 'v' reads, in memory that lasts, as elements with just these cells (each has 'w'). -/
structure Sl (p : PHeap) (a : Option Addr) (n : Nat) (w : Nat) (es : List (List Value)) : Prop where
  len : es.length = n
  wid : ∀ e ∈ es, e.length = w
  ne : 0 < n → a = some (adr a)
  get : ∀ i e, es[i]? = some e → ∀ j x, e[j]? = some x → pcell p ((((adr a).add (i * w))).add j) = some x

theorem Sl.mono {p p' : PHeap} {a : Option Addr} {n w : Nat} {es : List (List Value)} (hp : PLe p p') (s : Sl p a n w es) : Sl p' a n w es :=
  ⟨s.len, s.wid, s.ne, fun i e hi j x hj => hp.cell (s.get i e hi j x hj)⟩

theorem Sl.nil (p : PHeap) (w : Nat) (a : Option Addr) : Sl p a 0 w [] := ⟨rfl, by simp, fun h => absurd h (by omega), by simp⟩

theorem add_add (a : Addr) (m n : Nat) : (a.add m).add n = a.add (m + n) := by
  unfold Addr.add
  by_cases hm : m = 0
  · subst hm; simp
  · by_cases hn : n = 0
    · subst hn; simp
    · rw [if_neg hm, if_neg hn, if_neg (by omega)]
      simp [Nat.add_assoc]

/-- A part of a slice. -/
theorem Sl.cut {p : PHeap} {a : Option Addr} {n w : Nat} {es : List (List Value)} (s : Sl p a n w es) {lo hi : Nat} (h1 : lo ≤ hi) (h2 : hi ≤ n) {a' : Option Addr} (ha : lo < hi → a' = some ((adr a).add (lo * w))) :
    Sl p a' (hi - lo) w ((es.drop lo).take (hi - lo)) := by
  refine ⟨by rw [List.length_take, List.length_drop, s.len]; omega, fun e he => s.wid e (List.mem_of_mem_drop (List.mem_of_mem_take he)), fun h => by rw [ha (by omega)]; rfl, ?_⟩
  intro i e hi' j x hj
  rw [List.getElem?_take] at hi'
  split at hi'
  · rename_i hlt
    rw [List.getElem?_drop] at hi'
    have := s.get _ e hi' j x hj
    rw [ha (by omega)]
    show pcell p ((((adr a).add (lo * w)).add (i * w)).add j) = _
    rw [add_add (adr a), ← Nat.add_mul]
    exact this
  · cases hi'

/-- ints. -/
def Ints (p : PHeap) (a : Option Addr) (n : Nat) (xs : List Int) : Prop := Sl p a n 1 (xs.map fun x => [.int .i64 x])

theorem Ints.len {p : PHeap} {a : Option Addr} {n : Nat} {xs : List Int} (s : Ints p a n xs) : xs.length = n := by have := Sl.len s; simpa using this
theorem Ints.mono {p p' : PHeap} {a : Option Addr} {n : Nat} {xs : List Int} (hp : PLe p p') (s : Ints p a n xs) : Ints p' a n xs := Sl.mono hp s
theorem Ints.ne {p : PHeap} {a : Option Addr} {n : Nat} {xs : List Int} (s : Ints p a n xs) (hk : 0 < n) : a = some (adr a) := Sl.ne s hk
theorem Ints.get {p : PHeap} {a : Option Addr} {n k : Nat} {xs : List Int} (s : Ints p a n xs) (hk : k < n) : pcell p ((adr a).add (k * 1)) = some (.int .i64 (xs.getD k 0)) := by
  have hl := s.len
  have := Sl.get s k [.int .i64 (xs.getD k 0)] (by rw [List.getElem?_map, List.getD_eq_getElem?_getD, List.getElem?_eq_getElem (by omega)]; rfl) 0 _ rfl
  exact this

/-! ### a slice of the call's own -/
/-- 'v' is nil and owns nothing; or it begins at the head of a block 'X' of the call's own, whose first cells are those of its elements. -/
def OwnS (T : TypeId) (w : Nat) (v : Value) (es : List (List Value)) (X : List (Nat × Obj)) : Prop :=
  (∀ e ∈ es, e.length = w) ∧
  ((v = .slice none 0 0 ∧ es = [] ∧ X = []) ∨
   ∃ b cs cap rest, v = .slice (some ⟨b, 0, none⟩) es.length cap ∧ X = [(b, .cells (List.toArray cs) T (0, 0))] ∧ cs = es.flatten ++ rest ∧ cs.length = cap * w)

theorem OwnS.empty (T : TypeId) (w : Nat) : OwnS T w (.slice none 0 0) [] [] := ⟨by simp, .inl ⟨rfl, rfl, rfl⟩⟩

theorem flatten_length {es : List (List Value)} {w : Nat} (h : ∀ e ∈ es, e.length = w) : es.flatten.length = es.length * w := by
  induction es with
  | nil => simp
  | cons e es ih => simp only [List.flatten_cons, List.length_append, List.length_cons, ih fun x hx => h x (by simp [hx]), h e (by simp), Nat.add_mul, Nat.one_mul]; omega

/-- Element 'i', cell 'j' of what lies flat. -/
theorem flatten_get {w : Nat} : ∀ {es : List (List Value)}, (∀ e ∈ es, e.length = w) → ∀ {i : Nat} {e : List Value}, es[i]? = some e → ∀ {j : Nat} {x : Value}, e[j]? = some x → es.flatten[i * w + j]? = some x
  | [], _, i, e, hi, _, _, _ => by simp at hi
  | e₀ :: es, h, i, e, hi, j, x, hj => by
    have h0 := h e₀ (by simp)
    cases i with
    | zero =>
      simp at hi; subst hi
      rw [List.flatten_cons, Nat.zero_mul, Nat.zero_add, List.getElem?_append_left (List.getElem?_eq_some_iff.1 hj).1]
      exact hj
    | succ i =>
      simp at hi
      have := flatten_get (fun x hx => h x (by simp [hx])) hi hj
      rw [List.flatten_cons, List.getElem?_append_right (by rw [h0, Nat.succ_mul]; omega), h0, Nat.succ_mul]
      rw [show i * w + w + j - w = i * w + j from by omega]
      exact this

/-- What a call's own slice lasts as, once its block does. -/
theorem OwnS.last {h₀ h : Heap} {B₀ : List Nat} {p : PHeap} {L X : List (Nat × Obj)} {T : TypeId} {w : Nat} {v : Value} {es : List (List Value)} (o : OwnS T w v es X) (s : St h₀ B₀ p h (X ++ L)) :
    ∃ p' a cap, PLe p p' ∧ St h₀ B₀ p' h L ∧ v = .slice a es.length cap ∧ Sl p' a es.length w es ∧ (∀ b, p b = none → b < h₀.size → b ∉ B₀ → p' b = none) := by
  obtain ⟨hw, ⟨rfl, rfl, rfl⟩ | ⟨b, cs, cap, rest, rfl, rfl, hcs, hlen⟩⟩ := o
  · exact ⟨p, none, 0, .refl _, s, rfl, .nil _ _ _, fun b hb _ _ => hb⟩
  · have hb := s.own (b, .cells cs.toArray T (0, 0)) (by simp)
    obtain ⟨hle, s'⟩ := s.last
    refine ⟨_, some ⟨b, 0, none⟩, cap, hle, s', rfl, ⟨rfl, hw, fun _ => rfl, ?_⟩, ?_⟩
    · intro i e hi j x hj
      show pcell _ (((⟨b, 0, none⟩ : Addr).add (i * w)).add j) = _
      rw [add_mk, add_mk]
      unfold pcell
      simp only [padd_self, Option.isSome_none, Bool.false_eq_true, if_false, List.getElem?_toArray, Nat.zero_add]
      rw [hcs, List.getElem?_append_left]
      · exact flatten_get hw hi hj
      · exact (List.getElem?_eq_some_iff.1 (flatten_get hw hi hj)).1
    · intro c hc hlt hn
      unfold padd
      rw [if_neg]
      · exact hc
      · intro e; subst e
        rcases hb.2.2 with x | x
        · exact absurd hlt (by omega)
        · exact hn x

section
variable {P : Program} {h₀ h : Heap} {B₀ : List Nat} {p : PHeap} {A X C : List (Nat × Obj)}

theorem next_le {need cap by' : Nat} (hc : cap < need) (hn : need * by' ≤ 2 ^ 40) (hb : by' ≤ 2 ^ 20) : Builtin.nextslicecap need cap * by' ≤ 2 ^ 48 := by
  have g : ∀ r c, c ≤ need → Builtin.growBy need r c ≤ 2 * need + 192 * 1 + 192 := by
    intro r
    induction r with
    | zero => intro c hc; simp only [Builtin.growBy]; omega
    | succ r ih =>
      intro c hc
      simp only [Builtin.growBy]
      split
      · omega
      · rename_i hlt
        by_cases h2 : c + (c + 768) / 4 ≤ need
        · exact ih _ h2
        · cases r with
          | zero => simp only [Builtin.growBy]; omega
          | succ r => simp only [Builtin.growBy]; rw [if_pos (by omega)]; omega
  have h1 : Builtin.nextslicecap need cap ≤ 2 * need + 384 := by
    unfold Builtin.nextslicecap
    split
    · omega
    · split
      · omega
      · have := g 4 cap (by omega); omega
  calc Builtin.nextslicecap need cap * by' ≤ (2 * need + 384) * by' := Nat.mul_le_mul_right _ h1
    _ = 2 * (need * by') + 384 * by' := by rw [Nat.add_mul, Nat.mul_assoc]
    _ ≤ 2 ^ 48 := by omega

theorem zeroCells_toList (z : Array Value) (n : Nat) : (Builtin.zeroCells z n).toList.length = n * z.size := by simp [Builtin.zeroCells]

theorem setl_append : ∀ {vs : List Value} {a r : List Value}, vs.length ≤ r.length → setl (a ++ r) a.length vs = a ++ (vs ++ r.drop vs.length)
  | [], a, r, _ => by simp [setl]
  | v :: vs, a, r, hl => by
    match r, hl with
    | x :: r, hl =>
      simp only [setl]
      rw [List.set_append_right _ _ (Nat.le_refl _), Nat.sub_self, List.set_cons_zero]
      have := setl_append (vs := vs) (a := a ++ [v]) (r := r) (by simpa using hl)
      simp only [List.length_append, List.length_singleton, List.append_assoc, List.singleton_append] at this
      rw [this]; simp

/-- APPEND TO A SLICE OF THE CALL's OWN (or to nil): it is the call's own again, and reads as both. -/
theorem wpS_append {sT xT eT eX ty : TypeId} {w m by' : Nat} {v x z : Value} {es news : List (List Value)} {K : Value → Heap → Prop} (hT : P.underlying sT = some (.slice eT)) (hs : sizeT P eT = some w) (hz : zeroT P eT = some z) (hzs : z.cells.size = w)
    (hby : bytesT P eT = some by') (hx : P.underlying xT = some (.slice eX)) (o : OwnS eT w v es X) (s : St h₀ B₀ p h (A ++ (X ++ C)))
    (hlen : ∀ K : Nat → Heap → Prop, K m h → wpS P (Builtin.lenOf x) h K) (hsrc : ∀ K : Array Value → Heap → Prop, K news.flatten.toArray h → wpS P (Builtin.firstCells w m x) h K)
    (hm : news.length = m) (hw : ∀ e ∈ news, e.length = w) (h1 : ∀ u ∈ news.flatten, isOne u = true) (room : (es.length + m) * by' ≤ 2 ^ 40) (hb2 : 0 < by' ∧ by' ≤ 2 ^ 20)
    (n : ∀ v' X' h', OwnS eT w v' (es ++ news) X' → St h₀ B₀ p h' (A ++ (X' ++ C)) → K v' h') : wpS P (Builtin.append_ #[sT, xT] ty #[v, x]) h K := by
  have hinfo : ∃ i, P.info? eT = some i ∧ i.bytes = by' := by
    unfold bytesT at hby
    cases hi : P.info? eT with
    | none => rw [hi] at hby; cases hby
    | some i => rw [hi] at hby; exact ⟨i, rfl, by simpa using hby⟩
  obtain ⟨i, hi, hib⟩ := hinfo
  have hnf := flatten_length hw
  have hwe := o.1
  have hfl : es.flatten.length = es.length * w := flatten_length hwe
  have hwall : ∀ e ∈ es ++ news, e.length = w := fun e he => (List.mem_append.1 he).elim (o.1 e) (hw e)
  have hneed : es.length + m ≤ 2 ^ 40 := Nat.le_trans (Nat.le_mul_of_pos_right _ hb2.1) room
  have base : ∃ base cap, v = .slice base es.length cap ∧ (∀ K : Array Value → Heap → Prop, K es.flatten.toArray h → wpS P (Builtin.firstCells w es.length v) h K) ∧
      ((base = none ∧ es = [] ∧ X = [] ∧ cap = 0) ∨ ∃ b cs rest, base = some ⟨b, 0, none⟩ ∧ X = [(b, .cells (List.toArray cs) eT (0, 0))] ∧ cs = es.flatten ++ rest ∧ cs.length = cap * w) := by
    obtain ⟨_, ⟨rfl, rfl, rfl⟩ | ⟨b, cs, cap, rest, rfl, rfl, hcs, hcl⟩⟩ := o
    · exact ⟨none, 0, rfl, fun K hK => wpS_pure hK, .inl ⟨rfl, rfl, rfl, rfl⟩⟩
    · refine ⟨_, cap, rfl, fun K hK => ?_, .inr ⟨b, cs, rest, rfl, rfl, hcs, hcl⟩⟩
      have hL : (A ++ ([(b, Obj.cells (List.toArray cs) eT (0, 0))] ++ C))[A.length]? = some (b, .cells (List.toArray cs) eT (0, 0)) := by
        rw [List.getElem?_append_right (Nat.le_refl _)]; simp
      show wpS P (loadCells ⟨b, 0, none⟩ (es.length * w)) h K
      refine wpS_loadCells hfl (fun j u hj => ?_) hK
      rw [add_mk]
      refine s.ocell hL ?_
      rw [List.getElem?_toArray, hcs, Nat.zero_add, List.getElem?_append_left (List.getElem?_eq_some_iff.1 hj).1]
      exact hj
  obtain ⟨base, cap, rfl, hold, hbase⟩ := base
  unfold Builtin.append_
  simp only [List.getElem?_toArray, List.getElem?_cons_zero, List.getElem?_cons_succ]
  refine wpS_bind (wpS_underlying hT ?_)
  simp only
  refine wpS_bind (wpS_sizeOf hs ?_)
  refine wpS_bind (wpS_underlying hx ?_)
  simp only
  refine wpS_bind (wpS_pure ?_)
  simp only [Bool.false_eq_true, if_false, Bool.not_false, if_true]
  refine wpS_bind (hlen _ ?_)
  by_cases hc : es.length + m ≤ cap
  · rw [if_pos hc]
    refine wpS_bind (hsrc _ ?_)
    rcases hbase with ⟨rfl, rfl, rfl, rfl⟩ | ⟨b, cs, rest, rfl, rfl, hcs, hcl⟩
    · have hm0 : m = 0 := by simp at hc; exact hc
      have : news = [] := List.eq_nil_of_length_eq_zero (by omega)
      subst this
      subst hm0
      exact wpS_pure (n _ [] h (OwnS.empty _ _) s)
    · have hL : (A ++ ([(b, Obj.cells (List.toArray cs) eT (0, 0))] ++ C))[A.length]? = some (b, .cells (List.toArray cs) eT (0, 0)) := by
        rw [List.getElem?_append_right (Nat.le_refl _)]; simp
      refine wpS_bind ?_
      rw [add_mk]
      have hmul : (es.length + m) * w ≤ cap * w := Nat.mul_le_mul_right _ hc
      rw [Nat.add_mul] at hmul
      have hrl : rest.length = cap * w - es.length * w := by
        have : cs.length = es.flatten.length + rest.length := by rw [hcs]; simp
        omega
      refine wpS_storeCells (i := A.length) s hL (by simp only [Nat.zero_add, Nat.add_zero, hnf, hm, hcl]; omega) h1 fun h' s' => ?_
      refine wpS_pure (n _ [(b, .cells (List.toArray (setl cs (0 + es.length * w + 0) news.flatten)) eT (0, 0))] h' ⟨hwall, .inr ⟨b, _, cap, rest.drop news.flatten.length, ?_, rfl, ?_, ?_⟩⟩ ?_)
      · simp [hm]
      · rw [Nat.zero_add, Nat.add_zero, hcs, ← hfl, setl_append (by rw [hnf, hm]; omega)]
        simp
      · rw [Nat.zero_add, Nat.add_zero, hcs, ← hfl, setl_append (by rw [hnf, hm]; omega)]
        simp only [List.length_append, List.length_drop, hfl, hnf, hm, hrl]
        omega
      · have e2 : (A ++ ([(b, Obj.cells (List.toArray cs) eT (0, 0))] ++ C)).set A.length (b, .cells (List.toArray (setl cs (0 + es.length * w + 0) news.flatten)) eT (0, 0)) = A ++ ([(b, .cells (List.toArray (setl cs (0 + es.length * w + 0) news.flatten)) eT (0, 0))] ++ C) := by
          rw [List.set_append_right _ _ (Nat.le_refl _)]; simp
        rw [e2] at s'
        exact s'
  · rw [if_neg hc]
    refine wpS_bind (wpS_typeInfo hi ?_)
    rw [if_neg (by
      intro hh
      have : (IntKind.i64.max : Int) = 9223372036854775807 := by decide
      rw [this] at hh
      omega)]
    refine wpS_bind (wpS_typeInfo hi ?_)
    rw [hib, if_neg (by have := next_le (by' := by') (by omega : cap < es.length + m) room hb2.2; omega)]
    refine wpS_bind ?_
    show wpS P (choose _) h _
    simp only [choose, wpS, Question.forced, Bool.false_eq_true, if_false, Question.cut]
    intro t
    generalize hnc : es.length + m + t % (2 ^ 63 - (es.length + m)) = nc
    have hnc' : es.length + m ≤ nc := by omega
    refine wpS_bind (wpS_typeInfo hi ?_)
    refine wpS_bind ?_
    have ask : ∀ (b : Nat) (K : Unit → Heap → Prop), K () h → wpS P (askRoom b) h K := by
      intro b K hK
      unfold askRoom
      split
      · exact ⟨rfl, hK⟩
      · exact wpS_pure hK
    refine ask _ _ ?_
    refine wpS_bind (hold _ ?_)
    refine wpS_bind (hsrc _ ?_)
    refine wpS_bind (wpS_zeroValue hz ?_)
    refine wpS_bind (wpS_newRow ?_)
    refine wpS_pure (n _ [(h.size, .cells (List.toArray (es.flatten ++ news.flatten ++ (Builtin.zeroCells z.cells (nc - (es.length + m))).toList)) eT (0, 0))] _ ⟨hwall, .inr ⟨h.size, _, nc, (Builtin.zeroCells z.cells (nc - (es.length + m))).toList, ?_, rfl, by simp, ?_⟩⟩ ?_)
    · simp [hm]
    · simp only [List.length_append, flatten_length o.1, hnf, hm, zeroCells_toList, hzs]
      rw [← Nat.add_mul, ← Nat.add_mul]; congr 1; omega
    · have s1 := s.push (.cells (List.toArray (es.flatten ++ news.flatten ++ (Builtin.zeroCells z.cells (nc - (es.length + m))).toList)) eT (0, 0))
      have s2 := s1.sub (L' := (h.size, .cells (List.toArray (es.flatten ++ news.flatten ++ (Builtin.zeroCells z.cells (nc - (es.length + m))).toList)) eT (0, 0)) :: (A ++ C)) (by
        refine List.Sublist.cons_cons _ ?_
        exact (List.Sublist.refl A).append (List.sublist_append_right X C))
      have s3 := s2.perm (L' := A ++ ([(h.size, .cells (List.toArray (es.flatten ++ news.flatten ++ (Builtin.zeroCells z.cells (nc - (es.length + m))).toList)) eT (0, 0))] ++ C)) (by
        simpa using (List.perm_middle (l₁ := A) (l₂ := C)).symm)
      have e1 : (List.toArray es.flatten ++ List.toArray news.flatten ++ Builtin.zeroCells z.cells (nc - (es.length + m))) = List.toArray (es.flatten ++ news.flatten ++ (Builtin.zeroCells z.cells (nc - (es.length + m))).toList) := by
        apply Array.ext'; simp
      rw [e1]; exact s3

/-- What is appended: a value of 'm' elements whose cells are 'news'. -/
structure Src (P : Program) (h : Heap) (w m : Nat) (x : Value) (news : List (List Value)) : Prop where
  lenOf : ∀ K : Nat → Heap → Prop, K m h → wpS P (Builtin.lenOf x) h K
  cells : ∀ K : Array Value → Heap → Prop, K news.flatten.toArray h → wpS P (Builtin.firstCells w m x) h K
  len : news.length = m
  wid : ∀ e ∈ news, e.length = w

theorem flatten_at {w : Nat} (hw0 : 0 < w) : ∀ {es : List (List Value)}, (∀ e ∈ es, e.length = w) → ∀ {j : Nat} {x : Value}, es.flatten[j]? = some x → ∃ e, es[j / w]? = some e ∧ e[j % w]? = some x
  | [], _, j, x, hj => by simp at hj
  | e :: es, h, j, x, hj => by
    have h0 := h e (by simp)
    rw [List.flatten_cons] at hj
    by_cases hlt : j < w
    · rw [List.getElem?_append_left (by omega)] at hj
      exact ⟨e, by rw [Nat.div_eq_of_lt hlt]; rfl, by rw [Nat.mod_eq_of_lt hlt]; exact hj⟩
    · rw [List.getElem?_append_right (by omega), h0] at hj
      obtain ⟨e', h1, h2⟩ := flatten_at hw0 (fun x hx => h x (by simp [hx])) hj
      refine ⟨e', ?_, ?_⟩
      · rw [show j / w = (j - w) / w + 1 from by
          rw [← Nat.add_div_right _ hw0]; congr 1; omega]
        simpa using h1
      · rw [show j % w = (j - w) % w from by
          rw [← Nat.add_mod_right (j - w)]; congr 1; omega]
        exact h2

/-- A slice that lasts. -/
theorem src_per {a : Option Addr} {m cap w : Nat} {news : List (List Value)} (s : St h₀ B₀ p h C) (hw0 : 0 < w) (d : Sl p a m w news) : Src P h w m (.slice a m cap) news := by
  refine ⟨fun K hK => wpS_pure hK, fun K hK => ?_, d.len, d.wid⟩
  by_cases h0 : m = 0
  · subst h0
    have : news = [] := List.eq_nil_of_length_eq_zero d.len
    subst this
    cases a with
    | none => exact wpS_pure hK
    | some a =>
      show wpS P (loadCells a (0 * w)) h K
      exact wpS_loadCells (vs := []) (by simp) (by simp) hK
  · rw [d.ne (by omega)]
    show wpS P (loadCells (adr a) (m * w)) h K
    refine wpS_loadCells (by rw [flatten_length d.wid, d.len]) (fun j u hj => ?_) hK
    obtain ⟨e, h1, h2⟩ := flatten_at hw0 d.wid hj
    have := s.cell (d.get _ e h1 _ u h2)
    rw [add_add] at this
    rwa [show j / w * w + j % w = j from by rw [Nat.mul_comm]; exact Nat.div_add_mod j w] at this

theorem src_nil {w : Nat} : Src P h w 0 (.slice none 0 0) [] := ⟨fun K hK => wpS_pure hK, fun K hK => wpS_pure hK, rfl, by simp⟩

section
variable {md : Md} {f : FuncId} {r : Rd} {df : List Deferred} {k : List Item} {cs : List Frame} {Stop : Goroutine → Heap → Prop} {ops rest : List Oper} {tm : List Value}
  {ty : TypeId} {pos : String} {aft : Array Edge} {gd : Option (Nat × Bool)}

end
end
end Go.X
namespace Go.X
open Go.Conc

/-- The numbers of the operations behind which 'o' comes. -/
def preds (o : Oper) : List Nat := (o.after.toList.filter (Region.binds .any)).map (·.on)

/-- The temporaries that 'o' looks at, its guard's among them. -/
def looks (ops : List Oper) (o : Oper) : List Tmp :=
  o.op.operands.toList.filterMap (fun | .tmp t => some t | _ => none) ++ (match o.guard with | some (j, _) => ((ops[j]?).bind (·.dst)).toList | none => [])

def noSel : Op → Bool
  | .select .. => false
  | _ => true

/-- Does 'o' come behind 'j', by 'cl' (behind whom each comes)? -/
def behind (cl : List (List Nat)) (o : Oper) (j : Nat) : Bool := (preds o).contains j || (preds o).any fun k => (cl.getD k []).contains j

/-- Operations 'm' and on come last, in the text's order; those ahead of them write each a temporary of its own, and look at none of each other's but behind it. -/
def stable (ops : List Oper) (m : Nat) (cl : List (List Nat)) : Bool :=
  (ops.zipIdx.all fun (o, i) =>
    (preds o).all (· < i) && (cl.getD i []).all (fun j => decide (j < i) && behind cl o j) &&
    (if m ≤ i then (List.range i).all fun j => behind cl o j else
      noSel o.op && ops.zipIdx.all fun (o', j) => !decide (j < m) || (match o'.dst with
        | some d => (decide (i = j) || decide (o.dst ≠ some d)) && (!(looks ops o).contains d || (preds o).contains j)
        | none => true)))

theorem mem_preds {o : Oper} {j : Nat} : j ∈ preds o ↔ ∃ e ∈ o.after, Region.binds .any e = true ∧ e.on = j := by
  unfold preds
  simp only [List.mem_map, List.mem_filter, Array.mem_toList_iff]
  constructor
  · rintro ⟨e, ⟨h1, h2⟩, h3⟩; exact ⟨e, h1, h2, h3⟩
  · rintro ⟨e, h1, h2, h3⟩; exact ⟨e, ⟨h1, h2⟩, h3⟩

section
variable {ops : List Oper} {m : Nat} {cl : List (List Nat)}

theorem stable_at (hs : stable ops m cl = true) {i : Nat} {o : Oper} (ho : ops[i]? = some o) :
    (∀ j ∈ preds o, j < i) ∧ (m ≤ i → ∀ j < i, behind cl o j = true) ∧
    (i < m → noSel o.op = true ∧ ∀ (j : Nat) (o' : Oper) (d : Nat), j < m → ops[j]? = some o' → o'.dst = some d → (i = j ∨ o.dst ≠ some d) ∧ (d ∈ looks ops o → j ∈ preds o)) := by
  unfold stable at hs
  rw [List.all_eq_true] at hs
  have hmem : (o, i) ∈ ops.zipIdx := by rw [List.mem_zipIdx_iff_getElem?]; exact ho
  have h := hs (o, i) hmem
  simp only [Bool.and_eq_true, List.all_eq_true, decide_eq_true_eq] at h
  refine ⟨h.1.1, fun hm => ?_, fun hm => ?_⟩
  · rw [if_pos hm] at h
    intro j hj
    exact List.all_eq_true.1 h.2 j (List.mem_range.2 hj)
  · rw [if_neg (by omega)] at h
    have h2 := h.2
    rw [Bool.and_eq_true] at h2
    refine ⟨h2.1, fun j o' d hj ho' hd => ?_⟩
    have hmem' : (o', j) ∈ ops.zipIdx := by rw [List.mem_zipIdx_iff_getElem?]; exact ho'
    have h3 := List.all_eq_true.1 h2.2 (o', j) hmem'
    simp only [hd, hj, decide_true, Bool.not_true, Bool.false_or, Bool.and_eq_true, Bool.or_eq_true, decide_eq_true_eq, Bool.not_eq_true', List.contains_eq_mem, decide_eq_false_iff_not] at h3
    refine ⟨h3.1, fun hl => ?_⟩
    rcases h3.2 with x | x
    · exact absurd hl (by simpa using x)
    · simpa using x

theorem stable_cl (hs : stable ops m cl = true) {i j : Nat} {o : Oper} (ho : ops[i]? = some o) (hj : j ∈ cl.getD i []) : j < i ∧ behind cl o j = true := by
  unfold stable at hs
  rw [List.all_eq_true] at hs
  have hmem : (o, i) ∈ ops.zipIdx := by rw [List.mem_zipIdx_iff_getElem?]; exact ho
  have h := hs (o, i) hmem
  simp only [Bool.and_eq_true, List.all_eq_true, decide_eq_true_eq] at h
  exact h.1.2 j hj

theorem behind_iff {o : Oper} {j : Nat} : behind cl o j = true ↔ j ∈ preds o ∨ ∃ k ∈ preds o, j ∈ cl.getD k [] := by
  unfold behind
  simp only [Bool.or_eq_true, List.any_eq_true, List.contains_iff_mem]

/-- What is listed is closed. -/
theorem behind_listed (hs : stable ops m cl = true) {l : Array Bool} (hsz : l.size = ops.length) (hl : ∀ (j : Nat) (o : Oper), l.getD j false = true → ops[j]? = some o → ∀ x ∈ preds o, l.getD x false = true) :
    ∀ (n : Nat) (o : Oper) (j : Nat), (∀ x ∈ preds o, x < n ∧ l.getD x false = true) → behind cl o j = true → l.getD j false = true := by
  intro n
  induction n with
  | zero =>
    intro o j hp hb
    rcases behind_iff.1 hb with h | ⟨k, h, _⟩
    · exact (hp j h).2
    · exact absurd (hp k h).1 (by omega)
  | succ n ih =>
    intro o j hp hb
    rcases behind_iff.1 hb with h | ⟨k, h, h2⟩
    · exact (hp j h).2
    · obtain ⟨hk, hkl⟩ := hp k h
      have hk2 : k < ops.length := by
        rcases Nat.lt_or_ge k l.size with h | h
        · omega
        · simp [Array.getD, Nat.not_lt.2 h] at hkl
      have ho := List.getElem?_eq_getElem hk2
      exact ih ops[k] j (fun x hx => ⟨Nat.lt_of_lt_of_le ((stable_at hs ho).1 x hx) (by omega), hl k _ hkl ho x hx⟩) (stable_cl hs ho h2).2

/-- 's' brings what is ahead of the tail and not yet listed, each behind what it must come behind. -/
inductive Ord (ops : List Oper) (m : Nat) : Array Bool → List Nat → Prop
  | nil {l : Array Bool} (h : ∀ j < m, l.getD j false = true) : Ord ops m l []
  | cons {l : Array Bool} {i : Nat} {s : List Nat} {o : Oper} (hi : i < m) (ho : ops[i]? = some o) (hn : l.getD i true = false) (hp : ∀ j ∈ preds o, l.getD j false = true) (hs : Ord ops m (l.setIfInBounds i true) s) : Ord ops m l (i :: s)

theorem getD_lt {l : Array Bool} {i : Nat} (hi : i < l.size) : l.getD i true = l.getD i false := by simp [Array.getD, hi]

theorem ready_iff {l : Array Bool} {i : Nat} : i ∈ Region.ready .any ops.toArray l ↔ l.getD i true = false ∧ ∃ o, ops[i]? = some o ∧ ∀ j ∈ preds o, l.getD j false = true := by
  rw [mem_ready]
  constructor
  · rintro ⟨h1, o, h2, h3⟩
    refine ⟨h1, o, by simpa using h2, fun j hj => ?_⟩
    obtain ⟨e, he, hb, rfl⟩ := mem_preds.1 hj
    exact h3 e he hb
  · rintro ⟨h1, o, h2, h3⟩
    exact ⟨h1, o, by simpa using h2, fun e he hb => h3 _ (mem_preds.2 ⟨e, he, hb, rfl⟩)⟩

theorem go_succ (fuel t : Nat) (l : Array Bool) : Region.linearise.go .any ops.toArray (fuel + 1) t l [] = (match (Region.ready .any ops.toArray l)[t % (Region.ready .any ops.toArray l).length]? with
      | some i => i :: Region.linearise.go .any ops.toArray fuel (t / (Region.ready .any ops.toArray l).length) (l.setIfInBounds i true) []
      | none => []) := by
  simp only [Region.linearise.go]
  change (match (Region.ready .any ops.toArray l)[t % (Region.ready .any ops.toArray l).length]? with
      | some i => Region.linearise.go .any ops.toArray fuel (t / (Region.ready .any ops.toArray l).length) (l.setIfInBounds i true) [i]
      | none => [].reverse) = _
  split
  · rw [linearise_go_acc]; simp
  · rfl

/-- how many are not listed yet -/
def openN (l : Array Bool) (n : Nat) : Nat := (List.range n).countP fun i => !l.getD i false

theorem open_set {l : Array Bool} {n i : Nat} (hi : i < n) (hl : l.size = n) (h : l.getD i true = false) : openN (l.setIfInBounds i true) n + 1 ≤ openN l n := by
  unfold openN
  have key : ∀ k, k ≤ n → (List.range k).countP (fun j => !(l.setIfInBounds i true).getD j false) + (if i < k then 1 else 0) ≤ (List.range k).countP (fun j => !l.getD j false) := by
    intro k
    induction k with
    | zero => intro _; simp
    | succ k ih =>
      intro hk
      have ih := ih (by omega)
      rw [List.range_succ, List.countP_append, List.countP_append]
      simp only [List.countP_singleton]
      by_cases e : i = k
      · subst e
        have h1 : (l.setIfInBounds i true).getD i false = true := by simp [Array.getD, hl, hi]
        have h2 : l.getD i false = false := by rw [← getD_lt (by omega)]; exact h
        rw [h1, h2]
        simp at ih ⊢
        omega
      · rw [getD_set_ne false e]
        have h3 : (if i < k + 1 then 1 else 0) = (if i < k then 1 else 0) := by
          by_cases h : i < k
          · rw [if_pos h, if_pos (by omega)]
          · rw [if_neg h, if_neg (by omega)]
        rw [h3]; omega
  have := key n (Nat.le_refl _)
  rw [if_pos hi] at this
  exact this

theorem open_pos {l : Array Bool} {n i : Nat} (hi : i < n) (h : l.getD i false = false) : 0 < openN l n := by
  unfold openN
  rw [List.countP_pos_iff]
  exact ⟨i, by simpa using hi, by simp [h]⟩

theorem tail_order (hs : stable ops m cl = true) : ∀ (fuel t c : Nat) (l : Array Bool), m ≤ c → c ≤ ops.length → l.size = ops.length → (∀ j, l.getD j false = decide (j < c)) → ops.length - c ≤ fuel →
    Region.linearise.go .any ops.toArray fuel t l [] = List.range' c (ops.length - c) := by
  intro fuel
  induction fuel with
  | zero => intro t c l _ _ _ _ hf; rw [show ops.length - c = 0 from by omega]; rfl
  | succ fuel ih =>
    intro t c l hm hc hl hd hf
    rw [go_succ]
    by_cases he : c = ops.length
    · have : Region.ready .any ops.toArray l = [] := by
        rw [List.eq_nil_iff_forall_not_mem]
        intro i hi
        obtain ⟨h1, o, ho, _⟩ := ready_iff.1 hi
        have hlt := (List.getElem?_eq_some_iff.1 ho).1
        rw [getD_lt (by omega), hd] at h1
        simp at h1; omega
      rw [this, show ops.length - c = 0 from by omega]; rfl
    · have hlt : c < ops.length := by omega
      have hr : Region.ready .any ops.toArray l = [c] := by
        have hmem : ∀ i, i ∈ Region.ready .any ops.toArray l ↔ i = c := by
          intro i
          rw [ready_iff]
          constructor
          · rintro ⟨h1, o, ho, hp⟩
            have hil := (List.getElem?_eq_some_iff.1 ho).1
            rw [getD_lt (by omega), hd] at h1
            simp at h1
            rcases Nat.lt_or_ge c i with hci | hci
            · have := behind_listed hs hl (fun j o' hj ho' x hx => by
                rw [hd] at hj ⊢; simp at hj ⊢; exact Nat.lt_trans ((stable_at hs ho').1 x hx) hj) i o c (fun x hx => ⟨(stable_at hs ho).1 x hx, hp x hx⟩) ((stable_at hs ho).2.1 (by omega) c hci)
              rw [hd] at this; simp at this
            · omega
          · rintro rfl
            refine ⟨by rw [getD_lt (by omega), hd]; simp, _, List.getElem?_eq_getElem hlt, fun j hj => ?_⟩
            rw [hd]; simpa using (stable_at hs (List.getElem?_eq_getElem hlt)).1 j hj
        have hnd : (Region.ready .any ops.toArray l).Nodup := by unfold Region.ready; exact List.nodup_range.sublist List.filter_sublist
        match hre : Region.ready .any ops.toArray l, hmem, hnd with
        | [], hmem, _ => exact absurd ((hmem c).2 rfl) (by simp)
        | [x], hmem, _ => rw [(hmem x).1 (by simp)]
        | x :: y :: z, hmem, hnd =>
          have h1 := (hmem x).1 (by simp)
          have h2 := (hmem y).1 (by simp)
          subst h1; subst h2
          simp at hnd
      rw [hr]
      simp only [List.length_singleton, Nat.mod_one, List.getElem?_cons_zero]
      rw [ih _ (c + 1) _ (by omega) (by omega) (by simpa using hl) (fun j => ?_) (by omega)]
      · rw [show ops.length - c = ops.length - (c + 1) + 1 from by omega, List.range'_succ]
      · by_cases e : c = j
        · subst e; simp [Array.getD, hl, hlt]
        · rw [getD_set_ne false e, hd]
          by_cases h : j < c
          · rw [decide_eq_true h, decide_eq_true (by omega)]
          · rw [decide_eq_false h, decide_eq_false (by omega)]

theorem order_split (hs : stable ops m cl = true) (hm : m ≤ ops.length) : ∀ (fuel t : Nat) (l : Array Bool), l.size = ops.length → (∀ j, m ≤ j → l.getD j false = false) → (∀ (j : Nat) (o : Oper), l.getD j false = true → ops[j]? = some o → ∀ x ∈ preds o, l.getD x false = true) → openN l ops.length ≤ fuel →
    ∃ s, Region.linearise.go .any ops.toArray fuel t l [] = s ++ List.range' m (ops.length - m) ∧ Ord ops m l s := by
  intro fuel
  induction fuel with
  | zero =>
    intro t l hl htail _ hf
    have hall : ∀ j, j < ops.length → l.getD j false = true := fun j hj => by
      cases h : l.getD j false
      · have := open_pos hj h; omega
      · rfl
    have hme : m = ops.length := by
      rcases Nat.lt_or_ge m ops.length with h | h
      · have := hall m h; rw [htail m (Nat.le_refl _)] at this; cases this
      · omega
    exact ⟨[], by rw [hme, Nat.sub_self]; rfl, .nil fun j hj => hall j (by omega)⟩
  | succ fuel ih =>
    intro t l hl htail hcl hf
    by_cases hall : ∀ j < m, l.getD j false = true
    · refine ⟨[], ?_, .nil hall⟩
      rw [List.nil_append]
      refine tail_order hs _ _ m l (Nat.le_refl _) hm hl (fun j => ?_) ?_
      · by_cases h : j < m
        · rw [hall j h, decide_eq_true h]
        · rw [htail j (by omega), decide_eq_false h]
      · have : ops.length - m ≤ openN l ops.length := by
          unfold openN
          have e : List.range ops.length = List.range m ++ (List.range (ops.length - m)).map (m + ·) := by
            rw [← List.range_add, show m + (ops.length - m) = ops.length from by omega]
          rw [e, List.countP_append]
          have : ((List.range (ops.length - m)).map (m + ·)).countP (fun i => !l.getD i false) = ops.length - m := by
            rw [List.countP_eq_length.2]
            · simp
            · intro x hx
              obtain ⟨y, _, rfl⟩ := List.mem_map.1 hx
              rw [htail _ (by omega)]; rfl
          omega
        omega
    · -- somebody ahead of the tail stands open: the least of them is ready
      have hex : ∃ i, i < m ∧ l.getD i false = false ∧ ∀ j < i, l.getD j false = true := by
        have : ∃ i, i < m ∧ l.getD i false = false := by
          refine Classical.byContradiction fun hn => hall fun j hj => ?_
          cases h : l.getD j false
          · exact absurd ⟨j, hj, h⟩ hn
          · rfl
        obtain ⟨i, hi, hf⟩ := this
        induction i using Nat.strongRecOn with
        | _ i ih =>
          by_cases hlow : ∀ j < i, l.getD j false = true
          · exact ⟨i, hi, hf, hlow⟩
          · have : ∃ j, j < i ∧ l.getD j false = false := by
              refine Classical.byContradiction fun hn => hlow fun j hj => ?_
              cases h : l.getD j false
              · exact absurd ⟨j, hj, h⟩ hn
              · rfl
            obtain ⟨j, hj, hjf⟩ := this
            exact ih j hj (by omega) hjf
      obtain ⟨i₀, hi₀, hf₀, hlow₀⟩ := hex
      have hr₀ : i₀ ∈ Region.ready .any ops.toArray l := by
        rw [ready_iff]
        refine ⟨by rw [getD_lt (by omega)]; exact hf₀, _, List.getElem?_eq_getElem (by omega), fun j hj => hlow₀ j ((stable_at hs (List.getElem?_eq_getElem (by omega))).1 j hj)⟩
      rw [go_succ]
      cases hre : (Region.ready .any ops.toArray l)[t % (Region.ready .any ops.toArray l).length]? with
      | none =>
        have hlen : 0 < (Region.ready .any ops.toArray l).length := List.length_pos_of_mem hr₀
        have := Nat.mod_lt t hlen
        rw [List.getElem?_eq_none_iff] at hre
        omega
      | some i =>
        obtain ⟨h1, o, ho, hp⟩ := ready_iff.1 (List.mem_of_getElem? hre)
        have hil := (List.getElem?_eq_some_iff.1 ho).1
        have him : i < m := by
          rcases Nat.lt_or_ge i m with h | h
          · exact h
          · have := behind_listed hs hl hcl i o i₀ (fun x hx => ⟨(stable_at hs ho).1 x hx, hp x hx⟩) ((stable_at hs ho).2.1 h i₀ (by omega))
            rw [hf₀] at this; cases this
        obtain ⟨s, e, hord⟩ := ih (t / (Region.ready .any ops.toArray l).length) (l.setIfInBounds i true) (by simpa using hl) (fun j hj => by rw [getD_set_ne false (by omega)]; exact htail j hj) (fun j o' hj ho' x hx => by
          by_cases e' : i = j
          · subst e'
            rw [ho] at ho'; cases ho'
            have hx' := hp x hx
            by_cases e2 : i = x
            · subst e2; simp [Array.getD, hl, hil]
            · rw [getD_set_ne false e2]; exact hx'
          · rw [getD_set_ne false e'] at hj
            by_cases e2 : i = x
            · subst e2; simp [Array.getD, hl, hil]
            · rw [getD_set_ne false e2]; exact hcl j o' hj ho' x hx) (by
          have := open_set hil hl h1; omega)
        refine ⟨i :: s, ?_, .cons him ho h1 hp hord⟩
        simp only
        rw [e]; rfl

theorem order_all (hs : stable ops m cl = true) (hm : m ≤ ops.length) (t : Nat) :
    ∃ s, Region.linearise .any ops.toArray t = s ++ List.range' m (ops.length - m) ∧ Ord ops m (Array.replicate ops.length false) s := by
  unfold Region.linearise
  have := order_split hs hm ops.length t (Array.replicate ops.length false) (by simp) (fun j _ => by simp [Array.getD]) (fun j _ hj => by simp [Array.getD] at hj) (by
    unfold openN; have := List.countP_le_length (p := fun i => !(Array.replicate ops.length false).getD i false) (l := List.range ops.length); simpa using this)
  simpa using this
end

/-- 'o' yields 'v' wherever 'Base' holds, and keeps 'Base': an operation, or a call. -/
def OpTo (P : Program) (md : Md) (tm : List Value) (o : Oper) (Base : Heap → Prop) (v : Value) : Prop :=
  ∀ h, Base h → Ex P tm o h (fun v' h' => v' = v ∧ Base h') ∨
    (∃ g args, (wpS P (execOp (evl tm) o) h fun n h' => n = .enter g args ∧ h' = h) ∧ CallsX P md g args h (fun v' h' => v' = v ∧ Base h')) ∨
    ∀ (c : Frame) (cs : List Frame) (Stop : Goroutine → Heap → Prop), (∀ v' h', v' = v ∧ Base h' → Reach P md (G (c.finish v') cs) h' Stop) → wpS P (execOp (evl tm) o) h (Upon P md c cs Stop)

/-- The operations in the text's order, each where 'Base' holds. -/
def SW (P : Program) (md : Md) (ops : List Oper) (Base : Heap → Prop) : List Oper → List Value → List Value → Prop
  | [], tm, tm' => tm = tm'
  | o :: rest, tm, tm' => noDefer o.op = true ∧ ((Met ops tm o true ∧ ∃ v, OpTo P md tm o Base v ∧ SW P md ops Base rest (putl tm o.dst v) tm') ∨ (Met ops tm o false ∧ SW P md ops Base rest (putl tm o.dst undef) tm'))

section
variable {P : Program} {md : Md} {Base : Heap → Prop} {ops : List Oper} {m : Nat}

/-- What is known of an operation at its turn in the text's order. -/
def Turn (P : Program) (md : Md) (ops : List Oper) (Base : Heap → Prop) (o : Oper) (tm : List Value) (v : Value) : Prop :=
  noDefer o.op = true ∧ ((Met ops tm o true ∧ OpTo P md tm o Base v) ∨ (Met ops tm o false ∧ v = undef))

theorem putl_length (tm : List Value) (d : Option Tmp) (v : Value) : (putl tm d v).length = tm.length := by cases d <;> simp [putl]
theorem putl_ne {tm : List Value} {d : Option Tmp} {v : Value} {x : Nat} (h : d ≠ some x) : (putl tm d v)[x]? = tm[x]? := by
  cases d with
  | none => rfl
  | some y => simp only [putl]; rw [List.getElem?_set_ne]; intro e; exact h (by rw [e])

theorem sw_facts : ∀ {rest : List Oper} {tm tmF : List Value}, SW P md ops Base rest tm tmF →
    (∀ (i j : Nat) (o o' : Oper) (d : Nat), rest[i]? = some o → rest[j]? = some o' → o.dst = some d → o'.dst = some d → i = j) →
    tmF.length = tm.length ∧ (∀ x, (∀ (j : Nat) (o : Oper), rest[j]? = some o → o.dst ≠ some x) → tmF[x]? = tm[x]?) ∧
    ∀ (i : Nat) (o : Oper), rest[i]? = some o → ∃ tmi v, Turn P md ops Base o tmi v ∧ tmi.length = tm.length ∧ (∀ x, (∃ (j : Nat) (o' : Oper), j < i ∧ rest[j]? = some o' ∧ o'.dst = some x) → tmi[x]? = tmF[x]?) ∧
      (∀ x, (∀ (j : Nat) (o' : Oper), j < i → rest[j]? = some o' → o'.dst ≠ some x) → tmi[x]? = tm[x]?) ∧ ∀ x, o.dst = some x → tmF[x]? = (putl tmi o.dst v)[x]?
  | [], tm, tmF, h, _ => by
    subst h
    exact ⟨rfl, fun _ _ => rfl, fun i o hi => by simp at hi⟩
  | o₀ :: rest, tm, tmF, h, hd => by
    obtain ⟨hnd, hcase⟩ := h
    have step : ∀ v, Turn P md ops Base o₀ tm v → SW P md ops Base rest (putl tm o₀.dst v) tmF →
        tmF.length = tm.length ∧ (∀ x, (∀ (j : Nat) (o : Oper), (o₀ :: rest)[j]? = some o → o.dst ≠ some x) → tmF[x]? = tm[x]?) ∧
        ∀ (i : Nat) (o : Oper), (o₀ :: rest)[i]? = some o → ∃ tmi v, Turn P md ops Base o tmi v ∧ tmi.length = tm.length ∧ (∀ x, (∃ (j : Nat) (o' : Oper), j < i ∧ (o₀ :: rest)[j]? = some o' ∧ o'.dst = some x) → tmi[x]? = tmF[x]?) ∧
          (∀ x, (∀ (j : Nat) (o' : Oper), j < i → (o₀ :: rest)[j]? = some o' → o'.dst ≠ some x) → tmi[x]? = tm[x]?) ∧ ∀ x, o.dst = some x → tmF[x]? = (putl tmi o.dst v)[x]? := by
      intro v ht hs
      obtain ⟨h1, h2, h3⟩ := sw_facts hs fun i j o o' d hi hj ho ho' => by
        have := hd (i + 1) (j + 1) o o' d (by simpa using hi) (by simpa using hj) ho ho'
        omega
      have hfresh : ∀ x, o₀.dst = some x → ∀ (j : Nat) (o : Oper), rest[j]? = some o → o.dst ≠ some x := fun x hx j o hj ho => by
        have := hd 0 (j + 1) o₀ o x rfl (by simpa using hj) hx ho
        omega
      have hF0 : ∀ x, o₀.dst = some x → tmF[x]? = (putl tm o₀.dst v)[x]? := fun x hx => h2 x (hfresh x hx)
      refine ⟨by rw [h1, putl_length], fun x hx => ?_, fun i o hi => ?_⟩
      · rw [h2 x fun j o hj => hx (j + 1) o (by simpa using hj), putl_ne (hx 0 o₀ rfl)]
      · cases i with
        | zero =>
          simp at hi; subst hi
          refine ⟨tm, v, ht, rfl, fun x hx => ?_, fun _ _ => rfl, hF0⟩
          obtain ⟨j, _, hj, _⟩ := hx
          omega
        | succ i =>
          obtain ⟨tmi, v', t1, t2, t3, t4, t5⟩ := h3 i o (by simpa using hi)
          refine ⟨tmi, v', t1, by rw [t2, putl_length], fun x hx => ?_, fun x hx => ?_, t5⟩
          · obtain ⟨j, o', hj, ho', hx'⟩ := hx
            cases j with
            | zero =>
              simp at ho'; subst ho'
              rw [t4 x fun j o' _ hj' => hfresh x hx' j o' hj', hF0 x hx']
            | succ j => exact t3 x ⟨j, o', by omega, by simpa using ho', hx'⟩
          · rw [t4 x fun j o' hj ho' => hx (j + 1) o' (by omega) (by simpa using ho'), putl_ne (hx 0 o₀ (by omega) rfl)]
    rcases hcase with ⟨hm, v, ho, hs⟩ | ⟨hm, hs⟩
    · exact step v ⟨hnd, .inl ⟨hm, ho⟩⟩ hs
    · exact step undef ⟨hnd, .inr ⟨hm, rfl⟩⟩ hs

theorem evl_eq {tm tm' : List Value} {t : Nat} (h : tm[t]? = tm'[t]?) : evl tm (.tmp t) = evl tm' (.tmp t) := by
  simp only [evl, List.getD_eq_getElem?_getD, h]

theorem noSel_ne {o : Op} (h : noSel o = true) (cs : Array SelectCase) (b : Bool) : o ≠ .select cs b := by intro e; subst e; simp [noSel] at h

theorem exec_eq {tm tm' : List Value} {o : Oper} (hs : noSel o.op = true) (h : ∀ t ∈ looks ops o, tm[t]? = tm'[t]?) : execOp (evl tm) o = execOp (evl tm') o := by
  refine execOp_congr o (noSel_ne hs) fun x hx => ?_
  cases x with
  | tmp t => exact evl_eq (h t (by unfold looks; rw [List.mem_append]; exact .inl (List.mem_filterMap.2 ⟨.tmp t, by simpa using hx, rfl⟩)))
  | const v => rfl
  | global g => rfl
  | func f => rfl

theorem met_eq {tm tm' : List Value} {o : Oper} {t : Bool} (h : ∀ x ∈ looks ops o, tm[x]? = tm'[x]?) (m : Met ops tm' o t) : Met ops tm o t := by
  unfold Met at m ⊢
  split at m
  · exact m
  · rename_i j want hg
    rw [← m]
    unfold yieldl
    cases hd : (ops[j]?).bind (·.dst) with
    | none => rfl
    | some d =>
      have : tm[d]? = tm'[d]? := h d (by unfold looks; rw [hg, List.mem_append]; exact .inr (by simp [hd]))
      simp only [Option.bind_some, this]

section
variable {f : FuncId} {r : Rd} {df : List Deferred} {k : List Item} {cs : List Frame} {Stop : Goroutine → Heap → Prop} {tm tmF : List Value}

/-- A REGION THAT DRAWS ITS ORDER, the first 'm' of its operations reading what lasts. -/
theorem fl_drawn [Stb Base] {id : Nat} (m : Nat) (cl : List (List Nat)) (hmix : P.follows .mixedOrders = true) (hst : stable ops m cl = true) (hm : m ≤ ops.length) (sw : SW P md ops Base (ops.take m) tm tmF)
    (n : RL P md f r df k cs Stop ops (ops.drop m) tmF Base) : RS P md (G (FL f r tm df (.code (.region id ops.toArray true) :: k)) cs) Base Stop := by
  refine rs_drawn fun t => ?_
  unfold Region.schedule
  rw [hmix]
  simp only [Bool.true_or, if_true]
  obtain ⟨s, e, hord⟩ := order_all hst hm t
  rw [e]
  have hget : ∀ {i : Nat} {o : Oper}, i < m → ops[i]? = some o → (ops.take m)[i]? = some o := fun hi ho => by rw [List.getElem?_take, if_pos hi]; exact ho
  have hget' : ∀ {i : Nat} {o : Oper}, (ops.take m)[i]? = some o → i < m ∧ ops[i]? = some o := fun ho => by
    rw [List.getElem?_take] at ho
    split at ho
    · exact ⟨by assumption, ho⟩
    · cases ho
  have hdist : ∀ (i j : Nat) (o o' : Oper) (d : Nat), (ops.take m)[i]? = some o → (ops.take m)[j]? = some o' → o.dst = some d → o'.dst = some d → i = j := fun i j o o' d hi hj ho ho' => by
    obtain ⟨hi, hio⟩ := hget' hi
    obtain ⟨hj, hjo⟩ := hget' hj
    exact (((stable_at hst hio).2.2 hi).2 j o' d hj hjo ho').1.resolve_right fun hne => hne ho
  obtain ⟨hlen, hrest, hturn⟩ := sw_facts sw hdist
  -- the walk in the order that was drawn
  have main : ∀ (s : List Nat) (l : Array Bool) (tmc : List Value), Ord ops m l s → l.size = ops.length → tmc.length = tm.length →
      (∀ x, (∃ (j : Nat) (o : Oper), j < m ∧ l.getD j false = true ∧ ops[j]? = some o ∧ o.dst = some x) → tmc[x]? = tmF[x]?) →
      (∀ x, (∀ (j : Nat) (o : Oper), j < m → l.getD j false = true → ops[j]? = some o → o.dst ≠ some x) → tmc[x]? = tm[x]?) →
      RS P md (G (FL f r tmc df (.inRegion ops.toArray (s ++ List.range' m (ops.length - m)) :: k)) cs) Base Stop := by
    intro s
    induction s with
    | nil =>
      intro l tmc hord _ hl h1 h2
      cases hord with
      | nil hall =>
      have : tmc = tmF := by
        refine List.ext_getElem? fun x => ?_
        by_cases hx : ∃ (j : Nat) (o : Oper), j < m ∧ ops[j]? = some o ∧ o.dst = some x
        · obtain ⟨j, o, hj, ho, hd⟩ := hx
          exact h1 x ⟨j, o, hj, hall j hj, ho, hd⟩
        · rw [h2 x fun j o hj _ ho hd => hx ⟨j, o, hj, ho, hd⟩]
          exact (hrest x fun j o hjo hd => hx ⟨j, o, (hget' hjo).1, (hget' hjo).2, hd⟩).symm
      subst this
      rw [List.nil_append]
      have := n (ops.take m) (List.take_append_drop m ops).symm
      rw [List.length_take, Nat.min_eq_left hm, List.length_drop] at this
      exact this
    | cons i s ih =>
      intro l tmc hord hsz hl h1 h2
      cases hord with
      | @cons _ _ _ o hi ho hn hp hs =>
      have hil := (List.getElem?_eq_some_iff.1 ho).1
      have hlooks := ((stable_at hst ho).2.2 hi)
      obtain ⟨tmi, v, ht, t2, t3, t4, t5⟩ := hturn i o (hget hi ho)
      have hag : ∀ x ∈ looks ops o, tmc[x]? = tmi[x]? := by
        intro x hx
        by_cases hw : ∃ (j : Nat) (o' : Oper), j < m ∧ ops[j]? = some o' ∧ o'.dst = some x
        · obtain ⟨j, o', hj, ho', hd⟩ := hw
          have hpj := (hlooks.2 j o' x hj ho' hd).2 hx
          rw [h1 x ⟨j, o', hj, hp j hpj, ho', hd⟩, t3 x ⟨j, o', (stable_at hst ho).1 j hpj, hget hj ho', hd⟩]
        · rw [h2 x fun j o' hj _ ho' hd => hw ⟨j, o', hj, ho', hd⟩, t4 x fun j o' _ ho' hd => hw ⟨j, o', (hget' ho').1, (hget' ho').2, hd⟩]
      have next : RS P md (G (FL f r (putl tmc o.dst v) df (.inRegion ops.toArray (s ++ List.range' m (ops.length - m)) :: k)) cs) Base Stop := by
        refine ih (l.setIfInBounds i true) _ hs (by simpa using hsz) (by rw [putl_length]; exact hl) (fun x hx => ?_) (fun x hx => ?_)
        · obtain ⟨j, o', hj, hlj, ho', hd⟩ := hx
          by_cases e : i = j
          · subst e
            rw [ho] at ho'; cases ho'
            rw [t5 x hd, hd]
            simp only [putl]
            by_cases hxl : x < tm.length
            · rw [List.getElem?_set_self (by rw [hl]; exact hxl), List.getElem?_set_self (by rw [t2]; exact hxl)]
            · rw [List.getElem?_eq_none (by rw [List.length_set, hl]; exact Nat.le_of_not_lt hxl), List.getElem?_eq_none (by rw [List.length_set, t2]; exact Nat.le_of_not_lt hxl)]
          · have hne : o.dst ≠ some x := (hlooks.2 j o' x hj ho' hd).1.resolve_left e
            rw [getD_set_ne false e] at hlj
            rw [putl_ne hne]
            exact h1 x ⟨j, o', hj, hlj, ho', hd⟩
        · have hne : o.dst ≠ some x := hx i o hi (by simp [Array.getD, hsz, hil]) ho
          rw [putl_ne hne]
          refine h2 x fun j o' hj hlj ho' => hx j o' hj ?_ ho'
          by_cases e : i = j
          · subst e; simp [Array.getD, hsz, hil]
          · rw [getD_set_ne false e]; exact hlj
      have ho2 : ops.toArray[i]? = some o := by simpa using ho
      rcases ht.2 with ⟨hmet, hop⟩ | ⟨hmet, hv⟩
      · have hmet' := met_eq hag hmet
        have hnd := ht.1
        refine rs_op ho2 (wanted_of_met hmet') B_kind (.inr (by revert hnd; cases o.op <;> simp [noDefer])) fun h hb => ?_
        rw [ev_toArray, exec_eq (ops := ops) hlooks.1 hag]
        rcases hop h hb with hx | ⟨g, args, hx, hc⟩ | hx
        · refine wpS_mono hx fun n' h' ⟨v', e', e2, hb'⟩ => ?_
          subst e'; subst e2
          show Reach P md (G ((F (B f r) tmc.toArray df _).finish v') cs) h' Stop
          rw [finish_region ho2, put_toArray]
          exact next h' hb'
        · refine wpS_mono hx fun n' h' ⟨e', e2⟩ => ?_
          subst e'; subst e2
          refine hc _ _ _ fun v' h' ⟨e2, hb'⟩ => ?_
          subst e2
          rw [finish_region ho2, put_toArray]
          exact next h' hb'
        · refine hx _ _ _ fun v' h' ⟨e2, hb'⟩ => ?_
          subst e2
          rw [finish_region ho2, put_toArray]
          exact next h' hb'
      · refine rs_pass ho2 (wanted_of_met (met_eq hag hmet)) ?_
        rw [put_toArray, ← hv]
        exact next
  exact main s _ tm hord (by simp) rfl (fun x hx => by obtain ⟨j, o, hj, hl, _⟩ := hx; simp [Array.getD] at hl) (fun _ _ => rfl)

/-! the steps of such a walk -/
theorem sw_nil {rest : List Oper} (e : rest = []) (e2 : tm = tmF) : SW P md ops Base rest tm tmF := by subst e; exact e2
theorem sw_det {tm' : List Value} {o : Oper} {rest : List Oper} {v : Value} (hm : Met ops tm o true) (hx : ∀ h, Base h → Exd P tm o h v) (ht : putl tm o.dst v = tm') (n : SW P md ops Base rest tm' tmF) (hd : noDefer o.op = true := by rfl) :
    SW P md ops Base (o :: rest) tm tmF :=
  ⟨hd, .inl ⟨hm, v, fun h hb => .inl (wpS_mono (hx h hb) fun _ _ ⟨v', e1, e2, e3⟩ => ⟨v', e1, e2, by rw [e3]; exact hb⟩), by rw [ht]; exact n⟩⟩
theorem sw_call {tm' : List Value} {rest : List Oper} {args : List Operand} {ats : Array TypeId} {d : Option Tmp} {ty : TypeId} {pos : String} {aft : Array Edge} {gd : Option (Nat × Bool)} {x : Operand} {g : FuncId} {first cap vs : List Value} {v : Value}
    (hm : Met ops tm ⟨d, .call ⟨.value x, args.toArray, ats⟩, ty, pos, aft, gd⟩ true) (hx : evl tm x = .func (.func g) first.toArray cap.toArray) (hvs : first ++ (args.map (evl tm) ++ cap) = vs) (hg : callable P g = true)
    (hc : ∀ h, Base h → CallsX P md g vs.toArray h fun v' h' => v' = v ∧ Base h') (ht : putl tm d v = tm') (n : SW P md ops Base rest tm' tmF) :
    SW P md ops Base (⟨d, .call ⟨.value x, args.toArray, ats⟩, ty, pos, aft, gd⟩ :: rest) tm tmF :=
  ⟨rfl, .inl ⟨hm, v, fun h hb => .inr (.inl ⟨g, vs.toArray, wpS_call hx hvs hg, hc h hb⟩), by rw [ht]; exact n⟩⟩
end
end

section
variable {P : Program} {md : Md} {Base : Heap → Prop} {ops full rest : List Oper} {f : FuncId} {r : Rd} {df : List Deferred} {k : List Item} {cs : List Frame} {Stop : Goroutine → Heap → Prop} {tm tm' : List Value}

def SWR (P : Program) (md : Md) (f : FuncId) (r : Rd) (df : List Deferred) (k : List Item) (cs : List Frame) (Stop : Goroutine → Heap → Prop) (Base : Heap → Prop) (ops full rest : List Oper) (tm : List Value) : Prop :=
  ∃ tmF, SW P md ops Base rest tm tmF ∧ RL P md f r df k cs Stop ops full tmF Base
theorem fl_drawn2 [Stb Base] {id : Nat} (m : Nat) (cl : List (List Nat)) (hmix : P.follows .mixedOrders = true) (hst : stable ops m cl = true) (hm : m ≤ ops.length) (sw : SWR P md f r df k cs Stop Base ops (ops.drop m) (ops.take m) tm) :
    RS P md (G (FL f r tm df (.code (.region id ops.toArray true) :: k)) cs) Base Stop := by
  obtain ⟨tmF, s, n⟩ := sw
  exact fl_drawn m cl hmix hst hm s n
theorem swr_nil (e : rest = []) (n : RL P md f r df k cs Stop ops full tm Base) : SWR P md f r df k cs Stop Base ops full rest tm := ⟨tm, sw_nil e rfl, n⟩
theorem swr_det {o : Oper} {v : Value} (hm : Met ops tm o true) (hx : ∀ h, Base h → Exd P tm o h v) (ht : putl tm o.dst v = tm') (n : SWR P md f r df k cs Stop Base ops full rest tm') (hd : noDefer o.op = true := by rfl) : SWR P md f r df k cs Stop Base ops full (o :: rest) tm := by
  obtain ⟨tmF, s, n⟩ := n
  exact ⟨tmF, sw_det hm hx ht s hd, n⟩
theorem swr_call {args : List Operand} {ats : Array TypeId} {d : Option Tmp} {ty : TypeId} {pos : String} {aft : Array Edge} {gd : Option (Nat × Bool)} {x : Operand} {g : FuncId} {first cap vs : List Value} {v : Value}
    (hm : Met ops tm ⟨d, .call ⟨.value x, args.toArray, ats⟩, ty, pos, aft, gd⟩ true) (hx : evl tm x = .func (.func g) first.toArray cap.toArray) (hvs : first ++ (args.map (evl tm) ++ cap) = vs) (hg : callable P g = true)
    (hc : ∀ h, Base h → CallsX P md g vs.toArray h fun v' h' => v' = v ∧ Base h') (ht : putl tm d v = tm') (n : SWR P md f r df k cs Stop Base ops full rest tm') :
    SWR P md f r df k cs Stop Base ops full (⟨d, .call ⟨.value x, args.toArray, ats⟩, ty, pos, aft, gd⟩ :: rest) tm := by
  obtain ⟨tmF, s, n⟩ := n
  exact ⟨tmF, sw_call hm hx hvs hg hc ht s, n⟩
end
end Go.X
namespace Go.X
open Go.Conc

abbrev Pcs := List (Nat × Obj)

/-- The temporaries behind the first 'm' operations, if the 'i'-th has yielded 'val i'. -/
def fills (ops : List Oper) (val : Nat → Value) : Nat → List Value → List Value
  | 0, tm => tm
  | m + 1, tm => putl (fills ops val m tm) ((ops[m]?).bind (·.dst)) (val m)

theorem fills_length (ops : List Oper) (val : Nat → Value) (tm : List Value) : ∀ m, (fills ops val m tm).length = tm.length
  | 0 => rfl
  | m + 1 => by simp only [fills, putl_length, fills_length ops val tm m]

theorem fills_out {ops : List Oper} {val : Nat → Value} {tm : List Value} {x : Nat} : ∀ {m : Nat}, (∀ (j : Nat) (o : Oper), j < m → ops[j]? = some o → o.dst ≠ some x) → (fills ops val m tm)[x]? = tm[x]?
  | 0, _ => rfl
  | m + 1, h => by
    simp only [fills]
    rw [putl_ne, fills_out fun j o hj => h j o (by omega)]
    intro e
    cases ho : ops[m]? with
    | none => rw [ho] at e; cases e
    | some o => rw [ho] at e; exact h m o (by omega) ho e

theorem fills_in {ops : List Oper} {val : Nat → Value} {tm : List Value} {x i : Nat} {o : Oper} : ∀ {m : Nat}, i < m → ops[i]? = some o → o.dst = some x → (∀ (j : Nat) (o' : Oper), j < m → ops[j]? = some o' → o'.dst = some x → j = i) → x < tm.length →
    (fills ops val m tm)[x]? = some (val i)
  | 0, h, _, _, _, _ => by omega
  | m + 1, h, ho, hd, hu, hx => by
    simp only [fills]
    by_cases e : i = m
    · subst e
      rw [ho]
      simp only [Option.bind_some, hd, putl]
      rw [List.getElem?_set_self (by rw [fills_length]; exact hx)]
    · rw [putl_ne, fills_in (by omega) ho hd (fun j o' hj => hu j o' (by omega)) hx]
      intro e'
      cases ho' : ops[m]? with
      | none => rw [ho'] at e'; cases e'
      | some o' => rw [ho'] at e'; exact e (hu m o' (by omega) ho' e').symm

/-- Each piece is used once at most, behind the operation that it comes of; 'fin' are those that are left. -/
def mixok (ops : List Oper) (m : Nat) (ini : List Nat) (use : Nat → List Nat) (fin : List Nat) : Bool :=
  decide ini.Nodup && ini.all (fun x => decide (m ≤ x)) && decide fin.Nodup &&
  (ops.zipIdx.all fun (o, i) => !decide (i < m) || ((decide (use i).Nodup) && (use i).all fun x => (ini.contains x || (decide (x < m) && (preds o).contains x)) && (List.range m).all fun k => decide (k = i) || !(use k).contains x)) &&
  (fin.all fun x => (ini.contains x || decide (x < m)) && (List.range m).all fun k => !(use k).contains x) &&
  ((List.range m ++ ini).all fun x => fin.contains x || (List.range m).any fun k => (use k).contains x)

theorem perm_use {α : Type} [DecidableEq α] : ∀ {u ls : List α}, u.Nodup → (∀ x ∈ u, x ∈ ls) → ∃ r, ls.Perm (u ++ r)
  | [], ls, _, _ => ⟨ls, .refl _⟩
  | x :: u, ls, hn, hs => by
    have h1 := List.perm_cons_erase (hs x (by simp))
    have hn' := List.nodup_cons.1 hn
    obtain ⟨r, hr⟩ := perm_use (ls := ls.erase x) hn'.2 fun y hy => by
      rw [List.mem_erase_of_ne (fun e => by subst e; exact hn'.1 hy)]; exact hs y (by simp [hy])
    exact ⟨r, h1.trans (hr.cons x)⟩

/-- 'o' yields a value, or comes to its end without one; and 'K' of it and of the heap. -/
def Exv (P : Program) (tm : List Value) (o : Oper) (h : Heap) (K : Value → Heap → Prop) : Prop :=
  wpS P (execOp (evl tm) o) h fun n h' => ∃ v, (n = .value v ∨ (n = .skip ∧ v = undef)) ∧ K v h'
theorem Ex.exv {P : Program} {tm : List Value} {o : Oper} {h : Heap} {K : Value → Heap → Prop} (x : Ex P tm o h K) : Exv P tm o h K := wpS_mono x fun _ _ ⟨v, e, y⟩ => ⟨v, .inl e, y⟩

/-- What is asked of an operation whose turn it is. -/
def OpMix (P : Program) (md : Md) (ops : List Oper) (tmF : (Nat → Value) → List Value) (h₀ : Heap) (B₀ : List Nat) (p : PHeap) (A : Pcs) (ini : List Nat) (X : Nat → Pcs) (use : Nat → List Nat) (Q : Nat → Value → Pcs → Prop) (i : Nat) (o : Oper) : Prop :=
  ∀ val piece, (∀ j, (preds o).contains j = true → Q j (val j) (piece j)) → (∀ j ∈ ini, piece j = X j) →
    (Met ops (tmF val) o true ∧ ∀ C h, St h₀ B₀ p h ((use i).flatMap piece ++ (A ++ C)) →
      Exv P (tmF val) o h (fun v h' => ∃ x, Q i v x ∧ St h₀ B₀ p h' (x ++ (A ++ C))) ∨
      (∃ g args, (wpS P (execOp (evl (tmF val)) o) h fun n h' => n = .enter g args ∧ h' = h) ∧ CallsX P md g args h (fun v h' => ∃ x, Q i v x ∧ St h₀ B₀ p h' (x ++ (A ++ C))))) ∨
    (Met ops (tmF val) o false ∧ (use i).flatMap piece = [] ∧ Q i undef [])

def Mixes (F : Nat → Oper → Prop) : Nat → List Oper → Prop
  | _, [] => True
  | i, o :: rest => (noDefer o.op = true ∧ F i o) ∧ Mixes F (i + 1) rest

theorem Mixes.at {F : Nat → Oper → Prop} : ∀ {l : List Oper} {b i : Nat} {o : Oper}, Mixes F b l → l[i]? = some o → noDefer o.op = true ∧ F (b + i) o
  | [], _, _, _, _, h => by simp at h
  | o :: l, b, 0, _, m, h => by simp at h; subst h; exact m.1
  | o :: l, b, i + 1, _, m, h => by
    have := Mixes.at (i := i) m.2 (by simpa using h)
    rw [show b + (i + 1) = b + 1 + i from by omega]; exact this

section
variable {P : Program} {md : Md} {ops : List Oper} {m : Nat} {f : FuncId} {r : Rd} {df : List Deferred} {k : List Item} {cs : List Frame} {Stop : Goroutine → Heap → Prop} {tm : List Value}
  {h₀ : Heap} {B₀ : List Nat} {p : PHeap} {A C : Pcs} {ini fin : List Nat} {X : Nat → Pcs} {use : Nat → List Nat} {Q : Nat → Value → Pcs → Prop} {tmF : (Nat → Value) → List Value}

theorem mixok_at (hk : mixok ops m ini use fin = true) : ini.Nodup ∧ (∀ x ∈ ini, m ≤ x) ∧ fin.Nodup ∧
    (∀ (i : Nat) (o : Oper), i < m → ops[i]? = some o → (use i).Nodup ∧ ∀ x ∈ use i, (x ∈ ini ∨ (x < m ∧ x ∈ preds o)) ∧ ∀ k < m, k ≠ i → x ∉ use k) ∧
    (∀ x ∈ fin, (x ∈ ini ∨ x < m) ∧ ∀ k < m, x ∉ use k) ∧ (∀ x, (x < m ∨ x ∈ ini) → x ∈ fin ∨ ∃ k < m, x ∈ use k) := by
  unfold mixok at hk
  simp only [Bool.and_eq_true, decide_eq_true_eq, List.all_eq_true] at hk
  obtain ⟨⟨⟨⟨⟨h1, h2⟩, h3⟩, h4⟩, h5⟩, h6⟩ := hk
  refine ⟨h1, h2, h3, fun i o hi ho => ?_, fun x hx => ?_, fun x hx => ?_⟩
  · have hmem : (o, i) ∈ ops.zipIdx := by rw [List.mem_zipIdx_iff_getElem?]; exact ho
    have h := h4 (o, i) hmem
    simp only [hi, decide_true, Bool.not_true, Bool.false_or, Bool.and_eq_true, decide_eq_true_eq, List.all_eq_true, Bool.or_eq_true, List.mem_range, Bool.not_eq_true', List.contains_eq_mem, decide_eq_false_iff_not] at h
    exact ⟨h.1, fun x hx => ⟨(h.2 x hx).1, fun k hk hne => ((h.2 x hx).2 k hk).resolve_left hne⟩⟩
  · have h := h5 x hx
    simp only [Bool.or_eq_true, decide_eq_true_eq, List.mem_range, Bool.not_eq_true', List.contains_eq_mem, decide_eq_false_iff_not] at h
    exact h
  · have h := h6 x (by rw [List.mem_append, List.mem_range]; exact hx)
    simp only [Bool.or_eq_true, List.any_eq_true, List.mem_range, List.contains_eq_mem, decide_eq_true_eq] at h
    exact h

def Emp (Q : Nat → Value → Pcs → Prop) : List Nat → Prop
  | [] => True
  | j :: l => (∀ v x, Q j v x → x = []) ∧ Emp Q l
theorem Emp.flat {Q : Nat → Value → Pcs → Prop} {val : Nat → Value} {piece : Nat → Pcs} : ∀ {l : List Nat}, Emp Q l → (∀ j ∈ l, Q j (val j) (piece j)) → l.flatMap piece = []
  | [], _, _ => rfl
  | j :: l, e, h => by
    rw [List.flatMap_cons, e.1 _ _ (h j (by simp)), Emp.flat e.2 fun i hi => h i (by simp [hi])]; rfl

/-- A REGION THAT DRAWS ITS ORDER, the first 'm' of its operations turning pieces of the call's own. -/
theorem fl_mixed {rid : Nat} (m : Nat) (cl : List (List Nat)) (ini fin emp : List Nat) (X : Nat → Pcs) (use : Nat → List Nat) (Q : Nat → Value → Pcs → Prop) (tmF : (Nat → Value) → List Value)
    (hmix : P.follows .mixedOrders = true) (hst : stable ops m cl = true) (hm : m ≤ ops.length) (hk : mixok ops m ini use (fin ++ emp) = true) (hemp : emp.all (fun j => decide (j < m)) = true) (hemp2 : Emp Q emp) (htm : ∀ val, fills ops val m tm = tmF val)
    (hdl : (ops.all fun o => match o.dst with | some d => decide (d < tm.length) | none => true) = true)
    (st : Mixes (OpMix P md ops tmF h₀ B₀ p A ini X use Q) 0 (ops.take m))
    (n : ∀ val piece, (∀ j < m, Q j (val j) (piece j)) → (∀ j ∈ ini, piece j = X j) → RL P md f r df k cs Stop ops (ops.drop m) (tmF val) (fun h => St h₀ B₀ p h (fin.flatMap piece ++ (A ++ C)))) :
    RS P md (G (FL f r tm df (.code (.region rid ops.toArray true) :: k)) cs) (fun h => St h₀ B₀ p h (ini.flatMap X ++ (A ++ C))) Stop := by
  refine rs_drawn fun t => ?_
  unfold Region.schedule
  rw [hmix]
  simp only [Bool.true_or, if_true]
  obtain ⟨s, e, hord⟩ := order_all hst hm t
  rw [e]
  obtain ⟨k1, k2, k3, k4, k5, k6⟩ := mixok_at hk
  have hops : ∀ {i : Nat} {o : Oper}, i < m → ops[i]? = some o → noDefer o.op = true ∧ OpMix P md ops tmF h₀ B₀ p A ini X use Q i o := fun {i o} hi ho => by
    have := Mixes.at (i := i) st (by rw [List.getElem?_take, if_pos hi]; exact ho)
    rw [Nat.zero_add] at this; exact this
  have hdist : ∀ (i j : Nat) (o o' : Oper) (d : Nat), i < m → j < m → ops[i]? = some o → ops[j]? = some o' → o.dst = some d → o'.dst = some d → i = j := fun i j o o' d hi hj ho ho' hd hd' =>
    (((stable_at hst ho).2.2 hi).2 j o' d hj ho' hd').1.resolve_right fun hne => hne hd
  have hdlt : ∀ {i : Nat} {o : Oper} {d : Nat}, ops[i]? = some o → o.dst = some d → d < tm.length := fun {i o d} ho hd => by
    have := List.all_eq_true.1 hdl o (List.mem_of_getElem? ho)
    simpa [hd] using this
  have main : ∀ (s : List Nat) (l : Array Bool) (tmc : List Value) (val : Nat → Value) (piece : Nat → Pcs) (ls : List Nat), Ord ops m l s → l.size = ops.length → tmc.length = tm.length →
      (∀ x, (∃ (j : Nat) (o : Oper), j < m ∧ l.getD j false = true ∧ ops[j]? = some o ∧ o.dst = some x) → tmc[x]? = (tmF val)[x]?) →
      (∀ x, (∀ (j : Nat) (o : Oper), j < m → l.getD j false = true → ops[j]? = some o → o.dst ≠ some x) → tmc[x]? = tm[x]?) →
      (∀ j < m, l.getD j false = true → Q j (val j) (piece j)) → (∀ j ∈ ini, piece j = X j) → ls.Nodup →
      (∀ x, x ∈ ls ↔ (x ∈ ini ∨ (x < m ∧ l.getD x false = true)) ∧ ∀ k < m, l.getD k false = true → x ∉ use k) →
      (∀ k < m, l.getD k false = true → ∀ x ∈ use k, x ∈ ini ∨ (x < m ∧ l.getD x false = true)) →
      RS P md (G (FL f r tmc df (.inRegion ops.toArray (s ++ List.range' m (ops.length - m)) :: k)) cs) (fun h => St h₀ B₀ p h (ls.flatMap piece ++ (A ++ C))) Stop := by
    intro s
    induction s with
    | nil =>
      intro l tmc val piece ls hord _ hl h1 h2 hQ hX hnd hls _
      cases hord with
      | nil hall =>
      have : tmc = tmF val := by
        refine List.ext_getElem? fun x => ?_
        by_cases hx : ∃ (j : Nat) (o : Oper), j < m ∧ ops[j]? = some o ∧ o.dst = some x
        · obtain ⟨j, o, hj, ho, hd⟩ := hx
          exact h1 x ⟨j, o, hj, hall j hj, ho, hd⟩
        · rw [h2 x fun j o hj _ ho hd => hx ⟨j, o, hj, ho, hd⟩, ← htm, fills_out]
          exact fun j o hj ho hd => hx ⟨j, o, hj, ho, hd⟩
      subst this
      rw [List.nil_append]
      have hp : ls.Perm (fin ++ emp) := by
        refine (List.perm_ext_iff_of_nodup hnd k3).2 fun x => ?_
        rw [hls]
        constructor
        · rintro ⟨hx, hu⟩
          rcases k6 x (hx.elim .inr fun y => .inl y.1) with y | ⟨k, hk, y⟩
          · exact y
          · exact absurd y (hu k hk (hall k hk))
        · intro hx
          obtain ⟨y, z⟩ := k5 x hx
          exact ⟨y.imp id fun y => ⟨y, hall x y⟩, fun k hk _ => z k hk⟩
      have := n val piece (fun j hj => hQ j hj (hall j hj)) hX (ops.take m) (List.take_append_drop m ops).symm
      rw [List.length_take, Nat.min_eq_left hm, List.length_drop] at this
      have he : emp.flatMap piece = [] := hemp2.flat fun j hj => hQ j (by simpa using List.all_eq_true.1 hemp j hj) (hall j (by simpa using List.all_eq_true.1 hemp j hj))
      exact fun h y => this h (y.perm (by
        have := (hp.flatMap_right piece).append_right (A ++ C)
        rwa [List.flatMap_append, he, List.append_nil] at this))
    | cons i s ih =>
      intro l tmc val piece ls hord hsz hl h1 h2 hQ hX hnd hls hcl
      cases hord with
      | @cons _ _ _ o hi ho hn hp hs =>
      have hil := (List.getElem?_eq_some_iff.1 ho).1
      have hni : l.getD i false = false := by rw [← getD_lt (by omega)]; exact hn
      have hlooks := ((stable_at hst ho).2.2 hi)
      have hag : ∀ x ∈ looks ops o, tmc[x]? = (tmF val)[x]? := by
        intro x hx
        by_cases hw : ∃ (j : Nat) (o' : Oper), j < m ∧ ops[j]? = some o' ∧ o'.dst = some x
        · obtain ⟨j, o', hj, ho', hd⟩ := hw
          have hpj := (hlooks.2 j o' x hj ho' hd).2 hx
          exact h1 x ⟨j, o', hj, hp j hpj, ho', hd⟩
        · rw [h2 x fun j o' hj _ ho' hd => hw ⟨j, o', hj, ho', hd⟩, ← htm, fills_out]
          exact fun j o hj ho hd => hw ⟨j, o, hj, ho, hd⟩
      have hset : ∀ j, i ≠ j → (l.setIfInBounds i true).getD j false = l.getD j false := fun j e => getD_set_ne false e
      have hself : (l.setIfInBounds i true).getD i false = true := by simp [Array.getD, hsz, hil]
      obtain ⟨u1, u2⟩ := k4 i o hi ho
      have husein : ∀ x ∈ use i, x ∈ ls := fun x hx => by
        rw [hls]
        obtain ⟨a, b⟩ := u2 x hx
        refine ⟨a.imp id fun a => ⟨a.1, hp x a.2⟩, fun k hk hd hxk => ?_⟩
        by_cases e : k = i
        · subst e; rw [hni] at hd; cases hd
        · exact b k hk e hxk
      obtain ⟨rest, hperm⟩ := perm_use u1 husein
      have hnd2 := hperm.nodup_iff.1 hnd
      have hrest : ∀ x, x ∈ rest ↔ x ∈ ls ∧ x ∉ use i := fun x => by
        rw [hperm.mem_iff, List.mem_append]
        constructor
        · intro hx
          exact ⟨.inr hx, fun hu => (List.nodup_append.1 hnd2).2.2 x hu x hx rfl⟩
        · rintro ⟨a | a, b⟩
          · exact absurd a b
          · exact a
      have hiini : i ∉ ini := fun e => by have := k2 i e; omega
      have hils : i ∉ ls := fun e => by
        have := ((hls i).1 e).1
        rcases this with a | a
        · exact hiini a
        · rw [hni] at a; cases a.2
      -- what comes of it
      have next : ∀ v x, Q i v x → RS P md (G (FL f r (putl tmc o.dst v) df (.inRegion ops.toArray (s ++ List.range' m (ops.length - m)) :: k)) cs) (fun h => St h₀ B₀ p h (x ++ (A ++ (rest.flatMap piece ++ C)))) Stop := by
        intro v x hq
        have hv : ∀ j, i ≠ j → (fun j => if j = i then v else val j) j = val j := fun j e => if_neg fun e' => e e'.symm
        have hx' : ∀ j, i ≠ j → (fun j => if j = i then x else piece j) j = piece j := fun j e => if_neg fun e' => e e'.symm
        have := ih (l.setIfInBounds i true) (putl tmc o.dst v) (fun j => if j = i then v else val j) (fun j => if j = i then x else piece j) (i :: rest) hs (by simpa using hsz) (by rw [putl_length]; exact hl)
          (fun y hy => by
            obtain ⟨j, o', hj, hlj, ho', hd⟩ := hy
            rw [← htm, fills_in hj ho' hd (fun j' o'' hj' ho'' hd' => hdist j' j o'' o' y hj' hj ho'' ho' hd' hd) (hdlt ho' hd)]
            by_cases e : i = j
            · subst e
              rw [ho] at ho'; cases ho'
              rw [hd]
              simp only [putl, if_true]
              rw [List.getElem?_set_self (by rw [hl]; exact hdlt ho hd)]
            · have hne : o.dst ≠ some y := fun hd' => e (hdist i j o o' y hi hj ho ho' hd' hd)
              rw [hset j e] at hlj
              rw [putl_ne hne, h1 y ⟨j, o', hj, hlj, ho', hd⟩, ← htm, fills_in hj ho' hd (fun j' o'' hj' ho'' hd' => hdist j' j o'' o' y hj' hj ho'' ho' hd' hd) (hdlt ho' hd)]
              rw [if_neg fun e' => e e'.symm])
          (fun y hy => by
            have hne : o.dst ≠ some y := hy i o hi hself ho
            rw [putl_ne hne]
            refine h2 y fun j o' hj hlj ho' => hy j o' hj ?_ ho'
            by_cases e : i = j
            · subst e; exact hself
            · rw [hset j e]; exact hlj)
          (fun j hj hlj => by
            by_cases e : i = j
            · subst e; simp only [if_true]; exact hq
            · rw [hset j e] at hlj
              have := hQ j hj hlj; rw [← hv j e, ← hx' j e] at this; exact this)
          (fun j hj => (hx' j (fun e => by subst e; exact hiini hj)).trans (hX j hj))
          (List.nodup_cons.2 ⟨fun e => hils ((hrest i).1 e).1, (List.nodup_append.1 hnd2).2.1⟩)
          (fun y => by
            rw [List.mem_cons, hrest, hls]
            constructor
            · rintro (rfl | ⟨⟨a, b⟩, c⟩)
              · refine ⟨.inr ⟨hi, hself⟩, fun k' hk' hd hy => ?_⟩
                by_cases e : y = k'
                · subst e
                  rcases (u2 y hy).1 with a | a
                  · exact hiini a
                  · exact absurd ((stable_at hst ho).1 y a.2) (Nat.lt_irrefl _)
                · rw [hset k' e] at hd
                  rcases hcl k' hk' hd y hy with a | a
                  · exact hiini a
                  · rw [hni] at a; cases a.2
              · refine ⟨a.imp id fun a => ⟨a.1, ?_⟩, fun k' hk' hd => ?_⟩
                · by_cases e : i = y
                  · subst e; exact hself
                  · rw [hset y e]; exact a.2
                · by_cases e : i = k'
                  · subst e; exact c
                  · rw [hset k' e] at hd; exact b k' hk' hd
            · rintro ⟨a, b⟩
              by_cases e : y = i
              · exact .inl e
              · refine .inr ⟨⟨a.imp id fun a => ⟨a.1, ?_⟩, fun k' hk' hd => b k' hk' ?_⟩, b i hi hself⟩
                · have := a.2; rw [hset y (fun e' => e e'.symm)] at this; exact this
                · by_cases e' : i = k'
                  · subst e'; exact hself
                  · rw [hset k' e']; exact hd)
          (fun k' hk' hd y hy => by
            by_cases e : i = k'
            · subst e
              obtain ⟨a, _⟩ := u2 y hy
              refine a.imp id fun a => ⟨a.1, ?_⟩
              by_cases e' : i = y
              · subst e'; exact hself
              · rw [hset y e']; exact hp y a.2
            · rw [hset k' e] at hd
              refine (hcl k' hk' hd y hy).imp id fun a => ⟨a.1, ?_⟩
              by_cases e' : i = y
              · subst e'; exact hself
              · rw [hset y e']; exact a.2)
        have hfm : rest.flatMap (fun j => if j = i then x else piece j) = rest.flatMap piece := by
          have hni' : i ∉ rest := fun e => hils ((hrest i).1 e).1
          clear this hperm hnd2 hrest
          induction rest with
          | nil => rfl
          | cons a r ih' =>
            simp only [List.flatMap_cons]
            rw [ih' (fun e => hni' (by simp [e])), if_neg (fun e => hni' (by simp [e]))]
        intro h y
        refine this h ?_
        rw [List.flatMap_cons, hfm]
        simp only [if_true]
        refine y.perm ?_
        rw [List.append_assoc]
        refine List.Perm.append_left x ?_
        rw [← List.append_assoc, ← List.append_assoc]
        exact List.Perm.append_right C List.perm_append_comm
      have hmixi := hops hi ho
      have ho2 : ops.toArray[i]? = some o := by simpa using ho
      have hpre : ∀ h, St h₀ B₀ p h (ls.flatMap piece ++ (A ++ C)) → St h₀ B₀ p h ((use i).flatMap piece ++ (A ++ (rest.flatMap piece ++ C))) := fun h y => by
        refine y.perm ?_
        refine ((hperm.flatMap_right piece).append_right _).trans ?_
        rw [List.flatMap_append, List.append_assoc]
        refine List.Perm.append_left _ ?_
        rw [← List.append_assoc, ← List.append_assoc]
        exact List.Perm.append_right C List.perm_append_comm
      have hnd := hmixi.1
      rcases hmixi.2 val piece (fun j hj => by
          have hj' : j ∈ preds o := by simpa using hj
          exact hQ j (Nat.lt_trans ((stable_at hst ho).1 j hj') hi) (hp j hj')) hX with ⟨hmet, hop⟩ | ⟨hmet, hu, hq⟩
      · have hmet' := met_eq hag hmet
        refine rs_op ho2 (wanted_of_met hmet') B_kind (.inr (by revert hnd; cases o.op <;> simp [noDefer])) fun h hb => ?_
        rw [ev_toArray, exec_eq (ops := ops) hlooks.1 hag]
        rcases hop _ h (hpre h hb) with hx | ⟨g, args, hx, hc⟩
        · refine wpS_mono hx fun n' h' ⟨v', e', x, hq, hb'⟩ => ?_
          rcases e' with rfl | ⟨rfl, rfl⟩
          · show Reach P md (G ((F (B f r) tmc.toArray df _).finish v') cs) h' Stop
            rw [finish_region ho2, put_toArray]
            exact next v' x hq h' hb'
          · show Reach P md (G ((F (B f r) tmc.toArray df _).finish undef) cs) h' Stop
            rw [finish_region ho2, put_toArray]
            exact next undef x hq h' hb'
        · refine wpS_mono hx fun n' h' ⟨e', e2⟩ => ?_
          subst e'; subst e2
          refine hc _ _ _ fun v' h' ⟨x, hq, hb'⟩ => ?_
          rw [finish_region ho2, put_toArray]
          exact next v' x hq h' hb'
      · refine rs_pass ho2 (wanted_of_met (met_eq hag hmet)) ?_
        rw [put_toArray]
        intro h hb
        have := next undef [] hq h
        refine this ?_
        have := hpre h hb
        rw [hu] at this
        simpa using this
  intro h y
  refine main s _ tm (fun _ => undef) X ini hord (by simp) rfl (fun x hx => by obtain ⟨j, o, hj, hl, _⟩ := hx; simp [Array.getD] at hl) (fun _ _ => rfl) (fun j _ hl => by simp [Array.getD] at hl) (fun _ _ => rfl) k1
    (fun x => ⟨fun hx => ⟨.inl hx, fun k _ hl => by simp [Array.getD] at hl⟩, fun hx => hx.1.elim id fun a => by simp [Array.getD] at a⟩) (fun k _ hl => by simp [Array.getD] at hl) h y

/-! ### the steps of such a walk -/
/-- What is asked of an operation, its temporaries and pieces spelt out. -/
def Mix (P : Program) (md : Md) (ops : List Oper) (tm : List Value) (h₀ : Heap) (B₀ : List Nat) (p : PHeap) (A U : Pcs) (Q : Value → Pcs → Prop) (o : Oper) : Prop :=
  (Met ops tm o true ∧ ∀ C h, St h₀ B₀ p h (U ++ (A ++ C)) →
      Exv P tm o h (fun v h' => ∃ x, Q v x ∧ St h₀ B₀ p h' (x ++ (A ++ C))) ∨
      (∃ g args, (wpS P (execOp (evl tm) o) h fun n h' => n = .enter g args ∧ h' = h) ∧ CallsX P md g args h (fun v h' => ∃ x, Q v x ∧ St h₀ B₀ p h' (x ++ (A ++ C))))) ∨
    (Met ops tm o false ∧ U = [] ∧ Q undef [])

theorem mixes_nil {F : Nat → Oper → Prop} {b : Nat} {l : List Oper} (e : l = []) : Mixes F b l := by subst e; trivial
theorem mixes_cons {F : Nat → Oper → Prop} {b : Nat} {o : Oper} {l : List Oper} (hd : noDefer o.op = true) (x : F b o) (n : Mixes F (b + 1) l) : Mixes F b (o :: l) := ⟨⟨hd, x⟩, n⟩

theorem opmix {i : Nat} {o : Oper} (x : ∀ val piece, (∀ j, (preds o).contains j = true → Q j (val j) (piece j)) → (∀ j ∈ ini, piece j = X j) →
    ∃ tm' U, tmF val = tm' ∧ (use i).flatMap piece = U ∧ Mix P md ops tm' h₀ B₀ p A U (Q i) o) : OpMix P md ops tmF h₀ B₀ p A ini X use Q i o := fun val piece hQ hX => by
  obtain ⟨tm', U, e1, e2, h⟩ := x val piece hQ hX
  rw [e1, e2]; exact h

section
variable {tm' : List Value} {U : Pcs} {q : Value → Pcs → Prop} {o : Oper} {ty : TypeId} {pos : String} {aft : Array Edge} {gd : Option (Nat × Bool)}

theorem mix_det {v : Value} (hm : Met ops tm' o true) (hx : ∀ C h, St h₀ B₀ p h (A ++ C) → Exd P tm' o h v) (hq : q v []) : Mix P md ops tm' h₀ B₀ p A [] q o :=
  .inl ⟨hm, fun C h s => .inl (wpS_mono (hx C h s) fun _ _ ⟨v', e1, e2, e3⟩ => ⟨v', .inl e1, [], by rw [e2]; exact hq, by rw [e3]; exact s⟩)⟩
theorem mix_ex (hm : Met ops tm' o true) (hx : ∀ C h, St h₀ B₀ p h (U ++ (A ++ C)) → Ex P tm' o h (fun v h' => ∃ x, q v x ∧ St h₀ B₀ p h' (x ++ (A ++ C)))) : Mix P md ops tm' h₀ B₀ p A U q o :=
  .inl ⟨hm, fun C h s => .inl (hx C h s).exv⟩
theorem mix_call {args : List Operand} {ats : Array TypeId} {d : Option Tmp} {x : Operand} {g : FuncId} {first cap vs : List Value}
    (hm : Met ops tm' ⟨d, .call ⟨.value x, args.toArray, ats⟩, ty, pos, aft, gd⟩ true) (hx : evl tm' x = .func (.func g) first.toArray cap.toArray) (hvs : first ++ (args.map (evl tm') ++ cap) = vs) (hg : callable P g = true)
    (hc : ∀ C h, St h₀ B₀ p h (U ++ (A ++ C)) → CallsX P md g vs.toArray h fun v h' => ∃ x, q v x ∧ St h₀ B₀ p h' (x ++ (A ++ C))) :
    Mix P md ops tm' h₀ B₀ p A U q ⟨d, .call ⟨.value x, args.toArray, ats⟩, ty, pos, aft, gd⟩ :=
  .inl ⟨hm, fun C h s => .inr ⟨g, vs.toArray, wpS_call hx hvs hg, hc C h s⟩⟩

theorem OwnS.build {T : TypeId} {w b n : Nat} {es : List (List Value)} {cells : Array Value} (hc : cells = es.flatten.toArray) (hw : ∀ e ∈ es, e.length = w) (hn : es.length = n) : OwnS T w (.slice (some ⟨b, 0, none⟩) n n) es [(b, .cells cells T (0, 0))] := by
  subst hn
  exact ⟨hw, .inr ⟨b, es.flatten, es.length, [], rfl, by rw [hc], by simp, flatten_length hw⟩⟩

/-- A slice of the call's own is a source. -/
theorem src_ownS {h : Heap} {w : Nat} {T : TypeId} {x : Value} {news : List (List Value)} {Y L₁ L₂ : Pcs} (o : OwnS T w x news Y) (s : St h₀ B₀ p h (L₁ ++ (Y ++ L₂))) : Src P h w news.length x news := by
  obtain ⟨hw, ⟨rfl, rfl, rfl⟩ | ⟨b, cs, cap, rest, rfl, rfl, hcs, hlen⟩⟩ := o
  · exact src_nil
  · refine ⟨fun K hK => wpS_pure hK, fun K hK => ?_, rfl, hw⟩
    show wpS P (loadCells ⟨b, 0, none⟩ (news.length * w)) h K
    refine wpS_loadCells (flatten_length hw) (fun j u hj => ?_) hK
    rw [add_mk]
    refine s.ocell (i := L₁.length) (cs := cs.toArray) (T := T) (z := (0, 0)) ?_ ?_
    · rw [List.getElem?_append_right (Nat.le_refl _)]; simp
    · rw [List.getElem?_toArray, hcs, Nat.zero_add, List.getElem?_append_left (List.getElem?_eq_some_iff.1 hj).1]
      exact hj

theorem ex_append {dd : Nat} {sT xT eT eX : TypeId} {w m' by' : Nat} {xo yo : Operand} {v x z : Value} {es news : List (List Value)} {h : Heap} {X' C' : Pcs} (A' : Pcs)
    (hT : P.underlying sT = some (.slice eT)) (hs : sizeT P eT = some w) (hz : zeroT P eT = some z) (hzs : z.cells.size = w) (hby : bytesT P eT = some by') (hx : P.underlying xT = some (.slice eX))
    (ev1 : evl tm' xo = v) (ev2 : evl tm' yo = x) (o : OwnS eT w v es X') (s : St h₀ B₀ p h (A' ++ (X' ++ C'))) (src : Src P h w m' x news) (h1 : ∀ u ∈ news.flatten, isOne u = true)
    (room : (es.length + m') * by' ≤ 2 ^ 40) (hb2 : 0 < by' ∧ by' ≤ 2 ^ 20) {K : Value → Heap → Prop}
    (n : ∀ v' X' h', OwnS eT w v' (es ++ news) X' → St h₀ B₀ p h' (A' ++ (X' ++ C')) → K v' h') :
    Ex P tm' ⟨some dd, .call ⟨.builtin .append, #[xo, yo], #[sT, xT]⟩, ty, pos, aft, gd⟩ h K := by
  unfold Ex
  simp only [execOp, resolve]
  refine wpS_bind (wpS_pure ?_)
  simp only [invoke, builtin]
  refine wpS_bind ?_
  have e : (#[xo, yo] : Array Operand).map (evl tm') = #[v, x] := by simp [ev1, ev2]
  rw [e]
  refine wpS_append hT hs hz hzs hby hx o s src.lenOf src.cells src.len src.wid h1 room hb2 fun v' X' h' o' s' => ?_
  exact wpS_pure ⟨v', rfl, n v' X' h' o' s'⟩

/-- 'append' of one's own, and of a source of one's own that is then left. -/
theorem mix_append {dd : Nat} {sT xT eT eX : TypeId} {w by' : Nat} {xo yo : Operand} {v x z : Value} {es news : List (List Value)} {X₁ Y : Pcs} (hm : Met ops tm' ⟨some dd, .call ⟨.builtin .append, #[xo, yo], #[sT, xT]⟩, ty, pos, aft, gd⟩ true)
    (hT : P.underlying sT = some (.slice eT)) (hs : sizeT P eT = some w) (hz : zeroT P eT = some z) (hzs : z.cells.size = w) (hby : bytesT P eT = some by') (hx : P.underlying xT = some (.slice eX))
    (ev1 : evl tm' xo = v) (ev2 : evl tm' yo = x) (o1 : OwnS eT w v es X₁) (o2 : OwnS eT w x news Y) (h1 : ∀ u ∈ news.flatten, isOne u = true)
    (room : (es.length + news.length) * by' ≤ 2 ^ 40) (hb2 : 0 < by' ∧ by' ≤ 2 ^ 20) (hq : ∀ v x, OwnS eT w v (es ++ news) x → q v x) :
    Mix P md ops tm' h₀ B₀ p A (X₁ ++ (Y ++ [])) q ⟨some dd, .call ⟨.builtin .append, #[xo, yo], #[sT, xT]⟩, ty, pos, aft, gd⟩ :=
  mix_ex hm fun C h s => by
    rw [List.append_nil, List.append_assoc] at s
    exact ex_append [] hT hs hz hzs hby hx ev1 ev2 o1 s (src_ownS (L₁ := X₁) o2 s) h1 room hb2 fun v' X' h' o' s' => ⟨X', hq _ _ o', s'.sub (by
      simp only [List.nil_append]
      exact (List.Sublist.refl X').append (List.sublist_append_right Y (A ++ C)))⟩
/-- 'append' of one's own, and of what lasts. -/
theorem mix_appendP {dd : Nat} {sT xT eT eX : TypeId} {w by' n cap : Nat} {a : Option Addr} {xo yo : Operand} {v z : Value} {es news : List (List Value)} {X₁ : Pcs} (hm : Met ops tm' ⟨some dd, .call ⟨.builtin .append, #[xo, yo], #[sT, xT]⟩, ty, pos, aft, gd⟩ true)
    (hT : P.underlying sT = some (.slice eT)) (hs : sizeT P eT = some w) (hz : zeroT P eT = some z) (hzs : z.cells.size = w) (hby : bytesT P eT = some by') (hx : P.underlying xT = some (.slice eX))
    (ev1 : evl tm' xo = v) (ev2 : evl tm' yo = .slice a n cap) (o1 : OwnS eT w v es X₁) (o2 : Sl p a n w news) (h1 : ∀ u ∈ news.flatten, isOne u = true)
    (room : (es.length + n) * by' ≤ 2 ^ 40) (hb2 : 0 < by' ∧ by' ≤ 2 ^ 20) (hw0 : 0 < w) (hq : ∀ v x, OwnS eT w v (es ++ news) x → q v x) :
    Mix P md ops tm' h₀ B₀ p A (X₁ ++ []) q ⟨some dd, .call ⟨.builtin .append, #[xo, yo], #[sT, xT]⟩, ty, pos, aft, gd⟩ :=
  mix_ex hm fun C h s => by
    rw [List.append_nil] at s
    exact ex_append [] hT hs hz hzs hby hx ev1 ev2 o1 s (src_per s hw0 o2) h1 room hb2 fun v' X' h' o' s' => ⟨X', hq _ _ o', s'⟩

theorem St.swap {h : Heap} {A U : Pcs} (s : St h₀ B₀ p h (A ++ U)) : St h₀ B₀ p h (U ++ (A ++ [])) := s.perm (by rw [List.append_nil]; exact List.perm_append_comm)
theorem St.swap' {h : Heap} {A U : Pcs} (s : St h₀ B₀ p h (U ++ (A ++ []))) : St h₀ B₀ p h (A ++ U) := s.perm (by rw [List.append_nil]; exact List.perm_append_comm)
end
end
end Go.X
namespace Go.X
open Go.Conc

theorem ones_of {l : List Value} (h : l.all isOne = true) : ∀ u ∈ l, isOne u = true := fun u hu => List.all_eq_true.1 h u hu

theorem ones_cons {v : Value} {l : List Value} (h : isOne v = true) (h2 : l.all isOne = true) : (v :: l).all isOne = true := by simp [h, h2]

/-- ints, by their numbers -/
def nums (f : Nat → Int) (k : Nat) : List Int := (List.range k).map f
def ns (f : Nat → Int) (k : Nat) : List (List Value) := (nums f k).map fun x => [.int .i64 x]
theorem nums_length (f : Nat → Int) (k : Nat) : (nums f k).length = k := by simp [nums]
theorem nums_getD {f : Nat → Int} {k i : Nat} (h : i < k) : (nums f k).getD i 0 = f i := by simp [nums, List.getD_eq_getElem?_getD, h]
theorem ns_length (f : Nat → Int) (k : Nat) : (ns f k).length = k := by simp [ns, nums]
theorem ns_succ (f : Nat → Int) (k : Nat) : ns f (k + 1) = ns f k ++ [[.int .i64 (f k)]] := by simp [ns, nums, List.range_succ]
theorem ints_ones (xs : List Int) : ∀ u ∈ (xs.map fun x => [Value.int .i64 x]).flatten, isOne u = true := by
  intro u hu
  rw [List.mem_flatten] at hu
  obtain ⟨l, hl, hu⟩ := hu
  obtain ⟨x, _, rfl⟩ := List.mem_map.1 hl
  rw [List.mem_singleton.1 hu]; rfl
theorem OwnS.as {T : TypeId} {w : Nat} {v : Value} {es es' : List (List Value)} {X : List (Nat × Obj)} (o : OwnS T w v es X) (e : es = es') : OwnS T w v es' X := by subst e; exact o
theorem OwnS.val {T : TypeId} {w : Nat} {v : Value} {es : List (List Value)} {X : List (Nat × Obj)} (o : OwnS T w v es X) : ∃ a cap, v = .slice a es.length cap ∧ (0 < es.length → a = some (adr a)) := by
  obtain ⟨_, ⟨rfl, rfl, rfl⟩ | ⟨b, cs, cap, rest, rfl, rfl, hcs, hlen⟩⟩ := o
  · exact ⟨_, _, rfl, fun h => absurd h (by simp)⟩
  · exact ⟨_, _, rfl, fun _ => rfl⟩
theorem OwnS.one {T : TypeId} {w : Nat} {v : Value} {es : List (List Value)} {X : List (Nat × Obj)} (o : OwnS T w v es X) : v.cells = #[v] ∧ isOne v = true := by
  obtain ⟨a, cap, rfl, _⟩ := o.val
  exact ⟨rfl, rfl⟩

/-- What a call that makes memory leaves: the pieces 'X' are new. -/
structure New (h h' : Heap) (X : Pcs) : Prop where
  keep : Keep h h'
  own : ∀ x ∈ X, h'[x.1]? = some x.2 ∧ h.size ≤ x.1
  nod : (X.map (·.1)).Nodup

section
variable {h₀ h h' : Heap} {B₀ : List Nat} {p : PHeap} {A X C L : Pcs}
theorem St.new (s : St h₀ [] p h X) : New h₀ h X := ⟨s.kept, fun x hx => ⟨(s.own x hx).1, (s.own x hx).2.2.resolve_right (by simp)⟩, s.nod⟩
theorem St.callN (s : St h₀ B₀ p h L) (n : New h h' X) : St h₀ B₀ p h' (X ++ L) := by
  have s' := s.call n.keep
  refine ⟨s'.keep, s'.size, s'.per, fun x hx => ?_, ?_⟩
  · rcases List.mem_append.1 hx with hx | hx
    · obtain ⟨h1, h2⟩ := n.own x hx
      refine ⟨h1, ?_, .inl (Nat.le_trans s.size h2)⟩
      cases hp : p x.1 with
      | none => rfl
      | some o => exact absurd (lt_of_get (s.per _ _ hp)) (Nat.not_lt.2 h2)
    · exact s'.own x hx
  · rw [List.map_append, List.nodup_append]
    refine ⟨n.nod, s.nod, fun a ha b hb e => ?_⟩
    subst e
    obtain ⟨x, hx, rfl⟩ := List.mem_map.1 ha
    obtain ⟨y, hy, e⟩ := List.mem_map.1 hb
    have h1 := (n.own x hx).2
    have h2 := lt_of_get (s.own y hy).1
    omega
theorem St.callNA (s : St h₀ B₀ p h (A ++ C)) (n : New h h' X) : St h₀ B₀ p h' (A ++ (X ++ C)) := (s.callN n).perm (by
  rw [← List.append_assoc, ← List.append_assoc]; exact List.Perm.append_right C List.perm_append_comm)
theorem St.dropA (s : St h₀ B₀ p h (A ++ C)) : St h₀ B₀ p h C := s.sub (List.sublist_append_right A C)
end

section
variable {P : Program} {md : Md} {ops rest : List Oper} {f : FuncId} {r : Rd} {df : List Deferred} {k : List Item} {cs : List Frame} {Stop : Goroutine → Heap → Prop} {tm : List Value}
  {h₀ : Heap} {B₀ : List Nat} {p : PHeap} {A C X Y : Pcs} {ty : TypeId} {pos : String} {aft : Array Edge} {gd : Option (Nat × Bool)}

theorem rl_perm {L L' : Pcs} (e : L.Perm L') (n : RL P md f r df k cs Stop ops rest tm (fun h => St h₀ B₀ p h L')) : RL P md f r df k cs Stop ops rest tm (fun h => St h₀ B₀ p h L) := rl_as n fun _ s => s.perm e

theorem base_eq (n : Nat) (g : Nat → Value) : (Array.range n).map g = ((List.range n).map g).toArray := by apply Array.ext'; simp

/-- A store of one cell. -/
theorem rl_store1 {T T' : TypeId} {x y : Operand} {i b off : Nat} {cs' cs2 : List Value} {v : Value} {L : Pcs} (hm : Met ops tm ⟨none, .store T x y, ty, pos, aft, gd⟩ true) (hs : sizeT P T = some 1)
    (hx : evl tm x = .pointer (some ⟨b, off, none⟩)) (hy : evl tm y = v) (hv : v.cells = #[v] ∧ isOne v = true) (hL : L[i]? = some (b, .cells cs'.toArray T' (0, 0))) (hlen : off < cs'.length) (h2 : cs'.set off v = cs2)
    (n : RL P md f r df k cs Stop ops rest tm (fun h => St h₀ B₀ p h (L.set i (b, .cells cs2.toArray T' (0, 0))))) :
    RL P md f r df k cs Stop ops (⟨none, .store T x y, ty, pos, aft, gd⟩ :: rest) tm (fun h => St h₀ B₀ p h L) :=
  rl_store hm hs hx hy hL (by rw [hv.1]; rfl) (by rw [hv.1]; simp [hv.2]) (by rw [hv.1]; exact hlen) (by rw [hv.1]; simpa [setl] using h2) n

/-- A store of what is there already. -/
theorem mix_same {T T' : TypeId} {x y : Operand} {i b off nsz : Nat} {cs' : List Value} {v : Value} {q : Value → Pcs → Prop} (hm : Met ops tm ⟨none, .store T x y, ty, pos, aft, gd⟩ true) (hs : sizeT P T = some nsz)
    (hx : evl tm x = .pointer (some ⟨b, off, none⟩)) (hy : evl tm y = v) (hL : ∀ C : Pcs, (A ++ C)[i]? = some (b, .cells cs'.toArray T' (0, 0))) (hv : v.cells.size = nsz) (h1 : v.cells.toList.all isOne = true) (hlen : off + v.cells.size ≤ cs'.length) (h2 : setl cs' off v.cells.toList = cs')
    (hq : q undef []) : Mix P md ops tm h₀ B₀ p A [] q ⟨none, .store T x y, ty, pos, aft, gd⟩ :=
  .inl ⟨hm, fun C h s => .inl (by
    unfold Exv
    rw [List.nil_append] at s
    simp only [execOp, hx, hy]
    refine wpS_bind ?_
    unfold Instr.storeAt
    refine wpS_bind (wpS_pure ?_)
    unfold storeVar
    refine wpS_bind (wpS_sizeOf hs ?_)
    rw [if_neg (by simpa using hv)]
    refine wpS_storeCells s (hL C) (by simpa using hlen) (fun u hu => List.all_eq_true.1 h1 u hu) fun h' s' => ?_
    refine wpS_pure ⟨undef, .inr ⟨rfl, rfl⟩, [], hq, ?_⟩
    rw [Nat.add_zero, h2] at s'
    have e : (A ++ C).set i (b, .cells cs'.toArray T' (0, 0)) = A ++ C := by
      refine List.ext_getElem? fun m => ?_
      rw [List.getElem?_set]
      split
      · rename_i e; subst e; rw [if_pos (List.getElem?_eq_some_iff.1 (hL C)).1, hL C]
      · rfl
    rw [e] at s'
    exact s')⟩
theorem mix_same1 {T T' : TypeId} {x y : Operand} {i b off : Nat} {cs' : List Value} {v : Value} {q : Value → Pcs → Prop} (hm : Met ops tm ⟨none, .store T x y, ty, pos, aft, gd⟩ true) (hs : sizeT P T = some 1)
    (hx : evl tm x = .pointer (some ⟨b, off, none⟩)) (hy : evl tm y = v) (hv : v.cells = #[v] ∧ isOne v = true) (hL : ∀ C : Pcs, (A ++ C)[i]? = some (b, .cells cs'.toArray T' (0, 0))) (hlen : off < cs'.length) (h2 : cs'.set off v = cs')
    (hq : q undef []) : Mix P md ops tm h₀ B₀ p A [] q ⟨none, .store T x y, ty, pos, aft, gd⟩ :=
  mix_same hm hs hx hy hL (by rw [hv.1]; rfl) (by rw [hv.1]; simp [hv.2]) (by rw [hv.1]; exact hlen) (by rw [hv.1]; simpa [setl] using h2) hq

/-- The literal '[]T{..}' -/
theorem ex_build {dd : Nat} {sT eT : TypeId} {w n : Nat} {parts : List (Nat × Operand)} {vs : List (Nat × Value)} {z : Value} {cells : Array Value} {es : List (List Value)} {h : Heap}
    (hT : P.underlying sT = some (.slice eT)) (hs : sizeT P eT = some w) (hz : zeroT P eT = some z) (hsm : n * w ≤ 2 ^ 24) (hvs : (parts.map fun (i, x) => (i, evl tm x)) = vs)
    (hf : Instr.fill (fun i => some (i * w, w)) ((List.range (n * w)).map (z.cells[· % z.cells.size]!)).toArray vs = some cells) (hc : cells = es.flatten.toArray) (hw : (es.all fun e => e.length == w) = true) (hn : es.length = n)
    (s : St h₀ B₀ p h C) {K : Value → Heap → Prop} (nx : ∀ v X h', OwnS eT w v es X → St h₀ B₀ p h' (X ++ C) → K v h') : Ex P tm ⟨some dd, .buildSlice sT n parts.toArray, ty, pos, aft, gd⟩ h K := by
  have hw' : ∀ e ∈ es, e.length = w := fun e he => by simpa using List.all_eq_true.1 hw e he
  have fin : ∀ b, OwnS eT w (.slice (some ⟨b, 0, none⟩) n n) es [(b, .cells cells eT (0, 0))] := fun b => OwnS.build hc hw' hn
  rw [← base_eq] at hf
  unfold Ex
  simp only [execOp]
  refine wpS_bind ?_
  unfold Instr.buildSlice
  refine wpS_bind (wpS_underlying hT ?_)
  simp only
  refine wpS_bind (wpS_sizeOf hs ?_)
  rw [if_neg (by omega)]
  by_cases h0 : n * w = 0
  · rw [if_pos h0]
    refine wpS_bind (wpS_pure ?_)
    have hcell : Instr.fill (fun i => some (i * w, w)) ((Array.range (n * w)).map ((#[] : Array Value)[· % (#[] : Array Value).size]!)) vs = some cells := by
      rw [← hf, h0, show Array.range 0 = (#[] : Array Nat) from by simp, Array.map_empty, Array.map_empty]
    simp only [List.map_toArray, hvs, hcell]
    refine wpS_bind (wpS_newRow ?_)
    refine wpS_pure ?_
    exact wpS_pure ⟨_, rfl, nx _ _ _ (fin _) (s.push _)⟩
  · rw [if_neg h0]
    refine wpS_bind (wpS_zeroValue hz ?_)
    refine wpS_bind (wpS_pure ?_)
    simp only [List.map_toArray, hvs, hf]
    refine wpS_bind (wpS_newRow ?_)
    refine wpS_pure ?_
    exact wpS_pure ⟨_, rfl, nx _ _ _ (fin _) (s.push _)⟩

theorem rl_buildO {dd : Nat} {sT eT : TypeId} {w n : Nat} {parts : List (Nat × Operand)} {vs : List (Nat × Value)} {z : Value} {cells : Array Value} {es : List (List Value)} (A : Pcs)
    (hm : Met ops tm ⟨some dd, .buildSlice sT n parts.toArray, ty, pos, aft, gd⟩ true)
    (hT : P.underlying sT = some (.slice eT)) (hs : sizeT P eT = some w) (hz : zeroT P eT = some z) (hsm : n * w ≤ 2 ^ 24) (hvs : (parts.map fun (i, x) => (i, evl tm x)) = vs)
    (hf : Instr.fill (fun i => some (i * w, w)) ((List.range (n * w)).map (z.cells[· % z.cells.size]!)).toArray vs = some cells) (hc : cells = es.flatten.toArray) (hw : (es.all fun e => e.length == w) = true) (hn : es.length = n)
    (nx : ∀ v X, OwnS eT w v es X → RL P md f r df k cs Stop ops rest (tm.set dd v) (fun h => St h₀ B₀ p h (A ++ (X ++ C)))) :
    RL P md f r df k cs Stop ops (⟨some dd, .buildSlice sT n parts.toArray, ty, pos, aft, gd⟩ :: rest) tm (fun h => St h₀ B₀ p h (A ++ C)) :=
  rl_step (K := fun v h' => ∃ X, OwnS eT w v es X ∧ St h₀ B₀ p h' (A ++ (X ++ C))) hm rfl (fun h s => ex_build hT hs hz hsm hvs hf hc hw hn s fun v X h' o s' => ⟨X, o, s'.perm (by
    rw [← List.append_assoc, ← List.append_assoc]; exact List.Perm.append_right C List.perm_append_comm)⟩) fun v => rl_ex fun X => rl_and fun o => nx v X o

theorem mix_buildO {dd : Nat} {sT eT : TypeId} {w n : Nat} {parts : List (Nat × Operand)} {vs : List (Nat × Value)} {z : Value} {cells : Array Value} {es : List (List Value)} {q : Value → Pcs → Prop} (hm : Met ops tm ⟨some dd, .buildSlice sT n parts.toArray, ty, pos, aft, gd⟩ true)
    (hT : P.underlying sT = some (.slice eT)) (hs : sizeT P eT = some w) (hz : zeroT P eT = some z) (hsm : n * w ≤ 2 ^ 24) (hvs : (parts.map fun (i, x) => (i, evl tm x)) = vs)
    (hf : Instr.fill (fun i => some (i * w, w)) ((List.range (n * w)).map (z.cells[· % z.cells.size]!)).toArray vs = some cells) (hc : cells = es.flatten.toArray) (hw : (es.all fun e => e.length == w) = true) (hn : es.length = n)
    (hq : ∀ v x, OwnS eT w v es x → q v x) : Mix P md ops tm h₀ B₀ p A [] q ⟨some dd, .buildSlice sT n parts.toArray, ty, pos, aft, gd⟩ :=
  mix_ex hm fun _ _ s => ex_build hT hs hz hsm hvs hf hc hw hn s fun _ X _ o s' => ⟨X, hq _ _ o, s'⟩

theorem rl_appendO {dd : Nat} {sT xT eT eX : TypeId} {w by' : Nat} {xo yo : Operand} {v x z : Value} {es news : List (List Value)} (A X Y : Pcs) (hm : Met ops tm ⟨some dd, .call ⟨.builtin .append, #[xo, yo], #[sT, xT]⟩, ty, pos, aft, gd⟩ true)
    (hT : P.underlying sT = some (.slice eT)) (hs : sizeT P eT = some w) (hz : zeroT P eT = some z) (hzs : z.cells.size = w) (hby : bytesT P eT = some by') (hx : P.underlying xT = some (.slice eX))
    (ev1 : evl tm xo = v) (ev2 : evl tm yo = x) (o1 : OwnS eT w v es X) (o2 : OwnS eT w x news Y) (h1 : ∀ u ∈ news.flatten, isOne u = true)
    (room : (es.length + news.length) * by' ≤ 2 ^ 40) (hb2 : 0 < by' ∧ by' ≤ 2 ^ 20)
    (nx : ∀ v' X', OwnS eT w v' (es ++ news) X' → RL P md f r df k cs Stop ops rest (tm.set dd v') (fun h => St h₀ B₀ p h (A ++ (X' ++ C)))) :
    RL P md f r df k cs Stop ops (⟨some dd, .call ⟨.builtin .append, #[xo, yo], #[sT, xT]⟩, ty, pos, aft, gd⟩ :: rest) tm (fun h => St h₀ B₀ p h (A ++ (X ++ (Y ++ C)))) :=
  rl_step (K := fun v' h' => ∃ X', OwnS eT w v' (es ++ news) X' ∧ St h₀ B₀ p h' (A ++ (X' ++ C))) hm rfl (fun h s => ex_append A hT hs hz hzs hby hx ev1 ev2 o1 s (src_ownS (L₁ := A ++ X) o2 (by rw [List.append_assoc]; exact s)) h1 room hb2 fun v' X' h' o' s' => ⟨X', o', s'.sub
      ((List.Sublist.refl A).append ((List.Sublist.refl X').append (List.sublist_append_right Y C)))⟩) fun v' => rl_ex fun X' => rl_and fun o' => nx v' X' o'

theorem rl_appendP {dd : Nat} {sT xT eT eX : TypeId} {w by' n cap : Nat} {a : Option Addr} {xo yo : Operand} {v z : Value} {es news : List (List Value)} (A X : Pcs) (hm : Met ops tm ⟨some dd, .call ⟨.builtin .append, #[xo, yo], #[sT, xT]⟩, ty, pos, aft, gd⟩ true)
    (hT : P.underlying sT = some (.slice eT)) (hs : sizeT P eT = some w) (hz : zeroT P eT = some z) (hzs : z.cells.size = w) (hby : bytesT P eT = some by') (hx : P.underlying xT = some (.slice eX))
    (ev1 : evl tm xo = v) (ev2 : evl tm yo = .slice a n cap) (o1 : OwnS eT w v es X) (o2 : Sl p a n w news) (h1 : ∀ u ∈ news.flatten, isOne u = true)
    (room : (es.length + n) * by' ≤ 2 ^ 40) (hb2 : 0 < by' ∧ by' ≤ 2 ^ 20) (hw0 : 0 < w)
    (nx : ∀ v' X', OwnS eT w v' (es ++ news) X' → RL P md f r df k cs Stop ops rest (tm.set dd v') (fun h => St h₀ B₀ p h (A ++ (X' ++ C)))) :
    RL P md f r df k cs Stop ops (⟨some dd, .call ⟨.builtin .append, #[xo, yo], #[sT, xT]⟩, ty, pos, aft, gd⟩ :: rest) tm (fun h => St h₀ B₀ p h (A ++ (X ++ C))) :=
  rl_step (K := fun v' h' => ∃ X', OwnS eT w v' (es ++ news) X' ∧ St h₀ B₀ p h' (A ++ (X' ++ C))) hm rfl (fun _ s => ex_append A hT hs hz hzs hby hx ev1 ev2 o1 s (src_per s hw0 o2) h1 room hb2 fun _ X' _ o' s' => ⟨X', o', s'⟩) fun v' => rl_ex fun X' => rl_and fun o' => nx v' X' o'
end
end Go.X
namespace Go.X
open Go.Conc

/-- A call of a function value. -/
def CallV (P : Program) (md : Md) (fv : Value) (args : List Value) (h : Heap) (R : Value → Heap → Prop) : Prop :=
  ∀ (c : Frame) (cs : List Frame) (Stop : Goroutine → Heap → Prop), (∀ v h', R v h' → Reach P md (G (c.finish v) cs) h' Stop) →
    wpS P (do let d ← Deferred.ofValue fv args.toArray; invoke d.target d.args) h (Upon P md c cs Stop)

section
variable {P : Program} {md : Md} {h : Heap} {R R' : Value → Heap → Prop}
theorem CallV.mono {fv : Value} {args : List Value} (x : CallV P md fv args h R) (y : ∀ v h', R v h' → R' v h') : CallV P md fv args h R' :=
  fun c cs Stop z => x c cs Stop fun v h' r => z v h' (y v h' r)

theorem callv_of {g : FuncId} {first cap args : List Value} (hg : callable P g = true) (x : CallsX P md g (first ++ (args ++ cap)).toArray h R) : CallV P md (.func (.func g) first.toArray cap.toArray) args h R := by
  intro c cs Stop z
  refine wpS_bind ?_
  unfold Deferred.ofValue
  refine wpS_pure ?_
  simp only [invoke]
  refine wpS_callFunc hg ?_
  show Reach P md (G (Frame.enter P g _ .normal) (c :: cs)) h Stop
  have e : (first.toArray ++ args.toArray ++ cap.toArray) = (first ++ (args ++ cap)).toArray := by simp
  rw [e]
  exact x c cs Stop z
end

section
variable {P : Program} {md : Md} {f : FuncId} {r : Rd} {df : List Deferred} {k : List Item} {cs : List Frame} {Stop : Goroutine → Heap → Prop}
  {ops rest : List Oper} {tm tm' : List Value} {h : Heap} {Φ : Heap → Prop} {h₀ : Heap} {B₀ : List Nat} {p : PHeap} {L : Pcs}

theorem rl_callv [Stb Φ] {args : List Operand} {ats : Array TypeId} {d : Option Tmp} {ty : TypeId} {pos : String} {aft : Array Edge} {gd : Option (Nat × Bool)} {x : Operand} {fv : Value} {vs : List Value} {R : Value → Heap → Prop}
    (hm : Met ops tm ⟨d, .call ⟨.value x, args.toArray, ats⟩, ty, pos, aft, gd⟩ true) (hx : evl tm x = fv) (hvs : args.map (evl tm) = vs)
    (hc : ∀ h, Φ h → CallV P md fv vs h R) (n : ∀ v, RL P md f r df k cs Stop ops rest (putl tm d v) (R v)) :
    RL P md f r df k cs Stop ops (⟨d, .call ⟨.value x, args.toArray, ats⟩, ty, pos, aft, gd⟩ :: rest) tm Φ := by
  intro pre e
  rw [rl_next]
  refine rs_op (rl_at e) (wanted_of_met hm) B_kind (.inr rfl) fun h y => ?_
  rw [ev_toArray]
  have := hc h y (F (B f r) tm.toArray df (.inRegion ops.toArray (pre.length :: List.range' (pre.length + 1) rest.length) :: k)) cs Stop fun v h' hR => by
    rw [finish_region (rl_at e), put_toArray]
    have := n v (pre ++ [⟨d, .call ⟨.value x, args.toArray, ats⟩, ty, pos, aft, gd⟩]) (by simp [e]) h' hR
    simpa [FL] using this
  simp only [execOp, resolve, hx, List.map_toArray, hvs]
  exact this

/-- 'yield': a round of the loop. -/
theorem callv_yield {l : Nat} {lp : Loop} {vs : List Value} {R : Value → Heap → Prop} (hl : h[l]? = some (.loop lp)) (hp : vs.length = lp.params.size)
    (ht : ((lp.params.zip vs.toArray).foldl (fun tmps (t, a) => tmps.setIfInBounds t a) lp.tmps) = tm'.toArray)
    (x : ∀ (c : Frame) (cs : List Frame) (Stop : Goroutine → Heap → Prop), (∀ v h', R v h' → Reach P md (G (c.finish v) cs) h' Stop) →
      RS P md (G (FL lp.fn (.some l) tm' [] [.code lp.assign, .beginRound, .code lp.body]) (c :: cs)) Φ Stop) (h0 : Φ h) : CallV P md (.func (.yield l) #[] #[]) vs h R := by
  intro c cs Stop z
  refine wpS_bind ?_
  unfold Deferred.ofValue
  refine wpS_pure ?_
  simp only [invoke]
  unfold Instr.yield Instr.getLoop
  refine wpS_bind ?_
  refine wpS_bind ?_
  simp only [getObj, wpS, hl]
  refine ⟨rfl, ?_⟩
  refine wpS_pure ?_
  rw [if_neg (by simpa using hp)]
  refine wpS_pure ?_
  show Reach P md (G (Frame.round l lp.fn _ lp.assign lp.body .normal) (c :: cs)) h Stop
  have e : (#[] : Array Value) ++ vs.toArray = vs.toArray := by simp
  rw [e, ht]
  exact x c cs Stop z h h0

theorem wpS_getLoop {l : Nat} {lp : Loop} {K : Loop → Heap → Prop} (hl : h[l]? = some (.loop lp)) (x : K lp h) : wpS P (Instr.getLoop l) h K := by
  unfold Instr.getLoop
  refine wpS_bind ?_
  simp only [getObj, wpS, hl]
  exact ⟨rfl, wpS_pure x⟩
theorem wpS_setLoop {l : Nat} {lp lp' : Loop} {K : Unit → Heap → Prop} (hl : h[l]? = some (.loop lp)) (x : K () (h.setIfInBounds l (.loop lp'))) : wpS P (setObj l (.loop lp')) h K := by
  simp only [setObj, wpS, hl]
  exact ⟨rfl, rfl, x⟩

theorem St.setObj (s : St h₀ B₀ p h L) {i b : Nat} {o o' : Obj} (hL : L[i]? = some (b, o)) : St h₀ B₀ p (h.setIfInBounds b o') (L.set i (b, o')) :=
  s.turn hL (by rw [Array.getElem?_setIfInBounds_self_of_lt (lt_of_get (s.at hL))]) (by simp) fun c hc => by rw [Array.getElem?_setIfInBounds_ne (Ne.symm hc)]

/-- A round begins. -/
theorem fl_begin {l i : Nat} {lp : Loop} (hL : L[i]? = some (l, .loop lp)) (hr : lp.state = .ready)
    (x : RS P md (G (FL f (.some l) tm df k) cs) (fun h => St h₀ B₀ p h (L.set i (l, .loop { lp with state := .busy }))) Stop) :
    RS P md (G (FL f (.some l) tm df (.beginRound :: k)) cs) (fun h => St h₀ B₀ p h L) Stop := by
  refine rs_apply (show (B f (.some l)).kind ≠ .early from B_kind) rfl (fun w => rfl) fun h s => ?_
  show wpS P (do Instr.beginRound l; pure Next.skip) h _
  refine wpS_bind ?_
  unfold Instr.beginRound
  refine wpS_bind (wpS_getLoop (s.at hL) ?_)
  refine wpS_bind (wpS_setLoop (s.at hL) ?_)
  rw [hr]
  refine wpS_pure ?_
  refine wpS_pure ?_
  exact x _ (s.setObj hL)

theorem rs_leave {l i : Nat} {lp lp' : Loop} {c : Frame} {jump : Option Code} {v : Value} (hL : L[i]? = some (l, .loop lp)) (hv : v = .bool jump.isNone) (hl : { lp with state := if jump.isNone then .ready else .done, pending := jump } = lp')
    (hstep : ∀ w, stepG P md.isMain (G (FL f (.some l) tm df k) (c :: cs)) w = (let (r, es) := (Instr.endRound l jump).runT P w #[]
        GStep.after (seen P f es) <| match r with
        | .ok v w => doReturn P md.isMain (FL f (.some l) tm df k) (c :: cs) none v w
        | .halt _ w => .ended (.stuck "range over a function: no such loop" ((FL f (.some l) tm df k).pos P)) w))
    (x : RS P md (G (c.finish v) cs) (fun h => St h₀ B₀ p h (L.set i (l, .loop lp'))) Stop) :
    RS P md (G (FL f (.some l) tm df k) (c :: cs)) (fun h => St h₀ B₀ p h L) Stop := by
  intro h s
  refine reach_step ⟨rfl, fun h₁ k₁ S w V => ?_⟩
  have s₁ := s.call k₁
  have hx : wpS P (Instr.endRound l jump) h₁ fun v' h' => v' = v ∧ St h₀ B₀ p h' (L.set i (l, .loop lp')) := by
    unfold Instr.endRound
    refine wpS_bind (wpS_getLoop (s₁.at hL) ?_)
    refine wpS_bind (wpS_setLoop (s₁.at hL) ?_)
    refine wpS_pure ⟨hv.symm, ?_⟩
    rw [← hl]
    exact s₁.setObj hL
  obtain ⟨v', h', w', es, e1, e2, ⟨e3, e4⟩, e5, e6, e7⟩ := wpS_run _ #[] hx V
  subst e3
  refine ⟨_, h', w', seen P f es, ?_, x h' e4, e5, e6, evL_seen e7⟩
  rw [hstep w]
  simp only [Array.empty_append] at e1
  simp only [e1, GStep.after, doReturn, FL, F, B, Rd.kind, Rd.round, G, Array.append_empty]

/-- A round comes to its end. -/
theorem fl_rend {l i : Nat} {lp lp' : Loop} {c : Frame} (hL : L[i]? = some (l, .loop lp)) (hl : { lp with state := .ready, pending := none } = lp')
    (x : RS P md (G (c.finish (.bool true)) cs) (fun h => St h₀ B₀ p h (L.set i (l, .loop lp'))) Stop) :
    RS P md (G (FL f (.some l) tm df []) (c :: cs)) (fun h => St h₀ B₀ p h L) Stop :=
  rs_leave hL rfl (jump := none) (by simpa using hl) (fun _ => rfl) x
/-- A round returns. -/
theorem fl_rret {l i : Nat} {lp lp' : Loop} {c : Frame} (hL : L[i]? = some (l, .loop lp)) (hl : { lp with state := .done, pending := some .ret } = lp')
    (x : RS P md (G (c.finish (.bool false)) cs) (fun h => St h₀ B₀ p h (L.set i (l, .loop lp'))) Stop) :
    RS P md (G (FL f (.some l) tm df (.code .ret :: k)) (c :: cs)) (fun h => St h₀ B₀ p h L) Stop :=
  rs_leave hL rfl (jump := some .ret) (by simpa using hl) (fun _ => rfl) x

/-- Behind the loop. -/
theorem fl_endRange {l i : Nat} {lp : Loop} (hL : L[i]? = some (l, .loop lp)) (hb : lp.state ≠ .busy)
    (x : RS P md (G (FL f r tm df ((lp.pending.map Item.code).toList ++ k)) cs) (fun h => St h₀ B₀ p h (L.set i (l, .loop { lp with state := .exhausted }))) Stop) :
    RS P md (G (FL f r tm df (.endRangeFunc l :: k)) cs) (fun h => St h₀ B₀ p h L) Stop := by
  intro h s
  refine reach_step ⟨rfl, fun h₁ k₁ S w V => ?_⟩
  have s₁ := s.call k₁
  have hx : wpS P (Instr.endLoop l) h₁ fun v' h' => v' = lp.pending ∧ St h₀ B₀ p h' (L.set i (l, .loop { lp with state := .exhausted })) := by
    unfold Instr.endLoop
    refine wpS_bind (wpS_getLoop (s₁.at hL) ?_)
    rw [if_neg (by cases h : lp.state <;> simp_all)]
    refine wpS_bind (wpS_setLoop (s₁.at hL) ?_)
    exact wpS_pure ⟨rfl, s₁.setObj hL⟩
  obtain ⟨v', h', w', es, e1, e2, ⟨e3, e4⟩, e5, e6, e7⟩ := wpS_run _ #[] hx V
  subst e3
  refine ⟨_, h', w', seen P f es, ?_, x h' e4, e5, e6, evL_seen e7⟩
  simp only [Array.empty_append] at e1
  simp only [G, stepG, stepG.exec, FL, F, B, e1, GStep.after, Array.append_empty]

def loopOf (f : FuncId) (tm : List Value) (params : Array Tmp) (assign body : Code) (r : Nat) : Loop := { state := .ready, pending := none, fn := f, tmps := tm.toArray, params, assign, body, defers := r }

theorem zip_set : ∀ (l : List (Nat × Value)) (tm : List Value), l.foldl (fun (tmps : Array Value) (q : Nat × Value) => tmps.setIfInBounds q.1 q.2) tm.toArray = (l.foldl (fun tm q => tm.set q.1 q.2) tm).toArray
  | [], _ => rfl
  | q :: l, tm => by
    simp only [List.foldl_cons]
    rw [← zip_set l]; simp

theorem callv_round {l d : Nat} {lp : Loop} {vs : List Value} {R : Value → Heap → Prop} {params : List Tmp} {assign body : Code} (hl : h[l]? = some (.loop lp)) (e : lp = loopOf f tm params.toArray assign body d) (hp : vs.length = params.length)
    (ht : (params.zip vs).foldl (fun tm q => tm.set q.1 q.2) tm = tm')
    (x : ∀ (c : Frame) (cs : List Frame) (Stop : Goroutine → Heap → Prop), (∀ v h', R v h' → Reach P md (G (c.finish v) cs) h' Stop) →
      RS P md (G (FL f (.some l) tm' [] [.code assign, .beginRound, .code body]) (c :: cs)) Φ Stop) (h0 : Φ h) : CallV P md (.func (.yield l) #[] #[]) vs h R := by
  subst e; exact callv_yield hl (by simpa [loopOf] using hp) (by
    show ((params.toArray.zip vs.toArray).foldl (fun (tmps : Array Value) (q : Nat × Value) => tmps.setIfInBounds q.1 q.2) tm.toArray) = _
    rw [List.zip_toArray, List.foldl_toArray, zip_set, ht]) x h0

theorem fl_endNone {l i : Nat} {lp : Loop} (hL : L[i]? = some (l, .loop lp)) (hb : lp.state ≠ .busy) (hp : lp.pending = none)
    (x : RS P md (G (FL f r tm df k) cs) (fun h => St h₀ B₀ p h (L.set i (l, .loop { lp with state := .exhausted }))) Stop) :
    RS P md (G (FL f r tm df (.endRangeFunc l :: k)) cs) (fun h => St h₀ B₀ p h L) Stop := fl_endRange hL hb (by
  have e : (lp.pending.map Item.code).toList ++ k = k := by rw [hp]; rfl
  rw [e]; exact x)
theorem fl_endSome {l i : Nat} {lp : Loop} {j : Code} (hL : L[i]? = some (l, .loop lp)) (hb : lp.state ≠ .busy) (hp : lp.pending = some j)
    (x : RS P md (G (FL f r tm df (.code j :: k)) cs) (fun h => St h₀ B₀ p h (L.set i (l, .loop { lp with state := .exhausted }))) Stop) :
    RS P md (G (FL f r tm df (.endRangeFunc l :: k)) cs) (fun h => St h₀ B₀ p h L) Stop := fl_endRange hL hb (by
  have e : (lp.pending.map Item.code).toList ++ k = .code j :: k := by rw [hp]; rfl
  rw [e]; exact x)

theorem perm_eraseIdx {α : Type} : ∀ {l : List α} {i : Nat} {x : α}, l[i]? = some x → l.Perm (x :: l.eraseIdx i)
  | [], _, _, h => by simp at h
  | a :: l, 0, x, h => by simp at h; subst h; exact .refl _
  | a :: l, i + 1, x, h => ((perm_eraseIdx (l := l) (i := i) (by simpa using h)).cons a).trans (.swap _ _ _)

/-- A block of one's own lasts from now on. -/
theorem rs_last {g : Goroutine} {b : Nat} {o : Obj} (i : Nat) (hL : L[i]? = some (b, o)) {L' : Pcs} (he : L.eraseIdx i = L')
    (n : ∀ p', PLe p p' → p' b = some o → RS P md g (fun h => St h₀ B₀ p' h L') Stop) : RS P md g (fun h => St h₀ B₀ p h L) Stop := fun h s => by
  subst he
  have s' : St h₀ B₀ p h ((b, o) :: L.eraseIdx i) := s.perm (perm_eraseIdx hL)
  exact n _ s'.last.1 padd_self h s'.last.2

theorem rs_own {g : Goroutine} {L' : Pcs} (e : L = L') (n : RS P md g (fun h => St h₀ B₀ p h L') Stop) : RS P md g (fun h => St h₀ B₀ p h L) Stop := by subst e; exact n

theorem rs_perm {g : Goroutine} {L' : Pcs} (e : L.Perm L') (n : RS P md g (fun h => St h₀ B₀ p h L') Stop) : RS P md g (fun h => St h₀ B₀ p h L) Stop := fun h s => n h (s.perm e)

theorem St.rot {Z A U : Pcs} (s : St h₀ B₀ p h (Z ++ ((A ++ U) ++ []))) : St h₀ B₀ p h (A ++ (U ++ (Z ++ []))) := s.perm (by
  rw [List.append_nil, List.append_nil, ← List.append_assoc A U Z]; exact List.perm_append_comm)
theorem St.rot' {Z A U : Pcs} (s : St h₀ B₀ p h (A ++ (U ++ (Z ++ [])))) : St h₀ B₀ p h (Z ++ ((A ++ U) ++ [])) := s.perm (by
  rw [List.append_nil, List.append_nil, ← List.append_assoc A U Z]; exact List.perm_append_comm)

def mark (r : Nat) : Deferred := { target := .collected r, args := #[] }

/-- A loop over a function is entered. -/
theorem fl_range {rr : Rd} {fop : Operand} {params : Array Tmp} {assign body : Code} {R : Nat → Nat → Loop → Value → Heap → Prop}
    (hc : ∀ r l lp h, lp = loopOf f tm params assign body r → St h₀ B₀ p h ((l, .loop lp) :: (r, .deferred (some [])) :: L) → CallV P md (evl tm fop) [.func (.yield l) #[] #[]] h (R r l lp))
    (n : ∀ r l lp v, lp = loopOf f tm params assign body r → RS P md (G (FL f rr tm (mark r :: df) (.endRangeFunc l :: k)) cs) (R r l lp v) Stop) (hrr : rr.round = Option.none := by rfl) :
    RS P md (G (FL f rr tm df (.code (.rangeFunc fop params assign body) :: k)) cs) (fun h => St h₀ B₀ p h L) Stop := by
  intro h s
  refine reach_step ⟨rfl, fun h₁ k₁ S w V => ?_⟩
  have s₁ := s.call k₁
  have hx : wpS P (Instr.enterLoop f tm.toArray params assign body none) h₁ fun a h' => ∃ r l, a = (l, [mark r]) ∧
      St h₀ B₀ p h' ((l, .loop (loopOf f tm params assign body r)) :: (r, .deferred (some [])) :: L) := by
    unfold Instr.enterLoop
    refine wpS_bind ?_
    refine wpS_bind ?_
    simp only [newObj]
    refine wpS_pure ?_
    refine wpS_bind ?_
    simp only [wpS]
    exact wpS_pure ⟨_, _, rfl, (s₁.push _).push _⟩
  obtain ⟨a, h', w', es, e1, e2, ⟨r, l, rfl, e4⟩, e5, e6, e7⟩ := wpS_run _ #[] hx V
  have hup := hc r l _ h' rfl e4 (FL f rr tm (mark r :: df) (.inRangeFunc l :: k)) cs Stop fun v h2 y => n r l _ v rfl h2 y
  obtain ⟨nx, h2, w2, es2, g1, g2, g3, g4, g5, g6⟩ := wpS_run _ #[] hup e5
  simp only [Array.empty_append] at e1 g1
  have hstep : stepG P md.isMain (G (FL f rr tm df (.code (.rangeFunc fop params assign body) :: k)) cs) w =
      GStep.after (seen P f es) (stepG.apply P true (FL f rr tm (mark r :: df) (.inRangeFunc l :: k)) cs none (do let d ← Deferred.ofValue (evl tm fop) #[.func (.yield l) #[] #[]]; invoke d.target d.args) w') := by
    have he : Frame.eval (FL f rr tm (mark r :: df) (.inRangeFunc l :: k)) = evl tm := by rw [← ev_toArray]; exact eval_F
    simp only [G, stepG, stepG.exec, FL, F, B, hrr, e1]
    simp only [FL, F, B, hrr] at he
    simp only [resolve, List.map_toArray, List.map_cons, List.map_nil]
    have e3 : ({ fn := f, tmps := tm.toArray, todo := .inRangeFunc l :: k, defers := [mark r] ++ df, mode := .run, kind := rr.kind, roundOf := Option.none } : Frame).eval = evl tm := he
    rw [e3]
    rfl
  have hev : ∀ e ∈ seen P f es ++ seen P f es2, EvX S w2.heap.size e := fun e he => by
    rcases Array.mem_append.1 he with he | he
    · exact evX_mono g5.size (evL_seen e7 e he)
    · exact evL_seen g6 e he
  have hkk : (rr.kind == CallKind.early) = false := by cases rr <;> rfl
  rw [hstep]
  cases nx <;> first | exact g3.elim | skip
  all_goals
    refine ⟨_, h2, w2, seen P f es ++ seen P f es2, ?_, g3, g4, e6.trans g5, hev⟩
    simp only [stepG.apply, if_true]
    simp only [g1, GStep.after, FL, F, B, hrr, hkk, Bool.false_eq_true, if_false, G, Array.append_empty]
    try rfl

/-- What a return that a mark stands ahead of leaves of it. -/
theorem fl_retD {c₀ : Frame} {fn : Func} {rs : List ResultVar} {vs : List Value} {v : Value} {m i : Nat} (hf : P.funcs[f]? = some fn) (hr : fn.results = rs.toArray) (hL : L[i]? = some (m, .deferred (some [])))
    (e : ∀ h, St h₀ B₀ p h (L.set i (m, .deferred none)) → Res P h tm rs vs) (hv : packs vs = v)
    (x : RS P md (G (c₀.finish v) cs) (fun h => St h₀ B₀ p h (L.set i (m, .deferred none))) Stop) : RS P md (G (FL f .none tm [mark m] (.code .ret :: k)) (c₀ :: cs)) (fun h => St h₀ B₀ p h L) Stop :=
  rs_ret (hro := rfl) fun _ => rs_collected (fun _ s => s.at hL) fun _ s => rs_return (Φ := fun h => St h₀ B₀ p h (L.set i (m, .deferred none))) hf rfl (fun h y => wpS_results hr (e h y) hv (x h y)) _ (s.setObj hL)
end

/-! ### blocks of the caller's that a call turns -/
/-- Block 'b' has been turned into 'o', all else stands. -/
structure Turned (h h' : Heap) (b : Nat) (o : Obj) : Prop where
  size : h.size ≤ h'.size
  keep : ∀ c, c < h.size → c ≠ b → h'[c]? = h[c]?
  here : h'[b]? = some o

section
variable {h₀ h h' : Heap} {B₀ : List Nat} {p : PHeap} {L : Pcs}
theorem St.startB {b : Nat} {o : Obj} (hb : h[b]? = some o) : St h [b] (fun _ => none) h [(b, o)] :=
  ⟨fun _ _ _ => rfl, Nat.le_refl _, fun _ _ e => (by cases e), fun x hx => by obtain rfl := List.mem_singleton.1 hx; exact ⟨hb, rfl, .inr (by simp)⟩, by simp⟩
theorem St.turned {b : Nat} {o : Obj} (s : St h₀ [b] p h L) (i : Nat) (hL : L[i]? = some (b, o)) : Turned h₀ h b o :=
  ⟨s.size, fun c hc hn => s.keep c hc (by simpa using hn), s.at hL⟩
theorem St.callT {b : Nat} {o o' : Obj} (s : St h₀ B₀ p h L) (i : Nat) (hL : L[i]? = some (b, o)) (t : Turned h h' b o') : St h₀ B₀ p h' (L.set i (b, o')) := by
  have hb := s.at hL
  have s1 := s.turn (h' := h.setIfInBounds b o') hL (by rw [Array.getElem?_setIfInBounds_self_of_lt (lt_of_get hb)]) (by simp) fun c hc => by rw [Array.getElem?_setIfInBounds_ne (Ne.symm hc)]
  refine s1.call ⟨by simpa using t.size, fun c hc => ?_⟩
  by_cases e : c = b
  · subst e; rw [t.here, Array.getElem?_setIfInBounds_self_of_lt (lt_of_get hb)]
  · rw [Array.getElem?_setIfInBounds_ne (Ne.symm e)]; exact t.keep c (by simpa using hc) e
end

theorem per_cell {p : PHeap} {b off : Nat} {c : Array Value} {t : TypeId} {z : Nat × Nat} {v : Value} (hb : p b = some (.cells c t z)) (hv : c[off]? = some v) : pcell p ⟨b, off, none⟩ = some v := by
  unfold pcell; rw [hb]; exact hv

theorem per_cells {p : PHeap} {b off n : Nat} {c : Array Value} {t : TypeId} {z : Nat × Nat} {vs : List Value} (hb : p b = some (.cells c t z)) (hv : (c.toList.drop off).take n = vs) :
    ∀ j v, vs[j]? = some v → pcell p ((⟨b, off, none⟩ : Addr).add j) = some v := fun j v hj => by
  rw [add_mk]
  refine per_cell hb ?_
  subst hv
  rw [List.getElem?_take] at hj
  split at hj
  · rw [List.getElem?_drop] at hj; simpa using hj
  · cases hj

section
variable {P : Program} {tm : List Value} {d : Option Tmp} {ty : TypeId} {pos : String} {aft : Array Edge} {gd : Option (Nat × Bool)} {h : Heap}
theorem exd_nilCheck {x : Operand} {a : Addr} (hx : evl tm x = .pointer (some a)) : Exd P tm ⟨d, .nilCheck x, ty, pos, aft, gd⟩ h (.pointer (some a)) := by
  unfold Exd Ex; simp only [execOp, hx]; exact wpS_pure ⟨_, rfl, rfl, rfl⟩

variable {md : Md} {f : FuncId} {r : Rd} {df : List Deferred} {k : List Item} {cs : List Frame} {Stop : Goroutine → Heap → Prop} {ops rest : List Oper} {tm' : List Value} {Φ : Heap → Prop}
theorem rl_callvd [sb : Stb Φ] {args : List Operand} {ats : Array TypeId} {x : Operand} {fv v : Value} {vs : List Value}
    (hm : Met ops tm ⟨d, .call ⟨.value x, args.toArray, ats⟩, ty, pos, aft, gd⟩ true) (hx : evl tm x = fv) (hvs : args.map (evl tm) = vs)
    (hc : ∀ h, Φ h → CallV P md fv vs h fun v' h' => v' = v ∧ Keep h h') (ht : putl tm d v = tm') (n : RL P md f r df k cs Stop ops rest tm' Φ) :
    RL P md f r df k cs Stop ops (⟨d, .call ⟨.value x, args.toArray, ats⟩, ty, pos, aft, gd⟩ :: rest) tm Φ :=
  rl_callv (R := fun v' h' => v' = v ∧ Φ h') hm hx hvs (fun h y => (hc h y).mono fun _ h' ⟨e1, e2⟩ => ⟨e1, sb.stb _ _ y e2⟩) fun v' pre e h ⟨e1, y⟩ => by subst e1; rw [ht]; exact n pre e h y
end
end Go.X
namespace Go.X
open Go.Conc

def adrV : Value → Addr
  | .slice (some a) _ _ => a
  | _ => ⟨0, 0, none⟩

theorem flatten_set {w : Nat} {y : Value} : ∀ {es : List (List Value)}, (∀ e ∈ es, e.length = w) → ∀ {i j : Nat} {e : List Value}, es[i]? = some e → j < e.length → es.flatten.set (i * w + j) y = (es.set i (e.set j y)).flatten
  | [], _, i, _, e, hi, _ => by simp at hi
  | e₀ :: es, h, i, j, e, hi, hj => by
    have h0 := h e₀ (by simp)
    cases i with
    | zero =>
      simp at hi; subst hi
      rw [Nat.zero_mul, Nat.zero_add, List.flatten_cons, List.set_cons_zero, List.flatten_cons, List.set_append_left _ _ hj]
    | succ i =>
      simp at hi
      have := flatten_set (y := y) (fun x hx => h x (by simp [hx])) hi hj
      rw [List.flatten_cons, List.set_cons_succ, List.flatten_cons, List.set_append_right _ _ (by rw [h0, Nat.succ_mul]; omega), ← this]
      congr 2
      rw [h0, Nat.succ_mul]; omega

theorem OwnS.has {T : TypeId} {w i : Nat} {v : Value} {es : List (List Value)} {X : List (Nat × Obj)} (o : OwnS T w v es X) (hi : i < es.length) :
    ∃ b cs cap rest, v = .slice (some ⟨b, 0, none⟩) es.length cap ∧ X = [(b, .cells (List.toArray cs) T (0, 0))] ∧ cs = es.flatten ++ rest ∧ cs.length = cap * w := by
  obtain ⟨_, ⟨_, h, _⟩ | h⟩ := o
  · subst h; simp at hi
  · exact h

section
variable {P : Program} {md : Md} {f : FuncId} {r : Rd} {df : List Deferred} {k : List Item} {cs : List Frame} {Stop : Goroutine → Heap → Prop}
  {ops rest : List Oper} {tm tm' : List Value} {h : Heap} {h₀ : Heap} {B₀ : List Nat} {p : PHeap} {A X C L : Pcs} {d : Option Tmp} {ty : TypeId} {pos : String} {aft : Array Edge} {gd : Option (Nat × Bool)}
  {T : TypeId} {w : Nat} {v : Value} {es : List (List Value)}

theorem exd_lenO {t e : TypeId} {x : Operand} (o : OwnS T w v es X) (ht : P.underlying t = some (.slice e)) (hx : evl tm x = v) :
    Exd P tm ⟨d, .call ⟨.builtin .len, #[x], #[t]⟩, ty, pos, aft, gd⟩ h (.int .i64 (es.length : Nat)) := by
  obtain ⟨a, cap, e, _⟩ := o.val
  exact exd_len ht (hx.trans e)

theorem exd_lenN {t e : TypeId} {x : Operand} {n : Nat} (o : OwnS T w v es X) (hn : es.length = n) (ht : P.underlying t = some (.slice e)) (hx : evl tm x = v) :
    Exd P tm ⟨d, .call ⟨.builtin .len, #[x], #[t]⟩, ty, pos, aft, gd⟩ h (.int .i64 (n : Nat)) := by subst hn; exact exd_lenO o ht hx

theorem exd_indexO {t e : TypeId} {x y : Operand} {i : Nat} (o : OwnS T w v es X) (ht : P.underlying t = some (.slice e)) (hs : sizeT P e = some w) (hx : evl tm x = v) (hy : evl tm y = .int .i64 (i : Nat)) (hi : i < es.length) :
    Exd P tm ⟨d, .indexAddr t x y, ty, pos, aft, gd⟩ h (.pointer (some ((adrV v).add (i * w)))) := by
  obtain ⟨b, cs, cap, rest, e1, _⟩ := o.has hi
  rw [e1] at hx ⊢
  exact exd_indexAddrN ht hs hx hy hi

theorem exd_loadO {t : TypeId} {x : Operand} {i j : Nat} {e : List Value} {u : Value} {a : Addr} (o : OwnS T w v es X) (s : St h₀ B₀ p h (A ++ (X ++ C))) (ht : aggT P t = some false) (hx : evl tm x = .pointer (some a)) (ha : ((adrV v).add (i * w)).add j = a)
    (hi : es[i]? = some e) (hj : e[j]? = some u) : Exd P tm ⟨d, .load t x, ty, pos, aft, gd⟩ h u := by
  obtain ⟨b, cs, cap, rest, e1, e2, e3, e4⟩ := o.has (List.getElem?_eq_some_iff.1 hi).1
  subst e1; subst e2; subst ha
  refine exd_load ht hx ?_
  simp only [adrV]
  rw [add_mk, add_mk]
  refine s.ocell (i := A.length) (cs := cs.toArray) (T := T) (z := (0, 0)) (by rw [List.getElem?_append_right (Nat.le_refl _)]; simp) ?_
  have := flatten_get o.1 hi hj
  rw [List.getElem?_toArray, e3, Nat.zero_add, List.getElem?_append_left (List.getElem?_eq_some_iff.1 this).1]
  exact this

/-- A store into an element's cell. -/
theorem rl_storeO {T' : TypeId} {x y : Operand} {i j : Nat} {e : List Value} {u : Value} {a : Addr} (o : OwnS T w v es X) (hm : Met ops tm ⟨none, .store T' x y, ty, pos, aft, gd⟩ true) (hs : sizeT P T' = some 1) (hx : evl tm x = .pointer (some a)) (ha : ((adrV v).add (i * w)).add j = a)
    (hy : evl tm y = u) (hv : u.cells = #[u] ∧ isOne u = true) (hi : es[i]? = some e) (hj : j < e.length)
    (n : ∀ X', OwnS T w v (es.set i (e.set j u)) X' → RL P md f r df k cs Stop ops rest tm (fun h => St h₀ B₀ p h (A ++ (X' ++ C)))) :
    RL P md f r df k cs Stop ops (⟨none, .store T' x y, ty, pos, aft, gd⟩ :: rest) tm (fun h => St h₀ B₀ p h (A ++ (X ++ C))) := by
  have hil := (List.getElem?_eq_some_iff.1 hi).1
  obtain ⟨b, cs', cap, rs, e1, e2, e3, e4⟩ := o.has hil
  have hlt : i * w + j < es.flatten.length := (List.getElem?_eq_some_iff.1 (flatten_get o.1 hi (List.getElem?_eq_getElem hj))).1
  have he : e.length = w := o.1 e (List.mem_of_getElem? hi)
  subst e1; subst e2; subst ha
  have e5 : cs'.set (i * w + j) u = (es.set i (e.set j u)).flatten ++ rs := by
    rw [e3, List.set_append_left _ _ hlt, flatten_set o.1 hi hj]
  have o' : OwnS T w (.slice (some ⟨b, 0, none⟩) es.length cap) (es.set i (e.set j u)) [(b, .cells (cs'.set (i * w + j) u).toArray T (0, 0))] := by
    refine ⟨fun z hz => ?_, .inr ⟨b, cs'.set (i * w + j) u, cap, rs, by simp, rfl, e5, by simpa using e4⟩⟩
    rcases List.mem_or_eq_of_mem_set hz with h | h
    · exact o.1 z h
    · subst h; simpa using he
  have hx' : evl tm x = .pointer (some ⟨b, i * w + j, none⟩) := by
    rw [hx]; simp only [adrV]; rw [add_mk, add_mk, Nat.zero_add]
  refine rl_store1 (i := A.length) (b := b) (off := i * w + j) (cs' := cs') (T' := T) hm hs hx' hy hv (by rw [List.getElem?_append_right (Nat.le_refl _)]; simp) (by rw [e3, List.length_append]; omega) rfl ?_
  have e6 : (A ++ ([(b, Obj.cells (List.toArray cs') T (0, 0))] ++ C)).set A.length (b, .cells (cs'.set (i * w + j) u).toArray T (0, 0)) = A ++ ([(b, .cells (cs'.set (i * w + j) u).toArray T (0, 0))] ++ C) := by
    rw [List.set_append_right _ _ (Nat.le_refl _)]; simp
  rw [e6]
  exact n _ o'

/-- A slice of one's own lasts from now on. -/
theorem rl_lastO (o : OwnS T w v es X) (n : ∀ p' a cap, PLe p p' → v = .slice a es.length cap → Sl p' a es.length w es → RL P md f r df k cs Stop ops rest tm (fun h => St h₀ B₀ p' h (A ++ C))) :
    RL P md f r df k cs Stop ops rest tm (fun h => St h₀ B₀ p h (A ++ (X ++ C))) := fun pre e h s => by
  obtain ⟨p', a, cap, h1, h2, h3, h4, _⟩ := o.last (s.perm (by rw [← List.append_assoc, ← List.append_assoc]; exact List.Perm.append_right C List.perm_append_comm) : St h₀ B₀ p h (X ++ (A ++ C)))
  exact n p' a cap h1 h3 h4 pre e h h2
theorem rs_lastO {g : Goroutine} (o : OwnS T w v es X) (n : ∀ p' a cap, PLe p p' → v = .slice a es.length cap → Sl p' a es.length w es → RS P md g (fun h => St h₀ B₀ p' h (A ++ C)) Stop) :
    RS P md g (fun h => St h₀ B₀ p h (A ++ (X ++ C))) Stop := fun h s => by
  obtain ⟨p', a, cap, h1, h2, h3, h4, _⟩ := o.last (s.perm (by rw [← List.append_assoc, ← List.append_assoc]; exact List.Perm.append_right C List.perm_append_comm) : St h₀ B₀ p h (X ++ (A ++ C)))
  exact n p' a cap h1 h3 h4 h h2

theorem rl_lastN {n : Nat} (o : OwnS T w v es X) (hn : es.length = n) (nx : ∀ p' a cap, PLe p p' → v = .slice a n cap → Sl p' a n w es → RL P md f r df k cs Stop ops rest tm (fun h => St h₀ B₀ p' h (A ++ C))) :
    RL P md f r df k cs Stop ops rest tm (fun h => St h₀ B₀ p h (A ++ (X ++ C))) := by subst hn; exact rl_lastO o nx

/-- What lasts may be forgotten. -/
theorem St.forget {p' : PHeap} (s : St h₀ B₀ p' h L) (le : PLe p p') : St h₀ B₀ p h L :=
  ⟨s.keep, s.size, fun b o e => s.per b o (le b o e), fun x hx => ⟨(s.own x hx).1, (by
    cases e : p x.1 with
    | none => rfl
    | some o => have h := (s.own x hx).2.1; rw [le _ _ e] at h; cases h), (s.own x hx).2.2⟩, s.nod⟩
/-- For a call, a block of one's own lasts. -/
theorem St.perO {b i : Nat} {o : Obj} (s : St h₀ B₀ p h L) (hL : L[i]? = some (b, o)) : Per (padd p b o) h := fun c x hc => by
  unfold padd at hc
  split at hc
  · rename_i e; subst e; cases hc; exact s.at hL
  · exact s.per c x hc
theorem St.leO {b i : Nat} {o : Obj} (s : St h₀ B₀ p h L) (hL : L[i]? = some (b, o)) : PLe p (padd p b o) := padd_le (s.own _ (mem_of_get? hL)).2.1
end

section
variable {P : Program} {md : Md} {Base : Heap → Prop} {ops rest : List Oper} {tm tm' tmF : List Value} {d : Option Tmp} {ty : TypeId} {pos : String} {aft : Array Edge} {gd : Option (Nat × Bool)}
theorem sw_callv [sb : Stb Base] {args : List Operand} {ats : Array TypeId} {x : Operand} {fv v : Value} {vs : List Value} (hm : Met ops tm ⟨d, .call ⟨.value x, args.toArray, ats⟩, ty, pos, aft, gd⟩ true) (hx : evl tm x = fv) (hvs : args.map (evl tm) = vs)
    (hc : ∀ h, Base h → CallV P md fv vs h fun v' h' => v' = v ∧ Keep h h') (ht : putl tm d v = tm') (n : SW P md ops Base rest tm' tmF) :
    SW P md ops Base (⟨d, .call ⟨.value x, args.toArray, ats⟩, ty, pos, aft, gd⟩ :: rest) tm tmF :=
  ⟨rfl, .inl ⟨hm, v, fun h hb => .inr (.inr fun c cs Stop z => by
    have := hc h hb c cs Stop fun v' h' ⟨e, k⟩ => z v' h' ⟨e, sb.stb _ _ hb k⟩
    simp only [execOp, resolve, hx, List.map_toArray, hvs]
    exact this), by rw [ht]; exact n⟩⟩

theorem exd_eqNil {T e T' : TypeId} {x : Operand} {a : Option Addr} {n c : Nat} {h : Heap} (hT : P.underlying T = some (.slice e)) (hx : evl tm x = .slice a n c) :
    Exd P tm ⟨d, .binOp .eql T x (.const (.slice none 0 0)) T', ty, pos, aft, gd⟩ h (.bool a.isNone) := by
  refine exd_bin hx rfl (fun K z => ?_) ?_
  · unfold eqGuard
    rw [if_neg (by decide)]
    exact wpS_pure z
  · simp only [evl, binOp, Op.equal, Op.maxDepth]
    refine wpS_bind ?_
    rw [show (10000 : Nat) = 9999 + 1 from rfl]
    unfold Op.equalIn
    refine wpS_bind (wpS_underlying hT ?_)
    cases a with
    | none => exact wpS_pure (wpS_pure ⟨rfl, rfl⟩)
    | some a => exact wpS_pure (wpS_pure ⟨rfl, rfl⟩)
end
section
variable {P : Program} {md : Md} {Base : Heap → Prop} {ops full rest : List Oper} {f : FuncId} {r : Rd} {df : List Deferred} {k : List Item} {cs : List Frame} {Stop : Goroutine → Heap → Prop} {tm tm' : List Value}
theorem swr_callv [Stb Base] {args : List Operand} {ats : Array TypeId} {d : Option Tmp} {ty : TypeId} {pos : String} {aft : Array Edge} {gd : Option (Nat × Bool)} {x : Operand} {fv v : Value} {vs : List Value} (hm : Met ops tm ⟨d, .call ⟨.value x, args.toArray, ats⟩, ty, pos, aft, gd⟩ true) (hx : evl tm x = fv) (hvs : args.map (evl tm) = vs)
    (hc : ∀ h, Base h → CallV P md fv vs h fun v' h' => v' = v ∧ Keep h h') (ht : putl tm d v = tm') (n : SWR P md f r df k cs Stop Base ops full rest tm') :
    SWR P md f r df k cs Stop Base ops full (⟨d, .call ⟨.value x, args.toArray, ats⟩, ty, pos, aft, gd⟩ :: rest) tm := by
  obtain ⟨tmF, s, n⟩ := n
  exact ⟨tmF, sw_callv hm hx hvs hc ht s, n⟩
end
end Go.X
namespace Go.X
open Go.Conc

theorem same_step {xs ys : List Int} {k : Nat} (h : ∀ i, i < k → xs.getD i 0 = ys.getD i 0) (e : xs.getD k 0 = ys.getD k 0) : ∀ i, i < k + 1 → xs.getD i 0 = ys.getD i 0 := fun i hi => by
  by_cases c : i = k
  · subst c; exact e
  · exact h i (by omega)
theorem ext_getD {α : Type} {d : α} {xs ys : List α} (h1 : xs.length = ys.length) (h2 : ∀ i, i < xs.length → xs.getD i d = ys.getD i d) : xs = ys := by
  refine List.ext_getElem h1 fun i a b => ?_
  have := h2 i a
  rw [List.getD_eq_getElem?_getD, List.getD_eq_getElem?_getD, List.getElem?_eq_getElem a, List.getElem?_eq_getElem b] at this
  exact this
theorem same_no {xs ys : List Int} {m n : Nat} (h1 : xs.length = m) (h2 : ys.length = n) (h : (m : Int) ≠ n) : (Value.bool false) = .bool (decide (xs = ys)) := by
  rw [decide_eq_false]; intro e; subst e; omega
theorem same_not {xs ys : List Int} {k : Nat} (h : xs.getD k 0 ≠ ys.getD k 0) : (Value.bool false) = .bool (decide (xs = ys)) := by
  rw [decide_eq_false]; intro e; subst e; exact h rfl
theorem same_yes {xs ys : List Int} {m n k : Nat} (h1 : xs.length = m) (h2 : ys.length = n) (h : (m : Int) = n) (hk : m ≤ k) (hs : ∀ i, i < k → xs.getD i 0 = ys.getD i 0) : (Value.bool true) = .bool (decide (xs = ys)) := by
  rw [decide_eq_true]; exact ext_getD (by omega) fun i hi => hs i (by omega)
end Go.X
namespace Go.X
open Go.Conc
theorem rs_lastN {P : Program} {md : Md} {Stop : Goroutine → Heap → Prop} {h₀ : Heap} {B₀ : List Nat} {p : PHeap} {A X C : Pcs} {T : TypeId} {w : Nat} {v : Value} {es : List (List Value)} {g : Goroutine} {n : Nat} (o : OwnS T w v es X) (hn : es.length = n)
    (nx : ∀ p' a cap, PLe p p' → v = .slice a n cap → Sl p' a n w es → RS P md g (fun h => St h₀ B₀ p' h (A ++ C)) Stop) : RS P md g (fun h => St h₀ B₀ p h (A ++ (X ++ C))) Stop := by
  subst hn; exact rs_lastO o nx
section
variable {P : Program} {h₀ h : Heap} {B₀ : List Nat} {p : PHeap} {A X C L : Pcs} {T : TypeId} {w : Nat} {v : Value} {es : List (List Value)}
variable {tm : List Value} {d : Option Tmp} {ty : TypeId} {pos : String} {aft : Array Edge} {gd : Option (Nat × Bool)}
end
end Go.X
namespace Go.X
open Go.Conc

section
variable {P : Program} {h : Heap}

theorem wpS_partA {t : TypeId} {cs : Array Value} {off n : Nat} {K : Value → Heap → Prop} (ha : aggT P t = some true) (hs : sizeT P t = some n) (x : K (.agg (cs.extract off (off + n))) h) : wpS P (part t cs off) h K := by
  unfold part
  refine wpS_bind (wpS_isAgg ha ?_)
  rw [if_pos rfl]
  exact wpS_bind (wpS_sizeOf hs (wpS_pure x))
theorem wpS_part1 {t : TypeId} {cs : Array Value} {off : Nat} {v : Value} {K : Value → Heap → Prop} (ha : aggT P t = some false) (hv : cs[off]? = some v) (x : K v h) : wpS P (part t cs off) h K := by
  unfold part
  refine wpS_bind (wpS_isAgg ha ?_)
  rw [if_neg (by simp), hv]
  exact wpS_pure x

theorem wpS_program {K : Program → Heap → Prop} (x : K P h) : wpS P program h K := by simp only [program, wpS]; exact x

/-- Comparing from these fields on comes to 'r'. -/
def EqOk (P : Program) (d : Nat) (xs ys : Array Value) : List Field → Bool → Prop
  | [], r => r = true
  | f :: fs, r => f.name ≠ "_" ∧ ∃ a b q, (∀ h (K : Value → Heap → Prop), K a h → wpS P (part f.type xs f.offset) h K) ∧ (∀ h (K : Value → Heap → Prop), K b h → wpS P (part f.type ys f.offset) h K) ∧
      (∀ h (K : Bool → Heap → Prop), K q h → wpS P (Op.equalIn d f.type a b) h K) ∧ (q = false ∧ r = false ∨ q = true ∧ EqOk P d xs ys fs r)

theorem wpS_eqStruct {d : Nat} {t : TypeId} {fs : Array Field} {xs ys : Array Value} {r : Bool} {K : Bool → Heap → Prop} (ht : P.underlying t = some (.struct fs)) (hp : P.stoodInHeld t = false) (e : EqOk P d xs ys fs.toList r) (k : K r h) :
    wpS P (Op.equalIn (d + 1) t (.agg xs) (.agg ys)) h K := by
  simp only [Op.equalIn]
  refine wpS_bind (wpS_underlying ht ?_)
  simp only
  refine wpS_bind (wpS_program ?_)
  rw [if_neg (by rw [hp]; simp)]
  rw [← Array.forIn_toList]
  generalize fs.toList = l at e
  refine wpS_bind ?_
  induction l generalizing h with
  | nil =>
    rw [show r = true from e] at k
    simp only [List.forIn_nil]
    exact wpS_pure (wpS_pure k)
  | cons f l ih =>
    obtain ⟨hn, a, b, q, ha, hb, hq, hr⟩ := e
    simp only [List.forIn_cons]
    refine wpS_bind ?_
    rw [if_pos hn]
    refine wpS_bind (ha _ _ ?_)
    refine wpS_bind (hb _ _ ?_)
    refine wpS_bind (hq _ _ ?_)
    rcases hr with ⟨rfl, rfl⟩ | ⟨rfl, hr⟩
    · exact wpS_pure (wpS_pure (wpS_pure k))
    · exact wpS_pure (ih k hr)

theorem wpS_eqInt {d : Nat} {t : TypeId} {k : IntKind} {a b : Int} {K : Bool → Heap → Prop} (ht : P.underlying t = some (.int k)) (x : K (decide (a = b)) h) : wpS P (Op.equalIn (d + 1) t (.int k a) (.int k b)) h K := by
  simp only [Op.equalIn]
  refine wpS_bind (wpS_underlying ht ?_)
  simp only [if_true, ibeq]
  exact wpS_pure x

variable {tm : List Value} {d : Option Tmp} {ty : TypeId} {pos : String} {aft : Array Edge} {gd : Option (Nat × Bool)}
theorem eqAgg_guard {op : BinOp} {T : TypeId} {x y : Operand} {xs ys : Array Value} {K : Unit → Heap → Prop} (hg : P.eqGuardType P.depth T = false) (z : K () h) : wpS P (eqGuard op T x y (.agg xs) (.agg ys)) h K := by
  unfold eqGuard
  cases op <;> first | (rw [if_pos (by rfl)]; exact wpS_pure z) | (rw [if_neg (by decide)]; refine wpS_bind (wpS_program (wpS_bind (wpS_program ?_))); rw [if_pos (by rw [hg]; rfl)]; exact wpS_pure z)
theorem exd_eqAgg {T T' : TypeId} {x y : Operand} {xs ys : Array Value} {q : Bool} (hg : P.eqGuardType P.depth T = false) (e : ∀ h (K : Bool → Heap → Prop), K q h → wpS P (Op.equalIn (9999 + 1) T (.agg xs) (.agg ys)) h K) (hx : evl tm x = .agg xs) (hy : evl tm y = .agg ys) :
    Exd P tm ⟨d, .binOp .eql T x y T', ty, pos, aft, gd⟩ h (.bool q) := by
  refine exd_bin hx hy (fun K z => eqAgg_guard hg z) ?_
  simp only [binOp, Op.equal, Op.maxDepth]
  refine wpS_bind (e _ _ ?_)
  exact wpS_pure ⟨rfl, rfl⟩
theorem exd_neqAgg {T T' : TypeId} {x y : Operand} {xs ys : Array Value} {q : Bool} (hg : P.eqGuardType P.depth T = false) (e : ∀ h (K : Bool → Heap → Prop), K q h → wpS P (Op.equalIn (9999 + 1) T (.agg xs) (.agg ys)) h K) (hx : evl tm x = .agg xs) (hy : evl tm y = .agg ys) :
    Exd P tm ⟨d, .binOp .neq T x y T', ty, pos, aft, gd⟩ h (.bool (!q)) := by
  refine exd_bin hx hy (fun K z => eqAgg_guard hg z) ?_
  simp only [binOp, Op.equal, Op.maxDepth]
  refine wpS_bind (e _ _ ?_)
  exact wpS_pure ⟨rfl, rfl⟩
end
end Go.X
namespace Go.X
open Go.Conc
section
variable {P : Program} {h : Heap} {tm : List Value} {d : Option Tmp} {ty : TypeId} {pos : String} {aft : Array Edge} {gd : Option (Nat × Bool)}
end
end Go.X
namespace Go.X
open Go.Conc
section
variable {P : Program} {md : Md} {ops : List Oper} {tm : List Value} {h₀ : Heap} {B₀ : List Nat} {p : PHeap} {A : Pcs} {ty : TypeId} {pos : String} {aft : Array Edge} {gd : Option (Nat × Bool)}
end
end Go.X
