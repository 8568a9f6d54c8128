/-
  Part of proofs about a town's master: a calculus for Bc beside goroutines that are only leaving, and the Bc. No condition.
-/
import Derived.Test.YtofhlcococeifaaGreatDoorProg
import Derived.KernelRfl
namespace Go.X
theorem om{p : Prop}(h : p := by omega): p := h
theorem _root_.Go.k_{p : Prop}(h : p := by kernel_rfl): p := h
theorem _root_.Go.d_{p : Prop}(h : p := by decide): p := h
theorem _root_.Go.s_{p : Prop}(h : p := by simp): p := h
abbrev _root_.Go.w_(b i : Nat): Value :=.pointer (some ⟨b, i, none⟩)
abbrev _root_.Go.Value.J(x : Int): Value :=.int .i64 x
end Go.X
