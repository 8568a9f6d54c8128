/-
  Part of proofs about a town's master: a calculus for walks beside goroutines that are only leaving, and the walks. No condition.
-/
import Derived.Test.YtjcakmlipohaeaaGreatDoorProg
namespace Go.X
theorem om{p:Prop}(h:p:=by omega):p:=h
end Go.X
