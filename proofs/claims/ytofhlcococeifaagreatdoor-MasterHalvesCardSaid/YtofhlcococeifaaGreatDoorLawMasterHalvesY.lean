/-
  MasterHalves, for every input: the law returns true and leaves its arguments as they were. The row, and the tied card. No condition.
-/
import Derived.Test.YtofhlcococeifaaGreatDoorRowMasterHalvesY
import Derived.Test.YtofhlcococeifaaGreatDoorCards
import Derived.Test.YtofhlcococeifaaGreatDoorTie
set_option maxHeartbeats 1600000
set_option maxRecDepth 100000
namespace Go.Proofs.YtofhlcococeifaaGreatDoor
open Go.X Go.X.Ms Go.Conc Go.RowKit Go.ChangeShapes Go.WideShapes Go.ChangeAt Go.Joins
theorem xlp:Rows.masterHalvesRow.wfByText (OpenSpec.ofChange Rows.masterHalvesSpec)=true:=by kernel_rfl
theorem xol:true=Rows.masterHalvesRow.goesBy Tryz.pinned.checked.prog:=by kernel_rfl
theorem xnl : Tryz.pinned.checked.prog.mainIs = some (true, "17be26dae2b95e2136e882a9586f7758d7b3b805994925de90f94dc98dff47aa".toList) := by kernel_rfl
theorem xgh:true=Tryz.pinned.checked.prog.looks []:=by kernel_rfl
theorem xfh:([33,36].all fun u=>!Tryz.prog.wantsStandIn u)=true:=by kernel_rfl
theorem masterHalvesHolds:Rows.MasterHalvesCardSaid:=
 xaf .later [.data, .data, .data, .data, .data, .data, .sentinel, .sentinel, .pinned] true (true, "17be26dae2b95e2136e882a9586f7758d7b3b805994925de90f94dc98dff47aa") true masterHalvesRowHolds xlp masterHalves_row_tie rfl ⟨rfl, rfl⟩ xnl rfl
  (fun f fn hf hfn=>by
   obtain rfl : f = 3 := Option.some.inj ((show Tryz.prog.funcNamed "steening/steeninglaw12.MasterHalves" = some 3 by kernel_rfl).symm.trans hf) |>.symm
   obtain rfl:fn=Tryz.f3:=(Option.some.inj (Tryz.func3.symm.trans hfn)).symm;refine⟨xgh,fun j t ht=>?_⟩;rw[Tryz.params3]at ht;have hm:t∈[33,36]:=by simpa using Array.mem_of_getElem? ht
   exact(show Tryz.prog.wantsStandIn t=false by simpa using List.all_eq_true.1 xfh t hm))
  xol
#print axioms masterHalvesHolds
end Go.Proofs.YtofhlcococeifaaGreatDoor
