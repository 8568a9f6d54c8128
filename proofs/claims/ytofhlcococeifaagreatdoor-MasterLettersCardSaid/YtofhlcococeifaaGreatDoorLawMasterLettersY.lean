/-
  MasterLetters, for every input: the law returns true and leaves its arguments as they were. The row, and the tied card. No condition.
-/
import Derived.Test.YtofhlcococeifaaGreatDoorRowMasterLettersY
import Derived.Test.YtofhlcococeifaaGreatDoorCards
import Derived.Test.YtofhlcococeifaaGreatDoorTie
set_option maxHeartbeats 1600000
set_option maxRecDepth 100000
namespace Go.Proofs.YtofhlcococeifaaGreatDoor
open Go.X Go.X.Ms Go.Conc Go.RowKit Go.ChangeShapes Go.WideShapes Go.ChangeAt Go.Joins
theorem xin:Rows.masterLettersRow.wfByText (OpenSpec.ofChange Rows.masterLettersSpec)=true:=by kernel_rfl
theorem xeh:true=Rows.masterLettersRow.goesBy Tryz.pinned.checked.prog:=by kernel_rfl
theorem xdh : Tryz.pinned.checked.prog.mainIs = some (true, "17be26dae2b95e2136e882a9586f7758d7b3b805994925de90f94dc98dff47aa".toList) := by kernel_rfl
theorem xvf:true=Tryz.pinned.checked.prog.looks []:=by kernel_rfl
theorem xuf:([33,9,9].all fun u=>!Tryz.prog.wantsStandIn u)=true:=by kernel_rfl
theorem masterLettersHolds:Rows.MasterLettersCardSaid:=
 xaf .later [.data, .data, .data, .data, .data, .data, .sentinel, .sentinel, .pinned] true (true, "17be26dae2b95e2136e882a9586f7758d7b3b805994925de90f94dc98dff47aa") true masterLettersRowHolds xin masterLetters_row_tie rfl ⟨rfl, rfl⟩ xdh rfl
  (fun f fn hf hfn=>by
   obtain rfl : f = 6 := Option.some.inj ((show Tryz.prog.funcNamed "steening/steeninglaw12.MasterLetters" = some 6 by kernel_rfl).symm.trans hf) |>.symm
   obtain rfl:fn=Tryz.f6:=(Option.some.inj (Tryz.func6.symm.trans hfn)).symm;refine⟨xvf,fun j t ht=>?_⟩;rw[Tryz.params6]at ht;have hm:t∈[33,9,9]:=by simpa using Array.mem_of_getElem? ht
   exact(show Tryz.prog.wantsStandIn t=false by simpa using List.all_eq_true.1 xuf t hm))
  xeh
#print axioms masterLettersHolds
end Go.Proofs.YtofhlcococeifaaGreatDoor
