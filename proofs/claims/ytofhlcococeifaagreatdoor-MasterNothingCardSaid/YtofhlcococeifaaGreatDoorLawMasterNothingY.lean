/-
  MasterNothing, for every input: the law returns true and leaves its arguments as they were. The row, and the tied card. No condition.
-/
import Derived.Test.YtofhlcococeifaaGreatDoorRowMasterNothingY
import Derived.Test.YtofhlcococeifaaGreatDoorCards
import Derived.Test.YtofhlcococeifaaGreatDoorTie
set_option maxHeartbeats 1600000
set_option maxRecDepth 100000
namespace Go.Proofs.YtofhlcococeifaaGreatDoor
open Go.X Go.X.Ms Go.Conc Go.RowKit Go.ChangeShapes Go.WideShapes Go.ChangeAt Go.Joins
theorem xhn:Rows.masterNothingRow.wfByText (OpenSpec.ofChange Rows.masterNothingSpec)=true:=by kernel_rfl
theorem xch:true=Rows.masterNothingRow.goesBy Tryz.pinned.checked.prog:=by kernel_rfl
theorem xbh : Tryz.pinned.checked.prog.mainIs = some (true, "17be26dae2b95e2136e882a9586f7758d7b3b805994925de90f94dc98dff47aa".toList) := by kernel_rfl
theorem xsf:true=Tryz.pinned.checked.prog.looks []:=by kernel_rfl
theorem xrf:([33,34].all fun u=>!Tryz.prog.wantsStandIn u)=true:=by kernel_rfl
theorem masterNothingHolds:Rows.MasterNothingCardSaid:=
 xaf .later [.data, .data, .data, .data, .data, .data, .sentinel, .sentinel, .pinned] true (true, "17be26dae2b95e2136e882a9586f7758d7b3b805994925de90f94dc98dff47aa") true masterNothingRowHolds xhn masterNothing_row_tie rfl ⟨rfl, rfl⟩ xbh rfl
  (fun f fn hf hfn=>by
   obtain rfl : f = 4 := Option.some.inj ((show Tryz.prog.funcNamed "steening/steeninglaw12.MasterNothing" = some 4 by kernel_rfl).symm.trans hf) |>.symm
   obtain rfl:fn=Tryz.f4:=(Option.some.inj (Tryz.func4.symm.trans hfn)).symm;refine⟨xsf,fun j t ht=>?_⟩;rw[Tryz.params4]at ht;have hm:t∈[33,34]:=by simpa using Array.mem_of_getElem? ht
   exact(show Tryz.prog.wantsStandIn t=false by simpa using List.all_eq_true.1 xrf t hm))
  xch
#print axioms masterNothingHolds
end Go.Proofs.YtofhlcococeifaaGreatDoor
