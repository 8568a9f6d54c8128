/-
  MasterTried, for every input: the law returns true and leaves its arguments as they were. The row, and the tied card. No condition.
-/
import Derived.Test.YtofhlcococeifaaGreatDoorRowMasterTriedY
import Derived.Test.YtofhlcococeifaaGreatDoorCards
import Derived.Test.YtofhlcococeifaaGreatDoorTie
set_option maxHeartbeats 1600000
set_option maxRecDepth 100000
namespace Go.Proofs.YtofhlcococeifaaGreatDoor
open Go.X Go.X.Ms Go.Conc Go.RowKit Go.ChangeShapes Go.WideShapes Go.ChangeAt Go.Joins
theorem xat:Rows.masterTriedRow.wfByText (OpenSpec.ofChange Rows.masterTriedSpec)=true:=by kernel_rfl
theorem xgn:true=Rows.masterTriedRow.goesBy Tryz.pinned.checked.prog:=by kernel_rfl
theorem xfn : Tryz.pinned.checked.prog.mainIs = some (true, "17be26dae2b95e2136e882a9586f7758d7b3b805994925de90f94dc98dff47aa".toList) := by kernel_rfl
theorem xll:true=Tryz.pinned.checked.prog.looks []:=by kernel_rfl
theorem xkl:([33,36].all fun u=>!Tryz.prog.wantsStandIn u)=true:=by kernel_rfl
theorem masterTriedHolds:Rows.MasterTriedCardSaid:=
 xaf .later [.data, .data, .data, .data, .data, .data, .sentinel, .sentinel, .pinned] true (true, "17be26dae2b95e2136e882a9586f7758d7b3b805994925de90f94dc98dff47aa") true masterTriedRowHolds xat masterTried_row_tie rfl ⟨rfl, rfl⟩ xfn rfl
  (fun f fn hf hfn=>by
   obtain rfl : f = 5 := Option.some.inj ((show Tryz.prog.funcNamed "steening/steeninglaw12.MasterTried" = some 5 by kernel_rfl).symm.trans hf) |>.symm
   obtain rfl:fn=Tryz.f5:=(Option.some.inj (Tryz.func5.symm.trans hfn)).symm;refine⟨xll,fun j t ht=>?_⟩;rw[Tryz.params5]at ht;have hm:t∈[33,36]:=by simpa using Array.mem_of_getElem? ht
   exact(show Tryz.prog.wantsStandIn t=false by simpa using List.all_eq_true.1 xkl t hm))
  xgn
#print axioms masterTriedHolds
end Go.Proofs.YtofhlcococeifaaGreatDoor
