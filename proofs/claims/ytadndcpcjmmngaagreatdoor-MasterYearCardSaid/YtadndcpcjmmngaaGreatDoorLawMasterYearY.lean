/-
  MasterYear, for every input: the law returns true and leaves its arguments as they were. The row, and the tied card. No condition.
-/
import Derived.Test.YtadndcpcjmmngaaGreatDoorRowMasterYearY
import Derived.Test.YtadndcpcjmmngaaGreatDoorCards
import Derived.Test.YtadndcpcjmmngaaGreatDoorTie
set_option maxHeartbeats 1600000
set_option maxRecDepth 100000
namespace Go.Proofs.YtadndcpcjmmngaaGreatDoor
open Go.X Go.X.Ms Go.Conc Go.RowKit Go.ChangeShapes Go.WideShapes Go.ChangeAt Go.Joins
theorem xp0:Rows.masterYearRow.wfByText (OpenSpec.ofChange Rows.masterYearSpec)=true:=by kernel_rfl
theorem xtn:true=Rows.masterYearRow.goesBy Tryz.pinned.checked.prog:=by kernel_rfl
theorem xsn : Tryz.pinned.checked.prog.mainIs = some (true, "9be93106110a649edb2795098e3d6dfdcb6c9047988ba127998cfd0072c6b55c".toList) := by kernel_rfl
theorem xim:true=Tryz.pinned.checked.prog.looks []:=by kernel_rfl
theorem xhm:([33,45].all fun u=>!Tryz.prog.wantsStandIn u)=true:=by kernel_rfl
theorem masterYearHolds:Rows.MasterYearCardSaid:=
 xkt .later [.data, .data, .data, .data, .data, .data, .sentinel, .sentinel, .pinned] true (true, "9be93106110a649edb2795098e3d6dfdcb6c9047988ba127998cfd0072c6b55c") true masterYearRowHolds xp0 masterYear_row_tie rfl ⟨rfl, rfl⟩ xsn rfl
  (fun f fn hf hfn=>by
   obtain rfl : f = 4 := Option.some.inj ((show Tryz.prog.funcNamed "steening/steeninglaw12.MasterYear" = some 4 by kernel_rfl).symm.trans hf) |>.symm
   obtain rfl:fn=Tryz.f4:=(Option.some.inj (Tryz.func4.symm.trans hfn)).symm;refine⟨xim,fun j t ht=>?_⟩;rw[Tryz.params4]at ht;have hm:t∈[33,45]:=by simpa using Array.mem_of_getElem? ht
   exact(show Tryz.prog.wantsStandIn t=false by simpa using List.all_eq_true.1 xhm t hm))
  xtn
#print axioms masterYearHolds
end Go.Proofs.YtadndcpcjmmngaaGreatDoor
