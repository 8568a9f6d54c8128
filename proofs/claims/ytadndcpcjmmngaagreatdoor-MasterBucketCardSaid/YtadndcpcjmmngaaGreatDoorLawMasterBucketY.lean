/-
  MasterBucket, for every input: the law returns true and leaves its arguments as they were. The row, and the tied card. No condition.
-/
import Derived.Test.YtadndcpcjmmngaaGreatDoorRowMasterBucketY
import Derived.Test.YtadndcpcjmmngaaGreatDoorCards
import Derived.Test.YtadndcpcjmmngaaGreatDoorTie
set_option maxHeartbeats 1600000
set_option maxRecDepth 100000
namespace Go.Proofs.YtadndcpcjmmngaaGreatDoor
open Go.X Go.X.Ms Go.Conc Go.RowKit Go.ChangeShapes Go.WideShapes Go.ChangeAt Go.Joins
theorem xun:Rows.masterBucketRow.wfByText (OpenSpec.ofChange Rows.masterBucketSpec)=true:=by kernel_rfl
theorem xnh:true=Rows.masterBucketRow.goesBy Tryz.pinned.checked.prog:=by kernel_rfl
theorem xmh : Tryz.pinned.checked.prog.mainIs = some (true, "9be93106110a649edb2795098e3d6dfdcb6c9047988ba127998cfd0072c6b55c".toList) := by kernel_rfl
theorem xjg:true=Tryz.pinned.checked.prog.looks []:=by kernel_rfl
theorem xig:([33,3,3].all fun u=>!Tryz.prog.wantsStandIn u)=true:=by kernel_rfl
theorem masterBucketHolds:Rows.MasterBucketCardSaid:=
 xkt .later [.data, .data, .data, .data, .data, .data, .sentinel, .sentinel, .pinned] true (true, "9be93106110a649edb2795098e3d6dfdcb6c9047988ba127998cfd0072c6b55c") true masterBucketRowHolds xun masterBucket_row_tie rfl ⟨rfl, rfl⟩ xmh rfl
  (fun f fn hf hfn=>by
   obtain rfl : f = 3 := Option.some.inj ((show Tryz.prog.funcNamed "steening/steeninglaw12.MasterBucket" = some 3 by kernel_rfl).symm.trans hf) |>.symm
   obtain rfl:fn=Tryz.f3:=(Option.some.inj (Tryz.func3.symm.trans hfn)).symm;refine⟨xjg,fun j t ht=>?_⟩;rw[Tryz.params3]at ht;have hm:t∈[33,3,3]:=by simpa using Array.mem_of_getElem? ht
   exact(show Tryz.prog.wantsStandIn t=false by simpa using List.all_eq_true.1 xig t hm))
  xnh
#print axioms masterBucketHolds
end Go.Proofs.YtadndcpcjmmngaaGreatDoor
