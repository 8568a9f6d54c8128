/-
  MasterBeside, for every input: the law returns true and leaves its arguments as they were. The row, and the tied card. No condition.
-/
import Derived.Test.YtblcmdjhidhnjaaGreatDoorRowMasterBeside
import Derived.Test.YtblcmdjhidhnjaaGreatDoorCards
import Derived.Test.YtblcmdjhidhnjaaGreatDoorTie
set_option maxRecDepth 100000
namespace Go.Proofs.YtblcmdjhidhnjaaGreatDoor
open Go.X Go.X.Ms Go.Conc Go.RowKit Go.ChangeShapes Go.WideShapes Go.ChangeAt Go.Joins
theorem xum:Rows.masterBesideRow.wfByText (OpenSpec.ofChange Rows.masterBesideSpec)=true:=by kernel_rfl
theorem xbh:true=Rows.masterBesideRow.goesBy Tryz.pinned.checked.prog:=by kernel_rfl
theorem xah : Tryz.pinned.checked.prog.mainIs = some (true, "5064c06e3b48d2da83e56f6feca60bfbab711a6e5a847e69eba9b4d2d1931328".toList) := by kernel_rfl
theorem xzf:true=Tryz.pinned.checked.prog.looks []:=by kernel_rfl
theorem xyf:([33,9,9].all fun u=>!Tryz.prog.wantsStandIn u)=true:=by kernel_rfl
theorem masterBesideHolds:Rows.MasterBesideCardSaid:=
 xr8 .later [.data, .data, .data, .data, .data, .data, .sentinel, .sentinel, .pinned] true (true, "5064c06e3b48d2da83e56f6feca60bfbab711a6e5a847e69eba9b4d2d1931328") true masterBesideRowHolds xum masterBeside_row_tie rfl ⟨rfl, rfl⟩ xah rfl
  (fun f fn hf hfn=>by
   obtain rfl : f = 3 := Option.some.inj ((show Tryz.prog.funcNamed "steening/steeninglaw12.MasterBeside" = some 3 by kernel_rfl).symm.trans hf) |>.symm
   obtain rfl:fn=Tryz.f3:=(Option.some.inj (Tryz.func3.symm.trans hfn)).symm;refine⟨xzf,fun j t ht=>?_⟩;rw[Tryz.params3]at ht;have hm:t∈[33,9,9]:=by simpa using Array.mem_of_getElem? ht
   exact(show Tryz.prog.wantsStandIn t=false by simpa using List.all_eq_true.1 xyf t hm))
  xbh
#print axioms masterBesideHolds
end Go.Proofs.YtblcmdjhidhnjaaGreatDoor
