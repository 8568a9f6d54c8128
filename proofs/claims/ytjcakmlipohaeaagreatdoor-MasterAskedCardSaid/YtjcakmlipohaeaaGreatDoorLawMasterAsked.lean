/-
  MasterAsked, for every input: the law returns true and leaves its arguments as they were. The row, and the tied card. No condition.
-/
import Derived.Test.YtjcakmlipohaeaaGreatDoorWalkMasterAsked
import Derived.Test.YtjcakmlipohaeaaGreatDoorCards
import Derived.Test.YtjcakmlipohaeaaGreatDoorTie
set_option maxRecDepth 100000
namespace Go.Proofs.YtjcakmlipohaeaaGreatDoor
open Go.Proofs.Tryz
open Go.X Go.X.Ms Go.Conc Go.RowKit Go.ChangeShapes Go.WideShapes Go.ChangeAt Go.Joins
theorem xqg(os:Os)(started:os.Started)(H:Type)(enc:TypeId×Value->H):
 ReturnsInLeavingWide {} Tryz.checked os 4 .any (fun w args=>(Rows.masterAskedSpec.pre enc prog Tryz.f4 Rows.masterAskedRow.domain false w args/\laidMetH prog Rows.masterAskedRow.laid w)/\sizedMet enc prog Tryz.f4 (OpenSpec.ofChange Rows.masterAskedSpec) false w args) (Rows.masterAskedSpec.post enc prog Tryz.f4 false true false false):=by
 refine xnd (C:=Tryz.checked) (X:=fun w _=>laidMetH prog Rows.masterAskedRow.laid w) (fun _ _ _ hh h=>h.of_heap hh) pOwn started func4
  (ChangeSpec.witness_shaped (enc:=enc) (C:=Tryz.checked) (os:=os) (X:=fun w _=>laidMetH prog Rows.masterAskedRow.laid w) false (laidW os) #[.agg #[.slice none 0 0,.slice none 0 0,.int .i64 0,.int .i64 0,.int .i64 0,.slice none 0 0,.slice none 0 0,.slice none 0 0,.int .i64 0,.int .i64 0,.slice none 0 0],.agg #[.int .i64 0,.int .i64 0,.int .i64 0,.int .i64 0,.int .i64 0]] 8 (World.laidAll_os _ _ _)
   (World.shaped_of_ZipB (by kernel_rfl) (by kernel_rfl)) (by kernel_rfl) (by kernel_rfl) (by kernel_rfl) (xlm os _)) ?_
 intro W base args ds gs before hval0 hW hL
 have hval:∀(j:Nat)t v,Tryz.f4.params[j]?=some t->args[j]?=some v->Value.okWide prog W .any base t v:=hval0
 have hW2:=hW
 obtain⟨p,q,hA0,hV,rfl,_,_⟩:=hW2
 have hA:DataW.TrodAll enc prog W 0 (fun _=>true) true Tryz.f4.params.toList args.toList ds p:=hA0
 rw[Tryz.params4]at hA hval
 obtain⟨v0,v1,d0,d1,p0,p1,rfl,rfl,_,h0,h1⟩:=trodAll_two hA
 obtain⟨rfl,rfl⟩:=trodVars_none hV
 obtain⟨A,t,rfl,hn,T⟩:=xld (hval 0 33 v0 rfl rfl) h0
 obtain⟨k1,k2,k3,k4,k5,rfl⟩:=yyx (hval 1 53 v1 rfl rfl) h1
 obtain⟨N,last,o,w2,t2,r1,r2,r3,r4⟩:=xbw (w:=W) (ycs (nilV W.heap) (vwP W) (xl1 W) A t T hn (xrg hL) k1 k2 k3 k4 k5) fun v h2 r=>r.2
 refine⟨N,last,o,w2,t2,r1,r2,r3,r4.mono fun v⟨hB,h2,e,_⟩=>?_⟩
 subst e
 exact xbs ybl rfl (fun t ht=>by rw[Tryz.params4]at ht;revert t;decide +kernel) rfl underlying4 hW rfl hB
set_option maxHeartbeats 4000000 in
theorem xds:joinedFacts prog 4 Tryz.f4 Rows.masterAskedSpec Rows.masterAskedRow=true:=by
 unfold joinedFacts
 repeat' (with_reducible refine Bool.and_eq_true_iff.2 ⟨?_,?_⟩)
 all_goals (as_aux_lemma=>kernel_rfl)
theorem masterAskedRowHolds:Rows.MasterAskedSaid:=
 OpenClaim.holds_of_wide_leaving 4 Tryz.f4 rfl rfl rfl rfl rfl rfl rfl ⟨rfl,rfl,rfl,rfl,rfl⟩ rfl rfl rfl rfl rfl (by kernel_rfl) func4 xds
  (of_decide_eq_true (by kernel_rfl)) (by unfold Func.isWrapper;first|(rw[if_pos (by decide +kernel)];kernel_rfl)|(rw[if_neg (by decide +kernel)];exact⟨rfl,rfl⟩))
  (fun os started H enc _=>xqg os started H enc)
theorem masterAskedHolds:Rows.MasterAskedCardSaid:=
 xll .later [.data, .data, .data, .data, .data, .data, .sentinel, .sentinel, .pinned] true (true, "a578bae1aa3b42223cf9e8912de88cb3c1d6fb893348a9844022307e04602158") true masterAskedRowHolds (by kernel_rfl) masterAsked_row_tie rfl ⟨rfl, rfl⟩ (by kernel_rfl) rfl
  (fun f fn hf hfn=>by
   obtain rfl : f = 4 := Option.some.inj ((show prog.funcNamed "steening/steeninglaw12.MasterAsked" = some 4 by kernel_rfl).symm.trans hf) |>.symm
   obtain rfl:fn=Tryz.f4:=(Option.some.inj (func4.symm.trans hfn)).symm
   exact⟨by kernel_rfl,fun j t ht=>by
    rw[Tryz.params4]at ht
    have hm:t∈[33,53]:=by simpa using Array.mem_of_getElem? ht
    have hall:([33,53].all fun u=>!prog.wantsStandIn u)=true:=by kernel_rfl
    exact(show prog.wantsStandIn t=false by simpa using List.all_eq_true.1 hall t hm)⟩)
  (by kernel_rfl)
#print axioms masterAskedHolds
end Go.Proofs.YtjcakmlipohaeaaGreatDoor
