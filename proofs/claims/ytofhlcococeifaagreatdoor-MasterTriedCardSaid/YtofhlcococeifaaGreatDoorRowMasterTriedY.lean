/-
  Part of proofs about a town's master: a calculus for Bc beside goroutines that are only leaving, and the Bc. No condition.
-/
import Derived.Test.YtofhlcococeifaaGreatDoorWalkMasterTriedY
set_option maxHeartbeats 4000000
set_option maxRecDepth 100000
namespace Go.Proofs.YtofhlcococeifaaGreatDoor
open Go.Proofs.Tryz
open Go.X Go.X.Ms Go.Conc Go.RowKit Go.ChangeShapes Go.WideShapes Go.ChangeAt Go.Joins
theorem xih(os:Os)(M:os.Started)(H:Type)(enc:TypeId×Value->H):
 ReturnsInLeavingWide {} Tryz.checked os 5 .any (fun w args=>(Rows.masterTriedSpec.pre enc prog Tryz.f5 Rows.masterTriedRow.domain false w args/\laidMetH prog Rows.masterTriedRow.laid w)/\sizedMet enc prog Tryz.f5 (OpenSpec.ofChange Rows.masterTriedSpec) false w args) (Rows.masterTriedSpec.post enc prog Tryz.f5 false true false false):=by
 refine xbb (C:=Tryz.checked) (X:=fun w _=>laidMetH prog Rows.masterTriedRow.laid w) (fun _ _ _ hh h=>h.of_heap hh) Pi M func5
  (ChangeSpec.witness_shaped (enc:=enc) (C:=Tryz.checked) (os:=os) (X:=fun w _=>laidMetH prog Rows.masterTriedRow.laid w) false (Me os) #[.agg #[.slice none 0 0,.slice none 0 0,.J 0,.J 0,.J 0,.slice none 0 0,.slice none 0 0,.slice none 0 0,.J 0,.J 0,.slice none 0 0],.agg #[.slice none 0 0,.J 0,.J 0]] 8 (World.laidAll_os _ _ _)
   (World.shaped_of_ZipB k_ k_) k_ k_ k_ (xyf os)) ?_
 intro W a2 args ds gs a3 V hW hL;have O:∀(j:Nat)t v,Tryz.f5.params[j]?=some t->args[j]?=some v->Value.okWide prog W .any a2 t v:=V;have a4:=hW;obtain⟨p,q,a5,hV,rfl,_,_⟩:=a4;have hA:DataW.TrodAll enc prog W 0 (fun _=>true) true Tryz.f5.params.toList args.toList ds p:=a5;rw[Tryz.params5]at hA O;obtain⟨v0,v1,d0,d1,p0,p1,rfl,rfl,_,h0,h1⟩:=trodAll_two hA;obtain⟨rfl,rfl⟩:=trodVars_none hV;obtain⟨A,t,rfl,hn,T⟩:=xab (O 0 33 v0 rfl rfl) h0;obtain⟨a1,c1,ls,k1,k2,rfl,a7,a6,S1⟩:=xq6 (O 1 36 v1 rfl rfl) h1;obtain⟨N,last,o,w2,t2,r1,r2,r3,r4⟩:=xwk (w:=W) (ytp (Ku W.heap) (vwP W) (xzr W) A t T hn (xtc hL) c1 ls a7 S1 a6 k1 k2) fun v h2 r=>r.2;refine⟨N,last,o,w2,t2,r1,r2,r3,r4.mono fun v⟨hB,h2,e,_⟩=>?_⟩;subst e;exact xyl ydd rfl (fun t ht=>by rw[Tryz.params5]at ht;revert t;decide +kernel) rfl underlying4 hW rfl hB
theorem xet:joinedFacts prog 5 Tryz.f5 Rows.masterTriedSpec Rows.masterTriedRow=true:=by
 unfold joinedFacts
 repeat' (with_reducible refine Bool.and_eq_true_iff.2 ⟨?_,?_⟩)
 all_goals (as_aux_lemma=>kernel_rfl)
theorem masterTriedRowHolds:Rows.MasterTriedSaid:=
 OpenClaim.holds_of_wide_leaving 5 Tryz.f5 rfl rfl rfl rfl rfl rfl rfl ⟨rfl,rfl,rfl,rfl,rfl⟩ rfl rfl rfl rfl rfl k_ func5 xet
  (of_decide_eq_true k_) (by unfold Func.isWrapper;first|(rw[if_pos (by decide +kernel)];kernel_rfl)|(rw[if_neg (by decide +kernel)];exact⟨rfl,rfl⟩))
  (fun os M H enc _=>xih os M H enc)
end Go.Proofs.YtofhlcococeifaaGreatDoor
