/-
  Part of proofs about a town's master: a calculus for Bj beside goroutines that are only leaving, and the Bj. No condition.
-/
import Derived.Test.YtadndcpcjmmngaaGreatDoorWalkMasterBucketY
set_option maxHeartbeats 4000000
set_option maxRecDepth 100000
namespace Go.Proofs.YtadndcpcjmmngaaGreatDoor
open Go.Proofs.Tryz
open Go.X Go.X.Ms Go.Conc Go.RowKit Go.ChangeShapes Go.WideShapes Go.ChangeAt Go.Joins
theorem xzd(os:Os)(O:os.Started)(H:Type)(enc:TypeId×Value->H):
 ReturnsInLeavingWide {} Tryz.checked os 3 .any (fun w args=>(Rows.masterBucketSpec.pre enc prog Tryz.f3 Rows.masterBucketRow.domain false w args/\laidMetH prog Rows.masterBucketRow.laid w)/\sizedMet enc prog Tryz.f3 (OpenSpec.ofChange Rows.masterBucketSpec) false w args) (Rows.masterBucketSpec.post enc prog Tryz.f3 false true false false):=by
 refine xmm (C:=Tryz.checked) (X:=fun w _=>laidMetH prog Rows.masterBucketRow.laid w) (fun _ _ _ hh h=>h.of_heap hh) Pn O func3
  (ChangeSpec.witness_shaped (enc:=enc) (C:=Tryz.checked) (os:=os) (X:=fun w _=>laidMetH prog Rows.masterBucketRow.laid w) false (Nj os) #[.agg #[.slice none 0 0,.slice none 0 0,.J 0,.J 0,.J 0,.slice none 0 0,.slice none 0 0,.slice none 0 0,.J 0,.J 0,.slice none 0 0],.J 0,.J 0] 8 (World.laidAll_os _ _ _)
   (World.shaped_of_ZipB k_ k_) k_ k_ k_ (xs0 os)) ?_
 intro W a2 args ds gs a3 V hW hL;have M:∀(j:Nat)t v,Tryz.f3.params[j]?=some t->args[j]?=some v->Value.okWide prog W .any a2 t v:=V;have a4:=hW;obtain⟨p,q,a5,hV,rfl,_,_⟩:=a4;have hA:DataW.TrodAll enc prog W 0 (fun _=>true) true Tryz.f3.params.toList args.toList ds p:=a5;rw[Tryz.params3]at hA M;obtain⟨v0,v1,v2,d0,d1,d2,p0,p1,p2,rfl,rfl,_,h0,h1,h2⟩:=trodAll_three hA;obtain⟨rfl,rfl⟩:=trodVars_none hV;obtain⟨A,t,rfl,hn,T⟩:=xem (M 0 33 v0 rfl rfl) h0;obtain⟨k1,rfl,a6⟩:=xl5 (M 1 3 v1 rfl rfl) h1;obtain⟨k2,rfl,a7⟩:=xl5 (M 2 3 v2 rfl rfl) h2;obtain⟨N,last,o,w2,t2,r1,r2,r3,r4⟩:=xmc (w:=W) (ydn (K5 W.heap) (vwP W) (ydq W) A t T hn (xwp hL) k1 k2) fun v h2 r=>r.2;refine⟨N,last,o,w2,t2,r1,r2,r3,r4.mono fun v⟨hB,h2,e,_⟩=>?_⟩;subst e;exact xy5 yls rfl (fun t ht=>by rw[Tryz.params3]at ht;revert t;decide +kernel) rfl underlying4 hW rfl hB
theorem xvn:joinedFacts prog 3 Tryz.f3 Rows.masterBucketSpec Rows.masterBucketRow=true:=by
 unfold joinedFacts
 repeat' (with_reducible refine Bool.and_eq_true_iff.2 ⟨?_,?_⟩)
 all_goals (as_aux_lemma=>kernel_rfl)
theorem masterBucketRowHolds:Rows.MasterBucketSaid:=
 OpenClaim.holds_of_wide_leaving 3 Tryz.f3 rfl rfl rfl rfl rfl rfl rfl ⟨rfl,rfl,rfl,rfl,rfl⟩ rfl rfl rfl rfl rfl k_ func3 xvn
  (of_decide_eq_true k_) (by unfold Func.isWrapper;first|(rw[if_pos (by decide +kernel)];kernel_rfl)|(rw[if_neg (by decide +kernel)];exact⟨rfl,rfl⟩))
  (fun os M H enc _=>xzd os M H enc)
end Go.Proofs.YtadndcpcjmmngaaGreatDoor
