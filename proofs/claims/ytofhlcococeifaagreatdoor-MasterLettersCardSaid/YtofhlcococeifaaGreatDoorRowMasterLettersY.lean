/-
  Part of proofs about a town's master: a calculus for Bc beside goroutines that are only leaving, and the Bc. No condition.
-/
import Derived.Test.YtofhlcococeifaaGreatDoorWalkMasterLettersY
set_option maxHeartbeats 4000000
set_option maxRecDepth 100000
namespace Go.Proofs.YtofhlcococeifaaGreatDoor
open Go.Proofs.Tryz
open Go.X Go.X.Ms Go.Conc Go.RowKit Go.ChangeShapes Go.WideShapes Go.ChangeAt Go.Joins
theorem xqd(os:Os)(O:os.Started)(H:Type)(enc:TypeId×Value->H):
 ReturnsInLeavingWide {} Tryz.checked os 6 .any (fun w args=>(Rows.masterLettersSpec.pre enc prog Tryz.f6 Rows.masterLettersRow.domain false w args/\laidMetH prog Rows.masterLettersRow.laid w)/\sizedMet enc prog Tryz.f6 (OpenSpec.ofChange Rows.masterLettersSpec) false w args) (Rows.masterLettersSpec.post enc prog Tryz.f6 false true false false):=by
 refine xbb (C:=Tryz.checked) (X:=fun w _=>laidMetH prog Rows.masterLettersRow.laid w) (fun _ _ _ hh h=>h.of_heap hh) Pi O func6
  (ChangeSpec.witness_shaped (enc:=enc) (C:=Tryz.checked) (os:=os) (X:=fun w _=>laidMetH prog Rows.masterLettersRow.laid w) false (Me os) #[.agg #[.slice none 0 0,.slice none 0 0,.J 0,.J 0,.J 0,.slice none 0 0,.slice none 0 0,.slice none 0 0,.J 0,.J 0,.slice none 0 0],.string ⟨#[]⟩,.string ⟨#[]⟩] 8 (World.laidAll_os _ _ _)
   (World.shaped_of_ZipB k_ k_) k_ k_ k_ (xyf os)) ?_
 intro W a2 args ds gs a3 V hW hL;have M:∀(j:Nat)t v,Tryz.f6.params[j]?=some t->args[j]?=some v->Value.okWide prog W .any a2 t v:=V;have a4:=hW;obtain⟨p,q,a5,hV,rfl,_,_⟩:=a4;have hA:DataW.TrodAll enc prog W 0 (fun _=>true) true Tryz.f6.params.toList args.toList ds p:=a5;rw[Tryz.params6]at hA M;obtain⟨v0,v1,v2,d0,d1,d2,p0,p1,p2,rfl,rfl,_,h0,h1,h2⟩:=trodAll_three hA;obtain⟨rfl,rfl⟩:=trodVars_none hV;obtain⟨A,t,rfl,hn,T⟩:=xab (M 0 33 v0 rfl rfl) h0;obtain⟨s1,rfl⟩:=xp6 (M 1 9 v1 rfl rfl) h1;obtain⟨s2,rfl⟩:=xp6 (M 2 9 v2 rfl rfl) h2;obtain⟨N,last,o,w2,t2,r1,r2,r3,r4⟩:=xwk (w:=W) (ydg (Ku W.heap) (vwP W) (xzr W) A t T hn (xtc hL) s1 s2) fun v h2 r=>r.2;refine⟨N,last,o,w2,t2,r1,r2,r3,r4.mono fun v⟨hB,h2,e,_⟩=>?_⟩;subst e;exact xyl ydd rfl (fun t ht=>by rw[Tryz.params6]at ht;revert t;decide +kernel) rfl underlying4 hW rfl hB
theorem xon:joinedFacts prog 6 Tryz.f6 Rows.masterLettersSpec Rows.masterLettersRow=true:=by
 unfold joinedFacts
 repeat' (with_reducible refine Bool.and_eq_true_iff.2 ⟨?_,?_⟩)
 all_goals (as_aux_lemma=>kernel_rfl)
theorem masterLettersRowHolds:Rows.MasterLettersSaid:=
 OpenClaim.holds_of_wide_leaving 6 Tryz.f6 rfl rfl rfl rfl rfl rfl rfl ⟨rfl,rfl,rfl,rfl,rfl⟩ rfl rfl rfl rfl rfl k_ func6 xon
  (of_decide_eq_true k_) (by unfold Func.isWrapper;first|(rw[if_pos (by decide +kernel)];kernel_rfl)|(rw[if_neg (by decide +kernel)];exact⟨rfl,rfl⟩))
  (fun os M H enc _=>xqd os M H enc)
end Go.Proofs.YtofhlcococeifaaGreatDoor
