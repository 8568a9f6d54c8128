/-
  BucketsDry, for every input: the law returns true and leaves its arguments as they were. The row, and the tied card.
-/
import Derived.Test.YtalfgojocdonhaaDoorD2
import Derived.Test.YtalfgojocdonhaaDoorD1
import Derived.Test.YtalfgojocdonhaaDoorD3
import Derived.Test.YtalfgojocdonhaaDoorD4
import Derived.Test.YtalfgojocdonhaaDoorD5
import Derived.Test.YtalfgojocdonhaaDoorD6
import Derived.Test.YtalfgojocdonhaaDoorCards
import Derived.Test.YtalfgojocdonhaaDoorTie
namespace Go.Proofs.YtalfgojocdonhaaDoor
open Go.X Go.X.Flow Go.Conc
set_option maxRecDepth 10000
set_option synthInstance.maxSize 2000

set_option maxHeartbeats 2000000
theorem e13 (h:Heap) (p:PHeap) (hp:Per p h) (a1 a2 a3:Option Addr) (c1 c2 c3:Nat) (t:Tn) (T:TownP p a1 t.nH a2 t.nW a3 t.m t) (hl:t.nH≤9223372036854775807∧t.nW≤9223372036854775807∧t.m≤9223372036854775807) (z:Int) (N:NoneP p) (Z:TabP p):EntersL Tryd.prog 13 #[.agg #[.slice a1 t.nH c1,.slice a2 t.nW c2,.slice a3 t.m c3],.int .i64 (z)] h fun v h'=>v= .bool true∧Keep h h':=by
 refine xuk (Φ:=fun h_=>St h [] p h_ []) Tryd.func13 rfl (tm:=zq1 (zq4 (zq8 (zq16 (zq32 (zq32 (zq32 []))))))) rfl ?_ (St.start h _ hp)
 intro cs
 refine fsr ?_
 refine xiw mn (v:=.agg #[.slice a1 t.nH c1,.slice a2 t.nW c2,.slice a3 t.m c3]) rfl fun b1=>xcj (L':=[(b1,.cells #[.slice a1 t.nH c1,.slice a2 t.nW c2,.slice a3 t.m c3] 25 (0,0))]) rfl ?_
 refine ro (xax (v:=.bool (false)) rfl) <| ren <| fsr ?_
 refine xaw mn (fun h_ H_=>xav H_ tA25 tS25 rfl (i:=0) rfl (vs:=[.slice a1 t.nH c1,.slice a2 t.nW c2,.slice a3 t.m c3]) rfl rfl) (tm':=zq1 (zq4 (zq8 _))) rfl ?_
 refine xcx mn (first:=[]) (cap:=[]) rfl rfl fC23 (fun h_ H_=>c23 .lone _ _ H_.pe _ _ _ _ _ _ t (show TownP _ _ _ _ _ _ _ t from ⟨T.h,T.w,T.y⟩) hl) rfl ?_
 refine ro (xgz rfl) <| rt (xaq (v:=.bool (!(readyB t))) rfl) (tm':=zq16 _) rfl ?_
 rcases xwx (readyB t) with cc2 | cc2
 ·
  obtain ⟨hf_,hc_⟩:=yej cc2
  have hn:t.nH≤40∧t.nW≤40∧t.m≤41:=by have z_:=ygk hf_;unfold Big at z_;omega
  have hO:OkT t:=xtz hc_
  obtain ⟨h12,hV⟩:=ytj hc_
  have oH:=hO.nh
  have aD_:=divF hV hO xlj
  have hl9_:=yox (t:=t) (k:=t.nW)
  refine xaw (ms rfl rfl (xev cc2)) (fun h_ H_=>xav H_ tA25 tS25 rfl (i:=0) rfl (vs:=[.slice a1 t.nH c1,.slice a2 t.nW c2,.slice a3 t.m c3]) rfl rfl) rfl ?_
  refine xaw (ms rfl rfl (xev cc2)) (fun h_ H_=>xaq (v:=.int .i64 (z)) rfl) rfl ?_
  refine xcx (ms rfl rfl (xev cc2)) (first:=[]) (cap:=[]) rfl rfl fC57 (fun h_ H_=>c57 .lone _ _ H_.pe _ _ _ _ _ _ _ _ _ t (show TownP _ _ _ _ _ _ _ t from ⟨T.h,T.w,T.y⟩) (by omega) (z)) (tm':=zq1 (zq2 (zq16 _))) rfl ?_
  refine xaw (ms rfl rfl (xev cc2)) (fun h_ H_=>xgz rfl) rfl ?_
  refine ro (xcq rfl (xev cc2) (v:=.bool (!(decide (0≤z∧z≤(t.nW:Int)-1)))) rfl) <| rt (xaq (v:=.bool (!(decide (0≤z∧z≤(t.nW:Int)-1)))) rfl) (tm':=zq2 (zq4 (zq16 _))) rfl ?_
  by_cases cc3:0≤z∧z≤(t.nW:Int)-1
  ·
   have hz_:=cc3
   have dF_:=wqw hV hO hz_
   refine xaw (ms rfl rfl (xev (dtt cc3))) (fun h_ H_=>xav H_ tA25 tS25 rfl (i:=0) rfl (vs:=[.slice a1 t.nH c1,.slice a2 t.nW c2,.slice a3 t.m c3]) rfl rfl) rfl ?_
   refine xaw (ms rfl rfl (xev (dtt cc3))) (fun h_ H_=>xaq (v:=.int .i64 (z)) rfl) rfl ?_
   refine xcx (ms rfl rfl (xev (dtt cc3))) (first:=[]) (cap:=[]) rfl rfl fC51 (fun h_ H_=>c51 .lone _ _ H_.pe _ _ _ _ _ _ t (show TownP _ _ _ _ _ _ _ t from ⟨T.h,T.w,T.y⟩) (by omega) hO ((-1)) (z)) (tm':=zq1 (zq8 (zq16 _))) rfl ?_
   refine ro (xcq rfl (xev (dtt cc3)) (v:=.bool (moreB t ((-1)) (z))) rfl) <| xak ?_
   rcases xwx (moreB t ((-1)) (z)) with cc4 | cc4
   ·
    refine xdk rfl cc4 <| fsr ?_
    refine xcx mn (first:=[]) (cap:=[]) rfl rfl fC16 (fun h_ H_=>c16 .lone _ _ H_.pe N Z) rfl ?_
    refine rt (xax (v:=.bool (true)) rfl) (tm':=zq1 (zq4 _)) rfl <| xak ?_
    refine xlk Tryd.func13 rfl (vs:=[.bool (true)]) (fun h_ H_=>⟨.bool (true),_,rfl,rfl,rfl⟩) (v:=.bool (true)) rfl ?_
    exact fun h_ H_=>⟨rfl,H_.kept⟩
   ·
    refine xcv rfl cc4 <| xdq <| fsr <| rd (fun h_ H_=>xav H_ tA25 tS25 rfl (i:=0) rfl (vs:=[.slice a1 t.nH c1,.slice a2 t.nW c2,.slice a3 t.m c3]) rfl rfl) <| ro (xaq (v:=.int .i64 (z)) rfl) ?_
    refine xcx mn (first:=[]) (cap:=[]) rfl rfl fC20 (fun h_ H_=>dry_ok .lone H_.pe (show TownP _ _ _ _ _ _ _ t from ⟨T.h,T.w,T.y⟩) (by omega) N hc_ (z:=z) hz_) (tm':=zq1 (zq2 (zq4 (zq8 (zq16 _))))) rfl ?_
    refine ro (xaq (v:=.tuple #[.int .i64 (dryV t (z)),.int .i64 0]) rfl) <| ro (xdx rfl (v:=.int .i64 (dryV t (z))) rfl) <| rt (xdx rfl (v:=.int .i64 0) rfl) (tm':=zq1 (zq32 _)) rfl <| ro (xax (v:=.int .i64 (dryV t (z))) rfl) <| ro (xax (v:=.int .i64 0) rfl) <| ren ?_
    refine xbq ?_
    refine xaw mn (fun h_ H_=>xav H_ tA25 tS25 rfl (i:=0) rfl (vs:=[.slice a1 t.nH c1,.slice a2 t.nW c2,.slice a3 t.m c3]) rfl rfl) (tm':=zq1 (zq2 (zq32 _))) rfl ?_
    refine xcj (L':=([(b1,.cells #[.slice a1 t.nH c1,.slice a2 t.nW c2,.slice a3 t.m c3] 25 (0,0))]:Pcs)++[]) rfl ?_
    refine xjq mn (first:=[]) (cap:=[]) rfl rfl fC53 (R:=fun v_ h_=>∃ w5:Value,∃ X6:Pcs,v_= .tuple #[w5,.int .i64 0]∧(OwnS 3 1 w5 (ics (helpsF t t.nW)) X6)∧St h [] p h_ (([(b1,.cells #[.slice a1 t.nH c1,.slice a2 t.nW c2,.slice a3 t.m c3] 25 (0,0))]:Pcs)++(X6++[]))) (fun h_ H_=>(zzz .lone H_.pe (show TownP _ _ _ _ _ _ _ t from ⟨T.h,T.w,T.y⟩) (by omega) N hc_).mono fun v_ h2_ ⟨w5,X6,e_,o7,N_⟩=>⟨w5,X6,e_,o7,H_.callNA N_⟩) fun v_=>?_
    refine xfv fun w5=>xfv fun X6=>xfz fun ev_=>xfz fun o7=>?_
    have ev_:=ev_.symm;subst ev_
    refine xcj (L':=([(b1,.cells #[.slice a1 t.nH c1,.slice a2 t.nW c2,.slice a3 t.m c3] 25 (0,0))]:Pcs)++(X6++[])) rfl ?_
    refine ro (xaq (v:=.tuple #[w5,.int .i64 0]) rfl) <| rt (xdx rfl (v:=w5) rfl) (tm':=zq1 (zq4 (zq32 _))) rfl <| ro (xdx rfl (v:=.int .i64 0) rfl) <| ro (xax (v:=w5) rfl) <| rt (xax (v:=.int .i64 0) rfl) (tm':=zq1 (zq8 _)) rfl <| ren ?_
    refine xbq <| rd (fun h_ H_=>xav H_ tA25 tS25 rfl (i:=0) rfl (vs:=[.slice a1 t.nH c1,.slice a2 t.nW c2,.slice a3 t.m c3]) rfl rfl) ?_
    refine xjq mn (first:=[]) (cap:=[]) rfl rfl fC30 (R:=fun v_ h_=>∃ w8:Value,∃ X9:Pcs,v_= .tuple #[w8,.int .i64 0]∧(OwnS 3 1 w8 (ics (fairP t none0)) X9)∧St h [] p h_ (([(b1,.cells #[.slice a1 t.nH c1,.slice a2 t.nW c2,.slice a3 t.m c3] 25 (0,0))]:Pcs)++(X9++(X6++[])))) (fun h_ H_=>(vjq .lone H_.pe (show TownP _ _ _ _ _ _ _ t from ⟨T.h,T.w,T.y⟩) (by omega) N hc_).mono fun v_ h2_ ⟨w8,X9,e_,o10,N_⟩=>⟨w8,X9,e_,o10,H_.callNA N_⟩) fun v_=>?_
    refine xfv fun w8=>xfv fun X9=>xfz fun ev_=>xfz fun o10=>?_
    have ev_:=ev_.symm;subst ev_
    refine xcj (L':=([(b1,.cells #[.slice a1 t.nH c1,.slice a2 t.nW c2,.slice a3 t.m c3] 25 (0,0))]:Pcs)++(X9++(X6++[]))) rfl ?_
    refine rt (xaq (v:=.tuple #[w8,.int .i64 0]) rfl) (tm':=zq1 (zq2 (zq4 (zq32 _)))) rfl <| ro (xdx rfl (v:=w8) rfl) <| ro (xdx rfl (v:=.int .i64 0) rfl) <| rt (xax (v:=w8) rfl) (tm':=zq2 (zq8 _)) rfl <| ro (xax (v:=.int .i64 0) rfl) <| ren ?_
    refine xej ?_
    refine xgj (List.Perm.append_left _ (List.perm_append_comm_assoc _ _ _)) ?_
    refine xkv (L':=([(b1,.cells #[.slice a1 t.nH c1,.slice a2 t.nW c2,.slice a3 t.m c3] 25 (0,0))]:Pcs)++(X6++(X9++[]))) rfl ?_
    refine xjj (A:=([(b1,.cells #[.slice a1 t.nH c1,.slice a2 t.nW c2,.slice a3 t.m c3] 25 (0,0))]:Pcs)) o7 ((xck _).trans rfl) fun p11 a12 cp13 le14 ev_ D15=>?_
    subst ev_
    refine xjj (A:=([(b1,.cells #[.slice a1 t.nH c1,.slice a2 t.nW c2,.slice a3 t.m c3] 25 (0,0))]:Pcs)) o10 ((xck _).trans (yak t _)) fun p16 a17 cp18 le19 ev_ D20=>?_
    subst ev_
    refine xkv (L':=[(b1,.cells #[.slice a1 t.nH c1,.slice a2 t.nW c2,.slice a3 t.m c3] 25 (0,0))]) rfl ?_
    refine xbq <| ro (xaq (v:=.int .i64 0) rfl) <| rt (xhw rfl rfl) (tm':=zq1 (zq4 (zq8 (zq32 _)))) rfl <| ro (xaq (v:=.bool (decide ((0:Int)≠0))) rfl) ?_
    refine xaw (ms rfl rfl (decide_eq_false (by decide))) (fun h_ H_=>xaq (v:=.int .i64 0) rfl) rfl ?_
    refine xaw (ms rfl rfl (decide_eq_false (by decide))) (fun h_ H_=>xhw rfl rfl) (tm':=zq16 (zq32 _)) rfl ?_
    refine ro (xcq rfl (decide_eq_false (by decide)) (v:=.bool (decide ((0:Int)≠0))) rfl) ?_
    refine ro (xaq (v:=.bool (decide ((0:Int)≠0))) rfl) ?_
    refine xaw (ms rfl rfl (decide_eq_false (by decide))) (fun h_ H_=>xaq (v:=.int .i64 0) rfl) (tm':=zq1 (zq2 (zq16 (zq32 _)))) rfl ?_
    refine xaw (ms rfl rfl (decide_eq_false (by decide))) (fun h_ H_=>xhw rfl rfl) rfl ?_
    refine ro (xcq rfl (decide_eq_false (by decide)) (v:=.bool (decide ((0:Int)≠0))) rfl) ?_
    refine rt (xaq (v:=.bool (decide ((0:Int)≠0))) rfl) (tm':=zq2 (zq4 (zq16 (zq32 _)))) rfl ?_
    refine xaw (ms rfl rfl (decide_eq_false (by decide))) (fun h_ H_=>xaq (v:=.slice a12 ((helpsF t t.nW).length) cp13) rfl) rfl ?_
    refine xaw (ms rfl rfl (decide_eq_false (by decide))) (fun h_ H_=>xfk Tryd.underlying22 rfl) rfl ?_
    refine xaw (ms rfl rfl (decide_eq_false (by decide))) (fun h_ H_=>xaz xnj rfl (a':=⟨b1,1,none⟩) rfl) (tm':=zq1 (zq8 (zq16 (zq32 _)))) rfl ?_
    refine xaw (ms rfl rfl (decide_eq_false (by decide))) (fun h_ H_=>xaj H_ tA22 rfl (i:=0) rfl (v:=.slice a2 t.nW c2) rfl) rfl ?_
    refine xaw (ms rfl rfl (decide_eq_false (by decide))) (fun h_ H_=>xfk Tryd.underlying22 rfl) rfl ?_
    refine xaw (ms rfl rfl (decide_eq_false (by decide))) (fun h_ H_=>xix rfl rfl) (tm':=zq4 (zq8 (zq16 (zq32 _)))) rfl ?_
    refine ro (xcq rfl (decide_eq_false (by decide)) (v:=.bool (decide (((t.nW:Nat):Int)<(((helpsF t t.nW).length:Nat):Int)))) rfl) ?_
    refine ro (xaq (v:=.bool (decide (((t.nW:Nat):Int)<(((helpsF t t.nW).length:Nat):Int)))) rfl) ?_
    refine xaw (ms rfl rfl (decide_eq_false (by omega))) (fun h_ H_=>xaq (v:=.slice a17 t.m cp18) rfl) (tm':=zq1 (zq2 (zq4 (zq8 (zq16 (zq32 _)))))) rfl ?_
    refine xaw (ms rfl rfl (decide_eq_false (by omega))) (fun h_ H_=>xfk Tryd.underlying22 rfl) rfl ?_
    refine xaw (ms rfl rfl (decide_eq_false (by omega))) (fun h_ H_=>xix rfl rfl) rfl ?_
    refine rt (xcq rfl (decide_eq_false (by omega)) (v:=.bool (decide (40<((t.m:Nat):Int)))) rfl) (tm':=zq2 (zq32 (zq32 _))) rfl ?_
    refine ro (xaq (v:=.bool (decide (40<((t.m:Nat):Int)))) rfl) ?_
    refine xaw (ms rfl rfl (decide_eq_false (by omega))) (fun h_ H_=>xav H_ tA25 tS25 rfl (i:=0) rfl (vs:=[.slice a1 t.nH c1,.slice a2 t.nW c2,.slice a3 t.m c3]) rfl rfl) rfl ?_
    refine xaw (ms rfl rfl (decide_eq_false (by omega))) (fun h_ H_=>xaq (v:=.slice a17 t.m cp18) rfl) (tm':=zq1 (zq4 (zq32 (zq32 _)))) rfl ?_
    refine xcx (ms rfl rfl (decide_eq_false (by omega))) (first:=[]) (cap:=[]) rfl rfl fC31 (fun h_ H_=>c31 .lone _ _ H_.pe _ _ _ _ _ _ _ _ _ t (show TownP _ _ _ _ _ _ _ t from ⟨((T.h.mono le14).mono le19),((T.w.mono le14).mono le19),((T.y.mono le14).mono le19)⟩) (by omega) _ _ _ _ (show Ints _ _ _ (fairP t none0) from D20) hV.wok) rfl ?_
    refine xaw (ms rfl rfl (decide_eq_false (by omega))) (fun h_ H_=>xgz rfl) rfl ?_
    refine rt (xcq rfl (decide_eq_false (by omega)) (v:=.bool (!(decide (DivI t (fairP t none0))))) rfl) (tm':=zq8 (zq32 (zq32 _))) rfl ?_
    refine ro (xaq (v:=.bool (!(decide (DivI t (fairP t none0))))) rfl) ?_
    refine xaw (ms rfl rfl (xev (decide_eq_true aD_))) (fun h_ H_=>xaq (v:=.int .i64 (dryV t (z))) rfl) rfl ?_
    refine xcx (ms rfl rfl (xev (decide_eq_true aD_))) (first:=[]) (cap:=[]) rfl rfl fC61 (fun h_ H_=>c61 .lone _ (dryV t (z)) (1) (3)) (tm':=zq1 (zq2 (zq8 (zq32 (zq32 _))))) rfl ?_
    refine xaw (ms rfl rfl (xev (decide_eq_true aD_))) (fun h_ H_=>xgz rfl) rfl ?_
    refine ro (xcq rfl (xev (decide_eq_true aD_)) (v:=.bool (!(decide (1≤dryV t (z)∧dryV t (z)≤3)))) rfl) <| xak <| xcv rfl (xev (decide_eq_true dF_.a)) <| xdq <| xej ?_
    refine xfw 9 [[],[],[],[0,1,2],[],[4],[],[4,5,6],[4,5,6,7],[],[]] xlq (by kernel_rfl) (Nat.le_of_ble_eq_true rfl) ?_
    refine wd (fun h_ H_=>xav H_ tA25 tS25 rfl (i:=0) rfl (vs:=[.slice a1 t.nH c1,.slice a2 t.nW c2,.slice a3 t.m c3]) rfl rfl) <| wt (xaq (v:=.slice a17 t.m cp18) rfl) (tm':=zq1 (zq2 (zq4 (zq8 (zq32 (zq32 _)))))) rfl <| wo (xaq (v:=.int .i64 (z)) rfl) ?_
    refine xik mn (first:=[]) (cap:=[]) rfl rfl fC62 (fun h_ H_=>(c62 .lone _ _ H_.pe _ _ _ _ _ _ _ _ _ t (show TownP _ _ _ _ _ _ _ t from ⟨((T.h.mono le14).mono le19),((T.w.mono le14).mono le19),((T.y.mono le14).mono le19)⟩) (by omega) _ _ _ _ (show Ints _ _ _ (fairP t none0) from D20) (by omega) (fun i hi=>by have z_:=zzw hO xlj i hi;unfold dv;omega) (z)).mono fun v_ h2_ ⟨e_,k_⟩=>⟨e_,H_.call k_⟩) (tm':=zq1 (zq16 (zq32 (zq32 _)))) rfl ?_
    refine wo (xaz xnj rfl (a':=⟨b1,1,none⟩) rfl) ?_
    refine xbz mn (fun h_ H_=>xaj H_ tA22 rfl (i:=0) rfl (v:=.slice a2 t.nW c2) rfl) (tm':=zq1 (zq2 (zq16 (zq32 (zq32 _))))) rfl ?_
    refine wo (xaq (v:=.int .i64 (z)) rfl) ?_
    refine wt (xlx Tryd.underlying22 tS3 (xkq a2 t.nW c2 (((T.w.mono le14).mono le19).ne (by omega))) rfl (by omega) (by omega) (a':=(adr a2).add (((z).toNat)*1)) rfl) (tm':=zq1 (zq4 (zq8 (zq16 (zq32 (zq32 (zq32 []))))))) rfl ?_
    refine wd (fun h_ H_=>xbv H_ tA3 rfl (v:=.int .i64 (t.ws.getD ((z).toNat) 0)) (((T.w.mono le14).mono le19).get (by omega))) ?_
    refine xiz rfl ?_
    refine rt (xjx rfl rfl) (tm':=zq1 (zq4 (zq8 (zq16 (zq32 (zq32 (zq32 []))))))) rfl <| ro (xax (v:=.bool (decide (giveI t (fairP t none0) (fairP t none0).length (z)=t.ws.getD ((z).toNat) 0))) rfl) <| ren <| xbq <| ro (xaz xnj rfl (a':=⟨b1,1,none⟩) rfl) ?_
    refine xaw mn (fun h_ H_=>xaj H_ tA22 rfl (i:=0) rfl (v:=.slice a2 t.nW c2) rfl) (tm':=zq1 (zq4 (zq8 (zq16 (zq32 (zq32 (zq32 []))))))) rfl ?_
    refine ro (xaq (v:=.int .i64 (z)) rfl) ?_
    refine ro (xlx Tryd.underlying22 tS3 (xkq a2 t.nW c2 (((T.w.mono le14).mono le19).ne (by omega))) rfl (by omega) (by omega) (a':=(adr a2).add (((z).toNat)*1)) rfl) ?_
    refine xaw mn (fun h_ H_=>xbv H_ tA3 rfl (v:=.int .i64 (t.ws.getD ((z).toNat) 0)) (((T.w.mono le14).mono le19).get (by omega))) (tm':=zq1 (zq4 (zq8 (zq16 (zq32 (zq32 (zq32 []))))))) rfl ?_
    refine ro (xix rfl rfl) <| ro (xaq (v:=.bool (decide (0<t.ws.getD ((z).toNat) 0))) rfl) ?_
    by_cases cc21:0<t.ws.getD ((z).toNat) 0
    ·
     refine xfq (mo rfl rfl (dtt cc21)) (tm':=zq1 (zq4 (zq8 (zq16 (zq32 (zq32 (zq32 []))))))) rfl <| rp (mo rfl rfl (dtt cc21)) <| ro (xbj rfl (dtt cc21) (v:=.bool (true)) rfl) <| rt (xaq (v:=.bool (true)) rfl) (tm':=zq1 (zq4 (zq8 (zq16 (zq32 (zq32 (zq32 []))))))) rfl ?_
     refine xaw (ms rfl rfl rfl) (fun h_ H_=>xaq (v:=.slice a12 ((helpsF t t.nW).length) cp13) rfl) rfl ?_
     refine xaw (ms rfl rfl rfl) (fun h_ H_=>xaq (v:=.int .i64 (z)) rfl) rfl ?_
     refine xcx (ms rfl rfl rfl) (first:=[]) (cap:=[]) rfl rfl fC35 (fun h_ H_=>c35 .lone _ _ H_.pe _ _ _ _ ((show Ints _ _ _ (helpsF t t.nW) from D15).mono le19) (by omega) (z)) (tm':=zq1 (zq4 (zq8 (zq16 (zq32 (zq32 (zq32 []))))))) rfl ?_
     refine xaw (ms rfl rfl rfl) (fun h_ H_=>xgz rfl) rfl ?_
     refine xaw (ms rfl rfl rfl) (fun h_ H_=>xaq (v:=.bool (!(decide (z∈(helpsF t t.nW))))) rfl) rfl ?_
     by_cases cc22:z∈(helpsF t t.nW)
     ·
      have k1_:=dF_.c cc22
      refine xaw (ms rfl rfl (xev (dtt cc22))) (fun h_ H_=>xaq (v:=.int .i64 (dryV t (z))) rfl) (tm':=zq1 (zq4 (zq8 (zq16 (zq32 (zq32 (zq32 []))))))) rfl ?_
      refine xaw (ms rfl rfl (xev (dtt cc22))) (fun h_ H_=>xjx rfl rfl) rfl ?_
      refine xaw (ms rfl rfl rfl) (fun h_ H_=>xcq rfl (xev (dtt cc22)) (v:=.bool (decide (dryV t (z)=1))) rfl) rfl ?_
      refine rt (xbj rfl rfl (v:=.bool (decide (dryV t (z)=1))) rfl) (tm':=zq1 (zq4 (zq8 (zq16 (zq32 (zq32 (zq32 []))))))) rfl <| ro (xaq (v:=.bool (decide (dryV t (z)=1))) rfl) ?_
      refine xaw (ms rfl rfl (decide_eq_true (by omega))) (fun h_ H_=>xaq (v:=.int .i64 (dryV t (z))) rfl) rfl ?_
      refine xaw (ms rfl rfl (decide_eq_true (by omega))) (fun h_ H_=>xhw rfl rfl) (tm':=zq1 (zq4 (zq8 (zq16 (zq32 (zq32 (zq32 []))))))) rfl ?_
      refine xaw (ms rfl rfl (decide_eq_true (by omega))) (fun h_ H_=>xaq (v:=.bool (decide (dryV t (z)≠1))) rfl) rfl ?_
      refine xaw (ms rfl rfl (decide_eq_false (by omega))) (fun h_ H_=>xaq (v:=.bool (decide (giveI t (fairP t none0) (fairP t none0).length (z)=t.ws.getD ((z).toNat) 0))) rfl) rfl ?_
      refine xaw (ms rfl rfl (decide_eq_true (by omega))) (fun h_ H_=>xcq rfl (decide_eq_false (by omega)) (v:=.bool (decide (giveI t (fairP t none0) (fairP t none0).length (z)=t.ws.getD ((z).toNat) 0))) rfl) (tm':=zq1 (zq4 (zq8 (zq16 (zq32 (zq32 (zq32 []))))))) rfl ?_
      refine ro (xbj rfl (decide_eq_true (by omega)) (v:=.bool (decide (giveI t (fairP t none0) (fairP t none0).length (z)=t.ws.getD ((z).toNat) 0))) rfl) ?_
      refine ro (xaq (v:=.bool (decide (giveI t (fairP t none0) (fairP t none0).length (z)=t.ws.getD ((z).toNat) 0))) rfl) ?_
      refine xaw (ms rfl rfl (decide_eq_true (dF_.d (by omega)))) (fun h_ H_=>xaq (v:=.int .i64 (dryV t (z))) rfl) (tm':=zq1 (zq4 (zq8 (zq16 (zq32 (zq32 (zq32 []))))))) rfl ?_
      refine xaw (ms rfl rfl (decide_eq_true (dF_.d (by omega)))) (fun h_ H_=>xhw rfl rfl) rfl ?_
      refine xaw (ms rfl rfl (decide_eq_true (dF_.d (by omega)))) (fun h_ H_=>xaq (v:=.bool (decide (dryV t (z)≠2))) rfl) rfl ?_
      refine xfq (mo rfl rfl (decide_eq_true (by omega))) (tm':=zq1 (zq4 (zq8 (zq16 (zq32 (zq32 (zq32 []))))))) rfl ?_
      refine rp (mo rfl rfl (decide_eq_true (by omega))) ?_
      refine xaw (ms rfl rfl (decide_eq_true (dF_.d (by omega)))) (fun h_ H_=>xbj rfl (decide_eq_true (by omega)) (v:=.bool (true)) rfl) rfl ?_
      refine rt (xbj rfl (decide_eq_true (dF_.d (by omega))) (v:=.bool (true)) rfl) (tm':=zq1 (zq4 (zq8 (zq16 (zq32 (zq32 (zq32 []))))))) rfl ?_
      refine ro (xaq (v:=.bool (true)) rfl) ?_
      refine xcx (ms rfl rfl rfl) (first:=[]) (cap:=[]) rfl rfl fC16 (fun h_ H_=>c16 .lone _ _ H_.pe ((N.mono le14).mono le19) ((Z.mono le14).mono le19)) rfl ?_
      refine rt (xbj rfl rfl (v:=.bool (true)) rfl) (tm':=zq1 (zq4 (zq8 (zq16 (zq32 (zq32 (zq32 []))))))) rfl <| ro (xax (v:=.bool (true)) rfl) <| xak ?_
      refine xlk Tryd.func13 rfl (vs:=[.bool (true)]) (fun h_ H_=>⟨.bool (true),_,rfl,rfl,rfl⟩) (v:=.bool (true)) rfl ?_
      exact fun h_ H_=>⟨rfl,H_.kept⟩
     ·
      refine rp (mo rfl rfl (xgv (dff cc22))) <| xfq (mo rfl rfl (xgv (dff cc22))) (tm':=zq1 (zq4 (zq8 (zq16 (zq32 (zq32 (zq32 []))))))) rfl ?_
      refine xaw (ms rfl rfl rfl) (fun h_ H_=>xbj rfl (xgv (dff cc22)) (v:=.bool (true)) rfl) rfl ?_
      refine ro (xbj rfl rfl (v:=.bool (true)) rfl) <| rt (xaq (v:=.bool (true)) rfl) (tm':=zq1 (zq4 (zq8 (zq16 (zq32 (zq32 (zq32 []))))))) rfl ?_
      refine xaw (ms rfl rfl rfl) (fun h_ H_=>xaq (v:=.int .i64 (dryV t (z))) rfl) rfl ?_
      refine xaw (ms rfl rfl rfl) (fun h_ H_=>xhw rfl rfl) rfl ?_
      refine xaw (ms rfl rfl rfl) (fun h_ H_=>xaq (v:=.bool (decide (dryV t (z)≠1))) rfl) (tm':=zq1 (zq4 (zq8 (zq16 (zq32 (zq32 (zq32 []))))))) rfl ?_
      by_cases cc23:dryV t (z)≠1
      ·
       refine rp (mo rfl rfl (decide_eq_true (by omega))) ?_
       refine xaw (ms rfl rfl rfl) (fun h_ H_=>xbj rfl (decide_eq_true (by omega)) (v:=.bool (true)) rfl) rfl ?_
       refine rt (xbj rfl rfl (v:=.bool (true)) rfl) (tm':=zq1 (zq4 (zq8 (zq16 (zq32 (zq32 (zq32 []))))))) rfl <| ro (xaq (v:=.bool (true)) rfl) ?_
       refine xaw (ms rfl rfl rfl) (fun h_ H_=>xaq (v:=.int .i64 (dryV t (z))) rfl) rfl ?_
       refine xaw (ms rfl rfl rfl) (fun h_ H_=>xhw rfl rfl) (tm':=zq1 (zq4 (zq8 (zq16 (zq32 (zq32 (zq32 []))))))) rfl ?_
       refine xaw (ms rfl rfl rfl) (fun h_ H_=>xaq (v:=.bool (decide (dryV t (z)≠2))) rfl) rfl ?_
       by_cases cc24:dryV t (z)≠2
       ·
        refine rp (mo rfl rfl (dtt cc24)) <| xfq (mo rfl rfl (dtt cc24)) (tm':=zq1 (zq4 (zq8 (zq16 (zq32 (zq32 (zq32 []))))))) rfl ?_
        refine xaw (ms rfl rfl rfl) (fun h_ H_=>xbj rfl (dtt cc24) (v:=.bool (true)) rfl) rfl ?_
        refine ro (xbj rfl rfl (v:=.bool (true)) rfl) <| rt (xaq (v:=.bool (true)) rfl) (tm':=zq1 (zq4 (zq8 (zq16 (zq32 (zq32 (zq32 []))))))) rfl ?_
        refine xcx (ms rfl rfl rfl) (first:=[]) (cap:=[]) rfl rfl fC16 (fun h_ H_=>c16 .lone _ _ H_.pe ((N.mono le14).mono le19) ((Z.mono le14).mono le19)) rfl ?_
        refine ro (xbj rfl rfl (v:=.bool (true)) rfl) <| rt (xax (v:=.bool (true)) rfl) (tm':=zq1 (zq4 _)) rfl <| xak ?_
        refine xlk Tryd.func13 rfl (vs:=[.bool (true)]) (fun h_ H_=>⟨.bool (true),_,rfl,rfl,rfl⟩) (v:=.bool (true)) rfl ?_
        exact fun h_ H_=>⟨rfl,H_.kept⟩
       ·
        refine xaw (ms rfl rfl (decide_eq_false (by omega))) (fun h_ H_=>xaq (v:=.bool (decide (giveI t (fairP t none0) (fairP t none0).length (z)=t.ws.getD ((z).toNat) 0))) rfl) rfl ?_
        refine xaw (ms rfl rfl (decide_eq_false (by omega))) (fun h_ H_=>xgz rfl) rfl ?_
        refine xaw (ms rfl rfl rfl) (fun h_ H_=>xcq rfl (decide_eq_false (by omega)) (v:=.bool (!(decide (giveI t (fairP t none0) (fairP t none0).length (z)=t.ws.getD ((z).toNat) 0)))) rfl) (tm':=zq1 (zq4 (zq8 (zq16 (zq32 (zq32 (zq32 []))))))) rfl ?_
        refine ro (xbj rfl rfl (v:=.bool (!(decide (giveI t (fairP t none0) (fairP t none0).length (z)=t.ws.getD ((z).toNat) 0)))) rfl) <| ro (xaq (v:=.bool (!(decide (giveI t (fairP t none0) (fairP t none0).length (z)=t.ws.getD ((z).toNat) 0)))) rfl) ?_
        refine xcx (ms rfl rfl (xgv (decide_eq_false (dF_.e (by omega))))) (first:=[]) (cap:=[]) rfl rfl fC16 (fun h_ H_=>c16 .lone _ _ H_.pe ((N.mono le14).mono le19) ((Z.mono le14).mono le19)) (tm':=zq1 (zq4 (zq8 (zq16 (zq32 (zq32 (zq32 []))))))) rfl ?_
        refine ro (xbj rfl (xgv (decide_eq_false (dF_.e (by omega)))) (v:=.bool (true)) rfl) ?_
        refine ro (xax (v:=.bool (true)) rfl) <| xak ?_
        refine xlk Tryd.func13 rfl (vs:=[.bool (true)]) (fun h_ H_=>⟨.bool (true),_,rfl,rfl,rfl⟩) (v:=.bool (true)) rfl ?_
        exact fun h_ H_=>⟨rfl,H_.kept⟩
      ·
       refine xaw (ms rfl rfl (decide_eq_false (by omega))) (fun h_ H_=>xaq (v:=.bool (decide (giveI t (fairP t none0) (fairP t none0).length (z)=t.ws.getD ((z).toNat) 0))) rfl) (tm':=zq1 (zq4 (zq8 (zq16 (zq32 (zq32 (zq32 []))))))) rfl ?_
       refine xaw (ms rfl rfl rfl) (fun h_ H_=>xcq rfl (decide_eq_false (by omega)) (v:=.bool (decide (giveI t (fairP t none0) (fairP t none0).length (z)=t.ws.getD ((z).toNat) 0))) rfl) rfl ?_
       refine ro (xbj rfl rfl (v:=.bool (decide (giveI t (fairP t none0) (fairP t none0).length (z)=t.ws.getD ((z).toNat) 0))) rfl) <| rt (xaq (v:=.bool (decide (giveI t (fairP t none0) (fairP t none0).length (z)=t.ws.getD ((z).toNat) 0))) rfl) (tm':=zq1 (zq4 (zq8 (zq16 (zq32 (zq32 (zq32 []))))))) rfl ?_
       refine xaw (ms rfl rfl (decide_eq_true (dF_.d (by omega)))) (fun h_ H_=>xaq (v:=.int .i64 (dryV t (z))) rfl) rfl ?_
       refine xaw (ms rfl rfl (decide_eq_true (dF_.d (by omega)))) (fun h_ H_=>xhw rfl rfl) rfl ?_
       refine xaw (ms rfl rfl (decide_eq_true (dF_.d (by omega)))) (fun h_ H_=>xaq (v:=.bool (decide (dryV t (z)≠2))) rfl) (tm':=zq1 (zq4 (zq8 (zq16 (zq32 (zq32 (zq32 []))))))) rfl ?_
       refine rp (mo rfl rfl (decide_eq_true (by omega))) ?_
       refine rp (mo rfl rfl (decide_eq_true (by omega))) ?_
       refine xaw (ms rfl rfl (decide_eq_true (dF_.d (by omega)))) (fun h_ H_=>xbj rfl (decide_eq_true (by omega)) (v:=.bool (true)) rfl) (tm':=zq1 (zq4 (zq8 (zq16 (zq32 (zq32 (zq32 []))))))) rfl ?_
       refine ro (xbj rfl (decide_eq_true (dF_.d (by omega))) (v:=.bool (true)) rfl) ?_
       refine ro (xaq (v:=.bool (true)) rfl) ?_
       refine xcx (ms rfl rfl rfl) (first:=[]) (cap:=[]) rfl rfl fC16 (fun h_ H_=>c16 .lone _ _ H_.pe ((N.mono le14).mono le19) ((Z.mono le14).mono le19)) (tm':=zq1 (zq4 (zq8 (zq16 (zq32 (zq32 (zq32 []))))))) rfl ?_
       refine ro (xbj rfl rfl (v:=.bool (true)) rfl) <| ro (xax (v:=.bool (true)) rfl) <| xak ?_
       refine xlk Tryd.func13 rfl (vs:=[.bool (true)]) (fun h_ H_=>⟨.bool (true),_,rfl,rfl,rfl⟩) (v:=.bool (true)) rfl ?_
       exact fun h_ H_=>⟨rfl,H_.kept⟩
    ·
     have k1_:=dF_.b cc21
     refine xaw (ms rfl rfl (dff cc21)) (fun h_ H_=>xaq (v:=.int .i64 (dryV t (z))) rfl) (tm':=zq1 (zq4 (zq8 (zq16 (zq32 (zq32 (zq32 []))))))) rfl ?_
     refine xaw (ms rfl rfl (dff cc21)) (fun h_ H_=>xjx rfl rfl) rfl ?_
     refine ro (xcq rfl (dff cc21) (v:=.bool (decide (dryV t (z)=1))) rfl) <| rt (xaq (v:=.bool (decide (dryV t (z)=1))) rfl) (tm':=zq1 (zq4 (zq8 (zq16 (zq32 (zq32 (zq32 []))))))) rfl ?_
     refine xaw (ms rfl rfl (decide_eq_true (by omega))) (fun h_ H_=>xaq (v:=.slice a12 ((helpsF t t.nW).length) cp13) rfl) rfl ?_
     refine xaw (ms rfl rfl (decide_eq_true (by omega))) (fun h_ H_=>xaq (v:=.int .i64 (z)) rfl) rfl ?_
     refine xcx (ms rfl rfl (decide_eq_true (by omega))) (first:=[]) (cap:=[]) rfl rfl fC35 (fun h_ H_=>c35 .lone _ _ H_.pe _ _ _ _ ((show Ints _ _ _ (helpsF t t.nW) from D15).mono le19) (by omega) (z)) (tm':=zq1 (zq4 (zq8 (zq16 (zq32 (zq32 (zq32 []))))))) rfl ?_
     refine xaw (ms rfl rfl (decide_eq_true (by omega))) (fun h_ H_=>xgz rfl) rfl ?_
     refine xaw (ms rfl rfl (decide_eq_true (by omega))) (fun h_ H_=>xaq (v:=.bool (!(decide (z∈(helpsF t t.nW))))) rfl) rfl ?_
     by_cases cc25:z∈(helpsF t t.nW)
     ·
      have k1_:=dF_.c cc25
      refine xaw (ms rfl rfl (xev (dtt cc25))) (fun h_ H_=>xaq (v:=.int .i64 (dryV t (z))) rfl) (tm':=zq1 (zq4 (zq8 (zq16 (zq32 (zq32 (zq32 []))))))) rfl ?_
      refine xaw (ms rfl rfl (xev (dtt cc25))) (fun h_ H_=>xjx rfl rfl) rfl ?_
      refine xaw (ms rfl rfl (decide_eq_true (by omega))) (fun h_ H_=>xcq rfl (xev (dtt cc25)) (v:=.bool (decide (dryV t (z)=1))) rfl) rfl ?_
      refine rt (xbj rfl (decide_eq_true (by omega)) (v:=.bool (decide (dryV t (z)=1))) rfl) (tm':=zq1 (zq4 (zq8 (zq16 (zq32 (zq32 (zq32 []))))))) rfl ?_
      refine ro (xaq (v:=.bool (decide (dryV t (z)=1))) rfl) ?_
      refine xaw (ms rfl rfl (decide_eq_true (by omega))) (fun h_ H_=>xaq (v:=.int .i64 (dryV t (z))) rfl) rfl ?_
      refine xaw (ms rfl rfl (decide_eq_true (by omega))) (fun h_ H_=>xhw rfl rfl) (tm':=zq1 (zq4 (zq8 (zq16 (zq32 (zq32 (zq32 []))))))) rfl ?_
      refine xaw (ms rfl rfl (decide_eq_true (by omega))) (fun h_ H_=>xaq (v:=.bool (decide (dryV t (z)≠1))) rfl) rfl ?_
      refine xaw (ms rfl rfl (decide_eq_false (by omega))) (fun h_ H_=>xaq (v:=.bool (decide (giveI t (fairP t none0) (fairP t none0).length (z)=t.ws.getD ((z).toNat) 0))) rfl) rfl ?_
      refine xaw (ms rfl rfl (decide_eq_true (by omega))) (fun h_ H_=>xcq rfl (decide_eq_false (by omega)) (v:=.bool (decide (giveI t (fairP t none0) (fairP t none0).length (z)=t.ws.getD ((z).toNat) 0))) rfl) (tm':=zq1 (zq4 (zq8 (zq16 (zq32 (zq32 (zq32 []))))))) rfl ?_
      refine ro (xbj rfl (decide_eq_true (by omega)) (v:=.bool (decide (giveI t (fairP t none0) (fairP t none0).length (z)=t.ws.getD ((z).toNat) 0))) rfl) ?_
      refine ro (xaq (v:=.bool (decide (giveI t (fairP t none0) (fairP t none0).length (z)=t.ws.getD ((z).toNat) 0))) rfl) ?_
      refine xaw (ms rfl rfl (decide_eq_true (dF_.d (by omega)))) (fun h_ H_=>xaq (v:=.int .i64 (dryV t (z))) rfl) (tm':=zq1 (zq4 (zq8 (zq16 (zq32 (zq32 (zq32 []))))))) rfl ?_
      refine xaw (ms rfl rfl (decide_eq_true (dF_.d (by omega)))) (fun h_ H_=>xhw rfl rfl) rfl ?_
      refine xaw (ms rfl rfl (decide_eq_true (dF_.d (by omega)))) (fun h_ H_=>xaq (v:=.bool (decide (dryV t (z)≠2))) rfl) rfl ?_
      refine xfq (mo rfl rfl (decide_eq_true (by omega))) (tm':=zq1 (zq4 (zq8 (zq16 (zq32 (zq32 (zq32 []))))))) rfl ?_
      refine rp (mo rfl rfl (decide_eq_true (by omega))) ?_
      refine xaw (ms rfl rfl (decide_eq_true (dF_.d (by omega)))) (fun h_ H_=>xbj rfl (decide_eq_true (by omega)) (v:=.bool (true)) rfl) rfl ?_
      refine rt (xbj rfl (decide_eq_true (dF_.d (by omega))) (v:=.bool (true)) rfl) (tm':=zq1 (zq4 (zq8 (zq16 (zq32 (zq32 (zq32 []))))))) rfl ?_
      refine ro (xaq (v:=.bool (true)) rfl) ?_
      refine xcx (ms rfl rfl rfl) (first:=[]) (cap:=[]) rfl rfl fC16 (fun h_ H_=>c16 .lone _ _ H_.pe ((N.mono le14).mono le19) ((Z.mono le14).mono le19)) rfl ?_
      refine rt (xbj rfl rfl (v:=.bool (true)) rfl) (tm':=zq1 (zq4 (zq8 (zq16 (zq32 (zq32 (zq32 []))))))) rfl <| ro (xax (v:=.bool (true)) rfl) <| xak ?_
      refine xlk Tryd.func13 rfl (vs:=[.bool (true)]) (fun h_ H_=>⟨.bool (true),_,rfl,rfl,rfl⟩) (v:=.bool (true)) rfl ?_
      exact fun h_ H_=>⟨rfl,H_.kept⟩
     ·
      refine rp (mo rfl rfl (xgv (dff cc25))) <| xfq (mo rfl rfl (xgv (dff cc25))) (tm':=zq1 (zq4 (zq8 (zq16 (zq32 (zq32 (zq32 []))))))) rfl ?_
      refine xaw (ms rfl rfl (decide_eq_true (by omega))) (fun h_ H_=>xbj rfl (xgv (dff cc25)) (v:=.bool (true)) rfl) rfl ?_
      refine ro (xbj rfl (decide_eq_true (by omega)) (v:=.bool (true)) rfl) ?_
      refine rt (xaq (v:=.bool (true)) rfl) (tm':=zq1 (zq4 (zq8 (zq16 (zq32 (zq32 (zq32 []))))))) rfl ?_
      refine xaw (ms rfl rfl rfl) (fun h_ H_=>xaq (v:=.int .i64 (dryV t (z))) rfl) rfl ?_
      refine xaw (ms rfl rfl rfl) (fun h_ H_=>xhw rfl rfl) rfl ?_
      refine xaw (ms rfl rfl rfl) (fun h_ H_=>xaq (v:=.bool (decide (dryV t (z)≠1))) rfl) (tm':=zq1 (zq4 (zq8 (zq16 (zq32 (zq32 (zq32 []))))))) rfl ?_
      refine xaw (ms rfl rfl (decide_eq_false (by omega))) (fun h_ H_=>xaq (v:=.bool (decide (giveI t (fairP t none0) (fairP t none0).length (z)=t.ws.getD ((z).toNat) 0))) rfl) rfl ?_
      refine xaw (ms rfl rfl rfl) (fun h_ H_=>xcq rfl (decide_eq_false (by omega)) (v:=.bool (decide (giveI t (fairP t none0) (fairP t none0).length (z)=t.ws.getD ((z).toNat) 0))) rfl) rfl ?_
      refine rt (xbj rfl rfl (v:=.bool (decide (giveI t (fairP t none0) (fairP t none0).length (z)=t.ws.getD ((z).toNat) 0))) rfl) (tm':=zq1 (zq4 (zq8 (zq16 (zq32 (zq32 (zq32 []))))))) rfl <| ro (xaq (v:=.bool (decide (giveI t (fairP t none0) (fairP t none0).length (z)=t.ws.getD ((z).toNat) 0))) rfl) ?_
      refine xaw (ms rfl rfl (decide_eq_true (dF_.d (by omega)))) (fun h_ H_=>xaq (v:=.int .i64 (dryV t (z))) rfl) rfl ?_
      refine xaw (ms rfl rfl (decide_eq_true (dF_.d (by omega)))) (fun h_ H_=>xhw rfl rfl) (tm':=zq1 (zq4 (zq8 (zq16 (zq32 (zq32 (zq32 []))))))) rfl ?_
      refine xaw (ms rfl rfl (decide_eq_true (dF_.d (by omega)))) (fun h_ H_=>xaq (v:=.bool (decide (dryV t (z)≠2))) rfl) rfl ?_
      refine rp (mo rfl rfl (decide_eq_true (by omega))) ?_
      refine xfq (mo rfl rfl (decide_eq_true (by omega))) (tm':=zq1 (zq4 (zq8 (zq16 (zq32 (zq32 (zq32 []))))))) rfl ?_
      refine xaw (ms rfl rfl (decide_eq_true (dF_.d (by omega)))) (fun h_ H_=>xbj rfl (decide_eq_true (by omega)) (v:=.bool (true)) rfl) rfl ?_
      refine ro (xbj rfl (decide_eq_true (dF_.d (by omega))) (v:=.bool (true)) rfl) ?_
      refine rt (xaq (v:=.bool (true)) rfl) (tm':=zq1 (zq4 (zq8 (zq16 (zq32 (zq32 (zq32 []))))))) rfl ?_
      refine xcx (ms rfl rfl rfl) (first:=[]) (cap:=[]) rfl rfl fC16 (fun h_ H_=>c16 .lone _ _ H_.pe ((N.mono le14).mono le19) ((Z.mono le14).mono le19)) rfl ?_
      refine ro (xbj rfl rfl (v:=.bool (true)) rfl) <| rt (xax (v:=.bool (true)) rfl) (tm':=zq1 (zq4 _)) rfl <| xak ?_
      refine xlk Tryd.func13 rfl (vs:=[.bool (true)]) (fun h_ H_=>⟨.bool (true),_,rfl,rfl,rfl⟩) (v:=.bool (true)) rfl ?_
      exact fun h_ H_=>⟨rfl,H_.kept⟩
  ·
   refine rp (mo rfl rfl (xgv (dff cc3))) <| rp (mo rfl rfl (xgv (dff cc3))) <| xfq (mo rfl rfl (xgv (dff cc3))) (tm':=zq1 (zq8 (zq16 _))) rfl <| ro (xbj rfl (xgv (dff cc3)) (v:=.bool (true)) rfl) <| xak <| xdk rfl rfl ?_
   refine fsr ?_
   refine xcx mn (first:=[]) (cap:=[]) rfl rfl fC16 (fun h_ H_=>c16 .lone _ _ H_.pe N Z) rfl ?_
   refine rt (xax (v:=.bool (true)) rfl) (tm':=zq1 (zq4 _)) rfl <| xak ?_
   refine xlk Tryd.func13 rfl (vs:=[.bool (true)]) (fun h_ H_=>⟨.bool (true),_,rfl,rfl,rfl⟩) (v:=.bool (true)) rfl ?_
   exact fun h_ H_=>⟨rfl,H_.kept⟩
 ·
  refine rp (mo rfl rfl (xgv cc2)) <| rp (mo rfl rfl (xgv cc2)) <| xfq (mo rfl rfl (xgv cc2)) (tm':=zq1 (zq2 (zq16 _))) rfl <| rp (mo rfl rfl (xgv cc2)) <| ro (xbj rfl (xgv cc2) (v:=.bool (true)) rfl) <| rt (xaq (v:=.bool (true)) rfl) (tm':=zq2 (zq4 (zq16 _))) rfl ?_
  refine rp (mo rfl rfl rfl) <| rp (mo rfl rfl rfl) <| xfq (mo rfl rfl rfl) (tm':=zq1 (zq8 (zq16 _))) rfl <| ro (xbj rfl rfl (v:=.bool (true)) rfl) <| xak <| xdk rfl rfl ?_
  refine fsr ?_
  refine xcx mn (first:=[]) (cap:=[]) rfl rfl fC16 (fun h_ H_=>c16 .lone _ _ H_.pe N Z) rfl ?_
  refine rt (xax (v:=.bool (true)) rfl) (tm':=zq1 (zq4 _)) rfl <| xak ?_
  refine xlk Tryd.func13 rfl (vs:=[.bool (true)]) (fun h_ H_=>⟨.bool (true),_,rfl,rfl,rfl⟩) (v:=.bool (true)) rfl ?_
  exact fun h_ H_=>⟨rfl,H_.kept⟩
end Go.Proofs.YtalfgojocdonhaaDoor
namespace Go.Proofs.YtalfgojocdonhaaDoor
open Go.X Go.X.Flow Go.Conc Go.RowKit Go.ChangeShapes Go.WideShapes Go.ChangeAt Go.Joins
set_option maxRecDepth 100000

theorem wwv (os:Os) (started:os.Started) (H:Type) (enc:TypeId × Value→H):
    ReturnsInHanded {} Tryd.checked os 13 .any (fun w args=>(Rows.bucketsDrySpec.pre enc Tryd.prog Tryd.f13 Rows.bucketsDryRow.domain false w args∧laidMetH Tryd.prog Rows.bucketsDryRow.laid w)∧sizedMet enc Tryd.prog Tryd.f13 (OpenSpec.ofChange Rows.bucketsDrySpec) false w args) (Rows.bucketsDrySpec.post enc Tryd.prog Tryd.f13 false true false false):=by
  refine returnsInHanded_of_change_and (C:=Tryd.checked) (X:=fun w _=>laidMetH Tryd.prog Rows.bucketsDryRow.laid w) (fun _ _ _ hh h=>h.of_heap hh) pOwn started (by kernel_rfl) Tryd.func13
    (ChangeSpec.witness_shaped (enc:=enc) (C:=Tryd.checked) (os:=os) (X:=fun w _=>laidMetH Tryd.prog Rows.bucketsDryRow.laid w) false (laidW os) #[.agg #[.slice none 0 0,.slice none 0 0,.slice none 0 0],.int .i64 0] 8 (World.laidAll_os _ _ _)
      (World.shaped_of_ZipB (by kernel_rfl) (by kernel_rfl)) (by kernel_rfl) (by kernel_rfl) (by kernel_rfl) (ycv os _)) ?_
  intro W base args ds gs before hval0 hW _ _ hL _
  have hval: ∀ (j:Nat) t v,Tryd.f13.params[j]?=some t→args[j]?=some v→Value.okWide Tryd.prog W .any base t v:=hval0
  have hW2:=hW
  obtain ⟨p,q,hA0,hV,rfl,_,_⟩:=hW2
  have hA:DataW.TrodAll enc Tryd.prog W 0 (fun _=>true) true Tryd.f13.params.toList args.toList ds p:=hA0
  rw [Tryd.params13] at hA hval
  obtain ⟨v0,v1,d0,d1,p0,p1,rfl,rfl,_,h0,h1⟩:=trodAll_two hA
  obtain ⟨rfl,rfl⟩:=trodVars_none hV
  obtain ⟨a1,c1,a2,c2,a3,c3,t,rfl,hl,_,T⟩:=yaj (hval 0 25 v0 rfl rfl) h0
  obtain ⟨k1,rfl,hk1⟩:=wvv (hval 1 3 v1 rfl rfl) h1
  refine (xrj (e13 W.heap (pW W) (zlw W) a1 a2 a3 c1 c2 c3 t T hl k1 (xvv hL) (xxz hL))).mono fun e W2 ⟨v,he,⟨hv,hk_⟩,cl⟩=>⟨v,he,?_⟩
  subst hv
  exact ykq wmv rfl (fun t ht=>by rw [Tryd.params13] at ht;revert t;decide +kernel) rfl Tryd.underlying4 hW rfl (ymk hk_ cl)

theorem bucketsDryRowHolds:Rows.BucketsDrySaid:=
  OpenClaim.holds_of_wide 13 Tryd.f13 rfl rfl rfl rfl rfl rfl rfl ⟨rfl,rfl,rfl,rfl,rfl⟩ rfl rfl rfl rfl rfl (by kernel_rfl) Tryd.func13 (by kernel_rfl)
    (of_decide_eq_true (by kernel_rfl)) (by unfold Func.isWrapper;first | (rw [if_pos (by decide +kernel)];kernel_rfl) | (rw [if_neg (by decide +kernel)];exact ⟨rfl,rfl⟩))
    (fun os started H enc _=>wwv os started H enc)

theorem bucketsDryHolds:Rows.BucketsDryCardSaid:=
  Claim7.holds_tied_plain_at .later [] [.data, .data, .data] true (true, "5334d201df14a8cbe7ef60c793562a47fe331153d035b74b45b1c636860d1486") false bucketsDryRowHolds (fun _ h => by cases h) (by kernel_rfl) (fun _ h => by cases h) bucketsDry_row_tie rfl ⟨rfl, rfl⟩ (by kernel_rfl) rfl
    (fun f fn hf hfn=>by
      obtain rfl : f = 13 := Option.some.inj ((show Tryd.prog.funcNamed "steening/steeninglaw03.BucketsDry" = some 13 by kernel_rfl).symm.trans hf) |>.symm
      obtain rfl:fn= Tryd.f13:=(Option.some.inj (Tryd.func13.symm.trans hfn)).symm
      exact ⟨by kernel_rfl,fun j t ht=>by
        rw [Tryd.params13] at ht
        have hm:t∈[25,3]:=by simpa using Array.mem_of_getElem? ht
        have hall:([25,3].all fun u=>!Tryd.prog.wantsStandIn u)=true:=by kernel_rfl
        exact (show Tryd.prog.wantsStandIn t=false by simpa using List.all_eq_true.1 hall t hm)⟩)
    (by kernel_rfl)

#print axioms bucketsDryHolds
end Go.Proofs.YtalfgojocdonhaaDoor
