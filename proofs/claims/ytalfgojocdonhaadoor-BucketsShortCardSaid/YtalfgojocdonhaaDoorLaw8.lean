/-
  BucketsShort, for every input: the law returns true and leaves its arguments as they were. The row, and the tied card.
-/
import Derived.Test.YtalfgojocdonhaaDoorD2
import Derived.Test.YtalfgojocdonhaaDoorD1
import Derived.Test.YtalfgojocdonhaaDoorD3
import Derived.Test.YtalfgojocdonhaaDoorD4
import Derived.Test.YtalfgojocdonhaaDoorD5
import Derived.Test.YtalfgojocdonhaaDoorD6
import Derived.Test.YtalfgojocdonhaaDoorCards
import Derived.Test.YtalfgojocdonhaaDoorTie
namespace Go.Proofs.YtalfgojocdonhaaDoor
open Go.X Go.X.Flow Go.Conc
set_option maxRecDepth 10000
set_option synthInstance.maxSize 2000

set_option maxHeartbeats 2000000
theorem e8 (h:Heap) (p:PHeap) (hp:Per p h) (a1 a2 a3:Option Addr) (c1 c2 c3:Nat) (t:Tn) (T:TownP p a1 t.nH a2 t.nW a3 t.m t) (hl:t.nH≤9223372036854775807∧t.nW≤9223372036854775807∧t.m≤9223372036854775807) (b:Option Addr) (m cb:Nat) (d:List Int) (D:Ints p b m d) (_hm:m≤9223372036854775807) (N:NoneP p) (Z:TabP p):EntersL Tryd.prog 8 #[.agg #[.slice a1 t.nH c1,.slice a2 t.nW c2,.slice a3 t.m c3],.slice b m cb] h fun v h'=>v= .bool true∧Keep h h':=by
 refine xuk (Φ:=fun h_=>St h [] p h_ []) Tryd.func8 rfl (tm:=zq1 (zq2 (zq4 (zq32 (zq32 (zq32 (zq32 []))))))) rfl ?_ (St.start h _ hp)
 intro cs
 refine fsr ?_
 refine xiw mn (v:=.agg #[.slice a1 t.nH c1,.slice a2 t.nW c2,.slice a3 t.m c3]) rfl fun b1=>xcj (L':=[(b1,.cells #[.slice a1 t.nH c1,.slice a2 t.nW c2,.slice a3 t.m c3] 25 (0,0))]) rfl ?_
 refine ro (xax (v:=.bool (false)) rfl) <| ren <| fsr ?_
 refine xaw mn (fun h_ H_=>xav H_ tA25 tS25 rfl (i:=0) rfl (vs:=[.slice a1 t.nH c1,.slice a2 t.nW c2,.slice a3 t.m c3]) rfl rfl) (tm':=zq2 (zq4 (zq8 _))) rfl ?_
 refine xcx mn (first:=[]) (cap:=[]) rfl rfl fC23 (fun h_ H_=>c23 .lone _ _ H_.pe _ _ _ _ _ _ t (show TownP _ _ _ _ _ _ _ t from ⟨T.h,T.w,T.y⟩) hl) rfl ?_
 refine ro (xgz rfl) <| rt (xaq (v:=.bool (!(readyB t))) rfl) (tm':=zq1 (zq16 _)) rfl ?_
 rcases xwx (readyB t) with cc2 | cc2
 ·
  obtain ⟨hf_,hc_⟩:=yej cc2
  have hn:t.nH≤40∧t.nW≤40∧t.m≤41:=by have z_:=ygk hf_;unfold Big at z_;omega
  have hO:OkT t:=xtz hc_
  obtain ⟨h12,hV⟩:=ytj hc_
  have oH:=hO.nh
  have sF_:=zqj hO hc_
  have hs_:=ynk t (2 ^ t.nH) (yjj hO.toOk)
  have hs2_:(shortP t).length≤6:=hs_
  refine xaw (ms rfl rfl (xev cc2)) (fun h_ H_=>xaq (v:=.slice b m cb) rfl) rfl ?_
  refine xaw (ms rfl rfl (xev cc2)) (fun h_ H_=>xfk Tryd.underlying22 rfl) rfl ?_
  refine xaw (ms rfl rfl (xev cc2)) (fun h_ H_=>xix rfl rfl) (tm':=zq4 (zq16 _)) rfl ?_
  refine ro (xcq rfl (xev cc2) (v:=.bool (decide (40<((m:Nat):Int)))) rfl) <| xak ?_
  by_cases cc3:40<((m:Nat):Int)
  ·
   refine xdk rfl (dtt cc3) <| fsr ?_
   refine xcx mn (first:=[]) (cap:=[]) rfl rfl fC16 (fun h_ H_=>c16 .lone _ _ H_.pe N Z) rfl ?_
   refine rt (xax (v:=.bool (true)) rfl) (tm':=zq1 (zq4 _)) rfl <| xak ?_
   refine xlk Tryd.func8 rfl (vs:=[.bool (true)]) (fun h_ H_=>⟨.bool (true),_,rfl,rfl,rfl⟩) (v:=.bool (true)) rfl ?_
   exact fun h_ H_=>⟨rfl,H_.kept⟩
  ·
   refine xcv rfl (dff cc3) <| xdq <| fsr <| rd (fun h_ H_=>xav H_ tA25 tS25 rfl (i:=0) rfl (vs:=[.slice a1 t.nH c1,.slice a2 t.nW c2,.slice a3 t.m c3]) rfl rfl) ?_
   refine xcj (L':=([(b1,.cells #[.slice a1 t.nH c1,.slice a2 t.nW c2,.slice a3 t.m c3] 25 (0,0))]:Pcs)++[]) rfl ?_
   refine xjq mn (first:=[]) (cap:=[]) rfl rfl fC25 (R:=fun v_ h_=>∃ w4:Value,∃ X5:Pcs,v_= .tuple #[w4,.int .i64 (shortE t)]∧(OwnS 3 1 w4 (ics (shortP t)) X5)∧St h [] p h_ (([(b1,.cells #[.slice a1 t.nH c1,.slice a2 t.nW c2,.slice a3 t.m c3] 25 (0,0))]:Pcs)++(X5++[]))) (fun h_ H_=>(wux .lone H_.pe (show TownP _ _ _ _ _ _ _ t from ⟨T.h,T.w,T.y⟩) (by omega) Z hc_).mono fun v_ h2_ ⟨w4,X5,e_,o6,N_⟩=>⟨w4,X5,e_,o6,H_.callNA N_⟩) fun v_=>?_
   refine xfv fun w4=>xfv fun X5=>xfz fun ev_=>xfz fun o6=>?_
   have ev_:=ev_.symm;subst ev_
   refine xcj (L':=([(b1,.cells #[.slice a1 t.nH c1,.slice a2 t.nW c2,.slice a3 t.m c3] 25 (0,0))]:Pcs)++(X5++[])) rfl ?_
   refine rt (xaq (v:=.tuple #[w4,.int .i64 (shortE t)]) rfl) (tm':=zq1 (zq2 (zq4 (zq16 _)))) rfl <| ro (xdx rfl (v:=w4) rfl) <| ro (xdx rfl (v:=.int .i64 (shortE t)) rfl) <| rt (xax (v:=w4) rfl) (tm':=zq2 (zq4 _)) rfl <| ro (xax (v:=.int .i64 (shortE t)) rfl) <| ren ?_
   refine xbq <| rd (fun h_ H_=>xav H_ tA25 tS25 rfl (i:=0) rfl (vs:=[.slice a1 t.nH c1,.slice a2 t.nW c2,.slice a3 t.m c3]) rfl rfl) ?_
   refine xcx mn (first:=[]) (cap:=[]) rfl rfl fC36 (fun h_ H_=>zcj .lone H_.pe (show TownP _ _ _ _ _ _ _ t from ⟨T.h,T.w,T.y⟩) (by omega) N hc_) (tm':=zq2 (zq4 (zq8 (zq16 _)))) rfl ?_
   refine ro (xaq (v:=.tuple #[.int .i64 (worstV t),.int .i64 0]) rfl) <| ro (xdx rfl (v:=.int .i64 (worstV t)) rfl) <| rt (xdx rfl (v:=.int .i64 0) rfl) (tm':=zq32 _) rfl <| ro (xax (v:=.int .i64 (worstV t)) rfl) <| ro (xax (v:=.int .i64 0) rfl) <| ren ?_
   refine xej ?_
   refine xjj (A:=([(b1,.cells #[.slice a1 t.nH c1,.slice a2 t.nW c2,.slice a3 t.m c3] 25 (0,0))]:Pcs)) o6 ((xck _).trans rfl) fun p7 a8 cp9 le10 ev_ D11=>?_
   subst ev_
   refine xkv (L':=[(b1,.cells #[.slice a1 t.nH c1,.slice a2 t.nW c2,.slice a3 t.m c3] 25 (0,0))]) rfl ?_
   refine xbq <| rt (xaq (v:=.int .i64 (shortE t)) rfl) (tm':=zq1 (zq32 _)) rfl ?_
   refine xcx mn (first:=[]) (cap:=[]) rfl rfl fC37 (fun h_ H_=>c37 .lone _ (shortE t)) rfl ?_
   refine ro (xgz rfl) <| rt (xaq (v:=.bool (!(decide (shortE t=0∨shortE t=3)))) rfl) (tm':=zq4 (zq32 _)) rfl ?_
   refine xaw (ms rfl rfl (xev (decide_eq_true sF_.k))) (fun h_ H_=>xaq (v:=.int .i64 0) rfl) rfl ?_
   refine xaw (ms rfl rfl (xev (decide_eq_true sF_.k))) (fun h_ H_=>xhw rfl rfl) rfl ?_
   refine rt (xcq rfl (xev (decide_eq_true sF_.k)) (v:=.bool (decide ((0:Int)≠0))) rfl) (tm':=zq1 (zq2 (zq4 (zq32 _)))) rfl <| ro (xaq (v:=.bool (decide ((0:Int)≠0))) rfl) ?_
   refine xaw (ms rfl rfl (decide_eq_false (by decide))) (fun h_ H_=>xaq (v:=.int .i64 (shortE t)) rfl) rfl ?_
   refine xaw (ms rfl rfl (decide_eq_false (by decide))) (fun h_ H_=>xjx rfl rfl) (tm':=zq2 (zq8 (zq32 _))) rfl ?_
   refine xaw (ms rfl rfl (decide_eq_false (by decide))) (fun h_ H_=>xaq (v:=.int .i64 (worstV t)) rfl) rfl ?_
   refine xaw (ms rfl rfl (decide_eq_false (by decide))) (fun h_ H_=>xix rfl rfl) rfl ?_
   refine xaw (ms rfl rfl (decide_eq_false (by decide))) (fun h_ H_=>waj (p:=shortE t=0) (q:=0<worstV t) Tryd.underlying4 rfl rfl) (tm':=zq1 (zq4 (zq8 (zq32 _)))) rfl ?_
   refine ro (xcq rfl (decide_eq_false (by decide)) (v:=.bool (!decide ((shortE t=0)↔(0<worstV t)))) rfl) ?_
   refine xak <| xcv rfl (xev (decide_eq_true sF_.a)) <| xdq <| xej <| xej ?_
   by_cases cc12:shortE t=0
   ·
    refine xfw 21 [[],[0],[0,1],[0,1],[0,1,3],[0,1,3,4],[0,1,3,4,5],[],[0,1,3,4,5],[0,1,3,4,5,8],[0,1,3,4,5,8,9],[0,1,3,4,5,8,9,10],[0,1,3,4,5,7,8,9,10,11],[0,1,3,4,5,7,8,9,10,11],[0,1,3,4,5,6,7,8,9,10,11,13],[0,1,2,3,4,5,6,7,8,9,10,11,12,13,14],[],[],[16,17],[],[0,1,2,3,4,5,6,7,8,9,10,11,12,13,14],[0,1,2,3,4,5,6,7,8,9,10,11,12,13,14,16,17,19,20],[0,1,3,4,5,6,7,8,9,10,11,12,13,14,16,17,18,19,20,21],[0,1,3,4,5,6,7,8,9,10,11,12,13,14,15,16,17,18,19,20,21,22],[]] xlq (by kernel_rfl) (Nat.le_of_ble_eq_true rfl) ?_
    refine wt (xaq (v:=.int .i64 (shortE t)) rfl) (tm':=zq1 (zq2 (zq4 (zq8 (zq32 _))))) rfl <| wo (xjx rfl rfl) <| wt (xaq (v:=.bool (decide (shortE t=0))) rfl) (tm':=zq1 (zq16 (zq32 _))) rfl ?_
    refine xbz (ms rfl rfl (decide_eq_true (by omega))) (fun h_ H_=>xaq (v:=.slice a8 ((shortP t).length) cp9) rfl) rfl ?_
    refine xbz (ms rfl rfl (decide_eq_true (by omega))) (fun h_ H_=>xfk Tryd.underlying22 rfl) (tm':=zq1 (zq2 (zq16 (zq32 _)))) rfl ?_
    refine xbz (ms rfl rfl (decide_eq_true (by omega))) (fun h_ H_=>xjx rfl rfl) rfl ?_
    refine xbz (ms rfl rfl (decide_eq_true (by omega))) (fun h_ H_=>xaq (v:=.bool (decide ((((shortP t).length:Nat):Int)=0))) rfl) (tm':=zq1 (zq4 (zq16 (zq32 _)))) rfl ?_
    refine xbz (ms rfl rfl (decide_eq_false (fun z_=>sF_.b (by omega) (List.length_eq_zero_iff.1 (by omega))))) (fun h_ H_=>xaq (v:=.slice a8 ((shortP t).length) cp9) rfl) rfl ?_
    refine xbz (ms rfl rfl (decide_eq_false (fun z_=>sF_.b (by omega) (List.length_eq_zero_iff.1 (by omega))))) (fun h_ H_=>xaz xmz rfl (a':=⟨b1,0,none⟩) rfl) (tm':=zq1 (zq2 (zq4 (zq16 (zq32 _))))) rfl ?_
    refine xbz (ms rfl rfl (decide_eq_false (fun z_=>sF_.b (by omega) (List.length_eq_zero_iff.1 (by omega))))) (fun h_ H_=>xaj H_ tA22 rfl (i:=0) rfl (v:=.slice a1 t.nH c1) rfl) rfl ?_
    refine xbz (ms rfl rfl (decide_eq_false (fun z_=>sF_.b (by omega) (List.length_eq_zero_iff.1 (by omega))))) (fun h_ H_=>xfk Tryd.underlying22 rfl) (tm':=zq1 (zq8 (zq16 (zq32 _)))) rfl ?_
    refine xbz (ms rfl rfl (decide_eq_false (fun z_=>sF_.b (by omega) (List.length_eq_zero_iff.1 (by omega))))) (fun h_ H_=>xkw rfl rfl (wr (by omega))) rfl ?_
    refine xik (ms rfl rfl (decide_eq_false (fun z_=>sF_.b (by omega) (List.length_eq_zero_iff.1 (by omega))))) (first:=[]) (cap:=[]) rfl rfl fC38 (fun h_ H_=>(c38 .lone _ _ H_.pe _ _ _ _ (show Ints _ _ _ (shortP t) from D11) (by omega) (0) (((t.nH:Nat):Int)-1)).mono fun v_ h2_ ⟨e_,k_⟩=>⟨e_,H_.call k_⟩) (tm':=zq1 (zq2 (zq8 (zq16 (zq32 _))))) rfl ?_
    refine xbz (ms rfl rfl (decide_eq_false (fun z_=>sF_.b (by omega) (List.length_eq_zero_iff.1 (by omega))))) (fun h_ H_=>xgz rfl) rfl ?_
    refine xbz (ms rfl rfl (decide_eq_true (by omega))) (fun h_ H_=>xcq rfl (decide_eq_false (fun z_=>sF_.b (by omega) (List.length_eq_zero_iff.1 (by omega)))) (v:=.bool (!(decide (Rise (shortP t) (0) (((t.nH:Nat):Int)-1))))) rfl) (tm':=zq1 (zq4 (zq8 (zq16 (zq32 _))))) rfl ?_
    refine xbz (ms rfl rfl (decide_eq_true (by omega))) (fun h_ H_=>xaq (v:=.bool (!(decide (Rise (shortP t) (0) (((t.nH:Nat):Int)-1))))) rfl) rfl ?_
    refine xbz (ms rfl rfl (xev (decide_eq_true sF_.r))) (fun h_ H_=>xav H_ tA25 tS25 rfl (i:=0) rfl (vs:=[.slice a1 t.nH c1,.slice a2 t.nW c2,.slice a3 t.m c3]) rfl rfl) (tm':=zq1 (zq2 (zq4 (zq8 (zq16 (zq32 _)))))) rfl ?_
    refine xbz (ms rfl rfl (xev (decide_eq_true sF_.r))) (fun h_ H_=>xaq (v:=.slice a8 ((shortP t).length) cp9) rfl) rfl ?_
    refine xik (ms rfl rfl (xev (decide_eq_true sF_.r))) (first:=[]) (cap:=[]) rfl rfl fC39 (fun h_ H_=>(c39 .lone _ _ H_.pe _ _ _ _ _ _ t (show TownP _ _ _ _ _ _ _ t from ⟨(T.h.mono le10),(T.w.mono le10),(T.y.mono le10)⟩) (by omega) _ _ _ _ (show Ints _ _ _ (shortP t) from D11) (by omega) hO (zrx sF_.r (show Ints _ _ _ (shortP t) from D11).len)).mono fun v_ h2_ ⟨e_,k_⟩=>⟨e_,H_.call k_⟩) (tm':=zq1 (zq32 (zq32 _))) rfl ?_
    refine xbz (ms rfl rfl (xev (decide_eq_true sF_.r))) (fun h_ H_=>xav H_ tA25 tS25 rfl (i:=0) rfl (vs:=[.slice a1 t.nH c1,.slice a2 t.nW c2,.slice a3 t.m c3]) rfl rfl) rfl ?_
    refine xbz (ms rfl rfl (xev (decide_eq_true sF_.r))) (fun h_ H_=>xaq (v:=.slice a8 ((shortP t).length) cp9) rfl) (tm':=zq1 (zq2 (zq32 (zq32 _)))) rfl ?_
    refine xiz rfl ?_
    refine xcx (ms rfl rfl (xev (decide_eq_true sF_.r))) (first:=[]) (cap:=[]) rfl rfl fC40 (fun h_ H_=>c40 .lone _ _ H_.pe _ _ _ _ _ _ t (show TownP _ _ _ _ _ _ _ t from ⟨(T.h.mono le10),(T.w.mono le10),(T.y.mono le10)⟩) (by omega) _ _ _ _ (show Ints _ _ _ (shortP t) from D11) (by omega) hO) rfl ?_
    refine xaw (ms rfl rfl (xev (decide_eq_true sF_.r))) (fun h_ H_=>yhz rfl rfl) (tm':=zq1 (zq4 (zq32 (zq32 _)))) rfl ?_
    refine xaw (ms rfl rfl (decide_eq_true (by omega))) (fun h_ H_=>xcq rfl (xev (decide_eq_true sF_.r)) (v:=.bool (decide (wantL t (shortP t) (shortP t).length≤reachL t (shortP t) t.nW))) rfl) rfl ?_
    refine ro (xbj rfl (decide_eq_true (by omega)) (v:=.bool (decide (wantL t (shortP t) (shortP t).length≤reachL t (shortP t) t.nW))) rfl) ?_
    refine xak ?_
    refine xcv rfl (decide_eq_false (by have z_:=sF_.w (by omega);omega)) ?_
    refine xdq <| xej <| fsr <| rt (xaq (v:=.int .i64 (shortE t)) rfl) (tm':=zq8 (zq32 (zq32 _))) rfl <| ro (xhw rfl rfl) <| ro (xaq (v:=.bool (decide (shortE t≠0))) rfl) ?_
    refine xfq (mo rfl rfl (decide_eq_false (by omega))) (tm':=zq1 (zq2 (zq8 (zq32 (zq32 _))))) rfl ?_
    refine rp (mo rfl rfl (decide_eq_false (by omega))) ?_
    refine rp (mo rfl rfl (decide_eq_false (by omega))) ?_
    refine rt (xcq rfl (decide_eq_false (by omega)) (v:=.bool (false)) rfl) (tm':=zq2 (zq4 (zq8 (zq32 (zq32 _))))) rfl ?_
    refine xak <| xcv rfl rfl <| xdq <| xej <| fsr <| ro (xaq (v:=.slice b m cb) rfl) ?_
    refine ro (xaz xmz rfl (a':=⟨b1,0,none⟩) rfl) ?_
    refine xaw mn (fun h_ H_=>xaj H_ tA22 rfl (i:=0) rfl (v:=.slice a1 t.nH c1) rfl) (tm':=zq1 (zq16 (zq32 (zq32 _)))) rfl ?_
    refine ro (xfk Tryd.underlying22 rfl) ?_
    refine ro (xkw rfl rfl (wr (by omega))) ?_
    refine xcx mn (first:=[]) (cap:=[]) rfl rfl fC38 (fun h_ H_=>c38 .lone _ _ H_.pe _ _ _ _ (D.mono le10) (by omega) (0) (((t.nH:Nat):Int)-1)) (tm':=zq4 (zq16 (zq32 (zq32 _)))) rfl ?_
    refine ro (xgz rfl) <| ro (xaq (v:=.bool (!(decide (Rise d (0) (((t.nH:Nat):Int)-1))))) rfl) ?_
    by_cases cc13:Rise d (0) (((t.nH:Nat):Int)-1)
    ·
     have rH_:=cc13
     refine xaw (ms rfl rfl (xev (dtt cc13))) (fun h_ H_=>xaq (v:=.int .i64 (shortE t)) rfl) (tm':=zq1 (zq2 (zq4 (zq16 (zq32 (zq32 _)))))) rfl ?_
     refine xaw (ms rfl rfl (xev (dtt cc13))) (fun h_ H_=>xjx rfl rfl) rfl ?_
     refine xaw (ms rfl rfl (xev (dtt cc13))) (fun h_ H_=>xaq (v:=.bool (decide (shortE t=0))) rfl) rfl ?_
     refine xaw (ms rfl rfl (decide_eq_true (by omega))) (fun h_ H_=>xaq (v:=.slice b m cb) rfl) (tm':=zq2 (zq8 (zq16 (zq32 (zq32 _))))) rfl ?_
     refine xaw (ms rfl rfl (decide_eq_true (by omega))) (fun h_ H_=>xfk Tryd.underlying22 rfl) rfl ?_
     refine xaw (ms rfl rfl (decide_eq_true (by omega))) (fun h_ H_=>xaq (v:=.slice a8 ((shortP t).length) cp9) rfl) rfl ?_
     refine xaw (ms rfl rfl (decide_eq_true (by omega))) (fun h_ H_=>xfk Tryd.underlying22 rfl) (tm':=zq1 (zq2 (zq4 (zq32 (zq32 (zq32 (zq32 []))))))) rfl ?_
     refine xaw (ms rfl rfl (decide_eq_true (by omega))) (fun h_ H_=>xuj rfl rfl) rfl ?_
     refine xaw (ms rfl rfl (xev (dtt cc13))) (fun h_ H_=>xbj rfl (decide_eq_true (by omega)) (v:=.bool (decide ((((shortP t).length:Nat):Int)≤((m:Nat):Int)))) rfl) rfl ?_
     refine rt (xcq rfl (xev (dtt cc13)) (v:=.bool (decide ((((shortP t).length:Nat):Int)≤((m:Nat):Int)))) rfl) (tm':=zq1 (zq2 (zq4 (zq32 (zq32 (zq32 (zq32 []))))))) rfl <| xak ?_
     by_cases cc14:(((shortP t).length:Nat):Int)≤((m:Nat):Int)
     ·
      refine xdk rfl (dtt cc14) <| fsr ?_
      refine xcx mn (first:=[]) (cap:=[]) rfl rfl fC16 (fun h_ H_=>c16 .lone _ _ H_.pe (N.mono le10) (Z.mono le10)) rfl ?_
      refine ro (xax (v:=.bool (true)) rfl) <| xak ?_
      refine xlk Tryd.func8 rfl (vs:=[.bool (true)]) (fun h_ H_=>⟨.bool (true),_,rfl,rfl,rfl⟩) (v:=.bool (true)) rfl ?_
      exact fun h_ H_=>⟨rfl,H_.kept⟩
     ·
      refine xcv rfl (dff cc14) <| xdq <| xej <| xej ?_
      have lt_:shortE t=0→d.length<(shortP t).length:=fun z_=>by have z2_:=D.len;omega
      have sE_:=wjj hV h12 hO sF_ rH_ lt_
      have sD_:=wjk hO sF_ rH_ lt_
      have ho_:(only t (setL d)).nH≤40∧(only t (setL d)).nW≤40∧(only t (setL d)).m≤41:=⟨by rw [ybz];omega,hn.2.1,hn.2.2⟩
      refine xfw 5 [[],[],[0,1],[],[],[0,1,3,4],[]] xlq (by kernel_rfl) (Nat.le_of_ble_eq_true rfl) ?_
      refine xbz mn (fun h_ H_=>xav H_ tA25 tS25 rfl (i:=0) rfl (vs:=[.slice a1 t.nH c1,.slice a2 t.nW c2,.slice a3 t.m c3]) rfl rfl) (tm':=zq1 (zq2 (zq4 (zq32 (zq32 (zq32 (zq32 []))))))) rfl ?_
      refine wo (xaq (v:=.slice b m cb) rfl) ?_
      refine xik mn (first:=[]) (cap:=[]) rfl rfl fC39 (fun h_ H_=>(c39 .lone _ _ H_.pe _ _ _ _ _ _ t (show TownP _ _ _ _ _ _ _ t from ⟨(T.h.mono le10),(T.w.mono le10),(T.y.mono le10)⟩) (by omega) _ _ _ _ (D.mono le10) (by omega) hO (zrx rH_ (D.mono le10).len)).mono fun v_ h2_ ⟨e_,k_⟩=>⟨e_,H_.call k_⟩) (tm':=zq1 (zq2 (zq4 (zq32 (zq32 (zq32 (zq32 []))))))) rfl ?_
      refine wd (fun h_ H_=>xav H_ tA25 tS25 rfl (i:=0) rfl (vs:=[.slice a1 t.nH c1,.slice a2 t.nW c2,.slice a3 t.m c3]) rfl rfl) <| wt (xaq (v:=.slice b m cb) rfl) (tm':=zq1 (zq2 (zq4 (zq32 (zq32 (zq32 (zq32 []))))))) rfl ?_
      refine xiz rfl ?_
      refine xcx mn (first:=[]) (cap:=[]) rfl rfl fC40 (fun h_ H_=>c40 .lone _ _ H_.pe _ _ _ _ _ _ t (show TownP _ _ _ _ _ _ _ t from ⟨(T.h.mono le10),(T.w.mono le10),(T.y.mono le10)⟩) (by omega) _ _ _ _ (D.mono le10) (by omega) hO) rfl ?_
      refine rt (xix rfl rfl) (tm':=zq1 (zq2 (zq4 (zq32 (zq32 (zq32 (zq32 []))))))) rfl <| xak ?_
      refine xcv rfl (decide_eq_false (by omega)) ?_
      refine xdq <| fsr <| rd (fun h_ H_=>xav H_ tA25 tS25 rfl (i:=0) rfl (vs:=[.slice a1 t.nH c1,.slice a2 t.nW c2,.slice a3 t.m c3]) rfl rfl) ?_
      refine xcj (L':=([(b1,.cells #[.slice a1 t.nH c1,.slice a2 t.nW c2,.slice a3 t.m c3] 25 (0,0))]:Pcs)++[]) rfl ?_
      refine xjq mn (first:=[]) (cap:=[]) rfl rfl fC17 (R:=fun v_ h_=>∃ w15:Value,∃ w16:Value,∃ w17:Value,∃ X18:Pcs,∃ X19:Pcs,∃ X20:Pcs,v_= .agg #[w15,w16,w17]∧(OwnS 3 1 w15 (ics t.hs) X18)∧(OwnS 3 1 w16 (ics t.ws) X19)∧(OwnS 43 2 w17 (wcs t.wy) X20)∧St h [] p7 h_ (([(b1,.cells #[.slice a1 t.nH c1,.slice a2 t.nW c2,.slice a3 t.m c3] 25 (0,0))]:Pcs)++((X20++(X18++(X19++[])))++[]))) (fun h_ H_=>(c17 .lone _ _ H_.pe _ _ _ _ _ _ t (show TownP _ _ _ _ _ _ _ t from ⟨(T.h.mono le10),(T.w.mono le10),(T.y.mono le10)⟩) (by omega)).mono fun v_ h2_ ⟨w15,w16,w17,X18,X19,X20,e_,o21,o22,o23,N_⟩=>⟨w15,w16,w17,X18,X19,X20,e_,o21,o22,o23,H_.callNA N_⟩) fun v_=>?_
      refine xfv fun w15=>xfv fun w16=>xfv fun w17=>xfv fun X18=>xfv fun X19=>xfv fun X20=>xfz fun ev_=>xfz fun o21=>xfz fun o22=>xfz fun o23=>?_
      have ev_:=ev_.symm;subst ev_
      refine xcj (L':=([(b1,.cells #[.slice a1 t.nH c1,.slice a2 t.nW c2,.slice a3 t.m c3] 25 (0,0))]:Pcs)++(X20++(X18++(X19++[])))) (by simp) ?_
      refine xkz mn tZ25 rfl fun b24=>xcj (L':=([(b24,.cells #[.slice none 0 0,.slice none 0 0,.slice none 0 0] 25 (0,0)),(b1,.cells #[.slice a1 t.nH c1,.slice a2 t.nW c2,.slice a3 t.m c3] 25 (0,0))]:Pcs)++(X20++(X18++(X19++[])))) rfl ?_
      refine xgx (tm':=zq2 (zq8 _)) rfl ?_
      refine xjk mn tS25 rfl (v:=.agg #[w15,w16,w17]) rfl (i:=0) rfl rfl (xfj o21.one.2 (xfj o22.one.2 (xfj o23.one.2 rfl))) (Nat.le_of_ble_eq_true rfl) (cs2:=[w15,w16,w17]) rfl (xcj (L':=([(b24,.cells #[w15,w16,w17] 25 (0,0)),(b1,.cells #[.slice a1 t.nH c1,.slice a2 t.nW c2,.slice a3 t.m c3] 25 (0,0))]:Pcs)++(X20++(X18++(X19++[])))) rfl ?_)
      refine ren <| xej ?_
      refine xgj (List.Perm.append_left _ (List.perm_append_comm_assoc _ _ _)) ?_
      refine xkv (L':=([(b24,.cells #[w15,w16,w17] 25 (0,0)),(b1,.cells #[.slice a1 t.nH c1,.slice a2 t.nW c2,.slice a3 t.m c3] 25 (0,0))]:Pcs)++(X18++(X20++(X19++[])))) rfl ?_
      refine xbq <| ro (xax (v:=.int .i64 0) rfl) <| xak <| xek ?_
      refine xiv (m₀:=t.nH-0) (fun m_ tm_ h_=>∃ (k:Nat) (X1_:Pcs),m_=t.nH-k∧(∃ y25:Nat→Value,tm_=(.agg #[.slice a1 t.nH c1,.slice a2 t.nW c2,.slice a3 t.m c3]::.slice b m cb::.pointer (some ⟨b1,0,none⟩)::undef::.bool (false)::.slice a8 ((shortP t).length) cp9::.int .i64 (shortE t)::.int .i64 (worstV t)::.int .i64 0::.pointer (some ⟨b24,0,none⟩)::.int .i64 (((k:Nat):Int))::undef::undef::.agg #[.slice a1 t.nH c1,.slice a2 t.nW c2,.slice a3 t.m c3]::.bool (readyB t)::.bool (!(readyB t))::.bool (!(readyB t))::.slice b m cb::.int .i64 (((m:Nat):Int))::.bool (decide (40<((m:Nat):Int)))::.bool (decide (40<((m:Nat):Int)))::undef::.tuple #[.slice a8 ((shortP t).length) cp9,.int .i64 (shortE t)]::.agg #[.slice a1 t.nH c1,.slice a2 t.nW c2,.slice a3 t.m c3]::.tuple #[.slice a8 ((shortP t).length) cp9,.int .i64 (shortE t)]::.slice a8 ((shortP t).length) cp9::.int .i64 (shortE t)::.tuple #[.int .i64 (worstV t),.int .i64 0]::.agg #[.slice a1 t.nH c1,.slice a2 t.nW c2,.slice a3 t.m c3]::.tuple #[.int .i64 (worstV t),.int .i64 0]::.int .i64 (worstV t)::.int .i64 0::.int .i64 (shortE t)::.bool (decide (shortE t=0∨shortE t=3))::.bool (!(decide (shortE t=0∨shortE t=3)))::.bool (!(decide (shortE t=0∨shortE t=3)))::.int .i64 0::.bool (decide ((0:Int)≠0))::.bool (decide ((0:Int)≠0))::.bool (decide ((0:Int)≠0))::.int .i64 (shortE t)::.bool (decide (shortE t=0))::.int .i64 (worstV t)::.bool (decide (0<worstV t))::.bool (!decide ((shortE t=0)↔(0<worstV t)))::.bool (!decide ((shortE t=0)↔(0<worstV t)))::.int .i64 (shortE t)::.bool (decide (shortE t=0))::.bool (decide (shortE t=0))::.slice a8 ((shortP t).length) cp9::.int .i64 ((((shortP t).length:Nat):Int))::.bool (decide ((((shortP t).length:Nat):Int)=0))::.bool (decide ((((shortP t).length:Nat):Int)=0))::.slice a8 ((shortP t).length) cp9::.pointer (some ⟨b1,0,none⟩)::.slice a1 t.nH c1::.int .i64 (((t.nH:Nat):Int))::.int .i64 (((t.nH:Nat):Int)-1)::.bool (decide (Rise (shortP t) (0) (((t.nH:Nat):Int)-1)))::.bool (!(decide (Rise (shortP t) (0) (((t.nH:Nat):Int)-1))))::.bool (!(decide (Rise (shortP t) (0) (((t.nH:Nat):Int)-1))))::.bool (!(decide (Rise (shortP t) (0) (((t.nH:Nat):Int)-1))))::.agg #[.slice a1 t.nH c1,.slice a2 t.nW c2,.slice a3 t.m c3]::.slice a8 ((shortP t).length) cp9::.int .i64 (wantL t (shortP t) (shortP t).length)::.agg #[.slice a1 t.nH c1,.slice a2 t.nW c2,.slice a3 t.m c3]::.slice a8 ((shortP t).length) cp9::.int .i64 (reachL t (shortP t) t.nW)::.bool (decide (wantL t (shortP t) (shortP t).length≤reachL t (shortP t) t.nW))::.bool (decide (wantL t (shortP t) (shortP t).length≤reachL t (shortP t) t.nW))::.bool (decide (wantL t (shortP t) (shortP t).length≤reachL t (shortP t) t.nW))::.int .i64 (shortE t)::.bool (decide (shortE t≠0))::.bool (decide (shortE t≠0))::undef::undef::undef::.bool (false)::.slice b m cb::.pointer (some ⟨b1,0,none⟩)::.slice a1 t.nH c1::.int .i64 (((t.nH:Nat):Int))::.int .i64 (((t.nH:Nat):Int)-1)::.bool (decide (Rise d (0) (((t.nH:Nat):Int)-1)))::.bool (!(decide (Rise d (0) (((t.nH:Nat):Int)-1))))::.bool (!(decide (Rise d (0) (((t.nH:Nat):Int)-1))))::.int .i64 (shortE t)::.bool (decide (shortE t=0))::.bool (decide (shortE t=0))::.slice b m cb::.int .i64 (((m:Nat):Int))::.slice a8 ((shortP t).length) cp9::.int .i64 ((((shortP t).length:Nat):Int))::.bool (decide ((((shortP t).length:Nat):Int)≤((m:Nat):Int)))::.bool (decide ((((shortP t).length:Nat):Int)≤((m:Nat):Int)))::.bool (decide ((((shortP t).length:Nat):Int)≤((m:Nat):Int)))::undef::.agg #[.slice a1 t.nH c1,.slice a2 t.nW c2,.slice a3 t.m c3]::.slice b m cb::.int .i64 (wantL t d d.length)::.agg #[.slice a1 t.nH c1,.slice a2 t.nW c2,.slice a3 t.m c3]::.slice b m cb::.int .i64 (reachL t d t.nW)::.bool (decide (reachL t d t.nW<wantL t d d.length))::.agg #[.slice a1 t.nH c1,.slice a2 t.nW c2,.slice a3 t.m c3]::.agg #[w15,w16,w17]::(y25 106)::(y25 107)::(y25 108)::(y25 109)::(y25 110)::(y25 111)::(y25 112)::(y25 113)::(y25 114)::(y25 115)::(y25 116)::(y25 117)::(y25 118)::(y25 119)::(y25 120)::undef::undef::zu4 (zu8 [])))∧(k≤t.nH)∧(OwnS 3 1 w15 (ics (zeroK t d k)) X1_)∧St h [] p7 h_ (([(b24,.cells #[w15,w16,w17] 25 (0,0)),(b1,.cells #[.slice a1 t.nH c1,.slice a2 t.nW c2,.slice a3 t.m c3] 25 (0,0))]:Pcs)++(X1_++(X20++(X19++[]))))) (fun h_ H_=>⟨0,X18,rfl,(y_of rfl),Nat.zero_le _,(o21.as (by rw [yzk])),H_⟩) ?_
      intro m_ tm_ IH26
      refine xij fun k=>xij fun X1_=>xdz fun hm_=>xdz fun ht_=>xdz fun hk=>xdz fun o1_=>?_
      subst hm_;obtain ⟨y25,ht_⟩:=ht_;subst ht_
      refine xej <| fsr <| ro (xaq (v:=.int .i64 (((k:Nat):Int))) rfl) <| rt (xaz xmz rfl (a':=⟨b24,0,none⟩) rfl) (tm':=zq1 (zq2 (zq4 (zq32 (zq32 (zq32 (zq32 []))))))) rfl <| rd (fun h_ H_=>xaj H_ tA22 rfl (i:=0) rfl (v:=w15) rfl) <| ro (xuz o1_ ((xck _).trans xxx) Tryd.underlying22 rfl) ?_
      refine rt (xgw rfl rfl) (tm':=zq1 (zq2 (zq4 (zq32 (zq32 (zq32 (zq32 []))))))) rfl <| xak ?_
      by_cases cc27:((k:Nat):Int)<((t.nH:Nat):Int)
      ·
       refine xdk rfl (dtt cc27) <| xdq <| xej <| xek <| fsr <| ro (xaq (v:=.slice b m cb) rfl) ?_
       refine ro (xaq (v:=.int .i64 (((k:Nat):Int))) rfl) ?_
       refine xcx mn (first:=[]) (cap:=[]) rfl rfl fC35 (fun h_ H_=>c35 .lone _ _ H_.pe _ _ _ _ (D.mono le10) (by omega) (((k:Nat):Int))) (tm':=zq1 (zq2 (zq4 (zq32 (zq32 (zq32 (zq32 []))))))) rfl ?_
       refine ro (xgz rfl) <| xak ?_
       by_cases cc28:((k:Nat):Int)∈d
       ·
        refine xcv rfl (xev (dtt cc28)) <| xdq <| xeq <| xbq <| ro (xaq (v:=.int .i64 (((k:Nat):Int))) rfl) ?_
        refine rt (xfx rfl rfl (n:=((k+1:Nat):Int)) (wr (by omega))) (tm':=zq1 (zq2 (zq4 (zq32 (zq32 (zq32 (zq32 []))))))) rfl ?_
        refine ro (xax (v:=.int .i64 (((k+1:Nat):Int))) rfl) <| xak ?_
        exact fun h_ H_=>IH26 _ _ (by omega) h_ ⟨k+1,X1_,rfl,(y_of rfl),(by omega),(o1_.as (congrArg ics (zuj (by assumption)).symm)),H_⟩
       ·
        refine xdk rfl (xgv (dff cc28)) <| xbq <| ro (xaz xmz rfl (a':=⟨b24,0,none⟩) rfl) ?_
        refine xaw mn (fun h_ H_=>xaj H_ tA22 rfl (i:=0) rfl (v:=w15) rfl) (tm':=zq1 (zq2 (zq4 (zq32 (zq32 (zq32 (zq32 []))))))) rfl ?_
        refine ro (xaq (v:=.int .i64 (((k:Nat):Int))) rfl) ?_
        refine ro (xhz o1_ Tryd.underlying22 tS3 rfl rfl (by rw [((xck _).trans xxx)];first | omega | (simp only [List.length_set];omega))) ?_
        refine xsz (A:=([(b24,.cells #[w15,w16,w17] 25 (0,0)),(b1,.cells #[.slice a1 t.nH c1,.slice a2 t.nW c2,.slice a3 t.m c3] 25 (0,0))]:Pcs)) (i:=k) (j:=0) (e:=[.int .i64 ((zeroK t d k).getD k 0)]) (u:=.int .i64 0) o1_ mn tS3 rfl rfl rfl ⟨rfl,rfl⟩ (xpj (by rw [xxx];omega)) (Nat.succ_le_iff.1 (Nat.le_of_ble_eq_true rfl)) fun X29 o30=>?_
        refine xak <| xeq <| xbq <| rt (xaq (v:=.int .i64 (((k:Nat):Int))) rfl) (tm':=zq1 (zq2 (zq4 (zq32 (zq32 (zq32 (zq32 []))))))) rfl ?_
        refine ro (xfx rfl rfl (n:=((k+1:Nat):Int)) (wr (by omega))) ?_
        refine ro (xax (v:=.int .i64 (((k+1:Nat):Int))) rfl) <| xak ?_
        exact fun h_ H_=>IH26 _ _ (by omega) h_ ⟨k+1,X29,rfl,(y_of rfl),(by omega),(o30.as ((xwj).trans (congrArg ics (zhw (by assumption))))),H_⟩
      ·
       refine xcv rfl (dff cc27) <| xiq rfl <| xej ?_
       have kE_:k=t.nH:=by omega
       have oE_:=o1_.as (congrArg ics ((congrArg (zeroK t d) kE_).trans ziq))
       refine xjj (A:=([(b24,.cells #[w15,w16,w17] 25 (0,0)),(b1,.cells #[.slice a1 t.nH c1,.slice a2 t.nW c2,.slice a3 t.m c3] 25 (0,0))]:Pcs)) oE_ ((xck _).trans rfl) fun p31 a32 cp33 le34 ev_ D35=>?_
       subst ev_
       refine xgj (List.Perm.append_left _ (List.perm_append_comm_assoc _ _ _)) ?_
       refine xkv (L':=([(b24,.cells #[.slice a32 ((only t (setL d)).nH) cp33,w16,w17] 25 (0,0)),(b1,.cells #[.slice a1 t.nH c1,.slice a2 t.nW c2,.slice a3 t.m c3] 25 (0,0))]:Pcs)++(X19++(X20++[]))) rfl ?_
       refine xjj (A:=([(b24,.cells #[.slice a32 ((only t (setL d)).nH) cp33,w16,w17] 25 (0,0)),(b1,.cells #[.slice a1 t.nH c1,.slice a2 t.nW c2,.slice a3 t.m c3] 25 (0,0))]:Pcs)) o22 ((xck _).trans rfl) fun p36 a37 cp38 le39 ev_ D40=>?_
       subst ev_
       refine xjj (A:=([(b24,.cells #[.slice a32 ((only t (setL d)).nH) cp33,.slice a37 t.nW cp38,w17] 25 (0,0)),(b1,.cells #[.slice a1 t.nH c1,.slice a2 t.nW c2,.slice a3 t.m c3] 25 (0,0))]:Pcs)) o23 (wcs_size _) fun p41 a42 cp43 le44 ev_ D45=>?_
       subst ev_
       refine xkv (L':=[(b24,.cells #[.slice a32 ((only t (setL d)).nH) cp33,.slice a37 t.nW cp38,.slice a42 t.m cp43] 25 (0,0)),(b1,.cells #[.slice a1 t.nH c1,.slice a2 t.nW c2,.slice a3 t.m c3] 25 (0,0))]) rfl ?_
       refine xbq ?_
       refine xaw mn (fun h_ H_=>xav H_ tA25 tS25 rfl (i:=0) rfl (vs:=[.slice a32 ((only t (setL d)).nH) cp33,.slice a37 t.nW cp38,.slice a42 t.m cp43]) rfl rfl) (tm':=zq1 (zq2 (zq4 (zq32 (zq32 (zq32 (zq32 []))))))) rfl ?_
       refine xcx mn (first:=[]) (cap:=[]) rfl rfl fC36 (fun h_ H_=>zcj .lone H_.pe (show TownP _ _ _ _ _ _ _ (only t (setL d)) from ⟨(((show Ints _ _ _ ((only t (setL d)).hs) from D35).mono le39).mono le44),((show Ints _ _ _ t.ws from D40).mono le44),(show Wys _ _ _ t.wy from D45)⟩) (by omega) ((((N.mono le10).mono le34).mono le39).mono le44) sE_.1) rfl ?_
       refine ro (xaq (v:=.tuple #[.int .i64 (worstV (only t (setL d))),.int .i64 0]) rfl) <| rt (xdx rfl (v:=.int .i64 (worstV (only t (setL d)))) rfl) (tm':=zq1 (zq2 (zq4 (zq32 (zq32 (zq32 (zq32 []))))))) rfl <| ro (xdx rfl (v:=.int .i64 0) rfl) <| ro (xax (v:=.int .i64 (worstV (only t (setL d)))) rfl) <| rt (xax (v:=.int .i64 0) rfl) (tm':=zq1 (zq4 (zq8 _))) rfl <| ren ?_
       refine xbq <| ro (xaq (v:=.int .i64 0) rfl) <| ro (xjx rfl rfl) <| rt (xaq (v:=.bool (decide ((0:Int)=0))) rfl) (tm':=zq1 (zq2 (zq4 (zq32 (zq32 (zq32 (zq32 []))))))) rfl ?_
       refine xaw (ms rfl rfl (decide_eq_true (by decide))) (fun h_ H_=>xaq (v:=.int .i64 (worstV (only t (setL d)))) rfl) rfl ?_
       refine xaw (ms rfl rfl (decide_eq_true (by decide))) (fun h_ H_=>xjx rfl rfl) rfl ?_
       refine rt (xbj rfl (decide_eq_true (by decide)) (v:=.bool (decide (worstV (only t (setL d))=0))) rfl) (tm':=zq1 (zq2 (zq4 (zq32 (zq32 (zq32 (zq32 []))))))) rfl ?_
       refine ro (xaq (v:=.bool (decide (worstV (only t (setL d))=0))) rfl) ?_
       refine xcx (ms rfl rfl (decide_eq_true sE_.2)) (first:=[]) (cap:=[]) rfl rfl fC16 (fun h_ H_=>c16 .lone _ _ H_.pe ((((N.mono le10).mono le34).mono le39).mono le44) ((((Z.mono le10).mono le34).mono le39).mono le44)) rfl ?_
       refine rt (xbj rfl (decide_eq_true sE_.2) (v:=.bool (true)) rfl) (tm':=zq1 (zq2 (zq4 (zq32 (zq32 (zq32 (zq32 []))))))) rfl <| ro (xax (v:=.bool (true)) rfl) <| xak ?_
       refine xlk Tryd.func8 rfl (vs:=[.bool (true)]) (fun h_ H_=>⟨.bool (true),_,rfl,rfl,rfl⟩) (v:=.bool (true)) rfl ?_
       exact fun h_ H_=>⟨rfl,H_.kept⟩
    ·
     refine rp (mo rfl rfl (xgv (dff cc13))) <| xfq (mo rfl rfl (xgv (dff cc13))) (tm':=zq8 (zq16 (zq32 (zq32 _)))) rfl <| rp (mo rfl rfl (xgv (dff cc13))) <| rp (xex rfl rfl) <| xfq (xex rfl rfl) (tm':=zq1 (zq2 (zq4 (zq32 (zq32 (zq32 (zq32 []))))))) rfl <| rp (xex rfl rfl) ?_
     refine rp (xex rfl rfl) <| xfq (xex rfl rfl) (tm':=zq1 (zq2 (zq4 (zq32 (zq32 (zq32 (zq32 []))))))) rfl <| rp (mo rfl rfl (xgv (dff cc13))) <| ro (xbj rfl (xgv (dff cc13)) (v:=.bool (true)) rfl) <| xak <| xdk rfl rfl ?_
     refine fsr ?_
     refine xcx mn (first:=[]) (cap:=[]) rfl rfl fC16 (fun h_ H_=>c16 .lone _ _ H_.pe (N.mono le10) (Z.mono le10)) (tm':=zq1 (zq2 (zq4 (zq32 (zq32 (zq32 (zq32 []))))))) rfl ?_
     refine ro (xax (v:=.bool (true)) rfl) <| xak ?_
     refine xlk Tryd.func8 rfl (vs:=[.bool (true)]) (fun h_ H_=>⟨.bool (true),_,rfl,rfl,rfl⟩) (v:=.bool (true)) rfl ?_
     exact fun h_ H_=>⟨rfl,H_.kept⟩
   ·
    refine xfw 21 [[],[0],[0,1],[0,1],[0,1,3],[0,1,3,4],[0,1,3,4,5],[],[0,1,3,4,5],[0,1,3,4,5,8],[0,1,3,4,5,8,9],[0,1,3,4,5,8,9,10],[0,1,3,4,5,7,8,9,10,11],[0,1,3,4,5,7,8,9,10,11],[0,1,3,4,5,6,7,8,9,10,11,13],[0,1,2,3,4,5,6,7,8,9,10,11,12,13,14],[],[],[16,17],[],[0,1,2,3,4,5,6,7,8,9,10,11,12,13,14],[0,1,2,3,4,5,6,7,8,9,10,11,12,13,14,16,17,19,20],[0,1,3,4,5,6,7,8,9,10,11,12,13,14,16,17,18,19,20,21],[0,1,3,4,5,6,7,8,9,10,11,12,13,14,15,16,17,18,19,20,21,22],[]] xlq (by kernel_rfl) (Nat.le_of_ble_eq_true rfl) ?_
    refine wo (xaq (v:=.int .i64 (shortE t)) rfl) <| wt (xjx rfl rfl) (tm':=zq16 (zq32 _)) rfl <| wo (xaq (v:=.bool (decide (shortE t=0))) rfl) ?_
    refine xdv (mo rfl rfl (decide_eq_false (by omega))) (tm':=zq2 (zq16 (zq32 _))) rfl ?_
    refine wp (mo rfl rfl (decide_eq_false (by omega))) ?_
    refine xdv (mo rfl rfl (decide_eq_false (by omega))) (tm':=zq4 (zq16 (zq32 _))) rfl ?_
    refine wp (mo rfl rfl (decide_eq_false (by omega))) ?_
    refine xdv (xex rfl rfl) (tm':=zq2 (zq4 (zq16 (zq32 _)))) rfl <| wp (xex rfl rfl) <| xdv (xex rfl rfl) (tm':=zq8 (zq16 (zq32 _))) rfl <| wp (xex rfl rfl) <| xdv (xex rfl rfl) (tm':=zq2 (zq8 (zq16 (zq32 _)))) rfl <| wp (xex rfl rfl) ?_
    refine xdv (xex rfl rfl) (tm':=zq4 (zq8 (zq16 (zq32 _)))) rfl ?_
    refine wp (mo rfl rfl (decide_eq_false (by omega))) ?_
    refine xdv (mo rfl rfl (decide_eq_false (by omega))) (tm':=zq2 (zq4 (zq8 (zq16 (zq32 _))))) rfl ?_
    refine wp (xex rfl rfl) <| xdv (xex rfl rfl) (tm':=zq32 (zq32 _)) rfl <| wp (xex rfl rfl) <| xdv (xex rfl rfl) (tm':=zq2 (zq32 (zq32 _))) rfl <| wp (xex rfl rfl) ?_
    refine xiz rfl ?_
    refine rp (xex rfl rfl) <| xfq (xex rfl rfl) (tm':=zq1 (zq4 (zq32 (zq32 _)))) rfl ?_
    refine rp (mo rfl rfl (decide_eq_false (by omega))) ?_
    refine ro (xcq rfl (decide_eq_false (by omega)) (v:=.bool (false)) rfl) ?_
    refine xak <| xcv rfl rfl <| xdq <| xej <| fsr <| rt (xaq (v:=.int .i64 (shortE t)) rfl) (tm':=zq8 (zq32 (zq32 _))) rfl ?_
    refine ro (xhw rfl rfl) <| ro (xaq (v:=.bool (decide (shortE t≠0))) rfl) ?_
    refine xaw (ms rfl rfl (decide_eq_true (by omega))) (fun h_ H_=>xaq (v:=.slice a8 ((shortP t).length) cp9) rfl) (tm':=zq1 (zq2 (zq8 (zq32 (zq32 _))))) rfl ?_
    refine xaw (ms rfl rfl (decide_eq_true (by omega))) (fun h_ H_=>xfk Tryd.underlying22 rfl) rfl ?_
    refine xaw (ms rfl rfl (decide_eq_true (by omega))) (fun h_ H_=>xix rfl rfl) rfl ?_
    refine rt (xbj rfl (decide_eq_true (by omega)) (v:=.bool (decide (0<(((shortP t).length:Nat):Int)))) rfl) (tm':=zq2 (zq4 (zq8 (zq32 (zq32 _))))) rfl ?_
    refine xak ?_
    refine xcv rfl (decide_eq_false (by rw [sF_.n (by omega)];decide)) ?_
    refine xdq <| xej <| fsr <| ro (xaq (v:=.slice b m cb) rfl) <| ro (xaz xmz rfl (a':=⟨b1,0,none⟩) rfl) ?_
    refine xaw mn (fun h_ H_=>xaj H_ tA22 rfl (i:=0) rfl (v:=.slice a1 t.nH c1) rfl) (tm':=zq1 (zq16 (zq32 (zq32 _)))) rfl ?_
    refine ro (xfk Tryd.underlying22 rfl) ?_
    refine ro (xkw rfl rfl (wr (by omega))) ?_
    refine xcx mn (first:=[]) (cap:=[]) rfl rfl fC38 (fun h_ H_=>c38 .lone _ _ H_.pe _ _ _ _ (D.mono le10) (by omega) (0) (((t.nH:Nat):Int)-1)) (tm':=zq4 (zq16 (zq32 (zq32 _)))) rfl ?_
    refine ro (xgz rfl) <| ro (xaq (v:=.bool (!(decide (Rise d (0) (((t.nH:Nat):Int)-1))))) rfl) ?_
    by_cases cc46:Rise d (0) (((t.nH:Nat):Int)-1)
    ·
     have rH_:=cc46
     refine xaw (ms rfl rfl (xev (dtt cc46))) (fun h_ H_=>xaq (v:=.int .i64 (shortE t)) rfl) (tm':=zq1 (zq2 (zq4 (zq16 (zq32 (zq32 _)))))) rfl ?_
     refine xaw (ms rfl rfl (xev (dtt cc46))) (fun h_ H_=>xjx rfl rfl) rfl ?_
     refine xaw (ms rfl rfl (xev (dtt cc46))) (fun h_ H_=>xaq (v:=.bool (decide (shortE t=0))) rfl) rfl ?_
     refine xfq (mo rfl rfl (decide_eq_false (by omega))) (tm':=zq2 (zq8 (zq16 (zq32 (zq32 _))))) rfl ?_
     refine rp (mo rfl rfl (decide_eq_false (by omega))) ?_
     refine rp (mo rfl rfl (decide_eq_false (by omega))) ?_
     refine xfq (mo rfl rfl (decide_eq_false (by omega))) (tm':=zq1 (zq2 (zq4 (zq32 (zq32 (zq32 (zq32 []))))))) rfl ?_
     refine rp (mo rfl rfl (decide_eq_false (by omega))) ?_
     refine xaw (ms rfl rfl (xev (dtt cc46))) (fun h_ H_=>xcq rfl (decide_eq_false (by omega)) (v:=.bool (false)) rfl) rfl ?_
     refine rt (xcq rfl (xev (dtt cc46)) (v:=.bool (false)) rfl) (tm':=zq1 (zq2 (zq4 (zq32 (zq32 (zq32 (zq32 []))))))) rfl <| xak <| xcv rfl rfl <| xdq <| xej <| xej ?_
     have lt_:shortE t=0→d.length<(shortP t).length:=fun z_=>by have z2_:=D.len;omega
     have sE_:=wjj hV h12 hO sF_ rH_ lt_
     have sD_:=wjk hO sF_ rH_ lt_
     have ho_:(only t (setL d)).nH≤40∧(only t (setL d)).nW≤40∧(only t (setL d)).m≤41:=⟨by rw [ybz];omega,hn.2.1,hn.2.2⟩
     refine xfw 5 [[],[],[0,1],[],[],[0,1,3,4],[]] xlq (by kernel_rfl) (Nat.le_of_ble_eq_true rfl) ?_
     refine wd (fun h_ H_=>xav H_ tA25 tS25 rfl (i:=0) rfl (vs:=[.slice a1 t.nH c1,.slice a2 t.nW c2,.slice a3 t.m c3]) rfl rfl) <| wt (xaq (v:=.slice b m cb) rfl) (tm':=zq1 (zq2 (zq4 (zq32 (zq32 (zq32 (zq32 []))))))) rfl ?_
     refine xik mn (first:=[]) (cap:=[]) rfl rfl fC39 (fun h_ H_=>(c39 .lone _ _ H_.pe _ _ _ _ _ _ t (show TownP _ _ _ _ _ _ _ t from ⟨(T.h.mono le10),(T.w.mono le10),(T.y.mono le10)⟩) (by omega) _ _ _ _ (D.mono le10) (by omega) hO (zrx rH_ (D.mono le10).len)).mono fun v_ h2_ ⟨e_,k_⟩=>⟨e_,H_.call k_⟩) rfl ?_
     refine xbz mn (fun h_ H_=>xav H_ tA25 tS25 rfl (i:=0) rfl (vs:=[.slice a1 t.nH c1,.slice a2 t.nW c2,.slice a3 t.m c3]) rfl rfl) (tm':=zq1 (zq2 (zq4 (zq32 (zq32 (zq32 (zq32 []))))))) rfl ?_
     refine wo (xaq (v:=.slice b m cb) rfl) ?_
     refine xiz rfl ?_
     refine xcx mn (first:=[]) (cap:=[]) rfl rfl fC40 (fun h_ H_=>c40 .lone _ _ H_.pe _ _ _ _ _ _ t (show TownP _ _ _ _ _ _ _ t from ⟨(T.h.mono le10),(T.w.mono le10),(T.y.mono le10)⟩) (by omega) _ _ _ _ (D.mono le10) (by omega) hO) (tm':=zq1 (zq2 (zq4 (zq32 (zq32 (zq32 (zq32 []))))))) rfl ?_
     refine ro (xix rfl rfl) <| xak ?_
     refine xcv rfl (decide_eq_false (by omega)) ?_
     refine xdq <| fsr <| rd (fun h_ H_=>xav H_ tA25 tS25 rfl (i:=0) rfl (vs:=[.slice a1 t.nH c1,.slice a2 t.nW c2,.slice a3 t.m c3]) rfl rfl) ?_
     refine xcj (L':=([(b1,.cells #[.slice a1 t.nH c1,.slice a2 t.nW c2,.slice a3 t.m c3] 25 (0,0))]:Pcs)++[]) rfl ?_
     refine xjq mn (first:=[]) (cap:=[]) rfl rfl fC17 (R:=fun v_ h_=>∃ w47:Value,∃ w48:Value,∃ w49:Value,∃ X50:Pcs,∃ X51:Pcs,∃ X52:Pcs,v_= .agg #[w47,w48,w49]∧(OwnS 3 1 w47 (ics t.hs) X50)∧(OwnS 3 1 w48 (ics t.ws) X51)∧(OwnS 43 2 w49 (wcs t.wy) X52)∧St h [] p7 h_ (([(b1,.cells #[.slice a1 t.nH c1,.slice a2 t.nW c2,.slice a3 t.m c3] 25 (0,0))]:Pcs)++((X52++(X50++(X51++[])))++[]))) (fun h_ H_=>(c17 .lone _ _ H_.pe _ _ _ _ _ _ t (show TownP _ _ _ _ _ _ _ t from ⟨(T.h.mono le10),(T.w.mono le10),(T.y.mono le10)⟩) (by omega)).mono fun v_ h2_ ⟨w47,w48,w49,X50,X51,X52,e_,o53,o54,o55,N_⟩=>⟨w47,w48,w49,X50,X51,X52,e_,o53,o54,o55,H_.callNA N_⟩) fun v_=>?_
     refine xfv fun w47=>xfv fun w48=>xfv fun w49=>xfv fun X50=>xfv fun X51=>xfv fun X52=>xfz fun ev_=>xfz fun o53=>xfz fun o54=>xfz fun o55=>?_
     have ev_:=ev_.symm;subst ev_
     refine xcj (L':=([(b1,.cells #[.slice a1 t.nH c1,.slice a2 t.nW c2,.slice a3 t.m c3] 25 (0,0))]:Pcs)++(X52++(X50++(X51++[])))) (by simp) ?_
     refine xgx (tm':=zq1 (zq2 (zq4 (zq32 (zq32 (zq32 (zq32 []))))))) rfl ?_
     refine xkz mn tZ25 rfl fun b56=>xcj (L':=([(b56,.cells #[.slice none 0 0,.slice none 0 0,.slice none 0 0] 25 (0,0)),(b1,.cells #[.slice a1 t.nH c1,.slice a2 t.nW c2,.slice a3 t.m c3] 25 (0,0))]:Pcs)++(X52++(X50++(X51++[])))) rfl ?_
     refine xjk mn tS25 rfl (v:=.agg #[w47,w48,w49]) rfl (i:=0) rfl rfl (xfj o53.one.2 (xfj o54.one.2 (xfj o55.one.2 rfl))) (Nat.le_of_ble_eq_true rfl) (cs2:=[w47,w48,w49]) rfl (xcj (L':=([(b56,.cells #[w47,w48,w49] 25 (0,0)),(b1,.cells #[.slice a1 t.nH c1,.slice a2 t.nW c2,.slice a3 t.m c3] 25 (0,0))]:Pcs)++(X52++(X50++(X51++[])))) rfl ?_)
     refine ren <| xej ?_
     refine xgj (List.Perm.append_left _ (List.perm_append_comm_assoc _ _ _)) ?_
     refine xkv (L':=([(b56,.cells #[w47,w48,w49] 25 (0,0)),(b1,.cells #[.slice a1 t.nH c1,.slice a2 t.nW c2,.slice a3 t.m c3] 25 (0,0))]:Pcs)++(X50++(X52++(X51++[])))) rfl ?_
     refine xbq <| ro (xax (v:=.int .i64 0) rfl) <| xak <| xek ?_
     refine xiv (m₀:=t.nH-0) (fun m_ tm_ h_=>∃ (k:Nat) (X1_:Pcs),m_=t.nH-k∧(∃ y57:Nat→Value,tm_=(.agg #[.slice a1 t.nH c1,.slice a2 t.nW c2,.slice a3 t.m c3]::.slice b m cb::.pointer (some ⟨b1,0,none⟩)::undef::.bool (false)::.slice a8 ((shortP t).length) cp9::.int .i64 (shortE t)::.int .i64 (worstV t)::.int .i64 0::.pointer (some ⟨b56,0,none⟩)::.int .i64 (((k:Nat):Int))::undef::undef::.agg #[.slice a1 t.nH c1,.slice a2 t.nW c2,.slice a3 t.m c3]::.bool (readyB t)::.bool (!(readyB t))::.bool (!(readyB t))::.slice b m cb::.int .i64 (((m:Nat):Int))::.bool (decide (40<((m:Nat):Int)))::.bool (decide (40<((m:Nat):Int)))::undef::.tuple #[.slice a8 ((shortP t).length) cp9,.int .i64 (shortE t)]::.agg #[.slice a1 t.nH c1,.slice a2 t.nW c2,.slice a3 t.m c3]::.tuple #[.slice a8 ((shortP t).length) cp9,.int .i64 (shortE t)]::.slice a8 ((shortP t).length) cp9::.int .i64 (shortE t)::.tuple #[.int .i64 (worstV t),.int .i64 0]::.agg #[.slice a1 t.nH c1,.slice a2 t.nW c2,.slice a3 t.m c3]::.tuple #[.int .i64 (worstV t),.int .i64 0]::.int .i64 (worstV t)::.int .i64 0::.int .i64 (shortE t)::.bool (decide (shortE t=0∨shortE t=3))::.bool (!(decide (shortE t=0∨shortE t=3)))::.bool (!(decide (shortE t=0∨shortE t=3)))::.int .i64 0::.bool (decide ((0:Int)≠0))::.bool (decide ((0:Int)≠0))::.bool (decide ((0:Int)≠0))::.int .i64 (shortE t)::.bool (decide (shortE t=0))::.int .i64 (worstV t)::.bool (decide (0<worstV t))::.bool (!decide ((shortE t=0)↔(0<worstV t)))::.bool (!decide ((shortE t=0)↔(0<worstV t)))::.int .i64 (shortE t)::.bool (decide (shortE t=0))::.bool (decide (shortE t=0))::undef::zu4 (zu16 (.bool (false)::.int .i64 (shortE t)::.bool (decide (shortE t≠0))::.bool (decide (shortE t≠0))::.slice a8 ((shortP t).length) cp9::.int .i64 ((((shortP t).length:Nat):Int))::.bool (decide (0<(((shortP t).length:Nat):Int)))::.bool (decide (0<(((shortP t).length:Nat):Int)))::.slice b m cb::.pointer (some ⟨b1,0,none⟩)::.slice a1 t.nH c1::.int .i64 (((t.nH:Nat):Int))::.int .i64 (((t.nH:Nat):Int)-1)::.bool (decide (Rise d (0) (((t.nH:Nat):Int)-1)))::.bool (!(decide (Rise d (0) (((t.nH:Nat):Int)-1))))::.bool (!(decide (Rise d (0) (((t.nH:Nat):Int)-1))))::.int .i64 (shortE t)::.bool (decide (shortE t=0))::.bool (decide (shortE t=0))::undef::zu4 (.bool (false)::.bool (false)::undef::.agg #[.slice a1 t.nH c1,.slice a2 t.nW c2,.slice a3 t.m c3]::.slice b m cb::.int .i64 (wantL t d d.length)::.agg #[.slice a1 t.nH c1,.slice a2 t.nW c2,.slice a3 t.m c3]::.slice b m cb::.int .i64 (reachL t d t.nW)::.bool (decide (reachL t d t.nW<wantL t d d.length))::.agg #[.slice a1 t.nH c1,.slice a2 t.nW c2,.slice a3 t.m c3]::.agg #[w47,w48,w49]::(y57 106)::(y57 107)::(y57 108)::(y57 109)::(y57 110)::(y57 111)::(y57 112)::(y57 113)::(y57 114)::(y57 115)::(y57 116)::(y57 117)::(y57 118)::(y57 119)::(y57 120)::undef::undef::zu4 (zu8 []))))))∧(k≤t.nH)∧(OwnS 3 1 w47 (ics (zeroK t d k)) X1_)∧St h [] p7 h_ (([(b56,.cells #[w47,w48,w49] 25 (0,0)),(b1,.cells #[.slice a1 t.nH c1,.slice a2 t.nW c2,.slice a3 t.m c3] 25 (0,0))]:Pcs)++(X1_++(X52++(X51++[]))))) (fun h_ H_=>⟨0,X50,rfl,(y_of rfl),Nat.zero_le _,(o53.as (by rw [yzk])),H_⟩) ?_
     intro m_ tm_ IH58
     refine xij fun k=>xij fun X1_=>xdz fun hm_=>xdz fun ht_=>xdz fun hk=>xdz fun o1_=>?_
     subst hm_;obtain ⟨y57,ht_⟩:=ht_;subst ht_
     refine xej <| fsr <| rt (xaq (v:=.int .i64 (((k:Nat):Int))) rfl) (tm':=zq1 (zq2 (zq4 (zq32 (zq32 (zq32 (zq32 []))))))) rfl <| ro (xaz xmz rfl (a':=⟨b56,0,none⟩) rfl) <| rd (fun h_ H_=>xaj H_ tA22 rfl (i:=0) rfl (v:=w47) rfl) <| rt (xuz o1_ ((xck _).trans xxx) Tryd.underlying22 rfl) (tm':=zq1 (zq2 (zq4 (zq32 (zq32 (zq32 (zq32 []))))))) rfl ?_
     refine ro (xgw rfl rfl) <| xak ?_
     by_cases cc59:((k:Nat):Int)<((t.nH:Nat):Int)
     ·
      refine xdk rfl (dtt cc59) <| xdq <| xej <| xek <| fsr <| ro (xaq (v:=.slice b m cb) rfl) ?_
      refine rt (xaq (v:=.int .i64 (((k:Nat):Int))) rfl) (tm':=zq1 (zq2 (zq4 (zq32 (zq32 (zq32 (zq32 []))))))) rfl ?_
      refine xcx mn (first:=[]) (cap:=[]) rfl rfl fC35 (fun h_ H_=>c35 .lone _ _ H_.pe _ _ _ _ (D.mono le10) (by omega) (((k:Nat):Int))) rfl ?_
      refine ro (xgz rfl) <| xak ?_
      by_cases cc60:((k:Nat):Int)∈d
      ·
       refine xcv rfl (xev (dtt cc60)) <| xdq <| xeq <| xbq <| rt (xaq (v:=.int .i64 (((k:Nat):Int))) rfl) (tm':=zq1 (zq2 (zq4 (zq32 (zq32 (zq32 (zq32 []))))))) rfl ?_
       refine ro (xfx rfl rfl (n:=((k+1:Nat):Int)) (wr (by omega))) ?_
       refine ro (xax (v:=.int .i64 (((k+1:Nat):Int))) rfl) <| xak ?_
       exact fun h_ H_=>IH58 _ _ (by omega) h_ ⟨k+1,X1_,rfl,(y_of rfl),(by omega),(o1_.as (congrArg ics (zuj (by assumption)).symm)),H_⟩
      ·
       refine xdk rfl (xgv (dff cc60)) <| xbq <| rt (xaz xmz rfl (a':=⟨b56,0,none⟩) rfl) (tm':=zq1 (zq2 (zq4 (zq32 (zq32 (zq32 (zq32 []))))))) rfl <| rd (fun h_ H_=>xaj H_ tA22 rfl (i:=0) rfl (v:=w47) rfl) <| ro (xaq (v:=.int .i64 (((k:Nat):Int))) rfl) ?_
       refine rt (xhz o1_ Tryd.underlying22 tS3 rfl rfl (by rw [((xck _).trans xxx)];first | omega | (simp only [List.length_set];omega))) (tm':=zq1 (zq2 (zq4 (zq32 (zq32 (zq32 (zq32 []))))))) rfl ?_
       refine xsz (A:=([(b56,.cells #[w47,w48,w49] 25 (0,0)),(b1,.cells #[.slice a1 t.nH c1,.slice a2 t.nW c2,.slice a3 t.m c3] 25 (0,0))]:Pcs)) (i:=k) (j:=0) (e:=[.int .i64 ((zeroK t d k).getD k 0)]) (u:=.int .i64 0) o1_ mn tS3 rfl rfl rfl ⟨rfl,rfl⟩ (xpj (by rw [xxx];omega)) (Nat.succ_le_iff.1 (Nat.le_of_ble_eq_true rfl)) fun X61 o62=>?_
       refine xak <| xeq <| xbq <| ro (xaq (v:=.int .i64 (((k:Nat):Int))) rfl) ?_
       refine ro (xfx rfl rfl (n:=((k+1:Nat):Int)) (wr (by omega))) ?_
       refine rt (xax (v:=.int .i64 (((k+1:Nat):Int))) rfl) (tm':=zq1 (zq2 (zq8 _))) rfl <| xak ?_
       exact fun h_ H_=>IH58 _ _ (by omega) h_ ⟨k+1,X61,rfl,(y_of rfl),(by omega),(o62.as ((xwj).trans (congrArg ics (zhw (by assumption))))),H_⟩
     ·
      refine xcv rfl (dff cc59) <| xiq rfl <| xej ?_
      have kE_:k=t.nH:=by omega
      have oE_:=o1_.as (congrArg ics ((congrArg (zeroK t d) kE_).trans ziq))
      refine xjj (A:=([(b56,.cells #[w47,w48,w49] 25 (0,0)),(b1,.cells #[.slice a1 t.nH c1,.slice a2 t.nW c2,.slice a3 t.m c3] 25 (0,0))]:Pcs)) oE_ ((xck _).trans rfl) fun p63 a64 cp65 le66 ev_ D67=>?_
      subst ev_
      refine xgj (List.Perm.append_left _ (List.perm_append_comm_assoc _ _ _)) ?_
      refine xkv (L':=([(b56,.cells #[.slice a64 ((only t (setL d)).nH) cp65,w48,w49] 25 (0,0)),(b1,.cells #[.slice a1 t.nH c1,.slice a2 t.nW c2,.slice a3 t.m c3] 25 (0,0))]:Pcs)++(X51++(X52++[]))) rfl ?_
      refine xjj (A:=([(b56,.cells #[.slice a64 ((only t (setL d)).nH) cp65,w48,w49] 25 (0,0)),(b1,.cells #[.slice a1 t.nH c1,.slice a2 t.nW c2,.slice a3 t.m c3] 25 (0,0))]:Pcs)) o54 ((xck _).trans rfl) fun p68 a69 cp70 le71 ev_ D72=>?_
      subst ev_
      refine xjj (A:=([(b56,.cells #[.slice a64 ((only t (setL d)).nH) cp65,.slice a69 t.nW cp70,w49] 25 (0,0)),(b1,.cells #[.slice a1 t.nH c1,.slice a2 t.nW c2,.slice a3 t.m c3] 25 (0,0))]:Pcs)) o55 (wcs_size _) fun p73 a74 cp75 le76 ev_ D77=>?_
      subst ev_
      refine xkv (L':=[(b56,.cells #[.slice a64 ((only t (setL d)).nH) cp65,.slice a69 t.nW cp70,.slice a74 t.m cp75] 25 (0,0)),(b1,.cells #[.slice a1 t.nH c1,.slice a2 t.nW c2,.slice a3 t.m c3] 25 (0,0))]) rfl ?_
      refine xbq <| rd (fun h_ H_=>xav H_ tA25 tS25 rfl (i:=0) rfl (vs:=[.slice a64 ((only t (setL d)).nH) cp65,.slice a69 t.nW cp70,.slice a74 t.m cp75]) rfl rfl) ?_
      refine xcx mn (first:=[]) (cap:=[]) rfl rfl fC36 (fun h_ H_=>zcj .lone H_.pe (show TownP _ _ _ _ _ _ _ (only t (setL d)) from ⟨(((show Ints _ _ _ ((only t (setL d)).hs) from D67).mono le71).mono le76),((show Ints _ _ _ t.ws from D72).mono le76),(show Wys _ _ _ t.wy from D77)⟩) (by omega) ((((N.mono le10).mono le66).mono le71).mono le76) sE_.1) rfl ?_
      refine rt (xaq (v:=.tuple #[.int .i64 (worstV (only t (setL d))),.int .i64 0]) rfl) (tm':=zq1 (zq2 (zq4 (zq32 (zq32 (zq32 (zq32 []))))))) rfl <| ro (xdx rfl (v:=.int .i64 (worstV (only t (setL d)))) rfl) <| ro (xdx rfl (v:=.int .i64 0) rfl) <| rt (xax (v:=.int .i64 (worstV (only t (setL d)))) rfl) (tm':=zq4 (zq8 _)) rfl <| ro (xax (v:=.int .i64 0) rfl) <| ren ?_
      refine xbq <| ro (xaq (v:=.int .i64 0) rfl) <| rt (xjx rfl rfl) (tm':=zq1 (zq2 (zq4 (zq32 (zq32 (zq32 (zq32 []))))))) rfl <| ro (xaq (v:=.bool (decide ((0:Int)=0))) rfl) ?_
      refine xaw (ms rfl rfl (decide_eq_true (by decide))) (fun h_ H_=>xaq (v:=.int .i64 (worstV (only t (setL d)))) rfl) rfl ?_
      refine xaw (ms rfl rfl (decide_eq_true (by decide))) (fun h_ H_=>xjx rfl rfl) (tm':=zq1 (zq2 (zq4 (zq32 (zq32 (zq32 (zq32 []))))))) rfl ?_
      refine ro (xbj rfl (decide_eq_true (by decide)) (v:=.bool (decide (worstV (only t (setL d))=0))) rfl) ?_
      refine ro (xaq (v:=.bool (decide (worstV (only t (setL d))=0))) rfl) ?_
      refine xcx (ms rfl rfl (decide_eq_true sE_.2)) (first:=[]) (cap:=[]) rfl rfl fC16 (fun h_ H_=>c16 .lone _ _ H_.pe ((((N.mono le10).mono le66).mono le71).mono le76) ((((Z.mono le10).mono le66).mono le71).mono le76)) (tm':=zq1 (zq2 (zq4 (zq32 (zq32 (zq32 (zq32 []))))))) rfl ?_
      refine ro (xbj rfl (decide_eq_true sE_.2) (v:=.bool (true)) rfl) <| ro (xax (v:=.bool (true)) rfl) <| xak ?_
      refine xlk Tryd.func8 rfl (vs:=[.bool (true)]) (fun h_ H_=>⟨.bool (true),_,rfl,rfl,rfl⟩) (v:=.bool (true)) rfl ?_
      exact fun h_ H_=>⟨rfl,H_.kept⟩
    ·
     refine xfq (mo rfl rfl (xgv (dff cc46))) (tm':=zq1 (zq2 (zq4 (zq16 (zq32 (zq32 _)))))) rfl <| rp (mo rfl rfl (xgv (dff cc46))) <| rp (mo rfl rfl (xgv (dff cc46))) <| xfq (xex rfl rfl) (tm':=zq2 (zq8 (zq16 (zq32 (zq32 _))))) rfl <| rp (xex rfl rfl) <| rp (xex rfl rfl) ?_
     refine xfq (xex rfl rfl) (tm':=zq1 (zq2 (zq4 (zq32 (zq32 (zq32 (zq32 []))))))) rfl <| rp (xex rfl rfl) <| rp (mo rfl rfl (xgv (dff cc46))) <| rt (xbj rfl (xgv (dff cc46)) (v:=.bool (true)) rfl) (tm':=zq1 (zq2 (zq4 (zq32 (zq32 (zq32 (zq32 []))))))) rfl <| xak <| xdk rfl rfl ?_
     refine fsr ?_
     refine xcx mn (first:=[]) (cap:=[]) rfl rfl fC16 (fun h_ H_=>c16 .lone _ _ H_.pe (N.mono le10) (Z.mono le10)) rfl ?_
     refine ro (xax (v:=.bool (true)) rfl) <| xak ?_
     refine xlk Tryd.func8 rfl (vs:=[.bool (true)]) (fun h_ H_=>⟨.bool (true),_,rfl,rfl,rfl⟩) (v:=.bool (true)) rfl ?_
     exact fun h_ H_=>⟨rfl,H_.kept⟩
 ·
  refine xfq (mo rfl rfl (xgv cc2)) (tm':=zq2 (zq16 _)) rfl <| rp (mo rfl rfl (xgv cc2)) <| rp (mo rfl rfl (xgv cc2)) <| rt (xbj rfl (xgv cc2) (v:=.bool (true)) rfl) (tm':=zq1 (zq4 (zq16 _))) rfl <| xak <| xdk rfl rfl ?_
  refine fsr ?_
  refine xcx mn (first:=[]) (cap:=[]) rfl rfl fC16 (fun h_ H_=>c16 .lone _ _ H_.pe N Z) rfl ?_
  refine ro (xax (v:=.bool (true)) rfl) <| xak ?_
  refine xlk Tryd.func8 rfl (vs:=[.bool (true)]) (fun h_ H_=>⟨.bool (true),_,rfl,rfl,rfl⟩) (v:=.bool (true)) rfl ?_
  exact fun h_ H_=>⟨rfl,H_.kept⟩
end Go.Proofs.YtalfgojocdonhaaDoor
namespace Go.Proofs.YtalfgojocdonhaaDoor
open Go.X Go.X.Flow Go.Conc Go.RowKit Go.ChangeShapes Go.WideShapes Go.ChangeAt Go.Joins
set_option maxRecDepth 100000

theorem vhw (os:Os) (started:os.Started) (H:Type) (enc:TypeId × Value→H):
    ReturnsInHanded {} Tryd.checked os 8 .any (fun w args=>(Rows.bucketsShortSpec.pre enc Tryd.prog Tryd.f8 Rows.bucketsShortRow.domain false w args∧laidMetH Tryd.prog Rows.bucketsShortRow.laid w)∧sizedMet enc Tryd.prog Tryd.f8 (OpenSpec.ofChange Rows.bucketsShortSpec) false w args) (Rows.bucketsShortSpec.post enc Tryd.prog Tryd.f8 false true false false):=by
  refine returnsInHanded_of_change_and (C:=Tryd.checked) (X:=fun w _=>laidMetH Tryd.prog Rows.bucketsShortRow.laid w) (fun _ _ _ hh h=>h.of_heap hh) pOwn started (by kernel_rfl) Tryd.func8
    (ChangeSpec.witness_shaped (enc:=enc) (C:=Tryd.checked) (os:=os) (X:=fun w _=>laidMetH Tryd.prog Rows.bucketsShortRow.laid w) false (laidW os) #[.agg #[.slice none 0 0,.slice none 0 0,.slice none 0 0],.slice none 0 0] 8 (World.laidAll_os _ _ _)
      (World.shaped_of_ZipB (by kernel_rfl) (by kernel_rfl)) (by kernel_rfl) (by kernel_rfl) (by kernel_rfl) (ycv os _)) ?_
  intro W base args ds gs before hval0 hW _ _ hL _
  have hval: ∀ (j:Nat) t v,Tryd.f8.params[j]?=some t→args[j]?=some v→Value.okWide Tryd.prog W .any base t v:=hval0
  have hW2:=hW
  obtain ⟨p,q,hA0,hV,rfl,_,_⟩:=hW2
  have hA:DataW.TrodAll enc Tryd.prog W 0 (fun _=>true) true Tryd.f8.params.toList args.toList ds p:=hA0
  rw [Tryd.params8] at hA hval
  obtain ⟨v0,v1,d0,d1,p0,p1,rfl,rfl,_,h0,h1⟩:=trodAll_two hA
  obtain ⟨rfl,rfl⟩:=trodVars_none hV
  obtain ⟨a1,c1,a2,c2,a3,c3,t,rfl,hl,_,T⟩:=yaj (hval 0 25 v0 rfl rfl) h0
  obtain ⟨b,m,cb,d,rfl,hm,D⟩:=zmq (hval 1 22 v1 rfl rfl) h1
  refine (xrj (e8 W.heap (pW W) (zlw W) a1 a2 a3 c1 c2 c3 t T hl b m cb d D hm (xvv hL) (xxz hL))).mono fun e W2 ⟨v,he,⟨hv,hk_⟩,cl⟩=>⟨v,he,?_⟩
  subst hv
  exact ykq wmv rfl (fun t ht=>by rw [Tryd.params8] at ht;revert t;decide +kernel) rfl Tryd.underlying4 hW rfl (ymk hk_ cl)

theorem bucketsShortRowHolds:Rows.BucketsShortSaid:=
  OpenClaim.holds_of_wide 8 Tryd.f8 rfl rfl rfl rfl rfl rfl rfl ⟨rfl,rfl,rfl,rfl,rfl⟩ rfl rfl rfl rfl rfl (by kernel_rfl) Tryd.func8 (by kernel_rfl)
    (of_decide_eq_true (by kernel_rfl)) (by unfold Func.isWrapper;first | (rw [if_pos (by decide +kernel)];kernel_rfl) | (rw [if_neg (by decide +kernel)];exact ⟨rfl,rfl⟩))
    (fun os started H enc _=>vhw os started H enc)

theorem bucketsShortHolds:Rows.BucketsShortCardSaid:=
  Claim7.holds_tied_plain_at .later [] [.data, .data, .data] true (true, "5334d201df14a8cbe7ef60c793562a47fe331153d035b74b45b1c636860d1486") false bucketsShortRowHolds (fun _ h => by cases h) (by kernel_rfl) (fun _ h => by cases h) bucketsShort_row_tie rfl ⟨rfl, rfl⟩ (by kernel_rfl) rfl
    (fun f fn hf hfn=>by
      obtain rfl : f = 8 := Option.some.inj ((show Tryd.prog.funcNamed "steening/steeninglaw03.BucketsShort" = some 8 by kernel_rfl).symm.trans hf) |>.symm
      obtain rfl:fn= Tryd.f8:=(Option.some.inj (Tryd.func8.symm.trans hfn)).symm
      exact ⟨by kernel_rfl,fun j t ht=>by
        rw [Tryd.params8] at ht
        have hm:t∈[25,22]:=by simpa using Array.mem_of_getElem? ht
        have hall:([25,22].all fun u=>!Tryd.prog.wantsStandIn u)=true:=by kernel_rfl
        exact (show Tryd.prog.wantsStandIn t=false by simpa using List.all_eq_true.1 hall t hm)⟩)
    (by kernel_rfl)

#print axioms bucketsShortHolds
end Go.Proofs.YtalfgojocdonhaaDoor
