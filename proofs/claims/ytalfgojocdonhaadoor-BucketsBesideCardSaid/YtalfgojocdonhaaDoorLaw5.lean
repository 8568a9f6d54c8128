/-
  BucketsBeside, for every input: the law returns true and leaves its arguments as they were. The row, and the tied card.
-/
import Derived.Test.YtalfgojocdonhaaDoorD2
import Derived.Test.YtalfgojocdonhaaDoorD1
import Derived.Test.YtalfgojocdonhaaDoorD3
import Derived.Test.YtalfgojocdonhaaDoorD4
import Derived.Test.YtalfgojocdonhaaDoorD5
import Derived.Test.YtalfgojocdonhaaDoorCards
import Derived.Test.YtalfgojocdonhaaDoorTie
namespace Go.Proofs.YtalfgojocdonhaaDoor
open Go.X Go.X.Flow Go.Conc
set_option maxRecDepth 10000
set_option synthInstance.maxSize 2000

set_option maxHeartbeats 2000000
theorem e5 (h:Heap) (p:PHeap) (hp:Per p h) (a1 a2 a3:Option Addr) (c1 c2 c3:Nat) (t:Tn) (T:TownP p a1 t.nH a2 t.nW a3 t.m t) (hl:t.nH≤9223372036854775807∧t.nW≤9223372036854775807∧t.m≤9223372036854775807) (a1' a2' a3':Option Addr) (c1' c2' c3':Nat) (u:Tn) (T':TownP p a1' u.nH a2' u.nW a3' u.m u) (hl':u.nH≤9223372036854775807∧u.nW≤9223372036854775807∧u.m≤9223372036854775807) (N:NoneP p) (Z:TabP p):EntersL Tryd.prog 5 #[.agg #[.slice a1 t.nH c1,.slice a2 t.nW c2,.slice a3 t.m c3],.agg #[.slice a1' u.nH c1',.slice a2' u.nW c2',.slice a3' u.m c3']] h fun v h'=>v= .bool true∧Keep h h':=by
 refine yak (Φ:=fun h_=>St h [] p h_ []) Tryd.func5 rfl (tm:=zq1 (zq8 (zq32 (zq32 (zq32 (zq32 (zq32 []))))))) rfl ?_ (St.start h _ hp)
 intro cs
 refine fsr ?_
 refine xjx mn (v:=.agg #[.slice a1 t.nH c1,.slice a2 t.nW c2,.slice a3 t.m c3]) rfl fun b1=>xcq (L':=[(b1,.cells #[.slice a1 t.nH c1,.slice a2 t.nW c2,.slice a3 t.m c3] 25 (0,0))]) rfl ?_
 refine xjx mn (v:=.agg #[.slice a1' u.nH c1',.slice a2' u.nW c2',.slice a3' u.m c3']) rfl fun b2=>xcq (L':=[(b2,.cells #[.slice a1' u.nH c1',.slice a2' u.nW c2',.slice a3' u.m c3'] 25 (0,0)),(b1,.cells #[.slice a1 t.nH c1,.slice a2 t.nW c2,.slice a3 t.m c3] 25 (0,0))]) rfl ?_
 refine rt (xax (v:=.bool (false)) rfl) (tm':=zq1 (zq4 _)) rfl <| ren <| fsr <| rd (fun h_ H_=>xaw H_ tA25 tS25 rfl (i:=1) rfl (vs:=[.slice a1 t.nH c1,.slice a2 t.nW c2,.slice a3 t.m c3]) rfl rfl) ?_
 refine xdv mn (first:=[]) (cap:=[]) rfl rfl fC23 (fun h_ H_=>c23 .lone _ _ H_.pe _ _ _ _ _ _ t (show TownP _ _ _ _ _ _ _ t from ⟨T.h,T.w,T.y⟩) hl) rfl ?_
 refine rt (xgw rfl) (tm':=zq1 (zq2 (zq4 (zq16 _)))) rfl <| ro (xaq (v:=.bool (!(readyB t))) rfl) ?_
 rcases xzj (readyB t) with cc3 | cc3
 ·
  obtain ⟨hf_,hc_⟩:=yhk cc3
  have hn:t.nH≤40∧t.nW≤40∧t.m≤41:=by have z_:=ymx hf_;unfold Big at z_;omega
  have hO:OkT t:=xuq hc_
  obtain ⟨h12,hV⟩:=yrx hc_
  have oH:=hO.nh
  have aB_:=znv hO
  refine xbq (ms rfl rfl (xej cc3)) (fun h_ H_=>xaw H_ tA25 tS25 rfl (i:=0) rfl (vs:=[.slice a1' u.nH c1',.slice a2' u.nW c2',.slice a3' u.m c3']) rfl rfl) rfl ?_
  refine xdv (ms rfl rfl (xej cc3)) (first:=[]) (cap:=[]) rfl rfl fC23 (fun h_ H_=>c23 .lone _ _ H_.pe _ _ _ _ _ _ u (show TownP _ _ _ _ _ _ _ u from ⟨T'.h,T'.w,T'.y⟩) hl') (tm':=zq2 (zq8 (zq16 _))) rfl ?_
  refine xbq (ms rfl rfl (xej cc3)) (fun h_ H_=>xgw rfl) rfl ?_
  refine ro (xck rfl (xej cc3) (v:=.bool (!(readyB u))) rfl) <| xav ?_
  rcases xzj (readyB u) with cc4 | cc4
  ·
   obtain ⟨hfu_,hcu_⟩:=yhk cc4
   have hnu:u.nH≤40∧u.nW≤40∧u.m≤41:=by have z_:=ymx hfu_;unfold Big at z_;omega
   have hOu:OkT u:=xuq hcu_
   obtain ⟨h12u,hVu⟩:=yrx hcu_
   have oHu:=hOu.nh
   have aBu_:=znv hOu
   have lh_:t.hs.length≤40:=hn.1
   have lw_:t.ws.length≤40:=hn.2.1
   have lhu_:u.hs.length≤40:=hnu.1
   have lwu_:u.ws.length≤40:=hnu.2.1
   refine xdx rfl (xej cc4) <| xdk <| fsr ?_
   refine xbq mn (fun h_ H_=>xaw H_ tA25 tS25 rfl (i:=1) rfl (vs:=[.slice a1 t.nH c1,.slice a2 t.nW c2,.slice a3 t.m c3]) rfl rfl) (tm':=zq2 (zq4 (zq8 (zq16 _)))) rfl ?_
   refine xcq (L':=([(b2,.cells #[.slice a1' u.nH c1',.slice a2' u.nW c2',.slice a3' u.m c3'] 25 (0,0)),(b1,.cells #[.slice a1 t.nH c1,.slice a2 t.nW c2,.slice a3 t.m c3] 25 (0,0))]:Pcs)++[]) rfl ?_
   refine xjj mn (first:=[]) (cap:=[]) rfl rfl fC17 (R:=fun v_ h_=>∃ w5:Value,∃ w6:Value,∃ w7:Value,∃ X8:Pcs,∃ X9:Pcs,∃ X10:Pcs,v_= .agg #[w5,w6,w7]∧(OwnS 3 1 w5 (ics t.hs) X8)∧(OwnS 3 1 w6 (ics t.ws) X9)∧(OwnS 43 2 w7 (wcs t.wy) X10)∧St h [] p h_ (([(b2,.cells #[.slice a1' u.nH c1',.slice a2' u.nW c2',.slice a3' u.m c3'] 25 (0,0)),(b1,.cells #[.slice a1 t.nH c1,.slice a2 t.nW c2,.slice a3 t.m c3] 25 (0,0))]:Pcs)++((X10++(X8++(X9++[])))++[]))) (fun h_ H_=>(c17 .lone _ _ H_.pe _ _ _ _ _ _ t (show TownP _ _ _ _ _ _ _ t from ⟨T.h,T.w,T.y⟩) (by omega)).mono fun v_ h2_ ⟨w5,w6,w7,X8,X9,X10,e_,o11,o12,o13,N_⟩=>⟨w5,w6,w7,X8,X9,X10,e_,o11,o12,o13,H_.callNA N_⟩) fun v_=>?_
   refine xgz fun w5=>xgz fun w6=>xgz fun w7=>xgz fun X8=>xgz fun X9=>xgz fun X10=>xfx fun ev_=>xfx fun o11=>xfx fun o12=>xfx fun o13=>?_
   have ev_:=ev_.symm;subst ev_
   refine xcq (L':=([(b2,.cells #[.slice a1' u.nH c1',.slice a2' u.nW c2',.slice a3' u.m c3'] 25 (0,0)),(b1,.cells #[.slice a1 t.nH c1,.slice a2 t.nW c2,.slice a3 t.m c3] 25 (0,0))]:Pcs)++(X10++(X8++(X9++[])))) (by simp) ?_
   refine xkx mn tZ25 rfl fun b14=>xcq (L':=([(b14,.cells #[.slice none 0 0,.slice none 0 0,.slice none 0 0] 25 (0,0)),(b2,.cells #[.slice a1' u.nH c1',.slice a2' u.nW c2',.slice a3' u.m c3'] 25 (0,0)),(b1,.cells #[.slice a1 t.nH c1,.slice a2 t.nW c2,.slice a3 t.m c3] 25 (0,0))]:Pcs)++(X10++(X8++(X9++[])))) rfl ?_
   refine xiq mn tS25 rfl (v:=.agg #[w5,w6,w7]) rfl (i:=0) rfl rfl (xew o11.one.2 (xew o12.one.2 (xew o13.one.2 rfl))) (Nat.le_of_ble_eq_true rfl) (cs2:=[w5,w6,w7]) rfl (xcq (L':=([(b14,.cells #[w5,w6,w7] 25 (0,0)),(b2,.cells #[.slice a1' u.nH c1',.slice a2' u.nW c2',.slice a3' u.m c3'] 25 (0,0)),(b1,.cells #[.slice a1 t.nH c1,.slice a2 t.nW c2,.slice a3 t.m c3] 25 (0,0))]:Pcs)++(X10++(X8++(X9++[])))) rfl ?_)
   refine ren ?_
   refine xyx (xlz (C:=[]) (A:=([(b14,.cells #[w5,w6,w7] 25 (0,0)),(b2,.cells #[.slice a1' u.nH c1',.slice a2' u.nW c2',.slice a3' u.m c3'] 25 (0,0)),(b1,.cells #[.slice a1 t.nH c1,.slice a2 t.nW c2,.slice a3 t.m c3] 25 (0,0))]:Pcs)) 11 [[],[],[],[],[],[],[],[],[7],[7,8],[],[],[],[]] [11,12,13] [11,4,9] [0,1,2,3,5,6,7,8,10] (fun i_=>match i_ with | 11=>X10 | 12=>X8 | 13=>X9 | _=>[]) (fun i_=>match i_ with | 4=>[12] | 9=>[13] | _=>[]) (fun i_=>match i_ with | 0=>[] | 1=>[0] | 2=>[] | 3=>[2] | 4=>[1,3] | 5=>[] | 6=>[5] | 7=>[] | 8=>[7] | 9=>[4,6,8] | 10=>[0,1,2,3,4,5,6] | _=>[]) (fun i_ val_ pc_ v_ x_=>match i_ with | 0=>v_= .pointer (some ⟨b14,0,none⟩)∧x_=[] | 1=>v_=w5∧x_=[] | 2=>v_= .pointer (some ⟨b2,0,none⟩)∧x_=[] | 3=>v_= .slice a1' u.nH c1'∧x_=[] | 4=>OwnS 3 1 v_ (ics t.hs++(u.hs.map fun x=>[Value.int .i64 x])) x_ | 5=>v_= .pointer (some ⟨b14,1,none⟩)∧x_=[] | 6=>v_=w6∧x_=[] | 7=>v_= .pointer (some ⟨b2,1,none⟩)∧x_=[] | 8=>v_= .slice a2' u.nW c2'∧x_=[] | 9=>OwnS 3 1 v_ (ics t.ws++(u.ws.map fun x=>[Value.int .i64 x])) x_ | 10=>v_= .pointer (some ⟨b14,0,none⟩)∧x_=[] | _=>True) (fun val15=>(.agg #[.slice a1 t.nH c1,.slice a2 t.nW c2,.slice a3 t.m c3]::.agg #[.slice a1' u.nH c1',.slice a2' u.nW c2',.slice a3' u.m c3']::.pointer (some ⟨b1,0,none⟩)::.pointer (some ⟨b2,0,none⟩)::.bool (false)::.pointer (some ⟨b14,0,none⟩)::undef::undef::zu4 (zu8 (.agg #[.slice a1 t.nH c1,.slice a2 t.nW c2,.slice a3 t.m c3]::.bool (readyB t)::.bool (!(readyB t))::.bool (!(readyB t))::.agg #[.slice a1' u.nH c1',.slice a2' u.nW c2',.slice a3' u.m c3']::.bool (readyB u)::.bool (!(readyB u))::.bool (!(readyB u))::undef::.agg #[.slice a1 t.nH c1,.slice a2 t.nW c2,.slice a3 t.m c3]::.agg #[w5,w6,w7]::(val15 0)::(val15 1)::(val15 2)::(val15 3)::(val15 4)::(val15 5)::(val15 6)::(val15 7)::(val15 8)::(val15 9)::(val15 10)::undef::undef::undef::zu4 (zu8 (zu16 (zu16 (zu16 (zu16 (zu16 (zu16 (zu16 [])))))))))))) xkv (by kernel_rfl) (Nat.le_of_ble_eq_true rfl) (by kernel_rfl) (by kernel_rfl) (by kernel_rfl) (fun _ _=>⟨fun _ _ h=>h.2,⟨fun _ _ h=>h.2,⟨fun _ _ h=>h.2,⟨fun _ _ h=>h.2,⟨fun _ _ h=>h.2,⟨fun _ _ h=>h.2,⟨fun _ _ h=>h.2,⟨fun _ _ h=>h.2,⟨fun _ _ h=>h.2,trivial⟩⟩⟩⟩⟩⟩⟩⟩⟩) (fun _=>by kernel_rfl) (by kernel_rfl) ?_ ?_) (fun h_ H_=>St.swap (A:=([(b14,.cells #[w5,w6,w7] 25 (0,0)),(b2,.cells #[.slice a1' u.nH c1',.slice a2' u.nW c2',.slice a3' u.m c3'] 25 (0,0)),(b1,.cells #[.slice a1 t.nH c1,.slice a2 t.nW c2,.slice a3 t.m c3] 25 (0,0))]:Pcs)) (U:=(X10++(X8++(X9++[])))) H_)
   ·
    refine xak rfl (xcj ?_) ?_
    ·
     intro val15 pc16 hQ_ hX_
     obtain ⟨q_,hq0_⟩: ∃ q_:Value→Pcs→Prop,q_=(fun v_ x_=>v_= .pointer (some ⟨b14,0,none⟩)∧x_=[]):=⟨_,rfl⟩
     refine ⟨(zq1 (zq8 (zq32 (zq32 (zq32 (zq32 (zq32 []))))))),[],q_,rfl,rfl,(fun _ _ z_=>by subst hq0_;exact z_),?_⟩
     subst hq0_
     exact xcz mn (fun _ h_ H_=>xaz xlw rfl (a':=⟨b14,0,none⟩) rfl) ⟨rfl,rfl⟩
    refine xak rfl (xcj ?_) ?_
    ·
     intro val15 pc16 hQ_ hX_
     have e0_:val15 0= .pointer (some ⟨b14,0,none⟩):=(hQ_ 0 rfl).1
     obtain ⟨q_,hq0_⟩: ∃ q_:Value→Pcs→Prop,q_=(fun v_ x_=>v_=w5∧x_=[]):=⟨_,rfl⟩
     refine ⟨(zq1 (zq8 (zq32 (zq32 (zq32 (zq32 (zq32 []))))))),[],q_,(by rw [e0_]),rfl,(fun _ _ z_=>by subst hq0_;exact z_),?_⟩
     subst hq0_
     exact xcz mn (fun _ h_ H_=>xaj H_ tA22 rfl (i:=0) rfl (v:=w5) rfl) ⟨rfl,rfl⟩
    refine xak rfl (xcj ?_) ?_
    ·
     intro val15 pc16 hQ_ hX_
     obtain ⟨q_,hq0_⟩: ∃ q_:Value→Pcs→Prop,q_=(fun v_ x_=>v_= .pointer (some ⟨b2,0,none⟩)∧x_=[]):=⟨_,rfl⟩
     refine ⟨(zq1 (zq8 (zq32 (zq32 (zq32 (zq32 (zq32 []))))))),[],q_,rfl,rfl,(fun _ _ z_=>by subst hq0_;exact z_),?_⟩
     subst hq0_
     exact xcz mn (fun _ h_ H_=>xaz xlw rfl (a':=⟨b2,0,none⟩) rfl) ⟨rfl,rfl⟩
    refine xak rfl (xcj ?_) ?_
    ·
     intro val15 pc16 hQ_ hX_
     have e2_:val15 2= .pointer (some ⟨b2,0,none⟩):=(hQ_ 2 rfl).1
     obtain ⟨q_,hq0_⟩: ∃ q_:Value→Pcs→Prop,q_=(fun v_ x_=>v_= .slice a1' u.nH c1'∧x_=[]):=⟨_,rfl⟩
     refine ⟨(zq1 (zq8 (zq32 (zq32 (zq32 (zq32 (zq32 []))))))),[],q_,(by rw [e2_]),rfl,(fun _ _ z_=>by subst hq0_;exact z_),?_⟩
     subst hq0_
     exact xcz mn (fun _ h_ H_=>xaj H_ tA22 rfl (i:=1) rfl (v:=.slice a1' u.nH c1') rfl) ⟨rfl,rfl⟩
    refine xak rfl (xcj ?_) ?_
    ·
     intro val15 pc16 hQ_ hX_
     have e1_:val15 1=w5:=(hQ_ 1 rfl).1
     have e3_:val15 3= .slice a1' u.nH c1':=(hQ_ 3 rfl).1
     have x12_:pc16 12=X8:=hX_ 12 (by decide)
     obtain ⟨q_,hq0_⟩: ∃ q_:Value→Pcs→Prop,q_=(fun v_ x_=>OwnS 3 1 v_ (ics t.hs++(u.hs.map fun x=>[Value.int .i64 x])) x_):=⟨_,rfl⟩
     refine ⟨(zq1 (zq8 (zq32 (zq32 (zq32 (zq32 (zq32 []))))))),(X8++[]),q_,(by rw [e1_,e3_]),(by rw [← x12_];rfl),(fun _ _ z_=>by subst hq0_;exact z_),?_⟩
     subst hq0_
     exact xrz mn Tryd.underlying22 tS3 tZ3 rfl tB3 Tryd.underlying22 rfl rfl o11 T'.h (xrj _) (by rw [xcx];omega) (by decide) (by decide) fun _ _ o_=>o_
    refine xak rfl (xcj ?_) ?_
    ·
     intro val15 pc16 hQ_ hX_
     obtain ⟨q_,hq0_⟩: ∃ q_:Value→Pcs→Prop,q_=(fun v_ x_=>v_= .pointer (some ⟨b14,1,none⟩)∧x_=[]):=⟨_,rfl⟩
     refine ⟨(zq1 (zq8 (zq32 (zq32 (zq32 (zq32 (zq32 []))))))),[],q_,rfl,rfl,(fun _ _ z_=>by subst hq0_;exact z_),?_⟩
     subst hq0_
     exact xcz mn (fun _ h_ H_=>xaz xmz rfl (a':=⟨b14,1,none⟩) rfl) ⟨rfl,rfl⟩
    refine xak rfl (xcj ?_) ?_
    ·
     intro val15 pc16 hQ_ hX_
     have e5_:val15 5= .pointer (some ⟨b14,1,none⟩):=(hQ_ 5 rfl).1
     obtain ⟨q_,hq0_⟩: ∃ q_:Value→Pcs→Prop,q_=(fun v_ x_=>v_=w6∧x_=[]):=⟨_,rfl⟩
     refine ⟨(zq1 (zq8 (zq32 (zq32 (zq32 (zq32 (zq32 []))))))),[],q_,(by rw [e5_]),rfl,(fun _ _ z_=>by subst hq0_;exact z_),?_⟩
     subst hq0_
     exact xcz mn (fun _ h_ H_=>xaj H_ tA22 rfl (i:=0) rfl (v:=w6) rfl) ⟨rfl,rfl⟩
    refine xak rfl (xcj ?_) ?_
    ·
     intro val15 pc16 hQ_ hX_
     obtain ⟨q_,hq0_⟩: ∃ q_:Value→Pcs→Prop,q_=(fun v_ x_=>v_= .pointer (some ⟨b2,1,none⟩)∧x_=[]):=⟨_,rfl⟩
     refine ⟨(zq1 (zq8 (zq32 (zq32 (zq32 (zq32 (zq32 []))))))),[],q_,rfl,rfl,(fun _ _ z_=>by subst hq0_;exact z_),?_⟩
     subst hq0_
     exact xcz mn (fun _ h_ H_=>xaz xmz rfl (a':=⟨b2,1,none⟩) rfl) ⟨rfl,rfl⟩
    refine xak rfl (xcj ?_) ?_
    ·
     intro val15 pc16 hQ_ hX_
     have e7_:val15 7= .pointer (some ⟨b2,1,none⟩):=(hQ_ 7 rfl).1
     obtain ⟨q_,hq0_⟩: ∃ q_:Value→Pcs→Prop,q_=(fun v_ x_=>v_= .slice a2' u.nW c2'∧x_=[]):=⟨_,rfl⟩
     refine ⟨(zq1 (zq8 (zq32 (zq32 (zq32 (zq32 (zq32 []))))))),[],q_,(by rw [e7_]),rfl,(fun _ _ z_=>by subst hq0_;exact z_),?_⟩
     subst hq0_
     exact xcz mn (fun _ h_ H_=>xaj H_ tA22 rfl (i:=1) rfl (v:=.slice a2' u.nW c2') rfl) ⟨rfl,rfl⟩
    refine xak rfl (xcj ?_) ?_
    ·
     intro val15 pc16 hQ_ hX_
     have q4_:OwnS 3 1 (val15 4) (ics t.hs++(u.hs.map fun x=>[Value.int .i64 x])) (pc16 4):=hQ_ 4 rfl
     have e6_:val15 6=w6:=(hQ_ 6 rfl).1
     have e8_:val15 8= .slice a2' u.nW c2':=(hQ_ 8 rfl).1
     have x13_:pc16 13=X9:=hX_ 13 (by decide)
     obtain ⟨q_,hq0_⟩: ∃ q_:Value→Pcs→Prop,q_=(fun v_ x_=>OwnS 3 1 v_ (ics t.ws++(u.ws.map fun x=>[Value.int .i64 x])) x_):=⟨_,rfl⟩
     refine ⟨(zq1 (zq8 (zq32 (zq32 (zq32 (zq32 (zq32 []))))))),(X9++[]),q_,(by rw [e6_,e8_]),(by rw [← x13_];rfl),(fun _ _ z_=>by subst hq0_;exact z_),?_⟩
     subst hq0_
     exact xrz mn Tryd.underlying22 tS3 tZ3 rfl tB3 Tryd.underlying22 rfl rfl o12 T'.w (xrj _) (by rw [xcx];omega) (by decide) (by decide) fun _ _ o_=>o_
    refine xak rfl (xcj ?_) ?_
    ·
     intro val15 pc16 hQ_ hX_
     have e0_:val15 0= .pointer (some ⟨b14,0,none⟩):=(hQ_ 0 rfl).1
     have e1_:val15 1=w5:=(hQ_ 1 rfl).1
     have e2_:val15 2= .pointer (some ⟨b2,0,none⟩):=(hQ_ 2 rfl).1
     have e3_:val15 3= .slice a1' u.nH c1':=(hQ_ 3 rfl).1
     have q4_:OwnS 3 1 (val15 4) (ics t.hs++(u.hs.map fun x=>[Value.int .i64 x])) (pc16 4):=hQ_ 4 rfl
     have e5_:val15 5= .pointer (some ⟨b14,1,none⟩):=(hQ_ 5 rfl).1
     have e6_:val15 6=w6:=(hQ_ 6 rfl).1
     obtain ⟨q_,hq0_⟩: ∃ q_:Value→Pcs→Prop,q_=(fun v_ x_=>v_= .pointer (some ⟨b14,0,none⟩)∧x_=[]):=⟨_,rfl⟩
     refine ⟨(zq1 (zq8 (zq32 (zq32 (zq32 (zq32 (zq32 []))))))),[],q_,(by rw [e0_,e1_,e2_,e3_,e5_,e6_]),rfl,(fun _ _ z_=>by subst hq0_;exact z_),?_⟩
     subst hq0_
     exact xcz mn (fun _ h_ H_=>xaz xlw rfl (a':=⟨b14,0,none⟩) rfl) ⟨rfl,rfl⟩
    exact xlx rfl
   intro val15 pc16 hQ_ hX_
   have e0_:val15 0= .pointer (some ⟨b14,0,none⟩):=(hQ_ 0 (by decide)).1
   have e1_:val15 1=w5:=(hQ_ 1 (by decide)).1
   have e2_:val15 2= .pointer (some ⟨b2,0,none⟩):=(hQ_ 2 (by decide)).1
   have e3_:val15 3= .slice a1' u.nH c1':=(hQ_ 3 (by decide)).1
   have q4_:OwnS 3 1 (val15 4) (ics t.hs++(u.hs.map fun x=>[Value.int .i64 x])) (pc16 4):=hQ_ 4 (by decide)
   have e5_:val15 5= .pointer (some ⟨b14,1,none⟩):=(hQ_ 5 (by decide)).1
   have e6_:val15 6=w6:=(hQ_ 6 (by decide)).1
   have e7_:val15 7= .pointer (some ⟨b2,1,none⟩):=(hQ_ 7 (by decide)).1
   have e8_:val15 8= .slice a2' u.nW c2':=(hQ_ 8 (by decide)).1
   have q9_:OwnS 3 1 (val15 9) (ics t.ws++(u.ws.map fun x=>[Value.int .i64 x])) (pc16 9):=hQ_ 9 (by decide)
   have e10_:val15 10= .pointer (some ⟨b14,0,none⟩):=(hQ_ 10 (by decide)).1
   have x11_:pc16 11=X10:=hX_ 11 (by decide)
   clear hQ_ hX_
   refine xwv (Φ:=fun h_=>St h [] p h_ (([(b14,.cells #[w5,w6,w7] 25 (0,0)),(b2,.cells #[.slice a1' u.nH c1',.slice a2' u.nW c2',.slice a3' u.m c3'] 25 (0,0)),(b1,.cells #[.slice a1 t.nH c1,.slice a2 t.nW c2,.slice a3 t.m c3] 25 (0,0))]:Pcs)++(pc16 11++(pc16 4++(pc16 9++[]))))) ?_ (fun h_ H_=>H_.swap')
   rw [x11_]
   refine xgq (tm':=(zq1 (zq8 (zq32 (zq32 (zq32 (zq32 (zq32 [])))))))) (by rw [e0_,e1_,e2_,e3_,e5_,e6_,e7_,e8_,e10_]) ?_
   have o19:=q4_
   have o20:=q9_
   refine xpv mn tS22 rfl (v:=(val15 4)) rfl o19.one (i:=0) rfl (Nat.succ_le_iff.1 (Nat.le_of_ble_eq_true rfl)) (cs2:=[(val15 4),w6,w7]) rfl (xcq (L':=([(b14,.cells #[(val15 4),w6,w7] 25 (0,0)),(b2,.cells #[.slice a1' u.nH c1',.slice a2' u.nW c2',.slice a3' u.m c3'] 25 (0,0)),(b1,.cells #[.slice a1 t.nH c1,.slice a2 t.nW c2,.slice a3 t.m c3] 25 (0,0))]:Pcs)++(X10++((pc16 4)++((pc16 9)++[])))) rfl ?_)
   refine ro (xaz xmz rfl (a':=⟨b14,1,none⟩) rfl) ?_
   refine xpv mn tS22 rfl (v:=(val15 9)) rfl o20.one (i:=0) rfl (Nat.succ_le_iff.1 (Nat.le_of_ble_eq_true rfl)) (cs2:=[(val15 4),(val15 9),w7]) rfl (xcq (L':=([(b14,.cells #[(val15 4),(val15 9),w7] 25 (0,0)),(b2,.cells #[.slice a1' u.nH c1',.slice a2' u.nW c2',.slice a3' u.m c3'] 25 (0,0)),(b1,.cells #[.slice a1 t.nH c1,.slice a2 t.nW c2,.slice a3 t.m c3] 25 (0,0))]:Pcs)++(X10++((pc16 4)++((pc16 9)++[])))) rfl ?_)
   refine ren <| xek ?_
   have oA_:OwnS 3 1 (val15 4) (ics (join t u).hs) (pc16 4):=o19.as (by simp [ics,join])
   have oB_:OwnS 3 1 (val15 9) (ics (join t u).ws) (pc16 9):=o20.as (by simp [ics,join])
   refine xbx <| ro (xax (v:=.int .i64 0) rfl) <| xav <| xez ?_
   refine xiv (m₀:=u.m-0) (fun m_ tm_ h_=>∃ (k:Nat) (w_:Value) (X1_:Pcs),m_=u.m-k∧(∃ y21:Nat→Value,tm_=(.agg #[.slice a1 t.nH c1,.slice a2 t.nW c2,.slice a3 t.m c3]::.agg #[.slice a1' u.nH c1',.slice a2' u.nW c2',.slice a3' u.m c3']::.pointer (some ⟨b1,0,none⟩)::.pointer (some ⟨b2,0,none⟩)::.bool (false)::.pointer (some ⟨b14,0,none⟩)::.int .i64 (((k:Nat):Int))::undef::zu4 (zu8 (.agg #[.slice a1 t.nH c1,.slice a2 t.nW c2,.slice a3 t.m c3]::.bool (readyB t)::.bool (!(readyB t))::.bool (!(readyB t))::.agg #[.slice a1' u.nH c1',.slice a2' u.nW c2',.slice a3' u.m c3']::.bool (readyB u)::.bool (!(readyB u))::.bool (!(readyB u))::undef::.agg #[.slice a1 t.nH c1,.slice a2 t.nW c2,.slice a3 t.m c3]::.agg #[w5,w6,w7]::.pointer (some ⟨b14,0,none⟩)::w5::.pointer (some ⟨b2,0,none⟩)::.slice a1' u.nH c1'::(val15 4)::.pointer (some ⟨b14,1,none⟩)::w6::.pointer (some ⟨b2,1,none⟩)::.slice a2' u.nW c2'::(val15 9)::.pointer (some ⟨b14,0,none⟩)::.pointer (some ⟨b14,1,none⟩)::(y21 43)::(y21 44)::(y21 45)::(y21 46)::(y21 47)::(y21 48)::(y21 49)::(y21 50)::(y21 51)::(y21 52)::(y21 53)::(y21 54)::(y21 55)::(y21 56)::(y21 57)::(y21 58)::(y21 59)::(y21 60)::(y21 61)::(y21 62)::(y21 63)::(y21 64)::(y21 65)::(y21 66)::(y21 67)::(y21 68)::(y21 69)::(y21 70)::(y21 71)::(y21 72)::(y21 73)::(y21 74)::(y21 75)::undef::zu4 (zu8 (zu16 (zu16 (zu16 (zu16 (zu16 []))))))))))∧(k≤u.m)∧(OwnS 43 2 w_ (wcs (besW t u k)) X1_)∧St h [] p h_ (([(b14,.cells #[(val15 4),(val15 9),w_] 25 (0,0)),(b2,.cells #[.slice a1' u.nH c1',.slice a2' u.nW c2',.slice a3' u.m c3'] 25 (0,0)),(b1,.cells #[.slice a1 t.nH c1,.slice a2 t.nW c2,.slice a3 t.m c3] 25 (0,0))]:Pcs)++(X1_++((pc16 4)++((pc16 9)++[]))))) (fun h_ H_=>⟨0,w7,X10,rfl,(y_of rfl),Nat.zero_le _,(o13.as (by rw [wmq])),H_⟩) ?_
   intro m_ tm_ IH22
   refine xhj fun k=>xhj fun w_=>xhj fun X1_=>xcw fun hm_=>xcw fun ht_=>xcw fun hk=>xcw fun o1_=>?_
   subst hm_;obtain ⟨y21,ht_⟩:=ht_;subst ht_
   have hz_:(besW t u k).length≤81:=by rw [wuq hk];omega
   refine xek <| fsr <| rt (xaq (v:=.int .i64 (((k:Nat):Int))) rfl) (tm':=zq4 (zq8 (zq32 _))) rfl <| ro (xaz xhk rfl (a':=⟨b2,2,none⟩) rfl) <| rd (fun h_ H_=>xaj H_ tA23 rfl (i:=1) rfl (v:=.slice a3' u.m c3') rfl) <| rt (xfk Tryd.underlying23 rfl) (tm':=zq1 (zq2 (zq4 (zq8 (zq32 _))))) rfl ?_
   refine ro (xgk rfl rfl) <| xav ?_
   by_cases cc23:((k:Nat):Int)<((u.m:Nat):Int)
   ·
    refine xdw rfl (dtt cc23) <| xdk <| xek <| xez ?_
    refine xyx (xlz (C:=[]) (A:=([(b14,.cells #[(val15 4),(val15 9),w_] 25 (0,0)),(b2,.cells #[.slice a1' u.nH c1',.slice a2' u.nW c2',.slice a3' u.m c3'] 25 (0,0)),(b1,.cells #[.slice a1 t.nH c1,.slice a2 t.nW c2,.slice a3 t.m c3] 25 (0,0))]:Pcs)) 24 [[],[0],[],[2],[],[2,3,4],[2,3,4,5],[2,3,4,5,6],[],[8],[8,9],[2,3,4,5,6,7,8,9,10],[],[12],[],[12,13,14],[12,13,14,15],[12,13,14,15,16],[],[18],[18,19],[12,13,14,15,16,17,18,19,20],[2,3,4,5,6,7,8,9,10,11,12,13,14,15,16,17,18,19,20,21],[2,3,4,5,6,7,8,9,10,11,12,13,14,15,16,17,18,19,20,21,22],[],[],[]] [24,25,26] [24,25,26,23] [0,1,2,3,4,5,6,7,8,9,10,11,12,13,14,15,16,17,18,19,20,21,22] (fun i_=>match i_ with | 24=>X1_ | 25=>(pc16 4) | 26=>(pc16 9) | _=>[]) (fun _=>[]) (fun i_=>match i_ with | 0=>[] | 1=>[0] | 2=>[] | 3=>[2] | 4=>[] | 5=>[3,4] | 6=>[5] | 7=>[6] | 8=>[] | 9=>[8] | 10=>[9] | 11=>[7,10] | 12=>[] | 13=>[12] | 14=>[] | 15=>[13,14] | 16=>[15] | 17=>[16] | 18=>[] | 19=>[18] | 20=>[19] | 21=>[17,20] | 22=>[11,21] | 23=>[22] | _=>[]) (fun i_ val_ pc_ v_ x_=>match i_ with | 0=>v_= .pointer (some ⟨b14,2,none⟩)∧x_=[] | 1=>v_=w_∧x_=[] | 2=>v_= .pointer (some ⟨b2,2,none⟩)∧x_=[] | 3=>v_= .slice a3' u.m c3'∧x_=[] | 4=>v_= .int .i64 (((k:Nat):Int))∧x_=[] | 5=>v_= .pointer (some ((adr a3').add (k*2)))∧x_=[] | 6=>v_= .pointer (some ((adr a3').add (k*2)))∧x_=[] | 7=>v_= .int .i64 ((u.wy.getD k wz).1)∧x_=[] | 8=>v_= .pointer (some ⟨b1,0,none⟩)∧x_=[] | 9=>v_= .slice a1 t.nH c1∧x_=[] | 10=>v_= .int .i64 (((t.nH:Nat):Int))∧x_=[] | 11=>v_= .int .i64 (((u.wy.getD k wz).1)+((t.nH:Nat):Int))∧x_=[] | 12=>v_= .pointer (some ⟨b2,2,none⟩)∧x_=[] | 13=>v_= .slice a3' u.m c3'∧x_=[] | 14=>v_= .int .i64 (((k:Nat):Int))∧x_=[] | 15=>v_= .pointer (some ((adr a3').add (k*2)))∧x_=[] | 16=>v_= .pointer (some (((adr a3').add (k*2)).add 1))∧x_=[] | 17=>v_= .int .i64 ((u.wy.getD k wz).2)∧x_=[] | 18=>v_= .pointer (some ⟨b1,1,none⟩)∧x_=[] | 19=>v_= .slice a2 t.nW c2∧x_=[] | 20=>v_= .int .i64 (((t.nW:Nat):Int))∧x_=[] | 21=>v_= .int .i64 (((u.wy.getD k wz).2)+((t.nW:Nat):Int))∧x_=[] | 22=>v_= .agg #[.int .i64 (((u.wy.getD k wz).1)+((t.nH:Nat):Int)),.int .i64 (((u.wy.getD k wz).2)+((t.nW:Nat):Int))]∧x_=[] | 23=>OwnS 43 2 v_ [[.int .i64 (((u.wy.getD k wz).1)+((t.nH:Nat):Int)),.int .i64 (((u.wy.getD k wz).2)+((t.nW:Nat):Int))]] x_ | _=>True) (fun val24=>(.agg #[.slice a1 t.nH c1,.slice a2 t.nW c2,.slice a3 t.m c3]::.agg #[.slice a1' u.nH c1',.slice a2' u.nW c2',.slice a3' u.m c3']::.pointer (some ⟨b1,0,none⟩)::.pointer (some ⟨b2,0,none⟩)::.bool (false)::.pointer (some ⟨b14,0,none⟩)::.int .i64 (((k:Nat):Int))::undef::zu4 (zu8 (.agg #[.slice a1 t.nH c1,.slice a2 t.nW c2,.slice a3 t.m c3]::.bool (readyB t)::.bool (!(readyB t))::.bool (!(readyB t))::.agg #[.slice a1' u.nH c1',.slice a2' u.nW c2',.slice a3' u.m c3']::.bool (readyB u)::.bool (!(readyB u))::.bool (!(readyB u))::undef::.agg #[.slice a1 t.nH c1,.slice a2 t.nW c2,.slice a3 t.m c3]::.agg #[w5,w6,w7]::.pointer (some ⟨b14,0,none⟩)::w5::.pointer (some ⟨b2,0,none⟩)::.slice a1' u.nH c1'::(val15 4)::.pointer (some ⟨b14,1,none⟩)::w6::.pointer (some ⟨b2,1,none⟩)::.slice a2' u.nW c2'::(val15 9)::.pointer (some ⟨b14,0,none⟩)::.pointer (some ⟨b14,1,none⟩)::.int .i64 (((k:Nat):Int))::.pointer (some ⟨b2,2,none⟩)::.slice a3' u.m c3'::.int .i64 (((u.m:Nat):Int))::.bool (decide (((k:Nat):Int)<((u.m:Nat):Int)))::(y21 48)::(y21 49)::(val24 0)::(val24 1)::(val24 2)::(val24 3)::(val24 4)::(val24 5)::(val24 6)::(val24 7)::(val24 8)::(val24 9)::(val24 10)::(val24 11)::(val24 12)::(val24 13)::(val24 14)::(val24 15)::(val24 16)::(val24 17)::(val24 18)::(val24 19)::(val24 20)::(val24 21)::(val24 22)::(val24 23)::(y21 74)::(y21 75)::undef::zu4 (zu8 (zu16 (zu16 (zu16 (zu16 (zu16 [])))))))))) xkv (by kernel_rfl) (Nat.le_of_ble_eq_true rfl) (by kernel_rfl) (by kernel_rfl) (by kernel_rfl) (fun _ _=>⟨fun _ _ h=>h.2,⟨fun _ _ h=>h.2,⟨fun _ _ h=>h.2,⟨fun _ _ h=>h.2,⟨fun _ _ h=>h.2,⟨fun _ _ h=>h.2,⟨fun _ _ h=>h.2,⟨fun _ _ h=>h.2,⟨fun _ _ h=>h.2,⟨fun _ _ h=>h.2,⟨fun _ _ h=>h.2,⟨fun _ _ h=>h.2,⟨fun _ _ h=>h.2,⟨fun _ _ h=>h.2,⟨fun _ _ h=>h.2,⟨fun _ _ h=>h.2,⟨fun _ _ h=>h.2,⟨fun _ _ h=>h.2,⟨fun _ _ h=>h.2,⟨fun _ _ h=>h.2,⟨fun _ _ h=>h.2,⟨fun _ _ h=>h.2,⟨fun _ _ h=>h.2,trivial⟩⟩⟩⟩⟩⟩⟩⟩⟩⟩⟩⟩⟩⟩⟩⟩⟩⟩⟩⟩⟩⟩⟩) (fun _=>by kernel_rfl) (by kernel_rfl) ?_ ?_) (fun h_ H_=>St.swap (A:=([(b14,.cells #[(val15 4),(val15 9),w_] 25 (0,0)),(b2,.cells #[.slice a1' u.nH c1',.slice a2' u.nW c2',.slice a3' u.m c3'] 25 (0,0)),(b1,.cells #[.slice a1 t.nH c1,.slice a2 t.nW c2,.slice a3 t.m c3] 25 (0,0))]:Pcs)) (U:=(X1_++((pc16 4)++((pc16 9)++[])))) H_)
    ·
     refine xak rfl (xcj ?_) ?_
     ·
      intro val24 pc25 hQ_ hX_
      obtain ⟨q_,hq0_⟩: ∃ q_:Value→Pcs→Prop,q_=(fun v_ x_=>v_= .pointer (some ⟨b14,2,none⟩)∧x_=[]):=⟨_,rfl⟩
      refine ⟨(zq1 (zq8 (zq32 (zq32 (zq32 (zq32 (zq32 []))))))),[],q_,rfl,rfl,(fun _ _ z_=>by subst hq0_;exact z_),?_⟩
      subst hq0_
      exact xcz mn (fun _ h_ H_=>xaz xhk rfl (a':=⟨b14,2,none⟩) rfl) ⟨rfl,rfl⟩
     refine xak rfl (xcj ?_) ?_
     ·
      intro val24 pc25 hQ_ hX_
      have e0_:val24 0= .pointer (some ⟨b14,2,none⟩):=(hQ_ 0 rfl).1
      obtain ⟨q_,hq0_⟩: ∃ q_:Value→Pcs→Prop,q_=(fun v_ x_=>v_=w_∧x_=[]):=⟨_,rfl⟩
      refine ⟨(zq1 (zq8 (zq32 (zq32 (zq32 (zq32 (zq32 []))))))),[],q_,(by rw [e0_]),rfl,(fun _ _ z_=>by subst hq0_;exact z_),?_⟩
      subst hq0_
      exact xcz mn (fun _ h_ H_=>xaj H_ tA23 rfl (i:=0) rfl (v:=w_) rfl) ⟨rfl,rfl⟩
     refine xak rfl (xcj ?_) ?_
     ·
      intro val24 pc25 hQ_ hX_
      obtain ⟨q_,hq0_⟩: ∃ q_:Value→Pcs→Prop,q_=(fun v_ x_=>v_= .pointer (some ⟨b2,2,none⟩)∧x_=[]):=⟨_,rfl⟩
      refine ⟨(zq1 (zq8 (zq32 (zq32 (zq32 (zq32 (zq32 []))))))),[],q_,rfl,rfl,(fun _ _ z_=>by subst hq0_;exact z_),?_⟩
      subst hq0_
      exact xcz mn (fun _ h_ H_=>xaz xhk rfl (a':=⟨b2,2,none⟩) rfl) ⟨rfl,rfl⟩
     refine xak rfl (xcj ?_) ?_
     ·
      intro val24 pc25 hQ_ hX_
      have e2_:val24 2= .pointer (some ⟨b2,2,none⟩):=(hQ_ 2 rfl).1
      obtain ⟨q_,hq0_⟩: ∃ q_:Value→Pcs→Prop,q_=(fun v_ x_=>v_= .slice a3' u.m c3'∧x_=[]):=⟨_,rfl⟩
      refine ⟨(zq1 (zq8 (zq32 (zq32 (zq32 (zq32 (zq32 []))))))),[],q_,(by rw [e2_]),rfl,(fun _ _ z_=>by subst hq0_;exact z_),?_⟩
      subst hq0_
      exact xcz mn (fun _ h_ H_=>xaj H_ tA23 rfl (i:=1) rfl (v:=.slice a3' u.m c3') rfl) ⟨rfl,rfl⟩
     refine xak rfl (xcj ?_) ?_
     ·
      intro val24 pc25 hQ_ hX_
      obtain ⟨q_,hq0_⟩: ∃ q_:Value→Pcs→Prop,q_=(fun v_ x_=>v_= .int .i64 (((k:Nat):Int))∧x_=[]):=⟨_,rfl⟩
      refine ⟨(zq1 (zq8 (zq32 (zq32 (zq32 (zq32 (zq32 []))))))),[],q_,rfl,rfl,(fun _ _ z_=>by subst hq0_;exact z_),?_⟩
      subst hq0_
      exact xcz mn (fun _ h_ H_=>xaq (v:=.int .i64 (((k:Nat):Int))) rfl) ⟨rfl,rfl⟩
     refine xak rfl (xcj ?_) ?_
     ·
      intro val24 pc25 hQ_ hX_
      have e3_:val24 3= .slice a3' u.m c3':=(hQ_ 3 rfl).1
      have e4_:val24 4= .int .i64 (((k:Nat):Int)):=(hQ_ 4 rfl).1
      obtain ⟨q_,hq0_⟩: ∃ q_:Value→Pcs→Prop,q_=(fun v_ x_=>v_= .pointer (some ((adr a3').add (k*2)))∧x_=[]):=⟨_,rfl⟩
      refine ⟨(zq1 (zq8 (zq32 (zq32 (zq32 (zq32 (zq32 []))))))),[],q_,(by rw [e3_,e4_]),rfl,(fun _ _ z_=>by subst hq0_;exact z_),?_⟩
      subst hq0_
      exact xcz mn (fun _ h_ H_=>xbw (i:=k) Tryd.underlying23 tS43 (xkj a3' u.m c3' (T'.y.ne (by omega))) rfl (by omega)) ⟨rfl,rfl⟩
     refine xak rfl (xcj ?_) ?_
     ·
      intro val24 pc25 hQ_ hX_
      have e5_:val24 5= .pointer (some ((adr a3').add (k*2))):=(hQ_ 5 rfl).1
      obtain ⟨q_,hq0_⟩: ∃ q_:Value→Pcs→Prop,q_=(fun v_ x_=>v_= .pointer (some ((adr a3').add (k*2)))∧x_=[]):=⟨_,rfl⟩
      refine ⟨(zq1 (zq8 (zq32 (zq32 (zq32 (zq32 (zq32 []))))))),[],q_,(by rw [e5_]),rfl,(fun _ _ z_=>by subst hq0_;exact z_),?_⟩
      subst hq0_
      exact xcz mn (fun _ h_ H_=>xaz xoj rfl (a':=(adr a3').add (k*2)) rfl) ⟨rfl,rfl⟩
     refine xak rfl (xcj ?_) ?_
     ·
      intro val24 pc25 hQ_ hX_
      have e6_:val24 6= .pointer (some ((adr a3').add (k*2))):=(hQ_ 6 rfl).1
      obtain ⟨q_,hq0_⟩: ∃ q_:Value→Pcs→Prop,q_=(fun v_ x_=>v_= .int .i64 ((u.wy.getD k wz).1)∧x_=[]):=⟨_,rfl⟩
      refine ⟨(zq1 (zq8 (zq32 (zq32 (zq32 (zq32 (zq32 []))))))),[],q_,(by rw [e6_]),rfl,(fun _ _ z_=>by subst hq0_;exact z_),?_⟩
      subst hq0_
      exact xcz mn (fun _ h_ H_=>xbv H_ tA3 rfl (v:=.int .i64 ((u.wy.getD k wz).1)) (T'.y.ho (by omega))) ⟨rfl,rfl⟩
     refine xak rfl (xcj ?_) ?_
     ·
      intro val24 pc25 hQ_ hX_
      obtain ⟨q_,hq0_⟩: ∃ q_:Value→Pcs→Prop,q_=(fun v_ x_=>v_= .pointer (some ⟨b1,0,none⟩)∧x_=[]):=⟨_,rfl⟩
      refine ⟨(zq1 (zq8 (zq32 (zq32 (zq32 (zq32 (zq32 []))))))),[],q_,rfl,rfl,(fun _ _ z_=>by subst hq0_;exact z_),?_⟩
      subst hq0_
      exact xcz mn (fun _ h_ H_=>xaz xlw rfl (a':=⟨b1,0,none⟩) rfl) ⟨rfl,rfl⟩
     refine xak rfl (xcj ?_) ?_
     ·
      intro val24 pc25 hQ_ hX_
      have e8_:val24 8= .pointer (some ⟨b1,0,none⟩):=(hQ_ 8 rfl).1
      obtain ⟨q_,hq0_⟩: ∃ q_:Value→Pcs→Prop,q_=(fun v_ x_=>v_= .slice a1 t.nH c1∧x_=[]):=⟨_,rfl⟩
      refine ⟨(zq1 (zq8 (zq32 (zq32 (zq32 (zq32 (zq32 []))))))),[],q_,(by rw [e8_]),rfl,(fun _ _ z_=>by subst hq0_;exact z_),?_⟩
      subst hq0_
      exact xcz mn (fun _ h_ H_=>xaj H_ tA22 rfl (i:=2) rfl (v:=.slice a1 t.nH c1) rfl) ⟨rfl,rfl⟩
     refine xak rfl (xcj ?_) ?_
     ·
      intro val24 pc25 hQ_ hX_
      have e9_:val24 9= .slice a1 t.nH c1:=(hQ_ 9 rfl).1
      obtain ⟨q_,hq0_⟩: ∃ q_:Value→Pcs→Prop,q_=(fun v_ x_=>v_= .int .i64 (((t.nH:Nat):Int))∧x_=[]):=⟨_,rfl⟩
      refine ⟨(zq1 (zq8 (zq32 (zq32 (zq32 (zq32 (zq32 []))))))),[],q_,(by rw [e9_]),rfl,(fun _ _ z_=>by subst hq0_;exact z_),?_⟩
      subst hq0_
      exact xcz mn (fun _ h_ H_=>xfk Tryd.underlying22 rfl) ⟨rfl,rfl⟩
     refine xak rfl (xcj ?_) ?_
     ·
      intro val24 pc25 hQ_ hX_
      have e7_:val24 7= .int .i64 ((u.wy.getD k wz).1):=(hQ_ 7 rfl).1
      have e10_:val24 10= .int .i64 (((t.nH:Nat):Int)):=(hQ_ 10 rfl).1
      obtain ⟨q_,hq0_⟩: ∃ q_:Value→Pcs→Prop,q_=(fun v_ x_=>v_= .int .i64 (((u.wy.getD k wz).1)+((t.nH:Nat):Int))∧x_=[]):=⟨_,rfl⟩
      refine ⟨(zq1 (zq8 (zq32 (zq32 (zq32 (zq32 (zq32 []))))))),[],q_,(by rw [e7_,e10_]),rfl,(fun _ _ z_=>by subst hq0_;exact z_),?_⟩
      subst hq0_
      exact xcz mn (fun _ h_ H_=>xfq rfl rfl (wr (by have z_:=hVu.wok k (by omega);omega))) ⟨rfl,rfl⟩
     refine xak rfl (xcj ?_) ?_
     ·
      intro val24 pc25 hQ_ hX_
      obtain ⟨q_,hq0_⟩: ∃ q_:Value→Pcs→Prop,q_=(fun v_ x_=>v_= .pointer (some ⟨b2,2,none⟩)∧x_=[]):=⟨_,rfl⟩
      refine ⟨(zq1 (zq8 (zq32 (zq32 (zq32 (zq32 (zq32 []))))))),[],q_,rfl,rfl,(fun _ _ z_=>by subst hq0_;exact z_),?_⟩
      subst hq0_
      exact xcz mn (fun _ h_ H_=>xaz xhk rfl (a':=⟨b2,2,none⟩) rfl) ⟨rfl,rfl⟩
     refine xak rfl (xcj ?_) ?_
     ·
      intro val24 pc25 hQ_ hX_
      have e12_:val24 12= .pointer (some ⟨b2,2,none⟩):=(hQ_ 12 rfl).1
      obtain ⟨q_,hq0_⟩: ∃ q_:Value→Pcs→Prop,q_=(fun v_ x_=>v_= .slice a3' u.m c3'∧x_=[]):=⟨_,rfl⟩
      refine ⟨(zq1 (zq8 (zq32 (zq32 (zq32 (zq32 (zq32 []))))))),[],q_,(by rw [e12_]),rfl,(fun _ _ z_=>by subst hq0_;exact z_),?_⟩
      subst hq0_
      exact xcz mn (fun _ h_ H_=>xaj H_ tA23 rfl (i:=1) rfl (v:=.slice a3' u.m c3') rfl) ⟨rfl,rfl⟩
     refine xak rfl (xcj ?_) ?_
     ·
      intro val24 pc25 hQ_ hX_
      obtain ⟨q_,hq0_⟩: ∃ q_:Value→Pcs→Prop,q_=(fun v_ x_=>v_= .int .i64 (((k:Nat):Int))∧x_=[]):=⟨_,rfl⟩
      refine ⟨(zq1 (zq8 (zq32 (zq32 (zq32 (zq32 (zq32 []))))))),[],q_,rfl,rfl,(fun _ _ z_=>by subst hq0_;exact z_),?_⟩
      subst hq0_
      exact xcz mn (fun _ h_ H_=>xaq (v:=.int .i64 (((k:Nat):Int))) rfl) ⟨rfl,rfl⟩
     refine xak rfl (xcj ?_) ?_
     ·
      intro val24 pc25 hQ_ hX_
      have e13_:val24 13= .slice a3' u.m c3':=(hQ_ 13 rfl).1
      have e14_:val24 14= .int .i64 (((k:Nat):Int)):=(hQ_ 14 rfl).1
      obtain ⟨q_,hq0_⟩: ∃ q_:Value→Pcs→Prop,q_=(fun v_ x_=>v_= .pointer (some ((adr a3').add (k*2)))∧x_=[]):=⟨_,rfl⟩
      refine ⟨(zq1 (zq8 (zq32 (zq32 (zq32 (zq32 (zq32 []))))))),[],q_,(by rw [e13_,e14_]),rfl,(fun _ _ z_=>by subst hq0_;exact z_),?_⟩
      subst hq0_
      exact xcz mn (fun _ h_ H_=>xbw (i:=k) Tryd.underlying23 tS43 (xkj a3' u.m c3' (T'.y.ne (by omega))) rfl (by omega)) ⟨rfl,rfl⟩
     refine xak rfl (xcj ?_) ?_
     ·
      intro val24 pc25 hQ_ hX_
      have e15_:val24 15= .pointer (some ((adr a3').add (k*2))):=(hQ_ 15 rfl).1
      obtain ⟨q_,hq0_⟩: ∃ q_:Value→Pcs→Prop,q_=(fun v_ x_=>v_= .pointer (some (((adr a3').add (k*2)).add 1))∧x_=[]):=⟨_,rfl⟩
      refine ⟨(zq1 (zq8 (zq32 (zq32 (zq32 (zq32 (zq32 []))))))),[],q_,(by rw [e15_]),rfl,(fun _ _ z_=>by subst hq0_;exact z_),?_⟩
      subst hq0_
      exact xcz mn (fun _ h_ H_=>xaz xpx rfl (a':=((adr a3').add (k*2)).add 1) rfl) ⟨rfl,rfl⟩
     refine xak rfl (xcj ?_) ?_
     ·
      intro val24 pc25 hQ_ hX_
      have e16_:val24 16= .pointer (some (((adr a3').add (k*2)).add 1)):=(hQ_ 16 rfl).1
      obtain ⟨q_,hq0_⟩: ∃ q_:Value→Pcs→Prop,q_=(fun v_ x_=>v_= .int .i64 ((u.wy.getD k wz).2)∧x_=[]):=⟨_,rfl⟩
      refine ⟨(zq1 (zq8 (zq32 (zq32 (zq32 (zq32 (zq32 []))))))),[],q_,(by rw [e16_]),rfl,(fun _ _ z_=>by subst hq0_;exact z_),?_⟩
      subst hq0_
      exact xcz mn (fun _ h_ H_=>xbv H_ tA3 rfl (v:=.int .i64 ((u.wy.getD k wz).2)) (T'.y.we (by omega))) ⟨rfl,rfl⟩
     refine xak rfl (xcj ?_) ?_
     ·
      intro val24 pc25 hQ_ hX_
      obtain ⟨q_,hq0_⟩: ∃ q_:Value→Pcs→Prop,q_=(fun v_ x_=>v_= .pointer (some ⟨b1,1,none⟩)∧x_=[]):=⟨_,rfl⟩
      refine ⟨(zq1 (zq8 (zq32 (zq32 (zq32 (zq32 (zq32 []))))))),[],q_,rfl,rfl,(fun _ _ z_=>by subst hq0_;exact z_),?_⟩
      subst hq0_
      exact xcz mn (fun _ h_ H_=>xaz xmz rfl (a':=⟨b1,1,none⟩) rfl) ⟨rfl,rfl⟩
     refine xak rfl (xcj ?_) ?_
     ·
      intro val24 pc25 hQ_ hX_
      have e18_:val24 18= .pointer (some ⟨b1,1,none⟩):=(hQ_ 18 rfl).1
      obtain ⟨q_,hq0_⟩: ∃ q_:Value→Pcs→Prop,q_=(fun v_ x_=>v_= .slice a2 t.nW c2∧x_=[]):=⟨_,rfl⟩
      refine ⟨(zq1 (zq8 (zq32 (zq32 (zq32 (zq32 (zq32 []))))))),[],q_,(by rw [e18_]),rfl,(fun _ _ z_=>by subst hq0_;exact z_),?_⟩
      subst hq0_
      exact xcz mn (fun _ h_ H_=>xaj H_ tA22 rfl (i:=2) rfl (v:=.slice a2 t.nW c2) rfl) ⟨rfl,rfl⟩
     refine xak rfl (xcj ?_) ?_
     ·
      intro val24 pc25 hQ_ hX_
      have e19_:val24 19= .slice a2 t.nW c2:=(hQ_ 19 rfl).1
      obtain ⟨q_,hq0_⟩: ∃ q_:Value→Pcs→Prop,q_=(fun v_ x_=>v_= .int .i64 (((t.nW:Nat):Int))∧x_=[]):=⟨_,rfl⟩
      refine ⟨(zq1 (zq8 (zq32 (zq32 (zq32 (zq32 (zq32 []))))))),[],q_,(by rw [e19_]),rfl,(fun _ _ z_=>by subst hq0_;exact z_),?_⟩
      subst hq0_
      exact xcz mn (fun _ h_ H_=>xfk Tryd.underlying22 rfl) ⟨rfl,rfl⟩
     refine xak rfl (xcj ?_) ?_
     ·
      intro val24 pc25 hQ_ hX_
      have e17_:val24 17= .int .i64 ((u.wy.getD k wz).2):=(hQ_ 17 rfl).1
      have e20_:val24 20= .int .i64 (((t.nW:Nat):Int)):=(hQ_ 20 rfl).1
      obtain ⟨q_,hq0_⟩: ∃ q_:Value→Pcs→Prop,q_=(fun v_ x_=>v_= .int .i64 (((u.wy.getD k wz).2)+((t.nW:Nat):Int))∧x_=[]):=⟨_,rfl⟩
      refine ⟨(zq1 (zq8 (zq32 (zq32 (zq32 (zq32 (zq32 []))))))),[],q_,(by rw [e17_,e20_]),rfl,(fun _ _ z_=>by subst hq0_;exact z_),?_⟩
      subst hq0_
      exact xcz mn (fun _ h_ H_=>xfq rfl rfl (wr (by have z_:=hVu.wok k (by omega);omega))) ⟨rfl,rfl⟩
     refine xak rfl (xcj ?_) ?_
     ·
      intro val24 pc25 hQ_ hX_
      have e11_:val24 11= .int .i64 (((u.wy.getD k wz).1)+((t.nH:Nat):Int)):=(hQ_ 11 rfl).1
      have e21_:val24 21= .int .i64 (((u.wy.getD k wz).2)+((t.nW:Nat):Int)):=(hQ_ 21 rfl).1
      obtain ⟨q_,hq0_⟩: ∃ q_:Value→Pcs→Prop,q_=(fun v_ x_=>v_= .agg #[.int .i64 (((u.wy.getD k wz).1)+((t.nH:Nat):Int)),.int .i64 (((u.wy.getD k wz).2)+((t.nW:Nat):Int))]∧x_=[]):=⟨_,rfl⟩
      refine ⟨(zq1 (zq8 (zq32 (zq32 (zq32 (zq32 (zq32 []))))))),[],q_,(by rw [e11_,e21_]),rfl,(fun _ _ z_=>by subst hq0_;exact z_),?_⟩
      subst hq0_
      exact xcz mn (fun _ h_ H_=>xhv tZ43 tP43 (vs:=[(0,.int .i64 (((u.wy.getD k wz).1)+((t.nH:Nat):Int))),(1,.int .i64 (((u.wy.getD k wz).2)+((t.nW:Nat):Int)))]) rfl (cells:=#[.int .i64 (((u.wy.getD k wz).1)+((t.nH:Nat):Int)),.int .i64 (((u.wy.getD k wz).2)+((t.nW:Nat):Int))]) rfl) ⟨rfl,rfl⟩
     refine xak rfl (xcj ?_) ?_
     ·
      intro val24 pc25 hQ_ hX_
      have e22_:val24 22= .agg #[.int .i64 (((u.wy.getD k wz).1)+((t.nH:Nat):Int)),.int .i64 (((u.wy.getD k wz).2)+((t.nW:Nat):Int))]:=(hQ_ 22 rfl).1
      obtain ⟨q_,hq0_⟩: ∃ q_:Value→Pcs→Prop,q_=(fun v_ x_=>OwnS 43 2 v_ [[.int .i64 (((u.wy.getD k wz).1)+((t.nH:Nat):Int)),.int .i64 (((u.wy.getD k wz).2)+((t.nW:Nat):Int))]] x_):=⟨_,rfl⟩
      refine ⟨(zq1 (zq8 (zq32 (zq32 (zq32 (zq32 (zq32 []))))))),[],q_,(by rw [e22_]),rfl,(fun _ _ z_=>by subst hq0_;exact z_),?_⟩
      subst hq0_
      exact xnj mn Tryd.underlying23 tS43 tZ43 (Nat.le_of_ble_eq_true rfl) (vs:=[(0,.agg #[.int .i64 (((u.wy.getD k wz).1)+((t.nH:Nat):Int)),.int .i64 (((u.wy.getD k wz).2)+((t.nW:Nat):Int))])]) rfl rfl (es:=[[.int .i64 (((u.wy.getD k wz).1)+((t.nH:Nat):Int)),.int .i64 (((u.wy.getD k wz).2)+((t.nW:Nat):Int))]]) rfl rfl rfl fun _ _ o_=>o_
     exact xlx rfl
    intro val24 pc25 hQ_ hX_
    have e0_:val24 0= .pointer (some ⟨b14,2,none⟩):=(hQ_ 0 (by decide)).1
    have e1_:val24 1=w_:=(hQ_ 1 (by decide)).1
    have e2_:val24 2= .pointer (some ⟨b2,2,none⟩):=(hQ_ 2 (by decide)).1
    have e3_:val24 3= .slice a3' u.m c3':=(hQ_ 3 (by decide)).1
    have e4_:val24 4= .int .i64 (((k:Nat):Int)):=(hQ_ 4 (by decide)).1
    have e5_:val24 5= .pointer (some ((adr a3').add (k*2))):=(hQ_ 5 (by decide)).1
    have e6_:val24 6= .pointer (some ((adr a3').add (k*2))):=(hQ_ 6 (by decide)).1
    have e7_:val24 7= .int .i64 ((u.wy.getD k wz).1):=(hQ_ 7 (by decide)).1
    have e8_:val24 8= .pointer (some ⟨b1,0,none⟩):=(hQ_ 8 (by decide)).1
    have e9_:val24 9= .slice a1 t.nH c1:=(hQ_ 9 (by decide)).1
    have e10_:val24 10= .int .i64 (((t.nH:Nat):Int)):=(hQ_ 10 (by decide)).1
    have e11_:val24 11= .int .i64 (((u.wy.getD k wz).1)+((t.nH:Nat):Int)):=(hQ_ 11 (by decide)).1
    have e12_:val24 12= .pointer (some ⟨b2,2,none⟩):=(hQ_ 12 (by decide)).1
    have e13_:val24 13= .slice a3' u.m c3':=(hQ_ 13 (by decide)).1
    have e14_:val24 14= .int .i64 (((k:Nat):Int)):=(hQ_ 14 (by decide)).1
    have e15_:val24 15= .pointer (some ((adr a3').add (k*2))):=(hQ_ 15 (by decide)).1
    have e16_:val24 16= .pointer (some (((adr a3').add (k*2)).add 1)):=(hQ_ 16 (by decide)).1
    have e17_:val24 17= .int .i64 ((u.wy.getD k wz).2):=(hQ_ 17 (by decide)).1
    have e18_:val24 18= .pointer (some ⟨b1,1,none⟩):=(hQ_ 18 (by decide)).1
    have e19_:val24 19= .slice a2 t.nW c2:=(hQ_ 19 (by decide)).1
    have e20_:val24 20= .int .i64 (((t.nW:Nat):Int)):=(hQ_ 20 (by decide)).1
    have e21_:val24 21= .int .i64 (((u.wy.getD k wz).2)+((t.nW:Nat):Int)):=(hQ_ 21 (by decide)).1
    have e22_:val24 22= .agg #[.int .i64 (((u.wy.getD k wz).1)+((t.nH:Nat):Int)),.int .i64 (((u.wy.getD k wz).2)+((t.nW:Nat):Int))]:=(hQ_ 22 (by decide)).1
    have q23_:OwnS 43 2 (val24 23) [[.int .i64 (((u.wy.getD k wz).1)+((t.nH:Nat):Int)),.int .i64 (((u.wy.getD k wz).2)+((t.nW:Nat):Int))]] (pc25 23):=hQ_ 23 (by decide)
    have x24_:pc25 24=X1_:=hX_ 24 (by decide)
    have x25_:pc25 25=(pc16 4):=hX_ 25 (by decide)
    have x26_:pc25 26=(pc16 9):=hX_ 26 (by decide)
    clear hQ_ hX_
    refine xwv (Φ:=fun h_=>St h [] p h_ (([(b14,.cells #[(val15 4),(val15 9),w_] 25 (0,0)),(b2,.cells #[.slice a1' u.nH c1',.slice a2' u.nW c2',.slice a3' u.m c3'] 25 (0,0)),(b1,.cells #[.slice a1 t.nH c1,.slice a2 t.nW c2,.slice a3 t.m c3] 25 (0,0))]:Pcs)++(pc25 24++(pc25 25++(pc25 26++(pc25 23++[])))))) ?_ (fun h_ H_=>H_.swap')
    rw [x24_,x25_,x26_]
    refine xgq (tm':=(zq1 (zq8 (zq32 (zq32 (zq32 (zq32 (zq32 [])))))))) (by rw [e0_,e1_,e2_,e3_,e4_,e5_,e6_,e7_,e8_,e9_,e10_,e11_,e12_,e13_,e14_,e15_,e16_,e17_,e18_,e19_,e20_,e21_,e22_]) ?_
    have o28:=q23_
    refine xjz (List.Perm.append_left _ (List.Perm.append_left _ (List.Perm.append_left _ (List.perm_append_comm_assoc _ _ _)))) ?_
    refine xjz (List.Perm.append_left _ (List.Perm.append_left _ (List.perm_append_comm_assoc _ _ _))) ?_
    refine xcq (L':=([(b14,.cells #[(val15 4),(val15 9),w_] 25 (0,0)),(b2,.cells #[.slice a1' u.nH c1',.slice a2' u.nW c2',.slice a3' u.m c3'] 25 (0,0)),(b1,.cells #[.slice a1 t.nH c1,.slice a2 t.nW c2,.slice a3 t.m c3] 25 (0,0))]:Pcs)++(X1_++((pc25 23)++((pc16 4)++((pc16 9)++[]))))) rfl ?_
    refine xrw ([(b14,.cells #[(val15 4),(val15 9),w_] 25 (0,0)),(b2,.cells #[.slice a1' u.nH c1',.slice a2' u.nW c2',.slice a3' u.m c3'] 25 (0,0)),(b1,.cells #[.slice a1 t.nH c1,.slice a2 t.nW c2,.slice a3 t.m c3] 25 (0,0))]:Pcs) X1_ (pc25 23) mn Tryd.underlying23 tS43 tZ43 rfl tB43 Tryd.underlying23 rfl rfl o1_ o28 (xxz rfl) (by rw [wcs_size];simp only [List.length_cons,List.length_nil];omega) (by decide) fun v29 X30 o31=>?_
    refine ro (xaz xhk rfl (a':=⟨b14,2,none⟩) rfl) ?_
    refine xpv mn tS23 rfl (v:=v29) rfl o31.one (i:=0) rfl (Nat.succ_le_iff.1 (Nat.le_of_ble_eq_true rfl)) (cs2:=[(val15 4),(val15 9),v29]) rfl (xcq (L':=([(b14,.cells #[(val15 4),(val15 9),v29] 25 (0,0)),(b2,.cells #[.slice a1' u.nH c1',.slice a2' u.nW c2',.slice a3' u.m c3'] 25 (0,0)),(b1,.cells #[.slice a1 t.nH c1,.slice a2 t.nW c2,.slice a3 t.m c3] 25 (0,0))]:Pcs)++(X30++((pc16 4)++((pc16 9)++[])))) rfl ?_)
    refine xav <| xeq <| xbx <| rt (xaq (v:=.int .i64 (((k:Nat):Int))) rfl) (tm':=zq1 (zq16 (zq32 _))) rfl ?_
    refine ro (xfq rfl rfl (n:=((k+1:Nat):Int)) (wr (by omega))) ?_
    refine ro (xax (v:=.int .i64 (((k+1:Nat):Int))) rfl) <| xav ?_
    exact fun h_ H_=>IH22 _ _ (by omega) h_ ⟨k+1,v29,X30,rfl,(y_of rfl),(by omega),(o31.as ((xyz _ (shift t (u.wy.getD k wz))).trans (congrArg wcs (vcw (by omega))))),H_⟩
   ·
    refine xdx rfl (dff cc23) <| xiz rfl <| xek <| xek ?_
    have kE_:k=u.m:=by omega
    have oC_:=o1_.as (congrArg wcs (wux kE_))
    have hlj_:(join t u).nH≤9223372036854775807∧(join t u).nW≤9223372036854775807∧(join t u).m≤9223372036854775807:=by rw [ytk,zcx,yik];omega
    generalize val15 4=w32 at*
    refine xfz (List.Perm.append_left _ (List.perm_append_comm_assoc _ _ _)) ?_
    refine xkw (L':=([(b14,.cells #[w32,(val15 9),w_] 25 (0,0)),(b2,.cells #[.slice a1' u.nH c1',.slice a2' u.nW c2',.slice a3' u.m c3'] 25 (0,0)),(b1,.cells #[.slice a1 t.nH c1,.slice a2 t.nW c2,.slice a3 t.m c3] 25 (0,0))]:Pcs)++((pc16 4)++(X1_++((pc16 9)++[])))) rfl ?_
    refine xix (A:=([(b14,.cells #[w32,(val15 9),w_] 25 (0,0)),(b2,.cells #[.slice a1' u.nH c1',.slice a2' u.nW c2',.slice a3' u.m c3'] 25 (0,0)),(b1,.cells #[.slice a1 t.nH c1,.slice a2 t.nW c2,.slice a3 t.m c3] 25 (0,0))]:Pcs)) oA_ (show (ics ((join t u).hs)).length=(join t u).nH from xcx _) fun p33 a34 cp35 le36 ev_ D37=>?_
    subst ev_
    generalize val15 9=w38 at*
    refine xfz (List.Perm.append_left _ (List.perm_append_comm_assoc _ _ _)) ?_
    refine xkw (L':=([(b14,.cells #[.slice a34 ((join t u).nH) cp35,w38,w_] 25 (0,0)),(b2,.cells #[.slice a1' u.nH c1',.slice a2' u.nW c2',.slice a3' u.m c3'] 25 (0,0)),(b1,.cells #[.slice a1 t.nH c1,.slice a2 t.nW c2,.slice a3 t.m c3] 25 (0,0))]:Pcs)++((pc16 9)++(X1_++[]))) rfl ?_
    refine xix (A:=([(b14,.cells #[.slice a34 ((join t u).nH) cp35,w38,w_] 25 (0,0)),(b2,.cells #[.slice a1' u.nH c1',.slice a2' u.nW c2',.slice a3' u.m c3'] 25 (0,0)),(b1,.cells #[.slice a1 t.nH c1,.slice a2 t.nW c2,.slice a3 t.m c3] 25 (0,0))]:Pcs)) oB_ (show (ics ((join t u).ws)).length=(join t u).nW from xcx _) fun p39 a40 cp41 le42 ev_ D43=>?_
    subst ev_
    refine xix (A:=([(b14,.cells #[.slice a34 ((join t u).nH) cp35,.slice a40 ((join t u).nW) cp41,w_] 25 (0,0)),(b2,.cells #[.slice a1' u.nH c1',.slice a2' u.nW c2',.slice a3' u.m c3'] 25 (0,0)),(b1,.cells #[.slice a1 t.nH c1,.slice a2 t.nW c2,.slice a3 t.m c3] 25 (0,0))]:Pcs)) oC_ (wcs_size _) fun p44 a45 cp46 le47 ev_ D48=>?_
    subst ev_
    refine xkw (L':=[(b14,.cells #[.slice a34 ((join t u).nH) cp35,.slice a40 ((join t u).nW) cp41,.slice a45 ((join t u).m) cp46] 25 (0,0)),(b2,.cells #[.slice a1' u.nH c1',.slice a2' u.nW c2',.slice a3' u.m c3'] 25 (0,0)),(b1,.cells #[.slice a1 t.nH c1,.slice a2 t.nW c2,.slice a3 t.m c3] 25 (0,0))]) rfl ?_
    refine xbx ?_
    refine xbq mn (fun h_ H_=>xaw H_ tA25 tS25 rfl (i:=0) rfl (vs:=[.slice a34 ((join t u).nH) cp35,.slice a40 ((join t u).nW) cp41,.slice a45 ((join t u).m) cp46]) rfl rfl) (tm':=zq1 (zq4 (zq8 (zq32 (zq32 _))))) rfl ?_
    refine xdv mn (first:=[]) (cap:=[]) rfl rfl fC23 (fun h_ H_=>c23 .lone _ _ H_.pe _ _ _ _ _ _ (join t u) (show TownP _ _ _ _ _ _ _ (join t u) from ⟨(((show Ints _ _ _ ((join t u).hs) from D37).mono le42).mono le47),((show Ints _ _ _ ((join t u).ws) from D43).mono le47),(show Wys _ _ _ ((join t u).wy) from D48)⟩) hlj_) rfl ?_
    refine ro (xgw rfl) <| xav ?_
    rcases xzj (readyB (join t u)) with cc49 | cc49
    ·
     obtain ⟨hfj_,hcj_⟩:=yhk cc49
     have hnj:(join t u).nH≤40∧(join t u).nW≤40∧(join t u).m≤41:=by have z_:=ymx hfj_;unfold Big at z_;omega
     have hOj:OkT (join t u):=xuq hcj_
     obtain ⟨h12j,hVj⟩:=yrx hcj_
     have oHj:=hOj.nh
     have bF_:=wlw hV hVu hO hOu hOj
     refine xdx rfl (xej cc49) <| xdk <| fsr ?_
     refine xbq mn (fun h_ H_=>xaw H_ tA25 tS25 rfl (i:=2) rfl (vs:=[.slice a1 t.nH c1,.slice a2 t.nW c2,.slice a3 t.m c3]) rfl rfl) (tm':=zq2 (zq16 (zq32 (zq32 _)))) rfl ?_
     refine xcq (L':=([(b14,.cells #[.slice a34 ((join t u).nH) cp35,.slice a40 ((join t u).nW) cp41,.slice a45 ((join t u).m) cp46] 25 (0,0)),(b2,.cells #[.slice a1' u.nH c1',.slice a2' u.nW c2',.slice a3' u.m c3'] 25 (0,0)),(b1,.cells #[.slice a1 t.nH c1,.slice a2 t.nW c2,.slice a3 t.m c3] 25 (0,0))]:Pcs)++[]) rfl ?_
     refine xjj mn (first:=[]) (cap:=[]) rfl rfl fC24 (R:=fun v_ h_=>∃ w50:Value,∃ X51:Pcs,v_= .tuple #[w50,.bool (true)]∧(OwnS 3 1 w50 (ics (LK t)) X51)∧St h [] p44 h_ (([(b14,.cells #[.slice a34 ((join t u).nH) cp35,.slice a40 ((join t u).nW) cp41,.slice a45 ((join t u).m) cp46] 25 (0,0)),(b2,.cells #[.slice a1' u.nH c1',.slice a2' u.nW c2',.slice a3' u.m c3'] 25 (0,0)),(b1,.cells #[.slice a1 t.nH c1,.slice a2 t.nW c2,.slice a3 t.m c3] 25 (0,0))]:Pcs)++(X51++[]))) (fun h_ H_=>(c24 .lone _ _ H_.pe _ _ _ _ _ _ t (show TownP _ _ _ _ _ _ _ t from ⟨(((T.h.mono le36).mono le42).mono le47),(((T.w.mono le36).mono le42).mono le47),(((T.y.mono le36).mono le42).mono le47)⟩) (by omega) (((N.mono le36).mono le42).mono le47) hc_).mono fun v_ h2_ ⟨w50,X51,e_,o52,N_⟩=>⟨w50,X51,e_,o52,H_.callNA N_⟩) fun v_=>?_
     refine xgz fun w50=>xgz fun X51=>xfx fun ev_=>xfx fun o52=>?_
     have ev_:=ev_.symm;subst ev_
     refine xcq (L':=([(b14,.cells #[.slice a34 ((join t u).nH) cp35,.slice a40 ((join t u).nW) cp41,.slice a45 ((join t u).m) cp46] 25 (0,0)),(b2,.cells #[.slice a1' u.nH c1',.slice a2' u.nW c2',.slice a3' u.m c3'] 25 (0,0)),(b1,.cells #[.slice a1 t.nH c1,.slice a2 t.nW c2,.slice a3 t.m c3] 25 (0,0))]:Pcs)++(X51++[])) rfl ?_
     refine ro (xaq (v:=.tuple #[w50,.bool (true)]) rfl) <| rt (xdz rfl (v:=w50) rfl) (tm':=zq4 (zq16 (zq32 (zq32 _)))) rfl <| ro (xdz rfl (v:=.bool (true)) rfl) <| ro (xax (v:=w50) rfl) <| rt (xax (v:=.bool (true)) rfl) (tm':=zq1 (zq8 _)) rfl <| ren ?_
     refine xbx <| rd (fun h_ H_=>xaw H_ tA25 tS25 rfl (i:=1) rfl (vs:=[.slice a1' u.nH c1',.slice a2' u.nW c2',.slice a3' u.m c3']) rfl rfl) ?_
     refine xjj mn (first:=[]) (cap:=[]) rfl rfl fC24 (R:=fun v_ h_=>∃ w53:Value,∃ X54:Pcs,v_= .tuple #[w53,.bool (true)]∧(OwnS 3 1 w53 (ics (LK u)) X54)∧St h [] p44 h_ (([(b14,.cells #[.slice a34 ((join t u).nH) cp35,.slice a40 ((join t u).nW) cp41,.slice a45 ((join t u).m) cp46] 25 (0,0)),(b2,.cells #[.slice a1' u.nH c1',.slice a2' u.nW c2',.slice a3' u.m c3'] 25 (0,0)),(b1,.cells #[.slice a1 t.nH c1,.slice a2 t.nW c2,.slice a3 t.m c3] 25 (0,0))]:Pcs)++(X54++(X51++[])))) (fun h_ H_=>(c24 .lone _ _ H_.pe _ _ _ _ _ _ u (show TownP _ _ _ _ _ _ _ u from ⟨(((T'.h.mono le36).mono le42).mono le47),(((T'.w.mono le36).mono le42).mono le47),(((T'.y.mono le36).mono le42).mono le47)⟩) (by omega) (((N.mono le36).mono le42).mono le47) hcu_).mono fun v_ h2_ ⟨w53,X54,e_,o55,N_⟩=>⟨w53,X54,e_,o55,H_.callNA N_⟩) fun v_=>?_
     refine xgz fun w53=>xgz fun X54=>xfx fun ev_=>xfx fun o55=>?_
     have ev_:=ev_.symm;subst ev_
     refine xcq (L':=([(b14,.cells #[.slice a34 ((join t u).nH) cp35,.slice a40 ((join t u).nW) cp41,.slice a45 ((join t u).m) cp46] 25 (0,0)),(b2,.cells #[.slice a1' u.nH c1',.slice a2' u.nW c2',.slice a3' u.m c3'] 25 (0,0)),(b1,.cells #[.slice a1 t.nH c1,.slice a2 t.nW c2,.slice a3 t.m c3] 25 (0,0))]:Pcs)++(X54++(X51++[]))) rfl ?_
     refine rt (xaq (v:=.tuple #[w53,.bool (true)]) rfl) (tm':=zq2 (zq4 (zq16 (zq32 (zq32 _))))) rfl <| ro (xdz rfl (v:=w53) rfl) <| ro (xdz rfl (v:=.bool (true)) rfl) <| rt (xax (v:=w53) rfl) (tm':=zq2 (zq8 _)) rfl <| ro (xax (v:=.bool (true)) rfl) <| ren ?_
     refine xbx <| rd (fun h_ H_=>xaw H_ tA25 tS25 rfl (i:=0) rfl (vs:=[.slice a34 ((join t u).nH) cp35,.slice a40 ((join t u).nW) cp41,.slice a45 ((join t u).m) cp46]) rfl rfl) ?_
     refine xjj mn (first:=[]) (cap:=[]) rfl rfl fC24 (R:=fun v_ h_=>∃ w56:Value,∃ X57:Pcs,v_= .tuple #[w56,.bool (true)]∧(OwnS 3 1 w56 (ics (LK (join t u))) X57)∧St h [] p44 h_ (([(b14,.cells #[.slice a34 ((join t u).nH) cp35,.slice a40 ((join t u).nW) cp41,.slice a45 ((join t u).m) cp46] 25 (0,0)),(b2,.cells #[.slice a1' u.nH c1',.slice a2' u.nW c2',.slice a3' u.m c3'] 25 (0,0)),(b1,.cells #[.slice a1 t.nH c1,.slice a2 t.nW c2,.slice a3 t.m c3] 25 (0,0))]:Pcs)++(X57++(X54++(X51++[]))))) (fun h_ H_=>(c24 .lone _ _ H_.pe _ _ _ _ _ _ (join t u) (show TownP _ _ _ _ _ _ _ (join t u) from ⟨(((show Ints _ _ _ ((join t u).hs) from D37).mono le42).mono le47),((show Ints _ _ _ ((join t u).ws) from D43).mono le47),(show Wys _ _ _ ((join t u).wy) from D48)⟩) (by omega) (((N.mono le36).mono le42).mono le47) hcj_).mono fun v_ h2_ ⟨w56,X57,e_,o58,N_⟩=>⟨w56,X57,e_,o58,H_.callNA N_⟩) fun v_=>?_
     refine xgz fun w56=>xgz fun X57=>xfx fun ev_=>xfx fun o58=>?_
     have ev_:=ev_.symm;subst ev_
     refine xcq (L':=([(b14,.cells #[.slice a34 ((join t u).nH) cp35,.slice a40 ((join t u).nW) cp41,.slice a45 ((join t u).m) cp46] 25 (0,0)),(b2,.cells #[.slice a1' u.nH c1',.slice a2' u.nW c2',.slice a3' u.m c3'] 25 (0,0)),(b1,.cells #[.slice a1 t.nH c1,.slice a2 t.nW c2,.slice a3 t.m c3] 25 (0,0))]:Pcs)++(X57++(X54++(X51++[])))) rfl ?_
     refine xgq (tm':=zq1 (zq4 (zq8 (zq16 (zq32 (zq32 _)))))) rfl ?_
     refine ro (xaq (v:=.tuple #[w56,.bool (true)]) rfl) <| ro (xdz rfl (v:=w56) rfl) <| rt (xdz rfl (v:=.bool (true)) rfl) (tm':=zq1 (zq2 (zq4 (zq8 (zq16 (zq32 (zq32 _))))))) rfl <| ro (xax (v:=w56) rfl) <| ro (xax (v:=.bool (true)) rfl) <| ren ?_
     refine xbx ?_
     refine xbq mn (fun h_ H_=>xaw H_ tA25 tS25 rfl (i:=2) rfl (vs:=[.slice a1 t.nH c1,.slice a2 t.nW c2,.slice a3 t.m c3]) rfl rfl) (tm':=zq1 (zq32 (zq32 (zq32 _)))) rfl ?_
     refine xdv mn (first:=[]) (cap:=[]) rfl rfl fC28 (fun h_ H_=>yfk .lone H_.pe (show TownP _ _ _ _ _ _ _ t from ⟨(((T.h.mono le36).mono le42).mono le47),(((T.w.mono le36).mono le42).mono le47),(((T.y.mono le36).mono le42).mono le47)⟩) (by omega) (((N.mono le36).mono le42).mono le47) hc_) rfl ?_
     refine ro (xaq (v:=.tuple #[.int .i64 (mostV t),.int .i64 0]) rfl) <| rt (xdz rfl (v:=.int .i64 (mostV t)) rfl) (tm':=zq1 (zq2 (zq32 (zq32 (zq32 _))))) rfl <| ro (xdz rfl (v:=.int .i64 0) rfl) <| ro (xax (v:=.int .i64 (mostV t)) rfl) <| rt (xax (v:=.int .i64 0) rfl) (tm':=zq1 (zq2 (zq4 (zq8 _)))) rfl <| ren ?_
     refine xbx <| rd (fun h_ H_=>xaw H_ tA25 tS25 rfl (i:=1) rfl (vs:=[.slice a1' u.nH c1',.slice a2' u.nW c2',.slice a3' u.m c3']) rfl rfl) ?_
     refine xdv mn (first:=[]) (cap:=[]) rfl rfl fC28 (fun h_ H_=>yfk .lone H_.pe (show TownP _ _ _ _ _ _ _ u from ⟨(((T'.h.mono le36).mono le42).mono le47),(((T'.w.mono le36).mono le42).mono le47),(((T'.y.mono le36).mono le42).mono le47)⟩) (by omega) (((N.mono le36).mono le42).mono le47) hcu_) rfl ?_
     refine rt (xaq (v:=.tuple #[.int .i64 (mostV u),.int .i64 0]) rfl) (tm':=zq1 (zq4 (zq32 (zq32 (zq32 _))))) rfl <| ro (xdz rfl (v:=.int .i64 (mostV u)) rfl) <| ro (xdz rfl (v:=.int .i64 0) rfl) <| rt (xax (v:=.int .i64 (mostV u)) rfl) (tm':=zq16 _) rfl <| ro (xax (v:=.int .i64 0) rfl) <| ren ?_
     refine xbx <| rd (fun h_ H_=>xaw H_ tA25 tS25 rfl (i:=0) rfl (vs:=[.slice a34 ((join t u).nH) cp35,.slice a40 ((join t u).nW) cp41,.slice a45 ((join t u).m) cp46]) rfl rfl) ?_
     refine xdv mn (first:=[]) (cap:=[]) rfl rfl fC28 (fun h_ H_=>yfk .lone H_.pe (show TownP _ _ _ _ _ _ _ (join t u) from ⟨(((show Ints _ _ _ ((join t u).hs) from D37).mono le42).mono le47),((show Ints _ _ _ ((join t u).ws) from D43).mono le47),(show Wys _ _ _ ((join t u).wy) from D48)⟩) (by omega) (((N.mono le36).mono le42).mono le47) hcj_) (tm':=zq4 (zq8 (zq32 (zq32 (zq32 _))))) rfl ?_
     refine ro (xaq (v:=.tuple #[.int .i64 (mostV (join t u)),.int .i64 0]) rfl) <| ro (xdz rfl (v:=.int .i64 (mostV (join t u))) rfl) <| rt (xdz rfl (v:=.int .i64 0) rfl) (tm':=zq2 (zq4 (zq8 (zq32 (zq32 (zq32 _)))))) rfl <| ro (xax (v:=.int .i64 (mostV (join t u))) rfl) <| ro (xax (v:=.int .i64 0) rfl) <| ren ?_
     refine fsr <| rt (xaq (v:=.bool (true)) rfl) (tm':=zq1 (zq2 (zq4 (zq8 (zq32 (zq32 (zq32 _))))))) rfl <| ro (xgw rfl) <| ro (xaq (v:=.bool (!true)) rfl) ?_
     refine xbq (ms rfl rfl (xej rfl)) (fun h_ H_=>xaq (v:=.bool (true)) rfl) (tm':=zq1 (zq8 (zq32 (zq32 (zq32 (zq32 (zq32 []))))))) rfl ?_
     refine xbq (ms rfl rfl (xej rfl)) (fun h_ H_=>xgw rfl) rfl ?_
     refine ro (xck rfl (xej rfl) (v:=.bool (!true)) rfl) <| rt (xaq (v:=.bool (!true)) rfl) (tm':=zq1 (zq8 (zq32 (zq32 (zq32 (zq32 (zq32 []))))))) rfl ?_
     refine xbq (ms rfl rfl (xej rfl)) (fun h_ H_=>xaq (v:=.bool (true)) rfl) rfl ?_
     refine xbq (ms rfl rfl (xej rfl)) (fun h_ H_=>xgw rfl) rfl ?_
     refine rt (xck rfl (xej rfl) (v:=.bool (!true)) rfl) (tm':=zq1 (zq8 (zq32 (zq32 (zq32 (zq32 (zq32 []))))))) rfl <| ro (xaq (v:=.bool (!true)) rfl) ?_
     refine xbq (ms rfl rfl (xej rfl)) (fun h_ H_=>xaq (v:=.int .i64 0) rfl) rfl ?_
     refine xbq (ms rfl rfl (xej rfl)) (fun h_ H_=>xkk rfl rfl) (tm':=zq1 (zq8 (zq32 (zq32 (zq32 (zq32 (zq32 []))))))) rfl ?_
     refine ro (xck rfl (xej rfl) (v:=.bool (decide ((0:Int)≠0))) rfl) <| ro (xaq (v:=.bool (decide ((0:Int)≠0))) rfl) ?_
     refine xbq (ms rfl rfl (decide_eq_false (by decide))) (fun h_ H_=>xaq (v:=.int .i64 0) rfl) (tm':=zq1 (zq8 (zq32 (zq32 (zq32 (zq32 (zq32 []))))))) rfl ?_
     refine xbq (ms rfl rfl (decide_eq_false (by decide))) (fun h_ H_=>xkk rfl rfl) rfl ?_
     refine ro (xck rfl (decide_eq_false (by decide)) (v:=.bool (decide ((0:Int)≠0))) rfl) ?_
     refine rt (xaq (v:=.bool (decide ((0:Int)≠0))) rfl) (tm':=zq1 (zq8 (zq32 (zq32 (zq32 (zq32 (zq32 []))))))) rfl ?_
     refine xbq (ms rfl rfl (decide_eq_false (by decide))) (fun h_ H_=>xaq (v:=.int .i64 0) rfl) rfl ?_
     refine xbq (ms rfl rfl (decide_eq_false (by decide))) (fun h_ H_=>xkk rfl rfl) rfl ?_
     refine rt (xck rfl (decide_eq_false (by decide)) (v:=.bool (decide ((0:Int)≠0))) rfl) (tm':=zq1 (zq8 (zq32 (zq32 (zq32 (zq32 (zq32 []))))))) rfl ?_
     refine ro (xaq (v:=.bool (decide ((0:Int)≠0))) rfl) ?_
     refine xbq (ms rfl rfl (decide_eq_false (by decide))) (fun h_ H_=>xaq (v:=.int .i64 (mostV t)) rfl) rfl ?_
     refine xbq (ms rfl rfl (decide_eq_false (by decide))) (fun h_ H_=>xaq (v:=.int .i64 (mostV u)) rfl) (tm':=zq1 (zq8 (zq32 (zq32 (zq32 (zq32 (zq32 []))))))) rfl ?_
     refine xbq (ms rfl rfl (decide_eq_false (by decide))) (fun h_ H_=>yuk rfl rfl) rfl ?_
     refine xbq (ms rfl rfl (decide_eq_false (by decide))) (fun h_ H_=>xgk rfl rfl) rfl ?_
     refine rt (xck rfl (decide_eq_false (by decide)) (v:=.bool (decide (min (mostV t) (mostV u)<0))) rfl) (tm':=zq1 (zq8 (zq32 (zq32 (zq32 (zq32 (zq32 []))))))) rfl ?_
     refine ro (xaq (v:=.bool (decide (min (mostV t) (mostV u)<0))) rfl) ?_
     refine xbq (ms rfl rfl (decide_eq_false (by omega))) (fun h_ H_=>xaq (v:=.int .i64 (mostV t)) rfl) rfl ?_
     refine xbq (ms rfl rfl (decide_eq_false (by omega))) (fun h_ H_=>xaq (v:=.int .i64 (mostV u)) rfl) (tm':=zq1 (zq8 (zq32 (zq32 (zq32 (zq32 (zq32 []))))))) rfl ?_
     refine xbq (ms rfl rfl (decide_eq_false (by omega))) (fun h_ H_=>wkv rfl rfl) rfl ?_
     refine xbq (ms rfl rfl (decide_eq_false (by omega))) (fun h_ H_=>xjq rfl rfl) rfl ?_
     refine rt (xck rfl (decide_eq_false (by omega)) (v:=.bool (decide (100<max (mostV t) (mostV u)))) rfl) (tm':=zq1 (zq8 (zq32 (zq32 (zq32 (zq32 (zq32 []))))))) rfl ?_
     refine ro (xaq (v:=.bool (decide (100<max (mostV t) (mostV u)))) rfl) ?_
     refine xbq (ms rfl rfl (decide_eq_false (by omega))) (fun h_ H_=>xaq (v:=.int .i64 (mostV (join t u))) rfl) rfl ?_
     refine xbq (ms rfl rfl (decide_eq_false (by omega))) (fun h_ H_=>xaq (v:=.int .i64 (mostV t)) rfl) (tm':=zq1 (zq8 (zq32 (zq32 (zq32 (zq32 (zq32 []))))))) rfl ?_
     refine xbq (ms rfl rfl (decide_eq_false (by omega))) (fun h_ H_=>xaq (v:=.int .i64 (mostV u)) rfl) rfl ?_
     refine xbq (ms rfl rfl (decide_eq_false (by omega))) (fun h_ H_=>xfq rfl rfl (wr (by omega))) rfl ?_
     refine xbq (ms rfl rfl (decide_eq_false (by omega))) (fun h_ H_=>xkk rfl rfl) (tm':=zq1 (zq8 (zq32 (zq32 (zq32 (zq32 (zq32 []))))))) rfl ?_
     refine ro (xck rfl (decide_eq_false (by omega)) (v:=.bool (decide (mostV (join t u)≠(mostV t)+(mostV u)))) rfl) ?_
     refine xav <| xdx rfl (decide_eq_false (fun z_=>z_ bF_.most)) <| xdk <| xek <| xek ?_
     refine xfz (List.Perm.append_left _ (List.perm_append_comm_assoc _ _ _)) ?_
     refine xkw (L':=([(b14,.cells #[.slice a34 ((join t u).nH) cp35,.slice a40 ((join t u).nW) cp41,.slice a45 ((join t u).m) cp46] 25 (0,0)),(b2,.cells #[.slice a1' u.nH c1',.slice a2' u.nW c2',.slice a3' u.m c3'] 25 (0,0)),(b1,.cells #[.slice a1 t.nH c1,.slice a2 t.nW c2,.slice a3 t.m c3] 25 (0,0))]:Pcs)++(X54++(X57++(X51++[])))) rfl ?_
     refine xix (A:=([(b14,.cells #[.slice a34 ((join t u).nH) cp35,.slice a40 ((join t u).nW) cp41,.slice a45 ((join t u).m) cp46] 25 (0,0)),(b2,.cells #[.slice a1' u.nH c1',.slice a2' u.nW c2',.slice a3' u.m c3'] 25 (0,0)),(b1,.cells #[.slice a1 t.nH c1,.slice a2 t.nW c2,.slice a3 t.m c3] 25 (0,0))]:Pcs)) o55 ((xcx _).trans (xpj _)) fun p59 a60 cp61 le62 ev_ D63=>?_
     subst ev_
     refine xix (A:=([(b14,.cells #[.slice a34 ((join t u).nH) cp35,.slice a40 ((join t u).nW) cp41,.slice a45 ((join t u).m) cp46] 25 (0,0)),(b2,.cells #[.slice a1' u.nH c1',.slice a2' u.nW c2',.slice a3' u.m c3'] 25 (0,0)),(b1,.cells #[.slice a1 t.nH c1,.slice a2 t.nW c2,.slice a3 t.m c3] 25 (0,0))]:Pcs)) o58 ((xcx _).trans (xpj _)) fun p64 a65 cp66 le67 ev_ D68=>?_
     subst ev_
     refine xbx <| ro (xax (v:=.int .i64 0) rfl) <| xav <| xez ?_
     refine xiv (m₀:=u.nH-0) (fun m_ tm_ h_=>∃ (k2:Nat) (w2_:Value) (X2_:Pcs),m_=u.nH-k2∧(∃ y69:Nat→Value,tm_=[.agg #[.slice a1 t.nH c1,.slice a2 t.nW c2,.slice a3 t.m c3],.agg #[.slice a1' u.nH c1',.slice a2' u.nW c2',.slice a3' u.m c3'],.pointer (some ⟨b1,0,none⟩),.pointer (some ⟨b2,0,none⟩),.bool (false),.pointer (some ⟨b14,0,none⟩),.int .i64 (((k:Nat):Int)),w2_,.bool (true),.slice a60 u.nH cp61,.bool (true),.slice a65 ((join t u).nH) cp66,.bool (true),.int .i64 (mostV t),.int .i64 0,.int .i64 (mostV u),.int .i64 0,.int .i64 (mostV (join t u)),.int .i64 0,.int .i64 (((k2:Nat):Int)),.agg #[.slice a1 t.nH c1,.slice a2 t.nW c2,.slice a3 t.m c3],.bool (readyB t),.bool (!(readyB t)),.bool (!(readyB t)),.agg #[.slice a1' u.nH c1',.slice a2' u.nW c2',.slice a3' u.m c3'],.bool (readyB u),.bool (!(readyB u)),.bool (!(readyB u)),undef,.agg #[.slice a1 t.nH c1,.slice a2 t.nW c2,.slice a3 t.m c3],.agg #[w5,w6,w7],.pointer (some ⟨b14,0,none⟩),w5,.pointer (some ⟨b2,0,none⟩),.slice a1' u.nH c1',.slice a34 ((join t u).nH) cp35,.pointer (some ⟨b14,1,none⟩),w6,.pointer (some ⟨b2,1,none⟩),.slice a2' u.nW c2',.slice a40 ((join t u).nW) cp41,.pointer (some ⟨b14,0,none⟩),.pointer (some ⟨b14,1,none⟩),.int .i64 (((k:Nat):Int)),.pointer (some ⟨b2,2,none⟩),.slice a3' u.m c3',.int .i64 (((u.m:Nat):Int)),.bool (decide (((k:Nat):Int)<((u.m:Nat):Int))),(y21 48),(y21 49),(y21 50),(y21 51),(y21 52),(y21 53),(y21 54),(y21 55),(y21 56),(y21 57),(y21 58),(y21 59),(y21 60),(y21 61),(y21 62),(y21 63),(y21 64),(y21 65),(y21 66),(y21 67),(y21 68),(y21 69),(y21 70),(y21 71),(y21 72),(y21 73),(y21 74),(y21 75),.agg #[.slice a34 ((join t u).nH) cp35,.slice a40 ((join t u).nW) cp41,.slice a45 ((join t u).m) cp46],.bool (readyB (join t u)),.bool (!(readyB (join t u))),undef,.tuple #[w50,.bool (true)],.agg #[.slice a1 t.nH c1,.slice a2 t.nW c2,.slice a3 t.m c3],.tuple #[w50,.bool (true)],w50,.bool (true),.tuple #[.slice a60 u.nH cp61,.bool (true)],.agg #[.slice a1' u.nH c1',.slice a2' u.nW c2',.slice a3' u.m c3'],.tuple #[.slice a60 u.nH cp61,.bool (true)],.slice a60 u.nH cp61,.bool (true),.tuple #[.slice a65 ((join t u).nH) cp66,.bool (true)],.agg #[.slice a34 ((join t u).nH) cp35,.slice a40 ((join t u).nW) cp41,.slice a45 ((join t u).m) cp46],.tuple #[.slice a65 ((join t u).nH) cp66,.bool (true)],.slice a65 ((join t u).nH) cp66,.bool (true),.tuple #[.int .i64 (mostV t),.int .i64 0],.agg #[.slice a1 t.nH c1,.slice a2 t.nW c2,.slice a3 t.m c3],.tuple #[.int .i64 (mostV t),.int .i64 0],.int .i64 (mostV t),.int .i64 0,.tuple #[.int .i64 (mostV u),.int .i64 0],.agg #[.slice a1' u.nH c1',.slice a2' u.nW c2',.slice a3' u.m c3'],.tuple #[.int .i64 (mostV u),.int .i64 0],.int .i64 (mostV u),.int .i64 0,.tuple #[.int .i64 (mostV (join t u)),.int .i64 0],.agg #[.slice a34 ((join t u).nH) cp35,.slice a40 ((join t u).nW) cp41,.slice a45 ((join t u).m) cp46],.tuple #[.int .i64 (mostV (join t u)),.int .i64 0],.int .i64 (mostV (join t u)),.int .i64 0,.bool (true),.bool (!true),.bool (!true),.bool (true),.bool (!true),.bool (!true),.bool (!true),.bool (true),.bool (!true),.bool (!true),.bool (!true),.int .i64 0,.bool (decide ((0:Int)≠0)),.bool (decide ((0:Int)≠0)),.bool (decide ((0:Int)≠0)),.int .i64 0,.bool (decide ((0:Int)≠0)),.bool (decide ((0:Int)≠0)),.bool (decide ((0:Int)≠0)),.int .i64 0,.bool (decide ((0:Int)≠0)),.bool (decide ((0:Int)≠0)),.bool (decide ((0:Int)≠0)),.int .i64 (mostV t),.int .i64 (mostV u),.int .i64 (min (mostV t) (mostV u)),.bool (decide (min (mostV t) (mostV u)<0)),.bool (decide (min (mostV t) (mostV u)<0)),.bool (decide (min (mostV t) (mostV u)<0)),.int .i64 (mostV t),.int .i64 (mostV u),.int .i64 (max (mostV t) (mostV u)),.bool (decide (100<max (mostV t) (mostV u))),.bool (decide (100<max (mostV t) (mostV u))),.bool (decide (100<max (mostV t) (mostV u))),.int .i64 (mostV (join t u)),.int .i64 (mostV t),.int .i64 (mostV u),.int .i64 ((mostV t)+(mostV u)),.bool (decide (mostV (join t u)≠(mostV t)+(mostV u))),.bool (decide (mostV (join t u)≠(mostV t)+(mostV u))),(y69 151),(y69 152),(y69 153),(y69 154),(y69 155),(y69 156),(y69 157),(y69 158),(y69 159),(y69 160),(y69 161),(y69 162),undef,undef,undef,undef,undef,undef])∧(k2≤u.nH)∧(OwnS 3 1 w2_ (ics (putK t u k2)) X2_)∧St h [] p64 h_ (([(b14,.cells #[.slice a34 ((join t u).nH) cp35,.slice a40 ((join t u).nW) cp41,.slice a45 ((join t u).m) cp46] 25 (0,0)),(b2,.cells #[.slice a1' u.nH c1',.slice a2' u.nW c2',.slice a3' u.m c3'] 25 (0,0)),(b1,.cells #[.slice a1 t.nH c1,.slice a2 t.nW c2,.slice a3 t.m c3] 25 (0,0))]:Pcs)++(X2_++[]))) (fun h_ H_=>⟨0,w50,X51,rfl,(y_of rfl),Nat.zero_le _,o52,H_⟩) ?_
     intro m_ tm_ IH70
     refine xhj fun k2=>xhj fun w2_=>xhj fun X2_=>xcw fun hm_=>xcw fun ht_=>xcw fun hk2=>xcw fun o2_=>?_
     subst hm_;obtain ⟨y69,ht_⟩:=ht_;subst ht_
     refine xek <| fsr <| rt (xaq (v:=.int .i64 (((k2:Nat):Int))) rfl) (tm':=zq1 (zq8 (zq32 (zq32 (zq32 (zq32 (zq32 []))))))) rfl <| ro (xaq (v:=.slice a60 u.nH cp61) rfl) <| ro (xfk Tryd.underlying22 rfl) <| rt (xgk rfl rfl) (tm':=zq1 (zq8 (zq32 (zq32 (zq32 (zq32 (zq32 []))))))) rfl ?_
     refine xav ?_
     by_cases cc71:((k2:Nat):Int)<((u.nH:Nat):Int)
     ·
      refine xdw rfl (dtt cc71) <| xdk <| xek <| xez <| xbx <| ro (xaq (v:=w2_) rfl) ?_
      refine ro (xaq (v:=.slice a60 u.nH cp61) rfl) <| rt (xaq (v:=.int .i64 (((k2:Nat):Int))) rfl) (tm':=zq1 (zq8 (zq32 (zq32 (zq32 (zq32 (zq32 []))))))) rfl ?_
      refine ro (xbw (i:=k2) Tryd.underlying22 tS3 (xkj a60 u.nH cp61 (((show Ints _ _ _ (LK u) from D63).mono le67).ne (by omega))) rfl (by omega)) ?_
      refine rd (fun h_ H_=>xbv H_ tA3 rfl (v:=.int .i64 ((LK u).getD k2 0)) (((show Ints _ _ _ (LK u) from D63).mono le67).get (by omega))) ?_
      refine xjj mn (first:=[]) (cap:=[]) rfl rfl fC29 (R:=fun v_ h_=>∃ w72:Value,∃ X73:Pcs,v_=w72∧(OwnS 3 1 w72 (ics (put (putK t u k2) ((LK u).getD k2 0))) X73)∧St h [] p64 h_ (([(b14,.cells #[.slice a34 ((join t u).nH) cp35,.slice a40 ((join t u).nW) cp41,.slice a45 ((join t u).m) cp46] 25 (0,0)),(b2,.cells #[.slice a1' u.nH c1',.slice a2' u.nW c2',.slice a3' u.m c3'] 25 (0,0)),(b1,.cells #[.slice a1 t.nH c1,.slice a2 t.nW c2,.slice a3 t.m c3] 25 (0,0))]:Pcs)++(X73++(X2_++[])))) (fun h_ H_=>(show CallsX Tryd.prog .lone 29 #[w2_,.int .i64 ((LK u).getD k2 0)] h_ (fun v_ h2_=>∃ w_ Y_,v_=w_∧OwnS 3 1 w_ (ics (put (putK t u k2) ((LK u).getD k2 0))) Y_∧New h_ h2_ Y_) from zbw (n:=(putK t u k2).length) o2_ (xcx _) H_ (fun x_ h_=>by simp [h_]) fun p_ a_ c_ hp_ _ hv_ D_=>by rw [hv_];exact c29 .lone _ _ hp_ _ _ _ (putK t u k2) (show Ints _ _ _ (putK t u k2) from D_) ⟨(by rw [zsv (by omega)];omega),OwnS.room o2_ (by decide) hv_⟩ ((LK u).getD k2 0)).mono fun v_ h2_ ⟨w72,X73,e_,o74,N_⟩=>⟨w72,X73,e_,o74,H_.callNA N_⟩) fun v_=>?_
      refine xgz fun w72=>xgz fun X73=>xfx fun ev_=>xfx fun o74=>?_
      have ev_:=ev_.symm;subst ev_
      refine xcq (L':=([(b14,.cells #[.slice a34 ((join t u).nH) cp35,.slice a40 ((join t u).nW) cp41,.slice a45 ((join t u).m) cp46] 25 (0,0)),(b2,.cells #[.slice a1' u.nH c1',.slice a2' u.nW c2',.slice a3' u.m c3'] 25 (0,0)),(b1,.cells #[.slice a1 t.nH c1,.slice a2 t.nW c2,.slice a3 t.m c3] 25 (0,0))]:Pcs)++(X73++(X2_++[]))) rfl ?_
      refine xgq (tm':=zq1 (zq8 (zq32 (zq32 (zq32 (zq32 (zq32 []))))))) rfl ?_
      refine ro (xax (v:=w72) rfl) <| xav <| xeq <| xbx <| ro (xaq (v:=.int .i64 (((k2:Nat):Int))) rfl) ?_
      refine rt (xfq rfl rfl (n:=((k2+1:Nat):Int)) (wr (by omega))) (tm':=zq1 (zq8 (zq32 (zq32 (zq32 (zq32 (zq32 []))))))) rfl ?_
      refine ro (xax (v:=.int .i64 (((k2+1:Nat):Int))) rfl) <| xav ?_
      refine xfz (List.Perm.append_left _ (List.perm_append_comm_assoc _ _ _)) ?_
      refine xkw (L':=([(b14,.cells #[.slice a34 ((join t u).nH) cp35,.slice a40 ((join t u).nW) cp41,.slice a45 ((join t u).m) cp46] 25 (0,0)),(b2,.cells #[.slice a1' u.nH c1',.slice a2' u.nW c2',.slice a3' u.m c3'] 25 (0,0)),(b1,.cells #[.slice a1 t.nH c1,.slice a2 t.nW c2,.slice a3 t.m c3] 25 (0,0))]:Pcs)++(X2_++(X73++[]))) rfl ?_
      exact fun h_ H_=>IH70 _ _ (by omega) h_ ⟨k2+1,w72,X73,rfl,(y_of rfl),(by omega),(o74.as (congrArg ics (wgv (by omega)))),H_.dropX⟩
     ·
      refine xdx rfl (dff cc71) <| xiz rfl <| xek ?_
      have kF_:k2=u.nH:=by omega
      have oD_:=o2_.as (congrArg ics ((congrArg (putK t u) kF_).trans bF_.lk))
      refine xix (A:=([(b14,.cells #[.slice a34 ((join t u).nH) cp35,.slice a40 ((join t u).nW) cp41,.slice a45 ((join t u).m) cp46] 25 (0,0)),(b2,.cells #[.slice a1' u.nH c1',.slice a2' u.nW c2',.slice a3' u.m c3'] 25 (0,0)),(b1,.cells #[.slice a1 t.nH c1,.slice a2 t.nW c2,.slice a3 t.m c3] 25 (0,0))]:Pcs)) oD_ ((xcx _).trans (xpj _)) fun p75 a76 cp77 le78 ev_ D79=>?_
      subst ev_
      refine xkw (L':=[(b14,.cells #[.slice a34 ((join t u).nH) cp35,.slice a40 ((join t u).nW) cp41,.slice a45 ((join t u).m) cp46] 25 (0,0)),(b2,.cells #[.slice a1' u.nH c1',.slice a2' u.nW c2',.slice a3' u.m c3'] 25 (0,0)),(b1,.cells #[.slice a1 t.nH c1,.slice a2 t.nW c2,.slice a3 t.m c3] 25 (0,0))]) rfl ?_
      refine xbx <| ro (xaq (v:=.slice a76 ((join t u).nH) cp77) rfl) <| rt (xaq (v:=.slice a65 ((join t u).nH) cp66) rfl) (tm':=zq1 (zq8 (zq32 (zq32 (zq32 (zq32 (zq32 []))))))) rfl ?_
      refine xdv mn (first:=[]) (cap:=[]) rfl rfl fC27 (fun h_ H_=>c27 .lone _ _ H_.pe _ _ _ _ _ _ _ _ (show Ints _ _ _ (LK (join t u)) from D79) ((show Ints _ _ _ (LK (join t u)) from D68).mono le78) (by omega)) rfl ?_
      refine ro (xaq (v:=.bool (decide ((LK (join t u))=(LK (join t u))))) rfl) ?_
      refine xdv (ms rfl rfl (decide_eq_true rfl)) (first:=[]) (cap:=[]) rfl rfl fC16 (fun h_ H_=>c16 .lone _ _ H_.pe ((((((N.mono le36).mono le42).mono le47).mono le62).mono le67).mono le78) ((((((Z.mono le36).mono le42).mono le47).mono le62).mono le67).mono le78)) (tm':=zq1 (zq8 (zq32 (zq32 (zq32 (zq32 (zq32 []))))))) rfl ?_
      refine ro (xdj rfl (decide_eq_true rfl) (v:=.bool (true)) rfl) <| ro (xax (v:=.bool (true)) rfl) <| xav ?_
      refine xqv Tryd.func5 rfl (vs:=[.bool (true)]) (fun h_ H_=>⟨.bool (true),_,rfl,rfl,rfl⟩) (v:=.bool (true)) rfl ?_
      exact fun h_ H_=>⟨rfl,H_.kept⟩
    ·
     refine xdw rfl (xhw cc49) <| fsr ?_
     refine xdv mn (first:=[]) (cap:=[]) rfl rfl fC16 (fun h_ H_=>c16 .lone _ _ H_.pe (((N.mono le36).mono le42).mono le47) (((Z.mono le36).mono le42).mono le47)) (tm':=zq16 (zq32 (zq32 _))) rfl ?_
     refine ro (xax (v:=.bool (true)) rfl) <| xav ?_
     refine xqv Tryd.func5 rfl (vs:=[.bool (true)]) (fun h_ H_=>⟨.bool (true),_,rfl,rfl,rfl⟩) (v:=.bool (true)) rfl ?_
     exact fun h_ H_=>⟨rfl,H_.kept⟩
  ·
   refine xdw rfl (xhw cc4) <| fsr ?_
   refine xdv mn (first:=[]) (cap:=[]) rfl rfl fC16 (fun h_ H_=>c16 .lone _ _ H_.pe N Z) rfl ?_
   refine rt (xax (v:=.bool (true)) rfl) (tm':=zq1 (zq4 _)) rfl <| xav ?_
   refine xqv Tryd.func5 rfl (vs:=[.bool (true)]) (fun h_ H_=>⟨.bool (true),_,rfl,rfl,rfl⟩) (v:=.bool (true)) rfl ?_
   exact fun h_ H_=>⟨rfl,H_.kept⟩
 ·
  refine rp (mo rfl rfl (xhw cc3)) <| rp (mo rfl rfl (xhw cc3)) <| xfj (mo rfl rfl (xhw cc3)) (tm':=zq1 (zq2 (zq8 (zq16 _)))) rfl <| ro (xdj rfl (xhw cc3) (v:=.bool (true)) rfl) <| xav <| xdw rfl rfl ?_
  refine fsr ?_
  refine xdv mn (first:=[]) (cap:=[]) rfl rfl fC16 (fun h_ H_=>c16 .lone _ _ H_.pe N Z) rfl ?_
  refine rt (xax (v:=.bool (true)) rfl) (tm':=zq1 (zq4 _)) rfl <| xav ?_
  refine xqv Tryd.func5 rfl (vs:=[.bool (true)]) (fun h_ H_=>⟨.bool (true),_,rfl,rfl,rfl⟩) (v:=.bool (true)) rfl ?_
  exact fun h_ H_=>⟨rfl,H_.kept⟩
end Go.Proofs.YtalfgojocdonhaaDoor
namespace Go.Proofs.YtalfgojocdonhaaDoor
open Go.X Go.X.Flow Go.Conc Go.RowKit Go.ChangeShapes Go.WideShapes Go.ChangeAt Go.Joins
set_option maxRecDepth 100000

theorem vbj (os:Os) (started:os.Started) (H:Type) (enc:TypeId × Value→H):
    ReturnsInHanded {} Tryd.checked os 5 .any (fun w args=>(Rows.bucketsBesideSpec.pre enc Tryd.prog Tryd.f5 Rows.bucketsBesideRow.domain false w args∧laidMetH Tryd.prog Rows.bucketsBesideRow.laid w)∧sizedMet enc Tryd.prog Tryd.f5 (OpenSpec.ofChange Rows.bucketsBesideSpec) false w args) (Rows.bucketsBesideSpec.post enc Tryd.prog Tryd.f5 false true false false):=by
  refine returnsInHanded_of_change_and (C:=Tryd.checked) (X:=fun w _=>laidMetH Tryd.prog Rows.bucketsBesideRow.laid w) (fun _ _ _ hh h=>h.of_heap hh) pOwn started (by kernel_rfl) Tryd.func5
    (ChangeSpec.witness_shaped (enc:=enc) (C:=Tryd.checked) (os:=os) (X:=fun w _=>laidMetH Tryd.prog Rows.bucketsBesideRow.laid w) false (laidW os) #[.agg #[.slice none 0 0,.slice none 0 0,.slice none 0 0],.agg #[.slice none 0 0,.slice none 0 0,.slice none 0 0]] 8 (World.laidAll_os _ _ _)
      (World.shaped_of_ZipB (by kernel_rfl) (by kernel_rfl)) (by kernel_rfl) (by kernel_rfl) (by kernel_rfl) (ytj os _)) ?_
  intro W base args ds gs before hval0 hW _ _ hL _
  have hval: ∀ (j:Nat) t v,Tryd.f5.params[j]?=some t→args[j]?=some v→Value.okWide Tryd.prog W .any base t v:=hval0
  have hW2:=hW
  obtain ⟨p,q,hA0,hV,rfl,_,_⟩:=hW2
  have hA:DataW.TrodAll enc Tryd.prog W 0 (fun _=>true) true Tryd.f5.params.toList args.toList ds p:=hA0
  rw [Tryd.params5] at hA hval
  obtain ⟨v0,v1,d0,d1,p0,p1,rfl,rfl,_,h0,h1⟩:=trodAll_two hA
  obtain ⟨rfl,rfl⟩:=trodVars_none hV
  obtain ⟨a1,c1,a2,c2,a3,c3,t,rfl,hl,_,T⟩:=yiz (hval 0 25 v0 rfl rfl) h0
  obtain ⟨a1',c1',a2',c2',a3',c3',t',rfl,hl',_,T'⟩:=yiz (hval 1 25 v1 rfl rfl) h1
  refine (xyq (e5 W.heap (pW W) (whj W) a1 a2 a3 c1 c2 c3 t T hl a1' a2' a3' c1' c2' c3' t' T' hl' (ycq hL) (yfq hL))).mono fun e W2 ⟨v,he,⟨hv,hk_⟩,cl⟩=>⟨v,he,?_⟩
  subst hv
  exact zcq vaz rfl (fun t ht=>by rw [Tryd.params5] at ht;revert t;decide +kernel) rfl Tryd.underlying4 hW rfl (zdk hk_ cl)

theorem bucketsBesideRowHolds:Rows.BucketsBesideSaid:=
  OpenClaim.holds_of_wide 5 Tryd.f5 rfl rfl rfl rfl rfl rfl rfl ⟨rfl,rfl,rfl,rfl,rfl⟩ rfl rfl rfl rfl rfl (by kernel_rfl) Tryd.func5 (by kernel_rfl)
    (of_decide_eq_true (by kernel_rfl)) (by unfold Func.isWrapper;first | (rw [if_pos (by decide +kernel)];kernel_rfl) | (rw [if_neg (by decide +kernel)];exact ⟨rfl,rfl⟩))
    (fun os started H enc _=>vbj os started H enc)

theorem bucketsBesideHolds:Rows.BucketsBesideCardSaid:=
  Claim7.holds_tied_plain_at .later [] [.data, .data, .data] true (true, "5334d201df14a8cbe7ef60c793562a47fe331153d035b74b45b1c636860d1486") false bucketsBesideRowHolds (fun _ h => by cases h) (by kernel_rfl) (fun _ h => by cases h) bucketsBeside_row_tie rfl ⟨rfl, rfl⟩ (by kernel_rfl) rfl
    (fun f fn hf hfn=>by
      obtain rfl : f = 5 := Option.some.inj ((show Tryd.prog.funcNamed "steening/steeninglaw03.BucketsBeside" = some 5 by kernel_rfl).symm.trans hf) |>.symm
      obtain rfl:fn= Tryd.f5:=(Option.some.inj (Tryd.func5.symm.trans hfn)).symm
      exact ⟨by kernel_rfl,fun j t ht=>by
        rw [Tryd.params5] at ht
        have hm:t∈[25,25]:=by simpa using Array.mem_of_getElem? ht
        have hall:([25,25].all fun u=>!Tryd.prog.wantsStandIn u)=true:=by kernel_rfl
        exact (show Tryd.prog.wantsStandIn t=false by simpa using List.all_eq_true.1 hall t hm)⟩)
    (by kernel_rfl)

#print axioms bucketsBesideHolds
end Go.Proofs.YtalfgojocdonhaaDoor
