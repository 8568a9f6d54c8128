/-
  BucketsMore, for every input: the law returns true and leaves its arguments as they were. The row, and the tied card.
-/
import Derived.Test.YtalfgojocdonhaaDoorD2
import Derived.Test.YtalfgojocdonhaaDoorD1
import Derived.Test.YtalfgojocdonhaaDoorD3
import Derived.Test.YtalfgojocdonhaaDoorD4
import Derived.Test.YtalfgojocdonhaaDoorD5
import Derived.Test.YtalfgojocdonhaaDoorCards
import Derived.Test.YtalfgojocdonhaaDoorTie
namespace Go.Proofs.YtalfgojocdonhaaDoor
open Go.X Go.X.Flow Go.Conc
set_option maxRecDepth 10000
set_option synthInstance.maxSize 2000

set_option maxHeartbeats 2000000
theorem e12 (h:Heap) (p:PHeap) (hp:Per p h) (a1 a2 a3:Option Addr) (c1 c2 c3:Nat) (t:Tn) (T:TownP p a1 t.nH a2 t.nW a3 t.m t) (hl:t.nH≤9223372036854775807∧t.nW≤9223372036854775807∧t.m≤9223372036854775807) (hcap:t.m≤c3) (x y:Int) (N:NoneP p) (Z:TabP p):EntersL Tryd.prog 12 #[.agg #[.slice a1 t.nH c1,.slice a2 t.nW c2,.slice a3 t.m c3],.agg #[.int .i64 (x),.int .i64 (y)]] h fun v h'=>v= .bool true∧Keep h h':=by
 refine yak (Φ:=fun h_=>St h [] p h_ []) Tryd.func12 rfl (tm:=zq1 (zq4 (zq32 (zq32 (zq32 (zq32 (zq32 (zq32 [])))))))) rfl ?_ (St.start h _ hp)
 intro cs
 refine fsr ?_
 refine xjx mn (v:=.agg #[.slice a1 t.nH c1,.slice a2 t.nW c2,.slice a3 t.m c3]) rfl fun b1=>xcq (L':=[(b1,.cells #[.slice a1 t.nH c1,.slice a2 t.nW c2,.slice a3 t.m c3] 25 (0,0))]) rfl ?_
 refine xjx mn (v:=.agg #[.int .i64 (x),.int .i64 (y)]) rfl fun b2=>xcq (L':=[(b2,.cells #[.int .i64 (x),.int .i64 (y)] 43 (0,0)),(b1,.cells #[.slice a1 t.nH c1,.slice a2 t.nW c2,.slice a3 t.m c3] 25 (0,0))]) rfl ?_
 refine rt (xax (v:=.bool (false)) rfl) (tm':=zq1 (zq4 _)) rfl <| ren <| fsr <| rd (fun h_ H_=>xaw H_ tA25 tS25 rfl (i:=1) rfl (vs:=[.slice a1 t.nH c1,.slice a2 t.nW c2,.slice a3 t.m c3]) rfl rfl) ?_
 refine xdv mn (first:=[]) (cap:=[]) rfl rfl fC23 (fun h_ H_=>c23 .lone _ _ H_.pe _ _ _ _ _ _ t (show TownP _ _ _ _ _ _ _ t from ⟨T.h,T.w,T.y⟩) hl) rfl ?_
 refine rt (xgw rfl) (tm':=zq2 (zq8 (zq16 _))) rfl <| ro (xaq (v:=.bool (!(readyB t))) rfl) ?_
 rcases xzj (readyB t) with cc3 | cc3
 ·
  obtain ⟨hf_,hc_⟩:=yhk cc3
  have hn:t.nH≤40∧t.nW≤40∧t.m≤41:=by have z_:=ymx hf_;unfold Big at z_;omega
  have hO:OkT t:=xuq hc_
  obtain ⟨h12,hV⟩:=yrx hc_
  have oH:=hO.nh
  have aB_:=znv hO
  have hl9_:=yyz (t:=t) (k:=t.nW)
  refine xbq (ms rfl rfl (xej cc3)) (fun h_ H_=>xaw H_ tA25 tS25 rfl (i:=1) rfl (vs:=[.slice a1 t.nH c1,.slice a2 t.nW c2,.slice a3 t.m c3]) rfl rfl) rfl ?_
  refine xbq (ms rfl rfl (xej cc3)) (fun h_ H_=>xaz xoj rfl (a':=⟨b2,0,none⟩) rfl) (tm':=zq1 (zq4 (zq8 (zq16 _)))) rfl ?_
  refine xbq (ms rfl rfl (xej cc3)) (fun h_ H_=>xaj H_ tA3 rfl (i:=0) rfl (v:=.int .i64 (x)) rfl) rfl ?_
  refine xdv (ms rfl rfl (xej cc3)) (first:=[]) (cap:=[]) rfl rfl fC33 (fun h_ H_=>c33 .lone _ _ H_.pe _ _ _ _ _ _ _ _ _ t (show TownP _ _ _ _ _ _ _ t from ⟨T.h,T.w,T.y⟩) (by omega) (x)) rfl ?_
  refine xbq (ms rfl rfl (xej cc3)) (fun h_ H_=>xgw rfl) (tm':=zq32 _) rfl ?_
  refine ro (xck rfl (xej cc3) (v:=.bool (!(decide (0≤x∧x≤(t.nH:Int)-1)))) rfl) <| ro (xaq (v:=.bool (!(decide (0≤x∧x≤(t.nH:Int)-1)))) rfl) ?_
  by_cases cc4:0≤x∧x≤(t.nH:Int)-1
  ·
   have hx_:=cc4
   refine xbq (ms rfl rfl (xej (dtt cc4))) (fun h_ H_=>xaw H_ tA25 tS25 rfl (i:=1) rfl (vs:=[.slice a1 t.nH c1,.slice a2 t.nW c2,.slice a3 t.m c3]) rfl rfl) (tm':=zq1 (zq2 (zq32 _))) rfl ?_
   refine xbq (ms rfl rfl (xej (dtt cc4))) (fun h_ H_=>xaz xpx rfl (a':=⟨b2,1,none⟩) rfl) rfl ?_
   refine xbq (ms rfl rfl (xej (dtt cc4))) (fun h_ H_=>xaj H_ tA3 rfl (i:=0) rfl (v:=.int .i64 (y)) rfl) rfl ?_
   refine xdv (ms rfl rfl (xej (dtt cc4))) (first:=[]) (cap:=[]) rfl rfl fC57 (fun h_ H_=>c57 .lone _ _ H_.pe _ _ _ _ _ _ _ _ _ t (show TownP _ _ _ _ _ _ _ t from ⟨T.h,T.w,T.y⟩) (by omega) (y)) (tm':=zq2 (zq4 (zq32 _))) rfl ?_
   refine xbq (ms rfl rfl (xej (dtt cc4))) (fun h_ H_=>xgw rfl) rfl ?_
   refine ro (xck rfl (xej (dtt cc4)) (v:=.bool (!(decide (0≤y∧y≤(t.nW:Int)-1)))) rfl) <| rt (xaq (v:=.bool (!(decide (0≤y∧y≤(t.nW:Int)-1)))) rfl) (tm':=zq1 (zq8 (zq32 _))) rfl ?_
   by_cases cc5:0≤y∧y≤(t.nW:Int)-1
   ·
    have hy_:=cc5
    have pF_:=zzj hV hO hy_
    have hnp_:(pour t y.toNat).nH≤40∧(pour t y.toNat).nW≤40∧(pour t y.toNat).m≤41:=⟨hn.1,by rw [ymq];exact hn.2.1,hn.2.2⟩
    have hnw_:(withT t (x,y)).nH≤40∧(withT t (x,y)).nW≤40∧(withT t (x,y)).m≤41:=⟨hn.1,hn.2.1,by rw [wck];omega⟩
    refine xbq (ms rfl rfl (xej (dtt cc5))) (fun h_ H_=>xaw H_ tA25 tS25 rfl (i:=1) rfl (vs:=[.slice a1 t.nH c1,.slice a2 t.nW c2,.slice a3 t.m c3]) rfl rfl) rfl ?_
    refine xbq (ms rfl rfl (xej (dtt cc5))) (fun h_ H_=>xaz xoj rfl (a':=⟨b2,0,none⟩) rfl) rfl ?_
    refine xbq (ms rfl rfl (xej (dtt cc5))) (fun h_ H_=>xaj H_ tA3 rfl (i:=0) rfl (v:=.int .i64 (x)) rfl) (tm':=zq4 (zq8 (zq32 _))) rfl ?_
    refine xbq (ms rfl rfl (xej (dtt cc5))) (fun h_ H_=>xaz xpx rfl (a':=⟨b2,1,none⟩) rfl) rfl ?_
    refine xbq (ms rfl rfl (xej (dtt cc5))) (fun h_ H_=>xaj H_ tA3 rfl (i:=0) rfl (v:=.int .i64 (y)) rfl) rfl ?_
    refine xdv (ms rfl rfl (xej (dtt cc5))) (first:=[]) (cap:=[]) rfl rfl fC51 (fun h_ H_=>c51 .lone _ _ H_.pe _ _ _ _ _ _ t (show TownP _ _ _ _ _ _ _ t from ⟨T.h,T.w,T.y⟩) (by omega) hO (x) (y)) (tm':=zq1 (zq2 (zq4 (zq8 (zq32 _))))) rfl ?_
    refine ro (xck rfl (xej (dtt cc5)) (v:=.bool (moreB t (x) (y))) rfl) <| xav ?_
    rcases xzj (moreB t (x) (y)) with cc6 | cc6
    ·
     refine xdw rfl cc6 <| fsr ?_
     refine xdv mn (first:=[]) (cap:=[]) rfl rfl fC16 (fun h_ H_=>c16 .lone _ _ H_.pe N Z) rfl ?_
     refine rt (xax (v:=.bool (true)) rfl) (tm':=zq1 (zq4 _)) rfl <| xav ?_
     refine xqv Tryd.func12 rfl (vs:=[.bool (true)]) (fun h_ H_=>⟨.bool (true),_,rfl,rfl,rfl⟩) (v:=.bool (true)) rfl ?_
     exact fun h_ H_=>⟨rfl,H_.kept⟩
    ·
     refine xdx rfl cc6 <| xdk <| fsr <| rd (fun h_ H_=>xaw H_ tA25 tS25 rfl (i:=1) rfl (vs:=[.slice a1 t.nH c1,.slice a2 t.nW c2,.slice a3 t.m c3]) rfl rfl) ?_
     refine xcq (L':=([(b2,.cells #[.int .i64 (x),.int .i64 (y)] 43 (0,0)),(b1,.cells #[.slice a1 t.nH c1,.slice a2 t.nW c2,.slice a3 t.m c3] 25 (0,0))]:Pcs)++[]) rfl ?_
     refine xjj mn (first:=[]) (cap:=[]) rfl rfl fC24 (R:=fun v_ h_=>∃ w7:Value,∃ X8:Pcs,v_= .tuple #[w7,.bool (true)]∧(OwnS 3 1 w7 (ics (LK t)) X8)∧St h [] p h_ (([(b2,.cells #[.int .i64 (x),.int .i64 (y)] 43 (0,0)),(b1,.cells #[.slice a1 t.nH c1,.slice a2 t.nW c2,.slice a3 t.m c3] 25 (0,0))]:Pcs)++(X8++[]))) (fun h_ H_=>(c24 .lone _ _ H_.pe _ _ _ _ _ _ t (show TownP _ _ _ _ _ _ _ t from ⟨T.h,T.w,T.y⟩) (by omega) N hc_).mono fun v_ h2_ ⟨w7,X8,e_,o9,N_⟩=>⟨w7,X8,e_,o9,H_.callNA N_⟩) fun v_=>?_
     refine xgz fun w7=>xgz fun X8=>xfx fun ev_=>xfx fun o9=>?_
     have ev_:=ev_.symm;subst ev_
     refine xcq (L':=([(b2,.cells #[.int .i64 (x),.int .i64 (y)] 43 (0,0)),(b1,.cells #[.slice a1 t.nH c1,.slice a2 t.nW c2,.slice a3 t.m c3] 25 (0,0))]:Pcs)++(X8++[])) rfl ?_
     refine rt (xaq (v:=.tuple #[w7,.bool (true)]) rfl) (tm':=zq2 (zq16 (zq32 _))) rfl <| ro (xdz rfl (v:=w7) rfl) <| ro (xdz rfl (v:=.bool (true)) rfl) <| rt (xax (v:=w7) rfl) (tm':=zq2 (zq4 _)) rfl <| ro (xax (v:=.bool (true)) rfl) <| ren ?_
     refine xbx <| rd (fun h_ H_=>xaw H_ tA25 tS25 rfl (i:=1) rfl (vs:=[.slice a1 t.nH c1,.slice a2 t.nW c2,.slice a3 t.m c3]) rfl rfl) ?_
     refine xdv mn (first:=[]) (cap:=[]) rfl rfl fC28 (fun h_ H_=>yfk .lone H_.pe (show TownP _ _ _ _ _ _ _ t from ⟨T.h,T.w,T.y⟩) (by omega) N hc_) (tm':=zq1 (zq8 (zq16 (zq32 _)))) rfl ?_
     refine ro (xaq (v:=.tuple #[.int .i64 (mostV t),.int .i64 0]) rfl) <| ro (xdz rfl (v:=.int .i64 (mostV t)) rfl) <| rt (xdz rfl (v:=.int .i64 0) rfl) (tm':=zq1 (zq2 (zq8 (zq16 (zq32 _))))) rfl <| ro (xax (v:=.int .i64 (mostV t)) rfl) <| ro (xax (v:=.int .i64 0) rfl) <| ren ?_
     refine xbx ?_
     refine xbq mn (fun h_ H_=>xaw H_ tA25 tS25 rfl (i:=1) rfl (vs:=[.slice a1 t.nH c1,.slice a2 t.nW c2,.slice a3 t.m c3]) rfl rfl) (tm':=zq1 (zq4 (zq8 (zq16 (zq32 _))))) rfl ?_
     refine xjj mn (first:=[]) (cap:=[]) rfl rfl fC53 (R:=fun v_ h_=>∃ w10:Value,∃ X11:Pcs,v_= .tuple #[w10,.int .i64 0]∧(OwnS 3 1 w10 (ics (helpsF t t.nW)) X11)∧St h [] p h_ (([(b2,.cells #[.int .i64 (x),.int .i64 (y)] 43 (0,0)),(b1,.cells #[.slice a1 t.nH c1,.slice a2 t.nW c2,.slice a3 t.m c3] 25 (0,0))]:Pcs)++(X11++(X8++[])))) (fun h_ H_=>(wrx .lone H_.pe (show TownP _ _ _ _ _ _ _ t from ⟨T.h,T.w,T.y⟩) (by omega) N hc_).mono fun v_ h2_ ⟨w10,X11,e_,o12,N_⟩=>⟨w10,X11,e_,o12,H_.callNA N_⟩) fun v_=>?_
     refine xgz fun w10=>xgz fun X11=>xfx fun ev_=>xfx fun o12=>?_
     have ev_:=ev_.symm;subst ev_
     refine xcq (L':=([(b2,.cells #[.int .i64 (x),.int .i64 (y)] 43 (0,0)),(b1,.cells #[.slice a1 t.nH c1,.slice a2 t.nW c2,.slice a3 t.m c3] 25 (0,0))]:Pcs)++(X11++(X8++[]))) rfl ?_
     refine ro (xaq (v:=.tuple #[w10,.int .i64 0]) rfl) <| rt (xdz rfl (v:=w10) rfl) (tm':=zq1 (zq2 (zq4 (zq8 (zq16 (zq32 _)))))) rfl <| ro (xdz rfl (v:=.int .i64 0) rfl) <| ro (xax (v:=w10) rfl) <| rt (xax (v:=.int .i64 0) rfl) (tm':=zq1 (zq2 (zq8 _))) rfl <| ren ?_
     refine xek ?_
     refine xfz (List.Perm.append_left _ (List.perm_append_comm_assoc _ _ _)) ?_
     refine xkw (L':=([(b2,.cells #[.int .i64 (x),.int .i64 (y)] 43 (0,0)),(b1,.cells #[.slice a1 t.nH c1,.slice a2 t.nW c2,.slice a3 t.m c3] 25 (0,0))]:Pcs)++(X8++(X11++[]))) rfl ?_
     refine xix (A:=([(b2,.cells #[.int .i64 (x),.int .i64 (y)] 43 (0,0)),(b1,.cells #[.slice a1 t.nH c1,.slice a2 t.nW c2,.slice a3 t.m c3] 25 (0,0))]:Pcs)) o9 ((xcx _).trans (xpj _)) fun p13 a14 cp15 le16 ev_ D17=>?_
     subst ev_
     refine xix (A:=([(b2,.cells #[.int .i64 (x),.int .i64 (y)] 43 (0,0)),(b1,.cells #[.slice a1 t.nH c1,.slice a2 t.nW c2,.slice a3 t.m c3] 25 (0,0))]:Pcs)) o12 ((xcx _).trans rfl) fun p18 a19 cp20 le21 ev_ D22=>?_
     subst ev_
     refine xkw (L':=[(b2,.cells #[.int .i64 (x),.int .i64 (y)] 43 (0,0)),(b1,.cells #[.slice a1 t.nH c1,.slice a2 t.nW c2,.slice a3 t.m c3] 25 (0,0))]) rfl ?_
     refine xbx <| ro (xaq (v:=.bool (true)) rfl) <| ro (xgw rfl) <| rt (xaq (v:=.bool (!true)) rfl) (tm':=zq1 (zq2 (zq32 (zq32 _)))) rfl ?_
     refine xbq (ms rfl rfl (xej rfl)) (fun h_ H_=>xaq (v:=.int .i64 0) rfl) rfl ?_
     refine xbq (ms rfl rfl (xej rfl)) (fun h_ H_=>xkk rfl rfl) rfl ?_
     refine rt (xck rfl (xej rfl) (v:=.bool (decide ((0:Int)≠0))) rfl) (tm':=zq2 (zq4 (zq32 (zq32 _)))) rfl <| ro (xaq (v:=.bool (decide ((0:Int)≠0))) rfl) ?_
     refine xbq (ms rfl rfl (decide_eq_false (by decide))) (fun h_ H_=>xaq (v:=.int .i64 0) rfl) rfl ?_
     refine xbq (ms rfl rfl (decide_eq_false (by decide))) (fun h_ H_=>xkk rfl rfl) (tm':=zq1 (zq8 (zq32 (zq32 _)))) rfl ?_
     refine ro (xck rfl (decide_eq_false (by decide)) (v:=.bool (decide ((0:Int)≠0))) rfl) ?_
     refine ro (xaq (v:=.bool (decide ((0:Int)≠0))) rfl) ?_
     refine xbq (ms rfl rfl (decide_eq_false (by decide))) (fun h_ H_=>xaq (v:=.slice a19 ((helpsF t t.nW).length) cp20) rfl) (tm':=zq4 (zq8 (zq32 (zq32 _)))) rfl ?_
     refine xbq (ms rfl rfl (decide_eq_false (by decide))) (fun h_ H_=>xfk Tryd.underlying22 rfl) rfl ?_
     refine xbq (ms rfl rfl (decide_eq_false (by decide))) (fun h_ H_=>xaz xmz rfl (a':=⟨b1,1,none⟩) rfl) rfl ?_
     refine xbq (ms rfl rfl (decide_eq_false (by decide))) (fun h_ H_=>xaj H_ tA22 rfl (i:=1) rfl (v:=.slice a2 t.nW c2) rfl) (tm':=zq1 (zq2 (zq4 (zq8 (zq32 (zq32 _)))))) rfl ?_
     refine xbq (ms rfl rfl (decide_eq_false (by decide))) (fun h_ H_=>xfk Tryd.underlying22 rfl) rfl ?_
     refine xbq (ms rfl rfl (decide_eq_false (by decide))) (fun h_ H_=>xjq rfl rfl) rfl ?_
     refine rt (xck rfl (decide_eq_false (by decide)) (v:=.bool (decide (((t.nW:Nat):Int)<(((helpsF t t.nW).length:Nat):Int)))) rfl) (tm':=zq2 (zq16 (zq32 (zq32 _)))) rfl ?_
     refine xav ?_
     refine xdx rfl (decide_eq_false (by omega)) ?_
     refine xdk <| xek <| fsr <| rd (fun h_ H_=>xaw H_ tA25 tS25 rfl (i:=1) rfl (vs:=[.slice a1 t.nH c1,.slice a2 t.nW c2,.slice a3 t.m c3]) rfl rfl) <| ro (xaz xpx rfl (a':=⟨b2,1,none⟩) rfl) ?_
     refine xbq mn (fun h_ H_=>xaj H_ tA3 rfl (i:=0) rfl (v:=.int .i64 (y)) rfl) (tm':=zq1 (zq4 (zq16 (zq32 (zq32 _))))) rfl ?_
     refine xcq (L':=([(b2,.cells #[.int .i64 (x),.int .i64 (y)] 43 (0,0)),(b1,.cells #[.slice a1 t.nH c1,.slice a2 t.nW c2,.slice a3 t.m c3] 25 (0,0))]:Pcs)++[]) rfl ?_
     refine xjj mn (first:=[]) (cap:=[]) rfl rfl fC58 (R:=fun v_ h_=>∃ w23:Value,∃ w24:Value,∃ w25:Value,∃ X26:Pcs,∃ X27:Pcs,∃ X28:Pcs,v_= .agg #[w23,w24,w25]∧(OwnS 3 1 w23 (ics (pour t (y).toNat).hs) X26)∧(OwnS 3 1 w24 (ics (pour t (y).toNat).ws) X27)∧(OwnS 43 2 w25 (wcs (pour t (y).toNat).wy) X28)∧St h [] p18 h_ (([(b2,.cells #[.int .i64 (x),.int .i64 (y)] 43 (0,0)),(b1,.cells #[.slice a1 t.nH c1,.slice a2 t.nW c2,.slice a3 t.m c3] 25 (0,0))]:Pcs)++((X27++(X28++(X26++[])))++[]))) (fun h_ H_=>(c58 .lone _ _ H_.pe _ _ _ _ _ _ t (show TownP _ _ _ _ _ _ _ t from ⟨((T.h.mono le16).mono le21),((T.w.mono le16).mono le21),((T.y.mono le16).mono le21)⟩) (by omega) hO (y) hy_).mono fun v_ h2_ ⟨w23,w24,w25,X26,X27,X28,e_,o29,o30,o31,N_⟩=>⟨w23,w24,w25,X26,X27,X28,e_,o29,o30,o31,H_.callNA N_⟩) fun v_=>?_
     refine xgz fun w23=>xgz fun w24=>xgz fun w25=>xgz fun X26=>xgz fun X27=>xgz fun X28=>xfx fun ev_=>xfx fun o29=>xfx fun o30=>xfx fun o31=>?_
     have ev_:=ev_.symm;subst ev_
     refine xcq (L':=([(b2,.cells #[.int .i64 (x),.int .i64 (y)] 43 (0,0)),(b1,.cells #[.slice a1 t.nH c1,.slice a2 t.nW c2,.slice a3 t.m c3] 25 (0,0))]:Pcs)++(X27++(X28++(X26++[])))) (by simp) ?_
     refine xkx mn tZ25 rfl fun b32=>xcq (L':=([(b32,.cells #[.slice none 0 0,.slice none 0 0,.slice none 0 0] 25 (0,0)),(b2,.cells #[.int .i64 (x),.int .i64 (y)] 43 (0,0)),(b1,.cells #[.slice a1 t.nH c1,.slice a2 t.nW c2,.slice a3 t.m c3] 25 (0,0))]:Pcs)++(X27++(X28++(X26++[])))) rfl ?_
     refine xiq mn tS25 rfl (v:=.agg #[w23,w24,w25]) rfl (i:=0) rfl rfl (xew o29.one.2 (xew o30.one.2 (xew o31.one.2 rfl))) (Nat.le_of_ble_eq_true rfl) (cs2:=[w23,w24,w25]) rfl (xcq (L':=([(b32,.cells #[w23,w24,w25] 25 (0,0)),(b2,.cells #[.int .i64 (x),.int .i64 (y)] 43 (0,0)),(b1,.cells #[.slice a1 t.nH c1,.slice a2 t.nW c2,.slice a3 t.m c3] 25 (0,0))]:Pcs)++(X27++(X28++(X26++[])))) rfl ?_)
     refine ren ?_
     refine xfz (List.Perm.append_left _ (List.Perm.append_left _ (List.perm_append_comm_assoc _ _ _))) ?_
     refine xfz (List.Perm.append_left _ (List.perm_append_comm_assoc _ _ _)) ?_
     refine xkw (L':=([(b32,.cells #[w23,w24,w25] 25 (0,0)),(b2,.cells #[.int .i64 (x),.int .i64 (y)] 43 (0,0)),(b1,.cells #[.slice a1 t.nH c1,.slice a2 t.nW c2,.slice a3 t.m c3] 25 (0,0))]:Pcs)++(X26++(X27++(X28++[])))) rfl ?_
     refine xix (A:=([(b32,.cells #[w23,w24,w25] 25 (0,0)),(b2,.cells #[.int .i64 (x),.int .i64 (y)] 43 (0,0)),(b1,.cells #[.slice a1 t.nH c1,.slice a2 t.nW c2,.slice a3 t.m c3] 25 (0,0))]:Pcs)) o29 (show (ics ((pour t (y).toNat).hs)).length=(pour t (y).toNat).nH from xcx _) fun p33 a34 cp35 le36 ev_ D37=>?_
     subst ev_
     refine xix (A:=([(b32,.cells #[.slice a34 ((pour t (y).toNat).nH) cp35,w24,w25] 25 (0,0)),(b2,.cells #[.int .i64 (x),.int .i64 (y)] 43 (0,0)),(b1,.cells #[.slice a1 t.nH c1,.slice a2 t.nW c2,.slice a3 t.m c3] 25 (0,0))]:Pcs)) o30 (show (ics ((pour t (y).toNat).ws)).length=(pour t (y).toNat).nW from xcx _) fun p38 a39 cp40 le41 ev_ D42=>?_
     subst ev_
     refine xix (A:=([(b32,.cells #[.slice a34 ((pour t (y).toNat).nH) cp35,.slice a39 ((pour t (y).toNat).nW) cp40,w25] 25 (0,0)),(b2,.cells #[.int .i64 (x),.int .i64 (y)] 43 (0,0)),(b1,.cells #[.slice a1 t.nH c1,.slice a2 t.nW c2,.slice a3 t.m c3] 25 (0,0))]:Pcs)) o31 (wcs_size _) fun p43 a44 cp45 le46 ev_ D47=>?_
     subst ev_
     refine xkw (L':=[(b32,.cells #[.slice a34 ((pour t (y).toNat).nH) cp35,.slice a39 ((pour t (y).toNat).nW) cp40,.slice a44 ((pour t (y).toNat).m) cp45] 25 (0,0)),(b2,.cells #[.int .i64 (x),.int .i64 (y)] 43 (0,0)),(b1,.cells #[.slice a1 t.nH c1,.slice a2 t.nW c2,.slice a3 t.m c3] 25 (0,0))]) rfl ?_
     refine xbx ?_
     refine xbq mn (fun h_ H_=>xaw H_ tA25 tS25 rfl (i:=0) rfl (vs:=[.slice a34 ((pour t (y).toNat).nH) cp35,.slice a39 ((pour t (y).toNat).nW) cp40,.slice a44 ((pour t (y).toNat).m) cp45]) rfl rfl) (tm':=zq1 (zq2 (zq4 (zq16 (zq32 (zq32 _)))))) rfl ?_
     refine xdv mn (first:=[]) (cap:=[]) rfl rfl fC48 (fun h_ H_=>c48 .lone _ _ H_.pe _ _ _ _ _ _ _ _ _ (pour t (y).toNat) (show TownP _ _ _ _ _ _ _ (pour t (y).toNat) from ⟨(((show Ints _ _ _ ((pour t (y).toNat).hs) from D37).mono le41).mono le46),((show Ints _ _ _ ((pour t (y).toNat).ws) from D42).mono le46),(show Wys _ _ _ ((pour t (y).toNat).wy) from D47)⟩) (by omega)) rfl ?_
     refine ro (xmw rfl rfl) <| xav ?_
     by_cases cc48:chkB (pour t (y).toNat)=0
     ·
      have hcp_:=cc48
      refine xdw rfl (dtt cc48) <| fsr ?_
      refine xbq mn (fun h_ H_=>xaw H_ tA25 tS25 rfl (i:=0) rfl (vs:=[.slice a34 ((pour t (y).toNat).nH) cp35,.slice a39 ((pour t (y).toNat).nW) cp40,.slice a44 ((pour t (y).toNat).m) cp45]) rfl rfl) (tm':=zq1 (zq2 (zq8 (zq16 (zq32 (zq32 _)))))) rfl ?_
      refine xcq (L':=([(b32,.cells #[.slice a34 ((pour t (y).toNat).nH) cp35,.slice a39 ((pour t (y).toNat).nW) cp40,.slice a44 ((pour t (y).toNat).m) cp45] 25 (0,0)),(b2,.cells #[.int .i64 (x),.int .i64 (y)] 43 (0,0)),(b1,.cells #[.slice a1 t.nH c1,.slice a2 t.nW c2,.slice a3 t.m c3] 25 (0,0))]:Pcs)++[]) rfl ?_
      refine xjj mn (first:=[]) (cap:=[]) rfl rfl fC24 (R:=fun v_ h_=>∃ w49:Value,∃ X50:Pcs,v_= .tuple #[w49,.bool (true)]∧(OwnS 3 1 w49 (ics (LK (pour t (y).toNat))) X50)∧St h [] p43 h_ (([(b32,.cells #[.slice a34 ((pour t (y).toNat).nH) cp35,.slice a39 ((pour t (y).toNat).nW) cp40,.slice a44 ((pour t (y).toNat).m) cp45] 25 (0,0)),(b2,.cells #[.int .i64 (x),.int .i64 (y)] 43 (0,0)),(b1,.cells #[.slice a1 t.nH c1,.slice a2 t.nW c2,.slice a3 t.m c3] 25 (0,0))]:Pcs)++(X50++[]))) (fun h_ H_=>(c24 .lone _ _ H_.pe _ _ _ _ _ _ (pour t (y).toNat) (show TownP _ _ _ _ _ _ _ (pour t (y).toNat) from ⟨(((show Ints _ _ _ ((pour t (y).toNat).hs) from D37).mono le41).mono le46),((show Ints _ _ _ ((pour t (y).toNat).ws) from D42).mono le46),(show Wys _ _ _ ((pour t (y).toNat).wy) from D47)⟩) (by omega) (((((N.mono le16).mono le21).mono le36).mono le41).mono le46) hcp_).mono fun v_ h2_ ⟨w49,X50,e_,o51,N_⟩=>⟨w49,X50,e_,o51,H_.callNA N_⟩) fun v_=>?_
      refine xgz fun w49=>xgz fun X50=>xfx fun ev_=>xfx fun o51=>?_
      have ev_:=ev_.symm;subst ev_
      refine xcq (L':=([(b32,.cells #[.slice a34 ((pour t (y).toNat).nH) cp35,.slice a39 ((pour t (y).toNat).nW) cp40,.slice a44 ((pour t (y).toNat).m) cp45] 25 (0,0)),(b2,.cells #[.int .i64 (x),.int .i64 (y)] 43 (0,0)),(b1,.cells #[.slice a1 t.nH c1,.slice a2 t.nW c2,.slice a3 t.m c3] 25 (0,0))]:Pcs)++(X50++[])) rfl ?_
      refine ro (xaq (v:=.tuple #[w49,.bool (true)]) rfl) <| rt (xdz rfl (v:=w49) rfl) (tm':=zq1 (zq4 (zq8 (zq16 (zq32 (zq32 _)))))) rfl <| ro (xdz rfl (v:=.bool (true)) rfl) <| ro (xax (v:=w49) rfl) <| rt (xax (v:=.bool (true)) rfl) (tm':=zq2 (zq4 (zq8 _))) rfl <| ren ?_
      refine xbx <| rd (fun h_ H_=>xaw H_ tA25 tS25 rfl (i:=0) rfl (vs:=[.slice a34 ((pour t (y).toNat).nH) cp35,.slice a39 ((pour t (y).toNat).nW) cp40,.slice a44 ((pour t (y).toNat).m) cp45]) rfl rfl) ?_
      refine xdv mn (first:=[]) (cap:=[]) rfl rfl fC28 (fun h_ H_=>yfk .lone H_.pe (show TownP _ _ _ _ _ _ _ (pour t (y).toNat) from ⟨(((show Ints _ _ _ ((pour t (y).toNat).hs) from D37).mono le41).mono le46),((show Ints _ _ _ ((pour t (y).toNat).ws) from D42).mono le46),(show Wys _ _ _ ((pour t (y).toNat).wy) from D47)⟩) (by omega) (((((N.mono le16).mono le21).mono le36).mono le41).mono le46) hcp_) rfl ?_
      refine rt (xaq (v:=.tuple #[.int .i64 (mostV (pour t (y).toNat)),.int .i64 0]) rfl) (tm':=zq1 (zq2 (zq4 (zq8 (zq16 (zq32 (zq32 _))))))) rfl <| ro (xdz rfl (v:=.int .i64 (mostV (pour t (y).toNat))) rfl) <| ro (xdz rfl (v:=.int .i64 0) rfl) <| rt (xax (v:=.int .i64 (mostV (pour t (y).toNat))) rfl) (tm':=zq1 (zq2 (zq4 (zq8 _)))) rfl <| ro (xax (v:=.int .i64 0) rfl) <| ren ?_
      refine xix (A:=([(b32,.cells #[.slice a34 ((pour t (y).toNat).nH) cp35,.slice a39 ((pour t (y).toNat).nW) cp40,.slice a44 ((pour t (y).toNat).m) cp45] 25 (0,0)),(b2,.cells #[.int .i64 (x),.int .i64 (y)] 43 (0,0)),(b1,.cells #[.slice a1 t.nH c1,.slice a2 t.nW c2,.slice a3 t.m c3] 25 (0,0))]:Pcs)) o51 ((xcx _).trans (xpj _)) fun p52 a53 cp54 le55 ev_ D56=>?_
      subst ev_
      refine xkw (L':=[(b32,.cells #[.slice a34 ((pour t (y).toNat).nH) cp35,.slice a39 ((pour t (y).toNat).nW) cp40,.slice a44 ((pour t (y).toNat).m) cp45] 25 (0,0)),(b2,.cells #[.int .i64 (x),.int .i64 (y)] 43 (0,0)),(b1,.cells #[.slice a1 t.nH c1,.slice a2 t.nW c2,.slice a3 t.m c3] 25 (0,0))]) rfl ?_
      refine xgj 29 [[],[0],[0,1],[0,1],[0,1,3],[0,1,3,4],[0,1,2,3,4,5],[],[0,1,2,3,4,5],[0,1,2,3,4,5,7,8],[0,1,2,3,4,5,7,8,9],[0,1,2,3,4,5,6,7,8,9,10],[],[0,1,2,3,4,5,6,7,8,9,10],[0,1,2,3,4,5,6,7,8,9,10,13],[0,1,2,3,4,5,6,7,8,9,10,12,13,14],[0,1,2,3,4,5,6,7,8,9,10,12,13,14,15],[0,1,2,3,4,5,6,7,8,9,10,11,12,13,14,15,16],[],[0,1,2,3,4,5,6,7,8,9,10,11,12,13,14,15,16],[0,1,2,3,4,5,6,7,8,9,10,11,12,13,14,15,16,18,19],[0,1,2,3,4,5,6,7,8,9,10,11,12,13,14,15,16,17,18,19],[0,1,2,3,4,5,6,7,8,9,10,11,12,13,14,15,16,17,18,19,20,21],[],[],[23,24],[],[0,1,2,3,4,5,6,7,8,9,10,11,12,13,14,15,16,17,18,19,20,21],[0,1,2,3,4,5,6,7,8,9,10,11,12,13,14,15,16,17,18,19,20,21,27],[0,1,2,3,4,5,6,7,8,9,10,11,12,13,14,15,16,17,18,19,20,21,23,24,26,27,28],[0,1,2,3,4,5,6,7,8,9,10,11,12,13,14,15,16,17,18,19,20,21,23,24,25,26,27,28,29],[]] xkv (by kernel_rfl) (Nat.le_of_ble_eq_true rfl) ?_
      refine wt (xaq (v:=.bool (true)) rfl) (tm':=zq4 (zq32 (zq32 (zq32 _)))) rfl <| wo (xgw rfl) <| wt (xaq (v:=.bool (!true)) rfl) (tm':=zq2 (zq4 (zq32 (zq32 (zq32 _))))) rfl ?_
      refine xbz (ms rfl rfl (xej rfl)) (fun h_ H_=>xaq (v:=.int .i64 0) rfl) rfl ?_
      refine xbz (ms rfl rfl (xej rfl)) (fun h_ H_=>xkk rfl rfl) (tm':=zq8 (zq32 (zq32 (zq32 _)))) rfl ?_
      refine wo (xck rfl (xej rfl) (v:=.bool (decide ((0:Int)≠0))) rfl) <| wt (xaq (v:=.bool (decide ((0:Int)≠0))) rfl) (tm':=zq2 (zq8 (zq32 (zq32 (zq32 _))))) rfl ?_
      refine xbz (ms rfl rfl (decide_eq_false (by decide))) (fun h_ H_=>xaq (v:=.int .i64 (mostV (pour t (y).toNat))) rfl) rfl ?_
      refine xbz (ms rfl rfl (decide_eq_false (by decide))) (fun h_ H_=>xaq (v:=.int .i64 (mostV t)) rfl) (tm':=zq4 (zq8 (zq32 (zq32 (zq32 _))))) rfl ?_
      refine xbz (ms rfl rfl (decide_eq_false (by decide))) (fun h_ H_=>xgk rfl rfl) rfl ?_
      refine wt (xck rfl (decide_eq_false (by decide)) (v:=.bool (decide (mostV (pour t (y).toNat)<mostV t))) rfl) (tm':=zq2 (zq4 (zq8 (zq32 (zq32 (zq32 _)))))) rfl ?_
      refine wo (xaq (v:=.bool (decide (mostV (pour t (y).toNat)<mostV t))) rfl) ?_
      refine xbz (ms rfl rfl (decide_eq_false (by have z_:=pF_.a;omega))) (fun h_ H_=>xaq (v:=.int .i64 (mostV (pour t (y).toNat))) rfl) (tm':=zq16 (zq32 (zq32 (zq32 _)))) rfl ?_
      refine xbz (ms rfl rfl (decide_eq_false (by have z_:=pF_.a;omega))) (fun h_ H_=>xaq (v:=.int .i64 (mostV t)) rfl) rfl ?_
      refine xbz (ms rfl rfl (decide_eq_false (by have z_:=pF_.a;omega))) (fun h_ H_=>xfq rfl rfl (wr (by omega))) (tm':=zq2 (zq16 (zq32 (zq32 (zq32 _))))) rfl ?_
      refine xbz (ms rfl rfl (decide_eq_false (by have z_:=pF_.a;omega))) (fun h_ H_=>xjq rfl rfl) rfl ?_
      refine wt (xck rfl (decide_eq_false (by have z_:=pF_.a;omega)) (v:=.bool (decide ((mostV t)+1<mostV (pour t (y).toNat)))) rfl) (tm':=zq4 (zq16 (zq32 (zq32 (zq32 _))))) rfl ?_
      refine wo (xaq (v:=.bool (decide ((mostV t)+1<mostV (pour t (y).toNat)))) rfl) ?_
      refine xbz (ms rfl rfl (decide_eq_false (by have z_:=pF_.b;omega))) (fun h_ H_=>xaq (v:=.slice a14 t.nH cp15) rfl) (tm':=zq2 (zq4 (zq16 (zq32 (zq32 (zq32 _)))))) rfl ?_
      refine xbz (ms rfl rfl (decide_eq_false (by have z_:=pF_.b;omega))) (fun h_ H_=>xaq (v:=.slice a53 ((pour t (y).toNat).nH) cp54) rfl) rfl ?_
      refine xkq (ms rfl rfl (decide_eq_false (by have z_:=pF_.b;omega))) (first:=[]) (cap:=[]) rfl rfl fC59 (fun h_ H_=>(ymz .lone (H_.pe) (((((((show Ints _ _ _ (LK t) from D17).mono le21).mono le36).mono le41).mono le46).mono le55)) ((show Ints _ _ _ (LK (pour t (y).toNat)) from D56)) (by omega)).mono fun v_ h2_ ⟨e_,k_⟩=>⟨e_,H_.call k_⟩) (tm':=zq8 (zq16 (zq32 (zq32 (zq32 _))))) rfl ?_
      refine wo (xck rfl (decide_eq_false (by have z_:=pF_.b;omega)) (v:=.bool (decide (earlier (LK t) (LK (pour t (y).toNat))=true))) rfl) ?_
      refine wt (xaq (v:=.bool (decide (earlier (LK t) (LK (pour t (y).toNat))=true))) rfl) (tm':=zq2 (zq8 (zq16 (zq32 (zq32 (zq32 _)))))) rfl ?_
      refine xbz (ms rfl rfl (decide_eq_false (by rw [pF_.c];decide))) (fun h_ H_=>xaq (v:=.slice a53 ((pour t (y).toNat).nH) cp54) rfl) rfl ?_
      refine xbz (ms rfl rfl (decide_eq_false (by rw [pF_.c];decide))) (fun h_ H_=>xaq (v:=.slice a14 t.nH cp15) rfl) (tm':=zq4 (zq8 (zq16 (zq32 (zq32 (zq32 _)))))) rfl ?_
      refine xkq (ms rfl rfl (decide_eq_false (by rw [pF_.c];decide))) (first:=[]) (cap:=[]) rfl rfl fC59 (fun h_ H_=>(ymz .lone (H_.pe) ((show Ints _ _ _ (LK (pour t (y).toNat)) from D56)) (((((((show Ints _ _ _ (LK t) from D17).mono le21).mono le36).mono le41).mono le46).mono le55)) (by omega)).mono fun v_ h2_ ⟨e_,k_⟩=>⟨e_,H_.call k_⟩) rfl ?_
      refine xbz (ms rfl rfl (decide_eq_false (by rw [pF_.c];decide))) (fun h_ H_=>xaq (v:=.slice a19 ((helpsF t t.nW).length) cp20) rfl) (tm':=zq2 (zq4 (zq8 (zq16 (zq32 (zq32 (zq32 _))))))) rfl ?_
      refine xbz (ms rfl rfl (decide_eq_false (by rw [pF_.c];decide))) (fun h_ H_=>xaz xpx rfl (a':=⟨b2,1,none⟩) rfl) rfl ?_
      refine xbz (ms rfl rfl (decide_eq_false (by rw [pF_.c];decide))) (fun h_ H_=>xaj H_ tA3 rfl (i:=1) rfl (v:=.int .i64 (y)) rfl) (tm':=zq32 (zq32 (zq32 (zq32 _)))) rfl ?_
      refine xiw rfl ?_
      refine xdv (ms rfl rfl (decide_eq_false (by rw [pF_.c];decide))) (first:=[]) (cap:=[]) rfl rfl fC35 (fun h_ H_=>c35 .lone _ _ H_.pe _ _ _ _ (((((show Ints _ _ _ (helpsF t t.nW) from D22).mono le36).mono le41).mono le46).mono le55) (by omega) (y)) rfl ?_
      refine xbq (ms rfl rfl (decide_eq_false (by rw [pF_.c];decide))) (fun h_ H_=>wtq (p:=earlier (LK (pour t (y).toNat)) (LK t)=true) (q:=y∈(helpsF t t.nW)) Tryd.underlying4 rfl rfl) rfl ?_
      refine rt (xck rfl (decide_eq_false (by rw [pF_.c];decide)) (v:=.bool (!decide ((earlier (LK (pour t (y).toNat)) (LK t)=true)↔(y∈(helpsF t t.nW))))) rfl) (tm':=zq1 (zq2 (zq32 (zq32 (zq32 (zq32 _)))))) rfl ?_
      refine xav <| xdx rfl (xej (decide_eq_true pF_.d)) <| xdk <| fsr <| rd (fun h_ H_=>xaw H_ tA25 tS25 rfl (i:=2) rfl (vs:=[.slice a1 t.nH c1,.slice a2 t.nW c2,.slice a3 t.m c3]) rfl rfl) <| ro (xaz xoj rfl (a':=⟨b2,0,none⟩) rfl) ?_
      refine xbq mn (fun h_ H_=>xaj H_ tA3 rfl (i:=1) rfl (v:=.int .i64 (x)) rfl) (tm':=zq1 (zq4 (zq32 (zq32 (zq32 (zq32 (zq32 (zq32 [])))))))) rfl ?_
      refine ro (xaz xpx rfl (a':=⟨b2,1,none⟩) rfl) <| rd (fun h_ H_=>xaj H_ tA3 rfl (i:=1) rfl (v:=.int .i64 (y)) rfl) ?_
      refine xdv mn (first:=[]) (cap:=[]) rfl rfl fC55 (fun h_ H_=>wvx .lone H_.pe (show TownP _ _ _ _ _ _ _ t from ⟨((((((T.h.mono le16).mono le21).mono le36).mono le41).mono le46).mono le55),((((((T.w.mono le16).mono le21).mono le36).mono le41).mono le46).mono le55),((((((T.y.mono le16).mono le21).mono le36).mono le41).mono le46).mono le55)⟩) (by omega) hcap ((((((N.mono le16).mono le21).mono le36).mono le41).mono le46).mono le55) hc_ hx_ hy_) (tm':=zq1 (zq4 (zq32 (zq32 (zq32 (zq32 (zq32 (zq32 [])))))))) rfl ?_
      refine ro (xaq (v:=.tuple #[.bool (decide (WayP t (x) (y))),.int .i64 (wayV t (x) (y))]) rfl) <| ro (xdz rfl (v:=.bool (decide (WayP t (x) (y)))) rfl) <| rt (xdz rfl (v:=.int .i64 (wayV t (x) (y))) rfl) (tm':=zq1 (zq4 (zq32 (zq32 (zq32 (zq32 (zq32 (zq32 [])))))))) rfl <| ro (xax (v:=.bool (decide (WayP t (x) (y)))) rfl) <| ro (xax (v:=.int .i64 (wayV t (x) (y))) rfl) <| ren ?_
      refine fsr ?_
      refine xbq mn (fun h_ H_=>xaw H_ tA25 tS25 rfl (i:=2) rfl (vs:=[.slice a1 t.nH c1,.slice a2 t.nW c2,.slice a3 t.m c3]) rfl rfl) (tm':=zq1 (zq4 (zq32 (zq32 (zq32 (zq32 (zq32 (zq32 [])))))))) rfl ?_
      refine rd (fun h_ H_=>xaw H_ tA43 tS43 rfl (i:=1) rfl (vs:=[.int .i64 (x),.int .i64 (y)]) rfl rfl) ?_
      refine xdv mn (first:=[]) (cap:=[]) rfl rfl fC60 (fun h_ H_=>c60 .lone _ _ H_.pe _ _ _ _ _ _ _ _ _ t (show TownP _ _ _ _ _ _ _ t from ⟨((((((T.h.mono le16).mono le21).mono le36).mono le41).mono le46).mono le55),((((((T.w.mono le16).mono le21).mono le36).mono le41).mono le46).mono le55),((((((T.y.mono le16).mono le21).mono le36).mono le41).mono le46).mono le55)⟩) (by omega) (x) (y)) rfl ?_
      refine xav ?_
      by_cases cc57:((x,y):FWay)∈t.wy
      ·
       have hyes_:=cc57
       refine xdw rfl (dtt cc57) <| fsr <| rt (xaq (v:=.int .i64 (wayV t (x) (y))) rfl) (tm':=zq1 (zq4 (zq32 (zq32 (zq32 (zq32 (zq32 (zq32 [])))))))) rfl <| ro (xmw rfl rfl) <| ro (xaq (v:=.bool (decide (wayV t (x) (y)=3))) rfl) ?_
       refine xbq (ms rfl rfl (decide_eq_true (by have z_:=ydx hyes_;omega))) (fun h_ H_=>xaq (v:=.bool (decide (WayP t (x) (y)))) rfl) (tm':=zq1 (zq4 (zq32 (zq32 (zq32 (zq32 (zq32 (zq32 [])))))))) rfl ?_
       refine xbq (ms rfl rfl (decide_eq_true (by have z_:=ydx hyes_;omega))) (fun h_ H_=>xgw rfl) rfl ?_
       refine ro (xdj rfl (decide_eq_true (by have z_:=ydx hyes_;omega)) (v:=.bool (!(decide (WayP t (x) (y))))) rfl) ?_
       refine rt (xaq (v:=.bool (!(decide (WayP t (x) (y))))) rfl) (tm':=zq1 (zq4 (zq32 (zq32 (zq32 (zq32 (zq32 (zq32 [])))))))) rfl ?_
       refine xdv (ms rfl rfl (xhw (decide_eq_false (yzj hyes_)))) (first:=[]) (cap:=[]) rfl rfl fC16 (fun h_ H_=>c16 .lone _ _ H_.pe ((((((N.mono le16).mono le21).mono le36).mono le41).mono le46).mono le55) ((((((Z.mono le16).mono le21).mono le36).mono le41).mono le46).mono le55)) rfl ?_
       refine ro (xdj rfl (xhw (decide_eq_false (yzj hyes_))) (v:=.bool (true)) rfl) <| rt (xax (v:=.bool (true)) rfl) (tm':=zq1 (zq4 _)) rfl <| xav ?_
       refine xqv Tryd.func12 rfl (vs:=[.bool (true)]) (fun h_ H_=>⟨.bool (true),_,rfl,rfl,rfl⟩) (v:=.bool (true)) rfl ?_
       exact fun h_ H_=>⟨rfl,H_.kept⟩
      ·
       have hno_:=cc57
       refine xdx rfl (dff cc57) <| xdk <| xek <| fsr <| ro (xaq (v:=.int .i64 (wayV t (x) (y))) rfl) <| ro (xkk rfl rfl) ?_
       refine xav ?_
       refine xdx rfl (decide_eq_false (by have z_:=wdq hno_;omega)) ?_
       refine xdk <| fsr ?_
       refine xbq mn (fun h_ H_=>xaw H_ tA25 tS25 rfl (i:=2) rfl (vs:=[.slice a1 t.nH c1,.slice a2 t.nW c2,.slice a3 t.m c3]) rfl rfl) (tm':=zq1 (zq4 (zq32 (zq32 (zq32 (zq32 (zq32 (zq32 [])))))))) rfl ?_
       refine rd (fun h_ H_=>xaw H_ tA43 tS43 rfl (i:=1) rfl (vs:=[.int .i64 (x),.int .i64 (y)]) rfl rfl) ?_
       refine xcq (L':=([(b32,.cells #[.slice a34 ((pour t (y).toNat).nH) cp35,.slice a39 ((pour t (y).toNat).nW) cp40,.slice a44 ((pour t (y).toNat).m) cp45] 25 (0,0)),(b2,.cells #[.int .i64 (x),.int .i64 (y)] 43 (0,0)),(b1,.cells #[.slice a1 t.nH c1,.slice a2 t.nW c2,.slice a3 t.m c3] 25 (0,0))]:Pcs)++[]) rfl ?_
       refine xjj mn (first:=[]) (cap:=[]) rfl rfl fC26 (R:=fun v_ h_=>∃ w58:Value,∃ w59:Value,∃ w60:Value,∃ X61:Pcs,∃ X62:Pcs,∃ X63:Pcs,v_= .agg #[w58,w59,w60]∧(OwnS 3 1 w58 (ics (withT t (x,y)).hs) X61)∧(OwnS 3 1 w59 (ics (withT t (x,y)).ws) X62)∧(OwnS 43 2 w60 (wcs (withT t (x,y)).wy) X63)∧St h [] p52 h_ (([(b32,.cells #[.slice a34 ((pour t (y).toNat).nH) cp35,.slice a39 ((pour t (y).toNat).nW) cp40,.slice a44 ((pour t (y).toNat).m) cp45] 25 (0,0)),(b2,.cells #[.int .i64 (x),.int .i64 (y)] 43 (0,0)),(b1,.cells #[.slice a1 t.nH c1,.slice a2 t.nW c2,.slice a3 t.m c3] 25 (0,0))]:Pcs)++((X63++(X61++(X62++[])))++[]))) (fun h_ H_=>(c26 .lone _ _ H_.pe _ _ _ _ _ _ t (show TownP _ _ _ _ _ _ _ t from ⟨((((((T.h.mono le16).mono le21).mono le36).mono le41).mono le46).mono le55),((((((T.w.mono le16).mono le21).mono le36).mono le41).mono le46).mono le55),((((((T.y.mono le16).mono le21).mono le36).mono le41).mono le46).mono le55)⟩) (by omega) (x) (y)).mono fun v_ h2_ ⟨w58,w59,w60,X61,X62,X63,e_,o64,o65,o66,N_⟩=>⟨w58,w59,w60,X61,X62,X63,e_,o64,o65,o66,H_.callNA N_⟩) fun v_=>?_
       refine xgz fun w58=>xgz fun w59=>xgz fun w60=>xgz fun X61=>xgz fun X62=>xgz fun X63=>xfx fun ev_=>xfx fun o64=>xfx fun o65=>xfx fun o66=>?_
       have ev_:=ev_.symm;subst ev_
       refine xcq (L':=([(b32,.cells #[.slice a34 ((pour t (y).toNat).nH) cp35,.slice a39 ((pour t (y).toNat).nW) cp40,.slice a44 ((pour t (y).toNat).m) cp45] 25 (0,0)),(b2,.cells #[.int .i64 (x),.int .i64 (y)] 43 (0,0)),(b1,.cells #[.slice a1 t.nH c1,.slice a2 t.nW c2,.slice a3 t.m c3] 25 (0,0))]:Pcs)++(X63++(X61++(X62++[])))) (by simp) ?_
       refine xkx mn tZ25 rfl fun b67=>xcq (L':=([(b67,.cells #[.slice none 0 0,.slice none 0 0,.slice none 0 0] 25 (0,0)),(b32,.cells #[.slice a34 ((pour t (y).toNat).nH) cp35,.slice a39 ((pour t (y).toNat).nW) cp40,.slice a44 ((pour t (y).toNat).m) cp45] 25 (0,0)),(b2,.cells #[.int .i64 (x),.int .i64 (y)] 43 (0,0)),(b1,.cells #[.slice a1 t.nH c1,.slice a2 t.nW c2,.slice a3 t.m c3] 25 (0,0))]:Pcs)++(X63++(X61++(X62++[])))) rfl ?_
       refine xgq (tm':=zq1 (zq2 (zq16 _))) rfl ?_
       refine xiq mn tS25 rfl (v:=.agg #[w58,w59,w60]) rfl (i:=0) rfl rfl (xew o64.one.2 (xew o65.one.2 (xew o66.one.2 rfl))) (Nat.le_of_ble_eq_true rfl) (cs2:=[w58,w59,w60]) rfl (xcq (L':=([(b67,.cells #[w58,w59,w60] 25 (0,0)),(b32,.cells #[.slice a34 ((pour t (y).toNat).nH) cp35,.slice a39 ((pour t (y).toNat).nW) cp40,.slice a44 ((pour t (y).toNat).m) cp45] 25 (0,0)),(b2,.cells #[.int .i64 (x),.int .i64 (y)] 43 (0,0)),(b1,.cells #[.slice a1 t.nH c1,.slice a2 t.nW c2,.slice a3 t.m c3] 25 (0,0))]:Pcs)++(X63++(X61++(X62++[])))) rfl ?_)
       refine ren <| xek ?_
       refine xfz (List.Perm.append_left _ (List.perm_append_comm_assoc _ _ _)) ?_
       refine xkw (L':=([(b67,.cells #[w58,w59,w60] 25 (0,0)),(b32,.cells #[.slice a34 ((pour t (y).toNat).nH) cp35,.slice a39 ((pour t (y).toNat).nW) cp40,.slice a44 ((pour t (y).toNat).m) cp45] 25 (0,0)),(b2,.cells #[.int .i64 (x),.int .i64 (y)] 43 (0,0)),(b1,.cells #[.slice a1 t.nH c1,.slice a2 t.nW c2,.slice a3 t.m c3] 25 (0,0))]:Pcs)++(X61++(X63++(X62++[])))) rfl ?_
       refine xix (A:=([(b67,.cells #[w58,w59,w60] 25 (0,0)),(b32,.cells #[.slice a34 ((pour t (y).toNat).nH) cp35,.slice a39 ((pour t (y).toNat).nW) cp40,.slice a44 ((pour t (y).toNat).m) cp45] 25 (0,0)),(b2,.cells #[.int .i64 (x),.int .i64 (y)] 43 (0,0)),(b1,.cells #[.slice a1 t.nH c1,.slice a2 t.nW c2,.slice a3 t.m c3] 25 (0,0))]:Pcs)) o64 (show (ics ((withT t (x,y)).hs)).length=(withT t (x,y)).nH from xcx _) fun p68 a69 cp70 le71 ev_ D72=>?_
       subst ev_
       refine xfz (List.Perm.append_left _ (List.perm_append_comm_assoc _ _ _)) ?_
       refine xkw (L':=([(b67,.cells #[.slice a69 ((withT t (x,y)).nH) cp70,w59,w60] 25 (0,0)),(b32,.cells #[.slice a34 ((pour t (y).toNat).nH) cp35,.slice a39 ((pour t (y).toNat).nW) cp40,.slice a44 ((pour t (y).toNat).m) cp45] 25 (0,0)),(b2,.cells #[.int .i64 (x),.int .i64 (y)] 43 (0,0)),(b1,.cells #[.slice a1 t.nH c1,.slice a2 t.nW c2,.slice a3 t.m c3] 25 (0,0))]:Pcs)++(X62++(X63++[]))) rfl ?_
       refine xix (A:=([(b67,.cells #[.slice a69 ((withT t (x,y)).nH) cp70,w59,w60] 25 (0,0)),(b32,.cells #[.slice a34 ((pour t (y).toNat).nH) cp35,.slice a39 ((pour t (y).toNat).nW) cp40,.slice a44 ((pour t (y).toNat).m) cp45] 25 (0,0)),(b2,.cells #[.int .i64 (x),.int .i64 (y)] 43 (0,0)),(b1,.cells #[.slice a1 t.nH c1,.slice a2 t.nW c2,.slice a3 t.m c3] 25 (0,0))]:Pcs)) o65 (show (ics ((withT t (x,y)).ws)).length=(withT t (x,y)).nW from xcx _) fun p73 a74 cp75 le76 ev_ D77=>?_
       subst ev_
       refine xix (A:=([(b67,.cells #[.slice a69 ((withT t (x,y)).nH) cp70,.slice a74 ((withT t (x,y)).nW) cp75,w60] 25 (0,0)),(b32,.cells #[.slice a34 ((pour t (y).toNat).nH) cp35,.slice a39 ((pour t (y).toNat).nW) cp40,.slice a44 ((pour t (y).toNat).m) cp45] 25 (0,0)),(b2,.cells #[.int .i64 (x),.int .i64 (y)] 43 (0,0)),(b1,.cells #[.slice a1 t.nH c1,.slice a2 t.nW c2,.slice a3 t.m c3] 25 (0,0))]:Pcs)) o66 (wcs_size _) fun p78 a79 cp80 le81 ev_ D82=>?_
       subst ev_
       refine xkw (L':=[(b67,.cells #[.slice a69 ((withT t (x,y)).nH) cp70,.slice a74 ((withT t (x,y)).nW) cp75,.slice a79 ((withT t (x,y)).m) cp80] 25 (0,0)),(b32,.cells #[.slice a34 ((pour t (y).toNat).nH) cp35,.slice a39 ((pour t (y).toNat).nW) cp40,.slice a44 ((pour t (y).toNat).m) cp45] 25 (0,0)),(b2,.cells #[.int .i64 (x),.int .i64 (y)] 43 (0,0)),(b1,.cells #[.slice a1 t.nH c1,.slice a2 t.nW c2,.slice a3 t.m c3] 25 (0,0))]) rfl ?_
       refine xbx <| rd (fun h_ H_=>xaw H_ tA25 tS25 rfl (i:=0) rfl (vs:=[.slice a69 ((withT t (x,y)).nH) cp70,.slice a74 ((withT t (x,y)).nW) cp75,.slice a79 ((withT t (x,y)).m) cp80]) rfl rfl) ?_
       refine xdv mn (first:=[]) (cap:=[]) rfl rfl fC48 (fun h_ H_=>c48 .lone _ _ H_.pe _ _ _ _ _ _ _ _ _ (withT t (x,y)) (show TownP _ _ _ _ _ _ _ (withT t (x,y)) from ⟨(((show Ints _ _ _ ((withT t (x,y)).hs) from D72).mono le76).mono le81),((show Ints _ _ _ ((withT t (x,y)).ws) from D77).mono le81),(show Wys _ _ _ ((withT t (x,y)).wy) from D82)⟩) (by omega)) rfl ?_
       refine rt (xkk rfl rfl) (tm':=zq1 (zq4 (zq32 (zq32 (zq32 (zq32 (zq32 (zq32 [])))))))) rfl <| xav ?_
       by_cases cc83:chkB (withT t (x,y))≠0
       ·
        refine xdw rfl (dtt cc83) <| fsr ?_
        refine xdv mn (first:=[]) (cap:=[]) rfl rfl fC16 (fun h_ H_=>c16 .lone _ _ H_.pe (((((((((N.mono le16).mono le21).mono le36).mono le41).mono le46).mono le55).mono le71).mono le76).mono le81) (((((((((Z.mono le16).mono le21).mono le36).mono le41).mono le46).mono le55).mono le71).mono le76).mono le81)) rfl ?_
        refine ro (xax (v:=.bool (true)) rfl) <| xav ?_
        refine xqv Tryd.func12 rfl (vs:=[.bool (true)]) (fun h_ H_=>⟨.bool (true),_,rfl,rfl,rfl⟩) (v:=.bool (true)) rfl ?_
        exact fun h_ H_=>⟨rfl,H_.kept⟩
       ·
        have hcw_:chkB (withT t (x,y))=0:=by omega
        have hOw_:=xuq hcw_
        have wF_:=ywx hO.toOk (x,y) (yok hO h12 (by omega) (by omega)).toOk hOw_.toOk
        refine xdx rfl (dff cc83) <| xdk <| fsr ?_
        refine xbq mn (fun h_ H_=>xaw H_ tA25 tS25 rfl (i:=0) rfl (vs:=[.slice a69 ((withT t (x,y)).nH) cp70,.slice a74 ((withT t (x,y)).nW) cp75,.slice a79 ((withT t (x,y)).m) cp80]) rfl rfl) (tm':=zq1 (zq4 (zq32 (zq32 (zq32 (zq32 (zq32 (zq32 [])))))))) rfl ?_
        refine xcq (L':=([(b67,.cells #[.slice a69 ((withT t (x,y)).nH) cp70,.slice a74 ((withT t (x,y)).nW) cp75,.slice a79 ((withT t (x,y)).m) cp80] 25 (0,0)),(b32,.cells #[.slice a34 ((pour t (y).toNat).nH) cp35,.slice a39 ((pour t (y).toNat).nW) cp40,.slice a44 ((pour t (y).toNat).m) cp45] 25 (0,0)),(b2,.cells #[.int .i64 (x),.int .i64 (y)] 43 (0,0)),(b1,.cells #[.slice a1 t.nH c1,.slice a2 t.nW c2,.slice a3 t.m c3] 25 (0,0))]:Pcs)++[]) rfl ?_
        refine xjj mn (first:=[]) (cap:=[]) rfl rfl fC24 (R:=fun v_ h_=>∃ w84:Value,∃ X85:Pcs,v_= .tuple #[w84,.bool (true)]∧(OwnS 3 1 w84 (ics (LK (withT t (x,y)))) X85)∧St h [] p78 h_ (([(b67,.cells #[.slice a69 ((withT t (x,y)).nH) cp70,.slice a74 ((withT t (x,y)).nW) cp75,.slice a79 ((withT t (x,y)).m) cp80] 25 (0,0)),(b32,.cells #[.slice a34 ((pour t (y).toNat).nH) cp35,.slice a39 ((pour t (y).toNat).nW) cp40,.slice a44 ((pour t (y).toNat).m) cp45] 25 (0,0)),(b2,.cells #[.int .i64 (x),.int .i64 (y)] 43 (0,0)),(b1,.cells #[.slice a1 t.nH c1,.slice a2 t.nW c2,.slice a3 t.m c3] 25 (0,0))]:Pcs)++(X85++[]))) (fun h_ H_=>(c24 .lone _ _ H_.pe _ _ _ _ _ _ (withT t (x,y)) (show TownP _ _ _ _ _ _ _ (withT t (x,y)) from ⟨(((show Ints _ _ _ ((withT t (x,y)).hs) from D72).mono le76).mono le81),((show Ints _ _ _ ((withT t (x,y)).ws) from D77).mono le81),(show Wys _ _ _ ((withT t (x,y)).wy) from D82)⟩) (by omega) (((((((((N.mono le16).mono le21).mono le36).mono le41).mono le46).mono le55).mono le71).mono le76).mono le81) hcw_).mono fun v_ h2_ ⟨w84,X85,e_,o86,N_⟩=>⟨w84,X85,e_,o86,H_.callNA N_⟩) fun v_=>?_
        refine xgz fun w84=>xgz fun X85=>xfx fun ev_=>xfx fun o86=>?_
        have ev_:=ev_.symm;subst ev_
        refine xcq (L':=([(b67,.cells #[.slice a69 ((withT t (x,y)).nH) cp70,.slice a74 ((withT t (x,y)).nW) cp75,.slice a79 ((withT t (x,y)).m) cp80] 25 (0,0)),(b32,.cells #[.slice a34 ((pour t (y).toNat).nH) cp35,.slice a39 ((pour t (y).toNat).nW) cp40,.slice a44 ((pour t (y).toNat).m) cp45] 25 (0,0)),(b2,.cells #[.int .i64 (x),.int .i64 (y)] 43 (0,0)),(b1,.cells #[.slice a1 t.nH c1,.slice a2 t.nW c2,.slice a3 t.m c3] 25 (0,0))]:Pcs)++(X85++[])) rfl ?_
        refine ro (xaq (v:=.tuple #[w84,.bool (true)]) rfl) <| rt (xdz rfl (v:=w84) rfl) (tm':=zq1 (zq4 (zq32 (zq32 (zq32 (zq32 (zq32 (zq32 [])))))))) rfl <| ro (xdz rfl (v:=.bool (true)) rfl) <| ro (xax (v:=w84) rfl) <| rt (xax (v:=.bool (true)) rfl) (tm':=zq1 (zq4 (zq16 _))) rfl <| ren ?_
        refine xbx <| rd (fun h_ H_=>xaw H_ tA25 tS25 rfl (i:=0) rfl (vs:=[.slice a69 ((withT t (x,y)).nH) cp70,.slice a74 ((withT t (x,y)).nW) cp75,.slice a79 ((withT t (x,y)).m) cp80]) rfl rfl) ?_
        refine xdv mn (first:=[]) (cap:=[]) rfl rfl fC28 (fun h_ H_=>yfk .lone H_.pe (show TownP _ _ _ _ _ _ _ (withT t (x,y)) from ⟨(((show Ints _ _ _ ((withT t (x,y)).hs) from D72).mono le76).mono le81),((show Ints _ _ _ ((withT t (x,y)).ws) from D77).mono le81),(show Wys _ _ _ ((withT t (x,y)).wy) from D82)⟩) (by omega) (((((((((N.mono le16).mono le21).mono le36).mono le41).mono le46).mono le55).mono le71).mono le76).mono le81) hcw_) rfl ?_
        refine rt (xaq (v:=.tuple #[.int .i64 (mostV (withT t (x,y))),.int .i64 0]) rfl) (tm':=zq1 (zq4 (zq32 (zq32 (zq32 (zq32 (zq32 (zq32 [])))))))) rfl <| ro (xdz rfl (v:=.int .i64 (mostV (withT t (x,y)))) rfl) <| ro (xdz rfl (v:=.int .i64 0) rfl) <| rt (xax (v:=.int .i64 (mostV (withT t (x,y)))) rfl) (tm':=zq2 (zq4 (zq16 _))) rfl <| ro (xax (v:=.int .i64 0) rfl) <| ren ?_
        refine xix (A:=([(b67,.cells #[.slice a69 ((withT t (x,y)).nH) cp70,.slice a74 ((withT t (x,y)).nW) cp75,.slice a79 ((withT t (x,y)).m) cp80] 25 (0,0)),(b32,.cells #[.slice a34 ((pour t (y).toNat).nH) cp35,.slice a39 ((pour t (y).toNat).nW) cp40,.slice a44 ((pour t (y).toNat).m) cp45] 25 (0,0)),(b2,.cells #[.int .i64 (x),.int .i64 (y)] 43 (0,0)),(b1,.cells #[.slice a1 t.nH c1,.slice a2 t.nW c2,.slice a3 t.m c3] 25 (0,0))]:Pcs)) o86 ((xcx _).trans (xpj _)) fun p87 a88 cp89 le90 ev_ D91=>?_
        subst ev_
        refine xkw (L':=[(b67,.cells #[.slice a69 ((withT t (x,y)).nH) cp70,.slice a74 ((withT t (x,y)).nW) cp75,.slice a79 ((withT t (x,y)).m) cp80] 25 (0,0)),(b32,.cells #[.slice a34 ((pour t (y).toNat).nH) cp35,.slice a39 ((pour t (y).toNat).nW) cp40,.slice a44 ((pour t (y).toNat).m) cp45] 25 (0,0)),(b2,.cells #[.int .i64 (x),.int .i64 (y)] 43 (0,0)),(b1,.cells #[.slice a1 t.nH c1,.slice a2 t.nW c2,.slice a3 t.m c3] 25 (0,0))]) rfl ?_
        refine xbx <| ro (xaq (v:=.bool (true)) rfl) <| rt (xaq (v:=.bool (true)) rfl) (tm':=zq1 (zq4 (zq32 (zq32 (zq32 (zq32 (zq32 (zq32 [])))))))) rfl ?_
        refine xbq (ms rfl rfl rfl) (fun h_ H_=>xaq (v:=.int .i64 0) rfl) rfl ?_
        refine xbq (ms rfl rfl rfl) (fun h_ H_=>xmw rfl rfl) rfl ?_
        refine rt (xdj rfl rfl (v:=.bool (decide ((0:Int)=0))) rfl) (tm':=zq1 (zq4 (zq32 (zq32 (zq32 (zq32 (zq32 (zq32 [])))))))) rfl <| ro (xaq (v:=.bool (decide ((0:Int)=0))) rfl) ?_
        refine xbq (ms rfl rfl (decide_eq_true (by decide))) (fun h_ H_=>xaq (v:=.int .i64 (mostV (withT t (x,y)))) rfl) rfl ?_
        refine xbq (ms rfl rfl (decide_eq_true (by decide))) (fun h_ H_=>xaq (v:=.int .i64 (mostV t)) rfl) (tm':=zq1 (zq4 (zq32 (zq32 (zq32 (zq32 (zq32 (zq32 [])))))))) rfl ?_
        refine xbq (ms rfl rfl (decide_eq_true (by decide))) (fun h_ H_=>xuj rfl rfl) rfl ?_
        refine ro (xdj rfl (decide_eq_true (by decide)) (v:=.bool (decide (mostV t≤mostV (withT t (x,y))))) rfl) ?_
        refine rt (xaq (v:=.bool (decide (mostV t≤mostV (withT t (x,y))))) rfl) (tm':=zq1 (zq4 (zq32 (zq32 (zq32 (zq32 (zq32 (zq32 [])))))))) rfl ?_
        refine xbq (ms rfl rfl (decide_eq_true wF_.most)) (fun h_ H_=>xaq (v:=.slice a14 t.nH cp15) rfl) rfl ?_
        refine xbq (ms rfl rfl (decide_eq_true wF_.most)) (fun h_ H_=>xaq (v:=.slice a88 ((withT t (x,y)).nH) cp89) rfl) rfl ?_
        refine xdv (ms rfl rfl (decide_eq_true wF_.most)) (first:=[]) (cap:=[]) rfl rfl fC59 (fun h_ H_=>ymz .lone (H_.pe) (((((((((((show Ints _ _ _ (LK t) from D17).mono le21).mono le36).mono le41).mono le46).mono le55).mono le71).mono le76).mono le81).mono le90)) ((show Ints _ _ _ (LK (withT t (x,y))) from D91)) (by omega)) (tm':=zq1 (zq4 (zq32 (zq32 (zq32 (zq32 (zq32 (zq32 [])))))))) rfl ?_
        refine xbq (ms rfl rfl (decide_eq_true wF_.most)) (fun h_ H_=>xgw rfl) rfl ?_
        refine ro (xdj rfl (decide_eq_true wF_.most) (v:=.bool (!(decide (earlier (LK t) (LK (withT t (x,y)))=true)))) rfl) <| rt (xaq (v:=.bool (!(decide (earlier (LK t) (LK (withT t (x,y)))=true)))) rfl) (tm':=zq1 (zq4 (zq32 (zq32 (zq32 (zq32 (zq32 (zq32 [])))))))) rfl ?_
        refine xbq (ms rfl rfl (xhw (decide_eq_false (by rw [wF_.less];decide)))) (fun h_ H_=>xaq (v:=.slice a88 ((withT t (x,y)).nH) cp89) rfl) rfl ?_
        refine xbq (ms rfl rfl (xhw (decide_eq_false (by rw [wF_.less];decide)))) (fun h_ H_=>xaq (v:=.slice a14 t.nH cp15) rfl) rfl ?_
        refine xdv (ms rfl rfl (xhw (decide_eq_false (by rw [wF_.less];decide)))) (first:=[]) (cap:=[]) rfl rfl fC59 (fun h_ H_=>ymz .lone (H_.pe) ((show Ints _ _ _ (LK (withT t (x,y))) from D91)) (((((((((((show Ints _ _ _ (LK t) from D17).mono le21).mono le36).mono le41).mono le46).mono le55).mono le71).mono le76).mono le81).mono le90)) (by omega)) (tm':=zq1 (zq4 (zq32 (zq32 (zq32 (zq32 (zq32 (zq32 [])))))))) rfl ?_
        refine xbq (ms rfl rfl (xhw (decide_eq_false (by rw [wF_.less];decide)))) (fun h_ H_=>xaq (v:=.bool (decide (WayP t (x) (y)))) rfl) rfl ?_
        refine xbq (ms rfl rfl (xhw (decide_eq_false (by rw [wF_.less];decide)))) (fun h_ H_=>zwz (p:=earlier (LK (withT t (x,y))) (LK t)=true) (q:=WayP t (x) (y)) Tryd.underlying4 rfl rfl) rfl ?_
        refine rt (xdj rfl (xhw (decide_eq_false (by rw [wF_.less];decide))) (v:=.bool (decide ((earlier (LK (withT t (x,y))) (LK t)=true)↔(WayP t (x) (y))))) rfl) (tm':=zq1 (zq4 (zq32 (zq32 (zq32 (zq32 (zq32 (zq32 [])))))))) rfl ?_
        refine ro (xaq (v:=.bool (decide ((earlier (LK (withT t (x,y))) (LK t)=true)↔(WayP t (x) (y))))) rfl) ?_
        refine xdv (ms rfl rfl (decide_eq_true (yzz hno_ wF_))) (first:=[]) (cap:=[]) rfl rfl fC16 (fun h_ H_=>c16 .lone _ _ H_.pe ((((((((((N.mono le16).mono le21).mono le36).mono le41).mono le46).mono le55).mono le71).mono le76).mono le81).mono le90) ((((((((((Z.mono le16).mono le21).mono le36).mono le41).mono le46).mono le55).mono le71).mono le76).mono le81).mono le90)) rfl ?_
        refine rt (xdj rfl (decide_eq_true (yzz hno_ wF_)) (v:=.bool (true)) rfl) (tm':=zq1 (zq4 (zq32 (zq32 (zq32 (zq32 (zq32 (zq32 [])))))))) rfl <| ro (xax (v:=.bool (true)) rfl) <| xav ?_
        refine xqv Tryd.func12 rfl (vs:=[.bool (true)]) (fun h_ H_=>⟨.bool (true),_,rfl,rfl,rfl⟩) (v:=.bool (true)) rfl ?_
        exact fun h_ H_=>⟨rfl,H_.kept⟩
     ·
      refine xdx rfl (dff cc48) <| xdk <| fsr <| rd (fun h_ H_=>xaw H_ tA25 tS25 rfl (i:=2) rfl (vs:=[.slice a1 t.nH c1,.slice a2 t.nW c2,.slice a3 t.m c3]) rfl rfl) <| rt (xaz xoj rfl (a':=⟨b2,0,none⟩) rfl) (tm':=zq1 (zq4 (zq32 (zq32 (zq32 (zq32 (zq32 (zq32 [])))))))) rfl <| rd (fun h_ H_=>xaj H_ tA3 rfl (i:=1) rfl (v:=.int .i64 (x)) rfl) ?_
      refine ro (xaz xpx rfl (a':=⟨b2,1,none⟩) rfl) ?_
      refine xbq mn (fun h_ H_=>xaj H_ tA3 rfl (i:=1) rfl (v:=.int .i64 (y)) rfl) (tm':=zq1 (zq4 (zq32 (zq32 (zq32 (zq32 (zq32 (zq32 [])))))))) rfl ?_
      refine xdv mn (first:=[]) (cap:=[]) rfl rfl fC55 (fun h_ H_=>wvx .lone H_.pe (show TownP _ _ _ _ _ _ _ t from ⟨(((((T.h.mono le16).mono le21).mono le36).mono le41).mono le46),(((((T.w.mono le16).mono le21).mono le36).mono le41).mono le46),(((((T.y.mono le16).mono le21).mono le36).mono le41).mono le46)⟩) (by omega) hcap (((((N.mono le16).mono le21).mono le36).mono le41).mono le46) hc_ hx_ hy_) rfl ?_
      refine ro (xaq (v:=.tuple #[.bool (decide (WayP t (x) (y))),.int .i64 (wayV t (x) (y))]) rfl) <| rt (xdz rfl (v:=.bool (decide (WayP t (x) (y)))) rfl) (tm':=zq1 (zq4 (zq32 (zq32 (zq32 (zq32 (zq32 (zq32 [])))))))) rfl <| ro (xdz rfl (v:=.int .i64 (wayV t (x) (y))) rfl) <| ro (xax (v:=.bool (decide (WayP t (x) (y)))) rfl) <| rt (xax (v:=.int .i64 (wayV t (x) (y))) rfl) (tm':=zq2 (zq16 _)) rfl <| ren ?_
      refine fsr <| rd (fun h_ H_=>xaw H_ tA25 tS25 rfl (i:=2) rfl (vs:=[.slice a1 t.nH c1,.slice a2 t.nW c2,.slice a3 t.m c3]) rfl rfl) <| rd (fun h_ H_=>xaw H_ tA43 tS43 rfl (i:=1) rfl (vs:=[.int .i64 (x),.int .i64 (y)]) rfl rfl) ?_
      refine xdv mn (first:=[]) (cap:=[]) rfl rfl fC60 (fun h_ H_=>c60 .lone _ _ H_.pe _ _ _ _ _ _ _ _ _ t (show TownP _ _ _ _ _ _ _ t from ⟨(((((T.h.mono le16).mono le21).mono le36).mono le41).mono le46),(((((T.w.mono le16).mono le21).mono le36).mono le41).mono le46),(((((T.y.mono le16).mono le21).mono le36).mono le41).mono le46)⟩) (by omega) (x) (y)) (tm':=zq1 (zq4 (zq32 (zq32 (zq32 (zq32 (zq32 (zq32 [])))))))) rfl ?_
      refine xav ?_
      by_cases cc92:((x,y):FWay)∈t.wy
      ·
       have hyes_:=cc92
       refine xdw rfl (dtt cc92) <| fsr <| ro (xaq (v:=.int .i64 (wayV t (x) (y))) rfl) <| ro (xmw rfl rfl) <| rt (xaq (v:=.bool (decide (wayV t (x) (y)=3))) rfl) (tm':=zq1 (zq4 (zq32 (zq32 (zq32 (zq32 (zq32 (zq32 [])))))))) rfl ?_
       refine xbq (ms rfl rfl (decide_eq_true (by have z_:=ydx hyes_;omega))) (fun h_ H_=>xaq (v:=.bool (decide (WayP t (x) (y)))) rfl) rfl ?_
       refine xbq (ms rfl rfl (decide_eq_true (by have z_:=ydx hyes_;omega))) (fun h_ H_=>xgw rfl) rfl ?_
       refine rt (xdj rfl (decide_eq_true (by have z_:=ydx hyes_;omega)) (v:=.bool (!(decide (WayP t (x) (y))))) rfl) (tm':=zq1 (zq4 (zq32 (zq32 (zq32 (zq32 (zq32 (zq32 [])))))))) rfl ?_
       refine ro (xaq (v:=.bool (!(decide (WayP t (x) (y))))) rfl) ?_
       refine xdv (ms rfl rfl (xhw (decide_eq_false (yzj hyes_)))) (first:=[]) (cap:=[]) rfl rfl fC16 (fun h_ H_=>c16 .lone _ _ H_.pe (((((N.mono le16).mono le21).mono le36).mono le41).mono le46) (((((Z.mono le16).mono le21).mono le36).mono le41).mono le46)) rfl ?_
       refine rt (xdj rfl (xhw (decide_eq_false (yzj hyes_))) (v:=.bool (true)) rfl) (tm':=zq1 (zq4 (zq32 (zq32 (zq32 (zq32 (zq32 (zq32 [])))))))) rfl <| ro (xax (v:=.bool (true)) rfl) <| xav ?_
       refine xqv Tryd.func12 rfl (vs:=[.bool (true)]) (fun h_ H_=>⟨.bool (true),_,rfl,rfl,rfl⟩) (v:=.bool (true)) rfl ?_
       exact fun h_ H_=>⟨rfl,H_.kept⟩
      ·
       have hno_:=cc92
       refine xdx rfl (dff cc92) <| xdk <| xek <| fsr <| ro (xaq (v:=.int .i64 (wayV t (x) (y))) rfl) <| rt (xkk rfl rfl) (tm':=zq1 (zq4 (zq32 (zq32 (zq32 (zq32 (zq32 (zq32 [])))))))) rfl ?_
       refine xav ?_
       refine xdx rfl (decide_eq_false (by have z_:=wdq hno_;omega)) ?_
       refine xdk <| fsr <| rd (fun h_ H_=>xaw H_ tA25 tS25 rfl (i:=2) rfl (vs:=[.slice a1 t.nH c1,.slice a2 t.nW c2,.slice a3 t.m c3]) rfl rfl) <| rd (fun h_ H_=>xaw H_ tA43 tS43 rfl (i:=1) rfl (vs:=[.int .i64 (x),.int .i64 (y)]) rfl rfl) ?_
       refine xcq (L':=([(b32,.cells #[.slice a34 ((pour t (y).toNat).nH) cp35,.slice a39 ((pour t (y).toNat).nW) cp40,.slice a44 ((pour t (y).toNat).m) cp45] 25 (0,0)),(b2,.cells #[.int .i64 (x),.int .i64 (y)] 43 (0,0)),(b1,.cells #[.slice a1 t.nH c1,.slice a2 t.nW c2,.slice a3 t.m c3] 25 (0,0))]:Pcs)++[]) rfl ?_
       refine xjj mn (first:=[]) (cap:=[]) rfl rfl fC26 (R:=fun v_ h_=>∃ w93:Value,∃ w94:Value,∃ w95:Value,∃ X96:Pcs,∃ X97:Pcs,∃ X98:Pcs,v_= .agg #[w93,w94,w95]∧(OwnS 3 1 w93 (ics (withT t (x,y)).hs) X96)∧(OwnS 3 1 w94 (ics (withT t (x,y)).ws) X97)∧(OwnS 43 2 w95 (wcs (withT t (x,y)).wy) X98)∧St h [] p43 h_ (([(b32,.cells #[.slice a34 ((pour t (y).toNat).nH) cp35,.slice a39 ((pour t (y).toNat).nW) cp40,.slice a44 ((pour t (y).toNat).m) cp45] 25 (0,0)),(b2,.cells #[.int .i64 (x),.int .i64 (y)] 43 (0,0)),(b1,.cells #[.slice a1 t.nH c1,.slice a2 t.nW c2,.slice a3 t.m c3] 25 (0,0))]:Pcs)++((X98++(X96++(X97++[])))++[]))) (fun h_ H_=>(c26 .lone _ _ H_.pe _ _ _ _ _ _ t (show TownP _ _ _ _ _ _ _ t from ⟨(((((T.h.mono le16).mono le21).mono le36).mono le41).mono le46),(((((T.w.mono le16).mono le21).mono le36).mono le41).mono le46),(((((T.y.mono le16).mono le21).mono le36).mono le41).mono le46)⟩) (by omega) (x) (y)).mono fun v_ h2_ ⟨w93,w94,w95,X96,X97,X98,e_,o99,o100,o101,N_⟩=>⟨w93,w94,w95,X96,X97,X98,e_,o99,o100,o101,H_.callNA N_⟩) fun v_=>?_
       refine xgz fun w93=>xgz fun w94=>xgz fun w95=>xgz fun X96=>xgz fun X97=>xgz fun X98=>xfx fun ev_=>xfx fun o99=>xfx fun o100=>xfx fun o101=>?_
       have ev_:=ev_.symm;subst ev_
       refine xcq (L':=([(b32,.cells #[.slice a34 ((pour t (y).toNat).nH) cp35,.slice a39 ((pour t (y).toNat).nW) cp40,.slice a44 ((pour t (y).toNat).m) cp45] 25 (0,0)),(b2,.cells #[.int .i64 (x),.int .i64 (y)] 43 (0,0)),(b1,.cells #[.slice a1 t.nH c1,.slice a2 t.nW c2,.slice a3 t.m c3] 25 (0,0))]:Pcs)++(X98++(X96++(X97++[])))) (by simp) ?_
       refine xgq (tm':=zq1 (zq4 (zq32 (zq32 (zq32 (zq32 (zq32 (zq32 [])))))))) rfl ?_
       refine xkx mn tZ25 rfl fun b102=>xcq (L':=([(b102,.cells #[.slice none 0 0,.slice none 0 0,.slice none 0 0] 25 (0,0)),(b32,.cells #[.slice a34 ((pour t (y).toNat).nH) cp35,.slice a39 ((pour t (y).toNat).nW) cp40,.slice a44 ((pour t (y).toNat).m) cp45] 25 (0,0)),(b2,.cells #[.int .i64 (x),.int .i64 (y)] 43 (0,0)),(b1,.cells #[.slice a1 t.nH c1,.slice a2 t.nW c2,.slice a3 t.m c3] 25 (0,0))]:Pcs)++(X98++(X96++(X97++[])))) rfl ?_
       refine xiq mn tS25 rfl (v:=.agg #[w93,w94,w95]) rfl (i:=0) rfl rfl (xew o99.one.2 (xew o100.one.2 (xew o101.one.2 rfl))) (Nat.le_of_ble_eq_true rfl) (cs2:=[w93,w94,w95]) rfl (xcq (L':=([(b102,.cells #[w93,w94,w95] 25 (0,0)),(b32,.cells #[.slice a34 ((pour t (y).toNat).nH) cp35,.slice a39 ((pour t (y).toNat).nW) cp40,.slice a44 ((pour t (y).toNat).m) cp45] 25 (0,0)),(b2,.cells #[.int .i64 (x),.int .i64 (y)] 43 (0,0)),(b1,.cells #[.slice a1 t.nH c1,.slice a2 t.nW c2,.slice a3 t.m c3] 25 (0,0))]:Pcs)++(X98++(X96++(X97++[])))) rfl ?_)
       refine ren <| xek ?_
       refine xfz (List.Perm.append_left _ (List.perm_append_comm_assoc _ _ _)) ?_
       refine xkw (L':=([(b102,.cells #[w93,w94,w95] 25 (0,0)),(b32,.cells #[.slice a34 ((pour t (y).toNat).nH) cp35,.slice a39 ((pour t (y).toNat).nW) cp40,.slice a44 ((pour t (y).toNat).m) cp45] 25 (0,0)),(b2,.cells #[.int .i64 (x),.int .i64 (y)] 43 (0,0)),(b1,.cells #[.slice a1 t.nH c1,.slice a2 t.nW c2,.slice a3 t.m c3] 25 (0,0))]:Pcs)++(X96++(X98++(X97++[])))) rfl ?_
       refine xix (A:=([(b102,.cells #[w93,w94,w95] 25 (0,0)),(b32,.cells #[.slice a34 ((pour t (y).toNat).nH) cp35,.slice a39 ((pour t (y).toNat).nW) cp40,.slice a44 ((pour t (y).toNat).m) cp45] 25 (0,0)),(b2,.cells #[.int .i64 (x),.int .i64 (y)] 43 (0,0)),(b1,.cells #[.slice a1 t.nH c1,.slice a2 t.nW c2,.slice a3 t.m c3] 25 (0,0))]:Pcs)) o99 (show (ics ((withT t (x,y)).hs)).length=(withT t (x,y)).nH from xcx _) fun p103 a104 cp105 le106 ev_ D107=>?_
       subst ev_
       refine xfz (List.Perm.append_left _ (List.perm_append_comm_assoc _ _ _)) ?_
       refine xkw (L':=([(b102,.cells #[.slice a104 ((withT t (x,y)).nH) cp105,w94,w95] 25 (0,0)),(b32,.cells #[.slice a34 ((pour t (y).toNat).nH) cp35,.slice a39 ((pour t (y).toNat).nW) cp40,.slice a44 ((pour t (y).toNat).m) cp45] 25 (0,0)),(b2,.cells #[.int .i64 (x),.int .i64 (y)] 43 (0,0)),(b1,.cells #[.slice a1 t.nH c1,.slice a2 t.nW c2,.slice a3 t.m c3] 25 (0,0))]:Pcs)++(X97++(X98++[]))) rfl ?_
       refine xix (A:=([(b102,.cells #[.slice a104 ((withT t (x,y)).nH) cp105,w94,w95] 25 (0,0)),(b32,.cells #[.slice a34 ((pour t (y).toNat).nH) cp35,.slice a39 ((pour t (y).toNat).nW) cp40,.slice a44 ((pour t (y).toNat).m) cp45] 25 (0,0)),(b2,.cells #[.int .i64 (x),.int .i64 (y)] 43 (0,0)),(b1,.cells #[.slice a1 t.nH c1,.slice a2 t.nW c2,.slice a3 t.m c3] 25 (0,0))]:Pcs)) o100 (show (ics ((withT t (x,y)).ws)).length=(withT t (x,y)).nW from xcx _) fun p108 a109 cp110 le111 ev_ D112=>?_
       subst ev_
       refine xix (A:=([(b102,.cells #[.slice a104 ((withT t (x,y)).nH) cp105,.slice a109 ((withT t (x,y)).nW) cp110,w95] 25 (0,0)),(b32,.cells #[.slice a34 ((pour t (y).toNat).nH) cp35,.slice a39 ((pour t (y).toNat).nW) cp40,.slice a44 ((pour t (y).toNat).m) cp45] 25 (0,0)),(b2,.cells #[.int .i64 (x),.int .i64 (y)] 43 (0,0)),(b1,.cells #[.slice a1 t.nH c1,.slice a2 t.nW c2,.slice a3 t.m c3] 25 (0,0))]:Pcs)) o101 (wcs_size _) fun p113 a114 cp115 le116 ev_ D117=>?_
       subst ev_
       refine xkw (L':=[(b102,.cells #[.slice a104 ((withT t (x,y)).nH) cp105,.slice a109 ((withT t (x,y)).nW) cp110,.slice a114 ((withT t (x,y)).m) cp115] 25 (0,0)),(b32,.cells #[.slice a34 ((pour t (y).toNat).nH) cp35,.slice a39 ((pour t (y).toNat).nW) cp40,.slice a44 ((pour t (y).toNat).m) cp45] 25 (0,0)),(b2,.cells #[.int .i64 (x),.int .i64 (y)] 43 (0,0)),(b1,.cells #[.slice a1 t.nH c1,.slice a2 t.nW c2,.slice a3 t.m c3] 25 (0,0))]) rfl ?_
       refine xbx <| rd (fun h_ H_=>xaw H_ tA25 tS25 rfl (i:=0) rfl (vs:=[.slice a104 ((withT t (x,y)).nH) cp105,.slice a109 ((withT t (x,y)).nW) cp110,.slice a114 ((withT t (x,y)).m) cp115]) rfl rfl) ?_
       refine xdv mn (first:=[]) (cap:=[]) rfl rfl fC48 (fun h_ H_=>c48 .lone _ _ H_.pe _ _ _ _ _ _ _ _ _ (withT t (x,y)) (show TownP _ _ _ _ _ _ _ (withT t (x,y)) from ⟨(((show Ints _ _ _ ((withT t (x,y)).hs) from D107).mono le111).mono le116),((show Ints _ _ _ ((withT t (x,y)).ws) from D112).mono le116),(show Wys _ _ _ ((withT t (x,y)).wy) from D117)⟩) (by omega)) (tm':=zq1 (zq4 (zq32 (zq32 (zq32 (zq32 (zq32 (zq32 [])))))))) rfl ?_
       refine ro (xkk rfl rfl) <| xav ?_
       by_cases cc118:chkB (withT t (x,y))≠0
       ·
        refine xdw rfl (dtt cc118) <| fsr ?_
        refine xdv mn (first:=[]) (cap:=[]) rfl rfl fC16 (fun h_ H_=>c16 .lone _ _ H_.pe ((((((((N.mono le16).mono le21).mono le36).mono le41).mono le46).mono le106).mono le111).mono le116) ((((((((Z.mono le16).mono le21).mono le36).mono le41).mono le46).mono le106).mono le111).mono le116)) rfl ?_
        refine rt (xax (v:=.bool (true)) rfl) (tm':=zq1 (zq4 _)) rfl <| xav ?_
        refine xqv Tryd.func12 rfl (vs:=[.bool (true)]) (fun h_ H_=>⟨.bool (true),_,rfl,rfl,rfl⟩) (v:=.bool (true)) rfl ?_
        exact fun h_ H_=>⟨rfl,H_.kept⟩
       ·
        have hcw_:chkB (withT t (x,y))=0:=by omega
        have hOw_:=xuq hcw_
        have wF_:=ywx hO.toOk (x,y) (yok hO h12 (by omega) (by omega)).toOk hOw_.toOk
        refine xdx rfl (dff cc118) <| xdk <| fsr <| rd (fun h_ H_=>xaw H_ tA25 tS25 rfl (i:=0) rfl (vs:=[.slice a104 ((withT t (x,y)).nH) cp105,.slice a109 ((withT t (x,y)).nW) cp110,.slice a114 ((withT t (x,y)).m) cp115]) rfl rfl) ?_
        refine xcq (L':=([(b102,.cells #[.slice a104 ((withT t (x,y)).nH) cp105,.slice a109 ((withT t (x,y)).nW) cp110,.slice a114 ((withT t (x,y)).m) cp115] 25 (0,0)),(b32,.cells #[.slice a34 ((pour t (y).toNat).nH) cp35,.slice a39 ((pour t (y).toNat).nW) cp40,.slice a44 ((pour t (y).toNat).m) cp45] 25 (0,0)),(b2,.cells #[.int .i64 (x),.int .i64 (y)] 43 (0,0)),(b1,.cells #[.slice a1 t.nH c1,.slice a2 t.nW c2,.slice a3 t.m c3] 25 (0,0))]:Pcs)++[]) rfl ?_
        refine xjj mn (first:=[]) (cap:=[]) rfl rfl fC24 (R:=fun v_ h_=>∃ w119:Value,∃ X120:Pcs,v_= .tuple #[w119,.bool (true)]∧(OwnS 3 1 w119 (ics (LK (withT t (x,y)))) X120)∧St h [] p113 h_ (([(b102,.cells #[.slice a104 ((withT t (x,y)).nH) cp105,.slice a109 ((withT t (x,y)).nW) cp110,.slice a114 ((withT t (x,y)).m) cp115] 25 (0,0)),(b32,.cells #[.slice a34 ((pour t (y).toNat).nH) cp35,.slice a39 ((pour t (y).toNat).nW) cp40,.slice a44 ((pour t (y).toNat).m) cp45] 25 (0,0)),(b2,.cells #[.int .i64 (x),.int .i64 (y)] 43 (0,0)),(b1,.cells #[.slice a1 t.nH c1,.slice a2 t.nW c2,.slice a3 t.m c3] 25 (0,0))]:Pcs)++(X120++[]))) (fun h_ H_=>(c24 .lone _ _ H_.pe _ _ _ _ _ _ (withT t (x,y)) (show TownP _ _ _ _ _ _ _ (withT t (x,y)) from ⟨(((show Ints _ _ _ ((withT t (x,y)).hs) from D107).mono le111).mono le116),((show Ints _ _ _ ((withT t (x,y)).ws) from D112).mono le116),(show Wys _ _ _ ((withT t (x,y)).wy) from D117)⟩) (by omega) ((((((((N.mono le16).mono le21).mono le36).mono le41).mono le46).mono le106).mono le111).mono le116) hcw_).mono fun v_ h2_ ⟨w119,X120,e_,o121,N_⟩=>⟨w119,X120,e_,o121,H_.callNA N_⟩) fun v_=>?_
        refine xgz fun w119=>xgz fun X120=>xfx fun ev_=>xfx fun o121=>?_
        have ev_:=ev_.symm;subst ev_
        refine xcq (L':=([(b102,.cells #[.slice a104 ((withT t (x,y)).nH) cp105,.slice a109 ((withT t (x,y)).nW) cp110,.slice a114 ((withT t (x,y)).m) cp115] 25 (0,0)),(b32,.cells #[.slice a34 ((pour t (y).toNat).nH) cp35,.slice a39 ((pour t (y).toNat).nW) cp40,.slice a44 ((pour t (y).toNat).m) cp45] 25 (0,0)),(b2,.cells #[.int .i64 (x),.int .i64 (y)] 43 (0,0)),(b1,.cells #[.slice a1 t.nH c1,.slice a2 t.nW c2,.slice a3 t.m c3] 25 (0,0))]:Pcs)++(X120++[])) rfl ?_
        refine rt (xaq (v:=.tuple #[w119,.bool (true)]) rfl) (tm':=zq1 (zq4 (zq32 (zq32 (zq32 (zq32 (zq32 (zq32 [])))))))) rfl <| ro (xdz rfl (v:=w119) rfl) <| ro (xdz rfl (v:=.bool (true)) rfl) <| rt (xax (v:=w119) rfl) (tm':=zq4 (zq16 _)) rfl <| ro (xax (v:=.bool (true)) rfl) <| ren ?_
        refine xbx <| rd (fun h_ H_=>xaw H_ tA25 tS25 rfl (i:=0) rfl (vs:=[.slice a104 ((withT t (x,y)).nH) cp105,.slice a109 ((withT t (x,y)).nW) cp110,.slice a114 ((withT t (x,y)).m) cp115]) rfl rfl) ?_
        refine xdv mn (first:=[]) (cap:=[]) rfl rfl fC28 (fun h_ H_=>yfk .lone H_.pe (show TownP _ _ _ _ _ _ _ (withT t (x,y)) from ⟨(((show Ints _ _ _ ((withT t (x,y)).hs) from D107).mono le111).mono le116),((show Ints _ _ _ ((withT t (x,y)).ws) from D112).mono le116),(show Wys _ _ _ ((withT t (x,y)).wy) from D117)⟩) (by omega) ((((((((N.mono le16).mono le21).mono le36).mono le41).mono le46).mono le106).mono le111).mono le116) hcw_) (tm':=zq1 (zq4 (zq32 (zq32 (zq32 (zq32 (zq32 (zq32 [])))))))) rfl ?_
        refine ro (xaq (v:=.tuple #[.int .i64 (mostV (withT t (x,y))),.int .i64 0]) rfl) <| ro (xdz rfl (v:=.int .i64 (mostV (withT t (x,y)))) rfl) <| rt (xdz rfl (v:=.int .i64 0) rfl) (tm':=zq1 (zq4 (zq32 (zq32 (zq32 (zq32 (zq32 (zq32 [])))))))) rfl <| ro (xax (v:=.int .i64 (mostV (withT t (x,y)))) rfl) <| ro (xax (v:=.int .i64 0) rfl) <| ren ?_
        refine xix (A:=([(b102,.cells #[.slice a104 ((withT t (x,y)).nH) cp105,.slice a109 ((withT t (x,y)).nW) cp110,.slice a114 ((withT t (x,y)).m) cp115] 25 (0,0)),(b32,.cells #[.slice a34 ((pour t (y).toNat).nH) cp35,.slice a39 ((pour t (y).toNat).nW) cp40,.slice a44 ((pour t (y).toNat).m) cp45] 25 (0,0)),(b2,.cells #[.int .i64 (x),.int .i64 (y)] 43 (0,0)),(b1,.cells #[.slice a1 t.nH c1,.slice a2 t.nW c2,.slice a3 t.m c3] 25 (0,0))]:Pcs)) o121 ((xcx _).trans (xpj _)) fun p122 a123 cp124 le125 ev_ D126=>?_
        subst ev_
        refine xkw (L':=[(b102,.cells #[.slice a104 ((withT t (x,y)).nH) cp105,.slice a109 ((withT t (x,y)).nW) cp110,.slice a114 ((withT t (x,y)).m) cp115] 25 (0,0)),(b32,.cells #[.slice a34 ((pour t (y).toNat).nH) cp35,.slice a39 ((pour t (y).toNat).nW) cp40,.slice a44 ((pour t (y).toNat).m) cp45] 25 (0,0)),(b2,.cells #[.int .i64 (x),.int .i64 (y)] 43 (0,0)),(b1,.cells #[.slice a1 t.nH c1,.slice a2 t.nW c2,.slice a3 t.m c3] 25 (0,0))]) rfl ?_
        refine xbx <| rt (xaq (v:=.bool (true)) rfl) (tm':=zq1 (zq4 (zq32 (zq32 (zq32 (zq32 (zq32 (zq32 [])))))))) rfl <| ro (xaq (v:=.bool (true)) rfl) ?_
        refine xbq (ms rfl rfl rfl) (fun h_ H_=>xaq (v:=.int .i64 0) rfl) rfl ?_
        refine xbq (ms rfl rfl rfl) (fun h_ H_=>xmw rfl rfl) (tm':=zq1 (zq4 (zq32 (zq32 (zq32 (zq32 (zq32 (zq32 [])))))))) rfl ?_
        refine ro (xdj rfl rfl (v:=.bool (decide ((0:Int)=0))) rfl) <| ro (xaq (v:=.bool (decide ((0:Int)=0))) rfl) ?_
        refine xbq (ms rfl rfl (decide_eq_true (by decide))) (fun h_ H_=>xaq (v:=.int .i64 (mostV (withT t (x,y)))) rfl) (tm':=zq1 (zq4 (zq32 (zq32 (zq32 (zq32 (zq32 (zq32 [])))))))) rfl ?_
        refine xbq (ms rfl rfl (decide_eq_true (by decide))) (fun h_ H_=>xaq (v:=.int .i64 (mostV t)) rfl) rfl ?_
        refine xbq (ms rfl rfl (decide_eq_true (by decide))) (fun h_ H_=>xuj rfl rfl) rfl ?_
        refine rt (xdj rfl (decide_eq_true (by decide)) (v:=.bool (decide (mostV t≤mostV (withT t (x,y))))) rfl) (tm':=zq1 (zq4 (zq32 (zq32 (zq32 (zq32 (zq32 (zq32 [])))))))) rfl ?_
        refine ro (xaq (v:=.bool (decide (mostV t≤mostV (withT t (x,y))))) rfl) ?_
        refine xbq (ms rfl rfl (decide_eq_true wF_.most)) (fun h_ H_=>xaq (v:=.slice a14 t.nH cp15) rfl) rfl ?_
        refine xbq (ms rfl rfl (decide_eq_true wF_.most)) (fun h_ H_=>xaq (v:=.slice a123 ((withT t (x,y)).nH) cp124) rfl) (tm':=zq1 (zq4 (zq32 (zq32 (zq32 (zq32 (zq32 (zq32 [])))))))) rfl ?_
        refine xdv (ms rfl rfl (decide_eq_true wF_.most)) (first:=[]) (cap:=[]) rfl rfl fC59 (fun h_ H_=>ymz .lone (H_.pe) ((((((((((show Ints _ _ _ (LK t) from D17).mono le21).mono le36).mono le41).mono le46).mono le106).mono le111).mono le116).mono le125)) ((show Ints _ _ _ (LK (withT t (x,y))) from D126)) (by omega)) rfl ?_
        refine xbq (ms rfl rfl (decide_eq_true wF_.most)) (fun h_ H_=>xgw rfl) rfl ?_
        refine rt (xdj rfl (decide_eq_true wF_.most) (v:=.bool (!(decide (earlier (LK t) (LK (withT t (x,y)))=true)))) rfl) (tm':=zq1 (zq4 (zq32 (zq32 (zq32 (zq32 (zq32 (zq32 [])))))))) rfl <| ro (xaq (v:=.bool (!(decide (earlier (LK t) (LK (withT t (x,y)))=true)))) rfl) ?_
        refine xbq (ms rfl rfl (xhw (decide_eq_false (by rw [wF_.less];decide)))) (fun h_ H_=>xaq (v:=.slice a123 ((withT t (x,y)).nH) cp124) rfl) rfl ?_
        refine xbq (ms rfl rfl (xhw (decide_eq_false (by rw [wF_.less];decide)))) (fun h_ H_=>xaq (v:=.slice a14 t.nH cp15) rfl) (tm':=zq1 (zq4 (zq32 (zq32 (zq32 (zq32 (zq32 (zq32 [])))))))) rfl ?_
        refine xdv (ms rfl rfl (xhw (decide_eq_false (by rw [wF_.less];decide)))) (first:=[]) (cap:=[]) rfl rfl fC59 (fun h_ H_=>ymz .lone (H_.pe) ((show Ints _ _ _ (LK (withT t (x,y))) from D126)) ((((((((((show Ints _ _ _ (LK t) from D17).mono le21).mono le36).mono le41).mono le46).mono le106).mono le111).mono le116).mono le125)) (by omega)) rfl ?_
        refine xbq (ms rfl rfl (xhw (decide_eq_false (by rw [wF_.less];decide)))) (fun h_ H_=>xaq (v:=.bool (decide (WayP t (x) (y)))) rfl) rfl ?_
        refine xbq (ms rfl rfl (xhw (decide_eq_false (by rw [wF_.less];decide)))) (fun h_ H_=>zwz (p:=earlier (LK (withT t (x,y))) (LK t)=true) (q:=WayP t (x) (y)) Tryd.underlying4 rfl rfl) (tm':=zq1 (zq4 (zq32 (zq32 (zq32 (zq32 (zq32 (zq32 [])))))))) rfl ?_
        refine ro (xdj rfl (xhw (decide_eq_false (by rw [wF_.less];decide))) (v:=.bool (decide ((earlier (LK (withT t (x,y))) (LK t)=true)↔(WayP t (x) (y))))) rfl) ?_
        refine ro (xaq (v:=.bool (decide ((earlier (LK (withT t (x,y))) (LK t)=true)↔(WayP t (x) (y))))) rfl) ?_
        refine xdv (ms rfl rfl (decide_eq_true (yzz hno_ wF_))) (first:=[]) (cap:=[]) rfl rfl fC16 (fun h_ H_=>c16 .lone _ _ H_.pe (((((((((N.mono le16).mono le21).mono le36).mono le41).mono le46).mono le106).mono le111).mono le116).mono le125) (((((((((Z.mono le16).mono le21).mono le36).mono le41).mono le46).mono le106).mono le111).mono le116).mono le125)) (tm':=zq1 (zq4 (zq32 (zq32 (zq32 (zq32 (zq32 (zq32 [])))))))) rfl ?_
        refine ro (xdj rfl (decide_eq_true (yzz hno_ wF_)) (v:=.bool (true)) rfl) <| ro (xax (v:=.bool (true)) rfl) <| xav ?_
        refine xqv Tryd.func12 rfl (vs:=[.bool (true)]) (fun h_ H_=>⟨.bool (true),_,rfl,rfl,rfl⟩) (v:=.bool (true)) rfl ?_
        exact fun h_ H_=>⟨rfl,H_.kept⟩
   ·
    refine xfj (mo rfl rfl (xhw (dff cc5))) (tm':=zq2 (zq8 (zq32 _))) rfl <| rp (mo rfl rfl (xhw (dff cc5))) <| rp (mo rfl rfl (xhw (dff cc5))) <| xfj (mo rfl rfl (xhw (dff cc5))) (tm':=zq1 (zq4 (zq8 (zq32 _)))) rfl <| rp (mo rfl rfl (xhw (dff cc5))) <| rp (mo rfl rfl (xhw (dff cc5))) ?_
    refine rt (xdj rfl (xhw (dff cc5)) (v:=.bool (true)) rfl) (tm':=zq16 (zq32 _)) rfl <| xav <| xdw rfl rfl <| fsr ?_
    refine xdv mn (first:=[]) (cap:=[]) rfl rfl fC16 (fun h_ H_=>c16 .lone _ _ H_.pe N Z) rfl ?_
    refine ro (xax (v:=.bool (true)) rfl) <| xav ?_
    refine xqv Tryd.func12 rfl (vs:=[.bool (true)]) (fun h_ H_=>⟨.bool (true),_,rfl,rfl,rfl⟩) (v:=.bool (true)) rfl ?_
    exact fun h_ H_=>⟨rfl,H_.kept⟩
  ·
   refine xfj (mo rfl rfl (xhw (dff cc4))) (tm':=zq1 (zq2 (zq32 _))) rfl <| rp (mo rfl rfl (xhw (dff cc4))) <| rp (mo rfl rfl (xhw (dff cc4))) <| xfj (mo rfl rfl (xhw (dff cc4))) (tm':=zq2 (zq4 (zq32 _))) rfl <| rp (mo rfl rfl (xhw (dff cc4))) <| ro (xdj rfl (xhw (dff cc4)) (v:=.bool (true)) rfl) ?_
   refine rt (xaq (v:=.bool (true)) rfl) (tm':=zq1 (zq8 (zq32 _))) rfl <| rp (mo rfl rfl rfl) <| rp (mo rfl rfl rfl) <| xfj (mo rfl rfl rfl) (tm':=zq4 (zq8 (zq32 _))) rfl <| rp (mo rfl rfl rfl) <| rp (mo rfl rfl rfl) ?_
   refine xfj (mo rfl rfl rfl) (tm':=zq1 (zq2 (zq4 (zq8 (zq32 _))))) rfl <| ro (xdj rfl rfl (v:=.bool (true)) rfl) <| xav <| xdw rfl rfl <| fsr ?_
   refine xdv mn (first:=[]) (cap:=[]) rfl rfl fC16 (fun h_ H_=>c16 .lone _ _ H_.pe N Z) rfl ?_
   refine rt (xax (v:=.bool (true)) rfl) (tm':=zq1 (zq4 _)) rfl <| xav ?_
   refine xqv Tryd.func12 rfl (vs:=[.bool (true)]) (fun h_ H_=>⟨.bool (true),_,rfl,rfl,rfl⟩) (v:=.bool (true)) rfl ?_
   exact fun h_ H_=>⟨rfl,H_.kept⟩
 ·
  refine rp (mo rfl rfl (xhw cc3)) <| rp (mo rfl rfl (xhw cc3)) <| xfj (mo rfl rfl (xhw cc3)) (tm':=zq2 (zq4 (zq8 (zq16 _)))) rfl <| rp (mo rfl rfl (xhw cc3)) <| rp (mo rfl rfl (xhw cc3)) <| rt (xdj rfl (xhw cc3) (v:=.bool (true)) rfl) (tm':=zq1 (zq32 _)) rfl ?_
  refine ro (xaq (v:=.bool (true)) rfl) <| rp (mo rfl rfl rfl) <| xfj (mo rfl rfl rfl) (tm':=zq4 (zq32 _)) rfl <| rp (mo rfl rfl rfl) <| rp (mo rfl rfl rfl) <| xfj (mo rfl rfl rfl) (tm':=zq1 (zq2 (zq4 (zq32 _)))) rfl ?_
  refine ro (xdj rfl rfl (v:=.bool (true)) rfl) <| ro (xaq (v:=.bool (true)) rfl) <| xfj (mo rfl rfl rfl) (tm':=zq2 (zq8 (zq32 _))) rfl <| rp (mo rfl rfl rfl) <| rp (mo rfl rfl rfl) <| xfj (mo rfl rfl rfl) (tm':=zq1 (zq4 (zq8 (zq32 _)))) rfl ?_
  refine rp (mo rfl rfl rfl) <| rp (mo rfl rfl rfl) <| rt (xdj rfl rfl (v:=.bool (true)) rfl) (tm':=zq16 (zq32 _)) rfl <| xav <| xdw rfl rfl <| fsr ?_
  refine xdv mn (first:=[]) (cap:=[]) rfl rfl fC16 (fun h_ H_=>c16 .lone _ _ H_.pe N Z) rfl ?_
  refine ro (xax (v:=.bool (true)) rfl) <| xav ?_
  refine xqv Tryd.func12 rfl (vs:=[.bool (true)]) (fun h_ H_=>⟨.bool (true),_,rfl,rfl,rfl⟩) (v:=.bool (true)) rfl ?_
  exact fun h_ H_=>⟨rfl,H_.kept⟩
end Go.Proofs.YtalfgojocdonhaaDoor
namespace Go.Proofs.YtalfgojocdonhaaDoor
open Go.X Go.X.Flow Go.Conc Go.RowKit Go.ChangeShapes Go.WideShapes Go.ChangeAt Go.Joins
set_option maxRecDepth 100000

theorem wqz (os:Os) (started:os.Started) (H:Type) (enc:TypeId × Value→H):
    ReturnsInHanded {} Tryd.checked os 12 .any (fun w args=>(Rows.bucketsMoreSpec.pre enc Tryd.prog Tryd.f12 Rows.bucketsMoreRow.domain false w args∧laidMetH Tryd.prog Rows.bucketsMoreRow.laid w)∧sizedMet enc Tryd.prog Tryd.f12 (OpenSpec.ofChange Rows.bucketsMoreSpec) false w args) (Rows.bucketsMoreSpec.post enc Tryd.prog Tryd.f12 false true false false):=by
  refine returnsInHanded_of_change_and (C:=Tryd.checked) (X:=fun w _=>laidMetH Tryd.prog Rows.bucketsMoreRow.laid w) (fun _ _ _ hh h=>h.of_heap hh) pOwn started (by kernel_rfl) Tryd.func12
    (ChangeSpec.witness_shaped (enc:=enc) (C:=Tryd.checked) (os:=os) (X:=fun w _=>laidMetH Tryd.prog Rows.bucketsMoreRow.laid w) false (laidW os) #[.agg #[.slice none 0 0,.slice none 0 0,.slice none 0 0],.agg #[.int .i64 0,.int .i64 0]] 8 (World.laidAll_os _ _ _)
      (World.shaped_of_ZipB (by kernel_rfl) (by kernel_rfl)) (by kernel_rfl) (by kernel_rfl) (by kernel_rfl) (ytj os _)) ?_
  intro W base args ds gs before hval0 hW _ _ hL _
  have hval: ∀ (j:Nat) t v,Tryd.f12.params[j]?=some t→args[j]?=some v→Value.okWide Tryd.prog W .any base t v:=hval0
  have hW2:=hW
  obtain ⟨p,q,hA0,hV,rfl,_,_⟩:=hW2
  have hA:DataW.TrodAll enc Tryd.prog W 0 (fun _=>true) true Tryd.f12.params.toList args.toList ds p:=hA0
  rw [Tryd.params12] at hA hval
  obtain ⟨v0,v1,d0,d1,p0,p1,rfl,rfl,_,h0,h1⟩:=trodAll_two hA
  obtain ⟨rfl,rfl⟩:=trodVars_none hV
  obtain ⟨a1,c1,a2,c2,a3,c3,t,rfl,hl,hcap,T⟩:=yiz (hval 0 25 v0 rfl rfl) h0
  obtain ⟨x,y,rfl⟩:=wpq (hval 1 43 v1 rfl rfl) h1
  refine (xyq (e12 W.heap (pW W) (whj W) a1 a2 a3 c1 c2 c3 t T hl hcap x y (ycq hL) (yfq hL))).mono fun e W2 ⟨v,he,⟨hv,hk_⟩,cl⟩=>⟨v,he,?_⟩
  subst hv
  exact zcq vaz rfl (fun t ht=>by rw [Tryd.params12] at ht;revert t;decide +kernel) rfl Tryd.underlying4 hW rfl (zdk hk_ cl)

theorem bucketsMoreRowHolds:Rows.BucketsMoreSaid:=
  OpenClaim.holds_of_wide 12 Tryd.f12 rfl rfl rfl rfl rfl rfl rfl ⟨rfl,rfl,rfl,rfl,rfl⟩ rfl rfl rfl rfl rfl (by kernel_rfl) Tryd.func12 (by kernel_rfl)
    (of_decide_eq_true (by kernel_rfl)) (by unfold Func.isWrapper;first | (rw [if_pos (by decide +kernel)];kernel_rfl) | (rw [if_neg (by decide +kernel)];exact ⟨rfl,rfl⟩))
    (fun os started H enc _=>wqz os started H enc)

theorem bucketsMoreHolds:Rows.BucketsMoreCardSaid:=
  Claim7.holds_tied_plain_at .later [] [.data, .data, .data] true (true, "5334d201df14a8cbe7ef60c793562a47fe331153d035b74b45b1c636860d1486") false bucketsMoreRowHolds (fun _ h => by cases h) (by kernel_rfl) (fun _ h => by cases h) bucketsMore_row_tie rfl ⟨rfl, rfl⟩ (by kernel_rfl) rfl
    (fun f fn hf hfn=>by
      obtain rfl : f = 12 := Option.some.inj ((show Tryd.prog.funcNamed "steening/steeninglaw03.BucketsMore" = some 12 by kernel_rfl).symm.trans hf) |>.symm
      obtain rfl:fn= Tryd.f12:=(Option.some.inj (Tryd.func12.symm.trans hfn)).symm
      exact ⟨by kernel_rfl,fun j t ht=>by
        rw [Tryd.params12] at ht
        have hm:t∈[25,43]:=by simpa using Array.mem_of_getElem? ht
        have hall:([25,43].all fun u=>!Tryd.prog.wantsStandIn u)=true:=by kernel_rfl
        exact (show Tryd.prog.wantsStandIn t=false by simpa using List.all_eq_true.1 hall t hm)⟩)
    (by kernel_rfl)

#print axioms bucketsMoreHolds
end Go.Proofs.YtalfgojocdonhaaDoor
