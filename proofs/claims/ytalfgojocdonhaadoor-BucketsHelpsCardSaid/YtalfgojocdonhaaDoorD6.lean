/-
  Part of proofs about buckets brought from wells to houses: a lone run, and what it computes. No condition.
-/
import Derived.Test.YtalfgojocdonhaaDoorD2
import Derived.Test.YtalfgojocdonhaaDoorD4
import Derived.Test.YtalfgojocdonhaaDoorD5
import Derived.Test.YtalfgojocdonhaaDoorD1
import Derived.Conc.LeavingOf
import Derived.Carry
import Derived.Deep.Slices
import Derived.Lib.SmallJoins
import Derived.Calls
import Derived.Test.YtalfgojocdonhaaDoorRows
import Derived.Lay
import Derived.Lib.LaidTab
import Derived.LaidSub
import Derived.MakeChecks
import Derived.JoinedOf
import Derived.Handed
import Derived.ChangeMaps5
import Derived.ProofKit
namespace Go.Proofs.YtalfgojocdonhaaDoor
open Go.X Go.X.Flow Go.Conc
set_option maxRecDepth 10000
set_option synthInstance.maxSize 2000

set_option maxHeartbeats 2000000
theorem c58 (md:Md) (h:Heap) (p:PHeap) (hp:Per p h) (a1 a2 a3:Option Addr) (c1 c2 c3:Nat) (t:Tn) (T:TownP p a1 t.nH a2 t.nW a3 t.m t) (hn:t.nH≤40∧t.nW≤40∧t.m≤41) (O:OkT t) (z:Int) (hz:0≤z∧z≤(t.nW:Int)-1):CallsX Tryd.prog md 58 #[.agg #[.slice a1 t.nH c1,.slice a2 t.nW c2,.slice a3 t.m c3],.int .i64 (z)] h fun v h'=>∃ w1 w2 w3 X1 X2 X3,v= .agg #[w1,w2,w3]∧OwnS 3 1 w1 (ics t.hs) X1∧OwnS 3 1 w2 (ics (pour t z.toNat).ws) X2∧OwnS 43 2 w3 (wcs t.wy) X3∧New h h' (X2++(X3++(X1++[]))):=by
 refine xcx (Φ:=fun h_=>St h [] p h_ []) Tryd.func58 rfl (tm:=zq16 []) rfl ?_ (St.start h _ hp)
 intro c₀ cs Stop K
 refine fsr ?_
 refine xij mn (v:=.agg #[.slice a1 t.nH c1,.slice a2 t.nW c2,.slice a3 t.m c3]) rfl fun b1=>xcq (L':=[(b1,.cells #[.slice a1 t.nH c1,.slice a2 t.nW c2,.slice a3 t.m c3] 25 (0,0))]) rfl ?_
 refine xkx mn tZ25 rfl fun b2=>xcq (L':=[(b2,.cells #[.slice none 0 0,.slice none 0 0,.slice none 0 0] 25 (0,0)),(b1,.cells #[.slice a1 t.nH c1,.slice a2 t.nW c2,.slice a3 t.m c3] 25 (0,0))]) rfl ?_
 refine ren <| xbq ?_
 refine xbx mn (fun h_ H_=>xav H_ tA25 tS25 rfl (i:=1) rfl (vs:=[.slice a1 t.nH c1,.slice a2 t.nW c2,.slice a3 t.m c3]) rfl rfl) (tm':=zq1 (zq2 (zq4 _))) rfl ?_
 refine xcq (L':=([(b2,.cells #[.slice none 0 0,.slice none 0 0,.slice none 0 0] 25 (0,0)),(b1,.cells #[.slice a1 t.nH c1,.slice a2 t.nW c2,.slice a3 t.m c3] 25 (0,0))]:Pcs)++[]) rfl ?_
 refine xiw mn (first:=[]) (cap:=[]) rfl rfl fC17 (R:=fun v_ h_=>∃ w3:Value,∃ w4:Value,∃ w5:Value,∃ X6:Pcs,∃ X7:Pcs,∃ X8:Pcs,v_= .agg #[w3,w4,w5]∧(OwnS 3 1 w3 (ics t.hs) X6)∧(OwnS 3 1 w4 (ics t.ws) X7)∧(OwnS 43 2 w5 (wcs t.wy) X8)∧St h [] p h_ (([(b2,.cells #[.slice none 0 0,.slice none 0 0,.slice none 0 0] 25 (0,0)),(b1,.cells #[.slice a1 t.nH c1,.slice a2 t.nW c2,.slice a3 t.m c3] 25 (0,0))]:Pcs)++((X8++(X6++(X7++[])))++[]))) (fun h_ H_=>(c17 md _ _ H_.pe _ _ _ _ _ _ t (show TownP _ _ _ _ _ _ _ t from ⟨T.h,T.w,T.y⟩) (by omega)).mono fun v_ h2_ ⟨w3,w4,w5,X6,X7,X8,e_,o9,o10,o11,N_⟩=>⟨w3,w4,w5,X6,X7,X8,e_,o9,o10,o11,H_.callNA N_⟩) fun v_=>?_
 refine xgz fun w3=>xgz fun w4=>xgz fun w5=>xgz fun X6=>xgz fun X7=>xgz fun X8=>xfq fun ev_=>xfq fun o9=>xfq fun o10=>xfq fun o11=>?_
 have ev_:=ev_.symm;subst ev_
 refine xcq (L':=([(b2,.cells #[.slice none 0 0,.slice none 0 0,.slice none 0 0] 25 (0,0)),(b1,.cells #[.slice a1 t.nH c1,.slice a2 t.nW c2,.slice a3 t.m c3] 25 (0,0))]:Pcs)++(X8++(X6++(X7++[])))) (by simp) ?_
 refine xkx mn tZ25 rfl fun b12=>xcq (L':=([(b12,.cells #[.slice none 0 0,.slice none 0 0,.slice none 0 0] 25 (0,0)),(b2,.cells #[.slice none 0 0,.slice none 0 0,.slice none 0 0] 25 (0,0)),(b1,.cells #[.slice a1 t.nH c1,.slice a2 t.nW c2,.slice a3 t.m c3] 25 (0,0))]:Pcs)++(X8++(X6++(X7++[])))) rfl ?_
 refine xik mn tS25 rfl (v:=.agg #[w3,w4,w5]) rfl (i:=0) rfl rfl (xfk o9.one.2 (xfk o10.one.2 (xfk o11.one.2 rfl))) (Nat.le_of_ble_eq_true rfl) (cs2:=[w3,w4,w5]) rfl (xcq (L':=([(b12,.cells #[w3,w4,w5] 25 (0,0)),(b2,.cells #[.slice none 0 0,.slice none 0 0,.slice none 0 0] 25 (0,0)),(b1,.cells #[.slice a1 t.nH c1,.slice a2 t.nW c2,.slice a3 t.m c3] 25 (0,0))]:Pcs)++(X8++(X6++(X7++[])))) rfl ?_)
 refine ren <| xbq <| rt (xaz xnk rfl (a':=⟨b12,1,none⟩) rfl) (tm':=zq1 (zq8 _)) rfl <| rd (fun h_ H_=>xaj H_ tA22 rfl (i:=0) rfl (v:=w4) rfl) <| ro (xaq (v:=.int .i64 (z)) rfl) ?_
 refine rt (xoz o10 Tryd.underlying22 tS3 rfl rfl (by omega) (by rw [(show (ics t.ws).length=t.nW from xcw _)];omega)) (tm':=zq16 []) rfl ?_
 refine rd (fun h_ H_=>xuk (i:=(z).toNat) (j:=0) (e:=[.int .i64 (t.ws.getD ((z).toNat) 0)]) o10 H_ (fun x_ h_=>by simp [h_]) tA3 rfl rfl (xqw (show z.toNat<t.nW from by omega)) (u:=.int .i64 (t.ws.getD ((z).toNat) 0)) rfl) ?_
 refine ro (xek rfl rfl (wr (by have z_:=O.w z.toNat (by omega);unfold Tn.wv at z_;omega))) ?_
 refine rt (xoz o10 Tryd.underlying22 tS3 rfl rfl (by omega) (by rw [(show (ics t.ws).length=t.nW from xcw _)];omega)) (tm':=zq16 []) rfl ?_
 refine xjj (List.Perm.append_left _ (List.Perm.append_left _ (List.perm_append_comm_assoc _ _ _))) ?_
 refine xjj (List.Perm.append_left _ (List.perm_append_comm_assoc _ _ _)) ?_
 refine xcq (L':=([(b12,.cells #[w3,w4,w5] 25 (0,0)),(b2,.cells #[.slice none 0 0,.slice none 0 0,.slice none 0 0] 25 (0,0)),(b1,.cells #[.slice a1 t.nH c1,.slice a2 t.nW c2,.slice a3 t.m c3] 25 (0,0))]:Pcs)++(X7++(X8++(X6++[])))) rfl ?_
 refine xux (A:=([(b12,.cells #[w3,w4,w5] 25 (0,0)),(b2,.cells #[.slice none 0 0,.slice none 0 0,.slice none 0 0] 25 (0,0)),(b1,.cells #[.slice a1 t.nH c1,.slice a2 t.nW c2,.slice a3 t.m c3] 25 (0,0))]:Pcs)) (i:=(z).toNat) (j:=0) (e:=[.int .i64 (t.ws.getD ((z).toNat) 0)]) (u:=.int .i64 ((t.ws.getD ((z).toNat) 0)+1)) o10 mn tS3 rfl rfl rfl ⟨rfl,rfl⟩ (xqw (show z.toNat<t.nW from by omega)) (Nat.succ_le_iff.1 (Nat.le_of_ble_eq_true rfl)) fun X13 o14=>?_
 refine ren <| xbq <| rd (fun h_ H_=>xav H_ tA25 tS25 rfl (i:=0) rfl (vs:=[w3,w4,w5]) rfl rfl) ?_
 refine xik mn tS25 rfl (v:=.agg #[w3,w4,w5]) rfl (i:=1) rfl rfl (xfk o9.one.2 (xfk o14.one.2 (xfk o11.one.2 rfl))) (Nat.le_of_ble_eq_true rfl) (cs2:=[w3,w4,w5]) rfl (xcq (L':=([(b12,.cells #[w3,w4,w5] 25 (0,0)),(b2,.cells #[w3,w4,w5] 25 (0,0)),(b1,.cells #[.slice a1 t.nH c1,.slice a2 t.nW c2,.slice a3 t.m c3] 25 (0,0))]:Pcs)++(X13++(X8++(X6++[])))) rfl ?_)
 refine xak ?_
 refine xdv Tryd.func58 rfl (vs:=[.agg #[w3,w4,w5]]) (fun h_ H_=>⟨.agg #[w3,w4,w5],_,rfl,(xbz (xbv (xnj tA25 tS25 (vs:=[w3,w4,w5]) rfl (fun j_ v_ e_=>by rw [xnz];exact H_.ocell (i:=1) rfl (by simpa using e_)) ⟨rfl,rfl⟩))),rfl⟩) (v:=.agg #[w3,w4,w5]) rfl ?_
 exact fun h_ H_=>K _ _ ⟨_,_,_,_,_,_,rfl,o9,o14.as ((xxw).trans (congrArg ics wow)),o11,by simpa using (H_.dropA).new⟩
theorem c26 (md:Md) (h:Heap) (p:PHeap) (hp:Per p h) (a1 a2 a3:Option Addr) (c1 c2 c3:Nat) (t:Tn) (T:TownP p a1 t.nH a2 t.nW a3 t.m t) (hn:t.nH≤40∧t.nW≤40∧t.m≤41) (x y:Int):CallsX Tryd.prog md 26 #[.agg #[.slice a1 t.nH c1,.slice a2 t.nW c2,.slice a3 t.m c3],.agg #[.int .i64 (x),.int .i64 (y)]] h fun v h'=>∃ w1 w2 w3 X1 X2 X3,v= .agg #[w1,w2,w3]∧OwnS 3 1 w1 (ics t.hs) X1∧OwnS 3 1 w2 (ics t.ws) X2∧OwnS 43 2 w3 (wcs (withW t (x,y))) X3∧New h h' (X3++(X1++(X2++[]))):=by
 refine xcx (Φ:=fun h_=>St h [] p h_ []) Tryd.func26 rfl (tm:=zq2 (zq4 (zq16 (zq32 [])))) rfl ?_ (St.start h _ hp)
 intro c₀ cs Stop K
 refine fsr ?_
 refine xij mn (v:=.agg #[.slice a1 t.nH c1,.slice a2 t.nW c2,.slice a3 t.m c3]) rfl fun b1=>xcq (L':=[(b1,.cells #[.slice a1 t.nH c1,.slice a2 t.nW c2,.slice a3 t.m c3] 25 (0,0))]) rfl ?_
 refine xij mn (v:=.agg #[.int .i64 (x),.int .i64 (y)]) rfl fun b2=>xcq (L':=[(b2,.cells #[.int .i64 (x),.int .i64 (y)] 43 (0,0)),(b1,.cells #[.slice a1 t.nH c1,.slice a2 t.nW c2,.slice a3 t.m c3] 25 (0,0))]) rfl ?_
 refine xfj (tm':=zq4 _) rfl ?_
 refine xkx mn tZ25 rfl fun b3=>xcq (L':=[(b3,.cells #[.slice none 0 0,.slice none 0 0,.slice none 0 0] 25 (0,0)),(b2,.cells #[.int .i64 (x),.int .i64 (y)] 43 (0,0)),(b1,.cells #[.slice a1 t.nH c1,.slice a2 t.nW c2,.slice a3 t.m c3] 25 (0,0))]) rfl ?_
 refine ren <| xbq <| rd (fun h_ H_=>xav H_ tA25 tS25 rfl (i:=2) rfl (vs:=[.slice a1 t.nH c1,.slice a2 t.nW c2,.slice a3 t.m c3]) rfl rfl) ?_
 refine xcq (L':=([(b3,.cells #[.slice none 0 0,.slice none 0 0,.slice none 0 0] 25 (0,0)),(b2,.cells #[.int .i64 (x),.int .i64 (y)] 43 (0,0)),(b1,.cells #[.slice a1 t.nH c1,.slice a2 t.nW c2,.slice a3 t.m c3] 25 (0,0))]:Pcs)++[]) rfl ?_
 refine xiw mn (first:=[]) (cap:=[]) rfl rfl fC17 (R:=fun v_ h_=>∃ w4:Value,∃ w5:Value,∃ w6:Value,∃ X7:Pcs,∃ X8:Pcs,∃ X9:Pcs,v_= .agg #[w4,w5,w6]∧(OwnS 3 1 w4 (ics t.hs) X7)∧(OwnS 3 1 w5 (ics t.ws) X8)∧(OwnS 43 2 w6 (wcs t.wy) X9)∧St h [] p h_ (([(b3,.cells #[.slice none 0 0,.slice none 0 0,.slice none 0 0] 25 (0,0)),(b2,.cells #[.int .i64 (x),.int .i64 (y)] 43 (0,0)),(b1,.cells #[.slice a1 t.nH c1,.slice a2 t.nW c2,.slice a3 t.m c3] 25 (0,0))]:Pcs)++((X9++(X7++(X8++[])))++[]))) (fun h_ H_=>(c17 md _ _ H_.pe _ _ _ _ _ _ t (show TownP _ _ _ _ _ _ _ t from ⟨T.h,T.w,T.y⟩) (by omega)).mono fun v_ h2_ ⟨w4,w5,w6,X7,X8,X9,e_,o10,o11,o12,N_⟩=>⟨w4,w5,w6,X7,X8,X9,e_,o10,o11,o12,H_.callNA N_⟩) fun v_=>?_
 refine xgz fun w4=>xgz fun w5=>xgz fun w6=>xgz fun X7=>xgz fun X8=>xgz fun X9=>xfq fun ev_=>xfq fun o10=>xfq fun o11=>xfq fun o12=>?_
 have ev_:=ev_.symm;subst ev_
 refine xcq (L':=([(b3,.cells #[.slice none 0 0,.slice none 0 0,.slice none 0 0] 25 (0,0)),(b2,.cells #[.int .i64 (x),.int .i64 (y)] 43 (0,0)),(b1,.cells #[.slice a1 t.nH c1,.slice a2 t.nW c2,.slice a3 t.m c3] 25 (0,0))]:Pcs)++(X9++(X7++(X8++[])))) (by simp) ?_
 refine xfj (tm':=zq2 (zq8 _)) rfl ?_
 refine xkx mn tZ25 rfl fun b13=>xcq (L':=([(b13,.cells #[.slice none 0 0,.slice none 0 0,.slice none 0 0] 25 (0,0)),(b3,.cells #[.slice none 0 0,.slice none 0 0,.slice none 0 0] 25 (0,0)),(b2,.cells #[.int .i64 (x),.int .i64 (y)] 43 (0,0)),(b1,.cells #[.slice a1 t.nH c1,.slice a2 t.nW c2,.slice a3 t.m c3] 25 (0,0))]:Pcs)++(X9++(X7++(X8++[])))) rfl ?_
 refine xik mn tS25 rfl (v:=.agg #[w4,w5,w6]) rfl (i:=0) rfl rfl (xfk o10.one.2 (xfk o11.one.2 (xfk o12.one.2 rfl))) (Nat.le_of_ble_eq_true rfl) (cs2:=[w4,w5,w6]) rfl (xcq (L':=([(b13,.cells #[w4,w5,w6] 25 (0,0)),(b3,.cells #[.slice none 0 0,.slice none 0 0,.slice none 0 0] 25 (0,0)),(b2,.cells #[.int .i64 (x),.int .i64 (y)] 43 (0,0)),(b1,.cells #[.slice a1 t.nH c1,.slice a2 t.nW c2,.slice a3 t.m c3] 25 (0,0))]:Pcs)++(X9++(X7++(X8++[])))) rfl ?_)
 refine ren <| xbq <| ro (xaz xhj rfl (a':=⟨b13,2,none⟩) rfl) ?_
 refine xik mn tS23 rfl (v:=.slice none 0 0) rfl (i:=0) rfl rfl rfl (Nat.le_of_ble_eq_true rfl) (cs2:=[w4,w5,.slice none 0 0]) rfl (xcq (L':=([(b13,.cells #[w4,w5,.slice none 0 0] 25 (0,0)),(b3,.cells #[.slice none 0 0,.slice none 0 0,.slice none 0 0] 25 (0,0)),(b2,.cells #[.int .i64 (x),.int .i64 (y)] 43 (0,0)),(b1,.cells #[.slice a1 t.nH c1,.slice a2 t.nW c2,.slice a3 t.m c3] 25 (0,0))]:Pcs)++(X9++(X7++(X8++[])))) rfl ?_)
 refine ren <| xbq <| rt (xax (v:=.bool (false)) rfl) (tm':=zq1 (zq2 (zq4 _))) rfl <| ren <| fsr <| ro (xax (v:=.int .i64 0) rfl) ?_
 refine xak <| xdj ?_
 refine xhk (m₀:=t.m-0) (fun m_ tm_ h_=>∃ (k:Nat) (p_:Bool) (l_:List FWay) (w_:Value) (X1_:Pcs),m_=t.m-k∧(∃ y14:Nat→Value,tm_=(.agg #[.slice a1 t.nH c1,.slice a2 t.nW c2,.slice a3 t.m c3]::.agg #[.int .i64 (x),.int .i64 (y)]::.pointer (some ⟨b1,0,none⟩)::.pointer (some ⟨b2,0,none⟩)::.pointer (some ⟨b3,0,none⟩)::.pointer (some ⟨b13,0,none⟩)::.bool (p_)::.int .i64 (((k:Nat):Int))::.agg #[.slice a1 t.nH c1,.slice a2 t.nW c2,.slice a3 t.m c3]::.agg #[w4,w5,w6]::.pointer (some ⟨b13,2,none⟩)::(y14 11)::(y14 12)::(y14 13)::(y14 14)::(y14 15)::(y14 16)::(y14 17)::(y14 18)::(y14 19)::(y14 20)::(y14 21)::(y14 22)::(y14 23)::(y14 24)::(y14 25)::(y14 26)::(y14 27)::(y14 28)::(y14 29)::(y14 30)::(y14 31)::(y14 32)::(y14 33)::(y14 34)::(y14 35)::(y14 36)::(y14 37)::(y14 38)::(y14 39)::(y14 40)::(y14 41)::(y14 42)::(y14 43)::(y14 44)::undef::zu8 []))∧(k≤t.m)∧(p_=wkP t (x,y) k)∧(l_=wkL t (x,y) k)∧(OwnS 43 2 w_ (wcs l_) X1_)∧St h [] p h_ (([(b13,.cells #[w4,w5,w_] 25 (0,0)),(b3,.cells #[.slice none 0 0,.slice none 0 0,.slice none 0 0] 25 (0,0)),(b2,.cells #[.int .i64 (x),.int .i64 (y)] 43 (0,0)),(b1,.cells #[.slice a1 t.nH c1,.slice a2 t.nW c2,.slice a3 t.m c3] 25 (0,0))]:Pcs)++(X1_++(X9++(X7++(X8++[])))))) (fun h_ H_=>⟨0,false,[],(.slice none 0 0),[],rfl,(y_of rfl),Nat.zero_le _,rfl,rfl,(OwnS.empty _ _),H_⟩) ?_
 intro m_ tm_ IH15
 refine xhq fun k=>xhq fun p_=>xhq fun l_=>xhq fun w_=>xhq fun X1_=>xcz fun hm_=>xcz fun ht_=>xcz fun hk=>xcz fun hp_=>xcz fun hl_=>xcz fun o1_=>?_
 subst hm_;obtain ⟨y14,ht_⟩:=ht_;subst ht_
 have hz_:l_.length≤k+1:=by rw [hl_,waq];split <;> omega
 refine xez <| fsr <| ro (xaq (v:=.int .i64 (((k:Nat):Int))) rfl) <| rt (xaz xhj rfl (a':=⟨b1,2,none⟩) rfl) (tm':=zq1 (zq4 (zq8 _))) rfl <| rd (fun h_ H_=>xaj H_ tA23 rfl (i:=3) rfl (v:=.slice a3 t.m c3) rfl) <| ro (xfz Tryd.underlying23 rfl) ?_
 refine rt (xgj rfl rfl) (tm':=zq16 _) rfl <| xak ?_
 by_cases cc16:((k:Nat):Int)<((t.m:Nat):Int)
 ·
  refine xdx rfl (dtt cc16) <| xcv <| xez <| xdj <| xez <| xez ?_
  rcases ybj (p_) with cc17 | cc17
  ·
   refine xgx 9 [[],[0],[0,1],[],[],[4],[0,1],[0,1,4,5,6],[0,1,4,5,6,7],[0,1,3,4,5,6,7,8],[]] xkk (by kernel_rfl) (Nat.le_of_ble_eq_true rfl) ?_
   refine wo (xaq (v:=.bool (p_)) rfl) <| wt (xjw rfl) (tm':=zq4 (zq16 _)) rfl <| wo (xaq (v:=.bool (!p_)) rfl) <| xex (mo rfl rfl (xfw cc17)) (tm':=zq2 (zq4 (zq16 _))) rfl <| wp (mo rfl rfl (xfw cc17)) <| xex (mo rfl rfl (xfw cc17)) (tm':=zq8 (zq16 _)) rfl ?_
   refine wp (mo rfl rfl (xfw cc17)) <| xex (mo rfl rfl (xfw cc17)) (tm':=zq2 (zq8 (zq16 _))) rfl <| wp (mo rfl rfl (xfw cc17)) ?_
   refine xiz rfl ?_
   refine rp (mo rfl rfl (xfw cc17)) <| ro (xej rfl (xfw cc17) (v:=.bool (false)) rfl) <| xak <| xck rfl rfl <| xcv ?_
   refine xxv (xlx (C:=[]) (A:=([(b13,.cells #[w4,w5,w_] 25 (0,0)),(b3,.cells #[.slice none 0 0,.slice none 0 0,.slice none 0 0] 25 (0,0)),(b2,.cells #[.int .i64 (x),.int .i64 (y)] 43 (0,0)),(b1,.cells #[.slice a1 t.nH c1,.slice a2 t.nW c2,.slice a3 t.m c3] 25 (0,0))]:Pcs)) 8 [[],[0],[],[2],[],[2,3,4],[2,3,4,5],[2,3,4,5,6],[],[],[]] [8,9,10,11] [8,9,10,11,7] [0,1,2,3,4,5,6] (fun i_=>match i_ with | 8=>X1_ | 9=>X9 | 10=>X7 | 11=>X8 | _=>[]) (fun _=>[]) (fun i_=>match i_ with | 0=>[] | 1=>[0] | 2=>[] | 3=>[2] | 4=>[] | 5=>[3,4] | 6=>[5] | 7=>[6] | _=>[]) (fun i_ val_ pc_ v_ x_=>match i_ with | 0=>v_= .pointer (some ⟨b13,2,none⟩)∧x_=[] | 1=>v_=w_∧x_=[] | 2=>v_= .pointer (some ⟨b1,2,none⟩)∧x_=[] | 3=>v_= .slice a3 t.m c3∧x_=[] | 4=>v_= .int .i64 (((k:Nat):Int))∧x_=[] | 5=>v_= .pointer (some ((adr a3).add (k*2)))∧x_=[] | 6=>v_= .agg #[.int .i64 ((t.wy.getD k wz).1),.int .i64 ((t.wy.getD k wz).2)]∧x_=[] | 7=>OwnS 43 2 v_ [[.int .i64 ((t.wy.getD k wz).1),.int .i64 ((t.wy.getD k wz).2)]] x_ | _=>True) (fun val18=>(.agg #[.slice a1 t.nH c1,.slice a2 t.nW c2,.slice a3 t.m c3]::.agg #[.int .i64 (x),.int .i64 (y)]::.pointer (some ⟨b1,0,none⟩)::.pointer (some ⟨b2,0,none⟩)::.pointer (some ⟨b3,0,none⟩)::.pointer (some ⟨b13,0,none⟩)::.bool (p_)::.int .i64 (((k:Nat):Int))::.agg #[.slice a1 t.nH c1,.slice a2 t.nW c2,.slice a3 t.m c3]::.agg #[w4,w5,w6]::.pointer (some ⟨b13,2,none⟩)::.int .i64 (((k:Nat):Int))::.pointer (some ⟨b1,2,none⟩)::.slice a3 t.m c3::.int .i64 (((t.m:Nat):Int))::.bool (decide (((k:Nat):Int)<((t.m:Nat):Int)))::(y14 16)::(y14 17)::.bool (p_)::.bool (!p_)::.bool (!p_)::undef::undef::undef::zu4 (.bool (false)::(y14 29)::(y14 30)::(y14 31)::(y14 32)::(y14 33)::(y14 34)::(val18 0)::(val18 1)::(val18 2)::(val18 3)::(val18 4)::(val18 5)::(val18 6)::(val18 7)::(y14 43)::(y14 44)::undef::zu8 []))) xkk (by kernel_rfl) (Nat.le_of_ble_eq_true rfl) (by kernel_rfl) (by kernel_rfl) (by kernel_rfl) (fun _ _=>⟨fun _ _ h=>h.2,⟨fun _ _ h=>h.2,⟨fun _ _ h=>h.2,⟨fun _ _ h=>h.2,⟨fun _ _ h=>h.2,⟨fun _ _ h=>h.2,⟨fun _ _ h=>h.2,trivial⟩⟩⟩⟩⟩⟩⟩) (fun _=>by kernel_rfl) (by kernel_rfl) ?_ ?_) (fun h_ H_=>St.swap (A:=([(b13,.cells #[w4,w5,w_] 25 (0,0)),(b3,.cells #[.slice none 0 0,.slice none 0 0,.slice none 0 0] 25 (0,0)),(b2,.cells #[.int .i64 (x),.int .i64 (y)] 43 (0,0)),(b1,.cells #[.slice a1 t.nH c1,.slice a2 t.nW c2,.slice a3 t.m c3] 25 (0,0))]:Pcs)) (U:=(X1_++(X9++(X7++(X8++[]))))) H_)
   ·
    refine xaw rfl (xdk ?_) ?_
    ·
     intro val18 pc19 hQ_ hX_
     obtain ⟨q_,hq0_⟩: ∃ q_:Value→Pcs→Prop,q_=(fun v_ x_=>v_= .pointer (some ⟨b13,2,none⟩)∧x_=[]):=⟨_,rfl⟩
     refine ⟨(zq2 (zq4 (zq16 (zq32 [])))),[],q_,rfl,rfl,(fun _ _ z_=>by subst hq0_;exact z_),?_⟩
     subst hq0_
     exact xdw mn (fun _ h_ H_=>xaz xhj rfl (a':=⟨b13,2,none⟩) rfl) ⟨rfl,rfl⟩
    refine xaw rfl (xdk ?_) ?_
    ·
     intro val18 pc19 hQ_ hX_
     have e0_:val18 0= .pointer (some ⟨b13,2,none⟩):=(hQ_ 0 rfl).1
     obtain ⟨q_,hq0_⟩: ∃ q_:Value→Pcs→Prop,q_=(fun v_ x_=>v_=w_∧x_=[]):=⟨_,rfl⟩
     refine ⟨(zq2 (zq4 (zq16 (zq32 [])))),[],q_,(by rw [e0_]),rfl,(fun _ _ z_=>by subst hq0_;exact z_),?_⟩
     subst hq0_
     exact xdw mn (fun _ h_ H_=>xaj H_ tA23 rfl (i:=0) rfl (v:=w_) rfl) ⟨rfl,rfl⟩
    refine xaw rfl (xdk ?_) ?_
    ·
     intro val18 pc19 hQ_ hX_
     obtain ⟨q_,hq0_⟩: ∃ q_:Value→Pcs→Prop,q_=(fun v_ x_=>v_= .pointer (some ⟨b1,2,none⟩)∧x_=[]):=⟨_,rfl⟩
     refine ⟨(zq2 (zq4 (zq16 (zq32 [])))),[],q_,rfl,rfl,(fun _ _ z_=>by subst hq0_;exact z_),?_⟩
     subst hq0_
     exact xdw mn (fun _ h_ H_=>xaz xhj rfl (a':=⟨b1,2,none⟩) rfl) ⟨rfl,rfl⟩
    refine xaw rfl (xdk ?_) ?_
    ·
     intro val18 pc19 hQ_ hX_
     have e2_:val18 2= .pointer (some ⟨b1,2,none⟩):=(hQ_ 2 rfl).1
     obtain ⟨q_,hq0_⟩: ∃ q_:Value→Pcs→Prop,q_=(fun v_ x_=>v_= .slice a3 t.m c3∧x_=[]):=⟨_,rfl⟩
     refine ⟨(zq2 (zq4 (zq16 (zq32 [])))),[],q_,(by rw [e2_]),rfl,(fun _ _ z_=>by subst hq0_;exact z_),?_⟩
     subst hq0_
     exact xdw mn (fun _ h_ H_=>xaj H_ tA23 rfl (i:=3) rfl (v:=.slice a3 t.m c3) rfl) ⟨rfl,rfl⟩
    refine xaw rfl (xdk ?_) ?_
    ·
     intro val18 pc19 hQ_ hX_
     obtain ⟨q_,hq0_⟩: ∃ q_:Value→Pcs→Prop,q_=(fun v_ x_=>v_= .int .i64 (((k:Nat):Int))∧x_=[]):=⟨_,rfl⟩
     refine ⟨(zq2 (zq4 (zq16 (zq32 [])))),[],q_,rfl,rfl,(fun _ _ z_=>by subst hq0_;exact z_),?_⟩
     subst hq0_
     exact xdw mn (fun _ h_ H_=>xaq (v:=.int .i64 (((k:Nat):Int))) rfl) ⟨rfl,rfl⟩
    refine xaw rfl (xdk ?_) ?_
    ·
     intro val18 pc19 hQ_ hX_
     have e3_:val18 3= .slice a3 t.m c3:=(hQ_ 3 rfl).1
     have e4_:val18 4= .int .i64 (((k:Nat):Int)):=(hQ_ 4 rfl).1
     obtain ⟨q_,hq0_⟩: ∃ q_:Value→Pcs→Prop,q_=(fun v_ x_=>v_= .pointer (some ((adr a3).add (k*2)))∧x_=[]):=⟨_,rfl⟩
     refine ⟨(zq2 (zq4 (zq16 (zq32 [])))),[],q_,(by rw [e3_,e4_]),rfl,(fun _ _ z_=>by subst hq0_;exact z_),?_⟩
     subst hq0_
     exact xdw mn (fun _ h_ H_=>xbw (i:=k) Tryd.underlying23 tS43 (xjq a3 t.m c3 (T.y.ne (by omega))) rfl (by omega)) ⟨rfl,rfl⟩
    refine xaw rfl (xdk ?_) ?_
    ·
     intro val18 pc19 hQ_ hX_
     have e5_:val18 5= .pointer (some ((adr a3).add (k*2))):=(hQ_ 5 rfl).1
     obtain ⟨q_,hq0_⟩: ∃ q_:Value→Pcs→Prop,q_=(fun v_ x_=>v_= .agg #[.int .i64 ((t.wy.getD k wz).1),.int .i64 ((t.wy.getD k wz).2)]∧x_=[]):=⟨_,rfl⟩
     refine ⟨(zq2 (zq4 (zq16 (zq32 [])))),[],q_,(by rw [e5_]),rfl,(fun _ _ z_=>by subst hq0_;exact z_),?_⟩
     subst hq0_
     exact xdw mn (fun _ h_ H_=>xgw H_ tA43 tS43 rfl (vs:=[.int .i64 ((t.wy.getD k wz).1),.int .i64 ((t.wy.getD k wz).2)]) rfl (T.y.all (by omega))) ⟨rfl,rfl⟩
    refine xaw rfl (xdk ?_) ?_
    ·
     intro val18 pc19 hQ_ hX_
     have e6_:val18 6= .agg #[.int .i64 ((t.wy.getD k wz).1),.int .i64 ((t.wy.getD k wz).2)]:=(hQ_ 6 rfl).1
     obtain ⟨q_,hq0_⟩: ∃ q_:Value→Pcs→Prop,q_=(fun v_ x_=>OwnS 43 2 v_ [[.int .i64 ((t.wy.getD k wz).1),.int .i64 ((t.wy.getD k wz).2)]] x_):=⟨_,rfl⟩
     refine ⟨(zq2 (zq4 (zq16 (zq32 [])))),[],q_,(by rw [e6_]),rfl,(fun _ _ z_=>by subst hq0_;exact z_),?_⟩
     subst hq0_
     exact xmw mn Tryd.underlying23 tS43 tZ43 (Nat.le_of_ble_eq_true rfl) (vs:=[(0,.agg #[.int .i64 ((t.wy.getD k wz).1),.int .i64 ((t.wy.getD k wz).2)])]) rfl rfl (es:=[[.int .i64 ((t.wy.getD k wz).1),.int .i64 ((t.wy.getD k wz).2)]]) rfl rfl rfl fun _ _ o_=>o_
    exact xlq rfl
   intro val18 pc19 hQ_ hX_
   have e0_:val18 0= .pointer (some ⟨b13,2,none⟩):=(hQ_ 0 (by decide)).1
   have e1_:val18 1=w_:=(hQ_ 1 (by decide)).1
   have e2_:val18 2= .pointer (some ⟨b1,2,none⟩):=(hQ_ 2 (by decide)).1
   have e3_:val18 3= .slice a3 t.m c3:=(hQ_ 3 (by decide)).1
   have e4_:val18 4= .int .i64 (((k:Nat):Int)):=(hQ_ 4 (by decide)).1
   have e5_:val18 5= .pointer (some ((adr a3).add (k*2))):=(hQ_ 5 (by decide)).1
   have e6_:val18 6= .agg #[.int .i64 ((t.wy.getD k wz).1),.int .i64 ((t.wy.getD k wz).2)]:=(hQ_ 6 (by decide)).1
   have q7_:OwnS 43 2 (val18 7) [[.int .i64 ((t.wy.getD k wz).1),.int .i64 ((t.wy.getD k wz).2)]] (pc19 7):=hQ_ 7 (by decide)
   have x8_:pc19 8=X1_:=hX_ 8 (by decide)
   have x9_:pc19 9=X9:=hX_ 9 (by decide)
   have x10_:pc19 10=X7:=hX_ 10 (by decide)
   have x11_:pc19 11=X8:=hX_ 11 (by decide)
   clear hQ_ hX_
   refine xww (Φ:=fun h_=>St h [] p h_ (([(b13,.cells #[w4,w5,w_] 25 (0,0)),(b3,.cells #[.slice none 0 0,.slice none 0 0,.slice none 0 0] 25 (0,0)),(b2,.cells #[.int .i64 (x),.int .i64 (y)] 43 (0,0)),(b1,.cells #[.slice a1 t.nH c1,.slice a2 t.nW c2,.slice a3 t.m c3] 25 (0,0))]:Pcs)++(pc19 8++(pc19 9++(pc19 10++(pc19 11++(pc19 7++[]))))))) ?_ (fun h_ H_=>H_.swap')
   rw [x8_,x9_,x10_,x11_]
   refine xfj (tm':=(zq2 (zq4 (zq16 (zq32 []))))) (by rw [e0_,e1_,e2_,e3_,e4_,e5_,e6_]) ?_
   have o22:=q7_
   refine xjj (List.Perm.append_left _ (List.Perm.append_left _ (List.Perm.append_left _ (List.Perm.append_left _ (List.perm_append_comm_assoc _ _ _))))) ?_
   refine xjj (List.Perm.append_left _ (List.Perm.append_left _ (List.Perm.append_left _ (List.perm_append_comm_assoc _ _ _)))) ?_
   refine xjj (List.Perm.append_left _ (List.Perm.append_left _ (List.perm_append_comm_assoc _ _ _))) ?_
   refine xcq (L':=([(b13,.cells #[w4,w5,w_] 25 (0,0)),(b3,.cells #[.slice none 0 0,.slice none 0 0,.slice none 0 0] 25 (0,0)),(b2,.cells #[.int .i64 (x),.int .i64 (y)] 43 (0,0)),(b1,.cells #[.slice a1 t.nH c1,.slice a2 t.nW c2,.slice a3 t.m c3] 25 (0,0))]:Pcs)++(X1_++((pc19 7)++(X9++(X7++(X8++[])))))) rfl ?_
   refine xmv ([(b13,.cells #[w4,w5,w_] 25 (0,0)),(b3,.cells #[.slice none 0 0,.slice none 0 0,.slice none 0 0] 25 (0,0)),(b2,.cells #[.int .i64 (x),.int .i64 (y)] 43 (0,0)),(b1,.cells #[.slice a1 t.nH c1,.slice a2 t.nW c2,.slice a3 t.m c3] 25 (0,0))]:Pcs) X1_ (pc19 7) mn Tryd.underlying23 tS43 tZ43 rfl tB43 Tryd.underlying23 rfl rfl o1_ o22 (xtx rfl) (by rw [wcs_size];first | (simp only [List.length_cons,List.length_nil];omega) | (rw [List.length_append];simp only [List.length_cons,List.length_nil];omega)) (by decide) fun v23 X24 o25=>?_
   have o26:OwnS 43 2 v23 (wcs (l_++[(t.wy.getD k wz)])) X24:=o25.as (xyw _ (t.wy.getD k wz))
   refine ro (xaz xhj rfl (a':=⟨b13,2,none⟩) rfl) ?_
   refine xrj mn tS23 rfl (v:=v23) rfl o26.one (i:=0) rfl (Nat.succ_le_iff.1 (Nat.le_of_ble_eq_true rfl)) (cs2:=[w4,w5,v23]) rfl (xcq (L':=([(b13,.cells #[w4,w5,v23] 25 (0,0)),(b3,.cells #[.slice none 0 0,.slice none 0 0,.slice none 0 0] 25 (0,0)),(b2,.cells #[.int .i64 (x),.int .i64 (y)] 43 (0,0)),(b1,.cells #[.slice a1 t.nH c1,.slice a2 t.nW c2,.slice a3 t.m c3] 25 (0,0))]:Pcs)++(X24++(X9++(X7++(X8++[]))))) rfl ?_)
   refine xak <| xdq <| xbq <| rt (xaq (v:=.int .i64 (((k:Nat):Int))) rfl) (tm':=zq1 (zq16 _)) rfl ?_
   refine ro (xek rfl rfl (n:=((k+1:Nat):Int)) (wr (by omega))) ?_
   refine ro (xax (v:=.int .i64 (((k+1:Nat):Int))) rfl) <| xak ?_
   exact fun h_ H_=>IH15 _ _ (by omega) h_ ⟨k+1,p_,(l_++[(t.wy.getD k wz)]),v23,X24,rfl,(y_of rfl),(by omega),(zzw hp_ (by first | (rw [show p_=true by assumption];rfl) | (rw [show p_=false by assumption,decide_eq_true (show Bf (x,y) (t.wy.getD k wz) by assumption)];rfl) | (rw [show p_=false by assumption,decide_eq_false (show ¬ Bf (x,y) (t.wy.getD k wz) by assumption)];rfl))),(znz hp_ hl_ (by first | exact fun z_=>absurd z_.2 (by assumption) | exact fun z_=>absurd z_.1 (by rw [show p_=true by assumption];decide))),o26,H_⟩
  ·
   refine xgx 9 [[],[0],[0,1],[],[],[4],[0,1],[0,1,4,5,6],[0,1,4,5,6,7],[0,1,3,4,5,6,7,8],[]] xkk (by kernel_rfl) (Nat.le_of_ble_eq_true rfl) ?_
   refine wt (xaq (v:=.bool (p_)) rfl) (tm':=zq1 (zq2 (zq16 _))) rfl <| wo (xjw rfl) <| wt (xaq (v:=.bool (!p_)) rfl) (tm':=zq1 (zq4 (zq16 _))) rfl ?_
   refine xbk (ms rfl rfl (xmz cc17)) (fun h_ H_=>xav H_ tA43 tS43 rfl (i:=2) rfl (vs:=[.int .i64 (x),.int .i64 (y)]) rfl rfl) rfl ?_
   refine xbk (ms rfl rfl (xmz cc17)) (fun h_ H_=>xaz xhj rfl (a':=⟨b1,2,none⟩) rfl) (tm':=zq1 (zq2 (zq4 (zq16 _)))) rfl ?_
   refine xbk (ms rfl rfl (xmz cc17)) (fun h_ H_=>xaj H_ tA23 rfl (i:=3) rfl (v:=.slice a3 t.m c3) rfl) rfl ?_
   refine xbk (ms rfl rfl (xmz cc17)) (fun h_ H_=>xaq (v:=.int .i64 (((k:Nat):Int))) rfl) (tm':=zq1 (zq8 (zq16 _))) rfl ?_
   refine xbk (ms rfl rfl (xmz cc17)) (fun h_ H_=>xbw (i:=k) Tryd.underlying23 tS43 (xjq a3 t.m c3 (T.y.ne (by omega))) rfl (by omega)) rfl ?_
   refine xbk (ms rfl rfl (xmz cc17)) (fun h_ H_=>xgw H_ tA43 tS43 rfl (vs:=[.int .i64 ((t.wy.getD k wz).1),.int .i64 ((t.wy.getD k wz).2)]) rfl (T.y.all (by omega))) (tm':=zq1 (zq2 (zq8 (zq16 _)))) rfl ?_
   refine xiz rfl ?_
   refine xeq (ms rfl rfl (xmz cc17)) (first:=[]) (cap:=[]) rfl rfl fC77 (fun h_ H_=>c77 md _ (x) (y) ((t.wy.getD k wz).1) ((t.wy.getD k wz).2)) (tm':=zq4 (zq8 (zq16 _))) rfl ?_
   refine ro (xdz rfl (xmz cc17) (v:=.bool (decide (Bf ((x,y):FWay) (((t.wy.getD k wz).1,(t.wy.getD k wz).2):FWay)))) rfl) <| xak ?_
   by_cases cc27:Bf ((x,y):FWay) (((t.wy.getD k wz).1,(t.wy.getD k wz).2):FWay)
   ·
    refine xdx rfl (dtt cc27) <| xbq <| ro (xaz xhj rfl (a':=⟨b13,2,none⟩) rfl) ?_
    refine xbx mn (fun h_ H_=>xaj H_ tA23 rfl (i:=0) rfl (v:=w_) rfl) (tm':=zq1 (zq2 (zq4 (zq8 (zq16 _))))) rfl ?_
    refine rd (fun h_ H_=>xav H_ tA43 tS43 rfl (i:=2) rfl (vs:=[.int .i64 (x),.int .i64 (y)]) rfl rfl) ?_
    refine xjz ([(b13,.cells #[w4,w5,w_] 25 (0,0)),(b3,.cells #[.slice none 0 0,.slice none 0 0,.slice none 0 0] 25 (0,0)),(b2,.cells #[.int .i64 (x),.int .i64 (y)] 43 (0,0)),(b1,.cells #[.slice a1 t.nH c1,.slice a2 t.nW c2,.slice a3 t.m c3] 25 (0,0))]:Pcs) mn Tryd.underlying23 tS43 tZ43 (Nat.le_of_ble_eq_true rfl) (vs:=[(0,.agg #[.int .i64 (x),.int .i64 (y)])]) rfl rfl (es:=[[.int .i64 (x),.int .i64 (y)]]) rfl rfl rfl fun v28 X29 o30=>?_
    refine xjj (List.Perm.append_left _ (List.perm_append_comm_assoc _ _ _)) ?_
    refine xcq (L':=([(b13,.cells #[w4,w5,w_] 25 (0,0)),(b3,.cells #[.slice none 0 0,.slice none 0 0,.slice none 0 0] 25 (0,0)),(b2,.cells #[.int .i64 (x),.int .i64 (y)] 43 (0,0)),(b1,.cells #[.slice a1 t.nH c1,.slice a2 t.nW c2,.slice a3 t.m c3] 25 (0,0))]:Pcs)++(X1_++(X29++(X9++(X7++(X8++[])))))) rfl ?_
    refine xmv ([(b13,.cells #[w4,w5,w_] 25 (0,0)),(b3,.cells #[.slice none 0 0,.slice none 0 0,.slice none 0 0] 25 (0,0)),(b2,.cells #[.int .i64 (x),.int .i64 (y)] 43 (0,0)),(b1,.cells #[.slice a1 t.nH c1,.slice a2 t.nW c2,.slice a3 t.m c3] 25 (0,0))]:Pcs) X1_ X29 mn Tryd.underlying23 tS43 tZ43 rfl tB43 Tryd.underlying23 rfl rfl o1_ o30 (xtx rfl) (by rw [wcs_size];simp only [List.length_cons,List.length_nil];omega) (by decide) fun v31 X32 o33=>?_
    have o34:OwnS 43 2 v31 (wcs (l_++[((x,y):FWay)])) X32:=o33.as (xyw _ ((x,y):FWay))
    refine xfj (tm':=zq2 (zq32 _)) rfl ?_
    refine ro (xaz xhj rfl (a':=⟨b13,2,none⟩) rfl) ?_
    refine xrj mn tS23 rfl (v:=v31) rfl o34.one (i:=0) rfl (Nat.succ_le_iff.1 (Nat.le_of_ble_eq_true rfl)) (cs2:=[w4,w5,v31]) rfl (xcq (L':=([(b13,.cells #[w4,w5,v31] 25 (0,0)),(b3,.cells #[.slice none 0 0,.slice none 0 0,.slice none 0 0] 25 (0,0)),(b2,.cells #[.int .i64 (x),.int .i64 (y)] 43 (0,0)),(b1,.cells #[.slice a1 t.nH c1,.slice a2 t.nW c2,.slice a3 t.m c3] 25 (0,0))]:Pcs)++(X32++(X9++(X7++(X8++[]))))) rfl ?_)
    refine ro (xax (v:=.bool (true)) rfl) <| xak ?_
    refine xxv (xlx (C:=[]) (A:=([(b13,.cells #[w4,w5,v31] 25 (0,0)),(b3,.cells #[.slice none 0 0,.slice none 0 0,.slice none 0 0] 25 (0,0)),(b2,.cells #[.int .i64 (x),.int .i64 (y)] 43 (0,0)),(b1,.cells #[.slice a1 t.nH c1,.slice a2 t.nW c2,.slice a3 t.m c3] 25 (0,0))]:Pcs)) 8 [[],[0],[],[2],[],[2,3,4],[2,3,4,5],[2,3,4,5,6],[],[],[]] [8,9,10,11] [8,9,10,11,7] [0,1,2,3,4,5,6] (fun i_=>match i_ with | 8=>X32 | 9=>X9 | 10=>X7 | 11=>X8 | _=>[]) (fun _=>[]) (fun i_=>match i_ with | 0=>[] | 1=>[0] | 2=>[] | 3=>[2] | 4=>[] | 5=>[3,4] | 6=>[5] | 7=>[6] | _=>[]) (fun i_ val_ pc_ v_ x_=>match i_ with | 0=>v_= .pointer (some ⟨b13,2,none⟩)∧x_=[] | 1=>v_=v31∧x_=[] | 2=>v_= .pointer (some ⟨b1,2,none⟩)∧x_=[] | 3=>v_= .slice a3 t.m c3∧x_=[] | 4=>v_= .int .i64 (((k:Nat):Int))∧x_=[] | 5=>v_= .pointer (some ((adr a3).add (k*2)))∧x_=[] | 6=>v_= .agg #[.int .i64 ((t.wy.getD k wz).1),.int .i64 ((t.wy.getD k wz).2)]∧x_=[] | 7=>OwnS 43 2 v_ [[.int .i64 ((t.wy.getD k wz).1),.int .i64 ((t.wy.getD k wz).2)]] x_ | _=>True) (fun val35=>(.agg #[.slice a1 t.nH c1,.slice a2 t.nW c2,.slice a3 t.m c3]::.agg #[.int .i64 (x),.int .i64 (y)]::.pointer (some ⟨b1,0,none⟩)::.pointer (some ⟨b2,0,none⟩)::.pointer (some ⟨b3,0,none⟩)::.pointer (some ⟨b13,0,none⟩)::.bool (true)::.int .i64 (((k:Nat):Int))::.agg #[.slice a1 t.nH c1,.slice a2 t.nW c2,.slice a3 t.m c3]::.agg #[w4,w5,w6]::.pointer (some ⟨b13,2,none⟩)::.int .i64 (((k:Nat):Int))::.pointer (some ⟨b1,2,none⟩)::.slice a3 t.m c3::.int .i64 (((t.m:Nat):Int))::.bool (decide (((k:Nat):Int)<((t.m:Nat):Int)))::(y14 16)::(y14 17)::.bool (p_)::.bool (!p_)::.bool (!p_)::.agg #[.int .i64 (x),.int .i64 (y)]::.pointer (some ⟨b1,2,none⟩)::.slice a3 t.m c3::.int .i64 (((k:Nat):Int))::.pointer (some ((adr a3).add (k*2)))::.agg #[.int .i64 ((t.wy.getD k wz).1),.int .i64 ((t.wy.getD k wz).2)]::.bool (decide (Bf ((x,y):FWay) (((t.wy.getD k wz).1,(t.wy.getD k wz).2):FWay)))::.bool (decide (Bf ((x,y):FWay) (((t.wy.getD k wz).1,(t.wy.getD k wz).2):FWay)))::.pointer (some ⟨b13,2,none⟩)::w_::.agg #[.int .i64 (x),.int .i64 (y)]::v28::v31::.pointer (some ⟨b13,2,none⟩)::(val35 0)::(val35 1)::(val35 2)::(val35 3)::(val35 4)::(val35 5)::(val35 6)::(val35 7)::(y14 43)::(y14 44)::undef::zu8 [])) xkk (by kernel_rfl) (Nat.le_of_ble_eq_true rfl) (by kernel_rfl) (by kernel_rfl) (by kernel_rfl) (fun _ _=>⟨fun _ _ h=>h.2,⟨fun _ _ h=>h.2,⟨fun _ _ h=>h.2,⟨fun _ _ h=>h.2,⟨fun _ _ h=>h.2,⟨fun _ _ h=>h.2,⟨fun _ _ h=>h.2,trivial⟩⟩⟩⟩⟩⟩⟩) (fun _=>by kernel_rfl) (by kernel_rfl) ?_ ?_) (fun h_ H_=>St.swap (A:=([(b13,.cells #[w4,w5,v31] 25 (0,0)),(b3,.cells #[.slice none 0 0,.slice none 0 0,.slice none 0 0] 25 (0,0)),(b2,.cells #[.int .i64 (x),.int .i64 (y)] 43 (0,0)),(b1,.cells #[.slice a1 t.nH c1,.slice a2 t.nW c2,.slice a3 t.m c3] 25 (0,0))]:Pcs)) (U:=(X32++(X9++(X7++(X8++[]))))) H_)
    ·
     refine xaw rfl (xdk ?_) ?_
     ·
      intro val35 pc36 hQ_ hX_
      obtain ⟨q_,hq0_⟩: ∃ q_:Value→Pcs→Prop,q_=(fun v_ x_=>v_= .pointer (some ⟨b13,2,none⟩)∧x_=[]):=⟨_,rfl⟩
      refine ⟨(zq2 (zq4 (zq16 (zq32 [])))),[],q_,rfl,rfl,(fun _ _ z_=>by subst hq0_;exact z_),?_⟩
      subst hq0_
      exact xdw mn (fun _ h_ H_=>xaz xhj rfl (a':=⟨b13,2,none⟩) rfl) ⟨rfl,rfl⟩
     refine xaw rfl (xdk ?_) ?_
     ·
      intro val35 pc36 hQ_ hX_
      have e0_:val35 0= .pointer (some ⟨b13,2,none⟩):=(hQ_ 0 rfl).1
      obtain ⟨q_,hq0_⟩: ∃ q_:Value→Pcs→Prop,q_=(fun v_ x_=>v_=v31∧x_=[]):=⟨_,rfl⟩
      refine ⟨(zq2 (zq4 (zq16 (zq32 [])))),[],q_,(by rw [e0_]),rfl,(fun _ _ z_=>by subst hq0_;exact z_),?_⟩
      subst hq0_
      exact xdw mn (fun _ h_ H_=>xaj H_ tA23 rfl (i:=0) rfl (v:=v31) rfl) ⟨rfl,rfl⟩
     refine xaw rfl (xdk ?_) ?_
     ·
      intro val35 pc36 hQ_ hX_
      obtain ⟨q_,hq0_⟩: ∃ q_:Value→Pcs→Prop,q_=(fun v_ x_=>v_= .pointer (some ⟨b1,2,none⟩)∧x_=[]):=⟨_,rfl⟩
      refine ⟨(zq2 (zq4 (zq16 (zq32 [])))),[],q_,rfl,rfl,(fun _ _ z_=>by subst hq0_;exact z_),?_⟩
      subst hq0_
      exact xdw mn (fun _ h_ H_=>xaz xhj rfl (a':=⟨b1,2,none⟩) rfl) ⟨rfl,rfl⟩
     refine xaw rfl (xdk ?_) ?_
     ·
      intro val35 pc36 hQ_ hX_
      have e2_:val35 2= .pointer (some ⟨b1,2,none⟩):=(hQ_ 2 rfl).1
      obtain ⟨q_,hq0_⟩: ∃ q_:Value→Pcs→Prop,q_=(fun v_ x_=>v_= .slice a3 t.m c3∧x_=[]):=⟨_,rfl⟩
      refine ⟨(zq2 (zq4 (zq16 (zq32 [])))),[],q_,(by rw [e2_]),rfl,(fun _ _ z_=>by subst hq0_;exact z_),?_⟩
      subst hq0_
      exact xdw mn (fun _ h_ H_=>xaj H_ tA23 rfl (i:=3) rfl (v:=.slice a3 t.m c3) rfl) ⟨rfl,rfl⟩
     refine xaw rfl (xdk ?_) ?_
     ·
      intro val35 pc36 hQ_ hX_
      obtain ⟨q_,hq0_⟩: ∃ q_:Value→Pcs→Prop,q_=(fun v_ x_=>v_= .int .i64 (((k:Nat):Int))∧x_=[]):=⟨_,rfl⟩
      refine ⟨(zq2 (zq4 (zq16 (zq32 [])))),[],q_,rfl,rfl,(fun _ _ z_=>by subst hq0_;exact z_),?_⟩
      subst hq0_
      exact xdw mn (fun _ h_ H_=>xaq (v:=.int .i64 (((k:Nat):Int))) rfl) ⟨rfl,rfl⟩
     refine xaw rfl (xdk ?_) ?_
     ·
      intro val35 pc36 hQ_ hX_
      have e3_:val35 3= .slice a3 t.m c3:=(hQ_ 3 rfl).1
      have e4_:val35 4= .int .i64 (((k:Nat):Int)):=(hQ_ 4 rfl).1
      obtain ⟨q_,hq0_⟩: ∃ q_:Value→Pcs→Prop,q_=(fun v_ x_=>v_= .pointer (some ((adr a3).add (k*2)))∧x_=[]):=⟨_,rfl⟩
      refine ⟨(zq2 (zq4 (zq16 (zq32 [])))),[],q_,(by rw [e3_,e4_]),rfl,(fun _ _ z_=>by subst hq0_;exact z_),?_⟩
      subst hq0_
      exact xdw mn (fun _ h_ H_=>xbw (i:=k) Tryd.underlying23 tS43 (xjq a3 t.m c3 (T.y.ne (by omega))) rfl (by omega)) ⟨rfl,rfl⟩
     refine xaw rfl (xdk ?_) ?_
     ·
      intro val35 pc36 hQ_ hX_
      have e5_:val35 5= .pointer (some ((adr a3).add (k*2))):=(hQ_ 5 rfl).1
      obtain ⟨q_,hq0_⟩: ∃ q_:Value→Pcs→Prop,q_=(fun v_ x_=>v_= .agg #[.int .i64 ((t.wy.getD k wz).1),.int .i64 ((t.wy.getD k wz).2)]∧x_=[]):=⟨_,rfl⟩
      refine ⟨(zq2 (zq4 (zq16 (zq32 [])))),[],q_,(by rw [e5_]),rfl,(fun _ _ z_=>by subst hq0_;exact z_),?_⟩
      subst hq0_
      exact xdw mn (fun _ h_ H_=>xgw H_ tA43 tS43 rfl (vs:=[.int .i64 ((t.wy.getD k wz).1),.int .i64 ((t.wy.getD k wz).2)]) rfl (T.y.all (by omega))) ⟨rfl,rfl⟩
     refine xaw rfl (xdk ?_) ?_
     ·
      intro val35 pc36 hQ_ hX_
      have e6_:val35 6= .agg #[.int .i64 ((t.wy.getD k wz).1),.int .i64 ((t.wy.getD k wz).2)]:=(hQ_ 6 rfl).1
      obtain ⟨q_,hq0_⟩: ∃ q_:Value→Pcs→Prop,q_=(fun v_ x_=>OwnS 43 2 v_ [[.int .i64 ((t.wy.getD k wz).1),.int .i64 ((t.wy.getD k wz).2)]] x_):=⟨_,rfl⟩
      refine ⟨(zq2 (zq4 (zq16 (zq32 [])))),[],q_,(by rw [e6_]),rfl,(fun _ _ z_=>by subst hq0_;exact z_),?_⟩
      subst hq0_
      exact xmw mn Tryd.underlying23 tS43 tZ43 (Nat.le_of_ble_eq_true rfl) (vs:=[(0,.agg #[.int .i64 ((t.wy.getD k wz).1),.int .i64 ((t.wy.getD k wz).2)])]) rfl rfl (es:=[[.int .i64 ((t.wy.getD k wz).1),.int .i64 ((t.wy.getD k wz).2)]]) rfl rfl rfl fun _ _ o_=>o_
     exact xlq rfl
    intro val35 pc36 hQ_ hX_
    have e0_:val35 0= .pointer (some ⟨b13,2,none⟩):=(hQ_ 0 (by decide)).1
    have e1_:val35 1=v31:=(hQ_ 1 (by decide)).1
    have e2_:val35 2= .pointer (some ⟨b1,2,none⟩):=(hQ_ 2 (by decide)).1
    have e3_:val35 3= .slice a3 t.m c3:=(hQ_ 3 (by decide)).1
    have e4_:val35 4= .int .i64 (((k:Nat):Int)):=(hQ_ 4 (by decide)).1
    have e5_:val35 5= .pointer (some ((adr a3).add (k*2))):=(hQ_ 5 (by decide)).1
    have e6_:val35 6= .agg #[.int .i64 ((t.wy.getD k wz).1),.int .i64 ((t.wy.getD k wz).2)]:=(hQ_ 6 (by decide)).1
    have q7_:OwnS 43 2 (val35 7) [[.int .i64 ((t.wy.getD k wz).1),.int .i64 ((t.wy.getD k wz).2)]] (pc36 7):=hQ_ 7 (by decide)
    have x8_:pc36 8=X32:=hX_ 8 (by decide)
    have x9_:pc36 9=X9:=hX_ 9 (by decide)
    have x10_:pc36 10=X7:=hX_ 10 (by decide)
    have x11_:pc36 11=X8:=hX_ 11 (by decide)
    clear hQ_ hX_
    refine xww (Φ:=fun h_=>St h [] p h_ (([(b13,.cells #[w4,w5,v31] 25 (0,0)),(b3,.cells #[.slice none 0 0,.slice none 0 0,.slice none 0 0] 25 (0,0)),(b2,.cells #[.int .i64 (x),.int .i64 (y)] 43 (0,0)),(b1,.cells #[.slice a1 t.nH c1,.slice a2 t.nW c2,.slice a3 t.m c3] 25 (0,0))]:Pcs)++(pc36 8++(pc36 9++(pc36 10++(pc36 11++(pc36 7++[]))))))) ?_ (fun h_ H_=>H_.swap')
    rw [x8_,x9_,x10_,x11_]
    refine xfj (tm':=(zq2 (zq4 (zq16 (zq32 []))))) (by rw [e0_,e1_,e2_,e3_,e4_,e5_,e6_]) ?_
    have o39:=q7_
    refine xjj (List.Perm.append_left _ (List.Perm.append_left _ (List.Perm.append_left _ (List.Perm.append_left _ (List.perm_append_comm_assoc _ _ _))))) ?_
    refine xjj (List.Perm.append_left _ (List.Perm.append_left _ (List.Perm.append_left _ (List.perm_append_comm_assoc _ _ _)))) ?_
    refine xjj (List.Perm.append_left _ (List.Perm.append_left _ (List.perm_append_comm_assoc _ _ _))) ?_
    refine xcq (L':=([(b13,.cells #[w4,w5,v31] 25 (0,0)),(b3,.cells #[.slice none 0 0,.slice none 0 0,.slice none 0 0] 25 (0,0)),(b2,.cells #[.int .i64 (x),.int .i64 (y)] 43 (0,0)),(b1,.cells #[.slice a1 t.nH c1,.slice a2 t.nW c2,.slice a3 t.m c3] 25 (0,0))]:Pcs)++(X32++((pc36 7)++(X9++(X7++(X8++[])))))) rfl ?_
    refine xmv ([(b13,.cells #[w4,w5,v31] 25 (0,0)),(b3,.cells #[.slice none 0 0,.slice none 0 0,.slice none 0 0] 25 (0,0)),(b2,.cells #[.int .i64 (x),.int .i64 (y)] 43 (0,0)),(b1,.cells #[.slice a1 t.nH c1,.slice a2 t.nW c2,.slice a3 t.m c3] 25 (0,0))]:Pcs) X32 (pc36 7) mn Tryd.underlying23 tS43 tZ43 rfl tB43 Tryd.underlying23 rfl rfl o34 o39 (xtx rfl) (by rw [wcs_size];first | (simp only [List.length_cons,List.length_nil];omega) | (rw [List.length_append];simp only [List.length_cons,List.length_nil];omega)) (by decide) fun v40 X41 o42=>?_
    have o43:OwnS 43 2 v40 (wcs ((l_++[((x,y):FWay)])++[(t.wy.getD k wz)])) X41:=o42.as (xyw _ (t.wy.getD k wz))
    refine ro (xaz xhj rfl (a':=⟨b13,2,none⟩) rfl) ?_
    refine xrj mn tS23 rfl (v:=v40) rfl o43.one (i:=0) rfl (Nat.succ_le_iff.1 (Nat.le_of_ble_eq_true rfl)) (cs2:=[w4,w5,v40]) rfl (xcq (L':=([(b13,.cells #[w4,w5,v40] 25 (0,0)),(b3,.cells #[.slice none 0 0,.slice none 0 0,.slice none 0 0] 25 (0,0)),(b2,.cells #[.int .i64 (x),.int .i64 (y)] 43 (0,0)),(b1,.cells #[.slice a1 t.nH c1,.slice a2 t.nW c2,.slice a3 t.m c3] 25 (0,0))]:Pcs)++(X41++(X9++(X7++(X8++[]))))) rfl ?_)
    refine xak <| xdq <| xbq <| rt (xaq (v:=.int .i64 (((k:Nat):Int))) rfl) (tm':=zq1 (zq16 _)) rfl ?_
    refine ro (xek rfl rfl (n:=((k+1:Nat):Int)) (wr (by omega))) ?_
    refine ro (xax (v:=.int .i64 (((k+1:Nat):Int))) rfl) <| xak ?_
    exact fun h_ H_=>IH15 _ _ (by omega) h_ ⟨k+1,true,((l_++[((x,y):FWay)])++[(t.wy.getD k wz)]),v40,X41,rfl,(y_of rfl),(by omega),(zzw hp_ (by first | (rw [show p_=true by assumption];rfl) | (rw [show p_=false by assumption,decide_eq_true (show Bf (x,y) (t.wy.getD k wz) by assumption)];rfl) | (rw [show p_=false by assumption,decide_eq_false (show ¬ Bf (x,y) (t.wy.getD k wz) by assumption)];rfl))),(wxk hp_ hl_ (by assumption) (by assumption)),o43,H_⟩
   ·
    refine xck rfl (dff cc27) <| xcv ?_
    refine xxv (xlx (C:=[]) (A:=([(b13,.cells #[w4,w5,w_] 25 (0,0)),(b3,.cells #[.slice none 0 0,.slice none 0 0,.slice none 0 0] 25 (0,0)),(b2,.cells #[.int .i64 (x),.int .i64 (y)] 43 (0,0)),(b1,.cells #[.slice a1 t.nH c1,.slice a2 t.nW c2,.slice a3 t.m c3] 25 (0,0))]:Pcs)) 8 [[],[0],[],[2],[],[2,3,4],[2,3,4,5],[2,3,4,5,6],[],[],[]] [8,9,10,11] [8,9,10,11,7] [0,1,2,3,4,5,6] (fun i_=>match i_ with | 8=>X1_ | 9=>X9 | 10=>X7 | 11=>X8 | _=>[]) (fun _=>[]) (fun i_=>match i_ with | 0=>[] | 1=>[0] | 2=>[] | 3=>[2] | 4=>[] | 5=>[3,4] | 6=>[5] | 7=>[6] | _=>[]) (fun i_ val_ pc_ v_ x_=>match i_ with | 0=>v_= .pointer (some ⟨b13,2,none⟩)∧x_=[] | 1=>v_=w_∧x_=[] | 2=>v_= .pointer (some ⟨b1,2,none⟩)∧x_=[] | 3=>v_= .slice a3 t.m c3∧x_=[] | 4=>v_= .int .i64 (((k:Nat):Int))∧x_=[] | 5=>v_= .pointer (some ((adr a3).add (k*2)))∧x_=[] | 6=>v_= .agg #[.int .i64 ((t.wy.getD k wz).1),.int .i64 ((t.wy.getD k wz).2)]∧x_=[] | 7=>OwnS 43 2 v_ [[.int .i64 ((t.wy.getD k wz).1),.int .i64 ((t.wy.getD k wz).2)]] x_ | _=>True) (fun val44=>(.agg #[.slice a1 t.nH c1,.slice a2 t.nW c2,.slice a3 t.m c3]::.agg #[.int .i64 (x),.int .i64 (y)]::.pointer (some ⟨b1,0,none⟩)::.pointer (some ⟨b2,0,none⟩)::.pointer (some ⟨b3,0,none⟩)::.pointer (some ⟨b13,0,none⟩)::.bool (p_)::.int .i64 (((k:Nat):Int))::.agg #[.slice a1 t.nH c1,.slice a2 t.nW c2,.slice a3 t.m c3]::.agg #[w4,w5,w6]::.pointer (some ⟨b13,2,none⟩)::.int .i64 (((k:Nat):Int))::.pointer (some ⟨b1,2,none⟩)::.slice a3 t.m c3::.int .i64 (((t.m:Nat):Int))::.bool (decide (((k:Nat):Int)<((t.m:Nat):Int)))::(y14 16)::(y14 17)::.bool (p_)::.bool (!p_)::.bool (!p_)::.agg #[.int .i64 (x),.int .i64 (y)]::.pointer (some ⟨b1,2,none⟩)::.slice a3 t.m c3::.int .i64 (((k:Nat):Int))::.pointer (some ((adr a3).add (k*2)))::.agg #[.int .i64 ((t.wy.getD k wz).1),.int .i64 ((t.wy.getD k wz).2)]::.bool (decide (Bf ((x,y):FWay) (((t.wy.getD k wz).1,(t.wy.getD k wz).2):FWay)))::.bool (decide (Bf ((x,y):FWay) (((t.wy.getD k wz).1,(t.wy.getD k wz).2):FWay)))::(y14 29)::(y14 30)::(y14 31)::(y14 32)::(y14 33)::(y14 34)::(val44 0)::(val44 1)::(val44 2)::(val44 3)::(val44 4)::(val44 5)::(val44 6)::(val44 7)::(y14 43)::(y14 44)::undef::zu8 [])) xkk (by kernel_rfl) (Nat.le_of_ble_eq_true rfl) (by kernel_rfl) (by kernel_rfl) (by kernel_rfl) (fun _ _=>⟨fun _ _ h=>h.2,⟨fun _ _ h=>h.2,⟨fun _ _ h=>h.2,⟨fun _ _ h=>h.2,⟨fun _ _ h=>h.2,⟨fun _ _ h=>h.2,⟨fun _ _ h=>h.2,trivial⟩⟩⟩⟩⟩⟩⟩) (fun _=>by kernel_rfl) (by kernel_rfl) ?_ ?_) (fun h_ H_=>St.swap (A:=([(b13,.cells #[w4,w5,w_] 25 (0,0)),(b3,.cells #[.slice none 0 0,.slice none 0 0,.slice none 0 0] 25 (0,0)),(b2,.cells #[.int .i64 (x),.int .i64 (y)] 43 (0,0)),(b1,.cells #[.slice a1 t.nH c1,.slice a2 t.nW c2,.slice a3 t.m c3] 25 (0,0))]:Pcs)) (U:=(X1_++(X9++(X7++(X8++[]))))) H_)
    ·
     refine xaw rfl (xdk ?_) ?_
     ·
      intro val44 pc45 hQ_ hX_
      obtain ⟨q_,hq0_⟩: ∃ q_:Value→Pcs→Prop,q_=(fun v_ x_=>v_= .pointer (some ⟨b13,2,none⟩)∧x_=[]):=⟨_,rfl⟩
      refine ⟨(zq2 (zq4 (zq16 (zq32 [])))),[],q_,rfl,rfl,(fun _ _ z_=>by subst hq0_;exact z_),?_⟩
      subst hq0_
      exact xdw mn (fun _ h_ H_=>xaz xhj rfl (a':=⟨b13,2,none⟩) rfl) ⟨rfl,rfl⟩
     refine xaw rfl (xdk ?_) ?_
     ·
      intro val44 pc45 hQ_ hX_
      have e0_:val44 0= .pointer (some ⟨b13,2,none⟩):=(hQ_ 0 rfl).1
      obtain ⟨q_,hq0_⟩: ∃ q_:Value→Pcs→Prop,q_=(fun v_ x_=>v_=w_∧x_=[]):=⟨_,rfl⟩
      refine ⟨(zq2 (zq4 (zq16 (zq32 [])))),[],q_,(by rw [e0_]),rfl,(fun _ _ z_=>by subst hq0_;exact z_),?_⟩
      subst hq0_
      exact xdw mn (fun _ h_ H_=>xaj H_ tA23 rfl (i:=0) rfl (v:=w_) rfl) ⟨rfl,rfl⟩
     refine xaw rfl (xdk ?_) ?_
     ·
      intro val44 pc45 hQ_ hX_
      obtain ⟨q_,hq0_⟩: ∃ q_:Value→Pcs→Prop,q_=(fun v_ x_=>v_= .pointer (some ⟨b1,2,none⟩)∧x_=[]):=⟨_,rfl⟩
      refine ⟨(zq2 (zq4 (zq16 (zq32 [])))),[],q_,rfl,rfl,(fun _ _ z_=>by subst hq0_;exact z_),?_⟩
      subst hq0_
      exact xdw mn (fun _ h_ H_=>xaz xhj rfl (a':=⟨b1,2,none⟩) rfl) ⟨rfl,rfl⟩
     refine xaw rfl (xdk ?_) ?_
     ·
      intro val44 pc45 hQ_ hX_
      have e2_:val44 2= .pointer (some ⟨b1,2,none⟩):=(hQ_ 2 rfl).1
      obtain ⟨q_,hq0_⟩: ∃ q_:Value→Pcs→Prop,q_=(fun v_ x_=>v_= .slice a3 t.m c3∧x_=[]):=⟨_,rfl⟩
      refine ⟨(zq2 (zq4 (zq16 (zq32 [])))),[],q_,(by rw [e2_]),rfl,(fun _ _ z_=>by subst hq0_;exact z_),?_⟩
      subst hq0_
      exact xdw mn (fun _ h_ H_=>xaj H_ tA23 rfl (i:=3) rfl (v:=.slice a3 t.m c3) rfl) ⟨rfl,rfl⟩
     refine xaw rfl (xdk ?_) ?_
     ·
      intro val44 pc45 hQ_ hX_
      obtain ⟨q_,hq0_⟩: ∃ q_:Value→Pcs→Prop,q_=(fun v_ x_=>v_= .int .i64 (((k:Nat):Int))∧x_=[]):=⟨_,rfl⟩
      refine ⟨(zq2 (zq4 (zq16 (zq32 [])))),[],q_,rfl,rfl,(fun _ _ z_=>by subst hq0_;exact z_),?_⟩
      subst hq0_
      exact xdw mn (fun _ h_ H_=>xaq (v:=.int .i64 (((k:Nat):Int))) rfl) ⟨rfl,rfl⟩
     refine xaw rfl (xdk ?_) ?_
     ·
      intro val44 pc45 hQ_ hX_
      have e3_:val44 3= .slice a3 t.m c3:=(hQ_ 3 rfl).1
      have e4_:val44 4= .int .i64 (((k:Nat):Int)):=(hQ_ 4 rfl).1
      obtain ⟨q_,hq0_⟩: ∃ q_:Value→Pcs→Prop,q_=(fun v_ x_=>v_= .pointer (some ((adr a3).add (k*2)))∧x_=[]):=⟨_,rfl⟩
      refine ⟨(zq2 (zq4 (zq16 (zq32 [])))),[],q_,(by rw [e3_,e4_]),rfl,(fun _ _ z_=>by subst hq0_;exact z_),?_⟩
      subst hq0_
      exact xdw mn (fun _ h_ H_=>xbw (i:=k) Tryd.underlying23 tS43 (xjq a3 t.m c3 (T.y.ne (by omega))) rfl (by omega)) ⟨rfl,rfl⟩
     refine xaw rfl (xdk ?_) ?_
     ·
      intro val44 pc45 hQ_ hX_
      have e5_:val44 5= .pointer (some ((adr a3).add (k*2))):=(hQ_ 5 rfl).1
      obtain ⟨q_,hq0_⟩: ∃ q_:Value→Pcs→Prop,q_=(fun v_ x_=>v_= .agg #[.int .i64 ((t.wy.getD k wz).1),.int .i64 ((t.wy.getD k wz).2)]∧x_=[]):=⟨_,rfl⟩
      refine ⟨(zq2 (zq4 (zq16 (zq32 [])))),[],q_,(by rw [e5_]),rfl,(fun _ _ z_=>by subst hq0_;exact z_),?_⟩
      subst hq0_
      exact xdw mn (fun _ h_ H_=>xgw H_ tA43 tS43 rfl (vs:=[.int .i64 ((t.wy.getD k wz).1),.int .i64 ((t.wy.getD k wz).2)]) rfl (T.y.all (by omega))) ⟨rfl,rfl⟩
     refine xaw rfl (xdk ?_) ?_
     ·
      intro val44 pc45 hQ_ hX_
      have e6_:val44 6= .agg #[.int .i64 ((t.wy.getD k wz).1),.int .i64 ((t.wy.getD k wz).2)]:=(hQ_ 6 rfl).1
      obtain ⟨q_,hq0_⟩: ∃ q_:Value→Pcs→Prop,q_=(fun v_ x_=>OwnS 43 2 v_ [[.int .i64 ((t.wy.getD k wz).1),.int .i64 ((t.wy.getD k wz).2)]] x_):=⟨_,rfl⟩
      refine ⟨(zq2 (zq4 (zq16 (zq32 [])))),[],q_,(by rw [e6_]),rfl,(fun _ _ z_=>by subst hq0_;exact z_),?_⟩
      subst hq0_
      exact xmw mn Tryd.underlying23 tS43 tZ43 (Nat.le_of_ble_eq_true rfl) (vs:=[(0,.agg #[.int .i64 ((t.wy.getD k wz).1),.int .i64 ((t.wy.getD k wz).2)])]) rfl rfl (es:=[[.int .i64 ((t.wy.getD k wz).1),.int .i64 ((t.wy.getD k wz).2)]]) rfl rfl rfl fun _ _ o_=>o_
     exact xlq rfl
    intro val44 pc45 hQ_ hX_
    have e0_:val44 0= .pointer (some ⟨b13,2,none⟩):=(hQ_ 0 (by decide)).1
    have e1_:val44 1=w_:=(hQ_ 1 (by decide)).1
    have e2_:val44 2= .pointer (some ⟨b1,2,none⟩):=(hQ_ 2 (by decide)).1
    have e3_:val44 3= .slice a3 t.m c3:=(hQ_ 3 (by decide)).1
    have e4_:val44 4= .int .i64 (((k:Nat):Int)):=(hQ_ 4 (by decide)).1
    have e5_:val44 5= .pointer (some ((adr a3).add (k*2))):=(hQ_ 5 (by decide)).1
    have e6_:val44 6= .agg #[.int .i64 ((t.wy.getD k wz).1),.int .i64 ((t.wy.getD k wz).2)]:=(hQ_ 6 (by decide)).1
    have q7_:OwnS 43 2 (val44 7) [[.int .i64 ((t.wy.getD k wz).1),.int .i64 ((t.wy.getD k wz).2)]] (pc45 7):=hQ_ 7 (by decide)
    have x8_:pc45 8=X1_:=hX_ 8 (by decide)
    have x9_:pc45 9=X9:=hX_ 9 (by decide)
    have x10_:pc45 10=X7:=hX_ 10 (by decide)
    have x11_:pc45 11=X8:=hX_ 11 (by decide)
    clear hQ_ hX_
    refine xww (Φ:=fun h_=>St h [] p h_ (([(b13,.cells #[w4,w5,w_] 25 (0,0)),(b3,.cells #[.slice none 0 0,.slice none 0 0,.slice none 0 0] 25 (0,0)),(b2,.cells #[.int .i64 (x),.int .i64 (y)] 43 (0,0)),(b1,.cells #[.slice a1 t.nH c1,.slice a2 t.nW c2,.slice a3 t.m c3] 25 (0,0))]:Pcs)++(pc45 8++(pc45 9++(pc45 10++(pc45 11++(pc45 7++[]))))))) ?_ (fun h_ H_=>H_.swap')
    rw [x8_,x9_,x10_,x11_]
    refine xfj (tm':=(zq2 (zq4 (zq16 (zq32 []))))) (by rw [e0_,e1_,e2_,e3_,e4_,e5_,e6_]) ?_
    have o48:=q7_
    refine xjj (List.Perm.append_left _ (List.Perm.append_left _ (List.Perm.append_left _ (List.Perm.append_left _ (List.perm_append_comm_assoc _ _ _))))) ?_
    refine xjj (List.Perm.append_left _ (List.Perm.append_left _ (List.Perm.append_left _ (List.perm_append_comm_assoc _ _ _)))) ?_
    refine xjj (List.Perm.append_left _ (List.Perm.append_left _ (List.perm_append_comm_assoc _ _ _))) ?_
    refine xcq (L':=([(b13,.cells #[w4,w5,w_] 25 (0,0)),(b3,.cells #[.slice none 0 0,.slice none 0 0,.slice none 0 0] 25 (0,0)),(b2,.cells #[.int .i64 (x),.int .i64 (y)] 43 (0,0)),(b1,.cells #[.slice a1 t.nH c1,.slice a2 t.nW c2,.slice a3 t.m c3] 25 (0,0))]:Pcs)++(X1_++((pc45 7)++(X9++(X7++(X8++[])))))) rfl ?_
    refine xmv ([(b13,.cells #[w4,w5,w_] 25 (0,0)),(b3,.cells #[.slice none 0 0,.slice none 0 0,.slice none 0 0] 25 (0,0)),(b2,.cells #[.int .i64 (x),.int .i64 (y)] 43 (0,0)),(b1,.cells #[.slice a1 t.nH c1,.slice a2 t.nW c2,.slice a3 t.m c3] 25 (0,0))]:Pcs) X1_ (pc45 7) mn Tryd.underlying23 tS43 tZ43 rfl tB43 Tryd.underlying23 rfl rfl o1_ o48 (xtx rfl) (by rw [wcs_size];first | (simp only [List.length_cons,List.length_nil];omega) | (rw [List.length_append];simp only [List.length_cons,List.length_nil];omega)) (by decide) fun v49 X50 o51=>?_
    have o52:OwnS 43 2 v49 (wcs (l_++[(t.wy.getD k wz)])) X50:=o51.as (xyw _ (t.wy.getD k wz))
    refine ro (xaz xhj rfl (a':=⟨b13,2,none⟩) rfl) ?_
    refine xrj mn tS23 rfl (v:=v49) rfl o52.one (i:=0) rfl (Nat.succ_le_iff.1 (Nat.le_of_ble_eq_true rfl)) (cs2:=[w4,w5,v49]) rfl (xcq (L':=([(b13,.cells #[w4,w5,v49] 25 (0,0)),(b3,.cells #[.slice none 0 0,.slice none 0 0,.slice none 0 0] 25 (0,0)),(b2,.cells #[.int .i64 (x),.int .i64 (y)] 43 (0,0)),(b1,.cells #[.slice a1 t.nH c1,.slice a2 t.nW c2,.slice a3 t.m c3] 25 (0,0))]:Pcs)++(X50++(X9++(X7++(X8++[]))))) rfl ?_)
    refine xak <| xdq <| xbq <| rt (xaq (v:=.int .i64 (((k:Nat):Int))) rfl) (tm':=zq1 (zq16 _)) rfl ?_
    refine ro (xek rfl rfl (n:=((k+1:Nat):Int)) (wr (by omega))) ?_
    refine ro (xax (v:=.int .i64 (((k+1:Nat):Int))) rfl) <| xak ?_
    exact fun h_ H_=>IH15 _ _ (by omega) h_ ⟨k+1,p_,(l_++[(t.wy.getD k wz)]),v49,X50,rfl,(y_of rfl),(by omega),(zzw hp_ (by first | (rw [show p_=true by assumption];rfl) | (rw [show p_=false by assumption,decide_eq_true (show Bf (x,y) (t.wy.getD k wz) by assumption)];rfl) | (rw [show p_=false by assumption,decide_eq_false (show ¬ Bf (x,y) (t.wy.getD k wz) by assumption)];rfl))),(znz hp_ hl_ (by first | exact fun z_=>absurd z_.2 (by assumption) | exact fun z_=>absurd z_.1 (by rw [show p_=true by assumption];decide))),o52,H_⟩
 ·
  refine xck rfl (dff cc16) <| xhz rfl <| xez <| fsr <| rt (xaq (v:=.bool (p_)) rfl) (tm':=zq2 (zq4 (zq16 (zq32 [])))) rfl <| ro (xjw rfl) ?_
  refine xak ?_
  rcases ybj (p_) with cc53 | cc53
  ·
   refine xck rfl (xfw cc53) <| xcv <| fsr <| rd (fun h_ H_=>xav H_ tA25 tS25 rfl (i:=0) rfl (vs:=[w4,w5,w_]) rfl rfl) ?_
   refine xik mn tS25 rfl (v:=.agg #[w4,w5,w_]) rfl (i:=1) rfl rfl (xfk o10.one.2 (xfk o11.one.2 (xfk o1_.one.2 rfl))) (Nat.le_of_ble_eq_true rfl) (cs2:=[w4,w5,w_]) rfl (xcq (L':=([(b13,.cells #[w4,w5,w_] 25 (0,0)),(b3,.cells #[w4,w5,w_] 25 (0,0)),(b2,.cells #[.int .i64 (x),.int .i64 (y)] 43 (0,0)),(b1,.cells #[.slice a1 t.nH c1,.slice a2 t.nW c2,.slice a3 t.m c3] 25 (0,0))]:Pcs)++(X1_++(X9++(X7++(X8++[]))))) rfl ?_)
   refine xak ?_
   refine xdv Tryd.func26 rfl (vs:=[.agg #[w4,w5,w_]]) (fun h_ H_=>⟨.agg #[w4,w5,w_],_,rfl,(xbz (xbv (xnj tA25 tS25 (vs:=[w4,w5,w_]) rfl (fun j_ v_ e_=>by rw [xnz];exact H_.ocell (i:=1) rfl (by simpa using e_)) ⟨rfl,rfl⟩))),rfl⟩) (v:=.agg #[w4,w5,w_]) rfl ?_
   have kE_:k=t.m:=by omega
   exact fun h_ H_=>K _ _ ⟨_,_,_,_,_,_,rfl,o10,o11,o1_.as (congrArg wcs (by rw [withW,if_pos (by rw [← kE_,← hp_];assumption),← kE_,← hl_])),by simpa using ((H_.dropA).sub (List.Sublist.append_left (List.sublist_append_right _ _) _)).new⟩
  ·
   refine xdx rfl (xmz cc53) <| xbq <| rt (xaz xhj rfl (a':=⟨b13,2,none⟩) rfl) (tm':=zq2 (zq4 (zq16 (zq32 [])))) rfl <| rd (fun h_ H_=>xaj H_ tA23 rfl (i:=0) rfl (v:=w_) rfl) <| rd (fun h_ H_=>xav H_ tA43 tS43 rfl (i:=2) rfl (vs:=[.int .i64 (x),.int .i64 (y)]) rfl rfl) ?_
   refine xjz ([(b13,.cells #[w4,w5,w_] 25 (0,0)),(b3,.cells #[.slice none 0 0,.slice none 0 0,.slice none 0 0] 25 (0,0)),(b2,.cells #[.int .i64 (x),.int .i64 (y)] 43 (0,0)),(b1,.cells #[.slice a1 t.nH c1,.slice a2 t.nW c2,.slice a3 t.m c3] 25 (0,0))]:Pcs) mn Tryd.underlying23 tS43 tZ43 (Nat.le_of_ble_eq_true rfl) (vs:=[(0,.agg #[.int .i64 (x),.int .i64 (y)])]) rfl rfl (es:=[[.int .i64 (x),.int .i64 (y)]]) rfl rfl rfl fun v54 X55 o56=>?_
   refine xfj (tm':=zq2 (zq4 (zq16 (zq32 [])))) rfl ?_
   refine xjj (List.Perm.append_left _ (List.perm_append_comm_assoc _ _ _)) ?_
   refine xcq (L':=([(b13,.cells #[w4,w5,w_] 25 (0,0)),(b3,.cells #[.slice none 0 0,.slice none 0 0,.slice none 0 0] 25 (0,0)),(b2,.cells #[.int .i64 (x),.int .i64 (y)] 43 (0,0)),(b1,.cells #[.slice a1 t.nH c1,.slice a2 t.nW c2,.slice a3 t.m c3] 25 (0,0))]:Pcs)++(X1_++(X55++(X9++(X7++(X8++[])))))) rfl ?_
   refine xmv ([(b13,.cells #[w4,w5,w_] 25 (0,0)),(b3,.cells #[.slice none 0 0,.slice none 0 0,.slice none 0 0] 25 (0,0)),(b2,.cells #[.int .i64 (x),.int .i64 (y)] 43 (0,0)),(b1,.cells #[.slice a1 t.nH c1,.slice a2 t.nW c2,.slice a3 t.m c3] 25 (0,0))]:Pcs) X1_ X55 mn Tryd.underlying23 tS43 tZ43 rfl tB43 Tryd.underlying23 rfl rfl o1_ o56 (xtx rfl) (by rw [wcs_size];simp only [List.length_cons,List.length_nil];omega) (by decide) fun v57 X58 o59=>?_
   have o60:OwnS 43 2 v57 (wcs (l_++[((x,y):FWay)])) X58:=o59.as (xyw _ ((x,y):FWay))
   refine ro (xaz xhj rfl (a':=⟨b13,2,none⟩) rfl) ?_
   refine xrj mn tS23 rfl (v:=v57) rfl o60.one (i:=0) rfl (Nat.succ_le_iff.1 (Nat.le_of_ble_eq_true rfl)) (cs2:=[w4,w5,v57]) rfl (xcq (L':=([(b13,.cells #[w4,w5,v57] 25 (0,0)),(b3,.cells #[.slice none 0 0,.slice none 0 0,.slice none 0 0] 25 (0,0)),(b2,.cells #[.int .i64 (x),.int .i64 (y)] 43 (0,0)),(b1,.cells #[.slice a1 t.nH c1,.slice a2 t.nW c2,.slice a3 t.m c3] 25 (0,0))]:Pcs)++(X58++(X9++(X7++(X8++[]))))) rfl ?_)
   refine ren <| xbq ?_
   refine xbx mn (fun h_ H_=>xav H_ tA25 tS25 rfl (i:=0) rfl (vs:=[w4,w5,v57]) rfl rfl) (tm':=zq2 (zq4 (zq16 (zq32 [])))) rfl ?_
   refine xik mn tS25 rfl (v:=.agg #[w4,w5,v57]) rfl (i:=1) rfl rfl (xfk o10.one.2 (xfk o11.one.2 (xfk o60.one.2 rfl))) (Nat.le_of_ble_eq_true rfl) (cs2:=[w4,w5,v57]) rfl (xcq (L':=([(b13,.cells #[w4,w5,v57] 25 (0,0)),(b3,.cells #[w4,w5,v57] 25 (0,0)),(b2,.cells #[.int .i64 (x),.int .i64 (y)] 43 (0,0)),(b1,.cells #[.slice a1 t.nH c1,.slice a2 t.nW c2,.slice a3 t.m c3] 25 (0,0))]:Pcs)++(X58++(X9++(X7++(X8++[]))))) rfl ?_)
   refine xak ?_
   refine xdv Tryd.func26 rfl (vs:=[.agg #[w4,w5,v57]]) (fun h_ H_=>⟨.agg #[w4,w5,v57],_,rfl,(xbz (xbv (xnj tA25 tS25 (vs:=[w4,w5,v57]) rfl (fun j_ v_ e_=>by rw [xnz];exact H_.ocell (i:=1) rfl (by simpa using e_)) ⟨rfl,rfl⟩))),rfl⟩) (v:=.agg #[w4,w5,v57]) rfl ?_
   have kE_:k=t.m:=by omega
   exact fun h_ H_=>K _ _ ⟨_,_,_,_,_,_,rfl,o10,o11,o60.as (congrArg wcs (by rw [withW,if_neg (by rw [← kE_,← hp_,show p_=false by assumption];decide),← kE_,← hl_])),by simpa using ((H_.dropA).sub (List.Sublist.append_left (List.sublist_append_right _ _) _)).new⟩
end Go.Proofs.YtalfgojocdonhaaDoor
namespace Go.Proofs.YtalfgojocdonhaaDoor
open Go.X Go.X.Flow Go.Conc
set_option maxRecDepth 10000
set_option synthInstance.maxSize 2000

set_option maxHeartbeats 2000000
theorem c54 (md:Md) (h:Heap) (p:PHeap) (hp:Per p h) (a1 a2 a3:Option Addr) (c1 c2 c3:Nat) (t:Tn) (T:TownP p a1 t.nH a2 t.nW a3 t.m t) (hn:t.nH≤40∧t.nW≤40∧t.m≤41) (hc0:chkB t=0→prodW t t.m 0≤2000) (hcM:chkB t=0→prodM t t.m≤2000):CallsX Tryd.prog md 54 #[.agg #[.slice a1 t.nH c1,.slice a2 t.nW c2,.slice a3 t.m c3]] h fun v h'=>∃ w X,v= .tuple #[w,.int .i64 (chkB t)]∧OwnS 3 1 w (ics (helpsC t)) X∧New h h' X:=by
 refine xcx (Φ:=fun h_=>St h [] p h_ []) Tryd.func54 rfl (tm:=zq1 (zq2 (zq4 (zq8 (zq16 []))))) rfl ?_ (St.start h _ hp)
 intro c₀ cs Stop K
 refine fsr ?_
 refine xij mn (v:=.agg #[.slice a1 t.nH c1,.slice a2 t.nW c2,.slice a3 t.m c3]) rfl fun b1=>xcq (L':=[(b1,.cells #[.slice a1 t.nH c1,.slice a2 t.nW c2,.slice a3 t.m c3] 25 (0,0))]) rfl ?_
 refine ro (xax (v:=.slice none 0 0) rfl) <| rt (xax (v:=.int .i64 0) rfl) (tm':=zq4 _) rfl <| ren <| fsr <| rd (fun h_ H_=>xav H_ tA25 tS25 rfl (i:=0) rfl (vs:=[.slice a1 t.nH c1,.slice a2 t.nW c2,.slice a3 t.m c3]) rfl rfl) ?_
 refine xeq mn (first:=[]) (cap:=[]) rfl rfl fC48 (fun h_ H_=>c48 md _ _ H_.pe _ _ _ _ _ _ _ _ _ t (show TownP _ _ _ _ _ _ _ t from ⟨T.h,T.w,T.y⟩) (by omega)) rfl ?_
 refine rt (xax (v:=.int .i64 (chkB t)) rfl) (tm':=zq1 (zq4 _)) rfl <| ren <| xbq <| ro (xaq (v:=.int .i64 (chkB t)) rfl) <| ro (xmk rfl rfl) <| xak ?_
 by_cases cc2:chkB t≠0
 ·
  refine xdx rfl (dtt cc2) <| fsr <| rt (xaq (v:=.int .i64 (chkB t)) rfl) (tm':=zq4 (zq8 _)) rfl <| ro (xax (v:=.slice none 0 0) rfl) <| ro (xax (v:=.int .i64 (chkB t)) rfl) <| xak ?_
  refine xdv Tryd.func54 rfl (vs:=[.slice none 0 0,.int .i64 (chkB t)]) (fun h_ H_=>⟨.slice none 0 0,_,rfl,rfl,⟨.int .i64 (chkB t),_,rfl,rfl,rfl⟩⟩) (v:=.tuple #[.slice none 0 0,.int .i64 (chkB t)]) rfl ?_
  exact fun h_ H_=>K _ _ ⟨_,[],rfl,(OwnS.empty _ _).as (by rw [helpsC,if_neg ‹_›];rfl),(H_.sub (List.nil_sublist _)).new⟩
 ·
  refine xck rfl (dff cc2) <| xcv <| xez ?_
  have hc_:chkB t=0:=by omega
  obtain ⟨h12,hV⟩:=zvz hc_
  have hO:OkT t:=xuz hc_
  have hP:=hc0 hc_
  have hM:=hcM hc_
  refine xbq <| rt (xax (v:=.slice none 0 0) rfl) (tm':=zq2 (zq4 _)) rfl <| ren <| fsr <| ro (xax (v:=.int .i64 0) rfl) <| xak ?_
  refine xdj ?_
  refine xhk (m₀:=t.nW-0) (fun m_ tm_ h_=>∃ (k:Nat) (w_:Value) (X1_:Pcs),m_=t.nW-k∧(∃ y3:Nat→Value,tm_=[.agg #[.slice a1 t.nH c1,.slice a2 t.nW c2,.slice a3 t.m c3],.pointer (some ⟨b1,0,none⟩),.slice none 0 0,.int .i64 0,.int .i64 (chkB t),w_,.int .i64 (((k:Nat):Int)),.agg #[.slice a1 t.nH c1,.slice a2 t.nW c2,.slice a3 t.m c3],.int .i64 (chkB t),.int .i64 (chkB t),.bool (decide (chkB t≠0)),undef,(y3 12),(y3 13),(y3 14),(y3 15),(y3 16),(y3 17),(y3 18),(y3 19),(y3 20),(y3 21),(y3 22),(y3 23),(y3 24),(y3 25),(y3 26),(y3 27),(y3 28),(y3 29),undef])∧(k≤t.nW)∧(OwnS 3 1 w_ (ics (helpsF t k)) X1_)∧St h [] p h_ (([(b1,.cells #[.slice a1 t.nH c1,.slice a2 t.nW c2,.slice a3 t.m c3] 25 (0,0))]:Pcs)++(X1_++[]))) (fun h_ H_=>⟨0,(.slice none 0 0),[],rfl,(y_of rfl),Nat.zero_le _,(OwnS.empty _ _),H_⟩) ?_
  intro m_ tm_ IH4
  refine xhq fun k=>xhq fun w_=>xhq fun X1_=>xcz fun hm_=>xcz fun ht_=>xcz fun hk=>xcz fun o1_=>?_
  subst hm_;obtain ⟨y3,ht_⟩:=ht_;subst ht_
  refine xez <| fsr <| ro (xaq (v:=.int .i64 (((k:Nat):Int))) rfl) <| rt (xaz xnk rfl (a':=⟨b1,1,none⟩) rfl) (tm':=zq2 (zq4 (zq8 _))) rfl <| rd (fun h_ H_=>xaj H_ tA22 rfl (i:=0) rfl (v:=.slice a2 t.nW c2) rfl) <| ro (xfz Tryd.underlying22 rfl) ?_
  refine rt (xgj rfl rfl) (tm':=zq1 (zq16 _)) rfl <| xak ?_
  by_cases cc5:((k:Nat):Int)<((t.nW:Nat):Int)
  ·
   refine xdx rfl (dtt cc5) <| xcv <| xez <| xdj <| xez ?_
   obtain ⟨Gw17,Gw18,Gw19,GX20,GX21,GX22,hG2_⟩:=sk6 (fun (v_:Value) (x_:Pcs) (w17:Value) (w18:Value) (w19:Value) (X20:Pcs) (X21:Pcs) (X22:Pcs)=>v_= .agg #[w17,w18,w19]∧(OwnS 3 1 w17 (ics (pour t k).hs) X20)∧(OwnS 3 1 w18 (ics (pour t k).ws) X21)∧(OwnS 43 2 w19 (wcs (pour t k).wy) X22)∧x_=(X21++(X22++(X20++[]))))
   obtain ⟨Gw26,GX27,hG3_⟩:=sk2 (fun (v_:Value) (x_:Pcs) (w26:Value) (X27:Pcs)=>v_=w26∧(OwnS 3 1 w26 (ics (LK (pour t k))) X27)∧x_=(X27++[]))
   refine xxv (xlx (C:=[]) (A:=([(b1,.cells #[.slice a1 t.nH c1,.slice a2 t.nW c2,.slice a3 t.m c3] 25 (0,0))]:Pcs)) 5 [[],[],[0,1],[0,1,2],[],[0,1,2,4],[]] [5] [5,3] [0,1,4] (fun i_=>match i_ with | 5=>X1_ | _=>[]) (fun i_=>match i_ with | 3=>[2] | _=>[]) (fun i_=>match i_ with | 0=>[] | 1=>[] | 2=>[0,1] | 3=>[2] | 4=>[] | _=>[]) (fun i_ val_ pc_ v_ x_=>match i_ with | 0=>v_= .agg #[.slice a1 t.nH c1,.slice a2 t.nW c2,.slice a3 t.m c3]∧x_=[] | 1=>v_= .int .i64 (((k:Nat):Int))∧x_=[] | 2=>∃ w17:Value,∃ w18:Value,∃ w19:Value,∃ X20:Pcs,∃ X21:Pcs,∃ X22:Pcs,v_= .agg #[w17,w18,w19]∧(OwnS 3 1 w17 (ics (pour t k).hs) X20)∧(OwnS 3 1 w18 (ics (pour t k).ws) X21)∧(OwnS 43 2 w19 (wcs (pour t k).wy) X22)∧x_=(X21++(X22++(X20++[]))) | 3=>∃ w26:Value,∃ X27:Pcs,v_=w26∧(OwnS 3 1 w26 (ics (LK (pour t k))) X27)∧x_=(X27++[]) | 4=>v_= .agg #[.slice a1 t.nH c1,.slice a2 t.nW c2,.slice a3 t.m c3]∧x_=[] | _=>True) (fun val15=>[.agg #[.slice a1 t.nH c1,.slice a2 t.nW c2,.slice a3 t.m c3],.pointer (some ⟨b1,0,none⟩),.slice none 0 0,.int .i64 0,.int .i64 (chkB t),w_,.int .i64 (((k:Nat):Int)),.agg #[.slice a1 t.nH c1,.slice a2 t.nW c2,.slice a3 t.m c3],.int .i64 (chkB t),.int .i64 (chkB t),.bool (decide (chkB t≠0)),undef,.int .i64 (((k:Nat):Int)),.pointer (some ⟨b1,1,none⟩),.slice a2 t.nW c2,.int .i64 (((t.nW:Nat):Int)),.bool (decide (((k:Nat):Int)<((t.nW:Nat):Int))),(y3 17),(y3 18),(val15 0),(val15 1),(val15 2),(val15 3),(val15 4),(y3 24),(y3 25),(y3 26),(y3 27),(y3 28),(y3 29),undef]) xkk (by kernel_rfl) (Nat.le_of_ble_eq_true rfl) (by kernel_rfl) (by kernel_rfl) (by kernel_rfl) (fun _ _=>⟨fun _ _ h=>h.2,⟨fun _ _ h=>h.2,⟨fun _ _ h=>h.2,trivial⟩⟩⟩) (fun _=>by kernel_rfl) (by kernel_rfl) ?_ ?_) (fun h_ H_=>St.swap (A:=([(b1,.cells #[.slice a1 t.nH c1,.slice a2 t.nW c2,.slice a3 t.m c3] 25 (0,0))]:Pcs)) (U:=(X1_++[])) H_)
   ·
    refine xaw rfl (xdk ?_) ?_
    ·
     intro val15 pc16 hQ_ hX_
     obtain ⟨q_,hq0_⟩: ∃ q_:Value→Pcs→Prop,q_=(fun v_ x_=>v_= .agg #[.slice a1 t.nH c1,.slice a2 t.nW c2,.slice a3 t.m c3]∧x_=[]):=⟨_,rfl⟩
     refine ⟨(zq1 (zq2 (zq4 (zq8 (zq16 []))))),[],q_,rfl,rfl,(fun _ _ z_=>by subst hq0_;exact z_),?_⟩
     subst hq0_
     exact xdw mn (fun _ h_ H_=>xav H_ tA25 tS25 rfl (i:=0) rfl (vs:=[.slice a1 t.nH c1,.slice a2 t.nW c2,.slice a3 t.m c3]) rfl rfl) ⟨rfl,rfl⟩
    refine xaw rfl (xdk ?_) ?_
    ·
     intro val15 pc16 hQ_ hX_
     obtain ⟨q_,hq0_⟩: ∃ q_:Value→Pcs→Prop,q_=(fun v_ x_=>v_= .int .i64 (((k:Nat):Int))∧x_=[]):=⟨_,rfl⟩
     refine ⟨(zq1 (zq2 (zq4 (zq8 (zq16 []))))),[],q_,rfl,rfl,(fun _ _ z_=>by subst hq0_;exact z_),?_⟩
     subst hq0_
     exact xdw mn (fun _ h_ H_=>xaq (v:=.int .i64 (((k:Nat):Int))) rfl) ⟨rfl,rfl⟩
    refine xaw rfl (xdk ?_) ?_
    ·
     intro val15 pc16 hQ_ hX_
     have e0_:val15 0= .agg #[.slice a1 t.nH c1,.slice a2 t.nW c2,.slice a3 t.m c3]:=(hQ_ 0 rfl).1
     have e1_:val15 1= .int .i64 (((k:Nat):Int)):=(hQ_ 1 rfl).1
     obtain ⟨q_,hq0_⟩: ∃ q_:Value→Pcs→Prop,q_=(fun v_ x_=>∃ w17:Value,∃ w18:Value,∃ w19:Value,∃ X20:Pcs,∃ X21:Pcs,∃ X22:Pcs,v_= .agg #[w17,w18,w19]∧(OwnS 3 1 w17 (ics (pour t k).hs) X20)∧(OwnS 3 1 w18 (ics (pour t k).ws) X21)∧(OwnS 43 2 w19 (wcs (pour t k).wy) X22)∧x_=(X21++(X22++(X20++[])))):=⟨_,rfl⟩
     refine ⟨(zq1 (zq2 (zq4 (zq8 (zq16 []))))),[],q_,(by rw [e0_,e1_]),rfl,(fun _ _ z_=>by subst hq0_;exact z_),?_⟩
     subst hq0_
     exact xok mn (first:=[]) (cap:=[]) rfl rfl fC58 (fun _ h_ H_=>(c58 md _ _ H_.pe _ _ _ _ _ _ t (show TownP _ _ _ _ _ _ _ t from ⟨T.h,T.w,T.y⟩) (by omega) hO (((k:Nat):Int)) (by omega)).mono fun v_ h2_ ⟨w17,w18,w19,X20,X21,X22,e_,o23,o24,o25,N_⟩=>⟨_,⟨w17,w18,w19,X20,X21,X22,e_,o23,o24,o25,rfl⟩,H_.callN N_⟩)
    refine xaw rfl (xdk ?_) ?_
    ·
     intro val15 pc16 hQ_ hX_
     obtain ⟨e2_,o23,o24,o25,x2_⟩:=hG2_ _ _ (hQ_ 2 rfl)
     generalize hg_w17:Gw17 (val15 2) (pc16 2)=w17 at*
     generalize hg_w18:Gw18 (val15 2) (pc16 2)=w18 at*
     generalize hg_w19:Gw19 (val15 2) (pc16 2)=w19 at*
     generalize hg_X20:GX20 (val15 2) (pc16 2)=X20 at*
     generalize hg_X21:GX21 (val15 2) (pc16 2)=X21 at*
     generalize hg_X22:GX22 (val15 2) (pc16 2)=X22 at*
     obtain ⟨q_,hq0_⟩: ∃ q_:Value→Pcs→Prop,q_=(fun v_ x_=>∃ w26:Value,∃ X27:Pcs,v_=w26∧(OwnS 3 1 w26 (ics (LK (pour t k))) X27)∧x_=(X27++[])):=⟨_,rfl⟩
     refine ⟨(zq1 (zq2 (zq4 (zq8 (zq16 []))))),((X21++(X22++(X20++[])))++[]),q_,(by rw [e2_]),(by rw [← x2_];rfl),(fun _ _ z_=>by subst hq0_ hg_w17 hg_w18 hg_w19 hg_X20 hg_X21 hg_X22;exact z_),?_⟩
     subst hq0_
     exact xok mn (first:=[]) (cap:=[]) rfl rfl fC82 (fun _ h_ H_=>wgx o23 o24 o25 (fun x_ hx_=>by simp at hx_ ⊢;rcases hx_ with hx_ | hx_ | hx_ <;> simp [hx_]) ⟨hn.1,by rw [yyq];exact hn.2.1,hn.2.2⟩ (zqj hV (by omega) (by omega)) (wfv hO.toOk (by omega) hM) H_)
    refine xaw rfl (xdk ?_) ?_
    ·
     intro val15 pc16 hQ_ hX_
     obtain ⟨q_,hq0_⟩: ∃ q_:Value→Pcs→Prop,q_=(fun v_ x_=>v_= .agg #[.slice a1 t.nH c1,.slice a2 t.nW c2,.slice a3 t.m c3]∧x_=[]):=⟨_,rfl⟩
     refine ⟨(zq1 (zq2 (zq4 (zq8 (zq16 []))))),[],q_,rfl,rfl,(fun _ _ z_=>by subst hq0_;exact z_),?_⟩
     subst hq0_
     exact xdw mn (fun _ h_ H_=>xav H_ tA25 tS25 rfl (i:=0) rfl (vs:=[.slice a1 t.nH c1,.slice a2 t.nW c2,.slice a3 t.m c3]) rfl rfl) ⟨rfl,rfl⟩
    exact xlq rfl
   intro val15 pc16 hQ_ hX_
   have e0_:val15 0= .agg #[.slice a1 t.nH c1,.slice a2 t.nW c2,.slice a3 t.m c3]:=(hQ_ 0 (by decide)).1
   have e1_:val15 1= .int .i64 (((k:Nat):Int)):=(hQ_ 1 (by decide)).1
   obtain ⟨e2_,o23,o24,o25,x2_⟩:=hG2_ _ _ (hQ_ 2 (by decide))
   obtain ⟨e3_,o28,x3_⟩:=hG3_ _ _ (hQ_ 3 (by decide))
   have e4_:val15 4= .agg #[.slice a1 t.nH c1,.slice a2 t.nW c2,.slice a3 t.m c3]:=(hQ_ 4 (by decide)).1
   have x5_:pc16 5=X1_:=hX_ 5 (by decide)
   clear hQ_ hX_
   generalize Gw17 (val15 2) (pc16 2)=w17 at*
   generalize Gw18 (val15 2) (pc16 2)=w18 at*
   generalize Gw19 (val15 2) (pc16 2)=w19 at*
   generalize GX20 (val15 2) (pc16 2)=X20 at*
   generalize GX21 (val15 2) (pc16 2)=X21 at*
   generalize GX22 (val15 2) (pc16 2)=X22 at*
   generalize Gw26 (val15 3) (pc16 3)=w26 at*
   generalize GX27 (val15 3) (pc16 3)=X27 at*
   refine xww (Φ:=fun h_=>St h [] p h_ (([(b1,.cells #[.slice a1 t.nH c1,.slice a2 t.nW c2,.slice a3 t.m c3] 25 (0,0))]:Pcs)++(pc16 5++(pc16 3++[])))) ?_ (fun h_ H_=>H_.swap')
   rw [x5_,x3_]
   refine xcq (L':=([(b1,.cells #[.slice a1 t.nH c1,.slice a2 t.nW c2,.slice a3 t.m c3] 25 (0,0))]:Pcs)++(X1_++(X27++[]))) (by simp) ?_
   refine xfj (tm':=(zq1 (zq2 (zq4 (zq8 (zq16 [])))))) (by rw [e0_,e1_,e2_,e3_,e4_]) ?_
   refine xiw mn (first:=[]) (cap:=[]) rfl rfl fC82 (R:=fun v_ h_=>∃ w31:Value,∃ X32:Pcs,v_=w31∧(OwnS 3 1 w31 (ics (LK t)) X32)∧St h [] p h_ (([(b1,.cells #[.slice a1 t.nH c1,.slice a2 t.nW c2,.slice a3 t.m c3] 25 (0,0))]:Pcs)++(X32++(X1_++(X27++[]))))) (fun h_ H_=>(c82 md _ _ H_.pe _ _ _ _ _ _ t (show TownP _ _ _ _ _ _ _ t from ⟨T.h,T.w,T.y⟩) (by omega) hO hP).mono fun v_ h2_ ⟨w31,X32,e_,o33,N_⟩=>⟨w31,X32,e_,o33,H_.callNA N_⟩) fun v_=>?_
   refine xgz fun w31=>xgz fun X32=>xfq fun ev_=>xfq fun o33=>?_
   have ev_:=ev_.symm;subst ev_
   refine xcq (L':=([(b1,.cells #[.slice a1 t.nH c1,.slice a2 t.nW c2,.slice a3 t.m c3] 25 (0,0))]:Pcs)++(X32++(X1_++(X27++[])))) rfl ?_
   refine xfj (tm':=zq1 (zq2 (zq4 (zq8 (zq16 []))))) rfl ?_
   refine xeq mn (first:=[]) (cap:=[]) rfl rfl fC59 (fun h_ H_=>show CallsX Tryd.prog md 59 #[w26,w31] h_ (fun v_ h2_=>v_= .bool (decide (earlier (LK (pour t k)) (LK t)=true))∧Keep h_ h2_) from zyq (n:=t.nH) (n':=t.nH) o28 ((xcw _).trans (xxk _)) o33 ((xcw _).trans (xxk _)) H_ (fun x_ h_=>by simp at h_ ⊢;rcases h_ with h_ | h_ <;> simp [h_]) fun p_ a_ c_ a2_ c2_ hp_ le_ hv_ hv2_ D_ D2_=>by rw [hv_,hv2_];exact zaw md hp_ (show Ints _ _ _ (LK (pour t k)) from D_) (show Ints _ _ _ (LK t) from D2_) (by omega)) rfl ?_
   refine xak ?_
   by_cases cc34:earlier (LK (pour t k)) (LK t)=true
   ·
    refine xdx rfl (dtt cc34) <| xbq <| ro (xaq (v:=w_) rfl) <| rt (xaq (v:=.int .i64 (((k:Nat):Int))) rfl) (tm':=zq1 (zq2 (zq4 (zq8 (zq16 []))))) rfl ?_
    refine xjz ([(b1,.cells #[.slice a1 t.nH c1,.slice a2 t.nW c2,.slice a3 t.m c3] 25 (0,0))]:Pcs) mn Tryd.underlying22 tS3 tZ3 (Nat.le_of_ble_eq_true rfl) (vs:=[(0,.int .i64 (((k:Nat):Int)))]) rfl rfl (es:=[[.int .i64 (((k:Nat):Int))]]) rfl rfl rfl fun v35 X36 o37=>?_
    refine xjj (List.Perm.append_left _ (List.Perm.append_left _ (List.perm_append_comm_assoc _ _ _))) ?_
    refine xjj (List.Perm.append_left _ (List.perm_append_comm_assoc _ _ _)) ?_
    refine xcq (L':=([(b1,.cells #[.slice a1 t.nH c1,.slice a2 t.nW c2,.slice a3 t.m c3] 25 (0,0))]:Pcs)++(X1_++(X36++(X32++(X27++[]))))) rfl ?_
    refine xmv ([(b1,.cells #[.slice a1 t.nH c1,.slice a2 t.nW c2,.slice a3 t.m c3] 25 (0,0))]:Pcs) X1_ X36 mn Tryd.underlying22 tS3 tZ3 rfl tB3 Tryd.underlying22 rfl rfl o1_ o37 (xtx rfl) (by rw [xcw];have z_:=yjz (t:=t) (k:=k);simp only [List.length_cons,List.length_nil];omega) (by decide) fun v38 X39 o40=>?_
    have o41:OwnS 3 1 v38 (ics (helpsF t (k+1))) X39:=o40.as ((yzx _ _).trans (congrArg ics (yuw (vbj ‹_›)).symm))
    refine rt (xax (v:=v38) rfl) (tm':=zq2 (zq4 _)) rfl <| xak <| xdq <| xbq <| ro (xaq (v:=.int .i64 (((k:Nat):Int))) rfl) ?_
    refine ro (xek rfl rfl (n:=((k+1:Nat):Int)) (wr (by omega))) ?_
    refine rt (xax (v:=.int .i64 (((k+1:Nat):Int))) rfl) (tm':=zq1 (zq2 (zq4 _))) rfl <| xak ?_
    refine xgv (List.Perm.append_left _ (List.perm_append_comm_assoc _ _ _)) ?_
    refine xgv (List.Perm.append_left _ (List.Perm.append_left _ (List.perm_append_comm_assoc _ _ _))) ?_
    refine xlk (L':=([(b1,.cells #[.slice a1 t.nH c1,.slice a2 t.nW c2,.slice a3 t.m c3] 25 (0,0))]:Pcs)++(X32++(X27++(X39++[])))) rfl ?_
    exact fun h_ H_=>IH4 _ _ (by omega) h_ ⟨k+1,v38,X39,rfl,(y_of rfl),(by omega),o41,H_.dropX.dropX⟩
   ·
    refine xck rfl (dff cc34) <| xcv <| xdq <| xbq <| ro (xaq (v:=.int .i64 (((k:Nat):Int))) rfl) ?_
    refine ro (xek rfl rfl (n:=((k+1:Nat):Int)) (wr (by omega))) ?_
    refine rt (xax (v:=.int .i64 (((k+1:Nat):Int))) rfl) (tm':=zq1 (zq2 (zq4 _))) rfl <| xak ?_
    refine xgv (List.Perm.append_left _ (List.Perm.append_left _ (List.perm_append_comm_assoc _ _ _))) ?_
    refine xlk (L':=([(b1,.cells #[.slice a1 t.nH c1,.slice a2 t.nW c2,.slice a3 t.m c3] 25 (0,0))]:Pcs)++(X32++(X27++(X1_++[])))) rfl ?_
    exact fun h_ H_=>IH4 _ _ (by omega) h_ ⟨k+1,w_,X1_,rfl,(y_of rfl),(by omega),(o1_.as (by rw [zgj (vbk ‹_›)])),H_.dropX.dropX⟩
  ·
   refine xck rfl (dff cc5) <| xhz rfl <| fsr <| ro (xaq (v:=w_) rfl) <| ro (xax (v:=w_) rfl) <| rt (xax (v:=.int .i64 0) rfl) (tm':=zq4 _) rfl ?_
   refine xak ?_
   refine xdv Tryd.func54 rfl (vs:=[w_,.int .i64 0]) (fun h_ H_=>⟨w_,_,rfl,rfl,⟨.int .i64 0,_,rfl,rfl,rfl⟩⟩) (v:=.tuple #[w_,.int .i64 0]) rfl ?_
   have e_:k=t.nW:=by omega
   exact fun h_ H_=>K _ _ ⟨_,_,by rw [hc_],o1_.as (by rw [helpsC,if_pos hc_,e_]),((H_.dropA).sub (List.sublist_append_left _ _)).new⟩
theorem c56 (md:Md) (h:Heap) (p:PHeap) (hp:Per p h) (a1 a2 a3:Option Addr) (c1 c2 c3:Nat) (t:Tn) (T:TownP p a1 t.nH a2 t.nW a3 t.m t) (hn:t.nH≤40∧t.nW≤40∧t.m≤41) (hc0:chkB t=0→prodW t t.m 0≤2000) (x y:Int) (hcW:(0≤x∧x≤(t.nH:Int)-1)→(0≤y∧y≤(t.nW:Int)-1)→chkB t=0→prodW (withT t (x,y)) (withT t (x,y)).m 0≤2000):CallsX Tryd.prog md 56 #[.agg #[.slice a1 t.nH c1,.slice a2 t.nW c2,.slice a3 t.m c3],.int .i64 (x),.int .i64 (y)] h fun v h'=>v= .tuple #[.bool (wayB t x y),.int .i64 (wayE t x y)]∧Keep h h':=by
 refine xcx (Φ:=fun h_=>St h [] p h_ []) Tryd.func56 rfl (tm:=zq4 (zq32 [])) rfl ?_ (St.start h _ hp)
 intro c₀ cs Stop K
 refine fsr ?_
 refine xij mn (v:=.agg #[.slice a1 t.nH c1,.slice a2 t.nW c2,.slice a3 t.m c3]) rfl fun b1=>xcq (L':=[(b1,.cells #[.slice a1 t.nH c1,.slice a2 t.nW c2,.slice a3 t.m c3] 25 (0,0))]) rfl ?_
 refine ro (xax (v:=.bool (false)) rfl) <| rt (xax (v:=.int .i64 0) rfl) (tm':=zq8 _) rfl <| ren <| xez ?_
 by_cases cc2:0≤x∧x≤(t.nH:Int)-1
 ·
  refine xgx 9 [[],[],[],[1,2],[1,2,3],[],[1,2,3],[1,2,3,5,6],[1,2,3,4,5,6],[],[]] xkk (by kernel_rfl) (Nat.le_of_ble_eq_true rfl) ?_
  refine wd (fun h_ H_=>xav H_ tA25 tS25 rfl (i:=0) rfl (vs:=[.slice a1 t.nH c1,.slice a2 t.nW c2,.slice a3 t.m c3]) rfl rfl) ?_
  refine xbk mn (fun h_ H_=>xav H_ tA25 tS25 rfl (i:=0) rfl (vs:=[.slice a1 t.nH c1,.slice a2 t.nW c2,.slice a3 t.m c3]) rfl rfl) (tm':=zq4 (zq8 _)) rfl ?_
  refine wo (xaq (v:=.int .i64 (x)) rfl) ?_
  refine xiv mn (first:=[]) (cap:=[]) rfl rfl fC33 (fun h_ H_=>(c33 md _ _ H_.pe _ _ _ _ _ _ _ _ _ t (show TownP _ _ _ _ _ _ _ t from ⟨T.h,T.w,T.y⟩) (by omega) (x)).mono fun v_ h2_ ⟨e_,k_⟩=>⟨e_,H_.call k_⟩) (tm':=zq2 (zq4 (zq8 _))) rfl ?_
  refine wo (xaq (v:=.bool (decide (0≤x∧x≤(t.nH:Int)-1))) rfl) ?_
  refine xbk (ms rfl rfl (dtt cc2)) (fun h_ H_=>xav H_ tA25 tS25 rfl (i:=0) rfl (vs:=[.slice a1 t.nH c1,.slice a2 t.nW c2,.slice a3 t.m c3]) rfl rfl) (tm':=zq16 _) rfl ?_
  refine xbk (ms rfl rfl (dtt cc2)) (fun h_ H_=>xaq (v:=.int .i64 (y)) rfl) rfl ?_
  refine xiv (ms rfl rfl (dtt cc2)) (first:=[]) (cap:=[]) rfl rfl fC57 (fun h_ H_=>(c57 md _ _ H_.pe _ _ _ _ _ _ _ _ _ t (show TownP _ _ _ _ _ _ _ t from ⟨T.h,T.w,T.y⟩) (by omega) (y)).mono fun v_ h2_ ⟨e_,k_⟩=>⟨e_,H_.call k_⟩) (tm':=zq2 (zq16 _)) rfl ?_
  refine wo (xdz rfl (dtt cc2) (v:=.bool (decide (0≤y∧y≤(t.nW:Int)-1))) rfl) ?_
  refine xiz rfl ?_
  refine xeq mn (first:=[]) (cap:=[]) rfl rfl fC96 (fun h_ H_=>c96 md _ _ H_.pe _ _ _ _ _ _ _ _ _ t (show TownP _ _ _ _ _ _ _ t from ⟨T.h,T.w,T.y⟩) (by omega) (decide (0≤y∧y≤(t.nW:Int)-1))) (tm':=zq4 (zq16 _)) rfl ?_
  refine ro (xax (v:=.int .i64 (askB t (decide (0≤y∧y≤(t.nW:Int)-1)))) rfl) <| ren <| xbq <| ro (xaq (v:=.int .i64 (askB t (decide (0≤y∧y≤(t.nW:Int)-1)))) rfl) <| rt (xmk rfl rfl) (tm':=zq2 (zq4 (zq16 _))) rfl <| xak ?_
  by_cases cc3:askB t (decide (0≤y∧y≤(t.nW:Int)-1))≠0
  ·
   refine xdx rfl (dtt cc3) <| fsr <| ro (xaq (v:=.int .i64 (askB t (decide (0≤y∧y≤(t.nW:Int)-1)))) rfl) <| ro (xax (v:=.bool (false)) rfl) <| rt (xax (v:=.int .i64 (askB t (decide (0≤y∧y≤(t.nW:Int)-1)))) rfl) (tm':=zq8 _) rfl <| xak ?_
   refine xdv Tryd.func56 rfl (vs:=[.bool (false),.int .i64 (askB t (decide (0≤y∧y≤(t.nW:Int)-1)))]) (fun h_ H_=>⟨.bool (false),_,rfl,rfl,⟨.int .i64 (askB t (decide (0≤y∧y≤(t.nW:Int)-1))),_,rfl,rfl,rfl⟩⟩) (v:=.tuple #[.bool (false),.int .i64 (askB t (decide (0≤y∧y≤(t.nW:Int)-1)))]) rfl ?_
   have ha_:=yov (t:=t) (x:=x) (y:=y) ‹_›
   have hn_: ¬ wayA t x y=0:=by rw [ha_];assumption
   exact fun h_ H_=>K _ _ ⟨by rw [yvw hn_,yvv hn_,ha_],H_.kept⟩
  ·
   refine xck rfl (dff cc3) <| xcv <| xez ?_
   have ha0_:wayA t x y=0:=by rw [yov (by assumption)];omega
   obtain ⟨hc_,hx_,hy_⟩:=yow ha0_
   obtain ⟨h12,hV⟩:=zvz hc_
   have hO:OkT t:=xuz hc_
   have hP:=hc0 hc_
   have hPW:=hcW hx_ hy_
   refine xbq <| ro (xaq (v:=.int .i64 (x)) rfl) <| ro (xaq (v:=.int .i64 (y)) rfl) <| rt (xiq tZ43 tP43 (vs:=[(0,.int .i64 (x)),(1,.int .i64 (y))]) rfl (cells:=#[.int .i64 (x),.int .i64 (y)]) rfl) (tm':=zq4 (zq32 [])) rfl ?_
   refine xkx mn tZ43 rfl fun b4=>xcq (L':=[(b4,.cells #[.int .i64 0,.int .i64 0] 43 (0,0)),(b1,.cells #[.slice a1 t.nH c1,.slice a2 t.nW c2,.slice a3 t.m c3] 25 (0,0))]) rfl ?_
   refine xik mn tS43 rfl (v:=.agg #[.int .i64 (x),.int .i64 (y)]) rfl (i:=0) rfl rfl rfl (Nat.le_of_ble_eq_true rfl) (cs2:=[.int .i64 (x),.int .i64 (y)]) rfl (xcq (L':=[(b4,.cells #[.int .i64 (x),.int .i64 (y)] 43 (0,0)),(b1,.cells #[.slice a1 t.nH c1,.slice a2 t.nW c2,.slice a3 t.m c3] 25 (0,0))]) rfl ?_)
   refine ren <| fsr <| rd (fun h_ H_=>xav H_ tA25 tS25 rfl (i:=1) rfl (vs:=[.slice a1 t.nH c1,.slice a2 t.nW c2,.slice a3 t.m c3]) rfl rfl) ?_
   refine xbx mn (fun h_ H_=>xav H_ tA43 tS43 rfl (i:=0) rfl (vs:=[.int .i64 (x),.int .i64 (y)]) rfl rfl) (tm':=zq4 (zq32 [])) rfl ?_
   refine xeq mn (first:=[]) (cap:=[]) rfl rfl fC60 (fun h_ H_=>c60 md _ _ H_.pe _ _ _ _ _ _ _ _ _ t (show TownP _ _ _ _ _ _ _ t from ⟨T.h,T.w,T.y⟩) (by omega) (x) (y)) rfl ?_
   refine xak ?_
   by_cases cc5:((x,y):FWay)∈t.wy
   ·
    refine xdx rfl (dtt cc5) <| fsr <| ro (xax (v:=.bool (false)) rfl) <| rt (xax (v:=.int .i64 3) rfl) (tm':=zq8 _) rfl <| xak ?_
    refine xdv Tryd.func56 rfl (vs:=[.bool (false),.int .i64 3]) (fun h_ H_=>⟨.bool (false),_,rfl,rfl,⟨.int .i64 3,_,rfl,rfl,rfl⟩⟩) (v:=.tuple #[.bool (false),.int .i64 3]) rfl ?_
    exact fun h_ H_=>K _ _ ⟨by rw [znv ‹_›,znk ha0_ ‹_›],H_.kept⟩
   ·
    refine xck rfl (dff cc5) <| xcv <| xez ?_
    obtain ⟨Gw17,Gw18,Gw19,GX20,GX21,GX22,hG2_⟩:=sk6 (fun (v_:Value) (x_:Pcs) (w17:Value) (w18:Value) (w19:Value) (X20:Pcs) (X21:Pcs) (X22:Pcs)=>v_= .agg #[w17,w18,w19]∧(OwnS 3 1 w17 (ics (withT t (x,y)).hs) X20)∧(OwnS 3 1 w18 (ics (withT t (x,y)).ws) X21)∧(OwnS 43 2 w19 (wcs (withT t (x,y)).wy) X22)∧x_=(X22++(X20++(X21++[]))))
    obtain ⟨Gw26,GX27,hG3_⟩:=sk2 (fun (v_:Value) (x_:Pcs) (w26:Value) (X27:Pcs)=>v_=w26∧(OwnS 3 1 w26 (ics (LK (withT t (x,y)))) X27)∧x_=(X27++[]))
    refine xxv (xlx (C:=[]) (A:=([(b4,.cells #[.int .i64 (x),.int .i64 (y)] 43 (0,0)),(b1,.cells #[.slice a1 t.nH c1,.slice a2 t.nW c2,.slice a3 t.m c3] 25 (0,0))]:Pcs)) 5 [[],[],[0,1],[0,1,2],[],[0,1,2,4],[],[],[]] [] [3] [0,1,4] (fun _=>[]) (fun i_=>match i_ with | 3=>[2] | _=>[]) (fun i_=>match i_ with | 0=>[] | 1=>[] | 2=>[0,1] | 3=>[2] | 4=>[] | _=>[]) (fun i_ val_ pc_ v_ x_=>match i_ with | 0=>v_= .agg #[.slice a1 t.nH c1,.slice a2 t.nW c2,.slice a3 t.m c3]∧x_=[] | 1=>v_= .agg #[.int .i64 (x),.int .i64 (y)]∧x_=[] | 2=>∃ w17:Value,∃ w18:Value,∃ w19:Value,∃ X20:Pcs,∃ X21:Pcs,∃ X22:Pcs,v_= .agg #[w17,w18,w19]∧(OwnS 3 1 w17 (ics (withT t (x,y)).hs) X20)∧(OwnS 3 1 w18 (ics (withT t (x,y)).ws) X21)∧(OwnS 43 2 w19 (wcs (withT t (x,y)).wy) X22)∧x_=(X22++(X20++(X21++[]))) | 3=>∃ w26:Value,∃ X27:Pcs,v_=w26∧(OwnS 3 1 w26 (ics (LK (withT t (x,y)))) X27)∧x_=(X27++[]) | 4=>v_= .agg #[.slice a1 t.nH c1,.slice a2 t.nW c2,.slice a3 t.m c3]∧x_=[] | _=>True) (fun val15=>[.agg #[.slice a1 t.nH c1,.slice a2 t.nW c2,.slice a3 t.m c3],.int .i64 (x),.int .i64 (y),.pointer (some ⟨b1,0,none⟩),undef,undef,.bool (false),.int .i64 0,.int .i64 (askB t (decide (0≤y∧y≤(t.nW:Int)-1))),.pointer (some ⟨b4,0,none⟩),.agg #[.slice a1 t.nH c1,.slice a2 t.nW c2,.slice a3 t.m c3],.agg #[.slice a1 t.nH c1,.slice a2 t.nW c2,.slice a3 t.m c3],.int .i64 (x),.bool (decide (0≤x∧x≤(t.nH:Int)-1)),.bool (decide (0≤x∧x≤(t.nH:Int)-1)),.agg #[.slice a1 t.nH c1,.slice a2 t.nW c2,.slice a3 t.m c3],.int .i64 (y),.bool (decide (0≤y∧y≤(t.nW:Int)-1)),.bool (decide (0≤y∧y≤(t.nW:Int)-1)),.int .i64 (askB t (decide (0≤y∧y≤(t.nW:Int)-1))),.int .i64 (askB t (decide (0≤y∧y≤(t.nW:Int)-1))),.bool (decide (askB t (decide (0≤y∧y≤(t.nW:Int)-1))≠0)),undef,.int .i64 (x),.int .i64 (y),.agg #[.int .i64 (x),.int .i64 (y)],.agg #[.slice a1 t.nH c1,.slice a2 t.nW c2,.slice a3 t.m c3],.agg #[.int .i64 (x),.int .i64 (y)],.bool (decide (((x,y):FWay)∈t.wy)),(val15 0),(val15 1),(val15 2),(val15 3),(val15 4),undef,undef]) xkk (by kernel_rfl) (Nat.le_of_ble_eq_true rfl) (by kernel_rfl) (by kernel_rfl) (by kernel_rfl) (fun _ _=>⟨fun _ _ h=>h.2,⟨fun _ _ h=>h.2,⟨fun _ _ h=>h.2,trivial⟩⟩⟩) (fun _=>by kernel_rfl) (by kernel_rfl) ?_ ?_) (fun h_ H_=>St.swap (A:=([(b4,.cells #[.int .i64 (x),.int .i64 (y)] 43 (0,0)),(b1,.cells #[.slice a1 t.nH c1,.slice a2 t.nW c2,.slice a3 t.m c3] 25 (0,0))]:Pcs)) (U:=[]) H_)
    ·
     refine xaw rfl (xdk ?_) ?_
     ·
      intro val15 pc16 hQ_ hX_
      obtain ⟨q_,hq0_⟩: ∃ q_:Value→Pcs→Prop,q_=(fun v_ x_=>v_= .agg #[.slice a1 t.nH c1,.slice a2 t.nW c2,.slice a3 t.m c3]∧x_=[]):=⟨_,rfl⟩
      refine ⟨(zq4 (zq32 [])),[],q_,rfl,rfl,(fun _ _ z_=>by subst hq0_;exact z_),?_⟩
      subst hq0_
      exact xdw mn (fun _ h_ H_=>xav H_ tA25 tS25 rfl (i:=1) rfl (vs:=[.slice a1 t.nH c1,.slice a2 t.nW c2,.slice a3 t.m c3]) rfl rfl) ⟨rfl,rfl⟩
     refine xaw rfl (xdk ?_) ?_
     ·
      intro val15 pc16 hQ_ hX_
      obtain ⟨q_,hq0_⟩: ∃ q_:Value→Pcs→Prop,q_=(fun v_ x_=>v_= .agg #[.int .i64 (x),.int .i64 (y)]∧x_=[]):=⟨_,rfl⟩
      refine ⟨(zq4 (zq32 [])),[],q_,rfl,rfl,(fun _ _ z_=>by subst hq0_;exact z_),?_⟩
      subst hq0_
      exact xdw mn (fun _ h_ H_=>xav H_ tA43 tS43 rfl (i:=0) rfl (vs:=[.int .i64 (x),.int .i64 (y)]) rfl rfl) ⟨rfl,rfl⟩
     refine xaw rfl (xdk ?_) ?_
     ·
      intro val15 pc16 hQ_ hX_
      have e0_:val15 0= .agg #[.slice a1 t.nH c1,.slice a2 t.nW c2,.slice a3 t.m c3]:=(hQ_ 0 rfl).1
      have e1_:val15 1= .agg #[.int .i64 (x),.int .i64 (y)]:=(hQ_ 1 rfl).1
      obtain ⟨q_,hq0_⟩: ∃ q_:Value→Pcs→Prop,q_=(fun v_ x_=>∃ w17:Value,∃ w18:Value,∃ w19:Value,∃ X20:Pcs,∃ X21:Pcs,∃ X22:Pcs,v_= .agg #[w17,w18,w19]∧(OwnS 3 1 w17 (ics (withT t (x,y)).hs) X20)∧(OwnS 3 1 w18 (ics (withT t (x,y)).ws) X21)∧(OwnS 43 2 w19 (wcs (withT t (x,y)).wy) X22)∧x_=(X22++(X20++(X21++[])))):=⟨_,rfl⟩
      refine ⟨(zq4 (zq32 [])),[],q_,(by rw [e0_,e1_]),rfl,(fun _ _ z_=>by subst hq0_;exact z_),?_⟩
      subst hq0_
      exact xok mn (first:=[]) (cap:=[]) rfl rfl fC26 (fun _ h_ H_=>(c26 md _ _ H_.pe _ _ _ _ _ _ t (show TownP _ _ _ _ _ _ _ t from ⟨T.h,T.w,T.y⟩) (by omega) (x) (y)).mono fun v_ h2_ ⟨w17,w18,w19,X20,X21,X22,e_,o23,o24,o25,N_⟩=>⟨_,⟨w17,w18,w19,X20,X21,X22,e_,o23,o24,o25,rfl⟩,H_.callN N_⟩)
     refine xaw rfl (xdk ?_) ?_
     ·
      intro val15 pc16 hQ_ hX_
      obtain ⟨e2_,o23,o24,o25,x2_⟩:=hG2_ _ _ (hQ_ 2 rfl)
      generalize hg_w17:Gw17 (val15 2) (pc16 2)=w17 at*
      generalize hg_w18:Gw18 (val15 2) (pc16 2)=w18 at*
      generalize hg_w19:Gw19 (val15 2) (pc16 2)=w19 at*
      generalize hg_X20:GX20 (val15 2) (pc16 2)=X20 at*
      generalize hg_X21:GX21 (val15 2) (pc16 2)=X21 at*
      generalize hg_X22:GX22 (val15 2) (pc16 2)=X22 at*
      obtain ⟨q_,hq0_⟩: ∃ q_:Value→Pcs→Prop,q_=(fun v_ x_=>∃ w26:Value,∃ X27:Pcs,v_=w26∧(OwnS 3 1 w26 (ics (LK (withT t (x,y)))) X27)∧x_=(X27++[])):=⟨_,rfl⟩
      refine ⟨(zq4 (zq32 [])),((X22++(X20++(X21++[])))++[]),q_,(by rw [e2_]),(by rw [← x2_];rfl),(fun _ _ z_=>by subst hq0_ hg_w17 hg_w18 hg_w19 hg_X20 hg_X21 hg_X22;exact z_),?_⟩
      subst hq0_
      exact xok mn (first:=[]) (cap:=[]) rfl rfl fC82 (fun _ h_ H_=>wgx o23 o24 o25 (fun x_ hx_=>by simp at hx_ ⊢;rcases hx_ with hx_ | hx_ | hx_ <;> simp [hx_]) ⟨hn.1,hn.2.1,by rw [ziw];omega⟩ (yok hO h12 (by omega) (by omega)) (hPW hc_) H_)
     refine xaw rfl (xdk ?_) ?_
     ·
      intro val15 pc16 hQ_ hX_
      obtain ⟨q_,hq0_⟩: ∃ q_:Value→Pcs→Prop,q_=(fun v_ x_=>v_= .agg #[.slice a1 t.nH c1,.slice a2 t.nW c2,.slice a3 t.m c3]∧x_=[]):=⟨_,rfl⟩
      refine ⟨(zq4 (zq32 [])),[],q_,rfl,rfl,(fun _ _ z_=>by subst hq0_;exact z_),?_⟩
      subst hq0_
      exact xdw mn (fun _ h_ H_=>xav H_ tA25 tS25 rfl (i:=1) rfl (vs:=[.slice a1 t.nH c1,.slice a2 t.nW c2,.slice a3 t.m c3]) rfl rfl) ⟨rfl,rfl⟩
     exact xlq rfl
    intro val15 pc16 hQ_ hX_
    have e0_:val15 0= .agg #[.slice a1 t.nH c1,.slice a2 t.nW c2,.slice a3 t.m c3]:=(hQ_ 0 (by decide)).1
    have e1_:val15 1= .agg #[.int .i64 (x),.int .i64 (y)]:=(hQ_ 1 (by decide)).1
    obtain ⟨e2_,o23,o24,o25,x2_⟩:=hG2_ _ _ (hQ_ 2 (by decide))
    obtain ⟨e3_,o28,x3_⟩:=hG3_ _ _ (hQ_ 3 (by decide))
    have e4_:val15 4= .agg #[.slice a1 t.nH c1,.slice a2 t.nW c2,.slice a3 t.m c3]:=(hQ_ 4 (by decide)).1
    clear hQ_ hX_
    generalize Gw17 (val15 2) (pc16 2)=w17 at*
    generalize Gw18 (val15 2) (pc16 2)=w18 at*
    generalize Gw19 (val15 2) (pc16 2)=w19 at*
    generalize GX20 (val15 2) (pc16 2)=X20 at*
    generalize GX21 (val15 2) (pc16 2)=X21 at*
    generalize GX22 (val15 2) (pc16 2)=X22 at*
    generalize Gw26 (val15 3) (pc16 3)=w26 at*
    generalize GX27 (val15 3) (pc16 3)=X27 at*
    refine xww (Φ:=fun h_=>St h [] p h_ (([(b4,.cells #[.int .i64 (x),.int .i64 (y)] 43 (0,0)),(b1,.cells #[.slice a1 t.nH c1,.slice a2 t.nW c2,.slice a3 t.m c3] 25 (0,0))]:Pcs)++(pc16 3++[]))) ?_ (fun h_ H_=>H_.swap')
    rw [x3_]
    refine xcq (L':=([(b4,.cells #[.int .i64 (x),.int .i64 (y)] 43 (0,0)),(b1,.cells #[.slice a1 t.nH c1,.slice a2 t.nW c2,.slice a3 t.m c3] 25 (0,0))]:Pcs)++(X27++[])) (by simp) ?_
    refine xfj (tm':=(zq4 (zq32 []))) (by rw [e0_,e1_,e2_,e3_,e4_]) ?_
    refine xiw mn (first:=[]) (cap:=[]) rfl rfl fC82 (R:=fun v_ h_=>∃ w31:Value,∃ X32:Pcs,v_=w31∧(OwnS 3 1 w31 (ics (LK t)) X32)∧St h [] p h_ (([(b4,.cells #[.int .i64 (x),.int .i64 (y)] 43 (0,0)),(b1,.cells #[.slice a1 t.nH c1,.slice a2 t.nW c2,.slice a3 t.m c3] 25 (0,0))]:Pcs)++(X32++(X27++[])))) (fun h_ H_=>(c82 md _ _ H_.pe _ _ _ _ _ _ t (show TownP _ _ _ _ _ _ _ t from ⟨T.h,T.w,T.y⟩) (by omega) hO hP).mono fun v_ h2_ ⟨w31,X32,e_,o33,N_⟩=>⟨w31,X32,e_,o33,H_.callNA N_⟩) fun v_=>?_
    refine xgz fun w31=>xgz fun X32=>xfq fun ev_=>xfq fun o33=>?_
    have ev_:=ev_.symm;subst ev_
    refine xcq (L':=([(b4,.cells #[.int .i64 (x),.int .i64 (y)] 43 (0,0)),(b1,.cells #[.slice a1 t.nH c1,.slice a2 t.nW c2,.slice a3 t.m c3] 25 (0,0))]:Pcs)++(X32++(X27++[]))) rfl ?_
    refine xfj (tm':=zq4 (zq32 [])) rfl ?_
    refine xeq mn (first:=[]) (cap:=[]) rfl rfl fC59 (fun h_ H_=>show CallsX Tryd.prog md 59 #[w26,w31] h_ (fun v_ h2_=>v_= .bool (decide (earlier (LK (withT t (x,y))) (LK t)=true))∧Keep h_ h2_) from zyq (n:=t.nH) (n':=t.nH) o28 ((xcw _).trans (xxk _)) o33 ((xcw _).trans (xxk _)) H_ (fun x_ h_=>by simp at h_ ⊢;rcases h_ with h_ | h_ <;> simp [h_]) fun p_ a_ c_ a2_ c2_ hp_ le_ hv_ hv2_ D_ D2_=>by rw [hv_,hv2_];exact zaw md hp_ (show Ints _ _ _ (LK (withT t (x,y))) from D_) (show Ints _ _ _ (LK t) from D2_) (by omega)) rfl ?_
    refine ro (xax (v:=.bool (decide (earlier (LK (withT t (x,y))) (LK t)=true))) rfl) <| rt (xax (v:=.int .i64 0) rfl) (tm':=zq8 _) rfl <| xak ?_
    refine xdv Tryd.func56 rfl (vs:=[.bool (decide (earlier (LK (withT t (x,y))) (LK t)=true)),.int .i64 0]) (fun h_ H_=>⟨.bool (decide (earlier (LK (withT t (x,y))) (LK t)=true)),_,rfl,rfl,⟨.int .i64 0,_,rfl,rfl,rfl⟩⟩) (v:=.tuple #[.bool (decide (earlier (LK (withT t (x,y))) (LK t)=true)),.int .i64 0]) rfl ?_
    exact fun h_ H_=>K _ _ ⟨by rw [wuv hO h12 ha0_ ‹_›,zbv ha0_ ‹_›],H_.kept⟩
 ·
  refine xgx 9 [[],[],[],[1,2],[1,2,3],[],[1,2,3],[1,2,3,5,6],[1,2,3,4,5,6],[],[]] xkk (by kernel_rfl) (Nat.le_of_ble_eq_true rfl) ?_
  refine xbk mn (fun h_ H_=>xav H_ tA25 tS25 rfl (i:=0) rfl (vs:=[.slice a1 t.nH c1,.slice a2 t.nW c2,.slice a3 t.m c3]) rfl rfl) (tm':=zq1 (zq2 (zq8 _))) rfl ?_
  refine wd (fun h_ H_=>xav H_ tA25 tS25 rfl (i:=0) rfl (vs:=[.slice a1 t.nH c1,.slice a2 t.nW c2,.slice a3 t.m c3]) rfl rfl) <| wt (xaq (v:=.int .i64 (x)) rfl) (tm':=zq1 (zq4 (zq8 _))) rfl ?_
  refine xiv mn (first:=[]) (cap:=[]) rfl rfl fC33 (fun h_ H_=>(c33 md _ _ H_.pe _ _ _ _ _ _ _ _ _ t (show TownP _ _ _ _ _ _ _ t from ⟨T.h,T.w,T.y⟩) (by omega) (x)).mono fun v_ h2_ ⟨e_,k_⟩=>⟨e_,H_.call k_⟩) rfl ?_
  refine wt (xaq (v:=.bool (decide (0≤x∧x≤(t.nH:Int)-1))) rfl) (tm':=zq1 (zq2 (zq4 (zq8 _)))) rfl <| wp (mo rfl rfl (dff cc2)) <| xex (mo rfl rfl (dff cc2)) (tm':=zq1 (zq16 _)) rfl <| wp (mo rfl rfl (dff cc2)) <| wt (xej rfl (dff cc2) (v:=.bool (false)) rfl) (tm':=zq1 (zq2 (zq16 _))) rfl ?_
  refine xiz rfl ?_
  refine xeq mn (first:=[]) (cap:=[]) rfl rfl fC96 (fun h_ H_=>c96 md _ _ H_.pe _ _ _ _ _ _ _ _ _ t (show TownP _ _ _ _ _ _ _ t from ⟨T.h,T.w,T.y⟩) (by omega) false) rfl ?_
  refine ro (xax (v:=.int .i64 (askB t false)) rfl) <| ren <| xbq <| rt (xaq (v:=.int .i64 (askB t false)) rfl) (tm':=zq1 (zq4 (zq16 _))) rfl <| ro (xmk rfl rfl) <| xak ?_
  by_cases cc34:askB t false≠0
  ·
   refine xdx rfl (dtt cc34) <| fsr <| ro (xaq (v:=.int .i64 (askB t false)) rfl) <| rt (xax (v:=.bool (false)) rfl) (tm':=zq1 (zq2 (zq4 _))) rfl <| ro (xax (v:=.int .i64 (askB t false)) rfl) <| xak ?_
   refine xdv Tryd.func56 rfl (vs:=[.bool (false),.int .i64 (askB t false)]) (fun h_ H_=>⟨.bool (false),_,rfl,rfl,⟨.int .i64 (askB t false),_,rfl,rfl,rfl⟩⟩) (v:=.tuple #[.bool (false),.int .i64 (askB t false)]) rfl ?_
   have ha_:=zoq (t:=t) (x:=x) (y:=y) ‹_›
   have hn_: ¬ wayA t x y=0:=by rw [ha_];assumption
   exact fun h_ H_=>K _ _ ⟨by rw [yvw hn_,yvv hn_,ha_],H_.kept⟩
  ·
   refine xck rfl (dff cc34) <| xcv <| xez ?_
   have ha0_:wayA t x y=0:=by rw [zoq (by assumption)];omega
   obtain ⟨hc_,hx_,hy_⟩:=yow ha0_
   obtain ⟨h12,hV⟩:=zvz hc_
   have hO:OkT t:=xuz hc_
   have hP:=hc0 hc_
   have hPW:=hcW hx_ hy_
   refine xbq <| ro (xaq (v:=.int .i64 (x)) rfl) <| rt (xaq (v:=.int .i64 (y)) rfl) (tm':=zq4 (zq32 [])) rfl <| ro (xiq tZ43 tP43 (vs:=[(0,.int .i64 (x)),(1,.int .i64 (y))]) rfl (cells:=#[.int .i64 (x),.int .i64 (y)]) rfl) ?_
   refine xkx mn tZ43 rfl fun b35=>xcq (L':=[(b35,.cells #[.int .i64 0,.int .i64 0] 43 (0,0)),(b1,.cells #[.slice a1 t.nH c1,.slice a2 t.nW c2,.slice a3 t.m c3] 25 (0,0))]) rfl ?_
   refine xik mn tS43 rfl (v:=.agg #[.int .i64 (x),.int .i64 (y)]) rfl (i:=0) rfl rfl rfl (Nat.le_of_ble_eq_true rfl) (cs2:=[.int .i64 (x),.int .i64 (y)]) rfl (xcq (L':=[(b35,.cells #[.int .i64 (x),.int .i64 (y)] 43 (0,0)),(b1,.cells #[.slice a1 t.nH c1,.slice a2 t.nW c2,.slice a3 t.m c3] 25 (0,0))]) rfl ?_)
   refine ren <| fsr ?_
   refine xbx mn (fun h_ H_=>xav H_ tA25 tS25 rfl (i:=1) rfl (vs:=[.slice a1 t.nH c1,.slice a2 t.nW c2,.slice a3 t.m c3]) rfl rfl) (tm':=zq4 (zq32 [])) rfl ?_
   refine rd (fun h_ H_=>xav H_ tA43 tS43 rfl (i:=0) rfl (vs:=[.int .i64 (x),.int .i64 (y)]) rfl rfl) ?_
   refine xeq mn (first:=[]) (cap:=[]) rfl rfl fC60 (fun h_ H_=>c60 md _ _ H_.pe _ _ _ _ _ _ _ _ _ t (show TownP _ _ _ _ _ _ _ t from ⟨T.h,T.w,T.y⟩) (by omega) (x) (y)) rfl ?_
   refine xak ?_
   by_cases cc36:((x,y):FWay)∈t.wy
   ·
    refine xdx rfl (dtt cc36) <| fsr <| rt (xax (v:=.bool (false)) rfl) (tm':=zq1 (zq2 (zq4 _))) rfl <| ro (xax (v:=.int .i64 3) rfl) <| xak ?_
    refine xdv Tryd.func56 rfl (vs:=[.bool (false),.int .i64 3]) (fun h_ H_=>⟨.bool (false),_,rfl,rfl,⟨.int .i64 3,_,rfl,rfl,rfl⟩⟩) (v:=.tuple #[.bool (false),.int .i64 3]) rfl ?_
    exact fun h_ H_=>K _ _ ⟨by rw [znv ‹_›,znk ha0_ ‹_›],H_.kept⟩
   ·
    refine xck rfl (dff cc36) <| xcv <| xez ?_
    obtain ⟨Gw48,Gw49,Gw50,GX51,GX52,GX53,hG2_⟩:=sk6 (fun (v_:Value) (x_:Pcs) (w48:Value) (w49:Value) (w50:Value) (X51:Pcs) (X52:Pcs) (X53:Pcs)=>v_= .agg #[w48,w49,w50]∧(OwnS 3 1 w48 (ics (withT t (x,y)).hs) X51)∧(OwnS 3 1 w49 (ics (withT t (x,y)).ws) X52)∧(OwnS 43 2 w50 (wcs (withT t (x,y)).wy) X53)∧x_=(X53++(X51++(X52++[]))))
    obtain ⟨Gw57,GX58,hG3_⟩:=sk2 (fun (v_:Value) (x_:Pcs) (w57:Value) (X58:Pcs)=>v_=w57∧(OwnS 3 1 w57 (ics (LK (withT t (x,y)))) X58)∧x_=(X58++[]))
    refine xxv (xlx (C:=[]) (A:=([(b35,.cells #[.int .i64 (x),.int .i64 (y)] 43 (0,0)),(b1,.cells #[.slice a1 t.nH c1,.slice a2 t.nW c2,.slice a3 t.m c3] 25 (0,0))]:Pcs)) 5 [[],[],[0,1],[0,1,2],[],[0,1,2,4],[],[],[]] [] [3] [0,1,4] (fun _=>[]) (fun i_=>match i_ with | 3=>[2] | _=>[]) (fun i_=>match i_ with | 0=>[] | 1=>[] | 2=>[0,1] | 3=>[2] | 4=>[] | _=>[]) (fun i_ val_ pc_ v_ x_=>match i_ with | 0=>v_= .agg #[.slice a1 t.nH c1,.slice a2 t.nW c2,.slice a3 t.m c3]∧x_=[] | 1=>v_= .agg #[.int .i64 (x),.int .i64 (y)]∧x_=[] | 2=>∃ w48:Value,∃ w49:Value,∃ w50:Value,∃ X51:Pcs,∃ X52:Pcs,∃ X53:Pcs,v_= .agg #[w48,w49,w50]∧(OwnS 3 1 w48 (ics (withT t (x,y)).hs) X51)∧(OwnS 3 1 w49 (ics (withT t (x,y)).ws) X52)∧(OwnS 43 2 w50 (wcs (withT t (x,y)).wy) X53)∧x_=(X53++(X51++(X52++[]))) | 3=>∃ w57:Value,∃ X58:Pcs,v_=w57∧(OwnS 3 1 w57 (ics (LK (withT t (x,y)))) X58)∧x_=(X58++[]) | 4=>v_= .agg #[.slice a1 t.nH c1,.slice a2 t.nW c2,.slice a3 t.m c3]∧x_=[] | _=>True) (fun val46=>[.agg #[.slice a1 t.nH c1,.slice a2 t.nW c2,.slice a3 t.m c3],.int .i64 (x),.int .i64 (y),.pointer (some ⟨b1,0,none⟩),undef,undef,.bool (false),.int .i64 0,.int .i64 (askB t false),.pointer (some ⟨b35,0,none⟩),.agg #[.slice a1 t.nH c1,.slice a2 t.nW c2,.slice a3 t.m c3],.agg #[.slice a1 t.nH c1,.slice a2 t.nW c2,.slice a3 t.m c3],.int .i64 (x),.bool (decide (0≤x∧x≤(t.nH:Int)-1)),.bool (decide (0≤x∧x≤(t.nH:Int)-1)),undef,undef,undef,.bool (false),.int .i64 (askB t false),.int .i64 (askB t false),.bool (decide (askB t false≠0)),undef,.int .i64 (x),.int .i64 (y),.agg #[.int .i64 (x),.int .i64 (y)],.agg #[.slice a1 t.nH c1,.slice a2 t.nW c2,.slice a3 t.m c3],.agg #[.int .i64 (x),.int .i64 (y)],.bool (decide (((x,y):FWay)∈t.wy)),(val46 0),(val46 1),(val46 2),(val46 3),(val46 4),undef,undef]) xkk (by kernel_rfl) (Nat.le_of_ble_eq_true rfl) (by kernel_rfl) (by kernel_rfl) (by kernel_rfl) (fun _ _=>⟨fun _ _ h=>h.2,⟨fun _ _ h=>h.2,⟨fun _ _ h=>h.2,trivial⟩⟩⟩) (fun _=>by kernel_rfl) (by kernel_rfl) ?_ ?_) (fun h_ H_=>St.swap (A:=([(b35,.cells #[.int .i64 (x),.int .i64 (y)] 43 (0,0)),(b1,.cells #[.slice a1 t.nH c1,.slice a2 t.nW c2,.slice a3 t.m c3] 25 (0,0))]:Pcs)) (U:=[]) H_)
    ·
     refine xaw rfl (xdk ?_) ?_
     ·
      intro val46 pc47 hQ_ hX_
      obtain ⟨q_,hq0_⟩: ∃ q_:Value→Pcs→Prop,q_=(fun v_ x_=>v_= .agg #[.slice a1 t.nH c1,.slice a2 t.nW c2,.slice a3 t.m c3]∧x_=[]):=⟨_,rfl⟩
      refine ⟨(zq4 (zq32 [])),[],q_,rfl,rfl,(fun _ _ z_=>by subst hq0_;exact z_),?_⟩
      subst hq0_
      exact xdw mn (fun _ h_ H_=>xav H_ tA25 tS25 rfl (i:=1) rfl (vs:=[.slice a1 t.nH c1,.slice a2 t.nW c2,.slice a3 t.m c3]) rfl rfl) ⟨rfl,rfl⟩
     refine xaw rfl (xdk ?_) ?_
     ·
      intro val46 pc47 hQ_ hX_
      obtain ⟨q_,hq0_⟩: ∃ q_:Value→Pcs→Prop,q_=(fun v_ x_=>v_= .agg #[.int .i64 (x),.int .i64 (y)]∧x_=[]):=⟨_,rfl⟩
      refine ⟨(zq4 (zq32 [])),[],q_,rfl,rfl,(fun _ _ z_=>by subst hq0_;exact z_),?_⟩
      subst hq0_
      exact xdw mn (fun _ h_ H_=>xav H_ tA43 tS43 rfl (i:=0) rfl (vs:=[.int .i64 (x),.int .i64 (y)]) rfl rfl) ⟨rfl,rfl⟩
     refine xaw rfl (xdk ?_) ?_
     ·
      intro val46 pc47 hQ_ hX_
      have e0_:val46 0= .agg #[.slice a1 t.nH c1,.slice a2 t.nW c2,.slice a3 t.m c3]:=(hQ_ 0 rfl).1
      have e1_:val46 1= .agg #[.int .i64 (x),.int .i64 (y)]:=(hQ_ 1 rfl).1
      obtain ⟨q_,hq0_⟩: ∃ q_:Value→Pcs→Prop,q_=(fun v_ x_=>∃ w48:Value,∃ w49:Value,∃ w50:Value,∃ X51:Pcs,∃ X52:Pcs,∃ X53:Pcs,v_= .agg #[w48,w49,w50]∧(OwnS 3 1 w48 (ics (withT t (x,y)).hs) X51)∧(OwnS 3 1 w49 (ics (withT t (x,y)).ws) X52)∧(OwnS 43 2 w50 (wcs (withT t (x,y)).wy) X53)∧x_=(X53++(X51++(X52++[])))):=⟨_,rfl⟩
      refine ⟨(zq4 (zq32 [])),[],q_,(by rw [e0_,e1_]),rfl,(fun _ _ z_=>by subst hq0_;exact z_),?_⟩
      subst hq0_
      exact xok mn (first:=[]) (cap:=[]) rfl rfl fC26 (fun _ h_ H_=>(c26 md _ _ H_.pe _ _ _ _ _ _ t (show TownP _ _ _ _ _ _ _ t from ⟨T.h,T.w,T.y⟩) (by omega) (x) (y)).mono fun v_ h2_ ⟨w48,w49,w50,X51,X52,X53,e_,o54,o55,o56,N_⟩=>⟨_,⟨w48,w49,w50,X51,X52,X53,e_,o54,o55,o56,rfl⟩,H_.callN N_⟩)
     refine xaw rfl (xdk ?_) ?_
     ·
      intro val46 pc47 hQ_ hX_
      obtain ⟨e2_,o54,o55,o56,x2_⟩:=hG2_ _ _ (hQ_ 2 rfl)
      generalize hg_w48:Gw48 (val46 2) (pc47 2)=w48 at*
      generalize hg_w49:Gw49 (val46 2) (pc47 2)=w49 at*
      generalize hg_w50:Gw50 (val46 2) (pc47 2)=w50 at*
      generalize hg_X51:GX51 (val46 2) (pc47 2)=X51 at*
      generalize hg_X52:GX52 (val46 2) (pc47 2)=X52 at*
      generalize hg_X53:GX53 (val46 2) (pc47 2)=X53 at*
      obtain ⟨q_,hq0_⟩: ∃ q_:Value→Pcs→Prop,q_=(fun v_ x_=>∃ w57:Value,∃ X58:Pcs,v_=w57∧(OwnS 3 1 w57 (ics (LK (withT t (x,y)))) X58)∧x_=(X58++[])):=⟨_,rfl⟩
      refine ⟨(zq4 (zq32 [])),((X53++(X51++(X52++[])))++[]),q_,(by rw [e2_]),(by rw [← x2_];rfl),(fun _ _ z_=>by subst hq0_ hg_w48 hg_w49 hg_w50 hg_X51 hg_X52 hg_X53;exact z_),?_⟩
      subst hq0_
      exact xok mn (first:=[]) (cap:=[]) rfl rfl fC82 (fun _ h_ H_=>wgx o54 o55 o56 (fun x_ hx_=>by simp at hx_ ⊢;rcases hx_ with hx_ | hx_ | hx_ <;> simp [hx_]) ⟨hn.1,hn.2.1,by rw [ziw];omega⟩ (yok hO h12 (by omega) (by omega)) (hPW hc_) H_)
     refine xaw rfl (xdk ?_) ?_
     ·
      intro val46 pc47 hQ_ hX_
      obtain ⟨q_,hq0_⟩: ∃ q_:Value→Pcs→Prop,q_=(fun v_ x_=>v_= .agg #[.slice a1 t.nH c1,.slice a2 t.nW c2,.slice a3 t.m c3]∧x_=[]):=⟨_,rfl⟩
      refine ⟨(zq4 (zq32 [])),[],q_,rfl,rfl,(fun _ _ z_=>by subst hq0_;exact z_),?_⟩
      subst hq0_
      exact xdw mn (fun _ h_ H_=>xav H_ tA25 tS25 rfl (i:=1) rfl (vs:=[.slice a1 t.nH c1,.slice a2 t.nW c2,.slice a3 t.m c3]) rfl rfl) ⟨rfl,rfl⟩
     exact xlq rfl
    intro val46 pc47 hQ_ hX_
    have e0_:val46 0= .agg #[.slice a1 t.nH c1,.slice a2 t.nW c2,.slice a3 t.m c3]:=(hQ_ 0 (by decide)).1
    have e1_:val46 1= .agg #[.int .i64 (x),.int .i64 (y)]:=(hQ_ 1 (by decide)).1
    obtain ⟨e2_,o54,o55,o56,x2_⟩:=hG2_ _ _ (hQ_ 2 (by decide))
    obtain ⟨e3_,o59,x3_⟩:=hG3_ _ _ (hQ_ 3 (by decide))
    have e4_:val46 4= .agg #[.slice a1 t.nH c1,.slice a2 t.nW c2,.slice a3 t.m c3]:=(hQ_ 4 (by decide)).1
    clear hQ_ hX_
    generalize Gw48 (val46 2) (pc47 2)=w48 at*
    generalize Gw49 (val46 2) (pc47 2)=w49 at*
    generalize Gw50 (val46 2) (pc47 2)=w50 at*
    generalize GX51 (val46 2) (pc47 2)=X51 at*
    generalize GX52 (val46 2) (pc47 2)=X52 at*
    generalize GX53 (val46 2) (pc47 2)=X53 at*
    generalize Gw57 (val46 3) (pc47 3)=w57 at*
    generalize GX58 (val46 3) (pc47 3)=X58 at*
    refine xww (Φ:=fun h_=>St h [] p h_ (([(b35,.cells #[.int .i64 (x),.int .i64 (y)] 43 (0,0)),(b1,.cells #[.slice a1 t.nH c1,.slice a2 t.nW c2,.slice a3 t.m c3] 25 (0,0))]:Pcs)++(pc47 3++[]))) ?_ (fun h_ H_=>H_.swap')
    rw [x3_]
    refine xcq (L':=([(b35,.cells #[.int .i64 (x),.int .i64 (y)] 43 (0,0)),(b1,.cells #[.slice a1 t.nH c1,.slice a2 t.nW c2,.slice a3 t.m c3] 25 (0,0))]:Pcs)++(X58++[])) (by simp) ?_
    refine xfj (tm':=(zq4 (zq32 []))) (by rw [e0_,e1_,e2_,e3_,e4_]) ?_
    refine xiw mn (first:=[]) (cap:=[]) rfl rfl fC82 (R:=fun v_ h_=>∃ w62:Value,∃ X63:Pcs,v_=w62∧(OwnS 3 1 w62 (ics (LK t)) X63)∧St h [] p h_ (([(b35,.cells #[.int .i64 (x),.int .i64 (y)] 43 (0,0)),(b1,.cells #[.slice a1 t.nH c1,.slice a2 t.nW c2,.slice a3 t.m c3] 25 (0,0))]:Pcs)++(X63++(X58++[])))) (fun h_ H_=>(c82 md _ _ H_.pe _ _ _ _ _ _ t (show TownP _ _ _ _ _ _ _ t from ⟨T.h,T.w,T.y⟩) (by omega) hO hP).mono fun v_ h2_ ⟨w62,X63,e_,o64,N_⟩=>⟨w62,X63,e_,o64,H_.callNA N_⟩) fun v_=>?_
    refine xgz fun w62=>xgz fun X63=>xfq fun ev_=>xfq fun o64=>?_
    have ev_:=ev_.symm;subst ev_
    refine xcq (L':=([(b35,.cells #[.int .i64 (x),.int .i64 (y)] 43 (0,0)),(b1,.cells #[.slice a1 t.nH c1,.slice a2 t.nW c2,.slice a3 t.m c3] 25 (0,0))]:Pcs)++(X63++(X58++[]))) rfl ?_
    refine xeq mn (first:=[]) (cap:=[]) rfl rfl fC59 (fun h_ H_=>show CallsX Tryd.prog md 59 #[w57,w62] h_ (fun v_ h2_=>v_= .bool (decide (earlier (LK (withT t (x,y))) (LK t)=true))∧Keep h_ h2_) from zyq (n:=t.nH) (n':=t.nH) o59 ((xcw _).trans (xxk _)) o64 ((xcw _).trans (xxk _)) H_ (fun x_ h_=>by simp at h_ ⊢;rcases h_ with h_ | h_ <;> simp [h_]) fun p_ a_ c_ a2_ c2_ hp_ le_ hv_ hv2_ D_ D2_=>by rw [hv_,hv2_];exact zaw md hp_ (show Ints _ _ _ (LK (withT t (x,y))) from D_) (show Ints _ _ _ (LK t) from D2_) (by omega)) rfl ?_
    refine rt (xax (v:=.bool (decide (earlier (LK (withT t (x,y))) (LK t)=true))) rfl) (tm':=zq1 (zq2 (zq4 _))) rfl <| ro (xax (v:=.int .i64 0) rfl) <| xak ?_
    refine xdv Tryd.func56 rfl (vs:=[.bool (decide (earlier (LK (withT t (x,y))) (LK t)=true)),.int .i64 0]) (fun h_ H_=>⟨.bool (decide (earlier (LK (withT t (x,y))) (LK t)=true)),_,rfl,rfl,⟨.int .i64 0,_,rfl,rfl,rfl⟩⟩) (v:=.tuple #[.bool (decide (earlier (LK (withT t (x,y))) (LK t)=true)),.int .i64 0]) rfl ?_
    exact fun h_ H_=>K _ _ ⟨by rw [wuv hO h12 ha0_ ‹_›,zbv ha0_ ‹_›],H_.kept⟩
end Go.Proofs.YtalfgojocdonhaaDoor
namespace Go.X
open Go.Conc Go.RowKit

def AtFin (P:Program) (v:Value) (g:Goroutine):Prop:=g.status= .running∧ ∀ w:World,stepG P true g w= .ended (.done v) w #[]
def StopE (P:Program) (R:Value→Heap→Prop) (g:Goroutine) (h:Heap):Prop:=∃ v,AtFin P v g∧R v h
def EntersX (P:Program) (md:Md) (f:FuncId) (args:Array Value) (h:Heap) (R:Value→Heap→Prop):Prop:=Reach P md (G (Frame.enter P f args .normal) []) h (StopE P R)

section
variable {P:Program} {md:Md} {f:FuncId} {h:Heap} {Φ:Heap→Prop} {tm:List Value} {k:List Item} {R:Value→Heap→Prop}

end

def nilO:Obj→Obj
  | .cells c e f=>if c.size=0 then .cells #[] 0 (0,0) else .cells c e f
  | o=>o
def nilV (r:Heap):Heap:=r.map nilO
def Empty (r:Heap) (b:Nat):Prop:=∃ e f,r[b]?=some (.cells #[] e f)
section
variable {P:Program} {f:FuncId} {args:Array Value} {w:World} {R:Value→Heap→Prop}
end
end Go.X
namespace Go.X
open Go.Conc Go.RowKit Go.ChangeShapes Go.WideShapes Go.ChangeAt

def vwP (W:World):PHeap:=fun b=>(nilV W.heap)[b]?
theorem zsq {f:Nat→Option Value}: ∀ {l:List Nat} {r:List Value},l.mapM f=some r→r.length=l.length∧ ∀ (j:Nat) (x:Value),r[j]?=some x→ ∃ i,l[j]?=some i∧f i=some x
  | [],r,h=>by simp at h;subst h;simp
  | i::l,r,h=>by
    simp only [List.mapM_cons,Option.bind_eq_bind,Option.bind_eq_some_iff] at h
    obtain ⟨y,hy,ys,hys,e⟩:=h
    obtain rfl:y::ys=r:=by simpa using e
    obtain ⟨h1,h2⟩:=zsq hys
    refine ⟨by simp [h1],fun j x hx=>?_⟩
    cases j with
    | zero=>simp at hx;subst hx;exact ⟨i,rfl,hy⟩
    | succ j=>exact h2 j x (by simpa using hx)

theorem zix {W:World} {a:Addr} {n:Nat} {cs:List Value} (h:W.cells? 0 a n=some cs):cs.length=n∧ ∀ (j:Nat) (x:Value),cs[j]?=some x→W.cell? (a.add j)=some x:=by
  unfold World.cells? at h
  rw [if_pos (Nat.zero_le _)] at h
  obtain ⟨h1,h2⟩:=zsq h
  refine ⟨by simpa using h1,fun j x hx=>?_⟩
  obtain ⟨i,hi,hf⟩:=h2 j x hx
  obtain ⟨_,rfl⟩:j<n∧j=i:=by simpa [List.getElem?_range'] using List.getElem?_eq_some_iff.1 hi
  exact hf

theorem vek (p:PHeap) (w:Nat):Sl p none 0 w []:=⟨rfl,by simp,fun h=>absurd h (by omega),fun i e he=>by simp at he⟩

section
variable {H:Type} {enc:TypeId × Value→H} {P:Program} {W:World}
theorem ywx {t:TypeId} {m:Nat} {cs:List Value} {y:DataW H × List MemPlace} (ht:P.underlying t=some (.int .i64)) (h:DataW.trod enc P W 0 (fun _=>true) true m t cs=some y): ∃ n:Int,cs=[.int .i64 n]:=by
  obtain ⟨n,e,_,_⟩:=DataW.trod_int ht h
  exact ⟨n,e⟩
theorem yew (hl:laidOutB P=true) {W':World} (hB:Below W.heap.size W W'): ∀ {ts:List TypeId} {vs:List Value} {ds:List (DataW H)} {ps:List MemPlace},(∀ t∈ts,P.readableRec t=true∧t<P.types.size)→(∀ x∈ps,x.block<W.heap.size)→
    DataW.TrodAll enc P W 0 (fun _=>true) true ts vs ds ps→DataW.TrodAll enc P W' 0 (fun b=>decide (b<W.heap.size)) true ts vs ds ps
  | [],[],[],_,_,_,h=>h
  | _::_,[],_,_,_,_,h=>by cases h
  | [],_::_,_,_,_,_,h=>by cases h
  | [],[],_::_,_,_,_,h=>by cases h
  | _::_,_::_,[],_,_,_,h=>by cases h
  | t::ts,v::vs,d::ds,ps,hr,hlt,⟨p,q,h1,h2,e⟩=>by
    subst e
    exact ⟨p,q,Below.trod hl (hr t (by simp)).1 (hr t (by simp)).2 h1 hB (fun x hx=>hlt x (by simp [hx])),yew hl hB (fun t' ht'=>hr t' (by simp [ht'])) (fun x hx=>hlt x (by simp [hx])) h2,rfl⟩

theorem wqk {fn:Func} {s:ChangeSpec} {W':World} {args:Array Value} {ds gs:List (DataW H)} {before:List MemPlace} {fresh handsOn:Bool} {tb:TypeId} (hl:laidOutB P=true) (hvars:s.vars=[])
    (hts: ∀ t∈fn.params.toList,P.readableRec t=true∧t<P.types.size) (hrt:fn.resultTypes=#[tb]) (hub:P.underlying tb=some .bool) (hW:DataW.Whole enc P fn.params.toList s.vars false W args.toList ds gs before)
    (hs:s.fn H (ds++gs)={ results:=[.lit (.bool true)],args:=ds }) (hB:Below W.heap.size W W'):s.post enc P fn false fresh handsOn false W args (.bool true) W':=by
  have hW':=hW
  obtain ⟨p,q,hA,hV,rfl,_,_⟩:=hW
  rw [hvars] at hV
  obtain rfl:q=[]:=by
    cases gs with
    | nil=>exact hV
    | cons _ _=>exact hV.elim
  refine ⟨ds,gs,p++[],[],p,[],hW',?_,?_,?_,hB.frame _,fun h=>by cases h⟩
  · rw [hs,hrt]
    exact ⟨[],[],⟨1,by simp [DataW.trod,hub,Value.cells]⟩,rfl,rfl⟩
  · rw [hs]
    exact yew hl hB hts (fun x hx=>hW'.lt x (by simp [hx])) hA
  · rw [hs,hvars];rfl
end
end Go.X
namespace Go.X
open Go.Conc Go.RowKit

section
variable {P:Program} {f:FuncId} {args:Array Value} {h:Heap} {w:World} {R:Value→Heap→Prop}

def StopL (P:Program) (f:FuncId) (cs:List Frame) (R:Value→Heap→Prop) (g:Goroutine) (h:Heap):Prop:=
  ∃ fr v,g=G fr cs∧fr.fn=f∧(∀ w,fr.leaving P w (.returned v))∧R v h
def EntersL (P:Program) (f:FuncId) (args:Array Value) (h:Heap) (R:Value→Heap→Prop):Prop:=∀ cs,Reach P .lone (G (Frame.enter P f args .normal) cs) h (StopL P f cs R)

theorem ysw (x:EntersL P f args w.heap R):Calls P f args w fun e w'=>∃ v,e= .returned v∧R v w'.heap∧Calm w w':=by
  intro cs
  obtain ⟨g',w',a,⟨fr,v,rfl,hf,hl,hR⟩,c⟩:=x cs w rfl
  exact ⟨.returned v,w',fr,⟨v,rfl,hR,c⟩,a,hf,hl w'⟩

theorem zav {Φ:Heap→Prop} {tm:List Value} {fn:Func} {c:Code} (hf:P.funcs[f]?=some fn) (hb:fn.body=some c) (ht:args.toList++List.replicate (fn.ntmps-args.size) undef=tm)
    (x: ∀ cs,RS P .lone (G (FL f .none tm [] [.code c]) cs) Φ (StopL P f cs R)) (h0:Φ h):EntersL P f args h R:=by
  intro cs
  have:=x cs h h0
  have e:Frame.enter P f args .normal=FL f .none tm [] [.code c]:=by
    unfold Frame.enter
    simp only [hf,hb,Option.map_some,Option.bind_some,Option.getD_some,FL,F,B,← ht]
    simp [Rd.kind,Rd.round]
  rw [e];exact this

theorem yzw {Φ:Heap→Prop} [Stb Φ] {cs:List Frame} {tm:List Value} {k:List Item} {fn:Func} {t:Nat} {vs:List Value} {v:Value} (hf:P.funcs[f]?=some fn) (hr:fn.results=#[.tmp t]) (e: ∀ h,Φ h→Res P h tm [.tmp t] vs) (hv:packs vs=v)
    (x: ∀ h,Φ h→R v h):RS P .lone (G (FL f .none tm [] (.code .ret::k)) cs) Φ (StopL P f cs R):=
  wcx (hro:=rfl) fun _=>fun h y=>zww (by
    obtain ⟨v',vs',rfl,h1,h2⟩:=e h y
    obtain rfl:vs'=[]:=h2
    subst hv
    refine ⟨_,v',rfl,rfl,fun w=>⟨rfl,rfl,rfl,fn,hf,?_⟩,x h y⟩
    unfold results
    simp only [hr,FR,B,← h1]
    simp)
end
end Go.X
namespace Go.Proofs.YtalfgojocdonhaaDoor
open Go.X Go.X.Flow Go.Conc Go.RowKit Go.ChangeShapes Go.WideShapes Go.ChangeAt Go.Joins

set_option maxRecDepth 100000

theorem pOwn:ownKnob Tryd.prog.godebug=none:=by kernel_rfl
theorem vjw:laidOutB Tryd.prog=true:=by kernel_rfl
theorem pC3: Tryd.prog.cellsOf 3=1:=by kernel_rfl
theorem pC25: Tryd.prog.cellsOf 25=3:=by kernel_rfl
theorem pC43: Tryd.prog.cellsOf 43=2:=by kernel_rfl

def pW (W:World):PHeap:=fun b=>W.heap[b]?
theorem vgk (W:World):Per (pW W) W.heap:=fun _ _ e=>e
theorem wzw {W:World} {a:Addr} {v:Value} (h:W.cell? a=some v):pcell (pW W) a=some v:=by
  unfold World.cell? at h
  unfold pcell pW
  cases e:W.heap[a.block]? with
  | none=>rw [e] at h;cases h
  | some o=>
    rw [e] at h
    cases o with
    | cells c t f=>exact h
    | _=>cases h
theorem sl_W {W:World} {a:Addr} {n w:Nat} {E:Nat→List Value} (h: ∀ i,i<n→W.cells? 0 (a.add (i*w)) w=some (E i)):Sl (pW W) (some a) n w ((List.range n).map E):=by
  refine ⟨by simp,fun e he=>?_,fun _=>rfl,fun i e he j x hx=>?_⟩
  · obtain ⟨i,hi,rfl⟩:=List.mem_map.1 he
    exact (zix (h i (List.mem_range.1 hi))).1
  · rw [List.getElem?_map] at he
    obtain ⟨i',hi',rfl⟩:=Option.map_eq_some_iff.1 he
    obtain ⟨hlt,rfl⟩:i<n∧i=i':=by simpa using List.getElem?_eq_some_iff.1 hi'
    exact wzw ((zix (h i hlt)).2 j x hx)

section
variable {H:Type} {enc:TypeId × Value→H} {W:World}
theorem zrz {fuel:Nat} {t e w:TypeId} {v:Value} {y:DataW H × List MemPlace} {Q:List Value→Prop} (ht: Tryd.prog.underlying t=some (.slice e)) (hw: Tryd.prog.cellsOf e=w)
    (hQ: ∀ m cs y,DataW.trod enc Tryd.prog W 0 (fun _=>true) true m e cs=some y→Q cs) (h:DataW.trod enc Tryd.prog W 0 (fun _=>true) true fuel t [v]=some y):
    ∃ a n c E,v= .slice a n c∧n≤9223372036854775807∧n≤c∧(∀ i,i<n→Q (E i))∧Sl (pW W) a n w ((List.range n).map E):=by
  rcases Go.Deep.open_slice ht h with ⟨e1,_⟩ | ⟨a,len,cap,m,k,D,Pl,e1,_,hl,hcap,hm,_,hall⟩
  · obtain rfl:v= .slice none 0 0:=by simpa using e1
    exact ⟨none,0,0,fun _=>[],rfl,by omega,Nat.le_refl _,fun i hi=>absurd hi (by omega),vek _ _⟩
  · obtain rfl:v= .slice (some a) len cap:=by simpa using e1
    simp only [if_true] at hm
    subst hw
    obtain ⟨E,hE⟩:=Go.Deep.choose_lt (n:=len) (p:=fun i cs=>W.cells? 0 (a.add (i* Tryd.prog.cellsOf e)) (Tryd.prog.cellsOf e)=some cs∧Q cs) fun i hi=>by
      obtain ⟨cs,h1,h2⟩:=hall i (by omega)
      exact ⟨cs,h1,hQ _ _ _ h2⟩
    exact ⟨_,_,_,E,rfl,by unfold maxLen at hcap;omega,hl,fun i hi=>(hE i hi).2,sl_W fun i hi=>(hE i hi).1⟩
theorem yux {fuel:Nat} {v:Value} {y:DataW H × List MemPlace} (h:DataW.trod enc Tryd.prog W 0 (fun _=>true) true fuel 22 [v]=some y):
    ∃ a n c xs,v= .slice a n c∧n≤9223372036854775807∧n≤c∧Ints (pW W) a n xs:=by
  obtain ⟨a,n,c,E,rfl,hb,hc,hQ,s⟩:=zrz Tryd.underlying22 pC3 (Q:=fun cs=>∃ n:Int,cs=[.int .i64 n]) (fun m cs y h=>ywx Tryd.underlying3 h) h
  obtain ⟨z,hz⟩:=Go.Deep.choose_lt hQ
  refine ⟨a,n,c,(List.range n).map z,rfl,hb,hc,?_⟩
  have:(List.range n).map E=((List.range n).map z).map fun x=>[Value.int .i64 x]:=by
    rw [List.map_map]
    exact List.map_congr_left fun i hi=>hz i (List.mem_range.1 hi)
  unfold Ints
  rw [← this];exact s
theorem wnx {m:Nat} {cs:List Value} {y:DataW H × List MemPlace} (h:DataW.trod enc Tryd.prog W 0 (fun _=>true) true m 43 cs=some y): ∃ x:FWay,cs=x.cells:=by
  obtain ⟨y0,y1,n,_,hl,h0,h1⟩:=trod_struct2 Tryd.underlying43 h
  rw [pC43] at hl
  obtain ⟨a,ha⟩:=ywx Tryd.underlying3 h0
  obtain ⟨b,hb⟩:=ywx Tryd.underlying3 h1
  match cs,hl with
  | [u,v],_=>
    refine ⟨(a,b),?_⟩
    simp [pC3] at ha hb
    simp [FWay.cells,ha,hb]
theorem zxv {fuel:Nat} {v:Value} {y:DataW H × List MemPlace} (h:DataW.trod enc Tryd.prog W 0 (fun _=>true) true fuel 23 [v]=some y):
    ∃ a n c xs,v= .slice a n c∧n≤9223372036854775807∧n≤c∧Wys (pW W) a n xs:=by
  obtain ⟨a,n,c,E,rfl,hb,hc,hQ,s⟩:=zrz Tryd.underlying23 pC43 (Q:=fun cs=>∃ x:FWay,cs=x.cells) (fun m cs y h=>wnx h) h
  obtain ⟨z,hz⟩:=Go.Deep.choose_lt hQ
  refine ⟨a,n,c,(List.range n).map z,rfl,hb,hc,?_⟩
  have:(List.range n).map E=wcs ((List.range n).map z):=by
    unfold wcs
    rw [List.map_map]
    exact List.map_congr_left fun i hi=>hz i (List.mem_range.1 hi)
  unfold Wys
  rw [← this];exact s
theorem wfx {base:Nat} {v:Value} {d:DataW H} {p:List MemPlace} (hv:Value.okWide Tryd.prog W .any base 25 v) (h:DataW.Trod enc Tryd.prog W 0 (fun _=>true) true 25 v d p):
    ∃ a1 c1 a2 c2 a3 c3 t,v= .agg #[.slice a1 t.nH c1,.slice a2 t.nW c2,.slice a3 t.m c3]∧(t.nH≤9223372036854775807∧t.nW≤9223372036854775807∧t.m≤9223372036854775807)∧t.m≤c3∧TownP (pW W) a1 t.nH a2 t.nW a3 t.m t:=by
  obtain ⟨v0,v1,v2,y0,y1,y2,n,rfl,_,_,h0,h1,h2⟩:=open_agg3 Tryd.underlying25 (by kernel_rfl) pC25 hv h
  obtain ⟨a1,n1,c1,hs,rfl,b1,_,T1⟩:=yux h0
  obtain ⟨a2,n2,c2,ws,rfl,b2,_,T2⟩:=yux h1
  obtain ⟨a3,n3,c3,wy,rfl,b3,hc,T3⟩:=zxv h2
  obtain rfl:=T1.len
  obtain rfl:=T2.len
  obtain rfl:=T3.len
  exact ⟨a1,c1,a2,c2,a3,c3,⟨hs,ws,wy⟩,rfl,⟨b1,b2,b3⟩,hc,⟨T1,T2,T3⟩⟩
theorem zrj {base:Nat} {v:Value} {d:DataW H} {p:List MemPlace} (hv:Value.okWide Tryd.prog W .any base 3 v) (h:DataW.Trod enc Tryd.prog W 0 (fun _=>true) true 3 v d p): ∃ n:Int,v= .int .i64 n∧(-9223372036854775808≤n∧n≤9223372036854775807):=by
  obtain ⟨n,rfl,_,_,hw⟩:=open_int Tryd.underlying3 hv h
  refine ⟨n,rfl,?_⟩
  simpa [Lit.wf,IntKind.min,IntKind.max,IntKind.signed,IntKind.bits] using hw
end

theorem g_none : Tryd.prog.globalNamed "steening/buckets.none" = some 0 := by kernel_rfl
theorem vhq : Tryd.prog.globalNamed "math/bits.deBruijn64tab" = some 2 := by kernel_rfl
theorem zoz {W:World} {n:String} {g:Nat} {cs:Array Value} (hg: Tryd.prog.globalNamed n=some g) (h:W.var? Tryd.prog n=some cs): ∃ t z,pW W g=some (.cells cs t z):=by
  unfold World.var? at h
  rw [hg] at h
  simp only [Option.bind_some] at h
  unfold pW
  split at h
  · rename_i c t f e
    obtain rfl:=Option.some.inj h
    exact ⟨t,f,e⟩
  · cases h
theorem zjq {W:World} (h:laidMetH Tryd.prog Rows.bucketsAllRow.laid W):TabP (pW W):=by
  rw [MakeChecks.laidMetH_plain _ _ _ (by kernel_rfl)] at h
  have h2 := laidMet.filter (fun x => x.1 == "math/bits.deBruijn64tab") h
  have e : (Rows.bucketsAllRow.laid.filter fun x => x.1 == "math/bits.deBruijn64tab") = [("math/bits.deBruijn64tab", Lib.tabData .u8 (tab64.map fun n => ((n : Nat) : Int)))] := by kernel_rfl
  rw [e] at h2
  have h3:=Lib.tabIs_of_head (t:=116) (e:=5) (n:=64) vhq (by kernel_rfl) (by kernel_rfl) (by kernel_rfl) (by kernel_rfl) (by kernel_rfl) h2
  obtain ⟨t,z,h4⟩:=zoz vhq h3
  exact ⟨t,z,by rw [h4];simp⟩
theorem zfz {W:World} (h:laidMetH Tryd.prog Rows.bucketsAllRow.laid W):NoneP (pW W):=by
  rw [MakeChecks.laidMetH_plain _ _ _ (by kernel_rfl)] at h
  have h2 := laidMet.filter (fun x => x.1 == "steening/buckets.none") h
  have e : (Rows.bucketsAllRow.laid.filter fun x => x.1 == "steening/buckets.none") = [("steening/buckets.none", .agg [.lit (.int .i64 (-1)), .lit (.int .i64 (-1)), .lit (.int .i64 0)])] := by kernel_rfl
  rw [e] at h2
  obtain ⟨ps,⟨g',t',cs,fuel,p,q,hg',ht',hvar,hd,_,_⟩,_⟩:=h2
  obtain rfl:=Option.some.inj (g_none.symm.trans hg')
  obtain rfl:t'=72:=Option.some.inj (ht'.symm.trans (by kernel_rfl))
  obtain ⟨y0,y1,y2,n,hx,hl,h0,h1,h2⟩:=Go.Deep.trod_struct3 Tryd.underlying72 hd
  have e72: Tryd.prog.cellsOf 72=3:=by kernel_rfl
  rw [e72] at hl
  obtain ⟨a,ha,ea,_⟩:=DataW.trod_int Tryd.underlying3 h0
  obtain ⟨b,hb,eb,_⟩:=DataW.trod_int Tryd.underlying3 h1
  obtain ⟨c,hc,ec,_⟩:=DataW.trod_int Tryd.underlying3 h2
  obtain ⟨l⟩:=cs
  match l,hl with
  | [u,v,w],_=>
    simp only [pC3] at ha hb hc
    simp at ha hb hc
    rw [ea,eb,ec] at hx
    simp at hx
    obtain ⟨t,z,h4⟩:=zoz g_none hvar
    refine ⟨t,z,?_⟩
    rw [h4,ha,hb,hc,← hx.1.1,← hx.1.2.1,← hx.1.2.2]
noncomputable def laidW (os:Os):World:=World.laidAll Tryd.prog os Rows.bucketsAllRow.laid
theorem wgj (os:Os) (args:Array Value):laidMetH Tryd.prog Rows.bucketsAllRow.laid ((laidW os).forCall (fun _ _=>0) ⟨#[],args,[]⟩).memory:=by
  rw [MakeChecks.laidMetH_plain _ _ _ (by kernel_rfl)]
  exact laidMet_laidAll _ (by kernel_rfl) (by kernel_rfl)
theorem wtv {w w':World} (k:Keep w.heap w'.heap) (c:Go.X.Calm w w'):Below w.heap.size w w':=⟨c.os,c.tape,c.output,c.size,fun b hb=>k.keep b hb⟩
end Go.Proofs.YtalfgojocdonhaaDoor
namespace Go.X
open Go.Conc
section
variable {P:Program} {h:Heap} {tm:List Value} {d:Option Tmp} {ty:TypeId} {pos:String} {aft:Array Edge} {gd:Option (Nat × Bool)}
theorem zuv {d:Nat} {t:TypeId} {a b:Bool} {K:Bool→Heap→Prop} (ht:P.underlying t=some .bool) (x:K (a == b) h):wpS P (Op.equalIn (d+1) t (.bool a) (.bool b)) h K:=by
  simp only [Op.equalIn]
  refine xbz (xgq ht ?_)
  exact xbv x
theorem zhz {op:BinOp} {T:TypeId} {x y:Operand} {a b:Bool} {K:Unit→Heap→Prop} (z:K () h):wpS P (eqGuard op T x y (.bool a) (.bool b)) h K:=by
  unfold eqGuard
  cases op <;> first | (rw [if_pos (by rfl)];exact xbv z) | (rw [if_neg (by decide)];exact xbv z)
theorem wtk {p q:Prop} [Decidable p] [Decidable q]:(decide p == decide q)=decide (p↔q):=by
  by_cases hp:p <;> by_cases hq:q <;> simp [hp,hq]
theorem ztk {T T':TypeId} {x y:Operand} {p q:Prop} [Decidable p] [Decidable q] (ht:P.underlying T=some .bool) (hx:evl tm x= .bool (decide p)) (hy:evl tm y= .bool (decide q)):
    Exd P tm ⟨d,.binOp .eql T x y T',ty,pos,aft,gd⟩ h (.bool (decide (p↔q))):=by
  refine xrq hx hy (fun K z=>zhz z) ?_
  simp only [binOp,Op.equal,Op.maxDepth]
  refine xbz (zuv ht ?_)
  exact xbv ⟨by rw [wtk],rfl⟩
end
end Go.X
namespace Go.X.Flow
open Go.X
theorem zwx {t:Tn}:(shortC t).length≤6:=by
  unfold shortC;split
  · rename_i h;exact yiv t _ (ylq (xuz h).toOk)
  · simp
theorem zyx {t:Tn}:(helpsC t).length≤t.nW:=by
  unfold helpsC;split
  · exact yjz
  · simp
theorem whz {p:PHeap} {w:Value} {xs:List Int} (r:Refs p [[w]] [xs]): ∃ a c,w= .slice a xs.length c∧Ints p a xs.length xs:=by
  obtain ⟨a,c,e,I⟩:=r.2 0 (by simp)
  refine ⟨a,c,?_,I⟩
  have e:some [w]=some [Value.slice a xs.length c]:=e
  exact (List.cons.inj (Option.some.inj e)).1
end Go.X.Flow
