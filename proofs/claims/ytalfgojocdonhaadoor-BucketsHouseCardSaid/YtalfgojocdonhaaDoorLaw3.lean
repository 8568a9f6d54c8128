/-
  BucketsHouse, for every input: the law returns true and leaves its arguments as they were. The row, and the tied card.
-/
import Derived.Test.YtalfgojocdonhaaDoorD2
import Derived.Test.YtalfgojocdonhaaDoorD1
import Derived.Test.YtalfgojocdonhaaDoorD3
import Derived.Test.YtalfgojocdonhaaDoorD4
import Derived.Test.YtalfgojocdonhaaDoorD5
import Derived.Test.YtalfgojocdonhaaDoorCards
import Derived.Test.YtalfgojocdonhaaDoorTie
namespace Go.Proofs.YtalfgojocdonhaaDoor
open Go.X Go.X.Flow Go.Conc
set_option maxRecDepth 10000
set_option synthInstance.maxSize 2000

set_option maxHeartbeats 2000000
theorem e3 (h:Heap) (p:PHeap) (hp:Per p h) (a1 a2 a3:Option Addr) (c1 c2 c3:Nat) (t:Tn) (T:TownP p a1 t.nH a2 t.nW a3 t.m t) (hl:t.nH≤9223372036854775807∧t.nW≤9223372036854775807∧t.m≤9223372036854775807) (y z:Int) (N:NoneP p) (Z:TabP p):EntersL Tryd.prog 3 #[.agg #[.slice a1 t.nH c1,.slice a2 t.nW c2,.slice a3 t.m c3],.int .i64 (y),.int .i64 (z)] h fun v h'=>v= .bool true∧Keep h h':=by
 refine yfw (Φ:=fun h_=>St h [] p h_ []) Tryd.func3 rfl (tm:=zq1 (zq2 (zq4 (zq32 (zq32 []))))) rfl ?_ (St.start h _ hp)
 intro cs
 refine fsr ?_
 refine xix mn (v:=.agg #[.slice a1 t.nH c1,.slice a2 t.nW c2,.slice a3 t.m c3]) rfl fun b1=>xcz (L':=[(b1,.cells #[.slice a1 t.nH c1,.slice a2 t.nW c2,.slice a3 t.m c3] 25 (0,0))]) rfl ?_
 refine ro (xax (v:=.bool (false)) rfl) <| ren <| fsr ?_
 refine xbz mn (fun h_ H_=>xav H_ tA25 tS25 rfl (i:=0) rfl (vs:=[.slice a1 t.nH c1,.slice a2 t.nW c2,.slice a3 t.m c3]) rfl rfl) (tm':=zq1 (zq16 _)) rfl ?_
 refine xeq mn (first:=[]) (cap:=[]) rfl rfl fC15 (fun h_ H_=>c15 .lone _ _ H_.pe _ _ _ _ _ _ t (show TownP _ _ _ _ _ _ _ t from ⟨T.h,T.w,T.y⟩) hl) rfl ?_
 refine xak ?_
 rcases yrk (farB t) with cc2 | cc2
 ·
  refine xcw rfl cc2 <| fsr ?_
  refine xeq mn (first:=[]) (cap:=[]) rfl rfl fC16 (fun h_ H_=>c16 .lone _ _ H_.pe N Z) rfl ?_
  refine rt (xax (v:=.bool (true)) rfl) (tm':=zq1 (zq2 (zq4 _))) rfl <| xak ?_
  refine yqq Tryd.func3 rfl (vs:=[.bool (true)]) (fun h_ H_=>⟨.bool (true),_,rfl,rfl,rfl⟩) (v:=.bool (true)) rfl ?_
  exact fun h_ H_=>⟨rfl,H_.kept⟩
 ·
  have hf_:=cc2
  have hn:t.nH≤40∧t.nW≤40∧t.m≤41:=by have z_:=zyj hf_;unfold Big at z_;omega
  have hc0_:=wyj hf_
  have lh_:t.hs.length≤40:=hn.1
  have lw_:t.ws.length≤40:=hn.2.1
  have ly_:t.wy.length≤41:=hn.2.2
  refine xck rfl cc2 <| xcv <| fsr <| rd (fun h_ H_=>xav H_ tA25 tS25 rfl (i:=0) rfl (vs:=[.slice a1 t.nH c1,.slice a2 t.nW c2,.slice a3 t.m c3]) rfl rfl) ?_
  refine xcz (L':=([(b1,.cells #[.slice a1 t.nH c1,.slice a2 t.nW c2,.slice a3 t.m c3] 25 (0,0))]:Pcs)++[]) rfl ?_
  refine xjk mn (first:=[]) (cap:=[]) rfl rfl fC17 (R:=fun v_ h_=>∃ w3:Value,∃ w4:Value,∃ w5:Value,∃ X6:Pcs,∃ X7:Pcs,∃ X8:Pcs,v_= .agg #[w3,w4,w5]∧(OwnS 3 1 w3 (ics t.hs) X6)∧(OwnS 3 1 w4 (ics t.ws) X7)∧(OwnS 43 2 w5 (wcs t.wy) X8)∧St h [] p h_ (([(b1,.cells #[.slice a1 t.nH c1,.slice a2 t.nW c2,.slice a3 t.m c3] 25 (0,0))]:Pcs)++((X8++(X6++(X7++[])))++[]))) (fun h_ H_=>(c17 .lone _ _ H_.pe _ _ _ _ _ _ t (show TownP _ _ _ _ _ _ _ t from ⟨T.h,T.w,T.y⟩) (by omega)).mono fun v_ h2_ ⟨w3,w4,w5,X6,X7,X8,e_,o9,o10,o11,N_⟩=>⟨w3,w4,w5,X6,X7,X8,e_,o9,o10,o11,H_.callNA N_⟩) fun v_=>?_
  refine xgw fun w3=>xgw fun w4=>xgw fun w5=>xgw fun X6=>xgw fun X7=>xgw fun X8=>xfq fun ev_=>xfq fun o9=>xfq fun o10=>xfq fun o11=>?_
  have ev_:=ev_.symm;subst ev_
  refine xcz (L':=([(b1,.cells #[.slice a1 t.nH c1,.slice a2 t.nW c2,.slice a3 t.m c3] 25 (0,0))]:Pcs)++(X8++(X6++(X7++[])))) (by simp) ?_
  refine xkx mn tZ25 rfl fun b12=>xcz (L':=([(b12,.cells #[.slice none 0 0,.slice none 0 0,.slice none 0 0] 25 (0,0)),(b1,.cells #[.slice a1 t.nH c1,.slice a2 t.nW c2,.slice a3 t.m c3] 25 (0,0))]:Pcs)++(X8++(X6++(X7++[])))) rfl ?_
  refine xgq (tm':=zq8 _) rfl ?_
  refine xiz mn tS25 rfl (v:=.agg #[w3,w4,w5]) rfl (i:=0) rfl rfl (xgv o9.one.2 (xgv o10.one.2 (xgv o11.one.2 rfl))) (Nat.le_of_ble_eq_true rfl) (cs2:=[w3,w4,w5]) rfl (xcz (L':=([(b12,.cells #[w3,w4,w5] 25 (0,0)),(b1,.cells #[.slice a1 t.nH c1,.slice a2 t.nW c2,.slice a3 t.m c3] 25 (0,0))]:Pcs)++(X8++(X6++(X7++[])))) rfl ?_)
  refine ren ?_
  refine xfw (List.Perm.append_left _ (List.perm_append_comm_assoc _ _ _)) ?_
  refine xkw (L':=([(b12,.cells #[w3,w4,w5] 25 (0,0)),(b1,.cells #[.slice a1 t.nH c1,.slice a2 t.nW c2,.slice a3 t.m c3] 25 (0,0))]:Pcs)++(X6++(X8++(X7++[])))) rfl ?_
  refine xmk (A:=([(b12,.cells #[w3,w4,w5] 25 (0,0)),(b1,.cells #[.slice a1 t.nH c1,.slice a2 t.nW c2,.slice a3 t.m c3] 25 (0,0))]:Pcs)) o9 (show (ics t.hs).length=t.nH from xdq _) fun p13 a14 cp15 le16 ev_ D17=>?_
  subst ev_
  refine xfw (List.Perm.append_left _ (List.perm_append_comm_assoc _ _ _)) ?_
  refine xkw (L':=([(b12,.cells #[.slice a14 t.nH cp15,w4,w5] 25 (0,0)),(b1,.cells #[.slice a1 t.nH c1,.slice a2 t.nW c2,.slice a3 t.m c3] 25 (0,0))]:Pcs)++(X7++(X8++[]))) rfl ?_
  refine xmk (A:=([(b12,.cells #[.slice a14 t.nH cp15,w4,w5] 25 (0,0)),(b1,.cells #[.slice a1 t.nH c1,.slice a2 t.nW c2,.slice a3 t.m c3] 25 (0,0))]:Pcs)) o10 (show (ics t.ws).length=t.nW from xdq _) fun p18 a19 cp20 le21 ev_ D22=>?_
  subst ev_
  refine xmk (A:=([(b12,.cells #[.slice a14 t.nH cp15,.slice a19 t.nW cp20,w5] 25 (0,0)),(b1,.cells #[.slice a1 t.nH c1,.slice a2 t.nW c2,.slice a3 t.m c3] 25 (0,0))]:Pcs)) o11 (wcs_size _) fun p23 a24 cp25 le26 ev_ D27=>?_
  subst ev_
  refine xkw (L':=[(b12,.cells #[.slice a14 t.nH cp15,.slice a19 t.nW cp20,.slice a24 t.m cp25] 25 (0,0)),(b1,.cells #[.slice a1 t.nH c1,.slice a2 t.nW c2,.slice a3 t.m c3] 25 (0,0))]) rfl ?_
  refine xbq <| rd (fun h_ H_=>xav H_ tA25 tS25 rfl (i:=0) rfl (vs:=[.slice a14 t.nH cp15,.slice a19 t.nW cp20,.slice a24 t.m cp25]) rfl rfl) <| ro (xaq (v:=.int .i64 (y)) rfl) ?_
  refine xeq mn (first:=[]) (cap:=[]) rfl rfl fC18 (fun h_ H_=>c18 .lone _ _ H_.pe _ _ _ _ _ _ t (show TownP _ _ _ _ _ _ _ t from ⟨(((show Ints _ _ _ t.hs from D17).mono le21).mono le26),((show Ints _ _ _ t.ws from D22).mono le26),(show Wys _ _ _ t.wy from D27)⟩) (by omega) (y) (((N.mono le16).mono le21).mono le26)) (tm':=zq1 (zq8 (zq16 _))) rfl ?_
  refine ro (xaq (v:=.tuple #[.agg #[.int .i64 (houseC t (y) (-1)),.int .i64 (houseC t (y) 1)],.int .i64 (askB t (decide (0≤y∧y≤(t.nH:Int)-1)))]) rfl) <| ro (xej rfl (v:=.agg #[.int .i64 (houseC t (y) (-1)),.int .i64 (houseC t (y) 1)]) rfl) <| rt (xej rfl (v:=.int .i64 (askB t (decide (0≤y∧y≤(t.nH:Int)-1)))) rfl) (tm':=zq1 (zq2 (zq8 (zq16 _)))) rfl ?_
  refine xkx mn tZ30 rfl fun b28=>xcz (L':=[(b28,.cells #[.int .i64 0,.int .i64 0] 30 (0,0)),(b12,.cells #[.slice a14 t.nH cp15,.slice a19 t.nW cp20,.slice a24 t.m cp25] 25 (0,0)),(b1,.cells #[.slice a1 t.nH c1,.slice a2 t.nW c2,.slice a3 t.m c3] 25 (0,0))]) rfl ?_
  refine xiz mn tS30 rfl (v:=.agg #[.int .i64 (houseC t (y) (-1)),.int .i64 (houseC t (y) 1)]) rfl (i:=0) rfl rfl rfl (Nat.le_of_ble_eq_true rfl) (cs2:=[.int .i64 (houseC t (y) (-1)),.int .i64 (houseC t (y) 1)]) rfl (xcz (L':=[(b28,.cells #[.int .i64 (houseC t (y) (-1)),.int .i64 (houseC t (y) 1)] 30 (0,0)),(b12,.cells #[.slice a14 t.nH cp15,.slice a19 t.nW cp20,.slice a24 t.m cp25] 25 (0,0)),(b1,.cells #[.slice a1 t.nH c1,.slice a2 t.nW c2,.slice a3 t.m c3] 25 (0,0))]) rfl ?_)
  refine ro (xax (v:=.int .i64 (askB t (decide (0≤y∧y≤(t.nH:Int)-1)))) rfl) <| ren <| xbq ?_
  refine xbz mn (fun h_ H_=>xav H_ tA25 tS25 rfl (i:=2) rfl (vs:=[.slice a1 t.nH c1,.slice a2 t.nW c2,.slice a3 t.m c3]) rfl rfl) (tm':=zq1 (zq4 (zq8 (zq16 _)))) rfl ?_
  refine ro (xaq (v:=.int .i64 (y)) rfl) ?_
  refine xeq mn (first:=[]) (cap:=[]) rfl rfl fC19 (fun h_ H_=>c19 .lone _ _ H_.pe _ _ _ _ _ _ t (show TownP _ _ _ _ _ _ _ t from ⟨(((T.h.mono le16).mono le21).mono le26),(((T.w.mono le16).mono le21).mono le26),(((T.y.mono le16).mono le21).mono le26)⟩) (by omega) hc0_ (y)) rfl ?_
  refine rt (xaq (v:=.tuple #[.agg #[.int .i64 (houseC t (y) (-1)),.int .i64 (houseC t (y) 1)],.int .i64 (askB t (decide (0≤y∧y≤(t.nH:Int)-1)))]) rfl) (tm':=zq4 (zq8 (zq16 _))) rfl <| ro (xej rfl (v:=.agg #[.int .i64 (houseC t (y) (-1)),.int .i64 (houseC t (y) 1)]) rfl) <| ro (xej rfl (v:=.int .i64 (askB t (decide (0≤y∧y≤(t.nH:Int)-1)))) rfl) ?_
  refine xkx mn tZ30 rfl fun b29=>xcz (L':=[(b29,.cells #[.int .i64 0,.int .i64 0] 30 (0,0)),(b28,.cells #[.int .i64 (houseC t (y) (-1)),.int .i64 (houseC t (y) 1)] 30 (0,0)),(b12,.cells #[.slice a14 t.nH cp15,.slice a19 t.nW cp20,.slice a24 t.m cp25] 25 (0,0)),(b1,.cells #[.slice a1 t.nH c1,.slice a2 t.nW c2,.slice a3 t.m c3] 25 (0,0))]) rfl ?_
  refine xgq (tm':=zq1 (zq2 (zq8 _))) rfl ?_
  refine xiz mn tS30 rfl (v:=.agg #[.int .i64 (houseC t (y) (-1)),.int .i64 (houseC t (y) 1)]) rfl (i:=0) rfl rfl rfl (Nat.le_of_ble_eq_true rfl) (cs2:=[.int .i64 (houseC t (y) (-1)),.int .i64 (houseC t (y) 1)]) rfl (xcz (L':=[(b29,.cells #[.int .i64 (houseC t (y) (-1)),.int .i64 (houseC t (y) 1)] 30 (0,0)),(b28,.cells #[.int .i64 (houseC t (y) (-1)),.int .i64 (houseC t (y) 1)] 30 (0,0)),(b12,.cells #[.slice a14 t.nH cp15,.slice a19 t.nW cp20,.slice a24 t.m cp25] 25 (0,0)),(b1,.cells #[.slice a1 t.nH c1,.slice a2 t.nW c2,.slice a3 t.m c3] 25 (0,0))]) rfl ?_)
  refine ro (xax (v:=.int .i64 (askB t (decide (0≤y∧y≤(t.nH:Int)-1)))) rfl) <| ren <| xbq <| rd (fun h_ H_=>xav H_ tA25 tS25 rfl (i:=2) rfl (vs:=[.slice a14 t.nH cp15,.slice a19 t.nW cp20,.slice a24 t.m cp25]) rfl rfl) <| rt (xaq (v:=.int .i64 (z)) rfl) (tm':=zq4 (zq32 _)) rfl ?_
  refine xeq mn (first:=[]) (cap:=[]) rfl rfl fC20 (fun h_ H_=>c20 .lone _ _ H_.pe _ _ _ _ _ _ t (show TownP _ _ _ _ _ _ _ t from ⟨(((show Ints _ _ _ t.hs from D17).mono le21).mono le26),((show Ints _ _ _ t.ws from D22).mono le26),(show Wys _ _ _ t.wy from D27)⟩) (by omega) (z) (((N.mono le16).mono le21).mono le26)) rfl ?_
  refine ro (xaq (v:=.tuple #[.int .i64 (dryC t (z)),.int .i64 (askB t (decide (0≤z∧z≤(t.nW:Int)-1)))]) rfl) <| rt (xej rfl (v:=.int .i64 (dryC t (z))) rfl) (tm':=zq2 (zq4 (zq32 _))) rfl <| ro (xej rfl (v:=.int .i64 (askB t (decide (0≤z∧z≤(t.nW:Int)-1)))) rfl) <| ro (xax (v:=.int .i64 (dryC t (z))) rfl) <| rt (xax (v:=.int .i64 (askB t (decide (0≤z∧z≤(t.nW:Int)-1)))) rfl) (tm':=zq2 (zq4 (zq8 _))) rfl <| ren ?_
  refine xbq <| rd (fun h_ H_=>xav H_ tA25 tS25 rfl (i:=3) rfl (vs:=[.slice a1 t.nH c1,.slice a2 t.nW c2,.slice a3 t.m c3]) rfl rfl) <| ro (xaq (v:=.int .i64 (z)) rfl) ?_
  refine xeq mn (first:=[]) (cap:=[]) rfl rfl fC21 (fun h_ H_=>c21 .lone _ _ H_.pe _ _ _ _ _ _ t (show TownP _ _ _ _ _ _ _ t from ⟨(((T.h.mono le16).mono le21).mono le26),(((T.w.mono le16).mono le21).mono le26),(((T.y.mono le16).mono le21).mono le26)⟩) (by omega) hc0_ (z)) (tm':=zq1 (zq2 (zq8 (zq32 _)))) rfl ?_
  refine ro (xaq (v:=.tuple #[.int .i64 (dryC t (z)),.int .i64 (askB t (decide (0≤z∧z≤(t.nW:Int)-1)))]) rfl) <| ro (xej rfl (v:=.int .i64 (dryC t (z))) rfl) <| rt (xej rfl (v:=.int .i64 (askB t (decide (0≤z∧z≤(t.nW:Int)-1)))) rfl) (tm':=zq1 (zq4 (zq8 (zq32 _)))) rfl <| ro (xax (v:=.int .i64 (dryC t (z))) rfl) <| ro (xax (v:=.int .i64 (askB t (decide (0≤z∧z≤(t.nW:Int)-1)))) rfl) <| ren ?_
  refine xbq ?_
  refine xbz mn (fun h_ H_=>xav H_ tA30 tS30 rfl (i:=1) rfl (vs:=[.int .i64 (houseC t (y) (-1)),.int .i64 (houseC t (y) 1)]) rfl rfl) (tm':=zq2 (zq4 (zq8 (zq32 _)))) rfl ?_
  refine rd (fun h_ H_=>xav H_ tA30 tS30 rfl (i:=0) rfl (vs:=[.int .i64 (houseC t (y) (-1)),.int .i64 (houseC t (y) 1)]) rfl rfl) <| ro (yqk gT30 (wmw 9998 _ _ _ _) rfl rfl) <| rt (xaq (v:=.bool (decide (houseC t (y) (-1)=houseC t (y) (-1)∧houseC t (y) 1=houseC t (y) 1))) rfl) (tm':=zq1 (zq2 (zq4 (zq32 (zq32 []))))) rfl ?_
  refine xbz (ms rfl rfl (decide_eq_true ⟨rfl,rfl⟩)) (fun h_ H_=>xaq (v:=.int .i64 (askB t (decide (0≤y∧y≤(t.nH:Int)-1)))) rfl) rfl ?_
  refine xbz (ms rfl rfl (decide_eq_true ⟨rfl,rfl⟩)) (fun h_ H_=>xaq (v:=.int .i64 (askB t (decide (0≤y∧y≤(t.nH:Int)-1)))) rfl) rfl ?_
  refine xbz (ms rfl rfl (decide_eq_true ⟨rfl,rfl⟩)) (fun h_ H_=>xkz rfl rfl) (tm':=zq1 (zq2 (zq4 (zq32 (zq32 []))))) rfl ?_
  refine ro (xdv rfl (decide_eq_true ⟨rfl,rfl⟩) (v:=.bool (decide (askB t (decide (0≤y∧y≤(t.nH:Int)-1))=askB t (decide (0≤y∧y≤(t.nH:Int)-1))))) rfl) <| ro (xaq (v:=.bool (decide (askB t (decide (0≤y∧y≤(t.nH:Int)-1))=askB t (decide (0≤y∧y≤(t.nH:Int)-1))))) rfl) ?_
  refine xbz (ms rfl rfl (decide_eq_true rfl)) (fun h_ H_=>xaq (v:=.int .i64 (dryC t (z))) rfl) (tm':=zq1 (zq2 (zq4 (zq32 (zq32 []))))) rfl ?_
  refine xbz (ms rfl rfl (decide_eq_true rfl)) (fun h_ H_=>xaq (v:=.int .i64 (dryC t (z))) rfl) rfl ?_
  refine xbz (ms rfl rfl (decide_eq_true rfl)) (fun h_ H_=>xkz rfl rfl) rfl ?_
  refine rt (xdv rfl (decide_eq_true rfl) (v:=.bool (decide (dryC t (z)=dryC t (z)))) rfl) (tm':=zq1 (zq2 (zq4 (zq32 (zq32 []))))) rfl <| ro (xaq (v:=.bool (decide (dryC t (z)=dryC t (z)))) rfl) ?_
  refine xbz (ms rfl rfl (decide_eq_true rfl)) (fun h_ H_=>xaq (v:=.int .i64 (askB t (decide (0≤z∧z≤(t.nW:Int)-1)))) rfl) rfl ?_
  refine xbz (ms rfl rfl (decide_eq_true rfl)) (fun h_ H_=>xaq (v:=.int .i64 (askB t (decide (0≤z∧z≤(t.nW:Int)-1)))) rfl) (tm':=zq1 (zq2 (zq4 (zq32 (zq32 []))))) rfl ?_
  refine xbz (ms rfl rfl (decide_eq_true rfl)) (fun h_ H_=>xkz rfl rfl) rfl ?_
  refine ro (xdv rfl (decide_eq_true rfl) (v:=.bool (decide (askB t (decide (0≤z∧z≤(t.nW:Int)-1))=askB t (decide (0≤z∧z≤(t.nW:Int)-1))))) rfl) <| rt (xaq (v:=.bool (decide (askB t (decide (0≤z∧z≤(t.nW:Int)-1))=askB t (decide (0≤z∧z≤(t.nW:Int)-1))))) rfl) (tm':=zq1 (zq2 (zq4 (zq32 (zq32 []))))) rfl ?_
  refine xbz (ms rfl rfl (decide_eq_true rfl)) (fun h_ H_=>xav H_ tA25 tS25 rfl (i:=2) rfl (vs:=[.slice a14 t.nH cp15,.slice a19 t.nW cp20,.slice a24 t.m cp25]) rfl rfl) rfl ?_
  refine xbz (ms rfl rfl (decide_eq_true rfl)) (fun h_ H_=>xav H_ tA25 tS25 rfl (i:=3) rfl (vs:=[.slice a1 t.nH c1,.slice a2 t.nW c2,.slice a3 t.m c3]) rfl rfl) rfl ?_
  refine xeq (ms rfl rfl (decide_eq_true rfl)) (first:=[]) (cap:=[]) rfl rfl fC22 (fun h_ H_=>c22 .lone _ _ H_.pe _ _ _ _ _ _ t (show TownP _ _ _ _ _ _ _ t from ⟨(((show Ints _ _ _ t.hs from D17).mono le21).mono le26),((show Ints _ _ _ t.ws from D22).mono le26),(show Wys _ _ _ t.wy from D27)⟩) (by omega) _ _ _ _ _ _ t (show TownP _ _ _ _ _ _ _ t from ⟨(((T.h.mono le16).mono le21).mono le26),(((T.w.mono le16).mono le21).mono le26),(((T.y.mono le16).mono le21).mono le26)⟩) (by omega)) (tm':=zq1 (zq2 (zq4 (zq32 (zq32 []))))) rfl ?_
  refine ro (xdv rfl (decide_eq_true rfl) (v:=.bool (decide (sameT t t))) rfl) <| ro (xaq (v:=.bool (decide (sameT t t))) rfl) ?_
  refine xeq (ms rfl rfl (decide_eq_true (yhj t))) (first:=[]) (cap:=[]) rfl rfl fC16 (fun h_ H_=>c16 .lone _ _ H_.pe (((N.mono le16).mono le21).mono le26) (((Z.mono le16).mono le21).mono le26)) (tm':=zq1 (zq2 (zq4 (zq32 (zq32 []))))) rfl ?_
  refine ro (xdv rfl (decide_eq_true (yhj t)) (v:=.bool (true)) rfl) <| ro (xax (v:=.bool (true)) rfl) <| xak ?_
  refine yqq Tryd.func3 rfl (vs:=[.bool (true)]) (fun h_ H_=>⟨.bool (true),_,rfl,rfl,rfl⟩) (v:=.bool (true)) rfl ?_
  exact fun h_ H_=>⟨rfl,H_.kept⟩
end Go.Proofs.YtalfgojocdonhaaDoor
namespace Go.Proofs.YtalfgojocdonhaaDoor
open Go.X Go.X.Flow Go.Conc Go.RowKit Go.ChangeShapes Go.WideShapes Go.ChangeAt Go.Joins
set_option maxRecDepth 100000

theorem wsq (os:Os) (started:os.Started) (H:Type) (enc:TypeId × Value→H):
    ReturnsInHanded {} Tryd.checked os 3 .any (fun w args=>(Rows.bucketsHouseSpec.pre enc Tryd.prog Tryd.f3 Rows.bucketsHouseRow.domain false w args∧laidMetH Tryd.prog Rows.bucketsHouseRow.laid w)∧sizedMet enc Tryd.prog Tryd.f3 (OpenSpec.ofChange Rows.bucketsHouseSpec) false w args) (Rows.bucketsHouseSpec.post enc Tryd.prog Tryd.f3 false true false false):=by
  refine returnsInHanded_of_change_and (C:=Tryd.checked) (X:=fun w _=>laidMetH Tryd.prog Rows.bucketsHouseRow.laid w) (fun _ _ _ hh h=>h.of_heap hh) pOwn started (by kernel_rfl) Tryd.func3
    (ChangeSpec.witness_shaped (enc:=enc) (C:=Tryd.checked) (os:=os) (X:=fun w _=>laidMetH Tryd.prog Rows.bucketsHouseRow.laid w) false (laidW os) #[.agg #[.slice none 0 0,.slice none 0 0,.slice none 0 0],.int .i64 0,.int .i64 0] 8 (World.laidAll_os _ _ _)
      (World.shaped_of_ZipB (by kernel_rfl) (by kernel_rfl)) (by kernel_rfl) (by kernel_rfl) (by kernel_rfl) (zck os _)) ?_
  intro W base args ds gs before hval0 hW _ _ hL _
  have hval: ∀ (j:Nat) t v,Tryd.f3.params[j]?=some t→args[j]?=some v→Value.okWide Tryd.prog W .any base t v:=hval0
  have hW2:=hW
  obtain ⟨p,q,hA0,hV,rfl,_,_⟩:=hW2
  have hA:DataW.TrodAll enc Tryd.prog W 0 (fun _=>true) true Tryd.f3.params.toList args.toList ds p:=hA0
  rw [Tryd.params3] at hA hval
  obtain ⟨v0,v1,v2,d0,d1,d2,p0,p1,p2,rfl,rfl,_,h0,h1,h2⟩:=trodAll_three hA
  obtain ⟨rfl,rfl⟩:=trodVars_none hV
  obtain ⟨a1,c1,a2,c2,a3,c3,t,rfl,hl,_,T⟩:=zbk (hval 0 25 v0 rfl rfl) h0
  obtain ⟨k1,rfl,hk1⟩:=zmk (hval 1 3 v1 rfl rfl) h1
  obtain ⟨k2,rfl,hk2⟩:=zmk (hval 2 3 v2 rfl rfl) h2
  refine (xzw (e3 W.heap (pW W) (wnk W) a1 a2 a3 c1 c2 c3 t T hl k1 k2 (ykq hL) (ynv hL))).mono fun e W2 ⟨v,he,⟨hv,hk_⟩,cl⟩=>⟨v,he,?_⟩
  subst hv
  exact znz wxw rfl (fun t ht=>by rw [Tryd.params3] at ht;revert t;decide +kernel) rfl Tryd.underlying4 hW rfl (zpj hk_ cl)

theorem bucketsHouseRowHolds:Rows.BucketsHouseSaid:=
  OpenClaim.holds_of_wide 3 Tryd.f3 rfl rfl rfl rfl rfl rfl rfl ⟨rfl,rfl,rfl,rfl,rfl⟩ rfl rfl rfl rfl rfl (by kernel_rfl) Tryd.func3 (by kernel_rfl)
    (of_decide_eq_true (by kernel_rfl)) (by unfold Func.isWrapper;first | (rw [if_pos (by decide +kernel)];kernel_rfl) | (rw [if_neg (by decide +kernel)];exact ⟨rfl,rfl⟩))
    (fun os started H enc _=>wsq os started H enc)

theorem bucketsHouseHolds:Rows.BucketsHouseCardSaid:=
  Claim7.holds_tied_plain_at .later [] [.data, .data, .data] true (true, "5334d201df14a8cbe7ef60c793562a47fe331153d035b74b45b1c636860d1486") false bucketsHouseRowHolds (fun _ h => by cases h) (by kernel_rfl) (fun _ h => by cases h) bucketsHouse_row_tie rfl ⟨rfl, rfl⟩ (by kernel_rfl) rfl
    (fun f fn hf hfn=>by
      obtain rfl : f = 3 := Option.some.inj ((show Tryd.prog.funcNamed "steening/steeninglaw03.BucketsHouse" = some 3 by kernel_rfl).symm.trans hf) |>.symm
      obtain rfl:fn= Tryd.f3:=(Option.some.inj (Tryd.func3.symm.trans hfn)).symm
      exact ⟨by kernel_rfl,fun j t ht=>by
        rw [Tryd.params3] at ht
        have hm:t∈[25,3,3]:=by simpa using Array.mem_of_getElem? ht
        have hall:([25,3,3].all fun u=>!Tryd.prog.wantsStandIn u)=true:=by kernel_rfl
        exact (show Tryd.prog.wantsStandIn t=false by simpa using List.all_eq_true.1 hall t hm)⟩)
    (by kernel_rfl)

#print axioms bucketsHouseHolds
end Go.Proofs.YtalfgojocdonhaaDoor
