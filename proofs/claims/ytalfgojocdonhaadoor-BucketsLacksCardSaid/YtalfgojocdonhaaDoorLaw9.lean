/-
  BucketsLacks, for every input: the law returns true and leaves its arguments as they were. The row, and the tied card.
-/
import Derived.Test.YtalfgojocdonhaaDoorD2
import Derived.Test.YtalfgojocdonhaaDoorD1
import Derived.Test.YtalfgojocdonhaaDoorD3
import Derived.Test.YtalfgojocdonhaaDoorD4
import Derived.Test.YtalfgojocdonhaaDoorD5
import Derived.Test.YtalfgojocdonhaaDoorCards
import Derived.Test.YtalfgojocdonhaaDoorTie
namespace Go.Proofs.YtalfgojocdonhaaDoor
open Go.X Go.X.Flow Go.Conc
set_option maxRecDepth 10000
set_option synthInstance.maxSize 2000

set_option maxHeartbeats 2000000
theorem e9 (h:Heap) (p:PHeap) (hp:Per p h) (a1 a2 a3:Option Addr) (c1 c2 c3:Nat) (t:Tn) (T:TownP p a1 t.nH a2 t.nW a3 t.m t) (hl:t.nH≤9223372036854775807∧t.nW≤9223372036854775807∧t.m≤9223372036854775807) (N:NoneP p) (Z:TabP p):EntersL Tryd.prog 9 #[.agg #[.slice a1 t.nH c1,.slice a2 t.nW c2,.slice a3 t.m c3]] h fun v h'=>v= .bool true∧Keep h h':=by
 refine yfw (Φ:=fun h_=>St h [] p h_ []) Tryd.func9 rfl (tm:=zq4 (zq8 (zq16 (zq32 (zq32 (zq32 [])))))) rfl ?_ (St.start h _ hp)
 intro cs
 refine fsr ?_
 refine xix mn (v:=.agg #[.slice a1 t.nH c1,.slice a2 t.nW c2,.slice a3 t.m c3]) rfl fun b1=>xcz (L':=[(b1,.cells #[.slice a1 t.nH c1,.slice a2 t.nW c2,.slice a3 t.m c3] 25 (0,0))]) rfl ?_
 refine ro (xax (v:=.bool (false)) rfl) <| ren <| fsr ?_
 refine xbz mn (fun h_ H_=>xav H_ tA25 tS25 rfl (i:=0) rfl (vs:=[.slice a1 t.nH c1,.slice a2 t.nW c2,.slice a3 t.m c3]) rfl rfl) (tm':=zq1 (zq2 (zq16 _))) rfl ?_
 refine xeq mn (first:=[]) (cap:=[]) rfl rfl fC15 (fun h_ H_=>c15 .lone _ _ H_.pe _ _ _ _ _ _ t (show TownP _ _ _ _ _ _ _ t from ⟨T.h,T.w,T.y⟩) hl) rfl ?_
 refine xak ?_
 rcases yrk (farB t) with cc2 | cc2
 ·
  refine xcw rfl cc2 <| fsr ?_
  refine xeq mn (first:=[]) (cap:=[]) rfl rfl fC16 (fun h_ H_=>c16 .lone _ _ H_.pe N Z) rfl ?_
  refine rt (xax (v:=.bool (true)) rfl) (tm':=_::_::_::_) rfl <| xak ?_
  refine yqq Tryd.func9 rfl (vs:=[.bool (true)]) (fun h_ H_=>⟨.bool (true),_,rfl,rfl,rfl⟩) (v:=.bool (true)) rfl ?_
  exact fun h_ H_=>⟨rfl,H_.kept⟩
 ·
  have hf_:=cc2
  have hn:t.nH≤40∧t.nW≤40∧t.m≤41:=by have z_:=zyj hf_;unfold Big at z_;omega
  have hc0_:=wyj hf_
  have lh_:t.hs.length≤40:=hn.1
  have lw_:t.ws.length≤40:=hn.2.1
  have ly_:t.wy.length≤41:=hn.2.2
  have lk_:=wux (t:=t)
  refine xck rfl cc2 <| xcv <| fsr <| rd (fun h_ H_=>xav H_ tA25 tS25 rfl (i:=0) rfl (vs:=[.slice a1 t.nH c1,.slice a2 t.nW c2,.slice a3 t.m c3]) rfl rfl) ?_
  refine xcz (L':=([(b1,.cells #[.slice a1 t.nH c1,.slice a2 t.nW c2,.slice a3 t.m c3] 25 (0,0))]:Pcs)++[]) rfl ?_
  refine xjk mn (first:=[]) (cap:=[]) rfl rfl fC17 (R:=fun v_ h_=>∃ w3:Value,∃ w4:Value,∃ w5:Value,∃ X6:Pcs,∃ X7:Pcs,∃ X8:Pcs,v_= .agg #[w3,w4,w5]∧(OwnS 3 1 w3 (ics t.hs) X6)∧(OwnS 3 1 w4 (ics t.ws) X7)∧(OwnS 43 2 w5 (wcs t.wy) X8)∧St h [] p h_ (([(b1,.cells #[.slice a1 t.nH c1,.slice a2 t.nW c2,.slice a3 t.m c3] 25 (0,0))]:Pcs)++((X8++(X6++(X7++[])))++[]))) (fun h_ H_=>(c17 .lone _ _ H_.pe _ _ _ _ _ _ t (show TownP _ _ _ _ _ _ _ t from ⟨T.h,T.w,T.y⟩) (by omega)).mono fun v_ h2_ ⟨w3,w4,w5,X6,X7,X8,e_,o9,o10,o11,N_⟩=>⟨w3,w4,w5,X6,X7,X8,e_,o9,o10,o11,H_.callNA N_⟩) fun v_=>?_
  refine xgw fun w3=>xgw fun w4=>xgw fun w5=>xgw fun X6=>xgw fun X7=>xgw fun X8=>xfq fun ev_=>xfq fun o9=>xfq fun o10=>xfq fun o11=>?_
  have ev_:=ev_.symm;subst ev_
  refine xcz (L':=([(b1,.cells #[.slice a1 t.nH c1,.slice a2 t.nW c2,.slice a3 t.m c3] 25 (0,0))]:Pcs)++(X8++(X6++(X7++[])))) (by simp) ?_
  refine xkx mn tZ25 rfl fun b12=>xcz (L':=([(b12,.cells #[.slice none 0 0,.slice none 0 0,.slice none 0 0] 25 (0,0)),(b1,.cells #[.slice a1 t.nH c1,.slice a2 t.nW c2,.slice a3 t.m c3] 25 (0,0))]:Pcs)++(X8++(X6++(X7++[])))) rfl ?_
  refine xgq (tm':=zq4 _) rfl ?_
  refine xiz mn tS25 rfl (v:=.agg #[w3,w4,w5]) rfl (i:=0) rfl rfl (xgv o9.one.2 (xgv o10.one.2 (xgv o11.one.2 rfl))) (Nat.le_of_ble_eq_true rfl) (cs2:=[w3,w4,w5]) rfl (xcz (L':=([(b12,.cells #[w3,w4,w5] 25 (0,0)),(b1,.cells #[.slice a1 t.nH c1,.slice a2 t.nW c2,.slice a3 t.m c3] 25 (0,0))]:Pcs)++(X8++(X6++(X7++[])))) rfl ?_)
  refine ren ?_
  refine xfw (List.Perm.append_left _ (List.perm_append_comm_assoc _ _ _)) ?_
  refine xkw (L':=([(b12,.cells #[w3,w4,w5] 25 (0,0)),(b1,.cells #[.slice a1 t.nH c1,.slice a2 t.nW c2,.slice a3 t.m c3] 25 (0,0))]:Pcs)++(X6++(X8++(X7++[])))) rfl ?_
  refine xmk (A:=([(b12,.cells #[w3,w4,w5] 25 (0,0)),(b1,.cells #[.slice a1 t.nH c1,.slice a2 t.nW c2,.slice a3 t.m c3] 25 (0,0))]:Pcs)) o9 (show (ics t.hs).length=t.nH from xdq _) fun p13 a14 cp15 le16 ev_ D17=>?_
  subst ev_
  refine xfw (List.Perm.append_left _ (List.perm_append_comm_assoc _ _ _)) ?_
  refine xkw (L':=([(b12,.cells #[.slice a14 t.nH cp15,w4,w5] 25 (0,0)),(b1,.cells #[.slice a1 t.nH c1,.slice a2 t.nW c2,.slice a3 t.m c3] 25 (0,0))]:Pcs)++(X7++(X8++[]))) rfl ?_
  refine xmk (A:=([(b12,.cells #[.slice a14 t.nH cp15,w4,w5] 25 (0,0)),(b1,.cells #[.slice a1 t.nH c1,.slice a2 t.nW c2,.slice a3 t.m c3] 25 (0,0))]:Pcs)) o10 (show (ics t.ws).length=t.nW from xdq _) fun p18 a19 cp20 le21 ev_ D22=>?_
  subst ev_
  refine xmk (A:=([(b12,.cells #[.slice a14 t.nH cp15,.slice a19 t.nW cp20,w5] 25 (0,0)),(b1,.cells #[.slice a1 t.nH c1,.slice a2 t.nW c2,.slice a3 t.m c3] 25 (0,0))]:Pcs)) o11 (wcs_size _) fun p23 a24 cp25 le26 ev_ D27=>?_
  subst ev_
  refine xkw (L':=[(b12,.cells #[.slice a14 t.nH cp15,.slice a19 t.nW cp20,.slice a24 t.m cp25] 25 (0,0)),(b1,.cells #[.slice a1 t.nH c1,.slice a2 t.nW c2,.slice a3 t.m c3] 25 (0,0))]) rfl ?_
  refine xbq <| rd (fun h_ H_=>xav H_ tA25 tS25 rfl (i:=0) rfl (vs:=[.slice a14 t.nH cp15,.slice a19 t.nW cp20,.slice a24 t.m cp25]) rfl rfl) ?_
  refine xeq mn (first:=[]) (cap:=[]) rfl rfl fC28 (fun h_ H_=>c28 .lone _ _ H_.pe _ _ _ _ _ _ t (show TownP _ _ _ _ _ _ _ t from ⟨(((show Ints _ _ _ t.hs from D17).mono le21).mono le26),((show Ints _ _ _ t.ws from D22).mono le26),(show Wys _ _ _ t.wy from D27)⟩) (by omega) (((N.mono le16).mono le21).mono le26)) rfl ?_
  refine rt (xaq (v:=.tuple #[.int .i64 (mostC t),.int .i64 (chkB t)]) rfl) (tm':=zq8 (zq16 _)) rfl <| ro (xej rfl (v:=.int .i64 (mostC t)) rfl) <| ro (xej rfl (v:=.int .i64 (chkB t)) rfl) <| rt (xax (v:=.int .i64 (mostC t)) rfl) (tm':=zq1 (zq4 _)) rfl <| ro (xax (v:=.int .i64 (chkB t)) rfl) <| ren ?_
  refine xbq <| rd (fun h_ H_=>xav H_ tA25 tS25 rfl (i:=1) rfl (vs:=[.slice a1 t.nH c1,.slice a2 t.nW c2,.slice a3 t.m c3]) rfl rfl) ?_
  refine xeq mn (first:=[]) (cap:=[]) rfl rfl fC41 (fun h_ H_=>c41 .lone _ _ H_.pe _ _ _ _ _ _ t (show TownP _ _ _ _ _ _ _ t from ⟨(((T.h.mono le16).mono le21).mono le26),(((T.w.mono le16).mono le21).mono le26),(((T.y.mono le16).mono le21).mono le26)⟩) (by omega) hc0_) (tm':=zq1 (zq2 (zq4 (zq8 (zq16 _))))) rfl ?_
  refine ro (xaq (v:=.tuple #[.int .i64 (mostC t),.int .i64 (chkB t)]) rfl) <| ro (xej rfl (v:=.int .i64 (mostC t)) rfl) <| rt (xej rfl (v:=.int .i64 (chkB t)) rfl) (tm':=zq1 (zq32 _)) rfl <| ro (xax (v:=.int .i64 (mostC t)) rfl) <| ro (xax (v:=.int .i64 (chkB t)) rfl) <| ren ?_
  refine xbq ?_
  refine xbz mn (fun h_ H_=>xav H_ tA25 tS25 rfl (i:=0) rfl (vs:=[.slice a14 t.nH cp15,.slice a19 t.nW cp20,.slice a24 t.m cp25]) rfl rfl) (tm':=zq1 (zq2 (zq32 _))) rfl ?_
  refine xeq mn (first:=[]) (cap:=[]) rfl rfl fC36 (fun h_ H_=>c36 .lone _ _ H_.pe _ _ _ _ _ _ t (show TownP _ _ _ _ _ _ _ t from ⟨(((show Ints _ _ _ t.hs from D17).mono le21).mono le26),((show Ints _ _ _ t.ws from D22).mono le26),(show Wys _ _ _ t.wy from D27)⟩) (by omega) (((N.mono le16).mono le21).mono le26)) rfl ?_
  refine ro (xaq (v:=.tuple #[.int .i64 (worstC t),.int .i64 (chkB t)]) rfl) <| rt (xej rfl (v:=.int .i64 (worstC t)) rfl) (tm':=zq1 (zq4 (zq32 _))) rfl <| ro (xej rfl (v:=.int .i64 (chkB t)) rfl) <| ro (xax (v:=.int .i64 (worstC t)) rfl) <| rt (xax (v:=.int .i64 (chkB t)) rfl) (tm':=zq2 (zq8 _)) rfl <| ren ?_
  refine xbq <| rd (fun h_ H_=>xav H_ tA25 tS25 rfl (i:=1) rfl (vs:=[.slice a1 t.nH c1,.slice a2 t.nW c2,.slice a3 t.m c3]) rfl rfl) ?_
  refine xeq mn (first:=[]) (cap:=[]) rfl rfl fC42 (fun h_ H_=>c42 .lone _ _ H_.pe _ _ _ _ _ _ t (show TownP _ _ _ _ _ _ _ t from ⟨(((T.h.mono le16).mono le21).mono le26),(((T.w.mono le16).mono le21).mono le26),(((T.y.mono le16).mono le21).mono le26)⟩) (by omega) hc0_) rfl ?_
  refine rt (xaq (v:=.tuple #[.int .i64 (worstC t),.int .i64 (chkB t)]) rfl) (tm':=zq1 (zq2 (zq4 (zq32 _)))) rfl <| ro (xej rfl (v:=.int .i64 (worstC t)) rfl) <| ro (xej rfl (v:=.int .i64 (chkB t)) rfl) <| rt (xax (v:=.int .i64 (worstC t)) rfl) (tm':=zq1 (zq2 (zq8 _))) rfl <| ro (xax (v:=.int .i64 (chkB t)) rfl) <| ren ?_
  refine xbq <| rd (fun h_ H_=>xav H_ tA25 tS25 rfl (i:=0) rfl (vs:=[.slice a14 t.nH cp15,.slice a19 t.nW cp20,.slice a24 t.m cp25]) rfl rfl) ?_
  refine xcz (L':=([(b12,.cells #[.slice a14 t.nH cp15,.slice a19 t.nW cp20,.slice a24 t.m cp25] 25 (0,0)),(b1,.cells #[.slice a1 t.nH c1,.slice a2 t.nW c2,.slice a3 t.m c3] 25 (0,0))]:Pcs)++[]) rfl ?_
  refine xjk mn (first:=[]) (cap:=[]) rfl rfl fC43 (R:=fun v_ h_=>∃ w28:Value,∃ X29:Pcs,v_= .tuple #[w28,.int .i64 (chkB t)]∧(OwnS 3 1 w28 (ics (LKc t)) X29)∧St h [] p23 h_ (([(b12,.cells #[.slice a14 t.nH cp15,.slice a19 t.nW cp20,.slice a24 t.m cp25] 25 (0,0)),(b1,.cells #[.slice a1 t.nH c1,.slice a2 t.nW c2,.slice a3 t.m c3] 25 (0,0))]:Pcs)++(X29++[]))) (fun h_ H_=>(c43 .lone _ _ H_.pe _ _ _ _ _ _ t (show TownP _ _ _ _ _ _ _ t from ⟨(((show Ints _ _ _ t.hs from D17).mono le21).mono le26),((show Ints _ _ _ t.ws from D22).mono le26),(show Wys _ _ _ t.wy from D27)⟩) (by omega) (((N.mono le16).mono le21).mono le26)).mono fun v_ h2_ ⟨w28,X29,e_,o30,N_⟩=>⟨w28,X29,e_,o30,H_.callNA N_⟩) fun v_=>?_
  refine xgw fun w28=>xgw fun X29=>xfq fun ev_=>xfq fun o30=>?_
  have ev_:=ev_.symm;subst ev_
  refine xcz (L':=([(b12,.cells #[.slice a14 t.nH cp15,.slice a19 t.nW cp20,.slice a24 t.m cp25] 25 (0,0)),(b1,.cells #[.slice a1 t.nH c1,.slice a2 t.nW c2,.slice a3 t.m c3] 25 (0,0))]:Pcs)++(X29++[])) rfl ?_
  refine xgq (tm':=zq2 (zq4 (zq8 (zq32 _)))) rfl ?_
  refine ro (xaq (v:=.tuple #[w28,.int .i64 (chkB t)]) rfl) <| ro (xej rfl (v:=w28) rfl) <| rt (xej rfl (v:=.int .i64 (chkB t)) rfl) (tm':=zq16 (zq32 _)) rfl <| ro (xax (v:=w28) rfl) <| ro (xax (v:=.int .i64 (chkB t)) rfl) <| ren ?_
  refine xbq ?_
  refine xbz mn (fun h_ H_=>xav H_ tA25 tS25 rfl (i:=1) rfl (vs:=[.slice a1 t.nH c1,.slice a2 t.nW c2,.slice a3 t.m c3]) rfl rfl) (tm':=zq2 (zq16 (zq32 _))) rfl ?_
  refine xjk mn (first:=[]) (cap:=[]) rfl rfl fC44 (R:=fun v_ h_=>∃ w31:Value,∃ X32:Pcs,v_= .tuple #[w31,.int .i64 (chkB t)]∧(OwnS 3 1 w31 (ics (LKc t)) X32)∧St h [] p23 h_ (([(b12,.cells #[.slice a14 t.nH cp15,.slice a19 t.nW cp20,.slice a24 t.m cp25] 25 (0,0)),(b1,.cells #[.slice a1 t.nH c1,.slice a2 t.nW c2,.slice a3 t.m c3] 25 (0,0))]:Pcs)++(X32++(X29++[])))) (fun h_ H_=>(c44 .lone _ _ H_.pe _ _ _ _ _ _ t (show TownP _ _ _ _ _ _ _ t from ⟨(((T.h.mono le16).mono le21).mono le26),(((T.w.mono le16).mono le21).mono le26),(((T.y.mono le16).mono le21).mono le26)⟩) (by omega) hc0_).mono fun v_ h2_ ⟨w31,X32,e_,o33,N_⟩=>⟨w31,X32,e_,o33,H_.callNA N_⟩) fun v_=>?_
  refine xgw fun w31=>xgw fun X32=>xfq fun ev_=>xfq fun o33=>?_
  have ev_:=ev_.symm;subst ev_
  refine xcz (L':=([(b12,.cells #[.slice a14 t.nH cp15,.slice a19 t.nW cp20,.slice a24 t.m cp25] 25 (0,0)),(b1,.cells #[.slice a1 t.nH c1,.slice a2 t.nW c2,.slice a3 t.m c3] 25 (0,0))]:Pcs)++(X32++(X29++[]))) rfl ?_
  refine ro (xaq (v:=.tuple #[w31,.int .i64 (chkB t)]) rfl) <| rt (xej rfl (v:=w31) rfl) (tm':=zq4 (zq16 (zq32 _))) rfl <| ro (xej rfl (v:=.int .i64 (chkB t)) rfl) <| ro (xax (v:=w31) rfl) <| rt (xax (v:=.int .i64 (chkB t)) rfl) (tm':=zq16 _) rfl <| ren ?_
  refine xbq <| rd (fun h_ H_=>xav H_ tA25 tS25 rfl (i:=0) rfl (vs:=[.slice a14 t.nH cp15,.slice a19 t.nW cp20,.slice a24 t.m cp25]) rfl rfl) ?_
  refine xjk mn (first:=[]) (cap:=[]) rfl rfl fC30 (R:=fun v_ h_=>∃ w34:Value,∃ X35:Pcs,v_= .tuple #[w34,.int .i64 (chkB t)]∧(OwnS 3 1 w34 (ics (fairC t)) X35)∧St h [] p23 h_ (([(b12,.cells #[.slice a14 t.nH cp15,.slice a19 t.nW cp20,.slice a24 t.m cp25] 25 (0,0)),(b1,.cells #[.slice a1 t.nH c1,.slice a2 t.nW c2,.slice a3 t.m c3] 25 (0,0))]:Pcs)++(X35++(X32++(X29++[]))))) (fun h_ H_=>(c30 .lone _ _ H_.pe _ _ _ _ _ _ t (show TownP _ _ _ _ _ _ _ t from ⟨(((show Ints _ _ _ t.hs from D17).mono le21).mono le26),((show Ints _ _ _ t.ws from D22).mono le26),(show Wys _ _ _ t.wy from D27)⟩) (by omega) (((N.mono le16).mono le21).mono le26)).mono fun v_ h2_ ⟨w34,X35,e_,o36,N_⟩=>⟨w34,X35,e_,o36,H_.callNA N_⟩) fun v_=>?_
  refine xgw fun w34=>xgw fun X35=>xfq fun ev_=>xfq fun o36=>?_
  have ev_:=ev_.symm;subst ev_
  refine xcz (L':=([(b12,.cells #[.slice a14 t.nH cp15,.slice a19 t.nW cp20,.slice a24 t.m cp25] 25 (0,0)),(b1,.cells #[.slice a1 t.nH c1,.slice a2 t.nW c2,.slice a3 t.m c3] 25 (0,0))]:Pcs)++(X35++(X32++(X29++[])))) rfl ?_
  refine rt (xaq (v:=.tuple #[w34,.int .i64 (chkB t)]) rfl) (tm':=zq2 (zq4 (zq16 (zq32 _)))) rfl <| ro (xej rfl (v:=w34) rfl) <| ro (xej rfl (v:=.int .i64 (chkB t)) rfl) <| rt (xax (v:=w34) rfl) (tm':=zq1 (zq16 _)) rfl <| ro (xax (v:=.int .i64 (chkB t)) rfl) <| ren ?_
  refine xek ?_
  refine xfw (List.Perm.append_left _ (List.Perm.append_left _ (List.perm_append_comm_assoc _ _ _))) ?_
  refine xfw (List.Perm.append_left _ (List.perm_append_comm_assoc _ _ _)) ?_
  refine xkw (L':=([(b12,.cells #[.slice a14 t.nH cp15,.slice a19 t.nW cp20,.slice a24 t.m cp25] 25 (0,0)),(b1,.cells #[.slice a1 t.nH c1,.slice a2 t.nW c2,.slice a3 t.m c3] 25 (0,0))]:Pcs)++(X29++(X35++(X32++[])))) rfl ?_
  refine xmk (A:=([(b12,.cells #[.slice a14 t.nH cp15,.slice a19 t.nW cp20,.slice a24 t.m cp25] 25 (0,0)),(b1,.cells #[.slice a1 t.nH c1,.slice a2 t.nW c2,.slice a3 t.m c3] 25 (0,0))]:Pcs)) o30 ((xdq _).trans rfl) fun p37 a38 cp39 le40 ev_ D41=>?_
  subst ev_
  refine xfw (List.Perm.append_left _ (List.perm_append_comm_assoc _ _ _)) ?_
  refine xkw (L':=([(b12,.cells #[.slice a14 t.nH cp15,.slice a19 t.nW cp20,.slice a24 t.m cp25] 25 (0,0)),(b1,.cells #[.slice a1 t.nH c1,.slice a2 t.nW c2,.slice a3 t.m c3] 25 (0,0))]:Pcs)++(X32++(X35++[]))) rfl ?_
  refine xmk (A:=([(b12,.cells #[.slice a14 t.nH cp15,.slice a19 t.nW cp20,.slice a24 t.m cp25] 25 (0,0)),(b1,.cells #[.slice a1 t.nH c1,.slice a2 t.nW c2,.slice a3 t.m c3] 25 (0,0))]:Pcs)) o33 ((xdq _).trans rfl) fun p42 a43 cp44 le45 ev_ D46=>?_
  subst ev_
  refine xmk (A:=([(b12,.cells #[.slice a14 t.nH cp15,.slice a19 t.nW cp20,.slice a24 t.m cp25] 25 (0,0)),(b1,.cells #[.slice a1 t.nH c1,.slice a2 t.nW c2,.slice a3 t.m c3] 25 (0,0))]:Pcs)) o36 ((xdq _).trans rfl) fun p47 a48 cp49 le50 ev_ D51=>?_
  subst ev_
  refine xkw (L':=[(b12,.cells #[.slice a14 t.nH cp15,.slice a19 t.nW cp20,.slice a24 t.m cp25] 25 (0,0)),(b1,.cells #[.slice a1 t.nH c1,.slice a2 t.nW c2,.slice a3 t.m c3] 25 (0,0))]) rfl ?_
  refine xbq <| ro (xaq (v:=.int .i64 (mostC t)) rfl) <| rt (xaq (v:=.int .i64 (mostC t)) rfl) (tm':=zq4 (zq8 (zq16 (zq32 _)))) rfl <| ro (xjv rfl rfl) <| ro (xaq (v:=.bool (decide (mostC t≠mostC t))) rfl) ?_
  refine xbz (ms rfl rfl (decide_eq_false (fun z_=>z_ rfl))) (fun h_ H_=>xaq (v:=.int .i64 (chkB t)) rfl) (tm':=zq1 (zq2 (zq4 (zq8 (zq16 (zq32 _)))))) rfl ?_
  refine xbz (ms rfl rfl (decide_eq_false (fun z_=>z_ rfl))) (fun h_ H_=>xaq (v:=.int .i64 (chkB t)) rfl) rfl ?_
  refine xbz (ms rfl rfl (decide_eq_false (fun z_=>z_ rfl))) (fun h_ H_=>xjv rfl rfl) rfl ?_
  refine rt (xez rfl (decide_eq_false (fun z_=>z_ rfl)) (v:=.bool (decide (chkB t≠chkB t))) rfl) (tm':=zq2 (zq32 (zq32 _))) rfl <| ro (xaq (v:=.bool (decide (chkB t≠chkB t))) rfl) ?_
  refine xbz (ms rfl rfl (decide_eq_false (fun z_=>z_ rfl))) (fun h_ H_=>xaq (v:=.int .i64 (worstC t)) rfl) rfl ?_
  refine xbz (ms rfl rfl (decide_eq_false (fun z_=>z_ rfl))) (fun h_ H_=>xaq (v:=.int .i64 (worstC t)) rfl) (tm':=zq1 (zq4 (zq32 (zq32 _)))) rfl ?_
  refine xbz (ms rfl rfl (decide_eq_false (fun z_=>z_ rfl))) (fun h_ H_=>xjv rfl rfl) rfl ?_
  refine ro (xez rfl (decide_eq_false (fun z_=>z_ rfl)) (v:=.bool (decide (worstC t≠worstC t))) rfl) <| rt (xaq (v:=.bool (decide (worstC t≠worstC t))) rfl) (tm':=zq8 (zq32 (zq32 _))) rfl ?_
  refine xbz (ms rfl rfl (decide_eq_false (fun z_=>z_ rfl))) (fun h_ H_=>xaq (v:=.int .i64 (chkB t)) rfl) rfl ?_
  refine xbz (ms rfl rfl (decide_eq_false (fun z_=>z_ rfl))) (fun h_ H_=>xaq (v:=.int .i64 (chkB t)) rfl) rfl ?_
  refine xbz (ms rfl rfl (decide_eq_false (fun z_=>z_ rfl))) (fun h_ H_=>xjv rfl rfl) (tm':=zq1 (zq2 (zq8 (zq32 (zq32 _))))) rfl ?_
  refine ro (xez rfl (decide_eq_false (fun z_=>z_ rfl)) (v:=.bool (decide (chkB t≠chkB t))) rfl) <| ro (xaq (v:=.bool (decide (chkB t≠chkB t))) rfl) ?_
  refine xbz (ms rfl rfl (decide_eq_false (fun z_=>z_ rfl))) (fun h_ H_=>xaq (v:=.slice a38 ((LKc t).length) cp39) rfl) (tm':=zq2 (zq4 (zq8 (zq32 (zq32 _))))) rfl ?_
  refine xbz (ms rfl rfl (decide_eq_false (fun z_=>z_ rfl))) (fun h_ H_=>xaq (v:=.slice a43 ((LKc t).length) cp44) rfl) rfl ?_
  refine xeq (ms rfl rfl (decide_eq_false (fun z_=>z_ rfl))) (first:=[]) (cap:=[]) rfl rfl fC27 (fun h_ H_=>c27 .lone _ _ H_.pe _ _ _ _ _ _ _ _ (((show Ints _ _ _ (LKc t) from D41).mono le45).mono le50) ((show Ints _ _ _ (LKc t) from D46).mono le50) (by omega)) rfl ?_
  refine xbz (ms rfl rfl (decide_eq_false (fun z_=>z_ rfl))) (fun h_ H_=>xjx rfl) (tm':=zq1 (zq16 (zq32 (zq32 _)))) rfl ?_
  refine ro (xez rfl (decide_eq_false (fun z_=>z_ rfl)) (v:=.bool (!(decide ((LKc t)=(LKc t))))) rfl) <| ro (xaq (v:=.bool (!(decide ((LKc t)=(LKc t))))) rfl) ?_
  refine xbz (ms rfl rfl (xfk (decide_eq_true rfl))) (fun h_ H_=>xaq (v:=.int .i64 (chkB t)) rfl) (tm':=zq4 (zq8 (zq16 (zq32 (zq32 (zq32 [])))))) rfl ?_
  refine xbz (ms rfl rfl (xfk (decide_eq_true rfl))) (fun h_ H_=>xaq (v:=.int .i64 (chkB t)) rfl) rfl ?_
  refine xbz (ms rfl rfl (xfk (decide_eq_true rfl))) (fun h_ H_=>xjv rfl rfl) rfl ?_
  refine rt (xez rfl (xfk (decide_eq_true rfl)) (v:=.bool (decide (chkB t≠chkB t))) rfl) (tm':=zq4 (zq8 (zq16 (zq32 (zq32 (zq32 [])))))) rfl <| ro (xaq (v:=.bool (decide (chkB t≠chkB t))) rfl) ?_
  refine xbz (ms rfl rfl (decide_eq_false (fun z_=>z_ rfl))) (fun h_ H_=>xaq (v:=.int .i64 (chkB t)) rfl) rfl ?_
  refine xbz (ms rfl rfl (decide_eq_false (fun z_=>z_ rfl))) (fun h_ H_=>xaq (v:=.int .i64 (chkB t)) rfl) (tm':=zq4 (zq8 (zq16 (zq32 (zq32 (zq32 [])))))) rfl ?_
  refine xbz (ms rfl rfl (decide_eq_false (fun z_=>z_ rfl))) (fun h_ H_=>xjv rfl rfl) rfl ?_
  refine ro (xez rfl (decide_eq_false (fun z_=>z_ rfl)) (v:=.bool (decide (chkB t≠chkB t))) rfl) <| rt (xaq (v:=.bool (decide (chkB t≠chkB t))) rfl) (tm':=zq4 (zq8 (zq16 (zq32 (zq32 (zq32 [])))))) rfl ?_
  refine xbz (ms rfl rfl (decide_eq_false (fun z_=>z_ rfl))) (fun h_ H_=>xav H_ tA25 tS25 rfl (i:=0) rfl (vs:=[.slice a14 t.nH cp15,.slice a19 t.nW cp20,.slice a24 t.m cp25]) rfl rfl) rfl ?_
  refine xbz (ms rfl rfl (decide_eq_false (fun z_=>z_ rfl))) (fun h_ H_=>xav H_ tA25 tS25 rfl (i:=1) rfl (vs:=[.slice a1 t.nH c1,.slice a2 t.nW c2,.slice a3 t.m c3]) rfl rfl) rfl ?_
  refine xeq (ms rfl rfl (decide_eq_false (fun z_=>z_ rfl))) (first:=[]) (cap:=[]) rfl rfl fC22 (fun h_ H_=>c22 .lone _ _ H_.pe _ _ _ _ _ _ t (show TownP _ _ _ _ _ _ _ t from ⟨((((((show Ints _ _ _ t.hs from D17).mono le21).mono le26).mono le40).mono le45).mono le50),(((((show Ints _ _ _ t.ws from D22).mono le26).mono le40).mono le45).mono le50),((((show Wys _ _ _ t.wy from D27).mono le40).mono le45).mono le50)⟩) (by omega) _ _ _ _ _ _ t (show TownP _ _ _ _ _ _ _ t from ⟨((((((T.h.mono le16).mono le21).mono le26).mono le40).mono le45).mono le50),((((((T.w.mono le16).mono le21).mono le26).mono le40).mono le45).mono le50),((((((T.y.mono le16).mono le21).mono le26).mono le40).mono le45).mono le50)⟩) (by omega)) (tm':=zq4 (zq8 (zq16 (zq32 (zq32 (zq32 [])))))) rfl ?_
  refine xbz (ms rfl rfl (decide_eq_false (fun z_=>z_ rfl))) (fun h_ H_=>xjx rfl) rfl ?_
  refine ro (xez rfl (decide_eq_false (fun z_=>z_ rfl)) (v:=.bool (!(decide (sameT t t)))) rfl) <| xak <| xck rfl (xfk (decide_eq_true (yhj t))) <| xcv <| xek <| fsr ?_
  refine rt (xaq (v:=.int .i64 (chkB t)) rfl) (tm':=zq4 (zq8 (zq16 (zq32 (zq32 (zq32 [])))))) rfl <| ro (xjv rfl rfl) <| xak ?_
  by_cases cc52:chkB t≠0
  ·
   have fL_:(fairC t).length=0:=by rw [zoj cc52];rfl
   refine xcw rfl (dtt cc52) <| fsr <| ro (xaq (v:=.slice a48 ((fairC t).length) cp49) rfl) <| rt (xfx Tryd.underlying22 rfl) (tm':=zq4 (zq8 (zq16 (zq32 (zq32 (zq32 [])))))) rfl <| ro (xkz rfl rfl) <| ro (xaq (v:=.bool (decide ((((fairC t).length:Nat):Int)=0))) rfl) ?_
   refine xeq (ms rfl rfl (decide_eq_true (by omega))) (first:=[]) (cap:=[]) rfl rfl fC16 (fun h_ H_=>c16 .lone _ _ H_.pe ((((((N.mono le16).mono le21).mono le26).mono le40).mono le45).mono le50) ((((((Z.mono le16).mono le21).mono le26).mono le40).mono le45).mono le50)) (tm':=zq4 (zq8 (zq16 (zq32 (zq32 (zq32 [])))))) rfl ?_
   refine ro (xdv rfl (decide_eq_true (by omega)) (v:=.bool (true)) rfl) ?_
   refine ro (xax (v:=.bool (true)) rfl) <| xak ?_
   refine yqq Tryd.func9 rfl (vs:=[.bool (true)]) (fun h_ H_=>⟨.bool (true),_,rfl,rfl,rfl⟩) (v:=.bool (true)) rfl ?_
   exact fun h_ H_=>⟨rfl,H_.kept⟩
  ·
   have hc_:chkB t=0:=by omega
   have hO:OkT t:=xuq hc_
   obtain ⟨h12,hV⟩:=wow hc_
   have fE_:=zdk hc_
   have fL_:(fairC t).length=t.m:=by rw [fE_];exact xzk t _
   have aD_:DivI t (fairC t):=by rw [fE_];exact divF hV hO xtq
   have lE_:lacks t (fairC t)=LKc t:=by rw [fE_,yyj hc_];rfl
   refine xck rfl (dff cc52) <| xcv <| fsr <| rt (xaq (v:=.slice a48 ((fairC t).length) cp49) rfl) (tm':=zq4 (zq8 (zq16 (zq32 (zq32 (zq32 [])))))) rfl <| ro (xfx Tryd.underlying22 rfl) <| ro (yck rfl rfl) ?_
   refine rt (xaq (v:=.bool (decide ((((fairC t).length:Nat):Int)≤40))) rfl) (tm':=zq4 (zq8 (zq16 (zq32 (zq32 (zq32 [])))))) rfl ?_
   refine xbz (ms rfl rfl (decide_eq_true (by omega))) (fun h_ H_=>xav H_ tA25 tS25 rfl (i:=1) rfl (vs:=[.slice a1 t.nH c1,.slice a2 t.nW c2,.slice a3 t.m c3]) rfl rfl) rfl ?_
   refine xbz (ms rfl rfl (decide_eq_true (by omega))) (fun h_ H_=>xaq (v:=.slice a48 ((fairC t).length) cp49) rfl) rfl ?_
   refine xeq (ms rfl rfl (decide_eq_true (by omega))) (first:=[]) (cap:=[]) rfl rfl fC31 (fun h_ H_=>c31 .lone _ _ H_.pe _ _ _ _ _ _ _ _ _ t (show TownP _ _ _ _ _ _ _ t from ⟨((((((T.h.mono le16).mono le21).mono le26).mono le40).mono le45).mono le50),((((((T.w.mono le16).mono le21).mono le26).mono le40).mono le45).mono le50),((((((T.y.mono le16).mono le21).mono le26).mono le40).mono le45).mono le50)⟩) (by omega) _ _ _ _ (show Ints _ _ _ (fairC t) from D51) hV.wok) (tm':=zq4 (zq8 (zq16 (zq32 (zq32 (zq32 [])))))) rfl ?_
   refine ro (xdv rfl (decide_eq_true (by omega)) (v:=.bool (decide (DivI t (fairC t)))) rfl) ?_
   refine ro (xaq (v:=.bool (decide (DivI t (fairC t)))) rfl) ?_
   refine xbz (ms rfl rfl (decide_eq_true aD_)) (fun h_ H_=>xav H_ tA25 tS25 rfl (i:=1) rfl (vs:=[.slice a1 t.nH c1,.slice a2 t.nW c2,.slice a3 t.m c3]) rfl rfl) (tm':=zq4 (zq8 (zq16 (zq32 (zq32 (zq32 [])))))) rfl ?_
   refine xbz (ms rfl rfl (decide_eq_true aD_)) (fun h_ H_=>xaq (v:=.slice a48 ((fairC t).length) cp49) rfl) rfl ?_
   refine xcz (L':=([(b12,.cells #[.slice a14 t.nH cp15,.slice a19 t.nW cp20,.slice a24 t.m cp25] 25 (0,0)),(b1,.cells #[.slice a1 t.nH c1,.slice a2 t.nW c2,.slice a3 t.m c3] 25 (0,0))]:Pcs)++[]) rfl ?_
   refine xjk (ms rfl rfl (decide_eq_true aD_)) (first:=[]) (cap:=[]) rfl rfl fC45 (R:=fun v_ h_=>∃ w53:Value,∃ X54:Pcs,v_=w53∧(OwnS 3 1 w53 (ics (lacks t (fairC t))) X54)∧St h [] p47 h_ (([(b12,.cells #[.slice a14 t.nH cp15,.slice a19 t.nW cp20,.slice a24 t.m cp25] 25 (0,0)),(b1,.cells #[.slice a1 t.nH c1,.slice a2 t.nW c2,.slice a3 t.m c3] 25 (0,0))]:Pcs)++(X54++[]))) (fun h_ H_=>(c45 .lone _ _ H_.pe _ _ _ _ _ _ _ _ _ t (show TownP _ _ _ _ _ _ _ t from ⟨((((((T.h.mono le16).mono le21).mono le26).mono le40).mono le45).mono le50),((((((T.w.mono le16).mono le21).mono le26).mono le40).mono le45).mono le50),((((((T.y.mono le16).mono le21).mono le26).mono le40).mono le45).mono le50)⟩) (by omega) _ _ _ _ (show Ints _ _ _ (fairC t) from D51) fL_ (fun i hi=>by rw [fE_];have z_:=zoz hO xtq i (by omega);unfold dv;omega) hV.wok (fun i hi=>by have z_:=hV.h i hi;omega)).mono fun v_ h2_ ⟨w53,X54,e_,o55,N_⟩=>⟨w53,X54,e_,o55,H_.callNA N_⟩) fun v_=>?_
   refine xgw fun w53=>xgw fun X54=>xfq fun ev_=>xfq fun o55=>?_
   have ev_:=ev_.symm;subst ev_
   refine xcz (L':=([(b12,.cells #[.slice a14 t.nH cp15,.slice a19 t.nW cp20,.slice a24 t.m cp25] 25 (0,0)),(b1,.cells #[.slice a1 t.nH c1,.slice a2 t.nW c2,.slice a3 t.m c3] 25 (0,0))]:Pcs)++(X54++[])) rfl ?_
   refine xbz (ms rfl rfl (decide_eq_true aD_)) (fun h_ H_=>xaq (v:=.slice a43 ((LKc t).length) cp44) rfl) (tm':=zq4 (zq8 (zq16 (zq32 (zq32 (zq32 [])))))) rfl ?_
   refine xwq (A:=([(b12,.cells #[.slice a14 t.nH cp15,.slice a19 t.nW cp20,.slice a24 t.m cp25] 25 (0,0)),(b1,.cells #[.slice a1 t.nH c1,.slice a2 t.nW c2,.slice a3 t.m c3] 25 (0,0))]:Pcs)) o55 ((xdq _).trans (xmq _ _)) fun p56 a57 cp58 le59 ev_ D60=>?_
   subst ev_
   refine xcz (L':=[(b12,.cells #[.slice a14 t.nH cp15,.slice a19 t.nW cp20,.slice a24 t.m cp25] 25 (0,0)),(b1,.cells #[.slice a1 t.nH c1,.slice a2 t.nW c2,.slice a3 t.m c3] 25 (0,0))]) rfl ?_
   refine xeq (ms rfl rfl (decide_eq_true aD_)) (first:=[]) (cap:=[]) rfl rfl fC27 (fun h_ H_=>c27 .lone _ _ H_.pe _ _ _ _ _ _ _ _ (show Ints _ _ _ (lacks t (fairC t)) from D60) (((show Ints _ _ _ (LKc t) from D46).mono le50).mono le59) (by omega)) rfl ?_
   refine ro (xdv rfl (decide_eq_true aD_) (v:=.bool (decide ((lacks t (fairC t))=(LKc t)))) rfl) <| rt (xaq (v:=.bool (decide ((lacks t (fairC t))=(LKc t)))) rfl) (tm':=zq4 (zq8 (zq16 (zq32 (zq32 (zq32 [])))))) rfl ?_
   refine xeq (ms rfl rfl (decide_eq_true lE_)) (first:=[]) (cap:=[]) rfl rfl fC16 (fun h_ H_=>c16 .lone _ _ H_.pe (((((((N.mono le16).mono le21).mono le26).mono le40).mono le45).mono le50).mono le59) (((((((Z.mono le16).mono le21).mono le26).mono le40).mono le45).mono le50).mono le59)) rfl ?_
   refine ro (xdv rfl (decide_eq_true lE_) (v:=.bool (true)) rfl) <| rt (xax (v:=.bool (true)) rfl) (tm':=_::_::_::_) rfl <| xak ?_
   refine yqq Tryd.func9 rfl (vs:=[.bool (true)]) (fun h_ H_=>⟨.bool (true),_,rfl,rfl,rfl⟩) (v:=.bool (true)) rfl ?_
   exact fun h_ H_=>⟨rfl,H_.kept⟩
end Go.Proofs.YtalfgojocdonhaaDoor
namespace Go.Proofs.YtalfgojocdonhaaDoor
open Go.X Go.X.Flow Go.Conc Go.RowKit Go.ChangeShapes Go.WideShapes Go.ChangeAt Go.Joins
set_option maxRecDepth 100000

theorem wrw (os:Os) (started:os.Started) (H:Type) (enc:TypeId × Value→H):
    ReturnsInHanded {} Tryd.checked os 9 .any (fun w args=>(Rows.bucketsLacksSpec.pre enc Tryd.prog Tryd.f9 Rows.bucketsLacksRow.domain false w args∧laidMetH Tryd.prog Rows.bucketsLacksRow.laid w)∧sizedMet enc Tryd.prog Tryd.f9 (OpenSpec.ofChange Rows.bucketsLacksSpec) false w args) (Rows.bucketsLacksSpec.post enc Tryd.prog Tryd.f9 false true false false):=by
  refine returnsInHanded_of_change_and (C:=Tryd.checked) (X:=fun w _=>laidMetH Tryd.prog Rows.bucketsLacksRow.laid w) (fun _ _ _ hh h=>h.of_heap hh) pOwn started (by kernel_rfl) Tryd.func9
    (ChangeSpec.witness_shaped (enc:=enc) (C:=Tryd.checked) (os:=os) (X:=fun w _=>laidMetH Tryd.prog Rows.bucketsLacksRow.laid w) false (laidW os) #[.agg #[.slice none 0 0,.slice none 0 0,.slice none 0 0]] 8 (World.laidAll_os _ _ _)
      (World.shaped_of_ZipB (by kernel_rfl) (by kernel_rfl)) (by kernel_rfl) (by kernel_rfl) (by kernel_rfl) (zck os _)) ?_
  intro W base args ds gs before hval0 hW _ _ hL _
  have hval: ∀ (j:Nat) t v,Tryd.f9.params[j]?=some t→args[j]?=some v→Value.okWide Tryd.prog W .any base t v:=hval0
  have hW2:=hW
  obtain ⟨p,q,hA0,hV,rfl,_,_⟩:=hW2
  have hA:DataW.TrodAll enc Tryd.prog W 0 (fun _=>true) true Tryd.f9.params.toList args.toList ds p:=hA0
  rw [Tryd.params9] at hA hval
  obtain ⟨v0,d0,rfl,rfl,h0⟩:=trodAll_one hA
  obtain ⟨rfl,rfl⟩:=trodVars_none hV
  obtain ⟨a1,c1,a2,c2,a3,c3,t,rfl,hl,_,T⟩:=zbk (hval 0 25 v0 rfl rfl) h0
  refine (xzw (e9 W.heap (pW W) (wnk W) a1 a2 a3 c1 c2 c3 t T hl (ykq hL) (ynv hL))).mono fun e W2 ⟨v,he,⟨hv,hk_⟩,cl⟩=>⟨v,he,?_⟩
  subst hv
  exact znz wxw rfl (fun t ht=>by rw [Tryd.params9] at ht;revert t;decide +kernel) rfl Tryd.underlying4 hW rfl (zpj hk_ cl)

theorem bucketsLacksRowHolds:Rows.BucketsLacksSaid:=
  OpenClaim.holds_of_wide 9 Tryd.f9 rfl rfl rfl rfl rfl rfl rfl ⟨rfl,rfl,rfl,rfl,rfl⟩ rfl rfl rfl rfl rfl (by kernel_rfl) Tryd.func9 (by kernel_rfl)
    (of_decide_eq_true (by kernel_rfl)) (by unfold Func.isWrapper;first | (rw [if_pos (by decide +kernel)];kernel_rfl) | (rw [if_neg (by decide +kernel)];exact ⟨rfl,rfl⟩))
    (fun os started H enc _=>wrw os started H enc)

theorem bucketsLacksHolds:Rows.BucketsLacksCardSaid:=
  Claim7.holds_tied_plain_at .later [] [.data, .data, .data] true (true, "5334d201df14a8cbe7ef60c793562a47fe331153d035b74b45b1c636860d1486") false bucketsLacksRowHolds (fun _ h => by cases h) (by kernel_rfl) (fun _ h => by cases h) bucketsLacks_row_tie rfl ⟨rfl, rfl⟩ (by kernel_rfl) rfl
    (fun f fn hf hfn=>by
      obtain rfl : f = 9 := Option.some.inj ((show Tryd.prog.funcNamed "steening/steeninglaw03.BucketsLacks" = some 9 by kernel_rfl).symm.trans hf) |>.symm
      obtain rfl:fn= Tryd.f9:=(Option.some.inj (Tryd.func9.symm.trans hfn)).symm
      exact ⟨by kernel_rfl,fun j t ht=>by
        rw [Tryd.params9] at ht
        have hm:t∈[25]:=by simpa using Array.mem_of_getElem? ht
        have hall:([25].all fun u=>!Tryd.prog.wantsStandIn u)=true:=by kernel_rfl
        exact (show Tryd.prog.wantsStandIn t=false by simpa using List.all_eq_true.1 hall t hm)⟩)
    (by kernel_rfl)

#print axioms bucketsLacksHolds
end Go.Proofs.YtalfgojocdonhaaDoor
