/-
  BucketsHelps, for every input: the law returns true and leaves its arguments as they were. The row, and the tied card.
-/
import Derived.Test.YtalfgojocdonhaaDoorD2
import Derived.Test.YtalfgojocdonhaaDoorD1
import Derived.Test.YtalfgojocdonhaaDoorD3
import Derived.Test.YtalfgojocdonhaaDoorD4
import Derived.Test.YtalfgojocdonhaaDoorD5
import Derived.Test.YtalfgojocdonhaaDoorD6
import Derived.Test.YtalfgojocdonhaaDoorCards
import Derived.Test.YtalfgojocdonhaaDoorTie
namespace Go.Proofs.YtalfgojocdonhaaDoor
open Go.X Go.X.Flow Go.Conc
set_option maxRecDepth 10000
set_option synthInstance.maxSize 2000

set_option maxHeartbeats 2000000
theorem e11 (h:Heap) (p:PHeap) (hp:Per p h) (a1 a2 a3:Option Addr) (c1 c2 c3:Nat) (t:Tn) (T:TownP p a1 t.nH a2 t.nW a3 t.m t) (hl:t.nH≤9223372036854775807∧t.nW≤9223372036854775807∧t.m≤9223372036854775807) (x y:Int) (N:NoneP p) (Z:TabP p):EntersL Tryd.prog 11 #[.agg #[.slice a1 t.nH c1,.slice a2 t.nW c2,.slice a3 t.m c3],.int .i64 (x),.int .i64 (y)] h fun v h'=>v= .bool true∧Keep h h':=by
 refine zav (Φ:=fun h_=>St h [] p h_ []) Tryd.func11 rfl (tm:=zq2 (zq8 (zq32 (zq32 (zq32 []))))) rfl ?_ (St.start h _ hp)
 intro cs
 refine fsr ?_
 refine xij mn (v:=.agg #[.slice a1 t.nH c1,.slice a2 t.nW c2,.slice a3 t.m c3]) rfl fun b1=>xcq (L':=[(b1,.cells #[.slice a1 t.nH c1,.slice a2 t.nW c2,.slice a3 t.m c3] 25 (0,0))]) rfl ?_
 refine ro (xax (v:=.bool (false)) rfl) <| ren <| fsr ?_
 refine xbx mn (fun h_ H_=>xav H_ tA25 tS25 rfl (i:=0) rfl (vs:=[.slice a1 t.nH c1,.slice a2 t.nW c2,.slice a3 t.m c3]) rfl rfl) (tm':=zq1 (zq4 (zq16 _))) rfl ?_
 refine xeq mn (first:=[]) (cap:=[]) rfl rfl fC15 (fun h_ H_=>c15 .lone _ _ H_.pe _ _ _ _ _ _ t (show TownP _ _ _ _ _ _ _ t from ⟨T.h,T.w,T.y⟩) hl) rfl ?_
 refine ro (xaq (v:=.bool (farB t)) rfl) ?_
 rcases ybj (farB t) with cc2 | cc2
 ·
  refine xfx (mo rfl rfl cc2) (tm':=zq8 (zq16 _)) rfl <| rp (mo rfl rfl cc2) <| rp (mo rfl rfl cc2) <| xfx (mo rfl rfl cc2) (tm':=zq1 (zq2 (zq8 (zq16 _)))) rfl <| rp (xew rfl rfl) <| rp (xew rfl rfl) ?_
  refine xfx (xew rfl rfl) (tm':=zq2 (zq4 (zq8 (zq16 _)))) rfl <| rp (xew rfl rfl) <| rp (mo rfl rfl cc2) <| rt (xdz rfl cc2 (v:=.bool (true)) rfl) (tm':=zq1 (zq32 _)) rfl <| xak <| xdx rfl rfl ?_
  refine fsr ?_
  refine xeq mn (first:=[]) (cap:=[]) rfl rfl fC16 (fun h_ H_=>c16 .lone _ _ H_.pe N Z) rfl ?_
  refine ro (xax (v:=.bool (true)) rfl) <| xak ?_
  refine yzw Tryd.func11 rfl (vs:=[.bool (true)]) (fun h_ H_=>⟨.bool (true),_,rfl,rfl,rfl⟩) (v:=.bool (true)) rfl ?_
  exact fun h_ H_=>⟨rfl,H_.kept⟩
 ·
  have hf_:=cc2
  have hn:t.nH≤40∧t.nW≤40∧t.m≤41:=by have z_:=vax hf_;unfold Big at z_;omega
  have hc0_:=far_W hf_
  have lh_:t.hs.length≤40:=hn.1
  have lw_:t.ws.length≤40:=hn.2.1
  have ly_:t.wy.length≤41:=hn.2.2
  have sl_:=zwx (t:=t)
  have hl_:=zyx (t:=t)
  refine xbx (ms rfl rfl cc2) (fun h_ H_=>xav H_ tA25 tS25 rfl (i:=0) rfl (vs:=[.slice a1 t.nH c1,.slice a2 t.nW c2,.slice a3 t.m c3]) rfl rfl) (tm':=zq8 (zq16 _)) rfl ?_
  refine xeq (ms rfl rfl cc2) (first:=[]) (cap:=[]) rfl rfl fC48 (fun h_ H_=>c48 .lone _ _ H_.pe _ _ _ _ _ _ _ _ _ t (show TownP _ _ _ _ _ _ _ t from ⟨T.h,T.w,T.y⟩) (by omega)) rfl ?_
  refine xbx (ms rfl rfl cc2) (fun h_ H_=>xkw rfl rfl) rfl ?_
  refine xbx (ms rfl rfl cc2) (fun h_ H_=>xaq (v:=.bool (decide (chkB t=0))) rfl) (tm':=zq1 (zq2 (zq8 (zq16 _)))) rfl ?_
  by_cases cc3:chkB t=0
  ·
   have hO:OkT t:=xuz cc3
   refine xbx (ms rfl rfl (dtt cc3)) (fun h_ H_=>xav H_ tA25 tS25 rfl (i:=0) rfl (vs:=[.slice a1 t.nH c1,.slice a2 t.nW c2,.slice a3 t.m c3]) rfl rfl) rfl ?_
   refine xbx (ms rfl rfl (dtt cc3)) (fun h_ H_=>xaq (v:=.int .i64 (x)) rfl) rfl ?_
   refine xbx (ms rfl rfl (dtt cc3)) (fun h_ H_=>xaq (v:=.int .i64 (y)) rfl) (tm':=zq2 (zq4 (zq8 (zq16 _)))) rfl ?_
   refine xeq (ms rfl rfl (dtt cc3)) (first:=[]) (cap:=[]) rfl rfl fC51 (fun h_ H_=>c51 .lone _ _ H_.pe _ _ _ _ _ _ t (show TownP _ _ _ _ _ _ _ t from ⟨T.h,T.w,T.y⟩) (by omega) hO (x) (y)) rfl ?_
   refine xbx (ms rfl rfl cc2) (fun h_ H_=>xdz rfl (dtt cc3) (v:=.bool (moreB t (x) (y))) rfl) rfl ?_
   refine rt (xej rfl cc2 (v:=.bool (moreB t (x) (y))) rfl) (tm':=zq1 (zq32 _)) rfl <| xak ?_
   rcases ybj (moreB t (x) (y)) with cc4 | cc4
   ·
    refine xdx rfl cc4 <| fsr ?_
    refine xeq mn (first:=[]) (cap:=[]) rfl rfl fC16 (fun h_ H_=>c16 .lone _ _ H_.pe N Z) rfl ?_
    refine ro (xax (v:=.bool (true)) rfl) <| xak ?_
    refine yzw Tryd.func11 rfl (vs:=[.bool (true)]) (fun h_ H_=>⟨.bool (true),_,rfl,rfl,rfl⟩) (v:=.bool (true)) rfl ?_
    exact fun h_ H_=>⟨rfl,H_.kept⟩
   ·
    have hcM_:chkB t=0→prodM t t.m≤2000:=fun _=>vgv cc4
    have hcW_:(0≤x∧x≤(t.nH:Int)-1)→(0≤y∧y≤(t.nW:Int)-1)→chkB t=0→prodW (withT t (x,y)) (withT t (x,y)).m 0≤2000:=fun hx_ hy_ _=>wfk hO.toOk cc4 hx_ hy_
    refine xck rfl cc4 <| xcv <| fsr ?_
    refine xbx mn (fun h_ H_=>xav H_ tA25 tS25 rfl (i:=0) rfl (vs:=[.slice a1 t.nH c1,.slice a2 t.nW c2,.slice a3 t.m c3]) rfl rfl) (tm':=zq1 (zq2 (zq32 _))) rfl ?_
    refine xcq (L':=([(b1,.cells #[.slice a1 t.nH c1,.slice a2 t.nW c2,.slice a3 t.m c3] 25 (0,0))]:Pcs)++[]) rfl ?_
    refine xiw mn (first:=[]) (cap:=[]) rfl rfl fC17 (R:=fun v_ h_=>∃ w5:Value,∃ w6:Value,∃ w7:Value,∃ X8:Pcs,∃ X9:Pcs,∃ X10:Pcs,v_= .agg #[w5,w6,w7]∧(OwnS 3 1 w5 (ics t.hs) X8)∧(OwnS 3 1 w6 (ics t.ws) X9)∧(OwnS 43 2 w7 (wcs t.wy) X10)∧St h [] p h_ (([(b1,.cells #[.slice a1 t.nH c1,.slice a2 t.nW c2,.slice a3 t.m c3] 25 (0,0))]:Pcs)++((X10++(X8++(X9++[])))++[]))) (fun h_ H_=>(c17 .lone _ _ H_.pe _ _ _ _ _ _ t (show TownP _ _ _ _ _ _ _ t from ⟨T.h,T.w,T.y⟩) (by omega)).mono fun v_ h2_ ⟨w5,w6,w7,X8,X9,X10,e_,o11,o12,o13,N_⟩=>⟨w5,w6,w7,X8,X9,X10,e_,o11,o12,o13,H_.callNA N_⟩) fun v_=>?_
    refine xgz fun w5=>xgz fun w6=>xgz fun w7=>xgz fun X8=>xgz fun X9=>xgz fun X10=>xfq fun ev_=>xfq fun o11=>xfq fun o12=>xfq fun o13=>?_
    have ev_:=ev_.symm;subst ev_
    refine xcq (L':=([(b1,.cells #[.slice a1 t.nH c1,.slice a2 t.nW c2,.slice a3 t.m c3] 25 (0,0))]:Pcs)++(X10++(X8++(X9++[])))) (by simp) ?_
    refine xkx mn tZ25 rfl fun b14=>xcq (L':=([(b14,.cells #[.slice none 0 0,.slice none 0 0,.slice none 0 0] 25 (0,0)),(b1,.cells #[.slice a1 t.nH c1,.slice a2 t.nW c2,.slice a3 t.m c3] 25 (0,0))]:Pcs)++(X10++(X8++(X9++[])))) rfl ?_
    refine xik mn tS25 rfl (v:=.agg #[w5,w6,w7]) rfl (i:=0) rfl rfl (xfk o11.one.2 (xfk o12.one.2 (xfk o13.one.2 rfl))) (Nat.le_of_ble_eq_true rfl) (cs2:=[w5,w6,w7]) rfl (xcq (L':=([(b14,.cells #[w5,w6,w7] 25 (0,0)),(b1,.cells #[.slice a1 t.nH c1,.slice a2 t.nW c2,.slice a3 t.m c3] 25 (0,0))]:Pcs)++(X10++(X8++(X9++[])))) rfl ?_)
    refine ren ?_
    refine xgv (List.Perm.append_left _ (List.perm_append_comm_assoc _ _ _)) ?_
    refine xlk (L':=([(b14,.cells #[w5,w6,w7] 25 (0,0)),(b1,.cells #[.slice a1 t.nH c1,.slice a2 t.nW c2,.slice a3 t.m c3] 25 (0,0))]:Pcs)++(X8++(X10++(X9++[])))) rfl ?_
    refine xqx (A:=([(b14,.cells #[w5,w6,w7] 25 (0,0)),(b1,.cells #[.slice a1 t.nH c1,.slice a2 t.nW c2,.slice a3 t.m c3] 25 (0,0))]:Pcs)) o11 (show (ics t.hs).length=t.nH from xcw _) fun p15 a16 cp17 le18 ev_ D19=>?_
    subst ev_
    refine xgv (List.Perm.append_left _ (List.perm_append_comm_assoc _ _ _)) ?_
    refine xlk (L':=([(b14,.cells #[.slice a16 t.nH cp17,w6,w7] 25 (0,0)),(b1,.cells #[.slice a1 t.nH c1,.slice a2 t.nW c2,.slice a3 t.m c3] 25 (0,0))]:Pcs)++(X9++(X10++[]))) rfl ?_
    refine xqx (A:=([(b14,.cells #[.slice a16 t.nH cp17,w6,w7] 25 (0,0)),(b1,.cells #[.slice a1 t.nH c1,.slice a2 t.nW c2,.slice a3 t.m c3] 25 (0,0))]:Pcs)) o12 (show (ics t.ws).length=t.nW from xcw _) fun p20 a21 cp22 le23 ev_ D24=>?_
    subst ev_
    refine xsv (A:=([(b14,.cells #[.slice a16 t.nH cp17,.slice a21 t.nW cp22,w7] 25 (0,0)),(b1,.cells #[.slice a1 t.nH c1,.slice a2 t.nW c2,.slice a3 t.m c3] 25 (0,0))]:Pcs)) o13 (wcs_size _) (by decide) fun p25 a26 cp27 le28 ev_ D29 hcD29=>?_
    subst ev_
    refine xlk (L':=[(b14,.cells #[.slice a16 t.nH cp17,.slice a21 t.nW cp22,.slice a26 t.m cp27] 25 (0,0)),(b1,.cells #[.slice a1 t.nH c1,.slice a2 t.nW c2,.slice a3 t.m c3] 25 (0,0))]) rfl ?_
    refine xbq ?_
    refine xbx mn (fun h_ H_=>xav H_ tA25 tS25 rfl (i:=0) rfl (vs:=[.slice a16 t.nH cp17,.slice a21 t.nW cp22,.slice a26 t.m cp27]) rfl rfl) (tm':=zq2 (zq4 (zq32 _))) rfl ?_
    refine xcq (L':=([(b14,.cells #[.slice a16 t.nH cp17,.slice a21 t.nW cp22,.slice a26 t.m cp27] 25 (0,0)),(b1,.cells #[.slice a1 t.nH c1,.slice a2 t.nW c2,.slice a3 t.m c3] 25 (0,0))]:Pcs)++[]) rfl ?_
    refine xiw mn (first:=[]) (cap:=[]) rfl rfl fC25 (R:=fun v_ h_=>∃ w30:Value,∃ X31:Pcs,v_= .tuple #[w30,.int .i64 (shortE t)]∧(OwnS 3 1 w30 (ics (shortC t)) X31)∧St h [] p25 h_ (([(b14,.cells #[.slice a16 t.nH cp17,.slice a21 t.nW cp22,.slice a26 t.m cp27] 25 (0,0)),(b1,.cells #[.slice a1 t.nH c1,.slice a2 t.nW c2,.slice a3 t.m c3] 25 (0,0))]:Pcs)++(X31++[]))) (fun h_ H_=>(c25 .lone _ _ H_.pe _ _ _ _ _ _ t (show TownP _ _ _ _ _ _ _ t from ⟨(((show Ints _ _ _ t.hs from D19).mono le23).mono le28),((show Ints _ _ _ t.ws from D24).mono le28),(show Wys _ _ _ t.wy from D29)⟩) (by omega) (((Z.mono le18).mono le23).mono le28)).mono fun v_ h2_ ⟨w30,X31,e_,o32,N_⟩=>⟨w30,X31,e_,o32,H_.callNA N_⟩) fun v_=>?_
    refine xgz fun w30=>xgz fun X31=>xfq fun ev_=>xfq fun o32=>?_
    have ev_:=ev_.symm;subst ev_
    refine xcq (L':=([(b14,.cells #[.slice a16 t.nH cp17,.slice a21 t.nW cp22,.slice a26 t.m cp27] 25 (0,0)),(b1,.cells #[.slice a1 t.nH c1,.slice a2 t.nW c2,.slice a3 t.m c3] 25 (0,0))]:Pcs)++(X31++[])) rfl ?_
    refine ro (xaq (v:=.tuple #[w30,.int .i64 (shortE t)]) rfl) <| rt (xev rfl (v:=w30) rfl) (tm':=zq8 (zq32 _)) rfl <| ro (xev rfl (v:=.int .i64 (shortE t)) rfl) <| ro (xax (v:=w30) rfl) <| rt (xax (v:=.int .i64 (shortE t)) rfl) (tm':=zq2 (zq8 _)) rfl <| ren ?_
    refine xqx (A:=([(b14,.cells #[.slice a16 t.nH cp17,.slice a21 t.nW cp22,.slice a26 t.m cp27] 25 (0,0)),(b1,.cells #[.slice a1 t.nH c1,.slice a2 t.nW c2,.slice a3 t.m c3] 25 (0,0))]:Pcs)) o32 ((xcw _).trans rfl) fun p33 a34 cp35 le36 ev_ D37=>?_
    subst ev_
    refine xlk (L':=[(b14,.cells #[.slice a16 t.nH cp17,.slice a21 t.nW cp22,.slice a26 t.m cp27] 25 (0,0)),(b1,.cells #[.slice a1 t.nH c1,.slice a2 t.nW c2,.slice a3 t.m c3] 25 (0,0))]) rfl ?_
    refine xbq <| rd (fun h_ H_=>xav H_ tA25 tS25 rfl (i:=1) rfl (vs:=[.slice a1 t.nH c1,.slice a2 t.nW c2,.slice a3 t.m c3]) rfl rfl) ?_
    refine xcq (L':=([(b14,.cells #[.slice a16 t.nH cp17,.slice a21 t.nW cp22,.slice a26 t.m cp27] 25 (0,0)),(b1,.cells #[.slice a1 t.nH c1,.slice a2 t.nW c2,.slice a3 t.m c3] 25 (0,0))]:Pcs)++[]) rfl ?_
    refine xiw mn (first:=[]) (cap:=[]) rfl rfl fC52 (R:=fun v_ h_=>∃ w38:Value,∃ Z39:Pcs,v_= .tuple #[w38,.int .i64 (shortE t)]∧(Inn p33 [[w38]] [shortC t] Z39)∧St h [] p33 h_ (([(b14,.cells #[.slice a16 t.nH cp17,.slice a21 t.nW cp22,.slice a26 t.m cp27] 25 (0,0)),(b1,.cells #[.slice a1 t.nH c1,.slice a2 t.nW c2,.slice a3 t.m c3] 25 (0,0))]:Pcs)++(Z39++[]))) (fun h_ H_=>(c52 .lone _ _ H_.pe _ _ _ _ _ _ t (show TownP _ _ _ _ _ _ _ t from ⟨((((T.h.mono le18).mono le23).mono le28).mono le36),((((T.w.mono le18).mono le23).mono le28).mono le36),((((T.y.mono le18).mono le23).mono le28).mono le36)⟩) (by omega)).mono fun v_ h2_ ⟨w38,Z39,e_,i40,N_⟩=>⟨w38,Z39,e_,i40,H_.callNA N_⟩) fun v_=>?_
    refine xgz fun w38=>xgz fun Z39=>xfq fun ev_=>xfq fun i40=>?_
    have ev_:=ev_.symm;subst ev_
    refine xcq (L':=([(b14,.cells #[.slice a16 t.nH cp17,.slice a21 t.nW cp22,.slice a26 t.m cp27] 25 (0,0)),(b1,.cells #[.slice a1 t.nH c1,.slice a2 t.nW c2,.slice a3 t.m c3] 25 (0,0))]:Pcs)++(Z39++[])) rfl ?_
    refine rt (xaq (v:=.tuple #[w38,.int .i64 (shortE t)]) rfl) (tm':=zq2 (zq8 (zq32 _))) rfl <| ro (xev rfl (v:=w38) rfl) <| ro (xev rfl (v:=.int .i64 (shortE t)) rfl) <| rt (xax (v:=w38) rfl) (tm':=zq1 (zq2 (zq8 _))) rfl <| ro (xax (v:=.int .i64 (shortE t)) rfl) <| ren ?_
    refine yfj (A:=([(b14,.cells #[.slice a16 t.nH cp17,.slice a21 t.nW cp22,.slice a26 t.m cp27] 25 (0,0)),(b1,.cells #[.slice a1 t.nH c1,.slice a2 t.nW c2,.slice a3 t.m c3] 25 (0,0))]:Pcs)) (Z:=Z39) fun p41 le42 hz43=>?_
    refine xlk (L':=[(b14,.cells #[.slice a16 t.nH cp17,.slice a21 t.nW cp22,.slice a26 t.m cp27] 25 (0,0)),(b1,.cells #[.slice a1 t.nH c1,.slice a2 t.nW c2,.slice a3 t.m c3] 25 (0,0))]) rfl ?_
    obtain ⟨a44,cp45,e_,D46⟩:=whz (i40 _ le42 (fun x_ hx_=>hz43 x_ hx_))
    subst e_
    refine xbq <| rd (fun h_ H_=>xav H_ tA25 tS25 rfl (i:=0) rfl (vs:=[.slice a16 t.nH cp17,.slice a21 t.nW cp22,.slice a26 t.m cp27]) rfl rfl) ?_
    refine xcq (L':=([(b14,.cells #[.slice a16 t.nH cp17,.slice a21 t.nW cp22,.slice a26 t.m cp27] 25 (0,0)),(b1,.cells #[.slice a1 t.nH c1,.slice a2 t.nW c2,.slice a3 t.m c3] 25 (0,0))]:Pcs)++[]) rfl ?_
    refine xiw mn (first:=[]) (cap:=[]) rfl rfl fC53 (R:=fun v_ h_=>∃ w47:Value,∃ X48:Pcs,v_= .tuple #[w47,.int .i64 (chkB t)]∧(OwnS 3 1 w47 (ics (helpsC t)) X48)∧St h [] p41 h_ (([(b14,.cells #[.slice a16 t.nH cp17,.slice a21 t.nW cp22,.slice a26 t.m cp27] 25 (0,0)),(b1,.cells #[.slice a1 t.nH c1,.slice a2 t.nW c2,.slice a3 t.m c3] 25 (0,0))]:Pcs)++(X48++[]))) (fun h_ H_=>(c53 .lone _ _ H_.pe _ _ _ _ _ _ t (show TownP _ _ _ _ _ _ _ t from ⟨(((((show Ints _ _ _ t.hs from D19).mono le23).mono le28).mono le36).mono le42),((((show Ints _ _ _ t.ws from D24).mono le28).mono le36).mono le42),(((show Wys _ _ _ t.wy from D29).mono le36).mono le42)⟩) (by omega) (((((N.mono le18).mono le23).mono le28).mono le36).mono le42)).mono fun v_ h2_ ⟨w47,X48,e_,o49,N_⟩=>⟨w47,X48,e_,o49,H_.callNA N_⟩) fun v_=>?_
    refine xgz fun w47=>xgz fun X48=>xfq fun ev_=>xfq fun o49=>?_
    have ev_:=ev_.symm;subst ev_
    refine xcq (L':=([(b14,.cells #[.slice a16 t.nH cp17,.slice a21 t.nW cp22,.slice a26 t.m cp27] 25 (0,0)),(b1,.cells #[.slice a1 t.nH c1,.slice a2 t.nW c2,.slice a3 t.m c3] 25 (0,0))]:Pcs)++(X48++[])) rfl ?_
    refine xfj (tm':=zq1 (zq16 (zq32 _))) rfl ?_
    refine ro (xaq (v:=.tuple #[w47,.int .i64 (chkB t)]) rfl) <| ro (xev rfl (v:=w47) rfl) <| rt (xev rfl (v:=.int .i64 (chkB t)) rfl) (tm':=zq1 (zq2 (zq16 (zq32 _)))) rfl <| ro (xax (v:=w47) rfl) <| ro (xax (v:=.int .i64 (chkB t)) rfl) <| ren ?_
    refine xqx (A:=([(b14,.cells #[.slice a16 t.nH cp17,.slice a21 t.nW cp22,.slice a26 t.m cp27] 25 (0,0)),(b1,.cells #[.slice a1 t.nH c1,.slice a2 t.nW c2,.slice a3 t.m c3] 25 (0,0))]:Pcs)) o49 ((xcw _).trans rfl) fun p50 a51 cp52 le53 ev_ D54=>?_
    subst ev_
    refine xlk (L':=[(b14,.cells #[.slice a16 t.nH cp17,.slice a21 t.nW cp22,.slice a26 t.m cp27] 25 (0,0)),(b1,.cells #[.slice a1 t.nH c1,.slice a2 t.nW c2,.slice a3 t.m c3] 25 (0,0))]) rfl ?_
    refine xbq ?_
    refine xbx mn (fun h_ H_=>xav H_ tA25 tS25 rfl (i:=1) rfl (vs:=[.slice a1 t.nH c1,.slice a2 t.nW c2,.slice a3 t.m c3]) rfl rfl) (tm':=zq1 (zq4 (zq16 (zq32 _)))) rfl ?_
    refine xcq (L':=([(b14,.cells #[.slice a16 t.nH cp17,.slice a21 t.nW cp22,.slice a26 t.m cp27] 25 (0,0)),(b1,.cells #[.slice a1 t.nH c1,.slice a2 t.nW c2,.slice a3 t.m c3] 25 (0,0))]:Pcs)++[]) rfl ?_
    refine xiw mn (first:=[]) (cap:=[]) rfl rfl fC54 (R:=fun v_ h_=>∃ w55:Value,∃ X56:Pcs,v_= .tuple #[w55,.int .i64 (chkB t)]∧(OwnS 3 1 w55 (ics (helpsC t)) X56)∧St h [] p50 h_ (([(b14,.cells #[.slice a16 t.nH cp17,.slice a21 t.nW cp22,.slice a26 t.m cp27] 25 (0,0)),(b1,.cells #[.slice a1 t.nH c1,.slice a2 t.nW c2,.slice a3 t.m c3] 25 (0,0))]:Pcs)++(X56++[]))) (fun h_ H_=>(c54 .lone _ _ H_.pe _ _ _ _ _ _ t (show TownP _ _ _ _ _ _ _ t from ⟨((((((T.h.mono le18).mono le23).mono le28).mono le36).mono le42).mono le53),((((((T.w.mono le18).mono le23).mono le28).mono le36).mono le42).mono le53),((((((T.y.mono le18).mono le23).mono le28).mono le36).mono le42).mono le53)⟩) (by omega) hc0_ hcM_).mono fun v_ h2_ ⟨w55,X56,e_,o57,N_⟩=>⟨w55,X56,e_,o57,H_.callNA N_⟩) fun v_=>?_
    refine xgz fun w55=>xgz fun X56=>xfq fun ev_=>xfq fun o57=>?_
    have ev_:=ev_.symm;subst ev_
    refine xcq (L':=([(b14,.cells #[.slice a16 t.nH cp17,.slice a21 t.nW cp22,.slice a26 t.m cp27] 25 (0,0)),(b1,.cells #[.slice a1 t.nH c1,.slice a2 t.nW c2,.slice a3 t.m c3] 25 (0,0))]:Pcs)++(X56++[])) rfl ?_
    refine ro (xaq (v:=.tuple #[w55,.int .i64 (chkB t)]) rfl) <| rt (xev rfl (v:=w55) rfl) (tm':=zq1 (zq2 (zq4 (zq16 (zq32 _))))) rfl <| ro (xev rfl (v:=.int .i64 (chkB t)) rfl) <| ro (xax (v:=w55) rfl) <| rt (xax (v:=.int .i64 (chkB t)) rfl) (tm':=zq16 _) rfl <| ren ?_
    refine xqx (A:=([(b14,.cells #[.slice a16 t.nH cp17,.slice a21 t.nW cp22,.slice a26 t.m cp27] 25 (0,0)),(b1,.cells #[.slice a1 t.nH c1,.slice a2 t.nW c2,.slice a3 t.m c3] 25 (0,0))]:Pcs)) o57 ((xcw _).trans rfl) fun p58 a59 cp60 le61 ev_ D62=>?_
    subst ev_
    refine xlk (L':=[(b14,.cells #[.slice a16 t.nH cp17,.slice a21 t.nW cp22,.slice a26 t.m cp27] 25 (0,0)),(b1,.cells #[.slice a1 t.nH c1,.slice a2 t.nW c2,.slice a3 t.m c3] 25 (0,0))]) rfl ?_
    refine xbq <| rd (fun h_ H_=>xav H_ tA25 tS25 rfl (i:=0) rfl (vs:=[.slice a16 t.nH cp17,.slice a21 t.nW cp22,.slice a26 t.m cp27]) rfl rfl) <| ro (xaq (v:=.int .i64 (x)) rfl) <| rt (xaq (v:=.int .i64 (y)) rfl) (tm':=zq4 (zq8 (zq16 (zq32 _)))) rfl ?_
    refine xeq mn (first:=[]) (cap:=[]) rfl rfl fC55 (fun h_ H_=>(show CallsX Tryd.prog .lone 55 #[.agg #[.slice a16 t.nH cp17,.slice a21 t.nW cp22,.slice a26 t.m cp27],.int .i64 (x),.int .i64 (y)] h_ (fun v_ h2_=>v_= .tuple #[.bool (decide (wayB t (x) (y)=true)),.int .i64 (wayE t (x) (y))]∧Keep h_ h2_) from (c55 .lone _ _ H_.pe _ _ _ _ _ _ t (show TownP _ _ _ _ _ _ _ t from ⟨(((((((show Ints _ _ _ t.hs from D19).mono le23).mono le28).mono le36).mono le42).mono le53).mono le61),((((((show Ints _ _ _ t.ws from D24).mono le28).mono le36).mono le42).mono le53).mono le61),(((((show Wys _ _ _ t.wy from D29).mono le36).mono le42).mono le53).mono le61)⟩) (by omega) hcD29 (x) (y) (((((((N.mono le18).mono le23).mono le28).mono le36).mono le42).mono le53).mono le61)).mono fun _ _ ⟨e_,k_⟩=>⟨by rw [e_,Bool.decide_eq_true],k_⟩)) rfl ?_
    refine ro (xaq (v:=.tuple #[.bool (decide (wayB t (x) (y)=true)),.int .i64 (wayE t (x) (y))]) rfl) <| rt (xev rfl (v:=.bool (decide (wayB t (x) (y)=true))) rfl) (tm':=zq2 (zq4 (zq8 (zq16 (zq32 _))))) rfl <| ro (xev rfl (v:=.int .i64 (wayE t (x) (y))) rfl) <| ro (xax (v:=.bool (decide (wayB t (x) (y)=true))) rfl) <| rt (xax (v:=.int .i64 (wayE t (x) (y))) rfl) (tm':=zq2 (zq16 _)) rfl <| ren ?_
    refine xbq <| rd (fun h_ H_=>xav H_ tA25 tS25 rfl (i:=1) rfl (vs:=[.slice a1 t.nH c1,.slice a2 t.nW c2,.slice a3 t.m c3]) rfl rfl) <| ro (xaq (v:=.int .i64 (x)) rfl) <| rt (xaq (v:=.int .i64 (y)) rfl) (tm':=zq1 (zq2 (zq32 (zq32 _)))) rfl ?_
    refine xeq mn (first:=[]) (cap:=[]) rfl rfl fC56 (fun h_ H_=>(show CallsX Tryd.prog .lone 56 #[.agg #[.slice a1 t.nH c1,.slice a2 t.nW c2,.slice a3 t.m c3],.int .i64 (x),.int .i64 (y)] h_ (fun v_ h2_=>v_= .tuple #[.bool (decide (wayB t (x) (y)=true)),.int .i64 (wayE t (x) (y))]∧Keep h_ h2_) from (c56 .lone _ _ H_.pe _ _ _ _ _ _ t (show TownP _ _ _ _ _ _ _ t from ⟨(((((((T.h.mono le18).mono le23).mono le28).mono le36).mono le42).mono le53).mono le61),(((((((T.w.mono le18).mono le23).mono le28).mono le36).mono le42).mono le53).mono le61),(((((((T.y.mono le18).mono le23).mono le28).mono le36).mono le42).mono le53).mono le61)⟩) (by omega) hc0_ (x) (y) hcW_).mono fun _ _ ⟨e_,k_⟩=>⟨by rw [e_,Bool.decide_eq_true],k_⟩)) rfl ?_
    refine ro (xaq (v:=.tuple #[.bool (decide (wayB t (x) (y)=true)),.int .i64 (wayE t (x) (y))]) rfl) <| rt (xev rfl (v:=.bool (decide (wayB t (x) (y)=true))) rfl) (tm':=zq1 (zq4 (zq32 (zq32 _)))) rfl <| ro (xev rfl (v:=.int .i64 (wayE t (x) (y))) rfl) <| ro (xax (v:=.bool (decide (wayB t (x) (y)=true))) rfl) <| rt (xax (v:=.int .i64 (wayE t (x) (y))) rfl) (tm':=zq4 (zq16 _)) rfl <| ren ?_
    refine xbq <| ro (xaq (v:=.slice a34 ((shortC t).length) cp35) rfl) <| ro (xaq (v:=.slice a44 ((shortC t).length) cp45) rfl) ?_
    refine xeq mn (first:=[]) (cap:=[]) rfl rfl fC27 (fun h_ H_=>c27 .lone _ _ H_.pe _ _ _ _ _ _ _ _ ((((show Ints _ _ _ (shortC t) from D37).mono le42).mono le53).mono le61) ((D46.mono le53).mono le61) (by omega)) (tm':=zq2 (zq8 (zq32 (zq32 (zq32 []))))) rfl ?_
    refine ro (xaq (v:=.bool (decide ((shortC t)=(shortC t)))) rfl) ?_
    refine xbx (ms rfl rfl (decide_eq_true rfl)) (fun h_ H_=>xaq (v:=.int .i64 (shortE t)) rfl) rfl ?_
    refine xbx (ms rfl rfl (decide_eq_true rfl)) (fun h_ H_=>xaq (v:=.int .i64 (shortE t)) rfl) (tm':=zq2 (zq8 (zq32 (zq32 (zq32 []))))) rfl ?_
    refine xbx (ms rfl rfl (decide_eq_true rfl)) (fun h_ H_=>xkw rfl rfl) rfl ?_
    refine ro (xdz rfl (decide_eq_true rfl) (v:=.bool (decide (shortE t=shortE t))) rfl) <| rt (xaq (v:=.bool (decide (shortE t=shortE t))) rfl) (tm':=zq2 (zq8 (zq32 (zq32 (zq32 []))))) rfl ?_
    refine xbx (ms rfl rfl (decide_eq_true rfl)) (fun h_ H_=>xaq (v:=.slice a51 ((helpsC t).length) cp52) rfl) rfl ?_
    refine xbx (ms rfl rfl (decide_eq_true rfl)) (fun h_ H_=>xaq (v:=.slice a59 ((helpsC t).length) cp60) rfl) rfl ?_
    refine xeq (ms rfl rfl (decide_eq_true rfl)) (first:=[]) (cap:=[]) rfl rfl fC27 (fun h_ H_=>c27 .lone _ _ H_.pe _ _ _ _ _ _ _ _ ((show Ints _ _ _ (helpsC t) from D54).mono le61) (show Ints _ _ _ (helpsC t) from D62) (by omega)) (tm':=zq2 (zq8 (zq32 (zq32 (zq32 []))))) rfl ?_
    refine ro (xdz rfl (decide_eq_true rfl) (v:=.bool (decide ((helpsC t)=(helpsC t)))) rfl) <| ro (xaq (v:=.bool (decide ((helpsC t)=(helpsC t)))) rfl) ?_
    refine xbx (ms rfl rfl (decide_eq_true rfl)) (fun h_ H_=>xaq (v:=.int .i64 (chkB t)) rfl) (tm':=zq2 (zq8 (zq32 (zq32 (zq32 []))))) rfl ?_
    refine xbx (ms rfl rfl (decide_eq_true rfl)) (fun h_ H_=>xaq (v:=.int .i64 (chkB t)) rfl) rfl ?_
    refine xbx (ms rfl rfl (decide_eq_true rfl)) (fun h_ H_=>xkw rfl rfl) rfl ?_
    refine rt (xdz rfl (decide_eq_true rfl) (v:=.bool (decide (chkB t=chkB t))) rfl) (tm':=zq2 (zq8 (zq32 (zq32 (zq32 []))))) rfl <| ro (xaq (v:=.bool (decide (chkB t=chkB t))) rfl) ?_
    refine xbx (ms rfl rfl (decide_eq_true rfl)) (fun h_ H_=>xaq (v:=.bool (decide (wayB t (x) (y)=true))) rfl) rfl ?_
    refine xbx (ms rfl rfl (decide_eq_true rfl)) (fun h_ H_=>xaq (v:=.bool (decide (wayB t (x) (y)=true))) rfl) (tm':=zq2 (zq8 (zq32 (zq32 (zq32 []))))) rfl ?_
    refine xbx (ms rfl rfl (decide_eq_true rfl)) (fun h_ H_=>ztk (p:=wayB t (x) (y)=true) (q:=wayB t (x) (y)=true) Tryd.underlying4 rfl rfl) rfl ?_
    refine ro (xdz rfl (decide_eq_true rfl) (v:=.bool (decide ((wayB t (x) (y)=true)↔(wayB t (x) (y)=true)))) rfl) <| rt (xaq (v:=.bool (decide ((wayB t (x) (y)=true)↔(wayB t (x) (y)=true)))) rfl) (tm':=zq2 (zq8 (zq32 (zq32 (zq32 []))))) rfl ?_
    refine xbx (ms rfl rfl (decide_eq_true Iff.rfl)) (fun h_ H_=>xaq (v:=.int .i64 (wayE t (x) (y))) rfl) rfl ?_
    refine xbx (ms rfl rfl (decide_eq_true Iff.rfl)) (fun h_ H_=>xaq (v:=.int .i64 (wayE t (x) (y))) rfl) rfl ?_
    refine xbx (ms rfl rfl (decide_eq_true Iff.rfl)) (fun h_ H_=>xkw rfl rfl) (tm':=zq2 (zq8 (zq32 (zq32 (zq32 []))))) rfl ?_
    refine ro (xdz rfl (decide_eq_true Iff.rfl) (v:=.bool (decide (wayE t (x) (y)=wayE t (x) (y)))) rfl) <| ro (xaq (v:=.bool (decide (wayE t (x) (y)=wayE t (x) (y)))) rfl) ?_
    refine xbx (ms rfl rfl (decide_eq_true rfl)) (fun h_ H_=>xav H_ tA25 tS25 rfl (i:=0) rfl (vs:=[.slice a16 t.nH cp17,.slice a21 t.nW cp22,.slice a26 t.m cp27]) rfl rfl) (tm':=zq2 (zq8 (zq32 (zq32 (zq32 []))))) rfl ?_
    refine xbx (ms rfl rfl (decide_eq_true rfl)) (fun h_ H_=>xav H_ tA25 tS25 rfl (i:=1) rfl (vs:=[.slice a1 t.nH c1,.slice a2 t.nW c2,.slice a3 t.m c3]) rfl rfl) rfl ?_
    refine xeq (ms rfl rfl (decide_eq_true rfl)) (first:=[]) (cap:=[]) rfl rfl fC22 (fun h_ H_=>c22 .lone _ _ H_.pe _ _ _ _ _ _ t (show TownP _ _ _ _ _ _ _ t from ⟨(((((((show Ints _ _ _ t.hs from D19).mono le23).mono le28).mono le36).mono le42).mono le53).mono le61),((((((show Ints _ _ _ t.ws from D24).mono le28).mono le36).mono le42).mono le53).mono le61),(((((show Wys _ _ _ t.wy from D29).mono le36).mono le42).mono le53).mono le61)⟩) (by omega) _ _ _ _ _ _ t (show TownP _ _ _ _ _ _ _ t from ⟨(((((((T.h.mono le18).mono le23).mono le28).mono le36).mono le42).mono le53).mono le61),(((((((T.w.mono le18).mono le23).mono le28).mono le36).mono le42).mono le53).mono le61),(((((((T.y.mono le18).mono le23).mono le28).mono le36).mono le42).mono le53).mono le61)⟩) (by omega)) rfl ?_
    refine rt (xdz rfl (decide_eq_true rfl) (v:=.bool (decide (sameT t t))) rfl) (tm':=zq2 (zq8 (zq32 (zq32 (zq32 []))))) rfl <| ro (xaq (v:=.bool (decide (sameT t t))) rfl) ?_
    refine xeq (ms rfl rfl (decide_eq_true (ybw t))) (first:=[]) (cap:=[]) rfl rfl fC16 (fun h_ H_=>c16 .lone _ _ H_.pe (((((((N.mono le18).mono le23).mono le28).mono le36).mono le42).mono le53).mono le61) (((((((Z.mono le18).mono le23).mono le28).mono le36).mono le42).mono le53).mono le61)) rfl ?_
    refine rt (xdz rfl (decide_eq_true (ybw t)) (v:=.bool (true)) rfl) (tm':=zq2 (zq8 (zq32 (zq32 (zq32 []))))) rfl <| ro (xax (v:=.bool (true)) rfl) <| xak ?_
    refine yzw Tryd.func11 rfl (vs:=[.bool (true)]) (fun h_ H_=>⟨.bool (true),_,rfl,rfl,rfl⟩) (v:=.bool (true)) rfl ?_
    exact fun h_ H_=>⟨rfl,H_.kept⟩
  ·
   have hcM_:chkB t=0→prodM t t.m≤2000:=fun z_=>absurd z_ cc3
   have hcW_:(0≤x∧x≤(t.nH:Int)-1)→(0≤y∧y≤(t.nW:Int)-1)→chkB t=0→prodW (withT t (x,y)) (withT t (x,y)).m 0≤2000:=fun _ _ z_=>absurd z_ cc3
   refine rp (mo rfl rfl (dff cc3)) <| xfx (mo rfl rfl (dff cc3)) (tm':=zq1 (zq4 (zq8 (zq16 _)))) rfl <| rp (mo rfl rfl (dff cc3)) <| rp (mo rfl rfl (dff cc3)) ?_
   refine xbx (ms rfl rfl cc2) (fun h_ H_=>xej rfl (dff cc3) (v:=.bool (false)) rfl) (tm':=zq32 _) rfl ?_
   refine ro (xej rfl cc2 (v:=.bool (false)) rfl) <| xak <| xck rfl rfl <| xcv <| fsr <| rd (fun h_ H_=>xav H_ tA25 tS25 rfl (i:=0) rfl (vs:=[.slice a1 t.nH c1,.slice a2 t.nW c2,.slice a3 t.m c3]) rfl rfl) ?_
   refine xcq (L':=([(b1,.cells #[.slice a1 t.nH c1,.slice a2 t.nW c2,.slice a3 t.m c3] 25 (0,0))]:Pcs)++[]) rfl ?_
   refine xiw mn (first:=[]) (cap:=[]) rfl rfl fC17 (R:=fun v_ h_=>∃ w63:Value,∃ w64:Value,∃ w65:Value,∃ X66:Pcs,∃ X67:Pcs,∃ X68:Pcs,v_= .agg #[w63,w64,w65]∧(OwnS 3 1 w63 (ics t.hs) X66)∧(OwnS 3 1 w64 (ics t.ws) X67)∧(OwnS 43 2 w65 (wcs t.wy) X68)∧St h [] p h_ (([(b1,.cells #[.slice a1 t.nH c1,.slice a2 t.nW c2,.slice a3 t.m c3] 25 (0,0))]:Pcs)++((X68++(X66++(X67++[])))++[]))) (fun h_ H_=>(c17 .lone _ _ H_.pe _ _ _ _ _ _ t (show TownP _ _ _ _ _ _ _ t from ⟨T.h,T.w,T.y⟩) (by omega)).mono fun v_ h2_ ⟨w63,w64,w65,X66,X67,X68,e_,o69,o70,o71,N_⟩=>⟨w63,w64,w65,X66,X67,X68,e_,o69,o70,o71,H_.callNA N_⟩) fun v_=>?_
   refine xgz fun w63=>xgz fun w64=>xgz fun w65=>xgz fun X66=>xgz fun X67=>xgz fun X68=>xfq fun ev_=>xfq fun o69=>xfq fun o70=>xfq fun o71=>?_
   have ev_:=ev_.symm;subst ev_
   refine xcq (L':=([(b1,.cells #[.slice a1 t.nH c1,.slice a2 t.nW c2,.slice a3 t.m c3] 25 (0,0))]:Pcs)++(X68++(X66++(X67++[])))) (by simp) ?_
   refine xfj (tm':=zq4 (zq32 _)) rfl ?_
   refine xkx mn tZ25 rfl fun b72=>xcq (L':=([(b72,.cells #[.slice none 0 0,.slice none 0 0,.slice none 0 0] 25 (0,0)),(b1,.cells #[.slice a1 t.nH c1,.slice a2 t.nW c2,.slice a3 t.m c3] 25 (0,0))]:Pcs)++(X68++(X66++(X67++[])))) rfl ?_
   refine xik mn tS25 rfl (v:=.agg #[w63,w64,w65]) rfl (i:=0) rfl rfl (xfk o69.one.2 (xfk o70.one.2 (xfk o71.one.2 rfl))) (Nat.le_of_ble_eq_true rfl) (cs2:=[w63,w64,w65]) rfl (xcq (L':=([(b72,.cells #[w63,w64,w65] 25 (0,0)),(b1,.cells #[.slice a1 t.nH c1,.slice a2 t.nW c2,.slice a3 t.m c3] 25 (0,0))]:Pcs)++(X68++(X66++(X67++[])))) rfl ?_)
   refine ren ?_
   refine xgv (List.Perm.append_left _ (List.perm_append_comm_assoc _ _ _)) ?_
   refine xlk (L':=([(b72,.cells #[w63,w64,w65] 25 (0,0)),(b1,.cells #[.slice a1 t.nH c1,.slice a2 t.nW c2,.slice a3 t.m c3] 25 (0,0))]:Pcs)++(X66++(X68++(X67++[])))) rfl ?_
   refine xqx (A:=([(b72,.cells #[w63,w64,w65] 25 (0,0)),(b1,.cells #[.slice a1 t.nH c1,.slice a2 t.nW c2,.slice a3 t.m c3] 25 (0,0))]:Pcs)) o69 (show (ics t.hs).length=t.nH from xcw _) fun p73 a74 cp75 le76 ev_ D77=>?_
   subst ev_
   refine xgv (List.Perm.append_left _ (List.perm_append_comm_assoc _ _ _)) ?_
   refine xlk (L':=([(b72,.cells #[.slice a74 t.nH cp75,w64,w65] 25 (0,0)),(b1,.cells #[.slice a1 t.nH c1,.slice a2 t.nW c2,.slice a3 t.m c3] 25 (0,0))]:Pcs)++(X67++(X68++[]))) rfl ?_
   refine xqx (A:=([(b72,.cells #[.slice a74 t.nH cp75,w64,w65] 25 (0,0)),(b1,.cells #[.slice a1 t.nH c1,.slice a2 t.nW c2,.slice a3 t.m c3] 25 (0,0))]:Pcs)) o70 (show (ics t.ws).length=t.nW from xcw _) fun p78 a79 cp80 le81 ev_ D82=>?_
   subst ev_
   refine xsv (A:=([(b72,.cells #[.slice a74 t.nH cp75,.slice a79 t.nW cp80,w65] 25 (0,0)),(b1,.cells #[.slice a1 t.nH c1,.slice a2 t.nW c2,.slice a3 t.m c3] 25 (0,0))]:Pcs)) o71 (wcs_size _) (by decide) fun p83 a84 cp85 le86 ev_ D87 hcD87=>?_
   subst ev_
   refine xlk (L':=[(b72,.cells #[.slice a74 t.nH cp75,.slice a79 t.nW cp80,.slice a84 t.m cp85] 25 (0,0)),(b1,.cells #[.slice a1 t.nH c1,.slice a2 t.nW c2,.slice a3 t.m c3] 25 (0,0))]) rfl ?_
   refine xbq <| rd (fun h_ H_=>xav H_ tA25 tS25 rfl (i:=0) rfl (vs:=[.slice a74 t.nH cp75,.slice a79 t.nW cp80,.slice a84 t.m cp85]) rfl rfl) ?_
   refine xcq (L':=([(b72,.cells #[.slice a74 t.nH cp75,.slice a79 t.nW cp80,.slice a84 t.m cp85] 25 (0,0)),(b1,.cells #[.slice a1 t.nH c1,.slice a2 t.nW c2,.slice a3 t.m c3] 25 (0,0))]:Pcs)++[]) rfl ?_
   refine xiw mn (first:=[]) (cap:=[]) rfl rfl fC25 (R:=fun v_ h_=>∃ w88:Value,∃ X89:Pcs,v_= .tuple #[w88,.int .i64 (shortE t)]∧(OwnS 3 1 w88 (ics (shortC t)) X89)∧St h [] p83 h_ (([(b72,.cells #[.slice a74 t.nH cp75,.slice a79 t.nW cp80,.slice a84 t.m cp85] 25 (0,0)),(b1,.cells #[.slice a1 t.nH c1,.slice a2 t.nW c2,.slice a3 t.m c3] 25 (0,0))]:Pcs)++(X89++[]))) (fun h_ H_=>(c25 .lone _ _ H_.pe _ _ _ _ _ _ t (show TownP _ _ _ _ _ _ _ t from ⟨(((show Ints _ _ _ t.hs from D77).mono le81).mono le86),((show Ints _ _ _ t.ws from D82).mono le86),(show Wys _ _ _ t.wy from D87)⟩) (by omega) (((Z.mono le76).mono le81).mono le86)).mono fun v_ h2_ ⟨w88,X89,e_,o90,N_⟩=>⟨w88,X89,e_,o90,H_.callNA N_⟩) fun v_=>?_
   refine xgz fun w88=>xgz fun X89=>xfq fun ev_=>xfq fun o90=>?_
   have ev_:=ev_.symm;subst ev_
   refine xcq (L':=([(b72,.cells #[.slice a74 t.nH cp75,.slice a79 t.nW cp80,.slice a84 t.m cp85] 25 (0,0)),(b1,.cells #[.slice a1 t.nH c1,.slice a2 t.nW c2,.slice a3 t.m c3] 25 (0,0))]:Pcs)++(X89++[])) rfl ?_
   refine xfj (tm':=zq1 (zq2 (zq4 (zq32 _)))) rfl ?_
   refine ro (xaq (v:=.tuple #[w88,.int .i64 (shortE t)]) rfl) <| ro (xev rfl (v:=w88) rfl) <| rt (xev rfl (v:=.int .i64 (shortE t)) rfl) (tm':=zq1 (zq8 (zq32 _))) rfl <| ro (xax (v:=w88) rfl) <| ro (xax (v:=.int .i64 (shortE t)) rfl) <| ren ?_
   refine xqx (A:=([(b72,.cells #[.slice a74 t.nH cp75,.slice a79 t.nW cp80,.slice a84 t.m cp85] 25 (0,0)),(b1,.cells #[.slice a1 t.nH c1,.slice a2 t.nW c2,.slice a3 t.m c3] 25 (0,0))]:Pcs)) o90 ((xcw _).trans rfl) fun p91 a92 cp93 le94 ev_ D95=>?_
   subst ev_
   refine xlk (L':=[(b72,.cells #[.slice a74 t.nH cp75,.slice a79 t.nW cp80,.slice a84 t.m cp85] 25 (0,0)),(b1,.cells #[.slice a1 t.nH c1,.slice a2 t.nW c2,.slice a3 t.m c3] 25 (0,0))]) rfl ?_
   refine xbq ?_
   refine xbx mn (fun h_ H_=>xav H_ tA25 tS25 rfl (i:=1) rfl (vs:=[.slice a1 t.nH c1,.slice a2 t.nW c2,.slice a3 t.m c3]) rfl rfl) (tm':=zq1 (zq2 (zq8 (zq32 _)))) rfl ?_
   refine xcq (L':=([(b72,.cells #[.slice a74 t.nH cp75,.slice a79 t.nW cp80,.slice a84 t.m cp85] 25 (0,0)),(b1,.cells #[.slice a1 t.nH c1,.slice a2 t.nW c2,.slice a3 t.m c3] 25 (0,0))]:Pcs)++[]) rfl ?_
   refine xiw mn (first:=[]) (cap:=[]) rfl rfl fC52 (R:=fun v_ h_=>∃ w96:Value,∃ Z97:Pcs,v_= .tuple #[w96,.int .i64 (shortE t)]∧(Inn p91 [[w96]] [shortC t] Z97)∧St h [] p91 h_ (([(b72,.cells #[.slice a74 t.nH cp75,.slice a79 t.nW cp80,.slice a84 t.m cp85] 25 (0,0)),(b1,.cells #[.slice a1 t.nH c1,.slice a2 t.nW c2,.slice a3 t.m c3] 25 (0,0))]:Pcs)++(Z97++[]))) (fun h_ H_=>(c52 .lone _ _ H_.pe _ _ _ _ _ _ t (show TownP _ _ _ _ _ _ _ t from ⟨((((T.h.mono le76).mono le81).mono le86).mono le94),((((T.w.mono le76).mono le81).mono le86).mono le94),((((T.y.mono le76).mono le81).mono le86).mono le94)⟩) (by omega)).mono fun v_ h2_ ⟨w96,Z97,e_,i98,N_⟩=>⟨w96,Z97,e_,i98,H_.callNA N_⟩) fun v_=>?_
   refine xgz fun w96=>xgz fun Z97=>xfq fun ev_=>xfq fun i98=>?_
   have ev_:=ev_.symm;subst ev_
   refine xcq (L':=([(b72,.cells #[.slice a74 t.nH cp75,.slice a79 t.nW cp80,.slice a84 t.m cp85] 25 (0,0)),(b1,.cells #[.slice a1 t.nH c1,.slice a2 t.nW c2,.slice a3 t.m c3] 25 (0,0))]:Pcs)++(Z97++[])) rfl ?_
   refine ro (xaq (v:=.tuple #[w96,.int .i64 (shortE t)]) rfl) <| rt (xev rfl (v:=w96) rfl) (tm':=zq1 (zq4 (zq8 (zq32 _)))) rfl <| ro (xev rfl (v:=.int .i64 (shortE t)) rfl) <| ro (xax (v:=w96) rfl) <| rt (xax (v:=.int .i64 (shortE t)) rfl) (tm':=zq4 (zq8 _)) rfl <| ren ?_
   refine yfj (A:=([(b72,.cells #[.slice a74 t.nH cp75,.slice a79 t.nW cp80,.slice a84 t.m cp85] 25 (0,0)),(b1,.cells #[.slice a1 t.nH c1,.slice a2 t.nW c2,.slice a3 t.m c3] 25 (0,0))]:Pcs)) (Z:=Z97) fun p99 le100 hz101=>?_
   refine xlk (L':=[(b72,.cells #[.slice a74 t.nH cp75,.slice a79 t.nW cp80,.slice a84 t.m cp85] 25 (0,0)),(b1,.cells #[.slice a1 t.nH c1,.slice a2 t.nW c2,.slice a3 t.m c3] 25 (0,0))]) rfl ?_
   obtain ⟨a102,cp103,e_,D104⟩:=whz (i98 _ le100 (fun x_ hx_=>hz101 x_ hx_))
   subst e_
   refine xbq <| rd (fun h_ H_=>xav H_ tA25 tS25 rfl (i:=0) rfl (vs:=[.slice a74 t.nH cp75,.slice a79 t.nW cp80,.slice a84 t.m cp85]) rfl rfl) ?_
   refine xcq (L':=([(b72,.cells #[.slice a74 t.nH cp75,.slice a79 t.nW cp80,.slice a84 t.m cp85] 25 (0,0)),(b1,.cells #[.slice a1 t.nH c1,.slice a2 t.nW c2,.slice a3 t.m c3] 25 (0,0))]:Pcs)++[]) rfl ?_
   refine xiw mn (first:=[]) (cap:=[]) rfl rfl fC53 (R:=fun v_ h_=>∃ w105:Value,∃ X106:Pcs,v_= .tuple #[w105,.int .i64 (chkB t)]∧(OwnS 3 1 w105 (ics (helpsC t)) X106)∧St h [] p99 h_ (([(b72,.cells #[.slice a74 t.nH cp75,.slice a79 t.nW cp80,.slice a84 t.m cp85] 25 (0,0)),(b1,.cells #[.slice a1 t.nH c1,.slice a2 t.nW c2,.slice a3 t.m c3] 25 (0,0))]:Pcs)++(X106++[]))) (fun h_ H_=>(c53 .lone _ _ H_.pe _ _ _ _ _ _ t (show TownP _ _ _ _ _ _ _ t from ⟨(((((show Ints _ _ _ t.hs from D77).mono le81).mono le86).mono le94).mono le100),((((show Ints _ _ _ t.ws from D82).mono le86).mono le94).mono le100),(((show Wys _ _ _ t.wy from D87).mono le94).mono le100)⟩) (by omega) (((((N.mono le76).mono le81).mono le86).mono le94).mono le100)).mono fun v_ h2_ ⟨w105,X106,e_,o107,N_⟩=>⟨w105,X106,e_,o107,H_.callNA N_⟩) fun v_=>?_
   refine xgz fun w105=>xgz fun X106=>xfq fun ev_=>xfq fun o107=>?_
   have ev_:=ev_.symm;subst ev_
   refine xcq (L':=([(b72,.cells #[.slice a74 t.nH cp75,.slice a79 t.nW cp80,.slice a84 t.m cp85] 25 (0,0)),(b1,.cells #[.slice a1 t.nH c1,.slice a2 t.nW c2,.slice a3 t.m c3] 25 (0,0))]:Pcs)++(X106++[])) rfl ?_
   refine rt (xaq (v:=.tuple #[w105,.int .i64 (chkB t)]) rfl) (tm':=zq1 (zq2 (zq4 (zq8 (zq32 _))))) rfl <| ro (xev rfl (v:=w105) rfl) <| ro (xev rfl (v:=.int .i64 (chkB t)) rfl) <| rt (xax (v:=w105) rfl) (tm':=zq1 (zq4 (zq8 _))) rfl <| ro (xax (v:=.int .i64 (chkB t)) rfl) <| ren ?_
   refine xqx (A:=([(b72,.cells #[.slice a74 t.nH cp75,.slice a79 t.nW cp80,.slice a84 t.m cp85] 25 (0,0)),(b1,.cells #[.slice a1 t.nH c1,.slice a2 t.nW c2,.slice a3 t.m c3] 25 (0,0))]:Pcs)) o107 ((xcw _).trans rfl) fun p108 a109 cp110 le111 ev_ D112=>?_
   subst ev_
   refine xlk (L':=[(b72,.cells #[.slice a74 t.nH cp75,.slice a79 t.nW cp80,.slice a84 t.m cp85] 25 (0,0)),(b1,.cells #[.slice a1 t.nH c1,.slice a2 t.nW c2,.slice a3 t.m c3] 25 (0,0))]) rfl ?_
   refine xbq <| rd (fun h_ H_=>xav H_ tA25 tS25 rfl (i:=1) rfl (vs:=[.slice a1 t.nH c1,.slice a2 t.nW c2,.slice a3 t.m c3]) rfl rfl) ?_
   refine xcq (L':=([(b72,.cells #[.slice a74 t.nH cp75,.slice a79 t.nW cp80,.slice a84 t.m cp85] 25 (0,0)),(b1,.cells #[.slice a1 t.nH c1,.slice a2 t.nW c2,.slice a3 t.m c3] 25 (0,0))]:Pcs)++[]) rfl ?_
   refine xiw mn (first:=[]) (cap:=[]) rfl rfl fC54 (R:=fun v_ h_=>∃ w113:Value,∃ X114:Pcs,v_= .tuple #[w113,.int .i64 (chkB t)]∧(OwnS 3 1 w113 (ics (helpsC t)) X114)∧St h [] p108 h_ (([(b72,.cells #[.slice a74 t.nH cp75,.slice a79 t.nW cp80,.slice a84 t.m cp85] 25 (0,0)),(b1,.cells #[.slice a1 t.nH c1,.slice a2 t.nW c2,.slice a3 t.m c3] 25 (0,0))]:Pcs)++(X114++[]))) (fun h_ H_=>(c54 .lone _ _ H_.pe _ _ _ _ _ _ t (show TownP _ _ _ _ _ _ _ t from ⟨((((((T.h.mono le76).mono le81).mono le86).mono le94).mono le100).mono le111),((((((T.w.mono le76).mono le81).mono le86).mono le94).mono le100).mono le111),((((((T.y.mono le76).mono le81).mono le86).mono le94).mono le100).mono le111)⟩) (by omega) hc0_ hcM_).mono fun v_ h2_ ⟨w113,X114,e_,o115,N_⟩=>⟨w113,X114,e_,o115,H_.callNA N_⟩) fun v_=>?_
   refine xgz fun w113=>xgz fun X114=>xfq fun ev_=>xfq fun o115=>?_
   have ev_:=ev_.symm;subst ev_
   refine xcq (L':=([(b72,.cells #[.slice a74 t.nH cp75,.slice a79 t.nW cp80,.slice a84 t.m cp85] 25 (0,0)),(b1,.cells #[.slice a1 t.nH c1,.slice a2 t.nW c2,.slice a3 t.m c3] 25 (0,0))]:Pcs)++(X114++[])) rfl ?_
   refine xfj (tm':=zq2 (zq4 (zq16 (zq32 _)))) rfl ?_
   refine ro (xaq (v:=.tuple #[w113,.int .i64 (chkB t)]) rfl) <| ro (xev rfl (v:=w113) rfl) <| rt (xev rfl (v:=.int .i64 (chkB t)) rfl) (tm':=zq8 (zq16 (zq32 _))) rfl <| ro (xax (v:=w113) rfl) <| ro (xax (v:=.int .i64 (chkB t)) rfl) <| ren ?_
   refine xqx (A:=([(b72,.cells #[.slice a74 t.nH cp75,.slice a79 t.nW cp80,.slice a84 t.m cp85] 25 (0,0)),(b1,.cells #[.slice a1 t.nH c1,.slice a2 t.nW c2,.slice a3 t.m c3] 25 (0,0))]:Pcs)) o115 ((xcw _).trans rfl) fun p116 a117 cp118 le119 ev_ D120=>?_
   subst ev_
   refine xlk (L':=[(b72,.cells #[.slice a74 t.nH cp75,.slice a79 t.nW cp80,.slice a84 t.m cp85] 25 (0,0)),(b1,.cells #[.slice a1 t.nH c1,.slice a2 t.nW c2,.slice a3 t.m c3] 25 (0,0))]) rfl ?_
   refine xbq ?_
   refine xbx mn (fun h_ H_=>xav H_ tA25 tS25 rfl (i:=0) rfl (vs:=[.slice a74 t.nH cp75,.slice a79 t.nW cp80,.slice a84 t.m cp85]) rfl rfl) (tm':=zq2 (zq8 (zq16 (zq32 _)))) rfl ?_
   refine ro (xaq (v:=.int .i64 (x)) rfl) <| ro (xaq (v:=.int .i64 (y)) rfl) ?_
   refine xeq mn (first:=[]) (cap:=[]) rfl rfl fC55 (fun h_ H_=>(show CallsX Tryd.prog .lone 55 #[.agg #[.slice a74 t.nH cp75,.slice a79 t.nW cp80,.slice a84 t.m cp85],.int .i64 (x),.int .i64 (y)] h_ (fun v_ h2_=>v_= .tuple #[.bool (decide (wayB t (x) (y)=true)),.int .i64 (wayE t (x) (y))]∧Keep h_ h2_) from (c55 .lone _ _ H_.pe _ _ _ _ _ _ t (show TownP _ _ _ _ _ _ _ t from ⟨(((((((show Ints _ _ _ t.hs from D77).mono le81).mono le86).mono le94).mono le100).mono le111).mono le119),((((((show Ints _ _ _ t.ws from D82).mono le86).mono le94).mono le100).mono le111).mono le119),(((((show Wys _ _ _ t.wy from D87).mono le94).mono le100).mono le111).mono le119)⟩) (by omega) hcD87 (x) (y) (((((((N.mono le76).mono le81).mono le86).mono le94).mono le100).mono le111).mono le119)).mono fun _ _ ⟨e_,k_⟩=>⟨by rw [e_,Bool.decide_eq_true],k_⟩)) (tm':=zq1 (zq4 (zq8 (zq16 (zq32 _))))) rfl ?_
   refine ro (xaq (v:=.tuple #[.bool (decide (wayB t (x) (y)=true)),.int .i64 (wayE t (x) (y))]) rfl) <| ro (xev rfl (v:=.bool (decide (wayB t (x) (y)=true))) rfl) <| rt (xev rfl (v:=.int .i64 (wayE t (x) (y))) rfl) (tm':=zq1 (zq2 (zq4 (zq8 (zq16 (zq32 _)))))) rfl <| ro (xax (v:=.bool (decide (wayB t (x) (y)=true))) rfl) <| ro (xax (v:=.int .i64 (wayE t (x) (y))) rfl) <| ren ?_
   refine xbq ?_
   refine xbx mn (fun h_ H_=>xav H_ tA25 tS25 rfl (i:=1) rfl (vs:=[.slice a1 t.nH c1,.slice a2 t.nW c2,.slice a3 t.m c3]) rfl rfl) (tm':=zq1 (zq32 (zq32 _))) rfl ?_
   refine ro (xaq (v:=.int .i64 (x)) rfl) <| ro (xaq (v:=.int .i64 (y)) rfl) ?_
   refine xeq mn (first:=[]) (cap:=[]) rfl rfl fC56 (fun h_ H_=>(show CallsX Tryd.prog .lone 56 #[.agg #[.slice a1 t.nH c1,.slice a2 t.nW c2,.slice a3 t.m c3],.int .i64 (x),.int .i64 (y)] h_ (fun v_ h2_=>v_= .tuple #[.bool (decide (wayB t (x) (y)=true)),.int .i64 (wayE t (x) (y))]∧Keep h_ h2_) from (c56 .lone _ _ H_.pe _ _ _ _ _ _ t (show TownP _ _ _ _ _ _ _ t from ⟨(((((((T.h.mono le76).mono le81).mono le86).mono le94).mono le100).mono le111).mono le119),(((((((T.w.mono le76).mono le81).mono le86).mono le94).mono le100).mono le111).mono le119),(((((((T.y.mono le76).mono le81).mono le86).mono le94).mono le100).mono le111).mono le119)⟩) (by omega) hc0_ (x) (y) hcW_).mono fun _ _ ⟨e_,k_⟩=>⟨by rw [e_,Bool.decide_eq_true],k_⟩)) (tm':=zq4 (zq32 (zq32 _))) rfl ?_
   refine ro (xaq (v:=.tuple #[.bool (decide (wayB t (x) (y)=true)),.int .i64 (wayE t (x) (y))]) rfl) <| ro (xev rfl (v:=.bool (decide (wayB t (x) (y)=true))) rfl) <| rt (xev rfl (v:=.int .i64 (wayE t (x) (y))) rfl) (tm':=zq2 (zq4 (zq32 (zq32 _)))) rfl <| ro (xax (v:=.bool (decide (wayB t (x) (y)=true))) rfl) <| ro (xax (v:=.int .i64 (wayE t (x) (y))) rfl) <| ren ?_
   refine xbq <| rt (xaq (v:=.slice a92 ((shortC t).length) cp93) rfl) (tm':=zq2 (zq8 (zq32 (zq32 (zq32 []))))) rfl <| ro (xaq (v:=.slice a102 ((shortC t).length) cp103) rfl) ?_
   refine xeq mn (first:=[]) (cap:=[]) rfl rfl fC27 (fun h_ H_=>c27 .lone _ _ H_.pe _ _ _ _ _ _ _ _ ((((show Ints _ _ _ (shortC t) from D95).mono le100).mono le111).mono le119) ((D104.mono le111).mono le119) (by omega)) rfl ?_
   refine rt (xaq (v:=.bool (decide ((shortC t)=(shortC t)))) rfl) (tm':=zq2 (zq8 (zq32 (zq32 (zq32 []))))) rfl ?_
   refine xbx (ms rfl rfl (decide_eq_true rfl)) (fun h_ H_=>xaq (v:=.int .i64 (shortE t)) rfl) rfl ?_
   refine xbx (ms rfl rfl (decide_eq_true rfl)) (fun h_ H_=>xaq (v:=.int .i64 (shortE t)) rfl) rfl ?_
   refine xbx (ms rfl rfl (decide_eq_true rfl)) (fun h_ H_=>xkw rfl rfl) (tm':=zq2 (zq8 (zq32 (zq32 (zq32 []))))) rfl ?_
   refine ro (xdz rfl (decide_eq_true rfl) (v:=.bool (decide (shortE t=shortE t))) rfl) <| ro (xaq (v:=.bool (decide (shortE t=shortE t))) rfl) ?_
   refine xbx (ms rfl rfl (decide_eq_true rfl)) (fun h_ H_=>xaq (v:=.slice a109 ((helpsC t).length) cp110) rfl) (tm':=zq2 (zq8 (zq32 (zq32 (zq32 []))))) rfl ?_
   refine xbx (ms rfl rfl (decide_eq_true rfl)) (fun h_ H_=>xaq (v:=.slice a117 ((helpsC t).length) cp118) rfl) rfl ?_
   refine xeq (ms rfl rfl (decide_eq_true rfl)) (first:=[]) (cap:=[]) rfl rfl fC27 (fun h_ H_=>c27 .lone _ _ H_.pe _ _ _ _ _ _ _ _ ((show Ints _ _ _ (helpsC t) from D112).mono le119) (show Ints _ _ _ (helpsC t) from D120) (by omega)) rfl ?_
   refine rt (xdz rfl (decide_eq_true rfl) (v:=.bool (decide ((helpsC t)=(helpsC t)))) rfl) (tm':=zq2 (zq8 (zq32 (zq32 (zq32 []))))) rfl <| ro (xaq (v:=.bool (decide ((helpsC t)=(helpsC t)))) rfl) ?_
   refine xbx (ms rfl rfl (decide_eq_true rfl)) (fun h_ H_=>xaq (v:=.int .i64 (chkB t)) rfl) rfl ?_
   refine xbx (ms rfl rfl (decide_eq_true rfl)) (fun h_ H_=>xaq (v:=.int .i64 (chkB t)) rfl) (tm':=zq2 (zq8 (zq32 (zq32 (zq32 []))))) rfl ?_
   refine xbx (ms rfl rfl (decide_eq_true rfl)) (fun h_ H_=>xkw rfl rfl) rfl ?_
   refine ro (xdz rfl (decide_eq_true rfl) (v:=.bool (decide (chkB t=chkB t))) rfl) <| rt (xaq (v:=.bool (decide (chkB t=chkB t))) rfl) (tm':=zq2 (zq8 (zq32 (zq32 (zq32 []))))) rfl ?_
   refine xbx (ms rfl rfl (decide_eq_true rfl)) (fun h_ H_=>xaq (v:=.bool (decide (wayB t (x) (y)=true))) rfl) rfl ?_
   refine xbx (ms rfl rfl (decide_eq_true rfl)) (fun h_ H_=>xaq (v:=.bool (decide (wayB t (x) (y)=true))) rfl) rfl ?_
   refine xbx (ms rfl rfl (decide_eq_true rfl)) (fun h_ H_=>ztk (p:=wayB t (x) (y)=true) (q:=wayB t (x) (y)=true) Tryd.underlying4 rfl rfl) (tm':=zq2 (zq8 (zq32 (zq32 (zq32 []))))) rfl ?_
   refine ro (xdz rfl (decide_eq_true rfl) (v:=.bool (decide ((wayB t (x) (y)=true)↔(wayB t (x) (y)=true)))) rfl) <| ro (xaq (v:=.bool (decide ((wayB t (x) (y)=true)↔(wayB t (x) (y)=true)))) rfl) ?_
   refine xbx (ms rfl rfl (decide_eq_true Iff.rfl)) (fun h_ H_=>xaq (v:=.int .i64 (wayE t (x) (y))) rfl) (tm':=zq2 (zq8 (zq32 (zq32 (zq32 []))))) rfl ?_
   refine xbx (ms rfl rfl (decide_eq_true Iff.rfl)) (fun h_ H_=>xaq (v:=.int .i64 (wayE t (x) (y))) rfl) rfl ?_
   refine xbx (ms rfl rfl (decide_eq_true Iff.rfl)) (fun h_ H_=>xkw rfl rfl) rfl ?_
   refine rt (xdz rfl (decide_eq_true Iff.rfl) (v:=.bool (decide (wayE t (x) (y)=wayE t (x) (y)))) rfl) (tm':=zq2 (zq8 (zq32 (zq32 (zq32 []))))) rfl <| ro (xaq (v:=.bool (decide (wayE t (x) (y)=wayE t (x) (y)))) rfl) ?_
   refine xbx (ms rfl rfl (decide_eq_true rfl)) (fun h_ H_=>xav H_ tA25 tS25 rfl (i:=0) rfl (vs:=[.slice a74 t.nH cp75,.slice a79 t.nW cp80,.slice a84 t.m cp85]) rfl rfl) rfl ?_
   refine xbx (ms rfl rfl (decide_eq_true rfl)) (fun h_ H_=>xav H_ tA25 tS25 rfl (i:=1) rfl (vs:=[.slice a1 t.nH c1,.slice a2 t.nW c2,.slice a3 t.m c3]) rfl rfl) (tm':=zq2 (zq8 (zq32 (zq32 (zq32 []))))) rfl ?_
   refine xeq (ms rfl rfl (decide_eq_true rfl)) (first:=[]) (cap:=[]) rfl rfl fC22 (fun h_ H_=>c22 .lone _ _ H_.pe _ _ _ _ _ _ t (show TownP _ _ _ _ _ _ _ t from ⟨(((((((show Ints _ _ _ t.hs from D77).mono le81).mono le86).mono le94).mono le100).mono le111).mono le119),((((((show Ints _ _ _ t.ws from D82).mono le86).mono le94).mono le100).mono le111).mono le119),(((((show Wys _ _ _ t.wy from D87).mono le94).mono le100).mono le111).mono le119)⟩) (by omega) _ _ _ _ _ _ t (show TownP _ _ _ _ _ _ _ t from ⟨(((((((T.h.mono le76).mono le81).mono le86).mono le94).mono le100).mono le111).mono le119),(((((((T.w.mono le76).mono le81).mono le86).mono le94).mono le100).mono le111).mono le119),(((((((T.y.mono le76).mono le81).mono le86).mono le94).mono le100).mono le111).mono le119)⟩) (by omega)) rfl ?_
   refine ro (xdz rfl (decide_eq_true rfl) (v:=.bool (decide (sameT t t))) rfl) <| rt (xaq (v:=.bool (decide (sameT t t))) rfl) (tm':=zq2 (zq8 (zq32 (zq32 (zq32 []))))) rfl ?_
   refine xeq (ms rfl rfl (decide_eq_true (ybw t))) (first:=[]) (cap:=[]) rfl rfl fC16 (fun h_ H_=>c16 .lone _ _ H_.pe (((((((N.mono le76).mono le81).mono le86).mono le94).mono le100).mono le111).mono le119) (((((((Z.mono le76).mono le81).mono le86).mono le94).mono le100).mono le111).mono le119)) rfl ?_
   refine ro (xdz rfl (decide_eq_true (ybw t)) (v:=.bool (true)) rfl) <| rt (xax (v:=.bool (true)) rfl) (tm':=zq1 (zq2 (zq4 _))) rfl <| xak ?_
   refine yzw Tryd.func11 rfl (vs:=[.bool (true)]) (fun h_ H_=>⟨.bool (true),_,rfl,rfl,rfl⟩) (v:=.bool (true)) rfl ?_
   exact fun h_ H_=>⟨rfl,H_.kept⟩
end Go.Proofs.YtalfgojocdonhaaDoor
namespace Go.Proofs.YtalfgojocdonhaaDoor
open Go.X Go.X.Flow Go.Conc Go.RowKit Go.ChangeShapes Go.WideShapes Go.ChangeAt Go.Joins
set_option maxRecDepth 100000

theorem wqz (os:Os) (started:os.Started) (H:Type) (enc:TypeId × Value→H):
    ReturnsInHanded {} Tryd.checked os 11 .any (fun w args=>(Rows.bucketsHelpsSpec.pre enc Tryd.prog Tryd.f11 Rows.bucketsHelpsRow.domain false w args∧laidMetH Tryd.prog Rows.bucketsHelpsRow.laid w)∧sizedMet enc Tryd.prog Tryd.f11 (OpenSpec.ofChange Rows.bucketsHelpsSpec) false w args) (Rows.bucketsHelpsSpec.post enc Tryd.prog Tryd.f11 false true false false):=by
  refine returnsInHanded_of_change_and (C:=Tryd.checked) (X:=fun w _=>laidMetH Tryd.prog Rows.bucketsHelpsRow.laid w) (fun _ _ _ hh h=>h.of_heap hh) pOwn started (by kernel_rfl) Tryd.func11
    (ChangeSpec.witness_shaped (enc:=enc) (C:=Tryd.checked) (os:=os) (X:=fun w _=>laidMetH Tryd.prog Rows.bucketsHelpsRow.laid w) false (laidW os) #[.agg #[.slice none 0 0,.slice none 0 0,.slice none 0 0],.int .i64 0,.int .i64 0] 8 (World.laidAll_os _ _ _)
      (World.shaped_of_ZipB (by kernel_rfl) (by kernel_rfl)) (by kernel_rfl) (by kernel_rfl) (by kernel_rfl) (wgj os _)) ?_
  intro W base args ds gs before hval0 hW _ _ hL _
  have hval: ∀ (j:Nat) t v,Tryd.f11.params[j]?=some t→args[j]?=some v→Value.okWide Tryd.prog W .any base t v:=hval0
  have hW2:=hW
  obtain ⟨p,q,hA0,hV,rfl,_,_⟩:=hW2
  have hA:DataW.TrodAll enc Tryd.prog W 0 (fun _=>true) true Tryd.f11.params.toList args.toList ds p:=hA0
  rw [Tryd.params11] at hA hval
  obtain ⟨v0,v1,v2,d0,d1,d2,p0,p1,p2,rfl,rfl,_,h0,h1,h2⟩:=trodAll_three hA
  obtain ⟨rfl,rfl⟩:=trodVars_none hV
  obtain ⟨a1,c1,a2,c2,a3,c3,t,rfl,hl,_,T⟩:=wfx (hval 0 25 v0 rfl rfl) h0
  obtain ⟨k1,rfl,hk1⟩:=zrj (hval 1 3 v1 rfl rfl) h1
  obtain ⟨k2,rfl,hk2⟩:=zrj (hval 2 3 v2 rfl rfl) h2
  refine (ysw (e11 W.heap (pW W) (vgk W) a1 a2 a3 c1 c2 c3 t T hl k1 k2 (zfz hL) (zjq hL))).mono fun e W2 ⟨v,he,⟨hv,hk_⟩,cl⟩=>⟨v,he,?_⟩
  subst hv
  exact wqk vjw rfl (fun t ht=>by rw [Tryd.params11] at ht;revert t;decide +kernel) rfl Tryd.underlying4 hW rfl (wtv hk_ cl)

theorem bucketsHelpsRowHolds:Rows.BucketsHelpsSaid:=
  OpenClaim.holds_of_wide 11 Tryd.f11 rfl rfl rfl rfl rfl rfl rfl ⟨rfl,rfl,rfl,rfl,rfl⟩ rfl rfl rfl rfl rfl (by kernel_rfl) Tryd.func11 (by kernel_rfl)
    (of_decide_eq_true (by kernel_rfl)) (by unfold Func.isWrapper;first | (rw [if_pos (by decide +kernel)];kernel_rfl) | (rw [if_neg (by decide +kernel)];exact ⟨rfl,rfl⟩))
    (fun os started H enc _=>wqz os started H enc)

theorem bucketsHelpsHolds:Rows.BucketsHelpsCardSaid:=
  Claim7.holds_tied_plain_at .later [] [.data, .data, .data] true (true, "5334d201df14a8cbe7ef60c793562a47fe331153d035b74b45b1c636860d1486") false bucketsHelpsRowHolds (fun _ h => by cases h) (by kernel_rfl) (fun _ h => by cases h) bucketsHelps_row_tie rfl ⟨rfl, rfl⟩ (by kernel_rfl) rfl
    (fun f fn hf hfn=>by
      obtain rfl : f = 11 := Option.some.inj ((show Tryd.prog.funcNamed "steening/steeninglaw03.BucketsHelps" = some 11 by kernel_rfl).symm.trans hf) |>.symm
      obtain rfl:fn= Tryd.f11:=(Option.some.inj (Tryd.func11.symm.trans hfn)).symm
      exact ⟨by kernel_rfl,fun j t ht=>by
        rw [Tryd.params11] at ht
        have hm:t∈[25,3,3]:=by simpa using Array.mem_of_getElem? ht
        have hall:([25,3,3].all fun u=>!Tryd.prog.wantsStandIn u)=true:=by kernel_rfl
        exact (show Tryd.prog.wantsStandIn t=false by simpa using List.all_eq_true.1 hall t hm)⟩)
    (by kernel_rfl)

#print axioms bucketsHelpsHolds
end Go.Proofs.YtalfgojocdonhaaDoor
