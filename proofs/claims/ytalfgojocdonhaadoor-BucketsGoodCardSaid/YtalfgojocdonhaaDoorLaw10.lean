/-
  BucketsGood, for every input: the law returns true and leaves its arguments as they were. The row, and the tied card.
-/
import Derived.Test.YtalfgojocdonhaaDoorD2
import Derived.Test.YtalfgojocdonhaaDoorD1
import Derived.Test.YtalfgojocdonhaaDoorD3
import Derived.Test.YtalfgojocdonhaaDoorD4
import Derived.Test.YtalfgojocdonhaaDoorD5
import Derived.Test.YtalfgojocdonhaaDoorD6
import Derived.Test.YtalfgojocdonhaaDoorCards
import Derived.Test.YtalfgojocdonhaaDoorTie
namespace Go.Proofs.YtalfgojocdonhaaDoor
open Go.X Go.X.Flow Go.Conc
set_option maxRecDepth 10000
set_option synthInstance.maxSize 2000

set_option maxHeartbeats 2000000
theorem e10 (h:Heap) (p:PHeap) (hp:Per p h) (a1 a2 a3:Option Addr) (c1 c2 c3:Nat) (t:Tn) (T:TownP p a1 t.nH a2 t.nW a3 t.m t) (hl:t.nH≤9223372036854775807∧t.nW≤9223372036854775807∧t.m≤9223372036854775807) (b:Option Addr) (m cb:Nat) (d:List Int) (D:Ints p b m d) (_hm:m≤9223372036854775807) (N:NoneP p) (Z:TabP p):EntersL Tryd.prog 10 #[.agg #[.slice a1 t.nH c1,.slice a2 t.nW c2,.slice a3 t.m c3],.slice b m cb] h fun v h'=>v= .bool true∧Keep h h':=by
 refine xuk (Φ:=fun h_=>St h [] p h_ []) Tryd.func10 rfl (tm:=zq1 (zq2 (zq4 (zq32 (zq32 []))))) rfl ?_ (St.start h _ hp)
 intro cs
 refine fsr ?_
 refine xiw mn (v:=.agg #[.slice a1 t.nH c1,.slice a2 t.nW c2,.slice a3 t.m c3]) rfl fun b1=>xcj (L':=[(b1,.cells #[.slice a1 t.nH c1,.slice a2 t.nW c2,.slice a3 t.m c3] 25 (0,0))]) rfl ?_
 refine ro (xax (v:=.bool (false)) rfl) <| ren <| fsr ?_
 refine xaw mn (fun h_ H_=>xav H_ tA25 tS25 rfl (i:=0) rfl (vs:=[.slice a1 t.nH c1,.slice a2 t.nW c2,.slice a3 t.m c3]) rfl rfl) (tm':=zq2 (zq4 (zq8 _))) rfl ?_
 refine xcx mn (first:=[]) (cap:=[]) rfl rfl fC46 (fun h_ H_=>cb46 .lone _ _ H_.pe _ _ _ _ _ _ t (show TownP _ _ _ _ _ _ _ t from ⟨T.h,T.w,T.y⟩) hl) rfl ?_
 refine ro (xaq (v:=.bool (decide (Big t))) rfl) ?_
 by_cases cc2:Big t
 ·
  refine xfq (mo rfl rfl (dtt cc2)) (tm':=zq1 (zq16 _)) rfl <| rp (mo rfl rfl (dtt cc2)) <| rp (mo rfl rfl (dtt cc2)) <| rt (xbj rfl (dtt cc2) (v:=.bool (true)) rfl) (tm':=zq4 (zq16 _)) rfl <| xak <| xdk rfl rfl ?_
  refine fsr ?_
  refine xcx mn (first:=[]) (cap:=[]) rfl rfl fC16 (fun h_ H_=>c16 .lone _ _ H_.pe N Z) rfl ?_
  refine ro (xax (v:=.bool (true)) rfl) <| xak ?_
  refine xlk Tryd.func10 rfl (vs:=[.bool (true)]) (fun h_ H_=>⟨.bool (true),_,rfl,rfl,rfl⟩) (v:=.bool (true)) rfl ?_
  exact fun h_ H_=>⟨rfl,H_.kept⟩
 ·
  refine xaw (ms rfl rfl (dff cc2)) (fun h_ H_=>xaq (v:=.slice b m cb) rfl) (tm':=zq1 (zq16 _)) rfl ?_
  refine xaw (ms rfl rfl (dff cc2)) (fun h_ H_=>xfk Tryd.underlying22 rfl) rfl ?_
  refine xaw (ms rfl rfl (dff cc2)) (fun h_ H_=>xix rfl rfl) rfl ?_
  refine rt (xcq rfl (dff cc2) (v:=.bool (decide (40<((m:Nat):Int)))) rfl) (tm':=zq4 (zq16 _)) rfl <| xak ?_
  by_cases cc3:40<((m:Nat):Int)
  ·
   refine xdk rfl (dtt cc3) <| fsr ?_
   refine xcx mn (first:=[]) (cap:=[]) rfl rfl fC16 (fun h_ H_=>c16 .lone _ _ H_.pe N Z) rfl ?_
   refine ro (xax (v:=.bool (true)) rfl) <| xak ?_
   refine xlk Tryd.func10 rfl (vs:=[.bool (true)]) (fun h_ H_=>⟨.bool (true),_,rfl,rfl,rfl⟩) (v:=.bool (true)) rfl ?_
   exact fun h_ H_=>⟨rfl,H_.kept⟩
  ·
   refine xcv rfl (dff cc3) <| xdq <| xej ?_
   have hn:t.nH≤40∧t.nW≤40∧t.m≤41:=by have z_:=‹¬ Big t›;unfold Big at z_;omega
   have gl_:=wpj hn.1 d
   have lh_:t.hs.length≤40:=hn.1
   have lw_:t.ws.length≤40:=hn.2.1
   have ly_:t.wy.length≤41:=hn.2.2
   refine xbq ?_
   refine xaw mn (fun h_ H_=>xav H_ tA25 tS25 rfl (i:=0) rfl (vs:=[.slice a1 t.nH c1,.slice a2 t.nW c2,.slice a3 t.m c3]) rfl rfl) (tm':=zq2 (zq4 (zq16 _))) rfl ?_
   refine xcj (L':=([(b1,.cells #[.slice a1 t.nH c1,.slice a2 t.nW c2,.slice a3 t.m c3] 25 (0,0))]:Pcs)++[]) rfl ?_
   refine xjq mn (first:=[]) (cap:=[]) rfl rfl fC17 (R:=fun v_ h_=>∃ w4:Value,∃ w5:Value,∃ w6:Value,∃ X7:Pcs,∃ X8:Pcs,∃ X9:Pcs,v_= .agg #[w4,w5,w6]∧(OwnS 3 1 w4 (ics t.hs) X7)∧(OwnS 3 1 w5 (ics t.ws) X8)∧(OwnS 43 2 w6 (wcs t.wy) X9)∧St h [] p h_ (([(b1,.cells #[.slice a1 t.nH c1,.slice a2 t.nW c2,.slice a3 t.m c3] 25 (0,0))]:Pcs)++((X9++(X7++(X8++[])))++[]))) (fun h_ H_=>(c17 .lone _ _ H_.pe _ _ _ _ _ _ t (show TownP _ _ _ _ _ _ _ t from ⟨T.h,T.w,T.y⟩) (by omega)).mono fun v_ h2_ ⟨w4,w5,w6,X7,X8,X9,e_,o10,o11,o12,N_⟩=>⟨w4,w5,w6,X7,X8,X9,e_,o10,o11,o12,H_.callNA N_⟩) fun v_=>?_
   refine xfv fun w4=>xfv fun w5=>xfv fun w6=>xfv fun X7=>xfv fun X8=>xfv fun X9=>xfz fun ev_=>xfz fun o10=>xfz fun o11=>xfz fun o12=>?_
   have ev_:=ev_.symm;subst ev_
   refine xcj (L':=([(b1,.cells #[.slice a1 t.nH c1,.slice a2 t.nW c2,.slice a3 t.m c3] 25 (0,0))]:Pcs)++(X9++(X7++(X8++[])))) (by simp) ?_
   refine xmj ([(b1,.cells #[.slice a1 t.nH c1,.slice a2 t.nW c2,.slice a3 t.m c3] 25 (0,0))]:Pcs) mn Tryd.underlying22 tS3 tZ3 (Nat.le_of_ble_eq_true rfl) (vs:=[]) rfl rfl (es:=[]) rfl rfl rfl fun v13 X14 o15=>?_
   refine rt (xaq (v:=.slice b m cb) rfl) (tm':=zq1 (zq8 (zq16 _))) rfl ?_
   refine yaz ([(b1,.cells #[.slice a1 t.nH c1,.slice a2 t.nW c2,.slice a3 t.m c3] 25 (0,0))]:Pcs) X14 mn Tryd.underlying22 tS3 tZ3 rfl tB3 Tryd.underlying22 rfl rfl o15 D (xsv _) (by simp only [List.length_nil];omega) (by decide) (by decide) fun v16 X17 o18=>?_
   refine xkz mn tZ25 rfl fun b19=>xcj (L':=([(b19,.cells #[.slice none 0 0,.slice none 0 0,.slice none 0 0] 25 (0,0)),(b1,.cells #[.slice a1 t.nH c1,.slice a2 t.nW c2,.slice a3 t.m c3] 25 (0,0))]:Pcs)++(X17++(X9++(X7++(X8++[]))))) rfl ?_
   refine xjk mn tS25 rfl (v:=.agg #[w4,w5,w6]) rfl (i:=0) rfl rfl (xfj o10.one.2 (xfj o11.one.2 (xfj o12.one.2 rfl))) (Nat.le_of_ble_eq_true rfl) (cs2:=[w4,w5,w6]) rfl (xcj (L':=([(b19,.cells #[w4,w5,w6] 25 (0,0)),(b1,.cells #[.slice a1 t.nH c1,.slice a2 t.nW c2,.slice a3 t.m c3] 25 (0,0))]:Pcs)++(X17++(X9++(X7++(X8++[]))))) rfl ?_)
   refine rt (xax (v:=v16) rfl) (tm':=zq1 (zq2 (zq4 _))) rfl <| ren <| xej ?_
   refine xgj (List.Perm.append_left _ (List.Perm.append_left _ (List.perm_append_comm_assoc _ _ _))) ?_
   refine xgj (List.Perm.append_left _ (List.perm_append_comm_assoc _ _ _)) ?_
   refine xkv (L':=([(b19,.cells #[w4,w5,w6] 25 (0,0)),(b1,.cells #[.slice a1 t.nH c1,.slice a2 t.nW c2,.slice a3 t.m c3] 25 (0,0))]:Pcs)++(X7++(X17++(X9++(X8++[]))))) rfl ?_
   refine xjj (A:=([(b19,.cells #[w4,w5,w6] 25 (0,0)),(b1,.cells #[.slice a1 t.nH c1,.slice a2 t.nW c2,.slice a3 t.m c3] 25 (0,0))]:Pcs)) o10 ((xck _).trans rfl) fun p20 a21 cp22 le23 ev_ D24=>?_
   subst ev_
   refine xgj (List.Perm.append_left _ (List.Perm.append_left _ (List.perm_append_comm_assoc _ _ _))) ?_
   refine xgj (List.Perm.append_left _ (List.perm_append_comm_assoc _ _ _)) ?_
   refine xkv (L':=([(b19,.cells #[.slice a21 t.nH cp22,w5,w6] 25 (0,0)),(b1,.cells #[.slice a1 t.nH c1,.slice a2 t.nW c2,.slice a3 t.m c3] 25 (0,0))]:Pcs)++(X8++(X17++(X9++[])))) rfl ?_
   refine xjj (A:=([(b19,.cells #[.slice a21 t.nH cp22,w5,w6] 25 (0,0)),(b1,.cells #[.slice a1 t.nH c1,.slice a2 t.nW c2,.slice a3 t.m c3] 25 (0,0))]:Pcs)) o11 ((xck _).trans rfl) fun p25 a26 cp27 le28 ev_ D29=>?_
   subst ev_
   refine xgj (List.Perm.append_left _ (List.perm_append_comm_assoc _ _ _)) ?_
   refine xkv (L':=([(b19,.cells #[.slice a21 t.nH cp22,.slice a26 t.nW cp27,w6] 25 (0,0)),(b1,.cells #[.slice a1 t.nH c1,.slice a2 t.nW c2,.slice a3 t.m c3] 25 (0,0))]:Pcs)++(X9++(X17++[]))) rfl ?_
   refine xjj (A:=([(b19,.cells #[.slice a21 t.nH cp22,.slice a26 t.nW cp27,w6] 25 (0,0)),(b1,.cells #[.slice a1 t.nH c1,.slice a2 t.nW c2,.slice a3 t.m c3] 25 (0,0))]:Pcs)) o12 (wcs_size _) fun p30 a31 cp32 le33 ev_ D34=>?_
   subst ev_
   refine xjj (A:=([(b19,.cells #[.slice a21 t.nH cp22,.slice a26 t.nW cp27,.slice a31 t.m cp32] 25 (0,0)),(b1,.cells #[.slice a1 t.nH c1,.slice a2 t.nW c2,.slice a3 t.m c3] 25 (0,0))]:Pcs)) o18 (by have h_:=D.len;simpa using h_) fun p35 a36 cp37 le38 ev_ D39=>?_
   subst ev_
   refine xkv (L':=[(b19,.cells #[.slice a21 t.nH cp22,.slice a26 t.nW cp27,.slice a31 t.m cp32] 25 (0,0)),(b1,.cells #[.slice a1 t.nH c1,.slice a2 t.nW c2,.slice a3 t.m c3] 25 (0,0))]) rfl ?_
   refine xfw 3 [[],[0],[],[0,2],[]] xlq (by kernel_rfl) (Nat.le_of_ble_eq_true rfl) ?_
   refine wd (fun h_ H_=>xav H_ tA25 tS25 rfl (i:=0) rfl (vs:=[.slice a21 t.nH cp22,.slice a26 t.nW cp27,.slice a31 t.m cp32]) rfl rfl) ?_
   refine xik mn (first:=[]) (cap:=[]) rfl rfl fC47 (fun h_ H_=>(c47 .lone _ _ H_.pe _ _ _ _ _ _ _ _ _ t (show TownP _ _ _ _ _ _ _ t from ⟨((((show Ints _ _ _ t.hs from D24).mono le28).mono le33).mono le38),(((show Ints _ _ _ t.ws from D29).mono le33).mono le38),((show Wys _ _ _ t.wy from D34).mono le38)⟩) (by omega)).mono fun v_ h2_ ⟨e_,k_⟩=>⟨e_,H_.call k_⟩) (tm':=zq4 (zq8 (zq16 _))) rfl ?_
   refine wd (fun h_ H_=>xav H_ tA25 tS25 rfl (i:=1) rfl (vs:=[.slice a1 t.nH c1,.slice a2 t.nW c2,.slice a3 t.m c3]) rfl rfl) ?_
   refine xiz rfl ?_
   refine xcx mn (first:=[]) (cap:=[]) rfl rfl fC48 (fun h_ H_=>c48 .lone _ _ H_.pe _ _ _ _ _ _ _ _ _ t (show TownP _ _ _ _ _ _ _ t from ⟨((((T.h.mono le23).mono le28).mono le33).mono le38),((((T.w.mono le23).mono le28).mono le33).mono le38),((((T.y.mono le23).mono le28).mono le33).mono le38)⟩) (by omega)) rfl ?_
   refine ro (xhw rfl rfl) <| xak <| xcv rfl (decide_eq_false (fun z_=>z_ rfl)) <| xdq <| fsr ?_
   refine xaw mn (fun h_ H_=>xav H_ tA25 tS25 rfl (i:=0) rfl (vs:=[.slice a21 t.nH cp22,.slice a26 t.nW cp27,.slice a31 t.m cp32]) rfl rfl) (tm':=zq1 (zq32 _)) rfl ?_
   refine ro (xaq (v:=.slice a36 m cp37) rfl) ?_
   refine xcj (L':=([(b19,.cells #[.slice a21 t.nH cp22,.slice a26 t.nW cp27,.slice a31 t.m cp32] 25 (0,0)),(b1,.cells #[.slice a1 t.nH c1,.slice a2 t.nW c2,.slice a3 t.m c3] 25 (0,0))]:Pcs)++[]) rfl ?_
   refine xjq mn (first:=[]) (cap:=[]) rfl rfl fC49 (R:=fun v_ h_=>∃ w40:Value,∃ X41:Pcs,v_= .tuple #[w40,.bool (decide (chkB t=0∧DivI t d)),.int .i64 (chkB t)]∧(OwnS 3 1 w40 (ics (goodL t d)) X41)∧St h [] p35 h_ (([(b19,.cells #[.slice a21 t.nH cp22,.slice a26 t.nW cp27,.slice a31 t.m cp32] 25 (0,0)),(b1,.cells #[.slice a1 t.nH c1,.slice a2 t.nW c2,.slice a3 t.m c3] 25 (0,0))]:Pcs)++(X41++[]))) (fun h_ H_=>(c49 .lone _ _ H_.pe _ _ _ _ _ _ t (show TownP _ _ _ _ _ _ _ t from ⟨((((show Ints _ _ _ t.hs from D24).mono le28).mono le33).mono le38),(((show Ints _ _ _ t.ws from D29).mono le33).mono le38),((show Wys _ _ _ t.wy from D34).mono le38)⟩) (by omega) _ _ _ _ (show Ints _ _ _ d from D39) (by omega)).mono fun v_ h2_ ⟨w40,X41,e_,o42,N_⟩=>⟨w40,X41,e_,o42,H_.callNA N_⟩) fun v_=>?_
   refine xfv fun w40=>xfv fun X41=>xfz fun ev_=>xfz fun o42=>?_
   have ev_:=ev_.symm;subst ev_
   refine xcj (L':=([(b19,.cells #[.slice a21 t.nH cp22,.slice a26 t.nW cp27,.slice a31 t.m cp32] 25 (0,0)),(b1,.cells #[.slice a1 t.nH c1,.slice a2 t.nW c2,.slice a3 t.m c3] 25 (0,0))]:Pcs)++(X41++[])) rfl ?_
   refine rt (xaq (v:=.tuple #[w40,.bool (decide (chkB t=0∧DivI t d)),.int .i64 (chkB t)]) rfl) (tm':=zq32 _) rfl <| ro (xdx rfl (v:=w40) rfl) <| ro (xdx rfl (v:=.bool (decide (chkB t=0∧DivI t d))) rfl) <| rt (xdx rfl (v:=.int .i64 (chkB t)) rfl) (tm':=zq2 (zq4 (zq32 _))) rfl <| ro (xax (v:=w40) rfl) <| ro (xax (v:=.bool (decide (chkB t=0∧DivI t d))) rfl) ?_
   refine rt (xax (v:=.int .i64 (chkB t)) rfl) (tm':=zq2 (zq8 _)) rfl <| ren <| xbq <| rd (fun h_ H_=>xav H_ tA25 tS25 rfl (i:=1) rfl (vs:=[.slice a1 t.nH c1,.slice a2 t.nW c2,.slice a3 t.m c3]) rfl rfl) <| ro (xaq (v:=.slice b m cb) rfl) ?_
   refine xjq mn (first:=[]) (cap:=[]) rfl rfl fC50 (R:=fun v_ h_=>∃ w43:Value,∃ X44:Pcs,v_= .tuple #[w43,.bool (decide (chkB t=0∧DivI t d)),.int .i64 (chkB t)]∧(OwnS 3 1 w43 (ics (goodL t d)) X44)∧St h [] p35 h_ (([(b19,.cells #[.slice a21 t.nH cp22,.slice a26 t.nW cp27,.slice a31 t.m cp32] 25 (0,0)),(b1,.cells #[.slice a1 t.nH c1,.slice a2 t.nW c2,.slice a3 t.m c3] 25 (0,0))]:Pcs)++(X44++(X41++[])))) (fun h_ H_=>(c50 .lone _ _ H_.pe _ _ _ _ _ _ t (show TownP _ _ _ _ _ _ _ t from ⟨((((T.h.mono le23).mono le28).mono le33).mono le38),((((T.w.mono le23).mono le28).mono le33).mono le38),((((T.y.mono le23).mono le28).mono le33).mono le38)⟩) (by omega) _ _ _ _ ((((D.mono le23).mono le28).mono le33).mono le38)).mono fun v_ h2_ ⟨w43,X44,e_,o45,N_⟩=>⟨w43,X44,e_,o45,H_.callNA N_⟩) fun v_=>?_
   refine xfv fun w43=>xfv fun X44=>xfz fun ev_=>xfz fun o45=>?_
   have ev_:=ev_.symm;subst ev_
   refine xcj (L':=([(b19,.cells #[.slice a21 t.nH cp22,.slice a26 t.nW cp27,.slice a31 t.m cp32] 25 (0,0)),(b1,.cells #[.slice a1 t.nH c1,.slice a2 t.nW c2,.slice a3 t.m c3] 25 (0,0))]:Pcs)++(X44++(X41++[]))) rfl ?_
   refine xgx (tm':=zq2 (zq8 (zq32 _))) rfl ?_
   refine ro (xaq (v:=.tuple #[w43,.bool (decide (chkB t=0∧DivI t d)),.int .i64 (chkB t)]) rfl) <| ro (xdx rfl (v:=w43) rfl) <| rt (xdx rfl (v:=.bool (decide (chkB t=0∧DivI t d))) rfl) (tm':=zq4 (zq8 (zq32 _))) rfl <| ro (xdx rfl (v:=.int .i64 (chkB t)) rfl) <| ro (xax (v:=w43) rfl) <| rt (xax (v:=.bool (decide (chkB t=0∧DivI t d))) rfl) (tm':=zq4 (zq8 _)) rfl ?_
   refine ro (xax (v:=.int .i64 (chkB t)) rfl) <| ren ?_
   refine xgj (List.Perm.append_left _ (List.perm_append_comm_assoc _ _ _)) ?_
   refine xkv (L':=([(b19,.cells #[.slice a21 t.nH cp22,.slice a26 t.nW cp27,.slice a31 t.m cp32] 25 (0,0)),(b1,.cells #[.slice a1 t.nH c1,.slice a2 t.nW c2,.slice a3 t.m c3] 25 (0,0))]:Pcs)++(X41++(X44++[]))) rfl ?_
   refine xjj (A:=([(b19,.cells #[.slice a21 t.nH cp22,.slice a26 t.nW cp27,.slice a31 t.m cp32] 25 (0,0)),(b1,.cells #[.slice a1 t.nH c1,.slice a2 t.nW c2,.slice a3 t.m c3] 25 (0,0))]:Pcs)) o42 ((xck _).trans rfl) fun p46 a47 cp48 le49 ev_ D50=>?_
   subst ev_
   refine xjj (A:=([(b19,.cells #[.slice a21 t.nH cp22,.slice a26 t.nW cp27,.slice a31 t.m cp32] 25 (0,0)),(b1,.cells #[.slice a1 t.nH c1,.slice a2 t.nW c2,.slice a3 t.m c3] 25 (0,0))]:Pcs)) o45 ((xck _).trans rfl) fun p51 a52 cp53 le54 ev_ D55=>?_
   subst ev_
   refine xkv (L':=[(b19,.cells #[.slice a21 t.nH cp22,.slice a26 t.nW cp27,.slice a31 t.m cp32] 25 (0,0)),(b1,.cells #[.slice a1 t.nH c1,.slice a2 t.nW c2,.slice a3 t.m c3] 25 (0,0))]) rfl ?_
   refine xbq <| ro (xaq (v:=.slice a47 ((goodL t d).length) cp48) rfl) <| rt (xaq (v:=.slice a52 ((goodL t d).length) cp53) rfl) (tm':=zq1 (zq2 (zq4 (zq8 (zq32 _))))) rfl ?_
   refine xcx mn (first:=[]) (cap:=[]) rfl rfl fC27 (fun h_ H_=>c27 .lone _ _ H_.pe _ _ _ _ _ _ _ _ ((show Ints _ _ _ (goodL t d) from D50).mono le54) (show Ints _ _ _ (goodL t d) from D55) (by omega)) rfl ?_
   refine ro (xaq (v:=.bool (decide ((goodL t d)=(goodL t d)))) rfl) ?_
   refine xaw (ms rfl rfl (decide_eq_true rfl)) (fun h_ H_=>xaq (v:=.bool (decide (chkB t=0∧DivI t d))) rfl) (tm':=zq1 (zq2 (zq4 (zq32 (zq32 []))))) rfl ?_
   refine xaw (ms rfl rfl (decide_eq_true rfl)) (fun h_ H_=>xaq (v:=.bool (decide (chkB t=0∧DivI t d))) rfl) rfl ?_
   refine xaw (ms rfl rfl (decide_eq_true rfl)) (fun h_ H_=>zgv (p:=chkB t=0∧DivI t d) (q:=chkB t=0∧DivI t d) Tryd.underlying4 rfl rfl) rfl ?_
   refine rt (xbj rfl (decide_eq_true rfl) (v:=.bool (decide ((chkB t=0∧DivI t d)↔(chkB t=0∧DivI t d)))) rfl) (tm':=zq1 (zq2 (zq4 (zq32 (zq32 []))))) rfl <| ro (xaq (v:=.bool (decide ((chkB t=0∧DivI t d)↔(chkB t=0∧DivI t d)))) rfl) ?_
   refine xaw (ms rfl rfl (decide_eq_true Iff.rfl)) (fun h_ H_=>xaq (v:=.int .i64 (chkB t)) rfl) rfl ?_
   refine xaw (ms rfl rfl (decide_eq_true Iff.rfl)) (fun h_ H_=>xaq (v:=.int .i64 (chkB t)) rfl) (tm':=zq1 (zq2 (zq4 (zq32 (zq32 []))))) rfl ?_
   refine xaw (ms rfl rfl (decide_eq_true Iff.rfl)) (fun h_ H_=>xjx rfl rfl) rfl ?_
   refine ro (xbj rfl (decide_eq_true Iff.rfl) (v:=.bool (decide (chkB t=chkB t))) rfl) <| rt (xaq (v:=.bool (decide (chkB t=chkB t))) rfl) (tm':=zq1 (zq2 (zq4 (zq32 (zq32 []))))) rfl ?_
   refine xaw (ms rfl rfl (decide_eq_true rfl)) (fun h_ H_=>xav H_ tA25 tS25 rfl (i:=0) rfl (vs:=[.slice a21 t.nH cp22,.slice a26 t.nW cp27,.slice a31 t.m cp32]) rfl rfl) rfl ?_
   refine xaw (ms rfl rfl (decide_eq_true rfl)) (fun h_ H_=>xav H_ tA25 tS25 rfl (i:=1) rfl (vs:=[.slice a1 t.nH c1,.slice a2 t.nW c2,.slice a3 t.m c3]) rfl rfl) rfl ?_
   refine xcx (ms rfl rfl (decide_eq_true rfl)) (first:=[]) (cap:=[]) rfl rfl fC22 (fun h_ H_=>c22 .lone _ _ H_.pe _ _ _ _ _ _ t (show TownP _ _ _ _ _ _ _ t from ⟨((((((show Ints _ _ _ t.hs from D24).mono le28).mono le33).mono le38).mono le49).mono le54),(((((show Ints _ _ _ t.ws from D29).mono le33).mono le38).mono le49).mono le54),((((show Wys _ _ _ t.wy from D34).mono le38).mono le49).mono le54)⟩) (by omega) _ _ _ _ _ _ t (show TownP _ _ _ _ _ _ _ t from ⟨((((((T.h.mono le23).mono le28).mono le33).mono le38).mono le49).mono le54),((((((T.w.mono le23).mono le28).mono le33).mono le38).mono le49).mono le54),((((((T.y.mono le23).mono le28).mono le33).mono le38).mono le49).mono le54)⟩) (by omega)) (tm':=zq1 (zq2 (zq4 (zq32 (zq32 []))))) rfl ?_
   refine ro (xbj rfl (decide_eq_true rfl) (v:=.bool (decide (sameT t t))) rfl) <| ro (xaq (v:=.bool (decide (sameT t t))) rfl) ?_
   refine xaw (ms rfl rfl (decide_eq_true (yez t))) (fun h_ H_=>xaq (v:=.slice a36 m cp37) rfl) (tm':=zq1 (zq2 (zq4 (zq32 (zq32 []))))) rfl ?_
   refine xaw (ms rfl rfl (decide_eq_true (yez t))) (fun h_ H_=>xaq (v:=.slice b m cb) rfl) rfl ?_
   refine xcx (ms rfl rfl (decide_eq_true (yez t))) (first:=[]) (cap:=[]) rfl rfl fC27 (fun h_ H_=>c27 .lone _ _ H_.pe _ _ _ _ _ _ _ _ (((show Ints _ _ _ d from D39).mono le49).mono le54) ((((((D.mono le23).mono le28).mono le33).mono le38).mono le49).mono le54) (by omega)) rfl ?_
   refine rt (xbj rfl (decide_eq_true (yez t)) (v:=.bool (decide (d=d))) rfl) (tm':=zq1 (zq2 (zq4 (zq32 (zq32 []))))) rfl <| ro (xaq (v:=.bool (decide (d=d))) rfl) ?_
   refine xcx (ms rfl rfl (decide_eq_true rfl)) (first:=[]) (cap:=[]) rfl rfl fC16 (fun h_ H_=>c16 .lone _ _ H_.pe ((((((N.mono le23).mono le28).mono le33).mono le38).mono le49).mono le54) ((((((Z.mono le23).mono le28).mono le33).mono le38).mono le49).mono le54)) rfl ?_
   refine rt (xbj rfl (decide_eq_true rfl) (v:=.bool (true)) rfl) (tm':=zq1 (zq2 (zq4 (zq32 (zq32 []))))) rfl <| ro (xax (v:=.bool (true)) rfl) <| xak ?_
   refine xlk Tryd.func10 rfl (vs:=[.bool (true)]) (fun h_ H_=>⟨.bool (true),_,rfl,rfl,rfl⟩) (v:=.bool (true)) rfl ?_
   exact fun h_ H_=>⟨rfl,H_.kept⟩
end Go.Proofs.YtalfgojocdonhaaDoor
namespace Go.Proofs.YtalfgojocdonhaaDoor
open Go.X Go.X.Flow Go.Conc Go.RowKit Go.ChangeShapes Go.WideShapes Go.ChangeAt Go.Joins
set_option maxRecDepth 100000

theorem wxq (os:Os) (started:os.Started) (H:Type) (enc:TypeId × Value→H):
    ReturnsInHanded {} Tryd.checked os 10 .any (fun w args=>(Rows.bucketsGoodSpec.pre enc Tryd.prog Tryd.f10 Rows.bucketsGoodRow.domain false w args∧laidMetH Tryd.prog Rows.bucketsGoodRow.laid w)∧sizedMet enc Tryd.prog Tryd.f10 (OpenSpec.ofChange Rows.bucketsGoodSpec) false w args) (Rows.bucketsGoodSpec.post enc Tryd.prog Tryd.f10 false true false false):=by
  refine returnsInHanded_of_change_and (C:=Tryd.checked) (X:=fun w _=>laidMetH Tryd.prog Rows.bucketsGoodRow.laid w) (fun _ _ _ hh h=>h.of_heap hh) pOwn started (by kernel_rfl) Tryd.func10
    (ChangeSpec.witness_shaped (enc:=enc) (C:=Tryd.checked) (os:=os) (X:=fun w _=>laidMetH Tryd.prog Rows.bucketsGoodRow.laid w) false (laidW os) #[.agg #[.slice none 0 0,.slice none 0 0,.slice none 0 0],.slice none 0 0] 8 (World.laidAll_os _ _ _)
      (World.shaped_of_ZipB (by kernel_rfl) (by kernel_rfl)) (by kernel_rfl) (by kernel_rfl) (by kernel_rfl) (ycv os _)) ?_
  intro W base args ds gs before hval0 hW _ _ hL _
  have hval: ∀ (j:Nat) t v,Tryd.f10.params[j]?=some t→args[j]?=some v→Value.okWide Tryd.prog W .any base t v:=hval0
  have hW2:=hW
  obtain ⟨p,q,hA0,hV,rfl,_,_⟩:=hW2
  have hA:DataW.TrodAll enc Tryd.prog W 0 (fun _=>true) true Tryd.f10.params.toList args.toList ds p:=hA0
  rw [Tryd.params10] at hA hval
  obtain ⟨v0,v1,d0,d1,p0,p1,rfl,rfl,_,h0,h1⟩:=trodAll_two hA
  obtain ⟨rfl,rfl⟩:=trodVars_none hV
  obtain ⟨a1,c1,a2,c2,a3,c3,t,rfl,hl,_,T⟩:=yaj (hval 0 25 v0 rfl rfl) h0
  obtain ⟨b,m,cb,d,rfl,hm,D⟩:=zmq (hval 1 22 v1 rfl rfl) h1
  refine (xrj (e10 W.heap (pW W) (zlw W) a1 a2 a3 c1 c2 c3 t T hl b m cb d D hm (xvv hL) (xxz hL))).mono fun e W2 ⟨v,he,⟨hv,hk_⟩,cl⟩=>⟨v,he,?_⟩
  subst hv
  exact ykq wmv rfl (fun t ht=>by rw [Tryd.params10] at ht;revert t;decide +kernel) rfl Tryd.underlying4 hW rfl (ymk hk_ cl)

theorem bucketsGoodRowHolds:Rows.BucketsGoodSaid:=
  OpenClaim.holds_of_wide 10 Tryd.f10 rfl rfl rfl rfl rfl rfl rfl ⟨rfl,rfl,rfl,rfl,rfl⟩ rfl rfl rfl rfl rfl (by kernel_rfl) Tryd.func10 (by kernel_rfl)
    (of_decide_eq_true (by kernel_rfl)) (by unfold Func.isWrapper;first | (rw [if_pos (by decide +kernel)];kernel_rfl) | (rw [if_neg (by decide +kernel)];exact ⟨rfl,rfl⟩))
    (fun os started H enc _=>wxq os started H enc)

theorem bucketsGoodHolds:Rows.BucketsGoodCardSaid:=
  Claim7.holds_tied_plain_at .later [] [.data, .data, .data] true (true, "5334d201df14a8cbe7ef60c793562a47fe331153d035b74b45b1c636860d1486") false bucketsGoodRowHolds (fun _ h => by cases h) (by kernel_rfl) (fun _ h => by cases h) bucketsGood_row_tie rfl ⟨rfl, rfl⟩ (by kernel_rfl) rfl
    (fun f fn hf hfn=>by
      obtain rfl : f = 10 := Option.some.inj ((show Tryd.prog.funcNamed "steening/steeninglaw03.BucketsGood" = some 10 by kernel_rfl).symm.trans hf) |>.symm
      obtain rfl:fn= Tryd.f10:=(Option.some.inj (Tryd.func10.symm.trans hfn)).symm
      exact ⟨by kernel_rfl,fun j t ht=>by
        rw [Tryd.params10] at ht
        have hm:t∈[25,22]:=by simpa using Array.mem_of_getElem? ht
        have hall:([25,22].all fun u=>!Tryd.prog.wantsStandIn u)=true:=by kernel_rfl
        exact (show Tryd.prog.wantsStandIn t=false by simpa using List.all_eq_true.1 hall t hm)⟩)
    (by kernel_rfl)

#print axioms bucketsGoodHolds
end Go.Proofs.YtalfgojocdonhaaDoor
