/-
  Part of proofs about cords and rosters in a file: a lone run, and what it computes. No condition.
-/
import Derived.Test.YtphalmjpbnffcaaGreatDoorD1
import Derived.Test.YtphalmjpbnffcaaGreatDoorD2
import Derived.Test.YtphalmjpbnffcaaGreatDoorD4
import Derived.Test.YtphalmjpbnffcaaGreatDoorD3
namespace Go.Proofs.YtphalmjpbnffcaaGreatDoor
open Go.X Go.X.Kn Go.X.Hr Go.Conc
set_option maxRecDepth 10000
set_option synthInstance.maxSize 2000

set_option maxHeartbeats 2000000
theorem c51a (md:Md) (h:Heap) (p:PHeap) (hp:Per p h) (a:Option Addr) (ca:Nat) (b:Option Addr) (cb:Nat) (r:Rst) (R:RstP p a r.room.length b r.sts.length r) (hn:r.room.length≤40∧r.sts.length≤40) (hB:rosB r) (hne:0≤(bestF r.sts r.room).2):CallsX Tryz.prog md 51 #[.agg #[.slice a r.room.length ca,.slice b r.sts.length cb],.bool (true),.func (.func 52) #[] #[]] h fun v h'=>∃ (bC bM:Nat) (ms_:Ms) (ob_:Obj),v= .tuple #[.pointer (some ⟨bC,0,none⟩),.int .i64 (bestF r.sts r.room).1,.int .i64 0]∧MapK 9 ms_ ob_∧HInv r ms_∧New h h' ([(bC,.cells #[.slice a r.room.length ca,.slice b r.sts.length cb,.func (.func 52) #[] #[],.map (some bM)] 136 (0,0)),(bM,ob_)]:Pcs):=by
 refine xbv (Φ:=fun h_=>St h [] p h_ []) Tryz.func51 rfl (tm:=zq1 (zq2 (zq4 (zq8 (zq16 []))))) rfl ?_ (St.start h _ hp)
 intro c₀ cs Stop K
 refine fsr ?_
 refine xjq mn (v:=.agg #[.slice a r.room.length ca,.slice b r.sts.length cb]) rfl fun b1=>xcz (L':=[(b1,.cells #[.slice a r.room.length ca,.slice b r.sts.length cb] 51 (0,0))]) rfl ?_
 refine ro (xaq (v:=.pointer none) rfl) <| rt (xaq (v:=.int .i64 0) rfl) (tm':=zq8 _) rfl <| ro (xaq (v:=.int .i64 0) rfl) <| ren <| fsr <| rd (fun h_ H_=>xbk H_ tA51 tS51 rfl (i:=0) rfl (vs:=[.slice a r.room.length ca,.slice b r.sts.length cb]) rfl rfl) ?_
 refine rt (xax (v:=.bool (true)) rfl) (tm':=zq1 (zq2 (zq4 (zq8 _)))) rfl ?_
 refine xcw mn (first:=[]) (cap:=[]) rfl rfl fC78 (fun h_ H_=>c78 md _ _ H_.pe _ _ _ _ r (show RstP _ _ _ _ _ r from ⟨R.r,R.s⟩) hn true) rfl ?_
 refine ro (xaq (v:=.int .i64 (askH r true)) rfl) <| ren <| xav <| rt (xax (v:=.int .i64 (askH r true)) rfl) (tm':=zq1 (zq16 _)) rfl <| ro (xgw rfl rfl) <| xak ?_
 refine xcv rfl (decide_eq_false (fun z_=>z_ (wjx hB))) <| xdz <| fsr <| rd (fun h_ H_=>xbk H_ tA51 tS51 rfl (i:=0) rfl (vs:=[.slice a r.room.length ca,.slice b r.sts.length cb]) rfl rfl) <| rt (xax (v:=.func (.func 52) #[] #[]) rfl) (tm':=zq1 (zq2 (zq4 (zq8 (zq16 []))))) rfl ?_
 refine xgv mn (first:=[]) (cap:=[]) rfl rfl fC79 (fun h_ H_=>(show CallsX _ md 79 _ _ (fun v_ h_=>∃ (bC2 bM3:Nat) (ms5:Ms) (ob4:Obj),v_= .pointer (some ⟨bC2,0,none⟩)∧MapK 9 ms5 ob4∧HInv r ms5∧St h [] p h_ (([(b1,.cells #[.slice a r.room.length ca,.slice b r.sts.length cb] 51 (0,0))]:Pcs)++(([(bC2,.cells #[.slice a r.room.length ca,.slice b r.sts.length cb,.func (.func 52) #[] #[],.map (some bM3)] 136 (0,0)),(bM3,ob4)]:Pcs)++[]))) from (c79 md _ _ H_.pe _ _ _ _ _ (show RstP _ _ _ _ _ r from ⟨R.r,R.s⟩)).mono fun v_ h2_ ⟨_,_,e_,N_⟩=>⟨_,_,_,_,e_,MapK.nil,HInv.nil r,(H_.callN N_).perm (List.perm_append_comm_assoc _ ([(b1,.cells #[.slice a r.room.length ca,.slice b r.sts.length cb] 51 (0,0))]:Pcs) [])⟩)) ?_
 refine fun v_=>xgx fun bC2=>xgx fun bM3=>xgx fun ms5=>xgx fun ob4=>xez fun ev_=>xez fun hM6=>xez fun hI7=>?_
 subst ev_
 refine xcz (L':=[(b1,.cells #[.slice a r.room.length ca,.slice b r.sts.length cb] 51 (0,0)),(bC2,.cells #[.slice a r.room.length ca,.slice b r.sts.length cb,.func (.func 52) #[] #[],.map (some bM3)] 136 (0,0)),(bM3,ob4)]) rfl ?_
 refine ro (xaq (v:=.pointer (some ⟨bC2,0,none⟩)) rfl) <| ren <| xav <| rt (xax (v:=.pointer (some ⟨bC2,0,none⟩)) rfl) (tm':=zq1 (zq2 (zq4 (zq8 (zq16 []))))) rfl ?_
 refine xgv mn (first:=[]) (cap:=[]) rfl rfl fC80 (fun h_ H_=>(show CallsX _ md 80 _ _ (fun v_ h_=>∃ (ms8:Ms) (ob9:Obj),v_= .tuple #[.int .i64 ((bestF r.sts r.room).1),.bool (decide (0≤(bestF r.sts r.room).2))]∧MapK 9 ms8 ob9∧HInv r ms8∧St h [] p h_ (([(b1,.cells #[.slice a r.room.length ca,.slice b r.sts.length cb] 51 (0,0))]:Pcs)++(([(bC2,.cells #[.slice a r.room.length ca,.slice b r.sts.length cb,.func (.func 52) #[] #[],.map (some bM3)] 136 (0,0)),(bM3,ob9)]:Pcs)++[]))) from (c80 md h_ h [] p _ _ _ _ r (show RstP _ _ _ _ _ r from (show RstP _ _ _ _ _ r from ⟨R.r,R.s⟩)) hn hB bC2 bM3 ms5 ob4 hM6 hI7 (([(b1,.cells #[.slice a r.room.length ca,.slice b r.sts.length cb] 51 (0,0))]:Pcs)++[]) (St.mid (A:=([(b1,.cells #[.slice a r.room.length ca,.slice b r.sts.length cb] 51 (0,0))]:Pcs)) (B:=([(bC2,.cells #[.slice a r.room.length ca,.slice b r.sts.length cb,.func (.func 52) #[] #[],.map (some bM3)] 136 (0,0)),(bM3,ob4)]:Pcs)) (X:=[]) H_)).mono fun v_ h2_ ⟨ms_,ob_,e_,m_,i_,s_⟩=>⟨ms_,ob_,e_,m_,i_,St.mid' (A:=([(b1,.cells #[.slice a r.room.length ca,.slice b r.sts.length cb] 51 (0,0))]:Pcs)) (X:=[]) s_⟩)) ?_
 refine fun v_=>xgx fun ms8=>xgx fun ob9=>xez fun ev_=>xez fun hM10=>xez fun hI11=>?_
 subst ev_
 refine xcz (L':=[(b1,.cells #[.slice a r.room.length ca,.slice b r.sts.length cb] 51 (0,0)),(bC2,.cells #[.slice a r.room.length ca,.slice b r.sts.length cb,.func (.func 52) #[] #[],.map (some bM3)] 136 (0,0)),(bM3,ob9)]) rfl ?_
 refine ro (xax (v:=.tuple #[.int .i64 ((bestF r.sts r.room).1),.bool (decide (0≤(bestF r.sts r.room).2))]) rfl) <| rt (xdw rfl (v:=.int .i64 ((bestF r.sts r.room).1)) rfl) (tm':=zq1 (zq2 (zq4 (zq8 (zq16 []))))) rfl <| ro (xdw rfl (v:=.bool (decide (0≤(bestF r.sts r.room).2))) rfl) <| ro (xaq (v:=.int .i64 ((bestF r.sts r.room).1)) rfl) <| rt (xaq (v:=.bool (decide (0≤(bestF r.sts r.room).2))) rfl) (tm':=zq1 (zq4 (zq8 _))) rfl <| ren ?_
 refine fsr <| ro (xax (v:=.bool (decide (0≤(bestF r.sts r.room).2))) rfl) <| ro (xfw rfl) <| xak <| xcv rfl (xej (decide_eq_true hne)) <| xdz ?_
 refine fsr <| rt (xax (v:=.pointer (some ⟨bC2,0,none⟩)) rfl) (tm':=zq1 (zq2 (zq4 (zq8 (zq16 []))))) rfl <| ro (xax (v:=.int .i64 ((bestF r.sts r.room).1)) rfl) <| ro (xaq (v:=.pointer (some ⟨bC2,0,none⟩)) rfl) <| rt (xaq (v:=.int .i64 ((bestF r.sts r.room).1)) rfl) (tm':=zq8 _) rfl <| ro (xaq (v:=.int .i64 0) rfl) ?_
 refine xak ?_
 refine xcj Tryz.func51 rfl (vs:=[.pointer (some ⟨bC2,0,none⟩),.int .i64 ((bestF r.sts r.room).1),.int .i64 0]) (fun h_ H_=>⟨.pointer (some ⟨bC2,0,none⟩),_,rfl,rfl,⟨.int .i64 ((bestF r.sts r.room).1),_,rfl,rfl,⟨.int .i64 0,_,rfl,rfl,rfl⟩⟩⟩) (v:=.tuple #[.pointer (some ⟨bC2,0,none⟩),.int .i64 ((bestF r.sts r.room).1),.int .i64 0]) rfl ?_
 exact fun h_ H_=>K _ _ ⟨_,_,_,_,rfl,hM10,hI11,H_.drop.new⟩
theorem c51b (md:Md) (h:Heap) (p:PHeap) (hp:Per p h) (a:Option Addr) (ca:Nat) (b:Option Addr) (cb:Nat) (r:Rst) (R:RstP p a r.room.length b r.sts.length r) (hn:r.room.length≤40∧r.sts.length≤40) (hB:rosB r) (hne: ¬ 0≤(bestF r.sts r.room).2):CallsX Tryz.prog md 51 #[.agg #[.slice a r.room.length ca,.slice b r.sts.length cb],.bool (true),.func (.func 52) #[] #[]] h fun v h'=>v= .tuple #[.pointer none,.int .i64 0,.int .i64 3]∧Keep h h':=by
 refine xbv (Φ:=fun h_=>St h [] p h_ []) Tryz.func51 rfl (tm:=zq1 (zq2 (zq4 (zq8 (zq16 []))))) rfl ?_ (St.start h _ hp)
 intro c₀ cs Stop K
 refine fsr ?_
 refine xjq mn (v:=.agg #[.slice a r.room.length ca,.slice b r.sts.length cb]) rfl fun b1=>xcz (L':=[(b1,.cells #[.slice a r.room.length ca,.slice b r.sts.length cb] 51 (0,0))]) rfl ?_
 refine rt (xaq (v:=.pointer none) rfl) (tm':=zq1 (zq2 (zq4 _))) rfl <| ro (xaq (v:=.int .i64 0) rfl) <| ro (xaq (v:=.int .i64 0) rfl) <| ren <| fsr ?_
 refine xaj mn (fun h_ H_=>xbk H_ tA51 tS51 rfl (i:=0) rfl (vs:=[.slice a r.room.length ca,.slice b r.sts.length cb]) rfl rfl) (tm':=zq2 (zq4 (zq8 _))) rfl ?_
 refine ro (xax (v:=.bool (true)) rfl) ?_
 refine xcw mn (first:=[]) (cap:=[]) rfl rfl fC78 (fun h_ H_=>c78 md _ _ H_.pe _ _ _ _ r (show RstP _ _ _ _ _ r from ⟨R.r,R.s⟩) hn true) rfl ?_
 refine rt (xaq (v:=.int .i64 (askH r true)) rfl) (tm':=zq2 (zq8 _)) rfl <| ren <| xav <| ro (xax (v:=.int .i64 (askH r true)) rfl) <| ro (xgw rfl rfl) <| xak ?_
 refine xcv rfl (decide_eq_false (fun z_=>z_ (wjx hB))) <| xdz <| fsr ?_
 refine xaj mn (fun h_ H_=>xbk H_ tA51 tS51 rfl (i:=0) rfl (vs:=[.slice a r.room.length ca,.slice b r.sts.length cb]) rfl rfl) (tm':=zq4 (zq16 _)) rfl ?_
 refine ro (xax (v:=.func (.func 52) #[] #[]) rfl) ?_
 refine xgv mn (first:=[]) (cap:=[]) rfl rfl fC79 (fun h_ H_=>(show CallsX _ md 79 _ _ (fun v_ h_=>∃ (bC2 bM3:Nat) (ms5:Ms) (ob4:Obj),v_= .pointer (some ⟨bC2,0,none⟩)∧MapK 9 ms5 ob4∧HInv r ms5∧St h [] p h_ (([(b1,.cells #[.slice a r.room.length ca,.slice b r.sts.length cb] 51 (0,0))]:Pcs)++(([(bC2,.cells #[.slice a r.room.length ca,.slice b r.sts.length cb,.func (.func 52) #[] #[],.map (some bM3)] 136 (0,0)),(bM3,ob4)]:Pcs)++[]))) from (c79 md _ _ H_.pe _ _ _ _ _ (show RstP _ _ _ _ _ r from ⟨R.r,R.s⟩)).mono fun v_ h2_ ⟨_,_,e_,N_⟩=>⟨_,_,_,_,e_,MapK.nil,HInv.nil r,(H_.callN N_).perm (List.perm_append_comm_assoc _ ([(b1,.cells #[.slice a r.room.length ca,.slice b r.sts.length cb] 51 (0,0))]:Pcs) [])⟩)) ?_
 refine fun v_=>xgx fun bC2=>xgx fun bM3=>xgx fun ms5=>xgx fun ob4=>xez fun ev_=>xez fun hM6=>xez fun hI7=>?_
 subst ev_
 refine xcz (L':=[(b1,.cells #[.slice a r.room.length ca,.slice b r.sts.length cb] 51 (0,0)),(bC2,.cells #[.slice a r.room.length ca,.slice b r.sts.length cb,.func (.func 52) #[] #[],.map (some bM3)] 136 (0,0)),(bM3,ob4)]) rfl ?_
 refine rt (xaq (v:=.pointer (some ⟨bC2,0,none⟩)) rfl) (tm':=zq1 (zq2 (zq8 _))) rfl <| ren <| xav <| ro (xax (v:=.pointer (some ⟨bC2,0,none⟩)) rfl) ?_
 refine xgv mn (first:=[]) (cap:=[]) rfl rfl fC80 (fun h_ H_=>(show CallsX _ md 80 _ _ (fun v_ h_=>∃ (ms8:Ms) (ob9:Obj),v_= .tuple #[.int .i64 ((bestF r.sts r.room).1),.bool (decide (0≤(bestF r.sts r.room).2))]∧MapK 9 ms8 ob9∧HInv r ms8∧St h [] p h_ (([(b1,.cells #[.slice a r.room.length ca,.slice b r.sts.length cb] 51 (0,0))]:Pcs)++(([(bC2,.cells #[.slice a r.room.length ca,.slice b r.sts.length cb,.func (.func 52) #[] #[],.map (some bM3)] 136 (0,0)),(bM3,ob9)]:Pcs)++[]))) from (c80 md h_ h [] p _ _ _ _ r (show RstP _ _ _ _ _ r from (show RstP _ _ _ _ _ r from ⟨R.r,R.s⟩)) hn hB bC2 bM3 ms5 ob4 hM6 hI7 (([(b1,.cells #[.slice a r.room.length ca,.slice b r.sts.length cb] 51 (0,0))]:Pcs)++[]) (St.mid (A:=([(b1,.cells #[.slice a r.room.length ca,.slice b r.sts.length cb] 51 (0,0))]:Pcs)) (B:=([(bC2,.cells #[.slice a r.room.length ca,.slice b r.sts.length cb,.func (.func 52) #[] #[],.map (some bM3)] 136 (0,0)),(bM3,ob4)]:Pcs)) (X:=[]) H_)).mono fun v_ h2_ ⟨ms_,ob_,e_,m_,i_,s_⟩=>⟨ms_,ob_,e_,m_,i_,St.mid' (A:=([(b1,.cells #[.slice a r.room.length ca,.slice b r.sts.length cb] 51 (0,0))]:Pcs)) (X:=[]) s_⟩)) ?_
 refine fun v_=>xgx fun ms8=>xgx fun ob9=>xez fun ev_=>xez fun hM10=>xez fun hI11=>?_
 subst ev_
 refine xcz (L':=[(b1,.cells #[.slice a r.room.length ca,.slice b r.sts.length cb] 51 (0,0)),(bC2,.cells #[.slice a r.room.length ca,.slice b r.sts.length cb,.func (.func 52) #[] #[],.map (some bM3)] 136 (0,0)),(bM3,ob9)]) rfl ?_
 refine rt (xax (v:=.tuple #[.int .i64 ((bestF r.sts r.room).1),.bool (decide (0≤(bestF r.sts r.room).2))]) rfl) (tm':=zq1 (zq2 (zq4 (zq8 (zq16 []))))) rfl <| ro (xdw rfl (v:=.int .i64 ((bestF r.sts r.room).1)) rfl) <| ro (xdw rfl (v:=.bool (decide (0≤(bestF r.sts r.room).2))) rfl) <| rt (xaq (v:=.int .i64 ((bestF r.sts r.room).1)) rfl) (tm':=zq4 (zq8 _)) rfl <| ro (xaq (v:=.bool (decide (0≤(bestF r.sts r.room).2))) rfl) <| ren ?_
 refine fsr <| ro (xax (v:=.bool (decide (0≤(bestF r.sts r.room).2))) rfl) <| rt (xfw rfl) (tm':=zq1 (zq2 (zq4 (zq8 (zq16 []))))) rfl <| xak <| xcx rfl (xek (decide_eq_false hne)) <| fsr ?_
 refine ro (xaq (v:=.pointer none) rfl) <| ro (xaq (v:=.int .i64 0) rfl) <| rt (xaq (v:=.int .i64 3) rfl) (tm':=zq1 (zq8 _)) rfl <| xak ?_
 refine xcj Tryz.func51 rfl (vs:=[.pointer none,.int .i64 0,.int .i64 3]) (fun h_ H_=>⟨.pointer none,_,rfl,rfl,⟨.int .i64 0,_,rfl,rfl,⟨.int .i64 3,_,rfl,rfl,rfl⟩⟩⟩) (v:=.tuple #[.pointer none,.int .i64 0,.int .i64 3]) rfl ?_
 exact fun h_ H_=>K _ _ ⟨rfl,H_.kept⟩
theorem c21a (md:Md) (h:Heap) (p:PHeap) (hp:Per p h) (a:Option Addr) (ca:Nat) (b:Option Addr) (cb:Nat) (r:Rst) (R:RstP p a r.room.length b r.sts.length r) (hn:r.room.length≤40∧r.sts.length≤40) (hB:rosB r) (hne:0≤(bestF r.sts r.room).2):CallsX Tryz.prog md 21 #[.agg #[.slice a r.room.length ca,.slice b r.sts.length cb]] h fun v h'=>v= .tuple #[.int .i64 (bestF r.sts r.room).1,.int .i64 0]∧Keep h h':=by
 refine xbv (Φ:=fun h_=>St h [] p h_ []) Tryz.func21 rfl (tm:=zq1 (zq2 (zq4 (zq8 [])))) rfl ?_ (St.start h _ hp)
 intro c₀ cs Stop K
 refine fsr ?_
 refine xjq mn (v:=.agg #[.slice a r.room.length ca,.slice b r.sts.length cb]) rfl fun b1=>xcz (L':=[(b1,.cells #[.slice a r.room.length ca,.slice b r.sts.length cb] 51 (0,0))]) rfl ?_
 refine ro (xaq (v:=.int .i64 0) rfl) <| rt (xaq (v:=.int .i64 0) rfl) (tm':=zq4 _) rfl <| ren <| xav <| rd (fun h_ H_=>xbk H_ tA51 tS51 rfl (i:=0) rfl (vs:=[.slice a r.room.length ca,.slice b r.sts.length cb]) rfl rfl) ?_
 refine xgv mn (first:=[]) (cap:=[]) rfl rfl fC51 (fun h_ H_=>(show CallsX _ md 51 _ _ (fun v_ h_=>∃ (bC2 bM3:Nat) (ms5:Ms) (ob4:Obj),v_= .tuple #[.pointer (some ⟨bC2,0,none⟩),.int .i64 ((bestF r.sts r.room).1),.int .i64 0]∧MapK 9 ms5 ob4∧HInv r ms5∧St h [] p h_ (([(b1,.cells #[.slice a r.room.length ca,.slice b r.sts.length cb] 51 (0,0))]:Pcs)++(([(bC2,.cells #[.slice a r.room.length ca,.slice b r.sts.length cb,.func (.func 52) #[] #[],.map (some bM3)] 136 (0,0)),(bM3,ob4)]:Pcs)++[]))) from (c51a md _ _ H_.pe _ _ _ _ _ (show RstP _ _ _ _ _ r from ⟨R.r,R.s⟩) hn hB hne).mono fun v_ h2_ ⟨_,_,_,_,e_,m_,i_,N_⟩=>⟨_,_,_,_,e_,m_,i_,(H_.callN N_).perm (List.perm_append_comm_assoc _ ([(b1,.cells #[.slice a r.room.length ca,.slice b r.sts.length cb] 51 (0,0))]:Pcs) [])⟩)) ?_
 refine fun v_=>xgx fun bC2=>xgx fun bM3=>xgx fun ms5=>xgx fun ob4=>xez fun ev_=>xez fun hM6=>xez fun hI7=>?_
 subst ev_
 refine xcz (L':=[(b1,.cells #[.slice a r.room.length ca,.slice b r.sts.length cb] 51 (0,0)),(bC2,.cells #[.slice a r.room.length ca,.slice b r.sts.length cb,.func (.func 52) #[] #[],.map (some bM3)] 136 (0,0)),(bM3,ob4)]) rfl ?_
 refine rt (xax (v:=.tuple #[.pointer (some ⟨bC2,0,none⟩),.int .i64 ((bestF r.sts r.room).1),.int .i64 0]) rfl) (tm':=zq8 _) rfl <| ro (xdw rfl (v:=.pointer (some ⟨bC2,0,none⟩)) rfl) <| ro (xdw rfl (v:=.int .i64 ((bestF r.sts r.room).1)) rfl) <| rt (xdw rfl (v:=.int .i64 0) rfl) (tm':=zq1 (zq2 (zq4 (zq8 [])))) rfl <| ro (xaq (v:=.pointer (some ⟨bC2,0,none⟩)) rfl) <| ro (xaq (v:=.int .i64 ((bestF r.sts r.room).1)) rfl) ?_
 refine rt (xaq (v:=.int .i64 0) rfl) (tm':=zq1 (zq2 (zq4 _))) rfl <| ren <| xav <| ro (xax (v:=.int .i64 ((bestF r.sts r.room).1)) rfl) <| ro (xax (v:=.int .i64 0) rfl) <| rt (xaq (v:=.int .i64 ((bestF r.sts r.room).1)) rfl) (tm':=_::_::_::_) rfl ?_
 refine ro (xaq (v:=.int .i64 0) rfl) <| xak ?_
 refine xcj Tryz.func21 rfl (vs:=[.int .i64 ((bestF r.sts r.room).1),.int .i64 0]) (fun h_ H_=>⟨.int .i64 ((bestF r.sts r.room).1),_,rfl,rfl,⟨.int .i64 0,_,rfl,rfl,rfl⟩⟩) (v:=.tuple #[.int .i64 ((bestF r.sts r.room).1),.int .i64 0]) rfl ?_
 exact fun h_ H_=>K _ _ ⟨rfl,H_.kept⟩
theorem c21b (md:Md) (h:Heap) (p:PHeap) (hp:Per p h) (a:Option Addr) (ca:Nat) (b:Option Addr) (cb:Nat) (r:Rst) (R:RstP p a r.room.length b r.sts.length r) (hn:r.room.length≤40∧r.sts.length≤40) (hB:rosB r) (hne: ¬ 0≤(bestF r.sts r.room).2):CallsX Tryz.prog md 21 #[.agg #[.slice a r.room.length ca,.slice b r.sts.length cb]] h fun v h'=>v= .tuple #[.int .i64 0,.int .i64 3]∧Keep h h':=by
 refine xbv (Φ:=fun h_=>St h [] p h_ []) Tryz.func21 rfl (tm:=zq1 (zq2 (zq4 (zq8 [])))) rfl ?_ (St.start h _ hp)
 intro c₀ cs Stop K
 refine fsr ?_
 refine xjq mn (v:=.agg #[.slice a r.room.length ca,.slice b r.sts.length cb]) rfl fun b1=>xcz (L':=[(b1,.cells #[.slice a r.room.length ca,.slice b r.sts.length cb] 51 (0,0))]) rfl ?_
 refine rt (xaq (v:=.int .i64 0) rfl) (tm':=_::_::_::_) rfl <| ro (xaq (v:=.int .i64 0) rfl) <| ren <| xav <| rd (fun h_ H_=>xbk H_ tA51 tS51 rfl (i:=0) rfl (vs:=[.slice a r.room.length ca,.slice b r.sts.length cb]) rfl rfl) ?_
 refine xcw mn (first:=[]) (cap:=[]) rfl rfl fC51 (fun h_ H_=>c51b md _ _ H_.pe _ _ _ _ _ (show RstP _ _ _ _ _ r from ⟨R.r,R.s⟩) hn hB hne) (tm':=zq2 (zq8 _)) rfl ?_
 refine ro (xax (v:=.tuple #[.pointer none,.int .i64 0,.int .i64 3]) rfl) <| ro (xdw rfl (v:=.pointer none) rfl) <| rt (xdw rfl (v:=.int .i64 0) rfl) (tm':=zq1 (zq2 (zq4 (zq8 [])))) rfl <| ro (xdw rfl (v:=.int .i64 3) rfl) <| ro (xaq (v:=.pointer none) rfl) <| rt (xaq (v:=.int .i64 0) rfl) (tm':=zq2 (zq4 _)) rfl ?_
 refine ro (xaq (v:=.int .i64 3) rfl) <| ren <| xav <| ro (xax (v:=.int .i64 0) rfl) <| rt (xax (v:=.int .i64 3) rfl) (tm':=zq1 (zq2 (zq4 (zq8 [])))) rfl <| ro (xaq (v:=.int .i64 0) rfl) ?_
 refine ro (xaq (v:=.int .i64 3) rfl) <| xak ?_
 refine xcj Tryz.func21 rfl (vs:=[.int .i64 0,.int .i64 3]) (fun h_ H_=>⟨.int .i64 0,_,rfl,rfl,⟨.int .i64 3,_,rfl,rfl,rfl⟩⟩) (v:=.tuple #[.int .i64 0,.int .i64 3]) rfl ?_
 exact fun h_ H_=>K _ _ ⟨rfl,H_.kept⟩
theorem c20a (md:Md) (h:Heap) (p:PHeap) (hp:Per p h) (a:Option Addr) (ca:Nat) (b:Option Addr) (cb:Nat) (r:Rst) (R:RstP p a r.room.length b r.sts.length r) (hn:r.room.length≤40∧r.sts.length≤40) (hB:rosB r) (hne:0≤(bestF r.sts r.room).2):CallsX Tryz.prog md 20 #[.agg #[.slice a r.room.length ca,.slice b r.sts.length cb]] h fun v h'=>∃ w X,v= .tuple #[w,.int .i64 0]∧OwnS 3 1 w (ics (rosF r.sts r.room)) X∧New h h' X:=by
 refine xbv (Φ:=fun h_=>St h [] p h_ []) Tryz.func20 rfl (tm:=zq2 (zq16 [])) rfl ?_ (St.start h _ hp)
 intro c₀ cs Stop K
 refine fsr ?_
 refine xjq mn (v:=.agg #[.slice a r.room.length ca,.slice b r.sts.length cb]) rfl fun b1=>xcz (L':=[(b1,.cells #[.slice a r.room.length ca,.slice b r.sts.length cb] 51 (0,0))]) rfl ?_
 refine xfz (tm':=_::_::_) rfl ?_
 refine ro (xaq (v:=.slice none 0 0) rfl) <| ro (xaq (v:=.int .i64 0) rfl) <| ren <| xav ?_
 refine xaj mn (fun h_ H_=>xbk H_ tA51 tS51 rfl (i:=0) rfl (vs:=[.slice a r.room.length ca,.slice b r.sts.length cb]) rfl rfl) (tm':=zq1 (zq8 _)) rfl ?_
 refine xgv mn (first:=[]) (cap:=[]) rfl rfl fC51 (fun h_ H_=>(show CallsX _ md 51 _ _ (fun v_ h_=>∃ (bC2 bM3:Nat) (ms5:Ms) (ob4:Obj),v_= .tuple #[.pointer (some ⟨bC2,0,none⟩),.int .i64 ((bestF r.sts r.room).1),.int .i64 0]∧MapK 9 ms5 ob4∧HInv r ms5∧St h [] p h_ (([(b1,.cells #[.slice a r.room.length ca,.slice b r.sts.length cb] 51 (0,0))]:Pcs)++(([(bC2,.cells #[.slice a r.room.length ca,.slice b r.sts.length cb,.func (.func 52) #[] #[],.map (some bM3)] 136 (0,0)),(bM3,ob4)]:Pcs)++[]))) from (c51a md _ _ H_.pe _ _ _ _ _ (show RstP _ _ _ _ _ r from ⟨R.r,R.s⟩) hn hB hne).mono fun v_ h2_ ⟨_,_,_,_,e_,m_,i_,N_⟩=>⟨_,_,_,_,e_,m_,i_,(H_.callN N_).perm (List.perm_append_comm_assoc _ ([(b1,.cells #[.slice a r.room.length ca,.slice b r.sts.length cb] 51 (0,0))]:Pcs) [])⟩)) ?_
 refine fun v_=>xgx fun bC2=>xgx fun bM3=>xgx fun ms5=>xgx fun ob4=>xez fun ev_=>xez fun hM6=>xez fun hI7=>?_
 subst ev_
 refine xcz (L':=[(b1,.cells #[.slice a r.room.length ca,.slice b r.sts.length cb] 51 (0,0)),(bC2,.cells #[.slice a r.room.length ca,.slice b r.sts.length cb,.func (.func 52) #[] #[],.map (some bM3)] 136 (0,0)),(bM3,ob4)]) rfl ?_
 refine ro (xax (v:=.tuple #[.pointer (some ⟨bC2,0,none⟩),.int .i64 ((bestF r.sts r.room).1),.int .i64 0]) rfl) <| rt (xdw rfl (v:=.pointer (some ⟨bC2,0,none⟩)) rfl) (tm':=zq1 (zq2 (zq8 _))) rfl <| ro (xdw rfl (v:=.int .i64 ((bestF r.sts r.room).1)) rfl) <| ro (xdw rfl (v:=.int .i64 0) rfl) <| rt (xaq (v:=.pointer (some ⟨bC2,0,none⟩)) rfl) (tm':=zq1 (zq4 _)) rfl <| ro (xaq (v:=.int .i64 ((bestF r.sts r.room).1)) rfl) ?_
 refine ro (xaq (v:=.int .i64 0) rfl) <| ren <| fsr <| rt (xax (v:=.int .i64 0) rfl) (tm':=zq2 (zq16 [])) rfl <| ro (xgw rfl rfl) <| xak ?_
 refine xcv rfl (by decide) ?_
 refine xdz <| fsr <| ro (xax (v:=.pointer (some ⟨bC2,0,none⟩)) rfl) ?_
 refine xgv mn (first:=[]) (cap:=[]) rfl rfl fC53 (fun h_ H_=>(show CallsX _ md 53 _ _ (fun v_ h_=>∃ (w12:Value) (X13:Pcs) (ms8:Ms) (ob9:Obj),v_=w12∧OwnS 3 1 w12 (ics (rosF r.sts r.room)) X13∧MapK 9 ms8 ob9∧HInv r ms8∧St h [] p h_ (([(b1,.cells #[.slice a r.room.length ca,.slice b r.sts.length cb] 51 (0,0))]:Pcs)++(([(bC2,.cells #[.slice a r.room.length ca,.slice b r.sts.length cb,.func (.func 52) #[] #[],.map (some bM3)] 136 (0,0)),(bM3,ob9)]:Pcs)++(X13++[])))) from (c53 md h_ h [] p _ _ _ _ r (show RstP _ _ _ _ _ r from (show RstP _ _ _ _ _ r from ⟨R.r,R.s⟩)) hn hB bC2 bM3 ms5 ob4 hM6 hI7 (([(b1,.cells #[.slice a r.room.length ca,.slice b r.sts.length cb] 51 (0,0))]:Pcs)++[]) hne (St.mid (A:=([(b1,.cells #[.slice a r.room.length ca,.slice b r.sts.length cb] 51 (0,0))]:Pcs)) (B:=([(bC2,.cells #[.slice a r.room.length ca,.slice b r.sts.length cb,.func (.func 52) #[] #[],.map (some bM3)] 136 (0,0)),(bM3,ob4)]:Pcs)) (X:=[]) H_)).mono fun v_ h2_ ⟨w_,X_,ms_,ob_,e_,o_,m_,i_,s_⟩=>⟨w_,X_,ms_,ob_,e_,o_,m_,i_,St.midX (A:=([(b1,.cells #[.slice a r.room.length ca,.slice b r.sts.length cb] 51 (0,0))]:Pcs)) (X:=[]) s_⟩)) ?_
 refine fun v_=>xgx fun w12=>xgx fun X13=>xgx fun ms8=>xgx fun ob9=>xez fun ev_=>xez fun o14=>xez fun hM10=>xez fun hI11=>?_
 have ev_:=ev_.symm;subst ev_
 refine xcz (L':=([(b1,.cells #[.slice a r.room.length ca,.slice b r.sts.length cb] 51 (0,0)),(bC2,.cells #[.slice a r.room.length ca,.slice b r.sts.length cb,.func (.func 52) #[] #[],.map (some bM3)] 136 (0,0)),(bM3,ob9)]:Pcs)++(X13++[])) rfl ?_
 refine xfz (tm':=zq2 (zq16 [])) rfl ?_
 refine ro (xaq (v:=w12) rfl) <| ro (xaq (v:=.int .i64 0) rfl) <| xak ?_
 refine xcj Tryz.func20 rfl (vs:=[w12,.int .i64 0]) (fun h_ H_=>⟨w12,_,rfl,rfl,⟨.int .i64 0,_,rfl,rfl,rfl⟩⟩) (v:=.tuple #[w12,.int .i64 0]) rfl ?_
 exact fun h_ H_=>K _ _ ⟨_,_,rfl,o14,by simpa using H_.dropA.new⟩
theorem c20b (md:Md) (h:Heap) (p:PHeap) (hp:Per p h) (a:Option Addr) (ca:Nat) (b:Option Addr) (cb:Nat) (r:Rst) (R:RstP p a r.room.length b r.sts.length r) (hn:r.room.length≤40∧r.sts.length≤40) (hB:rosB r) (hne: ¬ 0≤(bestF r.sts r.room).2):CallsX Tryz.prog md 20 #[.agg #[.slice a r.room.length ca,.slice b r.sts.length cb]] h fun v h'=>v= .tuple #[.slice none 0 0,.int .i64 3]∧Keep h h':=by
 refine xbv (Φ:=fun h_=>St h [] p h_ []) Tryz.func20 rfl (tm:=zq2 (zq16 [])) rfl ?_ (St.start h _ hp)
 intro c₀ cs Stop K
 refine fsr ?_
 refine xjq mn (v:=.agg #[.slice a r.room.length ca,.slice b r.sts.length cb]) rfl fun b1=>xcz (L':=[(b1,.cells #[.slice a r.room.length ca,.slice b r.sts.length cb] 51 (0,0))]) rfl ?_
 refine xfz (tm':=_::_::_) rfl ?_
 refine ro (xaq (v:=.slice none 0 0) rfl) <| ro (xaq (v:=.int .i64 0) rfl) <| ren <| xav ?_
 refine xaj mn (fun h_ H_=>xbk H_ tA51 tS51 rfl (i:=0) rfl (vs:=[.slice a r.room.length ca,.slice b r.sts.length cb]) rfl rfl) (tm':=zq1 (zq8 _)) rfl ?_
 refine xcw mn (first:=[]) (cap:=[]) rfl rfl fC51 (fun h_ H_=>c51b md _ _ H_.pe _ _ _ _ _ (show RstP _ _ _ _ _ r from ⟨R.r,R.s⟩) hn hB hne) rfl ?_
 refine ro (xax (v:=.tuple #[.pointer none,.int .i64 0,.int .i64 3]) rfl) <| rt (xdw rfl (v:=.pointer none) rfl) (tm':=zq1 (zq2 (zq8 _))) rfl <| ro (xdw rfl (v:=.int .i64 0) rfl) <| ro (xdw rfl (v:=.int .i64 3) rfl) <| rt (xaq (v:=.pointer none) rfl) (tm':=zq1 (zq4 _)) rfl <| ro (xaq (v:=.int .i64 0) rfl) ?_
 refine ro (xaq (v:=.int .i64 3) rfl) <| ren <| fsr <| rt (xax (v:=.int .i64 3) rfl) (tm':=zq2 (zq16 [])) rfl <| ro (xgw rfl rfl) <| xak ?_
 refine xcx rfl (by decide) ?_
 refine fsr <| ro (xax (v:=.int .i64 3) rfl) <| rt (xaq (v:=.slice none 0 0) rfl) (tm':=_::_::_::_) rfl <| ro (xaq (v:=.int .i64 3) rfl) <| xak ?_
 refine xcj Tryz.func20 rfl (vs:=[.slice none 0 0,.int .i64 3]) (fun h_ H_=>⟨.slice none 0 0,_,rfl,rfl,⟨.int .i64 3,_,rfl,rfl,rfl⟩⟩) (v:=.tuple #[.slice none 0 0,.int .i64 3]) rfl ?_
 exact fun h_ H_=>K _ _ ⟨rfl,H_.kept⟩
end Go.Proofs.YtphalmjpbnffcaaGreatDoor
namespace Go.X
open Go.Conc
theorem wfj {Q:Prop} {L Z:Pcs} {p:PHeap} {h₀ h:Heap} {B₀:List Nat} (s:St h₀ B₀ p h L) (hZ: ∀ x∈Z,x∈L) (c: ∀ p',Per p' h→PLe p p'→(∀ x∈Z,p' x.1=some x.2)→Q):Q:=by
  have own: ∀ x∈L,h[x.1]?=some x.2∧p x.1=none:=fun x hx=>⟨(s.own x hx).1,(s.own x hx).2.1⟩
  let p':PHeap:=fun b=>match Z.find? (fun x=>x.1 == b) with
    | some x=>some x.2
    | none=>p b
  refine c p' (fun b o' e=>?_) (fun b o' e=>?_) (fun x hx=>?_)
  · simp only [p'] at e
    split at e
    · rename_i x hx
      have hm:=List.mem_of_find?_eq_some hx
      have he:=List.find?_some hx
      simp only [beq_iff_eq] at he
      cases e;subst he
      exact (own x (hZ x hm)).1
    · exact s.per b o' e
  · simp only [p']
    split
    · rename_i x hx
      have hm:=List.mem_of_find?_eq_some hx
      have he:=List.find?_some hx
      simp only [beq_iff_eq] at he
      subst he
      rw [(own x (hZ x hm)).2] at e;cases e
    · exact e
  · simp only [p']
    split
    · rename_i y hy
      have hm:=List.mem_of_find?_eq_some hy
      have he:=List.find?_some hy
      simp only [beq_iff_eq] at he
      have h1:=(own y (hZ y hm)).1;have h2:=(own x (hZ x hx)).1
      rw [he,h2] at h1
      exact congrArg some (Option.some.inj h1).symm
    · rename_i hy
      have:=List.find?_eq_none.1 hy x hx
      simp at this
theorem wtv {Q:Prop} {T T':TypeId} {w w' n n':Nat} {v v':Value} {es es':List (List Value)} {X X' L:Pcs} {p:PHeap} {h₀ h:Heap} {B₀:List Nat} (o:OwnS T w v es X) (hn:es.length=n) (o':OwnS T' w' v' es' X') (hn':es'.length=n') (s:St h₀ B₀ p h L) (hX: ∀ x∈X++X',x∈L)
    (c: ∀ p' a cap a' cap',Per p' h→PLe p p'→v= .slice a n cap→v'= .slice a' n' cap'→Sl p' a n w es→Sl p' a' n' w' es'→Q):Q:=
  wfj s hX fun p' hp le hz=>by
    subst hn;subst hn'
    obtain ⟨a,cap,e1,sl⟩:=o.inP (p:=p') fun x hx=>hz x (List.mem_append_left _ hx)
    obtain ⟨a',cap',e2,sl'⟩:=o'.inP (p:=p') fun x hx=>hz x (List.mem_append_right _ hx)
    exact c p' a cap a' cap' hp le e1 e2 sl sl'
end Go.X
namespace Go.Proofs.YtphalmjpbnffcaaGreatDoor
open Go.X Go.X.Kn Go.X.Hr Go.Conc
set_option maxRecDepth 10000
set_option synthInstance.maxSize 2000

set_option maxHeartbeats 2000000
theorem c76 (md:Md) (h:Heap) (x y z w:Int):CallsX Tryz.prog md 76 #[.int .i64 (x),.int .i64 (y),.int .i64 (z),.int .i64 (w)] h fun v h'=>v= .agg #[.int .i64 x,.int .i64 y,.int .i64 z,.int .i64 w]∧Keep h h':=by
 refine xbv (Φ:=fun h_=>St h [] (fun _=>none) h_ []) Tryz.func76 rfl (tm:=zq2 (zq4 (zq8 []))) rfl ?_ (St.start h _ (fun _ _ e=>by cases e))
 intro c₀ cs Stop K
 refine fsr ?_
 refine xjj mn tZ91 rfl fun b1=>xcz (L':=[(b1,.cells #[.int .i64 0,.int .i64 0,.int .i64 0,.int .i64 0] 91 (0,0))]) rfl ?_
 refine ren <| xav <| ro (xax (v:=.int .i64 (x)) rfl) <| rt (xax (v:=.int .i64 (y)) rfl) (tm':=zq2 (zq4 (zq8 []))) rfl <| ro (xax (v:=.int .i64 (z)) rfl) <| ro (xax (v:=.int .i64 (w)) rfl) ?_
 refine rt (xlj tZ91 tP91 (vs:=[(0,.int .i64 (x)),(1,.int .i64 (y)),(2,.int .i64 (z)),(3,.int .i64 (w))]) rfl (cells:=#[.int .i64 (x),.int .i64 (y),.int .i64 (z),.int .i64 (w)]) rfl) (tm':=zq2 (zq4 (zq8 []))) rfl ?_
 refine xfv mn tS91 rfl (v:=.agg #[.int .i64 (x),.int .i64 (y),.int .i64 (z),.int .i64 (w)]) rfl (i:=0) rfl rfl rfl (Nat.le_of_ble_eq_true rfl) (cs2:=[.int .i64 (x),.int .i64 (y),.int .i64 (z),.int .i64 (w)]) rfl (xcz (L':=[(b1,.cells #[.int .i64 (x),.int .i64 (y),.int .i64 (z),.int .i64 (w)] 91 (0,0))]) rfl ?_)
 refine xak ?_
 refine xcj Tryz.func76 rfl (vs:=[.agg #[.int .i64 (x),.int .i64 (y),.int .i64 (z),.int .i64 (w)]]) (fun h_ H_=>⟨.agg #[.int .i64 (x),.int .i64 (y),.int .i64 (z),.int .i64 (w)],_,rfl,(xbq (xbz (xij tA91 tS91 (vs:=[.int .i64 (x),.int .i64 (y),.int .i64 (z),.int .i64 (w)]) rfl (fun j_ v_ e_=>by rw [xjv];exact H_.ocell (i:=0) rfl (by simpa using e_)) ⟨rfl,rfl⟩))),rfl⟩) (v:=.agg #[.int .i64 (x),.int .i64 (y),.int .i64 (z),.int .i64 (w)]) rfl ?_
 exact fun h_ H_=>K _ _ ⟨rfl,H_.kept⟩
theorem c105 (md:Md) (h:Heap) (p:PHeap) (hp:Per p h) (a:Option Addr) (ca:Nat) (b:Option Addr) (cb:Nat) (r:Rst) (R:RstP p a r.room.length b r.sts.length r) (hn:r.room.length≤40∧r.sts.length≤40):CallsX Tryz.prog md 105 #[.agg #[.slice a r.room.length ca,.slice b r.sts.length cb]] h fun v h'=>∃ w1 w2 X1 X2,v= .agg #[w1,w2]∧OwnS 3 1 w1 (ics r.room) X1∧OwnS 91 4 w2 (stcs r.sts) X2∧New h h' (X2++(X1++[])):=by
 refine xbv (Φ:=fun h_=>St h [] p h_ []) Tryz.func105 rfl (tm:=zq4 (zq8 [])) rfl ?_ (St.start h _ hp)
 intro c₀ cs Stop K
 refine fsr ?_
 refine xjq mn (v:=.agg #[.slice a r.room.length ca,.slice b r.sts.length cb]) rfl fun b1=>xcz (L':=[(b1,.cells #[.slice a r.room.length ca,.slice b r.sts.length cb] 51 (0,0))]) rfl ?_
 refine xjj mn tZ51 rfl fun b2=>xcz (L':=[(b2,.cells #[.slice none 0 0,.slice none 0 0] 51 (0,0)),(b1,.cells #[.slice a r.room.length ca,.slice b r.sts.length cb] 51 (0,0))]) rfl ?_
 refine ren ?_
 refine yoj (xqq (C:=[]) (A:=([(b2,.cells #[.slice none 0 0,.slice none 0 0] 51 (0,0)),(b1,.cells #[.slice a r.room.length ca,.slice b r.sts.length cb] 51 (0,0))]:Pcs)) 7 [[],[],[1],[0,1,2],[],[],[5],[0,1,2,4,5,6],[],[]] [] [3,4] [1,2,5,6] (fun _=>[]) (fun i_=>match i_ with | 3=>[0] | _=>[]) (fun i_=>match i_ with | 0=>[] | 1=>[] | 2=>[1] | 3=>[0,2] | 4=>[] | 5=>[] | 6=>[5] | _=>[]) (fun i_ val_ pc_ v_ x_=>match i_ with | 0=>OwnS 3 1 v_ [] x_ | 1=>v_= .pointer (some ⟨b1,0,none⟩)∧x_=[] | 2=>v_= .slice a r.room.length ca∧x_=[] | 3=>OwnS 3 1 v_ ([]++(r.room.map fun x=>[Value.int .i64 x])) x_ | 4=>OwnS 91 4 v_ [] x_ | 5=>v_= .pointer (some ⟨b1,1,none⟩)∧x_=[] | 6=>v_= .slice b r.sts.length cb∧x_=[] | _=>True) (fun val3=>[.agg #[.slice a r.room.length ca,.slice b r.sts.length cb],.pointer (some ⟨b1,0,none⟩),.pointer (some ⟨b2,0,none⟩),(val3 0),(val3 1),(val3 2),(val3 3),(val3 4),(val3 5),(val3 6),undef,undef]) mixed (by kernel_rfl) (Nat.le_of_ble_eq_true rfl) (by kernel_rfl) (by kernel_rfl) (by kernel_rfl) (fun _ _=>⟨fun _ _ h=>h.2,⟨fun _ _ h=>h.2,⟨fun _ _ h=>h.2,⟨fun _ _ h=>h.2,trivial⟩⟩⟩⟩) (fun _=>by kernel_rfl) (by kernel_rfl) ?_ ?_) (fun h_ H_=>St.swap (A:=([(b2,.cells #[.slice none 0 0,.slice none 0 0] 51 (0,0)),(b1,.cells #[.slice a r.room.length ca,.slice b r.sts.length cb] 51 (0,0))]:Pcs)) (U:=[]) H_)
 ·
  refine xcq rfl (xew ?_) ?_
  ·
   intro val3 pc4 hQ_ hX_
   obtain ⟨q_,hq0_⟩: ∃ q_:Value→Pcs→Prop,q_=(fun v_ x_=>OwnS 3 1 v_ [] x_):=⟨_,rfl⟩
   refine ⟨(zq4 (zq8 [])),[],q_,rfl,rfl,(fun _ _ z_=>by subst hq0_;exact z_),?_⟩
   subst hq0_
   exact xsz mn Tryz.underlying26 tS3 tZ3 (Nat.le_of_ble_eq_true rfl) (vs:=[]) rfl rfl (es:=[]) rfl rfl rfl fun _ _ o_=>o_
  refine xcq rfl (xew ?_) ?_
  ·
   intro val3 pc4 hQ_ hX_
   obtain ⟨q_,hq0_⟩: ∃ q_:Value→Pcs→Prop,q_=(fun v_ x_=>v_= .pointer (some ⟨b1,0,none⟩)∧x_=[]):=⟨_,rfl⟩
   refine ⟨(zq4 (zq8 [])),[],q_,rfl,rfl,(fun _ _ z_=>by subst hq0_;exact z_),?_⟩
   subst hq0_
   exact xfx mn (fun _ h_ H_=>xaw xtz rfl (a':=⟨b1,0,none⟩) rfl) ⟨rfl,rfl⟩
  refine xcq rfl (xew ?_) ?_
  ·
   intro val3 pc4 hQ_ hX_
   have e1_:val3 1= .pointer (some ⟨b1,0,none⟩):=(hQ_ 1 rfl).1
   obtain ⟨q_,hq0_⟩: ∃ q_:Value→Pcs→Prop,q_=(fun v_ x_=>v_= .slice a r.room.length ca∧x_=[]):=⟨_,rfl⟩
   refine ⟨(zq4 (zq8 [])),[],q_,(by rw [e1_]),rfl,(fun _ _ z_=>by subst hq0_;exact z_),?_⟩
   subst hq0_
   exact xfx mn (fun _ h_ H_=>xbx H_ tA26 rfl (i:=1) rfl (v:=.slice a r.room.length ca) rfl) ⟨rfl,rfl⟩
  refine xcq rfl (xew ?_) ?_
  ·
   intro val3 pc4 hQ_ hX_
   have q0_:OwnS 3 1 (val3 0) [] (pc4 0):=hQ_ 0 rfl
   have e2_:val3 2= .slice a r.room.length ca:=(hQ_ 2 rfl).1
   obtain ⟨q_,hq0_⟩: ∃ q_:Value→Pcs→Prop,q_=(fun v_ x_=>OwnS 3 1 v_ ([]++(r.room.map fun x=>[Value.int .i64 x])) x_):=⟨_,rfl⟩
   refine ⟨(zq4 (zq8 [])),((pc4 0)++[]),q_,(by rw [e2_]),rfl,(fun _ _ z_=>by subst hq0_;exact z_),?_⟩
   subst hq0_
   exact ybk mn Tryz.underlying26 tS3 tZ3 rfl tB3 Tryz.underlying26 rfl rfl q0_ R.r (xyj _) (by first | (simp only [List.length_nil];omega)) (by decide) (by decide) fun _ _ o_=>o_
  refine xcq rfl (xew ?_) ?_
  ·
   intro val3 pc4 hQ_ hX_
   obtain ⟨q_,hq0_⟩: ∃ q_:Value→Pcs→Prop,q_=(fun v_ x_=>OwnS 91 4 v_ [] x_):=⟨_,rfl⟩
   refine ⟨(zq4 (zq8 [])),[],q_,rfl,rfl,(fun _ _ z_=>by subst hq0_;exact z_),?_⟩
   subst hq0_
   exact xsz mn Tryz.underlying49 tS91 tZ91 (Nat.le_of_ble_eq_true rfl) (vs:=[]) rfl rfl (es:=[]) rfl rfl rfl fun _ _ o_=>o_
  refine xcq rfl (xew ?_) ?_
  ·
   intro val3 pc4 hQ_ hX_
   obtain ⟨q_,hq0_⟩: ∃ q_:Value→Pcs→Prop,q_=(fun v_ x_=>v_= .pointer (some ⟨b1,1,none⟩)∧x_=[]):=⟨_,rfl⟩
   refine ⟨(zq4 (zq8 [])),[],q_,rfl,rfl,(fun _ _ z_=>by subst hq0_;exact z_),?_⟩
   subst hq0_
   exact xfx mn (fun _ h_ H_=>xaw xoq rfl (a':=⟨b1,1,none⟩) rfl) ⟨rfl,rfl⟩
  refine xcq rfl (xew ?_) ?_
  ·
   intro val3 pc4 hQ_ hX_
   have e5_:val3 5= .pointer (some ⟨b1,1,none⟩):=(hQ_ 5 rfl).1
   obtain ⟨q_,hq0_⟩: ∃ q_:Value→Pcs→Prop,q_=(fun v_ x_=>v_= .slice b r.sts.length cb∧x_=[]):=⟨_,rfl⟩
   refine ⟨(zq4 (zq8 [])),[],q_,(by rw [e5_]),rfl,(fun _ _ z_=>by subst hq0_;exact z_),?_⟩
   subst hq0_
   exact xfx mn (fun _ h_ H_=>xbx H_ tA49 rfl (i:=1) rfl (v:=.slice b r.sts.length cb) rfl) ⟨rfl,rfl⟩
  exact xpk rfl
 intro val3 pc4 hQ_ hX_
 have e1_:val3 1= .pointer (some ⟨b1,0,none⟩):=(hQ_ 1 (by decide)).1
 have e2_:val3 2= .slice a r.room.length ca:=(hQ_ 2 (by decide)).1
 have q3_:OwnS 3 1 (val3 3) ([]++(r.room.map fun x=>[Value.int .i64 x])) (pc4 3):=hQ_ 3 (by decide)
 have q4_:OwnS 91 4 (val3 4) [] (pc4 4):=hQ_ 4 (by decide)
 have e5_:val3 5= .pointer (some ⟨b1,1,none⟩):=(hQ_ 5 (by decide)).1
 have e6_:val3 6= .slice b r.sts.length cb:=(hQ_ 6 (by decide)).1
 clear hQ_ hX_
 refine yok (Φ:=fun h_=>St h [] p h_ (([(b2,.cells #[.slice none 0 0,.slice none 0 0] 51 (0,0)),(b1,.cells #[.slice a r.room.length ca,.slice b r.sts.length cb] 51 (0,0))]:Pcs)++(pc4 3++(pc4 4++[])))) ?_ (fun h_ H_=>H_.swap')
 refine xfz (tm':=(zq4 (zq8 []))) (by rw [e1_,e2_,e5_,e6_]) ?_
 have o8:=q3_
 have o9:=q4_
 refine xjw (List.Perm.append_left _ (List.perm_append_comm_assoc _ _ _)) ?_
 refine xcz (L':=([(b2,.cells #[.slice none 0 0,.slice none 0 0] 51 (0,0)),(b1,.cells #[.slice a r.room.length ca,.slice b r.sts.length cb] 51 (0,0))]:Pcs)++((pc4 4)++((pc4 3)++[]))) rfl ?_
 refine yew ([(b2,.cells #[.slice none 0 0,.slice none 0 0] 51 (0,0)),(b1,.cells #[.slice a r.room.length ca,.slice b r.sts.length cb] 51 (0,0))]:Pcs) (pc4 4) mn Tryz.underlying49 tS91 tZ91 rfl tB91 Tryz.underlying49 rfl rfl o9 R.s (zsv _) (by first | (simp only [List.length_nil];omega)) (by decide) (by decide) fun v10 X11 o12=>?_
 refine xfz (tm':=zq4 (zq8 [])) rfl ?_
 generalize val3 3=w13 at*
 obtain ⟨a14,c15,ev_,_⟩:=o8.val;have ev_:w13= .slice a14 ((([]++(r.room.map fun x=>[Value.int .i64 x])):List (List Value)).length) c15:=ev_;subst ev_
 obtain ⟨a16,c17,ev_,_⟩:=o12.val;have ev_:v10= .slice a16 (([]++(stcs r.sts):List (List Value)).length) c17:=ev_;subst ev_
 refine ro (xlj tZ51 tP51 (vs:=[(0,(.slice a14 ((([]++(r.room.map fun x=>[Value.int .i64 x])):List (List Value)).length) c15)),(1,(.slice a16 (([]++(stcs r.sts):List (List Value)).length) c17))]) rfl (cells:=#[(.slice a14 ((([]++(r.room.map fun x=>[Value.int .i64 x])):List (List Value)).length) c15),(.slice a16 (([]++(stcs r.sts):List (List Value)).length) c17)]) rfl) ?_
 refine xfv mn tS51 rfl (v:=.agg #[(.slice a14 ((([]++(r.room.map fun x=>[Value.int .i64 x])):List (List Value)).length) c15),(.slice a16 (([]++(stcs r.sts):List (List Value)).length) c17)]) rfl (i:=0) rfl rfl (xkk o8.one.2 (xkk o12.one.2 rfl)) (Nat.le_of_ble_eq_true rfl) (cs2:=[(.slice a14 ((([]++(r.room.map fun x=>[Value.int .i64 x])):List (List Value)).length) c15),(.slice a16 (([]++(stcs r.sts):List (List Value)).length) c17)]) rfl (xcz (L':=([(b2,.cells #[(.slice a14 ((([]++(r.room.map fun x=>[Value.int .i64 x])):List (List Value)).length) c15),(.slice a16 (([]++(stcs r.sts):List (List Value)).length) c17)] 51 (0,0)),(b1,.cells #[.slice a r.room.length ca,.slice b r.sts.length cb] 51 (0,0))]:Pcs)++(X11++((pc4 3)++[]))) rfl ?_)
 refine xak ?_
 refine xcj Tryz.func105 rfl (vs:=[.agg #[(.slice a14 ((([]++(r.room.map fun x=>[Value.int .i64 x])):List (List Value)).length) c15),(.slice a16 (([]++(stcs r.sts):List (List Value)).length) c17)]]) (fun h_ H_=>⟨.agg #[(.slice a14 ((([]++(r.room.map fun x=>[Value.int .i64 x])):List (List Value)).length) c15),(.slice a16 (([]++(stcs r.sts):List (List Value)).length) c17)],_,rfl,(xbq (xbz (xij tA51 tS51 (vs:=[(.slice a14 ((([]++(r.room.map fun x=>[Value.int .i64 x])):List (List Value)).length) c15),(.slice a16 (([]++(stcs r.sts):List (List Value)).length) c17)]) rfl (fun j_ v_ e_=>by rw [xjv];exact H_.ocell (i:=0) rfl (by simpa using e_)) ⟨rfl,rfl⟩))),rfl⟩) (v:=.agg #[(.slice a14 ((([]++(r.room.map fun x=>[Value.int .i64 x])):List (List Value)).length) c15),(.slice a16 (([]++(stcs r.sts):List (List Value)).length) c17)]) rfl ?_
 exact fun h_ H_=>K _ _ ⟨_,_,_,_,rfl,o8,o12,by simpa using H_.dropA.new⟩
theorem c77 (md:Md) (h:Heap) (p:PHeap) (hp:Per p h) (a:Option Addr) (ca:Nat) (b:Option Addr) (cb:Nat) (r:Rst) (R:RstP p a r.room.length b r.sts.length r) (hn:r.room.length≤40∧r.sts.length≤40) (x y:Int) (hx:0≤x∧x.toNat<r.room.length) (hb: -100≤r.room.getD x.toNat 0+y∧r.room.getD x.toNat 0+y≤100):CallsX Tryz.prog md 77 #[.agg #[.slice a r.room.length ca,.slice b r.sts.length cb],.int .i64 (x),.int .i64 (y)] h fun v h'=>∃ w1 w2 e1 X1 X2,v= .agg #[w1,w2]∧OwnS 3 1 w1 e1 X1∧OwnS 91 4 w2 (stcs r.sts) X2∧New h h' (X2++(X1++[])):=by
 refine xbv (Φ:=fun h_=>St h [] p h_ []) Tryz.func77 rfl (tm:=zq1 (zq2 (zq16 []))) rfl ?_ (St.start h _ hp)
 intro c₀ cs Stop K
 refine fsr ?_
 refine xjq mn (v:=.agg #[.slice a r.room.length ca,.slice b r.sts.length cb]) rfl fun b1=>xcz (L':=[(b1,.cells #[.slice a r.room.length ca,.slice b r.sts.length cb] 51 (0,0))]) rfl ?_
 refine xjj mn tZ51 rfl fun b2=>xcz (L':=[(b2,.cells #[.slice none 0 0,.slice none 0 0] 51 (0,0)),(b1,.cells #[.slice a r.room.length ca,.slice b r.sts.length cb] 51 (0,0))]) rfl ?_
 refine xfz (tm':=zq1 (zq2 (zq4 _))) rfl ?_
 refine ren <| xav <| rd (fun h_ H_=>xbk H_ tA51 tS51 rfl (i:=1) rfl (vs:=[.slice a r.room.length ca,.slice b r.sts.length cb]) rfl rfl) ?_
 refine xcz (L':=([(b2,.cells #[.slice none 0 0,.slice none 0 0] 51 (0,0)),(b1,.cells #[.slice a r.room.length ca,.slice b r.sts.length cb] 51 (0,0))]:Pcs)++[]) rfl ?_
 refine xgv mn (first:=[]) (cap:=[]) rfl rfl wvq (R:=fun v_ h_=>∃ w3:Value,∃ w4:Value,∃ X5:Pcs,∃ X6:Pcs,v_= .agg #[w3,w4]∧(OwnS 3 1 w3 (ics r.room) X5)∧(OwnS 91 4 w4 (stcs r.sts) X6)∧St h [] p h_ (([(b2,.cells #[.slice none 0 0,.slice none 0 0] 51 (0,0)),(b1,.cells #[.slice a r.room.length ca,.slice b r.sts.length cb] 51 (0,0))]:Pcs)++((X6++(X5++[]))++[]))) (fun h_ H_=>(c105 md _ _ H_.pe _ _ _ _ _ (show RstP _ _ _ _ _ r from ⟨R.r,R.s⟩) hn).mono fun v_ h2_ ⟨w3,w4,X5,X6,e_,o7,o8,N_⟩=>⟨w3,w4,X5,X6,e_,o7,o8,H_.callNA N_⟩) fun v_=>?_
 refine xgx fun w3=>xgx fun w4=>xgx fun X5=>xgx fun X6=>xez fun ev_=>xez fun o7=>xez fun o8=>?_
 have ev_:=ev_.symm;subst ev_
 refine xcz (L':=([(b2,.cells #[.slice none 0 0,.slice none 0 0] 51 (0,0)),(b1,.cells #[.slice a r.room.length ca,.slice b r.sts.length cb] 51 (0,0))]:Pcs)++(X6++(X5++[]))) (by simp) ?_
 refine xjj mn tZ51 rfl fun b9=>xcz (L':=([(b9,.cells #[.slice none 0 0,.slice none 0 0] 51 (0,0)),(b2,.cells #[.slice none 0 0,.slice none 0 0] 51 (0,0)),(b1,.cells #[.slice a r.room.length ca,.slice b r.sts.length cb] 51 (0,0))]:Pcs)++(X6++(X5++[]))) rfl ?_
 refine xfz (tm':=zq8 _) rfl ?_
 refine xfv mn tS51 rfl (v:=.agg #[w3,w4]) rfl (i:=0) rfl rfl (xkk o7.one.2 (xkk o8.one.2 rfl)) (Nat.le_of_ble_eq_true rfl) (cs2:=[w3,w4]) rfl (xcz (L':=([(b9,.cells #[w3,w4] 51 (0,0)),(b2,.cells #[.slice none 0 0,.slice none 0 0] 51 (0,0)),(b1,.cells #[.slice a r.room.length ca,.slice b r.sts.length cb] 51 (0,0))]:Pcs)++(X6++(X5++[]))) rfl ?_)
 refine ren <| xav <| ro (xaw xtz rfl (a':=⟨b9,0,none⟩) rfl) <| rd (fun h_ H_=>xbx H_ tA26 rfl (i:=0) rfl (v:=w3) rfl) <| rt (xax (v:=.int .i64 (x)) rfl) (tm':=zq1 (zq2 (zq16 []))) rfl ?_
 refine ro (xmz o7 Tryz.underlying26 tS3 rfl rfl (by omega) (by rw [(xhj _)];omega)) ?_
 refine rd (fun h_ H_=>ymw (i:=(x).toNat) (j:=0) (e:=[.int .i64 (r.room.getD ((x).toNat) 0)]) o7 H_ (fun x_ h_=>by simp [h_]) tA3 rfl rfl (xxv (by omega)) (u:=.int .i64 (r.room.getD ((x).toNat) 0)) rfl) ?_
 refine rt (xax (v:=.int .i64 (y)) rfl) (tm':=zq1 (zq2 (zq16 []))) rfl ?_
 refine ro (xev rfl rfl (wr (by omega))) ?_
 refine ro (xmz o7 Tryz.underlying26 tS3 rfl rfl (by omega) (by rw [(xhj _)];omega)) ?_
 refine xjw (List.Perm.append_left _ (List.perm_append_comm_assoc _ _ _)) ?_
 refine xcz (L':=([(b9,.cells #[w3,w4] 51 (0,0)),(b2,.cells #[.slice none 0 0,.slice none 0 0] 51 (0,0)),(b1,.cells #[.slice a r.room.length ca,.slice b r.sts.length cb] 51 (0,0))]:Pcs)++(X5++(X6++[]))) rfl ?_
 refine xuw (A:=([(b9,.cells #[w3,w4] 51 (0,0)),(b2,.cells #[.slice none 0 0,.slice none 0 0] 51 (0,0)),(b1,.cells #[.slice a r.room.length ca,.slice b r.sts.length cb] 51 (0,0))]:Pcs)) (i:=(x).toNat) (j:=0) (e:=[.int .i64 (r.room.getD ((x).toNat) 0)]) (u:=.int .i64 ((r.room.getD ((x).toNat) 0)+y)) o7 mn tS3 rfl rfl rfl ⟨rfl,rfl⟩ (xxv (by omega)) (Nat.succ_le_iff.1 (Nat.le_of_ble_eq_true rfl)) fun X10 o11=>?_
 refine ren <| xav ?_
 refine xaj mn (fun h_ H_=>xbk H_ tA51 tS51 rfl (i:=0) rfl (vs:=[w3,w4]) rfl rfl) (tm':=zq1 (zq2 (zq16 []))) rfl ?_
 refine xfv mn tS51 rfl (v:=.agg #[w3,w4]) rfl (i:=1) rfl rfl (xkk o11.one.2 (xkk o8.one.2 rfl)) (Nat.le_of_ble_eq_true rfl) (cs2:=[w3,w4]) rfl (xcz (L':=([(b9,.cells #[w3,w4] 51 (0,0)),(b2,.cells #[w3,w4] 51 (0,0)),(b1,.cells #[.slice a r.room.length ca,.slice b r.sts.length cb] 51 (0,0))]:Pcs)++(X10++(X6++[]))) rfl ?_)
 refine xak ?_
 refine xcj Tryz.func77 rfl (vs:=[.agg #[w3,w4]]) (fun h_ H_=>⟨.agg #[w3,w4],_,rfl,(xbq (xbz (xij tA51 tS51 (vs:=[w3,w4]) rfl (fun j_ v_ e_=>by rw [xjv];exact H_.ocell (i:=1) rfl (by simpa using e_)) ⟨rfl,rfl⟩))),rfl⟩) (v:=.agg #[w3,w4]) rfl ?_
 exact fun h_ H_=>K _ _ ⟨_,_,_,X10,X6,rfl,o11,o8,((show St h [] p h_ (([(b9,.cells #[w3,w4] 51 (0,0)),(b2,.cells #[w3,w4] 51 (0,0)),(b1,.cells #[.slice a r.room.length ca,.slice b r.sts.length cb] 51 (0,0))]:Pcs)++(X10++(X6++[]))) from H_).dropA.perm (List.perm_append_comm_assoc _ _ _)).new⟩
theorem c50 (md:Md) (h:Heap):CallsX Tryz.prog md 50 #[] h fun v h'=>∃ w1 w2 w3 w4 e3 X1 X2 X3 X4,v= .tuple #[.agg #[w1,w2],.agg #[w3,w4]]∧OwnS 3 1 w1 (ics (Rst.mk [1,2,1,1] [⟨0,0,2,2⟩,⟨0,0,1,3⟩,⟨1,0,3,1⟩,⟨2,1,2,2⟩]).room) X1∧OwnS 91 4 w2 (stcs (Rst.mk [1,2,1,1] [⟨0,0,2,2⟩,⟨0,0,1,3⟩,⟨1,0,3,1⟩,⟨2,1,2,2⟩]).sts) X2∧OwnS 3 1 w3 e3 X3∧OwnS 91 4 w4 (stcs (Rst.mk [1,2,1,1] [⟨0,0,2,2⟩,⟨0,0,1,3⟩,⟨1,0,3,1⟩,⟨2,1,2,2⟩]).sts) X4∧New h h' (X4++(X3++(X2++(X1++[])))):=by
 refine xbv (Φ:=fun h_=>St h [] (fun _=>none) h_ []) Tryz.func50 rfl (tm:=zq4 (zq8 [])) rfl ?_ (St.start h _ (fun _ _ e=>by cases e))
 intro c₀ cs Stop K
 refine fsr ?_
 refine xjj mn tZ51 rfl fun b1=>xcz (L':=[(b1,.cells #[.slice none 0 0,.slice none 0 0] 51 (0,0))]) rfl ?_
 refine xjj mn tZ51 rfl fun b2=>xcz (L':=[(b2,.cells #[.slice none 0 0,.slice none 0 0] 51 (0,0)),(b1,.cells #[.slice none 0 0,.slice none 0 0] 51 (0,0))]) rfl ?_
 refine ren <| xav ?_
 refine xcz (L':=([(b2,.cells #[.slice none 0 0,.slice none 0 0] 51 (0,0)),(b1,.cells #[.slice none 0 0,.slice none 0 0] 51 (0,0))]:Pcs)++[]) rfl ?_
 refine xhv ([(b2,.cells #[.slice none 0 0,.slice none 0 0] 51 (0,0)),(b1,.cells #[.slice none 0 0,.slice none 0 0] 51 (0,0))]:Pcs) mn Tryz.underlying26 tS3 tZ3 (Nat.le_of_ble_eq_true rfl) (vs:=[(0,.int .i64 1),(1,.int .i64 2),(2,.int .i64 1),(3,.int .i64 1)]) rfl rfl (es:=[[.int .i64 1],[.int .i64 2],[.int .i64 1],[.int .i64 1]]) rfl rfl rfl fun v3 X4 o5=>?_
 refine xfz (tm':=_::_::_::_) rfl ?_
 refine xcw mn (first:=[]) (cap:=[]) rfl rfl fC76 (fun h_ H_=>c76 md _ 0 0 2 2) rfl ?_
 refine xcw mn (first:=[]) (cap:=[]) rfl rfl fC76 (fun h_ H_=>c76 md _ 0 0 1 3) rfl ?_
 refine xcw mn (first:=[]) (cap:=[]) rfl rfl fC76 (fun h_ H_=>c76 md _ 1 0 3 1) (tm':=zq2 (zq4 _)) rfl ?_
 refine xcw mn (first:=[]) (cap:=[]) rfl rfl fC76 (fun h_ H_=>c76 md _ 2 1 2 2) rfl ?_
 refine xhv ([(b2,.cells #[.slice none 0 0,.slice none 0 0] 51 (0,0)),(b1,.cells #[.slice none 0 0,.slice none 0 0] 51 (0,0))]:Pcs) mn Tryz.underlying49 tS91 tZ91 (Nat.le_of_ble_eq_true rfl) (vs:=[(0,.agg #[.int .i64 0,.int .i64 0,.int .i64 2,.int .i64 2]),(1,.agg #[.int .i64 0,.int .i64 0,.int .i64 1,.int .i64 3]),(2,.agg #[.int .i64 1,.int .i64 0,.int .i64 3,.int .i64 1]),(3,.agg #[.int .i64 2,.int .i64 1,.int .i64 2,.int .i64 2])]) rfl rfl (es:=[[.int .i64 0,.int .i64 0,.int .i64 2,.int .i64 2],[.int .i64 0,.int .i64 0,.int .i64 1,.int .i64 3],[.int .i64 1,.int .i64 0,.int .i64 3,.int .i64 1],[.int .i64 2,.int .i64 1,.int .i64 2,.int .i64 2]]) rfl rfl rfl fun v6 X7 o8=>?_
 obtain ⟨a9,c10,ev_,_⟩:=o5.val;have ev_:v3= .slice a9 4 c10:=ev_.trans (congrArg (fun q_=>Value.slice a9 q_ c10) (show _=4 from rfl));subst ev_
 obtain ⟨a11,c12,ev_,_⟩:=o8.val;have ev_:v6= .slice a11 4 c12:=ev_.trans (congrArg (fun q_=>Value.slice a11 q_ c12) (show _=4 from rfl));subst ev_
 refine rt (xlj tZ51 tP51 (vs:=[(0,(.slice a9 4 c10)),(1,(.slice a11 4 c12))]) rfl (cells:=#[(.slice a9 4 c10),(.slice a11 4 c12)]) rfl) (tm':=zq4 (zq8 [])) rfl ?_
 refine xfv mn tS51 rfl (v:=.agg #[(.slice a9 4 c10),(.slice a11 4 c12)]) rfl (i:=1) rfl rfl (xkk o5.one.2 (xkk o8.one.2 rfl)) (Nat.le_of_ble_eq_true rfl) (cs2:=[(.slice a9 4 c10),(.slice a11 4 c12)]) rfl (xcz (L':=([(b2,.cells #[.slice none 0 0,.slice none 0 0] 51 (0,0)),(b1,.cells #[(.slice a9 4 c10),(.slice a11 4 c12)] 51 (0,0))]:Pcs)++(X7++(X4++[]))) rfl ?_)
 refine ren ?_
 obtain ⟨Gw22,Gw23,Ge28,GX24,GX25,hG2_⟩:=sk5 (fun (v_:Value) (x_:Pcs) (w22:Value) (w23:Value) (e28:List (List Value)) (X24:Pcs) (X25:Pcs)=>v_= .agg #[w22,w23]∧(OwnS 3 1 w22 e28 X24)∧(OwnS 91 4 w23 (stcs (Rst.mk [1,2,1,1] [⟨0,0,2,2⟩,⟨0,0,1,3⟩,⟨1,0,3,1⟩,⟨2,1,2,2⟩]).sts) X25)∧x_=(X25++(X24++[])))
 refine yoj (xqq (C:=[]) (A:=(([(b2,.cells #[.slice none 0 0,.slice none 0 0] 51 (0,0)),(b1,.cells #[(.slice a9 4 c10),(.slice a11 4 c12)] 51 (0,0))]:Pcs)++X7++X4)) 3 [] [] [2] [0,1] (fun _=>[]) (fun _=>[]) (fun i_=>match i_ with | 0=>[] | 1=>[] | 2=>[1] | _=>[]) (fun i_ val_ pc_ v_ x_=>match i_ with | 0=>v_= .agg #[(.slice a9 4 c10),(.slice a11 4 c12)]∧x_=[] | 1=>v_= .agg #[(.slice a9 4 c10),(.slice a11 4 c12)]∧x_=[] | 2=>∃ w22:Value,∃ w23:Value,∃ e28:List (List Value),∃ X24:Pcs,∃ X25:Pcs,v_= .agg #[w22,w23]∧(OwnS 3 1 w22 e28 X24)∧(OwnS 91 4 w23 (stcs (Rst.mk [1,2,1,1] [⟨0,0,2,2⟩,⟨0,0,1,3⟩,⟨1,0,3,1⟩,⟨2,1,2,2⟩]).sts) X25)∧x_=(X25++(X24++[])) | _=>True) (fun val20=>[.pointer (some ⟨b1,0,none⟩),.pointer (some ⟨b2,0,none⟩),(.slice a9 4 c10),.agg #[.int .i64 0,.int .i64 0,.int .i64 2,.int .i64 2],.agg #[.int .i64 0,.int .i64 0,.int .i64 1,.int .i64 3],.agg #[.int .i64 1,.int .i64 0,.int .i64 3,.int .i64 1],.agg #[.int .i64 2,.int .i64 1,.int .i64 2,.int .i64 2],(.slice a11 4 c12),.agg #[(.slice a9 4 c10),(.slice a11 4 c12)],(val20 0),(val20 1),(val20 2)]) mixed (by kernel_rfl) (Nat.le_of_ble_eq_true rfl) (by kernel_rfl) (by kernel_rfl) (by kernel_rfl) (fun _ _=>⟨fun _ _ h=>h.2,⟨fun _ _ h=>h.2,trivial⟩⟩) (fun _=>by kernel_rfl) (by kernel_rfl) ?_ ?_) (fun h_ H_=>St.swap (A:=(([(b2,.cells #[.slice none 0 0,.slice none 0 0] 51 (0,0)),(b1,.cells #[(.slice a9 4 c10),(.slice a11 4 c12)] 51 (0,0))]:Pcs)++X7++X4)) (U:=[]) H_.assoc.assoc)
 ·
  refine xcq rfl (xew ?_) ?_
  ·
   intro val20 pc21 hQ_ hX_
   obtain ⟨q_,hq0_⟩: ∃ q_:Value→Pcs→Prop,q_=(fun v_ x_=>v_= .agg #[(.slice a9 4 c10),(.slice a11 4 c12)]∧x_=[]):=⟨_,rfl⟩
   refine ⟨(zq4 (zq8 [])),[],q_,rfl,rfl,(fun _ _ z_=>by subst hq0_;exact z_),?_⟩
   subst hq0_
   exact xfx mn (fun _ h_ H_=>xbk H_ tA51 tS51 rfl (i:=1) rfl (vs:=[(.slice a9 4 c10),(.slice a11 4 c12)]) rfl rfl) ⟨rfl,rfl⟩
  refine xcq rfl (xew ?_) ?_
  ·
   intro val20 pc21 hQ_ hX_
   obtain ⟨q_,hq0_⟩: ∃ q_:Value→Pcs→Prop,q_=(fun v_ x_=>v_= .agg #[(.slice a9 4 c10),(.slice a11 4 c12)]∧x_=[]):=⟨_,rfl⟩
   refine ⟨(zq4 (zq8 [])),[],q_,rfl,rfl,(fun _ _ z_=>by subst hq0_;exact z_),?_⟩
   subst hq0_
   exact xfx mn (fun _ h_ H_=>xbk H_ tA51 tS51 rfl (i:=1) rfl (vs:=[(.slice a9 4 c10),(.slice a11 4 c12)]) rfl rfl) ⟨rfl,rfl⟩
  refine xcq rfl (xew ?_) ?_
  ·
   intro val20 pc21 hQ_ hX_
   have e1_:val20 1= .agg #[(.slice a9 4 c10),(.slice a11 4 c12)]:=(hQ_ 1 rfl).1
   obtain ⟨q_,hq0_⟩: ∃ q_:Value→Pcs→Prop,q_=(fun v_ x_=>∃ w22:Value,∃ w23:Value,∃ e28:List (List Value),∃ X24:Pcs,∃ X25:Pcs,v_= .agg #[w22,w23]∧(OwnS 3 1 w22 e28 X24)∧(OwnS 91 4 w23 (stcs (Rst.mk [1,2,1,1] [⟨0,0,2,2⟩,⟨0,0,1,3⟩,⟨1,0,3,1⟩,⟨2,1,2,2⟩]).sts) X25)∧x_=(X25++(X24++[]))):=⟨_,rfl⟩
   refine ⟨(zq4 (zq8 [])),[],q_,(by rw [e1_]),rfl,(fun _ _ z_=>by subst hq0_;exact z_),?_⟩
   subst hq0_
   exact yix mn (first:=[]) (cap:=[]) rfl rfl fC77 (fun _ h_ H_=>((show CallsX _ md 77 _ h_ (fun v h'=>∃ w1 w2 e1 X1 X2,v= .agg #[w1,w2]∧OwnS 3 1 w1 e1 X1∧OwnS 91 4 w2 (stcs (Rst.mk [1,2,1,1] [⟨0,0,2,2⟩,⟨0,0,1,3⟩,⟨1,0,3,1⟩,⟨2,1,2,2⟩]).sts) X2∧New h_ h' (X2++(X1++[]))) from wtv (n:=4) (n':=4) o5 rfl o8 rfl H_ (fun x_ hx_=>by rcases List.mem_append.1 hx_ with hz_ | hz_ <;> simp [hz_]) fun p' a_ ca_ b_ cb_ hp' _ ea_ eb_ S1 S2=>by cases ea_;cases eb_;exact c77 md h_ p' hp' _ _ _ _ (Rst.mk [1,2,1,1] [⟨0,0,2,2⟩,⟨0,0,1,3⟩,⟨1,0,3,1⟩,⟨2,1,2,2⟩]) ⟨S1,S2⟩ (by decide) 0 (-1) (by decide) (by decide))).mono fun v_ h2_ ⟨w22,w23,e28,X24,X25,e_,o26,o27,N_⟩=>⟨_,⟨w22,w23,e28,X24,X25,e_,o26,o27,rfl⟩,H_.callN N_⟩)
  exact xpk rfl
 intro val20 pc21 hQ_ hX_
 have e0_:val20 0= .agg #[(.slice a9 4 c10),(.slice a11 4 c12)]:=(hQ_ 0 (by decide)).1
 have e1_:val20 1= .agg #[(.slice a9 4 c10),(.slice a11 4 c12)]:=(hQ_ 1 (by decide)).1
 obtain ⟨e2_,o26,o27,x2_⟩:=hG2_ _ _ (hQ_ 2 (by decide))
 clear hQ_ hX_
 generalize Gw22 (val20 2) (pc21 2)=w22 at*
 generalize Gw23 (val20 2) (pc21 2)=w23 at*
 generalize Ge28 (val20 2) (pc21 2)=e28 at*
 generalize GX24 (val20 2) (pc21 2)=X24 at*
 generalize GX25 (val20 2) (pc21 2)=X25 at*
 refine yok (Φ:=fun h_=>St h [] (fun _=>none) h_ (([(b2,.cells #[.slice none 0 0,.slice none 0 0] 51 (0,0)),(b1,.cells #[(.slice a9 4 c10),(.slice a11 4 c12)] 51 (0,0))]:Pcs)++(X7++(X4++((pc21 2++[])))))) ?_ (fun h_ H_=>(St.swap' (A:=(([(b2,.cells #[.slice none 0 0,.slice none 0 0] 51 (0,0)),(b1,.cells #[(.slice a9 4 c10),(.slice a11 4 c12)] 51 (0,0))]:Pcs)++X7++X4)) H_).assoc'.assoc')
 rw [x2_]
 refine xcz (L':=([(b2,.cells #[.slice none 0 0,.slice none 0 0] 51 (0,0)),(b1,.cells #[(.slice a9 4 c10),(.slice a11 4 c12)] 51 (0,0))]:Pcs)++(X7++(X4++(X25++(X24++[]))))) (by simp) ?_
 refine xfz (tm':=(zq4 (zq8 []))) (by rw [e0_,e1_,e2_]) ?_
 refine xfv mn tS51 rfl (v:=.agg #[(.slice a9 4 c10),(.slice a11 4 c12)]) rfl (i:=1) rfl rfl (xkk o5.one.2 (xkk o8.one.2 rfl)) (Nat.le_of_ble_eq_true rfl) (cs2:=[(.slice a9 4 c10),(.slice a11 4 c12)]) rfl (xcz (L':=([(b2,.cells #[.slice none 0 0,.slice none 0 0] 51 (0,0)),(b1,.cells #[(.slice a9 4 c10),(.slice a11 4 c12)] 51 (0,0))]:Pcs)++(X7++(X4++(X25++(X24++[]))))) rfl ?_)
 refine xfv mn tS51 rfl (v:=.agg #[w22,w23]) rfl (i:=0) rfl rfl (xkk o26.one.2 (xkk o27.one.2 rfl)) (Nat.le_of_ble_eq_true rfl) (cs2:=[w22,w23]) rfl (xcz (L':=([(b2,.cells #[w22,w23] 51 (0,0)),(b1,.cells #[(.slice a9 4 c10),(.slice a11 4 c12)] 51 (0,0))]:Pcs)++(X7++(X4++(X25++(X24++[]))))) rfl ?_)
 refine xak ?_
 refine xcj Tryz.func50 rfl (vs:=[.agg #[(.slice a9 4 c10),(.slice a11 4 c12)],.agg #[w22,w23]]) (fun h_ H_=>⟨.agg #[(.slice a9 4 c10),(.slice a11 4 c12)],_,rfl,(xbq (xbz (xij tA51 tS51 (vs:=[(.slice a9 4 c10),(.slice a11 4 c12)]) rfl (fun j_ v_ e_=>by rw [xjv];exact H_.ocell (i:=1) rfl (by simpa using e_)) ⟨rfl,rfl⟩))),⟨.agg #[w22,w23],_,rfl,(xbq (xbz (xij tA51 tS51 (vs:=[w22,w23]) rfl (fun j_ v_ e_=>by rw [xjv];exact H_.ocell (i:=0) rfl (by simpa using e_)) ⟨rfl,rfl⟩))),rfl⟩⟩) (v:=.tuple #[.agg #[(.slice a9 4 c10),(.slice a11 4 c12)],.agg #[w22,w23]]) rfl ?_
 exact fun h_ H_=>K _ _ ⟨_,_,_,_,_,_,_,_,_,rfl,o5,o8,o26,o27,(St.perm H_.dropA (by simpa [List.append_assoc] using List.perm_append_comm (l₁:=X7++X4) (l₂:=X25++X24))).new⟩
end Go.Proofs.YtphalmjpbnffcaaGreatDoor
namespace Go.Proofs.YtphalmjpbnffcaaGreatDoor
open Go.X Go.X.Kn Go.X.Cent Go.X.Hr Go.Conc
set_option maxRecDepth 10000
set_option synthInstance.maxSize 2000

set_option maxHeartbeats 2000000
theorem c19 (h:Heap) (htab:Tab h):CallsX Tryz.prog .lone 19 #[] h fun v h'=>v= .bool true∧Keep h h':=by
 refine xbv (Φ:=fun h_=>St h [] (fun _=>none) h_ []) Tryz.func19 rfl (tm:=zq4 (zq32 [])) rfl ?_ (St.start h _ (fun _ _ e=>by cases e))
 intro c₀ cs Stop K
 refine fsr <| ro (xaq (v:=.bool (false)) rfl) <| ren <| xav ?_
 refine xcz (L':=([]:Pcs)++[]) rfl ?_
 refine xgv mn (first:=[]) (cap:=[]) rfl rfl fC50 (R:=fun v_ h_=>∃ w1:Value,∃ w2:Value,∃ w3:Value,∃ w4:Value,∃ e13:List (List Value),∃ X5:Pcs,∃ X6:Pcs,∃ X7:Pcs,∃ X8:Pcs,v_= .tuple #[.agg #[w1,w2],.agg #[w3,w4]]∧(OwnS 3 1 w1 (ics exR.room) X5)∧(OwnS 91 4 w2 (stcs exR.sts) X6)∧(OwnS 3 1 w3 e13 X7)∧(OwnS 91 4 w4 (stcs exR.sts) X8)∧St h [] (fun _=>none) h_ (([]:Pcs)++((X8++(X7++(X6++(X5++[]))))++[]))) (fun h_ H_=>(c50 .lone _).mono fun v_ h2_ ⟨w1,w2,w3,w4,e13,X5,X6,X7,X8,e_,o9,o10,o11,o12,N_⟩=>⟨w1,w2,w3,w4,e13,X5,X6,X7,X8,e_,o9,o10,o11,o12,H_.callNA N_⟩) fun v_=>?_
 refine xgx fun w1=>xgx fun w2=>xgx fun w3=>xgx fun w4=>xgx fun e13=>xgx fun X5=>xgx fun X6=>xgx fun X7=>xgx fun X8=>xez fun ev_=>xez fun o9=>xez fun o10=>xez fun o11=>xez fun o12=>?_
 have ev_:=ev_.symm;subst ev_
 refine xcz (L':=([]:Pcs)++(X8++(X7++(X6++(X5++[]))))) (by simp) ?_
 refine rt (xax (v:=.tuple #[.agg #[w1,w2],.agg #[w3,w4]]) rfl) (tm':=zq8 _) rfl <| ro (xdw rfl (v:=.agg #[w1,w2]) rfl) <| ro (xdw rfl (v:=.agg #[w3,w4]) rfl) ?_
 refine xjj mn tZ51 rfl fun b14=>xcz (L':=([(b14,.cells #[.slice none 0 0,.slice none 0 0] 51 (0,0))]:Pcs)++(X8++(X7++(X6++(X5++[]))))) rfl ?_
 refine xfz (tm':=_::_::_) rfl ?_
 refine xjj mn tZ51 rfl fun b15=>xcz (L':=([(b15,.cells #[.slice none 0 0,.slice none 0 0] 51 (0,0)),(b14,.cells #[.slice none 0 0,.slice none 0 0] 51 (0,0))]:Pcs)++(X8++(X7++(X6++(X5++[]))))) rfl ?_
 refine xfv mn tS51 rfl (v:=.agg #[w1,w2]) rfl (i:=1) rfl rfl (xkk o9.one.2 (xkk o10.one.2 rfl)) (Nat.le_of_ble_eq_true rfl) (cs2:=[w1,w2]) rfl (xcz (L':=([(b15,.cells #[.slice none 0 0,.slice none 0 0] 51 (0,0)),(b14,.cells #[w1,w2] 51 (0,0))]:Pcs)++(X8++(X7++(X6++(X5++[]))))) rfl ?_)
 refine xfv mn tS51 rfl (v:=.agg #[w3,w4]) rfl (i:=0) rfl rfl (xkk o11.one.2 (xkk o12.one.2 rfl)) (Nat.le_of_ble_eq_true rfl) (cs2:=[w3,w4]) rfl (xcz (L':=([(b15,.cells #[w3,w4] 51 (0,0)),(b14,.cells #[w1,w2] 51 (0,0))]:Pcs)++(X8++(X7++(X6++(X5++[]))))) rfl ?_)
 refine ren ?_
 refine xqk (List.Perm.append_left _ (List.Perm.append_left _ (List.Perm.append_left _ (List.perm_append_comm_assoc _ _ _)))) ?_
 refine xqk (List.Perm.append_left _ (List.Perm.append_left _ (List.perm_append_comm_assoc _ _ _))) ?_
 refine xqk (List.Perm.append_left _ (List.perm_append_comm_assoc _ _ _)) ?_
 refine xrq (L':=([(b15,.cells #[w3,w4] 51 (0,0)),(b14,.cells #[w1,w2] 51 (0,0))]:Pcs)++(X5++(X8++(X7++(X6++[]))))) rfl ?_
 refine xtj (A:=([(b15,.cells #[w3,w4] 51 (0,0)),(b14,.cells #[w1,w2] 51 (0,0))]:Pcs)) o9 ((xhj _).trans rfl) fun p16 a17 cp18 le19 ev_ D20=>?_
 subst ev_
 refine xqk (List.Perm.append_left _ (List.Perm.append_left _ (List.perm_append_comm_assoc _ _ _))) ?_
 refine xqk (List.Perm.append_left _ (List.perm_append_comm_assoc _ _ _)) ?_
 refine xrq (L':=([(b15,.cells #[w3,w4] 51 (0,0)),(b14,.cells #[.slice a17 exR.room.length cp18,w2] 51 (0,0))]:Pcs)++(X6++(X8++(X7++[])))) rfl ?_
 refine xtj (A:=([(b15,.cells #[w3,w4] 51 (0,0)),(b14,.cells #[.slice a17 exR.room.length cp18,w2] 51 (0,0))]:Pcs)) o10 (show (stcs exR.sts).length=exR.sts.length from rfl) fun p21 a22 cp23 le24 ev_ D25=>?_
 subst ev_
 refine xav <| rd (fun h_ H_=>xbk H_ tA51 tS51 rfl (i:=1) rfl (vs:=[.slice a17 exR.room.length cp18,.slice a22 exR.sts.length cp23]) rfl rfl) ?_
 refine xgv mn (first:=[]) (cap:=[]) rfl rfl fC20 (R:=fun v_ h_=>∃ w26:Value,∃ X27:Pcs,v_= .tuple #[w26,.int .i64 0]∧(OwnS 3 1 w26 (ics (rosF exR.sts exR.room)) X27)∧St h [] p21 h_ (([(b15,.cells #[w3,w4] 51 (0,0)),(b14,.cells #[.slice a17 exR.room.length cp18,.slice a22 exR.sts.length cp23] 51 (0,0))]:Pcs)++(X27++(X8++(X7++[]))))) (fun h_ H_=>(c20a .lone _ _ H_.pe _ _ _ _ exR (show RstP _ _ _ _ _ exR from ⟨((show Ints _ _ _ exR.room from D20).mono le24),(show Sts _ _ _ exR.sts from D25)⟩) (by decide) wsx wok).mono fun v_ h2_ ⟨w26,X27,e_,o28,N_⟩=>⟨w26,X27,e_,o28,H_.callNA N_⟩) fun v_=>?_
 refine xgx fun w26=>xgx fun X27=>xez fun ev_=>xez fun o28=>?_
 have ev_:=ev_.symm;subst ev_
 refine xcz (L':=([(b15,.cells #[w3,w4] 51 (0,0)),(b14,.cells #[.slice a17 exR.room.length cp18,.slice a22 exR.sts.length cp23] 51 (0,0))]:Pcs)++(X27++(X8++(X7++[])))) rfl ?_
 refine xfz (tm':=zq2 (zq4 (zq8 _))) rfl ?_
 refine ro (xax (v:=.tuple #[w26,.int .i64 0]) rfl) <| ro (xdw rfl (v:=w26) rfl) <| rt (xdw rfl (v:=.int .i64 0) rfl) (tm':=zq16 _) rfl <| ro (xaq (v:=w26) rfl) <| ro (xaq (v:=.int .i64 0) rfl) <| ren ?_
 refine xav ?_
 refine xhv ([(b15,.cells #[w3,w4] 51 (0,0)),(b14,.cells #[.slice a17 exR.room.length cp18,.slice a22 exR.sts.length cp23] 51 (0,0))]:Pcs) mn Tryz.underlying33 tS9 tZ9 (Nat.le_of_ble_eq_true rfl) (vs:=[(0,sv ([120]:List UInt8))]) rfl rfl (es:=[[sv ([120]:List UInt8)]]) rfl rfl rfl fun v29 X30 o31=>?_
 have o32:OwnS 9 1 v29 (scs ([([120]:List UInt8)]:List By)) X30:=o31
 refine xfz (tm':=zq2 (zq16 _)) rfl ?_
 refine yhw (A:=([(b15,.cells #[w3,w4] 51 (0,0)),(b14,.cells #[.slice a17 exR.room.length cp18,.slice a22 exR.sts.length cp23] 51 (0,0))]:Pcs)) o32 (xgq _) fun p33 a34 cp35 le36 ev_ D37=>?_
 subst ev_
 refine xcw mn (first:=[]) (cap:=[]) rfl rfl fC13 (fun h_ H_=>c13 _ _ H_.pe (htab.keep H_.kept) a34 (([([120]:List UInt8)]:List By).length) _ ([([120]:List UInt8)]:List By) (show Strs _ _ _ ([([120]:List UInt8)]:List By) from D37) (by decide) (by intro i_ hi_;have hz_:i_=0:=Nat.lt_one_iff.1 hi_;subst hz_;decide)) rfl ?_
 refine ro (xax (v:=.tuple #[sv ((writeB ([([120]:List UInt8)]:List By)).1),.int .i64 ((writeB ([([120]:List UInt8)]:List By)).2)]) rfl) <| rt (xdw rfl (v:=sv ((writeB ([([120]:List UInt8)]:List By)).1)) rfl) (tm':=zq4 (zq16 _)) rfl <| ro (xdw rfl (v:=.int .i64 ((writeB ([([120]:List UInt8)]:List By)).2)) rfl) <| ro (xaq (v:=sv ((writeB ([([120]:List UInt8)]:List By)).1)) rfl) <| rt (xaq (v:=.int .i64 ((writeB ([([120]:List UInt8)]:List By)).2)) rfl) (tm':=zq1 (zq2 (zq4 _))) rfl <| ren ?_
 refine xav <| ro (xax (v:=.int .i64 0) rfl) <| ro (xmj rfl rfl) <| rt (xax (v:=.bool (decide ((0:Int)=0))) rfl) (tm':=zq8 (zq16 _)) rfl ?_
 refine xaj (ms rfl rfl (decide_eq_true rfl)) (fun h_ H_=>xax (v:=.int .i64 ((writeB ([([120]:List UInt8)]:List By)).2)) rfl) rfl ?_
 refine xaj (ms rfl rfl (decide_eq_true rfl)) (fun h_ H_=>xmj rfl rfl) rfl ?_
 refine rt (xbw rfl (decide_eq_true rfl) (v:=.bool (decide ((writeB ([([120]:List UInt8)]:List By)).2=0))) rfl) (tm':=zq4 (zq32 [])) rfl <| ro (xax (v:=.bool (decide ((writeB ([([120]:List UInt8)]:List By)).2=0))) rfl) ?_
 refine xaj (ms rfl rfl (decide_eq_true (by decide +kernel))) (fun h_ H_=>xax (v:=w26) rfl) rfl ?_
 refine xhv ([(b15,.cells #[w3,w4] 51 (0,0)),(b14,.cells #[.slice a17 exR.room.length cp18,.slice a22 exR.sts.length cp23] 51 (0,0))]:Pcs) (ms rfl rfl (decide_eq_true (by decide +kernel))) Tryz.underlying26 tS3 tZ3 (Nat.le_of_ble_eq_true rfl) (vs:=[(0,.int .i64 1),(1,.int .i64 0),(2,.int .i64 1),(3,.int .i64 2)]) rfl rfl (es:=[[.int .i64 1],[.int .i64 0],[.int .i64 1],[.int .i64 2]]) rfl rfl rfl fun v38 X39 o40=>?_
 refine xfz (tm':=zq4 (zq32 [])) rfl ?_
 refine xjw (List.Perm.append_left _ (List.perm_append_comm_assoc _ _ _)) ?_
 refine xcz (L':=([(b15,.cells #[w3,w4] 51 (0,0)),(b14,.cells #[.slice a17 exR.room.length cp18,.slice a22 exR.sts.length cp23] 51 (0,0))]:Pcs)++(X27++(X39++(X8++(X7++[]))))) rfl ?_
 refine yhw (A:=([(b15,.cells #[w3,w4] 51 (0,0)),(b14,.cells #[.slice a17 exR.room.length cp18,.slice a22 exR.sts.length cp23] 51 (0,0))]:Pcs)) o28 ((xhj _).trans (show (rosF exR.sts exR.room).length=4 from xpj _ _)) fun p41 a42 cp43 le44 ev_ D45=>?_
 subst ev_
 refine yhw (A:=([(b15,.cells #[w3,w4] 51 (0,0)),(b14,.cells #[.slice a17 exR.room.length cp18,.slice a22 exR.sts.length cp23] 51 (0,0))]:Pcs)) o40 (show _=4 from rfl) fun p46 a47 cp48 le49 ev_ D50=>?_
 subst ev_
 refine xcw (ms rfl rfl (decide_eq_true (by decide +kernel))) (first:=[]) (cap:=[]) rfl rfl fC28 (fun h_ H_=>c28 .lone _ _ H_.pe _ _ _ _ _ _ _ _ ((show Ints _ _ _ (rosF exR.sts exR.room) from D45).mono le49) (show Ints _ _ _ [1,0,1,2] from D50) (by omega)) rfl ?_
 refine ro (xbw rfl (decide_eq_true (by decide +kernel)) (v:=.bool (decide ((rosF exR.sts exR.room)=[1,0,1,2]))) rfl) ?_
 refine rt (xax (v:=.bool (decide ((rosF exR.sts exR.room)=[1,0,1,2]))) rfl) (tm':=zq4 (zq32 [])) rfl ?_
 refine xaj (ms rfl rfl (decide_eq_true (by decide +kernel))) (fun h_ H_=>xax (v:=sv ((writeB ([([120]:List UInt8)]:List By)).1)) rfl) rfl ?_
 refine xaj (ms rfl rfl (decide_eq_true (by decide +kernel))) (fun h_ H_=>yuv (l:=(writeB ([([120]:List UInt8)]:List By)).1) (m:=([65,65,120,65,65,126,61,49,56,57,54]:List UInt8)) rfl rfl) rfl ?_
 refine rt (xbw rfl (decide_eq_true (by decide +kernel)) (v:=.bool (decide ((writeB ([([120]:List UInt8)]:List By)).1=([65,65,120,65,65,126,61,49,56,57,54]:List UInt8)))) rfl) (tm':=zq4 (zq32 [])) rfl ?_
 refine ro (xaq (v:=.bool (decide ((writeB ([([120]:List UInt8)]:List By)).1=([65,65,120,65,65,126,61,49,56,57,54]:List UInt8)))) rfl) <| xak ?_
 refine xcj Tryz.func19 rfl (vs:=[.bool (decide ((writeB ([([120]:List UInt8)]:List By)).1=([65,65,120,65,65,126,61,49,56,57,54]:List UInt8)))]) (fun h_ H_=>⟨.bool (decide ((writeB ([([120]:List UInt8)]:List By)).1=([65,65,120,65,65,126,61,49,56,57,54]:List UInt8))),_,rfl,rfl,rfl⟩) (v:=.bool (decide ((writeB ([([120]:List UInt8)]:List By)).1=([65,65,120,65,65,126,61,49,56,57,54]:List UInt8)))) rfl ?_
 exact fun h_ H_=>K _ _ ⟨rfl,H_.kept⟩
end Go.Proofs.YtphalmjpbnffcaaGreatDoor
namespace Go.Proofs.YtphalmjpbnffcaaGreatDoor
open Go.X Go.X.Kn Go.X.Cent Go.X.Hr Go.Conc
set_option maxRecDepth 10000
set_option synthInstance.maxSize 2000

set_option maxHeartbeats 2000000
theorem c24 (md:Md) (h:Heap) (l:By) (hl:l.length≤2 ^ 20):CallsX Tryz.prog md 24 #[sv l] h fun v h'=>∃ w X,v=w∧OwnS 9 1 w (scs (splitK l l.length)) X∧New h h' X:=by
 refine xbv (Φ:=fun h_=>St h [] (fun _=>none) h_ []) Tryz.func24 rfl (tm:=zq1 (zq32 [])) rfl ?_ (St.start h _ (fun _ _ e=>by cases e))
 intro c₀ cs Stop K
 refine fsr <| ro (xaq (v:=.slice none 0 0) rfl) <| ren <| xav ?_
 refine xcz (L':=([]:Pcs)++[]) rfl ?_
 refine xhv ([]:Pcs) mn Tryz.underlying33 tS9 tZ9 (Nat.le_of_ble_eq_true rfl) (vs:=[(0,sv ([]:List UInt8))]) rfl rfl (es:=[[sv ([]:List UInt8)]]) rfl rfl rfl fun v1 X2 o3=>?_
 refine rt (xaq (v:=v1) rfl) (tm':=zq4 _) rfl <| ren <| fsr <| ro (xaq (v:=.int .i64 0) rfl) <| xak <| xeq ?_
 refine xhk (m₀:=l.length-0) (fun m_ tm_ h_=>∃ (k:Nat) (w_:Value) (X1:Pcs),m_=l.length-k∧(∃ y4:Nat→Value,tm_=[sv l,undef,.slice none 0 0,w_,.int .i64 (((k:Nat):Int)),v1,(y4 6),(y4 7),(y4 8),(y4 9),(y4 10),(y4 11),(y4 12),(y4 13),(y4 14),(y4 15),(y4 16),(y4 17),(y4 18),(y4 19),(y4 20),(y4 21),(y4 22),(y4 23),(y4 24),(y4 25),(y4 26),(y4 27),(y4 28),(y4 29),(y4 30),(y4 31),undef])∧(k≤l.length)∧(OwnS 9 1 w_ (scs (splitK l k)) X1)∧St h [] (fun _=>none) h_ (([]:Pcs)++(X1++[]))) (fun h_ H_=>⟨0,v1,X2,rfl,(y_of rfl),Nat.zero_le _,o3,H_⟩) ?_
 intro m_ tm_ IH5
 refine xhq fun k=>xhq fun w_=>xhq fun X1=>xdj fun hm_=>xdj fun ht_=>xdj fun hk=>xdj fun o1=>?_
 subst hm_;obtain ⟨y4,ht_⟩:=ht_;subst ht_
 have hs_:=yyq l k
 have ha_:=ziq l k ((splitK l k).length-1)
 refine xbj <| fsr <| ro (xax (v:=.int .i64 (((k:Nat):Int))) rfl) <| rt (xax (v:=sv l) rfl) (tm':=zq8 _) rfl <| ro (xkz (l:=l) Tryz.underlying9 rfl) <| ro (xfk rfl rfl) ?_
 refine xak ?_
 by_cases cc6:((k:Nat):Int)<((l.length:Nat):Int)
 ·
  refine xcx rfl (dtt cc6) <| xdz <| xbj <| xeq <| fsr <| rt (xax (v:=sv l) rfl) (tm':=zq1 (zq4 (zq8 _))) rfl ?_
  refine ro (xax (v:=.int .i64 (((k:Nat):Int))) rfl) ?_
  refine ro (xiq (l:=l) (i:=k) Tryz.underlying9 rfl rfl (by omega)) ?_
  refine rt (xmj rfl rfl) (tm':=zq16 _) rfl <| xak ?_
  by_cases cc7:(((l.getD k 0).toNat:Nat):Int)=32
  ·
   refine xcx rfl (dtt cc7) <| xav <| ro (xax (v:=w_) rfl) ?_
   refine xhv ([]:Pcs) mn Tryz.underlying33 tS9 tZ9 (Nat.le_of_ble_eq_true rfl) (vs:=[(0,sv ([]:List UInt8))]) rfl rfl (es:=[[sv ([]:List UInt8)]]) rfl rfl rfl fun v8 X9 o10=>?_
   refine xjw (List.Perm.append_left _ (List.perm_append_comm_assoc _ _ _)) ?_
   refine xcz (L':=([]:Pcs)++(X1++(X9++[]))) rfl ?_
   refine xkw ([]:Pcs) X1 X9 mn Tryz.underlying33 tS9 tZ9 rfl tB9 Tryz.underlying33 rfl rfl o1 o10 (xrk rfl) (by rw [xgq];show (_+1)*_≤_;omega) (by decide) fun v11 X12 o13=>?_
   refine xfz (tm':=zq1 (zq2 (zq16 _))) rfl ?_
   refine ro (xaq (v:=v11) rfl) <| xak <| xex <| xav <| ro (xax (v:=.int .i64 (((k:Nat):Int))) rfl) ?_
   refine rt (xev rfl rfl (n:=((k+1:Nat):Int)) (wr (by omega))) (tm':=zq4 (zq8 _)) rfl ?_
   refine ro (xaq (v:=.int .i64 (((k+1:Nat):Int))) rfl) <| xak ?_
   exact fun h_ H_=>IH5 _ _ (by omega) h_ ⟨k+1,v11,X12,rfl,(y_of rfl),(by omega),(o13.as (by first | exact zhv ‹_› | exact zhw ‹_› _)),H_⟩
  ·
   refine xcv rfl (dff cc7) ?_
   refine yoj (xqq (C:=[]) (A:=(([]:Pcs)++X1)) 11 [[],[],[1],[1,2],[0,1,2,3],[0,1,2,3,4],[],[],[6,7],[6,7,8],[6,7,8,9],[],[],[]] [] [] [0,1,2,3,4,5,6,7,8,10] (fun _=>[]) (fun i_=>match i_ with | 10=>[9] | _=>[]) (fun i_=>match i_ with | 0=>[] | 1=>[] | 2=>[1] | 3=>[2] | 4=>[0,3] | 5=>[4] | 6=>[] | 7=>[] | 8=>[6,7] | 9=>[8] | 10=>[9] | _=>[]) (fun i_ val_ pc_ v_ x_=>match i_ with | 0=>v_=w_∧x_=[] | 1=>v_=w_∧x_=[] | 2=>v_= .int .i64 ((((splitK l k).length:Nat):Int))∧x_=[] | 3=>v_= .int .i64 (((((splitK l k).length)-1:Nat):Int))∧x_=[] | 4=>v_= .pointer (some ((adrV w_).add ((((splitK l k).length)-1)*1)))∧x_=[] | 5=>v_=sv ((splitK l k).getD (((splitK l k).length)-1) [])∧x_=[] | 6=>v_=sv l∧x_=[] | 7=>v_= .int .i64 (((k:Nat):Int))∧x_=[] | 8=>v_= .int .u8 ((((l.getD k 0).toNat:Nat):Int))∧x_=[] | 9=>OwnS 5 1 v_ [[.int .u8 ((((l.getD k 0).toNat:Nat):Int))]] x_ | 10=>v_=sv ([l.getD k 0])∧x_=[] | _=>True) (fun val14=>[sv l,undef,.slice none 0 0,w_,.int .i64 (((k:Nat):Int)),v1,.int .i64 (((k:Nat):Int)),sv l,.int .i64 (((l.length:Nat):Int)),.bool (decide (((k:Nat):Int)<((l.length:Nat):Int))),(y4 10),(y4 11),sv l,.int .i64 (((k:Nat):Int)),.int .u8 ((((l.getD k 0).toNat:Nat):Int)),.bool (decide ((((l.getD k 0).toNat:Nat):Int)=32)),(y4 16),(y4 17),(y4 18),(val14 0),(val14 1),(val14 2),(val14 3),(val14 4),(val14 5),(val14 6),(val14 7),(val14 8),(val14 9),(val14 10),(y4 30),(y4 31),undef]) mixed (by kernel_rfl) (Nat.le_of_ble_eq_true rfl) (by kernel_rfl) (by kernel_rfl) (by kernel_rfl) (fun _ _=>⟨fun _ _ h=>h.2,⟨fun _ _ h=>h.2,⟨fun _ _ h=>h.2,⟨fun _ _ h=>h.2,⟨fun _ _ h=>h.2,⟨fun _ _ h=>h.2,⟨fun _ _ h=>h.2,⟨fun _ _ h=>h.2,⟨fun _ _ h=>h.2,⟨fun _ _ h=>h.2,trivial⟩⟩⟩⟩⟩⟩⟩⟩⟩⟩) (fun _=>by kernel_rfl) (by kernel_rfl) ?_ ?_) (fun h_ H_=>St.swap (A:=(([]:Pcs)++X1)) (U:=[]) H_.assoc)
   ·
    refine xcq rfl (xew ?_) ?_
    ·
     intro val14 pc15 hQ_ hX_
     obtain ⟨q_,hq0_⟩: ∃ q_:Value→Pcs→Prop,q_=(fun v_ x_=>v_=w_∧x_=[]):=⟨_,rfl⟩
     refine ⟨(zq1 (zq32 [])),[],q_,rfl,rfl,(fun _ _ z_=>by subst hq0_;exact z_),?_⟩
     subst hq0_
     exact xfx mn (fun _ h_ H_=>xax (v:=w_) rfl) ⟨rfl,rfl⟩
    refine xcq rfl (xew ?_) ?_
    ·
     intro val14 pc15 hQ_ hX_
     obtain ⟨q_,hq0_⟩: ∃ q_:Value→Pcs→Prop,q_=(fun v_ x_=>v_=w_∧x_=[]):=⟨_,rfl⟩
     refine ⟨(zq1 (zq32 [])),[],q_,rfl,rfl,(fun _ _ z_=>by subst hq0_;exact z_),?_⟩
     subst hq0_
     exact xfx mn (fun _ h_ H_=>xax (v:=w_) rfl) ⟨rfl,rfl⟩
    refine xcq rfl (xew ?_) ?_
    ·
     intro val14 pc15 hQ_ hX_
     have e1_:val14 1=w_:=(hQ_ 1 rfl).1
     obtain ⟨q_,hq0_⟩: ∃ q_:Value→Pcs→Prop,q_=(fun v_ x_=>v_= .int .i64 ((((splitK l k).length:Nat):Int))∧x_=[]):=⟨_,rfl⟩
     refine ⟨(zq1 (zq32 [])),[],q_,(by rw [e1_]),rfl,(fun _ _ z_=>by subst hq0_;exact z_),?_⟩
     subst hq0_
     exact xfx mn (fun _ h_ H_=>yiw o1 (xgq _) Tryz.underlying33 rfl) ⟨rfl,rfl⟩
    refine xcq rfl (xew ?_) ?_
    ·
     intro val14 pc15 hQ_ hX_
     have e2_:val14 2= .int .i64 ((((splitK l k).length:Nat):Int)):=(hQ_ 2 rfl).1
     obtain ⟨q_,hq0_⟩: ∃ q_:Value→Pcs→Prop,q_=(fun v_ x_=>v_= .int .i64 (((((splitK l k).length)-1:Nat):Int))∧x_=[]):=⟨_,rfl⟩
     refine ⟨(zq1 (zq32 [])),[],q_,(by rw [e2_]),rfl,(fun _ _ z_=>by subst hq0_;exact z_),?_⟩
     subst hq0_
     exact xfx mn (fun _ h_ H_=>xlv rfl rfl (n:=((((splitK l k).length)-1:Nat):Int)) (by rw [show (((splitK l k).length:Nat):Int)-1=((((splitK l k).length)-1:Nat):Int) from by omega];exact wr (by omega))) ⟨rfl,rfl⟩
    refine xcq rfl (xew ?_) ?_
    ·
     intro val14 pc15 hQ_ hX_
     have e0_:val14 0=w_:=(hQ_ 0 rfl).1
     have e3_:val14 3= .int .i64 (((((splitK l k).length)-1:Nat):Int)):=(hQ_ 3 rfl).1
     obtain ⟨q_,hq0_⟩: ∃ q_:Value→Pcs→Prop,q_=(fun v_ x_=>v_= .pointer (some ((adrV w_).add ((((splitK l k).length)-1)*1)))∧x_=[]):=⟨_,rfl⟩
     refine ⟨(zq1 (zq32 [])),[],q_,(by rw [e0_,e3_]),rfl,(fun _ _ z_=>by subst hq0_;exact z_),?_⟩
     subst hq0_
     exact xfx mn (fun _ h_ H_=>xnj o1 Tryz.underlying33 tS9 rfl rfl (by rw [(xgq _)];first | omega | (simp only [List.length_set];omega))) ⟨rfl,rfl⟩
    refine xcq rfl (xew ?_) ?_
    ·
     intro val14 pc15 hQ_ hX_
     have e4_:val14 4= .pointer (some ((adrV w_).add ((((splitK l k).length)-1)*1))):=(hQ_ 4 rfl).1
     obtain ⟨q_,hq0_⟩: ∃ q_:Value→Pcs→Prop,q_=(fun v_ x_=>v_=sv ((splitK l k).getD (((splitK l k).length)-1) [])∧x_=[]):=⟨_,rfl⟩
     refine ⟨(zq1 (zq32 [])),[],q_,(by rw [e4_]),rfl,(fun _ _ z_=>by subst hq0_;exact z_),?_⟩
     subst hq0_
     exact xfx mn (fun _ h_ H_=>ymw (i:=((splitK l k).length)-1) (j:=0) (e:=[sv ((splitK l k).getD (((splitK l k).length)-1) [])]) o1 H_ (fun x_ h_=>by simp [h_]) tA9 rfl rfl (zij (by omega)) (u:=sv ((splitK l k).getD (((splitK l k).length)-1) [])) rfl) ⟨rfl,rfl⟩
    refine xcq rfl (xew ?_) ?_
    ·
     intro val14 pc15 hQ_ hX_
     obtain ⟨q_,hq0_⟩: ∃ q_:Value→Pcs→Prop,q_=(fun v_ x_=>v_=sv l∧x_=[]):=⟨_,rfl⟩
     refine ⟨(zq1 (zq32 [])),[],q_,rfl,rfl,(fun _ _ z_=>by subst hq0_;exact z_),?_⟩
     subst hq0_
     exact xfx mn (fun _ h_ H_=>xax (v:=sv l) rfl) ⟨rfl,rfl⟩
    refine xcq rfl (xew ?_) ?_
    ·
     intro val14 pc15 hQ_ hX_
     obtain ⟨q_,hq0_⟩: ∃ q_:Value→Pcs→Prop,q_=(fun v_ x_=>v_= .int .i64 (((k:Nat):Int))∧x_=[]):=⟨_,rfl⟩
     refine ⟨(zq1 (zq32 [])),[],q_,rfl,rfl,(fun _ _ z_=>by subst hq0_;exact z_),?_⟩
     subst hq0_
     exact xfx mn (fun _ h_ H_=>xax (v:=.int .i64 (((k:Nat):Int))) rfl) ⟨rfl,rfl⟩
    refine xcq rfl (xew ?_) ?_
    ·
     intro val14 pc15 hQ_ hX_
     have e6_:val14 6=sv l:=(hQ_ 6 rfl).1
     have e7_:val14 7= .int .i64 (((k:Nat):Int)):=(hQ_ 7 rfl).1
     obtain ⟨q_,hq0_⟩: ∃ q_:Value→Pcs→Prop,q_=(fun v_ x_=>v_= .int .u8 ((((l.getD k 0).toNat:Nat):Int))∧x_=[]):=⟨_,rfl⟩
     refine ⟨(zq1 (zq32 [])),[],q_,(by rw [e6_,e7_]),rfl,(fun _ _ z_=>by subst hq0_;exact z_),?_⟩
     subst hq0_
     exact xfx mn (fun _ h_ H_=>xiq (l:=l) (i:=k) Tryz.underlying9 rfl rfl (by omega)) ⟨rfl,rfl⟩
    refine xcq rfl (xew ?_) ?_
    ·
     intro val14 pc15 hQ_ hX_
     have e8_:val14 8= .int .u8 ((((l.getD k 0).toNat:Nat):Int)):=(hQ_ 8 rfl).1
     obtain ⟨q_,hq0_⟩: ∃ q_:Value→Pcs→Prop,q_=(fun v_ x_=>OwnS 5 1 v_ [[.int .u8 ((((l.getD k 0).toNat:Nat):Int))]] x_):=⟨_,rfl⟩
     refine ⟨(zq1 (zq32 [])),[],q_,(by rw [e8_]),rfl,(fun _ _ z_=>by subst hq0_;exact z_),?_⟩
     subst hq0_
     exact xsz mn Tryz.underlying47 tS5 tZ5 (Nat.le_of_ble_eq_true rfl) (vs:=[(0,.int .u8 ((((l.getD k 0).toNat:Nat):Int)))]) rfl rfl (es:=[[.int .u8 ((((l.getD k 0).toNat:Nat):Int))]]) rfl rfl rfl fun _ _ o_=>o_
    refine xcq rfl (xew ?_) ?_
    ·
     intro val14 pc15 hQ_ hX_
     have q9_:OwnS 5 1 (val14 9) [[.int .u8 ((((l.getD k 0).toNat:Nat):Int))]] (pc15 9):=hQ_ 9 rfl
     obtain ⟨q_,hq0_⟩: ∃ q_:Value→Pcs→Prop,q_=(fun v_ x_=>v_=sv ([l.getD k 0])∧x_=[]):=⟨_,rfl⟩
     refine ⟨(zq1 (zq32 [])),((pc15 9)++[]),q_,rfl,rfl,(fun _ _ z_=>by subst hq0_;exact z_),?_⟩
     subst hq0_
     exact zvw mn (fun _ h_ H_=>xvj (A:=([]:Pcs)) (q9_.as rfl) (St.one1 H_) Tryz.underlying47 Tryz.underlying9 Tryz.underlying5 rfl) ⟨rfl,rfl⟩
    exact xpk rfl
   intro val14 pc15 hQ_ hX_
   have e0_:val14 0=w_:=(hQ_ 0 (by decide)).1
   have e1_:val14 1=w_:=(hQ_ 1 (by decide)).1
   have e2_:val14 2= .int .i64 ((((splitK l k).length:Nat):Int)):=(hQ_ 2 (by decide)).1
   have e3_:val14 3= .int .i64 (((((splitK l k).length)-1:Nat):Int)):=(hQ_ 3 (by decide)).1
   have e4_:val14 4= .pointer (some ((adrV w_).add ((((splitK l k).length)-1)*1))):=(hQ_ 4 (by decide)).1
   have e5_:val14 5=sv ((splitK l k).getD (((splitK l k).length)-1) []):=(hQ_ 5 (by decide)).1
   have e6_:val14 6=sv l:=(hQ_ 6 (by decide)).1
   have e7_:val14 7= .int .i64 (((k:Nat):Int)):=(hQ_ 7 (by decide)).1
   have e8_:val14 8= .int .u8 ((((l.getD k 0).toNat:Nat):Int)):=(hQ_ 8 (by decide)).1
   have e10_:val14 10=sv ([l.getD k 0]):=(hQ_ 10 (by decide)).1
   clear hQ_ hX_
   refine yok (Φ:=fun h_=>St h [] (fun _=>none) h_ (([]:Pcs)++(X1++([])))) ?_ (fun h_ H_=>(St.swap' (A:=(([]:Pcs)++X1)) H_).assoc')
   refine xfz (tm':=(zq1 (zq32 []))) (by rw [e0_,e1_,e2_,e3_,e4_,e5_,e6_,e7_,e8_,e10_]) ?_
   refine ro (xsq (l:=(splitK l k).getD (((splitK l k).length)-1) []) (m:=[l.getD k 0]) rfl rfl (by first | omega | (simp only [List.length_singleton];omega))) ?_
   refine rt (xnj o1 Tryz.underlying33 tS9 rfl rfl (by rw [(xgq _)];first | omega | (simp only [List.length_set];omega))) (tm':=zq1 (zq32 [])) rfl ?_
   refine xuw (A:=([]:Pcs)) (i:=((splitK l k).length)-1) (j:=0) (e:=[sv ((splitK l k).getD (((splitK l k).length)-1) [])]) (u:=sv (((splitK l k).getD (((splitK l k).length)-1) [])++([l.getD k 0]))) o1 mn tS9 rfl rfl rfl ⟨rfl,rfl⟩ (zij (by omega)) (Nat.succ_le_iff.1 (Nat.le_of_ble_eq_true rfl)) fun X19 o20=>?_
   refine xak <| xex <| xav <| ro (xax (v:=.int .i64 (((k:Nat):Int))) rfl) ?_
   refine ro (xev rfl rfl (n:=((k+1:Nat):Int)) (wr (by omega))) ?_
   refine rt (xaq (v:=.int .i64 (((k+1:Nat):Int))) rfl) (tm':=zq1 (zq4 _)) rfl <| xak ?_
   exact fun h_ H_=>IH5 _ _ (by omega) h_ ⟨k+1,w_,X19,rfl,(y_of rfl),(by omega),(o20.as (by first | exact zhv ‹_› | exact zhw ‹_› _)),H_⟩
 ·
  refine xcv rfl (dff cc6) <| xgk rfl <| fsr <| ro (xax (v:=w_) rfl) <| ro (xaq (v:=w_) rfl) <| xak ?_
  refine xcj Tryz.func24 rfl (vs:=[w_]) (fun h_ H_=>⟨w_,_,rfl,rfl,rfl⟩) (v:=w_) rfl ?_
  have ek_:k=l.length:=by omega
  exact fun h_ H_=>K _ _ ⟨_,_,rfl,o1.as (by rw [ek_]),by simpa using H_.dropA.new⟩
end Go.Proofs.YtphalmjpbnffcaaGreatDoor
namespace Go.Proofs.YtphalmjpbnffcaaGreatDoor
open Go.X Go.X.Kn Go.X.Cent Go.X.Hr Go.Conc
set_option maxRecDepth 10000
set_option synthInstance.maxSize 2000

set_option maxHeartbeats 2000000
theorem c25 (md:Md) (h:Heap) (l:By) (d:Int) (hd:0≤d∧d≤9) (hl:l=[mk d]):CallsX Tryz.prog md 25 #[sv l] h fun v h'=>v= .tuple #[.int .i64 d,.bool true]∧Keep h h':=by
 refine xbv (Φ:=fun h_=>St h [] (fun _=>none) h_ []) Tryz.func25 rfl (tm:=zq1 (zq2 (zq32 (zq32 [])))) rfl ?_ (St.start h _ (fun _ _ e=>by cases e))
 intro c₀ cs Stop K
 have hl1:l.length=1:=by rw [hl];rfl
 have hm:(((l.getD 0 0).toNat:Nat):Int)=48+d:=by rw [hl];exact zax hd
 refine fsr <| ro (xaq (v:=.int .i64 0) rfl) <| ro (xaq (v:=.bool (false)) rfl) <| ren <| xav <| rt (xax (v:=sv l) rfl) (tm':=zq8 _) rfl ?_
 refine ro (xkz (l:=l) Tryz.underlying9 rfl) <| ro (xjx rfl rfl) <| rt (xax (v:=.bool (decide (0<((l.length:Nat):Int)))) rfl) (tm':=zq1 (zq2 (zq8 _))) rfl ?_
 refine xaj (ms rfl rfl (decide_eq_true (by omega))) (fun h_ H_=>xax (v:=sv l) rfl) rfl ?_
 refine xaj (ms rfl rfl (decide_eq_true (by omega))) (fun h_ H_=>xiq (l:=l) (i:=0) Tryz.underlying9 rfl rfl (by omega)) rfl ?_
 refine xaj (ms rfl rfl (decide_eq_true (by omega))) (fun h_ H_=>xmj rfl rfl) (tm':=zq2 (zq4 (zq8 _))) rfl ?_
 refine ro (xbw rfl (decide_eq_true (by omega)) (v:=.bool (decide ((((l.getD 0 0).toNat:Nat):Int)=45))) rfl) ?_
 refine ro (xaq (v:=.bool (decide ((((l.getD 0 0).toNat:Nat):Int)=45))) rfl) <| ren <| fsr <| rt (xax (v:=.bool (decide ((((l.getD 0 0).toNat:Nat):Int)=45))) rfl) (tm':=zq16 _) rfl <| xak ?_
 refine xcv rfl (decide_eq_false (by omega)) ?_
 refine xdz <| xbj <| fsr <| ro (xax (v:=sv l) rfl) <| ro (xkz (l:=l) Tryz.underlying9 rfl) <| rt (xfk rfl rfl) (tm':=zq1 (zq4 (zq16 _))) rfl ?_
 refine ro (xax (v:=.bool (decide (((l.length:Nat):Int)<1))) rfl) ?_
 refine xaj (ms rfl rfl (decide_eq_false (by omega))) (fun h_ H_=>xax (v:=sv l) rfl) rfl ?_
 refine xaj (ms rfl rfl (decide_eq_false (by omega))) (fun h_ H_=>xkz (l:=l) Tryz.underlying9 rfl) (tm':=zq8 (zq16 _)) rfl ?_
 refine xaj (ms rfl rfl (decide_eq_false (by omega))) (fun h_ H_=>xjx rfl rfl) rfl ?_
 refine ro (xdq rfl (decide_eq_false (by omega)) (v:=.bool (decide (6<((l.length:Nat):Int)))) rfl) ?_
 refine rt (xax (v:=.bool (decide (6<((l.length:Nat):Int)))) rfl) (tm':=zq1 (zq2 (zq8 (zq16 _)))) rfl ?_
 refine xaj (ms rfl rfl (decide_eq_false (by omega))) (fun h_ H_=>xax (v:=sv l) rfl) rfl ?_
 refine xaj (ms rfl rfl (decide_eq_false (by omega))) (fun h_ H_=>xiq (l:=l) (i:=0) Tryz.underlying9 rfl rfl (by omega)) rfl ?_
 refine xaj (ms rfl rfl (decide_eq_false (by omega))) (fun h_ H_=>xmj rfl rfl) (tm':=zq2 (zq4 (zq8 (zq16 _)))) rfl ?_
 refine xaj (ms rfl rfl (decide_eq_false (by omega))) (fun h_ H_=>xax (v:=.bool (decide ((((l.getD 0 0).toNat:Nat):Int)=48))) rfl) rfl ?_
 by_cases cc1:(((l.getD 0 0).toNat:Nat):Int)=48
 ·
  refine xaj (ms rfl rfl (dtt cc1)) (fun h_ H_=>xax (v:=sv l) rfl) rfl ?_
  refine xaj (ms rfl rfl (dtt cc1)) (fun h_ H_=>xkz (l:=l) Tryz.underlying9 rfl) (tm':=zq1 (zq32 _)) rfl ?_
  refine xaj (ms rfl rfl (dtt cc1)) (fun h_ H_=>xjx rfl rfl) rfl ?_
  refine xaj (ms rfl rfl (dtt cc1)) (fun h_ H_=>xax (v:=.bool (decide (1<((l.length:Nat):Int)))) rfl) rfl ?_
  refine xaj (ms rfl rfl (decide_eq_false (by omega))) (fun h_ H_=>xax (v:=.bool (decide ((((l.getD 0 0).toNat:Nat):Int)=45))) rfl) (tm':=zq4 (zq32 _)) rfl ?_
  refine xaj (ms rfl rfl (dtt cc1)) (fun h_ H_=>xdq rfl (decide_eq_false (by omega)) (v:=.bool (decide ((((l.getD 0 0).toNat:Nat):Int)=45))) rfl) rfl ?_
  refine xaj (ms rfl rfl (decide_eq_false (by omega))) (fun h_ H_=>xbw rfl (dtt cc1) (v:=.bool (decide ((((l.getD 0 0).toNat:Nat):Int)=45))) rfl) rfl ?_
  refine rt (xdq rfl (decide_eq_false (by omega)) (v:=.bool (decide ((((l.getD 0 0).toNat:Nat):Int)=45))) rfl) (tm':=zq1 (zq2 (zq4 (zq32 _)))) rfl ?_
  refine xak ?_
  refine xcv rfl (decide_eq_false (by omega)) ?_
  refine xdz <| fsr <| ro (xaq (v:=.int .i64 0) rfl) <| ren <| fsr <| ro (xaq (v:=.int .i64 0) rfl) ?_
  refine xak <| xeq ?_
  refine xhk (m₀:=1-0) (fun m_ tm_ h_=>∃ (j:Nat) (n:Int),m_=1-j∧(∃ y2:Nat→Value,tm_=[sv l,undef,(y2 2),(y2 3),.bool (decide ((((l.getD 0 0).toNat:Nat):Int)=45)),.int .i64 (n),.int .i64 (((j:Nat):Int)),sv l,.int .i64 (((l.length:Nat):Int)),.bool (decide (0<((l.length:Nat):Int))),.bool (decide (0<((l.length:Nat):Int))),sv l,.int .u8 ((((l.getD 0 0).toNat:Nat):Int)),.bool (decide ((((l.getD 0 0).toNat:Nat):Int)=45)),.bool (decide ((((l.getD 0 0).toNat:Nat):Int)=45)),.bool (decide ((((l.getD 0 0).toNat:Nat):Int)=45)),undef,undef,sv l,.int .i64 (((l.length:Nat):Int)),.bool (decide (((l.length:Nat):Int)<1)),.bool (decide (((l.length:Nat):Int)<1)),sv l,.int .i64 (((l.length:Nat):Int)),.bool (decide (6<((l.length:Nat):Int))),.bool (decide (6<((l.length:Nat):Int))),.bool (decide (6<((l.length:Nat):Int))),sv l,.int .u8 ((((l.getD 0 0).toNat:Nat):Int)),.bool (decide ((((l.getD 0 0).toNat:Nat):Int)=48)),.bool (decide ((((l.getD 0 0).toNat:Nat):Int)=48)),sv l,.int .i64 (((l.length:Nat):Int)),.bool (decide (1<((l.length:Nat):Int))),.bool (decide (1<((l.length:Nat):Int))),.bool (decide ((((l.getD 0 0).toNat:Nat):Int)=45)),.bool (decide ((((l.getD 0 0).toNat:Nat):Int)=45)),.bool (decide ((((l.getD 0 0).toNat:Nat):Int)=45)),.bool (decide ((((l.getD 0 0).toNat:Nat):Int)=45)),(y2 39),(y2 40),(y2 41),(y2 42),(y2 43),(y2 44),(y2 45),(y2 46),(y2 47),(y2 48),(y2 49),(y2 50),(y2 51),(y2 52),(y2 53),(y2 54),(y2 55),(y2 56),(y2 57),(y2 58),(y2 59),(y2 60),(y2 61),(y2 62),undef,undef,undef,undef])∧(j≤1)∧((j=0→n=0)∧(j=1→n=d))∧St h [] (fun _=>none) h_ ([])) (fun h_ H_=>⟨0,0,rfl,(y_of rfl),Nat.zero_le _,(by omega),H_⟩) ?_
  intro m_ tm_ IH3
  refine xhq fun j=>xhq fun n=>xdj fun hm_=>xdj fun ht_=>xdj fun hj=>xdj fun hn=>?_
  subst hm_;obtain ⟨y2,ht_⟩:=ht_;subst ht_
  have hmj:=fun z_:j<1=>(show (((l.getD j 0).toNat:Nat):Int)=48+d from by rw [show j=0 by omega];exact hm)
  refine xbj <| fsr <| rt (xax (v:=.int .i64 (((j:Nat):Int))) rfl) (tm':=zq8 (zq32 _)) rfl <| ro (xax (v:=sv l) rfl) <| ro (xkz (l:=l) Tryz.underlying9 rfl) <| rt (xfk rfl rfl) (tm':=zq1 (zq2 (zq8 (zq32 _)))) rfl ?_
  refine xak ?_
  by_cases cc4:((j:Nat):Int)<((l.length:Nat):Int)
  ·
   refine xcx rfl (dtt cc4) <| xdz <| xbj <| xeq <| xbj <| fsr ?_
   refine ro (xax (v:=sv l) rfl) <| ro (xax (v:=.int .i64 (((j:Nat):Int))) rfl) ?_
   refine rt (xiq (l:=l) (i:=j) Tryz.underlying9 rfl rfl (by omega)) (tm':=zq1 (zq2 (zq32 (zq32 [])))) rfl ?_
   refine ro (xfk rfl rfl) <| ro (xax (v:=.bool (decide ((((l.getD j 0).toNat:Nat):Int)<48))) rfl) ?_
   refine xaj (ms rfl rfl (decide_eq_false (by omega))) (fun h_ H_=>xax (v:=sv l) rfl) (tm':=zq1 (zq2 (zq32 (zq32 [])))) rfl ?_
   refine xaj (ms rfl rfl (decide_eq_false (by omega))) (fun h_ H_=>xax (v:=.int .i64 (((j:Nat):Int))) rfl) rfl ?_
   refine xaj (ms rfl rfl (decide_eq_false (by omega))) (fun h_ H_=>xiq (l:=l) (i:=j) Tryz.underlying9 rfl rfl (by omega)) rfl ?_
   refine xaj (ms rfl rfl (decide_eq_false (by omega))) (fun h_ H_=>xjx rfl rfl) (tm':=zq1 (zq2 (zq32 (zq32 [])))) rfl ?_
   refine ro (xdq rfl (decide_eq_false (by omega)) (v:=.bool (decide (57<(((l.getD j 0).toNat:Nat):Int)))) rfl) ?_
   refine xak ?_
   refine xcv rfl (decide_eq_false (by omega)) ?_
   refine xdz <| xav <| ro (xax (v:=.int .i64 (n)) rfl) ?_
   refine rt (xwk rfl rfl (wr (by omega))) (tm':=zq1 (zq2 (zq32 (zq32 [])))) rfl ?_
   refine ro (xax (v:=sv l) rfl) <| ro (xax (v:=.int .i64 (((j:Nat):Int))) rfl) ?_
   refine rt (xiq (l:=l) (i:=j) Tryz.underlying9 rfl rfl (by omega)) (tm':=zq1 (zq2 (zq32 (zq32 [])))) rfl ?_
   refine ro (xlv rfl rfl (wr8 (by omega))) ?_
   refine ro (xoz ⟨_,Tryz.underlying5⟩ Tryz.underlying3 rfl (n:=(((l.getD j 0).toNat:Nat):Int)-48) (wr (by omega))) ?_
   refine rt (xev rfl rfl (wr (by omega))) (tm':=zq1 (zq2 (zq32 (zq32 [])))) rfl ?_
   refine ro (xaq (v:=.int .i64 ((10*n)+((((l.getD j 0).toNat:Nat):Int)-48))) rfl) <| xak <| xex <| xav <| ro (xax (v:=.int .i64 (((j:Nat):Int))) rfl) ?_
   refine rt (xev rfl rfl (n:=((j+1:Nat):Int)) (wr (by omega))) (tm':=zq1 (zq2 (zq32 (zq32 [])))) rfl ?_
   refine ro (xaq (v:=.int .i64 (((j+1:Nat):Int))) rfl) <| xak ?_
   exact fun h_ H_=>IH3 _ _ (by omega) h_ ⟨j+1,(10*n)+((((l.getD j 0).toNat:Nat):Int)-48),rfl,(y_of rfl),(by omega),(by omega),H_⟩
  ·
   refine xcv rfl (dff cc4) <| xgk rfl <| xbj <| fsr <| ro (xax (v:=.bool (decide ((((l.getD 0 0).toNat:Nat):Int)=45))) rfl) <| xak ?_
   refine xcv rfl (decide_eq_false (by omega)) ?_
   refine xdz <| fsr <| rt (xax (v:=.int .i64 (n)) rfl) (tm':=zq1 (zq2 (zq32 (zq32 [])))) rfl <| ro (xaq (v:=.int .i64 (n)) rfl) <| ro (xaq (v:=.bool (true)) rfl) <| xak ?_
   refine xcj Tryz.func25 rfl (vs:=[.int .i64 (n),.bool (true)]) (fun h_ H_=>⟨.int .i64 (n),_,rfl,rfl,⟨.bool (true),_,rfl,rfl,rfl⟩⟩) (v:=.tuple #[.int .i64 (n),.bool (true)]) rfl ?_
   have en_:n=d:=by omega
   exact fun h_ H_=>K _ _ ⟨by rw [en_],H_.kept⟩
 ·
  refine xck (mo rfl rfl (dff cc1)) (tm':=zq32 _) rfl <| rp (mo rfl rfl (dff cc1)) <| rp (mo rfl rfl (dff cc1)) <| xck (mo rfl rfl (dff cc1)) (tm':=zq1 (zq2 (zq32 _))) rfl <| rp (zwz rfl rfl) <| rp (mo rfl rfl (dff cc1)) ?_
  refine xaj (ms rfl rfl (decide_eq_false (by omega))) (fun h_ H_=>xdq rfl (dff cc1) (v:=.bool (false)) rfl) (tm':=zq2 (zq4 (zq32 _))) rfl ?_
  refine ro (xdq rfl (decide_eq_false (by omega)) (v:=.bool (false)) rfl) ?_
  refine xak <| xcv rfl rfl <| xdz <| fsr <| ro (xaq (v:=.int .i64 0) rfl) <| ren ?_
  refine fsr <| rt (xaq (v:=.int .i64 0) rfl) (tm':=zq1 (zq2 (zq4 _))) rfl <| xak <| xeq ?_
  refine xhk (m₀:=1-0) (fun m_ tm_ h_=>∃ (j:Nat) (n:Int),m_=1-j∧(∃ y5:Nat→Value,tm_=[sv l,undef,(y5 2),(y5 3),.bool (decide ((((l.getD 0 0).toNat:Nat):Int)=45)),.int .i64 (n),.int .i64 (((j:Nat):Int)),sv l,.int .i64 (((l.length:Nat):Int)),.bool (decide (0<((l.length:Nat):Int))),.bool (decide (0<((l.length:Nat):Int))),sv l,.int .u8 ((((l.getD 0 0).toNat:Nat):Int)),.bool (decide ((((l.getD 0 0).toNat:Nat):Int)=45)),.bool (decide ((((l.getD 0 0).toNat:Nat):Int)=45)),.bool (decide ((((l.getD 0 0).toNat:Nat):Int)=45)),undef,undef,sv l,.int .i64 (((l.length:Nat):Int)),.bool (decide (((l.length:Nat):Int)<1)),.bool (decide (((l.length:Nat):Int)<1)),sv l,.int .i64 (((l.length:Nat):Int)),.bool (decide (6<((l.length:Nat):Int))),.bool (decide (6<((l.length:Nat):Int))),.bool (decide (6<((l.length:Nat):Int))),sv l,.int .u8 ((((l.getD 0 0).toNat:Nat):Int)),.bool (decide ((((l.getD 0 0).toNat:Nat):Int)=48)),.bool (decide ((((l.getD 0 0).toNat:Nat):Int)=48)),undef,undef,undef,undef,undef,undef,.bool (false),.bool (false),(y5 39),(y5 40),(y5 41),(y5 42),(y5 43),(y5 44),(y5 45),(y5 46),(y5 47),(y5 48),(y5 49),(y5 50),(y5 51),(y5 52),(y5 53),(y5 54),(y5 55),(y5 56),(y5 57),(y5 58),(y5 59),(y5 60),(y5 61),(y5 62),undef,undef,undef,undef])∧(j≤1)∧((j=0→n=0)∧(j=1→n=d))∧St h [] (fun _=>none) h_ ([])) (fun h_ H_=>⟨0,0,rfl,(y_of rfl),Nat.zero_le _,(by omega),H_⟩) ?_
  intro m_ tm_ IH6
  refine xhq fun j=>xhq fun n=>xdj fun hm_=>xdj fun ht_=>xdj fun hj=>xdj fun hn=>?_
  subst hm_;obtain ⟨y5,ht_⟩:=ht_;subst ht_
  have hmj:=fun z_:j<1=>(show (((l.getD j 0).toNat:Nat):Int)=48+d from by rw [show j=0 by omega];exact hm)
  refine xbj <| fsr <| ro (xax (v:=.int .i64 (((j:Nat):Int))) rfl) <| ro (xax (v:=sv l) rfl) <| rt (xkz (l:=l) Tryz.underlying9 rfl) (tm':=zq2 (zq8 (zq32 _))) rfl <| ro (xfk rfl rfl) ?_
  refine xak ?_
  by_cases cc7:((j:Nat):Int)<((l.length:Nat):Int)
  ·
   refine xcx rfl (dtt cc7) <| xdz <| xbj <| xeq <| xbj <| fsr ?_
   refine ro (xax (v:=sv l) rfl) <| rt (xax (v:=.int .i64 (((j:Nat):Int))) rfl) (tm':=zq1 (zq2 (zq32 (zq32 [])))) rfl ?_
   refine ro (xiq (l:=l) (i:=j) Tryz.underlying9 rfl rfl (by omega)) ?_
   refine ro (xfk rfl rfl) <| rt (xax (v:=.bool (decide ((((l.getD j 0).toNat:Nat):Int)<48))) rfl) (tm':=zq1 (zq2 (zq32 (zq32 [])))) rfl ?_
   refine xaj (ms rfl rfl (decide_eq_false (by omega))) (fun h_ H_=>xax (v:=sv l) rfl) rfl ?_
   refine xaj (ms rfl rfl (decide_eq_false (by omega))) (fun h_ H_=>xax (v:=.int .i64 (((j:Nat):Int))) rfl) rfl ?_
   refine xaj (ms rfl rfl (decide_eq_false (by omega))) (fun h_ H_=>xiq (l:=l) (i:=j) Tryz.underlying9 rfl rfl (by omega)) (tm':=zq1 (zq2 (zq32 (zq32 [])))) rfl ?_
   refine xaj (ms rfl rfl (decide_eq_false (by omega))) (fun h_ H_=>xjx rfl rfl) rfl ?_
   refine ro (xdq rfl (decide_eq_false (by omega)) (v:=.bool (decide (57<(((l.getD j 0).toNat:Nat):Int)))) rfl) ?_
   refine xak ?_
   refine xcv rfl (decide_eq_false (by omega)) ?_
   refine xdz <| xav <| rt (xax (v:=.int .i64 (n)) rfl) (tm':=zq1 (zq2 (zq32 (zq32 [])))) rfl ?_
   refine ro (xwk rfl rfl (wr (by omega))) ?_
   refine ro (xax (v:=sv l) rfl) <| rt (xax (v:=.int .i64 (((j:Nat):Int))) rfl) (tm':=zq1 (zq2 (zq32 (zq32 [])))) rfl ?_
   refine ro (xiq (l:=l) (i:=j) Tryz.underlying9 rfl rfl (by omega)) ?_
   refine ro (xlv rfl rfl (wr8 (by omega))) ?_
   refine rt (xoz ⟨_,Tryz.underlying5⟩ Tryz.underlying3 rfl (n:=(((l.getD j 0).toNat:Nat):Int)-48) (wr (by omega))) (tm':=zq1 (zq2 (zq32 (zq32 [])))) rfl ?_
   refine ro (xev rfl rfl (wr (by omega))) ?_
   refine ro (xaq (v:=.int .i64 ((10*n)+((((l.getD j 0).toNat:Nat):Int)-48))) rfl) <| xak <| xex <| xav <| rt (xax (v:=.int .i64 (((j:Nat):Int))) rfl) (tm':=zq4 (zq8 (zq32 _))) rfl ?_
   refine ro (xev rfl rfl (n:=((j+1:Nat):Int)) (wr (by omega))) ?_
   refine ro (xaq (v:=.int .i64 (((j+1:Nat):Int))) rfl) <| xak ?_
   exact fun h_ H_=>IH6 _ _ (by omega) h_ ⟨j+1,(10*n)+((((l.getD j 0).toNat:Nat):Int)-48),rfl,(y_of rfl),(by omega),(by omega),H_⟩
  ·
   refine xcv rfl (dff cc7) <| xgk rfl <| xbj <| fsr <| rt (xax (v:=.bool (decide ((((l.getD 0 0).toNat:Nat):Int)=45))) rfl) (tm':=zq1 (zq2 (zq32 (zq32 [])))) rfl <| xak ?_
   refine xcv rfl (decide_eq_false (by omega)) ?_
   refine xdz <| fsr <| ro (xax (v:=.int .i64 (n)) rfl) <| ro (xaq (v:=.int .i64 (n)) rfl) <| rt (xaq (v:=.bool (true)) rfl) (tm':=zq4 _) rfl <| xak ?_
   refine xcj Tryz.func25 rfl (vs:=[.int .i64 (n),.bool (true)]) (fun h_ H_=>⟨.int .i64 (n),_,rfl,rfl,⟨.bool (true),_,rfl,rfl,rfl⟩⟩) (v:=.tuple #[.int .i64 (n),.bool (true)]) rfl ?_
   have en_:n=d:=by omega
   exact fun h_ H_=>K _ _ ⟨by rw [en_],H_.kept⟩
end Go.Proofs.YtphalmjpbnffcaaGreatDoor
