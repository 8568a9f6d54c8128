/-
  Part of proofs about buckets brought from wells to houses: a lone run, and what it computes. No condition.
-/
import Derived.Test.YtalfgojocdonhaaDoorD2
import Derived.Test.YtalfgojocdonhaaDoorD5
import Derived.Test.YtalfgojocdonhaaDoorD1
import Derived.Test.YtalfgojocdonhaaDoorD3
import Derived.Conc.LeavingOf
import Derived.Carry
import Derived.Deep.Slices
import Derived.Lib.SmallJoins
import Derived.Calls
import Derived.Test.YtalfgojocdonhaaDoorRows
import Derived.Lay
import Derived.Lib.LaidTab
import Derived.LaidSub
import Derived.MakeChecks
import Derived.JoinedOf
import Derived.Handed
import Derived.ChangeMaps5
import Derived.ProofKit
namespace Go.Proofs.YtalfgojocdonhaaDoor
open Go.X Go.X.Flow Go.Conc
set_option maxRecDepth 10000
set_option synthInstance.maxSize 2000

set_option maxHeartbeats 2000000
theorem c17 (md:Md) (h:Heap) (p:PHeap) (hp:Per p h) (a1 a2 a3:Option Addr) (c1 c2 c3:Nat) (t:Tn) (T:TownP p a1 t.nH a2 t.nW a3 t.m t) (hn:t.nH≤40∧t.nW≤40∧t.m≤41):CallsX Tryd.prog md 17 #[.agg #[.slice a1 t.nH c1,.slice a2 t.nW c2,.slice a3 t.m c3]] h fun v h'=>∃ w1 w2 w3 X1 X2 X3,v= .agg #[w1,w2,w3]∧OwnS 3 1 w1 (ics t.hs) X1∧OwnS 3 1 w2 (ics t.ws) X2∧OwnS 43 2 w3 (wcs t.wy) X3∧New h h' (X3++(X1++(X2++[]))):=by
 refine xcw (Φ:=fun h_=>St h [] p h_ []) Tryd.func17 rfl (tm:=zq16 []) rfl ?_ (St.start h _ hp)
 intro c₀ cs Stop K
 have eH:=T.nH
 have eW:=T.nW
 have eM:=T.m
 refine fsr ?_
 refine xiw mn (v:=.agg #[.slice a1 t.nH c1,.slice a2 t.nW c2,.slice a3 t.m c3]) rfl fun b1=>xcj (L':=[(b1,.cells #[.slice a1 t.nH c1,.slice a2 t.nW c2,.slice a3 t.m c3] 25 (0,0))]) rfl ?_
 refine xkz mn tZ25 rfl fun b2=>xcj (L':=[(b2,.cells #[.slice none 0 0,.slice none 0 0,.slice none 0 0] 25 (0,0)),(b1,.cells #[.slice a1 t.nH c1,.slice a2 t.nW c2,.slice a3 t.m c3] 25 (0,0))]) rfl ?_
 refine ren ?_
 refine ybx (xnq (C:=[]) (A:=([(b2,.cells #[.slice none 0 0,.slice none 0 0,.slice none 0 0] 25 (0,0)),(b1,.cells #[.slice a1 t.nH c1,.slice a2 t.nW c2,.slice a3 t.m c3] 25 (0,0))]:Pcs)) 11 [[],[],[1],[0,1,2],[],[],[5],[0,1,2,3,4,5,6],[],[],[9],[0,1,2,4,5,6,8,9,10],[],[]] [] [3,7,8] [1,2,5,6,9,10] (fun _=>[]) (fun i_=>match i_ with | 3=>[0] | 7=>[4] | _=>[]) (fun i_=>match i_ with | 0=>[] | 1=>[] | 2=>[1] | 3=>[0,2] | 4=>[] | 5=>[] | 6=>[5] | 7=>[3,4,6] | 8=>[] | 9=>[] | 10=>[9] | _=>[]) (fun i_ val_ pc_ v_ x_=>match i_ with | 0=>OwnS 3 1 v_ [] x_ | 1=>v_= .pointer (some ⟨b1,0,none⟩)∧x_=[] | 2=>v_= .slice a1 t.nH c1∧x_=[] | 3=>OwnS 3 1 v_ ([]++(t.hs.map fun x=>[Value.int .i64 x])) x_ | 4=>OwnS 3 1 v_ [] x_ | 5=>v_= .pointer (some ⟨b1,1,none⟩)∧x_=[] | 6=>v_= .slice a2 t.nW c2∧x_=[] | 7=>OwnS 3 1 v_ ([]++(t.ws.map fun x=>[Value.int .i64 x])) x_ | 8=>OwnS 43 2 v_ [] x_ | 9=>v_= .pointer (some ⟨b1,2,none⟩)∧x_=[] | 10=>v_= .slice a3 t.m c3∧x_=[] | _=>True) (fun val3=>[.agg #[.slice a1 t.nH c1,.slice a2 t.nW c2,.slice a3 t.m c3],.pointer (some ⟨b1,0,none⟩),.pointer (some ⟨b2,0,none⟩),(val3 0),(val3 1),(val3 2),(val3 3),(val3 4),(val3 5),(val3 6),(val3 7),(val3 8),(val3 9),(val3 10),undef,undef]) xlq (by kernel_rfl) (Nat.le_of_ble_eq_true rfl) (by kernel_rfl) (by kernel_rfl) (by kernel_rfl) (fun _ _=>⟨fun _ _ h=>h.2,⟨fun _ _ h=>h.2,⟨fun _ _ h=>h.2,⟨fun _ _ h=>h.2,⟨fun _ _ h=>h.2,⟨fun _ _ h=>h.2,trivial⟩⟩⟩⟩⟩⟩) (fun _=>by kernel_rfl) (by kernel_rfl) ?_ ?_) (fun h_ H_=>St.swap (A:=([(b2,.cells #[.slice none 0 0,.slice none 0 0,.slice none 0 0] 25 (0,0)),(b1,.cells #[.slice a1 t.nH c1,.slice a2 t.nW c2,.slice a3 t.m c3] 25 (0,0))]:Pcs)) (U:=[]) H_)
 ·
  refine xbx rfl (xez ?_) ?_
  ·
   intro val3 pc4 hQ_ hX_
   obtain ⟨q_,hq0_⟩: ∃ q_:Value→Pcs→Prop,q_=(fun v_ x_=>OwnS 3 1 v_ [] x_):=⟨_,rfl⟩
   refine ⟨(zq16 []),[],q_,rfl,rfl,(fun _ _ z_=>by subst hq0_;exact z_),?_⟩
   subst hq0_
   exact xoz mn Tryd.underlying22 tS3 tZ3 (Nat.le_of_ble_eq_true rfl) (vs:=[]) rfl rfl (es:=[]) rfl rfl rfl fun _ _ o_=>o_
  refine xbx rfl (xez ?_) ?_
  ·
   intro val3 pc4 hQ_ hX_
   obtain ⟨q_,hq0_⟩: ∃ q_:Value→Pcs→Prop,q_=(fun v_ x_=>v_= .pointer (some ⟨b1,0,none⟩)∧x_=[]):=⟨_,rfl⟩
   refine ⟨(zq16 []),[],q_,rfl,rfl,(fun _ _ z_=>by subst hq0_;exact z_),?_⟩
   subst hq0_
   exact xdw mn (fun _ h_ H_=>xaz xmz rfl (a':=⟨b1,0,none⟩) rfl) ⟨rfl,rfl⟩
  refine xbx rfl (xez ?_) ?_
  ·
   intro val3 pc4 hQ_ hX_
   have e1_:val3 1= .pointer (some ⟨b1,0,none⟩):=(hQ_ 1 rfl).1
   obtain ⟨q_,hq0_⟩: ∃ q_:Value→Pcs→Prop,q_=(fun v_ x_=>v_= .slice a1 t.nH c1∧x_=[]):=⟨_,rfl⟩
   refine ⟨(zq16 []),[],q_,(by rw [e1_]),rfl,(fun _ _ z_=>by subst hq0_;exact z_),?_⟩
   subst hq0_
   exact xdw mn (fun _ h_ H_=>xaj H_ tA22 rfl (i:=1) rfl (v:=.slice a1 t.nH c1) rfl) ⟨rfl,rfl⟩
  refine xbx rfl (xez ?_) ?_
  ·
   intro val3 pc4 hQ_ hX_
   have q0_:OwnS 3 1 (val3 0) [] (pc4 0):=hQ_ 0 rfl
   have e2_:val3 2= .slice a1 t.nH c1:=(hQ_ 2 rfl).1
   obtain ⟨q_,hq0_⟩: ∃ q_:Value→Pcs→Prop,q_=(fun v_ x_=>OwnS 3 1 v_ ([]++(t.hs.map fun x=>[Value.int .i64 x])) x_):=⟨_,rfl⟩
   refine ⟨(zq16 []),((pc4 0)++[]),q_,(by rw [e2_]),rfl,(fun _ _ z_=>by subst hq0_;exact z_),?_⟩
   subst hq0_
   exact xuw mn Tryd.underlying22 tS3 tZ3 rfl tB3 Tryd.underlying22 rfl rfl q0_ T.h (xsv _) (by simp only [List.length_nil];omega) (by decide) (by decide) fun _ _ o_=>o_
  refine xbx rfl (xez ?_) ?_
  ·
   intro val3 pc4 hQ_ hX_
   obtain ⟨q_,hq0_⟩: ∃ q_:Value→Pcs→Prop,q_=(fun v_ x_=>OwnS 3 1 v_ [] x_):=⟨_,rfl⟩
   refine ⟨(zq16 []),[],q_,rfl,rfl,(fun _ _ z_=>by subst hq0_;exact z_),?_⟩
   subst hq0_
   exact xoz mn Tryd.underlying22 tS3 tZ3 (Nat.le_of_ble_eq_true rfl) (vs:=[]) rfl rfl (es:=[]) rfl rfl rfl fun _ _ o_=>o_
  refine xbx rfl (xez ?_) ?_
  ·
   intro val3 pc4 hQ_ hX_
   obtain ⟨q_,hq0_⟩: ∃ q_:Value→Pcs→Prop,q_=(fun v_ x_=>v_= .pointer (some ⟨b1,1,none⟩)∧x_=[]):=⟨_,rfl⟩
   refine ⟨(zq16 []),[],q_,rfl,rfl,(fun _ _ z_=>by subst hq0_;exact z_),?_⟩
   subst hq0_
   exact xdw mn (fun _ h_ H_=>xaz xnj rfl (a':=⟨b1,1,none⟩) rfl) ⟨rfl,rfl⟩
  refine xbx rfl (xez ?_) ?_
  ·
   intro val3 pc4 hQ_ hX_
   have e5_:val3 5= .pointer (some ⟨b1,1,none⟩):=(hQ_ 5 rfl).1
   obtain ⟨q_,hq0_⟩: ∃ q_:Value→Pcs→Prop,q_=(fun v_ x_=>v_= .slice a2 t.nW c2∧x_=[]):=⟨_,rfl⟩
   refine ⟨(zq16 []),[],q_,(by rw [e5_]),rfl,(fun _ _ z_=>by subst hq0_;exact z_),?_⟩
   subst hq0_
   exact xdw mn (fun _ h_ H_=>xaj H_ tA22 rfl (i:=1) rfl (v:=.slice a2 t.nW c2) rfl) ⟨rfl,rfl⟩
  refine xbx rfl (xez ?_) ?_
  ·
   intro val3 pc4 hQ_ hX_
   have q3_:OwnS 3 1 (val3 3) ([]++(t.hs.map fun x=>[Value.int .i64 x])) (pc4 3):=hQ_ 3 rfl
   have q4_:OwnS 3 1 (val3 4) [] (pc4 4):=hQ_ 4 rfl
   have e6_:val3 6= .slice a2 t.nW c2:=(hQ_ 6 rfl).1
   obtain ⟨q_,hq0_⟩: ∃ q_:Value→Pcs→Prop,q_=(fun v_ x_=>OwnS 3 1 v_ ([]++(t.ws.map fun x=>[Value.int .i64 x])) x_):=⟨_,rfl⟩
   refine ⟨(zq16 []),((pc4 4)++[]),q_,(by rw [e6_]),rfl,(fun _ _ z_=>by subst hq0_;exact z_),?_⟩
   subst hq0_
   exact xuw mn Tryd.underlying22 tS3 tZ3 rfl tB3 Tryd.underlying22 rfl rfl q4_ T.w (xsv _) (by simp only [List.length_nil];omega) (by decide) (by decide) fun _ _ o_=>o_
  refine xbx rfl (xez ?_) ?_
  ·
   intro val3 pc4 hQ_ hX_
   obtain ⟨q_,hq0_⟩: ∃ q_:Value→Pcs→Prop,q_=(fun v_ x_=>OwnS 43 2 v_ [] x_):=⟨_,rfl⟩
   refine ⟨(zq16 []),[],q_,rfl,rfl,(fun _ _ z_=>by subst hq0_;exact z_),?_⟩
   subst hq0_
   exact xoz mn Tryd.underlying23 tS43 tZ43 (Nat.le_of_ble_eq_true rfl) (vs:=[]) rfl rfl (es:=[]) rfl rfl rfl fun _ _ o_=>o_
  refine xbx rfl (xez ?_) ?_
  ·
   intro val3 pc4 hQ_ hX_
   obtain ⟨q_,hq0_⟩: ∃ q_:Value→Pcs→Prop,q_=(fun v_ x_=>v_= .pointer (some ⟨b1,2,none⟩)∧x_=[]):=⟨_,rfl⟩
   refine ⟨(zq16 []),[],q_,rfl,rfl,(fun _ _ z_=>by subst hq0_;exact z_),?_⟩
   subst hq0_
   exact xdw mn (fun _ h_ H_=>xaz xhv rfl (a':=⟨b1,2,none⟩) rfl) ⟨rfl,rfl⟩
  refine xbx rfl (xez ?_) ?_
  ·
   intro val3 pc4 hQ_ hX_
   have e9_:val3 9= .pointer (some ⟨b1,2,none⟩):=(hQ_ 9 rfl).1
   obtain ⟨q_,hq0_⟩: ∃ q_:Value→Pcs→Prop,q_=(fun v_ x_=>v_= .slice a3 t.m c3∧x_=[]):=⟨_,rfl⟩
   refine ⟨(zq16 []),[],q_,(by rw [e9_]),rfl,(fun _ _ z_=>by subst hq0_;exact z_),?_⟩
   subst hq0_
   exact xdw mn (fun _ h_ H_=>xaj H_ tA23 rfl (i:=1) rfl (v:=.slice a3 t.m c3) rfl) ⟨rfl,rfl⟩
  exact xmw rfl
 intro val3 pc4 hQ_ hX_
 have e1_:val3 1= .pointer (some ⟨b1,0,none⟩):=(hQ_ 1 (by decide)).1
 have e2_:val3 2= .slice a1 t.nH c1:=(hQ_ 2 (by decide)).1
 have q3_:OwnS 3 1 (val3 3) ([]++(t.hs.map fun x=>[Value.int .i64 x])) (pc4 3):=hQ_ 3 (by decide)
 have e5_:val3 5= .pointer (some ⟨b1,1,none⟩):=(hQ_ 5 (by decide)).1
 have e6_:val3 6= .slice a2 t.nW c2:=(hQ_ 6 (by decide)).1
 have q7_:OwnS 3 1 (val3 7) ([]++(t.ws.map fun x=>[Value.int .i64 x])) (pc4 7):=hQ_ 7 (by decide)
 have q8_:OwnS 43 2 (val3 8) [] (pc4 8):=hQ_ 8 (by decide)
 have e9_:val3 9= .pointer (some ⟨b1,2,none⟩):=(hQ_ 9 (by decide)).1
 have e10_:val3 10= .slice a3 t.m c3:=(hQ_ 10 (by decide)).1
 clear hQ_ hX_
 refine yax (Φ:=fun h_=>St h [] p h_ (([(b2,.cells #[.slice none 0 0,.slice none 0 0,.slice none 0 0] 25 (0,0)),(b1,.cells #[.slice a1 t.nH c1,.slice a2 t.nW c2,.slice a3 t.m c3] 25 (0,0))]:Pcs)++(pc4 3++(pc4 7++(pc4 8++[]))))) ?_ (fun h_ H_=>H_.swap')
 refine xgx (tm':=(zq16 [])) (by rw [e1_,e2_,e5_,e6_,e9_,e10_]) ?_
 have o8:=q3_
 have o10:=q7_
 have o11:=q8_
 refine xlw (List.Perm.append_left _ (List.Perm.append_left _ (List.perm_append_comm_assoc _ _ _))) ?_
 refine xlw (List.Perm.append_left _ (List.perm_append_comm_assoc _ _ _)) ?_
 refine xcj (L':=([(b2,.cells #[.slice none 0 0,.slice none 0 0,.slice none 0 0] 25 (0,0)),(b1,.cells #[.slice a1 t.nH c1,.slice a2 t.nW c2,.slice a3 t.m c3] 25 (0,0))]:Pcs)++((pc4 8)++((pc4 3)++((pc4 7)++[])))) rfl ?_
 refine yaz ([(b2,.cells #[.slice none 0 0,.slice none 0 0,.slice none 0 0] 25 (0,0)),(b1,.cells #[.slice a1 t.nH c1,.slice a2 t.nW c2,.slice a3 t.m c3] 25 (0,0))]:Pcs) (pc4 8) mn Tryd.underlying23 tS43 tZ43 rfl tB43 Tryd.underlying23 rfl rfl o11 T.y (vev _) (by simp only [List.length_nil];omega) (by decide) (by decide) fun v12 X13 o14=>?_
 refine xgx (tm':=zq16 []) rfl ?_
 generalize val3 3=w15 at*
 obtain ⟨a16,c17,ev_,_⟩:=o8.val;have ev_:w15= .slice a16 ((([]++(t.hs.map fun x=>[Value.int .i64 x])):List (List Value)).length) c17:=ev_;subst ev_
 generalize val3 7=w18 at*
 obtain ⟨a19,c20,ev_,_⟩:=o10.val;have ev_:w18= .slice a19 ((([]++(t.ws.map fun x=>[Value.int .i64 x])):List (List Value)).length) c20:=ev_;subst ev_
 obtain ⟨a21,c22,ev_,_⟩:=o14.val;have ev_:v12= .slice a21 t.m c22:=ev_.trans (congrArg (fun q_=>Value.slice a21 q_ c22) (by have h_:=T.y.len;simpa using h_));subst ev_
 refine ro (xjv tZ25 tP25 (vs:=[(0,(.slice a16 ((([]++(t.hs.map fun x=>[Value.int .i64 x])):List (List Value)).length) c17)),(1,(.slice a19 ((([]++(t.ws.map fun x=>[Value.int .i64 x])):List (List Value)).length) c20)),(2,(.slice a21 t.m c22))]) rfl (cells:=#[(.slice a16 ((([]++(t.hs.map fun x=>[Value.int .i64 x])):List (List Value)).length) c17),(.slice a19 ((([]++(t.ws.map fun x=>[Value.int .i64 x])):List (List Value)).length) c20),(.slice a21 t.m c22)]) rfl) ?_
 refine xjk mn tS25 rfl (v:=.agg #[(.slice a16 ((([]++(t.hs.map fun x=>[Value.int .i64 x])):List (List Value)).length) c17),(.slice a19 ((([]++(t.ws.map fun x=>[Value.int .i64 x])):List (List Value)).length) c20),(.slice a21 t.m c22)]) rfl (i:=0) rfl rfl (xfj o8.one.2 (xfj o10.one.2 (xfj o14.one.2 rfl))) (Nat.le_of_ble_eq_true rfl) (cs2:=[(.slice a16 ((([]++(t.hs.map fun x=>[Value.int .i64 x])):List (List Value)).length) c17),(.slice a19 ((([]++(t.ws.map fun x=>[Value.int .i64 x])):List (List Value)).length) c20),(.slice a21 t.m c22)]) rfl (xcj (L':=([(b2,.cells #[(.slice a16 ((([]++(t.hs.map fun x=>[Value.int .i64 x])):List (List Value)).length) c17),(.slice a19 ((([]++(t.ws.map fun x=>[Value.int .i64 x])):List (List Value)).length) c20),(.slice a21 t.m c22)] 25 (0,0)),(b1,.cells #[.slice a1 t.nH c1,.slice a2 t.nW c2,.slice a3 t.m c3] 25 (0,0))]:Pcs)++(X13++((pc4 3)++((pc4 7)++[])))) rfl ?_)
 refine xak ?_
 refine xew Tryd.func17 rfl (vs:=[.agg #[(.slice a16 ((([]++(t.hs.map fun x=>[Value.int .i64 x])):List (List Value)).length) c17),(.slice a19 ((([]++(t.ws.map fun x=>[Value.int .i64 x])):List (List Value)).length) c20),(.slice a21 t.m c22)]]) (fun h_ H_=>⟨.agg #[(.slice a16 ((([]++(t.hs.map fun x=>[Value.int .i64 x])):List (List Value)).length) c17),(.slice a19 ((([]++(t.ws.map fun x=>[Value.int .i64 x])):List (List Value)).length) c20),(.slice a21 t.m c22)],_,rfl,(xbk (xbw (xox tA25 tS25 (vs:=[(.slice a16 ((([]++(t.hs.map fun x=>[Value.int .i64 x])):List (List Value)).length) c17),(.slice a19 ((([]++(t.ws.map fun x=>[Value.int .i64 x])):List (List Value)).length) c20),(.slice a21 t.m c22)]) rfl (fun j_ v_ e_=>by rw [xoq];exact H_.ocell (i:=0) rfl (by simpa using e_)) ⟨rfl,rfl⟩))),rfl⟩) (v:=.agg #[(.slice a16 ((([]++(t.hs.map fun x=>[Value.int .i64 x])):List (List Value)).length) c17),(.slice a19 ((([]++(t.ws.map fun x=>[Value.int .i64 x])):List (List Value)).length) c20),(.slice a21 t.m c22)]) rfl ?_
 exact fun h_ H_=>K _ _ ⟨_,_,_,_,_,_,rfl,o8,o10,o14,by simpa using (H_.dropA).new⟩
theorem c22 (md:Md) (h:Heap) (p:PHeap) (hp:Per p h) (a1 a2 a3:Option Addr) (c1 c2 c3:Nat) (t:Tn) (T:TownP p a1 t.nH a2 t.nW a3 t.m t) (hn:t.nH≤40∧t.nW≤40∧t.m≤41)(a1' a2' a3':Option Addr) (c1' c2' c3':Nat) (u:Tn) (U:TownP p a1' u.nH a2' u.nW a3' u.m u) (hn':u.nH≤40∧u.nW≤40∧u.m≤41):CallsX Tryd.prog md 22 #[.agg #[.slice a1 t.nH c1,.slice a2 t.nW c2,.slice a3 t.m c3],.agg #[.slice a1' u.nH c1',.slice a2' u.nW c2',.slice a3' u.m c3']] h fun v h'=>v= .bool (decide (sameT t u))∧Keep h h':=by
 refine xcw (Φ:=fun h_=>St h [] p h_ []) Tryd.func22 rfl (tm:=zq1 (zq2 (zq4 (zq8 (zq32 []))))) rfl ?_ (St.start h _ hp)
 intro c₀ cs Stop K
 refine fsr ?_
 refine xiw mn (v:=.agg #[.slice a1 t.nH c1,.slice a2 t.nW c2,.slice a3 t.m c3]) rfl fun b1=>xcj (L':=[(b1,.cells #[.slice a1 t.nH c1,.slice a2 t.nW c2,.slice a3 t.m c3] 25 (0,0))]) rfl ?_
 refine xiw mn (v:=.agg #[.slice a1' u.nH c1',.slice a2' u.nW c2',.slice a3' u.m c3']) rfl fun b2=>xcj (L':=[(b2,.cells #[.slice a1' u.nH c1',.slice a2' u.nW c2',.slice a3' u.m c3'] 25 (0,0)),(b1,.cells #[.slice a1 t.nH c1,.slice a2 t.nW c2,.slice a3 t.m c3] 25 (0,0))]) rfl ?_
 refine xgx (tm':=zq4 _) rfl ?_
 refine ro (xax (v:=.bool (false)) rfl) <| ren <| fsr <| ro (xaz xmz rfl (a':=⟨b1,0,none⟩) rfl) ?_
 refine xaw mn (fun h_ H_=>xaj H_ tA22 rfl (i:=1) rfl (v:=.slice a1 t.nH c1) rfl) (tm':=zq8 _) rfl ?_
 refine ro (xaz xmz rfl (a':=⟨b2,0,none⟩) rfl) <| rd (fun h_ H_=>xaj H_ tA22 rfl (i:=0) rfl (v:=.slice a1' u.nH c1') rfl) ?_
 refine xcx mn (first:=[]) (cap:=[]) rfl rfl fC27 (fun h_ H_=>c27 md _ _ H_.pe _ _ _ _ _ _ _ _ T.h U.h (by omega)) (tm':=zq1 (zq2 (zq8 _))) rfl ?_
 refine ro (xgz rfl) <| ro (xaq (v:=.bool (!(decide (t.hs=u.hs)))) rfl) ?_
 by_cases cc3:t.hs=u.hs
 ·
  refine xaw (ms rfl rfl (xev (dtt cc3))) (fun h_ H_=>xaz xnj rfl (a':=⟨b1,1,none⟩) rfl) (tm':=zq2 (zq4 (zq8 _))) rfl ?_
  refine xaw (ms rfl rfl (xev (dtt cc3))) (fun h_ H_=>xaj H_ tA22 rfl (i:=1) rfl (v:=.slice a2 t.nW c2) rfl) rfl ?_
  refine xaw (ms rfl rfl (xev (dtt cc3))) (fun h_ H_=>xaz xnj rfl (a':=⟨b2,1,none⟩) rfl) rfl ?_
  refine xaw (ms rfl rfl (xev (dtt cc3))) (fun h_ H_=>xaj H_ tA22 rfl (i:=0) rfl (v:=.slice a2' u.nW c2') rfl) (tm':=zq1 (zq16 _)) rfl ?_
  refine xcx (ms rfl rfl (xev (dtt cc3))) (first:=[]) (cap:=[]) rfl rfl fC27 (fun h_ H_=>c27 md _ _ H_.pe _ _ _ _ _ _ _ _ T.w U.w (by omega)) rfl ?_
  refine xaw (ms rfl rfl (xev (dtt cc3))) (fun h_ H_=>xgz rfl) rfl ?_
  refine rt (xcq rfl (xev (dtt cc3)) (v:=.bool (!(decide (t.ws=u.ws)))) rfl) (tm':=zq4 (zq16 _)) rfl <| ro (xaq (v:=.bool (!(decide (t.ws=u.ws)))) rfl) ?_
  by_cases cc4:t.ws=u.ws
  ·
   refine xaw (ms rfl rfl (xev (dtt cc4))) (fun h_ H_=>xaz xhv rfl (a':=⟨b1,2,none⟩) rfl) rfl ?_
   refine xaw (ms rfl rfl (xev (dtt cc4))) (fun h_ H_=>xaj H_ tA23 rfl (i:=1) rfl (v:=.slice a3 t.m c3) rfl) (tm':=zq1 (zq2 (zq4 (zq16 _)))) rfl ?_
   refine xaw (ms rfl rfl (xev (dtt cc4))) (fun h_ H_=>xfk Tryd.underlying23 rfl) rfl ?_
   refine xaw (ms rfl rfl (xev (dtt cc4))) (fun h_ H_=>xaz xhv rfl (a':=⟨b2,2,none⟩) rfl) rfl ?_
   refine xaw (ms rfl rfl (xev (dtt cc4))) (fun h_ H_=>xaj H_ tA23 rfl (i:=0) rfl (v:=.slice a3' u.m c3') rfl) (tm':=zq2 (zq8 (zq16 _))) rfl ?_
   refine xaw (ms rfl rfl (xev (dtt cc4))) (fun h_ H_=>xfk Tryd.underlying23 rfl) rfl ?_
   refine xaw (ms rfl rfl (xev (dtt cc4))) (fun h_ H_=>xhw rfl rfl) rfl ?_
   refine rt (xcq rfl (xev (dtt cc4)) (v:=.bool (decide (((t.m:Nat):Int)≠((u.m:Nat):Int)))) rfl) (tm':=zq1 (zq4 (zq8 (zq16 _)))) rfl <| xak ?_
   by_cases cc5:((t.m:Nat):Int)≠((u.m:Nat):Int)
   ·
    refine xdk rfl (dtt cc5) <| fsr <| ro (xax (v:=.bool (false)) rfl) <| xak ?_
    refine xew Tryd.func22 rfl (vs:=[.bool (false)]) (fun h_ H_=>⟨.bool (false),_,rfl,rfl,rfl⟩) (v:=.bool (false)) rfl ?_
    exact fun h_ H_=>K _ _ ⟨by first | (rw [decide_eq_true (p:=sameT t u) (xwk ‹_› ‹_› (by omega) (fun i hi=>hs i (by omega)))]) | (rw [decide_eq_false (p:=sameT t u) (fun z_=>absurd z_.1 ‹_›)]) | (rw [decide_eq_false (p:=sameT t u) (fun z_=>absurd z_.2.1 ‹_›)]) | (rw [decide_eq_false (p:=sameT t u) (fun z_=>by have z2_:=congrArg List.length z_.2.2;unfold Tn.m at *;omega)]) | (rw [decide_eq_false (p:=sameT t u) (ybq (k:=k) ‹_›)]),H_.kept⟩
   ·
    refine xcv rfl (dff cc5) <| xdq <| xej <| fsr <| ro (xax (v:=.int .i64 0) rfl) <| xak ?_
    refine xek ?_
    refine xiv (m₀:=t.m-0) (fun m_ tm_ h_=>∃ (k:Nat),m_=t.m-k∧(∃ y6:Nat→Value,tm_=[.agg #[.slice a1 t.nH c1,.slice a2 t.nW c2,.slice a3 t.m c3],.agg #[.slice a1' u.nH c1',.slice a2' u.nW c2',.slice a3' u.m c3'],.pointer (some ⟨b1,0,none⟩),.pointer (some ⟨b2,0,none⟩),(y6 4),.int .i64 (((k:Nat):Int)),.pointer (some ⟨b1,0,none⟩),.slice a1 t.nH c1,.pointer (some ⟨b2,0,none⟩),.slice a1' u.nH c1',.bool (decide (t.hs=u.hs)),.bool (!(decide (t.hs=u.hs))),.bool (!(decide (t.hs=u.hs))),.pointer (some ⟨b1,1,none⟩),.slice a2 t.nW c2,.pointer (some ⟨b2,1,none⟩),.slice a2' u.nW c2',.bool (decide (t.ws=u.ws)),.bool (!(decide (t.ws=u.ws))),.bool (!(decide (t.ws=u.ws))),.bool (!(decide (t.ws=u.ws))),.pointer (some ⟨b1,2,none⟩),.slice a3 t.m c3,.int .i64 (((t.m:Nat):Int)),.pointer (some ⟨b2,2,none⟩),.slice a3' u.m c3',.int .i64 (((u.m:Nat):Int)),.bool (decide (((t.m:Nat):Int)≠((u.m:Nat):Int))),.bool (decide (((t.m:Nat):Int)≠((u.m:Nat):Int))),(y6 29),(y6 30),(y6 31),(y6 32),(y6 33),(y6 34),(y6 35),(y6 36),(y6 37),(y6 38),(y6 39),(y6 40),(y6 41),(y6 42),(y6 43),(y6 44),(y6 45),(y6 46)])∧(k≤t.m)∧(∀ i,i<k→t.wy.getD i wz=u.wy.getD i wz)∧St h [] p h_ ([(b2,.cells #[.slice a1' u.nH c1',.slice a2' u.nW c2',.slice a3' u.m c3'] 25 (0,0)),(b1,.cells #[.slice a1 t.nH c1,.slice a2 t.nW c2,.slice a3 t.m c3] 25 (0,0))])) (fun h_ H_=>⟨0,rfl,(y_of rfl),Nat.zero_le _,(fun i hi=>absurd hi (Nat.not_lt_zero i)),H_⟩) ?_
    intro m_ tm_ IH7
    refine xij fun k=>xdz fun hm_=>xdz fun ht_=>xdz fun hk=>xdz fun hs=>?_
    subst hm_;obtain ⟨y6,ht_⟩:=ht_;subst ht_
    refine xej <| fsr <| rt (xaq (v:=.int .i64 (((k:Nat):Int))) rfl) (tm':=zq2 (zq4 (zq8 (zq16 _)))) rfl <| ro (xaz xhv rfl (a':=⟨b1,2,none⟩) rfl) <| rd (fun h_ H_=>xaj H_ tA23 rfl (i:=1) rfl (v:=.slice a3 t.m c3) rfl) <| rt (xfk Tryd.underlying23 rfl) (tm':=zq1 (zq2 (zq4 (zq8 (zq32 []))))) rfl ?_
    refine ro (xgw rfl rfl) <| xak ?_
    by_cases cc8:((k:Nat):Int)<((t.m:Nat):Int)
    ·
     refine xdk rfl (dtt cc8) <| xdq <| xej <| xek <| xej ?_
     refine xfw 10 [[],[0],[],[0,1,2],[0,1,2,3],[],[5],[],[5,6,7],[5,6,7,8],[]] xlq (by kernel_rfl) (Nat.le_of_ble_eq_true rfl) ?_
     refine wt (xaz xhv rfl (a':=⟨b1,2,none⟩) rfl) (tm':=zq1 (zq2 (zq4 (zq8 (zq32 []))))) rfl <| wd (fun h_ H_=>xaj H_ tA23 rfl (i:=1) rfl (v:=.slice a3 t.m c3) rfl) <| wt (xaq (v:=.int .i64 (((k:Nat):Int))) rfl) (tm':=zq1 (zq2 (zq4 (zq8 (zq32 []))))) rfl ?_
     refine wo (xcz (i:=k) Tryd.underlying23 tS43 (xkq a3 t.m c3 (T.y.ne (by omega))) rfl (by omega)) ?_
     refine xbz mn (fun h_ H_=>xhx H_ tA43 tS43 rfl (vs:=[.int .i64 ((t.wy.getD k wz).1),.int .i64 ((t.wy.getD k wz).2)]) rfl (T.y.all (by omega))) (tm':=zq1 (zq2 (zq4 (zq8 (zq32 []))))) rfl ?_
     refine wo (xaz xhv rfl (a':=⟨b2,2,none⟩) rfl) ?_
     refine xbz mn (fun h_ H_=>xaj H_ tA23 rfl (i:=0) rfl (v:=.slice a3' u.m c3') rfl) (tm':=zq1 (zq2 (zq4 (zq8 (zq32 []))))) rfl ?_
     refine wo (xaq (v:=.int .i64 (((k:Nat):Int))) rfl) ?_
     refine wt (xcz (i:=k) Tryd.underlying23 tS43 (xkq a3' u.m c3' (U.y.ne (by omega))) rfl (by omega)) (tm':=zq1 (zq2 (zq4 (zq8 (zq32 []))))) rfl ?_
     refine wd (fun h_ H_=>xhx H_ tA43 tS43 rfl (vs:=[.int .i64 ((u.wy.getD k wz).1),.int .i64 ((u.wy.getD k wz).2)]) rfl (U.y.all (by omega))) ?_
     refine xiz rfl ?_
     refine rt (wfw gT43 (vew 9998 _ _ _ _) rfl rfl) (tm':=zq1 (zq2 (zq4 (zq8 (zq32 []))))) rfl <| xak ?_
     by_cases cc9:(t.wy.getD k wz).1=(u.wy.getD k wz).1∧(t.wy.getD k wz).2=(u.wy.getD k wz).2
     ·
      refine xcv rfl (xev (dtt cc9)) <| xdq <| xeq <| xbq <| ro (xaq (v:=.int .i64 (((k:Nat):Int))) rfl) ?_
      refine ro (xfx rfl rfl (n:=((k+1:Nat):Int)) (wr (by omega))) ?_
      refine rt (xax (v:=.int .i64 (((k+1:Nat):Int))) rfl) (tm':=zq2 (zq4 _)) rfl <| xak ?_
      exact fun h_ H_=>IH7 _ _ (by omega) h_ ⟨k+1,rfl,(y_of rfl),(by omega),(vfv hs ‹_›),H_⟩
     ·
      refine xdk rfl (xgv (dff cc9)) <| fsr <| ro (xax (v:=.bool (false)) rfl) <| xak ?_
      refine xew Tryd.func22 rfl (vs:=[.bool (false)]) (fun h_ H_=>⟨.bool (false),_,rfl,rfl,rfl⟩) (v:=.bool (false)) rfl ?_
      exact fun h_ H_=>K _ _ ⟨by first | (rw [decide_eq_true (p:=sameT t u) (xwk ‹_› ‹_› (by omega) (fun i hi=>hs i (by omega)))]) | (rw [decide_eq_false (p:=sameT t u) (fun z_=>absurd z_.1 ‹_›)]) | (rw [decide_eq_false (p:=sameT t u) (fun z_=>absurd z_.2.1 ‹_›)]) | (rw [decide_eq_false (p:=sameT t u) (fun z_=>by have z2_:=congrArg List.length z_.2.2;unfold Tn.m at *;omega)]) | (rw [decide_eq_false (p:=sameT t u) (ybq (k:=k) ‹_›)]),H_.kept⟩
    ·
     refine xcv rfl (dff cc8) <| xiq rfl <| fsr <| ro (xax (v:=.bool (true)) rfl) <| xak ?_
     refine xew Tryd.func22 rfl (vs:=[.bool (true)]) (fun h_ H_=>⟨.bool (true),_,rfl,rfl,rfl⟩) (v:=.bool (true)) rfl ?_
     exact fun h_ H_=>K _ _ ⟨by first | (rw [decide_eq_true (p:=sameT t u) (xwk ‹_› ‹_› (by omega) (fun i hi=>hs i (by omega)))]) | (rw [decide_eq_false (p:=sameT t u) (fun z_=>absurd z_.1 ‹_›)]) | (rw [decide_eq_false (p:=sameT t u) (fun z_=>absurd z_.2.1 ‹_›)]) | (rw [decide_eq_false (p:=sameT t u) (fun z_=>by have z2_:=congrArg List.length z_.2.2;unfold Tn.m at *;omega)]) | (rw [decide_eq_false (p:=sameT t u) (ybq (k:=k) ‹_›)]),H_.kept⟩
  ·
   refine xfq (mo rfl rfl (xgv (dff cc4))) (tm':=zq2 (zq4 (zq16 _))) rfl <| rp (mo rfl rfl (xgv (dff cc4))) <| rp (mo rfl rfl (xgv (dff cc4))) <| xfq (mo rfl rfl (xgv (dff cc4))) (tm':=zq1 (zq8 (zq16 _))) rfl <| rp (mo rfl rfl (xgv (dff cc4))) <| rp (mo rfl rfl (xgv (dff cc4))) ?_
   refine xfq (mo rfl rfl (xgv (dff cc4))) (tm':=zq4 (zq8 (zq16 _))) rfl <| ro (xbj rfl (xgv (dff cc4)) (v:=.bool (true)) rfl) <| xak <| xdk rfl rfl <| fsr <| ro (xax (v:=.bool (false)) rfl) ?_
   refine xak ?_
   refine xew Tryd.func22 rfl (vs:=[.bool (false)]) (fun h_ H_=>⟨.bool (false),_,rfl,rfl,rfl⟩) (v:=.bool (false)) rfl ?_
   exact fun h_ H_=>K _ _ ⟨by first | (rw [decide_eq_true (p:=sameT t u) (xwk ‹_› ‹_› (by omega) (fun i hi=>hs i (by omega)))]) | (rw [decide_eq_false (p:=sameT t u) (fun z_=>absurd z_.1 ‹_›)]) | (rw [decide_eq_false (p:=sameT t u) (fun z_=>absurd z_.2.1 ‹_›)]) | (rw [decide_eq_false (p:=sameT t u) (fun z_=>by have z2_:=congrArg List.length z_.2.2;unfold Tn.m at *;omega)]) | (rw [decide_eq_false (p:=sameT t u) (ybq (k:=k) ‹_›)]),H_.kept⟩
 ·
  refine xfq (mo rfl rfl (xgv (dff cc3))) (tm':=zq2 (zq4 (zq8 _))) rfl <| rp (mo rfl rfl (xgv (dff cc3))) <| rp (mo rfl rfl (xgv (dff cc3))) <| xfq (mo rfl rfl (xgv (dff cc3))) (tm':=zq1 (zq16 _)) rfl <| rp (mo rfl rfl (xgv (dff cc3))) <| rp (mo rfl rfl (xgv (dff cc3))) ?_
  refine rt (xbj rfl (xgv (dff cc3)) (v:=.bool (true)) rfl) (tm':=zq4 (zq16 _)) rfl <| ro (xaq (v:=.bool (true)) rfl) <| rp (mo rfl rfl rfl) <| xfq (mo rfl rfl rfl) (tm':=zq1 (zq2 (zq4 (zq16 _)))) rfl <| rp (mo rfl rfl rfl) <| rp (mo rfl rfl rfl) ?_
  refine xfq (mo rfl rfl rfl) (tm':=zq2 (zq8 (zq16 _))) rfl <| rp (mo rfl rfl rfl) <| rp (mo rfl rfl rfl) <| rt (xbj rfl rfl (v:=.bool (true)) rfl) (tm':=zq1 (zq4 (zq8 (zq16 _)))) rfl <| xak <| xdk rfl rfl ?_
  refine fsr <| ro (xax (v:=.bool (false)) rfl) <| xak ?_
  refine xew Tryd.func22 rfl (vs:=[.bool (false)]) (fun h_ H_=>⟨.bool (false),_,rfl,rfl,rfl⟩) (v:=.bool (false)) rfl ?_
  exact fun h_ H_=>K _ _ ⟨by first | (rw [decide_eq_true (p:=sameT t u) (xwk ‹_› ‹_› (by omega) (fun i hi=>hs i (by omega)))]) | (rw [decide_eq_false (p:=sameT t u) (fun z_=>absurd z_.1 ‹_›)]) | (rw [decide_eq_false (p:=sameT t u) (fun z_=>absurd z_.2.1 ‹_›)]) | (rw [decide_eq_false (p:=sameT t u) (fun z_=>by have z2_:=congrArg List.length z_.2.2;unfold Tn.m at *;omega)]) | (rw [decide_eq_false (p:=sameT t u) (ybq (k:=k) ‹_›)]),H_.kept⟩
theorem c50 (md:Md) (h:Heap) (p:PHeap) (hp:Per p h) (a1 a2 a3:Option Addr) (c1 c2 c3:Nat) (t:Tn) (T:TownP p a1 t.nH a2 t.nW a3 t.m t) (hn:t.nH≤40∧t.nW≤40∧t.m≤41) (b:Option Addr) (m cb:Nat) (d:List Int) (D:Ints p b m d):CallsX Tryd.prog md 50 #[.agg #[.slice a1 t.nH c1,.slice a2 t.nW c2,.slice a3 t.m c3],.slice b m cb] h fun v h'=>∃ w X,v= .tuple #[w,.bool (decide (chkB t=0∧DivI t d)),.int .i64 (chkB t)]∧OwnS 3 1 w (ics (goodL t d)) X∧New h h' X:=by
 refine xcw (Φ:=fun h_=>St h [] p h_ []) Tryd.func50 rfl (tm:=zq4 (zq16 [])) rfl ?_ (St.start h _ hp)
 intro c₀ cs Stop K
 refine fsr ?_
 refine xiw mn (v:=.agg #[.slice a1 t.nH c1,.slice a2 t.nW c2,.slice a3 t.m c3]) rfl fun b1=>xcj (L':=[(b1,.cells #[.slice a1 t.nH c1,.slice a2 t.nW c2,.slice a3 t.m c3] 25 (0,0))]) rfl ?_
 refine rt (xax (v:=.slice none 0 0) rfl) (tm':=zq1 (zq4 _)) rfl <| ro (xax (v:=.bool (false)) rfl) <| ro (xax (v:=.int .i64 0) rfl) <| ren <| fsr ?_
 refine xaw mn (fun h_ H_=>xav H_ tA25 tS25 rfl (i:=0) rfl (vs:=[.slice a1 t.nH c1,.slice a2 t.nW c2,.slice a3 t.m c3]) rfl rfl) (tm':=zq1 (zq8 _)) rfl ?_
 refine xcx mn (first:=[]) (cap:=[]) rfl rfl fC48 (fun h_ H_=>c48 md _ _ H_.pe _ _ _ _ _ _ _ _ _ t (show TownP _ _ _ _ _ _ _ t from ⟨T.h,T.w,T.y⟩) (by omega)) rfl ?_
 refine ro (xax (v:=.int .i64 (chkB t)) rfl) <| ren <| xbq <| rt (xaq (v:=.int .i64 (chkB t)) rfl) (tm':=zq1 (zq2 (zq8 _))) rfl <| ro (xhw rfl rfl) <| xak ?_
 by_cases cc2:chkB t≠0
 ·
  refine xdk rfl (dtt cc2) <| fsr <| ro (xaq (v:=.int .i64 (chkB t)) rfl) <| rt (xax (v:=.slice none 0 0) rfl) (tm':=zq1 (zq4 _)) rfl <| ro (xax (v:=.bool (false)) rfl) <| ro (xax (v:=.int .i64 (chkB t)) rfl) ?_
  refine xak ?_
  refine xew Tryd.func50 rfl (vs:=[.slice none 0 0,.bool (false),.int .i64 (chkB t)]) (fun h_ H_=>⟨.slice none 0 0,_,rfl,rfl,⟨.bool (false),_,rfl,rfl,⟨.int .i64 (chkB t),_,rfl,rfl,rfl⟩⟩⟩) (v:=.tuple #[.slice none 0 0,.bool (false),.int .i64 (chkB t)]) rfl ?_
  exact fun h_ H_=>K _ _ ⟨_,[],by rw [decide_eq_false (fun z_=>absurd z_.1 ‹_›)],(OwnS.empty _ _).as (by rw [goodL,if_neg (fun z_=>absurd z_.1 ‹_›)];rfl),(H_.sub (List.nil_sublist _)).new⟩
 ·
  refine xcv rfl (dff cc2) <| xdq <| xej <| xej ?_
  have hc_:chkB t=0:=by omega
  obtain ⟨h12,hV⟩:=ytj hc_
  refine xbq ?_
  refine xaw mn (fun h_ H_=>xav H_ tA25 tS25 rfl (i:=0) rfl (vs:=[.slice a1 t.nH c1,.slice a2 t.nW c2,.slice a3 t.m c3]) rfl rfl) (tm':=zq4 (zq16 [])) rfl ?_
  refine ro (xaq (v:=.slice b m cb) rfl) ?_
  refine xcx mn (first:=[]) (cap:=[]) rfl rfl fC31 (fun h_ H_=>c31 md _ _ H_.pe _ _ _ _ _ _ _ _ _ t (show TownP _ _ _ _ _ _ _ t from ⟨T.h,T.w,T.y⟩) (by omega) _ _ _ _ D hV.wok) rfl ?_
  refine rt (xgz rfl) (tm':=zq4 (zq16 [])) rfl <| xak ?_
  by_cases cc3:DivI t d
  ·
   refine xcv rfl (xev (dtt cc3)) <| xdq <| xej ?_
   have hD_:DivI t d:=by first | assumption | exact Decidable.not_not.1 ‹_›
   refine xbq <| rd (fun h_ H_=>xav H_ tA25 tS25 rfl (i:=0) rfl (vs:=[.slice a1 t.nH c1,.slice a2 t.nW c2,.slice a3 t.m c3]) rfl rfl) <| ro (xaq (v:=.slice b m cb) rfl) ?_
   refine xcj (L':=([(b1,.cells #[.slice a1 t.nH c1,.slice a2 t.nW c2,.slice a3 t.m c3] 25 (0,0))]:Pcs)++[]) rfl ?_
   refine xjq mn (first:=[]) (cap:=[]) rfl rfl fC45 (R:=fun v_ h_=>∃ w4:Value,∃ X5:Pcs,v_=w4∧(OwnS 3 1 w4 (ics (lacks t d)) X5)∧St h [] p h_ (([(b1,.cells #[.slice a1 t.nH c1,.slice a2 t.nW c2,.slice a3 t.m c3] 25 (0,0))]:Pcs)++(X5++[]))) (fun h_ H_=>(c45 md _ _ H_.pe _ _ _ _ _ _ _ _ _ t (show TownP _ _ _ _ _ _ _ t from ⟨T.h,T.w,T.y⟩) (by omega) _ _ _ _ D (by have z_:=hD_.len;have z2_:=D.len;omega) (fun i hi=>by have z_:=hD_.pos i (by have z2_:=D.len;omega);unfold dv;omega) hV.wok (fun i hi=>by have z_:=hV.h i hi;omega)).mono fun v_ h2_ ⟨w4,X5,e_,o6,N_⟩=>⟨w4,X5,e_,o6,H_.callNA N_⟩) fun v_=>?_
   refine xfv fun w4=>xfv fun X5=>xfz fun ev_=>xfz fun o6=>?_
   have ev_:=ev_.symm;subst ev_
   refine xcj (L':=([(b1,.cells #[.slice a1 t.nH c1,.slice a2 t.nW c2,.slice a3 t.m c3] 25 (0,0))]:Pcs)++(X5++[])) rfl ?_
   refine xgx (tm':=zq4 (zq16 [])) rfl ?_
   refine ro (xax (v:=w4) rfl) <| ro (xax (v:=.bool (true)) rfl) <| rt (xax (v:=.int .i64 0) rfl) (tm':=zq1 (zq2 (zq4 _))) rfl <| xak ?_
   refine xew Tryd.func50 rfl (vs:=[w4,.bool (true),.int .i64 0]) (fun h_ H_=>⟨w4,_,rfl,rfl,⟨.bool (true),_,rfl,rfl,⟨.int .i64 0,_,rfl,rfl,rfl⟩⟩⟩) (v:=.tuple #[w4,.bool (true),.int .i64 0]) rfl ?_
   exact fun h_ H_=>K _ _ ⟨_,_,by rw [decide_eq_true (And.intro hc_ hD_),hc_],o6.as (by rw [goodL,if_pos ⟨hc_,hD_⟩]),((H_.dropA).sub (List.sublist_append_left _ _)).new⟩
  ·
   refine xdk rfl (xgv (dff cc3)) <| fsr <| ro (xax (v:=.slice none 0 0) rfl) <| ro (xax (v:=.bool (false)) rfl) <| rt (xax (v:=.int .i64 0) rfl) (tm':=zq1 (zq2 (zq4 _))) rfl <| xak ?_
   refine xew Tryd.func50 rfl (vs:=[.slice none 0 0,.bool (false),.int .i64 0]) (fun h_ H_=>⟨.slice none 0 0,_,rfl,rfl,⟨.bool (false),_,rfl,rfl,⟨.int .i64 0,_,rfl,rfl,rfl⟩⟩⟩) (v:=.tuple #[.slice none 0 0,.bool (false),.int .i64 0]) rfl ?_
   have hn_: ¬ (chkB t=0∧DivI t d):=fun z_=>absurd z_.2 ‹_›
   exact fun h_ H_=>K _ _ ⟨_,[],by rw [decide_eq_false hn_,hc_],(OwnS.empty _ _).as (by rw [goodL,if_neg hn_];rfl),(H_.sub (List.nil_sublist _)).new⟩
end Go.Proofs.YtalfgojocdonhaaDoor
namespace Go.X.Flow
open Go.X
def facM (t:Tn) (i:Nat):Int:=min (t.hv (t.wh i)) (t.wv (t.ww i)+1)+1
def prodM (t:Tn):Nat→Int
  | 0=>1
  | k+1=>prodM t k*facM t k
def exM (t:Tn) (x y:Int):Int:=if (0≤x∧x≤(t.nH:Int)-1)∧(0≤y∧y≤(t.nW:Int)-1) then min (t.hv x.toNat) (t.wv y.toNat)+1 else 1
def moreB (t:Tn) (x y:Int):Bool:=decide (2000<prodM t t.m∨2000<prodM t t.m*exM t x y)
theorem waq {t:Tn} (O:Ok t) {i:Nat} (hi:i<t.m):1≤facM t i∧facM t i≤10:=by
  have h1:=O.y i hi;have h2:=O.h _ h1.1;have h3:=O.w _ h1.2
  unfold facM;omega
theorem yvq {t:Tn} (O:Ok t): ∀ k,k≤t.m→1≤prodM t k
  | 0,_=>by simp [prodM]
  | k+1,h=>by
    have h1:=yvq O k (by omega);have h2:=waq O (show k<t.m by omega)
    have:=Int.mul_le_mul h1 h2.1 (by decide) (by omega)
    rw [prodM];omega
theorem wdj {t:Tn} (O:Ok t) {k:Nat} (hk:k≤t.m):prodM t k≤prodM t t.m:=by
  obtain ⟨j,hj⟩:=Nat.exists_eq_add_of_le hk
  have: ∀ j,k+j≤t.m→prodM t k≤prodM t (k+j):=by
    intro j
    induction j with
    | zero=>intro _;exact Int.le_refl _
    | succ j ih=>
      intro h
      have h1:=ih (by omega);have h2:=waq O (show k+j<t.m by omega);have h3:=yvq O (k+j) (by omega)
      have h4:prodM t (k+(j+1))=prodM t (k+j)*facM t (k+j):=rfl
      have h5:=Int.mul_le_mul (Int.le_refl (prodM t (k+j))) h2.1 (by decide) (by omega)
      rw [h4];omega
  rw [hj];exact this j (by omega)
theorem wwx {t:Tn} (O:Ok t) {x y:Int} {k:Nat} (hk:k≤t.m) (h:2000<prodM t k):moreB t x y=true:=decide_eq_true (.inl (by have:=wdj O hk;omega))
theorem woq {t:Tn} {x y:Int} (h2: ¬ ((0≤x∧x≤(t.nH:Int)-1)∧(0≤y∧y≤(t.nW:Int)-1))):moreB t x y=decide (2000<prodM t t.m):=by
  unfold moreB exM;rw [if_neg h2,Int.mul_one];congr 1;simp
theorem wwq {t:Tn} {x y:Int} (h:prodM t t.m≤2000) (h2:(0≤x∧x≤(t.nH:Int)-1)∧(0≤y∧y≤(t.nW:Int)-1)):moreB t x y=decide (2000<prodM t t.m*(min (t.hv x.toNat) (t.wv y.toNat)+1)):=by
  unfold moreB exM;rw [if_pos h2];congr 1;rw [eq_iff_iff];constructor
  · rintro (a | a)
    · omega
    · exact a
  · exact .inr

structure DryF (t:Tn) (z:Int):Prop where
  a:1≤dryV t z∧dryV t z≤3
  b: ¬ 0<t.ws.getD z.toNat 0→dryV t z=1
  c:z∈helpsF t t.nW→dryV t z=1
  d:dryV t z=1→giveI t (fairP t none0) (fairP t none0).length z=t.ws.getD z.toNat 0
  e:dryV t z=2→giveI t (fairP t none0) (fairP t none0).length z≠t.ws.getD z.toNat 0
theorem znx {t:Tn} {z:Int} (h:z∈helpsF t t.nW): ∃ w:Nat,w<t.nW∧z=w∧earlier (LK (pour t w)) (LK t)=true:=by
  unfold helpsF at h
  obtain ⟨w,hw,rfl⟩:=List.mem_map.1 h
  obtain ⟨h1,h2⟩:=List.mem_filter.1 hw
  refine ⟨w,List.mem_range.1 h1,rfl,?_⟩
  exact (xzk (by rw [xqx,xqx];rfl)).1 (of_decide_eq_true h2)
theorem wqw {t:Tn} (V:Vd t) (O:OkT t) {z:Int} (hz:0≤z∧z≤(t.nW:Int)-1):DryF t z:=by
  have hx:z.toNat<t.nW:=by omega
  have ez:((z.toNat:Nat):Int)=z:=Int.toNat_of_nonneg hz.1
  have hi:=wtj O.toOk hx (xlv O.toOk xlj)
  have lo:=wtz O.toOk hx (xlv O.toOk xlj)
  rw [ez] at hi lo
  have s1:Sg ⟨-1,z,1⟩:=zkx (by decide) (by decide)
  have s2:Sg ⟨-1,z,-1⟩:=zkx (by decide) (by decide)
  have B1:=xjw O.toOk s1
  have B2:=xjw O.toOk s2
  have B0:=xjw O.toOk xlj
  have g0:giveI t (fairP t none0) (fairP t none0).length z=give t (fairP t none0) z.toNat:=zfw V.wok (by rw [yak]) ez.symm
  have w1:=B1.div.ws _ hx;have w2:=B2.div.ws _ hx;have w0:=B0.div.ws _ hx
  have ww:t.ws.getD z.toNat 0=t.wv z.toNat:=rfl
  have p2:0≤give t (fairP t ⟨-1,z,-1⟩) z.toNat:=xvj fun i hi=>by have:=B2.div.pos i hi;split <;> omega
  refine ⟨?_,fun h=>?_,fun h=>?_,fun h=>?_,fun h=>?_⟩
  · unfold dryV;split
    · decide
    · split <;> decide
  · unfold dryV restV has;rw [if_pos (by rw [ww] at h;omega)]
  · obtain ⟨w,hw,e,h⟩:=znx h
    unfold dryV;rw [if_pos]
    unfold restV
    by_cases q:has t (fairP t ⟨-1,z,-1⟩) z.toNat=0
    · exact q
    · exfalso
      have h0:0<has t (fairP t ⟨-1,z,-1⟩) z.toNat:=by unfold has at q ⊢;omega
      have:=wlw O.toOk s2 hx (by have:=V.w z.toNat hx;unfold Tn.wv;omega) h0
      rw [show z.toNat=w by omega] at this
      rw [this,yfx] at h
      cases h
  · rw [g0,ww]
    unfold dryV restV has at h
    split at h
    · omega
    · split at h <;> omega
  · rw [g0,ww]
    unfold dryV restV has at h
    split at h
    · omega
    · split at h
      · omega
      · omega
end Go.X.Flow
namespace Go.Proofs.YtalfgojocdonhaaDoor
open Go.X Go.X.Flow Go.Conc
set_option maxRecDepth 10000
set_option synthInstance.maxSize 2000

set_option maxHeartbeats 2000000
theorem c51 (md:Md) (h:Heap) (p:PHeap) (hp:Per p h) (a1 a2 a3:Option Addr) (c1 c2 c3:Nat) (t:Tn) (T:TownP p a1 t.nH a2 t.nW a3 t.m t) (hn:t.nH≤40∧t.nW≤40∧t.m≤41) (O:OkT t) (x y:Int):CallsX Tryd.prog md 51 #[.agg #[.slice a1 t.nH c1,.slice a2 t.nW c2,.slice a3 t.m c3],.int .i64 (x),.int .i64 (y)] h fun v h'=>v= .bool (moreB t x y)∧Keep h h':=by
 refine xcw (Φ:=fun h_=>St h [] p h_ []) Tryd.func51 rfl (tm:=zq1 (zq2 (zq32 (zq32 [])))) rfl ?_ (St.start h _ hp)
 intro c₀ cs Stop K
 have hO:=O
 have oM_:=hO.nm
 refine fsr ?_
 refine xiw mn (v:=.agg #[.slice a1 t.nH c1,.slice a2 t.nW c2,.slice a3 t.m c3]) rfl fun b1=>xcj (L':=[(b1,.cells #[.slice a1 t.nH c1,.slice a2 t.nW c2,.slice a3 t.m c3] 25 (0,0))]) rfl ?_
 refine ro (xax (v:=.bool (false)) rfl) <| ren <| xbq <| rt (xax (v:=.int .i64 1) rfl) (tm':=zq8 _) rfl <| ren <| fsr ?_
 refine ro (xax (v:=.int .i64 0) rfl) <| xak <| xek ?_
 refine xiv (m₀:=t.m-0) (fun m_ tm_ h_=>∃ (k:Nat) (s:Int),m_=t.m-k∧(∃ y2:Nat→Value,tm_=(.agg #[.slice a1 t.nH c1,.slice a2 t.nW c2,.slice a3 t.m c3]::.int .i64 (x)::.int .i64 (y)::.pointer (some ⟨b1,0,none⟩)::undef::undef::(y2 6)::.int .i64 (s)::.int .i64 (((k:Nat):Int))::(y2 9)::(y2 10)::(y2 11)::(y2 12)::(y2 13)::(y2 14)::(y2 15)::(y2 16)::(y2 17)::(y2 18)::(y2 19)::(y2 20)::(y2 21)::(y2 22)::(y2 23)::(y2 24)::(y2 25)::(y2 26)::(y2 27)::(y2 28)::(y2 29)::(y2 30)::(y2 31)::(y2 32)::(y2 33)::(y2 34)::(y2 35)::(y2 36)::(y2 37)::(y2 38)::(y2 39)::(y2 40)::(y2 41)::(y2 42)::zu8 (zu16 [])))∧(k≤t.m)∧(s=prodM t k)∧(s≤2000)∧St h [] p h_ ([(b1,.cells #[.slice a1 t.nH c1,.slice a2 t.nW c2,.slice a3 t.m c3] 25 (0,0))])) (fun h_ H_=>⟨0,1,rfl,(y_of rfl),Nat.zero_le _,rfl,(by decide),H_⟩) ?_
 intro m_ tm_ IH3
 refine xij fun k=>xij fun s=>xdz fun hm_=>xdz fun ht_=>xdz fun hk=>xdz fun hs=>xdz fun h2=>?_
 subst hm_;obtain ⟨y2,ht_⟩:=ht_;subst ht_
 have hy_:=fun z_:k<t.m=>hO.y k z_
 have hp_:1≤s:=by rw [hs];exact yvq hO.toOk k hk
 refine xej <| fsr <| ro (xaq (v:=.int .i64 (((k:Nat):Int))) rfl) <| rt (xaz xhv rfl (a':=⟨b1,2,none⟩) rfl) (tm':=zq1 (zq2 (zq8 _))) rfl <| rd (fun h_ H_=>xaj H_ tA23 rfl (i:=0) rfl (v:=.slice a3 t.m c3) rfl) <| ro (xfk Tryd.underlying23 rfl) ?_
 refine rt (xgw rfl rfl) (tm':=zq2 (zq4 (zq8 _))) rfl <| xak ?_
 by_cases cc4:((k:Nat):Int)<((t.m:Nat):Int)
 ·
  refine xdk rfl (dtt cc4) <| xdq <| xej <| xek <| xej ?_
  refine xfw 24 [[],[],[1],[],[3],[],[3,4,5],[3,4,5,6],[3,4,5,6,7],[1,2,3,4,5,6,7,8],[1,2,3,4,5,6,7,8,9],[],[11],[],[13],[],[13,14,15],[13,14,15,16],[13,14,15,16,17],[11,12,13,14,15,16,17,18],[11,12,13,14,15,16,17,18,19],[11,12,13,14,15,16,17,18,19,20],[1,2,3,4,5,6,7,8,9,10,11,12,13,14,15,16,17,18,19,20,21],[1,2,3,4,5,6,7,8,9,10,11,12,13,14,15,16,17,18,19,20,21,22],[],[]] xlq (by kernel_rfl) (Nat.le_of_ble_eq_true rfl) ?_
  refine wt (xaq (v:=.int .i64 (s)) rfl) (tm':=zq1 (zq16 _)) rfl <| wo (xaz xmz rfl (a':=⟨b1,0,none⟩) rfl) ?_
  refine xbz mn (fun h_ H_=>xaj H_ tA22 rfl (i:=0) rfl (v:=.slice a1 t.nH c1) rfl) (tm':=zq1 (zq2 (zq16 _))) rfl ?_
  refine wo (xaz xhv rfl (a':=⟨b1,2,none⟩) rfl) ?_
  refine xbz mn (fun h_ H_=>xaj H_ tA23 rfl (i:=0) rfl (v:=.slice a3 t.m c3) rfl) (tm':=zq1 (zq4 (zq16 _))) rfl ?_
  refine wo (xaq (v:=.int .i64 (((k:Nat):Int))) rfl) ?_
  refine wt (xcz (i:=k) Tryd.underlying23 tS43 (xkq a3 t.m c3 (T.y.ne (by omega))) rfl (by omega)) (tm':=zq1 (zq2 (zq4 (zq16 _)))) rfl ?_
  refine wo (xaz xoj rfl (a':=(adr a3).add (k*2)) rfl) ?_
  refine xbz mn (fun h_ H_=>xbv H_ tA3 rfl (v:=.int .i64 (((t.wh k:Nat):Int))) (T.y.hoN (by omega) (hO.yp _ (by omega)).1)) (tm':=zq1 (zq8 (zq16 _))) rfl ?_
  refine wo (xcz (i:=(t.wh k)) Tryd.underlying22 tS3 (xkq a1 t.nH c1 (T.h.ne (by omega))) rfl (by omega)) ?_
  refine xbz mn (fun h_ H_=>xbv H_ tA3 rfl (v:=.int .i64 (t.hv (t.wh k))) (T.h.get (by omega))) (tm':=zq1 (zq2 (zq8 (zq16 _)))) rfl ?_
  refine wo (xaz xnj rfl (a':=⟨b1,1,none⟩) rfl) ?_
  refine xbz mn (fun h_ H_=>xaj H_ tA22 rfl (i:=0) rfl (v:=.slice a2 t.nW c2) rfl) (tm':=zq1 (zq4 (zq8 (zq16 _)))) rfl ?_
  refine wo (xaz xhv rfl (a':=⟨b1,2,none⟩) rfl) ?_
  refine xbz mn (fun h_ H_=>xaj H_ tA23 rfl (i:=0) rfl (v:=.slice a3 t.m c3) rfl) (tm':=zq1 (zq2 (zq4 (zq8 (zq16 _))))) rfl ?_
  refine wo (xaq (v:=.int .i64 (((k:Nat):Int))) rfl) ?_
  refine wt (xcz (i:=k) Tryd.underlying23 tS43 (xkq a3 t.m c3 (T.y.ne (by omega))) rfl (by omega)) (tm':=zq1 (zq32 _)) rfl ?_
  refine wo (xaz xpk rfl (a':=((adr a3).add (k*2)).add 1) rfl) ?_
  refine xbz mn (fun h_ H_=>xbv H_ tA3 rfl (v:=.int .i64 (((t.ww k:Nat):Int))) (T.y.weN (by omega) (hO.yp _ (by omega)).2)) (tm':=zq1 (zq2 (zq32 _))) rfl ?_
  refine wo (xcz (i:=(t.ww k)) Tryd.underlying22 tS3 (xkq a2 t.nW c2 (T.w.ne (by omega))) rfl (by omega)) ?_
  refine xbz mn (fun h_ H_=>xbv H_ tA3 rfl (v:=.int .i64 (t.wv (t.ww k))) (T.w.get (by omega))) (tm':=zq1 (zq4 (zq32 _))) rfl ?_
  refine wo (xfx rfl rfl (wr (by have z1_:=hy_ (by omega);have z2_:=hO.h _ z1_.1;have z3_:=hO.w _ z1_.2;omega))) ?_
  refine wt (zgk rfl rfl) (tm':=zq1 (zq2 (zq4 (zq32 _)))) rfl ?_
  refine wo (xfx rfl rfl (wr (by have z1_:=hy_ (by omega);have z2_:=hO.h _ z1_.1;have z3_:=hO.w _ z1_.2;omega))) ?_
  refine xiz rfl ?_
  refine ro (yxk rfl rfl (wr (by have z1_:=hy_ (by omega);have z2_:=hO.h _ z1_.1;have z3_:=hO.w _ z1_.2;have z4_:0≤min (t.hv (t.wh k)) (t.wv (t.ww k)+1)+1∧min (t.hv (t.wh k)) (t.wv (t.ww k)+1)+1≤10:=(by omega);have z5_:=Int.mul_le_mul (show s≤2000 by omega) z4_.2 z4_.1 (by decide);have z6_:=Int.mul_nonneg (show 0≤s by omega) z4_.1;omega))) ?_
  refine ro (xax (v:=.int .i64 (s*((min (t.hv (t.wh k)) ((t.wv (t.ww k))+1))+1))) rfl) <| ren <| xbq <| rt (xaq (v:=.int .i64 (s*((min (t.hv (t.wh k)) ((t.wv (t.ww k))+1))+1))) rfl) (tm':=zq2 (zq8 (zq32 _))) rfl <| ro (xix rfl rfl) <| xak ?_
  by_cases cc5:2000<s*((min (t.hv (t.wh k)) ((t.wv (t.ww k))+1))+1)
  ·
   refine xdk rfl (dtt cc5) <| fsr <| ro (xax (v:=.bool (true)) rfl) <| xak ?_
   refine xew Tryd.func51 rfl (vs:=[.bool (true)]) (fun h_ H_=>⟨.bool (true),_,rfl,rfl,rfl⟩) (v:=.bool (true)) rfl ?_
   exact fun h_ H_=>K _ _ ⟨by rw [wwx hO.toOk (k:=k+1) (by omega) (by rw [prodM,← hs];unfold facM;assumption)],H_.kept⟩
  ·
   refine xcv rfl (dff cc5) <| xdq <| xeq <| xbq <| rt (xaq (v:=.int .i64 (((k:Nat):Int))) rfl) (tm':=zq1 (zq2 (zq4 (zq8 _)))) rfl ?_
   refine ro (xfx rfl rfl (n:=((k+1:Nat):Int)) (wr (by omega))) ?_
   refine ro (xax (v:=.int .i64 (((k+1:Nat):Int))) rfl) <| xak ?_
   exact fun h_ H_=>IH3 _ _ (by omega) h_ ⟨k+1,s*((min (t.hv (t.wh k)) ((t.wv (t.ww k))+1))+1),rfl,(y_of rfl),(by omega),(by rw [hs,prodM];rfl),(by omega),H_⟩
 ·
  refine xcv rfl (dff cc4) <| xiq rfl <| xej <| fsr ?_
  refine xaw mn (fun h_ H_=>xav H_ tA25 tS25 rfl (i:=0) rfl (vs:=[.slice a1 t.nH c1,.slice a2 t.nW c2,.slice a3 t.m c3]) rfl rfl) (tm':=zq4 (zq8 (zq32 _))) rfl ?_
  refine ro (xaq (v:=.int .i64 (x)) rfl) ?_
  refine xcx mn (first:=[]) (cap:=[]) rfl rfl fC33 (fun h_ H_=>c33 md _ _ H_.pe _ _ _ _ _ _ _ _ _ t (show TownP _ _ _ _ _ _ _ t from ⟨T.h,T.w,T.y⟩) (by omega) (x)) rfl ?_
  refine rt (xaq (v:=.bool (decide (0≤x∧x≤(t.nH:Int)-1))) rfl) (tm':=zq1 (zq2 (zq32 (zq32 [])))) rfl ?_
  by_cases cc6:0≤x∧x≤(t.nH:Int)-1
  ·
   refine xaw (ms rfl rfl (dtt cc6)) (fun h_ H_=>xav H_ tA25 tS25 rfl (i:=0) rfl (vs:=[.slice a1 t.nH c1,.slice a2 t.nW c2,.slice a3 t.m c3]) rfl rfl) rfl ?_
   refine xaw (ms rfl rfl (dtt cc6)) (fun h_ H_=>xaq (v:=.int .i64 (y)) rfl) rfl ?_
   refine xcx (ms rfl rfl (dtt cc6)) (first:=[]) (cap:=[]) rfl rfl fC57 (fun h_ H_=>c57 md _ _ H_.pe _ _ _ _ _ _ _ _ _ t (show TownP _ _ _ _ _ _ _ t from ⟨T.h,T.w,T.y⟩) (by omega) (y)) (tm':=zq1 (zq2 (zq32 (zq32 [])))) rfl ?_
   refine ro (xbj rfl (dtt cc6) (v:=.bool (decide (0≤y∧y≤(t.nW:Int)-1))) rfl) <| xak ?_
   by_cases cc7:0≤y∧y≤(t.nW:Int)-1
   ·
    refine xdk rfl (dtt cc7) ?_
    refine xfw 13 [[],[],[1],[],[1,2,3],[1,2,3,4],[],[6],[],[6,7,8],[6,7,8,9],[1,2,3,4,5,6,7,8,9,10],[1,2,3,4,5,6,7,8,9,10,11],[],[]] xlq (by kernel_rfl) (Nat.le_of_ble_eq_true rfl) ?_
    refine wt (xaq (v:=.int .i64 (s)) rfl) (tm':=zq1 (zq2 (zq32 (zq32 [])))) rfl <| wo (xaz xmz rfl (a':=⟨b1,0,none⟩) rfl) ?_
    refine xbz mn (fun h_ H_=>xaj H_ tA22 rfl (i:=0) rfl (v:=.slice a1 t.nH c1) rfl) (tm':=zq1 (zq2 (zq32 (zq32 [])))) rfl ?_
    refine wo (xaq (v:=.int .i64 (x)) rfl) ?_
    refine wt (xlx Tryd.underlying22 tS3 (xkq a1 t.nH c1 (T.h.ne (by omega))) rfl (by omega) (by omega) (a':=(adr a1).add (((x).toNat)*1)) rfl) (tm':=zq1 (zq2 (zq32 (zq32 [])))) rfl ?_
    refine wd (fun h_ H_=>xbv H_ tA3 rfl (v:=.int .i64 (t.hs.getD ((x).toNat) 0)) (T.h.get (by omega))) ?_
    refine wt (xaz xnj rfl (a':=⟨b1,1,none⟩) rfl) (tm':=zq1 (zq2 (zq32 (zq32 [])))) rfl <| wd (fun h_ H_=>xaj H_ tA22 rfl (i:=0) rfl (v:=.slice a2 t.nW c2) rfl) <| wt (xaq (v:=.int .i64 (y)) rfl) (tm':=zq1 (zq2 (zq32 (zq32 [])))) rfl ?_
    refine wo (xlx Tryd.underlying22 tS3 (xkq a2 t.nW c2 (T.w.ne (by omega))) rfl (by omega) (by omega) (a':=(adr a2).add (((y).toNat)*1)) rfl) ?_
    refine xbz mn (fun h_ H_=>xbv H_ tA3 rfl (v:=.int .i64 (t.ws.getD ((y).toNat) 0)) (T.w.get (by omega))) (tm':=zq1 (zq2 (zq32 (zq32 [])))) rfl ?_
    refine wo (zgk rfl rfl) ?_
    refine wt (xfx rfl rfl (wr (by have z2_:0≤t.hs.getD x.toNat 0∧t.hs.getD x.toNat 0≤9:=hO.h _ (by omega);have z3_:0≤t.ws.getD y.toNat 0∧t.ws.getD y.toNat 0≤21:=hO.w _ (by omega);omega))) (tm':=zq1 (zq2 (zq32 (zq32 [])))) rfl ?_
    refine xiz rfl ?_
    refine rt (yxk rfl rfl (wr (by have z2_:0≤t.hs.getD x.toNat 0∧t.hs.getD x.toNat 0≤9:=hO.h _ (by omega);have z3_:0≤t.ws.getD y.toNat 0∧t.ws.getD y.toNat 0≤21:=hO.w _ (by omega);have z4_:0≤min (t.hs.getD x.toNat 0) (t.ws.getD y.toNat 0)+1∧min (t.hs.getD x.toNat 0) (t.ws.getD y.toNat 0)+1≤10:=(by omega);have z5_:=Int.mul_le_mul (show s≤2000 by omega) z4_.2 z4_.1 (by decide);have z6_:=Int.mul_nonneg (show 0≤s by omega) z4_.1;omega))) (tm':=zq1 (zq2 (zq32 (zq32 [])))) rfl ?_
    refine ro (xax (v:=.int .i64 (s*((min (t.hs.getD ((x).toNat) 0) (t.ws.getD ((y).toNat) 0))+1))) rfl) <| ren <| xbq <| ro (xaq (v:=.int .i64 (s*((min (t.hs.getD ((x).toNat) 0) (t.ws.getD ((y).toNat) 0))+1))) rfl) <| rt (xix rfl rfl) (tm':=zq1 (zq2 (zq32 (zq32 [])))) rfl <| ro (xax (v:=.bool (decide (2000<s*((min (t.hs.getD ((x).toNat) 0) (t.ws.getD ((y).toNat) 0))+1)))) rfl) ?_
    refine xak ?_
    refine xew Tryd.func51 rfl (vs:=[.bool (decide (2000<s*((min (t.hs.getD ((x).toNat) 0) (t.ws.getD ((y).toNat) 0))+1)))]) (fun h_ H_=>⟨.bool (decide (2000<s*((min (t.hs.getD ((x).toNat) 0) (t.ws.getD ((y).toNat) 0))+1))),_,rfl,rfl,rfl⟩) (v:=.bool (decide (2000<s*((min (t.hs.getD ((x).toNat) 0) (t.ws.getD ((y).toNat) 0))+1)))) rfl ?_
    have e_:k=t.m:=by omega
    exact fun h_ H_=>K _ _ ⟨by rw [wwq (by rw [← e_,← hs];exact h2) ⟨by assumption,by assumption⟩,← e_,← hs];rfl,H_.kept⟩
   ·
    refine xcv rfl (dff cc7) <| xdq <| fsr <| ro (xaq (v:=.int .i64 (s)) rfl) <| rt (xix rfl rfl) (tm':=zq1 (zq2 (zq32 (zq32 [])))) rfl <| ro (xax (v:=.bool (decide (2000<s))) rfl) ?_
    refine xak ?_
    refine xew Tryd.func51 rfl (vs:=[.bool (decide (2000<s))]) (fun h_ H_=>⟨.bool (decide (2000<s)),_,rfl,rfl,rfl⟩) (v:=.bool (decide (2000<s))) rfl ?_
    have e_:k=t.m:=by omega
    exact fun h_ H_=>K _ _ ⟨by rw [woq (fun z_=>by first | exact absurd z_.1 ‹_› | exact absurd z_.2 ‹_›),← e_,← hs],H_.kept⟩
  ·
   refine rp (mo rfl rfl (dff cc6)) <| xfq (mo rfl rfl (dff cc6)) (tm':=zq1 (zq2 (zq32 (zq32 [])))) rfl <| rp (mo rfl rfl (dff cc6)) <| ro (xcq rfl (dff cc6) (v:=.bool (false)) rfl) <| xak <| xcv rfl rfl ?_
   refine xdq <| fsr <| rt (xaq (v:=.int .i64 (s)) rfl) (tm':=zq1 (zq2 (zq32 (zq32 [])))) rfl <| ro (xix rfl rfl) <| ro (xax (v:=.bool (decide (2000<s))) rfl) <| xak ?_
   refine xew Tryd.func51 rfl (vs:=[.bool (decide (2000<s))]) (fun h_ H_=>⟨.bool (decide (2000<s)),_,rfl,rfl,rfl⟩) (v:=.bool (decide (2000<s))) rfl ?_
   have e_:k=t.m:=by omega
   exact fun h_ H_=>K _ _ ⟨by rw [woq (fun z_=>by first | exact absurd z_.1 ‹_› | exact absurd z_.2 ‹_›),← e_,← hs],H_.kept⟩
end Go.Proofs.YtalfgojocdonhaaDoor
namespace Go.X.Flow
open Go.X

theorem zqz (f:Nat→Int): ∀ k,sm (k+1) f=f 0+sm k (fun i=>f (i+1))
  | 0=>by simp [sm]
  | k+1=>by rw [sm,zqz f k];simp only [sm];omega
def dr (sel:Int × Int→Bool):List (Int × Int)→List Int→Int
  | w::ws,n::ds=>(if sel w then n else 0)+dr sel ws ds
  | _,_=>0
theorem wtw (sel:Int × Int→Bool): ∀ {wy:List (Int × Int)} {d:List Int},d.length=wy.length→(sm wy.length fun i=>if sel (wy.getD i (0,0)) then d.getD i 0 else 0)=dr sel wy d
  | [],[],_=>rfl
  | [],_::_,h=>by simp at h
  | _::_,[],h=>by simp at h
  | w::ws,n::ds,h=>by
    rw [dr,← wtw sel (wy:=ws) (d:=ds) (by simpa using h),List.length_cons,zqz];rfl
structure Sim (t t':Tn):Prop where
  hs:t'.hs=t.hs
  ws:t'.ws=t.ws
  sim: ∀ d:List Int,d.length=t.wy.length→(∀ z∈d,0≤z)→ ∃ d':List Int,d'.length=t'.wy.length∧(∀ z∈d',0≤z)∧ ∀ sel,dr sel t'.wy d'=dr sel t.wy d
theorem yyz {t d} (h:d.length=t.m) (x:Nat):draw t d x=dr (fun w=>w.1.toNat == x) t.wy d:=by
  rw [← wtw _ h]
  exact xhj fun i _=>by unfold Tn.wh dv;simp only [beq_iff_eq]
theorem yxz {t d} (h:d.length=t.m) (x:Nat):give t d x=dr (fun w=>w.2.toNat == x) t.wy d:=by
  rw [← wtw _ h]
  exact xhj fun i _=>by unfold Tn.ww dv;simp only [beq_iff_eq]
theorem ziw {t d} (h:d.length=t.m):tot t d=dr (fun _=>true) t.wy d:=by
  rw [← wtw _ h]
  exact xhj fun i _=>by simp [dv]
theorem Sim.div {t t' d} (s:Sim t t') (D:Div t d): ∃ d',Div t' d'∧lacks t' d'=lacks t d∧tot t' d'=tot t d:=by
  obtain ⟨d',h1,h2,h3⟩:=s.sim d D.len fun z hz=>by
    obtain ⟨i,hi,e⟩:=List.mem_iff_getElem.1 hz
    have:=D.pos i (by have:=D.len;omega)
    unfold dv at this;rw [xuq hi,e] at this;exact this
  have e1: ∀ x,draw t' d' x=draw t d x:=fun x=>by rw [yyz h1,yyz D.len,h3]
  have e2: ∀ x,give t' d' x=give t d x:=fun x=>by rw [yxz h1,yxz D.len,h3]
  have eH:t'.nH=t.nH:=by unfold Tn.nH;rw [s.hs]
  have eW:t'.nW=t.nW:=by unfold Tn.nW;rw [s.ws]
  have ev: ∀ h,t'.hv h=t.hv h:=fun h=>by unfold Tn.hv;rw [s.hs]
  have ew: ∀ h,t'.wv h=t.wv h:=fun h=>by unfold Tn.wv;rw [s.ws]
  refine ⟨d',⟨h1,fun i hi=>?_,fun h hh=>?_,fun x hx=>?_⟩,?_,by rw [ziw h1,ziw D.len,h3]⟩
  · have hl:i<d'.length:=by have e:t'.m=t'.wy.length:=rfl;omega
    unfold dv;rw [xuq hl];exact h2 _ (List.getElem_mem hl)
  · rw [e1,ev];exact D.hs h (by rw [← eH];exact hh)
  · rw [e2,ew];exact D.ws x (by rw [← eW];exact hx)
  · unfold lacks lackL;rw [eH];congr 2;funext h;unfold lack;rw [e1,ev]
theorem Sim.not_less {t t'} (s:Sim t t') (O:Ok t) (O':Ok t'):earlier (LK t) (LK t')=false:=by
  obtain ⟨d',D',e,_⟩:=s.div (xlv O xlj).div
  have h:=ysw O' D'
  rw [e] at h;exact h
theorem Sim.most {t t'} (s:Sim t t') (O:Ok t) (O':Ok t'):tot t (fairP t none0)≤tot t' (fairP t' none0):=by
  obtain ⟨d',D',_,e⟩:=s.div (xlv O xlj).div
  have h:=Best.most O' (xjw O' xlj) D'
  rw [e] at h;exact h
theorem LKlen (t):(LK t).length=t.nH:=xow t _
theorem Sim.same {t t'} (s:Sim t t') (s':Sim t' t) (O:Ok t) (O':Ok t'):LK t'=LK t:=by
  have a:=s.not_less O O'
  have b:=s'.not_less O' O
  rcases xyk (a:=LK t') (b:=LK t) (by rw [LKlen,LKlen];unfold Tn.nH;rw [s.hs]) with h | h | h
  · exact h
  · rw [b] at h;cases h
  · rw [a] at h;cases h
theorem vjk {wy wy':List (Int × Int)} (p:wy.Perm wy'): ∀ d:List Int,d.length=wy.length→(∀ z∈d,0≤z)→ ∃ d':List Int,d'.length=wy'.length∧(∀ z∈d',0≤z)∧ ∀ sel,dr sel wy' d'=dr sel wy d:=by
  induction p with
  | nil=>exact fun d h z=>⟨d,h,z,fun _=>rfl⟩
  | cons x _ ih=>
    intro d h z
    cases d with
    | nil=>simp at h
    | cons n r=>
      obtain ⟨r',h1,h2,h3⟩:=ih r (by simpa using h) fun y hy=>z y (List.mem_cons_of_mem _ hy)
      refine ⟨n::r',by simp [h1],fun y hy=>?_,fun sel=>by rw [dr,dr,h3]⟩
      rcases List.mem_cons.1 hy with rfl | hy
      · exact z _ (List.mem_cons_self ..)
      · exact h2 y hy
  | swap x y l=>
    intro d h z
    match d,h with
    | n::k::r,h=>
      refine ⟨k::n::r,by simpa using h,fun u hu=>z u ?_,fun sel=>by simp only [dr];omega⟩
      simp only [List.mem_cons] at hu ⊢
      rcases hu with hu | hu | hu
      · exact .inr (.inl hu)
      · exact .inl hu
      · exact .inr (.inr hu)
  | trans _ _ ih1 ih2=>
    intro d h z
    obtain ⟨d1,a1,a2,a3⟩:=ih1 d h z
    obtain ⟨d2,b1,b2,b3⟩:=ih2 d1 a1 a2
    exact ⟨d2,b1,b2,fun sel=>(b3 sel).trans (a3 sel)⟩
theorem zdj {hs ws:List Int} {wy wy':List (Int × Int)} (p:wy.Perm wy'):Sim ⟨hs,ws,wy⟩ ⟨hs,ws,wy'⟩:=⟨rfl,rfl,vjk p⟩
theorem vjv (sel:Int × Int→Bool) (w:Int × Int): ∀ {wy:List (Int × Int)} {d:List Int},dr sel (w::wy) (0::d)=dr sel wy d:=by
  intro wy d;rw [dr];split <;> omega
theorem wuq {hs ws:List Int} {wy:List (Int × Int)} (w:Int × Int):Sim ⟨hs,ws,wy⟩ ⟨hs,ws,w::wy⟩:=
  ⟨rfl,rfl,fun d h z=>⟨0::d,by simp [h],fun y hy=>(List.mem_cons.1 hy).elim (fun e=>by omega) (z y),fun sel=>vjv sel w⟩⟩
end Go.X.Flow
namespace Go.X.Flow
open Go.X

def setG (g h:Nat):Bool:=decide (g / 2 ^ h &&& 1=1)
def gB (a b c d e f:Bool):Nat:=(if a then 1 else 0)+(if b then 2 else 0)+(if c then 4 else 0)+(if d then 8 else 0)+(if e then 16 else 0)+(if f then 32 else 0)
theorem gB_bit: ∀ a b c d e f:Bool,setG (gB a b c d e f) 0=a∧setG (gB a b c d e f) 1=b∧setG (gB a b c d e f) 2=c∧setG (gB a b c d e f) 3=d∧setG (gB a b c d e f) 4=e∧setG (gB a b c d e f) 5=f:=by decide
theorem gB_lt: ∀ n:Nat,n<7→ ∀ a b c d e f:Bool,gB (a && decide (0<n)) (b && decide (1<n)) (c && decide (2<n)) (d && decide (3<n)) (e && decide (4<n)) (f && decide (5<n))<2 ^ n:=by decide +kernel
theorem vkq (n:Nat) (hn:n≤6) (X:Nat→Bool): ∃ g,g<2 ^ n∧ ∀ h,h<n→setG g h=X h:=by
  refine ⟨gB (X 0 && decide (0<n)) (X 1 && decide (1<n)) (X 2 && decide (2<n)) (X 3 && decide (3<n)) (X 4 && decide (4<n)) (X 5 && decide (5<n)),?_,fun h hh=>?_⟩
  · exact gB_lt n (by omega) _ _ _ _ _ _
  · obtain ⟨e0,e1,e2,e3,e4,e5⟩:=gB_bit (X 0 && decide (0<n)) (X 1 && decide (1<n)) (X 2 && decide (2<n)) (X 3 && decide (3<n)) (X 4 && decide (4<n)) (X 5 && decide (5<n))
    have h6:h<6:=by omega
    match h,hh,h6 with
    | 0,hh,_=>rw [e0,decide_eq_true hh,Bool.and_true]
    | 1,hh,_=>rw [e1,decide_eq_true hh,Bool.and_true]
    | 2,hh,_=>rw [e2,decide_eq_true hh,Bool.and_true]
    | 3,hh,_=>rw [e3,decide_eq_true hh,Bool.and_true]
    | 4,hh,_=>rw [e4,decide_eq_true hh,Bool.and_true]
    | 5,hh,_=>rw [e5,decide_eq_true hh,Bool.and_true]
theorem LG_in: ∀ g:Nat,g<64→ ∀ h:Nat,h<6→(setG g h=true↔((h:Nat):Int)∈LG g):=by decide +kernel
theorem zhv: ∀ g:Nat,g<64→(LG g).Pairwise (· < ·):=by decide +kernel

theorem zlq: ∀ {xs:List Int} {lo hi:Int},Rise xs lo hi→xs.Pairwise (· < ·)
  | [],_,_,_=>.nil
  | x::xs,lo,hi,h=>by
    have h2:Rise xs lo hi:=fun i hi2=>by
      have:=h (i+1) (by simp;omega)
      refine ⟨this.1,fun h0=>?_⟩
      have z:=this.2 (by omega)
      rw [show (((i+1:Nat):Int)-1).toNat=(((i:Nat):Int)-1).toNat+1 by omega] at z
      exact z
    have ih:=zlq h2
    cases xs with
    | nil=>exact .cons (fun _ hz=>absurd hz (List.not_mem_nil)) .nil
    | cons y ys=>
      have hxy:x<y:=(h 1 (by simp)).2 (by omega)
      refine .cons (fun z hz=>?_) ih
      rcases List.mem_cons.1 hz with rfl | hz
      · exact hxy
      · exact Int.lt_trans hxy ((List.pairwise_cons.1 ih).1 z hz)
theorem vgv {xs:List Int} {lo hi:Int} (h:Rise xs lo hi) {z:Int} (hz:z∈xs):lo≤z∧z≤hi:=by
  obtain ⟨i,hi,rfl⟩:=List.mem_iff_getElem.1 hz
  have:=(h i hi).1
  rwa [List.getD_eq_getElem?_getD,List.getElem?_eq_getElem hi] at this
theorem zlx {xs:List Int} {lo hi:Int} (h:xs.Pairwise (· < ·)) (b: ∀ z∈xs,lo≤z∧z≤hi):Rise xs lo hi:=fun i hi=>by
  refine ⟨?_,fun h0=>?_⟩
  · rw [List.getD_eq_getElem?_getD,List.getElem?_eq_getElem hi];exact b _ (List.getElem_mem hi)
  · rw [show ((i:Int)-1).toNat=i-1 by omega,List.getD_eq_getElem?_getD,List.getD_eq_getElem?_getD,List.getElem?_eq_getElem hi,List.getElem?_eq_getElem (show i-1<xs.length by omega)]
    exact List.pairwise_iff_getElem.1 h (i-1) i (by omega) hi (by omega)
theorem zaw: ∀ {a b:List Int},a.Pairwise (· < ·)→(∀ z∈a,z∈b)→a.length≤b.length
  | [],_,_,_=>Nat.zero_le _
  | x::a,b,h,s=>by
    obtain ⟨h1,h2⟩:=List.pairwise_cons.1 h
    have ih:=zaw (a:=a) (b:=b.erase x) h2 fun z hz=>(List.mem_erase_of_ne (by have:=h1 z hz;omega)).2 (s z (List.mem_cons_of_mem _ hz))
    have hx:x∈b:=s x List.mem_cons_self
    have:=List.length_erase_of_mem hx
    have:0<b.length:=List.length_pos_of_mem hx
    simp only [List.length_cons];omega

def wantL (t:Tn) (l:List Int) (k:Nat):Int:=sm k fun i=>t.hv (l.getD i 0).toNat
def isB (t:Tn) (l:List Int) (w:Int):Nat→Bool
  | 0=>false
  | k+1=>isB t l w k || (decide ((t.wy.getD k wz).2=w) && decide ((t.wy.getD k wz).1∈l))
def reachL (t:Tn) (l:List Int) (k:Nat):Int:=sm k fun w=>if isB t l ((w:Nat):Int) t.m then t.wv w else 0
def setL (l:List Int) (h:Nat):Bool:=decide (((h:Nat):Int)∈l)
theorem wow {t l w}: ∀ k,isB t l w k=true↔ ∃ i,i<k∧(t.wy.getD i wz).2=w∧(t.wy.getD i wz).1∈l
  | 0=>by simp [isB]
  | k+1=>by
    rw [isB,Bool.or_eq_true,wow k,Bool.and_eq_true,decide_eq_true_eq,decide_eq_true_eq]
    constructor
    · rintro (⟨i,hi,h⟩ | h)
      · exact ⟨i,by omega,h⟩
      · exact ⟨k,by omega,h⟩
    · rintro ⟨i,hi,h⟩
      by_cases e:i=k
      · subst e;exact .inr h
      · exact .inl ⟨i,by omega,h⟩
theorem woj {t:Tn} (O:OkT t) {l:List Int} {w:Nat}:isB t l ((w:Nat):Int) t.m=touch t (setL l) w:=by
  rw [Bool.eq_iff_iff,wow,xvz]
  constructor
  · rintro ⟨i,hi,h1,h2⟩
    have:=O.yp i hi
    refine ⟨i,hi,?_,?_⟩
    · show (t.wy.getD i wz).2.toNat=w;omega
    · unfold setL;rw [decide_eq_true_eq]
      have e:((t.wh i:Nat):Int)=(t.wy.getD i wz).1:=Int.toNat_of_nonneg this.1
      rw [e];exact h2
  · rintro ⟨i,hi,h1,h2⟩
    have:=O.yp i hi
    refine ⟨i,hi,?_,?_⟩
    · have h1:(t.wy.getD i wz).2.toNat=w:=h1
      omega
    · unfold setL at h2;rw [decide_eq_true_eq] at h2
      have e:((t.wh i:Nat):Int)=(t.wy.getD i wz).1:=Int.toNat_of_nonneg this.1
      rwa [e] at h2
theorem zlz {t:Tn} (O:OkT t) (l:List Int):reachL t l t.nW=reachX t (setL l):=xhj fun w _=>by
  show (if isB t l ((w:Nat):Int) t.m then t.wv w else 0)=t.wv w*inc (touch t (setL l) w)
  rw [woj O]
  cases touch t (setL l) w <;> simp [inc]
theorem ypj {t:Tn} (O:Ok t) {X Y:Nat→Bool} (h: ∀ i,i<t.nH→X i=Y i):reachX t X=reachX t Y:=xhj fun w _=>by
  have:touch t X w=touch t Y w:=by
    rw [Bool.eq_iff_iff,xvz,xvz]
    constructor
    · rintro ⟨i,hi,a,b⟩;exact ⟨i,hi,a,by rw [← h _ (O.y i hi).1];exact b⟩
    · rintro ⟨i,hi,a,b⟩;exact ⟨i,hi,a,by rw [h _ (O.y i hi).1];exact b⟩
  rw [this]
theorem ygq {t:Tn} {X Y:Nat→Bool} (h: ∀ i,i<t.nH→X i=Y i):wantX t X=wantX t Y:=xhj fun i hi=>by
  show t.hv i*inc (X i)=t.hv i*inc (Y i)
  rw [h i hi]
theorem yrx {t:Tn}: ∀ {l:List Int},l.Pairwise (· < ·)→(∀ z∈l,0≤z∧z<(t.nH:Int))→wantL t l l.length=wantX t (setL l)
  | [],_,_=>by
    have:wantX t (setL [])=sm t.nH fun _=>0:=xhj fun i _=>by
      show t.hv i*inc (setL [] i)=0
      have:setL [] i=false:=decide_eq_false List.not_mem_nil
      rw [this];exact Int.mul_zero _
    rw [this,xrw];rfl
  | x::l,h,b=>by
    obtain ⟨h1,h2⟩:=List.pairwise_cons.1 h
    have ih:=yrx (t:=t) h2 fun z hz=>b z (List.mem_cons_of_mem _ hz)
    have e1:wantL t (x::l) (x::l).length=t.hv x.toNat+wantL t l l.length:=by
      unfold wantL
      have:=zqz (fun i=>t.hv ((x::l).getD i 0).toNat) l.length
      exact this
    have hx:=b x List.mem_cons_self
    have e2:wantX t (setL (x::l))=wantX t (setL l)+sm t.nH fun i=>if x.toNat=i then t.hv i else 0:=by
      unfold wantX
      rw [← yaq]
      refine xhj fun i _=>?_
      show t.hv i*inc (setL (x::l) i)=t.hv i*inc (setL l i)+if x.toNat=i then t.hv i else 0
      by_cases e:x.toNat=i
      · have e3:((i:Nat):Int)=x:=by omega
        have n:setL l i=false:=decide_eq_false fun z=>by have:=h1 _ z;omega
        have y:setL (x::l) i=true:=decide_eq_true (by rw [e3];exact List.mem_cons_self)
        rw [n,y,if_pos e];simp [inc]
      · have:setL (x::l) i=setL l i:=by
          unfold setL;congr 1
          rw [List.mem_cons,eq_iff_iff]
          exact ⟨fun z=>z.resolve_left (by omega),.inr⟩
        rw [this,if_neg e,Int.add_zero]
    have e3:(sm t.nH fun i=>if x.toNat=i then t.hv i else 0)=t.hv x.toNat:=ytv (fun i=>t.hv i) (by omega)
    rw [e1,e2,e3,ih];omega

theorem wjz {t:Tn} {g w:Nat}:(0≤idxA (shq g w) t.wy↔touch t (setG g) w=true):=by
  rw [xzj,xvz]
  constructor
  · rintro ⟨x,hx,h⟩
    obtain ⟨i,hi,rfl⟩:=List.mem_iff_getElem.1 hx
    unfold shq at h;rw [decide_eq_true_eq] at h
    have e:t.wy.getD i wz=t.wy[i]:=by rw [List.getD_eq_getElem?_getD,List.getElem?_eq_getElem hi];rfl
    refine ⟨i,hi,?_,?_⟩
    · show (t.wy.getD i wz).2.toNat=w;rw [e];exact h.1
    · unfold setG;rw [decide_eq_true_eq];show g / 2 ^ (t.wy.getD i wz).1.toNat &&& 1=1;rw [e];exact h.2
  · rintro ⟨i,hi,a,b⟩
    have e:t.wy.getD i wz=t.wy[i]:=by rw [List.getD_eq_getElem?_getD,List.getElem?_eq_getElem hi];rfl
    refine ⟨t.wy[i],List.getElem_mem hi,?_⟩
    unfold shq;rw [decide_eq_true_eq,← e]
    unfold setG at b;rw [decide_eq_true_eq] at b
    exact ⟨a,b⟩
theorem wkq {t:Tn} (O:Ok t) {g:Nat} (hg:g<2 ^ t.nH): ∀ h,h<t.nH→setG g h=setL (LG g) h:=fun h hh=>by
  have h64:g<64:=Nat.lt_of_lt_of_le hg (yjj O)
  have h6:=O.nh
  rw [Bool.eq_iff_iff,LG_in g h64 h (by omega)]
  unfold setL;rw [decide_eq_true_eq]
theorem wbv {t:Tn} (O:Ok t) {g:Nat} (hg:g<2 ^ t.nH): ∀ z∈LG g,0≤z∧z<(t.nH:Int):=fun z hz=>by
  have:=List.all_eq_true.1 (vez t.nH O.nh g hg) z hz
  simpa using this
theorem ytw {t:Tn} (O:OkT t) {g:Nat} (hg:g<2 ^ t.nH):shortN t g=wantX t (setG g)-reachX t (setG g):=by
  have h64:g<64:=Nat.lt_of_lt_of_le hg (yjj O.toOk)
  unfold shortN
  have e1:wantG t g (LG g).length=wantX t (setG g):=by
    rw [ygq (wkq O.toOk hg),← yrx (zhv g h64) (wbv O.toOk hg)];rfl
  have e2:reachG t g t.nW=reachX t (setG g):=xhj fun w _=>by
    show (if 0≤idxA (shq g w) t.wy then t.wv w else 0)=t.wv w*inc (touch t (setG g) w)
    by_cases c:0≤idxA (shq g w) t.wy
    · rw [if_pos c,wjz.1 c];simp [inc]
    · rw [if_neg c,Bool.eq_false_iff.2 fun e=>c (wjz.2 e)];simp [inc]
  rw [e1,e2]
theorem zej {l b:List Int}:prec l b↔l.length<b.length∨(l.length=b.length∧cmpL l b<0):=by
  unfold prec
  simp only [orI]
  split
  · split <;> omega
  · omega
theorem vjw {x y:Int}:cmpI x y<0↔x<y:=by unfold cmpI;(repeat' split) <;> omega
theorem wrx {x y:Int}:cmpI x y=0↔x=y:=by unfold cmpI;(repeat' split) <;> omega
theorem yqx {x y:Int} {xs ys:List Int}:cmpL (x::xs) (y::ys)<0↔x<y∨(x=y∧cmpL xs ys<0):=by
  rw [cmpL]
  split
  · rename_i h;have:=wrx.1 h;omega
  · rename_i h;rw [vjw]
    have: ¬ x=y:=fun e=>h (wrx.2 e)
    omega
theorem yyw: ∀ l:List Int,¬ cmpL l l<0
  | []=>by simp [cmpL]
  | x::l=>fun h=>by
    rcases yqx.1 h with h | h
    · omega
    · exact yyw l h.2
theorem zcz: ∀ {a b c:List Int},a.length=b.length→b.length=c.length→cmpL a b<0→cmpL b c<0→cmpL a c<0
  | [],[],[],_,_,h,_=>h
  | x::a,y::b,z::c,h1,h2,h,k=>by
    rw [yqx] at h k ⊢
    rcases h with h | h
    · rcases k with k | k <;> omega
    · rcases k with k | k
      · omega
      · exact .inr ⟨by omega,zcz (by simpa using h1) (by simpa using h2) h.2 k.2⟩
theorem yvz (l:List Int): ¬ prec l l:=fun h=>by
  rcases zej.1 h with h | h
  · omega
  · exact yyw l h.2
theorem wdv {a b c:List Int} (h:prec a b) (k:prec b c):prec a c:=by
  rw [zej] at h k ⊢
  rcases h with h | h <;> rcases k with k | k
  · omega
  · omega
  · omega
  · exact .inr ⟨by omega,zcz h.1 k.1 h.2 k.2⟩
theorem yuq {t:Tn} (O:Ok t): ∀ k,k≤2 ^ t.nH→(shortF t k=[]∧ ∀ g,g<k→ ¬ 0<shortN t g)∨(∃ g,g<k∧0<shortN t g∧shortF t k=LG g∧ ∀ g',g'<k→0<shortN t g'→ ¬ prec (LG g') (shortF t k))
  | 0,_=>.inl ⟨rfl,fun g hg=>absurd hg (by omega)⟩
  | k+1,hk=>by
    rcases yuq O k (by omega) with ⟨e,h⟩ | ⟨g,hg,hp,e,h⟩
    · by_cases c:0<shortN t k
      · rw [ydw c (.inl e)]
        refine .inr ⟨k,by omega,c,rfl,fun g' hg' hp'=>?_⟩
        have:g'=k:=by
          by_cases q:g'<k
          · exact absurd hp' (h g' q)
          · omega
        subst this;exact yvz _
      · rw [yeq c]
        refine .inl ⟨e,fun g hg=>?_⟩
        by_cases q:g=k
        · subst q;exact c
        · exact h g (by omega)
    · have n0: ¬ shortF t k=[]:=by rw [e];exact yjq O hp
      by_cases c:0<shortN t k
      · by_cases q:prec (LG k) (shortF t k)
        · rw [ydw c (.inr q)]
          refine .inr ⟨k,by omega,c,rfl,fun g' hg' hp'=>?_⟩
          by_cases r:g'=k
          · subst r;exact yvz _
          · exact fun y=>h g' (by omega) hp' (wdv y q)
        · rw [ynj n0 q]
          refine .inr ⟨g,by omega,hp,e,fun g' hg' hp'=>?_⟩
          by_cases r:g'=k
          · subst r;exact q
          · exact h g' (by omega) hp'
      · rw [yeq c]
        refine .inr ⟨g,by omega,hp,e,fun g' hg' hp'=>?_⟩
        by_cases r:g'=k
        · subst r;exact absurd hp' c
        · exact h g' (by omega) hp'
theorem vfq {t:Tn} (V:Vd t) (X:Nat→Bool):Vd (only t X):=by
  refine ⟨by rw [ybz];exact V.nh,V.nw,fun h hh=>?_,V.w,fun i hi=>?_⟩
  · rw [ybz] at hh
    have e:(only t X).hs.getD h 0=t.hv h*inc (X h):=zrw hh
    have:=V.h h hh
    rw [e];unfold Tn.hv inc;split <;> omega
  · have:=V.y i hi
    unfold YOk at this ⊢
    rw [ybz]
    exact this
structure ShortF (t:Tn):Prop where
  k:shortE t=0∨shortE t=3
  a:shortE t=0↔0<worstV t
  b:shortE t=0→shortP t≠[]
  n: ¬ shortE t=0→shortP t=[]
  r:Rise (shortP t) 0 ((t.nH:Int)-1)
  w:shortE t=0→reachL t (shortP t) t.nW<wantL t (shortP t) (shortP t).length
  sub: ∀ l,Rise l 0 ((t.nH:Int)-1)→(shortE t=0→l.length<(shortP t).length)→ ∀ Y:Nat→Bool,(∀ i,Y i=true→setL l i=true)→wantX t Y≤reachX t Y
theorem lk_pos {t:Tn} (O:Ok t):0<worstV t↔ ∃ i,i<t.nH∧0<lack t (fairP t none0) i:=by
  unfold worstV
  constructor
  · intro h
    have:0<(LK t).length:=by
      cases e:LK t with
      | nil=>rw [e] at h;simp at h
      | cons _ _=>simp
    have m:(LK t).getD 0 0∈LK t:=by rw [List.getD_eq_getElem?_getD,List.getElem?_eq_getElem this];exact List.getElem_mem this
    obtain ⟨i,hi,e⟩:=ycw.1 m
    exact ⟨i,hi,by rw [e];exact h⟩
  · rintro ⟨i,hi,h⟩
    have m:lack t (fairP t none0) i∈LK t:=ycw.2 ⟨i,hi,rfl⟩
    obtain ⟨j,hj,e⟩:=List.mem_iff_getElem.1 m
    have d:=wtq t
    have e0:(LK t).getD 0 0=(LK t)[0]'(by omega):=by rw [List.getD_eq_getElem?_getD,List.getElem?_eq_getElem (by omega)];rfl
    have:(LK t)[j]≤(LK t)[0]'(by omega):=by
      by_cases q:j=0
      · subst q;exact Int.le_refl _
      · exact List.pairwise_iff_getElem.1 d 0 j (by omega) hj (by omega)
    have:=O.nh
    omega
theorem zqj {t:Tn} (O:OkT t) (hc:chkB t=0):ShortF t:=by
  have spec:=yuq O.toOk (2 ^ t.nH) (Nat.le_refl _)
  have key: ∀ Y:Nat→Bool,reachX t Y<wantX t Y→ ∃ g,g<2 ^ t.nH∧0<shortN t g∧ ∀ h,h<t.nH→setG g h=Y h:=fun Y h=>by
    obtain ⟨g,hg,e⟩:=vkq t.nH O.nh Y
    refine ⟨g,hg,?_,e⟩
    rw [ytw O hg,ygq e,ypj O.toOk e];omega
  have E0:shortP t=[]→shortE t=3:=fun h=>zwz hc h
  have E1:shortP t≠[]→shortE t=0:=fun h=>zdk hc h
  have pos:0<worstV t↔ ∃ g,g<2 ^ t.nH∧0<shortN t g:=by
    rw [lk_pos O.toOk]
    constructor
    · intro h
      obtain ⟨X,hX⟩:=yiw O.toOk (xjw O.toOk xlj) h
      obtain ⟨g,hg,hp,_⟩:=key X hX
      exact ⟨g,hg,hp⟩
    · rintro ⟨g,hg,hp⟩
      rw [ytw O hg] at hp
      obtain ⟨i,hi,_,h⟩:=zfj O.toOk (xjw O.toOk xlj).div (X:=setG g) (by omega)
      exact ⟨i,hi,h⟩
  rcases spec with ⟨e,h⟩ | ⟨g,hg,hp,e,h⟩
  · have e:shortP t=[]:=e
    have e3:=E0 e
    refine ⟨.inr e3,⟨fun z=>by omega,fun z=>?_⟩,fun z=>by omega,fun _=>e,?_,fun z=>by omega,fun l _ _ Y hY=>?_⟩
    · obtain ⟨g,hg,hp⟩:=pos.1 z;exact absurd hp (h g hg)
    · rw [e];intro i hi;simp at hi
    · by_cases q:wantX t Y≤reachX t Y
      · exact q
      · obtain ⟨g,hg,hp,_⟩:=key Y (by omega);exact absurd hp (h g hg)
  · have h64:g<64:=Nat.lt_of_lt_of_le hg (yjj O.toOk)
    have e:shortP t=LG g:=e
    have n0:shortP t≠[]:=by rw [e];exact yjq O.toOk hp
    have e3:=E1 n0
    have rs:Rise (shortP t) 0 ((t.nH:Int)-1):=by rw [e];exact zlx (zhv g h64) fun z hz=>by have:=wbv O.toOk hg z hz;omega
    refine ⟨.inl e3,⟨fun _=>pos.2 ⟨g,hg,hp⟩,fun _=>e3⟩,fun _=>n0,fun z=>absurd e3 z,rs,fun _=>?_,fun l hl hs Y hY=>?_⟩
    · rw [ytw O hg] at hp
      rw [e,zlz O,yrx (zhv g h64) (wbv O.toOk hg),← ygq (wkq O.toOk hg),← ypj O.toOk (wkq O.toOk hg)];omega
    · by_cases q:wantX t Y≤reachX t Y
      · exact q
      · exfalso
        obtain ⟨g',hg',hp',eY⟩:=key Y (by omega)
        have np: ¬ prec (LG g') (shortP t):=h g' hg' hp'
        rw [zej] at np
        have h64':g'<64:=Nat.lt_of_lt_of_le hg' (yjj O.toOk)
        have:=zaw (b:=l) (zhv g' h64') fun z hz=>by
          have hb:=wbv O.toOk hg' z hz
          have ez:((z.toNat:Nat):Int)=z:=Int.toNat_of_nonneg hb.1
          have h1:setG g' z.toNat=true:=(LG_in g' h64' z.toNat (by have:=O.nh;omega)).2 (by rw [ez];exact hz)
          rw [eY _ (by omega)] at h1
          have h2:=hY _ h1
          unfold setL at h2;rw [decide_eq_true_eq,ez] at h2;exact h2
        have:=hs e3
        omega
theorem wjk {t:Tn} (O:OkT t) (F:ShortF t) {l:List Int} (hl:Rise l 0 ((t.nH:Int)-1)) (hs:shortE t=0→l.length<(shortP t).length):wantL t l l.length≤reachL t l t.nW:=by
  rw [zlz O,yrx (zlq hl) fun z hz=>by have:=vgv hl hz;omega]
  exact F.sub l hl hs _ fun _ h=>h
theorem wjj {t:Tn} (V:Vd t) (h12:t.m≤12) (O:OkT t) (F:ShortF t) {l:List Int} (hl:Rise l 0 ((t.nH:Int)-1)) (hs:shortE t=0→l.length<(shortP t).length):chkB (only t (setL l))=0∧worstV (only t (setL l))=0:=by
  have V2:=vfq V (setL l)
  have c:=xpq (show (only t (setL l)).m≤12 from h12) V2
  have O2:=xtz c
  refine ⟨c,?_⟩
  have z:=wnz O.toOk (X:=setL l) (F.sub l hl hs) xlj
  unfold worstV
  by_cases q:0<(LK (only t (setL l))).length
  · have b:=yzj O2.toOk (i:=0) q
    have m:(LK (only t (setL l))).getD 0 0∈LK (only t (setL l)):=by rw [List.getD_eq_getElem?_getD,List.getElem?_eq_getElem q];exact List.getElem_mem q
    have:=z _ m
    omega
  · have:LK (only t (setL l))=[]:=List.length_eq_zero_iff.1 (by omega)
    rw [this];rfl
def zeroK (t:Tn) (l:List Int) (k:Nat):List Int:=(List.range t.nH).map fun h=>if h<k then (if ((h:Nat):Int)∈l then t.hv h else 0) else t.hv h
theorem xxx {t l k}:(zeroK t l k).length=t.nH:=by simp [zeroK]
theorem yzk {t l}:zeroK t l 0=t.hs:=by
  apply List.ext_getElem (by rw [xxx];rfl)
  intro i h1 h2
  simp only [zeroK,List.getElem_map,List.getElem_range,Nat.not_lt_zero,if_false]
  unfold Tn.hv;rw [List.getD_eq_getElem?_getD,List.getElem?_eq_getElem h2];rfl
theorem zuj {t l k} (h:((k:Nat):Int)∈l):zeroK t l (k+1)=zeroK t l k:=List.map_congr_left fun i _=>by
  by_cases e:i=k
  · subst e;simp [h]
  · by_cases q:i<k
    · have q2:i<k+1:=by omega
      simp [q,q2]
    · have q2: ¬ i<k+1:=by omega
      simp [q,q2]
theorem zhw {t l k} (h: ¬ ((k:Nat):Int)∈l):(zeroK t l k).set k 0=zeroK t l (k+1):=by
  apply List.ext_getElem (by simp [zeroK])
  intro i h1 h2
  rw [List.getElem_set]
  simp only [zeroK,List.getElem_map,List.getElem_range]
  by_cases e:k=i
  · subst e;simp [h]
  · rw [if_neg e]
    by_cases q:i<k
    · have q2:i<k+1:=by omega
      simp [q,q2]
    · have q2: ¬ i<k+1:=by omega
      simp [q,q2]
theorem ziq {t l}:zeroK t l t.nH=(only t (setL l)).hs:=List.map_congr_left fun i hi=>by
  have hi:=List.mem_range.1 hi
  rw [if_pos hi]
  unfold setL
  by_cases q:((i:Nat):Int)∈l
  · rw [if_pos q,decide_eq_true q];simp [inc]
  · rw [if_neg q,decide_eq_false q];simp [inc]
theorem wlz {t l w} (h:isB t l ((w:Nat):Int) t.m=true):reachL t l (w+1)=reachL t l w+t.wv w:=by
  show reachL t l w+(if isB t l ((w:Nat):Int) t.m then t.wv w else 0)=_
  rw [if_pos h]
theorem wlj {t l w} (h:isB t l ((w:Nat):Int) t.m=false):reachL t l (w+1)=reachL t l w:=by
  show reachL t l w+(if isB t l ((w:Nat):Int) t.m then t.wv w else 0)=_
  rw [h];simp
theorem zrx {l:List Int} {n m:Nat} (h:Rise l 0 ((n:Int)-1)) (e:l.length=m): ∀ i,i<m→0≤l.getD i 0∧(l.getD i 0).toNat<n:=fun i hi=>by
  have:=(h i (by omega)).1
  omega
theorem wov {t l w k} {b c:Bool} (hb:b=isB t l w k) (h:c=(b || (decide ((t.wy.getD k wz).2=w) && decide ((t.wy.getD k wz).1∈l)))):c=isB t l w (k+1):=by rw [h,hb];rfl
end Go.X.Flow
namespace Go.Proofs.YtalfgojocdonhaaDoor
open Go.X Go.X.Flow Go.Conc
set_option maxRecDepth 10000
set_option synthInstance.maxSize 2000

set_option maxHeartbeats 2000000
theorem c39 (md:Md) (h:Heap) (p:PHeap) (hp:Per p h) (a1 a2 a3:Option Addr) (c1 c2 c3:Nat) (t:Tn) (T:TownP p a1 t.nH a2 t.nW a3 t.m t) (hn:t.nH≤40∧t.nW≤40∧t.m≤41) (b:Option Addr) (m cb:Nat) (l:List Int) (D:Ints p b m l) (hm:m≤40) (O:OkT t) (hl: ∀ i,i<m→0≤l.getD i 0∧(l.getD i 0).toNat<t.nH):CallsX Tryd.prog md 39 #[.agg #[.slice a1 t.nH c1,.slice a2 t.nW c2,.slice a3 t.m c3],.slice b m cb] h fun v h'=>v= .int .i64 (wantL t l l.length)∧Keep h h':=by
 refine xcw (Φ:=fun h_=>St h [] p h_ []) Tryd.func39 rfl (tm:=zq8 (zq16 [])) rfl ?_ (St.start h _ hp)
 intro c₀ cs Stop K
 refine fsr ?_
 refine xiw mn (v:=.agg #[.slice a1 t.nH c1,.slice a2 t.nW c2,.slice a3 t.m c3]) rfl fun b1=>xcj (L':=[(b1,.cells #[.slice a1 t.nH c1,.slice a2 t.nW c2,.slice a3 t.m c3] 25 (0,0))]) rfl ?_
 refine ro (xax (v:=.int .i64 0) rfl) <| ren <| xbq <| rt (xax (v:=.int .i64 0) rfl) (tm':=zq2 (zq4 _)) rfl <| ren <| fsr ?_
 refine ro (xax (v:=.int .i64 0) rfl) <| xak <| xek ?_
 refine xiv (m₀:=m-0) (fun m_ tm_ h_=>∃ (k:Nat) (s:Int),m_=m-k∧(∃ y2:Nat→Value,tm_=[.agg #[.slice a1 t.nH c1,.slice a2 t.nW c2,.slice a3 t.m c3],.slice b m cb,.pointer (some ⟨b1,0,none⟩),undef,.int .i64 0,.int .i64 (s),.int .i64 (((k:Nat):Int)),(y2 7),(y2 8),(y2 9),(y2 10),(y2 11),(y2 12),(y2 13),(y2 14),(y2 15),(y2 16),(y2 17),(y2 18),(y2 19),(y2 20),(y2 21),(y2 22),undef])∧(k≤m)∧(s=wantL t l k)∧(0≤s∧s≤9*k)∧St h [] p h_ ([(b1,.cells #[.slice a1 t.nH c1,.slice a2 t.nW c2,.slice a3 t.m c3] 25 (0,0))])) (fun h_ H_=>⟨0,0,rfl,(y_of rfl),Nat.zero_le _,rfl,(by decide),H_⟩) ?_
 intro m_ tm_ IH3
 refine xij fun k=>xij fun s=>xdz fun hm_=>xdz fun ht_=>xdz fun hk=>xdz fun hs=>xdz fun h2=>?_
 subst hm_;obtain ⟨y2,ht_⟩:=ht_;subst ht_
 have hl_:=fun z_:k<m=>hl k z_
 have h9_: ∀ z_:k<m,0≤t.hs.getD (l.getD k 0).toNat 0∧t.hs.getD (l.getD k 0).toNat 0≤9:=fun z_=>O.h _ (hl k z_).2
 refine xej <| fsr <| ro (xaq (v:=.int .i64 (((k:Nat):Int))) rfl) <| rt (xaq (v:=.slice b m cb) rfl) (tm':=zq1 (zq8 _)) rfl <| ro (xfk Tryd.underlying22 rfl) <| ro (xgw rfl rfl) ?_
 refine xak ?_
 by_cases cc4:((k:Nat):Int)<((m:Nat):Int)
 ·
  refine xdk rfl (dtt cc4) <| xdq <| xej <| xek ?_
  refine xfw 9 [[],[],[1],[],[],[3,4],[3,4,5],[1,2,3,4,5,6],[1,2,3,4,5,6,7],[],[]] xlq (by kernel_rfl) (Nat.le_of_ble_eq_true rfl) ?_
  refine wo (xaq (v:=.int .i64 (s)) rfl) <| wt (xaz xmz rfl (a':=⟨b1,0,none⟩) rfl) (tm':=zq1 (zq2 (zq4 (zq8 _)))) rfl <| wd (fun h_ H_=>xaj H_ tA22 rfl (i:=0) rfl (v:=.slice a1 t.nH c1) rfl) <| wt (xaq (v:=.slice b m cb) rfl) (tm':=zq8 (zq16 [])) rfl <| wo (xaq (v:=.int .i64 (((k:Nat):Int))) rfl) ?_
  refine wt (xcz (i:=k) Tryd.underlying22 tS3 (xkq b m cb (D.ne (by omega))) rfl (by omega)) (tm':=zq8 (zq16 [])) rfl ?_
  refine wd (fun h_ H_=>xbv H_ tA3 rfl (v:=.int .i64 (l.getD k 0)) (D.get (by omega))) ?_
  refine wt (xlx Tryd.underlying22 tS3 (xkq a1 t.nH c1 (T.h.ne (by omega))) rfl (by omega) (by omega) (a':=(adr a1).add ((((l.getD k 0)).toNat)*1)) rfl) (tm':=zq8 (zq16 [])) rfl ?_
  refine wd (fun h_ H_=>xbv H_ tA3 rfl (v:=.int .i64 (t.hs.getD (((l.getD k 0)).toNat) 0)) (T.h.get (by omega))) ?_
  refine xiz rfl ?_
  refine rt (xfx rfl rfl (wr (by have z_:=h9_ (by omega);omega))) (tm':=zq8 (zq16 [])) rfl ?_
  refine ro (xax (v:=.int .i64 (s+(t.hs.getD (((l.getD k 0)).toNat) 0))) rfl) <| xak <| xeq <| xbq <| ro (xaq (v:=.int .i64 (((k:Nat):Int))) rfl) ?_
  refine rt (xfx rfl rfl (n:=((k+1:Nat):Int)) (wr (by omega))) (tm':=zq1 (zq4 (zq8 _))) rfl ?_
  refine ro (xax (v:=.int .i64 (((k+1:Nat):Int))) rfl) <| xak ?_
  exact fun h_ H_=>IH3 _ _ (by omega) h_ ⟨k+1,s+(t.hs.getD (((l.getD k 0)).toNat) 0),rfl,(y_of rfl),(by omega),(by rw [hs];rfl),(by have z_:=h9_ (by omega);omega),H_⟩
 ·
  refine xcv rfl (dff cc4) <| xiq rfl <| fsr <| ro (xaq (v:=.int .i64 (s)) rfl) <| rt (xax (v:=.int .i64 (s)) rfl) (tm':=zq1 (zq4 _)) rfl <| xak ?_
  refine xew Tryd.func39 rfl (vs:=[.int .i64 (s)]) (fun h_ H_=>⟨.int .i64 (s),_,rfl,rfl,rfl⟩) (v:=.int .i64 (s)) rfl ?_
  have e_:k=l.length:=by have z_:=D.len;omega
  exact fun h_ H_=>K _ _ ⟨by rw [hs,e_],H_.kept⟩
theorem c40 (md:Md) (h:Heap) (p:PHeap) (hp:Per p h) (a1 a2 a3:Option Addr) (c1 c2 c3:Nat) (t:Tn) (T:TownP p a1 t.nH a2 t.nW a3 t.m t) (hn:t.nH≤40∧t.nW≤40∧t.m≤41) (b:Option Addr) (m cb:Nat) (l:List Int) (D:Ints p b m l) (hm:m≤40) (O:OkT t):CallsX Tryd.prog md 40 #[.agg #[.slice a1 t.nH c1,.slice a2 t.nW c2,.slice a3 t.m c3],.slice b m cb] h fun v h'=>v= .int .i64 (reachL t l t.nW)∧Keep h h':=by
 refine xcw (Φ:=fun h_=>St h [] p h_ []) Tryd.func40 rfl (tm:=zq1 (zq4 (zq16 (zq32 [])))) rfl ?_ (St.start h _ hp)
 intro c₀ cs Stop K
 have oW_:=O.nw
 have oM_:=O.nm
 refine fsr ?_
 refine xiw mn (v:=.agg #[.slice a1 t.nH c1,.slice a2 t.nW c2,.slice a3 t.m c3]) rfl fun b1=>xcj (L':=[(b1,.cells #[.slice a1 t.nH c1,.slice a2 t.nW c2,.slice a3 t.m c3] 25 (0,0))]) rfl ?_
 refine ro (xax (v:=.int .i64 0) rfl) <| ren <| xbq <| rt (xax (v:=.int .i64 0) rfl) (tm':=zq2 (zq4 _)) rfl <| ren <| fsr ?_
 refine ro (xax (v:=.int .i64 0) rfl) <| xak <| xek ?_
 refine xiv (m₀:=t.nW-0) (fun m_ tm_ h_=>∃ (w:Nat) (s:Int),m_=t.nW-w∧(∃ y2:Nat→Value,tm_=[.agg #[.slice a1 t.nH c1,.slice a2 t.nW c2,.slice a3 t.m c3],.slice b m cb,.pointer (some ⟨b1,0,none⟩),undef,.int .i64 0,.int .i64 (s),.int .i64 (((w:Nat):Int)),(y2 7),(y2 8),(y2 9),(y2 10),(y2 11),(y2 12),(y2 13),(y2 14),(y2 15),(y2 16),(y2 17),(y2 18),(y2 19),(y2 20),(y2 21),(y2 22),(y2 23),(y2 24),(y2 25),(y2 26),(y2 27),(y2 28),(y2 29),(y2 30),(y2 31),(y2 32),(y2 33),(y2 34),(y2 35),(y2 36),(y2 37),(y2 38),(y2 39),(y2 40),(y2 41),(y2 42),(y2 43),(y2 44),(y2 45),(y2 46),(y2 47),(y2 48),(y2 49),(y2 50),(y2 51),undef])∧(w≤t.nW)∧(s=reachL t l w)∧(0≤s∧s≤21*w)∧St h [] p h_ ([(b1,.cells #[.slice a1 t.nH c1,.slice a2 t.nW c2,.slice a3 t.m c3] 25 (0,0))])) (fun h_ H_=>⟨0,0,rfl,(y_of rfl),Nat.zero_le _,rfl,(by decide),H_⟩) ?_
 intro m_ tm_ IH3
 refine xij fun w=>xij fun s=>xdz fun hm_=>xdz fun ht_=>xdz fun hw=>xdz fun hs=>xdz fun h2=>?_
 subst hm_;obtain ⟨y2,ht_⟩:=ht_;subst ht_
 have h9_: ∀ z_:w<t.nW,0≤t.ws.getD w 0∧t.ws.getD w 0≤21:=fun z_=>O.w w z_
 refine xej <| fsr <| ro (xaq (v:=.int .i64 (((w:Nat):Int))) rfl) <| rt (xaz xnj rfl (a':=⟨b1,1,none⟩) rfl) (tm':=zq1 (zq2 (zq8 _))) rfl <| rd (fun h_ H_=>xaj H_ tA22 rfl (i:=0) rfl (v:=.slice a2 t.nW c2) rfl) <| ro (xfk Tryd.underlying22 rfl) ?_
 refine rt (xgw rfl rfl) (tm':=zq2 (zq4 (zq8 _))) rfl <| xak ?_
 by_cases cc4:((w:Nat):Int)<((t.nW:Nat):Int)
 ·
  refine xdk rfl (dtt cc4) <| xdq <| xej <| xek <| fsr <| ro (xax (v:=.bool (false)) rfl) ?_
  refine ren <| fsr <| ro (xax (v:=.int .i64 0) rfl) <| xak <| xek ?_
  refine xiv (m₀:=t.m-0) (fun m_ tm_ h_=>∃ (k:Nat) (b_:Bool),m_=t.m-k∧(∃ y5:Nat→Value,tm_=[.agg #[.slice a1 t.nH c1,.slice a2 t.nW c2,.slice a3 t.m c3],.slice b m cb,.pointer (some ⟨b1,0,none⟩),undef,.int .i64 0,.int .i64 (s),.int .i64 (((w:Nat):Int)),.bool (b_),.int .i64 (((k:Nat):Int)),.int .i64 (((w:Nat):Int)),.pointer (some ⟨b1,1,none⟩),.slice a2 t.nW c2,.int .i64 (((t.nW:Nat):Int)),.bool (decide (((w:Nat):Int)<((t.nW:Nat):Int))),(y2 14),(y2 15),(y5 16),(y5 17),(y5 18),(y5 19),(y5 20),(y5 21),(y5 22),(y5 23),(y5 24),(y5 25),(y5 26),(y5 27),(y5 28),(y5 29),(y5 30),(y5 31),(y5 32),(y5 33),(y5 34),(y5 35),(y5 36),(y5 37),(y5 38),(y5 39),(y5 40),(y5 41),(y5 42),(y5 43),(y2 44),(y2 45),(y2 46),(y2 47),(y2 48),(y2 49),(y2 50),(y2 51),undef])∧(k≤t.m)∧(b_=isB t l ((w:Nat):Int) k)∧St h [] p h_ ([(b1,.cells #[.slice a1 t.nH c1,.slice a2 t.nW c2,.slice a3 t.m c3] 25 (0,0))])) (fun h_ H_=>⟨0,false,rfl,(y_of rfl),Nat.zero_le _,rfl,H_⟩) ?_
  intro m_ tm_ IH6
  refine xij fun k=>xij fun b_=>xdz fun hm_=>xdz fun ht_=>xdz fun hk=>xdz fun hb=>?_
  subst hm_;obtain ⟨y5,ht_⟩:=ht_;subst ht_
  refine xej <| fsr <| rt (xaq (v:=.int .i64 (((k:Nat):Int))) rfl) (tm':=zq1 (zq16 _)) rfl <| ro (xaz xhv rfl (a':=⟨b1,2,none⟩) rfl) <| rd (fun h_ H_=>xaj H_ tA23 rfl (i:=0) rfl (v:=.slice a3 t.m c3) rfl) <| rt (xfk Tryd.underlying23 rfl) (tm':=zq4 (zq16 _)) rfl ?_
  refine ro (xgw rfl rfl) <| xak ?_
  by_cases cc7:((k:Nat):Int)<((t.m:Nat):Int)
  ·
   refine xdk rfl (dtt cc7) <| xdq <| xej <| xek <| xbq <| ro (xaq (v:=.bool (b_)) rfl) ?_
   refine rt (xaq (v:=.bool (b_)) rfl) (tm':=zq1 (zq8 (zq16 _))) rfl ?_
   rcases xwx (b_) with cc8 | cc8
   ·
    refine rp (mo rfl rfl cc8) <| rp (mo rfl rfl cc8) <| xfq (mo rfl rfl cc8) (tm':=zq4 (zq8 (zq16 _))) rfl <| rp (mo rfl rfl cc8) <| rp (mo rfl rfl cc8) <| xfq (mo rfl rfl cc8) (tm':=zq1 (zq2 (zq4 (zq8 (zq16 _))))) rfl ?_
    refine rp (mo rfl rfl cc8) <| rp (mo rfl rfl cc8) <| xfq (mo rfl rfl cc8) (tm':=zq2 (zq32 _)) rfl <| rp (xex rfl rfl) <| rp (xex rfl rfl) <| xfq (xex rfl rfl) (tm':=zq1 (zq4 (zq16 (zq32 [])))) rfl ?_
    refine rp (xex rfl rfl) <| rp (xex rfl rfl) <| xfq (xex rfl rfl) (tm':=zq1 (zq4 (zq16 (zq32 [])))) rfl <| rp (xex rfl rfl) <| rp (xex rfl rfl) <| xfq (mo rfl rfl cc8) (tm':=zq1 (zq4 (zq16 (zq32 [])))) rfl ?_
    refine ro (xbj rfl cc8 (v:=.bool (true)) rfl) <| ro (xax (v:=.bool (true)) rfl) <| xak <| xeq <| xbq <| rt (xaq (v:=.int .i64 (((k:Nat):Int))) rfl) (tm':=zq2 (zq4 (zq16 _))) rfl ?_
    refine ro (xfx rfl rfl (n:=((k+1:Nat):Int)) (wr (by omega))) ?_
    refine ro (xax (v:=.int .i64 (((k+1:Nat):Int))) rfl) <| xak ?_
    exact fun h_ H_=>IH6 _ _ (by omega) h_ ⟨k+1,true,rfl,(y_of rfl),(by omega),(wov hb (by first | (rw [show b_=true by assumption];rfl) | (rw [show b_=false by assumption,decide_eq_true (show (t.wy.getD k wz).2=((w:Nat):Int) by assumption)];rfl) | (rw [show b_=false by assumption,decide_eq_false (show ¬ (t.wy.getD k wz).2=((w:Nat):Int) by assumption)];rfl))),H_⟩
   ·
    refine xaw (ms rfl rfl cc8) (fun h_ H_=>xaz xhv rfl (a':=⟨b1,2,none⟩) rfl) (tm':=zq2 (zq8 (zq16 _))) rfl ?_
    refine xaw (ms rfl rfl cc8) (fun h_ H_=>xaj H_ tA23 rfl (i:=0) rfl (v:=.slice a3 t.m c3) rfl) rfl ?_
    refine xaw (ms rfl rfl cc8) (fun h_ H_=>xaq (v:=.int .i64 (((k:Nat):Int))) rfl) rfl ?_
    refine xaw (ms rfl rfl cc8) (fun h_ H_=>xcz (i:=k) Tryd.underlying23 tS43 (xkq a3 t.m c3 (T.y.ne (by omega))) rfl (by omega)) (tm':=zq1 (zq4 (zq8 (zq16 _)))) rfl ?_
    refine xaw (ms rfl rfl cc8) (fun h_ H_=>xaz xpk rfl (a':=((adr a3).add (k*2)).add 1) rfl) rfl ?_
    refine xaw (ms rfl rfl cc8) (fun h_ H_=>xbv H_ tA3 rfl (v:=.int .i64 ((t.wy.getD k wz).2)) (T.y.we (by omega))) rfl ?_
    refine xaw (ms rfl rfl cc8) (fun h_ H_=>xaq (v:=.int .i64 (((w:Nat):Int))) rfl) (tm':=zq32 _) rfl ?_
    refine xaw (ms rfl rfl cc8) (fun h_ H_=>xjx rfl rfl) rfl ?_
    refine xaw (ms rfl rfl cc8) (fun h_ H_=>xaq (v:=.bool (decide ((t.wy.getD k wz).2=((w:Nat):Int)))) rfl) rfl ?_
    by_cases cc9:(t.wy.getD k wz).2=((w:Nat):Int)
    ·
     refine xaw (ms rfl rfl (dtt cc9)) (fun h_ H_=>xaq (v:=.slice b m cb) rfl) (tm':=zq1 (zq2 (zq32 _))) rfl ?_
     refine xaw (ms rfl rfl (dtt cc9)) (fun h_ H_=>xaz xhv rfl (a':=⟨b1,2,none⟩) rfl) rfl ?_
     refine xaw (ms rfl rfl (dtt cc9)) (fun h_ H_=>xaj H_ tA23 rfl (i:=0) rfl (v:=.slice a3 t.m c3) rfl) rfl ?_
     refine xaw (ms rfl rfl (dtt cc9)) (fun h_ H_=>xaq (v:=.int .i64 (((k:Nat):Int))) rfl) (tm':=zq1 (zq4 (zq16 (zq32 [])))) rfl ?_
     refine xaw (ms rfl rfl (dtt cc9)) (fun h_ H_=>xcz (i:=k) Tryd.underlying23 tS43 (xkq a3 t.m c3 (T.y.ne (by omega))) rfl (by omega)) rfl ?_
     refine xaw (ms rfl rfl (dtt cc9)) (fun h_ H_=>xaz xoj rfl (a':=(adr a3).add (k*2)) rfl) rfl ?_
     refine xaw (ms rfl rfl (dtt cc9)) (fun h_ H_=>xbv H_ tA3 rfl (v:=.int .i64 ((t.wy.getD k wz).1)) (T.y.ho (by omega))) (tm':=zq1 (zq4 (zq16 (zq32 [])))) rfl ?_
     refine xcx (ms rfl rfl (dtt cc9)) (first:=[]) (cap:=[]) rfl rfl fC35 (fun h_ H_=>c35 md _ _ H_.pe _ _ _ _ D (by omega) ((t.wy.getD k wz).1)) rfl ?_
     refine xaw (ms rfl rfl cc8) (fun h_ H_=>xbj rfl (dtt cc9) (v:=.bool (decide ((t.wy.getD k wz).1∈l))) rfl) rfl ?_
     refine rt (xcq rfl cc8 (v:=.bool (decide ((t.wy.getD k wz).1∈l))) rfl) (tm':=zq1 (zq4 (zq16 (zq32 [])))) rfl <| ro (xax (v:=.bool (decide ((t.wy.getD k wz).1∈l))) rfl) <| xak <| xeq <| xbq <| ro (xaq (v:=.int .i64 (((k:Nat):Int))) rfl) ?_
     refine rt (xfx rfl rfl (n:=((k+1:Nat):Int)) (wr (by omega))) (tm':=zq1 (zq2 (zq4 (zq16 _)))) rfl ?_
     refine ro (xax (v:=.int .i64 (((k+1:Nat):Int))) rfl) <| xak ?_
     exact fun h_ H_=>IH6 _ _ (by omega) h_ ⟨k+1,decide ((t.wy.getD k wz).1∈l),rfl,(y_of rfl),(by omega),(wov hb (by first | (rw [show b_=true by assumption];rfl) | (rw [show b_=false by assumption,decide_eq_true (show (t.wy.getD k wz).2=((w:Nat):Int) by assumption)];rfl) | (rw [show b_=false by assumption,decide_eq_false (show ¬ (t.wy.getD k wz).2=((w:Nat):Int) by assumption)];rfl))),H_⟩
    ·
     refine rp (mo rfl rfl (dff cc9)) <| xfq (mo rfl rfl (dff cc9)) (tm':=zq1 (zq4 (zq16 (zq32 [])))) rfl <| rp (mo rfl rfl (dff cc9)) <| rp (mo rfl rfl (dff cc9)) <| xfq (mo rfl rfl (dff cc9)) (tm':=zq1 (zq4 (zq16 (zq32 [])))) rfl <| rp (mo rfl rfl (dff cc9)) ?_
     refine rp (mo rfl rfl (dff cc9)) <| xfq (mo rfl rfl (dff cc9)) (tm':=zq1 (zq4 (zq16 (zq32 [])))) rfl ?_
     refine xaw (ms rfl rfl cc8) (fun h_ H_=>xcq rfl (dff cc9) (v:=.bool (false)) rfl) rfl ?_
     refine ro (xcq rfl cc8 (v:=.bool (false)) rfl) <| rt (xax (v:=.bool (false)) rfl) (tm':=zq8 _) rfl <| xak <| xeq <| xbq <| ro (xaq (v:=.int .i64 (((k:Nat):Int))) rfl) ?_
     refine ro (xfx rfl rfl (n:=((k+1:Nat):Int)) (wr (by omega))) ?_
     refine rt (xax (v:=.int .i64 (((k+1:Nat):Int))) rfl) (tm':=zq1 (zq8 _)) rfl <| xak ?_
     exact fun h_ H_=>IH6 _ _ (by omega) h_ ⟨k+1,false,rfl,(y_of rfl),(by omega),(wov hb (by first | (rw [show b_=true by assumption];rfl) | (rw [show b_=false by assumption,decide_eq_true (show (t.wy.getD k wz).2=((w:Nat):Int) by assumption)];rfl) | (rw [show b_=false by assumption,decide_eq_false (show ¬ (t.wy.getD k wz).2=((w:Nat):Int) by assumption)];rfl))),H_⟩
  ·
   refine xcv rfl (dff cc7) <| xiq rfl <| xej ?_
   have kM_:k=t.m:=by omega
   refine xbq <| ro (xaq (v:=.bool (b_)) rfl) <| xak ?_
   rcases xwx (b_) with cc10 | cc10
   ·
    refine xdk rfl cc10 <| xbq <| ro (xaq (v:=.int .i64 (s)) rfl) <| rt (xaz xnj rfl (a':=⟨b1,1,none⟩) rfl) (tm':=zq1 (zq4 (zq16 (zq32 [])))) rfl <| rd (fun h_ H_=>xaj H_ tA22 rfl (i:=0) rfl (v:=.slice a2 t.nW c2) rfl) <| ro (xaq (v:=.int .i64 (((w:Nat):Int))) rfl) ?_
    refine rt (xcz (i:=w) Tryd.underlying22 tS3 (xkq a2 t.nW c2 (T.w.ne (by omega))) rfl (by omega)) (tm':=zq1 (zq4 (zq16 (zq32 [])))) rfl ?_
    refine rd (fun h_ H_=>xbv H_ tA3 rfl (v:=.int .i64 (t.ws.getD w 0)) (T.w.get (by omega))) ?_
    refine ro (xfx rfl rfl (wr (by have z_:=h9_ (by omega);omega))) ?_
    refine rt (xax (v:=.int .i64 (s+(t.ws.getD w 0))) rfl) (tm':=zq2 (zq4 _)) rfl <| xak <| xeq <| xbq <| ro (xaq (v:=.int .i64 (((w:Nat):Int))) rfl) ?_
    refine ro (xfx rfl rfl (n:=((w+1:Nat):Int)) (wr (by omega))) ?_
    refine rt (xax (v:=.int .i64 (((w+1:Nat):Int))) rfl) (tm':=zq1 (zq2 (zq4 _))) rfl <| xak ?_
    exact fun h_ H_=>IH3 _ _ (by omega) h_ ⟨w+1,s+(t.ws.getD w 0),rfl,(y_of rfl),(by omega),(by first | (rw [wlz (by rw [← kM_,← hb];assumption),hs];rfl) | (rw [wlj (by rw [← kM_,← hb];assumption),hs])),(by have z_:=h9_ (by omega);omega),H_⟩
   ·
    refine xcv rfl cc10 <| xdq <| xeq <| xbq <| ro (xaq (v:=.int .i64 (((w:Nat):Int))) rfl) ?_
    refine ro (xfx rfl rfl (n:=((w+1:Nat):Int)) (wr (by omega))) ?_
    refine rt (xax (v:=.int .i64 (((w+1:Nat):Int))) rfl) (tm':=zq1 (zq2 (zq4 _))) rfl <| xak ?_
    exact fun h_ H_=>IH3 _ _ (by omega) h_ ⟨w+1,s,rfl,(y_of rfl),(by omega),(by first | (rw [wlz (by rw [← kM_,← hb];assumption),hs];rfl) | (rw [wlj (by rw [← kM_,← hb];assumption),hs])),(by have z_:=h9_ (by omega);omega),H_⟩
 ·
  refine xcv rfl (dff cc4) <| xiq rfl <| fsr <| ro (xaq (v:=.int .i64 (s)) rfl) <| ro (xax (v:=.int .i64 (s)) rfl) <| xak ?_
  refine xew Tryd.func40 rfl (vs:=[.int .i64 (s)]) (fun h_ H_=>⟨.int .i64 (s),_,rfl,rfl,rfl⟩) (v:=.int .i64 (s)) rfl ?_
  have e_:w=t.nW:=by omega
  exact fun h_ H_=>K _ _ ⟨by rw [hs,e_],H_.kept⟩
theorem wux (md:Md) {h:Heap} {p:PHeap} (hp:Per p h) {a1 a2 a3:Option Addr} {c1 c2 c3:Nat} {t:Tn} (T:TownP p a1 t.nH a2 t.nW a3 t.m t) (hn:t.nH≤40∧t.nW≤40∧t.m≤41) (Z:TabP p) (hc:chkB t=0):
  CallsX Tryd.prog md 25 #[.agg #[.slice a1 t.nH c1,.slice a2 t.nW c2,.slice a3 t.m c3]] h fun v h'=>∃ w X,v= .tuple #[w,.int .i64 (shortE t)]∧OwnS 3 1 w (ics (shortP t)) X∧New h h' X:=
 (c25 md h p hp _ _ _ _ _ _ t T hn Z).mono fun _ _ ⟨w,X,e,o,k⟩=>⟨w,X,e,o.as (congrArg ics (yex hc)),k⟩
end Go.Proofs.YtalfgojocdonhaaDoor
namespace Go.X.Flow
open Go.X

def wkP (t:Tn) (x:FWay):Nat→Bool
  | 0=>false
  | k+1=>wkP t x k || decide (Bf x (t.wy.getD k wz))
def wkL (t:Tn) (x:FWay):Nat→List FWay
  | 0=>[]
  | k+1=>(if wkP t x k=false∧Bf x (t.wy.getD k wz) then wkL t x k++[x] else wkL t x k)++[t.wy.getD k wz]
def withW (t:Tn) (x:FWay):List FWay:=if wkP t x t.m then wkL t x t.m else wkL t x t.m++[x]
def withT (t:Tn) (x:FWay):Tn:=⟨t.hs,t.ws,withW t x⟩
theorem wgv {t x k} {p q:Bool} (hp:p=wkP t x k) (h:q=(p || decide (Bf x (t.wy.getD k wz)))):q=wkP t x (k+1):=by rw [h,hp];rfl
theorem vej {t x k} {p:Bool} {l:List FWay} (hp:p=wkP t x k) (hl:l=wkL t x k) (h0:p=false) (hb:Bf x (t.wy.getD k wz)):(l++[x])++[t.wy.getD k wz]=wkL t x (k+1):=by
  rw [wkL,if_pos ⟨by rw [← hp];exact h0,hb⟩,hl]
theorem zuk {t x k} {p:Bool} {l:List FWay} (hp:p=wkP t x k) (hl:l=wkL t x k) (h0: ¬ (p=false∧Bf x (t.wy.getD k wz))):l++[t.wy.getD k wz]=wkL t x (k+1):=by
  rw [wkL,if_neg (by rw [← hp];exact h0),hl]
theorem wgw {t x}: ∀ k,(wkL t x k).length=k+if wkP t x k then 1 else 0
  | 0=>rfl
  | k+1=>by
    have ih:=wgw (t:=t) (x:=x) k
    rw [wkL,wkP]
    by_cases a:wkP t x k=false <;> by_cases b:Bf x (t.wy.getD k wz)
    · rw [if_pos ⟨a,b⟩];simp only [List.length_append,ih,a,b];simp
    · rw [if_neg fun z=>b z.2];simp only [List.length_append,ih,a,b];simp
    · rw [if_neg fun z=>a z.1];rw [Bool.not_eq_false] at a;simp only [List.length_append,ih,a,b];simp
    · rw [if_neg fun z=>a z.1];rw [Bool.not_eq_false] at a;simp only [List.length_append,ih,a,b];simp
theorem zjq {xs:List FWay} {k:Nat} (h:k<xs.length):xs.take (k+1)=xs.take k++[xs.getD k wz]:=by
  rw [List.getD_eq_getElem?_getD,List.getElem?_eq_getElem h];exact (List.take_append_getElem h).symm
theorem zuv {t x}: ∀ k,k≤t.m→(wkL t x k).Perm (if wkP t x k then x::t.wy.take k else t.wy.take k)
  | 0,_=>by simp [wkL,wkP]
  | k+1,h=>by
    have ih:=zuv (t:=t) (x:=x) k (by omega)
    have e:=zjq (xs:=t.wy) (k:=k) (by unfold Tn.m at h;omega)
    rw [wkL,wkP]
    by_cases a:wkP t x k=false <;> by_cases b:Bf x (t.wy.getD k wz)
    · rw [if_pos ⟨a,b⟩,a,decide_eq_true b,Bool.false_or,if_pos rfl,e]
      rw [a,if_neg (by decide)] at ih
      refine ((ih.append_right [x]).append_right _).trans ?_
      rw [List.append_assoc]
      exact (List.perm_append_comm_assoc _ _ _)
    · rw [if_neg fun z=>b z.2,a,decide_eq_false b,Bool.false_or,if_neg (by decide),e]
      rw [a,if_neg (by decide)] at ih
      exact ih.append_right _
    · rw [Bool.not_eq_false] at a
      rw [if_neg (fun z=>absurd z.1 (by rw [a];decide)),a,Bool.true_or,if_pos rfl,e]
      rw [a,if_pos rfl] at ih
      exact ih.append_right _
    · rw [Bool.not_eq_false] at a
      rw [if_neg (fun z=>absurd z.1 (by rw [a];decide)),a,Bool.true_or,if_pos rfl,e]
      rw [a,if_pos rfl] at ih
      exact ih.append_right _
theorem ynq (t:Tn) (x:FWay):(withW t x).Perm (x::t.wy):=by
  have p:=zuv (t:=t) (x:=x) t.m (Nat.le_refl _)
  have e:t.wy.take t.m=t.wy:=List.take_length
  rw [e] at p
  unfold withW
  by_cases a:wkP t x t.m=true
  · rw [if_pos a];rwa [if_pos a] at p
  · rw [if_neg a];rw [if_neg a] at p
    exact (p.append_right [x]).trans List.perm_append_comm
theorem whq (t:Tn) (x:FWay):(withW t x).length=t.m+1:=by rw [(ynq t x).length_eq];rfl

structure WithF (t:Tn) (x:FWay):Prop where
  lk:LK (withT t x)=LK (wayM t x)
  most:mostV t≤mostV (withT t x)
  less:earlier (LK t) (LK (withT t x))=false
theorem yzw {t:Tn} (O:Ok t) (x:FWay) (OM:Ok (wayM t x)) (OW:Ok (withT t x)):WithF t x:=by
  have p1:(withW t x).Perm (t.wy++[x]):=(ynq t x).trans (show ([x]++t.wy).Perm (t.wy++[x]) from List.perm_append_comm)
  have s1:Sim (wayM t x) (withT t x):=zdj p1.symm
  have s2:Sim (withT t x) (wayM t x):=zdj p1
  have s3:Sim t ⟨t.hs,t.ws,x::t.wy⟩:=wuq x
  have s4:Sim ⟨t.hs,t.ws,x::t.wy⟩ (withT t x):=zdj (ynq t x).symm
  have s5:Sim t (withT t x):=⟨rfl,rfl,fun d h1 h2=>by
    obtain ⟨d',a,b,c⟩:=s3.3 d h1 h2
    obtain ⟨d'',a',b',c'⟩:=s4.3 d' a b
    exact ⟨d'',a',b',fun sel=>(c' sel).trans (c sel)⟩⟩
  exact ⟨s1.same s2 OM OW,s5.most O OW,s5.not_less O OW⟩
theorem way_lk {t:Tn} {x:FWay} (F:WithF t x):(cmpL (LK (wayM t x)) (LK t)<0)↔earlier (LK (withT t x)) (LK t)=true:=by
  rw [F.lk];exact xzk (by rw [xqx,xqx];rfl)
structure PourF (t:Tn) (z:Int):Prop where
  a:mostV t≤mostV (pour t z.toNat)
  b:mostV (pour t z.toNat)≤mostV t+1
  c:earlier (LK t) (LK (pour t z.toNat))=false
  d:earlier (LK (pour t z.toNat)) (LK t)=true↔z∈helpsF t t.nW
theorem wdw {t:Tn} (V:Vd t) (O:OkT t) {z:Int} (hz:0≤z∧z≤(t.nW:Int)-1):PourF t z:=by
  have hx:z.toNat<t.nW:=by omega
  have h20:t.wv z.toNat≤20:=(V.w z.toNat hx).2
  refine ⟨wmq O.toOk hx h20,wvq O.toOk hx h20,zek O.toOk hx h20,?_⟩
  have e:((z.toNat:Nat):Int)=z:=Int.toNat_of_nonneg hz.1
  constructor
  · intro h
    unfold helpsF
    refine List.mem_map.2 ⟨z.toNat,List.mem_filter.2 ⟨List.mem_range.2 hx,?_⟩,e⟩
    exact decide_eq_true ((xzk (by rw [xqx,xqx];rfl)).2 h)
  · intro h
    obtain ⟨w,hw,e2,h2⟩:=znx h
    have:w=z.toNat:=by omega
    subst this;exact h2
theorem wuw {t:Tn} {z:Int}:t.ws.set z.toNat (t.ws.getD z.toNat 0+1)=(pour t z.toNat).ws:=rfl
def WayP (t:Tn) (x y:Int):Prop:=¬ ((x,y):FWay)∈t.wy∧cmpL (LK (wayM t (x,y))) (LK t)<0
instance {t:Tn} {x y:Int}:Decidable (WayP t x y):=by unfold WayP;exact inferInstance
def wayV (t:Tn) (x y:Int):Int:=if ((x,y):FWay)∈t.wy then 3 else 0
theorem vcz {t:Tn} {x y:Int} (hc:chkB t=0) (hx:0≤x∧x≤(t.nH:Int)-1) (hy:0≤y∧y≤(t.nW:Int)-1):wayA t x y=0:=by
  unfold wayA askB;rw [if_pos hc,decide_eq_true ⟨hx,hy⟩];rfl
theorem wayB_p {t:Tn} {x y:Int} (h:wayA t x y=0):wayB t x y=decide (WayP t x y):=by
  unfold wayB;rw [Bool.eq_iff_iff,decide_eq_true_eq,decide_eq_true_eq];exact ⟨fun z=>z.2,fun z=>⟨h,z⟩⟩
theorem wayE_v {t:Tn} {x y:Int} (h:wayA t x y=0):wayE t x y=wayV t x y:=by unfold wayE wayV;rw [if_pos h]
theorem ydk {t:Tn} {x y:Int} (h:((x,y):FWay)∈t.wy):wayV t x y=3:=if_pos h
theorem whj {t:Tn} {x y:Int} (h: ¬ ((x,y):FWay)∈t.wy):wayV t x y=0:=if_neg h
theorem zcv {t:Tn} {x y:Int} (h:((x,y):FWay)∈t.wy): ¬ WayP t x y:=fun z=>z.1 h
theorem zck {t:Tn} {x y:Int} (h: ¬ ((x,y):FWay)∈t.wy) (F:WithF t (x,y)):earlier (LK (withT t (x,y))) (LK t)=true↔WayP t x y:=by
  rw [← way_lk F];exact ⟨fun z=>⟨h,z⟩,fun z=>z.2⟩
theorem vek (t:Tn) (x:FWay):(withT t x).m=t.m+1:=whq t x
end Go.X.Flow
namespace Go.Proofs.YtalfgojocdonhaaDoor
open Go.X Go.X.Flow Go.Conc
set_option maxRecDepth 10000
set_option synthInstance.maxSize 2000

set_option maxHeartbeats 2000000
theorem c58 (md:Md) (h:Heap) (p:PHeap) (hp:Per p h) (a1 a2 a3:Option Addr) (c1 c2 c3:Nat) (t:Tn) (T:TownP p a1 t.nH a2 t.nW a3 t.m t) (hn:t.nH≤40∧t.nW≤40∧t.m≤41) (O:OkT t) (z:Int) (hz:0≤z∧z≤(t.nW:Int)-1):CallsX Tryd.prog md 58 #[.agg #[.slice a1 t.nH c1,.slice a2 t.nW c2,.slice a3 t.m c3],.int .i64 (z)] h fun v h'=>∃ w1 w2 w3 X1 X2 X3,v= .agg #[w1,w2,w3]∧OwnS 3 1 w1 (ics t.hs) X1∧OwnS 3 1 w2 (ics (pour t z.toNat).ws) X2∧OwnS 43 2 w3 (wcs t.wy) X3∧New h h' (X2++(X3++(X1++[]))):=by
 refine xcw (Φ:=fun h_=>St h [] p h_ []) Tryd.func58 rfl (tm:=zq16 []) rfl ?_ (St.start h _ hp)
 intro c₀ cs Stop K
 refine fsr ?_
 refine xiw mn (v:=.agg #[.slice a1 t.nH c1,.slice a2 t.nW c2,.slice a3 t.m c3]) rfl fun b1=>xcj (L':=[(b1,.cells #[.slice a1 t.nH c1,.slice a2 t.nW c2,.slice a3 t.m c3] 25 (0,0))]) rfl ?_
 refine xkz mn tZ25 rfl fun b2=>xcj (L':=[(b2,.cells #[.slice none 0 0,.slice none 0 0,.slice none 0 0] 25 (0,0)),(b1,.cells #[.slice a1 t.nH c1,.slice a2 t.nW c2,.slice a3 t.m c3] 25 (0,0))]) rfl ?_
 refine ren <| xbq ?_
 refine xaw mn (fun h_ H_=>xav H_ tA25 tS25 rfl (i:=1) rfl (vs:=[.slice a1 t.nH c1,.slice a2 t.nW c2,.slice a3 t.m c3]) rfl rfl) (tm':=zq1 (zq2 (zq4 _))) rfl ?_
 refine xcj (L':=([(b2,.cells #[.slice none 0 0,.slice none 0 0,.slice none 0 0] 25 (0,0)),(b1,.cells #[.slice a1 t.nH c1,.slice a2 t.nW c2,.slice a3 t.m c3] 25 (0,0))]:Pcs)++[]) rfl ?_
 refine xjq mn (first:=[]) (cap:=[]) rfl rfl fC17 (R:=fun v_ h_=>∃ w3:Value,∃ w4:Value,∃ w5:Value,∃ X6:Pcs,∃ X7:Pcs,∃ X8:Pcs,v_= .agg #[w3,w4,w5]∧(OwnS 3 1 w3 (ics t.hs) X6)∧(OwnS 3 1 w4 (ics t.ws) X7)∧(OwnS 43 2 w5 (wcs t.wy) X8)∧St h [] p h_ (([(b2,.cells #[.slice none 0 0,.slice none 0 0,.slice none 0 0] 25 (0,0)),(b1,.cells #[.slice a1 t.nH c1,.slice a2 t.nW c2,.slice a3 t.m c3] 25 (0,0))]:Pcs)++((X8++(X6++(X7++[])))++[]))) (fun h_ H_=>(c17 md _ _ H_.pe _ _ _ _ _ _ t (show TownP _ _ _ _ _ _ _ t from ⟨T.h,T.w,T.y⟩) (by omega)).mono fun v_ h2_ ⟨w3,w4,w5,X6,X7,X8,e_,o9,o10,o11,N_⟩=>⟨w3,w4,w5,X6,X7,X8,e_,o9,o10,o11,H_.callNA N_⟩) fun v_=>?_
 refine xfv fun w3=>xfv fun w4=>xfv fun w5=>xfv fun X6=>xfv fun X7=>xfv fun X8=>xfz fun ev_=>xfz fun o9=>xfz fun o10=>xfz fun o11=>?_
 have ev_:=ev_.symm;subst ev_
 refine xcj (L':=([(b2,.cells #[.slice none 0 0,.slice none 0 0,.slice none 0 0] 25 (0,0)),(b1,.cells #[.slice a1 t.nH c1,.slice a2 t.nW c2,.slice a3 t.m c3] 25 (0,0))]:Pcs)++(X8++(X6++(X7++[])))) (by simp) ?_
 refine xkz mn tZ25 rfl fun b12=>xcj (L':=([(b12,.cells #[.slice none 0 0,.slice none 0 0,.slice none 0 0] 25 (0,0)),(b2,.cells #[.slice none 0 0,.slice none 0 0,.slice none 0 0] 25 (0,0)),(b1,.cells #[.slice a1 t.nH c1,.slice a2 t.nW c2,.slice a3 t.m c3] 25 (0,0))]:Pcs)++(X8++(X6++(X7++[])))) rfl ?_
 refine xjk mn tS25 rfl (v:=.agg #[w3,w4,w5]) rfl (i:=0) rfl rfl (xfj o9.one.2 (xfj o10.one.2 (xfj o11.one.2 rfl))) (Nat.le_of_ble_eq_true rfl) (cs2:=[w3,w4,w5]) rfl (xcj (L':=([(b12,.cells #[w3,w4,w5] 25 (0,0)),(b2,.cells #[.slice none 0 0,.slice none 0 0,.slice none 0 0] 25 (0,0)),(b1,.cells #[.slice a1 t.nH c1,.slice a2 t.nW c2,.slice a3 t.m c3] 25 (0,0))]:Pcs)++(X8++(X6++(X7++[])))) rfl ?_)
 refine ren <| xbq <| rt (xaz xnj rfl (a':=⟨b12,1,none⟩) rfl) (tm':=zq1 (zq8 _)) rfl <| rd (fun h_ H_=>xaj H_ tA22 rfl (i:=0) rfl (v:=w4) rfl) <| ro (xaq (v:=.int .i64 (z)) rfl) ?_
 refine rt (xpz o10 Tryd.underlying22 tS3 rfl rfl (by omega) (by rw [(show (ics t.ws).length=t.nW from xck _)];omega)) (tm':=zq16 []) rfl ?_
 refine rd (fun h_ H_=>xwq (i:=(z).toNat) (j:=0) (e:=[.int .i64 (t.ws.getD ((z).toNat) 0)]) o10 H_ (fun x_ h_=>by simp [h_]) tA3 rfl rfl (xpj (show z.toNat<t.nW from by omega)) (u:=.int .i64 (t.ws.getD ((z).toNat) 0)) rfl) ?_
 refine ro (xfx rfl rfl (wr (by have z_:=O.w z.toNat (by omega);unfold Tn.wv at z_;omega))) ?_
 refine rt (xpz o10 Tryd.underlying22 tS3 rfl rfl (by omega) (by rw [(show (ics t.ws).length=t.nW from xck _)];omega)) (tm':=zq16 []) rfl ?_
 refine xlw (List.Perm.append_left _ (List.Perm.append_left _ (List.perm_append_comm_assoc _ _ _))) ?_
 refine xlw (List.Perm.append_left _ (List.perm_append_comm_assoc _ _ _)) ?_
 refine xcj (L':=([(b12,.cells #[w3,w4,w5] 25 (0,0)),(b2,.cells #[.slice none 0 0,.slice none 0 0,.slice none 0 0] 25 (0,0)),(b1,.cells #[.slice a1 t.nH c1,.slice a2 t.nW c2,.slice a3 t.m c3] 25 (0,0))]:Pcs)++(X7++(X8++(X6++[])))) rfl ?_
 refine xsz (A:=([(b12,.cells #[w3,w4,w5] 25 (0,0)),(b2,.cells #[.slice none 0 0,.slice none 0 0,.slice none 0 0] 25 (0,0)),(b1,.cells #[.slice a1 t.nH c1,.slice a2 t.nW c2,.slice a3 t.m c3] 25 (0,0))]:Pcs)) (i:=(z).toNat) (j:=0) (e:=[.int .i64 (t.ws.getD ((z).toNat) 0)]) (u:=.int .i64 ((t.ws.getD ((z).toNat) 0)+1)) o10 mn tS3 rfl rfl rfl ⟨rfl,rfl⟩ (xpj (show z.toNat<t.nW from by omega)) (Nat.succ_le_iff.1 (Nat.le_of_ble_eq_true rfl)) fun X13 o14=>?_
 refine ren <| xbq <| rd (fun h_ H_=>xav H_ tA25 tS25 rfl (i:=0) rfl (vs:=[w3,w4,w5]) rfl rfl) ?_
 refine xjk mn tS25 rfl (v:=.agg #[w3,w4,w5]) rfl (i:=1) rfl rfl (xfj o9.one.2 (xfj o14.one.2 (xfj o11.one.2 rfl))) (Nat.le_of_ble_eq_true rfl) (cs2:=[w3,w4,w5]) rfl (xcj (L':=([(b12,.cells #[w3,w4,w5] 25 (0,0)),(b2,.cells #[w3,w4,w5] 25 (0,0)),(b1,.cells #[.slice a1 t.nH c1,.slice a2 t.nW c2,.slice a3 t.m c3] 25 (0,0))]:Pcs)++(X13++(X8++(X6++[])))) rfl ?_)
 refine xak ?_
 refine xew Tryd.func58 rfl (vs:=[.agg #[w3,w4,w5]]) (fun h_ H_=>⟨.agg #[w3,w4,w5],_,rfl,(xbk (xbw (xox tA25 tS25 (vs:=[w3,w4,w5]) rfl (fun j_ v_ e_=>by rw [xoq];exact H_.ocell (i:=1) rfl (by simpa using e_)) ⟨rfl,rfl⟩))),rfl⟩) (v:=.agg #[w3,w4,w5]) rfl ?_
 exact fun h_ H_=>K _ _ ⟨_,_,_,_,_,_,rfl,o9,o14.as ((xwj).trans (congrArg ics wuw)),o11,by simpa using (H_.dropA).new⟩
theorem c26 (md:Md) (h:Heap) (p:PHeap) (hp:Per p h) (a1 a2 a3:Option Addr) (c1 c2 c3:Nat) (t:Tn) (T:TownP p a1 t.nH a2 t.nW a3 t.m t) (hn:t.nH≤40∧t.nW≤40∧t.m≤41) (x y:Int):CallsX Tryd.prog md 26 #[.agg #[.slice a1 t.nH c1,.slice a2 t.nW c2,.slice a3 t.m c3],.agg #[.int .i64 (x),.int .i64 (y)]] h fun v h'=>∃ w1 w2 w3 X1 X2 X3,v= .agg #[w1,w2,w3]∧OwnS 3 1 w1 (ics t.hs) X1∧OwnS 3 1 w2 (ics t.ws) X2∧OwnS 43 2 w3 (wcs (withW t (x,y))) X3∧New h h' (X3++(X1++(X2++[]))):=by
 refine xcw (Φ:=fun h_=>St h [] p h_ []) Tryd.func26 rfl (tm:=zq2 (zq4 (zq16 (zq32 [])))) rfl ?_ (St.start h _ hp)
 intro c₀ cs Stop K
 refine fsr ?_
 refine xiw mn (v:=.agg #[.slice a1 t.nH c1,.slice a2 t.nW c2,.slice a3 t.m c3]) rfl fun b1=>xcj (L':=[(b1,.cells #[.slice a1 t.nH c1,.slice a2 t.nW c2,.slice a3 t.m c3] 25 (0,0))]) rfl ?_
 refine xiw mn (v:=.agg #[.int .i64 (x),.int .i64 (y)]) rfl fun b2=>xcj (L':=[(b2,.cells #[.int .i64 (x),.int .i64 (y)] 43 (0,0)),(b1,.cells #[.slice a1 t.nH c1,.slice a2 t.nW c2,.slice a3 t.m c3] 25 (0,0))]) rfl ?_
 refine xgx (tm':=zq4 _) rfl ?_
 refine xkz mn tZ25 rfl fun b3=>xcj (L':=[(b3,.cells #[.slice none 0 0,.slice none 0 0,.slice none 0 0] 25 (0,0)),(b2,.cells #[.int .i64 (x),.int .i64 (y)] 43 (0,0)),(b1,.cells #[.slice a1 t.nH c1,.slice a2 t.nW c2,.slice a3 t.m c3] 25 (0,0))]) rfl ?_
 refine ren <| xbq <| rd (fun h_ H_=>xav H_ tA25 tS25 rfl (i:=2) rfl (vs:=[.slice a1 t.nH c1,.slice a2 t.nW c2,.slice a3 t.m c3]) rfl rfl) ?_
 refine xcj (L':=([(b3,.cells #[.slice none 0 0,.slice none 0 0,.slice none 0 0] 25 (0,0)),(b2,.cells #[.int .i64 (x),.int .i64 (y)] 43 (0,0)),(b1,.cells #[.slice a1 t.nH c1,.slice a2 t.nW c2,.slice a3 t.m c3] 25 (0,0))]:Pcs)++[]) rfl ?_
 refine xjq mn (first:=[]) (cap:=[]) rfl rfl fC17 (R:=fun v_ h_=>∃ w4:Value,∃ w5:Value,∃ w6:Value,∃ X7:Pcs,∃ X8:Pcs,∃ X9:Pcs,v_= .agg #[w4,w5,w6]∧(OwnS 3 1 w4 (ics t.hs) X7)∧(OwnS 3 1 w5 (ics t.ws) X8)∧(OwnS 43 2 w6 (wcs t.wy) X9)∧St h [] p h_ (([(b3,.cells #[.slice none 0 0,.slice none 0 0,.slice none 0 0] 25 (0,0)),(b2,.cells #[.int .i64 (x),.int .i64 (y)] 43 (0,0)),(b1,.cells #[.slice a1 t.nH c1,.slice a2 t.nW c2,.slice a3 t.m c3] 25 (0,0))]:Pcs)++((X9++(X7++(X8++[])))++[]))) (fun h_ H_=>(c17 md _ _ H_.pe _ _ _ _ _ _ t (show TownP _ _ _ _ _ _ _ t from ⟨T.h,T.w,T.y⟩) (by omega)).mono fun v_ h2_ ⟨w4,w5,w6,X7,X8,X9,e_,o10,o11,o12,N_⟩=>⟨w4,w5,w6,X7,X8,X9,e_,o10,o11,o12,H_.callNA N_⟩) fun v_=>?_
 refine xfv fun w4=>xfv fun w5=>xfv fun w6=>xfv fun X7=>xfv fun X8=>xfv fun X9=>xfz fun ev_=>xfz fun o10=>xfz fun o11=>xfz fun o12=>?_
 have ev_:=ev_.symm;subst ev_
 refine xcj (L':=([(b3,.cells #[.slice none 0 0,.slice none 0 0,.slice none 0 0] 25 (0,0)),(b2,.cells #[.int .i64 (x),.int .i64 (y)] 43 (0,0)),(b1,.cells #[.slice a1 t.nH c1,.slice a2 t.nW c2,.slice a3 t.m c3] 25 (0,0))]:Pcs)++(X9++(X7++(X8++[])))) (by simp) ?_
 refine xgx (tm':=zq2 (zq8 _)) rfl ?_
 refine xkz mn tZ25 rfl fun b13=>xcj (L':=([(b13,.cells #[.slice none 0 0,.slice none 0 0,.slice none 0 0] 25 (0,0)),(b3,.cells #[.slice none 0 0,.slice none 0 0,.slice none 0 0] 25 (0,0)),(b2,.cells #[.int .i64 (x),.int .i64 (y)] 43 (0,0)),(b1,.cells #[.slice a1 t.nH c1,.slice a2 t.nW c2,.slice a3 t.m c3] 25 (0,0))]:Pcs)++(X9++(X7++(X8++[])))) rfl ?_
 refine xjk mn tS25 rfl (v:=.agg #[w4,w5,w6]) rfl (i:=0) rfl rfl (xfj o10.one.2 (xfj o11.one.2 (xfj o12.one.2 rfl))) (Nat.le_of_ble_eq_true rfl) (cs2:=[w4,w5,w6]) rfl (xcj (L':=([(b13,.cells #[w4,w5,w6] 25 (0,0)),(b3,.cells #[.slice none 0 0,.slice none 0 0,.slice none 0 0] 25 (0,0)),(b2,.cells #[.int .i64 (x),.int .i64 (y)] 43 (0,0)),(b1,.cells #[.slice a1 t.nH c1,.slice a2 t.nW c2,.slice a3 t.m c3] 25 (0,0))]:Pcs)++(X9++(X7++(X8++[])))) rfl ?_)
 refine ren <| xbq <| ro (xaz xhv rfl (a':=⟨b13,2,none⟩) rfl) ?_
 refine xjk mn tS23 rfl (v:=.slice none 0 0) rfl (i:=0) rfl rfl rfl (Nat.le_of_ble_eq_true rfl) (cs2:=[w4,w5,.slice none 0 0]) rfl (xcj (L':=([(b13,.cells #[w4,w5,.slice none 0 0] 25 (0,0)),(b3,.cells #[.slice none 0 0,.slice none 0 0,.slice none 0 0] 25 (0,0)),(b2,.cells #[.int .i64 (x),.int .i64 (y)] 43 (0,0)),(b1,.cells #[.slice a1 t.nH c1,.slice a2 t.nW c2,.slice a3 t.m c3] 25 (0,0))]:Pcs)++(X9++(X7++(X8++[])))) rfl ?_)
 refine ren <| xbq <| rt (xax (v:=.bool (false)) rfl) (tm':=zq1 (zq2 (zq4 _))) rfl <| ren <| fsr <| ro (xax (v:=.int .i64 0) rfl) ?_
 refine xak <| xek ?_
 refine xiv (m₀:=t.m-0) (fun m_ tm_ h_=>∃ (k:Nat) (p_:Bool) (l_:List FWay) (w_:Value) (X1_:Pcs),m_=t.m-k∧(∃ y14:Nat→Value,tm_=(.agg #[.slice a1 t.nH c1,.slice a2 t.nW c2,.slice a3 t.m c3]::.agg #[.int .i64 (x),.int .i64 (y)]::.pointer (some ⟨b1,0,none⟩)::.pointer (some ⟨b2,0,none⟩)::.pointer (some ⟨b3,0,none⟩)::.pointer (some ⟨b13,0,none⟩)::.bool (p_)::.int .i64 (((k:Nat):Int))::.agg #[.slice a1 t.nH c1,.slice a2 t.nW c2,.slice a3 t.m c3]::.agg #[w4,w5,w6]::.pointer (some ⟨b13,2,none⟩)::(y14 11)::(y14 12)::(y14 13)::(y14 14)::(y14 15)::(y14 16)::(y14 17)::(y14 18)::(y14 19)::(y14 20)::(y14 21)::(y14 22)::(y14 23)::(y14 24)::(y14 25)::(y14 26)::(y14 27)::(y14 28)::(y14 29)::(y14 30)::(y14 31)::(y14 32)::(y14 33)::(y14 34)::(y14 35)::(y14 36)::(y14 37)::(y14 38)::(y14 39)::(y14 40)::(y14 41)::(y14 42)::(y14 43)::(y14 44)::undef::zu8 []))∧(k≤t.m)∧(p_=wkP t (x,y) k)∧(l_=wkL t (x,y) k)∧(OwnS 43 2 w_ (wcs l_) X1_)∧St h [] p h_ (([(b13,.cells #[w4,w5,w_] 25 (0,0)),(b3,.cells #[.slice none 0 0,.slice none 0 0,.slice none 0 0] 25 (0,0)),(b2,.cells #[.int .i64 (x),.int .i64 (y)] 43 (0,0)),(b1,.cells #[.slice a1 t.nH c1,.slice a2 t.nW c2,.slice a3 t.m c3] 25 (0,0))]:Pcs)++(X1_++(X9++(X7++(X8++[])))))) (fun h_ H_=>⟨0,false,[],(.slice none 0 0),[],rfl,(y_of rfl),Nat.zero_le _,rfl,rfl,(OwnS.empty _ _),H_⟩) ?_
 intro m_ tm_ IH15
 refine xij fun k=>xij fun p_=>xij fun l_=>xij fun w_=>xij fun X1_=>xdz fun hm_=>xdz fun ht_=>xdz fun hk=>xdz fun hp_=>xdz fun hl_=>xdz fun o1_=>?_
 subst hm_;obtain ⟨y14,ht_⟩:=ht_;subst ht_
 have hz_:l_.length≤k+1:=by rw [hl_,wgw];split <;> omega
 refine xej <| fsr <| ro (xaq (v:=.int .i64 (((k:Nat):Int))) rfl) <| rt (xaz xhv rfl (a':=⟨b1,2,none⟩) rfl) (tm':=zq1 (zq4 (zq8 _))) rfl <| rd (fun h_ H_=>xaj H_ tA23 rfl (i:=3) rfl (v:=.slice a3 t.m c3) rfl) <| ro (xfk Tryd.underlying23 rfl) ?_
 refine rt (xgw rfl rfl) (tm':=zq16 _) rfl <| xak ?_
 by_cases cc16:((k:Nat):Int)<((t.m:Nat):Int)
 ·
  refine xdk rfl (dtt cc16) <| xdq <| xej <| xek <| xej <| xej ?_
  rcases xwx (p_) with cc17 | cc17
  ·
   refine xfw 9 [[],[0],[0,1],[],[],[4],[0,1],[0,1,4,5,6],[0,1,4,5,6,7],[0,1,3,4,5,6,7,8],[]] xlq (by kernel_rfl) (Nat.le_of_ble_eq_true rfl) ?_
   refine wo (xaq (v:=.bool (p_)) rfl) <| wt (xgz rfl) (tm':=zq4 (zq16 _)) rfl <| wo (xaq (v:=.bool (!p_)) rfl) <| xdv (mo rfl rfl (xev cc17)) (tm':=zq2 (zq4 (zq16 _))) rfl <| wp (mo rfl rfl (xev cc17)) <| xdv (mo rfl rfl (xev cc17)) (tm':=zq8 (zq16 _)) rfl ?_
   refine wp (mo rfl rfl (xev cc17)) <| xdv (mo rfl rfl (xev cc17)) (tm':=zq2 (zq8 (zq16 _))) rfl <| wp (mo rfl rfl (xev cc17)) ?_
   refine xiz rfl ?_
   refine rp (mo rfl rfl (xev cc17)) <| ro (xcq rfl (xev cc17) (v:=.bool (false)) rfl) <| xak <| xcv rfl rfl <| xdq ?_
   refine ybx (xnq (C:=[]) (A:=([(b13,.cells #[w4,w5,w_] 25 (0,0)),(b3,.cells #[.slice none 0 0,.slice none 0 0,.slice none 0 0] 25 (0,0)),(b2,.cells #[.int .i64 (x),.int .i64 (y)] 43 (0,0)),(b1,.cells #[.slice a1 t.nH c1,.slice a2 t.nW c2,.slice a3 t.m c3] 25 (0,0))]:Pcs)) 8 [[],[0],[],[2],[],[2,3,4],[2,3,4,5],[2,3,4,5,6],[],[],[]] [8,9,10,11] [8,9,10,11,7] [0,1,2,3,4,5,6] (fun i_=>match i_ with | 8=>X1_ | 9=>X9 | 10=>X7 | 11=>X8 | _=>[]) (fun _=>[]) (fun i_=>match i_ with | 0=>[] | 1=>[0] | 2=>[] | 3=>[2] | 4=>[] | 5=>[3,4] | 6=>[5] | 7=>[6] | _=>[]) (fun i_ val_ pc_ v_ x_=>match i_ with | 0=>v_= .pointer (some ⟨b13,2,none⟩)∧x_=[] | 1=>v_=w_∧x_=[] | 2=>v_= .pointer (some ⟨b1,2,none⟩)∧x_=[] | 3=>v_= .slice a3 t.m c3∧x_=[] | 4=>v_= .int .i64 (((k:Nat):Int))∧x_=[] | 5=>v_= .pointer (some ((adr a3).add (k*2)))∧x_=[] | 6=>v_= .agg #[.int .i64 ((t.wy.getD k wz).1),.int .i64 ((t.wy.getD k wz).2)]∧x_=[] | 7=>OwnS 43 2 v_ [[.int .i64 ((t.wy.getD k wz).1),.int .i64 ((t.wy.getD k wz).2)]] x_ | _=>True) (fun val18=>(.agg #[.slice a1 t.nH c1,.slice a2 t.nW c2,.slice a3 t.m c3]::.agg #[.int .i64 (x),.int .i64 (y)]::.pointer (some ⟨b1,0,none⟩)::.pointer (some ⟨b2,0,none⟩)::.pointer (some ⟨b3,0,none⟩)::.pointer (some ⟨b13,0,none⟩)::.bool (p_)::.int .i64 (((k:Nat):Int))::.agg #[.slice a1 t.nH c1,.slice a2 t.nW c2,.slice a3 t.m c3]::.agg #[w4,w5,w6]::.pointer (some ⟨b13,2,none⟩)::.int .i64 (((k:Nat):Int))::.pointer (some ⟨b1,2,none⟩)::.slice a3 t.m c3::.int .i64 (((t.m:Nat):Int))::.bool (decide (((k:Nat):Int)<((t.m:Nat):Int)))::(y14 16)::(y14 17)::.bool (p_)::.bool (!p_)::.bool (!p_)::undef::undef::undef::zu4 (.bool (false)::(y14 29)::(y14 30)::(y14 31)::(y14 32)::(y14 33)::(y14 34)::(val18 0)::(val18 1)::(val18 2)::(val18 3)::(val18 4)::(val18 5)::(val18 6)::(val18 7)::(y14 43)::(y14 44)::undef::zu8 []))) xlq (by kernel_rfl) (Nat.le_of_ble_eq_true rfl) (by kernel_rfl) (by kernel_rfl) (by kernel_rfl) (fun _ _=>⟨fun _ _ h=>h.2,⟨fun _ _ h=>h.2,⟨fun _ _ h=>h.2,⟨fun _ _ h=>h.2,⟨fun _ _ h=>h.2,⟨fun _ _ h=>h.2,⟨fun _ _ h=>h.2,trivial⟩⟩⟩⟩⟩⟩⟩) (fun _=>by kernel_rfl) (by kernel_rfl) ?_ ?_) (fun h_ H_=>St.swap (A:=([(b13,.cells #[w4,w5,w_] 25 (0,0)),(b3,.cells #[.slice none 0 0,.slice none 0 0,.slice none 0 0] 25 (0,0)),(b2,.cells #[.int .i64 (x),.int .i64 (y)] 43 (0,0)),(b1,.cells #[.slice a1 t.nH c1,.slice a2 t.nW c2,.slice a3 t.m c3] 25 (0,0))]:Pcs)) (U:=(X1_++(X9++(X7++(X8++[]))))) H_)
   ·
    refine xbx rfl (xez ?_) ?_
    ·
     intro val18 pc19 hQ_ hX_
     obtain ⟨q_,hq0_⟩: ∃ q_:Value→Pcs→Prop,q_=(fun v_ x_=>v_= .pointer (some ⟨b13,2,none⟩)∧x_=[]):=⟨_,rfl⟩
     refine ⟨(zq2 (zq4 (zq16 (zq32 [])))),[],q_,rfl,rfl,(fun _ _ z_=>by subst hq0_;exact z_),?_⟩
     subst hq0_
     exact xdw mn (fun _ h_ H_=>xaz xhv rfl (a':=⟨b13,2,none⟩) rfl) ⟨rfl,rfl⟩
    refine xbx rfl (xez ?_) ?_
    ·
     intro val18 pc19 hQ_ hX_
     have e0_:val18 0= .pointer (some ⟨b13,2,none⟩):=(hQ_ 0 rfl).1
     obtain ⟨q_,hq0_⟩: ∃ q_:Value→Pcs→Prop,q_=(fun v_ x_=>v_=w_∧x_=[]):=⟨_,rfl⟩
     refine ⟨(zq2 (zq4 (zq16 (zq32 [])))),[],q_,(by rw [e0_]),rfl,(fun _ _ z_=>by subst hq0_;exact z_),?_⟩
     subst hq0_
     exact xdw mn (fun _ h_ H_=>xaj H_ tA23 rfl (i:=0) rfl (v:=w_) rfl) ⟨rfl,rfl⟩
    refine xbx rfl (xez ?_) ?_
    ·
     intro val18 pc19 hQ_ hX_
     obtain ⟨q_,hq0_⟩: ∃ q_:Value→Pcs→Prop,q_=(fun v_ x_=>v_= .pointer (some ⟨b1,2,none⟩)∧x_=[]):=⟨_,rfl⟩
     refine ⟨(zq2 (zq4 (zq16 (zq32 [])))),[],q_,rfl,rfl,(fun _ _ z_=>by subst hq0_;exact z_),?_⟩
     subst hq0_
     exact xdw mn (fun _ h_ H_=>xaz xhv rfl (a':=⟨b1,2,none⟩) rfl) ⟨rfl,rfl⟩
    refine xbx rfl (xez ?_) ?_
    ·
     intro val18 pc19 hQ_ hX_
     have e2_:val18 2= .pointer (some ⟨b1,2,none⟩):=(hQ_ 2 rfl).1
     obtain ⟨q_,hq0_⟩: ∃ q_:Value→Pcs→Prop,q_=(fun v_ x_=>v_= .slice a3 t.m c3∧x_=[]):=⟨_,rfl⟩
     refine ⟨(zq2 (zq4 (zq16 (zq32 [])))),[],q_,(by rw [e2_]),rfl,(fun _ _ z_=>by subst hq0_;exact z_),?_⟩
     subst hq0_
     exact xdw mn (fun _ h_ H_=>xaj H_ tA23 rfl (i:=3) rfl (v:=.slice a3 t.m c3) rfl) ⟨rfl,rfl⟩
    refine xbx rfl (xez ?_) ?_
    ·
     intro val18 pc19 hQ_ hX_
     obtain ⟨q_,hq0_⟩: ∃ q_:Value→Pcs→Prop,q_=(fun v_ x_=>v_= .int .i64 (((k:Nat):Int))∧x_=[]):=⟨_,rfl⟩
     refine ⟨(zq2 (zq4 (zq16 (zq32 [])))),[],q_,rfl,rfl,(fun _ _ z_=>by subst hq0_;exact z_),?_⟩
     subst hq0_
     exact xdw mn (fun _ h_ H_=>xaq (v:=.int .i64 (((k:Nat):Int))) rfl) ⟨rfl,rfl⟩
    refine xbx rfl (xez ?_) ?_
    ·
     intro val18 pc19 hQ_ hX_
     have e3_:val18 3= .slice a3 t.m c3:=(hQ_ 3 rfl).1
     have e4_:val18 4= .int .i64 (((k:Nat):Int)):=(hQ_ 4 rfl).1
     obtain ⟨q_,hq0_⟩: ∃ q_:Value→Pcs→Prop,q_=(fun v_ x_=>v_= .pointer (some ((adr a3).add (k*2)))∧x_=[]):=⟨_,rfl⟩
     refine ⟨(zq2 (zq4 (zq16 (zq32 [])))),[],q_,(by rw [e3_,e4_]),rfl,(fun _ _ z_=>by subst hq0_;exact z_),?_⟩
     subst hq0_
     exact xdw mn (fun _ h_ H_=>xcz (i:=k) Tryd.underlying23 tS43 (xkq a3 t.m c3 (T.y.ne (by omega))) rfl (by omega)) ⟨rfl,rfl⟩
    refine xbx rfl (xez ?_) ?_
    ·
     intro val18 pc19 hQ_ hX_
     have e5_:val18 5= .pointer (some ((adr a3).add (k*2))):=(hQ_ 5 rfl).1
     obtain ⟨q_,hq0_⟩: ∃ q_:Value→Pcs→Prop,q_=(fun v_ x_=>v_= .agg #[.int .i64 ((t.wy.getD k wz).1),.int .i64 ((t.wy.getD k wz).2)]∧x_=[]):=⟨_,rfl⟩
     refine ⟨(zq2 (zq4 (zq16 (zq32 [])))),[],q_,(by rw [e5_]),rfl,(fun _ _ z_=>by subst hq0_;exact z_),?_⟩
     subst hq0_
     exact xdw mn (fun _ h_ H_=>xhx H_ tA43 tS43 rfl (vs:=[.int .i64 ((t.wy.getD k wz).1),.int .i64 ((t.wy.getD k wz).2)]) rfl (T.y.all (by omega))) ⟨rfl,rfl⟩
    refine xbx rfl (xez ?_) ?_
    ·
     intro val18 pc19 hQ_ hX_
     have e6_:val18 6= .agg #[.int .i64 ((t.wy.getD k wz).1),.int .i64 ((t.wy.getD k wz).2)]:=(hQ_ 6 rfl).1
     obtain ⟨q_,hq0_⟩: ∃ q_:Value→Pcs→Prop,q_=(fun v_ x_=>OwnS 43 2 v_ [[.int .i64 ((t.wy.getD k wz).1),.int .i64 ((t.wy.getD k wz).2)]] x_):=⟨_,rfl⟩
     refine ⟨(zq2 (zq4 (zq16 (zq32 [])))),[],q_,(by rw [e6_]),rfl,(fun _ _ z_=>by subst hq0_;exact z_),?_⟩
     subst hq0_
     exact xoz mn Tryd.underlying23 tS43 tZ43 (Nat.le_of_ble_eq_true rfl) (vs:=[(0,.agg #[.int .i64 ((t.wy.getD k wz).1),.int .i64 ((t.wy.getD k wz).2)])]) rfl rfl (es:=[[.int .i64 ((t.wy.getD k wz).1),.int .i64 ((t.wy.getD k wz).2)]]) rfl rfl rfl fun _ _ o_=>o_
    exact xmw rfl
   intro val18 pc19 hQ_ hX_
   have e0_:val18 0= .pointer (some ⟨b13,2,none⟩):=(hQ_ 0 (by decide)).1
   have e1_:val18 1=w_:=(hQ_ 1 (by decide)).1
   have e2_:val18 2= .pointer (some ⟨b1,2,none⟩):=(hQ_ 2 (by decide)).1
   have e3_:val18 3= .slice a3 t.m c3:=(hQ_ 3 (by decide)).1
   have e4_:val18 4= .int .i64 (((k:Nat):Int)):=(hQ_ 4 (by decide)).1
   have e5_:val18 5= .pointer (some ((adr a3).add (k*2))):=(hQ_ 5 (by decide)).1
   have e6_:val18 6= .agg #[.int .i64 ((t.wy.getD k wz).1),.int .i64 ((t.wy.getD k wz).2)]:=(hQ_ 6 (by decide)).1
   have q7_:OwnS 43 2 (val18 7) [[.int .i64 ((t.wy.getD k wz).1),.int .i64 ((t.wy.getD k wz).2)]] (pc19 7):=hQ_ 7 (by decide)
   have x8_:pc19 8=X1_:=hX_ 8 (by decide)
   have x9_:pc19 9=X9:=hX_ 9 (by decide)
   have x10_:pc19 10=X7:=hX_ 10 (by decide)
   have x11_:pc19 11=X8:=hX_ 11 (by decide)
   clear hQ_ hX_
   refine yax (Φ:=fun h_=>St h [] p h_ (([(b13,.cells #[w4,w5,w_] 25 (0,0)),(b3,.cells #[.slice none 0 0,.slice none 0 0,.slice none 0 0] 25 (0,0)),(b2,.cells #[.int .i64 (x),.int .i64 (y)] 43 (0,0)),(b1,.cells #[.slice a1 t.nH c1,.slice a2 t.nW c2,.slice a3 t.m c3] 25 (0,0))]:Pcs)++(pc19 8++(pc19 9++(pc19 10++(pc19 11++(pc19 7++[]))))))) ?_ (fun h_ H_=>H_.swap')
   rw [x8_,x9_,x10_,x11_]
   refine xgx (tm':=(zq2 (zq4 (zq16 (zq32 []))))) (by rw [e0_,e1_,e2_,e3_,e4_,e5_,e6_]) ?_
   have o22:=q7_
   refine xlw (List.Perm.append_left _ (List.Perm.append_left _ (List.Perm.append_left _ (List.Perm.append_left _ (List.perm_append_comm_assoc _ _ _))))) ?_
   refine xlw (List.Perm.append_left _ (List.Perm.append_left _ (List.Perm.append_left _ (List.perm_append_comm_assoc _ _ _)))) ?_
   refine xlw (List.Perm.append_left _ (List.Perm.append_left _ (List.perm_append_comm_assoc _ _ _))) ?_
   refine xcj (L':=([(b13,.cells #[w4,w5,w_] 25 (0,0)),(b3,.cells #[.slice none 0 0,.slice none 0 0,.slice none 0 0] 25 (0,0)),(b2,.cells #[.int .i64 (x),.int .i64 (y)] 43 (0,0)),(b1,.cells #[.slice a1 t.nH c1,.slice a2 t.nW c2,.slice a3 t.m c3] 25 (0,0))]:Pcs)++(X1_++((pc19 7)++(X9++(X7++(X8++[])))))) rfl ?_
   refine xrv ([(b13,.cells #[w4,w5,w_] 25 (0,0)),(b3,.cells #[.slice none 0 0,.slice none 0 0,.slice none 0 0] 25 (0,0)),(b2,.cells #[.int .i64 (x),.int .i64 (y)] 43 (0,0)),(b1,.cells #[.slice a1 t.nH c1,.slice a2 t.nW c2,.slice a3 t.m c3] 25 (0,0))]:Pcs) X1_ (pc19 7) mn Tryd.underlying23 tS43 tZ43 rfl tB43 Tryd.underlying23 rfl rfl o1_ o22 (xxv rfl) (by rw [wcs_size];first | (simp only [List.length_cons,List.length_nil];omega) | (rw [List.length_append];simp only [List.length_cons,List.length_nil];omega)) (by decide) fun v23 X24 o25=>?_
   have o26:OwnS 43 2 v23 (wcs (l_++[(t.wy.getD k wz)])) X24:=o25.as (xyv _ (t.wy.getD k wz))
   refine ro (xaz xhv rfl (a':=⟨b13,2,none⟩) rfl) ?_
   refine xpv mn tS23 rfl (v:=v23) rfl o26.one (i:=0) rfl (Nat.succ_le_iff.1 (Nat.le_of_ble_eq_true rfl)) (cs2:=[w4,w5,v23]) rfl (xcj (L':=([(b13,.cells #[w4,w5,v23] 25 (0,0)),(b3,.cells #[.slice none 0 0,.slice none 0 0,.slice none 0 0] 25 (0,0)),(b2,.cells #[.int .i64 (x),.int .i64 (y)] 43 (0,0)),(b1,.cells #[.slice a1 t.nH c1,.slice a2 t.nW c2,.slice a3 t.m c3] 25 (0,0))]:Pcs)++(X24++(X9++(X7++(X8++[]))))) rfl ?_)
   refine xak <| xeq <| xbq <| rt (xaq (v:=.int .i64 (((k:Nat):Int))) rfl) (tm':=zq1 (zq16 _)) rfl ?_
   refine ro (xfx rfl rfl (n:=((k+1:Nat):Int)) (wr (by omega))) ?_
   refine ro (xax (v:=.int .i64 (((k+1:Nat):Int))) rfl) <| xak ?_
   exact fun h_ H_=>IH15 _ _ (by omega) h_ ⟨k+1,p_,(l_++[(t.wy.getD k wz)]),v23,X24,rfl,(y_of rfl),(by omega),(wgv hp_ (by first | (rw [show p_=true by assumption];rfl) | (rw [show p_=false by assumption,decide_eq_true (show Bf (x,y) (t.wy.getD k wz) by assumption)];rfl) | (rw [show p_=false by assumption,decide_eq_false (show ¬ Bf (x,y) (t.wy.getD k wz) by assumption)];rfl))),(zuk hp_ hl_ (by first | exact fun z_=>absurd z_.2 (by assumption) | exact fun z_=>absurd z_.1 (by rw [show p_=true by assumption];decide))),o26,H_⟩
  ·
   refine xfw 9 [[],[0],[0,1],[],[],[4],[0,1],[0,1,4,5,6],[0,1,4,5,6,7],[0,1,3,4,5,6,7,8],[]] xlq (by kernel_rfl) (Nat.le_of_ble_eq_true rfl) ?_
   refine wt (xaq (v:=.bool (p_)) rfl) (tm':=zq1 (zq2 (zq16 _))) rfl <| wo (xgz rfl) <| wt (xaq (v:=.bool (!p_)) rfl) (tm':=zq1 (zq4 (zq16 _))) rfl ?_
   refine xbz (ms rfl rfl (xgv cc17)) (fun h_ H_=>xav H_ tA43 tS43 rfl (i:=2) rfl (vs:=[.int .i64 (x),.int .i64 (y)]) rfl rfl) rfl ?_
   refine xbz (ms rfl rfl (xgv cc17)) (fun h_ H_=>xaz xhv rfl (a':=⟨b1,2,none⟩) rfl) (tm':=zq1 (zq2 (zq4 (zq16 _)))) rfl ?_
   refine xbz (ms rfl rfl (xgv cc17)) (fun h_ H_=>xaj H_ tA23 rfl (i:=3) rfl (v:=.slice a3 t.m c3) rfl) rfl ?_
   refine xbz (ms rfl rfl (xgv cc17)) (fun h_ H_=>xaq (v:=.int .i64 (((k:Nat):Int))) rfl) (tm':=zq1 (zq8 (zq16 _))) rfl ?_
   refine xbz (ms rfl rfl (xgv cc17)) (fun h_ H_=>xcz (i:=k) Tryd.underlying23 tS43 (xkq a3 t.m c3 (T.y.ne (by omega))) rfl (by omega)) rfl ?_
   refine xbz (ms rfl rfl (xgv cc17)) (fun h_ H_=>xhx H_ tA43 tS43 rfl (vs:=[.int .i64 ((t.wy.getD k wz).1),.int .i64 ((t.wy.getD k wz).2)]) rfl (T.y.all (by omega))) (tm':=zq1 (zq2 (zq8 (zq16 _)))) rfl ?_
   refine xiz rfl ?_
   refine xcx (ms rfl rfl (xgv cc17)) (first:=[]) (cap:=[]) rfl rfl fC77 (fun h_ H_=>c77 md _ (x) (y) ((t.wy.getD k wz).1) ((t.wy.getD k wz).2)) (tm':=zq4 (zq8 (zq16 _))) rfl ?_
   refine ro (xbj rfl (xgv cc17) (v:=.bool (decide (Bf ((x,y):FWay) (((t.wy.getD k wz).1,(t.wy.getD k wz).2):FWay)))) rfl) <| xak ?_
   by_cases cc27:Bf ((x,y):FWay) (((t.wy.getD k wz).1,(t.wy.getD k wz).2):FWay)
   ·
    refine xdk rfl (dtt cc27) <| xbq <| ro (xaz xhv rfl (a':=⟨b13,2,none⟩) rfl) ?_
    refine xaw mn (fun h_ H_=>xaj H_ tA23 rfl (i:=0) rfl (v:=w_) rfl) (tm':=zq1 (zq2 (zq4 (zq8 (zq16 _))))) rfl ?_
    refine rd (fun h_ H_=>xav H_ tA43 tS43 rfl (i:=2) rfl (vs:=[.int .i64 (x),.int .i64 (y)]) rfl rfl) ?_
    refine xmj ([(b13,.cells #[w4,w5,w_] 25 (0,0)),(b3,.cells #[.slice none 0 0,.slice none 0 0,.slice none 0 0] 25 (0,0)),(b2,.cells #[.int .i64 (x),.int .i64 (y)] 43 (0,0)),(b1,.cells #[.slice a1 t.nH c1,.slice a2 t.nW c2,.slice a3 t.m c3] 25 (0,0))]:Pcs) mn Tryd.underlying23 tS43 tZ43 (Nat.le_of_ble_eq_true rfl) (vs:=[(0,.agg #[.int .i64 (x),.int .i64 (y)])]) rfl rfl (es:=[[.int .i64 (x),.int .i64 (y)]]) rfl rfl rfl fun v28 X29 o30=>?_
    refine xlw (List.Perm.append_left _ (List.perm_append_comm_assoc _ _ _)) ?_
    refine xcj (L':=([(b13,.cells #[w4,w5,w_] 25 (0,0)),(b3,.cells #[.slice none 0 0,.slice none 0 0,.slice none 0 0] 25 (0,0)),(b2,.cells #[.int .i64 (x),.int .i64 (y)] 43 (0,0)),(b1,.cells #[.slice a1 t.nH c1,.slice a2 t.nW c2,.slice a3 t.m c3] 25 (0,0))]:Pcs)++(X1_++(X29++(X9++(X7++(X8++[])))))) rfl ?_
    refine xrv ([(b13,.cells #[w4,w5,w_] 25 (0,0)),(b3,.cells #[.slice none 0 0,.slice none 0 0,.slice none 0 0] 25 (0,0)),(b2,.cells #[.int .i64 (x),.int .i64 (y)] 43 (0,0)),(b1,.cells #[.slice a1 t.nH c1,.slice a2 t.nW c2,.slice a3 t.m c3] 25 (0,0))]:Pcs) X1_ X29 mn Tryd.underlying23 tS43 tZ43 rfl tB43 Tryd.underlying23 rfl rfl o1_ o30 (xxv rfl) (by rw [wcs_size];simp only [List.length_cons,List.length_nil];omega) (by decide) fun v31 X32 o33=>?_
    have o34:OwnS 43 2 v31 (wcs (l_++[((x,y):FWay)])) X32:=o33.as (xyv _ ((x,y):FWay))
    refine xgx (tm':=zq2 (zq32 _)) rfl ?_
    refine ro (xaz xhv rfl (a':=⟨b13,2,none⟩) rfl) ?_
    refine xpv mn tS23 rfl (v:=v31) rfl o34.one (i:=0) rfl (Nat.succ_le_iff.1 (Nat.le_of_ble_eq_true rfl)) (cs2:=[w4,w5,v31]) rfl (xcj (L':=([(b13,.cells #[w4,w5,v31] 25 (0,0)),(b3,.cells #[.slice none 0 0,.slice none 0 0,.slice none 0 0] 25 (0,0)),(b2,.cells #[.int .i64 (x),.int .i64 (y)] 43 (0,0)),(b1,.cells #[.slice a1 t.nH c1,.slice a2 t.nW c2,.slice a3 t.m c3] 25 (0,0))]:Pcs)++(X32++(X9++(X7++(X8++[]))))) rfl ?_)
    refine ro (xax (v:=.bool (true)) rfl) <| xak ?_
    refine ybx (xnq (C:=[]) (A:=([(b13,.cells #[w4,w5,v31] 25 (0,0)),(b3,.cells #[.slice none 0 0,.slice none 0 0,.slice none 0 0] 25 (0,0)),(b2,.cells #[.int .i64 (x),.int .i64 (y)] 43 (0,0)),(b1,.cells #[.slice a1 t.nH c1,.slice a2 t.nW c2,.slice a3 t.m c3] 25 (0,0))]:Pcs)) 8 [[],[0],[],[2],[],[2,3,4],[2,3,4,5],[2,3,4,5,6],[],[],[]] [8,9,10,11] [8,9,10,11,7] [0,1,2,3,4,5,6] (fun i_=>match i_ with | 8=>X32 | 9=>X9 | 10=>X7 | 11=>X8 | _=>[]) (fun _=>[]) (fun i_=>match i_ with | 0=>[] | 1=>[0] | 2=>[] | 3=>[2] | 4=>[] | 5=>[3,4] | 6=>[5] | 7=>[6] | _=>[]) (fun i_ val_ pc_ v_ x_=>match i_ with | 0=>v_= .pointer (some ⟨b13,2,none⟩)∧x_=[] | 1=>v_=v31∧x_=[] | 2=>v_= .pointer (some ⟨b1,2,none⟩)∧x_=[] | 3=>v_= .slice a3 t.m c3∧x_=[] | 4=>v_= .int .i64 (((k:Nat):Int))∧x_=[] | 5=>v_= .pointer (some ((adr a3).add (k*2)))∧x_=[] | 6=>v_= .agg #[.int .i64 ((t.wy.getD k wz).1),.int .i64 ((t.wy.getD k wz).2)]∧x_=[] | 7=>OwnS 43 2 v_ [[.int .i64 ((t.wy.getD k wz).1),.int .i64 ((t.wy.getD k wz).2)]] x_ | _=>True) (fun val35=>(.agg #[.slice a1 t.nH c1,.slice a2 t.nW c2,.slice a3 t.m c3]::.agg #[.int .i64 (x),.int .i64 (y)]::.pointer (some ⟨b1,0,none⟩)::.pointer (some ⟨b2,0,none⟩)::.pointer (some ⟨b3,0,none⟩)::.pointer (some ⟨b13,0,none⟩)::.bool (true)::.int .i64 (((k:Nat):Int))::.agg #[.slice a1 t.nH c1,.slice a2 t.nW c2,.slice a3 t.m c3]::.agg #[w4,w5,w6]::.pointer (some ⟨b13,2,none⟩)::.int .i64 (((k:Nat):Int))::.pointer (some ⟨b1,2,none⟩)::.slice a3 t.m c3::.int .i64 (((t.m:Nat):Int))::.bool (decide (((k:Nat):Int)<((t.m:Nat):Int)))::(y14 16)::(y14 17)::.bool (p_)::.bool (!p_)::.bool (!p_)::.agg #[.int .i64 (x),.int .i64 (y)]::.pointer (some ⟨b1,2,none⟩)::.slice a3 t.m c3::.int .i64 (((k:Nat):Int))::.pointer (some ((adr a3).add (k*2)))::.agg #[.int .i64 ((t.wy.getD k wz).1),.int .i64 ((t.wy.getD k wz).2)]::.bool (decide (Bf ((x,y):FWay) (((t.wy.getD k wz).1,(t.wy.getD k wz).2):FWay)))::.bool (decide (Bf ((x,y):FWay) (((t.wy.getD k wz).1,(t.wy.getD k wz).2):FWay)))::.pointer (some ⟨b13,2,none⟩)::w_::.agg #[.int .i64 (x),.int .i64 (y)]::v28::v31::.pointer (some ⟨b13,2,none⟩)::(val35 0)::(val35 1)::(val35 2)::(val35 3)::(val35 4)::(val35 5)::(val35 6)::(val35 7)::(y14 43)::(y14 44)::undef::zu8 [])) xlq (by kernel_rfl) (Nat.le_of_ble_eq_true rfl) (by kernel_rfl) (by kernel_rfl) (by kernel_rfl) (fun _ _=>⟨fun _ _ h=>h.2,⟨fun _ _ h=>h.2,⟨fun _ _ h=>h.2,⟨fun _ _ h=>h.2,⟨fun _ _ h=>h.2,⟨fun _ _ h=>h.2,⟨fun _ _ h=>h.2,trivial⟩⟩⟩⟩⟩⟩⟩) (fun _=>by kernel_rfl) (by kernel_rfl) ?_ ?_) (fun h_ H_=>St.swap (A:=([(b13,.cells #[w4,w5,v31] 25 (0,0)),(b3,.cells #[.slice none 0 0,.slice none 0 0,.slice none 0 0] 25 (0,0)),(b2,.cells #[.int .i64 (x),.int .i64 (y)] 43 (0,0)),(b1,.cells #[.slice a1 t.nH c1,.slice a2 t.nW c2,.slice a3 t.m c3] 25 (0,0))]:Pcs)) (U:=(X32++(X9++(X7++(X8++[]))))) H_)
    ·
     refine xbx rfl (xez ?_) ?_
     ·
      intro val35 pc36 hQ_ hX_
      obtain ⟨q_,hq0_⟩: ∃ q_:Value→Pcs→Prop,q_=(fun v_ x_=>v_= .pointer (some ⟨b13,2,none⟩)∧x_=[]):=⟨_,rfl⟩
      refine ⟨(zq2 (zq4 (zq16 (zq32 [])))),[],q_,rfl,rfl,(fun _ _ z_=>by subst hq0_;exact z_),?_⟩
      subst hq0_
      exact xdw mn (fun _ h_ H_=>xaz xhv rfl (a':=⟨b13,2,none⟩) rfl) ⟨rfl,rfl⟩
     refine xbx rfl (xez ?_) ?_
     ·
      intro val35 pc36 hQ_ hX_
      have e0_:val35 0= .pointer (some ⟨b13,2,none⟩):=(hQ_ 0 rfl).1
      obtain ⟨q_,hq0_⟩: ∃ q_:Value→Pcs→Prop,q_=(fun v_ x_=>v_=v31∧x_=[]):=⟨_,rfl⟩
      refine ⟨(zq2 (zq4 (zq16 (zq32 [])))),[],q_,(by rw [e0_]),rfl,(fun _ _ z_=>by subst hq0_;exact z_),?_⟩
      subst hq0_
      exact xdw mn (fun _ h_ H_=>xaj H_ tA23 rfl (i:=0) rfl (v:=v31) rfl) ⟨rfl,rfl⟩
     refine xbx rfl (xez ?_) ?_
     ·
      intro val35 pc36 hQ_ hX_
      obtain ⟨q_,hq0_⟩: ∃ q_:Value→Pcs→Prop,q_=(fun v_ x_=>v_= .pointer (some ⟨b1,2,none⟩)∧x_=[]):=⟨_,rfl⟩
      refine ⟨(zq2 (zq4 (zq16 (zq32 [])))),[],q_,rfl,rfl,(fun _ _ z_=>by subst hq0_;exact z_),?_⟩
      subst hq0_
      exact xdw mn (fun _ h_ H_=>xaz xhv rfl (a':=⟨b1,2,none⟩) rfl) ⟨rfl,rfl⟩
     refine xbx rfl (xez ?_) ?_
     ·
      intro val35 pc36 hQ_ hX_
      have e2_:val35 2= .pointer (some ⟨b1,2,none⟩):=(hQ_ 2 rfl).1
      obtain ⟨q_,hq0_⟩: ∃ q_:Value→Pcs→Prop,q_=(fun v_ x_=>v_= .slice a3 t.m c3∧x_=[]):=⟨_,rfl⟩
      refine ⟨(zq2 (zq4 (zq16 (zq32 [])))),[],q_,(by rw [e2_]),rfl,(fun _ _ z_=>by subst hq0_;exact z_),?_⟩
      subst hq0_
      exact xdw mn (fun _ h_ H_=>xaj H_ tA23 rfl (i:=3) rfl (v:=.slice a3 t.m c3) rfl) ⟨rfl,rfl⟩
     refine xbx rfl (xez ?_) ?_
     ·
      intro val35 pc36 hQ_ hX_
      obtain ⟨q_,hq0_⟩: ∃ q_:Value→Pcs→Prop,q_=(fun v_ x_=>v_= .int .i64 (((k:Nat):Int))∧x_=[]):=⟨_,rfl⟩
      refine ⟨(zq2 (zq4 (zq16 (zq32 [])))),[],q_,rfl,rfl,(fun _ _ z_=>by subst hq0_;exact z_),?_⟩
      subst hq0_
      exact xdw mn (fun _ h_ H_=>xaq (v:=.int .i64 (((k:Nat):Int))) rfl) ⟨rfl,rfl⟩
     refine xbx rfl (xez ?_) ?_
     ·
      intro val35 pc36 hQ_ hX_
      have e3_:val35 3= .slice a3 t.m c3:=(hQ_ 3 rfl).1
      have e4_:val35 4= .int .i64 (((k:Nat):Int)):=(hQ_ 4 rfl).1
      obtain ⟨q_,hq0_⟩: ∃ q_:Value→Pcs→Prop,q_=(fun v_ x_=>v_= .pointer (some ((adr a3).add (k*2)))∧x_=[]):=⟨_,rfl⟩
      refine ⟨(zq2 (zq4 (zq16 (zq32 [])))),[],q_,(by rw [e3_,e4_]),rfl,(fun _ _ z_=>by subst hq0_;exact z_),?_⟩
      subst hq0_
      exact xdw mn (fun _ h_ H_=>xcz (i:=k) Tryd.underlying23 tS43 (xkq a3 t.m c3 (T.y.ne (by omega))) rfl (by omega)) ⟨rfl,rfl⟩
     refine xbx rfl (xez ?_) ?_
     ·
      intro val35 pc36 hQ_ hX_
      have e5_:val35 5= .pointer (some ((adr a3).add (k*2))):=(hQ_ 5 rfl).1
      obtain ⟨q_,hq0_⟩: ∃ q_:Value→Pcs→Prop,q_=(fun v_ x_=>v_= .agg #[.int .i64 ((t.wy.getD k wz).1),.int .i64 ((t.wy.getD k wz).2)]∧x_=[]):=⟨_,rfl⟩
      refine ⟨(zq2 (zq4 (zq16 (zq32 [])))),[],q_,(by rw [e5_]),rfl,(fun _ _ z_=>by subst hq0_;exact z_),?_⟩
      subst hq0_
      exact xdw mn (fun _ h_ H_=>xhx H_ tA43 tS43 rfl (vs:=[.int .i64 ((t.wy.getD k wz).1),.int .i64 ((t.wy.getD k wz).2)]) rfl (T.y.all (by omega))) ⟨rfl,rfl⟩
     refine xbx rfl (xez ?_) ?_
     ·
      intro val35 pc36 hQ_ hX_
      have e6_:val35 6= .agg #[.int .i64 ((t.wy.getD k wz).1),.int .i64 ((t.wy.getD k wz).2)]:=(hQ_ 6 rfl).1
      obtain ⟨q_,hq0_⟩: ∃ q_:Value→Pcs→Prop,q_=(fun v_ x_=>OwnS 43 2 v_ [[.int .i64 ((t.wy.getD k wz).1),.int .i64 ((t.wy.getD k wz).2)]] x_):=⟨_,rfl⟩
      refine ⟨(zq2 (zq4 (zq16 (zq32 [])))),[],q_,(by rw [e6_]),rfl,(fun _ _ z_=>by subst hq0_;exact z_),?_⟩
      subst hq0_
      exact xoz mn Tryd.underlying23 tS43 tZ43 (Nat.le_of_ble_eq_true rfl) (vs:=[(0,.agg #[.int .i64 ((t.wy.getD k wz).1),.int .i64 ((t.wy.getD k wz).2)])]) rfl rfl (es:=[[.int .i64 ((t.wy.getD k wz).1),.int .i64 ((t.wy.getD k wz).2)]]) rfl rfl rfl fun _ _ o_=>o_
     exact xmw rfl
    intro val35 pc36 hQ_ hX_
    have e0_:val35 0= .pointer (some ⟨b13,2,none⟩):=(hQ_ 0 (by decide)).1
    have e1_:val35 1=v31:=(hQ_ 1 (by decide)).1
    have e2_:val35 2= .pointer (some ⟨b1,2,none⟩):=(hQ_ 2 (by decide)).1
    have e3_:val35 3= .slice a3 t.m c3:=(hQ_ 3 (by decide)).1
    have e4_:val35 4= .int .i64 (((k:Nat):Int)):=(hQ_ 4 (by decide)).1
    have e5_:val35 5= .pointer (some ((adr a3).add (k*2))):=(hQ_ 5 (by decide)).1
    have e6_:val35 6= .agg #[.int .i64 ((t.wy.getD k wz).1),.int .i64 ((t.wy.getD k wz).2)]:=(hQ_ 6 (by decide)).1
    have q7_:OwnS 43 2 (val35 7) [[.int .i64 ((t.wy.getD k wz).1),.int .i64 ((t.wy.getD k wz).2)]] (pc36 7):=hQ_ 7 (by decide)
    have x8_:pc36 8=X32:=hX_ 8 (by decide)
    have x9_:pc36 9=X9:=hX_ 9 (by decide)
    have x10_:pc36 10=X7:=hX_ 10 (by decide)
    have x11_:pc36 11=X8:=hX_ 11 (by decide)
    clear hQ_ hX_
    refine yax (Φ:=fun h_=>St h [] p h_ (([(b13,.cells #[w4,w5,v31] 25 (0,0)),(b3,.cells #[.slice none 0 0,.slice none 0 0,.slice none 0 0] 25 (0,0)),(b2,.cells #[.int .i64 (x),.int .i64 (y)] 43 (0,0)),(b1,.cells #[.slice a1 t.nH c1,.slice a2 t.nW c2,.slice a3 t.m c3] 25 (0,0))]:Pcs)++(pc36 8++(pc36 9++(pc36 10++(pc36 11++(pc36 7++[]))))))) ?_ (fun h_ H_=>H_.swap')
    rw [x8_,x9_,x10_,x11_]
    refine xgx (tm':=(zq2 (zq4 (zq16 (zq32 []))))) (by rw [e0_,e1_,e2_,e3_,e4_,e5_,e6_]) ?_
    have o39:=q7_
    refine xlw (List.Perm.append_left _ (List.Perm.append_left _ (List.Perm.append_left _ (List.Perm.append_left _ (List.perm_append_comm_assoc _ _ _))))) ?_
    refine xlw (List.Perm.append_left _ (List.Perm.append_left _ (List.Perm.append_left _ (List.perm_append_comm_assoc _ _ _)))) ?_
    refine xlw (List.Perm.append_left _ (List.Perm.append_left _ (List.perm_append_comm_assoc _ _ _))) ?_
    refine xcj (L':=([(b13,.cells #[w4,w5,v31] 25 (0,0)),(b3,.cells #[.slice none 0 0,.slice none 0 0,.slice none 0 0] 25 (0,0)),(b2,.cells #[.int .i64 (x),.int .i64 (y)] 43 (0,0)),(b1,.cells #[.slice a1 t.nH c1,.slice a2 t.nW c2,.slice a3 t.m c3] 25 (0,0))]:Pcs)++(X32++((pc36 7)++(X9++(X7++(X8++[])))))) rfl ?_
    refine xrv ([(b13,.cells #[w4,w5,v31] 25 (0,0)),(b3,.cells #[.slice none 0 0,.slice none 0 0,.slice none 0 0] 25 (0,0)),(b2,.cells #[.int .i64 (x),.int .i64 (y)] 43 (0,0)),(b1,.cells #[.slice a1 t.nH c1,.slice a2 t.nW c2,.slice a3 t.m c3] 25 (0,0))]:Pcs) X32 (pc36 7) mn Tryd.underlying23 tS43 tZ43 rfl tB43 Tryd.underlying23 rfl rfl o34 o39 (xxv rfl) (by rw [wcs_size];first | (simp only [List.length_cons,List.length_nil];omega) | (rw [List.length_append];simp only [List.length_cons,List.length_nil];omega)) (by decide) fun v40 X41 o42=>?_
    have o43:OwnS 43 2 v40 (wcs ((l_++[((x,y):FWay)])++[(t.wy.getD k wz)])) X41:=o42.as (xyv _ (t.wy.getD k wz))
    refine ro (xaz xhv rfl (a':=⟨b13,2,none⟩) rfl) ?_
    refine xpv mn tS23 rfl (v:=v40) rfl o43.one (i:=0) rfl (Nat.succ_le_iff.1 (Nat.le_of_ble_eq_true rfl)) (cs2:=[w4,w5,v40]) rfl (xcj (L':=([(b13,.cells #[w4,w5,v40] 25 (0,0)),(b3,.cells #[.slice none 0 0,.slice none 0 0,.slice none 0 0] 25 (0,0)),(b2,.cells #[.int .i64 (x),.int .i64 (y)] 43 (0,0)),(b1,.cells #[.slice a1 t.nH c1,.slice a2 t.nW c2,.slice a3 t.m c3] 25 (0,0))]:Pcs)++(X41++(X9++(X7++(X8++[]))))) rfl ?_)
    refine xak <| xeq <| xbq <| rt (xaq (v:=.int .i64 (((k:Nat):Int))) rfl) (tm':=zq1 (zq16 _)) rfl ?_
    refine ro (xfx rfl rfl (n:=((k+1:Nat):Int)) (wr (by omega))) ?_
    refine ro (xax (v:=.int .i64 (((k+1:Nat):Int))) rfl) <| xak ?_
    exact fun h_ H_=>IH15 _ _ (by omega) h_ ⟨k+1,true,((l_++[((x,y):FWay)])++[(t.wy.getD k wz)]),v40,X41,rfl,(y_of rfl),(by omega),(wgv hp_ (by first | (rw [show p_=true by assumption];rfl) | (rw [show p_=false by assumption,decide_eq_true (show Bf (x,y) (t.wy.getD k wz) by assumption)];rfl) | (rw [show p_=false by assumption,decide_eq_false (show ¬ Bf (x,y) (t.wy.getD k wz) by assumption)];rfl))),(vej hp_ hl_ (by assumption) (by assumption)),o43,H_⟩
   ·
    refine xcv rfl (dff cc27) <| xdq ?_
    refine ybx (xnq (C:=[]) (A:=([(b13,.cells #[w4,w5,w_] 25 (0,0)),(b3,.cells #[.slice none 0 0,.slice none 0 0,.slice none 0 0] 25 (0,0)),(b2,.cells #[.int .i64 (x),.int .i64 (y)] 43 (0,0)),(b1,.cells #[.slice a1 t.nH c1,.slice a2 t.nW c2,.slice a3 t.m c3] 25 (0,0))]:Pcs)) 8 [[],[0],[],[2],[],[2,3,4],[2,3,4,5],[2,3,4,5,6],[],[],[]] [8,9,10,11] [8,9,10,11,7] [0,1,2,3,4,5,6] (fun i_=>match i_ with | 8=>X1_ | 9=>X9 | 10=>X7 | 11=>X8 | _=>[]) (fun _=>[]) (fun i_=>match i_ with | 0=>[] | 1=>[0] | 2=>[] | 3=>[2] | 4=>[] | 5=>[3,4] | 6=>[5] | 7=>[6] | _=>[]) (fun i_ val_ pc_ v_ x_=>match i_ with | 0=>v_= .pointer (some ⟨b13,2,none⟩)∧x_=[] | 1=>v_=w_∧x_=[] | 2=>v_= .pointer (some ⟨b1,2,none⟩)∧x_=[] | 3=>v_= .slice a3 t.m c3∧x_=[] | 4=>v_= .int .i64 (((k:Nat):Int))∧x_=[] | 5=>v_= .pointer (some ((adr a3).add (k*2)))∧x_=[] | 6=>v_= .agg #[.int .i64 ((t.wy.getD k wz).1),.int .i64 ((t.wy.getD k wz).2)]∧x_=[] | 7=>OwnS 43 2 v_ [[.int .i64 ((t.wy.getD k wz).1),.int .i64 ((t.wy.getD k wz).2)]] x_ | _=>True) (fun val44=>(.agg #[.slice a1 t.nH c1,.slice a2 t.nW c2,.slice a3 t.m c3]::.agg #[.int .i64 (x),.int .i64 (y)]::.pointer (some ⟨b1,0,none⟩)::.pointer (some ⟨b2,0,none⟩)::.pointer (some ⟨b3,0,none⟩)::.pointer (some ⟨b13,0,none⟩)::.bool (p_)::.int .i64 (((k:Nat):Int))::.agg #[.slice a1 t.nH c1,.slice a2 t.nW c2,.slice a3 t.m c3]::.agg #[w4,w5,w6]::.pointer (some ⟨b13,2,none⟩)::.int .i64 (((k:Nat):Int))::.pointer (some ⟨b1,2,none⟩)::.slice a3 t.m c3::.int .i64 (((t.m:Nat):Int))::.bool (decide (((k:Nat):Int)<((t.m:Nat):Int)))::(y14 16)::(y14 17)::.bool (p_)::.bool (!p_)::.bool (!p_)::.agg #[.int .i64 (x),.int .i64 (y)]::.pointer (some ⟨b1,2,none⟩)::.slice a3 t.m c3::.int .i64 (((k:Nat):Int))::.pointer (some ((adr a3).add (k*2)))::.agg #[.int .i64 ((t.wy.getD k wz).1),.int .i64 ((t.wy.getD k wz).2)]::.bool (decide (Bf ((x,y):FWay) (((t.wy.getD k wz).1,(t.wy.getD k wz).2):FWay)))::.bool (decide (Bf ((x,y):FWay) (((t.wy.getD k wz).1,(t.wy.getD k wz).2):FWay)))::(y14 29)::(y14 30)::(y14 31)::(y14 32)::(y14 33)::(y14 34)::(val44 0)::(val44 1)::(val44 2)::(val44 3)::(val44 4)::(val44 5)::(val44 6)::(val44 7)::(y14 43)::(y14 44)::undef::zu8 [])) xlq (by kernel_rfl) (Nat.le_of_ble_eq_true rfl) (by kernel_rfl) (by kernel_rfl) (by kernel_rfl) (fun _ _=>⟨fun _ _ h=>h.2,⟨fun _ _ h=>h.2,⟨fun _ _ h=>h.2,⟨fun _ _ h=>h.2,⟨fun _ _ h=>h.2,⟨fun _ _ h=>h.2,⟨fun _ _ h=>h.2,trivial⟩⟩⟩⟩⟩⟩⟩) (fun _=>by kernel_rfl) (by kernel_rfl) ?_ ?_) (fun h_ H_=>St.swap (A:=([(b13,.cells #[w4,w5,w_] 25 (0,0)),(b3,.cells #[.slice none 0 0,.slice none 0 0,.slice none 0 0] 25 (0,0)),(b2,.cells #[.int .i64 (x),.int .i64 (y)] 43 (0,0)),(b1,.cells #[.slice a1 t.nH c1,.slice a2 t.nW c2,.slice a3 t.m c3] 25 (0,0))]:Pcs)) (U:=(X1_++(X9++(X7++(X8++[]))))) H_)
    ·
     refine xbx rfl (xez ?_) ?_
     ·
      intro val44 pc45 hQ_ hX_
      obtain ⟨q_,hq0_⟩: ∃ q_:Value→Pcs→Prop,q_=(fun v_ x_=>v_= .pointer (some ⟨b13,2,none⟩)∧x_=[]):=⟨_,rfl⟩
      refine ⟨(zq2 (zq4 (zq16 (zq32 [])))),[],q_,rfl,rfl,(fun _ _ z_=>by subst hq0_;exact z_),?_⟩
      subst hq0_
      exact xdw mn (fun _ h_ H_=>xaz xhv rfl (a':=⟨b13,2,none⟩) rfl) ⟨rfl,rfl⟩
     refine xbx rfl (xez ?_) ?_
     ·
      intro val44 pc45 hQ_ hX_
      have e0_:val44 0= .pointer (some ⟨b13,2,none⟩):=(hQ_ 0 rfl).1
      obtain ⟨q_,hq0_⟩: ∃ q_:Value→Pcs→Prop,q_=(fun v_ x_=>v_=w_∧x_=[]):=⟨_,rfl⟩
      refine ⟨(zq2 (zq4 (zq16 (zq32 [])))),[],q_,(by rw [e0_]),rfl,(fun _ _ z_=>by subst hq0_;exact z_),?_⟩
      subst hq0_
      exact xdw mn (fun _ h_ H_=>xaj H_ tA23 rfl (i:=0) rfl (v:=w_) rfl) ⟨rfl,rfl⟩
     refine xbx rfl (xez ?_) ?_
     ·
      intro val44 pc45 hQ_ hX_
      obtain ⟨q_,hq0_⟩: ∃ q_:Value→Pcs→Prop,q_=(fun v_ x_=>v_= .pointer (some ⟨b1,2,none⟩)∧x_=[]):=⟨_,rfl⟩
      refine ⟨(zq2 (zq4 (zq16 (zq32 [])))),[],q_,rfl,rfl,(fun _ _ z_=>by subst hq0_;exact z_),?_⟩
      subst hq0_
      exact xdw mn (fun _ h_ H_=>xaz xhv rfl (a':=⟨b1,2,none⟩) rfl) ⟨rfl,rfl⟩
     refine xbx rfl (xez ?_) ?_
     ·
      intro val44 pc45 hQ_ hX_
      have e2_:val44 2= .pointer (some ⟨b1,2,none⟩):=(hQ_ 2 rfl).1
      obtain ⟨q_,hq0_⟩: ∃ q_:Value→Pcs→Prop,q_=(fun v_ x_=>v_= .slice a3 t.m c3∧x_=[]):=⟨_,rfl⟩
      refine ⟨(zq2 (zq4 (zq16 (zq32 [])))),[],q_,(by rw [e2_]),rfl,(fun _ _ z_=>by subst hq0_;exact z_),?_⟩
      subst hq0_
      exact xdw mn (fun _ h_ H_=>xaj H_ tA23 rfl (i:=3) rfl (v:=.slice a3 t.m c3) rfl) ⟨rfl,rfl⟩
     refine xbx rfl (xez ?_) ?_
     ·
      intro val44 pc45 hQ_ hX_
      obtain ⟨q_,hq0_⟩: ∃ q_:Value→Pcs→Prop,q_=(fun v_ x_=>v_= .int .i64 (((k:Nat):Int))∧x_=[]):=⟨_,rfl⟩
      refine ⟨(zq2 (zq4 (zq16 (zq32 [])))),[],q_,rfl,rfl,(fun _ _ z_=>by subst hq0_;exact z_),?_⟩
      subst hq0_
      exact xdw mn (fun _ h_ H_=>xaq (v:=.int .i64 (((k:Nat):Int))) rfl) ⟨rfl,rfl⟩
     refine xbx rfl (xez ?_) ?_
     ·
      intro val44 pc45 hQ_ hX_
      have e3_:val44 3= .slice a3 t.m c3:=(hQ_ 3 rfl).1
      have e4_:val44 4= .int .i64 (((k:Nat):Int)):=(hQ_ 4 rfl).1
      obtain ⟨q_,hq0_⟩: ∃ q_:Value→Pcs→Prop,q_=(fun v_ x_=>v_= .pointer (some ((adr a3).add (k*2)))∧x_=[]):=⟨_,rfl⟩
      refine ⟨(zq2 (zq4 (zq16 (zq32 [])))),[],q_,(by rw [e3_,e4_]),rfl,(fun _ _ z_=>by subst hq0_;exact z_),?_⟩
      subst hq0_
      exact xdw mn (fun _ h_ H_=>xcz (i:=k) Tryd.underlying23 tS43 (xkq a3 t.m c3 (T.y.ne (by omega))) rfl (by omega)) ⟨rfl,rfl⟩
     refine xbx rfl (xez ?_) ?_
     ·
      intro val44 pc45 hQ_ hX_
      have e5_:val44 5= .pointer (some ((adr a3).add (k*2))):=(hQ_ 5 rfl).1
      obtain ⟨q_,hq0_⟩: ∃ q_:Value→Pcs→Prop,q_=(fun v_ x_=>v_= .agg #[.int .i64 ((t.wy.getD k wz).1),.int .i64 ((t.wy.getD k wz).2)]∧x_=[]):=⟨_,rfl⟩
      refine ⟨(zq2 (zq4 (zq16 (zq32 [])))),[],q_,(by rw [e5_]),rfl,(fun _ _ z_=>by subst hq0_;exact z_),?_⟩
      subst hq0_
      exact xdw mn (fun _ h_ H_=>xhx H_ tA43 tS43 rfl (vs:=[.int .i64 ((t.wy.getD k wz).1),.int .i64 ((t.wy.getD k wz).2)]) rfl (T.y.all (by omega))) ⟨rfl,rfl⟩
     refine xbx rfl (xez ?_) ?_
     ·
      intro val44 pc45 hQ_ hX_
      have e6_:val44 6= .agg #[.int .i64 ((t.wy.getD k wz).1),.int .i64 ((t.wy.getD k wz).2)]:=(hQ_ 6 rfl).1
      obtain ⟨q_,hq0_⟩: ∃ q_:Value→Pcs→Prop,q_=(fun v_ x_=>OwnS 43 2 v_ [[.int .i64 ((t.wy.getD k wz).1),.int .i64 ((t.wy.getD k wz).2)]] x_):=⟨_,rfl⟩
      refine ⟨(zq2 (zq4 (zq16 (zq32 [])))),[],q_,(by rw [e6_]),rfl,(fun _ _ z_=>by subst hq0_;exact z_),?_⟩
      subst hq0_
      exact xoz mn Tryd.underlying23 tS43 tZ43 (Nat.le_of_ble_eq_true rfl) (vs:=[(0,.agg #[.int .i64 ((t.wy.getD k wz).1),.int .i64 ((t.wy.getD k wz).2)])]) rfl rfl (es:=[[.int .i64 ((t.wy.getD k wz).1),.int .i64 ((t.wy.getD k wz).2)]]) rfl rfl rfl fun _ _ o_=>o_
     exact xmw rfl
    intro val44 pc45 hQ_ hX_
    have e0_:val44 0= .pointer (some ⟨b13,2,none⟩):=(hQ_ 0 (by decide)).1
    have e1_:val44 1=w_:=(hQ_ 1 (by decide)).1
    have e2_:val44 2= .pointer (some ⟨b1,2,none⟩):=(hQ_ 2 (by decide)).1
    have e3_:val44 3= .slice a3 t.m c3:=(hQ_ 3 (by decide)).1
    have e4_:val44 4= .int .i64 (((k:Nat):Int)):=(hQ_ 4 (by decide)).1
    have e5_:val44 5= .pointer (some ((adr a3).add (k*2))):=(hQ_ 5 (by decide)).1
    have e6_:val44 6= .agg #[.int .i64 ((t.wy.getD k wz).1),.int .i64 ((t.wy.getD k wz).2)]:=(hQ_ 6 (by decide)).1
    have q7_:OwnS 43 2 (val44 7) [[.int .i64 ((t.wy.getD k wz).1),.int .i64 ((t.wy.getD k wz).2)]] (pc45 7):=hQ_ 7 (by decide)
    have x8_:pc45 8=X1_:=hX_ 8 (by decide)
    have x9_:pc45 9=X9:=hX_ 9 (by decide)
    have x10_:pc45 10=X7:=hX_ 10 (by decide)
    have x11_:pc45 11=X8:=hX_ 11 (by decide)
    clear hQ_ hX_
    refine yax (Φ:=fun h_=>St h [] p h_ (([(b13,.cells #[w4,w5,w_] 25 (0,0)),(b3,.cells #[.slice none 0 0,.slice none 0 0,.slice none 0 0] 25 (0,0)),(b2,.cells #[.int .i64 (x),.int .i64 (y)] 43 (0,0)),(b1,.cells #[.slice a1 t.nH c1,.slice a2 t.nW c2,.slice a3 t.m c3] 25 (0,0))]:Pcs)++(pc45 8++(pc45 9++(pc45 10++(pc45 11++(pc45 7++[]))))))) ?_ (fun h_ H_=>H_.swap')
    rw [x8_,x9_,x10_,x11_]
    refine xgx (tm':=(zq2 (zq4 (zq16 (zq32 []))))) (by rw [e0_,e1_,e2_,e3_,e4_,e5_,e6_]) ?_
    have o48:=q7_
    refine xlw (List.Perm.append_left _ (List.Perm.append_left _ (List.Perm.append_left _ (List.Perm.append_left _ (List.perm_append_comm_assoc _ _ _))))) ?_
    refine xlw (List.Perm.append_left _ (List.Perm.append_left _ (List.Perm.append_left _ (List.perm_append_comm_assoc _ _ _)))) ?_
    refine xlw (List.Perm.append_left _ (List.Perm.append_left _ (List.perm_append_comm_assoc _ _ _))) ?_
    refine xcj (L':=([(b13,.cells #[w4,w5,w_] 25 (0,0)),(b3,.cells #[.slice none 0 0,.slice none 0 0,.slice none 0 0] 25 (0,0)),(b2,.cells #[.int .i64 (x),.int .i64 (y)] 43 (0,0)),(b1,.cells #[.slice a1 t.nH c1,.slice a2 t.nW c2,.slice a3 t.m c3] 25 (0,0))]:Pcs)++(X1_++((pc45 7)++(X9++(X7++(X8++[])))))) rfl ?_
    refine xrv ([(b13,.cells #[w4,w5,w_] 25 (0,0)),(b3,.cells #[.slice none 0 0,.slice none 0 0,.slice none 0 0] 25 (0,0)),(b2,.cells #[.int .i64 (x),.int .i64 (y)] 43 (0,0)),(b1,.cells #[.slice a1 t.nH c1,.slice a2 t.nW c2,.slice a3 t.m c3] 25 (0,0))]:Pcs) X1_ (pc45 7) mn Tryd.underlying23 tS43 tZ43 rfl tB43 Tryd.underlying23 rfl rfl o1_ o48 (xxv rfl) (by rw [wcs_size];first | (simp only [List.length_cons,List.length_nil];omega) | (rw [List.length_append];simp only [List.length_cons,List.length_nil];omega)) (by decide) fun v49 X50 o51=>?_
    have o52:OwnS 43 2 v49 (wcs (l_++[(t.wy.getD k wz)])) X50:=o51.as (xyv _ (t.wy.getD k wz))
    refine ro (xaz xhv rfl (a':=⟨b13,2,none⟩) rfl) ?_
    refine xpv mn tS23 rfl (v:=v49) rfl o52.one (i:=0) rfl (Nat.succ_le_iff.1 (Nat.le_of_ble_eq_true rfl)) (cs2:=[w4,w5,v49]) rfl (xcj (L':=([(b13,.cells #[w4,w5,v49] 25 (0,0)),(b3,.cells #[.slice none 0 0,.slice none 0 0,.slice none 0 0] 25 (0,0)),(b2,.cells #[.int .i64 (x),.int .i64 (y)] 43 (0,0)),(b1,.cells #[.slice a1 t.nH c1,.slice a2 t.nW c2,.slice a3 t.m c3] 25 (0,0))]:Pcs)++(X50++(X9++(X7++(X8++[]))))) rfl ?_)
    refine xak <| xeq <| xbq <| rt (xaq (v:=.int .i64 (((k:Nat):Int))) rfl) (tm':=zq1 (zq16 _)) rfl ?_
    refine ro (xfx rfl rfl (n:=((k+1:Nat):Int)) (wr (by omega))) ?_
    refine ro (xax (v:=.int .i64 (((k+1:Nat):Int))) rfl) <| xak ?_
    exact fun h_ H_=>IH15 _ _ (by omega) h_ ⟨k+1,p_,(l_++[(t.wy.getD k wz)]),v49,X50,rfl,(y_of rfl),(by omega),(wgv hp_ (by first | (rw [show p_=true by assumption];rfl) | (rw [show p_=false by assumption,decide_eq_true (show Bf (x,y) (t.wy.getD k wz) by assumption)];rfl) | (rw [show p_=false by assumption,decide_eq_false (show ¬ Bf (x,y) (t.wy.getD k wz) by assumption)];rfl))),(zuk hp_ hl_ (by first | exact fun z_=>absurd z_.2 (by assumption) | exact fun z_=>absurd z_.1 (by rw [show p_=true by assumption];decide))),o52,H_⟩
 ·
  refine xcv rfl (dff cc16) <| xiq rfl <| xej <| fsr <| rt (xaq (v:=.bool (p_)) rfl) (tm':=zq2 (zq4 (zq16 (zq32 [])))) rfl <| ro (xgz rfl) ?_
  refine xak ?_
  rcases xwx (p_) with cc53 | cc53
  ·
   refine xcv rfl (xev cc53) <| xdq <| fsr <| rd (fun h_ H_=>xav H_ tA25 tS25 rfl (i:=0) rfl (vs:=[w4,w5,w_]) rfl rfl) ?_
   refine xjk mn tS25 rfl (v:=.agg #[w4,w5,w_]) rfl (i:=1) rfl rfl (xfj o10.one.2 (xfj o11.one.2 (xfj o1_.one.2 rfl))) (Nat.le_of_ble_eq_true rfl) (cs2:=[w4,w5,w_]) rfl (xcj (L':=([(b13,.cells #[w4,w5,w_] 25 (0,0)),(b3,.cells #[w4,w5,w_] 25 (0,0)),(b2,.cells #[.int .i64 (x),.int .i64 (y)] 43 (0,0)),(b1,.cells #[.slice a1 t.nH c1,.slice a2 t.nW c2,.slice a3 t.m c3] 25 (0,0))]:Pcs)++(X1_++(X9++(X7++(X8++[]))))) rfl ?_)
   refine xak ?_
   refine xew Tryd.func26 rfl (vs:=[.agg #[w4,w5,w_]]) (fun h_ H_=>⟨.agg #[w4,w5,w_],_,rfl,(xbk (xbw (xox tA25 tS25 (vs:=[w4,w5,w_]) rfl (fun j_ v_ e_=>by rw [xoq];exact H_.ocell (i:=1) rfl (by simpa using e_)) ⟨rfl,rfl⟩))),rfl⟩) (v:=.agg #[w4,w5,w_]) rfl ?_
   have kE_:k=t.m:=by omega
   exact fun h_ H_=>K _ _ ⟨_,_,_,_,_,_,rfl,o10,o11,o1_.as (congrArg wcs (by rw [withW,if_pos (by rw [← kE_,← hp_];assumption),← kE_,← hl_])),by simpa using ((H_.dropA).sub (List.Sublist.append_left (List.sublist_append_right _ _) _)).new⟩
  ·
   refine xdk rfl (xgv cc53) <| xbq <| rt (xaz xhv rfl (a':=⟨b13,2,none⟩) rfl) (tm':=zq2 (zq4 (zq16 (zq32 [])))) rfl <| rd (fun h_ H_=>xaj H_ tA23 rfl (i:=0) rfl (v:=w_) rfl) <| rd (fun h_ H_=>xav H_ tA43 tS43 rfl (i:=2) rfl (vs:=[.int .i64 (x),.int .i64 (y)]) rfl rfl) ?_
   refine xmj ([(b13,.cells #[w4,w5,w_] 25 (0,0)),(b3,.cells #[.slice none 0 0,.slice none 0 0,.slice none 0 0] 25 (0,0)),(b2,.cells #[.int .i64 (x),.int .i64 (y)] 43 (0,0)),(b1,.cells #[.slice a1 t.nH c1,.slice a2 t.nW c2,.slice a3 t.m c3] 25 (0,0))]:Pcs) mn Tryd.underlying23 tS43 tZ43 (Nat.le_of_ble_eq_true rfl) (vs:=[(0,.agg #[.int .i64 (x),.int .i64 (y)])]) rfl rfl (es:=[[.int .i64 (x),.int .i64 (y)]]) rfl rfl rfl fun v54 X55 o56=>?_
   refine xgx (tm':=zq2 (zq4 (zq16 (zq32 [])))) rfl ?_
   refine xlw (List.Perm.append_left _ (List.perm_append_comm_assoc _ _ _)) ?_
   refine xcj (L':=([(b13,.cells #[w4,w5,w_] 25 (0,0)),(b3,.cells #[.slice none 0 0,.slice none 0 0,.slice none 0 0] 25 (0,0)),(b2,.cells #[.int .i64 (x),.int .i64 (y)] 43 (0,0)),(b1,.cells #[.slice a1 t.nH c1,.slice a2 t.nW c2,.slice a3 t.m c3] 25 (0,0))]:Pcs)++(X1_++(X55++(X9++(X7++(X8++[])))))) rfl ?_
   refine xrv ([(b13,.cells #[w4,w5,w_] 25 (0,0)),(b3,.cells #[.slice none 0 0,.slice none 0 0,.slice none 0 0] 25 (0,0)),(b2,.cells #[.int .i64 (x),.int .i64 (y)] 43 (0,0)),(b1,.cells #[.slice a1 t.nH c1,.slice a2 t.nW c2,.slice a3 t.m c3] 25 (0,0))]:Pcs) X1_ X55 mn Tryd.underlying23 tS43 tZ43 rfl tB43 Tryd.underlying23 rfl rfl o1_ o56 (xxv rfl) (by rw [wcs_size];simp only [List.length_cons,List.length_nil];omega) (by decide) fun v57 X58 o59=>?_
   have o60:OwnS 43 2 v57 (wcs (l_++[((x,y):FWay)])) X58:=o59.as (xyv _ ((x,y):FWay))
   refine ro (xaz xhv rfl (a':=⟨b13,2,none⟩) rfl) ?_
   refine xpv mn tS23 rfl (v:=v57) rfl o60.one (i:=0) rfl (Nat.succ_le_iff.1 (Nat.le_of_ble_eq_true rfl)) (cs2:=[w4,w5,v57]) rfl (xcj (L':=([(b13,.cells #[w4,w5,v57] 25 (0,0)),(b3,.cells #[.slice none 0 0,.slice none 0 0,.slice none 0 0] 25 (0,0)),(b2,.cells #[.int .i64 (x),.int .i64 (y)] 43 (0,0)),(b1,.cells #[.slice a1 t.nH c1,.slice a2 t.nW c2,.slice a3 t.m c3] 25 (0,0))]:Pcs)++(X58++(X9++(X7++(X8++[]))))) rfl ?_)
   refine ren <| xbq ?_
   refine xaw mn (fun h_ H_=>xav H_ tA25 tS25 rfl (i:=0) rfl (vs:=[w4,w5,v57]) rfl rfl) (tm':=zq2 (zq4 (zq16 (zq32 [])))) rfl ?_
   refine xjk mn tS25 rfl (v:=.agg #[w4,w5,v57]) rfl (i:=1) rfl rfl (xfj o10.one.2 (xfj o11.one.2 (xfj o60.one.2 rfl))) (Nat.le_of_ble_eq_true rfl) (cs2:=[w4,w5,v57]) rfl (xcj (L':=([(b13,.cells #[w4,w5,v57] 25 (0,0)),(b3,.cells #[w4,w5,v57] 25 (0,0)),(b2,.cells #[.int .i64 (x),.int .i64 (y)] 43 (0,0)),(b1,.cells #[.slice a1 t.nH c1,.slice a2 t.nW c2,.slice a3 t.m c3] 25 (0,0))]:Pcs)++(X58++(X9++(X7++(X8++[]))))) rfl ?_)
   refine xak ?_
   refine xew Tryd.func26 rfl (vs:=[.agg #[w4,w5,v57]]) (fun h_ H_=>⟨.agg #[w4,w5,v57],_,rfl,(xbk (xbw (xox tA25 tS25 (vs:=[w4,w5,v57]) rfl (fun j_ v_ e_=>by rw [xoq];exact H_.ocell (i:=1) rfl (by simpa using e_)) ⟨rfl,rfl⟩))),rfl⟩) (v:=.agg #[w4,w5,v57]) rfl ?_
   have kE_:k=t.m:=by omega
   exact fun h_ H_=>K _ _ ⟨_,_,_,_,_,_,rfl,o10,o11,o60.as (congrArg wcs (by rw [withW,if_neg (by rw [← kE_,← hp_,show p_=false by assumption];decide),← kE_,← hl_])),by simpa using ((H_.dropA).sub (List.Sublist.append_left (List.sublist_append_right _ _) _)).new⟩
theorem vbv (md:Md) {h:Heap} {p:PHeap} (hp:Per p h) {a1 a2 a3:Option Addr} {c1 c2 c3:Nat} {t:Tn} (T:TownP p a1 t.nH a2 t.nW a3 t.m t) (hn:t.nH≤40∧t.nW≤40∧t.m≤41) (hcap:t.m≤c3) (N:NoneP p) (hc:chkB t=0) {x y:Int} (hx:0≤x∧x≤(t.nH:Int)-1) (hy:0≤y∧y≤(t.nW:Int)-1):
  CallsX Tryd.prog md 55 #[.agg #[.slice a1 t.nH c1,.slice a2 t.nW c2,.slice a3 t.m c3],.int .i64 x,.int .i64 y] h fun v h'=>v= .tuple #[.bool (decide (WayP t x y)),.int .i64 (wayV t x y)]∧Keep h h':=
 (c55 md h p hp _ _ _ _ _ _ t T hn hcap x y N).mono fun _ _ ⟨e,k⟩=>⟨by rw [e,wayB_p (vcz hc hx hy),wayE_v (vcz hc hx hy)],k⟩
end Go.Proofs.YtalfgojocdonhaaDoor
namespace Go.X
open Go.Conc Go.RowKit

def AtFin (P:Program) (v:Value) (g:Goroutine):Prop:=g.status= .running∧ ∀ w:World,stepG P true g w= .ended (.done v) w #[]
def StopE (P:Program) (R:Value→Heap→Prop) (g:Goroutine) (h:Heap):Prop:=∃ v,AtFin P v g∧R v h
def EntersX (P:Program) (md:Md) (f:FuncId) (args:Array Value) (h:Heap) (R:Value→Heap→Prop):Prop:=Reach P md (G (Frame.enter P f args .normal) []) h (StopE P R)

section
variable {P:Program} {md:Md} {f:FuncId} {h:Heap} {Φ:Heap→Prop} {tm:List Value} {k:List Item} {R:Value→Heap→Prop}

end

def nilO:Obj→Obj
  | .cells c e f=>if c.size=0 then .cells #[] 0 (0,0) else .cells c e f
  | o=>o
def nilV (r:Heap):Heap:=r.map nilO
def Empty (r:Heap) (b:Nat):Prop:=∃ e f,r[b]?=some (.cells #[] e f)
section
variable {P:Program} {f:FuncId} {args:Array Value} {w:World} {R:Value→Heap→Prop}
end
end Go.X
namespace Go.X
open Go.Conc Go.RowKit Go.ChangeShapes Go.WideShapes Go.ChangeAt

def vwP (W:World):PHeap:=fun b=>(nilV W.heap)[b]?
theorem zyk {f:Nat→Option Value}: ∀ {l:List Nat} {r:List Value},l.mapM f=some r→r.length=l.length∧ ∀ (j:Nat) (x:Value),r[j]?=some x→ ∃ i,l[j]?=some i∧f i=some x
  | [],r,h=>by simp at h;subst h;simp
  | i::l,r,h=>by
    simp only [List.mapM_cons,Option.bind_eq_bind,Option.bind_eq_some_iff] at h
    obtain ⟨y,hy,ys,hys,e⟩:=h
    obtain rfl:y::ys=r:=by simpa using e
    obtain ⟨h1,h2⟩:=zyk hys
    refine ⟨by simp [h1],fun j x hx=>?_⟩
    cases j with
    | zero=>simp at hx;subst hx;exact ⟨i,rfl,hy⟩
    | succ j=>exact h2 j x (by simpa using hx)

theorem zpq {W:World} {a:Addr} {n:Nat} {cs:List Value} (h:W.cells? 0 a n=some cs):cs.length=n∧ ∀ (j:Nat) (x:Value),cs[j]?=some x→W.cell? (a.add j)=some x:=by
  unfold World.cells? at h
  rw [if_pos (Nat.zero_le _)] at h
  obtain ⟨h1,h2⟩:=zyk h
  refine ⟨by simpa using h1,fun j x hx=>?_⟩
  obtain ⟨i,hi,hf⟩:=h2 j x hx
  obtain ⟨_,rfl⟩:j<n∧j=i:=by simpa [List.getElem?_range'] using List.getElem?_eq_some_iff.1 hi
  exact hf

theorem sl_nil (p:PHeap) (w:Nat):Sl p none 0 w []:=⟨rfl,by simp,fun h=>absurd h (by omega),fun i e he=>by simp at he⟩

section
variable {H:Type} {enc:TypeId × Value→H} {P:Program} {W:World}
theorem zcw {t:TypeId} {m:Nat} {cs:List Value} {y:DataW H × List MemPlace} (ht:P.underlying t=some (.int .i64)) (h:DataW.trod enc P W 0 (fun _=>true) true m t cs=some y): ∃ n:Int,cs=[.int .i64 n]:=by
  obtain ⟨n,e,_,_⟩:=DataW.trod_int ht h
  exact ⟨n,e⟩
theorem yiz (hl:laidOutB P=true) {W':World} (hB:Below W.heap.size W W'): ∀ {ts:List TypeId} {vs:List Value} {ds:List (DataW H)} {ps:List MemPlace},(∀ t∈ts,P.readableRec t=true∧t<P.types.size)→(∀ x∈ps,x.block<W.heap.size)→
    DataW.TrodAll enc P W 0 (fun _=>true) true ts vs ds ps→DataW.TrodAll enc P W' 0 (fun b=>decide (b<W.heap.size)) true ts vs ds ps
  | [],[],[],_,_,_,h=>h
  | _::_,[],_,_,_,_,h=>by cases h
  | [],_::_,_,_,_,_,h=>by cases h
  | [],[],_::_,_,_,_,h=>by cases h
  | _::_,_::_,[],_,_,_,h=>by cases h
  | t::ts,v::vs,d::ds,ps,hr,hlt,⟨p,q,h1,h2,e⟩=>by
    subst e
    exact ⟨p,q,Below.trod hl (hr t (by simp)).1 (hr t (by simp)).2 h1 hB (fun x hx=>hlt x (by simp [hx])),yiz hl hB (fun t' ht'=>hr t' (by simp [ht'])) (fun x hx=>hlt x (by simp [hx])) h2,rfl⟩

theorem ykq {fn:Func} {s:ChangeSpec} {W':World} {args:Array Value} {ds gs:List (DataW H)} {before:List MemPlace} {fresh handsOn:Bool} {tb:TypeId} (hl:laidOutB P=true) (hvars:s.vars=[])
    (hts: ∀ t∈fn.params.toList,P.readableRec t=true∧t<P.types.size) (hrt:fn.resultTypes=#[tb]) (hub:P.underlying tb=some .bool) (hW:DataW.Whole enc P fn.params.toList s.vars false W args.toList ds gs before)
    (hs:s.fn H (ds++gs)={ results:=[.lit (.bool true)],args:=ds }) (hB:Below W.heap.size W W'):s.post enc P fn false fresh handsOn false W args (.bool true) W':=by
  have hW':=hW
  obtain ⟨p,q,hA,hV,rfl,_,_⟩:=hW
  rw [hvars] at hV
  obtain rfl:q=[]:=by
    cases gs with
    | nil=>exact hV
    | cons _ _=>exact hV.elim
  refine ⟨ds,gs,p++[],[],p,[],hW',?_,?_,?_,hB.frame _,fun h=>by cases h⟩
  · rw [hs,hrt]
    exact ⟨[],[],⟨1,by simp [DataW.trod,hub,Value.cells]⟩,rfl,rfl⟩
  · rw [hs]
    exact yiz hl hB hts (fun x hx=>hW'.lt x (by simp [hx])) hA
  · rw [hs,hvars];rfl
end
end Go.X
namespace Go.X
open Go.Conc Go.RowKit

section
variable {P:Program} {f:FuncId} {args:Array Value} {h:Heap} {w:World} {R:Value→Heap→Prop}

def StopL (P:Program) (f:FuncId) (cs:List Frame) (R:Value→Heap→Prop) (g:Goroutine) (h:Heap):Prop:=
  ∃ fr v,g=G fr cs∧fr.fn=f∧(∀ w,fr.leaving P w (.returned v))∧R v h
def EntersL (P:Program) (f:FuncId) (args:Array Value) (h:Heap) (R:Value→Heap→Prop):Prop:=∀ cs,Reach P .lone (G (Frame.enter P f args .normal) cs) h (StopL P f cs R)

theorem xrj (x:EntersL P f args w.heap R):Calls P f args w fun e w'=>∃ v,e= .returned v∧R v w'.heap∧Calm w w':=by
  intro cs
  obtain ⟨g',w',a,⟨fr,v,rfl,hf,hl,hR⟩,c⟩:=x cs w rfl
  exact ⟨.returned v,w',fr,⟨v,rfl,hR,c⟩,a,hf,hl w'⟩

theorem xuk {Φ:Heap→Prop} {tm:List Value} {fn:Func} {c:Code} (hf:P.funcs[f]?=some fn) (hb:fn.body=some c) (ht:args.toList++List.replicate (fn.ntmps-args.size) undef=tm)
    (x: ∀ cs,RS P .lone (G (FL f .none tm [] [.code c]) cs) Φ (StopL P f cs R)) (h0:Φ h):EntersL P f args h R:=by
  intro cs
  have:=x cs h h0
  have e:Frame.enter P f args .normal=FL f .none tm [] [.code c]:=by
    unfold Frame.enter
    simp only [hf,hb,Option.map_some,Option.bind_some,Option.getD_some,FL,F,B,← ht]
    simp [Rd.kind,Rd.round]
  rw [e];exact this

theorem xlk {Φ:Heap→Prop} [Stb Φ] {cs:List Frame} {tm:List Value} {k:List Item} {fn:Func} {t:Nat} {vs:List Value} {v:Value} (hf:P.funcs[f]?=some fn) (hr:fn.results=#[.tmp t]) (e: ∀ h,Φ h→Res P h tm [.tmp t] vs) (hv:packs vs=v)
    (x: ∀ h,Φ h→R v h):RS P .lone (G (FL f .none tm [] (.code .ret::k)) cs) Φ (StopL P f cs R):=
  wkx (hro:=rfl) fun _=>fun h y=>wdx (by
    obtain ⟨v',vs',rfl,h1,h2⟩:=e h y
    obtain rfl:vs'=[]:=h2
    subst hv
    refine ⟨_,v',rfl,rfl,fun w=>⟨rfl,rfl,rfl,fn,hf,?_⟩,x h y⟩
    unfold results
    simp only [hr,FR,B,← h1]
    simp)
end
end Go.X
namespace Go.Proofs.YtalfgojocdonhaaDoor
open Go.X Go.X.Flow Go.Conc Go.RowKit Go.ChangeShapes Go.WideShapes Go.ChangeAt Go.Joins

set_option maxRecDepth 100000

theorem pOwn:ownKnob Tryd.prog.godebug=none:=by kernel_rfl
theorem wmv:laidOutB Tryd.prog=true:=by kernel_rfl
theorem pC3: Tryd.prog.cellsOf 3=1:=by kernel_rfl
theorem pC25: Tryd.prog.cellsOf 25=3:=by kernel_rfl
theorem pC43: Tryd.prog.cellsOf 43=2:=by kernel_rfl

def pW (W:World):PHeap:=fun b=>W.heap[b]?
theorem zlw (W:World):Per (pW W) W.heap:=fun _ _ e=>e
theorem vhq {W:World} {a:Addr} {v:Value} (h:W.cell? a=some v):pcell (pW W) a=some v:=by
  unfold World.cell? at h
  unfold pcell pW
  cases e:W.heap[a.block]? with
  | none=>rw [e] at h;cases h
  | some o=>
    rw [e] at h
    cases o with
    | cells c t f=>exact h
    | _=>cases h
theorem sl_W {W:World} {a:Addr} {n w:Nat} {E:Nat→List Value} (h: ∀ i,i<n→W.cells? 0 (a.add (i*w)) w=some (E i)):Sl (pW W) (some a) n w ((List.range n).map E):=by
  refine ⟨by simp,fun e he=>?_,fun _=>rfl,fun i e he j x hx=>?_⟩
  · obtain ⟨i,hi,rfl⟩:=List.mem_map.1 he
    exact (zpq (h i (List.mem_range.1 hi))).1
  · rw [List.getElem?_map] at he
    obtain ⟨i',hi',rfl⟩:=Option.map_eq_some_iff.1 he
    obtain ⟨hlt,rfl⟩:i<n∧i=i':=by simpa using List.getElem?_eq_some_iff.1 hi'
    exact vhq ((zpq (h i hlt)).2 j x hx)

section
variable {H:Type} {enc:TypeId × Value→H} {W:World}
theorem zyx {fuel:Nat} {t e w:TypeId} {v:Value} {y:DataW H × List MemPlace} {Q:List Value→Prop} (ht: Tryd.prog.underlying t=some (.slice e)) (hw: Tryd.prog.cellsOf e=w)
    (hQ: ∀ m cs y,DataW.trod enc Tryd.prog W 0 (fun _=>true) true m e cs=some y→Q cs) (h:DataW.trod enc Tryd.prog W 0 (fun _=>true) true fuel t [v]=some y):
    ∃ a n c E,v= .slice a n c∧n≤9223372036854775807∧n≤c∧(∀ i,i<n→Q (E i))∧Sl (pW W) a n w ((List.range n).map E):=by
  rcases Go.Deep.open_slice ht h with ⟨e1,_⟩ | ⟨a,len,cap,m,k,D,Pl,e1,_,hl,hcap,hm,_,hall⟩
  · obtain rfl:v= .slice none 0 0:=by simpa using e1
    exact ⟨none,0,0,fun _=>[],rfl,by omega,Nat.le_refl _,fun i hi=>absurd hi (by omega),sl_nil _ _⟩
  · obtain rfl:v= .slice (some a) len cap:=by simpa using e1
    simp only [if_true] at hm
    subst hw
    obtain ⟨E,hE⟩:=Go.Deep.choose_lt (n:=len) (p:=fun i cs=>W.cells? 0 (a.add (i* Tryd.prog.cellsOf e)) (Tryd.prog.cellsOf e)=some cs∧Q cs) fun i hi=>by
      obtain ⟨cs,h1,h2⟩:=hall i (by omega)
      exact ⟨cs,h1,hQ _ _ _ h2⟩
    exact ⟨_,_,_,E,rfl,by unfold maxLen at hcap;omega,hl,fun i hi=>(hE i hi).2,sl_W fun i hi=>(hE i hi).1⟩
theorem yoq {fuel:Nat} {v:Value} {y:DataW H × List MemPlace} (h:DataW.trod enc Tryd.prog W 0 (fun _=>true) true fuel 22 [v]=some y):
    ∃ a n c xs,v= .slice a n c∧n≤9223372036854775807∧n≤c∧Ints (pW W) a n xs:=by
  obtain ⟨a,n,c,E,rfl,hb,hc,hQ,s⟩:=zyx Tryd.underlying22 pC3 (Q:=fun cs=>∃ n:Int,cs=[.int .i64 n]) (fun m cs y h=>zcw Tryd.underlying3 h) h
  obtain ⟨z,hz⟩:=Go.Deep.choose_lt hQ
  refine ⟨a,n,c,(List.range n).map z,rfl,hb,hc,?_⟩
  have:(List.range n).map E=((List.range n).map z).map fun x=>[Value.int .i64 x]:=by
    rw [List.map_map]
    exact List.map_congr_left fun i hi=>hz i (List.mem_range.1 hi)
  unfold Ints
  rw [← this];exact s
theorem zvx {m:Nat} {cs:List Value} {y:DataW H × List MemPlace} (h:DataW.trod enc Tryd.prog W 0 (fun _=>true) true m 43 cs=some y): ∃ x:FWay,cs=x.cells:=by
  obtain ⟨y0,y1,n,_,hl,h0,h1⟩:=trod_struct2 Tryd.underlying43 h
  rw [pC43] at hl
  obtain ⟨a,ha⟩:=zcw Tryd.underlying3 h0
  obtain ⟨b,hb⟩:=zcw Tryd.underlying3 h1
  match cs,hl with
  | [u,v],_=>
    refine ⟨(a,b),?_⟩
    simp [pC3] at ha hb
    simp [FWay.cells,ha,hb]
theorem wex {fuel:Nat} {v:Value} {y:DataW H × List MemPlace} (h:DataW.trod enc Tryd.prog W 0 (fun _=>true) true fuel 23 [v]=some y):
    ∃ a n c xs,v= .slice a n c∧n≤9223372036854775807∧n≤c∧Wys (pW W) a n xs:=by
  obtain ⟨a,n,c,E,rfl,hb,hc,hQ,s⟩:=zyx Tryd.underlying23 pC43 (Q:=fun cs=>∃ x:FWay,cs=x.cells) (fun m cs y h=>zvx h) h
  obtain ⟨z,hz⟩:=Go.Deep.choose_lt hQ
  refine ⟨a,n,c,(List.range n).map z,rfl,hb,hc,?_⟩
  have:(List.range n).map E=wcs ((List.range n).map z):=by
    unfold wcs
    rw [List.map_map]
    exact List.map_congr_left fun i hi=>hz i (List.mem_range.1 hi)
  unfold Wys
  rw [← this];exact s
theorem yaj {base:Nat} {v:Value} {d:DataW H} {p:List MemPlace} (hv:Value.okWide Tryd.prog W .any base 25 v) (h:DataW.Trod enc Tryd.prog W 0 (fun _=>true) true 25 v d p):
    ∃ a1 c1 a2 c2 a3 c3 t,v= .agg #[.slice a1 t.nH c1,.slice a2 t.nW c2,.slice a3 t.m c3]∧(t.nH≤9223372036854775807∧t.nW≤9223372036854775807∧t.m≤9223372036854775807)∧t.m≤c3∧TownP (pW W) a1 t.nH a2 t.nW a3 t.m t:=by
  obtain ⟨v0,v1,v2,y0,y1,y2,n,rfl,_,_,h0,h1,h2⟩:=open_agg3 Tryd.underlying25 (by kernel_rfl) pC25 hv h
  obtain ⟨a1,n1,c1,hs,rfl,b1,_,T1⟩:=yoq h0
  obtain ⟨a2,n2,c2,ws,rfl,b2,_,T2⟩:=yoq h1
  obtain ⟨a3,n3,c3,wy,rfl,b3,hc,T3⟩:=wex h2
  obtain rfl:=T1.len
  obtain rfl:=T2.len
  obtain rfl:=T3.len
  exact ⟨a1,c1,a2,c2,a3,c3,⟨hs,ws,wy⟩,rfl,⟨b1,b2,b3⟩,hc,⟨T1,T2,T3⟩⟩
theorem zmq {base:Nat} {v:Value} {d:DataW H} {p:List MemPlace} (hv:Value.okWide Tryd.prog W .any base 22 v) (h:DataW.Trod enc Tryd.prog W 0 (fun _=>true) true 22 v d p):
    ∃ a n c xs,v= .slice a n c∧n≤9223372036854775807∧Ints (pW W) a n xs:=by
  obtain ⟨a0,n0,c0,rfl⟩:=okWide_slice Tryd.underlying22 hv
  obtain ⟨fuel,hf⟩:=h
  obtain ⟨a,n,c,xs,e,b,_,T⟩:=yoq hf
  exact ⟨a,n,c,xs,by simpa [Value.cells] using e,b,T⟩
theorem wvv {base:Nat} {v:Value} {d:DataW H} {p:List MemPlace} (hv:Value.okWide Tryd.prog W .any base 3 v) (h:DataW.Trod enc Tryd.prog W 0 (fun _=>true) true 3 v d p): ∃ n:Int,v= .int .i64 n∧(-9223372036854775808≤n∧n≤9223372036854775807):=by
  obtain ⟨n,rfl,_,_,hw⟩:=open_int Tryd.underlying3 hv h
  refine ⟨n,rfl,?_⟩
  simpa [Lit.wf,IntKind.min,IntKind.max,IntKind.signed,IntKind.bits] using hw
theorem wvz {base:Nat} {v:Value} {d:DataW H} {p:List MemPlace} (hv:Value.okWide Tryd.prog W .any base 43 v) (h:DataW.Trod enc Tryd.prog W 0 (fun _=>true) true 43 v d p): ∃ x y:Int,v= .agg #[.int .i64 x,.int .i64 y]:=by
  obtain ⟨cs,rfl,hsz⟩:=okWide_struct Tryd.underlying43 hv
  obtain ⟨fuel,hf⟩:=h
  obtain ⟨x,hx⟩:=zvx hf
  exact ⟨x.1,x.2,by obtain ⟨l⟩:=cs;simp [Value.cells,FWay.cells] at hx ⊢;exact hx⟩
end

theorem g_none : Tryd.prog.globalNamed "steening/buckets.none" = some 0 := by kernel_rfl
theorem g_tab : Tryd.prog.globalNamed "math/bits.deBruijn64tab" = some 2 := by kernel_rfl
theorem zvq {W:World} {n:String} {g:Nat} {cs:Array Value} (hg: Tryd.prog.globalNamed n=some g) (h:W.var? Tryd.prog n=some cs): ∃ t z,pW W g=some (.cells cs t z):=by
  unfold World.var? at h
  rw [hg] at h
  simp only [Option.bind_some] at h
  unfold pW
  split at h
  · rename_i c t f e
    obtain rfl:=Option.some.inj h
    exact ⟨t,f,e⟩
  · cases h
theorem xxz {W:World} (h:laidMetH Tryd.prog Rows.bucketsAllRow.laid W):TabP (pW W):=by
  rw [MakeChecks.laidMetH_plain _ _ _ (by kernel_rfl)] at h
  have h2 := laidMet.filter (fun x => x.1 == "math/bits.deBruijn64tab") h
  have e : (Rows.bucketsAllRow.laid.filter fun x => x.1 == "math/bits.deBruijn64tab") = [("math/bits.deBruijn64tab", Lib.tabData .u8 (tab64.map fun n => ((n : Nat) : Int)))] := by kernel_rfl
  rw [e] at h2
  have h3:=Lib.tabIs_of_head (t:=116) (e:=5) (n:=64) g_tab (by kernel_rfl) (by kernel_rfl) (by kernel_rfl) (by kernel_rfl) (by kernel_rfl) h2
  obtain ⟨t,z,h4⟩:=zvq g_tab h3
  exact ⟨t,z,by rw [h4];simp⟩
theorem xvv {W:World} (h:laidMetH Tryd.prog Rows.bucketsAllRow.laid W):NoneP (pW W):=by
  rw [MakeChecks.laidMetH_plain _ _ _ (by kernel_rfl)] at h
  have h2 := laidMet.filter (fun x => x.1 == "steening/buckets.none") h
  have e : (Rows.bucketsAllRow.laid.filter fun x => x.1 == "steening/buckets.none") = [("steening/buckets.none", .agg [.lit (.int .i64 (-1)), .lit (.int .i64 (-1)), .lit (.int .i64 0)])] := by kernel_rfl
  rw [e] at h2
  obtain ⟨ps,⟨g',t',cs,fuel,p,q,hg',ht',hvar,hd,_,_⟩,_⟩:=h2
  obtain rfl:=Option.some.inj (g_none.symm.trans hg')
  obtain rfl:t'=72:=Option.some.inj (ht'.symm.trans (by kernel_rfl))
  obtain ⟨y0,y1,y2,n,hx,hl,h0,h1,h2⟩:=Go.Deep.trod_struct3 Tryd.underlying72 hd
  have e72: Tryd.prog.cellsOf 72=3:=by kernel_rfl
  rw [e72] at hl
  obtain ⟨a,ha,ea,_⟩:=DataW.trod_int Tryd.underlying3 h0
  obtain ⟨b,hb,eb,_⟩:=DataW.trod_int Tryd.underlying3 h1
  obtain ⟨c,hc,ec,_⟩:=DataW.trod_int Tryd.underlying3 h2
  obtain ⟨l⟩:=cs
  match l,hl with
  | [u,v,w],_=>
    simp only [pC3] at ha hb hc
    simp at ha hb hc
    rw [ea,eb,ec] at hx
    simp at hx
    obtain ⟨t,z,h4⟩:=zvq g_none hvar
    refine ⟨t,z,?_⟩
    rw [h4,ha,hb,hc,← hx.1.1,← hx.1.2.1,← hx.1.2.2]
noncomputable def laidW (os:Os):World:=World.laidAll Tryd.prog os Rows.bucketsAllRow.laid
theorem ycv (os:Os) (args:Array Value):laidMetH Tryd.prog Rows.bucketsAllRow.laid ((laidW os).forCall (fun _ _=>0) ⟨#[],args,[]⟩).memory:=by
  rw [MakeChecks.laidMetH_plain _ _ _ (by kernel_rfl)]
  exact laidMet_laidAll _ (by kernel_rfl) (by kernel_rfl)
theorem ymk {w w':World} (k:Keep w.heap w'.heap) (c:Go.X.Calm w w'):Below w.heap.size w w':=⟨c.os,c.tape,c.output,c.size,fun b hb=>k.keep b hb⟩
end Go.Proofs.YtalfgojocdonhaaDoor
namespace Go.X
open Go.Conc
section
variable {P:Program} {h:Heap} {tm:List Value} {d:Option Tmp} {ty:TypeId} {pos:String} {aft:Array Edge} {gd:Option (Nat × Bool)}
theorem yzv {d:Nat} {t:TypeId} {a b:Bool} {K:Bool→Heap→Prop} (ht:P.underlying t=some .bool) (x:K (a == b) h):wpS P (Op.equalIn (d+1) t (.bool a) (.bool b)) h K:=by
  simp only [Op.equalIn]
  refine xbk (xgk ht ?_)
  exact xbw x
theorem yqq {op:BinOp} {T:TypeId} {x y:Operand} {a b:Bool} {K:Unit→Heap→Prop} (z:K () h):wpS P (eqGuard op T x y (.bool a) (.bool b)) h K:=by
  unfold eqGuard
  cases op <;> first | (rw [if_pos (by rfl)];exact xbw z) | (rw [if_neg (by decide)];exact xbw z)
theorem wbx {p q:Prop} [Decidable p] [Decidable q]:(decide p == decide q)=decide (p↔q):=by
  by_cases hp:p <;> by_cases hq:q <;> simp [hp,hq]
theorem zgv {T T':TypeId} {x y:Operand} {p q:Prop} [Decidable p] [Decidable q] (ht:P.underlying T=some .bool) (hx:evl tm x= .bool (decide p)) (hy:evl tm y= .bool (decide q)):
    Exd P tm ⟨d,.binOp .eql T x y T',ty,pos,aft,gd⟩ h (.bool (decide (p↔q))):=by
  refine xrx hx hy (fun K z=>yqq z) ?_
  simp only [binOp,Op.equal,Op.maxDepth]
  refine xbk (yzv ht ?_)
  exact xbw ⟨by rw [wbx],rfl⟩
theorem waj {T T':TypeId} {x y:Operand} {p q:Prop} [Decidable p] [Decidable q] (ht:P.underlying T=some .bool) (hx:evl tm x= .bool (decide p)) (hy:evl tm y= .bool (decide q)):
    Exd P tm ⟨d,.binOp .neq T x y T',ty,pos,aft,gd⟩ h (.bool (!decide (p↔q))):=by
  refine xrx hx hy (fun K z=>yqq z) ?_
  simp only [binOp,Op.equal,Op.maxDepth]
  refine xbk (yzv ht ?_)
  exact xbw ⟨by rw [wbx],rfl⟩
end
end Go.X
namespace Go.X.Flow
open Go.X

def shift (t:Tn) (w:Int × Int):Int × Int:=(w.1+(t.nH:Int),w.2+(t.nW:Int))
def join (t u:Tn):Tn:=⟨t.hs++u.hs,t.ws++u.ws,t.wy++u.wy.map (shift t)⟩
theorem ylv (sel:Int × Int→Bool): ∀ {wy wy':List (Int × Int)} {d e:List Int},d.length=wy.length→dr sel (wy++wy') (d++e)=dr sel wy d+dr sel wy' e
  | [],wy',[],e,_=>by simp [dr]
  | [],_,_::_,_,h=>by simp at h
  | _::_,_,[],_,h=>by simp at h
  | w::ws,wy',n::ds,e,h=>by
    simp only [List.cons_append,dr];rw [ylv sel (by simpa using h)];omega
theorem wbq (sel:Int × Int→Bool) (f:Int × Int→Int × Int): ∀ {wy:List (Int × Int)} {d:List Int},dr sel (wy.map f) d=dr (fun w=>sel (f w)) wy d
  | [],_=>by simp [dr]
  | _::_,[]=>by simp [dr]
  | w::ws,n::ds=>by simp only [List.map_cons,dr];rw [wbq sel f]
theorem yyj {sel sel':Int × Int→Bool}: ∀ {wy:List (Int × Int)} {d:List Int},(∀ w∈wy,sel w=sel' w)→dr sel wy d=dr sel' wy d
  | [],_,_=>by simp [dr]
  | _::_,[],_=>by simp [dr]
  | w::ws,n::ds,h=>by
    simp only [dr];rw [h w (List.mem_cons_self ..),yyj fun v hv=>h v (List.mem_cons_of_mem _ hv)]
theorem yyk: ∀ {wy:List (Int × Int)} {d:List Int},dr (fun _=>false) wy d=0
  | [],_=>by simp [dr]
  | _::_,[]=>by simp [dr]
  | w::ws,n::ds=>by simp only [dr];rw [yyk];rfl
def Wok (t:Tn):Prop:=∀ w∈t.wy,(0≤w.1∧w.1<(t.nH:Int))∧0≤w.2∧w.2<(t.nW:Int)
theorem yww (t u):(join t u).nH=t.nH+u.nH:=by simp [join,Tn.nH]
theorem zfk (t u):(join t u).nW=t.nW+u.nW:=by simp [join,Tn.nW]
theorem ykz (t u):(join t u).m=t.m+u.m:=by simp [join,Tn.m]
theorem ymv {a b:List Int} {i:Nat}:(a++b).getD i 0=if i<a.length then a.getD i 0 else b.getD (i-a.length) 0:=by
  rw [List.getD_eq_getElem?_getD,List.getD_eq_getElem?_getD,List.getD_eq_getElem?_getD]
  by_cases c:i<a.length
  · rw [if_pos c,List.getElem?_append_left c]
  · rw [if_neg c,List.getElem?_append_right (by omega)]
theorem ydq {t u d e} (T:Wok t) (U:Wok u) (hd:d.length=t.m) (he:e.length=u.m) (h:Nat):draw (join t u) (d++e) h=if h<t.nH then draw t d h else draw u e (h-t.nH):=by
  rw [yyz (by rw [List.length_append,ykz,hd,he])]
  show dr _ (t.wy++u.wy.map (shift t)) (d++e)=_
  rw [ylv _ hd,wbq]
  by_cases c:h<t.nH
  · rw [if_pos c,yyz hd,yyj (wy:=u.wy) (sel':=fun _=>false) fun w hw=>by
      have:=U w hw;simp only [shift,beq_eq_false_iff_ne];omega,yyk];omega
  · rw [if_neg c,yyz he,yyj (wy:=t.wy) (sel':=fun _=>false) fun w hw=>by
      have:=T w hw;simp only [beq_eq_false_iff_ne];omega,yyk,yyj (wy:=u.wy) (sel':=fun w=>w.1.toNat == h-t.nH) fun w hw=>by
      have:=U w hw;simp only [shift];rw [Bool.eq_iff_iff,beq_iff_eq,beq_iff_eq];omega];omega
theorem yxx {t u d e} (T:Wok t) (U:Wok u) (hd:d.length=t.m) (he:e.length=u.m) (x:Nat):give (join t u) (d++e) x=if x<t.nW then give t d x else give u e (x-t.nW):=by
  rw [yxz (by rw [List.length_append,ykz,hd,he])]
  show dr _ (t.wy++u.wy.map (shift t)) (d++e)=_
  rw [ylv _ hd,wbq]
  by_cases c:x<t.nW
  · rw [if_pos c,yxz hd,yyj (wy:=u.wy) (sel':=fun _=>false) fun w hw=>by
      have:=U w hw;simp only [shift,beq_eq_false_iff_ne];omega,yyk];omega
  · rw [if_neg c,yxz he,yyj (wy:=t.wy) (sel':=fun _=>false) fun w hw=>by
      have:=T w hw;simp only [beq_eq_false_iff_ne];omega,yyk,yyj (wy:=u.wy) (sel':=fun w=>w.2.toNat == x-t.nW) fun w hw=>by
      have:=U w hw;simp only [shift];rw [Bool.eq_iff_iff,beq_iff_eq,beq_iff_eq];omega];omega
theorem zzq {t u d e} (hd:d.length=t.m) (he:e.length=u.m):tot (join t u) (d++e)=tot t d+tot u e:=by
  rw [ziw (by rw [List.length_append,ykz,hd,he]),ziw hd,ziw he]
  show dr _ (t.wy++u.wy.map (shift t)) (d++e)=_
  rw [ylv _ hd,wbq]
theorem yxq {t u h}:(join t u).hv h=if h<t.nH then t.hv h else u.hv (h-t.nH):=ymv
theorem zsk {t u h}:(join t u).wv h=if h<t.nW then t.wv h else u.wv (h-t.nW):=ymv
theorem wxw {t u d e} (T:Wok t) (U:Wok u) (D:Div t d) (E:Div u e):Div (join t u) (d++e):=by
  refine ⟨by rw [List.length_append,ykz,D.len,E.len],fun i hi=>?_,fun h hh=>?_,fun x hx=>?_⟩
  · rw [ykz] at hi
    unfold dv;rw [ymv]
    have:=D.len
    split
    · exact D.pos i (by omega)
    · exact E.pos _ (by omega)
  · rw [yww] at hh;rw [ydq T U D.len E.len,yxq]
    split
    · next c=>exact D.hs h c
    · next c=>exact E.hs _ (by omega)
  · rw [zfk] at hx;rw [yxx T U D.len E.len,zsk]
    split
    · next c=>exact D.ws x c
    · next c=>exact E.ws _ (by omega)
theorem wek {t u f} (T:Wok t) (U:Wok u) (D:Div (join t u) f): ∃ d e,f=d++e∧Div t d∧Div u e:=by
  have hl:=D.len
  rw [ykz] at hl
  obtain ⟨d,e,rfl,hd⟩: ∃ d e,f=d++e∧d.length=t.m:=⟨f.take t.m,f.drop t.m,(List.take_append_drop ..).symm,by rw [List.length_take];omega⟩
  rw [List.length_append] at hl
  have he:e.length=u.m:=by omega
  refine ⟨d,e,rfl,⟨hd,fun i hi=>?_,fun h hh=>?_,fun x hx=>?_⟩,⟨he,fun i hi=>?_,fun h hh=>?_,fun x hx=>?_⟩⟩
  · have:=D.pos i (by rw [ykz];omega)
    unfold dv at this;rw [ymv,if_pos (by omega)] at this;exact this
  · have:=D.hs h (by rw [yww];omega)
    rw [ydq T U hd he,yxq,if_pos hh,if_pos hh] at this;exact this
  · have:=D.ws x (by rw [zfk];omega)
    rw [yxx T U hd he,zsk,if_pos hx,if_pos hx] at this;exact this
  · have:=D.pos (i+t.m) (by rw [ykz];omega)
    unfold dv at this;rw [ymv,if_neg (by omega),show i+t.m-d.length=i by omega] at this;exact this
  · have:=D.hs (h+t.nH) (by rw [yww];omega)
    rw [ydq T U hd he,yxq,if_neg (by omega),if_neg (by omega),show h+t.nH-t.nH=h by omega] at this;exact this
  · have:=D.ws (x+t.nW) (by rw [zfk];omega)
    rw [yxx T U hd he,zsk,if_neg (by omega),if_neg (by omega),show x+t.nW-t.nW=x by omega] at this;exact this
theorem zbj {t u d e} (T:Wok t) (U:Wok u) (hd:d.length=t.m) (he:e.length=u.m):lackL (join t u) (d++e)=lackL t d++lackL u e:=by
  unfold lackL
  rw [yww,List.range_add,List.map_append,List.map_map]
  congr 1
  · exact List.map_congr_left fun h hh=>by
      have:=List.mem_range.1 hh
      unfold lack;rw [ydq T U hd he,yxq,if_pos this,if_pos this]
  · exact List.map_congr_left fun h _=>by
      show lack (join t u) (d++e) (t.nH+h)=lack u e h
      unfold lack;rw [ydq T U hd he,yxq,if_neg (by omega),if_neg (by omega),show t.nH+h-t.nH=h by omega]
theorem wev {t u d e} (T:Wok t) (U:Wok u) (hd:d.length=t.m) (he:e.length=u.m):lacks (join t u) (d++e)=(lacks u e).foldl put (lacks t d):=by
  have f:=yrw (l:=lacks u e) (o:=lacks t d) (yiv _)
  unfold lacks at f ⊢
  rw [zbj T U hd he]
  refine vdq f.1 (f.2.trans ?_)
  exact ((xvq _).append (xvq _)).trans List.perm_append_comm
theorem zyw {t u d e} (T:Wok t) (U:Wok u) (hd:d.length=t.m) (he:e.length=u.m):val (lacks (join t u) (d++e))=val (lacks t d)+val (lacks u e):=by
  rw [lacks,yrz (xvq _),zbj T U hd he,zpv,← yrz (xvq (lackL t d)),← yrz (xvq (lackL u e))];rfl
theorem zik {t d} (O:Ok t) (D:Div t d):val (LK t)≤val (lacks t d):=zsq O (xlv O xlj).div (ysw O D)
theorem viz {t u} (T:Wok t) (U:Wok u) (O:Ok t) (O':Ok u) (OJ:Ok (join t u)):LK (join t u)=(LK u).foldl put (LK t)∧tot (join t u) (fairP (join t u) none0)=tot t (fairP t none0)+tot u (fairP u none0):=by
  have D:=(xlv O xlj).div
  have E:=(xlv O' xlj).div
  have J:=wxw T U D E
  have el:lacks (join t u) (fairP t none0++fairP u none0)=(LK u).foldl put (LK t):=wev T U D.len E.len
  have ev:=zyw T U D.len E.len
  obtain ⟨d,e,hf,D',E'⟩:=wek T U (xlv OJ xlj).div
  have v1:=zik O D'
  have v2:=zik O' E'
  have v3:val (LK (join t u))=val (lacks t d)+val (lacks u e):=by
    have:LK (join t u)=lacks (join t u) (d++e):=by rw [← hf];rfl
    rw [this,zyw T U D'.len E'.len]
  constructor
  · rw [← el]
    rcases xyk (a:=LK (join t u)) (b:=lacks (join t u) (fairP t none0++fairP u none0)) (by rw [LKlen,xow]) with h | h | h
    · exact h
    · have:=zcx OJ (xlv OJ xlj).div (d':=fairP t none0++fairP u none0) h
      have e1:val (lacks t (fairP t none0))=val (LK t):=rfl
      have e2:val (lacks u (fairP u none0))=val (LK u):=rfl
      have e3:val (lacks (join t u) (fairP (join t u) none0))=val (LK (join t u)):=rfl
      omega
    · rw [ysw OJ J] at h;cases h
  · have m1:=(xjw OJ xlj).most OJ J
    rw [zzq D.len E.len] at m1
    have m2:=(xjw O xlj).most O D'
    have m3:=(xjw O' xlj).most O' E'
    have e1:tot (join t u) (fairP (join t u) none0)=tot t d+tot u e:=by rw [hf,zzq D'.len E'.len]
    omega
end Go.X.Flow
namespace Go.X.Flow
open Go.X
def besW (t u:Tn) (k:Nat):List FWay:=t.wy++(u.wy.take k).map (shift t)
theorem wsq {t u:Tn}:besW t u 0=t.wy:=by simp [besW]
theorem vkx {t u:Tn} {k:Nat} (h:k<u.m):besW t u k++[shift t (u.wy.getD k wz)]=besW t u (k+1):=by
  unfold besW;rw [zjq h,List.map_append,← List.append_assoc];rfl
theorem vak {t u:Tn} {k:Nat} (h:k≤u.m):(besW t u k).length=t.m+k:=by
  unfold besW;rw [List.length_append,List.length_map,List.length_take];show t.m+min k u.m=_;omega
theorem vav {t u:Tn} {k:Nat} (h:k=u.m):besW t u k=(join t u).wy:=by
  subst h;unfold besW join;rw [show u.wy.take u.m=u.wy from List.take_length]
def putK (t u:Tn) (k:Nat):List Int:=((LK u).take k).foldl put (LK t)
theorem wlv {t u:Tn} {k:Nat} (h:k<u.nH):put (putK t u k) ((LK u).getD k 0)=putK t u (k+1):=by
  have hl:k<(LK u).length:=by rw [xqx];exact h
  unfold putK;rw [show (LK u).take (k+1)=(LK u).take k++[(LK u).getD k 0] by rw [List.take_add_one,xuq hl,List.getElem?_eq_getElem hl];rfl,List.foldl_append];rfl
theorem zxq {t u:Tn}: ∀ {k:Nat},k≤u.nH→(putK t u k).length=t.nH+k
  | 0,_=>xqx t
  | k+1,h=>by rw [← wlv (by omega),(yjz _ _).length_eq];show (putK t u k).length+1=_;rw [zxq (by omega)];omega
theorem putK_end {t u:Tn}:putK t u u.nH=(LK u).foldl put (LK t):=by
  unfold putK;rw [List.take_of_length_le (Nat.le_of_eq (xqx u))]
theorem wgk {t:Tn} (h:WOk t):Wok t:=fun w hw=>by
  obtain ⟨i,hi,rfl⟩:=List.mem_iff_getElem.1 hw
  have:=h i hi;rw [xuq hi] at this;omega
structure BesF (t u:Tn):Prop where
  lk:putK t u u.nH=LK (join t u)
  most:mostV (join t u)=mostV t+mostV u
theorem wrw {t u:Tn} (V:Vd t) (U:Vd u) (O:OkT t) (P:OkT u) (J:OkT (join t u)):BesF t u:=by
  have:=viz (wgk V.wok) (wgk U.wok) O.toOk P.toOk J.toOk
  exact ⟨putK_end.trans this.1.symm,this.2⟩
end Go.X.Flow
