/-
  Part of proofs about buckets brought from wells to houses: a lone run, and what it computes. No condition.
-/
import Derived.Test.YtalfgojocdonhaaDoorD2
import Derived.Test.YtalfgojocdonhaaDoorD3
import Derived.Test.YtalfgojocdonhaaDoorD4
import Derived.Test.YtalfgojocdonhaaDoorD1
namespace Go.Proofs.YtalfgojocdonhaaDoor
open Go.X Go.X.Flow Go.Conc
set_option maxRecDepth 10000
set_option synthInstance.maxSize 2000

set_option maxHeartbeats 2000000
theorem c36 (md:Md) (h:Heap) (p:PHeap) (hp:Per p h) (a1 a2 a3:Option Addr) (c1 c2 c3:Nat) (t:Tn) (T:TownP p a1 t.nH a2 t.nW a3 t.m t) (hn:t.nH≤40∧t.nW≤40∧t.m≤41) (N:NoneP p):CallsX Tryd.prog md 36 #[.agg #[.slice a1 t.nH c1,.slice a2 t.nW c2,.slice a3 t.m c3]] h fun v h'=>v= .tuple #[.int .i64 (worstC t),.int .i64 (chkB t)]∧Keep h h':=by
 refine xcw (Φ:=fun h_=>St h [] p h_ []) Tryd.func36 rfl (tm:=zq2 (zq16 [])) rfl ?_ (St.start h _ hp)
 intro c₀ cs Stop K
 refine fsr ?_
 refine xiw mn (v:=.agg #[.slice a1 t.nH c1,.slice a2 t.nW c2,.slice a3 t.m c3]) rfl fun b1=>xcj (L':=[(b1,.cells #[.slice a1 t.nH c1,.slice a2 t.nW c2,.slice a3 t.m c3] 25 (0,0))]) rfl ?_
 refine ro (xax (v:=.int .i64 0) rfl) <| rt (xax (v:=.int .i64 0) rfl) (tm':=zq4 _) rfl <| ren <| xbq <| rd (fun h_ H_=>xav H_ tA25 tS25 rfl (i:=0) rfl (vs:=[.slice a1 t.nH c1,.slice a2 t.nW c2,.slice a3 t.m c3]) rfl rfl) ?_
 refine xcj (L':=([(b1,.cells #[.slice a1 t.nH c1,.slice a2 t.nW c2,.slice a3 t.m c3] 25 (0,0))]:Pcs)++[]) rfl ?_
 refine xjq mn (first:=[]) (cap:=[]) rfl rfl fC43 (R:=fun v_ h_=>∃ w2:Value,∃ X3:Pcs,v_= .tuple #[w2,.int .i64 (chkB t)]∧(OwnS 3 1 w2 (ics (LKc t)) X3)∧St h [] p h_ (([(b1,.cells #[.slice a1 t.nH c1,.slice a2 t.nW c2,.slice a3 t.m c3] 25 (0,0))]:Pcs)++(X3++[]))) (fun h_ H_=>(c43 md _ _ H_.pe _ _ _ _ _ _ t (show TownP _ _ _ _ _ _ _ t from ⟨T.h,T.w,T.y⟩) (by omega) N).mono fun v_ h2_ ⟨w2,X3,e_,o4,N_⟩=>⟨w2,X3,e_,o4,H_.callNA N_⟩) fun v_=>?_
 refine xfv fun w2=>xfv fun X3=>xfz fun ev_=>xfz fun o4=>?_
 have ev_:=ev_.symm;subst ev_
 refine xcj (L':=([(b1,.cells #[.slice a1 t.nH c1,.slice a2 t.nW c2,.slice a3 t.m c3] 25 (0,0))]:Pcs)++(X3++[])) rfl ?_
 refine rt (xaq (v:=.tuple #[w2,.int .i64 (chkB t)]) rfl) (tm':=zq1 (zq2 (zq4 _))) rfl <| ro (xdx rfl (v:=w2) rfl) <| ro (xdx rfl (v:=.int .i64 (chkB t)) rfl) <| rt (xax (v:=w2) rfl) (tm':=zq1 (zq4 _)) rfl <| ro (xax (v:=.int .i64 (chkB t)) rfl) <| ren ?_
 refine xej ?_
 refine xjj (A:=([(b1,.cells #[.slice a1 t.nH c1,.slice a2 t.nW c2,.slice a3 t.m c3] 25 (0,0))]:Pcs)) o4 ((xck _).trans rfl) fun p5 a6 cp7 le8 ev_ D9=>?_
 subst ev_
 refine xkv (L':=[(b1,.cells #[.slice a1 t.nH c1,.slice a2 t.nW c2,.slice a3 t.m c3] 25 (0,0))]) rfl ?_
 refine xbq <| ro (xaq (v:=.slice a6 ((LKc t).length) cp7) rfl) <| rt (xfk Tryd.underlying22 rfl) (tm':=zq2 (zq16 [])) rfl <| ro (xjx rfl rfl) <| xak ?_
 by_cases cc10:(((LKc t).length:Nat):Int)=0
 ·
  refine xdk rfl (dtt cc10) <| fsr <| ro (xaq (v:=.int .i64 (chkB t)) rfl) <| rt (xax (v:=.int .i64 0) rfl) (tm':=_::_::_::_) rfl <| ro (xax (v:=.int .i64 (chkB t)) rfl) <| xak ?_
  refine xew Tryd.func36 rfl (vs:=[.int .i64 0,.int .i64 (chkB t)]) (fun h_ H_=>⟨.int .i64 0,_,rfl,rfl,⟨.int .i64 (chkB t),_,rfl,rfl,rfl⟩⟩) (v:=.tuple #[.int .i64 0,.int .i64 (chkB t)]) rfl ?_
  have z1_:LKc t=[]:=List.length_eq_zero_iff.1 (by omega)
  exact fun h_ H_=>K _ _ ⟨by rw [worstC,z1_];rfl,H_.kept⟩
 ·
  refine xcv rfl (dff cc10) <| xdq <| fsr <| ro (xaq (v:=.slice a6 ((LKc t).length) cp7) rfl) ?_
  refine rt (xcz (i:=0) Tryd.underlying22 tS3 (xkq a6 ((LKc t).length) cp7 ((show Ints _ _ _ (LKc t) from D9).ne (by omega))) rfl (by omega)) (tm':=zq2 (zq16 [])) rfl ?_
  refine rd (fun h_ H_=>xbv H_ tA3 rfl (v:=.int .i64 ((LKc t).getD 0 0)) ((show Ints _ _ _ (LKc t) from D9).get (by omega))) ?_
  refine ro (xax (v:=.int .i64 ((LKc t).getD 0 0)) rfl) <| rt (xax (v:=.int .i64 0) rfl) (tm':=zq4 _) rfl <| xak ?_
  refine xew Tryd.func36 rfl (vs:=[.int .i64 ((LKc t).getD 0 0),.int .i64 0]) (fun h_ H_=>⟨.int .i64 ((LKc t).getD 0 0),_,rfl,rfl,⟨.int .i64 0,_,rfl,rfl,rfl⟩⟩) (v:=.tuple #[.int .i64 ((LKc t).getD 0 0),.int .i64 0]) rfl ?_
  have e0_:chkB t=0:=Decidable.byContradiction fun z_=>by have z2_:=congrArg List.length (vex z_);simp only [List.length_nil] at z2_;omega
  exact fun h_ H_=>K _ _ ⟨by rw [e0_];rfl,H_.kept⟩
theorem c66 (md:Md) (h:Heap) (p:PHeap) (hp:Per p h) (a1 a2 a3:Option Addr) (c1 c2 c3:Nat) (t:Tn) (T:TownP p a1 t.nH a2 t.nW a3 t.m t) (O:OkT t) (z s:Int) (S:Sg ⟨z,-1,s⟩) (hz:0≤z∧z.toNat<t.nH) (bT bZ:Nat) (hT:p bT=some (.cells #[.slice a1 t.nH c1,.slice a2 t.nW c2,.slice a3 t.m c3] 25 (0,0))) (hZ:p bZ=some (.cells #[.int .i64 z] 3 (0,0))):CallsX Tryd.prog md 66 #[.int .i64 (s),.pointer (some ⟨bT,0,none⟩),.pointer (some ⟨bZ,0,none⟩)] h fun v h'=>v= .int .i64 (drawV t z s)∧Keep h h':=by
 refine xcw (Φ:=fun h_=>St h [] p h_ []) Tryd.func66 rfl (tm:=zq1 (zq2 (zq8 (zq16 [])))) rfl ?_ (St.start h _ hp)
 intro c₀ cs Stop K
 have oH:=O.nh
 have oW:=O.nw
 have oM:=O.nm
 refine fsr <| ro (xax (v:=.int .i64 0) rfl) <| ren ?_
 obtain ⟨Gw6,GX7,hG5_⟩:=sk2 (fun (v_:Value) (x_:Pcs) (w6:Value) (X7:Pcs)=>v_=w6∧(OwnS 3 1 w6 (ics (fairP t (⟨z,(-1),s⟩:Wi))) X7)∧x_=(X7++[]))
 obtain ⟨Gw9,Gw10,GX11,GX12,hG6_⟩:=sk4 (fun (v_:Value) (x_:Pcs) (w9:Value) (w10:Value) (X11:Pcs) (X12:Pcs)=>v_= .tuple #[w9,w10]∧(OwnS 3 1 w9 (ics (lackL t (fairP t (⟨z,(-1),s⟩:Wi)))) X11)∧(OwnS 3 1 w10 (ics (hasL t (fairP t (⟨z,(-1),s⟩:Wi)))) X12)∧x_=(X12++(X11++[])))
 refine ybx (xnq (C:=[]) (A:=([]:Pcs)) 11 [[],[],[],[],[],[],[],[6],[],[],[],[]] [] [6] [0,1,2,3,4,7,8,9,10] (fun _=>[]) (fun i_=>match i_ with | 6=>[5] | _=>[]) (fun i_=>match i_ with | 0=>[] | 1=>[] | 2=>[] | 3=>[] | 4=>[2,3] | 5=>[1,4] | 6=>[0,5] | 7=>[6] | 8=>[6,7] | 9=>[6,7] | 10=>[0,1,2,3,4,5,6,7,8] | _=>[]) (fun i_ val_ pc_ v_ x_=>match i_ with | 0=>v_= .agg #[.slice a1 t.nH c1,.slice a2 t.nW c2,.slice a3 t.m c3]∧x_=[] | 1=>v_= .agg #[.slice a1 t.nH c1,.slice a2 t.nW c2,.slice a3 t.m c3]∧x_=[] | 2=>v_= .int .i64 (z)∧x_=[] | 3=>v_= .int .i64 (s)∧x_=[] | 4=>v_= .agg #[.int .i64 (z),.int .i64 (-1),.int .i64 (s)]∧x_=[] | 5=>∃ w6:Value,∃ X7:Pcs,v_=w6∧(OwnS 3 1 w6 (ics (fairP t (⟨z,(-1),s⟩:Wi))) X7)∧x_=(X7++[]) | 6=>∃ w9:Value,∃ w10:Value,∃ X11:Pcs,∃ X12:Pcs,v_= .tuple #[w9,w10]∧(OwnS 3 1 w9 (ics (lackL t (fairP t (⟨z,(-1),s⟩:Wi)))) X11)∧(OwnS 3 1 w10 (ics (hasL t (fairP t (⟨z,(-1),s⟩:Wi)))) X12)∧x_=(X12++(X11++[])) | 7=>v_= .tuple #[(Gw9 (val_ 6) (pc_ 6)),(Gw10 (val_ 6) (pc_ 6))]∧x_=[] | 8=>v_=(Gw9 (val_ 6) (pc_ 6))∧x_=[] | 9=>v_=(Gw10 (val_ 6) (pc_ 6))∧x_=[] | 10=>v_=(Gw9 (val_ 6) (pc_ 6))∧x_=[] | _=>True) (fun val4=>(.int .i64 (s)::.pointer (some ⟨bT,0,none⟩)::.pointer (some ⟨bZ,0,none⟩)::undef::.int .i64 0::(val4 10)::undef::(val4 7)::(val4 0)::(val4 1)::(val4 2)::(val4 3)::(val4 4)::(val4 5)::(val4 6)::(val4 8)::(val4 9)::undef::undef::zu8 [])) xlq (by kernel_rfl) (Nat.le_of_ble_eq_true rfl) (by kernel_rfl) (by kernel_rfl) (by kernel_rfl) (fun _ _=>⟨fun _ _ h=>h.2,⟨fun _ _ h=>h.2,⟨fun _ _ h=>h.2,⟨fun _ _ h=>h.2,⟨fun _ _ h=>h.2,⟨fun _ _ h=>h.2,⟨fun _ _ h=>h.2,⟨fun _ _ h=>h.2,⟨fun _ _ h=>h.2,trivial⟩⟩⟩⟩⟩⟩⟩⟩⟩) (fun _=>by kernel_rfl) (by kernel_rfl) ?_ ?_) (fun h_ H_=>St.swap (A:=([]:Pcs)) (U:=[]) H_)
 ·
  refine xbx rfl (xez ?_) ?_
  ·
   intro val4 pc5 hQ_ hX_
   obtain ⟨q_,hq0_⟩: ∃ q_:Value→Pcs→Prop,q_=(fun v_ x_=>v_= .agg #[.slice a1 t.nH c1,.slice a2 t.nW c2,.slice a3 t.m c3]∧x_=[]):=⟨_,rfl⟩
   refine ⟨(zq1 (zq2 (zq8 (zq16 [])))),[],q_,rfl,rfl,(fun _ _ z_=>by subst hq0_;exact z_),?_⟩
   subst hq0_
   exact xdw mn (fun _ h_ H_=>xhx H_ tA25 tS25 rfl (vs:=[.slice a1 t.nH c1,.slice a2 t.nW c2,.slice a3 t.m c3]) rfl (xvk (n:=3) hT rfl)) ⟨rfl,rfl⟩
  refine xbx rfl (xez ?_) ?_
  ·
   intro val4 pc5 hQ_ hX_
   obtain ⟨q_,hq0_⟩: ∃ q_:Value→Pcs→Prop,q_=(fun v_ x_=>v_= .agg #[.slice a1 t.nH c1,.slice a2 t.nW c2,.slice a3 t.m c3]∧x_=[]):=⟨_,rfl⟩
   refine ⟨(zq1 (zq2 (zq8 (zq16 [])))),[],q_,rfl,rfl,(fun _ _ z_=>by subst hq0_;exact z_),?_⟩
   subst hq0_
   exact xdw mn (fun _ h_ H_=>xhx H_ tA25 tS25 rfl (vs:=[.slice a1 t.nH c1,.slice a2 t.nW c2,.slice a3 t.m c3]) rfl (xvk (n:=3) hT rfl)) ⟨rfl,rfl⟩
  refine xbx rfl (xez ?_) ?_
  ·
   intro val4 pc5 hQ_ hX_
   obtain ⟨q_,hq0_⟩: ∃ q_:Value→Pcs→Prop,q_=(fun v_ x_=>v_= .int .i64 (z)∧x_=[]):=⟨_,rfl⟩
   refine ⟨(zq1 (zq2 (zq8 (zq16 [])))),[],q_,rfl,rfl,(fun _ _ z_=>by subst hq0_;exact z_),?_⟩
   subst hq0_
   exact xdw mn (fun _ h_ H_=>xbv H_ tA3 rfl (v:=.int .i64 (z)) (xkx hZ rfl)) ⟨rfl,rfl⟩
  refine xbx rfl (xez ?_) ?_
  ·
   intro val4 pc5 hQ_ hX_
   obtain ⟨q_,hq0_⟩: ∃ q_:Value→Pcs→Prop,q_=(fun v_ x_=>v_= .int .i64 (s)∧x_=[]):=⟨_,rfl⟩
   refine ⟨(zq1 (zq2 (zq8 (zq16 [])))),[],q_,rfl,rfl,(fun _ _ z_=>by subst hq0_;exact z_),?_⟩
   subst hq0_
   exact xdw mn (fun _ h_ H_=>xaq (v:=.int .i64 (s)) rfl) ⟨rfl,rfl⟩
  refine xbx rfl (xez ?_) ?_
  ·
   intro val4 pc5 hQ_ hX_
   have e2_:val4 2= .int .i64 (z):=(hQ_ 2 rfl).1
   have e3_:val4 3= .int .i64 (s):=(hQ_ 3 rfl).1
   obtain ⟨q_,hq0_⟩: ∃ q_:Value→Pcs→Prop,q_=(fun v_ x_=>v_= .agg #[.int .i64 (z),.int .i64 (-1),.int .i64 (s)]∧x_=[]):=⟨_,rfl⟩
   refine ⟨(zq1 (zq2 (zq8 (zq16 [])))),[],q_,(by rw [e2_,e3_]),rfl,(fun _ _ z_=>by subst hq0_;exact z_),?_⟩
   subst hq0_
   exact xdw mn (fun _ h_ H_=>xjv tZ72 tP72 (vs:=[(0,.int .i64 (z)),(1,.int .i64 (-1)),(2,.int .i64 (s))]) rfl (cells:=#[.int .i64 (z),.int .i64 (-1),.int .i64 (s)]) rfl) ⟨rfl,rfl⟩
  refine xbx rfl (xez ?_) ?_
  ·
   intro val4 pc5 hQ_ hX_
   have e1_:val4 1= .agg #[.slice a1 t.nH c1,.slice a2 t.nW c2,.slice a3 t.m c3]:=(hQ_ 1 rfl).1
   have e4_:val4 4= .agg #[.int .i64 (z),.int .i64 (-1),.int .i64 (s)]:=(hQ_ 4 rfl).1
   obtain ⟨q_,hq0_⟩: ∃ q_:Value→Pcs→Prop,q_=(fun v_ x_=>∃ w6:Value,∃ X7:Pcs,v_=w6∧(OwnS 3 1 w6 (ics (fairP t (⟨z,(-1),s⟩:Wi))) X7)∧x_=(X7++[])):=⟨_,rfl⟩
   refine ⟨(zq1 (zq2 (zq8 (zq16 [])))),[],q_,(by rw [e1_,e4_]),rfl,(fun _ _ z_=>by subst hq0_;exact z_),?_⟩
   subst hq0_
   exact xww mn (first:=[]) (cap:=[]) rfl rfl fC68 (fun _ h_ H_=>(c68 md _ _ H_.pe _ _ _ _ _ _ t (show TownP _ _ _ _ _ _ _ t from ⟨T.h,T.w,T.y⟩) O (⟨z,(-1),s⟩:Wi) S).mono fun v_ h2_ ⟨w6,X7,e_,o8,N_⟩=>⟨_,⟨w6,X7,e_,o8,rfl⟩,H_.callN (show New _ _ (X7++[]) by rw [List.append_nil];exact N_)⟩)
  refine xbx rfl (xez ?_) ?_
  ·
   intro val4 pc5 hQ_ hX_
   have e0_:val4 0= .agg #[.slice a1 t.nH c1,.slice a2 t.nW c2,.slice a3 t.m c3]:=(hQ_ 0 rfl).1
   obtain ⟨e5_,o8,x5_⟩:=hG5_ _ _ (hQ_ 5 rfl)
   generalize hg_w6:Gw6 (val4 5) (pc5 5)=w6 at*
   generalize hg_X7:GX7 (val4 5) (pc5 5)=X7 at*
   obtain ⟨q_,hq0_⟩: ∃ q_:Value→Pcs→Prop,q_=(fun v_ x_=>∃ w9:Value,∃ w10:Value,∃ X11:Pcs,∃ X12:Pcs,v_= .tuple #[w9,w10]∧(OwnS 3 1 w9 (ics (lackL t (fairP t (⟨z,(-1),s⟩:Wi)))) X11)∧(OwnS 3 1 w10 (ics (hasL t (fairP t (⟨z,(-1),s⟩:Wi)))) X12)∧x_=(X12++(X11++[]))):=⟨_,rfl⟩
   refine ⟨(zq1 (zq2 (zq8 (zq16 [])))),((X7++[])++[]),q_,(by rw [e0_,e5_]),(by rw [← x5_];rfl),(fun _ _ z_=>by subst hq0_ hg_w6 hg_X7;exact z_),?_⟩
   subst hq0_
   exact xww mn (first:=[]) (cap:=[]) rfl rfl fC67 (fun _ h_ H_=>ywj md (show TownP _ _ _ _ _ _ _ t from ⟨T.h,T.w,T.y⟩) O (xjw O.toOk S).div o8 ((xck _).trans (yak t _)) (fun x_ h_=>by simp [h_]) H_)
  refine xbx rfl (xez ?_) ?_
  ·
   intro val4 pc5 hQ_ hX_
   obtain ⟨e6_,o13,o14,x6_⟩:=hG6_ _ _ (hQ_ 6 rfl)
   generalize hg_w9:Gw9 (val4 6) (pc5 6)=w9 at*
   generalize hg_w10:Gw10 (val4 6) (pc5 6)=w10 at*
   generalize hg_X11:GX11 (val4 6) (pc5 6)=X11 at*
   generalize hg_X12:GX12 (val4 6) (pc5 6)=X12 at*
   obtain ⟨q_,hq0_⟩: ∃ q_:Value→Pcs→Prop,q_=(fun v_ x_=>v_= .tuple #[w9,w10]∧x_=[]):=⟨_,rfl⟩
   refine ⟨(zq1 (zq2 (zq8 (zq16 [])))),[],q_,(by rw [e6_]),rfl,(fun _ _ z_=>by subst hq0_ hg_w9 hg_w10 hg_X11 hg_X12;exact z_),?_⟩
   subst hq0_
   exact xdw mn (fun _ h_ H_=>xaq (v:=.tuple #[w9,w10]) rfl) ⟨rfl,rfl⟩
  refine xbx rfl (xez ?_) ?_
  ·
   intro val4 pc5 hQ_ hX_
   obtain ⟨e6_,o13,o14,x6_⟩:=hG6_ _ _ (hQ_ 6 rfl)
   have e7_:val4 7= .tuple #[(Gw9 (val4 6) (pc5 6)),(Gw10 (val4 6) (pc5 6))]:=(hQ_ 7 rfl).1
   generalize hg_w9:Gw9 (val4 6) (pc5 6)=w9 at*
   generalize hg_w10:Gw10 (val4 6) (pc5 6)=w10 at*
   generalize hg_X11:GX11 (val4 6) (pc5 6)=X11 at*
   generalize hg_X12:GX12 (val4 6) (pc5 6)=X12 at*
   obtain ⟨q_,hq0_⟩: ∃ q_:Value→Pcs→Prop,q_=(fun v_ x_=>v_=w9∧x_=[]):=⟨_,rfl⟩
   refine ⟨(zq1 (zq2 (zq8 (zq16 [])))),[],q_,(by rw [e6_,e7_]),rfl,(fun _ _ z_=>by subst hq0_ hg_w9 hg_w10 hg_X11 hg_X12;exact z_),?_⟩
   subst hq0_
   exact xdw mn (fun _ h_ H_=>xdx rfl (v:=w9) rfl) ⟨rfl,rfl⟩
  refine xbx rfl (xez ?_) ?_
  ·
   intro val4 pc5 hQ_ hX_
   obtain ⟨e6_,o13,o14,x6_⟩:=hG6_ _ _ (hQ_ 6 rfl)
   have e7_:val4 7= .tuple #[(Gw9 (val4 6) (pc5 6)),(Gw10 (val4 6) (pc5 6))]:=(hQ_ 7 rfl).1
   generalize hg_w9:Gw9 (val4 6) (pc5 6)=w9 at*
   generalize hg_w10:Gw10 (val4 6) (pc5 6)=w10 at*
   generalize hg_X11:GX11 (val4 6) (pc5 6)=X11 at*
   generalize hg_X12:GX12 (val4 6) (pc5 6)=X12 at*
   obtain ⟨q_,hq0_⟩: ∃ q_:Value→Pcs→Prop,q_=(fun v_ x_=>v_=w10∧x_=[]):=⟨_,rfl⟩
   refine ⟨(zq1 (zq2 (zq8 (zq16 [])))),[],q_,(by rw [e6_,e7_]),rfl,(fun _ _ z_=>by subst hq0_ hg_w9 hg_w10 hg_X11 hg_X12;exact z_),?_⟩
   subst hq0_
   exact xdw mn (fun _ h_ H_=>xdx rfl (v:=w10) rfl) ⟨rfl,rfl⟩
  refine xbx rfl (xez ?_) ?_
  ·
   intro val4 pc5 hQ_ hX_
   have e0_:val4 0= .agg #[.slice a1 t.nH c1,.slice a2 t.nW c2,.slice a3 t.m c3]:=(hQ_ 0 rfl).1
   have e1_:val4 1= .agg #[.slice a1 t.nH c1,.slice a2 t.nW c2,.slice a3 t.m c3]:=(hQ_ 1 rfl).1
   have e2_:val4 2= .int .i64 (z):=(hQ_ 2 rfl).1
   have e3_:val4 3= .int .i64 (s):=(hQ_ 3 rfl).1
   have e4_:val4 4= .agg #[.int .i64 (z),.int .i64 (-1),.int .i64 (s)]:=(hQ_ 4 rfl).1
   obtain ⟨e5_,o8,x5_⟩:=hG5_ _ _ (hQ_ 5 rfl)
   obtain ⟨e6_,o13,o14,x6_⟩:=hG6_ _ _ (hQ_ 6 rfl)
   have e7_:val4 7= .tuple #[(Gw9 (val4 6) (pc5 6)),(Gw10 (val4 6) (pc5 6))]:=(hQ_ 7 rfl).1
   have e8_:val4 8=(Gw9 (val4 6) (pc5 6)):=(hQ_ 8 rfl).1
   generalize hg_w6:Gw6 (val4 5) (pc5 5)=w6 at*
   generalize hg_X7:GX7 (val4 5) (pc5 5)=X7 at*
   generalize hg_w9:Gw9 (val4 6) (pc5 6)=w9 at*
   generalize hg_w10:Gw10 (val4 6) (pc5 6)=w10 at*
   generalize hg_X11:GX11 (val4 6) (pc5 6)=X11 at*
   generalize hg_X12:GX12 (val4 6) (pc5 6)=X12 at*
   obtain ⟨q_,hq0_⟩: ∃ q_:Value→Pcs→Prop,q_=(fun v_ x_=>v_=w9∧x_=[]):=⟨_,rfl⟩
   refine ⟨(zq1 (zq2 (zq8 (zq16 [])))),[],q_,(by rw [e0_,e1_,e2_,e3_,e4_,e5_,e6_,e7_,e8_]),rfl,(fun _ _ z_=>by subst hq0_ hg_w6 hg_X7 hg_w9 hg_w10 hg_X11 hg_X12;exact z_),?_⟩
   subst hq0_
   exact xdw mn (fun _ h_ H_=>xax (v:=w9) rfl) ⟨rfl,rfl⟩
  exact xmw rfl
 intro val4 pc5 hQ_ hX_
 have e0_:val4 0= .agg #[.slice a1 t.nH c1,.slice a2 t.nW c2,.slice a3 t.m c3]:=(hQ_ 0 (by decide)).1
 have e1_:val4 1= .agg #[.slice a1 t.nH c1,.slice a2 t.nW c2,.slice a3 t.m c3]:=(hQ_ 1 (by decide)).1
 have e2_:val4 2= .int .i64 (z):=(hQ_ 2 (by decide)).1
 have e3_:val4 3= .int .i64 (s):=(hQ_ 3 (by decide)).1
 have e4_:val4 4= .agg #[.int .i64 (z),.int .i64 (-1),.int .i64 (s)]:=(hQ_ 4 (by decide)).1
 obtain ⟨e5_,o8,x5_⟩:=hG5_ _ _ (hQ_ 5 (by decide))
 obtain ⟨e6_,o13,o14,x6_⟩:=hG6_ _ _ (hQ_ 6 (by decide))
 have e7_:val4 7= .tuple #[(Gw9 (val4 6) (pc5 6)),(Gw10 (val4 6) (pc5 6))]:=(hQ_ 7 (by decide)).1
 have e8_:val4 8=(Gw9 (val4 6) (pc5 6)):=(hQ_ 8 (by decide)).1
 have e9_:val4 9=(Gw10 (val4 6) (pc5 6)):=(hQ_ 9 (by decide)).1
 have e10_:val4 10=(Gw9 (val4 6) (pc5 6)):=(hQ_ 10 (by decide)).1
 clear hQ_ hX_
 generalize Gw6 (val4 5) (pc5 5)=w6 at*
 generalize GX7 (val4 5) (pc5 5)=X7 at*
 generalize Gw9 (val4 6) (pc5 6)=w9 at*
 generalize Gw10 (val4 6) (pc5 6)=w10 at*
 generalize GX11 (val4 6) (pc5 6)=X11 at*
 generalize GX12 (val4 6) (pc5 6)=X12 at*
 refine yax (Φ:=fun h_=>St h [] p h_ (([]:Pcs)++(pc5 6++[]))) ?_ (fun h_ H_=>H_.swap')
 rw [x6_]
 refine xcj (L':=([]:Pcs)++(X12++(X11++[]))) (by simp) ?_
 refine xgx (tm':=(zq1 (zq2 (zq8 (zq16 []))))) (by rw [e0_,e1_,e2_,e3_,e4_,e5_,e6_,e7_,e8_,e9_,e10_]) ?_
 refine ro (xax (v:=w10) rfl) <| ren ?_
 refine xfw 9 [[],[0],[],[0,1,2],[0,1,2,3],[],[],[5,6],[5,6,7],[],[]] xlq (by kernel_rfl) (Nat.le_of_ble_eq_true rfl) ?_
 refine wo (xaz xmz rfl (a':=⟨bT,0,none⟩) rfl) ?_
 refine xbz mn (fun h_ H_=>xbv H_ tA22 rfl (v:=.slice a1 t.nH c1) (xkx hT rfl)) (tm':=zq1 (zq2 (zq8 (zq16 [])))) rfl ?_
 refine wd (fun h_ H_=>xbv H_ tA3 rfl (v:=.int .i64 (z)) (xkx hZ rfl)) ?_
 refine wt (xlx Tryd.underlying22 tS3 (xkq a1 t.nH c1 (T.h.ne (by omega))) rfl (by omega) (by omega) (a':=(adr a1).add (((z).toNat)*1)) rfl) (tm':=zq1 (zq2 (zq8 (zq16 [])))) rfl ?_
 refine wd (fun h_ H_=>xbv H_ tA3 rfl (v:=.int .i64 (t.hv ((z).toNat))) (T.h.get (by omega))) ?_
 refine wt (xaq (v:=w9) rfl) (tm':=zq1 (zq2 (zq8 (zq16 [])))) rfl <| wd (fun h_ H_=>xbv H_ tA3 rfl (v:=.int .i64 (z)) (xkx hZ rfl)) ?_
 refine wt (xpz o13 Tryd.underlying22 tS3 rfl rfl (by omega) (by rw [((xck _).trans xyq)];omega)) (tm':=zq1 (zq2 (zq8 (zq16 [])))) rfl ?_
 refine wd (fun h_ H_=>xwq (i:=(z).toNat) (j:=0) (e:=[.int .i64 (lack t (fairP t (⟨z,(-1),s⟩:Wi)) ((z).toNat))]) o13 H_ (fun x_ h_=>by simp [h_]) tA3 rfl rfl (zyv (by omega)) (u:=.int .i64 (lack t (fairP t (⟨z,(-1),s⟩:Wi)) ((z).toNat))) rfl) ?_
 refine xiz rfl ?_
 refine ro (xkw rfl rfl (wr (by have z1_:=woz O (xjw O.toOk S).div hz.2;have z2_:=O.h _ hz.2;omega))) ?_
 refine rt (xax (v:=.int .i64 ((t.hv ((z).toNat))-(lack t (fairP t (⟨z,(-1),s⟩:Wi)) ((z).toNat)))) rfl) (tm':=zq1 (zq4 _)) rfl <| xak ?_
 refine xew Tryd.func66 rfl (vs:=[.int .i64 ((t.hv ((z).toNat))-(lack t (fairP t (⟨z,(-1),s⟩:Wi)) ((z).toNat)))]) (fun h_ H_=>⟨.int .i64 ((t.hv ((z).toNat))-(lack t (fairP t (⟨z,(-1),s⟩:Wi)) ((z).toNat))),_,rfl,rfl,rfl⟩) (v:=.int .i64 ((t.hv ((z).toNat))-(lack t (fairP t (⟨z,(-1),s⟩:Wi)) ((z).toNat)))) rfl ?_
 exact fun h_ H_=>K _ _ ⟨congrArg (Value.int .i64) (by unfold drawV lack;exact Int.sub_sub_self _ _),H_.kept⟩
theorem c18 (md:Md) (h:Heap) (p:PHeap) (hp:Per p h) (a1 a2 a3:Option Addr) (c1 c2 c3:Nat) (t:Tn) (T:TownP p a1 t.nH a2 t.nW a3 t.m t) (hn:t.nH≤40∧t.nW≤40∧t.m≤41) (z:Int) (_N:NoneP p):CallsX Tryd.prog md 18 #[.agg #[.slice a1 t.nH c1,.slice a2 t.nW c2,.slice a3 t.m c3],.int .i64 (z)] h fun v h'=>v= .tuple #[.agg #[.int .i64 (houseC t z (-1)),.int .i64 (houseC t z 1)],.int .i64 (askB t (decide (0≤z∧z≤(t.nH:Int)-1)))]∧Keep h h':=by
 refine xcw (Φ:=fun h_=>St h [] p h_ []) Tryd.func18 rfl (tm:=zq1 (zq2 (zq4 (zq16 [])))) rfl ?_ (St.start h _ hp)
 intro c₀ cs Stop K
 refine fsr ?_
 refine xiw mn (v:=.agg #[.slice a1 t.nH c1,.slice a2 t.nW c2,.slice a3 t.m c3]) rfl fun b1=>xcj (L':=[(b1,.cells #[.slice a1 t.nH c1,.slice a2 t.nW c2,.slice a3 t.m c3] 25 (0,0))]) rfl ?_
 refine xiw mn (v:=.int .i64 (z)) rfl fun b2=>xcj (L':=[(b2,.cells #[.int .i64 (z)] 3 (0,0)),(b1,.cells #[.slice a1 t.nH c1,.slice a2 t.nW c2,.slice a3 t.m c3] 25 (0,0))]) rfl ?_
 refine xkz mn tZ30 rfl fun b3=>xcj (L':=[(b3,.cells #[.int .i64 0,.int .i64 0] 30 (0,0)),(b2,.cells #[.int .i64 (z)] 3 (0,0)),(b1,.cells #[.slice a1 t.nH c1,.slice a2 t.nW c2,.slice a3 t.m c3] 25 (0,0))]) rfl ?_
 refine xgx (tm':=zq1 (zq4 _)) rfl ?_
 refine ro (xax (v:=.int .i64 0) rfl) <| ren <| xej ?_
 refine xfw 4 [[],[],[],[1,2],[],[]] xlq (by kernel_rfl) (Nat.le_of_ble_eq_true rfl) ?_
 refine xbz mn (fun h_ H_=>xav H_ tA25 tS25 rfl (i:=2) rfl (vs:=[.slice a1 t.nH c1,.slice a2 t.nW c2,.slice a3 t.m c3]) rfl rfl) (tm':=zq1 (zq8 _)) rfl ?_
 refine wd (fun h_ H_=>xav H_ tA25 tS25 rfl (i:=2) rfl (vs:=[.slice a1 t.nH c1,.slice a2 t.nW c2,.slice a3 t.m c3]) rfl rfl) ?_
 refine xbz mn (fun h_ H_=>xaj H_ tA3 rfl (i:=1) rfl (v:=.int .i64 (z)) rfl) (tm':=zq1 (zq2 (zq8 _))) rfl ?_
 refine xik mn (first:=[]) (cap:=[]) rfl rfl fC65 (fun h_ H_=>(c65 md _ _ H_.pe _ _ _ _ _ _ _ _ _ t (show TownP _ _ _ _ _ _ _ t from ⟨T.h,T.w,T.y⟩) (by omega) (z)).mono fun v_ h2_ ⟨e_,k_⟩=>⟨e_,H_.call k_⟩) rfl ?_
 refine xiz rfl ?_
 refine xcx mn (first:=[]) (cap:=[]) rfl rfl fC64 (fun h_ H_=>c64 md _ _ H_.pe _ _ _ _ _ _ _ _ _ t (show TownP _ _ _ _ _ _ _ t from ⟨T.h,T.w,T.y⟩) (by omega) (decide (0≤z∧z≤(t.nH:Int)-1))) (tm':=zq1 (zq4 (zq8 _))) rfl ?_
 refine ro (xax (v:=.int .i64 (askB t (decide (0≤z∧z≤(t.nH:Int)-1)))) rfl) <| ren <| xbq <| ro (xaq (v:=.int .i64 (askB t (decide (0≤z∧z≤(t.nH:Int)-1)))) rfl) <| rt (xhw rfl rfl) (tm':=zq1 (zq2 (zq4 (zq8 _)))) rfl <| xak ?_
 by_cases cc4:askB t (decide (0≤z∧z≤(t.nH:Int)-1))≠0
 ·
  refine xdk rfl (dtt cc4) <| fsr <| ro (xjv tZ30 tP30 (vs:=[]) rfl (cells:=#[.int .i64 0,.int .i64 0]) rfl) <| ro (xaq (v:=.int .i64 (askB t (decide (0≤z∧z≤(t.nH:Int)-1)))) rfl) ?_
  refine xjk mn tS30 rfl (v:=.agg #[.int .i64 0,.int .i64 0]) rfl (i:=0) rfl rfl rfl (Nat.le_of_ble_eq_true rfl) (cs2:=[.int .i64 0,.int .i64 0]) rfl (xcj (L':=[(b3,.cells #[.int .i64 0,.int .i64 0] 30 (0,0)),(b2,.cells #[.int .i64 (z)] 3 (0,0)),(b1,.cells #[.slice a1 t.nH c1,.slice a2 t.nW c2,.slice a3 t.m c3] 25 (0,0))]) rfl ?_)
  refine rt (xax (v:=.int .i64 (askB t (decide (0≤z∧z≤(t.nH:Int)-1)))) rfl) (tm':=zq2 (zq4 _)) rfl <| xak ?_
  refine xew Tryd.func18 rfl (vs:=[.agg #[.int .i64 0,.int .i64 0],.int .i64 (askB t (decide (0≤z∧z≤(t.nH:Int)-1)))]) (fun h_ H_=>⟨.agg #[.int .i64 0,.int .i64 0],_,rfl,(xbk (xbw (xox tA30 tS30 (vs:=[.int .i64 0,.int .i64 0]) rfl (fun j_ v_ e_=>by rw [xoq];exact H_.ocell (i:=0) rfl (by simpa using e_)) ⟨rfl,rfl⟩))),⟨.int .i64 (askB t (decide (0≤z∧z≤(t.nH:Int)-1))),_,rfl,rfl,rfl⟩⟩) (v:=.tuple #[.agg #[.int .i64 0,.int .i64 0],.int .i64 (askB t (decide (0≤z∧z≤(t.nH:Int)-1)))]) rfl ?_
  exact fun h_ H_=>K _ _ ⟨by rw [znq ‹_›,znq ‹_›],H_.kept⟩
 ·
  refine xcv rfl (dff cc4) <| xdq <| xej ?_
  have ha_:askB t (decide (0≤z∧z≤(t.nH:Int)-1))=0:=by omega
  obtain ⟨hc_,hd_⟩:=wsj ha_
  have hO:OkT t:=xtz hc_
  have hd2_:=of_decide_eq_true hd_
  have hz_:0≤z∧z.toNat<t.nH:=by omega
  refine ynv 1 rfl (L':=[(b3,.cells #[.int .i64 0,.int .i64 0] 30 (0,0)),(b1,.cells #[.slice a1 t.nH c1,.slice a2 t.nW c2,.slice a3 t.m c3] 25 (0,0))]) rfl fun p5 le6 hb7=>?_
  refine ynv 1 rfl (L':=[(b3,.cells #[.int .i64 0,.int .i64 0] 30 (0,0))]) rfl fun p8 le9 hb10=>?_
  refine xbq <| ro (xvw (a:=[]) (b:=[.pointer (some ⟨b1,0,none⟩),.pointer (some ⟨b2,0,none⟩)]) rfl rfl) <| ro (xax (v:=.func (.func 66) #[] #[.pointer (some ⟨b1,0,none⟩),.pointer (some ⟨b2,0,none⟩)]) rfl) <| ren <| xbq <| rt (xaq (v:=.func (.func 66) #[] #[.pointer (some ⟨b1,0,none⟩),.pointer (some ⟨b2,0,none⟩)]) rfl) (tm':=zq1 (zq2 (zq4 (zq16 [])))) rfl ?_
  refine xcx mn (first:=[]) (cap:=[.pointer (some ⟨b1,0,none⟩),.pointer (some ⟨b2,0,none⟩)]) rfl rfl fC66 (fun h_ H_=>c66 md _ _ H_.pe _ _ _ _ _ _ t (show TownP _ _ _ _ _ _ _ t from ⟨((T.h.mono le6).mono le9),((T.w.mono le6).mono le9),((T.y.mono le6).mono le9)⟩) hO _ ((-1)) (zkx (by decide) (by decide)) hz_ _ _ hb10 (le9 _ _ hb7)) rfl ?_
  refine ro (xaq (v:=.func (.func 66) #[] #[.pointer (some ⟨b1,0,none⟩),.pointer (some ⟨b2,0,none⟩)]) rfl) ?_
  refine xcx mn (first:=[]) (cap:=[.pointer (some ⟨b1,0,none⟩),.pointer (some ⟨b2,0,none⟩)]) rfl rfl fC66 (fun h_ H_=>c66 md _ _ H_.pe _ _ _ _ _ _ t (show TownP _ _ _ _ _ _ _ t from ⟨((T.h.mono le6).mono le9),((T.w.mono le6).mono le9),((T.y.mono le6).mono le9)⟩) hO _ (1) (zkx (by decide) (by decide)) hz_ _ _ hb10 (le9 _ _ hb7)) (tm':=zq1 (zq2 (zq4 (zq16 [])))) rfl ?_
  refine ro (xjv tZ30 tP30 (vs:=[(0,.int .i64 (drawV t z ((-1)))),(1,.int .i64 (drawV t z (1)))]) rfl (cells:=#[.int .i64 (drawV t z ((-1))),.int .i64 (drawV t z (1))]) rfl) ?_
  refine xjk mn tS30 rfl (v:=.agg #[.int .i64 (drawV t z ((-1))),.int .i64 (drawV t z (1))]) rfl (i:=0) rfl rfl rfl (Nat.le_of_ble_eq_true rfl) (cs2:=[.int .i64 (drawV t z ((-1))),.int .i64 (drawV t z (1))]) rfl (xcj (L':=[(b3,.cells #[.int .i64 (drawV t z ((-1))),.int .i64 (drawV t z (1))] 30 (0,0))]) rfl ?_)
  refine ro (xax (v:=.int .i64 0) rfl) <| xak ?_
  refine xew Tryd.func18 rfl (vs:=[.agg #[.int .i64 (drawV t z ((-1))),.int .i64 (drawV t z (1))],.int .i64 0]) (fun h_ H_=>⟨.agg #[.int .i64 (drawV t z ((-1))),.int .i64 (drawV t z (1))],_,rfl,(xbk (xbw (xox tA30 tS30 (vs:=[.int .i64 (drawV t z ((-1))),.int .i64 (drawV t z (1))]) rfl (fun j_ v_ e_=>by rw [xoq];exact H_.ocell (i:=0) rfl (by simpa using e_)) ⟨rfl,rfl⟩))),⟨.int .i64 0,_,rfl,rfl,rfl⟩⟩) (v:=.tuple #[.agg #[.int .i64 (drawV t z ((-1))),.int .i64 (drawV t z (1))],.int .i64 0]) rfl ?_
  exact fun h_ H_=>K _ _ ⟨by rw [ha_,yek ha_];first | rfl | (rw [yek ha_]),H_.kept⟩
theorem c71 (md:Md) (h:Heap) (p:PHeap) (hp:Per p h) (a1 a2 a3:Option Addr) (c1 c2 c3:Nat) (t:Tn) (T:TownP p a1 t.nH a2 t.nW a3 t.m t) (O:OkT t) (z s:Int) (S:Sg ⟨-1,z,s⟩) (hz:0≤z∧z.toNat<t.nW) (bT bZ:Nat) (hT:p bT=some (.cells #[.slice a1 t.nH c1,.slice a2 t.nW c2,.slice a3 t.m c3] 25 (0,0))) (hZ:p bZ=some (.cells #[.int .i64 z] 3 (0,0))):CallsX Tryd.prog md 71 #[.int .i64 (s),.pointer (some ⟨bT,0,none⟩),.pointer (some ⟨bZ,0,none⟩)] h fun v h'=>v= .int .i64 (restV t z s)∧Keep h h':=by
 refine xcw (Φ:=fun h_=>St h [] p h_ []) Tryd.func71 rfl (tm:=zq1 (zq4 (zq16 []))) rfl ?_ (St.start h _ hp)
 intro c₀ cs Stop K
 have oH:=O.nh
 have oW:=O.nw
 have oM:=O.nm
 refine fsr <| rt (xax (v:=.int .i64 0) rfl) (tm':=zq1 (zq4 _)) rfl <| ren ?_
 obtain ⟨Gw6,GX7,hG5_⟩:=sk2 (fun (v_:Value) (x_:Pcs) (w6:Value) (X7:Pcs)=>v_=w6∧(OwnS 3 1 w6 (ics (fairP t (⟨(-1),z,s⟩:Wi))) X7)∧x_=(X7++[]))
 obtain ⟨Gw9,Gw10,GX11,GX12,hG6_⟩:=sk4 (fun (v_:Value) (x_:Pcs) (w9:Value) (w10:Value) (X11:Pcs) (X12:Pcs)=>v_= .tuple #[w9,w10]∧(OwnS 3 1 w9 (ics (lackL t (fairP t (⟨(-1),z,s⟩:Wi)))) X11)∧(OwnS 3 1 w10 (ics (hasL t (fairP t (⟨(-1),z,s⟩:Wi)))) X12)∧x_=(X12++(X11++[])))
 refine ybx (xnq (C:=[]) (A:=([]:Pcs)) 11 [[],[],[],[],[],[],[],[6],[],[],[],[]] [] [6] [0,1,2,3,4,7,8,9,10] (fun _=>[]) (fun i_=>match i_ with | 6=>[5] | _=>[]) (fun i_=>match i_ with | 0=>[] | 1=>[] | 2=>[] | 3=>[] | 4=>[2,3] | 5=>[1,4] | 6=>[0,5] | 7=>[6] | 8=>[6,7] | 9=>[6,7] | 10=>[0,1,2,3,4,5,6,7,8] | _=>[]) (fun i_ val_ pc_ v_ x_=>match i_ with | 0=>v_= .agg #[.slice a1 t.nH c1,.slice a2 t.nW c2,.slice a3 t.m c3]∧x_=[] | 1=>v_= .agg #[.slice a1 t.nH c1,.slice a2 t.nW c2,.slice a3 t.m c3]∧x_=[] | 2=>v_= .int .i64 (z)∧x_=[] | 3=>v_= .int .i64 (s)∧x_=[] | 4=>v_= .agg #[.int .i64 (-1),.int .i64 (z),.int .i64 (s)]∧x_=[] | 5=>∃ w6:Value,∃ X7:Pcs,v_=w6∧(OwnS 3 1 w6 (ics (fairP t (⟨(-1),z,s⟩:Wi))) X7)∧x_=(X7++[]) | 6=>∃ w9:Value,∃ w10:Value,∃ X11:Pcs,∃ X12:Pcs,v_= .tuple #[w9,w10]∧(OwnS 3 1 w9 (ics (lackL t (fairP t (⟨(-1),z,s⟩:Wi)))) X11)∧(OwnS 3 1 w10 (ics (hasL t (fairP t (⟨(-1),z,s⟩:Wi)))) X12)∧x_=(X12++(X11++[])) | 7=>v_= .tuple #[(Gw9 (val_ 6) (pc_ 6)),(Gw10 (val_ 6) (pc_ 6))]∧x_=[] | 8=>v_=(Gw9 (val_ 6) (pc_ 6))∧x_=[] | 9=>v_=(Gw10 (val_ 6) (pc_ 6))∧x_=[] | 10=>v_=(Gw9 (val_ 6) (pc_ 6))∧x_=[] | _=>True) (fun val4=>[.int .i64 (s),.pointer (some ⟨bT,0,none⟩),.pointer (some ⟨bZ,0,none⟩),undef,.int .i64 0,(val4 10),undef,(val4 7),(val4 0),(val4 1),(val4 2),(val4 3),(val4 4),(val4 5),(val4 6),(val4 8),(val4 9),undef,undef,undef,undef]) xlq (by kernel_rfl) (Nat.le_of_ble_eq_true rfl) (by kernel_rfl) (by kernel_rfl) (by kernel_rfl) (fun _ _=>⟨fun _ _ h=>h.2,⟨fun _ _ h=>h.2,⟨fun _ _ h=>h.2,⟨fun _ _ h=>h.2,⟨fun _ _ h=>h.2,⟨fun _ _ h=>h.2,⟨fun _ _ h=>h.2,⟨fun _ _ h=>h.2,⟨fun _ _ h=>h.2,trivial⟩⟩⟩⟩⟩⟩⟩⟩⟩) (fun _=>by kernel_rfl) (by kernel_rfl) ?_ ?_) (fun h_ H_=>St.swap (A:=([]:Pcs)) (U:=[]) H_)
 ·
  refine xbx rfl (xez ?_) ?_
  ·
   intro val4 pc5 hQ_ hX_
   obtain ⟨q_,hq0_⟩: ∃ q_:Value→Pcs→Prop,q_=(fun v_ x_=>v_= .agg #[.slice a1 t.nH c1,.slice a2 t.nW c2,.slice a3 t.m c3]∧x_=[]):=⟨_,rfl⟩
   refine ⟨(zq1 (zq4 (zq16 []))),[],q_,rfl,rfl,(fun _ _ z_=>by subst hq0_;exact z_),?_⟩
   subst hq0_
   exact xdw mn (fun _ h_ H_=>xhx H_ tA25 tS25 rfl (vs:=[.slice a1 t.nH c1,.slice a2 t.nW c2,.slice a3 t.m c3]) rfl (xvk (n:=3) hT rfl)) ⟨rfl,rfl⟩
  refine xbx rfl (xez ?_) ?_
  ·
   intro val4 pc5 hQ_ hX_
   obtain ⟨q_,hq0_⟩: ∃ q_:Value→Pcs→Prop,q_=(fun v_ x_=>v_= .agg #[.slice a1 t.nH c1,.slice a2 t.nW c2,.slice a3 t.m c3]∧x_=[]):=⟨_,rfl⟩
   refine ⟨(zq1 (zq4 (zq16 []))),[],q_,rfl,rfl,(fun _ _ z_=>by subst hq0_;exact z_),?_⟩
   subst hq0_
   exact xdw mn (fun _ h_ H_=>xhx H_ tA25 tS25 rfl (vs:=[.slice a1 t.nH c1,.slice a2 t.nW c2,.slice a3 t.m c3]) rfl (xvk (n:=3) hT rfl)) ⟨rfl,rfl⟩
  refine xbx rfl (xez ?_) ?_
  ·
   intro val4 pc5 hQ_ hX_
   obtain ⟨q_,hq0_⟩: ∃ q_:Value→Pcs→Prop,q_=(fun v_ x_=>v_= .int .i64 (z)∧x_=[]):=⟨_,rfl⟩
   refine ⟨(zq1 (zq4 (zq16 []))),[],q_,rfl,rfl,(fun _ _ z_=>by subst hq0_;exact z_),?_⟩
   subst hq0_
   exact xdw mn (fun _ h_ H_=>xbv H_ tA3 rfl (v:=.int .i64 (z)) (xkx hZ rfl)) ⟨rfl,rfl⟩
  refine xbx rfl (xez ?_) ?_
  ·
   intro val4 pc5 hQ_ hX_
   obtain ⟨q_,hq0_⟩: ∃ q_:Value→Pcs→Prop,q_=(fun v_ x_=>v_= .int .i64 (s)∧x_=[]):=⟨_,rfl⟩
   refine ⟨(zq1 (zq4 (zq16 []))),[],q_,rfl,rfl,(fun _ _ z_=>by subst hq0_;exact z_),?_⟩
   subst hq0_
   exact xdw mn (fun _ h_ H_=>xaq (v:=.int .i64 (s)) rfl) ⟨rfl,rfl⟩
  refine xbx rfl (xez ?_) ?_
  ·
   intro val4 pc5 hQ_ hX_
   have e2_:val4 2= .int .i64 (z):=(hQ_ 2 rfl).1
   have e3_:val4 3= .int .i64 (s):=(hQ_ 3 rfl).1
   obtain ⟨q_,hq0_⟩: ∃ q_:Value→Pcs→Prop,q_=(fun v_ x_=>v_= .agg #[.int .i64 (-1),.int .i64 (z),.int .i64 (s)]∧x_=[]):=⟨_,rfl⟩
   refine ⟨(zq1 (zq4 (zq16 []))),[],q_,(by rw [e2_,e3_]),rfl,(fun _ _ z_=>by subst hq0_;exact z_),?_⟩
   subst hq0_
   exact xdw mn (fun _ h_ H_=>xjv tZ72 tP72 (vs:=[(0,.int .i64 (-1)),(1,.int .i64 (z)),(2,.int .i64 (s))]) rfl (cells:=#[.int .i64 (-1),.int .i64 (z),.int .i64 (s)]) rfl) ⟨rfl,rfl⟩
  refine xbx rfl (xez ?_) ?_
  ·
   intro val4 pc5 hQ_ hX_
   have e1_:val4 1= .agg #[.slice a1 t.nH c1,.slice a2 t.nW c2,.slice a3 t.m c3]:=(hQ_ 1 rfl).1
   have e4_:val4 4= .agg #[.int .i64 (-1),.int .i64 (z),.int .i64 (s)]:=(hQ_ 4 rfl).1
   obtain ⟨q_,hq0_⟩: ∃ q_:Value→Pcs→Prop,q_=(fun v_ x_=>∃ w6:Value,∃ X7:Pcs,v_=w6∧(OwnS 3 1 w6 (ics (fairP t (⟨(-1),z,s⟩:Wi))) X7)∧x_=(X7++[])):=⟨_,rfl⟩
   refine ⟨(zq1 (zq4 (zq16 []))),[],q_,(by rw [e1_,e4_]),rfl,(fun _ _ z_=>by subst hq0_;exact z_),?_⟩
   subst hq0_
   exact xww mn (first:=[]) (cap:=[]) rfl rfl fC68 (fun _ h_ H_=>(c68 md _ _ H_.pe _ _ _ _ _ _ t (show TownP _ _ _ _ _ _ _ t from ⟨T.h,T.w,T.y⟩) O (⟨(-1),z,s⟩:Wi) S).mono fun v_ h2_ ⟨w6,X7,e_,o8,N_⟩=>⟨_,⟨w6,X7,e_,o8,rfl⟩,H_.callN (show New _ _ (X7++[]) by rw [List.append_nil];exact N_)⟩)
  refine xbx rfl (xez ?_) ?_
  ·
   intro val4 pc5 hQ_ hX_
   have e0_:val4 0= .agg #[.slice a1 t.nH c1,.slice a2 t.nW c2,.slice a3 t.m c3]:=(hQ_ 0 rfl).1
   obtain ⟨e5_,o8,x5_⟩:=hG5_ _ _ (hQ_ 5 rfl)
   generalize hg_w6:Gw6 (val4 5) (pc5 5)=w6 at*
   generalize hg_X7:GX7 (val4 5) (pc5 5)=X7 at*
   obtain ⟨q_,hq0_⟩: ∃ q_:Value→Pcs→Prop,q_=(fun v_ x_=>∃ w9:Value,∃ w10:Value,∃ X11:Pcs,∃ X12:Pcs,v_= .tuple #[w9,w10]∧(OwnS 3 1 w9 (ics (lackL t (fairP t (⟨(-1),z,s⟩:Wi)))) X11)∧(OwnS 3 1 w10 (ics (hasL t (fairP t (⟨(-1),z,s⟩:Wi)))) X12)∧x_=(X12++(X11++[]))):=⟨_,rfl⟩
   refine ⟨(zq1 (zq4 (zq16 []))),((X7++[])++[]),q_,(by rw [e0_,e5_]),(by rw [← x5_];rfl),(fun _ _ z_=>by subst hq0_ hg_w6 hg_X7;exact z_),?_⟩
   subst hq0_
   exact xww mn (first:=[]) (cap:=[]) rfl rfl fC67 (fun _ h_ H_=>ywj md (show TownP _ _ _ _ _ _ _ t from ⟨T.h,T.w,T.y⟩) O (xjw O.toOk S).div o8 ((xck _).trans (yak t _)) (fun x_ h_=>by simp [h_]) H_)
  refine xbx rfl (xez ?_) ?_
  ·
   intro val4 pc5 hQ_ hX_
   obtain ⟨e6_,o13,o14,x6_⟩:=hG6_ _ _ (hQ_ 6 rfl)
   generalize hg_w9:Gw9 (val4 6) (pc5 6)=w9 at*
   generalize hg_w10:Gw10 (val4 6) (pc5 6)=w10 at*
   generalize hg_X11:GX11 (val4 6) (pc5 6)=X11 at*
   generalize hg_X12:GX12 (val4 6) (pc5 6)=X12 at*
   obtain ⟨q_,hq0_⟩: ∃ q_:Value→Pcs→Prop,q_=(fun v_ x_=>v_= .tuple #[w9,w10]∧x_=[]):=⟨_,rfl⟩
   refine ⟨(zq1 (zq4 (zq16 []))),[],q_,(by rw [e6_]),rfl,(fun _ _ z_=>by subst hq0_ hg_w9 hg_w10 hg_X11 hg_X12;exact z_),?_⟩
   subst hq0_
   exact xdw mn (fun _ h_ H_=>xaq (v:=.tuple #[w9,w10]) rfl) ⟨rfl,rfl⟩
  refine xbx rfl (xez ?_) ?_
  ·
   intro val4 pc5 hQ_ hX_
   obtain ⟨e6_,o13,o14,x6_⟩:=hG6_ _ _ (hQ_ 6 rfl)
   have e7_:val4 7= .tuple #[(Gw9 (val4 6) (pc5 6)),(Gw10 (val4 6) (pc5 6))]:=(hQ_ 7 rfl).1
   generalize hg_w9:Gw9 (val4 6) (pc5 6)=w9 at*
   generalize hg_w10:Gw10 (val4 6) (pc5 6)=w10 at*
   generalize hg_X11:GX11 (val4 6) (pc5 6)=X11 at*
   generalize hg_X12:GX12 (val4 6) (pc5 6)=X12 at*
   obtain ⟨q_,hq0_⟩: ∃ q_:Value→Pcs→Prop,q_=(fun v_ x_=>v_=w9∧x_=[]):=⟨_,rfl⟩
   refine ⟨(zq1 (zq4 (zq16 []))),[],q_,(by rw [e6_,e7_]),rfl,(fun _ _ z_=>by subst hq0_ hg_w9 hg_w10 hg_X11 hg_X12;exact z_),?_⟩
   subst hq0_
   exact xdw mn (fun _ h_ H_=>xdx rfl (v:=w9) rfl) ⟨rfl,rfl⟩
  refine xbx rfl (xez ?_) ?_
  ·
   intro val4 pc5 hQ_ hX_
   obtain ⟨e6_,o13,o14,x6_⟩:=hG6_ _ _ (hQ_ 6 rfl)
   have e7_:val4 7= .tuple #[(Gw9 (val4 6) (pc5 6)),(Gw10 (val4 6) (pc5 6))]:=(hQ_ 7 rfl).1
   generalize hg_w9:Gw9 (val4 6) (pc5 6)=w9 at*
   generalize hg_w10:Gw10 (val4 6) (pc5 6)=w10 at*
   generalize hg_X11:GX11 (val4 6) (pc5 6)=X11 at*
   generalize hg_X12:GX12 (val4 6) (pc5 6)=X12 at*
   obtain ⟨q_,hq0_⟩: ∃ q_:Value→Pcs→Prop,q_=(fun v_ x_=>v_=w10∧x_=[]):=⟨_,rfl⟩
   refine ⟨(zq1 (zq4 (zq16 []))),[],q_,(by rw [e6_,e7_]),rfl,(fun _ _ z_=>by subst hq0_ hg_w9 hg_w10 hg_X11 hg_X12;exact z_),?_⟩
   subst hq0_
   exact xdw mn (fun _ h_ H_=>xdx rfl (v:=w10) rfl) ⟨rfl,rfl⟩
  refine xbx rfl (xez ?_) ?_
  ·
   intro val4 pc5 hQ_ hX_
   have e0_:val4 0= .agg #[.slice a1 t.nH c1,.slice a2 t.nW c2,.slice a3 t.m c3]:=(hQ_ 0 rfl).1
   have e1_:val4 1= .agg #[.slice a1 t.nH c1,.slice a2 t.nW c2,.slice a3 t.m c3]:=(hQ_ 1 rfl).1
   have e2_:val4 2= .int .i64 (z):=(hQ_ 2 rfl).1
   have e3_:val4 3= .int .i64 (s):=(hQ_ 3 rfl).1
   have e4_:val4 4= .agg #[.int .i64 (-1),.int .i64 (z),.int .i64 (s)]:=(hQ_ 4 rfl).1
   obtain ⟨e5_,o8,x5_⟩:=hG5_ _ _ (hQ_ 5 rfl)
   obtain ⟨e6_,o13,o14,x6_⟩:=hG6_ _ _ (hQ_ 6 rfl)
   have e7_:val4 7= .tuple #[(Gw9 (val4 6) (pc5 6)),(Gw10 (val4 6) (pc5 6))]:=(hQ_ 7 rfl).1
   have e8_:val4 8=(Gw9 (val4 6) (pc5 6)):=(hQ_ 8 rfl).1
   generalize hg_w6:Gw6 (val4 5) (pc5 5)=w6 at*
   generalize hg_X7:GX7 (val4 5) (pc5 5)=X7 at*
   generalize hg_w9:Gw9 (val4 6) (pc5 6)=w9 at*
   generalize hg_w10:Gw10 (val4 6) (pc5 6)=w10 at*
   generalize hg_X11:GX11 (val4 6) (pc5 6)=X11 at*
   generalize hg_X12:GX12 (val4 6) (pc5 6)=X12 at*
   obtain ⟨q_,hq0_⟩: ∃ q_:Value→Pcs→Prop,q_=(fun v_ x_=>v_=w9∧x_=[]):=⟨_,rfl⟩
   refine ⟨(zq1 (zq4 (zq16 []))),[],q_,(by rw [e0_,e1_,e2_,e3_,e4_,e5_,e6_,e7_,e8_]),rfl,(fun _ _ z_=>by subst hq0_ hg_w6 hg_X7 hg_w9 hg_w10 hg_X11 hg_X12;exact z_),?_⟩
   subst hq0_
   exact xdw mn (fun _ h_ H_=>xax (v:=w9) rfl) ⟨rfl,rfl⟩
  exact xmw rfl
 intro val4 pc5 hQ_ hX_
 have e0_:val4 0= .agg #[.slice a1 t.nH c1,.slice a2 t.nW c2,.slice a3 t.m c3]:=(hQ_ 0 (by decide)).1
 have e1_:val4 1= .agg #[.slice a1 t.nH c1,.slice a2 t.nW c2,.slice a3 t.m c3]:=(hQ_ 1 (by decide)).1
 have e2_:val4 2= .int .i64 (z):=(hQ_ 2 (by decide)).1
 have e3_:val4 3= .int .i64 (s):=(hQ_ 3 (by decide)).1
 have e4_:val4 4= .agg #[.int .i64 (-1),.int .i64 (z),.int .i64 (s)]:=(hQ_ 4 (by decide)).1
 obtain ⟨e5_,o8,x5_⟩:=hG5_ _ _ (hQ_ 5 (by decide))
 obtain ⟨e6_,o13,o14,x6_⟩:=hG6_ _ _ (hQ_ 6 (by decide))
 have e7_:val4 7= .tuple #[(Gw9 (val4 6) (pc5 6)),(Gw10 (val4 6) (pc5 6))]:=(hQ_ 7 (by decide)).1
 have e8_:val4 8=(Gw9 (val4 6) (pc5 6)):=(hQ_ 8 (by decide)).1
 have e9_:val4 9=(Gw10 (val4 6) (pc5 6)):=(hQ_ 9 (by decide)).1
 have e10_:val4 10=(Gw9 (val4 6) (pc5 6)):=(hQ_ 10 (by decide)).1
 clear hQ_ hX_
 generalize Gw6 (val4 5) (pc5 5)=w6 at*
 generalize GX7 (val4 5) (pc5 5)=X7 at*
 generalize Gw9 (val4 6) (pc5 6)=w9 at*
 generalize Gw10 (val4 6) (pc5 6)=w10 at*
 generalize GX11 (val4 6) (pc5 6)=X11 at*
 generalize GX12 (val4 6) (pc5 6)=X12 at*
 refine yax (Φ:=fun h_=>St h [] p h_ (([]:Pcs)++(pc5 6++[]))) ?_ (fun h_ H_=>H_.swap')
 rw [x6_]
 refine xcj (L':=([]:Pcs)++(X12++(X11++[]))) (by simp) ?_
 refine xgx (tm':=(zq1 (zq4 (zq16 [])))) (by rw [e0_,e1_,e2_,e3_,e4_,e5_,e6_,e7_,e8_,e9_,e10_]) ?_
 refine rt (xax (v:=w10) rfl) (tm':=zq1 (zq2 (zq4 _))) rfl <| ren <| xbq <| ro (xaq (v:=w10) rfl) <| rd (fun h_ H_=>xbv H_ tA3 rfl (v:=.int .i64 (z)) (xkx hZ rfl)) ?_
 refine rt (xpz o14 Tryd.underlying22 tS3 rfl rfl (by omega) (by rw [((xck _).trans ykj)];omega)) (tm':=zq1 (zq4 (zq16 []))) rfl ?_
 refine rd (fun h_ H_=>xnx (A:=([]:Pcs)) (i:=(z).toNat) (j:=0) (e:=[.int .i64 (has t (fairP t (⟨(-1),z,s⟩:Wi)) ((z).toNat))]) o14 H_ tA3 rfl rfl (wpz (by omega)) (u:=.int .i64 (has t (fairP t (⟨(-1),z,s⟩:Wi)) ((z).toNat))) rfl) ?_
 refine ro (xax (v:=.int .i64 (has t (fairP t (⟨(-1),z,s⟩:Wi)) ((z).toNat))) rfl) <| xak ?_
 refine xew Tryd.func71 rfl (vs:=[.int .i64 (has t (fairP t (⟨(-1),z,s⟩:Wi)) ((z).toNat))]) (fun h_ H_=>⟨.int .i64 (has t (fairP t (⟨(-1),z,s⟩:Wi)) ((z).toNat)),_,rfl,rfl,rfl⟩) (v:=.int .i64 (has t (fairP t (⟨(-1),z,s⟩:Wi)) ((z).toNat))) rfl ?_
 exact fun h_ H_=>K _ _ ⟨congrArg (Value.int .i64) (by rfl),H_.kept⟩
theorem c20 (md:Md) (h:Heap) (p:PHeap) (hp:Per p h) (a1 a2 a3:Option Addr) (c1 c2 c3:Nat) (t:Tn) (T:TownP p a1 t.nH a2 t.nW a3 t.m t) (hn:t.nH≤40∧t.nW≤40∧t.m≤41) (z:Int) (_N:NoneP p):CallsX Tryd.prog md 20 #[.agg #[.slice a1 t.nH c1,.slice a2 t.nW c2,.slice a3 t.m c3],.int .i64 (z)] h fun v h'=>v= .tuple #[.int .i64 (dryC t z),.int .i64 (askB t (decide (0≤z∧z≤(t.nW:Int)-1)))]∧Keep h h':=by
 refine xcw (Φ:=fun h_=>St h [] p h_ []) Tryd.func20 rfl (tm:=zq1 (zq8 (zq16 []))) rfl ?_ (St.start h _ hp)
 intro c₀ cs Stop K
 refine fsr ?_
 refine xiw mn (v:=.agg #[.slice a1 t.nH c1,.slice a2 t.nW c2,.slice a3 t.m c3]) rfl fun b1=>xcj (L':=[(b1,.cells #[.slice a1 t.nH c1,.slice a2 t.nW c2,.slice a3 t.m c3] 25 (0,0))]) rfl ?_
 refine xgx (tm':=_::_::_::_) rfl ?_
 refine xiw mn (v:=.int .i64 (z)) rfl fun b2=>xcj (L':=[(b2,.cells #[.int .i64 (z)] 3 (0,0)),(b1,.cells #[.slice a1 t.nH c1,.slice a2 t.nW c2,.slice a3 t.m c3] 25 (0,0))]) rfl ?_
 refine ro (xax (v:=.int .i64 0) rfl) <| rt (xax (v:=.int .i64 0) rfl) (tm':=zq2 (zq4 _)) rfl <| ren <| xej ?_
 refine xfw 4 [[],[],[],[1,2],[],[]] xlq (by kernel_rfl) (Nat.le_of_ble_eq_true rfl) ?_
 refine wd (fun h_ H_=>xav H_ tA25 tS25 rfl (i:=1) rfl (vs:=[.slice a1 t.nH c1,.slice a2 t.nW c2,.slice a3 t.m c3]) rfl rfl) ?_
 refine xbz mn (fun h_ H_=>xav H_ tA25 tS25 rfl (i:=1) rfl (vs:=[.slice a1 t.nH c1,.slice a2 t.nW c2,.slice a3 t.m c3]) rfl rfl) (tm':=zq2 (zq8 _)) rfl ?_
 refine wd (fun h_ H_=>xaj H_ tA3 rfl (i:=0) rfl (v:=.int .i64 (z)) rfl) ?_
 refine xik mn (first:=[]) (cap:=[]) rfl rfl fC70 (fun h_ H_=>(c70 md _ _ H_.pe _ _ _ _ _ _ _ _ _ t (show TownP _ _ _ _ _ _ _ t from ⟨T.h,T.w,T.y⟩) (by omega) (z)).mono fun v_ h2_ ⟨e_,k_⟩=>⟨e_,H_.call k_⟩) (tm':=zq4 (zq8 _)) rfl ?_
 refine xiz rfl ?_
 refine xcx mn (first:=[]) (cap:=[]) rfl rfl fC64 (fun h_ H_=>c64 md _ _ H_.pe _ _ _ _ _ _ _ _ _ t (show TownP _ _ _ _ _ _ _ t from ⟨T.h,T.w,T.y⟩) (by omega) (decide (0≤z∧z≤(t.nW:Int)-1))) rfl ?_
 refine rt (xax (v:=.int .i64 (askB t (decide (0≤z∧z≤(t.nW:Int)-1)))) rfl) (tm':=zq1 (zq2 (zq4 _))) rfl <| ren <| xbq <| ro (xaq (v:=.int .i64 (askB t (decide (0≤z∧z≤(t.nW:Int)-1)))) rfl) <| ro (xhw rfl rfl) <| xak ?_
 by_cases cc3:askB t (decide (0≤z∧z≤(t.nW:Int)-1))≠0
 ·
  refine xdk rfl (dtt cc3) <| fsr <| rt (xaq (v:=.int .i64 (askB t (decide (0≤z∧z≤(t.nW:Int)-1)))) rfl) (tm':=zq16 _) rfl <| ro (xax (v:=.int .i64 0) rfl) <| ro (xax (v:=.int .i64 (askB t (decide (0≤z∧z≤(t.nW:Int)-1)))) rfl) <| xak ?_
  refine xew Tryd.func20 rfl (vs:=[.int .i64 0,.int .i64 (askB t (decide (0≤z∧z≤(t.nW:Int)-1)))]) (fun h_ H_=>⟨.int .i64 0,_,rfl,rfl,⟨.int .i64 (askB t (decide (0≤z∧z≤(t.nW:Int)-1))),_,rfl,rfl,rfl⟩⟩) (v:=.tuple #[.int .i64 0,.int .i64 (askB t (decide (0≤z∧z≤(t.nW:Int)-1)))]) rfl ?_
  exact fun h_ H_=>K _ _ ⟨by rw [vjj ‹_›],H_.kept⟩
 ·
  refine xcv rfl (dff cc3) <| xdq <| xej ?_
  have ha_:askB t (decide (0≤z∧z≤(t.nW:Int)-1))=0:=by omega
  obtain ⟨hc_,hd_⟩:=wsj ha_
  have hO:OkT t:=xtz hc_
  have hd2_:=of_decide_eq_true hd_
  have hz_:0≤z∧z.toNat<t.nW:=by omega
  refine ynv 0 rfl (L':=[(b1,.cells #[.slice a1 t.nH c1,.slice a2 t.nW c2,.slice a3 t.m c3] 25 (0,0))]) rfl fun p4 le5 hb6=>?_
  refine ynv 0 rfl (L':=[]) rfl fun p7 le8 hb9=>?_
  refine xbq <| rt (xvw (a:=[]) (b:=[.pointer (some ⟨b1,0,none⟩),.pointer (some ⟨b2,0,none⟩)]) rfl rfl) (tm':=zq1 (zq8 (zq16 []))) rfl <| ro (xax (v:=.func (.func 71) #[] #[.pointer (some ⟨b1,0,none⟩),.pointer (some ⟨b2,0,none⟩)]) rfl) <| ren <| xek <| fsr ?_
  refine ro (xaq (v:=.func (.func 71) #[] #[.pointer (some ⟨b1,0,none⟩),.pointer (some ⟨b2,0,none⟩)]) rfl) ?_
  refine xcx mn (first:=[]) (cap:=[.pointer (some ⟨b1,0,none⟩),.pointer (some ⟨b2,0,none⟩)]) rfl rfl fC71 (fun h_ H_=>c71 md _ _ H_.pe _ _ _ _ _ _ t (show TownP _ _ _ _ _ _ _ t from ⟨((T.h.mono le5).mono le8),((T.w.mono le5).mono le8),((T.y.mono le5).mono le8)⟩) hO _ ((-1)) (zkx (by decide) (by decide)) hz_ _ _ hb9 (le8 _ _ hb6)) (tm':=zq1 (zq8 (zq16 []))) rfl ?_
  refine ro (xjx rfl rfl) <| ro (xax (v:=.bool (decide (restV t z ((-1))=0))) rfl) <| xak ?_
  by_cases cc10:restV t z ((-1))=0
  ·
   refine xdk rfl (dtt cc10) <| fsr <| rt (xax (v:=.int .i64 1) rfl) (tm':=zq1 (zq4 _)) rfl <| ro (xax (v:=.int .i64 0) rfl) <| xak ?_
   refine xew Tryd.func20 rfl (vs:=[.int .i64 1,.int .i64 0]) (fun h_ H_=>⟨.int .i64 1,_,rfl,rfl,⟨.int .i64 0,_,rfl,rfl,rfl⟩⟩) (v:=.tuple #[.int .i64 1,.int .i64 0]) rfl ?_
   exact fun h_ H_=>K _ _ ⟨by rw [ha_,ylk ha_];(unfold dryV;first | rw [if_pos ‹_›] | (rw [if_neg ‹_›,if_pos ‹_›]) | (rw [if_neg ‹_›,if_neg ‹_›])),H_.kept⟩
  ·
   refine xcv rfl (dff cc10) <| fsr <| ro (xaq (v:=.func (.func 71) #[] #[.pointer (some ⟨b1,0,none⟩),.pointer (some ⟨b2,0,none⟩)]) rfl) ?_
   refine xcx mn (first:=[]) (cap:=[.pointer (some ⟨b1,0,none⟩),.pointer (some ⟨b2,0,none⟩)]) rfl rfl fC71 (fun h_ H_=>c71 md _ _ H_.pe _ _ _ _ _ _ t (show TownP _ _ _ _ _ _ _ t from ⟨((T.h.mono le5).mono le8),((T.w.mono le5).mono le8),((T.y.mono le5).mono le8)⟩) hO _ (1) (zkx (by decide) (by decide)) hz_ _ _ hb9 (le8 _ _ hb6)) (tm':=zq1 (zq8 (zq16 []))) rfl ?_
   refine ro (xix rfl rfl) <| ro (xax (v:=.bool (decide (0<restV t z (1)))) rfl) <| xak ?_
   by_cases cc11:0<restV t z (1)
   ·
    refine xdk rfl (dtt cc11) <| fsr <| rt (xax (v:=.int .i64 2) rfl) (tm':=zq1 (zq4 _)) rfl <| ro (xax (v:=.int .i64 0) rfl) <| xak ?_
    refine xew Tryd.func20 rfl (vs:=[.int .i64 2,.int .i64 0]) (fun h_ H_=>⟨.int .i64 2,_,rfl,rfl,⟨.int .i64 0,_,rfl,rfl,rfl⟩⟩) (v:=.tuple #[.int .i64 2,.int .i64 0]) rfl ?_
    exact fun h_ H_=>K _ _ ⟨by rw [ha_,ylk ha_];(unfold dryV;first | rw [if_pos ‹_›] | (rw [if_neg ‹_›,if_pos ‹_›]) | (rw [if_neg ‹_›,if_neg ‹_›])),H_.kept⟩
   ·
    refine xcv rfl (dff cc11) <| xdq <| xeq <| fsr <| ro (xax (v:=.int .i64 3) rfl) <| rt (xax (v:=.int .i64 0) rfl) (tm':=zq2 (zq4 _)) rfl ?_
    refine xak ?_
    refine xew Tryd.func20 rfl (vs:=[.int .i64 3,.int .i64 0]) (fun h_ H_=>⟨.int .i64 3,_,rfl,rfl,⟨.int .i64 0,_,rfl,rfl,rfl⟩⟩) (v:=.tuple #[.int .i64 3,.int .i64 0]) rfl ?_
    exact fun h_ H_=>K _ _ ⟨by rw [ha_,ylk ha_];(unfold dryV;first | rw [if_pos ‹_›] | (rw [if_neg ‹_›,if_pos ‹_›]) | (rw [if_neg ‹_›,if_neg ‹_›])),H_.kept⟩
theorem wxj (md:Md) {h:Heap} {p:PHeap} (hp:Per p h) {a1 a2 a3:Option Addr} {c1 c2 c3:Nat} {t:Tn} (T:TownP p a1 t.nH a2 t.nW a3 t.m t) (V:Vd t) (h12:t.m≤12) {b:Option Addr} {m cb:Nat} {d:List Int} (D:Ints p b m d) (hm:m=t.m) (hd: ∀ i,i<d.length→0≤d.getD i 0∧d.getD i 0≤9):
  CallsX Tryd.prog md 67 #[.agg #[.slice a1 t.nH c1,.slice a2 t.nW c2,.slice a3 t.m c3],.slice b m cb] h fun v h'=>∃ w1 w2 X1 X2,v= .tuple #[w1,w2]∧OwnS 3 1 w1 (ics (lackL t d)) X1∧OwnS 3 1 w2 (ics (hasL t d)) X2∧New h h' (X2++(X1++[])):=by
 subst hm
 have o1:=V.nh;have o2:=V.nw;have hl:=D.len
 refine c67 md h p hp a1 _ c1 a2 _ c2 a3 _ c3 t T ⟨by omega,by omega,by omega⟩ b t.m cb d D ⟨Nat.le_refl _,by omega⟩ (fun i hi=>by have:=hd i (by omega);unfold dv;omega) (fun i hi=>?_) (fun i hi=>?_) (fun i hi=>?_)
 ·
  have:=V.h i hi;omega
 ·
  have:=V.w i hi;omega
 ·
  have h1:=V.y i hi;exact ⟨⟨h1.1.1,by have:=h1.1;omega⟩,h1.2.1.1,by have:=h1.2.1;omega⟩
theorem c49 (md:Md) (h:Heap) (p:PHeap) (hp:Per p h) (a1 a2 a3:Option Addr) (c1 c2 c3:Nat) (t:Tn) (T:TownP p a1 t.nH a2 t.nW a3 t.m t) (hn:t.nH≤40∧t.nW≤40∧t.m≤41) (b:Option Addr) (m cb:Nat) (d:List Int) (D:Ints p b m d) (hm:m≤40):CallsX Tryd.prog md 49 #[.agg #[.slice a1 t.nH c1,.slice a2 t.nW c2,.slice a3 t.m c3],.slice b m cb] h fun v h'=>∃ w X,v= .tuple #[w,.bool (decide (chkB t=0∧DivI t d)),.int .i64 (chkB t)]∧OwnS 3 1 w (ics (goodL t d)) X∧New h h' X:=by
 refine xcw (Φ:=fun h_=>St h [] p h_ []) Tryd.func49 rfl (tm:=zq1 (zq8 (zq32 []))) rfl ?_ (St.start h _ hp)
 intro c₀ cs Stop K
 refine fsr ?_
 refine xiw mn (v:=.agg #[.slice a1 t.nH c1,.slice a2 t.nW c2,.slice a3 t.m c3]) rfl fun b1=>xcj (L':=[(b1,.cells #[.slice a1 t.nH c1,.slice a2 t.nW c2,.slice a3 t.m c3] 25 (0,0))]) rfl ?_
 refine ro (xax (v:=.slice none 0 0) rfl) <| rt (xax (v:=.bool (false)) rfl) (tm':=zq2 (zq4 _)) rfl <| ro (xax (v:=.int .i64 0) rfl) <| ren <| fsr <| rd (fun h_ H_=>xav H_ tA25 tS25 rfl (i:=0) rfl (vs:=[.slice a1 t.nH c1,.slice a2 t.nW c2,.slice a3 t.m c3]) rfl rfl) ?_
 refine xcx mn (first:=[]) (cap:=[]) rfl rfl fC47 (fun h_ H_=>c47 md _ _ H_.pe _ _ _ _ _ _ _ _ _ t (show TownP _ _ _ _ _ _ _ t from ⟨T.h,T.w,T.y⟩) (by omega)) (tm':=zq4 (zq8 _)) rfl ?_
 refine ro (xax (v:=.int .i64 (chkB t)) rfl) <| ren <| xbq <| ro (xaq (v:=.int .i64 (chkB t)) rfl) <| rt (xhw rfl rfl) (tm':=zq2 (zq4 (zq8 _))) rfl <| xak ?_
 by_cases cc2:chkB t≠0
 ·
  refine xdk rfl (dtt cc2) <| fsr <| ro (xaq (v:=.int .i64 (chkB t)) rfl) <| ro (xax (v:=.slice none 0 0) rfl) <| rt (xax (v:=.bool (false)) rfl) (tm':=zq2 (zq4 _)) rfl <| ro (xax (v:=.int .i64 (chkB t)) rfl) ?_
  refine xak ?_
  refine xew Tryd.func49 rfl (vs:=[.slice none 0 0,.bool (false),.int .i64 (chkB t)]) (fun h_ H_=>⟨.slice none 0 0,_,rfl,rfl,⟨.bool (false),_,rfl,rfl,⟨.int .i64 (chkB t),_,rfl,rfl,rfl⟩⟩⟩) (v:=.tuple #[.slice none 0 0,.bool (false),.int .i64 (chkB t)]) rfl ?_
  exact fun h_ H_=>K _ _ ⟨_,[],by rw [decide_eq_false (fun z_=>absurd z_.1 ‹_›)],(OwnS.empty _ _).as (by rw [goodL,if_neg (fun z_=>absurd z_.1 ‹_›)];rfl),(H_.sub (List.nil_sublist _)).new⟩
 ·
  refine xcv rfl (dff cc2) <| xdq <| xej <| fsr <| ro (xaq (v:=.slice b m cb) rfl) <| rt (xfk Tryd.underlying22 rfl) (tm':=zq1 (zq16 _)) rfl ?_
  refine ro (xaz xhv rfl (a':=⟨b1,2,none⟩) rfl) <| rd (fun h_ H_=>xaj H_ tA23 rfl (i:=0) rfl (v:=.slice a3 t.m c3) rfl) <| rt (xfk Tryd.underlying23 rfl) (tm':=zq4 (zq16 _)) rfl <| ro (xhw rfl rfl) <| ro (xaq (v:=.bool (decide (((m:Nat):Int)≠((t.m:Nat):Int)))) rfl) ?_
  by_cases cc3:((m:Nat):Int)≠((t.m:Nat):Int)
  ·
   refine xfq (mo rfl rfl (dtt cc3)) (tm':=zq1 (zq2 (zq4 (zq16 _)))) rfl <| rp (mo rfl rfl (dtt cc3)) <| ro (xbj rfl (dtt cc3) (v:=.bool (true)) rfl) <| xak <| xdk rfl rfl <| fsr ?_
   refine rt (xax (v:=.slice none 0 0) rfl) (tm':=zq1 (zq4 _)) rfl <| ro (xax (v:=.bool (false)) rfl) <| ro (xax (v:=.int .i64 0) rfl) <| xak ?_
   refine xew Tryd.func49 rfl (vs:=[.slice none 0 0,.bool (false),.int .i64 0]) (fun h_ H_=>⟨.slice none 0 0,_,rfl,rfl,⟨.bool (false),_,rfl,rfl,⟨.int .i64 0,_,rfl,rfl,rfl⟩⟩⟩) (v:=.tuple #[.slice none 0 0,.bool (false),.int .i64 0]) rfl ?_
   have hc2_:chkB t=0:=by omega
   have hn_: ¬ (chkB t=0∧DivI t d):=fun z_=>absurd z_.2 (by first | exact ydx hV (.inl ‹0≤idxA (fun n=>decide (n<0)) (lackL t d)›) | exact ydx hV (.inr ‹0≤idxA (fun n=>decide (n<0)) (hasL t d)›) | exact yrk ‹0≤idxA (badN 9) d› | exact fun z_=>by have z2_:=z_.len;have z3_:=D.len;omega)
   exact fun h_ H_=>K _ _ ⟨_,[],by rw [decide_eq_false hn_,hc2_],(OwnS.empty _ _).as (by rw [goodL,if_neg hn_];rfl),(H_.sub (List.nil_sublist _)).new⟩
  ·
   refine xaw (ms rfl rfl (dff cc3)) (fun h_ H_=>xaq (v:=.slice b m cb) rfl) (tm':=zq1 (zq2 (zq4 (zq16 _)))) rfl ?_
   refine xcx (ms rfl rfl (dff cc3)) (first:=[]) (cap:=[]) rfl rfl fC83 (fun h_ H_=>c83 md _ _ H_.pe (.func (.func 89) #[] #[]) _ _ _ _ D (by omega) (badN 9) (fun h_ hp_ i_ hi_=>xzv fC89 (c89 md _ _))) rfl ?_
   refine ro (xcq rfl (dff cc3) (v:=.bool (decide (0≤idxA (badN 9) d))) rfl) <| xak ?_
   by_cases cc4:0≤idxA (badN 9) d
   ·
    refine xdk rfl (dtt cc4) <| fsr <| rt (xax (v:=.slice none 0 0) rfl) (tm':=zq1 (zq4 _)) rfl <| ro (xax (v:=.bool (false)) rfl) <| ro (xax (v:=.int .i64 0) rfl) <| xak ?_
    refine xew Tryd.func49 rfl (vs:=[.slice none 0 0,.bool (false),.int .i64 0]) (fun h_ H_=>⟨.slice none 0 0,_,rfl,rfl,⟨.bool (false),_,rfl,rfl,⟨.int .i64 0,_,rfl,rfl,rfl⟩⟩⟩) (v:=.tuple #[.slice none 0 0,.bool (false),.int .i64 0]) rfl ?_
    have hc2_:chkB t=0:=by omega
    have hn_: ¬ (chkB t=0∧DivI t d):=fun z_=>absurd z_.2 (by first | exact ydx hV (.inl ‹0≤idxA (fun n=>decide (n<0)) (lackL t d)›) | exact ydx hV (.inr ‹0≤idxA (fun n=>decide (n<0)) (hasL t d)›) | exact yrk ‹0≤idxA (badN 9) d› | exact fun z_=>by have z2_:=z_.len;have z3_:=D.len;omega)
    exact fun h_ H_=>K _ _ ⟨_,[],by rw [decide_eq_false hn_,hc2_],(OwnS.empty _ _).as (by rw [goodL,if_neg hn_];rfl),(H_.sub (List.nil_sublist _)).new⟩
   ·
    refine xcv rfl (dff cc4) <| xdq <| xej ?_
    have hc_:chkB t=0:=by omega
    obtain ⟨h12,hV⟩:=ytj hc_
    have h9_: ¬ 0≤idxA (badN 9) d:=‹_›
    have hl_:d.length=t.m:=by have z_:=D.len;omega
    refine xbq ?_
    refine xaw mn (fun h_ H_=>xav H_ tA25 tS25 rfl (i:=0) rfl (vs:=[.slice a1 t.nH c1,.slice a2 t.nW c2,.slice a3 t.m c3]) rfl rfl) (tm':=zq1 (zq2 (zq8 (zq16 _)))) rfl ?_
    refine ro (xaq (v:=.slice b m cb) rfl) ?_
    refine xcj (L':=([(b1,.cells #[.slice a1 t.nH c1,.slice a2 t.nW c2,.slice a3 t.m c3] 25 (0,0))]:Pcs)++[]) rfl ?_
    refine xjq mn (first:=[]) (cap:=[]) rfl rfl fC67 (R:=fun v_ h_=>∃ w5:Value,∃ w6:Value,∃ X7:Pcs,∃ X8:Pcs,v_= .tuple #[w5,w6]∧(OwnS 3 1 w5 (ics (lackL t d)) X7)∧(OwnS 3 1 w6 (ics (hasL t d)) X8)∧St h [] p h_ (([(b1,.cells #[.slice a1 t.nH c1,.slice a2 t.nW c2,.slice a3 t.m c3] 25 (0,0))]:Pcs)++((X8++(X7++[]))++[]))) (fun h_ H_=>(wxj md H_.pe (show TownP _ _ _ _ _ _ _ t from ⟨T.h,T.w,T.y⟩) hV h12 D (by omega) (xnw h9_)).mono fun v_ h2_ ⟨w5,w6,X7,X8,e_,o9,o10,N_⟩=>⟨w5,w6,X7,X8,e_,o9,o10,H_.callNA N_⟩) fun v_=>?_
    refine xfv fun w5=>xfv fun w6=>xfv fun X7=>xfv fun X8=>xfz fun ev_=>xfz fun o9=>xfz fun o10=>?_
    have ev_:=ev_.symm;subst ev_
    refine xcj (L':=([(b1,.cells #[.slice a1 t.nH c1,.slice a2 t.nW c2,.slice a3 t.m c3] 25 (0,0))]:Pcs)++(X8++(X7++[]))) (by simp) ?_
    refine rt (xaq (v:=.tuple #[w5,w6]) rfl) (tm':=zq2 (zq8 (zq16 _))) rfl <| ro (xdx rfl (v:=w5) rfl) <| ro (xdx rfl (v:=w6) rfl) <| rt (xax (v:=w5) rfl) (tm':=zq1 (zq4 _)) rfl <| ro (xax (v:=w6) rfl) <| ren ?_
    refine xbq <| ro (xax (v:=.func (.func 90) #[] #[]) rfl) <| ren <| fsr <| rt (xaq (v:=w5) rfl) (tm':=zq1 (zq8 (zq32 []))) rfl <| ro (xaq (v:=.func (.func 90) #[] #[]) rfl) ?_
    refine xcx mn (first:=[]) (cap:=[]) rfl rfl fC83 (fun h_ H_=>show CallsX Tryd.prog md 83 #[w5,.func (.func 90) #[] #[]] h_ (fun v_ h2_=>v_= .bool (decide (0≤idxA ((fun n=>decide (n<0))) (lackL t d)))∧Keep h_ h2_) from ygw (n:=t.nH) o9 ((xck _).trans xyq) H_ (fun x_ h_=>by simp [h_]) fun p_ a_ c_ hp_ _ hv_ D_=>by rw [hv_];exact c83 md _ _ hp_ (.func (.func 90) #[] #[]) _ _ _ _ (show Ints _ _ _ (lackL t d) from D_) (by omega) ((fun n=>decide (n<0))) (fun h_ hp_ i_ hi_=>xzv fC90 (c90 md _ _))) rfl ?_
    refine rt (xaq (v:=.bool (decide (0≤idxA ((fun n=>decide (n<0))) (lackL t d)))) rfl) (tm':=zq1 (zq8 (zq32 []))) rfl ?_
    by_cases cc11:0≤idxA ((fun n=>decide (n<0))) (lackL t d)
    ·
     refine rp (mo rfl rfl (dtt cc11)) <| rp (mo rfl rfl (dtt cc11)) <| xfq (mo rfl rfl (dtt cc11)) (tm':=zq1 (zq8 (zq32 []))) rfl <| ro (xbj rfl (dtt cc11) (v:=.bool (true)) rfl) <| xak <| xdk rfl rfl ?_
     refine fsr <| ro (xax (v:=.slice none 0 0) rfl) <| rt (xax (v:=.bool (false)) rfl) (tm':=zq2 (zq4 _)) rfl <| ro (xax (v:=.int .i64 0) rfl) <| xak ?_
     refine xew Tryd.func49 rfl (vs:=[.slice none 0 0,.bool (false),.int .i64 0]) (fun h_ H_=>⟨.slice none 0 0,_,rfl,rfl,⟨.bool (false),_,rfl,rfl,⟨.int .i64 0,_,rfl,rfl,rfl⟩⟩⟩) (v:=.tuple #[.slice none 0 0,.bool (false),.int .i64 0]) rfl ?_
     have hc2_:chkB t=0:=by omega
     have hn_: ¬ (chkB t=0∧DivI t d):=fun z_=>absurd z_.2 (by first | exact ydx hV (.inl ‹0≤idxA (fun n=>decide (n<0)) (lackL t d)›) | exact ydx hV (.inr ‹0≤idxA (fun n=>decide (n<0)) (hasL t d)›) | exact yrk ‹0≤idxA (badN 9) d› | exact fun z_=>by have z2_:=z_.len;have z3_:=D.len;omega)
     exact fun h_ H_=>K _ _ ⟨_,[],by rw [decide_eq_false hn_,hc2_],(OwnS.empty _ _).as (by rw [goodL,if_neg hn_];rfl),(H_.sub (List.nil_sublist _)).new⟩
    ·
     refine xaw (ms rfl rfl (dff cc11)) (fun h_ H_=>xaq (v:=w6) rfl) rfl ?_
     refine xaw (ms rfl rfl (dff cc11)) (fun h_ H_=>xaq (v:=.func (.func 90) #[] #[]) rfl) (tm':=zq1 (zq8 (zq32 []))) rfl ?_
     refine xcx (ms rfl rfl (dff cc11)) (first:=[]) (cap:=[]) rfl rfl fC83 (fun h_ H_=>show CallsX Tryd.prog md 83 #[w6,.func (.func 90) #[] #[]] h_ (fun v_ h2_=>v_= .bool (decide (0≤idxA ((fun n=>decide (n<0))) (hasL t d)))∧Keep h_ h2_) from ygw (n:=t.nW) o10 ((xck _).trans ykj) H_ (fun x_ h_=>by simp [h_]) fun p_ a_ c_ hp_ _ hv_ D_=>by rw [hv_];exact c83 md _ _ hp_ (.func (.func 90) #[] #[]) _ _ _ _ (show Ints _ _ _ (hasL t d) from D_) (by omega) ((fun n=>decide (n<0))) (fun h_ hp_ i_ hi_=>xzv fC90 (c90 md _ _))) rfl ?_
     refine ro (xcq rfl (dff cc11) (v:=.bool (decide (0≤idxA ((fun n=>decide (n<0))) (hasL t d)))) rfl) <| xak ?_
     by_cases cc12:0≤idxA ((fun n=>decide (n<0))) (hasL t d)
     ·
      refine xdk rfl (dtt cc12) <| fsr <| rt (xax (v:=.slice none 0 0) rfl) (tm':=zq1 (zq4 _)) rfl <| ro (xax (v:=.bool (false)) rfl) <| ro (xax (v:=.int .i64 0) rfl) <| xak ?_
      refine xew Tryd.func49 rfl (vs:=[.slice none 0 0,.bool (false),.int .i64 0]) (fun h_ H_=>⟨.slice none 0 0,_,rfl,rfl,⟨.bool (false),_,rfl,rfl,⟨.int .i64 0,_,rfl,rfl,rfl⟩⟩⟩) (v:=.tuple #[.slice none 0 0,.bool (false),.int .i64 0]) rfl ?_
      have hc2_:chkB t=0:=by omega
      have hn_: ¬ (chkB t=0∧DivI t d):=fun z_=>absurd z_.2 (by first | exact ydx hV (.inl ‹0≤idxA (fun n=>decide (n<0)) (lackL t d)›) | exact ydx hV (.inr ‹0≤idxA (fun n=>decide (n<0)) (hasL t d)›) | exact yrk ‹0≤idxA (badN 9) d› | exact fun z_=>by have z2_:=z_.len;have z3_:=D.len;omega)
      exact fun h_ H_=>K _ _ ⟨_,[],by rw [decide_eq_false hn_,hc2_],(OwnS.empty _ _).as (by rw [goodL,if_neg hn_];rfl),(H_.sub (List.nil_sublist _)).new⟩
     ·
      refine xcv rfl (dff cc12) <| xdq <| xej ?_
      refine xgj (List.Perm.append_left _ (List.perm_append_comm_assoc _ _ _)) ?_
      refine xkv (L':=([(b1,.cells #[.slice a1 t.nH c1,.slice a2 t.nW c2,.slice a3 t.m c3] 25 (0,0))]:Pcs)++(X7++(X8++[]))) rfl ?_
      refine xbq <| rt (xaq (v:=w5) rfl) (tm':=zq1 (zq8 (zq32 []))) rfl ?_
      refine xjq mn (first:=[]) (cap:=[]) rfl rfl fC91 (R:=fun v_ h_=>∃ X13:Pcs,v_=w5∧OwnS 3 1 w5 (ics (srt (lackL t d))) X13∧St h [] p h_ (([(b1,.cells #[.slice a1 t.nH c1,.slice a2 t.nW c2,.slice a3 t.m c3] 25 (0,0))]:Pcs)++(X13++(X8++[])))) (fun h_ H_=>(c91 md _ _ _ _ w5 (lackL t d) _ _ o9 ((lackL t d).length) (⟨rfl,by rw [xyq];have z_:=hV.nh;omega⟩) (H_.lentTo)).mono fun v_ h2_ ⟨X_,e_,o_,N_⟩=>⟨X_,e_,o_,N_.lentBack⟩) fun v_=>?_
      refine xfv fun X13=>xfz fun ev_=>xfz fun o14=>?_
      have ev_:=ev_.symm;subst ev_
      refine ro (xax (v:=w5) rfl) <| rt (xax (v:=.bool (true)) rfl) (tm':=zq2 (zq4 _)) rfl <| ro (xax (v:=.int .i64 0) rfl) <| xak ?_
      refine xew Tryd.func49 rfl (vs:=[w5,.bool (true),.int .i64 0]) (fun h_ H_=>⟨w5,_,rfl,rfl,⟨.bool (true),_,rfl,rfl,⟨.int .i64 0,_,rfl,rfl,rfl⟩⟩⟩) (v:=.tuple #[w5,.bool (true),.int .i64 0]) rfl ?_
      have hD_:=wyq hV hl_ h9_ ‹¬ 0≤idxA (fun n=>decide (n<0)) (lackL t d)› ‹¬ 0≤idxA (fun n=>decide (n<0)) (hasL t d)›
      exact fun h_ H_=>K _ _ ⟨_,_,by rw [decide_eq_true (And.intro hc_ hD_),hc_],o14.as (by rw [goodL,if_pos ⟨hc_,hD_⟩];rfl),((H_.dropA).sub (List.sublist_append_left _ _)).new⟩
end Go.Proofs.YtalfgojocdonhaaDoor
namespace Go.Proofs.YtalfgojocdonhaaDoor
open Go.X Go.X.Flow Go.Conc
set_option maxRecDepth 10000
set_option synthInstance.maxSize 2000

set_option maxHeartbeats 1000000
theorem c108 (md:Md) (h:Heap) (p:PHeap) (hp:Per p h) (x:Nat) (hx:0<x∧x<64) (Z:TabP p):CallsX Tryd.prog md 108 #[.int .u64 (((x:Nat):Int))] h fun v h'=>v= .int .i64 ((tzN x:Nat):Int)∧Keep h h':=by
 refine xcw (Φ:=fun h_=>St h [] p h_ []) Tryd.func108 rfl (tm:=zq2 (zq4 (zq8 []))) rfl ?_ (St.start h _ hp)
 intro c₀ cs Stop K
 refine fsr <| ro (xax (v:=.int .i64 0) rfl) <| ren <| fsr <| ro (xaq (v:=.int .u64 (((x:Nat):Int))) rfl) <| rt (xjx rfl rfl) (tm':=zq1 (zq4 _)) rfl ?_
 refine xak ?_
 by_cases cc1:((x:Nat):Int)=0
 ·
  exact absurd cc1 (by omega)
 ·
  refine xcv rfl (dff cc1) <| xdq <| xej ?_
  have tb_:=wtk (tzF x)
  refine xbq <| ro (xaq (v:=.int .u64 (((x:Nat):Int))) rfl) <| ro (xaq (v:=.int .u64 (((x:Nat):Int))) rfl) ?_
  refine rt (wzw (a:=x) rfl (by omega) (by omega)) (tm':=zq8 _) rfl ?_
  refine ro (zgw (a:=x) (b:=18446744073709551616-x) rfl rfl (by omega) (by omega)) ?_
  refine ro (vaq (a:=x &&& (18446744073709551616-x)) (b:=285870213051353865) rfl rfl) ?_
  refine rt (wax (a:=(x &&& (18446744073709551616-x))*285870213051353865 % 18446744073709551616) (s:=58) rfl rfl (show _≤64 from by omega)) (tm':=zq2 (zq4 (zq8 []))) rfl ?_
  refine ro (zox (i:=((x &&& (18446744073709551616-x))*285870213051353865 % 18446744073709551616) / 2 ^ 58) Tryd.underlying116 tS5 rfl rfl (vck x)) <| rd (fun h_ H_=>xbv H_ tA5 rfl (v:=.int .u8 (((tab64.getD (tzF x) 0:Nat):Int))) (Z.at (vck x))) ?_
  refine rt (ysz ⟨_,Tryd.underlying5⟩ Tryd.underlying3 rfl (n:=((tab64.getD (tzF x) 0:Nat):Int)) (wr (by omega))) (tm':=zq2 (zq4 (zq8 []))) rfl ?_
  refine ro (xax (v:=.int .i64 (((tab64.getD (tzF x) 0:Nat):Int))) rfl) <| xak ?_
  refine xew Tryd.func108 rfl (vs:=[.int .i64 (((tab64.getD (tzF x) 0:Nat):Int))]) (fun h_ H_=>⟨.int .i64 (((tab64.getD (tzF x) 0:Nat):Int)),_,rfl,rfl,rfl⟩) (v:=.int .i64 (((tab64.getD (tzF x) 0:Nat):Int))) rfl ?_
  exact fun h_ H_=>K _ _ ⟨rfl,H_.kept⟩
theorem c98 (md:Md) (h:Heap) (p:PHeap) (hp:Per p h) (x:Nat) (hx:0<x∧x<64) (Z:TabP p):CallsX Tryd.prog md 98 #[.int .u64 (((x:Nat):Int))] h fun v h'=>v= .int .i64 ((tzN x:Nat):Int)∧Keep h h':=by
 refine xcw (Φ:=fun h_=>St h [] p h_ []) Tryd.func98 rfl (tm:=zq8 []) rfl ?_ (St.start h _ hp)
 intro c₀ cs Stop K
 refine fsr <| ro (xax (v:=.int .i64 0) rfl) <| ren <| xcv rfl rfl <| xdq <| fsr ?_
 refine rt (xaq (v:=.int .u64 (((x:Nat):Int))) rfl) (tm':=zq8 []) rfl ?_
 refine xcx mn (first:=[]) (cap:=[]) rfl rfl fC108 (fun h_ H_=>c108 md _ _ H_.pe x (by omega) Z) rfl ?_
 refine ro (xax (v:=.int .i64 (((tzN x:Nat):Int))) rfl) <| xak ?_
 refine xew Tryd.func98 rfl (vs:=[.int .i64 (((tzN x:Nat):Int))]) (fun h_ H_=>⟨.int .i64 (((tzN x:Nat):Int)),_,rfl,rfl,rfl⟩) (v:=.int .i64 (((tzN x:Nat):Int))) rfl ?_
 exact fun h_ H_=>K _ _ ⟨rfl,H_.kept⟩
theorem c73 (md:Md) (h:Heap) (p:PHeap) (hp:Per p h) (g:Nat) (hg:g<64) (Z:TabP p):CallsX Tryd.prog md 73 #[.int .u64 (((g:Nat):Int))] h fun v h'=>∃ w X,v=w∧OwnS 3 1 w (ics (LG g)) X∧New h h' X:=by
 refine xcw (Φ:=fun h_=>St h [] p h_ []) Tryd.func73 rfl (tm:=zq16 []) rfl ?_ (St.start h _ hp)
 intro c₀ cs Stop K
 refine fsr <| rt (xax (v:=.slice none 0 0) rfl) (tm':=_::_::_::_) rfl <| ren <| xbq <| ro (xax (v:=.slice none 0 0) rfl) <| ren ?_
 refine xek ?_
 refine xiv (m₀:=g+1) (fun m_ tm_ h_=>∃ (n:Nat) (q:Nat) (acc:List Int) (w:Value) (X1:Pcs),m_=q+1∧(∃ y1:Nat→Value,tm_=[.int .u64 (((q:Nat):Int)),undef,.slice none 0 0,w,(y1 4),(y1 5),(y1 6),(y1 7),(y1 8),(y1 9),(y1 10),(y1 11),(y1 12),(y1 13),(y1 14),undef])∧(q<64)∧(popL n q=true)∧(acc++listG n q=LG g)∧(OwnS 3 1 w (ics acc) X1)∧St h [] p h_ (([]:Pcs)++(X1++[]))) (fun h_ H_=>⟨6,g,[],(.slice none 0 0),[],rfl,(y_of rfl),hg,(pop6 g hg),rfl,(OwnS.empty _ _),H_⟩) ?_
 intro m_ tm_ IH2
 refine xij fun n=>xij fun q=>xij fun acc=>xij fun w=>xij fun X1=>xdz fun hm_=>xdz fun ht_=>xdz fun hq=>xdz fun hp=>xdz fun hl=>xdz fun o1=>?_
 subst hm_;obtain ⟨y1,ht_⟩:=ht_;subst ht_
 refine xej <| xej ?_
 have hlen_:acc.length≤6:=by have z_:=congrArg List.length hl;simp only [List.length_append] at z_;have z2_:=wbk g hg;omega
 refine xbq <| ro (xaq (v:=.int .u64 (((q:Nat):Int))) rfl) <| rt (xhw rfl rfl) (tm':=zq2 (zq4 _)) rfl <| xak ?_
 by_cases cc3:((q:Nat):Int)≠0
 ·
  refine xdk rfl (dtt cc3) <| xdq <| xej <| xek ?_
  have hq0_: ¬ q=0:=by omega
  obtain ⟨n',rfl⟩: ∃ n',n=n'+1:=by cases n with | zero=>exact absurd (wmz hp) ‹_› | succ n'=>exact ⟨n',rfl⟩
  refine xbq <| ro (xaq (v:=w) rfl) <| ro (xaq (v:=.int .u64 (((q:Nat):Int))) rfl) ?_
  refine xcx mn (first:=[]) (cap:=[]) rfl rfl fC98 (fun h_ H_=>c98 md _ _ H_.pe q (by omega) Z) (tm':=zq16 []) rfl ?_
  refine xmj ([]:Pcs) mn Tryd.underlying22 tS3 tZ3 (Nat.le_of_ble_eq_true rfl) (vs:=[(0,.int .i64 (((tzN q:Nat):Int)))]) rfl rfl (es:=[[.int .i64 (((tzN q:Nat):Int))]]) rfl rfl rfl fun v4 X5 o6=>?_
  refine xlw (List.Perm.append_left _ (List.perm_append_comm_assoc _ _ _)) ?_
  refine xcj (L':=([]:Pcs)++(X1++(X5++[]))) rfl ?_
  refine xrv ([]:Pcs) X1 X5 mn Tryd.underlying22 tS3 tZ3 rfl tB3 Tryd.underlying22 rfl rfl o1 o6 (xxv rfl) (by rw [xck];simp only [List.length_cons,List.length_nil];omega) (by decide) fun v7 X8 o9=>?_
  have o10:OwnS 3 1 v7 (ics (acc++[((tzN q:Nat):Int)])) X8:=o9.as (zzx _ _)
  refine rt (xax (v:=v7) rfl) (tm':=zq4 _) rfl <| xak <| xeq <| xbq <| ro (xaq (v:=.int .u64 (((q:Nat):Int))) rfl) <| ro (xaq (v:=.int .u64 (((q:Nat):Int))) rfl) ?_
  refine rt (xkw rfl rfl (n:=((q-1:Nat):Int)) (by rw [show ((q:Nat):Int)-1=((q-1:Nat):Int) from by omega];exact wrU (by omega))) (tm':=zq1 (zq8 _)) rfl ?_
  refine ro (zgw (a:=q) (b:=q-1) rfl rfl (by omega) (by omega)) ?_
  refine ro (xax (v:=.int .u64 (((q &&& (q-1):Nat):Int))) rfl) <| xak ?_
  exact fun h_ H_=>IH2 _ _ (by have z_:=Nat.and_le_right (n:=q) (m:=q-1);omega) h_ ⟨n',(q &&& (q-1)),(acc++[((tzN q:Nat):Int)]),v7,X8,rfl,(y_of rfl),(by have z_:=Nat.and_le_right (n:=q) (m:=q-1);omega),(wmj hp ‹_›),(by rw [List.append_assoc,List.singleton_append,← wej ‹_›];exact hl),o10,H_⟩
 ·
  refine xcv rfl (dff cc3) <| xiq rfl <| fsr <| rt (xaq (v:=w) rfl) (tm':=zq16 []) rfl <| ro (xax (v:=w) rfl) <| xak ?_
  refine xew Tryd.func73 rfl (vs:=[w]) (fun h_ H_=>⟨w,_,rfl,rfl,rfl⟩) (v:=w) rfl ?_
  have hq0_:q=0:=by omega
  have hl2_:acc=LG g:=by rw [hq0_,wez,List.append_nil] at hl;exact hl
  exact fun h_ H_=>K _ _ ⟨_,_,rfl,o1.as (by rw [hl2_]),((H_.dropA).sub (List.sublist_append_left _ _)).new⟩
theorem c76 (md:Md) (h:Heap) (p:PHeap) (hp:Per p h) (a b:Option Addr) (m n c d:Nat) (xs ys:List Int) (A:Ints p a m xs) (B:Ints p b n ys) (hm:m≤100∧n≤100):CallsX Tryd.prog md 76 #[.slice a m c,.slice b n d] h fun v h'=>v= .int .i64 (cmpL xs ys)∧Keep h h':=by
 refine xcw (Φ:=fun h_=>St h [] p h_ []) Tryd.func76 rfl (tm:=zq4 (zq32 [])) rfl ?_ (St.start h _ hp)
 intro c₀ cs Stop K
 refine fsr <| ro (xax (v:=.int .i64 0) rfl) <| ren <| fsr <| rt (xaq (v:=.slice a m c) rfl) (tm':=zq2 (zq8 _)) rfl <| ro (xfk Tryd.underlying22 rfl) ?_
 refine ro (xaq (v:=.int .i64 0) rfl) <| xak <| xek ?_
 refine xiv (m₀:=m-0) (fun m_ tm_ h_=>∃ (k:Nat),m_=m-k∧(∃ y1:Nat→Value,tm_=[.slice a m c,.slice b n d,undef,undef,(y1 4),(y1 5),(y1 6),(y1 7),(y1 8),.slice a m c,.int .i64 (((m:Nat):Int)),.int .i64 (((k:Nat):Int)),(y1 12),(y1 13),(y1 14),(y1 15),(y1 16),(y1 17),(y1 18),(y1 19),(y1 20),(y1 21),(y1 22),(y1 23),(y1 24),(y1 25),(y1 26),(y1 27),(y1 28),(y1 29),(y1 30),undef,undef,undef,undef,undef])∧(k≤m∧k≤n)∧(cmpL (xs.drop k) (ys.drop k)=cmpL xs ys)∧St h [] p h_ ([])) (fun h_ H_=>⟨0,rfl,(y_of rfl),⟨Nat.zero_le _,Nat.zero_le _⟩,(by simp),H_⟩) ?_
 intro m_ tm_ IH2
 refine xij fun k=>xdz fun hm_=>xdz fun ht_=>xdz fun hk=>xdz fun hc_=>?_
 subst hm_;obtain ⟨y1,ht_⟩:=ht_;subst ht_
 have hl1:=A.len
 have hl2:=B.len
 refine fsr <| rt (xgw rfl rfl) (tm':=zq1 (zq4 (zq8 _))) rfl <| ren ?_
 by_cases cc3:((k:Nat):Int)<((m:Nat):Int)
 ·
  refine xdk rfl (dtt cc3) <| xdq <| xej <| xek <| fsr <| ro (xaq (v:=.int .i64 (((k:Nat):Int))) rfl) ?_
  refine ro (xcz (i:=k) Tryd.underlying22 tS3 (xkq a m c (A.ne (by omega))) rfl (by omega)) ?_
  refine xaw mn (fun h_ H_=>xbv H_ tA3 rfl (v:=.int .i64 (xs.getD k 0)) (A.get (by omega))) (tm':=zq16 _) rfl ?_
  refine ro (xax (v:=.int .i64 (((k:Nat):Int))) rfl) <| ro (xax (v:=.int .i64 (xs.getD k 0)) rfl) <| ren <| fsr <| rt (xaq (v:=.int .i64 (((k:Nat):Int))) rfl) (tm':=zq1 (zq16 _)) rfl <| ro (xaq (v:=.slice b n d) rfl) ?_
  refine ro (xfk Tryd.underlying22 rfl) <| rt (xuj rfl rfl) (tm':=zq4 (zq16 _)) rfl <| xak ?_
  by_cases cc4:((n:Nat):Int)≤((k:Nat):Int)
  ·
   refine xdk rfl (dtt cc4) <| fsr <| ro (xax (v:=.int .i64 1) rfl) <| xak ?_
   refine xew Tryd.func76 rfl (vs:=[.int .i64 1]) (fun h_ H_=>⟨.int .i64 1,_,rfl,rfl,rfl⟩) (v:=.int .i64 1) rfl ?_
   exact fun h_ H_=>K _ _ ⟨congrArg (Value.int .i64) (by rw [← hc_];first | exact (ylw (by omega) (by omega)).symm | exact (ymq (by omega) (by omega)).symm | exact (ysj (by omega) (by omega)).symm | (rw [ydz (by omega) (by omega),if_neg (by omega)])),H_.kept⟩
  ·
   refine xcv rfl (dff cc4) <| xdq <| fsr <| ro (xaq (v:=.slice b n d) rfl) <| rt (xaq (v:=.int .i64 (((k:Nat):Int))) rfl) (tm':=zq2 (zq4 (zq16 _))) rfl ?_
   refine ro (xcz (i:=k) Tryd.underlying22 tS3 (xkq b n d (B.ne (by omega))) rfl (by omega)) ?_
   refine rd (fun h_ H_=>xbv H_ tA3 rfl (v:=.int .i64 (ys.getD k 0)) (B.get (by omega))) ?_
   refine rt (xax (v:=.int .i64 (ys.getD k 0)) rfl) (tm':=zq8 _) rfl <| ren <| xbq <| ro (xaq (v:=.int .i64 (xs.getD k 0)) rfl) <| ro (xaq (v:=.int .i64 (ys.getD k 0)) rfl) ?_
   refine xcx mn (first:=[]) (cap:=[]) rfl rfl wzk (fun h_ H_=>c101 md _ (xs.getD k 0) (ys.getD k 0)) (tm':=zq4 (zq32 [])) rfl ?_
   refine ro (xax (v:=.int .i64 (cmpI (xs.getD k 0) (ys.getD k 0))) rfl) <| ren <| xbq <| ro (xaq (v:=.int .i64 (cmpI (xs.getD k 0) (ys.getD k 0))) rfl) <| rt (xhw rfl rfl) (tm':=zq4 (zq32 [])) rfl <| xak ?_
   by_cases cc5:cmpI (xs.getD k 0) (ys.getD k 0)≠0
   ·
    refine xdk rfl (dtt cc5) <| fsr <| ro (xaq (v:=.int .i64 (cmpI (xs.getD k 0) (ys.getD k 0))) rfl) <| ro (xax (v:=.int .i64 (cmpI (xs.getD k 0) (ys.getD k 0))) rfl) <| xak ?_
    refine xew Tryd.func76 rfl (vs:=[.int .i64 (cmpI (xs.getD k 0) (ys.getD k 0))]) (fun h_ H_=>⟨.int .i64 (cmpI (xs.getD k 0) (ys.getD k 0)),_,rfl,rfl,rfl⟩) (v:=.int .i64 (cmpI (xs.getD k 0) (ys.getD k 0))) rfl ?_
    exact fun h_ H_=>K _ _ ⟨congrArg (Value.int .i64) (by rw [← hc_];first | exact (ylw (by omega) (by omega)).symm | exact (ymq (by omega) (by omega)).symm | exact (ysj (by omega) (by omega)).symm | (rw [ydz (by omega) (by omega),if_neg (by omega)])),H_.kept⟩
   ·
    refine xcv rfl (dff cc5) <| xdq <| xeq <| xbq ?_
    refine rt (xfx rfl rfl (n:=((k+1:Nat):Int)) (wr (by omega))) (tm':=zq4 (zq32 [])) rfl ?_
    refine ro (xaq (v:=.int .i64 (((k+1:Nat):Int))) rfl) <| xak ?_
    exact fun h_ H_=>IH2 _ _ (by omega) h_ ⟨k+1,rfl,(y_of rfl),(by omega),(by rw [← hc_,ydz (k:=k) (by omega) (by omega),if_pos (by omega)]),H_⟩
 ·
  refine xcv rfl (dff cc3) <| xiq rfl <| xej <| fsr <| ro (xaq (v:=.slice a m c) rfl) <| rt (xfk Tryd.underlying22 rfl) (tm':=zq4 (zq32 [])) rfl ?_
  refine ro (xaq (v:=.slice b n d) rfl) <| ro (xfk Tryd.underlying22 rfl) <| rt (xgw rfl rfl) (tm':=zq4 (zq32 [])) rfl <| xak ?_
  by_cases cc6:((m:Nat):Int)<((n:Nat):Int)
  ·
   refine xdk rfl (dtt cc6) <| fsr <| ro (xax (v:=.int .i64 (-1)) rfl) <| xak ?_
   refine xew Tryd.func76 rfl (vs:=[.int .i64 (-1)]) (fun h_ H_=>⟨.int .i64 (-1),_,rfl,rfl,rfl⟩) (v:=.int .i64 (-1)) rfl ?_
   exact fun h_ H_=>K _ _ ⟨congrArg (Value.int .i64) (by rw [← hc_];first | exact (ylw (by omega) (by omega)).symm | exact (ymq (by omega) (by omega)).symm | exact (ysj (by omega) (by omega)).symm | (rw [ydz (by omega) (by omega),if_neg (by omega)])),H_.kept⟩
  ·
   refine xcv rfl (dff cc6) <| xdq <| fsr <| ro (xax (v:=.int .i64 0) rfl) <| xak ?_
   refine xew Tryd.func76 rfl (vs:=[.int .i64 0]) (fun h_ H_=>⟨.int .i64 0,_,rfl,rfl,rfl⟩) (v:=.int .i64 0) rfl ?_
   exact fun h_ H_=>K _ _ ⟨congrArg (Value.int .i64) (by rw [← hc_];first | exact (ylw (by omega) (by omega)).symm | exact (ymq (by omega) (by omega)).symm | exact (ysj (by omega) (by omega)).symm | (rw [ydz (by omega) (by omega),if_neg (by omega)])),H_.kept⟩
end Go.Proofs.YtalfgojocdonhaaDoor
namespace Go.Proofs.YtalfgojocdonhaaDoor
open Go.X Go.X.Flow Go.Conc
set_option maxRecDepth 10000
set_option synthInstance.maxSize 2000

set_option maxHeartbeats 1000000
theorem c109 (md:Md) (h:Heap) (p:PHeap) (hp:Per p h) (fv:Value) (a:Option Addr) (n c:Nat) (xs:List FWay) (A:Wys p a n xs) (hn:n≤2 ^ 40) (q:FWay→Bool) (hf: ∀ h,Per p h→ ∀ i,i<n→CallV Tryd.prog md fv [.agg #[.int .i64 (xs.getD i wz).1,.int .i64 (xs.getD i wz).2]] h fun v h'=>v= .bool (q (xs.getD i wz))∧Keep h h'):CallsX Tryd.prog md 109 #[.slice a n c,fv] h fun v h'=>v= .int .i64 (idxA q xs)∧Keep h h':=by
 refine xcw (Φ:=fun h_=>St h [] p h_ []) Tryd.func109 rfl (tm:=zq1 (zq2 (zq16 []))) rfl ?_ (St.start h _ hp)
 intro c₀ cs Stop K
 refine fsr <| ro (xax (v:=.int .i64 0) rfl) <| ren <| fsr <| ro (xaq (v:=.slice a n c) rfl) <| rt (xfk Tryd.underlying23 rfl) (tm':=zq8 _) rfl ?_
 refine ro (xaq (v:=.int .i64 0) rfl) <| xak <| xek ?_
 refine xiv (m₀:=n-0) (fun m_ tm_ h_=>∃ (k:Nat),m_=n-k∧(∃ y1:Nat→Value,tm_=[.slice a n c,fv,undef,undef,(y1 4),(y1 5),.slice a n c,.int .i64 (((n:Nat):Int)),.int .i64 (((k:Nat):Int)),(y1 9),(y1 10),(y1 11),(y1 12),(y1 13),(y1 14),(y1 15),(y1 16),(y1 17),(y1 18)])∧(k≤n)∧(∀ i,i<k→q (xs.getD i wz)=false)∧St h [] p h_ ([])) (fun h_ H_=>⟨0,rfl,(y_of rfl),Nat.zero_le _,(fun i hi=>absurd hi (Nat.not_lt_zero i)),H_⟩) ?_
 intro m_ tm_ IH2
 refine xij fun k=>xdz fun hm_=>xdz fun ht_=>xdz fun hk=>xdz fun hs=>?_
 subst hm_;obtain ⟨y1,ht_⟩:=ht_;subst ht_
 refine fsr <| ro (xgw rfl rfl) <| ren ?_
 by_cases cc3:((k:Nat):Int)<((n:Nat):Int)
 ·
  refine xdk rfl (dtt cc3) <| xdq <| xej <| xek <| fsr <| rt (xaq (v:=.int .i64 (((k:Nat):Int))) rfl) (tm':=zq1 (zq2 (zq8 _))) rfl ?_
  refine ro (xax (v:=.int .i64 (((k:Nat):Int))) rfl) <| ren <| xbq <| ro (xaq (v:=fv) rfl) <| rt (xaq (v:=.slice a n c) rfl) (tm':=zq1 (zq2 (zq16 []))) rfl <| ro (xaq (v:=.int .i64 (((k:Nat):Int))) rfl) ?_
  refine ro (xcz (i:=k) Tryd.underlying23 tS43 (xkq a n c (A.ne (by omega))) rfl (by omega)) ?_
  refine xaw mn (fun h_ H_=>xhx H_ tA43 tS43 rfl (vs:=[.int .i64 ((xs.getD k wz).1),.int .i64 ((xs.getD k wz).2)]) rfl (A.all (by omega))) (tm':=zq1 (zq2 (zq16 []))) rfl ?_
  refine yuj mn rfl (vs:=[.agg #[.int .i64 ((xs.getD k wz).1),.int .i64 ((xs.getD k wz).2)]]) rfl (fun h_ H_=>hf h_ H_.per k (show k<n by omega)) rfl ?_
  refine xak ?_
  rcases xwx ((q (xs.getD k wz))) with cc4 | cc4
  ·
   refine xdk rfl cc4 <| fsr <| ro (xaq (v:=.int .i64 (((k:Nat):Int))) rfl) <| rt (xax (v:=.int .i64 (((k:Nat):Int))) rfl) (tm':=zq1 (zq4 _)) rfl <| xak ?_
   refine xew Tryd.func109 rfl (vs:=[.int .i64 (((k:Nat):Int))]) (fun h_ H_=>⟨.int .i64 (((k:Nat):Int)),_,rfl,rfl,rfl⟩) (v:=.int .i64 (((k:Nat):Int))) rfl ?_
   have hl:=A.len
   exact fun h_ H_=>K _ _ ⟨by first | (rw [xyx (z:=wz) (k:=k) (by omega) ‹_› hs]) | (rw [xyz (z:=wz) (fun i hi=>hs i (by omega))]),H_.kept⟩
  ·
   refine xcv rfl cc4 <| xdq <| xeq <| xbq ?_
   refine ro (xfx rfl rfl (n:=((k+1:Nat):Int)) (wr (by omega))) ?_
   refine ro (xaq (v:=.int .i64 (((k+1:Nat):Int))) rfl) <| xak ?_
   exact fun h_ H_=>IH2 _ _ (by omega) h_ ⟨k+1,rfl,(y_of rfl),(by omega),(xqw (q:=fun i=>q (xs.getD i wz)=false) hs ‹_›),H_⟩
 ·
  refine xcv rfl (dff cc3) <| xiq rfl <| fsr <| rt (xax (v:=.int .i64 (-1)) rfl) (tm':=zq1 (zq4 _)) rfl <| xak ?_
  refine xew Tryd.func109 rfl (vs:=[.int .i64 (-1)]) (fun h_ H_=>⟨.int .i64 (-1),_,rfl,rfl,rfl⟩) (v:=.int .i64 (-1)) rfl ?_
  have hl:=A.len
  exact fun h_ H_=>K _ _ ⟨by first | (rw [xyx (z:=wz) (k:=k) (by omega) ‹_› hs]) | (rw [xyz (z:=wz) (fun i hi=>hs i (by omega))]),H_.kept⟩
theorem c100 (md:Md) (h:Heap) (p:PHeap) (hp:Per p h) (fv:Value) (a:Option Addr) (n c:Nat) (xs:List FWay) (A:Wys p a n xs) (hn:n≤2 ^ 40) (q:FWay→Bool) (hf: ∀ h,Per p h→ ∀ i,i<n→CallV Tryd.prog md fv [.agg #[.int .i64 (xs.getD i wz).1,.int .i64 (xs.getD i wz).2]] h fun v h'=>v= .bool (q (xs.getD i wz))∧Keep h h'):CallsX Tryd.prog md 100 #[.slice a n c,fv] h fun v h'=>v= .bool (decide (0≤idxA q xs))∧Keep h h':=by
 refine xcw (Φ:=fun h_=>St h [] p h_ []) Tryd.func100 rfl (tm:=zq1 (zq8 [])) rfl ?_ (St.start h _ hp)
 intro c₀ cs Stop K
 refine fsr <| ro (xax (v:=.bool (false)) rfl) <| ren <| xbq <| ro (xaq (v:=.slice a n c) rfl) <| rt (xaq (v:=fv) rfl) (tm':=zq1 (zq8 [])) rfl ?_
 refine xcx mn (first:=[]) (cap:=[]) rfl rfl fC109 (fun h_ H_=>c109 md _ _ H_.pe fv _ _ _ _ A (by omega) q hf) rfl ?_
 refine ro (xuj rfl rfl) <| rt (xax (v:=.bool (decide (0≤idxA q xs))) rfl) (tm':=zq1 (zq4 _)) rfl <| xak ?_
 refine xew Tryd.func100 rfl (vs:=[.bool (decide (0≤idxA q xs))]) (fun h_ H_=>⟨.bool (decide (0≤idxA q xs)),_,rfl,rfl,rfl⟩) (v:=.bool (decide (0≤idxA q xs))) rfl ?_
 exact fun h_ H_=>K _ _ ⟨rfl,H_.kept⟩
theorem c99 (md:Md) (h:Heap) (p:PHeap) (hp:Per p h) (x y gg w:Nat) (hx:x≤63) (hg:gg<64) (bW bG:Nat) (hW:p bW=some (.cells #[.int .i64 ((w:Nat):Int)] 3 (0,0))) (hG:p bG=some (.cells #[.int .u64 ((gg:Nat):Int)] 79 (0,0))):CallsX Tryd.prog md 99 #[.agg #[.int .i64 (((x:Nat):Int)),.int .i64 (((y:Nat):Int))],.pointer (some ⟨bW,0,none⟩),.pointer (some ⟨bG,0,none⟩)] h fun v h'=>v= .bool (shq gg w (((x:Nat):Int),((y:Nat):Int)))∧Keep h h':=by
 refine xcw (Φ:=fun h_=>St h [] p h_ []) Tryd.func99 rfl (tm:=zq1 (zq16 [])) rfl ?_ (St.start h _ hp)
 intro c₀ cs Stop K
 refine fsr ?_
 refine xiw mn (v:=.agg #[.int .i64 (((x:Nat):Int)),.int .i64 (((y:Nat):Int))]) rfl fun b1=>xcj (L':=[(b1,.cells #[.int .i64 (((x:Nat):Int)),.int .i64 (((y:Nat):Int))] 43 (0,0))]) rfl ?_
 refine ro (xax (v:=.bool (false)) rfl) <| ren <| xbq <| rt (xaz xpk rfl (a':=⟨b1,1,none⟩) rfl) (tm':=zq2 (zq4 _)) rfl <| rd (fun h_ H_=>xaj H_ tA3 rfl (i:=0) rfl (v:=.int .i64 (((y:Nat):Int))) rfl) <| rd (fun h_ H_=>xbv H_ tA3 rfl (v:=.int .i64 (((w:Nat):Int))) (xkx hW rfl)) ?_
 refine rt (xjx rfl rfl) (tm':=zq1 (zq8 _)) rfl <| ro (xaq (v:=.bool (decide (((y:Nat):Int)=((w:Nat):Int)))) rfl) ?_
 by_cases cc2:((y:Nat):Int)=((w:Nat):Int)
 ·
  refine xaw (ms rfl rfl (dtt cc2)) (fun h_ H_=>xbv H_ tA79 rfl (v:=.int .u64 (((gg:Nat):Int))) (xkx hG rfl)) rfl ?_
  refine xaw (ms rfl rfl (dtt cc2)) (fun h_ H_=>xaz xoj rfl (a':=⟨b1,0,none⟩) rfl) (tm':=zq1 (zq16 [])) rfl ?_
  refine xaw (ms rfl rfl (dtt cc2)) (fun h_ H_=>xaj H_ tA3 rfl (i:=0) rfl (v:=.int .i64 (((x:Nat):Int))) rfl) rfl ?_
  refine xaw (ms rfl rfl (dtt cc2)) (fun h_ H_=>wax (a:=gg) (s:=x) rfl rfl (show _≤64 from by omega)) rfl ?_
  refine xaw (ms rfl rfl (dtt cc2)) (fun h_ H_=>zgw (a:=gg / 2 ^ x) (b:=1) rfl rfl (by first | omega | exact Nat.lt_of_le_of_lt (Nat.div_le_self _ _) (by omega)) (by first | omega | exact Nat.lt_of_le_of_lt (Nat.div_le_self _ _) (by omega))) (tm':=zq1 (zq16 [])) rfl ?_
  refine xaw (ms rfl rfl (dtt cc2)) (fun h_ H_=>xjx rfl rfl) rfl ?_
  refine ro (xbj rfl (dtt cc2) (v:=.bool (decide ((((gg / 2 ^ x) &&& 1:Nat):Int)=1))) rfl) <| rt (xax (v:=.bool (decide ((((gg / 2 ^ x) &&& 1:Nat):Int)=1))) rfl) (tm':=zq1 (zq4 _)) rfl <| xak ?_
  refine xew Tryd.func99 rfl (vs:=[.bool (decide ((((gg / 2 ^ x) &&& 1:Nat):Int)=1))]) (fun h_ H_=>⟨.bool (decide ((((gg / 2 ^ x) &&& 1:Nat):Int)=1)),_,rfl,rfl,rfl⟩) (v:=.bool (decide ((((gg / 2 ^ x) &&& 1:Nat):Int)=1))) rfl ?_
  exact fun h_ H_=>K _ _ ⟨congrArg Value.bool (by simp only [shq,Int.toNat_natCast];first | (rw [Bool.eq_iff_iff];simp only [decide_eq_true_eq];omega) | (symm;rw [decide_eq_false_iff_not];omega)),H_.kept⟩
 ·
  refine rp (mo rfl rfl (dff cc2)) <| rp (mo rfl rfl (dff cc2)) <| xfq (mo rfl rfl (dff cc2)) (tm':=zq1 (zq16 [])) rfl <| rp (mo rfl rfl (dff cc2)) <| rp (mo rfl rfl (dff cc2)) <| xfq (mo rfl rfl (dff cc2)) (tm':=zq1 (zq16 [])) rfl ?_
  refine ro (xcq rfl (dff cc2) (v:=.bool (false)) rfl) <| ro (xax (v:=.bool (false)) rfl) <| xak ?_
  refine xew Tryd.func99 rfl (vs:=[.bool (false)]) (fun h_ H_=>⟨.bool (false),_,rfl,rfl,rfl⟩) (v:=.bool (false)) rfl ?_
  exact fun h_ H_=>K _ _ ⟨congrArg Value.bool (by simp only [shq,Int.toNat_natCast];first | (rw [Bool.eq_iff_iff];simp only [decide_eq_true_eq];omega) | (symm;rw [decide_eq_false_iff_not];omega)),H_.kept⟩
theorem sh_ok (md:Md) {h:Heap} {p:PHeap} (hp:Per p h) {g w:Nat} {x:FWay} (hx:0≤x.1∧x.1≤63∧0≤x.2) (hg:g<64) {bW bG:Nat} (hW:p bW=some (.cells #[.int .i64 ((w:Nat):Int)] 3 (0,0))) (hG:p bG=some (.cells #[.int .u64 ((g:Nat):Int)] 79 (0,0))):
  CallsX Tryd.prog md 99 #[.agg #[.int .i64 x.1,.int .i64 x.2],.pointer (some ⟨bW,0,none⟩),.pointer (some ⟨bG,0,none⟩)] h fun v h'=>v= .bool (shq g w x)∧Keep h h':=by
 obtain ⟨a,b⟩:=x
 obtain ⟨a,rfl⟩:=Int.eq_ofNat_of_zero_le hx.1
 obtain ⟨b,rfl⟩:=Int.eq_ofNat_of_zero_le hx.2.2
 exact c99 md h p hp a b g w (by have:=hx.2.1;simp only at this;omega) hg bW bG hW hG
theorem c74 (md:Md) (h:Heap) (p:PHeap) (hp:Per p h) (a1 a2 a3:Option Addr) (c1 c2 c3:Nat) (t:Tn) (T:TownP p a1 t.nH a2 t.nW a3 t.m t) (O:OkT t) (g:Nat) (hgk:g<2 ^ t.nH) (Z:TabP p):CallsX Tryd.prog md 74 #[.int .u64 (((g:Nat):Int)),.agg #[.slice a1 t.nH c1,.slice a2 t.nW c2,.slice a3 t.m c3]] h fun v h'=>v= .bool (decide (0<shortN t g))∧Keep h h':=by
 refine xcw (Φ:=fun h_=>St h [] p h_ []) Tryd.func74 rfl (tm:=zq1 (zq4 (zq8 (zq32 [])))) rfl ?_ (St.start h _ hp)
 intro c₀ cs Stop K
 have oH:=O.nh
 have oW:=O.nw
 have oM:=O.nm
 have hg64:g<64:=by have z_:=yjj O.toOk;omega
 refine fsr ?_
 refine xiw mn (v:=.int .u64 (((g:Nat):Int))) rfl fun b1=>xcj (L':=[(b1,.cells #[.int .u64 (((g:Nat):Int))] 79 (0,0))]) rfl ?_
 refine xgx (tm':=_::_::_::_) rfl ?_
 refine xiw mn (v:=.agg #[.slice a1 t.nH c1,.slice a2 t.nW c2,.slice a3 t.m c3]) rfl fun b2=>xcj (L':=[(b2,.cells #[.slice a1 t.nH c1,.slice a2 t.nW c2,.slice a3 t.m c3] 25 (0,0)),(b1,.cells #[.int .u64 (((g:Nat):Int))] 79 (0,0))]) rfl ?_
 refine ro (xax (v:=.bool (false)) rfl) <| ren ?_
 refine ynv 1 rfl (L':=[(b2,.cells #[.slice a1 t.nH c1,.slice a2 t.nW c2,.slice a3 t.m c3] 25 (0,0))]) rfl fun p3 le4 hb5=>?_
 refine xbq <| rt (xax (v:=.int .i64 0) rfl) (tm':=zq2 (zq4 _)) rfl <| ren <| fsr <| rd (fun h_ H_=>xbv H_ tA79 rfl (v:=.int .u64 (((g:Nat):Int))) (xkx hb5 rfl)) ?_
 refine xcj (L':=([(b2,.cells #[.slice a1 t.nH c1,.slice a2 t.nW c2,.slice a3 t.m c3] 25 (0,0))]:Pcs)++[]) rfl ?_
 refine xjq mn (first:=[]) (cap:=[]) rfl rfl fC73 (R:=fun v_ h_=>∃ w6:Value,∃ X7:Pcs,v_=w6∧(OwnS 3 1 w6 (ics (LG g)) X7)∧St h [] p3 h_ (([(b2,.cells #[.slice a1 t.nH c1,.slice a2 t.nW c2,.slice a3 t.m c3] 25 (0,0))]:Pcs)++(X7++[]))) (fun h_ H_=>(c73 md _ _ H_.pe g (by have z_:=yjj O.toOk;omega) (Z.mono le4)).mono fun v_ h2_ ⟨w6,X7,e_,o8,N_⟩=>⟨w6,X7,e_,o8,H_.callNA N_⟩) fun v_=>?_
 refine xfv fun w6=>xfv fun X7=>xfz fun ev_=>xfz fun o8=>?_
 have ev_:=ev_.symm;subst ev_
 refine xcj (L':=([(b2,.cells #[.slice a1 t.nH c1,.slice a2 t.nW c2,.slice a3 t.m c3] 25 (0,0))]:Pcs)++(X7++[])) rfl ?_
 refine rt (xuz o8 ((xck _).trans rfl) Tryd.underlying22 rfl) (tm':=zq2 (zq4 (zq8 _))) rfl <| ro (xaq (v:=.int .i64 0) rfl) <| xak <| xek ?_
 refine xiv (m₀:=(LG g).length-0) (fun m_ tm_ h_=>∃ (k:Nat) (s:Int),m_=(LG g).length-k∧(∃ y9:Nat→Value,tm_=(.int .u64 (((g:Nat):Int))::.agg #[.slice a1 t.nH c1,.slice a2 t.nW c2,.slice a3 t.m c3]::.pointer (some ⟨b1,0,none⟩)::.pointer (some ⟨b2,0,none⟩)::.bool (false)::.int .i64 (s)::undef::(y9 7)::undef::undef::undef::.int .u64 (((g:Nat):Int))::w6::.int .i64 ((((LG g).length:Nat):Int))::.int .i64 (((k:Nat):Int))::(y9 15)::(y9 16)::(y9 17)::(y9 18)::(y9 19)::(y9 20)::(y9 21)::(y9 22)::(y9 23)::(y9 24)::(y9 25)::undef::undef::undef::zu16 []))∧(k≤(LG g).length)∧(s=wantG t g k)∧St h [] p3 h_ (([(b2,.cells #[.slice a1 t.nH c1,.slice a2 t.nW c2,.slice a3 t.m c3] 25 (0,0))]:Pcs)++(X7++[]))) (fun h_ H_=>⟨0,0,rfl,(y_of rfl),Nat.zero_le _,rfl,H_⟩) ?_
 intro m_ tm_ IH10
 refine xij fun k=>xij fun s=>xdz fun hm_=>xdz fun ht_=>xdz fun hk=>xdz fun hs=>?_
 subst hm_;obtain ⟨y9,ht_⟩:=ht_;subst ht_
 have hwb_:=zuw O.toOk hgk hk
 have hlb_:=fun z_:k<(LG g).length=>LG_bd O.nh hgk k z_
 have hl6_:=wbk g (by have z_:=yjj O.toOk;omega)
 have hvb_:=fun z_:((LG g).getD k 0).toNat<t.nH=>O.h _ z_
 refine fsr <| ro (xgw rfl rfl) <| ren ?_
 by_cases cc11:((k:Nat):Int)<(((LG g).length:Nat):Int)
 ·
  refine xdk rfl (dtt cc11) <| xdq <| xej <| xek <| fsr ?_
  refine rt (xhz o8 Tryd.underlying22 tS3 rfl rfl (by rw [((xck _).trans rfl)];first | omega | (simp only [List.length_set];omega))) (tm':=zq1 (zq16 _)) rfl ?_
  refine rd (fun h_ H_=>xnx (A:=([(b2,.cells #[.slice a1 t.nH c1,.slice a2 t.nW c2,.slice a3 t.m c3] 25 (0,0))]:Pcs)) (i:=k) (j:=0) (e:=[.int .i64 ((LG g).getD k 0)]) o8 H_ tA3 rfl rfl (xpj (by first | omega | (rw [leftK_length];omega) | (simp only [List.length_set];omega))) (u:=.int .i64 ((LG g).getD k 0)) rfl) ?_
  refine ro (xax (v:=.int .i64 ((LG g).getD k 0)) rfl) <| xak <| xbq <| rt (xaq (v:=.int .i64 (s)) rfl) (tm':=zq1 (zq2 (zq16 _))) rfl <| ro (xaz xmz rfl (a':=⟨b2,0,none⟩) rfl) <| rd (fun h_ H_=>xaj H_ tA22 rfl (i:=0) rfl (v:=.slice a1 t.nH c1) rfl) ?_
  refine rt (xaq (v:=.int .i64 ((LG g).getD k 0)) rfl) (tm':=zq2 (zq4 (zq16 _))) rfl ?_
  refine ro (xlx Tryd.underlying22 tS3 (xkq a1 t.nH c1 ((T.h.mono le4).ne (by omega))) rfl (by omega) (by omega) (a':=(adr a1).add (((((LG g).getD k 0)).toNat)*1)) rfl) ?_
  refine rd (fun h_ H_=>xbv H_ tA3 rfl (v:=.int .i64 (t.hv ((((LG g).getD k 0)).toNat))) ((T.h.mono le4).get (by omega))) ?_
  refine rt (xfx rfl rfl (wr (by have z1_:=hlb_ (by omega);have z2_:=hvb_ (by omega);omega))) (tm':=zq1 (zq8 (zq16 _))) rfl ?_
  refine ro (xax (v:=.int .i64 (s+(t.hv ((((LG g).getD k 0)).toNat)))) rfl) <| xak <| xeq <| xbq ?_
  refine ro (xfx rfl rfl (n:=((k+1:Nat):Int)) (wr (by omega))) ?_
  refine rt (xaq (v:=.int .i64 (((k+1:Nat):Int))) rfl) (tm':=zq1 (zq2 (zq4 (zq8 _)))) rfl <| xak ?_
  exact fun h_ H_=>IH10 _ _ (by omega) h_ ⟨k+1,s+(t.hv ((((LG g).getD k 0)).toNat)),rfl,(y_of rfl),(by omega),(by rw [wcq,← hs]),H_⟩
 ·
  refine xcv rfl (dff cc11) <| xiq rfl <| xej <| fsr <| ro (xaz xnj rfl (a':=⟨b2,1,none⟩) rfl) <| rd (fun h_ H_=>xaj H_ tA22 rfl (i:=0) rfl (v:=.slice a2 t.nW c2) rfl) ?_
  refine rt (xfk Tryd.underlying22 rfl) (tm':=zq1 (zq4 (zq8 (zq16 _)))) rfl <| ro (xaq (v:=.int .i64 0) rfl) <| xak <| xek ?_
  refine xiv (m₀:=t.nW-0) (fun m_ tm_ h_=>∃ (l:Nat) (s2:Int),m_=t.nW-l∧(∃ y12:Nat→Value,tm_=[.int .u64 (((g:Nat):Int)),.agg #[.slice a1 t.nH c1,.slice a2 t.nW c2,.slice a3 t.m c3],.pointer (some ⟨b1,0,none⟩),.pointer (some ⟨b2,0,none⟩),.bool (false),.int .i64 (s2),undef,(y9 7),(y12 8),(y12 9),(y12 10),.int .u64 (((g:Nat):Int)),w6,.int .i64 ((((LG g).length:Nat):Int)),.int .i64 (((k:Nat):Int)),.bool (decide (((k:Nat):Int)<(((LG g).length:Nat):Int))),(y9 16),(y9 17),(y9 18),(y9 19),(y9 20),(y9 21),(y9 22),(y9 23),(y9 24),(y9 25),.pointer (some ⟨b2,1,none⟩),.slice a2 t.nW c2,.int .i64 (((t.nW:Nat):Int)),.int .i64 (((l:Nat):Int)),(y12 30),(y12 31),(y12 32),(y12 33),(y12 34),(y12 35),(y12 36),(y12 37),(y12 38),(y12 39),(y12 40),(y12 41),(y12 42),undef,undef])∧(l≤t.nW)∧(s2=wantG t g (LG g).length-reachG t g l)∧St h [] p3 h_ (([(b2,.cells #[.slice a1 t.nH c1,.slice a2 t.nW c2,.slice a3 t.m c3] 25 (0,0))]:Pcs)++(X7++[]))) (fun h_ H_=>⟨0,s,rfl,(y_of rfl),Nat.zero_le _,(by have e_:k=(LG g).length:=(by omega);rw [hs,e_];simp [reachG,sm]),H_⟩) ?_
  intro m_ tm_ IH13
  refine xij fun l=>xij fun s2=>xdz fun hm_=>xdz fun ht_=>xdz fun hl=>xdz fun hs2=>?_
  subst hm_;obtain ⟨y12,ht_⟩:=ht_;subst ht_
  have hrb_:=zlk O.toOk (g:=g) hl
  have hwe_:=zuw O.toOk hgk (Nat.le_refl (LG g).length)
  have hwv_:=fun z_:l<t.nW=>O.w l z_
  refine fsr <| ro (xgw rfl rfl) <| ren ?_
  by_cases cc14:((l:Nat):Int)<((t.nW:Nat):Int)
  ·
   refine xdk rfl (dtt cc14) <| xdq <| xej <| xek <| fsr <| rt (xaq (v:=.int .i64 (((l:Nat):Int))) rfl) (tm':=zq1 (zq4 (zq8 (zq32 [])))) rfl ?_
   refine ro (xcz (i:=l) Tryd.underlying22 tS3 (xkq a2 t.nW c2 ((T.w.mono le4).ne (by omega))) rfl (by omega)) ?_
   refine rd (fun h_ H_=>xbv H_ tA3 rfl (v:=.int .i64 (t.wv l)) ((T.w.mono le4).get (by omega))) ?_
   refine xkz mn tZ3 rfl fun b15=>xcj (L':=([(b15,.cells #[.int .i64 0] 3 (0,0)),(b2,.cells #[.slice a1 t.nH c1,.slice a2 t.nW c2,.slice a3 t.m c3] 25 (0,0))]:Pcs)++(X7++[])) rfl ?_
   refine xgx (tm':=zq1 (zq8 _)) rfl ?_
   refine xjk mn tS3 rfl (v:=.int .i64 (((l:Nat):Int))) rfl (i:=0) rfl rfl rfl (Nat.le_of_ble_eq_true rfl) (cs2:=[.int .i64 (((l:Nat):Int))]) rfl (xcj (L':=([(b15,.cells #[.int .i64 (((l:Nat):Int))] 3 (0,0)),(b2,.cells #[.slice a1 t.nH c1,.slice a2 t.nW c2,.slice a3 t.m c3] 25 (0,0))]:Pcs)++(X7++[])) rfl ?_)
   refine ro (xax (v:=.int .i64 (t.wv l)) rfl) <| ren <| xbq <| ro (xvw (a:=[]) (b:=[.pointer (some ⟨b15,0,none⟩),.pointer (some ⟨b1,0,none⟩)]) rfl rfl) <| rt (xax (v:=.func (.func 99) #[] #[.pointer (some ⟨b15,0,none⟩),.pointer (some ⟨b1,0,none⟩)]) rfl) (tm':=zq1 (zq2 (zq8 _))) rfl <| ren ?_
   refine ynv 0 rfl (L':=([(b2,.cells #[.slice a1 t.nH c1,.slice a2 t.nW c2,.slice a3 t.m c3] 25 (0,0))]:Pcs)++(X7++[])) rfl fun p16 le17 hb18=>?_
   refine xbq <| ro (xaz xhv rfl (a':=⟨b2,2,none⟩) rfl) <| rd (fun h_ H_=>xaj H_ tA23 rfl (i:=0) rfl (v:=.slice a3 t.m c3) rfl) <| rt (xaq (v:=.func (.func 99) #[] #[.pointer (some ⟨b15,0,none⟩),.pointer (some ⟨b1,0,none⟩)]) rfl) (tm':=zq1 (zq4 (zq8 (zq32 [])))) rfl ?_
   refine xcx mn (first:=[]) (cap:=[]) rfl rfl fC100 (fun h_ H_=>c100 md _ _ H_.pe _ _ _ _ _ ((T.y.mono le4).mono le17) (by omega) (shq g l) (fun h_ hp_ i_ hi_=>xzv fC99 (sh_ok md hp_ (way63 O hi_) (by omega) hb18 (le17 _ _ hb5)))) rfl ?_
   refine xak ?_
   by_cases cc19:0≤idxA (shq g l) t.wy
   ·
    refine xdk rfl (dtt cc19) <| xbq <| ro (xaq (v:=.int .i64 (s2)) rfl) <| rt (xaq (v:=.int .i64 (t.wv l)) rfl) (tm':=zq1 (zq4 (zq8 (zq32 [])))) rfl ?_
    refine ro (xkw rfl rfl (wr (by have z1_:=hwv_ (by omega);omega))) ?_
    refine ro (xax (v:=.int .i64 (s2-(t.wv l))) rfl) <| xak <| xeq <| xbq ?_
    refine rt (xfx rfl rfl (n:=((l+1:Nat):Int)) (wr (by omega))) (tm':=zq1 (zq4 (zq8 (zq32 [])))) rfl ?_
    refine ro (xaq (v:=.int .i64 (((l+1:Nat):Int))) rfl) <| xak ?_
    exact fun h_ H_=>IH13 _ _ (by omega) h_ ⟨l+1,s2-(t.wv l),rfl,(y_of rfl),(by omega),(by first | (rw [zaz ‹_›];omega) | (rw [zlj ‹_›];omega)),(H_.forget le17)⟩
   ·
    refine xcv rfl (dff cc19) <| xdq <| xeq <| xbq ?_
    refine ro (xfx rfl rfl (n:=((l+1:Nat):Int)) (wr (by omega))) ?_
    refine rt (xaq (v:=.int .i64 (((l+1:Nat):Int))) rfl) (tm':=zq2 (zq4 (zq8 (zq16 _)))) rfl <| xak ?_
    exact fun h_ H_=>IH13 _ _ (by omega) h_ ⟨l+1,s2,rfl,(y_of rfl),(by omega),(by first | (rw [zaz ‹_›];omega) | (rw [zlj ‹_›];omega)),(H_.forget le17)⟩
  ·
   refine xcv rfl (dff cc14) <| xiq rfl <| fsr <| ro (xaq (v:=.int .i64 (s2)) rfl) <| ro (xix rfl rfl) <| rt (xax (v:=.bool (decide (0<s2))) rfl) (tm':=zq1 (zq4 _)) rfl ?_
   refine xak ?_
   refine xew Tryd.func74 rfl (vs:=[.bool (decide (0<s2))]) (fun h_ H_=>⟨.bool (decide (0<s2)),_,rfl,rfl,rfl⟩) (v:=.bool (decide (0<s2))) rfl ?_
   have e_:l=t.nW:=by omega
   exact fun h_ H_=>K _ _ ⟨congrArg Value.bool (by rw [hs2,e_];rfl),H_.kept⟩
end Go.Proofs.YtalfgojocdonhaaDoor
namespace Go.Proofs.YtalfgojocdonhaaDoor
open Go.X Go.X.Flow Go.Conc
set_option maxRecDepth 10000
set_option synthInstance.maxSize 2000

set_option maxHeartbeats 1000000
theorem c105 (md:Md) (h:Heap) (p:PHeap) (hp:Per p h) (a:Option Addr) (n c:Nat) (xs:List FWay) (A:Wys p a n xs) (hn:n≤100) (x y:Int):CallsX Tryd.prog md 105 #[.slice a n c,.agg #[.int .i64 (x),.int .i64 (y)]] h fun v h'=>v= .int .i64 (idxA (fun z=>decide (z=((x,y):FWay))) xs)∧Keep h h':=by
 refine xcw (Φ:=fun h_=>St h [] p h_ []) Tryd.func105 rfl (tm:=zq1 (zq2 (zq16 []))) rfl ?_ (St.start h _ hp)
 intro c₀ cs Stop K
 refine fsr ?_
 refine xiw mn (v:=.agg #[.int .i64 (x),.int .i64 (y)]) rfl fun b1=>xcj (L':=[(b1,.cells #[.int .i64 (x),.int .i64 (y)] 43 (0,0))]) rfl ?_
 refine ro (xax (v:=.int .i64 0) rfl) <| ren <| fsr <| rt (xaq (v:=.slice a n c) rfl) (tm':=zq1 (zq2 (zq4 _))) rfl <| ro (xfk Tryd.underlying23 rfl) <| ro (xaq (v:=.int .i64 0) rfl) ?_
 refine xak <| xek ?_
 refine xiv (m₀:=n-0) (fun m_ tm_ h_=>∃ (k:Nat),m_=n-k∧(∃ y2:Nat→Value,tm_=[.slice a n c,.agg #[.int .i64 (x),.int .i64 (y)],undef,.pointer (some ⟨b1,0,none⟩),(y2 4),(y2 5),.slice a n c,.int .i64 (((n:Nat):Int)),.int .i64 (((k:Nat):Int)),(y2 9),(y2 10),(y2 11),(y2 12),(y2 13),(y2 14),(y2 15),(y2 16),(y2 17),(y2 18)])∧(k≤n)∧(∀ i,i<k→(fun z=>decide (z=((x,y):FWay))) (xs.getD i wz)=false)∧St h [] p h_ ([(b1,.cells #[.int .i64 (x),.int .i64 (y)] 43 (0,0))])) (fun h_ H_=>⟨0,rfl,(y_of rfl),Nat.zero_le _,(fun i hi=>absurd hi (Nat.not_lt_zero i)),H_⟩) ?_
 intro m_ tm_ IH3
 refine xij fun k=>xdz fun hm_=>xdz fun ht_=>xdz fun hk=>xdz fun hs=>?_
 subst hm_;obtain ⟨y2,ht_⟩:=ht_;subst ht_
 refine fsr <| rt (xgw rfl rfl) (tm':=zq2 (zq8 _)) rfl <| ren ?_
 by_cases cc4:((k:Nat):Int)<((n:Nat):Int)
 ·
  refine xdk rfl (dtt cc4) <| xdq <| xej <| xek <| fsr <| ro (xaq (v:=.int .i64 (((k:Nat):Int))) rfl) ?_
  refine ro (xax (v:=.int .i64 (((k:Nat):Int))) rfl) <| ren ?_
  refine xfw 5 [[],[],[],[1,2],[1,2,3],[]] xlq (by kernel_rfl) (Nat.le_of_ble_eq_true rfl) ?_
  refine wd (fun h_ H_=>xav H_ tA43 tS43 rfl (i:=0) rfl (vs:=[.int .i64 (x),.int .i64 (y)]) rfl rfl) <| wt (xaq (v:=.slice a n c) rfl) (tm':=zq1 (zq2 (zq16 []))) rfl <| wo (xaq (v:=.int .i64 (((k:Nat):Int))) rfl) ?_
  refine wt (xcz (i:=k) Tryd.underlying23 tS43 (xkq a n c (A.ne (by omega))) rfl (by omega)) (tm':=zq1 (zq2 (zq16 []))) rfl ?_
  refine wd (fun h_ H_=>xhx H_ tA43 tS43 rfl (vs:=[.int .i64 ((xs.getD k wz).1),.int .i64 ((xs.getD k wz).2)]) rfl (A.all (by omega))) ?_
  refine xiz rfl ?_
  refine ro (yyq gT43 (vew 9998 _ _ _ _) rfl rfl) <| xak ?_
  by_cases cc5:x=(xs.getD k wz).1∧y=(xs.getD k wz).2
  ·
   refine xdk rfl (dtt cc5) <| fsr <| rt (xaq (v:=.int .i64 (((k:Nat):Int))) rfl) (tm':=zq1 (zq2 (zq16 []))) rfl <| ro (xax (v:=.int .i64 (((k:Nat):Int))) rfl) <| xak ?_
   refine xew Tryd.func105 rfl (vs:=[.int .i64 (((k:Nat):Int))]) (fun h_ H_=>⟨.int .i64 (((k:Nat):Int)),_,rfl,rfl,rfl⟩) (v:=.int .i64 (((k:Nat):Int))) rfl ?_
   have hl:=A.len
   exact fun h_ H_=>K _ _ ⟨by first | (rw [xyx (z:=wz) (k:=k) (by omega) (decide_eq_true (Prod.ext (‹x=(xs.getD k wz).1∧y=(xs.getD k wz).2›).1.symm (‹x=(xs.getD k wz).1∧y=(xs.getD k wz).2›).2.symm)) hs]) | (rw [xyz (z:=wz) (fun i hi=>hs i (by omega))]),H_.kept⟩
  ·
   refine xcv rfl (dff cc5) <| xdq <| xeq <| xbq ?_
   refine ro (xfx rfl rfl (n:=((k+1:Nat):Int)) (wr (by omega))) ?_
   refine rt (xaq (v:=.int .i64 (((k+1:Nat):Int))) rfl) (tm':=zq1 (zq8 _)) rfl <| xak ?_
   exact fun h_ H_=>IH3 _ _ (by omega) h_ ⟨k+1,rfl,(y_of rfl),(by omega),(xqw (q:=fun i=>(fun z=>decide (z=((x,y):FWay))) (xs.getD i wz)=false) hs (decide_eq_false fun e_=>absurd (show x=(xs.getD k wz).1∧y=(xs.getD k wz).2 from ⟨by rw [e_],by rw [e_]⟩) ‹_›)),H_⟩
 ·
  refine xcv rfl (dff cc4) <| xiq rfl <| fsr <| ro (xax (v:=.int .i64 (-1)) rfl) <| xak ?_
  refine xew Tryd.func105 rfl (vs:=[.int .i64 (-1)]) (fun h_ H_=>⟨.int .i64 (-1),_,rfl,rfl,rfl⟩) (v:=.int .i64 (-1)) rfl ?_
  have hl:=A.len
  exact fun h_ H_=>K _ _ ⟨by first | (rw [xyx (z:=wz) (k:=k) (by omega) (decide_eq_true (Prod.ext (‹x=(xs.getD k wz).1∧y=(xs.getD k wz).2›).1.symm (‹x=(xs.getD k wz).1∧y=(xs.getD k wz).2›).2.symm)) hs]) | (rw [xyz (z:=wz) (fun i hi=>hs i (by omega))]),H_.kept⟩
theorem c95 (md:Md) (h:Heap) (p:PHeap) (hp:Per p h) (a:Option Addr) (n c:Nat) (xs:List FWay) (A:Wys p a n xs) (hn:n≤100) (x y:Int):CallsX Tryd.prog md 95 #[.slice a n c,.agg #[.int .i64 (x),.int .i64 (y)]] h fun v h'=>v= .bool (decide (((x,y):FWay)∈xs))∧Keep h h':=by
 refine xcw (Φ:=fun h_=>St h [] p h_ []) Tryd.func95 rfl (tm:=zq1 (zq8 [])) rfl ?_ (St.start h _ hp)
 intro c₀ cs Stop K
 refine fsr ?_
 refine xiw mn (v:=.agg #[.int .i64 (x),.int .i64 (y)]) rfl fun b1=>xcj (L':=[(b1,.cells #[.int .i64 (x),.int .i64 (y)] 43 (0,0))]) rfl ?_
 refine rt (xax (v:=.bool (false)) rfl) (tm':=zq1 (zq4 _)) rfl <| ren <| xbq <| ro (xaq (v:=.slice a n c) rfl) <| rd (fun h_ H_=>xav H_ tA43 tS43 rfl (i:=0) rfl (vs:=[.int .i64 (x),.int .i64 (y)]) rfl rfl) ?_
 refine xcx mn (first:=[]) (cap:=[]) rfl rfl fC105 (fun h_ H_=>c105 md _ _ H_.pe _ _ _ _ A hn x y) (tm':=zq1 (zq8 [])) rfl ?_
 refine ro (xuj rfl rfl) <| ro (xax (v:=.bool (decide (0≤idxA (fun z=>decide (z=((x,y):FWay))) xs))) rfl) <| xak ?_
 refine xew Tryd.func95 rfl (vs:=[.bool (decide (0≤idxA (fun z=>decide (z=((x,y):FWay))) xs))]) (fun h_ H_=>⟨.bool (decide (0≤idxA (fun z=>decide (z=((x,y):FWay))) xs)),_,rfl,rfl,rfl⟩) (v:=.bool (decide (0≤idxA (fun z=>decide (z=((x,y):FWay))) xs))) rfl ?_
 exact fun h_ H_=>K _ _ ⟨congrArg Value.bool (decide_eq_decide.2 vhv),H_.kept⟩
theorem c94 (md:Md) (h:Heap) (p:PHeap) (hp:Per p h) (a1 a2 a3:Option Addr) (c1 c2 c3:Nat) (t:Tn) (T:TownP p a1 t.nH a2 t.nW a3 t.m t) (O:OkT t) (q1 q2 q3:Option Addr) (d1 d2 d3:Nat) (u:Tn) (U:TownP p q1 u.nH q2 u.nW q3 u.m u) (O2:OkT u) (N:NoneP p):CallsX Tryd.prog md 94 #[.agg #[.slice a1 t.nH c1,.slice a2 t.nW c2,.slice a3 t.m c3],.agg #[.slice q1 u.nH d1,.slice q2 u.nW d2,.slice q3 u.m d3]] h fun v h'=>v= .bool (decide (cmpL (LK t) (LK u)<0))∧Keep h h':=by
 refine xcw (Φ:=fun h_=>St h [] p h_ []) Tryd.func94 rfl (tm:=zq1 (zq2 (zq8 []))) rfl ?_ (St.start h _ hp)
 intro c₀ cs Stop K
 have oH:t.nH≤100:=by have:=O.nh;omega
 have oU:u.nH≤100:=by have:=O2.nh;omega
 refine fsr ?_
 refine xiw mn (v:=.agg #[.slice a1 t.nH c1,.slice a2 t.nW c2,.slice a3 t.m c3]) rfl fun b1=>xcj (L':=[(b1,.cells #[.slice a1 t.nH c1,.slice a2 t.nW c2,.slice a3 t.m c3] 25 (0,0))]) rfl ?_
 refine xgx (tm':=_::_::_::_) rfl ?_
 refine xiw mn (v:=.agg #[.slice q1 u.nH d1,.slice q2 u.nW d2,.slice q3 u.m d3]) rfl fun b2=>xcj (L':=[(b2,.cells #[.slice q1 u.nH d1,.slice q2 u.nW d2,.slice q3 u.m d3] 25 (0,0)),(b1,.cells #[.slice a1 t.nH c1,.slice a2 t.nW c2,.slice a3 t.m c3] 25 (0,0))]) rfl ?_
 refine ro (xax (v:=.bool (false)) rfl) <| ren ?_
 obtain ⟨Gw8,GX9,hG1_⟩:=sk2 (fun (v_:Value) (x_:Pcs) (w8:Value) (X9:Pcs)=>v_=w8∧(OwnS 3 1 w8 (ics (LK t)) X9)∧x_=(X9++[]))
 refine ybx (xnq (C:=[]) (A:=([(b2,.cells #[.slice q1 u.nH d1,.slice q2 u.nW d2,.slice q3 u.m d3] 25 (0,0)),(b1,.cells #[.slice a1 t.nH c1,.slice a2 t.nW c2,.slice a3 t.m c3] 25 (0,0))]:Pcs)) 3 [[],[0],[],[0,2],[0,1,2,3],[],[]] [] [1] [0,2] (fun _=>[]) (fun _=>[]) (fun i_=>match i_ with | 0=>[] | 1=>[0] | 2=>[] | _=>[]) (fun i_ val_ pc_ v_ x_=>match i_ with | 0=>v_= .agg #[.slice a1 t.nH c1,.slice a2 t.nW c2,.slice a3 t.m c3]∧x_=[] | 1=>∃ w8:Value,∃ X9:Pcs,v_=w8∧(OwnS 3 1 w8 (ics (LK t)) X9)∧x_=(X9++[]) | 2=>v_= .agg #[.slice q1 u.nH d1,.slice q2 u.nW d2,.slice q3 u.m d3]∧x_=[] | _=>True) (fun val6=>[.agg #[.slice a1 t.nH c1,.slice a2 t.nW c2,.slice a3 t.m c3],.agg #[.slice q1 u.nH d1,.slice q2 u.nW d2,.slice q3 u.m d3],.pointer (some ⟨b1,0,none⟩),.pointer (some ⟨b2,0,none⟩),.bool (false),(val6 0),(val6 1),(val6 2),undef,undef,undef]) xlq (by kernel_rfl) (Nat.le_of_ble_eq_true rfl) (by kernel_rfl) (by kernel_rfl) (by kernel_rfl) (fun _ _=>⟨fun _ _ h=>h.2,⟨fun _ _ h=>h.2,trivial⟩⟩) (fun _=>by kernel_rfl) (by kernel_rfl) ?_ ?_) (fun h_ H_=>St.swap (A:=([(b2,.cells #[.slice q1 u.nH d1,.slice q2 u.nW d2,.slice q3 u.m d3] 25 (0,0)),(b1,.cells #[.slice a1 t.nH c1,.slice a2 t.nW c2,.slice a3 t.m c3] 25 (0,0))]:Pcs)) (U:=[]) H_)
 ·
  refine xbx rfl (xez ?_) ?_
  ·
   intro val6 pc7 hQ_ hX_
   obtain ⟨q_,hq0_⟩: ∃ q_:Value→Pcs→Prop,q_=(fun v_ x_=>v_= .agg #[.slice a1 t.nH c1,.slice a2 t.nW c2,.slice a3 t.m c3]∧x_=[]):=⟨_,rfl⟩
   refine ⟨(zq1 (zq2 (zq8 []))),[],q_,rfl,rfl,(fun _ _ z_=>by subst hq0_;exact z_),?_⟩
   subst hq0_
   exact xdw mn (fun _ h_ H_=>xav H_ tA25 tS25 rfl (i:=1) rfl (vs:=[.slice a1 t.nH c1,.slice a2 t.nW c2,.slice a3 t.m c3]) rfl rfl) ⟨rfl,rfl⟩
  refine xbx rfl (xez ?_) ?_
  ·
   intro val6 pc7 hQ_ hX_
   have e0_:val6 0= .agg #[.slice a1 t.nH c1,.slice a2 t.nW c2,.slice a3 t.m c3]:=(hQ_ 0 rfl).1
   obtain ⟨q_,hq0_⟩: ∃ q_:Value→Pcs→Prop,q_=(fun v_ x_=>∃ w8:Value,∃ X9:Pcs,v_=w8∧(OwnS 3 1 w8 (ics (LK t)) X9)∧x_=(X9++[])):=⟨_,rfl⟩
   refine ⟨(zq1 (zq2 (zq8 []))),[],q_,(by rw [e0_]),rfl,(fun _ _ z_=>by subst hq0_;exact z_),?_⟩
   subst hq0_
   exact xww mn (first:=[]) (cap:=[]) rfl rfl fC81 (fun _ h_ H_=>(c81 md _ _ H_.pe _ _ _ _ _ _ t (show TownP _ _ _ _ _ _ _ t from ⟨T.h,T.w,T.y⟩) O N).mono fun v_ h2_ ⟨w8,X9,e_,o10,N_⟩=>⟨_,⟨w8,X9,e_,o10,rfl⟩,H_.callN (show New _ _ (X9++[]) by rw [List.append_nil];exact N_)⟩)
  refine xbx rfl (xez ?_) ?_
  ·
   intro val6 pc7 hQ_ hX_
   obtain ⟨q_,hq0_⟩: ∃ q_:Value→Pcs→Prop,q_=(fun v_ x_=>v_= .agg #[.slice q1 u.nH d1,.slice q2 u.nW d2,.slice q3 u.m d3]∧x_=[]):=⟨_,rfl⟩
   refine ⟨(zq1 (zq2 (zq8 []))),[],q_,rfl,rfl,(fun _ _ z_=>by subst hq0_;exact z_),?_⟩
   subst hq0_
   exact xdw mn (fun _ h_ H_=>xav H_ tA25 tS25 rfl (i:=0) rfl (vs:=[.slice q1 u.nH d1,.slice q2 u.nW d2,.slice q3 u.m d3]) rfl rfl) ⟨rfl,rfl⟩
  exact xmw rfl
 intro val6 pc7 hQ_ hX_
 have e0_:val6 0= .agg #[.slice a1 t.nH c1,.slice a2 t.nW c2,.slice a3 t.m c3]:=(hQ_ 0 (by decide)).1
 obtain ⟨e1_,o10,x1_⟩:=hG1_ _ _ (hQ_ 1 (by decide))
 have e2_:val6 2= .agg #[.slice q1 u.nH d1,.slice q2 u.nW d2,.slice q3 u.m d3]:=(hQ_ 2 (by decide)).1
 clear hQ_ hX_
 generalize Gw8 (val6 1) (pc7 1)=w8 at*
 generalize GX9 (val6 1) (pc7 1)=X9 at*
 refine yax (Φ:=fun h_=>St h [] p h_ (([(b2,.cells #[.slice q1 u.nH d1,.slice q2 u.nW d2,.slice q3 u.m d3] 25 (0,0)),(b1,.cells #[.slice a1 t.nH c1,.slice a2 t.nW c2,.slice a3 t.m c3] 25 (0,0))]:Pcs)++(pc7 1++[]))) ?_ (fun h_ H_=>H_.swap')
 rw [x1_]
 refine xcj (L':=([(b2,.cells #[.slice q1 u.nH d1,.slice q2 u.nW d2,.slice q3 u.m d3] 25 (0,0)),(b1,.cells #[.slice a1 t.nH c1,.slice a2 t.nW c2,.slice a3 t.m c3] 25 (0,0))]:Pcs)++(X9++[])) (by simp) ?_
 refine xgx (tm':=(zq1 (zq2 (zq8 [])))) (by rw [e0_,e1_,e2_]) ?_
 refine xjq mn (first:=[]) (cap:=[]) rfl rfl fC81 (R:=fun v_ h_=>∃ w13:Value,∃ X14:Pcs,v_=w13∧(OwnS 3 1 w13 (ics (LK u)) X14)∧St h [] p h_ (([(b2,.cells #[.slice q1 u.nH d1,.slice q2 u.nW d2,.slice q3 u.m d3] 25 (0,0)),(b1,.cells #[.slice a1 t.nH c1,.slice a2 t.nW c2,.slice a3 t.m c3] 25 (0,0))]:Pcs)++(X14++(X9++[])))) (fun h_ H_=>(c81 md _ _ H_.pe _ _ _ _ _ _ u (show TownP _ _ _ _ _ _ _ u from ⟨U.h,U.w,U.y⟩) O2 N).mono fun v_ h2_ ⟨w13,X14,e_,o15,N_⟩=>⟨w13,X14,e_,o15,H_.callNA N_⟩) fun v_=>?_
 refine xfv fun w13=>xfv fun X14=>xfz fun ev_=>xfz fun o15=>?_
 have ev_:=ev_.symm;subst ev_
 refine xcj (L':=([(b2,.cells #[.slice q1 u.nH d1,.slice q2 u.nW d2,.slice q3 u.m d3] 25 (0,0)),(b1,.cells #[.slice a1 t.nH c1,.slice a2 t.nW c2,.slice a3 t.m c3] 25 (0,0))]:Pcs)++(X14++(X9++[]))) rfl ?_
 refine xcx mn (first:=[]) (cap:=[]) rfl rfl fC76 (fun h_ H_=>show CallsX Tryd.prog md 76 #[w8,w13] h_ (fun v_ h2_=>v_= .int .i64 (cmpL (LK t) (LK u))∧Keep h_ h2_) from lend2 (n:=t.nH) (n':=u.nH) o10 ((xck _).trans (xqx _)) o15 ((xck _).trans (xqx _)) H_ (fun x_ h_=>by simp at h_ ⊢;rcases h_ with h_ | h_ <;> simp [h_]) fun p_ a_ c_ a2_ c2_ hp_ _ hv_ hv2_ D_ D2_=>by rw [hv_,hv2_];exact c76 md _ _ hp_ _ _ _ _ _ _ (LK t) (LK u) (show Ints _ _ _ (LK t) from D_) (show Ints _ _ _ (LK u) from D2_) ⟨oH,oU⟩) rfl ?_
 refine rt (xgw rfl rfl) (tm':=zq1 (zq2 (zq8 []))) rfl <| ro (xax (v:=.bool (decide (cmpL (LK t) (LK u)<0))) rfl) <| xak ?_
 refine xew Tryd.func94 rfl (vs:=[.bool (decide (cmpL (LK t) (LK u)<0))]) (fun h_ H_=>⟨.bool (decide (cmpL (LK t) (LK u)<0)),_,rfl,rfl,rfl⟩) (v:=.bool (decide (cmpL (LK t) (LK u)<0))) rfl ?_
 exact fun h_ H_=>K _ _ ⟨rfl,H_.kept⟩
theorem c25 (md:Md) (h:Heap) (p:PHeap) (hp:Per p h) (a1 a2 a3:Option Addr) (c1 c2 c3:Nat) (t:Tn) (T:TownP p a1 t.nH a2 t.nW a3 t.m t) (hn:t.nH≤40∧t.nW≤40∧t.m≤41) (Z:TabP p):CallsX Tryd.prog md 25 #[.agg #[.slice a1 t.nH c1,.slice a2 t.nW c2,.slice a3 t.m c3]] h fun v h'=>∃ w X,v= .tuple #[w,.int .i64 (shortE t)]∧OwnS 3 1 w (ics (shortC t)) X∧New h h' X:=by
 refine xcw (Φ:=fun h_=>St h [] p h_ []) Tryd.func25 rfl (tm:=zq1 (zq2 (zq4 (zq8 (zq32 []))))) rfl ?_ (St.start h _ hp)
 intro c₀ cs Stop K
 refine fsr ?_
 refine xiw mn (v:=.agg #[.slice a1 t.nH c1,.slice a2 t.nW c2,.slice a3 t.m c3]) rfl fun b1=>xcj (L':=[(b1,.cells #[.slice a1 t.nH c1,.slice a2 t.nW c2,.slice a3 t.m c3] 25 (0,0))]) rfl ?_
 refine rt (xax (v:=.slice none 0 0) rfl) (tm':=_::_::_::_) rfl <| ro (xax (v:=.int .i64 0) rfl) <| ren <| fsr <| rd (fun h_ H_=>xav H_ tA25 tS25 rfl (i:=0) rfl (vs:=[.slice a1 t.nH c1,.slice a2 t.nW c2,.slice a3 t.m c3]) rfl rfl) ?_
 refine xcx mn (first:=[]) (cap:=[]) rfl rfl fC47 (fun h_ H_=>c47 md _ _ H_.pe _ _ _ _ _ _ _ _ _ t (show TownP _ _ _ _ _ _ _ t from ⟨T.h,T.w,T.y⟩) (by omega)) (tm':=zq2 (zq8 _)) rfl ?_
 refine ro (xax (v:=.int .i64 (chkB t)) rfl) <| ren <| xbq <| ro (xaq (v:=.int .i64 (chkB t)) rfl) <| rt (xhw rfl rfl) (tm':=zq4 (zq8 _)) rfl <| xak ?_
 by_cases cc2:chkB t≠0
 ·
  refine xdk rfl (dtt cc2) <| fsr <| ro (xaq (v:=.int .i64 (chkB t)) rfl) <| ro (xax (v:=.slice none 0 0) rfl) <| rt (xax (v:=.int .i64 (chkB t)) rfl) (tm':=zq4 _) rfl <| xak ?_
  refine xew Tryd.func25 rfl (vs:=[.slice none 0 0,.int .i64 (chkB t)]) (fun h_ H_=>⟨.slice none 0 0,_,rfl,rfl,⟨.int .i64 (chkB t),_,rfl,rfl,rfl⟩⟩) (v:=.tuple #[.slice none 0 0,.int .i64 (chkB t)]) rfl ?_
  exact fun h_ H_=>K _ _ ⟨_,[],by rw [wjv ‹_›],(OwnS.empty _ _).as (by rw [wjw ‹_›];rfl),(H_.sub (List.nil_sublist _)).new⟩
 ·
  refine xcv rfl (dff cc2) <| xdq <| xej ?_
  have hc_:chkB t=0:=by omega
  have hO:OkT t:=xtz hc_
  have hp64_:=yjj hO.toOk
  refine xbq <| ro (xax (v:=.slice none 0 0) rfl) <| ren <| fsr <| ro (xaz xmz rfl (a':=⟨b1,0,none⟩) rfl) ?_
  refine xaw mn (fun h_ H_=>xaj H_ tA22 rfl (i:=0) rfl (v:=.slice a1 t.nH c1) rfl) (tm':=zq1 (zq2 (zq4 (zq8 _)))) rfl ?_
  refine ro (xfk Tryd.underlying22 rfl) ?_
  refine ro (wzv (s:=t.nH) rfl rfl (by omega)) ?_
  refine rt (xaq (v:=.int .u64 0) rfl) (tm':=zq2 (zq16 _)) rfl <| xak <| xek ?_
  refine xiv (m₀:=2 ^ t.nH-0) (fun m_ tm_ h_=>∃ (k:Nat) (bl:List Int) (w:Value) (X1:Pcs),m_=2 ^ t.nH-k∧(∃ y3:Nat→Value,tm_=[.agg #[.slice a1 t.nH c1,.slice a2 t.nW c2,.slice a3 t.m c3],.pointer (some ⟨b1,0,none⟩),.slice none 0 0,.int .i64 0,.int .i64 (chkB t),w,(y3 6),(y3 7),.agg #[.slice a1 t.nH c1,.slice a2 t.nW c2,.slice a3 t.m c3],.int .i64 (chkB t),.int .i64 (chkB t),.bool (decide (chkB t≠0)),undef,.pointer (some ⟨b1,0,none⟩),.slice a1 t.nH c1,.int .i64 (((t.nH:Nat):Int)),.int .u64 (((2 ^ t.nH:Nat):Int)),.int .u64 (((k:Nat):Int)),(y3 18),(y3 19),(y3 20),(y3 21),(y3 22),(y3 23),(y3 24),(y3 25),(y3 26),(y3 27),(y3 28),(y3 29),(y3 30),(y3 31),(y3 32),(y3 33),(y3 34),(y3 35),(y3 36),(y3 37),(y3 38),(y3 39),(y3 40),(y3 41),(y3 42),(y3 43),undef,undef,undef])∧(k≤2 ^ t.nH)∧(bl=shortF t k)∧(bl=[]→w= .slice none 0 0)∧(OwnS 3 1 w (ics bl) X1)∧St h [] p h_ (([(b1,.cells #[.slice a1 t.nH c1,.slice a2 t.nW c2,.slice a3 t.m c3] 25 (0,0))]:Pcs)++(X1++[]))) (fun h_ H_=>⟨0,[],(.slice none 0 0),[],rfl,(y_of rfl),Nat.zero_le _,rfl,(fun _=>rfl),(OwnS.empty _ _),H_⟩) ?_
  intro m_ tm_ IH4
  refine xij fun k=>xij fun bl=>xij fun w=>xij fun X1=>xdz fun hm_=>xdz fun ht_=>xdz fun hk=>xdz fun hb=>xdz fun hw0=>xdz fun o1=>?_
  subst hm_;obtain ⟨y3,ht_⟩:=ht_;subst ht_
  have hbl_:bl.length≤6:=by rw [hb];exact ynk t k (by omega)
  have hgl_:=fun z_:k<64=>wbk k z_
  have hgl2_:(LG k).length≤6∨64≤k:=by by_cases z_:k<64;exact .inl (hgl_ z_);exact .inr (by omega)
  refine fsr <| ro (xgw rfl rfl) <| ren ?_
  by_cases cc5:((k:Nat):Int)<((2 ^ t.nH:Nat):Int)
  ·
   refine xdk rfl (dtt cc5) <| xdq <| xej <| xek <| fsr <| ro (xaq (v:=.int .u64 (((k:Nat):Int))) rfl) ?_
   refine rt (xax (v:=.int .u64 (((k:Nat):Int))) rfl) (tm':=zq1 (zq2 (zq4 _))) rfl <| ren <| xbq <| ro (xaq (v:=.int .u64 (((k:Nat):Int))) rfl) ?_
   refine xjq mn (first:=[]) (cap:=[]) rfl rfl fC73 (R:=fun v_ h_=>∃ w6:Value,∃ X7:Pcs,v_=w6∧(OwnS 3 1 w6 (ics (LG k)) X7)∧St h [] p h_ (([(b1,.cells #[.slice a1 t.nH c1,.slice a2 t.nW c2,.slice a3 t.m c3] 25 (0,0))]:Pcs)++(X7++(X1++[])))) (fun h_ H_=>(c73 md _ _ H_.pe k (by omega) Z).mono fun v_ h2_ ⟨w6,X7,e_,o8,N_⟩=>⟨w6,X7,e_,o8,H_.callNA N_⟩) fun v_=>?_
   refine xfv fun w6=>xfv fun X7=>xfz fun ev_=>xfz fun o8=>?_
   have ev_:=ev_.symm;subst ev_
   refine xcj (L':=([(b1,.cells #[.slice a1 t.nH c1,.slice a2 t.nW c2,.slice a3 t.m c3] 25 (0,0))]:Pcs)++(X7++(X1++[]))) rfl ?_
   refine rt (xax (v:=w6) rfl) (tm':=zq8 _) rfl <| ren <| xbq <| ro (xaq (v:=.int .u64 (((k:Nat):Int))) rfl) <| rd (fun h_ H_=>xav H_ tA25 tS25 rfl (i:=0) rfl (vs:=[.slice a1 t.nH c1,.slice a2 t.nW c2,.slice a3 t.m c3]) rfl rfl) ?_
   refine xcx mn (first:=[]) (cap:=[]) rfl rfl fC74 (fun h_ H_=>c74 md _ _ H_.pe _ _ _ _ _ _ t (show TownP _ _ _ _ _ _ _ t from ⟨T.h,T.w,T.y⟩) hO k (by omega) Z) (tm':=zq1 (zq8 (zq16 _))) rfl ?_
   refine ro (xaq (v:=.bool (decide (0<shortN t k))) rfl) ?_
   by_cases cc9:0<shortN t k
   ·
    refine xaw (ms rfl rfl (dtt cc9)) (fun h_ H_=>xaq (v:=w) rfl) rfl ?_
    refine xaw (ms rfl rfl (dtt cc9)) (fun h_ H_=>zcq (C:=bl=[]) o1 hw0 (fun z_ y_=>z_ (wpq y_)) Tryd.underlying22 rfl) (tm':=zq4 (zq8 (zq16 _))) rfl ?_
    refine xaw (ms rfl rfl (dtt cc9)) (fun h_ H_=>xaq (v:=.bool (decide (bl=[]))) rfl) rfl ?_
    by_cases cc10:bl=[]
    ·
     refine rp (mo rfl rfl (dtt cc10)) <| xfq (mo rfl rfl (dtt cc10)) (tm':=zq1 (zq2 (zq4 (zq8 (zq16 _))))) rfl <| rp (mo rfl rfl (dtt cc10)) <| rp (mo rfl rfl (dtt cc10)) <| xfq (mo rfl rfl (dtt cc10)) (tm':=zq1 (zq2 (zq4 (zq8 (zq32 []))))) rfl <| rp (mo rfl rfl (dtt cc10)) ?_
     refine rp (mo rfl rfl (dtt cc10)) <| xfq (mo rfl rfl (dtt cc10)) (tm':=zq1 (zq2 (zq4 (zq8 (zq32 []))))) rfl <| rp (mo rfl rfl (dtt cc10)) <| rp (mo rfl rfl (dtt cc10)) <| xfq (mo rfl rfl (dtt cc10)) (tm':=zq1 (zq2 (zq4 (zq8 (zq32 []))))) rfl ?_
     refine xaw (ms rfl rfl (dtt cc9)) (fun h_ H_=>xbj rfl (dtt cc10) (v:=.bool (true)) rfl) rfl ?_
     refine ro (xbj rfl (dtt cc9) (v:=.bool (true)) rfl) <| xak <| xdk rfl rfl <| xbq <| rt (xaq (v:=w6) rfl) (tm':=zq1 (zq2 (zq4 (zq8 (zq32 []))))) rfl <| ro (xax (v:=w6) rfl) ?_
     refine xak <| xeq <| xbq ?_
     refine ro (xfx rfl rfl (n:=((k+1:Nat):Int)) (wrU (by omega))) ?_
     refine rt (xaq (v:=.int .u64 (((k+1:Nat):Int))) rfl) (tm':=zq2 (zq16 _)) rfl <| xak ?_
     refine xgj (List.Perm.append_left _ (List.perm_append_comm_assoc _ _ _)) ?_
     refine xkv (L':=([(b1,.cells #[.slice a1 t.nH c1,.slice a2 t.nW c2,.slice a3 t.m c3] 25 (0,0))]:Pcs)++(X1++(X7++[]))) rfl ?_
     exact fun h_ H_=>IH4 _ _ (by omega) h_ ⟨k+1,(LG k),w6,X7,rfl,(y_of rfl),(by omega),(by rw [ydw ‹_› (by rw [← hb];first | exact .inl (by assumption) | exact .inr (by assumption))]),(fun z_=>absurd z_ (yjq hO.toOk ‹_›)),o8,H_.dropX⟩
    ·
     refine xaw (ms rfl rfl (dff cc10)) (fun h_ H_=>xaq (v:=w6) rfl) rfl ?_
     refine xaw (ms rfl rfl (dff cc10)) (fun h_ H_=>xuz o8 ((xck _).trans rfl) Tryd.underlying22 rfl) rfl ?_
     refine xaw (ms rfl rfl (dff cc10)) (fun h_ H_=>xaq (v:=w) rfl) (tm':=zq1 (zq2 (zq4 (zq8 (zq32 []))))) rfl ?_
     refine xaw (ms rfl rfl (dff cc10)) (fun h_ H_=>xuz o1 ((xck _).trans rfl) Tryd.underlying22 rfl) rfl ?_
     refine xaw (ms rfl rfl (dff cc10)) (fun h_ H_=>xkw rfl rfl (wr (by omega))) rfl ?_
     refine xaw (ms rfl rfl (dff cc10)) (fun h_ H_=>xaq (v:=w6) rfl) (tm':=zq1 (zq2 (zq4 (zq8 (zq32 []))))) rfl ?_
     refine xaw (ms rfl rfl (dff cc10)) (fun h_ H_=>xaq (v:=w) rfl) rfl ?_
     refine xcx (ms rfl rfl (dff cc10)) (first:=[]) (cap:=[]) rfl rfl fC76 (fun h_ H_=>show CallsX Tryd.prog md 76 #[w6,w] h_ (fun v_ h2_=>v_= .int .i64 (cmpL (LG k) bl)∧Keep h_ h2_) from lend2 (n:=(LG k).length) (n':=bl.length) o8 ((xck _).trans rfl) o1 ((xck _).trans rfl) H_ (fun x_ h_=>by simp at h_ ⊢;rcases h_ with h_ | h_ <;> simp [h_]) fun p_ a_ c_ a2_ c2_ hp_ _ hv_ hv2_ D_ D2_=>by rw [hv_,hv2_];exact c76 md _ _ hp_ _ _ _ _ _ _ (LG k) bl (show Ints _ _ _ (LG k) from D_) (show Ints _ _ _ bl from D2_) (by omega)) rfl ?_
     refine xmj ([(b1,.cells #[.slice a1 t.nH c1,.slice a2 t.nW c2,.slice a3 t.m c3] 25 (0,0))]:Pcs) (ms rfl rfl (dff cc10)) Tryd.underlying22 tS3 tZ3 (Nat.le_of_ble_eq_true rfl) (vs:=[(0,.int .i64 ((((LG k).length:Nat):Int)-((bl.length:Nat):Int))),(1,.int .i64 (cmpL (LG k) bl))]) rfl rfl (es:=[[.int .i64 ((((LG k).length:Nat):Int)-((bl.length:Nat):Int))],[.int .i64 (cmpL (LG k) bl)]]) rfl rfl rfl fun v11 X12 o13=>?_
     refine xgx (tm':=zq1 (zq2 (zq4 (zq8 (zq32 []))))) rfl ?_
     refine xcx (ms rfl rfl (dff cc10)) (first:=[]) (cap:=[]) rfl rfl fC75 (fun h_ H_=>ygw (n:=2) o13 rfl H_ (fun x_ h_=>by simp [h_]) fun p_ a_ c_ hp_ _ hv_ D_=>by rw [hv_];exact c75 md _ _ hp_ _ _ _ ([(((LG k).length:Nat):Int)-((bl.length:Nat):Int),cmpL (LG k) bl]) (show Ints _ _ _ [(((LG k).length:Nat):Int)-((bl.length:Nat):Int),cmpL (LG k) bl] from D_) (by omega)) rfl ?_
     refine xaw (ms rfl rfl (dff cc10)) (fun h_ H_=>xgw rfl rfl) rfl ?_
     refine xaw (ms rfl rfl (dtt cc9)) (fun h_ H_=>xcq rfl (dff cc10) (v:=.bool (decide (orI ([(((LG k).length:Nat):Int)-((bl.length:Nat):Int),cmpL (LG k) bl])<0))) rfl) (tm':=zq1 (zq2 (zq4 (zq8 (zq32 []))))) rfl ?_
     refine ro (xbj rfl (dtt cc9) (v:=.bool (decide (orI ([(((LG k).length:Nat):Int)-((bl.length:Nat):Int),cmpL (LG k) bl])<0))) rfl) <| xak ?_
     by_cases cc14:orI ([(((LG k).length:Nat):Int)-((bl.length:Nat):Int),cmpL (LG k) bl])<0
     ·
      refine xdk rfl (dtt cc14) <| xbq <| ro (xaq (v:=w6) rfl) <| rt (xax (v:=w6) rfl) (tm':=zq2 (zq4 _)) rfl <| xak <| xeq ?_
      refine xbq ?_
      refine ro (xfx rfl rfl (n:=((k+1:Nat):Int)) (wrU (by omega))) ?_
      refine ro (xaq (v:=.int .u64 (((k+1:Nat):Int))) rfl) <| xak ?_
      refine xgj (List.Perm.append_left _ (List.Perm.append_left _ (List.perm_append_comm_assoc _ _ _))) ?_
      refine xkv (L':=([(b1,.cells #[.slice a1 t.nH c1,.slice a2 t.nW c2,.slice a3 t.m c3] 25 (0,0))]:Pcs)++(X12++(X1++(X7++[])))) rfl ?_
      exact fun h_ H_=>IH4 _ _ (by omega) h_ ⟨k+1,(LG k),w6,X7,rfl,(y_of rfl),(by omega),(by rw [ydw ‹_› (by rw [← hb];first | exact .inl (by assumption) | exact .inr (by assumption))]),(fun z_=>absurd z_ (yjq hO.toOk ‹_›)),o8,H_.dropX.dropX⟩
     ·
      refine xcv rfl (dff cc14) <| xdq <| xeq <| xbq ?_
      refine rt (xfx rfl rfl (n:=((k+1:Nat):Int)) (wrU (by omega))) (tm':=zq1 (zq2 (zq4 (zq8 (zq32 []))))) rfl ?_
      refine ro (xaq (v:=.int .u64 (((k+1:Nat):Int))) rfl) <| xak ?_
      exact fun h_ H_=>IH4 _ _ (by omega) h_ ⟨k+1,bl,w,X1,rfl,(y_of rfl),(by omega),(by first | (rw [yeq ‹_›];exact hb) | (rw [ynj (by rw [← hb];assumption) (by rw [← hb];assumption)];exact hb)),hw0,o1,H_.dropX.dropX⟩
   ·
    refine rp (mo rfl rfl (dff cc9)) <| xfq (mo rfl rfl (dff cc9)) (tm':=zq4 (zq8 (zq16 _))) rfl <| rp (mo rfl rfl (dff cc9)) <| rp (xex rfl rfl) <| xfq (xex rfl rfl) (tm':=zq1 (zq2 (zq4 (zq8 (zq16 _))))) rfl <| rp (xex rfl rfl) ?_
    refine rp (xex rfl rfl) <| xfq (xex rfl rfl) (tm':=zq1 (zq2 (zq4 (zq8 (zq32 []))))) rfl <| rp (xex rfl rfl) <| rp (xex rfl rfl) <| xfq (xex rfl rfl) (tm':=zq1 (zq2 (zq4 (zq8 (zq32 []))))) rfl <| rp (xex rfl rfl) ?_
    refine rp (xex rfl rfl) <| xfq (xex rfl rfl) (tm':=zq1 (zq2 (zq4 (zq8 (zq32 []))))) rfl <| rp (mo rfl rfl (dff cc9)) <| ro (xcq rfl (dff cc9) (v:=.bool (false)) rfl) <| xak <| xcv rfl rfl ?_
    refine xdq <| xeq <| xbq ?_
    refine rt (xfx rfl rfl (n:=((k+1:Nat):Int)) (wrU (by omega))) (tm':=zq1 (zq2 (zq4 (zq8 (zq32 []))))) rfl ?_
    refine ro (xaq (v:=.int .u64 (((k+1:Nat):Int))) rfl) <| xak ?_
    exact fun h_ H_=>IH4 _ _ (by omega) h_ ⟨k+1,bl,w,X1,rfl,(y_of rfl),(by omega),(by first | (rw [yeq ‹_›];exact hb) | (rw [ynj (by rw [← hb];assumption) (by rw [← hb];assumption)];exact hb)),hw0,o1,H_.dropX⟩
  ·
   refine xcv rfl (dff cc5) <| xiq rfl <| xej <| fsr <| ro (xaq (v:=w) rfl) <| rt (zcq (C:=bl=[]) o1 hw0 (fun z_ y_=>z_ (wpq y_)) Tryd.underlying22 rfl) (tm':=zq1 (zq2 (zq4 (zq8 (zq32 []))))) rfl ?_
   refine xak ?_
   by_cases cc15:bl=[]
   ·
    refine xdk rfl (dtt cc15) <| fsr <| ro (xax (v:=.slice none 0 0) rfl) <| ro (xax (v:=.int .i64 3) rfl) <| xak ?_
    refine xew Tryd.func25 rfl (vs:=[.slice none 0 0,.int .i64 3]) (fun h_ H_=>⟨.slice none 0 0,_,rfl,rfl,⟨.int .i64 3,_,rfl,rfl,rfl⟩⟩) (v:=.tuple #[.slice none 0 0,.int .i64 3]) rfl ?_
    have e_:k=2 ^ t.nH:=by omega
    have hP_:bl=shortP t:=by rw [hb,e_];rfl
    have hP2_:shortP t=[]:=by rw [← hP_];exact ‹bl=[]›
    exact fun h_ H_=>K _ _ ⟨_,[],by rw [zwz hc_ hP2_],(OwnS.empty _ _).as (by rw [yex hc_,hP2_];rfl),(H_.sub (List.nil_sublist _)).new⟩
   ·
    refine xcv rfl (dff cc15) <| xdq <| fsr <| rt (xaq (v:=w) rfl) (tm':=zq1 (zq2 (zq4 (zq8 (zq32 []))))) rfl <| ro (xax (v:=w) rfl) <| ro (xax (v:=.int .i64 0) rfl) ?_
    refine xak ?_
    refine xew Tryd.func25 rfl (vs:=[w,.int .i64 0]) (fun h_ H_=>⟨w,_,rfl,rfl,⟨.int .i64 0,_,rfl,rfl,rfl⟩⟩) (v:=.tuple #[w,.int .i64 0]) rfl ?_
    have e_:k=2 ^ t.nH:=by omega
    have hP_:bl=shortP t:=by rw [hb,e_];rfl
    have hP2_: ¬ shortP t=[]:=by rw [← hP_];exact ‹¬ bl=[]›
    exact fun h_ H_=>K _ _ ⟨_,_,by rw [zdk hc_ hP2_],o1.as (by rw [yex hc_,hP_]),((H_.dropA).sub (List.sublist_append_left _ _)).new⟩
end Go.Proofs.YtalfgojocdonhaaDoor
namespace Go.Proofs.YtalfgojocdonhaaDoor
open Go.X Go.X.Flow Go.Conc
set_option maxRecDepth 10000
set_option synthInstance.maxSize 2000

set_option maxHeartbeats 1000000
theorem c53 (md:Md) (h:Heap) (p:PHeap) (hp:Per p h) (a1 a2 a3:Option Addr) (c1 c2 c3:Nat) (t:Tn) (T:TownP p a1 t.nH a2 t.nW a3 t.m t) (hn:t.nH≤40∧t.nW≤40∧t.m≤41) (N:NoneP p):CallsX Tryd.prog md 53 #[.agg #[.slice a1 t.nH c1,.slice a2 t.nW c2,.slice a3 t.m c3]] h fun v h'=>∃ w X,v= .tuple #[w,.int .i64 (chkB t)]∧OwnS 3 1 w (ics (helpsC t)) X∧New h h' X:=by
 refine xcw (Φ:=fun h_=>St h [] p h_ []) Tryd.func53 rfl (tm:=zq8 (zq32 [])) rfl ?_ (St.start h _ hp)
 intro c₀ cs Stop K
 refine fsr ?_
 refine xiw mn (v:=.agg #[.slice a1 t.nH c1,.slice a2 t.nW c2,.slice a3 t.m c3]) rfl fun b1=>xcj (L':=[(b1,.cells #[.slice a1 t.nH c1,.slice a2 t.nW c2,.slice a3 t.m c3] 25 (0,0))]) rfl ?_
 refine ro (xax (v:=.slice none 0 0) rfl) <| rt (xax (v:=.int .i64 0) rfl) (tm':=zq4 _) rfl <| ren <| fsr <| rd (fun h_ H_=>xav H_ tA25 tS25 rfl (i:=0) rfl (vs:=[.slice a1 t.nH c1,.slice a2 t.nW c2,.slice a3 t.m c3]) rfl rfl) ?_
 refine xcx mn (first:=[]) (cap:=[]) rfl rfl fC47 (fun h_ H_=>c47 md _ _ H_.pe _ _ _ _ _ _ _ _ _ t (show TownP _ _ _ _ _ _ _ t from ⟨T.h,T.w,T.y⟩) (by omega)) rfl ?_
 refine rt (xax (v:=.int .i64 (chkB t)) rfl) (tm':=zq1 (zq4 _)) rfl <| ren <| xbq <| ro (xaq (v:=.int .i64 (chkB t)) rfl) <| ro (xhw rfl rfl) <| xak ?_
 by_cases cc2:chkB t≠0
 ·
  refine xdk rfl (dtt cc2) <| fsr <| rt (xaq (v:=.int .i64 (chkB t)) rfl) (tm':=zq1 (zq4 (zq8 _))) rfl <| ro (xax (v:=.slice none 0 0) rfl) <| ro (xax (v:=.int .i64 (chkB t)) rfl) <| xak ?_
  refine xew Tryd.func53 rfl (vs:=[.slice none 0 0,.int .i64 (chkB t)]) (fun h_ H_=>⟨.slice none 0 0,_,rfl,rfl,⟨.int .i64 (chkB t),_,rfl,rfl,rfl⟩⟩) (v:=.tuple #[.slice none 0 0,.int .i64 (chkB t)]) rfl ?_
  exact fun h_ H_=>K _ _ ⟨_,[],rfl,(OwnS.empty _ _).as (by rw [helpsC,if_neg ‹_›];rfl),(H_.sub (List.nil_sublist _)).new⟩
 ·
  refine xcv rfl (dff cc2) <| xdq <| xej ?_
  have hc_:chkB t=0:=by omega
  obtain ⟨h12,hV⟩:=ytj hc_
  have hO:OkT t:=xtz hc_
  refine xbq <| rt (xax (v:=.slice none 0 0) rfl) (tm':=zq2 (zq4 _)) rfl <| ren <| fsr <| ro (xaz xnj rfl (a':=⟨b1,1,none⟩) rfl) <| rd (fun h_ H_=>xaj H_ tA22 rfl (i:=0) rfl (v:=.slice a2 t.nW c2) rfl) ?_
  refine rt (xfk Tryd.underlying22 rfl) (tm':=zq16 _) rfl <| ro (xaq (v:=.int .i64 0) rfl) <| xak <| xek ?_
  refine xiv (m₀:=t.nW-0) (fun m_ tm_ h_=>∃ (k:Nat) (w:Value) (X1:Pcs),m_=t.nW-k∧(∃ y3:Nat→Value,tm_=[.agg #[.slice a1 t.nH c1,.slice a2 t.nW c2,.slice a3 t.m c3],.pointer (some ⟨b1,0,none⟩),.slice none 0 0,.int .i64 0,.int .i64 (chkB t),w,(y3 6),(y3 7),.agg #[.slice a1 t.nH c1,.slice a2 t.nW c2,.slice a3 t.m c3],.int .i64 (chkB t),.int .i64 (chkB t),.bool (decide (chkB t≠0)),undef,.pointer (some ⟨b1,1,none⟩),.slice a2 t.nW c2,.int .i64 (((t.nW:Nat):Int)),.int .i64 (((k:Nat):Int)),(y3 17),(y3 18),(y3 19),(y3 20),(y3 21),(y3 22),(y3 23),(y3 24),(y3 25),(y3 26),(y3 27),(y3 28),(y3 29),(y3 30),(y3 31),(y3 32),(y3 33),(y3 34),(y3 35),(y3 36),(y3 37),(y3 38),undef])∧(k≤t.nW)∧(OwnS 3 1 w (ics (helpsF t k)) X1)∧St h [] p h_ (([(b1,.cells #[.slice a1 t.nH c1,.slice a2 t.nW c2,.slice a3 t.m c3] 25 (0,0))]:Pcs)++(X1++[]))) (fun h_ H_=>⟨0,(.slice none 0 0),[],rfl,(y_of rfl),Nat.zero_le _,(OwnS.empty _ _),H_⟩) ?_
  intro m_ tm_ IH4
  refine xij fun k=>xij fun w=>xij fun X1=>xdz fun hm_=>xdz fun ht_=>xdz fun hk=>xdz fun o1=>?_
  subst hm_;obtain ⟨y3,ht_⟩:=ht_;subst ht_
  refine fsr <| ro (xgw rfl rfl) <| ren ?_
  by_cases cc5:((k:Nat):Int)<((t.nW:Nat):Int)
  ·
   refine xdk rfl (dtt cc5) <| xdq <| xej <| xek <| fsr <| rt (xaq (v:=.int .i64 (((k:Nat):Int))) rfl) (tm':=zq1 (zq2 (zq16 _))) rfl ?_
   refine ro (xax (v:=.int .i64 (((k:Nat):Int))) rfl) <| ren <| xbq <| rd (fun h_ H_=>xav H_ tA25 tS25 rfl (i:=0) rfl (vs:=[.slice a1 t.nH c1,.slice a2 t.nW c2,.slice a3 t.m c3]) rfl rfl) ?_
   refine xkz mn tZ25 rfl fun b6=>xcj (L':=([(b6,.cells #[.slice none 0 0,.slice none 0 0,.slice none 0 0] 25 (0,0)),(b1,.cells #[.slice a1 t.nH c1,.slice a2 t.nW c2,.slice a3 t.m c3] 25 (0,0))]:Pcs)++(X1++[])) rfl ?_
   refine xgx (tm':=zq8 _) rfl ?_
   refine xjk mn tS25 rfl (v:=.agg #[.slice a1 t.nH c1,.slice a2 t.nW c2,.slice a3 t.m c3]) rfl (i:=0) rfl rfl rfl (Nat.le_of_ble_eq_true rfl) (cs2:=[.slice a1 t.nH c1,.slice a2 t.nW c2,.slice a3 t.m c3]) rfl (xcj (L':=([(b6,.cells #[.slice a1 t.nH c1,.slice a2 t.nW c2,.slice a3 t.m c3] 25 (0,0)),(b1,.cells #[.slice a1 t.nH c1,.slice a2 t.nW c2,.slice a3 t.m c3] 25 (0,0))]:Pcs)++(X1++[])) rfl ?_)
   refine ren <| xbq <| ro (xaz xnj rfl (a':=⟨b1,1,none⟩) rfl) <| rd (fun h_ H_=>xaj H_ tA22 rfl (i:=1) rfl (v:=.slice a2 t.nW c2) rfl) ?_
   refine xjq mn (first:=[]) (cap:=[]) rfl rfl fC93 (R:=fun v_ h_=>∃ w7:Value,∃ X8:Pcs,v_=w7∧(OwnS 3 1 w7 (ics t.ws) X8)∧St h [] p h_ (([(b6,.cells #[.slice a1 t.nH c1,.slice a2 t.nW c2,.slice a3 t.m c3] 25 (0,0)),(b1,.cells #[.slice a1 t.nH c1,.slice a2 t.nW c2,.slice a3 t.m c3] 25 (0,0))]:Pcs)++(X8++(X1++[])))) (fun h_ H_=>(c93 md _ _ H_.pe _ _ _ _ T.w (by omega)).mono fun v_ h2_ ⟨w7,X8,e_,o9,N_⟩=>⟨w7,X8,e_,o9,H_.callNA N_⟩) fun v_=>?_
   refine xfv fun w7=>xfv fun X8=>xfz fun ev_=>xfz fun o9=>?_
   have ev_:=ev_.symm;subst ev_
   refine xcj (L':=([(b6,.cells #[.slice a1 t.nH c1,.slice a2 t.nW c2,.slice a3 t.m c3] 25 (0,0)),(b1,.cells #[.slice a1 t.nH c1,.slice a2 t.nW c2,.slice a3 t.m c3] 25 (0,0))]:Pcs)++(X8++(X1++[]))) rfl ?_
   refine xgx (tm':=zq1 (zq2 (zq4 (zq16 _)))) rfl ?_
   refine ro (xaz xnj rfl (a':=⟨b6,1,none⟩) rfl) ?_
   refine xpv mn tS22 rfl (v:=w7) rfl o9.one (i:=0) rfl (Nat.succ_le_iff.1 (Nat.le_of_ble_eq_true rfl)) (cs2:=[.slice a1 t.nH c1,w7,.slice a3 t.m c3]) rfl (xcj (L':=([(b6,.cells #[.slice a1 t.nH c1,w7,.slice a3 t.m c3] 25 (0,0)),(b1,.cells #[.slice a1 t.nH c1,.slice a2 t.nW c2,.slice a3 t.m c3] 25 (0,0))]:Pcs)++(X8++(X1++[]))) rfl ?_)
   refine ren <| xbq <| ro (xaz xnj rfl (a':=⟨b6,1,none⟩) rfl) ?_
   refine xaw mn (fun h_ H_=>xaj H_ tA22 rfl (i:=0) rfl (v:=w7) rfl) (tm':=zq2 (zq8 (zq16 _))) rfl ?_
   refine ro (xaq (v:=.int .i64 (((k:Nat):Int))) rfl) ?_
   refine ro (xhz o9 Tryd.underlying22 tS3 rfl rfl (by rw [(show (ics t.ws).length=t.nW from xck _)];first | omega | (simp only [List.length_set];omega))) ?_
   refine xaw mn (fun h_ H_=>xnx (A:=([(b6,.cells #[.slice a1 t.nH c1,w7,.slice a3 t.m c3] 25 (0,0)),(b1,.cells #[.slice a1 t.nH c1,.slice a2 t.nW c2,.slice a3 t.m c3] 25 (0,0))]:Pcs)) (i:=k) (j:=0) (e:=[.int .i64 ((t.ws).getD k 0)]) o9 H_ tA3 rfl rfl (xpj (show k<t.nW from by omega)) (u:=.int .i64 ((t.ws).getD k 0)) rfl) (tm':=zq8 (zq32 [])) rfl ?_
   refine ro (xfx rfl rfl (wr (by have z_:=hV.w k (by omega);omega))) ?_
   refine ro (xhz o9 Tryd.underlying22 tS3 rfl rfl (by rw [(show (ics t.ws).length=t.nW from xck _)];first | omega | (simp only [List.length_set];omega))) ?_
   refine xsz (A:=([(b6,.cells #[.slice a1 t.nH c1,w7,.slice a3 t.m c3] 25 (0,0)),(b1,.cells #[.slice a1 t.nH c1,.slice a2 t.nW c2,.slice a3 t.m c3] 25 (0,0))]:Pcs)) (i:=k) (j:=0) (e:=[.int .i64 ((t.ws).getD k 0)]) (u:=.int .i64 (((t.ws).getD k 0)+1)) o9 mn tS3 rfl rfl rfl ⟨rfl,rfl⟩ (xpj (show k<t.nW from by omega)) (Nat.succ_le_iff.1 (Nat.le_of_ble_eq_true rfl)) fun X10 o11=>?_
   have o12:OwnS 3 1 w7 (ics (t.ws.set k (((t.ws).getD k 0)+1))) X10:=o11.as xwj
   refine ren <| xbq ?_
   refine xaw mn (fun h_ H_=>xav H_ tA25 tS25 rfl (i:=0) rfl (vs:=[.slice a1 t.nH c1,w7,.slice a3 t.m c3]) rfl rfl) (tm':=zq8 (zq32 [])) rfl ?_
   refine rd (fun h_ H_=>xav H_ tA25 tS25 rfl (i:=1) rfl (vs:=[.slice a1 t.nH c1,.slice a2 t.nW c2,.slice a3 t.m c3]) rfl rfl) ?_
   refine xzq (A:=([(b6,.cells #[.slice a1 t.nH c1,w7,.slice a3 t.m c3] 25 (0,0)),(b1,.cells #[.slice a1 t.nH c1,.slice a2 t.nW c2,.slice a3 t.m c3] 25 (0,0))]:Pcs)) o12 (show (ics (pour t k).ws).length=(pour t k).nW from xck _) fun p13 a14 cp15 le16 ev_ D17=>?_
   subst ev_
   refine xcx mn (first:=[]) (cap:=[]) rfl rfl fC94 (fun h_ H_=>c94 md _ _ H_.pe _ _ _ _ _ _ (pour t k) (show TownP _ _ (pour t k).nH _ (pour t k).nW _ (pour t k).m (pour t k) from ⟨(T.h.mono le16),(show Ints _ _ _ (pour t k).ws from D17),(T.y.mono le16)⟩) (wvx hV (by omega) (by omega)) _ _ _ _ _ _ t (show TownP _ _ _ _ _ _ _ t from ⟨(T.h.mono le16),(T.w.mono le16),(T.y.mono le16)⟩) hO (N.mono le16)) rfl ?_
   refine xak ?_
   by_cases cc18:cmpL (LK (pour t k)) (LK t)<0
   ·
    refine xdk rfl (dtt cc18) <| xbq <| rt (xaq (v:=w) rfl) (tm':=zq8 (zq32 [])) rfl <| ro (xaq (v:=.int .i64 (((k:Nat):Int))) rfl) ?_
    refine xmj ([(b6,.cells #[.slice a1 t.nH c1,.slice a14 ((pour t k).nW) cp15,.slice a3 t.m c3] 25 (0,0)),(b1,.cells #[.slice a1 t.nH c1,.slice a2 t.nW c2,.slice a3 t.m c3] 25 (0,0))]:Pcs) mn Tryd.underlying22 tS3 tZ3 (Nat.le_of_ble_eq_true rfl) (vs:=[(0,.int .i64 (((k:Nat):Int)))]) rfl rfl (es:=[[.int .i64 (((k:Nat):Int))]]) rfl rfl rfl fun v19 X20 o21=>?_
    refine xlw (List.Perm.append_left _ (List.perm_append_comm_assoc _ _ _)) ?_
    refine xcj (L':=([(b6,.cells #[.slice a1 t.nH c1,.slice a14 ((pour t k).nW) cp15,.slice a3 t.m c3] 25 (0,0)),(b1,.cells #[.slice a1 t.nH c1,.slice a2 t.nW c2,.slice a3 t.m c3] 25 (0,0))]:Pcs)++(X1++(X20++[]))) rfl ?_
    refine xrv ([(b6,.cells #[.slice a1 t.nH c1,.slice a14 ((pour t k).nW) cp15,.slice a3 t.m c3] 25 (0,0)),(b1,.cells #[.slice a1 t.nH c1,.slice a2 t.nW c2,.slice a3 t.m c3] 25 (0,0))]:Pcs) X1 X20 mn Tryd.underlying22 tS3 tZ3 rfl tB3 Tryd.underlying22 rfl rfl o1 o21 (xxv rfl) (by rw [xck];have z_:=yox (t:=t) (k:=k);simp only [List.length_cons,List.length_nil];omega) (by decide) fun v22 X23 o24=>?_
    have o25:OwnS 3 1 v22 (ics (helpsF t (k+1))) X23:=o24.as ((zzx _ _).trans (congrArg ics (wew ‹_›).symm))
    refine xgx (tm':=zq8 (zq32 [])) rfl ?_
    refine ro (xax (v:=v22) rfl) <| xak <| xeq <| xbq ?_
    refine ro (xfx rfl rfl (n:=((k+1:Nat):Int)) (wr (by omega))) ?_
    refine rt (xaq (v:=.int .i64 (((k+1:Nat):Int))) rfl) (tm':=zq1 (zq16 _)) rfl <| xak ?_
    exact fun h_ H_=>IH4 _ _ (by omega) h_ ⟨k+1,v22,X23,rfl,(y_of rfl),(by omega),o25,(H_.forget le16).drop⟩
   ·
    refine xcv rfl (dff cc18) <| xdq <| xeq <| xbq ?_
    refine ro (xfx rfl rfl (n:=((k+1:Nat):Int)) (wr (by omega))) ?_
    refine ro (xaq (v:=.int .i64 (((k+1:Nat):Int))) rfl) <| xak ?_
    exact fun h_ H_=>IH4 _ _ (by omega) h_ ⟨k+1,w,X1,rfl,(y_of rfl),(by omega),(o1.as (by rw [wpx ‹_›])),(H_.forget le16).drop⟩
  ·
   refine xcv rfl (dff cc5) <| xiq rfl <| fsr <| rt (xaq (v:=w) rfl) (tm':=zq8 (zq32 [])) rfl <| ro (xax (v:=w) rfl) <| ro (xax (v:=.int .i64 0) rfl) ?_
   refine xak ?_
   refine xew Tryd.func53 rfl (vs:=[w,.int .i64 0]) (fun h_ H_=>⟨w,_,rfl,rfl,⟨.int .i64 0,_,rfl,rfl,rfl⟩⟩) (v:=.tuple #[w,.int .i64 0]) rfl ?_
   have e_:k=t.nW:=by omega
   exact fun h_ H_=>K _ _ ⟨_,_,by rw [hc_],o1.as (by rw [helpsC,if_pos hc_,e_]),((H_.dropA).sub (List.sublist_append_left _ _)).new⟩
theorem c55 (md:Md) (h:Heap) (p:PHeap) (hp:Per p h) (a1 a2 a3:Option Addr) (c1 c2 c3:Nat) (t:Tn) (T:TownP p a1 t.nH a2 t.nW a3 t.m t) (hn:t.nH≤40∧t.nW≤40∧t.m≤41) (hcap:t.m≤c3) (x y:Int) (N:NoneP p):CallsX Tryd.prog md 55 #[.agg #[.slice a1 t.nH c1,.slice a2 t.nW c2,.slice a3 t.m c3],.int .i64 (x),.int .i64 (y)] h fun v h'=>v= .tuple #[.bool (wayB t x y),.int .i64 (wayE t x y)]∧Keep h h':=by
 refine xcw (Φ:=fun h_=>St h [] p h_ []) Tryd.func55 rfl (tm:=zq16 (zq32 [])) rfl ?_ (St.start h _ hp)
 intro c₀ cs Stop K
 refine fsr ?_
 refine xiw mn (v:=.agg #[.slice a1 t.nH c1,.slice a2 t.nW c2,.slice a3 t.m c3]) rfl fun b1=>xcj (L':=[(b1,.cells #[.slice a1 t.nH c1,.slice a2 t.nW c2,.slice a3 t.m c3] 25 (0,0))]) rfl ?_
 refine xgx (tm':=zq4 _) rfl ?_
 refine ro (xax (v:=.bool (false)) rfl) <| ro (xax (v:=.int .i64 0) rfl) <| ren <| xej ?_
 by_cases cc2:0≤x∧x≤(t.nH:Int)-1
 ·
  refine xfw 9 [[],[],[],[1,2],[1,2,3],[],[1,2,3],[1,2,3,5,6],[1,2,3,4,5,6],[],[]] xlq (by kernel_rfl) (Nat.le_of_ble_eq_true rfl) ?_
  refine xbz mn (fun h_ H_=>xav H_ tA25 tS25 rfl (i:=0) rfl (vs:=[.slice a1 t.nH c1,.slice a2 t.nW c2,.slice a3 t.m c3]) rfl rfl) (tm':=zq4 (zq8 _)) rfl ?_
  refine wd (fun h_ H_=>xav H_ tA25 tS25 rfl (i:=0) rfl (vs:=[.slice a1 t.nH c1,.slice a2 t.nW c2,.slice a3 t.m c3]) rfl rfl) <| wt (xaq (v:=.int .i64 (x)) rfl) (tm':=zq2 (zq4 (zq8 _))) rfl ?_
  refine xik mn (first:=[]) (cap:=[]) rfl rfl fC65 (fun h_ H_=>(c65 md _ _ H_.pe _ _ _ _ _ _ _ _ _ t (show TownP _ _ _ _ _ _ _ t from ⟨T.h,T.w,T.y⟩) (by omega) (x)).mono fun v_ h2_ ⟨e_,k_⟩=>⟨e_,H_.call k_⟩) rfl ?_
  refine wt (xaq (v:=.bool (decide (0≤x∧x≤(t.nH:Int)-1))) rfl) (tm':=zq16 _) rfl ?_
  refine xbz (ms rfl rfl (dtt cc2)) (fun h_ H_=>xav H_ tA25 tS25 rfl (i:=0) rfl (vs:=[.slice a1 t.nH c1,.slice a2 t.nW c2,.slice a3 t.m c3]) rfl rfl) rfl ?_
  refine xbz (ms rfl rfl (dtt cc2)) (fun h_ H_=>xaq (v:=.int .i64 (y)) rfl) (tm':=zq2 (zq16 _)) rfl ?_
  refine xik (ms rfl rfl (dtt cc2)) (first:=[]) (cap:=[]) rfl rfl fC70 (fun h_ H_=>(c70 md _ _ H_.pe _ _ _ _ _ _ _ _ _ t (show TownP _ _ _ _ _ _ _ t from ⟨T.h,T.w,T.y⟩) (by omega) (y)).mono fun v_ h2_ ⟨e_,k_⟩=>⟨e_,H_.call k_⟩) rfl ?_
  refine wt (xbj rfl (dtt cc2) (v:=.bool (decide (0≤y∧y≤(t.nW:Int)-1))) rfl) (tm':=zq4 (zq16 _)) rfl ?_
  refine xiz rfl ?_
  refine xcx mn (first:=[]) (cap:=[]) rfl rfl fC64 (fun h_ H_=>c64 md _ _ H_.pe _ _ _ _ _ _ _ _ _ t (show TownP _ _ _ _ _ _ _ t from ⟨T.h,T.w,T.y⟩) (by omega) (decide (0≤y∧y≤(t.nW:Int)-1))) rfl ?_
  refine rt (xax (v:=.int .i64 (askB t (decide (0≤y∧y≤(t.nW:Int)-1)))) rfl) (tm':=zq1 (zq8 _)) rfl <| ren <| xbq <| ro (xaq (v:=.int .i64 (askB t (decide (0≤y∧y≤(t.nW:Int)-1)))) rfl) <| ro (xhw rfl rfl) <| xak ?_
  by_cases cc3:askB t (decide (0≤y∧y≤(t.nW:Int)-1))≠0
  ·
   refine xdk rfl (dtt cc3) <| fsr <| rt (xaq (v:=.int .i64 (askB t (decide (0≤y∧y≤(t.nW:Int)-1)))) rfl) (tm':=zq8 (zq16 _)) rfl <| ro (xax (v:=.bool (false)) rfl) <| ro (xax (v:=.int .i64 (askB t (decide (0≤y∧y≤(t.nW:Int)-1)))) rfl) <| xak ?_
   refine xew Tryd.func55 rfl (vs:=[.bool (false),.int .i64 (askB t (decide (0≤y∧y≤(t.nW:Int)-1)))]) (fun h_ H_=>⟨.bool (false),_,rfl,rfl,⟨.int .i64 (askB t (decide (0≤y∧y≤(t.nW:Int)-1))),_,rfl,rfl,rfl⟩⟩) (v:=.tuple #[.bool (false),.int .i64 (askB t (decide (0≤y∧y≤(t.nW:Int)-1)))]) rfl ?_
   have ha_:=zpk (t:=t) (x:=x) (y:=y) ‹_›
   have hn_: ¬ wayA t x y=0:=by rw [ha_];assumption
   exact fun h_ H_=>K _ _ ⟨by rw [wiq hn_,whv hn_,ha_],H_.kept⟩
  ·
   refine xcv rfl (dff cc3) <| xdq <| xej ?_
   have ha0_:wayA t x y=0:=by rw [zpk (by assumption)];omega
   obtain ⟨hc_,hx_,hy_⟩:=wiz ha0_
   obtain ⟨h12,hV⟩:=ytj hc_
   have hO:OkT t:=xtz hc_
   refine xbq <| rt (xaq (v:=.int .i64 (x)) rfl) (tm':=zq1 (zq8 (zq16 _))) rfl <| ro (xaq (v:=.int .i64 (y)) rfl) <| ro (xjv tZ43 tP43 (vs:=[(0,.int .i64 (x)),(1,.int .i64 (y))]) rfl (cells:=#[.int .i64 (x),.int .i64 (y)]) rfl) ?_
   refine xkz mn tZ43 rfl fun b4=>xcj (L':=[(b4,.cells #[.int .i64 0,.int .i64 0] 43 (0,0)),(b1,.cells #[.slice a1 t.nH c1,.slice a2 t.nW c2,.slice a3 t.m c3] 25 (0,0))]) rfl ?_
   refine xgx (tm':=zq2 (zq8 _)) rfl ?_
   refine xjk mn tS43 rfl (v:=.agg #[.int .i64 (x),.int .i64 (y)]) rfl (i:=0) rfl rfl rfl (Nat.le_of_ble_eq_true rfl) (cs2:=[.int .i64 (x),.int .i64 (y)]) rfl (xcj (L':=[(b4,.cells #[.int .i64 (x),.int .i64 (y)] 43 (0,0)),(b1,.cells #[.slice a1 t.nH c1,.slice a2 t.nW c2,.slice a3 t.m c3] 25 (0,0))]) rfl ?_)
   refine ren <| fsr <| ro (xaz xhv rfl (a':=⟨b1,2,none⟩) rfl) <| rd (fun h_ H_=>xaj H_ tA23 rfl (i:=1) rfl (v:=.slice a3 t.m c3) rfl) ?_
   refine xaw mn (fun h_ H_=>xav H_ tA43 tS43 rfl (i:=0) rfl (vs:=[.int .i64 (x),.int .i64 (y)]) rfl rfl) (tm':=zq2 (zq4 (zq8 (zq16 _)))) rfl ?_
   refine xcx mn (first:=[]) (cap:=[]) rfl rfl fC95 (fun h_ H_=>c95 md _ _ H_.pe _ _ _ _ T.y (by omega) (x) (y)) rfl ?_
   refine xak ?_
   by_cases cc5:((x,y):FWay)∈t.wy
   ·
    refine xdk rfl (dtt cc5) <| fsr <| ro (xax (v:=.bool (false)) rfl) <| rt (xax (v:=.int .i64 3) rfl) (tm':=zq8 _) rfl <| xak ?_
    refine xew Tryd.func55 rfl (vs:=[.bool (false),.int .i64 3]) (fun h_ H_=>⟨.bool (false),_,rfl,rfl,⟨.int .i64 3,_,rfl,rfl,rfl⟩⟩) (v:=.tuple #[.bool (false),.int .i64 3]) rfl ?_
    exact fun h_ H_=>K _ _ ⟨by rw [vcq ‹_›,vbw ha0_ ‹_›],H_.kept⟩
   ·
    refine xcv rfl (dff cc5) <| xdq <| fsr <| rd (fun h_ H_=>xav H_ tA25 tS25 rfl (i:=1) rfl (vs:=[.slice a1 t.nH c1,.slice a2 t.nW c2,.slice a3 t.m c3]) rfl rfl) ?_
    refine xkz mn tZ25 rfl fun b6=>xcj (L':=[(b6,.cells #[.slice none 0 0,.slice none 0 0,.slice none 0 0] 25 (0,0)),(b4,.cells #[.int .i64 (x),.int .i64 (y)] 43 (0,0)),(b1,.cells #[.slice a1 t.nH c1,.slice a2 t.nW c2,.slice a3 t.m c3] 25 (0,0))]) rfl ?_
    refine xjk mn tS25 rfl (v:=.agg #[.slice a1 t.nH c1,.slice a2 t.nW c2,.slice a3 t.m c3]) rfl (i:=0) rfl rfl rfl (Nat.le_of_ble_eq_true rfl) (cs2:=[.slice a1 t.nH c1,.slice a2 t.nW c2,.slice a3 t.m c3]) rfl (xcj (L':=[(b6,.cells #[.slice a1 t.nH c1,.slice a2 t.nW c2,.slice a3 t.m c3] 25 (0,0)),(b4,.cells #[.int .i64 (x),.int .i64 (y)] 43 (0,0)),(b1,.cells #[.slice a1 t.nH c1,.slice a2 t.nW c2,.slice a3 t.m c3] 25 (0,0))]) rfl ?_)
    refine ren ?_
    refine ybx (xnq (C:=[]) (A:=([(b6,.cells #[.slice a1 t.nH c1,.slice a2 t.nW c2,.slice a3 t.m c3] 25 (0,0)),(b4,.cells #[.int .i64 (x),.int .i64 (y)] 43 (0,0)),(b1,.cells #[.slice a1 t.nH c1,.slice a2 t.nW c2,.slice a3 t.m c3] 25 (0,0))]:Pcs)) 11 [[],[0],[],[2],[2,3],[],[5],[5,6],[0,1,2,3,4,5,6,7],[],[9],[],[],[]] [] [10] [0,1,2,3,4,5,6,7,8,9] (fun _=>[]) (fun _=>[]) (fun i_=>match i_ with | 0=>[] | 1=>[0] | 2=>[] | 3=>[2] | 4=>[3] | 5=>[] | 6=>[5] | 7=>[6] | 8=>[1,4,7] | 9=>[] | 10=>[9] | _=>[]) (fun i_ val_ pc_ v_ x_=>match i_ with | 0=>v_= .pointer (some ⟨b1,2,none⟩)∧x_=[] | 1=>v_= .slice a3 t.m c3∧x_=[] | 2=>v_= .pointer (some ⟨b1,2,none⟩)∧x_=[] | 3=>v_= .slice a3 t.m c3∧x_=[] | 4=>v_= .int .i64 (((t.m:Nat):Int))∧x_=[] | 5=>v_= .pointer (some ⟨b1,2,none⟩)∧x_=[] | 6=>v_= .slice a3 t.m c3∧x_=[] | 7=>v_= .int .i64 (((t.m:Nat):Int))∧x_=[] | 8=>v_= .slice a3 t.m t.m∧x_=[] | 9=>v_= .agg #[.int .i64 (x),.int .i64 (y)]∧x_=[] | 10=>OwnS 43 2 v_ [[.int .i64 (x),.int .i64 (y)]] x_ | _=>True) (fun val7=>[.agg #[.slice a1 t.nH c1,.slice a2 t.nW c2,.slice a3 t.m c3],.int .i64 (x),.int .i64 (y),.pointer (some ⟨b1,0,none⟩),undef,undef,.bool (false),.int .i64 0,.int .i64 (askB t (decide (0≤y∧y≤(t.nW:Int)-1))),.pointer (some ⟨b4,0,none⟩),.pointer (some ⟨b6,0,none⟩),.agg #[.slice a1 t.nH c1,.slice a2 t.nW c2,.slice a3 t.m c3],.agg #[.slice a1 t.nH c1,.slice a2 t.nW c2,.slice a3 t.m c3],.int .i64 (x),.bool (decide (0≤x∧x≤(t.nH:Int)-1)),.bool (decide (0≤x∧x≤(t.nH:Int)-1)),.agg #[.slice a1 t.nH c1,.slice a2 t.nW c2,.slice a3 t.m c3],.int .i64 (y),.bool (decide (0≤y∧y≤(t.nW:Int)-1)),.bool (decide (0≤y∧y≤(t.nW:Int)-1)),.int .i64 (askB t (decide (0≤y∧y≤(t.nW:Int)-1))),.int .i64 (askB t (decide (0≤y∧y≤(t.nW:Int)-1))),.bool (decide (askB t (decide (0≤y∧y≤(t.nW:Int)-1))≠0)),undef,.int .i64 (x),.int .i64 (y),.agg #[.int .i64 (x),.int .i64 (y)],.pointer (some ⟨b1,2,none⟩),.slice a3 t.m c3,.agg #[.int .i64 (x),.int .i64 (y)],.bool (decide (((x,y):FWay)∈t.wy)),.agg #[.slice a1 t.nH c1,.slice a2 t.nW c2,.slice a3 t.m c3],(val7 0),(val7 1),(val7 2),(val7 3),(val7 4),(val7 5),(val7 6),(val7 7),(val7 8),(val7 9),(val7 10),undef,undef,undef,undef,undef]) xlq (by kernel_rfl) (Nat.le_of_ble_eq_true rfl) (by kernel_rfl) (by kernel_rfl) (by kernel_rfl) (fun _ _=>⟨fun _ _ h=>h.2,⟨fun _ _ h=>h.2,⟨fun _ _ h=>h.2,⟨fun _ _ h=>h.2,⟨fun _ _ h=>h.2,⟨fun _ _ h=>h.2,⟨fun _ _ h=>h.2,⟨fun _ _ h=>h.2,⟨fun _ _ h=>h.2,⟨fun _ _ h=>h.2,trivial⟩⟩⟩⟩⟩⟩⟩⟩⟩⟩) (fun _=>by kernel_rfl) (by kernel_rfl) ?_ ?_) (fun h_ H_=>St.swap (A:=([(b6,.cells #[.slice a1 t.nH c1,.slice a2 t.nW c2,.slice a3 t.m c3] 25 (0,0)),(b4,.cells #[.int .i64 (x),.int .i64 (y)] 43 (0,0)),(b1,.cells #[.slice a1 t.nH c1,.slice a2 t.nW c2,.slice a3 t.m c3] 25 (0,0))]:Pcs)) (U:=[]) H_)
    ·
     refine xbx rfl (xez ?_) ?_
     ·
      intro val7 pc8 hQ_ hX_
      obtain ⟨q_,hq0_⟩: ∃ q_:Value→Pcs→Prop,q_=(fun v_ x_=>v_= .pointer (some ⟨b1,2,none⟩)∧x_=[]):=⟨_,rfl⟩
      refine ⟨(zq16 (zq32 [])),[],q_,rfl,rfl,(fun _ _ z_=>by subst hq0_;exact z_),?_⟩
      subst hq0_
      exact xdw mn (fun _ h_ H_=>xaz xhv rfl (a':=⟨b1,2,none⟩) rfl) ⟨rfl,rfl⟩
     refine xbx rfl (xez ?_) ?_
     ·
      intro val7 pc8 hQ_ hX_
      have e0_:val7 0= .pointer (some ⟨b1,2,none⟩):=(hQ_ 0 rfl).1
      obtain ⟨q_,hq0_⟩: ∃ q_:Value→Pcs→Prop,q_=(fun v_ x_=>v_= .slice a3 t.m c3∧x_=[]):=⟨_,rfl⟩
      refine ⟨(zq16 (zq32 [])),[],q_,(by rw [e0_]),rfl,(fun _ _ z_=>by subst hq0_;exact z_),?_⟩
      subst hq0_
      exact xdw mn (fun _ h_ H_=>xaj H_ tA23 rfl (i:=2) rfl (v:=.slice a3 t.m c3) rfl) ⟨rfl,rfl⟩
     refine xbx rfl (xez ?_) ?_
     ·
      intro val7 pc8 hQ_ hX_
      obtain ⟨q_,hq0_⟩: ∃ q_:Value→Pcs→Prop,q_=(fun v_ x_=>v_= .pointer (some ⟨b1,2,none⟩)∧x_=[]):=⟨_,rfl⟩
      refine ⟨(zq16 (zq32 [])),[],q_,rfl,rfl,(fun _ _ z_=>by subst hq0_;exact z_),?_⟩
      subst hq0_
      exact xdw mn (fun _ h_ H_=>xaz xhv rfl (a':=⟨b1,2,none⟩) rfl) ⟨rfl,rfl⟩
     refine xbx rfl (xez ?_) ?_
     ·
      intro val7 pc8 hQ_ hX_
      have e2_:val7 2= .pointer (some ⟨b1,2,none⟩):=(hQ_ 2 rfl).1
      obtain ⟨q_,hq0_⟩: ∃ q_:Value→Pcs→Prop,q_=(fun v_ x_=>v_= .slice a3 t.m c3∧x_=[]):=⟨_,rfl⟩
      refine ⟨(zq16 (zq32 [])),[],q_,(by rw [e2_]),rfl,(fun _ _ z_=>by subst hq0_;exact z_),?_⟩
      subst hq0_
      exact xdw mn (fun _ h_ H_=>xaj H_ tA23 rfl (i:=2) rfl (v:=.slice a3 t.m c3) rfl) ⟨rfl,rfl⟩
     refine xbx rfl (xez ?_) ?_
     ·
      intro val7 pc8 hQ_ hX_
      have e3_:val7 3= .slice a3 t.m c3:=(hQ_ 3 rfl).1
      obtain ⟨q_,hq0_⟩: ∃ q_:Value→Pcs→Prop,q_=(fun v_ x_=>v_= .int .i64 (((t.m:Nat):Int))∧x_=[]):=⟨_,rfl⟩
      refine ⟨(zq16 (zq32 [])),[],q_,(by rw [e3_]),rfl,(fun _ _ z_=>by subst hq0_;exact z_),?_⟩
      subst hq0_
      exact xdw mn (fun _ h_ H_=>xfk Tryd.underlying23 rfl) ⟨rfl,rfl⟩
     refine xbx rfl (xez ?_) ?_
     ·
      intro val7 pc8 hQ_ hX_
      obtain ⟨q_,hq0_⟩: ∃ q_:Value→Pcs→Prop,q_=(fun v_ x_=>v_= .pointer (some ⟨b1,2,none⟩)∧x_=[]):=⟨_,rfl⟩
      refine ⟨(zq16 (zq32 [])),[],q_,rfl,rfl,(fun _ _ z_=>by subst hq0_;exact z_),?_⟩
      subst hq0_
      exact xdw mn (fun _ h_ H_=>xaz xhv rfl (a':=⟨b1,2,none⟩) rfl) ⟨rfl,rfl⟩
     refine xbx rfl (xez ?_) ?_
     ·
      intro val7 pc8 hQ_ hX_
      have e5_:val7 5= .pointer (some ⟨b1,2,none⟩):=(hQ_ 5 rfl).1
      obtain ⟨q_,hq0_⟩: ∃ q_:Value→Pcs→Prop,q_=(fun v_ x_=>v_= .slice a3 t.m c3∧x_=[]):=⟨_,rfl⟩
      refine ⟨(zq16 (zq32 [])),[],q_,(by rw [e5_]),rfl,(fun _ _ z_=>by subst hq0_;exact z_),?_⟩
      subst hq0_
      exact xdw mn (fun _ h_ H_=>xaj H_ tA23 rfl (i:=2) rfl (v:=.slice a3 t.m c3) rfl) ⟨rfl,rfl⟩
     refine xbx rfl (xez ?_) ?_
     ·
      intro val7 pc8 hQ_ hX_
      have e6_:val7 6= .slice a3 t.m c3:=(hQ_ 6 rfl).1
      obtain ⟨q_,hq0_⟩: ∃ q_:Value→Pcs→Prop,q_=(fun v_ x_=>v_= .int .i64 (((t.m:Nat):Int))∧x_=[]):=⟨_,rfl⟩
      refine ⟨(zq16 (zq32 [])),[],q_,(by rw [e6_]),rfl,(fun _ _ z_=>by subst hq0_;exact z_),?_⟩
      subst hq0_
      exact xdw mn (fun _ h_ H_=>xfk Tryd.underlying23 rfl) ⟨rfl,rfl⟩
     refine xbx rfl (xez ?_) ?_
     ·
      intro val7 pc8 hQ_ hX_
      have e1_:val7 1= .slice a3 t.m c3:=(hQ_ 1 rfl).1
      have e4_:val7 4= .int .i64 (((t.m:Nat):Int)):=(hQ_ 4 rfl).1
      have e7_:val7 7= .int .i64 (((t.m:Nat):Int)):=(hQ_ 7 rfl).1
      obtain ⟨q_,hq0_⟩: ∃ q_:Value→Pcs→Prop,q_=(fun v_ x_=>v_= .slice a3 t.m t.m∧x_=[]):=⟨_,rfl⟩
      refine ⟨(zq16 (zq32 [])),[],q_,(by rw [e1_,e4_,e7_]),rfl,(fun _ _ z_=>by subst hq0_;exact z_),?_⟩
      subst hq0_
      exact xdw mn (fun _ h_ H_=>zbw (n:=t.m) Tryd.underlying23 tS43 rfl rfl rfl hcap) ⟨rfl,rfl⟩
     refine xbx rfl (xez ?_) ?_
     ·
      intro val7 pc8 hQ_ hX_
      obtain ⟨q_,hq0_⟩: ∃ q_:Value→Pcs→Prop,q_=(fun v_ x_=>v_= .agg #[.int .i64 (x),.int .i64 (y)]∧x_=[]):=⟨_,rfl⟩
      refine ⟨(zq16 (zq32 [])),[],q_,rfl,rfl,(fun _ _ z_=>by subst hq0_;exact z_),?_⟩
      subst hq0_
      exact xdw mn (fun _ h_ H_=>xav H_ tA43 tS43 rfl (i:=1) rfl (vs:=[.int .i64 (x),.int .i64 (y)]) rfl rfl) ⟨rfl,rfl⟩
     refine xbx rfl (xez ?_) ?_
     ·
      intro val7 pc8 hQ_ hX_
      have e9_:val7 9= .agg #[.int .i64 (x),.int .i64 (y)]:=(hQ_ 9 rfl).1
      obtain ⟨q_,hq0_⟩: ∃ q_:Value→Pcs→Prop,q_=(fun v_ x_=>OwnS 43 2 v_ [[.int .i64 (x),.int .i64 (y)]] x_):=⟨_,rfl⟩
      refine ⟨(zq16 (zq32 [])),[],q_,(by rw [e9_]),rfl,(fun _ _ z_=>by subst hq0_;exact z_),?_⟩
      subst hq0_
      exact xoz mn Tryd.underlying23 tS43 tZ43 (Nat.le_of_ble_eq_true rfl) (vs:=[(0,.agg #[.int .i64 (x),.int .i64 (y)])]) rfl rfl (es:=[[.int .i64 (x),.int .i64 (y)]]) rfl rfl rfl fun _ _ o_=>o_
     exact xmw rfl
    intro val7 pc8 hQ_ hX_
    have e0_:val7 0= .pointer (some ⟨b1,2,none⟩):=(hQ_ 0 (by decide)).1
    have e1_:val7 1= .slice a3 t.m c3:=(hQ_ 1 (by decide)).1
    have e2_:val7 2= .pointer (some ⟨b1,2,none⟩):=(hQ_ 2 (by decide)).1
    have e3_:val7 3= .slice a3 t.m c3:=(hQ_ 3 (by decide)).1
    have e4_:val7 4= .int .i64 (((t.m:Nat):Int)):=(hQ_ 4 (by decide)).1
    have e5_:val7 5= .pointer (some ⟨b1,2,none⟩):=(hQ_ 5 (by decide)).1
    have e6_:val7 6= .slice a3 t.m c3:=(hQ_ 6 (by decide)).1
    have e7_:val7 7= .int .i64 (((t.m:Nat):Int)):=(hQ_ 7 (by decide)).1
    have e8_:val7 8= .slice a3 t.m t.m:=(hQ_ 8 (by decide)).1
    have e9_:val7 9= .agg #[.int .i64 (x),.int .i64 (y)]:=(hQ_ 9 (by decide)).1
    have q10_:OwnS 43 2 (val7 10) [[.int .i64 (x),.int .i64 (y)]] (pc8 10):=hQ_ 10 (by decide)
    clear hQ_ hX_
    refine yax (Φ:=fun h_=>St h [] p h_ (([(b6,.cells #[.slice a1 t.nH c1,.slice a2 t.nW c2,.slice a3 t.m c3] 25 (0,0)),(b4,.cells #[.int .i64 (x),.int .i64 (y)] 43 (0,0)),(b1,.cells #[.slice a1 t.nH c1,.slice a2 t.nW c2,.slice a3 t.m c3] 25 (0,0))]:Pcs)++(pc8 10++[]))) ?_ (fun h_ H_=>H_.swap')
    refine xgx (tm':=(zq16 (zq32 []))) (by rw [e0_,e1_,e2_,e3_,e4_,e5_,e6_,e7_,e8_,e9_]) ?_
    have o11:=q10_
    refine zax ([(b6,.cells #[.slice a1 t.nH c1,.slice a2 t.nW c2,.slice a3 t.m c3] 25 (0,0)),(b4,.cells #[.int .i64 (x),.int .i64 (y)] 43 (0,0)),(b1,.cells #[.slice a1 t.nH c1,.slice a2 t.nW c2,.slice a3 t.m c3] 25 (0,0))]:Pcs) (pc8 10) mn Tryd.underlying23 tS43 tZ43 rfl tB43 Tryd.underlying23 rfl rfl T.y (by decide) (by decide) o11 (by simp) (by simp only [List.length_cons,List.length_nil];omega) (by decide) fun v12 X13 o14=>?_
    refine ro (xaz xhv rfl (a':=⟨b6,2,none⟩) rfl) ?_
    refine xpv mn tS23 rfl (v:=v12) rfl o14.one (i:=0) rfl (Nat.succ_le_iff.1 (Nat.le_of_ble_eq_true rfl)) (cs2:=[.slice a1 t.nH c1,.slice a2 t.nW c2,v12]) rfl (xcj (L':=([(b6,.cells #[.slice a1 t.nH c1,.slice a2 t.nW c2,v12] 25 (0,0)),(b4,.cells #[.int .i64 (x),.int .i64 (y)] 43 (0,0)),(b1,.cells #[.slice a1 t.nH c1,.slice a2 t.nW c2,.slice a3 t.m c3] 25 (0,0))]:Pcs)++(X13++[])) rfl ?_)
    refine ren ?_
    have o15:OwnS 43 2 v12 (wcs (wayM t (x,y)).wy) X13:=o14.as (xyv t.wy ((x,y):FWay))
    refine xbq ?_
    refine xaw mn (fun h_ H_=>xav H_ tA25 tS25 rfl (i:=0) rfl (vs:=[.slice a1 t.nH c1,.slice a2 t.nW c2,v12]) rfl rfl) (tm':=zq16 (zq32 [])) rfl ?_
    refine rd (fun h_ H_=>xav H_ tA25 tS25 rfl (i:=2) rfl (vs:=[.slice a1 t.nH c1,.slice a2 t.nW c2,.slice a3 t.m c3]) rfl rfl) ?_
    refine xzq (A:=([(b6,.cells #[.slice a1 t.nH c1,.slice a2 t.nW c2,v12] 25 (0,0)),(b4,.cells #[.int .i64 (x),.int .i64 (y)] 43 (0,0)),(b1,.cells #[.slice a1 t.nH c1,.slice a2 t.nW c2,.slice a3 t.m c3] 25 (0,0))]:Pcs)) o15 (ynx _) fun p16 a17 cp18 le19 ev_ D20=>?_
    subst ev_
    refine xcj (L':=[(b6,.cells #[.slice a1 t.nH c1,.slice a2 t.nW c2,.slice a17 ((wayM t (x,y)).m) cp18] 25 (0,0)),(b4,.cells #[.int .i64 (x),.int .i64 (y)] 43 (0,0)),(b1,.cells #[.slice a1 t.nH c1,.slice a2 t.nW c2,.slice a3 t.m c3] 25 (0,0))]) rfl ?_
    refine xcx mn (first:=[]) (cap:=[]) rfl rfl fC94 (fun h_ H_=>c94 md _ _ H_.pe _ _ _ _ _ _ (wayM t (x,y)) (show TownP _ _ (wayM t (x,y)).nH _ (wayM t (x,y)).nW _ (wayM t (x,y)).m (wayM t (x,y)) from ⟨(T.h.mono le19),(T.w.mono le19),(show Wys _ _ _ (wayM t (x,y)).wy from D20)⟩) (yrq hO h12 (by omega) (by omega)) _ _ _ _ _ _ t (show TownP _ _ _ _ _ _ _ t from ⟨(T.h.mono le19),(T.w.mono le19),(T.y.mono le19)⟩) hO (N.mono le19)) rfl ?_
    refine rt (xax (v:=.bool (decide (cmpL (LK (wayM t (x,y))) (LK t)<0))) rfl) (tm':=zq1 (zq2 (zq4 _))) rfl <| ro (xax (v:=.int .i64 0) rfl) <| xak ?_
    refine xew Tryd.func55 rfl (vs:=[.bool (decide (cmpL (LK (wayM t (x,y))) (LK t)<0)),.int .i64 0]) (fun h_ H_=>⟨.bool (decide (cmpL (LK (wayM t (x,y))) (LK t)<0)),_,rfl,rfl,⟨.int .i64 0,_,rfl,rfl,rfl⟩⟩) (v:=.tuple #[.bool (decide (cmpL (LK (wayM t (x,y))) (LK t)<0)),.int .i64 0]) rfl ?_
    exact fun h_ H_=>K _ _ ⟨by rw [wix ha0_ ‹_›,whw ha0_ ‹_›],H_.kept⟩
 ·
  refine xfw 9 [[],[],[],[1,2],[1,2,3],[],[1,2,3],[1,2,3,5,6],[1,2,3,4,5,6],[],[]] xlq (by kernel_rfl) (Nat.le_of_ble_eq_true rfl) ?_
  refine wd (fun h_ H_=>xav H_ tA25 tS25 rfl (i:=0) rfl (vs:=[.slice a1 t.nH c1,.slice a2 t.nW c2,.slice a3 t.m c3]) rfl rfl) ?_
  refine xbz mn (fun h_ H_=>xav H_ tA25 tS25 rfl (i:=0) rfl (vs:=[.slice a1 t.nH c1,.slice a2 t.nW c2,.slice a3 t.m c3]) rfl rfl) (tm':=zq1 (zq4 (zq8 _))) rfl ?_
  refine wo (xaq (v:=.int .i64 (x)) rfl) ?_
  refine xik mn (first:=[]) (cap:=[]) rfl rfl fC65 (fun h_ H_=>(c65 md _ _ H_.pe _ _ _ _ _ _ _ _ _ t (show TownP _ _ _ _ _ _ _ t from ⟨T.h,T.w,T.y⟩) (by omega) (x)).mono fun v_ h2_ ⟨e_,k_⟩=>⟨e_,H_.call k_⟩) (tm':=zq1 (zq2 (zq4 (zq8 _)))) rfl ?_
  refine wo (xaq (v:=.bool (decide (0≤x∧x≤(t.nH:Int)-1))) rfl) <| xdv (mo rfl rfl (dff cc2)) (tm':=zq1 (zq16 _)) rfl <| wp (mo rfl rfl (dff cc2)) <| xdv (mo rfl rfl (dff cc2)) (tm':=zq1 (zq2 (zq16 _))) rfl <| wo (xcq rfl (dff cc2) (v:=.bool (false)) rfl) ?_
  refine xiz rfl ?_
  refine xcx mn (first:=[]) (cap:=[]) rfl rfl fC64 (fun h_ H_=>c64 md _ _ H_.pe _ _ _ _ _ _ _ _ _ t (show TownP _ _ _ _ _ _ _ t from ⟨T.h,T.w,T.y⟩) (by omega) false) rfl ?_
  refine rt (xax (v:=.int .i64 (askB t false)) rfl) (tm':=zq1 (zq8 _)) rfl <| ren <| xbq <| ro (xaq (v:=.int .i64 (askB t false)) rfl) <| ro (xhw rfl rfl) <| xak ?_
  by_cases cc21:askB t false≠0
  ·
   refine xdk rfl (dtt cc21) <| fsr <| rt (xaq (v:=.int .i64 (askB t false)) rfl) (tm':=zq8 (zq16 _)) rfl <| ro (xax (v:=.bool (false)) rfl) <| ro (xax (v:=.int .i64 (askB t false)) rfl) <| xak ?_
   refine xew Tryd.func55 rfl (vs:=[.bool (false),.int .i64 (askB t false)]) (fun h_ H_=>⟨.bool (false),_,rfl,rfl,⟨.int .i64 (askB t false),_,rfl,rfl,rfl⟩⟩) (v:=.tuple #[.bool (false),.int .i64 (askB t false)]) rfl ?_
   have ha_:=vcx (t:=t) (x:=x) (y:=y) ‹_›
   have hn_: ¬ wayA t x y=0:=by rw [ha_];assumption
   exact fun h_ H_=>K _ _ ⟨by rw [wiq hn_,whv hn_,ha_],H_.kept⟩
  ·
   refine xcv rfl (dff cc21) <| xdq <| xej ?_
   have ha0_:wayA t x y=0:=by rw [vcx (by assumption)];omega
   obtain ⟨hc_,hx_,hy_⟩:=wiz ha0_
   obtain ⟨h12,hV⟩:=ytj hc_
   have hO:OkT t:=xtz hc_
   refine xbq <| rt (xaq (v:=.int .i64 (x)) rfl) (tm':=zq1 (zq8 (zq16 _))) rfl <| ro (xaq (v:=.int .i64 (y)) rfl) <| ro (xjv tZ43 tP43 (vs:=[(0,.int .i64 (x)),(1,.int .i64 (y))]) rfl (cells:=#[.int .i64 (x),.int .i64 (y)]) rfl) ?_
   refine xkz mn tZ43 rfl fun b22=>xcj (L':=[(b22,.cells #[.int .i64 0,.int .i64 0] 43 (0,0)),(b1,.cells #[.slice a1 t.nH c1,.slice a2 t.nW c2,.slice a3 t.m c3] 25 (0,0))]) rfl ?_
   refine xgx (tm':=zq2 (zq8 _)) rfl ?_
   refine xjk mn tS43 rfl (v:=.agg #[.int .i64 (x),.int .i64 (y)]) rfl (i:=0) rfl rfl rfl (Nat.le_of_ble_eq_true rfl) (cs2:=[.int .i64 (x),.int .i64 (y)]) rfl (xcj (L':=[(b22,.cells #[.int .i64 (x),.int .i64 (y)] 43 (0,0)),(b1,.cells #[.slice a1 t.nH c1,.slice a2 t.nW c2,.slice a3 t.m c3] 25 (0,0))]) rfl ?_)
   refine ren <| fsr <| ro (xaz xhv rfl (a':=⟨b1,2,none⟩) rfl) <| rd (fun h_ H_=>xaj H_ tA23 rfl (i:=1) rfl (v:=.slice a3 t.m c3) rfl) ?_
   refine xaw mn (fun h_ H_=>xav H_ tA43 tS43 rfl (i:=0) rfl (vs:=[.int .i64 (x),.int .i64 (y)]) rfl rfl) (tm':=zq2 (zq4 (zq8 (zq16 _)))) rfl ?_
   refine xcx mn (first:=[]) (cap:=[]) rfl rfl fC95 (fun h_ H_=>c95 md _ _ H_.pe _ _ _ _ T.y (by omega) (x) (y)) rfl ?_
   refine xak ?_
   by_cases cc23:((x,y):FWay)∈t.wy
   ·
    refine xdk rfl (dtt cc23) <| fsr <| ro (xax (v:=.bool (false)) rfl) <| rt (xax (v:=.int .i64 3) rfl) (tm':=zq8 _) rfl <| xak ?_
    refine xew Tryd.func55 rfl (vs:=[.bool (false),.int .i64 3]) (fun h_ H_=>⟨.bool (false),_,rfl,rfl,⟨.int .i64 3,_,rfl,rfl,rfl⟩⟩) (v:=.tuple #[.bool (false),.int .i64 3]) rfl ?_
    exact fun h_ H_=>K _ _ ⟨by rw [vcq ‹_›,vbw ha0_ ‹_›],H_.kept⟩
   ·
    refine xcv rfl (dff cc23) <| xdq <| fsr <| rd (fun h_ H_=>xav H_ tA25 tS25 rfl (i:=1) rfl (vs:=[.slice a1 t.nH c1,.slice a2 t.nW c2,.slice a3 t.m c3]) rfl rfl) ?_
    refine xkz mn tZ25 rfl fun b24=>xcj (L':=[(b24,.cells #[.slice none 0 0,.slice none 0 0,.slice none 0 0] 25 (0,0)),(b22,.cells #[.int .i64 (x),.int .i64 (y)] 43 (0,0)),(b1,.cells #[.slice a1 t.nH c1,.slice a2 t.nW c2,.slice a3 t.m c3] 25 (0,0))]) rfl ?_
    refine xjk mn tS25 rfl (v:=.agg #[.slice a1 t.nH c1,.slice a2 t.nW c2,.slice a3 t.m c3]) rfl (i:=0) rfl rfl rfl (Nat.le_of_ble_eq_true rfl) (cs2:=[.slice a1 t.nH c1,.slice a2 t.nW c2,.slice a3 t.m c3]) rfl (xcj (L':=[(b24,.cells #[.slice a1 t.nH c1,.slice a2 t.nW c2,.slice a3 t.m c3] 25 (0,0)),(b22,.cells #[.int .i64 (x),.int .i64 (y)] 43 (0,0)),(b1,.cells #[.slice a1 t.nH c1,.slice a2 t.nW c2,.slice a3 t.m c3] 25 (0,0))]) rfl ?_)
    refine ren ?_
    refine ybx (xnq (C:=[]) (A:=([(b24,.cells #[.slice a1 t.nH c1,.slice a2 t.nW c2,.slice a3 t.m c3] 25 (0,0)),(b22,.cells #[.int .i64 (x),.int .i64 (y)] 43 (0,0)),(b1,.cells #[.slice a1 t.nH c1,.slice a2 t.nW c2,.slice a3 t.m c3] 25 (0,0))]:Pcs)) 11 [[],[0],[],[2],[2,3],[],[5],[5,6],[0,1,2,3,4,5,6,7],[],[9],[],[],[]] [] [10] [0,1,2,3,4,5,6,7,8,9] (fun _=>[]) (fun _=>[]) (fun i_=>match i_ with | 0=>[] | 1=>[0] | 2=>[] | 3=>[2] | 4=>[3] | 5=>[] | 6=>[5] | 7=>[6] | 8=>[1,4,7] | 9=>[] | 10=>[9] | _=>[]) (fun i_ val_ pc_ v_ x_=>match i_ with | 0=>v_= .pointer (some ⟨b1,2,none⟩)∧x_=[] | 1=>v_= .slice a3 t.m c3∧x_=[] | 2=>v_= .pointer (some ⟨b1,2,none⟩)∧x_=[] | 3=>v_= .slice a3 t.m c3∧x_=[] | 4=>v_= .int .i64 (((t.m:Nat):Int))∧x_=[] | 5=>v_= .pointer (some ⟨b1,2,none⟩)∧x_=[] | 6=>v_= .slice a3 t.m c3∧x_=[] | 7=>v_= .int .i64 (((t.m:Nat):Int))∧x_=[] | 8=>v_= .slice a3 t.m t.m∧x_=[] | 9=>v_= .agg #[.int .i64 (x),.int .i64 (y)]∧x_=[] | 10=>OwnS 43 2 v_ [[.int .i64 (x),.int .i64 (y)]] x_ | _=>True) (fun val25=>[.agg #[.slice a1 t.nH c1,.slice a2 t.nW c2,.slice a3 t.m c3],.int .i64 (x),.int .i64 (y),.pointer (some ⟨b1,0,none⟩),undef,undef,.bool (false),.int .i64 0,.int .i64 (askB t false),.pointer (some ⟨b22,0,none⟩),.pointer (some ⟨b24,0,none⟩),.agg #[.slice a1 t.nH c1,.slice a2 t.nW c2,.slice a3 t.m c3],.agg #[.slice a1 t.nH c1,.slice a2 t.nW c2,.slice a3 t.m c3],.int .i64 (x),.bool (decide (0≤x∧x≤(t.nH:Int)-1)),.bool (decide (0≤x∧x≤(t.nH:Int)-1)),undef,undef,undef,.bool (false),.int .i64 (askB t false),.int .i64 (askB t false),.bool (decide (askB t false≠0)),undef,.int .i64 (x),.int .i64 (y),.agg #[.int .i64 (x),.int .i64 (y)],.pointer (some ⟨b1,2,none⟩),.slice a3 t.m c3,.agg #[.int .i64 (x),.int .i64 (y)],.bool (decide (((x,y):FWay)∈t.wy)),.agg #[.slice a1 t.nH c1,.slice a2 t.nW c2,.slice a3 t.m c3],(val25 0),(val25 1),(val25 2),(val25 3),(val25 4),(val25 5),(val25 6),(val25 7),(val25 8),(val25 9),(val25 10),undef,undef,undef,undef,undef]) xlq (by kernel_rfl) (Nat.le_of_ble_eq_true rfl) (by kernel_rfl) (by kernel_rfl) (by kernel_rfl) (fun _ _=>⟨fun _ _ h=>h.2,⟨fun _ _ h=>h.2,⟨fun _ _ h=>h.2,⟨fun _ _ h=>h.2,⟨fun _ _ h=>h.2,⟨fun _ _ h=>h.2,⟨fun _ _ h=>h.2,⟨fun _ _ h=>h.2,⟨fun _ _ h=>h.2,⟨fun _ _ h=>h.2,trivial⟩⟩⟩⟩⟩⟩⟩⟩⟩⟩) (fun _=>by kernel_rfl) (by kernel_rfl) ?_ ?_) (fun h_ H_=>St.swap (A:=([(b24,.cells #[.slice a1 t.nH c1,.slice a2 t.nW c2,.slice a3 t.m c3] 25 (0,0)),(b22,.cells #[.int .i64 (x),.int .i64 (y)] 43 (0,0)),(b1,.cells #[.slice a1 t.nH c1,.slice a2 t.nW c2,.slice a3 t.m c3] 25 (0,0))]:Pcs)) (U:=[]) H_)
    ·
     refine xbx rfl (xez ?_) ?_
     ·
      intro val25 pc26 hQ_ hX_
      obtain ⟨q_,hq0_⟩: ∃ q_:Value→Pcs→Prop,q_=(fun v_ x_=>v_= .pointer (some ⟨b1,2,none⟩)∧x_=[]):=⟨_,rfl⟩
      refine ⟨(zq16 (zq32 [])),[],q_,rfl,rfl,(fun _ _ z_=>by subst hq0_;exact z_),?_⟩
      subst hq0_
      exact xdw mn (fun _ h_ H_=>xaz xhv rfl (a':=⟨b1,2,none⟩) rfl) ⟨rfl,rfl⟩
     refine xbx rfl (xez ?_) ?_
     ·
      intro val25 pc26 hQ_ hX_
      have e0_:val25 0= .pointer (some ⟨b1,2,none⟩):=(hQ_ 0 rfl).1
      obtain ⟨q_,hq0_⟩: ∃ q_:Value→Pcs→Prop,q_=(fun v_ x_=>v_= .slice a3 t.m c3∧x_=[]):=⟨_,rfl⟩
      refine ⟨(zq16 (zq32 [])),[],q_,(by rw [e0_]),rfl,(fun _ _ z_=>by subst hq0_;exact z_),?_⟩
      subst hq0_
      exact xdw mn (fun _ h_ H_=>xaj H_ tA23 rfl (i:=2) rfl (v:=.slice a3 t.m c3) rfl) ⟨rfl,rfl⟩
     refine xbx rfl (xez ?_) ?_
     ·
      intro val25 pc26 hQ_ hX_
      obtain ⟨q_,hq0_⟩: ∃ q_:Value→Pcs→Prop,q_=(fun v_ x_=>v_= .pointer (some ⟨b1,2,none⟩)∧x_=[]):=⟨_,rfl⟩
      refine ⟨(zq16 (zq32 [])),[],q_,rfl,rfl,(fun _ _ z_=>by subst hq0_;exact z_),?_⟩
      subst hq0_
      exact xdw mn (fun _ h_ H_=>xaz xhv rfl (a':=⟨b1,2,none⟩) rfl) ⟨rfl,rfl⟩
     refine xbx rfl (xez ?_) ?_
     ·
      intro val25 pc26 hQ_ hX_
      have e2_:val25 2= .pointer (some ⟨b1,2,none⟩):=(hQ_ 2 rfl).1
      obtain ⟨q_,hq0_⟩: ∃ q_:Value→Pcs→Prop,q_=(fun v_ x_=>v_= .slice a3 t.m c3∧x_=[]):=⟨_,rfl⟩
      refine ⟨(zq16 (zq32 [])),[],q_,(by rw [e2_]),rfl,(fun _ _ z_=>by subst hq0_;exact z_),?_⟩
      subst hq0_
      exact xdw mn (fun _ h_ H_=>xaj H_ tA23 rfl (i:=2) rfl (v:=.slice a3 t.m c3) rfl) ⟨rfl,rfl⟩
     refine xbx rfl (xez ?_) ?_
     ·
      intro val25 pc26 hQ_ hX_
      have e3_:val25 3= .slice a3 t.m c3:=(hQ_ 3 rfl).1
      obtain ⟨q_,hq0_⟩: ∃ q_:Value→Pcs→Prop,q_=(fun v_ x_=>v_= .int .i64 (((t.m:Nat):Int))∧x_=[]):=⟨_,rfl⟩
      refine ⟨(zq16 (zq32 [])),[],q_,(by rw [e3_]),rfl,(fun _ _ z_=>by subst hq0_;exact z_),?_⟩
      subst hq0_
      exact xdw mn (fun _ h_ H_=>xfk Tryd.underlying23 rfl) ⟨rfl,rfl⟩
     refine xbx rfl (xez ?_) ?_
     ·
      intro val25 pc26 hQ_ hX_
      obtain ⟨q_,hq0_⟩: ∃ q_:Value→Pcs→Prop,q_=(fun v_ x_=>v_= .pointer (some ⟨b1,2,none⟩)∧x_=[]):=⟨_,rfl⟩
      refine ⟨(zq16 (zq32 [])),[],q_,rfl,rfl,(fun _ _ z_=>by subst hq0_;exact z_),?_⟩
      subst hq0_
      exact xdw mn (fun _ h_ H_=>xaz xhv rfl (a':=⟨b1,2,none⟩) rfl) ⟨rfl,rfl⟩
     refine xbx rfl (xez ?_) ?_
     ·
      intro val25 pc26 hQ_ hX_
      have e5_:val25 5= .pointer (some ⟨b1,2,none⟩):=(hQ_ 5 rfl).1
      obtain ⟨q_,hq0_⟩: ∃ q_:Value→Pcs→Prop,q_=(fun v_ x_=>v_= .slice a3 t.m c3∧x_=[]):=⟨_,rfl⟩
      refine ⟨(zq16 (zq32 [])),[],q_,(by rw [e5_]),rfl,(fun _ _ z_=>by subst hq0_;exact z_),?_⟩
      subst hq0_
      exact xdw mn (fun _ h_ H_=>xaj H_ tA23 rfl (i:=2) rfl (v:=.slice a3 t.m c3) rfl) ⟨rfl,rfl⟩
     refine xbx rfl (xez ?_) ?_
     ·
      intro val25 pc26 hQ_ hX_
      have e6_:val25 6= .slice a3 t.m c3:=(hQ_ 6 rfl).1
      obtain ⟨q_,hq0_⟩: ∃ q_:Value→Pcs→Prop,q_=(fun v_ x_=>v_= .int .i64 (((t.m:Nat):Int))∧x_=[]):=⟨_,rfl⟩
      refine ⟨(zq16 (zq32 [])),[],q_,(by rw [e6_]),rfl,(fun _ _ z_=>by subst hq0_;exact z_),?_⟩
      subst hq0_
      exact xdw mn (fun _ h_ H_=>xfk Tryd.underlying23 rfl) ⟨rfl,rfl⟩
     refine xbx rfl (xez ?_) ?_
     ·
      intro val25 pc26 hQ_ hX_
      have e1_:val25 1= .slice a3 t.m c3:=(hQ_ 1 rfl).1
      have e4_:val25 4= .int .i64 (((t.m:Nat):Int)):=(hQ_ 4 rfl).1
      have e7_:val25 7= .int .i64 (((t.m:Nat):Int)):=(hQ_ 7 rfl).1
      obtain ⟨q_,hq0_⟩: ∃ q_:Value→Pcs→Prop,q_=(fun v_ x_=>v_= .slice a3 t.m t.m∧x_=[]):=⟨_,rfl⟩
      refine ⟨(zq16 (zq32 [])),[],q_,(by rw [e1_,e4_,e7_]),rfl,(fun _ _ z_=>by subst hq0_;exact z_),?_⟩
      subst hq0_
      exact xdw mn (fun _ h_ H_=>zbw (n:=t.m) Tryd.underlying23 tS43 rfl rfl rfl hcap) ⟨rfl,rfl⟩
     refine xbx rfl (xez ?_) ?_
     ·
      intro val25 pc26 hQ_ hX_
      obtain ⟨q_,hq0_⟩: ∃ q_:Value→Pcs→Prop,q_=(fun v_ x_=>v_= .agg #[.int .i64 (x),.int .i64 (y)]∧x_=[]):=⟨_,rfl⟩
      refine ⟨(zq16 (zq32 [])),[],q_,rfl,rfl,(fun _ _ z_=>by subst hq0_;exact z_),?_⟩
      subst hq0_
      exact xdw mn (fun _ h_ H_=>xav H_ tA43 tS43 rfl (i:=1) rfl (vs:=[.int .i64 (x),.int .i64 (y)]) rfl rfl) ⟨rfl,rfl⟩
     refine xbx rfl (xez ?_) ?_
     ·
      intro val25 pc26 hQ_ hX_
      have e9_:val25 9= .agg #[.int .i64 (x),.int .i64 (y)]:=(hQ_ 9 rfl).1
      obtain ⟨q_,hq0_⟩: ∃ q_:Value→Pcs→Prop,q_=(fun v_ x_=>OwnS 43 2 v_ [[.int .i64 (x),.int .i64 (y)]] x_):=⟨_,rfl⟩
      refine ⟨(zq16 (zq32 [])),[],q_,(by rw [e9_]),rfl,(fun _ _ z_=>by subst hq0_;exact z_),?_⟩
      subst hq0_
      exact xoz mn Tryd.underlying23 tS43 tZ43 (Nat.le_of_ble_eq_true rfl) (vs:=[(0,.agg #[.int .i64 (x),.int .i64 (y)])]) rfl rfl (es:=[[.int .i64 (x),.int .i64 (y)]]) rfl rfl rfl fun _ _ o_=>o_
     exact xmw rfl
    intro val25 pc26 hQ_ hX_
    have e0_:val25 0= .pointer (some ⟨b1,2,none⟩):=(hQ_ 0 (by decide)).1
    have e1_:val25 1= .slice a3 t.m c3:=(hQ_ 1 (by decide)).1
    have e2_:val25 2= .pointer (some ⟨b1,2,none⟩):=(hQ_ 2 (by decide)).1
    have e3_:val25 3= .slice a3 t.m c3:=(hQ_ 3 (by decide)).1
    have e4_:val25 4= .int .i64 (((t.m:Nat):Int)):=(hQ_ 4 (by decide)).1
    have e5_:val25 5= .pointer (some ⟨b1,2,none⟩):=(hQ_ 5 (by decide)).1
    have e6_:val25 6= .slice a3 t.m c3:=(hQ_ 6 (by decide)).1
    have e7_:val25 7= .int .i64 (((t.m:Nat):Int)):=(hQ_ 7 (by decide)).1
    have e8_:val25 8= .slice a3 t.m t.m:=(hQ_ 8 (by decide)).1
    have e9_:val25 9= .agg #[.int .i64 (x),.int .i64 (y)]:=(hQ_ 9 (by decide)).1
    have q10_:OwnS 43 2 (val25 10) [[.int .i64 (x),.int .i64 (y)]] (pc26 10):=hQ_ 10 (by decide)
    clear hQ_ hX_
    refine yax (Φ:=fun h_=>St h [] p h_ (([(b24,.cells #[.slice a1 t.nH c1,.slice a2 t.nW c2,.slice a3 t.m c3] 25 (0,0)),(b22,.cells #[.int .i64 (x),.int .i64 (y)] 43 (0,0)),(b1,.cells #[.slice a1 t.nH c1,.slice a2 t.nW c2,.slice a3 t.m c3] 25 (0,0))]:Pcs)++(pc26 10++[]))) ?_ (fun h_ H_=>H_.swap')
    refine xgx (tm':=(zq16 (zq32 []))) (by rw [e0_,e1_,e2_,e3_,e4_,e5_,e6_,e7_,e8_,e9_]) ?_
    have o29:=q10_
    refine zax ([(b24,.cells #[.slice a1 t.nH c1,.slice a2 t.nW c2,.slice a3 t.m c3] 25 (0,0)),(b22,.cells #[.int .i64 (x),.int .i64 (y)] 43 (0,0)),(b1,.cells #[.slice a1 t.nH c1,.slice a2 t.nW c2,.slice a3 t.m c3] 25 (0,0))]:Pcs) (pc26 10) mn Tryd.underlying23 tS43 tZ43 rfl tB43 Tryd.underlying23 rfl rfl T.y (by decide) (by decide) o29 (by simp) (by simp only [List.length_cons,List.length_nil];omega) (by decide) fun v30 X31 o32=>?_
    refine ro (xaz xhv rfl (a':=⟨b24,2,none⟩) rfl) ?_
    refine xpv mn tS23 rfl (v:=v30) rfl o32.one (i:=0) rfl (Nat.succ_le_iff.1 (Nat.le_of_ble_eq_true rfl)) (cs2:=[.slice a1 t.nH c1,.slice a2 t.nW c2,v30]) rfl (xcj (L':=([(b24,.cells #[.slice a1 t.nH c1,.slice a2 t.nW c2,v30] 25 (0,0)),(b22,.cells #[.int .i64 (x),.int .i64 (y)] 43 (0,0)),(b1,.cells #[.slice a1 t.nH c1,.slice a2 t.nW c2,.slice a3 t.m c3] 25 (0,0))]:Pcs)++(X31++[])) rfl ?_)
    refine ren ?_
    have o33:OwnS 43 2 v30 (wcs (wayM t (x,y)).wy) X31:=o32.as (xyv t.wy ((x,y):FWay))
    refine xbq ?_
    refine xaw mn (fun h_ H_=>xav H_ tA25 tS25 rfl (i:=0) rfl (vs:=[.slice a1 t.nH c1,.slice a2 t.nW c2,v30]) rfl rfl) (tm':=zq16 (zq32 [])) rfl ?_
    refine rd (fun h_ H_=>xav H_ tA25 tS25 rfl (i:=2) rfl (vs:=[.slice a1 t.nH c1,.slice a2 t.nW c2,.slice a3 t.m c3]) rfl rfl) ?_
    refine xzq (A:=([(b24,.cells #[.slice a1 t.nH c1,.slice a2 t.nW c2,v30] 25 (0,0)),(b22,.cells #[.int .i64 (x),.int .i64 (y)] 43 (0,0)),(b1,.cells #[.slice a1 t.nH c1,.slice a2 t.nW c2,.slice a3 t.m c3] 25 (0,0))]:Pcs)) o33 (ynx _) fun p34 a35 cp36 le37 ev_ D38=>?_
    subst ev_
    refine xcj (L':=[(b24,.cells #[.slice a1 t.nH c1,.slice a2 t.nW c2,.slice a35 ((wayM t (x,y)).m) cp36] 25 (0,0)),(b22,.cells #[.int .i64 (x),.int .i64 (y)] 43 (0,0)),(b1,.cells #[.slice a1 t.nH c1,.slice a2 t.nW c2,.slice a3 t.m c3] 25 (0,0))]) rfl ?_
    refine xcx mn (first:=[]) (cap:=[]) rfl rfl fC94 (fun h_ H_=>c94 md _ _ H_.pe _ _ _ _ _ _ (wayM t (x,y)) (show TownP _ _ (wayM t (x,y)).nH _ (wayM t (x,y)).nW _ (wayM t (x,y)).m (wayM t (x,y)) from ⟨(T.h.mono le37),(T.w.mono le37),(show Wys _ _ _ (wayM t (x,y)).wy from D38)⟩) (yrq hO h12 (by omega) (by omega)) _ _ _ _ _ _ t (show TownP _ _ _ _ _ _ _ t from ⟨(T.h.mono le37),(T.w.mono le37),(T.y.mono le37)⟩) hO (N.mono le37)) rfl ?_
    refine rt (xax (v:=.bool (decide (cmpL (LK (wayM t (x,y))) (LK t)<0))) rfl) (tm':=zq1 (zq2 (zq4 _))) rfl <| ro (xax (v:=.int .i64 0) rfl) <| xak ?_
    refine xew Tryd.func55 rfl (vs:=[.bool (decide (cmpL (LK (wayM t (x,y))) (LK t)<0)),.int .i64 0]) (fun h_ H_=>⟨.bool (decide (cmpL (LK (wayM t (x,y))) (LK t)<0)),_,rfl,rfl,⟨.int .i64 0,_,rfl,rfl,rfl⟩⟩) (v:=.tuple #[.bool (decide (cmpL (LK (wayM t (x,y))) (LK t)<0)),.int .i64 0]) rfl ?_
    exact fun h_ H_=>K _ _ ⟨by rw [wix ha0_ ‹_›,whw ha0_ ‹_›],H_.kept⟩
end Go.Proofs.YtalfgojocdonhaaDoor
namespace Go.Proofs.YtalfgojocdonhaaDoor
open Go.X Go.X.Flow Go.Conc
set_option maxRecDepth 10000
set_option synthInstance.maxSize 2000

set_option maxHeartbeats 2000000
theorem c63 (md:Md) (h:Heap):CallsX Tryd.prog md 63 #[] h fun v h'=>∃ w1:Value,∃ w2:Value,∃ w3:Value,∃ w4:Value,∃ w5:Value,∃ w6:Value,∃ w7:Value,∃ w8:Value,∃ w9:Value,∃ X1:Pcs,∃ X2:Pcs,∃ X3:Pcs,∃ X4:Pcs,∃ X5:Pcs,∃ X6:Pcs,∃ X7:Pcs,∃ X8:Pcs,∃ X9:Pcs,v= .tuple #[.agg #[w1,w2,w3],.agg #[w4,w5,w6],.agg #[w7,w8,w9]]∧OwnS 3 1 w1 (ics exB.hs) X1∧OwnS 3 1 w2 (ics exB.ws) X2∧OwnS 43 2 w3 (wcs exB.wy) X3∧OwnS 3 1 w4 (ics exC.hs) X4∧OwnS 3 1 w5 (ics exC.ws) X5∧OwnS 43 2 w6 (wcs exC.wy) X6∧OwnS 3 1 w7 (ics exD.hs) X7∧OwnS 3 1 w8 (ics exD.ws) X8∧OwnS 43 2 w9 (wcs exD.wy) X9∧New h h' ((X1++(X2++(X3++(X4++(X5++(X6++(X7++(X8++(X9++[])))))))))):=by
 refine xcw (Φ:=fun h_=>St h [] (fun _=>none) h_ []) Tryd.func63 rfl (tm:=zq2 (zq8 (zq16 []))) rfl ?_ (St.start h _ (fun _ _ e=>by cases e))
 intro c₀ cs Stop K
 refine fsr ?_
 refine xkz mn tZ25 rfl fun b1=>xcj (L':=[(b1,.cells #[.slice none 0 0,.slice none 0 0,.slice none 0 0] 25 (0,0))]) rfl ?_
 refine xkz mn tZ25 rfl fun b2=>xcj (L':=[(b2,.cells #[.slice none 0 0,.slice none 0 0,.slice none 0 0] 25 (0,0)),(b1,.cells #[.slice none 0 0,.slice none 0 0,.slice none 0 0] 25 (0,0))]) rfl ?_
 refine xkz mn tZ25 rfl fun b3=>xcj (L':=[(b3,.cells #[.slice none 0 0,.slice none 0 0,.slice none 0 0] 25 (0,0)),(b2,.cells #[.slice none 0 0,.slice none 0 0,.slice none 0 0] 25 (0,0)),(b1,.cells #[.slice none 0 0,.slice none 0 0,.slice none 0 0] 25 (0,0))]) rfl ?_
 refine xgx (tm':=_::_::_::_) rfl ?_
 refine ren <| xbq ?_
 refine xcj (L':=([(b3,.cells #[.slice none 0 0,.slice none 0 0,.slice none 0 0] 25 (0,0)),(b2,.cells #[.slice none 0 0,.slice none 0 0,.slice none 0 0] 25 (0,0)),(b1,.cells #[.slice none 0 0,.slice none 0 0,.slice none 0 0] 25 (0,0))]:Pcs)++[]) rfl ?_
 refine xmj ([(b3,.cells #[.slice none 0 0,.slice none 0 0,.slice none 0 0] 25 (0,0)),(b2,.cells #[.slice none 0 0,.slice none 0 0,.slice none 0 0] 25 (0,0)),(b1,.cells #[.slice none 0 0,.slice none 0 0,.slice none 0 0] 25 (0,0))]:Pcs) mn Tryd.underlying22 tS3 tZ3 (Nat.le_of_ble_eq_true rfl) (vs:=[(0,.int .i64 5),(1,.int .i64 4),(2,.int .i64 3)]) rfl rfl (es:=[[.int .i64 5],[.int .i64 4],[.int .i64 3]]) rfl rfl rfl fun v4 X5 o6=>?_
 refine xmj ([(b3,.cells #[.slice none 0 0,.slice none 0 0,.slice none 0 0] 25 (0,0)),(b2,.cells #[.slice none 0 0,.slice none 0 0,.slice none 0 0] 25 (0,0)),(b1,.cells #[.slice none 0 0,.slice none 0 0,.slice none 0 0] 25 (0,0))]:Pcs) mn Tryd.underlying22 tS3 tZ3 (Nat.le_of_ble_eq_true rfl) (vs:=[(0,.int .i64 4),(1,.int .i64 3)]) rfl rfl (es:=[[.int .i64 4],[.int .i64 3]]) rfl rfl rfl fun v7 X8 o9=>?_
 refine rt (xjv tZ43 tP43 (vs:=[(0,.int .i64 0),(1,.int .i64 0)]) rfl (cells:=#[.int .i64 0,.int .i64 0]) rfl) (tm':=zq2 (zq4 _)) rfl <| ro (xjv tZ43 tP43 (vs:=[(0,.int .i64 1),(1,.int .i64 0)]) rfl (cells:=#[.int .i64 1,.int .i64 0]) rfl) <| ro (xjv tZ43 tP43 (vs:=[(0,.int .i64 1),(1,.int .i64 1)]) rfl (cells:=#[.int .i64 1,.int .i64 1]) rfl) <| rt (xjv tZ43 tP43 (vs:=[(0,.int .i64 2),(1,.int .i64 1)]) rfl (cells:=#[.int .i64 2,.int .i64 1]) rfl) (tm':=zq1 (zq8 _)) rfl ?_
 refine xmj ([(b3,.cells #[.slice none 0 0,.slice none 0 0,.slice none 0 0] 25 (0,0)),(b2,.cells #[.slice none 0 0,.slice none 0 0,.slice none 0 0] 25 (0,0)),(b1,.cells #[.slice none 0 0,.slice none 0 0,.slice none 0 0] 25 (0,0))]:Pcs) mn Tryd.underlying23 tS43 tZ43 (Nat.le_of_ble_eq_true rfl) (vs:=[(0,.agg #[.int .i64 0,.int .i64 0]),(1,.agg #[.int .i64 1,.int .i64 0]),(2,.agg #[.int .i64 1,.int .i64 1]),(3,.agg #[.int .i64 2,.int .i64 1])]) rfl rfl (es:=[[.int .i64 0,.int .i64 0],[.int .i64 1,.int .i64 0],[.int .i64 1,.int .i64 1],[.int .i64 2,.int .i64 1]]) rfl rfl rfl fun v10 X11 o12=>?_
 obtain ⟨a13,c14,ev_,_⟩:=o6.val;have ev_:v4= .slice a13 3 c14:=ev_.trans (congrArg (fun q_=>Value.slice a13 q_ c14) (show _=3 from rfl));subst ev_
 obtain ⟨a15,c16,ev_,_⟩:=o9.val;have ev_:v7= .slice a15 2 c16:=ev_.trans (congrArg (fun q_=>Value.slice a15 q_ c16) (show _=2 from rfl));subst ev_
 obtain ⟨a17,c18,ev_,_⟩:=o12.val;have ev_:v10= .slice a17 4 c18:=ev_.trans (congrArg (fun q_=>Value.slice a17 q_ c18) (show _=4 from rfl));subst ev_
 refine ro (xjv tZ25 tP25 (vs:=[(0,(.slice a13 3 c14)),(1,(.slice a15 2 c16)),(2,(.slice a17 4 c18))]) rfl (cells:=#[(.slice a13 3 c14),(.slice a15 2 c16),(.slice a17 4 c18)]) rfl) ?_
 refine xjk mn tS25 rfl (v:=.agg #[(.slice a13 3 c14),(.slice a15 2 c16),(.slice a17 4 c18)]) rfl (i:=2) rfl rfl (xfj o6.one.2 (xfj o9.one.2 (xfj o12.one.2 rfl))) (Nat.le_of_ble_eq_true rfl) (cs2:=[(.slice a13 3 c14),(.slice a15 2 c16),(.slice a17 4 c18)]) rfl (xcj (L':=([(b3,.cells #[.slice none 0 0,.slice none 0 0,.slice none 0 0] 25 (0,0)),(b2,.cells #[.slice none 0 0,.slice none 0 0,.slice none 0 0] 25 (0,0)),(b1,.cells #[(.slice a13 3 c14),(.slice a15 2 c16),(.slice a17 4 c18)] 25 (0,0))]:Pcs)++(X11++(X8++(X5++[])))) rfl ?_)
 refine ren <| xbq ?_
 refine xmj ([(b3,.cells #[.slice none 0 0,.slice none 0 0,.slice none 0 0] 25 (0,0)),(b2,.cells #[.slice none 0 0,.slice none 0 0,.slice none 0 0] 25 (0,0)),(b1,.cells #[(.slice a13 3 c14),(.slice a15 2 c16),(.slice a17 4 c18)] 25 (0,0))]:Pcs) mn Tryd.underlying22 tS3 tZ3 (Nat.le_of_ble_eq_true rfl) (vs:=[(0,.int .i64 2),(1,.int .i64 3)]) rfl rfl (es:=[[.int .i64 2],[.int .i64 3]]) rfl rfl rfl fun v19 X20 o21=>?_
 refine xgx (tm':=zq4 (zq8 _)) rfl ?_
 refine xmj ([(b3,.cells #[.slice none 0 0,.slice none 0 0,.slice none 0 0] 25 (0,0)),(b2,.cells #[.slice none 0 0,.slice none 0 0,.slice none 0 0] 25 (0,0)),(b1,.cells #[(.slice a13 3 c14),(.slice a15 2 c16),(.slice a17 4 c18)] 25 (0,0))]:Pcs) mn Tryd.underlying22 tS3 tZ3 (Nat.le_of_ble_eq_true rfl) (vs:=[(0,.int .i64 5),(1,.int .i64 0)]) rfl rfl (es:=[[.int .i64 5],[.int .i64 0]]) rfl rfl rfl fun v22 X23 o24=>?_
 refine ro (xjv tZ43 tP43 (vs:=[(0,.int .i64 0),(1,.int .i64 0)]) rfl (cells:=#[.int .i64 0,.int .i64 0]) rfl) <| rt (xjv tZ43 tP43 (vs:=[(0,.int .i64 1),(1,.int .i64 1)]) rfl (cells:=#[.int .i64 1,.int .i64 1]) rfl) (tm':=zq1 (zq2 (zq4 (zq8 _)))) rfl ?_
 refine xmj ([(b3,.cells #[.slice none 0 0,.slice none 0 0,.slice none 0 0] 25 (0,0)),(b2,.cells #[.slice none 0 0,.slice none 0 0,.slice none 0 0] 25 (0,0)),(b1,.cells #[(.slice a13 3 c14),(.slice a15 2 c16),(.slice a17 4 c18)] 25 (0,0))]:Pcs) mn Tryd.underlying23 tS43 tZ43 (Nat.le_of_ble_eq_true rfl) (vs:=[(0,.agg #[.int .i64 0,.int .i64 0]),(1,.agg #[.int .i64 1,.int .i64 1])]) rfl rfl (es:=[[.int .i64 0,.int .i64 0],[.int .i64 1,.int .i64 1]]) rfl rfl rfl fun v25 X26 o27=>?_
 obtain ⟨a28,c29,ev_,_⟩:=o21.val;have ev_:v19= .slice a28 2 c29:=ev_.trans (congrArg (fun q_=>Value.slice a28 q_ c29) (show _=2 from rfl));subst ev_
 obtain ⟨a30,c31,ev_,_⟩:=o24.val;have ev_:v22= .slice a30 2 c31:=ev_.trans (congrArg (fun q_=>Value.slice a30 q_ c31) (show _=2 from rfl));subst ev_
 obtain ⟨a32,c33,ev_,_⟩:=o27.val;have ev_:v25= .slice a32 2 c33:=ev_.trans (congrArg (fun q_=>Value.slice a32 q_ c33) (show _=2 from rfl));subst ev_
 refine ro (xjv tZ25 tP25 (vs:=[(0,(.slice a28 2 c29)),(1,(.slice a30 2 c31)),(2,(.slice a32 2 c33))]) rfl (cells:=#[(.slice a28 2 c29),(.slice a30 2 c31),(.slice a32 2 c33)]) rfl) ?_
 refine xjk mn tS25 rfl (v:=.agg #[(.slice a28 2 c29),(.slice a30 2 c31),(.slice a32 2 c33)]) rfl (i:=1) rfl rfl (xfj o21.one.2 (xfj o24.one.2 (xfj o27.one.2 rfl))) (Nat.le_of_ble_eq_true rfl) (cs2:=[(.slice a28 2 c29),(.slice a30 2 c31),(.slice a32 2 c33)]) rfl (xcj (L':=([(b3,.cells #[.slice none 0 0,.slice none 0 0,.slice none 0 0] 25 (0,0)),(b2,.cells #[(.slice a28 2 c29),(.slice a30 2 c31),(.slice a32 2 c33)] 25 (0,0)),(b1,.cells #[(.slice a13 3 c14),(.slice a15 2 c16),(.slice a17 4 c18)] 25 (0,0))]:Pcs)++(X26++(X23++(X20++(X11++(X8++(X5++[]))))))) rfl ?_)
 refine ren <| xbq ?_
 refine xmj ([(b3,.cells #[.slice none 0 0,.slice none 0 0,.slice none 0 0] 25 (0,0)),(b2,.cells #[(.slice a28 2 c29),(.slice a30 2 c31),(.slice a32 2 c33)] 25 (0,0)),(b1,.cells #[(.slice a13 3 c14),(.slice a15 2 c16),(.slice a17 4 c18)] 25 (0,0))]:Pcs) mn Tryd.underlying22 tS3 tZ3 (Nat.le_of_ble_eq_true rfl) (vs:=[(0,.int .i64 1)]) rfl rfl (es:=[[.int .i64 1]]) rfl rfl rfl fun v34 X35 o36=>?_
 refine xgx (tm':=zq2 (zq8 (zq16 []))) rfl ?_
 refine xmj ([(b3,.cells #[.slice none 0 0,.slice none 0 0,.slice none 0 0] 25 (0,0)),(b2,.cells #[(.slice a28 2 c29),(.slice a30 2 c31),(.slice a32 2 c33)] 25 (0,0)),(b1,.cells #[(.slice a13 3 c14),(.slice a15 2 c16),(.slice a17 4 c18)] 25 (0,0))]:Pcs) mn Tryd.underlying22 tS3 tZ3 (Nat.le_of_ble_eq_true rfl) (vs:=[(0,.int .i64 1),(1,.int .i64 1)]) rfl rfl (es:=[[.int .i64 1],[.int .i64 1]]) rfl rfl rfl fun v37 X38 o39=>?_
 refine ro (xjv tZ43 tP43 (vs:=[(0,.int .i64 0),(1,.int .i64 0)]) rfl (cells:=#[.int .i64 0,.int .i64 0]) rfl) <| rt (xjv tZ43 tP43 (vs:=[(0,.int .i64 0),(1,.int .i64 1)]) rfl (cells:=#[.int .i64 0,.int .i64 1]) rfl) (tm':=zq2 (zq8 (zq16 []))) rfl ?_
 refine xmj ([(b3,.cells #[.slice none 0 0,.slice none 0 0,.slice none 0 0] 25 (0,0)),(b2,.cells #[(.slice a28 2 c29),(.slice a30 2 c31),(.slice a32 2 c33)] 25 (0,0)),(b1,.cells #[(.slice a13 3 c14),(.slice a15 2 c16),(.slice a17 4 c18)] 25 (0,0))]:Pcs) mn Tryd.underlying23 tS43 tZ43 (Nat.le_of_ble_eq_true rfl) (vs:=[(0,.agg #[.int .i64 0,.int .i64 0]),(1,.agg #[.int .i64 0,.int .i64 1])]) rfl rfl (es:=[[.int .i64 0,.int .i64 0],[.int .i64 0,.int .i64 1]]) rfl rfl rfl fun v40 X41 o42=>?_
 obtain ⟨a43,c44,ev_,_⟩:=o36.val;have ev_:v34= .slice a43 1 c44:=ev_.trans (congrArg (fun q_=>Value.slice a43 q_ c44) (show _=1 from rfl));subst ev_
 obtain ⟨a45,c46,ev_,_⟩:=o39.val;have ev_:v37= .slice a45 2 c46:=ev_.trans (congrArg (fun q_=>Value.slice a45 q_ c46) (show _=2 from rfl));subst ev_
 obtain ⟨a47,c48,ev_,_⟩:=o42.val;have ev_:v40= .slice a47 2 c48:=ev_.trans (congrArg (fun q_=>Value.slice a47 q_ c48) (show _=2 from rfl));subst ev_
 refine ro (xjv tZ25 tP25 (vs:=[(0,(.slice a43 1 c44)),(1,(.slice a45 2 c46)),(2,(.slice a47 2 c48))]) rfl (cells:=#[(.slice a43 1 c44),(.slice a45 2 c46),(.slice a47 2 c48)]) rfl) ?_
 refine xjk mn tS25 rfl (v:=.agg #[(.slice a43 1 c44),(.slice a45 2 c46),(.slice a47 2 c48)]) rfl (i:=0) rfl rfl (xfj o36.one.2 (xfj o39.one.2 (xfj o42.one.2 rfl))) (Nat.le_of_ble_eq_true rfl) (cs2:=[(.slice a43 1 c44),(.slice a45 2 c46),(.slice a47 2 c48)]) rfl (xcj (L':=([(b3,.cells #[(.slice a43 1 c44),(.slice a45 2 c46),(.slice a47 2 c48)] 25 (0,0)),(b2,.cells #[(.slice a28 2 c29),(.slice a30 2 c31),(.slice a32 2 c33)] 25 (0,0)),(b1,.cells #[(.slice a13 3 c14),(.slice a15 2 c16),(.slice a17 4 c18)] 25 (0,0))]:Pcs)++(X41++(X38++(X35++(X26++(X23++(X20++(X11++(X8++(X5++[])))))))))) rfl ?_)
 refine ren ?_
 refine ybx (xnq (C:=[]) (A:=([(b3,.cells #[(.slice a43 1 c44),(.slice a45 2 c46),(.slice a47 2 c48)] 25 (0,0)),(b2,.cells #[(.slice a28 2 c29),(.slice a30 2 c31),(.slice a32 2 c33)] 25 (0,0)),(b1,.cells #[(.slice a13 3 c14),(.slice a15 2 c16),(.slice a17 4 c18)] 25 (0,0))]:Pcs)) 5 [] [5,6,7,8,9,10,11,12,13] [5,6,7,8,9,10,11,12,13] [0,1,2,3,4] (fun i_=>match i_ with | 5=>X41 | 6=>X38 | 7=>X35 | 8=>X26 | 9=>X23 | 10=>X20 | 11=>X11 | 12=>X8 | 13=>X5 | _=>[]) (fun _=>[]) (fun i_=>match i_ with | 0=>[] | 1=>[] | 2=>[] | 3=>[0] | 4=>[0,1] | _=>[]) (fun i_ val_ pc_ v_ x_=>match i_ with | 0=>v_= .agg #[(.slice a13 3 c14),(.slice a15 2 c16),(.slice a17 4 c18)]∧x_=[] | 1=>v_= .agg #[(.slice a28 2 c29),(.slice a30 2 c31),(.slice a32 2 c33)]∧x_=[] | 2=>v_= .agg #[(.slice a43 1 c44),(.slice a45 2 c46),(.slice a47 2 c48)]∧x_=[] | 3=>v_=undef∧x_=[] | 4=>v_=undef∧x_=[] | _=>True) (fun val49=>[.pointer (some ⟨b1,0,none⟩),.pointer (some ⟨b2,0,none⟩),.pointer (some ⟨b3,0,none⟩),(.slice a13 3 c14),(.slice a15 2 c16),.agg #[.int .i64 0,.int .i64 0],.agg #[.int .i64 1,.int .i64 0],.agg #[.int .i64 1,.int .i64 1],.agg #[.int .i64 2,.int .i64 1],(.slice a17 4 c18),.agg #[(.slice a13 3 c14),(.slice a15 2 c16),(.slice a17 4 c18)],(.slice a28 2 c29),(.slice a30 2 c31),.agg #[.int .i64 0,.int .i64 0],.agg #[.int .i64 1,.int .i64 1],(.slice a32 2 c33),.agg #[(.slice a28 2 c29),(.slice a30 2 c31),(.slice a32 2 c33)],(.slice a43 1 c44),(.slice a45 2 c46),.agg #[.int .i64 0,.int .i64 0],.agg #[.int .i64 0,.int .i64 1],(.slice a47 2 c48),.agg #[(.slice a43 1 c44),(.slice a45 2 c46),(.slice a47 2 c48)],(val49 0),(val49 1),(val49 2)]) xlq (by kernel_rfl) (Nat.le_of_ble_eq_true rfl) (by kernel_rfl) (by kernel_rfl) (by kernel_rfl) (fun _ _=>⟨fun _ _ h=>h.2,⟨fun _ _ h=>h.2,⟨fun _ _ h=>h.2,⟨fun _ _ h=>h.2,⟨fun _ _ h=>h.2,trivial⟩⟩⟩⟩⟩) (fun _=>by kernel_rfl) (by kernel_rfl) ?_ ?_) (fun h_ H_=>St.swap (A:=([(b3,.cells #[(.slice a43 1 c44),(.slice a45 2 c46),(.slice a47 2 c48)] 25 (0,0)),(b2,.cells #[(.slice a28 2 c29),(.slice a30 2 c31),(.slice a32 2 c33)] 25 (0,0)),(b1,.cells #[(.slice a13 3 c14),(.slice a15 2 c16),(.slice a17 4 c18)] 25 (0,0))]:Pcs)) (U:=(X41++(X38++(X35++(X26++(X23++(X20++(X11++(X8++(X5++[])))))))))) H_)
 ·
  refine xbx rfl (xez ?_) ?_
  ·
   intro val49 pc50 hQ_ hX_
   obtain ⟨q_,hq0_⟩: ∃ q_:Value→Pcs→Prop,q_=(fun v_ x_=>v_= .agg #[(.slice a13 3 c14),(.slice a15 2 c16),(.slice a17 4 c18)]∧x_=[]):=⟨_,rfl⟩
   refine ⟨(zq2 (zq8 (zq16 []))),[],q_,rfl,rfl,(fun _ _ z_=>by subst hq0_;exact z_),?_⟩
   subst hq0_
   exact xdw mn (fun _ h_ H_=>xav H_ tA25 tS25 rfl (i:=2) rfl (vs:=[(.slice a13 3 c14),(.slice a15 2 c16),(.slice a17 4 c18)]) rfl rfl) ⟨rfl,rfl⟩
  refine xbx rfl (xez ?_) ?_
  ·
   intro val49 pc50 hQ_ hX_
   obtain ⟨q_,hq0_⟩: ∃ q_:Value→Pcs→Prop,q_=(fun v_ x_=>v_= .agg #[(.slice a28 2 c29),(.slice a30 2 c31),(.slice a32 2 c33)]∧x_=[]):=⟨_,rfl⟩
   refine ⟨(zq2 (zq8 (zq16 []))),[],q_,rfl,rfl,(fun _ _ z_=>by subst hq0_;exact z_),?_⟩
   subst hq0_
   exact xdw mn (fun _ h_ H_=>xav H_ tA25 tS25 rfl (i:=1) rfl (vs:=[(.slice a28 2 c29),(.slice a30 2 c31),(.slice a32 2 c33)]) rfl rfl) ⟨rfl,rfl⟩
  refine xbx rfl (xez ?_) ?_
  ·
   intro val49 pc50 hQ_ hX_
   obtain ⟨q_,hq0_⟩: ∃ q_:Value→Pcs→Prop,q_=(fun v_ x_=>v_= .agg #[(.slice a43 1 c44),(.slice a45 2 c46),(.slice a47 2 c48)]∧x_=[]):=⟨_,rfl⟩
   refine ⟨(zq2 (zq8 (zq16 []))),[],q_,rfl,rfl,(fun _ _ z_=>by subst hq0_;exact z_),?_⟩
   subst hq0_
   exact xdw mn (fun _ h_ H_=>xav H_ tA25 tS25 rfl (i:=0) rfl (vs:=[(.slice a43 1 c44),(.slice a45 2 c46),(.slice a47 2 c48)]) rfl rfl) ⟨rfl,rfl⟩
  refine xbx rfl (xez ?_) ?_
  ·
   intro val49 pc50 hQ_ hX_
   have e0_:val49 0= .agg #[(.slice a13 3 c14),(.slice a15 2 c16),(.slice a17 4 c18)]:=(hQ_ 0 rfl).1
   obtain ⟨q_,hq0_⟩: ∃ q_:Value→Pcs→Prop,q_=(fun v_ x_=>v_=undef∧x_=[]):=⟨_,rfl⟩
   refine ⟨(zq2 (zq8 (zq16 []))),[],q_,(by rw [e0_]),rfl,(fun _ _ z_=>by subst hq0_;exact z_),?_⟩
   subst hq0_
   exact zyz mn tS25 rfl (v:=.agg #[(.slice a13 3 c14),(.slice a15 2 c16),(.slice a17 4 c18)]) rfl (i:=2) (fun _=>rfl) rfl (xfj o6.one.2 (xfj o9.one.2 (xfj o12.one.2 rfl))) (Nat.le_of_ble_eq_true rfl) rfl ⟨rfl,rfl⟩
  refine xbx rfl (xez ?_) ?_
  ·
   intro val49 pc50 hQ_ hX_
   have e0_:val49 0= .agg #[(.slice a13 3 c14),(.slice a15 2 c16),(.slice a17 4 c18)]:=(hQ_ 0 rfl).1
   have e1_:val49 1= .agg #[(.slice a28 2 c29),(.slice a30 2 c31),(.slice a32 2 c33)]:=(hQ_ 1 rfl).1
   obtain ⟨q_,hq0_⟩: ∃ q_:Value→Pcs→Prop,q_=(fun v_ x_=>v_=undef∧x_=[]):=⟨_,rfl⟩
   refine ⟨(zq2 (zq8 (zq16 []))),[],q_,(by rw [e0_,e1_]),rfl,(fun _ _ z_=>by subst hq0_;exact z_),?_⟩
   subst hq0_
   exact zyz mn tS25 rfl (v:=.agg #[(.slice a28 2 c29),(.slice a30 2 c31),(.slice a32 2 c33)]) rfl (i:=1) (fun _=>rfl) rfl (xfj o21.one.2 (xfj o24.one.2 (xfj o27.one.2 rfl))) (Nat.le_of_ble_eq_true rfl) rfl ⟨rfl,rfl⟩
  exact xmw rfl
 intro val49 pc50 hQ_ hX_
 have e0_:val49 0= .agg #[(.slice a13 3 c14),(.slice a15 2 c16),(.slice a17 4 c18)]:=(hQ_ 0 (by decide)).1
 have e1_:val49 1= .agg #[(.slice a28 2 c29),(.slice a30 2 c31),(.slice a32 2 c33)]:=(hQ_ 1 (by decide)).1
 have e2_:val49 2= .agg #[(.slice a43 1 c44),(.slice a45 2 c46),(.slice a47 2 c48)]:=(hQ_ 2 (by decide)).1
 have x5_:pc50 5=X41:=hX_ 5 (by decide)
 have x6_:pc50 6=X38:=hX_ 6 (by decide)
 have x7_:pc50 7=X35:=hX_ 7 (by decide)
 have x8_:pc50 8=X26:=hX_ 8 (by decide)
 have x9_:pc50 9=X23:=hX_ 9 (by decide)
 have x10_:pc50 10=X20:=hX_ 10 (by decide)
 have x11_:pc50 11=X11:=hX_ 11 (by decide)
 have x12_:pc50 12=X8:=hX_ 12 (by decide)
 have x13_:pc50 13=X5:=hX_ 13 (by decide)
 clear hQ_ hX_
 refine yax (Φ:=fun h_=>St h [] (fun _=>none) h_ (([(b3,.cells #[(.slice a43 1 c44),(.slice a45 2 c46),(.slice a47 2 c48)] 25 (0,0)),(b2,.cells #[(.slice a28 2 c29),(.slice a30 2 c31),(.slice a32 2 c33)] 25 (0,0)),(b1,.cells #[(.slice a13 3 c14),(.slice a15 2 c16),(.slice a17 4 c18)] 25 (0,0))]:Pcs)++(pc50 5++(pc50 6++(pc50 7++(pc50 8++(pc50 9++(pc50 10++(pc50 11++(pc50 12++(pc50 13++[]))))))))))) ?_ (fun h_ H_=>H_.swap')
 rw [x5_,x6_,x7_,x8_,x9_,x10_,x11_,x12_,x13_]
 refine xgx (tm':=(zq2 (zq8 (zq16 [])))) (by rw [e0_,e1_,e2_]) ?_
 refine xjk mn tS25 rfl (v:=.agg #[(.slice a43 1 c44),(.slice a45 2 c46),(.slice a47 2 c48)]) rfl (i:=0) rfl rfl (xfj o36.one.2 (xfj o39.one.2 (xfj o42.one.2 rfl))) (Nat.le_of_ble_eq_true rfl) (cs2:=[(.slice a43 1 c44),(.slice a45 2 c46),(.slice a47 2 c48)]) rfl (xcj (L':=([(b3,.cells #[(.slice a43 1 c44),(.slice a45 2 c46),(.slice a47 2 c48)] 25 (0,0)),(b2,.cells #[(.slice a28 2 c29),(.slice a30 2 c31),(.slice a32 2 c33)] 25 (0,0)),(b1,.cells #[(.slice a13 3 c14),(.slice a15 2 c16),(.slice a17 4 c18)] 25 (0,0))]:Pcs)++(X41++(X38++(X35++(X26++(X23++(X20++(X11++(X8++(X5++[])))))))))) rfl ?_)
 refine xak ?_
 refine xew Tryd.func63 rfl (vs:=[.agg #[(.slice a13 3 c14),(.slice a15 2 c16),(.slice a17 4 c18)],.agg #[(.slice a28 2 c29),(.slice a30 2 c31),(.slice a32 2 c33)],.agg #[(.slice a43 1 c44),(.slice a45 2 c46),(.slice a47 2 c48)]]) (fun h_ H_=>⟨.agg #[(.slice a13 3 c14),(.slice a15 2 c16),(.slice a17 4 c18)],_,rfl,(xbk (xbw (xox tA25 tS25 (vs:=[(.slice a13 3 c14),(.slice a15 2 c16),(.slice a17 4 c18)]) rfl (fun j_ v_ e_=>by rw [xoq];exact H_.ocell (i:=2) rfl (by simpa using e_)) ⟨rfl,rfl⟩))),⟨.agg #[(.slice a28 2 c29),(.slice a30 2 c31),(.slice a32 2 c33)],_,rfl,(xbk (xbw (xox tA25 tS25 (vs:=[(.slice a28 2 c29),(.slice a30 2 c31),(.slice a32 2 c33)]) rfl (fun j_ v_ e_=>by rw [xoq];exact H_.ocell (i:=1) rfl (by simpa using e_)) ⟨rfl,rfl⟩))),⟨.agg #[(.slice a43 1 c44),(.slice a45 2 c46),(.slice a47 2 c48)],_,rfl,(xbk (xbw (xox tA25 tS25 (vs:=[(.slice a43 1 c44),(.slice a45 2 c46),(.slice a47 2 c48)]) rfl (fun j_ v_ e_=>by rw [xoq];exact H_.ocell (i:=0) rfl (by simpa using e_)) ⟨rfl,rfl⟩))),rfl⟩⟩⟩) (v:=.tuple #[.agg #[(.slice a13 3 c14),(.slice a15 2 c16),(.slice a17 4 c18)],.agg #[(.slice a28 2 c29),(.slice a30 2 c31),(.slice a32 2 c33)],.agg #[(.slice a43 1 c44),(.slice a45 2 c46),(.slice a47 2 c48)]]) rfl ?_
 refine xgj (List.Perm.append_left _ (List.Perm.append_left _ (List.Perm.append_left _ (List.Perm.append_left _ (List.Perm.append_left _ (List.Perm.append_left _ (List.Perm.append_left _ (List.Perm.append_left _ (List.perm_append_comm_assoc _ _ _))))))))) ?_
 refine xgj (List.Perm.append_left _ (List.Perm.append_left _ (List.Perm.append_left _ (List.Perm.append_left _ (List.Perm.append_left _ (List.Perm.append_left _ (List.Perm.append_left _ (List.perm_append_comm_assoc _ _ _)))))))) ?_
 refine xgj (List.Perm.append_left _ (List.Perm.append_left _ (List.Perm.append_left _ (List.Perm.append_left _ (List.Perm.append_left _ (List.Perm.append_left _ (List.perm_append_comm_assoc _ _ _))))))) ?_
 refine xgj (List.Perm.append_left _ (List.Perm.append_left _ (List.Perm.append_left _ (List.Perm.append_left _ (List.Perm.append_left _ (List.perm_append_comm_assoc _ _ _)))))) ?_
 refine xgj (List.Perm.append_left _ (List.Perm.append_left _ (List.Perm.append_left _ (List.Perm.append_left _ (List.perm_append_comm_assoc _ _ _))))) ?_
 refine xgj (List.Perm.append_left _ (List.Perm.append_left _ (List.Perm.append_left _ (List.perm_append_comm_assoc _ _ _)))) ?_
 refine xgj (List.Perm.append_left _ (List.Perm.append_left _ (List.perm_append_comm_assoc _ _ _))) ?_
 refine xgj (List.Perm.append_left _ (List.perm_append_comm_assoc _ _ _)) ?_
 refine xgj (List.Perm.append_left _ (List.Perm.append_left _ (List.Perm.append_left _ (List.Perm.append_left _ (List.Perm.append_left _ (List.Perm.append_left _ (List.Perm.append_left _ (List.Perm.append_left _ (List.perm_append_comm_assoc _ _ _))))))))) ?_
 refine xgj (List.Perm.append_left _ (List.Perm.append_left _ (List.Perm.append_left _ (List.Perm.append_left _ (List.Perm.append_left _ (List.Perm.append_left _ (List.Perm.append_left _ (List.perm_append_comm_assoc _ _ _)))))))) ?_
 refine xgj (List.Perm.append_left _ (List.Perm.append_left _ (List.Perm.append_left _ (List.Perm.append_left _ (List.Perm.append_left _ (List.Perm.append_left _ (List.perm_append_comm_assoc _ _ _))))))) ?_
 refine xgj (List.Perm.append_left _ (List.Perm.append_left _ (List.Perm.append_left _ (List.Perm.append_left _ (List.Perm.append_left _ (List.perm_append_comm_assoc _ _ _)))))) ?_
 refine xgj (List.Perm.append_left _ (List.Perm.append_left _ (List.Perm.append_left _ (List.Perm.append_left _ (List.perm_append_comm_assoc _ _ _))))) ?_
 refine xgj (List.Perm.append_left _ (List.Perm.append_left _ (List.Perm.append_left _ (List.perm_append_comm_assoc _ _ _)))) ?_
 refine xgj (List.Perm.append_left _ (List.Perm.append_left _ (List.perm_append_comm_assoc _ _ _))) ?_
 refine xgj (List.Perm.append_left _ (List.Perm.append_left _ (List.Perm.append_left _ (List.Perm.append_left _ (List.Perm.append_left _ (List.Perm.append_left _ (List.Perm.append_left _ (List.Perm.append_left _ (List.perm_append_comm_assoc _ _ _))))))))) ?_
 refine xgj (List.Perm.append_left _ (List.Perm.append_left _ (List.Perm.append_left _ (List.Perm.append_left _ (List.Perm.append_left _ (List.Perm.append_left _ (List.Perm.append_left _ (List.perm_append_comm_assoc _ _ _)))))))) ?_
 refine xgj (List.Perm.append_left _ (List.Perm.append_left _ (List.Perm.append_left _ (List.Perm.append_left _ (List.Perm.append_left _ (List.Perm.append_left _ (List.perm_append_comm_assoc _ _ _))))))) ?_
 refine xgj (List.Perm.append_left _ (List.Perm.append_left _ (List.Perm.append_left _ (List.Perm.append_left _ (List.Perm.append_left _ (List.perm_append_comm_assoc _ _ _)))))) ?_
 refine xgj (List.Perm.append_left _ (List.Perm.append_left _ (List.Perm.append_left _ (List.Perm.append_left _ (List.perm_append_comm_assoc _ _ _))))) ?_
 refine xgj (List.Perm.append_left _ (List.Perm.append_left _ (List.Perm.append_left _ (List.perm_append_comm_assoc _ _ _)))) ?_
 refine xgj (List.Perm.append_left _ (List.Perm.append_left _ (List.Perm.append_left _ (List.Perm.append_left _ (List.Perm.append_left _ (List.Perm.append_left _ (List.Perm.append_left _ (List.Perm.append_left _ (List.perm_append_comm_assoc _ _ _))))))))) ?_
 refine xgj (List.Perm.append_left _ (List.Perm.append_left _ (List.Perm.append_left _ (List.Perm.append_left _ (List.Perm.append_left _ (List.Perm.append_left _ (List.Perm.append_left _ (List.perm_append_comm_assoc _ _ _)))))))) ?_
 refine xgj (List.Perm.append_left _ (List.Perm.append_left _ (List.Perm.append_left _ (List.Perm.append_left _ (List.Perm.append_left _ (List.Perm.append_left _ (List.perm_append_comm_assoc _ _ _))))))) ?_
 refine xgj (List.Perm.append_left _ (List.Perm.append_left _ (List.Perm.append_left _ (List.Perm.append_left _ (List.Perm.append_left _ (List.perm_append_comm_assoc _ _ _)))))) ?_
 refine xgj (List.Perm.append_left _ (List.Perm.append_left _ (List.Perm.append_left _ (List.Perm.append_left _ (List.perm_append_comm_assoc _ _ _))))) ?_
 refine xgj (List.Perm.append_left _ (List.Perm.append_left _ (List.Perm.append_left _ (List.Perm.append_left _ (List.Perm.append_left _ (List.Perm.append_left _ (List.Perm.append_left _ (List.Perm.append_left _ (List.perm_append_comm_assoc _ _ _))))))))) ?_
 refine xgj (List.Perm.append_left _ (List.Perm.append_left _ (List.Perm.append_left _ (List.Perm.append_left _ (List.Perm.append_left _ (List.Perm.append_left _ (List.Perm.append_left _ (List.perm_append_comm_assoc _ _ _)))))))) ?_
 refine xgj (List.Perm.append_left _ (List.Perm.append_left _ (List.Perm.append_left _ (List.Perm.append_left _ (List.Perm.append_left _ (List.Perm.append_left _ (List.perm_append_comm_assoc _ _ _))))))) ?_
 refine xgj (List.Perm.append_left _ (List.Perm.append_left _ (List.Perm.append_left _ (List.Perm.append_left _ (List.Perm.append_left _ (List.perm_append_comm_assoc _ _ _)))))) ?_
 refine xgj (List.Perm.append_left _ (List.Perm.append_left _ (List.Perm.append_left _ (List.Perm.append_left _ (List.Perm.append_left _ (List.Perm.append_left _ (List.Perm.append_left _ (List.Perm.append_left _ (List.perm_append_comm_assoc _ _ _))))))))) ?_
 refine xgj (List.Perm.append_left _ (List.Perm.append_left _ (List.Perm.append_left _ (List.Perm.append_left _ (List.Perm.append_left _ (List.Perm.append_left _ (List.Perm.append_left _ (List.perm_append_comm_assoc _ _ _)))))))) ?_
 refine xgj (List.Perm.append_left _ (List.Perm.append_left _ (List.Perm.append_left _ (List.Perm.append_left _ (List.Perm.append_left _ (List.Perm.append_left _ (List.perm_append_comm_assoc _ _ _))))))) ?_
 refine xgj (List.Perm.append_left _ (List.Perm.append_left _ (List.Perm.append_left _ (List.Perm.append_left _ (List.Perm.append_left _ (List.Perm.append_left _ (List.Perm.append_left _ (List.Perm.append_left _ (List.perm_append_comm_assoc _ _ _))))))))) ?_
 refine xgj (List.Perm.append_left _ (List.Perm.append_left _ (List.Perm.append_left _ (List.Perm.append_left _ (List.Perm.append_left _ (List.Perm.append_left _ (List.Perm.append_left _ (List.perm_append_comm_assoc _ _ _)))))))) ?_
 refine xgj (List.Perm.append_left _ (List.Perm.append_left _ (List.Perm.append_left _ (List.Perm.append_left _ (List.Perm.append_left _ (List.Perm.append_left _ (List.Perm.append_left _ (List.Perm.append_left _ (List.perm_append_comm_assoc _ _ _))))))))) ?_
 refine xkv (L':=([(b3,.cells #[(.slice a43 1 c44),(.slice a45 2 c46),(.slice a47 2 c48)] 25 (0,0)),(b2,.cells #[(.slice a28 2 c29),(.slice a30 2 c31),(.slice a32 2 c33)] 25 (0,0)),(b1,.cells #[(.slice a13 3 c14),(.slice a15 2 c16),(.slice a17 4 c18)] 25 (0,0))]:Pcs)++(X5++(X8++(X11++(X20++(X23++(X26++(X35++(X38++(X41++[])))))))))) rfl ?_
 exact fun h_ H_=>K _ _ ⟨_,_,_,_,_,_,_,_,_,_,_,_,_,_,_,_,_,_,rfl,o6,o9,o12,o21,o24,o27,o36,o39,o42,by simpa using H_.dropA.new⟩
theorem c16 (md:Md) (h:Heap) (p:PHeap) (hp:Per p h) (N:NoneP p) (Z:TabP p):CallsX Tryd.prog md 16 #[] h fun v h'=>v= .bool true∧Keep h h':=by
 refine xcw (Φ:=fun h_=>St h [] p h_ []) Tryd.func16 rfl (tm:=zq1 (zq2 (zq32 (zq32 (zq32 []))))) rfl ?_ (St.start h _ hp)
 intro c₀ cs Stop K
 have nB1:exB.nH=3:=rfl
 have nB2:exB.nW=2:=rfl
 have nB3:exB.m=4:=rfl
 have nC1:exC.nH=2:=rfl
 have nC2:exC.nW=2:=rfl
 have nC3:exC.m=2:=rfl
 have nD1:exD.nH=1:=rfl
 have nD2:exD.nW=2:=rfl
 have nD3:exD.m=2:=rfl
 have mostB_:mostC exB=7:=by rw [mostC,if_pos ymx,vhz]
 have lkB_:LKc exB=[2,2,1]:=by rw [zhk ymx,lkE_B]
 have shoC_:shortC exC=[1]:=by rw [yex wrz,vdx]
 have shoE_:shortE exC=0:=zdk wrz (by rw [vdx];decide)
 have nl1_:(LKc exB).length=3:=by rw [lkB_];rfl
 have nl2_:(shortC exC).length=1:=by rw [shoC_];rfl
 have wA_:wayA exC 1 0=0:=by rw [zpk (by omega),askB,if_pos wrz];simp;omega
 have wayE_:wayE exC 1 0=0:=whw wA_ (by decide)
 have wayB__:wayB exC 1 0=true:=by rw [wix wA_ (by decide)];exact decide_eq_true wayE_C
 have askB_:askB exB (decide (0≤(0:Int)∧(0:Int)≤(exB.nH:Int)-1))=0:=by rw [askB,if_pos ymx];simp;omega
 have askD_:askB exD (decide (0≤(0:Int)∧(0:Int)≤(exD.nW:Int)-1))=0:=by rw [askB,if_pos chkE_D];simp;omega
 have houB1_:houseC exB 0 (-1)=3:=by rw [yek askB_,vik]
 have houB2_:houseC exB 0 1=4:=by rw [yek askB_,vij]
 have dryD_:dryC exD 0=3:=by rw [ylk askD_,dryE_D]
 refine fsr <| rt (xax (v:=.bool (false)) rfl) (tm':=_::_) rfl <| ren <| xbq ?_
 refine xcj (L':=([]:Pcs)++[]) rfl ?_
 refine xjq mn (first:=[]) (cap:=[]) rfl rfl fC63 (R:=fun v_ h_=>∃ w1:Value,∃ w4:Value,∃ w7:Value,∃ w10:Value,∃ w13:Value,∃ w16:Value,∃ w19:Value,∃ w22:Value,∃ w25:Value,∃ X2:Pcs,∃ X5:Pcs,∃ X8:Pcs,∃ X11:Pcs,∃ X14:Pcs,∃ X17:Pcs,∃ X20:Pcs,∃ X23:Pcs,∃ X26:Pcs,v_= .tuple #[.agg #[w1,w4,w7],.agg #[w10,w13,w16],.agg #[w19,w22,w25]]∧(OwnS 3 1 w1 (ics exB.hs) X2)∧(OwnS 3 1 w4 (ics exB.ws) X5)∧(OwnS 43 2 w7 (wcs exB.wy) X8)∧(OwnS 3 1 w10 (ics exC.hs) X11)∧(OwnS 3 1 w13 (ics exC.ws) X14)∧(OwnS 43 2 w16 (wcs exC.wy) X17)∧(OwnS 3 1 w19 (ics exD.hs) X20)∧(OwnS 3 1 w22 (ics exD.ws) X23)∧(OwnS 43 2 w25 (wcs exD.wy) X26)∧St h [] p h_ (([]:Pcs)++((X2++(X5++(X8++(X11++(X14++(X17++(X20++(X23++(X26++[])))))))))++[]))) (fun h_ H_=>(c63 md _).mono fun v_ h2_ ⟨w1,w4,w7,w10,w13,w16,w19,w22,w25,X2,X5,X8,X11,X14,X17,X20,X23,X26,e_,o3,o6,o9,o12,o15,o18,o21,o24,o27,N_⟩=>⟨w1,w4,w7,w10,w13,w16,w19,w22,w25,X2,X5,X8,X11,X14,X17,X20,X23,X26,e_,o3,o6,o9,o12,o15,o18,o21,o24,o27,H_.callNA N_⟩) fun v_=>?_
 refine xfv fun w1=>xfv fun w4=>xfv fun w7=>xfv fun w10=>xfv fun w13=>xfv fun w16=>xfv fun w19=>xfv fun w22=>xfv fun w25=>xfv fun X2=>xfv fun X5=>xfv fun X8=>xfv fun X11=>xfv fun X14=>xfv fun X17=>xfv fun X20=>xfv fun X23=>xfv fun X26=>xfz fun ev_=>xfz fun o3=>xfz fun o6=>xfz fun o9=>xfz fun o12=>xfz fun o15=>xfz fun o18=>xfz fun o21=>xfz fun o24=>xfz fun o27=>?_
 have ev_:=ev_.symm;subst ev_
 refine xcj (L':=([]:Pcs)++(X2++(X5++(X8++(X11++(X14++(X17++(X20++(X23++(X26++[])))))))))) (by simp) ?_
 refine ro (xaq (v:=.tuple #[.agg #[w1,w4,w7],.agg #[w10,w13,w16],.agg #[w19,w22,w25]]) rfl) <| rt (xdx rfl (v:=.agg #[w1,w4,w7]) rfl) (tm':=zq1 (zq2 (zq16 _))) rfl <| ro (xdx rfl (v:=.agg #[w10,w13,w16]) rfl) <| ro (xdx rfl (v:=.agg #[w19,w22,w25]) rfl) ?_
 refine xkz mn tZ25 rfl fun b28=>xcj (L':=([(b28,.cells #[.slice none 0 0,.slice none 0 0,.slice none 0 0] 25 (0,0))]:Pcs)++(X2++(X5++(X8++(X11++(X14++(X17++(X20++(X23++(X26++[])))))))))) rfl ?_
 refine xgx (tm':=_::_::_) rfl ?_
 refine xkz mn tZ25 rfl fun b29=>xcj (L':=([(b29,.cells #[.slice none 0 0,.slice none 0 0,.slice none 0 0] 25 (0,0)),(b28,.cells #[.slice none 0 0,.slice none 0 0,.slice none 0 0] 25 (0,0))]:Pcs)++(X2++(X5++(X8++(X11++(X14++(X17++(X20++(X23++(X26++[])))))))))) rfl ?_
 refine xkz mn tZ25 rfl fun b30=>xcj (L':=([(b30,.cells #[.slice none 0 0,.slice none 0 0,.slice none 0 0] 25 (0,0)),(b29,.cells #[.slice none 0 0,.slice none 0 0,.slice none 0 0] 25 (0,0)),(b28,.cells #[.slice none 0 0,.slice none 0 0,.slice none 0 0] 25 (0,0))]:Pcs)++(X2++(X5++(X8++(X11++(X14++(X17++(X20++(X23++(X26++[])))))))))) rfl ?_
 refine xjk mn tS25 rfl (v:=.agg #[w1,w4,w7]) rfl (i:=2) rfl rfl (xfj o3.one.2 (xfj o6.one.2 (xfj o9.one.2 rfl))) (Nat.le_of_ble_eq_true rfl) (cs2:=[w1,w4,w7]) rfl (xcj (L':=([(b30,.cells #[.slice none 0 0,.slice none 0 0,.slice none 0 0] 25 (0,0)),(b29,.cells #[.slice none 0 0,.slice none 0 0,.slice none 0 0] 25 (0,0)),(b28,.cells #[w1,w4,w7] 25 (0,0))]:Pcs)++(X2++(X5++(X8++(X11++(X14++(X17++(X20++(X23++(X26++[])))))))))) rfl ?_)
 refine xjk mn tS25 rfl (v:=.agg #[w10,w13,w16]) rfl (i:=1) rfl rfl (xfj o12.one.2 (xfj o15.one.2 (xfj o18.one.2 rfl))) (Nat.le_of_ble_eq_true rfl) (cs2:=[w10,w13,w16]) rfl (xcj (L':=([(b30,.cells #[.slice none 0 0,.slice none 0 0,.slice none 0 0] 25 (0,0)),(b29,.cells #[w10,w13,w16] 25 (0,0)),(b28,.cells #[w1,w4,w7] 25 (0,0))]:Pcs)++(X2++(X5++(X8++(X11++(X14++(X17++(X20++(X23++(X26++[])))))))))) rfl ?_)
 refine xjk mn tS25 rfl (v:=.agg #[w19,w22,w25]) rfl (i:=0) rfl rfl (xfj o21.one.2 (xfj o24.one.2 (xfj o27.one.2 rfl))) (Nat.le_of_ble_eq_true rfl) (cs2:=[w19,w22,w25]) rfl (xcj (L':=([(b30,.cells #[w19,w22,w25] 25 (0,0)),(b29,.cells #[w10,w13,w16] 25 (0,0)),(b28,.cells #[w1,w4,w7] 25 (0,0))]:Pcs)++(X2++(X5++(X8++(X11++(X14++(X17++(X20++(X23++(X26++[])))))))))) rfl ?_)
 refine ren ?_
 refine xwv (A:=([(b30,.cells #[w19,w22,w25] 25 (0,0)),(b29,.cells #[w10,w13,w16] 25 (0,0)),(b28,.cells #[w1,w4,w7] 25 (0,0))]:Pcs)) o3 ((xck _).trans rfl) (by decide) fun p31 a32 cp33 le34 ev_ D35 hcD35=>?_
 subst ev_
 refine xwv (A:=([(b30,.cells #[w19,w22,w25] 25 (0,0)),(b29,.cells #[w10,w13,w16] 25 (0,0)),(b28,.cells #[.slice a32 exB.nH cp33,w4,w7] 25 (0,0))]:Pcs)) o6 ((xck _).trans rfl) (by decide) fun p36 a37 cp38 le39 ev_ D40 hcD40=>?_
 subst ev_
 refine xwv (A:=([(b30,.cells #[w19,w22,w25] 25 (0,0)),(b29,.cells #[w10,w13,w16] 25 (0,0)),(b28,.cells #[.slice a32 exB.nH cp33,.slice a37 exB.nW cp38,w7] 25 (0,0))]:Pcs)) o9 (show (wcs exB.wy).length=exB.m from rfl) (by decide) fun p41 a42 cp43 le44 ev_ D45 hcD45=>?_
 subst ev_
 refine xwv (A:=([(b30,.cells #[w19,w22,w25] 25 (0,0)),(b29,.cells #[w10,w13,w16] 25 (0,0)),(b28,.cells #[.slice a32 exB.nH cp33,.slice a37 exB.nW cp38,.slice a42 exB.m cp43] 25 (0,0))]:Pcs)) o12 ((xck _).trans rfl) (by decide) fun p46 a47 cp48 le49 ev_ D50 hcD50=>?_
 subst ev_
 refine xwv (A:=([(b30,.cells #[w19,w22,w25] 25 (0,0)),(b29,.cells #[.slice a47 exC.nH cp48,w13,w16] 25 (0,0)),(b28,.cells #[.slice a32 exB.nH cp33,.slice a37 exB.nW cp38,.slice a42 exB.m cp43] 25 (0,0))]:Pcs)) o15 ((xck _).trans rfl) (by decide) fun p51 a52 cp53 le54 ev_ D55 hcD55=>?_
 subst ev_
 refine xwv (A:=([(b30,.cells #[w19,w22,w25] 25 (0,0)),(b29,.cells #[.slice a47 exC.nH cp48,.slice a52 exC.nW cp53,w16] 25 (0,0)),(b28,.cells #[.slice a32 exB.nH cp33,.slice a37 exB.nW cp38,.slice a42 exB.m cp43] 25 (0,0))]:Pcs)) o18 (show (wcs exC.wy).length=exC.m from rfl) (by decide) fun p56 a57 cp58 le59 ev_ D60 hcD60=>?_
 subst ev_
 refine xwv (A:=([(b30,.cells #[w19,w22,w25] 25 (0,0)),(b29,.cells #[.slice a47 exC.nH cp48,.slice a52 exC.nW cp53,.slice a57 exC.m cp58] 25 (0,0)),(b28,.cells #[.slice a32 exB.nH cp33,.slice a37 exB.nW cp38,.slice a42 exB.m cp43] 25 (0,0))]:Pcs)) o21 ((xck _).trans rfl) (by decide) fun p61 a62 cp63 le64 ev_ D65 hcD65=>?_
 subst ev_
 refine xwv (A:=([(b30,.cells #[.slice a62 exD.nH cp63,w22,w25] 25 (0,0)),(b29,.cells #[.slice a47 exC.nH cp48,.slice a52 exC.nW cp53,.slice a57 exC.m cp58] 25 (0,0)),(b28,.cells #[.slice a32 exB.nH cp33,.slice a37 exB.nW cp38,.slice a42 exB.m cp43] 25 (0,0))]:Pcs)) o24 ((xck _).trans rfl) (by decide) fun p66 a67 cp68 le69 ev_ D70 hcD70=>?_
 subst ev_
 refine xwv (A:=([(b30,.cells #[.slice a62 exD.nH cp63,.slice a67 exD.nW cp68,w25] 25 (0,0)),(b29,.cells #[.slice a47 exC.nH cp48,.slice a52 exC.nW cp53,.slice a57 exC.m cp58] 25 (0,0)),(b28,.cells #[.slice a32 exB.nH cp33,.slice a37 exB.nW cp38,.slice a42 exB.m cp43] 25 (0,0))]:Pcs)) o27 (show (wcs exD.wy).length=exD.m from rfl) (by decide) fun p71 a72 cp73 le74 ev_ D75 hcD75=>?_
 subst ev_
 refine xkv (L':=[(b30,.cells #[.slice a62 exD.nH cp63,.slice a67 exD.nW cp68,.slice a72 exD.m cp73] 25 (0,0)),(b29,.cells #[.slice a47 exC.nH cp48,.slice a52 exC.nW cp53,.slice a57 exC.m cp58] 25 (0,0)),(b28,.cells #[.slice a32 exB.nH cp33,.slice a37 exB.nW cp38,.slice a42 exB.m cp43] 25 (0,0))]) rfl ?_
 refine xbq ?_
 refine xaw mn (fun h_ H_=>xav H_ tA25 tS25 rfl (i:=2) rfl (vs:=[.slice a32 exB.nH cp33,.slice a37 exB.nW cp38,.slice a42 exB.m cp43]) rfl rfl) (tm':=zq1 (zq2 (zq4 (zq16 _)))) rfl ?_
 refine xcx mn (first:=[]) (cap:=[]) rfl rfl fC28 (fun h_ H_=>c28 md _ _ H_.pe _ _ _ _ _ _ exB (show TownP _ _ _ _ _ _ _ exB from ⟨(((((((((show Ints _ _ _ exB.hs from D35).mono le39).mono le44).mono le49).mono le54).mono le59).mono le64).mono le69).mono le74),((((((((show Ints _ _ _ exB.ws from D40).mono le44).mono le49).mono le54).mono le59).mono le64).mono le69).mono le74),(((((((show Wys _ _ _ exB.wy from D45).mono le49).mono le54).mono le59).mono le64).mono le69).mono le74)⟩) (by omega) (((((((((N.mono le34).mono le39).mono le44).mono le49).mono le54).mono le59).mono le64).mono le69).mono le74)) rfl ?_
 refine ro (xaq (v:=.tuple #[.int .i64 (mostC exB),.int .i64 (chkB exB)]) rfl) <| rt (xdx rfl (v:=.int .i64 (mostC exB)) rfl) (tm':=zq1 (zq8 (zq16 _))) rfl <| ro (xdx rfl (v:=.int .i64 (chkB exB)) rfl) <| ro (xax (v:=.int .i64 (mostC exB)) rfl) <| rt (xax (v:=.int .i64 (chkB exB)) rfl) (tm':=zq2 (zq4 _)) rfl <| ren ?_
 refine xbq <| rd (fun h_ H_=>xav H_ tA25 tS25 rfl (i:=2) rfl (vs:=[.slice a32 exB.nH cp33,.slice a37 exB.nW cp38,.slice a42 exB.m cp43]) rfl rfl) ?_
 refine xcj (L':=([(b30,.cells #[.slice a62 exD.nH cp63,.slice a67 exD.nW cp68,.slice a72 exD.m cp73] 25 (0,0)),(b29,.cells #[.slice a47 exC.nH cp48,.slice a52 exC.nW cp53,.slice a57 exC.m cp58] 25 (0,0)),(b28,.cells #[.slice a32 exB.nH cp33,.slice a37 exB.nW cp38,.slice a42 exB.m cp43] 25 (0,0))]:Pcs)++[]) rfl ?_
 refine xjq mn (first:=[]) (cap:=[]) rfl rfl fC43 (R:=fun v_ h_=>∃ w76:Value,∃ X77:Pcs,v_= .tuple #[w76,.int .i64 (chkB exB)]∧(OwnS 3 1 w76 (ics (LKc exB)) X77)∧St h [] p71 h_ (([(b30,.cells #[.slice a62 exD.nH cp63,.slice a67 exD.nW cp68,.slice a72 exD.m cp73] 25 (0,0)),(b29,.cells #[.slice a47 exC.nH cp48,.slice a52 exC.nW cp53,.slice a57 exC.m cp58] 25 (0,0)),(b28,.cells #[.slice a32 exB.nH cp33,.slice a37 exB.nW cp38,.slice a42 exB.m cp43] 25 (0,0))]:Pcs)++(X77++[]))) (fun h_ H_=>(c43 md _ _ H_.pe _ _ _ _ _ _ exB (show TownP _ _ _ _ _ _ _ exB from ⟨(((((((((show Ints _ _ _ exB.hs from D35).mono le39).mono le44).mono le49).mono le54).mono le59).mono le64).mono le69).mono le74),((((((((show Ints _ _ _ exB.ws from D40).mono le44).mono le49).mono le54).mono le59).mono le64).mono le69).mono le74),(((((((show Wys _ _ _ exB.wy from D45).mono le49).mono le54).mono le59).mono le64).mono le69).mono le74)⟩) (by omega) (((((((((N.mono le34).mono le39).mono le44).mono le49).mono le54).mono le59).mono le64).mono le69).mono le74)).mono fun v_ h2_ ⟨w76,X77,e_,o78,N_⟩=>⟨w76,X77,e_,o78,H_.callNA N_⟩) fun v_=>?_
 refine xfv fun w76=>xfv fun X77=>xfz fun ev_=>xfz fun o78=>?_
 have ev_:=ev_.symm;subst ev_
 refine xcj (L':=([(b30,.cells #[.slice a62 exD.nH cp63,.slice a67 exD.nW cp68,.slice a72 exD.m cp73] 25 (0,0)),(b29,.cells #[.slice a47 exC.nH cp48,.slice a52 exC.nW cp53,.slice a57 exC.m cp58] 25 (0,0)),(b28,.cells #[.slice a32 exB.nH cp33,.slice a37 exB.nW cp38,.slice a42 exB.m cp43] 25 (0,0))]:Pcs)++(X77++[])) rfl ?_
 refine rt (xaq (v:=.tuple #[w76,.int .i64 (chkB exB)]) rfl) (tm':=zq1 (zq2 (zq8 (zq16 _)))) rfl <| ro (xdx rfl (v:=w76) rfl) <| ro (xdx rfl (v:=.int .i64 (chkB exB)) rfl) <| rt (xax (v:=w76) rfl) (tm':=zq1 (zq2 (zq4 _))) rfl <| ro (xax (v:=.int .i64 (chkB exB)) rfl) <| ren ?_
 refine xbq <| rd (fun h_ H_=>xav H_ tA25 tS25 rfl (i:=2) rfl (vs:=[.slice a32 exB.nH cp33,.slice a37 exB.nW cp38,.slice a42 exB.m cp43]) rfl rfl) ?_
 refine xcx mn (first:=[]) (cap:=[]) rfl rfl fC18 (fun h_ H_=>c18 md _ _ H_.pe _ _ _ _ _ _ exB (show TownP _ _ _ _ _ _ _ exB from ⟨(((((((((show Ints _ _ _ exB.hs from D35).mono le39).mono le44).mono le49).mono le54).mono le59).mono le64).mono le69).mono le74),((((((((show Ints _ _ _ exB.ws from D40).mono le44).mono le49).mono le54).mono le59).mono le64).mono le69).mono le74),(((((((show Wys _ _ _ exB.wy from D45).mono le49).mono le54).mono le59).mono le64).mono le69).mono le74)⟩) (by omega) (0) (((((((((N.mono le34).mono le39).mono le44).mono le49).mono le54).mono le59).mono le64).mono le69).mono le74)) (tm':=zq2 (zq32 _)) rfl ?_
 refine ro (xaq (v:=.tuple #[.agg #[.int .i64 (houseC exB (0) (-1)),.int .i64 (houseC exB (0) 1)],.int .i64 (askB exB (decide (0≤0∧0≤(exB.nH:Int)-1)))]) rfl) <| ro (xdx rfl (v:=.agg #[.int .i64 (houseC exB (0) (-1)),.int .i64 (houseC exB (0) 1)]) rfl) <| rt (xdx rfl (v:=.int .i64 (askB exB (decide (0≤0∧0≤(exB.nH:Int)-1)))) rfl) (tm':=zq4 (zq32 _)) rfl ?_
 refine xkz mn tZ30 rfl fun b79=>xcj (L':=([(b79,.cells #[.int .i64 0,.int .i64 0] 30 (0,0)),(b30,.cells #[.slice a62 exD.nH cp63,.slice a67 exD.nW cp68,.slice a72 exD.m cp73] 25 (0,0)),(b29,.cells #[.slice a47 exC.nH cp48,.slice a52 exC.nW cp53,.slice a57 exC.m cp58] 25 (0,0)),(b28,.cells #[.slice a32 exB.nH cp33,.slice a37 exB.nW cp38,.slice a42 exB.m cp43] 25 (0,0))]:Pcs)++(X77++[])) rfl ?_
 refine xjk mn tS30 rfl (v:=.agg #[.int .i64 (houseC exB (0) (-1)),.int .i64 (houseC exB (0) 1)]) rfl (i:=0) rfl rfl rfl (Nat.le_of_ble_eq_true rfl) (cs2:=[.int .i64 (houseC exB (0) (-1)),.int .i64 (houseC exB (0) 1)]) rfl (xcj (L':=([(b79,.cells #[.int .i64 (houseC exB (0) (-1)),.int .i64 (houseC exB (0) 1)] 30 (0,0)),(b30,.cells #[.slice a62 exD.nH cp63,.slice a67 exD.nW cp68,.slice a72 exD.m cp73] 25 (0,0)),(b29,.cells #[.slice a47 exC.nH cp48,.slice a52 exC.nW cp53,.slice a57 exC.m cp58] 25 (0,0)),(b28,.cells #[.slice a32 exB.nH cp33,.slice a37 exB.nW cp38,.slice a42 exB.m cp43] 25 (0,0))]:Pcs)++(X77++[])) rfl ?_)
 refine ro (xax (v:=.int .i64 (askB exB (decide (0≤0∧0≤(exB.nH:Int)-1)))) rfl) <| ren <| xbq ?_
 refine xaw mn (fun h_ H_=>xav H_ tA25 tS25 rfl (i:=2) rfl (vs:=[.slice a47 exC.nH cp48,.slice a52 exC.nW cp53,.slice a57 exC.m cp58]) rfl rfl) (tm':=zq2 (zq4 (zq32 _))) rfl ?_
 refine xjq mn (first:=[]) (cap:=[]) rfl rfl fC25 (R:=fun v_ h_=>∃ w80:Value,∃ X81:Pcs,v_= .tuple #[w80,.int .i64 (shortE exC)]∧(OwnS 3 1 w80 (ics (shortC exC)) X81)∧St h [] p71 h_ (([(b79,.cells #[.int .i64 (houseC exB (0) (-1)),.int .i64 (houseC exB (0) 1)] 30 (0,0)),(b30,.cells #[.slice a62 exD.nH cp63,.slice a67 exD.nW cp68,.slice a72 exD.m cp73] 25 (0,0)),(b29,.cells #[.slice a47 exC.nH cp48,.slice a52 exC.nW cp53,.slice a57 exC.m cp58] 25 (0,0)),(b28,.cells #[.slice a32 exB.nH cp33,.slice a37 exB.nW cp38,.slice a42 exB.m cp43] 25 (0,0))]:Pcs)++(X81++(X77++[])))) (fun h_ H_=>(c25 md _ _ H_.pe _ _ _ _ _ _ exC (show TownP _ _ _ _ _ _ _ exC from ⟨((((((show Ints _ _ _ exC.hs from D50).mono le54).mono le59).mono le64).mono le69).mono le74),(((((show Ints _ _ _ exC.ws from D55).mono le59).mono le64).mono le69).mono le74),((((show Wys _ _ _ exC.wy from D60).mono le64).mono le69).mono le74)⟩) (by omega) (((((((((Z.mono le34).mono le39).mono le44).mono le49).mono le54).mono le59).mono le64).mono le69).mono le74)).mono fun v_ h2_ ⟨w80,X81,e_,o82,N_⟩=>⟨w80,X81,e_,o82,H_.callNA N_⟩) fun v_=>?_
 refine xfv fun w80=>xfv fun X81=>xfz fun ev_=>xfz fun o82=>?_
 have ev_:=ev_.symm;subst ev_
 refine xcj (L':=([(b79,.cells #[.int .i64 (houseC exB (0) (-1)),.int .i64 (houseC exB (0) 1)] 30 (0,0)),(b30,.cells #[.slice a62 exD.nH cp63,.slice a67 exD.nW cp68,.slice a72 exD.m cp73] 25 (0,0)),(b29,.cells #[.slice a47 exC.nH cp48,.slice a52 exC.nW cp53,.slice a57 exC.m cp58] 25 (0,0)),(b28,.cells #[.slice a32 exB.nH cp33,.slice a37 exB.nW cp38,.slice a42 exB.m cp43] 25 (0,0))]:Pcs)++(X81++(X77++[]))) rfl ?_
 refine ro (xaq (v:=.tuple #[w80,.int .i64 (shortE exC)]) rfl) <| rt (xdx rfl (v:=w80) rfl) (tm':=zq8 (zq32 _)) rfl <| ro (xdx rfl (v:=.int .i64 (shortE exC)) rfl) <| ro (xax (v:=w80) rfl) <| rt (xax (v:=.int .i64 (shortE exC)) rfl) (tm':=zq4 (zq8 _)) rfl <| ren ?_
 refine xbq <| rd (fun h_ H_=>xav H_ tA25 tS25 rfl (i:=2) rfl (vs:=[.slice a47 exC.nH cp48,.slice a52 exC.nW cp53,.slice a57 exC.m cp58]) rfl rfl) ?_
 refine xcx mn (first:=[]) (cap:=[]) rfl rfl fC55 (fun h_ H_=>c55 md _ _ H_.pe _ _ _ _ _ _ exC (show TownP _ _ _ _ _ _ _ exC from ⟨((((((show Ints _ _ _ exC.hs from D50).mono le54).mono le59).mono le64).mono le69).mono le74),(((((show Ints _ _ _ exC.ws from D55).mono le59).mono le64).mono le69).mono le74),((((show Wys _ _ _ exC.wy from D60).mono le64).mono le69).mono le74)⟩) (by omega) (hcD60) (1) (0) (((((((((N.mono le34).mono le39).mono le44).mono le49).mono le54).mono le59).mono le64).mono le69).mono le74)) rfl ?_
 refine rt (xaq (v:=.tuple #[.bool (wayB exC (1) (0)),.int .i64 (wayE exC (1) (0))]) rfl) (tm':=zq2 (zq8 (zq32 _))) rfl <| ro (xdx rfl (v:=.bool (wayB exC (1) (0))) rfl) <| ro (xdx rfl (v:=.int .i64 (wayE exC (1) (0))) rfl) <| rt (xax (v:=.bool (wayB exC (1) (0))) rfl) (tm':=zq1 (zq4 (zq8 _))) rfl <| ro (xax (v:=.int .i64 (wayE exC (1) (0))) rfl) <| ren ?_
 refine xbq <| rd (fun h_ H_=>xav H_ tA25 tS25 rfl (i:=1) rfl (vs:=[.slice a62 exD.nH cp63,.slice a67 exD.nW cp68,.slice a72 exD.m cp73]) rfl rfl) ?_
 refine xcx mn (first:=[]) (cap:=[]) rfl rfl fC20 (fun h_ H_=>c20 md _ _ H_.pe _ _ _ _ _ _ exD (show TownP _ _ _ _ _ _ _ exD from ⟨(((show Ints _ _ _ exD.hs from D65).mono le69).mono le74),((show Ints _ _ _ exD.ws from D70).mono le74),(show Wys _ _ _ exD.wy from D75)⟩) (by omega) (0) (((((((((N.mono le34).mono le39).mono le44).mono le49).mono le54).mono le59).mono le64).mono le69).mono le74)) (tm':=zq1 (zq16 (zq32 _))) rfl ?_
 refine ro (xaq (v:=.tuple #[.int .i64 (dryC exD (0)),.int .i64 (askB exD (decide (0≤0∧0≤(exD.nW:Int)-1)))]) rfl) <| ro (xdx rfl (v:=.int .i64 (dryC exD (0))) rfl) <| rt (xdx rfl (v:=.int .i64 (askB exD (decide (0≤0∧0≤(exD.nW:Int)-1)))) rfl) (tm':=zq1 (zq2 (zq16 (zq32 _)))) rfl <| ro (xax (v:=.int .i64 (dryC exD (0))) rfl) <| ro (xax (v:=.int .i64 (askB exD (decide (0≤0∧0≤(exD.nW:Int)-1)))) rfl) <| ren ?_
 refine xbq <| rt (xaq (v:=.int .i64 (chkB exB)) rfl) (tm':=zq4 (zq16 (zq32 _))) rfl <| ro (xjx rfl rfl) <| ro (xaq (v:=.bool (decide (chkB exB=0))) rfl) ?_
 refine xaw (ms rfl rfl (decide_eq_true ymx)) (fun h_ H_=>xaq (v:=.int .i64 (chkB exB)) rfl) (tm':=zq1 (zq2 (zq4 (zq16 (zq32 _))))) rfl ?_
 refine xaw (ms rfl rfl (decide_eq_true ymx)) (fun h_ H_=>xjx rfl rfl) rfl ?_
 refine ro (xbj rfl (decide_eq_true ymx) (v:=.bool (decide (chkB exB=0))) rfl) <| rt (xaq (v:=.bool (decide (chkB exB=0))) rfl) (tm':=zq2 (zq8 (zq16 (zq32 _)))) rfl ?_
 refine xaw (ms rfl rfl (decide_eq_true ymx)) (fun h_ H_=>xaq (v:=.int .i64 (askB exB (decide (0≤0∧0≤(exB.nH:Int)-1)))) rfl) rfl ?_
 refine xaw (ms rfl rfl (decide_eq_true ymx)) (fun h_ H_=>xjx rfl rfl) rfl ?_
 refine rt (xbj rfl (decide_eq_true ymx) (v:=.bool (decide (askB exB (decide (0≤0∧0≤(exB.nH:Int)-1))=0))) rfl) (tm':=zq1 (zq4 (zq8 (zq16 (zq32 _))))) rfl <| ro (xaq (v:=.bool (decide (askB exB (decide (0≤0∧0≤(exB.nH:Int)-1))=0))) rfl) ?_
 refine xaw (ms rfl rfl (decide_eq_true askB_)) (fun h_ H_=>xaq (v:=.int .i64 (shortE exC)) rfl) rfl ?_
 refine xaw (ms rfl rfl (decide_eq_true askB_)) (fun h_ H_=>xjx rfl rfl) (tm':=zq32 (zq32 _)) rfl ?_
 refine ro (xbj rfl (decide_eq_true askB_) (v:=.bool (decide (shortE exC=0))) rfl) <| ro (xaq (v:=.bool (decide (shortE exC=0))) rfl) ?_
 refine xaw (ms rfl rfl (decide_eq_true shoE_)) (fun h_ H_=>xaq (v:=.int .i64 (wayE exC (1) (0))) rfl) (tm':=zq1 (zq2 (zq32 (zq32 (zq32 []))))) rfl ?_
 refine xaw (ms rfl rfl (decide_eq_true shoE_)) (fun h_ H_=>xjx rfl rfl) rfl ?_
 refine ro (xbj rfl (decide_eq_true shoE_) (v:=.bool (decide (wayE exC (1) (0)=0))) rfl) <| rt (xaq (v:=.bool (decide (wayE exC (1) (0)=0))) rfl) (tm':=zq1 (zq2 (zq32 (zq32 (zq32 []))))) rfl ?_
 refine xaw (ms rfl rfl (decide_eq_true wayE_)) (fun h_ H_=>xaq (v:=.int .i64 (askB exD (decide (0≤0∧0≤(exD.nW:Int)-1)))) rfl) rfl ?_
 refine xaw (ms rfl rfl (decide_eq_true wayE_)) (fun h_ H_=>xjx rfl rfl) rfl ?_
 refine rt (xbj rfl (decide_eq_true wayE_) (v:=.bool (decide (askB exD (decide (0≤0∧0≤(exD.nW:Int)-1))=0))) rfl) (tm':=zq1 (zq2 (zq32 (zq32 (zq32 []))))) rfl <| ro (xaq (v:=.bool (decide (askB exD (decide (0≤0∧0≤(exD.nW:Int)-1))=0))) rfl) ?_
 refine xaw (ms rfl rfl (decide_eq_true askD_)) (fun h_ H_=>xaq (v:=.int .i64 (mostC exB)) rfl) rfl ?_
 refine xaw (ms rfl rfl (decide_eq_true askD_)) (fun h_ H_=>xjx rfl rfl) (tm':=zq1 (zq2 (zq32 (zq32 (zq32 []))))) rfl ?_
 refine ro (xbj rfl (decide_eq_true askD_) (v:=.bool (decide (mostC exB=7))) rfl) <| ro (xaq (v:=.bool (decide (mostC exB=7))) rfl) ?_
 refine xaw (ms rfl rfl (decide_eq_true mostB_)) (fun h_ H_=>xaq (v:=w76) rfl) (tm':=zq1 (zq2 (zq32 (zq32 (zq32 []))))) rfl ?_
 refine xmj ([(b79,.cells #[.int .i64 (houseC exB (0) (-1)),.int .i64 (houseC exB (0) 1)] 30 (0,0)),(b30,.cells #[.slice a62 exD.nH cp63,.slice a67 exD.nW cp68,.slice a72 exD.m cp73] 25 (0,0)),(b29,.cells #[.slice a47 exC.nH cp48,.slice a52 exC.nW cp53,.slice a57 exC.m cp58] 25 (0,0)),(b28,.cells #[.slice a32 exB.nH cp33,.slice a37 exB.nW cp38,.slice a42 exB.m cp43] 25 (0,0))]:Pcs) (ms rfl rfl (decide_eq_true mostB_)) Tryd.underlying22 tS3 tZ3 (Nat.le_of_ble_eq_true rfl) (vs:=[(0,.int .i64 2),(1,.int .i64 2),(2,.int .i64 1)]) rfl rfl (es:=[[.int .i64 2],[.int .i64 2],[.int .i64 1]]) rfl rfl rfl fun v83 X84 o85=>?_
 refine xlw (List.Perm.append_left _ (List.Perm.append_left _ (List.perm_append_comm_assoc _ _ _))) ?_
 refine xlw (List.Perm.append_left _ (List.perm_append_comm_assoc _ _ _)) ?_
 refine xcj (L':=([(b79,.cells #[.int .i64 (houseC exB (0) (-1)),.int .i64 (houseC exB (0) 1)] 30 (0,0)),(b30,.cells #[.slice a62 exD.nH cp63,.slice a67 exD.nW cp68,.slice a72 exD.m cp73] 25 (0,0)),(b29,.cells #[.slice a47 exC.nH cp48,.slice a52 exC.nW cp53,.slice a57 exC.m cp58] 25 (0,0)),(b28,.cells #[.slice a32 exB.nH cp33,.slice a37 exB.nW cp38,.slice a42 exB.m cp43] 25 (0,0))]:Pcs)++(X77++(X84++(X81++[])))) rfl ?_
 refine xzq (A:=([(b79,.cells #[.int .i64 (houseC exB (0) (-1)),.int .i64 (houseC exB (0) 1)] 30 (0,0)),(b30,.cells #[.slice a62 exD.nH cp63,.slice a67 exD.nW cp68,.slice a72 exD.m cp73] 25 (0,0)),(b29,.cells #[.slice a47 exC.nH cp48,.slice a52 exC.nW cp53,.slice a57 exC.m cp58] 25 (0,0)),(b28,.cells #[.slice a32 exB.nH cp33,.slice a37 exB.nW cp38,.slice a42 exB.m cp43] 25 (0,0))]:Pcs)) o78 ((xck _).trans rfl) fun p86 a87 cp88 le89 ev_ D90=>?_
 subst ev_
 refine xzq (A:=([(b79,.cells #[.int .i64 (houseC exB (0) (-1)),.int .i64 (houseC exB (0) 1)] 30 (0,0)),(b30,.cells #[.slice a62 exD.nH cp63,.slice a67 exD.nW cp68,.slice a72 exD.m cp73] 25 (0,0)),(b29,.cells #[.slice a47 exC.nH cp48,.slice a52 exC.nW cp53,.slice a57 exC.m cp58] 25 (0,0)),(b28,.cells #[.slice a32 exB.nH cp33,.slice a37 exB.nW cp38,.slice a42 exB.m cp43] 25 (0,0))]:Pcs)) o85 (show _=3 from rfl) fun p91 a92 cp93 le94 ev_ D95=>?_
 subst ev_
 refine xcx (ms rfl rfl (decide_eq_true mostB_)) (first:=[]) (cap:=[]) rfl rfl fC27 (fun h_ H_=>c27 md _ _ H_.pe _ _ _ _ _ _ _ _ ((show Ints _ _ _ (LKc exB) from D90).mono le94) (show Ints _ _ _ [2,2,1] from D95) (by omega)) rfl ?_
 refine rt (xbj rfl (decide_eq_true mostB_) (v:=.bool (decide ((LKc exB)=[2,2,1]))) rfl) (tm':=zq1 (zq2 (zq32 (zq32 (zq32 []))))) rfl <| ro (xaq (v:=.bool (decide ((LKc exB)=[2,2,1]))) rfl) ?_
 refine xaw (ms rfl rfl (decide_eq_true lkB_)) (fun h_ H_=>xav H_ tA30 tS30 rfl (i:=0) rfl (vs:=[.int .i64 (houseC exB (0) (-1)),.int .i64 (houseC exB (0) 1)]) rfl rfl) rfl ?_
 refine xaw (ms rfl rfl (decide_eq_true lkB_)) (fun h_ H_=>xjv tZ30 tP30 (vs:=[(0,.int .i64 3),(1,.int .i64 4)]) rfl (cells:=#[.int .i64 3,.int .i64 4]) rfl) (tm':=zq1 (zq2 (zq32 (zq32 (zq32 []))))) rfl ?_
 refine xaw (ms rfl rfl (decide_eq_true lkB_)) (fun h_ H_=>yyq gT30 (spanEq 9998 _ _ _ _) rfl rfl) rfl ?_
 refine ro (xbj rfl (decide_eq_true lkB_) (v:=.bool (decide (houseC exB (0) (-1)=3∧houseC exB (0) 1=4))) rfl) <| rt (xaq (v:=.bool (decide (houseC exB (0) (-1)=3∧houseC exB (0) 1=4))) rfl) (tm':=zq1 (zq2 (zq32 (zq32 (zq32 []))))) rfl ?_
 refine xaw (ms rfl rfl (decide_eq_true ⟨houB1_,houB2_⟩)) (fun h_ H_=>xaq (v:=w80) rfl) rfl ?_
 refine xmj ([(b79,.cells #[.int .i64 (houseC exB (0) (-1)),.int .i64 (houseC exB (0) 1)] 30 (0,0)),(b30,.cells #[.slice a62 exD.nH cp63,.slice a67 exD.nW cp68,.slice a72 exD.m cp73] 25 (0,0)),(b29,.cells #[.slice a47 exC.nH cp48,.slice a52 exC.nW cp53,.slice a57 exC.m cp58] 25 (0,0)),(b28,.cells #[.slice a32 exB.nH cp33,.slice a37 exB.nW cp38,.slice a42 exB.m cp43] 25 (0,0))]:Pcs) (ms rfl rfl (decide_eq_true ⟨houB1_,houB2_⟩)) Tryd.underlying22 tS3 tZ3 (Nat.le_of_ble_eq_true rfl) (vs:=[(0,.int .i64 1)]) rfl rfl (es:=[[.int .i64 1]]) rfl rfl rfl fun v96 X97 o98=>?_
 refine xlw (List.Perm.append_left _ (List.perm_append_comm_assoc _ _ _)) ?_
 refine xcj (L':=([(b79,.cells #[.int .i64 (houseC exB (0) (-1)),.int .i64 (houseC exB (0) 1)] 30 (0,0)),(b30,.cells #[.slice a62 exD.nH cp63,.slice a67 exD.nW cp68,.slice a72 exD.m cp73] 25 (0,0)),(b29,.cells #[.slice a47 exC.nH cp48,.slice a52 exC.nW cp53,.slice a57 exC.m cp58] 25 (0,0)),(b28,.cells #[.slice a32 exB.nH cp33,.slice a37 exB.nW cp38,.slice a42 exB.m cp43] 25 (0,0))]:Pcs)++(X81++(X97++[]))) rfl ?_
 refine xzq (A:=([(b79,.cells #[.int .i64 (houseC exB (0) (-1)),.int .i64 (houseC exB (0) 1)] 30 (0,0)),(b30,.cells #[.slice a62 exD.nH cp63,.slice a67 exD.nW cp68,.slice a72 exD.m cp73] 25 (0,0)),(b29,.cells #[.slice a47 exC.nH cp48,.slice a52 exC.nW cp53,.slice a57 exC.m cp58] 25 (0,0)),(b28,.cells #[.slice a32 exB.nH cp33,.slice a37 exB.nW cp38,.slice a42 exB.m cp43] 25 (0,0))]:Pcs)) o82 ((xck _).trans rfl) fun p99 a100 cp101 le102 ev_ D103=>?_
 subst ev_
 refine xzq (A:=([(b79,.cells #[.int .i64 (houseC exB (0) (-1)),.int .i64 (houseC exB (0) 1)] 30 (0,0)),(b30,.cells #[.slice a62 exD.nH cp63,.slice a67 exD.nW cp68,.slice a72 exD.m cp73] 25 (0,0)),(b29,.cells #[.slice a47 exC.nH cp48,.slice a52 exC.nW cp53,.slice a57 exC.m cp58] 25 (0,0)),(b28,.cells #[.slice a32 exB.nH cp33,.slice a37 exB.nW cp38,.slice a42 exB.m cp43] 25 (0,0))]:Pcs)) o98 (show _=1 from rfl) fun p104 a105 cp106 le107 ev_ D108=>?_
 subst ev_
 refine xcj (L':=[(b79,.cells #[.int .i64 (houseC exB (0) (-1)),.int .i64 (houseC exB (0) 1)] 30 (0,0)),(b30,.cells #[.slice a62 exD.nH cp63,.slice a67 exD.nW cp68,.slice a72 exD.m cp73] 25 (0,0)),(b29,.cells #[.slice a47 exC.nH cp48,.slice a52 exC.nW cp53,.slice a57 exC.m cp58] 25 (0,0)),(b28,.cells #[.slice a32 exB.nH cp33,.slice a37 exB.nW cp38,.slice a42 exB.m cp43] 25 (0,0))]) rfl ?_
 refine xcx (ms rfl rfl (decide_eq_true ⟨houB1_,houB2_⟩)) (first:=[]) (cap:=[]) rfl rfl fC27 (fun h_ H_=>c27 md _ _ H_.pe _ _ _ _ _ _ _ _ ((show Ints _ _ _ (shortC exC) from D103).mono le107) (show Ints _ _ _ [1] from D108) (by omega)) (tm':=zq1 (zq2 (zq32 (zq32 (zq32 []))))) rfl ?_
 refine ro (xbj rfl (decide_eq_true ⟨houB1_,houB2_⟩) (v:=.bool (decide ((shortC exC)=[1]))) rfl) <| ro (xaq (v:=.bool (decide ((shortC exC)=[1]))) rfl) ?_
 refine xaw (ms rfl rfl (decide_eq_true shoC_)) (fun h_ H_=>xaq (v:=.bool (wayB exC (1) (0))) rfl) (tm':=zq1 (zq2 (zq32 (zq32 (zq32 []))))) rfl ?_
 refine ro (xbj rfl (decide_eq_true shoC_) (v:=.bool (wayB exC (1) (0))) rfl) <| ro (xaq (v:=.bool (wayB exC (1) (0))) rfl) ?_
 refine xaw (ms rfl rfl wayB__) (fun h_ H_=>xaq (v:=.int .i64 (dryC exD (0))) rfl) (tm':=zq1 (zq2 (zq32 (zq32 (zq32 []))))) rfl ?_
 refine xaw (ms rfl rfl wayB__) (fun h_ H_=>xjx rfl rfl) rfl ?_
 refine ro (xbj rfl wayB__ (v:=.bool (decide (dryC exD (0)=3))) rfl) <| rt (xax (v:=.bool (decide (dryC exD (0)=3))) rfl) (tm':=_::_) rfl <| xak ?_
 refine xew Tryd.func16 rfl (vs:=[.bool (decide (dryC exD (0)=3))]) (fun h_ H_=>⟨.bool (decide (dryC exD (0)=3)),_,rfl,rfl,rfl⟩) (v:=.bool (decide (dryC exD (0)=3))) rfl ?_
 exact fun h_ H_=>K _ _ ⟨congrArg Value.bool (decide_eq_true dryD_),H_.kept⟩
end Go.Proofs.YtalfgojocdonhaaDoor
namespace Go.Proofs.YtalfgojocdonhaaDoor
open Go.X Go.X.Flow Go.Conc
set_option maxRecDepth 10000
set_option synthInstance.maxSize 2000

set_option maxHeartbeats 2000000
theorem cb46 (md:Md) (h:Heap) (p:PHeap) (hp:Per p h) (a1 a2 a3:Option Addr) (c1 c2 c3:Nat) (t:Tn) (_T:TownP p a1 t.nH a2 t.nW a3 t.m t) (hl:t.nH≤9223372036854775807∧t.nW≤9223372036854775807∧t.m≤9223372036854775807):CallsX Tryd.prog md 46 #[.agg #[.slice a1 t.nH c1,.slice a2 t.nW c2,.slice a3 t.m c3]] h fun v h'=>v= .bool (decide (Big t))∧Keep h h':=by
 refine xcw (Φ:=fun h_=>St h [] p h_ []) Tryd.func46 rfl (tm:=zq1 (zq2 (zq16 []))) rfl ?_ (St.start h _ hp)
 intro c₀ cs Stop K
 refine fsr ?_
 refine xiw mn (v:=.agg #[.slice a1 t.nH c1,.slice a2 t.nW c2,.slice a3 t.m c3]) rfl fun b1=>xcj (L':=[(b1,.cells #[.slice a1 t.nH c1,.slice a2 t.nW c2,.slice a3 t.m c3] 25 (0,0))]) rfl ?_
 refine ro (xax (v:=.bool (false)) rfl) <| ren <| xbq <| rt (xaz xmz rfl (a':=⟨b1,0,none⟩) rfl) (tm':=zq4 _) rfl <| rd (fun h_ H_=>xaj H_ tA22 rfl (i:=0) rfl (v:=.slice a1 t.nH c1) rfl) <| ro (xfk Tryd.underlying22 rfl) ?_
 refine rt (xix rfl rfl) (tm':=zq1 (zq2 (zq4 _))) rfl <| ro (xaq (v:=.bool (decide (40<((t.nH:Nat):Int)))) rfl) ?_
 by_cases cc2:40<((t.nH:Nat):Int)
 ·
  refine rp (mo rfl rfl (dtt cc2)) <| xfq (mo rfl rfl (dtt cc2)) (tm':=zq2 (zq8 _)) rfl <| rp (mo rfl rfl (dtt cc2)) <| rp (mo rfl rfl (dtt cc2)) <| rt (xbj rfl (dtt cc2) (v:=.bool (true)) rfl) (tm':=zq1 (zq2 (zq16 []))) rfl <| ro (xaq (v:=.bool (true)) rfl) ?_
  refine rp (mo rfl rfl rfl) <| xfq (mo rfl rfl rfl) (tm':=zq1 (zq2 (zq16 []))) rfl <| rp (mo rfl rfl rfl) <| rp (mo rfl rfl rfl) <| rt (xbj rfl rfl (v:=.bool (true)) rfl) (tm':=zq1 (zq2 (zq16 []))) rfl <| ro (xax (v:=.bool (true)) rfl) ?_
  refine xak ?_
  refine xew Tryd.func46 rfl (vs:=[.bool (true)]) (fun h_ H_=>⟨.bool (true),_,rfl,rfl,rfl⟩) (v:=.bool (true)) rfl ?_
  exact fun h_ H_=>K _ _ ⟨by congr 1;rw [Bool.eq_iff_iff,decide_eq_true_eq];first | (simp;omega) | (simp [*];done) | (simp [*];omega),H_.kept⟩
 ·
  refine xaw (ms rfl rfl (dff cc2)) (fun h_ H_=>xaz xnj rfl (a':=⟨b1,1,none⟩) rfl) rfl ?_
  refine xaw (ms rfl rfl (dff cc2)) (fun h_ H_=>xaj H_ tA22 rfl (i:=0) rfl (v:=.slice a2 t.nW c2) rfl) (tm':=zq2 (zq8 _)) rfl ?_
  refine xaw (ms rfl rfl (dff cc2)) (fun h_ H_=>xfk Tryd.underlying22 rfl) rfl ?_
  refine xaw (ms rfl rfl (dff cc2)) (fun h_ H_=>xix rfl rfl) rfl ?_
  refine rt (xcq rfl (dff cc2) (v:=.bool (decide (40<((t.nW:Nat):Int)))) rfl) (tm':=zq1 (zq2 (zq16 []))) rfl <| ro (xaq (v:=.bool (decide (40<((t.nW:Nat):Int)))) rfl) ?_
  by_cases cc3:40<((t.nW:Nat):Int)
  ·
   refine rp (mo rfl rfl (dtt cc3)) <| xfq (mo rfl rfl (dtt cc3)) (tm':=zq1 (zq2 (zq16 []))) rfl <| rp (mo rfl rfl (dtt cc3)) <| rp (mo rfl rfl (dtt cc3)) <| rt (xbj rfl (dtt cc3) (v:=.bool (true)) rfl) (tm':=zq1 (zq2 (zq16 []))) rfl <| ro (xax (v:=.bool (true)) rfl) ?_
   refine xak ?_
   refine xew Tryd.func46 rfl (vs:=[.bool (true)]) (fun h_ H_=>⟨.bool (true),_,rfl,rfl,rfl⟩) (v:=.bool (true)) rfl ?_
   exact fun h_ H_=>K _ _ ⟨by congr 1;rw [Bool.eq_iff_iff,decide_eq_true_eq];first | (simp;omega) | (simp [*];done) | (simp [*];omega),H_.kept⟩
  ·
   refine xaw (ms rfl rfl (dff cc3)) (fun h_ H_=>xaz xhv rfl (a':=⟨b1,2,none⟩) rfl) rfl ?_
   refine xaw (ms rfl rfl (dff cc3)) (fun h_ H_=>xaj H_ tA23 rfl (i:=0) rfl (v:=.slice a3 t.m c3) rfl) (tm':=zq1 (zq2 (zq16 []))) rfl ?_
   refine xaw (ms rfl rfl (dff cc3)) (fun h_ H_=>xfk Tryd.underlying23 rfl) rfl ?_
   refine xaw (ms rfl rfl (dff cc3)) (fun h_ H_=>xix rfl rfl) rfl ?_
   refine rt (xcq rfl (dff cc3) (v:=.bool (decide (40<((t.m:Nat):Int)))) rfl) (tm':=zq1 (zq2 (zq16 []))) rfl <| ro (xax (v:=.bool (decide (40<((t.m:Nat):Int)))) rfl) <| xak ?_
   refine xew Tryd.func46 rfl (vs:=[.bool (decide (40<((t.m:Nat):Int)))]) (fun h_ H_=>⟨.bool (decide (40<((t.m:Nat):Int))),_,rfl,rfl,rfl⟩) (v:=.bool (decide (40<((t.m:Nat):Int)))) rfl ?_
   exact fun h_ H_=>K _ _ ⟨by congr 1;rw [Bool.eq_iff_iff,decide_eq_true_eq];first | (simp;omega) | (simp [*];done) | (simp [*];omega),H_.kept⟩
theorem c15 (md:Md) (h:Heap) (p:PHeap) (hp:Per p h) (a1 a2 a3:Option Addr) (c1 c2 c3:Nat) (t:Tn) (T:TownP p a1 t.nH a2 t.nW a3 t.m t) (hl:t.nH≤9223372036854775807∧t.nW≤9223372036854775807∧t.m≤9223372036854775807):CallsX Tryd.prog md 15 #[.agg #[.slice a1 t.nH c1,.slice a2 t.nW c2,.slice a3 t.m c3]] h fun v h'=>v= .bool (farB t)∧Keep h h':=by
 refine xcw (Φ:=fun h_=>St h [] p h_ []) Tryd.func15 rfl (tm:=zq1 (zq2 (zq8 (zq32 [])))) rfl ?_ (St.start h _ hp)
 intro c₀ cs Stop K
 refine fsr ?_
 refine xiw mn (v:=.agg #[.slice a1 t.nH c1,.slice a2 t.nW c2,.slice a3 t.m c3]) rfl fun b1=>xcj (L':=[(b1,.cells #[.slice a1 t.nH c1,.slice a2 t.nW c2,.slice a3 t.m c3] 25 (0,0))]) rfl ?_
 refine rt (xax (v:=.bool (false)) rfl) (tm':=_::_::_::_) rfl <| ren <| fsr <| rd (fun h_ H_=>xav H_ tA25 tS25 rfl (i:=0) rfl (vs:=[.slice a1 t.nH c1,.slice a2 t.nW c2,.slice a3 t.m c3]) rfl rfl) ?_
 refine xcx mn (first:=[]) (cap:=[]) rfl rfl fC46 (fun h_ H_=>cb46 md _ _ H_.pe _ _ _ _ _ _ t (show TownP _ _ _ _ _ _ _ t from ⟨T.h,T.w,T.y⟩) hl) rfl ?_
 refine xak ?_
 by_cases cc2:Big t
 ·
  refine xdk rfl (dtt cc2) <| fsr <| rt (xax (v:=.bool (true)) rfl) (tm':=_::_::_::_) rfl <| xak ?_
  refine xew Tryd.func15 rfl (vs:=[.bool (true)]) (fun h_ H_=>⟨.bool (true),_,rfl,rfl,rfl⟩) (v:=.bool (true)) rfl ?_
  exact fun h_ H_=>K _ _ ⟨by rw [zzv ‹_›],H_.kept⟩
 ·
  refine xcv rfl (dff cc2) <| xdq <| xej <| xej ?_
  have hn:t.nH≤40∧t.nW≤40∧t.m≤41:=by have z_:=‹¬ Big t›;unfold Big at z_;omega
  refine xbq <| rd (fun h_ H_=>xav H_ tA25 tS25 rfl (i:=0) rfl (vs:=[.slice a1 t.nH c1,.slice a2 t.nW c2,.slice a3 t.m c3]) rfl rfl) ?_
  refine xcx mn (first:=[]) (cap:=[]) rfl rfl fC48 (fun h_ H_=>c48 md _ _ H_.pe _ _ _ _ _ _ _ _ _ t (show TownP _ _ _ _ _ _ _ t from ⟨T.h,T.w,T.y⟩) (by omega)) rfl ?_
  refine rt (xhw rfl rfl) (tm':=zq2 (zq8 _)) rfl <| xak ?_
  by_cases cc3:chkB t≠0
  ·
   refine xdk rfl (dtt cc3) <| fsr <| ro (xax (v:=.bool (false)) rfl) <| xak ?_
   refine xew Tryd.func15 rfl (vs:=[.bool (false)]) (fun h_ H_=>⟨.bool (false),_,rfl,rfl,rfl⟩) (v:=.bool (false)) rfl ?_
   exact fun h_ H_=>K _ _ ⟨by rw [wzx ‹_› ‹_›],H_.kept⟩
  ·
   refine xcv rfl (dff cc3) <| xdq <| xej ?_
   have hc_:chkB t=0:=by omega
   have hO:OkT t:=xtz hc_
   have oM_:=hO.nm
   refine xbq <| ro (xax (v:=.int .i64 1) rfl) <| ren <| fsr <| rt (xax (v:=.int .i64 0) rfl) (tm':=zq1 (zq4 _)) rfl <| xak ?_
   refine xek ?_
   refine xiv (m₀:=t.m-0) (fun m_ tm_ h_=>∃ (k:Nat) (s:Int),m_=t.m-k∧(∃ y4:Nat→Value,tm_=[.agg #[.slice a1 t.nH c1,.slice a2 t.nW c2,.slice a3 t.m c3],.pointer (some ⟨b1,0,none⟩),(y4 2),.int .i64 (s),.int .i64 (((k:Nat):Int)),.agg #[.slice a1 t.nH c1,.slice a2 t.nW c2,.slice a3 t.m c3],.bool (decide (Big t)),.agg #[.slice a1 t.nH c1,.slice a2 t.nW c2,.slice a3 t.m c3],.int .i64 (chkB t),.bool (decide (chkB t≠0)),(y4 10),(y4 11),(y4 12),(y4 13),(y4 14),(y4 15),(y4 16),(y4 17),(y4 18),(y4 19),(y4 20),(y4 21),(y4 22),(y4 23),(y4 24),(y4 25),(y4 26),(y4 27),(y4 28),(y4 29),(y4 30),(y4 31),(y4 32),(y4 33),(y4 34),(y4 35),(y4 36),(y4 37),(y4 38),(y4 39),(y4 40),(y4 41),(y4 42)])∧(k≤t.m)∧(s=prodK t k)∧(s≤2000)∧St h [] p h_ ([(b1,.cells #[.slice a1 t.nH c1,.slice a2 t.nW c2,.slice a3 t.m c3] 25 (0,0))])) (fun h_ H_=>⟨0,1,rfl,(y_of rfl),Nat.zero_le _,rfl,(by decide),H_⟩) ?_
   intro m_ tm_ IH5
   refine xij fun k=>xij fun s=>xdz fun hm_=>xdz fun ht_=>xdz fun hk=>xdz fun hs=>xdz fun h2=>?_
   subst hm_;obtain ⟨y4,ht_⟩:=ht_;subst ht_
   have hy_:=fun z_:k<t.m=>hO.y k z_
   have hp_:1≤s:=by rw [hs];exact yvx hO.toOk k hk
   refine xej <| fsr <| ro (xaq (v:=.int .i64 (((k:Nat):Int))) rfl) <| ro (xaz xhv rfl (a':=⟨b1,2,none⟩) rfl) ?_
   refine xaw mn (fun h_ H_=>xaj H_ tA23 rfl (i:=0) rfl (v:=.slice a3 t.m c3) rfl) (tm':=zq1 (zq4 (zq8 _))) rfl ?_
   refine ro (xfk Tryd.underlying23 rfl) <| ro (xgw rfl rfl) <| xak ?_
   by_cases cc6:((k:Nat):Int)<((t.m:Nat):Int)
   ·
    refine xdk rfl (dtt cc6) <| xdq <| xej <| xek <| xej ?_
    refine xfw 23 [[],[],[1],[],[3],[],[3,4,5],[3,4,5,6],[3,4,5,6,7],[1,2,3,4,5,6,7,8],[1,2,3,4,5,6,7,8,9],[],[11],[],[13],[],[13,14,15],[13,14,15,16],[13,14,15,16,17],[11,12,13,14,15,16,17,18],[11,12,13,14,15,16,17,18,19],[1,2,3,4,5,6,7,8,9,10,11,12,13,14,15,16,17,18,19,20],[1,2,3,4,5,6,7,8,9,10,11,12,13,14,15,16,17,18,19,20,21],[],[]] xlq (by kernel_rfl) (Nat.le_of_ble_eq_true rfl) ?_
    refine wt (xaq (v:=.int .i64 (s)) rfl) (tm':=zq2 (zq16 _)) rfl <| wo (xaz xmz rfl (a':=⟨b1,0,none⟩) rfl) ?_
    refine xbz mn (fun h_ H_=>xaj H_ tA22 rfl (i:=0) rfl (v:=.slice a1 t.nH c1) rfl) (tm':=zq4 (zq16 _)) rfl ?_
    refine wo (xaz xhv rfl (a':=⟨b1,2,none⟩) rfl) ?_
    refine xbz mn (fun h_ H_=>xaj H_ tA23 rfl (i:=0) rfl (v:=.slice a3 t.m c3) rfl) (tm':=zq2 (zq4 (zq16 _))) rfl ?_
    refine wo (xaq (v:=.int .i64 (((k:Nat):Int))) rfl) ?_
    refine wt (xcz (i:=k) Tryd.underlying23 tS43 (xkq a3 t.m c3 (T.y.ne (by omega))) rfl (by omega)) (tm':=zq8 (zq16 _)) rfl ?_
    refine wo (xaz xoj rfl (a':=(adr a3).add (k*2)) rfl) ?_
    refine xbz mn (fun h_ H_=>xbv H_ tA3 rfl (v:=.int .i64 (((t.wh k:Nat):Int))) (T.y.hoN (by omega) (hO.yp _ (by omega)).1)) (tm':=zq2 (zq8 (zq16 _))) rfl ?_
    refine wo (xcz (i:=(t.wh k)) Tryd.underlying22 tS3 (xkq a1 t.nH c1 (T.h.ne (by omega))) rfl (by omega)) ?_
    refine xbz mn (fun h_ H_=>xbv H_ tA3 rfl (v:=.int .i64 (t.hv (t.wh k))) (T.h.get (by omega))) (tm':=zq4 (zq8 (zq16 _))) rfl ?_
    refine wo (xaz xnj rfl (a':=⟨b1,1,none⟩) rfl) ?_
    refine xbz mn (fun h_ H_=>xaj H_ tA22 rfl (i:=0) rfl (v:=.slice a2 t.nW c2) rfl) (tm':=zq1 (zq2 (zq8 (zq32 [])))) rfl ?_
    refine wo (xaz xhv rfl (a':=⟨b1,2,none⟩) rfl) ?_
    refine xbz mn (fun h_ H_=>xaj H_ tA23 rfl (i:=0) rfl (v:=.slice a3 t.m c3) rfl) (tm':=zq1 (zq2 (zq8 (zq32 [])))) rfl ?_
    refine wo (xaq (v:=.int .i64 (((k:Nat):Int))) rfl) ?_
    refine wt (xcz (i:=k) Tryd.underlying23 tS43 (xkq a3 t.m c3 (T.y.ne (by omega))) rfl (by omega)) (tm':=zq1 (zq2 (zq8 (zq32 [])))) rfl ?_
    refine wo (xaz xpk rfl (a':=((adr a3).add (k*2)).add 1) rfl) ?_
    refine xbz mn (fun h_ H_=>xbv H_ tA3 rfl (v:=.int .i64 (((t.ww k:Nat):Int))) (T.y.weN (by omega) (hO.yp _ (by omega)).2)) (tm':=zq1 (zq2 (zq8 (zq32 [])))) rfl ?_
    refine wo (xcz (i:=(t.ww k)) Tryd.underlying22 tS3 (xkq a2 t.nW c2 (T.w.ne (by omega))) rfl (by omega)) ?_
    refine xbz mn (fun h_ H_=>xbv H_ tA3 rfl (v:=.int .i64 (t.wv (t.ww k))) (T.w.get (by omega))) (tm':=zq1 (zq2 (zq8 (zq32 [])))) rfl ?_
    refine wo (zgk rfl rfl) ?_
    refine wt (xfx rfl rfl (wr (by have z1_:=hy_ (by omega);have z2_:=hO.h _ z1_.1;have z3_:=hO.w _ z1_.2;omega))) (tm':=zq1 (zq2 (zq8 (zq32 [])))) rfl ?_
    refine xiz rfl ?_
    refine ro (yxk rfl rfl (wr (by have z1_:=hy_ (by omega);have z2_:=hO.h _ z1_.1;have z3_:=hO.w _ z1_.2;have z4_:0≤min (t.hv (t.wh k)) (t.wv (t.ww k))+1∧min (t.hv (t.wh k)) (t.wv (t.ww k))+1≤10:=(by omega);have z5_:=Int.mul_le_mul (show s≤2000 by omega) z4_.2 z4_.1 (by decide);have z6_:=Int.mul_nonneg (show 0≤s by omega) z4_.1;omega))) ?_
    refine rt (xax (v:=.int .i64 (s*((min (t.hv (t.wh k)) (t.wv (t.ww k)))+1))) rfl) (tm':=zq4 _) rfl <| ren <| xbq <| ro (xaq (v:=.int .i64 (s*((min (t.hv (t.wh k)) (t.wv (t.ww k)))+1))) rfl) <| ro (xix rfl rfl) <| xak ?_
    by_cases cc7:2000<s*((min (t.hv (t.wh k)) (t.wv (t.ww k)))+1)
    ·
     refine xdk rfl (dtt cc7) <| fsr <| rt (xax (v:=.bool (true)) rfl) (tm':=_::_::_::_) rfl <| xak ?_
     refine xew Tryd.func15 rfl (vs:=[.bool (true)]) (fun h_ H_=>⟨.bool (true),_,rfl,rfl,rfl⟩) (v:=.bool (true)) rfl ?_
     exact fun h_ H_=>K _ _ ⟨by rw [wzq hO.toOk hc_ (k:=k+1) (by omega) (by rw [prodK,← hs];unfold fac;assumption)],H_.kept⟩
    ·
     refine xcv rfl (dff cc7) <| xdq <| xeq <| xbq <| ro (xaq (v:=.int .i64 (((k:Nat):Int))) rfl) ?_
     refine ro (xfx rfl rfl (n:=((k+1:Nat):Int)) (wr (by omega))) ?_
     refine rt (xax (v:=.int .i64 (((k+1:Nat):Int))) rfl) (tm':=zq1 (zq4 _)) rfl <| xak ?_
     exact fun h_ H_=>IH5 _ _ (by omega) h_ ⟨k+1,s*((min (t.hv (t.wh k)) (t.wv (t.ww k)))+1),rfl,(y_of rfl),(by omega),(by rw [hs,prodK];rfl),(by omega),H_⟩
   ·
    refine xcv rfl (dff cc6) <| xiq rfl <| fsr <| ro (xax (v:=.bool (false)) rfl) <| xak ?_
    refine xew Tryd.func15 rfl (vs:=[.bool (false)]) (fun h_ H_=>⟨.bool (false),_,rfl,rfl,rfl⟩) (v:=.bool (false)) rfl ?_
    have e_:k=t.m:=by omega
    have z_: ¬ 2000<prodK t t.m:=by rw [← e_,← hs];omega
    exact fun h_ H_=>K _ _ ⟨by rw [wqq ‹_› z_],H_.kept⟩
theorem c23 (md:Md) (h:Heap) (p:PHeap) (hp:Per p h) (a1 a2 a3:Option Addr) (c1 c2 c3:Nat) (t:Tn) (T:TownP p a1 t.nH a2 t.nW a3 t.m t) (hl:t.nH≤9223372036854775807∧t.nW≤9223372036854775807∧t.m≤9223372036854775807):CallsX Tryd.prog md 23 #[.agg #[.slice a1 t.nH c1,.slice a2 t.nW c2,.slice a3 t.m c3]] h fun v h'=>v= .bool (readyB t)∧Keep h h':=by
 refine xcw (Φ:=fun h_=>St h [] p h_ []) Tryd.func23 rfl (tm:=zq1 (zq2 (zq8 []))) rfl ?_ (St.start h _ hp)
 intro c₀ cs Stop K
 refine fsr ?_
 refine xiw mn (v:=.agg #[.slice a1 t.nH c1,.slice a2 t.nW c2,.slice a3 t.m c3]) rfl fun b1=>xcj (L':=[(b1,.cells #[.slice a1 t.nH c1,.slice a2 t.nW c2,.slice a3 t.m c3] 25 (0,0))]) rfl ?_
 refine rt (xax (v:=.bool (false)) rfl) (tm':=_::_::_::_) rfl <| ren <| xbq <| rd (fun h_ H_=>xav H_ tA25 tS25 rfl (i:=0) rfl (vs:=[.slice a1 t.nH c1,.slice a2 t.nW c2,.slice a3 t.m c3]) rfl rfl) ?_
 refine xcx mn (first:=[]) (cap:=[]) rfl rfl fC15 (fun h_ H_=>c15 md _ _ H_.pe _ _ _ _ _ _ t (show TownP _ _ _ _ _ _ _ t from ⟨T.h,T.w,T.y⟩) hl) rfl ?_
 refine rt (xgz rfl) (tm':=zq2 (zq4 _)) rfl <| ro (xaq (v:=.bool (!(farB t))) rfl) ?_
 rcases xwx (farB t) with cc2 | cc2
 ·
  refine rp (mo rfl rfl (xev cc2)) <| xfq (mo rfl rfl (xev cc2)) (tm':=zq1 (zq2 (zq8 []))) rfl <| rp (mo rfl rfl (xev cc2)) <| ro (xcq rfl (xev cc2) (v:=.bool (false)) rfl) <| rt (xax (v:=.bool (false)) rfl) (tm':=_::_::_::_) rfl <| xak ?_
  refine xew Tryd.func23 rfl (vs:=[.bool (false)]) (fun h_ H_=>⟨.bool (false),_,rfl,rfl,rfl⟩) (v:=.bool (false)) rfl ?_
  exact fun h_ H_=>K _ _ ⟨by unfold readyB;simp [*],H_.kept⟩
 ·
  have hn:t.nH≤40∧t.nW≤40∧t.m≤41:=by have z_:=ygk cc2;unfold Big at z_;omega
  refine xaw (ms rfl rfl (xgv cc2)) (fun h_ H_=>xav H_ tA25 tS25 rfl (i:=0) rfl (vs:=[.slice a1 t.nH c1,.slice a2 t.nW c2,.slice a3 t.m c3]) rfl rfl) rfl ?_
  refine xcx (ms rfl rfl (xgv cc2)) (first:=[]) (cap:=[]) rfl rfl fC48 (fun h_ H_=>c48 md _ _ H_.pe _ _ _ _ _ _ _ _ _ t (show TownP _ _ _ _ _ _ _ t from ⟨T.h,T.w,T.y⟩) (by omega)) rfl ?_
  refine xaw (ms rfl rfl (xgv cc2)) (fun h_ H_=>xjx rfl rfl) (tm':=zq1 (zq2 (zq8 []))) rfl ?_
  refine ro (xbj rfl (xgv cc2) (v:=.bool (decide (chkB t=0))) rfl) <| ro (xax (v:=.bool (decide (chkB t=0))) rfl) <| xak ?_
  refine xew Tryd.func23 rfl (vs:=[.bool (decide (chkB t=0))]) (fun h_ H_=>⟨.bool (decide (chkB t=0)),_,rfl,rfl,rfl⟩) (v:=.bool (decide (chkB t=0))) rfl ?_
  exact fun h_ H_=>K _ _ ⟨by unfold readyB;simp [*],H_.kept⟩
theorem wxk (md:Md) {h:Heap} {p:PHeap} (hp:Per p h) {a1 a2 a3:Option Addr} {c1 c2 c3:Nat} {t:Tn} (T:TownP p a1 t.nH a2 t.nW a3 t.m t) (hn:t.nH≤40∧t.nW≤40∧t.m≤41) (N:NoneP p) (hc:chkB t=0):
  CallsX Tryd.prog md 43 #[.agg #[.slice a1 t.nH c1,.slice a2 t.nW c2,.slice a3 t.m c3]] h fun v h'=>∃ w X,v= .tuple #[w,.int .i64 0]∧OwnS 3 1 w (ics (LK t)) X∧New h h' X:=
 (c43 md h p hp _ _ _ _ _ _ t T hn N).mono fun v h' ⟨w,X,e,o,k⟩=>⟨w,X,by rw [e,hc],o.as (congrArg ics (zhk hc)),k⟩
theorem vjq (md:Md) {h:Heap} {p:PHeap} (hp:Per p h) {a1 a2 a3:Option Addr} {c1 c2 c3:Nat} {t:Tn} (T:TownP p a1 t.nH a2 t.nW a3 t.m t) (hn:t.nH≤40∧t.nW≤40∧t.m≤41) (N:NoneP p) (hc:chkB t=0):
  CallsX Tryd.prog md 30 #[.agg #[.slice a1 t.nH c1,.slice a2 t.nW c2,.slice a3 t.m c3]] h fun v h'=>∃ w X,v= .tuple #[w,.int .i64 0]∧OwnS 3 1 w (ics (fairP t none0)) X∧New h h' X:=
 (c30 md h p hp _ _ _ _ _ _ t T hn N).mono fun v h' ⟨w,X,e,o,k⟩=>⟨w,X,by rw [e,hc],o.as (congrArg ics (znw hc)),k⟩
theorem zzz (md:Md) {h:Heap} {p:PHeap} (hp:Per p h) {a1 a2 a3:Option Addr} {c1 c2 c3:Nat} {t:Tn} (T:TownP p a1 t.nH a2 t.nW a3 t.m t) (hn:t.nH≤40∧t.nW≤40∧t.m≤41) (N:NoneP p) (hc:chkB t=0):
  CallsX Tryd.prog md 53 #[.agg #[.slice a1 t.nH c1,.slice a2 t.nW c2,.slice a3 t.m c3]] h fun v h'=>∃ w X,v= .tuple #[w,.int .i64 0]∧OwnS 3 1 w (ics (helpsF t t.nW)) X∧New h h' X:=
 (c53 md h p hp _ _ _ _ _ _ t T hn N).mono fun v h' ⟨w,X,e,o,k⟩=>⟨w,X,by rw [e,hc],o.as (congrArg ics (if_pos hc)),k⟩
theorem ygv (md:Md) {h:Heap} {p:PHeap} (hp:Per p h) {a1 a2 a3:Option Addr} {c1 c2 c3:Nat} {t:Tn} (T:TownP p a1 t.nH a2 t.nW a3 t.m t) (hn:t.nH≤40∧t.nW≤40∧t.m≤41) (N:NoneP p) (hc:chkB t=0):
  CallsX Tryd.prog md 28 #[.agg #[.slice a1 t.nH c1,.slice a2 t.nW c2,.slice a3 t.m c3]] h fun v h'=>v= .tuple #[.int .i64 (mostV t),.int .i64 0]∧Keep h h':=
 (c28 md h p hp _ _ _ _ _ _ t T hn N).mono fun v h' ⟨e,k⟩=>⟨by rw [e,mostC,if_pos hc,hc],k⟩
theorem zcj (md:Md) {h:Heap} {p:PHeap} (hp:Per p h) {a1 a2 a3:Option Addr} {c1 c2 c3:Nat} {t:Tn} (T:TownP p a1 t.nH a2 t.nW a3 t.m t) (hn:t.nH≤40∧t.nW≤40∧t.m≤41) (N:NoneP p) (hc:chkB t=0):
  CallsX Tryd.prog md 36 #[.agg #[.slice a1 t.nH c1,.slice a2 t.nW c2,.slice a3 t.m c3]] h fun v h'=>v= .tuple #[.int .i64 (worstV t),.int .i64 0]∧Keep h h':=
 (c36 md h p hp _ _ _ _ _ _ t T hn N).mono fun v h' ⟨e,k⟩=>⟨by rw [e,worstC,zhk hc,hc];rfl,k⟩
theorem dry_ok (md:Md) {h:Heap} {p:PHeap} (hp:Per p h) {a1 a2 a3:Option Addr} {c1 c2 c3:Nat} {t:Tn} (T:TownP p a1 t.nH a2 t.nW a3 t.m t) (hn:t.nH≤40∧t.nW≤40∧t.m≤41) (N:NoneP p) (hc:chkB t=0) {z:Int} (hz:0≤z∧z≤(t.nW:Int)-1):
  CallsX Tryd.prog md 20 #[.agg #[.slice a1 t.nH c1,.slice a2 t.nW c2,.slice a3 t.m c3],.int .i64 z] h fun v h'=>v= .tuple #[.int .i64 (dryV t z),.int .i64 0]∧Keep h h':=
 have ha:askB t (decide (0≤z∧z≤(t.nW:Int)-1))=0:=by rw [askB,if_pos hc,decide_eq_true hz];rfl
 (c20 md h p hp _ _ _ _ _ _ t T hn z N).mono fun v h' ⟨e,k⟩=>⟨by rw [e,ylk ha,ha],k⟩
theorem c24 (md:Md) (h:Heap) (p:PHeap) (hp:Per p h) (a1 a2 a3:Option Addr) (c1 c2 c3:Nat) (t:Tn) (T:TownP p a1 t.nH a2 t.nW a3 t.m t) (hn:t.nH≤40∧t.nW≤40∧t.m≤41) (N:NoneP p) (hc:chkB t=0):CallsX Tryd.prog md 24 #[.agg #[.slice a1 t.nH c1,.slice a2 t.nW c2,.slice a3 t.m c3]] h fun v h'=>∃ w X,v= .tuple #[w,.bool true]∧OwnS 3 1 w (ics (LK t)) X∧New h h' X:=by
 refine xcw (Φ:=fun h_=>St h [] p h_ []) Tryd.func24 rfl (tm:=zq1 (zq2 (zq16 (zq32 [])))) rfl ?_ (St.start h _ hp)
 intro c₀ cs Stop K
 have hO:OkT t:=xtz hc
 have hLl:=xqx t
 refine fsr ?_
 refine xiw mn (v:=.agg #[.slice a1 t.nH c1,.slice a2 t.nW c2,.slice a3 t.m c3]) rfl fun b1=>xcj (L':=[(b1,.cells #[.slice a1 t.nH c1,.slice a2 t.nW c2,.slice a3 t.m c3] 25 (0,0))]) rfl ?_
 refine xgx (tm':=_::_::_) rfl ?_
 refine ro (xax (v:=.slice none 0 0) rfl) <| ro (xax (v:=.bool (false)) rfl) <| ren <| xbq ?_
 refine xaw mn (fun h_ H_=>xav H_ tA25 tS25 rfl (i:=0) rfl (vs:=[.slice a1 t.nH c1,.slice a2 t.nW c2,.slice a3 t.m c3]) rfl rfl) (tm':=zq1 (zq8 _)) rfl ?_
 refine xcj (L':=([(b1,.cells #[.slice a1 t.nH c1,.slice a2 t.nW c2,.slice a3 t.m c3] 25 (0,0))]:Pcs)++[]) rfl ?_
 refine xjq mn (first:=[]) (cap:=[]) rfl rfl fC43 (R:=fun v_ h_=>∃ w2:Value,∃ X3:Pcs,v_= .tuple #[w2,.int .i64 0]∧(OwnS 3 1 w2 (ics (LK t)) X3)∧St h [] p h_ (([(b1,.cells #[.slice a1 t.nH c1,.slice a2 t.nW c2,.slice a3 t.m c3] 25 (0,0))]:Pcs)++(X3++[]))) (fun h_ H_=>(wxk md H_.pe (show TownP _ _ _ _ _ _ _ t from ⟨T.h,T.w,T.y⟩) (by omega) N hc).mono fun v_ h2_ ⟨w2,X3,e_,o4,N_⟩=>⟨w2,X3,e_,o4,H_.callNA N_⟩) fun v_=>?_
 refine xfv fun w2=>xfv fun X3=>xfz fun ev_=>xfz fun o4=>?_
 have ev_:=ev_.symm;subst ev_
 refine xcj (L':=([(b1,.cells #[.slice a1 t.nH c1,.slice a2 t.nW c2,.slice a3 t.m c3] 25 (0,0))]:Pcs)++(X3++[])) rfl ?_
 refine ro (xaq (v:=.tuple #[w2,.int .i64 0]) rfl) <| rt (xdx rfl (v:=w2) rfl) (tm':=zq1 (zq2 (zq8 _))) rfl <| ro (xdx rfl (v:=.int .i64 0) rfl) <| ro (xax (v:=w2) rfl) <| rt (xax (v:=.int .i64 0) rfl) (tm':=zq2 (zq4 _)) rfl <| ren ?_
 refine fsr <| ro (xaq (v:=.int .i64 0) rfl) <| ro (xhw rfl rfl) <| rt (xaq (v:=.bool (decide ((0:Int)≠0))) rfl) (tm':=zq1 (zq2 (zq4 (zq8 _)))) rfl ?_
 refine xaw (ms rfl rfl (decide_eq_false (fun z_=>z_ rfl))) (fun h_ H_=>xaq (v:=w2) rfl) rfl ?_
 refine xaw (ms rfl rfl (decide_eq_false (fun z_=>z_ rfl))) (fun h_ H_=>xuz o4 ((xck _).trans (xqx _)) Tryd.underlying22 rfl) rfl ?_
 refine xaw (ms rfl rfl (decide_eq_false (fun z_=>z_ rfl))) (fun h_ H_=>xaz xmz rfl (a':=⟨b1,0,none⟩) rfl) (tm':=zq2 (zq16 _)) rfl ?_
 refine xaw (ms rfl rfl (decide_eq_false (fun z_=>z_ rfl))) (fun h_ H_=>xaj H_ tA22 rfl (i:=0) rfl (v:=.slice a1 t.nH c1) rfl) rfl ?_
 refine xaw (ms rfl rfl (decide_eq_false (fun z_=>z_ rfl))) (fun h_ H_=>xfk Tryd.underlying22 rfl) rfl ?_
 refine xaw (ms rfl rfl (decide_eq_false (fun z_=>z_ rfl))) (fun h_ H_=>xhw rfl rfl) (tm':=zq1 (zq4 (zq16 _))) rfl ?_
 refine ro (xcq rfl (decide_eq_false (fun z_=>z_ rfl)) (v:=.bool (decide (((t.nH:Nat):Int)≠((t.nH:Nat):Int)))) rfl) <| xak <| xcv rfl (decide_eq_false (fun z_=>z_ rfl)) <| xdq <| xej <| fsr ?_
 refine ro (xax (v:=.int .i64 0) rfl) <| xak <| xek ?_
 refine xiv (m₀:=t.nH-0) (fun m_ tm_ h_=>∃ (k:Nat),m_=t.nH-k∧(∃ y5:Nat→Value,tm_=[.agg #[.slice a1 t.nH c1,.slice a2 t.nW c2,.slice a3 t.m c3],.pointer (some ⟨b1,0,none⟩),(y5 2),(y5 3),w2,.int .i64 0,.int .i64 (((k:Nat):Int)),.tuple #[w2,.int .i64 0],.agg #[.slice a1 t.nH c1,.slice a2 t.nW c2,.slice a3 t.m c3],.tuple #[w2,.int .i64 0],w2,.int .i64 0,.int .i64 0,.bool (decide ((0:Int)≠0)),.bool (decide ((0:Int)≠0)),w2,.int .i64 (((t.nH:Nat):Int)),.pointer (some ⟨b1,0,none⟩),.slice a1 t.nH c1,.int .i64 (((t.nH:Nat):Int)),.bool (decide (((t.nH:Nat):Int)≠((t.nH:Nat):Int))),.bool (decide (((t.nH:Nat):Int)≠((t.nH:Nat):Int))),(y5 22),(y5 23),(y5 24),(y5 25),(y5 26),(y5 27),(y5 28),(y5 29),(y5 30),(y5 31),(y5 32),(y5 33),(y5 34),(y5 35),(y5 36),(y5 37),(y5 38),(y5 39),(y5 40),(y5 41),(y5 42),(y5 43),(y5 44),(y5 45),(y5 46),(y5 47),(y5 48),(y5 49),undef])∧(k≤t.nH)∧St h [] p h_ (([(b1,.cells #[.slice a1 t.nH c1,.slice a2 t.nW c2,.slice a3 t.m c3] 25 (0,0))]:Pcs)++(X3++[]))) (fun h_ H_=>⟨0,rfl,(y_of rfl),Nat.zero_le _,H_⟩) ?_
 intro m_ tm_ IH6
 refine xij fun k=>xdz fun hm_=>xdz fun ht_=>xdz fun hk=>?_
 subst hm_;obtain ⟨y5,ht_⟩:=ht_;subst ht_
 refine xej <| fsr <| rt (xaq (v:=.int .i64 (((k:Nat):Int))) rfl) (tm':=zq1 (zq2 (zq4 (zq16 _)))) rfl <| ro (xaq (v:=w2) rfl) <| ro (xuz o4 ((xck _).trans (xqx _)) Tryd.underlying22 rfl) <| rt (xgw rfl rfl) (tm':=zq2 (zq8 (zq16 _))) rfl ?_
 refine xak ?_
 by_cases cc7:((k:Nat):Int)<((t.nH:Nat):Int)
 ·
  refine xdk rfl (dtt cc7) <| xdq <| xej <| xek <| xej ?_
  by_cases cc8:0<((k:Nat):Int)
  ·
   refine xfw 19 [[],[],[0,1],[0,1,2],[0,1,2,3],[0,1,2,3],[0,1,2,3,4,5],[0,1,2,3,4,5],[0,1,2,3,4,5,7],[0,1,2,3,4,5,6,7,8],[],[],[10,11],[10,11,12],[],[0,1,2,3,4,5,6,7,8],[0,1,2,3,4,5,6,7,8,15],[0,1,2,3,4,5,6,7,8,14,15,16],[0,1,2,3,4,5,6,7,8,14,15,16,17],[0,1,2,3,4,5,7,8,10,11,12,13,14,15,16,17,18],[0,1,2,3,4,5,7,8,9,10,11,12,13,14,15,16,17,18,19],[]] xlq (by kernel_rfl) (Nat.le_of_ble_eq_true rfl) ?_
   refine wo (xaq (v:=w2) rfl) <| wt (xaq (v:=.int .i64 (((k:Nat):Int))) rfl) (tm':=zq2 (zq4 (zq8 (zq16 _)))) rfl ?_
   refine wo (xhz o4 Tryd.underlying22 tS3 rfl rfl (by rw [((xck _).trans (xqx _))];first | omega | (simp only [List.length_set];omega))) ?_
   refine xbz mn (fun h_ H_=>xnx (A:=([(b1,.cells #[.slice a1 t.nH c1,.slice a2 t.nW c2,.slice a3 t.m c3] 25 (0,0))]:Pcs)) (i:=k) (j:=0) (e:=[.int .i64 ((LK t).getD k 0)]) o4 H_ tA3 rfl rfl (xpj (by first | omega | (rw [leftK_length];omega) | (simp only [List.length_set];omega))) (u:=.int .i64 ((LK t).getD k 0)) rfl) (tm':=zq32 _) rfl ?_
   refine xik mn (first:=[]) (cap:=[]) rfl rfl fC61 (fun h_ H_=>(c61 md _ ((LK t).getD k 0) (0) (9)).mono fun v_ h2_ ⟨e_,k_⟩=>⟨e_,H_.call k_⟩) rfl ?_
   refine wt (xgz rfl) (tm':=zq2 (zq32 _)) rfl <| wo (xaq (v:=.bool (!(decide (0≤(LK t).getD k 0∧(LK t).getD k 0≤9)))) rfl) ?_
   refine xbz (ms rfl rfl (xev (decide_eq_true (yzj hO.toOk (by omega))))) (fun h_ H_=>xaq (v:=.int .i64 (((k:Nat):Int))) rfl) (tm':=zq1 (zq2 (zq16 (zq32 [])))) rfl ?_
   refine xbz (ms rfl rfl (xev (decide_eq_true (yzj hO.toOk (by omega))))) (fun h_ H_=>xix rfl rfl) rfl ?_
   refine xbz (ms rfl rfl (xev (decide_eq_true (yzj hO.toOk (by omega))))) (fun h_ H_=>xaq (v:=.bool (decide (0<((k:Nat):Int)))) rfl) (tm':=zq1 (zq2 (zq16 (zq32 [])))) rfl ?_
   refine xbz (ms rfl rfl (dtt cc8)) (fun h_ H_=>xaq (v:=w2) rfl) rfl ?_
   refine xbz (ms rfl rfl (dtt cc8)) (fun h_ H_=>xaq (v:=.int .i64 (((k:Nat):Int))) rfl) (tm':=zq1 (zq2 (zq16 (zq32 [])))) rfl ?_
   refine xbz (ms rfl rfl (dtt cc8)) (fun h_ H_=>xhz o4 Tryd.underlying22 tS3 rfl rfl (by rw [((xck _).trans (xqx _))];first | omega | (simp only [List.length_set];omega))) rfl ?_
   refine xbz (ms rfl rfl (dtt cc8)) (fun h_ H_=>xnx (A:=([(b1,.cells #[.slice a1 t.nH c1,.slice a2 t.nW c2,.slice a3 t.m c3] 25 (0,0))]:Pcs)) (i:=k) (j:=0) (e:=[.int .i64 ((LK t).getD k 0)]) o4 H_ tA3 rfl rfl (xpj (by first | omega | (rw [leftK_length];omega) | (simp only [List.length_set];omega))) (u:=.int .i64 ((LK t).getD k 0)) rfl) (tm':=zq1 (zq2 (zq16 (zq32 [])))) rfl ?_
   refine xbz (ms rfl rfl (dtt cc8)) (fun h_ H_=>xaq (v:=w2) rfl) rfl ?_
   refine xbz (ms rfl rfl (dtt cc8)) (fun h_ H_=>xaq (v:=.int .i64 (((k:Nat):Int))) rfl) (tm':=zq1 (zq2 (zq16 (zq32 [])))) rfl ?_
   refine xbz (ms rfl rfl (dtt cc8)) (fun h_ H_=>xkw rfl rfl (n:=((k-1:Nat):Int)) (by rw [show ((k:Nat):Int)-1=((k-1:Nat):Int) from by omega];exact wr (by omega))) rfl ?_
   refine xbz (ms rfl rfl (dtt cc8)) (fun h_ H_=>xhz o4 Tryd.underlying22 tS3 rfl rfl (by rw [((xck _).trans (xqx _))];first | omega | (simp only [List.length_set];omega))) (tm':=zq1 (zq2 (zq16 (zq32 [])))) rfl ?_
   refine xbz (ms rfl rfl (dtt cc8)) (fun h_ H_=>xnx (A:=([(b1,.cells #[.slice a1 t.nH c1,.slice a2 t.nW c2,.slice a3 t.m c3] 25 (0,0))]:Pcs)) (i:=k-1) (j:=0) (e:=[.int .i64 ((LK t).getD (k-1) 0)]) o4 H_ tA3 rfl rfl (xpj (by first | omega | (rw [leftK_length];omega) | (simp only [List.length_set];omega))) (u:=.int .i64 ((LK t).getD (k-1) 0)) rfl) rfl ?_
   refine xiz rfl ?_
   refine xaw (ms rfl rfl (dtt cc8)) (fun h_ H_=>xix rfl rfl) (tm':=zq1 (zq2 (zq16 (zq32 [])))) rfl ?_
   refine xaw (ms rfl rfl (xev (decide_eq_true (yzj hO.toOk (by omega))))) (fun h_ H_=>xbj rfl (dtt cc8) (v:=.bool (decide ((LK t).getD (k-1) 0<(LK t).getD k 0))) rfl) rfl ?_
   refine ro (xcq rfl (xev (decide_eq_true (yzj hO.toOk (by omega)))) (v:=.bool (decide ((LK t).getD (k-1) 0<(LK t).getD k 0))) rfl) ?_
   refine xak ?_
   refine xcv rfl (decide_eq_false (by have z_:=LK_down (t:=t) (i:=k) (by omega) (by omega);omega)) ?_
   refine xdq <| xeq <| xbq <| rt (xaq (v:=.int .i64 (((k:Nat):Int))) rfl) (tm':=zq1 (zq2 (zq8 (zq16 _)))) rfl ?_
   refine ro (xfx rfl rfl (n:=((k+1:Nat):Int)) (wr (by omega))) ?_
   refine ro (xax (v:=.int .i64 (((k+1:Nat):Int))) rfl) <| xak ?_
   exact fun h_ H_=>IH6 _ _ (by omega) h_ ⟨k+1,rfl,(y_of rfl),(by omega),H_⟩
  ·
   refine xfw 19 [[],[],[0,1],[0,1,2],[0,1,2,3],[0,1,2,3],[0,1,2,3,4,5],[0,1,2,3,4,5],[0,1,2,3,4,5,7],[0,1,2,3,4,5,6,7,8],[],[],[10,11],[10,11,12],[],[0,1,2,3,4,5,6,7,8],[0,1,2,3,4,5,6,7,8,15],[0,1,2,3,4,5,6,7,8,14,15,16],[0,1,2,3,4,5,6,7,8,14,15,16,17],[0,1,2,3,4,5,7,8,10,11,12,13,14,15,16,17,18],[0,1,2,3,4,5,7,8,9,10,11,12,13,14,15,16,17,18,19],[]] xlq (by kernel_rfl) (Nat.le_of_ble_eq_true rfl) ?_
   refine wt (xaq (v:=w2) rfl) (tm':=zq1 (zq4 (zq8 (zq16 _)))) rfl <| wo (xaq (v:=.int .i64 (((k:Nat):Int))) rfl) ?_
   refine wt (xhz o4 Tryd.underlying22 tS3 rfl rfl (by rw [((xck _).trans (xqx _))];first | omega | (simp only [List.length_set];omega))) (tm':=zq1 (zq2 (zq4 (zq8 (zq16 _))))) rfl ?_
   refine wd (fun h_ H_=>xnx (A:=([(b1,.cells #[.slice a1 t.nH c1,.slice a2 t.nW c2,.slice a3 t.m c3] 25 (0,0))]:Pcs)) (i:=k) (j:=0) (e:=[.int .i64 ((LK t).getD k 0)]) o4 H_ tA3 rfl rfl (xpj (by first | omega | (rw [leftK_length];omega) | (simp only [List.length_set];omega))) (u:=.int .i64 ((LK t).getD k 0)) rfl) ?_
   refine xik mn (first:=[]) (cap:=[]) rfl rfl fC61 (fun h_ H_=>(c61 md _ ((LK t).getD k 0) (0) (9)).mono fun v_ h2_ ⟨e_,k_⟩=>⟨e_,H_.call k_⟩) (tm':=zq1 (zq32 _)) rfl ?_
   refine wo (xgz rfl) <| wt (xaq (v:=.bool (!(decide (0≤(LK t).getD k 0∧(LK t).getD k 0≤9)))) rfl) (tm':=zq1 (zq2 (zq16 (zq32 [])))) rfl ?_
   refine xbz (ms rfl rfl (xev (decide_eq_true (yzj hO.toOk (by omega))))) (fun h_ H_=>xaq (v:=.int .i64 (((k:Nat):Int))) rfl) rfl ?_
   refine xbz (ms rfl rfl (xev (decide_eq_true (yzj hO.toOk (by omega))))) (fun h_ H_=>xix rfl rfl) (tm':=zq1 (zq2 (zq16 (zq32 [])))) rfl ?_
   refine xbz (ms rfl rfl (xev (decide_eq_true (yzj hO.toOk (by omega))))) (fun h_ H_=>xaq (v:=.bool (decide (0<((k:Nat):Int)))) rfl) rfl ?_
   refine xdv (mo rfl rfl (dff cc8)) (tm':=zq1 (zq2 (zq16 (zq32 [])))) rfl <| wp (mo rfl rfl (dff cc8)) <| xdv (mo rfl rfl (dff cc8)) (tm':=zq1 (zq2 (zq16 (zq32 [])))) rfl <| wp (mo rfl rfl (dff cc8)) <| xdv (mo rfl rfl (dff cc8)) (tm':=zq1 (zq2 (zq16 (zq32 [])))) rfl <| wp (mo rfl rfl (dff cc8)) ?_
   refine xdv (mo rfl rfl (dff cc8)) (tm':=zq1 (zq2 (zq16 (zq32 [])))) rfl <| wp (mo rfl rfl (dff cc8)) <| xdv (mo rfl rfl (dff cc8)) (tm':=zq1 (zq2 (zq16 (zq32 [])))) rfl ?_
   refine xiz rfl ?_
   refine rp (mo rfl rfl (dff cc8)) ?_
   refine xaw (ms rfl rfl (xev (decide_eq_true (yzj hO.toOk (by omega))))) (fun h_ H_=>xcq rfl (dff cc8) (v:=.bool (false)) rfl) rfl ?_
   refine rt (xcq rfl (xev (decide_eq_true (yzj hO.toOk (by omega)))) (v:=.bool (false)) rfl) (tm':=zq1 (zq2 (zq16 (zq32 [])))) rfl ?_
   refine xak <| xcv rfl rfl <| xdq <| xeq <| xbq <| ro (xaq (v:=.int .i64 (((k:Nat):Int))) rfl) ?_
   refine ro (xfx rfl rfl (n:=((k+1:Nat):Int)) (wr (by omega))) ?_
   refine rt (xax (v:=.int .i64 (((k+1:Nat):Int))) rfl) (tm':=zq1 (zq2 (zq4 _))) rfl <| xak ?_
   exact fun h_ H_=>IH6 _ _ (by omega) h_ ⟨k+1,rfl,(y_of rfl),(by omega),H_⟩
 ·
  refine xcv rfl (dff cc7) <| xiq rfl <| fsr <| ro (xaq (v:=w2) rfl) <| ro (xax (v:=w2) rfl) <| rt (xax (v:=.bool (true)) rfl) (tm':=zq4 _) rfl ?_
  refine xak ?_
  refine xew Tryd.func24 rfl (vs:=[w2,.bool (true)]) (fun h_ H_=>⟨w2,_,rfl,rfl,⟨.bool (true),_,rfl,rfl,rfl⟩⟩) (v:=.tuple #[w2,.bool (true)]) rfl ?_
  exact fun h_ H_=>K _ _ ⟨_,_,rfl,o4,((H_.dropA).sub (List.sublist_append_left _ _)).new⟩
end Go.Proofs.YtalfgojocdonhaaDoor
namespace Go.Proofs.YtalfgojocdonhaaDoor
open Go.X Go.X.Flow Go.Conc

@[simp] theorem wcs_size (xs:List FWay):(wcs xs).length=xs.length:=ynx xs
theorem vev (xs:List FWay): ∀ u∈(wcs xs).flatten,isOne u=true:=by
  intro u hu
  obtain ⟨l,hl,hu⟩:=List.mem_flatten.1 hu
  obtain ⟨x,_,rfl⟩:=List.mem_map.1 hl
  unfold FWay.cells at hu
  simp only [List.mem_cons,List.not_mem_nil,or_false] at hu
  rcases hu with rfl | rfl <;> rfl
def sameT (t u:Tn):Prop:=t.hs=u.hs∧t.ws=u.ws∧t.wy=u.wy
instance {t u:Tn}:Decidable (sameT t u):=by unfold sameT;exact inferInstance
theorem yez (t:Tn):sameT t t:=⟨rfl,rfl,rfl⟩
theorem vfv {k:Nat} {t u:Tn} (hs: ∀ i,i<k→t.wy.getD i wz=u.wy.getD i wz) (h:(t.wy.getD k wz).1=(u.wy.getD k wz).1∧(t.wy.getD k wz).2=(u.wy.getD k wz).2): ∀ i,i<k+1→t.wy.getD i wz=u.wy.getD i wz:=fun i hi=>by
  by_cases e:i=k
  · subst e;exact Prod.ext h.1 h.2
  · exact hs i (by omega)
theorem xwk {t u:Tn} (a:t.hs=u.hs) (b:t.ws=u.ws) (c:t.m=u.m) (h: ∀ i,i<t.m→t.wy.getD i wz=u.wy.getD i wz):sameT t u:=by
  refine ⟨a,b,List.ext_getElem c fun i h1 h2=>?_⟩
  have:=h i h1
  rwa [List.getD_eq_getElem?_getD,List.getD_eq_getElem?_getD,List.getElem?_eq_getElem h1,List.getElem?_eq_getElem h2] at this
theorem ybq {t u:Tn} {k:Nat} (h: ¬ ((t.wy.getD k wz).1=(u.wy.getD k wz).1∧(t.wy.getD k wz).2=(u.wy.getD k wz).2)): ¬ sameT t u:=fun z=>h (by rw [z.2.2];exact ⟨rfl,rfl⟩)
theorem wpj {t:Tn} (hn:t.nH≤40) (d:List Int):(goodL t d).length≤40:=by
  unfold goodL;split
  · rw [xow];exact hn
  · simp
end Go.Proofs.YtalfgojocdonhaaDoor
