/-
  Part of proofs about buckets brought from wells to houses: a lone run, and what it computes. No condition.
-/
import Derived.Test.YtalfgojocdonhaaDoorD2
import Derived.Test.YtalfgojocdonhaaDoorD1
import Derived.Test.YtalfgojocdonhaaDoorD3
namespace Go.Proofs.YtalfgojocdonhaaDoor
open Go.X Go.X.Flow Go.Conc
set_option maxRecDepth 10000
set_option synthInstance.maxSize 2000

set_option maxHeartbeats 4000000
theorem zow (md:Md) (h:Heap) {z:Int} {x:Nat} (e:z=x) (hx:x≤10):CallsX Tryd.prog md 114 #[.int .i64 z] h fun v h'=>v= .int .i64 (dear x)∧Keep h h':=by subst e;exact c114 md h x hx
theorem dv_le {t:Tn} {d:List Int} (O:OkT t) (Dv:Div t d) {i:Nat} (hi:i<t.m):0≤dv d i∧dv d i≤9:=by
 have h1:=O.y i hi
 have h2:dv d i≤draw t d (t.wh i):=by
  have:=zkq (f:=fun k=>if t.wh k=t.wh i then dv d k else 0) (k:=t.m) (fun k hk=>by have:=Dv.pos k hk;split <;> omega) hi
  simpa [draw] using this
 have h3:=Dv.hs _ h1.1;have h4:=O.h _ h1.1;have h5:=Dv.pos i hi
 omega
theorem woz {t:Tn} {d:List Int} (O:OkT t) (Dv:Div t d) {h:Nat} (hh:h<t.nH):0≤lack t d h∧lack t d h≤9:=by
 have h1:=Dv.hs h hh;have h2:=O.h h hh;have h3:=xsw Dv h
 unfold lack;omega
theorem wox (md:Md) {h:Heap} {p:PHeap} (hp:Per p h) {a1 a2 a3:Option Addr} {c1 c2 c3:Nat} {t:Tn} (T:TownP p a1 t.nH a2 t.nW a3 t.m t) (O:OkT t) {b:Option Addr} {cb:Nat} {d:List Int} (D:Ints p b t.m d) (Dv:Div t d):
  CallsX Tryd.prog md 67 #[.agg #[.slice a1 t.nH c1,.slice a2 t.nW c2,.slice a3 t.m c3],.slice b t.m cb] h fun v h'=>∃ w1 w2 X1 X2,v= .tuple #[w1,w2]∧OwnS 3 1 w1 (ics (lackL t d)) X1∧OwnS 3 1 w2 (ics (hasL t d)) X2∧New h h' (X2++(X1++[])):=by
 have o1:=O.nh;have o2:=O.nw;have o3:=O.nm
 refine c67 md h p hp a1 _ c1 a2 _ c2 a3 _ c3 t T ⟨by omega,by omega,by omega⟩ b t.m cb d D ⟨Nat.le_refl _,o3⟩ (fun i hi=>by have:=dv_le O Dv hi;omega) (fun i hi=>?_) (fun i hi=>?_) (fun i hi=>?_)
 ·
  have:=O.h i hi;unfold Tn.hv at this;omega
 ·
  have:=O.w i hi;unfold Tn.wv at this;omega
 ·
  have h1:=O.y i hi;have h2:=O.yp i hi;unfold Tn.wh Tn.ww at h1;exact ⟨⟨h2.1,h1.1⟩,h2.2,h1.2⟩
theorem c113 (md:Md) (h:Heap) (p:PHeap) (hp:Per p h) (P:Prop) [Decidable P] (v1 v2 v3 v4 v5 v7:Value) (s:Int) (bB bt:Nat) (hB:p bB=some (.cells #[.pointer (some ⟨bt,0,none⟩)] 92 (0,0))) (hb:p bt=some (.cells #[v1,v2,v3,v4,v5,.int .i64 s,v7] 94 (0,0))):CallsX Tryd.prog md 113 #[.bool (decide (P)),.pointer (some ⟨bB,0,none⟩)] h fun v h'=>v= .int .i64 (if P then s else 0)∧Keep h h':=by
 refine xcw (Φ:=fun h_=>St h [] p h_ []) Tryd.func113 rfl (tm:=zq2 (zq8 [])) rfl ?_ (St.start h _ hp)
 intro c₀ cs Stop K
 refine fsr <| ro (xax (v:=.int .i64 0) rfl) <| ren <| fsr <| ro (xaq (v:=.bool (decide (P))) rfl) <| xak ?_
 by_cases cc1:P
 ·
  refine xdk rfl (dtt cc1) <| fsr ?_
  refine xaw mn (fun h_ H_=>xbv H_ tA92 rfl (v:=.pointer (some ⟨bt,0,none⟩)) (xkx hB rfl)) (tm':=zq2 (zq4 _)) rfl ?_
  refine ro (xhk rfl) <| ro (xaz ypz rfl (a':=⟨bt,3,none⟩) rfl) <| rt (xaz tF72_2 rfl (a':=⟨bt,5,none⟩) rfl) (tm':=zq2 (zq8 [])) rfl <| rd (fun h_ H_=>xbv H_ tA3 rfl (v:=.int .i64 (s)) (xkx hb rfl)) <| ro (xax (v:=.int .i64 (s)) rfl) <| xak ?_
  refine xew Tryd.func113 rfl (vs:=[.int .i64 (s)]) (fun h_ H_=>⟨.int .i64 (s),_,rfl,rfl,rfl⟩) (v:=.int .i64 (s)) rfl ?_
  exact fun h_ H_=>K _ _ ⟨by rw [if_pos ‹_›],H_.kept⟩
 ·
  refine xcv rfl (dff cc1) <| xdq <| fsr <| rt (xax (v:=.int .i64 0) rfl) (tm':=zq4 _) rfl <| xak ?_
  refine xew Tryd.func113 rfl (vs:=[.int .i64 0]) (fun h_ H_=>⟨.int .i64 0,_,rfl,rfl,rfl⟩) (v:=.int .i64 0) rfl ?_
  exact fun h_ H_=>K _ _ ⟨by rw [if_neg ‹_›],H_.kept⟩
theorem c106 (md:Md) (h h₀:Heap) (B₀:List Nat) (p:PHeap) (a1 a2 a3:Option Addr) (c1 c2 c3:Nat) (t:Tn) (T:TownP p a1 t.nH a2 t.nW a3 t.m t) (O:OkT t) (wi:Wi) (b:Option Addr) (cb:Nat) (d:List Int) (D:Ints p b t.m d) (Dv:Div t d) (S:Sg wi) (bt:Nat) (hb:p bt=some (.cells #[.slice a1 t.nH c1,.slice a2 t.nW c2,.slice a3 t.m c3,.int .i64 (wi.house),.int .i64 (wi.well),.int .i64 (wi.sign),.slice b t.m cb] 94 (0,0))) (yv:Value) (X₀:Pcs) (I:List Go.X.Bf.Arc→Pcs→Prop) (E:List Go.X.Bf.Arc) (hE:arcsL t wi d=E) (hI0:I [] X₀)
  (hy: ∀ out x h A X,out++[x] <+: arcsL t wi d→I out X→St h₀ B₀ p h (A++(X++[]))→CallV Tryd.prog md yv [arcV x] h fun v h'=>∃ X',v= .bool true∧I (out++[x]) X'∧St h₀ B₀ p h' (A++(X'++[]))) (s₀:St h₀ B₀ p h (([]:Pcs)++(X₀++[]))):CallsX Tryd.prog md 106 #[.pointer (some ⟨bt,0,none⟩),yv] h fun _ h'=>∃ X',I E X'∧St h₀ B₀ p h' X':=by
 refine xcw (Φ:=fun h_=>St h₀ B₀ p h_ (([]:Pcs)++(X₀++[]))) Tryd.func106 rfl (tm:=zq2 (zq4 (zq8 (zq16 (zq32 (zq32 (zq32 (zq32 (zq32 (zq32 [])))))))))) rfl ?_ s₀
 intro c₀ cs Stop K
 have oH:=O.nh
 have oW:=O.nw
 have oM:=O.nm
 refine fsr ?_
 refine xiw mn (v:=.pointer (some ⟨bt,0,none⟩)) rfl fun b1=>xcj (L':=([(b1,.cells #[.pointer (some ⟨bt,0,none⟩)] 92 (0,0))]:Pcs)++(X₀++[])) rfl ?_
 refine ren ?_
 obtain ⟨Gw10,Gw11,GX12,GX13,hG8_⟩:=sk4 (fun (v_:Value) (x_:Pcs) (w10:Value) (w11:Value) (X12:Pcs) (X13:Pcs)=>v_= .tuple #[w10,w11]∧(OwnS 3 1 w10 (ics (lackL t d)) X12)∧(OwnS 3 1 w11 (ics (hasL t d)) X13)∧x_=(X13++(X12++[])))
 refine ybx (xnq (C:=[]) (A:=([(b1,.cells #[.pointer (some ⟨bt,0,none⟩)] 92 (0,0))]:Pcs)) 13 [[],[],[],[],[],[],[],[],[],[8],[],[],[],[]] [13] [13,8] [0,1,2,3,4,5,6,7,9,10,11,12] (fun i_=>match i_ with | 13=>X₀ | _=>[]) (fun _=>[]) (fun i_=>match i_ with | 0=>[] | 1=>[0] | 2=>[1] | 3=>[2] | 4=>[] | 5=>[4] | 6=>[5] | 7=>[6] | 8=>[3,7] | 9=>[8] | 10=>[8,9] | 11=>[8,9] | 12=>[0,1,2,3,4,5,6,7,8,9,10] | _=>[]) (fun i_ val_ pc_ v_ x_=>match i_ with | 0=>v_= .pointer (some ⟨bt,0,none⟩)∧x_=[] | 1=>v_= .pointer (some ⟨bt,0,none⟩)∧x_=[] | 2=>v_= .pointer (some ⟨bt,0,none⟩)∧x_=[] | 3=>v_= .agg #[.slice a1 t.nH c1,.slice a2 t.nW c2,.slice a3 t.m c3]∧x_=[] | 4=>v_= .pointer (some ⟨bt,0,none⟩)∧x_=[] | 5=>v_= .pointer (some ⟨bt,0,none⟩)∧x_=[] | 6=>v_= .pointer (some ⟨bt,6,none⟩)∧x_=[] | 7=>v_= .slice b t.m cb∧x_=[] | 8=>∃ w10:Value,∃ w11:Value,∃ X12:Pcs,∃ X13:Pcs,v_= .tuple #[w10,w11]∧(OwnS 3 1 w10 (ics (lackL t d)) X12)∧(OwnS 3 1 w11 (ics (hasL t d)) X13)∧x_=(X13++(X12++[])) | 9=>v_= .tuple #[(Gw10 (val_ 8) (pc_ 8)),(Gw11 (val_ 8) (pc_ 8))]∧x_=[] | 10=>v_=(Gw10 (val_ 8) (pc_ 8))∧x_=[] | 11=>v_=(Gw11 (val_ 8) (pc_ 8))∧x_=[] | 12=>v_=(Gw10 (val_ 8) (pc_ 8))∧x_=[] | _=>True) (fun val8=>(.pointer (some ⟨bt,0,none⟩)::yv::.pointer (some ⟨b1,0,none⟩)::undef::(val8 12)::undef::undef::undef::zu8 ((val8 9)::(val8 0)::(val8 1)::(val8 2)::(val8 3)::(val8 4)::(val8 5)::(val8 6)::(val8 7)::(val8 8)::(val8 10)::(val8 11)::undef::undef::zu16 (zu16 (zu16 (zu16 (zu16 (zu16 (zu16 (zu16 (zu16 (zu16 (zu16 (zu16 [])))))))))))))) xlq (by kernel_rfl) (Nat.le_of_ble_eq_true rfl) (by kernel_rfl) (by kernel_rfl) (by kernel_rfl) (fun _ _=>⟨fun _ _ h=>h.2,⟨fun _ _ h=>h.2,⟨fun _ _ h=>h.2,⟨fun _ _ h=>h.2,⟨fun _ _ h=>h.2,⟨fun _ _ h=>h.2,⟨fun _ _ h=>h.2,⟨fun _ _ h=>h.2,⟨fun _ _ h=>h.2,⟨fun _ _ h=>h.2,⟨fun _ _ h=>h.2,⟨fun _ _ h=>h.2,trivial⟩⟩⟩⟩⟩⟩⟩⟩⟩⟩⟩⟩) (fun _=>by kernel_rfl) (by kernel_rfl) ?_ ?_) (fun h_ H_=>St.swap (A:=([(b1,.cells #[.pointer (some ⟨bt,0,none⟩)] 92 (0,0))]:Pcs)) (U:=(X₀++[])) H_)
 ·
  refine xbx rfl (xez ?_) ?_
  ·
   intro val8 pc9 hQ_ hX_
   obtain ⟨q_,hq0_⟩: ∃ q_:Value→Pcs→Prop,q_=(fun v_ x_=>v_= .pointer (some ⟨bt,0,none⟩)∧x_=[]):=⟨_,rfl⟩
   refine ⟨(zq2 (zq4 (zq8 (zq16 (zq32 (zq32 (zq32 (zq32 (zq32 (zq32 [])))))))))),[],q_,rfl,rfl,(fun _ _ z_=>by subst hq0_;exact z_),?_⟩
   subst hq0_
   exact xdw mn (fun _ h_ H_=>xaj H_ tA92 rfl (i:=0) rfl (v:=.pointer (some ⟨bt,0,none⟩)) rfl) ⟨rfl,rfl⟩
  refine xbx rfl (xez ?_) ?_
  ·
   intro val8 pc9 hQ_ hX_
   have e0_:val8 0= .pointer (some ⟨bt,0,none⟩):=(hQ_ 0 rfl).1
   obtain ⟨q_,hq0_⟩: ∃ q_:Value→Pcs→Prop,q_=(fun v_ x_=>v_= .pointer (some ⟨bt,0,none⟩)∧x_=[]):=⟨_,rfl⟩
   refine ⟨(zq2 (zq4 (zq8 (zq16 (zq32 (zq32 (zq32 (zq32 (zq32 (zq32 [])))))))))),[],q_,(by rw [e0_]),rfl,(fun _ _ z_=>by subst hq0_;exact z_),?_⟩
   subst hq0_
   exact xdw mn (fun _ h_ H_=>xhk rfl) ⟨rfl,rfl⟩
  refine xbx rfl (xez ?_) ?_
  ·
   intro val8 pc9 hQ_ hX_
   have e1_:val8 1= .pointer (some ⟨bt,0,none⟩):=(hQ_ 1 rfl).1
   obtain ⟨q_,hq0_⟩: ∃ q_:Value→Pcs→Prop,q_=(fun v_ x_=>v_= .pointer (some ⟨bt,0,none⟩)∧x_=[]):=⟨_,rfl⟩
   refine ⟨(zq2 (zq4 (zq8 (zq16 (zq32 (zq32 (zq32 (zq32 (zq32 (zq32 [])))))))))),[],q_,(by rw [e1_]),rfl,(fun _ _ z_=>by subst hq0_;exact z_),?_⟩
   subst hq0_
   exact xdw mn (fun _ h_ H_=>xaz ycz rfl (a':=⟨bt,0,none⟩) rfl) ⟨rfl,rfl⟩
  refine xbx rfl (xez ?_) ?_
  ·
   intro val8 pc9 hQ_ hX_
   have e2_:val8 2= .pointer (some ⟨bt,0,none⟩):=(hQ_ 2 rfl).1
   obtain ⟨q_,hq0_⟩: ∃ q_:Value→Pcs→Prop,q_=(fun v_ x_=>v_= .agg #[.slice a1 t.nH c1,.slice a2 t.nW c2,.slice a3 t.m c3]∧x_=[]):=⟨_,rfl⟩
   refine ⟨(zq2 (zq4 (zq8 (zq16 (zq32 (zq32 (zq32 (zq32 (zq32 (zq32 [])))))))))),[],q_,(by rw [e2_]),rfl,(fun _ _ z_=>by subst hq0_;exact z_),?_⟩
   subst hq0_
   exact xdw mn (fun _ h_ H_=>xhx H_ tA25 tS25 rfl (vs:=[.slice a1 t.nH c1,.slice a2 t.nW c2,.slice a3 t.m c3]) rfl (xvk (n:=3) hb rfl)) ⟨rfl,rfl⟩
  refine xbx rfl (xez ?_) ?_
  ·
   intro val8 pc9 hQ_ hX_
   obtain ⟨q_,hq0_⟩: ∃ q_:Value→Pcs→Prop,q_=(fun v_ x_=>v_= .pointer (some ⟨bt,0,none⟩)∧x_=[]):=⟨_,rfl⟩
   refine ⟨(zq2 (zq4 (zq8 (zq16 (zq32 (zq32 (zq32 (zq32 (zq32 (zq32 [])))))))))),[],q_,rfl,rfl,(fun _ _ z_=>by subst hq0_;exact z_),?_⟩
   subst hq0_
   exact xdw mn (fun _ h_ H_=>xaj H_ tA92 rfl (i:=0) rfl (v:=.pointer (some ⟨bt,0,none⟩)) rfl) ⟨rfl,rfl⟩
  refine xbx rfl (xez ?_) ?_
  ·
   intro val8 pc9 hQ_ hX_
   have e4_:val8 4= .pointer (some ⟨bt,0,none⟩):=(hQ_ 4 rfl).1
   obtain ⟨q_,hq0_⟩: ∃ q_:Value→Pcs→Prop,q_=(fun v_ x_=>v_= .pointer (some ⟨bt,0,none⟩)∧x_=[]):=⟨_,rfl⟩
   refine ⟨(zq2 (zq4 (zq8 (zq16 (zq32 (zq32 (zq32 (zq32 (zq32 (zq32 [])))))))))),[],q_,(by rw [e4_]),rfl,(fun _ _ z_=>by subst hq0_;exact z_),?_⟩
   subst hq0_
   exact xdw mn (fun _ h_ H_=>xhk rfl) ⟨rfl,rfl⟩
  refine xbx rfl (xez ?_) ?_
  ·
   intro val8 pc9 hQ_ hX_
   have e5_:val8 5= .pointer (some ⟨bt,0,none⟩):=(hQ_ 5 rfl).1
   obtain ⟨q_,hq0_⟩: ∃ q_:Value→Pcs→Prop,q_=(fun v_ x_=>v_= .pointer (some ⟨bt,6,none⟩)∧x_=[]):=⟨_,rfl⟩
   refine ⟨(zq2 (zq4 (zq8 (zq16 (zq32 (zq32 (zq32 (zq32 (zq32 (zq32 [])))))))))),[],q_,(by rw [e5_]),rfl,(fun _ _ z_=>by subst hq0_;exact z_),?_⟩
   subst hq0_
   exact xdw mn (fun _ h_ H_=>xaz zvj rfl (a':=⟨bt,6,none⟩) rfl) ⟨rfl,rfl⟩
  refine xbx rfl (xez ?_) ?_
  ·
   intro val8 pc9 hQ_ hX_
   have e6_:val8 6= .pointer (some ⟨bt,6,none⟩):=(hQ_ 6 rfl).1
   obtain ⟨q_,hq0_⟩: ∃ q_:Value→Pcs→Prop,q_=(fun v_ x_=>v_= .slice b t.m cb∧x_=[]):=⟨_,rfl⟩
   refine ⟨(zq2 (zq4 (zq8 (zq16 (zq32 (zq32 (zq32 (zq32 (zq32 (zq32 [])))))))))),[],q_,(by rw [e6_]),rfl,(fun _ _ z_=>by subst hq0_;exact z_),?_⟩
   subst hq0_
   exact xdw mn (fun _ h_ H_=>xbv H_ tA22 rfl (v:=.slice b t.m cb) (xkx hb rfl)) ⟨rfl,rfl⟩
  refine xbx rfl (xez ?_) ?_
  ·
   intro val8 pc9 hQ_ hX_
   have e3_:val8 3= .agg #[.slice a1 t.nH c1,.slice a2 t.nW c2,.slice a3 t.m c3]:=(hQ_ 3 rfl).1
   have e7_:val8 7= .slice b t.m cb:=(hQ_ 7 rfl).1
   obtain ⟨q_,hq0_⟩: ∃ q_:Value→Pcs→Prop,q_=(fun v_ x_=>∃ w10:Value,∃ w11:Value,∃ X12:Pcs,∃ X13:Pcs,v_= .tuple #[w10,w11]∧(OwnS 3 1 w10 (ics (lackL t d)) X12)∧(OwnS 3 1 w11 (ics (hasL t d)) X13)∧x_=(X13++(X12++[]))):=⟨_,rfl⟩
   refine ⟨(zq2 (zq4 (zq8 (zq16 (zq32 (zq32 (zq32 (zq32 (zq32 (zq32 [])))))))))),[],q_,(by rw [e3_,e7_]),rfl,(fun _ _ z_=>by subst hq0_;exact z_),?_⟩
   subst hq0_
   exact xww mn (first:=[]) (cap:=[]) rfl rfl fC67 (fun _ h_ H_=>(wox md H_.pe (show TownP _ _ _ _ _ _ _ t from ⟨T.h,T.w,T.y⟩) O D Dv).mono fun v_ h2_ ⟨w10,w11,X12,X13,e_,o14,o15,N_⟩=>⟨_,⟨w10,w11,X12,X13,e_,o14,o15,rfl⟩,H_.callN N_⟩)
  refine xbx rfl (xez ?_) ?_
  ·
   intro val8 pc9 hQ_ hX_
   obtain ⟨e8_,o14,o15,x8_⟩:=hG8_ _ _ (hQ_ 8 rfl)
   generalize hg_w10:Gw10 (val8 8) (pc9 8)=w10 at*
   generalize hg_w11:Gw11 (val8 8) (pc9 8)=w11 at*
   generalize hg_X12:GX12 (val8 8) (pc9 8)=X12 at*
   generalize hg_X13:GX13 (val8 8) (pc9 8)=X13 at*
   obtain ⟨q_,hq0_⟩: ∃ q_:Value→Pcs→Prop,q_=(fun v_ x_=>v_= .tuple #[w10,w11]∧x_=[]):=⟨_,rfl⟩
   refine ⟨(zq2 (zq4 (zq8 (zq16 (zq32 (zq32 (zq32 (zq32 (zq32 (zq32 [])))))))))),[],q_,(by rw [e8_]),rfl,(fun _ _ z_=>by subst hq0_ hg_w10 hg_w11 hg_X12 hg_X13;exact z_),?_⟩
   subst hq0_
   exact xdw mn (fun _ h_ H_=>xaq (v:=.tuple #[w10,w11]) rfl) ⟨rfl,rfl⟩
  refine xbx rfl (xez ?_) ?_
  ·
   intro val8 pc9 hQ_ hX_
   obtain ⟨e8_,o14,o15,x8_⟩:=hG8_ _ _ (hQ_ 8 rfl)
   have e9_:val8 9= .tuple #[(Gw10 (val8 8) (pc9 8)),(Gw11 (val8 8) (pc9 8))]:=(hQ_ 9 rfl).1
   generalize hg_w10:Gw10 (val8 8) (pc9 8)=w10 at*
   generalize hg_w11:Gw11 (val8 8) (pc9 8)=w11 at*
   generalize hg_X12:GX12 (val8 8) (pc9 8)=X12 at*
   generalize hg_X13:GX13 (val8 8) (pc9 8)=X13 at*
   obtain ⟨q_,hq0_⟩: ∃ q_:Value→Pcs→Prop,q_=(fun v_ x_=>v_=w10∧x_=[]):=⟨_,rfl⟩
   refine ⟨(zq2 (zq4 (zq8 (zq16 (zq32 (zq32 (zq32 (zq32 (zq32 (zq32 [])))))))))),[],q_,(by rw [e8_,e9_]),rfl,(fun _ _ z_=>by subst hq0_ hg_w10 hg_w11 hg_X12 hg_X13;exact z_),?_⟩
   subst hq0_
   exact xdw mn (fun _ h_ H_=>xdx rfl (v:=w10) rfl) ⟨rfl,rfl⟩
  refine xbx rfl (xez ?_) ?_
  ·
   intro val8 pc9 hQ_ hX_
   obtain ⟨e8_,o14,o15,x8_⟩:=hG8_ _ _ (hQ_ 8 rfl)
   have e9_:val8 9= .tuple #[(Gw10 (val8 8) (pc9 8)),(Gw11 (val8 8) (pc9 8))]:=(hQ_ 9 rfl).1
   generalize hg_w10:Gw10 (val8 8) (pc9 8)=w10 at*
   generalize hg_w11:Gw11 (val8 8) (pc9 8)=w11 at*
   generalize hg_X12:GX12 (val8 8) (pc9 8)=X12 at*
   generalize hg_X13:GX13 (val8 8) (pc9 8)=X13 at*
   obtain ⟨q_,hq0_⟩: ∃ q_:Value→Pcs→Prop,q_=(fun v_ x_=>v_=w11∧x_=[]):=⟨_,rfl⟩
   refine ⟨(zq2 (zq4 (zq8 (zq16 (zq32 (zq32 (zq32 (zq32 (zq32 (zq32 [])))))))))),[],q_,(by rw [e8_,e9_]),rfl,(fun _ _ z_=>by subst hq0_ hg_w10 hg_w11 hg_X12 hg_X13;exact z_),?_⟩
   subst hq0_
   exact xdw mn (fun _ h_ H_=>xdx rfl (v:=w11) rfl) ⟨rfl,rfl⟩
  refine xbx rfl (xez ?_) ?_
  ·
   intro val8 pc9 hQ_ hX_
   have e0_:val8 0= .pointer (some ⟨bt,0,none⟩):=(hQ_ 0 rfl).1
   have e1_:val8 1= .pointer (some ⟨bt,0,none⟩):=(hQ_ 1 rfl).1
   have e2_:val8 2= .pointer (some ⟨bt,0,none⟩):=(hQ_ 2 rfl).1
   have e3_:val8 3= .agg #[.slice a1 t.nH c1,.slice a2 t.nW c2,.slice a3 t.m c3]:=(hQ_ 3 rfl).1
   have e4_:val8 4= .pointer (some ⟨bt,0,none⟩):=(hQ_ 4 rfl).1
   have e5_:val8 5= .pointer (some ⟨bt,0,none⟩):=(hQ_ 5 rfl).1
   have e6_:val8 6= .pointer (some ⟨bt,6,none⟩):=(hQ_ 6 rfl).1
   have e7_:val8 7= .slice b t.m cb:=(hQ_ 7 rfl).1
   obtain ⟨e8_,o14,o15,x8_⟩:=hG8_ _ _ (hQ_ 8 rfl)
   have e9_:val8 9= .tuple #[(Gw10 (val8 8) (pc9 8)),(Gw11 (val8 8) (pc9 8))]:=(hQ_ 9 rfl).1
   have e10_:val8 10=(Gw10 (val8 8) (pc9 8)):=(hQ_ 10 rfl).1
   generalize hg_w10:Gw10 (val8 8) (pc9 8)=w10 at*
   generalize hg_w11:Gw11 (val8 8) (pc9 8)=w11 at*
   generalize hg_X12:GX12 (val8 8) (pc9 8)=X12 at*
   generalize hg_X13:GX13 (val8 8) (pc9 8)=X13 at*
   obtain ⟨q_,hq0_⟩: ∃ q_:Value→Pcs→Prop,q_=(fun v_ x_=>v_=w10∧x_=[]):=⟨_,rfl⟩
   refine ⟨(zq2 (zq4 (zq8 (zq16 (zq32 (zq32 (zq32 (zq32 (zq32 (zq32 [])))))))))),[],q_,(by rw [e0_,e1_,e2_,e3_,e4_,e5_,e6_,e7_,e8_,e9_,e10_]),rfl,(fun _ _ z_=>by subst hq0_ hg_w10 hg_w11 hg_X12 hg_X13;exact z_),?_⟩
   subst hq0_
   exact xdw mn (fun _ h_ H_=>xax (v:=w10) rfl) ⟨rfl,rfl⟩
  exact xmw rfl
 intro val8 pc9 hQ_ hX_
 have e0_:val8 0= .pointer (some ⟨bt,0,none⟩):=(hQ_ 0 (by decide)).1
 have e1_:val8 1= .pointer (some ⟨bt,0,none⟩):=(hQ_ 1 (by decide)).1
 have e2_:val8 2= .pointer (some ⟨bt,0,none⟩):=(hQ_ 2 (by decide)).1
 have e3_:val8 3= .agg #[.slice a1 t.nH c1,.slice a2 t.nW c2,.slice a3 t.m c3]:=(hQ_ 3 (by decide)).1
 have e4_:val8 4= .pointer (some ⟨bt,0,none⟩):=(hQ_ 4 (by decide)).1
 have e5_:val8 5= .pointer (some ⟨bt,0,none⟩):=(hQ_ 5 (by decide)).1
 have e6_:val8 6= .pointer (some ⟨bt,6,none⟩):=(hQ_ 6 (by decide)).1
 have e7_:val8 7= .slice b t.m cb:=(hQ_ 7 (by decide)).1
 obtain ⟨e8_,o14,o15,x8_⟩:=hG8_ _ _ (hQ_ 8 (by decide))
 have e9_:val8 9= .tuple #[(Gw10 (val8 8) (pc9 8)),(Gw11 (val8 8) (pc9 8))]:=(hQ_ 9 (by decide)).1
 have e10_:val8 10=(Gw10 (val8 8) (pc9 8)):=(hQ_ 10 (by decide)).1
 have e11_:val8 11=(Gw11 (val8 8) (pc9 8)):=(hQ_ 11 (by decide)).1
 have e12_:val8 12=(Gw10 (val8 8) (pc9 8)):=(hQ_ 12 (by decide)).1
 have x13_:pc9 13=X₀:=hX_ 13 (by decide)
 clear hQ_ hX_
 generalize Gw10 (val8 8) (pc9 8)=w10 at*
 generalize Gw11 (val8 8) (pc9 8)=w11 at*
 generalize GX12 (val8 8) (pc9 8)=X12 at*
 generalize GX13 (val8 8) (pc9 8)=X13 at*
 refine yax (Φ:=fun h_=>St h₀ B₀ p h_ (([(b1,.cells #[.pointer (some ⟨bt,0,none⟩)] 92 (0,0))]:Pcs)++(pc9 13++(pc9 8++[])))) ?_ (fun h_ H_=>H_.swap')
 rw [x13_,x8_]
 refine xcj (L':=([(b1,.cells #[.pointer (some ⟨bt,0,none⟩)] 92 (0,0))]:Pcs)++(X₀++(X13++(X12++[])))) (by simp) ?_
 refine xgx (tm':=(zq2 (zq4 (zq8 (zq16 (zq32 (zq32 (zq32 (zq32 (zq32 (zq32 []))))))))))) (by rw [e0_,e1_,e2_,e3_,e4_,e5_,e6_,e7_,e8_,e9_,e10_,e11_,e12_]) ?_
 refine ro (xax (v:=w11) rfl) <| ren <| xbq <| rd (fun h_ H_=>xaj H_ tA92 rfl (i:=0) rfl (v:=.pointer (some ⟨bt,0,none⟩)) rfl) <| rt (xhk rfl) (tm':=zq2 (zq4 (zq8 (zq16 _)))) rfl <| ro (xaz ycz rfl (a':=⟨bt,0,none⟩) rfl) ?_
 refine ro (xaz xnj rfl (a':=⟨bt,1,none⟩) rfl) ?_
 refine xaw mn (fun h_ H_=>xbv H_ tA22 rfl (v:=.slice a2 t.nW c2) (xkx hb rfl)) (tm':=zq1 (zq32 _)) rfl ?_
 refine ro (xfk Tryd.underlying22 rfl) <| ro (xax (v:=.int .i64 (((t.nW:Nat):Int))) rfl) <| ren <| xbq <| rt (xaq (v:=.int .i64 (((t.nW:Nat):Int))) rfl) (tm':=zq1 (zq2 (zq32 _))) rfl <| rd (fun h_ H_=>xaj H_ tA92 rfl (i:=0) rfl (v:=.pointer (some ⟨bt,0,none⟩)) rfl) ?_
 refine ro (xhk rfl) <| rt (xaz ycz rfl (a':=⟨bt,0,none⟩) rfl) (tm':=zq2 (zq4 (zq32 _))) rfl <| ro (xaz xmz rfl (a':=⟨bt,0,none⟩) rfl) <| rd (fun h_ H_=>xbv H_ tA22 rfl (v:=.slice a1 t.nH c1) (xkx hb rfl)) <| rt (xfk Tryd.underlying22 rfl) (tm':=zq1 (zq8 (zq32 _))) rfl ?_
 refine ro (xfx rfl rfl (n:=((t.nW+t.nH:Nat):Int)) (wr (by omega))) ?_
 refine ro (xax (v:=.int .i64 (((t.nW+t.nH:Nat):Int))) rfl) <| ren <| xbq <| rt (xaq (v:=.int .i64 (((t.nW+t.nH:Nat):Int))) rfl) (tm':=zq1 (zq2 (zq8 (zq32 _)))) rfl ?_
 refine ro (xfx rfl rfl (n:=(((t.nW+t.nH)+1:Nat):Int)) (wr (by omega))) ?_
 refine ro (xax (v:=.int .i64 ((((t.nW+t.nH)+1:Nat):Int))) rfl) <| ren <| xbq <| rt (xvw (a:=[]) (b:=[.pointer (some ⟨b1,0,none⟩)]) rfl rfl) (tm':=zq1 (zq4 (zq8 (zq32 _)))) rfl <| ro (xax (v:=.func (.func 113) #[] #[.pointer (some ⟨b1,0,none⟩)]) rfl) <| ren ?_
 refine fsr <| ro (xaq (v:=w11) rfl) <| rt (xuz o15 ((xck _).trans ykj) Tryd.underlying22 rfl) (tm':=zq1 (zq2 (zq4 (zq8 (zq32 _))))) rfl <| ro (xaq (v:=.int .i64 0) rfl) <| xak <| xek ?_
 refine xiv (m₀:=t.nW-0) (fun m_ tm_ h_=>∃ (k:Nat) (X:Pcs),m_=t.nW-k∧(∃ y18:Nat→Value,tm_=(.pointer (some ⟨bt,0,none⟩)::yv::.pointer (some ⟨b1,0,none⟩)::undef::w10::w11::.int .i64 (((t.nW:Nat):Int))::.int .i64 (((t.nW+t.nH:Nat):Int))::.int .i64 ((((t.nW+t.nH)+1:Nat):Int))::(.func (.func 113) #[] #[.pointer (some ⟨b1,0,none⟩)])::(y18 10)::(y18 11)::zu4 (.tuple #[w10,w11]::.pointer (some ⟨bt,0,none⟩)::.pointer (some ⟨bt,0,none⟩)::.pointer (some ⟨bt,0,none⟩)::.agg #[.slice a1 t.nH c1,.slice a2 t.nW c2,.slice a3 t.m c3]::.pointer (some ⟨bt,0,none⟩)::.pointer (some ⟨bt,0,none⟩)::.pointer (some ⟨bt,6,none⟩)::.slice b t.m cb::.tuple #[w10,w11]::w10::w11::.pointer (some ⟨bt,0,none⟩)::.pointer (some ⟨bt,0,none⟩)::.pointer (some ⟨bt,0,none⟩)::.pointer (some ⟨bt,1,none⟩)::.slice a2 t.nW c2::.int .i64 (((t.nW:Nat):Int))::.int .i64 (((t.nW:Nat):Int))::.pointer (some ⟨bt,0,none⟩)::.pointer (some ⟨bt,0,none⟩)::.pointer (some ⟨bt,0,none⟩)::.pointer (some ⟨bt,0,none⟩)::.slice a1 t.nH c1::.int .i64 (((t.nH:Nat):Int))::.int .i64 (((t.nW+t.nH:Nat):Int))::.int .i64 (((t.nW+t.nH:Nat):Int))::.int .i64 ((((t.nW+t.nH)+1:Nat):Int))::(.func (.func 113) #[] #[.pointer (some ⟨b1,0,none⟩)])::w11::.int .i64 (((t.nW:Nat):Int))::.int .i64 (((k:Nat):Int))::(y18 48)::(y18 49)::(y18 50)::(y18 51)::(y18 52)::(y18 53)::(y18 54)::(y18 55)::(y18 56)::(y18 57)::(y18 58)::(y18 59)::(y18 60)::(y18 61)::(y18 62)::(y18 63)::(y18 64)::(y18 65)::(y18 66)::(y18 67)::(y18 68)::(y18 69)::(y18 70)::(y18 71)::(y18 72)::(y18 73)::(y18 74)::(y18 75)::(y18 76)::(y18 77)::(y18 78)::(y18 79)::(y18 80)::(y18 81)::(y18 82)::(y18 83)::(y18 84)::(y18 85)::(y18 86)::(y18 87)::(y18 88)::(y18 89)::(y18 90)::(y18 91)::(y18 92)::(y18 93)::(y18 94)::(y18 95)::(y18 96)::(y18 97)::(y18 98)::(y18 99)::(y18 100)::(y18 101)::zu8 (zu16 (zu16 (zu16 (zu16 (zu16 (zu16 (zu16 []))))))))))∧(k≤t.nW)∧(I (outW t wi d k) X)∧St h₀ B₀ p h_ (([(b1,.cells #[.pointer (some ⟨bt,0,none⟩)] 92 (0,0))]:Pcs)++(X++(X13++(X12++[]))))) (fun h_ H_=>⟨0,X₀,rfl,(y_of rfl),Nat.zero_le _,hI0,H_⟩) ?_
 intro m_ tm_ IH19
 refine xij fun k=>xij fun X=>xdz fun hm_=>xdz fun ht_=>xdz fun hkk=>xdz fun hI=>?_
 subst hm_;obtain ⟨y18,ht_⟩:=ht_;subst ht_
 refine fsr <| ro (xgw rfl rfl) <| ren ?_
 by_cases cc20:((k:Nat):Int)<((t.nW:Nat):Int)
 ·
  refine xdk rfl (dtt cc20) <| xdq <| xej <| xek <| fsr <| rt (xaq (v:=.int .i64 (((k:Nat):Int))) rfl) (tm':=zq2 (zq16 (zq32 _))) rfl ?_
  refine ro (xhz o15 Tryd.underlying22 tS3 rfl rfl (by rw [((xck _).trans ykj)];first | omega | (simp only [List.length_set];omega))) ?_
  refine rd (fun h_ H_=>xwq (i:=k) (j:=0) (e:=[.int .i64 (has t d k)]) o15 H_ (fun x_ h_=>by simp [h_]) tA3 rfl rfl (wpz (by omega)) (u:=.int .i64 (has t d k)) rfl) ?_
  refine rt (xax (v:=.int .i64 (((k:Nat):Int))) rfl) (tm':=zq1 (zq2 (zq8 _))) rfl <| ro (xax (v:=.int .i64 (has t d k)) rfl) <| ren <| xbq <| ro (xaq (v:=.int .i64 (has t d k)) rfl) <| rt (xix rfl rfl) (tm':=zq2 (zq4 (zq16 (zq32 _)))) rfl ?_
  refine ro (xaq (v:=.bool (decide (0<has t d k))) rfl) ?_
  by_cases cc21:0<has t d k
  ·
   refine xaw (ms rfl rfl (dtt cc21)) (fun h_ H_=>xaq (v:=yv) rfl) rfl ?_
   refine xaw (ms rfl rfl (dtt cc21)) (fun h_ H_=>xaq (v:=.int .i64 (((t.nW+t.nH:Nat):Int))) rfl) (tm':=zq1 (zq8 (zq16 (zq32 _)))) rfl ?_
   refine xaw (ms rfl rfl (dtt cc21)) (fun h_ H_=>xaq (v:=.int .i64 (((k:Nat):Int))) rfl) rfl ?_
   refine xaw (ms rfl rfl (dtt cc21)) (fun h_ H_=>xaq (v:=.func (.func 113) #[] #[.pointer (some ⟨b1,0,none⟩)]) rfl) rfl ?_
   refine xaw (ms rfl rfl (dtt cc21)) (fun h_ H_=>xaq (v:=.int .i64 (((k:Nat):Int))) rfl) (tm':=zq4 (zq8 (zq16 (zq32 _)))) rfl ?_
   refine xaw (ms rfl rfl (dtt cc21)) (fun h_ H_=>xaj H_ tA92 rfl (i:=0) rfl (v:=.pointer (some ⟨bt,0,none⟩)) rfl) rfl ?_
   refine xaw (ms rfl rfl (dtt cc21)) (fun h_ H_=>xhk rfl) rfl ?_
   refine xaw (ms rfl rfl (dtt cc21)) (fun h_ H_=>xaz ypz rfl (a':=⟨bt,3,none⟩) rfl) (tm':=zq1 (zq2 (zq4 (zq8 (zq16 (zq32 _)))))) rfl ?_
   refine xaw (ms rfl rfl (dtt cc21)) (fun h_ H_=>xaz wiv rfl (a':=⟨bt,4,none⟩) rfl) rfl ?_
   refine xaw (ms rfl rfl (dtt cc21)) (fun h_ H_=>xbv H_ tA3 rfl (v:=.int .i64 (wi.well)) (xkx hb rfl)) rfl ?_
   refine xaw (ms rfl rfl (dtt cc21)) (fun h_ H_=>xjx rfl rfl) (tm':=zq2 (zq32 (zq32 _))) rfl ?_
   refine xcx (ms rfl rfl (dtt cc21)) (first:=[]) (cap:=[.pointer (some ⟨b1,0,none⟩)]) rfl rfl ztj (fun h_ H_=>(show CallsX Tryd.prog md 113 _ h_ (fun v h'=>v= .int .i64 (bw wi k)∧Keep h_ h') from c113 md _ _ (H_.perO (i:=0) rfl) (((k:Nat):Int)=wi.well) _ _ _ _ _ _ _ _ _ xsj (H_.leO (i:=0) rfl _ _ hb))) rfl ?_
   refine xaw (ms rfl rfl (dtt cc21)) (fun h_ H_=>wqj rfl (wr (by have z_:=S.bw k;omega))) rfl ?_
   refine xaw (ms rfl rfl (dtt cc21)) (fun h_ H_=>xjv tZ99 tP99 (vs:=[(0,.int .i64 (((t.nW+t.nH:Nat):Int))),(1,.int .i64 (((k:Nat):Int))),(2,.int .i64 (0-(bw wi k))),(3,.int .i64 (-1)),(4,.int .i64 0)]) rfl (cells:=#[.int .i64 (((t.nW+t.nH:Nat):Int)),.int .i64 (((k:Nat):Int)),.int .i64 (0-(bw wi k)),.int .i64 (-1),.int .i64 0]) rfl) (tm':=zq1 (zq4 (zq32 (zq32 _)))) rfl ?_
   refine xzx (ms rfl rfl (dtt cc21)) rfl (vs:=[.agg #[.int .i64 (((t.nW+t.nH:Nat):Int)),.int .i64 (((k:Nat):Int)),.int .i64 (0-(bw wi k)),.int .i64 (-1),.int .i64 0]]) rfl (R:=fun v_ h_=>∃ X_,v_= .bool true∧I ((outW t wi d k)++[(⟨t.sp,k,-bw wi k,-1,0⟩:Go.X.Bf.Arc)]) X_∧St h₀ B₀ p h_ (([(b1,.cells #[.pointer (some ⟨bt,0,none⟩)] 92 (0,0))]:Pcs)++(X_++(X13++(X12++[]))))) (fun h_ H_=>(show CallV Tryd.prog md yv [.agg #[.int .i64 (((t.nW+t.nH:Nat):Int)),.int .i64 (((k:Nat):Int)),.int .i64 (0-(bw wi k)),.int .i64 (-1),.int .i64 0]] h_ (fun v h'=>∃ X',v= .bool true∧I ((outW t wi d k)++[(⟨t.sp,k,-bw wi k,-1,0⟩:Go.X.Bf.Arc)]) X'∧St h₀ B₀ p h' (([(b1,.cells #[.pointer (some ⟨bt,0,none⟩)] 92 (0,0))]:Pcs)++(X'++(X13++(X12++[]))))) from by have e_:(.agg #[.int .i64 (((t.nW+t.nH:Nat):Int)),.int .i64 (((k:Nat):Int)),.int .i64 (0-(bw wi k)),.int .i64 (-1),.int .i64 0]:Value)=arcV ⟨t.sp,k,-bw wi k,-1,0⟩:=ycq (x:=⟨t.sp,k,-bw wi k,-1,0⟩) rfl rfl (show 0-(bw wi k)= -bw wi k from by omega) rfl rfl;rw [e_];exact (hy _ _ h_ _ _ (pre_W1 (by omega) (by assumption)) hI H_.yTo).mono fun v_ h2_ ⟨X_,e_,i_,N_⟩=>⟨X_,e_,i_,N_.yBack⟩)) fun v_=>?_
   refine xfv fun X22=>xfz fun ev_=>xfz fun hI23=>?_
   subst ev_
   refine xaw (ms rfl rfl (dtt cc21)) (fun h_ H_=>xgz rfl) rfl ?_
   refine rt (xbj rfl (dtt cc21) (v:=.bool (!true)) rfl) (tm':=zq8 (zq32 (zq32 _))) rfl <| ro (xaq (v:=.bool (!true)) rfl) ?_
   refine xaw (ms rfl rfl (xev rfl)) (fun h_ H_=>xaq (v:=.int .i64 (has t d k)) rfl) rfl ?_
   refine xaw (ms rfl rfl (xev rfl)) (fun h_ H_=>xaj H_ tA92 rfl (i:=0) rfl (v:=.pointer (some ⟨bt,0,none⟩)) rfl) (tm':=zq1 (zq2 (zq8 (zq32 (zq32 _))))) rfl ?_
   refine xaw (ms rfl rfl (xev rfl)) (fun h_ H_=>xhk rfl) rfl ?_
   refine xaw (ms rfl rfl (xev rfl)) (fun h_ H_=>xaz ycz rfl (a':=⟨bt,0,none⟩) rfl) rfl ?_
   refine xaw (ms rfl rfl (xev rfl)) (fun h_ H_=>xaz xnj rfl (a':=⟨bt,1,none⟩) rfl) (tm':=zq2 (zq4 (zq8 (zq32 (zq32 _))))) rfl ?_
   refine xaw (ms rfl rfl (xev rfl)) (fun h_ H_=>xbv H_ tA22 rfl (v:=.slice a2 t.nW c2) (xkx hb rfl)) rfl ?_
   refine xaw (ms rfl rfl (xev rfl)) (fun h_ H_=>xaq (v:=.int .i64 (((k:Nat):Int))) rfl) rfl ?_
   refine xaw (ms rfl rfl (xev rfl)) (fun h_ H_=>xcz (i:=k) Tryd.underlying22 tS3 (xkq a2 t.nW c2 (T.w.ne (by omega))) rfl (by omega)) (tm':=zq1 (zq16 (zq32 (zq32 _)))) rfl ?_
   refine xaw (ms rfl rfl (xev rfl)) (fun h_ H_=>xbv H_ tA3 rfl (v:=.int .i64 (t.wv k)) (T.w.get (by omega))) rfl ?_
   refine xaw (ms rfl rfl (xev rfl)) (fun h_ H_=>xgw rfl rfl) rfl ?_
   refine xaw (ms rfl rfl (xev rfl)) (fun h_ H_=>xaq (v:=.bool (decide (has t d k<t.wv k))) rfl) (tm':=zq4 (zq16 (zq32 (zq32 _)))) rfl ?_
   by_cases cc24:has t d k<t.wv k
   ·
    refine xaw (ms rfl rfl (dtt cc24)) (fun h_ H_=>xaq (v:=yv) rfl) rfl ?_
    refine xaw (ms rfl rfl (dtt cc24)) (fun h_ H_=>xaq (v:=.int .i64 (((k:Nat):Int))) rfl) rfl ?_
    refine xaw (ms rfl rfl (dtt cc24)) (fun h_ H_=>xaq (v:=.int .i64 (((t.nW+t.nH:Nat):Int))) rfl) (tm':=zq1 (zq2 (zq4 (zq16 (zq32 (zq32 _)))))) rfl ?_
    refine xaw (ms rfl rfl (dtt cc24)) (fun h_ H_=>xaq (v:=.func (.func 113) #[] #[.pointer (some ⟨b1,0,none⟩)]) rfl) rfl ?_
    refine xaw (ms rfl rfl (dtt cc24)) (fun h_ H_=>xaq (v:=.int .i64 (((k:Nat):Int))) rfl) rfl ?_
    refine xaw (ms rfl rfl (dtt cc24)) (fun h_ H_=>xaj H_ tA92 rfl (i:=0) rfl (v:=.pointer (some ⟨bt,0,none⟩)) rfl) (tm':=zq2 (zq8 (zq16 (zq32 (zq32 _))))) rfl ?_
    refine xaw (ms rfl rfl (dtt cc24)) (fun h_ H_=>xhk rfl) rfl ?_
    refine xaw (ms rfl rfl (dtt cc24)) (fun h_ H_=>xaz ypz rfl (a':=⟨bt,3,none⟩) rfl) rfl ?_
    refine xaw (ms rfl rfl (dtt cc24)) (fun h_ H_=>xaz wiv rfl (a':=⟨bt,4,none⟩) rfl) (tm':=zq1 (zq4 (zq8 (zq16 (zq32 (zq32 _)))))) rfl ?_
    refine xaw (ms rfl rfl (dtt cc24)) (fun h_ H_=>xbv H_ tA3 rfl (v:=.int .i64 (wi.well)) (xkx hb rfl)) rfl ?_
    refine xaw (ms rfl rfl (dtt cc24)) (fun h_ H_=>xjx rfl rfl) rfl ?_
    refine xcx (ms rfl rfl (dtt cc24)) (first:=[]) (cap:=[.pointer (some ⟨b1,0,none⟩)]) rfl rfl ztj (fun h_ H_=>(show CallsX Tryd.prog md 113 _ h_ (fun v h'=>v= .int .i64 (bw wi k)∧Keep h_ h') from c113 md _ _ (H_.perO (i:=0) rfl) (((k:Nat):Int)=wi.well) _ _ _ _ _ _ _ _ _ xsj (H_.leO (i:=0) rfl _ _ hb))) (tm':=zq32 (zq32 (zq32 _))) rfl ?_
    refine xaw (ms rfl rfl (dtt cc24)) (fun h_ H_=>xjv tZ99 tP99 (vs:=[(0,.int .i64 (((k:Nat):Int))),(1,.int .i64 (((t.nW+t.nH:Nat):Int))),(2,.int .i64 (bw wi k)),(3,.int .i64 (-1)),(4,.int .i64 0)]) rfl (cells:=#[.int .i64 (((k:Nat):Int)),.int .i64 (((t.nW+t.nH:Nat):Int)),.int .i64 (bw wi k),.int .i64 (-1),.int .i64 0]) rfl) rfl ?_
    refine xzx (ms rfl rfl (dtt cc24)) rfl (vs:=[.agg #[.int .i64 (((k:Nat):Int)),.int .i64 (((t.nW+t.nH:Nat):Int)),.int .i64 (bw wi k),.int .i64 (-1),.int .i64 0]]) rfl (R:=fun v_ h_=>∃ X_,v_= .bool true∧I (((outW t wi d k)++[(⟨t.sp,k,-bw wi k,-1,0⟩:Go.X.Bf.Arc)])++[(⟨k,t.sp,bw wi k,-1,0⟩:Go.X.Bf.Arc)]) X_∧St h₀ B₀ p h_ (([(b1,.cells #[.pointer (some ⟨bt,0,none⟩)] 92 (0,0))]:Pcs)++(X_++(X13++(X12++[]))))) (fun h_ H_=>(show CallV Tryd.prog md yv [.agg #[.int .i64 (((k:Nat):Int)),.int .i64 (((t.nW+t.nH:Nat):Int)),.int .i64 (bw wi k),.int .i64 (-1),.int .i64 0]] h_ (fun v h'=>∃ X',v= .bool true∧I (((outW t wi d k)++[(⟨t.sp,k,-bw wi k,-1,0⟩:Go.X.Bf.Arc)])++[(⟨k,t.sp,bw wi k,-1,0⟩:Go.X.Bf.Arc)]) X'∧St h₀ B₀ p h' (([(b1,.cells #[.pointer (some ⟨bt,0,none⟩)] 92 (0,0))]:Pcs)++(X'++(X13++(X12++[]))))) from by have e_:(.agg #[.int .i64 (((k:Nat):Int)),.int .i64 (((t.nW+t.nH:Nat):Int)),.int .i64 (bw wi k),.int .i64 (-1),.int .i64 0]:Value)=arcV ⟨k,t.sp,bw wi k,-1,0⟩:=ycq (x:=⟨k,t.sp,bw wi k,-1,0⟩) rfl rfl (show bw wi k=bw wi k from by omega) rfl rfl;rw [e_];exact (hy _ _ h_ _ _ (pre_W2 (by omega) (by assumption) (by assumption)) hI23 H_.yTo).mono fun v_ h2_ ⟨X_,e_,i_,N_⟩=>⟨X_,e_,i_,N_.yBack⟩)) fun v_=>?_
    refine xfv fun X25=>xfz fun ev_=>xfz fun hI26=>?_
    subst ev_
    refine xaw (ms rfl rfl (dtt cc24)) (fun h_ H_=>xgz rfl) (tm':=zq1 (zq2 (zq32 (zq32 (zq32 _))))) rfl ?_
    refine xaw (ms rfl rfl (xev rfl)) (fun h_ H_=>xbj rfl (dtt cc24) (v:=.bool (!true)) rfl) rfl ?_
    refine ro (xcq rfl (xev rfl) (v:=.bool (!true)) rfl) <| xak <| xcv rfl (xev rfl) <| xdq <| xeq <| xbq ?_
    refine rt (xfx rfl rfl (n:=((k+1:Nat):Int)) (wr (by omega))) (tm':=zq2 (zq4 (zq32 (zq32 (zq32 _))))) rfl ?_
    refine ro (xaq (v:=.int .i64 (((k+1:Nat):Int))) rfl) <| xak ?_
    exact fun h_ H_=>IH19 _ _ (by omega) h_ ⟨k+1,X25,rfl,(y_of rfl),(by omega),(by rw [← W_tt (t:=t) (w:=wi) (d:=d) (k:=k) (by assumption) (by assumption)];exact hI26),H_⟩
   ·
    refine rp (mo rfl rfl (dff cc24)) <| xfq (mo rfl rfl (dff cc24)) (tm':=zq2 (zq4 (zq16 (zq32 (zq32 _))))) rfl <| rp (mo rfl rfl (dff cc24)) <| rp (mo rfl rfl (dff cc24)) <| xfq (mo rfl rfl (dff cc24)) (tm':=zq1 (zq8 (zq16 (zq32 (zq32 _))))) rfl <| rp (mo rfl rfl (dff cc24)) ?_
    refine rp (mo rfl rfl (dff cc24)) <| xfq (mo rfl rfl (dff cc24)) (tm':=zq4 (zq8 (zq16 (zq32 (zq32 _))))) rfl <| rp (mo rfl rfl (dff cc24)) <| rp (mo rfl rfl (dff cc24)) <| xfq (mo rfl rfl (dff cc24)) (tm':=zq1 (zq2 (zq4 (zq8 (zq16 (zq32 (zq32 _))))))) rfl <| rp (mo rfl rfl (dff cc24)) ?_
    refine rp (mo rfl rfl (dff cc24)) <| xfq (mo rfl rfl (dff cc24)) (tm':=zq2 (zq32 (zq32 (zq32 _)))) rfl <| rp (mo rfl rfl (dff cc24)) ?_
    refine xaw (ms rfl rfl (xev rfl)) (fun h_ H_=>xcq rfl (dff cc24) (v:=.bool (false)) rfl) rfl ?_
    refine rt (xcq rfl (xev rfl) (v:=.bool (false)) rfl) (tm':=zq1 (zq4 (zq32 (zq32 (zq32 _))))) rfl <| xak <| xcv rfl rfl <| xdq <| xeq <| xbq ?_
    refine ro (xfx rfl rfl (n:=((k+1:Nat):Int)) (wr (by omega))) ?_
    refine ro (xaq (v:=.int .i64 (((k+1:Nat):Int))) rfl) <| xak ?_
    exact fun h_ H_=>IH19 _ _ (by omega) h_ ⟨k+1,X22,rfl,(y_of rfl),(by omega),(by rw [← W_tf (t:=t) (w:=wi) (d:=d) (k:=k) (by assumption) (by assumption)];exact hI23),H_⟩
  ·
   refine xfq (mo rfl rfl (dff cc21)) (tm':=zq8 (zq16 (zq32 _))) rfl <| rp (mo rfl rfl (dff cc21)) <| rp (mo rfl rfl (dff cc21)) <| xfq (mo rfl rfl (dff cc21)) (tm':=zq1 (zq2 (zq8 (zq16 (zq32 _))))) rfl <| rp (mo rfl rfl (dff cc21)) <| rp (mo rfl rfl (dff cc21)) ?_
   refine xfq (mo rfl rfl (dff cc21)) (tm':=zq2 (zq4 (zq8 (zq16 (zq32 _))))) rfl <| rp (mo rfl rfl (dff cc21)) <| rp (mo rfl rfl (dff cc21)) <| xfq (mo rfl rfl (dff cc21)) (tm':=zq1 (zq32 (zq32 _))) rfl <| rp (mo rfl rfl (dff cc21)) <| rp (mo rfl rfl (dff cc21)) ?_
   refine xfq (mo rfl rfl (dff cc21)) (tm':=zq4 (zq32 (zq32 _))) rfl <| rp (mo rfl rfl (dff cc21)) <| rp (mo rfl rfl (dff cc21)) <| xfq (mo rfl rfl (dff cc21)) (tm':=zq1 (zq2 (zq4 (zq32 (zq32 _))))) rfl <| ro (xcq rfl (dff cc21) (v:=.bool (false)) rfl) <| ro (xaq (v:=.bool (false)) rfl) ?_
   refine xaw (ms rfl rfl rfl) (fun h_ H_=>xaq (v:=.int .i64 (has t d k)) rfl) (tm':=zq2 (zq8 (zq32 (zq32 _)))) rfl ?_
   refine xaw (ms rfl rfl rfl) (fun h_ H_=>xaj H_ tA92 rfl (i:=0) rfl (v:=.pointer (some ⟨bt,0,none⟩)) rfl) rfl ?_
   refine xaw (ms rfl rfl rfl) (fun h_ H_=>xhk rfl) rfl ?_
   refine xaw (ms rfl rfl rfl) (fun h_ H_=>xaz ycz rfl (a':=⟨bt,0,none⟩) rfl) (tm':=zq1 (zq4 (zq8 (zq32 (zq32 _))))) rfl ?_
   refine xaw (ms rfl rfl rfl) (fun h_ H_=>xaz xnj rfl (a':=⟨bt,1,none⟩) rfl) rfl ?_
   refine xaw (ms rfl rfl rfl) (fun h_ H_=>xbv H_ tA22 rfl (v:=.slice a2 t.nW c2) (xkx hb rfl)) rfl ?_
   refine xaw (ms rfl rfl rfl) (fun h_ H_=>xaq (v:=.int .i64 (((k:Nat):Int))) rfl) (tm':=zq16 (zq32 (zq32 _))) rfl ?_
   refine xaw (ms rfl rfl rfl) (fun h_ H_=>xcz (i:=k) Tryd.underlying22 tS3 (xkq a2 t.nW c2 (T.w.ne (by omega))) rfl (by omega)) rfl ?_
   refine xaw (ms rfl rfl rfl) (fun h_ H_=>xbv H_ tA3 rfl (v:=.int .i64 (t.wv k)) (T.w.get (by omega))) rfl ?_
   refine xaw (ms rfl rfl rfl) (fun h_ H_=>xgw rfl rfl) (tm':=zq1 (zq2 (zq16 (zq32 (zq32 _))))) rfl ?_
   refine xaw (ms rfl rfl rfl) (fun h_ H_=>xaq (v:=.bool (decide (has t d k<t.wv k))) rfl) rfl ?_
   by_cases cc27:has t d k<t.wv k
   ·
    refine xaw (ms rfl rfl (dtt cc27)) (fun h_ H_=>xaq (v:=yv) rfl) rfl ?_
    refine xaw (ms rfl rfl (dtt cc27)) (fun h_ H_=>xaq (v:=.int .i64 (((k:Nat):Int))) rfl) (tm':=zq2 (zq4 (zq16 (zq32 (zq32 _))))) rfl ?_
    refine xaw (ms rfl rfl (dtt cc27)) (fun h_ H_=>xaq (v:=.int .i64 (((t.nW+t.nH:Nat):Int))) rfl) rfl ?_
    refine xaw (ms rfl rfl (dtt cc27)) (fun h_ H_=>xaq (v:=.func (.func 113) #[] #[.pointer (some ⟨b1,0,none⟩)]) rfl) rfl ?_
    refine xaw (ms rfl rfl (dtt cc27)) (fun h_ H_=>xaq (v:=.int .i64 (((k:Nat):Int))) rfl) (tm':=zq1 (zq8 (zq16 (zq32 (zq32 _))))) rfl ?_
    refine xaw (ms rfl rfl (dtt cc27)) (fun h_ H_=>xaj H_ tA92 rfl (i:=0) rfl (v:=.pointer (some ⟨bt,0,none⟩)) rfl) rfl ?_
    refine xaw (ms rfl rfl (dtt cc27)) (fun h_ H_=>xhk rfl) rfl ?_
    refine xaw (ms rfl rfl (dtt cc27)) (fun h_ H_=>xaz ypz rfl (a':=⟨bt,3,none⟩) rfl) (tm':=zq4 (zq8 (zq16 (zq32 (zq32 _))))) rfl ?_
    refine xaw (ms rfl rfl (dtt cc27)) (fun h_ H_=>xaz wiv rfl (a':=⟨bt,4,none⟩) rfl) rfl ?_
    refine xaw (ms rfl rfl (dtt cc27)) (fun h_ H_=>xbv H_ tA3 rfl (v:=.int .i64 (wi.well)) (xkx hb rfl)) rfl ?_
    refine xaw (ms rfl rfl (dtt cc27)) (fun h_ H_=>xjx rfl rfl) (tm':=zq1 (zq2 (zq4 (zq8 (zq16 (zq32 (zq32 _))))))) rfl ?_
    refine xcx (ms rfl rfl (dtt cc27)) (first:=[]) (cap:=[.pointer (some ⟨b1,0,none⟩)]) rfl rfl ztj (fun h_ H_=>(show CallsX Tryd.prog md 113 _ h_ (fun v h'=>v= .int .i64 (bw wi k)∧Keep h_ h') from c113 md _ _ (H_.perO (i:=0) rfl) (((k:Nat):Int)=wi.well) _ _ _ _ _ _ _ _ _ xsj (H_.leO (i:=0) rfl _ _ hb))) rfl ?_
    refine xaw (ms rfl rfl (dtt cc27)) (fun h_ H_=>xjv tZ99 tP99 (vs:=[(0,.int .i64 (((k:Nat):Int))),(1,.int .i64 (((t.nW+t.nH:Nat):Int))),(2,.int .i64 (bw wi k)),(3,.int .i64 (-1)),(4,.int .i64 0)]) rfl (cells:=#[.int .i64 (((k:Nat):Int)),.int .i64 (((t.nW+t.nH:Nat):Int)),.int .i64 (bw wi k),.int .i64 (-1),.int .i64 0]) rfl) rfl ?_
    refine xzx (ms rfl rfl (dtt cc27)) rfl (vs:=[.agg #[.int .i64 (((k:Nat):Int)),.int .i64 (((t.nW+t.nH:Nat):Int)),.int .i64 (bw wi k),.int .i64 (-1),.int .i64 0]]) rfl (R:=fun v_ h_=>∃ X_,v_= .bool true∧I ((outW t wi d k)++[(⟨k,t.sp,bw wi k,-1,0⟩:Go.X.Bf.Arc)]) X_∧St h₀ B₀ p h_ (([(b1,.cells #[.pointer (some ⟨bt,0,none⟩)] 92 (0,0))]:Pcs)++(X_++(X13++(X12++[]))))) (fun h_ H_=>(show CallV Tryd.prog md yv [.agg #[.int .i64 (((k:Nat):Int)),.int .i64 (((t.nW+t.nH:Nat):Int)),.int .i64 (bw wi k),.int .i64 (-1),.int .i64 0]] h_ (fun v h'=>∃ X',v= .bool true∧I ((outW t wi d k)++[(⟨k,t.sp,bw wi k,-1,0⟩:Go.X.Bf.Arc)]) X'∧St h₀ B₀ p h' (([(b1,.cells #[.pointer (some ⟨bt,0,none⟩)] 92 (0,0))]:Pcs)++(X'++(X13++(X12++[]))))) from by have e_:(.agg #[.int .i64 (((k:Nat):Int)),.int .i64 (((t.nW+t.nH:Nat):Int)),.int .i64 (bw wi k),.int .i64 (-1),.int .i64 0]:Value)=arcV ⟨k,t.sp,bw wi k,-1,0⟩:=ycq (x:=⟨k,t.sp,bw wi k,-1,0⟩) rfl rfl (show bw wi k=bw wi k from by omega) rfl rfl;rw [e_];exact (hy _ _ h_ _ _ (pre_W3 (by omega) (by assumption) (by assumption)) hI H_.yTo).mono fun v_ h2_ ⟨X_,e_,i_,N_⟩=>⟨X_,e_,i_,N_.yBack⟩)) fun v_=>?_
    refine xfv fun X28=>xfz fun ev_=>xfz fun hI29=>?_
    subst ev_
    refine xgx (tm':=zq2 (zq32 (zq32 (zq32 _)))) rfl ?_
    refine xaw (ms rfl rfl (dtt cc27)) (fun h_ H_=>xgz rfl) rfl ?_
    refine xaw (ms rfl rfl rfl) (fun h_ H_=>xbj rfl (dtt cc27) (v:=.bool (!true)) rfl) rfl ?_
    refine rt (xcq rfl rfl (v:=.bool (!true)) rfl) (tm':=zq1 (zq4 (zq32 (zq32 (zq32 _))))) rfl <| xak <| xcv rfl (xev rfl) <| xdq <| xeq <| xbq ?_
    refine ro (xfx rfl rfl (n:=((k+1:Nat):Int)) (wr (by omega))) ?_
    refine ro (xaq (v:=.int .i64 (((k+1:Nat):Int))) rfl) <| xak ?_
    exact fun h_ H_=>IH19 _ _ (by omega) h_ ⟨k+1,X28,rfl,(y_of rfl),(by omega),(by rw [← W_ft (t:=t) (w:=wi) (d:=d) (k:=k) (by assumption) (by assumption)];exact hI29),H_⟩
   ·
    refine xfq (mo rfl rfl (dff cc27)) (tm':=zq1 (zq4 (zq16 (zq32 (zq32 _))))) rfl <| rp (mo rfl rfl (dff cc27)) <| rp (mo rfl rfl (dff cc27)) <| xfq (mo rfl rfl (dff cc27)) (tm':=zq8 (zq16 (zq32 (zq32 _)))) rfl <| rp (mo rfl rfl (dff cc27)) <| rp (mo rfl rfl (dff cc27)) ?_
    refine xfq (mo rfl rfl (dff cc27)) (tm':=zq1 (zq2 (zq8 (zq16 (zq32 (zq32 _)))))) rfl <| rp (mo rfl rfl (dff cc27)) <| rp (mo rfl rfl (dff cc27)) <| xfq (mo rfl rfl (dff cc27)) (tm':=zq2 (zq4 (zq8 (zq16 (zq32 (zq32 _)))))) rfl <| rp (mo rfl rfl (dff cc27)) <| rp (mo rfl rfl (dff cc27)) ?_
    refine xfq (mo rfl rfl (dff cc27)) (tm':=zq1 (zq32 (zq32 (zq32 _)))) rfl <| rp (mo rfl rfl (dff cc27)) <| rp (mo rfl rfl (dff cc27)) ?_
    refine xaw (ms rfl rfl rfl) (fun h_ H_=>xcq rfl (dff cc27) (v:=.bool (false)) rfl) (tm':=zq4 (zq32 (zq32 (zq32 _)))) rfl ?_
    refine ro (xcq rfl rfl (v:=.bool (false)) rfl) <| xak <| xcv rfl rfl <| xdq <| xeq <| xbq ?_
    refine ro (xfx rfl rfl (n:=((k+1:Nat):Int)) (wr (by omega))) ?_
    refine rt (xaq (v:=.int .i64 (((k+1:Nat):Int))) rfl) (tm':=zq16 (zq32 _)) rfl <| xak ?_
    exact fun h_ H_=>IH19 _ _ (by omega) h_ ⟨k+1,X,rfl,(y_of rfl),(by omega),(by rw [← W_ff (t:=t) (w:=wi) (d:=d) (k:=k) (by assumption) (by assumption)];exact hI),H_⟩
 ·
  refine xcv rfl (dff cc20) <| xiq rfl <| xej <| fsr <| ro (xaq (v:=w10) rfl) <| ro (xuz o14 ((xck _).trans xyq) Tryd.underlying22 rfl) ?_
  refine rt (xaq (v:=.int .i64 0) rfl) (tm':=zq1 (zq8 (zq32 (zq32 (zq32 _))))) rfl <| xak <| xek ?_
  refine xiv (m₀:=t.nH-0) (fun m_ tm_ h_=>∃ (l:Nat) (X:Pcs),m_=t.nH-l∧(∃ y30:Nat→Value,tm_=(.pointer (some ⟨bt,0,none⟩)::yv::.pointer (some ⟨b1,0,none⟩)::undef::w10::w11::.int .i64 (((t.nW:Nat):Int))::.int .i64 (((t.nW+t.nH:Nat):Int))::.int .i64 ((((t.nW+t.nH)+1:Nat):Int))::(.func (.func 113) #[] #[.pointer (some ⟨b1,0,none⟩)])::(y18 10)::(y18 11)::(y30 12)::(y30 13)::undef::undef::.tuple #[w10,w11]::.pointer (some ⟨bt,0,none⟩)::.pointer (some ⟨bt,0,none⟩)::.pointer (some ⟨bt,0,none⟩)::.agg #[.slice a1 t.nH c1,.slice a2 t.nW c2,.slice a3 t.m c3]::.pointer (some ⟨bt,0,none⟩)::.pointer (some ⟨bt,0,none⟩)::.pointer (some ⟨bt,6,none⟩)::.slice b t.m cb::.tuple #[w10,w11]::w10::w11::.pointer (some ⟨bt,0,none⟩)::.pointer (some ⟨bt,0,none⟩)::.pointer (some ⟨bt,0,none⟩)::.pointer (some ⟨bt,1,none⟩)::.slice a2 t.nW c2::.int .i64 (((t.nW:Nat):Int))::.int .i64 (((t.nW:Nat):Int))::.pointer (some ⟨bt,0,none⟩)::.pointer (some ⟨bt,0,none⟩)::.pointer (some ⟨bt,0,none⟩)::.pointer (some ⟨bt,0,none⟩)::.slice a1 t.nH c1::.int .i64 (((t.nH:Nat):Int))::.int .i64 (((t.nW+t.nH:Nat):Int))::.int .i64 (((t.nW+t.nH:Nat):Int))::.int .i64 ((((t.nW+t.nH)+1:Nat):Int))::(.func (.func 113) #[] #[.pointer (some ⟨b1,0,none⟩)])::w11::.int .i64 (((t.nW:Nat):Int))::.int .i64 (((k:Nat):Int))::.bool (decide (((k:Nat):Int)<((t.nW:Nat):Int)))::(y18 49)::(y18 50)::(y18 51)::(y18 52)::(y18 53)::(y18 54)::(y18 55)::(y18 56)::(y18 57)::(y18 58)::(y18 59)::(y18 60)::(y18 61)::(y18 62)::(y18 63)::(y18 64)::(y18 65)::(y18 66)::(y18 67)::(y18 68)::(y18 69)::(y18 70)::(y18 71)::(y18 72)::(y18 73)::(y18 74)::(y18 75)::(y18 76)::(y18 77)::(y18 78)::(y18 79)::(y18 80)::(y18 81)::(y18 82)::(y18 83)::(y18 84)::(y18 85)::(y18 86)::(y18 87)::(y18 88)::(y18 89)::(y18 90)::(y18 91)::(y18 92)::(y18 93)::(y18 94)::(y18 95)::(y18 96)::(y18 97)::(y18 98)::(y18 99)::(y18 100)::(y18 101)::w10::.int .i64 (((t.nH:Nat):Int))::.int .i64 (((l:Nat):Int))::(y30 105)::(y30 106)::(y30 107)::(y30 108)::(y30 109)::(y30 110)::(y30 111)::(y30 112)::(y30 113)::(y30 114)::(y30 115)::(y30 116)::(y30 117)::(y30 118)::(y30 119)::(y30 120)::(y30 121)::(y30 122)::(y30 123)::(y30 124)::(y30 125)::(y30 126)::(y30 127)::(y30 128)::(y30 129)::(y30 130)::(y30 131)::(y30 132)::(y30 133)::(y30 134)::(y30 135)::(y30 136)::(y30 137)::(y30 138)::(y30 139)::(y30 140)::(y30 141)::(y30 142)::(y30 143)::(y30 144)::(y30 145)::(y30 146)::(y30 147)::(y30 148)::(y30 149)::(y30 150)::(y30 151)::(y30 152)::(y30 153)::(y30 154)::(y30 155)::(y30 156)::(y30 157)::(y30 158)::(y30 159)::(y30 160)::(y30 161)::(y30 162)::(y30 163)::(y30 164)::(y30 165)::(y30 166)::(y30 167)::(y30 168)::(y30 169)::(y30 170)::(y30 171)::(y30 172)::(y30 173)::(y30 174)::(y30 175)::undef::undef::zu4 (zu8 (zu16 (zu16 [])))))∧(l≤t.nH)∧(I (outH t wi d l) X)∧St h₀ B₀ p h_ (([(b1,.cells #[.pointer (some ⟨bt,0,none⟩)] 92 (0,0))]:Pcs)++(X++(X13++(X12++[]))))) (fun h_ H_=>⟨0,X,rfl,(y_of rfl),Nat.zero_le _,(by rw [wnq];have e_:k=t.nW:=(by omega);rw [← e_];exact hI),H_⟩) ?_
  intro m_ tm_ IH31
  refine xij fun l=>xij fun X=>xdz fun hm_=>xdz fun ht_=>xdz fun hkl=>xdz fun hI=>?_
  subst hm_;obtain ⟨y30,ht_⟩:=ht_;subst ht_
  have hl_:=fun z_:l<t.nH=>woz O Dv z_
  refine fsr <| ro (xgw rfl rfl) <| ren ?_
  by_cases cc32:((l:Nat):Int)<((t.nH:Nat):Int)
  ·
   refine xdk rfl (dtt cc32) <| xdq <| xej <| xek <| fsr <| ro (xaq (v:=.int .i64 (((l:Nat):Int))) rfl) ?_
   refine rt (xhz o14 Tryd.underlying22 tS3 rfl rfl (by rw [((xck _).trans xyq)];first | omega | (simp only [List.length_set];omega))) (tm':=zq4 (zq8 (zq32 (zq32 (zq32 _))))) rfl ?_
   refine rd (fun h_ H_=>xwq (i:=l) (j:=0) (e:=[.int .i64 (lack t d l)]) o14 H_ (fun x_ h_=>by simp [h_]) tA3 rfl rfl (zyv (by omega)) (u:=.int .i64 (lack t d l)) rfl) ?_
   refine ro (xax (v:=.int .i64 (((l:Nat):Int))) rfl) <| rt (xax (v:=.int .i64 (lack t d l)) rfl) (tm':=zq2 (zq4 (zq8 _))) rfl <| ren ?_
   by_cases cc33:0<lack t d l
   ·
    by_cases cc34:lack t d l<t.hv l
    ·
     refine ykw (Base1:=fun h_=>∃ X3_,I ((outH t wi d l)++[(⟨t.nW+l,t.si,dear ((lack t d l).toNat-1)-dear (lack t d l).toNat-bh wi l,-1,0⟩:Go.X.Bf.Arc)]) X3_∧St h₀ B₀ p h_ (([(b1,.cells #[.pointer (some ⟨bt,0,none⟩)] 92 (0,0))]:Pcs)++(X3_++(X13++(X12++[]))))) 62 25 [[],[0],[0,1],[0,1,2],[0,1,2],[0,1,2],[0,1,2,4,5],[0,1,2],[0,1,2],[0,1,2,8],[0,1,2,8,9],[0,1,2],[0,1,2,8,9,10,11],[0,1,2,8,9,10,11,12],[0,1,2],[0,1,2],[0,1,2],[0,1,2,16],[0,1,2,16,17],[0,1,2,16,17,18],[0,1,2,16,17,18,19],[0,1,2,15,16,17,18,19,20],[0,1,2,8,9,10,11,12,14,15,16,17,18,19,20,21],[0,1,2,8,9,10,11,12,13,14,15,16,17,18,19,20,21,22],[0,1,2,4,5,6,7,8,9,10,11,12,13,14,15,16,17,18,19,20,21,22,23],[0,1,2,3,4,5,6,7,8,9,10,11,12,13,14,15,16,17,18,19,20,21,22,23,24],[0,1,2,3,4,5,6,7,8,9,10,11,12,13,14,15,16,17,18,19,20,21,22,23,24,25],[0,1,2,3,4,5,6,7,8,9,10,11,12,13,14,15,16,17,18,19,20,21,22,23,24,25,26],[0,1,2,3,4,5,6,7,8,9,10,11,12,13,14,15,16,17,18,19,20,21,22,23,24,25,26,27],[0,1,2,3,4,5,6,7,8,9,10,11,12,13,14,15,16,17,18,19,20,21,22,23,24,25,26,27,28],[0,1,2,3,4,5,6,7,8,9,10,11,12,13,14,15,16,17,18,19,20,21,22,23,24,25,26,27,28],[0,1,2,3,4,5,6,7,8,9,10,11,12,13,14,15,16,17,18,19,20,21,22,23,24,25,26,27,28,30],[0,1,2,3,4,5,6,7,8,9,10,11,12,13,14,15,16,17,18,19,20,21,22,23,24,25,26,27,28,30,31],[0,1,2,3,4,5,6,7,8,9,10,11,12,13,14,15,16,17,18,19,20,21,22,23,24,25,26,27,28,30,31,32],[0,1,2,3,4,5,6,7,8,9,10,11,12,13,14,15,16,17,18,19,20,21,22,23,24,25,26,27,28,30,31,32,33],[0,1,2,3,4,5,6,7,8,9,10,11,12,13,14,15,16,17,18,19,20,21,22,23,24,25,26,27,28],[0,1,2,3,4,5,6,7,8,9,10,11,12,13,14,15,16,17,18,19,20,21,22,23,24,25,26,27,28,30,31,32,33,34,35],[0,1,2,3,4,5,6,7,8,9,10,11,12,13,14,15,16,17,18,19,20,21,22,23,24,25,26,27,28,30,31,32,33,34,35,36],[0,1,2,3,4,5,6,7,8,9,10,11,12,13,14,15,16,17,18,19,20,21,22,23,24,25,26,27,28,29,30,31,32,33,34,35,36,37],[0,1,2,3,4,5,6,7,8,9,10,11,12,13,14,15,16,17,18,19,20,21,22,23,24,25,26,27,28,29,30,31,32,33,34,35,36,37,38],[0,1,2,3,4,5,6,7,8,9,10,11,12,13,14,15,16,17,18,19,20,21,22,23,24,25,26,27,28,29,30,31,32,33,34,35,36,37,38,39],[0,1,2,3,4,5,6,7,8,9,10,11,12,13,14,15,16,17,18,19,20,21,22,23,24,25,26,27,28,29,30,31,32,33,34,35,36,37,38,39],[0,1,2,3,4,5,6,7,8,9,10,11,12,13,14,15,16,17,18,19,20,21,22,23,24,25,26,27,28,29,30,31,32,33,34,35,36,37,38,39],[0,1,2,3,4,5,6,7,8,9,10,11,12,13,14,15,16,17,18,19,20,21,22,23,24,25,26,27,28,29,30,31,32,33,34,35,36,37,38,39],[0,1,2,3,4,5,6,7,8,9,10,11,12,13,14,15,16,17,18,19,20,21,22,23,24,25,26,27,28,29,30,31,32,33,34,35,36,37,38,39,42,43],[0,1,2,3,4,5,6,7,8,9,10,11,12,13,14,15,16,17,18,19,20,21,22,23,24,25,26,27,28,29,30,31,32,33,34,35,36,37,38,39],[0,1,2,3,4,5,6,7,8,9,10,11,12,13,14,15,16,17,18,19,20,21,22,23,24,25,26,27,28,29,30,31,32,33,34,35,36,37,38,39,45],[0,1,2,3,4,5,6,7,8,9,10,11,12,13,14,15,16,17,18,19,20,21,22,23,24,25,26,27,28,29,30,31,32,33,34,35,36,37,38,39,45,46],[0,1,2,3,4,5,6,7,8,9,10,11,12,13,14,15,16,17,18,19,20,21,22,23,24,25,26,27,28,29,30,31,32,33,34,35,36,37,38,39],[0,1,2,3,4,5,6,7,8,9,10,11,12,13,14,15,16,17,18,19,20,21,22,23,24,25,26,27,28,29,30,31,32,33,34,35,36,37,38,39,45,46,47,48],[0,1,2,3,4,5,6,7,8,9,10,11,12,13,14,15,16,17,18,19,20,21,22,23,24,25,26,27,28,29,30,31,32,33,34,35,36,37,38,39,45,46,47,48,49],[0,1,2,3,4,5,6,7,8,9,10,11,12,13,14,15,16,17,18,19,20,21,22,23,24,25,26,27,28,29,30,31,32,33,34,35,36,37,38,39],[0,1,2,3,4,5,6,7,8,9,10,11,12,13,14,15,16,17,18,19,20,21,22,23,24,25,26,27,28,29,30,31,32,33,34,35,36,37,38,39],[0,1,2,3,4,5,6,7,8,9,10,11,12,13,14,15,16,17,18,19,20,21,22,23,24,25,26,27,28,29,30,31,32,33,34,35,36,37,38,39],[0,1,2,3,4,5,6,7,8,9,10,11,12,13,14,15,16,17,18,19,20,21,22,23,24,25,26,27,28,29,30,31,32,33,34,35,36,37,38,39,53],[0,1,2,3,4,5,6,7,8,9,10,11,12,13,14,15,16,17,18,19,20,21,22,23,24,25,26,27,28,29,30,31,32,33,34,35,36,37,38,39,53,54],[0,1,2,3,4,5,6,7,8,9,10,11,12,13,14,15,16,17,18,19,20,21,22,23,24,25,26,27,28,29,30,31,32,33,34,35,36,37,38,39,53,54,55],[0,1,2,3,4,5,6,7,8,9,10,11,12,13,14,15,16,17,18,19,20,21,22,23,24,25,26,27,28,29,30,31,32,33,34,35,36,37,38,39,53,54,55,56],[0,1,2,3,4,5,6,7,8,9,10,11,12,13,14,15,16,17,18,19,20,21,22,23,24,25,26,27,28,29,30,31,32,33,34,35,36,37,38,39,52,53,54,55,56,57],[0,1,2,3,4,5,6,7,8,9,10,11,12,13,14,15,16,17,18,19,20,21,22,23,24,25,26,27,28,29,30,31,32,33,34,35,36,37,38,39,45,46,47,48,49,51,52,53,54,55,56,57,58],[0,1,2,3,4,5,6,7,8,9,10,11,12,13,14,15,16,17,18,19,20,21,22,23,24,25,26,27,28,29,30,31,32,33,34,35,36,37,38,39,45,46,47,48,49,50,51,52,53,54,55,56,57,58,59],[0,1,2,3,4,5,6,7,8,9,10,11,12,13,14,15,16,17,18,19,20,21,22,23,24,25,26,27,28,29,30,31,32,33,34,35,36,37,38,39,41,42,43,44,45,46,47,48,49,50,51,52,53,54,55,56,57,58,59,60],[0,1,2,3,4,5,6,7,8,9,10,11,12,13,14,15,16,17,18,19,20,21,22,23,24,25,26,27,28,29,30,31,32,33,34,35,36,37,38,39,40,41,42,43,44,45,46,47,48,49,50,51,52,53,54,55,56,57,58,59,60,61],[0,1,2,3,4,5,6,7,8,9,10,11,12,13,14,15,16,17,18,19,20,21,22,23,24,25,26,27,28,29,30,31,32,33,34,35,36,37,38,39,40,41,42,43,44,45,46,47,48,49,50,51,52,53,54,55,56,57,58,59,60,61,62],[0,1,2,3,4,5,6,7,8,9,10,11,12,13,14,15,16,17,18,19,20,21,22,23,24,25,26,27,28,29,30,31,32,33,34,35,36,37,38,39,40,41,42,43,44,45,46,47,48,49,50,51,52,53,54,55,56,57,58,59,60,61,62,63],[0,1,2,3,4,5,6,7,8,9,10,11,12,13,14,15,16,17,18,19,20,21,22,23,24,25,26,27,28,29,30,31,32,33,34,35,36,37,38,39,40,41,42,43,44,45,46,47,48,49,50,51,52,53,54,55,56,57,58,59,60,61,62,63,64]] xlq (by kernel_rfl) (Nat.le_of_ble_eq_true rfl) (Nat.le_of_ble_eq_true rfl) ?_
     refine xgq mn (by kernel_rfl) (xdj fun h_ H_=>xaq (v:=.int .i64 (lack t d l)) rfl) rfl ?_
     refine xgq mn (by kernel_rfl) (xdj fun h_ H_=>xix rfl rfl) (tm':=zq1 (zq2 (zq4 (zq8 (zq32 (zq32 (zq32 _))))))) rfl ?_
     refine xgq mn (by kernel_rfl) (xdj fun h_ H_=>xaq (v:=.bool (decide (0<lack t d l))) rfl) rfl ?_
     refine xgq (ms rfl rfl (dtt cc33)) (by kernel_rfl) (xdj fun h_ H_=>xaq (v:=yv) rfl) (tm':=zq1 (zq16 (zq32 (zq32 (zq32 _))))) rfl ?_
     refine xgq (ms rfl rfl (dtt cc33)) (by kernel_rfl) (xdj fun h_ H_=>xaq (v:=.int .i64 (((t.nW:Nat):Int))) rfl) rfl ?_
     refine xgq (ms rfl rfl (dtt cc33)) (by kernel_rfl) (xdj fun h_ H_=>xaq (v:=.int .i64 (((l:Nat):Int))) rfl) (tm':=zq1 (zq2 (zq16 (zq32 (zq32 (zq32 _)))))) rfl ?_
     refine xgq (ms rfl rfl (dtt cc33)) (by kernel_rfl) (xdj fun h_ H_=>xfx rfl rfl (n:=((t.nW+l:Nat):Int)) (wr (by have z_:=hl_ (by omega);have z1_:=xjz (show (lack t d l).toNat-1≤10 by omega);have z2_:=xjz (show (lack t d l).toNat≤10 by omega);have z3_:=xjz (show (lack t d l).toNat+1≤10 by omega);have z4_:=S.bh l;omega))) rfl ?_
     refine xgq (ms rfl rfl (dtt cc33)) (by kernel_rfl) (xdj fun h_ H_=>xaq (v:=.int .i64 ((((t.nW+t.nH)+1:Nat):Int))) rfl) (tm':=zq1 (zq4 (zq16 (zq32 (zq32 (zq32 _)))))) rfl ?_
     refine xgq (ms rfl rfl (dtt cc33)) (by kernel_rfl) (xdj fun h_ H_=>xaq (v:=.int .i64 (lack t d l)) rfl) rfl ?_
     refine xgq (ms rfl rfl (dtt cc33)) (by kernel_rfl) (xdj fun h_ H_=>xkw rfl rfl (wr (by have z_:=hl_ (by omega);have z1_:=xjz (show (lack t d l).toNat-1≤10 by omega);have z2_:=xjz (show (lack t d l).toNat≤10 by omega);have z3_:=xjz (show (lack t d l).toNat+1≤10 by omega);have z4_:=S.bh l;omega))) (tm':=zq1 (zq2 (zq4 (zq16 (zq32 (zq32 (zq32 _))))))) rfl ?_
     refine xgq (ms rfl rfl (dtt cc33)) (by kernel_rfl) (xtw (first:=[]) (cap:=[]) rfl rfl zoq fun h_ H_=>(zow md _ (z:=(lack t d l)-1) (x:=(lack t d l).toNat-1) (by have z_:=hl_ (by omega);omega) (by have z_:=hl_ (by omega);omega)).mono fun v_ h2_ ⟨e_,k_⟩=>⟨e_,H_.call k_⟩) rfl ?_
     refine xgq (ms rfl rfl (dtt cc33)) (by kernel_rfl) (xdj fun h_ H_=>xaq (v:=.int .i64 (lack t d l)) rfl) (tm':=zq1 (zq8 (zq16 (zq32 (zq32 (zq32 _)))))) rfl ?_
     refine xgq (ms rfl rfl (dtt cc33)) (by kernel_rfl) (xtw (first:=[]) (cap:=[]) rfl rfl zoq fun h_ H_=>(zow md _ (z:=lack t d l) (x:=(lack t d l).toNat) (by have z_:=hl_ (by omega);omega) (by have z_:=hl_ (by omega);omega)).mono fun v_ h2_ ⟨e_,k_⟩=>⟨e_,H_.call k_⟩) rfl ?_
     refine xgq (ms rfl rfl (dtt cc33)) (by kernel_rfl) (xdj fun h_ H_=>xkw rfl rfl (wr (by have z_:=hl_ (by omega);have z1_:=xjz (show (lack t d l).toNat-1≤10 by omega);have z2_:=xjz (show (lack t d l).toNat≤10 by omega);have z3_:=xjz (show (lack t d l).toNat+1≤10 by omega);have z4_:=S.bh l;omega))) (tm':=zq1 (zq2 (zq8 (zq16 (zq32 (zq32 (zq32 _))))))) rfl ?_
     refine xgq (ms rfl rfl (dtt cc33)) (by kernel_rfl) (xdj fun h_ H_=>xaq (v:=.func (.func 113) #[] #[.pointer (some ⟨b1,0,none⟩)]) rfl) rfl ?_
     refine xgq (ms rfl rfl (dtt cc33)) (by kernel_rfl) (xdj fun h_ H_=>xaq (v:=.int .i64 (((l:Nat):Int))) rfl) (tm':=zq1 (zq4 (zq8 (zq16 (zq32 (zq32 (zq32 _))))))) rfl ?_
     refine xgq (ms rfl rfl (dtt cc33)) (by kernel_rfl) (xdj fun h_ H_=>xaj H_ tA92 rfl (i:=0) rfl (v:=.pointer (some ⟨bt,0,none⟩)) rfl) rfl ?_
     refine xgq (ms rfl rfl (dtt cc33)) (by kernel_rfl) (xdj fun h_ H_=>xhk rfl) (tm':=zq1 (zq2 (zq4 (zq8 (zq16 (zq32 (zq32 (zq32 _)))))))) rfl ?_
     refine xgq (ms rfl rfl (dtt cc33)) (by kernel_rfl) (xdj fun h_ H_=>xaz ypz rfl (a':=⟨bt,3,none⟩) rfl) rfl ?_
     refine xgq (ms rfl rfl (dtt cc33)) (by kernel_rfl) (xdj fun h_ H_=>xaz zvk rfl (a':=⟨bt,3,none⟩) rfl) (tm':=zq1 (zq32 (zq32 (zq32 (zq32 _))))) rfl ?_
     refine xgq (ms rfl rfl (dtt cc33)) (by kernel_rfl) (xdj fun h_ H_=>xbv H_ tA3 rfl (v:=.int .i64 (wi.house)) (xkx hb rfl)) rfl ?_
     refine xgq (ms rfl rfl (dtt cc33)) (by kernel_rfl) (xdj fun h_ H_=>xjx rfl rfl) (tm':=zq1 (zq2 (zq32 (zq32 (zq32 (zq32 _)))))) rfl ?_
     refine xgq (ms rfl rfl (dtt cc33)) (by kernel_rfl) (xtw (first:=[]) (cap:=[.pointer (some ⟨b1,0,none⟩)]) rfl rfl ztj fun h_ H_=>((show CallsX Tryd.prog md 113 _ h_ (fun v h'=>v= .int .i64 (bh wi l)∧Keep h_ h') from c113 md _ _ (H_.perO (i:=0) rfl) (((l:Nat):Int)=wi.house) _ _ _ _ _ _ _ _ _ xsj (H_.leO (i:=0) rfl _ _ hb))).mono fun v_ h2_ ⟨e_,k_⟩=>⟨e_,H_.call k_⟩) rfl ?_
     refine xgq (ms rfl rfl (dtt cc33)) (by kernel_rfl) (xdj fun h_ H_=>xkw rfl rfl (wr (by have z_:=hl_ (by omega);have z1_:=xjz (show (lack t d l).toNat-1≤10 by omega);have z2_:=xjz (show (lack t d l).toNat≤10 by omega);have z3_:=xjz (show (lack t d l).toNat+1≤10 by omega);have z4_:=S.bh l;omega))) (tm':=zq1 (zq4 (zq32 (zq32 (zq32 (zq32 _)))))) rfl ?_
     refine xgq (ms rfl rfl (dtt cc33)) (by kernel_rfl) (xdj fun h_ H_=>xjv tZ99 tP99 (vs:=[(0,.int .i64 (((t.nW+l:Nat):Int))),(1,.int .i64 ((((t.nW+t.nH)+1:Nat):Int))),(2,.int .i64 (((dear ((lack t d l).toNat-1))-(dear ((lack t d l).toNat)))-(bh wi l))),(3,.int .i64 (-1)),(4,.int .i64 0)]) rfl (cells:=#[.int .i64 (((t.nW+l:Nat):Int)),.int .i64 ((((t.nW+t.nH)+1:Nat):Int)),.int .i64 (((dear ((lack t d l).toNat-1))-(dear ((lack t d l).toNat)))-(bh wi l)),.int .i64 (-1),.int .i64 0]) rfl) rfl ?_
     refine zjk rfl (ms rfl rfl (dtt cc33)) rfl (vs:=[.agg #[.int .i64 (((t.nW+l:Nat):Int)),.int .i64 ((((t.nW+t.nH)+1:Nat):Int)),.int .i64 (((dear ((lack t d l).toNat-1))-(dear ((lack t d l).toNat)))-(bh wi l)),.int .i64 (-1),.int .i64 0]]) rfl (fun h_ H_=>((show CallV Tryd.prog md yv [.agg #[.int .i64 (((t.nW+l:Nat):Int)),.int .i64 ((((t.nW+t.nH)+1:Nat):Int)),.int .i64 (((dear ((lack t d l).toNat-1))-(dear ((lack t d l).toNat)))-(bh wi l)),.int .i64 (-1),.int .i64 0]] h_ (fun v h'=>∃ X',v= .bool true∧I ((outH t wi d l)++[(⟨t.nW+l,t.si,dear ((lack t d l).toNat-1)-dear (lack t d l).toNat-bh wi l,-1,0⟩:Go.X.Bf.Arc)]) X'∧St h₀ B₀ p h' (([(b1,.cells #[.pointer (some ⟨bt,0,none⟩)] 92 (0,0))]:Pcs)++(X'++(X13++(X12++[]))))) from by have e_:(.agg #[.int .i64 (((t.nW+l:Nat):Int)),.int .i64 ((((t.nW+t.nH)+1:Nat):Int)),.int .i64 (((dear ((lack t d l).toNat-1))-(dear ((lack t d l).toNat)))-(bh wi l)),.int .i64 (-1),.int .i64 0]:Value)=arcV ⟨t.nW+l,t.si,dear ((lack t d l).toNat-1)-dear (lack t d l).toNat-bh wi l,-1,0⟩:=ycq (x:=⟨t.nW+l,t.si,dear ((lack t d l).toNat-1)-dear (lack t d l).toNat-bh wi l,-1,0⟩) rfl rfl (show ((dear ((lack t d l).toNat-1))-(dear ((lack t d l).toNat)))-(bh wi l)=dear ((lack t d l).toNat-1)-dear (lack t d l).toNat-bh wi l from by have z_:=hl_ (by omega);omega) rfl rfl;rw [e_];exact (hy _ _ h_ _ _ (vdz (by omega) (by assumption)) hI H_.yTo).mono fun v_ h2_ ⟨X_,e_,i_,N_⟩=>⟨X_,e_,i_,N_.yBack⟩)).mono fun v_ h2_ ⟨X_,e_,i_,N_⟩=>⟨e_,X_,i_,N_⟩) (tm':=zq1 (zq2 (zq4 (zq32 (zq32 (zq32 (zq32 _))))))) rfl ?_
     refine xhq (ms rfl rfl (dtt cc33)) (by kernel_rfl) (xdj fun h_ ⟨X3_,o3_,H_⟩=>xgz rfl) rfl ?_
     refine xhq mn (by kernel_rfl) (xdj fun h_ ⟨X3_,o3_,H_⟩=>xbj rfl (dtt cc33) (v:=.bool (!true)) rfl) (tm':=zq1 (zq8 (zq32 (zq32 (zq32 (zq32 _)))))) rfl ?_
     refine xhq mn (by kernel_rfl) (xdj fun h_ ⟨X3_,o3_,H_⟩=>xaq (v:=.bool (!true)) rfl) rfl ?_
     refine xhq (ms rfl rfl (xev rfl)) (by kernel_rfl) (xdj fun h_ ⟨X3_,o3_,H_⟩=>xaq (v:=.int .i64 (lack t d l)) rfl) (tm':=zq1 (zq2 (zq8 (zq32 (zq32 (zq32 (zq32 _))))))) rfl ?_
     refine xhq (ms rfl rfl (xev rfl)) (by kernel_rfl) (xdj fun h_ ⟨X3_,o3_,H_⟩=>xaj H_ tA92 rfl (i:=0) rfl (v:=.pointer (some ⟨bt,0,none⟩)) rfl) rfl ?_
     refine xhq (ms rfl rfl (xev rfl)) (by kernel_rfl) (xdj fun h_ ⟨X3_,o3_,H_⟩=>xhk rfl) (tm':=zq1 (zq4 (zq8 (zq32 (zq32 (zq32 (zq32 _))))))) rfl ?_
     refine xhq (ms rfl rfl (xev rfl)) (by kernel_rfl) (xdj fun h_ ⟨X3_,o3_,H_⟩=>xaz ycz rfl (a':=⟨bt,0,none⟩) rfl) rfl ?_
     refine xhq (ms rfl rfl (xev rfl)) (by kernel_rfl) (xdj fun h_ ⟨X3_,o3_,H_⟩=>xaz xmz rfl (a':=⟨bt,0,none⟩) rfl) (tm':=zq1 (zq2 (zq4 (zq8 (zq32 (zq32 (zq32 (zq32 _)))))))) rfl ?_
     refine xhq (ms rfl rfl (xev rfl)) (by kernel_rfl) (xdj fun h_ ⟨X3_,o3_,H_⟩=>xbv H_ tA22 rfl (v:=.slice a1 t.nH c1) (xkx hb rfl)) rfl ?_
     refine xhq (ms rfl rfl (xev rfl)) (by kernel_rfl) (xdj fun h_ ⟨X3_,o3_,H_⟩=>xaq (v:=.int .i64 (((l:Nat):Int))) rfl) (tm':=zq1 (zq16 (zq32 (zq32 (zq32 (zq32 _)))))) rfl ?_
     refine xhq (ms rfl rfl (xev rfl)) (by kernel_rfl) (xdj fun h_ ⟨X3_,o3_,H_⟩=>xcz (i:=l) Tryd.underlying22 tS3 (xkq a1 t.nH c1 (T.h.ne (by omega))) rfl (by omega)) rfl ?_
     refine xhq (ms rfl rfl (xev rfl)) (by kernel_rfl) (xdj fun h_ ⟨X3_,o3_,H_⟩=>xbv H_ tA3 rfl (v:=.int .i64 (t.hv l)) (T.h.get (by omega))) (tm':=zq1 (zq2 (zq16 (zq32 (zq32 (zq32 (zq32 _))))))) rfl ?_
     refine xhq (ms rfl rfl (xev rfl)) (by kernel_rfl) (xdj fun h_ ⟨X3_,o3_,H_⟩=>xgw rfl rfl) rfl ?_
     refine xhq (ms rfl rfl (xev rfl)) (by kernel_rfl) (xdj fun h_ ⟨X3_,o3_,H_⟩=>xaq (v:=.bool (decide (lack t d l<t.hv l))) rfl) (tm':=zq2 (zq4 (zq8 (zq16 (zq32 (zq32 (zq32 (zq32 (zq32 (zq32 [])))))))))) rfl ?_
     refine xhq (ms rfl rfl (dtt cc34)) (by kernel_rfl) (xdj fun h_ ⟨X3_,o3_,H_⟩=>xaq (v:=yv) rfl) rfl ?_
     refine xhq (ms rfl rfl (dtt cc34)) (by kernel_rfl) (xdj fun h_ ⟨X3_,o3_,H_⟩=>xaq (v:=.int .i64 ((((t.nW+t.nH)+1:Nat):Int))) rfl) (tm':=zq2 (zq4 (zq8 (zq16 (zq32 (zq32 (zq32 (zq32 (zq32 (zq32 [])))))))))) rfl ?_
     refine xhq (ms rfl rfl (dtt cc34)) (by kernel_rfl) (xdj fun h_ ⟨X3_,o3_,H_⟩=>xaq (v:=.int .i64 (((t.nW:Nat):Int))) rfl) rfl ?_
     refine xhq (ms rfl rfl (dtt cc34)) (by kernel_rfl) (xdj fun h_ ⟨X3_,o3_,H_⟩=>xaq (v:=.int .i64 (((l:Nat):Int))) rfl) (tm':=zq2 (zq4 (zq8 (zq16 (zq32 (zq32 (zq32 (zq32 (zq32 (zq32 [])))))))))) rfl ?_
     refine xhq (ms rfl rfl (dtt cc34)) (by kernel_rfl) (xdj fun h_ ⟨X3_,o3_,H_⟩=>xfx rfl rfl (n:=((t.nW+l:Nat):Int)) (wr (by have z_:=hl_ (by omega);have z1_:=xjz (show (lack t d l).toNat-1≤10 by omega);have z2_:=xjz (show (lack t d l).toNat≤10 by omega);have z3_:=xjz (show (lack t d l).toNat+1≤10 by omega);have z4_:=S.bh l;omega))) rfl ?_
     refine xhq (ms rfl rfl (dtt cc34)) (by kernel_rfl) (xdj fun h_ ⟨X3_,o3_,H_⟩=>xaq (v:=.int .i64 (lack t d l)) rfl) (tm':=zq2 (zq4 (zq8 (zq16 (zq32 (zq32 (zq32 (zq32 (zq32 (zq32 [])))))))))) rfl ?_
     refine xhq (ms rfl rfl (dtt cc34)) (by kernel_rfl) (xdj fun h_ ⟨X3_,o3_,H_⟩=>xfx rfl rfl (wr (by have z_:=hl_ (by omega);have z1_:=xjz (show (lack t d l).toNat-1≤10 by omega);have z2_:=xjz (show (lack t d l).toNat≤10 by omega);have z3_:=xjz (show (lack t d l).toNat+1≤10 by omega);have z4_:=S.bh l;omega))) rfl ?_
     refine xhq (ms rfl rfl (dtt cc34)) (by kernel_rfl) (xtw (first:=[]) (cap:=[]) rfl rfl zoq fun h_ ⟨X3_,o3_,H_⟩=>(zow md _ (z:=(lack t d l)+1) (x:=(lack t d l).toNat+1) (by have z_:=hl_ (by omega);omega) (by have z_:=hl_ (by omega);omega)).mono fun v_ h2_ ⟨e_,k_⟩=>⟨e_,X3_,o3_,H_.call k_⟩) (tm':=zq2 (zq4 (zq8 (zq16 (zq32 (zq32 (zq32 (zq32 (zq32 (zq32 [])))))))))) rfl ?_
     refine xhq (ms rfl rfl (dtt cc34)) (by kernel_rfl) (xdj fun h_ ⟨X3_,o3_,H_⟩=>xaq (v:=.int .i64 (lack t d l)) rfl) rfl ?_
     refine xhq (ms rfl rfl (dtt cc34)) (by kernel_rfl) (xtw (first:=[]) (cap:=[]) rfl rfl zoq fun h_ ⟨X3_,o3_,H_⟩=>(zow md _ (z:=lack t d l) (x:=(lack t d l).toNat) (by have z_:=hl_ (by omega);omega) (by have z_:=hl_ (by omega);omega)).mono fun v_ h2_ ⟨e_,k_⟩=>⟨e_,X3_,o3_,H_.call k_⟩) (tm':=zq2 (zq4 (zq8 (zq16 (zq32 (zq32 (zq32 (zq32 (zq32 (zq32 [])))))))))) rfl ?_
     refine xhq (ms rfl rfl (dtt cc34)) (by kernel_rfl) (xdj fun h_ ⟨X3_,o3_,H_⟩=>xkw rfl rfl (wr (by have z_:=hl_ (by omega);have z1_:=xjz (show (lack t d l).toNat-1≤10 by omega);have z2_:=xjz (show (lack t d l).toNat≤10 by omega);have z3_:=xjz (show (lack t d l).toNat+1≤10 by omega);have z4_:=S.bh l;omega))) rfl ?_
     refine xhq (ms rfl rfl (dtt cc34)) (by kernel_rfl) (xdj fun h_ ⟨X3_,o3_,H_⟩=>xaq (v:=.func (.func 113) #[] #[.pointer (some ⟨b1,0,none⟩)]) rfl) (tm':=zq2 (zq4 (zq8 (zq16 (zq32 (zq32 (zq32 (zq32 (zq32 (zq32 [])))))))))) rfl ?_
     refine xhq (ms rfl rfl (dtt cc34)) (by kernel_rfl) (xdj fun h_ ⟨X3_,o3_,H_⟩=>xaq (v:=.int .i64 (((l:Nat):Int))) rfl) rfl ?_
     refine xhq (ms rfl rfl (dtt cc34)) (by kernel_rfl) (xdj fun h_ ⟨X3_,o3_,H_⟩=>xaj H_ tA92 rfl (i:=0) rfl (v:=.pointer (some ⟨bt,0,none⟩)) rfl) (tm':=zq2 (zq4 (zq8 (zq16 (zq32 (zq32 (zq32 (zq32 (zq32 (zq32 [])))))))))) rfl ?_
     refine xhq (ms rfl rfl (dtt cc34)) (by kernel_rfl) (xdj fun h_ ⟨X3_,o3_,H_⟩=>xhk rfl) rfl ?_
     refine xhq (ms rfl rfl (dtt cc34)) (by kernel_rfl) (xdj fun h_ ⟨X3_,o3_,H_⟩=>xaz ypz rfl (a':=⟨bt,3,none⟩) rfl) (tm':=zq2 (zq4 (zq8 (zq16 (zq32 (zq32 (zq32 (zq32 (zq32 (zq32 [])))))))))) rfl ?_
     refine xhq (ms rfl rfl (dtt cc34)) (by kernel_rfl) (xdj fun h_ ⟨X3_,o3_,H_⟩=>xaz zvk rfl (a':=⟨bt,3,none⟩) rfl) rfl ?_
     refine xhq (ms rfl rfl (dtt cc34)) (by kernel_rfl) (xdj fun h_ ⟨X3_,o3_,H_⟩=>xbv H_ tA3 rfl (v:=.int .i64 (wi.house)) (xkx hb rfl)) (tm':=zq2 (zq4 (zq8 (zq16 (zq32 (zq32 (zq32 (zq32 (zq32 (zq32 [])))))))))) rfl ?_
     refine xhq (ms rfl rfl (dtt cc34)) (by kernel_rfl) (xdj fun h_ ⟨X3_,o3_,H_⟩=>xjx rfl rfl) rfl ?_
     refine xhq (ms rfl rfl (dtt cc34)) (by kernel_rfl) (xtw (first:=[]) (cap:=[.pointer (some ⟨b1,0,none⟩)]) rfl rfl ztj fun h_ ⟨X3_,o3_,H_⟩=>((show CallsX Tryd.prog md 113 _ h_ (fun v h'=>v= .int .i64 (bh wi l)∧Keep h_ h') from c113 md _ _ (H_.perO (i:=0) rfl) (((l:Nat):Int)=wi.house) _ _ _ _ _ _ _ _ _ xsj (H_.leO (i:=0) rfl _ _ hb))).mono fun v_ h2_ ⟨e_,k_⟩=>⟨e_,X3_,o3_,H_.call k_⟩) (tm':=zq2 (zq4 (zq8 (zq16 (zq32 (zq32 (zq32 (zq32 (zq32 (zq32 [])))))))))) rfl ?_
     refine xhq (ms rfl rfl (dtt cc34)) (by kernel_rfl) (xdj fun h_ ⟨X3_,o3_,H_⟩=>xfx rfl rfl (wr (by have z_:=hl_ (by omega);have z1_:=xjz (show (lack t d l).toNat-1≤10 by omega);have z2_:=xjz (show (lack t d l).toNat≤10 by omega);have z3_:=xjz (show (lack t d l).toNat+1≤10 by omega);have z4_:=S.bh l;omega))) rfl ?_
     refine xhq (ms rfl rfl (dtt cc34)) (by kernel_rfl) (xdj fun h_ ⟨X3_,o3_,H_⟩=>xjv tZ99 tP99 (vs:=[(0,.int .i64 ((((t.nW+t.nH)+1:Nat):Int))),(1,.int .i64 (((t.nW+l:Nat):Int))),(2,.int .i64 (((dear ((lack t d l).toNat+1))-(dear ((lack t d l).toNat)))+(bh wi l))),(3,.int .i64 (-1)),(4,.int .i64 0)]) rfl (cells:=#[.int .i64 ((((t.nW+t.nH)+1:Nat):Int)),.int .i64 (((t.nW+l:Nat):Int)),.int .i64 (((dear ((lack t d l).toNat+1))-(dear ((lack t d l).toNat)))+(bh wi l)),.int .i64 (-1),.int .i64 0]) rfl) (tm':=zq2 (zq4 (zq8 (zq16 (zq32 (zq32 (zq32 (zq32 (zq32 (zq32 [])))))))))) rfl ?_
     refine zdx rfl (xfv fun X35=>xfz fun o36=>?_)
     refine xzx (ms rfl rfl (dtt cc34)) rfl (vs:=[.agg #[.int .i64 ((((t.nW+t.nH)+1:Nat):Int)),.int .i64 (((t.nW+l:Nat):Int)),.int .i64 (((dear ((lack t d l).toNat+1))-(dear ((lack t d l).toNat)))+(bh wi l)),.int .i64 (-1),.int .i64 0]]) rfl (R:=fun v_ h_=>∃ X_,v_= .bool true∧I (((outH t wi d l)++[(⟨t.nW+l,t.si,dear ((lack t d l).toNat-1)-dear (lack t d l).toNat-bh wi l,-1,0⟩:Go.X.Bf.Arc)])++[(⟨t.si,t.nW+l,dear ((lack t d l).toNat+1)-dear (lack t d l).toNat+bh wi l,-1,0⟩:Go.X.Bf.Arc)]) X_∧St h₀ B₀ p h_ (([(b1,.cells #[.pointer (some ⟨bt,0,none⟩)] 92 (0,0))]:Pcs)++(X_++(X13++(X12++[]))))) (fun h_ H_=>(show CallV Tryd.prog md yv [.agg #[.int .i64 ((((t.nW+t.nH)+1:Nat):Int)),.int .i64 (((t.nW+l:Nat):Int)),.int .i64 (((dear ((lack t d l).toNat+1))-(dear ((lack t d l).toNat)))+(bh wi l)),.int .i64 (-1),.int .i64 0]] h_ (fun v h'=>∃ X',v= .bool true∧I (((outH t wi d l)++[(⟨t.nW+l,t.si,dear ((lack t d l).toNat-1)-dear (lack t d l).toNat-bh wi l,-1,0⟩:Go.X.Bf.Arc)])++[(⟨t.si,t.nW+l,dear ((lack t d l).toNat+1)-dear (lack t d l).toNat+bh wi l,-1,0⟩:Go.X.Bf.Arc)]) X'∧St h₀ B₀ p h' (([(b1,.cells #[.pointer (some ⟨bt,0,none⟩)] 92 (0,0))]:Pcs)++(X'++(X13++(X12++[]))))) from by have e_:(.agg #[.int .i64 ((((t.nW+t.nH)+1:Nat):Int)),.int .i64 (((t.nW+l:Nat):Int)),.int .i64 (((dear ((lack t d l).toNat+1))-(dear ((lack t d l).toNat)))+(bh wi l)),.int .i64 (-1),.int .i64 0]:Value)=arcV ⟨t.si,t.nW+l,dear ((lack t d l).toNat+1)-dear (lack t d l).toNat+bh wi l,-1,0⟩:=ycq (x:=⟨t.si,t.nW+l,dear ((lack t d l).toNat+1)-dear (lack t d l).toNat+bh wi l,-1,0⟩) rfl rfl (show ((dear ((lack t d l).toNat+1))-(dear ((lack t d l).toNat)))+(bh wi l)=dear ((lack t d l).toNat+1)-dear (lack t d l).toNat+bh wi l from by have z_:=hl_ (by omega);omega) rfl rfl;rw [e_];exact (hy _ _ h_ _ _ (pre_H2 (by omega) (by assumption) (by assumption)) o36 H_.yTo).mono fun v_ h2_ ⟨X_,e_,i_,N_⟩=>⟨X_,e_,i_,N_.yBack⟩)) fun v_=>?_
     refine xfv fun X37=>xfz fun ev_=>xfz fun hI38=>?_
     subst ev_
     refine xgx (tm':=zq2 (zq4 (zq8 (zq16 (zq32 (zq32 (zq32 (zq32 (zq32 (zq32 [])))))))))) rfl ?_
     refine xaw (ms rfl rfl (dtt cc34)) (fun h_ H_=>xgz rfl) rfl ?_
     refine xaw (ms rfl rfl (xev rfl)) (fun h_ H_=>xbj rfl (dtt cc34) (v:=.bool (!true)) rfl) rfl ?_
     refine rt (xcq rfl (xev rfl) (v:=.bool (!true)) rfl) (tm':=zq2 (zq4 (zq8 (zq16 (zq32 (zq32 (zq32 (zq32 (zq32 (zq32 [])))))))))) rfl <| xak <| xcv rfl (xev rfl) <| xdq <| xeq <| xbq ?_
     refine ro (xfx rfl rfl (n:=((l+1:Nat):Int)) (wr (by omega))) ?_
     refine ro (xaq (v:=.int .i64 (((l+1:Nat):Int))) rfl) <| xak ?_
     exact fun h_ H_=>IH31 _ _ (by omega) h_ ⟨l+1,X37,rfl,(y_of rfl),(by omega),(by rw [← H_tt (t:=t) (w:=wi) (d:=d) (k:=l) (by assumption) (by assumption)];exact hI38),H_⟩
    ·
     refine ykw (Base1:=fun h_=>∃ X3_,I ((outH t wi d l)++[(⟨t.nW+l,t.si,dear ((lack t d l).toNat-1)-dear (lack t d l).toNat-bh wi l,-1,0⟩:Go.X.Bf.Arc)]) X3_∧St h₀ B₀ p h_ (([(b1,.cells #[.pointer (some ⟨bt,0,none⟩)] 92 (0,0))]:Pcs)++(X3_++(X13++(X12++[]))))) 62 25 [[],[0],[0,1],[0,1,2],[0,1,2],[0,1,2],[0,1,2,4,5],[0,1,2],[0,1,2],[0,1,2,8],[0,1,2,8,9],[0,1,2],[0,1,2,8,9,10,11],[0,1,2,8,9,10,11,12],[0,1,2],[0,1,2],[0,1,2],[0,1,2,16],[0,1,2,16,17],[0,1,2,16,17,18],[0,1,2,16,17,18,19],[0,1,2,15,16,17,18,19,20],[0,1,2,8,9,10,11,12,14,15,16,17,18,19,20,21],[0,1,2,8,9,10,11,12,13,14,15,16,17,18,19,20,21,22],[0,1,2,4,5,6,7,8,9,10,11,12,13,14,15,16,17,18,19,20,21,22,23],[0,1,2,3,4,5,6,7,8,9,10,11,12,13,14,15,16,17,18,19,20,21,22,23,24],[0,1,2,3,4,5,6,7,8,9,10,11,12,13,14,15,16,17,18,19,20,21,22,23,24,25],[0,1,2,3,4,5,6,7,8,9,10,11,12,13,14,15,16,17,18,19,20,21,22,23,24,25,26],[0,1,2,3,4,5,6,7,8,9,10,11,12,13,14,15,16,17,18,19,20,21,22,23,24,25,26,27],[0,1,2,3,4,5,6,7,8,9,10,11,12,13,14,15,16,17,18,19,20,21,22,23,24,25,26,27,28],[0,1,2,3,4,5,6,7,8,9,10,11,12,13,14,15,16,17,18,19,20,21,22,23,24,25,26,27,28],[0,1,2,3,4,5,6,7,8,9,10,11,12,13,14,15,16,17,18,19,20,21,22,23,24,25,26,27,28,30],[0,1,2,3,4,5,6,7,8,9,10,11,12,13,14,15,16,17,18,19,20,21,22,23,24,25,26,27,28,30,31],[0,1,2,3,4,5,6,7,8,9,10,11,12,13,14,15,16,17,18,19,20,21,22,23,24,25,26,27,28,30,31,32],[0,1,2,3,4,5,6,7,8,9,10,11,12,13,14,15,16,17,18,19,20,21,22,23,24,25,26,27,28,30,31,32,33],[0,1,2,3,4,5,6,7,8,9,10,11,12,13,14,15,16,17,18,19,20,21,22,23,24,25,26,27,28],[0,1,2,3,4,5,6,7,8,9,10,11,12,13,14,15,16,17,18,19,20,21,22,23,24,25,26,27,28,30,31,32,33,34,35],[0,1,2,3,4,5,6,7,8,9,10,11,12,13,14,15,16,17,18,19,20,21,22,23,24,25,26,27,28,30,31,32,33,34,35,36],[0,1,2,3,4,5,6,7,8,9,10,11,12,13,14,15,16,17,18,19,20,21,22,23,24,25,26,27,28,29,30,31,32,33,34,35,36,37],[0,1,2,3,4,5,6,7,8,9,10,11,12,13,14,15,16,17,18,19,20,21,22,23,24,25,26,27,28,29,30,31,32,33,34,35,36,37,38],[0,1,2,3,4,5,6,7,8,9,10,11,12,13,14,15,16,17,18,19,20,21,22,23,24,25,26,27,28,29,30,31,32,33,34,35,36,37,38,39],[0,1,2,3,4,5,6,7,8,9,10,11,12,13,14,15,16,17,18,19,20,21,22,23,24,25,26,27,28,29,30,31,32,33,34,35,36,37,38,39],[0,1,2,3,4,5,6,7,8,9,10,11,12,13,14,15,16,17,18,19,20,21,22,23,24,25,26,27,28,29,30,31,32,33,34,35,36,37,38,39],[0,1,2,3,4,5,6,7,8,9,10,11,12,13,14,15,16,17,18,19,20,21,22,23,24,25,26,27,28,29,30,31,32,33,34,35,36,37,38,39],[0,1,2,3,4,5,6,7,8,9,10,11,12,13,14,15,16,17,18,19,20,21,22,23,24,25,26,27,28,29,30,31,32,33,34,35,36,37,38,39,42,43],[0,1,2,3,4,5,6,7,8,9,10,11,12,13,14,15,16,17,18,19,20,21,22,23,24,25,26,27,28,29,30,31,32,33,34,35,36,37,38,39],[0,1,2,3,4,5,6,7,8,9,10,11,12,13,14,15,16,17,18,19,20,21,22,23,24,25,26,27,28,29,30,31,32,33,34,35,36,37,38,39,45],[0,1,2,3,4,5,6,7,8,9,10,11,12,13,14,15,16,17,18,19,20,21,22,23,24,25,26,27,28,29,30,31,32,33,34,35,36,37,38,39,45,46],[0,1,2,3,4,5,6,7,8,9,10,11,12,13,14,15,16,17,18,19,20,21,22,23,24,25,26,27,28,29,30,31,32,33,34,35,36,37,38,39],[0,1,2,3,4,5,6,7,8,9,10,11,12,13,14,15,16,17,18,19,20,21,22,23,24,25,26,27,28,29,30,31,32,33,34,35,36,37,38,39,45,46,47,48],[0,1,2,3,4,5,6,7,8,9,10,11,12,13,14,15,16,17,18,19,20,21,22,23,24,25,26,27,28,29,30,31,32,33,34,35,36,37,38,39,45,46,47,48,49],[0,1,2,3,4,5,6,7,8,9,10,11,12,13,14,15,16,17,18,19,20,21,22,23,24,25,26,27,28,29,30,31,32,33,34,35,36,37,38,39],[0,1,2,3,4,5,6,7,8,9,10,11,12,13,14,15,16,17,18,19,20,21,22,23,24,25,26,27,28,29,30,31,32,33,34,35,36,37,38,39],[0,1,2,3,4,5,6,7,8,9,10,11,12,13,14,15,16,17,18,19,20,21,22,23,24,25,26,27,28,29,30,31,32,33,34,35,36,37,38,39],[0,1,2,3,4,5,6,7,8,9,10,11,12,13,14,15,16,17,18,19,20,21,22,23,24,25,26,27,28,29,30,31,32,33,34,35,36,37,38,39,53],[0,1,2,3,4,5,6,7,8,9,10,11,12,13,14,15,16,17,18,19,20,21,22,23,24,25,26,27,28,29,30,31,32,33,34,35,36,37,38,39,53,54],[0,1,2,3,4,5,6,7,8,9,10,11,12,13,14,15,16,17,18,19,20,21,22,23,24,25,26,27,28,29,30,31,32,33,34,35,36,37,38,39,53,54,55],[0,1,2,3,4,5,6,7,8,9,10,11,12,13,14,15,16,17,18,19,20,21,22,23,24,25,26,27,28,29,30,31,32,33,34,35,36,37,38,39,53,54,55,56],[0,1,2,3,4,5,6,7,8,9,10,11,12,13,14,15,16,17,18,19,20,21,22,23,24,25,26,27,28,29,30,31,32,33,34,35,36,37,38,39,52,53,54,55,56,57],[0,1,2,3,4,5,6,7,8,9,10,11,12,13,14,15,16,17,18,19,20,21,22,23,24,25,26,27,28,29,30,31,32,33,34,35,36,37,38,39,45,46,47,48,49,51,52,53,54,55,56,57,58],[0,1,2,3,4,5,6,7,8,9,10,11,12,13,14,15,16,17,18,19,20,21,22,23,24,25,26,27,28,29,30,31,32,33,34,35,36,37,38,39,45,46,47,48,49,50,51,52,53,54,55,56,57,58,59],[0,1,2,3,4,5,6,7,8,9,10,11,12,13,14,15,16,17,18,19,20,21,22,23,24,25,26,27,28,29,30,31,32,33,34,35,36,37,38,39,41,42,43,44,45,46,47,48,49,50,51,52,53,54,55,56,57,58,59,60],[0,1,2,3,4,5,6,7,8,9,10,11,12,13,14,15,16,17,18,19,20,21,22,23,24,25,26,27,28,29,30,31,32,33,34,35,36,37,38,39,40,41,42,43,44,45,46,47,48,49,50,51,52,53,54,55,56,57,58,59,60,61],[0,1,2,3,4,5,6,7,8,9,10,11,12,13,14,15,16,17,18,19,20,21,22,23,24,25,26,27,28,29,30,31,32,33,34,35,36,37,38,39,40,41,42,43,44,45,46,47,48,49,50,51,52,53,54,55,56,57,58,59,60,61,62],[0,1,2,3,4,5,6,7,8,9,10,11,12,13,14,15,16,17,18,19,20,21,22,23,24,25,26,27,28,29,30,31,32,33,34,35,36,37,38,39,40,41,42,43,44,45,46,47,48,49,50,51,52,53,54,55,56,57,58,59,60,61,62,63],[0,1,2,3,4,5,6,7,8,9,10,11,12,13,14,15,16,17,18,19,20,21,22,23,24,25,26,27,28,29,30,31,32,33,34,35,36,37,38,39,40,41,42,43,44,45,46,47,48,49,50,51,52,53,54,55,56,57,58,59,60,61,62,63,64]] xlq (by kernel_rfl) (Nat.le_of_ble_eq_true rfl) (Nat.le_of_ble_eq_true rfl) ?_
     refine xgq mn (by kernel_rfl) (xdj fun h_ H_=>xaq (v:=.int .i64 (lack t d l)) rfl) (tm':=zq2 (zq4 (zq8 (zq32 (zq32 (zq32 _)))))) rfl ?_
     refine xgq mn (by kernel_rfl) (xdj fun h_ H_=>xix rfl rfl) rfl ?_
     refine xgq mn (by kernel_rfl) (xdj fun h_ H_=>xaq (v:=.bool (decide (0<lack t d l))) rfl) (tm':=zq16 (zq32 (zq32 (zq32 _)))) rfl ?_
     refine xgq (ms rfl rfl (dtt cc33)) (by kernel_rfl) (xdj fun h_ H_=>xaq (v:=yv) rfl) rfl ?_
     refine xgq (ms rfl rfl (dtt cc33)) (by kernel_rfl) (xdj fun h_ H_=>xaq (v:=.int .i64 (((t.nW:Nat):Int))) rfl) (tm':=zq2 (zq16 (zq32 (zq32 (zq32 _))))) rfl ?_
     refine xgq (ms rfl rfl (dtt cc33)) (by kernel_rfl) (xdj fun h_ H_=>xaq (v:=.int .i64 (((l:Nat):Int))) rfl) rfl ?_
     refine xgq (ms rfl rfl (dtt cc33)) (by kernel_rfl) (xdj fun h_ H_=>xfx rfl rfl (n:=((t.nW+l:Nat):Int)) (wr (by have z_:=hl_ (by omega);have z1_:=xjz (show (lack t d l).toNat-1≤10 by omega);have z2_:=xjz (show (lack t d l).toNat≤10 by omega);have z3_:=xjz (show (lack t d l).toNat+1≤10 by omega);have z4_:=S.bh l;omega))) (tm':=zq4 (zq16 (zq32 (zq32 (zq32 _))))) rfl ?_
     refine xgq (ms rfl rfl (dtt cc33)) (by kernel_rfl) (xdj fun h_ H_=>xaq (v:=.int .i64 ((((t.nW+t.nH)+1:Nat):Int))) rfl) rfl ?_
     refine xgq (ms rfl rfl (dtt cc33)) (by kernel_rfl) (xdj fun h_ H_=>xaq (v:=.int .i64 (lack t d l)) rfl) (tm':=zq2 (zq4 (zq16 (zq32 (zq32 (zq32 _)))))) rfl ?_
     refine xgq (ms rfl rfl (dtt cc33)) (by kernel_rfl) (xdj fun h_ H_=>xkw rfl rfl (wr (by have z_:=hl_ (by omega);have z1_:=xjz (show (lack t d l).toNat-1≤10 by omega);have z2_:=xjz (show (lack t d l).toNat≤10 by omega);have z3_:=xjz (show (lack t d l).toNat+1≤10 by omega);have z4_:=S.bh l;omega))) rfl ?_
     refine xgq (ms rfl rfl (dtt cc33)) (by kernel_rfl) (xtw (first:=[]) (cap:=[]) rfl rfl zoq fun h_ H_=>(zow md _ (z:=(lack t d l)-1) (x:=(lack t d l).toNat-1) (by have z_:=hl_ (by omega);omega) (by have z_:=hl_ (by omega);omega)).mono fun v_ h2_ ⟨e_,k_⟩=>⟨e_,H_.call k_⟩) (tm':=zq8 (zq16 (zq32 (zq32 (zq32 _))))) rfl ?_
     refine xgq (ms rfl rfl (dtt cc33)) (by kernel_rfl) (xdj fun h_ H_=>xaq (v:=.int .i64 (lack t d l)) rfl) rfl ?_
     refine xgq (ms rfl rfl (dtt cc33)) (by kernel_rfl) (xtw (first:=[]) (cap:=[]) rfl rfl zoq fun h_ H_=>(zow md _ (z:=lack t d l) (x:=(lack t d l).toNat) (by have z_:=hl_ (by omega);omega) (by have z_:=hl_ (by omega);omega)).mono fun v_ h2_ ⟨e_,k_⟩=>⟨e_,H_.call k_⟩) (tm':=zq2 (zq8 (zq16 (zq32 (zq32 (zq32 _)))))) rfl ?_
     refine xgq (ms rfl rfl (dtt cc33)) (by kernel_rfl) (xdj fun h_ H_=>xkw rfl rfl (wr (by have z_:=hl_ (by omega);have z1_:=xjz (show (lack t d l).toNat-1≤10 by omega);have z2_:=xjz (show (lack t d l).toNat≤10 by omega);have z3_:=xjz (show (lack t d l).toNat+1≤10 by omega);have z4_:=S.bh l;omega))) rfl ?_
     refine xgq (ms rfl rfl (dtt cc33)) (by kernel_rfl) (xdj fun h_ H_=>xaq (v:=.func (.func 113) #[] #[.pointer (some ⟨b1,0,none⟩)]) rfl) (tm':=zq4 (zq8 (zq16 (zq32 (zq32 (zq32 _)))))) rfl ?_
     refine xgq (ms rfl rfl (dtt cc33)) (by kernel_rfl) (xdj fun h_ H_=>xaq (v:=.int .i64 (((l:Nat):Int))) rfl) rfl ?_
     refine xgq (ms rfl rfl (dtt cc33)) (by kernel_rfl) (xdj fun h_ H_=>xaj H_ tA92 rfl (i:=0) rfl (v:=.pointer (some ⟨bt,0,none⟩)) rfl) (tm':=zq2 (zq4 (zq8 (zq16 (zq32 (zq32 (zq32 _))))))) rfl ?_
     refine xgq (ms rfl rfl (dtt cc33)) (by kernel_rfl) (xdj fun h_ H_=>xhk rfl) rfl ?_
     refine xgq (ms rfl rfl (dtt cc33)) (by kernel_rfl) (xdj fun h_ H_=>xaz ypz rfl (a':=⟨bt,3,none⟩) rfl) (tm':=zq32 (zq32 (zq32 (zq32 _)))) rfl ?_
     refine xgq (ms rfl rfl (dtt cc33)) (by kernel_rfl) (xdj fun h_ H_=>xaz zvk rfl (a':=⟨bt,3,none⟩) rfl) rfl ?_
     refine xgq (ms rfl rfl (dtt cc33)) (by kernel_rfl) (xdj fun h_ H_=>xbv H_ tA3 rfl (v:=.int .i64 (wi.house)) (xkx hb rfl)) (tm':=zq2 (zq32 (zq32 (zq32 (zq32 _))))) rfl ?_
     refine xgq (ms rfl rfl (dtt cc33)) (by kernel_rfl) (xdj fun h_ H_=>xjx rfl rfl) rfl ?_
     refine xgq (ms rfl rfl (dtt cc33)) (by kernel_rfl) (xtw (first:=[]) (cap:=[.pointer (some ⟨b1,0,none⟩)]) rfl rfl ztj fun h_ H_=>((show CallsX Tryd.prog md 113 _ h_ (fun v h'=>v= .int .i64 (bh wi l)∧Keep h_ h') from c113 md _ _ (H_.perO (i:=0) rfl) (((l:Nat):Int)=wi.house) _ _ _ _ _ _ _ _ _ xsj (H_.leO (i:=0) rfl _ _ hb))).mono fun v_ h2_ ⟨e_,k_⟩=>⟨e_,H_.call k_⟩) (tm':=zq4 (zq32 (zq32 (zq32 (zq32 _))))) rfl ?_
     refine xgq (ms rfl rfl (dtt cc33)) (by kernel_rfl) (xdj fun h_ H_=>xkw rfl rfl (wr (by have z_:=hl_ (by omega);have z1_:=xjz (show (lack t d l).toNat-1≤10 by omega);have z2_:=xjz (show (lack t d l).toNat≤10 by omega);have z3_:=xjz (show (lack t d l).toNat+1≤10 by omega);have z4_:=S.bh l;omega))) rfl ?_
     refine xgq (ms rfl rfl (dtt cc33)) (by kernel_rfl) (xdj fun h_ H_=>xjv tZ99 tP99 (vs:=[(0,.int .i64 (((t.nW+l:Nat):Int))),(1,.int .i64 ((((t.nW+t.nH)+1:Nat):Int))),(2,.int .i64 (((dear ((lack t d l).toNat-1))-(dear ((lack t d l).toNat)))-(bh wi l))),(3,.int .i64 (-1)),(4,.int .i64 0)]) rfl (cells:=#[.int .i64 (((t.nW+l:Nat):Int)),.int .i64 ((((t.nW+t.nH)+1:Nat):Int)),.int .i64 (((dear ((lack t d l).toNat-1))-(dear ((lack t d l).toNat)))-(bh wi l)),.int .i64 (-1),.int .i64 0]) rfl) (tm':=zq2 (zq4 (zq32 (zq32 (zq32 (zq32 _)))))) rfl ?_
     refine zjk rfl (ms rfl rfl (dtt cc33)) rfl (vs:=[.agg #[.int .i64 (((t.nW+l:Nat):Int)),.int .i64 ((((t.nW+t.nH)+1:Nat):Int)),.int .i64 (((dear ((lack t d l).toNat-1))-(dear ((lack t d l).toNat)))-(bh wi l)),.int .i64 (-1),.int .i64 0]]) rfl (fun h_ H_=>((show CallV Tryd.prog md yv [.agg #[.int .i64 (((t.nW+l:Nat):Int)),.int .i64 ((((t.nW+t.nH)+1:Nat):Int)),.int .i64 (((dear ((lack t d l).toNat-1))-(dear ((lack t d l).toNat)))-(bh wi l)),.int .i64 (-1),.int .i64 0]] h_ (fun v h'=>∃ X',v= .bool true∧I ((outH t wi d l)++[(⟨t.nW+l,t.si,dear ((lack t d l).toNat-1)-dear (lack t d l).toNat-bh wi l,-1,0⟩:Go.X.Bf.Arc)]) X'∧St h₀ B₀ p h' (([(b1,.cells #[.pointer (some ⟨bt,0,none⟩)] 92 (0,0))]:Pcs)++(X'++(X13++(X12++[]))))) from by have e_:(.agg #[.int .i64 (((t.nW+l:Nat):Int)),.int .i64 ((((t.nW+t.nH)+1:Nat):Int)),.int .i64 (((dear ((lack t d l).toNat-1))-(dear ((lack t d l).toNat)))-(bh wi l)),.int .i64 (-1),.int .i64 0]:Value)=arcV ⟨t.nW+l,t.si,dear ((lack t d l).toNat-1)-dear (lack t d l).toNat-bh wi l,-1,0⟩:=ycq (x:=⟨t.nW+l,t.si,dear ((lack t d l).toNat-1)-dear (lack t d l).toNat-bh wi l,-1,0⟩) rfl rfl (show ((dear ((lack t d l).toNat-1))-(dear ((lack t d l).toNat)))-(bh wi l)=dear ((lack t d l).toNat-1)-dear (lack t d l).toNat-bh wi l from by have z_:=hl_ (by omega);omega) rfl rfl;rw [e_];exact (hy _ _ h_ _ _ (vdz (by omega) (by assumption)) hI H_.yTo).mono fun v_ h2_ ⟨X_,e_,i_,N_⟩=>⟨X_,e_,i_,N_.yBack⟩)).mono fun v_ h2_ ⟨X_,e_,i_,N_⟩=>⟨e_,X_,i_,N_⟩) rfl ?_
     refine xhq (ms rfl rfl (dtt cc33)) (by kernel_rfl) (xdj fun h_ ⟨X3_,o3_,H_⟩=>xgz rfl) (tm':=zq8 (zq32 (zq32 (zq32 (zq32 _))))) rfl ?_
     refine xhq mn (by kernel_rfl) (xdj fun h_ ⟨X3_,o3_,H_⟩=>xbj rfl (dtt cc33) (v:=.bool (!true)) rfl) rfl ?_
     refine xhq mn (by kernel_rfl) (xdj fun h_ ⟨X3_,o3_,H_⟩=>xaq (v:=.bool (!true)) rfl) (tm':=zq2 (zq8 (zq32 (zq32 (zq32 (zq32 _)))))) rfl ?_
     refine xhq (ms rfl rfl (xev rfl)) (by kernel_rfl) (xdj fun h_ ⟨X3_,o3_,H_⟩=>xaq (v:=.int .i64 (lack t d l)) rfl) rfl ?_
     refine xhq (ms rfl rfl (xev rfl)) (by kernel_rfl) (xdj fun h_ ⟨X3_,o3_,H_⟩=>xaj H_ tA92 rfl (i:=0) rfl (v:=.pointer (some ⟨bt,0,none⟩)) rfl) (tm':=zq4 (zq8 (zq32 (zq32 (zq32 (zq32 _)))))) rfl ?_
     refine xhq (ms rfl rfl (xev rfl)) (by kernel_rfl) (xdj fun h_ ⟨X3_,o3_,H_⟩=>xhk rfl) rfl ?_
     refine xhq (ms rfl rfl (xev rfl)) (by kernel_rfl) (xdj fun h_ ⟨X3_,o3_,H_⟩=>xaz ycz rfl (a':=⟨bt,0,none⟩) rfl) (tm':=zq2 (zq4 (zq8 (zq32 (zq32 (zq32 (zq32 _))))))) rfl ?_
     refine xhq (ms rfl rfl (xev rfl)) (by kernel_rfl) (xdj fun h_ ⟨X3_,o3_,H_⟩=>xaz xmz rfl (a':=⟨bt,0,none⟩) rfl) rfl ?_
     refine xhq (ms rfl rfl (xev rfl)) (by kernel_rfl) (xdj fun h_ ⟨X3_,o3_,H_⟩=>xbv H_ tA22 rfl (v:=.slice a1 t.nH c1) (xkx hb rfl)) (tm':=zq16 (zq32 (zq32 (zq32 (zq32 _))))) rfl ?_
     refine xhq (ms rfl rfl (xev rfl)) (by kernel_rfl) (xdj fun h_ ⟨X3_,o3_,H_⟩=>xaq (v:=.int .i64 (((l:Nat):Int))) rfl) rfl ?_
     refine xhq (ms rfl rfl (xev rfl)) (by kernel_rfl) (xdj fun h_ ⟨X3_,o3_,H_⟩=>xcz (i:=l) Tryd.underlying22 tS3 (xkq a1 t.nH c1 (T.h.ne (by omega))) rfl (by omega)) (tm':=zq2 (zq16 (zq32 (zq32 (zq32 (zq32 _)))))) rfl ?_
     refine xhq (ms rfl rfl (xev rfl)) (by kernel_rfl) (xdj fun h_ ⟨X3_,o3_,H_⟩=>xbv H_ tA3 rfl (v:=.int .i64 (t.hv l)) (T.h.get (by omega))) rfl ?_
     refine xhq (ms rfl rfl (xev rfl)) (by kernel_rfl) (xdj fun h_ ⟨X3_,o3_,H_⟩=>xgw rfl rfl) (tm':=zq4 (zq16 (zq32 (zq32 (zq32 (zq32 _)))))) rfl ?_
     refine xhq (ms rfl rfl (xev rfl)) (by kernel_rfl) (xdj fun h_ ⟨X3_,o3_,H_⟩=>xaq (v:=.bool (decide (lack t d l<t.hv l))) rfl) rfl ?_
     refine xnz (mo rfl rfl (dff cc34)) (tm':=zq2 (zq4 (zq8 (zq16 (zq32 (zq32 (zq32 (zq32 (zq32 (zq32 [])))))))))) rfl ?_
     refine xnz (mo rfl rfl (dff cc34)) rfl ?_
     refine xnz (mo rfl rfl (dff cc34)) (tm':=zq2 (zq4 (zq8 (zq16 (zq32 (zq32 (zq32 (zq32 (zq32 (zq32 [])))))))))) rfl ?_
     refine xnz (mo rfl rfl (dff cc34)) rfl ?_
     refine xnz (mo rfl rfl (dff cc34)) (tm':=zq2 (zq4 (zq8 (zq16 (zq32 (zq32 (zq32 (zq32 (zq32 (zq32 [])))))))))) rfl ?_
     refine xnz (mo rfl rfl (dff cc34)) rfl ?_
     refine xnz (mo rfl rfl (dff cc34)) (tm':=zq2 (zq4 (zq8 (zq16 (zq32 (zq32 (zq32 (zq32 (zq32 (zq32 [])))))))))) rfl ?_
     refine xnz (mo rfl rfl (dff cc34)) rfl ?_
     refine xnz (mo rfl rfl (dff cc34)) (tm':=zq2 (zq4 (zq8 (zq16 (zq32 (zq32 (zq32 (zq32 (zq32 (zq32 [])))))))))) rfl ?_
     refine xnz (mo rfl rfl (dff cc34)) rfl ?_
     refine xnz (mo rfl rfl (dff cc34)) (tm':=zq2 (zq4 (zq8 (zq16 (zq32 (zq32 (zq32 (zq32 (zq32 (zq32 [])))))))))) rfl ?_
     refine xnz (mo rfl rfl (dff cc34)) rfl ?_
     refine xnz (mo rfl rfl (dff cc34)) (tm':=zq2 (zq4 (zq8 (zq16 (zq32 (zq32 (zq32 (zq32 (zq32 (zq32 [])))))))))) rfl ?_
     refine xnz (mo rfl rfl (dff cc34)) rfl ?_
     refine xnz (mo rfl rfl (dff cc34)) (tm':=zq2 (zq4 (zq8 (zq16 (zq32 (zq32 (zq32 (zq32 (zq32 (zq32 [])))))))))) rfl ?_
     refine xnz (mo rfl rfl (dff cc34)) rfl ?_
     refine xnz (mo rfl rfl (dff cc34)) (tm':=zq2 (zq4 (zq8 (zq16 (zq32 (zq32 (zq32 (zq32 (zq32 (zq32 [])))))))))) rfl ?_
     refine xnz (mo rfl rfl (dff cc34)) rfl ?_
     refine xnz (mo rfl rfl (dff cc34)) (tm':=zq2 (zq4 (zq8 (zq16 (zq32 (zq32 (zq32 (zq32 (zq32 (zq32 [])))))))))) rfl ?_
     refine xnz (mo rfl rfl (dff cc34)) rfl ?_
     refine xnz (mo rfl rfl (dff cc34)) (tm':=zq2 (zq4 (zq8 (zq16 (zq32 (zq32 (zq32 (zq32 (zq32 (zq32 [])))))))))) rfl ?_
     refine xnz (mo rfl rfl (dff cc34)) rfl ?_
     refine zdx rfl (xfv fun X39=>xfz fun o40=>?_)
     refine xfq (mo rfl rfl (dff cc34)) (tm':=zq2 (zq4 (zq8 (zq16 (zq32 (zq32 (zq32 (zq32 (zq32 (zq32 [])))))))))) rfl <| rp (mo rfl rfl (dff cc34)) ?_
     refine xaw (ms rfl rfl (xev rfl)) (fun h_ H_=>xcq rfl (dff cc34) (v:=.bool (false)) rfl) rfl ?_
     refine rt (xcq rfl (xev rfl) (v:=.bool (false)) rfl) (tm':=zq2 (zq4 (zq8 (zq16 (zq32 (zq32 (zq32 (zq32 (zq32 (zq32 [])))))))))) rfl <| xak <| xcv rfl rfl <| xdq <| xeq <| xbq ?_
     refine ro (xfx rfl rfl (n:=((l+1:Nat):Int)) (wr (by omega))) ?_
     refine ro (xaq (v:=.int .i64 (((l+1:Nat):Int))) rfl) <| xak ?_
     exact fun h_ H_=>IH31 _ _ (by omega) h_ ⟨l+1,X39,rfl,(y_of rfl),(by omega),(by rw [← H_tf (t:=t) (w:=wi) (d:=d) (k:=l) (by assumption) (by assumption)];exact o40),H_⟩
   ·
    by_cases cc41:lack t d l<t.hv l
    ·
     refine xfw 62 [[],[0],[0,1],[],[],[],[4,5],[],[],[8],[8,9],[],[8,9,10,11],[],[],[],[0,1],[0,1,16],[0,1,16,17],[0,1,16,17,18],[0,1,16,17,18,19],[0,1,15,16,17,18,19,20],[0,1,8,9,10,11,12,14,15,16,17,18,19,20,21],[0,1,8,9,10,11,12,13,14,15,16,17,18,19,20,21],[0,1,4,5,6,7,8,9,10,11,12,13,14,15,16,17,18,19,20,21,23],[0,1,3,4,5,6,7,8,9,10,11,12,13,14,15,16,17,18,19,20,21,22,23,24],[0,1,3,4,5,6,7,8,9,10,11,12,13,14,15,16,17,18,19,20,21,22,23,24],[0,1,2,3,4,5,6,7,8,9,10,11,12,13,14,15,16,17,18,19,20,21,22,23,24,26],[0,1,2,3,4,5,6,7,8,9,10,11,12,13,14,15,16,17,18,19,20,21,22,23,24,25,26,27],[],[],[30],[30,31],[30,31,32],[30,31,32,33],[0,1,2,3,4,5,6,7,8,9,10,11,12,13,14,15,16,17,18,19,20,21,22,23,24,25,26,27],[0,1,2,3,4,5,6,7,8,9,10,11,12,13,14,15,16,17,18,19,20,21,22,23,24,25,26,27,30,31,32,33,34,35],[0,1,2,3,4,5,6,7,8,9,10,11,12,13,14,15,16,17,18,19,20,21,22,23,24,25,26,27,30,31,32,33,34,35,36],[0,1,2,3,4,5,6,7,8,9,10,11,12,13,14,15,16,17,18,19,20,21,22,23,24,25,26,27,29,30,31,32,33,34,35,36,37],[0,1,2,3,4,5,6,7,8,9,10,11,12,13,14,15,16,17,18,19,20,21,22,23,24,25,26,27,28,29,30,31,32,33,34,35,36,37,38],[],[],[],[],[42,43],[],[45],[45,46],[],[45,46,47,48],[],[],[],[0,1,2,3,4,5,6,7,8,9,10,11,12,13,14,15,16,17,18,19,20,21,22,23,24,25,26,27,28,29,30,31,32,33,34,35,36,37,38],[0,1,2,3,4,5,6,7,8,9,10,11,12,13,14,15,16,17,18,19,20,21,22,23,24,25,26,27,28,29,30,31,32,33,34,35,36,37,38,53],[0,1,2,3,4,5,6,7,8,9,10,11,12,13,14,15,16,17,18,19,20,21,22,23,24,25,26,27,28,29,30,31,32,33,34,35,36,37,38,53,54],[0,1,2,3,4,5,6,7,8,9,10,11,12,13,14,15,16,17,18,19,20,21,22,23,24,25,26,27,28,29,30,31,32,33,34,35,36,37,38,53,54,55],[0,1,2,3,4,5,6,7,8,9,10,11,12,13,14,15,16,17,18,19,20,21,22,23,24,25,26,27,28,29,30,31,32,33,34,35,36,37,38,53,54,55,56],[0,1,2,3,4,5,6,7,8,9,10,11,12,13,14,15,16,17,18,19,20,21,22,23,24,25,26,27,28,29,30,31,32,33,34,35,36,37,38,52,53,54,55,56,57],[0,1,2,3,4,5,6,7,8,9,10,11,12,13,14,15,16,17,18,19,20,21,22,23,24,25,26,27,28,29,30,31,32,33,34,35,36,37,38,45,46,47,48,49,51,52,53,54,55,56,57,58],[0,1,2,3,4,5,6,7,8,9,10,11,12,13,14,15,16,17,18,19,20,21,22,23,24,25,26,27,28,29,30,31,32,33,34,35,36,37,38,45,46,47,48,49,50,51,52,53,54,55,56,57,58],[0,1,2,3,4,5,6,7,8,9,10,11,12,13,14,15,16,17,18,19,20,21,22,23,24,25,26,27,28,29,30,31,32,33,34,35,36,37,38,41,42,43,44,45,46,47,48,49,50,51,52,53,54,55,56,57,58,60],[0,1,2,3,4,5,6,7,8,9,10,11,12,13,14,15,16,17,18,19,20,21,22,23,24,25,26,27,28,29,30,31,32,33,34,35,36,37,38,40,41,42,43,44,45,46,47,48,49,50,51,52,53,54,55,56,57,58,59,60,61],[0,1,2,3,4,5,6,7,8,9,10,11,12,13,14,15,16,17,18,19,20,21,22,23,24,25,26,27,29,30,31,32,33,34,35,36,37,38,40,41,42,43,44,45,46,47,48,49,50,51,52,53,54,55,56,57,58,59,60,61,62],[0,1,2,3,4,5,6,7,8,9,10,11,12,13,14,15,16,17,18,19,20,21,22,23,24,25,26,27,29,30,31,32,33,34,35,36,37,38,39,40,41,42,43,44,45,46,47,48,49,50,51,52,53,54,55,56,57,58,59,60,61,62,63],[]] xlq (by kernel_rfl) (Nat.le_of_ble_eq_true rfl) ?_
     refine wt (xaq (v:=.int .i64 (lack t d l)) rfl) (tm':=zq2 (zq4 (zq8 (zq32 (zq32 (zq32 _)))))) rfl <| wo (xix rfl rfl) <| wt (xaq (v:=.bool (decide (0<lack t d l))) rfl) (tm':=zq16 (zq32 (zq32 (zq32 _)))) rfl <| wp (mo rfl rfl (dff cc33)) <| xdv (mo rfl rfl (dff cc33)) (tm':=zq2 (zq16 (zq32 (zq32 (zq32 _))))) rfl <| wp (mo rfl rfl (dff cc33)) ?_
     refine xdv (mo rfl rfl (dff cc33)) (tm':=zq4 (zq16 (zq32 (zq32 (zq32 _))))) rfl <| wp (mo rfl rfl (dff cc33)) <| xdv (mo rfl rfl (dff cc33)) (tm':=zq2 (zq4 (zq16 (zq32 (zq32 (zq32 _)))))) rfl <| wp (mo rfl rfl (dff cc33)) <| xdv (mo rfl rfl (dff cc33)) (tm':=zq8 (zq16 (zq32 (zq32 (zq32 _))))) rfl <| wp (mo rfl rfl (dff cc33)) ?_
     refine xdv (mo rfl rfl (dff cc33)) (tm':=zq2 (zq8 (zq16 (zq32 (zq32 (zq32 _)))))) rfl <| wp (mo rfl rfl (dff cc33)) <| xdv (mo rfl rfl (dff cc33)) (tm':=zq4 (zq8 (zq16 (zq32 (zq32 (zq32 _)))))) rfl <| wp (mo rfl rfl (dff cc33)) <| xdv (mo rfl rfl (dff cc33)) (tm':=zq2 (zq4 (zq8 (zq16 (zq32 (zq32 (zq32 _))))))) rfl <| wp (mo rfl rfl (dff cc33)) ?_
     refine xdv (mo rfl rfl (dff cc33)) (tm':=zq32 (zq32 (zq32 (zq32 _)))) rfl <| wp (mo rfl rfl (dff cc33)) <| xdv (mo rfl rfl (dff cc33)) (tm':=zq2 (zq32 (zq32 (zq32 (zq32 _))))) rfl <| wp (mo rfl rfl (dff cc33)) <| xdv (mo rfl rfl (dff cc33)) (tm':=zq4 (zq32 (zq32 (zq32 (zq32 _))))) rfl <| wp (mo rfl rfl (dff cc33)) ?_
     refine xdv (mo rfl rfl (dff cc33)) (tm':=zq2 (zq4 (zq32 (zq32 (zq32 (zq32 _)))))) rfl <| wp (mo rfl rfl (dff cc33)) <| xdv (mo rfl rfl (dff cc33)) (tm':=zq8 (zq32 (zq32 (zq32 (zq32 _))))) rfl <| wo (xcq rfl (dff cc33) (v:=.bool (false)) rfl) <| wt (xaq (v:=.bool (false)) rfl) (tm':=zq2 (zq8 (zq32 (zq32 (zq32 (zq32 _)))))) rfl ?_
     refine xbz (ms rfl rfl rfl) (fun h_ H_=>xaq (v:=.int .i64 (lack t d l)) rfl) rfl ?_
     refine xbz (ms rfl rfl rfl) (fun h_ H_=>xaj H_ tA92 rfl (i:=0) rfl (v:=.pointer (some ⟨bt,0,none⟩)) rfl) (tm':=zq4 (zq8 (zq32 (zq32 (zq32 (zq32 _)))))) rfl ?_
     refine xbz (ms rfl rfl rfl) (fun h_ H_=>xhk rfl) rfl ?_
     refine xbz (ms rfl rfl rfl) (fun h_ H_=>xaz ycz rfl (a':=⟨bt,0,none⟩) rfl) (tm':=zq2 (zq4 (zq8 (zq32 (zq32 (zq32 (zq32 _))))))) rfl ?_
     refine xbz (ms rfl rfl rfl) (fun h_ H_=>xaz xmz rfl (a':=⟨bt,0,none⟩) rfl) rfl ?_
     refine xbz (ms rfl rfl rfl) (fun h_ H_=>xbv H_ tA22 rfl (v:=.slice a1 t.nH c1) (xkx hb rfl)) (tm':=zq16 (zq32 (zq32 (zq32 (zq32 _))))) rfl ?_
     refine xbz (ms rfl rfl rfl) (fun h_ H_=>xaq (v:=.int .i64 (((l:Nat):Int))) rfl) rfl ?_
     refine xbz (ms rfl rfl rfl) (fun h_ H_=>xcz (i:=l) Tryd.underlying22 tS3 (xkq a1 t.nH c1 (T.h.ne (by omega))) rfl (by omega)) (tm':=zq2 (zq16 (zq32 (zq32 (zq32 (zq32 _)))))) rfl ?_
     refine xbz (ms rfl rfl rfl) (fun h_ H_=>xbv H_ tA3 rfl (v:=.int .i64 (t.hv l)) (T.h.get (by omega))) rfl ?_
     refine xbz (ms rfl rfl rfl) (fun h_ H_=>xgw rfl rfl) (tm':=zq4 (zq16 (zq32 (zq32 (zq32 (zq32 _)))))) rfl ?_
     refine xbz (ms rfl rfl rfl) (fun h_ H_=>xaq (v:=.bool (decide (lack t d l<t.hv l))) rfl) rfl ?_
     refine xbz (ms rfl rfl (dtt cc41)) (fun h_ H_=>xaq (v:=yv) rfl) (tm':=zq2 (zq4 (zq8 (zq16 (zq32 (zq32 (zq32 (zq32 (zq32 (zq32 [])))))))))) rfl ?_
     refine xbz (ms rfl rfl (dtt cc41)) (fun h_ H_=>xaq (v:=.int .i64 ((((t.nW+t.nH)+1:Nat):Int))) rfl) rfl ?_
     refine xbz (ms rfl rfl (dtt cc41)) (fun h_ H_=>xaq (v:=.int .i64 (((t.nW:Nat):Int))) rfl) (tm':=zq2 (zq4 (zq8 (zq16 (zq32 (zq32 (zq32 (zq32 (zq32 (zq32 [])))))))))) rfl ?_
     refine xbz (ms rfl rfl (dtt cc41)) (fun h_ H_=>xaq (v:=.int .i64 (((l:Nat):Int))) rfl) rfl ?_
     refine xbz (ms rfl rfl (dtt cc41)) (fun h_ H_=>xfx rfl rfl (n:=((t.nW+l:Nat):Int)) (wr (by have z_:=hl_ (by omega);have z1_:=xjz (show (lack t d l).toNat-1≤10 by omega);have z2_:=xjz (show (lack t d l).toNat≤10 by omega);have z3_:=xjz (show (lack t d l).toNat+1≤10 by omega);have z4_:=S.bh l;omega))) (tm':=zq2 (zq4 (zq8 (zq16 (zq32 (zq32 (zq32 (zq32 (zq32 (zq32 [])))))))))) rfl ?_
     refine xbz (ms rfl rfl (dtt cc41)) (fun h_ H_=>xaq (v:=.int .i64 (lack t d l)) rfl) rfl ?_
     refine xbz (ms rfl rfl (dtt cc41)) (fun h_ H_=>xfx rfl rfl (wr (by have z_:=hl_ (by omega);have z1_:=xjz (show (lack t d l).toNat-1≤10 by omega);have z2_:=xjz (show (lack t d l).toNat≤10 by omega);have z3_:=xjz (show (lack t d l).toNat+1≤10 by omega);have z4_:=S.bh l;omega))) (tm':=zq2 (zq4 (zq8 (zq16 (zq32 (zq32 (zq32 (zq32 (zq32 (zq32 [])))))))))) rfl ?_
     refine xik (ms rfl rfl (dtt cc41)) (first:=[]) (cap:=[]) rfl rfl zoq (fun h_ H_=>(zow md _ (z:=(lack t d l)+1) (x:=(lack t d l).toNat+1) (by have z_:=hl_ (by omega);omega) (by have z_:=hl_ (by omega);omega)).mono fun v_ h2_ ⟨e_,k_⟩=>⟨e_,H_.call k_⟩) rfl ?_
     refine xbz (ms rfl rfl (dtt cc41)) (fun h_ H_=>xaq (v:=.int .i64 (lack t d l)) rfl) (tm':=zq2 (zq4 (zq8 (zq16 (zq32 (zq32 (zq32 (zq32 (zq32 (zq32 [])))))))))) rfl ?_
     refine xik (ms rfl rfl (dtt cc41)) (first:=[]) (cap:=[]) rfl rfl zoq (fun h_ H_=>(zow md _ (z:=lack t d l) (x:=(lack t d l).toNat) (by have z_:=hl_ (by omega);omega) (by have z_:=hl_ (by omega);omega)).mono fun v_ h2_ ⟨e_,k_⟩=>⟨e_,H_.call k_⟩) rfl ?_
     refine xbz (ms rfl rfl (dtt cc41)) (fun h_ H_=>xkw rfl rfl (wr (by have z_:=hl_ (by omega);have z1_:=xjz (show (lack t d l).toNat-1≤10 by omega);have z2_:=xjz (show (lack t d l).toNat≤10 by omega);have z3_:=xjz (show (lack t d l).toNat+1≤10 by omega);have z4_:=S.bh l;omega))) (tm':=zq2 (zq4 (zq8 (zq16 (zq32 (zq32 (zq32 (zq32 (zq32 (zq32 [])))))))))) rfl ?_
     refine xbz (ms rfl rfl (dtt cc41)) (fun h_ H_=>xaq (v:=.func (.func 113) #[] #[.pointer (some ⟨b1,0,none⟩)]) rfl) rfl ?_
     refine xbz (ms rfl rfl (dtt cc41)) (fun h_ H_=>xaq (v:=.int .i64 (((l:Nat):Int))) rfl) (tm':=zq2 (zq4 (zq8 (zq16 (zq32 (zq32 (zq32 (zq32 (zq32 (zq32 [])))))))))) rfl ?_
     refine xbz (ms rfl rfl (dtt cc41)) (fun h_ H_=>xaj H_ tA92 rfl (i:=0) rfl (v:=.pointer (some ⟨bt,0,none⟩)) rfl) rfl ?_
     refine xbz (ms rfl rfl (dtt cc41)) (fun h_ H_=>xhk rfl) (tm':=zq2 (zq4 (zq8 (zq16 (zq32 (zq32 (zq32 (zq32 (zq32 (zq32 [])))))))))) rfl ?_
     refine xbz (ms rfl rfl (dtt cc41)) (fun h_ H_=>xaz ypz rfl (a':=⟨bt,3,none⟩) rfl) rfl ?_
     refine xbz (ms rfl rfl (dtt cc41)) (fun h_ H_=>xaz zvk rfl (a':=⟨bt,3,none⟩) rfl) (tm':=zq2 (zq4 (zq8 (zq16 (zq32 (zq32 (zq32 (zq32 (zq32 (zq32 [])))))))))) rfl ?_
     refine xbz (ms rfl rfl (dtt cc41)) (fun h_ H_=>xbv H_ tA3 rfl (v:=.int .i64 (wi.house)) (xkx hb rfl)) rfl ?_
     refine xbz (ms rfl rfl (dtt cc41)) (fun h_ H_=>xjx rfl rfl) (tm':=zq2 (zq4 (zq8 (zq16 (zq32 (zq32 (zq32 (zq32 (zq32 (zq32 [])))))))))) rfl ?_
     refine xik (ms rfl rfl (dtt cc41)) (first:=[]) (cap:=[.pointer (some ⟨b1,0,none⟩)]) rfl rfl ztj (fun h_ H_=>((show CallsX Tryd.prog md 113 _ h_ (fun v h'=>v= .int .i64 (bh wi l)∧Keep h_ h') from c113 md _ _ (H_.perO (i:=0) rfl) (((l:Nat):Int)=wi.house) _ _ _ _ _ _ _ _ _ xsj (H_.leO (i:=0) rfl _ _ hb))).mono fun v_ h2_ ⟨e_,k_⟩=>⟨e_,H_.call k_⟩) rfl ?_
     refine xbz (ms rfl rfl (dtt cc41)) (fun h_ H_=>xfx rfl rfl (wr (by have z_:=hl_ (by omega);have z1_:=xjz (show (lack t d l).toNat-1≤10 by omega);have z2_:=xjz (show (lack t d l).toNat≤10 by omega);have z3_:=xjz (show (lack t d l).toNat+1≤10 by omega);have z4_:=S.bh l;omega))) (tm':=zq2 (zq4 (zq8 (zq16 (zq32 (zq32 (zq32 (zq32 (zq32 (zq32 [])))))))))) rfl ?_
     refine xbz (ms rfl rfl (dtt cc41)) (fun h_ H_=>xjv tZ99 tP99 (vs:=[(0,.int .i64 ((((t.nW+t.nH)+1:Nat):Int))),(1,.int .i64 (((t.nW+l:Nat):Int))),(2,.int .i64 (((dear ((lack t d l).toNat+1))-(dear ((lack t d l).toNat)))+(bh wi l))),(3,.int .i64 (-1)),(4,.int .i64 0)]) rfl (cells:=#[.int .i64 ((((t.nW+t.nH)+1:Nat):Int)),.int .i64 (((t.nW+l:Nat):Int)),.int .i64 (((dear ((lack t d l).toNat+1))-(dear ((lack t d l).toNat)))+(bh wi l)),.int .i64 (-1),.int .i64 0]) rfl) rfl ?_
     refine xiz rfl ?_
     refine xzx (ms rfl rfl (dtt cc41)) rfl (vs:=[.agg #[.int .i64 ((((t.nW+t.nH)+1:Nat):Int)),.int .i64 (((t.nW+l:Nat):Int)),.int .i64 (((dear ((lack t d l).toNat+1))-(dear ((lack t d l).toNat)))+(bh wi l)),.int .i64 (-1),.int .i64 0]]) rfl (R:=fun v_ h_=>∃ X_,v_= .bool true∧I ((outH t wi d l)++[(⟨t.si,t.nW+l,dear ((lack t d l).toNat+1)-dear (lack t d l).toNat+bh wi l,-1,0⟩:Go.X.Bf.Arc)]) X_∧St h₀ B₀ p h_ (([(b1,.cells #[.pointer (some ⟨bt,0,none⟩)] 92 (0,0))]:Pcs)++(X_++(X13++(X12++[]))))) (fun h_ H_=>(show CallV Tryd.prog md yv [.agg #[.int .i64 ((((t.nW+t.nH)+1:Nat):Int)),.int .i64 (((t.nW+l:Nat):Int)),.int .i64 (((dear ((lack t d l).toNat+1))-(dear ((lack t d l).toNat)))+(bh wi l)),.int .i64 (-1),.int .i64 0]] h_ (fun v h'=>∃ X',v= .bool true∧I ((outH t wi d l)++[(⟨t.si,t.nW+l,dear ((lack t d l).toNat+1)-dear (lack t d l).toNat+bh wi l,-1,0⟩:Go.X.Bf.Arc)]) X'∧St h₀ B₀ p h' (([(b1,.cells #[.pointer (some ⟨bt,0,none⟩)] 92 (0,0))]:Pcs)++(X'++(X13++(X12++[]))))) from by have e_:(.agg #[.int .i64 ((((t.nW+t.nH)+1:Nat):Int)),.int .i64 (((t.nW+l:Nat):Int)),.int .i64 (((dear ((lack t d l).toNat+1))-(dear ((lack t d l).toNat)))+(bh wi l)),.int .i64 (-1),.int .i64 0]:Value)=arcV ⟨t.si,t.nW+l,dear ((lack t d l).toNat+1)-dear (lack t d l).toNat+bh wi l,-1,0⟩:=ycq (x:=⟨t.si,t.nW+l,dear ((lack t d l).toNat+1)-dear (lack t d l).toNat+bh wi l,-1,0⟩) rfl rfl (show ((dear ((lack t d l).toNat+1))-(dear ((lack t d l).toNat)))+(bh wi l)=dear ((lack t d l).toNat+1)-dear (lack t d l).toNat+bh wi l from by have z_:=hl_ (by omega);omega) rfl rfl;rw [e_];exact (hy _ _ h_ _ _ (pre_H3 (by omega) (by assumption) (by assumption)) hI H_.yTo).mono fun v_ h2_ ⟨X_,e_,i_,N_⟩=>⟨X_,e_,i_,N_.yBack⟩)) fun v_=>?_
     refine xfv fun X42=>xfz fun ev_=>xfz fun hI43=>?_
     subst ev_
     refine xgx (tm':=zq2 (zq4 (zq8 (zq16 (zq32 (zq32 (zq32 (zq32 (zq32 (zq32 [])))))))))) rfl ?_
     refine xaw (ms rfl rfl (dtt cc41)) (fun h_ H_=>xgz rfl) rfl ?_
     refine xaw (ms rfl rfl rfl) (fun h_ H_=>xbj rfl (dtt cc41) (v:=.bool (!true)) rfl) rfl ?_
     refine rt (xcq rfl rfl (v:=.bool (!true)) rfl) (tm':=zq2 (zq4 (zq8 (zq16 (zq32 (zq32 (zq32 (zq32 (zq32 (zq32 [])))))))))) rfl <| xak <| xcv rfl (xev rfl) <| xdq <| xeq <| xbq ?_
     refine ro (xfx rfl rfl (n:=((l+1:Nat):Int)) (wr (by omega))) ?_
     refine ro (xaq (v:=.int .i64 (((l+1:Nat):Int))) rfl) <| xak ?_
     exact fun h_ H_=>IH31 _ _ (by omega) h_ ⟨l+1,X42,rfl,(y_of rfl),(by omega),(by rw [← H_ft (t:=t) (w:=wi) (d:=d) (k:=l) (by assumption) (by assumption)];exact hI43),H_⟩
    ·
     refine xfw 62 [[],[0],[0,1],[],[],[],[4,5],[],[],[8],[8,9],[],[8,9,10,11],[],[],[],[0,1],[0,1,16],[0,1,16,17],[0,1,16,17,18],[0,1,16,17,18,19],[0,1,15,16,17,18,19,20],[0,1,8,9,10,11,12,14,15,16,17,18,19,20,21],[0,1,8,9,10,11,12,13,14,15,16,17,18,19,20,21],[0,1,4,5,6,7,8,9,10,11,12,13,14,15,16,17,18,19,20,21,23],[0,1,3,4,5,6,7,8,9,10,11,12,13,14,15,16,17,18,19,20,21,22,23,24],[0,1,3,4,5,6,7,8,9,10,11,12,13,14,15,16,17,18,19,20,21,22,23,24],[0,1,2,3,4,5,6,7,8,9,10,11,12,13,14,15,16,17,18,19,20,21,22,23,24,26],[0,1,2,3,4,5,6,7,8,9,10,11,12,13,14,15,16,17,18,19,20,21,22,23,24,25,26,27],[],[],[30],[30,31],[30,31,32],[30,31,32,33],[0,1,2,3,4,5,6,7,8,9,10,11,12,13,14,15,16,17,18,19,20,21,22,23,24,25,26,27],[0,1,2,3,4,5,6,7,8,9,10,11,12,13,14,15,16,17,18,19,20,21,22,23,24,25,26,27,30,31,32,33,34,35],[0,1,2,3,4,5,6,7,8,9,10,11,12,13,14,15,16,17,18,19,20,21,22,23,24,25,26,27,30,31,32,33,34,35,36],[0,1,2,3,4,5,6,7,8,9,10,11,12,13,14,15,16,17,18,19,20,21,22,23,24,25,26,27,29,30,31,32,33,34,35,36,37],[0,1,2,3,4,5,6,7,8,9,10,11,12,13,14,15,16,17,18,19,20,21,22,23,24,25,26,27,28,29,30,31,32,33,34,35,36,37,38],[],[],[],[],[42,43],[],[45],[45,46],[],[45,46,47,48],[],[],[],[0,1,2,3,4,5,6,7,8,9,10,11,12,13,14,15,16,17,18,19,20,21,22,23,24,25,26,27,28,29,30,31,32,33,34,35,36,37,38],[0,1,2,3,4,5,6,7,8,9,10,11,12,13,14,15,16,17,18,19,20,21,22,23,24,25,26,27,28,29,30,31,32,33,34,35,36,37,38,53],[0,1,2,3,4,5,6,7,8,9,10,11,12,13,14,15,16,17,18,19,20,21,22,23,24,25,26,27,28,29,30,31,32,33,34,35,36,37,38,53,54],[0,1,2,3,4,5,6,7,8,9,10,11,12,13,14,15,16,17,18,19,20,21,22,23,24,25,26,27,28,29,30,31,32,33,34,35,36,37,38,53,54,55],[0,1,2,3,4,5,6,7,8,9,10,11,12,13,14,15,16,17,18,19,20,21,22,23,24,25,26,27,28,29,30,31,32,33,34,35,36,37,38,53,54,55,56],[0,1,2,3,4,5,6,7,8,9,10,11,12,13,14,15,16,17,18,19,20,21,22,23,24,25,26,27,28,29,30,31,32,33,34,35,36,37,38,52,53,54,55,56,57],[0,1,2,3,4,5,6,7,8,9,10,11,12,13,14,15,16,17,18,19,20,21,22,23,24,25,26,27,28,29,30,31,32,33,34,35,36,37,38,45,46,47,48,49,51,52,53,54,55,56,57,58],[0,1,2,3,4,5,6,7,8,9,10,11,12,13,14,15,16,17,18,19,20,21,22,23,24,25,26,27,28,29,30,31,32,33,34,35,36,37,38,45,46,47,48,49,50,51,52,53,54,55,56,57,58],[0,1,2,3,4,5,6,7,8,9,10,11,12,13,14,15,16,17,18,19,20,21,22,23,24,25,26,27,28,29,30,31,32,33,34,35,36,37,38,41,42,43,44,45,46,47,48,49,50,51,52,53,54,55,56,57,58,60],[0,1,2,3,4,5,6,7,8,9,10,11,12,13,14,15,16,17,18,19,20,21,22,23,24,25,26,27,28,29,30,31,32,33,34,35,36,37,38,40,41,42,43,44,45,46,47,48,49,50,51,52,53,54,55,56,57,58,59,60,61],[0,1,2,3,4,5,6,7,8,9,10,11,12,13,14,15,16,17,18,19,20,21,22,23,24,25,26,27,29,30,31,32,33,34,35,36,37,38,40,41,42,43,44,45,46,47,48,49,50,51,52,53,54,55,56,57,58,59,60,61,62],[0,1,2,3,4,5,6,7,8,9,10,11,12,13,14,15,16,17,18,19,20,21,22,23,24,25,26,27,29,30,31,32,33,34,35,36,37,38,39,40,41,42,43,44,45,46,47,48,49,50,51,52,53,54,55,56,57,58,59,60,61,62,63],[]] xlq (by kernel_rfl) (Nat.le_of_ble_eq_true rfl) ?_
     refine wt (xaq (v:=.int .i64 (lack t d l)) rfl) (tm':=zq2 (zq4 (zq8 (zq32 (zq32 (zq32 _)))))) rfl <| wo (xix rfl rfl) <| wt (xaq (v:=.bool (decide (0<lack t d l))) rfl) (tm':=zq16 (zq32 (zq32 (zq32 _)))) rfl <| wp (mo rfl rfl (dff cc33)) <| xdv (mo rfl rfl (dff cc33)) (tm':=zq2 (zq16 (zq32 (zq32 (zq32 _))))) rfl <| wp (mo rfl rfl (dff cc33)) ?_
     refine xdv (mo rfl rfl (dff cc33)) (tm':=zq4 (zq16 (zq32 (zq32 (zq32 _))))) rfl <| wp (mo rfl rfl (dff cc33)) <| xdv (mo rfl rfl (dff cc33)) (tm':=zq2 (zq4 (zq16 (zq32 (zq32 (zq32 _)))))) rfl <| wp (mo rfl rfl (dff cc33)) <| xdv (mo rfl rfl (dff cc33)) (tm':=zq8 (zq16 (zq32 (zq32 (zq32 _))))) rfl <| wp (mo rfl rfl (dff cc33)) ?_
     refine xdv (mo rfl rfl (dff cc33)) (tm':=zq2 (zq8 (zq16 (zq32 (zq32 (zq32 _)))))) rfl <| wp (mo rfl rfl (dff cc33)) <| xdv (mo rfl rfl (dff cc33)) (tm':=zq4 (zq8 (zq16 (zq32 (zq32 (zq32 _)))))) rfl <| wp (mo rfl rfl (dff cc33)) <| xdv (mo rfl rfl (dff cc33)) (tm':=zq2 (zq4 (zq8 (zq16 (zq32 (zq32 (zq32 _))))))) rfl <| wp (mo rfl rfl (dff cc33)) ?_
     refine xdv (mo rfl rfl (dff cc33)) (tm':=zq32 (zq32 (zq32 (zq32 _)))) rfl <| wp (mo rfl rfl (dff cc33)) <| xdv (mo rfl rfl (dff cc33)) (tm':=zq2 (zq32 (zq32 (zq32 (zq32 _))))) rfl <| wp (mo rfl rfl (dff cc33)) <| xdv (mo rfl rfl (dff cc33)) (tm':=zq4 (zq32 (zq32 (zq32 (zq32 _))))) rfl <| wp (mo rfl rfl (dff cc33)) ?_
     refine xdv (mo rfl rfl (dff cc33)) (tm':=zq2 (zq4 (zq32 (zq32 (zq32 (zq32 _)))))) rfl <| wp (mo rfl rfl (dff cc33)) <| xdv (mo rfl rfl (dff cc33)) (tm':=zq8 (zq32 (zq32 (zq32 (zq32 _))))) rfl <| wo (xcq rfl (dff cc33) (v:=.bool (false)) rfl) <| wt (xaq (v:=.bool (false)) rfl) (tm':=zq2 (zq8 (zq32 (zq32 (zq32 (zq32 _)))))) rfl ?_
     refine xbz (ms rfl rfl rfl) (fun h_ H_=>xaq (v:=.int .i64 (lack t d l)) rfl) rfl ?_
     refine xbz (ms rfl rfl rfl) (fun h_ H_=>xaj H_ tA92 rfl (i:=0) rfl (v:=.pointer (some ⟨bt,0,none⟩)) rfl) (tm':=zq4 (zq8 (zq32 (zq32 (zq32 (zq32 _)))))) rfl ?_
     refine xbz (ms rfl rfl rfl) (fun h_ H_=>xhk rfl) rfl ?_
     refine xbz (ms rfl rfl rfl) (fun h_ H_=>xaz ycz rfl (a':=⟨bt,0,none⟩) rfl) (tm':=zq2 (zq4 (zq8 (zq32 (zq32 (zq32 (zq32 _))))))) rfl ?_
     refine xbz (ms rfl rfl rfl) (fun h_ H_=>xaz xmz rfl (a':=⟨bt,0,none⟩) rfl) rfl ?_
     refine xbz (ms rfl rfl rfl) (fun h_ H_=>xbv H_ tA22 rfl (v:=.slice a1 t.nH c1) (xkx hb rfl)) (tm':=zq16 (zq32 (zq32 (zq32 (zq32 _))))) rfl ?_
     refine xbz (ms rfl rfl rfl) (fun h_ H_=>xaq (v:=.int .i64 (((l:Nat):Int))) rfl) rfl ?_
     refine xbz (ms rfl rfl rfl) (fun h_ H_=>xcz (i:=l) Tryd.underlying22 tS3 (xkq a1 t.nH c1 (T.h.ne (by omega))) rfl (by omega)) (tm':=zq2 (zq16 (zq32 (zq32 (zq32 (zq32 _)))))) rfl ?_
     refine xbz (ms rfl rfl rfl) (fun h_ H_=>xbv H_ tA3 rfl (v:=.int .i64 (t.hv l)) (T.h.get (by omega))) rfl ?_
     refine xbz (ms rfl rfl rfl) (fun h_ H_=>xgw rfl rfl) (tm':=zq4 (zq16 (zq32 (zq32 (zq32 (zq32 _)))))) rfl ?_
     refine xbz (ms rfl rfl rfl) (fun h_ H_=>xaq (v:=.bool (decide (lack t d l<t.hv l))) rfl) rfl ?_
     refine xdv (mo rfl rfl (dff cc41)) (tm':=zq2 (zq4 (zq8 (zq16 (zq32 (zq32 (zq32 (zq32 (zq32 (zq32 [])))))))))) rfl <| wp (mo rfl rfl (dff cc41)) <| xdv (mo rfl rfl (dff cc41)) (tm':=zq2 (zq4 (zq8 (zq16 (zq32 (zq32 (zq32 (zq32 (zq32 (zq32 [])))))))))) rfl <| wp (mo rfl rfl (dff cc41)) <| xdv (mo rfl rfl (dff cc41)) (tm':=zq2 (zq4 (zq8 (zq16 (zq32 (zq32 (zq32 (zq32 (zq32 (zq32 [])))))))))) rfl <| wp (mo rfl rfl (dff cc41)) ?_
     refine xdv (mo rfl rfl (dff cc41)) (tm':=zq2 (zq4 (zq8 (zq16 (zq32 (zq32 (zq32 (zq32 (zq32 (zq32 [])))))))))) rfl <| wp (mo rfl rfl (dff cc41)) <| xdv (mo rfl rfl (dff cc41)) (tm':=zq2 (zq4 (zq8 (zq16 (zq32 (zq32 (zq32 (zq32 (zq32 (zq32 [])))))))))) rfl <| wp (mo rfl rfl (dff cc41)) <| xdv (mo rfl rfl (dff cc41)) (tm':=zq2 (zq4 (zq8 (zq16 (zq32 (zq32 (zq32 (zq32 (zq32 (zq32 [])))))))))) rfl <| wp (mo rfl rfl (dff cc41)) ?_
     refine xdv (mo rfl rfl (dff cc41)) (tm':=zq2 (zq4 (zq8 (zq16 (zq32 (zq32 (zq32 (zq32 (zq32 (zq32 [])))))))))) rfl <| wp (mo rfl rfl (dff cc41)) <| xdv (mo rfl rfl (dff cc41)) (tm':=zq2 (zq4 (zq8 (zq16 (zq32 (zq32 (zq32 (zq32 (zq32 (zq32 [])))))))))) rfl <| wp (mo rfl rfl (dff cc41)) <| xdv (mo rfl rfl (dff cc41)) (tm':=zq2 (zq4 (zq8 (zq16 (zq32 (zq32 (zq32 (zq32 (zq32 (zq32 [])))))))))) rfl <| wp (mo rfl rfl (dff cc41)) ?_
     refine xdv (mo rfl rfl (dff cc41)) (tm':=zq2 (zq4 (zq8 (zq16 (zq32 (zq32 (zq32 (zq32 (zq32 (zq32 [])))))))))) rfl <| wp (mo rfl rfl (dff cc41)) <| xdv (mo rfl rfl (dff cc41)) (tm':=zq2 (zq4 (zq8 (zq16 (zq32 (zq32 (zq32 (zq32 (zq32 (zq32 [])))))))))) rfl <| wp (mo rfl rfl (dff cc41)) ?_
     refine xiz rfl ?_
     refine rp (mo rfl rfl (dff cc41)) <| xfq (mo rfl rfl (dff cc41)) (tm':=zq2 (zq4 (zq8 (zq16 (zq32 (zq32 (zq32 (zq32 (zq32 (zq32 [])))))))))) rfl ?_
     refine xaw (ms rfl rfl rfl) (fun h_ H_=>xcq rfl (dff cc41) (v:=.bool (false)) rfl) rfl ?_
     refine ro (xcq rfl rfl (v:=.bool (false)) rfl) <| xak <| xcv rfl rfl <| xdq <| xeq <| xbq ?_
     refine rt (xfx rfl rfl (n:=((l+1:Nat):Int)) (wr (by omega))) (tm':=zq2 (zq4 (zq8 (zq16 (zq32 (zq32 (zq32 (zq32 (zq32 (zq32 [])))))))))) rfl ?_
     refine ro (xaq (v:=.int .i64 (((l+1:Nat):Int))) rfl) <| xak ?_
     exact fun h_ H_=>IH31 _ _ (by omega) h_ ⟨l+1,X,rfl,(y_of rfl),(by omega),(by rw [← H_ff (t:=t) (w:=wi) (d:=d) (k:=l) (by assumption) (by assumption)];exact hI),H_⟩
  ·
   refine xcv rfl (dff cc32) <| xiq rfl <| fsr <| rd (fun h_ H_=>xaj H_ tA92 rfl (i:=0) rfl (v:=.pointer (some ⟨bt,0,none⟩)) rfl) <| rt (xhk rfl) (tm':=zq2 (zq4 (zq8 (zq16 (zq32 (zq32 (zq32 (zq32 (zq32 (zq32 [])))))))))) rfl <| ro (xaz ycz rfl (a':=⟨bt,0,none⟩) rfl) ?_
   refine ro (xaz xhv rfl (a':=⟨bt,2,none⟩) rfl) ?_
   refine xaw mn (fun h_ H_=>xbv H_ tA23 rfl (v:=.slice a3 t.m c3) (xkx hb rfl)) (tm':=zq2 (zq4 (zq8 (zq16 (zq32 (zq32 (zq32 (zq32 (zq32 (zq32 [])))))))))) rfl ?_
   refine ro (xfk Tryd.underlying23 rfl) <| ro (xaq (v:=.int .i64 0) rfl) <| xak <| xek ?_
   refine xiv (m₀:=t.m-0) (fun m_ tm_ h_=>∃ (q:Nat) (X:Pcs),m_=t.m-q∧(∃ y44:Nat→Value,tm_=[.pointer (some ⟨bt,0,none⟩),yv,.pointer (some ⟨b1,0,none⟩),undef,w10,w11,.int .i64 (((t.nW:Nat):Int)),.int .i64 (((t.nW+t.nH:Nat):Int)),.int .i64 ((((t.nW+t.nH)+1:Nat):Int)),.func (.func 113) #[] #[.pointer (some ⟨b1,0,none⟩)],(y18 10),(y18 11),(y30 12),(y30 13),(y44 14),(y44 15),.tuple #[w10,w11],.pointer (some ⟨bt,0,none⟩),.pointer (some ⟨bt,0,none⟩),.pointer (some ⟨bt,0,none⟩),.agg #[.slice a1 t.nH c1,.slice a2 t.nW c2,.slice a3 t.m c3],.pointer (some ⟨bt,0,none⟩),.pointer (some ⟨bt,0,none⟩),.pointer (some ⟨bt,6,none⟩),.slice b t.m cb,.tuple #[w10,w11],w10,w11,.pointer (some ⟨bt,0,none⟩),.pointer (some ⟨bt,0,none⟩),.pointer (some ⟨bt,0,none⟩),.pointer (some ⟨bt,1,none⟩),.slice a2 t.nW c2,.int .i64 (((t.nW:Nat):Int)),.int .i64 (((t.nW:Nat):Int)),.pointer (some ⟨bt,0,none⟩),.pointer (some ⟨bt,0,none⟩),.pointer (some ⟨bt,0,none⟩),.pointer (some ⟨bt,0,none⟩),.slice a1 t.nH c1,.int .i64 (((t.nH:Nat):Int)),.int .i64 (((t.nW+t.nH:Nat):Int)),.int .i64 (((t.nW+t.nH:Nat):Int)),.int .i64 ((((t.nW+t.nH)+1:Nat):Int)),.func (.func 113) #[] #[.pointer (some ⟨b1,0,none⟩)],w11,.int .i64 (((t.nW:Nat):Int)),.int .i64 (((k:Nat):Int)),.bool (decide (((k:Nat):Int)<((t.nW:Nat):Int))),(y18 49),(y18 50),(y18 51),(y18 52),(y18 53),(y18 54),(y18 55),(y18 56),(y18 57),(y18 58),(y18 59),(y18 60),(y18 61),(y18 62),(y18 63),(y18 64),(y18 65),(y18 66),(y18 67),(y18 68),(y18 69),(y18 70),(y18 71),(y18 72),(y18 73),(y18 74),(y18 75),(y18 76),(y18 77),(y18 78),(y18 79),(y18 80),(y18 81),(y18 82),(y18 83),(y18 84),(y18 85),(y18 86),(y18 87),(y18 88),(y18 89),(y18 90),(y18 91),(y18 92),(y18 93),(y18 94),(y18 95),(y18 96),(y18 97),(y18 98),(y18 99),(y18 100),(y18 101),w10,.int .i64 (((t.nH:Nat):Int)),.int .i64 (((l:Nat):Int)),.bool (decide (((l:Nat):Int)<((t.nH:Nat):Int))),(y30 106),(y30 107),(y30 108),(y30 109),(y30 110),(y30 111),(y30 112),(y30 113),(y30 114),(y30 115),(y30 116),(y30 117),(y30 118),(y30 119),(y30 120),(y30 121),(y30 122),(y30 123),(y30 124),(y30 125),(y30 126),(y30 127),(y30 128),(y30 129),(y30 130),(y30 131),(y30 132),(y30 133),(y30 134),(y30 135),(y30 136),(y30 137),(y30 138),(y30 139),(y30 140),(y30 141),(y30 142),(y30 143),(y30 144),(y30 145),(y30 146),(y30 147),(y30 148),(y30 149),(y30 150),(y30 151),(y30 152),(y30 153),(y30 154),(y30 155),(y30 156),(y30 157),(y30 158),(y30 159),(y30 160),(y30 161),(y30 162),(y30 163),(y30 164),(y30 165),(y30 166),(y30 167),(y30 168),(y30 169),(y30 170),(y30 171),(y30 172),(y30 173),(y30 174),(y30 175),.pointer (some ⟨bt,0,none⟩),.pointer (some ⟨bt,0,none⟩),.pointer (some ⟨bt,0,none⟩),.pointer (some ⟨bt,2,none⟩),.slice a3 t.m c3,.int .i64 (((t.m:Nat):Int)),.int .i64 (((q:Nat):Int)),(y44 183),(y44 184),(y44 185),(y44 186),(y44 187),(y44 188),(y44 189),(y44 190),(y44 191),(y44 192),(y44 193),(y44 194),(y44 195),(y44 196),(y44 197),(y44 198),(y44 199),(y44 200),(y44 201),(y44 202),(y44 203),(y44 204),(y44 205),(y44 206),(y44 207),(y44 208),(y44 209),(y44 210),(y44 211),(y44 212),(y44 213),(y44 214),(y44 215),(y44 216),(y44 217),(y44 218),(y44 219),(y44 220),(y44 221)])∧(q≤t.m)∧(I (outY t wi d q) X)∧St h₀ B₀ p h_ (([(b1,.cells #[.pointer (some ⟨bt,0,none⟩)] 92 (0,0))]:Pcs)++(X++(X13++(X12++[]))))) (fun h_ H_=>⟨0,X,rfl,(y_of rfl),Nat.zero_le _,(by rw [wmw];have e_:l=t.nH:=(by omega);rw [← e_];exact hI),H_⟩) ?_
   intro m_ tm_ IH45
   refine xij fun q=>xij fun X=>xdz fun hm_=>xdz fun ht_=>xdz fun hkq=>xdz fun hI=>?_
   subst hm_;obtain ⟨y44,ht_⟩:=ht_;subst ht_
   have hy_:=fun z_:q<t.m=>O.y q z_
   refine fsr <| rt (xgw rfl rfl) (tm':=zq2 (zq4 (zq8 (zq16 (zq32 (zq32 (zq32 (zq32 (zq32 (zq32 [])))))))))) rfl <| ren ?_
   by_cases cc46:((q:Nat):Int)<((t.m:Nat):Int)
   ·
    refine xdk rfl (dtt cc46) <| xdq <| xej <| xek <| fsr <| ro (xaq (v:=.int .i64 (((q:Nat):Int))) rfl) ?_
    refine ro (xcz (i:=q) Tryd.underlying23 tS43 (xkq a3 t.m c3 (T.y.ne (by omega))) rfl (by omega)) ?_
    refine xaw mn (fun h_ H_=>xhx H_ tA43 tS43 rfl (vs:=[.int .i64 (((t.wh q:Nat):Int)),.int .i64 (((t.ww q:Nat):Int))]) rfl (T.y.allN (by omega) (O.yp _ (by omega)))) (tm':=zq2 (zq4 (zq8 (zq16 (zq32 (zq32 (zq32 (zq32 (zq32 (zq32 [])))))))))) rfl ?_
    refine xkz mn tZ43 rfl fun b47=>xcj (L':=([(b47,.cells #[.int .i64 0,.int .i64 0] 43 (0,0)),(b1,.cells #[.pointer (some ⟨bt,0,none⟩)] 92 (0,0))]:Pcs)++(X++(X13++(X12++[])))) rfl ?_
    refine ro (xax (v:=.int .i64 (((q:Nat):Int))) rfl) ?_
    refine xjk mn tS43 rfl (v:=.agg #[.int .i64 (((t.wh q:Nat):Int)),.int .i64 (((t.ww q:Nat):Int))]) rfl (i:=0) rfl rfl rfl (Nat.le_of_ble_eq_true rfl) (cs2:=[.int .i64 (((t.wh q:Nat):Int)),.int .i64 (((t.ww q:Nat):Int))]) rfl (xcj (L':=([(b47,.cells #[.int .i64 (((t.wh q:Nat):Int)),.int .i64 (((t.ww q:Nat):Int))] 43 (0,0)),(b1,.cells #[.pointer (some ⟨bt,0,none⟩)] 92 (0,0))]:Pcs)++(X++(X13++(X12++[])))) rfl ?_)
    refine ren <| xbq <| rt (xaq (v:=yv) rfl) (tm':=zq2 (zq4 (zq8 (zq16 (zq32 (zq32 (zq32 (zq32 (zq32 (zq32 [])))))))))) rfl <| ro (xaz xpk rfl (a':=⟨b47,1,none⟩) rfl) <| rd (fun h_ H_=>xaj H_ tA3 rfl (i:=0) rfl (v:=.int .i64 (((t.ww q:Nat):Int))) rfl) <| rt (xaq (v:=.int .i64 (((t.nW:Nat):Int))) rfl) (tm':=zq2 (zq4 (zq8 (zq16 (zq32 (zq32 (zq32 (zq32 (zq32 (zq32 [])))))))))) rfl ?_
    refine ro (xaz xoj rfl (a':=⟨b47,0,none⟩) rfl) <| rd (fun h_ H_=>xaj H_ tA3 rfl (i:=0) rfl (v:=.int .i64 (((t.wh q:Nat):Int))) rfl) ?_
    refine rt (xfx rfl rfl (n:=((t.nW+(t.wh q):Nat):Int)) (wr (by have z_:=hy_ (by omega);omega))) (tm':=zq2 (zq4 (zq8 (zq16 (zq32 (zq32 (zq32 (zq32 (zq32 (zq32 [])))))))))) rfl ?_
    refine ro (xaq (v:=.int .i64 (((q:Nat):Int))) rfl) <| ro (xjv tZ99 tP99 (vs:=[(0,.int .i64 (((t.ww q:Nat):Int))),(1,.int .i64 (((t.nW+(t.wh q):Nat):Int))),(2,.int .i64 0),(3,.int .i64 (((q:Nat):Int))),(4,.int .i64 1)]) rfl (cells:=#[.int .i64 (((t.ww q:Nat):Int)),.int .i64 (((t.nW+(t.wh q):Nat):Int)),.int .i64 0,.int .i64 (((q:Nat):Int)),.int .i64 1]) rfl) ?_
    refine xzx mn rfl (vs:=[.agg #[.int .i64 (((t.ww q:Nat):Int)),.int .i64 (((t.nW+(t.wh q):Nat):Int)),.int .i64 0,.int .i64 (((q:Nat):Int)),.int .i64 1]]) rfl (R:=fun v_ h_=>∃ X_,v_= .bool true∧I ((outY t wi d q)++[(⟨t.ww q,t.nW+t.wh q,0,q,1⟩:Go.X.Bf.Arc)]) X_∧St h₀ B₀ p h_ (([(b47,.cells #[.int .i64 (((t.wh q:Nat):Int)),.int .i64 (((t.ww q:Nat):Int))] 43 (0,0)),(b1,.cells #[.pointer (some ⟨bt,0,none⟩)] 92 (0,0))]:Pcs)++(X_++(X13++(X12++[]))))) (fun h_ H_=>(show CallV Tryd.prog md yv [.agg #[.int .i64 (((t.ww q:Nat):Int)),.int .i64 (((t.nW+(t.wh q):Nat):Int)),.int .i64 0,.int .i64 (((q:Nat):Int)),.int .i64 1]] h_ (fun v h'=>∃ X',v= .bool true∧I ((outY t wi d q)++[(⟨t.ww q,t.nW+t.wh q,0,q,1⟩:Go.X.Bf.Arc)]) X'∧St h₀ B₀ p h' (([(b47,.cells #[.int .i64 (((t.wh q:Nat):Int)),.int .i64 (((t.ww q:Nat):Int))] 43 (0,0)),(b1,.cells #[.pointer (some ⟨bt,0,none⟩)] 92 (0,0))]:Pcs)++(X'++(X13++(X12++[]))))) from by have e_:(.agg #[.int .i64 (((t.ww q:Nat):Int)),.int .i64 (((t.nW+(t.wh q):Nat):Int)),.int .i64 0,.int .i64 (((q:Nat):Int)),.int .i64 1]:Value)=arcV ⟨t.ww q,t.nW+t.wh q,0,q,1⟩:=ycq (x:=⟨t.ww q,t.nW+t.wh q,0,q,1⟩) rfl rfl (show 0=0 from by omega) rfl rfl;rw [e_];exact (hy _ _ h_ _ _ (pre_Y1 (by omega)) hI H_.yTo).mono fun v_ h2_ ⟨X_,e_,i_,N_⟩=>⟨X_,e_,i_,N_.yBack⟩)) fun v_=>?_
    refine xfv fun X48=>xfz fun ev_=>xfz fun hI49=>?_
    subst ev_
    refine xgx (tm':=zq2 (zq4 (zq8 (zq16 (zq32 (zq32 (zq32 (zq32 (zq32 (zq32 [])))))))))) rfl ?_
    refine ro (xgz rfl) <| ro (xaq (v:=.bool (!true)) rfl) ?_
    refine xaw (ms rfl rfl (xev rfl)) (fun h_ H_=>xaj H_ tA92 rfl (i:=1) rfl (v:=.pointer (some ⟨bt,0,none⟩)) rfl) (tm':=zq2 (zq4 (zq8 (zq16 (zq32 (zq32 (zq32 (zq32 (zq32 (zq32 [])))))))))) rfl ?_
    refine xaw (ms rfl rfl (xev rfl)) (fun h_ H_=>xhk rfl) rfl ?_
    refine xaw (ms rfl rfl (xev rfl)) (fun h_ H_=>xaz zvj rfl (a':=⟨bt,6,none⟩) rfl) rfl ?_
    refine xaw (ms rfl rfl (xev rfl)) (fun h_ H_=>xbv H_ tA22 rfl (v:=.slice b t.m cb) (xkx hb rfl)) (tm':=zq2 (zq4 (zq8 (zq16 (zq32 (zq32 (zq32 (zq32 (zq32 (zq32 [])))))))))) rfl ?_
    refine xaw (ms rfl rfl (xev rfl)) (fun h_ H_=>xaq (v:=.int .i64 (((q:Nat):Int))) rfl) rfl ?_
    refine xaw (ms rfl rfl (xev rfl)) (fun h_ H_=>xcz (i:=q) Tryd.underlying22 tS3 (xkq b t.m cb (D.ne (by omega))) rfl (by omega)) rfl ?_
    refine xaw (ms rfl rfl (xev rfl)) (fun h_ H_=>xbv H_ tA3 rfl (v:=.int .i64 (dv d q)) (D.get (by omega))) (tm':=zq2 (zq4 (zq8 (zq16 (zq32 (zq32 (zq32 (zq32 (zq32 (zq32 [])))))))))) rfl ?_
    refine xaw (ms rfl rfl (xev rfl)) (fun h_ H_=>xix rfl rfl) rfl ?_
    refine xaw (ms rfl rfl (xev rfl)) (fun h_ H_=>xaq (v:=.bool (decide (0<dv d q))) rfl) rfl ?_
    by_cases cc50:0<dv d q
    ·
     refine xaw (ms rfl rfl (dtt cc50)) (fun h_ H_=>xaq (v:=yv) rfl) (tm':=zq2 (zq4 (zq8 (zq16 (zq32 (zq32 (zq32 (zq32 (zq32 (zq32 [])))))))))) rfl ?_
     refine xaw (ms rfl rfl (dtt cc50)) (fun h_ H_=>xaq (v:=.int .i64 (((t.nW:Nat):Int))) rfl) rfl ?_
     refine xaw (ms rfl rfl (dtt cc50)) (fun h_ H_=>xaz xoj rfl (a':=⟨b47,0,none⟩) rfl) rfl ?_
     refine xaw (ms rfl rfl (dtt cc50)) (fun h_ H_=>xaj H_ tA3 rfl (i:=0) rfl (v:=.int .i64 (((t.wh q:Nat):Int))) rfl) (tm':=zq2 (zq4 (zq8 (zq16 (zq32 (zq32 (zq32 (zq32 (zq32 (zq32 [])))))))))) rfl ?_
     refine xaw (ms rfl rfl (dtt cc50)) (fun h_ H_=>xfx rfl rfl (n:=((t.nW+(t.wh q):Nat):Int)) (wr (by have z_:=hy_ (by omega);omega))) rfl ?_
     refine xaw (ms rfl rfl (dtt cc50)) (fun h_ H_=>xaz xpk rfl (a':=⟨b47,1,none⟩) rfl) rfl ?_
     refine xaw (ms rfl rfl (dtt cc50)) (fun h_ H_=>xaj H_ tA3 rfl (i:=0) rfl (v:=.int .i64 (((t.ww q:Nat):Int))) rfl) (tm':=zq2 (zq4 (zq8 (zq16 (zq32 (zq32 (zq32 (zq32 (zq32 (zq32 [])))))))))) rfl ?_
     refine xaw (ms rfl rfl (dtt cc50)) (fun h_ H_=>xaq (v:=.int .i64 (((q:Nat):Int))) rfl) rfl ?_
     refine xaw (ms rfl rfl (dtt cc50)) (fun h_ H_=>xjv tZ99 tP99 (vs:=[(0,.int .i64 (((t.nW+(t.wh q):Nat):Int))),(1,.int .i64 (((t.ww q:Nat):Int))),(2,.int .i64 0),(3,.int .i64 (((q:Nat):Int))),(4,.int .i64 (-1))]) rfl (cells:=#[.int .i64 (((t.nW+(t.wh q):Nat):Int)),.int .i64 (((t.ww q:Nat):Int)),.int .i64 0,.int .i64 (((q:Nat):Int)),.int .i64 (-1)]) rfl) rfl ?_
     refine xzx (ms rfl rfl (dtt cc50)) rfl (vs:=[.agg #[.int .i64 (((t.nW+(t.wh q):Nat):Int)),.int .i64 (((t.ww q:Nat):Int)),.int .i64 0,.int .i64 (((q:Nat):Int)),.int .i64 (-1)]]) rfl (R:=fun v_ h_=>∃ X_,v_= .bool true∧I (((outY t wi d q)++[(⟨t.ww q,t.nW+t.wh q,0,q,1⟩:Go.X.Bf.Arc)])++[(⟨t.nW+t.wh q,t.ww q,0,q,-1⟩:Go.X.Bf.Arc)]) X_∧St h₀ B₀ p h_ (([(b47,.cells #[.int .i64 (((t.wh q:Nat):Int)),.int .i64 (((t.ww q:Nat):Int))] 43 (0,0)),(b1,.cells #[.pointer (some ⟨bt,0,none⟩)] 92 (0,0))]:Pcs)++(X_++(X13++(X12++[]))))) (fun h_ H_=>(show CallV Tryd.prog md yv [.agg #[.int .i64 (((t.nW+(t.wh q):Nat):Int)),.int .i64 (((t.ww q:Nat):Int)),.int .i64 0,.int .i64 (((q:Nat):Int)),.int .i64 (-1)]] h_ (fun v h'=>∃ X',v= .bool true∧I (((outY t wi d q)++[(⟨t.ww q,t.nW+t.wh q,0,q,1⟩:Go.X.Bf.Arc)])++[(⟨t.nW+t.wh q,t.ww q,0,q,-1⟩:Go.X.Bf.Arc)]) X'∧St h₀ B₀ p h' (([(b47,.cells #[.int .i64 (((t.wh q:Nat):Int)),.int .i64 (((t.ww q:Nat):Int))] 43 (0,0)),(b1,.cells #[.pointer (some ⟨bt,0,none⟩)] 92 (0,0))]:Pcs)++(X'++(X13++(X12++[]))))) from by have e_:(.agg #[.int .i64 (((t.nW+(t.wh q):Nat):Int)),.int .i64 (((t.ww q:Nat):Int)),.int .i64 0,.int .i64 (((q:Nat):Int)),.int .i64 (-1)]:Value)=arcV ⟨t.nW+t.wh q,t.ww q,0,q,-1⟩:=ycq (x:=⟨t.nW+t.wh q,t.ww q,0,q,-1⟩) rfl rfl (show 0=0 from by omega) rfl rfl;rw [e_];exact (hy _ _ h_ _ _ (pre_Y2 (by omega) (by assumption)) hI49 H_.yTo).mono fun v_ h2_ ⟨X_,e_,i_,N_⟩=>⟨X_,e_,i_,N_.yBack⟩)) fun v_=>?_
     refine xfv fun X51=>xfz fun ev_=>xfz fun hI52=>?_
     subst ev_
     refine xgx (tm':=zq2 (zq4 (zq8 (zq16 (zq32 (zq32 (zq32 (zq32 (zq32 (zq32 [])))))))))) rfl ?_
     refine xaw (ms rfl rfl (dtt cc50)) (fun h_ H_=>xgz rfl) rfl ?_
     refine xaw (ms rfl rfl (xev rfl)) (fun h_ H_=>xbj rfl (dtt cc50) (v:=.bool (!true)) rfl) rfl ?_
     refine rt (xcq rfl (xev rfl) (v:=.bool (!true)) rfl) (tm':=zq2 (zq4 (zq8 (zq16 (zq32 (zq32 (zq32 (zq32 (zq32 (zq32 [])))))))))) rfl <| xak <| xcv rfl (xev rfl) <| xdq <| xeq <| xbq ?_
     refine ro (xfx rfl rfl (n:=((q+1:Nat):Int)) (wr (by omega))) ?_
     refine ro (xaq (v:=.int .i64 (((q+1:Nat):Int))) rfl) <| xak ?_
     exact fun h_ H_=>IH45 _ _ (by omega) h_ ⟨q+1,X51,rfl,(y_of rfl),(by omega),(by rw [← Y_t (t:=t) (w:=wi) (d:=d) (k:=q) (by assumption)];exact hI52),H_.drop⟩
    ·
     refine xfq (mo rfl rfl (dff cc50)) (tm':=zq2 (zq4 (zq8 (zq16 (zq32 (zq32 (zq32 (zq32 (zq32 (zq32 [])))))))))) rfl <| rp (mo rfl rfl (dff cc50)) <| rp (mo rfl rfl (dff cc50)) <| xfq (mo rfl rfl (dff cc50)) (tm':=zq2 (zq4 (zq8 (zq16 (zq32 (zq32 (zq32 (zq32 (zq32 (zq32 [])))))))))) rfl <| rp (mo rfl rfl (dff cc50)) <| rp (mo rfl rfl (dff cc50)) ?_
     refine xfq (mo rfl rfl (dff cc50)) (tm':=zq2 (zq4 (zq8 (zq16 (zq32 (zq32 (zq32 (zq32 (zq32 (zq32 [])))))))))) rfl <| rp (mo rfl rfl (dff cc50)) <| rp (mo rfl rfl (dff cc50)) <| xfq (mo rfl rfl (dff cc50)) (tm':=zq2 (zq4 (zq8 (zq16 (zq32 (zq32 (zq32 (zq32 (zq32 (zq32 [])))))))))) rfl <| rp (mo rfl rfl (dff cc50)) ?_
     refine xaw (ms rfl rfl (xev rfl)) (fun h_ H_=>xcq rfl (dff cc50) (v:=.bool (false)) rfl) rfl ?_
     refine rt (xcq rfl (xev rfl) (v:=.bool (false)) rfl) (tm':=zq2 (zq4 (zq8 (zq16 (zq32 (zq32 (zq32 (zq32 (zq32 (zq32 [])))))))))) rfl <| xak <| xcv rfl rfl <| xdq <| xeq <| xbq ?_
     refine ro (xfx rfl rfl (n:=((q+1:Nat):Int)) (wr (by omega))) ?_
     refine ro (xaq (v:=.int .i64 (((q+1:Nat):Int))) rfl) <| xak ?_
     exact fun h_ H_=>IH45 _ _ (by omega) h_ ⟨q+1,X48,rfl,(y_of rfl),(by omega),(by rw [← Y_f (t:=t) (w:=wi) (d:=d) (k:=q) (by assumption)];exact hI49),H_.drop⟩
   ·
    refine xcv rfl (dff cc46) <| xiq rfl ?_
    refine ztx Tryd.func106 rfl (vs:=[]) (fun h_ H_=>rfl) (v:=.tuple #[]) rfl ?_
    have e_:q=t.m:=by omega
    exact fun h_ H_=>K _ _ ⟨_,(by rw [← hE,← vhx,← e_];exact hI),by simpa using (H_.dropA).sub (List.sublist_append_left _ _)⟩
end Go.Proofs.YtalfgojocdonhaaDoor
namespace Go.X
open Go.Conc
section
variable {P:Program} {md:Md} {f:FuncId} {r:Rd} {df:List Deferred} {k:List Item} {cs:List Frame} {Stop:Goroutine→Heap→Prop} {ops rest:List Oper} {tm:List Value}
  {h₀:Heap} {B₀:List Nat} {p:PHeap} {A C:Pcs} {ty:TypeId} {pos:String} {aft:Array Edge} {gd:Option (Nat × Bool)}
end
end Go.X
namespace Go.X
open Go.Conc
theorem wkj {w:Nat} {zc:List Value} (hz:zc.length=w) (hw:0<w): ∀ n:Nat,(List.range (n*w)).map (fun i=>zc.toArray[i % zc.toArray.size]!)=(List.replicate n zc).flatten
  | 0=>by simp
  | n+1=>by
    have e:(n+1)*w=n*w+w:=by rw [Nat.add_mul,Nat.one_mul]
    rw [e,List.range_add,List.map_append,wkj hz hw n,List.replicate_succ',List.flatten_append]
    congr 1
    rw [List.flatten_singleton,List.map_map]
    refine List.ext_getElem? fun i=>?_
    rw [List.getElem?_map]
    by_cases hi:i<w
    · have h1:(n*w+i) % w=i:=by rw [Nat.add_comm,Nat.add_mul_mod_self_right,Nat.mod_eq_of_lt hi]
      rw [List.getElem?_eq_getElem (by simpa using hi),List.getElem?_eq_getElem (by omega)]
      simp only [List.getElem_range,Option.map_some,Function.comp,List.size_toArray,hz,h1]
      congr 1
      rw [getElem!_pos zc.toArray i (by simp;omega)];simp
    · rw [List.getElem?_eq_none (by simp;omega),List.getElem?_eq_none (by omega)];rfl

section
variable {P:Program} {md:Md} {f:FuncId} {r:Rd} {df:List Deferred} {k:List Item} {cs:List Frame} {Stop:Goroutine→Heap→Prop} {ops rest:List Oper} {tm:List Value}
  {h₀ h:Heap} {B₀:List Nat} {p:PHeap} {A C:Pcs} {ty:TypeId} {pos:String} {aft:Array Edge} {gd:Option (Nat × Bool)}
theorem vaz {dd:Option Nat} {sT eT:TypeId} {x y:Operand} {n w by':Nat} {z:Value} {zc:List Value} {L:Pcs} (hT:P.underlying sT=some (.slice eT)) (hs:sizeT P eT=some w) (hz:zeroT P eT=some z) (hzs:z.cells=zc.toArray) (hzl:zc.length=w) (hw0:0<w) (hw5:w≤100)
    (hb:bytesT P eT=some by') (hx:evl tm x= .int .i64 ((n:Nat):Int)) (hy:evl tm y= .int .i64 ((n:Nat):Int)) (hn:n≤1000) (hb2:by'≤2 ^ 20) (s:St h₀ B₀ p h L):
    Ex P tm ⟨dd,.makeSlice sT x y,ty,pos,aft,gd⟩ h fun v h'=>∃ X,OwnS eT w v (List.replicate n zc) X∧St h₀ B₀ p h' (X++L):=by
  have hfl:((List.replicate n zc).flatten).length=n*w:=by simp [hzl]
  have hbuild: ∀ b,OwnS eT w (.slice (some ⟨b,0,none⟩) n n) (List.replicate n zc) [(b,.cells (List.replicate n zc).flatten.toArray eT (0,0))]:=fun b=>
    OwnS.build rfl (fun e he=>by rw [List.eq_of_mem_replicate he];exact hzl) (by simp) (by have:=Nat.mul_le_mul hn hw5;omega)
  obtain ⟨info,hi,hib⟩: ∃ i,P.info? eT=some i∧i.bytes=by':=by
    unfold bytesT at hb
    cases e:P.info? eT with
    | none=>rw [e] at hb;cases hb
    | some i=>rw [e] at hb;exact ⟨i,rfl,Option.some.inj hb⟩
  have hw:IntKind.i64.wrap ((n:Nat):Int)=((n:Nat):Int):=wr (by omega)
  have hmul:by'*n≤2 ^ 20*1000:=Nat.mul_le_mul hb2 hn
  unfold Ex
  simp only [execOp,hx,hy]
  refine xbk ?_
  unfold Instr.makeSlice
  refine xbk (xgk hT ?_)
  simp only [asInt]
  refine xbk (xbw ?_)
  refine xbk (xbw ?_)
  refine xbk (xok hi ?_)
  simp only [hw,hib]
  rw [if_neg (by
    have h1: ¬ ((n:Nat):Int)<0:=by omega
    have h2: ¬ ((by':Nat):Int)*((n:Nat):Int)>2 ^ 48:=by
      have:((by':Nat):Int)*((n:Nat):Int)=((by'*n:Nat):Int):=by simp
      rw [this];omega
    simp only [Bool.or_eq_true,decide_eq_true_eq]
    rintro ((z | z) | z)
    · rcases z with z | z
      · exact h1 z
      · exact h2 z
    · exact h1 z
    · omega)]
  have ask: ∀ (b:Nat) (K:Unit→Heap→Prop),K () h→wpS P (askRoom b) h K:=by
    intro b K hK
    unfold askRoom
    split
    · exact ⟨rfl,hK⟩
    · exact xbw hK
  refine xbk (ask _ _ ?_)
  refine xbk (xnk hs ?_)
  simp only [Int.toNat_natCast]
  by_cases h0:n*w=0
  · have hn0:n=0:=(Nat.mul_eq_zero.1 h0).resolve_right (by omega)
    subst hn0
    simp only [Nat.zero_mul,if_true]
    refine xbk (xbw ?_)
    rw [show (Array.range 0).map ((#[]:Array Value)[· % (#[]:Array Value).size]!)=(List.replicate 0 zc).flatten.toArray from by rw [show Array.range 0=(#[]:Array Nat) from by simp,Array.map_empty];rfl]
    refine xbk (xrk ?_)
    refine xbw ?_
    exact xbw ⟨_,rfl,_,hbuild h.size,s.push _⟩
  · rw [if_neg h0]
    refine xbk (xqq hz ?_)
    refine xbk (xbw ?_)
    have hc:(Array.range (n*w)).map (z.cells[· % z.cells.size]!)=(List.replicate n zc).flatten.toArray:=by
      rw [hzs]
      apply Array.ext'
      simp only [Array.toList_map,Array.toList_range]
      exact wkj hzl hw0 n
    rw [hc]
    refine xbk (xrk ?_)
    refine xbw ?_
    exact xbw ⟨_,rfl,_,hbuild h.size,s.push _⟩
theorem ywx {dd:Nat} {sT eT:TypeId} {x y:Operand} {n w by':Nat} {z:Value} {zc:List Value} {q:Value→Pcs→Prop} (hm:Met ops tm ⟨some dd,.makeSlice sT x y,ty,pos,aft,gd⟩ true) (hT:P.underlying sT=some (.slice eT)) (hs:sizeT P eT=some w) (hz:zeroT P eT=some z) (hzs:z.cells=zc.toArray) (hzl:zc.length=w) (hw0:0<w) (hw5:w≤100)
    (hb:bytesT P eT=some by') (hx:evl tm x= .int .i64 ((n:Nat):Int)) (hy:evl tm y= .int .i64 ((n:Nat):Int)) (hn:n≤1000) (hb2:by'≤2 ^ 20) (hq: ∀ v X,OwnS eT w v (List.replicate n zc) X→q v X):
    Mix P md ops tm h₀ B₀ p A [] q ⟨some dd,.makeSlice sT x y,ty,pos,aft,gd⟩:=
  zmz hm fun C h s=>by
    rw [List.nil_append] at s
    exact xmq (vaz hT hs hz hzs hzl hw0 hw5 hb hx hy hn hb2 s) fun _ _ ⟨v,e,X,o,s'⟩=>⟨v,e,X,hq v X o,s'⟩
theorem wwj {T T':TypeId} {x y:Operand} {b off:Nat} {cs' cs2:List Value} {v:Value} {q:Value→Pcs→Prop} (hm:Met ops tm ⟨none,.store T x y,ty,pos,aft,gd⟩ true) (hs:sizeT P T=some 1)
    (hx:evl tm x= .pointer (some ⟨b,off,none⟩)) (hy:evl tm y=v) (hv:v.cells=#[v]∧isOne v=true) (hlen:off<cs'.length) (h2:cs'.set off v=cs2)
    (hq:q undef [(b,.cells cs2.toArray T' (0,0))]):Mix P md ops tm h₀ B₀ p A ([(b,.cells cs'.toArray T' (0,0))]++[]) q ⟨none,.store T x y,ty,pos,aft,gd⟩:=
  vhj hm hs hx hy (by rw [hv.1];rfl) (by rw [hv.1];simp [hv.2]) (by rw [hv.1];exact hlen) (by rw [hv.1];simpa [setl] using h2) hq
end
end Go.X
namespace Go.Proofs.YtalfgojocdonhaaDoor
open Go.X Go.X.Flow Go.Conc
set_option maxRecDepth 10000
set_option synthInstance.maxSize 2000

set_option maxHeartbeats 4000000
open Go.X.Bf (sweeps lab0 rel a0 far Chain)
theorem c97 (md:Md) (h:Heap) (p:PHeap) (hp:Per p h) (a1 a2 a3:Option Addr) (c1 c2 c3:Nat) (t:Tn) (T:TownP p a1 t.nH a2 t.nW a3 t.m t) (O:OkT t) (wi:Wi) (b:Option Addr) (cb:Nat) (d:List Int) (D:Ints p b t.m d) (Dv:Div t d) (S:Sg wi) (bt:Nat) (hb:p bt=some (.cells #[.slice a1 t.nH c1,.slice a2 t.nW c2,.slice a3 t.m c3,.int .i64 (wi.house),.int .i64 (wi.well),.int .i64 (wi.sign),.slice b t.m cb] 94 (0,0))) (G:Flow.Good t wi d):CallsX Tryd.prog md 97 #[.pointer (some ⟨bt,0,none⟩)] h fun v h'=>∃ w X,v= .tuple #[w,.int .i64 (costL t wi d)]∧OwnS 99 5 w (acs (pathL t wi d)) X∧New h h' X:=by
 refine xcw (Φ:=fun h_=>St h [] p h_ []) Tryd.func97 rfl (tm:=zq2 (zq4 (zq16 (zq32 (zq32 (zq32 [])))))) rfl ?_ (St.start h _ hp)
 intro c₀ cs Stop K
 have oH:=O.nh
 have oW:=O.nw
 have oM:=O.nm
 refine fsr <| ro (xax (v:=.slice none 0 0) rfl) <| ro (xax (v:=.int .i64 0) rfl) <| ren ?_
 refine xfw 12 [[],[0],[0,1],[0,1,2],[0,1,2,3],[0,1,2,3,4],[],[6],[6,7],[6,7,8],[6,7,8,9],[6,7,8,9,10],[0,1,2,3,4,5,6,7,8,9,10,11],[],[]] xlq (by kernel_rfl) (Nat.le_of_ble_eq_true rfl) ?_
 refine wo (xaq (v:=.pointer (some ⟨bt,0,none⟩)) rfl) <| wt (xhk rfl) (tm':=zq1 (zq4 (zq8 _))) rfl <| wo (xaz ycz rfl (a':=⟨bt,0,none⟩) rfl) <| wt (xaz xnj rfl (a':=⟨bt,1,none⟩) rfl) (tm':=zq1 (zq2 (zq4 (zq8 _)))) rfl <| wd (fun h_ H_=>xbv H_ tA22 rfl (v:=.slice a2 t.nW c2) (xkx hb rfl)) <| wt (xfk Tryd.underlying22 rfl) (tm':=zq1 (zq16 _)) rfl ?_
 refine wo (xaq (v:=.pointer (some ⟨bt,0,none⟩)) rfl) <| wt (xhk rfl) (tm':=zq1 (zq2 (zq16 _))) rfl <| wo (xaz ycz rfl (a':=⟨bt,0,none⟩) rfl) <| wt (xaz xmz rfl (a':=⟨bt,0,none⟩) rfl) (tm':=zq1 (zq4 (zq16 _))) rfl <| wd (fun h_ H_=>xbv H_ tA22 rfl (v:=.slice a1 t.nH c1) (xkx hb rfl)) <| wt (xfk Tryd.underlying22 rfl) (tm':=zq1 (zq2 (zq4 (zq16 _)))) rfl ?_
 refine xiz rfl ?_
 refine rt (xfx rfl rfl (n:=((t.nW+t.nH:Nat):Int)) (wr (by omega))) (tm':=zq8 (zq16 _)) rfl ?_
 refine ro (xfx rfl rfl (n:=(((t.nW+t.nH)+2:Nat):Int)) (wr (by omega))) ?_
 refine ro (xax (v:=.int .i64 ((((t.nW+t.nH)+2:Nat):Int))) rfl) <| ren ?_
 obtain ⟨Gb3,hG4_⟩:=sk1 (fun (v_:Value) (x_:Pcs) (b3:Nat)=>v_= .pointer (some ⟨b3,0,none⟩)∧x_=(([(b3,.cells #[.slice none 0 0] 22 (0,0))]:Pcs)++[]))
 obtain ⟨Gb4,hG5_⟩:=sk1 (fun (v_:Value) (x_:Pcs) (b4:Nat)=>v_= .pointer (some ⟨b4,0,none⟩)∧x_=(([(b4,.cells #[.slice none 0 0] 95 (0,0))]:Pcs)++[]))
 refine ybx (xnq (C:=[]) (A:=([]:Pcs)) 7 [] [] [1,3,5,6] [0,2] (fun _=>[]) (fun i_=>match i_ with | 6=>[4] | _=>[]) (fun i_=>match i_ with | 0=>[] | 1=>[0] | 2=>[] | 3=>[2] | 4=>[] | 5=>[] | 6=>[0,1,4,5] | _=>[]) (fun i_ val_ pc_ v_ x_=>match i_ with | 0=>v_= .int .i64 ((((t.nW+t.nH)+2:Nat):Int))∧x_=[] | 1=>OwnS 3 1 v_ (ics (List.replicate (t.nW+t.nH+2) (0:Int))) x_ | 2=>v_= .int .i64 ((((t.nW+t.nH)+2:Nat):Int))∧x_=[] | 3=>OwnS 99 5 v_ (acs (List.replicate (t.nW+t.nH+2) Go.X.Bf.a0)) x_ | 4=>∃ b3:Nat,v_= .pointer (some ⟨b3,0,none⟩)∧x_=(([(b3,.cells #[.slice none 0 0] 22 (0,0))]:Pcs)++[]) | 5=>∃ b4:Nat,v_= .pointer (some ⟨b4,0,none⟩)∧x_=(([(b4,.cells #[.slice none 0 0] 95 (0,0))]:Pcs)++[]) | 6=>v_=undef∧x_=[((Gb3 (val_ 4) (pc_ 4)),.cells #[(val_ 1)] 22 (0,0))] | _=>True) (fun val1=>(.pointer (some ⟨bt,0,none⟩)::undef::.slice none 0 0::.int .i64 0::.int .i64 ((((t.nW+t.nH)+2:Nat):Int))::(val1 4)::(val1 5)::zu4 (.pointer (some ⟨bt,0,none⟩)::.pointer (some ⟨bt,0,none⟩)::.pointer (some ⟨bt,0,none⟩)::.pointer (some ⟨bt,1,none⟩)::.slice a2 t.nW c2::.int .i64 (((t.nW:Nat):Int))::.pointer (some ⟨bt,0,none⟩)::.pointer (some ⟨bt,0,none⟩)::.pointer (some ⟨bt,0,none⟩)::.pointer (some ⟨bt,0,none⟩)::.slice a1 t.nH c1::.int .i64 (((t.nH:Nat):Int))::.int .i64 (((t.nW+t.nH:Nat):Int))::.int .i64 ((((t.nW+t.nH)+2:Nat):Int))::(val1 0)::(val1 1)::(val1 2)::(val1 3)::undef::zu8 (zu16 (zu16 (zu16 (zu16 (zu16 [])))))))) xlq (by kernel_rfl) (Nat.le_of_ble_eq_true rfl) (by kernel_rfl) (by kernel_rfl) (by kernel_rfl) (fun _ _=>⟨fun _ _ h=>h.2,⟨fun _ _ h=>h.2,trivial⟩⟩) (fun _=>by kernel_rfl) (by kernel_rfl) ?_ ?_) (fun h_ H_=>St.swap (A:=([]:Pcs)) (U:=[]) H_)
 ·
  refine xbx rfl (xez ?_) ?_
  ·
   intro val1 pc2 hQ_ hX_
   obtain ⟨q_,hq0_⟩: ∃ q_:Value→Pcs→Prop,q_=(fun v_ x_=>v_= .int .i64 ((((t.nW+t.nH)+2:Nat):Int))∧x_=[]):=⟨_,rfl⟩
   refine ⟨(zq2 (zq4 (zq16 (zq32 (zq32 (zq32 [])))))),[],q_,rfl,rfl,(fun _ _ z_=>by subst hq0_;exact z_),?_⟩
   subst hq0_
   exact xdw mn (fun _ h_ H_=>xaq (v:=.int .i64 ((((t.nW+t.nH)+2:Nat):Int))) rfl) ⟨rfl,rfl⟩
  refine xbx rfl (xez ?_) ?_
  ·
   intro val1 pc2 hQ_ hX_
   have e0_:val1 0= .int .i64 ((((t.nW+t.nH)+2:Nat):Int)):=(hQ_ 0 rfl).1
   obtain ⟨q_,hq0_⟩: ∃ q_:Value→Pcs→Prop,q_=(fun v_ x_=>OwnS 3 1 v_ (ics (List.replicate (t.nW+t.nH+2) (0:Int))) x_):=⟨_,rfl⟩
   refine ⟨(zq2 (zq4 (zq16 (zq32 (zq32 (zq32 [])))))),[],q_,(by rw [e0_]),rfl,(fun _ _ z_=>by subst hq0_;exact z_),?_⟩
   subst hq0_
   exact ywx (n:=(t.nW+t.nH)+2) (zc:=[.int .i64 0]) mn Tryd.underlying22 tS3 tZ3 rfl rfl (by decide) (by decide) tB3 rfl rfl (by omega) (by decide) fun _ _ o_=>o_.as (wkk _)
  refine xbx rfl (xez ?_) ?_
  ·
   intro val1 pc2 hQ_ hX_
   obtain ⟨q_,hq0_⟩: ∃ q_:Value→Pcs→Prop,q_=(fun v_ x_=>v_= .int .i64 ((((t.nW+t.nH)+2:Nat):Int))∧x_=[]):=⟨_,rfl⟩
   refine ⟨(zq2 (zq4 (zq16 (zq32 (zq32 (zq32 [])))))),[],q_,rfl,rfl,(fun _ _ z_=>by subst hq0_;exact z_),?_⟩
   subst hq0_
   exact xdw mn (fun _ h_ H_=>xaq (v:=.int .i64 ((((t.nW+t.nH)+2:Nat):Int))) rfl) ⟨rfl,rfl⟩
  refine xbx rfl (xez ?_) ?_
  ·
   intro val1 pc2 hQ_ hX_
   have e2_:val1 2= .int .i64 ((((t.nW+t.nH)+2:Nat):Int)):=(hQ_ 2 rfl).1
   obtain ⟨q_,hq0_⟩: ∃ q_:Value→Pcs→Prop,q_=(fun v_ x_=>OwnS 99 5 v_ (acs (List.replicate (t.nW+t.nH+2) Go.X.Bf.a0)) x_):=⟨_,rfl⟩
   refine ⟨(zq2 (zq4 (zq16 (zq32 (zq32 (zq32 [])))))),[],q_,(by rw [e2_]),rfl,(fun _ _ z_=>by subst hq0_;exact z_),?_⟩
   subst hq0_
   exact ywx (n:=(t.nW+t.nH)+2) (zc:=[.int .i64 0,.int .i64 0,.int .i64 0,.int .i64 0,.int .i64 0]) mn Tryd.underlying95 tS99 tZ99 rfl rfl (by decide) (by decide) tB99 rfl rfl (by omega) (by decide) fun _ _ o_=>o_.as (vgw _)
  refine xbx rfl (xez ?_) ?_
  ·
   intro val1 pc2 hQ_ hX_
   obtain ⟨q_,hq0_⟩: ∃ q_:Value→Pcs→Prop,q_=(fun v_ x_=>∃ b3:Nat,v_= .pointer (some ⟨b3,0,none⟩)∧x_=(([(b3,.cells #[.slice none 0 0] 22 (0,0))]:Pcs)++[])):=⟨_,rfl⟩
   refine ⟨(zq2 (zq4 (zq16 (zq32 (zq32 (zq32 [])))))),[],q_,rfl,rfl,(fun _ _ z_=>by subst hq0_;exact z_),?_⟩
   subst hq0_
   exact zmj mn tZ22 rfl fun b_=>⟨b_,rfl,rfl⟩
  refine xbx rfl (xez ?_) ?_
  ·
   intro val1 pc2 hQ_ hX_
   obtain ⟨q_,hq0_⟩: ∃ q_:Value→Pcs→Prop,q_=(fun v_ x_=>∃ b4:Nat,v_= .pointer (some ⟨b4,0,none⟩)∧x_=(([(b4,.cells #[.slice none 0 0] 95 (0,0))]:Pcs)++[])):=⟨_,rfl⟩
   refine ⟨(zq2 (zq4 (zq16 (zq32 (zq32 (zq32 [])))))),[],q_,rfl,rfl,(fun _ _ z_=>by subst hq0_;exact z_),?_⟩
   subst hq0_
   exact zmj mn tZ95 rfl fun b_=>⟨b_,rfl,rfl⟩
  refine xbx rfl (xez ?_) ?_
  ·
   intro val1 pc2 hQ_ hX_
   have e0_:val1 0= .int .i64 ((((t.nW+t.nH)+2:Nat):Int)):=(hQ_ 0 rfl).1
   have q1_:OwnS 3 1 (val1 1) (ics (List.replicate (t.nW+t.nH+2) (0:Int))) (pc2 1):=hQ_ 1 rfl
   obtain ⟨e4_,x4_⟩:=hG4_ _ _ (hQ_ 4 rfl)
   obtain ⟨e5_,x5_⟩:=hG5_ _ _ (hQ_ 5 rfl)
   generalize hg_b3:Gb3 (val1 4) (pc2 4)=b3 at*
   generalize hg_b4:Gb4 (val1 5) (pc2 5)=b4 at*
   obtain ⟨q_,hq0_⟩: ∃ q_:Value→Pcs→Prop,q_=(fun v_ x_=>v_=undef∧x_=[(b3,.cells #[(val1 1)] 22 (0,0))]):=⟨_,rfl⟩
   refine ⟨(zq2 (zq4 (zq16 (zq32 (zq32 (zq32 [])))))),((([(b3,.cells #[.slice none 0 0] 22 (0,0))]:Pcs)++[])++[]),q_,(by rw [e0_,e4_,e5_]),(by rw [← x4_];rfl),(fun _ _ z_=>by subst hq0_ hg_b3 hg_b4;exact z_),?_⟩
   subst hq0_
   exact wwj mn tS22 rfl (v:=(val1 1)) rfl q1_.one (Nat.succ_le_iff.1 (Nat.le_of_ble_eq_true rfl)) (cs2:=[(val1 1)]) rfl ⟨rfl,rfl⟩
  exact xmw rfl
 intro val1 pc2 hQ_ hX_
 have e0_:val1 0= .int .i64 ((((t.nW+t.nH)+2:Nat):Int)):=(hQ_ 0 (by decide)).1
 have q1_:OwnS 3 1 (val1 1) (ics (List.replicate (t.nW+t.nH+2) (0:Int))) (pc2 1):=hQ_ 1 (by decide)
 have e2_:val1 2= .int .i64 ((((t.nW+t.nH)+2:Nat):Int)):=(hQ_ 2 (by decide)).1
 have q3_:OwnS 99 5 (val1 3) (acs (List.replicate (t.nW+t.nH+2) Go.X.Bf.a0)) (pc2 3):=hQ_ 3 (by decide)
 obtain ⟨e4_,x4_⟩:=hG4_ _ _ (hQ_ 4 (by decide))
 obtain ⟨e5_,x5_⟩:=hG5_ _ _ (hQ_ 5 (by decide))
 have x6_:pc2 6=[((Gb3 (val1 4) (pc2 4)),.cells #[(val1 1)] 22 (0,0))]:=(hQ_ 6 (by decide)).2
 clear hQ_ hX_
 generalize Gb3 (val1 4) (pc2 4)=b3 at*
 generalize Gb4 (val1 5) (pc2 5)=b4 at*
 refine yax (Φ:=fun h_=>St h [] p h_ (([]:Pcs)++(pc2 1++(pc2 3++(pc2 5++(pc2 6++[])))))) ?_ (fun h_ H_=>H_.swap')
 rw [x5_,x6_]
 refine xcj (L':=([]:Pcs)++((pc2 1)++((pc2 3)++(([(b4,.cells #[.slice none 0 0] 95 (0,0))]:Pcs)++(([(b3,.cells #[(val1 1)] 22 (0,0))]:Pcs)++[]))))) (by simp) ?_
 refine xgx (tm':=(zq2 (zq4 (zq16 (zq32 (zq32 (zq32 []))))))) (by rw [e0_,e2_,e4_,e5_]) ?_
 refine xcj (L':=([]:Pcs)++((pc2 1)++((pc2 3)++(([(b4,.cells #[.slice none 0 0] 95 (0,0))]:Pcs)++(([(b3,.cells #[(val1 1)] 22 (0,0))]:Pcs)++[]))))) rfl ?_
 refine xlw (List.Perm.append_left _ (List.Perm.append_left _ (List.perm_append_comm_assoc _ _ _))) ?_
 refine xlw (List.Perm.append_left _ (List.perm_append_comm_assoc _ _ _)) ?_
 refine xcj (L':=([]:Pcs)++(([(b4,.cells #[.slice none 0 0] 95 (0,0))]:Pcs)++((pc2 1)++((pc2 3)++(([(b3,.cells #[(val1 1)] 22 (0,0))]:Pcs)++[]))))) rfl ?_
 refine xlw (List.perm_append_comm_assoc ([]:Pcs) ([(b4,.cells #[.slice none 0 0] 95 (0,0))]:Pcs) _) ?_
 refine xcj (L':=([(b4,.cells #[.slice none 0 0] 95 (0,0))]:Pcs)++((pc2 1)++((pc2 3)++(([(b3,.cells #[(val1 1)] 22 (0,0))]:Pcs)++[])))) rfl ?_
 refine xcj (L':=([(b4,.cells #[.slice none 0 0] 95 (0,0))]:Pcs)++((pc2 1)++((pc2 3)++(([(b3,.cells #[(val1 1)] 22 (0,0))]:Pcs)++[])))) rfl ?_
 refine xlw (List.Perm.append_left _ (List.Perm.append_left _ (List.perm_append_comm_assoc _ _ _))) ?_
 refine xlw (List.Perm.append_left _ (List.perm_append_comm_assoc _ _ _)) ?_
 refine xcj (L':=([(b4,.cells #[.slice none 0 0] 95 (0,0))]:Pcs)++(([(b3,.cells #[(val1 1)] 22 (0,0))]:Pcs)++((pc2 1)++((pc2 3)++[])))) rfl ?_
 refine xlw (List.perm_append_comm_assoc ([(b4,.cells #[.slice none 0 0] 95 (0,0))]:Pcs) ([(b3,.cells #[(val1 1)] 22 (0,0))]:Pcs) _) ?_
 refine xcj (L':=([(b3,.cells #[(val1 1)] 22 (0,0)),(b4,.cells #[.slice none 0 0] 95 (0,0))]:Pcs)++((pc2 1)++((pc2 3)++[]))) rfl ?_
 have o7:=q1_
 have o8:=q3_
 refine xpv mn tS95 rfl (v:=(val1 3)) rfl o8.one (i:=1) rfl (Nat.succ_le_iff.1 (Nat.le_of_ble_eq_true rfl)) (cs2:=[(val1 3)]) rfl (xcj (L':=([(b3,.cells #[(val1 1)] 22 (0,0)),(b4,.cells #[(val1 3)] 95 (0,0))]:Pcs)++((pc2 1)++((pc2 3)++[]))) rfl ?_)
 refine ren <| fsr <| rd (fun h_ H_=>xaj H_ tA22 rfl (i:=0) rfl (v:=(val1 1)) rfl) <| ro (xuz o7 ((xck _).trans (List.length_replicate ..)) Tryd.underlying22 rfl) <| rt (xaq (v:=.int .i64 0) rfl) (tm':=zq32 _) rfl <| xak ?_
 refine xek ?_
 refine xiv (m₀:=(t.nW+t.nH+2)-0) (fun m_ tm_ h_=>∃ (k:Nat) (X1:Pcs),m_=(t.nW+t.nH+2)-k∧(∃ y9:Nat→Value,tm_=(.pointer (some ⟨bt,0,none⟩)::undef::.slice none 0 0::.int .i64 0::.int .i64 ((((t.nW+t.nH)+2:Nat):Int))::.pointer (some ⟨b3,0,none⟩)::.pointer (some ⟨b4,0,none⟩)::(y9 7)::undef::undef::undef::.pointer (some ⟨bt,0,none⟩)::.pointer (some ⟨bt,0,none⟩)::.pointer (some ⟨bt,0,none⟩)::.pointer (some ⟨bt,1,none⟩)::.slice a2 t.nW c2::.int .i64 (((t.nW:Nat):Int))::.pointer (some ⟨bt,0,none⟩)::.pointer (some ⟨bt,0,none⟩)::.pointer (some ⟨bt,0,none⟩)::.pointer (some ⟨bt,0,none⟩)::.slice a1 t.nH c1::.int .i64 (((t.nH:Nat):Int))::.int .i64 (((t.nW+t.nH:Nat):Int))::.int .i64 ((((t.nW+t.nH)+2:Nat):Int))::.int .i64 ((((t.nW+t.nH)+2:Nat):Int))::(val1 1)::.int .i64 ((((t.nW+t.nH)+2:Nat):Int))::(val1 3)::(val1 1)::.int .i64 ((((t.nW+t.nH+2):Nat):Int))::.int .i64 (((k:Nat):Int))::(y9 32)::(y9 33)::(y9 34)::(y9 35)::(y9 36)::(y9 37)::zu16 (zu16 (zu16 (zu16 (zu16 []))))))∧(k≤(t.nW+t.nH+2))∧(OwnS 3 1 (val1 1) (ics (fillK k (t.nW+t.nH+2))) X1)∧St h [] p h_ (([(b3,.cells #[(val1 1)] 22 (0,0)),(b4,.cells #[(val1 3)] 95 (0,0))]:Pcs)++(X1++((pc2 3)++[])))) (fun h_ H_=>⟨0,(pc2 1),rfl,(y_of rfl),Nat.zero_le _,(o7.as (by simp [fillK])),H_⟩) ?_
 intro m_ tm_ IH10
 refine xij fun k=>xij fun X1=>xdz fun hm_=>xdz fun ht_=>xdz fun hk=>xdz fun o1=>?_
 subst hm_;obtain ⟨y9,ht_⟩:=ht_;subst ht_
 refine fsr <| ro (xgw rfl rfl) <| ren ?_
 by_cases cc11:((k:Nat):Int)<(((t.nW+t.nH+2):Nat):Int)
 ·
  refine xdk rfl (dtt cc11) <| xdq <| xej <| xek <| fsr <| ro (xaq (v:=.int .i64 (((k:Nat):Int))) rfl) ?_
  refine rt (xax (v:=.int .i64 (((k:Nat):Int))) rfl) (tm':=zq8 _) rfl <| xak <| xbq <| rd (fun h_ H_=>xaj H_ tA22 rfl (i:=0) rfl (v:=(val1 1)) rfl) <| ro (xaq (v:=.int .i64 (((k:Nat):Int))) rfl) ?_
  refine rt (xhz o1 Tryd.underlying22 tS3 rfl rfl (by rw [((xck _).trans (ylq (by omega)))];first | omega | (simp only [List.length_set];omega))) (tm':=zq1 (zq4 (zq32 _))) rfl ?_
  refine xsz (A:=([(b3,.cells #[(val1 1)] 22 (0,0)),(b4,.cells #[(val1 3)] 95 (0,0))]:Pcs)) (i:=k) (j:=0) (e:=[.int .i64 ((fillK k (t.nW+t.nH+2)).getD k 0)]) (u:=.int .i64 1152921504606846976) o1 mn tS3 rfl rfl rfl ⟨rfl,rfl⟩ (xpj (by rw [ylq (by omega)];omega)) (Nat.succ_le_iff.1 (Nat.le_of_ble_eq_true rfl)) fun X12 o13=>?_
  have o14:OwnS 3 1 (val1 1) (ics ((fillK k (t.nW+t.nH+2)).set k (1152921504606846976))) X12:=o13.as xwj
  refine xak <| xeq <| xbq ?_
  refine ro (xfx rfl rfl (n:=((k+1:Nat):Int)) (wr (by omega))) ?_
  refine ro (xaq (v:=.int .i64 (((k+1:Nat):Int))) rfl) <| xak ?_
  exact fun h_ H_=>IH10 _ _ (by omega) h_ ⟨k+1,X12,rfl,(y_of rfl),(by omega),(o14.as (by rw [wfj (by omega)])),H_⟩
 ·
  refine xcv rfl (dff cc11) <| xiq rfl <| fsr ?_
  refine xaw mn (fun h_ H_=>xaj H_ tA22 rfl (i:=0) rfl (v:=(val1 1)) rfl) (tm':=zq1 (zq2 (zq4 (zq32 _)))) rfl ?_
  refine ro (xaq (v:=.int .i64 ((((t.nW+t.nH)+2:Nat):Int))) rfl) ?_
  refine ro (xkw rfl rfl (n:=((((t.nW+t.nH)+2)-2:Nat):Int)) (by rw [show (((t.nW+t.nH)+2:Nat):Int)-2=((((t.nW+t.nH)+2)-2:Nat):Int) from by omega];exact wr (by omega))) ?_
  refine rt (xhz o1 Tryd.underlying22 tS3 rfl rfl (by rw [((xck _).trans (ylq (by omega)))];first | omega | (simp only [List.length_set];omega))) (tm':=zq2 (zq8 (zq32 _))) rfl ?_
  refine xsz (A:=([(b3,.cells #[(val1 1)] 22 (0,0)),(b4,.cells #[(val1 3)] 95 (0,0))]:Pcs)) (i:=((t.nW+t.nH)+2)-2) (j:=0) (e:=[.int .i64 ((fillK k (t.nW+t.nH+2)).getD (((t.nW+t.nH)+2)-2) 0)]) (u:=.int .i64 0) o1 mn tS3 rfl rfl rfl ⟨rfl,rfl⟩ (xpj (by rw [ylq (by omega)];omega)) (Nat.succ_le_iff.1 (Nat.le_of_ble_eq_true rfl)) fun X15 o16=>?_
  have o17:OwnS 3 1 (val1 1) (ics ((fillK k (t.nW+t.nH+2)).set (((t.nW+t.nH)+2)-2) (0))) X15:=o16.as xwj
  refine ren <| fsr <| ro (xaq (v:=.int .i64 ((((t.nW+t.nH)+2:Nat):Int))) rfl) <| ro (xaq (v:=.int .i64 0) rfl) <| xak <| xek ?_
  refine wyk (rs₀:=[]) (m₀:=(t.nW+t.nH+2)-0) (fun m_ rs_ tm_ h_=>∃ (j:Nat) (X1:Pcs) (X2:Pcs) (rs:List Nat),rs_=rs∧m_=(t.nW+t.nH+2)-j∧(∃ y18:Nat→Value,tm_=(.pointer (some ⟨bt,0,none⟩)::undef::.slice none 0 0::.int .i64 0::.int .i64 ((((t.nW+t.nH)+2:Nat):Int))::.pointer (some ⟨b3,0,none⟩)::.pointer (some ⟨b4,0,none⟩)::(y9 7)::(y18 8)::undef::undef::.pointer (some ⟨bt,0,none⟩)::.pointer (some ⟨bt,0,none⟩)::.pointer (some ⟨bt,0,none⟩)::.pointer (some ⟨bt,1,none⟩)::.slice a2 t.nW c2::.int .i64 (((t.nW:Nat):Int))::.pointer (some ⟨bt,0,none⟩)::.pointer (some ⟨bt,0,none⟩)::.pointer (some ⟨bt,0,none⟩)::.pointer (some ⟨bt,0,none⟩)::.slice a1 t.nH c1::.int .i64 (((t.nH:Nat):Int))::.int .i64 (((t.nW+t.nH:Nat):Int))::.int .i64 ((((t.nW+t.nH)+2:Nat):Int))::.int .i64 ((((t.nW+t.nH)+2:Nat):Int))::(val1 1)::.int .i64 ((((t.nW+t.nH)+2:Nat):Int))::(val1 3)::(val1 1)::.int .i64 ((((t.nW+t.nH+2):Nat):Int))::.int .i64 (((k:Nat):Int))::.bool (decide (((k:Nat):Int)<(((t.nW+t.nH+2):Nat):Int)))::(y9 33)::(y9 34)::(y9 35)::(y9 36)::(y9 37)::(val1 1)::.int .i64 ((((t.nW+t.nH)+2:Nat):Int))::.int .i64 (((((t.nW+t.nH)+2)-2:Nat):Int))::.pointer (some ((adrV (val1 1)).add ((((t.nW+t.nH)+2)-2)*1)))::.int .i64 ((((t.nW+t.nH)+2:Nat):Int))::.int .i64 (((j:Nat):Int))::(y18 44)::(y18 45)::(y18 46)::undef::(y18 48)::(y18 49)::(y18 50)::(y18 51)::(y18 52)::(y18 53)::(y18 54)::(y18 55)::(y18 56)::(y18 57)::(y18 58)::(y18 59)::(y18 60)::(y18 61)::(y18 62)::(y18 63)::(y18 64)::(y18 65)::(y18 66)::(y18 67)::(y18 68)::(y18 69)::(y18 70)::(y18 71)::(y18 72)::(y18 73)::(y18 74)::(y18 75)::(y18 76)::(y18 77)::(y18 78)::(y18 79)::(y18 80)::(y18 81)::(y18 82)::(y18 83)::(y18 84)::(y18 85)::(y18 86)::(y18 87)::undef::undef::zu4 (zu8 (zu16 []))))∧(j≤(t.nW+t.nH+2))∧(OwnS 3 1 (val1 1) (ics (sweeps (arcsL t wi d) j (lab0 (t.nW+t.nH+2) t.sp)).c) X1)∧(OwnS 99 5 (val1 3) (acs (sweeps (arcsL t wi d) j (lab0 (t.nW+t.nH+2) t.sp)).b) X2)∧(LabB (sweeps (arcsL t wi d) j (lab0 (t.nW+t.nH+2) t.sp)) (48*j))∧St h [] p h_ (([(b3,.cells #[(val1 1)] 22 (0,0)),(b4,.cells #[(val1 3)] 95 (0,0))]:Pcs)++(X1++(X2++((marksP rs)++[]))))) (fun h_ H_=>⟨0,X15,(pc2 3),[],rfl,rfl,(y_of rfl),Nat.zero_le _,(o17.as (by rw [show k=(t.nW+t.nH+2) from by omega,wpw];rfl)),(o8.as rfl),LabB.start,H_⟩) ?_
  intro m_ rs_ tm_ IH19
  refine xij fun j=>xij fun X1=>xij fun X2=>xij fun rs=>xdz fun hr_=>xdz fun hm_=>xdz fun ht_=>xdz fun hj=>xdz fun o1=>xdz fun o2=>xdz fun hlb=>?_
  have hr_:=hr_.symm;subst hr_
  subst hm_;obtain ⟨y18,ht_⟩:=ht_;subst ht_
  refine fsr <| rt (xgw rfl rfl) (tm':=zq1 (zq4 (zq8 (zq32 _)))) rfl <| ren ?_
  by_cases cc20:((j:Nat):Int)<(((t.nW+t.nH)+2:Nat):Int)
  ·
   refine xdk rfl (dtt cc20) <| xdq <| xej <| xek <| fsr <| ro (xaq (v:=.pointer (some ⟨bt,0,none⟩)) rfl) ?_
   refine ro (xvw (a:=[.pointer (some ⟨bt,0,none⟩)]) (b:=[]) rfl rfl) <| xak <| xek ?_
   refine wyz (R:=fun r_ l_ lp_ _ h_=>∃ X_,(∃ Y1:Pcs,∃ Y2:Pcs,X_=([(l_,.loop lp_),(r_,.deferred (some [])),(b3,.cells #[(val1 1)] 22 (0,0)),(b4,.cells #[(val1 3)] 95 (0,0))]:Pcs)++(Y1++(Y2++((marksP rs)++[])))∧(OwnS 3 1 (val1 1) (ics (((arcsL t wi d)).foldl rel (sweeps (arcsL t wi d) j (lab0 (t.nW+t.nH+2) t.sp))).c) Y1)∧(OwnS 99 5 (val1 3) (acs (((arcsL t wi d)).foldl rel (sweeps (arcsL t wi d) j (lab0 (t.nW+t.nH+2) t.sp))).b) Y2)∧(LabB (((arcsL t wi d)).foldl rel (sweeps (arcsL t wi d) j (lab0 (t.nW+t.nH+2) t.sp))) (48*j+((arcsL t wi d)).length)))∧St h [] p h_ X_) ?_ ?_
   ·
    intro r_ l_ lp_ h_ hlp_ s_
    show CallV _ md (.func (.func 106) ([.pointer (some ⟨bt,0,none⟩)]:List Value).toArray ([]:List Value).toArray) _ h_ _
    refine xzv fC106 ?_
    refine c106 md _ _ _ _ _ _ _ _ _ _ t T O wi _ _ d D Dv S bt hb (.func (.yield l_) #[] #[]) _ (fun rd_ X_=>∃ Y1:Pcs,∃ Y2:Pcs,X_=([(l_,.loop lp_),(r_,.deferred (some [])),(b3,.cells #[(val1 1)] 22 (0,0)),(b4,.cells #[(val1 3)] 95 (0,0))]:Pcs)++(Y1++(Y2++((marksP rs)++[])))∧(OwnS 3 1 (val1 1) (ics ((rd_).foldl rel (sweeps (arcsL t wi d) j (lab0 (t.nW+t.nH+2) t.sp))).c) Y1)∧(OwnS 99 5 (val1 3) (acs ((rd_).foldl rel (sweeps (arcsL t wi d) j (lab0 (t.nW+t.nH+2) t.sp))).b) Y2)∧(LabB ((rd_).foldl rel (sweeps (arcsL t wi d) j (lab0 (t.nW+t.nH+2) t.sp))) (48*j+(rd_).length))) _ rfl ⟨_,_,rfl,o1,o2,hlb⟩ ?_ (St.nil2 s_)
    intro rd_ x_ h_ Z_ X_ hi_ hI_ s_
    obtain ⟨Y1,Y2,rfl,q1,q2,hb_⟩:=hI_
    refine zuq (Φ:=fun h_=>St h [] p h_ (([(l_,.loop lp_),(r_,.deferred (some [])),(b3,.cells #[(val1 1)] 22 (0,0)),(b4,.cells #[(val1 3)] 95 (0,0))]:Pcs)++(Y1++(Y2++((marksP rs)++(Z_++[])))))) (s_.rot.at (i:=0) rfl) hlp_ rfl (tm':=(.pointer (some ⟨bt,0,none⟩)::undef::.slice none 0 0::.int .i64 0::.int .i64 ((((t.nW+t.nH)+2:Nat):Int))::.pointer (some ⟨b3,0,none⟩)::.pointer (some ⟨b4,0,none⟩)::(y9 7)::(y18 8)::undef::undef::.pointer (some ⟨bt,0,none⟩)::.pointer (some ⟨bt,0,none⟩)::.pointer (some ⟨bt,0,none⟩)::.pointer (some ⟨bt,1,none⟩)::.slice a2 t.nW c2::.int .i64 (((t.nW:Nat):Int))::.pointer (some ⟨bt,0,none⟩)::.pointer (some ⟨bt,0,none⟩)::.pointer (some ⟨bt,0,none⟩)::.pointer (some ⟨bt,0,none⟩)::.slice a1 t.nH c1::.int .i64 (((t.nH:Nat):Int))::.int .i64 (((t.nW+t.nH:Nat):Int))::.int .i64 ((((t.nW+t.nH)+2:Nat):Int))::.int .i64 ((((t.nW+t.nH)+2:Nat):Int))::(val1 1)::.int .i64 ((((t.nW+t.nH)+2:Nat):Int))::(val1 3)::(val1 1)::.int .i64 ((((t.nW+t.nH+2):Nat):Int))::.int .i64 (((k:Nat):Int))::.bool (decide (((k:Nat):Int)<(((t.nW+t.nH+2):Nat):Int)))::(y9 33)::(y9 34)::(y9 35)::(y9 36)::(y9 37)::(val1 1)::.int .i64 ((((t.nW+t.nH)+2:Nat):Int))::.int .i64 (((((t.nW+t.nH)+2)-2:Nat):Int))::.pointer (some ((adrV (val1 1)).add ((((t.nW+t.nH)+2)-2)*1)))::.int .i64 ((((t.nW+t.nH)+2:Nat):Int))::.int .i64 (((j:Nat):Int))::.bool (decide (((j:Nat):Int)<(((t.nW+t.nH)+2:Nat):Int)))::.pointer (some ⟨bt,0,none⟩)::(.func (.func 106) #[.pointer (some ⟨bt,0,none⟩)] #[])::.agg #[.int .i64 (((x_.fr:Nat):Int)),.int .i64 (((x_.to:Nat):Int)),.int .i64 (x_.cost),.int .i64 (x_.way),.int .i64 (x_.more)]::(y18 48)::(y18 49)::(y18 50)::(y18 51)::(y18 52)::(y18 53)::(y18 54)::(y18 55)::(y18 56)::(y18 57)::(y18 58)::(y18 59)::(y18 60)::(y18 61)::(y18 62)::(y18 63)::(y18 64)::(y18 65)::(y18 66)::(y18 67)::(y18 68)::(y18 69)::(y18 70)::(y18 71)::(y18 72)::(y18 73)::(y18 74)::(y18 75)::(y18 76)::(y18 77)::(y18 78)::(y18 79)::(y18 80)::(y18 81)::(y18 82)::(y18 83)::(y18 84)::(y18 85)::(y18 86)::(y18 87)::undef::undef::zu4 (zu8 (zu16 [])))) rfl ?_ (by simpa using s_.rot)
    intro c₁ cs₁ Stop₁ K₁
    have hm_:x_∈arcsL t wi d:=hi_.subset (by simp)
    have hn_:=yew O.y x_ hm_
    have hcC_:=ysv O.toOk S Dv x_ hm_
    have hc_:=hcC_
    have hl_:=hi_.length_le
    have h48_:=wbz (w:=wi) (d:=d) O.toOk
    have eC_:cC=40353607001:=by decide
    rw [eC_] at hc_
    simp only [List.length_append,List.length_singleton] at hl_
    simp only [nN] at hn_
    refine xbq ?_
    refine xkz mn tZ99 rfl fun b21=>xcj (L':=([(b21,.cells #[.int .i64 0,.int .i64 0,.int .i64 0,.int .i64 0,.int .i64 0] 99 (0,0)),(l_,.loop lp_),(r_,.deferred (some [])),(b3,.cells #[(val1 1)] 22 (0,0)),(b4,.cells #[(val1 3)] 95 (0,0))]:Pcs)++(Y1++(Y2++((marksP rs)++(Z_++[]))))) rfl ?_
    refine xgx (tm':=zq1 (zq8 _)) rfl ?_
    refine xjk mn tS99 rfl (v:=.agg #[.int .i64 (((x_.fr:Nat):Int)),.int .i64 (((x_.to:Nat):Int)),.int .i64 (x_.cost),.int .i64 (x_.way),.int .i64 (x_.more)]) rfl (i:=0) rfl rfl rfl (Nat.le_of_ble_eq_true rfl) (cs2:=[.int .i64 (((x_.fr:Nat):Int)),.int .i64 (((x_.to:Nat):Int)),.int .i64 (x_.cost),.int .i64 (x_.way),.int .i64 (x_.more)]) rfl (xcj (L':=([(b21,.cells #[.int .i64 (((x_.fr:Nat):Int)),.int .i64 (((x_.to:Nat):Int)),.int .i64 (x_.cost),.int .i64 (x_.way),.int .i64 (x_.more)] 99 (0,0)),(l_,.loop lp_),(r_,.deferred (some [])),(b3,.cells #[(val1 1)] 22 (0,0)),(b4,.cells #[(val1 3)] 95 (0,0))]:Pcs)++(Y1++(Y2++((marksP rs)++(Z_++[]))))) rfl ?_)
    refine xak ?_
    refine wyw (i:=1) rfl (by rw [hlp_];rfl) ?_
    refine xkv (L':=([(b21,.cells #[.int .i64 (((x_.fr:Nat):Int)),.int .i64 (((x_.to:Nat):Int)),.int .i64 (x_.cost),.int .i64 (x_.way),.int .i64 (x_.more)] 99 (0,0)),(l_,.loop { lp_ with state:=.busy }),(r_,.deferred (some [])),(b3,.cells #[(val1 1)] 22 (0,0)),(b4,.cells #[(val1 3)] 95 (0,0))]:Pcs)++(Y1++(Y2++((marksP rs)++(Z_++[]))))) rfl ?_
    refine xek <| xej ?_
    by_cases cc22:Go.X.Bf.L ((rd_).foldl rel (sweeps (arcsL t wi d) j (lab0 (t.nW+t.nH+2) t.sp))) x_.fr<1152921504606846976
    ·
     refine xfw 20 [[],[],[1],[0,1,2],[0,1,2,3],[0,1,2,3,4],[0,1,2,3,4,5],[],[],[8],[7,8,9],[7,8,9,10],[],[12],[7,8,9,10,11,12,13],[],[0,1,2,3,4,5],[0,1,2,3,4,5,16],[0,1,2,3,4,5,15,16,17],[0,1,2,3,4,5,15,16,17,18],[0,1,2,3,4,5,7,8,9,10,11,12,13,14,15,16,17,18,19],[]] xlq (by kernel_rfl) (Nat.le_of_ble_eq_true rfl) ?_
     refine wd (fun h_ H_=>xaj H_ tA22 rfl (i:=3) rfl (v:=(val1 1)) rfl) <| wt (xaz zjx rfl (a':=⟨b21,0,none⟩) rfl) (tm':=zq2 (zq16 (zq32 _))) rfl <| wd (fun h_ H_=>xaj H_ tA3 rfl (i:=0) rfl (v:=.int .i64 (((x_.fr:Nat):Int))) rfl) ?_
     refine wt (xhz q1 Tryd.underlying22 tS3 rfl rfl (by rw [((xck _).trans lenc)];first | omega | (simp only [List.length_set];omega))) (tm':=zq4 (zq16 (zq32 _))) rfl ?_
     refine wd (fun h_ H_=>xnx (A:=([(b21,.cells #[.int .i64 (((x_.fr:Nat):Int)),.int .i64 (((x_.to:Nat):Int)),.int .i64 (x_.cost),.int .i64 (x_.way),.int .i64 (x_.more)] 99 (0,0)),(l_,.loop { lp_ with state:=.busy }),(r_,.deferred (some [])),(b3,.cells #[(val1 1)] 22 (0,0)),(b4,.cells #[(val1 3)] 95 (0,0))]:Pcs)) (i:=x_.fr) (j:=0) (e:=[.int .i64 (Go.X.Bf.L ((rd_).foldl rel (sweeps (arcsL t wi d) j (lab0 (t.nW+t.nH+2) t.sp))) x_.fr)]) q1 H_ tA3 rfl rfl (ykx (by rw [lenc];omega)) (u:=.int .i64 (Go.X.Bf.L ((rd_).foldl rel (sweeps (arcsL t wi d) j (lab0 (t.nW+t.nH+2) t.sp))) x_.fr)) rfl) ?_
     refine wt (xgw rfl rfl) (tm':=zq2 (zq4 (zq16 (zq32 _)))) rfl <| wo (xaq (v:=.bool (decide (Go.X.Bf.L ((rd_).foldl rel (sweeps (arcsL t wi d) j (lab0 (t.nW+t.nH+2) t.sp))) x_.fr<1152921504606846976))) rfl) ?_
     refine xbz (ms rfl rfl (dtt cc22)) (fun h_ H_=>xaj H_ tA22 rfl (i:=3) rfl (v:=(val1 1)) rfl) (tm':=zq8 (zq16 (zq32 _))) rfl ?_
     refine xbz (ms rfl rfl (dtt cc22)) (fun h_ H_=>xaz zjx rfl (a':=⟨b21,0,none⟩) rfl) rfl ?_
     refine xbz (ms rfl rfl (dtt cc22)) (fun h_ H_=>xaj H_ tA3 rfl (i:=0) rfl (v:=.int .i64 (((x_.fr:Nat):Int))) rfl) (tm':=zq2 (zq8 (zq16 (zq32 _)))) rfl ?_
     refine xbz (ms rfl rfl (dtt cc22)) (fun h_ H_=>xhz q1 Tryd.underlying22 tS3 rfl rfl (by rw [((xck _).trans lenc)];first | omega | (simp only [List.length_set];omega))) rfl ?_
     refine xbz (ms rfl rfl (dtt cc22)) (fun h_ H_=>xnx (A:=([(b21,.cells #[.int .i64 (((x_.fr:Nat):Int)),.int .i64 (((x_.to:Nat):Int)),.int .i64 (x_.cost),.int .i64 (x_.way),.int .i64 (x_.more)] 99 (0,0)),(l_,.loop { lp_ with state:=.busy }),(r_,.deferred (some [])),(b3,.cells #[(val1 1)] 22 (0,0)),(b4,.cells #[(val1 3)] 95 (0,0))]:Pcs)) (i:=x_.fr) (j:=0) (e:=[.int .i64 (Go.X.Bf.L ((rd_).foldl rel (sweeps (arcsL t wi d) j (lab0 (t.nW+t.nH+2) t.sp))) x_.fr)]) q1 H_ tA3 rfl rfl (ykx (by rw [lenc];omega)) (u:=.int .i64 (Go.X.Bf.L ((rd_).foldl rel (sweeps (arcsL t wi d) j (lab0 (t.nW+t.nH+2) t.sp))) x_.fr)) rfl) (tm':=zq4 (zq8 (zq16 (zq32 _)))) rfl ?_
     refine xbz (ms rfl rfl (dtt cc22)) (fun h_ H_=>xaz vcw rfl (a':=⟨b21,2,none⟩) rfl) rfl ?_
     refine xbz (ms rfl rfl (dtt cc22)) (fun h_ H_=>xaj H_ tA3 rfl (i:=0) rfl (v:=.int .i64 (x_.cost)) rfl) (tm':=zq2 (zq4 (zq8 (zq16 (zq32 _))))) rfl ?_
     refine xbz (ms rfl rfl (dtt cc22)) (fun h_ H_=>xfx rfl rfl (wr (by have z_:=hb_ x_.fr (by assumption);omega))) rfl ?_
     refine xbz (ms rfl rfl (dtt cc22)) (fun h_ H_=>xaj H_ tA22 rfl (i:=3) rfl (v:=(val1 1)) rfl) (tm':=zq32 (zq32 _)) rfl ?_
     refine xbz (ms rfl rfl (dtt cc22)) (fun h_ H_=>xaz zvz rfl (a':=⟨b21,1,none⟩) rfl) rfl ?_
     refine xbz (ms rfl rfl (dtt cc22)) (fun h_ H_=>xaj H_ tA3 rfl (i:=0) rfl (v:=.int .i64 (((x_.to:Nat):Int))) rfl) (tm':=zq2 (zq32 (zq32 _))) rfl ?_
     refine xbz (ms rfl rfl (dtt cc22)) (fun h_ H_=>xhz q1 Tryd.underlying22 tS3 rfl rfl (by rw [((xck _).trans lenc)];first | omega | (simp only [List.length_set];omega))) rfl ?_
     refine xbz (ms rfl rfl (dtt cc22)) (fun h_ H_=>xnx (A:=([(b21,.cells #[.int .i64 (((x_.fr:Nat):Int)),.int .i64 (((x_.to:Nat):Int)),.int .i64 (x_.cost),.int .i64 (x_.way),.int .i64 (x_.more)] 99 (0,0)),(l_,.loop { lp_ with state:=.busy }),(r_,.deferred (some [])),(b3,.cells #[(val1 1)] 22 (0,0)),(b4,.cells #[(val1 3)] 95 (0,0))]:Pcs)) (i:=x_.to) (j:=0) (e:=[.int .i64 (Go.X.Bf.L ((rd_).foldl rel (sweeps (arcsL t wi d) j (lab0 (t.nW+t.nH+2) t.sp))) x_.to)]) q1 H_ tA3 rfl rfl (ykx (by rw [lenc];omega)) (u:=.int .i64 (Go.X.Bf.L ((rd_).foldl rel (sweeps (arcsL t wi d) j (lab0 (t.nW+t.nH+2) t.sp))) x_.to)) rfl) (tm':=zq4 (zq32 (zq32 _))) rfl ?_
     refine xiz rfl ?_
     refine xaw (ms rfl rfl (dtt cc22)) (fun h_ H_=>xgw rfl rfl) rfl ?_
     refine ro (xbj rfl (dtt cc22) (v:=.bool (decide ((Go.X.Bf.L ((rd_).foldl rel (sweeps (arcsL t wi d) j (lab0 (t.nW+t.nH+2) t.sp))) x_.fr)+x_.cost<Go.X.Bf.L ((rd_).foldl rel (sweeps (arcsL t wi d) j (lab0 (t.nW+t.nH+2) t.sp))) x_.to))) rfl) <| xak ?_
     by_cases cc23:(Go.X.Bf.L ((rd_).foldl rel (sweeps (arcsL t wi d) j (lab0 (t.nW+t.nH+2) t.sp))) x_.fr)+x_.cost<Go.X.Bf.L ((rd_).foldl rel (sweeps (arcsL t wi d) j (lab0 (t.nW+t.nH+2) t.sp))) x_.to
     ·
      refine xdk rfl (dtt cc23) ?_
      refine ykw (Base1:=fun h_=>∃ X3_,OwnS 3 1 (val1 1) ((ics ((rd_).foldl rel (sweeps (arcsL t wi d) j (lab0 (t.nW+t.nH+2) t.sp))).c).set x_.to ([.int .i64 (Go.X.Bf.L ((rd_).foldl rel (sweeps (arcsL t wi d) j (lab0 (t.nW+t.nH+2) t.sp))) x_.to)].set 0 (.int .i64 ((Go.X.Bf.L ((rd_).foldl rel (sweeps (arcsL t wi d) j (lab0 (t.nW+t.nH+2) t.sp))) x_.fr)+x_.cost)))) X3_∧St h [] p h_ (([(b21,.cells #[.int .i64 (((x_.fr:Nat):Int)),.int .i64 (((x_.to:Nat):Int)),.int .i64 (x_.cost),.int .i64 (x_.way),.int .i64 (x_.more)] 99 (0,0)),(l_,.loop { lp_ with state:=.busy }),(r_,.deferred (some [])),(b3,.cells #[(val1 1)] 22 (0,0)),(b4,.cells #[(val1 3)] 95 (0,0))]:Pcs)++(X3_++(Y2++((marksP rs)++(Z_++[])))))) 17 16 [[],[],[1],[],[],[4],[],[],[7],[6,7,8],[6,7,8,9],[],[11],[6,7,8,9,10,11,12],[],[0,1,2,6,7,8,9,10,11,12,13],[0,1,2,6,7,8,9,10,11,12,13,15],[0,1,2,3,4,5,6,7,8,9,10,11,12,13,14,15,16],[0,1,2,3,4,5,6,7,8,9,10,11,12,13,14,15,16,17]] xlq (by kernel_rfl) (Nat.le_of_ble_eq_true rfl) (Nat.le_of_ble_eq_true rfl) ?_
      refine xgq mn (by kernel_rfl) (xdj fun h_ H_=>xaj H_ tA22 rfl (i:=3) rfl (v:=(val1 1)) rfl) rfl ?_
      refine xgq mn (by kernel_rfl) (xdj fun h_ H_=>xaz zvz rfl (a':=⟨b21,1,none⟩) rfl) (tm':=zq8 (zq32 (zq32 _))) rfl ?_
      refine xgq mn (by kernel_rfl) (xdj fun h_ H_=>xaj H_ tA3 rfl (i:=0) rfl (v:=.int .i64 (((x_.to:Nat):Int))) rfl) rfl ?_
      refine yaw mn (xdj fun h_ H_=>xaj H_ tA95 rfl (i:=4) rfl (v:=(val1 3)) rfl) (xdj fun h_ ⟨X3_,o3_,H_⟩=>xaj H_ tA95 rfl (i:=4) rfl (v:=(val1 3)) rfl) (tm':=zq2 (zq8 (zq32 (zq32 _)))) rfl ?_
      refine yaw mn (xdj fun h_ H_=>xaz zvz rfl (a':=⟨b21,1,none⟩) rfl) (xdj fun h_ ⟨X3_,o3_,H_⟩=>xaz zvz rfl (a':=⟨b21,1,none⟩) rfl) rfl ?_
      refine yaw mn (xdj fun h_ H_=>xaj H_ tA3 rfl (i:=0) rfl (v:=.int .i64 (((x_.to:Nat):Int))) rfl) (xdj fun h_ ⟨X3_,o3_,H_⟩=>xaj H_ tA3 rfl (i:=0) rfl (v:=.int .i64 (((x_.to:Nat):Int))) rfl) (tm':=zq4 (zq8 (zq32 (zq32 _)))) rfl ?_
      refine xgq mn (by kernel_rfl) (xdj fun h_ H_=>xaj H_ tA22 rfl (i:=3) rfl (v:=(val1 1)) rfl) rfl ?_
      refine xgq mn (by kernel_rfl) (xdj fun h_ H_=>xaz zjx rfl (a':=⟨b21,0,none⟩) rfl) (tm':=zq2 (zq4 (zq8 (zq32 (zq32 _))))) rfl ?_
      refine xgq mn (by kernel_rfl) (xdj fun h_ H_=>xaj H_ tA3 rfl (i:=0) rfl (v:=.int .i64 (((x_.fr:Nat):Int))) rfl) rfl ?_
      refine xgq mn (by kernel_rfl) (xdj fun h_ H_=>xhz q1 Tryd.underlying22 tS3 rfl rfl (by rw [((xck _).trans lenc)];first | omega | (simp only [List.length_set];omega))) (tm':=zq2 (zq4 (zq16 (zq32 (zq32 (zq32 [])))))) rfl ?_
      refine xgq mn (by kernel_rfl) (xdj fun h_ H_=>xnx (A:=([(b21,.cells #[.int .i64 (((x_.fr:Nat):Int)),.int .i64 (((x_.to:Nat):Int)),.int .i64 (x_.cost),.int .i64 (x_.way),.int .i64 (x_.more)] 99 (0,0)),(l_,.loop { lp_ with state:=.busy }),(r_,.deferred (some [])),(b3,.cells #[(val1 1)] 22 (0,0)),(b4,.cells #[(val1 3)] 95 (0,0))]:Pcs)) (i:=x_.fr) (j:=0) (e:=[.int .i64 (Go.X.Bf.L ((rd_).foldl rel (sweeps (arcsL t wi d) j (lab0 (t.nW+t.nH+2) t.sp))) x_.fr)]) q1 H_ tA3 rfl rfl (ykx (by rw [lenc];omega)) (u:=.int .i64 (Go.X.Bf.L ((rd_).foldl rel (sweeps (arcsL t wi d) j (lab0 (t.nW+t.nH+2) t.sp))) x_.fr)) rfl) rfl ?_
      refine xgq mn (by kernel_rfl) (xdj fun h_ H_=>xaz vcw rfl (a':=⟨b21,2,none⟩) rfl) (tm':=zq2 (zq4 (zq16 (zq32 (zq32 (zq32 [])))))) rfl ?_
      refine xgq mn (by kernel_rfl) (xdj fun h_ H_=>xaj H_ tA3 rfl (i:=0) rfl (v:=.int .i64 (x_.cost)) rfl) rfl ?_
      refine xgq mn (by kernel_rfl) (xdj fun h_ H_=>xfx rfl rfl (wr (by have z_:=hb_ x_.fr (by assumption);omega))) (tm':=zq2 (zq4 (zq16 (zq32 (zq32 (zq32 [])))))) rfl ?_
      refine yaw mn (xdj fun h_ H_=>xav H_ tA99 tS99 rfl (i:=0) rfl (vs:=[.int .i64 (((x_.fr:Nat):Int)),.int .i64 (((x_.to:Nat):Int)),.int .i64 (x_.cost),.int .i64 (x_.way),.int .i64 (x_.more)]) rfl rfl) (xdj fun h_ ⟨X3_,o3_,H_⟩=>xav H_ tA99 tS99 rfl (i:=0) rfl (vs:=[.int .i64 (((x_.fr:Nat):Int)),.int .i64 (((x_.to:Nat):Int)),.int .i64 (x_.cost),.int .i64 (x_.way),.int .i64 (x_.more)]) rfl rfl) rfl ?_
      refine xgq mn (by kernel_rfl) (xdj fun h_ H_=>xhz q1 Tryd.underlying22 tS3 rfl rfl (by rw [((xck _).trans lenc)];first | omega | (simp only [List.length_set];omega))) (tm':=zq2 (zq4 (zq16 (zq32 (zq32 (zq32 [])))))) rfl ?_
      refine zjz rfl mn (fun h_ H_=>ziv (A:=([(b21,.cells #[.int .i64 (((x_.fr:Nat):Int)),.int .i64 (((x_.to:Nat):Int)),.int .i64 (x_.cost),.int .i64 (x_.way),.int .i64 (x_.more)] 99 (0,0)),(l_,.loop { lp_ with state:=.busy }),(r_,.deferred (some [])),(b3,.cells #[(val1 1)] 22 (0,0)),(b4,.cells #[(val1 3)] 95 (0,0))]:Pcs)) (i:=x_.to) (j:=0) (e:=[.int .i64 (Go.X.Bf.L ((rd_).foldl rel (sweeps (arcsL t wi d) j (lab0 (t.nW+t.nH+2) t.sp))) x_.to)]) (u:=.int .i64 ((Go.X.Bf.L ((rd_).foldl rel (sweeps (arcsL t wi d) j (lab0 (t.nW+t.nH+2) t.sp))) x_.fr)+x_.cost)) q1 tS3 rfl rfl rfl ⟨rfl,rfl⟩ (ykx (by rw [lenc];omega)) (Nat.succ_le_iff.1 (Nat.le_of_ble_eq_true rfl)) H_) rfl ?_
      refine zdx rfl (xfv fun X24=>xfz fun o25=>?_)
      have o26:OwnS 3 1 (val1 1) (ics ((((rd_).foldl rel (sweeps (arcsL t wi d) j (lab0 (t.nW+t.nH+2) t.sp))).c).set x_.to ((Go.X.Bf.L ((rd_).foldl rel (sweeps (arcsL t wi d) j (lab0 (t.nW+t.nH+2) t.sp))) x_.fr)+x_.cost))) X24:=o25.as xwj
      refine ro (xhz q2 Tryd.underlying95 tS99 rfl rfl (by rw [((yav _).trans lenb)];first | omega | (simp only [List.length_set];omega))) ?_
      refine xlw (List.Perm.append_left _ (List.perm_append_comm_assoc _ _ _)) ?_
      refine xcj (L':=([(b21,.cells #[.int .i64 (((x_.fr:Nat):Int)),.int .i64 (((x_.to:Nat):Int)),.int .i64 (x_.cost),.int .i64 (x_.way),.int .i64 (x_.more)] 99 (0,0)),(l_,.loop { lp_ with state:=.busy }),(r_,.deferred (some [])),(b3,.cells #[(val1 1)] 22 (0,0)),(b4,.cells #[(val1 3)] 95 (0,0))]:Pcs)++(Y2++(X24++((marksP rs)++(Z_++[]))))) rfl ?_
      refine wcw (A:=([(b21,.cells #[.int .i64 (((x_.fr:Nat):Int)),.int .i64 (((x_.to:Nat):Int)),.int .i64 (x_.cost),.int .i64 (x_.way),.int .i64 (x_.more)] 99 (0,0)),(l_,.loop { lp_ with state:=.busy }),(r_,.deferred (some [])),(b3,.cells #[(val1 1)] 22 (0,0)),(b4,.cells #[(val1 3)] 95 (0,0))]:Pcs)) (i:=x_.to) (j:=0) (e:=(arcC (Go.X.Bf.B ((rd_).foldl rel (sweeps (arcsL t wi d) j (lab0 (t.nW+t.nH+2) t.sp))) x_.to))) (vs:=[.int .i64 (((x_.fr:Nat):Int)),.int .i64 (((x_.to:Nat):Int)),.int .i64 (x_.cost),.int .i64 (x_.way),.int .i64 (x_.more)]) q2 mn tS99 rfl rfl rfl rfl rfl rfl (zux (by rw [lenb];omega)) (Nat.le_of_ble_eq_true rfl) fun X27 o28=>?_
      have o29:OwnS 99 5 (val1 3) ((acs ((rd_).foldl rel (sweeps (arcsL t wi d) j (lab0 (t.nW+t.nH+2) t.sp))).b).set x_.to [.int .i64 (((x_.fr:Nat):Int)),.int .i64 (((x_.to:Nat):Int)),.int .i64 (x_.cost),.int .i64 (x_.way),.int .i64 (x_.more)]) X27:=o28
      have o30:=o29.as (acs_set (x:=x_))
      refine xak <| xeq ?_
      refine ztq (i:=1) rfl (lp':=lp_) (by rw [hlp_];rfl) ?_
      refine xkv (L':=([(b21,.cells #[.int .i64 (((x_.fr:Nat):Int)),.int .i64 (((x_.to:Nat):Int)),.int .i64 (x_.cost),.int .i64 (x_.way),.int .i64 (x_.more)] 99 (0,0)),(l_,.loop lp_),(r_,.deferred (some [])),(b3,.cells #[(val1 1)] 22 (0,0)),(b4,.cells #[(val1 3)] 95 (0,0))]:Pcs)++(X27++(X24++((marksP rs)++(Z_++[]))))) rfl ?_
      refine xgj (List.Perm.append_left _ (List.perm_append_comm_assoc _ _ _)) ?_
      refine xkv (L':=([(b21,.cells #[.int .i64 (((x_.fr:Nat):Int)),.int .i64 (((x_.to:Nat):Int)),.int .i64 (x_.cost),.int .i64 (x_.way),.int .i64 (x_.more)] 99 (0,0)),(l_,.loop lp_),(r_,.deferred (some [])),(b3,.cells #[(val1 1)] 22 (0,0)),(b4,.cells #[(val1 3)] 95 (0,0))]:Pcs)++(X24++(X27++((marksP rs)++(Z_++[]))))) rfl ?_
      exact fun h_ H_=>K₁ _ _ ⟨([(l_,.loop lp_),(r_,.deferred (some [])),(b3,.cells #[(val1 1)] 22 (0,0)),(b4,.cells #[(val1 3)] 95 (0,0))]:Pcs)++(X24++(X27++((marksP rs)++[]))),rfl,⟨X24,X27,rfl,(o26.as (by rw [xux,wkv (s:=(rd_).foldl rel (sweeps (arcsL t wi d) j (lab0 (t.nW+t.nH+2) t.sp))) (a:=x_) (by assumption) (by assumption)])),(o30.as (by rw [xux,wkv (s:=(rd_).foldl rel (sweeps (arcsL t wi d) j (lab0 (t.nW+t.nH+2) t.sp))) (a:=x_) (by assumption) (by assumption)])),(by rw [xux,List.length_append];exact LabB.step hb_ (by rw [lenc];exact hn_.2) hcC_)⟩,St.rot' (by simpa using (H_.drop))⟩
     ·
      refine xcv rfl (dff cc23) <| xdq <| xeq ?_
      refine ztq (i:=1) rfl (lp':=lp_) (by rw [hlp_];rfl) ?_
      refine xkv (L':=([(b21,.cells #[.int .i64 (((x_.fr:Nat):Int)),.int .i64 (((x_.to:Nat):Int)),.int .i64 (x_.cost),.int .i64 (x_.way),.int .i64 (x_.more)] 99 (0,0)),(l_,.loop lp_),(r_,.deferred (some [])),(b3,.cells #[(val1 1)] 22 (0,0)),(b4,.cells #[(val1 3)] 95 (0,0))]:Pcs)++(Y1++(Y2++((marksP rs)++(Z_++[]))))) rfl ?_
      exact fun h_ H_=>K₁ _ _ ⟨([(l_,.loop lp_),(r_,.deferred (some [])),(b3,.cells #[(val1 1)] 22 (0,0)),(b4,.cells #[(val1 3)] 95 (0,0))]:Pcs)++(Y1++(Y2++((marksP rs)++[]))),rfl,⟨Y1,Y2,rfl,(q1.as (by rw [xux,wkw (s:=(rd_).foldl rel (sweeps (arcsL t wi d) j (lab0 (t.nW+t.nH+2) t.sp))) (a:=x_) (by assumption)])),(q2.as (by rw [xux,wkw (s:=(rd_).foldl rel (sweeps (arcsL t wi d) j (lab0 (t.nW+t.nH+2) t.sp))) (a:=x_) (by assumption)])),(by rw [xux,List.length_append];exact LabB.step hb_ (by rw [lenc];exact hn_.2) hcC_)⟩,St.rot' (by simpa using (H_.drop))⟩
    ·
     refine xfw 20 [[],[],[1],[0,1,2],[0,1,2,3],[0,1,2,3,4],[0,1,2,3,4,5],[],[],[8],[7,8,9],[7,8,9,10],[],[12],[7,8,9,10,11,12,13],[],[0,1,2,3,4,5],[0,1,2,3,4,5,16],[0,1,2,3,4,5,15,16,17],[0,1,2,3,4,5,15,16,17,18],[0,1,2,3,4,5,7,8,9,10,11,12,13,14,15,16,17,18,19],[]] xlq (by kernel_rfl) (Nat.le_of_ble_eq_true rfl) ?_
     refine xbz mn (fun h_ H_=>xaj H_ tA22 rfl (i:=3) rfl (v:=(val1 1)) rfl) (tm':=zq1 (zq16 (zq32 _))) rfl ?_
     refine wo (xaz zjx rfl (a':=⟨b21,0,none⟩) rfl) ?_
     refine xbz mn (fun h_ H_=>xaj H_ tA3 rfl (i:=0) rfl (v:=.int .i64 (((x_.fr:Nat):Int))) rfl) (tm':=zq1 (zq2 (zq16 (zq32 _)))) rfl ?_
     refine wo (xhz q1 Tryd.underlying22 tS3 rfl rfl (by rw [((xck _).trans lenc)];first | omega | (simp only [List.length_set];omega))) ?_
     refine xbz mn (fun h_ H_=>xnx (A:=([(b21,.cells #[.int .i64 (((x_.fr:Nat):Int)),.int .i64 (((x_.to:Nat):Int)),.int .i64 (x_.cost),.int .i64 (x_.way),.int .i64 (x_.more)] 99 (0,0)),(l_,.loop { lp_ with state:=.busy }),(r_,.deferred (some [])),(b3,.cells #[(val1 1)] 22 (0,0)),(b4,.cells #[(val1 3)] 95 (0,0))]:Pcs)) (i:=x_.fr) (j:=0) (e:=[.int .i64 (Go.X.Bf.L ((rd_).foldl rel (sweeps (arcsL t wi d) j (lab0 (t.nW+t.nH+2) t.sp))) x_.fr)]) q1 H_ tA3 rfl rfl (ykx (by rw [lenc];omega)) (u:=.int .i64 (Go.X.Bf.L ((rd_).foldl rel (sweeps (arcsL t wi d) j (lab0 (t.nW+t.nH+2) t.sp))) x_.fr)) rfl) (tm':=zq1 (zq4 (zq16 (zq32 _)))) rfl ?_
     refine wo (xgw rfl rfl) <| wt (xaq (v:=.bool (decide (Go.X.Bf.L ((rd_).foldl rel (sweeps (arcsL t wi d) j (lab0 (t.nW+t.nH+2) t.sp))) x_.fr<1152921504606846976))) rfl) (tm':=zq1 (zq2 (zq4 (zq16 (zq32 _))))) rfl <| wp (mo rfl rfl (dff cc22)) <| xdv (mo rfl rfl (dff cc22)) (tm':=zq1 (zq8 (zq16 (zq32 _)))) rfl <| wp (mo rfl rfl (dff cc22)) <| xdv (mo rfl rfl (dff cc22)) (tm':=zq1 (zq2 (zq8 (zq16 (zq32 _))))) rfl ?_
     refine wp (mo rfl rfl (dff cc22)) <| xdv (mo rfl rfl (dff cc22)) (tm':=zq1 (zq4 (zq8 (zq16 (zq32 _))))) rfl <| wp (mo rfl rfl (dff cc22)) <| xdv (mo rfl rfl (dff cc22)) (tm':=zq1 (zq2 (zq4 (zq8 (zq16 (zq32 _)))))) rfl <| wp (mo rfl rfl (dff cc22)) <| xdv (mo rfl rfl (dff cc22)) (tm':=zq1 (zq32 (zq32 _))) rfl ?_
     refine wp (mo rfl rfl (dff cc22)) <| xdv (mo rfl rfl (dff cc22)) (tm':=zq1 (zq2 (zq32 (zq32 _)))) rfl <| wp (mo rfl rfl (dff cc22)) ?_
     refine xiz rfl ?_
     refine rp (mo rfl rfl (dff cc22)) <| ro (xcq rfl (dff cc22) (v:=.bool (false)) rfl) <| xak <| xcv rfl rfl <| xdq <| xeq ?_
     refine ztq (i:=1) rfl (lp':=lp_) (by rw [hlp_];rfl) ?_
     refine xkv (L':=([(b21,.cells #[.int .i64 (((x_.fr:Nat):Int)),.int .i64 (((x_.to:Nat):Int)),.int .i64 (x_.cost),.int .i64 (x_.way),.int .i64 (x_.more)] 99 (0,0)),(l_,.loop lp_),(r_,.deferred (some [])),(b3,.cells #[(val1 1)] 22 (0,0)),(b4,.cells #[(val1 3)] 95 (0,0))]:Pcs)++(Y1++(Y2++((marksP rs)++(Z_++[]))))) rfl ?_
     exact fun h_ H_=>K₁ _ _ ⟨([(l_,.loop lp_),(r_,.deferred (some [])),(b3,.cells #[(val1 1)] 22 (0,0)),(b4,.cells #[(val1 3)] 95 (0,0))]:Pcs)++(Y1++(Y2++((marksP rs)++[]))),rfl,⟨Y1,Y2,rfl,(q1.as (by rw [xux,wlq (s:=(rd_).foldl rel (sweeps (arcsL t wi d) j (lab0 (t.nW+t.nH+2) t.sp))) (a:=x_) (by assumption)])),(q2.as (by rw [xux,wlq (s:=(rd_).foldl rel (sweeps (arcsL t wi d) j (lab0 (t.nW+t.nH+2) t.sp))) (a:=x_) (by assumption)])),(by rw [xux,List.length_append];exact LabB.step hb_ (by rw [lenc];exact hn_.2) hcC_)⟩,St.rot' (by simpa using (H_.drop))⟩
   ·
    intro r_ l_ lp_ v_ hlp_
    refine xij fun X_=>xdz fun hIJ_=>?_
    obtain ⟨Y1,Y2,rfl,q1,q2,hb_⟩:=hIJ_
    ·
     refine wfz (i:=0) rfl (by rw [hlp_];simp [loopOf]) (by rw [hlp_];rfl) ?_
     refine xkv (L':=([(l_,.loop { lp_ with state:=.exhausted }),(r_,.deferred (some [])),(b3,.cells #[(val1 1)] 22 (0,0)),(b4,.cells #[(val1 3)] 95 (0,0))]:Pcs)++(Y1++(Y2++((marksP rs)++[])))) rfl ?_
     refine xeq <| xeq <| xbq ?_
     refine rt (xfx rfl rfl (n:=((j+1:Nat):Int)) (wr (by omega))) (tm':=zq2 (zq4 (zq16 (zq32 (zq32 (zq32 [])))))) rfl ?_
     refine ro (xaq (v:=.int .i64 (((j+1:Nat):Int))) rfl) <| xak ?_
     exact fun h_ H_=>IH19 _ (r_::rs) _ (by omega) h_ ⟨j+1,Y1,Y2,(r_::rs),rfl,rfl,(y_of rfl),(by omega),q1,q2,(LabB.mono hb_ (by have z_:=wbz (w:=wi) (d:=d) O.toOk;omega)),(St.marked H_.drop)⟩
  ·
   refine xcv rfl (dff cc20) <| xiq rfl <| xej ?_
   have hjN:j=(t.nW+t.nH+2):=by omega
   have hB:sweeps (arcsL t wi d) j (lab0 (t.nW+t.nH+2) t.sp)=bf t wi d:=by rw [hjN];rfl
   have o1_:=o1.as (show _=ics (bf t wi d).c from by rw [hB])
   have o2_:=o2.as (show _=acs (bf t wi d).b from by rw [hB])
   refine xbq <| ro (xax (v:=.slice none 0 0) rfl) <| ren <| fsr ?_
   refine xaw mn (fun h_ H_=>xaj H_ tA22 rfl (i:=0) rfl (v:=(val1 1)) rfl) (tm':=zq2 (zq4 (zq16 (zq32 (zq32 (zq32 [])))))) rfl ?_
   refine ro (xaq (v:=.int .i64 ((((t.nW+t.nH)+2:Nat):Int))) rfl) ?_
   refine ro (xkw rfl rfl (n:=((((t.nW+t.nH)+2)-1:Nat):Int)) (by rw [show (((t.nW+t.nH)+2:Nat):Int)-1=((((t.nW+t.nH)+2)-1:Nat):Int) from by omega];exact wr (by omega))) ?_
   refine rt (xhz o1_ Tryd.underlying22 tS3 rfl rfl (by rw [((xck _).trans yov)];first | omega | (simp only [List.length_set];omega))) (tm':=zq2 (zq4 (zq16 (zq32 (zq32 (zq32 [])))))) rfl ?_
   refine rd (fun h_ H_=>xnx (A:=([(b3,.cells #[(val1 1)] 22 (0,0)),(b4,.cells #[(val1 3)] 95 (0,0))]:Pcs)) (i:=((t.nW+t.nH)+2)-1) (j:=0) (e:=[.int .i64 (Go.X.Bf.L (bf t wi d) (((t.nW+t.nH)+2)-1))]) o1_ H_ tA3 rfl rfl (ykx (by rw [yov];omega)) (u:=.int .i64 (Go.X.Bf.L (bf t wi d) (((t.nW+t.nH)+2)-1))) rfl) ?_
   refine ro (xgw rfl rfl) <| xak ?_
   by_cases cc31:Go.X.Bf.L (bf t wi d) (((t.nW+t.nH)+2)-1)<1152921504606846976
   ·
    refine xdk rfl (dtt cc31) <| xej ?_
    have hcf:costL t wi d<far:=by rw [ylx];exact ‹Go.X.Bf.L (bf t wi d) (t.nW+t.nH+2-1)<1152921504606846976›
    have hw_:=(G.find O.toOk S).way hcf
    have hpl:=zxw O.toOk S G
    refine xbq <| rt (xaq (v:=.int .i64 ((((t.nW+t.nH)+2:Nat):Int))) rfl) (tm':=zq2 (zq4 (zq16 (zq32 (zq32 (zq32 [])))))) rfl ?_
    refine ro (xkw rfl rfl (n:=((((t.nW+t.nH)+2)-1:Nat):Int)) (by rw [show (((t.nW+t.nH)+2:Nat):Int)-1=((((t.nW+t.nH)+2)-1:Nat):Int) from by omega];exact wr (by omega))) ?_
    refine ro (xax (v:=.int .i64 (((((t.nW+t.nH)+2)-1:Nat):Int))) rfl) <| xak <| xek ?_
    refine xiv (m₀:=(pathL t wi d).length+0) (fun m_ tm_ h_=>∃ (n:Nat) (acc:List Go.X.Bf.Arc) (r:List Go.X.Bf.Arc) (w3:Value) (X3:Pcs),m_=r.length+0∧(∃ y32:Nat→Value,tm_=[.pointer (some ⟨bt,0,none⟩),undef,.slice none 0 0,.int .i64 0,.int .i64 ((((t.nW+t.nH)+2:Nat):Int)),.pointer (some ⟨b3,0,none⟩),.pointer (some ⟨b4,0,none⟩),(y9 7),(y18 8),w3,.int .i64 (((n:Nat):Int)),.pointer (some ⟨bt,0,none⟩),.pointer (some ⟨bt,0,none⟩),.pointer (some ⟨bt,0,none⟩),.pointer (some ⟨bt,1,none⟩),.slice a2 t.nW c2,.int .i64 (((t.nW:Nat):Int)),.pointer (some ⟨bt,0,none⟩),.pointer (some ⟨bt,0,none⟩),.pointer (some ⟨bt,0,none⟩),.pointer (some ⟨bt,0,none⟩),.slice a1 t.nH c1,.int .i64 (((t.nH:Nat):Int)),.int .i64 (((t.nW+t.nH:Nat):Int)),.int .i64 ((((t.nW+t.nH)+2:Nat):Int)),.int .i64 ((((t.nW+t.nH)+2:Nat):Int)),(val1 1),.int .i64 ((((t.nW+t.nH)+2:Nat):Int)),(val1 3),(val1 1),.int .i64 ((((t.nW+t.nH+2):Nat):Int)),.int .i64 (((k:Nat):Int)),.bool (decide (((k:Nat):Int)<(((t.nW+t.nH+2):Nat):Int))),(y9 33),(y9 34),(y9 35),(y9 36),(y9 37),(val1 1),.int .i64 ((((t.nW+t.nH)+2:Nat):Int)),.int .i64 (((((t.nW+t.nH)+2)-2:Nat):Int)),.pointer (some ((adrV (val1 1)).add ((((t.nW+t.nH)+2)-2)*1))),.int .i64 ((((t.nW+t.nH)+2:Nat):Int)),.int .i64 (((j:Nat):Int)),.bool (decide (((j:Nat):Int)<(((t.nW+t.nH)+2:Nat):Int))),(y18 45),(y18 46),undef,(y18 48),(y18 49),(y18 50),(y18 51),(y18 52),(y18 53),(y18 54),(y18 55),(y18 56),(y18 57),(y18 58),(y18 59),(y18 60),(y18 61),(y18 62),(y18 63),(y18 64),(y18 65),(y18 66),(y18 67),(y18 68),(y18 69),(y18 70),(y18 71),(y18 72),(y18 73),(y18 74),(y18 75),(y18 76),(y18 77),(y18 78),(y18 79),(y18 80),(y18 81),(y18 82),(y18 83),(y18 84),(y18 85),(y18 86),(y18 87),(val1 1),.int .i64 ((((t.nW+t.nH)+2:Nat):Int)),.int .i64 (((((t.nW+t.nH)+2)-1:Nat):Int)),.pointer (some ((adrV (val1 1)).add ((((t.nW+t.nH)+2)-1)*1))),.int .i64 (Go.X.Bf.L (bf t wi d) (((t.nW+t.nH)+2)-1)),.bool (decide (Go.X.Bf.L (bf t wi d) (((t.nW+t.nH)+2)-1)<1152921504606846976)),.int .i64 ((((t.nW+t.nH)+2:Nat):Int)),.int .i64 (((((t.nW+t.nH)+2)-1:Nat):Int)),(y32 96),(y32 97),(y32 98),(y32 99),(y32 100),(y32 101),(y32 102),(y32 103),(y32 104),(y32 105),(y32 106),(y32 107),(y32 108),(y32 109),(y32 110),(y32 111),undef,undef,undef,undef,undef,undef])∧(n<(t.nW+t.nH+2))∧(Chain (bf t wi d) t.sp n r)∧(acc++r=pathL t wi d)∧(∀ a∈r,a∈arcsL t wi d)∧(OwnS 99 5 w3 (acs acc) X3)∧St h [] p h_ (([(b3,.cells #[(val1 1)] 22 (0,0)),(b4,.cells #[(val1 3)] 95 (0,0))]:Pcs)++(X3++(X1++(X2++((marksP rs)++[])))))) (fun h_ H_=>⟨(t.nW+t.nH+2-1),[],pathL t wi d,(.slice none 0 0),[],rfl,(y_of rfl),(by omega),hw_.2.1,rfl,(fun a ha=>(hw_.2.2.2 a ha).1),(OwnS.empty _ _),H_⟩) ?_
    intro m_ tm_ IH33
    refine xij fun n=>xij fun acc=>xij fun r=>xij fun w3=>xij fun X3=>xdz fun hm_=>xdz fun ht_=>xdz fun hn6=>xdz fun hC=>xdz fun hP=>xdz fun hr=>xdz fun o3=>?_
    subst hm_;obtain ⟨y32,ht_⟩:=ht_;subst ht_
    have hla:=congrArg List.length hP
    simp only [List.length_append] at hla
    refine xej <| fsr <| rt (xaq (v:=.int .i64 (((n:Nat):Int))) rfl) (tm':=zq2 (zq4 (zq16 (zq32 (zq32 (zq32 [])))))) rfl <| ro (xaq (v:=.int .i64 ((((t.nW+t.nH)+2:Nat):Int))) rfl) ?_
    refine ro (xkw rfl rfl (n:=((((t.nW+t.nH)+2)-2:Nat):Int)) (by rw [show (((t.nW+t.nH)+2:Nat):Int)-2=((((t.nW+t.nH)+2)-2:Nat):Int) from by omega];exact wr (by omega))) ?_
    refine rt (xhw rfl rfl) (tm':=zq2 (zq4 (zq16 (zq32 (zq32 (zq32 [])))))) rfl <| xak ?_
    by_cases cc34:((n:Nat):Int)≠((((t.nW+t.nH)+2)-2:Nat):Int)
    ·
     refine xdk rfl (dtt cc34) <| xdq <| xej <| xek ?_
     obtain ⟨r',hr_,hC'⟩:=Chain.cases' hC (show n≠t.sp from by unfold Tn.sp;omega)
     subst hr_
     refine xbq <| ro (xaq (v:=w3) rfl) <| rd (fun h_ H_=>xaj H_ tA95 rfl (i:=1) rfl (v:=(val1 3)) rfl) <| rt (xaq (v:=.int .i64 (((n:Nat):Int))) rfl) (tm':=zq2 (zq4 (zq16 (zq32 (zq32 (zq32 [])))))) rfl ?_
     refine ro (xhz o2_ Tryd.underlying95 tS99 rfl rfl (by rw [((yav _).trans zhj)];first | omega | (simp only [List.length_set];omega))) ?_
     refine rd (fun h_ H_=>wgq (i:=n) (e:=(arcC (Go.X.Bf.B (bf t wi d) n))) o2_ H_ (fun x_ h_=>by simp [h_]) tA99 tS99 rfl rfl (zux (by rw [zhj];omega))) ?_
     refine xmj ([(b3,.cells #[(val1 1)] 22 (0,0)),(b4,.cells #[(val1 3)] 95 (0,0))]:Pcs) mn Tryd.underlying95 tS99 tZ99 (Nat.le_of_ble_eq_true rfl) (vs:=[(0,.agg #[.int .i64 ((((Go.X.Bf.B (bf t wi d) n).fr:Nat):Int)),.int .i64 ((((Go.X.Bf.B (bf t wi d) n).to:Nat):Int)),.int .i64 ((Go.X.Bf.B (bf t wi d) n).cost),.int .i64 ((Go.X.Bf.B (bf t wi d) n).way),.int .i64 ((Go.X.Bf.B (bf t wi d) n).more)])]) rfl rfl (es:=[[.int .i64 ((((Go.X.Bf.B (bf t wi d) n).fr:Nat):Int)),.int .i64 ((((Go.X.Bf.B (bf t wi d) n).to:Nat):Int)),.int .i64 ((Go.X.Bf.B (bf t wi d) n).cost),.int .i64 ((Go.X.Bf.B (bf t wi d) n).way),.int .i64 ((Go.X.Bf.B (bf t wi d) n).more)]]) rfl rfl rfl fun v35 X36 o37=>?_
     refine xgx (tm':=zq2 (zq4 (zq16 (zq32 (zq32 (zq32 [])))))) rfl ?_
     refine xlw (List.Perm.append_left _ (List.perm_append_comm_assoc _ _ _)) ?_
     refine xcj (L':=([(b3,.cells #[(val1 1)] 22 (0,0)),(b4,.cells #[(val1 3)] 95 (0,0))]:Pcs)++(X3++(X36++(X1++(X2++((marksP rs)++[])))))) rfl ?_
     refine xrv ([(b3,.cells #[(val1 1)] 22 (0,0)),(b4,.cells #[(val1 3)] 95 (0,0))]:Pcs) X3 X36 mn Tryd.underlying95 tS99 tZ99 rfl tB99 Tryd.underlying95 rfl rfl o3 o37 (xxv rfl) (by rw [yav];simp only [List.length_cons,List.length_nil];omega) (by decide) fun v38 X39 o40=>?_
     have o41:OwnS 99 5 v38 (acs (acc++[(Go.X.Bf.B (bf t wi d) n)])) X39:=o40.as (vbz _ (Go.X.Bf.B (bf t wi d) n))
     refine ro (xax (v:=v38) rfl) <| xak <| xeq <| xbq ?_
     refine xaw mn (fun h_ H_=>xaj H_ tA95 rfl (i:=1) rfl (v:=(val1 3)) rfl) (tm':=zq2 (zq4 (zq16 (zq32 (zq32 (zq32 [])))))) rfl ?_
     refine ro (xaq (v:=.int .i64 (((n:Nat):Int))) rfl) ?_
     refine ro (xhz o2_ Tryd.underlying95 tS99 rfl rfl (by rw [((yav _).trans zhj)];first | omega | (simp only [List.length_set];omega))) ?_
     refine rt (xaz zjx rfl (a':=(adrV (val1 3)).add (n*5)) rfl) (tm':=zq2 (zq4 (zq16 (zq32 (zq32 (zq32 [])))))) rfl ?_
     refine rd (fun h_ H_=>xwq (i:=n) (j:=0) (e:=(arcC (Go.X.Bf.B (bf t wi d) n))) o2_ H_ (fun x_ h_=>by simp [h_]) tA3 rfl rfl (zux (by rw [zhj];omega)) (u:=.int .i64 ((((Go.X.Bf.B (bf t wi d) n).fr:Nat):Int))) rfl) ?_
     refine ro (xax (v:=.int .i64 ((((Go.X.Bf.B (bf t wi d) n).fr:Nat):Int))) rfl) <| xak ?_
     exact fun h_ H_=>IH33 _ _ (by simp only [List.length_cons];omega) h_ ⟨(Go.X.Bf.B (bf t wi d) n).fr,(acc++[Go.X.Bf.B (bf t wi d) n]),r',v38,X39,rfl,(y_of rfl),(by have z_:=yew O.y _ (hr _ (List.mem_cons_self ..));simp only [nN] at z_;omega),hC',(by rw [List.append_assoc];exact hP),(fun a ha=>hr a (List.mem_cons_of_mem _ ha)),o41,H_⟩
    ·
     refine xcv rfl (dff cc34) <| xiq rfl <| xej ?_
     refine xfw 7 [] xlq (by kernel_rfl) (Nat.le_of_ble_eq_true rfl) ?_
     refine wt (xaq (v:=w3) rfl) (tm':=zq2 (zq4 (zq16 (zq32 (zq32 (zq32 [])))))) rfl <| wd (fun h_ H_=>xaj H_ tA22 rfl (i:=0) rfl (v:=(val1 1)) rfl) <| wt (xaq (v:=.int .i64 ((((t.nW+t.nH)+2:Nat):Int))) rfl) (tm':=zq2 (zq4 (zq16 (zq32 (zq32 (zq32 [])))))) rfl ?_
     refine wo (xkw rfl rfl (n:=((((t.nW+t.nH)+2)-1:Nat):Int)) (by rw [show (((t.nW+t.nH)+2:Nat):Int)-1=((((t.nW+t.nH)+2)-1:Nat):Int) from by omega];exact wr (by omega))) ?_
     refine wt (xhz o1_ Tryd.underlying22 tS3 rfl rfl (by rw [((xck _).trans yov)];first | omega | (simp only [List.length_set];omega))) (tm':=zq2 (zq4 (zq16 (zq32 (zq32 (zq32 [])))))) rfl ?_
     refine wd (fun h_ H_=>xwq (i:=((t.nW+t.nH)+2)-1) (j:=0) (e:=[.int .i64 (Go.X.Bf.L (bf t wi d) (((t.nW+t.nH)+2)-1))]) o1_ H_ (fun x_ h_=>by simp [h_]) tA3 rfl rfl (ykx (by rw [yov];omega)) (u:=.int .i64 (Go.X.Bf.L (bf t wi d) (((t.nW+t.nH)+2)-1))) rfl) ?_
     refine wt (xax (v:=w3) rfl) (tm':=_::_::_::_) rfl ?_
     refine xiz rfl ?_
     refine ro (xax (v:=.int .i64 (Go.X.Bf.L (bf t wi d) (((t.nW+t.nH)+2)-1))) rfl) <| xak ?_
     refine xgj (List.Perm.append_left _ (List.Perm.append_left _ (List.Perm.append_left _ (List.perm_append_comm_assoc _ _ _)))) ?_
     refine xgj (List.Perm.append_left _ (List.Perm.append_left _ (List.perm_append_comm_assoc _ _ _))) ?_
     refine xgj (List.Perm.append_left _ (List.perm_append_comm_assoc _ _ _)) ?_
     refine xkv (L':=([(b3,.cells #[(val1 1)] 22 (0,0)),(b4,.cells #[(val1 3)] 95 (0,0))]:Pcs)++((marksP rs)++(X3++(X1++(X2++[]))))) rfl ?_
     refine xgj (List.perm_append_comm_assoc ([(b3,.cells #[(val1 1)] 22 (0,0)),(b4,.cells #[(val1 3)] 95 (0,0))]:Pcs) (marksP rs) _) ?_
     refine zzk Tryd.func97 rfl (vs:=[w3,.int .i64 (Go.X.Bf.L (bf t wi d) (((t.nW+t.nH)+2)-1))]) (fun h_ H_=>⟨w3,_,rfl,rfl,⟨.int .i64 (Go.X.Bf.L (bf t wi d) (((t.nW+t.nH)+2)-1)),_,rfl,rfl,rfl⟩⟩) (v:=.tuple #[w3,.int .i64 (Go.X.Bf.L (bf t wi d) (((t.nW+t.nH)+2)-1))]) rfl ?_
     have hrn:=Chain.nil' hC (show n=t.sp from by unfold Tn.sp;omega)
     subst hrn
     rw [List.append_nil] at hP
     exact fun h_ H_=>K _ _ ⟨_,_,rfl,o3.as (by rw [hP]),((H_.dropA).sub (List.sublist_append_left _ _)).new⟩
   ·
    refine xcv rfl (dff cc31) <| xdq <| xej ?_
    refine xfw 7 [] xlq (by kernel_rfl) (Nat.le_of_ble_eq_true rfl) ?_
    refine wt (xaq (v:=.slice none 0 0) rfl) (tm':=zq2 (zq4 (zq16 (zq32 (zq32 (zq32 [])))))) rfl <| wd (fun h_ H_=>xaj H_ tA22 rfl (i:=0) rfl (v:=(val1 1)) rfl) <| wt (xaq (v:=.int .i64 ((((t.nW+t.nH)+2:Nat):Int))) rfl) (tm':=zq2 (zq4 (zq16 (zq32 (zq32 (zq32 [])))))) rfl ?_
    refine wo (xkw rfl rfl (n:=((((t.nW+t.nH)+2)-1:Nat):Int)) (by rw [show (((t.nW+t.nH)+2:Nat):Int)-1=((((t.nW+t.nH)+2)-1:Nat):Int) from by omega];exact wr (by omega))) ?_
    refine wt (xhz o1_ Tryd.underlying22 tS3 rfl rfl (by rw [((xck _).trans yov)];first | omega | (simp only [List.length_set];omega))) (tm':=zq2 (zq4 (zq16 (zq32 (zq32 (zq32 [])))))) rfl ?_
    refine wd (fun h_ H_=>xnx (A:=([(b3,.cells #[(val1 1)] 22 (0,0)),(b4,.cells #[(val1 3)] 95 (0,0))]:Pcs)) (i:=((t.nW+t.nH)+2)-1) (j:=0) (e:=[.int .i64 (Go.X.Bf.L (bf t wi d) (((t.nW+t.nH)+2)-1))]) o1_ H_ tA3 rfl rfl (ykx (by rw [yov];omega)) (u:=.int .i64 (Go.X.Bf.L (bf t wi d) (((t.nW+t.nH)+2)-1))) rfl) ?_
    refine wt (xax (v:=.slice none 0 0) rfl) (tm':=_::_::_::_) rfl ?_
    refine xiz rfl ?_
    refine rt (xax (v:=.int .i64 (Go.X.Bf.L (bf t wi d) (((t.nW+t.nH)+2)-1))) rfl) (tm':=zq4 _) rfl <| xak ?_
    refine xgj (List.Perm.append_left _ (List.Perm.append_left _ (List.perm_append_comm_assoc _ _ _))) ?_
    refine xgj (List.Perm.append_left _ (List.perm_append_comm_assoc _ _ _)) ?_
    refine xkv (L':=([(b3,.cells #[(val1 1)] 22 (0,0)),(b4,.cells #[(val1 3)] 95 (0,0))]:Pcs)++((marksP rs)++(X1++(X2++[])))) rfl ?_
    refine xgj (List.perm_append_comm_assoc ([(b3,.cells #[(val1 1)] 22 (0,0)),(b4,.cells #[(val1 3)] 95 (0,0))]:Pcs) (marksP rs) _) ?_
    refine zzk Tryd.func97 rfl (vs:=[.slice none 0 0,.int .i64 (Go.X.Bf.L (bf t wi d) (((t.nW+t.nH)+2)-1))]) (fun h_ H_=>⟨.slice none 0 0,_,rfl,rfl,⟨.int .i64 (Go.X.Bf.L (bf t wi d) (((t.nW+t.nH)+2)-1)),_,rfl,rfl,rfl⟩⟩) (v:=.tuple #[.slice none 0 0,.int .i64 (Go.X.Bf.L (bf t wi d) (((t.nW+t.nH)+2)-1))]) rfl ?_
    exact fun h_ H_=>K _ _ ⟨_,[],rfl,(OwnS.empty _ _).as (by rw [pathL,if_neg (fun z_=>‹¬ Go.X.Bf.L (bf t wi d) (t.nW+t.nH+2-1)<1152921504606846976› (by rw [ylx] at z_;exact z_))];rfl),(H_.sub (List.nil_sublist _)).new⟩
end Go.Proofs.YtalfgojocdonhaaDoor
namespace Go.Proofs.YtalfgojocdonhaaDoor
open Go.X Go.X.Flow Go.Conc
set_option maxRecDepth 10000
set_option synthInstance.maxSize 2000

set_option maxHeartbeats 4000000
open Go.X.Bf (a0)
theorem c68 (md:Md) (h:Heap) (p:PHeap) (hp:Per p h) (a1 a2 a3:Option Addr) (c1 c2 c3:Nat) (t:Tn) (T:TownP p a1 t.nH a2 t.nW a3 t.m t) (O:OkT t) (wi:Wi) (S:Sg wi):CallsX Tryd.prog md 68 #[.agg #[.slice a1 t.nH c1,.slice a2 t.nW c2,.slice a3 t.m c3],.agg #[.int .i64 (wi.house),.int .i64 (wi.well),.int .i64 (wi.sign)]] h fun v h'=>∃ w X,v=w∧OwnS 3 1 w (ics (fairP t wi)) X∧New h h' X:=by
 refine xcw (Φ:=fun h_=>St h [] p h_ []) Tryd.func68 rfl (tm:=zq1 (zq2 (zq16 (zq32 [])))) rfl ?_ (St.start h _ hp)
 intro c₀ cs Stop K
 have oH:=O.nh
 have oW:=O.nw
 have oM:=O.nm
 refine fsr ?_
 refine xiw mn (v:=.agg #[.slice a1 t.nH c1,.slice a2 t.nW c2,.slice a3 t.m c3]) rfl fun b1=>xcj (L':=[(b1,.cells #[.slice a1 t.nH c1,.slice a2 t.nW c2,.slice a3 t.m c3] 25 (0,0))]) rfl ?_
 refine xiw mn (v:=.agg #[.int .i64 (wi.house),.int .i64 (wi.well),.int .i64 (wi.sign)]) rfl fun b2=>xcj (L':=[(b2,.cells #[.int .i64 (wi.house),.int .i64 (wi.well),.int .i64 (wi.sign)] 72 (0,0)),(b1,.cells #[.slice a1 t.nH c1,.slice a2 t.nW c2,.slice a3 t.m c3] 25 (0,0))]) rfl ?_
 refine rt (xax (v:=.slice none 0 0) rfl) (tm':=zq1 (zq4 _)) rfl <| ren ?_
 refine ybx (xnq (C:=[]) (A:=([(b2,.cells #[.int .i64 (wi.house),.int .i64 (wi.well),.int .i64 (wi.sign)] 72 (0,0)),(b1,.cells #[.slice a1 t.nH c1,.slice a2 t.nW c2,.slice a3 t.m c3] 25 (0,0))]:Pcs)) 6 [[],[],[],[2],[2,3],[2,3,4],[0,1,2,3,4,5],[],[]] [] [5] [0,1,2,3,4] (fun _=>[]) (fun _=>[]) (fun i_=>match i_ with | 0=>[] | 1=>[] | 2=>[] | 3=>[2] | 4=>[3] | 5=>[4] | _=>[]) (fun i_ val_ pc_ v_ x_=>match i_ with | 0=>v_= .agg #[.slice a1 t.nH c1,.slice a2 t.nW c2,.slice a3 t.m c3]∧x_=[] | 1=>v_= .agg #[.int .i64 (wi.house),.int .i64 (wi.well),.int .i64 (wi.sign)]∧x_=[] | 2=>v_= .pointer (some ⟨b1,2,none⟩)∧x_=[] | 3=>v_= .slice a3 t.m c3∧x_=[] | 4=>v_= .int .i64 (((t.m:Nat):Int))∧x_=[] | 5=>OwnS 3 1 v_ (ics (List.replicate t.m (0:Int))) x_ | _=>True) (fun val3=>(.agg #[.slice a1 t.nH c1,.slice a2 t.nW c2,.slice a3 t.m c3]::.agg #[.int .i64 (wi.house),.int .i64 (wi.well),.int .i64 (wi.sign)]::.pointer (some ⟨b1,0,none⟩)::.pointer (some ⟨b2,0,none⟩)::.slice none 0 0::undef::zu4 ((val3 0)::(val3 1)::(val3 2)::(val3 3)::(val3 4)::(val3 5)::undef::undef::undef::zu16 (zu16 [])))) xlq (by kernel_rfl) (Nat.le_of_ble_eq_true rfl) (by kernel_rfl) (by kernel_rfl) (by kernel_rfl) (fun _ _=>⟨fun _ _ h=>h.2,⟨fun _ _ h=>h.2,⟨fun _ _ h=>h.2,⟨fun _ _ h=>h.2,⟨fun _ _ h=>h.2,trivial⟩⟩⟩⟩⟩) (fun _=>by kernel_rfl) (by kernel_rfl) ?_ ?_) (fun h_ H_=>St.swap (A:=([(b2,.cells #[.int .i64 (wi.house),.int .i64 (wi.well),.int .i64 (wi.sign)] 72 (0,0)),(b1,.cells #[.slice a1 t.nH c1,.slice a2 t.nW c2,.slice a3 t.m c3] 25 (0,0))]:Pcs)) (U:=[]) H_)
 ·
  refine xbx rfl (xez ?_) ?_
  ·
   intro val3 pc4 hQ_ hX_
   obtain ⟨q_,hq0_⟩: ∃ q_:Value→Pcs→Prop,q_=(fun v_ x_=>v_= .agg #[.slice a1 t.nH c1,.slice a2 t.nW c2,.slice a3 t.m c3]∧x_=[]):=⟨_,rfl⟩
   refine ⟨(zq1 (zq2 (zq16 (zq32 [])))),[],q_,rfl,rfl,(fun _ _ z_=>by subst hq0_;exact z_),?_⟩
   subst hq0_
   exact xdw mn (fun _ h_ H_=>xav H_ tA25 tS25 rfl (i:=1) rfl (vs:=[.slice a1 t.nH c1,.slice a2 t.nW c2,.slice a3 t.m c3]) rfl rfl) ⟨rfl,rfl⟩
  refine xbx rfl (xez ?_) ?_
  ·
   intro val3 pc4 hQ_ hX_
   obtain ⟨q_,hq0_⟩: ∃ q_:Value→Pcs→Prop,q_=(fun v_ x_=>v_= .agg #[.int .i64 (wi.house),.int .i64 (wi.well),.int .i64 (wi.sign)]∧x_=[]):=⟨_,rfl⟩
   refine ⟨(zq1 (zq2 (zq16 (zq32 [])))),[],q_,rfl,rfl,(fun _ _ z_=>by subst hq0_;exact z_),?_⟩
   subst hq0_
   exact xdw mn (fun _ h_ H_=>xav H_ tA72 tS72 rfl (i:=0) rfl (vs:=[.int .i64 (wi.house),.int .i64 (wi.well),.int .i64 (wi.sign)]) rfl rfl) ⟨rfl,rfl⟩
  refine xbx rfl (xez ?_) ?_
  ·
   intro val3 pc4 hQ_ hX_
   obtain ⟨q_,hq0_⟩: ∃ q_:Value→Pcs→Prop,q_=(fun v_ x_=>v_= .pointer (some ⟨b1,2,none⟩)∧x_=[]):=⟨_,rfl⟩
   refine ⟨(zq1 (zq2 (zq16 (zq32 [])))),[],q_,rfl,rfl,(fun _ _ z_=>by subst hq0_;exact z_),?_⟩
   subst hq0_
   exact xdw mn (fun _ h_ H_=>xaz xhv rfl (a':=⟨b1,2,none⟩) rfl) ⟨rfl,rfl⟩
  refine xbx rfl (xez ?_) ?_
  ·
   intro val3 pc4 hQ_ hX_
   have e2_:val3 2= .pointer (some ⟨b1,2,none⟩):=(hQ_ 2 rfl).1
   obtain ⟨q_,hq0_⟩: ∃ q_:Value→Pcs→Prop,q_=(fun v_ x_=>v_= .slice a3 t.m c3∧x_=[]):=⟨_,rfl⟩
   refine ⟨(zq1 (zq2 (zq16 (zq32 [])))),[],q_,(by rw [e2_]),rfl,(fun _ _ z_=>by subst hq0_;exact z_),?_⟩
   subst hq0_
   exact xdw mn (fun _ h_ H_=>xaj H_ tA23 rfl (i:=1) rfl (v:=.slice a3 t.m c3) rfl) ⟨rfl,rfl⟩
  refine xbx rfl (xez ?_) ?_
  ·
   intro val3 pc4 hQ_ hX_
   have e3_:val3 3= .slice a3 t.m c3:=(hQ_ 3 rfl).1
   obtain ⟨q_,hq0_⟩: ∃ q_:Value→Pcs→Prop,q_=(fun v_ x_=>v_= .int .i64 (((t.m:Nat):Int))∧x_=[]):=⟨_,rfl⟩
   refine ⟨(zq1 (zq2 (zq16 (zq32 [])))),[],q_,(by rw [e3_]),rfl,(fun _ _ z_=>by subst hq0_;exact z_),?_⟩
   subst hq0_
   exact xdw mn (fun _ h_ H_=>xfk Tryd.underlying23 rfl) ⟨rfl,rfl⟩
  refine xbx rfl (xez ?_) ?_
  ·
   intro val3 pc4 hQ_ hX_
   have e4_:val3 4= .int .i64 (((t.m:Nat):Int)):=(hQ_ 4 rfl).1
   obtain ⟨q_,hq0_⟩: ∃ q_:Value→Pcs→Prop,q_=(fun v_ x_=>OwnS 3 1 v_ (ics (List.replicate t.m (0:Int))) x_):=⟨_,rfl⟩
   refine ⟨(zq1 (zq2 (zq16 (zq32 [])))),[],q_,(by rw [e4_]),rfl,(fun _ _ z_=>by subst hq0_;exact z_),?_⟩
   subst hq0_
   exact ywx (n:=t.m) (zc:=[.int .i64 0]) mn Tryd.underlying22 tS3 tZ3 rfl rfl (by decide) (by decide) tB3 rfl rfl (by omega) (by decide) fun _ _ o_=>o_.as (wkk _)
  exact xmw rfl
 intro val3 pc4 hQ_ hX_
 have e0_:val3 0= .agg #[.slice a1 t.nH c1,.slice a2 t.nW c2,.slice a3 t.m c3]:=(hQ_ 0 (by decide)).1
 have e1_:val3 1= .agg #[.int .i64 (wi.house),.int .i64 (wi.well),.int .i64 (wi.sign)]:=(hQ_ 1 (by decide)).1
 have e2_:val3 2= .pointer (some ⟨b1,2,none⟩):=(hQ_ 2 (by decide)).1
 have e3_:val3 3= .slice a3 t.m c3:=(hQ_ 3 (by decide)).1
 have e4_:val3 4= .int .i64 (((t.m:Nat):Int)):=(hQ_ 4 (by decide)).1
 have q5_:OwnS 3 1 (val3 5) (ics (List.replicate t.m (0:Int))) (pc4 5):=hQ_ 5 (by decide)
 clear hQ_ hX_
 refine yax (Φ:=fun h_=>St h [] p h_ (([(b2,.cells #[.int .i64 (wi.house),.int .i64 (wi.well),.int .i64 (wi.sign)] 72 (0,0)),(b1,.cells #[.slice a1 t.nH c1,.slice a2 t.nW c2,.slice a3 t.m c3] 25 (0,0))]:Pcs)++(pc4 5++[]))) ?_ (fun h_ H_=>H_.swap')
 refine xgx (tm':=(zq1 (zq2 (zq16 (zq32 []))))) (by rw [e0_,e1_,e2_,e3_,e4_]) ?_
 have o7:=q5_
 generalize val3 5=w8 at*
 obtain ⟨a9,c10,ev_,_⟩:=o7.val;have ev_:w8= .slice a9 t.m c10:=ev_.trans (congrArg (fun q_=>Value.slice a9 q_ c10) ((xck _).trans (List.length_replicate ..)));subst ev_
 refine rt (xjv tZ94 tP94 (vs:=[(0,.agg #[.slice a1 t.nH c1,.slice a2 t.nW c2,.slice a3 t.m c3]),(1,.agg #[.int .i64 (wi.house),.int .i64 (wi.well),.int .i64 (wi.sign)]),(2,(.slice a9 t.m c10))]) rfl (cells:=#[.slice a1 t.nH c1,.slice a2 t.nW c2,.slice a3 t.m c3,.int .i64 (wi.house),.int .i64 (wi.well),.int .i64 (wi.sign),(.slice a9 t.m c10)]) rfl) (tm':=zq1 (zq16 _)) rfl ?_
 refine xiw mn (v:=.agg #[.slice a1 t.nH c1,.slice a2 t.nW c2,.slice a3 t.m c3,.int .i64 (wi.house),.int .i64 (wi.well),.int .i64 (wi.sign),(.slice a9 t.m c10)]) rfl fun b11=>xcj (L':=([(b11,.cells #[.slice a1 t.nH c1,.slice a2 t.nW c2,.slice a3 t.m c3,.int .i64 (wi.house),.int .i64 (wi.well),.int .i64 (wi.sign),(.slice a9 t.m c10)] 94 (0,0)),(b2,.cells #[.int .i64 (wi.house),.int .i64 (wi.well),.int .i64 (wi.sign)] 72 (0,0)),(b1,.cells #[.slice a1 t.nH c1,.slice a2 t.nW c2,.slice a3 t.m c3] 25 (0,0))]:Pcs)++((pc4 5)++[])) rfl ?_
 refine ro (xax (v:=.pointer (some ⟨b11,0,none⟩)) rfl) <| xak <| xek ?_
 refine xiv (m₀:=(sm t.nH t.hv).toNat+0) (fun m_ tm_ h_=>∃ (n:Nat) (d:List Int) (X1:Pcs),m_=n+0∧(∃ y12:Nat→Value,tm_=[.agg #[.slice a1 t.nH c1,.slice a2 t.nW c2,.slice a3 t.m c3],.agg #[.int .i64 (wi.house),.int .i64 (wi.well),.int .i64 (wi.sign)],.pointer (some ⟨b1,0,none⟩),.pointer (some ⟨b2,0,none⟩),(y12 4),.pointer (some ⟨b11,0,none⟩),(y12 6),(y12 7),undef,(y12 9),.agg #[.slice a1 t.nH c1,.slice a2 t.nW c2,.slice a3 t.m c3],.agg #[.int .i64 (wi.house),.int .i64 (wi.well),.int .i64 (wi.sign)],.pointer (some ⟨b1,2,none⟩),.slice a3 t.m c3,.int .i64 (((t.m:Nat):Int)),(.slice a9 t.m c10),.agg #[.slice a1 t.nH c1,.slice a2 t.nW c2,.slice a3 t.m c3,.int .i64 (wi.house),.int .i64 (wi.well),.int .i64 (wi.sign),(.slice a9 t.m c10)],.pointer (some ⟨b11,0,none⟩),(y12 18),(y12 19),(y12 20),(y12 21),(y12 22),(y12 23),(y12 24),(y12 25),(y12 26),(y12 27),(y12 28),(y12 29),(y12 30),(y12 31),(y12 32),(y12 33),(y12 34),(y12 35),(y12 36),(y12 37),(y12 38),(y12 39),(y12 40),(y12 41),(y12 42),(y12 43),(y12 44),(y12 45),(y12 46),(y12 47),(y12 48),(y12 49),(y12 50)])∧(Flow.Good t wi d)∧(sm t.nH t.hv-tot t d<(n:Int)+1)∧(fairF t wi (n+1) d=fairP t wi)∧(OwnS 3 1 (.slice a9 t.m c10) (ics d) X1)∧St h [] p h_ (([(b11,.cells #[.slice a1 t.nH c1,.slice a2 t.nW c2,.slice a3 t.m c3,.int .i64 (wi.house),.int .i64 (wi.well),.int .i64 (wi.sign),(.slice a9 t.m c10)] 94 (0,0)),(b2,.cells #[.int .i64 (wi.house),.int .i64 (wi.well),.int .i64 (wi.sign)] 72 (0,0)),(b1,.cells #[.slice a1 t.nH c1,.slice a2 t.nW c2,.slice a3 t.m c3] 25 (0,0))]:Pcs)++(X1++[]))) (fun h_ H_=>⟨(sm t.nH t.hv).toNat,(List.replicate t.m 0),(pc4 5),rfl,(y_of rfl),(Flow.Good.start O.toOk S),(wfk O.toOk),rfl,o7,H_⟩) ?_
 intro m_ tm_ IH13
 refine xij fun n=>xij fun d=>xij fun X1=>xdz fun hm_=>xdz fun ht_=>xdz fun hG=>xdz fun hN=>xdz fun hF=>xdz fun o1=>?_
 subst hm_;obtain ⟨y12,ht_⟩:=ht_;subst ht_
 have hlx_:=hG.div.len
 have hb9_:=div_bd hG.div (fun i hi=>dv_le O hG.div hi)
 refine xek <| fsr <| rt (xaq (v:=.pointer (some ⟨b11,0,none⟩)) rfl) (tm':=zq4 (zq16 _)) rfl ?_
 refine xjq mn (first:=[]) (cap:=[]) rfl rfl fC97 (R:=fun v_ h_=>∃ w14:Value,∃ X15:Pcs,v_= .tuple #[w14,.int .i64 (costL t wi d)]∧(OwnS 99 5 w14 (acs (pathL t wi d)) X15)∧St h [] p h_ (([(b11,.cells #[.slice a1 t.nH c1,.slice a2 t.nW c2,.slice a3 t.m c3,.int .i64 (wi.house),.int .i64 (wi.well),.int .i64 (wi.sign),(.slice a9 t.m c10)] 94 (0,0)),(b2,.cells #[.int .i64 (wi.house),.int .i64 (wi.well),.int .i64 (wi.sign)] 72 (0,0)),(b1,.cells #[.slice a1 t.nH c1,.slice a2 t.nW c2,.slice a3 t.m c3] 25 (0,0))]:Pcs)++(X15++(X1++[])))) (fun h_ H_=>(wxx (n:=t.m) o1 ((xck _).trans hlx_) H_ (fun x_ h_=>by simp [h_]) (bt:=b11) (ob:=.cells #[.slice a1 t.nH c1,.slice a2 t.nW c2,.slice a3 t.m c3,.int .i64 (wi.house),.int .i64 (wi.well),.int .i64 (wi.sign),(.slice a9 t.m c10)] 94 (0,0)) (by simp) fun p_ a_ c_ hp_ le_ hv_ D_ hb_=>c97 md _ _ hp_ _ _ _ _ _ _ t ((show TownP _ _ _ _ _ _ _ t from ⟨T.h,T.w,T.y⟩).mono le_) O wi a_ c_ d (show Ints _ _ _ _ from D_) hG.div S _ (hv_ ▸ hb_) hG).mono fun v_ h2_ ⟨w14,X15,e_,o16,N_⟩=>⟨w14,X15,e_,o16,H_.callNA N_⟩) fun v_=>?_
 refine xfv fun w14=>xfv fun X15=>xfz fun ev_=>xfz fun o16=>?_
 have ev_:=ev_.symm;subst ev_
 refine xcj (L':=([(b11,.cells #[.slice a1 t.nH c1,.slice a2 t.nW c2,.slice a3 t.m c3,.int .i64 (wi.house),.int .i64 (wi.well),.int .i64 (wi.sign),(.slice a9 t.m c10)] 94 (0,0)),(b2,.cells #[.int .i64 (wi.house),.int .i64 (wi.well),.int .i64 (wi.sign)] 72 (0,0)),(b1,.cells #[.slice a1 t.nH c1,.slice a2 t.nW c2,.slice a3 t.m c3] 25 (0,0))]:Pcs)++(X15++(X1++[]))) rfl ?_
 refine ro (xaq (v:=.tuple #[w14,.int .i64 (costL t wi d)]) rfl) <| rt (xdx rfl (v:=w14) rfl) (tm':=zq2 (zq4 (zq16 _))) rfl <| ro (xdx rfl (v:=.int .i64 (costL t wi d)) rfl) <| ro (xax (v:=w14) rfl) <| rt (xax (v:=.int .i64 (costL t wi d)) rfl) (tm':=zq8 _) rfl <| ren ?_
 refine fsr <| ro (xaq (v:=.int .i64 (costL t wi d)) rfl) <| ro (xuj rfl rfl) <| xak ?_
 by_cases cc17:0≤costL t wi d
 ·
  refine xdk rfl (dtt cc17) <| xej ?_
  refine xgj (List.Perm.append_left _ (List.perm_append_comm_assoc _ _ _)) ?_
  refine xkv (L':=([(b11,.cells #[.slice a1 t.nH c1,.slice a2 t.nW c2,.slice a3 t.m c3,.int .i64 (wi.house),.int .i64 (wi.well),.int .i64 (wi.sign),(.slice a9 t.m c10)] 94 (0,0)),(b2,.cells #[.int .i64 (wi.house),.int .i64 (wi.well),.int .i64 (wi.sign)] 72 (0,0)),(b1,.cells #[.slice a1 t.nH c1,.slice a2 t.nW c2,.slice a3 t.m c3] 25 (0,0))]:Pcs)++(X1++(X15++[]))) rfl ?_
  refine xbq <| rt (xaq (v:=.pointer (some ⟨b11,0,none⟩)) rfl) (tm':=zq2 (zq8 (zq16 _))) rfl <| ro (xhk rfl) <| ro (xaz zvj rfl (a':=⟨b11,6,none⟩) rfl) ?_
  refine xaw mn (fun h_ H_=>xaj H_ tA22 rfl (i:=0) rfl (v:=(.slice a9 t.m c10)) rfl) (tm':=zq1 (zq4 (zq8 (zq16 _)))) rfl ?_
  refine ro (xax (v:=(.slice a9 t.m c10)) rfl) <| xak ?_
  refine xew Tryd.func68 rfl (vs:=[(.slice a9 t.m c10)]) (fun h_ H_=>⟨(.slice a9 t.m c10),_,rfl,rfl,rfl⟩) (v:=(.slice a9 t.m c10)) rfl ?_
  exact fun h_ H_=>K _ _ ⟨_,_,rfl,o1.as (by rw [← hF,wfv ‹_›]),((H_.dropA).sub (List.sublist_append_left _ _)).new⟩
 ·
  refine xcv rfl (dff cc17) <| xdq <| xej ?_
  have hneg: ¬ 0≤costL t wi d:=‹_›
  obtain ⟨n',hn_,hG',hn',hF'⟩:=wqx O.toOk S hG hneg hN hF
  have hcf:costL t wi d<Go.X.Bf.far:=by rw [ylx];omega
  have hw_:=(hG.find O.toOk S).way hcf
  have hpl:=zxw O.toOk S hG
  have hmo:=fun a ha=>(wsk (hw_.2.2.2 a ha).1).2
  have hwy:=fun a ha=>(wsk (hw_.2.2.2 a ha).1).1
  refine xjj (A:=([(b11,.cells #[.slice a1 t.nH c1,.slice a2 t.nW c2,.slice a3 t.m c3,.int .i64 (wi.house),.int .i64 (wi.well),.int .i64 (wi.sign),(.slice a9 t.m c10)] 94 (0,0)),(b2,.cells #[.int .i64 (wi.house),.int .i64 (wi.well),.int .i64 (wi.sign)] 72 (0,0)),(b1,.cells #[.slice a1 t.nH c1,.slice a2 t.nW c2,.slice a3 t.m c3] 25 (0,0))]:Pcs)) o16 (yav _) fun p18 a19 cp20 le21 ev_ D22=>?_
  subst ev_
  refine xbq <| ro (xaq (v:=.slice a19 ((pathL t wi d).length) cp20) rfl) <| rt (xfk Tryd.underlying95 rfl) (tm':=zq1 (zq2 (zq4 (zq8 (zq16 _))))) rfl <| ro (xaq (v:=.int .i64 0) rfl) <| xak <| xek ?_
  refine xiv (m₀:=(pathL t wi d).length-0) (fun m_ tm_ h_=>∃ (k:Nat) (X2:Pcs),m_=(pathL t wi d).length-k∧(∃ y23:Nat→Value,tm_=[.agg #[.slice a1 t.nH c1,.slice a2 t.nW c2,.slice a3 t.m c3],.agg #[.int .i64 (wi.house),.int .i64 (wi.well),.int .i64 (wi.sign)],.pointer (some ⟨b1,0,none⟩),.pointer (some ⟨b2,0,none⟩),(y12 4),.pointer (some ⟨b11,0,none⟩),.slice a19 ((pathL t wi d).length) cp20,.int .i64 (costL t wi d),undef,(y23 9),.agg #[.slice a1 t.nH c1,.slice a2 t.nW c2,.slice a3 t.m c3],.agg #[.int .i64 (wi.house),.int .i64 (wi.well),.int .i64 (wi.sign)],.pointer (some ⟨b1,2,none⟩),.slice a3 t.m c3,.int .i64 (((t.m:Nat):Int)),(.slice a9 t.m c10),.agg #[.slice a1 t.nH c1,.slice a2 t.nW c2,.slice a3 t.m c3,.int .i64 (wi.house),.int .i64 (wi.well),.int .i64 (wi.sign),(.slice a9 t.m c10)],.pointer (some ⟨b11,0,none⟩),.tuple #[.slice a19 ((pathL t wi d).length) cp20,.int .i64 (costL t wi d)],.pointer (some ⟨b11,0,none⟩),.tuple #[.slice a19 ((pathL t wi d).length) cp20,.int .i64 (costL t wi d)],.slice a19 ((pathL t wi d).length) cp20,.int .i64 (costL t wi d),.int .i64 (costL t wi d),.bool (decide (0≤costL t wi d)),(y12 25),(y12 26),(y12 27),(y12 28),.slice a19 ((pathL t wi d).length) cp20,.int .i64 ((((pathL t wi d).length:Nat):Int)),.int .i64 (((k:Nat):Int)),(y23 32),(y23 33),(y23 34),(y23 35),(y23 36),(y23 37),(y23 38),(y23 39),(y23 40),(y23 41),(y23 42),(y23 43),(y23 44),(y23 45),(y23 46),(y23 47),(y23 48),(y23 49),(y23 50)])∧(k≤(pathL t wi d).length)∧(OwnS 3 1 (.slice a9 t.m c10) (ics (augK d (pathL t wi d) k)) X2)∧St h [] p18 h_ (([(b11,.cells #[.slice a1 t.nH c1,.slice a2 t.nW c2,.slice a3 t.m c3,.int .i64 (wi.house),.int .i64 (wi.well),.int .i64 (wi.sign),(.slice a9 t.m c10)] 94 (0,0)),(b2,.cells #[.int .i64 (wi.house),.int .i64 (wi.well),.int .i64 (wi.sign)] 72 (0,0)),(b1,.cells #[.slice a1 t.nH c1,.slice a2 t.nW c2,.slice a3 t.m c3] 25 (0,0))]:Pcs)++(X2++[]))) (fun h_ H_=>⟨0,X1,rfl,(y_of rfl),Nat.zero_le _,(o1.as (by rw [zpx])),H_⟩) ?_
  intro m_ tm_ IH24
  refine xij fun k=>xij fun X2=>xdz fun hm_=>xdz fun ht_=>xdz fun hk=>xdz fun o2=>?_
  subst hm_;obtain ⟨y23,ht_⟩:=ht_;subst ht_
  have hlx_:(augK d (pathL t wi d) k).length=t.m:=augK_len.trans hG.div.len
  have hbk_:=wsz hmo hb9_ k hk
  have hgm_:=fun z_:k<(pathL t wi d).length=>hwy _ (zgq z_)
  have hgo_:=fun z_:k<(pathL t wi d).length=>hmo _ (zgq z_)
  refine fsr <| ro (xgw rfl rfl) <| ren ?_
  by_cases cc25:((k:Nat):Int)<(((pathL t wi d).length:Nat):Int)
  ·
   refine xdk rfl (dtt cc25) <| xdq <| xej <| xek <| fsr ?_
   refine rt (xcz (i:=k) Tryd.underlying95 tS99 (xkq a19 ((pathL t wi d).length) cp20 ((show Arcs _ _ _ (pathL t wi d) from D22).ne (by omega))) rfl (by omega)) (tm':=zq2 (zq32 _)) rfl ?_
   refine rd (fun h_ H_=>xhx H_ tA99 tS99 rfl (vs:=[.int .i64 (((((pathL t wi d).getD k Go.X.Bf.a0).fr:Nat):Int)),.int .i64 (((((pathL t wi d).getD k Go.X.Bf.a0).to:Nat):Int)),.int .i64 (((pathL t wi d).getD k Go.X.Bf.a0).cost),.int .i64 (((pathL t wi d).getD k Go.X.Bf.a0).way),.int .i64 (((pathL t wi d).getD k Go.X.Bf.a0).more)]) rfl ((show Arcs _ _ _ (pathL t wi d) from D22).all (by omega))) ?_
   refine xkz mn tZ99 rfl fun b26=>xcj (L':=([(b26,.cells #[.int .i64 0,.int .i64 0,.int .i64 0,.int .i64 0,.int .i64 0] 99 (0,0)),(b11,.cells #[.slice a1 t.nH c1,.slice a2 t.nW c2,.slice a3 t.m c3,.int .i64 (wi.house),.int .i64 (wi.well),.int .i64 (wi.sign),(.slice a9 t.m c10)] 94 (0,0)),(b2,.cells #[.int .i64 (wi.house),.int .i64 (wi.well),.int .i64 (wi.sign)] 72 (0,0)),(b1,.cells #[.slice a1 t.nH c1,.slice a2 t.nW c2,.slice a3 t.m c3] 25 (0,0))]:Pcs)++(X2++[])) rfl ?_
   refine xjk mn tS99 rfl (v:=.agg #[.int .i64 (((((pathL t wi d).getD k Go.X.Bf.a0).fr:Nat):Int)),.int .i64 (((((pathL t wi d).getD k Go.X.Bf.a0).to:Nat):Int)),.int .i64 (((pathL t wi d).getD k Go.X.Bf.a0).cost),.int .i64 (((pathL t wi d).getD k Go.X.Bf.a0).way),.int .i64 (((pathL t wi d).getD k Go.X.Bf.a0).more)]) rfl (i:=0) rfl rfl rfl (Nat.le_of_ble_eq_true rfl) (cs2:=[.int .i64 (((((pathL t wi d).getD k Go.X.Bf.a0).fr:Nat):Int)),.int .i64 (((((pathL t wi d).getD k Go.X.Bf.a0).to:Nat):Int)),.int .i64 (((pathL t wi d).getD k Go.X.Bf.a0).cost),.int .i64 (((pathL t wi d).getD k Go.X.Bf.a0).way),.int .i64 (((pathL t wi d).getD k Go.X.Bf.a0).more)]) rfl (xcj (L':=([(b26,.cells #[.int .i64 (((((pathL t wi d).getD k Go.X.Bf.a0).fr:Nat):Int)),.int .i64 (((((pathL t wi d).getD k Go.X.Bf.a0).to:Nat):Int)),.int .i64 (((pathL t wi d).getD k Go.X.Bf.a0).cost),.int .i64 (((pathL t wi d).getD k Go.X.Bf.a0).way),.int .i64 (((pathL t wi d).getD k Go.X.Bf.a0).more)] 99 (0,0)),(b11,.cells #[.slice a1 t.nH c1,.slice a2 t.nW c2,.slice a3 t.m c3,.int .i64 (wi.house),.int .i64 (wi.well),.int .i64 (wi.sign),(.slice a9 t.m c10)] 94 (0,0)),(b2,.cells #[.int .i64 (wi.house),.int .i64 (wi.well),.int .i64 (wi.sign)] 72 (0,0)),(b1,.cells #[.slice a1 t.nH c1,.slice a2 t.nW c2,.slice a3 t.m c3] 25 (0,0))]:Pcs)++(X2++[])) rfl ?_)
   refine ren ?_
   have z1_:=hgm_ (by omega)
   have z2_:=hgo_ (by omega)
   refine xbq <| rt (xaz vcv rfl (a':=⟨b26,3,none⟩) rfl) (tm':=zq1 (zq2 (zq16 (zq32 [])))) rfl <| rd (fun h_ H_=>xaj H_ tA3 rfl (i:=0) rfl (v:=.int .i64 (((pathL t wi d).getD k Go.X.Bf.a0).way)) rfl) <| ro (xuj rfl rfl) <| xak ?_
   by_cases cc27:0≤((pathL t wi d).getD k Go.X.Bf.a0).way
   ·
    refine xdk rfl (dtt cc27) ?_
    refine xfw 10 [[],[0],[0,1],[0,1,2],[],[4],[0,1,2,3,4,5],[0,1,2,3,4,5,6],[],[8],[],[],[]] xlq (by kernel_rfl) (Nat.le_of_ble_eq_true rfl) ?_
    refine wt (xaq (v:=.pointer (some ⟨b11,0,none⟩)) rfl) (tm':=zq1 (zq2 (zq16 (zq32 [])))) rfl <| wo (xhk rfl) <| wt (xaz zvj rfl (a':=⟨b11,6,none⟩) rfl) (tm':=zq1 (zq2 (zq16 (zq32 [])))) rfl <| wd (fun h_ H_=>xaj H_ tA22 rfl (i:=1) rfl (v:=(.slice a9 t.m c10)) rfl) <| wt (xaz vcv rfl (a':=⟨b26,3,none⟩) rfl) (tm':=zq1 (zq2 (zq16 (zq32 [])))) rfl <| wd (fun h_ H_=>xaj H_ tA3 rfl (i:=0) rfl (v:=.int .i64 (((pathL t wi d).getD k Go.X.Bf.a0).way)) rfl) ?_
    refine wt (xpz o2 Tryd.underlying22 tS3 rfl rfl (by omega) (by rw [((xck _).trans hlx_)];omega)) (tm':=zq1 (zq2 (zq16 (zq32 [])))) rfl ?_
    refine wd (fun h_ H_=>xnx (A:=([(b26,.cells #[.int .i64 (((((pathL t wi d).getD k Go.X.Bf.a0).fr:Nat):Int)),.int .i64 (((((pathL t wi d).getD k Go.X.Bf.a0).to:Nat):Int)),.int .i64 (((pathL t wi d).getD k Go.X.Bf.a0).cost),.int .i64 (((pathL t wi d).getD k Go.X.Bf.a0).way),.int .i64 (((pathL t wi d).getD k Go.X.Bf.a0).more)] 99 (0,0)),(b11,.cells #[.slice a1 t.nH c1,.slice a2 t.nW c2,.slice a3 t.m c3,.int .i64 (wi.house),.int .i64 (wi.well),.int .i64 (wi.sign),(.slice a9 t.m c10)] 94 (0,0)),(b2,.cells #[.int .i64 (wi.house),.int .i64 (wi.well),.int .i64 (wi.sign)] 72 (0,0)),(b1,.cells #[.slice a1 t.nH c1,.slice a2 t.nW c2,.slice a3 t.m c3] 25 (0,0))]:Pcs)) (i:=((((pathL t wi d).getD k Go.X.Bf.a0).way)).toNat) (j:=0) (e:=[.int .i64 ((augK d (pathL t wi d) k).getD (((((pathL t wi d).getD k Go.X.Bf.a0).way)).toNat) 0)]) o2 H_ tA3 rfl rfl (xpj (by rw [hlx_];omega)) (u:=.int .i64 ((augK d (pathL t wi d) k).getD (((((pathL t wi d).getD k Go.X.Bf.a0).way)).toNat) 0)) rfl) ?_
    refine wt (xaz tF99_4 rfl (a':=⟨b26,4,none⟩) rfl) (tm':=zq1 (zq2 (zq16 (zq32 [])))) rfl <| wd (fun h_ H_=>xaj H_ tA3 rfl (i:=0) rfl (v:=.int .i64 (((pathL t wi d).getD k Go.X.Bf.a0).more)) rfl) ?_
    refine xiz rfl ?_
    refine ro (xfx rfl rfl (wr (by have z3_:=hbk_ ((pathL t wi d).getD k Go.X.Bf.a0).way.toNat;omega))) ?_
    refine ro (xpz o2 Tryd.underlying22 tS3 rfl rfl (by omega) (by rw [((xck _).trans hlx_)];omega)) ?_
    refine xsz (A:=([(b26,.cells #[.int .i64 (((((pathL t wi d).getD k Go.X.Bf.a0).fr:Nat):Int)),.int .i64 (((((pathL t wi d).getD k Go.X.Bf.a0).to:Nat):Int)),.int .i64 (((pathL t wi d).getD k Go.X.Bf.a0).cost),.int .i64 (((pathL t wi d).getD k Go.X.Bf.a0).way),.int .i64 (((pathL t wi d).getD k Go.X.Bf.a0).more)] 99 (0,0)),(b11,.cells #[.slice a1 t.nH c1,.slice a2 t.nW c2,.slice a3 t.m c3,.int .i64 (wi.house),.int .i64 (wi.well),.int .i64 (wi.sign),(.slice a9 t.m c10)] 94 (0,0)),(b2,.cells #[.int .i64 (wi.house),.int .i64 (wi.well),.int .i64 (wi.sign)] 72 (0,0)),(b1,.cells #[.slice a1 t.nH c1,.slice a2 t.nW c2,.slice a3 t.m c3] 25 (0,0))]:Pcs)) (i:=((((pathL t wi d).getD k Go.X.Bf.a0).way)).toNat) (j:=0) (e:=[.int .i64 ((augK d (pathL t wi d) k).getD (((((pathL t wi d).getD k Go.X.Bf.a0).way)).toNat) 0)]) (u:=.int .i64 (((augK d (pathL t wi d) k).getD (((((pathL t wi d).getD k Go.X.Bf.a0).way)).toNat) 0)+(((pathL t wi d).getD k Go.X.Bf.a0).more))) o2 mn tS3 rfl rfl rfl ⟨rfl,rfl⟩ (xpj (by rw [hlx_];omega)) (Nat.succ_le_iff.1 (Nat.le_of_ble_eq_true rfl)) fun X28 o29=>?_
    have o30:OwnS 3 1 (.slice a9 t.m c10) (ics ((augK d (pathL t wi d) k).set (((((pathL t wi d).getD k Go.X.Bf.a0).way)).toNat) (((augK d (pathL t wi d) k).getD (((((pathL t wi d).getD k Go.X.Bf.a0).way)).toNat) 0)+(((pathL t wi d).getD k Go.X.Bf.a0).more)))) X28:=o29.as xwj
    refine xak <| xeq <| xbq ?_
    refine rt (xfx rfl rfl (n:=((k+1:Nat):Int)) (wr (by omega))) (tm':=zq1 (zq2 (zq16 (zq32 [])))) rfl ?_
    refine ro (xaq (v:=.int .i64 (((k+1:Nat):Int))) rfl) <| xak ?_
    exact fun h_ H_=>IH24 _ _ (by omega) h_ ⟨k+1,X28,rfl,(y_of rfl),(by omega),(o30.as (congrArg ics (vbq (by omega) ‹_›))),H_.drop⟩
   ·
    refine xcv rfl (dff cc27) <| xdq <| xeq <| xbq ?_
    refine ro (xfx rfl rfl (n:=((k+1:Nat):Int)) (wr (by omega))) ?_
    refine rt (xaq (v:=.int .i64 (((k+1:Nat):Int))) rfl) (tm':=zq32 _) rfl <| xak ?_
    exact fun h_ H_=>IH24 _ _ (by omega) h_ ⟨k+1,X2,rfl,(y_of rfl),(by omega),(o2.as (congrArg ics (augK_no (by omega) ‹_›))),H_.drop⟩
  ·
   refine xcv rfl (dff cc25) <| xiq rfl <| xeq ?_
   exact fun h_ H_=>IH13 _ _ (by omega) h_ ⟨n',(aug d (pathL t wi d)),X2,rfl,(y_of rfl),hG',hn',hF',(o2.as (by rw [vbx (by omega)])),(H_.forget le21)⟩
end Go.Proofs.YtalfgojocdonhaaDoor
namespace Go.Proofs.YtalfgojocdonhaaDoor
open Go.X Go.X.Flow Go.Conc
set_option maxRecDepth 10000
set_option synthInstance.maxSize 2000

set_option maxHeartbeats 2000000
theorem ywj (md:Md) {h h₀:Heap} {B₀:List Nat} {p:PHeap} {A C X U:Pcs} {a1 a2 a3:Option Addr} {c1 c2 c3:Nat} {t:Tn} (T:TownP p a1 t.nH a2 t.nW a3 t.m t) (O:OkT t) {w:Value} {d:List Int} (Dv:Div t d) (o:OwnS 3 1 w (ics d) X) (hn:(ics d).length=t.m) (hX: ∀ x∈X,x∈U) (s:St h₀ B₀ p h (U++(A++C))):
  CallsX Tryd.prog md 67 #[.agg #[.slice a1 t.nH c1,.slice a2 t.nW c2,.slice a3 t.m c3],w] h fun v h'=>∃ x,(∃ w1 w2 X1 X2,v= .tuple #[w1,w2]∧(OwnS 3 1 w1 (ics (lackL t d)) X1)∧(OwnS 3 1 w2 (ics (hasL t d)) X2)∧x=(X2++(X1++[])))∧St h₀ B₀ p h' (x++(A++C)):=
 ygw o hn s (fun x hx=>List.mem_append_left _ (hX x hx)) fun p' a cap hp le hv D=>by
  subst hv
  exact (wox md hp (T.mono le) O (show Ints _ _ _ d from D) Dv).mono fun v h' ⟨w1,w2,X1,X2,e,o1,o2,N⟩=>⟨_,⟨w1,w2,X1,X2,e,o1,o2,rfl⟩,(s.callN N).sub (List.Sublist.append_left (List.sublist_append_right _ _) _)⟩
theorem yoz (md:Md) {h:Heap} {p:PHeap} (hp:Per p h) {a b:Option Addr} {m n c d:Nat} {xs ys:List Int} (A:Ints p a m xs) (B:Ints p b n ys) (hm:m≤2 ^ 40):CallsX Tryd.prog md 59 #[.slice a m c,.slice b n d] h fun v h'=>v= .bool (decide (earlier xs ys=true))∧Keep h h':=
 (c59 md h p hp a b m n c d xs ys A B hm).mono fun v h' ⟨e,k⟩=>⟨by rw [e,Bool.decide_eq_true],k⟩
theorem c81 (md:Md) (h:Heap) (p:PHeap) (hp:Per p h) (a1 a2 a3:Option Addr) (c1 c2 c3:Nat) (t:Tn) (T:TownP p a1 t.nH a2 t.nW a3 t.m t) (O:OkT t) (N:NoneP p):CallsX Tryd.prog md 81 #[.agg #[.slice a1 t.nH c1,.slice a2 t.nW c2,.slice a3 t.m c3]] h fun v h'=>∃ w X,v=w∧OwnS 3 1 w (ics (LK t)) X∧New h h' X:=by
 refine xcw (Φ:=fun h_=>St h [] p h_ []) Tryd.func81 rfl (tm:=zq1 (zq2 (zq4 (zq8 [])))) rfl ?_ (St.start h _ hp)
 intro c₀ cs Stop K
 have oH:=O.nh
 have oW:=O.nw
 have oM:=O.nm
 have hN_:=N
 obtain ⟨tN,zN,hN⟩:=hN_
 refine fsr ?_
 refine xiw mn (v:=.agg #[.slice a1 t.nH c1,.slice a2 t.nW c2,.slice a3 t.m c3]) rfl fun b1=>xcj (L':=[(b1,.cells #[.slice a1 t.nH c1,.slice a2 t.nW c2,.slice a3 t.m c3] 25 (0,0))]) rfl ?_
 refine ro (xax (v:=.slice none 0 0) rfl) <| ren ?_
 obtain ⟨Gw7,GX8,hG3_⟩:=sk2 (fun (v_:Value) (x_:Pcs) (w7:Value) (X8:Pcs)=>v_=w7∧(OwnS 3 1 w7 (ics (fairP t none0)) X8)∧x_=(X8++[]))
 obtain ⟨Gw10,Gw11,GX12,GX13,hG4_⟩:=sk4 (fun (v_:Value) (x_:Pcs) (w10:Value) (w11:Value) (X12:Pcs) (X13:Pcs)=>v_= .tuple #[w10,w11]∧(OwnS 3 1 w10 (ics (lackL t (fairP t none0))) X12)∧(OwnS 3 1 w11 (ics (hasL t (fairP t none0))) X13)∧x_=(X13++(X12++[])))
 refine ybx (xnq (C:=[]) (A:=([(b1,.cells #[.slice a1 t.nH c1,.slice a2 t.nW c2,.slice a3 t.m c3] 25 (0,0))]:Pcs)) 9 [[],[],[],[],[],[4],[],[],[],[]] [] [4] [0,1,2,5,6,7,8] (fun _=>[]) (fun i_=>match i_ with | 4=>[3] | _=>[]) (fun i_=>match i_ with | 0=>[] | 1=>[] | 2=>[] | 3=>[1,2] | 4=>[0,3] | 5=>[4] | 6=>[4,5] | 7=>[4,5] | 8=>[0,1,2,3,4,5,6] | _=>[]) (fun i_ val_ pc_ v_ x_=>match i_ with | 0=>v_= .agg #[.slice a1 t.nH c1,.slice a2 t.nW c2,.slice a3 t.m c3]∧x_=[] | 1=>v_= .agg #[.slice a1 t.nH c1,.slice a2 t.nW c2,.slice a3 t.m c3]∧x_=[] | 2=>v_= .agg #[.int .i64 (-1),.int .i64 (-1),.int .i64 0]∧x_=[] | 3=>∃ w7:Value,∃ X8:Pcs,v_=w7∧(OwnS 3 1 w7 (ics (fairP t none0)) X8)∧x_=(X8++[]) | 4=>∃ w10:Value,∃ w11:Value,∃ X12:Pcs,∃ X13:Pcs,v_= .tuple #[w10,w11]∧(OwnS 3 1 w10 (ics (lackL t (fairP t none0))) X12)∧(OwnS 3 1 w11 (ics (hasL t (fairP t none0))) X13)∧x_=(X13++(X12++[])) | 5=>v_= .tuple #[(Gw10 (val_ 4) (pc_ 4)),(Gw11 (val_ 4) (pc_ 4))]∧x_=[] | 6=>v_=(Gw10 (val_ 4) (pc_ 4))∧x_=[] | 7=>v_=(Gw11 (val_ 4) (pc_ 4))∧x_=[] | 8=>v_=(Gw10 (val_ 4) (pc_ 4))∧x_=[] | _=>True) (fun val5=>[.agg #[.slice a1 t.nH c1,.slice a2 t.nW c2,.slice a3 t.m c3],.pointer (some ⟨b1,0,none⟩),.slice none 0 0,(val5 8),undef,(val5 5),(val5 0),(val5 1),(val5 2),(val5 3),(val5 4),(val5 6),(val5 7),undef,undef]) xlq (by kernel_rfl) (Nat.le_of_ble_eq_true rfl) (by kernel_rfl) (by kernel_rfl) (by kernel_rfl) (fun _ _=>⟨fun _ _ h=>h.2,⟨fun _ _ h=>h.2,⟨fun _ _ h=>h.2,⟨fun _ _ h=>h.2,⟨fun _ _ h=>h.2,⟨fun _ _ h=>h.2,⟨fun _ _ h=>h.2,trivial⟩⟩⟩⟩⟩⟩⟩) (fun _=>by kernel_rfl) (by kernel_rfl) ?_ ?_) (fun h_ H_=>St.swap (A:=([(b1,.cells #[.slice a1 t.nH c1,.slice a2 t.nW c2,.slice a3 t.m c3] 25 (0,0))]:Pcs)) (U:=[]) H_)
 ·
  refine xbx rfl (xez ?_) ?_
  ·
   intro val5 pc6 hQ_ hX_
   obtain ⟨q_,hq0_⟩: ∃ q_:Value→Pcs→Prop,q_=(fun v_ x_=>v_= .agg #[.slice a1 t.nH c1,.slice a2 t.nW c2,.slice a3 t.m c3]∧x_=[]):=⟨_,rfl⟩
   refine ⟨(zq1 (zq2 (zq4 (zq8 [])))),[],q_,rfl,rfl,(fun _ _ z_=>by subst hq0_;exact z_),?_⟩
   subst hq0_
   exact xdw mn (fun _ h_ H_=>xav H_ tA25 tS25 rfl (i:=0) rfl (vs:=[.slice a1 t.nH c1,.slice a2 t.nW c2,.slice a3 t.m c3]) rfl rfl) ⟨rfl,rfl⟩
  refine xbx rfl (xez ?_) ?_
  ·
   intro val5 pc6 hQ_ hX_
   obtain ⟨q_,hq0_⟩: ∃ q_:Value→Pcs→Prop,q_=(fun v_ x_=>v_= .agg #[.slice a1 t.nH c1,.slice a2 t.nW c2,.slice a3 t.m c3]∧x_=[]):=⟨_,rfl⟩
   refine ⟨(zq1 (zq2 (zq4 (zq8 [])))),[],q_,rfl,rfl,(fun _ _ z_=>by subst hq0_;exact z_),?_⟩
   subst hq0_
   exact xdw mn (fun _ h_ H_=>xav H_ tA25 tS25 rfl (i:=0) rfl (vs:=[.slice a1 t.nH c1,.slice a2 t.nW c2,.slice a3 t.m c3]) rfl rfl) ⟨rfl,rfl⟩
  refine xbx rfl (xez ?_) ?_
  ·
   intro val5 pc6 hQ_ hX_
   obtain ⟨q_,hq0_⟩: ∃ q_:Value→Pcs→Prop,q_=(fun v_ x_=>v_= .agg #[.int .i64 (-1),.int .i64 (-1),.int .i64 0]∧x_=[]):=⟨_,rfl⟩
   refine ⟨(zq1 (zq2 (zq4 (zq8 [])))),[],q_,rfl,rfl,(fun _ _ z_=>by subst hq0_;exact z_),?_⟩
   subst hq0_
   exact xdw mn (fun _ h_ H_=>xhx H_ tA72 tS72 rfl (vs:=[.int .i64 (-1),.int .i64 (-1),.int .i64 0]) rfl (xvk (n:=3) hN rfl)) ⟨rfl,rfl⟩
  refine xbx rfl (xez ?_) ?_
  ·
   intro val5 pc6 hQ_ hX_
   have e1_:val5 1= .agg #[.slice a1 t.nH c1,.slice a2 t.nW c2,.slice a3 t.m c3]:=(hQ_ 1 rfl).1
   have e2_:val5 2= .agg #[.int .i64 (-1),.int .i64 (-1),.int .i64 0]:=(hQ_ 2 rfl).1
   obtain ⟨q_,hq0_⟩: ∃ q_:Value→Pcs→Prop,q_=(fun v_ x_=>∃ w7:Value,∃ X8:Pcs,v_=w7∧(OwnS 3 1 w7 (ics (fairP t none0)) X8)∧x_=(X8++[])):=⟨_,rfl⟩
   refine ⟨(zq1 (zq2 (zq4 (zq8 [])))),[],q_,(by rw [e1_,e2_]),rfl,(fun _ _ z_=>by subst hq0_;exact z_),?_⟩
   subst hq0_
   exact xww mn (first:=[]) (cap:=[]) rfl rfl fC68 (fun _ h_ H_=>(c68 md _ _ H_.pe _ _ _ _ _ _ t (show TownP _ _ _ _ _ _ _ t from ⟨T.h,T.w,T.y⟩) O none0 xlj).mono fun v_ h2_ ⟨w7,X8,e_,o9,N_⟩=>⟨_,⟨w7,X8,e_,o9,rfl⟩,H_.callN (show New _ _ (X8++[]) by rw [List.append_nil];exact N_)⟩)
  refine xbx rfl (xez ?_) ?_
  ·
   intro val5 pc6 hQ_ hX_
   have e0_:val5 0= .agg #[.slice a1 t.nH c1,.slice a2 t.nW c2,.slice a3 t.m c3]:=(hQ_ 0 rfl).1
   obtain ⟨e3_,o9,x3_⟩:=hG3_ _ _ (hQ_ 3 rfl)
   generalize hg_w7:Gw7 (val5 3) (pc6 3)=w7 at*
   generalize hg_X8:GX8 (val5 3) (pc6 3)=X8 at*
   obtain ⟨q_,hq0_⟩: ∃ q_:Value→Pcs→Prop,q_=(fun v_ x_=>∃ w10:Value,∃ w11:Value,∃ X12:Pcs,∃ X13:Pcs,v_= .tuple #[w10,w11]∧(OwnS 3 1 w10 (ics (lackL t (fairP t none0))) X12)∧(OwnS 3 1 w11 (ics (hasL t (fairP t none0))) X13)∧x_=(X13++(X12++[]))):=⟨_,rfl⟩
   refine ⟨(zq1 (zq2 (zq4 (zq8 [])))),((X8++[])++[]),q_,(by rw [e0_,e3_]),(by rw [← x3_];rfl),(fun _ _ z_=>by subst hq0_ hg_w7 hg_X8;exact z_),?_⟩
   subst hq0_
   exact xww mn (first:=[]) (cap:=[]) rfl rfl fC67 (fun _ h_ H_=>ywj md (show TownP _ _ _ _ _ _ _ t from ⟨T.h,T.w,T.y⟩) O (xjw O.toOk xlj).div o9 ((xck _).trans (yak t _)) (fun x_ h_=>by simp [h_]) H_)
  refine xbx rfl (xez ?_) ?_
  ·
   intro val5 pc6 hQ_ hX_
   obtain ⟨e4_,o14,o15,x4_⟩:=hG4_ _ _ (hQ_ 4 rfl)
   generalize hg_w10:Gw10 (val5 4) (pc6 4)=w10 at*
   generalize hg_w11:Gw11 (val5 4) (pc6 4)=w11 at*
   generalize hg_X12:GX12 (val5 4) (pc6 4)=X12 at*
   generalize hg_X13:GX13 (val5 4) (pc6 4)=X13 at*
   obtain ⟨q_,hq0_⟩: ∃ q_:Value→Pcs→Prop,q_=(fun v_ x_=>v_= .tuple #[w10,w11]∧x_=[]):=⟨_,rfl⟩
   refine ⟨(zq1 (zq2 (zq4 (zq8 [])))),[],q_,(by rw [e4_]),rfl,(fun _ _ z_=>by subst hq0_ hg_w10 hg_w11 hg_X12 hg_X13;exact z_),?_⟩
   subst hq0_
   exact xdw mn (fun _ h_ H_=>xaq (v:=.tuple #[w10,w11]) rfl) ⟨rfl,rfl⟩
  refine xbx rfl (xez ?_) ?_
  ·
   intro val5 pc6 hQ_ hX_
   obtain ⟨e4_,o14,o15,x4_⟩:=hG4_ _ _ (hQ_ 4 rfl)
   have e5_:val5 5= .tuple #[(Gw10 (val5 4) (pc6 4)),(Gw11 (val5 4) (pc6 4))]:=(hQ_ 5 rfl).1
   generalize hg_w10:Gw10 (val5 4) (pc6 4)=w10 at*
   generalize hg_w11:Gw11 (val5 4) (pc6 4)=w11 at*
   generalize hg_X12:GX12 (val5 4) (pc6 4)=X12 at*
   generalize hg_X13:GX13 (val5 4) (pc6 4)=X13 at*
   obtain ⟨q_,hq0_⟩: ∃ q_:Value→Pcs→Prop,q_=(fun v_ x_=>v_=w10∧x_=[]):=⟨_,rfl⟩
   refine ⟨(zq1 (zq2 (zq4 (zq8 [])))),[],q_,(by rw [e4_,e5_]),rfl,(fun _ _ z_=>by subst hq0_ hg_w10 hg_w11 hg_X12 hg_X13;exact z_),?_⟩
   subst hq0_
   exact xdw mn (fun _ h_ H_=>xdx rfl (v:=w10) rfl) ⟨rfl,rfl⟩
  refine xbx rfl (xez ?_) ?_
  ·
   intro val5 pc6 hQ_ hX_
   obtain ⟨e4_,o14,o15,x4_⟩:=hG4_ _ _ (hQ_ 4 rfl)
   have e5_:val5 5= .tuple #[(Gw10 (val5 4) (pc6 4)),(Gw11 (val5 4) (pc6 4))]:=(hQ_ 5 rfl).1
   generalize hg_w10:Gw10 (val5 4) (pc6 4)=w10 at*
   generalize hg_w11:Gw11 (val5 4) (pc6 4)=w11 at*
   generalize hg_X12:GX12 (val5 4) (pc6 4)=X12 at*
   generalize hg_X13:GX13 (val5 4) (pc6 4)=X13 at*
   obtain ⟨q_,hq0_⟩: ∃ q_:Value→Pcs→Prop,q_=(fun v_ x_=>v_=w11∧x_=[]):=⟨_,rfl⟩
   refine ⟨(zq1 (zq2 (zq4 (zq8 [])))),[],q_,(by rw [e4_,e5_]),rfl,(fun _ _ z_=>by subst hq0_ hg_w10 hg_w11 hg_X12 hg_X13;exact z_),?_⟩
   subst hq0_
   exact xdw mn (fun _ h_ H_=>xdx rfl (v:=w11) rfl) ⟨rfl,rfl⟩
  refine xbx rfl (xez ?_) ?_
  ·
   intro val5 pc6 hQ_ hX_
   have e0_:val5 0= .agg #[.slice a1 t.nH c1,.slice a2 t.nW c2,.slice a3 t.m c3]:=(hQ_ 0 rfl).1
   have e1_:val5 1= .agg #[.slice a1 t.nH c1,.slice a2 t.nW c2,.slice a3 t.m c3]:=(hQ_ 1 rfl).1
   have e2_:val5 2= .agg #[.int .i64 (-1),.int .i64 (-1),.int .i64 0]:=(hQ_ 2 rfl).1
   obtain ⟨e3_,o9,x3_⟩:=hG3_ _ _ (hQ_ 3 rfl)
   obtain ⟨e4_,o14,o15,x4_⟩:=hG4_ _ _ (hQ_ 4 rfl)
   have e5_:val5 5= .tuple #[(Gw10 (val5 4) (pc6 4)),(Gw11 (val5 4) (pc6 4))]:=(hQ_ 5 rfl).1
   have e6_:val5 6=(Gw10 (val5 4) (pc6 4)):=(hQ_ 6 rfl).1
   generalize hg_w7:Gw7 (val5 3) (pc6 3)=w7 at*
   generalize hg_X8:GX8 (val5 3) (pc6 3)=X8 at*
   generalize hg_w10:Gw10 (val5 4) (pc6 4)=w10 at*
   generalize hg_w11:Gw11 (val5 4) (pc6 4)=w11 at*
   generalize hg_X12:GX12 (val5 4) (pc6 4)=X12 at*
   generalize hg_X13:GX13 (val5 4) (pc6 4)=X13 at*
   obtain ⟨q_,hq0_⟩: ∃ q_:Value→Pcs→Prop,q_=(fun v_ x_=>v_=w10∧x_=[]):=⟨_,rfl⟩
   refine ⟨(zq1 (zq2 (zq4 (zq8 [])))),[],q_,(by rw [e0_,e1_,e2_,e3_,e4_,e5_,e6_]),rfl,(fun _ _ z_=>by subst hq0_ hg_w7 hg_X8 hg_w10 hg_w11 hg_X12 hg_X13;exact z_),?_⟩
   subst hq0_
   exact xdw mn (fun _ h_ H_=>xax (v:=w10) rfl) ⟨rfl,rfl⟩
  exact xmw rfl
 intro val5 pc6 hQ_ hX_
 have e0_:val5 0= .agg #[.slice a1 t.nH c1,.slice a2 t.nW c2,.slice a3 t.m c3]:=(hQ_ 0 (by decide)).1
 have e1_:val5 1= .agg #[.slice a1 t.nH c1,.slice a2 t.nW c2,.slice a3 t.m c3]:=(hQ_ 1 (by decide)).1
 have e2_:val5 2= .agg #[.int .i64 (-1),.int .i64 (-1),.int .i64 0]:=(hQ_ 2 (by decide)).1
 obtain ⟨e3_,o9,x3_⟩:=hG3_ _ _ (hQ_ 3 (by decide))
 obtain ⟨e4_,o14,o15,x4_⟩:=hG4_ _ _ (hQ_ 4 (by decide))
 have e5_:val5 5= .tuple #[(Gw10 (val5 4) (pc6 4)),(Gw11 (val5 4) (pc6 4))]:=(hQ_ 5 (by decide)).1
 have e6_:val5 6=(Gw10 (val5 4) (pc6 4)):=(hQ_ 6 (by decide)).1
 have e7_:val5 7=(Gw11 (val5 4) (pc6 4)):=(hQ_ 7 (by decide)).1
 have e8_:val5 8=(Gw10 (val5 4) (pc6 4)):=(hQ_ 8 (by decide)).1
 clear hQ_ hX_
 generalize Gw7 (val5 3) (pc6 3)=w7 at*
 generalize GX8 (val5 3) (pc6 3)=X8 at*
 generalize Gw10 (val5 4) (pc6 4)=w10 at*
 generalize Gw11 (val5 4) (pc6 4)=w11 at*
 generalize GX12 (val5 4) (pc6 4)=X12 at*
 generalize GX13 (val5 4) (pc6 4)=X13 at*
 refine yax (Φ:=fun h_=>St h [] p h_ (([(b1,.cells #[.slice a1 t.nH c1,.slice a2 t.nW c2,.slice a3 t.m c3] 25 (0,0))]:Pcs)++(pc6 4++[]))) ?_ (fun h_ H_=>H_.swap')
 rw [x4_]
 refine xcj (L':=([(b1,.cells #[.slice a1 t.nH c1,.slice a2 t.nW c2,.slice a3 t.m c3] 25 (0,0))]:Pcs)++(X13++(X12++[]))) (by simp) ?_
 refine xgx (tm':=(zq1 (zq2 (zq4 (zq8 []))))) (by rw [e0_,e1_,e2_,e3_,e4_,e5_,e6_,e7_,e8_]) ?_
 refine rt (xax (v:=w11) rfl) (tm':=zq1 (zq4 _)) rfl <| ren ?_
 refine xgj (List.Perm.append_left _ (List.perm_append_comm_assoc _ _ _)) ?_
 refine xkv (L':=([(b1,.cells #[.slice a1 t.nH c1,.slice a2 t.nW c2,.slice a3 t.m c3] 25 (0,0))]:Pcs)++(X12++(X13++[]))) rfl ?_
 refine xbq <| ro (xaq (v:=w10) rfl) ?_
 refine xjq mn (first:=[]) (cap:=[]) rfl rfl fC91 (R:=fun v_ h_=>∃ X18:Pcs,v_=w10∧OwnS 3 1 w10 (ics (srt (lackL t (fairP t none0)))) X18∧St h [] p h_ (([(b1,.cells #[.slice a1 t.nH c1,.slice a2 t.nW c2,.slice a3 t.m c3] 25 (0,0))]:Pcs)++(X18++(X13++[])))) (fun h_ H_=>(c91 md _ _ _ _ w10 (lackL t (fairP t none0)) _ _ o14 ((lackL t (fairP t none0)).length) (⟨rfl,by rw [xyq];omega⟩) (H_.lentTo)).mono fun v_ h2_ ⟨X_,e_,o_,N_⟩=>⟨X_,e_,o_,N_.lentBack⟩) fun v_=>?_
 refine xfv fun X18=>xfz fun ev_=>xfz fun o19=>?_
 have ev_:=ev_.symm;subst ev_
 refine rt (xax (v:=w10) rfl) (tm':=_::_::_::_) rfl <| xak ?_
 refine xew Tryd.func81 rfl (vs:=[w10]) (fun h_ H_=>⟨w10,_,rfl,rfl,rfl⟩) (v:=w10) rfl ?_
 exact fun h_ H_=>K _ _ ⟨_,_,rfl,o19,((H_.dropA).sub (List.sublist_append_left _ _)).new⟩
theorem c28 (md:Md) (h:Heap) (p:PHeap) (hp:Per p h) (a1 a2 a3:Option Addr) (c1 c2 c3:Nat) (t:Tn) (T:TownP p a1 t.nH a2 t.nW a3 t.m t) (hn:t.nH≤40∧t.nW≤40∧t.m≤41) (N:NoneP p):CallsX Tryd.prog md 28 #[.agg #[.slice a1 t.nH c1,.slice a2 t.nW c2,.slice a3 t.m c3]] h fun v h'=>v= .tuple #[.int .i64 (mostC t),.int .i64 (chkB t)]∧Keep h h':=by
 refine xcw (Φ:=fun h_=>St h [] p h_ []) Tryd.func28 rfl (tm:=zq2 (zq4 (zq8 []))) rfl ?_ (St.start h _ hp)
 intro c₀ cs Stop K
 have hN_:=N
 obtain ⟨tN,zN,hN⟩:=hN_
 refine fsr ?_
 refine xiw mn (v:=.agg #[.slice a1 t.nH c1,.slice a2 t.nW c2,.slice a3 t.m c3]) rfl fun b1=>xcj (L':=[(b1,.cells #[.slice a1 t.nH c1,.slice a2 t.nW c2,.slice a3 t.m c3] 25 (0,0))]) rfl ?_
 refine ro (xax (v:=.int .i64 0) rfl) <| rt (xax (v:=.int .i64 0) rfl) (tm':=zq4 _) rfl <| ren <| fsr <| rd (fun h_ H_=>xav H_ tA25 tS25 rfl (i:=0) rfl (vs:=[.slice a1 t.nH c1,.slice a2 t.nW c2,.slice a3 t.m c3]) rfl rfl) ?_
 refine xcx mn (first:=[]) (cap:=[]) rfl rfl fC47 (fun h_ H_=>c47 md _ _ H_.pe _ _ _ _ _ _ _ _ _ t (show TownP _ _ _ _ _ _ _ t from ⟨T.h,T.w,T.y⟩) (by omega)) rfl ?_
 refine rt (xax (v:=.int .i64 (chkB t)) rfl) (tm':=zq1 (zq4 _)) rfl <| ren <| xbq <| ro (xaq (v:=.int .i64 (chkB t)) rfl) <| ro (xhw rfl rfl) <| xak ?_
 by_cases cc2:chkB t≠0
 ·
  refine xdk rfl (dtt cc2) <| fsr <| rt (xaq (v:=.int .i64 (chkB t)) rfl) (tm':=zq2 (zq4 (zq8 []))) rfl <| ro (xax (v:=.int .i64 0) rfl) <| ro (xax (v:=.int .i64 (chkB t)) rfl) <| xak ?_
  refine xew Tryd.func28 rfl (vs:=[.int .i64 0,.int .i64 (chkB t)]) (fun h_ H_=>⟨.int .i64 0,_,rfl,rfl,⟨.int .i64 (chkB t),_,rfl,rfl,rfl⟩⟩) (v:=.tuple #[.int .i64 0,.int .i64 (chkB t)]) rfl ?_
  exact fun h_ H_=>K _ _ ⟨by rw [mostC,if_neg ‹_›],H_.kept⟩
 ·
  refine xcv rfl (dff cc2) <| xdq <| xej ?_
  have hO:OkT t:=xtz (by omega)
  have hm13:=hO.nm
  refine xbq ?_
  refine xaw mn (fun h_ H_=>xav H_ tA25 tS25 rfl (i:=0) rfl (vs:=[.slice a1 t.nH c1,.slice a2 t.nW c2,.slice a3 t.m c3]) rfl rfl) (tm':=zq2 (zq4 (zq8 []))) rfl ?_
  refine rd (fun h_ H_=>xhx H_ tA72 tS72 rfl (vs:=[.int .i64 (-1),.int .i64 (-1),.int .i64 0]) rfl (xvk (n:=3) hN rfl)) ?_
  refine xcj (L':=([(b1,.cells #[.slice a1 t.nH c1,.slice a2 t.nW c2,.slice a3 t.m c3] 25 (0,0))]:Pcs)++[]) rfl ?_
  refine xjq mn (first:=[]) (cap:=[]) rfl rfl fC68 (R:=fun v_ h_=>∃ w3:Value,∃ X4:Pcs,v_=w3∧(OwnS 3 1 w3 (ics (fairP t none0)) X4)∧St h [] p h_ (([(b1,.cells #[.slice a1 t.nH c1,.slice a2 t.nW c2,.slice a3 t.m c3] 25 (0,0))]:Pcs)++(X4++[]))) (fun h_ H_=>(c68 md _ _ H_.pe _ _ _ _ _ _ t (show TownP _ _ _ _ _ _ _ t from ⟨T.h,T.w,T.y⟩) hO none0 xlj).mono fun v_ h2_ ⟨w3,X4,e_,o5,N_⟩=>⟨w3,X4,e_,o5,H_.callNA N_⟩) fun v_=>?_
  refine xfv fun w3=>xfv fun X4=>xfz fun ev_=>xfz fun o5=>?_
  have ev_:=ev_.symm;subst ev_
  refine xcj (L':=([(b1,.cells #[.slice a1 t.nH c1,.slice a2 t.nW c2,.slice a3 t.m c3] 25 (0,0))]:Pcs)++(X4++[])) rfl ?_
  refine xzq (A:=([(b1,.cells #[.slice a1 t.nH c1,.slice a2 t.nW c2,.slice a3 t.m c3] 25 (0,0))]:Pcs)) o5 ((xck _).trans (yak t _)) fun p6 a7 cp8 le9 ev_ D10=>?_
  subst ev_
  refine xcj (L':=[(b1,.cells #[.slice a1 t.nH c1,.slice a2 t.nW c2,.slice a3 t.m c3] 25 (0,0))]) rfl ?_
  refine xcx mn (first:=[]) (cap:=[]) rfl rfl fC78 (fun h_ H_=>c78 md _ _ H_.pe _ _ _ _ (show Ints _ _ _ (fairP t none0) from D10) (by omega) (fun i hi=>by have z_:=zzw hO xlj i hi;omega) (by omega)) (tm':=zq2 (zq4 (zq8 []))) rfl ?_
  refine ro (xax (v:=.int .i64 (sm t.m (dv (fairP t none0)))) rfl) <| ro (xax (v:=.int .i64 0) rfl) <| xak ?_
  refine xew Tryd.func28 rfl (vs:=[.int .i64 (sm t.m (dv (fairP t none0))),.int .i64 0]) (fun h_ H_=>⟨.int .i64 (sm t.m (dv (fairP t none0))),_,rfl,rfl,⟨.int .i64 0,_,rfl,rfl,rfl⟩⟩) (v:=.tuple #[.int .i64 (sm t.m (dv (fairP t none0))),.int .i64 0]) rfl ?_
  have e0_:chkB t=0:=by omega
  exact fun h_ H_=>K _ _ ⟨by rw [mostC,if_pos e0_,e0_];rfl,H_.kept⟩
theorem c43 (md:Md) (h:Heap) (p:PHeap) (hp:Per p h) (a1 a2 a3:Option Addr) (c1 c2 c3:Nat) (t:Tn) (T:TownP p a1 t.nH a2 t.nW a3 t.m t) (hn:t.nH≤40∧t.nW≤40∧t.m≤41) (N:NoneP p):CallsX Tryd.prog md 43 #[.agg #[.slice a1 t.nH c1,.slice a2 t.nW c2,.slice a3 t.m c3]] h fun v h'=>∃ w X,v= .tuple #[w,.int .i64 (chkB t)]∧OwnS 3 1 w (ics (LKc t)) X∧New h h' X:=by
 refine xcw (Φ:=fun h_=>St h [] p h_ []) Tryd.func43 rfl (tm:=zq4 (zq8 [])) rfl ?_ (St.start h _ hp)
 intro c₀ cs Stop K
 refine fsr ?_
 refine xiw mn (v:=.agg #[.slice a1 t.nH c1,.slice a2 t.nW c2,.slice a3 t.m c3]) rfl fun b1=>xcj (L':=[(b1,.cells #[.slice a1 t.nH c1,.slice a2 t.nW c2,.slice a3 t.m c3] 25 (0,0))]) rfl ?_
 refine xgx (tm':=_::_::_) rfl ?_
 refine ro (xax (v:=.slice none 0 0) rfl) <| ro (xax (v:=.int .i64 0) rfl) <| ren <| fsr ?_
 refine xaw mn (fun h_ H_=>xav H_ tA25 tS25 rfl (i:=0) rfl (vs:=[.slice a1 t.nH c1,.slice a2 t.nW c2,.slice a3 t.m c3]) rfl rfl) (tm':=zq2 (zq4 _)) rfl ?_
 refine xcx mn (first:=[]) (cap:=[]) rfl rfl fC47 (fun h_ H_=>c47 md _ _ H_.pe _ _ _ _ _ _ _ _ _ t (show TownP _ _ _ _ _ _ _ t from ⟨T.h,T.w,T.y⟩) (by omega)) rfl ?_
 refine ro (xax (v:=.int .i64 (chkB t)) rfl) <| ren <| xbq <| rt (xaq (v:=.int .i64 (chkB t)) rfl) (tm':=zq8 _) rfl <| ro (xhw rfl rfl) <| xak ?_
 by_cases cc2:chkB t≠0
 ·
  refine xdk rfl (dtt cc2) <| fsr <| ro (xaq (v:=.int .i64 (chkB t)) rfl) <| rt (xax (v:=.slice none 0 0) rfl) (tm':=_::_::_::_) rfl <| ro (xax (v:=.int .i64 (chkB t)) rfl) <| xak ?_
  refine xew Tryd.func43 rfl (vs:=[.slice none 0 0,.int .i64 (chkB t)]) (fun h_ H_=>⟨.slice none 0 0,_,rfl,rfl,⟨.int .i64 (chkB t),_,rfl,rfl,rfl⟩⟩) (v:=.tuple #[.slice none 0 0,.int .i64 (chkB t)]) rfl ?_
  exact fun h_ H_=>K _ _ ⟨_,[],rfl,(OwnS.empty _ _).as (by rw [vex ‹_›];rfl),(H_.sub (List.nil_sublist _)).new⟩
 ·
  refine xcv rfl (dff cc2) <| xdq <| xej ?_
  have hO:OkT t:=xtz (by omega)
  refine xbq <| rd (fun h_ H_=>xav H_ tA25 tS25 rfl (i:=0) rfl (vs:=[.slice a1 t.nH c1,.slice a2 t.nW c2,.slice a3 t.m c3]) rfl rfl) ?_
  refine xcj (L':=([(b1,.cells #[.slice a1 t.nH c1,.slice a2 t.nW c2,.slice a3 t.m c3] 25 (0,0))]:Pcs)++[]) rfl ?_
  refine xjq mn (first:=[]) (cap:=[]) rfl rfl fC81 (R:=fun v_ h_=>∃ w3:Value,∃ X4:Pcs,v_=w3∧(OwnS 3 1 w3 (ics (LK t)) X4)∧St h [] p h_ (([(b1,.cells #[.slice a1 t.nH c1,.slice a2 t.nW c2,.slice a3 t.m c3] 25 (0,0))]:Pcs)++(X4++[]))) (fun h_ H_=>(c81 md _ _ H_.pe _ _ _ _ _ _ t (show TownP _ _ _ _ _ _ _ t from ⟨T.h,T.w,T.y⟩) hO N).mono fun v_ h2_ ⟨w3,X4,e_,o5,N_⟩=>⟨w3,X4,e_,o5,H_.callNA N_⟩) fun v_=>?_
  refine xfv fun w3=>xfv fun X4=>xfz fun ev_=>xfz fun o5=>?_
  have ev_:=ev_.symm;subst ev_
  refine xcj (L':=([(b1,.cells #[.slice a1 t.nH c1,.slice a2 t.nW c2,.slice a3 t.m c3] 25 (0,0))]:Pcs)++(X4++[])) rfl ?_
  refine xgx (tm':=zq4 (zq8 [])) rfl ?_
  refine ro (xax (v:=w3) rfl) <| ro (xax (v:=.int .i64 0) rfl) <| xak ?_
  refine xew Tryd.func43 rfl (vs:=[w3,.int .i64 0]) (fun h_ H_=>⟨w3,_,rfl,rfl,⟨.int .i64 0,_,rfl,rfl,rfl⟩⟩) (v:=.tuple #[w3,.int .i64 0]) rfl ?_
  have e0_:chkB t=0:=by omega
  exact fun h_ H_=>K _ _ ⟨_,_,by rw [e0_],o5.as (by rw [zhk e0_]),((H_.dropA).sub (List.sublist_append_left _ _)).new⟩
theorem c30 (md:Md) (h:Heap) (p:PHeap) (hp:Per p h) (a1 a2 a3:Option Addr) (c1 c2 c3:Nat) (t:Tn) (T:TownP p a1 t.nH a2 t.nW a3 t.m t) (hn:t.nH≤40∧t.nW≤40∧t.m≤41) (N:NoneP p):CallsX Tryd.prog md 30 #[.agg #[.slice a1 t.nH c1,.slice a2 t.nW c2,.slice a3 t.m c3]] h fun v h'=>∃ w X,v= .tuple #[w,.int .i64 (chkB t)]∧OwnS 3 1 w (ics (fairC t)) X∧New h h' X:=by
 refine xcw (Φ:=fun h_=>St h [] p h_ []) Tryd.func30 rfl (tm:=zq1 (zq4 (zq8 []))) rfl ?_ (St.start h _ hp)
 intro c₀ cs Stop K
 have hN_:=N
 obtain ⟨tN,zN,hN⟩:=hN_
 refine fsr ?_
 refine xiw mn (v:=.agg #[.slice a1 t.nH c1,.slice a2 t.nW c2,.slice a3 t.m c3]) rfl fun b1=>xcj (L':=[(b1,.cells #[.slice a1 t.nH c1,.slice a2 t.nW c2,.slice a3 t.m c3] 25 (0,0))]) rfl ?_
 refine xgx (tm':=_::_::_) rfl ?_
 refine ro (xax (v:=.slice none 0 0) rfl) <| ro (xax (v:=.int .i64 0) rfl) <| ren <| fsr ?_
 refine xaw mn (fun h_ H_=>xav H_ tA25 tS25 rfl (i:=0) rfl (vs:=[.slice a1 t.nH c1,.slice a2 t.nW c2,.slice a3 t.m c3]) rfl rfl) (tm':=zq2 (zq4 _)) rfl ?_
 refine xcx mn (first:=[]) (cap:=[]) rfl rfl fC47 (fun h_ H_=>c47 md _ _ H_.pe _ _ _ _ _ _ _ _ _ t (show TownP _ _ _ _ _ _ _ t from ⟨T.h,T.w,T.y⟩) (by omega)) rfl ?_
 refine ro (xax (v:=.int .i64 (chkB t)) rfl) <| ren <| xbq <| rt (xaq (v:=.int .i64 (chkB t)) rfl) (tm':=zq8 _) rfl <| ro (xhw rfl rfl) <| xak ?_
 by_cases cc2:chkB t≠0
 ·
  refine xdk rfl (dtt cc2) <| fsr <| ro (xaq (v:=.int .i64 (chkB t)) rfl) <| rt (xax (v:=.slice none 0 0) rfl) (tm':=_::_::_::_) rfl <| ro (xax (v:=.int .i64 (chkB t)) rfl) <| xak ?_
  refine xew Tryd.func30 rfl (vs:=[.slice none 0 0,.int .i64 (chkB t)]) (fun h_ H_=>⟨.slice none 0 0,_,rfl,rfl,⟨.int .i64 (chkB t),_,rfl,rfl,rfl⟩⟩) (v:=.tuple #[.slice none 0 0,.int .i64 (chkB t)]) rfl ?_
  exact fun h_ H_=>K _ _ ⟨_,[],rfl,(OwnS.empty _ _).as (by rw [wzj ‹_›];rfl),(H_.sub (List.nil_sublist _)).new⟩
 ·
  refine xcv rfl (dff cc2) <| xdq <| xej ?_
  have hO:OkT t:=xtz (by omega)
  refine xbq <| rd (fun h_ H_=>xav H_ tA25 tS25 rfl (i:=0) rfl (vs:=[.slice a1 t.nH c1,.slice a2 t.nW c2,.slice a3 t.m c3]) rfl rfl) ?_
  refine xaw mn (fun h_ H_=>xhx H_ tA72 tS72 rfl (vs:=[.int .i64 (-1),.int .i64 (-1),.int .i64 0]) rfl (xvk (n:=3) hN rfl)) (tm':=zq1 (zq4 (zq8 []))) rfl ?_
  refine xcj (L':=([(b1,.cells #[.slice a1 t.nH c1,.slice a2 t.nW c2,.slice a3 t.m c3] 25 (0,0))]:Pcs)++[]) rfl ?_
  refine xjq mn (first:=[]) (cap:=[]) rfl rfl fC68 (R:=fun v_ h_=>∃ w3:Value,∃ X4:Pcs,v_=w3∧(OwnS 3 1 w3 (ics (fairP t none0)) X4)∧St h [] p h_ (([(b1,.cells #[.slice a1 t.nH c1,.slice a2 t.nW c2,.slice a3 t.m c3] 25 (0,0))]:Pcs)++(X4++[]))) (fun h_ H_=>(c68 md _ _ H_.pe _ _ _ _ _ _ t (show TownP _ _ _ _ _ _ _ t from ⟨T.h,T.w,T.y⟩) hO none0 xlj).mono fun v_ h2_ ⟨w3,X4,e_,o5,N_⟩=>⟨w3,X4,e_,o5,H_.callNA N_⟩) fun v_=>?_
  refine xfv fun w3=>xfv fun X4=>xfz fun ev_=>xfz fun o5=>?_
  have ev_:=ev_.symm;subst ev_
  refine xcj (L':=([(b1,.cells #[.slice a1 t.nH c1,.slice a2 t.nW c2,.slice a3 t.m c3] 25 (0,0))]:Pcs)++(X4++[])) rfl ?_
  refine ro (xax (v:=w3) rfl) <| rt (xax (v:=.int .i64 0) rfl) (tm':=zq4 _) rfl <| xak ?_
  refine xew Tryd.func30 rfl (vs:=[w3,.int .i64 0]) (fun h_ H_=>⟨w3,_,rfl,rfl,⟨.int .i64 0,_,rfl,rfl,rfl⟩⟩) (v:=.tuple #[w3,.int .i64 0]) rfl ?_
  have e0_:chkB t=0:=by omega
  exact fun h_ H_=>K _ _ ⟨_,_,by rw [e0_],o5.as (by rw [znw e0_]),((H_.dropA).sub (List.sublist_append_left _ _)).new⟩
end Go.Proofs.YtalfgojocdonhaaDoor
