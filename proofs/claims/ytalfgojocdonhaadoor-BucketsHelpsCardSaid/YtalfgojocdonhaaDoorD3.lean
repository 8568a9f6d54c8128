/-
  Part of proofs about buckets brought from wells to houses: a lone run, and what it computes. No condition.
-/
import Derived.Test.YtalfgojocdonhaaDoorD2
import Derived.Test.YtalfgojocdonhaaDoorD1
namespace Go.Proofs.YtalfgojocdonhaaDoor
open Go.X Go.X.Flow Go.Conc
set_option maxRecDepth 10000
set_option synthInstance.maxSize 2000

set_option maxHeartbeats 1000000
theorem c93 (md:Md) (h:Heap) (p:PHeap) (hp:Per p h) (a:Option Addr) (n c:Nat) (xs:List Int) (A:Ints p a n xs) (hn:n≤100):CallsX Tryd.prog md 93 #[.slice a n c] h fun v h'=>∃ w X,v=w∧OwnS 3 1 w (ics xs) X∧New h h' X:=by
 refine xcx (Φ:=fun h_=>St h [] p h_ []) Tryd.func93 rfl (tm:=zq8 []) rfl ?_ (St.start h _ hp)
 intro c₀ cs Stop K
 refine fsr <| ro (xax (v:=.slice none 0 0) rfl) <| ren <| fsr <| ro (xaq (v:=.slice a n c) rfl) <| rt (yrv Tryd.underlying22 rfl) (tm':=zq1 (zq4 _)) rfl ?_
 refine xak ?_
 rcases ybj (a.isNone) with cc1 | cc1
 ·
  refine xdx rfl cc1 <| fsr <| ro (xax (v:=.slice none 0 0) rfl) <| xak ?_
  refine xdv Tryd.func93 rfl (vs:=[.slice none 0 0]) (fun h_ H_=>⟨.slice none 0 0,_,rfl,rfl,rfl⟩) (v:=.slice none 0 0) rfl ?_
  have e:=zfj A ‹_›
  subst e
  exact fun h_ H_=>K _ _ ⟨_,[],rfl,OwnS.empty _ _,H_.new⟩
 ·
  refine xck rfl cc1 <| xcv <| fsr ?_
  refine xcq (L':=([]:Pcs)++[]) rfl ?_
  refine xjz ([]:Pcs) mn Tryd.underlying22 tS3 tZ3 (Nat.le_of_ble_eq_true rfl) (vs:=[]) rfl rfl (es:=[]) rfl rfl rfl fun v2 X3 o4=>?_
  refine rt (xaq (v:=.slice a n c) rfl) (tm':=zq8 []) rfl ?_
  refine xvq ([]:Pcs) X3 mn Tryd.underlying22 tS3 tZ3 rfl tB3 Tryd.underlying22 rfl rfl o4 A (xrv _) (by simp only [List.length_nil];omega) (by decide) (by decide) fun v5 X6 o7=>?_
  refine ro (xax (v:=v5) rfl) <| xak ?_
  refine xdv Tryd.func93 rfl (vs:=[v5]) (fun h_ H_=>⟨v5,_,rfl,rfl,rfl⟩) (v:=v5) rfl ?_
  exact fun h_ H_=>K _ _ ⟨_,_,rfl,o7,by simpa using H_.dropA.new⟩
theorem c67 (md:Md) (h:Heap) (p:PHeap) (hp:Per p h) (a1:Option Addr) (n1 c1:Nat) (a2:Option Addr) (n2 c2:Nat) (a3:Option Addr) (n3 c3:Nat) (t:Tn) (T:TownP p a1 n1 a2 n2 a3 n3 t) (hn:n1≤40∧n2≤40∧n3≤41) (b:Option Addr) (m cb:Nat) (d:List Int) (D:Ints p b m d) (hm:m≤n3∧n3≤13) (hd: ∀ i,i<m→0≤dv d i∧dv d i≤20) (hh: ∀ i,i<n1→ -100≤t.hs.getD i 0∧t.hs.getD i 0≤100) (hw: ∀ i,i<n2→ -100≤t.ws.getD i 0∧t.ws.getD i 0≤100) (hy: ∀ i,i<n3→(0≤(t.wy.getD i wz).1∧(t.wy.getD i wz).1.toNat<n1)∧0≤(t.wy.getD i wz).2∧(t.wy.getD i wz).2.toNat<n2):CallsX Tryd.prog md 67 #[.agg #[.slice a1 n1 c1,.slice a2 n2 c2,.slice a3 n3 c3],.slice b m cb] h fun v h'=>∃ w1 w2 X1 X2,v= .tuple #[w1,w2]∧OwnS 3 1 w1 (ics (leftK t.hs t.wh d m)) X1∧OwnS 3 1 w2 (ics (leftK t.ws t.ww d m)) X2∧New h h' (X2++(X1++[])):=by
 refine xcx (Φ:=fun h_=>St h [] p h_ []) Tryd.func67 rfl (tm:=zq16 (zq32 [])) rfl ?_ (St.start h _ hp)
 intro c₀ cs Stop K
 have eH:=T.nH
 have eW:=T.nW
 have eM:=T.m
 refine fsr ?_
 refine xij mn (v:=.agg #[.slice a1 n1 c1,.slice a2 n2 c2,.slice a3 n3 c3]) rfl fun b1=>xcq (L':=[(b1,.cells #[.slice a1 n1 c1,.slice a2 n2 c2,.slice a3 n3 c3] 25 (0,0))]) rfl ?_
 refine xfj (tm':=_::_::_::_) rfl ?_
 refine ro (xax (v:=.slice none 0 0) rfl) <| ro (xax (v:=.slice none 0 0) rfl) <| ren ?_
 obtain ⟨Gw7,GX8,hG2_⟩:=sk2 (fun (v_:Value) (x_:Pcs) (w7:Value) (X8:Pcs)=>v_=w7∧(OwnS 3 1 w7 (ics t.hs) X8)∧x_=(X8++[]))
 refine xxv (xlx (C:=[]) (A:=([(b1,.cells #[.slice a1 n1 c1,.slice a2 n2 c2,.slice a3 n3 c3] 25 (0,0))]:Pcs)) 5 [[],[0],[0,1],[],[3],[3,4],[],[]] [] [2] [0,1,3,4] (fun _=>[]) (fun _=>[]) (fun i_=>match i_ with | 0=>[] | 1=>[0] | 2=>[1] | 3=>[] | 4=>[3] | _=>[]) (fun i_ val_ pc_ v_ x_=>match i_ with | 0=>v_= .pointer (some ⟨b1,0,none⟩)∧x_=[] | 1=>v_= .slice a1 n1 c1∧x_=[] | 2=>∃ w7:Value,∃ X8:Pcs,v_=w7∧(OwnS 3 1 w7 (ics t.hs) X8)∧x_=(X8++[]) | 3=>v_= .pointer (some ⟨b1,1,none⟩)∧x_=[] | 4=>v_= .slice a2 n2 c2∧x_=[] | _=>True) (fun val5=>(.agg #[.slice a1 n1 c1,.slice a2 n2 c2,.slice a3 n3 c3]::.slice b m cb::.pointer (some ⟨b1,0,none⟩)::undef::.slice none 0 0::.slice none 0 0::undef::undef::(val5 0)::(val5 1)::(val5 2)::(val5 3)::(val5 4)::undef::undef::undef::zu16 (zu16 []))) xkk (by kernel_rfl) (Nat.le_of_ble_eq_true rfl) (by kernel_rfl) (by kernel_rfl) (by kernel_rfl) (fun _ _=>⟨fun _ _ h=>h.2,⟨fun _ _ h=>h.2,⟨fun _ _ h=>h.2,⟨fun _ _ h=>h.2,trivial⟩⟩⟩⟩) (fun _=>by kernel_rfl) (by kernel_rfl) ?_ ?_) (fun h_ H_=>St.swap (A:=([(b1,.cells #[.slice a1 n1 c1,.slice a2 n2 c2,.slice a3 n3 c3] 25 (0,0))]:Pcs)) (U:=[]) H_)
 ·
  refine xaw rfl (xdk ?_) ?_
  ·
   intro val5 pc6 hQ_ hX_
   obtain ⟨q_,hq0_⟩: ∃ q_:Value→Pcs→Prop,q_=(fun v_ x_=>v_= .pointer (some ⟨b1,0,none⟩)∧x_=[]):=⟨_,rfl⟩
   refine ⟨(zq16 (zq32 [])),[],q_,rfl,rfl,(fun _ _ z_=>by subst hq0_;exact z_),?_⟩
   subst hq0_
   exact xdw mn (fun _ h_ H_=>xaz xnx rfl (a':=⟨b1,0,none⟩) rfl) ⟨rfl,rfl⟩
  refine xaw rfl (xdk ?_) ?_
  ·
   intro val5 pc6 hQ_ hX_
   have e0_:val5 0= .pointer (some ⟨b1,0,none⟩):=(hQ_ 0 rfl).1
   obtain ⟨q_,hq0_⟩: ∃ q_:Value→Pcs→Prop,q_=(fun v_ x_=>v_= .slice a1 n1 c1∧x_=[]):=⟨_,rfl⟩
   refine ⟨(zq16 (zq32 [])),[],q_,(by rw [e0_]),rfl,(fun _ _ z_=>by subst hq0_;exact z_),?_⟩
   subst hq0_
   exact xdw mn (fun _ h_ H_=>xaj H_ tA22 rfl (i:=0) rfl (v:=.slice a1 n1 c1) rfl) ⟨rfl,rfl⟩
  refine xaw rfl (xdk ?_) ?_
  ·
   intro val5 pc6 hQ_ hX_
   have e1_:val5 1= .slice a1 n1 c1:=(hQ_ 1 rfl).1
   obtain ⟨q_,hq0_⟩: ∃ q_:Value→Pcs→Prop,q_=(fun v_ x_=>∃ w7:Value,∃ X8:Pcs,v_=w7∧(OwnS 3 1 w7 (ics t.hs) X8)∧x_=(X8++[])):=⟨_,rfl⟩
   refine ⟨(zq16 (zq32 [])),[],q_,(by rw [e1_]),rfl,(fun _ _ z_=>by subst hq0_;exact z_),?_⟩
   subst hq0_
   exact xok mn (first:=[]) (cap:=[]) rfl rfl fC93 (fun _ h_ H_=>(c93 md _ _ H_.pe _ _ _ _ T.h (by omega)).mono fun v_ h2_ ⟨w7,X8,e_,o9,N_⟩=>⟨_,⟨w7,X8,e_,o9,rfl⟩,H_.callN (show New _ _ (X8++[]) by rw [List.append_nil];exact N_)⟩)
  refine xaw rfl (xdk ?_) ?_
  ·
   intro val5 pc6 hQ_ hX_
   obtain ⟨q_,hq0_⟩: ∃ q_:Value→Pcs→Prop,q_=(fun v_ x_=>v_= .pointer (some ⟨b1,1,none⟩)∧x_=[]):=⟨_,rfl⟩
   refine ⟨(zq16 (zq32 [])),[],q_,rfl,rfl,(fun _ _ z_=>by subst hq0_;exact z_),?_⟩
   subst hq0_
   exact xdw mn (fun _ h_ H_=>xaz xnk rfl (a':=⟨b1,1,none⟩) rfl) ⟨rfl,rfl⟩
  refine xaw rfl (xdk ?_) ?_
  ·
   intro val5 pc6 hQ_ hX_
   have e3_:val5 3= .pointer (some ⟨b1,1,none⟩):=(hQ_ 3 rfl).1
   obtain ⟨q_,hq0_⟩: ∃ q_:Value→Pcs→Prop,q_=(fun v_ x_=>v_= .slice a2 n2 c2∧x_=[]):=⟨_,rfl⟩
   refine ⟨(zq16 (zq32 [])),[],q_,(by rw [e3_]),rfl,(fun _ _ z_=>by subst hq0_;exact z_),?_⟩
   subst hq0_
   exact xdw mn (fun _ h_ H_=>xaj H_ tA22 rfl (i:=0) rfl (v:=.slice a2 n2 c2) rfl) ⟨rfl,rfl⟩
  exact xlq rfl
 intro val5 pc6 hQ_ hX_
 have e0_:val5 0= .pointer (some ⟨b1,0,none⟩):=(hQ_ 0 (by decide)).1
 have e1_:val5 1= .slice a1 n1 c1:=(hQ_ 1 (by decide)).1
 obtain ⟨e2_,o9,x2_⟩:=hG2_ _ _ (hQ_ 2 (by decide))
 have e3_:val5 3= .pointer (some ⟨b1,1,none⟩):=(hQ_ 3 (by decide)).1
 have e4_:val5 4= .slice a2 n2 c2:=(hQ_ 4 (by decide)).1
 clear hQ_ hX_
 generalize Gw7 (val5 2) (pc6 2)=w7 at*
 generalize GX8 (val5 2) (pc6 2)=X8 at*
 refine xww (Φ:=fun h_=>St h [] p h_ (([(b1,.cells #[.slice a1 n1 c1,.slice a2 n2 c2,.slice a3 n3 c3] 25 (0,0))]:Pcs)++(pc6 2++[]))) ?_ (fun h_ H_=>H_.swap')
 rw [x2_]
 refine xcq (L':=([(b1,.cells #[.slice a1 n1 c1,.slice a2 n2 c2,.slice a3 n3 c3] 25 (0,0))]:Pcs)++(X8++[])) (by simp) ?_
 refine xfj (tm':=(zq16 (zq32 []))) (by rw [e0_,e1_,e2_,e3_,e4_]) ?_
 refine xiw mn (first:=[]) (cap:=[]) rfl rfl fC93 (R:=fun v_ h_=>∃ w12:Value,∃ X13:Pcs,v_=w12∧(OwnS 3 1 w12 (ics t.ws) X13)∧St h [] p h_ (([(b1,.cells #[.slice a1 n1 c1,.slice a2 n2 c2,.slice a3 n3 c3] 25 (0,0))]:Pcs)++(X13++(X8++[])))) (fun h_ H_=>(c93 md _ _ H_.pe _ _ _ _ T.w (by omega)).mono fun v_ h2_ ⟨w12,X13,e_,o14,N_⟩=>⟨w12,X13,e_,o14,H_.callNA N_⟩) fun v_=>?_
 refine xgz fun w12=>xgz fun X13=>xfq fun ev_=>xfq fun o14=>?_
 have ev_:=ev_.symm;subst ev_
 refine xcq (L':=([(b1,.cells #[.slice a1 n1 c1,.slice a2 n2 c2,.slice a3 n3 c3] 25 (0,0))]:Pcs)++(X13++(X8++[]))) rfl ?_
 refine rt (xax (v:=w7) rfl) (tm':=zq1 (zq4 _)) rfl <| ro (xax (v:=w12) rfl) <| ren <| fsr <| ro (xaq (v:=.slice b m cb) rfl) <| rt (xfz Tryd.underlying22 rfl) (tm':=zq16 _) rfl ?_
 refine ro (xaq (v:=.int .i64 0) rfl) <| xak <| xdj ?_
 refine xhk (m₀:=m-0) (fun m_ tm_ h_=>∃ (k:Nat) (X2:Pcs) (X1:Pcs),m_=m-k∧(∃ y15:Nat→Value,tm_=[.agg #[.slice a1 n1 c1,.slice a2 n2 c2,.slice a3 n3 c3],.slice b m cb,.pointer (some ⟨b1,0,none⟩),undef,w7,w12,(y15 6),(y15 7),.pointer (some ⟨b1,0,none⟩),.slice a1 n1 c1,w7,.pointer (some ⟨b1,1,none⟩),.slice a2 n2 c2,w12,.slice b m cb,.int .i64 (((m:Nat):Int)),.int .i64 (((k:Nat):Int)),(y15 17),(y15 18),(y15 19),(y15 20),(y15 21),(y15 22),(y15 23),(y15 24),(y15 25),(y15 26),(y15 27),(y15 28),(y15 29),(y15 30),(y15 31),(y15 32),(y15 33),(y15 34),(y15 35),(y15 36),(y15 37),(y15 38),(y15 39),(y15 40),(y15 41),(y15 42),(y15 43),(y15 44),(y15 45),undef,undef])∧(k≤m)∧(OwnS 3 1 w7 (ics (leftK t.hs t.wh d k)) X1)∧(OwnS 3 1 w12 (ics (leftK t.ws t.ww d k)) X2)∧St h [] p h_ (([(b1,.cells #[.slice a1 n1 c1,.slice a2 n2 c2,.slice a3 n3 c3] 25 (0,0))]:Pcs)++(X2++(X1++[])))) (fun h_ H_=>⟨0,X13,X8,rfl,(y_of rfl),Nat.zero_le _,(o9.as (by rw [yuj])),(o14.as (by rw [yuj])),H_⟩) ?_
 intro m_ tm_ IH16
 refine xhq fun k=>xhq fun X2=>xhq fun X1=>xcz fun hm_=>xcz fun ht_=>xcz fun hk=>xcz fun o1=>xcz fun o2=>?_
 subst hm_;obtain ⟨y15,ht_⟩:=ht_;subst ht_
 have hL1:(leftK t.hs t.wh d k).length=n1:=leftK_length.trans eH
 have hL2:(leftK t.ws t.ww d k).length=n2:=leftK_length.trans eW
 have hlh:t.hs.length=n1:=eH
 have hlw:t.ws.length=n2:=eW
 have hyk:=fun z_:k<m=>hy k (by omega)
 have hdk:=fun z_:k<m=>hd k z_
 have bb1:=yrq (g:=t.wh) (h:=t.wh k) (k:=k) (d:=d) (fun i hi=>hd i (by omega))
 have bb2:=yrq (g:=t.ww) (h:=t.ww k) (k:=k) (d:=d) (fun i hi=>hd i (by omega))
 have e1_:=@vdz t k
 have e2_:=@vdq t k
 refine fsr <| ro (xgj rfl rfl) <| ren ?_
 by_cases cc17:((k:Nat):Int)<((m:Nat):Int)
 ·
  refine xdx rfl (dtt cc17) <| xcv <| xez <| xdj <| fsr <| rt (xaq (v:=.int .i64 (((k:Nat):Int))) rfl) (tm':=zq1 (zq2 (zq16 _))) rfl ?_
  refine ro (xbw (i:=k) Tryd.underlying22 tS3 (xjq b m cb (D.ne (by omega))) rfl (by omega)) ?_
  refine rd (fun h_ H_=>xbj H_ tA3 rfl (v:=.int .i64 (d.getD k 0)) (D.get (by omega))) ?_
  refine rt (xax (v:=.int .i64 (((k:Nat):Int))) rfl) (tm':=zq1 (zq2 (zq4 _))) rfl <| ro (xax (v:=.int .i64 (d.getD k 0)) rfl) <| ren <| xbq <| ro (xaq (v:=w7) rfl) <| rt (xaz xhj rfl (a':=⟨b1,2,none⟩) rfl) (tm':=zq1 (zq2 (zq4 (zq16 _)))) rfl ?_
  refine rd (fun h_ H_=>xaj H_ tA23 rfl (i:=0) rfl (v:=.slice a3 n3 c3) rfl) <| ro (xaq (v:=.int .i64 (((k:Nat):Int))) rfl) ?_
  refine rt (xbw (i:=k) Tryd.underlying23 tS43 (xjq a3 n3 c3 (T.y.ne (by omega))) rfl (by omega)) (tm':=zq2 (zq8 (zq16 _))) rfl ?_
  refine ro (xaz xoj rfl (a':=(adr a3).add (k*2)) rfl) ?_
  refine rd (fun h_ H_=>xbj H_ tA3 rfl (v:=.int .i64 ((t.wy.getD k wz).1)) (T.y.ho (by omega))) ?_
  refine rt (xoz o1 Tryd.underlying22 tS3 rfl rfl (by omega) (by rw [(xcw _)];omega)) (tm':=zq1 (zq4 (zq8 (zq16 _)))) rfl ?_
  refine rd (fun h_ H_=>xuk (i:=(((t.wy.getD k wz).1)).toNat) (j:=0) (e:=[.int .i64 ((leftK t.hs t.wh d k).getD ((((t.wy.getD k wz).1)).toNat) 0)]) o1 H_ (fun x_ h_=>by simp [h_]) tA3 rfl rfl (xqw (by first | omega | (rw [leftK_length];omega) | (simp only [List.length_set];omega))) (u:=.int .i64 ((leftK t.hs t.wh d k).getD ((((t.wy.getD k wz).1)).toNat) 0)) rfl) ?_
  refine ro (xaq (v:=.int .i64 (d.getD k 0)) rfl) ?_
  refine rt (xkj rfl rfl (wr (by have z1:=hyk (by omega);have z2:=hdk (by omega);have z3:=hh (t.wh k) (by omega);rw [vdz,xvx (by omega)];unfold dv at *;omega))) (tm':=zq32 _) rfl ?_
  refine ro (xoz o1 Tryd.underlying22 tS3 rfl rfl (by omega) (by rw [(xcw _)];omega)) ?_
  refine xjj (List.Perm.append_left _ (List.perm_append_comm_assoc _ _ _)) ?_
  refine xcq (L':=([(b1,.cells #[.slice a1 n1 c1,.slice a2 n2 c2,.slice a3 n3 c3] 25 (0,0))]:Pcs)++(X1++(X2++[]))) rfl ?_
  refine xux (A:=([(b1,.cells #[.slice a1 n1 c1,.slice a2 n2 c2,.slice a3 n3 c3] 25 (0,0))]:Pcs)) (i:=(((t.wy.getD k wz).1)).toNat) (j:=0) (e:=[.int .i64 ((leftK t.hs t.wh d k).getD ((((t.wy.getD k wz).1)).toNat) 0)]) (u:=.int .i64 (((leftK t.hs t.wh d k).getD ((((t.wy.getD k wz).1)).toNat) 0)-(d.getD k 0))) o1 mn tS3 rfl rfl rfl ⟨rfl,rfl⟩ (xqw (by first | omega | (rw [leftK_length];omega) | (simp only [List.length_set];omega))) (Nat.succ_le_iff.1 (Nat.le_of_ble_eq_true rfl)) fun X18 o19=>?_
  refine xak <| xbq <| ro (xaq (v:=w12) rfl) <| rt (xaz xhj rfl (a':=⟨b1,2,none⟩) rfl) (tm':=zq16 (zq32 [])) rfl <| rd (fun h_ H_=>xaj H_ tA23 rfl (i:=0) rfl (v:=.slice a3 n3 c3) rfl) <| ro (xaq (v:=.int .i64 (((k:Nat):Int))) rfl) ?_
  refine rt (xbw (i:=k) Tryd.underlying23 tS43 (xjq a3 n3 c3 (T.y.ne (by omega))) rfl (by omega)) (tm':=zq16 (zq32 [])) rfl ?_
  refine ro (xaz xqv rfl (a':=((adr a3).add (k*2)).add 1) rfl) ?_
  refine rd (fun h_ H_=>xbj H_ tA3 rfl (v:=.int .i64 ((t.wy.getD k wz).2)) (T.y.we (by omega))) ?_
  refine rt (xoz o2 Tryd.underlying22 tS3 rfl rfl (by omega) (by rw [(xcw _)];omega)) (tm':=zq16 (zq32 [])) rfl ?_
  refine rd (fun h_ H_=>xuk (i:=(((t.wy.getD k wz).2)).toNat) (j:=0) (e:=[.int .i64 ((leftK t.ws t.ww d k).getD ((((t.wy.getD k wz).2)).toNat) 0)]) o2 H_ (fun x_ h_=>by simp [h_]) tA3 rfl rfl (xqw (by first | omega | (rw [leftK_length];omega) | (simp only [List.length_set];omega))) (u:=.int .i64 ((leftK t.ws t.ww d k).getD ((((t.wy.getD k wz).2)).toNat) 0)) rfl) ?_
  refine ro (xaq (v:=.int .i64 (d.getD k 0)) rfl) ?_
  refine rt (xkj rfl rfl (wr (by have z1:=hyk (by omega);have z2:=hdk (by omega);have z3:=hw (t.ww k) (by omega);rw [vdq,xvx (by omega)];unfold dv at *;omega))) (tm':=zq16 (zq32 [])) rfl ?_
  refine ro (xoz o2 Tryd.underlying22 tS3 rfl rfl (by omega) (by rw [(xcw _)];omega)) ?_
  refine xjj (List.Perm.append_left _ (List.perm_append_comm_assoc _ _ _)) ?_
  refine xcq (L':=([(b1,.cells #[.slice a1 n1 c1,.slice a2 n2 c2,.slice a3 n3 c3] 25 (0,0))]:Pcs)++(X2++(X18++[]))) rfl ?_
  refine xux (A:=([(b1,.cells #[.slice a1 n1 c1,.slice a2 n2 c2,.slice a3 n3 c3] 25 (0,0))]:Pcs)) (i:=(((t.wy.getD k wz).2)).toNat) (j:=0) (e:=[.int .i64 ((leftK t.ws t.ww d k).getD ((((t.wy.getD k wz).2)).toNat) 0)]) (u:=.int .i64 (((leftK t.ws t.ww d k).getD ((((t.wy.getD k wz).2)).toNat) 0)-(d.getD k 0))) o2 mn tS3 rfl rfl rfl ⟨rfl,rfl⟩ (xqw (by first | omega | (rw [leftK_length];omega) | (simp only [List.length_set];omega))) (Nat.succ_le_iff.1 (Nat.le_of_ble_eq_true rfl)) fun X20 o21=>?_
  refine xak <| xdq <| xbq ?_
  refine ro (xek rfl rfl (n:=((k+1:Nat):Int)) (wr (by omega))) ?_
  refine rt (xaq (v:=.int .i64 (((k+1:Nat):Int))) rfl) (tm':=zq1 (zq16 _)) rfl <| xak ?_
  exact fun h_ H_=>IH16 _ _ (by omega) h_ ⟨k+1,X20,X18,rfl,(y_of rfl),(by omega),(o19.as ((xxw).trans (congrArg ics (yuk (vs:=t.hs) (g:=t.wh) (d:=d) (k:=k) (by omega))))),(o21.as ((xxw).trans (congrArg ics (yuk (vs:=t.ws) (g:=t.ww) (d:=d) (k:=k) (by omega))))),H_⟩
 ·
  refine xck rfl (dff cc17) <| xhz rfl <| fsr <| ro (xaq (v:=w7) rfl) <| ro (xaq (v:=w12) rfl) <| rt (xax (v:=w7) rfl) (tm':=zq1 (zq4 _)) rfl ?_
  refine ro (xax (v:=w12) rfl) <| xak ?_
  refine xdv Tryd.func67 rfl (vs:=[w7,w12]) (fun h_ H_=>⟨w7,_,rfl,rfl,⟨w12,_,rfl,rfl,rfl⟩⟩) (v:=.tuple #[w7,w12]) rfl ?_
  have hkm:k=m:=by omega
  subst hkm
  exact fun h_ H_=>K _ _ ⟨_,_,_,_,rfl,o1,o2,by simpa using H_.dropA.new⟩
end Go.Proofs.YtalfgojocdonhaaDoor
namespace Go.Proofs.YtalfgojocdonhaaDoor
open Go.X Go.X.Flow Go.Conc
set_option maxRecDepth 10000
set_option synthInstance.maxSize 2000

set_option maxHeartbeats 2000000
theorem c114 (md:Md) (h:Heap) (x:Nat) (hx:x≤10):CallsX Tryd.prog md 114 #[.int .i64 (((x:Nat):Int))] h fun v h'=>v= .int .i64 (dear x)∧Keep h h':=by
 refine xcx (Φ:=fun h_=>St h [] (fun _=>none) h_ []) Tryd.func114 rfl (tm:=zq1 (zq2 (zq8 []))) rfl ?_ (St.start h _ (fun _ _ e=>by cases e))
 intro c₀ cs Stop K
 refine fsr <| ro (xax (v:=.int .i64 0) rfl) <| ren <| xbq <| ro (xax (v:=.int .i64 1000) rfl) <| ren ?_
 refine fsr <| rt (xaq (v:=.int .i64 (((x:Nat):Int))) rfl) (tm':=zq1 (zq4 _)) rfl <| ro (xaq (v:=.int .i64 0) rfl) <| xak <| xdj ?_
 refine xhk (m₀:=x-0) (fun m_ tm_ h_=>∃ (k:Nat) (s:Int),m_=x-k∧(∃ y1:Nat→Value,tm_=[.int .i64 (((x:Nat):Int)),undef,.int .i64 0,.int .i64 (s),.int .i64 (((x:Nat):Int)),.int .i64 (((k:Nat):Int)),(y1 6),(y1 7),(y1 8),(y1 9),undef])∧(k≤x)∧(s=dear k)∧St h [] (fun _=>none) h_ ([])) (fun h_ H_=>⟨0,1000,rfl,(y_of rfl),Nat.zero_le _,rfl,H_⟩) ?_
 intro m_ tm_ IH2
 refine xhq fun k=>xhq fun s=>xcz fun hm_=>xcz fun ht_=>xcz fun hk=>xcz fun hs=>?_
 subst hm_;obtain ⟨y1,ht_⟩:=ht_;subst ht_
 have hp_:=xnq k
 have hm_:=xqj (show k≤10 by omega)
 have e10_:dear 10=282475249000:=by decide
 refine fsr <| ro (xgj rfl rfl) <| ren ?_
 by_cases cc3:((k:Nat):Int)<((x:Nat):Int)
 ·
  refine xdx rfl (dtt cc3) <| xcv <| xez <| xdj <| xbq <| rt (xaq (v:=.int .i64 (s)) rfl) (tm':=zq1 (zq2 (zq8 []))) rfl ?_
  refine ro (yrj rfl rfl (wr (by omega))) ?_
  refine ro (xax (v:=.int .i64 (s*7)) rfl) <| xak <| xdq <| xbq ?_
  refine rt (xek rfl rfl (n:=((k+1:Nat):Int)) (wr (by omega))) (tm':=zq1 (zq2 (zq8 []))) rfl ?_
  refine ro (xaq (v:=.int .i64 (((k+1:Nat):Int))) rfl) <| xak ?_
  exact fun h_ H_=>IH2 _ _ (by omega) h_ ⟨k+1,s*7,rfl,(y_of rfl),(by omega),(by rw [xpx];omega),H_⟩
 ·
  refine xck rfl (dff cc3) <| xhz rfl <| fsr <| ro (xaq (v:=.int .i64 (s)) rfl) <| rt (xax (v:=.int .i64 (s)) rfl) (tm':=_::_::_::_) rfl <| xak ?_
  refine xdv Tryd.func114 rfl (vs:=[.int .i64 (s)]) (fun h_ H_=>⟨.int .i64 (s),_,rfl,rfl,rfl⟩) (v:=.int .i64 (s)) rfl ?_
  have hkx:k=x:=by omega
  exact fun h_ H_=>K _ _ ⟨by rw [hs,hkx],H_.kept⟩
theorem c34 (md:Md) (h:Heap) (p:PHeap) (hp:Per p h) (a1:Option Addr) (n1 c1:Nat) (a2:Option Addr) (n2 c2:Nat) (a3:Option Addr) (n3 c3:Nat) (t:Tn) (T:TownP p a1 n1 a2 n2 a3 n3 t) (hn:n1≤40∧n2≤40∧n3≤41) (b:Option Addr) (m cb:Nat) (d:List Int) (D:Ints p b m d) (hm:m≤n3) (hd: ∀ i,i<m→0≤dv d i∧dv d i≤1000) (x:Int):CallsX Tryd.prog md 34 #[.agg #[.slice a1 n1 c1,.slice a2 n2 c2,.slice a3 n3 c3],.slice b m cb,.int .i64 (x)] h fun v h'=>v= .int .i64 (drawI t d d.length x)∧Keep h h':=by
 refine xcx (Φ:=fun h_=>St h [] p h_ []) Tryd.func34 rfl (tm:=zq2 (zq4 (zq8 (zq16 [])))) rfl ?_ (St.start h _ hp)
 intro c₀ cs Stop K
 have eH:=T.nH
 have eW:=T.nW
 have eM:=T.m
 refine fsr ?_
 refine xij mn (v:=.agg #[.slice a1 n1 c1,.slice a2 n2 c2,.slice a3 n3 c3]) rfl fun b1=>xcq (L':=[(b1,.cells #[.slice a1 n1 c1,.slice a2 n2 c2,.slice a3 n3 c3] 25 (0,0))]) rfl ?_
 refine ro (xax (v:=.int .i64 0) rfl) <| ren <| xbq <| rt (xax (v:=.int .i64 0) rfl) (tm':=zq8 _) rfl <| ren <| fsr ?_
 refine ro (xax (v:=.int .i64 0) rfl) <| xak <| xdj ?_
 refine xhk (m₀:=m-0) (fun m_ tm_ h_=>∃ (k:Nat) (s:Int),m_=m-k∧(∃ y2:Nat→Value,tm_=[.agg #[.slice a1 n1 c1,.slice a2 n2 c2,.slice a3 n3 c3],.slice b m cb,.int .i64 (x),.pointer (some ⟨b1,0,none⟩),undef,undef,.int .i64 0,.int .i64 (s),.int .i64 (((k:Nat):Int)),(y2 9),(y2 10),(y2 11),(y2 12),(y2 13),(y2 14),(y2 15),(y2 16),(y2 17),(y2 18),(y2 19),(y2 20),(y2 21),(y2 22),(y2 23),(y2 24),(y2 25),(y2 26),(y2 27),(y2 28),undef])∧(k≤m)∧(s=drawI t d k x)∧St h [] p h_ ([(b1,.cells #[.slice a1 n1 c1,.slice a2 n2 c2,.slice a3 n3 c3] 25 (0,0))])) (fun h_ H_=>⟨0,0,rfl,(y_of rfl),Nat.zero_le _,rfl,H_⟩) ?_
 intro m_ tm_ IH3
 refine xhq fun k=>xhq fun s=>xcz fun hm_=>xcz fun ht_=>xcz fun hk=>xcz fun hs=>?_
 subst hm_;obtain ⟨y2,ht_⟩:=ht_;subst ht_
 have hb_:0≤drawI t d k x∧drawI t d k x≤1000*k:=xyz fun i hi=>hd i (by omega)
 have hdk:=fun z_:k<m=>(show 0≤d.getD k 0∧d.getD k 0≤1000 from hd k z_)
 refine xez <| fsr <| ro (xaq (v:=.int .i64 (((k:Nat):Int))) rfl) <| rt (xaq (v:=.slice b m cb) rfl) (tm':=zq1 (zq2 (zq8 _))) rfl <| ro (xfz Tryd.underlying22 rfl) <| ro (xgj rfl rfl) ?_
 refine xak ?_
 by_cases cc4:((k:Nat):Int)<((m:Nat):Int)
 ·
  refine xdx rfl (dtt cc4) <| xcv <| xez <| xdj <| fsr <| rt (xaz xhj rfl (a':=⟨b1,2,none⟩) rfl) (tm':=zq16 _) rfl ?_
  refine rd (fun h_ H_=>xaj H_ tA23 rfl (i:=0) rfl (v:=.slice a3 n3 c3) rfl) <| ro (xaq (v:=.int .i64 (((k:Nat):Int))) rfl) ?_
  refine rt (xbw (i:=k) Tryd.underlying23 tS43 (xjq a3 n3 c3 (T.y.ne (by omega))) rfl (by omega)) (tm':=zq1 (zq2 (zq16 _))) rfl ?_
  refine ro (xaz xoj rfl (a':=(adr a3).add (k*2)) rfl) ?_
  refine rd (fun h_ H_=>xbj H_ tA3 rfl (v:=.int .i64 ((t.wy.getD k wz).1)) (T.y.ho (by omega))) ?_
  refine rt (xaq (v:=.int .i64 (x)) rfl) (tm':=zq2 (zq4 (zq8 (zq16 [])))) rfl <| ro (xkw rfl rfl) <| xak ?_
  by_cases cc5:(t.wy.getD k wz).1=x
  ·
   refine xdx rfl (dtt cc5) <| xbq <| ro (xaq (v:=.int .i64 (s)) rfl) <| rt (xaq (v:=.slice b m cb) rfl) (tm':=zq2 (zq4 (zq8 (zq16 [])))) rfl <| ro (xaq (v:=.int .i64 (((k:Nat):Int))) rfl) ?_
   refine ro (xbw (i:=k) Tryd.underlying22 tS3 (xjq b m cb (D.ne (by omega))) rfl (by omega)) ?_
   refine xbx mn (fun h_ H_=>xbj H_ tA3 rfl (v:=.int .i64 (d.getD k 0)) (D.get (by omega))) (tm':=zq2 (zq4 (zq8 (zq16 [])))) rfl ?_
   refine ro (xek rfl rfl (wr (by have z_:=hdk (by omega);omega))) ?_
   refine ro (xax (v:=.int .i64 (s+(d.getD k 0))) rfl) <| xak <| xdq <| xbq <| rt (xaq (v:=.int .i64 (((k:Nat):Int))) rfl) (tm':=zq2 (zq4 (zq8 _))) rfl ?_
   refine ro (xek rfl rfl (n:=((k+1:Nat):Int)) (wr (by omega))) ?_
   refine ro (xax (v:=.int .i64 (((k+1:Nat):Int))) rfl) <| xak ?_
   exact fun h_ H_=>IH3 _ _ (by omega) h_ ⟨k+1,s+(d.getD k 0),rfl,(y_of rfl),(by omega),(by first | (rw [hs,zhk ‹_›]) | (rw [hs,ztw ‹_›])),H_⟩
  ·
   refine xck rfl (dff cc5) <| xcv <| xdq <| xbq <| rt (xaq (v:=.int .i64 (((k:Nat):Int))) rfl) (tm':=zq2 (zq4 (zq8 _))) rfl ?_
   refine ro (xek rfl rfl (n:=((k+1:Nat):Int)) (wr (by omega))) ?_
   refine ro (xax (v:=.int .i64 (((k+1:Nat):Int))) rfl) <| xak ?_
   exact fun h_ H_=>IH3 _ _ (by omega) h_ ⟨k+1,s,rfl,(y_of rfl),(by omega),(by first | (rw [hs,zhk ‹_›]) | (rw [hs,ztw ‹_›])),H_⟩
 ·
  refine xck rfl (dff cc4) <| xhz rfl <| fsr <| rt (xaq (v:=.int .i64 (s)) rfl) (tm':=zq2 (zq4 (zq8 (zq16 [])))) rfl <| ro (xax (v:=.int .i64 (s)) rfl) <| xak ?_
  refine xdv Tryd.func34 rfl (vs:=[.int .i64 (s)]) (fun h_ H_=>⟨.int .i64 (s),_,rfl,rfl,rfl⟩) (v:=.int .i64 (s)) rfl ?_
  have hkm:k=d.length:=by have:=D.len;omega
  exact fun h_ H_=>K _ _ ⟨by rw [hs,hkm],H_.kept⟩
theorem c62 (md:Md) (h:Heap) (p:PHeap) (hp:Per p h) (a1:Option Addr) (n1 c1:Nat) (a2:Option Addr) (n2 c2:Nat) (a3:Option Addr) (n3 c3:Nat) (t:Tn) (T:TownP p a1 n1 a2 n2 a3 n3 t) (hn:n1≤40∧n2≤40∧n3≤41) (b:Option Addr) (m cb:Nat) (d:List Int) (D:Ints p b m d) (hm:m≤n3) (hd: ∀ i,i<m→0≤dv d i∧dv d i≤1000) (x:Int):CallsX Tryd.prog md 62 #[.agg #[.slice a1 n1 c1,.slice a2 n2 c2,.slice a3 n3 c3],.slice b m cb,.int .i64 (x)] h fun v h'=>v= .int .i64 (giveI t d d.length x)∧Keep h h':=by
 refine xcx (Φ:=fun h_=>St h [] p h_ []) Tryd.func62 rfl (tm:=zq2 (zq4 (zq8 (zq16 [])))) rfl ?_ (St.start h _ hp)
 intro c₀ cs Stop K
 have eH:=T.nH
 have eW:=T.nW
 have eM:=T.m
 refine fsr ?_
 refine xij mn (v:=.agg #[.slice a1 n1 c1,.slice a2 n2 c2,.slice a3 n3 c3]) rfl fun b1=>xcq (L':=[(b1,.cells #[.slice a1 n1 c1,.slice a2 n2 c2,.slice a3 n3 c3] 25 (0,0))]) rfl ?_
 refine rt (xax (v:=.int .i64 0) rfl) (tm':=zq1 (zq2 (zq4 _))) rfl <| ren <| xbq <| ro (xax (v:=.int .i64 0) rfl) <| ren <| fsr ?_
 refine ro (xax (v:=.int .i64 0) rfl) <| xak <| xdj ?_
 refine xhk (m₀:=m-0) (fun m_ tm_ h_=>∃ (k:Nat) (s:Int),m_=m-k∧(∃ y2:Nat→Value,tm_=[.agg #[.slice a1 n1 c1,.slice a2 n2 c2,.slice a3 n3 c3],.slice b m cb,.int .i64 (x),.pointer (some ⟨b1,0,none⟩),undef,undef,.int .i64 0,.int .i64 (s),.int .i64 (((k:Nat):Int)),(y2 9),(y2 10),(y2 11),(y2 12),(y2 13),(y2 14),(y2 15),(y2 16),(y2 17),(y2 18),(y2 19),(y2 20),(y2 21),(y2 22),(y2 23),(y2 24),(y2 25),(y2 26),(y2 27),(y2 28),undef])∧(k≤m)∧(s=giveI t d k x)∧St h [] p h_ ([(b1,.cells #[.slice a1 n1 c1,.slice a2 n2 c2,.slice a3 n3 c3] 25 (0,0))])) (fun h_ H_=>⟨0,0,rfl,(y_of rfl),Nat.zero_le _,rfl,H_⟩) ?_
 intro m_ tm_ IH3
 refine xhq fun k=>xhq fun s=>xcz fun hm_=>xcz fun ht_=>xcz fun hk=>xcz fun hs=>?_
 subst hm_;obtain ⟨y2,ht_⟩:=ht_;subst ht_
 have hb_:0≤giveI t d k x∧giveI t d k x≤1000*k:=xyz fun i hi=>hd i (by omega)
 have hdk:=fun z_:k<m=>(show 0≤d.getD k 0∧d.getD k 0≤1000 from hd k z_)
 refine xez <| fsr <| rt (xaq (v:=.int .i64 (((k:Nat):Int))) rfl) (tm':=zq2 (zq8 _)) rfl <| ro (xaq (v:=.slice b m cb) rfl) <| ro (xfz Tryd.underlying22 rfl) <| rt (xgj rfl rfl) (tm':=zq1 (zq4 (zq8 _))) rfl ?_
 refine xak ?_
 by_cases cc4:((k:Nat):Int)<((m:Nat):Int)
 ·
  refine xdx rfl (dtt cc4) <| xcv <| xez <| xdj <| fsr <| ro (xaz xhj rfl (a':=⟨b1,2,none⟩) rfl) ?_
  refine rd (fun h_ H_=>xaj H_ tA23 rfl (i:=0) rfl (v:=.slice a3 n3 c3) rfl) <| rt (xaq (v:=.int .i64 (((k:Nat):Int))) rfl) (tm':=zq2 (zq16 _)) rfl ?_
  refine ro (xbw (i:=k) Tryd.underlying23 tS43 (xjq a3 n3 c3 (T.y.ne (by omega))) rfl (by omega)) ?_
  refine ro (xaz xqv rfl (a':=((adr a3).add (k*2)).add 1) rfl) ?_
  refine xbx mn (fun h_ H_=>xbj H_ tA3 rfl (v:=.int .i64 ((t.wy.getD k wz).2)) (T.y.we (by omega))) (tm':=zq2 (zq4 (zq8 (zq16 [])))) rfl ?_
  refine ro (xaq (v:=.int .i64 (x)) rfl) <| ro (xkw rfl rfl) <| xak ?_
  by_cases cc5:(t.wy.getD k wz).2=x
  ·
   refine xdx rfl (dtt cc5) <| xbq <| rt (xaq (v:=.int .i64 (s)) rfl) (tm':=zq2 (zq4 (zq8 (zq16 [])))) rfl <| ro (xaq (v:=.slice b m cb) rfl) <| ro (xaq (v:=.int .i64 (((k:Nat):Int))) rfl) ?_
   refine rt (xbw (i:=k) Tryd.underlying22 tS3 (xjq b m cb (D.ne (by omega))) rfl (by omega)) (tm':=zq2 (zq4 (zq8 (zq16 [])))) rfl ?_
   refine rd (fun h_ H_=>xbj H_ tA3 rfl (v:=.int .i64 (d.getD k 0)) (D.get (by omega))) ?_
   refine ro (xek rfl rfl (wr (by have z_:=hdk (by omega);omega))) ?_
   refine rt (xax (v:=.int .i64 (s+(d.getD k 0))) rfl) (tm':=zq8 _) rfl <| xak <| xdq <| xbq <| ro (xaq (v:=.int .i64 (((k:Nat):Int))) rfl) ?_
   refine ro (xek rfl rfl (n:=((k+1:Nat):Int)) (wr (by omega))) ?_
   refine rt (xax (v:=.int .i64 (((k+1:Nat):Int))) rfl) (tm':=zq1 (zq8 _)) rfl <| xak ?_
   exact fun h_ H_=>IH3 _ _ (by omega) h_ ⟨k+1,s+(d.getD k 0),rfl,(y_of rfl),(by omega),(by first | (rw [hs,zgk ‹_›]) | (rw [hs,zsw ‹_›])),H_⟩
  ·
   refine xck rfl (dff cc5) <| xcv <| xdq <| xbq <| ro (xaq (v:=.int .i64 (((k:Nat):Int))) rfl) ?_
   refine ro (xek rfl rfl (n:=((k+1:Nat):Int)) (wr (by omega))) ?_
   refine rt (xax (v:=.int .i64 (((k+1:Nat):Int))) rfl) (tm':=zq1 (zq8 _)) rfl <| xak ?_
   exact fun h_ H_=>IH3 _ _ (by omega) h_ ⟨k+1,s,rfl,(y_of rfl),(by omega),(by first | (rw [hs,zgk ‹_›]) | (rw [hs,zsw ‹_›])),H_⟩
 ·
  refine xck rfl (dff cc4) <| xhz rfl <| fsr <| ro (xaq (v:=.int .i64 (s)) rfl) <| ro (xax (v:=.int .i64 (s)) rfl) <| xak ?_
  refine xdv Tryd.func62 rfl (vs:=[.int .i64 (s)]) (fun h_ H_=>⟨.int .i64 (s),_,rfl,rfl,rfl⟩) (v:=.int .i64 (s)) rfl ?_
  have hkm:k=d.length:=by have:=D.len;omega
  exact fun h_ H_=>K _ _ ⟨by rw [hs,hkm],H_.kept⟩
theorem c31 (md:Md) (h:Heap) (p:PHeap) (hp:Per p h) (a1:Option Addr) (n1 c1:Nat) (a2:Option Addr) (n2 c2:Nat) (a3:Option Addr) (n3 c3:Nat) (t:Tn) (T:TownP p a1 n1 a2 n2 a3 n3 t) (hn:n1≤40∧n2≤40∧n3≤41) (b:Option Addr) (m cb:Nat) (d:List Int) (D:Ints p b m d) (hw:WOk t):CallsX Tryd.prog md 31 #[.agg #[.slice a1 n1 c1,.slice a2 n2 c2,.slice a3 n3 c3],.slice b m cb] h fun v h'=>v= .bool (decide (DivI t d))∧Keep h h':=by
 refine xcx (Φ:=fun h_=>St h [] p h_ []) Tryd.func31 rfl (tm:=zq1 (zq8 (zq32 (zq32 [])))) rfl ?_ (St.start h _ hp)
 intro c₀ cs Stop K
 have eH:=T.nH
 have eW:=T.nW
 have eM:=T.m
 refine fsr ?_
 refine xij mn (v:=.agg #[.slice a1 n1 c1,.slice a2 n2 c2,.slice a3 n3 c3]) rfl fun b1=>xcq (L':=[(b1,.cells #[.slice a1 n1 c1,.slice a2 n2 c2,.slice a3 n3 c3] 25 (0,0))]) rfl ?_
 refine xfj (tm':=_::_::_::_) rfl ?_
 refine ro (xax (v:=.bool (false)) rfl) <| ren <| fsr <| ro (xaq (v:=.slice b m cb) rfl) <| rt (xfz Tryd.underlying22 rfl) (tm':=zq1 (zq8 _)) rfl <| ro (xaz xhj rfl (a':=⟨b1,2,none⟩) rfl) ?_
 refine rd (fun h_ H_=>xaj H_ tA23 rfl (i:=0) rfl (v:=.slice a3 n3 c3) rfl) <| rt (xfz Tryd.underlying23 rfl) (tm':=zq4 (zq8 _)) rfl <| ro (xmk rfl rfl) <| xak ?_
 by_cases cc2:((m:Nat):Int)≠((n3:Nat):Int)
 ·
  refine xdx rfl (dtt cc2) <| fsr <| ro (xax (v:=.bool (false)) rfl) <| xak ?_
  refine xdv Tryd.func31 rfl (vs:=[.bool (false)]) (fun h_ H_=>⟨.bool (false),_,rfl,rfl,rfl⟩) (v:=.bool (false)) rfl ?_
  exact fun h_ H_=>K _ _ ⟨by first | (rw [decide_eq_true (p:=DivI t d) ⟨by have hl:=D.len;omega,fun i hi=>h1 i (by have hl:=D.len;omega),fun i hi=>h2 i (by have hl:=D.len;omega)⟩]) | (rw [decide_eq_false (p:=DivI t d) (fun z=>by have z1:=z.len;have hl:=D.len;first | omega | (have z3:=z.pos k (by omega);omega) | (have z3:=z.at_ l (by omega);unfold DivAt at z3;omega))]),H_.kept⟩
 ·
  refine xck rfl (dff cc2) <| xcv <| xez <| fsr <| rt (xax (v:=.int .i64 0) rfl) (tm':=zq2 (zq4 _)) rfl <| xak ?_
  refine xdj ?_
  refine xhk (m₀:=m-0) (fun m_ tm_ h_=>∃ (k:Nat),m_=m-k∧(∃ y3:Nat→Value,tm_=(.agg #[.slice a1 n1 c1,.slice a2 n2 c2,.slice a3 n3 c3]::.slice b m cb::.pointer (some ⟨b1,0,none⟩)::undef::(y3 4)::.int .i64 (((k:Nat):Int))::undef::.slice b m cb::.int .i64 (((m:Nat):Int))::.pointer (some ⟨b1,2,none⟩)::.slice a3 n3 c3::.int .i64 (((n3:Nat):Int))::.bool (decide (((m:Nat):Int)≠((n3:Nat):Int)))::(y3 13)::(y3 14)::(y3 15)::(y3 16)::(y3 17)::(y3 18)::(y3 19)::(y3 20)::(y3 21)::(y3 22)::(y3 23)::(y3 24)::zu16 (zu16 (zu16 []))))∧(k≤m)∧(∀ i,i<k→0≤d.getD i 0∧d.getD i 0≤9)∧St h [] p h_ ([(b1,.cells #[.slice a1 n1 c1,.slice a2 n2 c2,.slice a3 n3 c3] 25 (0,0))])) (fun h_ H_=>⟨0,rfl,(y_of rfl),Nat.zero_le _,(fun i hi=>absurd hi (Nat.not_lt_zero i)),H_⟩) ?_
  intro m_ tm_ IH4
  refine xhq fun k=>xcz fun hm_=>xcz fun ht_=>xcz fun hk=>xcz fun h1=>?_
  subst hm_;obtain ⟨y3,ht_⟩:=ht_;subst ht_
  refine xez <| fsr <| ro (xaq (v:=.int .i64 (((k:Nat):Int))) rfl) <| ro (xaq (v:=.slice b m cb) rfl) <| rt (xfz Tryd.underlying22 rfl) (tm':=zq16 _) rfl <| ro (xgj rfl rfl) ?_
  refine xak ?_
  by_cases cc5:((k:Nat):Int)<((m:Nat):Int)
  ·
   refine xdx rfl (dtt cc5) <| xcv <| xez <| xdj <| fsr <| ro (xaq (v:=.slice b m cb) rfl) ?_
   refine rt (xaq (v:=.int .i64 (((k:Nat):Int))) rfl) (tm':=zq1 (zq4 (zq16 _))) rfl ?_
   refine ro (xbw (i:=k) Tryd.underlying22 tS3 (xjq b m cb (D.ne (by omega))) rfl (by omega)) ?_
   refine rd (fun h_ H_=>xbj H_ tA3 rfl (v:=.int .i64 (d.getD k 0)) (D.get (by omega))) ?_
   refine xeq mn (first:=[]) (cap:=[]) rfl rfl fC79 (fun h_ H_=>c79 md _ (d.getD k 0) (0) (9)) (tm':=zq8 (zq16 _)) rfl ?_
   refine ro (xjw rfl) <| xak ?_
   by_cases cc6:0≤d.getD k 0∧d.getD k 0≤9
   ·
    refine xck rfl (xfw (dtt cc6)) <| xcv <| xdq <| xbq <| ro (xaq (v:=.int .i64 (((k:Nat):Int))) rfl) ?_
    refine rt (xek rfl rfl (n:=((k+1:Nat):Int)) (wr (by omega))) (tm':=zq1 (zq2 (zq16 _))) rfl ?_
    refine ro (xax (v:=.int .i64 (((k+1:Nat):Int))) rfl) <| xak ?_
    exact fun h_ H_=>IH4 _ _ (by omega) h_ ⟨k+1,rfl,(y_of rfl),(by omega),(xrw h1 (by omega)),H_⟩
   ·
    refine xdx rfl (xmz (dff cc6)) <| fsr <| ro (xax (v:=.bool (false)) rfl) <| xak ?_
    refine xdv Tryd.func31 rfl (vs:=[.bool (false)]) (fun h_ H_=>⟨.bool (false),_,rfl,rfl,rfl⟩) (v:=.bool (false)) rfl ?_
    exact fun h_ H_=>K _ _ ⟨by first | (rw [decide_eq_true (p:=DivI t d) ⟨by have hl:=D.len;omega,fun i hi=>h1 i (by have hl:=D.len;omega),fun i hi=>h2 i (by have hl:=D.len;omega)⟩]) | (rw [decide_eq_false (p:=DivI t d) (fun z=>by have z1:=z.len;have hl:=D.len;first | omega | (have z3:=z.pos k (by omega);omega) | (have z3:=z.at_ l (by omega);unfold DivAt at z3;omega))]),H_.kept⟩
  ·
   refine xck rfl (dff cc5) <| xhz rfl <| xez <| fsr <| rt (xax (v:=.int .i64 0) rfl) (tm':=zq1 (zq2 (zq4 _))) rfl <| xak ?_
   refine xdj ?_
   refine xhk (m₀:=m-0) (fun m_ tm_ h_=>∃ (l:Nat),m_=m-l∧(∃ y7:Nat→Value,tm_=[.agg #[.slice a1 n1 c1,.slice a2 n2 c2,.slice a3 n3 c3],.slice b m cb,.pointer (some ⟨b1,0,none⟩),undef,(y7 4),.int .i64 (((k:Nat):Int)),.int .i64 (((l:Nat):Int)),.slice b m cb,.int .i64 (((m:Nat):Int)),.pointer (some ⟨b1,2,none⟩),.slice a3 n3 c3,.int .i64 (((n3:Nat):Int)),.bool (decide (((m:Nat):Int)≠((n3:Nat):Int))),.int .i64 (((k:Nat):Int)),.slice b m cb,.int .i64 (((m:Nat):Int)),.bool (decide (((k:Nat):Int)<((m:Nat):Int))),(y3 17),(y3 18),(y3 19),(y3 20),(y3 21),(y3 22),(y3 23),(y3 24),(y7 25),(y7 26),(y7 27),(y7 28),(y7 29),(y7 30),(y7 31),(y7 32),(y7 33),(y7 34),(y7 35),(y7 36),(y7 37),(y7 38),(y7 39),(y7 40),(y7 41),(y7 42),(y7 43),(y7 44),(y7 45),(y7 46),(y7 47),(y7 48),(y7 49),(y7 50),(y7 51),(y7 52),(y7 53),(y7 54),(y7 55),(y7 56),(y7 57),(y7 58),(y7 59),(y7 60),(y7 61),(y7 62),(y7 63),(y7 64),(y7 65),(y7 66),(y7 67),(y7 68),(y7 69),(y7 70),(y7 71),(y7 72)])∧(l≤m)∧(∀ i,i<l→DivAt t d i)∧St h [] p h_ ([(b1,.cells #[.slice a1 n1 c1,.slice a2 n2 c2,.slice a3 n3 c3] 25 (0,0))])) (fun h_ H_=>⟨0,rfl,(y_of rfl),Nat.zero_le _,(fun i hi=>absurd hi (Nat.not_lt_zero i)),H_⟩) ?_
   intro m_ tm_ IH8
   refine xhq fun l=>xcz fun hm_=>xcz fun ht_=>xcz fun hl=>xcz fun h2=>?_
   subst hm_;obtain ⟨y7,ht_⟩:=ht_;subst ht_
   have hwl:=fun z_:l<m=>hw l (by omega)
   refine xez <| fsr <| ro (xaq (v:=.int .i64 (((l:Nat):Int))) rfl) <| ro (xaq (v:=.slice b m cb) rfl) <| rt (xfz Tryd.underlying22 rfl) (tm':=zq4 (zq8 (zq16 _))) rfl <| ro (xgj rfl rfl) ?_
   refine xak ?_
   by_cases cc9:((l:Nat):Int)<((m:Nat):Int)
   ·
    refine xdx rfl (dtt cc9) <| xcv <| xez <| xdj <| xez ?_
    by_cases cc10:t.hs.getD ((((t.wy.getD l wz).1)).toNat) 0<drawI t d d.length ((t.wy.getD l wz).1)
    ·
     refine xgx 40 [[],[],[],[2],[],[2,3,4],[2,3,4,5],[2,3,4,5,6],[0,1,2,3,4,5,6,7],[],[9],[],[11],[],[11,12,13],[11,12,13,14],[11,12,13,14,15],[9,10,11,12,13,14,15,16],[9,10,11,12,13,14,15,16,17],[0,1,2,3,4,5,6,7,9,10,11,12,13,14,15,16,17,18],[0,1,2,3,4,5,6,7,8,9,10,11,12,13,14,15,16,17,18,19],[],[],[],[23],[],[23,24,25],[23,24,25,26],[23,24,25,26,27],[21,22,23,24,25,26,27,28],[],[30],[],[32],[0,1,2,3,4,5,6,7,8,9,10,11,12,13,14,15,16,17,18,19],[0,1,2,3,4,5,6,7,8,9,10,11,12,13,14,15,16,17,18,19,32,33,34],[0,1,2,3,4,5,6,7,8,9,10,11,12,13,14,15,16,17,18,19,32,33,34,35],[0,1,2,3,4,5,6,7,8,9,10,11,12,13,14,15,16,17,18,19,32,33,34,35,36],[0,1,2,3,4,5,6,7,8,9,10,11,12,13,14,15,16,17,18,19,30,31,32,33,34,35,36,37],[0,1,2,3,4,5,6,7,8,9,10,11,12,13,14,15,16,17,18,19,30,31,32,33,34,35,36,37,38],[0,1,2,3,4,5,6,7,8,9,10,11,12,13,14,15,16,17,18,19,21,22,23,24,25,26,27,28,29,30,31,32,33,34,35,36,37,38,39],[]] xkk (by kernel_rfl) (Nat.le_of_ble_eq_true rfl) ?_
     refine wd (fun h_ H_=>xav H_ tA25 tS25 rfl (i:=0) rfl (vs:=[.slice a1 n1 c1,.slice a2 n2 c2,.slice a3 n3 c3]) rfl rfl) <| wt (xaq (v:=.slice b m cb) rfl) (tm':=zq1 (zq32 _)) rfl <| wo (xaz xhj rfl (a':=⟨b1,2,none⟩) rfl) ?_
     refine xbk mn (fun h_ H_=>xaj H_ tA23 rfl (i:=0) rfl (v:=.slice a3 n3 c3) rfl) (tm':=zq1 (zq2 (zq32 _))) rfl ?_
     refine wo (xaq (v:=.int .i64 (((l:Nat):Int))) rfl) ?_
     refine wt (xbw (i:=l) Tryd.underlying23 tS43 (xjq a3 n3 c3 (T.y.ne (by omega))) rfl (by omega)) (tm':=zq1 (zq4 (zq32 _))) rfl ?_
     refine wo (xaz xoj rfl (a':=(adr a3).add (l*2)) rfl) ?_
     refine xbk mn (fun h_ H_=>xbj H_ tA3 rfl (v:=.int .i64 ((t.wy.getD l wz).1)) (T.y.ho (by omega))) (tm':=zq1 (zq2 (zq4 (zq32 _)))) rfl ?_
     refine xiv mn (first:=[]) (cap:=[]) rfl rfl fC34 (fun h_ H_=>(c34 md _ _ H_.pe _ _ _ _ _ _ _ _ _ t (show TownP _ _ _ _ _ _ _ t from ⟨T.h,T.w,T.y⟩) (by omega) _ _ _ _ D (by omega) (fun i hi=>by have z_:=h1 i (by omega);unfold dv;omega) ((t.wy.getD l wz).1)).mono fun v_ h2_ ⟨e_,k_⟩=>⟨e_,H_.call k_⟩) rfl ?_
     refine wt (xaz xnx rfl (a':=⟨b1,0,none⟩) rfl) (tm':=zq1 (zq8 (zq32 _))) rfl <| wd (fun h_ H_=>xaj H_ tA22 rfl (i:=0) rfl (v:=.slice a1 n1 c1) rfl) <| wt (xaz xhj rfl (a':=⟨b1,2,none⟩) rfl) (tm':=zq1 (zq2 (zq8 (zq32 _)))) rfl <| wd (fun h_ H_=>xaj H_ tA23 rfl (i:=0) rfl (v:=.slice a3 n3 c3) rfl) <| wt (xaq (v:=.int .i64 (((l:Nat):Int))) rfl) (tm':=zq1 (zq4 (zq8 (zq32 _)))) rfl ?_
     refine wo (xbw (i:=l) Tryd.underlying23 tS43 (xjq a3 n3 c3 (T.y.ne (by omega))) rfl (by omega)) ?_
     refine wt (xaz xoj rfl (a':=(adr a3).add (l*2)) rfl) (tm':=zq1 (zq2 (zq4 (zq8 (zq32 _))))) rfl ?_
     refine wd (fun h_ H_=>xbj H_ tA3 rfl (v:=.int .i64 ((t.wy.getD l wz).1)) (T.y.ho (by omega))) ?_
     refine wt (xkz Tryd.underlying22 tS3 (xjq a1 n1 c1 (T.h.ne (by omega))) rfl (by omega) (by omega) (a':=(adr a1).add (((((t.wy.getD l wz).1)).toNat)*1)) rfl) (tm':=zq1 (zq8 (zq32 (zq32 [])))) rfl ?_
     refine wd (fun h_ H_=>xbj H_ tA3 rfl (v:=.int .i64 (t.hs.getD ((((t.wy.getD l wz).1)).toNat) 0)) (T.h.get (by omega))) ?_
     refine wt (xkq rfl rfl) (tm':=zq1 (zq8 (zq32 (zq32 [])))) rfl <| wo (xaq (v:=.bool (decide (t.hs.getD ((((t.wy.getD l wz).1)).toNat) 0<drawI t d d.length ((t.wy.getD l wz).1)))) rfl) <| xex (mo rfl rfl (dtt cc10)) (tm':=zq1 (zq8 (zq32 (zq32 [])))) rfl <| wp (mo rfl rfl (dtt cc10)) <| xex (mo rfl rfl (dtt cc10)) (tm':=zq1 (zq8 (zq32 (zq32 [])))) rfl <| wp (mo rfl rfl (dtt cc10)) ?_
     refine xex (mo rfl rfl (dtt cc10)) (tm':=zq1 (zq8 (zq32 (zq32 [])))) rfl <| wp (mo rfl rfl (dtt cc10)) <| xex (mo rfl rfl (dtt cc10)) (tm':=zq1 (zq8 (zq32 (zq32 [])))) rfl <| wp (mo rfl rfl (dtt cc10)) <| xex (mo rfl rfl (dtt cc10)) (tm':=zq1 (zq8 (zq32 (zq32 [])))) rfl <| wp (mo rfl rfl (dtt cc10)) ?_
     refine xex (mo rfl rfl (dtt cc10)) (tm':=zq1 (zq8 (zq32 (zq32 [])))) rfl <| wp (mo rfl rfl (dtt cc10)) <| xex (mo rfl rfl (dtt cc10)) (tm':=zq1 (zq8 (zq32 (zq32 [])))) rfl <| wp (mo rfl rfl (dtt cc10)) <| xex (mo rfl rfl (dtt cc10)) (tm':=zq1 (zq8 (zq32 (zq32 [])))) rfl <| wp (mo rfl rfl (dtt cc10)) ?_
     refine xex (mo rfl rfl (dtt cc10)) (tm':=zq1 (zq8 (zq32 (zq32 [])))) rfl <| wp (mo rfl rfl (dtt cc10)) <| xex (mo rfl rfl (dtt cc10)) (tm':=zq1 (zq8 (zq32 (zq32 [])))) rfl ?_
     refine xiz rfl ?_
     refine xfx (mo rfl rfl (dtt cc10)) (tm':=zq1 (zq8 (zq32 (zq32 [])))) rfl <| ro (xdz rfl (dtt cc10) (v:=.bool (true)) rfl) <| xak <| xdx rfl rfl <| fsr <| ro (xax (v:=.bool (false)) rfl) ?_
     refine xak ?_
     refine xdv Tryd.func31 rfl (vs:=[.bool (false)]) (fun h_ H_=>⟨.bool (false),_,rfl,rfl,rfl⟩) (v:=.bool (false)) rfl ?_
     exact fun h_ H_=>K _ _ ⟨by first | (rw [decide_eq_true (p:=DivI t d) ⟨by have hl:=D.len;omega,fun i hi=>h1 i (by have hl:=D.len;omega),fun i hi=>h2 i (by have hl:=D.len;omega)⟩]) | (rw [decide_eq_false (p:=DivI t d) (fun z=>by have z1:=z.len;have hl:=D.len;first | omega | (have z3:=z.pos k (by omega);omega) | (have z3:=z.at_ l (by omega);unfold DivAt at z3;omega))]),H_.kept⟩
    ·
     refine xgx 40 [[],[],[],[2],[],[2,3,4],[2,3,4,5],[2,3,4,5,6],[0,1,2,3,4,5,6,7],[],[9],[],[11],[],[11,12,13],[11,12,13,14],[11,12,13,14,15],[9,10,11,12,13,14,15,16],[9,10,11,12,13,14,15,16,17],[0,1,2,3,4,5,6,7,9,10,11,12,13,14,15,16,17,18],[0,1,2,3,4,5,6,7,8,9,10,11,12,13,14,15,16,17,18,19],[],[],[],[23],[],[23,24,25],[23,24,25,26],[23,24,25,26,27],[21,22,23,24,25,26,27,28],[],[30],[],[32],[0,1,2,3,4,5,6,7,8,9,10,11,12,13,14,15,16,17,18,19],[0,1,2,3,4,5,6,7,8,9,10,11,12,13,14,15,16,17,18,19,32,33,34],[0,1,2,3,4,5,6,7,8,9,10,11,12,13,14,15,16,17,18,19,32,33,34,35],[0,1,2,3,4,5,6,7,8,9,10,11,12,13,14,15,16,17,18,19,32,33,34,35,36],[0,1,2,3,4,5,6,7,8,9,10,11,12,13,14,15,16,17,18,19,30,31,32,33,34,35,36,37],[0,1,2,3,4,5,6,7,8,9,10,11,12,13,14,15,16,17,18,19,30,31,32,33,34,35,36,37,38],[0,1,2,3,4,5,6,7,8,9,10,11,12,13,14,15,16,17,18,19,21,22,23,24,25,26,27,28,29,30,31,32,33,34,35,36,37,38,39],[]] xkk (by kernel_rfl) (Nat.le_of_ble_eq_true rfl) ?_
     refine xbk mn (fun h_ H_=>xav H_ tA25 tS25 rfl (i:=0) rfl (vs:=[.slice a1 n1 c1,.slice a2 n2 c2,.slice a3 n3 c3]) rfl rfl) (tm':=zq32 _) rfl ?_
     refine wo (xaq (v:=.slice b m cb) rfl) <| wt (xaz xhj rfl (a':=⟨b1,2,none⟩) rfl) (tm':=zq2 (zq32 _)) rfl <| wd (fun h_ H_=>xaj H_ tA23 rfl (i:=0) rfl (v:=.slice a3 n3 c3) rfl) <| wt (xaq (v:=.int .i64 (((l:Nat):Int))) rfl) (tm':=zq4 (zq32 _)) rfl ?_
     refine wo (xbw (i:=l) Tryd.underlying23 tS43 (xjq a3 n3 c3 (T.y.ne (by omega))) rfl (by omega)) ?_
     refine wt (xaz xoj rfl (a':=(adr a3).add (l*2)) rfl) (tm':=zq2 (zq4 (zq32 _))) rfl ?_
     refine wd (fun h_ H_=>xbj H_ tA3 rfl (v:=.int .i64 ((t.wy.getD l wz).1)) (T.y.ho (by omega))) ?_
     refine xiv mn (first:=[]) (cap:=[]) rfl rfl fC34 (fun h_ H_=>(c34 md _ _ H_.pe _ _ _ _ _ _ _ _ _ t (show TownP _ _ _ _ _ _ _ t from ⟨T.h,T.w,T.y⟩) (by omega) _ _ _ _ D (by omega) (fun i hi=>by have z_:=h1 i (by omega);unfold dv;omega) ((t.wy.getD l wz).1)).mono fun v_ h2_ ⟨e_,k_⟩=>⟨e_,H_.call k_⟩) (tm':=zq8 (zq32 _)) rfl ?_
     refine wo (xaz xnx rfl (a':=⟨b1,0,none⟩) rfl) ?_
     refine xbk mn (fun h_ H_=>xaj H_ tA22 rfl (i:=0) rfl (v:=.slice a1 n1 c1) rfl) (tm':=zq2 (zq8 (zq32 _))) rfl ?_
     refine wo (xaz xhj rfl (a':=⟨b1,2,none⟩) rfl) ?_
     refine xbk mn (fun h_ H_=>xaj H_ tA23 rfl (i:=0) rfl (v:=.slice a3 n3 c3) rfl) (tm':=zq4 (zq8 (zq32 _))) rfl ?_
     refine wo (xaq (v:=.int .i64 (((l:Nat):Int))) rfl) ?_
     refine wt (xbw (i:=l) Tryd.underlying23 tS43 (xjq a3 n3 c3 (T.y.ne (by omega))) rfl (by omega)) (tm':=zq2 (zq4 (zq8 (zq32 _)))) rfl ?_
     refine wo (xaz xoj rfl (a':=(adr a3).add (l*2)) rfl) ?_
     refine xbk mn (fun h_ H_=>xbj H_ tA3 rfl (v:=.int .i64 ((t.wy.getD l wz).1)) (T.y.ho (by omega))) (tm':=zq16 (zq32 _)) rfl ?_
     refine wo (xkz Tryd.underlying22 tS3 (xjq a1 n1 c1 (T.h.ne (by omega))) rfl (by omega) (by omega) (a':=(adr a1).add (((((t.wy.getD l wz).1)).toNat)*1)) rfl) ?_
     refine xbk mn (fun h_ H_=>xbj H_ tA3 rfl (v:=.int .i64 (t.hs.getD ((((t.wy.getD l wz).1)).toNat) 0)) (T.h.get (by omega))) (tm':=zq1 (zq8 (zq32 (zq32 [])))) rfl ?_
     refine wo (xkq rfl rfl) <| wt (xaq (v:=.bool (decide (t.hs.getD ((((t.wy.getD l wz).1)).toNat) 0<drawI t d d.length ((t.wy.getD l wz).1)))) rfl) (tm':=zq1 (zq8 (zq32 (zq32 [])))) rfl ?_
     refine xbk (ms rfl rfl (dff cc10)) (fun h_ H_=>xav H_ tA25 tS25 rfl (i:=0) rfl (vs:=[.slice a1 n1 c1,.slice a2 n2 c2,.slice a3 n3 c3]) rfl rfl) rfl ?_
     refine xbk (ms rfl rfl (dff cc10)) (fun h_ H_=>xaq (v:=.slice b m cb) rfl) (tm':=zq1 (zq8 (zq32 (zq32 [])))) rfl ?_
     refine xbk (ms rfl rfl (dff cc10)) (fun h_ H_=>xaz xhj rfl (a':=⟨b1,2,none⟩) rfl) rfl ?_
     refine xbk (ms rfl rfl (dff cc10)) (fun h_ H_=>xaj H_ tA23 rfl (i:=0) rfl (v:=.slice a3 n3 c3) rfl) (tm':=zq1 (zq8 (zq32 (zq32 [])))) rfl ?_
     refine xbk (ms rfl rfl (dff cc10)) (fun h_ H_=>xaq (v:=.int .i64 (((l:Nat):Int))) rfl) rfl ?_
     refine xbk (ms rfl rfl (dff cc10)) (fun h_ H_=>xbw (i:=l) Tryd.underlying23 tS43 (xjq a3 n3 c3 (T.y.ne (by omega))) rfl (by omega)) (tm':=zq1 (zq8 (zq32 (zq32 [])))) rfl ?_
     refine xbk (ms rfl rfl (dff cc10)) (fun h_ H_=>xaz xqv rfl (a':=((adr a3).add (l*2)).add 1) rfl) rfl ?_
     refine xbk (ms rfl rfl (dff cc10)) (fun h_ H_=>xbj H_ tA3 rfl (v:=.int .i64 ((t.wy.getD l wz).2)) (T.y.we (by omega))) (tm':=zq1 (zq8 (zq32 (zq32 [])))) rfl ?_
     refine xiv (ms rfl rfl (dff cc10)) (first:=[]) (cap:=[]) rfl rfl fC62 (fun h_ H_=>(c62 md _ _ H_.pe _ _ _ _ _ _ _ _ _ t (show TownP _ _ _ _ _ _ _ t from ⟨T.h,T.w,T.y⟩) (by omega) _ _ _ _ D (by omega) (fun i hi=>by have z_:=h1 i (by omega);unfold dv;omega) ((t.wy.getD l wz).2)).mono fun v_ h2_ ⟨e_,k_⟩=>⟨e_,H_.call k_⟩) rfl ?_
     refine xbk (ms rfl rfl (dff cc10)) (fun h_ H_=>xaz xnk rfl (a':=⟨b1,1,none⟩) rfl) (tm':=zq1 (zq8 (zq32 (zq32 [])))) rfl ?_
     refine xbk (ms rfl rfl (dff cc10)) (fun h_ H_=>xaj H_ tA22 rfl (i:=0) rfl (v:=.slice a2 n2 c2) rfl) rfl ?_
     refine xbk (ms rfl rfl (dff cc10)) (fun h_ H_=>xaz xhj rfl (a':=⟨b1,2,none⟩) rfl) (tm':=zq1 (zq8 (zq32 (zq32 [])))) rfl ?_
     refine xbk (ms rfl rfl (dff cc10)) (fun h_ H_=>xaj H_ tA23 rfl (i:=0) rfl (v:=.slice a3 n3 c3) rfl) rfl ?_
     refine xbk (ms rfl rfl (dff cc10)) (fun h_ H_=>xaq (v:=.int .i64 (((l:Nat):Int))) rfl) (tm':=zq1 (zq8 (zq32 (zq32 [])))) rfl ?_
     refine xbk (ms rfl rfl (dff cc10)) (fun h_ H_=>xbw (i:=l) Tryd.underlying23 tS43 (xjq a3 n3 c3 (T.y.ne (by omega))) rfl (by omega)) rfl ?_
     refine xbk (ms rfl rfl (dff cc10)) (fun h_ H_=>xaz xqv rfl (a':=((adr a3).add (l*2)).add 1) rfl) (tm':=zq1 (zq8 (zq32 (zq32 [])))) rfl ?_
     refine xbk (ms rfl rfl (dff cc10)) (fun h_ H_=>xbj H_ tA3 rfl (v:=.int .i64 ((t.wy.getD l wz).2)) (T.y.we (by omega))) rfl ?_
     refine xbk (ms rfl rfl (dff cc10)) (fun h_ H_=>xkz Tryd.underlying22 tS3 (xjq a2 n2 c2 (T.w.ne (by omega))) rfl (by omega) (by omega) (a':=(adr a2).add (((((t.wy.getD l wz).2)).toNat)*1)) rfl) (tm':=zq1 (zq8 (zq32 (zq32 [])))) rfl ?_
     refine xbk (ms rfl rfl (dff cc10)) (fun h_ H_=>xbj H_ tA3 rfl (v:=.int .i64 (t.ws.getD ((((t.wy.getD l wz).2)).toNat) 0)) (T.w.get (by omega))) rfl ?_
     refine xiz rfl ?_
     refine xbx (ms rfl rfl (dff cc10)) (fun h_ H_=>xkq rfl rfl) rfl ?_
     refine ro (xej rfl (dff cc10) (v:=.bool (decide (t.ws.getD ((((t.wy.getD l wz).2)).toNat) 0<giveI t d d.length ((t.wy.getD l wz).2)))) rfl) <| xak ?_
     by_cases cc11:t.ws.getD ((((t.wy.getD l wz).2)).toNat) 0<giveI t d d.length ((t.wy.getD l wz).2)
     ·
      refine xdx rfl (dtt cc11) <| fsr <| rt (xax (v:=.bool (false)) rfl) (tm':=zq1 (zq4 _)) rfl <| xak ?_
      refine xdv Tryd.func31 rfl (vs:=[.bool (false)]) (fun h_ H_=>⟨.bool (false),_,rfl,rfl,rfl⟩) (v:=.bool (false)) rfl ?_
      exact fun h_ H_=>K _ _ ⟨by first | (rw [decide_eq_true (p:=DivI t d) ⟨by have hl:=D.len;omega,fun i hi=>h1 i (by have hl:=D.len;omega),fun i hi=>h2 i (by have hl:=D.len;omega)⟩]) | (rw [decide_eq_false (p:=DivI t d) (fun z=>by have z1:=z.len;have hl:=D.len;first | omega | (have z3:=z.pos k (by omega);omega) | (have z3:=z.at_ l (by omega);unfold DivAt at z3;omega))]),H_.kept⟩
     ·
      refine xck rfl (dff cc11) <| xcv <| xdq <| xbq <| ro (xaq (v:=.int .i64 (((l:Nat):Int))) rfl) ?_
      refine ro (xek rfl rfl (n:=((l+1:Nat):Int)) (wr (by omega))) ?_
      refine rt (xax (v:=.int .i64 (((l+1:Nat):Int))) rfl) (tm':=zq1 (zq2 (zq4 _))) rfl <| xak ?_
      exact fun h_ H_=>IH8 _ _ (by omega) h_ ⟨l+1,rfl,(y_of rfl),(by omega),(xrw h2 ⟨by omega,by omega⟩),H_⟩
   ·
    refine xck rfl (dff cc9) <| xhz rfl <| fsr <| ro (xax (v:=.bool (true)) rfl) <| xak ?_
    refine xdv Tryd.func31 rfl (vs:=[.bool (true)]) (fun h_ H_=>⟨.bool (true),_,rfl,rfl,rfl⟩) (v:=.bool (true)) rfl ?_
    exact fun h_ H_=>K _ _ ⟨by first | (rw [decide_eq_true (p:=DivI t d) ⟨by have hl:=D.len;omega,fun i hi=>h1 i (by have hl:=D.len;omega),fun i hi=>h2 i (by have hl:=D.len;omega)⟩]) | (rw [decide_eq_false (p:=DivI t d) (fun z=>by have z1:=z.len;have hl:=D.len;first | omega | (have z3:=z.pos k (by omega);omega) | (have z3:=z.at_ l (by omega);unfold DivAt at z3;omega))]),H_.kept⟩
end Go.Proofs.YtalfgojocdonhaaDoor
namespace Go.Proofs.YtalfgojocdonhaaDoor
open Go.X Go.X.Flow Go.Conc
set_option maxRecDepth 10000
set_option synthInstance.maxSize 2000

set_option maxHeartbeats 2000000
theorem c29 (md:Md) (h:Heap) (p:PHeap) (hp:Per p h) (a:Option Addr) (n c:Nat) (xs:List Int) (A:Ints p a n xs) (hn:n≤100∧n≤c) (z:Int):CallsX Tryd.prog md 29 #[.slice a n c,.int .i64 (z)] h fun v h'=>∃ w X,v=w∧OwnS 3 1 w (ics (put xs z)) X∧New h h' X:=by
 refine xcx (Φ:=fun h_=>St h [] p h_ []) Tryd.func29 rfl (tm:=zq32 []) rfl ?_ (St.start h _ hp)
 intro c₀ cs Stop K
 have hl:=A.len
 refine fsr <| ro (xax (v:=.slice none 0 0) rfl) <| ren <| xbq <| ro (xax (v:=.int .i64 0) rfl) <| ren ?_
 refine xdj ?_
 refine xhk (m₀:=n-0) (fun m_ tm_ h_=>∃ (k:Nat),m_=n-k∧(∃ y1:Nat→Value,tm_=(.slice a n c::.int .i64 (z)::undef::undef::.slice none 0 0::.int .i64 (((k:Nat):Int))::(y1 6)::(y1 7)::(y1 8)::(y1 9)::(y1 10)::(y1 11)::(y1 12)::(y1 13)::(y1 14)::(y1 15)::(y1 16)::(y1 17)::(y1 18)::(y1 19)::zu4 (zu8 [])))∧(k≤n)∧(∀ i,i<k→z≤xs.getD i 0)∧St h [] p h_ ([])) (fun h_ H_=>⟨0,rfl,(y_of rfl),Nat.zero_le _,(fun i hi=>absurd hi (Nat.not_lt_zero i)),H_⟩) ?_
 intro m_ tm_ IH2
 refine xhq fun k=>xcz fun hm_=>xcz fun ht_=>xcz fun hk=>xcz fun hs=>?_
 subst hm_;obtain ⟨y1,ht_⟩:=ht_;subst ht_
 refine xez <| fsr <| rt (xaq (v:=.int .i64 (((k:Nat):Int))) rfl) (tm':=zq1 (zq2 (zq4 _))) rfl <| ro (xaq (v:=.slice a n c) rfl) <| ro (xfz Tryd.underlying22 rfl) <| rt (xgj rfl rfl) (tm':=zq2 (zq8 _)) rfl ?_
 refine ro (xaq (v:=.bool (decide (((k:Nat):Int)<((n:Nat):Int)))) rfl) ?_
 by_cases cc3:((k:Nat):Int)<((n:Nat):Int)
 ·
  refine xbx (ms rfl rfl (dtt cc3)) (fun h_ H_=>xaq (v:=.slice a n c) rfl) rfl ?_
  refine xbx (ms rfl rfl (dtt cc3)) (fun h_ H_=>xaq (v:=.int .i64 (((k:Nat):Int))) rfl) (tm':=zq1 (zq4 (zq8 _))) rfl ?_
  refine xbx (ms rfl rfl (dtt cc3)) (fun h_ H_=>xbw (i:=k) Tryd.underlying22 tS3 (xjq a n c (A.ne (by omega))) rfl (by omega)) rfl ?_
  refine xbx (ms rfl rfl (dtt cc3)) (fun h_ H_=>xbj H_ tA3 rfl (v:=.int .i64 (xs.getD k 0)) (A.get (by omega))) rfl ?_
  refine xbx (ms rfl rfl (dtt cc3)) (fun h_ H_=>xaq (v:=.int .i64 (z)) rfl) (tm':=zq16 _) rfl ?_
  refine xbx (ms rfl rfl (dtt cc3)) (fun h_ H_=>xwk rfl rfl) rfl ?_
  refine ro (xdz rfl (dtt cc3) (v:=.bool (decide (z≤xs.getD k 0))) rfl) <| xak ?_
  by_cases cc4:z≤xs.getD k 0
  ·
   refine xdx rfl (dtt cc4) <| xcv <| xdj <| xbq <| rt (xaq (v:=.int .i64 (((k:Nat):Int))) rfl) (tm':=zq1 (zq2 (zq16 _))) rfl ?_
   refine ro (xek rfl rfl (n:=((k+1:Nat):Int)) (wr (by omega))) ?_
   refine ro (xax (v:=.int .i64 (((k+1:Nat):Int))) rfl) <| xak <| xdq ?_
   exact fun h_ H_=>IH2 _ _ (by omega) h_ ⟨k+1,rfl,(y_of rfl),(by omega),(xrw hs (by omega)),H_⟩
  ·
   refine xck rfl (dff cc4) <| xhz rfl <| xez ?_
   refine xxv (xlx (C:=[]) (A:=([]:Pcs)) 11 [[],[],[],[1,2],[0,1,2,3],[],[5],[0,1,2,3,4,5,6],[],[],[8,9],[],[]] [] [7] [1,2,3,5,8,9,10] (fun _=>[]) (fun i_=>match i_ with | 4=>[0] | 7=>[4,6] | _=>[]) (fun i_=>match i_ with | 0=>[] | 1=>[] | 2=>[] | 3=>[1,2] | 4=>[0,3] | 5=>[] | 6=>[5] | 7=>[4,6] | 8=>[] | 9=>[] | 10=>[8,9] | _=>[]) (fun i_ val_ pc_ v_ x_=>match i_ with | 0=>OwnS 3 1 v_ [] x_ | 1=>v_= .slice a n c∧x_=[] | 2=>v_= .int .i64 (((k:Nat):Int))∧x_=[] | 3=>v_= .slice (cutA a c 0 1) k c∧x_=[] | 4=>OwnS 3 1 v_ ([]++((xs.take k).map fun x=>[Value.int .i64 x])) x_ | 5=>v_= .int .i64 (z)∧x_=[] | 6=>OwnS 3 1 v_ [[.int .i64 (z)]] x_ | 7=>OwnS 3 1 v_ (([]++((xs.take k).map fun x=>[Value.int .i64 x]))++[[.int .i64 (z)]]) x_ | 8=>v_= .slice a n c∧x_=[] | 9=>v_= .int .i64 (((k:Nat):Int))∧x_=[] | 10=>v_= .slice (cutA a c k 1) (n-k) (c-k)∧x_=[] | _=>True) (fun val5=>[.slice a n c,.int .i64 (z),undef,undef,.slice none 0 0,.int .i64 (((k:Nat):Int)),.int .i64 (((k:Nat):Int)),.slice a n c,.int .i64 (((n:Nat):Int)),.bool (decide (((k:Nat):Int)<((n:Nat):Int))),.bool (decide (((k:Nat):Int)<((n:Nat):Int))),.slice a n c,.int .i64 (((k:Nat):Int)),.pointer (some ((adr a).add (k*1))),.int .i64 (xs.getD k 0),.int .i64 (z),.bool (decide (z≤xs.getD k 0)),.bool (decide (z≤xs.getD k 0)),(y1 18),(y1 19),(val5 0),(val5 1),(val5 2),(val5 3),(val5 4),(val5 5),(val5 6),(val5 7),(val5 8),(val5 9),(val5 10),undef]) xkk (by kernel_rfl) (Nat.le_of_ble_eq_true rfl) (by kernel_rfl) (by kernel_rfl) (by kernel_rfl) (fun _ _=>⟨fun _ _ h=>h.2,⟨fun _ _ h=>h.2,⟨fun _ _ h=>h.2,⟨fun _ _ h=>h.2,⟨fun _ _ h=>h.2,⟨fun _ _ h=>h.2,⟨fun _ _ h=>h.2,trivial⟩⟩⟩⟩⟩⟩⟩) (fun _=>by kernel_rfl) (by kernel_rfl) ?_ ?_) (fun h_ H_=>St.swap (A:=([]:Pcs)) (U:=[]) H_)
   ·
    refine xaw rfl (xdk ?_) ?_
    ·
     intro val5 pc6 hQ_ hX_
     obtain ⟨q_,hq0_⟩: ∃ q_:Value→Pcs→Prop,q_=(fun v_ x_=>OwnS 3 1 v_ [] x_):=⟨_,rfl⟩
     refine ⟨(zq32 []),[],q_,rfl,rfl,(fun _ _ z_=>by subst hq0_;exact z_),?_⟩
     subst hq0_
     exact xmw mn Tryd.underlying22 tS3 tZ3 (Nat.le_of_ble_eq_true rfl) (vs:=[]) rfl rfl (es:=[]) rfl rfl rfl fun _ _ o_=>o_
    refine xaw rfl (xdk ?_) ?_
    ·
     intro val5 pc6 hQ_ hX_
     obtain ⟨q_,hq0_⟩: ∃ q_:Value→Pcs→Prop,q_=(fun v_ x_=>v_= .slice a n c∧x_=[]):=⟨_,rfl⟩
     refine ⟨(zq32 []),[],q_,rfl,rfl,(fun _ _ z_=>by subst hq0_;exact z_),?_⟩
     subst hq0_
     exact xdw mn (fun _ h_ H_=>xaq (v:=.slice a n c) rfl) ⟨rfl,rfl⟩
    refine xaw rfl (xdk ?_) ?_
    ·
     intro val5 pc6 hQ_ hX_
     obtain ⟨q_,hq0_⟩: ∃ q_:Value→Pcs→Prop,q_=(fun v_ x_=>v_= .int .i64 (((k:Nat):Int))∧x_=[]):=⟨_,rfl⟩
     refine ⟨(zq32 []),[],q_,rfl,rfl,(fun _ _ z_=>by subst hq0_;exact z_),?_⟩
     subst hq0_
     exact xdw mn (fun _ h_ H_=>xaq (v:=.int .i64 (((k:Nat):Int))) rfl) ⟨rfl,rfl⟩
    refine xaw rfl (xdk ?_) ?_
    ·
     intro val5 pc6 hQ_ hX_
     have e1_:val5 1= .slice a n c:=(hQ_ 1 rfl).1
     have e2_:val5 2= .int .i64 (((k:Nat):Int)):=(hQ_ 2 rfl).1
     obtain ⟨q_,hq0_⟩: ∃ q_:Value→Pcs→Prop,q_=(fun v_ x_=>v_= .slice (cutA a c 0 1) k c∧x_=[]):=⟨_,rfl⟩
     refine ⟨(zq32 []),[],q_,(by rw [e1_,e2_]),rfl,(fun _ _ z_=>by subst hq0_;exact z_),?_⟩
     subst hq0_
     exact xdw mn (fun _ h_ H_=>yhz Tryd.underlying22 tS3 rfl (.none _) (.nat (z:=k) _ rfl) (by omega) (by omega)) ⟨rfl,rfl⟩
    refine xaw rfl (xdk ?_) ?_
    ·
     intro val5 pc6 hQ_ hX_
     have q0_:OwnS 3 1 (val5 0) [] (pc6 0):=hQ_ 0 rfl
     have e3_:val5 3= .slice (cutA a c 0 1) k c:=(hQ_ 3 rfl).1
     obtain ⟨q_,hq0_⟩: ∃ q_:Value→Pcs→Prop,q_=(fun v_ x_=>OwnS 3 1 v_ ([]++((xs.take k).map fun x=>[Value.int .i64 x])) x_):=⟨_,rfl⟩
     refine ⟨(zq32 []),((pc6 0)++[]),q_,(by rw [e3_]),rfl,(fun _ _ z_=>by subst hq0_;exact z_),?_⟩
     subst hq0_
     exact xvw mn Tryd.underlying22 tS3 tZ3 rfl tB3 Tryd.underlying22 rfl rfl q0_ (Ints.pre A (by omega) (by omega)) (xrv _) (by first | omega | (simp;omega) | simp) (by decide) (by decide) fun _ _ o_=>o_
    refine xaw rfl (xdk ?_) ?_
    ·
     intro val5 pc6 hQ_ hX_
     obtain ⟨q_,hq0_⟩: ∃ q_:Value→Pcs→Prop,q_=(fun v_ x_=>v_= .int .i64 (z)∧x_=[]):=⟨_,rfl⟩
     refine ⟨(zq32 []),[],q_,rfl,rfl,(fun _ _ z_=>by subst hq0_;exact z_),?_⟩
     subst hq0_
     exact xdw mn (fun _ h_ H_=>xaq (v:=.int .i64 (z)) rfl) ⟨rfl,rfl⟩
    refine xaw rfl (xdk ?_) ?_
    ·
     intro val5 pc6 hQ_ hX_
     have e5_:val5 5= .int .i64 (z):=(hQ_ 5 rfl).1
     obtain ⟨q_,hq0_⟩: ∃ q_:Value→Pcs→Prop,q_=(fun v_ x_=>OwnS 3 1 v_ [[.int .i64 (z)]] x_):=⟨_,rfl⟩
     refine ⟨(zq32 []),[],q_,(by rw [e5_]),rfl,(fun _ _ z_=>by subst hq0_;exact z_),?_⟩
     subst hq0_
     exact xmw mn Tryd.underlying22 tS3 tZ3 (Nat.le_of_ble_eq_true rfl) (vs:=[(0,.int .i64 (z))]) rfl rfl (es:=[[.int .i64 (z)]]) rfl rfl rfl fun _ _ o_=>o_
    refine xaw rfl (xdk ?_) ?_
    ·
     intro val5 pc6 hQ_ hX_
     have q4_:OwnS 3 1 (val5 4) ([]++((xs.take k).map fun x=>[Value.int .i64 x])) (pc6 4):=hQ_ 4 rfl
     have q6_:OwnS 3 1 (val5 6) [[.int .i64 (z)]] (pc6 6):=hQ_ 6 rfl
     obtain ⟨q_,hq0_⟩: ∃ q_:Value→Pcs→Prop,q_=(fun v_ x_=>OwnS 3 1 v_ (([]++((xs.take k).map fun x=>[Value.int .i64 x]))++[[.int .i64 (z)]]) x_):=⟨_,rfl⟩
     refine ⟨(zq32 []),((pc6 4)++((pc6 6)++[])),q_,rfl,rfl,(fun _ _ z_=>by subst hq0_;exact z_),?_⟩
     subst hq0_
     exact yjx mn Tryd.underlying22 tS3 tZ3 rfl tB3 Tryd.underlying22 rfl rfl q4_ q6_ (xtx rfl) (by first | omega | (simp;omega) | simp) (by decide) fun _ _ o_=>o_
    refine xaw rfl (xdk ?_) ?_
    ·
     intro val5 pc6 hQ_ hX_
     obtain ⟨q_,hq0_⟩: ∃ q_:Value→Pcs→Prop,q_=(fun v_ x_=>v_= .slice a n c∧x_=[]):=⟨_,rfl⟩
     refine ⟨(zq32 []),[],q_,rfl,rfl,(fun _ _ z_=>by subst hq0_;exact z_),?_⟩
     subst hq0_
     exact xdw mn (fun _ h_ H_=>xaq (v:=.slice a n c) rfl) ⟨rfl,rfl⟩
    refine xaw rfl (xdk ?_) ?_
    ·
     intro val5 pc6 hQ_ hX_
     obtain ⟨q_,hq0_⟩: ∃ q_:Value→Pcs→Prop,q_=(fun v_ x_=>v_= .int .i64 (((k:Nat):Int))∧x_=[]):=⟨_,rfl⟩
     refine ⟨(zq32 []),[],q_,rfl,rfl,(fun _ _ z_=>by subst hq0_;exact z_),?_⟩
     subst hq0_
     exact xdw mn (fun _ h_ H_=>xaq (v:=.int .i64 (((k:Nat):Int))) rfl) ⟨rfl,rfl⟩
    refine xaw rfl (xdk ?_) ?_
    ·
     intro val5 pc6 hQ_ hX_
     have e8_:val5 8= .slice a n c:=(hQ_ 8 rfl).1
     have e9_:val5 9= .int .i64 (((k:Nat):Int)):=(hQ_ 9 rfl).1
     obtain ⟨q_,hq0_⟩: ∃ q_:Value→Pcs→Prop,q_=(fun v_ x_=>v_= .slice (cutA a c k 1) (n-k) (c-k)∧x_=[]):=⟨_,rfl⟩
     refine ⟨(zq32 []),[],q_,(by rw [e8_,e9_]),rfl,(fun _ _ z_=>by subst hq0_;exact z_),?_⟩
     subst hq0_
     exact xdw mn (fun _ h_ H_=>yhz Tryd.underlying22 tS3 rfl (.nat (z:=k) _ rfl) (.none _) (by omega) (by omega)) ⟨rfl,rfl⟩
    exact xlq rfl
   intro val5 pc6 hQ_ hX_
   have e1_:val5 1= .slice a n c:=(hQ_ 1 (by decide)).1
   have e2_:val5 2= .int .i64 (((k:Nat):Int)):=(hQ_ 2 (by decide)).1
   have e3_:val5 3= .slice (cutA a c 0 1) k c:=(hQ_ 3 (by decide)).1
   have e5_:val5 5= .int .i64 (z):=(hQ_ 5 (by decide)).1
   have q7_:OwnS 3 1 (val5 7) (([]++((xs.take k).map fun x=>[Value.int .i64 x]))++[[.int .i64 (z)]]) (pc6 7):=hQ_ 7 (by decide)
   have e8_:val5 8= .slice a n c:=(hQ_ 8 (by decide)).1
   have e9_:val5 9= .int .i64 (((k:Nat):Int)):=(hQ_ 9 (by decide)).1
   have e10_:val5 10= .slice (cutA a c k 1) (n-k) (c-k):=(hQ_ 10 (by decide)).1
   clear hQ_ hX_
   refine xww (Φ:=fun h_=>St h [] p h_ (([]:Pcs)++(pc6 7++[]))) ?_ (fun h_ H_=>H_.swap')
   refine xfj (tm':=(zq32 [])) (by rw [e1_,e2_,e3_,e5_,e8_,e9_,e10_]) ?_
   have o12:=q7_
   refine xvq ([]:Pcs) (pc6 7) mn Tryd.underlying22 tS3 tZ3 rfl tB3 Tryd.underlying22 rfl rfl o12 (Ints.suf A (by omega) (by omega)) (xrv _) (by first | omega | (simp;omega) | simp) (by decide) (by decide) fun v13 X14 o15=>?_
   refine xfj (tm':=zq32 []) rfl ?_
   refine ro (xax (v:=v13) rfl) <| xak ?_
   refine xdv Tryd.func29 rfl (vs:=[v13]) (fun h_ H_=>⟨v13,_,rfl,rfl,rfl⟩) (v:=v13) rfl ?_
   have hpt:=wdv (k:=k) (xs:=xs) (z:=z) (by omega) hs (by first | (left;omega) | (right;omega))
   exact fun h_ H_=>K _ _ ⟨_,_,rfl,(o15.as (by rw [hpt];simp [ics])),by simpa using H_.dropA.new⟩
 ·
  refine rp (mo rfl rfl (dff cc3)) <| xfx (mo rfl rfl (dff cc3)) (tm':=zq1 (zq4 (zq8 _))) rfl <| rp (mo rfl rfl (dff cc3)) <| rp (mo rfl rfl (dff cc3)) <| xfx (mo rfl rfl (dff cc3)) (tm':=zq16 _) rfl <| rp (mo rfl rfl (dff cc3)) ?_
  refine ro (xej rfl (dff cc3) (v:=.bool (false)) rfl) <| xak <| xck rfl rfl <| xhz rfl <| xez ?_
  refine xxv (xlx (C:=[]) (A:=([]:Pcs)) 11 [[],[],[],[1,2],[0,1,2,3],[],[5],[0,1,2,3,4,5,6],[],[],[8,9],[],[]] [] [7] [1,2,3,5,8,9,10] (fun _=>[]) (fun i_=>match i_ with | 4=>[0] | 7=>[4,6] | _=>[]) (fun i_=>match i_ with | 0=>[] | 1=>[] | 2=>[] | 3=>[1,2] | 4=>[0,3] | 5=>[] | 6=>[5] | 7=>[4,6] | 8=>[] | 9=>[] | 10=>[8,9] | _=>[]) (fun i_ val_ pc_ v_ x_=>match i_ with | 0=>OwnS 3 1 v_ [] x_ | 1=>v_= .slice a n c∧x_=[] | 2=>v_= .int .i64 (((k:Nat):Int))∧x_=[] | 3=>v_= .slice (cutA a c 0 1) k c∧x_=[] | 4=>OwnS 3 1 v_ ([]++((xs.take k).map fun x=>[Value.int .i64 x])) x_ | 5=>v_= .int .i64 (z)∧x_=[] | 6=>OwnS 3 1 v_ [[.int .i64 (z)]] x_ | 7=>OwnS 3 1 v_ (([]++((xs.take k).map fun x=>[Value.int .i64 x]))++[[.int .i64 (z)]]) x_ | 8=>v_= .slice a n c∧x_=[] | 9=>v_= .int .i64 (((k:Nat):Int))∧x_=[] | 10=>v_= .slice (cutA a c k 1) (n-k) (c-k)∧x_=[] | _=>True) (fun val16=>[.slice a n c,.int .i64 (z),undef,undef,.slice none 0 0,.int .i64 (((k:Nat):Int)),.int .i64 (((k:Nat):Int)),.slice a n c,.int .i64 (((n:Nat):Int)),.bool (decide (((k:Nat):Int)<((n:Nat):Int))),.bool (decide (((k:Nat):Int)<((n:Nat):Int))),undef,undef,undef,undef,undef,undef,.bool (false),(y1 18),(y1 19),(val16 0),(val16 1),(val16 2),(val16 3),(val16 4),(val16 5),(val16 6),(val16 7),(val16 8),(val16 9),(val16 10),undef]) xkk (by kernel_rfl) (Nat.le_of_ble_eq_true rfl) (by kernel_rfl) (by kernel_rfl) (by kernel_rfl) (fun _ _=>⟨fun _ _ h=>h.2,⟨fun _ _ h=>h.2,⟨fun _ _ h=>h.2,⟨fun _ _ h=>h.2,⟨fun _ _ h=>h.2,⟨fun _ _ h=>h.2,⟨fun _ _ h=>h.2,trivial⟩⟩⟩⟩⟩⟩⟩) (fun _=>by kernel_rfl) (by kernel_rfl) ?_ ?_) (fun h_ H_=>St.swap (A:=([]:Pcs)) (U:=[]) H_)
  ·
   refine xaw rfl (xdk ?_) ?_
   ·
    intro val16 pc17 hQ_ hX_
    obtain ⟨q_,hq0_⟩: ∃ q_:Value→Pcs→Prop,q_=(fun v_ x_=>OwnS 3 1 v_ [] x_):=⟨_,rfl⟩
    refine ⟨(zq32 []),[],q_,rfl,rfl,(fun _ _ z_=>by subst hq0_;exact z_),?_⟩
    subst hq0_
    exact xmw mn Tryd.underlying22 tS3 tZ3 (Nat.le_of_ble_eq_true rfl) (vs:=[]) rfl rfl (es:=[]) rfl rfl rfl fun _ _ o_=>o_
   refine xaw rfl (xdk ?_) ?_
   ·
    intro val16 pc17 hQ_ hX_
    obtain ⟨q_,hq0_⟩: ∃ q_:Value→Pcs→Prop,q_=(fun v_ x_=>v_= .slice a n c∧x_=[]):=⟨_,rfl⟩
    refine ⟨(zq32 []),[],q_,rfl,rfl,(fun _ _ z_=>by subst hq0_;exact z_),?_⟩
    subst hq0_
    exact xdw mn (fun _ h_ H_=>xaq (v:=.slice a n c) rfl) ⟨rfl,rfl⟩
   refine xaw rfl (xdk ?_) ?_
   ·
    intro val16 pc17 hQ_ hX_
    obtain ⟨q_,hq0_⟩: ∃ q_:Value→Pcs→Prop,q_=(fun v_ x_=>v_= .int .i64 (((k:Nat):Int))∧x_=[]):=⟨_,rfl⟩
    refine ⟨(zq32 []),[],q_,rfl,rfl,(fun _ _ z_=>by subst hq0_;exact z_),?_⟩
    subst hq0_
    exact xdw mn (fun _ h_ H_=>xaq (v:=.int .i64 (((k:Nat):Int))) rfl) ⟨rfl,rfl⟩
   refine xaw rfl (xdk ?_) ?_
   ·
    intro val16 pc17 hQ_ hX_
    have e1_:val16 1= .slice a n c:=(hQ_ 1 rfl).1
    have e2_:val16 2= .int .i64 (((k:Nat):Int)):=(hQ_ 2 rfl).1
    obtain ⟨q_,hq0_⟩: ∃ q_:Value→Pcs→Prop,q_=(fun v_ x_=>v_= .slice (cutA a c 0 1) k c∧x_=[]):=⟨_,rfl⟩
    refine ⟨(zq32 []),[],q_,(by rw [e1_,e2_]),rfl,(fun _ _ z_=>by subst hq0_;exact z_),?_⟩
    subst hq0_
    exact xdw mn (fun _ h_ H_=>yhz Tryd.underlying22 tS3 rfl (.none _) (.nat (z:=k) _ rfl) (by omega) (by omega)) ⟨rfl,rfl⟩
   refine xaw rfl (xdk ?_) ?_
   ·
    intro val16 pc17 hQ_ hX_
    have q0_:OwnS 3 1 (val16 0) [] (pc17 0):=hQ_ 0 rfl
    have e3_:val16 3= .slice (cutA a c 0 1) k c:=(hQ_ 3 rfl).1
    obtain ⟨q_,hq0_⟩: ∃ q_:Value→Pcs→Prop,q_=(fun v_ x_=>OwnS 3 1 v_ ([]++((xs.take k).map fun x=>[Value.int .i64 x])) x_):=⟨_,rfl⟩
    refine ⟨(zq32 []),((pc17 0)++[]),q_,(by rw [e3_]),rfl,(fun _ _ z_=>by subst hq0_;exact z_),?_⟩
    subst hq0_
    exact xvw mn Tryd.underlying22 tS3 tZ3 rfl tB3 Tryd.underlying22 rfl rfl q0_ (Ints.pre A (by omega) (by omega)) (xrv _) (by first | omega | (simp;omega) | simp) (by decide) (by decide) fun _ _ o_=>o_
   refine xaw rfl (xdk ?_) ?_
   ·
    intro val16 pc17 hQ_ hX_
    obtain ⟨q_,hq0_⟩: ∃ q_:Value→Pcs→Prop,q_=(fun v_ x_=>v_= .int .i64 (z)∧x_=[]):=⟨_,rfl⟩
    refine ⟨(zq32 []),[],q_,rfl,rfl,(fun _ _ z_=>by subst hq0_;exact z_),?_⟩
    subst hq0_
    exact xdw mn (fun _ h_ H_=>xaq (v:=.int .i64 (z)) rfl) ⟨rfl,rfl⟩
   refine xaw rfl (xdk ?_) ?_
   ·
    intro val16 pc17 hQ_ hX_
    have e5_:val16 5= .int .i64 (z):=(hQ_ 5 rfl).1
    obtain ⟨q_,hq0_⟩: ∃ q_:Value→Pcs→Prop,q_=(fun v_ x_=>OwnS 3 1 v_ [[.int .i64 (z)]] x_):=⟨_,rfl⟩
    refine ⟨(zq32 []),[],q_,(by rw [e5_]),rfl,(fun _ _ z_=>by subst hq0_;exact z_),?_⟩
    subst hq0_
    exact xmw mn Tryd.underlying22 tS3 tZ3 (Nat.le_of_ble_eq_true rfl) (vs:=[(0,.int .i64 (z))]) rfl rfl (es:=[[.int .i64 (z)]]) rfl rfl rfl fun _ _ o_=>o_
   refine xaw rfl (xdk ?_) ?_
   ·
    intro val16 pc17 hQ_ hX_
    have q4_:OwnS 3 1 (val16 4) ([]++((xs.take k).map fun x=>[Value.int .i64 x])) (pc17 4):=hQ_ 4 rfl
    have q6_:OwnS 3 1 (val16 6) [[.int .i64 (z)]] (pc17 6):=hQ_ 6 rfl
    obtain ⟨q_,hq0_⟩: ∃ q_:Value→Pcs→Prop,q_=(fun v_ x_=>OwnS 3 1 v_ (([]++((xs.take k).map fun x=>[Value.int .i64 x]))++[[.int .i64 (z)]]) x_):=⟨_,rfl⟩
    refine ⟨(zq32 []),((pc17 4)++((pc17 6)++[])),q_,rfl,rfl,(fun _ _ z_=>by subst hq0_;exact z_),?_⟩
    subst hq0_
    exact yjx mn Tryd.underlying22 tS3 tZ3 rfl tB3 Tryd.underlying22 rfl rfl q4_ q6_ (xtx rfl) (by first | omega | (simp;omega) | simp) (by decide) fun _ _ o_=>o_
   refine xaw rfl (xdk ?_) ?_
   ·
    intro val16 pc17 hQ_ hX_
    obtain ⟨q_,hq0_⟩: ∃ q_:Value→Pcs→Prop,q_=(fun v_ x_=>v_= .slice a n c∧x_=[]):=⟨_,rfl⟩
    refine ⟨(zq32 []),[],q_,rfl,rfl,(fun _ _ z_=>by subst hq0_;exact z_),?_⟩
    subst hq0_
    exact xdw mn (fun _ h_ H_=>xaq (v:=.slice a n c) rfl) ⟨rfl,rfl⟩
   refine xaw rfl (xdk ?_) ?_
   ·
    intro val16 pc17 hQ_ hX_
    obtain ⟨q_,hq0_⟩: ∃ q_:Value→Pcs→Prop,q_=(fun v_ x_=>v_= .int .i64 (((k:Nat):Int))∧x_=[]):=⟨_,rfl⟩
    refine ⟨(zq32 []),[],q_,rfl,rfl,(fun _ _ z_=>by subst hq0_;exact z_),?_⟩
    subst hq0_
    exact xdw mn (fun _ h_ H_=>xaq (v:=.int .i64 (((k:Nat):Int))) rfl) ⟨rfl,rfl⟩
   refine xaw rfl (xdk ?_) ?_
   ·
    intro val16 pc17 hQ_ hX_
    have e8_:val16 8= .slice a n c:=(hQ_ 8 rfl).1
    have e9_:val16 9= .int .i64 (((k:Nat):Int)):=(hQ_ 9 rfl).1
    obtain ⟨q_,hq0_⟩: ∃ q_:Value→Pcs→Prop,q_=(fun v_ x_=>v_= .slice (cutA a c k 1) (n-k) (c-k)∧x_=[]):=⟨_,rfl⟩
    refine ⟨(zq32 []),[],q_,(by rw [e8_,e9_]),rfl,(fun _ _ z_=>by subst hq0_;exact z_),?_⟩
    subst hq0_
    exact xdw mn (fun _ h_ H_=>yhz Tryd.underlying22 tS3 rfl (.nat (z:=k) _ rfl) (.none _) (by omega) (by omega)) ⟨rfl,rfl⟩
   exact xlq rfl
  intro val16 pc17 hQ_ hX_
  have e1_:val16 1= .slice a n c:=(hQ_ 1 (by decide)).1
  have e2_:val16 2= .int .i64 (((k:Nat):Int)):=(hQ_ 2 (by decide)).1
  have e3_:val16 3= .slice (cutA a c 0 1) k c:=(hQ_ 3 (by decide)).1
  have e5_:val16 5= .int .i64 (z):=(hQ_ 5 (by decide)).1
  have q7_:OwnS 3 1 (val16 7) (([]++((xs.take k).map fun x=>[Value.int .i64 x]))++[[.int .i64 (z)]]) (pc17 7):=hQ_ 7 (by decide)
  have e8_:val16 8= .slice a n c:=(hQ_ 8 (by decide)).1
  have e9_:val16 9= .int .i64 (((k:Nat):Int)):=(hQ_ 9 (by decide)).1
  have e10_:val16 10= .slice (cutA a c k 1) (n-k) (c-k):=(hQ_ 10 (by decide)).1
  clear hQ_ hX_
  refine xww (Φ:=fun h_=>St h [] p h_ (([]:Pcs)++(pc17 7++[]))) ?_ (fun h_ H_=>H_.swap')
  refine xfj (tm':=(zq32 [])) (by rw [e1_,e2_,e3_,e5_,e8_,e9_,e10_]) ?_
  have o23:=q7_
  refine xvq ([]:Pcs) (pc17 7) mn Tryd.underlying22 tS3 tZ3 rfl tB3 Tryd.underlying22 rfl rfl o23 (Ints.suf A (by omega) (by omega)) (xrv _) (by first | omega | (simp;omega) | simp) (by decide) (by decide) fun v24 X25 o26=>?_
  refine xfj (tm':=zq32 []) rfl ?_
  refine ro (xax (v:=v24) rfl) <| xak ?_
  refine xdv Tryd.func29 rfl (vs:=[v24]) (fun h_ H_=>⟨v24,_,rfl,rfl,rfl⟩) (v:=v24) rfl ?_
  have hpt:=wdv (k:=k) (xs:=xs) (z:=z) (by omega) hs (by first | (left;omega) | (right;omega))
  exact fun h_ H_=>K _ _ ⟨_,_,rfl,(o26.as (by rw [hpt];simp [ics])),by simpa using H_.dropA.new⟩
end Go.Proofs.YtalfgojocdonhaaDoor
namespace Go.Proofs.YtalfgojocdonhaaDoor
open Go.X Go.X.Flow Go.Conc
set_option maxRecDepth 10000
set_option synthInstance.maxSize 2000

set_option maxHeartbeats 2000000
theorem c45 (md:Md) (h:Heap) (p:PHeap) (hp:Per p h) (a1:Option Addr) (n1 c1:Nat) (a2:Option Addr) (n2 c2:Nat) (a3:Option Addr) (n3 c3:Nat) (t:Tn) (T:TownP p a1 n1 a2 n2 a3 n3 t) (hn:n1≤40∧n2≤40∧n3≤41) (b:Option Addr) (m cb:Nat) (d:List Int) (D:Ints p b m d) (hm:m=n3) (hd: ∀ i,i<m→0≤dv d i∧dv d i≤1000) (hw:WOk t) (hh: ∀ i,i<n1→ -100≤t.hs.getD i 0∧t.hs.getD i 0≤100):CallsX Tryd.prog md 45 #[.agg #[.slice a1 n1 c1,.slice a2 n2 c2,.slice a3 n3 c3],.slice b m cb] h fun v h'=>∃ w X,v=w∧OwnS 3 1 w (ics (lacks t d)) X∧New h h' X:=by
 refine xcx (Φ:=fun h_=>St h [] p h_ []) Tryd.func45 rfl (tm:=zq1 (zq2 (zq8 (zq16 [])))) rfl ?_ (St.start h _ hp)
 intro c₀ cs Stop K
 have eH:=T.nH
 have eW:=T.nW
 have eM:=T.m
 refine fsr ?_
 refine xij mn (v:=.agg #[.slice a1 n1 c1,.slice a2 n2 c2,.slice a3 n3 c3]) rfl fun b1=>xcq (L':=[(b1,.cells #[.slice a1 n1 c1,.slice a2 n2 c2,.slice a3 n3 c3] 25 (0,0))]) rfl ?_
 refine ro (xax (v:=.slice none 0 0) rfl) <| ren <| xbq <| rt (xax (v:=.slice none 0 0) rfl) (tm':=zq2 (zq4 _)) rfl <| ren <| fsr ?_
 refine ro (xax (v:=.int .i64 0) rfl) <| xak <| xdj ?_
 refine xhk (m₀:=n1-0) (fun m_ tm_ h_=>∃ (k:Nat) (w:Value) (X1:Pcs),m_=n1-k∧(∃ y2:Nat→Value,tm_=[.agg #[.slice a1 n1 c1,.slice a2 n2 c2,.slice a3 n3 c3],.slice b m cb,.pointer (some ⟨b1,0,none⟩),undef,.slice none 0 0,w,.int .i64 (((k:Nat):Int)),(y2 7),(y2 8),(y2 9),(y2 10),(y2 11),(y2 12),(y2 13),(y2 14),(y2 15),(y2 16),(y2 17),(y2 18),(y2 19),(y2 20),(y2 21),(y2 22),(y2 23),(y2 24),(y2 25),undef])∧(k≤n1)∧(OwnS 3 1 w (ics (lacksK t d k)) X1)∧St h [] p h_ (([(b1,.cells #[.slice a1 n1 c1,.slice a2 n2 c2,.slice a3 n3 c3] 25 (0,0))]:Pcs)++(X1++[]))) (fun h_ H_=>⟨0,(.slice none 0 0),[],rfl,(y_of rfl),Nat.zero_le _,(OwnS.empty _ _),H_⟩) ?_
 intro m_ tm_ IH3
 refine xhq fun k=>xhq fun w=>xhq fun X1=>xcz fun hm_=>xcz fun ht_=>xcz fun hk=>xcz fun o1=>?_
 subst hm_;obtain ⟨y2,ht_⟩:=ht_;subst ht_
 have hlm:d.length=t.m:=by have:=D.len;omega
 have hb_:0≤drawI t d d.length ((k:Nat):Int)∧drawI t d d.length ((k:Nat):Int)≤1000*d.length:=xyz fun i hi=>hd i (by omega)
 have hhk:=fun z_:k<n1=>hh k z_
 refine xez <| fsr <| ro (xaq (v:=.int .i64 (((k:Nat):Int))) rfl) <| rt (xaz xnx rfl (a':=⟨b1,0,none⟩) rfl) (tm':=zq1 (zq8 _)) rfl <| rd (fun h_ H_=>xaj H_ tA22 rfl (i:=0) rfl (v:=.slice a1 n1 c1) rfl) <| ro (xfz Tryd.underlying22 rfl) ?_
 refine rt (xgj rfl rfl) (tm':=zq4 (zq8 _)) rfl <| xak ?_
 by_cases cc4:((k:Nat):Int)<((n1:Nat):Int)
 ·
  refine xdx rfl (dtt cc4) <| xcv <| xez <| xdj ?_
  refine xgx 11 [[],[],[1],[],[1,2,3],[1,2,3,4],[],[],[],[6,7,8],[1,2,3,4,5,6,7,8],[],[]] xkk (by kernel_rfl) (Nat.le_of_ble_eq_true rfl) ?_
  refine wt (xaq (v:=w) rfl) (tm':=zq1 (zq2 (zq4 (zq8 _)))) rfl <| wo (xaz xnx rfl (a':=⟨b1,0,none⟩) rfl) ?_
  refine xbk mn (fun h_ H_=>xaj H_ tA22 rfl (i:=0) rfl (v:=.slice a1 n1 c1) rfl) (tm':=zq1 (zq16 _)) rfl ?_
  refine wo (xaq (v:=.int .i64 (((k:Nat):Int))) rfl) ?_
  refine wt (xbw (i:=k) Tryd.underlying22 tS3 (xjq a1 n1 c1 (T.h.ne (by omega))) rfl (by omega)) (tm':=zq1 (zq2 (zq8 (zq16 [])))) rfl ?_
  refine wd (fun h_ H_=>xbj H_ tA3 rfl (v:=.int .i64 (t.hs.getD k 0)) (T.h.get (by omega))) ?_
  refine xbk mn (fun h_ H_=>xav H_ tA25 tS25 rfl (i:=0) rfl (vs:=[.slice a1 n1 c1,.slice a2 n2 c2,.slice a3 n3 c3]) rfl rfl) (tm':=zq1 (zq2 (zq8 (zq16 [])))) rfl ?_
  refine wo (xaq (v:=.slice b m cb) rfl) <| wt (xaq (v:=.int .i64 (((k:Nat):Int))) rfl) (tm':=zq1 (zq2 (zq8 (zq16 [])))) rfl ?_
  refine xiv mn (first:=[]) (cap:=[]) rfl rfl fC34 (fun h_ H_=>(c34 md _ _ H_.pe _ _ _ _ _ _ _ _ _ t (show TownP _ _ _ _ _ _ _ t from ⟨T.h,T.w,T.y⟩) (by omega) _ _ _ _ D (by omega) hd (((k:Nat):Int))).mono fun v_ h2_ ⟨e_,k_⟩=>⟨e_,H_.call k_⟩) rfl ?_
  refine wt (xkj rfl rfl (wr (by have z_:=hhk (by omega);omega))) (tm':=zq1 (zq2 (zq8 (zq16 [])))) rfl ?_
  refine xiz rfl ?_
  refine xiw mn (first:=[]) (cap:=[]) rfl rfl fC29 (R:=fun v_ h_=>∃ w5:Value,∃ X6:Pcs,v_=w5∧(OwnS 3 1 w5 (ics (put (lacksK t d k) ((t.hs.getD k 0)-(drawI t d d.length (((k:Nat):Int)))))) X6)∧St h [] p h_ (([(b1,.cells #[.slice a1 n1 c1,.slice a2 n2 c2,.slice a3 n3 c3] 25 (0,0))]:Pcs)++(X6++(X1++[])))) (fun h_ H_=>(show CallsX Tryd.prog md 29 #[w,.int .i64 ((t.hs.getD k 0)-(drawI t d d.length (((k:Nat):Int))))] h_ (fun v_ h2_=>∃ w_ Y_,v_=w_∧OwnS 3 1 w_ (ics (put (lacksK t d k) ((t.hs.getD k 0)-(drawI t d d.length (((k:Nat):Int)))))) Y_∧New h_ h2_ Y_) from yzq (n:=(lacksK t d k).length) o1 (xcw _) H_ (fun x_ h_=>by simp [h_]) fun p_ a_ c_ hp_ _ hv_ D_=>by rw [hv_];exact c29 md _ _ hp_ _ _ _ (lacksK t d k) (show Ints _ _ _ (lacksK t d k) from D_) ⟨(by rw [yuv];omega),OwnS.room o1 (by decide) hv_⟩ ((t.hs.getD k 0)-(drawI t d d.length (((k:Nat):Int))))).mono fun v_ h2_ ⟨w5,X6,e_,o7,N_⟩=>⟨w5,X6,e_,o7,H_.callNA N_⟩) fun v_=>?_
  refine xgz fun w5=>xgz fun X6=>xfq fun ev_=>xfq fun o7=>?_
  have ev_:=ev_.symm;subst ev_
  refine xcq (L':=([(b1,.cells #[.slice a1 n1 c1,.slice a2 n2 c2,.slice a3 n3 c3] 25 (0,0))]:Pcs)++(X6++(X1++[]))) rfl ?_
  refine xfj (tm':=zq1 (zq2 (zq8 (zq16 [])))) rfl ?_
  refine ro (xax (v:=w5) rfl) <| xak <| xdq <| xbq <| ro (xaq (v:=.int .i64 (((k:Nat):Int))) rfl) ?_
  refine rt (xek rfl rfl (n:=((k+1:Nat):Int)) (wr (by omega))) (tm':=zq2 (zq4 (zq8 _))) rfl ?_
  refine ro (xax (v:=.int .i64 (((k+1:Nat):Int))) rfl) <| xak ?_
  refine xgv (List.Perm.append_left _ (List.perm_append_comm_assoc _ _ _)) ?_
  refine xlk (L':=([(b1,.cells #[.slice a1 n1 c1,.slice a2 n2 c2,.slice a3 n3 c3] 25 (0,0))]:Pcs)++(X1++(X6++[]))) rfl ?_
  exact fun h_ H_=>IH3 _ _ (by omega) h_ ⟨k+1,w5,X6,rfl,(y_of rfl),(by omega),(o7.as (congrArg ics ((congrArg (Flow.put _) (vbq hw hlm k)).trans (yrx t d k)))),H_.dropX⟩
 ·
  refine xck rfl (dff cc4) <| xhz rfl <| fsr <| ro (xaq (v:=w) rfl) <| rt (xax (v:=w) rfl) (tm':=zq1 (zq4 _)) rfl <| xak ?_
  refine xdv Tryd.func45 rfl (vs:=[w]) (fun h_ H_=>⟨w,_,rfl,rfl,rfl⟩) (v:=w) rfl ?_
  have hkn:k=t.nH:=by omega
  subst hkn
  exact fun h_ H_=>K _ _ ⟨_,_,rfl,o1,by simpa using H_.dropA.new⟩
end Go.Proofs.YtalfgojocdonhaaDoor
namespace Go.X.Flow
open Go.X

def swp (ys:List Int) (j:Nat):List Int:=(ys.set j (ys.getD (j-1) 0)).set (j-1) (ys.getD j 0)
theorem zow: ∀ {j:Nat} {ys:List Int},0<j→j<ys.length→(swp ys j).Perm ys
  | 0,_,h,_=>absurd h (by omega)
  | 1,[],_,h=>by simp at h
  | 1,[_],_,h=>by simp at h
  | 1,a::b::l,_,_=>by
    have:swp (a::b::l) 1=b::a::l:=rfl
    rw [this];exact .swap ..
  | j+2,[],_,h=>by simp at h
  | j+2,a::l,_,h=>by
    have e:swp (a::l) (j+2)=a::swp l (j+1):=rfl
    rw [e];exact (zow (j:=j+1) (by omega) (by simp at h;omega)).cons a
theorem zpq {ys:List Int} {j q:Nat} (h0:0<j) (h:j<ys.length):(swp ys j).getD q 0=if q=j-1 then ys.getD j 0 else if q=j then ys.getD (j-1) 0 else ys.getD q 0:=by
  unfold swp
  rw [ynq (by rw [List.length_set];omega),ynq h]
  by_cases c:q=j-1
  · rw [if_pos c.symm,if_pos c]
  · rw [if_neg (Ne.symm c),if_neg c]
    by_cases c2:q=j
    · rw [if_pos c2.symm,if_pos c2]
    · rw [if_neg (Ne.symm c2),if_neg c2]
def Float (ys:List Int) (i j:Nat):Prop:=∀ p q,p<q→q≤i→q≠j→ys.getD q 0≤ys.getD p 0
def SortTo (ys:List Int) (i:Nat):Prop:=∀ p q,p<q→q<i→ys.getD q 0≤ys.getD p 0
theorem zlk {ys i} (h:SortTo ys i):Float ys i i:=fun p q a b c=>h p q a (by omega)
theorem zyj {ys:List Int} {i j:Nat} (h:Float ys i j) (h0:0<j) (hi:j≤i) (hl:i<ys.length) (lt:ys.getD (j-1) 0<ys.getD j 0):Float (swp ys j) i (j-1):=fun p q a b c=>by
  rw [zpq h0 (by omega),zpq h0 (by omega),if_neg c]
  by_cases e:q=j
  · rw [if_pos e]
    by_cases f:p=j-1
    · rw [if_pos f];omega
    · rw [if_neg f,if_neg (by omega)];exact h p (j-1) (by omega) (by omega) (by omega)
  · rw [if_neg e]
    by_cases f:p=j-1
    · rw [if_pos f];exact h j q (by omega) b e
    · rw [if_neg f]
      by_cases f2:p=j
      · rw [if_pos f2];exact h (j-1) q (by omega) b e
      · rw [if_neg f2];exact h p q a b e
theorem zgv {ys:List Int} {i j:Nat} (h:Float ys i j) (hi:j≤i) (e:j=0∨ys.getD j 0≤ys.getD (j-1) 0):SortTo ys (i+1):=fun p q a b=>by
  by_cases c:q=j
  · subst c
    by_cases f:p=q-1
    · subst f;omega
    · have:=h p (q-1) (by omega) (by omega) (by omega);omega
  · exact h p q a (by omega) c
theorem wnj {ys xs:List Int} {i:Nat} (h:SortTo ys i) (hi:ys.length≤i) (p:ys.Perm xs):ys=srt xs:=by
  refine (vez (List.pairwise_iff_getElem.2 fun a b ha hb hab=>?_) p).symm
  have:=h a b hab (by omega)
  rwa [xpq hb,xpq ha] at this
theorem zmj {x y:Int}:cmpI y x<0↔y<x:=by unfold cmpI;(repeat' split) <;> omega
end Go.X.Flow
namespace Go.X
open Go.Conc

def SW3 (F:Nat→Oper→List Value→Value→Prop):Nat→List Oper→List Value→List Value→Prop
  | _,[],tm,tm'=>tm=tm'
  | i,o::rest,tm,tm'=>∃ v,F i o tm v∧SW3 F (i+1) rest (putl tm o.dst v) tm'

theorem zck {F:Nat→Oper→List Value→Value→Prop}: ∀ {rest:List Oper} {b:Nat} {tm tmF:List Value},SW3 F b rest tm tmF→
    (∀ (i j:Nat) (o o':Oper) (d:Nat),rest[i]?=some o→rest[j]?=some o'→o.dst=some d→o'.dst=some d→i=j)→
    tmF.length=tm.length∧(∀ x,(∀ (j:Nat) (o:Oper),rest[j]?=some o→o.dst≠some x)→tmF[x]?=tm[x]?)∧
    ∀ (i:Nat) (o:Oper),rest[i]?=some o→ ∃ tmi v,F (b+i) o tmi v∧tmi.length=tm.length∧(∀ x,(∃ (j:Nat) (o':Oper),j<i∧rest[j]?=some o'∧o'.dst=some x)→tmi[x]?=tmF[x]?)∧
      (∀ x,(∀ (j:Nat) (o':Oper),j<i→rest[j]?=some o'→o'.dst≠some x)→tmi[x]?=tm[x]?)∧ ∀ x,o.dst=some x→tmF[x]?=(putl tmi o.dst v)[x]?
  | [],b,tm,tmF,h,_=>by
    subst h
    exact ⟨rfl,fun _ _=>rfl,fun i o hi=>by simp at hi⟩
  | o₀::rest,b,tm,tmF,h,hd=>by
    obtain ⟨v,ht,hs⟩:=h
    obtain ⟨h1,h2,h3⟩:=zck hs fun i j o o' d hi hj ho ho'=>by
      have:=hd (i+1) (j+1) o o' d (by simpa using hi) (by simpa using hj) ho ho'
      omega
    have hfresh: ∀ x,o₀.dst=some x→ ∀ (j:Nat) (o:Oper),rest[j]?=some o→o.dst≠some x:=fun x hx j o hj ho=>by
      have:=hd 0 (j+1) o₀ o x rfl (by simpa using hj) hx ho
      omega
    have hF0: ∀ x,o₀.dst=some x→tmF[x]?=(putl tm o₀.dst v)[x]?:=fun x hx=>h2 x (hfresh x hx)
    refine ⟨by rw [h1,xqz],fun x hx=>?_,fun i o hi=>?_⟩
    · rw [h2 x fun j o hj=>hx (j+1) o (by simpa using hj),xuv (hx 0 o₀ rfl)]
    · cases i with
      | zero=>
        simp at hi;subst hi
        refine ⟨tm,v,ht,rfl,fun x hx=>?_,fun _ _=>rfl,hF0⟩
        obtain ⟨j,_,hj,_⟩:=hx
        omega
      | succ i=>
        obtain ⟨tmi,v',t1,t2,t3,t4,t5⟩:=h3 i o (by simpa using hi)
        refine ⟨tmi,v',by rw [show b+(i+1)=b+1+i from by omega];exact t1,by rw [t2,xqz],fun x hx=>?_,fun x hx=>?_,t5⟩
        · obtain ⟨j,o',hj,ho',hx'⟩:=hx
          cases j with
          | zero=>
            simp at ho';subst ho'
            rw [t4 x fun j o' _ hj'=>hfresh x hx' j o' hj',hF0 x hx']
          | succ j=>exact t3 x ⟨j,o',by omega,by simpa using ho',hx'⟩
        · rw [t4 x fun j o' hj ho'=>hx (j+1) o' (by omega) (by simpa using ho'),xuv (hx 0 o₀ (by omega) rfl)]

def afterI (cl:List (List Nat)) (ops:List Oper) (s i:Nat):Bool:=match ops[s]? with
  | some os=>behind cl os i
  | none=>false

def Op3 (P:Program) (md:Md) (ops:List Oper) (cl:List (List Nat)) (s:Nat) (Base0 Base1:Heap→Prop) (i:Nat) (o:Oper) (tm:List Value) (v:Value):Prop:=
  noDefer o.op=true∧((i=s∧Met ops tm o true∧ ∀ h,Base0 h→(v=undef∧wpS P (execOp (evl tm) o) h fun n h'=>n= .skip∧Base1 h')∨
      ∀ (c:Frame) (cs:List Frame) (Stop:Goroutine→Heap→Prop),(∀ v' h',v'=v∧Base1 h'→Reach P md (G (c.finish v') cs) h' Stop)→wpS P (execOp (evl tm) o) h (Upon P md c cs Stop))∨
    (i≠s∧Met ops tm o true∧(behind cl o s=false→OpTo P md tm o Base0 v)∧(afterI cl ops s i=false→OpTo P md tm o Base1 v))∨
    (i≠s∧Met ops tm o false∧v=undef))

section
variable {P:Program} {md:Md} {Base0 Base1:Heap→Prop} {ops:List Oper} {m s:Nat} {cl:List (List Nat)} {f:FuncId} {r:Rd} {df:List Deferred} {k:List Item} {cs:List Frame} {Stop:Goroutine→Heap→Prop} {tm tmF:List Value}

theorem wix [Stb Base0] [Stb Base1] {id:Nat} (m s:Nat) (cl:List (List Nat)) (hmix:P.follows .mixedOrders=true) (hst:stable ops m cl=true) (hm:m≤ops.length) (hsm:s<m) (sw:SW3 (Op3 P md ops cl s Base0 Base1) 0 (ops.take m) tm tmF)
    (n:RL P md f r df k cs Stop ops (ops.drop m) tmF Base1):RS P md (G (FL f r tm df (.code (.region id ops.toArray true)::k)) cs) Base0 Stop:=by
  refine yxv fun t=>?_
  unfold Region.schedule
  rw [hmix]
  simp only [Bool.true_or,if_true]
  obtain ⟨so,e,hord⟩:=yqj hst hm t
  rw [e]
  have hget: ∀ {i:Nat} {o:Oper},i<m→ops[i]?=some o→(ops.take m)[i]?=some o:=fun hi ho=>by rw [List.getElem?_take,if_pos hi];exact ho
  have hget': ∀ {i:Nat} {o:Oper},(ops.take m)[i]?=some o→i<m∧ops[i]?=some o:=fun ho=>by
    rw [List.getElem?_take] at ho
    split at ho
    · exact ⟨by assumption,ho⟩
    · cases ho
  have hdist: ∀ (i j:Nat) (o o':Oper) (d:Nat),(ops.take m)[i]?=some o→(ops.take m)[j]?=some o'→o.dst=some d→o'.dst=some d→i=j:=fun i j o o' d hi hj ho ho'=>by
    obtain ⟨hi,hio⟩:=hget' hi
    obtain ⟨hj,hjo⟩:=hget' hj
    exact (((xkv hst hio).2.2 hi).2 j o' d hj hjo ho').1.resolve_right fun hne=>hne ho
  obtain ⟨hlen,hrest,hturn⟩:=zck sw hdist
  have stb: ∀ b:Bool,Stb (if b=true then Base1 else Base0):=fun b=>by cases b <;> simp only [Bool.false_eq_true,if_false,if_true] <;> infer_instance
  have main: ∀ (so:List Nat) (l:Array Bool) (tmc:List Value),Ord ops m l so→l.size=ops.length→tmc.length=tm.length→
      (∀ x,(∃ (j:Nat) (o:Oper),j<m∧l.getD j false=true∧ops[j]?=some o∧o.dst=some x)→tmc[x]?=tmF[x]?)→
      (∀ x,(∀ (j:Nat) (o:Oper),j<m→l.getD j false=true→ops[j]?=some o→o.dst≠some x)→tmc[x]?=tm[x]?)→
      (∀ (k:Nat) (o:Oper),l.getD k false=true→ops[k]?=some o→ ∀ x∈preds o,l.getD x false=true)→
      RS P md (G (FL f r tmc df (.inRegion ops.toArray (so++List.range' m (ops.length-m))::k)) cs) (if l.getD s false=true then Base1 else Base0) Stop:=by
    intro so
    induction so with
    | nil=>
      intro l tmc hord _ hl h1 h2 _
      cases hord with
      | nil hall=>
      have:tmc=tmF:=by
        refine List.ext_getElem? fun x=>?_
        by_cases hx: ∃ (j:Nat) (o:Oper),j<m∧ops[j]?=some o∧o.dst=some x
        · obtain ⟨j,o,hj,ho,hd⟩:=hx
          exact h1 x ⟨j,o,hj,hall j hj,ho,hd⟩
        · rw [h2 x fun j o hj _ ho hd=>hx ⟨j,o,hj,ho,hd⟩]
          exact (hrest x fun j o hjo hd=>hx ⟨j,o,(hget' hjo).1,(hget' hjo).2,hd⟩).symm
      subst this
      rw [List.nil_append,if_pos (hall s hsm)]
      have:=n (ops.take m) (List.take_append_drop m ops).symm
      rw [List.length_take,Nat.min_eq_left hm,List.length_drop] at this
      exact this
    | cons i so ih=>
      intro l tmc hord hsz hl h1 h2 hpc
      cases hord with
      | @cons _ _ _ o hi ho hn hp hs=>
      have hil:=(List.getElem?_eq_some_iff.1 ho).1
      have hlooks:=((xkv hst ho).2.2 hi)
      obtain ⟨tmi,v,ht,t2,t3,t4,t5⟩:=hturn i o (hget hi ho)
      rw [Nat.zero_add] at ht
      have hni:l.getD i false=false:=by rw [← yex (by omega)];exact hn
      have hself:(l.setIfInBounds i true).getD i false=true:=by simp [Array.getD,hsz,hil]
      have hag: ∀ x∈looks ops o,tmc[x]?=tmi[x]?:=by
        intro x hx
        by_cases hw: ∃ (j:Nat) (o':Oper),j<m∧ops[j]?=some o'∧o'.dst=some x
        · obtain ⟨j,o',hj,ho',hd⟩:=hw
          have hpj:=(hlooks.2 j o' x hj ho' hd).2 hx
          rw [h1 x ⟨j,o',hj,hp j hpj,ho',hd⟩,t3 x ⟨j,o',(xkv hst ho).1 j hpj,hget hj ho',hd⟩]
        · rw [h2 x fun j o' hj _ ho' hd=>hw ⟨j,o',hj,ho',hd⟩,t4 x fun j o' _ ho' hd=>hw ⟨j,o',(hget' ho').1,(hget' ho').2,hd⟩]
      have next:RS P md (G (FL f r (putl tmc o.dst v) df (.inRegion ops.toArray (so++List.range' m (ops.length-m))::k)) cs) (if (l.setIfInBounds i true).getD s false=true then Base1 else Base0) Stop:=by
        refine ih (l.setIfInBounds i true) _ hs (by simpa using hsz) (by rw [xqz];exact hl) (fun x hx=>?_) (fun x hx=>?_) (fun k' o' hd ho' y hy=>?_)
        · obtain ⟨j,o',hj,hlj,ho',hd⟩:=hx
          by_cases e:i=j
          · subst e
            rw [ho] at ho';cases ho'
            rw [t5 x hd,hd]
            simp only [putl]
            by_cases hxl:x<tm.length
            · rw [List.getElem?_set_self (by rw [hl];exact hxl),List.getElem?_set_self (by rw [t2];exact hxl)]
            · rw [List.getElem?_eq_none (by rw [List.length_set,hl];exact Nat.le_of_not_lt hxl),List.getElem?_eq_none (by rw [List.length_set,t2];exact Nat.le_of_not_lt hxl)]
          · have hne:o.dst≠some x:=(hlooks.2 j o' x hj ho' hd).1.resolve_left e
            rw [getD_set_ne false e] at hlj
            rw [xuv hne]
            exact h1 x ⟨j,o',hj,hlj,ho',hd⟩
        · have hne:o.dst≠some x:=hx i o hi hself ho
          rw [xuv hne]
          refine h2 x fun j o' hj hlj ho'=>hx j o' hj ?_ ho'
          by_cases e:i=j
          · subst e;exact hself
          · rw [getD_set_ne false e];exact hlj
        · have hy2:l.getD y false=true:=by
            by_cases e:i=k'
            · subst e;rw [ho] at ho';cases ho';exact hp y hy
            · rw [getD_set_ne false e] at hd;exact hpc k' o' hd ho' y hy
          by_cases e':i=y
          · subst e';exact hself
          · rw [getD_set_ne false e'];exact hy2
      have ho2:ops.toArray[i]?=some o:=by simpa using ho
      have hnd:=ht.1
      rcases ht.2 with ⟨his,hmet,hop⟩ | ⟨his,hmet,hx0,hx1⟩ | ⟨his,hmet,hv⟩
      ·
        subst his
        rw [hni]
        have:=stb false
        rw [if_pos hself] at next
        refine zdw ho2 (xlj (yqv hag hmet)) yix (.inr (by revert hnd;cases o.op <;> simp [noDefer])) fun h hb=>?_
        rw [xpw,zaz (ops:=ops) hlooks.1 hag]
        rcases hop h (by simpa using hb) with ⟨hv,hx⟩ | hx
        · refine xlz hx fun n' h' ⟨e',hb'⟩=>?_
          subst e'
          show Reach P md (G ((F (B f r) tmc.toArray df _).finish undef) cs) h' Stop
          rw [xjv ho2,xjk,← hv]
          exact next h' hb'
        · refine hx _ _ _ fun v' h' ⟨e2,hb'⟩=>?_
          subst e2
          rw [xjv ho2,xjk]
          exact next h' hb'
      · rw [getD_set_ne false his] at next
        have hexd:OpTo P md tmi o (if l.getD s false=true then Base1 else Base0) v:=by
          by_cases hls:l.getD s false=true
          · rw [if_pos hls]
            refine hx1 ?_
            refine Bool.eq_false_iff.2 fun hbe=>?_
            unfold afterI at hbe
            split at hbe
            · rename_i os hos
              have:=xtj hst hsz hpc s os i (fun x hx=>⟨(xkv hst hos).1 x hx,hpc s os hls hos x hx⟩) hbe
              rw [hni] at this;cases this
            · cases hbe
          · rw [if_neg hls]
            refine hx0 ?_
            refine Bool.eq_false_iff.2 fun hbe=>?_
            exact hls (xtj hst hsz hpc i o s (fun x hx=>⟨(xkv hst ho).1 x hx,hp x hx⟩) hbe)
        have:=stb (l.getD s false)
        refine zdw ho2 (xlj (yqv hag hmet)) yix (.inr (by revert hnd;cases o.op <;> simp [noDefer])) fun h hb=>?_
        rw [xpw,zaz (ops:=ops) hlooks.1 hag]
        rcases hexd h hb with hx | ⟨g,args,hx,hc⟩ | hx
        · refine xlz hx fun n' h' ⟨v',e',e2,hb'⟩=>?_
          subst e';subst e2
          show Reach P md (G ((F (B f r) tmc.toArray df _).finish v') cs) h' Stop
          rw [xjv ho2,xjk]
          exact next h' hb'
        · refine xlz hx fun n' h' ⟨e',e2⟩=>?_
          subst e';subst e2
          refine hc _ _ _ fun v' h' ⟨e2,hb'⟩=>?_
          subst e2
          rw [xjv ho2,xjk]
          exact next h' hb'
        · refine hx _ _ _ fun v' h' ⟨e2,hb'⟩=>?_
          subst e2
          rw [xjv ho2,xjk]
          exact next h' hb'
      · rw [getD_set_ne false his] at next
        have:=stb (l.getD s false)
        refine yxk ho2 (xlj (yqv hag hmet)) ?_
        rw [xjk,← hv]
        exact next
  have:=main so _ tm hord (by simp) rfl (fun x hx=>by obtain ⟨j,o,hj,hl,_⟩:=hx;simp [Array.getD] at hl) (fun _ _=>rfl) (fun k _ hl=>by simp [Array.getD] at hl)
  rw [if_neg (by simp [Array.getD])] at this
  exact this

def SWR3 (P:Program) (md:Md) (f:FuncId) (r:Rd) (df:List Deferred) (k:List Item) (cs:List Frame) (Stop:Goroutine→Heap→Prop) (cl:List (List Nat)) (s:Nat) (Base0 Base1:Heap→Prop) (ops full:List Oper) (i:Nat) (rest:List Oper) (tm:List Value):Prop:=
  ∃ tmF,SW3 (Op3 P md ops cl s Base0 Base1) i rest tm tmF∧RL P md f r df k cs Stop ops full tmF Base1
theorem ygv [Stb Base0] [Stb Base1] {id:Nat} (m s:Nat) (cl:List (List Nat)) (hmix:P.follows .mixedOrders=true) (hst:stable ops m cl=true) (hm:m≤ops.length) (hsm:s<m)
    (sw:SWR3 P md f r df k cs Stop cl s Base0 Base1 ops (ops.drop m) 0 (ops.take m) tm):RS P md (G (FL f r tm df (.code (.region id ops.toArray true)::k)) cs) Base0 Stop:=by
  obtain ⟨tmF,h,n⟩:=sw
  exact wix m s cl hmix hst hm hsm h n
variable {full rest:List Oper} {i:Nat} {tm':List Value} {o:Oper} {v:Value}
theorem ywj (e:rest=[]) (n:RL P md f r df k cs Stop ops full tm Base1):SWR3 P md f r df k cs Stop cl s Base0 Base1 ops full i rest tm:=by subst e;exact ⟨tm,rfl,n⟩
theorem xcj {Base:Heap→Prop} (hx: ∀ h,Base h→Exd P tm o h v):OpTo P md tm o Base v:=fun h hb=>.inl (xlz (hx h hb) fun _ _ ⟨v',e1,e2,e3⟩=>⟨v',e1,e2,by rw [e3];exact hb⟩)
theorem xtq {Base:Heap→Prop} {args:List Operand} {ats:Array TypeId} {d:Option Tmp} {ty:TypeId} {pos:String} {aft:Array Edge} {gd:Option (Nat × Bool)} {x:Operand} {g:FuncId} {first cap vs:List Value}
    (hx:evl tm x= .func (.func g) first.toArray cap.toArray) (hvs:first++(args.map (evl tm)++cap)=vs) (hg:callable P g=true) (hc: ∀ h,Base h→CallsX P md g vs.toArray h fun v' h'=>v'=v∧Base h'):
    OpTo P md tm ⟨d,.call ⟨.value x,args.toArray,ats⟩,ty,pos,aft,gd⟩ Base v:=fun h hb=>.inr (.inl ⟨g,vs.toArray,ymq hx hvs hg,hc h hb⟩)
theorem xzq (hm:Met ops tm o true) (h0:OpTo P md tm o Base0 v) (h1:OpTo P md tm o Base1 v) (ht:putl tm o.dst v=tm') (n:SWR3 P md f r df k cs Stop cl s Base0 Base1 ops full (i+1) rest tm')
    (hi:i≠s:=by exact Nat.ne_of_beq_eq_false rfl) (hd:noDefer o.op=true:=by rfl):SWR3 P md f r df k cs Stop cl s Base0 Base1 ops full i (o::rest) tm:=by
  obtain ⟨tmF,h,n⟩:=n
  exact ⟨tmF,⟨v,⟨hd,.inr (.inl ⟨hi,hm,fun _=>h0,fun _=>h1⟩)⟩,by rw [ht];exact h⟩,n⟩
theorem xfv (hm:Met ops tm o true) (hb:afterI cl ops s i=true) (h0:OpTo P md tm o Base0 v) (ht:putl tm o.dst v=tm') (n:SWR3 P md f r df k cs Stop cl s Base0 Base1 ops full (i+1) rest tm')
    (hi:i≠s:=by exact Nat.ne_of_beq_eq_false rfl) (hd:noDefer o.op=true:=by rfl):SWR3 P md f r df k cs Stop cl s Base0 Base1 ops full i (o::rest) tm:=by
  obtain ⟨tmF,h,n⟩:=n
  exact ⟨tmF,⟨v,⟨hd,.inr (.inl ⟨hi,hm,fun _=>h0,fun e=>by rw [hb] at e;cases e⟩)⟩,by rw [ht];exact h⟩,n⟩
theorem xgk (hm:Met ops tm o true) (hb:behind cl o s=true) (h1:OpTo P md tm o Base1 v) (ht:putl tm o.dst v=tm') (n:SWR3 P md f r df k cs Stop cl s Base0 Base1 ops full (i+1) rest tm')
    (hi:i≠s:=by exact Nat.ne_of_beq_eq_false rfl) (hd:noDefer o.op=true:=by rfl):SWR3 P md f r df k cs Stop cl s Base0 Base1 ops full i (o::rest) tm:=by
  obtain ⟨tmF,h,n⟩:=n
  exact ⟨tmF,⟨v,⟨hd,.inr (.inl ⟨hi,hm,(fun e=>by rw [hb] at e;cases e),fun _=>h1⟩)⟩,by rw [ht];exact h⟩,n⟩
theorem xmq (hm:Met ops tm o false) (ht:putl tm o.dst undef=tm') (n:SWR3 P md f r df k cs Stop cl s Base0 Base1 ops full (i+1) rest tm')
    (hi:i≠s:=by exact Nat.ne_of_beq_eq_false rfl) (hd:noDefer o.op=true:=by rfl):SWR3 P md f r df k cs Stop cl s Base0 Base1 ops full i (o::rest) tm:=by
  obtain ⟨tmF,h,n⟩:=n
  exact ⟨tmF,⟨undef,⟨hd,.inr (.inr ⟨hi,hm,rfl⟩)⟩,by rw [ht];exact h⟩,n⟩
theorem zcj (hi:i=s) (hm:Met ops tm o true) (hx: ∀ h,Base0 h→wpS P (execOp (evl tm) o) h fun n h'=>n= .skip∧Base1 h') (ht:putl tm o.dst undef=tm')
    (n:SWR3 P md f r df k cs Stop cl s Base0 Base1 ops full (i+1) rest tm') (hd:noDefer o.op=true:=by rfl):SWR3 P md f r df k cs Stop cl s Base0 Base1 ops full i (o::rest) tm:=by
  obtain ⟨tmF,h,n⟩:=n
  exact ⟨tmF,⟨undef,⟨hd,.inl ⟨hi,hm,fun h hb=>.inl ⟨rfl,hx h hb⟩⟩⟩,by rw [ht];exact h⟩,n⟩
theorem zcv {args:List Operand} {ats:Array TypeId} {d:Option Tmp} {ty:TypeId} {pos:String} {aft:Array Edge} {gd:Option (Nat × Bool)} {x:Operand} {fv:Value} {vs:List Value}
    (hi:i=s) (hm:Met ops tm ⟨d,.call ⟨.value x,args.toArray,ats⟩,ty,pos,aft,gd⟩ true) (hx:evl tm x=fv) (hvs:args.map (evl tm)=vs) (hc: ∀ h,Base0 h→CallV P md fv vs h fun v' h'=>v'=v∧Base1 h') (ht:putl tm d v=tm')
    (n:SWR3 P md f r df k cs Stop cl s Base0 Base1 ops full (i+1) rest tm'):SWR3 P md f r df k cs Stop cl s Base0 Base1 ops full i (⟨d,.call ⟨.value x,args.toArray,ats⟩,ty,pos,aft,gd⟩::rest) tm:=by
  obtain ⟨tmF,h,n⟩:=n
  refine ⟨tmF,⟨v,⟨rfl,.inl ⟨hi,hm,fun h hb=>.inr fun c cs Stop z=>?_⟩⟩,by rw [ht];exact h⟩,n⟩
  have:=hc h hb c cs Stop z
  simp only [execOp,resolve,hx,List.map_toArray,hvs]
  exact this
end

section
variable {P:Program} {tm:List Value} {h₀:Heap} {B₀:List Nat} {p:PHeap} {A X C:Pcs} {T:TypeId} {w:Nat} {v:Value} {es:List (List Value)} {ty:TypeId} {pos:String} {aft:Array Edge} {gd:Option (Nat × Bool)} {h:Heap}
theorem zcq {T':TypeId} {x y:Operand} {i j:Nat} {e:List Value} {u:Value} {a:Addr} (o:OwnS T w v es X) (hs:sizeT P T'=some 1) (hx:evl tm x= .pointer (some a)) (ha:((adrV v).add (i*w)).add j=a)
    (hy:evl tm y=u) (hv:u.cells=#[u]∧isOne u=true) (hi:es[i]?=some e) (hj:j<e.length) (s:St h₀ B₀ p h (A++(X++C))):
    wpS P (execOp (evl tm) ⟨none,.store T' x y,ty,pos,aft,gd⟩) h fun n h'=>n= .skip∧ ∃ X',OwnS T w v (es.set i (e.set j u)) X'∧St h₀ B₀ p h' (A++(X'++C)):=by
  have hil:=(List.getElem?_eq_some_iff.1 hi).1
  obtain ⟨b,cs',cap,rs,e1,e2,e3,e4,ec⟩:=o.has hil
  have hlt:i*w+j<es.flatten.length:=(List.getElem?_eq_some_iff.1 (xox o.1 hi (List.getElem?_eq_getElem hj))).1
  have he:e.length=w:=o.1 e (List.mem_of_getElem? hi)
  subst e1;subst e2;subst ha
  have e5:cs'.set (i*w+j) u=(es.set i (e.set j u)).flatten++rs:=by
    rw [e3,List.set_append_left _ _ hlt,xzk o.1 hi hj]
  have o':OwnS T w (.slice (some ⟨b,0,none⟩) es.length cap) (es.set i (e.set j u)) [(b,.cells (cs'.set (i*w+j) u).toArray T (0,0))]:=by
    refine ⟨fun z hz=>?_,.inr ⟨b,cs'.set (i*w+j) u,cap,rs,by simp,rfl,e5,by simpa using e4,ec⟩⟩
    rcases List.mem_or_eq_of_mem_set hz with h | h
    · exact o.1 z h
    · subst h;simpa using he
  have hx':evl tm x= .pointer (some ⟨b,i*w+j,none⟩):=by
    rw [hx];simp only [adrV];rw [xnz,xnz,Nat.zero_add]
  have hL:(A++([(b,Obj.cells (List.toArray cs') T (0,0))]++C))[A.length]?=some (b,.cells cs'.toArray T (0,0)):=by rw [List.getElem?_append_right (Nat.le_refl _)];simp
  simp only [execOp,hx',hy]
  refine xbz ?_
  unfold Instr.storeAt
  refine xbz (xbv ?_)
  unfold storeVar
  refine xbz (xmx hs ?_)
  rw [if_neg (by rw [hv.1];simp)]
  refine xpk s hL (by rw [hv.1];show _+0+1≤_;rw [e3,List.length_append];omega) (fun u' hu=>by rw [hv.1] at hu;simp at hu;subst hu;exact hv.2) fun h' s'=>?_
  refine xbv ⟨rfl,_,o',?_⟩
  have e6:(A++([(b,Obj.cells (List.toArray cs') T (0,0))]++C)).set A.length (b,.cells (setl cs' (i*w+j) u.cells.toList).toArray T (0,0))=A++([(b,.cells (cs'.set (i*w+j) u).toArray T (0,0))]++C):=by
    rw [List.set_append_right _ _ (Nat.le_refl _),hv.1];simp [setl]
  rw [Nat.add_zero,e6] at s'
  exact s'
end
end Go.X
namespace Go.Proofs.YtalfgojocdonhaaDoor
open Go.X Go.X.Flow Go.Conc
set_option maxRecDepth 10000
set_option synthInstance.maxSize 2000

set_option maxHeartbeats 2000000
theorem c104 (md:Md) (h:Heap) (x y:Int):CallsX Tryd.prog md 104 #[.int .i64 (x),.int .i64 (y)] h fun v h'=>v= .int .i64 (cmpI y x)∧Keep h h':=by
 refine xcx (Φ:=fun h_=>St h [] (fun _=>none) h_ []) Tryd.func104 rfl (tm:=zq8 []) rfl ?_ (St.start h _ (fun _ _ e=>by cases e))
 intro c₀ cs Stop K
 refine fsr <| ro (xax (v:=.int .i64 0) rfl) <| ren <| xbq <| ro (xaq (v:=.int .i64 (y)) rfl) <| rt (xaq (v:=.int .i64 (x)) rfl) (tm':=zq8 []) rfl ?_
 refine xeq mn (first:=[]) (cap:=[]) rfl rfl wsz (fun h_ H_=>c101 md _ (y) (x)) rfl ?_
 refine ro (xax (v:=.int .i64 (cmpI (y) (x))) rfl) <| xak ?_
 refine xdv Tryd.func104 rfl (vs:=[.int .i64 (cmpI (y) (x))]) (fun h_ H_=>⟨.int .i64 (cmpI (y) (x)),_,rfl,rfl,rfl⟩) (v:=.int .i64 (cmpI (y) (x))) rfl ?_
 exact fun h_ H_=>K _ _ ⟨rfl,H_.kept⟩
theorem c115 (md:Md) (h h₀:Heap) (B₀:List Nat) (p:PHeap) (w:Value) (xs:List Int) (X₀ C₀:Pcs) (o₀:OwnS 3 1 w (ics xs) X₀) (n:Nat) (hn:n=xs.length∧n≤12) (fv:Value) (hf: ∀ x y h,CallV Tryd.prog md fv [.int .i64 x,.int .i64 y] h fun v h'=>v= .int .i64 (cmpI y x)∧Keep h h') (s₀:St h₀ B₀ p h (([]:Pcs)++(X₀++(C₀++[])))):CallsX Tryd.prog md 115 #[w,.int .i64 (0),.int .i64 (((n:Nat):Int)),fv] h fun _ h'=>∃ X',OwnS 3 1 w (ics (srt xs)) X'∧St h₀ B₀ p h' (X'++(C₀++[])):=by
 refine xcx (Φ:=fun h_=>St h₀ B₀ p h_ (([]:Pcs)++(X₀++(C₀++[])))) Tryd.func115 rfl (tm:=zq1 (zq4 (zq16 (zq32 [])))) rfl ?_ s₀
 intro c₀ cs Stop K
 refine fsr <| rt (xaq (v:=.int .i64 (0)) rfl) (tm':=zq1 (zq2 (zq8 _))) rfl ?_
 refine ro (xek rfl rfl (wr (by omega))) ?_
 refine ro (xax (v:=.int .i64 (0+1)) rfl) <| xak <| xdj ?_
 refine xhk (m₀:=n-1) (fun m_ tm_ h_=>∃ (i:Nat) (ys:List Int) (X1:Pcs),m_=n-i∧(∃ y1:Nat→Value,tm_=[w,.int .i64 (0),.int .i64 (((n:Nat):Int)),fv,undef,undef,undef,undef,.int .i64 (((i:Nat):Int)),(y1 9),.int .i64 (0),.int .i64 (0+1),(y1 12),(y1 13),(y1 14),(y1 15),(y1 16),(y1 17),(y1 18),(y1 19),(y1 20),(y1 21),(y1 22),(y1 23),(y1 24),(y1 25),(y1 26),(y1 27),(y1 28),(y1 29),(y1 30),(y1 31),(y1 32),(y1 33),(y1 34),(y1 35),(y1 36),(y1 37),(y1 38),(y1 39),(y1 40),(y1 41),(y1 42),(y1 43),(y1 44),(y1 45),(y1 46),(y1 47),(y1 48),(y1 49),(y1 50),(y1 51),(y1 52)])∧(1≤i)∧(OwnS 3 1 w (ics ys) X1)∧(ys.Perm xs)∧(SortTo ys i)∧St h₀ B₀ p h_ (([]:Pcs)++(X1++(C₀++[])))) (fun h_ H_=>⟨1,xs,X₀,rfl,(y_of rfl),Nat.le_refl _,o₀,(.refl _),(fun p q a b=>absurd a (by omega)),H_⟩) ?_
 intro m_ tm_ IH2
 refine xhq fun i=>xhq fun ys=>xhq fun X1=>xcz fun hm_=>xcz fun ht_=>xcz fun hi=>xcz fun o1=>xcz fun hp=>xcz fun hs=>?_
 subst hm_;obtain ⟨y1,ht_⟩:=ht_;subst ht_
 have hly:ys.length=n:=hp.length_eq.trans hn.1.symm
 refine xez <| fsr <| rt (xaq (v:=.int .i64 (((i:Nat):Int))) rfl) (tm':=zq1 (zq4 (zq8 _))) rfl <| ro (xaq (v:=.int .i64 (((n:Nat):Int))) rfl) <| ro (xgj rfl rfl) <| xak ?_
 by_cases cc3:((i:Nat):Int)<((n:Nat):Int)
 ·
  refine xdx rfl (dtt cc3) <| xcv <| xez <| xdj <| fsr <| rt (xaq (v:=.int .i64 (((i:Nat):Int))) rfl) (tm':=zq2 (zq16 _)) rfl ?_
  refine ro (xax (v:=.int .i64 (((i:Nat):Int))) rfl) <| xak <| xdj ?_
  refine xhk (m₀:=i+1) (fun m_ tm_ h_=>∃ (j:Nat) (zs:List Int) (X2:Pcs),m_=j+1∧(∃ y4:Nat→Value,tm_=[w,.int .i64 (0),.int .i64 (((n:Nat):Int)),fv,undef,undef,undef,undef,.int .i64 (((i:Nat):Int)),.int .i64 (((j:Nat):Int)),.int .i64 (0),.int .i64 (0+1),.int .i64 (((i:Nat):Int)),.int .i64 (((n:Nat):Int)),.bool (decide (((i:Nat):Int)<((n:Nat):Int))),(y1 15),(y1 16),.int .i64 (((i:Nat):Int)),(y4 18),(y4 19),(y4 20),(y4 21),(y4 22),(y4 23),(y4 24),(y4 25),(y4 26),(y4 27),(y4 28),(y4 29),(y4 30),(y4 31),(y4 32),(y4 33),(y4 34),(y4 35),(y4 36),(y4 37),(y4 38),(y4 39),(y4 40),(y4 41),(y4 42),(y4 43),(y4 44),(y4 45),(y4 46),(y4 47),(y4 48),(y4 49),(y4 50),(y4 51),(y4 52)])∧(j≤i)∧(OwnS 3 1 w (ics zs) X2)∧(zs.Perm xs)∧(Float zs i j)∧St h₀ B₀ p h_ (([]:Pcs)++(X2++(C₀++[])))) (fun h_ H_=>⟨i,ys,X1,rfl,(y_of rfl),Nat.le_refl _,o1,hp,(zlk hs),H_⟩) ?_
  intro m_ tm_ IH5
  refine xhq fun j=>xhq fun zs=>xhq fun X2=>xcz fun hm_=>xcz fun ht_=>xcz fun hj=>xcz fun o2=>xcz fun hq=>xcz fun hf2=>?_
  subst hm_;obtain ⟨y4,ht_⟩:=ht_;subst ht_
  have hlz:zs.length=n:=hq.length_eq.trans hn.1.symm
  refine xez <| xez ?_
  by_cases cc6:0<((j:Nat):Int)
  ·
   refine xgx 14 [[],[],[0,1],[0,1,2],[],[],[],[5,6],[5,6,7],[],[0,1,2],[0,1,2,10],[0,1,2,9,10,11],[0,1,2,9,10,11,12],[0,1,2,4,5,6,7,8,9,10,11,12,13],[0,1,2,4,5,6,7,8,9,10,11,12,13,14],[]] xkk (by kernel_rfl) (Nat.le_of_ble_eq_true rfl) ?_
   refine wt (xaq (v:=.int .i64 (((j:Nat):Int))) rfl) (tm':=zq1 (zq2 (zq16 _))) rfl <| wo (xaq (v:=.int .i64 (0)) rfl) <| wt (xkq rfl rfl) (tm':=zq1 (zq4 (zq16 _))) rfl <| wo (xaq (v:=.bool (decide (0<((j:Nat):Int)))) rfl) ?_
   refine xbk (ms rfl rfl (dtt cc6)) (fun h_ H_=>xaq (v:=fv) rfl) (tm':=zq1 (zq2 (zq4 (zq16 _)))) rfl ?_
   refine xbk (ms rfl rfl (dtt cc6)) (fun h_ H_=>xaq (v:=w) rfl) rfl ?_
   refine xbk (ms rfl rfl (dtt cc6)) (fun h_ H_=>xaq (v:=.int .i64 (((j:Nat):Int))) rfl) (tm':=zq1 (zq8 (zq16 _))) rfl ?_
   refine xbk (ms rfl rfl (dtt cc6)) (fun h_ H_=>xix o2 Tryd.underlying22 tS3 rfl rfl (by rw [(xcw _)];first | omega | (simp only [List.length_set];omega))) rfl ?_
   refine xbk (ms rfl rfl (dtt cc6)) (fun h_ H_=>xnv (A:=([]:Pcs)) (i:=j) (j:=0) (e:=[.int .i64 (zs.getD j 0)]) o2 H_ tA3 rfl rfl (xqw (by first | omega | (rw [leftK_length];omega) | (simp only [List.length_set];omega))) (u:=.int .i64 (zs.getD j 0)) rfl) (tm':=zq1 (zq2 (zq8 (zq16 _)))) rfl ?_
   refine xbk (ms rfl rfl (dtt cc6)) (fun h_ H_=>xaq (v:=w) rfl) rfl ?_
   refine xbk (ms rfl rfl (dtt cc6)) (fun h_ H_=>xaq (v:=.int .i64 (((j:Nat):Int))) rfl) (tm':=zq1 (zq4 (zq8 (zq16 _)))) rfl ?_
   refine xbk (ms rfl rfl (dtt cc6)) (fun h_ H_=>xkj rfl rfl (n:=((j-1:Nat):Int)) (by rw [show ((j:Nat):Int)-1=((j-1:Nat):Int) from by omega];exact wr (by omega))) rfl ?_
   refine xbk (ms rfl rfl (dtt cc6)) (fun h_ H_=>xix o2 Tryd.underlying22 tS3 rfl rfl (by rw [(xcw _)];first | omega | (simp only [List.length_set];omega))) (tm':=zq1 (zq2 (zq4 (zq8 (zq16 _))))) rfl ?_
   refine xbk (ms rfl rfl (dtt cc6)) (fun h_ H_=>xnv (A:=([]:Pcs)) (i:=j-1) (j:=0) (e:=[.int .i64 (zs.getD (j-1) 0)]) o2 H_ tA3 rfl rfl (xqw (by first | omega | (rw [leftK_length];omega) | (simp only [List.length_set];omega))) (u:=.int .i64 (zs.getD (j-1) 0)) rfl) rfl ?_
   refine xiz rfl ?_
   refine ypk (ms rfl rfl (dtt cc6)) rfl (vs:=[.int .i64 (zs.getD j 0),.int .i64 (zs.getD (j-1) 0)]) rfl (fun h_ H_=>hf _ _ h_) rfl ?_
   refine xbx (ms rfl rfl (dtt cc6)) (fun h_ H_=>xgj rfl rfl) (tm':=zq2 (zq32 _)) rfl ?_
   refine ro (xdz rfl (dtt cc6) (v:=.bool (decide (cmpI (zs.getD (j-1) 0) (zs.getD j 0)<0))) rfl) <| xak ?_
   by_cases cc7:cmpI (zs.getD (j-1) 0) (zs.getD j 0)<0
   ·
    refine xdx rfl (dtt cc7) <| xcv <| xez <| xdj ?_
    refine ygv (Base1:=fun h_=>∃ X3_,OwnS 3 1 w ((ics zs).set j ([.int .i64 (zs.getD j 0)].set 0 (.int .i64 (zs.getD (j-1) 0)))) X3_∧St h₀ B₀ p h_ (([]:Pcs)++(X3_++(C₀++[])))) 16 15 [[],[],[],[],[3],[],[],[6],[5,6,7],[5,6,7,8],[],[],[10,11],[10,11,12],[0,1,5,6,7,8,9,10,11,12,13],[0,1,5,6,7,8,9,10,11,12,13,14],[0,1,2,3,4,5,6,7,8,9,10,11,12,13,14,15],[0,1,2,3,4,5,6,7,8,9,10,11,12,13,14,15,16]] xkk (by kernel_rfl) (Nat.le_of_ble_eq_true rfl) (Nat.le_of_ble_eq_true rfl) ?_
    refine xfv mn (by kernel_rfl) (xcj fun h_ H_=>xaq (v:=w) rfl) rfl ?_
    refine xfv mn (by kernel_rfl) (xcj fun h_ H_=>xaq (v:=.int .i64 (((j:Nat):Int))) rfl) (tm':=zq1 (zq4 (zq16 (zq32 [])))) rfl ?_
    refine xzq mn (xcj fun h_ H_=>xaq (v:=w) rfl) (xcj fun h_ ⟨X3_,o3_,H_⟩=>xaq (v:=w) rfl) rfl ?_
    refine xzq mn (xcj fun h_ H_=>xaq (v:=.int .i64 (((j:Nat):Int))) rfl) (xcj fun h_ ⟨X3_,o3_,H_⟩=>xaq (v:=.int .i64 (((j:Nat):Int))) rfl) (tm':=zq1 (zq4 (zq16 (zq32 [])))) rfl ?_
    refine xzq mn (xcj fun h_ H_=>xkj rfl rfl (n:=((j-1:Nat):Int)) (by rw [show ((j:Nat):Int)-1=((j-1:Nat):Int) from by omega];exact wr (by omega))) (xcj fun h_ ⟨X3_,o3_,H_⟩=>xkj rfl rfl (n:=((j-1:Nat):Int)) (by rw [show ((j:Nat):Int)-1=((j-1:Nat):Int) from by omega];exact wr (by omega))) rfl ?_
    refine xfv mn (by kernel_rfl) (xcj fun h_ H_=>xaq (v:=w) rfl) (tm':=zq1 (zq4 (zq16 (zq32 [])))) rfl ?_
    refine xfv mn (by kernel_rfl) (xcj fun h_ H_=>xaq (v:=.int .i64 (((j:Nat):Int))) rfl) rfl ?_
    refine xfv mn (by kernel_rfl) (xcj fun h_ H_=>xkj rfl rfl (n:=((j-1:Nat):Int)) (by rw [show ((j:Nat):Int)-1=((j-1:Nat):Int) from by omega];exact wr (by omega))) (tm':=zq1 (zq4 (zq16 (zq32 [])))) rfl ?_
    refine xfv mn (by kernel_rfl) (xcj fun h_ H_=>xix o2 Tryd.underlying22 tS3 rfl rfl (by rw [(xcw _)];first | omega | (simp only [List.length_set];omega))) rfl ?_
    refine xfv mn (by kernel_rfl) (xcj fun h_ H_=>xnv (A:=([]:Pcs)) (i:=j-1) (j:=0) (e:=[.int .i64 (zs.getD (j-1) 0)]) o2 H_ tA3 rfl rfl (xqw (by first | omega | (rw [leftK_length];omega) | (simp only [List.length_set];omega))) (u:=.int .i64 (zs.getD (j-1) 0)) rfl) (tm':=zq1 (zq4 (zq16 (zq32 [])))) rfl ?_
    refine xfv mn (by kernel_rfl) (xcj fun h_ H_=>xaq (v:=w) rfl) rfl ?_
    refine xfv mn (by kernel_rfl) (xcj fun h_ H_=>xaq (v:=.int .i64 (((j:Nat):Int))) rfl) (tm':=zq1 (zq4 (zq16 (zq32 [])))) rfl ?_
    refine xfv mn (by kernel_rfl) (xcj fun h_ H_=>xix o2 Tryd.underlying22 tS3 rfl rfl (by rw [(xcw _)];first | omega | (simp only [List.length_set];omega))) rfl ?_
    refine xfv mn (by kernel_rfl) (xcj fun h_ H_=>xnv (A:=([]:Pcs)) (i:=j) (j:=0) (e:=[.int .i64 (zs.getD j 0)]) o2 H_ tA3 rfl rfl (xqw (by first | omega | (rw [leftK_length];omega) | (simp only [List.length_set];omega))) (u:=.int .i64 (zs.getD j 0)) rfl) (tm':=zq1 (zq4 (zq16 (zq32 [])))) rfl ?_
    refine xfv mn (by kernel_rfl) (xcj fun h_ H_=>xix o2 Tryd.underlying22 tS3 rfl rfl (by rw [(xcw _)];first | omega | (simp only [List.length_set];omega))) rfl ?_
    refine zcj rfl mn (fun h_ H_=>zcq (A:=([]:Pcs)) (i:=j) (j:=0) (e:=[.int .i64 (zs.getD j 0)]) (u:=.int .i64 (zs.getD (j-1) 0)) o2 tS3 rfl rfl rfl ⟨rfl,rfl⟩ (xqw (by first | omega | (rw [leftK_length];omega) | (simp only [List.length_set];omega))) (Nat.succ_le_iff.1 (Nat.le_of_ble_eq_true rfl)) H_) rfl ?_
    refine ywj rfl (xgz fun X8=>xfq fun o9=>?_)
    have o10:OwnS 3 1 w (ics (zs.set j (zs.getD (j-1) 0))) X8:=o9.as xxw
    refine ro (xix o10 Tryd.underlying22 tS3 rfl rfl (by rw [(xcw _)];first | omega | (simp only [List.length_set];omega))) ?_
    refine xux (A:=([]:Pcs)) (i:=j-1) (j:=0) (e:=[.int .i64 ((zs.set j (zs.getD (j-1) 0)).getD (j-1) 0)]) (u:=.int .i64 (zs.getD j 0)) o10 mn tS3 rfl rfl rfl ⟨rfl,rfl⟩ (xqw (by first | omega | (rw [leftK_length];omega) | (simp only [List.length_set];omega))) (Nat.succ_le_iff.1 (Nat.le_of_ble_eq_true rfl)) fun X11 o12=>?_
    have o13:OwnS 3 1 w (ics ((zs.set j (zs.getD (j-1) 0)).set (j-1) (zs.getD j 0))) X11:=o12.as xxw
    refine xak <| xdq <| xbq <| rt (xaq (v:=.int .i64 (((j:Nat):Int))) rfl) (tm':=zq1 (zq4 (zq16 (zq32 [])))) rfl ?_
    refine ro (xkj rfl rfl (n:=((j-1:Nat):Int)) (by rw [show ((j:Nat):Int)-1=((j-1:Nat):Int) from by omega];exact wr (by omega))) ?_
    refine ro (xax (v:=.int .i64 (((j-1:Nat):Int))) rfl) <| xak ?_
    exact fun h_ H_=>IH5 _ _ (by omega) h_ ⟨j-1,(swp zs j),X11,rfl,(y_of rfl),(by omega),(o13.as (show _=ics (swp zs j) from rfl)),((zow (by omega) (by omega)).trans hq),(zyj hf2 (by omega) (by omega) (by omega) (by have z_:=zmj.1 ‹cmpI _ _<0›;exact z_)),H_⟩
   ·
    refine xck rfl (dff cc7) <| xhz rfl <| xdq <| xbq <| rt (xaq (v:=.int .i64 (((i:Nat):Int))) rfl) (tm':=zq16 _) rfl ?_
    refine ro (xek rfl rfl (n:=((i+1:Nat):Int)) (wr (by omega))) ?_
    refine ro (xax (v:=.int .i64 (((i+1:Nat):Int))) rfl) <| xak ?_
    exact fun h_ H_=>IH2 _ _ (by omega) h_ ⟨i+1,zs,X2,rfl,(y_of rfl),(by omega),o2,hq,(zgv hf2 (by omega) (by first | exact .inl (by omega) | exact .inr (by have z_:=mt zmj.2 ‹¬ cmpI _ _<0›;omega))),H_⟩
  ·
   refine xgx 14 [[],[],[0,1],[0,1,2],[],[],[],[5,6],[5,6,7],[],[0,1,2],[0,1,2,10],[0,1,2,9,10,11],[0,1,2,9,10,11,12],[0,1,2,4,5,6,7,8,9,10,11,12,13],[0,1,2,4,5,6,7,8,9,10,11,12,13,14],[]] xkk (by kernel_rfl) (Nat.le_of_ble_eq_true rfl) ?_
   refine wo (xaq (v:=.int .i64 (((j:Nat):Int))) rfl) <| wt (xaq (v:=.int .i64 (0)) rfl) (tm':=zq4 (zq16 _)) rfl <| wo (xkq rfl rfl) <| wt (xaq (v:=.bool (decide (0<((j:Nat):Int)))) rfl) (tm':=zq2 (zq4 (zq16 _))) rfl <| wp (mo rfl rfl (dff cc6)) <| xex (mo rfl rfl (dff cc6)) (tm':=zq8 (zq16 _)) rfl ?_
   refine wp (mo rfl rfl (dff cc6)) <| xex (mo rfl rfl (dff cc6)) (tm':=zq2 (zq8 (zq16 _))) rfl <| wp (mo rfl rfl (dff cc6)) <| xex (mo rfl rfl (dff cc6)) (tm':=zq4 (zq8 (zq16 _))) rfl <| wp (mo rfl rfl (dff cc6)) <| xex (mo rfl rfl (dff cc6)) (tm':=zq2 (zq4 (zq8 (zq16 _)))) rfl ?_
   refine wp (mo rfl rfl (dff cc6)) <| xex (mo rfl rfl (dff cc6)) (tm':=zq32 _) rfl ?_
   refine xiz rfl ?_
   refine rp (mo rfl rfl (dff cc6)) <| xfx (mo rfl rfl (dff cc6)) (tm':=zq2 (zq32 _)) rfl <| ro (xej rfl (dff cc6) (v:=.bool (false)) rfl) <| xak <| xck rfl rfl <| xhz rfl ?_
   refine xdq <| xbq <| ro (xaq (v:=.int .i64 (((i:Nat):Int))) rfl) ?_
   refine rt (xek rfl rfl (n:=((i+1:Nat):Int)) (wr (by omega))) (tm':=zq1 (zq16 _)) rfl ?_
   refine ro (xax (v:=.int .i64 (((i+1:Nat):Int))) rfl) <| xak ?_
   exact fun h_ H_=>IH2 _ _ (by omega) h_ ⟨i+1,zs,X2,rfl,(y_of rfl),(by omega),o2,hq,(zgv hf2 (by omega) (by first | exact .inl (by omega) | exact .inr (by have z_:=mt zmj.2 ‹¬ cmpI _ _<0›;omega))),H_⟩
 ·
  refine xck rfl (dff cc3) <| xhz rfl ?_
  refine zlw Tryd.func115 rfl (vs:=[]) (fun h_ H_=>rfl) (v:=.tuple #[]) rfl ?_
  exact fun h_ H_=>K _ _ ⟨_,o1.as (by rw [wnj hs (by omega) hp]),by simpa using H_⟩
end Go.Proofs.YtalfgojocdonhaaDoor
namespace Go.Proofs.YtalfgojocdonhaaDoor
open Go.X Go.X.Flow Go.Conc
set_option maxRecDepth 10000
set_option synthInstance.maxSize 2000

set_option maxHeartbeats 1000000
theorem c111 (md:Md) (h h₀:Heap) (B₀:List Nat) (p:PHeap) (w:Value) (xs:List Int) (X₀ C₀:Pcs) (o₀:OwnS 3 1 w (ics xs) X₀) (n:Nat) (hn:n=xs.length∧n≤12) (lim:Int) (_hlim:True) (fv:Value) (hf: ∀ x y h,CallV Tryd.prog md fv [.int .i64 x,.int .i64 y] h fun v h'=>v= .int .i64 (cmpI y x)∧Keep h h') (s₀:St h₀ B₀ p h (([]:Pcs)++(X₀++(C₀++[])))):CallsX Tryd.prog md 111 #[w,.int .i64 (0),.int .i64 (((n:Nat):Int)),.int .i64 (lim),fv] h fun _ h'=>∃ X',OwnS 3 1 w (ics (srt xs)) X'∧St h₀ B₀ p h' (X'++(C₀++[])):=by
 refine xcx (Φ:=fun h_=>St h₀ B₀ p h_ (([]:Pcs)++(X₀++(C₀++[])))) Tryd.func111 rfl (tm:=zq4 (zq16 (zq32 (zq32 (zq32 (zq32 [])))))) rfl ?_ s₀
 intro c₀ cs Stop K
 refine fsr <| ro (xax (v:=.bool (true)) rfl) <| ren <| xbq <| ro (xax (v:=.bool (true)) rfl) <| xak ?_
 refine xdj ?_
 refine wrx ?_
 refine xdj <| fsr <| rt (xaq (v:=.int .i64 (((n:Nat):Int))) rfl) (tm':=zq2 (zq4 (zq16 _))) rfl <| ro (xaq (v:=.int .i64 (0)) rfl) ?_
 refine ro (xkj rfl rfl (wr (by omega))) ?_
 refine rt (xax (v:=.int .i64 (((n:Nat):Int)-0)) rfl) (tm':=zq1 (zq4 (zq8 _))) rfl <| ren <| fsr <| ro (xaq (v:=.int .i64 (((n:Nat):Int)-0)) rfl) <| ro (yez rfl rfl) <| xak ?_
 refine xdx rfl (decide_eq_true (by omega)) ?_
 refine fsr <| rt (xaq (v:=w) rfl) (tm':=zq1 (zq2 (zq8 (zq16 _)))) rfl <| ro (xaq (v:=.int .i64 (0)) rfl) <| ro (xaq (v:=.int .i64 (((n:Nat):Int))) rfl) <| rt (xaq (v:=fv) rfl) (tm':=zq2 (zq4 (zq8 (zq16 _)))) rfl ?_
 refine xiw mn (first:=[]) (cap:=[]) rfl rfl fC115 (R:=fun _ h_=>∃ X1:Pcs,OwnS 3 1 w (ics (srt xs)) X1∧St h₀ B₀ p h_ (([]:Pcs)++(X1++(C₀++[])))) (fun h_ H_=>(c115 md _ _ _ _ w xs _ _ o₀ n (hn) fv hf (H_.lentTo)).mono fun v_ h2_ ⟨X_,o_,N_⟩=>⟨X_,o_,N_.lentBack⟩) fun v3=>?_
 refine xgz fun X1=>xfq fun o2=>?_
 refine xak ?_
 refine xdv Tryd.func111 rfl (vs:=[]) (fun h_ H_=>rfl) (v:=.tuple #[]) rfl ?_
 exact fun h_ H_=>K _ _ ⟨_,o2,by simpa using H_⟩
theorem c124 (md:Md) (h:Heap) (n:Nat) (hn:n≤12):CallsX Tryd.prog md 124 #[.int .u64 (((n:Nat):Int))] h fun v h'=>∃ k:Int,v= .int .i64 k∧New h h' []:=by
 refine xcx (Φ:=fun h_=>St h [] (fun _=>none) h_ []) Tryd.func124 rfl (tm:=zq1 (zq8 (zq16 []))) rfl ?_ (St.start h _ (fun _ _ e=>by cases e))
 intro c₀ cs Stop K
 refine fsr <| ro (xax (v:=.int .i64 0) rfl) <| ren <| fsr <| rt (xaq (v:=.int .u64 (((n:Nat):Int))) rfl) (tm':=zq4 _) rfl <| ro (xwk rfl rfl) ?_
 refine xak ?_
 refine xck rfl (decide_eq_false (by omega)) ?_
 refine xcv <| xez <| fsr <| ro (xaq (v:=.int .u64 (((n:Nat):Int))) rfl) <| rt (xwk rfl rfl) (tm':=zq1 (zq8 _)) rfl <| xak ?_
 refine xck rfl (decide_eq_false (by omega)) ?_
 refine xcv <| xez <| fsr <| ro (xaq (v:=.int .u64 (((n:Nat):Int))) rfl) <| ro (xwk rfl rfl) <| xak ?_
 refine xck rfl (decide_eq_false (by omega)) ?_
 refine xcv <| fsr <| rt (xaq (v:=.int .i64 0) rfl) (tm':=zq1 (zq8 (zq16 []))) rfl <| ro (xaq (v:=.int .u64 (((n:Nat):Int))) rfl) ?_
 refine ro (ynj ⟨_,Tryd.underlying110⟩ Tryd.underlying5 rfl (n:=((n:Nat):Int)) (wr8 (by omega))) ?_
 refine rt (zmz (l:=([0,1,2,2,3,3,3,3,4,4,4,4,4,4,4,4,5,5,5,5,5,5,5,5,5,5,5,5,5,5,5,5,6,6,6,6,6,6,6,6,6,6,6,6,6,6,6,6,6,6,6,6,6,6,6,6,6,6,6,6,6,6,6,6,7,7,7,7,7,7,7,7,7,7,7,7,7,7,7,7,7,7,7,7,7,7,7,7,7,7,7,7,7,7,7,7,7,7,7,7,7,7,7,7,7,7,7,7,7,7,7,7,7,7,7,7,7,7,7,7,7,7,7,7,7,7,7,7,8,8,8,8,8,8,8,8,8,8,8,8,8,8,8,8,8,8,8,8,8,8,8,8,8,8,8,8,8,8,8,8,8,8,8,8,8,8,8,8,8,8,8,8,8,8,8,8,8,8,8,8,8,8,8,8,8,8,8,8,8,8,8,8,8,8,8,8,8,8,8,8,8,8,8,8,8,8,8,8,8,8,8,8,8,8,8,8,8,8,8,8,8,8,8,8,8,8,8,8,8,8,8,8,8,8,8,8,8,8,8,8,8,8,8,8,8,8,8,8,8,8,8,8,8,8,8,8]:List UInt8)) (i:=n) Tryd.underlying9 rfl rfl (Nat.lt_of_le_of_lt hn (Nat.le_of_ble_eq_true rfl))) (tm':=zq1 (zq8 (zq16 []))) rfl <| ro (ynj ⟨_,Tryd.underlying5⟩ Tryd.underlying3 rfl (n:=(((([0,1,2,2,3,3,3,3,4,4,4,4,4,4,4,4,5,5,5,5,5,5,5,5,5,5,5,5,5,5,5,5,6,6,6,6,6,6,6,6,6,6,6,6,6,6,6,6,6,6,6,6,6,6,6,6,6,6,6,6,6,6,6,6,7,7,7,7,7,7,7,7,7,7,7,7,7,7,7,7,7,7,7,7,7,7,7,7,7,7,7,7,7,7,7,7,7,7,7,7,7,7,7,7,7,7,7,7,7,7,7,7,7,7,7,7,7,7,7,7,7,7,7,7,7,7,7,7,8,8,8,8,8,8,8,8,8,8,8,8,8,8,8,8,8,8,8,8,8,8,8,8,8,8,8,8,8,8,8,8,8,8,8,8,8,8,8,8,8,8,8,8,8,8,8,8,8,8,8,8,8,8,8,8,8,8,8,8,8,8,8,8,8,8,8,8,8,8,8,8,8,8,8,8,8,8,8,8,8,8,8,8,8,8,8,8,8,8,8,8,8,8,8,8,8,8,8,8,8,8,8,8,8,8,8,8,8,8,8,8,8,8,8,8,8,8,8,8,8,8,8,8,8,8,8,8]:List UInt8).getD n 0).toNat:Nat):Int)) (wrB _)) <| ro (xek rfl rfl (wr (vjj _))) <| rt (xax (v:=.int .i64 (0+(((([0,1,2,2,3,3,3,3,4,4,4,4,4,4,4,4,5,5,5,5,5,5,5,5,5,5,5,5,5,5,5,5,6,6,6,6,6,6,6,6,6,6,6,6,6,6,6,6,6,6,6,6,6,6,6,6,6,6,6,6,6,6,6,6,7,7,7,7,7,7,7,7,7,7,7,7,7,7,7,7,7,7,7,7,7,7,7,7,7,7,7,7,7,7,7,7,7,7,7,7,7,7,7,7,7,7,7,7,7,7,7,7,7,7,7,7,7,7,7,7,7,7,7,7,7,7,7,7,8,8,8,8,8,8,8,8,8,8,8,8,8,8,8,8,8,8,8,8,8,8,8,8,8,8,8,8,8,8,8,8,8,8,8,8,8,8,8,8,8,8,8,8,8,8,8,8,8,8,8,8,8,8,8,8,8,8,8,8,8,8,8,8,8,8,8,8,8,8,8,8,8,8,8,8,8,8,8,8,8,8,8,8,8,8,8,8,8,8,8,8,8,8,8,8,8,8,8,8,8,8,8,8,8,8,8,8,8,8,8,8,8,8,8,8,8,8,8,8,8,8,8,8,8,8,8,8]:List UInt8).getD n 0).toNat:Nat):Int))) rfl) (tm':=_::_::_::_) rfl <| xak ?_
 refine xdv Tryd.func124 rfl (vs:=[.int .i64 (0+(((([0,1,2,2,3,3,3,3,4,4,4,4,4,4,4,4,5,5,5,5,5,5,5,5,5,5,5,5,5,5,5,5,6,6,6,6,6,6,6,6,6,6,6,6,6,6,6,6,6,6,6,6,6,6,6,6,6,6,6,6,6,6,6,6,7,7,7,7,7,7,7,7,7,7,7,7,7,7,7,7,7,7,7,7,7,7,7,7,7,7,7,7,7,7,7,7,7,7,7,7,7,7,7,7,7,7,7,7,7,7,7,7,7,7,7,7,7,7,7,7,7,7,7,7,7,7,7,7,8,8,8,8,8,8,8,8,8,8,8,8,8,8,8,8,8,8,8,8,8,8,8,8,8,8,8,8,8,8,8,8,8,8,8,8,8,8,8,8,8,8,8,8,8,8,8,8,8,8,8,8,8,8,8,8,8,8,8,8,8,8,8,8,8,8,8,8,8,8,8,8,8,8,8,8,8,8,8,8,8,8,8,8,8,8,8,8,8,8,8,8,8,8,8,8,8,8,8,8,8,8,8,8,8,8,8,8,8,8,8,8,8,8,8,8,8,8,8,8,8,8,8,8,8,8,8,8]:List UInt8).getD n 0).toNat:Nat):Int))]) (fun h_ H_=>⟨.int .i64 (0+(((([0,1,2,2,3,3,3,3,4,4,4,4,4,4,4,4,5,5,5,5,5,5,5,5,5,5,5,5,5,5,5,5,6,6,6,6,6,6,6,6,6,6,6,6,6,6,6,6,6,6,6,6,6,6,6,6,6,6,6,6,6,6,6,6,7,7,7,7,7,7,7,7,7,7,7,7,7,7,7,7,7,7,7,7,7,7,7,7,7,7,7,7,7,7,7,7,7,7,7,7,7,7,7,7,7,7,7,7,7,7,7,7,7,7,7,7,7,7,7,7,7,7,7,7,7,7,7,7,8,8,8,8,8,8,8,8,8,8,8,8,8,8,8,8,8,8,8,8,8,8,8,8,8,8,8,8,8,8,8,8,8,8,8,8,8,8,8,8,8,8,8,8,8,8,8,8,8,8,8,8,8,8,8,8,8,8,8,8,8,8,8,8,8,8,8,8,8,8,8,8,8,8,8,8,8,8,8,8,8,8,8,8,8,8,8,8,8,8,8,8,8,8,8,8,8,8,8,8,8,8,8,8,8,8,8,8,8,8,8,8,8,8,8,8,8,8,8,8,8,8,8,8,8,8,8,8]:List UInt8).getD n 0).toNat:Nat):Int)),_,rfl,rfl,rfl⟩) (v:=.int .i64 (0+(((([0,1,2,2,3,3,3,3,4,4,4,4,4,4,4,4,5,5,5,5,5,5,5,5,5,5,5,5,5,5,5,5,6,6,6,6,6,6,6,6,6,6,6,6,6,6,6,6,6,6,6,6,6,6,6,6,6,6,6,6,6,6,6,6,7,7,7,7,7,7,7,7,7,7,7,7,7,7,7,7,7,7,7,7,7,7,7,7,7,7,7,7,7,7,7,7,7,7,7,7,7,7,7,7,7,7,7,7,7,7,7,7,7,7,7,7,7,7,7,7,7,7,7,7,7,7,7,7,8,8,8,8,8,8,8,8,8,8,8,8,8,8,8,8,8,8,8,8,8,8,8,8,8,8,8,8,8,8,8,8,8,8,8,8,8,8,8,8,8,8,8,8,8,8,8,8,8,8,8,8,8,8,8,8,8,8,8,8,8,8,8,8,8,8,8,8,8,8,8,8,8,8,8,8,8,8,8,8,8,8,8,8,8,8,8,8,8,8,8,8,8,8,8,8,8,8,8,8,8,8,8,8,8,8,8,8,8,8,8,8,8,8,8,8,8,8,8,8,8,8,8,8,8,8,8,8]:List UInt8).getD n 0).toNat:Nat):Int))) rfl ?_
 exact fun h_ H_=>K _ _ ⟨_,rfl,H_.new⟩
theorem c112 (md:Md) (h:Heap) (n:Nat) (hn:n≤12):CallsX Tryd.prog md 112 #[.int .u64 (((n:Nat):Int))] h fun v h'=>∃ k:Int,v= .int .i64 k∧New h h' []:=by
 refine xcx (Φ:=fun h_=>St h [] (fun _=>none) h_ []) Tryd.func112 rfl (tm:=zq8 []) rfl ?_ (St.start h _ (fun _ _ e=>by cases e))
 intro c₀ cs Stop K
 refine fsr <| ro (xax (v:=.int .i64 0) rfl) <| ren <| xck rfl rfl <| xcv <| fsr ?_
 refine ro (xaq (v:=.int .u64 (((n:Nat):Int))) rfl) ?_
 refine xcq (L':=([]:Pcs)++[]) rfl ?_
 refine xiw mn (first:=[]) (cap:=[]) rfl rfl fC124 (R:=fun v_ h_=>∃ n1:Int,v_= .int .i64 (n1)∧St h [] (fun _=>none) h_ (([]:Pcs)++([]++[]))) (fun h_ H_=>(c124 md _ n (by omega)).mono fun v_ h2_ ⟨n1,e_,N_⟩=>⟨n1,e_,H_.callNA N_⟩) fun v_=>?_
 refine xgz fun n1=>xfq fun ev_=>  ?_
 have ev_:=ev_.symm;subst ev_
 refine xcq (L':=[]) (by simp) ?_
 refine xfj (tm':=zq8 []) rfl ?_
 refine ro (xax (v:=.int .i64 (n1)) rfl) <| xak ?_
 refine xdv Tryd.func112 rfl (vs:=[.int .i64 (n1)]) (fun h_ H_=>⟨.int .i64 (n1),_,rfl,rfl,rfl⟩) (v:=.int .i64 (n1)) rfl ?_
 exact fun h_ H_=>K _ _ ⟨_,rfl,H_.new⟩
theorem c103 (md:Md) (h h₀:Heap) (B₀:List Nat) (p:PHeap) (w:Value) (xs:List Int) (X₀ C₀:Pcs) (o₀:OwnS 3 1 w (ics xs) X₀) (n:Nat) (hn:n=xs.length∧n≤12) (fv:Value) (hf: ∀ x y h,CallV Tryd.prog md fv [.int .i64 x,.int .i64 y] h fun v h'=>v= .int .i64 (cmpI y x)∧Keep h h') (s₀:St h₀ B₀ p h (([]:Pcs)++(X₀++(C₀++[])))):CallsX Tryd.prog md 103 #[w,fv] h fun _ h'=>∃ X',OwnS 3 1 w (ics (srt xs)) X'∧St h₀ B₀ p h' (X'++(C₀++[])):=by
 refine xcx (Φ:=fun h_=>St h₀ B₀ p h_ (([]:Pcs)++(X₀++(C₀++[])))) Tryd.func103 rfl (tm:=zq2 (zq4 (zq8 []))) rfl ?_ s₀
 intro c₀ cs Stop K
 refine fsr <| ro (xaq (v:=w) rfl) <| rt (xzv o₀ (xcw _) Tryd.underlying22 rfl) (tm':=zq1 (zq2 (zq4 _))) rfl <| ro (xax (v:=.int .i64 (((xs.length:Nat):Int))) rfl) <| xak <| xbq ?_
 refine ro (xaq (v:=w) rfl) <| rt (xaq (v:=.int .i64 (((xs.length:Nat):Int))) rfl) (tm':=zq1 (zq8 _)) rfl <| ro (xaq (v:=.int .i64 (((xs.length:Nat):Int))) rfl) ?_
 refine ro (ynj ⟨_,Tryd.underlying3⟩ Tryd.underlying78 rfl (n:=((xs.length:Nat):Int)) (wrU (by omega))) ?_
 refine xiw mn (first:=[]) (cap:=[]) rfl rfl fC112 (R:=fun v_ h_=>∃ n1:Int,v_= .int .i64 (n1)∧St h₀ B₀ p h_ (([]:Pcs)++([]++(X₀++(C₀++[]))))) (fun h_ H_=>(c112 md _ xs.length (by omega)).mono fun v_ h2_ ⟨n1,e_,N_⟩=>⟨n1,e_,H_.callNA N_⟩) fun v_=>?_
 refine xgz fun n1=>xfq fun ev_=>  ?_
 have ev_:=ev_.symm;subst ev_
 refine xcq (L':=([]:Pcs)++(X₀++(C₀++[]))) (by simp) ?_
 refine xfj (tm':=zq2 (zq4 (zq8 []))) rfl ?_
 refine ro (xaq (v:=fv) rfl) ?_
 refine xiw mn (first:=[]) (cap:=[]) rfl rfl fC111 (R:=fun _ h_=>∃ X2:Pcs,OwnS 3 1 w (ics (srt xs)) X2∧St h₀ B₀ p h_ (([]:Pcs)++(X2++(C₀++[])))) (fun h_ H_=>(c111 md _ _ _ _ w xs _ _ o₀ xs.length (⟨rfl,by omega⟩) (n1) trivial fv hf (H_.lentTo)).mono fun v_ h2_ ⟨X_,o_,N_⟩=>⟨X_,o_,N_.lentBack⟩) fun v4=>?_
 refine xgz fun X2=>xfq fun o3=>?_
 refine xak ?_
 refine zlw Tryd.func103 rfl (vs:=[]) (fun h_ H_=>rfl) (v:=.tuple #[]) rfl ?_
 exact fun h_ H_=>K _ _ ⟨_,o3,by simpa using H_⟩
theorem c91 (md:Md) (h h₀:Heap) (B₀:List Nat) (p:PHeap) (w:Value) (xs:List Int) (X₀ C₀:Pcs) (o₀:OwnS 3 1 w (ics xs) X₀) (n:Nat) (hn:n=xs.length∧n≤12) (s₀:St h₀ B₀ p h (([]:Pcs)++(X₀++(C₀++[])))):CallsX Tryd.prog md 91 #[w] h fun v_ h'=>∃ X',v_=w∧OwnS 3 1 w (ics (srt xs)) X'∧St h₀ B₀ p h' (X'++(C₀++[])):=by
 refine xcx (Φ:=fun h_=>St h₀ B₀ p h_ (([]:Pcs)++(X₀++(C₀++[])))) Tryd.func91 rfl (tm:=zq2 (zq4 [])) rfl ?_ s₀
 intro c₀ cs Stop K
 refine fsr <| rt (xax (v:=.slice none 0 0) rfl) (tm':=_::_::_::_) rfl <| ren <| xbq <| ro (xaq (v:=w) rfl) ?_
 refine xiw mn (first:=[]) (cap:=[]) rfl rfl fC103 (R:=fun _ h_=>∃ X1:Pcs,OwnS 3 1 w (ics (srt xs)) X1∧St h₀ B₀ p h_ (([]:Pcs)++(X1++(C₀++[])))) (fun h_ H_=>(c103 md _ _ _ _ w xs _ _ o₀ (xs.length) (⟨rfl,by omega⟩) (.func (.func 104) #[] #[]) (fun _ _ _=>yiq fC104 (c104 md _ _ _)) (H_.lentTo)).mono fun v_ h2_ ⟨X_,o_,N_⟩=>⟨X_,o_,N_.lentBack⟩) fun v3=>?_
 refine xgz fun X1=>xfq fun o2=>?_
 refine ren <| xbq <| rt (xaq (v:=w) rfl) (tm':=zq2 (zq4 [])) rfl <| ro (xax (v:=w) rfl) <| xak ?_
 refine xdv Tryd.func91 rfl (vs:=[w]) (fun h_ H_=>⟨w,_,rfl,rfl,rfl⟩) (v:=w) rfl ?_
 exact fun h_ H_=>K _ _ ⟨_,rfl,o2,by simpa using H_⟩
end Go.Proofs.YtalfgojocdonhaaDoor
namespace Go.Proofs.YtalfgojocdonhaaDoor
open Go.X Go.X.Flow Go.Conc
set_option maxRecDepth 10000
set_option synthInstance.maxSize 2000

set_option maxHeartbeats 4000000
theorem zhw (md:Md) (h:Heap) {z:Int} {x:Nat} (e:z=x) (hx:x≤10):CallsX Tryd.prog md 114 #[.int .i64 z] h fun v h'=>v= .int .i64 (dear x)∧Keep h h':=by subst e;exact c114 md h x hx
theorem vhk {t:Tn} {d:List Int} (O:OkT t) (Dv:Div t d) {i:Nat} (hi:i<t.m):0≤dv d i∧dv d i≤9:=by
 have h1:=O.y i hi
 have h2:dv d i≤draw t d (t.wh i):=by
  have:=zpj (f:=fun k=>if t.wh k=t.wh i then dv d k else 0) (k:=t.m) (fun k hk=>by have:=Dv.pos k hk;split <;> omega) hi
  simpa [draw] using this
 have h3:=Dv.hs _ h1.1;have h4:=O.h _ h1.1;have h5:=Dv.pos i hi
 omega
theorem wgv {t:Tn} {d:List Int} (O:OkT t) (Dv:Div t d) {h:Nat} (hh:h<t.nH):0≤lack t d h∧lack t d h≤9:=by
 have h1:=Dv.hs h hh;have h2:=O.h h hh;have h3:=xtw Dv h
 unfold lack;omega
theorem wgz (md:Md) {h:Heap} {p:PHeap} (hp:Per p h) {a1 a2 a3:Option Addr} {c1 c2 c3:Nat} {t:Tn} (T:TownP p a1 t.nH a2 t.nW a3 t.m t) (O:OkT t) {b:Option Addr} {cb:Nat} {d:List Int} (D:Ints p b t.m d) (Dv:Div t d):
  CallsX Tryd.prog md 67 #[.agg #[.slice a1 t.nH c1,.slice a2 t.nW c2,.slice a3 t.m c3],.slice b t.m cb] h fun v h'=>∃ w1 w2 X1 X2,v= .tuple #[w1,w2]∧OwnS 3 1 w1 (ics (lackL t d)) X1∧OwnS 3 1 w2 (ics (hasL t d)) X2∧New h h' (X2++(X1++[])):=by
 have o1:=O.nh;have o2:=O.nw;have o3:=O.nm
 refine c67 md h p hp a1 _ c1 a2 _ c2 a3 _ c3 t T ⟨by omega,by omega,by omega⟩ b t.m cb d D ⟨Nat.le_refl _,o3⟩ (fun i hi=>by have:=vhk O Dv hi;omega) (fun i hi=>?_) (fun i hi=>?_) (fun i hi=>?_)
 ·
  have:=O.h i hi;unfold Tn.hv at this;omega
 ·
  have:=O.w i hi;unfold Tn.wv at this;omega
 ·
  have h1:=O.y i hi;have h2:=O.yp i hi;unfold Tn.wh Tn.ww at h1;exact ⟨⟨h2.1,h1.1⟩,h2.2,h1.2⟩
theorem c113 (md:Md) (h:Heap) (p:PHeap) (hp:Per p h) (P:Prop) [Decidable P] (v1 v2 v3 v4 v5 v7:Value) (s:Int) (bB bt:Nat) (hB:p bB=some (.cells #[.pointer (some ⟨bt,0,none⟩)] 92 (0,0))) (hb:p bt=some (.cells #[v1,v2,v3,v4,v5,.int .i64 s,v7] 94 (0,0))):CallsX Tryd.prog md 113 #[.bool (decide (P)),.pointer (some ⟨bB,0,none⟩)] h fun v h'=>v= .int .i64 (if P then s else 0)∧Keep h h':=by
 refine xcx (Φ:=fun h_=>St h [] p h_ []) Tryd.func113 rfl (tm:=zq2 (zq8 [])) rfl ?_ (St.start h _ hp)
 intro c₀ cs Stop K
 refine fsr <| ro (xax (v:=.int .i64 0) rfl) <| ren <| fsr <| ro (xaq (v:=.bool (decide (P))) rfl) <| xak ?_
 by_cases cc1:P
 ·
  refine xdx rfl (dtt cc1) <| fsr ?_
  refine xbx mn (fun h_ H_=>xbj H_ tA92 rfl (v:=.pointer (some ⟨bt,0,none⟩)) (xjx hB rfl)) (tm':=zq2 (zq4 _)) rfl ?_
  refine ro (xhx rfl) <| ro (xaz ykw rfl (a':=⟨bt,3,none⟩) rfl) <| rt (xaz vdw rfl (a':=⟨bt,5,none⟩) rfl) (tm':=zq2 (zq8 [])) rfl <| rd (fun h_ H_=>xbj H_ tA3 rfl (v:=.int .i64 (s)) (xjx hb rfl)) <| ro (xax (v:=.int .i64 (s)) rfl) <| xak ?_
  refine xdv Tryd.func113 rfl (vs:=[.int .i64 (s)]) (fun h_ H_=>⟨.int .i64 (s),_,rfl,rfl,rfl⟩) (v:=.int .i64 (s)) rfl ?_
  exact fun h_ H_=>K _ _ ⟨by rw [if_pos ‹_›],H_.kept⟩
 ·
  refine xck rfl (dff cc1) <| xcv <| fsr <| rt (xax (v:=.int .i64 0) rfl) (tm':=zq4 _) rfl <| xak ?_
  refine xdv Tryd.func113 rfl (vs:=[.int .i64 0]) (fun h_ H_=>⟨.int .i64 0,_,rfl,rfl,rfl⟩) (v:=.int .i64 0) rfl ?_
  exact fun h_ H_=>K _ _ ⟨by rw [if_neg ‹_›],H_.kept⟩
theorem c106 (md:Md) (h h₀:Heap) (B₀:List Nat) (p:PHeap) (a1 a2 a3:Option Addr) (c1 c2 c3:Nat) (t:Tn) (T:TownP p a1 t.nH a2 t.nW a3 t.m t) (O:OkT t) (wi:Wi) (b:Option Addr) (cb:Nat) (d:List Int) (D:Ints p b t.m d) (Dv:Div t d) (S:Sg wi) (bt:Nat) (hb:p bt=some (.cells #[.slice a1 t.nH c1,.slice a2 t.nW c2,.slice a3 t.m c3,.int .i64 (wi.house),.int .i64 (wi.well),.int .i64 (wi.sign),.slice b t.m cb] 94 (0,0))) (yv:Value) (X₀:Pcs) (I:List Go.X.Bf.Arc→Pcs→Prop) (E:List Go.X.Bf.Arc) (hE:arcsL t wi d=E) (hI0:I [] X₀)
  (hy: ∀ out x h A X,out++[x] <+: arcsL t wi d→I out X→St h₀ B₀ p h (A++(X++[]))→CallV Tryd.prog md yv [arcV x] h fun v h'=>∃ X',v= .bool true∧I (out++[x]) X'∧St h₀ B₀ p h' (A++(X'++[]))) (s₀:St h₀ B₀ p h (([]:Pcs)++(X₀++[]))):CallsX Tryd.prog md 106 #[.pointer (some ⟨bt,0,none⟩),yv] h fun _ h'=>∃ X',I E X'∧St h₀ B₀ p h' X':=by
 refine xcx (Φ:=fun h_=>St h₀ B₀ p h_ (([]:Pcs)++(X₀++[]))) Tryd.func106 rfl (tm:=zq2 (zq4 (zq8 (zq16 (zq32 (zq32 (zq32 (zq32 (zq32 (zq32 [])))))))))) rfl ?_ s₀
 intro c₀ cs Stop K
 have oH:=O.nh
 have oW:=O.nw
 have oM:=O.nm
 refine fsr ?_
 refine xij mn (v:=.pointer (some ⟨bt,0,none⟩)) rfl fun b1=>xcq (L':=([(b1,.cells #[.pointer (some ⟨bt,0,none⟩)] 92 (0,0))]:Pcs)++(X₀++[])) rfl ?_
 refine ren ?_
 obtain ⟨Gw10,Gw11,GX12,GX13,hG8_⟩:=sk4 (fun (v_:Value) (x_:Pcs) (w10:Value) (w11:Value) (X12:Pcs) (X13:Pcs)=>v_= .tuple #[w10,w11]∧(OwnS 3 1 w10 (ics (lackL t d)) X12)∧(OwnS 3 1 w11 (ics (hasL t d)) X13)∧x_=(X13++(X12++[])))
 refine xxv (xlx (C:=[]) (A:=([(b1,.cells #[.pointer (some ⟨bt,0,none⟩)] 92 (0,0))]:Pcs)) 13 [[],[],[],[],[],[],[],[],[],[8],[],[],[],[]] [13] [13,8] [0,1,2,3,4,5,6,7,9,10,11,12] (fun i_=>match i_ with | 13=>X₀ | _=>[]) (fun _=>[]) (fun i_=>match i_ with | 0=>[] | 1=>[0] | 2=>[1] | 3=>[2] | 4=>[] | 5=>[4] | 6=>[5] | 7=>[6] | 8=>[3,7] | 9=>[8] | 10=>[8,9] | 11=>[8,9] | 12=>[0,1,2,3,4,5,6,7,8,9,10] | _=>[]) (fun i_ val_ pc_ v_ x_=>match i_ with | 0=>v_= .pointer (some ⟨bt,0,none⟩)∧x_=[] | 1=>v_= .pointer (some ⟨bt,0,none⟩)∧x_=[] | 2=>v_= .pointer (some ⟨bt,0,none⟩)∧x_=[] | 3=>v_= .agg #[.slice a1 t.nH c1,.slice a2 t.nW c2,.slice a3 t.m c3]∧x_=[] | 4=>v_= .pointer (some ⟨bt,0,none⟩)∧x_=[] | 5=>v_= .pointer (some ⟨bt,0,none⟩)∧x_=[] | 6=>v_= .pointer (some ⟨bt,6,none⟩)∧x_=[] | 7=>v_= .slice b t.m cb∧x_=[] | 8=>∃ w10:Value,∃ w11:Value,∃ X12:Pcs,∃ X13:Pcs,v_= .tuple #[w10,w11]∧(OwnS 3 1 w10 (ics (lackL t d)) X12)∧(OwnS 3 1 w11 (ics (hasL t d)) X13)∧x_=(X13++(X12++[])) | 9=>v_= .tuple #[(Gw10 (val_ 8) (pc_ 8)),(Gw11 (val_ 8) (pc_ 8))]∧x_=[] | 10=>v_=(Gw10 (val_ 8) (pc_ 8))∧x_=[] | 11=>v_=(Gw11 (val_ 8) (pc_ 8))∧x_=[] | 12=>v_=(Gw10 (val_ 8) (pc_ 8))∧x_=[] | _=>True) (fun val8=>(.pointer (some ⟨bt,0,none⟩)::yv::.pointer (some ⟨b1,0,none⟩)::undef::(val8 12)::undef::undef::undef::zu8 ((val8 9)::(val8 0)::(val8 1)::(val8 2)::(val8 3)::(val8 4)::(val8 5)::(val8 6)::(val8 7)::(val8 8)::(val8 10)::(val8 11)::undef::undef::zu16 (zu16 (zu16 (zu16 (zu16 (zu16 (zu16 (zu16 (zu16 (zu16 (zu16 (zu16 [])))))))))))))) xkk (by kernel_rfl) (Nat.le_of_ble_eq_true rfl) (by kernel_rfl) (by kernel_rfl) (by kernel_rfl) (fun _ _=>⟨fun _ _ h=>h.2,⟨fun _ _ h=>h.2,⟨fun _ _ h=>h.2,⟨fun _ _ h=>h.2,⟨fun _ _ h=>h.2,⟨fun _ _ h=>h.2,⟨fun _ _ h=>h.2,⟨fun _ _ h=>h.2,⟨fun _ _ h=>h.2,⟨fun _ _ h=>h.2,⟨fun _ _ h=>h.2,⟨fun _ _ h=>h.2,trivial⟩⟩⟩⟩⟩⟩⟩⟩⟩⟩⟩⟩) (fun _=>by kernel_rfl) (by kernel_rfl) ?_ ?_) (fun h_ H_=>St.swap (A:=([(b1,.cells #[.pointer (some ⟨bt,0,none⟩)] 92 (0,0))]:Pcs)) (U:=(X₀++[])) H_)
 ·
  refine xaw rfl (xdk ?_) ?_
  ·
   intro val8 pc9 hQ_ hX_
   obtain ⟨q_,hq0_⟩: ∃ q_:Value→Pcs→Prop,q_=(fun v_ x_=>v_= .pointer (some ⟨bt,0,none⟩)∧x_=[]):=⟨_,rfl⟩
   refine ⟨(zq2 (zq4 (zq8 (zq16 (zq32 (zq32 (zq32 (zq32 (zq32 (zq32 [])))))))))),[],q_,rfl,rfl,(fun _ _ z_=>by subst hq0_;exact z_),?_⟩
   subst hq0_
   exact xdw mn (fun _ h_ H_=>xaj H_ tA92 rfl (i:=0) rfl (v:=.pointer (some ⟨bt,0,none⟩)) rfl) ⟨rfl,rfl⟩
  refine xaw rfl (xdk ?_) ?_
  ·
   intro val8 pc9 hQ_ hX_
   have e0_:val8 0= .pointer (some ⟨bt,0,none⟩):=(hQ_ 0 rfl).1
   obtain ⟨q_,hq0_⟩: ∃ q_:Value→Pcs→Prop,q_=(fun v_ x_=>v_= .pointer (some ⟨bt,0,none⟩)∧x_=[]):=⟨_,rfl⟩
   refine ⟨(zq2 (zq4 (zq8 (zq16 (zq32 (zq32 (zq32 (zq32 (zq32 (zq32 [])))))))))),[],q_,(by rw [e0_]),rfl,(fun _ _ z_=>by subst hq0_;exact z_),?_⟩
   subst hq0_
   exact xdw mn (fun _ h_ H_=>xhx rfl) ⟨rfl,rfl⟩
  refine xaw rfl (xdk ?_) ?_
  ·
   intro val8 pc9 hQ_ hX_
   have e1_:val8 1= .pointer (some ⟨bt,0,none⟩):=(hQ_ 1 rfl).1
   obtain ⟨q_,hq0_⟩: ∃ q_:Value→Pcs→Prop,q_=(fun v_ x_=>v_= .pointer (some ⟨bt,0,none⟩)∧x_=[]):=⟨_,rfl⟩
   refine ⟨(zq2 (zq4 (zq8 (zq16 (zq32 (zq32 (zq32 (zq32 (zq32 (zq32 [])))))))))),[],q_,(by rw [e1_]),rfl,(fun _ _ z_=>by subst hq0_;exact z_),?_⟩
   subst hq0_
   exact xdw mn (fun _ h_ H_=>xaz yaj rfl (a':=⟨bt,0,none⟩) rfl) ⟨rfl,rfl⟩
  refine xaw rfl (xdk ?_) ?_
  ·
   intro val8 pc9 hQ_ hX_
   have e2_:val8 2= .pointer (some ⟨bt,0,none⟩):=(hQ_ 2 rfl).1
   obtain ⟨q_,hq0_⟩: ∃ q_:Value→Pcs→Prop,q_=(fun v_ x_=>v_= .agg #[.slice a1 t.nH c1,.slice a2 t.nW c2,.slice a3 t.m c3]∧x_=[]):=⟨_,rfl⟩
   refine ⟨(zq2 (zq4 (zq8 (zq16 (zq32 (zq32 (zq32 (zq32 (zq32 (zq32 [])))))))))),[],q_,(by rw [e2_]),rfl,(fun _ _ z_=>by subst hq0_;exact z_),?_⟩
   subst hq0_
   exact xdw mn (fun _ h_ H_=>xgw H_ tA25 tS25 rfl (vs:=[.slice a1 t.nH c1,.slice a2 t.nW c2,.slice a3 t.m c3]) rfl (xvz (n:=3) hb rfl)) ⟨rfl,rfl⟩
  refine xaw rfl (xdk ?_) ?_
  ·
   intro val8 pc9 hQ_ hX_
   obtain ⟨q_,hq0_⟩: ∃ q_:Value→Pcs→Prop,q_=(fun v_ x_=>v_= .pointer (some ⟨bt,0,none⟩)∧x_=[]):=⟨_,rfl⟩
   refine ⟨(zq2 (zq4 (zq8 (zq16 (zq32 (zq32 (zq32 (zq32 (zq32 (zq32 [])))))))))),[],q_,rfl,rfl,(fun _ _ z_=>by subst hq0_;exact z_),?_⟩
   subst hq0_
   exact xdw mn (fun _ h_ H_=>xaj H_ tA92 rfl (i:=0) rfl (v:=.pointer (some ⟨bt,0,none⟩)) rfl) ⟨rfl,rfl⟩
  refine xaw rfl (xdk ?_) ?_
  ·
   intro val8 pc9 hQ_ hX_
   have e4_:val8 4= .pointer (some ⟨bt,0,none⟩):=(hQ_ 4 rfl).1
   obtain ⟨q_,hq0_⟩: ∃ q_:Value→Pcs→Prop,q_=(fun v_ x_=>v_= .pointer (some ⟨bt,0,none⟩)∧x_=[]):=⟨_,rfl⟩
   refine ⟨(zq2 (zq4 (zq8 (zq16 (zq32 (zq32 (zq32 (zq32 (zq32 (zq32 [])))))))))),[],q_,(by rw [e4_]),rfl,(fun _ _ z_=>by subst hq0_;exact z_),?_⟩
   subst hq0_
   exact xdw mn (fun _ h_ H_=>xhx rfl) ⟨rfl,rfl⟩
  refine xaw rfl (xdk ?_) ?_
  ·
   intro val8 pc9 hQ_ hX_
   have e5_:val8 5= .pointer (some ⟨bt,0,none⟩):=(hQ_ 5 rfl).1
   obtain ⟨q_,hq0_⟩: ∃ q_:Value→Pcs→Prop,q_=(fun v_ x_=>v_= .pointer (some ⟨bt,6,none⟩)∧x_=[]):=⟨_,rfl⟩
   refine ⟨(zq2 (zq4 (zq8 (zq16 (zq32 (zq32 (zq32 (zq32 (zq32 (zq32 [])))))))))),[],q_,(by rw [e5_]),rfl,(fun _ _ z_=>by subst hq0_;exact z_),?_⟩
   subst hq0_
   exact xdw mn (fun _ h_ H_=>xaz zok rfl (a':=⟨bt,6,none⟩) rfl) ⟨rfl,rfl⟩
  refine xaw rfl (xdk ?_) ?_
  ·
   intro val8 pc9 hQ_ hX_
   have e6_:val8 6= .pointer (some ⟨bt,6,none⟩):=(hQ_ 6 rfl).1
   obtain ⟨q_,hq0_⟩: ∃ q_:Value→Pcs→Prop,q_=(fun v_ x_=>v_= .slice b t.m cb∧x_=[]):=⟨_,rfl⟩
   refine ⟨(zq2 (zq4 (zq8 (zq16 (zq32 (zq32 (zq32 (zq32 (zq32 (zq32 [])))))))))),[],q_,(by rw [e6_]),rfl,(fun _ _ z_=>by subst hq0_;exact z_),?_⟩
   subst hq0_
   exact xdw mn (fun _ h_ H_=>xbj H_ tA22 rfl (v:=.slice b t.m cb) (xjx hb rfl)) ⟨rfl,rfl⟩
  refine xaw rfl (xdk ?_) ?_
  ·
   intro val8 pc9 hQ_ hX_
   have e3_:val8 3= .agg #[.slice a1 t.nH c1,.slice a2 t.nW c2,.slice a3 t.m c3]:=(hQ_ 3 rfl).1
   have e7_:val8 7= .slice b t.m cb:=(hQ_ 7 rfl).1
   obtain ⟨q_,hq0_⟩: ∃ q_:Value→Pcs→Prop,q_=(fun v_ x_=>∃ w10:Value,∃ w11:Value,∃ X12:Pcs,∃ X13:Pcs,v_= .tuple #[w10,w11]∧(OwnS 3 1 w10 (ics (lackL t d)) X12)∧(OwnS 3 1 w11 (ics (hasL t d)) X13)∧x_=(X13++(X12++[]))):=⟨_,rfl⟩
   refine ⟨(zq2 (zq4 (zq8 (zq16 (zq32 (zq32 (zq32 (zq32 (zq32 (zq32 [])))))))))),[],q_,(by rw [e3_,e7_]),rfl,(fun _ _ z_=>by subst hq0_;exact z_),?_⟩
   subst hq0_
   exact xok mn (first:=[]) (cap:=[]) rfl rfl fC67 (fun _ h_ H_=>(wgz md H_.pe (show TownP _ _ _ _ _ _ _ t from ⟨T.h,T.w,T.y⟩) O D Dv).mono fun v_ h2_ ⟨w10,w11,X12,X13,e_,o14,o15,N_⟩=>⟨_,⟨w10,w11,X12,X13,e_,o14,o15,rfl⟩,H_.callN N_⟩)
  refine xaw rfl (xdk ?_) ?_
  ·
   intro val8 pc9 hQ_ hX_
   obtain ⟨e8_,o14,o15,x8_⟩:=hG8_ _ _ (hQ_ 8 rfl)
   generalize hg_w10:Gw10 (val8 8) (pc9 8)=w10 at*
   generalize hg_w11:Gw11 (val8 8) (pc9 8)=w11 at*
   generalize hg_X12:GX12 (val8 8) (pc9 8)=X12 at*
   generalize hg_X13:GX13 (val8 8) (pc9 8)=X13 at*
   obtain ⟨q_,hq0_⟩: ∃ q_:Value→Pcs→Prop,q_=(fun v_ x_=>v_= .tuple #[w10,w11]∧x_=[]):=⟨_,rfl⟩
   refine ⟨(zq2 (zq4 (zq8 (zq16 (zq32 (zq32 (zq32 (zq32 (zq32 (zq32 [])))))))))),[],q_,(by rw [e8_]),rfl,(fun _ _ z_=>by subst hq0_ hg_w10 hg_w11 hg_X12 hg_X13;exact z_),?_⟩
   subst hq0_
   exact xdw mn (fun _ h_ H_=>xaq (v:=.tuple #[w10,w11]) rfl) ⟨rfl,rfl⟩
  refine xaw rfl (xdk ?_) ?_
  ·
   intro val8 pc9 hQ_ hX_
   obtain ⟨e8_,o14,o15,x8_⟩:=hG8_ _ _ (hQ_ 8 rfl)
   have e9_:val8 9= .tuple #[(Gw10 (val8 8) (pc9 8)),(Gw11 (val8 8) (pc9 8))]:=(hQ_ 9 rfl).1
   generalize hg_w10:Gw10 (val8 8) (pc9 8)=w10 at*
   generalize hg_w11:Gw11 (val8 8) (pc9 8)=w11 at*
   generalize hg_X12:GX12 (val8 8) (pc9 8)=X12 at*
   generalize hg_X13:GX13 (val8 8) (pc9 8)=X13 at*
   obtain ⟨q_,hq0_⟩: ∃ q_:Value→Pcs→Prop,q_=(fun v_ x_=>v_=w10∧x_=[]):=⟨_,rfl⟩
   refine ⟨(zq2 (zq4 (zq8 (zq16 (zq32 (zq32 (zq32 (zq32 (zq32 (zq32 [])))))))))),[],q_,(by rw [e8_,e9_]),rfl,(fun _ _ z_=>by subst hq0_ hg_w10 hg_w11 hg_X12 hg_X13;exact z_),?_⟩
   subst hq0_
   exact xdw mn (fun _ h_ H_=>xev rfl (v:=w10) rfl) ⟨rfl,rfl⟩
  refine xaw rfl (xdk ?_) ?_
  ·
   intro val8 pc9 hQ_ hX_
   obtain ⟨e8_,o14,o15,x8_⟩:=hG8_ _ _ (hQ_ 8 rfl)
   have e9_:val8 9= .tuple #[(Gw10 (val8 8) (pc9 8)),(Gw11 (val8 8) (pc9 8))]:=(hQ_ 9 rfl).1
   generalize hg_w10:Gw10 (val8 8) (pc9 8)=w10 at*
   generalize hg_w11:Gw11 (val8 8) (pc9 8)=w11 at*
   generalize hg_X12:GX12 (val8 8) (pc9 8)=X12 at*
   generalize hg_X13:GX13 (val8 8) (pc9 8)=X13 at*
   obtain ⟨q_,hq0_⟩: ∃ q_:Value→Pcs→Prop,q_=(fun v_ x_=>v_=w11∧x_=[]):=⟨_,rfl⟩
   refine ⟨(zq2 (zq4 (zq8 (zq16 (zq32 (zq32 (zq32 (zq32 (zq32 (zq32 [])))))))))),[],q_,(by rw [e8_,e9_]),rfl,(fun _ _ z_=>by subst hq0_ hg_w10 hg_w11 hg_X12 hg_X13;exact z_),?_⟩
   subst hq0_
   exact xdw mn (fun _ h_ H_=>xev rfl (v:=w11) rfl) ⟨rfl,rfl⟩
  refine xaw rfl (xdk ?_) ?_
  ·
   intro val8 pc9 hQ_ hX_
   have e0_:val8 0= .pointer (some ⟨bt,0,none⟩):=(hQ_ 0 rfl).1
   have e1_:val8 1= .pointer (some ⟨bt,0,none⟩):=(hQ_ 1 rfl).1
   have e2_:val8 2= .pointer (some ⟨bt,0,none⟩):=(hQ_ 2 rfl).1
   have e3_:val8 3= .agg #[.slice a1 t.nH c1,.slice a2 t.nW c2,.slice a3 t.m c3]:=(hQ_ 3 rfl).1
   have e4_:val8 4= .pointer (some ⟨bt,0,none⟩):=(hQ_ 4 rfl).1
   have e5_:val8 5= .pointer (some ⟨bt,0,none⟩):=(hQ_ 5 rfl).1
   have e6_:val8 6= .pointer (some ⟨bt,6,none⟩):=(hQ_ 6 rfl).1
   have e7_:val8 7= .slice b t.m cb:=(hQ_ 7 rfl).1
   obtain ⟨e8_,o14,o15,x8_⟩:=hG8_ _ _ (hQ_ 8 rfl)
   have e9_:val8 9= .tuple #[(Gw10 (val8 8) (pc9 8)),(Gw11 (val8 8) (pc9 8))]:=(hQ_ 9 rfl).1
   have e10_:val8 10=(Gw10 (val8 8) (pc9 8)):=(hQ_ 10 rfl).1
   generalize hg_w10:Gw10 (val8 8) (pc9 8)=w10 at*
   generalize hg_w11:Gw11 (val8 8) (pc9 8)=w11 at*
   generalize hg_X12:GX12 (val8 8) (pc9 8)=X12 at*
   generalize hg_X13:GX13 (val8 8) (pc9 8)=X13 at*
   obtain ⟨q_,hq0_⟩: ∃ q_:Value→Pcs→Prop,q_=(fun v_ x_=>v_=w10∧x_=[]):=⟨_,rfl⟩
   refine ⟨(zq2 (zq4 (zq8 (zq16 (zq32 (zq32 (zq32 (zq32 (zq32 (zq32 [])))))))))),[],q_,(by rw [e0_,e1_,e2_,e3_,e4_,e5_,e6_,e7_,e8_,e9_,e10_]),rfl,(fun _ _ z_=>by subst hq0_ hg_w10 hg_w11 hg_X12 hg_X13;exact z_),?_⟩
   subst hq0_
   exact xdw mn (fun _ h_ H_=>xax (v:=w10) rfl) ⟨rfl,rfl⟩
  exact xlq rfl
 intro val8 pc9 hQ_ hX_
 have e0_:val8 0= .pointer (some ⟨bt,0,none⟩):=(hQ_ 0 (by decide)).1
 have e1_:val8 1= .pointer (some ⟨bt,0,none⟩):=(hQ_ 1 (by decide)).1
 have e2_:val8 2= .pointer (some ⟨bt,0,none⟩):=(hQ_ 2 (by decide)).1
 have e3_:val8 3= .agg #[.slice a1 t.nH c1,.slice a2 t.nW c2,.slice a3 t.m c3]:=(hQ_ 3 (by decide)).1
 have e4_:val8 4= .pointer (some ⟨bt,0,none⟩):=(hQ_ 4 (by decide)).1
 have e5_:val8 5= .pointer (some ⟨bt,0,none⟩):=(hQ_ 5 (by decide)).1
 have e6_:val8 6= .pointer (some ⟨bt,6,none⟩):=(hQ_ 6 (by decide)).1
 have e7_:val8 7= .slice b t.m cb:=(hQ_ 7 (by decide)).1
 obtain ⟨e8_,o14,o15,x8_⟩:=hG8_ _ _ (hQ_ 8 (by decide))
 have e9_:val8 9= .tuple #[(Gw10 (val8 8) (pc9 8)),(Gw11 (val8 8) (pc9 8))]:=(hQ_ 9 (by decide)).1
 have e10_:val8 10=(Gw10 (val8 8) (pc9 8)):=(hQ_ 10 (by decide)).1
 have e11_:val8 11=(Gw11 (val8 8) (pc9 8)):=(hQ_ 11 (by decide)).1
 have e12_:val8 12=(Gw10 (val8 8) (pc9 8)):=(hQ_ 12 (by decide)).1
 have x13_:pc9 13=X₀:=hX_ 13 (by decide)
 clear hQ_ hX_
 generalize Gw10 (val8 8) (pc9 8)=w10 at*
 generalize Gw11 (val8 8) (pc9 8)=w11 at*
 generalize GX12 (val8 8) (pc9 8)=X12 at*
 generalize GX13 (val8 8) (pc9 8)=X13 at*
 refine xww (Φ:=fun h_=>St h₀ B₀ p h_ (([(b1,.cells #[.pointer (some ⟨bt,0,none⟩)] 92 (0,0))]:Pcs)++(pc9 13++(pc9 8++[])))) ?_ (fun h_ H_=>H_.swap')
 rw [x13_,x8_]
 refine xcq (L':=([(b1,.cells #[.pointer (some ⟨bt,0,none⟩)] 92 (0,0))]:Pcs)++(X₀++(X13++(X12++[])))) (by simp) ?_
 refine xfj (tm':=(zq2 (zq4 (zq8 (zq16 (zq32 (zq32 (zq32 (zq32 (zq32 (zq32 []))))))))))) (by rw [e0_,e1_,e2_,e3_,e4_,e5_,e6_,e7_,e8_,e9_,e10_,e11_,e12_]) ?_
 refine ro (xax (v:=w11) rfl) <| ren <| xbq <| rd (fun h_ H_=>xaj H_ tA92 rfl (i:=0) rfl (v:=.pointer (some ⟨bt,0,none⟩)) rfl) <| rt (xhx rfl) (tm':=zq2 (zq4 (zq8 (zq16 _)))) rfl <| ro (xaz yaj rfl (a':=⟨bt,0,none⟩) rfl) ?_
 refine ro (xaz xnk rfl (a':=⟨bt,1,none⟩) rfl) ?_
 refine xbx mn (fun h_ H_=>xbj H_ tA22 rfl (v:=.slice a2 t.nW c2) (xjx hb rfl)) (tm':=zq1 (zq32 _)) rfl ?_
 refine ro (xfz Tryd.underlying22 rfl) <| ro (xax (v:=.int .i64 (((t.nW:Nat):Int))) rfl) <| ren <| xbq <| rt (xaq (v:=.int .i64 (((t.nW:Nat):Int))) rfl) (tm':=zq1 (zq2 (zq32 _))) rfl <| rd (fun h_ H_=>xaj H_ tA92 rfl (i:=0) rfl (v:=.pointer (some ⟨bt,0,none⟩)) rfl) ?_
 refine ro (xhx rfl) <| rt (xaz yaj rfl (a':=⟨bt,0,none⟩) rfl) (tm':=zq2 (zq4 (zq32 _))) rfl <| ro (xaz xnx rfl (a':=⟨bt,0,none⟩) rfl) <| rd (fun h_ H_=>xbj H_ tA22 rfl (v:=.slice a1 t.nH c1) (xjx hb rfl)) <| rt (xfz Tryd.underlying22 rfl) (tm':=zq1 (zq8 (zq32 _))) rfl ?_
 refine ro (xek rfl rfl (n:=((t.nW+t.nH:Nat):Int)) (wr (by omega))) ?_
 refine ro (xax (v:=.int .i64 (((t.nW+t.nH:Nat):Int))) rfl) <| ren <| xbq <| rt (xaq (v:=.int .i64 (((t.nW+t.nH:Nat):Int))) rfl) (tm':=zq1 (zq2 (zq8 (zq32 _)))) rfl ?_
 refine ro (xek rfl rfl (n:=(((t.nW+t.nH)+1:Nat):Int)) (wr (by omega))) ?_
 refine ro (xax (v:=.int .i64 ((((t.nW+t.nH)+1:Nat):Int))) rfl) <| ren <| xbq <| rt (xuj (a:=[]) (b:=[.pointer (some ⟨b1,0,none⟩)]) rfl rfl) (tm':=zq1 (zq4 (zq8 (zq32 _)))) rfl <| ro (xax (v:=.func (.func 113) #[] #[.pointer (some ⟨b1,0,none⟩)]) rfl) <| ren ?_
 refine fsr <| ro (xaq (v:=w11) rfl) <| rt (xzv o15 ((xcw _).trans ymw) Tryd.underlying22 rfl) (tm':=zq1 (zq2 (zq4 (zq8 (zq32 _))))) rfl <| ro (xaq (v:=.int .i64 0) rfl) <| xak <| xdj ?_
 refine xhk (m₀:=t.nW-0) (fun m_ tm_ h_=>∃ (k:Nat) (X:Pcs),m_=t.nW-k∧(∃ y18:Nat→Value,tm_=(.pointer (some ⟨bt,0,none⟩)::yv::.pointer (some ⟨b1,0,none⟩)::undef::w10::w11::.int .i64 (((t.nW:Nat):Int))::.int .i64 (((t.nW+t.nH:Nat):Int))::.int .i64 ((((t.nW+t.nH)+1:Nat):Int))::(.func (.func 113) #[] #[.pointer (some ⟨b1,0,none⟩)])::(y18 10)::(y18 11)::zu4 (.tuple #[w10,w11]::.pointer (some ⟨bt,0,none⟩)::.pointer (some ⟨bt,0,none⟩)::.pointer (some ⟨bt,0,none⟩)::.agg #[.slice a1 t.nH c1,.slice a2 t.nW c2,.slice a3 t.m c3]::.pointer (some ⟨bt,0,none⟩)::.pointer (some ⟨bt,0,none⟩)::.pointer (some ⟨bt,6,none⟩)::.slice b t.m cb::.tuple #[w10,w11]::w10::w11::.pointer (some ⟨bt,0,none⟩)::.pointer (some ⟨bt,0,none⟩)::.pointer (some ⟨bt,0,none⟩)::.pointer (some ⟨bt,1,none⟩)::.slice a2 t.nW c2::.int .i64 (((t.nW:Nat):Int))::.int .i64 (((t.nW:Nat):Int))::.pointer (some ⟨bt,0,none⟩)::.pointer (some ⟨bt,0,none⟩)::.pointer (some ⟨bt,0,none⟩)::.pointer (some ⟨bt,0,none⟩)::.slice a1 t.nH c1::.int .i64 (((t.nH:Nat):Int))::.int .i64 (((t.nW+t.nH:Nat):Int))::.int .i64 (((t.nW+t.nH:Nat):Int))::.int .i64 ((((t.nW+t.nH)+1:Nat):Int))::(.func (.func 113) #[] #[.pointer (some ⟨b1,0,none⟩)])::w11::.int .i64 (((t.nW:Nat):Int))::.int .i64 (((k:Nat):Int))::(y18 48)::(y18 49)::(y18 50)::(y18 51)::(y18 52)::(y18 53)::(y18 54)::(y18 55)::(y18 56)::(y18 57)::(y18 58)::(y18 59)::(y18 60)::(y18 61)::(y18 62)::(y18 63)::(y18 64)::(y18 65)::(y18 66)::(y18 67)::(y18 68)::(y18 69)::(y18 70)::(y18 71)::(y18 72)::(y18 73)::(y18 74)::(y18 75)::(y18 76)::(y18 77)::(y18 78)::(y18 79)::(y18 80)::(y18 81)::(y18 82)::(y18 83)::(y18 84)::(y18 85)::(y18 86)::(y18 87)::(y18 88)::(y18 89)::(y18 90)::(y18 91)::(y18 92)::(y18 93)::(y18 94)::(y18 95)::(y18 96)::(y18 97)::(y18 98)::(y18 99)::(y18 100)::(y18 101)::zu8 (zu16 (zu16 (zu16 (zu16 (zu16 (zu16 (zu16 []))))))))))∧(k≤t.nW)∧(I (outW t wi d k) X)∧St h₀ B₀ p h_ (([(b1,.cells #[.pointer (some ⟨bt,0,none⟩)] 92 (0,0))]:Pcs)++(X++(X13++(X12++[]))))) (fun h_ H_=>⟨0,X₀,rfl,(y_of rfl),Nat.zero_le _,hI0,H_⟩) ?_
 intro m_ tm_ IH19
 refine xhq fun k=>xhq fun X=>xcz fun hm_=>xcz fun ht_=>xcz fun hkk=>xcz fun hI=>?_
 subst hm_;obtain ⟨y18,ht_⟩:=ht_;subst ht_
 refine fsr <| ro (xgj rfl rfl) <| ren ?_
 by_cases cc20:((k:Nat):Int)<((t.nW:Nat):Int)
 ·
  refine xdx rfl (dtt cc20) <| xcv <| xez <| xdj <| fsr <| rt (xaq (v:=.int .i64 (((k:Nat):Int))) rfl) (tm':=zq2 (zq16 (zq32 _))) rfl ?_
  refine ro (xix o15 Tryd.underlying22 tS3 rfl rfl (by rw [((xcw _).trans ymw)];first | omega | (simp only [List.length_set];omega))) ?_
  refine rd (fun h_ H_=>xuk (i:=k) (j:=0) (e:=[.int .i64 (has t d k)]) o15 H_ (fun x_ h_=>by simp [h_]) tA3 rfl rfl (whk (by omega)) (u:=.int .i64 (has t d k)) rfl) ?_
  refine rt (xax (v:=.int .i64 (((k:Nat):Int))) rfl) (tm':=zq1 (zq2 (zq8 _))) rfl <| ro (xax (v:=.int .i64 (has t d k)) rfl) <| ren <| xbq <| ro (xaq (v:=.int .i64 (has t d k)) rfl) <| rt (xkq rfl rfl) (tm':=zq2 (zq4 (zq16 (zq32 _)))) rfl ?_
  refine ro (xaq (v:=.bool (decide (0<has t d k))) rfl) ?_
  by_cases cc21:0<has t d k
  ·
   refine xbx (ms rfl rfl (dtt cc21)) (fun h_ H_=>xaq (v:=yv) rfl) rfl ?_
   refine xbx (ms rfl rfl (dtt cc21)) (fun h_ H_=>xaq (v:=.int .i64 (((t.nW+t.nH:Nat):Int))) rfl) (tm':=zq1 (zq8 (zq16 (zq32 _)))) rfl ?_
   refine xbx (ms rfl rfl (dtt cc21)) (fun h_ H_=>xaq (v:=.int .i64 (((k:Nat):Int))) rfl) rfl ?_
   refine xbx (ms rfl rfl (dtt cc21)) (fun h_ H_=>xaq (v:=.func (.func 113) #[] #[.pointer (some ⟨b1,0,none⟩)]) rfl) rfl ?_
   refine xbx (ms rfl rfl (dtt cc21)) (fun h_ H_=>xaq (v:=.int .i64 (((k:Nat):Int))) rfl) (tm':=zq4 (zq8 (zq16 (zq32 _)))) rfl ?_
   refine xbx (ms rfl rfl (dtt cc21)) (fun h_ H_=>xaj H_ tA92 rfl (i:=0) rfl (v:=.pointer (some ⟨bt,0,none⟩)) rfl) rfl ?_
   refine xbx (ms rfl rfl (dtt cc21)) (fun h_ H_=>xhx rfl) rfl ?_
   refine xbx (ms rfl rfl (dtt cc21)) (fun h_ H_=>xaz ykw rfl (a':=⟨bt,3,none⟩) rfl) (tm':=zq1 (zq2 (zq4 (zq8 (zq16 (zq32 _)))))) rfl ?_
   refine xbx (ms rfl rfl (dtt cc21)) (fun h_ H_=>xaz wbx rfl (a':=⟨bt,4,none⟩) rfl) rfl ?_
   refine xbx (ms rfl rfl (dtt cc21)) (fun h_ H_=>xbj H_ tA3 rfl (v:=.int .i64 (wi.well)) (xjx hb rfl)) rfl ?_
   refine xbx (ms rfl rfl (dtt cc21)) (fun h_ H_=>xkw rfl rfl) (tm':=zq2 (zq32 (zq32 _))) rfl ?_
   refine xeq (ms rfl rfl (dtt cc21)) (first:=[]) (cap:=[.pointer (some ⟨b1,0,none⟩)]) rfl rfl zmx (fun h_ H_=>(show CallsX Tryd.prog md 113 _ h_ (fun v h'=>v= .int .i64 (bw wi k)∧Keep h_ h') from c113 md _ _ (H_.perO (i:=0) rfl) (((k:Nat):Int)=wi.well) _ _ _ _ _ _ _ _ _ xpj (H_.leO (i:=0) rfl _ _ hb))) rfl ?_
   refine xbx (ms rfl rfl (dtt cc21)) (fun h_ H_=>wjx rfl (wr (by have z_:=S.bw k;omega))) rfl ?_
   refine xbx (ms rfl rfl (dtt cc21)) (fun h_ H_=>xiq tZ99 tP99 (vs:=[(0,.int .i64 (((t.nW+t.nH:Nat):Int))),(1,.int .i64 (((k:Nat):Int))),(2,.int .i64 (0-(bw wi k))),(3,.int .i64 (-1)),(4,.int .i64 0)]) rfl (cells:=#[.int .i64 (((t.nW+t.nH:Nat):Int)),.int .i64 (((k:Nat):Int)),.int .i64 (0-(bw wi k)),.int .i64 (-1),.int .i64 0]) rfl) (tm':=zq1 (zq4 (zq32 (zq32 _)))) rfl ?_
   refine xxx (ms rfl rfl (dtt cc21)) rfl (vs:=[.agg #[.int .i64 (((t.nW+t.nH:Nat):Int)),.int .i64 (((k:Nat):Int)),.int .i64 (0-(bw wi k)),.int .i64 (-1),.int .i64 0]]) rfl (R:=fun v_ h_=>∃ X_,v_= .bool true∧I ((outW t wi d k)++[(⟨t.sp,k,-bw wi k,-1,0⟩:Go.X.Bf.Arc)]) X_∧St h₀ B₀ p h_ (([(b1,.cells #[.pointer (some ⟨bt,0,none⟩)] 92 (0,0))]:Pcs)++(X_++(X13++(X12++[]))))) (fun h_ H_=>(show CallV Tryd.prog md yv [.agg #[.int .i64 (((t.nW+t.nH:Nat):Int)),.int .i64 (((k:Nat):Int)),.int .i64 (0-(bw wi k)),.int .i64 (-1),.int .i64 0]] h_ (fun v h'=>∃ X',v= .bool true∧I ((outW t wi d k)++[(⟨t.sp,k,-bw wi k,-1,0⟩:Go.X.Bf.Arc)]) X'∧St h₀ B₀ p h' (([(b1,.cells #[.pointer (some ⟨bt,0,none⟩)] 92 (0,0))]:Pcs)++(X'++(X13++(X12++[]))))) from by have e_:(.agg #[.int .i64 (((t.nW+t.nH:Nat):Int)),.int .i64 (((k:Nat):Int)),.int .i64 (0-(bw wi k)),.int .i64 (-1),.int .i64 0]:Value)=arcV ⟨t.sp,k,-bw wi k,-1,0⟩:=yax (x:=⟨t.sp,k,-bw wi k,-1,0⟩) rfl rfl (show 0-(bw wi k)= -bw wi k from by omega) rfl rfl;rw [e_];exact (hy _ _ h_ _ _ (vgx (by omega) (by assumption)) hI H_.yTo).mono fun v_ h2_ ⟨X_,e_,i_,N_⟩=>⟨X_,e_,i_,N_.yBack⟩)) fun v_=>?_
   refine xgz fun X22=>xfq fun ev_=>xfq fun hI23=>?_
   subst ev_
   refine xbx (ms rfl rfl (dtt cc21)) (fun h_ H_=>xjw rfl) rfl ?_
   refine rt (xdz rfl (dtt cc21) (v:=.bool (!true)) rfl) (tm':=zq8 (zq32 (zq32 _))) rfl <| ro (xaq (v:=.bool (!true)) rfl) ?_
   refine xbx (ms rfl rfl (xfw rfl)) (fun h_ H_=>xaq (v:=.int .i64 (has t d k)) rfl) rfl ?_
   refine xbx (ms rfl rfl (xfw rfl)) (fun h_ H_=>xaj H_ tA92 rfl (i:=0) rfl (v:=.pointer (some ⟨bt,0,none⟩)) rfl) (tm':=zq1 (zq2 (zq8 (zq32 (zq32 _))))) rfl ?_
   refine xbx (ms rfl rfl (xfw rfl)) (fun h_ H_=>xhx rfl) rfl ?_
   refine xbx (ms rfl rfl (xfw rfl)) (fun h_ H_=>xaz yaj rfl (a':=⟨bt,0,none⟩) rfl) rfl ?_
   refine xbx (ms rfl rfl (xfw rfl)) (fun h_ H_=>xaz xnk rfl (a':=⟨bt,1,none⟩) rfl) (tm':=zq2 (zq4 (zq8 (zq32 (zq32 _))))) rfl ?_
   refine xbx (ms rfl rfl (xfw rfl)) (fun h_ H_=>xbj H_ tA22 rfl (v:=.slice a2 t.nW c2) (xjx hb rfl)) rfl ?_
   refine xbx (ms rfl rfl (xfw rfl)) (fun h_ H_=>xaq (v:=.int .i64 (((k:Nat):Int))) rfl) rfl ?_
   refine xbx (ms rfl rfl (xfw rfl)) (fun h_ H_=>xbw (i:=k) Tryd.underlying22 tS3 (xjq a2 t.nW c2 (T.w.ne (by omega))) rfl (by omega)) (tm':=zq1 (zq16 (zq32 (zq32 _)))) rfl ?_
   refine xbx (ms rfl rfl (xfw rfl)) (fun h_ H_=>xbj H_ tA3 rfl (v:=.int .i64 (t.wv k)) (T.w.get (by omega))) rfl ?_
   refine xbx (ms rfl rfl (xfw rfl)) (fun h_ H_=>xgj rfl rfl) rfl ?_
   refine xbx (ms rfl rfl (xfw rfl)) (fun h_ H_=>xaq (v:=.bool (decide (has t d k<t.wv k))) rfl) (tm':=zq4 (zq16 (zq32 (zq32 _)))) rfl ?_
   by_cases cc24:has t d k<t.wv k
   ·
    refine xbx (ms rfl rfl (dtt cc24)) (fun h_ H_=>xaq (v:=yv) rfl) rfl ?_
    refine xbx (ms rfl rfl (dtt cc24)) (fun h_ H_=>xaq (v:=.int .i64 (((k:Nat):Int))) rfl) rfl ?_
    refine xbx (ms rfl rfl (dtt cc24)) (fun h_ H_=>xaq (v:=.int .i64 (((t.nW+t.nH:Nat):Int))) rfl) (tm':=zq1 (zq2 (zq4 (zq16 (zq32 (zq32 _)))))) rfl ?_
    refine xbx (ms rfl rfl (dtt cc24)) (fun h_ H_=>xaq (v:=.func (.func 113) #[] #[.pointer (some ⟨b1,0,none⟩)]) rfl) rfl ?_
    refine xbx (ms rfl rfl (dtt cc24)) (fun h_ H_=>xaq (v:=.int .i64 (((k:Nat):Int))) rfl) rfl ?_
    refine xbx (ms rfl rfl (dtt cc24)) (fun h_ H_=>xaj H_ tA92 rfl (i:=0) rfl (v:=.pointer (some ⟨bt,0,none⟩)) rfl) (tm':=zq2 (zq8 (zq16 (zq32 (zq32 _))))) rfl ?_
    refine xbx (ms rfl rfl (dtt cc24)) (fun h_ H_=>xhx rfl) rfl ?_
    refine xbx (ms rfl rfl (dtt cc24)) (fun h_ H_=>xaz ykw rfl (a':=⟨bt,3,none⟩) rfl) rfl ?_
    refine xbx (ms rfl rfl (dtt cc24)) (fun h_ H_=>xaz wbx rfl (a':=⟨bt,4,none⟩) rfl) (tm':=zq1 (zq4 (zq8 (zq16 (zq32 (zq32 _)))))) rfl ?_
    refine xbx (ms rfl rfl (dtt cc24)) (fun h_ H_=>xbj H_ tA3 rfl (v:=.int .i64 (wi.well)) (xjx hb rfl)) rfl ?_
    refine xbx (ms rfl rfl (dtt cc24)) (fun h_ H_=>xkw rfl rfl) rfl ?_
    refine xeq (ms rfl rfl (dtt cc24)) (first:=[]) (cap:=[.pointer (some ⟨b1,0,none⟩)]) rfl rfl zmx (fun h_ H_=>(show CallsX Tryd.prog md 113 _ h_ (fun v h'=>v= .int .i64 (bw wi k)∧Keep h_ h') from c113 md _ _ (H_.perO (i:=0) rfl) (((k:Nat):Int)=wi.well) _ _ _ _ _ _ _ _ _ xpj (H_.leO (i:=0) rfl _ _ hb))) (tm':=zq32 (zq32 (zq32 _))) rfl ?_
    refine xbx (ms rfl rfl (dtt cc24)) (fun h_ H_=>xiq tZ99 tP99 (vs:=[(0,.int .i64 (((k:Nat):Int))),(1,.int .i64 (((t.nW+t.nH:Nat):Int))),(2,.int .i64 (bw wi k)),(3,.int .i64 (-1)),(4,.int .i64 0)]) rfl (cells:=#[.int .i64 (((k:Nat):Int)),.int .i64 (((t.nW+t.nH:Nat):Int)),.int .i64 (bw wi k),.int .i64 (-1),.int .i64 0]) rfl) rfl ?_
    refine xxx (ms rfl rfl (dtt cc24)) rfl (vs:=[.agg #[.int .i64 (((k:Nat):Int)),.int .i64 (((t.nW+t.nH:Nat):Int)),.int .i64 (bw wi k),.int .i64 (-1),.int .i64 0]]) rfl (R:=fun v_ h_=>∃ X_,v_= .bool true∧I (((outW t wi d k)++[(⟨t.sp,k,-bw wi k,-1,0⟩:Go.X.Bf.Arc)])++[(⟨k,t.sp,bw wi k,-1,0⟩:Go.X.Bf.Arc)]) X_∧St h₀ B₀ p h_ (([(b1,.cells #[.pointer (some ⟨bt,0,none⟩)] 92 (0,0))]:Pcs)++(X_++(X13++(X12++[]))))) (fun h_ H_=>(show CallV Tryd.prog md yv [.agg #[.int .i64 (((k:Nat):Int)),.int .i64 (((t.nW+t.nH:Nat):Int)),.int .i64 (bw wi k),.int .i64 (-1),.int .i64 0]] h_ (fun v h'=>∃ X',v= .bool true∧I (((outW t wi d k)++[(⟨t.sp,k,-bw wi k,-1,0⟩:Go.X.Bf.Arc)])++[(⟨k,t.sp,bw wi k,-1,0⟩:Go.X.Bf.Arc)]) X'∧St h₀ B₀ p h' (([(b1,.cells #[.pointer (some ⟨bt,0,none⟩)] 92 (0,0))]:Pcs)++(X'++(X13++(X12++[]))))) from by have e_:(.agg #[.int .i64 (((k:Nat):Int)),.int .i64 (((t.nW+t.nH:Nat):Int)),.int .i64 (bw wi k),.int .i64 (-1),.int .i64 0]:Value)=arcV ⟨k,t.sp,bw wi k,-1,0⟩:=yax (x:=⟨k,t.sp,bw wi k,-1,0⟩) rfl rfl (show bw wi k=bw wi k from by omega) rfl rfl;rw [e_];exact (hy _ _ h_ _ _ (vgq (by omega) (by assumption) (by assumption)) hI23 H_.yTo).mono fun v_ h2_ ⟨X_,e_,i_,N_⟩=>⟨X_,e_,i_,N_.yBack⟩)) fun v_=>?_
    refine xgz fun X25=>xfq fun ev_=>xfq fun hI26=>?_
    subst ev_
    refine xbx (ms rfl rfl (dtt cc24)) (fun h_ H_=>xjw rfl) (tm':=zq1 (zq2 (zq32 (zq32 (zq32 _))))) rfl ?_
    refine xbx (ms rfl rfl (xfw rfl)) (fun h_ H_=>xdz rfl (dtt cc24) (v:=.bool (!true)) rfl) rfl ?_
    refine ro (xej rfl (xfw rfl) (v:=.bool (!true)) rfl) <| xak <| xck rfl (xfw rfl) <| xcv <| xdq <| xbq ?_
    refine rt (xek rfl rfl (n:=((k+1:Nat):Int)) (wr (by omega))) (tm':=zq2 (zq4 (zq32 (zq32 (zq32 _))))) rfl ?_
    refine ro (xaq (v:=.int .i64 (((k+1:Nat):Int))) rfl) <| xak ?_
    exact fun h_ H_=>IH19 _ _ (by omega) h_ ⟨k+1,X25,rfl,(y_of rfl),(by omega),(by rw [← W_tt (t:=t) (w:=wi) (d:=d) (k:=k) (by assumption) (by assumption)];exact hI26),H_⟩
   ·
    refine rp (mo rfl rfl (dff cc24)) <| xfx (mo rfl rfl (dff cc24)) (tm':=zq2 (zq4 (zq16 (zq32 (zq32 _))))) rfl <| rp (mo rfl rfl (dff cc24)) <| rp (mo rfl rfl (dff cc24)) <| xfx (mo rfl rfl (dff cc24)) (tm':=zq1 (zq8 (zq16 (zq32 (zq32 _))))) rfl <| rp (mo rfl rfl (dff cc24)) ?_
    refine rp (mo rfl rfl (dff cc24)) <| xfx (mo rfl rfl (dff cc24)) (tm':=zq4 (zq8 (zq16 (zq32 (zq32 _))))) rfl <| rp (mo rfl rfl (dff cc24)) <| rp (mo rfl rfl (dff cc24)) <| xfx (mo rfl rfl (dff cc24)) (tm':=zq1 (zq2 (zq4 (zq8 (zq16 (zq32 (zq32 _))))))) rfl <| rp (mo rfl rfl (dff cc24)) ?_
    refine rp (mo rfl rfl (dff cc24)) <| xfx (mo rfl rfl (dff cc24)) (tm':=zq2 (zq32 (zq32 (zq32 _)))) rfl <| rp (mo rfl rfl (dff cc24)) ?_
    refine xbx (ms rfl rfl (xfw rfl)) (fun h_ H_=>xej rfl (dff cc24) (v:=.bool (false)) rfl) rfl ?_
    refine rt (xej rfl (xfw rfl) (v:=.bool (false)) rfl) (tm':=zq1 (zq4 (zq32 (zq32 (zq32 _))))) rfl <| xak <| xck rfl rfl <| xcv <| xdq <| xbq ?_
    refine ro (xek rfl rfl (n:=((k+1:Nat):Int)) (wr (by omega))) ?_
    refine ro (xaq (v:=.int .i64 (((k+1:Nat):Int))) rfl) <| xak ?_
    exact fun h_ H_=>IH19 _ _ (by omega) h_ ⟨k+1,X22,rfl,(y_of rfl),(by omega),(by rw [← W_tf (t:=t) (w:=wi) (d:=d) (k:=k) (by assumption) (by assumption)];exact hI23),H_⟩
  ·
   refine xfx (mo rfl rfl (dff cc21)) (tm':=zq8 (zq16 (zq32 _))) rfl <| rp (mo rfl rfl (dff cc21)) <| rp (mo rfl rfl (dff cc21)) <| xfx (mo rfl rfl (dff cc21)) (tm':=zq1 (zq2 (zq8 (zq16 (zq32 _))))) rfl <| rp (mo rfl rfl (dff cc21)) <| rp (mo rfl rfl (dff cc21)) ?_
   refine xfx (mo rfl rfl (dff cc21)) (tm':=zq2 (zq4 (zq8 (zq16 (zq32 _))))) rfl <| rp (mo rfl rfl (dff cc21)) <| rp (mo rfl rfl (dff cc21)) <| xfx (mo rfl rfl (dff cc21)) (tm':=zq1 (zq32 (zq32 _))) rfl <| rp (mo rfl rfl (dff cc21)) <| rp (mo rfl rfl (dff cc21)) ?_
   refine xfx (mo rfl rfl (dff cc21)) (tm':=zq4 (zq32 (zq32 _))) rfl <| rp (mo rfl rfl (dff cc21)) <| rp (mo rfl rfl (dff cc21)) <| xfx (mo rfl rfl (dff cc21)) (tm':=zq1 (zq2 (zq4 (zq32 (zq32 _))))) rfl <| ro (xej rfl (dff cc21) (v:=.bool (false)) rfl) <| ro (xaq (v:=.bool (false)) rfl) ?_
   refine xbx (ms rfl rfl rfl) (fun h_ H_=>xaq (v:=.int .i64 (has t d k)) rfl) (tm':=zq2 (zq8 (zq32 (zq32 _)))) rfl ?_
   refine xbx (ms rfl rfl rfl) (fun h_ H_=>xaj H_ tA92 rfl (i:=0) rfl (v:=.pointer (some ⟨bt,0,none⟩)) rfl) rfl ?_
   refine xbx (ms rfl rfl rfl) (fun h_ H_=>xhx rfl) rfl ?_
   refine xbx (ms rfl rfl rfl) (fun h_ H_=>xaz yaj rfl (a':=⟨bt,0,none⟩) rfl) (tm':=zq1 (zq4 (zq8 (zq32 (zq32 _))))) rfl ?_
   refine xbx (ms rfl rfl rfl) (fun h_ H_=>xaz xnk rfl (a':=⟨bt,1,none⟩) rfl) rfl ?_
   refine xbx (ms rfl rfl rfl) (fun h_ H_=>xbj H_ tA22 rfl (v:=.slice a2 t.nW c2) (xjx hb rfl)) rfl ?_
   refine xbx (ms rfl rfl rfl) (fun h_ H_=>xaq (v:=.int .i64 (((k:Nat):Int))) rfl) (tm':=zq16 (zq32 (zq32 _))) rfl ?_
   refine xbx (ms rfl rfl rfl) (fun h_ H_=>xbw (i:=k) Tryd.underlying22 tS3 (xjq a2 t.nW c2 (T.w.ne (by omega))) rfl (by omega)) rfl ?_
   refine xbx (ms rfl rfl rfl) (fun h_ H_=>xbj H_ tA3 rfl (v:=.int .i64 (t.wv k)) (T.w.get (by omega))) rfl ?_
   refine xbx (ms rfl rfl rfl) (fun h_ H_=>xgj rfl rfl) (tm':=zq1 (zq2 (zq16 (zq32 (zq32 _))))) rfl ?_
   refine xbx (ms rfl rfl rfl) (fun h_ H_=>xaq (v:=.bool (decide (has t d k<t.wv k))) rfl) rfl ?_
   by_cases cc27:has t d k<t.wv k
   ·
    refine xbx (ms rfl rfl (dtt cc27)) (fun h_ H_=>xaq (v:=yv) rfl) rfl ?_
    refine xbx (ms rfl rfl (dtt cc27)) (fun h_ H_=>xaq (v:=.int .i64 (((k:Nat):Int))) rfl) (tm':=zq2 (zq4 (zq16 (zq32 (zq32 _))))) rfl ?_
    refine xbx (ms rfl rfl (dtt cc27)) (fun h_ H_=>xaq (v:=.int .i64 (((t.nW+t.nH:Nat):Int))) rfl) rfl ?_
    refine xbx (ms rfl rfl (dtt cc27)) (fun h_ H_=>xaq (v:=.func (.func 113) #[] #[.pointer (some ⟨b1,0,none⟩)]) rfl) rfl ?_
    refine xbx (ms rfl rfl (dtt cc27)) (fun h_ H_=>xaq (v:=.int .i64 (((k:Nat):Int))) rfl) (tm':=zq1 (zq8 (zq16 (zq32 (zq32 _))))) rfl ?_
    refine xbx (ms rfl rfl (dtt cc27)) (fun h_ H_=>xaj H_ tA92 rfl (i:=0) rfl (v:=.pointer (some ⟨bt,0,none⟩)) rfl) rfl ?_
    refine xbx (ms rfl rfl (dtt cc27)) (fun h_ H_=>xhx rfl) rfl ?_
    refine xbx (ms rfl rfl (dtt cc27)) (fun h_ H_=>xaz ykw rfl (a':=⟨bt,3,none⟩) rfl) (tm':=zq4 (zq8 (zq16 (zq32 (zq32 _))))) rfl ?_
    refine xbx (ms rfl rfl (dtt cc27)) (fun h_ H_=>xaz wbx rfl (a':=⟨bt,4,none⟩) rfl) rfl ?_
    refine xbx (ms rfl rfl (dtt cc27)) (fun h_ H_=>xbj H_ tA3 rfl (v:=.int .i64 (wi.well)) (xjx hb rfl)) rfl ?_
    refine xbx (ms rfl rfl (dtt cc27)) (fun h_ H_=>xkw rfl rfl) (tm':=zq1 (zq2 (zq4 (zq8 (zq16 (zq32 (zq32 _))))))) rfl ?_
    refine xeq (ms rfl rfl (dtt cc27)) (first:=[]) (cap:=[.pointer (some ⟨b1,0,none⟩)]) rfl rfl zmx (fun h_ H_=>(show CallsX Tryd.prog md 113 _ h_ (fun v h'=>v= .int .i64 (bw wi k)∧Keep h_ h') from c113 md _ _ (H_.perO (i:=0) rfl) (((k:Nat):Int)=wi.well) _ _ _ _ _ _ _ _ _ xpj (H_.leO (i:=0) rfl _ _ hb))) rfl ?_
    refine xbx (ms rfl rfl (dtt cc27)) (fun h_ H_=>xiq tZ99 tP99 (vs:=[(0,.int .i64 (((k:Nat):Int))),(1,.int .i64 (((t.nW+t.nH:Nat):Int))),(2,.int .i64 (bw wi k)),(3,.int .i64 (-1)),(4,.int .i64 0)]) rfl (cells:=#[.int .i64 (((k:Nat):Int)),.int .i64 (((t.nW+t.nH:Nat):Int)),.int .i64 (bw wi k),.int .i64 (-1),.int .i64 0]) rfl) rfl ?_
    refine xxx (ms rfl rfl (dtt cc27)) rfl (vs:=[.agg #[.int .i64 (((k:Nat):Int)),.int .i64 (((t.nW+t.nH:Nat):Int)),.int .i64 (bw wi k),.int .i64 (-1),.int .i64 0]]) rfl (R:=fun v_ h_=>∃ X_,v_= .bool true∧I ((outW t wi d k)++[(⟨k,t.sp,bw wi k,-1,0⟩:Go.X.Bf.Arc)]) X_∧St h₀ B₀ p h_ (([(b1,.cells #[.pointer (some ⟨bt,0,none⟩)] 92 (0,0))]:Pcs)++(X_++(X13++(X12++[]))))) (fun h_ H_=>(show CallV Tryd.prog md yv [.agg #[.int .i64 (((k:Nat):Int)),.int .i64 (((t.nW+t.nH:Nat):Int)),.int .i64 (bw wi k),.int .i64 (-1),.int .i64 0]] h_ (fun v h'=>∃ X',v= .bool true∧I ((outW t wi d k)++[(⟨k,t.sp,bw wi k,-1,0⟩:Go.X.Bf.Arc)]) X'∧St h₀ B₀ p h' (([(b1,.cells #[.pointer (some ⟨bt,0,none⟩)] 92 (0,0))]:Pcs)++(X'++(X13++(X12++[]))))) from by have e_:(.agg #[.int .i64 (((k:Nat):Int)),.int .i64 (((t.nW+t.nH:Nat):Int)),.int .i64 (bw wi k),.int .i64 (-1),.int .i64 0]:Value)=arcV ⟨k,t.sp,bw wi k,-1,0⟩:=yax (x:=⟨k,t.sp,bw wi k,-1,0⟩) rfl rfl (show bw wi k=bw wi k from by omega) rfl rfl;rw [e_];exact (hy _ _ h_ _ _ (vfw (by omega) (by assumption) (by assumption)) hI H_.yTo).mono fun v_ h2_ ⟨X_,e_,i_,N_⟩=>⟨X_,e_,i_,N_.yBack⟩)) fun v_=>?_
    refine xgz fun X28=>xfq fun ev_=>xfq fun hI29=>?_
    subst ev_
    refine xfj (tm':=zq2 (zq32 (zq32 (zq32 _)))) rfl ?_
    refine xbx (ms rfl rfl (dtt cc27)) (fun h_ H_=>xjw rfl) rfl ?_
    refine xbx (ms rfl rfl rfl) (fun h_ H_=>xdz rfl (dtt cc27) (v:=.bool (!true)) rfl) rfl ?_
    refine rt (xej rfl rfl (v:=.bool (!true)) rfl) (tm':=zq1 (zq4 (zq32 (zq32 (zq32 _))))) rfl <| xak <| xck rfl (xfw rfl) <| xcv <| xdq <| xbq ?_
    refine ro (xek rfl rfl (n:=((k+1:Nat):Int)) (wr (by omega))) ?_
    refine ro (xaq (v:=.int .i64 (((k+1:Nat):Int))) rfl) <| xak ?_
    exact fun h_ H_=>IH19 _ _ (by omega) h_ ⟨k+1,X28,rfl,(y_of rfl),(by omega),(by rw [← W_ft (t:=t) (w:=wi) (d:=d) (k:=k) (by assumption) (by assumption)];exact hI29),H_⟩
   ·
    refine xfx (mo rfl rfl (dff cc27)) (tm':=zq1 (zq4 (zq16 (zq32 (zq32 _))))) rfl <| rp (mo rfl rfl (dff cc27)) <| rp (mo rfl rfl (dff cc27)) <| xfx (mo rfl rfl (dff cc27)) (tm':=zq8 (zq16 (zq32 (zq32 _)))) rfl <| rp (mo rfl rfl (dff cc27)) <| rp (mo rfl rfl (dff cc27)) ?_
    refine xfx (mo rfl rfl (dff cc27)) (tm':=zq1 (zq2 (zq8 (zq16 (zq32 (zq32 _)))))) rfl <| rp (mo rfl rfl (dff cc27)) <| rp (mo rfl rfl (dff cc27)) <| xfx (mo rfl rfl (dff cc27)) (tm':=zq2 (zq4 (zq8 (zq16 (zq32 (zq32 _)))))) rfl <| rp (mo rfl rfl (dff cc27)) <| rp (mo rfl rfl (dff cc27)) ?_
    refine xfx (mo rfl rfl (dff cc27)) (tm':=zq1 (zq32 (zq32 (zq32 _)))) rfl <| rp (mo rfl rfl (dff cc27)) <| rp (mo rfl rfl (dff cc27)) ?_
    refine xbx (ms rfl rfl rfl) (fun h_ H_=>xej rfl (dff cc27) (v:=.bool (false)) rfl) (tm':=zq4 (zq32 (zq32 (zq32 _)))) rfl ?_
    refine ro (xej rfl rfl (v:=.bool (false)) rfl) <| xak <| xck rfl rfl <| xcv <| xdq <| xbq ?_
    refine ro (xek rfl rfl (n:=((k+1:Nat):Int)) (wr (by omega))) ?_
    refine rt (xaq (v:=.int .i64 (((k+1:Nat):Int))) rfl) (tm':=zq16 (zq32 _)) rfl <| xak ?_
    exact fun h_ H_=>IH19 _ _ (by omega) h_ ⟨k+1,X,rfl,(y_of rfl),(by omega),(by rw [← W_ff (t:=t) (w:=wi) (d:=d) (k:=k) (by assumption) (by assumption)];exact hI),H_⟩
 ·
  refine xck rfl (dff cc20) <| xhz rfl <| xez <| fsr <| ro (xaq (v:=w10) rfl) <| ro (xzv o14 ((xcw _).trans ybx) Tryd.underlying22 rfl) ?_
  refine rt (xaq (v:=.int .i64 0) rfl) (tm':=zq1 (zq8 (zq32 (zq32 (zq32 _))))) rfl <| xak <| xdj ?_
  refine xhk (m₀:=t.nH-0) (fun m_ tm_ h_=>∃ (l:Nat) (X:Pcs),m_=t.nH-l∧(∃ y30:Nat→Value,tm_=(.pointer (some ⟨bt,0,none⟩)::yv::.pointer (some ⟨b1,0,none⟩)::undef::w10::w11::.int .i64 (((t.nW:Nat):Int))::.int .i64 (((t.nW+t.nH:Nat):Int))::.int .i64 ((((t.nW+t.nH)+1:Nat):Int))::(.func (.func 113) #[] #[.pointer (some ⟨b1,0,none⟩)])::(y18 10)::(y18 11)::(y30 12)::(y30 13)::undef::undef::.tuple #[w10,w11]::.pointer (some ⟨bt,0,none⟩)::.pointer (some ⟨bt,0,none⟩)::.pointer (some ⟨bt,0,none⟩)::.agg #[.slice a1 t.nH c1,.slice a2 t.nW c2,.slice a3 t.m c3]::.pointer (some ⟨bt,0,none⟩)::.pointer (some ⟨bt,0,none⟩)::.pointer (some ⟨bt,6,none⟩)::.slice b t.m cb::.tuple #[w10,w11]::w10::w11::.pointer (some ⟨bt,0,none⟩)::.pointer (some ⟨bt,0,none⟩)::.pointer (some ⟨bt,0,none⟩)::.pointer (some ⟨bt,1,none⟩)::.slice a2 t.nW c2::.int .i64 (((t.nW:Nat):Int))::.int .i64 (((t.nW:Nat):Int))::.pointer (some ⟨bt,0,none⟩)::.pointer (some ⟨bt,0,none⟩)::.pointer (some ⟨bt,0,none⟩)::.pointer (some ⟨bt,0,none⟩)::.slice a1 t.nH c1::.int .i64 (((t.nH:Nat):Int))::.int .i64 (((t.nW+t.nH:Nat):Int))::.int .i64 (((t.nW+t.nH:Nat):Int))::.int .i64 ((((t.nW+t.nH)+1:Nat):Int))::(.func (.func 113) #[] #[.pointer (some ⟨b1,0,none⟩)])::w11::.int .i64 (((t.nW:Nat):Int))::.int .i64 (((k:Nat):Int))::.bool (decide (((k:Nat):Int)<((t.nW:Nat):Int)))::(y18 49)::(y18 50)::(y18 51)::(y18 52)::(y18 53)::(y18 54)::(y18 55)::(y18 56)::(y18 57)::(y18 58)::(y18 59)::(y18 60)::(y18 61)::(y18 62)::(y18 63)::(y18 64)::(y18 65)::(y18 66)::(y18 67)::(y18 68)::(y18 69)::(y18 70)::(y18 71)::(y18 72)::(y18 73)::(y18 74)::(y18 75)::(y18 76)::(y18 77)::(y18 78)::(y18 79)::(y18 80)::(y18 81)::(y18 82)::(y18 83)::(y18 84)::(y18 85)::(y18 86)::(y18 87)::(y18 88)::(y18 89)::(y18 90)::(y18 91)::(y18 92)::(y18 93)::(y18 94)::(y18 95)::(y18 96)::(y18 97)::(y18 98)::(y18 99)::(y18 100)::(y18 101)::w10::.int .i64 (((t.nH:Nat):Int))::.int .i64 (((l:Nat):Int))::(y30 105)::(y30 106)::(y30 107)::(y30 108)::(y30 109)::(y30 110)::(y30 111)::(y30 112)::(y30 113)::(y30 114)::(y30 115)::(y30 116)::(y30 117)::(y30 118)::(y30 119)::(y30 120)::(y30 121)::(y30 122)::(y30 123)::(y30 124)::(y30 125)::(y30 126)::(y30 127)::(y30 128)::(y30 129)::(y30 130)::(y30 131)::(y30 132)::(y30 133)::(y30 134)::(y30 135)::(y30 136)::(y30 137)::(y30 138)::(y30 139)::(y30 140)::(y30 141)::(y30 142)::(y30 143)::(y30 144)::(y30 145)::(y30 146)::(y30 147)::(y30 148)::(y30 149)::(y30 150)::(y30 151)::(y30 152)::(y30 153)::(y30 154)::(y30 155)::(y30 156)::(y30 157)::(y30 158)::(y30 159)::(y30 160)::(y30 161)::(y30 162)::(y30 163)::(y30 164)::(y30 165)::(y30 166)::(y30 167)::(y30 168)::(y30 169)::(y30 170)::(y30 171)::(y30 172)::(y30 173)::(y30 174)::(y30 175)::undef::undef::zu4 (zu8 (zu16 (zu16 [])))))∧(l≤t.nH)∧(I (outH t wi d l) X)∧St h₀ B₀ p h_ (([(b1,.cells #[.pointer (some ⟨bt,0,none⟩)] 92 (0,0))]:Pcs)++(X++(X13++(X12++[]))))) (fun h_ H_=>⟨0,X,rfl,(y_of rfl),Nat.zero_le _,(by rw [wew];have e_:k=t.nW:=(by omega);rw [← e_];exact hI),H_⟩) ?_
  intro m_ tm_ IH31
  refine xhq fun l=>xhq fun X=>xcz fun hm_=>xcz fun ht_=>xcz fun hkl=>xcz fun hI=>?_
  subst hm_;obtain ⟨y30,ht_⟩:=ht_;subst ht_
  have hl_:=fun z_:l<t.nH=>wgv O Dv z_
  refine fsr <| ro (xgj rfl rfl) <| ren ?_
  by_cases cc32:((l:Nat):Int)<((t.nH:Nat):Int)
  ·
   refine xdx rfl (dtt cc32) <| xcv <| xez <| xdj <| fsr <| ro (xaq (v:=.int .i64 (((l:Nat):Int))) rfl) ?_
   refine rt (xix o14 Tryd.underlying22 tS3 rfl rfl (by rw [((xcw _).trans ybx)];first | omega | (simp only [List.length_set];omega))) (tm':=zq4 (zq8 (zq32 (zq32 (zq32 _))))) rfl ?_
   refine rd (fun h_ H_=>xuk (i:=l) (j:=0) (e:=[.int .i64 (lack t d l)]) o14 H_ (fun x_ h_=>by simp [h_]) tA3 rfl rfl (zsv (by omega)) (u:=.int .i64 (lack t d l)) rfl) ?_
   refine ro (xax (v:=.int .i64 (((l:Nat):Int))) rfl) <| rt (xax (v:=.int .i64 (lack t d l)) rfl) (tm':=zq2 (zq4 (zq8 _))) rfl <| ren ?_
   by_cases cc33:0<lack t d l
   ·
    by_cases cc34:lack t d l<t.hv l
    ·
     refine ygv (Base1:=fun h_=>∃ X3_,I ((outH t wi d l)++[(⟨t.nW+l,t.si,dear ((lack t d l).toNat-1)-dear (lack t d l).toNat-bh wi l,-1,0⟩:Go.X.Bf.Arc)]) X3_∧St h₀ B₀ p h_ (([(b1,.cells #[.pointer (some ⟨bt,0,none⟩)] 92 (0,0))]:Pcs)++(X3_++(X13++(X12++[]))))) 62 25 [[],[0],[0,1],[0,1,2],[0,1,2],[0,1,2],[0,1,2,4,5],[0,1,2],[0,1,2],[0,1,2,8],[0,1,2,8,9],[0,1,2],[0,1,2,8,9,10,11],[0,1,2,8,9,10,11,12],[0,1,2],[0,1,2],[0,1,2],[0,1,2,16],[0,1,2,16,17],[0,1,2,16,17,18],[0,1,2,16,17,18,19],[0,1,2,15,16,17,18,19,20],[0,1,2,8,9,10,11,12,14,15,16,17,18,19,20,21],[0,1,2,8,9,10,11,12,13,14,15,16,17,18,19,20,21,22],[0,1,2,4,5,6,7,8,9,10,11,12,13,14,15,16,17,18,19,20,21,22,23],[0,1,2,3,4,5,6,7,8,9,10,11,12,13,14,15,16,17,18,19,20,21,22,23,24],[0,1,2,3,4,5,6,7,8,9,10,11,12,13,14,15,16,17,18,19,20,21,22,23,24,25],[0,1,2,3,4,5,6,7,8,9,10,11,12,13,14,15,16,17,18,19,20,21,22,23,24,25,26],[0,1,2,3,4,5,6,7,8,9,10,11,12,13,14,15,16,17,18,19,20,21,22,23,24,25,26,27],[0,1,2,3,4,5,6,7,8,9,10,11,12,13,14,15,16,17,18,19,20,21,22,23,24,25,26,27,28],[0,1,2,3,4,5,6,7,8,9,10,11,12,13,14,15,16,17,18,19,20,21,22,23,24,25,26,27,28],[0,1,2,3,4,5,6,7,8,9,10,11,12,13,14,15,16,17,18,19,20,21,22,23,24,25,26,27,28,30],[0,1,2,3,4,5,6,7,8,9,10,11,12,13,14,15,16,17,18,19,20,21,22,23,24,25,26,27,28,30,31],[0,1,2,3,4,5,6,7,8,9,10,11,12,13,14,15,16,17,18,19,20,21,22,23,24,25,26,27,28,30,31,32],[0,1,2,3,4,5,6,7,8,9,10,11,12,13,14,15,16,17,18,19,20,21,22,23,24,25,26,27,28,30,31,32,33],[0,1,2,3,4,5,6,7,8,9,10,11,12,13,14,15,16,17,18,19,20,21,22,23,24,25,26,27,28],[0,1,2,3,4,5,6,7,8,9,10,11,12,13,14,15,16,17,18,19,20,21,22,23,24,25,26,27,28,30,31,32,33,34,35],[0,1,2,3,4,5,6,7,8,9,10,11,12,13,14,15,16,17,18,19,20,21,22,23,24,25,26,27,28,30,31,32,33,34,35,36],[0,1,2,3,4,5,6,7,8,9,10,11,12,13,14,15,16,17,18,19,20,21,22,23,24,25,26,27,28,29,30,31,32,33,34,35,36,37],[0,1,2,3,4,5,6,7,8,9,10,11,12,13,14,15,16,17,18,19,20,21,22,23,24,25,26,27,28,29,30,31,32,33,34,35,36,37,38],[0,1,2,3,4,5,6,7,8,9,10,11,12,13,14,15,16,17,18,19,20,21,22,23,24,25,26,27,28,29,30,31,32,33,34,35,36,37,38,39],[0,1,2,3,4,5,6,7,8,9,10,11,12,13,14,15,16,17,18,19,20,21,22,23,24,25,26,27,28,29,30,31,32,33,34,35,36,37,38,39],[0,1,2,3,4,5,6,7,8,9,10,11,12,13,14,15,16,17,18,19,20,21,22,23,24,25,26,27,28,29,30,31,32,33,34,35,36,37,38,39],[0,1,2,3,4,5,6,7,8,9,10,11,12,13,14,15,16,17,18,19,20,21,22,23,24,25,26,27,28,29,30,31,32,33,34,35,36,37,38,39],[0,1,2,3,4,5,6,7,8,9,10,11,12,13,14,15,16,17,18,19,20,21,22,23,24,25,26,27,28,29,30,31,32,33,34,35,36,37,38,39,42,43],[0,1,2,3,4,5,6,7,8,9,10,11,12,13,14,15,16,17,18,19,20,21,22,23,24,25,26,27,28,29,30,31,32,33,34,35,36,37,38,39],[0,1,2,3,4,5,6,7,8,9,10,11,12,13,14,15,16,17,18,19,20,21,22,23,24,25,26,27,28,29,30,31,32,33,34,35,36,37,38,39,45],[0,1,2,3,4,5,6,7,8,9,10,11,12,13,14,15,16,17,18,19,20,21,22,23,24,25,26,27,28,29,30,31,32,33,34,35,36,37,38,39,45,46],[0,1,2,3,4,5,6,7,8,9,10,11,12,13,14,15,16,17,18,19,20,21,22,23,24,25,26,27,28,29,30,31,32,33,34,35,36,37,38,39],[0,1,2,3,4,5,6,7,8,9,10,11,12,13,14,15,16,17,18,19,20,21,22,23,24,25,26,27,28,29,30,31,32,33,34,35,36,37,38,39,45,46,47,48],[0,1,2,3,4,5,6,7,8,9,10,11,12,13,14,15,16,17,18,19,20,21,22,23,24,25,26,27,28,29,30,31,32,33,34,35,36,37,38,39,45,46,47,48,49],[0,1,2,3,4,5,6,7,8,9,10,11,12,13,14,15,16,17,18,19,20,21,22,23,24,25,26,27,28,29,30,31,32,33,34,35,36,37,38,39],[0,1,2,3,4,5,6,7,8,9,10,11,12,13,14,15,16,17,18,19,20,21,22,23,24,25,26,27,28,29,30,31,32,33,34,35,36,37,38,39],[0,1,2,3,4,5,6,7,8,9,10,11,12,13,14,15,16,17,18,19,20,21,22,23,24,25,26,27,28,29,30,31,32,33,34,35,36,37,38,39],[0,1,2,3,4,5,6,7,8,9,10,11,12,13,14,15,16,17,18,19,20,21,22,23,24,25,26,27,28,29,30,31,32,33,34,35,36,37,38,39,53],[0,1,2,3,4,5,6,7,8,9,10,11,12,13,14,15,16,17,18,19,20,21,22,23,24,25,26,27,28,29,30,31,32,33,34,35,36,37,38,39,53,54],[0,1,2,3,4,5,6,7,8,9,10,11,12,13,14,15,16,17,18,19,20,21,22,23,24,25,26,27,28,29,30,31,32,33,34,35,36,37,38,39,53,54,55],[0,1,2,3,4,5,6,7,8,9,10,11,12,13,14,15,16,17,18,19,20,21,22,23,24,25,26,27,28,29,30,31,32,33,34,35,36,37,38,39,53,54,55,56],[0,1,2,3,4,5,6,7,8,9,10,11,12,13,14,15,16,17,18,19,20,21,22,23,24,25,26,27,28,29,30,31,32,33,34,35,36,37,38,39,52,53,54,55,56,57],[0,1,2,3,4,5,6,7,8,9,10,11,12,13,14,15,16,17,18,19,20,21,22,23,24,25,26,27,28,29,30,31,32,33,34,35,36,37,38,39,45,46,47,48,49,51,52,53,54,55,56,57,58],[0,1,2,3,4,5,6,7,8,9,10,11,12,13,14,15,16,17,18,19,20,21,22,23,24,25,26,27,28,29,30,31,32,33,34,35,36,37,38,39,45,46,47,48,49,50,51,52,53,54,55,56,57,58,59],[0,1,2,3,4,5,6,7,8,9,10,11,12,13,14,15,16,17,18,19,20,21,22,23,24,25,26,27,28,29,30,31,32,33,34,35,36,37,38,39,41,42,43,44,45,46,47,48,49,50,51,52,53,54,55,56,57,58,59,60],[0,1,2,3,4,5,6,7,8,9,10,11,12,13,14,15,16,17,18,19,20,21,22,23,24,25,26,27,28,29,30,31,32,33,34,35,36,37,38,39,40,41,42,43,44,45,46,47,48,49,50,51,52,53,54,55,56,57,58,59,60,61],[0,1,2,3,4,5,6,7,8,9,10,11,12,13,14,15,16,17,18,19,20,21,22,23,24,25,26,27,28,29,30,31,32,33,34,35,36,37,38,39,40,41,42,43,44,45,46,47,48,49,50,51,52,53,54,55,56,57,58,59,60,61,62],[0,1,2,3,4,5,6,7,8,9,10,11,12,13,14,15,16,17,18,19,20,21,22,23,24,25,26,27,28,29,30,31,32,33,34,35,36,37,38,39,40,41,42,43,44,45,46,47,48,49,50,51,52,53,54,55,56,57,58,59,60,61,62,63],[0,1,2,3,4,5,6,7,8,9,10,11,12,13,14,15,16,17,18,19,20,21,22,23,24,25,26,27,28,29,30,31,32,33,34,35,36,37,38,39,40,41,42,43,44,45,46,47,48,49,50,51,52,53,54,55,56,57,58,59,60,61,62,63,64]] xkk (by kernel_rfl) (Nat.le_of_ble_eq_true rfl) (Nat.le_of_ble_eq_true rfl) ?_
     refine xfv mn (by kernel_rfl) (xcj fun h_ H_=>xaq (v:=.int .i64 (lack t d l)) rfl) rfl ?_
     refine xfv mn (by kernel_rfl) (xcj fun h_ H_=>xkq rfl rfl) (tm':=zq1 (zq2 (zq4 (zq8 (zq32 (zq32 (zq32 _))))))) rfl ?_
     refine xfv mn (by kernel_rfl) (xcj fun h_ H_=>xaq (v:=.bool (decide (0<lack t d l))) rfl) rfl ?_
     refine xfv (ms rfl rfl (dtt cc33)) (by kernel_rfl) (xcj fun h_ H_=>xaq (v:=yv) rfl) (tm':=zq1 (zq16 (zq32 (zq32 (zq32 _))))) rfl ?_
     refine xfv (ms rfl rfl (dtt cc33)) (by kernel_rfl) (xcj fun h_ H_=>xaq (v:=.int .i64 (((t.nW:Nat):Int))) rfl) rfl ?_
     refine xfv (ms rfl rfl (dtt cc33)) (by kernel_rfl) (xcj fun h_ H_=>xaq (v:=.int .i64 (((l:Nat):Int))) rfl) (tm':=zq1 (zq2 (zq16 (zq32 (zq32 (zq32 _)))))) rfl ?_
     refine xfv (ms rfl rfl (dtt cc33)) (by kernel_rfl) (xcj fun h_ H_=>xek rfl rfl (n:=((t.nW+l:Nat):Int)) (wr (by have z_:=hl_ (by omega);have z1_:=xhv (show (lack t d l).toNat-1≤10 by omega);have z2_:=xhv (show (lack t d l).toNat≤10 by omega);have z3_:=xhv (show (lack t d l).toNat+1≤10 by omega);have z4_:=S.bh l;omega))) rfl ?_
     refine xfv (ms rfl rfl (dtt cc33)) (by kernel_rfl) (xcj fun h_ H_=>xaq (v:=.int .i64 ((((t.nW+t.nH)+1:Nat):Int))) rfl) (tm':=zq1 (zq4 (zq16 (zq32 (zq32 (zq32 _)))))) rfl ?_
     refine xfv (ms rfl rfl (dtt cc33)) (by kernel_rfl) (xcj fun h_ H_=>xaq (v:=.int .i64 (lack t d l)) rfl) rfl ?_
     refine xfv (ms rfl rfl (dtt cc33)) (by kernel_rfl) (xcj fun h_ H_=>xkj rfl rfl (wr (by have z_:=hl_ (by omega);have z1_:=xhv (show (lack t d l).toNat-1≤10 by omega);have z2_:=xhv (show (lack t d l).toNat≤10 by omega);have z3_:=xhv (show (lack t d l).toNat+1≤10 by omega);have z4_:=S.bh l;omega))) (tm':=zq1 (zq2 (zq4 (zq16 (zq32 (zq32 (zq32 _))))))) rfl ?_
     refine xfv (ms rfl rfl (dtt cc33)) (by kernel_rfl) (xtq (first:=[]) (cap:=[]) rfl rfl zhq fun h_ H_=>(zhw md _ (z:=(lack t d l)-1) (x:=(lack t d l).toNat-1) (by have z_:=hl_ (by omega);omega) (by have z_:=hl_ (by omega);omega)).mono fun v_ h2_ ⟨e_,k_⟩=>⟨e_,H_.call k_⟩) rfl ?_
     refine xfv (ms rfl rfl (dtt cc33)) (by kernel_rfl) (xcj fun h_ H_=>xaq (v:=.int .i64 (lack t d l)) rfl) (tm':=zq1 (zq8 (zq16 (zq32 (zq32 (zq32 _)))))) rfl ?_
     refine xfv (ms rfl rfl (dtt cc33)) (by kernel_rfl) (xtq (first:=[]) (cap:=[]) rfl rfl zhq fun h_ H_=>(zhw md _ (z:=lack t d l) (x:=(lack t d l).toNat) (by have z_:=hl_ (by omega);omega) (by have z_:=hl_ (by omega);omega)).mono fun v_ h2_ ⟨e_,k_⟩=>⟨e_,H_.call k_⟩) rfl ?_
     refine xfv (ms rfl rfl (dtt cc33)) (by kernel_rfl) (xcj fun h_ H_=>xkj rfl rfl (wr (by have z_:=hl_ (by omega);have z1_:=xhv (show (lack t d l).toNat-1≤10 by omega);have z2_:=xhv (show (lack t d l).toNat≤10 by omega);have z3_:=xhv (show (lack t d l).toNat+1≤10 by omega);have z4_:=S.bh l;omega))) (tm':=zq1 (zq2 (zq8 (zq16 (zq32 (zq32 (zq32 _))))))) rfl ?_
     refine xfv (ms rfl rfl (dtt cc33)) (by kernel_rfl) (xcj fun h_ H_=>xaq (v:=.func (.func 113) #[] #[.pointer (some ⟨b1,0,none⟩)]) rfl) rfl ?_
     refine xfv (ms rfl rfl (dtt cc33)) (by kernel_rfl) (xcj fun h_ H_=>xaq (v:=.int .i64 (((l:Nat):Int))) rfl) (tm':=zq1 (zq4 (zq8 (zq16 (zq32 (zq32 (zq32 _))))))) rfl ?_
     refine xfv (ms rfl rfl (dtt cc33)) (by kernel_rfl) (xcj fun h_ H_=>xaj H_ tA92 rfl (i:=0) rfl (v:=.pointer (some ⟨bt,0,none⟩)) rfl) rfl ?_
     refine xfv (ms rfl rfl (dtt cc33)) (by kernel_rfl) (xcj fun h_ H_=>xhx rfl) (tm':=zq1 (zq2 (zq4 (zq8 (zq16 (zq32 (zq32 (zq32 _)))))))) rfl ?_
     refine xfv (ms rfl rfl (dtt cc33)) (by kernel_rfl) (xcj fun h_ H_=>xaz ykw rfl (a':=⟨bt,3,none⟩) rfl) rfl ?_
     refine xfv (ms rfl rfl (dtt cc33)) (by kernel_rfl) (xcj fun h_ H_=>xaz zov rfl (a':=⟨bt,3,none⟩) rfl) (tm':=zq1 (zq32 (zq32 (zq32 (zq32 _))))) rfl ?_
     refine xfv (ms rfl rfl (dtt cc33)) (by kernel_rfl) (xcj fun h_ H_=>xbj H_ tA3 rfl (v:=.int .i64 (wi.house)) (xjx hb rfl)) rfl ?_
     refine xfv (ms rfl rfl (dtt cc33)) (by kernel_rfl) (xcj fun h_ H_=>xkw rfl rfl) (tm':=zq1 (zq2 (zq32 (zq32 (zq32 (zq32 _)))))) rfl ?_
     refine xfv (ms rfl rfl (dtt cc33)) (by kernel_rfl) (xtq (first:=[]) (cap:=[.pointer (some ⟨b1,0,none⟩)]) rfl rfl zmx fun h_ H_=>((show CallsX Tryd.prog md 113 _ h_ (fun v h'=>v= .int .i64 (bh wi l)∧Keep h_ h') from c113 md _ _ (H_.perO (i:=0) rfl) (((l:Nat):Int)=wi.house) _ _ _ _ _ _ _ _ _ xpj (H_.leO (i:=0) rfl _ _ hb))).mono fun v_ h2_ ⟨e_,k_⟩=>⟨e_,H_.call k_⟩) rfl ?_
     refine xfv (ms rfl rfl (dtt cc33)) (by kernel_rfl) (xcj fun h_ H_=>xkj rfl rfl (wr (by have z_:=hl_ (by omega);have z1_:=xhv (show (lack t d l).toNat-1≤10 by omega);have z2_:=xhv (show (lack t d l).toNat≤10 by omega);have z3_:=xhv (show (lack t d l).toNat+1≤10 by omega);have z4_:=S.bh l;omega))) (tm':=zq1 (zq4 (zq32 (zq32 (zq32 (zq32 _)))))) rfl ?_
     refine xfv (ms rfl rfl (dtt cc33)) (by kernel_rfl) (xcj fun h_ H_=>xiq tZ99 tP99 (vs:=[(0,.int .i64 (((t.nW+l:Nat):Int))),(1,.int .i64 ((((t.nW+t.nH)+1:Nat):Int))),(2,.int .i64 (((dear ((lack t d l).toNat-1))-(dear ((lack t d l).toNat)))-(bh wi l))),(3,.int .i64 (-1)),(4,.int .i64 0)]) rfl (cells:=#[.int .i64 (((t.nW+l:Nat):Int)),.int .i64 ((((t.nW+t.nH)+1:Nat):Int)),.int .i64 (((dear ((lack t d l).toNat-1))-(dear ((lack t d l).toNat)))-(bh wi l)),.int .i64 (-1),.int .i64 0]) rfl) rfl ?_
     refine zcv rfl (ms rfl rfl (dtt cc33)) rfl (vs:=[.agg #[.int .i64 (((t.nW+l:Nat):Int)),.int .i64 ((((t.nW+t.nH)+1:Nat):Int)),.int .i64 (((dear ((lack t d l).toNat-1))-(dear ((lack t d l).toNat)))-(bh wi l)),.int .i64 (-1),.int .i64 0]]) rfl (fun h_ H_=>((show CallV Tryd.prog md yv [.agg #[.int .i64 (((t.nW+l:Nat):Int)),.int .i64 ((((t.nW+t.nH)+1:Nat):Int)),.int .i64 (((dear ((lack t d l).toNat-1))-(dear ((lack t d l).toNat)))-(bh wi l)),.int .i64 (-1),.int .i64 0]] h_ (fun v h'=>∃ X',v= .bool true∧I ((outH t wi d l)++[(⟨t.nW+l,t.si,dear ((lack t d l).toNat-1)-dear (lack t d l).toNat-bh wi l,-1,0⟩:Go.X.Bf.Arc)]) X'∧St h₀ B₀ p h' (([(b1,.cells #[.pointer (some ⟨bt,0,none⟩)] 92 (0,0))]:Pcs)++(X'++(X13++(X12++[]))))) from by have e_:(.agg #[.int .i64 (((t.nW+l:Nat):Int)),.int .i64 ((((t.nW+t.nH)+1:Nat):Int)),.int .i64 (((dear ((lack t d l).toNat-1))-(dear ((lack t d l).toNat)))-(bh wi l)),.int .i64 (-1),.int .i64 0]:Value)=arcV ⟨t.nW+l,t.si,dear ((lack t d l).toNat-1)-dear (lack t d l).toNat-bh wi l,-1,0⟩:=yax (x:=⟨t.nW+l,t.si,dear ((lack t d l).toNat-1)-dear (lack t d l).toNat-bh wi l,-1,0⟩) rfl rfl (show ((dear ((lack t d l).toNat-1))-(dear ((lack t d l).toNat)))-(bh wi l)=dear ((lack t d l).toNat-1)-dear (lack t d l).toNat-bh wi l from by have z_:=hl_ (by omega);omega) rfl rfl;rw [e_];exact (hy _ _ h_ _ _ (wwx (by omega) (by assumption)) hI H_.yTo).mono fun v_ h2_ ⟨X_,e_,i_,N_⟩=>⟨X_,e_,i_,N_.yBack⟩)).mono fun v_ h2_ ⟨X_,e_,i_,N_⟩=>⟨e_,X_,i_,N_⟩) (tm':=zq1 (zq2 (zq4 (zq32 (zq32 (zq32 (zq32 _))))))) rfl ?_
     refine xgk (ms rfl rfl (dtt cc33)) (by kernel_rfl) (xcj fun h_ ⟨X3_,o3_,H_⟩=>xjw rfl) rfl ?_
     refine xgk mn (by kernel_rfl) (xcj fun h_ ⟨X3_,o3_,H_⟩=>xdz rfl (dtt cc33) (v:=.bool (!true)) rfl) (tm':=zq1 (zq8 (zq32 (zq32 (zq32 (zq32 _)))))) rfl ?_
     refine xgk mn (by kernel_rfl) (xcj fun h_ ⟨X3_,o3_,H_⟩=>xaq (v:=.bool (!true)) rfl) rfl ?_
     refine xgk (ms rfl rfl (xfw rfl)) (by kernel_rfl) (xcj fun h_ ⟨X3_,o3_,H_⟩=>xaq (v:=.int .i64 (lack t d l)) rfl) (tm':=zq1 (zq2 (zq8 (zq32 (zq32 (zq32 (zq32 _))))))) rfl ?_
     refine xgk (ms rfl rfl (xfw rfl)) (by kernel_rfl) (xcj fun h_ ⟨X3_,o3_,H_⟩=>xaj H_ tA92 rfl (i:=0) rfl (v:=.pointer (some ⟨bt,0,none⟩)) rfl) rfl ?_
     refine xgk (ms rfl rfl (xfw rfl)) (by kernel_rfl) (xcj fun h_ ⟨X3_,o3_,H_⟩=>xhx rfl) (tm':=zq1 (zq4 (zq8 (zq32 (zq32 (zq32 (zq32 _))))))) rfl ?_
     refine xgk (ms rfl rfl (xfw rfl)) (by kernel_rfl) (xcj fun h_ ⟨X3_,o3_,H_⟩=>xaz yaj rfl (a':=⟨bt,0,none⟩) rfl) rfl ?_
     refine xgk (ms rfl rfl (xfw rfl)) (by kernel_rfl) (xcj fun h_ ⟨X3_,o3_,H_⟩=>xaz xnx rfl (a':=⟨bt,0,none⟩) rfl) (tm':=zq1 (zq2 (zq4 (zq8 (zq32 (zq32 (zq32 (zq32 _)))))))) rfl ?_
     refine xgk (ms rfl rfl (xfw rfl)) (by kernel_rfl) (xcj fun h_ ⟨X3_,o3_,H_⟩=>xbj H_ tA22 rfl (v:=.slice a1 t.nH c1) (xjx hb rfl)) rfl ?_
     refine xgk (ms rfl rfl (xfw rfl)) (by kernel_rfl) (xcj fun h_ ⟨X3_,o3_,H_⟩=>xaq (v:=.int .i64 (((l:Nat):Int))) rfl) (tm':=zq1 (zq16 (zq32 (zq32 (zq32 (zq32 _)))))) rfl ?_
     refine xgk (ms rfl rfl (xfw rfl)) (by kernel_rfl) (xcj fun h_ ⟨X3_,o3_,H_⟩=>xbw (i:=l) Tryd.underlying22 tS3 (xjq a1 t.nH c1 (T.h.ne (by omega))) rfl (by omega)) rfl ?_
     refine xgk (ms rfl rfl (xfw rfl)) (by kernel_rfl) (xcj fun h_ ⟨X3_,o3_,H_⟩=>xbj H_ tA3 rfl (v:=.int .i64 (t.hv l)) (T.h.get (by omega))) (tm':=zq1 (zq2 (zq16 (zq32 (zq32 (zq32 (zq32 _))))))) rfl ?_
     refine xgk (ms rfl rfl (xfw rfl)) (by kernel_rfl) (xcj fun h_ ⟨X3_,o3_,H_⟩=>xgj rfl rfl) rfl ?_
     refine xgk (ms rfl rfl (xfw rfl)) (by kernel_rfl) (xcj fun h_ ⟨X3_,o3_,H_⟩=>xaq (v:=.bool (decide (lack t d l<t.hv l))) rfl) (tm':=zq2 (zq4 (zq8 (zq16 (zq32 (zq32 (zq32 (zq32 (zq32 (zq32 [])))))))))) rfl ?_
     refine xgk (ms rfl rfl (dtt cc34)) (by kernel_rfl) (xcj fun h_ ⟨X3_,o3_,H_⟩=>xaq (v:=yv) rfl) rfl ?_
     refine xgk (ms rfl rfl (dtt cc34)) (by kernel_rfl) (xcj fun h_ ⟨X3_,o3_,H_⟩=>xaq (v:=.int .i64 ((((t.nW+t.nH)+1:Nat):Int))) rfl) (tm':=zq2 (zq4 (zq8 (zq16 (zq32 (zq32 (zq32 (zq32 (zq32 (zq32 [])))))))))) rfl ?_
     refine xgk (ms rfl rfl (dtt cc34)) (by kernel_rfl) (xcj fun h_ ⟨X3_,o3_,H_⟩=>xaq (v:=.int .i64 (((t.nW:Nat):Int))) rfl) rfl ?_
     refine xgk (ms rfl rfl (dtt cc34)) (by kernel_rfl) (xcj fun h_ ⟨X3_,o3_,H_⟩=>xaq (v:=.int .i64 (((l:Nat):Int))) rfl) (tm':=zq2 (zq4 (zq8 (zq16 (zq32 (zq32 (zq32 (zq32 (zq32 (zq32 [])))))))))) rfl ?_
     refine xgk (ms rfl rfl (dtt cc34)) (by kernel_rfl) (xcj fun h_ ⟨X3_,o3_,H_⟩=>xek rfl rfl (n:=((t.nW+l:Nat):Int)) (wr (by have z_:=hl_ (by omega);have z1_:=xhv (show (lack t d l).toNat-1≤10 by omega);have z2_:=xhv (show (lack t d l).toNat≤10 by omega);have z3_:=xhv (show (lack t d l).toNat+1≤10 by omega);have z4_:=S.bh l;omega))) rfl ?_
     refine xgk (ms rfl rfl (dtt cc34)) (by kernel_rfl) (xcj fun h_ ⟨X3_,o3_,H_⟩=>xaq (v:=.int .i64 (lack t d l)) rfl) (tm':=zq2 (zq4 (zq8 (zq16 (zq32 (zq32 (zq32 (zq32 (zq32 (zq32 [])))))))))) rfl ?_
     refine xgk (ms rfl rfl (dtt cc34)) (by kernel_rfl) (xcj fun h_ ⟨X3_,o3_,H_⟩=>xek rfl rfl (wr (by have z_:=hl_ (by omega);have z1_:=xhv (show (lack t d l).toNat-1≤10 by omega);have z2_:=xhv (show (lack t d l).toNat≤10 by omega);have z3_:=xhv (show (lack t d l).toNat+1≤10 by omega);have z4_:=S.bh l;omega))) rfl ?_
     refine xgk (ms rfl rfl (dtt cc34)) (by kernel_rfl) (xtq (first:=[]) (cap:=[]) rfl rfl zhq fun h_ ⟨X3_,o3_,H_⟩=>(zhw md _ (z:=(lack t d l)+1) (x:=(lack t d l).toNat+1) (by have z_:=hl_ (by omega);omega) (by have z_:=hl_ (by omega);omega)).mono fun v_ h2_ ⟨e_,k_⟩=>⟨e_,X3_,o3_,H_.call k_⟩) (tm':=zq2 (zq4 (zq8 (zq16 (zq32 (zq32 (zq32 (zq32 (zq32 (zq32 [])))))))))) rfl ?_
     refine xgk (ms rfl rfl (dtt cc34)) (by kernel_rfl) (xcj fun h_ ⟨X3_,o3_,H_⟩=>xaq (v:=.int .i64 (lack t d l)) rfl) rfl ?_
     refine xgk (ms rfl rfl (dtt cc34)) (by kernel_rfl) (xtq (first:=[]) (cap:=[]) rfl rfl zhq fun h_ ⟨X3_,o3_,H_⟩=>(zhw md _ (z:=lack t d l) (x:=(lack t d l).toNat) (by have z_:=hl_ (by omega);omega) (by have z_:=hl_ (by omega);omega)).mono fun v_ h2_ ⟨e_,k_⟩=>⟨e_,X3_,o3_,H_.call k_⟩) (tm':=zq2 (zq4 (zq8 (zq16 (zq32 (zq32 (zq32 (zq32 (zq32 (zq32 [])))))))))) rfl ?_
     refine xgk (ms rfl rfl (dtt cc34)) (by kernel_rfl) (xcj fun h_ ⟨X3_,o3_,H_⟩=>xkj rfl rfl (wr (by have z_:=hl_ (by omega);have z1_:=xhv (show (lack t d l).toNat-1≤10 by omega);have z2_:=xhv (show (lack t d l).toNat≤10 by omega);have z3_:=xhv (show (lack t d l).toNat+1≤10 by omega);have z4_:=S.bh l;omega))) rfl ?_
     refine xgk (ms rfl rfl (dtt cc34)) (by kernel_rfl) (xcj fun h_ ⟨X3_,o3_,H_⟩=>xaq (v:=.func (.func 113) #[] #[.pointer (some ⟨b1,0,none⟩)]) rfl) (tm':=zq2 (zq4 (zq8 (zq16 (zq32 (zq32 (zq32 (zq32 (zq32 (zq32 [])))))))))) rfl ?_
     refine xgk (ms rfl rfl (dtt cc34)) (by kernel_rfl) (xcj fun h_ ⟨X3_,o3_,H_⟩=>xaq (v:=.int .i64 (((l:Nat):Int))) rfl) rfl ?_
     refine xgk (ms rfl rfl (dtt cc34)) (by kernel_rfl) (xcj fun h_ ⟨X3_,o3_,H_⟩=>xaj H_ tA92 rfl (i:=0) rfl (v:=.pointer (some ⟨bt,0,none⟩)) rfl) (tm':=zq2 (zq4 (zq8 (zq16 (zq32 (zq32 (zq32 (zq32 (zq32 (zq32 [])))))))))) rfl ?_
     refine xgk (ms rfl rfl (dtt cc34)) (by kernel_rfl) (xcj fun h_ ⟨X3_,o3_,H_⟩=>xhx rfl) rfl ?_
     refine xgk (ms rfl rfl (dtt cc34)) (by kernel_rfl) (xcj fun h_ ⟨X3_,o3_,H_⟩=>xaz ykw rfl (a':=⟨bt,3,none⟩) rfl) (tm':=zq2 (zq4 (zq8 (zq16 (zq32 (zq32 (zq32 (zq32 (zq32 (zq32 [])))))))))) rfl ?_
     refine xgk (ms rfl rfl (dtt cc34)) (by kernel_rfl) (xcj fun h_ ⟨X3_,o3_,H_⟩=>xaz zov rfl (a':=⟨bt,3,none⟩) rfl) rfl ?_
     refine xgk (ms rfl rfl (dtt cc34)) (by kernel_rfl) (xcj fun h_ ⟨X3_,o3_,H_⟩=>xbj H_ tA3 rfl (v:=.int .i64 (wi.house)) (xjx hb rfl)) (tm':=zq2 (zq4 (zq8 (zq16 (zq32 (zq32 (zq32 (zq32 (zq32 (zq32 [])))))))))) rfl ?_
     refine xgk (ms rfl rfl (dtt cc34)) (by kernel_rfl) (xcj fun h_ ⟨X3_,o3_,H_⟩=>xkw rfl rfl) rfl ?_
     refine xgk (ms rfl rfl (dtt cc34)) (by kernel_rfl) (xtq (first:=[]) (cap:=[.pointer (some ⟨b1,0,none⟩)]) rfl rfl zmx fun h_ ⟨X3_,o3_,H_⟩=>((show CallsX Tryd.prog md 113 _ h_ (fun v h'=>v= .int .i64 (bh wi l)∧Keep h_ h') from c113 md _ _ (H_.perO (i:=0) rfl) (((l:Nat):Int)=wi.house) _ _ _ _ _ _ _ _ _ xpj (H_.leO (i:=0) rfl _ _ hb))).mono fun v_ h2_ ⟨e_,k_⟩=>⟨e_,X3_,o3_,H_.call k_⟩) (tm':=zq2 (zq4 (zq8 (zq16 (zq32 (zq32 (zq32 (zq32 (zq32 (zq32 [])))))))))) rfl ?_
     refine xgk (ms rfl rfl (dtt cc34)) (by kernel_rfl) (xcj fun h_ ⟨X3_,o3_,H_⟩=>xek rfl rfl (wr (by have z_:=hl_ (by omega);have z1_:=xhv (show (lack t d l).toNat-1≤10 by omega);have z2_:=xhv (show (lack t d l).toNat≤10 by omega);have z3_:=xhv (show (lack t d l).toNat+1≤10 by omega);have z4_:=S.bh l;omega))) rfl ?_
     refine xgk (ms rfl rfl (dtt cc34)) (by kernel_rfl) (xcj fun h_ ⟨X3_,o3_,H_⟩=>xiq tZ99 tP99 (vs:=[(0,.int .i64 ((((t.nW+t.nH)+1:Nat):Int))),(1,.int .i64 (((t.nW+l:Nat):Int))),(2,.int .i64 (((dear ((lack t d l).toNat+1))-(dear ((lack t d l).toNat)))+(bh wi l))),(3,.int .i64 (-1)),(4,.int .i64 0)]) rfl (cells:=#[.int .i64 ((((t.nW+t.nH)+1:Nat):Int)),.int .i64 (((t.nW+l:Nat):Int)),.int .i64 (((dear ((lack t d l).toNat+1))-(dear ((lack t d l).toNat)))+(bh wi l)),.int .i64 (-1),.int .i64 0]) rfl) (tm':=zq2 (zq4 (zq8 (zq16 (zq32 (zq32 (zq32 (zq32 (zq32 (zq32 [])))))))))) rfl ?_
     refine ywj rfl (xgz fun X35=>xfq fun o36=>?_)
     refine xxx (ms rfl rfl (dtt cc34)) rfl (vs:=[.agg #[.int .i64 ((((t.nW+t.nH)+1:Nat):Int)),.int .i64 (((t.nW+l:Nat):Int)),.int .i64 (((dear ((lack t d l).toNat+1))-(dear ((lack t d l).toNat)))+(bh wi l)),.int .i64 (-1),.int .i64 0]]) rfl (R:=fun v_ h_=>∃ X_,v_= .bool true∧I (((outH t wi d l)++[(⟨t.nW+l,t.si,dear ((lack t d l).toNat-1)-dear (lack t d l).toNat-bh wi l,-1,0⟩:Go.X.Bf.Arc)])++[(⟨t.si,t.nW+l,dear ((lack t d l).toNat+1)-dear (lack t d l).toNat+bh wi l,-1,0⟩:Go.X.Bf.Arc)]) X_∧St h₀ B₀ p h_ (([(b1,.cells #[.pointer (some ⟨bt,0,none⟩)] 92 (0,0))]:Pcs)++(X_++(X13++(X12++[]))))) (fun h_ H_=>(show CallV Tryd.prog md yv [.agg #[.int .i64 ((((t.nW+t.nH)+1:Nat):Int)),.int .i64 (((t.nW+l:Nat):Int)),.int .i64 (((dear ((lack t d l).toNat+1))-(dear ((lack t d l).toNat)))+(bh wi l)),.int .i64 (-1),.int .i64 0]] h_ (fun v h'=>∃ X',v= .bool true∧I (((outH t wi d l)++[(⟨t.nW+l,t.si,dear ((lack t d l).toNat-1)-dear (lack t d l).toNat-bh wi l,-1,0⟩:Go.X.Bf.Arc)])++[(⟨t.si,t.nW+l,dear ((lack t d l).toNat+1)-dear (lack t d l).toNat+bh wi l,-1,0⟩:Go.X.Bf.Arc)]) X'∧St h₀ B₀ p h' (([(b1,.cells #[.pointer (some ⟨bt,0,none⟩)] 92 (0,0))]:Pcs)++(X'++(X13++(X12++[]))))) from by have e_:(.agg #[.int .i64 ((((t.nW+t.nH)+1:Nat):Int)),.int .i64 (((t.nW+l:Nat):Int)),.int .i64 (((dear ((lack t d l).toNat+1))-(dear ((lack t d l).toNat)))+(bh wi l)),.int .i64 (-1),.int .i64 0]:Value)=arcV ⟨t.si,t.nW+l,dear ((lack t d l).toNat+1)-dear (lack t d l).toNat+bh wi l,-1,0⟩:=yax (x:=⟨t.si,t.nW+l,dear ((lack t d l).toNat+1)-dear (lack t d l).toNat+bh wi l,-1,0⟩) rfl rfl (show ((dear ((lack t d l).toNat+1))-(dear ((lack t d l).toNat)))+(bh wi l)=dear ((lack t d l).toNat+1)-dear (lack t d l).toNat+bh wi l from by have z_:=hl_ (by omega);omega) rfl rfl;rw [e_];exact (hy _ _ h_ _ _ (vgj (by omega) (by assumption) (by assumption)) o36 H_.yTo).mono fun v_ h2_ ⟨X_,e_,i_,N_⟩=>⟨X_,e_,i_,N_.yBack⟩)) fun v_=>?_
     refine xgz fun X37=>xfq fun ev_=>xfq fun hI38=>?_
     subst ev_
     refine xfj (tm':=zq2 (zq4 (zq8 (zq16 (zq32 (zq32 (zq32 (zq32 (zq32 (zq32 [])))))))))) rfl ?_
     refine xbx (ms rfl rfl (dtt cc34)) (fun h_ H_=>xjw rfl) rfl ?_
     refine xbx (ms rfl rfl (xfw rfl)) (fun h_ H_=>xdz rfl (dtt cc34) (v:=.bool (!true)) rfl) rfl ?_
     refine rt (xej rfl (xfw rfl) (v:=.bool (!true)) rfl) (tm':=zq2 (zq4 (zq8 (zq16 (zq32 (zq32 (zq32 (zq32 (zq32 (zq32 [])))))))))) rfl <| xak <| xck rfl (xfw rfl) <| xcv <| xdq <| xbq ?_
     refine ro (xek rfl rfl (n:=((l+1:Nat):Int)) (wr (by omega))) ?_
     refine ro (xaq (v:=.int .i64 (((l+1:Nat):Int))) rfl) <| xak ?_
     exact fun h_ H_=>IH31 _ _ (by omega) h_ ⟨l+1,X37,rfl,(y_of rfl),(by omega),(by rw [← H_tt (t:=t) (w:=wi) (d:=d) (k:=l) (by assumption) (by assumption)];exact hI38),H_⟩
    ·
     refine ygv (Base1:=fun h_=>∃ X3_,I ((outH t wi d l)++[(⟨t.nW+l,t.si,dear ((lack t d l).toNat-1)-dear (lack t d l).toNat-bh wi l,-1,0⟩:Go.X.Bf.Arc)]) X3_∧St h₀ B₀ p h_ (([(b1,.cells #[.pointer (some ⟨bt,0,none⟩)] 92 (0,0))]:Pcs)++(X3_++(X13++(X12++[]))))) 62 25 [[],[0],[0,1],[0,1,2],[0,1,2],[0,1,2],[0,1,2,4,5],[0,1,2],[0,1,2],[0,1,2,8],[0,1,2,8,9],[0,1,2],[0,1,2,8,9,10,11],[0,1,2,8,9,10,11,12],[0,1,2],[0,1,2],[0,1,2],[0,1,2,16],[0,1,2,16,17],[0,1,2,16,17,18],[0,1,2,16,17,18,19],[0,1,2,15,16,17,18,19,20],[0,1,2,8,9,10,11,12,14,15,16,17,18,19,20,21],[0,1,2,8,9,10,11,12,13,14,15,16,17,18,19,20,21,22],[0,1,2,4,5,6,7,8,9,10,11,12,13,14,15,16,17,18,19,20,21,22,23],[0,1,2,3,4,5,6,7,8,9,10,11,12,13,14,15,16,17,18,19,20,21,22,23,24],[0,1,2,3,4,5,6,7,8,9,10,11,12,13,14,15,16,17,18,19,20,21,22,23,24,25],[0,1,2,3,4,5,6,7,8,9,10,11,12,13,14,15,16,17,18,19,20,21,22,23,24,25,26],[0,1,2,3,4,5,6,7,8,9,10,11,12,13,14,15,16,17,18,19,20,21,22,23,24,25,26,27],[0,1,2,3,4,5,6,7,8,9,10,11,12,13,14,15,16,17,18,19,20,21,22,23,24,25,26,27,28],[0,1,2,3,4,5,6,7,8,9,10,11,12,13,14,15,16,17,18,19,20,21,22,23,24,25,26,27,28],[0,1,2,3,4,5,6,7,8,9,10,11,12,13,14,15,16,17,18,19,20,21,22,23,24,25,26,27,28,30],[0,1,2,3,4,5,6,7,8,9,10,11,12,13,14,15,16,17,18,19,20,21,22,23,24,25,26,27,28,30,31],[0,1,2,3,4,5,6,7,8,9,10,11,12,13,14,15,16,17,18,19,20,21,22,23,24,25,26,27,28,30,31,32],[0,1,2,3,4,5,6,7,8,9,10,11,12,13,14,15,16,17,18,19,20,21,22,23,24,25,26,27,28,30,31,32,33],[0,1,2,3,4,5,6,7,8,9,10,11,12,13,14,15,16,17,18,19,20,21,22,23,24,25,26,27,28],[0,1,2,3,4,5,6,7,8,9,10,11,12,13,14,15,16,17,18,19,20,21,22,23,24,25,26,27,28,30,31,32,33,34,35],[0,1,2,3,4,5,6,7,8,9,10,11,12,13,14,15,16,17,18,19,20,21,22,23,24,25,26,27,28,30,31,32,33,34,35,36],[0,1,2,3,4,5,6,7,8,9,10,11,12,13,14,15,16,17,18,19,20,21,22,23,24,25,26,27,28,29,30,31,32,33,34,35,36,37],[0,1,2,3,4,5,6,7,8,9,10,11,12,13,14,15,16,17,18,19,20,21,22,23,24,25,26,27,28,29,30,31,32,33,34,35,36,37,38],[0,1,2,3,4,5,6,7,8,9,10,11,12,13,14,15,16,17,18,19,20,21,22,23,24,25,26,27,28,29,30,31,32,33,34,35,36,37,38,39],[0,1,2,3,4,5,6,7,8,9,10,11,12,13,14,15,16,17,18,19,20,21,22,23,24,25,26,27,28,29,30,31,32,33,34,35,36,37,38,39],[0,1,2,3,4,5,6,7,8,9,10,11,12,13,14,15,16,17,18,19,20,21,22,23,24,25,26,27,28,29,30,31,32,33,34,35,36,37,38,39],[0,1,2,3,4,5,6,7,8,9,10,11,12,13,14,15,16,17,18,19,20,21,22,23,24,25,26,27,28,29,30,31,32,33,34,35,36,37,38,39],[0,1,2,3,4,5,6,7,8,9,10,11,12,13,14,15,16,17,18,19,20,21,22,23,24,25,26,27,28,29,30,31,32,33,34,35,36,37,38,39,42,43],[0,1,2,3,4,5,6,7,8,9,10,11,12,13,14,15,16,17,18,19,20,21,22,23,24,25,26,27,28,29,30,31,32,33,34,35,36,37,38,39],[0,1,2,3,4,5,6,7,8,9,10,11,12,13,14,15,16,17,18,19,20,21,22,23,24,25,26,27,28,29,30,31,32,33,34,35,36,37,38,39,45],[0,1,2,3,4,5,6,7,8,9,10,11,12,13,14,15,16,17,18,19,20,21,22,23,24,25,26,27,28,29,30,31,32,33,34,35,36,37,38,39,45,46],[0,1,2,3,4,5,6,7,8,9,10,11,12,13,14,15,16,17,18,19,20,21,22,23,24,25,26,27,28,29,30,31,32,33,34,35,36,37,38,39],[0,1,2,3,4,5,6,7,8,9,10,11,12,13,14,15,16,17,18,19,20,21,22,23,24,25,26,27,28,29,30,31,32,33,34,35,36,37,38,39,45,46,47,48],[0,1,2,3,4,5,6,7,8,9,10,11,12,13,14,15,16,17,18,19,20,21,22,23,24,25,26,27,28,29,30,31,32,33,34,35,36,37,38,39,45,46,47,48,49],[0,1,2,3,4,5,6,7,8,9,10,11,12,13,14,15,16,17,18,19,20,21,22,23,24,25,26,27,28,29,30,31,32,33,34,35,36,37,38,39],[0,1,2,3,4,5,6,7,8,9,10,11,12,13,14,15,16,17,18,19,20,21,22,23,24,25,26,27,28,29,30,31,32,33,34,35,36,37,38,39],[0,1,2,3,4,5,6,7,8,9,10,11,12,13,14,15,16,17,18,19,20,21,22,23,24,25,26,27,28,29,30,31,32,33,34,35,36,37,38,39],[0,1,2,3,4,5,6,7,8,9,10,11,12,13,14,15,16,17,18,19,20,21,22,23,24,25,26,27,28,29,30,31,32,33,34,35,36,37,38,39,53],[0,1,2,3,4,5,6,7,8,9,10,11,12,13,14,15,16,17,18,19,20,21,22,23,24,25,26,27,28,29,30,31,32,33,34,35,36,37,38,39,53,54],[0,1,2,3,4,5,6,7,8,9,10,11,12,13,14,15,16,17,18,19,20,21,22,23,24,25,26,27,28,29,30,31,32,33,34,35,36,37,38,39,53,54,55],[0,1,2,3,4,5,6,7,8,9,10,11,12,13,14,15,16,17,18,19,20,21,22,23,24,25,26,27,28,29,30,31,32,33,34,35,36,37,38,39,53,54,55,56],[0,1,2,3,4,5,6,7,8,9,10,11,12,13,14,15,16,17,18,19,20,21,22,23,24,25,26,27,28,29,30,31,32,33,34,35,36,37,38,39,52,53,54,55,56,57],[0,1,2,3,4,5,6,7,8,9,10,11,12,13,14,15,16,17,18,19,20,21,22,23,24,25,26,27,28,29,30,31,32,33,34,35,36,37,38,39,45,46,47,48,49,51,52,53,54,55,56,57,58],[0,1,2,3,4,5,6,7,8,9,10,11,12,13,14,15,16,17,18,19,20,21,22,23,24,25,26,27,28,29,30,31,32,33,34,35,36,37,38,39,45,46,47,48,49,50,51,52,53,54,55,56,57,58,59],[0,1,2,3,4,5,6,7,8,9,10,11,12,13,14,15,16,17,18,19,20,21,22,23,24,25,26,27,28,29,30,31,32,33,34,35,36,37,38,39,41,42,43,44,45,46,47,48,49,50,51,52,53,54,55,56,57,58,59,60],[0,1,2,3,4,5,6,7,8,9,10,11,12,13,14,15,16,17,18,19,20,21,22,23,24,25,26,27,28,29,30,31,32,33,34,35,36,37,38,39,40,41,42,43,44,45,46,47,48,49,50,51,52,53,54,55,56,57,58,59,60,61],[0,1,2,3,4,5,6,7,8,9,10,11,12,13,14,15,16,17,18,19,20,21,22,23,24,25,26,27,28,29,30,31,32,33,34,35,36,37,38,39,40,41,42,43,44,45,46,47,48,49,50,51,52,53,54,55,56,57,58,59,60,61,62],[0,1,2,3,4,5,6,7,8,9,10,11,12,13,14,15,16,17,18,19,20,21,22,23,24,25,26,27,28,29,30,31,32,33,34,35,36,37,38,39,40,41,42,43,44,45,46,47,48,49,50,51,52,53,54,55,56,57,58,59,60,61,62,63],[0,1,2,3,4,5,6,7,8,9,10,11,12,13,14,15,16,17,18,19,20,21,22,23,24,25,26,27,28,29,30,31,32,33,34,35,36,37,38,39,40,41,42,43,44,45,46,47,48,49,50,51,52,53,54,55,56,57,58,59,60,61,62,63,64]] xkk (by kernel_rfl) (Nat.le_of_ble_eq_true rfl) (Nat.le_of_ble_eq_true rfl) ?_
     refine xfv mn (by kernel_rfl) (xcj fun h_ H_=>xaq (v:=.int .i64 (lack t d l)) rfl) (tm':=zq2 (zq4 (zq8 (zq32 (zq32 (zq32 _)))))) rfl ?_
     refine xfv mn (by kernel_rfl) (xcj fun h_ H_=>xkq rfl rfl) rfl ?_
     refine xfv mn (by kernel_rfl) (xcj fun h_ H_=>xaq (v:=.bool (decide (0<lack t d l))) rfl) (tm':=zq16 (zq32 (zq32 (zq32 _)))) rfl ?_
     refine xfv (ms rfl rfl (dtt cc33)) (by kernel_rfl) (xcj fun h_ H_=>xaq (v:=yv) rfl) rfl ?_
     refine xfv (ms rfl rfl (dtt cc33)) (by kernel_rfl) (xcj fun h_ H_=>xaq (v:=.int .i64 (((t.nW:Nat):Int))) rfl) (tm':=zq2 (zq16 (zq32 (zq32 (zq32 _))))) rfl ?_
     refine xfv (ms rfl rfl (dtt cc33)) (by kernel_rfl) (xcj fun h_ H_=>xaq (v:=.int .i64 (((l:Nat):Int))) rfl) rfl ?_
     refine xfv (ms rfl rfl (dtt cc33)) (by kernel_rfl) (xcj fun h_ H_=>xek rfl rfl (n:=((t.nW+l:Nat):Int)) (wr (by have z_:=hl_ (by omega);have z1_:=xhv (show (lack t d l).toNat-1≤10 by omega);have z2_:=xhv (show (lack t d l).toNat≤10 by omega);have z3_:=xhv (show (lack t d l).toNat+1≤10 by omega);have z4_:=S.bh l;omega))) (tm':=zq4 (zq16 (zq32 (zq32 (zq32 _))))) rfl ?_
     refine xfv (ms rfl rfl (dtt cc33)) (by kernel_rfl) (xcj fun h_ H_=>xaq (v:=.int .i64 ((((t.nW+t.nH)+1:Nat):Int))) rfl) rfl ?_
     refine xfv (ms rfl rfl (dtt cc33)) (by kernel_rfl) (xcj fun h_ H_=>xaq (v:=.int .i64 (lack t d l)) rfl) (tm':=zq2 (zq4 (zq16 (zq32 (zq32 (zq32 _)))))) rfl ?_
     refine xfv (ms rfl rfl (dtt cc33)) (by kernel_rfl) (xcj fun h_ H_=>xkj rfl rfl (wr (by have z_:=hl_ (by omega);have z1_:=xhv (show (lack t d l).toNat-1≤10 by omega);have z2_:=xhv (show (lack t d l).toNat≤10 by omega);have z3_:=xhv (show (lack t d l).toNat+1≤10 by omega);have z4_:=S.bh l;omega))) rfl ?_
     refine xfv (ms rfl rfl (dtt cc33)) (by kernel_rfl) (xtq (first:=[]) (cap:=[]) rfl rfl zhq fun h_ H_=>(zhw md _ (z:=(lack t d l)-1) (x:=(lack t d l).toNat-1) (by have z_:=hl_ (by omega);omega) (by have z_:=hl_ (by omega);omega)).mono fun v_ h2_ ⟨e_,k_⟩=>⟨e_,H_.call k_⟩) (tm':=zq8 (zq16 (zq32 (zq32 (zq32 _))))) rfl ?_
     refine xfv (ms rfl rfl (dtt cc33)) (by kernel_rfl) (xcj fun h_ H_=>xaq (v:=.int .i64 (lack t d l)) rfl) rfl ?_
     refine xfv (ms rfl rfl (dtt cc33)) (by kernel_rfl) (xtq (first:=[]) (cap:=[]) rfl rfl zhq fun h_ H_=>(zhw md _ (z:=lack t d l) (x:=(lack t d l).toNat) (by have z_:=hl_ (by omega);omega) (by have z_:=hl_ (by omega);omega)).mono fun v_ h2_ ⟨e_,k_⟩=>⟨e_,H_.call k_⟩) (tm':=zq2 (zq8 (zq16 (zq32 (zq32 (zq32 _)))))) rfl ?_
     refine xfv (ms rfl rfl (dtt cc33)) (by kernel_rfl) (xcj fun h_ H_=>xkj rfl rfl (wr (by have z_:=hl_ (by omega);have z1_:=xhv (show (lack t d l).toNat-1≤10 by omega);have z2_:=xhv (show (lack t d l).toNat≤10 by omega);have z3_:=xhv (show (lack t d l).toNat+1≤10 by omega);have z4_:=S.bh l;omega))) rfl ?_
     refine xfv (ms rfl rfl (dtt cc33)) (by kernel_rfl) (xcj fun h_ H_=>xaq (v:=.func (.func 113) #[] #[.pointer (some ⟨b1,0,none⟩)]) rfl) (tm':=zq4 (zq8 (zq16 (zq32 (zq32 (zq32 _)))))) rfl ?_
     refine xfv (ms rfl rfl (dtt cc33)) (by kernel_rfl) (xcj fun h_ H_=>xaq (v:=.int .i64 (((l:Nat):Int))) rfl) rfl ?_
     refine xfv (ms rfl rfl (dtt cc33)) (by kernel_rfl) (xcj fun h_ H_=>xaj H_ tA92 rfl (i:=0) rfl (v:=.pointer (some ⟨bt,0,none⟩)) rfl) (tm':=zq2 (zq4 (zq8 (zq16 (zq32 (zq32 (zq32 _))))))) rfl ?_
     refine xfv (ms rfl rfl (dtt cc33)) (by kernel_rfl) (xcj fun h_ H_=>xhx rfl) rfl ?_
     refine xfv (ms rfl rfl (dtt cc33)) (by kernel_rfl) (xcj fun h_ H_=>xaz ykw rfl (a':=⟨bt,3,none⟩) rfl) (tm':=zq32 (zq32 (zq32 (zq32 _)))) rfl ?_
     refine xfv (ms rfl rfl (dtt cc33)) (by kernel_rfl) (xcj fun h_ H_=>xaz zov rfl (a':=⟨bt,3,none⟩) rfl) rfl ?_
     refine xfv (ms rfl rfl (dtt cc33)) (by kernel_rfl) (xcj fun h_ H_=>xbj H_ tA3 rfl (v:=.int .i64 (wi.house)) (xjx hb rfl)) (tm':=zq2 (zq32 (zq32 (zq32 (zq32 _))))) rfl ?_
     refine xfv (ms rfl rfl (dtt cc33)) (by kernel_rfl) (xcj fun h_ H_=>xkw rfl rfl) rfl ?_
     refine xfv (ms rfl rfl (dtt cc33)) (by kernel_rfl) (xtq (first:=[]) (cap:=[.pointer (some ⟨b1,0,none⟩)]) rfl rfl zmx fun h_ H_=>((show CallsX Tryd.prog md 113 _ h_ (fun v h'=>v= .int .i64 (bh wi l)∧Keep h_ h') from c113 md _ _ (H_.perO (i:=0) rfl) (((l:Nat):Int)=wi.house) _ _ _ _ _ _ _ _ _ xpj (H_.leO (i:=0) rfl _ _ hb))).mono fun v_ h2_ ⟨e_,k_⟩=>⟨e_,H_.call k_⟩) (tm':=zq4 (zq32 (zq32 (zq32 (zq32 _))))) rfl ?_
     refine xfv (ms rfl rfl (dtt cc33)) (by kernel_rfl) (xcj fun h_ H_=>xkj rfl rfl (wr (by have z_:=hl_ (by omega);have z1_:=xhv (show (lack t d l).toNat-1≤10 by omega);have z2_:=xhv (show (lack t d l).toNat≤10 by omega);have z3_:=xhv (show (lack t d l).toNat+1≤10 by omega);have z4_:=S.bh l;omega))) rfl ?_
     refine xfv (ms rfl rfl (dtt cc33)) (by kernel_rfl) (xcj fun h_ H_=>xiq tZ99 tP99 (vs:=[(0,.int .i64 (((t.nW+l:Nat):Int))),(1,.int .i64 ((((t.nW+t.nH)+1:Nat):Int))),(2,.int .i64 (((dear ((lack t d l).toNat-1))-(dear ((lack t d l).toNat)))-(bh wi l))),(3,.int .i64 (-1)),(4,.int .i64 0)]) rfl (cells:=#[.int .i64 (((t.nW+l:Nat):Int)),.int .i64 ((((t.nW+t.nH)+1:Nat):Int)),.int .i64 (((dear ((lack t d l).toNat-1))-(dear ((lack t d l).toNat)))-(bh wi l)),.int .i64 (-1),.int .i64 0]) rfl) (tm':=zq2 (zq4 (zq32 (zq32 (zq32 (zq32 _)))))) rfl ?_
     refine zcv rfl (ms rfl rfl (dtt cc33)) rfl (vs:=[.agg #[.int .i64 (((t.nW+l:Nat):Int)),.int .i64 ((((t.nW+t.nH)+1:Nat):Int)),.int .i64 (((dear ((lack t d l).toNat-1))-(dear ((lack t d l).toNat)))-(bh wi l)),.int .i64 (-1),.int .i64 0]]) rfl (fun h_ H_=>((show CallV Tryd.prog md yv [.agg #[.int .i64 (((t.nW+l:Nat):Int)),.int .i64 ((((t.nW+t.nH)+1:Nat):Int)),.int .i64 (((dear ((lack t d l).toNat-1))-(dear ((lack t d l).toNat)))-(bh wi l)),.int .i64 (-1),.int .i64 0]] h_ (fun v h'=>∃ X',v= .bool true∧I ((outH t wi d l)++[(⟨t.nW+l,t.si,dear ((lack t d l).toNat-1)-dear (lack t d l).toNat-bh wi l,-1,0⟩:Go.X.Bf.Arc)]) X'∧St h₀ B₀ p h' (([(b1,.cells #[.pointer (some ⟨bt,0,none⟩)] 92 (0,0))]:Pcs)++(X'++(X13++(X12++[]))))) from by have e_:(.agg #[.int .i64 (((t.nW+l:Nat):Int)),.int .i64 ((((t.nW+t.nH)+1:Nat):Int)),.int .i64 (((dear ((lack t d l).toNat-1))-(dear ((lack t d l).toNat)))-(bh wi l)),.int .i64 (-1),.int .i64 0]:Value)=arcV ⟨t.nW+l,t.si,dear ((lack t d l).toNat-1)-dear (lack t d l).toNat-bh wi l,-1,0⟩:=yax (x:=⟨t.nW+l,t.si,dear ((lack t d l).toNat-1)-dear (lack t d l).toNat-bh wi l,-1,0⟩) rfl rfl (show ((dear ((lack t d l).toNat-1))-(dear ((lack t d l).toNat)))-(bh wi l)=dear ((lack t d l).toNat-1)-dear (lack t d l).toNat-bh wi l from by have z_:=hl_ (by omega);omega) rfl rfl;rw [e_];exact (hy _ _ h_ _ _ (wwx (by omega) (by assumption)) hI H_.yTo).mono fun v_ h2_ ⟨X_,e_,i_,N_⟩=>⟨X_,e_,i_,N_.yBack⟩)).mono fun v_ h2_ ⟨X_,e_,i_,N_⟩=>⟨e_,X_,i_,N_⟩) rfl ?_
     refine xgk (ms rfl rfl (dtt cc33)) (by kernel_rfl) (xcj fun h_ ⟨X3_,o3_,H_⟩=>xjw rfl) (tm':=zq8 (zq32 (zq32 (zq32 (zq32 _))))) rfl ?_
     refine xgk mn (by kernel_rfl) (xcj fun h_ ⟨X3_,o3_,H_⟩=>xdz rfl (dtt cc33) (v:=.bool (!true)) rfl) rfl ?_
     refine xgk mn (by kernel_rfl) (xcj fun h_ ⟨X3_,o3_,H_⟩=>xaq (v:=.bool (!true)) rfl) (tm':=zq2 (zq8 (zq32 (zq32 (zq32 (zq32 _)))))) rfl ?_
     refine xgk (ms rfl rfl (xfw rfl)) (by kernel_rfl) (xcj fun h_ ⟨X3_,o3_,H_⟩=>xaq (v:=.int .i64 (lack t d l)) rfl) rfl ?_
     refine xgk (ms rfl rfl (xfw rfl)) (by kernel_rfl) (xcj fun h_ ⟨X3_,o3_,H_⟩=>xaj H_ tA92 rfl (i:=0) rfl (v:=.pointer (some ⟨bt,0,none⟩)) rfl) (tm':=zq4 (zq8 (zq32 (zq32 (zq32 (zq32 _)))))) rfl ?_
     refine xgk (ms rfl rfl (xfw rfl)) (by kernel_rfl) (xcj fun h_ ⟨X3_,o3_,H_⟩=>xhx rfl) rfl ?_
     refine xgk (ms rfl rfl (xfw rfl)) (by kernel_rfl) (xcj fun h_ ⟨X3_,o3_,H_⟩=>xaz yaj rfl (a':=⟨bt,0,none⟩) rfl) (tm':=zq2 (zq4 (zq8 (zq32 (zq32 (zq32 (zq32 _))))))) rfl ?_
     refine xgk (ms rfl rfl (xfw rfl)) (by kernel_rfl) (xcj fun h_ ⟨X3_,o3_,H_⟩=>xaz xnx rfl (a':=⟨bt,0,none⟩) rfl) rfl ?_
     refine xgk (ms rfl rfl (xfw rfl)) (by kernel_rfl) (xcj fun h_ ⟨X3_,o3_,H_⟩=>xbj H_ tA22 rfl (v:=.slice a1 t.nH c1) (xjx hb rfl)) (tm':=zq16 (zq32 (zq32 (zq32 (zq32 _))))) rfl ?_
     refine xgk (ms rfl rfl (xfw rfl)) (by kernel_rfl) (xcj fun h_ ⟨X3_,o3_,H_⟩=>xaq (v:=.int .i64 (((l:Nat):Int))) rfl) rfl ?_
     refine xgk (ms rfl rfl (xfw rfl)) (by kernel_rfl) (xcj fun h_ ⟨X3_,o3_,H_⟩=>xbw (i:=l) Tryd.underlying22 tS3 (xjq a1 t.nH c1 (T.h.ne (by omega))) rfl (by omega)) (tm':=zq2 (zq16 (zq32 (zq32 (zq32 (zq32 _)))))) rfl ?_
     refine xgk (ms rfl rfl (xfw rfl)) (by kernel_rfl) (xcj fun h_ ⟨X3_,o3_,H_⟩=>xbj H_ tA3 rfl (v:=.int .i64 (t.hv l)) (T.h.get (by omega))) rfl ?_
     refine xgk (ms rfl rfl (xfw rfl)) (by kernel_rfl) (xcj fun h_ ⟨X3_,o3_,H_⟩=>xgj rfl rfl) (tm':=zq4 (zq16 (zq32 (zq32 (zq32 (zq32 _)))))) rfl ?_
     refine xgk (ms rfl rfl (xfw rfl)) (by kernel_rfl) (xcj fun h_ ⟨X3_,o3_,H_⟩=>xaq (v:=.bool (decide (lack t d l<t.hv l))) rfl) rfl ?_
     refine xmq (mo rfl rfl (dff cc34)) (tm':=zq2 (zq4 (zq8 (zq16 (zq32 (zq32 (zq32 (zq32 (zq32 (zq32 [])))))))))) rfl ?_
     refine xmq (mo rfl rfl (dff cc34)) rfl ?_
     refine xmq (mo rfl rfl (dff cc34)) (tm':=zq2 (zq4 (zq8 (zq16 (zq32 (zq32 (zq32 (zq32 (zq32 (zq32 [])))))))))) rfl ?_
     refine xmq (mo rfl rfl (dff cc34)) rfl ?_
     refine xmq (mo rfl rfl (dff cc34)) (tm':=zq2 (zq4 (zq8 (zq16 (zq32 (zq32 (zq32 (zq32 (zq32 (zq32 [])))))))))) rfl ?_
     refine xmq (mo rfl rfl (dff cc34)) rfl ?_
     refine xmq (mo rfl rfl (dff cc34)) (tm':=zq2 (zq4 (zq8 (zq16 (zq32 (zq32 (zq32 (zq32 (zq32 (zq32 [])))))))))) rfl ?_
     refine xmq (mo rfl rfl (dff cc34)) rfl ?_
     refine xmq (mo rfl rfl (dff cc34)) (tm':=zq2 (zq4 (zq8 (zq16 (zq32 (zq32 (zq32 (zq32 (zq32 (zq32 [])))))))))) rfl ?_
     refine xmq (mo rfl rfl (dff cc34)) rfl ?_
     refine xmq (mo rfl rfl (dff cc34)) (tm':=zq2 (zq4 (zq8 (zq16 (zq32 (zq32 (zq32 (zq32 (zq32 (zq32 [])))))))))) rfl ?_
     refine xmq (mo rfl rfl (dff cc34)) rfl ?_
     refine xmq (mo rfl rfl (dff cc34)) (tm':=zq2 (zq4 (zq8 (zq16 (zq32 (zq32 (zq32 (zq32 (zq32 (zq32 [])))))))))) rfl ?_
     refine xmq (mo rfl rfl (dff cc34)) rfl ?_
     refine xmq (mo rfl rfl (dff cc34)) (tm':=zq2 (zq4 (zq8 (zq16 (zq32 (zq32 (zq32 (zq32 (zq32 (zq32 [])))))))))) rfl ?_
     refine xmq (mo rfl rfl (dff cc34)) rfl ?_
     refine xmq (mo rfl rfl (dff cc34)) (tm':=zq2 (zq4 (zq8 (zq16 (zq32 (zq32 (zq32 (zq32 (zq32 (zq32 [])))))))))) rfl ?_
     refine xmq (mo rfl rfl (dff cc34)) rfl ?_
     refine xmq (mo rfl rfl (dff cc34)) (tm':=zq2 (zq4 (zq8 (zq16 (zq32 (zq32 (zq32 (zq32 (zq32 (zq32 [])))))))))) rfl ?_
     refine xmq (mo rfl rfl (dff cc34)) rfl ?_
     refine xmq (mo rfl rfl (dff cc34)) (tm':=zq2 (zq4 (zq8 (zq16 (zq32 (zq32 (zq32 (zq32 (zq32 (zq32 [])))))))))) rfl ?_
     refine xmq (mo rfl rfl (dff cc34)) rfl ?_
     refine ywj rfl (xgz fun X39=>xfq fun o40=>?_)
     refine xfx (mo rfl rfl (dff cc34)) (tm':=zq2 (zq4 (zq8 (zq16 (zq32 (zq32 (zq32 (zq32 (zq32 (zq32 [])))))))))) rfl <| rp (mo rfl rfl (dff cc34)) ?_
     refine xbx (ms rfl rfl (xfw rfl)) (fun h_ H_=>xej rfl (dff cc34) (v:=.bool (false)) rfl) rfl ?_
     refine rt (xej rfl (xfw rfl) (v:=.bool (false)) rfl) (tm':=zq2 (zq4 (zq8 (zq16 (zq32 (zq32 (zq32 (zq32 (zq32 (zq32 [])))))))))) rfl <| xak <| xck rfl rfl <| xcv <| xdq <| xbq ?_
     refine ro (xek rfl rfl (n:=((l+1:Nat):Int)) (wr (by omega))) ?_
     refine ro (xaq (v:=.int .i64 (((l+1:Nat):Int))) rfl) <| xak ?_
     exact fun h_ H_=>IH31 _ _ (by omega) h_ ⟨l+1,X39,rfl,(y_of rfl),(by omega),(by rw [← H_tf (t:=t) (w:=wi) (d:=d) (k:=l) (by assumption) (by assumption)];exact o40),H_⟩
   ·
    by_cases cc41:lack t d l<t.hv l
    ·
     refine xgx 62 [[],[0],[0,1],[],[],[],[4,5],[],[],[8],[8,9],[],[8,9,10,11],[],[],[],[0,1],[0,1,16],[0,1,16,17],[0,1,16,17,18],[0,1,16,17,18,19],[0,1,15,16,17,18,19,20],[0,1,8,9,10,11,12,14,15,16,17,18,19,20,21],[0,1,8,9,10,11,12,13,14,15,16,17,18,19,20,21],[0,1,4,5,6,7,8,9,10,11,12,13,14,15,16,17,18,19,20,21,23],[0,1,3,4,5,6,7,8,9,10,11,12,13,14,15,16,17,18,19,20,21,22,23,24],[0,1,3,4,5,6,7,8,9,10,11,12,13,14,15,16,17,18,19,20,21,22,23,24],[0,1,2,3,4,5,6,7,8,9,10,11,12,13,14,15,16,17,18,19,20,21,22,23,24,26],[0,1,2,3,4,5,6,7,8,9,10,11,12,13,14,15,16,17,18,19,20,21,22,23,24,25,26,27],[],[],[30],[30,31],[30,31,32],[30,31,32,33],[0,1,2,3,4,5,6,7,8,9,10,11,12,13,14,15,16,17,18,19,20,21,22,23,24,25,26,27],[0,1,2,3,4,5,6,7,8,9,10,11,12,13,14,15,16,17,18,19,20,21,22,23,24,25,26,27,30,31,32,33,34,35],[0,1,2,3,4,5,6,7,8,9,10,11,12,13,14,15,16,17,18,19,20,21,22,23,24,25,26,27,30,31,32,33,34,35,36],[0,1,2,3,4,5,6,7,8,9,10,11,12,13,14,15,16,17,18,19,20,21,22,23,24,25,26,27,29,30,31,32,33,34,35,36,37],[0,1,2,3,4,5,6,7,8,9,10,11,12,13,14,15,16,17,18,19,20,21,22,23,24,25,26,27,28,29,30,31,32,33,34,35,36,37,38],[],[],[],[],[42,43],[],[45],[45,46],[],[45,46,47,48],[],[],[],[0,1,2,3,4,5,6,7,8,9,10,11,12,13,14,15,16,17,18,19,20,21,22,23,24,25,26,27,28,29,30,31,32,33,34,35,36,37,38],[0,1,2,3,4,5,6,7,8,9,10,11,12,13,14,15,16,17,18,19,20,21,22,23,24,25,26,27,28,29,30,31,32,33,34,35,36,37,38,53],[0,1,2,3,4,5,6,7,8,9,10,11,12,13,14,15,16,17,18,19,20,21,22,23,24,25,26,27,28,29,30,31,32,33,34,35,36,37,38,53,54],[0,1,2,3,4,5,6,7,8,9,10,11,12,13,14,15,16,17,18,19,20,21,22,23,24,25,26,27,28,29,30,31,32,33,34,35,36,37,38,53,54,55],[0,1,2,3,4,5,6,7,8,9,10,11,12,13,14,15,16,17,18,19,20,21,22,23,24,25,26,27,28,29,30,31,32,33,34,35,36,37,38,53,54,55,56],[0,1,2,3,4,5,6,7,8,9,10,11,12,13,14,15,16,17,18,19,20,21,22,23,24,25,26,27,28,29,30,31,32,33,34,35,36,37,38,52,53,54,55,56,57],[0,1,2,3,4,5,6,7,8,9,10,11,12,13,14,15,16,17,18,19,20,21,22,23,24,25,26,27,28,29,30,31,32,33,34,35,36,37,38,45,46,47,48,49,51,52,53,54,55,56,57,58],[0,1,2,3,4,5,6,7,8,9,10,11,12,13,14,15,16,17,18,19,20,21,22,23,24,25,26,27,28,29,30,31,32,33,34,35,36,37,38,45,46,47,48,49,50,51,52,53,54,55,56,57,58],[0,1,2,3,4,5,6,7,8,9,10,11,12,13,14,15,16,17,18,19,20,21,22,23,24,25,26,27,28,29,30,31,32,33,34,35,36,37,38,41,42,43,44,45,46,47,48,49,50,51,52,53,54,55,56,57,58,60],[0,1,2,3,4,5,6,7,8,9,10,11,12,13,14,15,16,17,18,19,20,21,22,23,24,25,26,27,28,29,30,31,32,33,34,35,36,37,38,40,41,42,43,44,45,46,47,48,49,50,51,52,53,54,55,56,57,58,59,60,61],[0,1,2,3,4,5,6,7,8,9,10,11,12,13,14,15,16,17,18,19,20,21,22,23,24,25,26,27,29,30,31,32,33,34,35,36,37,38,40,41,42,43,44,45,46,47,48,49,50,51,52,53,54,55,56,57,58,59,60,61,62],[0,1,2,3,4,5,6,7,8,9,10,11,12,13,14,15,16,17,18,19,20,21,22,23,24,25,26,27,29,30,31,32,33,34,35,36,37,38,39,40,41,42,43,44,45,46,47,48,49,50,51,52,53,54,55,56,57,58,59,60,61,62,63],[]] xkk (by kernel_rfl) (Nat.le_of_ble_eq_true rfl) ?_
     refine wt (xaq (v:=.int .i64 (lack t d l)) rfl) (tm':=zq2 (zq4 (zq8 (zq32 (zq32 (zq32 _)))))) rfl <| wo (xkq rfl rfl) <| wt (xaq (v:=.bool (decide (0<lack t d l))) rfl) (tm':=zq16 (zq32 (zq32 (zq32 _)))) rfl <| wp (mo rfl rfl (dff cc33)) <| xex (mo rfl rfl (dff cc33)) (tm':=zq2 (zq16 (zq32 (zq32 (zq32 _))))) rfl <| wp (mo rfl rfl (dff cc33)) ?_
     refine xex (mo rfl rfl (dff cc33)) (tm':=zq4 (zq16 (zq32 (zq32 (zq32 _))))) rfl <| wp (mo rfl rfl (dff cc33)) <| xex (mo rfl rfl (dff cc33)) (tm':=zq2 (zq4 (zq16 (zq32 (zq32 (zq32 _)))))) rfl <| wp (mo rfl rfl (dff cc33)) <| xex (mo rfl rfl (dff cc33)) (tm':=zq8 (zq16 (zq32 (zq32 (zq32 _))))) rfl <| wp (mo rfl rfl (dff cc33)) ?_
     refine xex (mo rfl rfl (dff cc33)) (tm':=zq2 (zq8 (zq16 (zq32 (zq32 (zq32 _)))))) rfl <| wp (mo rfl rfl (dff cc33)) <| xex (mo rfl rfl (dff cc33)) (tm':=zq4 (zq8 (zq16 (zq32 (zq32 (zq32 _)))))) rfl <| wp (mo rfl rfl (dff cc33)) <| xex (mo rfl rfl (dff cc33)) (tm':=zq2 (zq4 (zq8 (zq16 (zq32 (zq32 (zq32 _))))))) rfl <| wp (mo rfl rfl (dff cc33)) ?_
     refine xex (mo rfl rfl (dff cc33)) (tm':=zq32 (zq32 (zq32 (zq32 _)))) rfl <| wp (mo rfl rfl (dff cc33)) <| xex (mo rfl rfl (dff cc33)) (tm':=zq2 (zq32 (zq32 (zq32 (zq32 _))))) rfl <| wp (mo rfl rfl (dff cc33)) <| xex (mo rfl rfl (dff cc33)) (tm':=zq4 (zq32 (zq32 (zq32 (zq32 _))))) rfl <| wp (mo rfl rfl (dff cc33)) ?_
     refine xex (mo rfl rfl (dff cc33)) (tm':=zq2 (zq4 (zq32 (zq32 (zq32 (zq32 _)))))) rfl <| wp (mo rfl rfl (dff cc33)) <| xex (mo rfl rfl (dff cc33)) (tm':=zq8 (zq32 (zq32 (zq32 (zq32 _))))) rfl <| wo (xej rfl (dff cc33) (v:=.bool (false)) rfl) <| wt (xaq (v:=.bool (false)) rfl) (tm':=zq2 (zq8 (zq32 (zq32 (zq32 (zq32 _)))))) rfl ?_
     refine xbk (ms rfl rfl rfl) (fun h_ H_=>xaq (v:=.int .i64 (lack t d l)) rfl) rfl ?_
     refine xbk (ms rfl rfl rfl) (fun h_ H_=>xaj H_ tA92 rfl (i:=0) rfl (v:=.pointer (some ⟨bt,0,none⟩)) rfl) (tm':=zq4 (zq8 (zq32 (zq32 (zq32 (zq32 _)))))) rfl ?_
     refine xbk (ms rfl rfl rfl) (fun h_ H_=>xhx rfl) rfl ?_
     refine xbk (ms rfl rfl rfl) (fun h_ H_=>xaz yaj rfl (a':=⟨bt,0,none⟩) rfl) (tm':=zq2 (zq4 (zq8 (zq32 (zq32 (zq32 (zq32 _))))))) rfl ?_
     refine xbk (ms rfl rfl rfl) (fun h_ H_=>xaz xnx rfl (a':=⟨bt,0,none⟩) rfl) rfl ?_
     refine xbk (ms rfl rfl rfl) (fun h_ H_=>xbj H_ tA22 rfl (v:=.slice a1 t.nH c1) (xjx hb rfl)) (tm':=zq16 (zq32 (zq32 (zq32 (zq32 _))))) rfl ?_
     refine xbk (ms rfl rfl rfl) (fun h_ H_=>xaq (v:=.int .i64 (((l:Nat):Int))) rfl) rfl ?_
     refine xbk (ms rfl rfl rfl) (fun h_ H_=>xbw (i:=l) Tryd.underlying22 tS3 (xjq a1 t.nH c1 (T.h.ne (by omega))) rfl (by omega)) (tm':=zq2 (zq16 (zq32 (zq32 (zq32 (zq32 _)))))) rfl ?_
     refine xbk (ms rfl rfl rfl) (fun h_ H_=>xbj H_ tA3 rfl (v:=.int .i64 (t.hv l)) (T.h.get (by omega))) rfl ?_
     refine xbk (ms rfl rfl rfl) (fun h_ H_=>xgj rfl rfl) (tm':=zq4 (zq16 (zq32 (zq32 (zq32 (zq32 _)))))) rfl ?_
     refine xbk (ms rfl rfl rfl) (fun h_ H_=>xaq (v:=.bool (decide (lack t d l<t.hv l))) rfl) rfl ?_
     refine xbk (ms rfl rfl (dtt cc41)) (fun h_ H_=>xaq (v:=yv) rfl) (tm':=zq2 (zq4 (zq8 (zq16 (zq32 (zq32 (zq32 (zq32 (zq32 (zq32 [])))))))))) rfl ?_
     refine xbk (ms rfl rfl (dtt cc41)) (fun h_ H_=>xaq (v:=.int .i64 ((((t.nW+t.nH)+1:Nat):Int))) rfl) rfl ?_
     refine xbk (ms rfl rfl (dtt cc41)) (fun h_ H_=>xaq (v:=.int .i64 (((t.nW:Nat):Int))) rfl) (tm':=zq2 (zq4 (zq8 (zq16 (zq32 (zq32 (zq32 (zq32 (zq32 (zq32 [])))))))))) rfl ?_
     refine xbk (ms rfl rfl (dtt cc41)) (fun h_ H_=>xaq (v:=.int .i64 (((l:Nat):Int))) rfl) rfl ?_
     refine xbk (ms rfl rfl (dtt cc41)) (fun h_ H_=>xek rfl rfl (n:=((t.nW+l:Nat):Int)) (wr (by have z_:=hl_ (by omega);have z1_:=xhv (show (lack t d l).toNat-1≤10 by omega);have z2_:=xhv (show (lack t d l).toNat≤10 by omega);have z3_:=xhv (show (lack t d l).toNat+1≤10 by omega);have z4_:=S.bh l;omega))) (tm':=zq2 (zq4 (zq8 (zq16 (zq32 (zq32 (zq32 (zq32 (zq32 (zq32 [])))))))))) rfl ?_
     refine xbk (ms rfl rfl (dtt cc41)) (fun h_ H_=>xaq (v:=.int .i64 (lack t d l)) rfl) rfl ?_
     refine xbk (ms rfl rfl (dtt cc41)) (fun h_ H_=>xek rfl rfl (wr (by have z_:=hl_ (by omega);have z1_:=xhv (show (lack t d l).toNat-1≤10 by omega);have z2_:=xhv (show (lack t d l).toNat≤10 by omega);have z3_:=xhv (show (lack t d l).toNat+1≤10 by omega);have z4_:=S.bh l;omega))) (tm':=zq2 (zq4 (zq8 (zq16 (zq32 (zq32 (zq32 (zq32 (zq32 (zq32 [])))))))))) rfl ?_
     refine xiv (ms rfl rfl (dtt cc41)) (first:=[]) (cap:=[]) rfl rfl zhq (fun h_ H_=>(zhw md _ (z:=(lack t d l)+1) (x:=(lack t d l).toNat+1) (by have z_:=hl_ (by omega);omega) (by have z_:=hl_ (by omega);omega)).mono fun v_ h2_ ⟨e_,k_⟩=>⟨e_,H_.call k_⟩) rfl ?_
     refine xbk (ms rfl rfl (dtt cc41)) (fun h_ H_=>xaq (v:=.int .i64 (lack t d l)) rfl) (tm':=zq2 (zq4 (zq8 (zq16 (zq32 (zq32 (zq32 (zq32 (zq32 (zq32 [])))))))))) rfl ?_
     refine xiv (ms rfl rfl (dtt cc41)) (first:=[]) (cap:=[]) rfl rfl zhq (fun h_ H_=>(zhw md _ (z:=lack t d l) (x:=(lack t d l).toNat) (by have z_:=hl_ (by omega);omega) (by have z_:=hl_ (by omega);omega)).mono fun v_ h2_ ⟨e_,k_⟩=>⟨e_,H_.call k_⟩) rfl ?_
     refine xbk (ms rfl rfl (dtt cc41)) (fun h_ H_=>xkj rfl rfl (wr (by have z_:=hl_ (by omega);have z1_:=xhv (show (lack t d l).toNat-1≤10 by omega);have z2_:=xhv (show (lack t d l).toNat≤10 by omega);have z3_:=xhv (show (lack t d l).toNat+1≤10 by omega);have z4_:=S.bh l;omega))) (tm':=zq2 (zq4 (zq8 (zq16 (zq32 (zq32 (zq32 (zq32 (zq32 (zq32 [])))))))))) rfl ?_
     refine xbk (ms rfl rfl (dtt cc41)) (fun h_ H_=>xaq (v:=.func (.func 113) #[] #[.pointer (some ⟨b1,0,none⟩)]) rfl) rfl ?_
     refine xbk (ms rfl rfl (dtt cc41)) (fun h_ H_=>xaq (v:=.int .i64 (((l:Nat):Int))) rfl) (tm':=zq2 (zq4 (zq8 (zq16 (zq32 (zq32 (zq32 (zq32 (zq32 (zq32 [])))))))))) rfl ?_
     refine xbk (ms rfl rfl (dtt cc41)) (fun h_ H_=>xaj H_ tA92 rfl (i:=0) rfl (v:=.pointer (some ⟨bt,0,none⟩)) rfl) rfl ?_
     refine xbk (ms rfl rfl (dtt cc41)) (fun h_ H_=>xhx rfl) (tm':=zq2 (zq4 (zq8 (zq16 (zq32 (zq32 (zq32 (zq32 (zq32 (zq32 [])))))))))) rfl ?_
     refine xbk (ms rfl rfl (dtt cc41)) (fun h_ H_=>xaz ykw rfl (a':=⟨bt,3,none⟩) rfl) rfl ?_
     refine xbk (ms rfl rfl (dtt cc41)) (fun h_ H_=>xaz zov rfl (a':=⟨bt,3,none⟩) rfl) (tm':=zq2 (zq4 (zq8 (zq16 (zq32 (zq32 (zq32 (zq32 (zq32 (zq32 [])))))))))) rfl ?_
     refine xbk (ms rfl rfl (dtt cc41)) (fun h_ H_=>xbj H_ tA3 rfl (v:=.int .i64 (wi.house)) (xjx hb rfl)) rfl ?_
     refine xbk (ms rfl rfl (dtt cc41)) (fun h_ H_=>xkw rfl rfl) (tm':=zq2 (zq4 (zq8 (zq16 (zq32 (zq32 (zq32 (zq32 (zq32 (zq32 [])))))))))) rfl ?_
     refine xiv (ms rfl rfl (dtt cc41)) (first:=[]) (cap:=[.pointer (some ⟨b1,0,none⟩)]) rfl rfl zmx (fun h_ H_=>((show CallsX Tryd.prog md 113 _ h_ (fun v h'=>v= .int .i64 (bh wi l)∧Keep h_ h') from c113 md _ _ (H_.perO (i:=0) rfl) (((l:Nat):Int)=wi.house) _ _ _ _ _ _ _ _ _ xpj (H_.leO (i:=0) rfl _ _ hb))).mono fun v_ h2_ ⟨e_,k_⟩=>⟨e_,H_.call k_⟩) rfl ?_
     refine xbk (ms rfl rfl (dtt cc41)) (fun h_ H_=>xek rfl rfl (wr (by have z_:=hl_ (by omega);have z1_:=xhv (show (lack t d l).toNat-1≤10 by omega);have z2_:=xhv (show (lack t d l).toNat≤10 by omega);have z3_:=xhv (show (lack t d l).toNat+1≤10 by omega);have z4_:=S.bh l;omega))) (tm':=zq2 (zq4 (zq8 (zq16 (zq32 (zq32 (zq32 (zq32 (zq32 (zq32 [])))))))))) rfl ?_
     refine xbk (ms rfl rfl (dtt cc41)) (fun h_ H_=>xiq tZ99 tP99 (vs:=[(0,.int .i64 ((((t.nW+t.nH)+1:Nat):Int))),(1,.int .i64 (((t.nW+l:Nat):Int))),(2,.int .i64 (((dear ((lack t d l).toNat+1))-(dear ((lack t d l).toNat)))+(bh wi l))),(3,.int .i64 (-1)),(4,.int .i64 0)]) rfl (cells:=#[.int .i64 ((((t.nW+t.nH)+1:Nat):Int)),.int .i64 (((t.nW+l:Nat):Int)),.int .i64 (((dear ((lack t d l).toNat+1))-(dear ((lack t d l).toNat)))+(bh wi l)),.int .i64 (-1),.int .i64 0]) rfl) rfl ?_
     refine xiz rfl ?_
     refine xxx (ms rfl rfl (dtt cc41)) rfl (vs:=[.agg #[.int .i64 ((((t.nW+t.nH)+1:Nat):Int)),.int .i64 (((t.nW+l:Nat):Int)),.int .i64 (((dear ((lack t d l).toNat+1))-(dear ((lack t d l).toNat)))+(bh wi l)),.int .i64 (-1),.int .i64 0]]) rfl (R:=fun v_ h_=>∃ X_,v_= .bool true∧I ((outH t wi d l)++[(⟨t.si,t.nW+l,dear ((lack t d l).toNat+1)-dear (lack t d l).toNat+bh wi l,-1,0⟩:Go.X.Bf.Arc)]) X_∧St h₀ B₀ p h_ (([(b1,.cells #[.pointer (some ⟨bt,0,none⟩)] 92 (0,0))]:Pcs)++(X_++(X13++(X12++[]))))) (fun h_ H_=>(show CallV Tryd.prog md yv [.agg #[.int .i64 ((((t.nW+t.nH)+1:Nat):Int)),.int .i64 (((t.nW+l:Nat):Int)),.int .i64 (((dear ((lack t d l).toNat+1))-(dear ((lack t d l).toNat)))+(bh wi l)),.int .i64 (-1),.int .i64 0]] h_ (fun v h'=>∃ X',v= .bool true∧I ((outH t wi d l)++[(⟨t.si,t.nW+l,dear ((lack t d l).toNat+1)-dear (lack t d l).toNat+bh wi l,-1,0⟩:Go.X.Bf.Arc)]) X'∧St h₀ B₀ p h' (([(b1,.cells #[.pointer (some ⟨bt,0,none⟩)] 92 (0,0))]:Pcs)++(X'++(X13++(X12++[]))))) from by have e_:(.agg #[.int .i64 ((((t.nW+t.nH)+1:Nat):Int)),.int .i64 (((t.nW+l:Nat):Int)),.int .i64 (((dear ((lack t d l).toNat+1))-(dear ((lack t d l).toNat)))+(bh wi l)),.int .i64 (-1),.int .i64 0]:Value)=arcV ⟨t.si,t.nW+l,dear ((lack t d l).toNat+1)-dear (lack t d l).toNat+bh wi l,-1,0⟩:=yax (x:=⟨t.si,t.nW+l,dear ((lack t d l).toNat+1)-dear (lack t d l).toNat+bh wi l,-1,0⟩) rfl rfl (show ((dear ((lack t d l).toNat+1))-(dear ((lack t d l).toNat)))+(bh wi l)=dear ((lack t d l).toNat+1)-dear (lack t d l).toNat+bh wi l from by have z_:=hl_ (by omega);omega) rfl rfl;rw [e_];exact (hy _ _ h_ _ _ (vgz (by omega) (by assumption) (by assumption)) hI H_.yTo).mono fun v_ h2_ ⟨X_,e_,i_,N_⟩=>⟨X_,e_,i_,N_.yBack⟩)) fun v_=>?_
     refine xgz fun X42=>xfq fun ev_=>xfq fun hI43=>?_
     subst ev_
     refine xfj (tm':=zq2 (zq4 (zq8 (zq16 (zq32 (zq32 (zq32 (zq32 (zq32 (zq32 [])))))))))) rfl ?_
     refine xbx (ms rfl rfl (dtt cc41)) (fun h_ H_=>xjw rfl) rfl ?_
     refine xbx (ms rfl rfl rfl) (fun h_ H_=>xdz rfl (dtt cc41) (v:=.bool (!true)) rfl) rfl ?_
     refine rt (xej rfl rfl (v:=.bool (!true)) rfl) (tm':=zq2 (zq4 (zq8 (zq16 (zq32 (zq32 (zq32 (zq32 (zq32 (zq32 [])))))))))) rfl <| xak <| xck rfl (xfw rfl) <| xcv <| xdq <| xbq ?_
     refine ro (xek rfl rfl (n:=((l+1:Nat):Int)) (wr (by omega))) ?_
     refine ro (xaq (v:=.int .i64 (((l+1:Nat):Int))) rfl) <| xak ?_
     exact fun h_ H_=>IH31 _ _ (by omega) h_ ⟨l+1,X42,rfl,(y_of rfl),(by omega),(by rw [← H_ft (t:=t) (w:=wi) (d:=d) (k:=l) (by assumption) (by assumption)];exact hI43),H_⟩
    ·
     refine xgx 62 [[],[0],[0,1],[],[],[],[4,5],[],[],[8],[8,9],[],[8,9,10,11],[],[],[],[0,1],[0,1,16],[0,1,16,17],[0,1,16,17,18],[0,1,16,17,18,19],[0,1,15,16,17,18,19,20],[0,1,8,9,10,11,12,14,15,16,17,18,19,20,21],[0,1,8,9,10,11,12,13,14,15,16,17,18,19,20,21],[0,1,4,5,6,7,8,9,10,11,12,13,14,15,16,17,18,19,20,21,23],[0,1,3,4,5,6,7,8,9,10,11,12,13,14,15,16,17,18,19,20,21,22,23,24],[0,1,3,4,5,6,7,8,9,10,11,12,13,14,15,16,17,18,19,20,21,22,23,24],[0,1,2,3,4,5,6,7,8,9,10,11,12,13,14,15,16,17,18,19,20,21,22,23,24,26],[0,1,2,3,4,5,6,7,8,9,10,11,12,13,14,15,16,17,18,19,20,21,22,23,24,25,26,27],[],[],[30],[30,31],[30,31,32],[30,31,32,33],[0,1,2,3,4,5,6,7,8,9,10,11,12,13,14,15,16,17,18,19,20,21,22,23,24,25,26,27],[0,1,2,3,4,5,6,7,8,9,10,11,12,13,14,15,16,17,18,19,20,21,22,23,24,25,26,27,30,31,32,33,34,35],[0,1,2,3,4,5,6,7,8,9,10,11,12,13,14,15,16,17,18,19,20,21,22,23,24,25,26,27,30,31,32,33,34,35,36],[0,1,2,3,4,5,6,7,8,9,10,11,12,13,14,15,16,17,18,19,20,21,22,23,24,25,26,27,29,30,31,32,33,34,35,36,37],[0,1,2,3,4,5,6,7,8,9,10,11,12,13,14,15,16,17,18,19,20,21,22,23,24,25,26,27,28,29,30,31,32,33,34,35,36,37,38],[],[],[],[],[42,43],[],[45],[45,46],[],[45,46,47,48],[],[],[],[0,1,2,3,4,5,6,7,8,9,10,11,12,13,14,15,16,17,18,19,20,21,22,23,24,25,26,27,28,29,30,31,32,33,34,35,36,37,38],[0,1,2,3,4,5,6,7,8,9,10,11,12,13,14,15,16,17,18,19,20,21,22,23,24,25,26,27,28,29,30,31,32,33,34,35,36,37,38,53],[0,1,2,3,4,5,6,7,8,9,10,11,12,13,14,15,16,17,18,19,20,21,22,23,24,25,26,27,28,29,30,31,32,33,34,35,36,37,38,53,54],[0,1,2,3,4,5,6,7,8,9,10,11,12,13,14,15,16,17,18,19,20,21,22,23,24,25,26,27,28,29,30,31,32,33,34,35,36,37,38,53,54,55],[0,1,2,3,4,5,6,7,8,9,10,11,12,13,14,15,16,17,18,19,20,21,22,23,24,25,26,27,28,29,30,31,32,33,34,35,36,37,38,53,54,55,56],[0,1,2,3,4,5,6,7,8,9,10,11,12,13,14,15,16,17,18,19,20,21,22,23,24,25,26,27,28,29,30,31,32,33,34,35,36,37,38,52,53,54,55,56,57],[0,1,2,3,4,5,6,7,8,9,10,11,12,13,14,15,16,17,18,19,20,21,22,23,24,25,26,27,28,29,30,31,32,33,34,35,36,37,38,45,46,47,48,49,51,52,53,54,55,56,57,58],[0,1,2,3,4,5,6,7,8,9,10,11,12,13,14,15,16,17,18,19,20,21,22,23,24,25,26,27,28,29,30,31,32,33,34,35,36,37,38,45,46,47,48,49,50,51,52,53,54,55,56,57,58],[0,1,2,3,4,5,6,7,8,9,10,11,12,13,14,15,16,17,18,19,20,21,22,23,24,25,26,27,28,29,30,31,32,33,34,35,36,37,38,41,42,43,44,45,46,47,48,49,50,51,52,53,54,55,56,57,58,60],[0,1,2,3,4,5,6,7,8,9,10,11,12,13,14,15,16,17,18,19,20,21,22,23,24,25,26,27,28,29,30,31,32,33,34,35,36,37,38,40,41,42,43,44,45,46,47,48,49,50,51,52,53,54,55,56,57,58,59,60,61],[0,1,2,3,4,5,6,7,8,9,10,11,12,13,14,15,16,17,18,19,20,21,22,23,24,25,26,27,29,30,31,32,33,34,35,36,37,38,40,41,42,43,44,45,46,47,48,49,50,51,52,53,54,55,56,57,58,59,60,61,62],[0,1,2,3,4,5,6,7,8,9,10,11,12,13,14,15,16,17,18,19,20,21,22,23,24,25,26,27,29,30,31,32,33,34,35,36,37,38,39,40,41,42,43,44,45,46,47,48,49,50,51,52,53,54,55,56,57,58,59,60,61,62,63],[]] xkk (by kernel_rfl) (Nat.le_of_ble_eq_true rfl) ?_
     refine wt (xaq (v:=.int .i64 (lack t d l)) rfl) (tm':=zq2 (zq4 (zq8 (zq32 (zq32 (zq32 _)))))) rfl <| wo (xkq rfl rfl) <| wt (xaq (v:=.bool (decide (0<lack t d l))) rfl) (tm':=zq16 (zq32 (zq32 (zq32 _)))) rfl <| wp (mo rfl rfl (dff cc33)) <| xex (mo rfl rfl (dff cc33)) (tm':=zq2 (zq16 (zq32 (zq32 (zq32 _))))) rfl <| wp (mo rfl rfl (dff cc33)) ?_
     refine xex (mo rfl rfl (dff cc33)) (tm':=zq4 (zq16 (zq32 (zq32 (zq32 _))))) rfl <| wp (mo rfl rfl (dff cc33)) <| xex (mo rfl rfl (dff cc33)) (tm':=zq2 (zq4 (zq16 (zq32 (zq32 (zq32 _)))))) rfl <| wp (mo rfl rfl (dff cc33)) <| xex (mo rfl rfl (dff cc33)) (tm':=zq8 (zq16 (zq32 (zq32 (zq32 _))))) rfl <| wp (mo rfl rfl (dff cc33)) ?_
     refine xex (mo rfl rfl (dff cc33)) (tm':=zq2 (zq8 (zq16 (zq32 (zq32 (zq32 _)))))) rfl <| wp (mo rfl rfl (dff cc33)) <| xex (mo rfl rfl (dff cc33)) (tm':=zq4 (zq8 (zq16 (zq32 (zq32 (zq32 _)))))) rfl <| wp (mo rfl rfl (dff cc33)) <| xex (mo rfl rfl (dff cc33)) (tm':=zq2 (zq4 (zq8 (zq16 (zq32 (zq32 (zq32 _))))))) rfl <| wp (mo rfl rfl (dff cc33)) ?_
     refine xex (mo rfl rfl (dff cc33)) (tm':=zq32 (zq32 (zq32 (zq32 _)))) rfl <| wp (mo rfl rfl (dff cc33)) <| xex (mo rfl rfl (dff cc33)) (tm':=zq2 (zq32 (zq32 (zq32 (zq32 _))))) rfl <| wp (mo rfl rfl (dff cc33)) <| xex (mo rfl rfl (dff cc33)) (tm':=zq4 (zq32 (zq32 (zq32 (zq32 _))))) rfl <| wp (mo rfl rfl (dff cc33)) ?_
     refine xex (mo rfl rfl (dff cc33)) (tm':=zq2 (zq4 (zq32 (zq32 (zq32 (zq32 _)))))) rfl <| wp (mo rfl rfl (dff cc33)) <| xex (mo rfl rfl (dff cc33)) (tm':=zq8 (zq32 (zq32 (zq32 (zq32 _))))) rfl <| wo (xej rfl (dff cc33) (v:=.bool (false)) rfl) <| wt (xaq (v:=.bool (false)) rfl) (tm':=zq2 (zq8 (zq32 (zq32 (zq32 (zq32 _)))))) rfl ?_
     refine xbk (ms rfl rfl rfl) (fun h_ H_=>xaq (v:=.int .i64 (lack t d l)) rfl) rfl ?_
     refine xbk (ms rfl rfl rfl) (fun h_ H_=>xaj H_ tA92 rfl (i:=0) rfl (v:=.pointer (some ⟨bt,0,none⟩)) rfl) (tm':=zq4 (zq8 (zq32 (zq32 (zq32 (zq32 _)))))) rfl ?_
     refine xbk (ms rfl rfl rfl) (fun h_ H_=>xhx rfl) rfl ?_
     refine xbk (ms rfl rfl rfl) (fun h_ H_=>xaz yaj rfl (a':=⟨bt,0,none⟩) rfl) (tm':=zq2 (zq4 (zq8 (zq32 (zq32 (zq32 (zq32 _))))))) rfl ?_
     refine xbk (ms rfl rfl rfl) (fun h_ H_=>xaz xnx rfl (a':=⟨bt,0,none⟩) rfl) rfl ?_
     refine xbk (ms rfl rfl rfl) (fun h_ H_=>xbj H_ tA22 rfl (v:=.slice a1 t.nH c1) (xjx hb rfl)) (tm':=zq16 (zq32 (zq32 (zq32 (zq32 _))))) rfl ?_
     refine xbk (ms rfl rfl rfl) (fun h_ H_=>xaq (v:=.int .i64 (((l:Nat):Int))) rfl) rfl ?_
     refine xbk (ms rfl rfl rfl) (fun h_ H_=>xbw (i:=l) Tryd.underlying22 tS3 (xjq a1 t.nH c1 (T.h.ne (by omega))) rfl (by omega)) (tm':=zq2 (zq16 (zq32 (zq32 (zq32 (zq32 _)))))) rfl ?_
     refine xbk (ms rfl rfl rfl) (fun h_ H_=>xbj H_ tA3 rfl (v:=.int .i64 (t.hv l)) (T.h.get (by omega))) rfl ?_
     refine xbk (ms rfl rfl rfl) (fun h_ H_=>xgj rfl rfl) (tm':=zq4 (zq16 (zq32 (zq32 (zq32 (zq32 _)))))) rfl ?_
     refine xbk (ms rfl rfl rfl) (fun h_ H_=>xaq (v:=.bool (decide (lack t d l<t.hv l))) rfl) rfl ?_
     refine xex (mo rfl rfl (dff cc41)) (tm':=zq2 (zq4 (zq8 (zq16 (zq32 (zq32 (zq32 (zq32 (zq32 (zq32 [])))))))))) rfl <| wp (mo rfl rfl (dff cc41)) <| xex (mo rfl rfl (dff cc41)) (tm':=zq2 (zq4 (zq8 (zq16 (zq32 (zq32 (zq32 (zq32 (zq32 (zq32 [])))))))))) rfl <| wp (mo rfl rfl (dff cc41)) <| xex (mo rfl rfl (dff cc41)) (tm':=zq2 (zq4 (zq8 (zq16 (zq32 (zq32 (zq32 (zq32 (zq32 (zq32 [])))))))))) rfl <| wp (mo rfl rfl (dff cc41)) ?_
     refine xex (mo rfl rfl (dff cc41)) (tm':=zq2 (zq4 (zq8 (zq16 (zq32 (zq32 (zq32 (zq32 (zq32 (zq32 [])))))))))) rfl <| wp (mo rfl rfl (dff cc41)) <| xex (mo rfl rfl (dff cc41)) (tm':=zq2 (zq4 (zq8 (zq16 (zq32 (zq32 (zq32 (zq32 (zq32 (zq32 [])))))))))) rfl <| wp (mo rfl rfl (dff cc41)) <| xex (mo rfl rfl (dff cc41)) (tm':=zq2 (zq4 (zq8 (zq16 (zq32 (zq32 (zq32 (zq32 (zq32 (zq32 [])))))))))) rfl <| wp (mo rfl rfl (dff cc41)) ?_
     refine xex (mo rfl rfl (dff cc41)) (tm':=zq2 (zq4 (zq8 (zq16 (zq32 (zq32 (zq32 (zq32 (zq32 (zq32 [])))))))))) rfl <| wp (mo rfl rfl (dff cc41)) <| xex (mo rfl rfl (dff cc41)) (tm':=zq2 (zq4 (zq8 (zq16 (zq32 (zq32 (zq32 (zq32 (zq32 (zq32 [])))))))))) rfl <| wp (mo rfl rfl (dff cc41)) <| xex (mo rfl rfl (dff cc41)) (tm':=zq2 (zq4 (zq8 (zq16 (zq32 (zq32 (zq32 (zq32 (zq32 (zq32 [])))))))))) rfl <| wp (mo rfl rfl (dff cc41)) ?_
     refine xex (mo rfl rfl (dff cc41)) (tm':=zq2 (zq4 (zq8 (zq16 (zq32 (zq32 (zq32 (zq32 (zq32 (zq32 [])))))))))) rfl <| wp (mo rfl rfl (dff cc41)) <| xex (mo rfl rfl (dff cc41)) (tm':=zq2 (zq4 (zq8 (zq16 (zq32 (zq32 (zq32 (zq32 (zq32 (zq32 [])))))))))) rfl <| wp (mo rfl rfl (dff cc41)) ?_
     refine xiz rfl ?_
     refine rp (mo rfl rfl (dff cc41)) <| xfx (mo rfl rfl (dff cc41)) (tm':=zq2 (zq4 (zq8 (zq16 (zq32 (zq32 (zq32 (zq32 (zq32 (zq32 [])))))))))) rfl ?_
     refine xbx (ms rfl rfl rfl) (fun h_ H_=>xej rfl (dff cc41) (v:=.bool (false)) rfl) rfl ?_
     refine ro (xej rfl rfl (v:=.bool (false)) rfl) <| xak <| xck rfl rfl <| xcv <| xdq <| xbq ?_
     refine rt (xek rfl rfl (n:=((l+1:Nat):Int)) (wr (by omega))) (tm':=zq2 (zq4 (zq8 (zq16 (zq32 (zq32 (zq32 (zq32 (zq32 (zq32 [])))))))))) rfl ?_
     refine ro (xaq (v:=.int .i64 (((l+1:Nat):Int))) rfl) <| xak ?_
     exact fun h_ H_=>IH31 _ _ (by omega) h_ ⟨l+1,X,rfl,(y_of rfl),(by omega),(by rw [← H_ff (t:=t) (w:=wi) (d:=d) (k:=l) (by assumption) (by assumption)];exact hI),H_⟩
  ·
   refine xck rfl (dff cc32) <| xhz rfl <| fsr <| rd (fun h_ H_=>xaj H_ tA92 rfl (i:=0) rfl (v:=.pointer (some ⟨bt,0,none⟩)) rfl) <| rt (xhx rfl) (tm':=zq2 (zq4 (zq8 (zq16 (zq32 (zq32 (zq32 (zq32 (zq32 (zq32 [])))))))))) rfl <| ro (xaz yaj rfl (a':=⟨bt,0,none⟩) rfl) ?_
   refine ro (xaz xhj rfl (a':=⟨bt,2,none⟩) rfl) ?_
   refine xbx mn (fun h_ H_=>xbj H_ tA23 rfl (v:=.slice a3 t.m c3) (xjx hb rfl)) (tm':=zq2 (zq4 (zq8 (zq16 (zq32 (zq32 (zq32 (zq32 (zq32 (zq32 [])))))))))) rfl ?_
   refine ro (xfz Tryd.underlying23 rfl) <| ro (xaq (v:=.int .i64 0) rfl) <| xak <| xdj ?_
   refine xhk (m₀:=t.m-0) (fun m_ tm_ h_=>∃ (q:Nat) (X:Pcs),m_=t.m-q∧(∃ y44:Nat→Value,tm_=[.pointer (some ⟨bt,0,none⟩),yv,.pointer (some ⟨b1,0,none⟩),undef,w10,w11,.int .i64 (((t.nW:Nat):Int)),.int .i64 (((t.nW+t.nH:Nat):Int)),.int .i64 ((((t.nW+t.nH)+1:Nat):Int)),.func (.func 113) #[] #[.pointer (some ⟨b1,0,none⟩)],(y18 10),(y18 11),(y30 12),(y30 13),(y44 14),(y44 15),.tuple #[w10,w11],.pointer (some ⟨bt,0,none⟩),.pointer (some ⟨bt,0,none⟩),.pointer (some ⟨bt,0,none⟩),.agg #[.slice a1 t.nH c1,.slice a2 t.nW c2,.slice a3 t.m c3],.pointer (some ⟨bt,0,none⟩),.pointer (some ⟨bt,0,none⟩),.pointer (some ⟨bt,6,none⟩),.slice b t.m cb,.tuple #[w10,w11],w10,w11,.pointer (some ⟨bt,0,none⟩),.pointer (some ⟨bt,0,none⟩),.pointer (some ⟨bt,0,none⟩),.pointer (some ⟨bt,1,none⟩),.slice a2 t.nW c2,.int .i64 (((t.nW:Nat):Int)),.int .i64 (((t.nW:Nat):Int)),.pointer (some ⟨bt,0,none⟩),.pointer (some ⟨bt,0,none⟩),.pointer (some ⟨bt,0,none⟩),.pointer (some ⟨bt,0,none⟩),.slice a1 t.nH c1,.int .i64 (((t.nH:Nat):Int)),.int .i64 (((t.nW+t.nH:Nat):Int)),.int .i64 (((t.nW+t.nH:Nat):Int)),.int .i64 ((((t.nW+t.nH)+1:Nat):Int)),.func (.func 113) #[] #[.pointer (some ⟨b1,0,none⟩)],w11,.int .i64 (((t.nW:Nat):Int)),.int .i64 (((k:Nat):Int)),.bool (decide (((k:Nat):Int)<((t.nW:Nat):Int))),(y18 49),(y18 50),(y18 51),(y18 52),(y18 53),(y18 54),(y18 55),(y18 56),(y18 57),(y18 58),(y18 59),(y18 60),(y18 61),(y18 62),(y18 63),(y18 64),(y18 65),(y18 66),(y18 67),(y18 68),(y18 69),(y18 70),(y18 71),(y18 72),(y18 73),(y18 74),(y18 75),(y18 76),(y18 77),(y18 78),(y18 79),(y18 80),(y18 81),(y18 82),(y18 83),(y18 84),(y18 85),(y18 86),(y18 87),(y18 88),(y18 89),(y18 90),(y18 91),(y18 92),(y18 93),(y18 94),(y18 95),(y18 96),(y18 97),(y18 98),(y18 99),(y18 100),(y18 101),w10,.int .i64 (((t.nH:Nat):Int)),.int .i64 (((l:Nat):Int)),.bool (decide (((l:Nat):Int)<((t.nH:Nat):Int))),(y30 106),(y30 107),(y30 108),(y30 109),(y30 110),(y30 111),(y30 112),(y30 113),(y30 114),(y30 115),(y30 116),(y30 117),(y30 118),(y30 119),(y30 120),(y30 121),(y30 122),(y30 123),(y30 124),(y30 125),(y30 126),(y30 127),(y30 128),(y30 129),(y30 130),(y30 131),(y30 132),(y30 133),(y30 134),(y30 135),(y30 136),(y30 137),(y30 138),(y30 139),(y30 140),(y30 141),(y30 142),(y30 143),(y30 144),(y30 145),(y30 146),(y30 147),(y30 148),(y30 149),(y30 150),(y30 151),(y30 152),(y30 153),(y30 154),(y30 155),(y30 156),(y30 157),(y30 158),(y30 159),(y30 160),(y30 161),(y30 162),(y30 163),(y30 164),(y30 165),(y30 166),(y30 167),(y30 168),(y30 169),(y30 170),(y30 171),(y30 172),(y30 173),(y30 174),(y30 175),.pointer (some ⟨bt,0,none⟩),.pointer (some ⟨bt,0,none⟩),.pointer (some ⟨bt,0,none⟩),.pointer (some ⟨bt,2,none⟩),.slice a3 t.m c3,.int .i64 (((t.m:Nat):Int)),.int .i64 (((q:Nat):Int)),(y44 183),(y44 184),(y44 185),(y44 186),(y44 187),(y44 188),(y44 189),(y44 190),(y44 191),(y44 192),(y44 193),(y44 194),(y44 195),(y44 196),(y44 197),(y44 198),(y44 199),(y44 200),(y44 201),(y44 202),(y44 203),(y44 204),(y44 205),(y44 206),(y44 207),(y44 208),(y44 209),(y44 210),(y44 211),(y44 212),(y44 213),(y44 214),(y44 215),(y44 216),(y44 217),(y44 218),(y44 219),(y44 220),(y44 221)])∧(q≤t.m)∧(I (outY t wi d q) X)∧St h₀ B₀ p h_ (([(b1,.cells #[.pointer (some ⟨bt,0,none⟩)] 92 (0,0))]:Pcs)++(X++(X13++(X12++[]))))) (fun h_ H_=>⟨0,X,rfl,(y_of rfl),Nat.zero_le _,(by rw [wev];have e_:l=t.nH:=(by omega);rw [← e_];exact hI),H_⟩) ?_
   intro m_ tm_ IH45
   refine xhq fun q=>xhq fun X=>xcz fun hm_=>xcz fun ht_=>xcz fun hkq=>xcz fun hI=>?_
   subst hm_;obtain ⟨y44,ht_⟩:=ht_;subst ht_
   have hy_:=fun z_:q<t.m=>O.y q z_
   refine fsr <| rt (xgj rfl rfl) (tm':=zq2 (zq4 (zq8 (zq16 (zq32 (zq32 (zq32 (zq32 (zq32 (zq32 [])))))))))) rfl <| ren ?_
   by_cases cc46:((q:Nat):Int)<((t.m:Nat):Int)
   ·
    refine xdx rfl (dtt cc46) <| xcv <| xez <| xdj <| fsr <| ro (xaq (v:=.int .i64 (((q:Nat):Int))) rfl) ?_
    refine ro (xbw (i:=q) Tryd.underlying23 tS43 (xjq a3 t.m c3 (T.y.ne (by omega))) rfl (by omega)) ?_
    refine xbx mn (fun h_ H_=>xgw H_ tA43 tS43 rfl (vs:=[.int .i64 (((t.wh q:Nat):Int)),.int .i64 (((t.ww q:Nat):Int))]) rfl (T.y.allN (by omega) (O.yp _ (by omega)))) (tm':=zq2 (zq4 (zq8 (zq16 (zq32 (zq32 (zq32 (zq32 (zq32 (zq32 [])))))))))) rfl ?_
    refine xkx mn tZ43 rfl fun b47=>xcq (L':=([(b47,.cells #[.int .i64 0,.int .i64 0] 43 (0,0)),(b1,.cells #[.pointer (some ⟨bt,0,none⟩)] 92 (0,0))]:Pcs)++(X++(X13++(X12++[])))) rfl ?_
    refine ro (xax (v:=.int .i64 (((q:Nat):Int))) rfl) ?_
    refine xik mn tS43 rfl (v:=.agg #[.int .i64 (((t.wh q:Nat):Int)),.int .i64 (((t.ww q:Nat):Int))]) rfl (i:=0) rfl rfl rfl (Nat.le_of_ble_eq_true rfl) (cs2:=[.int .i64 (((t.wh q:Nat):Int)),.int .i64 (((t.ww q:Nat):Int))]) rfl (xcq (L':=([(b47,.cells #[.int .i64 (((t.wh q:Nat):Int)),.int .i64 (((t.ww q:Nat):Int))] 43 (0,0)),(b1,.cells #[.pointer (some ⟨bt,0,none⟩)] 92 (0,0))]:Pcs)++(X++(X13++(X12++[])))) rfl ?_)
    refine ren <| xbq <| rt (xaq (v:=yv) rfl) (tm':=zq2 (zq4 (zq8 (zq16 (zq32 (zq32 (zq32 (zq32 (zq32 (zq32 [])))))))))) rfl <| ro (xaz xqv rfl (a':=⟨b47,1,none⟩) rfl) <| rd (fun h_ H_=>xaj H_ tA3 rfl (i:=0) rfl (v:=.int .i64 (((t.ww q:Nat):Int))) rfl) <| rt (xaq (v:=.int .i64 (((t.nW:Nat):Int))) rfl) (tm':=zq2 (zq4 (zq8 (zq16 (zq32 (zq32 (zq32 (zq32 (zq32 (zq32 [])))))))))) rfl ?_
    refine ro (xaz xoj rfl (a':=⟨b47,0,none⟩) rfl) <| rd (fun h_ H_=>xaj H_ tA3 rfl (i:=0) rfl (v:=.int .i64 (((t.wh q:Nat):Int))) rfl) ?_
    refine rt (xek rfl rfl (n:=((t.nW+(t.wh q):Nat):Int)) (wr (by have z_:=hy_ (by omega);omega))) (tm':=zq2 (zq4 (zq8 (zq16 (zq32 (zq32 (zq32 (zq32 (zq32 (zq32 [])))))))))) rfl ?_
    refine ro (xaq (v:=.int .i64 (((q:Nat):Int))) rfl) <| ro (xiq tZ99 tP99 (vs:=[(0,.int .i64 (((t.ww q:Nat):Int))),(1,.int .i64 (((t.nW+(t.wh q):Nat):Int))),(2,.int .i64 0),(3,.int .i64 (((q:Nat):Int))),(4,.int .i64 1)]) rfl (cells:=#[.int .i64 (((t.ww q:Nat):Int)),.int .i64 (((t.nW+(t.wh q):Nat):Int)),.int .i64 0,.int .i64 (((q:Nat):Int)),.int .i64 1]) rfl) ?_
    refine xxx mn rfl (vs:=[.agg #[.int .i64 (((t.ww q:Nat):Int)),.int .i64 (((t.nW+(t.wh q):Nat):Int)),.int .i64 0,.int .i64 (((q:Nat):Int)),.int .i64 1]]) rfl (R:=fun v_ h_=>∃ X_,v_= .bool true∧I ((outY t wi d q)++[(⟨t.ww q,t.nW+t.wh q,0,q,1⟩:Go.X.Bf.Arc)]) X_∧St h₀ B₀ p h_ (([(b47,.cells #[.int .i64 (((t.wh q:Nat):Int)),.int .i64 (((t.ww q:Nat):Int))] 43 (0,0)),(b1,.cells #[.pointer (some ⟨bt,0,none⟩)] 92 (0,0))]:Pcs)++(X_++(X13++(X12++[]))))) (fun h_ H_=>(show CallV Tryd.prog md yv [.agg #[.int .i64 (((t.ww q:Nat):Int)),.int .i64 (((t.nW+(t.wh q):Nat):Int)),.int .i64 0,.int .i64 (((q:Nat):Int)),.int .i64 1]] h_ (fun v h'=>∃ X',v= .bool true∧I ((outY t wi d q)++[(⟨t.ww q,t.nW+t.wh q,0,q,1⟩:Go.X.Bf.Arc)]) X'∧St h₀ B₀ p h' (([(b47,.cells #[.int .i64 (((t.wh q:Nat):Int)),.int .i64 (((t.ww q:Nat):Int))] 43 (0,0)),(b1,.cells #[.pointer (some ⟨bt,0,none⟩)] 92 (0,0))]:Pcs)++(X'++(X13++(X12++[]))))) from by have e_:(.agg #[.int .i64 (((t.ww q:Nat):Int)),.int .i64 (((t.nW+(t.wh q):Nat):Int)),.int .i64 0,.int .i64 (((q:Nat):Int)),.int .i64 1]:Value)=arcV ⟨t.ww q,t.nW+t.wh q,0,q,1⟩:=yax (x:=⟨t.ww q,t.nW+t.wh q,0,q,1⟩) rfl rfl (show 0=0 from by omega) rfl rfl;rw [e_];exact (hy _ _ h_ _ _ (vfv (by omega)) hI H_.yTo).mono fun v_ h2_ ⟨X_,e_,i_,N_⟩=>⟨X_,e_,i_,N_.yBack⟩)) fun v_=>?_
    refine xgz fun X48=>xfq fun ev_=>xfq fun hI49=>?_
    subst ev_
    refine xfj (tm':=zq2 (zq4 (zq8 (zq16 (zq32 (zq32 (zq32 (zq32 (zq32 (zq32 [])))))))))) rfl ?_
    refine ro (xjw rfl) <| ro (xaq (v:=.bool (!true)) rfl) ?_
    refine xbx (ms rfl rfl (xfw rfl)) (fun h_ H_=>xaj H_ tA92 rfl (i:=1) rfl (v:=.pointer (some ⟨bt,0,none⟩)) rfl) (tm':=zq2 (zq4 (zq8 (zq16 (zq32 (zq32 (zq32 (zq32 (zq32 (zq32 [])))))))))) rfl ?_
    refine xbx (ms rfl rfl (xfw rfl)) (fun h_ H_=>xhx rfl) rfl ?_
    refine xbx (ms rfl rfl (xfw rfl)) (fun h_ H_=>xaz zok rfl (a':=⟨bt,6,none⟩) rfl) rfl ?_
    refine xbx (ms rfl rfl (xfw rfl)) (fun h_ H_=>xbj H_ tA22 rfl (v:=.slice b t.m cb) (xjx hb rfl)) (tm':=zq2 (zq4 (zq8 (zq16 (zq32 (zq32 (zq32 (zq32 (zq32 (zq32 [])))))))))) rfl ?_
    refine xbx (ms rfl rfl (xfw rfl)) (fun h_ H_=>xaq (v:=.int .i64 (((q:Nat):Int))) rfl) rfl ?_
    refine xbx (ms rfl rfl (xfw rfl)) (fun h_ H_=>xbw (i:=q) Tryd.underlying22 tS3 (xjq b t.m cb (D.ne (by omega))) rfl (by omega)) rfl ?_
    refine xbx (ms rfl rfl (xfw rfl)) (fun h_ H_=>xbj H_ tA3 rfl (v:=.int .i64 (dv d q)) (D.get (by omega))) (tm':=zq2 (zq4 (zq8 (zq16 (zq32 (zq32 (zq32 (zq32 (zq32 (zq32 [])))))))))) rfl ?_
    refine xbx (ms rfl rfl (xfw rfl)) (fun h_ H_=>xkq rfl rfl) rfl ?_
    refine xbx (ms rfl rfl (xfw rfl)) (fun h_ H_=>xaq (v:=.bool (decide (0<dv d q))) rfl) rfl ?_
    by_cases cc50:0<dv d q
    ·
     refine xbx (ms rfl rfl (dtt cc50)) (fun h_ H_=>xaq (v:=yv) rfl) (tm':=zq2 (zq4 (zq8 (zq16 (zq32 (zq32 (zq32 (zq32 (zq32 (zq32 [])))))))))) rfl ?_
     refine xbx (ms rfl rfl (dtt cc50)) (fun h_ H_=>xaq (v:=.int .i64 (((t.nW:Nat):Int))) rfl) rfl ?_
     refine xbx (ms rfl rfl (dtt cc50)) (fun h_ H_=>xaz xoj rfl (a':=⟨b47,0,none⟩) rfl) rfl ?_
     refine xbx (ms rfl rfl (dtt cc50)) (fun h_ H_=>xaj H_ tA3 rfl (i:=0) rfl (v:=.int .i64 (((t.wh q:Nat):Int))) rfl) (tm':=zq2 (zq4 (zq8 (zq16 (zq32 (zq32 (zq32 (zq32 (zq32 (zq32 [])))))))))) rfl ?_
     refine xbx (ms rfl rfl (dtt cc50)) (fun h_ H_=>xek rfl rfl (n:=((t.nW+(t.wh q):Nat):Int)) (wr (by have z_:=hy_ (by omega);omega))) rfl ?_
     refine xbx (ms rfl rfl (dtt cc50)) (fun h_ H_=>xaz xqv rfl (a':=⟨b47,1,none⟩) rfl) rfl ?_
     refine xbx (ms rfl rfl (dtt cc50)) (fun h_ H_=>xaj H_ tA3 rfl (i:=0) rfl (v:=.int .i64 (((t.ww q:Nat):Int))) rfl) (tm':=zq2 (zq4 (zq8 (zq16 (zq32 (zq32 (zq32 (zq32 (zq32 (zq32 [])))))))))) rfl ?_
     refine xbx (ms rfl rfl (dtt cc50)) (fun h_ H_=>xaq (v:=.int .i64 (((q:Nat):Int))) rfl) rfl ?_
     refine xbx (ms rfl rfl (dtt cc50)) (fun h_ H_=>xiq tZ99 tP99 (vs:=[(0,.int .i64 (((t.nW+(t.wh q):Nat):Int))),(1,.int .i64 (((t.ww q:Nat):Int))),(2,.int .i64 0),(3,.int .i64 (((q:Nat):Int))),(4,.int .i64 (-1))]) rfl (cells:=#[.int .i64 (((t.nW+(t.wh q):Nat):Int)),.int .i64 (((t.ww q:Nat):Int)),.int .i64 0,.int .i64 (((q:Nat):Int)),.int .i64 (-1)]) rfl) rfl ?_
     refine xxx (ms rfl rfl (dtt cc50)) rfl (vs:=[.agg #[.int .i64 (((t.nW+(t.wh q):Nat):Int)),.int .i64 (((t.ww q:Nat):Int)),.int .i64 0,.int .i64 (((q:Nat):Int)),.int .i64 (-1)]]) rfl (R:=fun v_ h_=>∃ X_,v_= .bool true∧I (((outY t wi d q)++[(⟨t.ww q,t.nW+t.wh q,0,q,1⟩:Go.X.Bf.Arc)])++[(⟨t.nW+t.wh q,t.ww q,0,q,-1⟩:Go.X.Bf.Arc)]) X_∧St h₀ B₀ p h_ (([(b47,.cells #[.int .i64 (((t.wh q:Nat):Int)),.int .i64 (((t.ww q:Nat):Int))] 43 (0,0)),(b1,.cells #[.pointer (some ⟨bt,0,none⟩)] 92 (0,0))]:Pcs)++(X_++(X13++(X12++[]))))) (fun h_ H_=>(show CallV Tryd.prog md yv [.agg #[.int .i64 (((t.nW+(t.wh q):Nat):Int)),.int .i64 (((t.ww q:Nat):Int)),.int .i64 0,.int .i64 (((q:Nat):Int)),.int .i64 (-1)]] h_ (fun v h'=>∃ X',v= .bool true∧I (((outY t wi d q)++[(⟨t.ww q,t.nW+t.wh q,0,q,1⟩:Go.X.Bf.Arc)])++[(⟨t.nW+t.wh q,t.ww q,0,q,-1⟩:Go.X.Bf.Arc)]) X'∧St h₀ B₀ p h' (([(b47,.cells #[.int .i64 (((t.wh q:Nat):Int)),.int .i64 (((t.ww q:Nat):Int))] 43 (0,0)),(b1,.cells #[.pointer (some ⟨bt,0,none⟩)] 92 (0,0))]:Pcs)++(X'++(X13++(X12++[]))))) from by have e_:(.agg #[.int .i64 (((t.nW+(t.wh q):Nat):Int)),.int .i64 (((t.ww q:Nat):Int)),.int .i64 0,.int .i64 (((q:Nat):Int)),.int .i64 (-1)]:Value)=arcV ⟨t.nW+t.wh q,t.ww q,0,q,-1⟩:=yax (x:=⟨t.nW+t.wh q,t.ww q,0,q,-1⟩) rfl rfl (show 0=0 from by omega) rfl rfl;rw [e_];exact (hy _ _ h_ _ _ (vfk (by omega) (by assumption)) hI49 H_.yTo).mono fun v_ h2_ ⟨X_,e_,i_,N_⟩=>⟨X_,e_,i_,N_.yBack⟩)) fun v_=>?_
     refine xgz fun X51=>xfq fun ev_=>xfq fun hI52=>?_
     subst ev_
     refine xfj (tm':=zq2 (zq4 (zq8 (zq16 (zq32 (zq32 (zq32 (zq32 (zq32 (zq32 [])))))))))) rfl ?_
     refine xbx (ms rfl rfl (dtt cc50)) (fun h_ H_=>xjw rfl) rfl ?_
     refine xbx (ms rfl rfl (xfw rfl)) (fun h_ H_=>xdz rfl (dtt cc50) (v:=.bool (!true)) rfl) rfl ?_
     refine rt (xej rfl (xfw rfl) (v:=.bool (!true)) rfl) (tm':=zq2 (zq4 (zq8 (zq16 (zq32 (zq32 (zq32 (zq32 (zq32 (zq32 [])))))))))) rfl <| xak <| xck rfl (xfw rfl) <| xcv <| xdq <| xbq ?_
     refine ro (xek rfl rfl (n:=((q+1:Nat):Int)) (wr (by omega))) ?_
     refine ro (xaq (v:=.int .i64 (((q+1:Nat):Int))) rfl) <| xak ?_
     exact fun h_ H_=>IH45 _ _ (by omega) h_ ⟨q+1,X51,rfl,(y_of rfl),(by omega),(by rw [← Y_t (t:=t) (w:=wi) (d:=d) (k:=q) (by assumption)];exact hI52),H_.drop⟩
    ·
     refine xfx (mo rfl rfl (dff cc50)) (tm':=zq2 (zq4 (zq8 (zq16 (zq32 (zq32 (zq32 (zq32 (zq32 (zq32 [])))))))))) rfl <| rp (mo rfl rfl (dff cc50)) <| rp (mo rfl rfl (dff cc50)) <| xfx (mo rfl rfl (dff cc50)) (tm':=zq2 (zq4 (zq8 (zq16 (zq32 (zq32 (zq32 (zq32 (zq32 (zq32 [])))))))))) rfl <| rp (mo rfl rfl (dff cc50)) <| rp (mo rfl rfl (dff cc50)) ?_
     refine xfx (mo rfl rfl (dff cc50)) (tm':=zq2 (zq4 (zq8 (zq16 (zq32 (zq32 (zq32 (zq32 (zq32 (zq32 [])))))))))) rfl <| rp (mo rfl rfl (dff cc50)) <| rp (mo rfl rfl (dff cc50)) <| xfx (mo rfl rfl (dff cc50)) (tm':=zq2 (zq4 (zq8 (zq16 (zq32 (zq32 (zq32 (zq32 (zq32 (zq32 [])))))))))) rfl <| rp (mo rfl rfl (dff cc50)) ?_
     refine xbx (ms rfl rfl (xfw rfl)) (fun h_ H_=>xej rfl (dff cc50) (v:=.bool (false)) rfl) rfl ?_
     refine rt (xej rfl (xfw rfl) (v:=.bool (false)) rfl) (tm':=zq2 (zq4 (zq8 (zq16 (zq32 (zq32 (zq32 (zq32 (zq32 (zq32 [])))))))))) rfl <| xak <| xck rfl rfl <| xcv <| xdq <| xbq ?_
     refine ro (xek rfl rfl (n:=((q+1:Nat):Int)) (wr (by omega))) ?_
     refine ro (xaq (v:=.int .i64 (((q+1:Nat):Int))) rfl) <| xak ?_
     exact fun h_ H_=>IH45 _ _ (by omega) h_ ⟨q+1,X48,rfl,(y_of rfl),(by omega),(by rw [← Y_f (t:=t) (w:=wi) (d:=d) (k:=q) (by assumption)];exact hI49),H_.drop⟩
   ·
    refine xck rfl (dff cc46) <| xhz rfl ?_
    refine zlw Tryd.func106 rfl (vs:=[]) (fun h_ H_=>rfl) (v:=.tuple #[]) rfl ?_
    have e_:q=t.m:=by omega
    exact fun h_ H_=>K _ _ ⟨_,(by rw [← hE,← vaq,← e_];exact hI),by simpa using (H_.dropA).sub (List.sublist_append_left _ _)⟩
end Go.Proofs.YtalfgojocdonhaaDoor
namespace Go.X
open Go.Conc
section
variable {P:Program} {md:Md} {f:FuncId} {r:Rd} {df:List Deferred} {k:List Item} {cs:List Frame} {Stop:Goroutine→Heap→Prop} {ops rest:List Oper} {tm:List Value}
  {h₀:Heap} {B₀:List Nat} {p:PHeap} {A C:Pcs} {ty:TypeId} {pos:String} {aft:Array Edge} {gd:Option (Nat × Bool)}
end
end Go.X
namespace Go.X
open Go.Conc
theorem wcj {w:Nat} {zc:List Value} (hz:zc.length=w) (hw:0<w): ∀ n:Nat,(List.range (n*w)).map (fun i=>zc.toArray[i % zc.toArray.size]!)=(List.replicate n zc).flatten
  | 0=>by simp
  | n+1=>by
    have e:(n+1)*w=n*w+w:=by rw [Nat.add_mul,Nat.one_mul]
    rw [e,List.range_add,List.map_append,wcj hz hw n,List.replicate_succ',List.flatten_append]
    congr 1
    rw [List.flatten_singleton,List.map_map]
    refine List.ext_getElem? fun i=>?_
    rw [List.getElem?_map]
    by_cases hi:i<w
    · have h1:(n*w+i) % w=i:=by rw [Nat.add_comm,Nat.add_mul_mod_self_right,Nat.mod_eq_of_lt hi]
      rw [List.getElem?_eq_getElem (by simpa using hi),List.getElem?_eq_getElem (by omega)]
      simp only [List.getElem_range,Option.map_some,Function.comp,List.size_toArray,hz,h1]
      congr 1
      rw [getElem!_pos zc.toArray i (by simp;omega)];simp
    · rw [List.getElem?_eq_none (by simp;omega),List.getElem?_eq_none (by omega)];rfl

section
variable {P:Program} {md:Md} {f:FuncId} {r:Rd} {df:List Deferred} {k:List Item} {cs:List Frame} {Stop:Goroutine→Heap→Prop} {ops rest:List Oper} {tm:List Value}
  {h₀ h:Heap} {B₀:List Nat} {p:PHeap} {A C:Pcs} {ty:TypeId} {pos:String} {aft:Array Edge} {gd:Option (Nat × Bool)}
theorem wtq {dd:Option Nat} {sT eT:TypeId} {x y:Operand} {n w by':Nat} {z:Value} {zc:List Value} {L:Pcs} (hT:P.underlying sT=some (.slice eT)) (hs:sizeT P eT=some w) (hz:zeroT P eT=some z) (hzs:z.cells=zc.toArray) (hzl:zc.length=w) (hw0:0<w) (hw5:w≤100)
    (hb:bytesT P eT=some by') (hx:evl tm x= .int .i64 ((n:Nat):Int)) (hy:evl tm y= .int .i64 ((n:Nat):Int)) (hn:n≤1000) (hb2:by'≤2 ^ 20) (s:St h₀ B₀ p h L):
    Ex P tm ⟨dd,.makeSlice sT x y,ty,pos,aft,gd⟩ h fun v h'=>∃ X,OwnS eT w v (List.replicate n zc) X∧St h₀ B₀ p h' (X++L):=by
  have hfl:((List.replicate n zc).flatten).length=n*w:=by simp [hzl]
  have hbuild: ∀ b,OwnS eT w (.slice (some ⟨b,0,none⟩) n n) (List.replicate n zc) [(b,.cells (List.replicate n zc).flatten.toArray eT (0,0))]:=fun b=>
    OwnS.build rfl (fun e he=>by rw [List.eq_of_mem_replicate he];exact hzl) (by simp) (by have:=Nat.mul_le_mul hn hw5;omega)
  obtain ⟨info,hi,hib⟩: ∃ i,P.info? eT=some i∧i.bytes=by':=by
    unfold bytesT at hb
    cases e:P.info? eT with
    | none=>rw [e] at hb;cases hb
    | some i=>rw [e] at hb;exact ⟨i,rfl,Option.some.inj hb⟩
  have hw:IntKind.i64.wrap ((n:Nat):Int)=((n:Nat):Int):=wr (by omega)
  have hmul:by'*n≤2 ^ 20*1000:=Nat.mul_le_mul hb2 hn
  unfold Ex
  simp only [execOp,hx,hy]
  refine xbz ?_
  unfold Instr.makeSlice
  refine xbz (xgq hT ?_)
  simp only [asInt]
  refine xbz (xbv ?_)
  refine xbz (xbv ?_)
  refine xbz (xoq hi ?_)
  simp only [hw,hib]
  rw [if_neg (by
    have h1: ¬ ((n:Nat):Int)<0:=by omega
    have h2: ¬ ((by':Nat):Int)*((n:Nat):Int)>2 ^ 48:=by
      have:((by':Nat):Int)*((n:Nat):Int)=((by'*n:Nat):Int):=by simp
      rw [this];omega
    simp only [Bool.or_eq_true,decide_eq_true_eq]
    rintro ((z | z) | z)
    · rcases z with z | z
      · exact h1 z
      · exact h2 z
    · exact h1 z
    · omega)]
  have ask: ∀ (b:Nat) (K:Unit→Heap→Prop),K () h→wpS P (askRoom b) h K:=by
    intro b K hK
    unfold askRoom
    split
    · exact ⟨rfl,hK⟩
    · exact xbv hK
  refine xbz (ask _ _ ?_)
  refine xbz (xmx hs ?_)
  simp only [Int.toNat_natCast]
  by_cases h0:n*w=0
  · have hn0:n=0:=(Nat.mul_eq_zero.1 h0).resolve_right (by omega)
    subst hn0
    simp only [Nat.zero_mul,if_true]
    refine xbz (xbv ?_)
    rw [show (Array.range 0).map ((#[]:Array Value)[· % (#[]:Array Value).size]!)=(List.replicate 0 zc).flatten.toArray from by rw [show Array.range 0=(#[]:Array Nat) from by simp,Array.map_empty];rfl]
    refine xbz (xqk ?_)
    refine xbv ?_
    exact xbv ⟨_,rfl,_,hbuild h.size,s.push _⟩
  · rw [if_neg h0]
    refine xbz (xpz hz ?_)
    refine xbz (xbv ?_)
    have hc:(Array.range (n*w)).map (z.cells[· % z.cells.size]!)=(List.replicate n zc).flatten.toArray:=by
      rw [hzs]
      apply Array.ext'
      simp only [Array.toList_map,Array.toList_range]
      exact wcj hzl hw0 n
    rw [hc]
    refine xbz (xqk ?_)
    refine xbv ?_
    exact xbv ⟨_,rfl,_,hbuild h.size,s.push _⟩
theorem yqk {dd:Nat} {sT eT:TypeId} {x y:Operand} {n w by':Nat} {z:Value} {zc:List Value} {q:Value→Pcs→Prop} (hm:Met ops tm ⟨some dd,.makeSlice sT x y,ty,pos,aft,gd⟩ true) (hT:P.underlying sT=some (.slice eT)) (hs:sizeT P eT=some w) (hz:zeroT P eT=some z) (hzs:z.cells=zc.toArray) (hzl:zc.length=w) (hw0:0<w) (hw5:w≤100)
    (hb:bytesT P eT=some by') (hx:evl tm x= .int .i64 ((n:Nat):Int)) (hy:evl tm y= .int .i64 ((n:Nat):Int)) (hn:n≤1000) (hb2:by'≤2 ^ 20) (hq: ∀ v X,OwnS eT w v (List.replicate n zc) X→q v X):
    Mix P md ops tm h₀ B₀ p A [] q ⟨some dd,.makeSlice sT x y,ty,pos,aft,gd⟩:=
  zfk hm fun C h s=>by
    rw [List.nil_append] at s
    exact xlz (wtq hT hs hz hzs hzl hw0 hw5 hb hx hy hn hb2 s) fun _ _ ⟨v,e,X,o,s'⟩=>⟨v,e,X,hq v X o,s'⟩
theorem wpw {T T':TypeId} {x y:Operand} {b off:Nat} {cs' cs2:List Value} {v:Value} {q:Value→Pcs→Prop} (hm:Met ops tm ⟨none,.store T x y,ty,pos,aft,gd⟩ true) (hs:sizeT P T=some 1)
    (hx:evl tm x= .pointer (some ⟨b,off,none⟩)) (hy:evl tm y=v) (hv:v.cells=#[v]∧isOne v=true) (hlen:off<cs'.length) (h2:cs'.set off v=cs2)
    (hq:q undef [(b,.cells cs2.toArray T' (0,0))]):Mix P md ops tm h₀ B₀ p A ([(b,.cells cs'.toArray T' (0,0))]++[]) q ⟨none,.store T x y,ty,pos,aft,gd⟩:=
  vak hm hs hx hy (by rw [hv.1];rfl) (by rw [hv.1];simp [hv.2]) (by rw [hv.1];exact hlen) (by rw [hv.1];simpa [setl] using h2) hq
end
end Go.X
