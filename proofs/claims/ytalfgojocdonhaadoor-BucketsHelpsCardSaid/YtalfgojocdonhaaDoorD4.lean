/-
  Part of proofs about buckets brought from wells to houses: a lone run, and what it computes. No condition.
-/
import Derived.Test.YtalfgojocdonhaaDoorD2
import Derived.Test.YtalfgojocdonhaaDoorD1
import Derived.Test.YtalfgojocdonhaaDoorD3
namespace Go.Proofs.YtalfgojocdonhaaDoor
open Go.X Go.X.Flow Go.Conc
set_option maxRecDepth 10000
set_option synthInstance.maxSize 2000

set_option maxHeartbeats 4000000
open Go.X.Bf (sweeps lab0 rel a0 far Chain)
theorem c97 (md:Md) (h:Heap) (p:PHeap) (hp:Per p h) (a1 a2 a3:Option Addr) (c1 c2 c3:Nat) (t:Tn) (T:TownP p a1 t.nH a2 t.nW a3 t.m t) (O:OkT t) (wi:Wi) (b:Option Addr) (cb:Nat) (d:List Int) (D:Ints p b t.m d) (Dv:Div t d) (S:Sg wi) (bt:Nat) (hb:p bt=some (.cells #[.slice a1 t.nH c1,.slice a2 t.nW c2,.slice a3 t.m c3,.int .i64 (wi.house),.int .i64 (wi.well),.int .i64 (wi.sign),.slice b t.m cb] 94 (0,0))) (G:Flow.Good t wi d):CallsX Tryd.prog md 97 #[.pointer (some ⟨bt,0,none⟩)] h fun v h'=>∃ w X,v= .tuple #[w,.int .i64 (costL t wi d)]∧OwnS 99 5 w (acs (pathL t wi d)) X∧New h h' X:=by
 refine xcx (Φ:=fun h_=>St h [] p h_ []) Tryd.func97 rfl (tm:=zq2 (zq4 (zq16 (zq32 (zq32 (zq32 [])))))) rfl ?_ (St.start h _ hp)
 intro c₀ cs Stop K
 have oH:=O.nh
 have oW:=O.nw
 have oM:=O.nm
 refine fsr <| ro (xax (v:=.slice none 0 0) rfl) <| ro (xax (v:=.int .i64 0) rfl) <| ren ?_
 refine xgx 12 [[],[0],[0,1],[0,1,2],[0,1,2,3],[0,1,2,3,4],[],[6],[6,7],[6,7,8],[6,7,8,9],[6,7,8,9,10],[0,1,2,3,4,5,6,7,8,9,10,11],[],[]] xkk (by kernel_rfl) (Nat.le_of_ble_eq_true rfl) ?_
 refine wo (xaq (v:=.pointer (some ⟨bt,0,none⟩)) rfl) <| wt (xhx rfl) (tm':=zq1 (zq4 (zq8 _))) rfl <| wo (xaz yaj rfl (a':=⟨bt,0,none⟩) rfl) <| wt (xaz xnk rfl (a':=⟨bt,1,none⟩) rfl) (tm':=zq1 (zq2 (zq4 (zq8 _)))) rfl <| wd (fun h_ H_=>xbj H_ tA22 rfl (v:=.slice a2 t.nW c2) (xjx hb rfl)) <| wt (xfz Tryd.underlying22 rfl) (tm':=zq1 (zq16 _)) rfl ?_
 refine wo (xaq (v:=.pointer (some ⟨bt,0,none⟩)) rfl) <| wt (xhx rfl) (tm':=zq1 (zq2 (zq16 _))) rfl <| wo (xaz yaj rfl (a':=⟨bt,0,none⟩) rfl) <| wt (xaz xnx rfl (a':=⟨bt,0,none⟩) rfl) (tm':=zq1 (zq4 (zq16 _))) rfl <| wd (fun h_ H_=>xbj H_ tA22 rfl (v:=.slice a1 t.nH c1) (xjx hb rfl)) <| wt (xfz Tryd.underlying22 rfl) (tm':=zq1 (zq2 (zq4 (zq16 _)))) rfl ?_
 refine xiz rfl ?_
 refine rt (xek rfl rfl (n:=((t.nW+t.nH:Nat):Int)) (wr (by omega))) (tm':=zq8 (zq16 _)) rfl ?_
 refine ro (xek rfl rfl (n:=(((t.nW+t.nH)+2:Nat):Int)) (wr (by omega))) ?_
 refine ro (xax (v:=.int .i64 ((((t.nW+t.nH)+2:Nat):Int))) rfl) <| ren ?_
 obtain ⟨Gb3,hG4_⟩:=sk1 (fun (v_:Value) (x_:Pcs) (b3:Nat)=>v_= .pointer (some ⟨b3,0,none⟩)∧x_=(([(b3,.cells #[.slice none 0 0] 22 (0,0))]:Pcs)++[]))
 obtain ⟨Gb4,hG5_⟩:=sk1 (fun (v_:Value) (x_:Pcs) (b4:Nat)=>v_= .pointer (some ⟨b4,0,none⟩)∧x_=(([(b4,.cells #[.slice none 0 0] 95 (0,0))]:Pcs)++[]))
 refine xxv (xlx (C:=[]) (A:=([]:Pcs)) 7 [] [] [1,3,5,6] [0,2] (fun _=>[]) (fun i_=>match i_ with | 6=>[4] | _=>[]) (fun i_=>match i_ with | 0=>[] | 1=>[0] | 2=>[] | 3=>[2] | 4=>[] | 5=>[] | 6=>[0,1,4,5] | _=>[]) (fun i_ val_ pc_ v_ x_=>match i_ with | 0=>v_= .int .i64 ((((t.nW+t.nH)+2:Nat):Int))∧x_=[] | 1=>OwnS 3 1 v_ (ics (List.replicate (t.nW+t.nH+2) (0:Int))) x_ | 2=>v_= .int .i64 ((((t.nW+t.nH)+2:Nat):Int))∧x_=[] | 3=>OwnS 99 5 v_ (acs (List.replicate (t.nW+t.nH+2) Go.X.Bf.a0)) x_ | 4=>∃ b3:Nat,v_= .pointer (some ⟨b3,0,none⟩)∧x_=(([(b3,.cells #[.slice none 0 0] 22 (0,0))]:Pcs)++[]) | 5=>∃ b4:Nat,v_= .pointer (some ⟨b4,0,none⟩)∧x_=(([(b4,.cells #[.slice none 0 0] 95 (0,0))]:Pcs)++[]) | 6=>v_=undef∧x_=[((Gb3 (val_ 4) (pc_ 4)),.cells #[(val_ 1)] 22 (0,0))] | _=>True) (fun val1=>(.pointer (some ⟨bt,0,none⟩)::undef::.slice none 0 0::.int .i64 0::.int .i64 ((((t.nW+t.nH)+2:Nat):Int))::(val1 4)::(val1 5)::zu4 (.pointer (some ⟨bt,0,none⟩)::.pointer (some ⟨bt,0,none⟩)::.pointer (some ⟨bt,0,none⟩)::.pointer (some ⟨bt,1,none⟩)::.slice a2 t.nW c2::.int .i64 (((t.nW:Nat):Int))::.pointer (some ⟨bt,0,none⟩)::.pointer (some ⟨bt,0,none⟩)::.pointer (some ⟨bt,0,none⟩)::.pointer (some ⟨bt,0,none⟩)::.slice a1 t.nH c1::.int .i64 (((t.nH:Nat):Int))::.int .i64 (((t.nW+t.nH:Nat):Int))::.int .i64 ((((t.nW+t.nH)+2:Nat):Int))::(val1 0)::(val1 1)::(val1 2)::(val1 3)::undef::zu8 (zu16 (zu16 (zu16 (zu16 (zu16 [])))))))) xkk (by kernel_rfl) (Nat.le_of_ble_eq_true rfl) (by kernel_rfl) (by kernel_rfl) (by kernel_rfl) (fun _ _=>⟨fun _ _ h=>h.2,⟨fun _ _ h=>h.2,trivial⟩⟩) (fun _=>by kernel_rfl) (by kernel_rfl) ?_ ?_) (fun h_ H_=>St.swap (A:=([]:Pcs)) (U:=[]) H_)
 ·
  refine xaw rfl (xdk ?_) ?_
  ·
   intro val1 pc2 hQ_ hX_
   obtain ⟨q_,hq0_⟩: ∃ q_:Value→Pcs→Prop,q_=(fun v_ x_=>v_= .int .i64 ((((t.nW+t.nH)+2:Nat):Int))∧x_=[]):=⟨_,rfl⟩
   refine ⟨(zq2 (zq4 (zq16 (zq32 (zq32 (zq32 [])))))),[],q_,rfl,rfl,(fun _ _ z_=>by subst hq0_;exact z_),?_⟩
   subst hq0_
   exact xdw mn (fun _ h_ H_=>xaq (v:=.int .i64 ((((t.nW+t.nH)+2:Nat):Int))) rfl) ⟨rfl,rfl⟩
  refine xaw rfl (xdk ?_) ?_
  ·
   intro val1 pc2 hQ_ hX_
   have e0_:val1 0= .int .i64 ((((t.nW+t.nH)+2:Nat):Int)):=(hQ_ 0 rfl).1
   obtain ⟨q_,hq0_⟩: ∃ q_:Value→Pcs→Prop,q_=(fun v_ x_=>OwnS 3 1 v_ (ics (List.replicate (t.nW+t.nH+2) (0:Int))) x_):=⟨_,rfl⟩
   refine ⟨(zq2 (zq4 (zq16 (zq32 (zq32 (zq32 [])))))),[],q_,(by rw [e0_]),rfl,(fun _ _ z_=>by subst hq0_;exact z_),?_⟩
   subst hq0_
   exact yqk (n:=(t.nW+t.nH)+2) (zc:=[.int .i64 0]) mn Tryd.underlying22 tS3 tZ3 rfl rfl (by decide) (by decide) tB3 rfl rfl (by omega) (by decide) fun _ _ o_=>o_.as (wck _)
  refine xaw rfl (xdk ?_) ?_
  ·
   intro val1 pc2 hQ_ hX_
   obtain ⟨q_,hq0_⟩: ∃ q_:Value→Pcs→Prop,q_=(fun v_ x_=>v_= .int .i64 ((((t.nW+t.nH)+2:Nat):Int))∧x_=[]):=⟨_,rfl⟩
   refine ⟨(zq2 (zq4 (zq16 (zq32 (zq32 (zq32 [])))))),[],q_,rfl,rfl,(fun _ _ z_=>by subst hq0_;exact z_),?_⟩
   subst hq0_
   exact xdw mn (fun _ h_ H_=>xaq (v:=.int .i64 ((((t.nW+t.nH)+2:Nat):Int))) rfl) ⟨rfl,rfl⟩
  refine xaw rfl (xdk ?_) ?_
  ·
   intro val1 pc2 hQ_ hX_
   have e2_:val1 2= .int .i64 ((((t.nW+t.nH)+2:Nat):Int)):=(hQ_ 2 rfl).1
   obtain ⟨q_,hq0_⟩: ∃ q_:Value→Pcs→Prop,q_=(fun v_ x_=>OwnS 99 5 v_ (acs (List.replicate (t.nW+t.nH+2) Go.X.Bf.a0)) x_):=⟨_,rfl⟩
   refine ⟨(zq2 (zq4 (zq16 (zq32 (zq32 (zq32 [])))))),[],q_,(by rw [e2_]),rfl,(fun _ _ z_=>by subst hq0_;exact z_),?_⟩
   subst hq0_
   exact yqk (n:=(t.nW+t.nH)+2) (zc:=[.int .i64 0,.int .i64 0,.int .i64 0,.int .i64 0,.int .i64 0]) mn Tryd.underlying95 tS99 tZ99 rfl rfl (by decide) (by decide) tB99 rfl rfl (by omega) (by decide) fun _ _ o_=>o_.as (wzk _)
  refine xaw rfl (xdk ?_) ?_
  ·
   intro val1 pc2 hQ_ hX_
   obtain ⟨q_,hq0_⟩: ∃ q_:Value→Pcs→Prop,q_=(fun v_ x_=>∃ b3:Nat,v_= .pointer (some ⟨b3,0,none⟩)∧x_=(([(b3,.cells #[.slice none 0 0] 22 (0,0))]:Pcs)++[])):=⟨_,rfl⟩
   refine ⟨(zq2 (zq4 (zq16 (zq32 (zq32 (zq32 [])))))),[],q_,rfl,rfl,(fun _ _ z_=>by subst hq0_;exact z_),?_⟩
   subst hq0_
   exact zfv mn tZ22 rfl fun b_=>⟨b_,rfl,rfl⟩
  refine xaw rfl (xdk ?_) ?_
  ·
   intro val1 pc2 hQ_ hX_
   obtain ⟨q_,hq0_⟩: ∃ q_:Value→Pcs→Prop,q_=(fun v_ x_=>∃ b4:Nat,v_= .pointer (some ⟨b4,0,none⟩)∧x_=(([(b4,.cells #[.slice none 0 0] 95 (0,0))]:Pcs)++[])):=⟨_,rfl⟩
   refine ⟨(zq2 (zq4 (zq16 (zq32 (zq32 (zq32 [])))))),[],q_,rfl,rfl,(fun _ _ z_=>by subst hq0_;exact z_),?_⟩
   subst hq0_
   exact zfv mn tZ95 rfl fun b_=>⟨b_,rfl,rfl⟩
  refine xaw rfl (xdk ?_) ?_
  ·
   intro val1 pc2 hQ_ hX_
   have e0_:val1 0= .int .i64 ((((t.nW+t.nH)+2:Nat):Int)):=(hQ_ 0 rfl).1
   have q1_:OwnS 3 1 (val1 1) (ics (List.replicate (t.nW+t.nH+2) (0:Int))) (pc2 1):=hQ_ 1 rfl
   obtain ⟨e4_,x4_⟩:=hG4_ _ _ (hQ_ 4 rfl)
   obtain ⟨e5_,x5_⟩:=hG5_ _ _ (hQ_ 5 rfl)
   generalize hg_b3:Gb3 (val1 4) (pc2 4)=b3 at*
   generalize hg_b4:Gb4 (val1 5) (pc2 5)=b4 at*
   obtain ⟨q_,hq0_⟩: ∃ q_:Value→Pcs→Prop,q_=(fun v_ x_=>v_=undef∧x_=[(b3,.cells #[(val1 1)] 22 (0,0))]):=⟨_,rfl⟩
   refine ⟨(zq2 (zq4 (zq16 (zq32 (zq32 (zq32 [])))))),((([(b3,.cells #[.slice none 0 0] 22 (0,0))]:Pcs)++[])++[]),q_,(by rw [e0_,e4_,e5_]),(by rw [← x4_];rfl),(fun _ _ z_=>by subst hq0_ hg_b3 hg_b4;exact z_),?_⟩
   subst hq0_
   exact wpw mn tS22 rfl (v:=(val1 1)) rfl q1_.one (Nat.succ_le_iff.1 (Nat.le_of_ble_eq_true rfl)) (cs2:=[(val1 1)]) rfl ⟨rfl,rfl⟩
  exact xlq rfl
 intro val1 pc2 hQ_ hX_
 have e0_:val1 0= .int .i64 ((((t.nW+t.nH)+2:Nat):Int)):=(hQ_ 0 (by decide)).1
 have q1_:OwnS 3 1 (val1 1) (ics (List.replicate (t.nW+t.nH+2) (0:Int))) (pc2 1):=hQ_ 1 (by decide)
 have e2_:val1 2= .int .i64 ((((t.nW+t.nH)+2:Nat):Int)):=(hQ_ 2 (by decide)).1
 have q3_:OwnS 99 5 (val1 3) (acs (List.replicate (t.nW+t.nH+2) Go.X.Bf.a0)) (pc2 3):=hQ_ 3 (by decide)
 obtain ⟨e4_,x4_⟩:=hG4_ _ _ (hQ_ 4 (by decide))
 obtain ⟨e5_,x5_⟩:=hG5_ _ _ (hQ_ 5 (by decide))
 have x6_:pc2 6=[((Gb3 (val1 4) (pc2 4)),.cells #[(val1 1)] 22 (0,0))]:=(hQ_ 6 (by decide)).2
 clear hQ_ hX_
 generalize Gb3 (val1 4) (pc2 4)=b3 at*
 generalize Gb4 (val1 5) (pc2 5)=b4 at*
 refine xww (Φ:=fun h_=>St h [] p h_ (([]:Pcs)++(pc2 1++(pc2 3++(pc2 5++(pc2 6++[])))))) ?_ (fun h_ H_=>H_.swap')
 rw [x5_,x6_]
 refine xcq (L':=([]:Pcs)++((pc2 1)++((pc2 3)++(([(b4,.cells #[.slice none 0 0] 95 (0,0))]:Pcs)++(([(b3,.cells #[(val1 1)] 22 (0,0))]:Pcs)++[]))))) (by simp) ?_
 refine xfj (tm':=(zq2 (zq4 (zq16 (zq32 (zq32 (zq32 []))))))) (by rw [e0_,e2_,e4_,e5_]) ?_
 refine xcq (L':=([]:Pcs)++((pc2 1)++((pc2 3)++(([(b4,.cells #[.slice none 0 0] 95 (0,0))]:Pcs)++(([(b3,.cells #[(val1 1)] 22 (0,0))]:Pcs)++[]))))) rfl ?_
 refine xjj (List.Perm.append_left _ (List.Perm.append_left _ (List.perm_append_comm_assoc _ _ _))) ?_
 refine xjj (List.Perm.append_left _ (List.perm_append_comm_assoc _ _ _)) ?_
 refine xcq (L':=([]:Pcs)++(([(b4,.cells #[.slice none 0 0] 95 (0,0))]:Pcs)++((pc2 1)++((pc2 3)++(([(b3,.cells #[(val1 1)] 22 (0,0))]:Pcs)++[]))))) rfl ?_
 refine xjj (List.perm_append_comm_assoc ([]:Pcs) ([(b4,.cells #[.slice none 0 0] 95 (0,0))]:Pcs) _) ?_
 refine xcq (L':=([(b4,.cells #[.slice none 0 0] 95 (0,0))]:Pcs)++((pc2 1)++((pc2 3)++(([(b3,.cells #[(val1 1)] 22 (0,0))]:Pcs)++[])))) rfl ?_
 refine xcq (L':=([(b4,.cells #[.slice none 0 0] 95 (0,0))]:Pcs)++((pc2 1)++((pc2 3)++(([(b3,.cells #[(val1 1)] 22 (0,0))]:Pcs)++[])))) rfl ?_
 refine xjj (List.Perm.append_left _ (List.Perm.append_left _ (List.perm_append_comm_assoc _ _ _))) ?_
 refine xjj (List.Perm.append_left _ (List.perm_append_comm_assoc _ _ _)) ?_
 refine xcq (L':=([(b4,.cells #[.slice none 0 0] 95 (0,0))]:Pcs)++(([(b3,.cells #[(val1 1)] 22 (0,0))]:Pcs)++((pc2 1)++((pc2 3)++[])))) rfl ?_
 refine xjj (List.perm_append_comm_assoc ([(b4,.cells #[.slice none 0 0] 95 (0,0))]:Pcs) ([(b3,.cells #[(val1 1)] 22 (0,0))]:Pcs) _) ?_
 refine xcq (L':=([(b3,.cells #[(val1 1)] 22 (0,0)),(b4,.cells #[.slice none 0 0] 95 (0,0))]:Pcs)++((pc2 1)++((pc2 3)++[]))) rfl ?_
 have o7:=q1_
 have o8:=q3_
 refine xrj mn tS95 rfl (v:=(val1 3)) rfl o8.one (i:=1) rfl (Nat.succ_le_iff.1 (Nat.le_of_ble_eq_true rfl)) (cs2:=[(val1 3)]) rfl (xcq (L':=([(b3,.cells #[(val1 1)] 22 (0,0)),(b4,.cells #[(val1 3)] 95 (0,0))]:Pcs)++((pc2 1)++((pc2 3)++[]))) rfl ?_)
 refine ren <| fsr <| rd (fun h_ H_=>xaj H_ tA22 rfl (i:=0) rfl (v:=(val1 1)) rfl) <| ro (xzv o7 ((xcw _).trans (List.length_replicate ..)) Tryd.underlying22 rfl) <| rt (xaq (v:=.int .i64 0) rfl) (tm':=zq32 _) rfl <| xak ?_
 refine xdj ?_
 refine xhk (m₀:=(t.nW+t.nH+2)-0) (fun m_ tm_ h_=>∃ (k:Nat) (X1:Pcs),m_=(t.nW+t.nH+2)-k∧(∃ y9:Nat→Value,tm_=(.pointer (some ⟨bt,0,none⟩)::undef::.slice none 0 0::.int .i64 0::.int .i64 ((((t.nW+t.nH)+2:Nat):Int))::.pointer (some ⟨b3,0,none⟩)::.pointer (some ⟨b4,0,none⟩)::(y9 7)::undef::undef::undef::.pointer (some ⟨bt,0,none⟩)::.pointer (some ⟨bt,0,none⟩)::.pointer (some ⟨bt,0,none⟩)::.pointer (some ⟨bt,1,none⟩)::.slice a2 t.nW c2::.int .i64 (((t.nW:Nat):Int))::.pointer (some ⟨bt,0,none⟩)::.pointer (some ⟨bt,0,none⟩)::.pointer (some ⟨bt,0,none⟩)::.pointer (some ⟨bt,0,none⟩)::.slice a1 t.nH c1::.int .i64 (((t.nH:Nat):Int))::.int .i64 (((t.nW+t.nH:Nat):Int))::.int .i64 ((((t.nW+t.nH)+2:Nat):Int))::.int .i64 ((((t.nW+t.nH)+2:Nat):Int))::(val1 1)::.int .i64 ((((t.nW+t.nH)+2:Nat):Int))::(val1 3)::(val1 1)::.int .i64 ((((t.nW+t.nH+2):Nat):Int))::.int .i64 (((k:Nat):Int))::(y9 32)::(y9 33)::(y9 34)::(y9 35)::(y9 36)::(y9 37)::zu16 (zu16 (zu16 (zu16 (zu16 []))))))∧(k≤(t.nW+t.nH+2))∧(OwnS 3 1 (val1 1) (ics (fillK k (t.nW+t.nH+2))) X1)∧St h [] p h_ (([(b3,.cells #[(val1 1)] 22 (0,0)),(b4,.cells #[(val1 3)] 95 (0,0))]:Pcs)++(X1++((pc2 3)++[])))) (fun h_ H_=>⟨0,(pc2 1),rfl,(y_of rfl),Nat.zero_le _,(o7.as (by simp [fillK])),H_⟩) ?_
 intro m_ tm_ IH10
 refine xhq fun k=>xhq fun X1=>xcz fun hm_=>xcz fun ht_=>xcz fun hk=>xcz fun o1=>?_
 subst hm_;obtain ⟨y9,ht_⟩:=ht_;subst ht_
 refine fsr <| ro (xgj rfl rfl) <| ren ?_
 by_cases cc11:((k:Nat):Int)<(((t.nW+t.nH+2):Nat):Int)
 ·
  refine xdx rfl (dtt cc11) <| xcv <| xez <| xdj <| fsr <| ro (xaq (v:=.int .i64 (((k:Nat):Int))) rfl) ?_
  refine rt (xax (v:=.int .i64 (((k:Nat):Int))) rfl) (tm':=zq8 _) rfl <| xak <| xbq <| rd (fun h_ H_=>xaj H_ tA22 rfl (i:=0) rfl (v:=(val1 1)) rfl) <| ro (xaq (v:=.int .i64 (((k:Nat):Int))) rfl) ?_
  refine rt (xix o1 Tryd.underlying22 tS3 rfl rfl (by rw [((xcw _).trans (ygw (by omega)))];first | omega | (simp only [List.length_set];omega))) (tm':=zq1 (zq4 (zq32 _))) rfl ?_
  refine xux (A:=([(b3,.cells #[(val1 1)] 22 (0,0)),(b4,.cells #[(val1 3)] 95 (0,0))]:Pcs)) (i:=k) (j:=0) (e:=[.int .i64 ((fillK k (t.nW+t.nH+2)).getD k 0)]) (u:=.int .i64 1152921504606846976) o1 mn tS3 rfl rfl rfl ⟨rfl,rfl⟩ (xqw (by rw [ygw (by omega)];omega)) (Nat.succ_le_iff.1 (Nat.le_of_ble_eq_true rfl)) fun X12 o13=>?_
  have o14:OwnS 3 1 (val1 1) (ics ((fillK k (t.nW+t.nH+2)).set k (1152921504606846976))) X12:=o13.as xxw
  refine xak <| xdq <| xbq ?_
  refine ro (xek rfl rfl (n:=((k+1:Nat):Int)) (wr (by omega))) ?_
  refine ro (xaq (v:=.int .i64 (((k+1:Nat):Int))) rfl) <| xak ?_
  exact fun h_ H_=>IH10 _ _ (by omega) h_ ⟨k+1,X12,rfl,(y_of rfl),(by omega),(o14.as (by rw [zyv (by omega)])),H_⟩
 ·
  refine xck rfl (dff cc11) <| xhz rfl <| fsr ?_
  refine xbx mn (fun h_ H_=>xaj H_ tA22 rfl (i:=0) rfl (v:=(val1 1)) rfl) (tm':=zq1 (zq2 (zq4 (zq32 _)))) rfl ?_
  refine ro (xaq (v:=.int .i64 ((((t.nW+t.nH)+2:Nat):Int))) rfl) ?_
  refine ro (xkj rfl rfl (n:=((((t.nW+t.nH)+2)-2:Nat):Int)) (by rw [show (((t.nW+t.nH)+2:Nat):Int)-2=((((t.nW+t.nH)+2)-2:Nat):Int) from by omega];exact wr (by omega))) ?_
  refine rt (xix o1 Tryd.underlying22 tS3 rfl rfl (by rw [((xcw _).trans (ygw (by omega)))];first | omega | (simp only [List.length_set];omega))) (tm':=zq2 (zq8 (zq32 _))) rfl ?_
  refine xux (A:=([(b3,.cells #[(val1 1)] 22 (0,0)),(b4,.cells #[(val1 3)] 95 (0,0))]:Pcs)) (i:=((t.nW+t.nH)+2)-2) (j:=0) (e:=[.int .i64 ((fillK k (t.nW+t.nH+2)).getD (((t.nW+t.nH)+2)-2) 0)]) (u:=.int .i64 0) o1 mn tS3 rfl rfl rfl ⟨rfl,rfl⟩ (xqw (by rw [ygw (by omega)];omega)) (Nat.succ_le_iff.1 (Nat.le_of_ble_eq_true rfl)) fun X15 o16=>?_
  have o17:OwnS 3 1 (val1 1) (ics ((fillK k (t.nW+t.nH+2)).set (((t.nW+t.nH)+2)-2) (0))) X15:=o16.as xxw
  refine ren <| fsr <| ro (xaq (v:=.int .i64 ((((t.nW+t.nH)+2:Nat):Int))) rfl) <| ro (xaq (v:=.int .i64 0) rfl) <| xak <| xdj ?_
  refine wrz (rs₀:=[]) (m₀:=(t.nW+t.nH+2)-0) (fun m_ rs_ tm_ h_=>∃ (j:Nat) (X1:Pcs) (X2:Pcs) (rs:List Nat),rs_=rs∧m_=(t.nW+t.nH+2)-j∧(∃ y18:Nat→Value,tm_=(.pointer (some ⟨bt,0,none⟩)::undef::.slice none 0 0::.int .i64 0::.int .i64 ((((t.nW+t.nH)+2:Nat):Int))::.pointer (some ⟨b3,0,none⟩)::.pointer (some ⟨b4,0,none⟩)::(y9 7)::(y18 8)::undef::undef::.pointer (some ⟨bt,0,none⟩)::.pointer (some ⟨bt,0,none⟩)::.pointer (some ⟨bt,0,none⟩)::.pointer (some ⟨bt,1,none⟩)::.slice a2 t.nW c2::.int .i64 (((t.nW:Nat):Int))::.pointer (some ⟨bt,0,none⟩)::.pointer (some ⟨bt,0,none⟩)::.pointer (some ⟨bt,0,none⟩)::.pointer (some ⟨bt,0,none⟩)::.slice a1 t.nH c1::.int .i64 (((t.nH:Nat):Int))::.int .i64 (((t.nW+t.nH:Nat):Int))::.int .i64 ((((t.nW+t.nH)+2:Nat):Int))::.int .i64 ((((t.nW+t.nH)+2:Nat):Int))::(val1 1)::.int .i64 ((((t.nW+t.nH)+2:Nat):Int))::(val1 3)::(val1 1)::.int .i64 ((((t.nW+t.nH+2):Nat):Int))::.int .i64 (((k:Nat):Int))::.bool (decide (((k:Nat):Int)<(((t.nW+t.nH+2):Nat):Int)))::(y9 33)::(y9 34)::(y9 35)::(y9 36)::(y9 37)::(val1 1)::.int .i64 ((((t.nW+t.nH)+2:Nat):Int))::.int .i64 (((((t.nW+t.nH)+2)-2:Nat):Int))::.pointer (some ((adrV (val1 1)).add ((((t.nW+t.nH)+2)-2)*1)))::.int .i64 ((((t.nW+t.nH)+2:Nat):Int))::.int .i64 (((j:Nat):Int))::(y18 44)::(y18 45)::(y18 46)::undef::(y18 48)::(y18 49)::(y18 50)::(y18 51)::(y18 52)::(y18 53)::(y18 54)::(y18 55)::(y18 56)::(y18 57)::(y18 58)::(y18 59)::(y18 60)::(y18 61)::(y18 62)::(y18 63)::(y18 64)::(y18 65)::(y18 66)::(y18 67)::(y18 68)::(y18 69)::(y18 70)::(y18 71)::(y18 72)::(y18 73)::(y18 74)::(y18 75)::(y18 76)::(y18 77)::(y18 78)::(y18 79)::(y18 80)::(y18 81)::(y18 82)::(y18 83)::(y18 84)::(y18 85)::(y18 86)::(y18 87)::undef::undef::zu4 (zu8 (zu16 []))))∧(j≤(t.nW+t.nH+2))∧(OwnS 3 1 (val1 1) (ics (sweeps (arcsL t wi d) j (lab0 (t.nW+t.nH+2) t.sp)).c) X1)∧(OwnS 99 5 (val1 3) (acs (sweeps (arcsL t wi d) j (lab0 (t.nW+t.nH+2) t.sp)).b) X2)∧(LabB (sweeps (arcsL t wi d) j (lab0 (t.nW+t.nH+2) t.sp)) (48*j))∧St h [] p h_ (([(b3,.cells #[(val1 1)] 22 (0,0)),(b4,.cells #[(val1 3)] 95 (0,0))]:Pcs)++(X1++(X2++((marksP rs)++[]))))) (fun h_ H_=>⟨0,X15,(pc2 3),[],rfl,rfl,(y_of rfl),Nat.zero_le _,(o17.as (by rw [show k=(t.nW+t.nH+2) from by omega,wiz];rfl)),(o8.as rfl),LabB.start,H_⟩) ?_
  intro m_ rs_ tm_ IH19
  refine xhq fun j=>xhq fun X1=>xhq fun X2=>xhq fun rs=>xcz fun hr_=>xcz fun hm_=>xcz fun ht_=>xcz fun hj=>xcz fun o1=>xcz fun o2=>xcz fun hlb=>?_
  have hr_:=hr_.symm;subst hr_
  subst hm_;obtain ⟨y18,ht_⟩:=ht_;subst ht_
  refine fsr <| rt (xgj rfl rfl) (tm':=zq1 (zq4 (zq8 (zq32 _)))) rfl <| ren ?_
  by_cases cc20:((j:Nat):Int)<(((t.nW+t.nH)+2:Nat):Int)
  ·
   refine xdx rfl (dtt cc20) <| xcv <| xez <| xdj <| fsr <| ro (xaq (v:=.pointer (some ⟨bt,0,none⟩)) rfl) ?_
   refine ro (xuj (a:=[.pointer (some ⟨bt,0,none⟩)]) (b:=[]) rfl rfl) <| xak <| xdj ?_
   refine wrq (R:=fun r_ l_ lp_ _ h_=>∃ X_,(∃ Y1:Pcs,∃ Y2:Pcs,X_=([(l_,.loop lp_),(r_,.deferred (some [])),(b3,.cells #[(val1 1)] 22 (0,0)),(b4,.cells #[(val1 3)] 95 (0,0))]:Pcs)++(Y1++(Y2++((marksP rs)++[])))∧(OwnS 3 1 (val1 1) (ics (((arcsL t wi d)).foldl rel (sweeps (arcsL t wi d) j (lab0 (t.nW+t.nH+2) t.sp))).c) Y1)∧(OwnS 99 5 (val1 3) (acs (((arcsL t wi d)).foldl rel (sweeps (arcsL t wi d) j (lab0 (t.nW+t.nH+2) t.sp))).b) Y2)∧(LabB (((arcsL t wi d)).foldl rel (sweeps (arcsL t wi d) j (lab0 (t.nW+t.nH+2) t.sp))) (48*j+((arcsL t wi d)).length)))∧St h [] p h_ X_) ?_ ?_
   ·
    intro r_ l_ lp_ h_ hlp_ s_
    show CallV _ md (.func (.func 106) ([.pointer (some ⟨bt,0,none⟩)]:List Value).toArray ([]:List Value).toArray) _ h_ _
    refine yiq fC106 ?_
    refine c106 md _ _ _ _ _ _ _ _ _ _ t T O wi _ _ d D Dv S bt hb (.func (.yield l_) #[] #[]) _ (fun rd_ X_=>∃ Y1:Pcs,∃ Y2:Pcs,X_=([(l_,.loop lp_),(r_,.deferred (some [])),(b3,.cells #[(val1 1)] 22 (0,0)),(b4,.cells #[(val1 3)] 95 (0,0))]:Pcs)++(Y1++(Y2++((marksP rs)++[])))∧(OwnS 3 1 (val1 1) (ics ((rd_).foldl rel (sweeps (arcsL t wi d) j (lab0 (t.nW+t.nH+2) t.sp))).c) Y1)∧(OwnS 99 5 (val1 3) (acs ((rd_).foldl rel (sweeps (arcsL t wi d) j (lab0 (t.nW+t.nH+2) t.sp))).b) Y2)∧(LabB ((rd_).foldl rel (sweeps (arcsL t wi d) j (lab0 (t.nW+t.nH+2) t.sp))) (48*j+(rd_).length))) _ rfl ⟨_,_,rfl,o1,o2,hlb⟩ ?_ (St.nil2 s_)
    intro rd_ x_ h_ Z_ X_ hi_ hI_ s_
    obtain ⟨Y1,Y2,rfl,q1,q2,hb_⟩:=hI_
    refine zmv (Φ:=fun h_=>St h [] p h_ (([(l_,.loop lp_),(r_,.deferred (some [])),(b3,.cells #[(val1 1)] 22 (0,0)),(b4,.cells #[(val1 3)] 95 (0,0))]:Pcs)++(Y1++(Y2++((marksP rs)++(Z_++[])))))) (s_.rot.at (i:=0) rfl) hlp_ rfl (tm':=(.pointer (some ⟨bt,0,none⟩)::undef::.slice none 0 0::.int .i64 0::.int .i64 ((((t.nW+t.nH)+2:Nat):Int))::.pointer (some ⟨b3,0,none⟩)::.pointer (some ⟨b4,0,none⟩)::(y9 7)::(y18 8)::undef::undef::.pointer (some ⟨bt,0,none⟩)::.pointer (some ⟨bt,0,none⟩)::.pointer (some ⟨bt,0,none⟩)::.pointer (some ⟨bt,1,none⟩)::.slice a2 t.nW c2::.int .i64 (((t.nW:Nat):Int))::.pointer (some ⟨bt,0,none⟩)::.pointer (some ⟨bt,0,none⟩)::.pointer (some ⟨bt,0,none⟩)::.pointer (some ⟨bt,0,none⟩)::.slice a1 t.nH c1::.int .i64 (((t.nH:Nat):Int))::.int .i64 (((t.nW+t.nH:Nat):Int))::.int .i64 ((((t.nW+t.nH)+2:Nat):Int))::.int .i64 ((((t.nW+t.nH)+2:Nat):Int))::(val1 1)::.int .i64 ((((t.nW+t.nH)+2:Nat):Int))::(val1 3)::(val1 1)::.int .i64 ((((t.nW+t.nH+2):Nat):Int))::.int .i64 (((k:Nat):Int))::.bool (decide (((k:Nat):Int)<(((t.nW+t.nH+2):Nat):Int)))::(y9 33)::(y9 34)::(y9 35)::(y9 36)::(y9 37)::(val1 1)::.int .i64 ((((t.nW+t.nH)+2:Nat):Int))::.int .i64 (((((t.nW+t.nH)+2)-2:Nat):Int))::.pointer (some ((adrV (val1 1)).add ((((t.nW+t.nH)+2)-2)*1)))::.int .i64 ((((t.nW+t.nH)+2:Nat):Int))::.int .i64 (((j:Nat):Int))::.bool (decide (((j:Nat):Int)<(((t.nW+t.nH)+2:Nat):Int)))::.pointer (some ⟨bt,0,none⟩)::(.func (.func 106) #[.pointer (some ⟨bt,0,none⟩)] #[])::.agg #[.int .i64 (((x_.fr:Nat):Int)),.int .i64 (((x_.to:Nat):Int)),.int .i64 (x_.cost),.int .i64 (x_.way),.int .i64 (x_.more)]::(y18 48)::(y18 49)::(y18 50)::(y18 51)::(y18 52)::(y18 53)::(y18 54)::(y18 55)::(y18 56)::(y18 57)::(y18 58)::(y18 59)::(y18 60)::(y18 61)::(y18 62)::(y18 63)::(y18 64)::(y18 65)::(y18 66)::(y18 67)::(y18 68)::(y18 69)::(y18 70)::(y18 71)::(y18 72)::(y18 73)::(y18 74)::(y18 75)::(y18 76)::(y18 77)::(y18 78)::(y18 79)::(y18 80)::(y18 81)::(y18 82)::(y18 83)::(y18 84)::(y18 85)::(y18 86)::(y18 87)::undef::undef::zu4 (zu8 (zu16 [])))) rfl ?_ (by simpa using s_.rot)
    intro c₁ cs₁ Stop₁ K₁
    have hm_:x_∈arcsL t wi d:=hi_.subset (by simp)
    have hn_:=ycj O.y x_ hm_
    have hcC_:=yoq O.toOk S Dv x_ hm_
    have hc_:=hcC_
    have hl_:=hi_.length_le
    have h48_:=zux (w:=wi) (d:=d) O.toOk
    have eC_:cC=40353607001:=by decide
    rw [eC_] at hc_
    simp only [List.length_append,List.length_singleton] at hl_
    simp only [nN] at hn_
    refine xbq ?_
    refine xkx mn tZ99 rfl fun b21=>xcq (L':=([(b21,.cells #[.int .i64 0,.int .i64 0,.int .i64 0,.int .i64 0,.int .i64 0] 99 (0,0)),(l_,.loop lp_),(r_,.deferred (some [])),(b3,.cells #[(val1 1)] 22 (0,0)),(b4,.cells #[(val1 3)] 95 (0,0))]:Pcs)++(Y1++(Y2++((marksP rs)++(Z_++[]))))) rfl ?_
    refine xfj (tm':=zq1 (zq8 _)) rfl ?_
    refine xik mn tS99 rfl (v:=.agg #[.int .i64 (((x_.fr:Nat):Int)),.int .i64 (((x_.to:Nat):Int)),.int .i64 (x_.cost),.int .i64 (x_.way),.int .i64 (x_.more)]) rfl (i:=0) rfl rfl rfl (Nat.le_of_ble_eq_true rfl) (cs2:=[.int .i64 (((x_.fr:Nat):Int)),.int .i64 (((x_.to:Nat):Int)),.int .i64 (x_.cost),.int .i64 (x_.way),.int .i64 (x_.more)]) rfl (xcq (L':=([(b21,.cells #[.int .i64 (((x_.fr:Nat):Int)),.int .i64 (((x_.to:Nat):Int)),.int .i64 (x_.cost),.int .i64 (x_.way),.int .i64 (x_.more)] 99 (0,0)),(l_,.loop lp_),(r_,.deferred (some [])),(b3,.cells #[(val1 1)] 22 (0,0)),(b4,.cells #[(val1 3)] 95 (0,0))]:Pcs)++(Y1++(Y2++((marksP rs)++(Z_++[]))))) rfl ?_)
    refine xak ?_
    refine wrk (i:=1) rfl (by rw [hlp_];rfl) ?_
    refine xlk (L':=([(b21,.cells #[.int .i64 (((x_.fr:Nat):Int)),.int .i64 (((x_.to:Nat):Int)),.int .i64 (x_.cost),.int .i64 (x_.way),.int .i64 (x_.more)] 99 (0,0)),(l_,.loop { lp_ with state:=.busy }),(r_,.deferred (some [])),(b3,.cells #[(val1 1)] 22 (0,0)),(b4,.cells #[(val1 3)] 95 (0,0))]:Pcs)++(Y1++(Y2++((marksP rs)++(Z_++[]))))) rfl ?_
    refine xdj <| xez ?_
    by_cases cc22:Go.X.Bf.L ((rd_).foldl rel (sweeps (arcsL t wi d) j (lab0 (t.nW+t.nH+2) t.sp))) x_.fr<1152921504606846976
    ·
     refine xgx 20 [[],[],[1],[0,1,2],[0,1,2,3],[0,1,2,3,4],[0,1,2,3,4,5],[],[],[8],[7,8,9],[7,8,9,10],[],[12],[7,8,9,10,11,12,13],[],[0,1,2,3,4,5],[0,1,2,3,4,5,16],[0,1,2,3,4,5,15,16,17],[0,1,2,3,4,5,15,16,17,18],[0,1,2,3,4,5,7,8,9,10,11,12,13,14,15,16,17,18,19],[]] xkk (by kernel_rfl) (Nat.le_of_ble_eq_true rfl) ?_
     refine wd (fun h_ H_=>xaj H_ tA22 rfl (i:=3) rfl (v:=(val1 1)) rfl) <| wt (xaz zcz rfl (a':=⟨b21,0,none⟩) rfl) (tm':=zq2 (zq16 (zq32 _))) rfl <| wd (fun h_ H_=>xaj H_ tA3 rfl (i:=0) rfl (v:=.int .i64 (((x_.fr:Nat):Int))) rfl) ?_
     refine wt (xix q1 Tryd.underlying22 tS3 rfl rfl (by rw [((xcw _).trans lenc)];first | omega | (simp only [List.length_set];omega))) (tm':=zq4 (zq16 (zq32 _))) rfl ?_
     refine wd (fun h_ H_=>xnv (A:=([(b21,.cells #[.int .i64 (((x_.fr:Nat):Int)),.int .i64 (((x_.to:Nat):Int)),.int .i64 (x_.cost),.int .i64 (x_.way),.int .i64 (x_.more)] 99 (0,0)),(l_,.loop { lp_ with state:=.busy }),(r_,.deferred (some [])),(b3,.cells #[(val1 1)] 22 (0,0)),(b4,.cells #[(val1 3)] 95 (0,0))]:Pcs)) (i:=x_.fr) (j:=0) (e:=[.int .i64 (Go.X.Bf.L ((rd_).foldl rel (sweeps (arcsL t wi d) j (lab0 (t.nW+t.nH+2) t.sp))) x_.fr)]) q1 H_ tA3 rfl rfl (ygx (by rw [lenc];omega)) (u:=.int .i64 (Go.X.Bf.L ((rd_).foldl rel (sweeps (arcsL t wi d) j (lab0 (t.nW+t.nH+2) t.sp))) x_.fr)) rfl) ?_
     refine wt (xgj rfl rfl) (tm':=zq2 (zq4 (zq16 (zq32 _)))) rfl <| wo (xaq (v:=.bool (decide (Go.X.Bf.L ((rd_).foldl rel (sweeps (arcsL t wi d) j (lab0 (t.nW+t.nH+2) t.sp))) x_.fr<1152921504606846976))) rfl) ?_
     refine xbk (ms rfl rfl (dtt cc22)) (fun h_ H_=>xaj H_ tA22 rfl (i:=3) rfl (v:=(val1 1)) rfl) (tm':=zq8 (zq16 (zq32 _))) rfl ?_
     refine xbk (ms rfl rfl (dtt cc22)) (fun h_ H_=>xaz zcz rfl (a':=⟨b21,0,none⟩) rfl) rfl ?_
     refine xbk (ms rfl rfl (dtt cc22)) (fun h_ H_=>xaj H_ tA3 rfl (i:=0) rfl (v:=.int .i64 (((x_.fr:Nat):Int))) rfl) (tm':=zq2 (zq8 (zq16 (zq32 _)))) rfl ?_
     refine xbk (ms rfl rfl (dtt cc22)) (fun h_ H_=>xix q1 Tryd.underlying22 tS3 rfl rfl (by rw [((xcw _).trans lenc)];first | omega | (simp only [List.length_set];omega))) rfl ?_
     refine xbk (ms rfl rfl (dtt cc22)) (fun h_ H_=>xnv (A:=([(b21,.cells #[.int .i64 (((x_.fr:Nat):Int)),.int .i64 (((x_.to:Nat):Int)),.int .i64 (x_.cost),.int .i64 (x_.way),.int .i64 (x_.more)] 99 (0,0)),(l_,.loop { lp_ with state:=.busy }),(r_,.deferred (some [])),(b3,.cells #[(val1 1)] 22 (0,0)),(b4,.cells #[(val1 3)] 95 (0,0))]:Pcs)) (i:=x_.fr) (j:=0) (e:=[.int .i64 (Go.X.Bf.L ((rd_).foldl rel (sweeps (arcsL t wi d) j (lab0 (t.nW+t.nH+2) t.sp))) x_.fr)]) q1 H_ tA3 rfl rfl (ygx (by rw [lenc];omega)) (u:=.int .i64 (Go.X.Bf.L ((rd_).foldl rel (sweeps (arcsL t wi d) j (lab0 (t.nW+t.nH+2) t.sp))) x_.fr)) rfl) (tm':=zq4 (zq8 (zq16 (zq32 _)))) rfl ?_
     refine xbk (ms rfl rfl (dtt cc22)) (fun h_ H_=>xaz wvk rfl (a':=⟨b21,2,none⟩) rfl) rfl ?_
     refine xbk (ms rfl rfl (dtt cc22)) (fun h_ H_=>xaj H_ tA3 rfl (i:=0) rfl (v:=.int .i64 (x_.cost)) rfl) (tm':=zq2 (zq4 (zq8 (zq16 (zq32 _))))) rfl ?_
     refine xbk (ms rfl rfl (dtt cc22)) (fun h_ H_=>xek rfl rfl (wr (by have z_:=hb_ x_.fr (by assumption);omega))) rfl ?_
     refine xbk (ms rfl rfl (dtt cc22)) (fun h_ H_=>xaj H_ tA22 rfl (i:=3) rfl (v:=(val1 1)) rfl) (tm':=zq32 (zq32 _)) rfl ?_
     refine xbk (ms rfl rfl (dtt cc22)) (fun h_ H_=>xaz zoj rfl (a':=⟨b21,1,none⟩) rfl) rfl ?_
     refine xbk (ms rfl rfl (dtt cc22)) (fun h_ H_=>xaj H_ tA3 rfl (i:=0) rfl (v:=.int .i64 (((x_.to:Nat):Int))) rfl) (tm':=zq2 (zq32 (zq32 _))) rfl ?_
     refine xbk (ms rfl rfl (dtt cc22)) (fun h_ H_=>xix q1 Tryd.underlying22 tS3 rfl rfl (by rw [((xcw _).trans lenc)];first | omega | (simp only [List.length_set];omega))) rfl ?_
     refine xbk (ms rfl rfl (dtt cc22)) (fun h_ H_=>xnv (A:=([(b21,.cells #[.int .i64 (((x_.fr:Nat):Int)),.int .i64 (((x_.to:Nat):Int)),.int .i64 (x_.cost),.int .i64 (x_.way),.int .i64 (x_.more)] 99 (0,0)),(l_,.loop { lp_ with state:=.busy }),(r_,.deferred (some [])),(b3,.cells #[(val1 1)] 22 (0,0)),(b4,.cells #[(val1 3)] 95 (0,0))]:Pcs)) (i:=x_.to) (j:=0) (e:=[.int .i64 (Go.X.Bf.L ((rd_).foldl rel (sweeps (arcsL t wi d) j (lab0 (t.nW+t.nH+2) t.sp))) x_.to)]) q1 H_ tA3 rfl rfl (ygx (by rw [lenc];omega)) (u:=.int .i64 (Go.X.Bf.L ((rd_).foldl rel (sweeps (arcsL t wi d) j (lab0 (t.nW+t.nH+2) t.sp))) x_.to)) rfl) (tm':=zq4 (zq32 (zq32 _))) rfl ?_
     refine xiz rfl ?_
     refine xbx (ms rfl rfl (dtt cc22)) (fun h_ H_=>xgj rfl rfl) rfl ?_
     refine ro (xdz rfl (dtt cc22) (v:=.bool (decide ((Go.X.Bf.L ((rd_).foldl rel (sweeps (arcsL t wi d) j (lab0 (t.nW+t.nH+2) t.sp))) x_.fr)+x_.cost<Go.X.Bf.L ((rd_).foldl rel (sweeps (arcsL t wi d) j (lab0 (t.nW+t.nH+2) t.sp))) x_.to))) rfl) <| xak ?_
     by_cases cc23:(Go.X.Bf.L ((rd_).foldl rel (sweeps (arcsL t wi d) j (lab0 (t.nW+t.nH+2) t.sp))) x_.fr)+x_.cost<Go.X.Bf.L ((rd_).foldl rel (sweeps (arcsL t wi d) j (lab0 (t.nW+t.nH+2) t.sp))) x_.to
     ·
      refine xdx rfl (dtt cc23) ?_
      refine ygv (Base1:=fun h_=>∃ X3_,OwnS 3 1 (val1 1) ((ics ((rd_).foldl rel (sweeps (arcsL t wi d) j (lab0 (t.nW+t.nH+2) t.sp))).c).set x_.to ([.int .i64 (Go.X.Bf.L ((rd_).foldl rel (sweeps (arcsL t wi d) j (lab0 (t.nW+t.nH+2) t.sp))) x_.to)].set 0 (.int .i64 ((Go.X.Bf.L ((rd_).foldl rel (sweeps (arcsL t wi d) j (lab0 (t.nW+t.nH+2) t.sp))) x_.fr)+x_.cost)))) X3_∧St h [] p h_ (([(b21,.cells #[.int .i64 (((x_.fr:Nat):Int)),.int .i64 (((x_.to:Nat):Int)),.int .i64 (x_.cost),.int .i64 (x_.way),.int .i64 (x_.more)] 99 (0,0)),(l_,.loop { lp_ with state:=.busy }),(r_,.deferred (some [])),(b3,.cells #[(val1 1)] 22 (0,0)),(b4,.cells #[(val1 3)] 95 (0,0))]:Pcs)++(X3_++(Y2++((marksP rs)++(Z_++[])))))) 17 16 [[],[],[1],[],[],[4],[],[],[7],[6,7,8],[6,7,8,9],[],[11],[6,7,8,9,10,11,12],[],[0,1,2,6,7,8,9,10,11,12,13],[0,1,2,6,7,8,9,10,11,12,13,15],[0,1,2,3,4,5,6,7,8,9,10,11,12,13,14,15,16],[0,1,2,3,4,5,6,7,8,9,10,11,12,13,14,15,16,17]] xkk (by kernel_rfl) (Nat.le_of_ble_eq_true rfl) (Nat.le_of_ble_eq_true rfl) ?_
      refine xfv mn (by kernel_rfl) (xcj fun h_ H_=>xaj H_ tA22 rfl (i:=3) rfl (v:=(val1 1)) rfl) rfl ?_
      refine xfv mn (by kernel_rfl) (xcj fun h_ H_=>xaz zoj rfl (a':=⟨b21,1,none⟩) rfl) (tm':=zq8 (zq32 (zq32 _))) rfl ?_
      refine xfv mn (by kernel_rfl) (xcj fun h_ H_=>xaj H_ tA3 rfl (i:=0) rfl (v:=.int .i64 (((x_.to:Nat):Int))) rfl) rfl ?_
      refine xzq mn (xcj fun h_ H_=>xaj H_ tA95 rfl (i:=4) rfl (v:=(val1 3)) rfl) (xcj fun h_ ⟨X3_,o3_,H_⟩=>xaj H_ tA95 rfl (i:=4) rfl (v:=(val1 3)) rfl) (tm':=zq2 (zq8 (zq32 (zq32 _)))) rfl ?_
      refine xzq mn (xcj fun h_ H_=>xaz zoj rfl (a':=⟨b21,1,none⟩) rfl) (xcj fun h_ ⟨X3_,o3_,H_⟩=>xaz zoj rfl (a':=⟨b21,1,none⟩) rfl) rfl ?_
      refine xzq mn (xcj fun h_ H_=>xaj H_ tA3 rfl (i:=0) rfl (v:=.int .i64 (((x_.to:Nat):Int))) rfl) (xcj fun h_ ⟨X3_,o3_,H_⟩=>xaj H_ tA3 rfl (i:=0) rfl (v:=.int .i64 (((x_.to:Nat):Int))) rfl) (tm':=zq4 (zq8 (zq32 (zq32 _)))) rfl ?_
      refine xfv mn (by kernel_rfl) (xcj fun h_ H_=>xaj H_ tA22 rfl (i:=3) rfl (v:=(val1 1)) rfl) rfl ?_
      refine xfv mn (by kernel_rfl) (xcj fun h_ H_=>xaz zcz rfl (a':=⟨b21,0,none⟩) rfl) (tm':=zq2 (zq4 (zq8 (zq32 (zq32 _))))) rfl ?_
      refine xfv mn (by kernel_rfl) (xcj fun h_ H_=>xaj H_ tA3 rfl (i:=0) rfl (v:=.int .i64 (((x_.fr:Nat):Int))) rfl) rfl ?_
      refine xfv mn (by kernel_rfl) (xcj fun h_ H_=>xix q1 Tryd.underlying22 tS3 rfl rfl (by rw [((xcw _).trans lenc)];first | omega | (simp only [List.length_set];omega))) (tm':=zq2 (zq4 (zq16 (zq32 (zq32 (zq32 [])))))) rfl ?_
      refine xfv mn (by kernel_rfl) (xcj fun h_ H_=>xnv (A:=([(b21,.cells #[.int .i64 (((x_.fr:Nat):Int)),.int .i64 (((x_.to:Nat):Int)),.int .i64 (x_.cost),.int .i64 (x_.way),.int .i64 (x_.more)] 99 (0,0)),(l_,.loop { lp_ with state:=.busy }),(r_,.deferred (some [])),(b3,.cells #[(val1 1)] 22 (0,0)),(b4,.cells #[(val1 3)] 95 (0,0))]:Pcs)) (i:=x_.fr) (j:=0) (e:=[.int .i64 (Go.X.Bf.L ((rd_).foldl rel (sweeps (arcsL t wi d) j (lab0 (t.nW+t.nH+2) t.sp))) x_.fr)]) q1 H_ tA3 rfl rfl (ygx (by rw [lenc];omega)) (u:=.int .i64 (Go.X.Bf.L ((rd_).foldl rel (sweeps (arcsL t wi d) j (lab0 (t.nW+t.nH+2) t.sp))) x_.fr)) rfl) rfl ?_
      refine xfv mn (by kernel_rfl) (xcj fun h_ H_=>xaz wvk rfl (a':=⟨b21,2,none⟩) rfl) (tm':=zq2 (zq4 (zq16 (zq32 (zq32 (zq32 [])))))) rfl ?_
      refine xfv mn (by kernel_rfl) (xcj fun h_ H_=>xaj H_ tA3 rfl (i:=0) rfl (v:=.int .i64 (x_.cost)) rfl) rfl ?_
      refine xfv mn (by kernel_rfl) (xcj fun h_ H_=>xek rfl rfl (wr (by have z_:=hb_ x_.fr (by assumption);omega))) (tm':=zq2 (zq4 (zq16 (zq32 (zq32 (zq32 [])))))) rfl ?_
      refine xzq mn (xcj fun h_ H_=>xav H_ tA99 tS99 rfl (i:=0) rfl (vs:=[.int .i64 (((x_.fr:Nat):Int)),.int .i64 (((x_.to:Nat):Int)),.int .i64 (x_.cost),.int .i64 (x_.way),.int .i64 (x_.more)]) rfl rfl) (xcj fun h_ ⟨X3_,o3_,H_⟩=>xav H_ tA99 tS99 rfl (i:=0) rfl (vs:=[.int .i64 (((x_.fr:Nat):Int)),.int .i64 (((x_.to:Nat):Int)),.int .i64 (x_.cost),.int .i64 (x_.way),.int .i64 (x_.more)]) rfl rfl) rfl ?_
      refine xfv mn (by kernel_rfl) (xcj fun h_ H_=>xix q1 Tryd.underlying22 tS3 rfl rfl (by rw [((xcw _).trans lenc)];first | omega | (simp only [List.length_set];omega))) (tm':=zq2 (zq4 (zq16 (zq32 (zq32 (zq32 [])))))) rfl ?_
      refine zcj rfl mn (fun h_ H_=>zcq (A:=([(b21,.cells #[.int .i64 (((x_.fr:Nat):Int)),.int .i64 (((x_.to:Nat):Int)),.int .i64 (x_.cost),.int .i64 (x_.way),.int .i64 (x_.more)] 99 (0,0)),(l_,.loop { lp_ with state:=.busy }),(r_,.deferred (some [])),(b3,.cells #[(val1 1)] 22 (0,0)),(b4,.cells #[(val1 3)] 95 (0,0))]:Pcs)) (i:=x_.to) (j:=0) (e:=[.int .i64 (Go.X.Bf.L ((rd_).foldl rel (sweeps (arcsL t wi d) j (lab0 (t.nW+t.nH+2) t.sp))) x_.to)]) (u:=.int .i64 ((Go.X.Bf.L ((rd_).foldl rel (sweeps (arcsL t wi d) j (lab0 (t.nW+t.nH+2) t.sp))) x_.fr)+x_.cost)) q1 tS3 rfl rfl rfl ⟨rfl,rfl⟩ (ygx (by rw [lenc];omega)) (Nat.succ_le_iff.1 (Nat.le_of_ble_eq_true rfl)) H_) rfl ?_
      refine ywj rfl (xgz fun X24=>xfq fun o25=>?_)
      have o26:OwnS 3 1 (val1 1) (ics ((((rd_).foldl rel (sweeps (arcsL t wi d) j (lab0 (t.nW+t.nH+2) t.sp))).c).set x_.to ((Go.X.Bf.L ((rd_).foldl rel (sweeps (arcsL t wi d) j (lab0 (t.nW+t.nH+2) t.sp))) x_.fr)+x_.cost))) X24:=o25.as xxw
      refine ro (xix q2 Tryd.underlying95 tS99 rfl rfl (by rw [((xyv _).trans lenb)];first | omega | (simp only [List.length_set];omega))) ?_
      refine xjj (List.Perm.append_left _ (List.perm_append_comm_assoc _ _ _)) ?_
      refine xcq (L':=([(b21,.cells #[.int .i64 (((x_.fr:Nat):Int)),.int .i64 (((x_.to:Nat):Int)),.int .i64 (x_.cost),.int .i64 (x_.way),.int .i64 (x_.more)] 99 (0,0)),(l_,.loop { lp_ with state:=.busy }),(r_,.deferred (some [])),(b3,.cells #[(val1 1)] 22 (0,0)),(b4,.cells #[(val1 3)] 95 (0,0))]:Pcs)++(Y2++(X24++((marksP rs)++(Z_++[]))))) rfl ?_
      refine zwk (A:=([(b21,.cells #[.int .i64 (((x_.fr:Nat):Int)),.int .i64 (((x_.to:Nat):Int)),.int .i64 (x_.cost),.int .i64 (x_.way),.int .i64 (x_.more)] 99 (0,0)),(l_,.loop { lp_ with state:=.busy }),(r_,.deferred (some [])),(b3,.cells #[(val1 1)] 22 (0,0)),(b4,.cells #[(val1 3)] 95 (0,0))]:Pcs)) (i:=x_.to) (j:=0) (e:=(arcC (Go.X.Bf.B ((rd_).foldl rel (sweeps (arcsL t wi d) j (lab0 (t.nW+t.nH+2) t.sp))) x_.to))) (vs:=[.int .i64 (((x_.fr:Nat):Int)),.int .i64 (((x_.to:Nat):Int)),.int .i64 (x_.cost),.int .i64 (x_.way),.int .i64 (x_.more)]) q2 mn tS99 rfl rfl rfl rfl rfl rfl (zmw (by rw [lenb];omega)) (Nat.le_of_ble_eq_true rfl) fun X27 o28=>?_
      have o29:OwnS 99 5 (val1 3) ((acs ((rd_).foldl rel (sweeps (arcsL t wi d) j (lab0 (t.nW+t.nH+2) t.sp))).b).set x_.to [.int .i64 (((x_.fr:Nat):Int)),.int .i64 (((x_.to:Nat):Int)),.int .i64 (x_.cost),.int .i64 (x_.way),.int .i64 (x_.more)]) X27:=o28
      have o30:=o29.as (vcw (x:=x_))
      refine xak <| xdq ?_
      refine zlv (i:=1) rfl (lp':=lp_) (by rw [hlp_];rfl) ?_
      refine xlk (L':=([(b21,.cells #[.int .i64 (((x_.fr:Nat):Int)),.int .i64 (((x_.to:Nat):Int)),.int .i64 (x_.cost),.int .i64 (x_.way),.int .i64 (x_.more)] 99 (0,0)),(l_,.loop lp_),(r_,.deferred (some [])),(b3,.cells #[(val1 1)] 22 (0,0)),(b4,.cells #[(val1 3)] 95 (0,0))]:Pcs)++(X27++(X24++((marksP rs)++(Z_++[]))))) rfl ?_
      refine xgv (List.Perm.append_left _ (List.perm_append_comm_assoc _ _ _)) ?_
      refine xlk (L':=([(b21,.cells #[.int .i64 (((x_.fr:Nat):Int)),.int .i64 (((x_.to:Nat):Int)),.int .i64 (x_.cost),.int .i64 (x_.way),.int .i64 (x_.more)] 99 (0,0)),(l_,.loop lp_),(r_,.deferred (some [])),(b3,.cells #[(val1 1)] 22 (0,0)),(b4,.cells #[(val1 3)] 95 (0,0))]:Pcs)++(X24++(X27++((marksP rs)++(Z_++[]))))) rfl ?_
      exact fun h_ H_=>K₁ _ _ ⟨([(l_,.loop lp_),(r_,.deferred (some [])),(b3,.cells #[(val1 1)] 22 (0,0)),(b4,.cells #[(val1 3)] 95 (0,0))]:Pcs)++(X24++(X27++((marksP rs)++[]))),rfl,⟨X24,X27,rfl,(o26.as (by rw [xtz,wcv (s:=(rd_).foldl rel (sweeps (arcsL t wi d) j (lab0 (t.nW+t.nH+2) t.sp))) (a:=x_) (by assumption) (by assumption)])),(o30.as (by rw [xtz,wcv (s:=(rd_).foldl rel (sweeps (arcsL t wi d) j (lab0 (t.nW+t.nH+2) t.sp))) (a:=x_) (by assumption) (by assumption)])),(by rw [xtz,List.length_append];exact LabB.step hb_ (by rw [lenc];exact hn_.2) hcC_)⟩,St.rot' (by simpa using (H_.drop))⟩
     ·
      refine xck rfl (dff cc23) <| xcv <| xdq ?_
      refine zlv (i:=1) rfl (lp':=lp_) (by rw [hlp_];rfl) ?_
      refine xlk (L':=([(b21,.cells #[.int .i64 (((x_.fr:Nat):Int)),.int .i64 (((x_.to:Nat):Int)),.int .i64 (x_.cost),.int .i64 (x_.way),.int .i64 (x_.more)] 99 (0,0)),(l_,.loop lp_),(r_,.deferred (some [])),(b3,.cells #[(val1 1)] 22 (0,0)),(b4,.cells #[(val1 3)] 95 (0,0))]:Pcs)++(Y1++(Y2++((marksP rs)++(Z_++[]))))) rfl ?_
      exact fun h_ H_=>K₁ _ _ ⟨([(l_,.loop lp_),(r_,.deferred (some [])),(b3,.cells #[(val1 1)] 22 (0,0)),(b4,.cells #[(val1 3)] 95 (0,0))]:Pcs)++(Y1++(Y2++((marksP rs)++[]))),rfl,⟨Y1,Y2,rfl,(q1.as (by rw [xtz,wcw (s:=(rd_).foldl rel (sweeps (arcsL t wi d) j (lab0 (t.nW+t.nH+2) t.sp))) (a:=x_) (by assumption)])),(q2.as (by rw [xtz,wcw (s:=(rd_).foldl rel (sweeps (arcsL t wi d) j (lab0 (t.nW+t.nH+2) t.sp))) (a:=x_) (by assumption)])),(by rw [xtz,List.length_append];exact LabB.step hb_ (by rw [lenc];exact hn_.2) hcC_)⟩,St.rot' (by simpa using (H_.drop))⟩
    ·
     refine xgx 20 [[],[],[1],[0,1,2],[0,1,2,3],[0,1,2,3,4],[0,1,2,3,4,5],[],[],[8],[7,8,9],[7,8,9,10],[],[12],[7,8,9,10,11,12,13],[],[0,1,2,3,4,5],[0,1,2,3,4,5,16],[0,1,2,3,4,5,15,16,17],[0,1,2,3,4,5,15,16,17,18],[0,1,2,3,4,5,7,8,9,10,11,12,13,14,15,16,17,18,19],[]] xkk (by kernel_rfl) (Nat.le_of_ble_eq_true rfl) ?_
     refine xbk mn (fun h_ H_=>xaj H_ tA22 rfl (i:=3) rfl (v:=(val1 1)) rfl) (tm':=zq1 (zq16 (zq32 _))) rfl ?_
     refine wo (xaz zcz rfl (a':=⟨b21,0,none⟩) rfl) ?_
     refine xbk mn (fun h_ H_=>xaj H_ tA3 rfl (i:=0) rfl (v:=.int .i64 (((x_.fr:Nat):Int))) rfl) (tm':=zq1 (zq2 (zq16 (zq32 _)))) rfl ?_
     refine wo (xix q1 Tryd.underlying22 tS3 rfl rfl (by rw [((xcw _).trans lenc)];first | omega | (simp only [List.length_set];omega))) ?_
     refine xbk mn (fun h_ H_=>xnv (A:=([(b21,.cells #[.int .i64 (((x_.fr:Nat):Int)),.int .i64 (((x_.to:Nat):Int)),.int .i64 (x_.cost),.int .i64 (x_.way),.int .i64 (x_.more)] 99 (0,0)),(l_,.loop { lp_ with state:=.busy }),(r_,.deferred (some [])),(b3,.cells #[(val1 1)] 22 (0,0)),(b4,.cells #[(val1 3)] 95 (0,0))]:Pcs)) (i:=x_.fr) (j:=0) (e:=[.int .i64 (Go.X.Bf.L ((rd_).foldl rel (sweeps (arcsL t wi d) j (lab0 (t.nW+t.nH+2) t.sp))) x_.fr)]) q1 H_ tA3 rfl rfl (ygx (by rw [lenc];omega)) (u:=.int .i64 (Go.X.Bf.L ((rd_).foldl rel (sweeps (arcsL t wi d) j (lab0 (t.nW+t.nH+2) t.sp))) x_.fr)) rfl) (tm':=zq1 (zq4 (zq16 (zq32 _)))) rfl ?_
     refine wo (xgj rfl rfl) <| wt (xaq (v:=.bool (decide (Go.X.Bf.L ((rd_).foldl rel (sweeps (arcsL t wi d) j (lab0 (t.nW+t.nH+2) t.sp))) x_.fr<1152921504606846976))) rfl) (tm':=zq1 (zq2 (zq4 (zq16 (zq32 _))))) rfl <| wp (mo rfl rfl (dff cc22)) <| xex (mo rfl rfl (dff cc22)) (tm':=zq1 (zq8 (zq16 (zq32 _)))) rfl <| wp (mo rfl rfl (dff cc22)) <| xex (mo rfl rfl (dff cc22)) (tm':=zq1 (zq2 (zq8 (zq16 (zq32 _))))) rfl ?_
     refine wp (mo rfl rfl (dff cc22)) <| xex (mo rfl rfl (dff cc22)) (tm':=zq1 (zq4 (zq8 (zq16 (zq32 _))))) rfl <| wp (mo rfl rfl (dff cc22)) <| xex (mo rfl rfl (dff cc22)) (tm':=zq1 (zq2 (zq4 (zq8 (zq16 (zq32 _)))))) rfl <| wp (mo rfl rfl (dff cc22)) <| xex (mo rfl rfl (dff cc22)) (tm':=zq1 (zq32 (zq32 _))) rfl ?_
     refine wp (mo rfl rfl (dff cc22)) <| xex (mo rfl rfl (dff cc22)) (tm':=zq1 (zq2 (zq32 (zq32 _)))) rfl <| wp (mo rfl rfl (dff cc22)) ?_
     refine xiz rfl ?_
     refine rp (mo rfl rfl (dff cc22)) <| ro (xej rfl (dff cc22) (v:=.bool (false)) rfl) <| xak <| xck rfl rfl <| xcv <| xdq ?_
     refine zlv (i:=1) rfl (lp':=lp_) (by rw [hlp_];rfl) ?_
     refine xlk (L':=([(b21,.cells #[.int .i64 (((x_.fr:Nat):Int)),.int .i64 (((x_.to:Nat):Int)),.int .i64 (x_.cost),.int .i64 (x_.way),.int .i64 (x_.more)] 99 (0,0)),(l_,.loop lp_),(r_,.deferred (some [])),(b3,.cells #[(val1 1)] 22 (0,0)),(b4,.cells #[(val1 3)] 95 (0,0))]:Pcs)++(Y1++(Y2++((marksP rs)++(Z_++[]))))) rfl ?_
     exact fun h_ H_=>K₁ _ _ ⟨([(l_,.loop lp_),(r_,.deferred (some [])),(b3,.cells #[(val1 1)] 22 (0,0)),(b4,.cells #[(val1 3)] 95 (0,0))]:Pcs)++(Y1++(Y2++((marksP rs)++[]))),rfl,⟨Y1,Y2,rfl,(q1.as (by rw [xtz,wdq (s:=(rd_).foldl rel (sweeps (arcsL t wi d) j (lab0 (t.nW+t.nH+2) t.sp))) (a:=x_) (by assumption)])),(q2.as (by rw [xtz,wdq (s:=(rd_).foldl rel (sweeps (arcsL t wi d) j (lab0 (t.nW+t.nH+2) t.sp))) (a:=x_) (by assumption)])),(by rw [xtz,List.length_append];exact LabB.step hb_ (by rw [lenc];exact hn_.2) hcC_)⟩,St.rot' (by simpa using (H_.drop))⟩
   ·
    intro r_ l_ lp_ v_ hlp_
    refine xhq fun X_=>xcz fun hIJ_=>?_
    obtain ⟨Y1,Y2,rfl,q1,q2,hb_⟩:=hIJ_
    ·
     refine zyk (i:=0) rfl (by rw [hlp_];simp [loopOf]) (by rw [hlp_];rfl) ?_
     refine xlk (L':=([(l_,.loop { lp_ with state:=.exhausted }),(r_,.deferred (some [])),(b3,.cells #[(val1 1)] 22 (0,0)),(b4,.cells #[(val1 3)] 95 (0,0))]:Pcs)++(Y1++(Y2++((marksP rs)++[])))) rfl ?_
     refine xdq <| xdq <| xbq ?_
     refine rt (xek rfl rfl (n:=((j+1:Nat):Int)) (wr (by omega))) (tm':=zq2 (zq4 (zq16 (zq32 (zq32 (zq32 [])))))) rfl ?_
     refine ro (xaq (v:=.int .i64 (((j+1:Nat):Int))) rfl) <| xak ?_
     exact fun h_ H_=>IH19 _ (r_::rs) _ (by omega) h_ ⟨j+1,Y1,Y2,(r_::rs),rfl,rfl,(y_of rfl),(by omega),q1,q2,(LabB.mono hb_ (by have z_:=zux (w:=wi) (d:=d) O.toOk;omega)),(St.marked H_.drop)⟩
  ·
   refine xck rfl (dff cc20) <| xhz rfl <| xez ?_
   have hjN:j=(t.nW+t.nH+2):=by omega
   have hB:sweeps (arcsL t wi d) j (lab0 (t.nW+t.nH+2) t.sp)=bf t wi d:=by rw [hjN];rfl
   have o1_:=o1.as (show _=ics (bf t wi d).c from by rw [hB])
   have o2_:=o2.as (show _=acs (bf t wi d).b from by rw [hB])
   refine xbq <| ro (xax (v:=.slice none 0 0) rfl) <| ren <| fsr ?_
   refine xbx mn (fun h_ H_=>xaj H_ tA22 rfl (i:=0) rfl (v:=(val1 1)) rfl) (tm':=zq2 (zq4 (zq16 (zq32 (zq32 (zq32 [])))))) rfl ?_
   refine ro (xaq (v:=.int .i64 ((((t.nW+t.nH)+2:Nat):Int))) rfl) ?_
   refine ro (xkj rfl rfl (n:=((((t.nW+t.nH)+2)-1:Nat):Int)) (by rw [show (((t.nW+t.nH)+2:Nat):Int)-1=((((t.nW+t.nH)+2)-1:Nat):Int) from by omega];exact wr (by omega))) ?_
   refine rt (xix o1_ Tryd.underlying22 tS3 rfl rfl (by rw [((xcw _).trans yjw)];first | omega | (simp only [List.length_set];omega))) (tm':=zq2 (zq4 (zq16 (zq32 (zq32 (zq32 [])))))) rfl ?_
   refine rd (fun h_ H_=>xnv (A:=([(b3,.cells #[(val1 1)] 22 (0,0)),(b4,.cells #[(val1 3)] 95 (0,0))]:Pcs)) (i:=((t.nW+t.nH)+2)-1) (j:=0) (e:=[.int .i64 (Go.X.Bf.L (bf t wi d) (((t.nW+t.nH)+2)-1))]) o1_ H_ tA3 rfl rfl (ygx (by rw [yjw];omega)) (u:=.int .i64 (Go.X.Bf.L (bf t wi d) (((t.nW+t.nH)+2)-1))) rfl) ?_
   refine ro (xgj rfl rfl) <| xak ?_
   by_cases cc31:Go.X.Bf.L (bf t wi d) (((t.nW+t.nH)+2)-1)<1152921504606846976
   ·
    refine xdx rfl (dtt cc31) <| xez ?_
    have hcf:costL t wi d<far:=by rw [yhq];exact ‹Go.X.Bf.L (bf t wi d) (t.nW+t.nH+2-1)<1152921504606846976›
    have hw_:=(G.find O.toOk S).way hcf
    have hpl:=zrq O.toOk S G
    refine xbq <| rt (xaq (v:=.int .i64 ((((t.nW+t.nH)+2:Nat):Int))) rfl) (tm':=zq2 (zq4 (zq16 (zq32 (zq32 (zq32 [])))))) rfl ?_
    refine ro (xkj rfl rfl (n:=((((t.nW+t.nH)+2)-1:Nat):Int)) (by rw [show (((t.nW+t.nH)+2:Nat):Int)-1=((((t.nW+t.nH)+2)-1:Nat):Int) from by omega];exact wr (by omega))) ?_
    refine ro (xax (v:=.int .i64 (((((t.nW+t.nH)+2)-1:Nat):Int))) rfl) <| xak <| xdj ?_
    refine xhk (m₀:=(pathL t wi d).length+0) (fun m_ tm_ h_=>∃ (n:Nat) (acc:List Go.X.Bf.Arc) (r:List Go.X.Bf.Arc) (w3:Value) (X3:Pcs),m_=r.length+0∧(∃ y32:Nat→Value,tm_=[.pointer (some ⟨bt,0,none⟩),undef,.slice none 0 0,.int .i64 0,.int .i64 ((((t.nW+t.nH)+2:Nat):Int)),.pointer (some ⟨b3,0,none⟩),.pointer (some ⟨b4,0,none⟩),(y9 7),(y18 8),w3,.int .i64 (((n:Nat):Int)),.pointer (some ⟨bt,0,none⟩),.pointer (some ⟨bt,0,none⟩),.pointer (some ⟨bt,0,none⟩),.pointer (some ⟨bt,1,none⟩),.slice a2 t.nW c2,.int .i64 (((t.nW:Nat):Int)),.pointer (some ⟨bt,0,none⟩),.pointer (some ⟨bt,0,none⟩),.pointer (some ⟨bt,0,none⟩),.pointer (some ⟨bt,0,none⟩),.slice a1 t.nH c1,.int .i64 (((t.nH:Nat):Int)),.int .i64 (((t.nW+t.nH:Nat):Int)),.int .i64 ((((t.nW+t.nH)+2:Nat):Int)),.int .i64 ((((t.nW+t.nH)+2:Nat):Int)),(val1 1),.int .i64 ((((t.nW+t.nH)+2:Nat):Int)),(val1 3),(val1 1),.int .i64 ((((t.nW+t.nH+2):Nat):Int)),.int .i64 (((k:Nat):Int)),.bool (decide (((k:Nat):Int)<(((t.nW+t.nH+2):Nat):Int))),(y9 33),(y9 34),(y9 35),(y9 36),(y9 37),(val1 1),.int .i64 ((((t.nW+t.nH)+2:Nat):Int)),.int .i64 (((((t.nW+t.nH)+2)-2:Nat):Int)),.pointer (some ((adrV (val1 1)).add ((((t.nW+t.nH)+2)-2)*1))),.int .i64 ((((t.nW+t.nH)+2:Nat):Int)),.int .i64 (((j:Nat):Int)),.bool (decide (((j:Nat):Int)<(((t.nW+t.nH)+2:Nat):Int))),(y18 45),(y18 46),undef,(y18 48),(y18 49),(y18 50),(y18 51),(y18 52),(y18 53),(y18 54),(y18 55),(y18 56),(y18 57),(y18 58),(y18 59),(y18 60),(y18 61),(y18 62),(y18 63),(y18 64),(y18 65),(y18 66),(y18 67),(y18 68),(y18 69),(y18 70),(y18 71),(y18 72),(y18 73),(y18 74),(y18 75),(y18 76),(y18 77),(y18 78),(y18 79),(y18 80),(y18 81),(y18 82),(y18 83),(y18 84),(y18 85),(y18 86),(y18 87),(val1 1),.int .i64 ((((t.nW+t.nH)+2:Nat):Int)),.int .i64 (((((t.nW+t.nH)+2)-1:Nat):Int)),.pointer (some ((adrV (val1 1)).add ((((t.nW+t.nH)+2)-1)*1))),.int .i64 (Go.X.Bf.L (bf t wi d) (((t.nW+t.nH)+2)-1)),.bool (decide (Go.X.Bf.L (bf t wi d) (((t.nW+t.nH)+2)-1)<1152921504606846976)),.int .i64 ((((t.nW+t.nH)+2:Nat):Int)),.int .i64 (((((t.nW+t.nH)+2)-1:Nat):Int)),(y32 96),(y32 97),(y32 98),(y32 99),(y32 100),(y32 101),(y32 102),(y32 103),(y32 104),(y32 105),(y32 106),(y32 107),(y32 108),(y32 109),(y32 110),(y32 111),undef,undef,undef,undef,undef,undef])∧(n<(t.nW+t.nH+2))∧(Chain (bf t wi d) t.sp n r)∧(acc++r=pathL t wi d)∧(∀ a∈r,a∈arcsL t wi d)∧(OwnS 99 5 w3 (acs acc) X3)∧St h [] p h_ (([(b3,.cells #[(val1 1)] 22 (0,0)),(b4,.cells #[(val1 3)] 95 (0,0))]:Pcs)++(X3++(X1++(X2++((marksP rs)++[])))))) (fun h_ H_=>⟨(t.nW+t.nH+2-1),[],pathL t wi d,(.slice none 0 0),[],rfl,(y_of rfl),(by omega),hw_.2.1,rfl,(fun a ha=>(hw_.2.2.2 a ha).1),(OwnS.empty _ _),H_⟩) ?_
    intro m_ tm_ IH33
    refine xhq fun n=>xhq fun acc=>xhq fun r=>xhq fun w3=>xhq fun X3=>xcz fun hm_=>xcz fun ht_=>xcz fun hn6=>xcz fun hC=>xcz fun hP=>xcz fun hr=>xcz fun o3=>?_
    subst hm_;obtain ⟨y32,ht_⟩:=ht_;subst ht_
    have hla:=congrArg List.length hP
    simp only [List.length_append] at hla
    refine xez <| fsr <| rt (xaq (v:=.int .i64 (((n:Nat):Int))) rfl) (tm':=zq2 (zq4 (zq16 (zq32 (zq32 (zq32 [])))))) rfl <| ro (xaq (v:=.int .i64 ((((t.nW+t.nH)+2:Nat):Int))) rfl) ?_
    refine ro (xkj rfl rfl (n:=((((t.nW+t.nH)+2)-2:Nat):Int)) (by rw [show (((t.nW+t.nH)+2:Nat):Int)-2=((((t.nW+t.nH)+2)-2:Nat):Int) from by omega];exact wr (by omega))) ?_
    refine rt (xmk rfl rfl) (tm':=zq2 (zq4 (zq16 (zq32 (zq32 (zq32 [])))))) rfl <| xak ?_
    by_cases cc34:((n:Nat):Int)≠((((t.nW+t.nH)+2)-2:Nat):Int)
    ·
     refine xdx rfl (dtt cc34) <| xcv <| xez <| xdj ?_
     obtain ⟨r',hr_,hC'⟩:=Chain.cases' hC (show n≠t.sp from by unfold Tn.sp;omega)
     subst hr_
     refine xbq <| ro (xaq (v:=w3) rfl) <| rd (fun h_ H_=>xaj H_ tA95 rfl (i:=1) rfl (v:=(val1 3)) rfl) <| rt (xaq (v:=.int .i64 (((n:Nat):Int))) rfl) (tm':=zq2 (zq4 (zq16 (zq32 (zq32 (zq32 [])))))) rfl ?_
     refine ro (xix o2_ Tryd.underlying95 tS99 rfl rfl (by rw [((xyv _).trans zbz)];first | omega | (simp only [List.length_set];omega))) ?_
     refine rd (fun h_ H_=>zzz (i:=n) (e:=(arcC (Go.X.Bf.B (bf t wi d) n))) o2_ H_ (fun x_ h_=>by simp [h_]) tA99 tS99 rfl rfl (zmw (by rw [zbz];omega))) ?_
     refine xjz ([(b3,.cells #[(val1 1)] 22 (0,0)),(b4,.cells #[(val1 3)] 95 (0,0))]:Pcs) mn Tryd.underlying95 tS99 tZ99 (Nat.le_of_ble_eq_true rfl) (vs:=[(0,.agg #[.int .i64 ((((Go.X.Bf.B (bf t wi d) n).fr:Nat):Int)),.int .i64 ((((Go.X.Bf.B (bf t wi d) n).to:Nat):Int)),.int .i64 ((Go.X.Bf.B (bf t wi d) n).cost),.int .i64 ((Go.X.Bf.B (bf t wi d) n).way),.int .i64 ((Go.X.Bf.B (bf t wi d) n).more)])]) rfl rfl (es:=[[.int .i64 ((((Go.X.Bf.B (bf t wi d) n).fr:Nat):Int)),.int .i64 ((((Go.X.Bf.B (bf t wi d) n).to:Nat):Int)),.int .i64 ((Go.X.Bf.B (bf t wi d) n).cost),.int .i64 ((Go.X.Bf.B (bf t wi d) n).way),.int .i64 ((Go.X.Bf.B (bf t wi d) n).more)]]) rfl rfl rfl fun v35 X36 o37=>?_
     refine xfj (tm':=zq2 (zq4 (zq16 (zq32 (zq32 (zq32 [])))))) rfl ?_
     refine xjj (List.Perm.append_left _ (List.perm_append_comm_assoc _ _ _)) ?_
     refine xcq (L':=([(b3,.cells #[(val1 1)] 22 (0,0)),(b4,.cells #[(val1 3)] 95 (0,0))]:Pcs)++(X3++(X36++(X1++(X2++((marksP rs)++[])))))) rfl ?_
     refine xmv ([(b3,.cells #[(val1 1)] 22 (0,0)),(b4,.cells #[(val1 3)] 95 (0,0))]:Pcs) X3 X36 mn Tryd.underlying95 tS99 tZ99 rfl tB99 Tryd.underlying95 rfl rfl o3 o37 (xtx rfl) (by rw [xyv];simp only [List.length_cons,List.length_nil];omega) (by decide) fun v38 X39 o40=>?_
     have o41:OwnS 99 5 v38 (acs (acc++[(Go.X.Bf.B (bf t wi d) n)])) X39:=o40.as (wuz _ (Go.X.Bf.B (bf t wi d) n))
     refine ro (xax (v:=v38) rfl) <| xak <| xdq <| xbq ?_
     refine xbx mn (fun h_ H_=>xaj H_ tA95 rfl (i:=1) rfl (v:=(val1 3)) rfl) (tm':=zq2 (zq4 (zq16 (zq32 (zq32 (zq32 [])))))) rfl ?_
     refine ro (xaq (v:=.int .i64 (((n:Nat):Int))) rfl) ?_
     refine ro (xix o2_ Tryd.underlying95 tS99 rfl rfl (by rw [((xyv _).trans zbz)];first | omega | (simp only [List.length_set];omega))) ?_
     refine rt (xaz zcz rfl (a':=(adrV (val1 3)).add (n*5)) rfl) (tm':=zq2 (zq4 (zq16 (zq32 (zq32 (zq32 [])))))) rfl ?_
     refine rd (fun h_ H_=>xuk (i:=n) (j:=0) (e:=(arcC (Go.X.Bf.B (bf t wi d) n))) o2_ H_ (fun x_ h_=>by simp [h_]) tA3 rfl rfl (zmw (by rw [zbz];omega)) (u:=.int .i64 ((((Go.X.Bf.B (bf t wi d) n).fr:Nat):Int))) rfl) ?_
     refine ro (xax (v:=.int .i64 ((((Go.X.Bf.B (bf t wi d) n).fr:Nat):Int))) rfl) <| xak ?_
     exact fun h_ H_=>IH33 _ _ (by simp only [List.length_cons];omega) h_ ⟨(Go.X.Bf.B (bf t wi d) n).fr,(acc++[Go.X.Bf.B (bf t wi d) n]),r',v38,X39,rfl,(y_of rfl),(by have z_:=ycj O.y _ (hr _ (List.mem_cons_self ..));simp only [nN] at z_;omega),hC',(by rw [List.append_assoc];exact hP),(fun a ha=>hr a (List.mem_cons_of_mem _ ha)),o41,H_⟩
    ·
     refine xck rfl (dff cc34) <| xhz rfl <| xez ?_
     refine xgx 7 [] xkk (by kernel_rfl) (Nat.le_of_ble_eq_true rfl) ?_
     refine wt (xaq (v:=w3) rfl) (tm':=zq2 (zq4 (zq16 (zq32 (zq32 (zq32 [])))))) rfl <| wd (fun h_ H_=>xaj H_ tA22 rfl (i:=0) rfl (v:=(val1 1)) rfl) <| wt (xaq (v:=.int .i64 ((((t.nW+t.nH)+2:Nat):Int))) rfl) (tm':=zq2 (zq4 (zq16 (zq32 (zq32 (zq32 [])))))) rfl ?_
     refine wo (xkj rfl rfl (n:=((((t.nW+t.nH)+2)-1:Nat):Int)) (by rw [show (((t.nW+t.nH)+2:Nat):Int)-1=((((t.nW+t.nH)+2)-1:Nat):Int) from by omega];exact wr (by omega))) ?_
     refine wt (xix o1_ Tryd.underlying22 tS3 rfl rfl (by rw [((xcw _).trans yjw)];first | omega | (simp only [List.length_set];omega))) (tm':=zq2 (zq4 (zq16 (zq32 (zq32 (zq32 [])))))) rfl ?_
     refine wd (fun h_ H_=>xuk (i:=((t.nW+t.nH)+2)-1) (j:=0) (e:=[.int .i64 (Go.X.Bf.L (bf t wi d) (((t.nW+t.nH)+2)-1))]) o1_ H_ (fun x_ h_=>by simp [h_]) tA3 rfl rfl (ygx (by rw [yjw];omega)) (u:=.int .i64 (Go.X.Bf.L (bf t wi d) (((t.nW+t.nH)+2)-1))) rfl) ?_
     refine wt (xax (v:=w3) rfl) (tm':=_::_::_::_) rfl ?_
     refine xiz rfl ?_
     refine ro (xax (v:=.int .i64 (Go.X.Bf.L (bf t wi d) (((t.nW+t.nH)+2)-1))) rfl) <| xak ?_
     refine xgv (List.Perm.append_left _ (List.Perm.append_left _ (List.Perm.append_left _ (List.perm_append_comm_assoc _ _ _)))) ?_
     refine xgv (List.Perm.append_left _ (List.Perm.append_left _ (List.perm_append_comm_assoc _ _ _))) ?_
     refine xgv (List.Perm.append_left _ (List.perm_append_comm_assoc _ _ _)) ?_
     refine xlk (L':=([(b3,.cells #[(val1 1)] 22 (0,0)),(b4,.cells #[(val1 3)] 95 (0,0))]:Pcs)++((marksP rs)++(X3++(X1++(X2++[]))))) rfl ?_
     refine xgv (List.perm_append_comm_assoc ([(b3,.cells #[(val1 1)] 22 (0,0)),(b4,.cells #[(val1 3)] 95 (0,0))]:Pcs) (marksP rs) _) ?_
     refine ztq Tryd.func97 rfl (vs:=[w3,.int .i64 (Go.X.Bf.L (bf t wi d) (((t.nW+t.nH)+2)-1))]) (fun h_ H_=>⟨w3,_,rfl,rfl,⟨.int .i64 (Go.X.Bf.L (bf t wi d) (((t.nW+t.nH)+2)-1)),_,rfl,rfl,rfl⟩⟩) (v:=.tuple #[w3,.int .i64 (Go.X.Bf.L (bf t wi d) (((t.nW+t.nH)+2)-1))]) rfl ?_
     have hrn:=Chain.nil' hC (show n=t.sp from by unfold Tn.sp;omega)
     subst hrn
     rw [List.append_nil] at hP
     exact fun h_ H_=>K _ _ ⟨_,_,rfl,o3.as (by rw [hP]),((H_.dropA).sub (List.sublist_append_left _ _)).new⟩
   ·
    refine xck rfl (dff cc31) <| xcv <| xez ?_
    refine xgx 7 [] xkk (by kernel_rfl) (Nat.le_of_ble_eq_true rfl) ?_
    refine wt (xaq (v:=.slice none 0 0) rfl) (tm':=zq2 (zq4 (zq16 (zq32 (zq32 (zq32 [])))))) rfl <| wd (fun h_ H_=>xaj H_ tA22 rfl (i:=0) rfl (v:=(val1 1)) rfl) <| wt (xaq (v:=.int .i64 ((((t.nW+t.nH)+2:Nat):Int))) rfl) (tm':=zq2 (zq4 (zq16 (zq32 (zq32 (zq32 [])))))) rfl ?_
    refine wo (xkj rfl rfl (n:=((((t.nW+t.nH)+2)-1:Nat):Int)) (by rw [show (((t.nW+t.nH)+2:Nat):Int)-1=((((t.nW+t.nH)+2)-1:Nat):Int) from by omega];exact wr (by omega))) ?_
    refine wt (xix o1_ Tryd.underlying22 tS3 rfl rfl (by rw [((xcw _).trans yjw)];first | omega | (simp only [List.length_set];omega))) (tm':=zq2 (zq4 (zq16 (zq32 (zq32 (zq32 [])))))) rfl ?_
    refine wd (fun h_ H_=>xnv (A:=([(b3,.cells #[(val1 1)] 22 (0,0)),(b4,.cells #[(val1 3)] 95 (0,0))]:Pcs)) (i:=((t.nW+t.nH)+2)-1) (j:=0) (e:=[.int .i64 (Go.X.Bf.L (bf t wi d) (((t.nW+t.nH)+2)-1))]) o1_ H_ tA3 rfl rfl (ygx (by rw [yjw];omega)) (u:=.int .i64 (Go.X.Bf.L (bf t wi d) (((t.nW+t.nH)+2)-1))) rfl) ?_
    refine wt (xax (v:=.slice none 0 0) rfl) (tm':=_::_::_::_) rfl ?_
    refine xiz rfl ?_
    refine rt (xax (v:=.int .i64 (Go.X.Bf.L (bf t wi d) (((t.nW+t.nH)+2)-1))) rfl) (tm':=zq4 _) rfl <| xak ?_
    refine xgv (List.Perm.append_left _ (List.Perm.append_left _ (List.perm_append_comm_assoc _ _ _))) ?_
    refine xgv (List.Perm.append_left _ (List.perm_append_comm_assoc _ _ _)) ?_
    refine xlk (L':=([(b3,.cells #[(val1 1)] 22 (0,0)),(b4,.cells #[(val1 3)] 95 (0,0))]:Pcs)++((marksP rs)++(X1++(X2++[])))) rfl ?_
    refine xgv (List.perm_append_comm_assoc ([(b3,.cells #[(val1 1)] 22 (0,0)),(b4,.cells #[(val1 3)] 95 (0,0))]:Pcs) (marksP rs) _) ?_
    refine ztq Tryd.func97 rfl (vs:=[.slice none 0 0,.int .i64 (Go.X.Bf.L (bf t wi d) (((t.nW+t.nH)+2)-1))]) (fun h_ H_=>⟨.slice none 0 0,_,rfl,rfl,⟨.int .i64 (Go.X.Bf.L (bf t wi d) (((t.nW+t.nH)+2)-1)),_,rfl,rfl,rfl⟩⟩) (v:=.tuple #[.slice none 0 0,.int .i64 (Go.X.Bf.L (bf t wi d) (((t.nW+t.nH)+2)-1))]) rfl ?_
    exact fun h_ H_=>K _ _ ⟨_,[],rfl,(OwnS.empty _ _).as (by rw [pathL,if_neg (fun z_=>‹¬ Go.X.Bf.L (bf t wi d) (t.nW+t.nH+2-1)<1152921504606846976› (by rw [yhq] at z_;exact z_))];rfl),(H_.sub (List.nil_sublist _)).new⟩
end Go.Proofs.YtalfgojocdonhaaDoor
namespace Go.Proofs.YtalfgojocdonhaaDoor
open Go.X Go.X.Flow Go.Conc
set_option maxRecDepth 10000
set_option synthInstance.maxSize 2000

set_option maxHeartbeats 4000000
open Go.X.Bf (a0)
theorem c68 (md:Md) (h:Heap) (p:PHeap) (hp:Per p h) (a1 a2 a3:Option Addr) (c1 c2 c3:Nat) (t:Tn) (T:TownP p a1 t.nH a2 t.nW a3 t.m t) (O:OkT t) (wi:Wi) (S:Sg wi):CallsX Tryd.prog md 68 #[.agg #[.slice a1 t.nH c1,.slice a2 t.nW c2,.slice a3 t.m c3],.agg #[.int .i64 (wi.house),.int .i64 (wi.well),.int .i64 (wi.sign)]] h fun v h'=>∃ w X,v=w∧OwnS 3 1 w (ics (fairP t wi)) X∧New h h' X:=by
 refine xcx (Φ:=fun h_=>St h [] p h_ []) Tryd.func68 rfl (tm:=zq1 (zq2 (zq16 (zq32 [])))) rfl ?_ (St.start h _ hp)
 intro c₀ cs Stop K
 have oH:=O.nh
 have oW:=O.nw
 have oM:=O.nm
 refine fsr ?_
 refine xij mn (v:=.agg #[.slice a1 t.nH c1,.slice a2 t.nW c2,.slice a3 t.m c3]) rfl fun b1=>xcq (L':=[(b1,.cells #[.slice a1 t.nH c1,.slice a2 t.nW c2,.slice a3 t.m c3] 25 (0,0))]) rfl ?_
 refine xij mn (v:=.agg #[.int .i64 (wi.house),.int .i64 (wi.well),.int .i64 (wi.sign)]) rfl fun b2=>xcq (L':=[(b2,.cells #[.int .i64 (wi.house),.int .i64 (wi.well),.int .i64 (wi.sign)] 72 (0,0)),(b1,.cells #[.slice a1 t.nH c1,.slice a2 t.nW c2,.slice a3 t.m c3] 25 (0,0))]) rfl ?_
 refine rt (xax (v:=.slice none 0 0) rfl) (tm':=zq1 (zq4 _)) rfl <| ren ?_
 refine xxv (xlx (C:=[]) (A:=([(b2,.cells #[.int .i64 (wi.house),.int .i64 (wi.well),.int .i64 (wi.sign)] 72 (0,0)),(b1,.cells #[.slice a1 t.nH c1,.slice a2 t.nW c2,.slice a3 t.m c3] 25 (0,0))]:Pcs)) 6 [[],[],[],[2],[2,3],[2,3,4],[0,1,2,3,4,5],[],[]] [] [5] [0,1,2,3,4] (fun _=>[]) (fun _=>[]) (fun i_=>match i_ with | 0=>[] | 1=>[] | 2=>[] | 3=>[2] | 4=>[3] | 5=>[4] | _=>[]) (fun i_ val_ pc_ v_ x_=>match i_ with | 0=>v_= .agg #[.slice a1 t.nH c1,.slice a2 t.nW c2,.slice a3 t.m c3]∧x_=[] | 1=>v_= .agg #[.int .i64 (wi.house),.int .i64 (wi.well),.int .i64 (wi.sign)]∧x_=[] | 2=>v_= .pointer (some ⟨b1,2,none⟩)∧x_=[] | 3=>v_= .slice a3 t.m c3∧x_=[] | 4=>v_= .int .i64 (((t.m:Nat):Int))∧x_=[] | 5=>OwnS 3 1 v_ (ics (List.replicate t.m (0:Int))) x_ | _=>True) (fun val3=>(.agg #[.slice a1 t.nH c1,.slice a2 t.nW c2,.slice a3 t.m c3]::.agg #[.int .i64 (wi.house),.int .i64 (wi.well),.int .i64 (wi.sign)]::.pointer (some ⟨b1,0,none⟩)::.pointer (some ⟨b2,0,none⟩)::.slice none 0 0::undef::zu4 ((val3 0)::(val3 1)::(val3 2)::(val3 3)::(val3 4)::(val3 5)::undef::undef::undef::zu16 (zu16 [])))) xkk (by kernel_rfl) (Nat.le_of_ble_eq_true rfl) (by kernel_rfl) (by kernel_rfl) (by kernel_rfl) (fun _ _=>⟨fun _ _ h=>h.2,⟨fun _ _ h=>h.2,⟨fun _ _ h=>h.2,⟨fun _ _ h=>h.2,⟨fun _ _ h=>h.2,trivial⟩⟩⟩⟩⟩) (fun _=>by kernel_rfl) (by kernel_rfl) ?_ ?_) (fun h_ H_=>St.swap (A:=([(b2,.cells #[.int .i64 (wi.house),.int .i64 (wi.well),.int .i64 (wi.sign)] 72 (0,0)),(b1,.cells #[.slice a1 t.nH c1,.slice a2 t.nW c2,.slice a3 t.m c3] 25 (0,0))]:Pcs)) (U:=[]) H_)
 ·
  refine xaw rfl (xdk ?_) ?_
  ·
   intro val3 pc4 hQ_ hX_
   obtain ⟨q_,hq0_⟩: ∃ q_:Value→Pcs→Prop,q_=(fun v_ x_=>v_= .agg #[.slice a1 t.nH c1,.slice a2 t.nW c2,.slice a3 t.m c3]∧x_=[]):=⟨_,rfl⟩
   refine ⟨(zq1 (zq2 (zq16 (zq32 [])))),[],q_,rfl,rfl,(fun _ _ z_=>by subst hq0_;exact z_),?_⟩
   subst hq0_
   exact xdw mn (fun _ h_ H_=>xav H_ tA25 tS25 rfl (i:=1) rfl (vs:=[.slice a1 t.nH c1,.slice a2 t.nW c2,.slice a3 t.m c3]) rfl rfl) ⟨rfl,rfl⟩
  refine xaw rfl (xdk ?_) ?_
  ·
   intro val3 pc4 hQ_ hX_
   obtain ⟨q_,hq0_⟩: ∃ q_:Value→Pcs→Prop,q_=(fun v_ x_=>v_= .agg #[.int .i64 (wi.house),.int .i64 (wi.well),.int .i64 (wi.sign)]∧x_=[]):=⟨_,rfl⟩
   refine ⟨(zq1 (zq2 (zq16 (zq32 [])))),[],q_,rfl,rfl,(fun _ _ z_=>by subst hq0_;exact z_),?_⟩
   subst hq0_
   exact xdw mn (fun _ h_ H_=>xav H_ tA72 tS72 rfl (i:=0) rfl (vs:=[.int .i64 (wi.house),.int .i64 (wi.well),.int .i64 (wi.sign)]) rfl rfl) ⟨rfl,rfl⟩
  refine xaw rfl (xdk ?_) ?_
  ·
   intro val3 pc4 hQ_ hX_
   obtain ⟨q_,hq0_⟩: ∃ q_:Value→Pcs→Prop,q_=(fun v_ x_=>v_= .pointer (some ⟨b1,2,none⟩)∧x_=[]):=⟨_,rfl⟩
   refine ⟨(zq1 (zq2 (zq16 (zq32 [])))),[],q_,rfl,rfl,(fun _ _ z_=>by subst hq0_;exact z_),?_⟩
   subst hq0_
   exact xdw mn (fun _ h_ H_=>xaz xhj rfl (a':=⟨b1,2,none⟩) rfl) ⟨rfl,rfl⟩
  refine xaw rfl (xdk ?_) ?_
  ·
   intro val3 pc4 hQ_ hX_
   have e2_:val3 2= .pointer (some ⟨b1,2,none⟩):=(hQ_ 2 rfl).1
   obtain ⟨q_,hq0_⟩: ∃ q_:Value→Pcs→Prop,q_=(fun v_ x_=>v_= .slice a3 t.m c3∧x_=[]):=⟨_,rfl⟩
   refine ⟨(zq1 (zq2 (zq16 (zq32 [])))),[],q_,(by rw [e2_]),rfl,(fun _ _ z_=>by subst hq0_;exact z_),?_⟩
   subst hq0_
   exact xdw mn (fun _ h_ H_=>xaj H_ tA23 rfl (i:=1) rfl (v:=.slice a3 t.m c3) rfl) ⟨rfl,rfl⟩
  refine xaw rfl (xdk ?_) ?_
  ·
   intro val3 pc4 hQ_ hX_
   have e3_:val3 3= .slice a3 t.m c3:=(hQ_ 3 rfl).1
   obtain ⟨q_,hq0_⟩: ∃ q_:Value→Pcs→Prop,q_=(fun v_ x_=>v_= .int .i64 (((t.m:Nat):Int))∧x_=[]):=⟨_,rfl⟩
   refine ⟨(zq1 (zq2 (zq16 (zq32 [])))),[],q_,(by rw [e3_]),rfl,(fun _ _ z_=>by subst hq0_;exact z_),?_⟩
   subst hq0_
   exact xdw mn (fun _ h_ H_=>xfz Tryd.underlying23 rfl) ⟨rfl,rfl⟩
  refine xaw rfl (xdk ?_) ?_
  ·
   intro val3 pc4 hQ_ hX_
   have e4_:val3 4= .int .i64 (((t.m:Nat):Int)):=(hQ_ 4 rfl).1
   obtain ⟨q_,hq0_⟩: ∃ q_:Value→Pcs→Prop,q_=(fun v_ x_=>OwnS 3 1 v_ (ics (List.replicate t.m (0:Int))) x_):=⟨_,rfl⟩
   refine ⟨(zq1 (zq2 (zq16 (zq32 [])))),[],q_,(by rw [e4_]),rfl,(fun _ _ z_=>by subst hq0_;exact z_),?_⟩
   subst hq0_
   exact yqk (n:=t.m) (zc:=[.int .i64 0]) mn Tryd.underlying22 tS3 tZ3 rfl rfl (by decide) (by decide) tB3 rfl rfl (by omega) (by decide) fun _ _ o_=>o_.as (wck _)
  exact xlq rfl
 intro val3 pc4 hQ_ hX_
 have e0_:val3 0= .agg #[.slice a1 t.nH c1,.slice a2 t.nW c2,.slice a3 t.m c3]:=(hQ_ 0 (by decide)).1
 have e1_:val3 1= .agg #[.int .i64 (wi.house),.int .i64 (wi.well),.int .i64 (wi.sign)]:=(hQ_ 1 (by decide)).1
 have e2_:val3 2= .pointer (some ⟨b1,2,none⟩):=(hQ_ 2 (by decide)).1
 have e3_:val3 3= .slice a3 t.m c3:=(hQ_ 3 (by decide)).1
 have e4_:val3 4= .int .i64 (((t.m:Nat):Int)):=(hQ_ 4 (by decide)).1
 have q5_:OwnS 3 1 (val3 5) (ics (List.replicate t.m (0:Int))) (pc4 5):=hQ_ 5 (by decide)
 clear hQ_ hX_
 refine xww (Φ:=fun h_=>St h [] p h_ (([(b2,.cells #[.int .i64 (wi.house),.int .i64 (wi.well),.int .i64 (wi.sign)] 72 (0,0)),(b1,.cells #[.slice a1 t.nH c1,.slice a2 t.nW c2,.slice a3 t.m c3] 25 (0,0))]:Pcs)++(pc4 5++[]))) ?_ (fun h_ H_=>H_.swap')
 refine xfj (tm':=(zq1 (zq2 (zq16 (zq32 []))))) (by rw [e0_,e1_,e2_,e3_,e4_]) ?_
 have o7:=q5_
 generalize val3 5=w8 at*
 obtain ⟨a9,c10,ev_,_⟩:=o7.val;have ev_:w8= .slice a9 t.m c10:=ev_.trans (congrArg (fun q_=>Value.slice a9 q_ c10) ((xcw _).trans (List.length_replicate ..)));subst ev_
 refine rt (xiq tZ94 tP94 (vs:=[(0,.agg #[.slice a1 t.nH c1,.slice a2 t.nW c2,.slice a3 t.m c3]),(1,.agg #[.int .i64 (wi.house),.int .i64 (wi.well),.int .i64 (wi.sign)]),(2,(.slice a9 t.m c10))]) rfl (cells:=#[.slice a1 t.nH c1,.slice a2 t.nW c2,.slice a3 t.m c3,.int .i64 (wi.house),.int .i64 (wi.well),.int .i64 (wi.sign),(.slice a9 t.m c10)]) rfl) (tm':=zq1 (zq16 _)) rfl ?_
 refine xij mn (v:=.agg #[.slice a1 t.nH c1,.slice a2 t.nW c2,.slice a3 t.m c3,.int .i64 (wi.house),.int .i64 (wi.well),.int .i64 (wi.sign),(.slice a9 t.m c10)]) rfl fun b11=>xcq (L':=([(b11,.cells #[.slice a1 t.nH c1,.slice a2 t.nW c2,.slice a3 t.m c3,.int .i64 (wi.house),.int .i64 (wi.well),.int .i64 (wi.sign),(.slice a9 t.m c10)] 94 (0,0)),(b2,.cells #[.int .i64 (wi.house),.int .i64 (wi.well),.int .i64 (wi.sign)] 72 (0,0)),(b1,.cells #[.slice a1 t.nH c1,.slice a2 t.nW c2,.slice a3 t.m c3] 25 (0,0))]:Pcs)++((pc4 5)++[])) rfl ?_
 refine ro (xax (v:=.pointer (some ⟨b11,0,none⟩)) rfl) <| xak <| xdj ?_
 refine xhk (m₀:=(sm t.nH t.hv).toNat+0) (fun m_ tm_ h_=>∃ (n:Nat) (d:List Int) (X1:Pcs),m_=n+0∧(∃ y12:Nat→Value,tm_=[.agg #[.slice a1 t.nH c1,.slice a2 t.nW c2,.slice a3 t.m c3],.agg #[.int .i64 (wi.house),.int .i64 (wi.well),.int .i64 (wi.sign)],.pointer (some ⟨b1,0,none⟩),.pointer (some ⟨b2,0,none⟩),(y12 4),.pointer (some ⟨b11,0,none⟩),(y12 6),(y12 7),undef,(y12 9),.agg #[.slice a1 t.nH c1,.slice a2 t.nW c2,.slice a3 t.m c3],.agg #[.int .i64 (wi.house),.int .i64 (wi.well),.int .i64 (wi.sign)],.pointer (some ⟨b1,2,none⟩),.slice a3 t.m c3,.int .i64 (((t.m:Nat):Int)),(.slice a9 t.m c10),.agg #[.slice a1 t.nH c1,.slice a2 t.nW c2,.slice a3 t.m c3,.int .i64 (wi.house),.int .i64 (wi.well),.int .i64 (wi.sign),(.slice a9 t.m c10)],.pointer (some ⟨b11,0,none⟩),(y12 18),(y12 19),(y12 20),(y12 21),(y12 22),(y12 23),(y12 24),(y12 25),(y12 26),(y12 27),(y12 28),(y12 29),(y12 30),(y12 31),(y12 32),(y12 33),(y12 34),(y12 35),(y12 36),(y12 37),(y12 38),(y12 39),(y12 40),(y12 41),(y12 42),(y12 43),(y12 44),(y12 45),(y12 46),(y12 47),(y12 48),(y12 49),(y12 50)])∧(Flow.Good t wi d)∧(sm t.nH t.hv-tot t d<(n:Int)+1)∧(fairF t wi (n+1) d=fairP t wi)∧(OwnS 3 1 (.slice a9 t.m c10) (ics d) X1)∧St h [] p h_ (([(b11,.cells #[.slice a1 t.nH c1,.slice a2 t.nW c2,.slice a3 t.m c3,.int .i64 (wi.house),.int .i64 (wi.well),.int .i64 (wi.sign),(.slice a9 t.m c10)] 94 (0,0)),(b2,.cells #[.int .i64 (wi.house),.int .i64 (wi.well),.int .i64 (wi.sign)] 72 (0,0)),(b1,.cells #[.slice a1 t.nH c1,.slice a2 t.nW c2,.slice a3 t.m c3] 25 (0,0))]:Pcs)++(X1++[]))) (fun h_ H_=>⟨(sm t.nH t.hv).toNat,(List.replicate t.m 0),(pc4 5),rfl,(y_of rfl),(Flow.Good.start O.toOk S),(zyw O.toOk),rfl,o7,H_⟩) ?_
 intro m_ tm_ IH13
 refine xhq fun n=>xhq fun d=>xhq fun X1=>xcz fun hm_=>xcz fun ht_=>xcz fun hG=>xcz fun hN=>xcz fun hF=>xcz fun o1=>?_
 subst hm_;obtain ⟨y12,ht_⟩:=ht_;subst ht_
 have hlx_:=hG.div.len
 have hb9_:=vhw hG.div (fun i hi=>vhk O hG.div hi)
 refine xdj <| fsr <| rt (xaq (v:=.pointer (some ⟨b11,0,none⟩)) rfl) (tm':=zq4 (zq16 _)) rfl ?_
 refine xiw mn (first:=[]) (cap:=[]) rfl rfl fC97 (R:=fun v_ h_=>∃ w14:Value,∃ X15:Pcs,v_= .tuple #[w14,.int .i64 (costL t wi d)]∧(OwnS 99 5 w14 (acs (pathL t wi d)) X15)∧St h [] p h_ (([(b11,.cells #[.slice a1 t.nH c1,.slice a2 t.nW c2,.slice a3 t.m c3,.int .i64 (wi.house),.int .i64 (wi.well),.int .i64 (wi.sign),(.slice a9 t.m c10)] 94 (0,0)),(b2,.cells #[.int .i64 (wi.house),.int .i64 (wi.well),.int .i64 (wi.sign)] 72 (0,0)),(b1,.cells #[.slice a1 t.nH c1,.slice a2 t.nW c2,.slice a3 t.m c3] 25 (0,0))]:Pcs)++(X15++(X1++[])))) (fun h_ H_=>(wqj (n:=t.m) o1 ((xcw _).trans hlx_) H_ (fun x_ h_=>by simp [h_]) (bt:=b11) (ob:=.cells #[.slice a1 t.nH c1,.slice a2 t.nW c2,.slice a3 t.m c3,.int .i64 (wi.house),.int .i64 (wi.well),.int .i64 (wi.sign),(.slice a9 t.m c10)] 94 (0,0)) (by simp) fun p_ a_ c_ hp_ le_ hv_ D_ hb_=>c97 md _ _ hp_ _ _ _ _ _ _ t ((show TownP _ _ _ _ _ _ _ t from ⟨T.h,T.w,T.y⟩).mono le_) O wi a_ c_ d (show Ints _ _ _ _ from D_) hG.div S _ (hv_ ▸ hb_) hG).mono fun v_ h2_ ⟨w14,X15,e_,o16,N_⟩=>⟨w14,X15,e_,o16,H_.callNA N_⟩) fun v_=>?_
 refine xgz fun w14=>xgz fun X15=>xfq fun ev_=>xfq fun o16=>?_
 have ev_:=ev_.symm;subst ev_
 refine xcq (L':=([(b11,.cells #[.slice a1 t.nH c1,.slice a2 t.nW c2,.slice a3 t.m c3,.int .i64 (wi.house),.int .i64 (wi.well),.int .i64 (wi.sign),(.slice a9 t.m c10)] 94 (0,0)),(b2,.cells #[.int .i64 (wi.house),.int .i64 (wi.well),.int .i64 (wi.sign)] 72 (0,0)),(b1,.cells #[.slice a1 t.nH c1,.slice a2 t.nW c2,.slice a3 t.m c3] 25 (0,0))]:Pcs)++(X15++(X1++[]))) rfl ?_
 refine ro (xaq (v:=.tuple #[w14,.int .i64 (costL t wi d)]) rfl) <| rt (xev rfl (v:=w14) rfl) (tm':=zq2 (zq4 (zq16 _))) rfl <| ro (xev rfl (v:=.int .i64 (costL t wi d)) rfl) <| ro (xax (v:=w14) rfl) <| rt (xax (v:=.int .i64 (costL t wi d)) rfl) (tm':=zq8 _) rfl <| ren ?_
 refine fsr <| ro (xaq (v:=.int .i64 (costL t wi d)) rfl) <| ro (xwk rfl rfl) <| xak ?_
 by_cases cc17:0≤costL t wi d
 ·
  refine xdx rfl (dtt cc17) <| xez ?_
  refine xgv (List.Perm.append_left _ (List.perm_append_comm_assoc _ _ _)) ?_
  refine xlk (L':=([(b11,.cells #[.slice a1 t.nH c1,.slice a2 t.nW c2,.slice a3 t.m c3,.int .i64 (wi.house),.int .i64 (wi.well),.int .i64 (wi.sign),(.slice a9 t.m c10)] 94 (0,0)),(b2,.cells #[.int .i64 (wi.house),.int .i64 (wi.well),.int .i64 (wi.sign)] 72 (0,0)),(b1,.cells #[.slice a1 t.nH c1,.slice a2 t.nW c2,.slice a3 t.m c3] 25 (0,0))]:Pcs)++(X1++(X15++[]))) rfl ?_
  refine xbq <| rt (xaq (v:=.pointer (some ⟨b11,0,none⟩)) rfl) (tm':=zq2 (zq8 (zq16 _))) rfl <| ro (xhx rfl) <| ro (xaz zok rfl (a':=⟨b11,6,none⟩) rfl) ?_
  refine xbx mn (fun h_ H_=>xaj H_ tA22 rfl (i:=0) rfl (v:=(.slice a9 t.m c10)) rfl) (tm':=zq1 (zq4 (zq8 (zq16 _)))) rfl ?_
  refine ro (xax (v:=(.slice a9 t.m c10)) rfl) <| xak ?_
  refine xdv Tryd.func68 rfl (vs:=[(.slice a9 t.m c10)]) (fun h_ H_=>⟨(.slice a9 t.m c10),_,rfl,rfl,rfl⟩) (v:=(.slice a9 t.m c10)) rfl ?_
  exact fun h_ H_=>K _ _ ⟨_,_,rfl,o1.as (by rw [← hF,zzq ‹_›]),((H_.dropA).sub (List.sublist_append_left _ _)).new⟩
 ·
  refine xck rfl (dff cc17) <| xcv <| xez ?_
  have hneg: ¬ 0≤costL t wi d:=‹_›
  obtain ⟨n',hn_,hG',hn',hF'⟩:=wiv O.toOk S hG hneg hN hF
  have hcf:costL t wi d<Go.X.Bf.far:=by rw [yhq];omega
  have hw_:=(hG.find O.toOk S).way hcf
  have hpl:=zrq O.toOk S hG
  have hmo:=fun a ha=>(wlw (hw_.2.2.2 a ha).1).2
  have hwy:=fun a ha=>(wlw (hw_.2.2.2 a ha).1).1
  refine xqx (A:=([(b11,.cells #[.slice a1 t.nH c1,.slice a2 t.nW c2,.slice a3 t.m c3,.int .i64 (wi.house),.int .i64 (wi.well),.int .i64 (wi.sign),(.slice a9 t.m c10)] 94 (0,0)),(b2,.cells #[.int .i64 (wi.house),.int .i64 (wi.well),.int .i64 (wi.sign)] 72 (0,0)),(b1,.cells #[.slice a1 t.nH c1,.slice a2 t.nW c2,.slice a3 t.m c3] 25 (0,0))]:Pcs)) o16 (xyv _) fun p18 a19 cp20 le21 ev_ D22=>?_
  subst ev_
  refine xbq <| ro (xaq (v:=.slice a19 ((pathL t wi d).length) cp20) rfl) <| rt (xfz Tryd.underlying95 rfl) (tm':=zq1 (zq2 (zq4 (zq8 (zq16 _))))) rfl <| ro (xaq (v:=.int .i64 0) rfl) <| xak <| xdj ?_
  refine xhk (m₀:=(pathL t wi d).length-0) (fun m_ tm_ h_=>∃ (k:Nat) (X2:Pcs),m_=(pathL t wi d).length-k∧(∃ y23:Nat→Value,tm_=[.agg #[.slice a1 t.nH c1,.slice a2 t.nW c2,.slice a3 t.m c3],.agg #[.int .i64 (wi.house),.int .i64 (wi.well),.int .i64 (wi.sign)],.pointer (some ⟨b1,0,none⟩),.pointer (some ⟨b2,0,none⟩),(y12 4),.pointer (some ⟨b11,0,none⟩),.slice a19 ((pathL t wi d).length) cp20,.int .i64 (costL t wi d),undef,(y23 9),.agg #[.slice a1 t.nH c1,.slice a2 t.nW c2,.slice a3 t.m c3],.agg #[.int .i64 (wi.house),.int .i64 (wi.well),.int .i64 (wi.sign)],.pointer (some ⟨b1,2,none⟩),.slice a3 t.m c3,.int .i64 (((t.m:Nat):Int)),(.slice a9 t.m c10),.agg #[.slice a1 t.nH c1,.slice a2 t.nW c2,.slice a3 t.m c3,.int .i64 (wi.house),.int .i64 (wi.well),.int .i64 (wi.sign),(.slice a9 t.m c10)],.pointer (some ⟨b11,0,none⟩),.tuple #[.slice a19 ((pathL t wi d).length) cp20,.int .i64 (costL t wi d)],.pointer (some ⟨b11,0,none⟩),.tuple #[.slice a19 ((pathL t wi d).length) cp20,.int .i64 (costL t wi d)],.slice a19 ((pathL t wi d).length) cp20,.int .i64 (costL t wi d),.int .i64 (costL t wi d),.bool (decide (0≤costL t wi d)),(y12 25),(y12 26),(y12 27),(y12 28),.slice a19 ((pathL t wi d).length) cp20,.int .i64 ((((pathL t wi d).length:Nat):Int)),.int .i64 (((k:Nat):Int)),(y23 32),(y23 33),(y23 34),(y23 35),(y23 36),(y23 37),(y23 38),(y23 39),(y23 40),(y23 41),(y23 42),(y23 43),(y23 44),(y23 45),(y23 46),(y23 47),(y23 48),(y23 49),(y23 50)])∧(k≤(pathL t wi d).length)∧(OwnS 3 1 (.slice a9 t.m c10) (ics (augK d (pathL t wi d) k)) X2)∧St h [] p18 h_ (([(b11,.cells #[.slice a1 t.nH c1,.slice a2 t.nW c2,.slice a3 t.m c3,.int .i64 (wi.house),.int .i64 (wi.well),.int .i64 (wi.sign),(.slice a9 t.m c10)] 94 (0,0)),(b2,.cells #[.int .i64 (wi.house),.int .i64 (wi.well),.int .i64 (wi.sign)] 72 (0,0)),(b1,.cells #[.slice a1 t.nH c1,.slice a2 t.nW c2,.slice a3 t.m c3] 25 (0,0))]:Pcs)++(X2++[]))) (fun h_ H_=>⟨0,X1,rfl,(y_of rfl),Nat.zero_le _,(o1.as (by rw [ziz])),H_⟩) ?_
  intro m_ tm_ IH24
  refine xhq fun k=>xhq fun X2=>xcz fun hm_=>xcz fun ht_=>xcz fun hk=>xcz fun o2=>?_
  subst hm_;obtain ⟨y23,ht_⟩:=ht_;subst ht_
  have hlx_:(augK d (pathL t wi d) k).length=t.m:=augK_len.trans hG.div.len
  have hbk_:=wlk hmo hb9_ k hk
  have hgm_:=fun z_:k<(pathL t wi d).length=>hwy _ (yzj z_)
  have hgo_:=fun z_:k<(pathL t wi d).length=>hmo _ (yzj z_)
  refine fsr <| ro (xgj rfl rfl) <| ren ?_
  by_cases cc25:((k:Nat):Int)<(((pathL t wi d).length:Nat):Int)
  ·
   refine xdx rfl (dtt cc25) <| xcv <| xez <| xdj <| fsr ?_
   refine rt (xbw (i:=k) Tryd.underlying95 tS99 (xjq a19 ((pathL t wi d).length) cp20 ((show Arcs _ _ _ (pathL t wi d) from D22).ne (by omega))) rfl (by omega)) (tm':=zq2 (zq32 _)) rfl ?_
   refine rd (fun h_ H_=>xgw H_ tA99 tS99 rfl (vs:=[.int .i64 (((((pathL t wi d).getD k Go.X.Bf.a0).fr:Nat):Int)),.int .i64 (((((pathL t wi d).getD k Go.X.Bf.a0).to:Nat):Int)),.int .i64 (((pathL t wi d).getD k Go.X.Bf.a0).cost),.int .i64 (((pathL t wi d).getD k Go.X.Bf.a0).way),.int .i64 (((pathL t wi d).getD k Go.X.Bf.a0).more)]) rfl ((show Arcs _ _ _ (pathL t wi d) from D22).all (by omega))) ?_
   refine xkx mn tZ99 rfl fun b26=>xcq (L':=([(b26,.cells #[.int .i64 0,.int .i64 0,.int .i64 0,.int .i64 0,.int .i64 0] 99 (0,0)),(b11,.cells #[.slice a1 t.nH c1,.slice a2 t.nW c2,.slice a3 t.m c3,.int .i64 (wi.house),.int .i64 (wi.well),.int .i64 (wi.sign),(.slice a9 t.m c10)] 94 (0,0)),(b2,.cells #[.int .i64 (wi.house),.int .i64 (wi.well),.int .i64 (wi.sign)] 72 (0,0)),(b1,.cells #[.slice a1 t.nH c1,.slice a2 t.nW c2,.slice a3 t.m c3] 25 (0,0))]:Pcs)++(X2++[])) rfl ?_
   refine xik mn tS99 rfl (v:=.agg #[.int .i64 (((((pathL t wi d).getD k Go.X.Bf.a0).fr:Nat):Int)),.int .i64 (((((pathL t wi d).getD k Go.X.Bf.a0).to:Nat):Int)),.int .i64 (((pathL t wi d).getD k Go.X.Bf.a0).cost),.int .i64 (((pathL t wi d).getD k Go.X.Bf.a0).way),.int .i64 (((pathL t wi d).getD k Go.X.Bf.a0).more)]) rfl (i:=0) rfl rfl rfl (Nat.le_of_ble_eq_true rfl) (cs2:=[.int .i64 (((((pathL t wi d).getD k Go.X.Bf.a0).fr:Nat):Int)),.int .i64 (((((pathL t wi d).getD k Go.X.Bf.a0).to:Nat):Int)),.int .i64 (((pathL t wi d).getD k Go.X.Bf.a0).cost),.int .i64 (((pathL t wi d).getD k Go.X.Bf.a0).way),.int .i64 (((pathL t wi d).getD k Go.X.Bf.a0).more)]) rfl (xcq (L':=([(b26,.cells #[.int .i64 (((((pathL t wi d).getD k Go.X.Bf.a0).fr:Nat):Int)),.int .i64 (((((pathL t wi d).getD k Go.X.Bf.a0).to:Nat):Int)),.int .i64 (((pathL t wi d).getD k Go.X.Bf.a0).cost),.int .i64 (((pathL t wi d).getD k Go.X.Bf.a0).way),.int .i64 (((pathL t wi d).getD k Go.X.Bf.a0).more)] 99 (0,0)),(b11,.cells #[.slice a1 t.nH c1,.slice a2 t.nW c2,.slice a3 t.m c3,.int .i64 (wi.house),.int .i64 (wi.well),.int .i64 (wi.sign),(.slice a9 t.m c10)] 94 (0,0)),(b2,.cells #[.int .i64 (wi.house),.int .i64 (wi.well),.int .i64 (wi.sign)] 72 (0,0)),(b1,.cells #[.slice a1 t.nH c1,.slice a2 t.nW c2,.slice a3 t.m c3] 25 (0,0))]:Pcs)++(X2++[])) rfl ?_)
   refine ren ?_
   have z1_:=hgm_ (by omega)
   have z2_:=hgo_ (by omega)
   refine xbq <| rt (xaz wvj rfl (a':=⟨b26,3,none⟩) rfl) (tm':=zq1 (zq2 (zq16 (zq32 [])))) rfl <| rd (fun h_ H_=>xaj H_ tA3 rfl (i:=0) rfl (v:=.int .i64 (((pathL t wi d).getD k Go.X.Bf.a0).way)) rfl) <| ro (xwk rfl rfl) <| xak ?_
   by_cases cc27:0≤((pathL t wi d).getD k Go.X.Bf.a0).way
   ·
    refine xdx rfl (dtt cc27) ?_
    refine xgx 10 [[],[0],[0,1],[0,1,2],[],[4],[0,1,2,3,4,5],[0,1,2,3,4,5,6],[],[8],[],[],[]] xkk (by kernel_rfl) (Nat.le_of_ble_eq_true rfl) ?_
    refine wt (xaq (v:=.pointer (some ⟨b11,0,none⟩)) rfl) (tm':=zq1 (zq2 (zq16 (zq32 [])))) rfl <| wo (xhx rfl) <| wt (xaz zok rfl (a':=⟨b11,6,none⟩) rfl) (tm':=zq1 (zq2 (zq16 (zq32 [])))) rfl <| wd (fun h_ H_=>xaj H_ tA22 rfl (i:=1) rfl (v:=(.slice a9 t.m c10)) rfl) <| wt (xaz wvj rfl (a':=⟨b26,3,none⟩) rfl) (tm':=zq1 (zq2 (zq16 (zq32 [])))) rfl <| wd (fun h_ H_=>xaj H_ tA3 rfl (i:=0) rfl (v:=.int .i64 (((pathL t wi d).getD k Go.X.Bf.a0).way)) rfl) ?_
    refine wt (xoz o2 Tryd.underlying22 tS3 rfl rfl (by omega) (by rw [((xcw _).trans hlx_)];omega)) (tm':=zq1 (zq2 (zq16 (zq32 [])))) rfl ?_
    refine wd (fun h_ H_=>xnv (A:=([(b26,.cells #[.int .i64 (((((pathL t wi d).getD k Go.X.Bf.a0).fr:Nat):Int)),.int .i64 (((((pathL t wi d).getD k Go.X.Bf.a0).to:Nat):Int)),.int .i64 (((pathL t wi d).getD k Go.X.Bf.a0).cost),.int .i64 (((pathL t wi d).getD k Go.X.Bf.a0).way),.int .i64 (((pathL t wi d).getD k Go.X.Bf.a0).more)] 99 (0,0)),(b11,.cells #[.slice a1 t.nH c1,.slice a2 t.nW c2,.slice a3 t.m c3,.int .i64 (wi.house),.int .i64 (wi.well),.int .i64 (wi.sign),(.slice a9 t.m c10)] 94 (0,0)),(b2,.cells #[.int .i64 (wi.house),.int .i64 (wi.well),.int .i64 (wi.sign)] 72 (0,0)),(b1,.cells #[.slice a1 t.nH c1,.slice a2 t.nW c2,.slice a3 t.m c3] 25 (0,0))]:Pcs)) (i:=((((pathL t wi d).getD k Go.X.Bf.a0).way)).toNat) (j:=0) (e:=[.int .i64 ((augK d (pathL t wi d) k).getD (((((pathL t wi d).getD k Go.X.Bf.a0).way)).toNat) 0)]) o2 H_ tA3 rfl rfl (xqw (by rw [hlx_];omega)) (u:=.int .i64 ((augK d (pathL t wi d) k).getD (((((pathL t wi d).getD k Go.X.Bf.a0).way)).toNat) 0)) rfl) ?_
    refine wt (xaz vdv rfl (a':=⟨b26,4,none⟩) rfl) (tm':=zq1 (zq2 (zq16 (zq32 [])))) rfl <| wd (fun h_ H_=>xaj H_ tA3 rfl (i:=0) rfl (v:=.int .i64 (((pathL t wi d).getD k Go.X.Bf.a0).more)) rfl) ?_
    refine xiz rfl ?_
    refine ro (xek rfl rfl (wr (by have z3_:=hbk_ ((pathL t wi d).getD k Go.X.Bf.a0).way.toNat;omega))) ?_
    refine ro (xoz o2 Tryd.underlying22 tS3 rfl rfl (by omega) (by rw [((xcw _).trans hlx_)];omega)) ?_
    refine xux (A:=([(b26,.cells #[.int .i64 (((((pathL t wi d).getD k Go.X.Bf.a0).fr:Nat):Int)),.int .i64 (((((pathL t wi d).getD k Go.X.Bf.a0).to:Nat):Int)),.int .i64 (((pathL t wi d).getD k Go.X.Bf.a0).cost),.int .i64 (((pathL t wi d).getD k Go.X.Bf.a0).way),.int .i64 (((pathL t wi d).getD k Go.X.Bf.a0).more)] 99 (0,0)),(b11,.cells #[.slice a1 t.nH c1,.slice a2 t.nW c2,.slice a3 t.m c3,.int .i64 (wi.house),.int .i64 (wi.well),.int .i64 (wi.sign),(.slice a9 t.m c10)] 94 (0,0)),(b2,.cells #[.int .i64 (wi.house),.int .i64 (wi.well),.int .i64 (wi.sign)] 72 (0,0)),(b1,.cells #[.slice a1 t.nH c1,.slice a2 t.nW c2,.slice a3 t.m c3] 25 (0,0))]:Pcs)) (i:=((((pathL t wi d).getD k Go.X.Bf.a0).way)).toNat) (j:=0) (e:=[.int .i64 ((augK d (pathL t wi d) k).getD (((((pathL t wi d).getD k Go.X.Bf.a0).way)).toNat) 0)]) (u:=.int .i64 (((augK d (pathL t wi d) k).getD (((((pathL t wi d).getD k Go.X.Bf.a0).way)).toNat) 0)+(((pathL t wi d).getD k Go.X.Bf.a0).more))) o2 mn tS3 rfl rfl rfl ⟨rfl,rfl⟩ (xqw (by rw [hlx_];omega)) (Nat.succ_le_iff.1 (Nat.le_of_ble_eq_true rfl)) fun X28 o29=>?_
    have o30:OwnS 3 1 (.slice a9 t.m c10) (ics ((augK d (pathL t wi d) k).set (((((pathL t wi d).getD k Go.X.Bf.a0).way)).toNat) (((augK d (pathL t wi d) k).getD (((((pathL t wi d).getD k Go.X.Bf.a0).way)).toNat) 0)+(((pathL t wi d).getD k Go.X.Bf.a0).more)))) X28:=o29.as xxw
    refine xak <| xdq <| xbq ?_
    refine rt (xek rfl rfl (n:=((k+1:Nat):Int)) (wr (by omega))) (tm':=zq1 (zq2 (zq16 (zq32 [])))) rfl ?_
    refine ro (xaq (v:=.int .i64 (((k+1:Nat):Int))) rfl) <| xak ?_
    exact fun h_ H_=>IH24 _ _ (by omega) h_ ⟨k+1,X28,rfl,(y_of rfl),(by omega),(o30.as (congrArg ics (wuq (by omega) ‹_›))),H_.drop⟩
   ·
    refine xck rfl (dff cc27) <| xcv <| xdq <| xbq ?_
    refine ro (xek rfl rfl (n:=((k+1:Nat):Int)) (wr (by omega))) ?_
    refine rt (xaq (v:=.int .i64 (((k+1:Nat):Int))) rfl) (tm':=zq32 _) rfl <| xak ?_
    exact fun h_ H_=>IH24 _ _ (by omega) h_ ⟨k+1,X2,rfl,(y_of rfl),(by omega),(o2.as (congrArg ics (vcv (by omega) ‹_›))),H_.drop⟩
  ·
   refine xck rfl (dff cc25) <| xhz rfl <| xdq ?_
   exact fun h_ H_=>IH13 _ _ (by omega) h_ ⟨n',(aug d (pathL t wi d)),X2,rfl,(y_of rfl),hG',hn',hF',(o2.as (by rw [wux (by omega)])),(H_.forget le21)⟩
end Go.Proofs.YtalfgojocdonhaaDoor
namespace Go.Proofs.YtalfgojocdonhaaDoor
open Go.X Go.X.Flow Go.Conc
set_option maxRecDepth 10000
set_option synthInstance.maxSize 2000

set_option maxHeartbeats 2000000
theorem yqw (md:Md) {h h₀:Heap} {B₀:List Nat} {p:PHeap} {A C X U:Pcs} {a1 a2 a3:Option Addr} {c1 c2 c3:Nat} {t:Tn} (T:TownP p a1 t.nH a2 t.nW a3 t.m t) (O:OkT t) {w:Value} {d:List Int} (Dv:Div t d) (o:OwnS 3 1 w (ics d) X) (hn:(ics d).length=t.m) (hX: ∀ x∈X,x∈U) (s:St h₀ B₀ p h (U++(A++C))):
  CallsX Tryd.prog md 67 #[.agg #[.slice a1 t.nH c1,.slice a2 t.nW c2,.slice a3 t.m c3],w] h fun v h'=>∃ x,(∃ w1 w2 X1 X2,v= .tuple #[w1,w2]∧(OwnS 3 1 w1 (ics (lackL t d)) X1)∧(OwnS 3 1 w2 (ics (hasL t d)) X2)∧x=(X2++(X1++[])))∧St h₀ B₀ p h' (x++(A++C)):=
 yzq o hn s (fun x hx=>List.mem_append_left _ (hX x hx)) fun p' a cap hp le hv D=>by
  subst hv
  exact (wgz md hp (T.mono le) O (show Ints _ _ _ d from D) Dv).mono fun v h' ⟨w1,w2,X1,X2,e,o1,o2,N⟩=>⟨_,⟨w1,w2,X1,X2,e,o1,o2,rfl⟩,(s.callN N).sub (List.Sublist.append_left (List.sublist_append_right _ _) _)⟩
theorem zaw (md:Md) {h:Heap} {p:PHeap} (hp:Per p h) {a b:Option Addr} {m n c d:Nat} {xs ys:List Int} (A:Ints p a m xs) (B:Ints p b n ys) (hm:m≤2 ^ 40):CallsX Tryd.prog md 59 #[.slice a m c,.slice b n d] h fun v h'=>v= .bool (decide (earlier xs ys=true))∧Keep h h':=
 (c59 md h p hp a b m n c d xs ys A B hm).mono fun v h' ⟨e,k⟩=>⟨by rw [e,Bool.decide_eq_true],k⟩
theorem c81 (md:Md) (h:Heap) (p:PHeap) (hp:Per p h) (a1 a2 a3:Option Addr) (c1 c2 c3:Nat) (t:Tn) (T:TownP p a1 t.nH a2 t.nW a3 t.m t) (O:OkT t) (N:NoneP p):CallsX Tryd.prog md 81 #[.agg #[.slice a1 t.nH c1,.slice a2 t.nW c2,.slice a3 t.m c3]] h fun v h'=>∃ w X,v=w∧OwnS 3 1 w (ics (LK t)) X∧New h h' X:=by
 refine xcx (Φ:=fun h_=>St h [] p h_ []) Tryd.func81 rfl (tm:=zq1 (zq2 (zq4 (zq8 [])))) rfl ?_ (St.start h _ hp)
 intro c₀ cs Stop K
 have oH:=O.nh
 have oW:=O.nw
 have oM:=O.nm
 have hN_:=N
 obtain ⟨tN,zN,hN⟩:=hN_
 refine fsr ?_
 refine xij mn (v:=.agg #[.slice a1 t.nH c1,.slice a2 t.nW c2,.slice a3 t.m c3]) rfl fun b1=>xcq (L':=[(b1,.cells #[.slice a1 t.nH c1,.slice a2 t.nW c2,.slice a3 t.m c3] 25 (0,0))]) rfl ?_
 refine ro (xax (v:=.slice none 0 0) rfl) <| ren ?_
 obtain ⟨Gw7,GX8,hG3_⟩:=sk2 (fun (v_:Value) (x_:Pcs) (w7:Value) (X8:Pcs)=>v_=w7∧(OwnS 3 1 w7 (ics (fairP t none0)) X8)∧x_=(X8++[]))
 obtain ⟨Gw10,Gw11,GX12,GX13,hG4_⟩:=sk4 (fun (v_:Value) (x_:Pcs) (w10:Value) (w11:Value) (X12:Pcs) (X13:Pcs)=>v_= .tuple #[w10,w11]∧(OwnS 3 1 w10 (ics (lackL t (fairP t none0))) X12)∧(OwnS 3 1 w11 (ics (hasL t (fairP t none0))) X13)∧x_=(X13++(X12++[])))
 refine xxv (xlx (C:=[]) (A:=([(b1,.cells #[.slice a1 t.nH c1,.slice a2 t.nW c2,.slice a3 t.m c3] 25 (0,0))]:Pcs)) 9 [[],[],[],[],[],[4],[],[],[],[]] [] [4] [0,1,2,5,6,7,8] (fun _=>[]) (fun i_=>match i_ with | 4=>[3] | _=>[]) (fun i_=>match i_ with | 0=>[] | 1=>[] | 2=>[] | 3=>[1,2] | 4=>[0,3] | 5=>[4] | 6=>[4,5] | 7=>[4,5] | 8=>[0,1,2,3,4,5,6] | _=>[]) (fun i_ val_ pc_ v_ x_=>match i_ with | 0=>v_= .agg #[.slice a1 t.nH c1,.slice a2 t.nW c2,.slice a3 t.m c3]∧x_=[] | 1=>v_= .agg #[.slice a1 t.nH c1,.slice a2 t.nW c2,.slice a3 t.m c3]∧x_=[] | 2=>v_= .agg #[.int .i64 (-1),.int .i64 (-1),.int .i64 0]∧x_=[] | 3=>∃ w7:Value,∃ X8:Pcs,v_=w7∧(OwnS 3 1 w7 (ics (fairP t none0)) X8)∧x_=(X8++[]) | 4=>∃ w10:Value,∃ w11:Value,∃ X12:Pcs,∃ X13:Pcs,v_= .tuple #[w10,w11]∧(OwnS 3 1 w10 (ics (lackL t (fairP t none0))) X12)∧(OwnS 3 1 w11 (ics (hasL t (fairP t none0))) X13)∧x_=(X13++(X12++[])) | 5=>v_= .tuple #[(Gw10 (val_ 4) (pc_ 4)),(Gw11 (val_ 4) (pc_ 4))]∧x_=[] | 6=>v_=(Gw10 (val_ 4) (pc_ 4))∧x_=[] | 7=>v_=(Gw11 (val_ 4) (pc_ 4))∧x_=[] | 8=>v_=(Gw10 (val_ 4) (pc_ 4))∧x_=[] | _=>True) (fun val5=>[.agg #[.slice a1 t.nH c1,.slice a2 t.nW c2,.slice a3 t.m c3],.pointer (some ⟨b1,0,none⟩),.slice none 0 0,(val5 8),undef,(val5 5),(val5 0),(val5 1),(val5 2),(val5 3),(val5 4),(val5 6),(val5 7),undef,undef]) xkk (by kernel_rfl) (Nat.le_of_ble_eq_true rfl) (by kernel_rfl) (by kernel_rfl) (by kernel_rfl) (fun _ _=>⟨fun _ _ h=>h.2,⟨fun _ _ h=>h.2,⟨fun _ _ h=>h.2,⟨fun _ _ h=>h.2,⟨fun _ _ h=>h.2,⟨fun _ _ h=>h.2,⟨fun _ _ h=>h.2,trivial⟩⟩⟩⟩⟩⟩⟩) (fun _=>by kernel_rfl) (by kernel_rfl) ?_ ?_) (fun h_ H_=>St.swap (A:=([(b1,.cells #[.slice a1 t.nH c1,.slice a2 t.nW c2,.slice a3 t.m c3] 25 (0,0))]:Pcs)) (U:=[]) H_)
 ·
  refine xaw rfl (xdk ?_) ?_
  ·
   intro val5 pc6 hQ_ hX_
   obtain ⟨q_,hq0_⟩: ∃ q_:Value→Pcs→Prop,q_=(fun v_ x_=>v_= .agg #[.slice a1 t.nH c1,.slice a2 t.nW c2,.slice a3 t.m c3]∧x_=[]):=⟨_,rfl⟩
   refine ⟨(zq1 (zq2 (zq4 (zq8 [])))),[],q_,rfl,rfl,(fun _ _ z_=>by subst hq0_;exact z_),?_⟩
   subst hq0_
   exact xdw mn (fun _ h_ H_=>xav H_ tA25 tS25 rfl (i:=0) rfl (vs:=[.slice a1 t.nH c1,.slice a2 t.nW c2,.slice a3 t.m c3]) rfl rfl) ⟨rfl,rfl⟩
  refine xaw rfl (xdk ?_) ?_
  ·
   intro val5 pc6 hQ_ hX_
   obtain ⟨q_,hq0_⟩: ∃ q_:Value→Pcs→Prop,q_=(fun v_ x_=>v_= .agg #[.slice a1 t.nH c1,.slice a2 t.nW c2,.slice a3 t.m c3]∧x_=[]):=⟨_,rfl⟩
   refine ⟨(zq1 (zq2 (zq4 (zq8 [])))),[],q_,rfl,rfl,(fun _ _ z_=>by subst hq0_;exact z_),?_⟩
   subst hq0_
   exact xdw mn (fun _ h_ H_=>xav H_ tA25 tS25 rfl (i:=0) rfl (vs:=[.slice a1 t.nH c1,.slice a2 t.nW c2,.slice a3 t.m c3]) rfl rfl) ⟨rfl,rfl⟩
  refine xaw rfl (xdk ?_) ?_
  ·
   intro val5 pc6 hQ_ hX_
   obtain ⟨q_,hq0_⟩: ∃ q_:Value→Pcs→Prop,q_=(fun v_ x_=>v_= .agg #[.int .i64 (-1),.int .i64 (-1),.int .i64 0]∧x_=[]):=⟨_,rfl⟩
   refine ⟨(zq1 (zq2 (zq4 (zq8 [])))),[],q_,rfl,rfl,(fun _ _ z_=>by subst hq0_;exact z_),?_⟩
   subst hq0_
   exact xdw mn (fun _ h_ H_=>xgw H_ tA72 tS72 rfl (vs:=[.int .i64 (-1),.int .i64 (-1),.int .i64 0]) rfl (xvz (n:=3) hN rfl)) ⟨rfl,rfl⟩
  refine xaw rfl (xdk ?_) ?_
  ·
   intro val5 pc6 hQ_ hX_
   have e1_:val5 1= .agg #[.slice a1 t.nH c1,.slice a2 t.nW c2,.slice a3 t.m c3]:=(hQ_ 1 rfl).1
   have e2_:val5 2= .agg #[.int .i64 (-1),.int .i64 (-1),.int .i64 0]:=(hQ_ 2 rfl).1
   obtain ⟨q_,hq0_⟩: ∃ q_:Value→Pcs→Prop,q_=(fun v_ x_=>∃ w7:Value,∃ X8:Pcs,v_=w7∧(OwnS 3 1 w7 (ics (fairP t none0)) X8)∧x_=(X8++[])):=⟨_,rfl⟩
   refine ⟨(zq1 (zq2 (zq4 (zq8 [])))),[],q_,(by rw [e1_,e2_]),rfl,(fun _ _ z_=>by subst hq0_;exact z_),?_⟩
   subst hq0_
   exact xok mn (first:=[]) (cap:=[]) rfl rfl fC68 (fun _ h_ H_=>(c68 md _ _ H_.pe _ _ _ _ _ _ t (show TownP _ _ _ _ _ _ _ t from ⟨T.h,T.w,T.y⟩) O none0 xvv).mono fun v_ h2_ ⟨w7,X8,e_,o9,N_⟩=>⟨_,⟨w7,X8,e_,o9,rfl⟩,H_.callN (show New _ _ (X8++[]) by rw [List.append_nil];exact N_)⟩)
  refine xaw rfl (xdk ?_) ?_
  ·
   intro val5 pc6 hQ_ hX_
   have e0_:val5 0= .agg #[.slice a1 t.nH c1,.slice a2 t.nW c2,.slice a3 t.m c3]:=(hQ_ 0 rfl).1
   obtain ⟨e3_,o9,x3_⟩:=hG3_ _ _ (hQ_ 3 rfl)
   generalize hg_w7:Gw7 (val5 3) (pc6 3)=w7 at*
   generalize hg_X8:GX8 (val5 3) (pc6 3)=X8 at*
   obtain ⟨q_,hq0_⟩: ∃ q_:Value→Pcs→Prop,q_=(fun v_ x_=>∃ w10:Value,∃ w11:Value,∃ X12:Pcs,∃ X13:Pcs,v_= .tuple #[w10,w11]∧(OwnS 3 1 w10 (ics (lackL t (fairP t none0))) X12)∧(OwnS 3 1 w11 (ics (hasL t (fairP t none0))) X13)∧x_=(X13++(X12++[]))):=⟨_,rfl⟩
   refine ⟨(zq1 (zq2 (zq4 (zq8 [])))),((X8++[])++[]),q_,(by rw [e0_,e3_]),(by rw [← x3_];rfl),(fun _ _ z_=>by subst hq0_ hg_w7 hg_X8;exact z_),?_⟩
   subst hq0_
   exact xok mn (first:=[]) (cap:=[]) rfl rfl fC67 (fun _ h_ H_=>yqw md (show TownP _ _ _ _ _ _ _ t from ⟨T.h,T.w,T.y⟩) O (xtv O.toOk xvv).div o9 ((xcw _).trans (yhx t _)) (fun x_ h_=>by simp [h_]) H_)
  refine xaw rfl (xdk ?_) ?_
  ·
   intro val5 pc6 hQ_ hX_
   obtain ⟨e4_,o14,o15,x4_⟩:=hG4_ _ _ (hQ_ 4 rfl)
   generalize hg_w10:Gw10 (val5 4) (pc6 4)=w10 at*
   generalize hg_w11:Gw11 (val5 4) (pc6 4)=w11 at*
   generalize hg_X12:GX12 (val5 4) (pc6 4)=X12 at*
   generalize hg_X13:GX13 (val5 4) (pc6 4)=X13 at*
   obtain ⟨q_,hq0_⟩: ∃ q_:Value→Pcs→Prop,q_=(fun v_ x_=>v_= .tuple #[w10,w11]∧x_=[]):=⟨_,rfl⟩
   refine ⟨(zq1 (zq2 (zq4 (zq8 [])))),[],q_,(by rw [e4_]),rfl,(fun _ _ z_=>by subst hq0_ hg_w10 hg_w11 hg_X12 hg_X13;exact z_),?_⟩
   subst hq0_
   exact xdw mn (fun _ h_ H_=>xaq (v:=.tuple #[w10,w11]) rfl) ⟨rfl,rfl⟩
  refine xaw rfl (xdk ?_) ?_
  ·
   intro val5 pc6 hQ_ hX_
   obtain ⟨e4_,o14,o15,x4_⟩:=hG4_ _ _ (hQ_ 4 rfl)
   have e5_:val5 5= .tuple #[(Gw10 (val5 4) (pc6 4)),(Gw11 (val5 4) (pc6 4))]:=(hQ_ 5 rfl).1
   generalize hg_w10:Gw10 (val5 4) (pc6 4)=w10 at*
   generalize hg_w11:Gw11 (val5 4) (pc6 4)=w11 at*
   generalize hg_X12:GX12 (val5 4) (pc6 4)=X12 at*
   generalize hg_X13:GX13 (val5 4) (pc6 4)=X13 at*
   obtain ⟨q_,hq0_⟩: ∃ q_:Value→Pcs→Prop,q_=(fun v_ x_=>v_=w10∧x_=[]):=⟨_,rfl⟩
   refine ⟨(zq1 (zq2 (zq4 (zq8 [])))),[],q_,(by rw [e4_,e5_]),rfl,(fun _ _ z_=>by subst hq0_ hg_w10 hg_w11 hg_X12 hg_X13;exact z_),?_⟩
   subst hq0_
   exact xdw mn (fun _ h_ H_=>xev rfl (v:=w10) rfl) ⟨rfl,rfl⟩
  refine xaw rfl (xdk ?_) ?_
  ·
   intro val5 pc6 hQ_ hX_
   obtain ⟨e4_,o14,o15,x4_⟩:=hG4_ _ _ (hQ_ 4 rfl)
   have e5_:val5 5= .tuple #[(Gw10 (val5 4) (pc6 4)),(Gw11 (val5 4) (pc6 4))]:=(hQ_ 5 rfl).1
   generalize hg_w10:Gw10 (val5 4) (pc6 4)=w10 at*
   generalize hg_w11:Gw11 (val5 4) (pc6 4)=w11 at*
   generalize hg_X12:GX12 (val5 4) (pc6 4)=X12 at*
   generalize hg_X13:GX13 (val5 4) (pc6 4)=X13 at*
   obtain ⟨q_,hq0_⟩: ∃ q_:Value→Pcs→Prop,q_=(fun v_ x_=>v_=w11∧x_=[]):=⟨_,rfl⟩
   refine ⟨(zq1 (zq2 (zq4 (zq8 [])))),[],q_,(by rw [e4_,e5_]),rfl,(fun _ _ z_=>by subst hq0_ hg_w10 hg_w11 hg_X12 hg_X13;exact z_),?_⟩
   subst hq0_
   exact xdw mn (fun _ h_ H_=>xev rfl (v:=w11) rfl) ⟨rfl,rfl⟩
  refine xaw rfl (xdk ?_) ?_
  ·
   intro val5 pc6 hQ_ hX_
   have e0_:val5 0= .agg #[.slice a1 t.nH c1,.slice a2 t.nW c2,.slice a3 t.m c3]:=(hQ_ 0 rfl).1
   have e1_:val5 1= .agg #[.slice a1 t.nH c1,.slice a2 t.nW c2,.slice a3 t.m c3]:=(hQ_ 1 rfl).1
   have e2_:val5 2= .agg #[.int .i64 (-1),.int .i64 (-1),.int .i64 0]:=(hQ_ 2 rfl).1
   obtain ⟨e3_,o9,x3_⟩:=hG3_ _ _ (hQ_ 3 rfl)
   obtain ⟨e4_,o14,o15,x4_⟩:=hG4_ _ _ (hQ_ 4 rfl)
   have e5_:val5 5= .tuple #[(Gw10 (val5 4) (pc6 4)),(Gw11 (val5 4) (pc6 4))]:=(hQ_ 5 rfl).1
   have e6_:val5 6=(Gw10 (val5 4) (pc6 4)):=(hQ_ 6 rfl).1
   generalize hg_w7:Gw7 (val5 3) (pc6 3)=w7 at*
   generalize hg_X8:GX8 (val5 3) (pc6 3)=X8 at*
   generalize hg_w10:Gw10 (val5 4) (pc6 4)=w10 at*
   generalize hg_w11:Gw11 (val5 4) (pc6 4)=w11 at*
   generalize hg_X12:GX12 (val5 4) (pc6 4)=X12 at*
   generalize hg_X13:GX13 (val5 4) (pc6 4)=X13 at*
   obtain ⟨q_,hq0_⟩: ∃ q_:Value→Pcs→Prop,q_=(fun v_ x_=>v_=w10∧x_=[]):=⟨_,rfl⟩
   refine ⟨(zq1 (zq2 (zq4 (zq8 [])))),[],q_,(by rw [e0_,e1_,e2_,e3_,e4_,e5_,e6_]),rfl,(fun _ _ z_=>by subst hq0_ hg_w7 hg_X8 hg_w10 hg_w11 hg_X12 hg_X13;exact z_),?_⟩
   subst hq0_
   exact xdw mn (fun _ h_ H_=>xax (v:=w10) rfl) ⟨rfl,rfl⟩
  exact xlq rfl
 intro val5 pc6 hQ_ hX_
 have e0_:val5 0= .agg #[.slice a1 t.nH c1,.slice a2 t.nW c2,.slice a3 t.m c3]:=(hQ_ 0 (by decide)).1
 have e1_:val5 1= .agg #[.slice a1 t.nH c1,.slice a2 t.nW c2,.slice a3 t.m c3]:=(hQ_ 1 (by decide)).1
 have e2_:val5 2= .agg #[.int .i64 (-1),.int .i64 (-1),.int .i64 0]:=(hQ_ 2 (by decide)).1
 obtain ⟨e3_,o9,x3_⟩:=hG3_ _ _ (hQ_ 3 (by decide))
 obtain ⟨e4_,o14,o15,x4_⟩:=hG4_ _ _ (hQ_ 4 (by decide))
 have e5_:val5 5= .tuple #[(Gw10 (val5 4) (pc6 4)),(Gw11 (val5 4) (pc6 4))]:=(hQ_ 5 (by decide)).1
 have e6_:val5 6=(Gw10 (val5 4) (pc6 4)):=(hQ_ 6 (by decide)).1
 have e7_:val5 7=(Gw11 (val5 4) (pc6 4)):=(hQ_ 7 (by decide)).1
 have e8_:val5 8=(Gw10 (val5 4) (pc6 4)):=(hQ_ 8 (by decide)).1
 clear hQ_ hX_
 generalize Gw7 (val5 3) (pc6 3)=w7 at*
 generalize GX8 (val5 3) (pc6 3)=X8 at*
 generalize Gw10 (val5 4) (pc6 4)=w10 at*
 generalize Gw11 (val5 4) (pc6 4)=w11 at*
 generalize GX12 (val5 4) (pc6 4)=X12 at*
 generalize GX13 (val5 4) (pc6 4)=X13 at*
 refine xww (Φ:=fun h_=>St h [] p h_ (([(b1,.cells #[.slice a1 t.nH c1,.slice a2 t.nW c2,.slice a3 t.m c3] 25 (0,0))]:Pcs)++(pc6 4++[]))) ?_ (fun h_ H_=>H_.swap')
 rw [x4_]
 refine xcq (L':=([(b1,.cells #[.slice a1 t.nH c1,.slice a2 t.nW c2,.slice a3 t.m c3] 25 (0,0))]:Pcs)++(X13++(X12++[]))) (by simp) ?_
 refine xfj (tm':=(zq1 (zq2 (zq4 (zq8 []))))) (by rw [e0_,e1_,e2_,e3_,e4_,e5_,e6_,e7_,e8_]) ?_
 refine rt (xax (v:=w11) rfl) (tm':=zq1 (zq4 _)) rfl <| ren ?_
 refine xgv (List.Perm.append_left _ (List.perm_append_comm_assoc _ _ _)) ?_
 refine xlk (L':=([(b1,.cells #[.slice a1 t.nH c1,.slice a2 t.nW c2,.slice a3 t.m c3] 25 (0,0))]:Pcs)++(X12++(X13++[]))) rfl ?_
 refine xbq <| ro (xaq (v:=w10) rfl) ?_
 refine xiw mn (first:=[]) (cap:=[]) rfl rfl fC91 (R:=fun v_ h_=>∃ X18:Pcs,v_=w10∧OwnS 3 1 w10 (ics (srt (lackL t (fairP t none0)))) X18∧St h [] p h_ (([(b1,.cells #[.slice a1 t.nH c1,.slice a2 t.nW c2,.slice a3 t.m c3] 25 (0,0))]:Pcs)++(X18++(X13++[])))) (fun h_ H_=>(c91 md _ _ _ _ w10 (lackL t (fairP t none0)) _ _ o14 ((lackL t (fairP t none0)).length) (⟨rfl,by rw [ybx];omega⟩) (H_.lentTo)).mono fun v_ h2_ ⟨X_,e_,o_,N_⟩=>⟨X_,e_,o_,N_.lentBack⟩) fun v_=>?_
 refine xgz fun X18=>xfq fun ev_=>xfq fun o19=>?_
 have ev_:=ev_.symm;subst ev_
 refine rt (xax (v:=w10) rfl) (tm':=_::_::_::_) rfl <| xak ?_
 refine xdv Tryd.func81 rfl (vs:=[w10]) (fun h_ H_=>⟨w10,_,rfl,rfl,rfl⟩) (v:=w10) rfl ?_
 exact fun h_ H_=>K _ _ ⟨_,_,rfl,o19,((H_.dropA).sub (List.sublist_append_left _ _)).new⟩
theorem c28 (md:Md) (h:Heap) (p:PHeap) (hp:Per p h) (a1 a2 a3:Option Addr) (c1 c2 c3:Nat) (t:Tn) (T:TownP p a1 t.nH a2 t.nW a3 t.m t) (hn:t.nH≤40∧t.nW≤40∧t.m≤41) (N:NoneP p):CallsX Tryd.prog md 28 #[.agg #[.slice a1 t.nH c1,.slice a2 t.nW c2,.slice a3 t.m c3]] h fun v h'=>v= .tuple #[.int .i64 (mostC t),.int .i64 (chkB t)]∧Keep h h':=by
 refine xcx (Φ:=fun h_=>St h [] p h_ []) Tryd.func28 rfl (tm:=zq2 (zq4 (zq8 []))) rfl ?_ (St.start h _ hp)
 intro c₀ cs Stop K
 have hN_:=N
 obtain ⟨tN,zN,hN⟩:=hN_
 refine fsr ?_
 refine xij mn (v:=.agg #[.slice a1 t.nH c1,.slice a2 t.nW c2,.slice a3 t.m c3]) rfl fun b1=>xcq (L':=[(b1,.cells #[.slice a1 t.nH c1,.slice a2 t.nW c2,.slice a3 t.m c3] 25 (0,0))]) rfl ?_
 refine ro (xax (v:=.int .i64 0) rfl) <| rt (xax (v:=.int .i64 0) rfl) (tm':=zq4 _) rfl <| ren <| fsr <| rd (fun h_ H_=>xav H_ tA25 tS25 rfl (i:=0) rfl (vs:=[.slice a1 t.nH c1,.slice a2 t.nW c2,.slice a3 t.m c3]) rfl rfl) ?_
 refine xeq mn (first:=[]) (cap:=[]) rfl rfl fC47 (fun h_ H_=>c47 md _ _ H_.pe _ _ _ _ _ _ _ _ _ t (show TownP _ _ _ _ _ _ _ t from ⟨T.h,T.w,T.y⟩) (by omega)) rfl ?_
 refine rt (xax (v:=.int .i64 (chkB t)) rfl) (tm':=zq1 (zq4 _)) rfl <| ren <| xbq <| ro (xaq (v:=.int .i64 (chkB t)) rfl) <| ro (xmk rfl rfl) <| xak ?_
 by_cases cc2:chkB t≠0
 ·
  refine xdx rfl (dtt cc2) <| fsr <| rt (xaq (v:=.int .i64 (chkB t)) rfl) (tm':=zq2 (zq4 (zq8 []))) rfl <| ro (xax (v:=.int .i64 0) rfl) <| ro (xax (v:=.int .i64 (chkB t)) rfl) <| xak ?_
  refine xdv Tryd.func28 rfl (vs:=[.int .i64 0,.int .i64 (chkB t)]) (fun h_ H_=>⟨.int .i64 0,_,rfl,rfl,⟨.int .i64 (chkB t),_,rfl,rfl,rfl⟩⟩) (v:=.tuple #[.int .i64 0,.int .i64 (chkB t)]) rfl ?_
  exact fun h_ H_=>K _ _ ⟨by rw [mostC,if_neg ‹_›],H_.kept⟩
 ·
  refine xck rfl (dff cc2) <| xcv <| xez ?_
  have hO:OkT t:=xuz (by omega)
  have hm13:=hO.nm
  refine xbq ?_
  refine xbx mn (fun h_ H_=>xav H_ tA25 tS25 rfl (i:=0) rfl (vs:=[.slice a1 t.nH c1,.slice a2 t.nW c2,.slice a3 t.m c3]) rfl rfl) (tm':=zq2 (zq4 (zq8 []))) rfl ?_
  refine rd (fun h_ H_=>xgw H_ tA72 tS72 rfl (vs:=[.int .i64 (-1),.int .i64 (-1),.int .i64 0]) rfl (xvz (n:=3) hN rfl)) ?_
  refine xcq (L':=([(b1,.cells #[.slice a1 t.nH c1,.slice a2 t.nW c2,.slice a3 t.m c3] 25 (0,0))]:Pcs)++[]) rfl ?_
  refine xiw mn (first:=[]) (cap:=[]) rfl rfl fC68 (R:=fun v_ h_=>∃ w3:Value,∃ X4:Pcs,v_=w3∧(OwnS 3 1 w3 (ics (fairP t none0)) X4)∧St h [] p h_ (([(b1,.cells #[.slice a1 t.nH c1,.slice a2 t.nW c2,.slice a3 t.m c3] 25 (0,0))]:Pcs)++(X4++[]))) (fun h_ H_=>(c68 md _ _ H_.pe _ _ _ _ _ _ t (show TownP _ _ _ _ _ _ _ t from ⟨T.h,T.w,T.y⟩) hO none0 xvv).mono fun v_ h2_ ⟨w3,X4,e_,o5,N_⟩=>⟨w3,X4,e_,o5,H_.callNA N_⟩) fun v_=>?_
  refine xgz fun w3=>xgz fun X4=>xfq fun ev_=>xfq fun o5=>?_
  have ev_:=ev_.symm;subst ev_
  refine xcq (L':=([(b1,.cells #[.slice a1 t.nH c1,.slice a2 t.nW c2,.slice a3 t.m c3] 25 (0,0))]:Pcs)++(X4++[])) rfl ?_
  refine xxq (A:=([(b1,.cells #[.slice a1 t.nH c1,.slice a2 t.nW c2,.slice a3 t.m c3] 25 (0,0))]:Pcs)) o5 ((xcw _).trans (yhx t _)) fun p6 a7 cp8 le9 ev_ D10=>?_
  subst ev_
  refine xcq (L':=[(b1,.cells #[.slice a1 t.nH c1,.slice a2 t.nW c2,.slice a3 t.m c3] 25 (0,0))]) rfl ?_
  refine xeq mn (first:=[]) (cap:=[]) rfl rfl fC78 (fun h_ H_=>c78 md _ _ H_.pe _ _ _ _ (show Ints _ _ _ (fairP t none0) from D10) (by omega) (fun i hi=>by have z_:=wsq hO xvv i hi;omega) (by omega)) (tm':=zq2 (zq4 (zq8 []))) rfl ?_
  refine ro (xax (v:=.int .i64 (sm t.m (dv (fairP t none0)))) rfl) <| ro (xax (v:=.int .i64 0) rfl) <| xak ?_
  refine xdv Tryd.func28 rfl (vs:=[.int .i64 (sm t.m (dv (fairP t none0))),.int .i64 0]) (fun h_ H_=>⟨.int .i64 (sm t.m (dv (fairP t none0))),_,rfl,rfl,⟨.int .i64 0,_,rfl,rfl,rfl⟩⟩) (v:=.tuple #[.int .i64 (sm t.m (dv (fairP t none0))),.int .i64 0]) rfl ?_
  have e0_:chkB t=0:=by omega
  exact fun h_ H_=>K _ _ ⟨by rw [mostC,if_pos e0_,e0_];rfl,H_.kept⟩
theorem c43 (md:Md) (h:Heap) (p:PHeap) (hp:Per p h) (a1 a2 a3:Option Addr) (c1 c2 c3:Nat) (t:Tn) (T:TownP p a1 t.nH a2 t.nW a3 t.m t) (hn:t.nH≤40∧t.nW≤40∧t.m≤41) (N:NoneP p):CallsX Tryd.prog md 43 #[.agg #[.slice a1 t.nH c1,.slice a2 t.nW c2,.slice a3 t.m c3]] h fun v h'=>∃ w X,v= .tuple #[w,.int .i64 (chkB t)]∧OwnS 3 1 w (ics (LKc t)) X∧New h h' X:=by
 refine xcx (Φ:=fun h_=>St h [] p h_ []) Tryd.func43 rfl (tm:=zq4 (zq8 [])) rfl ?_ (St.start h _ hp)
 intro c₀ cs Stop K
 refine fsr ?_
 refine xij mn (v:=.agg #[.slice a1 t.nH c1,.slice a2 t.nW c2,.slice a3 t.m c3]) rfl fun b1=>xcq (L':=[(b1,.cells #[.slice a1 t.nH c1,.slice a2 t.nW c2,.slice a3 t.m c3] 25 (0,0))]) rfl ?_
 refine xfj (tm':=_::_::_) rfl ?_
 refine ro (xax (v:=.slice none 0 0) rfl) <| ro (xax (v:=.int .i64 0) rfl) <| ren <| fsr ?_
 refine xbx mn (fun h_ H_=>xav H_ tA25 tS25 rfl (i:=0) rfl (vs:=[.slice a1 t.nH c1,.slice a2 t.nW c2,.slice a3 t.m c3]) rfl rfl) (tm':=zq2 (zq4 _)) rfl ?_
 refine xeq mn (first:=[]) (cap:=[]) rfl rfl fC47 (fun h_ H_=>c47 md _ _ H_.pe _ _ _ _ _ _ _ _ _ t (show TownP _ _ _ _ _ _ _ t from ⟨T.h,T.w,T.y⟩) (by omega)) rfl ?_
 refine ro (xax (v:=.int .i64 (chkB t)) rfl) <| ren <| xbq <| rt (xaq (v:=.int .i64 (chkB t)) rfl) (tm':=zq8 _) rfl <| ro (xmk rfl rfl) <| xak ?_
 by_cases cc2:chkB t≠0
 ·
  refine xdx rfl (dtt cc2) <| fsr <| ro (xaq (v:=.int .i64 (chkB t)) rfl) <| rt (xax (v:=.slice none 0 0) rfl) (tm':=_::_::_::_) rfl <| ro (xax (v:=.int .i64 (chkB t)) rfl) <| xak ?_
  refine xdv Tryd.func43 rfl (vs:=[.slice none 0 0,.int .i64 (chkB t)]) (fun h_ H_=>⟨.slice none 0 0,_,rfl,rfl,⟨.int .i64 (chkB t),_,rfl,rfl,rfl⟩⟩) (v:=.tuple #[.slice none 0 0,.int .i64 (chkB t)]) rfl ?_
  exact fun h_ H_=>K _ _ ⟨_,[],rfl,(OwnS.empty _ _).as (by rw [wxz ‹_›];rfl),(H_.sub (List.nil_sublist _)).new⟩
 ·
  refine xck rfl (dff cc2) <| xcv <| xez ?_
  have hO:OkT t:=xuz (by omega)
  refine xbq <| rd (fun h_ H_=>xav H_ tA25 tS25 rfl (i:=0) rfl (vs:=[.slice a1 t.nH c1,.slice a2 t.nW c2,.slice a3 t.m c3]) rfl rfl) ?_
  refine xcq (L':=([(b1,.cells #[.slice a1 t.nH c1,.slice a2 t.nW c2,.slice a3 t.m c3] 25 (0,0))]:Pcs)++[]) rfl ?_
  refine xiw mn (first:=[]) (cap:=[]) rfl rfl fC81 (R:=fun v_ h_=>∃ w3:Value,∃ X4:Pcs,v_=w3∧(OwnS 3 1 w3 (ics (LK t)) X4)∧St h [] p h_ (([(b1,.cells #[.slice a1 t.nH c1,.slice a2 t.nW c2,.slice a3 t.m c3] 25 (0,0))]:Pcs)++(X4++[]))) (fun h_ H_=>(c81 md _ _ H_.pe _ _ _ _ _ _ t (show TownP _ _ _ _ _ _ _ t from ⟨T.h,T.w,T.y⟩) hO N).mono fun v_ h2_ ⟨w3,X4,e_,o5,N_⟩=>⟨w3,X4,e_,o5,H_.callNA N_⟩) fun v_=>?_
  refine xgz fun w3=>xgz fun X4=>xfq fun ev_=>xfq fun o5=>?_
  have ev_:=ev_.symm;subst ev_
  refine xcq (L':=([(b1,.cells #[.slice a1 t.nH c1,.slice a2 t.nW c2,.slice a3 t.m c3] 25 (0,0))]:Pcs)++(X4++[])) rfl ?_
  refine xfj (tm':=zq4 (zq8 [])) rfl ?_
  refine ro (xax (v:=w3) rfl) <| ro (xax (v:=.int .i64 0) rfl) <| xak ?_
  refine xdv Tryd.func43 rfl (vs:=[w3,.int .i64 0]) (fun h_ H_=>⟨w3,_,rfl,rfl,⟨.int .i64 0,_,rfl,rfl,rfl⟩⟩) (v:=.tuple #[w3,.int .i64 0]) rfl ?_
  have e0_:chkB t=0:=by omega
  exact fun h_ H_=>K _ _ ⟨_,_,by rw [e0_],o5.as (by rw [znx e0_]),((H_.dropA).sub (List.sublist_append_left _ _)).new⟩
end Go.Proofs.YtalfgojocdonhaaDoor
namespace Go.Proofs.YtalfgojocdonhaaDoor
open Go.X Go.X.Flow Go.Conc
set_option maxRecDepth 10000
set_option synthInstance.maxSize 2000

set_option maxHeartbeats 2000000
theorem c66 (md:Md) (h:Heap) (p:PHeap) (hp:Per p h) (a1 a2 a3:Option Addr) (c1 c2 c3:Nat) (t:Tn) (T:TownP p a1 t.nH a2 t.nW a3 t.m t) (O:OkT t) (z s:Int) (S:Sg ⟨z,-1,s⟩) (hz:0≤z∧z.toNat<t.nH) (bT bZ:Nat) (hT:p bT=some (.cells #[.slice a1 t.nH c1,.slice a2 t.nW c2,.slice a3 t.m c3] 25 (0,0))) (hZ:p bZ=some (.cells #[.int .i64 z] 3 (0,0))):CallsX Tryd.prog md 66 #[.int .i64 (s),.pointer (some ⟨bT,0,none⟩),.pointer (some ⟨bZ,0,none⟩)] h fun v h'=>v= .int .i64 (drawV t z s)∧Keep h h':=by
 refine xcx (Φ:=fun h_=>St h [] p h_ []) Tryd.func66 rfl (tm:=zq1 (zq2 (zq8 (zq16 [])))) rfl ?_ (St.start h _ hp)
 intro c₀ cs Stop K
 have oH:=O.nh
 have oW:=O.nw
 have oM:=O.nm
 refine fsr <| ro (xax (v:=.int .i64 0) rfl) <| ren ?_
 obtain ⟨Gw6,GX7,hG5_⟩:=sk2 (fun (v_:Value) (x_:Pcs) (w6:Value) (X7:Pcs)=>v_=w6∧(OwnS 3 1 w6 (ics (fairP t (⟨z,(-1),s⟩:Wi))) X7)∧x_=(X7++[]))
 obtain ⟨Gw9,Gw10,GX11,GX12,hG6_⟩:=sk4 (fun (v_:Value) (x_:Pcs) (w9:Value) (w10:Value) (X11:Pcs) (X12:Pcs)=>v_= .tuple #[w9,w10]∧(OwnS 3 1 w9 (ics (lackL t (fairP t (⟨z,(-1),s⟩:Wi)))) X11)∧(OwnS 3 1 w10 (ics (hasL t (fairP t (⟨z,(-1),s⟩:Wi)))) X12)∧x_=(X12++(X11++[])))
 refine xxv (xlx (C:=[]) (A:=([]:Pcs)) 11 [[],[],[],[],[],[],[],[6],[],[],[],[]] [] [6] [0,1,2,3,4,7,8,9,10] (fun _=>[]) (fun i_=>match i_ with | 6=>[5] | _=>[]) (fun i_=>match i_ with | 0=>[] | 1=>[] | 2=>[] | 3=>[] | 4=>[2,3] | 5=>[1,4] | 6=>[0,5] | 7=>[6] | 8=>[6,7] | 9=>[6,7] | 10=>[0,1,2,3,4,5,6,7,8] | _=>[]) (fun i_ val_ pc_ v_ x_=>match i_ with | 0=>v_= .agg #[.slice a1 t.nH c1,.slice a2 t.nW c2,.slice a3 t.m c3]∧x_=[] | 1=>v_= .agg #[.slice a1 t.nH c1,.slice a2 t.nW c2,.slice a3 t.m c3]∧x_=[] | 2=>v_= .int .i64 (z)∧x_=[] | 3=>v_= .int .i64 (s)∧x_=[] | 4=>v_= .agg #[.int .i64 (z),.int .i64 (-1),.int .i64 (s)]∧x_=[] | 5=>∃ w6:Value,∃ X7:Pcs,v_=w6∧(OwnS 3 1 w6 (ics (fairP t (⟨z,(-1),s⟩:Wi))) X7)∧x_=(X7++[]) | 6=>∃ w9:Value,∃ w10:Value,∃ X11:Pcs,∃ X12:Pcs,v_= .tuple #[w9,w10]∧(OwnS 3 1 w9 (ics (lackL t (fairP t (⟨z,(-1),s⟩:Wi)))) X11)∧(OwnS 3 1 w10 (ics (hasL t (fairP t (⟨z,(-1),s⟩:Wi)))) X12)∧x_=(X12++(X11++[])) | 7=>v_= .tuple #[(Gw9 (val_ 6) (pc_ 6)),(Gw10 (val_ 6) (pc_ 6))]∧x_=[] | 8=>v_=(Gw9 (val_ 6) (pc_ 6))∧x_=[] | 9=>v_=(Gw10 (val_ 6) (pc_ 6))∧x_=[] | 10=>v_=(Gw9 (val_ 6) (pc_ 6))∧x_=[] | _=>True) (fun val4=>(.int .i64 (s)::.pointer (some ⟨bT,0,none⟩)::.pointer (some ⟨bZ,0,none⟩)::undef::.int .i64 0::(val4 10)::undef::(val4 7)::(val4 0)::(val4 1)::(val4 2)::(val4 3)::(val4 4)::(val4 5)::(val4 6)::(val4 8)::(val4 9)::undef::undef::zu8 [])) xkk (by kernel_rfl) (Nat.le_of_ble_eq_true rfl) (by kernel_rfl) (by kernel_rfl) (by kernel_rfl) (fun _ _=>⟨fun _ _ h=>h.2,⟨fun _ _ h=>h.2,⟨fun _ _ h=>h.2,⟨fun _ _ h=>h.2,⟨fun _ _ h=>h.2,⟨fun _ _ h=>h.2,⟨fun _ _ h=>h.2,⟨fun _ _ h=>h.2,⟨fun _ _ h=>h.2,trivial⟩⟩⟩⟩⟩⟩⟩⟩⟩) (fun _=>by kernel_rfl) (by kernel_rfl) ?_ ?_) (fun h_ H_=>St.swap (A:=([]:Pcs)) (U:=[]) H_)
 ·
  refine xaw rfl (xdk ?_) ?_
  ·
   intro val4 pc5 hQ_ hX_
   obtain ⟨q_,hq0_⟩: ∃ q_:Value→Pcs→Prop,q_=(fun v_ x_=>v_= .agg #[.slice a1 t.nH c1,.slice a2 t.nW c2,.slice a3 t.m c3]∧x_=[]):=⟨_,rfl⟩
   refine ⟨(zq1 (zq2 (zq8 (zq16 [])))),[],q_,rfl,rfl,(fun _ _ z_=>by subst hq0_;exact z_),?_⟩
   subst hq0_
   exact xdw mn (fun _ h_ H_=>xgw H_ tA25 tS25 rfl (vs:=[.slice a1 t.nH c1,.slice a2 t.nW c2,.slice a3 t.m c3]) rfl (xvz (n:=3) hT rfl)) ⟨rfl,rfl⟩
  refine xaw rfl (xdk ?_) ?_
  ·
   intro val4 pc5 hQ_ hX_
   obtain ⟨q_,hq0_⟩: ∃ q_:Value→Pcs→Prop,q_=(fun v_ x_=>v_= .agg #[.slice a1 t.nH c1,.slice a2 t.nW c2,.slice a3 t.m c3]∧x_=[]):=⟨_,rfl⟩
   refine ⟨(zq1 (zq2 (zq8 (zq16 [])))),[],q_,rfl,rfl,(fun _ _ z_=>by subst hq0_;exact z_),?_⟩
   subst hq0_
   exact xdw mn (fun _ h_ H_=>xgw H_ tA25 tS25 rfl (vs:=[.slice a1 t.nH c1,.slice a2 t.nW c2,.slice a3 t.m c3]) rfl (xvz (n:=3) hT rfl)) ⟨rfl,rfl⟩
  refine xaw rfl (xdk ?_) ?_
  ·
   intro val4 pc5 hQ_ hX_
   obtain ⟨q_,hq0_⟩: ∃ q_:Value→Pcs→Prop,q_=(fun v_ x_=>v_= .int .i64 (z)∧x_=[]):=⟨_,rfl⟩
   refine ⟨(zq1 (zq2 (zq8 (zq16 [])))),[],q_,rfl,rfl,(fun _ _ z_=>by subst hq0_;exact z_),?_⟩
   subst hq0_
   exact xdw mn (fun _ h_ H_=>xbj H_ tA3 rfl (v:=.int .i64 (z)) (xjx hZ rfl)) ⟨rfl,rfl⟩
  refine xaw rfl (xdk ?_) ?_
  ·
   intro val4 pc5 hQ_ hX_
   obtain ⟨q_,hq0_⟩: ∃ q_:Value→Pcs→Prop,q_=(fun v_ x_=>v_= .int .i64 (s)∧x_=[]):=⟨_,rfl⟩
   refine ⟨(zq1 (zq2 (zq8 (zq16 [])))),[],q_,rfl,rfl,(fun _ _ z_=>by subst hq0_;exact z_),?_⟩
   subst hq0_
   exact xdw mn (fun _ h_ H_=>xaq (v:=.int .i64 (s)) rfl) ⟨rfl,rfl⟩
  refine xaw rfl (xdk ?_) ?_
  ·
   intro val4 pc5 hQ_ hX_
   have e2_:val4 2= .int .i64 (z):=(hQ_ 2 rfl).1
   have e3_:val4 3= .int .i64 (s):=(hQ_ 3 rfl).1
   obtain ⟨q_,hq0_⟩: ∃ q_:Value→Pcs→Prop,q_=(fun v_ x_=>v_= .agg #[.int .i64 (z),.int .i64 (-1),.int .i64 (s)]∧x_=[]):=⟨_,rfl⟩
   refine ⟨(zq1 (zq2 (zq8 (zq16 [])))),[],q_,(by rw [e2_,e3_]),rfl,(fun _ _ z_=>by subst hq0_;exact z_),?_⟩
   subst hq0_
   exact xdw mn (fun _ h_ H_=>xiq tZ72 tP72 (vs:=[(0,.int .i64 (z)),(1,.int .i64 (-1)),(2,.int .i64 (s))]) rfl (cells:=#[.int .i64 (z),.int .i64 (-1),.int .i64 (s)]) rfl) ⟨rfl,rfl⟩
  refine xaw rfl (xdk ?_) ?_
  ·
   intro val4 pc5 hQ_ hX_
   have e1_:val4 1= .agg #[.slice a1 t.nH c1,.slice a2 t.nW c2,.slice a3 t.m c3]:=(hQ_ 1 rfl).1
   have e4_:val4 4= .agg #[.int .i64 (z),.int .i64 (-1),.int .i64 (s)]:=(hQ_ 4 rfl).1
   obtain ⟨q_,hq0_⟩: ∃ q_:Value→Pcs→Prop,q_=(fun v_ x_=>∃ w6:Value,∃ X7:Pcs,v_=w6∧(OwnS 3 1 w6 (ics (fairP t (⟨z,(-1),s⟩:Wi))) X7)∧x_=(X7++[])):=⟨_,rfl⟩
   refine ⟨(zq1 (zq2 (zq8 (zq16 [])))),[],q_,(by rw [e1_,e4_]),rfl,(fun _ _ z_=>by subst hq0_;exact z_),?_⟩
   subst hq0_
   exact xok mn (first:=[]) (cap:=[]) rfl rfl fC68 (fun _ h_ H_=>(c68 md _ _ H_.pe _ _ _ _ _ _ t (show TownP _ _ _ _ _ _ _ t from ⟨T.h,T.w,T.y⟩) O (⟨z,(-1),s⟩:Wi) S).mono fun v_ h2_ ⟨w6,X7,e_,o8,N_⟩=>⟨_,⟨w6,X7,e_,o8,rfl⟩,H_.callN (show New _ _ (X7++[]) by rw [List.append_nil];exact N_)⟩)
  refine xaw rfl (xdk ?_) ?_
  ·
   intro val4 pc5 hQ_ hX_
   have e0_:val4 0= .agg #[.slice a1 t.nH c1,.slice a2 t.nW c2,.slice a3 t.m c3]:=(hQ_ 0 rfl).1
   obtain ⟨e5_,o8,x5_⟩:=hG5_ _ _ (hQ_ 5 rfl)
   generalize hg_w6:Gw6 (val4 5) (pc5 5)=w6 at*
   generalize hg_X7:GX7 (val4 5) (pc5 5)=X7 at*
   obtain ⟨q_,hq0_⟩: ∃ q_:Value→Pcs→Prop,q_=(fun v_ x_=>∃ w9:Value,∃ w10:Value,∃ X11:Pcs,∃ X12:Pcs,v_= .tuple #[w9,w10]∧(OwnS 3 1 w9 (ics (lackL t (fairP t (⟨z,(-1),s⟩:Wi)))) X11)∧(OwnS 3 1 w10 (ics (hasL t (fairP t (⟨z,(-1),s⟩:Wi)))) X12)∧x_=(X12++(X11++[]))):=⟨_,rfl⟩
   refine ⟨(zq1 (zq2 (zq8 (zq16 [])))),((X7++[])++[]),q_,(by rw [e0_,e5_]),(by rw [← x5_];rfl),(fun _ _ z_=>by subst hq0_ hg_w6 hg_X7;exact z_),?_⟩
   subst hq0_
   exact xok mn (first:=[]) (cap:=[]) rfl rfl fC67 (fun _ h_ H_=>yqw md (show TownP _ _ _ _ _ _ _ t from ⟨T.h,T.w,T.y⟩) O (xtv O.toOk S).div o8 ((xcw _).trans (yhx t _)) (fun x_ h_=>by simp [h_]) H_)
  refine xaw rfl (xdk ?_) ?_
  ·
   intro val4 pc5 hQ_ hX_
   obtain ⟨e6_,o13,o14,x6_⟩:=hG6_ _ _ (hQ_ 6 rfl)
   generalize hg_w9:Gw9 (val4 6) (pc5 6)=w9 at*
   generalize hg_w10:Gw10 (val4 6) (pc5 6)=w10 at*
   generalize hg_X11:GX11 (val4 6) (pc5 6)=X11 at*
   generalize hg_X12:GX12 (val4 6) (pc5 6)=X12 at*
   obtain ⟨q_,hq0_⟩: ∃ q_:Value→Pcs→Prop,q_=(fun v_ x_=>v_= .tuple #[w9,w10]∧x_=[]):=⟨_,rfl⟩
   refine ⟨(zq1 (zq2 (zq8 (zq16 [])))),[],q_,(by rw [e6_]),rfl,(fun _ _ z_=>by subst hq0_ hg_w9 hg_w10 hg_X11 hg_X12;exact z_),?_⟩
   subst hq0_
   exact xdw mn (fun _ h_ H_=>xaq (v:=.tuple #[w9,w10]) rfl) ⟨rfl,rfl⟩
  refine xaw rfl (xdk ?_) ?_
  ·
   intro val4 pc5 hQ_ hX_
   obtain ⟨e6_,o13,o14,x6_⟩:=hG6_ _ _ (hQ_ 6 rfl)
   have e7_:val4 7= .tuple #[(Gw9 (val4 6) (pc5 6)),(Gw10 (val4 6) (pc5 6))]:=(hQ_ 7 rfl).1
   generalize hg_w9:Gw9 (val4 6) (pc5 6)=w9 at*
   generalize hg_w10:Gw10 (val4 6) (pc5 6)=w10 at*
   generalize hg_X11:GX11 (val4 6) (pc5 6)=X11 at*
   generalize hg_X12:GX12 (val4 6) (pc5 6)=X12 at*
   obtain ⟨q_,hq0_⟩: ∃ q_:Value→Pcs→Prop,q_=(fun v_ x_=>v_=w9∧x_=[]):=⟨_,rfl⟩
   refine ⟨(zq1 (zq2 (zq8 (zq16 [])))),[],q_,(by rw [e6_,e7_]),rfl,(fun _ _ z_=>by subst hq0_ hg_w9 hg_w10 hg_X11 hg_X12;exact z_),?_⟩
   subst hq0_
   exact xdw mn (fun _ h_ H_=>xev rfl (v:=w9) rfl) ⟨rfl,rfl⟩
  refine xaw rfl (xdk ?_) ?_
  ·
   intro val4 pc5 hQ_ hX_
   obtain ⟨e6_,o13,o14,x6_⟩:=hG6_ _ _ (hQ_ 6 rfl)
   have e7_:val4 7= .tuple #[(Gw9 (val4 6) (pc5 6)),(Gw10 (val4 6) (pc5 6))]:=(hQ_ 7 rfl).1
   generalize hg_w9:Gw9 (val4 6) (pc5 6)=w9 at*
   generalize hg_w10:Gw10 (val4 6) (pc5 6)=w10 at*
   generalize hg_X11:GX11 (val4 6) (pc5 6)=X11 at*
   generalize hg_X12:GX12 (val4 6) (pc5 6)=X12 at*
   obtain ⟨q_,hq0_⟩: ∃ q_:Value→Pcs→Prop,q_=(fun v_ x_=>v_=w10∧x_=[]):=⟨_,rfl⟩
   refine ⟨(zq1 (zq2 (zq8 (zq16 [])))),[],q_,(by rw [e6_,e7_]),rfl,(fun _ _ z_=>by subst hq0_ hg_w9 hg_w10 hg_X11 hg_X12;exact z_),?_⟩
   subst hq0_
   exact xdw mn (fun _ h_ H_=>xev rfl (v:=w10) rfl) ⟨rfl,rfl⟩
  refine xaw rfl (xdk ?_) ?_
  ·
   intro val4 pc5 hQ_ hX_
   have e0_:val4 0= .agg #[.slice a1 t.nH c1,.slice a2 t.nW c2,.slice a3 t.m c3]:=(hQ_ 0 rfl).1
   have e1_:val4 1= .agg #[.slice a1 t.nH c1,.slice a2 t.nW c2,.slice a3 t.m c3]:=(hQ_ 1 rfl).1
   have e2_:val4 2= .int .i64 (z):=(hQ_ 2 rfl).1
   have e3_:val4 3= .int .i64 (s):=(hQ_ 3 rfl).1
   have e4_:val4 4= .agg #[.int .i64 (z),.int .i64 (-1),.int .i64 (s)]:=(hQ_ 4 rfl).1
   obtain ⟨e5_,o8,x5_⟩:=hG5_ _ _ (hQ_ 5 rfl)
   obtain ⟨e6_,o13,o14,x6_⟩:=hG6_ _ _ (hQ_ 6 rfl)
   have e7_:val4 7= .tuple #[(Gw9 (val4 6) (pc5 6)),(Gw10 (val4 6) (pc5 6))]:=(hQ_ 7 rfl).1
   have e8_:val4 8=(Gw9 (val4 6) (pc5 6)):=(hQ_ 8 rfl).1
   generalize hg_w6:Gw6 (val4 5) (pc5 5)=w6 at*
   generalize hg_X7:GX7 (val4 5) (pc5 5)=X7 at*
   generalize hg_w9:Gw9 (val4 6) (pc5 6)=w9 at*
   generalize hg_w10:Gw10 (val4 6) (pc5 6)=w10 at*
   generalize hg_X11:GX11 (val4 6) (pc5 6)=X11 at*
   generalize hg_X12:GX12 (val4 6) (pc5 6)=X12 at*
   obtain ⟨q_,hq0_⟩: ∃ q_:Value→Pcs→Prop,q_=(fun v_ x_=>v_=w9∧x_=[]):=⟨_,rfl⟩
   refine ⟨(zq1 (zq2 (zq8 (zq16 [])))),[],q_,(by rw [e0_,e1_,e2_,e3_,e4_,e5_,e6_,e7_,e8_]),rfl,(fun _ _ z_=>by subst hq0_ hg_w6 hg_X7 hg_w9 hg_w10 hg_X11 hg_X12;exact z_),?_⟩
   subst hq0_
   exact xdw mn (fun _ h_ H_=>xax (v:=w9) rfl) ⟨rfl,rfl⟩
  exact xlq rfl
 intro val4 pc5 hQ_ hX_
 have e0_:val4 0= .agg #[.slice a1 t.nH c1,.slice a2 t.nW c2,.slice a3 t.m c3]:=(hQ_ 0 (by decide)).1
 have e1_:val4 1= .agg #[.slice a1 t.nH c1,.slice a2 t.nW c2,.slice a3 t.m c3]:=(hQ_ 1 (by decide)).1
 have e2_:val4 2= .int .i64 (z):=(hQ_ 2 (by decide)).1
 have e3_:val4 3= .int .i64 (s):=(hQ_ 3 (by decide)).1
 have e4_:val4 4= .agg #[.int .i64 (z),.int .i64 (-1),.int .i64 (s)]:=(hQ_ 4 (by decide)).1
 obtain ⟨e5_,o8,x5_⟩:=hG5_ _ _ (hQ_ 5 (by decide))
 obtain ⟨e6_,o13,o14,x6_⟩:=hG6_ _ _ (hQ_ 6 (by decide))
 have e7_:val4 7= .tuple #[(Gw9 (val4 6) (pc5 6)),(Gw10 (val4 6) (pc5 6))]:=(hQ_ 7 (by decide)).1
 have e8_:val4 8=(Gw9 (val4 6) (pc5 6)):=(hQ_ 8 (by decide)).1
 have e9_:val4 9=(Gw10 (val4 6) (pc5 6)):=(hQ_ 9 (by decide)).1
 have e10_:val4 10=(Gw9 (val4 6) (pc5 6)):=(hQ_ 10 (by decide)).1
 clear hQ_ hX_
 generalize Gw6 (val4 5) (pc5 5)=w6 at*
 generalize GX7 (val4 5) (pc5 5)=X7 at*
 generalize Gw9 (val4 6) (pc5 6)=w9 at*
 generalize Gw10 (val4 6) (pc5 6)=w10 at*
 generalize GX11 (val4 6) (pc5 6)=X11 at*
 generalize GX12 (val4 6) (pc5 6)=X12 at*
 refine xww (Φ:=fun h_=>St h [] p h_ (([]:Pcs)++(pc5 6++[]))) ?_ (fun h_ H_=>H_.swap')
 rw [x6_]
 refine xcq (L':=([]:Pcs)++(X12++(X11++[]))) (by simp) ?_
 refine xfj (tm':=(zq1 (zq2 (zq8 (zq16 []))))) (by rw [e0_,e1_,e2_,e3_,e4_,e5_,e6_,e7_,e8_,e9_,e10_]) ?_
 refine ro (xax (v:=w10) rfl) <| ren ?_
 refine xgx 9 [[],[0],[],[0,1,2],[0,1,2,3],[],[],[5,6],[5,6,7],[],[]] xkk (by kernel_rfl) (Nat.le_of_ble_eq_true rfl) ?_
 refine wo (xaz xnx rfl (a':=⟨bT,0,none⟩) rfl) ?_
 refine xbk mn (fun h_ H_=>xbj H_ tA22 rfl (v:=.slice a1 t.nH c1) (xjx hT rfl)) (tm':=zq1 (zq2 (zq8 (zq16 [])))) rfl ?_
 refine wd (fun h_ H_=>xbj H_ tA3 rfl (v:=.int .i64 (z)) (xjx hZ rfl)) ?_
 refine wt (xkz Tryd.underlying22 tS3 (xjq a1 t.nH c1 (T.h.ne (by omega))) rfl (by omega) (by omega) (a':=(adr a1).add (((z).toNat)*1)) rfl) (tm':=zq1 (zq2 (zq8 (zq16 [])))) rfl ?_
 refine wd (fun h_ H_=>xbj H_ tA3 rfl (v:=.int .i64 (t.hv ((z).toNat))) (T.h.get (by omega))) ?_
 refine wt (xaq (v:=w9) rfl) (tm':=zq1 (zq2 (zq8 (zq16 [])))) rfl <| wd (fun h_ H_=>xbj H_ tA3 rfl (v:=.int .i64 (z)) (xjx hZ rfl)) ?_
 refine wt (xoz o13 Tryd.underlying22 tS3 rfl rfl (by omega) (by rw [((xcw _).trans ybx)];omega)) (tm':=zq1 (zq2 (zq8 (zq16 [])))) rfl ?_
 refine wd (fun h_ H_=>xuk (i:=(z).toNat) (j:=0) (e:=[.int .i64 (lack t (fairP t (⟨z,(-1),s⟩:Wi)) ((z).toNat))]) o13 H_ (fun x_ h_=>by simp [h_]) tA3 rfl rfl (zsv (by omega)) (u:=.int .i64 (lack t (fairP t (⟨z,(-1),s⟩:Wi)) ((z).toNat))) rfl) ?_
 refine xiz rfl ?_
 refine ro (xkj rfl rfl (wr (by have z1_:=wgv O (xtv O.toOk S).div hz.2;have z2_:=O.h _ hz.2;omega))) ?_
 refine rt (xax (v:=.int .i64 ((t.hv ((z).toNat))-(lack t (fairP t (⟨z,(-1),s⟩:Wi)) ((z).toNat)))) rfl) (tm':=zq1 (zq4 _)) rfl <| xak ?_
 refine xdv Tryd.func66 rfl (vs:=[.int .i64 ((t.hv ((z).toNat))-(lack t (fairP t (⟨z,(-1),s⟩:Wi)) ((z).toNat)))]) (fun h_ H_=>⟨.int .i64 ((t.hv ((z).toNat))-(lack t (fairP t (⟨z,(-1),s⟩:Wi)) ((z).toNat))),_,rfl,rfl,rfl⟩) (v:=.int .i64 ((t.hv ((z).toNat))-(lack t (fairP t (⟨z,(-1),s⟩:Wi)) ((z).toNat)))) rfl ?_
 exact fun h_ H_=>K _ _ ⟨congrArg (Value.int .i64) (by unfold drawV lack;exact Int.sub_sub_self _ _),H_.kept⟩
theorem c18 (md:Md) (h:Heap) (p:PHeap) (hp:Per p h) (a1 a2 a3:Option Addr) (c1 c2 c3:Nat) (t:Tn) (T:TownP p a1 t.nH a2 t.nW a3 t.m t) (hn:t.nH≤40∧t.nW≤40∧t.m≤41) (z:Int) (_N:NoneP p):CallsX Tryd.prog md 18 #[.agg #[.slice a1 t.nH c1,.slice a2 t.nW c2,.slice a3 t.m c3],.int .i64 (z)] h fun v h'=>v= .tuple #[.agg #[.int .i64 (houseC t z (-1)),.int .i64 (houseC t z 1)],.int .i64 (askB t (decide (0≤z∧z≤(t.nH:Int)-1)))]∧Keep h h':=by
 refine xcx (Φ:=fun h_=>St h [] p h_ []) Tryd.func18 rfl (tm:=zq1 (zq2 (zq4 (zq16 [])))) rfl ?_ (St.start h _ hp)
 intro c₀ cs Stop K
 refine fsr ?_
 refine xij mn (v:=.agg #[.slice a1 t.nH c1,.slice a2 t.nW c2,.slice a3 t.m c3]) rfl fun b1=>xcq (L':=[(b1,.cells #[.slice a1 t.nH c1,.slice a2 t.nW c2,.slice a3 t.m c3] 25 (0,0))]) rfl ?_
 refine xij mn (v:=.int .i64 (z)) rfl fun b2=>xcq (L':=[(b2,.cells #[.int .i64 (z)] 3 (0,0)),(b1,.cells #[.slice a1 t.nH c1,.slice a2 t.nW c2,.slice a3 t.m c3] 25 (0,0))]) rfl ?_
 refine xkx mn tZ30 rfl fun b3=>xcq (L':=[(b3,.cells #[.int .i64 0,.int .i64 0] 30 (0,0)),(b2,.cells #[.int .i64 (z)] 3 (0,0)),(b1,.cells #[.slice a1 t.nH c1,.slice a2 t.nW c2,.slice a3 t.m c3] 25 (0,0))]) rfl ?_
 refine xfj (tm':=zq1 (zq4 _)) rfl ?_
 refine ro (xax (v:=.int .i64 0) rfl) <| ren <| xez ?_
 refine xgx 4 [[],[],[],[1,2],[],[]] xkk (by kernel_rfl) (Nat.le_of_ble_eq_true rfl) ?_
 refine xbk mn (fun h_ H_=>xav H_ tA25 tS25 rfl (i:=2) rfl (vs:=[.slice a1 t.nH c1,.slice a2 t.nW c2,.slice a3 t.m c3]) rfl rfl) (tm':=zq1 (zq8 _)) rfl ?_
 refine wd (fun h_ H_=>xav H_ tA25 tS25 rfl (i:=2) rfl (vs:=[.slice a1 t.nH c1,.slice a2 t.nW c2,.slice a3 t.m c3]) rfl rfl) ?_
 refine xbk mn (fun h_ H_=>xaj H_ tA3 rfl (i:=1) rfl (v:=.int .i64 (z)) rfl) (tm':=zq1 (zq2 (zq8 _))) rfl ?_
 refine xiv mn (first:=[]) (cap:=[]) rfl rfl fC65 (fun h_ H_=>(c65 md _ _ H_.pe _ _ _ _ _ _ _ _ _ t (show TownP _ _ _ _ _ _ _ t from ⟨T.h,T.w,T.y⟩) (by omega) (z)).mono fun v_ h2_ ⟨e_,k_⟩=>⟨e_,H_.call k_⟩) rfl ?_
 refine xiz rfl ?_
 refine xeq mn (first:=[]) (cap:=[]) rfl rfl fC64 (fun h_ H_=>c64 md _ _ H_.pe _ _ _ _ _ _ _ _ _ t (show TownP _ _ _ _ _ _ _ t from ⟨T.h,T.w,T.y⟩) (by omega) (decide (0≤z∧z≤(t.nH:Int)-1))) (tm':=zq1 (zq4 (zq8 _))) rfl ?_
 refine ro (xax (v:=.int .i64 (askB t (decide (0≤z∧z≤(t.nH:Int)-1)))) rfl) <| ren <| xbq <| ro (xaq (v:=.int .i64 (askB t (decide (0≤z∧z≤(t.nH:Int)-1)))) rfl) <| rt (xmk rfl rfl) (tm':=zq1 (zq2 (zq4 (zq8 _)))) rfl <| xak ?_
 by_cases cc4:askB t (decide (0≤z∧z≤(t.nH:Int)-1))≠0
 ·
  refine xdx rfl (dtt cc4) <| fsr <| ro (xiq tZ30 tP30 (vs:=[]) rfl (cells:=#[.int .i64 0,.int .i64 0]) rfl) <| ro (xaq (v:=.int .i64 (askB t (decide (0≤z∧z≤(t.nH:Int)-1)))) rfl) ?_
  refine xik mn tS30 rfl (v:=.agg #[.int .i64 0,.int .i64 0]) rfl (i:=0) rfl rfl rfl (Nat.le_of_ble_eq_true rfl) (cs2:=[.int .i64 0,.int .i64 0]) rfl (xcq (L':=[(b3,.cells #[.int .i64 0,.int .i64 0] 30 (0,0)),(b2,.cells #[.int .i64 (z)] 3 (0,0)),(b1,.cells #[.slice a1 t.nH c1,.slice a2 t.nW c2,.slice a3 t.m c3] 25 (0,0))]) rfl ?_)
  refine rt (xax (v:=.int .i64 (askB t (decide (0≤z∧z≤(t.nH:Int)-1)))) rfl) (tm':=zq2 (zq4 _)) rfl <| xak ?_
  refine xdv Tryd.func18 rfl (vs:=[.agg #[.int .i64 0,.int .i64 0],.int .i64 (askB t (decide (0≤z∧z≤(t.nH:Int)-1)))]) (fun h_ H_=>⟨.agg #[.int .i64 0,.int .i64 0],_,rfl,(xbz (xbv (xnj tA30 tS30 (vs:=[.int .i64 0,.int .i64 0]) rfl (fun j_ v_ e_=>by rw [xnz];exact H_.ocell (i:=0) rfl (by simpa using e_)) ⟨rfl,rfl⟩))),⟨.int .i64 (askB t (decide (0≤z∧z≤(t.nH:Int)-1))),_,rfl,rfl,rfl⟩⟩) (v:=.tuple #[.agg #[.int .i64 0,.int .i64 0],.int .i64 (askB t (decide (0≤z∧z≤(t.nH:Int)-1)))]) rfl ?_
  exact fun h_ H_=>K _ _ ⟨by rw [zgz ‹_›,zgz ‹_›],H_.kept⟩
 ·
  refine xck rfl (dff cc4) <| xcv <| xez ?_
  have ha_:askB t (decide (0≤z∧z≤(t.nH:Int)-1))=0:=by omega
  obtain ⟨hc_,hd_⟩:=wlv ha_
  have hO:OkT t:=xuz hc_
  have hd2_:=of_decide_eq_true hd_
  have hz_:0≤z∧z.toNat<t.nH:=by omega
  refine yiw 1 rfl (L':=[(b3,.cells #[.int .i64 0,.int .i64 0] 30 (0,0)),(b1,.cells #[.slice a1 t.nH c1,.slice a2 t.nW c2,.slice a3 t.m c3] 25 (0,0))]) rfl fun p5 le6 hb7=>?_
  refine yiw 1 rfl (L':=[(b3,.cells #[.int .i64 0,.int .i64 0] 30 (0,0))]) rfl fun p8 le9 hb10=>?_
  refine xbq <| ro (xuj (a:=[]) (b:=[.pointer (some ⟨b1,0,none⟩),.pointer (some ⟨b2,0,none⟩)]) rfl rfl) <| ro (xax (v:=.func (.func 66) #[] #[.pointer (some ⟨b1,0,none⟩),.pointer (some ⟨b2,0,none⟩)]) rfl) <| ren <| xbq <| rt (xaq (v:=.func (.func 66) #[] #[.pointer (some ⟨b1,0,none⟩),.pointer (some ⟨b2,0,none⟩)]) rfl) (tm':=zq1 (zq2 (zq4 (zq16 [])))) rfl ?_
  refine xeq mn (first:=[]) (cap:=[.pointer (some ⟨b1,0,none⟩),.pointer (some ⟨b2,0,none⟩)]) rfl rfl fC66 (fun h_ H_=>c66 md _ _ H_.pe _ _ _ _ _ _ t (show TownP _ _ _ _ _ _ _ t from ⟨((T.h.mono le6).mono le9),((T.w.mono le6).mono le9),((T.y.mono le6).mono le9)⟩) hO _ ((-1)) (wnw (by decide) (by decide)) hz_ _ _ hb10 (le9 _ _ hb7)) rfl ?_
  refine ro (xaq (v:=.func (.func 66) #[] #[.pointer (some ⟨b1,0,none⟩),.pointer (some ⟨b2,0,none⟩)]) rfl) ?_
  refine xeq mn (first:=[]) (cap:=[.pointer (some ⟨b1,0,none⟩),.pointer (some ⟨b2,0,none⟩)]) rfl rfl fC66 (fun h_ H_=>c66 md _ _ H_.pe _ _ _ _ _ _ t (show TownP _ _ _ _ _ _ _ t from ⟨((T.h.mono le6).mono le9),((T.w.mono le6).mono le9),((T.y.mono le6).mono le9)⟩) hO _ (1) (wnw (by decide) (by decide)) hz_ _ _ hb10 (le9 _ _ hb7)) (tm':=zq1 (zq2 (zq4 (zq16 [])))) rfl ?_
  refine ro (xiq tZ30 tP30 (vs:=[(0,.int .i64 (drawV t z ((-1)))),(1,.int .i64 (drawV t z (1)))]) rfl (cells:=#[.int .i64 (drawV t z ((-1))),.int .i64 (drawV t z (1))]) rfl) ?_
  refine xik mn tS30 rfl (v:=.agg #[.int .i64 (drawV t z ((-1))),.int .i64 (drawV t z (1))]) rfl (i:=0) rfl rfl rfl (Nat.le_of_ble_eq_true rfl) (cs2:=[.int .i64 (drawV t z ((-1))),.int .i64 (drawV t z (1))]) rfl (xcq (L':=[(b3,.cells #[.int .i64 (drawV t z ((-1))),.int .i64 (drawV t z (1))] 30 (0,0))]) rfl ?_)
  refine ro (xax (v:=.int .i64 0) rfl) <| xak ?_
  refine xdv Tryd.func18 rfl (vs:=[.agg #[.int .i64 (drawV t z ((-1))),.int .i64 (drawV t z (1))],.int .i64 0]) (fun h_ H_=>⟨.agg #[.int .i64 (drawV t z ((-1))),.int .i64 (drawV t z (1))],_,rfl,(xbz (xbv (xnj tA30 tS30 (vs:=[.int .i64 (drawV t z ((-1))),.int .i64 (drawV t z (1))]) rfl (fun j_ v_ e_=>by rw [xnz];exact H_.ocell (i:=0) rfl (by simpa using e_)) ⟨rfl,rfl⟩))),⟨.int .i64 0,_,rfl,rfl,rfl⟩⟩) (v:=.tuple #[.agg #[.int .i64 (drawV t z ((-1))),.int .i64 (drawV t z (1))],.int .i64 0]) rfl ?_
  exact fun h_ H_=>K _ _ ⟨by rw [ha_,ycx ha_];first | rfl | (rw [ycx ha_]),H_.kept⟩
theorem c71 (md:Md) (h:Heap) (p:PHeap) (hp:Per p h) (a1 a2 a3:Option Addr) (c1 c2 c3:Nat) (t:Tn) (T:TownP p a1 t.nH a2 t.nW a3 t.m t) (O:OkT t) (z s:Int) (S:Sg ⟨-1,z,s⟩) (hz:0≤z∧z.toNat<t.nW) (bT bZ:Nat) (hT:p bT=some (.cells #[.slice a1 t.nH c1,.slice a2 t.nW c2,.slice a3 t.m c3] 25 (0,0))) (hZ:p bZ=some (.cells #[.int .i64 z] 3 (0,0))):CallsX Tryd.prog md 71 #[.int .i64 (s),.pointer (some ⟨bT,0,none⟩),.pointer (some ⟨bZ,0,none⟩)] h fun v h'=>v= .int .i64 (restV t z s)∧Keep h h':=by
 refine xcx (Φ:=fun h_=>St h [] p h_ []) Tryd.func71 rfl (tm:=zq1 (zq4 (zq16 []))) rfl ?_ (St.start h _ hp)
 intro c₀ cs Stop K
 have oH:=O.nh
 have oW:=O.nw
 have oM:=O.nm
 refine fsr <| rt (xax (v:=.int .i64 0) rfl) (tm':=zq1 (zq4 _)) rfl <| ren ?_
 obtain ⟨Gw6,GX7,hG5_⟩:=sk2 (fun (v_:Value) (x_:Pcs) (w6:Value) (X7:Pcs)=>v_=w6∧(OwnS 3 1 w6 (ics (fairP t (⟨(-1),z,s⟩:Wi))) X7)∧x_=(X7++[]))
 obtain ⟨Gw9,Gw10,GX11,GX12,hG6_⟩:=sk4 (fun (v_:Value) (x_:Pcs) (w9:Value) (w10:Value) (X11:Pcs) (X12:Pcs)=>v_= .tuple #[w9,w10]∧(OwnS 3 1 w9 (ics (lackL t (fairP t (⟨(-1),z,s⟩:Wi)))) X11)∧(OwnS 3 1 w10 (ics (hasL t (fairP t (⟨(-1),z,s⟩:Wi)))) X12)∧x_=(X12++(X11++[])))
 refine xxv (xlx (C:=[]) (A:=([]:Pcs)) 11 [[],[],[],[],[],[],[],[6],[],[],[],[]] [] [6] [0,1,2,3,4,7,8,9,10] (fun _=>[]) (fun i_=>match i_ with | 6=>[5] | _=>[]) (fun i_=>match i_ with | 0=>[] | 1=>[] | 2=>[] | 3=>[] | 4=>[2,3] | 5=>[1,4] | 6=>[0,5] | 7=>[6] | 8=>[6,7] | 9=>[6,7] | 10=>[0,1,2,3,4,5,6,7,8] | _=>[]) (fun i_ val_ pc_ v_ x_=>match i_ with | 0=>v_= .agg #[.slice a1 t.nH c1,.slice a2 t.nW c2,.slice a3 t.m c3]∧x_=[] | 1=>v_= .agg #[.slice a1 t.nH c1,.slice a2 t.nW c2,.slice a3 t.m c3]∧x_=[] | 2=>v_= .int .i64 (z)∧x_=[] | 3=>v_= .int .i64 (s)∧x_=[] | 4=>v_= .agg #[.int .i64 (-1),.int .i64 (z),.int .i64 (s)]∧x_=[] | 5=>∃ w6:Value,∃ X7:Pcs,v_=w6∧(OwnS 3 1 w6 (ics (fairP t (⟨(-1),z,s⟩:Wi))) X7)∧x_=(X7++[]) | 6=>∃ w9:Value,∃ w10:Value,∃ X11:Pcs,∃ X12:Pcs,v_= .tuple #[w9,w10]∧(OwnS 3 1 w9 (ics (lackL t (fairP t (⟨(-1),z,s⟩:Wi)))) X11)∧(OwnS 3 1 w10 (ics (hasL t (fairP t (⟨(-1),z,s⟩:Wi)))) X12)∧x_=(X12++(X11++[])) | 7=>v_= .tuple #[(Gw9 (val_ 6) (pc_ 6)),(Gw10 (val_ 6) (pc_ 6))]∧x_=[] | 8=>v_=(Gw9 (val_ 6) (pc_ 6))∧x_=[] | 9=>v_=(Gw10 (val_ 6) (pc_ 6))∧x_=[] | 10=>v_=(Gw9 (val_ 6) (pc_ 6))∧x_=[] | _=>True) (fun val4=>[.int .i64 (s),.pointer (some ⟨bT,0,none⟩),.pointer (some ⟨bZ,0,none⟩),undef,.int .i64 0,(val4 10),undef,(val4 7),(val4 0),(val4 1),(val4 2),(val4 3),(val4 4),(val4 5),(val4 6),(val4 8),(val4 9),undef,undef,undef,undef]) xkk (by kernel_rfl) (Nat.le_of_ble_eq_true rfl) (by kernel_rfl) (by kernel_rfl) (by kernel_rfl) (fun _ _=>⟨fun _ _ h=>h.2,⟨fun _ _ h=>h.2,⟨fun _ _ h=>h.2,⟨fun _ _ h=>h.2,⟨fun _ _ h=>h.2,⟨fun _ _ h=>h.2,⟨fun _ _ h=>h.2,⟨fun _ _ h=>h.2,⟨fun _ _ h=>h.2,trivial⟩⟩⟩⟩⟩⟩⟩⟩⟩) (fun _=>by kernel_rfl) (by kernel_rfl) ?_ ?_) (fun h_ H_=>St.swap (A:=([]:Pcs)) (U:=[]) H_)
 ·
  refine xaw rfl (xdk ?_) ?_
  ·
   intro val4 pc5 hQ_ hX_
   obtain ⟨q_,hq0_⟩: ∃ q_:Value→Pcs→Prop,q_=(fun v_ x_=>v_= .agg #[.slice a1 t.nH c1,.slice a2 t.nW c2,.slice a3 t.m c3]∧x_=[]):=⟨_,rfl⟩
   refine ⟨(zq1 (zq4 (zq16 []))),[],q_,rfl,rfl,(fun _ _ z_=>by subst hq0_;exact z_),?_⟩
   subst hq0_
   exact xdw mn (fun _ h_ H_=>xgw H_ tA25 tS25 rfl (vs:=[.slice a1 t.nH c1,.slice a2 t.nW c2,.slice a3 t.m c3]) rfl (xvz (n:=3) hT rfl)) ⟨rfl,rfl⟩
  refine xaw rfl (xdk ?_) ?_
  ·
   intro val4 pc5 hQ_ hX_
   obtain ⟨q_,hq0_⟩: ∃ q_:Value→Pcs→Prop,q_=(fun v_ x_=>v_= .agg #[.slice a1 t.nH c1,.slice a2 t.nW c2,.slice a3 t.m c3]∧x_=[]):=⟨_,rfl⟩
   refine ⟨(zq1 (zq4 (zq16 []))),[],q_,rfl,rfl,(fun _ _ z_=>by subst hq0_;exact z_),?_⟩
   subst hq0_
   exact xdw mn (fun _ h_ H_=>xgw H_ tA25 tS25 rfl (vs:=[.slice a1 t.nH c1,.slice a2 t.nW c2,.slice a3 t.m c3]) rfl (xvz (n:=3) hT rfl)) ⟨rfl,rfl⟩
  refine xaw rfl (xdk ?_) ?_
  ·
   intro val4 pc5 hQ_ hX_
   obtain ⟨q_,hq0_⟩: ∃ q_:Value→Pcs→Prop,q_=(fun v_ x_=>v_= .int .i64 (z)∧x_=[]):=⟨_,rfl⟩
   refine ⟨(zq1 (zq4 (zq16 []))),[],q_,rfl,rfl,(fun _ _ z_=>by subst hq0_;exact z_),?_⟩
   subst hq0_
   exact xdw mn (fun _ h_ H_=>xbj H_ tA3 rfl (v:=.int .i64 (z)) (xjx hZ rfl)) ⟨rfl,rfl⟩
  refine xaw rfl (xdk ?_) ?_
  ·
   intro val4 pc5 hQ_ hX_
   obtain ⟨q_,hq0_⟩: ∃ q_:Value→Pcs→Prop,q_=(fun v_ x_=>v_= .int .i64 (s)∧x_=[]):=⟨_,rfl⟩
   refine ⟨(zq1 (zq4 (zq16 []))),[],q_,rfl,rfl,(fun _ _ z_=>by subst hq0_;exact z_),?_⟩
   subst hq0_
   exact xdw mn (fun _ h_ H_=>xaq (v:=.int .i64 (s)) rfl) ⟨rfl,rfl⟩
  refine xaw rfl (xdk ?_) ?_
  ·
   intro val4 pc5 hQ_ hX_
   have e2_:val4 2= .int .i64 (z):=(hQ_ 2 rfl).1
   have e3_:val4 3= .int .i64 (s):=(hQ_ 3 rfl).1
   obtain ⟨q_,hq0_⟩: ∃ q_:Value→Pcs→Prop,q_=(fun v_ x_=>v_= .agg #[.int .i64 (-1),.int .i64 (z),.int .i64 (s)]∧x_=[]):=⟨_,rfl⟩
   refine ⟨(zq1 (zq4 (zq16 []))),[],q_,(by rw [e2_,e3_]),rfl,(fun _ _ z_=>by subst hq0_;exact z_),?_⟩
   subst hq0_
   exact xdw mn (fun _ h_ H_=>xiq tZ72 tP72 (vs:=[(0,.int .i64 (-1)),(1,.int .i64 (z)),(2,.int .i64 (s))]) rfl (cells:=#[.int .i64 (-1),.int .i64 (z),.int .i64 (s)]) rfl) ⟨rfl,rfl⟩
  refine xaw rfl (xdk ?_) ?_
  ·
   intro val4 pc5 hQ_ hX_
   have e1_:val4 1= .agg #[.slice a1 t.nH c1,.slice a2 t.nW c2,.slice a3 t.m c3]:=(hQ_ 1 rfl).1
   have e4_:val4 4= .agg #[.int .i64 (-1),.int .i64 (z),.int .i64 (s)]:=(hQ_ 4 rfl).1
   obtain ⟨q_,hq0_⟩: ∃ q_:Value→Pcs→Prop,q_=(fun v_ x_=>∃ w6:Value,∃ X7:Pcs,v_=w6∧(OwnS 3 1 w6 (ics (fairP t (⟨(-1),z,s⟩:Wi))) X7)∧x_=(X7++[])):=⟨_,rfl⟩
   refine ⟨(zq1 (zq4 (zq16 []))),[],q_,(by rw [e1_,e4_]),rfl,(fun _ _ z_=>by subst hq0_;exact z_),?_⟩
   subst hq0_
   exact xok mn (first:=[]) (cap:=[]) rfl rfl fC68 (fun _ h_ H_=>(c68 md _ _ H_.pe _ _ _ _ _ _ t (show TownP _ _ _ _ _ _ _ t from ⟨T.h,T.w,T.y⟩) O (⟨(-1),z,s⟩:Wi) S).mono fun v_ h2_ ⟨w6,X7,e_,o8,N_⟩=>⟨_,⟨w6,X7,e_,o8,rfl⟩,H_.callN (show New _ _ (X7++[]) by rw [List.append_nil];exact N_)⟩)
  refine xaw rfl (xdk ?_) ?_
  ·
   intro val4 pc5 hQ_ hX_
   have e0_:val4 0= .agg #[.slice a1 t.nH c1,.slice a2 t.nW c2,.slice a3 t.m c3]:=(hQ_ 0 rfl).1
   obtain ⟨e5_,o8,x5_⟩:=hG5_ _ _ (hQ_ 5 rfl)
   generalize hg_w6:Gw6 (val4 5) (pc5 5)=w6 at*
   generalize hg_X7:GX7 (val4 5) (pc5 5)=X7 at*
   obtain ⟨q_,hq0_⟩: ∃ q_:Value→Pcs→Prop,q_=(fun v_ x_=>∃ w9:Value,∃ w10:Value,∃ X11:Pcs,∃ X12:Pcs,v_= .tuple #[w9,w10]∧(OwnS 3 1 w9 (ics (lackL t (fairP t (⟨(-1),z,s⟩:Wi)))) X11)∧(OwnS 3 1 w10 (ics (hasL t (fairP t (⟨(-1),z,s⟩:Wi)))) X12)∧x_=(X12++(X11++[]))):=⟨_,rfl⟩
   refine ⟨(zq1 (zq4 (zq16 []))),((X7++[])++[]),q_,(by rw [e0_,e5_]),(by rw [← x5_];rfl),(fun _ _ z_=>by subst hq0_ hg_w6 hg_X7;exact z_),?_⟩
   subst hq0_
   exact xok mn (first:=[]) (cap:=[]) rfl rfl fC67 (fun _ h_ H_=>yqw md (show TownP _ _ _ _ _ _ _ t from ⟨T.h,T.w,T.y⟩) O (xtv O.toOk S).div o8 ((xcw _).trans (yhx t _)) (fun x_ h_=>by simp [h_]) H_)
  refine xaw rfl (xdk ?_) ?_
  ·
   intro val4 pc5 hQ_ hX_
   obtain ⟨e6_,o13,o14,x6_⟩:=hG6_ _ _ (hQ_ 6 rfl)
   generalize hg_w9:Gw9 (val4 6) (pc5 6)=w9 at*
   generalize hg_w10:Gw10 (val4 6) (pc5 6)=w10 at*
   generalize hg_X11:GX11 (val4 6) (pc5 6)=X11 at*
   generalize hg_X12:GX12 (val4 6) (pc5 6)=X12 at*
   obtain ⟨q_,hq0_⟩: ∃ q_:Value→Pcs→Prop,q_=(fun v_ x_=>v_= .tuple #[w9,w10]∧x_=[]):=⟨_,rfl⟩
   refine ⟨(zq1 (zq4 (zq16 []))),[],q_,(by rw [e6_]),rfl,(fun _ _ z_=>by subst hq0_ hg_w9 hg_w10 hg_X11 hg_X12;exact z_),?_⟩
   subst hq0_
   exact xdw mn (fun _ h_ H_=>xaq (v:=.tuple #[w9,w10]) rfl) ⟨rfl,rfl⟩
  refine xaw rfl (xdk ?_) ?_
  ·
   intro val4 pc5 hQ_ hX_
   obtain ⟨e6_,o13,o14,x6_⟩:=hG6_ _ _ (hQ_ 6 rfl)
   have e7_:val4 7= .tuple #[(Gw9 (val4 6) (pc5 6)),(Gw10 (val4 6) (pc5 6))]:=(hQ_ 7 rfl).1
   generalize hg_w9:Gw9 (val4 6) (pc5 6)=w9 at*
   generalize hg_w10:Gw10 (val4 6) (pc5 6)=w10 at*
   generalize hg_X11:GX11 (val4 6) (pc5 6)=X11 at*
   generalize hg_X12:GX12 (val4 6) (pc5 6)=X12 at*
   obtain ⟨q_,hq0_⟩: ∃ q_:Value→Pcs→Prop,q_=(fun v_ x_=>v_=w9∧x_=[]):=⟨_,rfl⟩
   refine ⟨(zq1 (zq4 (zq16 []))),[],q_,(by rw [e6_,e7_]),rfl,(fun _ _ z_=>by subst hq0_ hg_w9 hg_w10 hg_X11 hg_X12;exact z_),?_⟩
   subst hq0_
   exact xdw mn (fun _ h_ H_=>xev rfl (v:=w9) rfl) ⟨rfl,rfl⟩
  refine xaw rfl (xdk ?_) ?_
  ·
   intro val4 pc5 hQ_ hX_
   obtain ⟨e6_,o13,o14,x6_⟩:=hG6_ _ _ (hQ_ 6 rfl)
   have e7_:val4 7= .tuple #[(Gw9 (val4 6) (pc5 6)),(Gw10 (val4 6) (pc5 6))]:=(hQ_ 7 rfl).1
   generalize hg_w9:Gw9 (val4 6) (pc5 6)=w9 at*
   generalize hg_w10:Gw10 (val4 6) (pc5 6)=w10 at*
   generalize hg_X11:GX11 (val4 6) (pc5 6)=X11 at*
   generalize hg_X12:GX12 (val4 6) (pc5 6)=X12 at*
   obtain ⟨q_,hq0_⟩: ∃ q_:Value→Pcs→Prop,q_=(fun v_ x_=>v_=w10∧x_=[]):=⟨_,rfl⟩
   refine ⟨(zq1 (zq4 (zq16 []))),[],q_,(by rw [e6_,e7_]),rfl,(fun _ _ z_=>by subst hq0_ hg_w9 hg_w10 hg_X11 hg_X12;exact z_),?_⟩
   subst hq0_
   exact xdw mn (fun _ h_ H_=>xev rfl (v:=w10) rfl) ⟨rfl,rfl⟩
  refine xaw rfl (xdk ?_) ?_
  ·
   intro val4 pc5 hQ_ hX_
   have e0_:val4 0= .agg #[.slice a1 t.nH c1,.slice a2 t.nW c2,.slice a3 t.m c3]:=(hQ_ 0 rfl).1
   have e1_:val4 1= .agg #[.slice a1 t.nH c1,.slice a2 t.nW c2,.slice a3 t.m c3]:=(hQ_ 1 rfl).1
   have e2_:val4 2= .int .i64 (z):=(hQ_ 2 rfl).1
   have e3_:val4 3= .int .i64 (s):=(hQ_ 3 rfl).1
   have e4_:val4 4= .agg #[.int .i64 (-1),.int .i64 (z),.int .i64 (s)]:=(hQ_ 4 rfl).1
   obtain ⟨e5_,o8,x5_⟩:=hG5_ _ _ (hQ_ 5 rfl)
   obtain ⟨e6_,o13,o14,x6_⟩:=hG6_ _ _ (hQ_ 6 rfl)
   have e7_:val4 7= .tuple #[(Gw9 (val4 6) (pc5 6)),(Gw10 (val4 6) (pc5 6))]:=(hQ_ 7 rfl).1
   have e8_:val4 8=(Gw9 (val4 6) (pc5 6)):=(hQ_ 8 rfl).1
   generalize hg_w6:Gw6 (val4 5) (pc5 5)=w6 at*
   generalize hg_X7:GX7 (val4 5) (pc5 5)=X7 at*
   generalize hg_w9:Gw9 (val4 6) (pc5 6)=w9 at*
   generalize hg_w10:Gw10 (val4 6) (pc5 6)=w10 at*
   generalize hg_X11:GX11 (val4 6) (pc5 6)=X11 at*
   generalize hg_X12:GX12 (val4 6) (pc5 6)=X12 at*
   obtain ⟨q_,hq0_⟩: ∃ q_:Value→Pcs→Prop,q_=(fun v_ x_=>v_=w9∧x_=[]):=⟨_,rfl⟩
   refine ⟨(zq1 (zq4 (zq16 []))),[],q_,(by rw [e0_,e1_,e2_,e3_,e4_,e5_,e6_,e7_,e8_]),rfl,(fun _ _ z_=>by subst hq0_ hg_w6 hg_X7 hg_w9 hg_w10 hg_X11 hg_X12;exact z_),?_⟩
   subst hq0_
   exact xdw mn (fun _ h_ H_=>xax (v:=w9) rfl) ⟨rfl,rfl⟩
  exact xlq rfl
 intro val4 pc5 hQ_ hX_
 have e0_:val4 0= .agg #[.slice a1 t.nH c1,.slice a2 t.nW c2,.slice a3 t.m c3]:=(hQ_ 0 (by decide)).1
 have e1_:val4 1= .agg #[.slice a1 t.nH c1,.slice a2 t.nW c2,.slice a3 t.m c3]:=(hQ_ 1 (by decide)).1
 have e2_:val4 2= .int .i64 (z):=(hQ_ 2 (by decide)).1
 have e3_:val4 3= .int .i64 (s):=(hQ_ 3 (by decide)).1
 have e4_:val4 4= .agg #[.int .i64 (-1),.int .i64 (z),.int .i64 (s)]:=(hQ_ 4 (by decide)).1
 obtain ⟨e5_,o8,x5_⟩:=hG5_ _ _ (hQ_ 5 (by decide))
 obtain ⟨e6_,o13,o14,x6_⟩:=hG6_ _ _ (hQ_ 6 (by decide))
 have e7_:val4 7= .tuple #[(Gw9 (val4 6) (pc5 6)),(Gw10 (val4 6) (pc5 6))]:=(hQ_ 7 (by decide)).1
 have e8_:val4 8=(Gw9 (val4 6) (pc5 6)):=(hQ_ 8 (by decide)).1
 have e9_:val4 9=(Gw10 (val4 6) (pc5 6)):=(hQ_ 9 (by decide)).1
 have e10_:val4 10=(Gw9 (val4 6) (pc5 6)):=(hQ_ 10 (by decide)).1
 clear hQ_ hX_
 generalize Gw6 (val4 5) (pc5 5)=w6 at*
 generalize GX7 (val4 5) (pc5 5)=X7 at*
 generalize Gw9 (val4 6) (pc5 6)=w9 at*
 generalize Gw10 (val4 6) (pc5 6)=w10 at*
 generalize GX11 (val4 6) (pc5 6)=X11 at*
 generalize GX12 (val4 6) (pc5 6)=X12 at*
 refine xww (Φ:=fun h_=>St h [] p h_ (([]:Pcs)++(pc5 6++[]))) ?_ (fun h_ H_=>H_.swap')
 rw [x6_]
 refine xcq (L':=([]:Pcs)++(X12++(X11++[]))) (by simp) ?_
 refine xfj (tm':=(zq1 (zq4 (zq16 [])))) (by rw [e0_,e1_,e2_,e3_,e4_,e5_,e6_,e7_,e8_,e9_,e10_]) ?_
 refine rt (xax (v:=w10) rfl) (tm':=zq1 (zq2 (zq4 _))) rfl <| ren <| xbq <| ro (xaq (v:=w10) rfl) <| rd (fun h_ H_=>xbj H_ tA3 rfl (v:=.int .i64 (z)) (xjx hZ rfl)) ?_
 refine rt (xoz o14 Tryd.underlying22 tS3 rfl rfl (by omega) (by rw [((xcw _).trans ymw)];omega)) (tm':=zq1 (zq4 (zq16 []))) rfl ?_
 refine rd (fun h_ H_=>xnv (A:=([]:Pcs)) (i:=(z).toNat) (j:=0) (e:=[.int .i64 (has t (fairP t (⟨(-1),z,s⟩:Wi)) ((z).toNat))]) o14 H_ tA3 rfl rfl (whk (by omega)) (u:=.int .i64 (has t (fairP t (⟨(-1),z,s⟩:Wi)) ((z).toNat))) rfl) ?_
 refine ro (xax (v:=.int .i64 (has t (fairP t (⟨(-1),z,s⟩:Wi)) ((z).toNat))) rfl) <| xak ?_
 refine xdv Tryd.func71 rfl (vs:=[.int .i64 (has t (fairP t (⟨(-1),z,s⟩:Wi)) ((z).toNat))]) (fun h_ H_=>⟨.int .i64 (has t (fairP t (⟨(-1),z,s⟩:Wi)) ((z).toNat)),_,rfl,rfl,rfl⟩) (v:=.int .i64 (has t (fairP t (⟨(-1),z,s⟩:Wi)) ((z).toNat))) rfl ?_
 exact fun h_ H_=>K _ _ ⟨congrArg (Value.int .i64) (by rfl),H_.kept⟩
theorem c20 (md:Md) (h:Heap) (p:PHeap) (hp:Per p h) (a1 a2 a3:Option Addr) (c1 c2 c3:Nat) (t:Tn) (T:TownP p a1 t.nH a2 t.nW a3 t.m t) (hn:t.nH≤40∧t.nW≤40∧t.m≤41) (z:Int) (_N:NoneP p):CallsX Tryd.prog md 20 #[.agg #[.slice a1 t.nH c1,.slice a2 t.nW c2,.slice a3 t.m c3],.int .i64 (z)] h fun v h'=>v= .tuple #[.int .i64 (dryC t z),.int .i64 (askB t (decide (0≤z∧z≤(t.nW:Int)-1)))]∧Keep h h':=by
 refine xcx (Φ:=fun h_=>St h [] p h_ []) Tryd.func20 rfl (tm:=zq1 (zq8 (zq16 []))) rfl ?_ (St.start h _ hp)
 intro c₀ cs Stop K
 refine fsr ?_
 refine xij mn (v:=.agg #[.slice a1 t.nH c1,.slice a2 t.nW c2,.slice a3 t.m c3]) rfl fun b1=>xcq (L':=[(b1,.cells #[.slice a1 t.nH c1,.slice a2 t.nW c2,.slice a3 t.m c3] 25 (0,0))]) rfl ?_
 refine xfj (tm':=_::_::_::_) rfl ?_
 refine xij mn (v:=.int .i64 (z)) rfl fun b2=>xcq (L':=[(b2,.cells #[.int .i64 (z)] 3 (0,0)),(b1,.cells #[.slice a1 t.nH c1,.slice a2 t.nW c2,.slice a3 t.m c3] 25 (0,0))]) rfl ?_
 refine ro (xax (v:=.int .i64 0) rfl) <| rt (xax (v:=.int .i64 0) rfl) (tm':=zq2 (zq4 _)) rfl <| ren <| xez ?_
 refine xgx 4 [[],[],[],[1,2],[],[]] xkk (by kernel_rfl) (Nat.le_of_ble_eq_true rfl) ?_
 refine wd (fun h_ H_=>xav H_ tA25 tS25 rfl (i:=1) rfl (vs:=[.slice a1 t.nH c1,.slice a2 t.nW c2,.slice a3 t.m c3]) rfl rfl) ?_
 refine xbk mn (fun h_ H_=>xav H_ tA25 tS25 rfl (i:=1) rfl (vs:=[.slice a1 t.nH c1,.slice a2 t.nW c2,.slice a3 t.m c3]) rfl rfl) (tm':=zq2 (zq8 _)) rfl ?_
 refine wd (fun h_ H_=>xaj H_ tA3 rfl (i:=0) rfl (v:=.int .i64 (z)) rfl) ?_
 refine xiv mn (first:=[]) (cap:=[]) rfl rfl fC70 (fun h_ H_=>(c70 md _ _ H_.pe _ _ _ _ _ _ _ _ _ t (show TownP _ _ _ _ _ _ _ t from ⟨T.h,T.w,T.y⟩) (by omega) (z)).mono fun v_ h2_ ⟨e_,k_⟩=>⟨e_,H_.call k_⟩) (tm':=zq4 (zq8 _)) rfl ?_
 refine xiz rfl ?_
 refine xeq mn (first:=[]) (cap:=[]) rfl rfl fC64 (fun h_ H_=>c64 md _ _ H_.pe _ _ _ _ _ _ _ _ _ t (show TownP _ _ _ _ _ _ _ t from ⟨T.h,T.w,T.y⟩) (by omega) (decide (0≤z∧z≤(t.nW:Int)-1))) rfl ?_
 refine rt (xax (v:=.int .i64 (askB t (decide (0≤z∧z≤(t.nW:Int)-1)))) rfl) (tm':=zq1 (zq2 (zq4 _))) rfl <| ren <| xbq <| ro (xaq (v:=.int .i64 (askB t (decide (0≤z∧z≤(t.nW:Int)-1)))) rfl) <| ro (xmk rfl rfl) <| xak ?_
 by_cases cc3:askB t (decide (0≤z∧z≤(t.nW:Int)-1))≠0
 ·
  refine xdx rfl (dtt cc3) <| fsr <| rt (xaq (v:=.int .i64 (askB t (decide (0≤z∧z≤(t.nW:Int)-1)))) rfl) (tm':=zq16 _) rfl <| ro (xax (v:=.int .i64 0) rfl) <| ro (xax (v:=.int .i64 (askB t (decide (0≤z∧z≤(t.nW:Int)-1)))) rfl) <| xak ?_
  refine xdv Tryd.func20 rfl (vs:=[.int .i64 0,.int .i64 (askB t (decide (0≤z∧z≤(t.nW:Int)-1)))]) (fun h_ H_=>⟨.int .i64 0,_,rfl,rfl,⟨.int .i64 (askB t (decide (0≤z∧z≤(t.nW:Int)-1))),_,rfl,rfl,rfl⟩⟩) (v:=.tuple #[.int .i64 0,.int .i64 (askB t (decide (0≤z∧z≤(t.nW:Int)-1)))]) rfl ?_
  exact fun h_ H_=>K _ _ ⟨by rw [vcq ‹_›],H_.kept⟩
 ·
  refine xck rfl (dff cc3) <| xcv <| xez ?_
  have ha_:askB t (decide (0≤z∧z≤(t.nW:Int)-1))=0:=by omega
  obtain ⟨hc_,hd_⟩:=wlv ha_
  have hO:OkT t:=xuz hc_
  have hd2_:=of_decide_eq_true hd_
  have hz_:0≤z∧z.toNat<t.nW:=by omega
  refine yiw 0 rfl (L':=[(b1,.cells #[.slice a1 t.nH c1,.slice a2 t.nW c2,.slice a3 t.m c3] 25 (0,0))]) rfl fun p4 le5 hb6=>?_
  refine yiw 0 rfl (L':=[]) rfl fun p7 le8 hb9=>?_
  refine xbq <| rt (xuj (a:=[]) (b:=[.pointer (some ⟨b1,0,none⟩),.pointer (some ⟨b2,0,none⟩)]) rfl rfl) (tm':=zq1 (zq8 (zq16 []))) rfl <| ro (xax (v:=.func (.func 71) #[] #[.pointer (some ⟨b1,0,none⟩),.pointer (some ⟨b2,0,none⟩)]) rfl) <| ren <| xdj <| fsr ?_
  refine ro (xaq (v:=.func (.func 71) #[] #[.pointer (some ⟨b1,0,none⟩),.pointer (some ⟨b2,0,none⟩)]) rfl) ?_
  refine xeq mn (first:=[]) (cap:=[.pointer (some ⟨b1,0,none⟩),.pointer (some ⟨b2,0,none⟩)]) rfl rfl fC71 (fun h_ H_=>c71 md _ _ H_.pe _ _ _ _ _ _ t (show TownP _ _ _ _ _ _ _ t from ⟨((T.h.mono le5).mono le8),((T.w.mono le5).mono le8),((T.y.mono le5).mono le8)⟩) hO _ ((-1)) (wnw (by decide) (by decide)) hz_ _ _ hb9 (le8 _ _ hb6)) (tm':=zq1 (zq8 (zq16 []))) rfl ?_
  refine ro (xkw rfl rfl) <| ro (xax (v:=.bool (decide (restV t z ((-1))=0))) rfl) <| xak ?_
  by_cases cc10:restV t z ((-1))=0
  ·
   refine xdx rfl (dtt cc10) <| fsr <| rt (xax (v:=.int .i64 1) rfl) (tm':=zq1 (zq4 _)) rfl <| ro (xax (v:=.int .i64 0) rfl) <| xak ?_
   refine xdv Tryd.func20 rfl (vs:=[.int .i64 1,.int .i64 0]) (fun h_ H_=>⟨.int .i64 1,_,rfl,rfl,⟨.int .i64 0,_,rfl,rfl,rfl⟩⟩) (v:=.tuple #[.int .i64 1,.int .i64 0]) rfl ?_
   exact fun h_ H_=>K _ _ ⟨by rw [ha_,ynk ha_];(unfold dryV;first | rw [if_pos ‹_›] | (rw [if_neg ‹_›,if_pos ‹_›]) | (rw [if_neg ‹_›,if_neg ‹_›])),H_.kept⟩
  ·
   refine xck rfl (dff cc10) <| fsr <| ro (xaq (v:=.func (.func 71) #[] #[.pointer (some ⟨b1,0,none⟩),.pointer (some ⟨b2,0,none⟩)]) rfl) ?_
   refine xeq mn (first:=[]) (cap:=[.pointer (some ⟨b1,0,none⟩),.pointer (some ⟨b2,0,none⟩)]) rfl rfl fC71 (fun h_ H_=>c71 md _ _ H_.pe _ _ _ _ _ _ t (show TownP _ _ _ _ _ _ _ t from ⟨((T.h.mono le5).mono le8),((T.w.mono le5).mono le8),((T.y.mono le5).mono le8)⟩) hO _ (1) (wnw (by decide) (by decide)) hz_ _ _ hb9 (le8 _ _ hb6)) (tm':=zq1 (zq8 (zq16 []))) rfl ?_
   refine ro (xkq rfl rfl) <| ro (xax (v:=.bool (decide (0<restV t z (1)))) rfl) <| xak ?_
   by_cases cc11:0<restV t z (1)
   ·
    refine xdx rfl (dtt cc11) <| fsr <| rt (xax (v:=.int .i64 2) rfl) (tm':=zq1 (zq4 _)) rfl <| ro (xax (v:=.int .i64 0) rfl) <| xak ?_
    refine xdv Tryd.func20 rfl (vs:=[.int .i64 2,.int .i64 0]) (fun h_ H_=>⟨.int .i64 2,_,rfl,rfl,⟨.int .i64 0,_,rfl,rfl,rfl⟩⟩) (v:=.tuple #[.int .i64 2,.int .i64 0]) rfl ?_
    exact fun h_ H_=>K _ _ ⟨by rw [ha_,ynk ha_];(unfold dryV;first | rw [if_pos ‹_›] | (rw [if_neg ‹_›,if_pos ‹_›]) | (rw [if_neg ‹_›,if_neg ‹_›])),H_.kept⟩
   ·
    refine xck rfl (dff cc11) <| xcv <| xdq <| fsr <| ro (xax (v:=.int .i64 3) rfl) <| rt (xax (v:=.int .i64 0) rfl) (tm':=zq2 (zq4 _)) rfl ?_
    refine xak ?_
    refine xdv Tryd.func20 rfl (vs:=[.int .i64 3,.int .i64 0]) (fun h_ H_=>⟨.int .i64 3,_,rfl,rfl,⟨.int .i64 0,_,rfl,rfl,rfl⟩⟩) (v:=.tuple #[.int .i64 3,.int .i64 0]) rfl ?_
    exact fun h_ H_=>K _ _ ⟨by rw [ha_,ynk ha_];(unfold dryV;first | rw [if_pos ‹_›] | (rw [if_neg ‹_›,if_pos ‹_›]) | (rw [if_neg ‹_›,if_neg ‹_›])),H_.kept⟩
end Go.Proofs.YtalfgojocdonhaaDoor
namespace Go.Proofs.YtalfgojocdonhaaDoor
open Go.X Go.X.Flow Go.Conc
set_option maxRecDepth 10000
set_option synthInstance.maxSize 2000

set_option maxHeartbeats 1000000
theorem c108 (md:Md) (h:Heap) (p:PHeap) (hp:Per p h) (x:Nat) (hx:0<x∧x<64) (Z:TabP p):CallsX Tryd.prog md 108 #[.int .u64 (((x:Nat):Int))] h fun v h'=>v= .int .i64 ((tzN x:Nat):Int)∧Keep h h':=by
 refine xcx (Φ:=fun h_=>St h [] p h_ []) Tryd.func108 rfl (tm:=zq2 (zq4 (zq8 []))) rfl ?_ (St.start h _ hp)
 intro c₀ cs Stop K
 refine fsr <| ro (xax (v:=.int .i64 0) rfl) <| ren <| fsr <| ro (xaq (v:=.int .u64 (((x:Nat):Int))) rfl) <| rt (xkw rfl rfl) (tm':=zq1 (zq4 _)) rfl ?_
 refine xak ?_
 by_cases cc1:((x:Nat):Int)=0
 ·
  exact absurd cc1 (by omega)
 ·
  refine xck rfl (dff cc1) <| xcv <| xez ?_
  have tb_:=wnz (tzF x)
  refine xbq <| ro (xaq (v:=.int .u64 (((x:Nat):Int))) rfl) <| ro (xaq (v:=.int .u64 (((x:Nat):Int))) rfl) ?_
  refine rt (wsk (a:=x) rfl (by omega) (by omega)) (tm':=zq8 _) rfl ?_
  refine ro (zak (a:=x) (b:=18446744073709551616-x) rfl rfl (by omega) (by omega)) ?_
  refine ro (wsv (a:=x &&& (18446744073709551616-x)) (b:=285870213051353865) rfl rfl) ?_
  refine rt (ztz (a:=(x &&& (18446744073709551616-x))*285870213051353865 % 18446744073709551616) (s:=58) rfl rfl (show _≤64 from by omega)) (tm':=zq2 (zq4 (zq8 []))) rfl ?_
  refine ro (zhx (i:=((x &&& (18446744073709551616-x))*285870213051353865 % 18446744073709551616) / 2 ^ 58) Tryd.underlying116 tS5 rfl rfl (wvq x)) <| rd (fun h_ H_=>xbj H_ tA5 rfl (v:=.int .u8 (((tab64.getD (tzF x) 0:Nat):Int))) (Z.at (wvq x))) ?_
  refine rt (ynj ⟨_,Tryd.underlying5⟩ Tryd.underlying3 rfl (n:=((tab64.getD (tzF x) 0:Nat):Int)) (wr (by omega))) (tm':=zq2 (zq4 (zq8 []))) rfl ?_
  refine ro (xax (v:=.int .i64 (((tab64.getD (tzF x) 0:Nat):Int))) rfl) <| xak ?_
  refine xdv Tryd.func108 rfl (vs:=[.int .i64 (((tab64.getD (tzF x) 0:Nat):Int))]) (fun h_ H_=>⟨.int .i64 (((tab64.getD (tzF x) 0:Nat):Int)),_,rfl,rfl,rfl⟩) (v:=.int .i64 (((tab64.getD (tzF x) 0:Nat):Int))) rfl ?_
  exact fun h_ H_=>K _ _ ⟨rfl,H_.kept⟩
theorem c98 (md:Md) (h:Heap) (p:PHeap) (hp:Per p h) (x:Nat) (hx:0<x∧x<64) (Z:TabP p):CallsX Tryd.prog md 98 #[.int .u64 (((x:Nat):Int))] h fun v h'=>v= .int .i64 ((tzN x:Nat):Int)∧Keep h h':=by
 refine xcx (Φ:=fun h_=>St h [] p h_ []) Tryd.func98 rfl (tm:=zq8 []) rfl ?_ (St.start h _ hp)
 intro c₀ cs Stop K
 refine fsr <| ro (xax (v:=.int .i64 0) rfl) <| ren <| xck rfl rfl <| xcv <| fsr ?_
 refine rt (xaq (v:=.int .u64 (((x:Nat):Int))) rfl) (tm':=zq8 []) rfl ?_
 refine xeq mn (first:=[]) (cap:=[]) rfl rfl fC108 (fun h_ H_=>c108 md _ _ H_.pe x (by omega) Z) rfl ?_
 refine ro (xax (v:=.int .i64 (((tzN x:Nat):Int))) rfl) <| xak ?_
 refine xdv Tryd.func98 rfl (vs:=[.int .i64 (((tzN x:Nat):Int))]) (fun h_ H_=>⟨.int .i64 (((tzN x:Nat):Int)),_,rfl,rfl,rfl⟩) (v:=.int .i64 (((tzN x:Nat):Int))) rfl ?_
 exact fun h_ H_=>K _ _ ⟨rfl,H_.kept⟩
theorem c73 (md:Md) (h:Heap) (p:PHeap) (hp:Per p h) (g:Nat) (hg:g<64) (Z:TabP p):CallsX Tryd.prog md 73 #[.int .u64 (((g:Nat):Int))] h fun v h'=>∃ w X,v=w∧OwnS 3 1 w (ics (LG g)) X∧New h h' X:=by
 refine xcx (Φ:=fun h_=>St h [] p h_ []) Tryd.func73 rfl (tm:=zq16 []) rfl ?_ (St.start h _ hp)
 intro c₀ cs Stop K
 refine fsr <| rt (xax (v:=.slice none 0 0) rfl) (tm':=_::_::_::_) rfl <| ren <| xbq <| ro (xax (v:=.slice none 0 0) rfl) <| ren ?_
 refine xdj ?_
 refine xhk (m₀:=g+1) (fun m_ tm_ h_=>∃ (n:Nat) (q:Nat) (acc:List Int) (w:Value) (X1:Pcs),m_=q+1∧(∃ y1:Nat→Value,tm_=[.int .u64 (((q:Nat):Int)),undef,.slice none 0 0,w,(y1 4),(y1 5),(y1 6),(y1 7),(y1 8),(y1 9),(y1 10),(y1 11),(y1 12),(y1 13),(y1 14),undef])∧(q<64)∧(popL n q=true)∧(acc++listG n q=LG g)∧(OwnS 3 1 w (ics acc) X1)∧St h [] p h_ (([]:Pcs)++(X1++[]))) (fun h_ H_=>⟨6,g,[],(.slice none 0 0),[],rfl,(y_of rfl),hg,(pop6 g hg),rfl,(OwnS.empty _ _),H_⟩) ?_
 intro m_ tm_ IH2
 refine xhq fun n=>xhq fun q=>xhq fun acc=>xhq fun w=>xhq fun X1=>xcz fun hm_=>xcz fun ht_=>xcz fun hq=>xcz fun hp=>xcz fun hl=>xcz fun o1=>?_
 subst hm_;obtain ⟨y1,ht_⟩:=ht_;subst ht_
 refine xez <| xez ?_
 have hlen_:acc.length≤6:=by have z_:=congrArg List.length hl;simp only [List.length_append] at z_;have z2_:=zuk g hg;omega
 refine xbq <| ro (xaq (v:=.int .u64 (((q:Nat):Int))) rfl) <| rt (xmk rfl rfl) (tm':=zq2 (zq4 _)) rfl <| xak ?_
 by_cases cc3:((q:Nat):Int)≠0
 ·
  refine xdx rfl (dtt cc3) <| xcv <| xez <| xdj ?_
  have hq0_: ¬ q=0:=by omega
  obtain ⟨n',rfl⟩: ∃ n',n=n'+1:=by cases n with | zero=>exact absurd (wez hp) ‹_› | succ n'=>exact ⟨n',rfl⟩
  refine xbq <| ro (xaq (v:=w) rfl) <| ro (xaq (v:=.int .u64 (((q:Nat):Int))) rfl) ?_
  refine xeq mn (first:=[]) (cap:=[]) rfl rfl fC98 (fun h_ H_=>c98 md _ _ H_.pe q (by omega) Z) (tm':=zq16 []) rfl ?_
  refine xjz ([]:Pcs) mn Tryd.underlying22 tS3 tZ3 (Nat.le_of_ble_eq_true rfl) (vs:=[(0,.int .i64 (((tzN q:Nat):Int)))]) rfl rfl (es:=[[.int .i64 (((tzN q:Nat):Int))]]) rfl rfl rfl fun v4 X5 o6=>?_
  refine xjj (List.Perm.append_left _ (List.perm_append_comm_assoc _ _ _)) ?_
  refine xcq (L':=([]:Pcs)++(X1++(X5++[]))) rfl ?_
  refine xmv ([]:Pcs) X1 X5 mn Tryd.underlying22 tS3 tZ3 rfl tB3 Tryd.underlying22 rfl rfl o1 o6 (xtx rfl) (by rw [xcw];simp only [List.length_cons,List.length_nil];omega) (by decide) fun v7 X8 o9=>?_
  have o10:OwnS 3 1 v7 (ics (acc++[((tzN q:Nat):Int)])) X8:=o9.as (yzx _ _)
  refine rt (xax (v:=v7) rfl) (tm':=zq4 _) rfl <| xak <| xdq <| xbq <| ro (xaq (v:=.int .u64 (((q:Nat):Int))) rfl) <| ro (xaq (v:=.int .u64 (((q:Nat):Int))) rfl) ?_
  refine rt (xkj rfl rfl (n:=((q-1:Nat):Int)) (by rw [show ((q:Nat):Int)-1=((q-1:Nat):Int) from by omega];exact wrU (by omega))) (tm':=zq1 (zq8 _)) rfl ?_
  refine ro (zak (a:=q) (b:=q-1) rfl rfl (by omega) (by omega)) ?_
  refine ro (xax (v:=.int .u64 (((q &&& (q-1):Nat):Int))) rfl) <| xak ?_
  exact fun h_ H_=>IH2 _ _ (by have z_:=Nat.and_le_right (n:=q) (m:=q-1);omega) h_ ⟨n',(q &&& (q-1)),(acc++[((tzN q:Nat):Int)]),v7,X8,rfl,(y_of rfl),(by have z_:=Nat.and_le_right (n:=q) (m:=q-1);omega),(wej hp ‹_›),(by rw [List.append_assoc,List.singleton_append,← zxw ‹_›];exact hl),o10,H_⟩
 ·
  refine xck rfl (dff cc3) <| xhz rfl <| fsr <| rt (xaq (v:=w) rfl) (tm':=zq16 []) rfl <| ro (xax (v:=w) rfl) <| xak ?_
  refine xdv Tryd.func73 rfl (vs:=[w]) (fun h_ H_=>⟨w,_,rfl,rfl,rfl⟩) (v:=w) rfl ?_
  have hq0_:q=0:=by omega
  have hl2_:acc=LG g:=by rw [hq0_,yuz,List.append_nil] at hl;exact hl
  exact fun h_ H_=>K _ _ ⟨_,_,rfl,o1.as (by rw [hl2_]),((H_.dropA).sub (List.sublist_append_left _ _)).new⟩
theorem c76 (md:Md) (h:Heap) (p:PHeap) (hp:Per p h) (a b:Option Addr) (m n c d:Nat) (xs ys:List Int) (A:Ints p a m xs) (B:Ints p b n ys) (hm:m≤100∧n≤100):CallsX Tryd.prog md 76 #[.slice a m c,.slice b n d] h fun v h'=>v= .int .i64 (cmpL xs ys)∧Keep h h':=by
 refine xcx (Φ:=fun h_=>St h [] p h_ []) Tryd.func76 rfl (tm:=zq4 (zq32 [])) rfl ?_ (St.start h _ hp)
 intro c₀ cs Stop K
 refine fsr <| ro (xax (v:=.int .i64 0) rfl) <| ren <| fsr <| rt (xaq (v:=.slice a m c) rfl) (tm':=zq2 (zq8 _)) rfl <| ro (xfz Tryd.underlying22 rfl) ?_
 refine ro (xaq (v:=.int .i64 0) rfl) <| xak <| xdj ?_
 refine xhk (m₀:=m-0) (fun m_ tm_ h_=>∃ (k:Nat),m_=m-k∧(∃ y1:Nat→Value,tm_=[.slice a m c,.slice b n d,undef,undef,(y1 4),(y1 5),(y1 6),(y1 7),(y1 8),.slice a m c,.int .i64 (((m:Nat):Int)),.int .i64 (((k:Nat):Int)),(y1 12),(y1 13),(y1 14),(y1 15),(y1 16),(y1 17),(y1 18),(y1 19),(y1 20),(y1 21),(y1 22),(y1 23),(y1 24),(y1 25),(y1 26),(y1 27),(y1 28),(y1 29),(y1 30),undef,undef,undef,undef,undef])∧(k≤m∧k≤n)∧(cmpL (xs.drop k) (ys.drop k)=cmpL xs ys)∧St h [] p h_ ([])) (fun h_ H_=>⟨0,rfl,(y_of rfl),⟨Nat.zero_le _,Nat.zero_le _⟩,(by simp),H_⟩) ?_
 intro m_ tm_ IH2
 refine xhq fun k=>xcz fun hm_=>xcz fun ht_=>xcz fun hk=>xcz fun hc_=>?_
 subst hm_;obtain ⟨y1,ht_⟩:=ht_;subst ht_
 have hl1:=A.len
 have hl2:=B.len
 refine fsr <| rt (xgj rfl rfl) (tm':=zq1 (zq4 (zq8 _))) rfl <| ren ?_
 by_cases cc3:((k:Nat):Int)<((m:Nat):Int)
 ·
  refine xdx rfl (dtt cc3) <| xcv <| xez <| xdj <| fsr <| ro (xaq (v:=.int .i64 (((k:Nat):Int))) rfl) ?_
  refine ro (xbw (i:=k) Tryd.underlying22 tS3 (xjq a m c (A.ne (by omega))) rfl (by omega)) ?_
  refine xbx mn (fun h_ H_=>xbj H_ tA3 rfl (v:=.int .i64 (xs.getD k 0)) (A.get (by omega))) (tm':=zq16 _) rfl ?_
  refine ro (xax (v:=.int .i64 (((k:Nat):Int))) rfl) <| ro (xax (v:=.int .i64 (xs.getD k 0)) rfl) <| ren <| fsr <| rt (xaq (v:=.int .i64 (((k:Nat):Int))) rfl) (tm':=zq1 (zq16 _)) rfl <| ro (xaq (v:=.slice b n d) rfl) ?_
  refine ro (xfz Tryd.underlying22 rfl) <| rt (xwk rfl rfl) (tm':=zq4 (zq16 _)) rfl <| xak ?_
  by_cases cc4:((n:Nat):Int)≤((k:Nat):Int)
  ·
   refine xdx rfl (dtt cc4) <| fsr <| ro (xax (v:=.int .i64 1) rfl) <| xak ?_
   refine xdv Tryd.func76 rfl (vs:=[.int .i64 1]) (fun h_ H_=>⟨.int .i64 1,_,rfl,rfl,rfl⟩) (v:=.int .i64 1) rfl ?_
   exact fun h_ H_=>K _ _ ⟨congrArg (Value.int .i64) (by rw [← hc_];first | exact (yhk (by omega) (by omega)).symm | exact (yhv (by omega) (by omega)).symm | exact (ynw (by omega) (by omega)).symm | (rw [ybz (by omega) (by omega),if_neg (by omega)])),H_.kept⟩
  ·
   refine xck rfl (dff cc4) <| xcv <| fsr <| ro (xaq (v:=.slice b n d) rfl) <| rt (xaq (v:=.int .i64 (((k:Nat):Int))) rfl) (tm':=zq2 (zq4 (zq16 _))) rfl ?_
   refine ro (xbw (i:=k) Tryd.underlying22 tS3 (xjq b n d (B.ne (by omega))) rfl (by omega)) ?_
   refine rd (fun h_ H_=>xbj H_ tA3 rfl (v:=.int .i64 (ys.getD k 0)) (B.get (by omega))) ?_
   refine rt (xax (v:=.int .i64 (ys.getD k 0)) rfl) (tm':=zq8 _) rfl <| ren <| xbq <| ro (xaq (v:=.int .i64 (xs.getD k 0)) rfl) <| ro (xaq (v:=.int .i64 (ys.getD k 0)) rfl) ?_
   refine xeq mn (first:=[]) (cap:=[]) rfl rfl wsz (fun h_ H_=>c101 md _ (xs.getD k 0) (ys.getD k 0)) (tm':=zq4 (zq32 [])) rfl ?_
   refine ro (xax (v:=.int .i64 (cmpI (xs.getD k 0) (ys.getD k 0))) rfl) <| ren <| xbq <| ro (xaq (v:=.int .i64 (cmpI (xs.getD k 0) (ys.getD k 0))) rfl) <| rt (xmk rfl rfl) (tm':=zq4 (zq32 [])) rfl <| xak ?_
   by_cases cc5:cmpI (xs.getD k 0) (ys.getD k 0)≠0
   ·
    refine xdx rfl (dtt cc5) <| fsr <| ro (xaq (v:=.int .i64 (cmpI (xs.getD k 0) (ys.getD k 0))) rfl) <| ro (xax (v:=.int .i64 (cmpI (xs.getD k 0) (ys.getD k 0))) rfl) <| xak ?_
    refine xdv Tryd.func76 rfl (vs:=[.int .i64 (cmpI (xs.getD k 0) (ys.getD k 0))]) (fun h_ H_=>⟨.int .i64 (cmpI (xs.getD k 0) (ys.getD k 0)),_,rfl,rfl,rfl⟩) (v:=.int .i64 (cmpI (xs.getD k 0) (ys.getD k 0))) rfl ?_
    exact fun h_ H_=>K _ _ ⟨congrArg (Value.int .i64) (by rw [← hc_];first | exact (yhk (by omega) (by omega)).symm | exact (yhv (by omega) (by omega)).symm | exact (ynw (by omega) (by omega)).symm | (rw [ybz (by omega) (by omega),if_neg (by omega)])),H_.kept⟩
   ·
    refine xck rfl (dff cc5) <| xcv <| xdq <| xbq ?_
    refine rt (xek rfl rfl (n:=((k+1:Nat):Int)) (wr (by omega))) (tm':=zq4 (zq32 [])) rfl ?_
    refine ro (xaq (v:=.int .i64 (((k+1:Nat):Int))) rfl) <| xak ?_
    exact fun h_ H_=>IH2 _ _ (by omega) h_ ⟨k+1,rfl,(y_of rfl),(by omega),(by rw [← hc_,ybz (k:=k) (by omega) (by omega),if_pos (by omega)]),H_⟩
 ·
  refine xck rfl (dff cc3) <| xhz rfl <| xez <| fsr <| ro (xaq (v:=.slice a m c) rfl) <| rt (xfz Tryd.underlying22 rfl) (tm':=zq4 (zq32 [])) rfl ?_
  refine ro (xaq (v:=.slice b n d) rfl) <| ro (xfz Tryd.underlying22 rfl) <| rt (xgj rfl rfl) (tm':=zq4 (zq32 [])) rfl <| xak ?_
  by_cases cc6:((m:Nat):Int)<((n:Nat):Int)
  ·
   refine xdx rfl (dtt cc6) <| fsr <| ro (xax (v:=.int .i64 (-1)) rfl) <| xak ?_
   refine xdv Tryd.func76 rfl (vs:=[.int .i64 (-1)]) (fun h_ H_=>⟨.int .i64 (-1),_,rfl,rfl,rfl⟩) (v:=.int .i64 (-1)) rfl ?_
   exact fun h_ H_=>K _ _ ⟨congrArg (Value.int .i64) (by rw [← hc_];first | exact (yhk (by omega) (by omega)).symm | exact (yhv (by omega) (by omega)).symm | exact (ynw (by omega) (by omega)).symm | (rw [ybz (by omega) (by omega),if_neg (by omega)])),H_.kept⟩
  ·
   refine xck rfl (dff cc6) <| xcv <| fsr <| ro (xax (v:=.int .i64 0) rfl) <| xak ?_
   refine xdv Tryd.func76 rfl (vs:=[.int .i64 0]) (fun h_ H_=>⟨.int .i64 0,_,rfl,rfl,rfl⟩) (v:=.int .i64 0) rfl ?_
   exact fun h_ H_=>K _ _ ⟨congrArg (Value.int .i64) (by rw [← hc_];first | exact (yhk (by omega) (by omega)).symm | exact (yhv (by omega) (by omega)).symm | exact (ynw (by omega) (by omega)).symm | (rw [ybz (by omega) (by omega),if_neg (by omega)])),H_.kept⟩
end Go.Proofs.YtalfgojocdonhaaDoor
namespace Go.Proofs.YtalfgojocdonhaaDoor
open Go.X Go.X.Flow Go.Conc
set_option maxRecDepth 10000
set_option synthInstance.maxSize 2000

set_option maxHeartbeats 1000000
theorem c109 (md:Md) (h:Heap) (p:PHeap) (hp:Per p h) (fv:Value) (a:Option Addr) (n c:Nat) (xs:List FWay) (A:Wys p a n xs) (hn:n≤2 ^ 40) (q:FWay→Bool) (hf: ∀ h,Per p h→ ∀ i,i<n→CallV Tryd.prog md fv [.agg #[.int .i64 (xs.getD i wz).1,.int .i64 (xs.getD i wz).2]] h fun v h'=>v= .bool (q (xs.getD i wz))∧Keep h h'):CallsX Tryd.prog md 109 #[.slice a n c,fv] h fun v h'=>v= .int .i64 (idxA q xs)∧Keep h h':=by
 refine xcx (Φ:=fun h_=>St h [] p h_ []) Tryd.func109 rfl (tm:=zq1 (zq2 (zq16 []))) rfl ?_ (St.start h _ hp)
 intro c₀ cs Stop K
 refine fsr <| ro (xax (v:=.int .i64 0) rfl) <| ren <| fsr <| ro (xaq (v:=.slice a n c) rfl) <| rt (xfz Tryd.underlying23 rfl) (tm':=zq8 _) rfl ?_
 refine ro (xaq (v:=.int .i64 0) rfl) <| xak <| xdj ?_
 refine xhk (m₀:=n-0) (fun m_ tm_ h_=>∃ (k:Nat),m_=n-k∧(∃ y1:Nat→Value,tm_=[.slice a n c,fv,undef,undef,(y1 4),(y1 5),.slice a n c,.int .i64 (((n:Nat):Int)),.int .i64 (((k:Nat):Int)),(y1 9),(y1 10),(y1 11),(y1 12),(y1 13),(y1 14),(y1 15),(y1 16),(y1 17),(y1 18)])∧(k≤n)∧(∀ i,i<k→q (xs.getD i wz)=false)∧St h [] p h_ ([])) (fun h_ H_=>⟨0,rfl,(y_of rfl),Nat.zero_le _,(fun i hi=>absurd hi (Nat.not_lt_zero i)),H_⟩) ?_
 intro m_ tm_ IH2
 refine xhq fun k=>xcz fun hm_=>xcz fun ht_=>xcz fun hk=>xcz fun hs=>?_
 subst hm_;obtain ⟨y1,ht_⟩:=ht_;subst ht_
 refine fsr <| ro (xgj rfl rfl) <| ren ?_
 by_cases cc3:((k:Nat):Int)<((n:Nat):Int)
 ·
  refine xdx rfl (dtt cc3) <| xcv <| xez <| xdj <| fsr <| rt (xaq (v:=.int .i64 (((k:Nat):Int))) rfl) (tm':=zq1 (zq2 (zq8 _))) rfl ?_
  refine ro (xax (v:=.int .i64 (((k:Nat):Int))) rfl) <| ren <| xbq <| ro (xaq (v:=fv) rfl) <| rt (xaq (v:=.slice a n c) rfl) (tm':=zq1 (zq2 (zq16 []))) rfl <| ro (xaq (v:=.int .i64 (((k:Nat):Int))) rfl) ?_
  refine ro (xbw (i:=k) Tryd.underlying23 tS43 (xjq a n c (A.ne (by omega))) rfl (by omega)) ?_
  refine xbx mn (fun h_ H_=>xgw H_ tA43 tS43 rfl (vs:=[.int .i64 ((xs.getD k wz).1),.int .i64 ((xs.getD k wz).2)]) rfl (A.all (by omega))) (tm':=zq1 (zq2 (zq16 []))) rfl ?_
  refine ypk mn rfl (vs:=[.agg #[.int .i64 ((xs.getD k wz).1),.int .i64 ((xs.getD k wz).2)]]) rfl (fun h_ H_=>hf h_ H_.per k (show k<n by omega)) rfl ?_
  refine xak ?_
  rcases ybj ((q (xs.getD k wz))) with cc4 | cc4
  ·
   refine xdx rfl cc4 <| fsr <| ro (xaq (v:=.int .i64 (((k:Nat):Int))) rfl) <| rt (xax (v:=.int .i64 (((k:Nat):Int))) rfl) (tm':=zq1 (zq4 _)) rfl <| xak ?_
   refine xdv Tryd.func109 rfl (vs:=[.int .i64 (((k:Nat):Int))]) (fun h_ H_=>⟨.int .i64 (((k:Nat):Int)),_,rfl,rfl,rfl⟩) (v:=.int .i64 (((k:Nat):Int))) rfl ?_
   have hl:=A.len
   exact fun h_ H_=>K _ _ ⟨by first | (rw [xwx (z:=wz) (k:=k) (by omega) ‹_› hs]) | (rw [xwz (z:=wz) (fun i hi=>hs i (by omega))]),H_.kept⟩
  ·
   refine xck rfl cc4 <| xcv <| xdq <| xbq ?_
   refine ro (xek rfl rfl (n:=((k+1:Nat):Int)) (wr (by omega))) ?_
   refine ro (xaq (v:=.int .i64 (((k+1:Nat):Int))) rfl) <| xak ?_
   exact fun h_ H_=>IH2 _ _ (by omega) h_ ⟨k+1,rfl,(y_of rfl),(by omega),(xrw (q:=fun i=>q (xs.getD i wz)=false) hs ‹_›),H_⟩
 ·
  refine xck rfl (dff cc3) <| xhz rfl <| fsr <| rt (xax (v:=.int .i64 (-1)) rfl) (tm':=zq1 (zq4 _)) rfl <| xak ?_
  refine xdv Tryd.func109 rfl (vs:=[.int .i64 (-1)]) (fun h_ H_=>⟨.int .i64 (-1),_,rfl,rfl,rfl⟩) (v:=.int .i64 (-1)) rfl ?_
  have hl:=A.len
  exact fun h_ H_=>K _ _ ⟨by first | (rw [xwx (z:=wz) (k:=k) (by omega) ‹_› hs]) | (rw [xwz (z:=wz) (fun i hi=>hs i (by omega))]),H_.kept⟩
theorem c100 (md:Md) (h:Heap) (p:PHeap) (hp:Per p h) (fv:Value) (a:Option Addr) (n c:Nat) (xs:List FWay) (A:Wys p a n xs) (hn:n≤2 ^ 40) (q:FWay→Bool) (hf: ∀ h,Per p h→ ∀ i,i<n→CallV Tryd.prog md fv [.agg #[.int .i64 (xs.getD i wz).1,.int .i64 (xs.getD i wz).2]] h fun v h'=>v= .bool (q (xs.getD i wz))∧Keep h h'):CallsX Tryd.prog md 100 #[.slice a n c,fv] h fun v h'=>v= .bool (decide (0≤idxA q xs))∧Keep h h':=by
 refine xcx (Φ:=fun h_=>St h [] p h_ []) Tryd.func100 rfl (tm:=zq1 (zq8 [])) rfl ?_ (St.start h _ hp)
 intro c₀ cs Stop K
 refine fsr <| ro (xax (v:=.bool (false)) rfl) <| ren <| xbq <| ro (xaq (v:=.slice a n c) rfl) <| rt (xaq (v:=fv) rfl) (tm':=zq1 (zq8 [])) rfl ?_
 refine xeq mn (first:=[]) (cap:=[]) rfl rfl fC109 (fun h_ H_=>c109 md _ _ H_.pe fv _ _ _ _ A (by omega) q hf) rfl ?_
 refine ro (xwk rfl rfl) <| rt (xax (v:=.bool (decide (0≤idxA q xs))) rfl) (tm':=zq1 (zq4 _)) rfl <| xak ?_
 refine xdv Tryd.func100 rfl (vs:=[.bool (decide (0≤idxA q xs))]) (fun h_ H_=>⟨.bool (decide (0≤idxA q xs)),_,rfl,rfl,rfl⟩) (v:=.bool (decide (0≤idxA q xs))) rfl ?_
 exact fun h_ H_=>K _ _ ⟨rfl,H_.kept⟩
theorem c99 (md:Md) (h:Heap) (p:PHeap) (hp:Per p h) (x y gg w:Nat) (hx:x≤63) (hg:gg<64) (bW bG:Nat) (hW:p bW=some (.cells #[.int .i64 ((w:Nat):Int)] 3 (0,0))) (hG:p bG=some (.cells #[.int .u64 ((gg:Nat):Int)] 79 (0,0))):CallsX Tryd.prog md 99 #[.agg #[.int .i64 (((x:Nat):Int)),.int .i64 (((y:Nat):Int))],.pointer (some ⟨bW,0,none⟩),.pointer (some ⟨bG,0,none⟩)] h fun v h'=>v= .bool (shq gg w (((x:Nat):Int),((y:Nat):Int)))∧Keep h h':=by
 refine xcx (Φ:=fun h_=>St h [] p h_ []) Tryd.func99 rfl (tm:=zq1 (zq16 [])) rfl ?_ (St.start h _ hp)
 intro c₀ cs Stop K
 refine fsr ?_
 refine xij mn (v:=.agg #[.int .i64 (((x:Nat):Int)),.int .i64 (((y:Nat):Int))]) rfl fun b1=>xcq (L':=[(b1,.cells #[.int .i64 (((x:Nat):Int)),.int .i64 (((y:Nat):Int))] 43 (0,0))]) rfl ?_
 refine ro (xax (v:=.bool (false)) rfl) <| ren <| xbq <| rt (xaz xqv rfl (a':=⟨b1,1,none⟩) rfl) (tm':=zq2 (zq4 _)) rfl <| rd (fun h_ H_=>xaj H_ tA3 rfl (i:=0) rfl (v:=.int .i64 (((y:Nat):Int))) rfl) <| rd (fun h_ H_=>xbj H_ tA3 rfl (v:=.int .i64 (((w:Nat):Int))) (xjx hW rfl)) ?_
 refine rt (xkw rfl rfl) (tm':=zq1 (zq8 _)) rfl <| ro (xaq (v:=.bool (decide (((y:Nat):Int)=((w:Nat):Int)))) rfl) ?_
 by_cases cc2:((y:Nat):Int)=((w:Nat):Int)
 ·
  refine xbx (ms rfl rfl (dtt cc2)) (fun h_ H_=>xbj H_ tA79 rfl (v:=.int .u64 (((gg:Nat):Int))) (xjx hG rfl)) rfl ?_
  refine xbx (ms rfl rfl (dtt cc2)) (fun h_ H_=>xaz xoj rfl (a':=⟨b1,0,none⟩) rfl) (tm':=zq1 (zq16 [])) rfl ?_
  refine xbx (ms rfl rfl (dtt cc2)) (fun h_ H_=>xaj H_ tA3 rfl (i:=0) rfl (v:=.int .i64 (((x:Nat):Int))) rfl) rfl ?_
  refine xbx (ms rfl rfl (dtt cc2)) (fun h_ H_=>ztz (a:=gg) (s:=x) rfl rfl (show _≤64 from by omega)) rfl ?_
  refine xbx (ms rfl rfl (dtt cc2)) (fun h_ H_=>zak (a:=gg / 2 ^ x) (b:=1) rfl rfl (by first | omega | exact Nat.lt_of_le_of_lt (Nat.div_le_self _ _) (by omega)) (by first | omega | exact Nat.lt_of_le_of_lt (Nat.div_le_self _ _) (by omega))) (tm':=zq1 (zq16 [])) rfl ?_
  refine xbx (ms rfl rfl (dtt cc2)) (fun h_ H_=>xkw rfl rfl) rfl ?_
  refine ro (xdz rfl (dtt cc2) (v:=.bool (decide ((((gg / 2 ^ x) &&& 1:Nat):Int)=1))) rfl) <| rt (xax (v:=.bool (decide ((((gg / 2 ^ x) &&& 1:Nat):Int)=1))) rfl) (tm':=zq1 (zq4 _)) rfl <| xak ?_
  refine xdv Tryd.func99 rfl (vs:=[.bool (decide ((((gg / 2 ^ x) &&& 1:Nat):Int)=1))]) (fun h_ H_=>⟨.bool (decide ((((gg / 2 ^ x) &&& 1:Nat):Int)=1)),_,rfl,rfl,rfl⟩) (v:=.bool (decide ((((gg / 2 ^ x) &&& 1:Nat):Int)=1))) rfl ?_
  exact fun h_ H_=>K _ _ ⟨congrArg Value.bool (by simp only [shq,Int.toNat_natCast];first | (rw [Bool.eq_iff_iff];simp only [decide_eq_true_eq];omega) | (symm;rw [decide_eq_false_iff_not];omega)),H_.kept⟩
 ·
  refine rp (mo rfl rfl (dff cc2)) <| rp (mo rfl rfl (dff cc2)) <| xfx (mo rfl rfl (dff cc2)) (tm':=zq1 (zq16 [])) rfl <| rp (mo rfl rfl (dff cc2)) <| rp (mo rfl rfl (dff cc2)) <| xfx (mo rfl rfl (dff cc2)) (tm':=zq1 (zq16 [])) rfl ?_
  refine ro (xej rfl (dff cc2) (v:=.bool (false)) rfl) <| ro (xax (v:=.bool (false)) rfl) <| xak ?_
  refine xdv Tryd.func99 rfl (vs:=[.bool (false)]) (fun h_ H_=>⟨.bool (false),_,rfl,rfl,rfl⟩) (v:=.bool (false)) rfl ?_
  exact fun h_ H_=>K _ _ ⟨congrArg Value.bool (by simp only [shq,Int.toNat_natCast];first | (rw [Bool.eq_iff_iff];simp only [decide_eq_true_eq];omega) | (symm;rw [decide_eq_false_iff_not];omega)),H_.kept⟩
theorem vjv (md:Md) {h:Heap} {p:PHeap} (hp:Per p h) {g w:Nat} {x:FWay} (hx:0≤x.1∧x.1≤63∧0≤x.2) (hg:g<64) {bW bG:Nat} (hW:p bW=some (.cells #[.int .i64 ((w:Nat):Int)] 3 (0,0))) (hG:p bG=some (.cells #[.int .u64 ((g:Nat):Int)] 79 (0,0))):
  CallsX Tryd.prog md 99 #[.agg #[.int .i64 x.1,.int .i64 x.2],.pointer (some ⟨bW,0,none⟩),.pointer (some ⟨bG,0,none⟩)] h fun v h'=>v= .bool (shq g w x)∧Keep h h':=by
 obtain ⟨a,b⟩:=x
 obtain ⟨a,rfl⟩:=Int.eq_ofNat_of_zero_le hx.1
 obtain ⟨b,rfl⟩:=Int.eq_ofNat_of_zero_le hx.2.2
 exact c99 md h p hp a b g w (by have:=hx.2.1;simp only at this;omega) hg bW bG hW hG
theorem c74 (md:Md) (h:Heap) (p:PHeap) (hp:Per p h) (a1 a2 a3:Option Addr) (c1 c2 c3:Nat) (t:Tn) (T:TownP p a1 t.nH a2 t.nW a3 t.m t) (O:OkT t) (g:Nat) (hgk:g<2 ^ t.nH) (Z:TabP p):CallsX Tryd.prog md 74 #[.int .u64 (((g:Nat):Int)),.agg #[.slice a1 t.nH c1,.slice a2 t.nW c2,.slice a3 t.m c3]] h fun v h'=>v= .bool (decide (0<shortN t g))∧Keep h h':=by
 refine xcx (Φ:=fun h_=>St h [] p h_ []) Tryd.func74 rfl (tm:=zq1 (zq4 (zq8 (zq32 [])))) rfl ?_ (St.start h _ hp)
 intro c₀ cs Stop K
 have oH:=O.nh
 have oW:=O.nw
 have oM:=O.nm
 have hg64:g<64:=by have z_:=ylq O.toOk;omega
 refine fsr ?_
 refine xij mn (v:=.int .u64 (((g:Nat):Int))) rfl fun b1=>xcq (L':=[(b1,.cells #[.int .u64 (((g:Nat):Int))] 79 (0,0))]) rfl ?_
 refine xfj (tm':=_::_::_::_) rfl ?_
 refine xij mn (v:=.agg #[.slice a1 t.nH c1,.slice a2 t.nW c2,.slice a3 t.m c3]) rfl fun b2=>xcq (L':=[(b2,.cells #[.slice a1 t.nH c1,.slice a2 t.nW c2,.slice a3 t.m c3] 25 (0,0)),(b1,.cells #[.int .u64 (((g:Nat):Int))] 79 (0,0))]) rfl ?_
 refine ro (xax (v:=.bool (false)) rfl) <| ren ?_
 refine yiw 1 rfl (L':=[(b2,.cells #[.slice a1 t.nH c1,.slice a2 t.nW c2,.slice a3 t.m c3] 25 (0,0))]) rfl fun p3 le4 hb5=>?_
 refine xbq <| rt (xax (v:=.int .i64 0) rfl) (tm':=zq2 (zq4 _)) rfl <| ren <| fsr <| rd (fun h_ H_=>xbj H_ tA79 rfl (v:=.int .u64 (((g:Nat):Int))) (xjx hb5 rfl)) ?_
 refine xcq (L':=([(b2,.cells #[.slice a1 t.nH c1,.slice a2 t.nW c2,.slice a3 t.m c3] 25 (0,0))]:Pcs)++[]) rfl ?_
 refine xiw mn (first:=[]) (cap:=[]) rfl rfl fC73 (R:=fun v_ h_=>∃ w6:Value,∃ X7:Pcs,v_=w6∧(OwnS 3 1 w6 (ics (LG g)) X7)∧St h [] p3 h_ (([(b2,.cells #[.slice a1 t.nH c1,.slice a2 t.nW c2,.slice a3 t.m c3] 25 (0,0))]:Pcs)++(X7++[]))) (fun h_ H_=>(c73 md _ _ H_.pe g (by have z_:=ylq O.toOk;omega) (Z.mono le4)).mono fun v_ h2_ ⟨w6,X7,e_,o8,N_⟩=>⟨w6,X7,e_,o8,H_.callNA N_⟩) fun v_=>?_
 refine xgz fun w6=>xgz fun X7=>xfq fun ev_=>xfq fun o8=>?_
 have ev_:=ev_.symm;subst ev_
 refine xcq (L':=([(b2,.cells #[.slice a1 t.nH c1,.slice a2 t.nW c2,.slice a3 t.m c3] 25 (0,0))]:Pcs)++(X7++[])) rfl ?_
 refine rt (xzv o8 ((xcw _).trans rfl) Tryd.underlying22 rfl) (tm':=zq2 (zq4 (zq8 _))) rfl <| ro (xaq (v:=.int .i64 0) rfl) <| xak <| xdj ?_
 refine xhk (m₀:=(LG g).length-0) (fun m_ tm_ h_=>∃ (k:Nat) (s:Int),m_=(LG g).length-k∧(∃ y9:Nat→Value,tm_=(.int .u64 (((g:Nat):Int))::.agg #[.slice a1 t.nH c1,.slice a2 t.nW c2,.slice a3 t.m c3]::.pointer (some ⟨b1,0,none⟩)::.pointer (some ⟨b2,0,none⟩)::.bool (false)::.int .i64 (s)::undef::(y9 7)::undef::undef::undef::.int .u64 (((g:Nat):Int))::w6::.int .i64 ((((LG g).length:Nat):Int))::.int .i64 (((k:Nat):Int))::(y9 15)::(y9 16)::(y9 17)::(y9 18)::(y9 19)::(y9 20)::(y9 21)::(y9 22)::(y9 23)::(y9 24)::(y9 25)::undef::undef::undef::zu16 []))∧(k≤(LG g).length)∧(s=wantG t g k)∧St h [] p3 h_ (([(b2,.cells #[.slice a1 t.nH c1,.slice a2 t.nW c2,.slice a3 t.m c3] 25 (0,0))]:Pcs)++(X7++[]))) (fun h_ H_=>⟨0,0,rfl,(y_of rfl),Nat.zero_le _,rfl,H_⟩) ?_
 intro m_ tm_ IH10
 refine xhq fun k=>xhq fun s=>xcz fun hm_=>xcz fun ht_=>xcz fun hk=>xcz fun hs=>?_
 subst hm_;obtain ⟨y9,ht_⟩:=ht_;subst ht_
 have hwb_:=zox O.toOk hgk hk
 have hlb_:=fun z_:k<(LG g).length=>vjz O.nh hgk k z_
 have hl6_:=zuk g (by have z_:=ylq O.toOk;omega)
 have hvb_:=fun z_:((LG g).getD k 0).toNat<t.nH=>O.h _ z_
 refine fsr <| ro (xgj rfl rfl) <| ren ?_
 by_cases cc11:((k:Nat):Int)<(((LG g).length:Nat):Int)
 ·
  refine xdx rfl (dtt cc11) <| xcv <| xez <| xdj <| fsr ?_
  refine rt (xix o8 Tryd.underlying22 tS3 rfl rfl (by rw [((xcw _).trans rfl)];first | omega | (simp only [List.length_set];omega))) (tm':=zq1 (zq16 _)) rfl ?_
  refine rd (fun h_ H_=>xnv (A:=([(b2,.cells #[.slice a1 t.nH c1,.slice a2 t.nW c2,.slice a3 t.m c3] 25 (0,0))]:Pcs)) (i:=k) (j:=0) (e:=[.int .i64 ((LG g).getD k 0)]) o8 H_ tA3 rfl rfl (xqw (by first | omega | (rw [leftK_length];omega) | (simp only [List.length_set];omega))) (u:=.int .i64 ((LG g).getD k 0)) rfl) ?_
  refine ro (xax (v:=.int .i64 ((LG g).getD k 0)) rfl) <| xak <| xbq <| rt (xaq (v:=.int .i64 (s)) rfl) (tm':=zq1 (zq2 (zq16 _))) rfl <| ro (xaz xnx rfl (a':=⟨b2,0,none⟩) rfl) <| rd (fun h_ H_=>xaj H_ tA22 rfl (i:=0) rfl (v:=.slice a1 t.nH c1) rfl) ?_
  refine rt (xaq (v:=.int .i64 ((LG g).getD k 0)) rfl) (tm':=zq2 (zq4 (zq16 _))) rfl ?_
  refine ro (xkz Tryd.underlying22 tS3 (xjq a1 t.nH c1 ((T.h.mono le4).ne (by omega))) rfl (by omega) (by omega) (a':=(adr a1).add (((((LG g).getD k 0)).toNat)*1)) rfl) ?_
  refine rd (fun h_ H_=>xbj H_ tA3 rfl (v:=.int .i64 (t.hv ((((LG g).getD k 0)).toNat))) ((T.h.mono le4).get (by omega))) ?_
  refine rt (xek rfl rfl (wr (by have z1_:=hlb_ (by omega);have z2_:=hvb_ (by omega);omega))) (tm':=zq1 (zq8 (zq16 _))) rfl ?_
  refine ro (xax (v:=.int .i64 (s+(t.hv ((((LG g).getD k 0)).toNat)))) rfl) <| xak <| xdq <| xbq ?_
  refine ro (xek rfl rfl (n:=((k+1:Nat):Int)) (wr (by omega))) ?_
  refine rt (xaq (v:=.int .i64 (((k+1:Nat):Int))) rfl) (tm':=zq1 (zq2 (zq4 (zq8 _)))) rfl <| xak ?_
  exact fun h_ H_=>IH10 _ _ (by omega) h_ ⟨k+1,s+(t.hv ((((LG g).getD k 0)).toNat)),rfl,(y_of rfl),(by omega),(by rw [zvx,← hs]),H_⟩
 ·
  refine xck rfl (dff cc11) <| xhz rfl <| xez <| fsr <| ro (xaz xnk rfl (a':=⟨b2,1,none⟩) rfl) <| rd (fun h_ H_=>xaj H_ tA22 rfl (i:=0) rfl (v:=.slice a2 t.nW c2) rfl) ?_
  refine rt (xfz Tryd.underlying22 rfl) (tm':=zq1 (zq4 (zq8 (zq16 _)))) rfl <| ro (xaq (v:=.int .i64 0) rfl) <| xak <| xdj ?_
  refine xhk (m₀:=t.nW-0) (fun m_ tm_ h_=>∃ (l:Nat) (s2:Int),m_=t.nW-l∧(∃ y12:Nat→Value,tm_=[.int .u64 (((g:Nat):Int)),.agg #[.slice a1 t.nH c1,.slice a2 t.nW c2,.slice a3 t.m c3],.pointer (some ⟨b1,0,none⟩),.pointer (some ⟨b2,0,none⟩),.bool (false),.int .i64 (s2),undef,(y9 7),(y12 8),(y12 9),(y12 10),.int .u64 (((g:Nat):Int)),w6,.int .i64 ((((LG g).length:Nat):Int)),.int .i64 (((k:Nat):Int)),.bool (decide (((k:Nat):Int)<(((LG g).length:Nat):Int))),(y9 16),(y9 17),(y9 18),(y9 19),(y9 20),(y9 21),(y9 22),(y9 23),(y9 24),(y9 25),.pointer (some ⟨b2,1,none⟩),.slice a2 t.nW c2,.int .i64 (((t.nW:Nat):Int)),.int .i64 (((l:Nat):Int)),(y12 30),(y12 31),(y12 32),(y12 33),(y12 34),(y12 35),(y12 36),(y12 37),(y12 38),(y12 39),(y12 40),(y12 41),(y12 42),undef,undef])∧(l≤t.nW)∧(s2=wantG t g (LG g).length-reachG t g l)∧St h [] p3 h_ (([(b2,.cells #[.slice a1 t.nH c1,.slice a2 t.nW c2,.slice a3 t.m c3] 25 (0,0))]:Pcs)++(X7++[]))) (fun h_ H_=>⟨0,s,rfl,(y_of rfl),Nat.zero_le _,(by have e_:k=(LG g).length:=(by omega);rw [hs,e_];simp [reachG,sm]),H_⟩) ?_
  intro m_ tm_ IH13
  refine xhq fun l=>xhq fun s2=>xcz fun hm_=>xcz fun ht_=>xcz fun hl=>xcz fun hs2=>?_
  subst hm_;obtain ⟨y12,ht_⟩:=ht_;subst ht_
  have hrb_:=zek O.toOk (g:=g) hl
  have hwe_:=zox O.toOk hgk (Nat.le_refl (LG g).length)
  have hwv_:=fun z_:l<t.nW=>O.w l z_
  refine fsr <| ro (xgj rfl rfl) <| ren ?_
  by_cases cc14:((l:Nat):Int)<((t.nW:Nat):Int)
  ·
   refine xdx rfl (dtt cc14) <| xcv <| xez <| xdj <| fsr <| rt (xaq (v:=.int .i64 (((l:Nat):Int))) rfl) (tm':=zq1 (zq4 (zq8 (zq32 [])))) rfl ?_
   refine ro (xbw (i:=l) Tryd.underlying22 tS3 (xjq a2 t.nW c2 ((T.w.mono le4).ne (by omega))) rfl (by omega)) ?_
   refine rd (fun h_ H_=>xbj H_ tA3 rfl (v:=.int .i64 (t.wv l)) ((T.w.mono le4).get (by omega))) ?_
   refine xkx mn tZ3 rfl fun b15=>xcq (L':=([(b15,.cells #[.int .i64 0] 3 (0,0)),(b2,.cells #[.slice a1 t.nH c1,.slice a2 t.nW c2,.slice a3 t.m c3] 25 (0,0))]:Pcs)++(X7++[])) rfl ?_
   refine xfj (tm':=zq1 (zq8 _)) rfl ?_
   refine xik mn tS3 rfl (v:=.int .i64 (((l:Nat):Int))) rfl (i:=0) rfl rfl rfl (Nat.le_of_ble_eq_true rfl) (cs2:=[.int .i64 (((l:Nat):Int))]) rfl (xcq (L':=([(b15,.cells #[.int .i64 (((l:Nat):Int))] 3 (0,0)),(b2,.cells #[.slice a1 t.nH c1,.slice a2 t.nW c2,.slice a3 t.m c3] 25 (0,0))]:Pcs)++(X7++[])) rfl ?_)
   refine ro (xax (v:=.int .i64 (t.wv l)) rfl) <| ren <| xbq <| ro (xuj (a:=[]) (b:=[.pointer (some ⟨b15,0,none⟩),.pointer (some ⟨b1,0,none⟩)]) rfl rfl) <| rt (xax (v:=.func (.func 99) #[] #[.pointer (some ⟨b15,0,none⟩),.pointer (some ⟨b1,0,none⟩)]) rfl) (tm':=zq1 (zq2 (zq8 _))) rfl <| ren ?_
   refine yiw 0 rfl (L':=([(b2,.cells #[.slice a1 t.nH c1,.slice a2 t.nW c2,.slice a3 t.m c3] 25 (0,0))]:Pcs)++(X7++[])) rfl fun p16 le17 hb18=>?_
   refine xbq <| ro (xaz xhj rfl (a':=⟨b2,2,none⟩) rfl) <| rd (fun h_ H_=>xaj H_ tA23 rfl (i:=0) rfl (v:=.slice a3 t.m c3) rfl) <| rt (xaq (v:=.func (.func 99) #[] #[.pointer (some ⟨b15,0,none⟩),.pointer (some ⟨b1,0,none⟩)]) rfl) (tm':=zq1 (zq4 (zq8 (zq32 [])))) rfl ?_
   refine xeq mn (first:=[]) (cap:=[]) rfl rfl fC100 (fun h_ H_=>c100 md _ _ H_.pe _ _ _ _ _ ((T.y.mono le4).mono le17) (by omega) (shq g l) (fun h_ hp_ i_ hi_=>yiq fC99 (vjv md hp_ (vjk O hi_) (by omega) hb18 (le17 _ _ hb5)))) rfl ?_
   refine xak ?_
   by_cases cc19:0≤idxA (shq g l) t.wy
   ·
    refine xdx rfl (dtt cc19) <| xbq <| ro (xaq (v:=.int .i64 (s2)) rfl) <| rt (xaq (v:=.int .i64 (t.wv l)) rfl) (tm':=zq1 (zq4 (zq8 (zq32 [])))) rfl ?_
    refine ro (xkj rfl rfl (wr (by have z1_:=hwv_ (by omega);omega))) ?_
    refine ro (xax (v:=.int .i64 (s2-(t.wv l))) rfl) <| xak <| xdq <| xbq ?_
    refine rt (xek rfl rfl (n:=((l+1:Nat):Int)) (wr (by omega))) (tm':=zq1 (zq4 (zq8 (zq32 [])))) rfl ?_
    refine ro (xaq (v:=.int .i64 (((l+1:Nat):Int))) rfl) <| xak ?_
    exact fun h_ H_=>IH13 _ _ (by omega) h_ ⟨l+1,s2-(t.wv l),rfl,(y_of rfl),(by omega),(by first | (rw [ytk ‹_›];omega) | (rw [zej ‹_›];omega)),(H_.forget le17)⟩
   ·
    refine xck rfl (dff cc19) <| xcv <| xdq <| xbq ?_
    refine ro (xek rfl rfl (n:=((l+1:Nat):Int)) (wr (by omega))) ?_
    refine rt (xaq (v:=.int .i64 (((l+1:Nat):Int))) rfl) (tm':=zq2 (zq4 (zq8 (zq16 _)))) rfl <| xak ?_
    exact fun h_ H_=>IH13 _ _ (by omega) h_ ⟨l+1,s2,rfl,(y_of rfl),(by omega),(by first | (rw [ytk ‹_›];omega) | (rw [zej ‹_›];omega)),(H_.forget le17)⟩
  ·
   refine xck rfl (dff cc14) <| xhz rfl <| fsr <| ro (xaq (v:=.int .i64 (s2)) rfl) <| ro (xkq rfl rfl) <| rt (xax (v:=.bool (decide (0<s2))) rfl) (tm':=zq1 (zq4 _)) rfl ?_
   refine xak ?_
   refine xdv Tryd.func74 rfl (vs:=[.bool (decide (0<s2))]) (fun h_ H_=>⟨.bool (decide (0<s2)),_,rfl,rfl,rfl⟩) (v:=.bool (decide (0<s2))) rfl ?_
   have e_:l=t.nW:=by omega
   exact fun h_ H_=>K _ _ ⟨congrArg Value.bool (by rw [hs2,e_];rfl),H_.kept⟩
end Go.Proofs.YtalfgojocdonhaaDoor
namespace Go.Proofs.YtalfgojocdonhaaDoor
open Go.X Go.X.Flow Go.Conc
set_option maxRecDepth 10000
set_option synthInstance.maxSize 2000

set_option maxHeartbeats 1000000
theorem c105 (md:Md) (h:Heap) (p:PHeap) (hp:Per p h) (a:Option Addr) (n c:Nat) (xs:List FWay) (A:Wys p a n xs) (hn:n≤100) (x y:Int):CallsX Tryd.prog md 105 #[.slice a n c,.agg #[.int .i64 (x),.int .i64 (y)]] h fun v h'=>v= .int .i64 (idxA (fun z=>decide (z=((x,y):FWay))) xs)∧Keep h h':=by
 refine xcx (Φ:=fun h_=>St h [] p h_ []) Tryd.func105 rfl (tm:=zq1 (zq2 (zq16 []))) rfl ?_ (St.start h _ hp)
 intro c₀ cs Stop K
 refine fsr ?_
 refine xij mn (v:=.agg #[.int .i64 (x),.int .i64 (y)]) rfl fun b1=>xcq (L':=[(b1,.cells #[.int .i64 (x),.int .i64 (y)] 43 (0,0))]) rfl ?_
 refine ro (xax (v:=.int .i64 0) rfl) <| ren <| fsr <| rt (xaq (v:=.slice a n c) rfl) (tm':=zq1 (zq2 (zq4 _))) rfl <| ro (xfz Tryd.underlying23 rfl) <| ro (xaq (v:=.int .i64 0) rfl) ?_
 refine xak <| xdj ?_
 refine xhk (m₀:=n-0) (fun m_ tm_ h_=>∃ (k:Nat),m_=n-k∧(∃ y2:Nat→Value,tm_=[.slice a n c,.agg #[.int .i64 (x),.int .i64 (y)],undef,.pointer (some ⟨b1,0,none⟩),(y2 4),(y2 5),.slice a n c,.int .i64 (((n:Nat):Int)),.int .i64 (((k:Nat):Int)),(y2 9),(y2 10),(y2 11),(y2 12),(y2 13),(y2 14),(y2 15),(y2 16),(y2 17),(y2 18)])∧(k≤n)∧(∀ i,i<k→(fun z=>decide (z=((x,y):FWay))) (xs.getD i wz)=false)∧St h [] p h_ ([(b1,.cells #[.int .i64 (x),.int .i64 (y)] 43 (0,0))])) (fun h_ H_=>⟨0,rfl,(y_of rfl),Nat.zero_le _,(fun i hi=>absurd hi (Nat.not_lt_zero i)),H_⟩) ?_
 intro m_ tm_ IH3
 refine xhq fun k=>xcz fun hm_=>xcz fun ht_=>xcz fun hk=>xcz fun hs=>?_
 subst hm_;obtain ⟨y2,ht_⟩:=ht_;subst ht_
 refine fsr <| rt (xgj rfl rfl) (tm':=zq2 (zq8 _)) rfl <| ren ?_
 by_cases cc4:((k:Nat):Int)<((n:Nat):Int)
 ·
  refine xdx rfl (dtt cc4) <| xcv <| xez <| xdj <| fsr <| ro (xaq (v:=.int .i64 (((k:Nat):Int))) rfl) ?_
  refine ro (xax (v:=.int .i64 (((k:Nat):Int))) rfl) <| ren ?_
  refine xgx 5 [[],[],[],[1,2],[1,2,3],[]] xkk (by kernel_rfl) (Nat.le_of_ble_eq_true rfl) ?_
  refine wd (fun h_ H_=>xav H_ tA43 tS43 rfl (i:=0) rfl (vs:=[.int .i64 (x),.int .i64 (y)]) rfl rfl) <| wt (xaq (v:=.slice a n c) rfl) (tm':=zq1 (zq2 (zq16 []))) rfl <| wo (xaq (v:=.int .i64 (((k:Nat):Int))) rfl) ?_
  refine wt (xbw (i:=k) Tryd.underlying23 tS43 (xjq a n c (A.ne (by omega))) rfl (by omega)) (tm':=zq1 (zq2 (zq16 []))) rfl ?_
  refine wd (fun h_ H_=>xgw H_ tA43 tS43 rfl (vs:=[.int .i64 ((xs.getD k wz).1),.int .i64 ((xs.getD k wz).2)]) rfl (A.all (by omega))) ?_
  refine xiz rfl ?_
  refine ro (yrw gT43 (wxw 9998 _ _ _ _) rfl rfl) <| xak ?_
  by_cases cc5:x=(xs.getD k wz).1∧y=(xs.getD k wz).2
  ·
   refine xdx rfl (dtt cc5) <| fsr <| rt (xaq (v:=.int .i64 (((k:Nat):Int))) rfl) (tm':=zq1 (zq2 (zq16 []))) rfl <| ro (xax (v:=.int .i64 (((k:Nat):Int))) rfl) <| xak ?_
   refine xdv Tryd.func105 rfl (vs:=[.int .i64 (((k:Nat):Int))]) (fun h_ H_=>⟨.int .i64 (((k:Nat):Int)),_,rfl,rfl,rfl⟩) (v:=.int .i64 (((k:Nat):Int))) rfl ?_
   have hl:=A.len
   exact fun h_ H_=>K _ _ ⟨by first | (rw [xwx (z:=wz) (k:=k) (by omega) (decide_eq_true (Prod.ext (‹x=(xs.getD k wz).1∧y=(xs.getD k wz).2›).1.symm (‹x=(xs.getD k wz).1∧y=(xs.getD k wz).2›).2.symm)) hs]) | (rw [xwz (z:=wz) (fun i hi=>hs i (by omega))]),H_.kept⟩
  ·
   refine xck rfl (dff cc5) <| xcv <| xdq <| xbq ?_
   refine ro (xek rfl rfl (n:=((k+1:Nat):Int)) (wr (by omega))) ?_
   refine rt (xaq (v:=.int .i64 (((k+1:Nat):Int))) rfl) (tm':=zq1 (zq8 _)) rfl <| xak ?_
   exact fun h_ H_=>IH3 _ _ (by omega) h_ ⟨k+1,rfl,(y_of rfl),(by omega),(xrw (q:=fun i=>(fun z=>decide (z=((x,y):FWay))) (xs.getD i wz)=false) hs (decide_eq_false fun e_=>absurd (show x=(xs.getD k wz).1∧y=(xs.getD k wz).2 from ⟨by rw [e_],by rw [e_]⟩) ‹_›)),H_⟩
 ·
  refine xck rfl (dff cc4) <| xhz rfl <| fsr <| ro (xax (v:=.int .i64 (-1)) rfl) <| xak ?_
  refine xdv Tryd.func105 rfl (vs:=[.int .i64 (-1)]) (fun h_ H_=>⟨.int .i64 (-1),_,rfl,rfl,rfl⟩) (v:=.int .i64 (-1)) rfl ?_
  have hl:=A.len
  exact fun h_ H_=>K _ _ ⟨by first | (rw [xwx (z:=wz) (k:=k) (by omega) (decide_eq_true (Prod.ext (‹x=(xs.getD k wz).1∧y=(xs.getD k wz).2›).1.symm (‹x=(xs.getD k wz).1∧y=(xs.getD k wz).2›).2.symm)) hs]) | (rw [xwz (z:=wz) (fun i hi=>hs i (by omega))]),H_.kept⟩
theorem c95 (md:Md) (h:Heap) (p:PHeap) (hp:Per p h) (a:Option Addr) (n c:Nat) (xs:List FWay) (A:Wys p a n xs) (hn:n≤100) (x y:Int):CallsX Tryd.prog md 95 #[.slice a n c,.agg #[.int .i64 (x),.int .i64 (y)]] h fun v h'=>v= .bool (decide (((x,y):FWay)∈xs))∧Keep h h':=by
 refine xcx (Φ:=fun h_=>St h [] p h_ []) Tryd.func95 rfl (tm:=zq1 (zq8 [])) rfl ?_ (St.start h _ hp)
 intro c₀ cs Stop K
 refine fsr ?_
 refine xij mn (v:=.agg #[.int .i64 (x),.int .i64 (y)]) rfl fun b1=>xcq (L':=[(b1,.cells #[.int .i64 (x),.int .i64 (y)] 43 (0,0))]) rfl ?_
 refine rt (xax (v:=.bool (false)) rfl) (tm':=zq1 (zq4 _)) rfl <| ren <| xbq <| ro (xaq (v:=.slice a n c) rfl) <| rd (fun h_ H_=>xav H_ tA43 tS43 rfl (i:=0) rfl (vs:=[.int .i64 (x),.int .i64 (y)]) rfl rfl) ?_
 refine xeq mn (first:=[]) (cap:=[]) rfl rfl fC105 (fun h_ H_=>c105 md _ _ H_.pe _ _ _ _ A hn x y) (tm':=zq1 (zq8 [])) rfl ?_
 refine ro (xwk rfl rfl) <| ro (xax (v:=.bool (decide (0≤idxA (fun z=>decide (z=((x,y):FWay))) xs))) rfl) <| xak ?_
 refine xdv Tryd.func95 rfl (vs:=[.bool (decide (0≤idxA (fun z=>decide (z=((x,y):FWay))) xs))]) (fun h_ H_=>⟨.bool (decide (0≤idxA (fun z=>decide (z=((x,y):FWay))) xs)),_,rfl,rfl,rfl⟩) (v:=.bool (decide (0≤idxA (fun z=>decide (z=((x,y):FWay))) xs))) rfl ?_
 exact fun h_ H_=>K _ _ ⟨congrArg Value.bool (decide_eq_decide.2 vaw),H_.kept⟩
theorem c94 (md:Md) (h:Heap) (p:PHeap) (hp:Per p h) (a1 a2 a3:Option Addr) (c1 c2 c3:Nat) (t:Tn) (T:TownP p a1 t.nH a2 t.nW a3 t.m t) (O:OkT t) (q1 q2 q3:Option Addr) (d1 d2 d3:Nat) (u:Tn) (U:TownP p q1 u.nH q2 u.nW q3 u.m u) (O2:OkT u) (N:NoneP p):CallsX Tryd.prog md 94 #[.agg #[.slice a1 t.nH c1,.slice a2 t.nW c2,.slice a3 t.m c3],.agg #[.slice q1 u.nH d1,.slice q2 u.nW d2,.slice q3 u.m d3]] h fun v h'=>v= .bool (decide (cmpL (LK t) (LK u)<0))∧Keep h h':=by
 refine xcx (Φ:=fun h_=>St h [] p h_ []) Tryd.func94 rfl (tm:=zq1 (zq2 (zq8 []))) rfl ?_ (St.start h _ hp)
 intro c₀ cs Stop K
 have oH:t.nH≤100:=by have:=O.nh;omega
 have oU:u.nH≤100:=by have:=O2.nh;omega
 refine fsr ?_
 refine xij mn (v:=.agg #[.slice a1 t.nH c1,.slice a2 t.nW c2,.slice a3 t.m c3]) rfl fun b1=>xcq (L':=[(b1,.cells #[.slice a1 t.nH c1,.slice a2 t.nW c2,.slice a3 t.m c3] 25 (0,0))]) rfl ?_
 refine xfj (tm':=_::_::_::_) rfl ?_
 refine xij mn (v:=.agg #[.slice q1 u.nH d1,.slice q2 u.nW d2,.slice q3 u.m d3]) rfl fun b2=>xcq (L':=[(b2,.cells #[.slice q1 u.nH d1,.slice q2 u.nW d2,.slice q3 u.m d3] 25 (0,0)),(b1,.cells #[.slice a1 t.nH c1,.slice a2 t.nW c2,.slice a3 t.m c3] 25 (0,0))]) rfl ?_
 refine ro (xax (v:=.bool (false)) rfl) <| ren ?_
 obtain ⟨Gw8,GX9,hG1_⟩:=sk2 (fun (v_:Value) (x_:Pcs) (w8:Value) (X9:Pcs)=>v_=w8∧(OwnS 3 1 w8 (ics (LK t)) X9)∧x_=(X9++[]))
 refine xxv (xlx (C:=[]) (A:=([(b2,.cells #[.slice q1 u.nH d1,.slice q2 u.nW d2,.slice q3 u.m d3] 25 (0,0)),(b1,.cells #[.slice a1 t.nH c1,.slice a2 t.nW c2,.slice a3 t.m c3] 25 (0,0))]:Pcs)) 3 [[],[0],[],[0,2],[0,1,2,3],[],[]] [] [1] [0,2] (fun _=>[]) (fun _=>[]) (fun i_=>match i_ with | 0=>[] | 1=>[0] | 2=>[] | _=>[]) (fun i_ val_ pc_ v_ x_=>match i_ with | 0=>v_= .agg #[.slice a1 t.nH c1,.slice a2 t.nW c2,.slice a3 t.m c3]∧x_=[] | 1=>∃ w8:Value,∃ X9:Pcs,v_=w8∧(OwnS 3 1 w8 (ics (LK t)) X9)∧x_=(X9++[]) | 2=>v_= .agg #[.slice q1 u.nH d1,.slice q2 u.nW d2,.slice q3 u.m d3]∧x_=[] | _=>True) (fun val6=>[.agg #[.slice a1 t.nH c1,.slice a2 t.nW c2,.slice a3 t.m c3],.agg #[.slice q1 u.nH d1,.slice q2 u.nW d2,.slice q3 u.m d3],.pointer (some ⟨b1,0,none⟩),.pointer (some ⟨b2,0,none⟩),.bool (false),(val6 0),(val6 1),(val6 2),undef,undef,undef]) xkk (by kernel_rfl) (Nat.le_of_ble_eq_true rfl) (by kernel_rfl) (by kernel_rfl) (by kernel_rfl) (fun _ _=>⟨fun _ _ h=>h.2,⟨fun _ _ h=>h.2,trivial⟩⟩) (fun _=>by kernel_rfl) (by kernel_rfl) ?_ ?_) (fun h_ H_=>St.swap (A:=([(b2,.cells #[.slice q1 u.nH d1,.slice q2 u.nW d2,.slice q3 u.m d3] 25 (0,0)),(b1,.cells #[.slice a1 t.nH c1,.slice a2 t.nW c2,.slice a3 t.m c3] 25 (0,0))]:Pcs)) (U:=[]) H_)
 ·
  refine xaw rfl (xdk ?_) ?_
  ·
   intro val6 pc7 hQ_ hX_
   obtain ⟨q_,hq0_⟩: ∃ q_:Value→Pcs→Prop,q_=(fun v_ x_=>v_= .agg #[.slice a1 t.nH c1,.slice a2 t.nW c2,.slice a3 t.m c3]∧x_=[]):=⟨_,rfl⟩
   refine ⟨(zq1 (zq2 (zq8 []))),[],q_,rfl,rfl,(fun _ _ z_=>by subst hq0_;exact z_),?_⟩
   subst hq0_
   exact xdw mn (fun _ h_ H_=>xav H_ tA25 tS25 rfl (i:=1) rfl (vs:=[.slice a1 t.nH c1,.slice a2 t.nW c2,.slice a3 t.m c3]) rfl rfl) ⟨rfl,rfl⟩
  refine xaw rfl (xdk ?_) ?_
  ·
   intro val6 pc7 hQ_ hX_
   have e0_:val6 0= .agg #[.slice a1 t.nH c1,.slice a2 t.nW c2,.slice a3 t.m c3]:=(hQ_ 0 rfl).1
   obtain ⟨q_,hq0_⟩: ∃ q_:Value→Pcs→Prop,q_=(fun v_ x_=>∃ w8:Value,∃ X9:Pcs,v_=w8∧(OwnS 3 1 w8 (ics (LK t)) X9)∧x_=(X9++[])):=⟨_,rfl⟩
   refine ⟨(zq1 (zq2 (zq8 []))),[],q_,(by rw [e0_]),rfl,(fun _ _ z_=>by subst hq0_;exact z_),?_⟩
   subst hq0_
   exact xok mn (first:=[]) (cap:=[]) rfl rfl fC81 (fun _ h_ H_=>(c81 md _ _ H_.pe _ _ _ _ _ _ t (show TownP _ _ _ _ _ _ _ t from ⟨T.h,T.w,T.y⟩) O N).mono fun v_ h2_ ⟨w8,X9,e_,o10,N_⟩=>⟨_,⟨w8,X9,e_,o10,rfl⟩,H_.callN (show New _ _ (X9++[]) by rw [List.append_nil];exact N_)⟩)
  refine xaw rfl (xdk ?_) ?_
  ·
   intro val6 pc7 hQ_ hX_
   obtain ⟨q_,hq0_⟩: ∃ q_:Value→Pcs→Prop,q_=(fun v_ x_=>v_= .agg #[.slice q1 u.nH d1,.slice q2 u.nW d2,.slice q3 u.m d3]∧x_=[]):=⟨_,rfl⟩
   refine ⟨(zq1 (zq2 (zq8 []))),[],q_,rfl,rfl,(fun _ _ z_=>by subst hq0_;exact z_),?_⟩
   subst hq0_
   exact xdw mn (fun _ h_ H_=>xav H_ tA25 tS25 rfl (i:=0) rfl (vs:=[.slice q1 u.nH d1,.slice q2 u.nW d2,.slice q3 u.m d3]) rfl rfl) ⟨rfl,rfl⟩
  exact xlq rfl
 intro val6 pc7 hQ_ hX_
 have e0_:val6 0= .agg #[.slice a1 t.nH c1,.slice a2 t.nW c2,.slice a3 t.m c3]:=(hQ_ 0 (by decide)).1
 obtain ⟨e1_,o10,x1_⟩:=hG1_ _ _ (hQ_ 1 (by decide))
 have e2_:val6 2= .agg #[.slice q1 u.nH d1,.slice q2 u.nW d2,.slice q3 u.m d3]:=(hQ_ 2 (by decide)).1
 clear hQ_ hX_
 generalize Gw8 (val6 1) (pc7 1)=w8 at*
 generalize GX9 (val6 1) (pc7 1)=X9 at*
 refine xww (Φ:=fun h_=>St h [] p h_ (([(b2,.cells #[.slice q1 u.nH d1,.slice q2 u.nW d2,.slice q3 u.m d3] 25 (0,0)),(b1,.cells #[.slice a1 t.nH c1,.slice a2 t.nW c2,.slice a3 t.m c3] 25 (0,0))]:Pcs)++(pc7 1++[]))) ?_ (fun h_ H_=>H_.swap')
 rw [x1_]
 refine xcq (L':=([(b2,.cells #[.slice q1 u.nH d1,.slice q2 u.nW d2,.slice q3 u.m d3] 25 (0,0)),(b1,.cells #[.slice a1 t.nH c1,.slice a2 t.nW c2,.slice a3 t.m c3] 25 (0,0))]:Pcs)++(X9++[])) (by simp) ?_
 refine xfj (tm':=(zq1 (zq2 (zq8 [])))) (by rw [e0_,e1_,e2_]) ?_
 refine xiw mn (first:=[]) (cap:=[]) rfl rfl fC81 (R:=fun v_ h_=>∃ w13:Value,∃ X14:Pcs,v_=w13∧(OwnS 3 1 w13 (ics (LK u)) X14)∧St h [] p h_ (([(b2,.cells #[.slice q1 u.nH d1,.slice q2 u.nW d2,.slice q3 u.m d3] 25 (0,0)),(b1,.cells #[.slice a1 t.nH c1,.slice a2 t.nW c2,.slice a3 t.m c3] 25 (0,0))]:Pcs)++(X14++(X9++[])))) (fun h_ H_=>(c81 md _ _ H_.pe _ _ _ _ _ _ u (show TownP _ _ _ _ _ _ _ u from ⟨U.h,U.w,U.y⟩) O2 N).mono fun v_ h2_ ⟨w13,X14,e_,o15,N_⟩=>⟨w13,X14,e_,o15,H_.callNA N_⟩) fun v_=>?_
 refine xgz fun w13=>xgz fun X14=>xfq fun ev_=>xfq fun o15=>?_
 have ev_:=ev_.symm;subst ev_
 refine xcq (L':=([(b2,.cells #[.slice q1 u.nH d1,.slice q2 u.nW d2,.slice q3 u.m d3] 25 (0,0)),(b1,.cells #[.slice a1 t.nH c1,.slice a2 t.nW c2,.slice a3 t.m c3] 25 (0,0))]:Pcs)++(X14++(X9++[]))) rfl ?_
 refine xeq mn (first:=[]) (cap:=[]) rfl rfl fC76 (fun h_ H_=>show CallsX Tryd.prog md 76 #[w8,w13] h_ (fun v_ h2_=>v_= .int .i64 (cmpL (LK t) (LK u))∧Keep h_ h2_) from zyq (n:=t.nH) (n':=u.nH) o10 ((xcw _).trans (xxk _)) o15 ((xcw _).trans (xxk _)) H_ (fun x_ h_=>by simp at h_ ⊢;rcases h_ with h_ | h_ <;> simp [h_]) fun p_ a_ c_ a2_ c2_ hp_ _ hv_ hv2_ D_ D2_=>by rw [hv_,hv2_];exact c76 md _ _ hp_ _ _ _ _ _ _ (LK t) (LK u) (show Ints _ _ _ (LK t) from D_) (show Ints _ _ _ (LK u) from D2_) ⟨oH,oU⟩) rfl ?_
 refine rt (xgj rfl rfl) (tm':=zq1 (zq2 (zq8 []))) rfl <| ro (xax (v:=.bool (decide (cmpL (LK t) (LK u)<0))) rfl) <| xak ?_
 refine xdv Tryd.func94 rfl (vs:=[.bool (decide (cmpL (LK t) (LK u)<0))]) (fun h_ H_=>⟨.bool (decide (cmpL (LK t) (LK u)<0)),_,rfl,rfl,rfl⟩) (v:=.bool (decide (cmpL (LK t) (LK u)<0))) rfl ?_
 exact fun h_ H_=>K _ _ ⟨rfl,H_.kept⟩
theorem c25 (md:Md) (h:Heap) (p:PHeap) (hp:Per p h) (a1 a2 a3:Option Addr) (c1 c2 c3:Nat) (t:Tn) (T:TownP p a1 t.nH a2 t.nW a3 t.m t) (hn:t.nH≤40∧t.nW≤40∧t.m≤41) (Z:TabP p):CallsX Tryd.prog md 25 #[.agg #[.slice a1 t.nH c1,.slice a2 t.nW c2,.slice a3 t.m c3]] h fun v h'=>∃ w X,v= .tuple #[w,.int .i64 (shortE t)]∧OwnS 3 1 w (ics (shortC t)) X∧New h h' X:=by
 refine xcx (Φ:=fun h_=>St h [] p h_ []) Tryd.func25 rfl (tm:=zq1 (zq2 (zq4 (zq8 (zq32 []))))) rfl ?_ (St.start h _ hp)
 intro c₀ cs Stop K
 refine fsr ?_
 refine xij mn (v:=.agg #[.slice a1 t.nH c1,.slice a2 t.nW c2,.slice a3 t.m c3]) rfl fun b1=>xcq (L':=[(b1,.cells #[.slice a1 t.nH c1,.slice a2 t.nW c2,.slice a3 t.m c3] 25 (0,0))]) rfl ?_
 refine rt (xax (v:=.slice none 0 0) rfl) (tm':=_::_::_::_) rfl <| ro (xax (v:=.int .i64 0) rfl) <| ren <| fsr <| rd (fun h_ H_=>xav H_ tA25 tS25 rfl (i:=0) rfl (vs:=[.slice a1 t.nH c1,.slice a2 t.nW c2,.slice a3 t.m c3]) rfl rfl) ?_
 refine xeq mn (first:=[]) (cap:=[]) rfl rfl fC47 (fun h_ H_=>c47 md _ _ H_.pe _ _ _ _ _ _ _ _ _ t (show TownP _ _ _ _ _ _ _ t from ⟨T.h,T.w,T.y⟩) (by omega)) (tm':=zq2 (zq8 _)) rfl ?_
 refine ro (xax (v:=.int .i64 (chkB t)) rfl) <| ren <| xbq <| ro (xaq (v:=.int .i64 (chkB t)) rfl) <| rt (xmk rfl rfl) (tm':=zq4 (zq8 _)) rfl <| xak ?_
 by_cases cc2:chkB t≠0
 ·
  refine xdx rfl (dtt cc2) <| fsr <| ro (xaq (v:=.int .i64 (chkB t)) rfl) <| ro (xax (v:=.slice none 0 0) rfl) <| rt (xax (v:=.int .i64 (chkB t)) rfl) (tm':=zq4 _) rfl <| xak ?_
  refine xdv Tryd.func25 rfl (vs:=[.slice none 0 0,.int .i64 (chkB t)]) (fun h_ H_=>⟨.slice none 0 0,_,rfl,rfl,⟨.int .i64 (chkB t),_,rfl,rfl,rfl⟩⟩) (v:=.tuple #[.slice none 0 0,.int .i64 (chkB t)]) rfl ?_
  exact fun h_ H_=>K _ _ ⟨_,[],by rw [zdz ‹_›],(OwnS.empty _ _).as (by rw [zdj ‹_›];rfl),(H_.sub (List.nil_sublist _)).new⟩
 ·
  refine xck rfl (dff cc2) <| xcv <| xez ?_
  have hc_:chkB t=0:=by omega
  have hO:OkT t:=xuz hc_
  have hp64_:=ylq hO.toOk
  refine xbq <| ro (xax (v:=.slice none 0 0) rfl) <| ren <| fsr <| ro (xaz xnx rfl (a':=⟨b1,0,none⟩) rfl) ?_
  refine xbx mn (fun h_ H_=>xaj H_ tA22 rfl (i:=0) rfl (v:=.slice a1 t.nH c1) rfl) (tm':=zq1 (zq2 (zq4 (zq8 _)))) rfl ?_
  refine ro (xfz Tryd.underlying22 rfl) ?_
  refine ro (wsj (s:=t.nH) rfl rfl (by omega)) ?_
  refine rt (xaq (v:=.int .u64 0) rfl) (tm':=zq2 (zq16 _)) rfl <| xak <| xdj ?_
  refine xhk (m₀:=2 ^ t.nH-0) (fun m_ tm_ h_=>∃ (k:Nat) (bl:List Int) (w:Value) (X1:Pcs),m_=2 ^ t.nH-k∧(∃ y3:Nat→Value,tm_=[.agg #[.slice a1 t.nH c1,.slice a2 t.nW c2,.slice a3 t.m c3],.pointer (some ⟨b1,0,none⟩),.slice none 0 0,.int .i64 0,.int .i64 (chkB t),w,(y3 6),(y3 7),.agg #[.slice a1 t.nH c1,.slice a2 t.nW c2,.slice a3 t.m c3],.int .i64 (chkB t),.int .i64 (chkB t),.bool (decide (chkB t≠0)),undef,.pointer (some ⟨b1,0,none⟩),.slice a1 t.nH c1,.int .i64 (((t.nH:Nat):Int)),.int .u64 (((2 ^ t.nH:Nat):Int)),.int .u64 (((k:Nat):Int)),(y3 18),(y3 19),(y3 20),(y3 21),(y3 22),(y3 23),(y3 24),(y3 25),(y3 26),(y3 27),(y3 28),(y3 29),(y3 30),(y3 31),(y3 32),(y3 33),(y3 34),(y3 35),(y3 36),(y3 37),(y3 38),(y3 39),(y3 40),(y3 41),(y3 42),(y3 43),undef,undef,undef])∧(k≤2 ^ t.nH)∧(bl=shortF t k)∧(bl=[]→w= .slice none 0 0)∧(OwnS 3 1 w (ics bl) X1)∧St h [] p h_ (([(b1,.cells #[.slice a1 t.nH c1,.slice a2 t.nW c2,.slice a3 t.m c3] 25 (0,0))]:Pcs)++(X1++[]))) (fun h_ H_=>⟨0,[],(.slice none 0 0),[],rfl,(y_of rfl),Nat.zero_le _,rfl,(fun _=>rfl),(OwnS.empty _ _),H_⟩) ?_
  intro m_ tm_ IH4
  refine xhq fun k=>xhq fun bl=>xhq fun w=>xhq fun X1=>xcz fun hm_=>xcz fun ht_=>xcz fun hk=>xcz fun hb=>xcz fun hw0=>xcz fun o1=>?_
  subst hm_;obtain ⟨y3,ht_⟩:=ht_;subst ht_
  have hbl_:bl.length≤6:=by rw [hb];exact yiv t k (by omega)
  have hgl_:=fun z_:k<64=>zuk k z_
  have hgl2_:(LG k).length≤6∨64≤k:=by by_cases z_:k<64;exact .inl (hgl_ z_);exact .inr (by omega)
  refine fsr <| ro (xgj rfl rfl) <| ren ?_
  by_cases cc5:((k:Nat):Int)<((2 ^ t.nH:Nat):Int)
  ·
   refine xdx rfl (dtt cc5) <| xcv <| xez <| xdj <| fsr <| ro (xaq (v:=.int .u64 (((k:Nat):Int))) rfl) ?_
   refine rt (xax (v:=.int .u64 (((k:Nat):Int))) rfl) (tm':=zq1 (zq2 (zq4 _))) rfl <| ren <| xbq <| ro (xaq (v:=.int .u64 (((k:Nat):Int))) rfl) ?_
   refine xiw mn (first:=[]) (cap:=[]) rfl rfl fC73 (R:=fun v_ h_=>∃ w6:Value,∃ X7:Pcs,v_=w6∧(OwnS 3 1 w6 (ics (LG k)) X7)∧St h [] p h_ (([(b1,.cells #[.slice a1 t.nH c1,.slice a2 t.nW c2,.slice a3 t.m c3] 25 (0,0))]:Pcs)++(X7++(X1++[])))) (fun h_ H_=>(c73 md _ _ H_.pe k (by omega) Z).mono fun v_ h2_ ⟨w6,X7,e_,o8,N_⟩=>⟨w6,X7,e_,o8,H_.callNA N_⟩) fun v_=>?_
   refine xgz fun w6=>xgz fun X7=>xfq fun ev_=>xfq fun o8=>?_
   have ev_:=ev_.symm;subst ev_
   refine xcq (L':=([(b1,.cells #[.slice a1 t.nH c1,.slice a2 t.nW c2,.slice a3 t.m c3] 25 (0,0))]:Pcs)++(X7++(X1++[]))) rfl ?_
   refine rt (xax (v:=w6) rfl) (tm':=zq8 _) rfl <| ren <| xbq <| ro (xaq (v:=.int .u64 (((k:Nat):Int))) rfl) <| rd (fun h_ H_=>xav H_ tA25 tS25 rfl (i:=0) rfl (vs:=[.slice a1 t.nH c1,.slice a2 t.nW c2,.slice a3 t.m c3]) rfl rfl) ?_
   refine xeq mn (first:=[]) (cap:=[]) rfl rfl fC74 (fun h_ H_=>c74 md _ _ H_.pe _ _ _ _ _ _ t (show TownP _ _ _ _ _ _ _ t from ⟨T.h,T.w,T.y⟩) hO k (by omega) Z) (tm':=zq1 (zq8 (zq16 _))) rfl ?_
   refine ro (xaq (v:=.bool (decide (0<shortN t k))) rfl) ?_
   by_cases cc9:0<shortN t k
   ·
    refine xbx (ms rfl rfl (dtt cc9)) (fun h_ H_=>xaq (v:=w) rfl) rfl ?_
    refine xbx (ms rfl rfl (dtt cc9)) (fun h_ H_=>yvz (C:=bl=[]) o1 hw0 (fun z_ y_=>z_ (whj y_)) Tryd.underlying22 rfl) (tm':=zq4 (zq8 (zq16 _))) rfl ?_
    refine xbx (ms rfl rfl (dtt cc9)) (fun h_ H_=>xaq (v:=.bool (decide (bl=[]))) rfl) rfl ?_
    by_cases cc10:bl=[]
    ·
     refine rp (mo rfl rfl (dtt cc10)) <| xfx (mo rfl rfl (dtt cc10)) (tm':=zq1 (zq2 (zq4 (zq8 (zq16 _))))) rfl <| rp (mo rfl rfl (dtt cc10)) <| rp (mo rfl rfl (dtt cc10)) <| xfx (mo rfl rfl (dtt cc10)) (tm':=zq1 (zq2 (zq4 (zq8 (zq32 []))))) rfl <| rp (mo rfl rfl (dtt cc10)) ?_
     refine rp (mo rfl rfl (dtt cc10)) <| xfx (mo rfl rfl (dtt cc10)) (tm':=zq1 (zq2 (zq4 (zq8 (zq32 []))))) rfl <| rp (mo rfl rfl (dtt cc10)) <| rp (mo rfl rfl (dtt cc10)) <| xfx (mo rfl rfl (dtt cc10)) (tm':=zq1 (zq2 (zq4 (zq8 (zq32 []))))) rfl ?_
     refine xbx (ms rfl rfl (dtt cc9)) (fun h_ H_=>xdz rfl (dtt cc10) (v:=.bool (true)) rfl) rfl ?_
     refine ro (xdz rfl (dtt cc9) (v:=.bool (true)) rfl) <| xak <| xdx rfl rfl <| xbq <| rt (xaq (v:=w6) rfl) (tm':=zq1 (zq2 (zq4 (zq8 (zq32 []))))) rfl <| ro (xax (v:=w6) rfl) ?_
     refine xak <| xdq <| xbq ?_
     refine ro (xek rfl rfl (n:=((k+1:Nat):Int)) (wrU (by omega))) ?_
     refine rt (xaq (v:=.int .u64 (((k+1:Nat):Int))) rfl) (tm':=zq2 (zq16 _)) rfl <| xak ?_
     refine xgv (List.Perm.append_left _ (List.perm_append_comm_assoc _ _ _)) ?_
     refine xlk (L':=([(b1,.cells #[.slice a1 t.nH c1,.slice a2 t.nW c2,.slice a3 t.m c3] 25 (0,0))]:Pcs)++(X1++(X7++[]))) rfl ?_
     exact fun h_ H_=>IH4 _ _ (by omega) h_ ⟨k+1,(LG k),w6,X7,rfl,(y_of rfl),(by omega),(by rw [ybk ‹_› (by rw [← hb];first | exact .inl (by assumption) | exact .inr (by assumption))]),(fun z_=>absurd z_ (yaw hO.toOk ‹_›)),o8,H_.dropX⟩
    ·
     refine xbx (ms rfl rfl (dff cc10)) (fun h_ H_=>xaq (v:=w6) rfl) rfl ?_
     refine xbx (ms rfl rfl (dff cc10)) (fun h_ H_=>xzv o8 ((xcw _).trans rfl) Tryd.underlying22 rfl) rfl ?_
     refine xbx (ms rfl rfl (dff cc10)) (fun h_ H_=>xaq (v:=w) rfl) (tm':=zq1 (zq2 (zq4 (zq8 (zq32 []))))) rfl ?_
     refine xbx (ms rfl rfl (dff cc10)) (fun h_ H_=>xzv o1 ((xcw _).trans rfl) Tryd.underlying22 rfl) rfl ?_
     refine xbx (ms rfl rfl (dff cc10)) (fun h_ H_=>xkj rfl rfl (wr (by omega))) rfl ?_
     refine xbx (ms rfl rfl (dff cc10)) (fun h_ H_=>xaq (v:=w6) rfl) (tm':=zq1 (zq2 (zq4 (zq8 (zq32 []))))) rfl ?_
     refine xbx (ms rfl rfl (dff cc10)) (fun h_ H_=>xaq (v:=w) rfl) rfl ?_
     refine xeq (ms rfl rfl (dff cc10)) (first:=[]) (cap:=[]) rfl rfl fC76 (fun h_ H_=>show CallsX Tryd.prog md 76 #[w6,w] h_ (fun v_ h2_=>v_= .int .i64 (cmpL (LG k) bl)∧Keep h_ h2_) from zyq (n:=(LG k).length) (n':=bl.length) o8 ((xcw _).trans rfl) o1 ((xcw _).trans rfl) H_ (fun x_ h_=>by simp at h_ ⊢;rcases h_ with h_ | h_ <;> simp [h_]) fun p_ a_ c_ a2_ c2_ hp_ _ hv_ hv2_ D_ D2_=>by rw [hv_,hv2_];exact c76 md _ _ hp_ _ _ _ _ _ _ (LG k) bl (show Ints _ _ _ (LG k) from D_) (show Ints _ _ _ bl from D2_) (by omega)) rfl ?_
     refine xjz ([(b1,.cells #[.slice a1 t.nH c1,.slice a2 t.nW c2,.slice a3 t.m c3] 25 (0,0))]:Pcs) (ms rfl rfl (dff cc10)) Tryd.underlying22 tS3 tZ3 (Nat.le_of_ble_eq_true rfl) (vs:=[(0,.int .i64 ((((LG k).length:Nat):Int)-((bl.length:Nat):Int))),(1,.int .i64 (cmpL (LG k) bl))]) rfl rfl (es:=[[.int .i64 ((((LG k).length:Nat):Int)-((bl.length:Nat):Int))],[.int .i64 (cmpL (LG k) bl)]]) rfl rfl rfl fun v11 X12 o13=>?_
     refine xfj (tm':=zq1 (zq2 (zq4 (zq8 (zq32 []))))) rfl ?_
     refine xeq (ms rfl rfl (dff cc10)) (first:=[]) (cap:=[]) rfl rfl fC75 (fun h_ H_=>yzq (n:=2) o13 rfl H_ (fun x_ h_=>by simp [h_]) fun p_ a_ c_ hp_ _ hv_ D_=>by rw [hv_];exact c75 md _ _ hp_ _ _ _ ([(((LG k).length:Nat):Int)-((bl.length:Nat):Int),cmpL (LG k) bl]) (show Ints _ _ _ [(((LG k).length:Nat):Int)-((bl.length:Nat):Int),cmpL (LG k) bl] from D_) (by omega)) rfl ?_
     refine xbx (ms rfl rfl (dff cc10)) (fun h_ H_=>xgj rfl rfl) rfl ?_
     refine xbx (ms rfl rfl (dtt cc9)) (fun h_ H_=>xej rfl (dff cc10) (v:=.bool (decide (orI ([(((LG k).length:Nat):Int)-((bl.length:Nat):Int),cmpL (LG k) bl])<0))) rfl) (tm':=zq1 (zq2 (zq4 (zq8 (zq32 []))))) rfl ?_
     refine ro (xdz rfl (dtt cc9) (v:=.bool (decide (orI ([(((LG k).length:Nat):Int)-((bl.length:Nat):Int),cmpL (LG k) bl])<0))) rfl) <| xak ?_
     by_cases cc14:orI ([(((LG k).length:Nat):Int)-((bl.length:Nat):Int),cmpL (LG k) bl])<0
     ·
      refine xdx rfl (dtt cc14) <| xbq <| ro (xaq (v:=w6) rfl) <| rt (xax (v:=w6) rfl) (tm':=zq2 (zq4 _)) rfl <| xak <| xdq ?_
      refine xbq ?_
      refine ro (xek rfl rfl (n:=((k+1:Nat):Int)) (wrU (by omega))) ?_
      refine ro (xaq (v:=.int .u64 (((k+1:Nat):Int))) rfl) <| xak ?_
      refine xgv (List.Perm.append_left _ (List.Perm.append_left _ (List.perm_append_comm_assoc _ _ _))) ?_
      refine xlk (L':=([(b1,.cells #[.slice a1 t.nH c1,.slice a2 t.nW c2,.slice a3 t.m c3] 25 (0,0))]:Pcs)++(X12++(X1++(X7++[])))) rfl ?_
      exact fun h_ H_=>IH4 _ _ (by omega) h_ ⟨k+1,(LG k),w6,X7,rfl,(y_of rfl),(by omega),(by rw [ybk ‹_› (by rw [← hb];first | exact .inl (by assumption) | exact .inr (by assumption))]),(fun z_=>absurd z_ (yaw hO.toOk ‹_›)),o8,H_.dropX.dropX⟩
     ·
      refine xck rfl (dff cc14) <| xcv <| xdq <| xbq ?_
      refine rt (xek rfl rfl (n:=((k+1:Nat):Int)) (wrU (by omega))) (tm':=zq1 (zq2 (zq4 (zq8 (zq32 []))))) rfl ?_
      refine ro (xaq (v:=.int .u64 (((k+1:Nat):Int))) rfl) <| xak ?_
      exact fun h_ H_=>IH4 _ _ (by omega) h_ ⟨k+1,bl,w,X1,rfl,(y_of rfl),(by omega),(by first | (rw [ybv ‹_›];exact hb) | (rw [yik (by rw [← hb];assumption) (by rw [← hb];assumption)];exact hb)),hw0,o1,H_.dropX.dropX⟩
   ·
    refine rp (mo rfl rfl (dff cc9)) <| xfx (mo rfl rfl (dff cc9)) (tm':=zq4 (zq8 (zq16 _))) rfl <| rp (mo rfl rfl (dff cc9)) <| rp (xew rfl rfl) <| xfx (xew rfl rfl) (tm':=zq1 (zq2 (zq4 (zq8 (zq16 _))))) rfl <| rp (xew rfl rfl) ?_
    refine rp (xew rfl rfl) <| xfx (xew rfl rfl) (tm':=zq1 (zq2 (zq4 (zq8 (zq32 []))))) rfl <| rp (xew rfl rfl) <| rp (xew rfl rfl) <| xfx (xew rfl rfl) (tm':=zq1 (zq2 (zq4 (zq8 (zq32 []))))) rfl <| rp (xew rfl rfl) ?_
    refine rp (xew rfl rfl) <| xfx (xew rfl rfl) (tm':=zq1 (zq2 (zq4 (zq8 (zq32 []))))) rfl <| rp (mo rfl rfl (dff cc9)) <| ro (xej rfl (dff cc9) (v:=.bool (false)) rfl) <| xak <| xck rfl rfl ?_
    refine xcv <| xdq <| xbq ?_
    refine rt (xek rfl rfl (n:=((k+1:Nat):Int)) (wrU (by omega))) (tm':=zq1 (zq2 (zq4 (zq8 (zq32 []))))) rfl ?_
    refine ro (xaq (v:=.int .u64 (((k+1:Nat):Int))) rfl) <| xak ?_
    exact fun h_ H_=>IH4 _ _ (by omega) h_ ⟨k+1,bl,w,X1,rfl,(y_of rfl),(by omega),(by first | (rw [ybv ‹_›];exact hb) | (rw [yik (by rw [← hb];assumption) (by rw [← hb];assumption)];exact hb)),hw0,o1,H_.dropX⟩
  ·
   refine xck rfl (dff cc5) <| xhz rfl <| xez <| fsr <| ro (xaq (v:=w) rfl) <| rt (yvz (C:=bl=[]) o1 hw0 (fun z_ y_=>z_ (whj y_)) Tryd.underlying22 rfl) (tm':=zq1 (zq2 (zq4 (zq8 (zq32 []))))) rfl ?_
   refine xak ?_
   by_cases cc15:bl=[]
   ·
    refine xdx rfl (dtt cc15) <| fsr <| ro (xax (v:=.slice none 0 0) rfl) <| ro (xax (v:=.int .i64 3) rfl) <| xak ?_
    refine xdv Tryd.func25 rfl (vs:=[.slice none 0 0,.int .i64 3]) (fun h_ H_=>⟨.slice none 0 0,_,rfl,rfl,⟨.int .i64 3,_,rfl,rfl,rfl⟩⟩) (v:=.tuple #[.slice none 0 0,.int .i64 3]) rfl ?_
    have e_:k=2 ^ t.nH:=by omega
    have hP_:bl=shortP t:=by rw [hb,e_];rfl
    have hP2_:shortP t=[]:=by rw [← hP_];exact ‹bl=[]›
    exact fun h_ H_=>K _ _ ⟨_,[],by rw [zpk hc_ hP2_],(OwnS.empty _ _).as (by rw [xyk hc_,hP2_];rfl),(H_.sub (List.nil_sublist _)).new⟩
   ·
    refine xck rfl (dff cc15) <| xcv <| fsr <| rt (xaq (v:=w) rfl) (tm':=zq1 (zq2 (zq4 (zq8 (zq32 []))))) rfl <| ro (xax (v:=w) rfl) <| ro (xax (v:=.int .i64 0) rfl) ?_
    refine xak ?_
    refine xdv Tryd.func25 rfl (vs:=[w,.int .i64 0]) (fun h_ H_=>⟨w,_,rfl,rfl,⟨.int .i64 0,_,rfl,rfl,rfl⟩⟩) (v:=.tuple #[w,.int .i64 0]) rfl ?_
    have e_:k=2 ^ t.nH:=by omega
    have hP_:bl=shortP t:=by rw [hb,e_];rfl
    have hP2_: ¬ shortP t=[]:=by rw [← hP_];exact ‹¬ bl=[]›
    exact fun h_ H_=>K _ _ ⟨_,_,by rw [yxq hc_ hP2_],o1.as (by rw [xyk hc_,hP_]),((H_.dropA).sub (List.sublist_append_left _ _)).new⟩
end Go.Proofs.YtalfgojocdonhaaDoor
namespace Go.Proofs.YtalfgojocdonhaaDoor
open Go.X Go.X.Flow Go.Conc
set_option maxRecDepth 10000
set_option synthInstance.maxSize 2000

set_option maxHeartbeats 1000000
theorem c53 (md:Md) (h:Heap) (p:PHeap) (hp:Per p h) (a1 a2 a3:Option Addr) (c1 c2 c3:Nat) (t:Tn) (T:TownP p a1 t.nH a2 t.nW a3 t.m t) (hn:t.nH≤40∧t.nW≤40∧t.m≤41) (N:NoneP p):CallsX Tryd.prog md 53 #[.agg #[.slice a1 t.nH c1,.slice a2 t.nW c2,.slice a3 t.m c3]] h fun v h'=>∃ w X,v= .tuple #[w,.int .i64 (chkB t)]∧OwnS 3 1 w (ics (helpsC t)) X∧New h h' X:=by
 refine xcx (Φ:=fun h_=>St h [] p h_ []) Tryd.func53 rfl (tm:=zq8 (zq32 [])) rfl ?_ (St.start h _ hp)
 intro c₀ cs Stop K
 refine fsr ?_
 refine xij mn (v:=.agg #[.slice a1 t.nH c1,.slice a2 t.nW c2,.slice a3 t.m c3]) rfl fun b1=>xcq (L':=[(b1,.cells #[.slice a1 t.nH c1,.slice a2 t.nW c2,.slice a3 t.m c3] 25 (0,0))]) rfl ?_
 refine ro (xax (v:=.slice none 0 0) rfl) <| rt (xax (v:=.int .i64 0) rfl) (tm':=zq4 _) rfl <| ren <| fsr <| rd (fun h_ H_=>xav H_ tA25 tS25 rfl (i:=0) rfl (vs:=[.slice a1 t.nH c1,.slice a2 t.nW c2,.slice a3 t.m c3]) rfl rfl) ?_
 refine xeq mn (first:=[]) (cap:=[]) rfl rfl fC47 (fun h_ H_=>c47 md _ _ H_.pe _ _ _ _ _ _ _ _ _ t (show TownP _ _ _ _ _ _ _ t from ⟨T.h,T.w,T.y⟩) (by omega)) rfl ?_
 refine rt (xax (v:=.int .i64 (chkB t)) rfl) (tm':=zq1 (zq4 _)) rfl <| ren <| xbq <| ro (xaq (v:=.int .i64 (chkB t)) rfl) <| ro (xmk rfl rfl) <| xak ?_
 by_cases cc2:chkB t≠0
 ·
  refine xdx rfl (dtt cc2) <| fsr <| rt (xaq (v:=.int .i64 (chkB t)) rfl) (tm':=zq1 (zq4 (zq8 _))) rfl <| ro (xax (v:=.slice none 0 0) rfl) <| ro (xax (v:=.int .i64 (chkB t)) rfl) <| xak ?_
  refine xdv Tryd.func53 rfl (vs:=[.slice none 0 0,.int .i64 (chkB t)]) (fun h_ H_=>⟨.slice none 0 0,_,rfl,rfl,⟨.int .i64 (chkB t),_,rfl,rfl,rfl⟩⟩) (v:=.tuple #[.slice none 0 0,.int .i64 (chkB t)]) rfl ?_
  exact fun h_ H_=>K _ _ ⟨_,[],rfl,(OwnS.empty _ _).as (by rw [helpsC,if_neg ‹_›];rfl),(H_.sub (List.nil_sublist _)).new⟩
 ·
  refine xck rfl (dff cc2) <| xcv <| xez ?_
  have hc_:chkB t=0:=by omega
  obtain ⟨h12,hV⟩:=zvz hc_
  have hO:OkT t:=xuz hc_
  refine xbq <| rt (xax (v:=.slice none 0 0) rfl) (tm':=zq2 (zq4 _)) rfl <| ren <| fsr <| ro (xaz xnk rfl (a':=⟨b1,1,none⟩) rfl) <| rd (fun h_ H_=>xaj H_ tA22 rfl (i:=0) rfl (v:=.slice a2 t.nW c2) rfl) ?_
  refine rt (xfz Tryd.underlying22 rfl) (tm':=zq16 _) rfl <| ro (xaq (v:=.int .i64 0) rfl) <| xak <| xdj ?_
  refine xhk (m₀:=t.nW-0) (fun m_ tm_ h_=>∃ (k:Nat) (w:Value) (X1:Pcs),m_=t.nW-k∧(∃ y3:Nat→Value,tm_=[.agg #[.slice a1 t.nH c1,.slice a2 t.nW c2,.slice a3 t.m c3],.pointer (some ⟨b1,0,none⟩),.slice none 0 0,.int .i64 0,.int .i64 (chkB t),w,(y3 6),(y3 7),.agg #[.slice a1 t.nH c1,.slice a2 t.nW c2,.slice a3 t.m c3],.int .i64 (chkB t),.int .i64 (chkB t),.bool (decide (chkB t≠0)),undef,.pointer (some ⟨b1,1,none⟩),.slice a2 t.nW c2,.int .i64 (((t.nW:Nat):Int)),.int .i64 (((k:Nat):Int)),(y3 17),(y3 18),(y3 19),(y3 20),(y3 21),(y3 22),(y3 23),(y3 24),(y3 25),(y3 26),(y3 27),(y3 28),(y3 29),(y3 30),(y3 31),(y3 32),(y3 33),(y3 34),(y3 35),(y3 36),(y3 37),(y3 38),undef])∧(k≤t.nW)∧(OwnS 3 1 w (ics (helpsF t k)) X1)∧St h [] p h_ (([(b1,.cells #[.slice a1 t.nH c1,.slice a2 t.nW c2,.slice a3 t.m c3] 25 (0,0))]:Pcs)++(X1++[]))) (fun h_ H_=>⟨0,(.slice none 0 0),[],rfl,(y_of rfl),Nat.zero_le _,(OwnS.empty _ _),H_⟩) ?_
  intro m_ tm_ IH4
  refine xhq fun k=>xhq fun w=>xhq fun X1=>xcz fun hm_=>xcz fun ht_=>xcz fun hk=>xcz fun o1=>?_
  subst hm_;obtain ⟨y3,ht_⟩:=ht_;subst ht_
  refine fsr <| ro (xgj rfl rfl) <| ren ?_
  by_cases cc5:((k:Nat):Int)<((t.nW:Nat):Int)
  ·
   refine xdx rfl (dtt cc5) <| xcv <| xez <| xdj <| fsr <| rt (xaq (v:=.int .i64 (((k:Nat):Int))) rfl) (tm':=zq1 (zq2 (zq16 _))) rfl ?_
   refine ro (xax (v:=.int .i64 (((k:Nat):Int))) rfl) <| ren <| xbq <| rd (fun h_ H_=>xav H_ tA25 tS25 rfl (i:=0) rfl (vs:=[.slice a1 t.nH c1,.slice a2 t.nW c2,.slice a3 t.m c3]) rfl rfl) ?_
   refine xkx mn tZ25 rfl fun b6=>xcq (L':=([(b6,.cells #[.slice none 0 0,.slice none 0 0,.slice none 0 0] 25 (0,0)),(b1,.cells #[.slice a1 t.nH c1,.slice a2 t.nW c2,.slice a3 t.m c3] 25 (0,0))]:Pcs)++(X1++[])) rfl ?_
   refine xfj (tm':=zq8 _) rfl ?_
   refine xik mn tS25 rfl (v:=.agg #[.slice a1 t.nH c1,.slice a2 t.nW c2,.slice a3 t.m c3]) rfl (i:=0) rfl rfl rfl (Nat.le_of_ble_eq_true rfl) (cs2:=[.slice a1 t.nH c1,.slice a2 t.nW c2,.slice a3 t.m c3]) rfl (xcq (L':=([(b6,.cells #[.slice a1 t.nH c1,.slice a2 t.nW c2,.slice a3 t.m c3] 25 (0,0)),(b1,.cells #[.slice a1 t.nH c1,.slice a2 t.nW c2,.slice a3 t.m c3] 25 (0,0))]:Pcs)++(X1++[])) rfl ?_)
   refine ren <| xbq <| ro (xaz xnk rfl (a':=⟨b1,1,none⟩) rfl) <| rd (fun h_ H_=>xaj H_ tA22 rfl (i:=1) rfl (v:=.slice a2 t.nW c2) rfl) ?_
   refine xiw mn (first:=[]) (cap:=[]) rfl rfl fC93 (R:=fun v_ h_=>∃ w7:Value,∃ X8:Pcs,v_=w7∧(OwnS 3 1 w7 (ics t.ws) X8)∧St h [] p h_ (([(b6,.cells #[.slice a1 t.nH c1,.slice a2 t.nW c2,.slice a3 t.m c3] 25 (0,0)),(b1,.cells #[.slice a1 t.nH c1,.slice a2 t.nW c2,.slice a3 t.m c3] 25 (0,0))]:Pcs)++(X8++(X1++[])))) (fun h_ H_=>(c93 md _ _ H_.pe _ _ _ _ T.w (by omega)).mono fun v_ h2_ ⟨w7,X8,e_,o9,N_⟩=>⟨w7,X8,e_,o9,H_.callNA N_⟩) fun v_=>?_
   refine xgz fun w7=>xgz fun X8=>xfq fun ev_=>xfq fun o9=>?_
   have ev_:=ev_.symm;subst ev_
   refine xcq (L':=([(b6,.cells #[.slice a1 t.nH c1,.slice a2 t.nW c2,.slice a3 t.m c3] 25 (0,0)),(b1,.cells #[.slice a1 t.nH c1,.slice a2 t.nW c2,.slice a3 t.m c3] 25 (0,0))]:Pcs)++(X8++(X1++[]))) rfl ?_
   refine xfj (tm':=zq1 (zq2 (zq4 (zq16 _)))) rfl ?_
   refine ro (xaz xnk rfl (a':=⟨b6,1,none⟩) rfl) ?_
   refine xrj mn tS22 rfl (v:=w7) rfl o9.one (i:=0) rfl (Nat.succ_le_iff.1 (Nat.le_of_ble_eq_true rfl)) (cs2:=[.slice a1 t.nH c1,w7,.slice a3 t.m c3]) rfl (xcq (L':=([(b6,.cells #[.slice a1 t.nH c1,w7,.slice a3 t.m c3] 25 (0,0)),(b1,.cells #[.slice a1 t.nH c1,.slice a2 t.nW c2,.slice a3 t.m c3] 25 (0,0))]:Pcs)++(X8++(X1++[]))) rfl ?_)
   refine ren <| xbq <| ro (xaz xnk rfl (a':=⟨b6,1,none⟩) rfl) ?_
   refine xbx mn (fun h_ H_=>xaj H_ tA22 rfl (i:=0) rfl (v:=w7) rfl) (tm':=zq2 (zq8 (zq16 _))) rfl ?_
   refine ro (xaq (v:=.int .i64 (((k:Nat):Int))) rfl) ?_
   refine ro (xix o9 Tryd.underlying22 tS3 rfl rfl (by rw [(show (ics t.ws).length=t.nW from xcw _)];first | omega | (simp only [List.length_set];omega))) ?_
   refine xbx mn (fun h_ H_=>xnv (A:=([(b6,.cells #[.slice a1 t.nH c1,w7,.slice a3 t.m c3] 25 (0,0)),(b1,.cells #[.slice a1 t.nH c1,.slice a2 t.nW c2,.slice a3 t.m c3] 25 (0,0))]:Pcs)) (i:=k) (j:=0) (e:=[.int .i64 ((t.ws).getD k 0)]) o9 H_ tA3 rfl rfl (xqw (show k<t.nW from by omega)) (u:=.int .i64 ((t.ws).getD k 0)) rfl) (tm':=zq8 (zq32 [])) rfl ?_
   refine ro (xek rfl rfl (wr (by have z_:=hV.w k (by omega);omega))) ?_
   refine ro (xix o9 Tryd.underlying22 tS3 rfl rfl (by rw [(show (ics t.ws).length=t.nW from xcw _)];first | omega | (simp only [List.length_set];omega))) ?_
   refine xux (A:=([(b6,.cells #[.slice a1 t.nH c1,w7,.slice a3 t.m c3] 25 (0,0)),(b1,.cells #[.slice a1 t.nH c1,.slice a2 t.nW c2,.slice a3 t.m c3] 25 (0,0))]:Pcs)) (i:=k) (j:=0) (e:=[.int .i64 ((t.ws).getD k 0)]) (u:=.int .i64 (((t.ws).getD k 0)+1)) o9 mn tS3 rfl rfl rfl ⟨rfl,rfl⟩ (xqw (show k<t.nW from by omega)) (Nat.succ_le_iff.1 (Nat.le_of_ble_eq_true rfl)) fun X10 o11=>?_
   have o12:OwnS 3 1 w7 (ics (t.ws.set k (((t.ws).getD k 0)+1))) X10:=o11.as xxw
   refine ren <| xbq ?_
   refine xbx mn (fun h_ H_=>xav H_ tA25 tS25 rfl (i:=0) rfl (vs:=[.slice a1 t.nH c1,w7,.slice a3 t.m c3]) rfl rfl) (tm':=zq8 (zq32 [])) rfl ?_
   refine rd (fun h_ H_=>xav H_ tA25 tS25 rfl (i:=1) rfl (vs:=[.slice a1 t.nH c1,.slice a2 t.nW c2,.slice a3 t.m c3]) rfl rfl) ?_
   refine xxq (A:=([(b6,.cells #[.slice a1 t.nH c1,w7,.slice a3 t.m c3] 25 (0,0)),(b1,.cells #[.slice a1 t.nH c1,.slice a2 t.nW c2,.slice a3 t.m c3] 25 (0,0))]:Pcs)) o12 (show (ics (pour t k).ws).length=(pour t k).nW from xcw _) fun p13 a14 cp15 le16 ev_ D17=>?_
   subst ev_
   refine xeq mn (first:=[]) (cap:=[]) rfl rfl fC94 (fun h_ H_=>c94 md _ _ H_.pe _ _ _ _ _ _ (pour t k) (show TownP _ _ (pour t k).nH _ (pour t k).nW _ (pour t k).m (pour t k) from ⟨(T.h.mono le16),(show Ints _ _ _ (pour t k).ws from D17),(T.y.mono le16)⟩) (zqj hV (by omega) (by omega)) _ _ _ _ _ _ t (show TownP _ _ _ _ _ _ _ t from ⟨(T.h.mono le16),(T.w.mono le16),(T.y.mono le16)⟩) hO (N.mono le16)) rfl ?_
   refine xak ?_
   by_cases cc18:cmpL (LK (pour t k)) (LK t)<0
   ·
    refine xdx rfl (dtt cc18) <| xbq <| rt (xaq (v:=w) rfl) (tm':=zq8 (zq32 [])) rfl <| ro (xaq (v:=.int .i64 (((k:Nat):Int))) rfl) ?_
    refine xjz ([(b6,.cells #[.slice a1 t.nH c1,.slice a14 ((pour t k).nW) cp15,.slice a3 t.m c3] 25 (0,0)),(b1,.cells #[.slice a1 t.nH c1,.slice a2 t.nW c2,.slice a3 t.m c3] 25 (0,0))]:Pcs) mn Tryd.underlying22 tS3 tZ3 (Nat.le_of_ble_eq_true rfl) (vs:=[(0,.int .i64 (((k:Nat):Int)))]) rfl rfl (es:=[[.int .i64 (((k:Nat):Int))]]) rfl rfl rfl fun v19 X20 o21=>?_
    refine xjj (List.Perm.append_left _ (List.perm_append_comm_assoc _ _ _)) ?_
    refine xcq (L':=([(b6,.cells #[.slice a1 t.nH c1,.slice a14 ((pour t k).nW) cp15,.slice a3 t.m c3] 25 (0,0)),(b1,.cells #[.slice a1 t.nH c1,.slice a2 t.nW c2,.slice a3 t.m c3] 25 (0,0))]:Pcs)++(X1++(X20++[]))) rfl ?_
    refine xmv ([(b6,.cells #[.slice a1 t.nH c1,.slice a14 ((pour t k).nW) cp15,.slice a3 t.m c3] 25 (0,0)),(b1,.cells #[.slice a1 t.nH c1,.slice a2 t.nW c2,.slice a3 t.m c3] 25 (0,0))]:Pcs) X1 X20 mn Tryd.underlying22 tS3 tZ3 rfl tB3 Tryd.underlying22 rfl rfl o1 o21 (xtx rfl) (by rw [xcw];have z_:=yjz (t:=t) (k:=k);simp only [List.length_cons,List.length_nil];omega) (by decide) fun v22 X23 o24=>?_
    have o25:OwnS 3 1 v22 (ics (helpsF t (k+1))) X23:=o24.as ((yzx _ _).trans (congrArg ics (yuw ‹_›).symm))
    refine xfj (tm':=zq8 (zq32 [])) rfl ?_
    refine ro (xax (v:=v22) rfl) <| xak <| xdq <| xbq ?_
    refine ro (xek rfl rfl (n:=((k+1:Nat):Int)) (wr (by omega))) ?_
    refine rt (xaq (v:=.int .i64 (((k+1:Nat):Int))) rfl) (tm':=zq1 (zq16 _)) rfl <| xak ?_
    exact fun h_ H_=>IH4 _ _ (by omega) h_ ⟨k+1,v22,X23,rfl,(y_of rfl),(by omega),o25,(H_.forget le16).drop⟩
   ·
    refine xck rfl (dff cc18) <| xcv <| xdq <| xbq ?_
    refine ro (xek rfl rfl (n:=((k+1:Nat):Int)) (wr (by omega))) ?_
    refine ro (xaq (v:=.int .i64 (((k+1:Nat):Int))) rfl) <| xak ?_
    exact fun h_ H_=>IH4 _ _ (by omega) h_ ⟨k+1,w,X1,rfl,(y_of rfl),(by omega),(o1.as (by rw [zgj ‹_›])),(H_.forget le16).drop⟩
  ·
   refine xck rfl (dff cc5) <| xhz rfl <| fsr <| rt (xaq (v:=w) rfl) (tm':=zq8 (zq32 [])) rfl <| ro (xax (v:=w) rfl) <| ro (xax (v:=.int .i64 0) rfl) ?_
   refine xak ?_
   refine xdv Tryd.func53 rfl (vs:=[w,.int .i64 0]) (fun h_ H_=>⟨w,_,rfl,rfl,⟨.int .i64 0,_,rfl,rfl,rfl⟩⟩) (v:=.tuple #[w,.int .i64 0]) rfl ?_
   have e_:k=t.nW:=by omega
   exact fun h_ H_=>K _ _ ⟨_,_,by rw [hc_],o1.as (by rw [helpsC,if_pos hc_,e_]),((H_.dropA).sub (List.sublist_append_left _ _)).new⟩
theorem c55 (md:Md) (h:Heap) (p:PHeap) (hp:Per p h) (a1 a2 a3:Option Addr) (c1 c2 c3:Nat) (t:Tn) (T:TownP p a1 t.nH a2 t.nW a3 t.m t) (hn:t.nH≤40∧t.nW≤40∧t.m≤41) (hcap:t.m≤c3) (x y:Int) (N:NoneP p):CallsX Tryd.prog md 55 #[.agg #[.slice a1 t.nH c1,.slice a2 t.nW c2,.slice a3 t.m c3],.int .i64 (x),.int .i64 (y)] h fun v h'=>v= .tuple #[.bool (wayB t x y),.int .i64 (wayE t x y)]∧Keep h h':=by
 refine xcx (Φ:=fun h_=>St h [] p h_ []) Tryd.func55 rfl (tm:=zq16 (zq32 [])) rfl ?_ (St.start h _ hp)
 intro c₀ cs Stop K
 refine fsr ?_
 refine xij mn (v:=.agg #[.slice a1 t.nH c1,.slice a2 t.nW c2,.slice a3 t.m c3]) rfl fun b1=>xcq (L':=[(b1,.cells #[.slice a1 t.nH c1,.slice a2 t.nW c2,.slice a3 t.m c3] 25 (0,0))]) rfl ?_
 refine xfj (tm':=zq4 _) rfl ?_
 refine ro (xax (v:=.bool (false)) rfl) <| ro (xax (v:=.int .i64 0) rfl) <| ren <| xez ?_
 by_cases cc2:0≤x∧x≤(t.nH:Int)-1
 ·
  refine xgx 9 [[],[],[],[1,2],[1,2,3],[],[1,2,3],[1,2,3,5,6],[1,2,3,4,5,6],[],[]] xkk (by kernel_rfl) (Nat.le_of_ble_eq_true rfl) ?_
  refine xbk mn (fun h_ H_=>xav H_ tA25 tS25 rfl (i:=0) rfl (vs:=[.slice a1 t.nH c1,.slice a2 t.nW c2,.slice a3 t.m c3]) rfl rfl) (tm':=zq4 (zq8 _)) rfl ?_
  refine wd (fun h_ H_=>xav H_ tA25 tS25 rfl (i:=0) rfl (vs:=[.slice a1 t.nH c1,.slice a2 t.nW c2,.slice a3 t.m c3]) rfl rfl) <| wt (xaq (v:=.int .i64 (x)) rfl) (tm':=zq2 (zq4 (zq8 _))) rfl ?_
  refine xiv mn (first:=[]) (cap:=[]) rfl rfl fC65 (fun h_ H_=>(c65 md _ _ H_.pe _ _ _ _ _ _ _ _ _ t (show TownP _ _ _ _ _ _ _ t from ⟨T.h,T.w,T.y⟩) (by omega) (x)).mono fun v_ h2_ ⟨e_,k_⟩=>⟨e_,H_.call k_⟩) rfl ?_
  refine wt (xaq (v:=.bool (decide (0≤x∧x≤(t.nH:Int)-1))) rfl) (tm':=zq16 _) rfl ?_
  refine xbk (ms rfl rfl (dtt cc2)) (fun h_ H_=>xav H_ tA25 tS25 rfl (i:=0) rfl (vs:=[.slice a1 t.nH c1,.slice a2 t.nW c2,.slice a3 t.m c3]) rfl rfl) rfl ?_
  refine xbk (ms rfl rfl (dtt cc2)) (fun h_ H_=>xaq (v:=.int .i64 (y)) rfl) (tm':=zq2 (zq16 _)) rfl ?_
  refine xiv (ms rfl rfl (dtt cc2)) (first:=[]) (cap:=[]) rfl rfl fC70 (fun h_ H_=>(c70 md _ _ H_.pe _ _ _ _ _ _ _ _ _ t (show TownP _ _ _ _ _ _ _ t from ⟨T.h,T.w,T.y⟩) (by omega) (y)).mono fun v_ h2_ ⟨e_,k_⟩=>⟨e_,H_.call k_⟩) rfl ?_
  refine wt (xdz rfl (dtt cc2) (v:=.bool (decide (0≤y∧y≤(t.nW:Int)-1))) rfl) (tm':=zq4 (zq16 _)) rfl ?_
  refine xiz rfl ?_
  refine xeq mn (first:=[]) (cap:=[]) rfl rfl fC64 (fun h_ H_=>c64 md _ _ H_.pe _ _ _ _ _ _ _ _ _ t (show TownP _ _ _ _ _ _ _ t from ⟨T.h,T.w,T.y⟩) (by omega) (decide (0≤y∧y≤(t.nW:Int)-1))) rfl ?_
  refine rt (xax (v:=.int .i64 (askB t (decide (0≤y∧y≤(t.nW:Int)-1)))) rfl) (tm':=zq1 (zq8 _)) rfl <| ren <| xbq <| ro (xaq (v:=.int .i64 (askB t (decide (0≤y∧y≤(t.nW:Int)-1)))) rfl) <| ro (xmk rfl rfl) <| xak ?_
  by_cases cc3:askB t (decide (0≤y∧y≤(t.nW:Int)-1))≠0
  ·
   refine xdx rfl (dtt cc3) <| fsr <| rt (xaq (v:=.int .i64 (askB t (decide (0≤y∧y≤(t.nW:Int)-1)))) rfl) (tm':=zq8 (zq16 _)) rfl <| ro (xax (v:=.bool (false)) rfl) <| ro (xax (v:=.int .i64 (askB t (decide (0≤y∧y≤(t.nW:Int)-1)))) rfl) <| xak ?_
   refine xdv Tryd.func55 rfl (vs:=[.bool (false),.int .i64 (askB t (decide (0≤y∧y≤(t.nW:Int)-1)))]) (fun h_ H_=>⟨.bool (false),_,rfl,rfl,⟨.int .i64 (askB t (decide (0≤y∧y≤(t.nW:Int)-1))),_,rfl,rfl,rfl⟩⟩) (v:=.tuple #[.bool (false),.int .i64 (askB t (decide (0≤y∧y≤(t.nW:Int)-1)))]) rfl ?_
   have ha_:=yov (t:=t) (x:=x) (y:=y) ‹_›
   have hn_: ¬ wayA t x y=0:=by rw [ha_];assumption
   exact fun h_ H_=>K _ _ ⟨by rw [yvw hn_,yvv hn_,ha_],H_.kept⟩
  ·
   refine xck rfl (dff cc3) <| xcv <| xez ?_
   have ha0_:wayA t x y=0:=by rw [yov (by assumption)];omega
   obtain ⟨hc_,hx_,hy_⟩:=yow ha0_
   obtain ⟨h12,hV⟩:=zvz hc_
   have hO:OkT t:=xuz hc_
   refine xbq <| rt (xaq (v:=.int .i64 (x)) rfl) (tm':=zq1 (zq8 (zq16 _))) rfl <| ro (xaq (v:=.int .i64 (y)) rfl) <| ro (xiq tZ43 tP43 (vs:=[(0,.int .i64 (x)),(1,.int .i64 (y))]) rfl (cells:=#[.int .i64 (x),.int .i64 (y)]) rfl) ?_
   refine xkx mn tZ43 rfl fun b4=>xcq (L':=[(b4,.cells #[.int .i64 0,.int .i64 0] 43 (0,0)),(b1,.cells #[.slice a1 t.nH c1,.slice a2 t.nW c2,.slice a3 t.m c3] 25 (0,0))]) rfl ?_
   refine xfj (tm':=zq2 (zq8 _)) rfl ?_
   refine xik mn tS43 rfl (v:=.agg #[.int .i64 (x),.int .i64 (y)]) rfl (i:=0) rfl rfl rfl (Nat.le_of_ble_eq_true rfl) (cs2:=[.int .i64 (x),.int .i64 (y)]) rfl (xcq (L':=[(b4,.cells #[.int .i64 (x),.int .i64 (y)] 43 (0,0)),(b1,.cells #[.slice a1 t.nH c1,.slice a2 t.nW c2,.slice a3 t.m c3] 25 (0,0))]) rfl ?_)
   refine ren <| fsr <| ro (xaz xhj rfl (a':=⟨b1,2,none⟩) rfl) <| rd (fun h_ H_=>xaj H_ tA23 rfl (i:=1) rfl (v:=.slice a3 t.m c3) rfl) ?_
   refine xbx mn (fun h_ H_=>xav H_ tA43 tS43 rfl (i:=0) rfl (vs:=[.int .i64 (x),.int .i64 (y)]) rfl rfl) (tm':=zq2 (zq4 (zq8 (zq16 _)))) rfl ?_
   refine xeq mn (first:=[]) (cap:=[]) rfl rfl fC95 (fun h_ H_=>c95 md _ _ H_.pe _ _ _ _ T.y (by omega) (x) (y)) rfl ?_
   refine xak ?_
   by_cases cc5:((x,y):FWay)∈t.wy
   ·
    refine xdx rfl (dtt cc5) <| fsr <| ro (xax (v:=.bool (false)) rfl) <| rt (xax (v:=.int .i64 3) rfl) (tm':=zq8 _) rfl <| xak ?_
    refine xdv Tryd.func55 rfl (vs:=[.bool (false),.int .i64 3]) (fun h_ H_=>⟨.bool (false),_,rfl,rfl,⟨.int .i64 3,_,rfl,rfl,rfl⟩⟩) (v:=.tuple #[.bool (false),.int .i64 3]) rfl ?_
    exact fun h_ H_=>K _ _ ⟨by rw [znv ‹_›,znk ha0_ ‹_›],H_.kept⟩
   ·
    refine xck rfl (dff cc5) <| xcv <| fsr <| rd (fun h_ H_=>xav H_ tA25 tS25 rfl (i:=1) rfl (vs:=[.slice a1 t.nH c1,.slice a2 t.nW c2,.slice a3 t.m c3]) rfl rfl) ?_
    refine xkx mn tZ25 rfl fun b6=>xcq (L':=[(b6,.cells #[.slice none 0 0,.slice none 0 0,.slice none 0 0] 25 (0,0)),(b4,.cells #[.int .i64 (x),.int .i64 (y)] 43 (0,0)),(b1,.cells #[.slice a1 t.nH c1,.slice a2 t.nW c2,.slice a3 t.m c3] 25 (0,0))]) rfl ?_
    refine xik mn tS25 rfl (v:=.agg #[.slice a1 t.nH c1,.slice a2 t.nW c2,.slice a3 t.m c3]) rfl (i:=0) rfl rfl rfl (Nat.le_of_ble_eq_true rfl) (cs2:=[.slice a1 t.nH c1,.slice a2 t.nW c2,.slice a3 t.m c3]) rfl (xcq (L':=[(b6,.cells #[.slice a1 t.nH c1,.slice a2 t.nW c2,.slice a3 t.m c3] 25 (0,0)),(b4,.cells #[.int .i64 (x),.int .i64 (y)] 43 (0,0)),(b1,.cells #[.slice a1 t.nH c1,.slice a2 t.nW c2,.slice a3 t.m c3] 25 (0,0))]) rfl ?_)
    refine ren ?_
    refine xxv (xlx (C:=[]) (A:=([(b6,.cells #[.slice a1 t.nH c1,.slice a2 t.nW c2,.slice a3 t.m c3] 25 (0,0)),(b4,.cells #[.int .i64 (x),.int .i64 (y)] 43 (0,0)),(b1,.cells #[.slice a1 t.nH c1,.slice a2 t.nW c2,.slice a3 t.m c3] 25 (0,0))]:Pcs)) 11 [[],[0],[],[2],[2,3],[],[5],[5,6],[0,1,2,3,4,5,6,7],[],[9],[],[],[]] [] [10] [0,1,2,3,4,5,6,7,8,9] (fun _=>[]) (fun _=>[]) (fun i_=>match i_ with | 0=>[] | 1=>[0] | 2=>[] | 3=>[2] | 4=>[3] | 5=>[] | 6=>[5] | 7=>[6] | 8=>[1,4,7] | 9=>[] | 10=>[9] | _=>[]) (fun i_ val_ pc_ v_ x_=>match i_ with | 0=>v_= .pointer (some ⟨b1,2,none⟩)∧x_=[] | 1=>v_= .slice a3 t.m c3∧x_=[] | 2=>v_= .pointer (some ⟨b1,2,none⟩)∧x_=[] | 3=>v_= .slice a3 t.m c3∧x_=[] | 4=>v_= .int .i64 (((t.m:Nat):Int))∧x_=[] | 5=>v_= .pointer (some ⟨b1,2,none⟩)∧x_=[] | 6=>v_= .slice a3 t.m c3∧x_=[] | 7=>v_= .int .i64 (((t.m:Nat):Int))∧x_=[] | 8=>v_= .slice a3 t.m t.m∧x_=[] | 9=>v_= .agg #[.int .i64 (x),.int .i64 (y)]∧x_=[] | 10=>OwnS 43 2 v_ [[.int .i64 (x),.int .i64 (y)]] x_ | _=>True) (fun val7=>[.agg #[.slice a1 t.nH c1,.slice a2 t.nW c2,.slice a3 t.m c3],.int .i64 (x),.int .i64 (y),.pointer (some ⟨b1,0,none⟩),undef,undef,.bool (false),.int .i64 0,.int .i64 (askB t (decide (0≤y∧y≤(t.nW:Int)-1))),.pointer (some ⟨b4,0,none⟩),.pointer (some ⟨b6,0,none⟩),.agg #[.slice a1 t.nH c1,.slice a2 t.nW c2,.slice a3 t.m c3],.agg #[.slice a1 t.nH c1,.slice a2 t.nW c2,.slice a3 t.m c3],.int .i64 (x),.bool (decide (0≤x∧x≤(t.nH:Int)-1)),.bool (decide (0≤x∧x≤(t.nH:Int)-1)),.agg #[.slice a1 t.nH c1,.slice a2 t.nW c2,.slice a3 t.m c3],.int .i64 (y),.bool (decide (0≤y∧y≤(t.nW:Int)-1)),.bool (decide (0≤y∧y≤(t.nW:Int)-1)),.int .i64 (askB t (decide (0≤y∧y≤(t.nW:Int)-1))),.int .i64 (askB t (decide (0≤y∧y≤(t.nW:Int)-1))),.bool (decide (askB t (decide (0≤y∧y≤(t.nW:Int)-1))≠0)),undef,.int .i64 (x),.int .i64 (y),.agg #[.int .i64 (x),.int .i64 (y)],.pointer (some ⟨b1,2,none⟩),.slice a3 t.m c3,.agg #[.int .i64 (x),.int .i64 (y)],.bool (decide (((x,y):FWay)∈t.wy)),.agg #[.slice a1 t.nH c1,.slice a2 t.nW c2,.slice a3 t.m c3],(val7 0),(val7 1),(val7 2),(val7 3),(val7 4),(val7 5),(val7 6),(val7 7),(val7 8),(val7 9),(val7 10),undef,undef,undef,undef,undef]) xkk (by kernel_rfl) (Nat.le_of_ble_eq_true rfl) (by kernel_rfl) (by kernel_rfl) (by kernel_rfl) (fun _ _=>⟨fun _ _ h=>h.2,⟨fun _ _ h=>h.2,⟨fun _ _ h=>h.2,⟨fun _ _ h=>h.2,⟨fun _ _ h=>h.2,⟨fun _ _ h=>h.2,⟨fun _ _ h=>h.2,⟨fun _ _ h=>h.2,⟨fun _ _ h=>h.2,⟨fun _ _ h=>h.2,trivial⟩⟩⟩⟩⟩⟩⟩⟩⟩⟩) (fun _=>by kernel_rfl) (by kernel_rfl) ?_ ?_) (fun h_ H_=>St.swap (A:=([(b6,.cells #[.slice a1 t.nH c1,.slice a2 t.nW c2,.slice a3 t.m c3] 25 (0,0)),(b4,.cells #[.int .i64 (x),.int .i64 (y)] 43 (0,0)),(b1,.cells #[.slice a1 t.nH c1,.slice a2 t.nW c2,.slice a3 t.m c3] 25 (0,0))]:Pcs)) (U:=[]) H_)
    ·
     refine xaw rfl (xdk ?_) ?_
     ·
      intro val7 pc8 hQ_ hX_
      obtain ⟨q_,hq0_⟩: ∃ q_:Value→Pcs→Prop,q_=(fun v_ x_=>v_= .pointer (some ⟨b1,2,none⟩)∧x_=[]):=⟨_,rfl⟩
      refine ⟨(zq16 (zq32 [])),[],q_,rfl,rfl,(fun _ _ z_=>by subst hq0_;exact z_),?_⟩
      subst hq0_
      exact xdw mn (fun _ h_ H_=>xaz xhj rfl (a':=⟨b1,2,none⟩) rfl) ⟨rfl,rfl⟩
     refine xaw rfl (xdk ?_) ?_
     ·
      intro val7 pc8 hQ_ hX_
      have e0_:val7 0= .pointer (some ⟨b1,2,none⟩):=(hQ_ 0 rfl).1
      obtain ⟨q_,hq0_⟩: ∃ q_:Value→Pcs→Prop,q_=(fun v_ x_=>v_= .slice a3 t.m c3∧x_=[]):=⟨_,rfl⟩
      refine ⟨(zq16 (zq32 [])),[],q_,(by rw [e0_]),rfl,(fun _ _ z_=>by subst hq0_;exact z_),?_⟩
      subst hq0_
      exact xdw mn (fun _ h_ H_=>xaj H_ tA23 rfl (i:=2) rfl (v:=.slice a3 t.m c3) rfl) ⟨rfl,rfl⟩
     refine xaw rfl (xdk ?_) ?_
     ·
      intro val7 pc8 hQ_ hX_
      obtain ⟨q_,hq0_⟩: ∃ q_:Value→Pcs→Prop,q_=(fun v_ x_=>v_= .pointer (some ⟨b1,2,none⟩)∧x_=[]):=⟨_,rfl⟩
      refine ⟨(zq16 (zq32 [])),[],q_,rfl,rfl,(fun _ _ z_=>by subst hq0_;exact z_),?_⟩
      subst hq0_
      exact xdw mn (fun _ h_ H_=>xaz xhj rfl (a':=⟨b1,2,none⟩) rfl) ⟨rfl,rfl⟩
     refine xaw rfl (xdk ?_) ?_
     ·
      intro val7 pc8 hQ_ hX_
      have e2_:val7 2= .pointer (some ⟨b1,2,none⟩):=(hQ_ 2 rfl).1
      obtain ⟨q_,hq0_⟩: ∃ q_:Value→Pcs→Prop,q_=(fun v_ x_=>v_= .slice a3 t.m c3∧x_=[]):=⟨_,rfl⟩
      refine ⟨(zq16 (zq32 [])),[],q_,(by rw [e2_]),rfl,(fun _ _ z_=>by subst hq0_;exact z_),?_⟩
      subst hq0_
      exact xdw mn (fun _ h_ H_=>xaj H_ tA23 rfl (i:=2) rfl (v:=.slice a3 t.m c3) rfl) ⟨rfl,rfl⟩
     refine xaw rfl (xdk ?_) ?_
     ·
      intro val7 pc8 hQ_ hX_
      have e3_:val7 3= .slice a3 t.m c3:=(hQ_ 3 rfl).1
      obtain ⟨q_,hq0_⟩: ∃ q_:Value→Pcs→Prop,q_=(fun v_ x_=>v_= .int .i64 (((t.m:Nat):Int))∧x_=[]):=⟨_,rfl⟩
      refine ⟨(zq16 (zq32 [])),[],q_,(by rw [e3_]),rfl,(fun _ _ z_=>by subst hq0_;exact z_),?_⟩
      subst hq0_
      exact xdw mn (fun _ h_ H_=>xfz Tryd.underlying23 rfl) ⟨rfl,rfl⟩
     refine xaw rfl (xdk ?_) ?_
     ·
      intro val7 pc8 hQ_ hX_
      obtain ⟨q_,hq0_⟩: ∃ q_:Value→Pcs→Prop,q_=(fun v_ x_=>v_= .pointer (some ⟨b1,2,none⟩)∧x_=[]):=⟨_,rfl⟩
      refine ⟨(zq16 (zq32 [])),[],q_,rfl,rfl,(fun _ _ z_=>by subst hq0_;exact z_),?_⟩
      subst hq0_
      exact xdw mn (fun _ h_ H_=>xaz xhj rfl (a':=⟨b1,2,none⟩) rfl) ⟨rfl,rfl⟩
     refine xaw rfl (xdk ?_) ?_
     ·
      intro val7 pc8 hQ_ hX_
      have e5_:val7 5= .pointer (some ⟨b1,2,none⟩):=(hQ_ 5 rfl).1
      obtain ⟨q_,hq0_⟩: ∃ q_:Value→Pcs→Prop,q_=(fun v_ x_=>v_= .slice a3 t.m c3∧x_=[]):=⟨_,rfl⟩
      refine ⟨(zq16 (zq32 [])),[],q_,(by rw [e5_]),rfl,(fun _ _ z_=>by subst hq0_;exact z_),?_⟩
      subst hq0_
      exact xdw mn (fun _ h_ H_=>xaj H_ tA23 rfl (i:=2) rfl (v:=.slice a3 t.m c3) rfl) ⟨rfl,rfl⟩
     refine xaw rfl (xdk ?_) ?_
     ·
      intro val7 pc8 hQ_ hX_
      have e6_:val7 6= .slice a3 t.m c3:=(hQ_ 6 rfl).1
      obtain ⟨q_,hq0_⟩: ∃ q_:Value→Pcs→Prop,q_=(fun v_ x_=>v_= .int .i64 (((t.m:Nat):Int))∧x_=[]):=⟨_,rfl⟩
      refine ⟨(zq16 (zq32 [])),[],q_,(by rw [e6_]),rfl,(fun _ _ z_=>by subst hq0_;exact z_),?_⟩
      subst hq0_
      exact xdw mn (fun _ h_ H_=>xfz Tryd.underlying23 rfl) ⟨rfl,rfl⟩
     refine xaw rfl (xdk ?_) ?_
     ·
      intro val7 pc8 hQ_ hX_
      have e1_:val7 1= .slice a3 t.m c3:=(hQ_ 1 rfl).1
      have e4_:val7 4= .int .i64 (((t.m:Nat):Int)):=(hQ_ 4 rfl).1
      have e7_:val7 7= .int .i64 (((t.m:Nat):Int)):=(hQ_ 7 rfl).1
      obtain ⟨q_,hq0_⟩: ∃ q_:Value→Pcs→Prop,q_=(fun v_ x_=>v_= .slice a3 t.m t.m∧x_=[]):=⟨_,rfl⟩
      refine ⟨(zq16 (zq32 [])),[],q_,(by rw [e1_,e4_,e7_]),rfl,(fun _ _ z_=>by subst hq0_;exact z_),?_⟩
      subst hq0_
      exact xdw mn (fun _ h_ H_=>yvx (n:=t.m) Tryd.underlying23 tS43 rfl rfl rfl hcap) ⟨rfl,rfl⟩
     refine xaw rfl (xdk ?_) ?_
     ·
      intro val7 pc8 hQ_ hX_
      obtain ⟨q_,hq0_⟩: ∃ q_:Value→Pcs→Prop,q_=(fun v_ x_=>v_= .agg #[.int .i64 (x),.int .i64 (y)]∧x_=[]):=⟨_,rfl⟩
      refine ⟨(zq16 (zq32 [])),[],q_,rfl,rfl,(fun _ _ z_=>by subst hq0_;exact z_),?_⟩
      subst hq0_
      exact xdw mn (fun _ h_ H_=>xav H_ tA43 tS43 rfl (i:=1) rfl (vs:=[.int .i64 (x),.int .i64 (y)]) rfl rfl) ⟨rfl,rfl⟩
     refine xaw rfl (xdk ?_) ?_
     ·
      intro val7 pc8 hQ_ hX_
      have e9_:val7 9= .agg #[.int .i64 (x),.int .i64 (y)]:=(hQ_ 9 rfl).1
      obtain ⟨q_,hq0_⟩: ∃ q_:Value→Pcs→Prop,q_=(fun v_ x_=>OwnS 43 2 v_ [[.int .i64 (x),.int .i64 (y)]] x_):=⟨_,rfl⟩
      refine ⟨(zq16 (zq32 [])),[],q_,(by rw [e9_]),rfl,(fun _ _ z_=>by subst hq0_;exact z_),?_⟩
      subst hq0_
      exact xmw mn Tryd.underlying23 tS43 tZ43 (Nat.le_of_ble_eq_true rfl) (vs:=[(0,.agg #[.int .i64 (x),.int .i64 (y)])]) rfl rfl (es:=[[.int .i64 (x),.int .i64 (y)]]) rfl rfl rfl fun _ _ o_=>o_
     exact xlq rfl
    intro val7 pc8 hQ_ hX_
    have e0_:val7 0= .pointer (some ⟨b1,2,none⟩):=(hQ_ 0 (by decide)).1
    have e1_:val7 1= .slice a3 t.m c3:=(hQ_ 1 (by decide)).1
    have e2_:val7 2= .pointer (some ⟨b1,2,none⟩):=(hQ_ 2 (by decide)).1
    have e3_:val7 3= .slice a3 t.m c3:=(hQ_ 3 (by decide)).1
    have e4_:val7 4= .int .i64 (((t.m:Nat):Int)):=(hQ_ 4 (by decide)).1
    have e5_:val7 5= .pointer (some ⟨b1,2,none⟩):=(hQ_ 5 (by decide)).1
    have e6_:val7 6= .slice a3 t.m c3:=(hQ_ 6 (by decide)).1
    have e7_:val7 7= .int .i64 (((t.m:Nat):Int)):=(hQ_ 7 (by decide)).1
    have e8_:val7 8= .slice a3 t.m t.m:=(hQ_ 8 (by decide)).1
    have e9_:val7 9= .agg #[.int .i64 (x),.int .i64 (y)]:=(hQ_ 9 (by decide)).1
    have q10_:OwnS 43 2 (val7 10) [[.int .i64 (x),.int .i64 (y)]] (pc8 10):=hQ_ 10 (by decide)
    clear hQ_ hX_
    refine xww (Φ:=fun h_=>St h [] p h_ (([(b6,.cells #[.slice a1 t.nH c1,.slice a2 t.nW c2,.slice a3 t.m c3] 25 (0,0)),(b4,.cells #[.int .i64 (x),.int .i64 (y)] 43 (0,0)),(b1,.cells #[.slice a1 t.nH c1,.slice a2 t.nW c2,.slice a3 t.m c3] 25 (0,0))]:Pcs)++(pc8 10++[]))) ?_ (fun h_ H_=>H_.swap')
    refine xfj (tm':=(zq16 (zq32 []))) (by rw [e0_,e1_,e2_,e3_,e4_,e5_,e6_,e7_,e8_,e9_]) ?_
    have o11:=q10_
    refine ytj ([(b6,.cells #[.slice a1 t.nH c1,.slice a2 t.nW c2,.slice a3 t.m c3] 25 (0,0)),(b4,.cells #[.int .i64 (x),.int .i64 (y)] 43 (0,0)),(b1,.cells #[.slice a1 t.nH c1,.slice a2 t.nW c2,.slice a3 t.m c3] 25 (0,0))]:Pcs) (pc8 10) mn Tryd.underlying23 tS43 tZ43 rfl tB43 Tryd.underlying23 rfl rfl T.y (by decide) (by decide) o11 (by simp) (by simp only [List.length_cons,List.length_nil];omega) (by decide) fun v12 X13 o14=>?_
    refine ro (xaz xhj rfl (a':=⟨b6,2,none⟩) rfl) ?_
    refine xrj mn tS23 rfl (v:=v12) rfl o14.one (i:=0) rfl (Nat.succ_le_iff.1 (Nat.le_of_ble_eq_true rfl)) (cs2:=[.slice a1 t.nH c1,.slice a2 t.nW c2,v12]) rfl (xcq (L':=([(b6,.cells #[.slice a1 t.nH c1,.slice a2 t.nW c2,v12] 25 (0,0)),(b4,.cells #[.int .i64 (x),.int .i64 (y)] 43 (0,0)),(b1,.cells #[.slice a1 t.nH c1,.slice a2 t.nW c2,.slice a3 t.m c3] 25 (0,0))]:Pcs)++(X13++[])) rfl ?_)
    refine ren ?_
    have o15:OwnS 43 2 v12 (wcs (wayM t (x,y)).wy) X13:=o14.as (xyw t.wy ((x,y):FWay))
    refine xbq ?_
    refine xbx mn (fun h_ H_=>xav H_ tA25 tS25 rfl (i:=0) rfl (vs:=[.slice a1 t.nH c1,.slice a2 t.nW c2,v12]) rfl rfl) (tm':=zq16 (zq32 [])) rfl ?_
    refine rd (fun h_ H_=>xav H_ tA25 tS25 rfl (i:=2) rfl (vs:=[.slice a1 t.nH c1,.slice a2 t.nW c2,.slice a3 t.m c3]) rfl rfl) ?_
    refine xxq (A:=([(b6,.cells #[.slice a1 t.nH c1,.slice a2 t.nW c2,v12] 25 (0,0)),(b4,.cells #[.int .i64 (x),.int .i64 (y)] 43 (0,0)),(b1,.cells #[.slice a1 t.nH c1,.slice a2 t.nW c2,.slice a3 t.m c3] 25 (0,0))]:Pcs)) o15 (yiz _) fun p16 a17 cp18 le19 ev_ D20=>?_
    subst ev_
    refine xcq (L':=[(b6,.cells #[.slice a1 t.nH c1,.slice a2 t.nW c2,.slice a17 ((wayM t (x,y)).m) cp18] 25 (0,0)),(b4,.cells #[.int .i64 (x),.int .i64 (y)] 43 (0,0)),(b1,.cells #[.slice a1 t.nH c1,.slice a2 t.nW c2,.slice a3 t.m c3] 25 (0,0))]) rfl ?_
    refine xeq mn (first:=[]) (cap:=[]) rfl rfl fC94 (fun h_ H_=>c94 md _ _ H_.pe _ _ _ _ _ _ (wayM t (x,y)) (show TownP _ _ (wayM t (x,y)).nH _ (wayM t (x,y)).nW _ (wayM t (x,y)).m (wayM t (x,y)) from ⟨(T.h.mono le19),(T.w.mono le19),(show Wys _ _ _ (wayM t (x,y)).wy from D20)⟩) (yvk hO h12 (by omega) (by omega)) _ _ _ _ _ _ t (show TownP _ _ _ _ _ _ _ t from ⟨(T.h.mono le19),(T.w.mono le19),(T.y.mono le19)⟩) hO (N.mono le19)) rfl ?_
    refine rt (xax (v:=.bool (decide (cmpL (LK (wayM t (x,y))) (LK t)<0))) rfl) (tm':=zq1 (zq2 (zq4 _))) rfl <| ro (xax (v:=.int .i64 0) rfl) <| xak ?_
    refine xdv Tryd.func55 rfl (vs:=[.bool (decide (cmpL (LK (wayM t (x,y))) (LK t)<0)),.int .i64 0]) (fun h_ H_=>⟨.bool (decide (cmpL (LK (wayM t (x,y))) (LK t)<0)),_,rfl,rfl,⟨.int .i64 0,_,rfl,rfl,rfl⟩⟩) (v:=.tuple #[.bool (decide (cmpL (LK (wayM t (x,y))) (LK t)<0)),.int .i64 0]) rfl ?_
    exact fun h_ H_=>K _ _ ⟨by rw [znw ha0_ ‹_›,zbv ha0_ ‹_›],H_.kept⟩
 ·
  refine xgx 9 [[],[],[],[1,2],[1,2,3],[],[1,2,3],[1,2,3,5,6],[1,2,3,4,5,6],[],[]] xkk (by kernel_rfl) (Nat.le_of_ble_eq_true rfl) ?_
  refine wd (fun h_ H_=>xav H_ tA25 tS25 rfl (i:=0) rfl (vs:=[.slice a1 t.nH c1,.slice a2 t.nW c2,.slice a3 t.m c3]) rfl rfl) ?_
  refine xbk mn (fun h_ H_=>xav H_ tA25 tS25 rfl (i:=0) rfl (vs:=[.slice a1 t.nH c1,.slice a2 t.nW c2,.slice a3 t.m c3]) rfl rfl) (tm':=zq1 (zq4 (zq8 _))) rfl ?_
  refine wo (xaq (v:=.int .i64 (x)) rfl) ?_
  refine xiv mn (first:=[]) (cap:=[]) rfl rfl fC65 (fun h_ H_=>(c65 md _ _ H_.pe _ _ _ _ _ _ _ _ _ t (show TownP _ _ _ _ _ _ _ t from ⟨T.h,T.w,T.y⟩) (by omega) (x)).mono fun v_ h2_ ⟨e_,k_⟩=>⟨e_,H_.call k_⟩) (tm':=zq1 (zq2 (zq4 (zq8 _)))) rfl ?_
  refine wo (xaq (v:=.bool (decide (0≤x∧x≤(t.nH:Int)-1))) rfl) <| xex (mo rfl rfl (dff cc2)) (tm':=zq1 (zq16 _)) rfl <| wp (mo rfl rfl (dff cc2)) <| xex (mo rfl rfl (dff cc2)) (tm':=zq1 (zq2 (zq16 _))) rfl <| wo (xej rfl (dff cc2) (v:=.bool (false)) rfl) ?_
  refine xiz rfl ?_
  refine xeq mn (first:=[]) (cap:=[]) rfl rfl fC64 (fun h_ H_=>c64 md _ _ H_.pe _ _ _ _ _ _ _ _ _ t (show TownP _ _ _ _ _ _ _ t from ⟨T.h,T.w,T.y⟩) (by omega) false) rfl ?_
  refine rt (xax (v:=.int .i64 (askB t false)) rfl) (tm':=zq1 (zq8 _)) rfl <| ren <| xbq <| ro (xaq (v:=.int .i64 (askB t false)) rfl) <| ro (xmk rfl rfl) <| xak ?_
  by_cases cc21:askB t false≠0
  ·
   refine xdx rfl (dtt cc21) <| fsr <| rt (xaq (v:=.int .i64 (askB t false)) rfl) (tm':=zq8 (zq16 _)) rfl <| ro (xax (v:=.bool (false)) rfl) <| ro (xax (v:=.int .i64 (askB t false)) rfl) <| xak ?_
   refine xdv Tryd.func55 rfl (vs:=[.bool (false),.int .i64 (askB t false)]) (fun h_ H_=>⟨.bool (false),_,rfl,rfl,⟨.int .i64 (askB t false),_,rfl,rfl,rfl⟩⟩) (v:=.tuple #[.bool (false),.int .i64 (askB t false)]) rfl ?_
   have ha_:=zoq (t:=t) (x:=x) (y:=y) ‹_›
   have hn_: ¬ wayA t x y=0:=by rw [ha_];assumption
   exact fun h_ H_=>K _ _ ⟨by rw [yvw hn_,yvv hn_,ha_],H_.kept⟩
  ·
   refine xck rfl (dff cc21) <| xcv <| xez ?_
   have ha0_:wayA t x y=0:=by rw [zoq (by assumption)];omega
   obtain ⟨hc_,hx_,hy_⟩:=yow ha0_
   obtain ⟨h12,hV⟩:=zvz hc_
   have hO:OkT t:=xuz hc_
   refine xbq <| rt (xaq (v:=.int .i64 (x)) rfl) (tm':=zq1 (zq8 (zq16 _))) rfl <| ro (xaq (v:=.int .i64 (y)) rfl) <| ro (xiq tZ43 tP43 (vs:=[(0,.int .i64 (x)),(1,.int .i64 (y))]) rfl (cells:=#[.int .i64 (x),.int .i64 (y)]) rfl) ?_
   refine xkx mn tZ43 rfl fun b22=>xcq (L':=[(b22,.cells #[.int .i64 0,.int .i64 0] 43 (0,0)),(b1,.cells #[.slice a1 t.nH c1,.slice a2 t.nW c2,.slice a3 t.m c3] 25 (0,0))]) rfl ?_
   refine xfj (tm':=zq2 (zq8 _)) rfl ?_
   refine xik mn tS43 rfl (v:=.agg #[.int .i64 (x),.int .i64 (y)]) rfl (i:=0) rfl rfl rfl (Nat.le_of_ble_eq_true rfl) (cs2:=[.int .i64 (x),.int .i64 (y)]) rfl (xcq (L':=[(b22,.cells #[.int .i64 (x),.int .i64 (y)] 43 (0,0)),(b1,.cells #[.slice a1 t.nH c1,.slice a2 t.nW c2,.slice a3 t.m c3] 25 (0,0))]) rfl ?_)
   refine ren <| fsr <| ro (xaz xhj rfl (a':=⟨b1,2,none⟩) rfl) <| rd (fun h_ H_=>xaj H_ tA23 rfl (i:=1) rfl (v:=.slice a3 t.m c3) rfl) ?_
   refine xbx mn (fun h_ H_=>xav H_ tA43 tS43 rfl (i:=0) rfl (vs:=[.int .i64 (x),.int .i64 (y)]) rfl rfl) (tm':=zq2 (zq4 (zq8 (zq16 _)))) rfl ?_
   refine xeq mn (first:=[]) (cap:=[]) rfl rfl fC95 (fun h_ H_=>c95 md _ _ H_.pe _ _ _ _ T.y (by omega) (x) (y)) rfl ?_
   refine xak ?_
   by_cases cc23:((x,y):FWay)∈t.wy
   ·
    refine xdx rfl (dtt cc23) <| fsr <| ro (xax (v:=.bool (false)) rfl) <| rt (xax (v:=.int .i64 3) rfl) (tm':=zq8 _) rfl <| xak ?_
    refine xdv Tryd.func55 rfl (vs:=[.bool (false),.int .i64 3]) (fun h_ H_=>⟨.bool (false),_,rfl,rfl,⟨.int .i64 3,_,rfl,rfl,rfl⟩⟩) (v:=.tuple #[.bool (false),.int .i64 3]) rfl ?_
    exact fun h_ H_=>K _ _ ⟨by rw [znv ‹_›,znk ha0_ ‹_›],H_.kept⟩
   ·
    refine xck rfl (dff cc23) <| xcv <| fsr <| rd (fun h_ H_=>xav H_ tA25 tS25 rfl (i:=1) rfl (vs:=[.slice a1 t.nH c1,.slice a2 t.nW c2,.slice a3 t.m c3]) rfl rfl) ?_
    refine xkx mn tZ25 rfl fun b24=>xcq (L':=[(b24,.cells #[.slice none 0 0,.slice none 0 0,.slice none 0 0] 25 (0,0)),(b22,.cells #[.int .i64 (x),.int .i64 (y)] 43 (0,0)),(b1,.cells #[.slice a1 t.nH c1,.slice a2 t.nW c2,.slice a3 t.m c3] 25 (0,0))]) rfl ?_
    refine xik mn tS25 rfl (v:=.agg #[.slice a1 t.nH c1,.slice a2 t.nW c2,.slice a3 t.m c3]) rfl (i:=0) rfl rfl rfl (Nat.le_of_ble_eq_true rfl) (cs2:=[.slice a1 t.nH c1,.slice a2 t.nW c2,.slice a3 t.m c3]) rfl (xcq (L':=[(b24,.cells #[.slice a1 t.nH c1,.slice a2 t.nW c2,.slice a3 t.m c3] 25 (0,0)),(b22,.cells #[.int .i64 (x),.int .i64 (y)] 43 (0,0)),(b1,.cells #[.slice a1 t.nH c1,.slice a2 t.nW c2,.slice a3 t.m c3] 25 (0,0))]) rfl ?_)
    refine ren ?_
    refine xxv (xlx (C:=[]) (A:=([(b24,.cells #[.slice a1 t.nH c1,.slice a2 t.nW c2,.slice a3 t.m c3] 25 (0,0)),(b22,.cells #[.int .i64 (x),.int .i64 (y)] 43 (0,0)),(b1,.cells #[.slice a1 t.nH c1,.slice a2 t.nW c2,.slice a3 t.m c3] 25 (0,0))]:Pcs)) 11 [[],[0],[],[2],[2,3],[],[5],[5,6],[0,1,2,3,4,5,6,7],[],[9],[],[],[]] [] [10] [0,1,2,3,4,5,6,7,8,9] (fun _=>[]) (fun _=>[]) (fun i_=>match i_ with | 0=>[] | 1=>[0] | 2=>[] | 3=>[2] | 4=>[3] | 5=>[] | 6=>[5] | 7=>[6] | 8=>[1,4,7] | 9=>[] | 10=>[9] | _=>[]) (fun i_ val_ pc_ v_ x_=>match i_ with | 0=>v_= .pointer (some ⟨b1,2,none⟩)∧x_=[] | 1=>v_= .slice a3 t.m c3∧x_=[] | 2=>v_= .pointer (some ⟨b1,2,none⟩)∧x_=[] | 3=>v_= .slice a3 t.m c3∧x_=[] | 4=>v_= .int .i64 (((t.m:Nat):Int))∧x_=[] | 5=>v_= .pointer (some ⟨b1,2,none⟩)∧x_=[] | 6=>v_= .slice a3 t.m c3∧x_=[] | 7=>v_= .int .i64 (((t.m:Nat):Int))∧x_=[] | 8=>v_= .slice a3 t.m t.m∧x_=[] | 9=>v_= .agg #[.int .i64 (x),.int .i64 (y)]∧x_=[] | 10=>OwnS 43 2 v_ [[.int .i64 (x),.int .i64 (y)]] x_ | _=>True) (fun val25=>[.agg #[.slice a1 t.nH c1,.slice a2 t.nW c2,.slice a3 t.m c3],.int .i64 (x),.int .i64 (y),.pointer (some ⟨b1,0,none⟩),undef,undef,.bool (false),.int .i64 0,.int .i64 (askB t false),.pointer (some ⟨b22,0,none⟩),.pointer (some ⟨b24,0,none⟩),.agg #[.slice a1 t.nH c1,.slice a2 t.nW c2,.slice a3 t.m c3],.agg #[.slice a1 t.nH c1,.slice a2 t.nW c2,.slice a3 t.m c3],.int .i64 (x),.bool (decide (0≤x∧x≤(t.nH:Int)-1)),.bool (decide (0≤x∧x≤(t.nH:Int)-1)),undef,undef,undef,.bool (false),.int .i64 (askB t false),.int .i64 (askB t false),.bool (decide (askB t false≠0)),undef,.int .i64 (x),.int .i64 (y),.agg #[.int .i64 (x),.int .i64 (y)],.pointer (some ⟨b1,2,none⟩),.slice a3 t.m c3,.agg #[.int .i64 (x),.int .i64 (y)],.bool (decide (((x,y):FWay)∈t.wy)),.agg #[.slice a1 t.nH c1,.slice a2 t.nW c2,.slice a3 t.m c3],(val25 0),(val25 1),(val25 2),(val25 3),(val25 4),(val25 5),(val25 6),(val25 7),(val25 8),(val25 9),(val25 10),undef,undef,undef,undef,undef]) xkk (by kernel_rfl) (Nat.le_of_ble_eq_true rfl) (by kernel_rfl) (by kernel_rfl) (by kernel_rfl) (fun _ _=>⟨fun _ _ h=>h.2,⟨fun _ _ h=>h.2,⟨fun _ _ h=>h.2,⟨fun _ _ h=>h.2,⟨fun _ _ h=>h.2,⟨fun _ _ h=>h.2,⟨fun _ _ h=>h.2,⟨fun _ _ h=>h.2,⟨fun _ _ h=>h.2,⟨fun _ _ h=>h.2,trivial⟩⟩⟩⟩⟩⟩⟩⟩⟩⟩) (fun _=>by kernel_rfl) (by kernel_rfl) ?_ ?_) (fun h_ H_=>St.swap (A:=([(b24,.cells #[.slice a1 t.nH c1,.slice a2 t.nW c2,.slice a3 t.m c3] 25 (0,0)),(b22,.cells #[.int .i64 (x),.int .i64 (y)] 43 (0,0)),(b1,.cells #[.slice a1 t.nH c1,.slice a2 t.nW c2,.slice a3 t.m c3] 25 (0,0))]:Pcs)) (U:=[]) H_)
    ·
     refine xaw rfl (xdk ?_) ?_
     ·
      intro val25 pc26 hQ_ hX_
      obtain ⟨q_,hq0_⟩: ∃ q_:Value→Pcs→Prop,q_=(fun v_ x_=>v_= .pointer (some ⟨b1,2,none⟩)∧x_=[]):=⟨_,rfl⟩
      refine ⟨(zq16 (zq32 [])),[],q_,rfl,rfl,(fun _ _ z_=>by subst hq0_;exact z_),?_⟩
      subst hq0_
      exact xdw mn (fun _ h_ H_=>xaz xhj rfl (a':=⟨b1,2,none⟩) rfl) ⟨rfl,rfl⟩
     refine xaw rfl (xdk ?_) ?_
     ·
      intro val25 pc26 hQ_ hX_
      have e0_:val25 0= .pointer (some ⟨b1,2,none⟩):=(hQ_ 0 rfl).1
      obtain ⟨q_,hq0_⟩: ∃ q_:Value→Pcs→Prop,q_=(fun v_ x_=>v_= .slice a3 t.m c3∧x_=[]):=⟨_,rfl⟩
      refine ⟨(zq16 (zq32 [])),[],q_,(by rw [e0_]),rfl,(fun _ _ z_=>by subst hq0_;exact z_),?_⟩
      subst hq0_
      exact xdw mn (fun _ h_ H_=>xaj H_ tA23 rfl (i:=2) rfl (v:=.slice a3 t.m c3) rfl) ⟨rfl,rfl⟩
     refine xaw rfl (xdk ?_) ?_
     ·
      intro val25 pc26 hQ_ hX_
      obtain ⟨q_,hq0_⟩: ∃ q_:Value→Pcs→Prop,q_=(fun v_ x_=>v_= .pointer (some ⟨b1,2,none⟩)∧x_=[]):=⟨_,rfl⟩
      refine ⟨(zq16 (zq32 [])),[],q_,rfl,rfl,(fun _ _ z_=>by subst hq0_;exact z_),?_⟩
      subst hq0_
      exact xdw mn (fun _ h_ H_=>xaz xhj rfl (a':=⟨b1,2,none⟩) rfl) ⟨rfl,rfl⟩
     refine xaw rfl (xdk ?_) ?_
     ·
      intro val25 pc26 hQ_ hX_
      have e2_:val25 2= .pointer (some ⟨b1,2,none⟩):=(hQ_ 2 rfl).1
      obtain ⟨q_,hq0_⟩: ∃ q_:Value→Pcs→Prop,q_=(fun v_ x_=>v_= .slice a3 t.m c3∧x_=[]):=⟨_,rfl⟩
      refine ⟨(zq16 (zq32 [])),[],q_,(by rw [e2_]),rfl,(fun _ _ z_=>by subst hq0_;exact z_),?_⟩
      subst hq0_
      exact xdw mn (fun _ h_ H_=>xaj H_ tA23 rfl (i:=2) rfl (v:=.slice a3 t.m c3) rfl) ⟨rfl,rfl⟩
     refine xaw rfl (xdk ?_) ?_
     ·
      intro val25 pc26 hQ_ hX_
      have e3_:val25 3= .slice a3 t.m c3:=(hQ_ 3 rfl).1
      obtain ⟨q_,hq0_⟩: ∃ q_:Value→Pcs→Prop,q_=(fun v_ x_=>v_= .int .i64 (((t.m:Nat):Int))∧x_=[]):=⟨_,rfl⟩
      refine ⟨(zq16 (zq32 [])),[],q_,(by rw [e3_]),rfl,(fun _ _ z_=>by subst hq0_;exact z_),?_⟩
      subst hq0_
      exact xdw mn (fun _ h_ H_=>xfz Tryd.underlying23 rfl) ⟨rfl,rfl⟩
     refine xaw rfl (xdk ?_) ?_
     ·
      intro val25 pc26 hQ_ hX_
      obtain ⟨q_,hq0_⟩: ∃ q_:Value→Pcs→Prop,q_=(fun v_ x_=>v_= .pointer (some ⟨b1,2,none⟩)∧x_=[]):=⟨_,rfl⟩
      refine ⟨(zq16 (zq32 [])),[],q_,rfl,rfl,(fun _ _ z_=>by subst hq0_;exact z_),?_⟩
      subst hq0_
      exact xdw mn (fun _ h_ H_=>xaz xhj rfl (a':=⟨b1,2,none⟩) rfl) ⟨rfl,rfl⟩
     refine xaw rfl (xdk ?_) ?_
     ·
      intro val25 pc26 hQ_ hX_
      have e5_:val25 5= .pointer (some ⟨b1,2,none⟩):=(hQ_ 5 rfl).1
      obtain ⟨q_,hq0_⟩: ∃ q_:Value→Pcs→Prop,q_=(fun v_ x_=>v_= .slice a3 t.m c3∧x_=[]):=⟨_,rfl⟩
      refine ⟨(zq16 (zq32 [])),[],q_,(by rw [e5_]),rfl,(fun _ _ z_=>by subst hq0_;exact z_),?_⟩
      subst hq0_
      exact xdw mn (fun _ h_ H_=>xaj H_ tA23 rfl (i:=2) rfl (v:=.slice a3 t.m c3) rfl) ⟨rfl,rfl⟩
     refine xaw rfl (xdk ?_) ?_
     ·
      intro val25 pc26 hQ_ hX_
      have e6_:val25 6= .slice a3 t.m c3:=(hQ_ 6 rfl).1
      obtain ⟨q_,hq0_⟩: ∃ q_:Value→Pcs→Prop,q_=(fun v_ x_=>v_= .int .i64 (((t.m:Nat):Int))∧x_=[]):=⟨_,rfl⟩
      refine ⟨(zq16 (zq32 [])),[],q_,(by rw [e6_]),rfl,(fun _ _ z_=>by subst hq0_;exact z_),?_⟩
      subst hq0_
      exact xdw mn (fun _ h_ H_=>xfz Tryd.underlying23 rfl) ⟨rfl,rfl⟩
     refine xaw rfl (xdk ?_) ?_
     ·
      intro val25 pc26 hQ_ hX_
      have e1_:val25 1= .slice a3 t.m c3:=(hQ_ 1 rfl).1
      have e4_:val25 4= .int .i64 (((t.m:Nat):Int)):=(hQ_ 4 rfl).1
      have e7_:val25 7= .int .i64 (((t.m:Nat):Int)):=(hQ_ 7 rfl).1
      obtain ⟨q_,hq0_⟩: ∃ q_:Value→Pcs→Prop,q_=(fun v_ x_=>v_= .slice a3 t.m t.m∧x_=[]):=⟨_,rfl⟩
      refine ⟨(zq16 (zq32 [])),[],q_,(by rw [e1_,e4_,e7_]),rfl,(fun _ _ z_=>by subst hq0_;exact z_),?_⟩
      subst hq0_
      exact xdw mn (fun _ h_ H_=>yvx (n:=t.m) Tryd.underlying23 tS43 rfl rfl rfl hcap) ⟨rfl,rfl⟩
     refine xaw rfl (xdk ?_) ?_
     ·
      intro val25 pc26 hQ_ hX_
      obtain ⟨q_,hq0_⟩: ∃ q_:Value→Pcs→Prop,q_=(fun v_ x_=>v_= .agg #[.int .i64 (x),.int .i64 (y)]∧x_=[]):=⟨_,rfl⟩
      refine ⟨(zq16 (zq32 [])),[],q_,rfl,rfl,(fun _ _ z_=>by subst hq0_;exact z_),?_⟩
      subst hq0_
      exact xdw mn (fun _ h_ H_=>xav H_ tA43 tS43 rfl (i:=1) rfl (vs:=[.int .i64 (x),.int .i64 (y)]) rfl rfl) ⟨rfl,rfl⟩
     refine xaw rfl (xdk ?_) ?_
     ·
      intro val25 pc26 hQ_ hX_
      have e9_:val25 9= .agg #[.int .i64 (x),.int .i64 (y)]:=(hQ_ 9 rfl).1
      obtain ⟨q_,hq0_⟩: ∃ q_:Value→Pcs→Prop,q_=(fun v_ x_=>OwnS 43 2 v_ [[.int .i64 (x),.int .i64 (y)]] x_):=⟨_,rfl⟩
      refine ⟨(zq16 (zq32 [])),[],q_,(by rw [e9_]),rfl,(fun _ _ z_=>by subst hq0_;exact z_),?_⟩
      subst hq0_
      exact xmw mn Tryd.underlying23 tS43 tZ43 (Nat.le_of_ble_eq_true rfl) (vs:=[(0,.agg #[.int .i64 (x),.int .i64 (y)])]) rfl rfl (es:=[[.int .i64 (x),.int .i64 (y)]]) rfl rfl rfl fun _ _ o_=>o_
     exact xlq rfl
    intro val25 pc26 hQ_ hX_
    have e0_:val25 0= .pointer (some ⟨b1,2,none⟩):=(hQ_ 0 (by decide)).1
    have e1_:val25 1= .slice a3 t.m c3:=(hQ_ 1 (by decide)).1
    have e2_:val25 2= .pointer (some ⟨b1,2,none⟩):=(hQ_ 2 (by decide)).1
    have e3_:val25 3= .slice a3 t.m c3:=(hQ_ 3 (by decide)).1
    have e4_:val25 4= .int .i64 (((t.m:Nat):Int)):=(hQ_ 4 (by decide)).1
    have e5_:val25 5= .pointer (some ⟨b1,2,none⟩):=(hQ_ 5 (by decide)).1
    have e6_:val25 6= .slice a3 t.m c3:=(hQ_ 6 (by decide)).1
    have e7_:val25 7= .int .i64 (((t.m:Nat):Int)):=(hQ_ 7 (by decide)).1
    have e8_:val25 8= .slice a3 t.m t.m:=(hQ_ 8 (by decide)).1
    have e9_:val25 9= .agg #[.int .i64 (x),.int .i64 (y)]:=(hQ_ 9 (by decide)).1
    have q10_:OwnS 43 2 (val25 10) [[.int .i64 (x),.int .i64 (y)]] (pc26 10):=hQ_ 10 (by decide)
    clear hQ_ hX_
    refine xww (Φ:=fun h_=>St h [] p h_ (([(b24,.cells #[.slice a1 t.nH c1,.slice a2 t.nW c2,.slice a3 t.m c3] 25 (0,0)),(b22,.cells #[.int .i64 (x),.int .i64 (y)] 43 (0,0)),(b1,.cells #[.slice a1 t.nH c1,.slice a2 t.nW c2,.slice a3 t.m c3] 25 (0,0))]:Pcs)++(pc26 10++[]))) ?_ (fun h_ H_=>H_.swap')
    refine xfj (tm':=(zq16 (zq32 []))) (by rw [e0_,e1_,e2_,e3_,e4_,e5_,e6_,e7_,e8_,e9_]) ?_
    have o29:=q10_
    refine ytj ([(b24,.cells #[.slice a1 t.nH c1,.slice a2 t.nW c2,.slice a3 t.m c3] 25 (0,0)),(b22,.cells #[.int .i64 (x),.int .i64 (y)] 43 (0,0)),(b1,.cells #[.slice a1 t.nH c1,.slice a2 t.nW c2,.slice a3 t.m c3] 25 (0,0))]:Pcs) (pc26 10) mn Tryd.underlying23 tS43 tZ43 rfl tB43 Tryd.underlying23 rfl rfl T.y (by decide) (by decide) o29 (by simp) (by simp only [List.length_cons,List.length_nil];omega) (by decide) fun v30 X31 o32=>?_
    refine ro (xaz xhj rfl (a':=⟨b24,2,none⟩) rfl) ?_
    refine xrj mn tS23 rfl (v:=v30) rfl o32.one (i:=0) rfl (Nat.succ_le_iff.1 (Nat.le_of_ble_eq_true rfl)) (cs2:=[.slice a1 t.nH c1,.slice a2 t.nW c2,v30]) rfl (xcq (L':=([(b24,.cells #[.slice a1 t.nH c1,.slice a2 t.nW c2,v30] 25 (0,0)),(b22,.cells #[.int .i64 (x),.int .i64 (y)] 43 (0,0)),(b1,.cells #[.slice a1 t.nH c1,.slice a2 t.nW c2,.slice a3 t.m c3] 25 (0,0))]:Pcs)++(X31++[])) rfl ?_)
    refine ren ?_
    have o33:OwnS 43 2 v30 (wcs (wayM t (x,y)).wy) X31:=o32.as (xyw t.wy ((x,y):FWay))
    refine xbq ?_
    refine xbx mn (fun h_ H_=>xav H_ tA25 tS25 rfl (i:=0) rfl (vs:=[.slice a1 t.nH c1,.slice a2 t.nW c2,v30]) rfl rfl) (tm':=zq16 (zq32 [])) rfl ?_
    refine rd (fun h_ H_=>xav H_ tA25 tS25 rfl (i:=2) rfl (vs:=[.slice a1 t.nH c1,.slice a2 t.nW c2,.slice a3 t.m c3]) rfl rfl) ?_
    refine xxq (A:=([(b24,.cells #[.slice a1 t.nH c1,.slice a2 t.nW c2,v30] 25 (0,0)),(b22,.cells #[.int .i64 (x),.int .i64 (y)] 43 (0,0)),(b1,.cells #[.slice a1 t.nH c1,.slice a2 t.nW c2,.slice a3 t.m c3] 25 (0,0))]:Pcs)) o33 (yiz _) fun p34 a35 cp36 le37 ev_ D38=>?_
    subst ev_
    refine xcq (L':=[(b24,.cells #[.slice a1 t.nH c1,.slice a2 t.nW c2,.slice a35 ((wayM t (x,y)).m) cp36] 25 (0,0)),(b22,.cells #[.int .i64 (x),.int .i64 (y)] 43 (0,0)),(b1,.cells #[.slice a1 t.nH c1,.slice a2 t.nW c2,.slice a3 t.m c3] 25 (0,0))]) rfl ?_
    refine xeq mn (first:=[]) (cap:=[]) rfl rfl fC94 (fun h_ H_=>c94 md _ _ H_.pe _ _ _ _ _ _ (wayM t (x,y)) (show TownP _ _ (wayM t (x,y)).nH _ (wayM t (x,y)).nW _ (wayM t (x,y)).m (wayM t (x,y)) from ⟨(T.h.mono le37),(T.w.mono le37),(show Wys _ _ _ (wayM t (x,y)).wy from D38)⟩) (yvk hO h12 (by omega) (by omega)) _ _ _ _ _ _ t (show TownP _ _ _ _ _ _ _ t from ⟨(T.h.mono le37),(T.w.mono le37),(T.y.mono le37)⟩) hO (N.mono le37)) rfl ?_
    refine rt (xax (v:=.bool (decide (cmpL (LK (wayM t (x,y))) (LK t)<0))) rfl) (tm':=zq1 (zq2 (zq4 _))) rfl <| ro (xax (v:=.int .i64 0) rfl) <| xak ?_
    refine xdv Tryd.func55 rfl (vs:=[.bool (decide (cmpL (LK (wayM t (x,y))) (LK t)<0)),.int .i64 0]) (fun h_ H_=>⟨.bool (decide (cmpL (LK (wayM t (x,y))) (LK t)<0)),_,rfl,rfl,⟨.int .i64 0,_,rfl,rfl,rfl⟩⟩) (v:=.tuple #[.bool (decide (cmpL (LK (wayM t (x,y))) (LK t)<0)),.int .i64 0]) rfl ?_
    exact fun h_ H_=>K _ _ ⟨by rw [znw ha0_ ‹_›,zbv ha0_ ‹_›],H_.kept⟩
end Go.Proofs.YtalfgojocdonhaaDoor
