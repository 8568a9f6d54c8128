/-
  BucketsOrder, for every input: the law returns true and leaves its arguments as they were. The row, and the tied card.
-/
import Derived.Test.YtalfgojocdonhaaDoorD2
import Derived.Test.YtalfgojocdonhaaDoorD1
import Derived.Test.YtalfgojocdonhaaDoorD3
import Derived.Test.YtalfgojocdonhaaDoorD4
import Derived.Test.YtalfgojocdonhaaDoorD5
import Derived.Test.YtalfgojocdonhaaDoorCards
import Derived.Test.YtalfgojocdonhaaDoorTie
namespace Go.Proofs.YtalfgojocdonhaaDoor
open Go.X Go.X.Flow Go.Conc
set_option maxRecDepth 10000
set_option synthInstance.maxSize 2000

set_option maxHeartbeats 2000000
theorem e4 (h:Heap) (p:PHeap) (hp:Per p h) (a1 a2 a3:Option Addr) (c1 c2 c3:Nat) (t:Tn) (T:TownP p a1 t.nH a2 t.nW a3 t.m t) (hl:t.nH≤9223372036854775807∧t.nW≤9223372036854775807∧t.m≤9223372036854775807) (s r:Int) (N:NoneP p) (Z:TabP p):EntersL Tryd.prog 4 #[.agg #[.slice a1 t.nH c1,.slice a2 t.nW c2,.slice a3 t.m c3],.int .i64 (s),.int .i64 (r)] h fun v h'=>v= .bool true∧Keep h h':=by
 refine yak (Φ:=fun h_=>St h [] p h_ []) Tryd.func4 rfl (tm:=zq1 (zq2 (zq4 (zq8 (zq32 (zq32 (zq32 (zq32 (zq32 (zq32 (zq32 []))))))))))) rfl ?_ (St.start h _ hp)
 intro cs
 refine fsr ?_
 refine xjx mn (v:=.agg #[.slice a1 t.nH c1,.slice a2 t.nW c2,.slice a3 t.m c3]) rfl fun b1=>xcq (L':=[(b1,.cells #[.slice a1 t.nH c1,.slice a2 t.nW c2,.slice a3 t.m c3] 25 (0,0))]) rfl ?_
 refine ro (xax (v:=.bool (false)) rfl) <| ren <| fsr ?_
 refine xbq mn (fun h_ H_=>xaw H_ tA25 tS25 rfl (i:=0) rfl (vs:=[.slice a1 t.nH c1,.slice a2 t.nW c2,.slice a3 t.m c3]) rfl rfl) (tm':=zq1 (zq4 (zq8 (zq16 _)))) rfl ?_
 refine xdv mn (first:=[]) (cap:=[]) rfl rfl fC23 (fun h_ H_=>c23 .lone _ _ H_.pe _ _ _ _ _ _ t (show TownP _ _ _ _ _ _ _ t from ⟨T.h,T.w,T.y⟩) hl) rfl ?_
 refine ro (xgw rfl) <| rt (xaq (v:=.bool (!(readyB t))) rfl) (tm':=zq32 _) rfl ?_
 rcases xzj (readyB t) with cc2 | cc2
 ·
  obtain ⟨hf_,hc_⟩:=yhk cc2
  have hn:t.nH≤40∧t.nW≤40∧t.m≤41:=by have z_:=ymx hf_;unfold Big at z_;omega
  have hO:OkT t:=xuq hc_
  obtain ⟨h12,hV⟩:=yrx hc_
  have oH:=hO.nh
  have lh_:t.hs.length≤40:=hn.1
  have lw_:t.ws.length≤40:=hn.2.1
  have hs2_:(shortP t).length≤6:=ylk t (2 ^ t.nH) (ysv hO.toOk)
  refine xbq (ms rfl rfl (xej cc2)) (fun h_ H_=>xaq (v:=.int .i64 (s)) rfl) rfl ?_
  refine xbq (ms rfl rfl (xej cc2)) (fun h_ H_=>xaq (v:=.int .i64 (r)) rfl) rfl ?_
  refine xbq (ms rfl rfl (xej cc2)) (fun h_ H_=>yuk rfl rfl) (tm':=zq1 (zq2 (zq32 _))) rfl ?_
  refine xbq (ms rfl rfl (xej cc2)) (fun h_ H_=>xgk rfl rfl) rfl ?_
  refine ro (xck rfl (xej cc2) (v:=.bool (decide (min s r<0))) rfl) <| rt (xaq (v:=.bool (decide (min s r<0))) rfl) (tm':=zq2 (zq4 (zq32 _))) rfl ?_
  by_cases cc3:min s r<0
  ·
   refine rp (mo rfl rfl (dtt cc3)) <| rp (mo rfl rfl (dtt cc3)) <| xfj (mo rfl rfl (dtt cc3)) (tm':=zq1 (zq8 (zq32 _))) rfl <| rp (mo rfl rfl (dtt cc3)) <| ro (xdj rfl (dtt cc3) (v:=.bool (true)) rfl) <| xav ?_
   refine xdw rfl rfl <| fsr ?_
   refine xdv mn (first:=[]) (cap:=[]) rfl rfl fC16 (fun h_ H_=>c16 .lone _ _ H_.pe N Z) (tm':=zq4 (zq8 (zq32 _))) rfl ?_
   refine ro (xax (v:=.bool (true)) rfl) <| xav ?_
   refine xqv Tryd.func4 rfl (vs:=[.bool (true)]) (fun h_ H_=>⟨.bool (true),_,rfl,rfl,rfl⟩) (v:=.bool (true)) rfl ?_
   exact fun h_ H_=>⟨rfl,H_.kept⟩
  ·
   refine xbq (ms rfl rfl (dff cc3)) (fun h_ H_=>xaq (v:=.int .i64 (s)) rfl) rfl ?_
   refine xbq (ms rfl rfl (dff cc3)) (fun h_ H_=>xaq (v:=.int .i64 (r)) rfl) (tm':=zq8 (zq32 _)) rfl ?_
   refine xbq (ms rfl rfl (dff cc3)) (fun h_ H_=>wkv rfl rfl) rfl ?_
   refine xbq (ms rfl rfl (dff cc3)) (fun h_ H_=>xjq rfl rfl) rfl ?_
   refine rt (xck rfl (dff cc3) (v:=.bool (decide (100<max s r))) rfl) (tm':=zq1 (zq2 (zq8 (zq32 _)))) rfl <| xav ?_
   by_cases cc4:100<max s r
   ·
    refine xdw rfl (dtt cc4) <| fsr ?_
    refine xdv mn (first:=[]) (cap:=[]) rfl rfl fC16 (fun h_ H_=>c16 .lone _ _ H_.pe N Z) rfl ?_
    refine ro (xax (v:=.bool (true)) rfl) <| xav ?_
    refine xqv Tryd.func4 rfl (vs:=[.bool (true)]) (fun h_ H_=>⟨.bool (true),_,rfl,rfl,rfl⟩) (v:=.bool (true)) rfl ?_
    exact fun h_ H_=>⟨rfl,H_.kept⟩
   ·
    have hr_:0≤r∧r≤100:=by omega
    have hs_:0≤s∧s≤100:=by omega
    refine xdx rfl (dff cc4) <| xdk <| fsr ?_
    refine xbq mn (fun h_ H_=>xaw H_ tA25 tS25 rfl (i:=0) rfl (vs:=[.slice a1 t.nH c1,.slice a2 t.nW c2,.slice a3 t.m c3]) rfl rfl) (tm':=zq2 (zq4 (zq8 (zq32 _)))) rfl ?_
    refine xcq (L':=([(b1,.cells #[.slice a1 t.nH c1,.slice a2 t.nW c2,.slice a3 t.m c3] 25 (0,0))]:Pcs)++[]) rfl ?_
    refine xjj mn (first:=[]) (cap:=[]) rfl rfl fC24 (R:=fun v_ h_=>∃ w5:Value,∃ X6:Pcs,v_= .tuple #[w5,.bool (true)]∧(OwnS 3 1 w5 (ics (LK t)) X6)∧St h [] p h_ (([(b1,.cells #[.slice a1 t.nH c1,.slice a2 t.nW c2,.slice a3 t.m c3] 25 (0,0))]:Pcs)++(X6++[]))) (fun h_ H_=>(c24 .lone _ _ H_.pe _ _ _ _ _ _ t (show TownP _ _ _ _ _ _ _ t from ⟨T.h,T.w,T.y⟩) (by omega) N hc_).mono fun v_ h2_ ⟨w5,X6,e_,o7,N_⟩=>⟨w5,X6,e_,o7,H_.callNA N_⟩) fun v_=>?_
    refine xgz fun w5=>xgz fun X6=>xfx fun ev_=>xfx fun o7=>?_
    have ev_:=ev_.symm;subst ev_
    refine xcq (L':=([(b1,.cells #[.slice a1 t.nH c1,.slice a2 t.nW c2,.slice a3 t.m c3] 25 (0,0))]:Pcs)++(X6++[])) rfl ?_
    refine ro (xaq (v:=.tuple #[w5,.bool (true)]) rfl) <| rt (xdz rfl (v:=w5) rfl) (tm':=zq16 (zq32 _)) rfl <| ro (xdz rfl (v:=.bool (true)) rfl) <| ro (xax (v:=w5) rfl) <| rt (xax (v:=.bool (true)) rfl) (tm':=zq1 (zq8 _)) rfl <| ren ?_
    refine xbx <| rd (fun h_ H_=>xaw H_ tA25 tS25 rfl (i:=0) rfl (vs:=[.slice a1 t.nH c1,.slice a2 t.nW c2,.slice a3 t.m c3]) rfl rfl) ?_
    refine xjj mn (first:=[]) (cap:=[]) rfl rfl fC25 (R:=fun v_ h_=>∃ w8:Value,∃ X9:Pcs,v_= .tuple #[w8,.int .i64 (shortE t)]∧(OwnS 3 1 w8 (ics (shortP t)) X9)∧St h [] p h_ (([(b1,.cells #[.slice a1 t.nH c1,.slice a2 t.nW c2,.slice a3 t.m c3] 25 (0,0))]:Pcs)++(X9++(X6++[])))) (fun h_ H_=>(zrw .lone H_.pe (show TownP _ _ _ _ _ _ _ t from ⟨T.h,T.w,T.y⟩) (by omega) Z hc_).mono fun v_ h2_ ⟨w8,X9,e_,o10,N_⟩=>⟨w8,X9,e_,o10,H_.callNA N_⟩) fun v_=>?_
    refine xgz fun w8=>xgz fun X9=>xfx fun ev_=>xfx fun o10=>?_
    have ev_:=ev_.symm;subst ev_
    refine xcq (L':=([(b1,.cells #[.slice a1 t.nH c1,.slice a2 t.nW c2,.slice a3 t.m c3] 25 (0,0))]:Pcs)++(X9++(X6++[]))) rfl ?_
    refine rt (xaq (v:=.tuple #[w8,.int .i64 (shortE t)]) rfl) (tm':=zq2 (zq16 (zq32 _))) rfl <| ro (xdz rfl (v:=w8) rfl) <| ro (xdz rfl (v:=.int .i64 (shortE t)) rfl) <| rt (xax (v:=w8) rfl) (tm':=zq2 (zq8 _)) rfl <| ro (xax (v:=.int .i64 (shortE t)) rfl) <| ren ?_
    refine xfz (List.Perm.append_left _ (List.perm_append_comm_assoc _ _ _)) ?_
    refine xkw (L':=([(b1,.cells #[.slice a1 t.nH c1,.slice a2 t.nW c2,.slice a3 t.m c3] 25 (0,0))]:Pcs)++(X6++(X9++[]))) rfl ?_
    refine xix (A:=([(b1,.cells #[.slice a1 t.nH c1,.slice a2 t.nW c2,.slice a3 t.m c3] 25 (0,0))]:Pcs)) o7 ((xcx _).trans (xpj _)) fun p11 a12 cp13 le14 ev_ D15=>?_
    subst ev_
    refine xix (A:=([(b1,.cells #[.slice a1 t.nH c1,.slice a2 t.nW c2,.slice a3 t.m c3] 25 (0,0))]:Pcs)) o10 ((xcx _).trans rfl) fun p16 a17 cp18 le19 ev_ D20=>?_
    subst ev_
    refine xkw (L':=[(b1,.cells #[.slice a1 t.nH c1,.slice a2 t.nW c2,.slice a3 t.m c3] 25 (0,0))]) rfl ?_
    obtain ⟨Gb23,hG9_⟩:=sk1 (fun (v_:Value) (x_:Pcs) (b23:Nat)=>v_= .pointer (some ⟨b23,0,none⟩)∧x_=(([(b23,.cells #[.slice none 0 0,.slice none 0 0,.slice none 0 0] 25 (0,0))]:Pcs)++[]))
    refine xyx (xlz (C:=[]) (A:=([(b1,.cells #[.slice a1 t.nH c1,.slice a2 t.nW c2,.slice a3 t.m c3] 25 (0,0))]:Pcs)) 10 [] [] [3,7,9] [1,2,4,5,6,8] (fun _=>[]) (fun i_=>match i_ with | 3=>[0] | _=>[]) (fun i_=>match i_ with | 0=>[] | 1=>[] | 2=>[1] | 3=>[0,2] | 4=>[] | 5=>[4] | 6=>[5] | 7=>[6] | 8=>[3,7] | 9=>[] | _=>[]) (fun i_ val_ pc_ v_ x_=>match i_ with | 0=>OwnS 3 1 v_ [] x_ | 1=>v_= .pointer (some ⟨b1,0,none⟩)∧x_=[] | 2=>v_= .slice a1 t.nH c1∧x_=[] | 3=>OwnS 3 1 v_ ([]++(t.hs.map fun x=>[Value.int .i64 x])) x_ | 4=>v_= .pointer (some ⟨b1,1,none⟩)∧x_=[] | 5=>v_= .slice a2 t.nW c2∧x_=[] | 6=>v_= .int .i64 (((t.nW:Nat):Int))∧x_=[] | 7=>OwnS 3 1 v_ (ics (List.replicate t.nW (0:Int))) x_ | 8=>v_= .agg #[(val_ 3),(val_ 7),.slice none 0 0]∧x_=[] | 9=>∃ b23:Nat,v_= .pointer (some ⟨b23,0,none⟩)∧x_=(([(b23,.cells #[.slice none 0 0,.slice none 0 0,.slice none 0 0] 25 (0,0))]:Pcs)++[]) | _=>True) (fun val21=>(.agg #[.slice a1 t.nH c1,.slice a2 t.nW c2,.slice a3 t.m c3]::.int .i64 (s)::.int .i64 (r)::.pointer (some ⟨b1,0,none⟩)::undef::undef::.bool (false)::.slice a12 t.nH cp13::.bool (true)::.slice a17 ((shortP t).length) cp18::.int .i64 (shortE t)::(val21 9)::zu16 (.agg #[.slice a1 t.nH c1,.slice a2 t.nW c2,.slice a3 t.m c3]::.bool (readyB t)::.bool (!(readyB t))::.bool (!(readyB t))::.int .i64 (s)::.int .i64 (r)::.int .i64 (min s r)::.bool (decide (min s r<0))::.bool (decide (min s r<0))::.bool (decide (min s r<0))::.int .i64 (s)::.int .i64 (r)::.int .i64 (max s r)::.bool (decide (100<max s r))::.bool (decide (100<max s r))::undef::.tuple #[.slice a12 t.nH cp13,.bool (true)]::.agg #[.slice a1 t.nH c1,.slice a2 t.nW c2,.slice a3 t.m c3]::.tuple #[.slice a12 t.nH cp13,.bool (true)]::.slice a12 t.nH cp13::.bool (true)::.tuple #[.slice a17 ((shortP t).length) cp18,.int .i64 (shortE t)]::.agg #[.slice a1 t.nH c1,.slice a2 t.nW c2,.slice a3 t.m c3]::.tuple #[.slice a17 ((shortP t).length) cp18,.int .i64 (shortE t)]::.slice a17 ((shortP t).length) cp18::.int .i64 (shortE t)::(val21 0)::(val21 1)::(val21 2)::(val21 3)::(val21 4)::(val21 5)::(val21 6)::(val21 7)::(val21 8)::zu16 (zu16 (zu16 (zu16 (zu16 (zu16 (zu16 (zu16 (zu16 (zu16 (zu16 []))))))))))))) xkv (by kernel_rfl) (Nat.le_of_ble_eq_true rfl) (by kernel_rfl) (by kernel_rfl) (by kernel_rfl) (fun _ _=>⟨fun _ _ h=>h.2,⟨fun _ _ h=>h.2,⟨fun _ _ h=>h.2,⟨fun _ _ h=>h.2,⟨fun _ _ h=>h.2,⟨fun _ _ h=>h.2,trivial⟩⟩⟩⟩⟩⟩) (fun _=>by kernel_rfl) (by kernel_rfl) ?_ ?_) (fun h_ H_=>St.swap (A:=([(b1,.cells #[.slice a1 t.nH c1,.slice a2 t.nW c2,.slice a3 t.m c3] 25 (0,0))]:Pcs)) (U:=[]) H_)
    ·
     refine xak rfl (xcj ?_) ?_
     ·
      intro val21 pc22 hQ_ hX_
      obtain ⟨q_,hq0_⟩: ∃ q_:Value→Pcs→Prop,q_=(fun v_ x_=>OwnS 3 1 v_ [] x_):=⟨_,rfl⟩
      refine ⟨(zq1 (zq2 (zq4 (zq8 (zq32 (zq32 (zq32 (zq32 (zq32 (zq32 (zq32 []))))))))))),[],q_,rfl,rfl,(fun _ _ z_=>by subst hq0_;exact z_),?_⟩
      subst hq0_
      exact xnj mn Tryd.underlying22 tS3 tZ3 (Nat.le_of_ble_eq_true rfl) (vs:=[]) rfl rfl (es:=[]) rfl rfl rfl fun _ _ o_=>o_
     refine xak rfl (xcj ?_) ?_
     ·
      intro val21 pc22 hQ_ hX_
      obtain ⟨q_,hq0_⟩: ∃ q_:Value→Pcs→Prop,q_=(fun v_ x_=>v_= .pointer (some ⟨b1,0,none⟩)∧x_=[]):=⟨_,rfl⟩
      refine ⟨(zq1 (zq2 (zq4 (zq8 (zq32 (zq32 (zq32 (zq32 (zq32 (zq32 (zq32 []))))))))))),[],q_,rfl,rfl,(fun _ _ z_=>by subst hq0_;exact z_),?_⟩
      subst hq0_
      exact xcz mn (fun _ h_ H_=>xaz xlw rfl (a':=⟨b1,0,none⟩) rfl) ⟨rfl,rfl⟩
     refine xak rfl (xcj ?_) ?_
     ·
      intro val21 pc22 hQ_ hX_
      have e1_:val21 1= .pointer (some ⟨b1,0,none⟩):=(hQ_ 1 rfl).1
      obtain ⟨q_,hq0_⟩: ∃ q_:Value→Pcs→Prop,q_=(fun v_ x_=>v_= .slice a1 t.nH c1∧x_=[]):=⟨_,rfl⟩
      refine ⟨(zq1 (zq2 (zq4 (zq8 (zq32 (zq32 (zq32 (zq32 (zq32 (zq32 (zq32 []))))))))))),[],q_,(by rw [e1_]),rfl,(fun _ _ z_=>by subst hq0_;exact z_),?_⟩
      subst hq0_
      exact xcz mn (fun _ h_ H_=>xaj H_ tA22 rfl (i:=0) rfl (v:=.slice a1 t.nH c1) rfl) ⟨rfl,rfl⟩
     refine xak rfl (xcj ?_) ?_
     ·
      intro val21 pc22 hQ_ hX_
      have q0_:OwnS 3 1 (val21 0) [] (pc22 0):=hQ_ 0 rfl
      have e2_:val21 2= .slice a1 t.nH c1:=(hQ_ 2 rfl).1
      obtain ⟨q_,hq0_⟩: ∃ q_:Value→Pcs→Prop,q_=(fun v_ x_=>OwnS 3 1 v_ ([]++(t.hs.map fun x=>[Value.int .i64 x])) x_):=⟨_,rfl⟩
      refine ⟨(zq1 (zq2 (zq4 (zq8 (zq32 (zq32 (zq32 (zq32 (zq32 (zq32 (zq32 []))))))))))),((pc22 0)++[]),q_,(by rw [e2_]),rfl,(fun _ _ z_=>by subst hq0_;exact z_),?_⟩
      subst hq0_
      exact xrz mn Tryd.underlying22 tS3 tZ3 rfl tB3 Tryd.underlying22 rfl rfl q0_ ((T.h.mono le14).mono le19) (xrj _) (by first | omega | (simp;omega) | simp) (by decide) (by decide) fun _ _ o_=>o_
     refine xak rfl (xcj ?_) ?_
     ·
      intro val21 pc22 hQ_ hX_
      obtain ⟨q_,hq0_⟩: ∃ q_:Value→Pcs→Prop,q_=(fun v_ x_=>v_= .pointer (some ⟨b1,1,none⟩)∧x_=[]):=⟨_,rfl⟩
      refine ⟨(zq1 (zq2 (zq4 (zq8 (zq32 (zq32 (zq32 (zq32 (zq32 (zq32 (zq32 []))))))))))),[],q_,rfl,rfl,(fun _ _ z_=>by subst hq0_;exact z_),?_⟩
      subst hq0_
      exact xcz mn (fun _ h_ H_=>xaz xmz rfl (a':=⟨b1,1,none⟩) rfl) ⟨rfl,rfl⟩
     refine xak rfl (xcj ?_) ?_
     ·
      intro val21 pc22 hQ_ hX_
      have e4_:val21 4= .pointer (some ⟨b1,1,none⟩):=(hQ_ 4 rfl).1
      obtain ⟨q_,hq0_⟩: ∃ q_:Value→Pcs→Prop,q_=(fun v_ x_=>v_= .slice a2 t.nW c2∧x_=[]):=⟨_,rfl⟩
      refine ⟨(zq1 (zq2 (zq4 (zq8 (zq32 (zq32 (zq32 (zq32 (zq32 (zq32 (zq32 []))))))))))),[],q_,(by rw [e4_]),rfl,(fun _ _ z_=>by subst hq0_;exact z_),?_⟩
      subst hq0_
      exact xcz mn (fun _ h_ H_=>xaj H_ tA22 rfl (i:=0) rfl (v:=.slice a2 t.nW c2) rfl) ⟨rfl,rfl⟩
     refine xak rfl (xcj ?_) ?_
     ·
      intro val21 pc22 hQ_ hX_
      have e5_:val21 5= .slice a2 t.nW c2:=(hQ_ 5 rfl).1
      obtain ⟨q_,hq0_⟩: ∃ q_:Value→Pcs→Prop,q_=(fun v_ x_=>v_= .int .i64 (((t.nW:Nat):Int))∧x_=[]):=⟨_,rfl⟩
      refine ⟨(zq1 (zq2 (zq4 (zq8 (zq32 (zq32 (zq32 (zq32 (zq32 (zq32 (zq32 []))))))))))),[],q_,(by rw [e5_]),rfl,(fun _ _ z_=>by subst hq0_;exact z_),?_⟩
      subst hq0_
      exact xcz mn (fun _ h_ H_=>xfk Tryd.underlying22 rfl) ⟨rfl,rfl⟩
     refine xak rfl (xcj ?_) ?_
     ·
      intro val21 pc22 hQ_ hX_
      have e6_:val21 6= .int .i64 (((t.nW:Nat):Int)):=(hQ_ 6 rfl).1
      obtain ⟨q_,hq0_⟩: ∃ q_:Value→Pcs→Prop,q_=(fun v_ x_=>OwnS 3 1 v_ (ics (List.replicate t.nW (0:Int))) x_):=⟨_,rfl⟩
      refine ⟨(zq1 (zq2 (zq4 (zq8 (zq32 (zq32 (zq32 (zq32 (zq32 (zq32 (zq32 []))))))))))),[],q_,(by rw [e6_]),rfl,(fun _ _ z_=>by subst hq0_;exact z_),?_⟩
      subst hq0_
      exact ycx (n:=t.nW) (zc:=[.int .i64 0]) mn Tryd.underlying22 tS3 tZ3 rfl rfl (by decide) (by decide) tB3 rfl rfl (by omega) (by decide) fun _ _ o_=>o_.as (zaw _)
     refine xak rfl (xcj ?_) ?_
     ·
      intro val21 pc22 hQ_ hX_
      have q3_:OwnS 3 1 (val21 3) ([]++(t.hs.map fun x=>[Value.int .i64 x])) (pc22 3):=hQ_ 3 rfl
      have q7_:OwnS 3 1 (val21 7) (ics (List.replicate t.nW (0:Int))) (pc22 7):=hQ_ 7 rfl
      obtain ⟨q_,hq0_⟩: ∃ q_:Value→Pcs→Prop,q_=(fun v_ x_=>v_= .agg #[(val21 3),(val21 7),.slice none 0 0]∧x_=[]):=⟨_,rfl⟩
      refine ⟨(zq1 (zq2 (zq4 (zq8 (zq32 (zq32 (zq32 (zq32 (zq32 (zq32 (zq32 []))))))))))),[],q_,rfl,rfl,(fun _ _ z_=>by subst hq0_;exact z_),?_⟩
      subst hq0_
      exact xcz mn (fun _ h_ H_=>xhv tZ25 tP25 (vs:=[(0,(val21 3)),(1,(val21 7))]) rfl (cells:=#[(val21 3),(val21 7),.slice none 0 0]) (zjq (F:=fun x_ y_=>#[x_,y_,.slice none 0 0]) q3_ q7_ fun _ _ _ _ _ _=>rfl)) ⟨rfl,rfl⟩
     refine xak rfl (xcj ?_) ?_
     ·
      intro val21 pc22 hQ_ hX_
      obtain ⟨q_,hq0_⟩: ∃ q_:Value→Pcs→Prop,q_=(fun v_ x_=>∃ b23:Nat,v_= .pointer (some ⟨b23,0,none⟩)∧x_=(([(b23,.cells #[.slice none 0 0,.slice none 0 0,.slice none 0 0] 25 (0,0))]:Pcs)++[])):=⟨_,rfl⟩
      refine ⟨(zq1 (zq2 (zq4 (zq8 (zq32 (zq32 (zq32 (zq32 (zq32 (zq32 (zq32 []))))))))))),[],q_,rfl,rfl,(fun _ _ z_=>by subst hq0_;exact z_),?_⟩
      subst hq0_
      exact ycz mn tZ25 rfl fun b_=>⟨b_,rfl,rfl⟩
     exact xlx rfl
    intro val21 pc22 hQ_ hX_
    have e1_:val21 1= .pointer (some ⟨b1,0,none⟩):=(hQ_ 1 (by decide)).1
    have e2_:val21 2= .slice a1 t.nH c1:=(hQ_ 2 (by decide)).1
    have q3_:OwnS 3 1 (val21 3) ([]++(t.hs.map fun x=>[Value.int .i64 x])) (pc22 3):=hQ_ 3 (by decide)
    have e4_:val21 4= .pointer (some ⟨b1,1,none⟩):=(hQ_ 4 (by decide)).1
    have e5_:val21 5= .slice a2 t.nW c2:=(hQ_ 5 (by decide)).1
    have e6_:val21 6= .int .i64 (((t.nW:Nat):Int)):=(hQ_ 6 (by decide)).1
    have q7_:OwnS 3 1 (val21 7) (ics (List.replicate t.nW (0:Int))) (pc22 7):=hQ_ 7 (by decide)
    have e8_:val21 8= .agg #[(val21 3),(val21 7),.slice none 0 0]:=(hQ_ 8 (by decide)).1
    obtain ⟨e9_,x9_⟩:=hG9_ _ _ (hQ_ 9 (by decide))
    clear hQ_ hX_
    generalize Gb23 (val21 9) (pc22 9)=b23 at*
    refine xwv (Φ:=fun h_=>St h [] p16 h_ (([(b1,.cells #[.slice a1 t.nH c1,.slice a2 t.nW c2,.slice a3 t.m c3] 25 (0,0))]:Pcs)++(pc22 3++(pc22 7++(pc22 9++[]))))) ?_ (fun h_ H_=>H_.swap')
    rw [x9_]
    refine xcq (L':=([(b1,.cells #[.slice a1 t.nH c1,.slice a2 t.nW c2,.slice a3 t.m c3] 25 (0,0))]:Pcs)++((pc22 3)++((pc22 7)++(([(b23,.cells #[.slice none 0 0,.slice none 0 0,.slice none 0 0] 25 (0,0))]:Pcs)++[])))) (by simp) ?_
    refine xgq (tm':=(zq1 (zq2 (zq4 (zq8 (zq32 (zq32 (zq32 (zq32 (zq32 (zq32 (zq32 [])))))))))))) (by rw [e1_,e2_,e4_,e5_,e6_,e8_,e9_]) ?_
    refine xcq (L':=([(b1,.cells #[.slice a1 t.nH c1,.slice a2 t.nW c2,.slice a3 t.m c3] 25 (0,0))]:Pcs)++((pc22 3)++((pc22 7)++(([(b23,.cells #[.slice none 0 0,.slice none 0 0,.slice none 0 0] 25 (0,0))]:Pcs)++[])))) rfl ?_
    refine xjz (List.Perm.append_left _ (List.Perm.append_left _ (List.perm_append_comm_assoc _ _ _))) ?_
    refine xjz (List.Perm.append_left _ (List.perm_append_comm_assoc _ _ _)) ?_
    refine xcq (L':=([(b1,.cells #[.slice a1 t.nH c1,.slice a2 t.nW c2,.slice a3 t.m c3] 25 (0,0))]:Pcs)++(([(b23,.cells #[.slice none 0 0,.slice none 0 0,.slice none 0 0] 25 (0,0))]:Pcs)++((pc22 3)++((pc22 7)++[])))) rfl ?_
    refine xjz (List.perm_append_comm_assoc ([(b1,.cells #[.slice a1 t.nH c1,.slice a2 t.nW c2,.slice a3 t.m c3] 25 (0,0))]:Pcs) ([(b23,.cells #[.slice none 0 0,.slice none 0 0,.slice none 0 0] 25 (0,0))]:Pcs) _) ?_
    refine xcq (L':=([(b23,.cells #[.slice none 0 0,.slice none 0 0,.slice none 0 0] 25 (0,0)),(b1,.cells #[.slice a1 t.nH c1,.slice a2 t.nW c2,.slice a3 t.m c3] 25 (0,0))]:Pcs)++((pc22 3)++((pc22 7)++[]))) rfl ?_
    have o27:=q3_
    have o28:=q7_
    refine xiq mn tS25 rfl (v:=.agg #[(val21 3),(val21 7),.slice none 0 0]) rfl (i:=0) rfl rfl (xew o27.one.2 (xew o28.one.2 (xew rfl rfl))) (Nat.le_of_ble_eq_true rfl) (cs2:=[(val21 3),(val21 7),.slice none 0 0]) rfl (xcq (L':=([(b23,.cells #[(val21 3),(val21 7),.slice none 0 0] 25 (0,0)),(b1,.cells #[.slice a1 t.nH c1,.slice a2 t.nW c2,.slice a3 t.m c3] 25 (0,0))]:Pcs)++((pc22 3)++((pc22 7)++[]))) rfl ?_)
    refine ren ?_
    obtain ⟨Gb31,hG9_⟩:=sk1 (fun (v_:Value) (x_:Pcs) (b31:Nat)=>v_= .pointer (some ⟨b31,0,none⟩)∧x_=(([(b31,.cells #[.slice none 0 0,.slice none 0 0,.slice none 0 0] 25 (0,0))]:Pcs)++[]))
    refine xyx (xlz (C:=[]) (A:=([(b23,.cells #[(val21 3),(val21 7),.slice none 0 0] 25 (0,0)),(b1,.cells #[.slice a1 t.nH c1,.slice a2 t.nW c2,.slice a3 t.m c3] 25 (0,0))]:Pcs)) 10 [] [10,11] [10,11,3,7,9] [0,1,2,5,6,8] (fun i_=>match i_ with | 10=>(pc22 3) | 11=>(pc22 7) | _=>[]) (fun i_=>match i_ with | 7=>[4] | _=>[]) (fun i_=>match i_ with | 0=>[] | 1=>[0] | 2=>[1] | 3=>[2] | 4=>[] | 5=>[] | 6=>[5] | 7=>[4,6] | 8=>[3,7] | 9=>[] | _=>[]) (fun i_ val_ pc_ v_ x_=>match i_ with | 0=>v_= .pointer (some ⟨b1,0,none⟩)∧x_=[] | 1=>v_= .slice a1 t.nH c1∧x_=[] | 2=>v_= .int .i64 (((t.nH:Nat):Int))∧x_=[] | 3=>OwnS 3 1 v_ (ics (List.replicate t.nH (0:Int))) x_ | 4=>OwnS 3 1 v_ [] x_ | 5=>v_= .pointer (some ⟨b1,1,none⟩)∧x_=[] | 6=>v_= .slice a2 t.nW c2∧x_=[] | 7=>OwnS 3 1 v_ ([]++(t.ws.map fun x=>[Value.int .i64 x])) x_ | 8=>v_= .agg #[(val_ 3),(val_ 7),.slice none 0 0]∧x_=[] | 9=>∃ b31:Nat,v_= .pointer (some ⟨b31,0,none⟩)∧x_=(([(b31,.cells #[.slice none 0 0,.slice none 0 0,.slice none 0 0] 25 (0,0))]:Pcs)++[]) | _=>True) (fun val29=>(.agg #[.slice a1 t.nH c1,.slice a2 t.nW c2,.slice a3 t.m c3]::.int .i64 (s)::.int .i64 (r)::.pointer (some ⟨b1,0,none⟩)::undef::undef::.bool (false)::.slice a12 t.nH cp13::.bool (true)::.slice a17 ((shortP t).length) cp18::.int .i64 (shortE t)::.pointer (some ⟨b23,0,none⟩)::(val29 9)::undef::undef::undef::zu4 (zu8 (.agg #[.slice a1 t.nH c1,.slice a2 t.nW c2,.slice a3 t.m c3]::.bool (readyB t)::.bool (!(readyB t))::.bool (!(readyB t))::.int .i64 (s)::.int .i64 (r)::.int .i64 (min s r)::.bool (decide (min s r<0))::.bool (decide (min s r<0))::.bool (decide (min s r<0))::.int .i64 (s)::.int .i64 (r)::.int .i64 (max s r)::.bool (decide (100<max s r))::.bool (decide (100<max s r))::undef::.tuple #[.slice a12 t.nH cp13,.bool (true)]::.agg #[.slice a1 t.nH c1,.slice a2 t.nW c2,.slice a3 t.m c3]::.tuple #[.slice a12 t.nH cp13,.bool (true)]::.slice a12 t.nH cp13::.bool (true)::.tuple #[.slice a17 ((shortP t).length) cp18,.int .i64 (shortE t)]::.agg #[.slice a1 t.nH c1,.slice a2 t.nW c2,.slice a3 t.m c3]::.tuple #[.slice a17 ((shortP t).length) cp18,.int .i64 (shortE t)]::.slice a17 ((shortP t).length) cp18::.int .i64 (shortE t)::(val21 0)::.pointer (some ⟨b1,0,none⟩)::.slice a1 t.nH c1::(val21 3)::.pointer (some ⟨b1,1,none⟩)::.slice a2 t.nW c2::.int .i64 (((t.nW:Nat):Int))::(val21 7)::.agg #[(val21 3),(val21 7),.slice none 0 0]::(val29 0)::(val29 1)::(val29 2)::(val29 3)::(val29 4)::(val29 5)::(val29 6)::(val29 7)::(val29 8)::undef::undef::undef::zu4 (zu16 (zu16 (zu16 (zu16 (zu16 (zu16 (zu16 (zu16 (zu16 (zu16 [])))))))))))))) xkv (by kernel_rfl) (Nat.le_of_ble_eq_true rfl) (by kernel_rfl) (by kernel_rfl) (by kernel_rfl) (fun _ _=>⟨fun _ _ h=>h.2,⟨fun _ _ h=>h.2,⟨fun _ _ h=>h.2,⟨fun _ _ h=>h.2,⟨fun _ _ h=>h.2,⟨fun _ _ h=>h.2,trivial⟩⟩⟩⟩⟩⟩) (fun _=>by kernel_rfl) (by kernel_rfl) ?_ ?_) (fun h_ H_=>St.swap (A:=([(b23,.cells #[(val21 3),(val21 7),.slice none 0 0] 25 (0,0)),(b1,.cells #[.slice a1 t.nH c1,.slice a2 t.nW c2,.slice a3 t.m c3] 25 (0,0))]:Pcs)) (U:=((pc22 3)++((pc22 7)++[]))) H_)
    ·
     refine xak rfl (xcj ?_) ?_
     ·
      intro val29 pc30 hQ_ hX_
      obtain ⟨q_,hq0_⟩: ∃ q_:Value→Pcs→Prop,q_=(fun v_ x_=>v_= .pointer (some ⟨b1,0,none⟩)∧x_=[]):=⟨_,rfl⟩
      refine ⟨(zq1 (zq2 (zq4 (zq8 (zq32 (zq32 (zq32 (zq32 (zq32 (zq32 (zq32 []))))))))))),[],q_,rfl,rfl,(fun _ _ z_=>by subst hq0_;exact z_),?_⟩
      subst hq0_
      exact xcz mn (fun _ h_ H_=>xaz xlw rfl (a':=⟨b1,0,none⟩) rfl) ⟨rfl,rfl⟩
     refine xak rfl (xcj ?_) ?_
     ·
      intro val29 pc30 hQ_ hX_
      have e0_:val29 0= .pointer (some ⟨b1,0,none⟩):=(hQ_ 0 rfl).1
      obtain ⟨q_,hq0_⟩: ∃ q_:Value→Pcs→Prop,q_=(fun v_ x_=>v_= .slice a1 t.nH c1∧x_=[]):=⟨_,rfl⟩
      refine ⟨(zq1 (zq2 (zq4 (zq8 (zq32 (zq32 (zq32 (zq32 (zq32 (zq32 (zq32 []))))))))))),[],q_,(by rw [e0_]),rfl,(fun _ _ z_=>by subst hq0_;exact z_),?_⟩
      subst hq0_
      exact xcz mn (fun _ h_ H_=>xaj H_ tA22 rfl (i:=1) rfl (v:=.slice a1 t.nH c1) rfl) ⟨rfl,rfl⟩
     refine xak rfl (xcj ?_) ?_
     ·
      intro val29 pc30 hQ_ hX_
      have e1_:val29 1= .slice a1 t.nH c1:=(hQ_ 1 rfl).1
      obtain ⟨q_,hq0_⟩: ∃ q_:Value→Pcs→Prop,q_=(fun v_ x_=>v_= .int .i64 (((t.nH:Nat):Int))∧x_=[]):=⟨_,rfl⟩
      refine ⟨(zq1 (zq2 (zq4 (zq8 (zq32 (zq32 (zq32 (zq32 (zq32 (zq32 (zq32 []))))))))))),[],q_,(by rw [e1_]),rfl,(fun _ _ z_=>by subst hq0_;exact z_),?_⟩
      subst hq0_
      exact xcz mn (fun _ h_ H_=>xfk Tryd.underlying22 rfl) ⟨rfl,rfl⟩
     refine xak rfl (xcj ?_) ?_
     ·
      intro val29 pc30 hQ_ hX_
      have e2_:val29 2= .int .i64 (((t.nH:Nat):Int)):=(hQ_ 2 rfl).1
      obtain ⟨q_,hq0_⟩: ∃ q_:Value→Pcs→Prop,q_=(fun v_ x_=>OwnS 3 1 v_ (ics (List.replicate t.nH (0:Int))) x_):=⟨_,rfl⟩
      refine ⟨(zq1 (zq2 (zq4 (zq8 (zq32 (zq32 (zq32 (zq32 (zq32 (zq32 (zq32 []))))))))))),[],q_,(by rw [e2_]),rfl,(fun _ _ z_=>by subst hq0_;exact z_),?_⟩
      subst hq0_
      exact ycx (n:=t.nH) (zc:=[.int .i64 0]) mn Tryd.underlying22 tS3 tZ3 rfl rfl (by decide) (by decide) tB3 rfl rfl (by omega) (by decide) fun _ _ o_=>o_.as (zaw _)
     refine xak rfl (xcj ?_) ?_
     ·
      intro val29 pc30 hQ_ hX_
      obtain ⟨q_,hq0_⟩: ∃ q_:Value→Pcs→Prop,q_=(fun v_ x_=>OwnS 3 1 v_ [] x_):=⟨_,rfl⟩
      refine ⟨(zq1 (zq2 (zq4 (zq8 (zq32 (zq32 (zq32 (zq32 (zq32 (zq32 (zq32 []))))))))))),[],q_,rfl,rfl,(fun _ _ z_=>by subst hq0_;exact z_),?_⟩
      subst hq0_
      exact xnj mn Tryd.underlying22 tS3 tZ3 (Nat.le_of_ble_eq_true rfl) (vs:=[]) rfl rfl (es:=[]) rfl rfl rfl fun _ _ o_=>o_
     refine xak rfl (xcj ?_) ?_
     ·
      intro val29 pc30 hQ_ hX_
      obtain ⟨q_,hq0_⟩: ∃ q_:Value→Pcs→Prop,q_=(fun v_ x_=>v_= .pointer (some ⟨b1,1,none⟩)∧x_=[]):=⟨_,rfl⟩
      refine ⟨(zq1 (zq2 (zq4 (zq8 (zq32 (zq32 (zq32 (zq32 (zq32 (zq32 (zq32 []))))))))))),[],q_,rfl,rfl,(fun _ _ z_=>by subst hq0_;exact z_),?_⟩
      subst hq0_
      exact xcz mn (fun _ h_ H_=>xaz xmz rfl (a':=⟨b1,1,none⟩) rfl) ⟨rfl,rfl⟩
     refine xak rfl (xcj ?_) ?_
     ·
      intro val29 pc30 hQ_ hX_
      have e5_:val29 5= .pointer (some ⟨b1,1,none⟩):=(hQ_ 5 rfl).1
      obtain ⟨q_,hq0_⟩: ∃ q_:Value→Pcs→Prop,q_=(fun v_ x_=>v_= .slice a2 t.nW c2∧x_=[]):=⟨_,rfl⟩
      refine ⟨(zq1 (zq2 (zq4 (zq8 (zq32 (zq32 (zq32 (zq32 (zq32 (zq32 (zq32 []))))))))))),[],q_,(by rw [e5_]),rfl,(fun _ _ z_=>by subst hq0_;exact z_),?_⟩
      subst hq0_
      exact xcz mn (fun _ h_ H_=>xaj H_ tA22 rfl (i:=1) rfl (v:=.slice a2 t.nW c2) rfl) ⟨rfl,rfl⟩
     refine xak rfl (xcj ?_) ?_
     ·
      intro val29 pc30 hQ_ hX_
      have q4_:OwnS 3 1 (val29 4) [] (pc30 4):=hQ_ 4 rfl
      have e6_:val29 6= .slice a2 t.nW c2:=(hQ_ 6 rfl).1
      obtain ⟨q_,hq0_⟩: ∃ q_:Value→Pcs→Prop,q_=(fun v_ x_=>OwnS 3 1 v_ ([]++(t.ws.map fun x=>[Value.int .i64 x])) x_):=⟨_,rfl⟩
      refine ⟨(zq1 (zq2 (zq4 (zq8 (zq32 (zq32 (zq32 (zq32 (zq32 (zq32 (zq32 []))))))))))),((pc30 4)++[]),q_,(by rw [e6_]),rfl,(fun _ _ z_=>by subst hq0_;exact z_),?_⟩
      subst hq0_
      exact xrz mn Tryd.underlying22 tS3 tZ3 rfl tB3 Tryd.underlying22 rfl rfl q4_ ((T.w.mono le14).mono le19) (xrj _) (by first | omega | (simp;omega) | simp) (by decide) (by decide) fun _ _ o_=>o_
     refine xak rfl (xcj ?_) ?_
     ·
      intro val29 pc30 hQ_ hX_
      have q3_:OwnS 3 1 (val29 3) (ics (List.replicate t.nH (0:Int))) (pc30 3):=hQ_ 3 rfl
      have q7_:OwnS 3 1 (val29 7) ([]++(t.ws.map fun x=>[Value.int .i64 x])) (pc30 7):=hQ_ 7 rfl
      obtain ⟨q_,hq0_⟩: ∃ q_:Value→Pcs→Prop,q_=(fun v_ x_=>v_= .agg #[(val29 3),(val29 7),.slice none 0 0]∧x_=[]):=⟨_,rfl⟩
      refine ⟨(zq1 (zq2 (zq4 (zq8 (zq32 (zq32 (zq32 (zq32 (zq32 (zq32 (zq32 []))))))))))),[],q_,rfl,rfl,(fun _ _ z_=>by subst hq0_;exact z_),?_⟩
      subst hq0_
      exact xcz mn (fun _ h_ H_=>xhv tZ25 tP25 (vs:=[(0,(val29 3)),(1,(val29 7))]) rfl (cells:=#[(val29 3),(val29 7),.slice none 0 0]) (zjq (F:=fun x_ y_=>#[x_,y_,.slice none 0 0]) q3_ q7_ fun _ _ _ _ _ _=>rfl)) ⟨rfl,rfl⟩
     refine xak rfl (xcj ?_) ?_
     ·
      intro val29 pc30 hQ_ hX_
      obtain ⟨q_,hq0_⟩: ∃ q_:Value→Pcs→Prop,q_=(fun v_ x_=>∃ b31:Nat,v_= .pointer (some ⟨b31,0,none⟩)∧x_=(([(b31,.cells #[.slice none 0 0,.slice none 0 0,.slice none 0 0] 25 (0,0))]:Pcs)++[])):=⟨_,rfl⟩
      refine ⟨(zq1 (zq2 (zq4 (zq8 (zq32 (zq32 (zq32 (zq32 (zq32 (zq32 (zq32 []))))))))))),[],q_,rfl,rfl,(fun _ _ z_=>by subst hq0_;exact z_),?_⟩
      subst hq0_
      exact ycz mn tZ25 rfl fun b_=>⟨b_,rfl,rfl⟩
     exact xlx rfl
    intro val29 pc30 hQ_ hX_
    have e0_:val29 0= .pointer (some ⟨b1,0,none⟩):=(hQ_ 0 (by decide)).1
    have e1_:val29 1= .slice a1 t.nH c1:=(hQ_ 1 (by decide)).1
    have e2_:val29 2= .int .i64 (((t.nH:Nat):Int)):=(hQ_ 2 (by decide)).1
    have q3_:OwnS 3 1 (val29 3) (ics (List.replicate t.nH (0:Int))) (pc30 3):=hQ_ 3 (by decide)
    have e5_:val29 5= .pointer (some ⟨b1,1,none⟩):=(hQ_ 5 (by decide)).1
    have e6_:val29 6= .slice a2 t.nW c2:=(hQ_ 6 (by decide)).1
    have q7_:OwnS 3 1 (val29 7) ([]++(t.ws.map fun x=>[Value.int .i64 x])) (pc30 7):=hQ_ 7 (by decide)
    have e8_:val29 8= .agg #[(val29 3),(val29 7),.slice none 0 0]:=(hQ_ 8 (by decide)).1
    obtain ⟨e9_,x9_⟩:=hG9_ _ _ (hQ_ 9 (by decide))
    have x10_:pc30 10=(pc22 3):=hX_ 10 (by decide)
    have x11_:pc30 11=(pc22 7):=hX_ 11 (by decide)
    clear hQ_ hX_
    generalize Gb31 (val29 9) (pc30 9)=b31 at*
    refine xwv (Φ:=fun h_=>St h [] p16 h_ (([(b23,.cells #[(val21 3),(val21 7),.slice none 0 0] 25 (0,0)),(b1,.cells #[.slice a1 t.nH c1,.slice a2 t.nW c2,.slice a3 t.m c3] 25 (0,0))]:Pcs)++(pc30 10++(pc30 11++(pc30 3++(pc30 7++(pc30 9++[]))))))) ?_ (fun h_ H_=>H_.swap')
    rw [x10_,x11_,x9_]
    refine xcq (L':=([(b23,.cells #[(val21 3),(val21 7),.slice none 0 0] 25 (0,0)),(b1,.cells #[.slice a1 t.nH c1,.slice a2 t.nW c2,.slice a3 t.m c3] 25 (0,0))]:Pcs)++((pc22 3)++((pc22 7)++((pc30 3)++((pc30 7)++(([(b31,.cells #[.slice none 0 0,.slice none 0 0,.slice none 0 0] 25 (0,0))]:Pcs)++[])))))) (by simp) ?_
    refine xgq (tm':=(zq1 (zq2 (zq4 (zq8 (zq32 (zq32 (zq32 (zq32 (zq32 (zq32 (zq32 [])))))))))))) (by rw [e0_,e1_,e2_,e5_,e6_,e8_,e9_]) ?_
    refine xcq (L':=([(b23,.cells #[(val21 3),(val21 7),.slice none 0 0] 25 (0,0)),(b1,.cells #[.slice a1 t.nH c1,.slice a2 t.nW c2,.slice a3 t.m c3] 25 (0,0))]:Pcs)++((pc22 3)++((pc22 7)++((pc30 3)++((pc30 7)++(([(b31,.cells #[.slice none 0 0,.slice none 0 0,.slice none 0 0] 25 (0,0))]:Pcs)++[])))))) rfl ?_
    refine xjz (List.Perm.append_left _ (List.Perm.append_left _ (List.Perm.append_left _ (List.Perm.append_left _ (List.perm_append_comm_assoc _ _ _))))) ?_
    refine xjz (List.Perm.append_left _ (List.Perm.append_left _ (List.Perm.append_left _ (List.perm_append_comm_assoc _ _ _)))) ?_
    refine xjz (List.Perm.append_left _ (List.Perm.append_left _ (List.perm_append_comm_assoc _ _ _))) ?_
    refine xjz (List.Perm.append_left _ (List.perm_append_comm_assoc _ _ _)) ?_
    refine xcq (L':=([(b23,.cells #[(val21 3),(val21 7),.slice none 0 0] 25 (0,0)),(b1,.cells #[.slice a1 t.nH c1,.slice a2 t.nW c2,.slice a3 t.m c3] 25 (0,0))]:Pcs)++(([(b31,.cells #[.slice none 0 0,.slice none 0 0,.slice none 0 0] 25 (0,0))]:Pcs)++((pc22 3)++((pc22 7)++((pc30 3)++((pc30 7)++[])))))) rfl ?_
    refine xjz (List.perm_append_comm_assoc ([(b23,.cells #[(val21 3),(val21 7),.slice none 0 0] 25 (0,0)),(b1,.cells #[.slice a1 t.nH c1,.slice a2 t.nW c2,.slice a3 t.m c3] 25 (0,0))]:Pcs) ([(b31,.cells #[.slice none 0 0,.slice none 0 0,.slice none 0 0] 25 (0,0))]:Pcs) _) ?_
    refine xcq (L':=([(b31,.cells #[.slice none 0 0,.slice none 0 0,.slice none 0 0] 25 (0,0)),(b23,.cells #[(val21 3),(val21 7),.slice none 0 0] 25 (0,0)),(b1,.cells #[.slice a1 t.nH c1,.slice a2 t.nW c2,.slice a3 t.m c3] 25 (0,0))]:Pcs)++((pc22 3)++((pc22 7)++((pc30 3)++((pc30 7)++[]))))) rfl ?_
    have o34:=q3_
    have o36:=q7_
    refine xiq mn tS25 rfl (v:=.agg #[(val29 3),(val29 7),.slice none 0 0]) rfl (i:=0) rfl rfl (xew o34.one.2 (xew o36.one.2 (xew rfl rfl))) (Nat.le_of_ble_eq_true rfl) (cs2:=[(val29 3),(val29 7),.slice none 0 0]) rfl (xcq (L':=([(b31,.cells #[(val29 3),(val29 7),.slice none 0 0] 25 (0,0)),(b23,.cells #[(val21 3),(val21 7),.slice none 0 0] 25 (0,0)),(b1,.cells #[.slice a1 t.nH c1,.slice a2 t.nW c2,.slice a3 t.m c3] 25 (0,0))]:Pcs)++((pc22 3)++((pc22 7)++((pc30 3)++((pc30 7)++[]))))) rfl ?_)
    refine ren <| xek ?_
    have oP_:OwnS 3 1 (val21 3) (ics t.hs) (pc22 3):=o27.as (by simp [ics])
    have oQ_:OwnS 3 1 (val29 7) (ics t.ws) (pc30 7):=o36.as (by simp [ics])
    refine xfz (List.Perm.append_left _ (List.perm_append_comm_assoc _ _ _)) ?_
    refine xkw (L':=([(b31,.cells #[(val29 3),(val29 7),.slice none 0 0] 25 (0,0)),(b23,.cells #[(val21 3),(val21 7),.slice none 0 0] 25 (0,0)),(b1,.cells #[.slice a1 t.nH c1,.slice a2 t.nW c2,.slice a3 t.m c3] 25 (0,0))]:Pcs)++((pc22 7)++((pc22 3)++((pc30 3)++((pc30 7)++[]))))) rfl ?_
    refine xbx <| ro (xax (v:=.int .i64 0) rfl) <| xav <| xez ?_
    refine xiv (m₀:=t.nW-0) (fun m_ tm_ h_=>∃ (k1:Nat) (X1_:Pcs),m_=t.nW-k1∧(∃ y37:Nat→Value,tm_=(.agg #[.slice a1 t.nH c1,.slice a2 t.nW c2,.slice a3 t.m c3]::.int .i64 (s)::.int .i64 (r)::.pointer (some ⟨b1,0,none⟩)::undef::undef::.bool (false)::.slice a12 t.nH cp13::.bool (true)::.slice a17 ((shortP t).length) cp18::.int .i64 (shortE t)::.pointer (some ⟨b23,0,none⟩)::.pointer (some ⟨b31,0,none⟩)::.int .i64 (((k1:Nat):Int))::undef::undef::zu4 (zu8 (.agg #[.slice a1 t.nH c1,.slice a2 t.nW c2,.slice a3 t.m c3]::.bool (readyB t)::.bool (!(readyB t))::.bool (!(readyB t))::.int .i64 (s)::.int .i64 (r)::.int .i64 (min s r)::.bool (decide (min s r<0))::.bool (decide (min s r<0))::.bool (decide (min s r<0))::.int .i64 (s)::.int .i64 (r)::.int .i64 (max s r)::.bool (decide (100<max s r))::.bool (decide (100<max s r))::undef::.tuple #[.slice a12 t.nH cp13,.bool (true)]::.agg #[.slice a1 t.nH c1,.slice a2 t.nW c2,.slice a3 t.m c3]::.tuple #[.slice a12 t.nH cp13,.bool (true)]::.slice a12 t.nH cp13::.bool (true)::.tuple #[.slice a17 ((shortP t).length) cp18,.int .i64 (shortE t)]::.agg #[.slice a1 t.nH c1,.slice a2 t.nW c2,.slice a3 t.m c3]::.tuple #[.slice a17 ((shortP t).length) cp18,.int .i64 (shortE t)]::.slice a17 ((shortP t).length) cp18::.int .i64 (shortE t)::(val21 0)::.pointer (some ⟨b1,0,none⟩)::.slice a1 t.nH c1::(val21 3)::.pointer (some ⟨b1,1,none⟩)::.slice a2 t.nW c2::.int .i64 (((t.nW:Nat):Int))::(val21 7)::.agg #[(val21 3),(val21 7),.slice none 0 0]::.pointer (some ⟨b1,0,none⟩)::.slice a1 t.nH c1::.int .i64 (((t.nH:Nat):Int))::(val29 3)::(val29 4)::.pointer (some ⟨b1,1,none⟩)::.slice a2 t.nW c2::(val29 7)::.agg #[(val29 3),(val29 7),.slice none 0 0]::(y37 72)::(y37 73)::(y37 74)::(y37 75)::(y37 76)::(y37 77)::(y37 78)::(y37 79)::(y37 80)::(y37 81)::(y37 82)::(y37 83)::(y37 84)::(y37 85)::(y37 86)::(y37 87)::(y37 88)::(y37 89)::(y37 90)::(y37 91)::(y37 92)::(y37 93)::undef::zu16 (zu16 (zu16 (zu16 (zu16 (zu16 (zu16 (zu16 (zu16 []))))))))))))∧(k1≤t.nW)∧(OwnS 3 1 (val21 7) (ics (spin t.ws s.toNat k1)) X1_)∧St h [] p16 h_ (([(b31,.cells #[(val29 3),(val29 7),.slice none 0 0] 25 (0,0)),(b23,.cells #[(val21 3),(val21 7),.slice none 0 0] 25 (0,0)),(b1,.cells #[.slice a1 t.nH c1,.slice a2 t.nW c2,.slice a3 t.m c3] 25 (0,0))]:Pcs)++(X1_++((pc22 3)++((pc30 3)++((pc30 7)++[])))))) (fun h_ H_=>⟨0,(pc22 7),rfl,(y_of rfl),Nat.zero_le _,(show OwnS 3 1 _ (ics (spin t.ws s.toNat 0)) _ from o28),H_⟩) ?_
    intro m_ tm_ IH38
    refine xhj fun k1=>xhj fun X1_=>xcw fun hm_=>xcw fun ht_=>xcw fun hk1=>xcw fun o1_=>?_
    subst hm_;obtain ⟨y37,ht_⟩:=ht_;subst ht_
    refine xek <| fsr <| rt (xaq (v:=.int .i64 (((k1:Nat):Int))) rfl) (tm':=zq1 (zq8 (zq32 (zq32 _)))) rfl <| ro (xaz xmz rfl (a':=⟨b1,1,none⟩) rfl) <| rd (fun h_ H_=>xaj H_ tA22 rfl (i:=2) rfl (v:=.slice a2 t.nW c2) rfl) <| rt (xfk Tryd.underlying22 rfl) (tm':=zq4 (zq8 (zq32 (zq32 _)))) rfl ?_
    refine ro (xgk rfl rfl) <| xav ?_
    by_cases cc39:((k1:Nat):Int)<((t.nW:Nat):Int)
    ·
     refine xdw rfl (dtt cc39) <| xdk <| xek <| xez ?_
     have hx1_:=zgw (x:=((k1:Nat):Int)) (s:=s) (n:=t.nW) (by omega)
     refine xgj 14 [] xkv (by kernel_rfl) (Nat.le_of_ble_eq_true rfl) ?_
     refine wt (xaz xmz rfl (a':=⟨b23,1,none⟩) rfl) (tm':=zq16 (zq32 (zq32 _))) rfl <| wd (fun h_ H_=>xaj H_ tA22 rfl (i:=1) rfl (v:=(val21 7)) rfl) <| wt (xaq (v:=.int .i64 (((k1:Nat):Int))) rfl) (tm':=zq2 (zq16 (zq32 (zq32 _)))) rfl <| wo (xaq (v:=.int .i64 (s)) rfl) ?_
     refine wt (xfq rfl rfl (wr (by omega))) (tm':=zq4 (zq16 (zq32 (zq32 _)))) rfl ?_
     refine wo (xaz xmz rfl (a':=⟨b1,1,none⟩) rfl) ?_
     refine xbz mn (fun h_ H_=>xaj H_ tA22 rfl (i:=2) rfl (v:=.slice a2 t.nW c2) rfl) (tm':=zq2 (zq4 (zq16 (zq32 (zq32 _))))) rfl ?_
     refine wo (xfk Tryd.underlying22 rfl) ?_
     refine wt (yuz rfl rfl (by omega) (n:=(((k1:Nat):Int)+s) % ((t.nW:Nat):Int)) (Int.tmod_eq_emod_of_nonneg (by omega))) (tm':=zq8 (zq16 (zq32 (zq32 _)))) rfl ?_
     refine wo (xaz xmz rfl (a':=⟨b1,1,none⟩) rfl) ?_
     refine xbz mn (fun h_ H_=>xaj H_ tA22 rfl (i:=2) rfl (v:=.slice a2 t.nW c2) rfl) (tm':=zq2 (zq8 (zq16 (zq32 (zq32 _))))) rfl ?_
     refine wo (xaq (v:=.int .i64 (((k1:Nat):Int))) rfl) ?_
     refine wt (xbw (i:=k1) Tryd.underlying22 tS3 (xkj a2 t.nW c2 (((T.w.mono le14).mono le19).ne (by omega))) rfl (by omega)) (tm':=zq4 (zq8 (zq16 (zq32 (zq32 _))))) rfl ?_
     refine wd (fun h_ H_=>xbv H_ tA3 rfl (v:=.int .i64 (t.ws.getD k1 0)) (((T.w.mono le14).mono le19).get (by omega))) ?_
     refine xiw rfl ?_
     refine ro (xoq o1_ Tryd.underlying22 tS3 rfl rfl (by omega) (by rw [(show _=t.nW from (xcx _).trans (xuv _))];omega)) ?_
     refine xsz (A:=([(b31,.cells #[(val29 3),(val29 7),.slice none 0 0] 25 (0,0)),(b23,.cells #[(val21 3),(val21 7),.slice none 0 0] 25 (0,0)),(b1,.cells #[.slice a1 t.nH c1,.slice a2 t.nW c2,.slice a3 t.m c3] 25 (0,0))]:Pcs)) (i:=(((((k1:Nat):Int)+s) % ((t.nW:Nat):Int))).toNat) (j:=0) (e:=[.int .i64 ((spin t.ws s.toNat k1).getD ((((((k1:Nat):Int)+s) % ((t.nW:Nat):Int))).toNat) 0)]) (u:=.int .i64 (t.ws.getD k1 0)) o1_ mn tS3 rfl rfl rfl ⟨rfl,rfl⟩ (xpz (by rw [xuv];show _<t.nW;omega)) (Nat.succ_le_iff.1 (Nat.le_of_ble_eq_true rfl)) fun X40 o41=>?_
     refine xav <| xeq <| xbx <| ro (xaq (v:=.int .i64 (((k1:Nat):Int))) rfl) ?_
     refine rt (xfq rfl rfl (n:=((k1+1:Nat):Int)) (wr (by omega))) (tm':=zq1 (zq2 (zq4 (zq8 (zq32 (zq32 _)))))) rfl ?_
     refine ro (xax (v:=.int .i64 (((k1+1:Nat):Int))) rfl) <| xav ?_
     exact fun h_ H_=>IH38 _ _ (by omega) h_ ⟨k1+1,X40,rfl,(y_of rfl),(by omega),(o41.as ((xvk).trans (congrArg ics (wev rfl (by omega))))),H_⟩
    ·
     refine xdx rfl (dff cc39) <| xiz rfl <| xek <| xek ?_
     have kE1_:k1=t.nW:=by omega
     have oE1_:OwnS 3 1 (val21 7) (ics (spin t.ws s.toNat t.nW)) X1_:=by rw [← kE1_];exact o1_
     refine xfz (List.Perm.append_left _ (List.Perm.append_left _ (List.perm_append_comm_assoc _ _ _))) ?_
     refine xfz (List.Perm.append_left _ (List.perm_append_comm_assoc _ _ _)) ?_
     refine xkw (L':=([(b31,.cells #[(val29 3),(val29 7),.slice none 0 0] 25 (0,0)),(b23,.cells #[(val21 3),(val21 7),.slice none 0 0] 25 (0,0)),(b1,.cells #[.slice a1 t.nH c1,.slice a2 t.nW c2,.slice a3 t.m c3] 25 (0,0))]:Pcs)++((pc30 3)++(X1_++((pc22 3)++((pc30 7)++[]))))) rfl ?_
     refine xbx <| ro (xax (v:=.int .i64 0) rfl) <| xav <| xez ?_
     refine xiv (m₀:=t.nH-0) (fun m_ tm_ h_=>∃ (k2:Nat) (X2_:Pcs),m_=t.nH-k2∧(∃ y42:Nat→Value,tm_=(.agg #[.slice a1 t.nH c1,.slice a2 t.nW c2,.slice a3 t.m c3]::.int .i64 (s)::.int .i64 (r)::.pointer (some ⟨b1,0,none⟩)::undef::undef::.bool (false)::.slice a12 t.nH cp13::.bool (true)::.slice a17 ((shortP t).length) cp18::.int .i64 (shortE t)::.pointer (some ⟨b23,0,none⟩)::.pointer (some ⟨b31,0,none⟩)::.int .i64 (((k1:Nat):Int))::.int .i64 (((k2:Nat):Int))::undef::zu4 (zu8 (.agg #[.slice a1 t.nH c1,.slice a2 t.nW c2,.slice a3 t.m c3]::.bool (readyB t)::.bool (!(readyB t))::.bool (!(readyB t))::.int .i64 (s)::.int .i64 (r)::.int .i64 (min s r)::.bool (decide (min s r<0))::.bool (decide (min s r<0))::.bool (decide (min s r<0))::.int .i64 (s)::.int .i64 (r)::.int .i64 (max s r)::.bool (decide (100<max s r))::.bool (decide (100<max s r))::undef::.tuple #[.slice a12 t.nH cp13,.bool (true)]::.agg #[.slice a1 t.nH c1,.slice a2 t.nW c2,.slice a3 t.m c3]::.tuple #[.slice a12 t.nH cp13,.bool (true)]::.slice a12 t.nH cp13::.bool (true)::.tuple #[.slice a17 ((shortP t).length) cp18,.int .i64 (shortE t)]::.agg #[.slice a1 t.nH c1,.slice a2 t.nW c2,.slice a3 t.m c3]::.tuple #[.slice a17 ((shortP t).length) cp18,.int .i64 (shortE t)]::.slice a17 ((shortP t).length) cp18::.int .i64 (shortE t)::(val21 0)::.pointer (some ⟨b1,0,none⟩)::.slice a1 t.nH c1::(val21 3)::.pointer (some ⟨b1,1,none⟩)::.slice a2 t.nW c2::.int .i64 (((t.nW:Nat):Int))::(val21 7)::.agg #[(val21 3),(val21 7),.slice none 0 0]::.pointer (some ⟨b1,0,none⟩)::.slice a1 t.nH c1::.int .i64 (((t.nH:Nat):Int))::(val29 3)::(val29 4)::.pointer (some ⟨b1,1,none⟩)::.slice a2 t.nW c2::(val29 7)::.agg #[(val29 3),(val29 7),.slice none 0 0]::.int .i64 (((k1:Nat):Int))::.pointer (some ⟨b1,1,none⟩)::.slice a2 t.nW c2::.int .i64 (((t.nW:Nat):Int))::.bool (decide (((k1:Nat):Int)<((t.nW:Nat):Int)))::(y37 77)::(y37 78)::(y37 79)::(y37 80)::(y37 81)::(y37 82)::(y37 83)::(y37 84)::(y37 85)::(y37 86)::(y37 87)::(y37 88)::(y37 89)::(y37 90)::(y37 91)::(y37 92)::(y37 93)::(y42 94)::(y42 95)::(y42 96)::(y42 97)::(y42 98)::(y42 99)::(y42 100)::(y42 101)::(y42 102)::(y42 103)::(y42 104)::(y42 105)::(y42 106)::(y42 107)::(y42 108)::(y42 109)::(y42 110)::(y42 111)::(y42 112)::(y42 113)::(y42 114)::(y42 115)::undef::undef::undef::zu8 (zu16 (zu16 (zu16 (zu16 (zu16 (zu16 (zu16 [])))))))))))∧(k2≤t.nH)∧(OwnS 3 1 (val29 3) (ics (spin t.hs r.toNat k2)) X2_)∧St h [] p16 h_ (([(b31,.cells #[(val29 3),(val29 7),.slice none 0 0] 25 (0,0)),(b23,.cells #[(val21 3),(val21 7),.slice none 0 0] 25 (0,0)),(b1,.cells #[.slice a1 t.nH c1,.slice a2 t.nW c2,.slice a3 t.m c3] 25 (0,0))]:Pcs)++(X2_++(X1_++((pc22 3)++((pc30 7)++[])))))) (fun h_ H_=>⟨0,(pc30 3),rfl,(y_of rfl),Nat.zero_le _,(show OwnS 3 1 _ (ics (spin t.hs r.toNat 0)) _ from o34),H_⟩) ?_
     intro m_ tm_ IH43
     refine xhj fun k2=>xhj fun X2_=>xcw fun hm_=>xcw fun ht_=>xcw fun hk2=>xcw fun o2_=>?_
     subst hm_;obtain ⟨y42,ht_⟩:=ht_;subst ht_
     refine xek <| fsr <| rt (xaq (v:=.int .i64 (((k2:Nat):Int))) rfl) (tm':=zq1 (zq2 (zq4 (zq8 (zq16 (zq32 (zq32 _))))))) rfl <| ro (xaz xlw rfl (a':=⟨b1,0,none⟩) rfl) <| rd (fun h_ H_=>xaj H_ tA22 rfl (i:=2) rfl (v:=.slice a1 t.nH c1) rfl) <| rt (xfk Tryd.underlying22 rfl) (tm':=zq2 (zq32 (zq32 (zq32 _)))) rfl ?_
     refine ro (xgk rfl rfl) <| xav ?_
     by_cases cc44:((k2:Nat):Int)<((t.nH:Nat):Int)
     ·
      refine xdw rfl (dtt cc44) <| xdk <| xek <| xez ?_
      have hx2_:=zgw (x:=((k2:Nat):Int)) (s:=r) (n:=t.nH) (by omega)
      refine xgj 14 [] xkv (by kernel_rfl) (Nat.le_of_ble_eq_true rfl) ?_
      refine wt (xaz xlw rfl (a':=⟨b31,0,none⟩) rfl) (tm':=zq2 (zq4 (zq32 (zq32 (zq32 _))))) rfl <| wd (fun h_ H_=>xaj H_ tA22 rfl (i:=0) rfl (v:=(val29 3)) rfl) <| wt (xaq (v:=.int .i64 (((k2:Nat):Int))) rfl) (tm':=zq8 (zq32 (zq32 (zq32 _)))) rfl <| wo (xaq (v:=.int .i64 (r)) rfl) ?_
      refine wt (xfq rfl rfl (wr (by omega))) (tm':=zq2 (zq8 (zq32 (zq32 (zq32 _))))) rfl ?_
      refine wo (xaz xlw rfl (a':=⟨b1,0,none⟩) rfl) ?_
      refine xbz mn (fun h_ H_=>xaj H_ tA22 rfl (i:=2) rfl (v:=.slice a1 t.nH c1) rfl) (tm':=zq4 (zq8 (zq32 (zq32 (zq32 _))))) rfl ?_
      refine wo (xfk Tryd.underlying22 rfl) ?_
      refine wt (yuz rfl rfl (by omega) (n:=(((k2:Nat):Int)+r) % ((t.nH:Nat):Int)) (Int.tmod_eq_emod_of_nonneg (by omega))) (tm':=zq2 (zq4 (zq8 (zq32 (zq32 (zq32 _)))))) rfl ?_
      refine wo (xaz xlw rfl (a':=⟨b1,0,none⟩) rfl) ?_
      refine xbz mn (fun h_ H_=>xaj H_ tA22 rfl (i:=2) rfl (v:=.slice a1 t.nH c1) rfl) (tm':=zq16 (zq32 (zq32 (zq32 _)))) rfl ?_
      refine wo (xaq (v:=.int .i64 (((k2:Nat):Int))) rfl) ?_
      refine wt (xbw (i:=k2) Tryd.underlying22 tS3 (xkj a1 t.nH c1 (((T.h.mono le14).mono le19).ne (by omega))) rfl (by omega)) (tm':=zq2 (zq16 (zq32 (zq32 (zq32 _))))) rfl ?_
      refine wd (fun h_ H_=>xbv H_ tA3 rfl (v:=.int .i64 (t.hs.getD k2 0)) (((T.h.mono le14).mono le19).get (by omega))) ?_
      refine xiw rfl ?_
      refine ro (xoq o2_ Tryd.underlying22 tS3 rfl rfl (by omega) (by rw [(show _=t.nH from (xcx _).trans (xuv _))];omega)) ?_
      refine xsz (A:=([(b31,.cells #[(val29 3),(val29 7),.slice none 0 0] 25 (0,0)),(b23,.cells #[(val21 3),(val21 7),.slice none 0 0] 25 (0,0)),(b1,.cells #[.slice a1 t.nH c1,.slice a2 t.nW c2,.slice a3 t.m c3] 25 (0,0))]:Pcs)) (i:=(((((k2:Nat):Int)+r) % ((t.nH:Nat):Int))).toNat) (j:=0) (e:=[.int .i64 ((spin t.hs r.toNat k2).getD ((((((k2:Nat):Int)+r) % ((t.nH:Nat):Int))).toNat) 0)]) (u:=.int .i64 (t.hs.getD k2 0)) o2_ mn tS3 rfl rfl rfl ⟨rfl,rfl⟩ (xpz (by rw [xuv];show _<t.nH;omega)) (Nat.succ_le_iff.1 (Nat.le_of_ble_eq_true rfl)) fun X45 o46=>?_
      refine xav <| xeq <| xbx <| ro (xaq (v:=.int .i64 (((k2:Nat):Int))) rfl) ?_
      refine rt (xfq rfl rfl (n:=((k2+1:Nat):Int)) (wr (by omega))) (tm':=zq1 (zq4 (zq32 (zq32 (zq32 _))))) rfl ?_
      refine ro (xax (v:=.int .i64 (((k2+1:Nat):Int))) rfl) <| xav ?_
      exact fun h_ H_=>IH43 _ _ (by omega) h_ ⟨k2+1,X45,rfl,(y_of rfl),(by omega),(o46.as ((xvk).trans (congrArg ics (wev rfl (by omega))))),H_⟩
     ·
      refine xdx rfl (dff cc44) <| xiz rfl <| xek <| xek ?_
      have kE2_:k2=t.nH:=by omega
      have oE2_:OwnS 3 1 (val29 3) (ics (spin t.hs r.toNat t.nH)) X2_:=by rw [← kE2_];exact o2_
      refine xfz (List.Perm.append_left _ (List.Perm.append_left _ (List.perm_append_comm_assoc _ _ _))) ?_
      refine xfz (List.Perm.append_left _ (List.perm_append_comm_assoc _ _ _)) ?_
      refine xfz (List.Perm.append_left _ (List.Perm.append_left _ (List.perm_append_comm_assoc _ _ _))) ?_
      refine xkw (L':=([(b31,.cells #[(val29 3),(val29 7),.slice none 0 0] 25 (0,0)),(b23,.cells #[(val21 3),(val21 7),.slice none 0 0] 25 (0,0)),(b1,.cells #[.slice a1 t.nH c1,.slice a2 t.nW c2,.slice a3 t.m c3] 25 (0,0))]:Pcs)++((pc22 3)++(X1_++(X2_++((pc30 7)++[]))))) rfl ?_
      refine xbx <| ro (xax (v:=.int .i64 0) rfl) <| xav <| xez ?_
      refine xiv (m₀:=t.m-0) (fun m_ tm_ h_=>∃ (k3:Nat) (wa1:Value) (wa2:Value) (wa3:Value) (wb1:Value) (wb2:Value) (wb3:Value) (Xa1:Pcs) (Xa2:Pcs) (Xa3:Pcs) (Xb1:Pcs) (Xb2:Pcs) (Xb3:Pcs),m_=t.m-k3∧(∃ y47:Nat→Value,tm_=(.agg #[.slice a1 t.nH c1,.slice a2 t.nW c2,.slice a3 t.m c3]::.int .i64 (s)::.int .i64 (r)::.pointer (some ⟨b1,0,none⟩)::undef::undef::.bool (false)::.slice a12 t.nH cp13::.bool (true)::.slice a17 ((shortP t).length) cp18::.int .i64 (shortE t)::.pointer (some ⟨b23,0,none⟩)::.pointer (some ⟨b31,0,none⟩)::.int .i64 (((k1:Nat):Int))::.int .i64 (((k2:Nat):Int))::.int .i64 (((k3:Nat):Int))::(y47 16)::undef::undef::undef::zu8 (.agg #[.slice a1 t.nH c1,.slice a2 t.nW c2,.slice a3 t.m c3]::.bool (readyB t)::.bool (!(readyB t))::.bool (!(readyB t))::.int .i64 (s)::.int .i64 (r)::.int .i64 (min s r)::.bool (decide (min s r<0))::.bool (decide (min s r<0))::.bool (decide (min s r<0))::.int .i64 (s)::.int .i64 (r)::.int .i64 (max s r)::.bool (decide (100<max s r))::.bool (decide (100<max s r))::undef::.tuple #[.slice a12 t.nH cp13,.bool (true)]::.agg #[.slice a1 t.nH c1,.slice a2 t.nW c2,.slice a3 t.m c3]::.tuple #[.slice a12 t.nH cp13,.bool (true)]::.slice a12 t.nH cp13::.bool (true)::.tuple #[.slice a17 ((shortP t).length) cp18,.int .i64 (shortE t)]::.agg #[.slice a1 t.nH c1,.slice a2 t.nW c2,.slice a3 t.m c3]::.tuple #[.slice a17 ((shortP t).length) cp18,.int .i64 (shortE t)]::.slice a17 ((shortP t).length) cp18::.int .i64 (shortE t)::(val21 0)::.pointer (some ⟨b1,0,none⟩)::.slice a1 t.nH c1::(val21 3)::.pointer (some ⟨b1,1,none⟩)::.slice a2 t.nW c2::.int .i64 (((t.nW:Nat):Int))::(val21 7)::.agg #[(val21 3),(val21 7),.slice none 0 0]::.pointer (some ⟨b1,0,none⟩)::.slice a1 t.nH c1::.int .i64 (((t.nH:Nat):Int))::(val29 3)::(val29 4)::.pointer (some ⟨b1,1,none⟩)::.slice a2 t.nW c2::(val29 7)::.agg #[(val29 3),(val29 7),.slice none 0 0]::.int .i64 (((k1:Nat):Int))::.pointer (some ⟨b1,1,none⟩)::.slice a2 t.nW c2::.int .i64 (((t.nW:Nat):Int))::.bool (decide (((k1:Nat):Int)<((t.nW:Nat):Int)))::(y37 77)::(y37 78)::(y37 79)::(y37 80)::(y37 81)::(y37 82)::(y37 83)::(y37 84)::(y37 85)::(y37 86)::(y37 87)::(y37 88)::(y37 89)::(y37 90)::(y37 91)::(y37 92)::(y37 93)::.int .i64 (((k2:Nat):Int))::.pointer (some ⟨b1,0,none⟩)::.slice a1 t.nH c1::.int .i64 (((t.nH:Nat):Int))::.bool (decide (((k2:Nat):Int)<((t.nH:Nat):Int)))::(y42 99)::(y42 100)::(y42 101)::(y42 102)::(y42 103)::(y42 104)::(y42 105)::(y42 106)::(y42 107)::(y42 108)::(y42 109)::(y42 110)::(y42 111)::(y42 112)::(y42 113)::(y42 114)::(y42 115)::(y47 116)::(y47 117)::(y47 118)::(y47 119)::(y47 120)::(y47 121)::(y47 122)::(y47 123)::(y47 124)::(y47 125)::(y47 126)::(y47 127)::(y47 128)::(y47 129)::(y47 130)::(y47 131)::(y47 132)::(y47 133)::(y47 134)::(y47 135)::(y47 136)::(y47 137)::(y47 138)::(y47 139)::(y47 140)::(y47 141)::(y47 142)::(y47 143)::(y47 144)::(y47 145)::(y47 146)::(y47 147)::(y47 148)::(y47 149)::(y47 150)::(y47 151)::(y47 152)::(y47 153)::undef::zu4 (zu16 (zu16 (zu16 (zu16 (zu16 []))))))))∧(k3≤t.m)∧(OwnS 3 1 wa1 (ics (ordA t s k3).hs) Xa1)∧(OwnS 3 1 wa2 (ics (ordA t s k3).ws) Xa2)∧(OwnS 43 2 wa3 (wcs (ordA t s k3).wy) Xa3)∧(OwnS 3 1 wb1 (ics (ordB t r k3).hs) Xb1)∧(OwnS 3 1 wb2 (ics (ordB t r k3).ws) Xb2)∧(OwnS 43 2 wb3 (wcs (ordB t r k3).wy) Xb3)∧St h [] p16 h_ (([(b31,.cells #[wb1,wb2,wb3] 25 (0,0)),(b23,.cells #[wa1,wa2,wa3] 25 (0,0)),(b1,.cells #[.slice a1 t.nH c1,.slice a2 t.nW c2,.slice a3 t.m c3] 25 (0,0))]:Pcs)++(Xa1++(Xa2++(Xa3++(Xb1++(Xb2++(Xb3++[])))))))) (fun h_ H_=>⟨0,(val21 3),(val21 7),(.slice none 0 0),(val29 3),(val29 7),(.slice none 0 0),(pc22 3),X1_,[],X2_,(pc30 7),[],rfl,(y_of rfl),Nat.zero_le _,oP_,oE1_,(OwnS.empty _ _),oE2_,oQ_,(OwnS.empty _ _),H_⟩) ?_
      intro m_ tm_ IH48
      refine xhj fun k3=>xhj fun wa1=>xhj fun wa2=>xhj fun wa3=>xhj fun wb1=>xhj fun wb2=>xhj fun wb3=>xhj fun Xa1=>xhj fun Xa2=>xhj fun Xa3=>xhj fun Xb1=>xhj fun Xb2=>xhj fun Xb3=>xcw fun hm_=>xcw fun ht_=>xcw fun hk3=>xcw fun oa1=>xcw fun oa2=>xcw fun oa3=>xcw fun ob1=>xcw fun ob2=>xcw fun ob3=>?_
      subst hm_;obtain ⟨y47,ht_⟩:=ht_;subst ht_
      obtain ⟨eA1_,eA2_,eA3_⟩:=vhk (t:=t) (s:=s) (k:=k3)
      obtain ⟨eB1_,eB2_,eB3_⟩:=vhj (t:=t) (s:=r) (k:=k3)
      refine xek <| fsr <| rt (xaq (v:=.int .i64 (((k3:Nat):Int))) rfl) (tm':=zq1 (zq4 (zq16 (zq32 (zq32 (zq32 _)))))) rfl <| ro (xaz xhk rfl (a':=⟨b1,2,none⟩) rfl) <| rd (fun h_ H_=>xaj H_ tA23 rfl (i:=2) rfl (v:=.slice a3 t.m c3) rfl) <| rt (xfk Tryd.underlying23 rfl) (tm':=zq8 (zq16 (zq32 (zq32 (zq32 _))))) rfl ?_
      refine ro (xgk rfl rfl) <| xav ?_
      by_cases cc49:((k3:Nat):Int)<((t.m:Nat):Int)
      ·
       refine xdw rfl (dtt cc49) <| xdk <| xek <| xez <| fsr <| ro (xaz xhk rfl (a':=⟨b1,2,none⟩) rfl) ?_
       refine xbq mn (fun h_ H_=>xaj H_ tA23 rfl (i:=2) rfl (v:=.slice a3 t.m c3) rfl) (tm':=zq1 (zq4 (zq8 (zq16 (zq32 (zq32 (zq32 _))))))) rfl ?_
       refine ro (xaq (v:=.int .i64 (((k3:Nat):Int))) rfl) ?_
       refine ro (xbw (i:=k3) Tryd.underlying23 tS43 (xkj a3 t.m c3 (((T.y.mono le14).mono le19).ne (by omega))) rfl (by omega)) ?_
       refine xbq mn (fun h_ H_=>xhq H_ tA43 tS43 rfl (vs:=[.int .i64 ((t.wy.getD k3 wz).1),.int .i64 ((t.wy.getD k3 wz).2)]) rfl (((T.y.mono le14).mono le19).all (by omega))) (tm':=zq32 (zq32 (zq32 (zq32 _)))) rfl ?_
       refine xkx mn tZ43 rfl fun b50=>xcq (L':=([(b50,.cells #[.int .i64 0,.int .i64 0] 43 (0,0)),(b31,.cells #[wb1,wb2,wb3] 25 (0,0)),(b23,.cells #[wa1,wa2,wa3] 25 (0,0)),(b1,.cells #[.slice a1 t.nH c1,.slice a2 t.nW c2,.slice a3 t.m c3] 25 (0,0))]:Pcs)++(Xa1++(Xa2++(Xa3++(Xb1++(Xb2++(Xb3++[]))))))) rfl ?_
       refine xiq mn tS43 rfl (v:=.agg #[.int .i64 ((t.wy.getD k3 wz).1),.int .i64 ((t.wy.getD k3 wz).2)]) rfl (i:=0) rfl rfl rfl (Nat.le_of_ble_eq_true rfl) (cs2:=[.int .i64 ((t.wy.getD k3 wz).1),.int .i64 ((t.wy.getD k3 wz).2)]) rfl (xcq (L':=([(b50,.cells #[.int .i64 ((t.wy.getD k3 wz).1),.int .i64 ((t.wy.getD k3 wz).2)] 43 (0,0)),(b31,.cells #[wb1,wb2,wb3] 25 (0,0)),(b23,.cells #[wa1,wa2,wa3] 25 (0,0)),(b1,.cells #[.slice a1 t.nH c1,.slice a2 t.nW c2,.slice a3 t.m c3] 25 (0,0))]:Pcs)++(Xa1++(Xa2++(Xa3++(Xb1++(Xb2++(Xb3++[]))))))) rfl ?_)
       refine ren ?_
       have hw_:=hV.wok k3 (by omega)
       have hx3_:=zgw (x:=(t.wy.getD k3 wz).2) (s:=s) (n:=t.nW) (by omega)
       have hx5_:=zgw (x:=(t.wy.getD k3 wz).1) (s:=r) (n:=t.nH) (by omega)
       refine xix (A:=([(b50,.cells #[.int .i64 ((t.wy.getD k3 wz).1),.int .i64 ((t.wy.getD k3 wz).2)] 43 (0,0)),(b31,.cells #[wb1,wb2,wb3] 25 (0,0)),(b23,.cells #[wa1,wa2,wa3] 25 (0,0)),(b1,.cells #[.slice a1 t.nH c1,.slice a2 t.nW c2,.slice a3 t.m c3] 25 (0,0))]:Pcs)) oa1 (show (ics ((ordA t s k3).hs)).length=(ordA t s k3).nH from xcx _) fun p51 a52 cp53 le54 ev_ D55=>?_
       subst ev_
       refine xix (A:=([(b50,.cells #[.int .i64 ((t.wy.getD k3 wz).1),.int .i64 ((t.wy.getD k3 wz).2)] 43 (0,0)),(b31,.cells #[wb1,wb2,wb3] 25 (0,0)),(b23,.cells #[.slice a52 ((ordA t s k3).nH) cp53,wa2,wa3] 25 (0,0)),(b1,.cells #[.slice a1 t.nH c1,.slice a2 t.nW c2,.slice a3 t.m c3] 25 (0,0))]:Pcs)) oa2 (show (ics ((ordA t s k3).ws)).length=(ordA t s k3).nW from xcx _) fun p56 a57 cp58 le59 ev_ D60=>?_
       subst ev_
       refine xix (A:=([(b50,.cells #[.int .i64 ((t.wy.getD k3 wz).1),.int .i64 ((t.wy.getD k3 wz).2)] 43 (0,0)),(b31,.cells #[wb1,wb2,wb3] 25 (0,0)),(b23,.cells #[.slice a52 ((ordA t s k3).nH) cp53,.slice a57 ((ordA t s k3).nW) cp58,wa3] 25 (0,0)),(b1,.cells #[.slice a1 t.nH c1,.slice a2 t.nW c2,.slice a3 t.m c3] 25 (0,0))]:Pcs)) oa3 (wcs_size _) fun p61 a62 cp63 le64 ev_ D65=>?_
       subst ev_
       refine xgj 12 [[],[],[1],[],[3],[],[3,4,5],[],[7],[7,8],[3,4,5,6,7,8,9],[1,2,3,4,5,6,7,8,9,10],[],[]] xkv (by kernel_rfl) (Nat.le_of_ble_eq_true rfl) ?_
       refine xbz mn (fun h_ H_=>xaw H_ tA25 tS25 rfl (i:=2) rfl (vs:=[.slice a52 ((ordA t s k3).nH) cp53,.slice a57 ((ordA t s k3).nW) cp58,.slice a62 ((ordA t s k3).m) cp63]) rfl rfl) (tm':=zq1 (zq32 (zq32 (zq32 (zq32 _))))) rfl ?_
       refine wo (xaz xoj rfl (a':=⟨b50,0,none⟩) rfl) ?_
       refine xbz mn (fun h_ H_=>xaj H_ tA3 rfl (i:=0) rfl (v:=.int .i64 ((t.wy.getD k3 wz).1)) rfl) (tm':=zq1 (zq2 (zq32 (zq32 (zq32 (zq32 _)))))) rfl ?_
       refine wo (xaz xpx rfl (a':=⟨b50,1,none⟩) rfl) ?_
       refine xbz mn (fun h_ H_=>xaj H_ tA3 rfl (i:=0) rfl (v:=.int .i64 ((t.wy.getD k3 wz).2)) rfl) (tm':=zq1 (zq4 (zq32 (zq32 (zq32 (zq32 _)))))) rfl ?_
       refine wo (xaq (v:=.int .i64 (s)) rfl) ?_
       refine wt (xfq rfl rfl (wr (by omega))) (tm':=zq1 (zq2 (zq4 (zq32 (zq32 (zq32 (zq32 _))))))) rfl ?_
       refine wo (xaz xmz rfl (a':=⟨b1,1,none⟩) rfl) ?_
       refine xbz mn (fun h_ H_=>xaj H_ tA22 rfl (i:=3) rfl (v:=.slice a2 t.nW c2) rfl) (tm':=zq1 (zq8 (zq32 (zq32 (zq32 (zq32 _)))))) rfl ?_
       refine wo (xfk Tryd.underlying22 rfl) ?_
       refine wt (yuz rfl rfl (by omega) (n:=(((t.wy.getD k3 wz).2)+s) % ((t.nW:Nat):Int)) (Int.tmod_eq_emod_of_nonneg (by omega))) (tm':=zq1 (zq2 (zq8 (zq32 (zq32 (zq32 (zq32 _))))))) rfl ?_
       refine wo (xhv tZ43 tP43 (vs:=[(0,.int .i64 ((t.wy.getD k3 wz).1)),(1,.int .i64 ((((t.wy.getD k3 wz).2)+s) % ((t.nW:Nat):Int)))]) rfl (cells:=#[.int .i64 ((t.wy.getD k3 wz).1),.int .i64 ((((t.wy.getD k3 wz).2)+s) % ((t.nW:Nat):Int))]) rfl) ?_
       refine xiw rfl ?_
       refine xjj mn (first:=[]) (cap:=[]) rfl rfl fC26 (R:=fun v_ h_=>∃ w66:Value,∃ w67:Value,∃ w68:Value,∃ X69:Pcs,∃ X70:Pcs,∃ X71:Pcs,v_= .agg #[w66,w67,w68]∧(OwnS 3 1 w66 (ics (withT (ordA t s k3) ((t.wy.getD k3 wz).1,(((t.wy.getD k3 wz).2)+s) % ((t.nW:Nat):Int))).hs) X69)∧(OwnS 3 1 w67 (ics (withT (ordA t s k3) ((t.wy.getD k3 wz).1,(((t.wy.getD k3 wz).2)+s) % ((t.nW:Nat):Int))).ws) X70)∧(OwnS 43 2 w68 (wcs (withT (ordA t s k3) ((t.wy.getD k3 wz).1,(((t.wy.getD k3 wz).2)+s) % ((t.nW:Nat):Int))).wy) X71)∧St h [] p61 h_ (([(b50,.cells #[.int .i64 ((t.wy.getD k3 wz).1),.int .i64 ((t.wy.getD k3 wz).2)] 43 (0,0)),(b31,.cells #[wb1,wb2,wb3] 25 (0,0)),(b23,.cells #[.slice a52 ((ordA t s k3).nH) cp53,.slice a57 ((ordA t s k3).nW) cp58,.slice a62 ((ordA t s k3).m) cp63] 25 (0,0)),(b1,.cells #[.slice a1 t.nH c1,.slice a2 t.nW c2,.slice a3 t.m c3] 25 (0,0))]:Pcs)++((X71++(X69++(X70++[])))++(Xb1++(Xb2++(Xb3++[])))))) (fun h_ H_=>(c26 .lone _ _ H_.pe _ _ _ _ _ _ (ordA t s k3) (show TownP _ _ _ _ _ _ _ (ordA t s k3) from ⟨(((show Ints _ _ _ ((ordA t s k3).hs) from D55).mono le59).mono le64),((show Ints _ _ _ ((ordA t s k3).ws) from D60).mono le64),(show Wys _ _ _ ((ordA t s k3).wy) from D65)⟩) (by omega) ((t.wy.getD k3 wz).1) ((((t.wy.getD k3 wz).2)+s) % ((t.nW:Nat):Int))).mono fun v_ h2_ ⟨w66,w67,w68,X69,X70,X71,e_,o72,o73,o74,N_⟩=>⟨w66,w67,w68,X69,X70,X71,e_,o72,o73,o74,H_.callNA N_⟩) fun v_=>?_
       refine xgz fun w66=>xgz fun w67=>xgz fun w68=>xgz fun X69=>xgz fun X70=>xgz fun X71=>xfx fun ev_=>xfx fun o72=>xfx fun o73=>xfx fun o74=>?_
       have ev_:=ev_.symm;subst ev_
       refine xcq (L':=([(b50,.cells #[.int .i64 ((t.wy.getD k3 wz).1),.int .i64 ((t.wy.getD k3 wz).2)] 43 (0,0)),(b31,.cells #[wb1,wb2,wb3] 25 (0,0)),(b23,.cells #[.slice a52 ((ordA t s k3).nH) cp53,.slice a57 ((ordA t s k3).nW) cp58,.slice a62 ((ordA t s k3).m) cp63] 25 (0,0)),(b1,.cells #[.slice a1 t.nH c1,.slice a2 t.nW c2,.slice a3 t.m c3] 25 (0,0))]:Pcs)++(X71++(X69++(X70++(Xb1++(Xb2++(Xb3++[]))))))) (by simp) ?_
       refine xiq mn tS25 rfl (v:=.agg #[w66,w67,w68]) rfl (i:=2) rfl rfl (xew o72.one.2 (xew o73.one.2 (xew o74.one.2 rfl))) (Nat.le_of_ble_eq_true rfl) (cs2:=[w66,w67,w68]) rfl (xcq (L':=([(b50,.cells #[.int .i64 ((t.wy.getD k3 wz).1),.int .i64 ((t.wy.getD k3 wz).2)] 43 (0,0)),(b31,.cells #[wb1,wb2,wb3] 25 (0,0)),(b23,.cells #[w66,w67,w68] 25 (0,0)),(b1,.cells #[.slice a1 t.nH c1,.slice a2 t.nW c2,.slice a3 t.m c3] 25 (0,0))]:Pcs)++(X71++(X69++(X70++(Xb1++(Xb2++(Xb3++[]))))))) rfl ?_)
       refine xav ?_
       refine xfz (List.Perm.append_left _ (List.Perm.append_left _ (List.Perm.append_left _ (List.perm_append_comm_assoc _ _ _)))) ?_
       refine xfz (List.Perm.append_left _ (List.Perm.append_left _ (List.perm_append_comm_assoc _ _ _))) ?_
       refine xfz (List.Perm.append_left _ (List.perm_append_comm_assoc _ _ _)) ?_
       refine xkw (L':=([(b50,.cells #[.int .i64 ((t.wy.getD k3 wz).1),.int .i64 ((t.wy.getD k3 wz).2)] 43 (0,0)),(b31,.cells #[wb1,wb2,wb3] 25 (0,0)),(b23,.cells #[w66,w67,w68] 25 (0,0)),(b1,.cells #[.slice a1 t.nH c1,.slice a2 t.nW c2,.slice a3 t.m c3] 25 (0,0))]:Pcs)++(Xb1++(X71++(X69++(X70++(Xb2++(Xb3++[]))))))) rfl ?_
       refine xix (A:=([(b50,.cells #[.int .i64 ((t.wy.getD k3 wz).1),.int .i64 ((t.wy.getD k3 wz).2)] 43 (0,0)),(b31,.cells #[wb1,wb2,wb3] 25 (0,0)),(b23,.cells #[w66,w67,w68] 25 (0,0)),(b1,.cells #[.slice a1 t.nH c1,.slice a2 t.nW c2,.slice a3 t.m c3] 25 (0,0))]:Pcs)) ob1 (show (ics ((ordB t r k3).hs)).length=(ordB t r k3).nH from xcx _) fun p75 a76 cp77 le78 ev_ D79=>?_
       subst ev_
       refine xfz (List.Perm.append_left _ (List.Perm.append_left _ (List.Perm.append_left _ (List.perm_append_comm_assoc _ _ _)))) ?_
       refine xfz (List.Perm.append_left _ (List.Perm.append_left _ (List.perm_append_comm_assoc _ _ _))) ?_
       refine xfz (List.Perm.append_left _ (List.perm_append_comm_assoc _ _ _)) ?_
       refine xkw (L':=([(b50,.cells #[.int .i64 ((t.wy.getD k3 wz).1),.int .i64 ((t.wy.getD k3 wz).2)] 43 (0,0)),(b31,.cells #[.slice a76 ((ordB t r k3).nH) cp77,wb2,wb3] 25 (0,0)),(b23,.cells #[w66,w67,w68] 25 (0,0)),(b1,.cells #[.slice a1 t.nH c1,.slice a2 t.nW c2,.slice a3 t.m c3] 25 (0,0))]:Pcs)++(Xb2++(X71++(X69++(X70++(Xb3++[])))))) rfl ?_
       refine xix (A:=([(b50,.cells #[.int .i64 ((t.wy.getD k3 wz).1),.int .i64 ((t.wy.getD k3 wz).2)] 43 (0,0)),(b31,.cells #[.slice a76 ((ordB t r k3).nH) cp77,wb2,wb3] 25 (0,0)),(b23,.cells #[w66,w67,w68] 25 (0,0)),(b1,.cells #[.slice a1 t.nH c1,.slice a2 t.nW c2,.slice a3 t.m c3] 25 (0,0))]:Pcs)) ob2 (show (ics ((ordB t r k3).ws)).length=(ordB t r k3).nW from xcx _) fun p80 a81 cp82 le83 ev_ D84=>?_
       subst ev_
       refine xfz (List.Perm.append_left _ (List.Perm.append_left _ (List.Perm.append_left _ (List.perm_append_comm_assoc _ _ _)))) ?_
       refine xfz (List.Perm.append_left _ (List.Perm.append_left _ (List.perm_append_comm_assoc _ _ _))) ?_
       refine xfz (List.Perm.append_left _ (List.perm_append_comm_assoc _ _ _)) ?_
       refine xkw (L':=([(b50,.cells #[.int .i64 ((t.wy.getD k3 wz).1),.int .i64 ((t.wy.getD k3 wz).2)] 43 (0,0)),(b31,.cells #[.slice a76 ((ordB t r k3).nH) cp77,.slice a81 ((ordB t r k3).nW) cp82,wb3] 25 (0,0)),(b23,.cells #[w66,w67,w68] 25 (0,0)),(b1,.cells #[.slice a1 t.nH c1,.slice a2 t.nW c2,.slice a3 t.m c3] 25 (0,0))]:Pcs)++(Xb3++(X71++(X69++(X70++[]))))) rfl ?_
       refine xix (A:=([(b50,.cells #[.int .i64 ((t.wy.getD k3 wz).1),.int .i64 ((t.wy.getD k3 wz).2)] 43 (0,0)),(b31,.cells #[.slice a76 ((ordB t r k3).nH) cp77,.slice a81 ((ordB t r k3).nW) cp82,wb3] 25 (0,0)),(b23,.cells #[w66,w67,w68] 25 (0,0)),(b1,.cells #[.slice a1 t.nH c1,.slice a2 t.nW c2,.slice a3 t.m c3] 25 (0,0))]:Pcs)) ob3 (wcs_size _) fun p85 a86 cp87 le88 ev_ D89=>?_
       subst ev_
       refine xgj 12 [[],[],[1],[],[1,2,3],[],[5],[5,6],[1,2,3,4,5,6,7],[],[9],[1,2,3,4,5,6,7,8,9,10],[],[]] xkv (by kernel_rfl) (Nat.le_of_ble_eq_true rfl) ?_
       refine wd (fun h_ H_=>xaw H_ tA25 tS25 rfl (i:=1) rfl (vs:=[.slice a76 ((ordB t r k3).nH) cp77,.slice a81 ((ordB t r k3).nW) cp82,.slice a86 ((ordB t r k3).m) cp87]) rfl rfl) <| wt (xaz xoj rfl (a':=⟨b50,0,none⟩) rfl) (tm':=zq1 (zq2 (zq4 (zq8 (zq32 (zq32 (zq32 (zq32 _)))))))) rfl <| wd (fun h_ H_=>xaj H_ tA3 rfl (i:=0) rfl (v:=.int .i64 ((t.wy.getD k3 wz).1)) rfl) <| wt (xaq (v:=.int .i64 (r)) rfl) (tm':=zq1 (zq16 (zq32 (zq32 (zq32 (zq32 _)))))) rfl ?_
       refine wo (xfq rfl rfl (wr (by omega))) ?_
       refine wt (xaz xlw rfl (a':=⟨b1,0,none⟩) rfl) (tm':=zq1 (zq2 (zq16 (zq32 (zq32 (zq32 (zq32 _))))))) rfl <| wd (fun h_ H_=>xaj H_ tA22 rfl (i:=3) rfl (v:=.slice a1 t.nH c1) rfl) <| wt (xfk Tryd.underlying22 rfl) (tm':=zq1 (zq4 (zq16 (zq32 (zq32 (zq32 (zq32 _))))))) rfl ?_
       refine wo (yuz rfl rfl (by omega) (n:=(((t.wy.getD k3 wz).1)+r) % ((t.nH:Nat):Int)) (Int.tmod_eq_emod_of_nonneg (by omega))) ?_
       refine wt (xaz xpx rfl (a':=⟨b50,1,none⟩) rfl) (tm':=zq1 (zq2 (zq4 (zq16 (zq32 (zq32 (zq32 (zq32 _)))))))) rfl <| wd (fun h_ H_=>xaj H_ tA3 rfl (i:=0) rfl (v:=.int .i64 ((t.wy.getD k3 wz).2)) rfl) <| wt (xhv tZ43 tP43 (vs:=[(0,.int .i64 ((((t.wy.getD k3 wz).1)+r) % ((t.nH:Nat):Int))),(1,.int .i64 ((t.wy.getD k3 wz).2))]) rfl (cells:=#[.int .i64 ((((t.wy.getD k3 wz).1)+r) % ((t.nH:Nat):Int)),.int .i64 ((t.wy.getD k3 wz).2)]) rfl) (tm':=zq1 (zq8 (zq16 (zq32 (zq32 (zq32 (zq32 _))))))) rfl ?_
       refine xiw rfl ?_
       refine xjj mn (first:=[]) (cap:=[]) rfl rfl fC26 (R:=fun v_ h_=>∃ w90:Value,∃ w91:Value,∃ w92:Value,∃ X93:Pcs,∃ X94:Pcs,∃ X95:Pcs,v_= .agg #[w90,w91,w92]∧(OwnS 3 1 w90 (ics (withT (ordB t r k3) ((((t.wy.getD k3 wz).1)+r) % ((t.nH:Nat):Int),(t.wy.getD k3 wz).2)).hs) X93)∧(OwnS 3 1 w91 (ics (withT (ordB t r k3) ((((t.wy.getD k3 wz).1)+r) % ((t.nH:Nat):Int),(t.wy.getD k3 wz).2)).ws) X94)∧(OwnS 43 2 w92 (wcs (withT (ordB t r k3) ((((t.wy.getD k3 wz).1)+r) % ((t.nH:Nat):Int),(t.wy.getD k3 wz).2)).wy) X95)∧St h [] p85 h_ (([(b50,.cells #[.int .i64 ((t.wy.getD k3 wz).1),.int .i64 ((t.wy.getD k3 wz).2)] 43 (0,0)),(b31,.cells #[.slice a76 ((ordB t r k3).nH) cp77,.slice a81 ((ordB t r k3).nW) cp82,.slice a86 ((ordB t r k3).m) cp87] 25 (0,0)),(b23,.cells #[w66,w67,w68] 25 (0,0)),(b1,.cells #[.slice a1 t.nH c1,.slice a2 t.nW c2,.slice a3 t.m c3] 25 (0,0))]:Pcs)++((X95++(X93++(X94++[])))++(X71++(X69++(X70++[])))))) (fun h_ H_=>(c26 .lone _ _ H_.pe _ _ _ _ _ _ (ordB t r k3) (show TownP _ _ _ _ _ _ _ (ordB t r k3) from ⟨(((show Ints _ _ _ ((ordB t r k3).hs) from D79).mono le83).mono le88),((show Ints _ _ _ ((ordB t r k3).ws) from D84).mono le88),(show Wys _ _ _ ((ordB t r k3).wy) from D89)⟩) (by omega) ((((t.wy.getD k3 wz).1)+r) % ((t.nH:Nat):Int)) ((t.wy.getD k3 wz).2)).mono fun v_ h2_ ⟨w90,w91,w92,X93,X94,X95,e_,o96,o97,o98,N_⟩=>⟨w90,w91,w92,X93,X94,X95,e_,o96,o97,o98,H_.callNA N_⟩) fun v_=>?_
       refine xgz fun w90=>xgz fun w91=>xgz fun w92=>xgz fun X93=>xgz fun X94=>xgz fun X95=>xfx fun ev_=>xfx fun o96=>xfx fun o97=>xfx fun o98=>?_
       have ev_:=ev_.symm;subst ev_
       refine xcq (L':=([(b50,.cells #[.int .i64 ((t.wy.getD k3 wz).1),.int .i64 ((t.wy.getD k3 wz).2)] 43 (0,0)),(b31,.cells #[.slice a76 ((ordB t r k3).nH) cp77,.slice a81 ((ordB t r k3).nW) cp82,.slice a86 ((ordB t r k3).m) cp87] 25 (0,0)),(b23,.cells #[w66,w67,w68] 25 (0,0)),(b1,.cells #[.slice a1 t.nH c1,.slice a2 t.nW c2,.slice a3 t.m c3] 25 (0,0))]:Pcs)++(X95++(X93++(X94++(X71++(X69++(X70++[]))))))) (by simp) ?_
       refine xgq (tm':=zq2 (zq8 (zq16 (zq32 (zq32 (zq32 (zq32 _))))))) rfl ?_
       refine xiq mn tS25 rfl (v:=.agg #[w90,w91,w92]) rfl (i:=1) rfl rfl (xew o96.one.2 (xew o97.one.2 (xew o98.one.2 rfl))) (Nat.le_of_ble_eq_true rfl) (cs2:=[w90,w91,w92]) rfl (xcq (L':=([(b50,.cells #[.int .i64 ((t.wy.getD k3 wz).1),.int .i64 ((t.wy.getD k3 wz).2)] 43 (0,0)),(b31,.cells #[w90,w91,w92] 25 (0,0)),(b23,.cells #[w66,w67,w68] 25 (0,0)),(b1,.cells #[.slice a1 t.nH c1,.slice a2 t.nW c2,.slice a3 t.m c3] 25 (0,0))]:Pcs)++(X95++(X93++(X94++(X71++(X69++(X70++[]))))))) rfl ?_)
       refine xav <| xeq <| xbx <| ro (xaq (v:=.int .i64 (((k3:Nat):Int))) rfl) ?_
       refine ro (xfq rfl rfl (n:=((k3+1:Nat):Int)) (wr (by omega))) ?_
       refine rt (xax (v:=.int .i64 (((k3+1:Nat):Int))) rfl) (tm':=zq16 _) rfl <| xav ?_
       refine xfz (List.Perm.append_left _ (List.Perm.append_left _ (List.Perm.append_left _ (List.Perm.append_left _ (List.perm_append_comm_assoc _ _ _))))) ?_
       refine xfz (List.Perm.append_left _ (List.Perm.append_left _ (List.Perm.append_left _ (List.perm_append_comm_assoc _ _ _)))) ?_
       refine xfz (List.Perm.append_left _ (List.Perm.append_left _ (List.perm_append_comm_assoc _ _ _))) ?_
       refine xfz (List.Perm.append_left _ (List.perm_append_comm_assoc _ _ _)) ?_
       refine xfz (List.Perm.append_left _ (List.Perm.append_left _ (List.Perm.append_left _ (List.Perm.append_left _ (List.Perm.append_left _ (List.perm_append_comm_assoc _ _ _)))))) ?_
       refine xfz (List.Perm.append_left _ (List.Perm.append_left _ (List.Perm.append_left _ (List.Perm.append_left _ (List.perm_append_comm_assoc _ _ _))))) ?_
       refine xfz (List.Perm.append_left _ (List.Perm.append_left _ (List.Perm.append_left _ (List.perm_append_comm_assoc _ _ _)))) ?_
       refine xfz (List.Perm.append_left _ (List.Perm.append_left _ (List.perm_append_comm_assoc _ _ _))) ?_
       refine xfz (List.Perm.append_left _ (List.Perm.append_left _ (List.Perm.append_left _ (List.Perm.append_left _ (List.Perm.append_left _ (List.perm_append_comm_assoc _ _ _)))))) ?_
       refine xfz (List.Perm.append_left _ (List.Perm.append_left _ (List.Perm.append_left _ (List.Perm.append_left _ (List.perm_append_comm_assoc _ _ _))))) ?_
       refine xfz (List.Perm.append_left _ (List.Perm.append_left _ (List.Perm.append_left _ (List.perm_append_comm_assoc _ _ _)))) ?_
       refine xfz (List.Perm.append_left _ (List.Perm.append_left _ (List.Perm.append_left _ (List.Perm.append_left _ (List.perm_append_comm_assoc _ _ _))))) ?_
       refine xfz (List.Perm.append_left _ (List.Perm.append_left _ (List.Perm.append_left _ (List.Perm.append_left _ (List.Perm.append_left _ (List.perm_append_comm_assoc _ _ _)))))) ?_
       refine xkw (L':=([(b50,.cells #[.int .i64 ((t.wy.getD k3 wz).1),.int .i64 ((t.wy.getD k3 wz).2)] 43 (0,0)),(b31,.cells #[w90,w91,w92] 25 (0,0)),(b23,.cells #[w66,w67,w68] 25 (0,0)),(b1,.cells #[.slice a1 t.nH c1,.slice a2 t.nW c2,.slice a3 t.m c3] 25 (0,0))]:Pcs)++(X69++(X70++(X71++(X93++(X94++(X95++[]))))))) rfl ?_
       exact fun h_ H_=>IH48 _ _ (by omega) h_ ⟨k3+1,w66,w67,w68,w90,w91,w92,X69,X70,X71,X93,X94,X95,rfl,(y_of rfl),(by omega),o72,o73,o74,o96,o97,o98,(H_.forget (((((le54.trans le59).trans le64).trans le78).trans le83).trans le88)).drop⟩
      ·
       refine xdx rfl (dff cc49) <| xiz rfl <| xek ?_
       have kE3_:k3=t.m:=by omega
       have pa1_:=oa1.as (congrArg (fun q_=>ics (ordA t s q_).hs) kE3_)
       have pa2_:=oa2.as (congrArg (fun q_=>ics (ordA t s q_).ws) kE3_)
       have pa3_:=oa3.as (congrArg (fun q_=>wcs (ordA t s q_).wy) kE3_)
       have pb1_:=ob1.as (congrArg (fun q_=>ics (ordB t r q_).hs) kE3_)
       have pb2_:=ob2.as (congrArg (fun q_=>ics (ordB t r q_).ws) kE3_)
       have pb3_:=ob3.as (congrArg (fun q_=>wcs (ordB t r q_).wy) kE3_)
       have oA_:=vaw hc_ hs_.1
       have oB_:=vav hc_ hr_.1
       have eA1_:=oA_.nH
       have eA2_:=oA_.nW
       have eA3_:=oA_.m
       have eB1_:=oB_.nH
       have eB2_:=oB_.nW
       have eB3_:=oB_.m
       refine xix (A:=([(b31,.cells #[wb1,wb2,wb3] 25 (0,0)),(b23,.cells #[wa1,wa2,wa3] 25 (0,0)),(b1,.cells #[.slice a1 t.nH c1,.slice a2 t.nW c2,.slice a3 t.m c3] 25 (0,0))]:Pcs)) pa1_ (show (ics ((ordA t s t.m).hs)).length=(ordA t s t.m).nH from xcx _) fun p99 a100 cp101 le102 ev_ D103=>?_
       subst ev_
       refine xix (A:=([(b31,.cells #[wb1,wb2,wb3] 25 (0,0)),(b23,.cells #[.slice a100 ((ordA t s t.m).nH) cp101,wa2,wa3] 25 (0,0)),(b1,.cells #[.slice a1 t.nH c1,.slice a2 t.nW c2,.slice a3 t.m c3] 25 (0,0))]:Pcs)) pa2_ (show (ics ((ordA t s t.m).ws)).length=(ordA t s t.m).nW from xcx _) fun p104 a105 cp106 le107 ev_ D108=>?_
       subst ev_
       refine xix (A:=([(b31,.cells #[wb1,wb2,wb3] 25 (0,0)),(b23,.cells #[.slice a100 ((ordA t s t.m).nH) cp101,.slice a105 ((ordA t s t.m).nW) cp106,wa3] 25 (0,0)),(b1,.cells #[.slice a1 t.nH c1,.slice a2 t.nW c2,.slice a3 t.m c3] 25 (0,0))]:Pcs)) pa3_ (wcs_size _) fun p109 a110 cp111 le112 ev_ D113=>?_
       subst ev_
       refine xix (A:=([(b31,.cells #[wb1,wb2,wb3] 25 (0,0)),(b23,.cells #[.slice a100 ((ordA t s t.m).nH) cp101,.slice a105 ((ordA t s t.m).nW) cp106,.slice a110 ((ordA t s t.m).m) cp111] 25 (0,0)),(b1,.cells #[.slice a1 t.nH c1,.slice a2 t.nW c2,.slice a3 t.m c3] 25 (0,0))]:Pcs)) pb1_ (show (ics ((ordB t r t.m).hs)).length=(ordB t r t.m).nH from xcx _) fun p114 a115 cp116 le117 ev_ D118=>?_
       subst ev_
       refine xix (A:=([(b31,.cells #[.slice a115 ((ordB t r t.m).nH) cp116,wb2,wb3] 25 (0,0)),(b23,.cells #[.slice a100 ((ordA t s t.m).nH) cp101,.slice a105 ((ordA t s t.m).nW) cp106,.slice a110 ((ordA t s t.m).m) cp111] 25 (0,0)),(b1,.cells #[.slice a1 t.nH c1,.slice a2 t.nW c2,.slice a3 t.m c3] 25 (0,0))]:Pcs)) pb2_ (show (ics ((ordB t r t.m).ws)).length=(ordB t r t.m).nW from xcx _) fun p119 a120 cp121 le122 ev_ D123=>?_
       subst ev_
       refine xix (A:=([(b31,.cells #[.slice a115 ((ordB t r t.m).nH) cp116,.slice a120 ((ordB t r t.m).nW) cp121,wb3] 25 (0,0)),(b23,.cells #[.slice a100 ((ordA t s t.m).nH) cp101,.slice a105 ((ordA t s t.m).nW) cp106,.slice a110 ((ordA t s t.m).m) cp111] 25 (0,0)),(b1,.cells #[.slice a1 t.nH c1,.slice a2 t.nW c2,.slice a3 t.m c3] 25 (0,0))]:Pcs)) pb3_ (wcs_size _) fun p124 a125 cp126 le127 ev_ D128=>?_
       subst ev_
       refine xkw (L':=[(b31,.cells #[.slice a115 ((ordB t r t.m).nH) cp116,.slice a120 ((ordB t r t.m).nW) cp121,.slice a125 ((ordB t r t.m).m) cp126] 25 (0,0)),(b23,.cells #[.slice a100 ((ordA t s t.m).nH) cp101,.slice a105 ((ordA t s t.m).nW) cp106,.slice a110 ((ordA t s t.m).m) cp111] 25 (0,0)),(b1,.cells #[.slice a1 t.nH c1,.slice a2 t.nW c2,.slice a3 t.m c3] 25 (0,0))]) rfl ?_
       refine xbx <| rd (fun h_ H_=>xaw H_ tA25 tS25 rfl (i:=1) rfl (vs:=[.slice a100 ((ordA t s t.m).nH) cp101,.slice a105 ((ordA t s t.m).nW) cp106,.slice a110 ((ordA t s t.m).m) cp111]) rfl rfl) ?_
       refine xcq (L':=([(b31,.cells #[.slice a115 ((ordB t r t.m).nH) cp116,.slice a120 ((ordB t r t.m).nW) cp121,.slice a125 ((ordB t r t.m).m) cp126] 25 (0,0)),(b23,.cells #[.slice a100 ((ordA t s t.m).nH) cp101,.slice a105 ((ordA t s t.m).nW) cp106,.slice a110 ((ordA t s t.m).m) cp111] 25 (0,0)),(b1,.cells #[.slice a1 t.nH c1,.slice a2 t.nW c2,.slice a3 t.m c3] 25 (0,0))]:Pcs)++[]) rfl ?_
       refine xjj mn (first:=[]) (cap:=[]) rfl rfl fC24 (R:=fun v_ h_=>∃ w129:Value,∃ X130:Pcs,v_= .tuple #[w129,.bool (true)]∧(OwnS 3 1 w129 (ics (LK (ordA t s t.m))) X130)∧St h [] p124 h_ (([(b31,.cells #[.slice a115 ((ordB t r t.m).nH) cp116,.slice a120 ((ordB t r t.m).nW) cp121,.slice a125 ((ordB t r t.m).m) cp126] 25 (0,0)),(b23,.cells #[.slice a100 ((ordA t s t.m).nH) cp101,.slice a105 ((ordA t s t.m).nW) cp106,.slice a110 ((ordA t s t.m).m) cp111] 25 (0,0)),(b1,.cells #[.slice a1 t.nH c1,.slice a2 t.nW c2,.slice a3 t.m c3] 25 (0,0))]:Pcs)++(X130++[]))) (fun h_ H_=>(c24 .lone _ _ H_.pe _ _ _ _ _ _ (ordA t s t.m) (show TownP _ _ _ _ _ _ _ (ordA t s t.m) from ⟨((((((show Ints _ _ _ ((ordA t s t.m).hs) from D103).mono le107).mono le112).mono le117).mono le122).mono le127),(((((show Ints _ _ _ ((ordA t s t.m).ws) from D108).mono le112).mono le117).mono le122).mono le127),((((show Wys _ _ _ ((ordA t s t.m).wy) from D113).mono le117).mono le122).mono le127)⟩) (by omega) ((((((((N.mono le14).mono le19).mono le102).mono le107).mono le112).mono le117).mono le122).mono le127) oA_.ck).mono fun v_ h2_ ⟨w129,X130,e_,o131,N_⟩=>⟨w129,X130,e_,o131,H_.callNA N_⟩) fun v_=>?_
       refine xgz fun w129=>xgz fun X130=>xfx fun ev_=>xfx fun o131=>?_
       have ev_:=ev_.symm;subst ev_
       refine xcq (L':=([(b31,.cells #[.slice a115 ((ordB t r t.m).nH) cp116,.slice a120 ((ordB t r t.m).nW) cp121,.slice a125 ((ordB t r t.m).m) cp126] 25 (0,0)),(b23,.cells #[.slice a100 ((ordA t s t.m).nH) cp101,.slice a105 ((ordA t s t.m).nW) cp106,.slice a110 ((ordA t s t.m).m) cp111] 25 (0,0)),(b1,.cells #[.slice a1 t.nH c1,.slice a2 t.nW c2,.slice a3 t.m c3] 25 (0,0))]:Pcs)++(X130++[])) rfl ?_
       refine rt (xaq (v:=.tuple #[w129,.bool (true)]) rfl) (tm':=zq1 (zq2 (zq8 (zq16 (zq32 (zq32 (zq32 (zq32 _)))))))) rfl <| ro (xdz rfl (v:=w129) rfl) <| ro (xdz rfl (v:=.bool (true)) rfl) <| rt (xax (v:=w129) rfl) (tm':=zq2 (zq16 _)) rfl <| ro (xax (v:=.bool (true)) rfl) <| ren ?_
       refine xbx <| rd (fun h_ H_=>xaw H_ tA25 tS25 rfl (i:=1) rfl (vs:=[.slice a100 ((ordA t s t.m).nH) cp101,.slice a105 ((ordA t s t.m).nW) cp106,.slice a110 ((ordA t s t.m).m) cp111]) rfl rfl) ?_
       refine xjj mn (first:=[]) (cap:=[]) rfl rfl fC25 (R:=fun v_ h_=>∃ w132:Value,∃ X133:Pcs,v_= .tuple #[w132,.int .i64 (shortE (ordA t s t.m))]∧(OwnS 3 1 w132 (ics (shortP (ordA t s t.m))) X133)∧St h [] p124 h_ (([(b31,.cells #[.slice a115 ((ordB t r t.m).nH) cp116,.slice a120 ((ordB t r t.m).nW) cp121,.slice a125 ((ordB t r t.m).m) cp126] 25 (0,0)),(b23,.cells #[.slice a100 ((ordA t s t.m).nH) cp101,.slice a105 ((ordA t s t.m).nW) cp106,.slice a110 ((ordA t s t.m).m) cp111] 25 (0,0)),(b1,.cells #[.slice a1 t.nH c1,.slice a2 t.nW c2,.slice a3 t.m c3] 25 (0,0))]:Pcs)++(X133++(X130++[])))) (fun h_ H_=>(zrw .lone H_.pe (show TownP _ _ _ _ _ _ _ (ordA t s t.m) from ⟨((((((show Ints _ _ _ ((ordA t s t.m).hs) from D103).mono le107).mono le112).mono le117).mono le122).mono le127),(((((show Ints _ _ _ ((ordA t s t.m).ws) from D108).mono le112).mono le117).mono le122).mono le127),((((show Wys _ _ _ ((ordA t s t.m).wy) from D113).mono le117).mono le122).mono le127)⟩) (by omega) ((((((((Z.mono le14).mono le19).mono le102).mono le107).mono le112).mono le117).mono le122).mono le127) oA_.ck).mono fun v_ h2_ ⟨w132,X133,e_,o134,N_⟩=>⟨w132,X133,e_,o134,H_.callNA N_⟩) fun v_=>?_
       refine xgz fun w132=>xgz fun X133=>xfx fun ev_=>xfx fun o134=>?_
       have ev_:=ev_.symm;subst ev_
       refine xcq (L':=([(b31,.cells #[.slice a115 ((ordB t r t.m).nH) cp116,.slice a120 ((ordB t r t.m).nW) cp121,.slice a125 ((ordB t r t.m).m) cp126] 25 (0,0)),(b23,.cells #[.slice a100 ((ordA t s t.m).nH) cp101,.slice a105 ((ordA t s t.m).nW) cp106,.slice a110 ((ordA t s t.m).m) cp111] 25 (0,0)),(b1,.cells #[.slice a1 t.nH c1,.slice a2 t.nW c2,.slice a3 t.m c3] 25 (0,0))]:Pcs)++(X133++(X130++[]))) rfl ?_
       refine xgq (tm':=zq1 (zq2 (zq4 (zq8 (zq32 (zq32 (zq32 (zq32 (zq32 (zq32 (zq32 []))))))))))) rfl ?_
       refine ro (xaq (v:=.tuple #[w132,.int .i64 (shortE (ordA t s t.m))]) rfl) <| ro (xdz rfl (v:=w132) rfl) <| rt (xdz rfl (v:=.int .i64 (shortE (ordA t s t.m))) rfl) (tm':=zq1 (zq2 (zq4 (zq8 (zq32 (zq32 (zq32 (zq32 (zq32 (zq32 (zq32 []))))))))))) rfl <| ro (xax (v:=w132) rfl) <| ro (xax (v:=.int .i64 (shortE (ordA t s t.m))) rfl) <| ren ?_
       refine xbx ?_
       refine xbq mn (fun h_ H_=>xaw H_ tA25 tS25 rfl (i:=0) rfl (vs:=[.slice a115 ((ordB t r t.m).nH) cp116,.slice a120 ((ordB t r t.m).nW) cp121,.slice a125 ((ordB t r t.m).m) cp126]) rfl rfl) (tm':=zq1 (zq2 (zq4 (zq8 (zq32 (zq32 (zq32 (zq32 (zq32 (zq32 (zq32 []))))))))))) rfl ?_
       refine xjj mn (first:=[]) (cap:=[]) rfl rfl fC24 (R:=fun v_ h_=>∃ w135:Value,∃ X136:Pcs,v_= .tuple #[w135,.bool (true)]∧(OwnS 3 1 w135 (ics (LK (ordB t r t.m))) X136)∧St h [] p124 h_ (([(b31,.cells #[.slice a115 ((ordB t r t.m).nH) cp116,.slice a120 ((ordB t r t.m).nW) cp121,.slice a125 ((ordB t r t.m).m) cp126] 25 (0,0)),(b23,.cells #[.slice a100 ((ordA t s t.m).nH) cp101,.slice a105 ((ordA t s t.m).nW) cp106,.slice a110 ((ordA t s t.m).m) cp111] 25 (0,0)),(b1,.cells #[.slice a1 t.nH c1,.slice a2 t.nW c2,.slice a3 t.m c3] 25 (0,0))]:Pcs)++(X136++(X133++(X130++[]))))) (fun h_ H_=>(c24 .lone _ _ H_.pe _ _ _ _ _ _ (ordB t r t.m) (show TownP _ _ _ _ _ _ _ (ordB t r t.m) from ⟨(((show Ints _ _ _ ((ordB t r t.m).hs) from D118).mono le122).mono le127),((show Ints _ _ _ ((ordB t r t.m).ws) from D123).mono le127),(show Wys _ _ _ ((ordB t r t.m).wy) from D128)⟩) (by omega) ((((((((N.mono le14).mono le19).mono le102).mono le107).mono le112).mono le117).mono le122).mono le127) oB_.ck).mono fun v_ h2_ ⟨w135,X136,e_,o137,N_⟩=>⟨w135,X136,e_,o137,H_.callNA N_⟩) fun v_=>?_
       refine xgz fun w135=>xgz fun X136=>xfx fun ev_=>xfx fun o137=>?_
       have ev_:=ev_.symm;subst ev_
       refine xcq (L':=([(b31,.cells #[.slice a115 ((ordB t r t.m).nH) cp116,.slice a120 ((ordB t r t.m).nW) cp121,.slice a125 ((ordB t r t.m).m) cp126] 25 (0,0)),(b23,.cells #[.slice a100 ((ordA t s t.m).nH) cp101,.slice a105 ((ordA t s t.m).nW) cp106,.slice a110 ((ordA t s t.m).m) cp111] 25 (0,0)),(b1,.cells #[.slice a1 t.nH c1,.slice a2 t.nW c2,.slice a3 t.m c3] 25 (0,0))]:Pcs)++(X136++(X133++(X130++[])))) rfl ?_
       refine ro (xaq (v:=.tuple #[w135,.bool (true)]) rfl) <| rt (xdz rfl (v:=w135) rfl) (tm':=zq1 (zq2 (zq4 (zq8 (zq32 (zq32 (zq32 (zq32 (zq32 (zq32 (zq32 []))))))))))) rfl <| ro (xdz rfl (v:=.bool (true)) rfl) <| ro (xax (v:=w135) rfl) <| rt (xax (v:=.bool (true)) rfl) (tm':=zq1 (zq2 (zq4 (zq16 _)))) rfl <| ren ?_
       refine xek ?_
       refine xfz (List.Perm.append_left _ (List.Perm.append_left _ (List.perm_append_comm_assoc _ _ _))) ?_
       refine xfz (List.Perm.append_left _ (List.perm_append_comm_assoc _ _ _)) ?_
       refine xkw (L':=([(b31,.cells #[.slice a115 ((ordB t r t.m).nH) cp116,.slice a120 ((ordB t r t.m).nW) cp121,.slice a125 ((ordB t r t.m).m) cp126] 25 (0,0)),(b23,.cells #[.slice a100 ((ordA t s t.m).nH) cp101,.slice a105 ((ordA t s t.m).nW) cp106,.slice a110 ((ordA t s t.m).m) cp111] 25 (0,0)),(b1,.cells #[.slice a1 t.nH c1,.slice a2 t.nW c2,.slice a3 t.m c3] 25 (0,0))]:Pcs)++(X130++(X136++(X133++[])))) rfl ?_
       refine xix (A:=([(b31,.cells #[.slice a115 ((ordB t r t.m).nH) cp116,.slice a120 ((ordB t r t.m).nW) cp121,.slice a125 ((ordB t r t.m).m) cp126] 25 (0,0)),(b23,.cells #[.slice a100 ((ordA t s t.m).nH) cp101,.slice a105 ((ordA t s t.m).nW) cp106,.slice a110 ((ordA t s t.m).m) cp111] 25 (0,0)),(b1,.cells #[.slice a1 t.nH c1,.slice a2 t.nW c2,.slice a3 t.m c3] 25 (0,0))]:Pcs)) o131 ((xcx _).trans (xpj _)) fun p138 a139 cp140 le141 ev_ D142=>?_
       subst ev_
       refine xfz (List.Perm.append_left _ (List.perm_append_comm_assoc _ _ _)) ?_
       refine xkw (L':=([(b31,.cells #[.slice a115 ((ordB t r t.m).nH) cp116,.slice a120 ((ordB t r t.m).nW) cp121,.slice a125 ((ordB t r t.m).m) cp126] 25 (0,0)),(b23,.cells #[.slice a100 ((ordA t s t.m).nH) cp101,.slice a105 ((ordA t s t.m).nW) cp106,.slice a110 ((ordA t s t.m).m) cp111] 25 (0,0)),(b1,.cells #[.slice a1 t.nH c1,.slice a2 t.nW c2,.slice a3 t.m c3] 25 (0,0))]:Pcs)++(X133++(X136++[]))) rfl ?_
       refine xix (A:=([(b31,.cells #[.slice a115 ((ordB t r t.m).nH) cp116,.slice a120 ((ordB t r t.m).nW) cp121,.slice a125 ((ordB t r t.m).m) cp126] 25 (0,0)),(b23,.cells #[.slice a100 ((ordA t s t.m).nH) cp101,.slice a105 ((ordA t s t.m).nW) cp106,.slice a110 ((ordA t s t.m).m) cp111] 25 (0,0)),(b1,.cells #[.slice a1 t.nH c1,.slice a2 t.nW c2,.slice a3 t.m c3] 25 (0,0))]:Pcs)) o134 ((xcx _).trans rfl) fun p143 a144 cp145 le146 ev_ D147=>?_
       subst ev_
       refine xix (A:=([(b31,.cells #[.slice a115 ((ordB t r t.m).nH) cp116,.slice a120 ((ordB t r t.m).nW) cp121,.slice a125 ((ordB t r t.m).m) cp126] 25 (0,0)),(b23,.cells #[.slice a100 ((ordA t s t.m).nH) cp101,.slice a105 ((ordA t s t.m).nW) cp106,.slice a110 ((ordA t s t.m).m) cp111] 25 (0,0)),(b1,.cells #[.slice a1 t.nH c1,.slice a2 t.nW c2,.slice a3 t.m c3] 25 (0,0))]:Pcs)) o137 ((xcx _).trans (xpj _)) fun p148 a149 cp150 le151 ev_ D152=>?_
       subst ev_
       refine xkw (L':=[(b31,.cells #[.slice a115 ((ordB t r t.m).nH) cp116,.slice a120 ((ordB t r t.m).nW) cp121,.slice a125 ((ordB t r t.m).m) cp126] 25 (0,0)),(b23,.cells #[.slice a100 ((ordA t s t.m).nH) cp101,.slice a105 ((ordA t s t.m).nW) cp106,.slice a110 ((ordA t s t.m).m) cp111] 25 (0,0)),(b1,.cells #[.slice a1 t.nH c1,.slice a2 t.nW c2,.slice a3 t.m c3] 25 (0,0))]) rfl ?_
       refine xbx <| ro (xaq (v:=.bool (true)) rfl) <| ro (xgw rfl) <| rt (xaq (v:=.bool (!true)) rfl) (tm':=zq1 (zq2 (zq4 (zq8 (zq32 (zq32 (zq32 (zq32 (zq32 (zq32 (zq32 []))))))))))) rfl ?_
       refine xbq (ms rfl rfl (xej rfl)) (fun h_ H_=>xaq (v:=.bool (true)) rfl) rfl ?_
       refine xbq (ms rfl rfl (xej rfl)) (fun h_ H_=>xgw rfl) rfl ?_
       refine rt (xck rfl (xej rfl) (v:=.bool (!true)) rfl) (tm':=zq1 (zq2 (zq4 (zq8 (zq32 (zq32 (zq32 (zq32 (zq32 (zq32 (zq32 []))))))))))) rfl <| ro (xaq (v:=.bool (!true)) rfl) ?_
       refine xbq (ms rfl rfl (xej rfl)) (fun h_ H_=>xaq (v:=.bool (true)) rfl) rfl ?_
       refine xbq (ms rfl rfl (xej rfl)) (fun h_ H_=>xgw rfl) (tm':=zq1 (zq2 (zq4 (zq8 (zq32 (zq32 (zq32 (zq32 (zq32 (zq32 (zq32 []))))))))))) rfl ?_
       refine ro (xck rfl (xej rfl) (v:=.bool (!true)) rfl) <| ro (xaq (v:=.bool (!true)) rfl) ?_
       refine xbq (ms rfl rfl (xej rfl)) (fun h_ H_=>xaq (v:=.slice a12 t.nH cp13) rfl) (tm':=zq1 (zq2 (zq4 (zq8 (zq32 (zq32 (zq32 (zq32 (zq32 (zq32 (zq32 []))))))))))) rfl ?_
       refine xbq (ms rfl rfl (xej rfl)) (fun h_ H_=>xaq (v:=.slice a139 ((ordA t s t.m).nH) cp140) rfl) rfl ?_
       refine xdv (ms rfl rfl (xej rfl)) (first:=[]) (cap:=[]) rfl rfl fC27 (fun h_ H_=>c27 .lone _ _ H_.pe _ _ _ _ _ _ _ _ (((((((((((show Ints _ _ _ (LK t) from D15).mono le19).mono le102).mono le107).mono le112).mono le117).mono le122).mono le127).mono le141).mono le146).mono le151) (((show Ints _ _ _ (LK (ordA t s t.m)) from D142).mono le146).mono le151) (by omega)) rfl ?_
       refine xbq (ms rfl rfl (xej rfl)) (fun h_ H_=>xgw rfl) (tm':=zq1 (zq2 (zq4 (zq8 (zq32 (zq32 (zq32 (zq32 (zq32 (zq32 (zq32 []))))))))))) rfl ?_
       refine ro (xck rfl (xej rfl) (v:=.bool (!(decide ((LK t)=(LK (ordA t s t.m)))))) rfl) <| ro (xaq (v:=.bool (!(decide ((LK t)=(LK (ordA t s t.m)))))) rfl) ?_
       refine xbq (ms rfl rfl (xej (decide_eq_true oA_.lk.symm))) (fun h_ H_=>xaq (v:=.slice a12 t.nH cp13) rfl) (tm':=zq1 (zq2 (zq4 (zq8 (zq32 (zq32 (zq32 (zq32 (zq32 (zq32 (zq32 []))))))))))) rfl ?_
       refine xbq (ms rfl rfl (xej (decide_eq_true oA_.lk.symm))) (fun h_ H_=>xaq (v:=.slice a149 ((ordB t r t.m).nH) cp150) rfl) rfl ?_
       refine xdv (ms rfl rfl (xej (decide_eq_true oA_.lk.symm))) (first:=[]) (cap:=[]) rfl rfl fC27 (fun h_ H_=>c27 .lone _ _ H_.pe _ _ _ _ _ _ _ _ (((((((((((show Ints _ _ _ (LK t) from D15).mono le19).mono le102).mono le107).mono le112).mono le117).mono le122).mono le127).mono le141).mono le146).mono le151) (show Ints _ _ _ (LK (ordB t r t.m)) from D152) (by omega)) rfl ?_
       refine xbq (ms rfl rfl (xej (decide_eq_true oA_.lk.symm))) (fun h_ H_=>xgw rfl) (tm':=zq1 (zq2 (zq4 (zq8 (zq32 (zq32 (zq32 (zq32 (zq32 (zq32 (zq32 []))))))))))) rfl ?_
       refine ro (xck rfl (xej (decide_eq_true oA_.lk.symm)) (v:=.bool (!(decide ((LK t)=(LK (ordB t r t.m)))))) rfl) <| ro (xaq (v:=.bool (!(decide ((LK t)=(LK (ordB t r t.m)))))) rfl) ?_
       refine xbq (ms rfl rfl (xej (decide_eq_true oB_.lk.symm))) (fun h_ H_=>xaq (v:=.slice a17 ((shortP t).length) cp18) rfl) (tm':=zq1 (zq2 (zq4 (zq8 (zq32 (zq32 (zq32 (zq32 (zq32 (zq32 (zq32 []))))))))))) rfl ?_
       refine xbq (ms rfl rfl (xej (decide_eq_true oB_.lk.symm))) (fun h_ H_=>xaq (v:=.slice a144 ((shortP (ordA t s t.m)).length) cp145) rfl) rfl ?_
       refine xdv (ms rfl rfl (xej (decide_eq_true oB_.lk.symm))) (first:=[]) (cap:=[]) rfl rfl fC27 (fun h_ H_=>c27 .lone _ _ H_.pe _ _ _ _ _ _ _ _ ((((((((((show Ints _ _ _ (shortP t) from D20).mono le102).mono le107).mono le112).mono le117).mono le122).mono le127).mono le141).mono le146).mono le151) ((show Ints _ _ _ (shortP (ordA t s t.m)) from D147).mono le151) (by omega)) rfl ?_
       refine xbq (ms rfl rfl (xej (decide_eq_true oB_.lk.symm))) (fun h_ H_=>xgw rfl) (tm':=zq1 (zq2 (zq4 (zq8 (zq32 (zq32 (zq32 (zq32 (zq32 (zq32 (zq32 []))))))))))) rfl ?_
       refine ro (xck rfl (xej (decide_eq_true oB_.lk.symm)) (v:=.bool (!(decide ((shortP t)=(shortP (ordA t s t.m)))))) rfl) <| ro (xaq (v:=.bool (!(decide ((shortP t)=(shortP (ordA t s t.m)))))) rfl) ?_
       refine xbq (ms rfl rfl (xej (decide_eq_true (oA_.sh (fun _ _=>rfl)).1.symm))) (fun h_ H_=>xaq (v:=.int .i64 (shortE t)) rfl) (tm':=zq1 (zq2 (zq4 (zq8 (zq32 (zq32 (zq32 (zq32 (zq32 (zq32 (zq32 []))))))))))) rfl ?_
       refine xbq (ms rfl rfl (xej (decide_eq_true (oA_.sh (fun _ _=>rfl)).1.symm))) (fun h_ H_=>xaq (v:=.int .i64 (shortE (ordA t s t.m))) rfl) rfl ?_
       refine xbq (ms rfl rfl (xej (decide_eq_true (oA_.sh (fun _ _=>rfl)).1.symm))) (fun h_ H_=>xkk rfl rfl) rfl ?_
       refine rt (xck rfl (xej (decide_eq_true (oA_.sh (fun _ _=>rfl)).1.symm)) (v:=.bool (decide (shortE t≠shortE (ordA t s t.m)))) rfl) (tm':=zq1 (zq2 (zq4 (zq8 (zq32 (zq32 (zq32 (zq32 (zq32 (zq32 (zq32 []))))))))))) rfl <| xav <| xdx rfl (decide_eq_false (fun z_=>z_ (oA_.sh (fun _ _=>rfl)).2.symm)) <| xdk <| xek <| fsr ?_
       refine ro (xax (v:=.int .i64 0) rfl) <| xav <| xez ?_
       refine xiv (m₀:=t.nH-0) (fun m_ tm_ h_=>∃ (k4:Nat),m_=t.nH-k4∧(∃ y153:Nat→Value,tm_=[.agg #[.slice a1 t.nH c1,.slice a2 t.nW c2,.slice a3 t.m c3],.int .i64 (s),.int .i64 (r),.pointer (some ⟨b1,0,none⟩),undef,undef,(y153 6),.slice a12 t.nH cp13,.bool (true),.slice a17 ((shortP t).length) cp18,.int .i64 (shortE t),.pointer (some ⟨b23,0,none⟩),.pointer (some ⟨b31,0,none⟩),.int .i64 (((k1:Nat):Int)),.int .i64 (((k2:Nat):Int)),.int .i64 (((k3:Nat):Int)),(y47 16),.slice a139 ((ordA t s t.m).nH) cp140,.bool (true),.slice a144 ((shortP (ordA t s t.m)).length) cp145,.int .i64 (shortE (ordA t s t.m)),.slice a149 ((ordB t r t.m).nH) cp150,.bool (true),.int .i64 (((k4:Nat):Int)),(y153 24),(y153 25),(y153 26),(y153 27),.agg #[.slice a1 t.nH c1,.slice a2 t.nW c2,.slice a3 t.m c3],.bool (readyB t),.bool (!(readyB t)),.bool (!(readyB t)),.int .i64 (s),.int .i64 (r),.int .i64 (min s r),.bool (decide (min s r<0)),.bool (decide (min s r<0)),.bool (decide (min s r<0)),.int .i64 (s),.int .i64 (r),.int .i64 (max s r),.bool (decide (100<max s r)),.bool (decide (100<max s r)),undef,.tuple #[.slice a12 t.nH cp13,.bool (true)],.agg #[.slice a1 t.nH c1,.slice a2 t.nW c2,.slice a3 t.m c3],.tuple #[.slice a12 t.nH cp13,.bool (true)],.slice a12 t.nH cp13,.bool (true),.tuple #[.slice a17 ((shortP t).length) cp18,.int .i64 (shortE t)],.agg #[.slice a1 t.nH c1,.slice a2 t.nW c2,.slice a3 t.m c3],.tuple #[.slice a17 ((shortP t).length) cp18,.int .i64 (shortE t)],.slice a17 ((shortP t).length) cp18,.int .i64 (shortE t),(val21 0),.pointer (some ⟨b1,0,none⟩),.slice a1 t.nH c1,(val21 3),.pointer (some ⟨b1,1,none⟩),.slice a2 t.nW c2,.int .i64 (((t.nW:Nat):Int)),(val21 7),.agg #[(val21 3),(val21 7),.slice none 0 0],.pointer (some ⟨b1,0,none⟩),.slice a1 t.nH c1,.int .i64 (((t.nH:Nat):Int)),(val29 3),(val29 4),.pointer (some ⟨b1,1,none⟩),.slice a2 t.nW c2,(val29 7),.agg #[(val29 3),(val29 7),.slice none 0 0],.int .i64 (((k1:Nat):Int)),.pointer (some ⟨b1,1,none⟩),.slice a2 t.nW c2,.int .i64 (((t.nW:Nat):Int)),.bool (decide (((k1:Nat):Int)<((t.nW:Nat):Int))),(y37 77),(y37 78),(y37 79),(y37 80),(y37 81),(y37 82),(y37 83),(y37 84),(y37 85),(y37 86),(y37 87),(y37 88),(y37 89),(y37 90),(y37 91),(y37 92),(y37 93),.int .i64 (((k2:Nat):Int)),.pointer (some ⟨b1,0,none⟩),.slice a1 t.nH c1,.int .i64 (((t.nH:Nat):Int)),.bool (decide (((k2:Nat):Int)<((t.nH:Nat):Int))),(y42 99),(y42 100),(y42 101),(y42 102),(y42 103),(y42 104),(y42 105),(y42 106),(y42 107),(y42 108),(y42 109),(y42 110),(y42 111),(y42 112),(y42 113),(y42 114),(y42 115),.int .i64 (((k3:Nat):Int)),.pointer (some ⟨b1,2,none⟩),.slice a3 t.m c3,.int .i64 (((t.m:Nat):Int)),.bool (decide (((k3:Nat):Int)<((t.m:Nat):Int))),(y47 121),(y47 122),(y47 123),(y47 124),(y47 125),(y47 126),(y47 127),(y47 128),(y47 129),(y47 130),(y47 131),(y47 132),(y47 133),(y47 134),(y47 135),(y47 136),(y47 137),(y47 138),(y47 139),(y47 140),(y47 141),(y47 142),(y47 143),(y47 144),(y47 145),(y47 146),(y47 147),(y47 148),(y47 149),(y47 150),(y47 151),(y47 152),(y47 153),.tuple #[.slice a139 ((ordA t s t.m).nH) cp140,.bool (true)],.agg #[.slice a100 ((ordA t s t.m).nH) cp101,.slice a105 ((ordA t s t.m).nW) cp106,.slice a110 ((ordA t s t.m).m) cp111],.tuple #[.slice a139 ((ordA t s t.m).nH) cp140,.bool (true)],.slice a139 ((ordA t s t.m).nH) cp140,.bool (true),.tuple #[.slice a144 ((shortP (ordA t s t.m)).length) cp145,.int .i64 (shortE (ordA t s t.m))],.agg #[.slice a100 ((ordA t s t.m).nH) cp101,.slice a105 ((ordA t s t.m).nW) cp106,.slice a110 ((ordA t s t.m).m) cp111],.tuple #[.slice a144 ((shortP (ordA t s t.m)).length) cp145,.int .i64 (shortE (ordA t s t.m))],.slice a144 ((shortP (ordA t s t.m)).length) cp145,.int .i64 (shortE (ordA t s t.m)),.tuple #[.slice a149 ((ordB t r t.m).nH) cp150,.bool (true)],.agg #[.slice a115 ((ordB t r t.m).nH) cp116,.slice a120 ((ordB t r t.m).nW) cp121,.slice a125 ((ordB t r t.m).m) cp126],.tuple #[.slice a149 ((ordB t r t.m).nH) cp150,.bool (true)],.slice a149 ((ordB t r t.m).nH) cp150,.bool (true),.bool (true),.bool (!true),.bool (!true),.bool (true),.bool (!true),.bool (!true),.bool (!true),.bool (true),.bool (!true),.bool (!true),.bool (!true),.slice a12 t.nH cp13,.slice a139 ((ordA t s t.m).nH) cp140,.bool (decide ((LK t)=(LK (ordA t s t.m)))),.bool (!(decide ((LK t)=(LK (ordA t s t.m))))),.bool (!(decide ((LK t)=(LK (ordA t s t.m))))),.bool (!(decide ((LK t)=(LK (ordA t s t.m))))),.slice a12 t.nH cp13,.slice a149 ((ordB t r t.m).nH) cp150,.bool (decide ((LK t)=(LK (ordB t r t.m)))),.bool (!(decide ((LK t)=(LK (ordB t r t.m))))),.bool (!(decide ((LK t)=(LK (ordB t r t.m))))),.bool (!(decide ((LK t)=(LK (ordB t r t.m))))),.slice a17 ((shortP t).length) cp18,.slice a144 ((shortP (ordA t s t.m)).length) cp145,.bool (decide ((shortP t)=(shortP (ordA t s t.m)))),.bool (!(decide ((shortP t)=(shortP (ordA t s t.m))))),.bool (!(decide ((shortP t)=(shortP (ordA t s t.m))))),.bool (!(decide ((shortP t)=(shortP (ordA t s t.m))))),.int .i64 (shortE t),.int .i64 (shortE (ordA t s t.m)),.bool (decide (shortE t≠shortE (ordA t s t.m))),.bool (decide (shortE t≠shortE (ordA t s t.m))),(y153 202),(y153 203),(y153 204),(y153 205),(y153 206),(y153 207),(y153 208),(y153 209),(y153 210),(y153 211),(y153 212),(y153 213),(y153 214),(y153 215),(y153 216),(y153 217),(y153 218),(y153 219),(y153 220),(y153 221),(y153 222),(y153 223),(y153 224),(y153 225),(y153 226),(y153 227),(y153 228),(y153 229),(y153 230),(y153 231),(y153 232),(y153 233),(y153 234),(y153 235),(y153 236),(y153 237),undef])∧(k4≤t.nH)∧St h [] p148 h_ ([(b31,.cells #[.slice a115 ((ordB t r t.m).nH) cp116,.slice a120 ((ordB t r t.m).nW) cp121,.slice a125 ((ordB t r t.m).m) cp126] 25 (0,0)),(b23,.cells #[.slice a100 ((ordA t s t.m).nH) cp101,.slice a105 ((ordA t s t.m).nW) cp106,.slice a110 ((ordA t s t.m).m) cp111] 25 (0,0)),(b1,.cells #[.slice a1 t.nH c1,.slice a2 t.nW c2,.slice a3 t.m c3] 25 (0,0))])) (fun h_ H_=>⟨0,rfl,(y_of rfl),Nat.zero_le _,H_⟩) ?_
       intro m_ tm_ IH154
       refine xhj fun k4=>xcw fun hm_=>xcw fun ht_=>xcw fun hk4=>?_
       subst hm_;obtain ⟨y153,ht_⟩:=ht_;subst ht_
       refine xek <| fsr <| ro (xaq (v:=.int .i64 (((k4:Nat):Int))) rfl) <| rt (xaz xlw rfl (a':=⟨b1,0,none⟩) rfl) (tm':=zq1 (zq2 (zq4 (zq8 (zq32 (zq32 (zq32 (zq32 (zq32 (zq32 (zq32 []))))))))))) rfl <| rd (fun h_ H_=>xaj H_ tA22 rfl (i:=2) rfl (v:=.slice a1 t.nH c1) rfl) <| ro (xfk Tryd.underlying22 rfl) ?_
       refine rt (xgk rfl rfl) (tm':=zq1 (zq2 (zq4 (zq8 (zq32 (zq32 (zq32 (zq32 (zq32 (zq32 (zq32 []))))))))))) rfl <| xav ?_
       by_cases cc155:((k4:Nat):Int)<((t.nH:Nat):Int)
       ·
        refine xdw rfl (dtt cc155) <| xdk <| xek <| xez <| fsr <| rd (fun h_ H_=>xaw H_ tA25 tS25 rfl (i:=2) rfl (vs:=[.slice a1 t.nH c1,.slice a2 t.nW c2,.slice a3 t.m c3]) rfl rfl) ?_
        refine ro (xaq (v:=.int .i64 (((k4:Nat):Int))) rfl) ?_
        refine xdv mn (first:=[]) (cap:=[]) rfl rfl fC18 (fun h_ H_=>zvz .lone H_.pe (show TownP _ _ _ _ _ _ _ t from ⟨(((((((((((T.h.mono le14).mono le19).mono le102).mono le107).mono le112).mono le117).mono le122).mono le127).mono le141).mono le146).mono le151),(((((((((((T.w.mono le14).mono le19).mono le102).mono le107).mono le112).mono le117).mono le122).mono le127).mono le141).mono le146).mono le151),(((((((((((T.y.mono le14).mono le19).mono le102).mono le107).mono le112).mono le117).mono le122).mono le127).mono le141).mono le146).mono le151)⟩) (by omega) (((((((((((N.mono le14).mono le19).mono le102).mono le107).mono le112).mono le117).mono le122).mono le127).mono le141).mono le146).mono le151) hc_ (z:=((k4:Nat):Int)) (by omega)) (tm':=zq1 (zq2 (zq4 (zq8 (zq32 (zq32 (zq32 (zq32 (zq32 (zq32 (zq32 []))))))))))) rfl ?_
        refine ro (xaq (v:=.tuple #[.agg #[.int .i64 (drawV t (((k4:Nat):Int)) (-1)),.int .i64 (drawV t (((k4:Nat):Int)) 1)],.int .i64 0]) rfl) <| ro (xdz rfl (v:=.agg #[.int .i64 (drawV t (((k4:Nat):Int)) (-1)),.int .i64 (drawV t (((k4:Nat):Int)) 1)]) rfl) <| rt (xdz rfl (v:=.int .i64 0) rfl) (tm':=zq1 (zq2 (zq4 (zq8 (zq32 (zq32 (zq32 (zq32 (zq32 (zq32 (zq32 []))))))))))) rfl ?_
        refine xkx mn tZ30 rfl fun b156=>xcq (L':=[(b156,.cells #[.int .i64 0,.int .i64 0] 30 (0,0)),(b31,.cells #[.slice a115 ((ordB t r t.m).nH) cp116,.slice a120 ((ordB t r t.m).nW) cp121,.slice a125 ((ordB t r t.m).m) cp126] 25 (0,0)),(b23,.cells #[.slice a100 ((ordA t s t.m).nH) cp101,.slice a105 ((ordA t s t.m).nW) cp106,.slice a110 ((ordA t s t.m).m) cp111] 25 (0,0)),(b1,.cells #[.slice a1 t.nH c1,.slice a2 t.nW c2,.slice a3 t.m c3] 25 (0,0))]) rfl ?_
        refine xiq mn tS30 rfl (v:=.agg #[.int .i64 (drawV t (((k4:Nat):Int)) (-1)),.int .i64 (drawV t (((k4:Nat):Int)) 1)]) rfl (i:=0) rfl rfl rfl (Nat.le_of_ble_eq_true rfl) (cs2:=[.int .i64 (drawV t (((k4:Nat):Int)) (-1)),.int .i64 (drawV t (((k4:Nat):Int)) 1)]) rfl (xcq (L':=[(b156,.cells #[.int .i64 (drawV t (((k4:Nat):Int)) (-1)),.int .i64 (drawV t (((k4:Nat):Int)) 1)] 30 (0,0)),(b31,.cells #[.slice a115 ((ordB t r t.m).nH) cp116,.slice a120 ((ordB t r t.m).nW) cp121,.slice a125 ((ordB t r t.m).m) cp126] 25 (0,0)),(b23,.cells #[.slice a100 ((ordA t s t.m).nH) cp101,.slice a105 ((ordA t s t.m).nW) cp106,.slice a110 ((ordA t s t.m).m) cp111] 25 (0,0)),(b1,.cells #[.slice a1 t.nH c1,.slice a2 t.nW c2,.slice a3 t.m c3] 25 (0,0))]) rfl ?_)
        refine ro (xax (v:=.int .i64 0) rfl) <| ren ?_
        have hx4_:=zgw (x:=((k4:Nat):Int)) (s:=r) (n:=t.nH) (by omega)
        obtain ⟨Gb159,hG12_⟩:=sk1 (fun (v_:Value) (x_:Pcs) (b159:Nat)=>v_= .pointer (some ⟨b159,0,none⟩)∧x_=(([(b159,.cells #[.int .i64 0,.int .i64 0] 30 (0,0))]:Pcs)++[]))
        refine xyx (xlz (C:=[]) (A:=([(b156,.cells #[.int .i64 (drawV t (((k4:Nat):Int)) (-1)),.int .i64 (drawV t (((k4:Nat):Int)) 1)] 30 (0,0)),(b31,.cells #[.slice a115 ((ordB t r t.m).nH) cp116,.slice a120 ((ordB t r t.m).nW) cp121,.slice a125 ((ordB t r t.m).m) cp126] 25 (0,0)),(b23,.cells #[.slice a100 ((ordA t s t.m).nH) cp101,.slice a105 ((ordA t s t.m).nW) cp106,.slice a110 ((ordA t s t.m).m) cp111] 25 (0,0)),(b1,.cells #[.slice a1 t.nH c1,.slice a2 t.nW c2,.slice a3 t.m c3] 25 (0,0))]:Pcs)) 14 [] [] [13] [0,1,2,3,4,5,6,7,8,9,10,11] (fun _=>[]) (fun i_=>match i_ with | 13=>[12] | _=>[]) (fun i_=>match i_ with | 0=>[] | 1=>[] | 2=>[] | 3=>[1,2] | 4=>[] | 5=>[4] | 6=>[5] | 7=>[3,6] | 8=>[0,7] | 9=>[8] | 10=>[9] | 11=>[9] | 12=>[] | 13=>[0,1,2,3,4,5,6,7,8,9,10,12] | _=>[]) (fun i_ val_ pc_ v_ x_=>match i_ with | 0=>v_= .agg #[.slice a115 ((ordB t r t.m).nH) cp116,.slice a120 ((ordB t r t.m).nW) cp121,.slice a125 ((ordB t r t.m).m) cp126]∧x_=[] | 1=>v_= .int .i64 (((k4:Nat):Int))∧x_=[] | 2=>v_= .int .i64 (r)∧x_=[] | 3=>v_= .int .i64 (((k4:Nat):Int)+r)∧x_=[] | 4=>v_= .pointer (some ⟨b1,0,none⟩)∧x_=[] | 5=>v_= .slice a1 t.nH c1∧x_=[] | 6=>v_= .int .i64 (((t.nH:Nat):Int))∧x_=[] | 7=>v_= .int .i64 ((((k4:Nat):Int)+r) % ((t.nH:Nat):Int))∧x_=[] | 8=>v_= .tuple #[.agg #[.int .i64 (drawV (ordB t r t.m) ((((k4:Nat):Int)+r) % ((t.nH:Nat):Int)) (-1)),.int .i64 (drawV (ordB t r t.m) ((((k4:Nat):Int)+r) % ((t.nH:Nat):Int)) 1)],.int .i64 0]∧x_=[] | 9=>v_= .tuple #[.agg #[.int .i64 (drawV (ordB t r t.m) ((((k4:Nat):Int)+r) % ((t.nH:Nat):Int)) (-1)),.int .i64 (drawV (ordB t r t.m) ((((k4:Nat):Int)+r) % ((t.nH:Nat):Int)) 1)],.int .i64 0]∧x_=[] | 10=>v_= .agg #[.int .i64 (drawV (ordB t r t.m) ((((k4:Nat):Int)+r) % ((t.nH:Nat):Int)) (-1)),.int .i64 (drawV (ordB t r t.m) ((((k4:Nat):Int)+r) % ((t.nH:Nat):Int)) 1)]∧x_=[] | 11=>v_= .int .i64 0∧x_=[] | 12=>∃ b159:Nat,v_= .pointer (some ⟨b159,0,none⟩)∧x_=(([(b159,.cells #[.int .i64 0,.int .i64 0] 30 (0,0))]:Pcs)++[]) | 13=>v_=undef∧x_=[((Gb159 (val_ 12) (pc_ 12)),.cells #[.int .i64 (drawV (ordB t r t.m) ((((k4:Nat):Int)+r) % ((t.nH:Nat):Int)) (-1)),.int .i64 (drawV (ordB t r t.m) ((((k4:Nat):Int)+r) % ((t.nH:Nat):Int)) 1)] 30 (0,0))] | _=>True) (fun val157=>[.agg #[.slice a1 t.nH c1,.slice a2 t.nW c2,.slice a3 t.m c3],.int .i64 (s),.int .i64 (r),.pointer (some ⟨b1,0,none⟩),undef,undef,(y153 6),.slice a12 t.nH cp13,.bool (true),.slice a17 ((shortP t).length) cp18,.int .i64 (shortE t),.pointer (some ⟨b23,0,none⟩),.pointer (some ⟨b31,0,none⟩),.int .i64 (((k1:Nat):Int)),.int .i64 (((k2:Nat):Int)),.int .i64 (((k3:Nat):Int)),(y47 16),.slice a139 ((ordA t s t.m).nH) cp140,.bool (true),.slice a144 ((shortP (ordA t s t.m)).length) cp145,.int .i64 (shortE (ordA t s t.m)),.slice a149 ((ordB t r t.m).nH) cp150,.bool (true),.int .i64 (((k4:Nat):Int)),.pointer (some ⟨b156,0,none⟩),.int .i64 0,(val157 12),(y153 27),.agg #[.slice a1 t.nH c1,.slice a2 t.nW c2,.slice a3 t.m c3],.bool (readyB t),.bool (!(readyB t)),.bool (!(readyB t)),.int .i64 (s),.int .i64 (r),.int .i64 (min s r),.bool (decide (min s r<0)),.bool (decide (min s r<0)),.bool (decide (min s r<0)),.int .i64 (s),.int .i64 (r),.int .i64 (max s r),.bool (decide (100<max s r)),.bool (decide (100<max s r)),undef,.tuple #[.slice a12 t.nH cp13,.bool (true)],.agg #[.slice a1 t.nH c1,.slice a2 t.nW c2,.slice a3 t.m c3],.tuple #[.slice a12 t.nH cp13,.bool (true)],.slice a12 t.nH cp13,.bool (true),.tuple #[.slice a17 ((shortP t).length) cp18,.int .i64 (shortE t)],.agg #[.slice a1 t.nH c1,.slice a2 t.nW c2,.slice a3 t.m c3],.tuple #[.slice a17 ((shortP t).length) cp18,.int .i64 (shortE t)],.slice a17 ((shortP t).length) cp18,.int .i64 (shortE t),(val21 0),.pointer (some ⟨b1,0,none⟩),.slice a1 t.nH c1,(val21 3),.pointer (some ⟨b1,1,none⟩),.slice a2 t.nW c2,.int .i64 (((t.nW:Nat):Int)),(val21 7),.agg #[(val21 3),(val21 7),.slice none 0 0],.pointer (some ⟨b1,0,none⟩),.slice a1 t.nH c1,.int .i64 (((t.nH:Nat):Int)),(val29 3),(val29 4),.pointer (some ⟨b1,1,none⟩),.slice a2 t.nW c2,(val29 7),.agg #[(val29 3),(val29 7),.slice none 0 0],.int .i64 (((k1:Nat):Int)),.pointer (some ⟨b1,1,none⟩),.slice a2 t.nW c2,.int .i64 (((t.nW:Nat):Int)),.bool (decide (((k1:Nat):Int)<((t.nW:Nat):Int))),(y37 77),(y37 78),(y37 79),(y37 80),(y37 81),(y37 82),(y37 83),(y37 84),(y37 85),(y37 86),(y37 87),(y37 88),(y37 89),(y37 90),(y37 91),(y37 92),(y37 93),.int .i64 (((k2:Nat):Int)),.pointer (some ⟨b1,0,none⟩),.slice a1 t.nH c1,.int .i64 (((t.nH:Nat):Int)),.bool (decide (((k2:Nat):Int)<((t.nH:Nat):Int))),(y42 99),(y42 100),(y42 101),(y42 102),(y42 103),(y42 104),(y42 105),(y42 106),(y42 107),(y42 108),(y42 109),(y42 110),(y42 111),(y42 112),(y42 113),(y42 114),(y42 115),.int .i64 (((k3:Nat):Int)),.pointer (some ⟨b1,2,none⟩),.slice a3 t.m c3,.int .i64 (((t.m:Nat):Int)),.bool (decide (((k3:Nat):Int)<((t.m:Nat):Int))),(y47 121),(y47 122),(y47 123),(y47 124),(y47 125),(y47 126),(y47 127),(y47 128),(y47 129),(y47 130),(y47 131),(y47 132),(y47 133),(y47 134),(y47 135),(y47 136),(y47 137),(y47 138),(y47 139),(y47 140),(y47 141),(y47 142),(y47 143),(y47 144),(y47 145),(y47 146),(y47 147),(y47 148),(y47 149),(y47 150),(y47 151),(y47 152),(y47 153),.tuple #[.slice a139 ((ordA t s t.m).nH) cp140,.bool (true)],.agg #[.slice a100 ((ordA t s t.m).nH) cp101,.slice a105 ((ordA t s t.m).nW) cp106,.slice a110 ((ordA t s t.m).m) cp111],.tuple #[.slice a139 ((ordA t s t.m).nH) cp140,.bool (true)],.slice a139 ((ordA t s t.m).nH) cp140,.bool (true),.tuple #[.slice a144 ((shortP (ordA t s t.m)).length) cp145,.int .i64 (shortE (ordA t s t.m))],.agg #[.slice a100 ((ordA t s t.m).nH) cp101,.slice a105 ((ordA t s t.m).nW) cp106,.slice a110 ((ordA t s t.m).m) cp111],.tuple #[.slice a144 ((shortP (ordA t s t.m)).length) cp145,.int .i64 (shortE (ordA t s t.m))],.slice a144 ((shortP (ordA t s t.m)).length) cp145,.int .i64 (shortE (ordA t s t.m)),.tuple #[.slice a149 ((ordB t r t.m).nH) cp150,.bool (true)],.agg #[.slice a115 ((ordB t r t.m).nH) cp116,.slice a120 ((ordB t r t.m).nW) cp121,.slice a125 ((ordB t r t.m).m) cp126],.tuple #[.slice a149 ((ordB t r t.m).nH) cp150,.bool (true)],.slice a149 ((ordB t r t.m).nH) cp150,.bool (true),.bool (true),.bool (!true),.bool (!true),.bool (true),.bool (!true),.bool (!true),.bool (!true),.bool (true),.bool (!true),.bool (!true),.bool (!true),.slice a12 t.nH cp13,.slice a139 ((ordA t s t.m).nH) cp140,.bool (decide ((LK t)=(LK (ordA t s t.m)))),.bool (!(decide ((LK t)=(LK (ordA t s t.m))))),.bool (!(decide ((LK t)=(LK (ordA t s t.m))))),.bool (!(decide ((LK t)=(LK (ordA t s t.m))))),.slice a12 t.nH cp13,.slice a149 ((ordB t r t.m).nH) cp150,.bool (decide ((LK t)=(LK (ordB t r t.m)))),.bool (!(decide ((LK t)=(LK (ordB t r t.m))))),.bool (!(decide ((LK t)=(LK (ordB t r t.m))))),.bool (!(decide ((LK t)=(LK (ordB t r t.m))))),.slice a17 ((shortP t).length) cp18,.slice a144 ((shortP (ordA t s t.m)).length) cp145,.bool (decide ((shortP t)=(shortP (ordA t s t.m)))),.bool (!(decide ((shortP t)=(shortP (ordA t s t.m))))),.bool (!(decide ((shortP t)=(shortP (ordA t s t.m))))),.bool (!(decide ((shortP t)=(shortP (ordA t s t.m))))),.int .i64 (shortE t),.int .i64 (shortE (ordA t s t.m)),.bool (decide (shortE t≠shortE (ordA t s t.m))),.bool (decide (shortE t≠shortE (ordA t s t.m))),.int .i64 (((k4:Nat):Int)),.pointer (some ⟨b1,0,none⟩),.slice a1 t.nH c1,.int .i64 (((t.nH:Nat):Int)),.bool (decide (((k4:Nat):Int)<((t.nH:Nat):Int))),(y153 207),(y153 208),.tuple #[.agg #[.int .i64 (drawV t (((k4:Nat):Int)) (-1)),.int .i64 (drawV t (((k4:Nat):Int)) 1)],.int .i64 0],.agg #[.slice a1 t.nH c1,.slice a2 t.nW c2,.slice a3 t.m c3],.int .i64 (((k4:Nat):Int)),.tuple #[.agg #[.int .i64 (drawV t (((k4:Nat):Int)) (-1)),.int .i64 (drawV t (((k4:Nat):Int)) 1)],.int .i64 0],.agg #[.int .i64 (drawV t (((k4:Nat):Int)) (-1)),.int .i64 (drawV t (((k4:Nat):Int)) 1)],.int .i64 0,(val157 9),(val157 0),(val157 1),(val157 2),(val157 3),(val157 4),(val157 5),(val157 6),(val157 7),(val157 8),(val157 10),(val157 11),(y153 227),(y153 228),(y153 229),(y153 230),(y153 231),(y153 232),(y153 233),(y153 234),(y153 235),(y153 236),(y153 237),undef]) xkv (by kernel_rfl) (Nat.le_of_ble_eq_true rfl) (by kernel_rfl) (by kernel_rfl) (by kernel_rfl) (fun _ _=>⟨fun _ _ h=>h.2,⟨fun _ _ h=>h.2,⟨fun _ _ h=>h.2,⟨fun _ _ h=>h.2,⟨fun _ _ h=>h.2,⟨fun _ _ h=>h.2,⟨fun _ _ h=>h.2,⟨fun _ _ h=>h.2,⟨fun _ _ h=>h.2,⟨fun _ _ h=>h.2,⟨fun _ _ h=>h.2,⟨fun _ _ h=>h.2,trivial⟩⟩⟩⟩⟩⟩⟩⟩⟩⟩⟩⟩) (fun _=>by kernel_rfl) (by kernel_rfl) ?_ ?_) (fun h_ H_=>St.swap (A:=([(b156,.cells #[.int .i64 (drawV t (((k4:Nat):Int)) (-1)),.int .i64 (drawV t (((k4:Nat):Int)) 1)] 30 (0,0)),(b31,.cells #[.slice a115 ((ordB t r t.m).nH) cp116,.slice a120 ((ordB t r t.m).nW) cp121,.slice a125 ((ordB t r t.m).m) cp126] 25 (0,0)),(b23,.cells #[.slice a100 ((ordA t s t.m).nH) cp101,.slice a105 ((ordA t s t.m).nW) cp106,.slice a110 ((ordA t s t.m).m) cp111] 25 (0,0)),(b1,.cells #[.slice a1 t.nH c1,.slice a2 t.nW c2,.slice a3 t.m c3] 25 (0,0))]:Pcs)) (U:=[]) H_)
        ·
         refine xak rfl (xcj ?_) ?_
         ·
          intro val157 pc158 hQ_ hX_
          obtain ⟨q_,hq0_⟩: ∃ q_:Value→Pcs→Prop,q_=(fun v_ x_=>v_= .agg #[.slice a115 ((ordB t r t.m).nH) cp116,.slice a120 ((ordB t r t.m).nW) cp121,.slice a125 ((ordB t r t.m).m) cp126]∧x_=[]):=⟨_,rfl⟩
          refine ⟨(zq1 (zq2 (zq4 (zq8 (zq32 (zq32 (zq32 (zq32 (zq32 (zq32 (zq32 []))))))))))),[],q_,rfl,rfl,(fun _ _ z_=>by subst hq0_;exact z_),?_⟩
          subst hq0_
          exact xcz mn (fun _ h_ H_=>xaw H_ tA25 tS25 rfl (i:=1) rfl (vs:=[.slice a115 ((ordB t r t.m).nH) cp116,.slice a120 ((ordB t r t.m).nW) cp121,.slice a125 ((ordB t r t.m).m) cp126]) rfl rfl) ⟨rfl,rfl⟩
         refine xak rfl (xcj ?_) ?_
         ·
          intro val157 pc158 hQ_ hX_
          obtain ⟨q_,hq0_⟩: ∃ q_:Value→Pcs→Prop,q_=(fun v_ x_=>v_= .int .i64 (((k4:Nat):Int))∧x_=[]):=⟨_,rfl⟩
          refine ⟨(zq1 (zq2 (zq4 (zq8 (zq32 (zq32 (zq32 (zq32 (zq32 (zq32 (zq32 []))))))))))),[],q_,rfl,rfl,(fun _ _ z_=>by subst hq0_;exact z_),?_⟩
          subst hq0_
          exact xcz mn (fun _ h_ H_=>xaq (v:=.int .i64 (((k4:Nat):Int))) rfl) ⟨rfl,rfl⟩
         refine xak rfl (xcj ?_) ?_
         ·
          intro val157 pc158 hQ_ hX_
          obtain ⟨q_,hq0_⟩: ∃ q_:Value→Pcs→Prop,q_=(fun v_ x_=>v_= .int .i64 (r)∧x_=[]):=⟨_,rfl⟩
          refine ⟨(zq1 (zq2 (zq4 (zq8 (zq32 (zq32 (zq32 (zq32 (zq32 (zq32 (zq32 []))))))))))),[],q_,rfl,rfl,(fun _ _ z_=>by subst hq0_;exact z_),?_⟩
          subst hq0_
          exact xcz mn (fun _ h_ H_=>xaq (v:=.int .i64 (r)) rfl) ⟨rfl,rfl⟩
         refine xak rfl (xcj ?_) ?_
         ·
          intro val157 pc158 hQ_ hX_
          have e1_:val157 1= .int .i64 (((k4:Nat):Int)):=(hQ_ 1 rfl).1
          have e2_:val157 2= .int .i64 (r):=(hQ_ 2 rfl).1
          obtain ⟨q_,hq0_⟩: ∃ q_:Value→Pcs→Prop,q_=(fun v_ x_=>v_= .int .i64 (((k4:Nat):Int)+r)∧x_=[]):=⟨_,rfl⟩
          refine ⟨(zq1 (zq2 (zq4 (zq8 (zq32 (zq32 (zq32 (zq32 (zq32 (zq32 (zq32 []))))))))))),[],q_,(by rw [e1_,e2_]),rfl,(fun _ _ z_=>by subst hq0_;exact z_),?_⟩
          subst hq0_
          exact xcz mn (fun _ h_ H_=>xfq rfl rfl (wr (by omega))) ⟨rfl,rfl⟩
         refine xak rfl (xcj ?_) ?_
         ·
          intro val157 pc158 hQ_ hX_
          obtain ⟨q_,hq0_⟩: ∃ q_:Value→Pcs→Prop,q_=(fun v_ x_=>v_= .pointer (some ⟨b1,0,none⟩)∧x_=[]):=⟨_,rfl⟩
          refine ⟨(zq1 (zq2 (zq4 (zq8 (zq32 (zq32 (zq32 (zq32 (zq32 (zq32 (zq32 []))))))))))),[],q_,rfl,rfl,(fun _ _ z_=>by subst hq0_;exact z_),?_⟩
          subst hq0_
          exact xcz mn (fun _ h_ H_=>xaz xlw rfl (a':=⟨b1,0,none⟩) rfl) ⟨rfl,rfl⟩
         refine xak rfl (xcj ?_) ?_
         ·
          intro val157 pc158 hQ_ hX_
          have e4_:val157 4= .pointer (some ⟨b1,0,none⟩):=(hQ_ 4 rfl).1
          obtain ⟨q_,hq0_⟩: ∃ q_:Value→Pcs→Prop,q_=(fun v_ x_=>v_= .slice a1 t.nH c1∧x_=[]):=⟨_,rfl⟩
          refine ⟨(zq1 (zq2 (zq4 (zq8 (zq32 (zq32 (zq32 (zq32 (zq32 (zq32 (zq32 []))))))))))),[],q_,(by rw [e4_]),rfl,(fun _ _ z_=>by subst hq0_;exact z_),?_⟩
          subst hq0_
          exact xcz mn (fun _ h_ H_=>xaj H_ tA22 rfl (i:=3) rfl (v:=.slice a1 t.nH c1) rfl) ⟨rfl,rfl⟩
         refine xak rfl (xcj ?_) ?_
         ·
          intro val157 pc158 hQ_ hX_
          have e5_:val157 5= .slice a1 t.nH c1:=(hQ_ 5 rfl).1
          obtain ⟨q_,hq0_⟩: ∃ q_:Value→Pcs→Prop,q_=(fun v_ x_=>v_= .int .i64 (((t.nH:Nat):Int))∧x_=[]):=⟨_,rfl⟩
          refine ⟨(zq1 (zq2 (zq4 (zq8 (zq32 (zq32 (zq32 (zq32 (zq32 (zq32 (zq32 []))))))))))),[],q_,(by rw [e5_]),rfl,(fun _ _ z_=>by subst hq0_;exact z_),?_⟩
          subst hq0_
          exact xcz mn (fun _ h_ H_=>xfk Tryd.underlying22 rfl) ⟨rfl,rfl⟩
         refine xak rfl (xcj ?_) ?_
         ·
          intro val157 pc158 hQ_ hX_
          have e3_:val157 3= .int .i64 (((k4:Nat):Int)+r):=(hQ_ 3 rfl).1
          have e6_:val157 6= .int .i64 (((t.nH:Nat):Int)):=(hQ_ 6 rfl).1
          obtain ⟨q_,hq0_⟩: ∃ q_:Value→Pcs→Prop,q_=(fun v_ x_=>v_= .int .i64 ((((k4:Nat):Int)+r) % ((t.nH:Nat):Int))∧x_=[]):=⟨_,rfl⟩
          refine ⟨(zq1 (zq2 (zq4 (zq8 (zq32 (zq32 (zq32 (zq32 (zq32 (zq32 (zq32 []))))))))))),[],q_,(by rw [e3_,e6_]),rfl,(fun _ _ z_=>by subst hq0_;exact z_),?_⟩
          subst hq0_
          exact xcz mn (fun _ h_ H_=>yuz rfl rfl (by omega) (n:=(((k4:Nat):Int)+r) % ((t.nH:Nat):Int)) (Int.tmod_eq_emod_of_nonneg (by omega))) ⟨rfl,rfl⟩
         refine xak rfl (xcj ?_) ?_
         ·
          intro val157 pc158 hQ_ hX_
          have e0_:val157 0= .agg #[.slice a115 ((ordB t r t.m).nH) cp116,.slice a120 ((ordB t r t.m).nW) cp121,.slice a125 ((ordB t r t.m).m) cp126]:=(hQ_ 0 rfl).1
          have e7_:val157 7= .int .i64 ((((k4:Nat):Int)+r) % ((t.nH:Nat):Int)):=(hQ_ 7 rfl).1
          obtain ⟨q_,hq0_⟩: ∃ q_:Value→Pcs→Prop,q_=(fun v_ x_=>v_= .tuple #[.agg #[.int .i64 (drawV (ordB t r t.m) ((((k4:Nat):Int)+r) % ((t.nH:Nat):Int)) (-1)),.int .i64 (drawV (ordB t r t.m) ((((k4:Nat):Int)+r) % ((t.nH:Nat):Int)) 1)],.int .i64 0]∧x_=[]):=⟨_,rfl⟩
          refine ⟨(zq1 (zq2 (zq4 (zq8 (zq32 (zq32 (zq32 (zq32 (zq32 (zq32 (zq32 []))))))))))),[],q_,(by rw [e0_,e7_]),rfl,(fun _ _ z_=>by subst hq0_;exact z_),?_⟩
          subst hq0_
          exact xuw mn (first:=[]) (cap:=[]) rfl rfl fC18 (fun _ h_ H_=>(zvz .lone H_.pe (show TownP _ _ _ _ _ _ _ (ordB t r t.m) from ⟨((((((show Ints _ _ _ ((ordB t r t.m).hs) from D118).mono le122).mono le127).mono le141).mono le146).mono le151),(((((show Ints _ _ _ ((ordB t r t.m).ws) from D123).mono le127).mono le141).mono le146).mono le151),((((show Wys _ _ _ ((ordB t r t.m).wy) from D128).mono le141).mono le146).mono le151)⟩) (by omega) (((((((((((N.mono le14).mono le19).mono le102).mono le107).mono le112).mono le117).mono le122).mono le127).mono le141).mono le146).mono le151) oB_.ck (z:=(((k4:Nat):Int)+r) % ((t.nH:Nat):Int)) (by omega)).mono fun v_ h2_ ⟨e_,k_⟩=>⟨[],⟨e_,rfl⟩,H_.call k_⟩)
         refine xak rfl (xcj ?_) ?_
         ·
          intro val157 pc158 hQ_ hX_
          have e8_:val157 8= .tuple #[.agg #[.int .i64 (drawV (ordB t r t.m) ((((k4:Nat):Int)+r) % ((t.nH:Nat):Int)) (-1)),.int .i64 (drawV (ordB t r t.m) ((((k4:Nat):Int)+r) % ((t.nH:Nat):Int)) 1)],.int .i64 0]:=(hQ_ 8 rfl).1
          obtain ⟨q_,hq0_⟩: ∃ q_:Value→Pcs→Prop,q_=(fun v_ x_=>v_= .tuple #[.agg #[.int .i64 (drawV (ordB t r t.m) ((((k4:Nat):Int)+r) % ((t.nH:Nat):Int)) (-1)),.int .i64 (drawV (ordB t r t.m) ((((k4:Nat):Int)+r) % ((t.nH:Nat):Int)) 1)],.int .i64 0]∧x_=[]):=⟨_,rfl⟩
          refine ⟨(zq1 (zq2 (zq4 (zq8 (zq32 (zq32 (zq32 (zq32 (zq32 (zq32 (zq32 []))))))))))),[],q_,(by rw [e8_]),rfl,(fun _ _ z_=>by subst hq0_;exact z_),?_⟩
          subst hq0_
          exact xcz mn (fun _ h_ H_=>xaq (v:=.tuple #[.agg #[.int .i64 (drawV (ordB t r t.m) ((((k4:Nat):Int)+r) % ((t.nH:Nat):Int)) (-1)),.int .i64 (drawV (ordB t r t.m) ((((k4:Nat):Int)+r) % ((t.nH:Nat):Int)) 1)],.int .i64 0]) rfl) ⟨rfl,rfl⟩
         refine xak rfl (xcj ?_) ?_
         ·
          intro val157 pc158 hQ_ hX_
          have e9_:val157 9= .tuple #[.agg #[.int .i64 (drawV (ordB t r t.m) ((((k4:Nat):Int)+r) % ((t.nH:Nat):Int)) (-1)),.int .i64 (drawV (ordB t r t.m) ((((k4:Nat):Int)+r) % ((t.nH:Nat):Int)) 1)],.int .i64 0]:=(hQ_ 9 rfl).1
          obtain ⟨q_,hq0_⟩: ∃ q_:Value→Pcs→Prop,q_=(fun v_ x_=>v_= .agg #[.int .i64 (drawV (ordB t r t.m) ((((k4:Nat):Int)+r) % ((t.nH:Nat):Int)) (-1)),.int .i64 (drawV (ordB t r t.m) ((((k4:Nat):Int)+r) % ((t.nH:Nat):Int)) 1)]∧x_=[]):=⟨_,rfl⟩
          refine ⟨(zq1 (zq2 (zq4 (zq8 (zq32 (zq32 (zq32 (zq32 (zq32 (zq32 (zq32 []))))))))))),[],q_,(by rw [e9_]),rfl,(fun _ _ z_=>by subst hq0_;exact z_),?_⟩
          subst hq0_
          exact xcz mn (fun _ h_ H_=>xdz rfl (v:=.agg #[.int .i64 (drawV (ordB t r t.m) ((((k4:Nat):Int)+r) % ((t.nH:Nat):Int)) (-1)),.int .i64 (drawV (ordB t r t.m) ((((k4:Nat):Int)+r) % ((t.nH:Nat):Int)) 1)]) rfl) ⟨rfl,rfl⟩
         refine xak rfl (xcj ?_) ?_
         ·
          intro val157 pc158 hQ_ hX_
          have e9_:val157 9= .tuple #[.agg #[.int .i64 (drawV (ordB t r t.m) ((((k4:Nat):Int)+r) % ((t.nH:Nat):Int)) (-1)),.int .i64 (drawV (ordB t r t.m) ((((k4:Nat):Int)+r) % ((t.nH:Nat):Int)) 1)],.int .i64 0]:=(hQ_ 9 rfl).1
          obtain ⟨q_,hq0_⟩: ∃ q_:Value→Pcs→Prop,q_=(fun v_ x_=>v_= .int .i64 0∧x_=[]):=⟨_,rfl⟩
          refine ⟨(zq1 (zq2 (zq4 (zq8 (zq32 (zq32 (zq32 (zq32 (zq32 (zq32 (zq32 []))))))))))),[],q_,(by rw [e9_]),rfl,(fun _ _ z_=>by subst hq0_;exact z_),?_⟩
          subst hq0_
          exact xcz mn (fun _ h_ H_=>xdz rfl (v:=.int .i64 0) rfl) ⟨rfl,rfl⟩
         refine xak rfl (xcj ?_) ?_
         ·
          intro val157 pc158 hQ_ hX_
          obtain ⟨q_,hq0_⟩: ∃ q_:Value→Pcs→Prop,q_=(fun v_ x_=>∃ b159:Nat,v_= .pointer (some ⟨b159,0,none⟩)∧x_=(([(b159,.cells #[.int .i64 0,.int .i64 0] 30 (0,0))]:Pcs)++[])):=⟨_,rfl⟩
          refine ⟨(zq1 (zq2 (zq4 (zq8 (zq32 (zq32 (zq32 (zq32 (zq32 (zq32 (zq32 []))))))))))),[],q_,rfl,rfl,(fun _ _ z_=>by subst hq0_;exact z_),?_⟩
          subst hq0_
          exact ycz mn tZ30 rfl fun b_=>⟨b_,rfl,rfl⟩
         refine xak rfl (xcj ?_) ?_
         ·
          intro val157 pc158 hQ_ hX_
          have e0_:val157 0= .agg #[.slice a115 ((ordB t r t.m).nH) cp116,.slice a120 ((ordB t r t.m).nW) cp121,.slice a125 ((ordB t r t.m).m) cp126]:=(hQ_ 0 rfl).1
          have e1_:val157 1= .int .i64 (((k4:Nat):Int)):=(hQ_ 1 rfl).1
          have e2_:val157 2= .int .i64 (r):=(hQ_ 2 rfl).1
          have e3_:val157 3= .int .i64 (((k4:Nat):Int)+r):=(hQ_ 3 rfl).1
          have e4_:val157 4= .pointer (some ⟨b1,0,none⟩):=(hQ_ 4 rfl).1
          have e5_:val157 5= .slice a1 t.nH c1:=(hQ_ 5 rfl).1
          have e6_:val157 6= .int .i64 (((t.nH:Nat):Int)):=(hQ_ 6 rfl).1
          have e7_:val157 7= .int .i64 ((((k4:Nat):Int)+r) % ((t.nH:Nat):Int)):=(hQ_ 7 rfl).1
          have e8_:val157 8= .tuple #[.agg #[.int .i64 (drawV (ordB t r t.m) ((((k4:Nat):Int)+r) % ((t.nH:Nat):Int)) (-1)),.int .i64 (drawV (ordB t r t.m) ((((k4:Nat):Int)+r) % ((t.nH:Nat):Int)) 1)],.int .i64 0]:=(hQ_ 8 rfl).1
          have e9_:val157 9= .tuple #[.agg #[.int .i64 (drawV (ordB t r t.m) ((((k4:Nat):Int)+r) % ((t.nH:Nat):Int)) (-1)),.int .i64 (drawV (ordB t r t.m) ((((k4:Nat):Int)+r) % ((t.nH:Nat):Int)) 1)],.int .i64 0]:=(hQ_ 9 rfl).1
          have e10_:val157 10= .agg #[.int .i64 (drawV (ordB t r t.m) ((((k4:Nat):Int)+r) % ((t.nH:Nat):Int)) (-1)),.int .i64 (drawV (ordB t r t.m) ((((k4:Nat):Int)+r) % ((t.nH:Nat):Int)) 1)]:=(hQ_ 10 rfl).1
          obtain ⟨e12_,x12_⟩:=hG12_ _ _ (hQ_ 12 rfl)
          generalize hg_b159:Gb159 (val157 12) (pc158 12)=b159 at*
          obtain ⟨q_,hq0_⟩: ∃ q_:Value→Pcs→Prop,q_=(fun v_ x_=>v_=undef∧x_=[(b159,.cells #[.int .i64 (drawV (ordB t r t.m) ((((k4:Nat):Int)+r) % ((t.nH:Nat):Int)) (-1)),.int .i64 (drawV (ordB t r t.m) ((((k4:Nat):Int)+r) % ((t.nH:Nat):Int)) 1)] 30 (0,0))]):=⟨_,rfl⟩
          refine ⟨(zq1 (zq2 (zq4 (zq8 (zq32 (zq32 (zq32 (zq32 (zq32 (zq32 (zq32 []))))))))))),((([(b159,.cells #[.int .i64 0,.int .i64 0] 30 (0,0))]:Pcs)++[])++[]),q_,(by rw [e0_,e1_,e2_,e3_,e4_,e5_,e6_,e7_,e8_,e9_,e10_,e12_]),(by rw [← x12_];rfl),(fun _ _ z_=>by subst hq0_ hg_b159;exact z_),?_⟩
          subst hq0_
          exact wij mn tS30 rfl (v:=.agg #[.int .i64 (drawV (ordB t r t.m) ((((k4:Nat):Int)+r) % ((t.nH:Nat):Int)) (-1)),.int .i64 (drawV (ordB t r t.m) ((((k4:Nat):Int)+r) % ((t.nH:Nat):Int)) 1)]) rfl rfl rfl (Nat.le_of_ble_eq_true rfl) (cs2:=[.int .i64 (drawV (ordB t r t.m) ((((k4:Nat):Int)+r) % ((t.nH:Nat):Int)) (-1)),.int .i64 (drawV (ordB t r t.m) ((((k4:Nat):Int)+r) % ((t.nH:Nat):Int)) 1)]) rfl ⟨rfl,rfl⟩
         exact xlx rfl
        intro val157 pc158 hQ_ hX_
        have e0_:val157 0= .agg #[.slice a115 ((ordB t r t.m).nH) cp116,.slice a120 ((ordB t r t.m).nW) cp121,.slice a125 ((ordB t r t.m).m) cp126]:=(hQ_ 0 (by decide)).1
        have e1_:val157 1= .int .i64 (((k4:Nat):Int)):=(hQ_ 1 (by decide)).1
        have e2_:val157 2= .int .i64 (r):=(hQ_ 2 (by decide)).1
        have e3_:val157 3= .int .i64 (((k4:Nat):Int)+r):=(hQ_ 3 (by decide)).1
        have e4_:val157 4= .pointer (some ⟨b1,0,none⟩):=(hQ_ 4 (by decide)).1
        have e5_:val157 5= .slice a1 t.nH c1:=(hQ_ 5 (by decide)).1
        have e6_:val157 6= .int .i64 (((t.nH:Nat):Int)):=(hQ_ 6 (by decide)).1
        have e7_:val157 7= .int .i64 ((((k4:Nat):Int)+r) % ((t.nH:Nat):Int)):=(hQ_ 7 (by decide)).1
        have e8_:val157 8= .tuple #[.agg #[.int .i64 (drawV (ordB t r t.m) ((((k4:Nat):Int)+r) % ((t.nH:Nat):Int)) (-1)),.int .i64 (drawV (ordB t r t.m) ((((k4:Nat):Int)+r) % ((t.nH:Nat):Int)) 1)],.int .i64 0]:=(hQ_ 8 (by decide)).1
        have e9_:val157 9= .tuple #[.agg #[.int .i64 (drawV (ordB t r t.m) ((((k4:Nat):Int)+r) % ((t.nH:Nat):Int)) (-1)),.int .i64 (drawV (ordB t r t.m) ((((k4:Nat):Int)+r) % ((t.nH:Nat):Int)) 1)],.int .i64 0]:=(hQ_ 9 (by decide)).1
        have e10_:val157 10= .agg #[.int .i64 (drawV (ordB t r t.m) ((((k4:Nat):Int)+r) % ((t.nH:Nat):Int)) (-1)),.int .i64 (drawV (ordB t r t.m) ((((k4:Nat):Int)+r) % ((t.nH:Nat):Int)) 1)]:=(hQ_ 10 (by decide)).1
        have e11_:val157 11= .int .i64 0:=(hQ_ 11 (by decide)).1
        obtain ⟨e12_,x12_⟩:=hG12_ _ _ (hQ_ 12 (by decide))
        have x13_:pc158 13=[((Gb159 (val157 12) (pc158 12)),.cells #[.int .i64 (drawV (ordB t r t.m) ((((k4:Nat):Int)+r) % ((t.nH:Nat):Int)) (-1)),.int .i64 (drawV (ordB t r t.m) ((((k4:Nat):Int)+r) % ((t.nH:Nat):Int)) 1)] 30 (0,0))]:=(hQ_ 13 (by decide)).2
        clear hQ_ hX_
        generalize Gb159 (val157 12) (pc158 12)=b159 at*
        refine xwv (Φ:=fun h_=>St h [] p148 h_ (([(b156,.cells #[.int .i64 (drawV t (((k4:Nat):Int)) (-1)),.int .i64 (drawV t (((k4:Nat):Int)) 1)] 30 (0,0)),(b31,.cells #[.slice a115 ((ordB t r t.m).nH) cp116,.slice a120 ((ordB t r t.m).nW) cp121,.slice a125 ((ordB t r t.m).m) cp126] 25 (0,0)),(b23,.cells #[.slice a100 ((ordA t s t.m).nH) cp101,.slice a105 ((ordA t s t.m).nW) cp106,.slice a110 ((ordA t s t.m).m) cp111] 25 (0,0)),(b1,.cells #[.slice a1 t.nH c1,.slice a2 t.nW c2,.slice a3 t.m c3] 25 (0,0))]:Pcs)++(pc158 13++[]))) ?_ (fun h_ H_=>H_.swap')
        rw [x13_]
        refine xgq (tm':=(zq1 (zq2 (zq4 (zq8 (zq32 (zq32 (zq32 (zq32 (zq32 (zq32 (zq32 [])))))))))))) (by rw [e0_,e1_,e2_,e3_,e4_,e5_,e6_,e7_,e8_,e9_,e10_,e11_,e12_]) ?_
        refine xcq (L':=([(b156,.cells #[.int .i64 (drawV t (((k4:Nat):Int)) (-1)),.int .i64 (drawV t (((k4:Nat):Int)) 1)] 30 (0,0)),(b31,.cells #[.slice a115 ((ordB t r t.m).nH) cp116,.slice a120 ((ordB t r t.m).nW) cp121,.slice a125 ((ordB t r t.m).m) cp126] 25 (0,0)),(b23,.cells #[.slice a100 ((ordA t s t.m).nH) cp101,.slice a105 ((ordA t s t.m).nW) cp106,.slice a110 ((ordA t s t.m).m) cp111] 25 (0,0)),(b1,.cells #[.slice a1 t.nH c1,.slice a2 t.nW c2,.slice a3 t.m c3] 25 (0,0))]:Pcs)++(([(b159,.cells #[.int .i64 (drawV (ordB t r t.m) ((((k4:Nat):Int)+r) % ((t.nH:Nat):Int)) (-1)),.int .i64 (drawV (ordB t r t.m) ((((k4:Nat):Int)+r) % ((t.nH:Nat):Int)) 1)] 30 (0,0))]:Pcs)++[])) rfl ?_
        refine xjz (List.perm_append_comm_assoc ([(b156,.cells #[.int .i64 (drawV t (((k4:Nat):Int)) (-1)),.int .i64 (drawV t (((k4:Nat):Int)) 1)] 30 (0,0)),(b31,.cells #[.slice a115 ((ordB t r t.m).nH) cp116,.slice a120 ((ordB t r t.m).nW) cp121,.slice a125 ((ordB t r t.m).m) cp126] 25 (0,0)),(b23,.cells #[.slice a100 ((ordA t s t.m).nH) cp101,.slice a105 ((ordA t s t.m).nW) cp106,.slice a110 ((ordA t s t.m).m) cp111] 25 (0,0)),(b1,.cells #[.slice a1 t.nH c1,.slice a2 t.nW c2,.slice a3 t.m c3] 25 (0,0))]:Pcs) ([(b159,.cells #[.int .i64 (drawV (ordB t r t.m) ((((k4:Nat):Int)+r) % ((t.nH:Nat):Int)) (-1)),.int .i64 (drawV (ordB t r t.m) ((((k4:Nat):Int)+r) % ((t.nH:Nat):Int)) 1)] 30 (0,0))]:Pcs) _) ?_
        refine xcq (L':=[(b159,.cells #[.int .i64 (drawV (ordB t r t.m) ((((k4:Nat):Int)+r) % ((t.nH:Nat):Int)) (-1)),.int .i64 (drawV (ordB t r t.m) ((((k4:Nat):Int)+r) % ((t.nH:Nat):Int)) 1)] 30 (0,0)),(b156,.cells #[.int .i64 (drawV t (((k4:Nat):Int)) (-1)),.int .i64 (drawV t (((k4:Nat):Int)) 1)] 30 (0,0)),(b31,.cells #[.slice a115 ((ordB t r t.m).nH) cp116,.slice a120 ((ordB t r t.m).nW) cp121,.slice a125 ((ordB t r t.m).m) cp126] 25 (0,0)),(b23,.cells #[.slice a100 ((ordA t s t.m).nH) cp101,.slice a105 ((ordA t s t.m).nW) cp106,.slice a110 ((ordA t s t.m).m) cp111] 25 (0,0)),(b1,.cells #[.slice a1 t.nH c1,.slice a2 t.nW c2,.slice a3 t.m c3] 25 (0,0))]) rfl ?_
        refine rt (xax (v:=.int .i64 0) rfl) (tm':=zq4 (zq8 (zq16 _))) rfl <| ren <| xbx <| ro (xaq (v:=.int .i64 0) rfl) <| ro (xkk rfl rfl) <| rt (xaq (v:=.bool (decide ((0:Int)≠0))) rfl) (tm':=zq1 (zq2 (zq4 (zq8 (zq32 (zq32 (zq32 (zq32 (zq32 (zq32 (zq32 []))))))))))) rfl ?_
        refine xbq (ms rfl rfl (decide_eq_false (by decide))) (fun h_ H_=>xaq (v:=.int .i64 0) rfl) rfl ?_
        refine xbq (ms rfl rfl (decide_eq_false (by decide))) (fun h_ H_=>xkk rfl rfl) rfl ?_
        refine rt (xck rfl (decide_eq_false (by decide)) (v:=.bool (decide ((0:Int)≠0))) rfl) (tm':=zq1 (zq2 (zq4 (zq8 (zq32 (zq32 (zq32 (zq32 (zq32 (zq32 (zq32 []))))))))))) rfl ?_
        refine ro (xaq (v:=.bool (decide ((0:Int)≠0))) rfl) ?_
        refine xbq (ms rfl rfl (decide_eq_false (by decide))) (fun h_ H_=>xaw H_ tA30 tS30 rfl (i:=1) rfl (vs:=[.int .i64 (drawV t (((k4:Nat):Int)) (-1)),.int .i64 (drawV t (((k4:Nat):Int)) 1)]) rfl rfl) rfl ?_
        refine xbq (ms rfl rfl (decide_eq_false (by decide))) (fun h_ H_=>xaw H_ tA30 tS30 rfl (i:=0) rfl (vs:=[.int .i64 (drawV (ordB t r t.m) ((((k4:Nat):Int)+r) % ((t.nH:Nat):Int)) (-1)),.int .i64 (drawV (ordB t r t.m) ((((k4:Nat):Int)+r) % ((t.nH:Nat):Int)) 1)]) rfl rfl) (tm':=zq1 (zq2 (zq4 (zq8 (zq32 (zq32 (zq32 (zq32 (zq32 (zq32 (zq32 []))))))))))) rfl ?_
        refine xbq (ms rfl rfl (decide_eq_false (by decide))) (fun h_ H_=>yyv gT30 (wwj 9998 _ _ _ _) rfl rfl) rfl ?_
        refine ro (xck rfl (decide_eq_false (by decide)) (v:=.bool (!decide (drawV t (((k4:Nat):Int)) (-1)=drawV (ordB t r t.m) ((((k4:Nat):Int)+r) % ((t.nH:Nat):Int)) (-1)∧drawV t (((k4:Nat):Int)) 1=drawV (ordB t r t.m) ((((k4:Nat):Int)+r) % ((t.nH:Nat):Int)) 1))) rfl) ?_
        refine xav ?_
        refine xdx rfl (xej (decide_eq_true (vak hr_.1 oB_ (by omega)))) ?_
        refine xdk <| xeq <| xbx <| rt (xaq (v:=.int .i64 (((k4:Nat):Int))) rfl) (tm':=zq1 (zq2 (zq4 (zq8 (zq32 (zq32 (zq32 (zq32 (zq32 (zq32 (zq32 []))))))))))) rfl ?_
        refine ro (xfq rfl rfl (n:=((k4+1:Nat):Int)) (wr (by omega))) ?_
        refine ro (xax (v:=.int .i64 (((k4+1:Nat):Int))) rfl) <| xav ?_
        exact fun h_ H_=>IH154 _ _ (by omega) h_ ⟨k4+1,rfl,(y_of rfl),(by omega),H_.drop.drop⟩
       ·
        refine xdx rfl (dff cc155) <| xiz rfl <| fsr ?_
        refine xdv mn (first:=[]) (cap:=[]) rfl rfl fC16 (fun h_ H_=>c16 .lone _ _ H_.pe (((((((((((N.mono le14).mono le19).mono le102).mono le107).mono le112).mono le117).mono le122).mono le127).mono le141).mono le146).mono le151) (((((((((((Z.mono le14).mono le19).mono le102).mono le107).mono le112).mono le117).mono le122).mono le127).mono le141).mono le146).mono le151)) (tm':=zq1 (zq2 (zq4 (zq8 (zq32 (zq32 (zq32 (zq32 (zq32 (zq32 (zq32 []))))))))))) rfl ?_
        refine ro (xax (v:=.bool (true)) rfl) <| xav ?_
        refine xqv Tryd.func4 rfl (vs:=[.bool (true)]) (fun h_ H_=>⟨.bool (true),_,rfl,rfl,rfl⟩) (v:=.bool (true)) rfl ?_
        exact fun h_ H_=>⟨rfl,H_.kept⟩
 ·
  refine rp (mo rfl rfl (xhw cc2)) <| xfj (mo rfl rfl (xhw cc2)) (tm':=zq2 (zq32 _)) rfl <| rp (mo rfl rfl (xhw cc2)) <| rp (mo rfl rfl (xhw cc2)) <| rt (xdj rfl (xhw cc2) (v:=.bool (true)) rfl) (tm':=zq1 (zq4 (zq32 _))) rfl <| ro (xaq (v:=.bool (true)) rfl) ?_
  refine rp (mo rfl rfl rfl) <| xfj (mo rfl rfl rfl) (tm':=zq8 (zq32 _)) rfl <| rp (mo rfl rfl rfl) <| rp (mo rfl rfl rfl) <| rt (xdj rfl rfl (v:=.bool (true)) rfl) (tm':=zq1 (zq2 (zq8 (zq32 _)))) rfl <| xav ?_
  refine xdw rfl rfl <| fsr ?_
  refine xdv mn (first:=[]) (cap:=[]) rfl rfl fC16 (fun h_ H_=>c16 .lone _ _ H_.pe N Z) rfl ?_
  refine ro (xax (v:=.bool (true)) rfl) <| xav ?_
  refine xqv Tryd.func4 rfl (vs:=[.bool (true)]) (fun h_ H_=>⟨.bool (true),_,rfl,rfl,rfl⟩) (v:=.bool (true)) rfl ?_
  exact fun h_ H_=>⟨rfl,H_.kept⟩
end Go.Proofs.YtalfgojocdonhaaDoor
namespace Go.Proofs.YtalfgojocdonhaaDoor
open Go.X Go.X.Flow Go.Conc Go.RowKit Go.ChangeShapes Go.WideShapes Go.ChangeAt Go.Joins
set_option maxRecDepth 100000

theorem vbk (os:Os) (started:os.Started) (H:Type) (enc:TypeId × Value→H):
    ReturnsInHanded {} Tryd.checked os 4 .any (fun w args=>(Rows.bucketsOrderSpec.pre enc Tryd.prog Tryd.f4 Rows.bucketsOrderRow.domain false w args∧laidMetH Tryd.prog Rows.bucketsOrderRow.laid w)∧sizedMet enc Tryd.prog Tryd.f4 (OpenSpec.ofChange Rows.bucketsOrderSpec) false w args) (Rows.bucketsOrderSpec.post enc Tryd.prog Tryd.f4 false true false false):=by
  refine returnsInHanded_of_change_and (C:=Tryd.checked) (X:=fun w _=>laidMetH Tryd.prog Rows.bucketsOrderRow.laid w) (fun _ _ _ hh h=>h.of_heap hh) pOwn started (by kernel_rfl) Tryd.func4
    (ChangeSpec.witness_shaped (enc:=enc) (C:=Tryd.checked) (os:=os) (X:=fun w _=>laidMetH Tryd.prog Rows.bucketsOrderRow.laid w) false (laidW os) #[.agg #[.slice none 0 0,.slice none 0 0,.slice none 0 0],.int .i64 0,.int .i64 0] 8 (World.laidAll_os _ _ _)
      (World.shaped_of_ZipB (by kernel_rfl) (by kernel_rfl)) (by kernel_rfl) (by kernel_rfl) (by kernel_rfl) (ytj os _)) ?_
  intro W base args ds gs before hval0 hW _ _ hL _
  have hval: ∀ (j:Nat) t v,Tryd.f4.params[j]?=some t→args[j]?=some v→Value.okWide Tryd.prog W .any base t v:=hval0
  have hW2:=hW
  obtain ⟨p,q,hA0,hV,rfl,_,_⟩:=hW2
  have hA:DataW.TrodAll enc Tryd.prog W 0 (fun _=>true) true Tryd.f4.params.toList args.toList ds p:=hA0
  rw [Tryd.params4] at hA hval
  obtain ⟨v0,v1,v2,d0,d1,d2,p0,p1,p2,rfl,rfl,_,h0,h1,h2⟩:=trodAll_three hA
  obtain ⟨rfl,rfl⟩:=trodVars_none hV
  obtain ⟨a1,c1,a2,c2,a3,c3,t,rfl,hl,_,T⟩:=yiz (hval 0 25 v0 rfl rfl) h0
  obtain ⟨k1,rfl,hk1⟩:=zux (hval 1 3 v1 rfl rfl) h1
  obtain ⟨k2,rfl,hk2⟩:=zux (hval 2 3 v2 rfl rfl) h2
  refine (xyq (e4 W.heap (pW W) (whj W) a1 a2 a3 c1 c2 c3 t T hl k1 k2 (ycq hL) (yfq hL))).mono fun e W2 ⟨v,he,⟨hv,hk_⟩,cl⟩=>⟨v,he,?_⟩
  subst hv
  exact zcq vaz rfl (fun t ht=>by rw [Tryd.params4] at ht;revert t;decide +kernel) rfl Tryd.underlying4 hW rfl (zdk hk_ cl)

theorem bucketsOrderRowHolds:Rows.BucketsOrderSaid:=
  OpenClaim.holds_of_wide 4 Tryd.f4 rfl rfl rfl rfl rfl rfl rfl ⟨rfl,rfl,rfl,rfl,rfl⟩ rfl rfl rfl rfl rfl (by kernel_rfl) Tryd.func4 (by kernel_rfl)
    (of_decide_eq_true (by kernel_rfl)) (by unfold Func.isWrapper;first | (rw [if_pos (by decide +kernel)];kernel_rfl) | (rw [if_neg (by decide +kernel)];exact ⟨rfl,rfl⟩))
    (fun os started H enc _=>vbk os started H enc)

theorem bucketsOrderHolds:Rows.BucketsOrderCardSaid:=
  Claim7.holds_tied_plain_at .later [] [.data, .data, .data] true (true, "5334d201df14a8cbe7ef60c793562a47fe331153d035b74b45b1c636860d1486") false bucketsOrderRowHolds (fun _ h => by cases h) (by kernel_rfl) (fun _ h => by cases h) bucketsOrder_row_tie rfl ⟨rfl, rfl⟩ (by kernel_rfl) rfl
    (fun f fn hf hfn=>by
      obtain rfl : f = 4 := Option.some.inj ((show Tryd.prog.funcNamed "steening/steeninglaw03.BucketsOrder" = some 4 by kernel_rfl).symm.trans hf) |>.symm
      obtain rfl:fn= Tryd.f4:=(Option.some.inj (Tryd.func4.symm.trans hfn)).symm
      exact ⟨by kernel_rfl,fun j t ht=>by
        rw [Tryd.params4] at ht
        have hm:t∈[25,3,3]:=by simpa using Array.mem_of_getElem? ht
        have hall:([25,3,3].all fun u=>!Tryd.prog.wantsStandIn u)=true:=by kernel_rfl
        exact (show Tryd.prog.wantsStandIn t=false by simpa using List.all_eq_true.1 hall t hm)⟩)
    (by kernel_rfl)

#print axioms bucketsOrderHolds
end Go.Proofs.YtalfgojocdonhaaDoor
