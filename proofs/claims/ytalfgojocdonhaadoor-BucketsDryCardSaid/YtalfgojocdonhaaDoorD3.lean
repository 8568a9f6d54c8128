/-
  Part of proofs about buckets brought from wells to houses: a lone run, and what it computes. No condition.
-/
import Derived.Test.YtalfgojocdonhaaDoorD2
import Derived.Test.YtalfgojocdonhaaDoorD1
namespace Go.Proofs.YtalfgojocdonhaaDoor
open Go.X Go.X.Flow Go.Conc
set_option maxRecDepth 10000
set_option synthInstance.maxSize 2000

set_option maxHeartbeats 2000000
theorem c88 (md:Md) (h:Heap) (p:PHeap) (hp:Per p h) (a1:Option Addr) (n1 c1:Nat) (a2:Option Addr) (n2 c2:Nat) (a3:Option Addr) (n3 c3:Nat) (t:Tn) (T:TownP p a1 n1 a2 n2 a3 n3 t) (hn:n1≤40∧n2≤40∧n3≤41):CallsX Tryd.prog md 88 #[.agg #[.slice a1 n1 c1,.slice a2 n2 c2,.slice a3 n3 c3]] h fun v h'=>v= .bool (decide (Vd t))∧Keep h h':=by
 refine xcw (Φ:=fun h_=>St h [] p h_ []) Tryd.func88 rfl (tm:=zq4 (zq16 (zq32 (zq32 [])))) rfl ?_ (St.start h _ hp)
 intro c₀ cs Stop K
 have eH:=T.nH
 have eW:=T.nW
 have eM:=T.m
 refine fsr ?_
 refine xiw mn (v:=.agg #[.slice a1 n1 c1,.slice a2 n2 c2,.slice a3 n3 c3]) rfl fun b1=>xcj (L':=[(b1,.cells #[.slice a1 n1 c1,.slice a2 n2 c2,.slice a3 n3 c3] 25 (0,0))]) rfl ?_
 refine ro (xax (v:=.bool (false)) rfl) <| ren <| fsr <| rt (xaz xmz rfl (a':=⟨b1,0,none⟩) rfl) (tm':=zq8 _) rfl <| rd (fun h_ H_=>xaj H_ tA22 rfl (i:=0) rfl (v:=.slice a1 n1 c1) rfl) <| ro (xfk Tryd.underlying22 rfl) ?_
 refine rt (xix rfl rfl) (tm':=zq1 (zq2 (zq8 _))) rfl <| ro (xaq (v:=.bool (decide (6<((n1:Nat):Int)))) rfl) ?_
 by_cases cc2:6<((n1:Nat):Int)
 ·
  refine rp (mo rfl rfl (dtt cc2)) <| xfq (mo rfl rfl (dtt cc2)) (tm':=zq2 (zq4 (zq8 _))) rfl <| rp (mo rfl rfl (dtt cc2)) <| rp (mo rfl rfl (dtt cc2)) <| rt (xbj rfl (dtt cc2) (v:=.bool (true)) rfl) (tm':=zq1 (zq16 _)) rfl <| xak ?_
  refine xdk rfl rfl <| fsr <| ro (xax (v:=.bool (false)) rfl) <| xak ?_
  refine xew Tryd.func88 rfl (vs:=[.bool (false)]) (fun h_ H_=>⟨.bool (false),_,rfl,rfl,rfl⟩) (v:=.bool (false)) rfl ?_
  exact fun h_ H_=>K _ _ ⟨by first | (rw [decide_eq_true (p:=Vd t) ⟨by omega,by omega,fun i hi=>h1 i (by omega),fun i hi=>h2 i (by omega),fun i hi=>h3 i (by omega)⟩]) | (rw [decide_eq_false (p:=Vd t) (fun z=>by have z1:=z.nh;have z2:=z.nw;first | omega | (have z3:=z.h k (by omega);omega) | (have z3:=z.w l (by omega);omega) | (rcases z.y r (by omega) with ⟨z3,z4,z5⟩;first | omega | exact absurd (z5 (by omega)) ‹_›))]),H_.kept⟩
 ·
  refine xaw (ms rfl rfl (dff cc2)) (fun h_ H_=>xaz xnj rfl (a':=⟨b1,1,none⟩) rfl) rfl ?_
  refine xaw (ms rfl rfl (dff cc2)) (fun h_ H_=>xaj H_ tA22 rfl (i:=0) rfl (v:=.slice a2 n2 c2) rfl) (tm':=zq2 (zq4 (zq8 _))) rfl ?_
  refine xaw (ms rfl rfl (dff cc2)) (fun h_ H_=>xfk Tryd.underlying22 rfl) rfl ?_
  refine xaw (ms rfl rfl (dff cc2)) (fun h_ H_=>xix rfl rfl) rfl ?_
  refine rt (xcq rfl (dff cc2) (v:=.bool (decide (5<((n2:Nat):Int)))) rfl) (tm':=zq1 (zq16 _)) rfl <| xak ?_
  by_cases cc3:5<((n2:Nat):Int)
  ·
   refine xdk rfl (dtt cc3) <| fsr <| ro (xax (v:=.bool (false)) rfl) <| xak ?_
   refine xew Tryd.func88 rfl (vs:=[.bool (false)]) (fun h_ H_=>⟨.bool (false),_,rfl,rfl,rfl⟩) (v:=.bool (false)) rfl ?_
   exact fun h_ H_=>K _ _ ⟨by first | (rw [decide_eq_true (p:=Vd t) ⟨by omega,by omega,fun i hi=>h1 i (by omega),fun i hi=>h2 i (by omega),fun i hi=>h3 i (by omega)⟩]) | (rw [decide_eq_false (p:=Vd t) (fun z=>by have z1:=z.nh;have z2:=z.nw;first | omega | (have z3:=z.h k (by omega);omega) | (have z3:=z.w l (by omega);omega) | (rcases z.y r (by omega) with ⟨z3,z4,z5⟩;first | omega | exact absurd (z5 (by omega)) ‹_›))]),H_.kept⟩
  ·
   refine xcv rfl (dff cc3) <| xdq <| xej <| fsr <| ro (xax (v:=.int .i64 0) rfl) <| xak ?_
   refine xek ?_
   refine xiv (m₀:=n1-0) (fun m_ tm_ h_=>∃ (k:Nat),m_=n1-k∧(∃ y4:Nat→Value,tm_=(.agg #[.slice a1 n1 c1,.slice a2 n2 c2,.slice a3 n3 c3]::.pointer (some ⟨b1,0,none⟩)::(y4 2)::.int .i64 (((k:Nat):Int))::undef::undef::undef::.pointer (some ⟨b1,0,none⟩)::.slice a1 n1 c1::.int .i64 (((n1:Nat):Int))::.bool (decide (6<((n1:Nat):Int)))::.bool (decide (6<((n1:Nat):Int)))::.pointer (some ⟨b1,1,none⟩)::.slice a2 n2 c2::.int .i64 (((n2:Nat):Int))::.bool (decide (5<((n2:Nat):Int)))::.bool (decide (5<((n2:Nat):Int)))::(y4 17)::(y4 18)::(y4 19)::(y4 20)::(y4 21)::(y4 22)::(y4 23)::(y4 24)::(y4 25)::(y4 26)::(y4 27)::(y4 28)::(y4 29)::(y4 30)::undef::zu4 (zu16 (zu16 (zu16 [])))))∧(k≤n1)∧(∀ i,i<k→0≤t.hs.getD i 0∧t.hs.getD i 0≤9)∧St h [] p h_ ([(b1,.cells #[.slice a1 n1 c1,.slice a2 n2 c2,.slice a3 n3 c3] 25 (0,0))])) (fun h_ H_=>⟨0,rfl,(y_of rfl),Nat.zero_le _,(fun i hi=>absurd hi (Nat.not_lt_zero i)),H_⟩) ?_
   intro m_ tm_ IH5
   refine xij fun k=>xdz fun hm_=>xdz fun ht_=>xdz fun hkk=>xdz fun h1=>?_
   subst hm_;obtain ⟨y4,ht_⟩:=ht_;subst ht_
   refine xej <| fsr <| rt (xaq (v:=.int .i64 (((k:Nat):Int))) rfl) (tm':=zq2 (zq16 _)) rfl <| ro (xaz xmz rfl (a':=⟨b1,0,none⟩) rfl) <| rd (fun h_ H_=>xaj H_ tA22 rfl (i:=0) rfl (v:=.slice a1 n1 c1) rfl) <| rt (xfk Tryd.underlying22 rfl) (tm':=zq1 (zq4 (zq16 _))) rfl ?_
   refine ro (xgw rfl rfl) <| xak ?_
   by_cases cc6:((k:Nat):Int)<((n1:Nat):Int)
   ·
    refine xdk rfl (dtt cc6) <| xdq <| xej <| xek <| fsr <| ro (xaz xmz rfl (a':=⟨b1,0,none⟩) rfl) ?_
    refine xaw mn (fun h_ H_=>xaj H_ tA22 rfl (i:=0) rfl (v:=.slice a1 n1 c1) rfl) (tm':=zq2 (zq8 (zq16 _))) rfl ?_
    refine ro (xaq (v:=.int .i64 (((k:Nat):Int))) rfl) ?_
    refine ro (xcz (i:=k) Tryd.underlying22 tS3 (xkq a1 n1 c1 (T.h.ne (by omega))) rfl (by omega)) ?_
    refine xaw mn (fun h_ H_=>xbv H_ tA3 rfl (v:=.int .i64 (t.hs.getD k 0)) (T.h.get (by omega))) (tm':=zq1 (zq4 (zq8 (zq16 _)))) rfl ?_
    refine xcx mn (first:=[]) (cap:=[]) rfl rfl fC79 (fun h_ H_=>c79 md _ (t.hs.getD k 0) (0) (9)) rfl ?_
    refine ro (xgz rfl) <| xak ?_
    by_cases cc7:0≤t.hs.getD k 0∧t.hs.getD k 0≤9
    ·
     refine xcv rfl (xev (dtt cc7)) <| xdq <| xeq <| xbq <| rt (xaq (v:=.int .i64 (((k:Nat):Int))) rfl) (tm':=zq1 (zq2 (zq4 (zq16 _)))) rfl ?_
     refine ro (xfx rfl rfl (n:=((k+1:Nat):Int)) (wr (by omega))) ?_
     refine ro (xax (v:=.int .i64 (((k+1:Nat):Int))) rfl) <| xak ?_
     exact fun h_ H_=>IH5 _ _ (by omega) h_ ⟨k+1,rfl,(y_of rfl),(by omega),(xqw h1 (by omega)),H_⟩
    ·
     refine xdk rfl (xgv (dff cc7)) <| fsr <| rt (xax (v:=.bool (false)) rfl) (tm':=_::_::_::_) rfl <| xak ?_
     refine xew Tryd.func88 rfl (vs:=[.bool (false)]) (fun h_ H_=>⟨.bool (false),_,rfl,rfl,rfl⟩) (v:=.bool (false)) rfl ?_
     exact fun h_ H_=>K _ _ ⟨by first | (rw [decide_eq_true (p:=Vd t) ⟨by omega,by omega,fun i hi=>h1 i (by omega),fun i hi=>h2 i (by omega),fun i hi=>h3 i (by omega)⟩]) | (rw [decide_eq_false (p:=Vd t) (fun z=>by have z1:=z.nh;have z2:=z.nw;first | omega | (have z3:=z.h k (by omega);omega) | (have z3:=z.w l (by omega);omega) | (rcases z.y r (by omega) with ⟨z3,z4,z5⟩;first | omega | exact absurd (z5 (by omega)) ‹_›))]),H_.kept⟩
   ·
    refine xcv rfl (dff cc6) <| xiq rfl <| xej <| fsr <| ro (xax (v:=.int .i64 0) rfl) <| xak ?_
    refine xek ?_
    refine xiv (m₀:=n2-0) (fun m_ tm_ h_=>∃ (l:Nat),m_=n2-l∧(∃ y8:Nat→Value,tm_=(.agg #[.slice a1 n1 c1,.slice a2 n2 c2,.slice a3 n3 c3]::.pointer (some ⟨b1,0,none⟩)::(y8 2)::.int .i64 (((k:Nat):Int))::.int .i64 (((l:Nat):Int))::undef::undef::.pointer (some ⟨b1,0,none⟩)::.slice a1 n1 c1::.int .i64 (((n1:Nat):Int))::.bool (decide (6<((n1:Nat):Int)))::.bool (decide (6<((n1:Nat):Int)))::.pointer (some ⟨b1,1,none⟩)::.slice a2 n2 c2::.int .i64 (((n2:Nat):Int))::.bool (decide (5<((n2:Nat):Int)))::.bool (decide (5<((n2:Nat):Int)))::.int .i64 (((k:Nat):Int))::.pointer (some ⟨b1,0,none⟩)::.slice a1 n1 c1::.int .i64 (((n1:Nat):Int))::.bool (decide (((k:Nat):Int)<((n1:Nat):Int)))::(y4 22)::(y4 23)::(y4 24)::(y4 25)::(y4 26)::(y4 27)::(y4 28)::(y4 29)::(y4 30)::(y8 31)::(y8 32)::(y8 33)::(y8 34)::(y8 35)::(y8 36)::(y8 37)::(y8 38)::(y8 39)::(y8 40)::(y8 41)::(y8 42)::(y8 43)::(y8 44)::undef::undef::undef::zu4 (zu16 (zu16 []))))∧(l≤n2)∧(∀ i,i<l→0≤t.ws.getD i 0∧t.ws.getD i 0≤20)∧St h [] p h_ ([(b1,.cells #[.slice a1 n1 c1,.slice a2 n2 c2,.slice a3 n3 c3] 25 (0,0))])) (fun h_ H_=>⟨0,rfl,(y_of rfl),Nat.zero_le _,(fun i hi=>absurd hi (Nat.not_lt_zero i)),H_⟩) ?_
    intro m_ tm_ IH9
    refine xij fun l=>xdz fun hm_=>xdz fun ht_=>xdz fun hkl=>xdz fun h2=>?_
    subst hm_;obtain ⟨y8,ht_⟩:=ht_;subst ht_
    refine xej <| fsr <| ro (xaq (v:=.int .i64 (((l:Nat):Int))) rfl) <| rt (xaz xnj rfl (a':=⟨b1,1,none⟩) rfl) (tm':=zq1 (zq32 _)) rfl <| rd (fun h_ H_=>xaj H_ tA22 rfl (i:=0) rfl (v:=.slice a2 n2 c2) rfl) <| ro (xfk Tryd.underlying22 rfl) ?_
    refine rt (xgw rfl rfl) (tm':=zq4 (zq32 _)) rfl <| xak ?_
    by_cases cc10:((l:Nat):Int)<((n2:Nat):Int)
    ·
     refine xdk rfl (dtt cc10) <| xdq <| xej <| xek <| fsr <| ro (xaz xnj rfl (a':=⟨b1,1,none⟩) rfl) ?_
     refine rd (fun h_ H_=>xaj H_ tA22 rfl (i:=0) rfl (v:=.slice a2 n2 c2) rfl) <| rt (xaq (v:=.int .i64 (((l:Nat):Int))) rfl) (tm':=zq1 (zq8 (zq32 _))) rfl ?_
     refine ro (xcz (i:=l) Tryd.underlying22 tS3 (xkq a2 n2 c2 (T.w.ne (by omega))) rfl (by omega)) ?_
     refine rd (fun h_ H_=>xbv H_ tA3 rfl (v:=.int .i64 (t.ws.getD l 0)) (T.w.get (by omega))) ?_
     refine xcx mn (first:=[]) (cap:=[]) rfl rfl fC79 (fun h_ H_=>c79 md _ (t.ws.getD l 0) (0) (20)) (tm':=zq4 (zq8 (zq32 _))) rfl ?_
     refine ro (xgz rfl) <| xak ?_
     by_cases cc11:0≤t.ws.getD l 0∧t.ws.getD l 0≤20
     ·
      refine xcv rfl (xev (dtt cc11)) <| xdq <| xeq <| xbq <| ro (xaq (v:=.int .i64 (((l:Nat):Int))) rfl) ?_
      refine rt (xfx rfl rfl (n:=((l+1:Nat):Int)) (wr (by omega))) (tm':=zq2 (zq4 (zq32 _))) rfl ?_
      refine ro (xax (v:=.int .i64 (((l+1:Nat):Int))) rfl) <| xak ?_
      exact fun h_ H_=>IH9 _ _ (by omega) h_ ⟨l+1,rfl,(y_of rfl),(by omega),(xqw h2 (by omega)),H_⟩
     ·
      refine xdk rfl (xgv (dff cc11)) <| fsr <| ro (xax (v:=.bool (false)) rfl) <| xak ?_
      refine xew Tryd.func88 rfl (vs:=[.bool (false)]) (fun h_ H_=>⟨.bool (false),_,rfl,rfl,rfl⟩) (v:=.bool (false)) rfl ?_
      exact fun h_ H_=>K _ _ ⟨by first | (rw [decide_eq_true (p:=Vd t) ⟨by omega,by omega,fun i hi=>h1 i (by omega),fun i hi=>h2 i (by omega),fun i hi=>h3 i (by omega)⟩]) | (rw [decide_eq_false (p:=Vd t) (fun z=>by have z1:=z.nh;have z2:=z.nw;first | omega | (have z3:=z.h k (by omega);omega) | (have z3:=z.w l (by omega);omega) | (rcases z.y r (by omega) with ⟨z3,z4,z5⟩;first | omega | exact absurd (z5 (by omega)) ‹_›))]),H_.kept⟩
    ·
     refine xcv rfl (dff cc10) <| xiq rfl <| xej <| fsr <| rt (xax (v:=.int .i64 0) rfl) (tm':=zq2 (zq4 _)) rfl <| xak ?_
     refine xek ?_
     refine xiv (m₀:=n3-0) (fun m_ tm_ h_=>∃ (r:Nat),m_=n3-r∧(∃ y12:Nat→Value,tm_=[.agg #[.slice a1 n1 c1,.slice a2 n2 c2,.slice a3 n3 c3],.pointer (some ⟨b1,0,none⟩),(y12 2),.int .i64 (((k:Nat):Int)),.int .i64 (((l:Nat):Int)),.int .i64 (((r:Nat):Int)),(y12 6),.pointer (some ⟨b1,0,none⟩),.slice a1 n1 c1,.int .i64 (((n1:Nat):Int)),.bool (decide (6<((n1:Nat):Int))),.bool (decide (6<((n1:Nat):Int))),.pointer (some ⟨b1,1,none⟩),.slice a2 n2 c2,.int .i64 (((n2:Nat):Int)),.bool (decide (5<((n2:Nat):Int))),.bool (decide (5<((n2:Nat):Int))),.int .i64 (((k:Nat):Int)),.pointer (some ⟨b1,0,none⟩),.slice a1 n1 c1,.int .i64 (((n1:Nat):Int)),.bool (decide (((k:Nat):Int)<((n1:Nat):Int))),(y4 22),(y4 23),(y4 24),(y4 25),(y4 26),(y4 27),(y4 28),(y4 29),(y4 30),.int .i64 (((l:Nat):Int)),.pointer (some ⟨b1,1,none⟩),.slice a2 n2 c2,.int .i64 (((n2:Nat):Int)),.bool (decide (((l:Nat):Int)<((n2:Nat):Int))),(y8 36),(y8 37),(y8 38),(y8 39),(y8 40),(y8 41),(y8 42),(y8 43),(y8 44),(y12 45),(y12 46),(y12 47),(y12 48),(y12 49),(y12 50),(y12 51),(y12 52),(y12 53),(y12 54),(y12 55),(y12 56),(y12 57),(y12 58),(y12 59),(y12 60),(y12 61),(y12 62),(y12 63),(y12 64),(y12 65),(y12 66),(y12 67),(y12 68),(y12 69),(y12 70),(y12 71),(y12 72),(y12 73),(y12 74),(y12 75),(y12 76),(y12 77),(y12 78),(y12 79),(y12 80),(y12 81),(y12 82),(y12 83)])∧(r≤n3)∧(∀ i,i<r→YOk t i)∧St h [] p h_ ([(b1,.cells #[.slice a1 n1 c1,.slice a2 n2 c2,.slice a3 n3 c3] 25 (0,0))])) (fun h_ H_=>⟨0,rfl,(y_of rfl),Nat.zero_le _,(fun i hi=>absurd hi (Nat.not_lt_zero i)),H_⟩) ?_
     intro m_ tm_ IH13
     refine xij fun r=>xdz fun hm_=>xdz fun ht_=>xdz fun hkr=>xdz fun h3=>?_
     subst hm_;obtain ⟨y12,ht_⟩:=ht_;subst ht_
     refine xej <| fsr <| ro (xaq (v:=.int .i64 (((r:Nat):Int))) rfl) <| ro (xaz xhv rfl (a':=⟨b1,2,none⟩) rfl) ?_
     refine xaw mn (fun h_ H_=>xaj H_ tA23 rfl (i:=0) rfl (v:=.slice a3 n3 c3) rfl) (tm':=zq16 (zq32 _)) rfl ?_
     refine ro (xfk Tryd.underlying23 rfl) <| ro (xgw rfl rfl) <| xak ?_
     by_cases cc14:((r:Nat):Int)<((n3:Nat):Int)
     ·
      refine xdk rfl (dtt cc14) <| xdq <| xej <| xek <| fsr <| rt (xaz xhv rfl (a':=⟨b1,2,none⟩) rfl) (tm':=zq1 (zq4 (zq16 (zq32 _)))) rfl ?_
      refine rd (fun h_ H_=>xaj H_ tA23 rfl (i:=0) rfl (v:=.slice a3 n3 c3) rfl) <| ro (xaq (v:=.int .i64 (((r:Nat):Int))) rfl) ?_
      refine rt (xcz (i:=r) Tryd.underlying23 tS43 (xkq a3 n3 c3 (T.y.ne (by omega))) rfl (by omega)) (tm':=zq8 (zq16 (zq32 _))) rfl ?_
      refine rd (fun h_ H_=>xhx H_ tA43 tS43 rfl (vs:=[.int .i64 ((t.wy.getD r wz).1),.int .i64 ((t.wy.getD r wz).2)]) rfl (T.y.all (by omega))) ?_
      refine xkz mn tZ43 rfl fun b15=>xcj (L':=[(b15,.cells #[.int .i64 0,.int .i64 0] 43 (0,0)),(b1,.cells #[.slice a1 n1 c1,.slice a2 n2 c2,.slice a3 n3 c3] 25 (0,0))]) rfl ?_
      refine xjk mn tS43 rfl (v:=.agg #[.int .i64 ((t.wy.getD r wz).1),.int .i64 ((t.wy.getD r wz).2)]) rfl (i:=0) rfl rfl rfl (Nat.le_of_ble_eq_true rfl) (cs2:=[.int .i64 ((t.wy.getD r wz).1),.int .i64 ((t.wy.getD r wz).2)]) rfl (xcj (L':=[(b15,.cells #[.int .i64 ((t.wy.getD r wz).1),.int .i64 ((t.wy.getD r wz).2)] 43 (0,0)),(b1,.cells #[.slice a1 n1 c1,.slice a2 n2 c2,.slice a3 n3 c3] 25 (0,0))]) rfl ?_)
      refine ren ?_
      by_cases cc16:0≤(t.wy.getD r wz).1∧(t.wy.getD r wz).1≤(t.nH:Int)-1
      ·
       by_cases cc17:0≤(t.wy.getD r wz).2∧(t.wy.getD r wz).2≤(t.nW:Int)-1
       ·
        by_cases cc18:0<((r:Nat):Int)
        ·
         refine xfw 23 [[],[],[1],[0,1,2],[0,1,2],[0,1,2,3,4],[],[0,1,2,3,4],[0,1,2,3,4,7],[0,1,2,3,4,6,7,8],[0,1,2,3,4,6,7,8],[0,1,2,3,4,5,6,7,8,10],[0,1,2,3,4,5,6,7,8,9,10,11],[0,1,2,3,4,5,6,7,8,9,10,11],[0,1,2,3,4,5,6,7,8,9,10,11,13],[0,1,2,3,4,5,6,7,8,9,10,11,12,13,14],[],[16],[],[18],[16,17,18,19],[16,17,18,19,20],[0,1,2,3,4,5,6,7,8,9,10,11,12,13,14],[0,1,2,3,4,5,6,7,8,9,10,11,12,13,14,16,17,18,19,20,21,22],[0,1,2,3,4,5,6,7,8,9,10,11,13,14,16,17,18,19,20,21,22,23],[0,1,2,3,4,5,6,7,8,9,10,11,13,14,15,16,17,18,19,20,21,22,23,24],[]] xlq (by kernel_rfl) (Nat.le_of_ble_eq_true rfl) ?_
         refine wd (fun h_ H_=>xav H_ tA25 tS25 rfl (i:=1) rfl (vs:=[.slice a1 n1 c1,.slice a2 n2 c2,.slice a3 n3 c3]) rfl rfl) <| wt (xaz xoj rfl (a':=⟨b15,0,none⟩) rfl) (tm':=zq4 (zq16 (zq32 (zq32 [])))) rfl <| wd (fun h_ H_=>xaj H_ tA3 rfl (i:=0) rfl (v:=.int .i64 ((t.wy.getD r wz).1)) rfl) ?_
         refine xik mn (first:=[]) (cap:=[]) rfl rfl fC33 (fun h_ H_=>(c33 md _ _ H_.pe _ _ _ _ _ _ _ _ _ t (show TownP _ _ _ _ _ _ _ t from ⟨T.h,T.w,T.y⟩) (by omega) ((t.wy.getD r wz).1)).mono fun v_ h2_ ⟨e_,k_⟩=>⟨e_,H_.call k_⟩) (tm':=zq4 (zq16 (zq32 (zq32 [])))) rfl ?_
         refine wo (xgz rfl) <| wt (xaq (v:=.bool (!(decide (0≤(t.wy.getD r wz).1∧(t.wy.getD r wz).1≤(t.nH:Int)-1)))) rfl) (tm':=zq4 (zq16 (zq32 (zq32 [])))) rfl ?_
         refine xbz (ms rfl rfl (xev (dtt cc16))) (fun h_ H_=>xav H_ tA25 tS25 rfl (i:=1) rfl (vs:=[.slice a1 n1 c1,.slice a2 n2 c2,.slice a3 n3 c3]) rfl rfl) rfl ?_
         refine xbz (ms rfl rfl (xev (dtt cc16))) (fun h_ H_=>xaz xpk rfl (a':=⟨b15,1,none⟩) rfl) (tm':=zq4 (zq16 (zq32 (zq32 [])))) rfl ?_
         refine xbz (ms rfl rfl (xev (dtt cc16))) (fun h_ H_=>xaj H_ tA3 rfl (i:=0) rfl (v:=.int .i64 ((t.wy.getD r wz).2)) rfl) rfl ?_
         refine xik (ms rfl rfl (xev (dtt cc16))) (first:=[]) (cap:=[]) rfl rfl fC57 (fun h_ H_=>(c57 md _ _ H_.pe _ _ _ _ _ _ _ _ _ t (show TownP _ _ _ _ _ _ _ t from ⟨T.h,T.w,T.y⟩) (by omega) ((t.wy.getD r wz).2)).mono fun v_ h2_ ⟨e_,k_⟩=>⟨e_,H_.call k_⟩) (tm':=zq4 (zq16 (zq32 (zq32 [])))) rfl ?_
         refine xbz (ms rfl rfl (xev (dtt cc16))) (fun h_ H_=>xgz rfl) rfl ?_
         refine wt (xcq rfl (xev (dtt cc16)) (v:=.bool (!(decide (0≤(t.wy.getD r wz).2∧(t.wy.getD r wz).2≤(t.nW:Int)-1)))) rfl) (tm':=zq4 (zq16 (zq32 (zq32 [])))) rfl <| wo (xaq (v:=.bool (!(decide (0≤(t.wy.getD r wz).2∧(t.wy.getD r wz).2≤(t.nW:Int)-1)))) rfl) ?_
         refine xbz (ms rfl rfl (xev (dtt cc17))) (fun h_ H_=>xaq (v:=.int .i64 (((r:Nat):Int))) rfl) (tm':=zq4 (zq16 (zq32 (zq32 [])))) rfl ?_
         refine xbz (ms rfl rfl (xev (dtt cc17))) (fun h_ H_=>xix rfl rfl) rfl ?_
         refine xbz (ms rfl rfl (xev (dtt cc17))) (fun h_ H_=>xaq (v:=.bool (decide (0<((r:Nat):Int)))) rfl) (tm':=zq4 (zq16 (zq32 (zq32 [])))) rfl ?_
         refine xbz (ms rfl rfl (dtt cc18)) (fun h_ H_=>xaz xhv rfl (a':=⟨b1,2,none⟩) rfl) rfl ?_
         refine xbz (ms rfl rfl (dtt cc18)) (fun h_ H_=>xaj H_ tA23 rfl (i:=1) rfl (v:=.slice a3 n3 c3) rfl) (tm':=zq4 (zq16 (zq32 (zq32 [])))) rfl ?_
         refine xbz (ms rfl rfl (dtt cc18)) (fun h_ H_=>xaq (v:=.int .i64 (((r:Nat):Int))) rfl) rfl ?_
         refine xbz (ms rfl rfl (dtt cc18)) (fun h_ H_=>xkw rfl rfl (wr (by omega))) (tm':=zq4 (zq16 (zq32 (zq32 [])))) rfl ?_
         refine xbz (ms rfl rfl (dtt cc18)) (fun h_ H_=>xlx Tryd.underlying23 tS43 (xkq a3 n3 c3 (T.y.ne (by omega))) rfl (by omega) (by omega) (a':=(adr a3).add ((((((r:Nat):Int)-1)).toNat)*2)) rfl) rfl ?_
         refine xbz (ms rfl rfl (dtt cc18)) (fun h_ H_=>xhx H_ tA43 tS43 rfl (vs:=[.int .i64 ((t.wy.getD (((((r:Nat):Int)-1)).toNat) wz).1),.int .i64 ((t.wy.getD (((((r:Nat):Int)-1)).toNat) wz).2)]) rfl (T.y.all (by omega))) (tm':=zq4 (zq16 (zq32 (zq32 [])))) rfl ?_
         refine xbz (ms rfl rfl (dtt cc18)) (fun h_ H_=>xav H_ tA43 tS43 rfl (i:=0) rfl (vs:=[.int .i64 ((t.wy.getD r wz).1),.int .i64 ((t.wy.getD r wz).2)]) rfl rfl) rfl ?_
         refine xiz rfl ?_
         refine xcx (ms rfl rfl (dtt cc18)) (first:=[]) (cap:=[]) rfl rfl fC77 (fun h_ H_=>c77 md _ ((t.wy.getD (((((r:Nat):Int)-1)).toNat) wz).1) ((t.wy.getD (((((r:Nat):Int)-1)).toNat) wz).2) ((t.wy.getD r wz).1) ((t.wy.getD r wz).2)) rfl ?_
         refine xaw (ms rfl rfl (dtt cc18)) (fun h_ H_=>xgz rfl) rfl ?_
         refine xaw (ms rfl rfl (xev (dtt cc17))) (fun h_ H_=>xbj rfl (dtt cc18) (v:=.bool (!(decide (Bf (((t.wy.getD (((((r:Nat):Int)-1)).toNat) wz).1,(t.wy.getD (((((r:Nat):Int)-1)).toNat) wz).2):FWay) (((t.wy.getD r wz).1,(t.wy.getD r wz).2):FWay))))) rfl) (tm':=zq4 (zq16 (zq32 (zq32 [])))) rfl ?_
         refine ro (xcq rfl (xev (dtt cc17)) (v:=.bool (!(decide (Bf (((t.wy.getD (((((r:Nat):Int)-1)).toNat) wz).1,(t.wy.getD (((((r:Nat):Int)-1)).toNat) wz).2):FWay) (((t.wy.getD r wz).1,(t.wy.getD r wz).2):FWay))))) rfl) <| xak ?_
         by_cases cc19:Bf (((t.wy.getD (((((r:Nat):Int)-1)).toNat) wz).1,(t.wy.getD (((((r:Nat):Int)-1)).toNat) wz).2):FWay) (((t.wy.getD r wz).1,(t.wy.getD r wz).2):FWay)
         ·
          refine xcv rfl (xev (dtt cc19)) <| xdq <| xeq <| xbq <| ro (xaq (v:=.int .i64 (((r:Nat):Int))) rfl) ?_
          refine rt (xfx rfl rfl (n:=((r+1:Nat):Int)) (wr (by omega))) (tm':=zq4 (zq16 (zq32 _))) rfl ?_
          refine ro (xax (v:=.int .i64 (((r+1:Nat):Int))) rfl) <| xak ?_
          exact fun h_ H_=>IH13 _ _ (by omega) h_ ⟨r+1,rfl,(y_of rfl),(by omega),(xqw h3 ⟨by omega,by omega,fun _=>by first | assumption | omega⟩),H_.drop⟩
         ·
          refine xdk rfl (xgv (dff cc19)) <| fsr <| ro (xax (v:=.bool (false)) rfl) <| xak ?_
          refine xew Tryd.func88 rfl (vs:=[.bool (false)]) (fun h_ H_=>⟨.bool (false),_,rfl,rfl,rfl⟩) (v:=.bool (false)) rfl ?_
          exact fun h_ H_=>K _ _ ⟨by first | (rw [decide_eq_true (p:=Vd t) ⟨by omega,by omega,fun i hi=>h1 i (by omega),fun i hi=>h2 i (by omega),fun i hi=>h3 i (by omega)⟩]) | (rw [decide_eq_false (p:=Vd t) (fun z=>by have z1:=z.nh;have z2:=z.nw;first | omega | (have z3:=z.h k (by omega);omega) | (have z3:=z.w l (by omega);omega) | (rcases z.y r (by omega) with ⟨z3,z4,z5⟩;first | omega | exact absurd (z5 (by omega)) ‹_›))]),H_.kept⟩
        ·
         refine xfw 23 [[],[],[1],[0,1,2],[0,1,2],[0,1,2,3,4],[],[0,1,2,3,4],[0,1,2,3,4,7],[0,1,2,3,4,6,7,8],[0,1,2,3,4,6,7,8],[0,1,2,3,4,5,6,7,8,10],[0,1,2,3,4,5,6,7,8,9,10,11],[0,1,2,3,4,5,6,7,8,9,10,11],[0,1,2,3,4,5,6,7,8,9,10,11,13],[0,1,2,3,4,5,6,7,8,9,10,11,12,13,14],[],[16],[],[18],[16,17,18,19],[16,17,18,19,20],[0,1,2,3,4,5,6,7,8,9,10,11,12,13,14],[0,1,2,3,4,5,6,7,8,9,10,11,12,13,14,16,17,18,19,20,21,22],[0,1,2,3,4,5,6,7,8,9,10,11,13,14,16,17,18,19,20,21,22,23],[0,1,2,3,4,5,6,7,8,9,10,11,13,14,15,16,17,18,19,20,21,22,23,24],[]] xlq (by kernel_rfl) (Nat.le_of_ble_eq_true rfl) ?_
         refine xbz mn (fun h_ H_=>xav H_ tA25 tS25 rfl (i:=1) rfl (vs:=[.slice a1 n1 c1,.slice a2 n2 c2,.slice a3 n3 c3]) rfl rfl) (tm':=zq4 (zq16 (zq32 (zq32 [])))) rfl ?_
         refine wo (xaz xoj rfl (a':=⟨b15,0,none⟩) rfl) ?_
         refine xbz mn (fun h_ H_=>xaj H_ tA3 rfl (i:=0) rfl (v:=.int .i64 ((t.wy.getD r wz).1)) rfl) (tm':=zq4 (zq16 (zq32 (zq32 [])))) rfl ?_
         refine xik mn (first:=[]) (cap:=[]) rfl rfl fC33 (fun h_ H_=>(c33 md _ _ H_.pe _ _ _ _ _ _ _ _ _ t (show TownP _ _ _ _ _ _ _ t from ⟨T.h,T.w,T.y⟩) (by omega) ((t.wy.getD r wz).1)).mono fun v_ h2_ ⟨e_,k_⟩=>⟨e_,H_.call k_⟩) rfl ?_
         refine wt (xgz rfl) (tm':=zq4 (zq16 (zq32 (zq32 [])))) rfl <| wo (xaq (v:=.bool (!(decide (0≤(t.wy.getD r wz).1∧(t.wy.getD r wz).1≤(t.nH:Int)-1)))) rfl) ?_
         refine xbz (ms rfl rfl (xev (dtt cc16))) (fun h_ H_=>xav H_ tA25 tS25 rfl (i:=1) rfl (vs:=[.slice a1 n1 c1,.slice a2 n2 c2,.slice a3 n3 c3]) rfl rfl) (tm':=zq4 (zq16 (zq32 (zq32 [])))) rfl ?_
         refine xbz (ms rfl rfl (xev (dtt cc16))) (fun h_ H_=>xaz xpk rfl (a':=⟨b15,1,none⟩) rfl) rfl ?_
         refine xbz (ms rfl rfl (xev (dtt cc16))) (fun h_ H_=>xaj H_ tA3 rfl (i:=0) rfl (v:=.int .i64 ((t.wy.getD r wz).2)) rfl) (tm':=zq4 (zq16 (zq32 (zq32 [])))) rfl ?_
         refine xik (ms rfl rfl (xev (dtt cc16))) (first:=[]) (cap:=[]) rfl rfl fC57 (fun h_ H_=>(c57 md _ _ H_.pe _ _ _ _ _ _ _ _ _ t (show TownP _ _ _ _ _ _ _ t from ⟨T.h,T.w,T.y⟩) (by omega) ((t.wy.getD r wz).2)).mono fun v_ h2_ ⟨e_,k_⟩=>⟨e_,H_.call k_⟩) rfl ?_
         refine xbz (ms rfl rfl (xev (dtt cc16))) (fun h_ H_=>xgz rfl) (tm':=zq4 (zq16 (zq32 (zq32 [])))) rfl ?_
         refine wo (xcq rfl (xev (dtt cc16)) (v:=.bool (!(decide (0≤(t.wy.getD r wz).2∧(t.wy.getD r wz).2≤(t.nW:Int)-1)))) rfl) <| wt (xaq (v:=.bool (!(decide (0≤(t.wy.getD r wz).2∧(t.wy.getD r wz).2≤(t.nW:Int)-1)))) rfl) (tm':=zq4 (zq16 (zq32 (zq32 [])))) rfl ?_
         refine xbz (ms rfl rfl (xev (dtt cc17))) (fun h_ H_=>xaq (v:=.int .i64 (((r:Nat):Int))) rfl) rfl ?_
         refine xbz (ms rfl rfl (xev (dtt cc17))) (fun h_ H_=>xix rfl rfl) (tm':=zq4 (zq16 (zq32 (zq32 [])))) rfl ?_
         refine xbz (ms rfl rfl (xev (dtt cc17))) (fun h_ H_=>xaq (v:=.bool (decide (0<((r:Nat):Int)))) rfl) rfl ?_
         refine xdv (mo rfl rfl (dff cc18)) (tm':=zq4 (zq16 (zq32 (zq32 [])))) rfl <| wp (mo rfl rfl (dff cc18)) <| xdv (mo rfl rfl (dff cc18)) (tm':=zq4 (zq16 (zq32 (zq32 [])))) rfl <| wp (mo rfl rfl (dff cc18)) <| xdv (mo rfl rfl (dff cc18)) (tm':=zq4 (zq16 (zq32 (zq32 [])))) rfl <| wp (mo rfl rfl (dff cc18)) ?_
         refine xdv (mo rfl rfl (dff cc18)) (tm':=zq4 (zq16 (zq32 (zq32 [])))) rfl ?_
         refine xiz rfl ?_
         refine rp (mo rfl rfl (dff cc18)) <| xfq (mo rfl rfl (dff cc18)) (tm':=zq4 (zq16 (zq32 (zq32 [])))) rfl ?_
         refine xaw (ms rfl rfl (xev (dtt cc17))) (fun h_ H_=>xcq rfl (dff cc18) (v:=.bool (false)) rfl) rfl ?_
         refine ro (xcq rfl (xev (dtt cc17)) (v:=.bool (false)) rfl) <| xak <| xcv rfl rfl <| xdq <| xeq <| xbq ?_
         refine rt (xaq (v:=.int .i64 (((r:Nat):Int))) rfl) (tm':=zq1 (zq2 (zq16 (zq32 _)))) rfl ?_
         refine ro (xfx rfl rfl (n:=((r+1:Nat):Int)) (wr (by omega))) ?_
         refine ro (xax (v:=.int .i64 (((r+1:Nat):Int))) rfl) <| xak ?_
         exact fun h_ H_=>IH13 _ _ (by omega) h_ ⟨r+1,rfl,(y_of rfl),(by omega),(xqw h3 ⟨by omega,by omega,fun _=>by first | assumption | omega⟩),H_.drop⟩
       ·
        refine xfw 23 [[],[],[1],[0,1,2],[0,1,2],[0,1,2,3,4],[],[0,1,2,3,4],[0,1,2,3,4,7],[0,1,2,3,4,6,7,8],[0,1,2,3,4,6,7,8],[0,1,2,3,4,5,6,7,8,10],[0,1,2,3,4,5,6,7,8,9,10,11],[0,1,2,3,4,5,6,7,8,9,10,11],[0,1,2,3,4,5,6,7,8,9,10,11,13],[0,1,2,3,4,5,6,7,8,9,10,11,12,13,14],[],[16],[],[18],[16,17,18,19],[16,17,18,19,20],[0,1,2,3,4,5,6,7,8,9,10,11,12,13,14],[0,1,2,3,4,5,6,7,8,9,10,11,12,13,14,16,17,18,19,20,21,22],[0,1,2,3,4,5,6,7,8,9,10,11,13,14,16,17,18,19,20,21,22,23],[0,1,2,3,4,5,6,7,8,9,10,11,13,14,15,16,17,18,19,20,21,22,23,24],[]] xlq (by kernel_rfl) (Nat.le_of_ble_eq_true rfl) ?_
        refine xbz mn (fun h_ H_=>xav H_ tA25 tS25 rfl (i:=1) rfl (vs:=[.slice a1 n1 c1,.slice a2 n2 c2,.slice a3 n3 c3]) rfl rfl) (tm':=zq4 (zq16 (zq32 (zq32 [])))) rfl ?_
        refine wo (xaz xoj rfl (a':=⟨b15,0,none⟩) rfl) ?_
        refine xbz mn (fun h_ H_=>xaj H_ tA3 rfl (i:=0) rfl (v:=.int .i64 ((t.wy.getD r wz).1)) rfl) (tm':=zq4 (zq16 (zq32 (zq32 [])))) rfl ?_
        refine xik mn (first:=[]) (cap:=[]) rfl rfl fC33 (fun h_ H_=>(c33 md _ _ H_.pe _ _ _ _ _ _ _ _ _ t (show TownP _ _ _ _ _ _ _ t from ⟨T.h,T.w,T.y⟩) (by omega) ((t.wy.getD r wz).1)).mono fun v_ h2_ ⟨e_,k_⟩=>⟨e_,H_.call k_⟩) rfl ?_
        refine wt (xgz rfl) (tm':=zq4 (zq16 (zq32 (zq32 [])))) rfl <| wo (xaq (v:=.bool (!(decide (0≤(t.wy.getD r wz).1∧(t.wy.getD r wz).1≤(t.nH:Int)-1)))) rfl) ?_
        refine xbz (ms rfl rfl (xev (dtt cc16))) (fun h_ H_=>xav H_ tA25 tS25 rfl (i:=1) rfl (vs:=[.slice a1 n1 c1,.slice a2 n2 c2,.slice a3 n3 c3]) rfl rfl) (tm':=zq4 (zq16 (zq32 (zq32 [])))) rfl ?_
        refine xbz (ms rfl rfl (xev (dtt cc16))) (fun h_ H_=>xaz xpk rfl (a':=⟨b15,1,none⟩) rfl) rfl ?_
        refine xbz (ms rfl rfl (xev (dtt cc16))) (fun h_ H_=>xaj H_ tA3 rfl (i:=0) rfl (v:=.int .i64 ((t.wy.getD r wz).2)) rfl) (tm':=zq4 (zq16 (zq32 (zq32 [])))) rfl ?_
        refine xik (ms rfl rfl (xev (dtt cc16))) (first:=[]) (cap:=[]) rfl rfl fC57 (fun h_ H_=>(c57 md _ _ H_.pe _ _ _ _ _ _ _ _ _ t (show TownP _ _ _ _ _ _ _ t from ⟨T.h,T.w,T.y⟩) (by omega) ((t.wy.getD r wz).2)).mono fun v_ h2_ ⟨e_,k_⟩=>⟨e_,H_.call k_⟩) rfl ?_
        refine xbz (ms rfl rfl (xev (dtt cc16))) (fun h_ H_=>xgz rfl) (tm':=zq4 (zq16 (zq32 (zq32 [])))) rfl ?_
        refine wo (xcq rfl (xev (dtt cc16)) (v:=.bool (!(decide (0≤(t.wy.getD r wz).2∧(t.wy.getD r wz).2≤(t.nW:Int)-1)))) rfl) <| wt (xaq (v:=.bool (!(decide (0≤(t.wy.getD r wz).2∧(t.wy.getD r wz).2≤(t.nW:Int)-1)))) rfl) (tm':=zq4 (zq16 (zq32 (zq32 [])))) rfl <| wp (mo rfl rfl (xgv (dff cc17))) <| xdv (mo rfl rfl (xgv (dff cc17))) (tm':=zq4 (zq16 (zq32 (zq32 [])))) rfl <| wp (mo rfl rfl (xgv (dff cc17))) <| xdv (xex rfl rfl) (tm':=zq4 (zq16 (zq32 (zq32 [])))) rfl ?_
        refine wp (xex rfl rfl) <| xdv (xex rfl rfl) (tm':=zq4 (zq16 (zq32 (zq32 [])))) rfl <| wp (xex rfl rfl) <| xdv (xex rfl rfl) (tm':=zq4 (zq16 (zq32 (zq32 [])))) rfl <| wp (xex rfl rfl) <| xdv (xex rfl rfl) (tm':=zq4 (zq16 (zq32 (zq32 [])))) rfl ?_
        refine xiz rfl ?_
        refine rp (xex rfl rfl) <| xfq (xex rfl rfl) (tm':=zq4 (zq16 (zq32 (zq32 [])))) rfl <| rp (mo rfl rfl (xgv (dff cc17))) <| ro (xbj rfl (xgv (dff cc17)) (v:=.bool (true)) rfl) <| xak <| xdk rfl rfl ?_
        refine fsr <| rt (xax (v:=.bool (false)) rfl) (tm':=_::_::_::_) rfl <| xak ?_
        refine xew Tryd.func88 rfl (vs:=[.bool (false)]) (fun h_ H_=>⟨.bool (false),_,rfl,rfl,rfl⟩) (v:=.bool (false)) rfl ?_
        exact fun h_ H_=>K _ _ ⟨by first | (rw [decide_eq_true (p:=Vd t) ⟨by omega,by omega,fun i hi=>h1 i (by omega),fun i hi=>h2 i (by omega),fun i hi=>h3 i (by omega)⟩]) | (rw [decide_eq_false (p:=Vd t) (fun z=>by have z1:=z.nh;have z2:=z.nw;first | omega | (have z3:=z.h k (by omega);omega) | (have z3:=z.w l (by omega);omega) | (rcases z.y r (by omega) with ⟨z3,z4,z5⟩;first | omega | exact absurd (z5 (by omega)) ‹_›))]),H_.kept⟩
      ·
       refine xfw 23 [[],[],[1],[0,1,2],[0,1,2],[0,1,2,3,4],[],[0,1,2,3,4],[0,1,2,3,4,7],[0,1,2,3,4,6,7,8],[0,1,2,3,4,6,7,8],[0,1,2,3,4,5,6,7,8,10],[0,1,2,3,4,5,6,7,8,9,10,11],[0,1,2,3,4,5,6,7,8,9,10,11],[0,1,2,3,4,5,6,7,8,9,10,11,13],[0,1,2,3,4,5,6,7,8,9,10,11,12,13,14],[],[16],[],[18],[16,17,18,19],[16,17,18,19,20],[0,1,2,3,4,5,6,7,8,9,10,11,12,13,14],[0,1,2,3,4,5,6,7,8,9,10,11,12,13,14,16,17,18,19,20,21,22],[0,1,2,3,4,5,6,7,8,9,10,11,13,14,16,17,18,19,20,21,22,23],[0,1,2,3,4,5,6,7,8,9,10,11,13,14,15,16,17,18,19,20,21,22,23,24],[]] xlq (by kernel_rfl) (Nat.le_of_ble_eq_true rfl) ?_
       refine xbz mn (fun h_ H_=>xav H_ tA25 tS25 rfl (i:=1) rfl (vs:=[.slice a1 n1 c1,.slice a2 n2 c2,.slice a3 n3 c3]) rfl rfl) (tm':=zq4 (zq16 (zq32 (zq32 [])))) rfl ?_
       refine wo (xaz xoj rfl (a':=⟨b15,0,none⟩) rfl) ?_
       refine xbz mn (fun h_ H_=>xaj H_ tA3 rfl (i:=0) rfl (v:=.int .i64 ((t.wy.getD r wz).1)) rfl) (tm':=zq4 (zq16 (zq32 (zq32 [])))) rfl ?_
       refine xik mn (first:=[]) (cap:=[]) rfl rfl fC33 (fun h_ H_=>(c33 md _ _ H_.pe _ _ _ _ _ _ _ _ _ t (show TownP _ _ _ _ _ _ _ t from ⟨T.h,T.w,T.y⟩) (by omega) ((t.wy.getD r wz).1)).mono fun v_ h2_ ⟨e_,k_⟩=>⟨e_,H_.call k_⟩) rfl ?_
       refine wt (xgz rfl) (tm':=zq4 (zq16 (zq32 (zq32 [])))) rfl <| wo (xaq (v:=.bool (!(decide (0≤(t.wy.getD r wz).1∧(t.wy.getD r wz).1≤(t.nH:Int)-1)))) rfl) <| xdv (mo rfl rfl (xgv (dff cc16))) (tm':=zq4 (zq16 (zq32 (zq32 [])))) rfl <| wp (mo rfl rfl (xgv (dff cc16))) <| xdv (mo rfl rfl (xgv (dff cc16))) (tm':=zq4 (zq16 (zq32 (zq32 [])))) rfl <| wp (mo rfl rfl (xgv (dff cc16))) ?_
       refine xdv (mo rfl rfl (xgv (dff cc16))) (tm':=zq4 (zq16 (zq32 (zq32 [])))) rfl <| wo (xbj rfl (xgv (dff cc16)) (v:=.bool (true)) rfl) <| wt (xaq (v:=.bool (true)) rfl) (tm':=zq4 (zq16 (zq32 (zq32 [])))) rfl <| wp (mo rfl rfl rfl) <| xdv (mo rfl rfl rfl) (tm':=zq4 (zq16 (zq32 (zq32 [])))) rfl <| wp (mo rfl rfl rfl) ?_
       refine xdv (xex rfl rfl) (tm':=zq4 (zq16 (zq32 (zq32 [])))) rfl <| wp (xex rfl rfl) <| xdv (xex rfl rfl) (tm':=zq4 (zq16 (zq32 (zq32 [])))) rfl <| wp (xex rfl rfl) <| xdv (xex rfl rfl) (tm':=zq4 (zq16 (zq32 (zq32 [])))) rfl <| wp (xex rfl rfl) ?_
       refine xdv (xex rfl rfl) (tm':=zq4 (zq16 (zq32 (zq32 [])))) rfl ?_
       refine xiz rfl ?_
       refine xfq (xex rfl rfl) (tm':=zq4 (zq16 (zq32 (zq32 [])))) rfl <| rp (xex rfl rfl) <| rp (mo rfl rfl rfl) <| rt (xbj rfl rfl (v:=.bool (true)) rfl) (tm':=zq4 (zq16 (zq32 (zq32 [])))) rfl <| xak <| xdk rfl rfl ?_
       refine fsr <| ro (xax (v:=.bool (false)) rfl) <| xak ?_
       refine xew Tryd.func88 rfl (vs:=[.bool (false)]) (fun h_ H_=>⟨.bool (false),_,rfl,rfl,rfl⟩) (v:=.bool (false)) rfl ?_
       exact fun h_ H_=>K _ _ ⟨by first | (rw [decide_eq_true (p:=Vd t) ⟨by omega,by omega,fun i hi=>h1 i (by omega),fun i hi=>h2 i (by omega),fun i hi=>h3 i (by omega)⟩]) | (rw [decide_eq_false (p:=Vd t) (fun z=>by have z1:=z.nh;have z2:=z.nw;first | omega | (have z3:=z.h k (by omega);omega) | (have z3:=z.w l (by omega);omega) | (rcases z.y r (by omega) with ⟨z3,z4,z5⟩;first | omega | exact absurd (z5 (by omega)) ‹_›))]),H_.kept⟩
     ·
      refine xcv rfl (dff cc14) <| xiq rfl <| fsr <| ro (xax (v:=.bool (true)) rfl) <| xak ?_
      refine xew Tryd.func88 rfl (vs:=[.bool (true)]) (fun h_ H_=>⟨.bool (true),_,rfl,rfl,rfl⟩) (v:=.bool (true)) rfl ?_
      exact fun h_ H_=>K _ _ ⟨by first | (rw [decide_eq_true (p:=Vd t) ⟨by omega,by omega,fun i hi=>h1 i (by omega),fun i hi=>h2 i (by omega),fun i hi=>h3 i (by omega)⟩]) | (rw [decide_eq_false (p:=Vd t) (fun z=>by have z1:=z.nh;have z2:=z.nw;first | omega | (have z3:=z.h k (by omega);omega) | (have z3:=z.w l (by omega);omega) | (rcases z.y r (by omega) with ⟨z3,z4,z5⟩;first | omega | exact absurd (z5 (by omega)) ‹_›))]),H_.kept⟩
theorem c48 (md:Md) (h:Heap) (p:PHeap) (hp:Per p h) (a1:Option Addr) (n1 c1:Nat) (a2:Option Addr) (n2 c2:Nat) (a3:Option Addr) (n3 c3:Nat) (t:Tn) (T:TownP p a1 n1 a2 n2 a3 n3 t) (hn:n1≤40∧n2≤40∧n3≤41):CallsX Tryd.prog md 48 #[.agg #[.slice a1 n1 c1,.slice a2 n2 c2,.slice a3 n3 c3]] h fun v h'=>v= .int .i64 (chkB t)∧Keep h h':=by
 refine xcw (Φ:=fun h_=>St h [] p h_ []) Tryd.func48 rfl (tm:=zq4 (zq8 [])) rfl ?_ (St.start h _ hp)
 intro c₀ cs Stop K
 have eH:=T.nH
 have eW:=T.nW
 have eM:=T.m
 refine fsr ?_
 refine xiw mn (v:=.agg #[.slice a1 n1 c1,.slice a2 n2 c2,.slice a3 n3 c3]) rfl fun b1=>xcj (L':=[(b1,.cells #[.slice a1 n1 c1,.slice a2 n2 c2,.slice a3 n3 c3] 25 (0,0))]) rfl ?_
 refine xgx (tm':=_::_::_) rfl ?_
 refine ro (xax (v:=.int .i64 0) rfl) <| ren <| fsr <| ro (xaz xhv rfl (a':=⟨b1,2,none⟩) rfl) ?_
 refine xaw mn (fun h_ H_=>xaj H_ tA23 rfl (i:=0) rfl (v:=.slice a3 n3 c3) rfl) (tm':=zq1 (zq4 _)) rfl ?_
 refine ro (xfk Tryd.underlying23 rfl) <| ro (xix rfl rfl) <| rt (xaq (v:=.bool (decide (12<((n3:Nat):Int)))) rfl) (tm':=zq8 _) rfl ?_
 by_cases cc2:12<((n3:Nat):Int)
 ·
  refine rp (mo rfl rfl (dtt cc2)) <| rp (mo rfl rfl (dtt cc2)) <| xfq (mo rfl rfl (dtt cc2)) (tm':=zq4 (zq8 [])) rfl <| ro (xbj rfl (dtt cc2) (v:=.bool (true)) rfl) <| xak <| xdk rfl rfl ?_
  refine fsr <| ro (xax (v:=.int .i64 30) rfl) <| xak ?_
  refine xew Tryd.func48 rfl (vs:=[.int .i64 30]) (fun h_ H_=>⟨.int .i64 30,_,rfl,rfl,rfl⟩) (v:=.int .i64 30) rfl ?_
  exact fun h_ H_=>K _ _ ⟨by first | (rw [xsq (fun z=>by omega)]) | (rw [xsq (fun z=>absurd z.2 ‹_›)]) | (rw [xpq (by omega) ‹_›]),H_.kept⟩
 ·
  refine xaw (ms rfl rfl (dff cc2)) (fun h_ H_=>xav H_ tA25 tS25 rfl (i:=0) rfl (vs:=[.slice a1 n1 c1,.slice a2 n2 c2,.slice a3 n3 c3]) rfl rfl) (tm':=zq4 (zq8 [])) rfl ?_
  refine xcx (ms rfl rfl (dff cc2)) (first:=[]) (cap:=[]) rfl rfl fC88 (fun h_ H_=>c88 md _ _ H_.pe _ _ _ _ _ _ _ _ _ t (show TownP _ _ _ _ _ _ _ t from ⟨T.h,T.w,T.y⟩) (by omega)) rfl ?_
  refine xaw (ms rfl rfl (dff cc2)) (fun h_ H_=>xgz rfl) rfl ?_
  refine rt (xcq rfl (dff cc2) (v:=.bool (!(decide (Vd t)))) rfl) (tm':=zq4 (zq8 [])) rfl <| xak ?_
  by_cases cc3:Vd t
  ·
   refine xcv rfl (xev (dtt cc3)) <| xdq <| fsr <| ro (xax (v:=.int .i64 0) rfl) <| xak ?_
   refine xew Tryd.func48 rfl (vs:=[.int .i64 0]) (fun h_ H_=>⟨.int .i64 0,_,rfl,rfl,rfl⟩) (v:=.int .i64 0) rfl ?_
   exact fun h_ H_=>K _ _ ⟨by first | (rw [xsq (fun z=>by omega)]) | (rw [xsq (fun z=>absurd z.2 ‹_›)]) | (rw [xpq (by omega) ‹_›]),H_.kept⟩
  ·
   refine xdk rfl (xgv (dff cc3)) <| fsr <| ro (xax (v:=.int .i64 30) rfl) <| xak ?_
   refine xew Tryd.func48 rfl (vs:=[.int .i64 30]) (fun h_ H_=>⟨.int .i64 30,_,rfl,rfl,rfl⟩) (v:=.int .i64 30) rfl ?_
   exact fun h_ H_=>K _ _ ⟨by first | (rw [xsq (fun z=>by omega)]) | (rw [xsq (fun z=>absurd z.2 ‹_›)]) | (rw [xpq (by omega) ‹_›]),H_.kept⟩
theorem c47 (md:Md) (h:Heap) (p:PHeap) (hp:Per p h) (a1:Option Addr) (n1 c1:Nat) (a2:Option Addr) (n2 c2:Nat) (a3:Option Addr) (n3 c3:Nat) (t:Tn) (T:TownP p a1 n1 a2 n2 a3 n3 t) (hn:n1≤40∧n2≤40∧n3≤41):CallsX Tryd.prog md 47 #[.agg #[.slice a1 n1 c1,.slice a2 n2 c2,.slice a3 n3 c3]] h fun v h'=>v= .int .i64 (chkB t)∧Keep h h':=by
 refine xcw (Φ:=fun h_=>St h [] p h_ []) Tryd.func47 rfl (tm:=zq1 (zq32 (zq32 []))) rfl ?_ (St.start h _ hp)
 intro c₀ cs Stop K
 have eH:=T.nH
 have eW:=T.nW
 have eM:=T.m
 refine fsr ?_
 refine xiw mn (v:=.agg #[.slice a1 n1 c1,.slice a2 n2 c2,.slice a3 n3 c3]) rfl fun b1=>xcj (L':=[(b1,.cells #[.slice a1 n1 c1,.slice a2 n2 c2,.slice a3 n3 c3] 25 (0,0))]) rfl ?_
 refine xgx (tm':=_::_::_) rfl ?_
 refine ro (xax (v:=.int .i64 0) rfl) <| ren <| fsr <| ro (xaz xmz rfl (a':=⟨b1,0,none⟩) rfl) ?_
 refine xaw mn (fun h_ H_=>xaj H_ tA22 rfl (i:=0) rfl (v:=.slice a1 n1 c1) rfl) (tm':=zq1 (zq2 (zq4 _))) rfl ?_
 refine ro (xfk Tryd.underlying22 rfl) <| ro (xix rfl rfl) <| rt (xaq (v:=.bool (decide (6<((n1:Nat):Int)))) rfl) (tm':=zq2 (zq8 _)) rfl ?_
 by_cases cc2:6<((n1:Nat):Int)
 ·
  refine rp (mo rfl rfl (dtt cc2)) <| rp (mo rfl rfl (dtt cc2)) <| xfq (mo rfl rfl (dtt cc2)) (tm':=zq1 (zq4 (zq8 _))) rfl <| rp (mo rfl rfl (dtt cc2)) <| ro (xbj rfl (dtt cc2) (v:=.bool (true)) rfl) <| rt (xaq (v:=.bool (true)) rfl) (tm':=zq16 _) rfl ?_
  refine rp (mo rfl rfl rfl) <| rp (mo rfl rfl rfl) <| xfq (mo rfl rfl rfl) (tm':=zq1 (zq2 (zq16 _))) rfl <| rp (mo rfl rfl rfl) <| ro (xbj rfl rfl (v:=.bool (true)) rfl) <| xak ?_
  refine xdk rfl rfl <| fsr <| rt (xax (v:=.int .i64 30) rfl) (tm':=_::_::_::_) rfl <| xak ?_
  refine xew Tryd.func47 rfl (vs:=[.int .i64 30]) (fun h_ H_=>⟨.int .i64 30,_,rfl,rfl,rfl⟩) (v:=.int .i64 30) rfl ?_
  exact fun h_ H_=>K _ _ ⟨by first | (rw [xpq (by omega) ⟨by omega,by omega,xnw ‹_›,xnw ‹_›,fun i hi=>h3 i (by omega)⟩]) | (rw [xsq (fun z=>by have z1:=z.2.nh;have z2:=z.2.nw;first | omega | exact xqv ‹_› (fun i hi=>z.2.h i hi) | exact xqv ‹_› (fun i hi=>z.2.w i hi) | (rcases z.2.y r (by omega) with ⟨z3,z4,z5⟩;first | omega | exact absurd (z5 (by omega)) (xtv.1 (by omega))))]),H_.kept⟩
 ·
  refine xaw (ms rfl rfl (dff cc2)) (fun h_ H_=>xaz xnj rfl (a':=⟨b1,1,none⟩) rfl) rfl ?_
  refine xaw (ms rfl rfl (dff cc2)) (fun h_ H_=>xaj H_ tA22 rfl (i:=0) rfl (v:=.slice a2 n2 c2) rfl) rfl ?_
  refine xaw (ms rfl rfl (dff cc2)) (fun h_ H_=>xfk Tryd.underlying22 rfl) (tm':=zq1 (zq4 (zq8 _))) rfl ?_
  refine xaw (ms rfl rfl (dff cc2)) (fun h_ H_=>xix rfl rfl) rfl ?_
  refine ro (xcq rfl (dff cc2) (v:=.bool (decide (5<((n2:Nat):Int)))) rfl) <| rt (xaq (v:=.bool (decide (5<((n2:Nat):Int)))) rfl) (tm':=zq16 _) rfl ?_
  by_cases cc3:5<((n2:Nat):Int)
  ·
   refine rp (mo rfl rfl (dtt cc3)) <| rp (mo rfl rfl (dtt cc3)) <| xfq (mo rfl rfl (dtt cc3)) (tm':=zq1 (zq2 (zq16 _))) rfl <| rp (mo rfl rfl (dtt cc3)) <| ro (xbj rfl (dtt cc3) (v:=.bool (true)) rfl) <| xak ?_
   refine xdk rfl rfl <| fsr <| rt (xax (v:=.int .i64 30) rfl) (tm':=_::_::_::_) rfl <| xak ?_
   refine xew Tryd.func47 rfl (vs:=[.int .i64 30]) (fun h_ H_=>⟨.int .i64 30,_,rfl,rfl,rfl⟩) (v:=.int .i64 30) rfl ?_
   exact fun h_ H_=>K _ _ ⟨by first | (rw [xpq (by omega) ⟨by omega,by omega,xnw ‹_›,xnw ‹_›,fun i hi=>h3 i (by omega)⟩]) | (rw [xsq (fun z=>by have z1:=z.2.nh;have z2:=z.2.nw;first | omega | exact xqv ‹_› (fun i hi=>z.2.h i hi) | exact xqv ‹_› (fun i hi=>z.2.w i hi) | (rcases z.2.y r (by omega) with ⟨z3,z4,z5⟩;first | omega | exact absurd (z5 (by omega)) (xtv.1 (by omega))))]),H_.kept⟩
  ·
   refine xaw (ms rfl rfl (dff cc3)) (fun h_ H_=>xaz xhv rfl (a':=⟨b1,2,none⟩) rfl) rfl ?_
   refine xaw (ms rfl rfl (dff cc3)) (fun h_ H_=>xaj H_ tA23 rfl (i:=0) rfl (v:=.slice a3 n3 c3) rfl) rfl ?_
   refine xaw (ms rfl rfl (dff cc3)) (fun h_ H_=>xfk Tryd.underlying23 rfl) (tm':=zq1 (zq2 (zq16 _))) rfl ?_
   refine xaw (ms rfl rfl (dff cc3)) (fun h_ H_=>xix rfl rfl) rfl ?_
   refine ro (xcq rfl (dff cc3) (v:=.bool (decide (12<((n3:Nat):Int)))) rfl) <| xak ?_
   by_cases cc4:12<((n3:Nat):Int)
   ·
    refine xdk rfl (dtt cc4) <| fsr <| rt (xax (v:=.int .i64 30) rfl) (tm':=_::_::_::_) rfl <| xak ?_
    refine xew Tryd.func47 rfl (vs:=[.int .i64 30]) (fun h_ H_=>⟨.int .i64 30,_,rfl,rfl,rfl⟩) (v:=.int .i64 30) rfl ?_
    exact fun h_ H_=>K _ _ ⟨by first | (rw [xpq (by omega) ⟨by omega,by omega,xnw ‹_›,xnw ‹_›,fun i hi=>h3 i (by omega)⟩]) | (rw [xsq (fun z=>by have z1:=z.2.nh;have z2:=z.2.nw;first | omega | exact xqv ‹_› (fun i hi=>z.2.h i hi) | exact xqv ‹_› (fun i hi=>z.2.w i hi) | (rcases z.2.y r (by omega) with ⟨z3,z4,z5⟩;first | omega | exact absurd (z5 (by omega)) (xtv.1 (by omega))))]),H_.kept⟩
   ·
    refine xcv rfl (dff cc4) <| xdq <| xej <| fsr <| ro (xaz xmz rfl (a':=⟨b1,0,none⟩) rfl) <| rd (fun h_ H_=>xaj H_ tA22 rfl (i:=0) rfl (v:=.slice a1 n1 c1) rfl) ?_
    refine xcx mn (first:=[]) (cap:=[]) rfl rfl fC83 (fun h_ H_=>c83 md _ _ H_.pe (.func (.func 84) #[] #[]) _ _ _ _ T.h (by omega) (badN 9) (fun h_ hp_ i_ hi_=>xzv fC84 (c84 md _ _))) (tm':=zq8 (zq16 _)) rfl ?_
    refine ro (xaq (v:=.bool (decide (0≤idxA (badN 9) t.hs))) rfl) ?_
    by_cases cc5:0≤idxA (badN 9) t.hs
    ·
     refine rp (mo rfl rfl (dtt cc5)) <| xfq (mo rfl rfl (dtt cc5)) (tm':=zq1 (zq2 (zq8 (zq16 _)))) rfl <| rp (mo rfl rfl (dtt cc5)) <| ro (xbj rfl (dtt cc5) (v:=.bool (true)) rfl) <| xak <| xdk rfl rfl ?_
     refine fsr <| rt (xax (v:=.int .i64 30) rfl) (tm':=_::_::_::_) rfl <| xak ?_
     refine xew Tryd.func47 rfl (vs:=[.int .i64 30]) (fun h_ H_=>⟨.int .i64 30,_,rfl,rfl,rfl⟩) (v:=.int .i64 30) rfl ?_
     exact fun h_ H_=>K _ _ ⟨by first | (rw [xpq (by omega) ⟨by omega,by omega,xnw ‹_›,xnw ‹_›,fun i hi=>h3 i (by omega)⟩]) | (rw [xsq (fun z=>by have z1:=z.2.nh;have z2:=z.2.nw;first | omega | exact xqv ‹_› (fun i hi=>z.2.h i hi) | exact xqv ‹_› (fun i hi=>z.2.w i hi) | (rcases z.2.y r (by omega) with ⟨z3,z4,z5⟩;first | omega | exact absurd (z5 (by omega)) (xtv.1 (by omega))))]),H_.kept⟩
    ·
     refine xaw (ms rfl rfl (dff cc5)) (fun h_ H_=>xaz xnj rfl (a':=⟨b1,1,none⟩) rfl) rfl ?_
     refine xaw (ms rfl rfl (dff cc5)) (fun h_ H_=>xaj H_ tA22 rfl (i:=0) rfl (v:=.slice a2 n2 c2) rfl) rfl ?_
     refine xcx (ms rfl rfl (dff cc5)) (first:=[]) (cap:=[]) rfl rfl fC83 (fun h_ H_=>c83 md _ _ H_.pe (.func (.func 86) #[] #[]) _ _ _ _ T.w (by omega) (badN 20) (fun h_ hp_ i_ hi_=>xzv fC86 (c86 md _ _))) (tm':=zq4 (zq8 (zq16 _))) rfl ?_
     refine ro (xcq rfl (dff cc5) (v:=.bool (decide (0≤idxA (badN 20) t.ws))) rfl) <| xak ?_
     by_cases cc6:0≤idxA (badN 20) t.ws
     ·
      refine xdk rfl (dtt cc6) <| fsr <| ro (xax (v:=.int .i64 30) rfl) <| xak ?_
      refine xew Tryd.func47 rfl (vs:=[.int .i64 30]) (fun h_ H_=>⟨.int .i64 30,_,rfl,rfl,rfl⟩) (v:=.int .i64 30) rfl ?_
      exact fun h_ H_=>K _ _ ⟨by first | (rw [xpq (by omega) ⟨by omega,by omega,xnw ‹_›,xnw ‹_›,fun i hi=>h3 i (by omega)⟩]) | (rw [xsq (fun z=>by have z1:=z.2.nh;have z2:=z.2.nw;first | omega | exact xqv ‹_› (fun i hi=>z.2.h i hi) | exact xqv ‹_› (fun i hi=>z.2.w i hi) | (rcases z.2.y r (by omega) with ⟨z3,z4,z5⟩;first | omega | exact absurd (z5 (by omega)) (xtv.1 (by omega))))]),H_.kept⟩
     ·
      refine xcv rfl (dff cc6) <| xdq <| xej <| fsr <| rt (xaz xhv rfl (a':=⟨b1,2,none⟩) rfl) (tm':=zq2 (zq4 (zq8 (zq16 _)))) rfl <| rd (fun h_ H_=>xaj H_ tA23 rfl (i:=0) rfl (v:=.slice a3 n3 c3) rfl) ?_
      refine ro (xfk Tryd.underlying23 rfl) <| rt (xaq (v:=.int .i64 0) rfl) (tm':=zq1 (zq32 _)) rfl <| xak <| xek ?_
      refine xiv (m₀:=n3-0) (fun m_ tm_ h_=>∃ (r:Nat),m_=n3-r∧(∃ y7:Nat→Value,tm_=[.agg #[.slice a1 n1 c1,.slice a2 n2 c2,.slice a3 n3 c3],.pointer (some ⟨b1,0,none⟩),(y7 2),(y7 3),(y7 4),.pointer (some ⟨b1,0,none⟩),.slice a1 n1 c1,.int .i64 (((n1:Nat):Int)),.bool (decide (6<((n1:Nat):Int))),.bool (decide (6<((n1:Nat):Int))),.pointer (some ⟨b1,1,none⟩),.slice a2 n2 c2,.int .i64 (((n2:Nat):Int)),.bool (decide (5<((n2:Nat):Int))),.bool (decide (5<((n2:Nat):Int))),.bool (decide (5<((n2:Nat):Int))),.pointer (some ⟨b1,2,none⟩),.slice a3 n3 c3,.int .i64 (((n3:Nat):Int)),.bool (decide (12<((n3:Nat):Int))),.bool (decide (12<((n3:Nat):Int))),.pointer (some ⟨b1,0,none⟩),.slice a1 n1 c1,.bool (decide (0≤idxA (badN 9) t.hs)),.bool (decide (0≤idxA (badN 9) t.hs)),.pointer (some ⟨b1,1,none⟩),.slice a2 n2 c2,.bool (decide (0≤idxA (badN 20) t.ws)),.bool (decide (0≤idxA (badN 20) t.ws)),.pointer (some ⟨b1,2,none⟩),.slice a3 n3 c3,.int .i64 (((n3:Nat):Int)),.int .i64 (((r:Nat):Int)),(y7 33),(y7 34),(y7 35),(y7 36),(y7 37),(y7 38),(y7 39),(y7 40),(y7 41),(y7 42),(y7 43),(y7 44),(y7 45),(y7 46),(y7 47),(y7 48),(y7 49),(y7 50),(y7 51),(y7 52),(y7 53),(y7 54),(y7 55),(y7 56),(y7 57),(y7 58),(y7 59),(y7 60),(y7 61),(y7 62),(y7 63),(y7 64)])∧(r≤n3)∧(∀ i,i<r→YOk t i)∧St h [] p h_ ([(b1,.cells #[.slice a1 n1 c1,.slice a2 n2 c2,.slice a3 n3 c3] 25 (0,0))])) (fun h_ H_=>⟨0,rfl,(y_of rfl),Nat.zero_le _,(fun i hi=>absurd hi (Nat.not_lt_zero i)),H_⟩) ?_
      intro m_ tm_ IH8
      refine xij fun r=>xdz fun hm_=>xdz fun ht_=>xdz fun hkr=>xdz fun h3=>?_
      subst hm_;obtain ⟨y7,ht_⟩:=ht_;subst ht_
      refine fsr <| ro (xgw rfl rfl) <| ren ?_
      by_cases cc9:((r:Nat):Int)<((n3:Nat):Int)
      ·
       refine xdk rfl (dtt cc9) <| xdq <| xej <| xek <| fsr <| ro (xaq (v:=.int .i64 (((r:Nat):Int))) rfl) ?_
       refine rt (xcz (i:=r) Tryd.underlying23 tS43 (xkq a3 n3 c3 (T.y.ne (by omega))) rfl (by omega)) (tm':=zq4 (zq32 _)) rfl ?_
       refine rd (fun h_ H_=>xhx H_ tA43 tS43 rfl (vs:=[.int .i64 ((t.wy.getD r wz).1),.int .i64 ((t.wy.getD r wz).2)]) rfl (T.y.all (by omega))) ?_
       refine xkz mn tZ43 rfl fun b10=>xcj (L':=[(b10,.cells #[.int .i64 0,.int .i64 0] 43 (0,0)),(b1,.cells #[.slice a1 n1 c1,.slice a2 n2 c2,.slice a3 n3 c3] 25 (0,0))]) rfl ?_
       refine rt (xax (v:=.int .i64 (((r:Nat):Int))) rfl) (tm':=zq4 _) rfl ?_
       refine xjk mn tS43 rfl (v:=.agg #[.int .i64 ((t.wy.getD r wz).1),.int .i64 ((t.wy.getD r wz).2)]) rfl (i:=0) rfl rfl rfl (Nat.le_of_ble_eq_true rfl) (cs2:=[.int .i64 ((t.wy.getD r wz).1),.int .i64 ((t.wy.getD r wz).2)]) rfl (xcj (L':=[(b10,.cells #[.int .i64 ((t.wy.getD r wz).1),.int .i64 ((t.wy.getD r wz).2)] 43 (0,0)),(b1,.cells #[.slice a1 n1 c1,.slice a2 n2 c2,.slice a3 n3 c3] 25 (0,0))]) rfl ?_)
       refine ren ?_
       by_cases cc11:0≤(t.wy.getD r wz).1∧(t.wy.getD r wz).1≤(t.nH:Int)-1
       ·
        by_cases cc12:0≤(t.wy.getD r wz).2∧(t.wy.getD r wz).2≤(t.nW:Int)-1
        ·
         by_cases cc13:0<((r:Nat):Int)
         ·
          refine xfw 23 [[],[],[1],[0,1,2],[0,1,2],[0,1,2,3,4],[],[0,1,2,3,4],[0,1,2,3,4,7],[0,1,2,3,4,6,7,8],[0,1,2,3,4,6,7,8],[0,1,2,3,4,5,6,7,8,10],[0,1,2,3,4,5,6,7,8,9,10,11],[0,1,2,3,4,5,6,7,8,9,10,11],[0,1,2,3,4,5,6,7,8,9,10,11,13],[0,1,2,3,4,5,6,7,8,9,10,11,12,13,14],[],[16],[],[18],[16,17,18,19],[16,17,18,19,20],[0,1,2,3,4,5,6,7,8,9,10,11,12,13,14],[0,1,2,3,4,5,6,7,8,9,10,11,12,13,14,16,17,18,19,20,21,22],[0,1,2,3,4,5,6,7,8,9,10,11,13,14,16,17,18,19,20,21,22,23],[0,1,2,3,4,5,6,7,8,9,10,11,13,14,15,16,17,18,19,20,21,22,23,24],[]] xlq (by kernel_rfl) (Nat.le_of_ble_eq_true rfl) ?_
          refine wd (fun h_ H_=>xav H_ tA25 tS25 rfl (i:=1) rfl (vs:=[.slice a1 n1 c1,.slice a2 n2 c2,.slice a3 n3 c3]) rfl rfl) <| wt (xaz xoj rfl (a':=⟨b10,0,none⟩) rfl) (tm':=zq1 (zq2 (zq4 (zq32 _)))) rfl <| wd (fun h_ H_=>xaj H_ tA3 rfl (i:=0) rfl (v:=.int .i64 ((t.wy.getD r wz).1)) rfl) ?_
          refine xik mn (first:=[]) (cap:=[]) rfl rfl fC65 (fun h_ H_=>(c65 md _ _ H_.pe _ _ _ _ _ _ _ _ _ t (show TownP _ _ _ _ _ _ _ t from ⟨T.h,T.w,T.y⟩) (by omega) ((t.wy.getD r wz).1)).mono fun v_ h2_ ⟨e_,k_⟩=>⟨e_,H_.call k_⟩) (tm':=zq1 (zq8 (zq32 _))) rfl ?_
          refine wo (xgz rfl) <| wt (xaq (v:=.bool (!(decide (0≤(t.wy.getD r wz).1∧(t.wy.getD r wz).1≤(t.nH:Int)-1)))) rfl) (tm':=zq1 (zq2 (zq8 (zq32 _)))) rfl ?_
          refine xbz (ms rfl rfl (xev (dtt cc11))) (fun h_ H_=>xav H_ tA25 tS25 rfl (i:=1) rfl (vs:=[.slice a1 n1 c1,.slice a2 n2 c2,.slice a3 n3 c3]) rfl rfl) rfl ?_
          refine xbz (ms rfl rfl (xev (dtt cc11))) (fun h_ H_=>xaz xpk rfl (a':=⟨b10,1,none⟩) rfl) (tm':=zq1 (zq32 (zq32 []))) rfl ?_
          refine xbz (ms rfl rfl (xev (dtt cc11))) (fun h_ H_=>xaj H_ tA3 rfl (i:=0) rfl (v:=.int .i64 ((t.wy.getD r wz).2)) rfl) rfl ?_
          refine xik (ms rfl rfl (xev (dtt cc11))) (first:=[]) (cap:=[]) rfl rfl fC70 (fun h_ H_=>(c70 md _ _ H_.pe _ _ _ _ _ _ _ _ _ t (show TownP _ _ _ _ _ _ _ t from ⟨T.h,T.w,T.y⟩) (by omega) ((t.wy.getD r wz).2)).mono fun v_ h2_ ⟨e_,k_⟩=>⟨e_,H_.call k_⟩) (tm':=zq1 (zq32 (zq32 []))) rfl ?_
          refine xbz (ms rfl rfl (xev (dtt cc11))) (fun h_ H_=>xgz rfl) rfl ?_
          refine wt (xcq rfl (xev (dtt cc11)) (v:=.bool (!(decide (0≤(t.wy.getD r wz).2∧(t.wy.getD r wz).2≤(t.nW:Int)-1)))) rfl) (tm':=zq1 (zq32 (zq32 []))) rfl <| wo (xaq (v:=.bool (!(decide (0≤(t.wy.getD r wz).2∧(t.wy.getD r wz).2≤(t.nW:Int)-1)))) rfl) ?_
          refine xbz (ms rfl rfl (xev (dtt cc12))) (fun h_ H_=>xaq (v:=.int .i64 (((r:Nat):Int))) rfl) (tm':=zq1 (zq32 (zq32 []))) rfl ?_
          refine xbz (ms rfl rfl (xev (dtt cc12))) (fun h_ H_=>xix rfl rfl) rfl ?_
          refine xbz (ms rfl rfl (xev (dtt cc12))) (fun h_ H_=>xaq (v:=.bool (decide (0<((r:Nat):Int)))) rfl) (tm':=zq1 (zq32 (zq32 []))) rfl ?_
          refine xbz (ms rfl rfl (dtt cc13)) (fun h_ H_=>xaz xhv rfl (a':=⟨b1,2,none⟩) rfl) rfl ?_
          refine xbz (ms rfl rfl (dtt cc13)) (fun h_ H_=>xaj H_ tA23 rfl (i:=1) rfl (v:=.slice a3 n3 c3) rfl) (tm':=zq1 (zq32 (zq32 []))) rfl ?_
          refine xbz (ms rfl rfl (dtt cc13)) (fun h_ H_=>xaq (v:=.int .i64 (((r:Nat):Int))) rfl) rfl ?_
          refine xbz (ms rfl rfl (dtt cc13)) (fun h_ H_=>xkw rfl rfl (wr (by omega))) (tm':=zq1 (zq32 (zq32 []))) rfl ?_
          refine xbz (ms rfl rfl (dtt cc13)) (fun h_ H_=>xlx Tryd.underlying23 tS43 (xkq a3 n3 c3 (T.y.ne (by omega))) rfl (by omega) (by omega) (a':=(adr a3).add ((((((r:Nat):Int)-1)).toNat)*2)) rfl) rfl ?_
          refine xbz (ms rfl rfl (dtt cc13)) (fun h_ H_=>xhx H_ tA43 tS43 rfl (vs:=[.int .i64 ((t.wy.getD (((((r:Nat):Int)-1)).toNat) wz).1),.int .i64 ((t.wy.getD (((((r:Nat):Int)-1)).toNat) wz).2)]) rfl (T.y.all (by omega))) (tm':=zq1 (zq32 (zq32 []))) rfl ?_
          refine xbz (ms rfl rfl (dtt cc13)) (fun h_ H_=>xav H_ tA43 tS43 rfl (i:=0) rfl (vs:=[.int .i64 ((t.wy.getD r wz).1),.int .i64 ((t.wy.getD r wz).2)]) rfl rfl) rfl ?_
          refine xiz rfl ?_
          refine xcx (ms rfl rfl (dtt cc13)) (first:=[]) (cap:=[]) rfl rfl fC87 (fun h_ H_=>c87 md _ ((t.wy.getD (((((r:Nat):Int)-1)).toNat) wz).1) ((t.wy.getD (((((r:Nat):Int)-1)).toNat) wz).2) ((t.wy.getD r wz).1) ((t.wy.getD r wz).2)) rfl ?_
          refine xaw (ms rfl rfl (dtt cc13)) (fun h_ H_=>xuj rfl rfl) (tm':=zq1 (zq32 (zq32 []))) rfl ?_
          refine xaw (ms rfl rfl (xev (dtt cc12))) (fun h_ H_=>xbj rfl (dtt cc13) (v:=.bool (decide (0≤ordW ((t.wy.getD (((((r:Nat):Int)-1)).toNat) wz).1) ((t.wy.getD (((((r:Nat):Int)-1)).toNat) wz).2) ((t.wy.getD r wz).1) ((t.wy.getD r wz).2)))) rfl) rfl ?_
          refine ro (xcq rfl (xev (dtt cc12)) (v:=.bool (decide (0≤ordW ((t.wy.getD (((((r:Nat):Int)-1)).toNat) wz).1) ((t.wy.getD (((((r:Nat):Int)-1)).toNat) wz).2) ((t.wy.getD r wz).1) ((t.wy.getD r wz).2)))) rfl) <| xak ?_
          by_cases cc14:0≤ordW ((t.wy.getD (((((r:Nat):Int)-1)).toNat) wz).1) ((t.wy.getD (((((r:Nat):Int)-1)).toNat) wz).2) ((t.wy.getD r wz).1) ((t.wy.getD r wz).2)
          ·
           refine xdk rfl (dtt cc14) <| fsr <| rt (xax (v:=.int .i64 30) rfl) (tm':=_::_::_::_) rfl <| xak ?_
           refine xew Tryd.func47 rfl (vs:=[.int .i64 30]) (fun h_ H_=>⟨.int .i64 30,_,rfl,rfl,rfl⟩) (v:=.int .i64 30) rfl ?_
           exact fun h_ H_=>K _ _ ⟨by first | (rw [xpq (by omega) ⟨by omega,by omega,xnw ‹_›,xnw ‹_›,fun i hi=>h3 i (by omega)⟩]) | (rw [xsq (fun z=>by have z1:=z.2.nh;have z2:=z.2.nw;first | omega | exact xqv ‹_› (fun i hi=>z.2.h i hi) | exact xqv ‹_› (fun i hi=>z.2.w i hi) | (rcases z.2.y r (by omega) with ⟨z3,z4,z5⟩;first | omega | exact absurd (z5 (by omega)) (xtv.1 (by omega))))]),H_.kept⟩
          ·
           refine xcv rfl (dff cc14) <| xdq <| xeq <| xbq ?_
           refine ro (xfx rfl rfl (n:=((r+1:Nat):Int)) (wr (by omega))) ?_
           refine ro (xaq (v:=.int .i64 (((r+1:Nat):Int))) rfl) <| xak ?_
           exact fun h_ H_=>IH8 _ _ (by omega) h_ ⟨r+1,rfl,(y_of rfl),(by omega),(xqw h3 ⟨by omega,by omega,fun _=>Classical.not_not.1 fun z_=>absurd (xtv.2 z_) (by omega)⟩),H_.drop⟩
         ·
          refine xfw 23 [[],[],[1],[0,1,2],[0,1,2],[0,1,2,3,4],[],[0,1,2,3,4],[0,1,2,3,4,7],[0,1,2,3,4,6,7,8],[0,1,2,3,4,6,7,8],[0,1,2,3,4,5,6,7,8,10],[0,1,2,3,4,5,6,7,8,9,10,11],[0,1,2,3,4,5,6,7,8,9,10,11],[0,1,2,3,4,5,6,7,8,9,10,11,13],[0,1,2,3,4,5,6,7,8,9,10,11,12,13,14],[],[16],[],[18],[16,17,18,19],[16,17,18,19,20],[0,1,2,3,4,5,6,7,8,9,10,11,12,13,14],[0,1,2,3,4,5,6,7,8,9,10,11,12,13,14,16,17,18,19,20,21,22],[0,1,2,3,4,5,6,7,8,9,10,11,13,14,16,17,18,19,20,21,22,23],[0,1,2,3,4,5,6,7,8,9,10,11,13,14,15,16,17,18,19,20,21,22,23,24],[]] xlq (by kernel_rfl) (Nat.le_of_ble_eq_true rfl) ?_
          refine wd (fun h_ H_=>xav H_ tA25 tS25 rfl (i:=1) rfl (vs:=[.slice a1 n1 c1,.slice a2 n2 c2,.slice a3 n3 c3]) rfl rfl) <| wt (xaz xoj rfl (a':=⟨b10,0,none⟩) rfl) (tm':=zq1 (zq2 (zq4 (zq32 _)))) rfl <| wd (fun h_ H_=>xaj H_ tA3 rfl (i:=0) rfl (v:=.int .i64 ((t.wy.getD r wz).1)) rfl) ?_
          refine xik mn (first:=[]) (cap:=[]) rfl rfl fC65 (fun h_ H_=>(c65 md _ _ H_.pe _ _ _ _ _ _ _ _ _ t (show TownP _ _ _ _ _ _ _ t from ⟨T.h,T.w,T.y⟩) (by omega) ((t.wy.getD r wz).1)).mono fun v_ h2_ ⟨e_,k_⟩=>⟨e_,H_.call k_⟩) (tm':=zq1 (zq8 (zq32 _))) rfl ?_
          refine wo (xgz rfl) <| wt (xaq (v:=.bool (!(decide (0≤(t.wy.getD r wz).1∧(t.wy.getD r wz).1≤(t.nH:Int)-1)))) rfl) (tm':=zq1 (zq2 (zq8 (zq32 _)))) rfl ?_
          refine xbz (ms rfl rfl (xev (dtt cc11))) (fun h_ H_=>xav H_ tA25 tS25 rfl (i:=1) rfl (vs:=[.slice a1 n1 c1,.slice a2 n2 c2,.slice a3 n3 c3]) rfl rfl) rfl ?_
          refine xbz (ms rfl rfl (xev (dtt cc11))) (fun h_ H_=>xaz xpk rfl (a':=⟨b10,1,none⟩) rfl) (tm':=zq1 (zq32 (zq32 []))) rfl ?_
          refine xbz (ms rfl rfl (xev (dtt cc11))) (fun h_ H_=>xaj H_ tA3 rfl (i:=0) rfl (v:=.int .i64 ((t.wy.getD r wz).2)) rfl) rfl ?_
          refine xik (ms rfl rfl (xev (dtt cc11))) (first:=[]) (cap:=[]) rfl rfl fC70 (fun h_ H_=>(c70 md _ _ H_.pe _ _ _ _ _ _ _ _ _ t (show TownP _ _ _ _ _ _ _ t from ⟨T.h,T.w,T.y⟩) (by omega) ((t.wy.getD r wz).2)).mono fun v_ h2_ ⟨e_,k_⟩=>⟨e_,H_.call k_⟩) (tm':=zq1 (zq32 (zq32 []))) rfl ?_
          refine xbz (ms rfl rfl (xev (dtt cc11))) (fun h_ H_=>xgz rfl) rfl ?_
          refine wt (xcq rfl (xev (dtt cc11)) (v:=.bool (!(decide (0≤(t.wy.getD r wz).2∧(t.wy.getD r wz).2≤(t.nW:Int)-1)))) rfl) (tm':=zq1 (zq32 (zq32 []))) rfl <| wo (xaq (v:=.bool (!(decide (0≤(t.wy.getD r wz).2∧(t.wy.getD r wz).2≤(t.nW:Int)-1)))) rfl) ?_
          refine xbz (ms rfl rfl (xev (dtt cc12))) (fun h_ H_=>xaq (v:=.int .i64 (((r:Nat):Int))) rfl) (tm':=zq1 (zq32 (zq32 []))) rfl ?_
          refine xbz (ms rfl rfl (xev (dtt cc12))) (fun h_ H_=>xix rfl rfl) rfl ?_
          refine xbz (ms rfl rfl (xev (dtt cc12))) (fun h_ H_=>xaq (v:=.bool (decide (0<((r:Nat):Int)))) rfl) (tm':=zq1 (zq32 (zq32 []))) rfl ?_
          refine wp (mo rfl rfl (dff cc13)) <| xdv (mo rfl rfl (dff cc13)) (tm':=zq1 (zq32 (zq32 []))) rfl <| wp (mo rfl rfl (dff cc13)) <| xdv (mo rfl rfl (dff cc13)) (tm':=zq1 (zq32 (zq32 []))) rfl <| wp (mo rfl rfl (dff cc13)) <| xdv (mo rfl rfl (dff cc13)) (tm':=zq1 (zq32 (zq32 []))) rfl ?_
          refine wp (mo rfl rfl (dff cc13)) ?_
          refine xiz rfl ?_
          refine rp (mo rfl rfl (dff cc13)) <| xfq (mo rfl rfl (dff cc13)) (tm':=zq1 (zq32 (zq32 []))) rfl ?_
          refine xaw (ms rfl rfl (xev (dtt cc12))) (fun h_ H_=>xcq rfl (dff cc13) (v:=.bool (false)) rfl) rfl ?_
          refine ro (xcq rfl (xev (dtt cc12)) (v:=.bool (false)) rfl) <| xak <| xcv rfl rfl <| xdq <| xeq <| xbq ?_
          refine rt (xfx rfl rfl (n:=((r+1:Nat):Int)) (wr (by omega))) (tm':=zq1 (zq32 (zq32 []))) rfl ?_
          refine ro (xaq (v:=.int .i64 (((r+1:Nat):Int))) rfl) <| xak ?_
          exact fun h_ H_=>IH8 _ _ (by omega) h_ ⟨r+1,rfl,(y_of rfl),(by omega),(xqw h3 ⟨by omega,by omega,fun _=>Classical.not_not.1 fun z_=>absurd (xtv.2 z_) (by omega)⟩),H_.drop⟩
        ·
         refine xfw 23 [[],[],[1],[0,1,2],[0,1,2],[0,1,2,3,4],[],[0,1,2,3,4],[0,1,2,3,4,7],[0,1,2,3,4,6,7,8],[0,1,2,3,4,6,7,8],[0,1,2,3,4,5,6,7,8,10],[0,1,2,3,4,5,6,7,8,9,10,11],[0,1,2,3,4,5,6,7,8,9,10,11],[0,1,2,3,4,5,6,7,8,9,10,11,13],[0,1,2,3,4,5,6,7,8,9,10,11,12,13,14],[],[16],[],[18],[16,17,18,19],[16,17,18,19,20],[0,1,2,3,4,5,6,7,8,9,10,11,12,13,14],[0,1,2,3,4,5,6,7,8,9,10,11,12,13,14,16,17,18,19,20,21,22],[0,1,2,3,4,5,6,7,8,9,10,11,13,14,16,17,18,19,20,21,22,23],[0,1,2,3,4,5,6,7,8,9,10,11,13,14,15,16,17,18,19,20,21,22,23,24],[]] xlq (by kernel_rfl) (Nat.le_of_ble_eq_true rfl) ?_
         refine xbz mn (fun h_ H_=>xav H_ tA25 tS25 rfl (i:=1) rfl (vs:=[.slice a1 n1 c1,.slice a2 n2 c2,.slice a3 n3 c3]) rfl rfl) (tm':=zq2 (zq4 (zq32 _))) rfl ?_
         refine wo (xaz xoj rfl (a':=⟨b10,0,none⟩) rfl) ?_
         refine xbz mn (fun h_ H_=>xaj H_ tA3 rfl (i:=0) rfl (v:=.int .i64 ((t.wy.getD r wz).1)) rfl) (tm':=zq8 (zq32 _)) rfl ?_
         refine xik mn (first:=[]) (cap:=[]) rfl rfl fC65 (fun h_ H_=>(c65 md _ _ H_.pe _ _ _ _ _ _ _ _ _ t (show TownP _ _ _ _ _ _ _ t from ⟨T.h,T.w,T.y⟩) (by omega) ((t.wy.getD r wz).1)).mono fun v_ h2_ ⟨e_,k_⟩=>⟨e_,H_.call k_⟩) rfl ?_
         refine wt (xgz rfl) (tm':=zq2 (zq8 (zq32 _))) rfl <| wo (xaq (v:=.bool (!(decide (0≤(t.wy.getD r wz).1∧(t.wy.getD r wz).1≤(t.nH:Int)-1)))) rfl) ?_
         refine xbz (ms rfl rfl (xev (dtt cc11))) (fun h_ H_=>xav H_ tA25 tS25 rfl (i:=1) rfl (vs:=[.slice a1 n1 c1,.slice a2 n2 c2,.slice a3 n3 c3]) rfl rfl) (tm':=zq1 (zq32 (zq32 []))) rfl ?_
         refine xbz (ms rfl rfl (xev (dtt cc11))) (fun h_ H_=>xaz xpk rfl (a':=⟨b10,1,none⟩) rfl) rfl ?_
         refine xbz (ms rfl rfl (xev (dtt cc11))) (fun h_ H_=>xaj H_ tA3 rfl (i:=0) rfl (v:=.int .i64 ((t.wy.getD r wz).2)) rfl) (tm':=zq1 (zq32 (zq32 []))) rfl ?_
         refine xik (ms rfl rfl (xev (dtt cc11))) (first:=[]) (cap:=[]) rfl rfl fC70 (fun h_ H_=>(c70 md _ _ H_.pe _ _ _ _ _ _ _ _ _ t (show TownP _ _ _ _ _ _ _ t from ⟨T.h,T.w,T.y⟩) (by omega) ((t.wy.getD r wz).2)).mono fun v_ h2_ ⟨e_,k_⟩=>⟨e_,H_.call k_⟩) rfl ?_
         refine xbz (ms rfl rfl (xev (dtt cc11))) (fun h_ H_=>xgz rfl) (tm':=zq1 (zq32 (zq32 []))) rfl ?_
         refine wo (xcq rfl (xev (dtt cc11)) (v:=.bool (!(decide (0≤(t.wy.getD r wz).2∧(t.wy.getD r wz).2≤(t.nW:Int)-1)))) rfl) <| wt (xaq (v:=.bool (!(decide (0≤(t.wy.getD r wz).2∧(t.wy.getD r wz).2≤(t.nW:Int)-1)))) rfl) (tm':=zq1 (zq32 (zq32 []))) rfl <| wp (mo rfl rfl (xgv (dff cc12))) <| xdv (mo rfl rfl (xgv (dff cc12))) (tm':=zq1 (zq32 (zq32 []))) rfl <| wp (mo rfl rfl (xgv (dff cc12))) <| xdv (xex rfl rfl) (tm':=zq1 (zq32 (zq32 []))) rfl ?_
         refine wp (xex rfl rfl) <| xdv (xex rfl rfl) (tm':=zq1 (zq32 (zq32 []))) rfl <| wp (xex rfl rfl) <| xdv (xex rfl rfl) (tm':=zq1 (zq32 (zq32 []))) rfl <| wp (xex rfl rfl) <| xdv (xex rfl rfl) (tm':=zq1 (zq32 (zq32 []))) rfl ?_
         refine xiz rfl ?_
         refine rp (xex rfl rfl) <| rp (xex rfl rfl) <| xfq (mo rfl rfl (xgv (dff cc12))) (tm':=zq1 (zq32 (zq32 []))) rfl <| ro (xbj rfl (xgv (dff cc12)) (v:=.bool (true)) rfl) <| xak <| xdk rfl rfl ?_
         refine fsr <| ro (xax (v:=.int .i64 30) rfl) <| xak ?_
         refine xew Tryd.func47 rfl (vs:=[.int .i64 30]) (fun h_ H_=>⟨.int .i64 30,_,rfl,rfl,rfl⟩) (v:=.int .i64 30) rfl ?_
         exact fun h_ H_=>K _ _ ⟨by first | (rw [xpq (by omega) ⟨by omega,by omega,xnw ‹_›,xnw ‹_›,fun i hi=>h3 i (by omega)⟩]) | (rw [xsq (fun z=>by have z1:=z.2.nh;have z2:=z.2.nw;first | omega | exact xqv ‹_› (fun i hi=>z.2.h i hi) | exact xqv ‹_› (fun i hi=>z.2.w i hi) | (rcases z.2.y r (by omega) with ⟨z3,z4,z5⟩;first | omega | exact absurd (z5 (by omega)) (xtv.1 (by omega))))]),H_.kept⟩
       ·
        refine xfw 23 [[],[],[1],[0,1,2],[0,1,2],[0,1,2,3,4],[],[0,1,2,3,4],[0,1,2,3,4,7],[0,1,2,3,4,6,7,8],[0,1,2,3,4,6,7,8],[0,1,2,3,4,5,6,7,8,10],[0,1,2,3,4,5,6,7,8,9,10,11],[0,1,2,3,4,5,6,7,8,9,10,11],[0,1,2,3,4,5,6,7,8,9,10,11,13],[0,1,2,3,4,5,6,7,8,9,10,11,12,13,14],[],[16],[],[18],[16,17,18,19],[16,17,18,19,20],[0,1,2,3,4,5,6,7,8,9,10,11,12,13,14],[0,1,2,3,4,5,6,7,8,9,10,11,12,13,14,16,17,18,19,20,21,22],[0,1,2,3,4,5,6,7,8,9,10,11,13,14,16,17,18,19,20,21,22,23],[0,1,2,3,4,5,6,7,8,9,10,11,13,14,15,16,17,18,19,20,21,22,23,24],[]] xlq (by kernel_rfl) (Nat.le_of_ble_eq_true rfl) ?_
        refine xbz mn (fun h_ H_=>xav H_ tA25 tS25 rfl (i:=1) rfl (vs:=[.slice a1 n1 c1,.slice a2 n2 c2,.slice a3 n3 c3]) rfl rfl) (tm':=zq2 (zq4 (zq32 _))) rfl ?_
        refine wo (xaz xoj rfl (a':=⟨b10,0,none⟩) rfl) ?_
        refine xbz mn (fun h_ H_=>xaj H_ tA3 rfl (i:=0) rfl (v:=.int .i64 ((t.wy.getD r wz).1)) rfl) (tm':=zq8 (zq32 _)) rfl ?_
        refine xik mn (first:=[]) (cap:=[]) rfl rfl fC65 (fun h_ H_=>(c65 md _ _ H_.pe _ _ _ _ _ _ _ _ _ t (show TownP _ _ _ _ _ _ _ t from ⟨T.h,T.w,T.y⟩) (by omega) ((t.wy.getD r wz).1)).mono fun v_ h2_ ⟨e_,k_⟩=>⟨e_,H_.call k_⟩) rfl ?_
        refine wt (xgz rfl) (tm':=zq2 (zq8 (zq32 _))) rfl <| wo (xaq (v:=.bool (!(decide (0≤(t.wy.getD r wz).1∧(t.wy.getD r wz).1≤(t.nH:Int)-1)))) rfl) <| xdv (mo rfl rfl (xgv (dff cc11))) (tm':=zq1 (zq32 (zq32 []))) rfl <| wp (mo rfl rfl (xgv (dff cc11))) <| xdv (mo rfl rfl (xgv (dff cc11))) (tm':=zq1 (zq32 (zq32 []))) rfl <| wp (mo rfl rfl (xgv (dff cc11))) ?_
        refine xdv (mo rfl rfl (xgv (dff cc11))) (tm':=zq1 (zq32 (zq32 []))) rfl <| wo (xbj rfl (xgv (dff cc11)) (v:=.bool (true)) rfl) <| wt (xaq (v:=.bool (true)) rfl) (tm':=zq1 (zq32 (zq32 []))) rfl <| wp (mo rfl rfl rfl) <| xdv (mo rfl rfl rfl) (tm':=zq1 (zq32 (zq32 []))) rfl <| wp (mo rfl rfl rfl) ?_
        refine xdv (xex rfl rfl) (tm':=zq1 (zq32 (zq32 []))) rfl <| wp (xex rfl rfl) <| xdv (xex rfl rfl) (tm':=zq1 (zq32 (zq32 []))) rfl <| wp (xex rfl rfl) <| xdv (xex rfl rfl) (tm':=zq1 (zq32 (zq32 []))) rfl <| wp (xex rfl rfl) ?_
        refine xdv (xex rfl rfl) (tm':=zq1 (zq32 (zq32 []))) rfl ?_
        refine xiz rfl ?_
        refine rp (xex rfl rfl) <| xfq (xex rfl rfl) (tm':=zq1 (zq32 (zq32 []))) rfl <| rp (mo rfl rfl rfl) <| ro (xbj rfl rfl (v:=.bool (true)) rfl) <| xak <| xdk rfl rfl ?_
        refine fsr <| rt (xax (v:=.int .i64 30) rfl) (tm':=_::_::_::_) rfl <| xak ?_
        refine xew Tryd.func47 rfl (vs:=[.int .i64 30]) (fun h_ H_=>⟨.int .i64 30,_,rfl,rfl,rfl⟩) (v:=.int .i64 30) rfl ?_
        exact fun h_ H_=>K _ _ ⟨by first | (rw [xpq (by omega) ⟨by omega,by omega,xnw ‹_›,xnw ‹_›,fun i hi=>h3 i (by omega)⟩]) | (rw [xsq (fun z=>by have z1:=z.2.nh;have z2:=z.2.nw;first | omega | exact xqv ‹_› (fun i hi=>z.2.h i hi) | exact xqv ‹_› (fun i hi=>z.2.w i hi) | (rcases z.2.y r (by omega) with ⟨z3,z4,z5⟩;first | omega | exact absurd (z5 (by omega)) (xtv.1 (by omega))))]),H_.kept⟩
      ·
       refine xcv rfl (dff cc9) <| xiq rfl <| fsr <| ro (xax (v:=.int .i64 0) rfl) <| xak ?_
       refine xew Tryd.func47 rfl (vs:=[.int .i64 0]) (fun h_ H_=>⟨.int .i64 0,_,rfl,rfl,rfl⟩) (v:=.int .i64 0) rfl ?_
       exact fun h_ H_=>K _ _ ⟨by first | (rw [xpq (by omega) ⟨by omega,by omega,xnw ‹_›,xnw ‹_›,fun i hi=>h3 i (by omega)⟩]) | (rw [xsq (fun z=>by have z1:=z.2.nh;have z2:=z.2.nw;first | omega | exact xqv ‹_› (fun i hi=>z.2.h i hi) | exact xqv ‹_› (fun i hi=>z.2.w i hi) | (rcases z.2.y r (by omega) with ⟨z3,z4,z5⟩;first | omega | exact absurd (z5 (by omega)) (xtv.1 (by omega))))]),H_.kept⟩
theorem c64 (md:Md) (h:Heap) (p:PHeap) (hp:Per p h) (a1:Option Addr) (n1 c1:Nat) (a2:Option Addr) (n2 c2:Nat) (a3:Option Addr) (n3 c3:Nat) (t:Tn) (T:TownP p a1 n1 a2 n2 a3 n3 t) (hn:n1≤40∧n2≤40∧n3≤41) (b:Bool):CallsX Tryd.prog md 64 #[.agg #[.slice a1 n1 c1,.slice a2 n2 c2,.slice a3 n3 c3],.bool (b)] h fun v h'=>v= .int .i64 (askB t b)∧Keep h h':=by
 refine xcw (Φ:=fun h_=>St h [] p h_ []) Tryd.func64 rfl (tm:=zq1 (zq4 (zq8 []))) rfl ?_ (St.start h _ hp)
 intro c₀ cs Stop K
 have eH:=T.nH
 have eW:=T.nW
 have eM:=T.m
 refine fsr ?_
 refine xiw mn (v:=.agg #[.slice a1 n1 c1,.slice a2 n2 c2,.slice a3 n3 c3]) rfl fun b1=>xcj (L':=[(b1,.cells #[.slice a1 n1 c1,.slice a2 n2 c2,.slice a3 n3 c3] 25 (0,0))]) rfl ?_
 refine xgx (tm':=_::_::_::_) rfl ?_
 refine ro (xax (v:=.int .i64 0) rfl) <| ren <| fsr <| rd (fun h_ H_=>xav H_ tA25 tS25 rfl (i:=0) rfl (vs:=[.slice a1 n1 c1,.slice a2 n2 c2,.slice a3 n3 c3]) rfl rfl) ?_
 refine xcx mn (first:=[]) (cap:=[]) rfl rfl fC47 (fun h_ H_=>c47 md _ _ H_.pe _ _ _ _ _ _ _ _ _ t (show TownP _ _ _ _ _ _ _ t from ⟨T.h,T.w,T.y⟩) (by omega)) (tm':=zq8 _) rfl ?_
 refine ro (xax (v:=.int .i64 (chkB t)) rfl) <| ren <| xbq <| ro (xaq (v:=.int .i64 (chkB t)) rfl) <| rt (xhw rfl rfl) (tm':=zq1 (zq4 (zq8 []))) rfl <| xak ?_
 by_cases cc2:chkB t≠0
 ·
  refine xdk rfl (dtt cc2) <| fsr <| ro (xaq (v:=.int .i64 (chkB t)) rfl) <| ro (xax (v:=.int .i64 (chkB t)) rfl) <| xak ?_
  refine xew Tryd.func64 rfl (vs:=[.int .i64 (chkB t)]) (fun h_ H_=>⟨.int .i64 (chkB t),_,rfl,rfl,rfl⟩) (v:=.int .i64 (chkB t)) rfl ?_
  exact fun h_ H_=>K _ _ ⟨by rw [zuz];first | (rw [if_neg ‹_›]) | (rw [if_pos (by omega)];simp [*]),H_.kept⟩
 ·
  refine xcv rfl (dff cc2) <| xdq <| xej <| fsr <| rt (xaq (v:=.bool (b)) rfl) (tm':=zq1 (zq4 (zq8 []))) rfl <| ro (xgz rfl) ?_
  refine xak ?_
  rcases xwx (b) with cc3 | cc3
  ·
   refine xcv rfl (xev cc3) <| xdq <| fsr <| ro (xax (v:=.int .i64 0) rfl) <| xak ?_
   refine xew Tryd.func64 rfl (vs:=[.int .i64 0]) (fun h_ H_=>⟨.int .i64 0,_,rfl,rfl,rfl⟩) (v:=.int .i64 0) rfl ?_
   exact fun h_ H_=>K _ _ ⟨by rw [zuz];first | (rw [if_neg ‹_›]) | (rw [if_pos (by omega)];simp [*]),H_.kept⟩
  ·
   refine xdk rfl (xgv cc3) <| fsr <| rt (xax (v:=.int .i64 1) rfl) (tm':=zq1 (zq4 _)) rfl <| xak ?_
   refine xew Tryd.func64 rfl (vs:=[.int .i64 1]) (fun h_ H_=>⟨.int .i64 1,_,rfl,rfl,rfl⟩) (v:=.int .i64 1) rfl ?_
   exact fun h_ H_=>K _ _ ⟨by rw [zuz];first | (rw [if_neg ‹_›]) | (rw [if_pos (by omega)];simp [*]),H_.kept⟩
theorem c60 (md:Md) (h:Heap) (p:PHeap) (hp:Per p h) (a1:Option Addr) (n1 c1:Nat) (a2:Option Addr) (n2 c2:Nat) (a3:Option Addr) (n3 c3:Nat) (t:Tn) (T:TownP p a1 n1 a2 n2 a3 n3 t) (hn:n1≤40∧n2≤40∧n3≤41) (x y:Int):CallsX Tryd.prog md 60 #[.agg #[.slice a1 n1 c1,.slice a2 n2 c2,.slice a3 n3 c3],.agg #[.int .i64 (x),.int .i64 (y)]] h fun v h'=>v= .bool (decide (((x,y):FWay)∈t.wy))∧Keep h h':=by
 refine xcw (Φ:=fun h_=>St h [] p h_ []) Tryd.func60 rfl (tm:=zq4 (zq16 [])) rfl ?_ (St.start h _ hp)
 intro c₀ cs Stop K
 have eH:=T.nH
 have eW:=T.nW
 have eM:=T.m
 refine fsr ?_
 refine xiw mn (v:=.agg #[.slice a1 n1 c1,.slice a2 n2 c2,.slice a3 n3 c3]) rfl fun b1=>xcj (L':=[(b1,.cells #[.slice a1 n1 c1,.slice a2 n2 c2,.slice a3 n3 c3] 25 (0,0))]) rfl ?_
 refine xiw mn (v:=.agg #[.int .i64 (x),.int .i64 (y)]) rfl fun b2=>xcj (L':=[(b2,.cells #[.int .i64 (x),.int .i64 (y)] 43 (0,0)),(b1,.cells #[.slice a1 n1 c1,.slice a2 n2 c2,.slice a3 n3 c3] 25 (0,0))]) rfl ?_
 refine rt (xax (v:=.bool (false)) rfl) (tm':=zq1 (zq4 _)) rfl <| ren <| fsr <| ro (xax (v:=.int .i64 0) rfl) <| xak <| xek ?_
 refine xiv (m₀:=n3-0) (fun m_ tm_ h_=>∃ (k:Nat),m_=n3-k∧(∃ y3:Nat→Value,tm_=[.agg #[.slice a1 n1 c1,.slice a2 n2 c2,.slice a3 n3 c3],.agg #[.int .i64 (x),.int .i64 (y)],.pointer (some ⟨b1,0,none⟩),.pointer (some ⟨b2,0,none⟩),(y3 4),.int .i64 (((k:Nat):Int)),(y3 6),(y3 7),(y3 8),(y3 9),(y3 10),(y3 11),(y3 12),(y3 13),(y3 14),(y3 15),(y3 16),(y3 17),(y3 18),(y3 19)])∧(k≤n3)∧(∀ i,i<k→ ¬ t.wy.getD i wz=(x,y))∧St h [] p h_ ([(b2,.cells #[.int .i64 (x),.int .i64 (y)] 43 (0,0)),(b1,.cells #[.slice a1 n1 c1,.slice a2 n2 c2,.slice a3 n3 c3] 25 (0,0))])) (fun h_ H_=>⟨0,rfl,(y_of rfl),Nat.zero_le _,(fun i hi=>absurd hi (Nat.not_lt_zero i)),H_⟩) ?_
 intro m_ tm_ IH4
 refine xij fun k=>xdz fun hm_=>xdz fun ht_=>xdz fun hkk=>xdz fun hs=>?_
 subst hm_;obtain ⟨y3,ht_⟩:=ht_;subst ht_
 refine xej <| fsr <| ro (xaq (v:=.int .i64 (((k:Nat):Int))) rfl) <| rt (xaz xhv rfl (a':=⟨b1,2,none⟩) rfl) (tm':=zq8 _) rfl <| rd (fun h_ H_=>xaj H_ tA23 rfl (i:=1) rfl (v:=.slice a3 n3 c3) rfl) <| ro (xfk Tryd.underlying23 rfl) ?_
 refine rt (xgw rfl rfl) (tm':=zq1 (zq2 (zq8 _))) rfl <| xak ?_
 by_cases cc5:((k:Nat):Int)<((n3:Nat):Int)
 ·
  refine xdk rfl (dtt cc5) <| xdq <| xej <| xek <| xej ?_
  refine xfw 6 [[],[0],[],[0,1,2],[0,1,2,3],[],[]] xlq (by kernel_rfl) (Nat.le_of_ble_eq_true rfl) ?_
  refine wt (xaz xhv rfl (a':=⟨b1,2,none⟩) rfl) (tm':=zq4 (zq16 [])) rfl <| wd (fun h_ H_=>xaj H_ tA23 rfl (i:=1) rfl (v:=.slice a3 n3 c3) rfl) <| wt (xaq (v:=.int .i64 (((k:Nat):Int))) rfl) (tm':=zq4 (zq16 [])) rfl ?_
  refine wo (xcz (i:=k) Tryd.underlying23 tS43 (xkq a3 n3 c3 (T.y.ne (by omega))) rfl (by omega)) ?_
  refine xbz mn (fun h_ H_=>xhx H_ tA43 tS43 rfl (vs:=[.int .i64 ((t.wy.getD k wz).1),.int .i64 ((t.wy.getD k wz).2)]) rfl (T.y.all (by omega))) (tm':=zq4 (zq16 [])) rfl ?_
  refine wd (fun h_ H_=>xav H_ tA43 tS43 rfl (i:=0) rfl (vs:=[.int .i64 (x),.int .i64 (y)]) rfl rfl) ?_
  refine xiz rfl ?_
  refine ro (yyq gT43 (vew 9998 _ _ _ _) rfl rfl) <| xak ?_
  by_cases cc6:(t.wy.getD k wz).1=x∧(t.wy.getD k wz).2=y
  ·
   refine xdk rfl (dtt cc6) <| fsr <| ro (xax (v:=.bool (true)) rfl) <| xak ?_
   refine xew Tryd.func60 rfl (vs:=[.bool (true)]) (fun h_ H_=>⟨.bool (true),_,rfl,rfl,rfl⟩) (v:=.bool (true)) rfl ?_
   exact fun h_ H_=>K _ _ ⟨by first | (rw [decide_eq_true (whz (k:=k) (by have z_:=T.y.len;omega) (zsx.1 ‹_›))]) | (rw [decide_eq_false (whx (k:=k) (by have z_:=T.y.len;omega) hs)]),H_.kept⟩
  ·
   refine xcv rfl (dff cc6) <| xdq <| xeq <| xbq <| rt (xaq (v:=.int .i64 (((k:Nat):Int))) rfl) (tm':=zq4 (zq8 _)) rfl ?_
   refine ro (xfx rfl rfl (n:=((k+1:Nat):Int)) (wr (by omega))) ?_
   refine ro (xax (v:=.int .i64 (((k+1:Nat):Int))) rfl) <| xak ?_
   exact fun h_ H_=>IH4 _ _ (by omega) h_ ⟨k+1,rfl,(y_of rfl),(by omega),(xqw hs (fun e_=>absurd (zsx.2 e_) ‹_›)),H_⟩
 ·
  refine xcv rfl (dff cc5) <| xiq rfl <| fsr <| rt (xax (v:=.bool (false)) rfl) (tm':=zq1 (zq4 _)) rfl <| xak ?_
  refine xew Tryd.func60 rfl (vs:=[.bool (false)]) (fun h_ H_=>⟨.bool (false),_,rfl,rfl,rfl⟩) (v:=.bool (false)) rfl ?_
  exact fun h_ H_=>K _ _ ⟨by first | (rw [decide_eq_true (whz (k:=k) (by have z_:=T.y.len;omega) (zsx.1 ‹_›))]) | (rw [decide_eq_false (whx (k:=k) (by have z_:=T.y.len;omega) hs)]),H_.kept⟩
end Go.Proofs.YtalfgojocdonhaaDoor
namespace Go.Proofs.YtalfgojocdonhaaDoor
open Go.X Go.X.Flow Go.Conc
set_option maxRecDepth 10000
set_option synthInstance.maxSize 2000

set_option maxHeartbeats 1000000
theorem c93 (md:Md) (h:Heap) (p:PHeap) (hp:Per p h) (a:Option Addr) (n c:Nat) (xs:List Int) (A:Ints p a n xs) (hn:n≤100):CallsX Tryd.prog md 93 #[.slice a n c] h fun v h'=>∃ w X,v=w∧OwnS 3 1 w (ics xs) X∧New h h' X:=by
 refine xcw (Φ:=fun h_=>St h [] p h_ []) Tryd.func93 rfl (tm:=zq8 []) rfl ?_ (St.start h _ hp)
 intro c₀ cs Stop K
 refine fsr <| ro (xax (v:=.slice none 0 0) rfl) <| ren <| fsr <| ro (xaq (v:=.slice a n c) rfl) <| rt (yxw Tryd.underlying22 rfl) (tm':=zq1 (zq4 _)) rfl ?_
 refine xak ?_
 rcases xwx (a.isNone) with cc1 | cc1
 ·
  refine xdk rfl cc1 <| fsr <| ro (xax (v:=.slice none 0 0) rfl) <| xak ?_
  refine xew Tryd.func93 rfl (vs:=[.slice none 0 0]) (fun h_ H_=>⟨.slice none 0 0,_,rfl,rfl,rfl⟩) (v:=.slice none 0 0) rfl ?_
  have e:=zmx A ‹_›
  subst e
  exact fun h_ H_=>K _ _ ⟨_,[],rfl,OwnS.empty _ _,H_.new⟩
 ·
  refine xcv rfl cc1 <| xdq <| fsr ?_
  refine xcj (L':=([]:Pcs)++[]) rfl ?_
  refine xmj ([]:Pcs) mn Tryd.underlying22 tS3 tZ3 (Nat.le_of_ble_eq_true rfl) (vs:=[]) rfl rfl (es:=[]) rfl rfl rfl fun v2 X3 o4=>?_
  refine rt (xaq (v:=.slice a n c) rfl) (tm':=zq8 []) rfl ?_
  refine yaz ([]:Pcs) X3 mn Tryd.underlying22 tS3 tZ3 rfl tB3 Tryd.underlying22 rfl rfl o4 A (xsv _) (by simp only [List.length_nil];omega) (by decide) (by decide) fun v5 X6 o7=>?_
  refine ro (xax (v:=v5) rfl) <| xak ?_
  refine xew Tryd.func93 rfl (vs:=[v5]) (fun h_ H_=>⟨v5,_,rfl,rfl,rfl⟩) (v:=v5) rfl ?_
  exact fun h_ H_=>K _ _ ⟨_,_,rfl,o7,by simpa using H_.dropA.new⟩
theorem c67 (md:Md) (h:Heap) (p:PHeap) (hp:Per p h) (a1:Option Addr) (n1 c1:Nat) (a2:Option Addr) (n2 c2:Nat) (a3:Option Addr) (n3 c3:Nat) (t:Tn) (T:TownP p a1 n1 a2 n2 a3 n3 t) (hn:n1≤40∧n2≤40∧n3≤41) (b:Option Addr) (m cb:Nat) (d:List Int) (D:Ints p b m d) (hm:m≤n3∧n3≤13) (hd: ∀ i,i<m→0≤dv d i∧dv d i≤20) (hh: ∀ i,i<n1→ -100≤t.hs.getD i 0∧t.hs.getD i 0≤100) (hw: ∀ i,i<n2→ -100≤t.ws.getD i 0∧t.ws.getD i 0≤100) (hy: ∀ i,i<n3→(0≤(t.wy.getD i wz).1∧(t.wy.getD i wz).1.toNat<n1)∧0≤(t.wy.getD i wz).2∧(t.wy.getD i wz).2.toNat<n2):CallsX Tryd.prog md 67 #[.agg #[.slice a1 n1 c1,.slice a2 n2 c2,.slice a3 n3 c3],.slice b m cb] h fun v h'=>∃ w1 w2 X1 X2,v= .tuple #[w1,w2]∧OwnS 3 1 w1 (ics (leftK t.hs t.wh d m)) X1∧OwnS 3 1 w2 (ics (leftK t.ws t.ww d m)) X2∧New h h' (X2++(X1++[])):=by
 refine xcw (Φ:=fun h_=>St h [] p h_ []) Tryd.func67 rfl (tm:=zq16 (zq32 [])) rfl ?_ (St.start h _ hp)
 intro c₀ cs Stop K
 have eH:=T.nH
 have eW:=T.nW
 have eM:=T.m
 refine fsr ?_
 refine xiw mn (v:=.agg #[.slice a1 n1 c1,.slice a2 n2 c2,.slice a3 n3 c3]) rfl fun b1=>xcj (L':=[(b1,.cells #[.slice a1 n1 c1,.slice a2 n2 c2,.slice a3 n3 c3] 25 (0,0))]) rfl ?_
 refine xgx (tm':=_::_::_::_) rfl ?_
 refine ro (xax (v:=.slice none 0 0) rfl) <| ro (xax (v:=.slice none 0 0) rfl) <| ren ?_
 obtain ⟨Gw7,GX8,hG2_⟩:=sk2 (fun (v_:Value) (x_:Pcs) (w7:Value) (X8:Pcs)=>v_=w7∧(OwnS 3 1 w7 (ics t.hs) X8)∧x_=(X8++[]))
 refine ybx (xnq (C:=[]) (A:=([(b1,.cells #[.slice a1 n1 c1,.slice a2 n2 c2,.slice a3 n3 c3] 25 (0,0))]:Pcs)) 5 [[],[0],[0,1],[],[3],[3,4],[],[]] [] [2] [0,1,3,4] (fun _=>[]) (fun _=>[]) (fun i_=>match i_ with | 0=>[] | 1=>[0] | 2=>[1] | 3=>[] | 4=>[3] | _=>[]) (fun i_ val_ pc_ v_ x_=>match i_ with | 0=>v_= .pointer (some ⟨b1,0,none⟩)∧x_=[] | 1=>v_= .slice a1 n1 c1∧x_=[] | 2=>∃ w7:Value,∃ X8:Pcs,v_=w7∧(OwnS 3 1 w7 (ics t.hs) X8)∧x_=(X8++[]) | 3=>v_= .pointer (some ⟨b1,1,none⟩)∧x_=[] | 4=>v_= .slice a2 n2 c2∧x_=[] | _=>True) (fun val5=>(.agg #[.slice a1 n1 c1,.slice a2 n2 c2,.slice a3 n3 c3]::.slice b m cb::.pointer (some ⟨b1,0,none⟩)::undef::.slice none 0 0::.slice none 0 0::undef::undef::(val5 0)::(val5 1)::(val5 2)::(val5 3)::(val5 4)::undef::undef::undef::zu16 (zu16 []))) xlq (by kernel_rfl) (Nat.le_of_ble_eq_true rfl) (by kernel_rfl) (by kernel_rfl) (by kernel_rfl) (fun _ _=>⟨fun _ _ h=>h.2,⟨fun _ _ h=>h.2,⟨fun _ _ h=>h.2,⟨fun _ _ h=>h.2,trivial⟩⟩⟩⟩) (fun _=>by kernel_rfl) (by kernel_rfl) ?_ ?_) (fun h_ H_=>St.swap (A:=([(b1,.cells #[.slice a1 n1 c1,.slice a2 n2 c2,.slice a3 n3 c3] 25 (0,0))]:Pcs)) (U:=[]) H_)
 ·
  refine xbx rfl (xez ?_) ?_
  ·
   intro val5 pc6 hQ_ hX_
   obtain ⟨q_,hq0_⟩: ∃ q_:Value→Pcs→Prop,q_=(fun v_ x_=>v_= .pointer (some ⟨b1,0,none⟩)∧x_=[]):=⟨_,rfl⟩
   refine ⟨(zq16 (zq32 [])),[],q_,rfl,rfl,(fun _ _ z_=>by subst hq0_;exact z_),?_⟩
   subst hq0_
   exact xdw mn (fun _ h_ H_=>xaz xmz rfl (a':=⟨b1,0,none⟩) rfl) ⟨rfl,rfl⟩
  refine xbx rfl (xez ?_) ?_
  ·
   intro val5 pc6 hQ_ hX_
   have e0_:val5 0= .pointer (some ⟨b1,0,none⟩):=(hQ_ 0 rfl).1
   obtain ⟨q_,hq0_⟩: ∃ q_:Value→Pcs→Prop,q_=(fun v_ x_=>v_= .slice a1 n1 c1∧x_=[]):=⟨_,rfl⟩
   refine ⟨(zq16 (zq32 [])),[],q_,(by rw [e0_]),rfl,(fun _ _ z_=>by subst hq0_;exact z_),?_⟩
   subst hq0_
   exact xdw mn (fun _ h_ H_=>xaj H_ tA22 rfl (i:=0) rfl (v:=.slice a1 n1 c1) rfl) ⟨rfl,rfl⟩
  refine xbx rfl (xez ?_) ?_
  ·
   intro val5 pc6 hQ_ hX_
   have e1_:val5 1= .slice a1 n1 c1:=(hQ_ 1 rfl).1
   obtain ⟨q_,hq0_⟩: ∃ q_:Value→Pcs→Prop,q_=(fun v_ x_=>∃ w7:Value,∃ X8:Pcs,v_=w7∧(OwnS 3 1 w7 (ics t.hs) X8)∧x_=(X8++[])):=⟨_,rfl⟩
   refine ⟨(zq16 (zq32 [])),[],q_,(by rw [e1_]),rfl,(fun _ _ z_=>by subst hq0_;exact z_),?_⟩
   subst hq0_
   exact xww mn (first:=[]) (cap:=[]) rfl rfl fC93 (fun _ h_ H_=>(c93 md _ _ H_.pe _ _ _ _ T.h (by omega)).mono fun v_ h2_ ⟨w7,X8,e_,o9,N_⟩=>⟨_,⟨w7,X8,e_,o9,rfl⟩,H_.callN (show New _ _ (X8++[]) by rw [List.append_nil];exact N_)⟩)
  refine xbx rfl (xez ?_) ?_
  ·
   intro val5 pc6 hQ_ hX_
   obtain ⟨q_,hq0_⟩: ∃ q_:Value→Pcs→Prop,q_=(fun v_ x_=>v_= .pointer (some ⟨b1,1,none⟩)∧x_=[]):=⟨_,rfl⟩
   refine ⟨(zq16 (zq32 [])),[],q_,rfl,rfl,(fun _ _ z_=>by subst hq0_;exact z_),?_⟩
   subst hq0_
   exact xdw mn (fun _ h_ H_=>xaz xnj rfl (a':=⟨b1,1,none⟩) rfl) ⟨rfl,rfl⟩
  refine xbx rfl (xez ?_) ?_
  ·
   intro val5 pc6 hQ_ hX_
   have e3_:val5 3= .pointer (some ⟨b1,1,none⟩):=(hQ_ 3 rfl).1
   obtain ⟨q_,hq0_⟩: ∃ q_:Value→Pcs→Prop,q_=(fun v_ x_=>v_= .slice a2 n2 c2∧x_=[]):=⟨_,rfl⟩
   refine ⟨(zq16 (zq32 [])),[],q_,(by rw [e3_]),rfl,(fun _ _ z_=>by subst hq0_;exact z_),?_⟩
   subst hq0_
   exact xdw mn (fun _ h_ H_=>xaj H_ tA22 rfl (i:=0) rfl (v:=.slice a2 n2 c2) rfl) ⟨rfl,rfl⟩
  exact xmw rfl
 intro val5 pc6 hQ_ hX_
 have e0_:val5 0= .pointer (some ⟨b1,0,none⟩):=(hQ_ 0 (by decide)).1
 have e1_:val5 1= .slice a1 n1 c1:=(hQ_ 1 (by decide)).1
 obtain ⟨e2_,o9,x2_⟩:=hG2_ _ _ (hQ_ 2 (by decide))
 have e3_:val5 3= .pointer (some ⟨b1,1,none⟩):=(hQ_ 3 (by decide)).1
 have e4_:val5 4= .slice a2 n2 c2:=(hQ_ 4 (by decide)).1
 clear hQ_ hX_
 generalize Gw7 (val5 2) (pc6 2)=w7 at*
 generalize GX8 (val5 2) (pc6 2)=X8 at*
 refine yax (Φ:=fun h_=>St h [] p h_ (([(b1,.cells #[.slice a1 n1 c1,.slice a2 n2 c2,.slice a3 n3 c3] 25 (0,0))]:Pcs)++(pc6 2++[]))) ?_ (fun h_ H_=>H_.swap')
 rw [x2_]
 refine xcj (L':=([(b1,.cells #[.slice a1 n1 c1,.slice a2 n2 c2,.slice a3 n3 c3] 25 (0,0))]:Pcs)++(X8++[])) (by simp) ?_
 refine xgx (tm':=(zq16 (zq32 []))) (by rw [e0_,e1_,e2_,e3_,e4_]) ?_
 refine xjq mn (first:=[]) (cap:=[]) rfl rfl fC93 (R:=fun v_ h_=>∃ w12:Value,∃ X13:Pcs,v_=w12∧(OwnS 3 1 w12 (ics t.ws) X13)∧St h [] p h_ (([(b1,.cells #[.slice a1 n1 c1,.slice a2 n2 c2,.slice a3 n3 c3] 25 (0,0))]:Pcs)++(X13++(X8++[])))) (fun h_ H_=>(c93 md _ _ H_.pe _ _ _ _ T.w (by omega)).mono fun v_ h2_ ⟨w12,X13,e_,o14,N_⟩=>⟨w12,X13,e_,o14,H_.callNA N_⟩) fun v_=>?_
 refine xfv fun w12=>xfv fun X13=>xfz fun ev_=>xfz fun o14=>?_
 have ev_:=ev_.symm;subst ev_
 refine xcj (L':=([(b1,.cells #[.slice a1 n1 c1,.slice a2 n2 c2,.slice a3 n3 c3] 25 (0,0))]:Pcs)++(X13++(X8++[]))) rfl ?_
 refine rt (xax (v:=w7) rfl) (tm':=zq1 (zq4 _)) rfl <| ro (xax (v:=w12) rfl) <| ren <| fsr <| ro (xaq (v:=.slice b m cb) rfl) <| rt (xfk Tryd.underlying22 rfl) (tm':=zq16 _) rfl ?_
 refine ro (xaq (v:=.int .i64 0) rfl) <| xak <| xek ?_
 refine xiv (m₀:=m-0) (fun m_ tm_ h_=>∃ (k:Nat) (X2:Pcs) (X1:Pcs),m_=m-k∧(∃ y15:Nat→Value,tm_=[.agg #[.slice a1 n1 c1,.slice a2 n2 c2,.slice a3 n3 c3],.slice b m cb,.pointer (some ⟨b1,0,none⟩),undef,w7,w12,(y15 6),(y15 7),.pointer (some ⟨b1,0,none⟩),.slice a1 n1 c1,w7,.pointer (some ⟨b1,1,none⟩),.slice a2 n2 c2,w12,.slice b m cb,.int .i64 (((m:Nat):Int)),.int .i64 (((k:Nat):Int)),(y15 17),(y15 18),(y15 19),(y15 20),(y15 21),(y15 22),(y15 23),(y15 24),(y15 25),(y15 26),(y15 27),(y15 28),(y15 29),(y15 30),(y15 31),(y15 32),(y15 33),(y15 34),(y15 35),(y15 36),(y15 37),(y15 38),(y15 39),(y15 40),(y15 41),(y15 42),(y15 43),(y15 44),(y15 45),undef,undef])∧(k≤m)∧(OwnS 3 1 w7 (ics (leftK t.hs t.wh d k)) X1)∧(OwnS 3 1 w12 (ics (leftK t.ws t.ww d k)) X2)∧St h [] p h_ (([(b1,.cells #[.slice a1 n1 c1,.slice a2 n2 c2,.slice a3 n3 c3] 25 (0,0))]:Pcs)++(X2++(X1++[])))) (fun h_ H_=>⟨0,X13,X8,rfl,(y_of rfl),Nat.zero_le _,(o9.as (by rw [zbq])),(o14.as (by rw [zbq])),H_⟩) ?_
 intro m_ tm_ IH16
 refine xij fun k=>xij fun X2=>xij fun X1=>xdz fun hm_=>xdz fun ht_=>xdz fun hk=>xdz fun o1=>xdz fun o2=>?_
 subst hm_;obtain ⟨y15,ht_⟩:=ht_;subst ht_
 have hL1:(leftK t.hs t.wh d k).length=n1:=leftK_length.trans eH
 have hL2:(leftK t.ws t.ww d k).length=n2:=leftK_length.trans eW
 have hlh:t.hs.length=n1:=eH
 have hlw:t.ws.length=n2:=eW
 have hyk:=fun z_:k<m=>hy k (by omega)
 have hdk:=fun z_:k<m=>hd k z_
 have bb1:=ywk (g:=t.wh) (h:=t.wh k) (k:=k) (d:=d) (fun i hi=>hd i (by omega))
 have bb2:=ywk (g:=t.ww) (h:=t.ww k) (k:=k) (d:=d) (fun i hi=>hd i (by omega))
 have e1_:=@wh_eq t k
 have e2_:=@ww_eq t k
 refine fsr <| ro (xgw rfl rfl) <| ren ?_
 by_cases cc17:((k:Nat):Int)<((m:Nat):Int)
 ·
  refine xdk rfl (dtt cc17) <| xdq <| xej <| xek <| fsr <| rt (xaq (v:=.int .i64 (((k:Nat):Int))) rfl) (tm':=zq1 (zq2 (zq16 _))) rfl ?_
  refine ro (xcz (i:=k) Tryd.underlying22 tS3 (xkq b m cb (D.ne (by omega))) rfl (by omega)) ?_
  refine rd (fun h_ H_=>xbv H_ tA3 rfl (v:=.int .i64 (d.getD k 0)) (D.get (by omega))) ?_
  refine rt (xax (v:=.int .i64 (((k:Nat):Int))) rfl) (tm':=zq1 (zq2 (zq4 _))) rfl <| ro (xax (v:=.int .i64 (d.getD k 0)) rfl) <| ren <| xbq <| ro (xaq (v:=w7) rfl) <| rt (xaz xhv rfl (a':=⟨b1,2,none⟩) rfl) (tm':=zq1 (zq2 (zq4 (zq16 _)))) rfl ?_
  refine rd (fun h_ H_=>xaj H_ tA23 rfl (i:=0) rfl (v:=.slice a3 n3 c3) rfl) <| ro (xaq (v:=.int .i64 (((k:Nat):Int))) rfl) ?_
  refine rt (xcz (i:=k) Tryd.underlying23 tS43 (xkq a3 n3 c3 (T.y.ne (by omega))) rfl (by omega)) (tm':=zq2 (zq8 (zq16 _))) rfl ?_
  refine ro (xaz xoj rfl (a':=(adr a3).add (k*2)) rfl) ?_
  refine rd (fun h_ H_=>xbv H_ tA3 rfl (v:=.int .i64 ((t.wy.getD k wz).1)) (T.y.ho (by omega))) ?_
  refine rt (xpz o1 Tryd.underlying22 tS3 rfl rfl (by omega) (by rw [(xck _)];omega)) (tm':=zq1 (zq4 (zq8 (zq16 _)))) rfl ?_
  refine rd (fun h_ H_=>xwq (i:=(((t.wy.getD k wz).1)).toNat) (j:=0) (e:=[.int .i64 ((leftK t.hs t.wh d k).getD ((((t.wy.getD k wz).1)).toNat) 0)]) o1 H_ (fun x_ h_=>by simp [h_]) tA3 rfl rfl (xpj (by first | omega | (rw [leftK_length];omega) | (simp only [List.length_set];omega))) (u:=.int .i64 ((leftK t.hs t.wh d k).getD ((((t.wy.getD k wz).1)).toNat) 0)) rfl) ?_
  refine ro (xaq (v:=.int .i64 (d.getD k 0)) rfl) ?_
  refine rt (xkw rfl rfl (wr (by have z1:=hyk (by omega);have z2:=hdk (by omega);have z3:=hh (t.wh k) (by omega);rw [wh_eq,xxq (by omega)];unfold dv at *;omega))) (tm':=zq32 _) rfl ?_
  refine ro (xpz o1 Tryd.underlying22 tS3 rfl rfl (by omega) (by rw [(xck _)];omega)) ?_
  refine xlw (List.Perm.append_left _ (List.perm_append_comm_assoc _ _ _)) ?_
  refine xcj (L':=([(b1,.cells #[.slice a1 n1 c1,.slice a2 n2 c2,.slice a3 n3 c3] 25 (0,0))]:Pcs)++(X1++(X2++[]))) rfl ?_
  refine xsz (A:=([(b1,.cells #[.slice a1 n1 c1,.slice a2 n2 c2,.slice a3 n3 c3] 25 (0,0))]:Pcs)) (i:=(((t.wy.getD k wz).1)).toNat) (j:=0) (e:=[.int .i64 ((leftK t.hs t.wh d k).getD ((((t.wy.getD k wz).1)).toNat) 0)]) (u:=.int .i64 (((leftK t.hs t.wh d k).getD ((((t.wy.getD k wz).1)).toNat) 0)-(d.getD k 0))) o1 mn tS3 rfl rfl rfl ⟨rfl,rfl⟩ (xpj (by first | omega | (rw [leftK_length];omega) | (simp only [List.length_set];omega))) (Nat.succ_le_iff.1 (Nat.le_of_ble_eq_true rfl)) fun X18 o19=>?_
  refine xak <| xbq <| ro (xaq (v:=w12) rfl) <| rt (xaz xhv rfl (a':=⟨b1,2,none⟩) rfl) (tm':=zq16 (zq32 [])) rfl <| rd (fun h_ H_=>xaj H_ tA23 rfl (i:=0) rfl (v:=.slice a3 n3 c3) rfl) <| ro (xaq (v:=.int .i64 (((k:Nat):Int))) rfl) ?_
  refine rt (xcz (i:=k) Tryd.underlying23 tS43 (xkq a3 n3 c3 (T.y.ne (by omega))) rfl (by omega)) (tm':=zq16 (zq32 [])) rfl ?_
  refine ro (xaz xpk rfl (a':=((adr a3).add (k*2)).add 1) rfl) ?_
  refine rd (fun h_ H_=>xbv H_ tA3 rfl (v:=.int .i64 ((t.wy.getD k wz).2)) (T.y.we (by omega))) ?_
  refine rt (xpz o2 Tryd.underlying22 tS3 rfl rfl (by omega) (by rw [(xck _)];omega)) (tm':=zq16 (zq32 [])) rfl ?_
  refine rd (fun h_ H_=>xwq (i:=(((t.wy.getD k wz).2)).toNat) (j:=0) (e:=[.int .i64 ((leftK t.ws t.ww d k).getD ((((t.wy.getD k wz).2)).toNat) 0)]) o2 H_ (fun x_ h_=>by simp [h_]) tA3 rfl rfl (xpj (by first | omega | (rw [leftK_length];omega) | (simp only [List.length_set];omega))) (u:=.int .i64 ((leftK t.ws t.ww d k).getD ((((t.wy.getD k wz).2)).toNat) 0)) rfl) ?_
  refine ro (xaq (v:=.int .i64 (d.getD k 0)) rfl) ?_
  refine rt (xkw rfl rfl (wr (by have z1:=hyk (by omega);have z2:=hdk (by omega);have z3:=hw (t.ww k) (by omega);rw [ww_eq,xxq (by omega)];unfold dv at *;omega))) (tm':=zq16 (zq32 [])) rfl ?_
  refine ro (xpz o2 Tryd.underlying22 tS3 rfl rfl (by omega) (by rw [(xck _)];omega)) ?_
  refine xlw (List.Perm.append_left _ (List.perm_append_comm_assoc _ _ _)) ?_
  refine xcj (L':=([(b1,.cells #[.slice a1 n1 c1,.slice a2 n2 c2,.slice a3 n3 c3] 25 (0,0))]:Pcs)++(X2++(X18++[]))) rfl ?_
  refine xsz (A:=([(b1,.cells #[.slice a1 n1 c1,.slice a2 n2 c2,.slice a3 n3 c3] 25 (0,0))]:Pcs)) (i:=(((t.wy.getD k wz).2)).toNat) (j:=0) (e:=[.int .i64 ((leftK t.ws t.ww d k).getD ((((t.wy.getD k wz).2)).toNat) 0)]) (u:=.int .i64 (((leftK t.ws t.ww d k).getD ((((t.wy.getD k wz).2)).toNat) 0)-(d.getD k 0))) o2 mn tS3 rfl rfl rfl ⟨rfl,rfl⟩ (xpj (by first | omega | (rw [leftK_length];omega) | (simp only [List.length_set];omega))) (Nat.succ_le_iff.1 (Nat.le_of_ble_eq_true rfl)) fun X20 o21=>?_
  refine xak <| xeq <| xbq ?_
  refine ro (xfx rfl rfl (n:=((k+1:Nat):Int)) (wr (by omega))) ?_
  refine rt (xaq (v:=.int .i64 (((k+1:Nat):Int))) rfl) (tm':=zq1 (zq16 _)) rfl <| xak ?_
  exact fun h_ H_=>IH16 _ _ (by omega) h_ ⟨k+1,X20,X18,rfl,(y_of rfl),(by omega),(o19.as ((xwj).trans (congrArg ics (zbx (vs:=t.hs) (g:=t.wh) (d:=d) (k:=k) (by omega))))),(o21.as ((xwj).trans (congrArg ics (zbx (vs:=t.ws) (g:=t.ww) (d:=d) (k:=k) (by omega))))),H_⟩
 ·
  refine xcv rfl (dff cc17) <| xiq rfl <| fsr <| ro (xaq (v:=w7) rfl) <| ro (xaq (v:=w12) rfl) <| rt (xax (v:=w7) rfl) (tm':=zq1 (zq4 _)) rfl ?_
  refine ro (xax (v:=w12) rfl) <| xak ?_
  refine xew Tryd.func67 rfl (vs:=[w7,w12]) (fun h_ H_=>⟨w7,_,rfl,rfl,⟨w12,_,rfl,rfl,rfl⟩⟩) (v:=.tuple #[w7,w12]) rfl ?_
  have hkm:k=m:=by omega
  subst hkm
  exact fun h_ H_=>K _ _ ⟨_,_,_,_,rfl,o1,o2,by simpa using H_.dropA.new⟩
end Go.Proofs.YtalfgojocdonhaaDoor
namespace Go.Proofs.YtalfgojocdonhaaDoor
open Go.X Go.X.Flow Go.Conc
set_option maxRecDepth 10000
set_option synthInstance.maxSize 2000

set_option maxHeartbeats 2000000
theorem c114 (md:Md) (h:Heap) (x:Nat) (hx:x≤10):CallsX Tryd.prog md 114 #[.int .i64 (((x:Nat):Int))] h fun v h'=>v= .int .i64 (dear x)∧Keep h h':=by
 refine xcw (Φ:=fun h_=>St h [] (fun _=>none) h_ []) Tryd.func114 rfl (tm:=zq1 (zq2 (zq8 []))) rfl ?_ (St.start h _ (fun _ _ e=>by cases e))
 intro c₀ cs Stop K
 refine fsr <| ro (xax (v:=.int .i64 0) rfl) <| ren <| xbq <| ro (xax (v:=.int .i64 1000) rfl) <| ren ?_
 refine fsr <| rt (xaq (v:=.int .i64 (((x:Nat):Int))) rfl) (tm':=zq1 (zq4 _)) rfl <| ro (xaq (v:=.int .i64 0) rfl) <| xak <| xek ?_
 refine xiv (m₀:=x-0) (fun m_ tm_ h_=>∃ (k:Nat) (s:Int),m_=x-k∧(∃ y1:Nat→Value,tm_=[.int .i64 (((x:Nat):Int)),undef,.int .i64 0,.int .i64 (s),.int .i64 (((x:Nat):Int)),.int .i64 (((k:Nat):Int)),(y1 6),(y1 7),(y1 8),(y1 9),undef])∧(k≤x)∧(s=dear k)∧St h [] (fun _=>none) h_ ([])) (fun h_ H_=>⟨0,1000,rfl,(y_of rfl),Nat.zero_le _,rfl,H_⟩) ?_
 intro m_ tm_ IH2
 refine xij fun k=>xij fun s=>xdz fun hm_=>xdz fun ht_=>xdz fun hk=>xdz fun hs=>?_
 subst hm_;obtain ⟨y1,ht_⟩:=ht_;subst ht_
 have hp_:=xnv k
 have hm_:=xrz (show k≤10 by omega)
 have e10_:dear 10=282475249000:=by decide
 refine fsr <| ro (xgw rfl rfl) <| ren ?_
 by_cases cc3:((k:Nat):Int)<((x:Nat):Int)
 ·
  refine xdk rfl (dtt cc3) <| xdq <| xej <| xek <| xbq <| rt (xaq (v:=.int .i64 (s)) rfl) (tm':=zq1 (zq2 (zq8 []))) rfl ?_
  refine ro (yxk rfl rfl (wr (by omega))) ?_
  refine ro (xax (v:=.int .i64 (s*7)) rfl) <| xak <| xeq <| xbq ?_
  refine rt (xfx rfl rfl (n:=((k+1:Nat):Int)) (wr (by omega))) (tm':=zq1 (zq2 (zq8 []))) rfl ?_
  refine ro (xaq (v:=.int .i64 (((k+1:Nat):Int))) rfl) <| xak ?_
  exact fun h_ H_=>IH2 _ _ (by omega) h_ ⟨k+1,s*7,rfl,(y_of rfl),(by omega),(by rw [xpw];omega),H_⟩
 ·
  refine xcv rfl (dff cc3) <| xiq rfl <| fsr <| ro (xaq (v:=.int .i64 (s)) rfl) <| rt (xax (v:=.int .i64 (s)) rfl) (tm':=_::_::_::_) rfl <| xak ?_
  refine xew Tryd.func114 rfl (vs:=[.int .i64 (s)]) (fun h_ H_=>⟨.int .i64 (s),_,rfl,rfl,rfl⟩) (v:=.int .i64 (s)) rfl ?_
  have hkx:k=x:=by omega
  exact fun h_ H_=>K _ _ ⟨by rw [hs,hkx],H_.kept⟩
theorem c34 (md:Md) (h:Heap) (p:PHeap) (hp:Per p h) (a1:Option Addr) (n1 c1:Nat) (a2:Option Addr) (n2 c2:Nat) (a3:Option Addr) (n3 c3:Nat) (t:Tn) (T:TownP p a1 n1 a2 n2 a3 n3 t) (hn:n1≤40∧n2≤40∧n3≤41) (b:Option Addr) (m cb:Nat) (d:List Int) (D:Ints p b m d) (hm:m≤n3) (hd: ∀ i,i<m→0≤dv d i∧dv d i≤1000) (x:Int):CallsX Tryd.prog md 34 #[.agg #[.slice a1 n1 c1,.slice a2 n2 c2,.slice a3 n3 c3],.slice b m cb,.int .i64 (x)] h fun v h'=>v= .int .i64 (drawI t d d.length x)∧Keep h h':=by
 refine xcw (Φ:=fun h_=>St h [] p h_ []) Tryd.func34 rfl (tm:=zq2 (zq4 (zq8 (zq16 [])))) rfl ?_ (St.start h _ hp)
 intro c₀ cs Stop K
 have eH:=T.nH
 have eW:=T.nW
 have eM:=T.m
 refine fsr ?_
 refine xiw mn (v:=.agg #[.slice a1 n1 c1,.slice a2 n2 c2,.slice a3 n3 c3]) rfl fun b1=>xcj (L':=[(b1,.cells #[.slice a1 n1 c1,.slice a2 n2 c2,.slice a3 n3 c3] 25 (0,0))]) rfl ?_
 refine ro (xax (v:=.int .i64 0) rfl) <| ren <| xbq <| rt (xax (v:=.int .i64 0) rfl) (tm':=zq8 _) rfl <| ren <| fsr ?_
 refine ro (xax (v:=.int .i64 0) rfl) <| xak <| xek ?_
 refine xiv (m₀:=m-0) (fun m_ tm_ h_=>∃ (k:Nat) (s:Int),m_=m-k∧(∃ y2:Nat→Value,tm_=[.agg #[.slice a1 n1 c1,.slice a2 n2 c2,.slice a3 n3 c3],.slice b m cb,.int .i64 (x),.pointer (some ⟨b1,0,none⟩),undef,undef,.int .i64 0,.int .i64 (s),.int .i64 (((k:Nat):Int)),(y2 9),(y2 10),(y2 11),(y2 12),(y2 13),(y2 14),(y2 15),(y2 16),(y2 17),(y2 18),(y2 19),(y2 20),(y2 21),(y2 22),(y2 23),(y2 24),(y2 25),(y2 26),(y2 27),(y2 28),undef])∧(k≤m)∧(s=drawI t d k x)∧St h [] p h_ ([(b1,.cells #[.slice a1 n1 c1,.slice a2 n2 c2,.slice a3 n3 c3] 25 (0,0))])) (fun h_ H_=>⟨0,0,rfl,(y_of rfl),Nat.zero_le _,rfl,H_⟩) ?_
 intro m_ tm_ IH3
 refine xij fun k=>xij fun s=>xdz fun hm_=>xdz fun ht_=>xdz fun hk=>xdz fun hs=>?_
 subst hm_;obtain ⟨y2,ht_⟩:=ht_;subst ht_
 have hb_:0≤drawI t d k x∧drawI t d k x≤1000*k:=ynz fun i hi=>hd i (by omega)
 have hdk:=fun z_:k<m=>(show 0≤d.getD k 0∧d.getD k 0≤1000 from hd k z_)
 refine xej <| fsr <| ro (xaq (v:=.int .i64 (((k:Nat):Int))) rfl) <| rt (xaq (v:=.slice b m cb) rfl) (tm':=zq1 (zq2 (zq8 _))) rfl <| ro (xfk Tryd.underlying22 rfl) <| ro (xgw rfl rfl) ?_
 refine xak ?_
 by_cases cc4:((k:Nat):Int)<((m:Nat):Int)
 ·
  refine xdk rfl (dtt cc4) <| xdq <| xej <| xek <| fsr <| rt (xaz xhv rfl (a':=⟨b1,2,none⟩) rfl) (tm':=zq16 _) rfl ?_
  refine rd (fun h_ H_=>xaj H_ tA23 rfl (i:=0) rfl (v:=.slice a3 n3 c3) rfl) <| ro (xaq (v:=.int .i64 (((k:Nat):Int))) rfl) ?_
  refine rt (xcz (i:=k) Tryd.underlying23 tS43 (xkq a3 n3 c3 (T.y.ne (by omega))) rfl (by omega)) (tm':=zq1 (zq2 (zq16 _))) rfl ?_
  refine ro (xaz xoj rfl (a':=(adr a3).add (k*2)) rfl) ?_
  refine rd (fun h_ H_=>xbv H_ tA3 rfl (v:=.int .i64 ((t.wy.getD k wz).1)) (T.y.ho (by omega))) ?_
  refine rt (xaq (v:=.int .i64 (x)) rfl) (tm':=zq2 (zq4 (zq8 (zq16 [])))) rfl <| ro (xjx rfl rfl) <| xak ?_
  by_cases cc5:(t.wy.getD k wz).1=x
  ·
   refine xdk rfl (dtt cc5) <| xbq <| ro (xaq (v:=.int .i64 (s)) rfl) <| rt (xaq (v:=.slice b m cb) rfl) (tm':=zq2 (zq4 (zq8 (zq16 [])))) rfl <| ro (xaq (v:=.int .i64 (((k:Nat):Int))) rfl) ?_
   refine ro (xcz (i:=k) Tryd.underlying22 tS3 (xkq b m cb (D.ne (by omega))) rfl (by omega)) ?_
   refine xaw mn (fun h_ H_=>xbv H_ tA3 rfl (v:=.int .i64 (d.getD k 0)) (D.get (by omega))) (tm':=zq2 (zq4 (zq8 (zq16 [])))) rfl ?_
   refine ro (xfx rfl rfl (wr (by have z_:=hdk (by omega);omega))) ?_
   refine ro (xax (v:=.int .i64 (s+(d.getD k 0))) rfl) <| xak <| xeq <| xbq <| rt (xaq (v:=.int .i64 (((k:Nat):Int))) rfl) (tm':=zq2 (zq4 (zq8 _))) rfl ?_
   refine ro (xfx rfl rfl (n:=((k+1:Nat):Int)) (wr (by omega))) ?_
   refine ro (xax (v:=.int .i64 (((k+1:Nat):Int))) rfl) <| xak ?_
   exact fun h_ H_=>IH3 _ _ (by omega) h_ ⟨k+1,s+(d.getD k 0),rfl,(y_of rfl),(by omega),(by first | (rw [hs,zok ‹_›]) | (rw [hs,waw ‹_›])),H_⟩
  ·
   refine xcv rfl (dff cc5) <| xdq <| xeq <| xbq <| rt (xaq (v:=.int .i64 (((k:Nat):Int))) rfl) (tm':=zq2 (zq4 (zq8 _))) rfl ?_
   refine ro (xfx rfl rfl (n:=((k+1:Nat):Int)) (wr (by omega))) ?_
   refine ro (xax (v:=.int .i64 (((k+1:Nat):Int))) rfl) <| xak ?_
   exact fun h_ H_=>IH3 _ _ (by omega) h_ ⟨k+1,s,rfl,(y_of rfl),(by omega),(by first | (rw [hs,zok ‹_›]) | (rw [hs,waw ‹_›])),H_⟩
 ·
  refine xcv rfl (dff cc4) <| xiq rfl <| fsr <| rt (xaq (v:=.int .i64 (s)) rfl) (tm':=zq2 (zq4 (zq8 (zq16 [])))) rfl <| ro (xax (v:=.int .i64 (s)) rfl) <| xak ?_
  refine xew Tryd.func34 rfl (vs:=[.int .i64 (s)]) (fun h_ H_=>⟨.int .i64 (s),_,rfl,rfl,rfl⟩) (v:=.int .i64 (s)) rfl ?_
  have hkm:k=d.length:=by have:=D.len;omega
  exact fun h_ H_=>K _ _ ⟨by rw [hs,hkm],H_.kept⟩
theorem c62 (md:Md) (h:Heap) (p:PHeap) (hp:Per p h) (a1:Option Addr) (n1 c1:Nat) (a2:Option Addr) (n2 c2:Nat) (a3:Option Addr) (n3 c3:Nat) (t:Tn) (T:TownP p a1 n1 a2 n2 a3 n3 t) (hn:n1≤40∧n2≤40∧n3≤41) (b:Option Addr) (m cb:Nat) (d:List Int) (D:Ints p b m d) (hm:m≤n3) (hd: ∀ i,i<m→0≤dv d i∧dv d i≤1000) (x:Int):CallsX Tryd.prog md 62 #[.agg #[.slice a1 n1 c1,.slice a2 n2 c2,.slice a3 n3 c3],.slice b m cb,.int .i64 (x)] h fun v h'=>v= .int .i64 (giveI t d d.length x)∧Keep h h':=by
 refine xcw (Φ:=fun h_=>St h [] p h_ []) Tryd.func62 rfl (tm:=zq2 (zq4 (zq8 (zq16 [])))) rfl ?_ (St.start h _ hp)
 intro c₀ cs Stop K
 have eH:=T.nH
 have eW:=T.nW
 have eM:=T.m
 refine fsr ?_
 refine xiw mn (v:=.agg #[.slice a1 n1 c1,.slice a2 n2 c2,.slice a3 n3 c3]) rfl fun b1=>xcj (L':=[(b1,.cells #[.slice a1 n1 c1,.slice a2 n2 c2,.slice a3 n3 c3] 25 (0,0))]) rfl ?_
 refine rt (xax (v:=.int .i64 0) rfl) (tm':=zq1 (zq2 (zq4 _))) rfl <| ren <| xbq <| ro (xax (v:=.int .i64 0) rfl) <| ren <| fsr ?_
 refine ro (xax (v:=.int .i64 0) rfl) <| xak <| xek ?_
 refine xiv (m₀:=m-0) (fun m_ tm_ h_=>∃ (k:Nat) (s:Int),m_=m-k∧(∃ y2:Nat→Value,tm_=[.agg #[.slice a1 n1 c1,.slice a2 n2 c2,.slice a3 n3 c3],.slice b m cb,.int .i64 (x),.pointer (some ⟨b1,0,none⟩),undef,undef,.int .i64 0,.int .i64 (s),.int .i64 (((k:Nat):Int)),(y2 9),(y2 10),(y2 11),(y2 12),(y2 13),(y2 14),(y2 15),(y2 16),(y2 17),(y2 18),(y2 19),(y2 20),(y2 21),(y2 22),(y2 23),(y2 24),(y2 25),(y2 26),(y2 27),(y2 28),undef])∧(k≤m)∧(s=giveI t d k x)∧St h [] p h_ ([(b1,.cells #[.slice a1 n1 c1,.slice a2 n2 c2,.slice a3 n3 c3] 25 (0,0))])) (fun h_ H_=>⟨0,0,rfl,(y_of rfl),Nat.zero_le _,rfl,H_⟩) ?_
 intro m_ tm_ IH3
 refine xij fun k=>xij fun s=>xdz fun hm_=>xdz fun ht_=>xdz fun hk=>xdz fun hs=>?_
 subst hm_;obtain ⟨y2,ht_⟩:=ht_;subst ht_
 have hb_:0≤giveI t d k x∧giveI t d k x≤1000*k:=ynz fun i hi=>hd i (by omega)
 have hdk:=fun z_:k<m=>(show 0≤d.getD k 0∧d.getD k 0≤1000 from hd k z_)
 refine xej <| fsr <| rt (xaq (v:=.int .i64 (((k:Nat):Int))) rfl) (tm':=zq2 (zq8 _)) rfl <| ro (xaq (v:=.slice b m cb) rfl) <| ro (xfk Tryd.underlying22 rfl) <| rt (xgw rfl rfl) (tm':=zq1 (zq4 (zq8 _))) rfl ?_
 refine xak ?_
 by_cases cc4:((k:Nat):Int)<((m:Nat):Int)
 ·
  refine xdk rfl (dtt cc4) <| xdq <| xej <| xek <| fsr <| ro (xaz xhv rfl (a':=⟨b1,2,none⟩) rfl) ?_
  refine rd (fun h_ H_=>xaj H_ tA23 rfl (i:=0) rfl (v:=.slice a3 n3 c3) rfl) <| rt (xaq (v:=.int .i64 (((k:Nat):Int))) rfl) (tm':=zq2 (zq16 _)) rfl ?_
  refine ro (xcz (i:=k) Tryd.underlying23 tS43 (xkq a3 n3 c3 (T.y.ne (by omega))) rfl (by omega)) ?_
  refine ro (xaz xpk rfl (a':=((adr a3).add (k*2)).add 1) rfl) ?_
  refine xaw mn (fun h_ H_=>xbv H_ tA3 rfl (v:=.int .i64 ((t.wy.getD k wz).2)) (T.y.we (by omega))) (tm':=zq2 (zq4 (zq8 (zq16 [])))) rfl ?_
  refine ro (xaq (v:=.int .i64 (x)) rfl) <| ro (xjx rfl rfl) <| xak ?_
  by_cases cc5:(t.wy.getD k wz).2=x
  ·
   refine xdk rfl (dtt cc5) <| xbq <| rt (xaq (v:=.int .i64 (s)) rfl) (tm':=zq2 (zq4 (zq8 (zq16 [])))) rfl <| ro (xaq (v:=.slice b m cb) rfl) <| ro (xaq (v:=.int .i64 (((k:Nat):Int))) rfl) ?_
   refine rt (xcz (i:=k) Tryd.underlying22 tS3 (xkq b m cb (D.ne (by omega))) rfl (by omega)) (tm':=zq2 (zq4 (zq8 (zq16 [])))) rfl ?_
   refine rd (fun h_ H_=>xbv H_ tA3 rfl (v:=.int .i64 (d.getD k 0)) (D.get (by omega))) ?_
   refine ro (xfx rfl rfl (wr (by have z_:=hdk (by omega);omega))) ?_
   refine rt (xax (v:=.int .i64 (s+(d.getD k 0))) rfl) (tm':=zq8 _) rfl <| xak <| xeq <| xbq <| ro (xaq (v:=.int .i64 (((k:Nat):Int))) rfl) ?_
   refine ro (xfx rfl rfl (n:=((k+1:Nat):Int)) (wr (by omega))) ?_
   refine rt (xax (v:=.int .i64 (((k+1:Nat):Int))) rfl) (tm':=zq1 (zq8 _)) rfl <| xak ?_
   exact fun h_ H_=>IH3 _ _ (by omega) h_ ⟨k+1,s+(d.getD k 0),rfl,(y_of rfl),(by omega),(by first | (rw [hs,znz ‹_›]) | (rw [hs,zzj ‹_›])),H_⟩
  ·
   refine xcv rfl (dff cc5) <| xdq <| xeq <| xbq <| ro (xaq (v:=.int .i64 (((k:Nat):Int))) rfl) ?_
   refine ro (xfx rfl rfl (n:=((k+1:Nat):Int)) (wr (by omega))) ?_
   refine rt (xax (v:=.int .i64 (((k+1:Nat):Int))) rfl) (tm':=zq1 (zq8 _)) rfl <| xak ?_
   exact fun h_ H_=>IH3 _ _ (by omega) h_ ⟨k+1,s,rfl,(y_of rfl),(by omega),(by first | (rw [hs,znz ‹_›]) | (rw [hs,zzj ‹_›])),H_⟩
 ·
  refine xcv rfl (dff cc4) <| xiq rfl <| fsr <| ro (xaq (v:=.int .i64 (s)) rfl) <| ro (xax (v:=.int .i64 (s)) rfl) <| xak ?_
  refine xew Tryd.func62 rfl (vs:=[.int .i64 (s)]) (fun h_ H_=>⟨.int .i64 (s),_,rfl,rfl,rfl⟩) (v:=.int .i64 (s)) rfl ?_
  have hkm:k=d.length:=by have:=D.len;omega
  exact fun h_ H_=>K _ _ ⟨by rw [hs,hkm],H_.kept⟩
theorem c31 (md:Md) (h:Heap) (p:PHeap) (hp:Per p h) (a1:Option Addr) (n1 c1:Nat) (a2:Option Addr) (n2 c2:Nat) (a3:Option Addr) (n3 c3:Nat) (t:Tn) (T:TownP p a1 n1 a2 n2 a3 n3 t) (hn:n1≤40∧n2≤40∧n3≤41) (b:Option Addr) (m cb:Nat) (d:List Int) (D:Ints p b m d) (hw:WOk t):CallsX Tryd.prog md 31 #[.agg #[.slice a1 n1 c1,.slice a2 n2 c2,.slice a3 n3 c3],.slice b m cb] h fun v h'=>v= .bool (decide (DivI t d))∧Keep h h':=by
 refine xcw (Φ:=fun h_=>St h [] p h_ []) Tryd.func31 rfl (tm:=zq1 (zq8 (zq32 (zq32 [])))) rfl ?_ (St.start h _ hp)
 intro c₀ cs Stop K
 have eH:=T.nH
 have eW:=T.nW
 have eM:=T.m
 refine fsr ?_
 refine xiw mn (v:=.agg #[.slice a1 n1 c1,.slice a2 n2 c2,.slice a3 n3 c3]) rfl fun b1=>xcj (L':=[(b1,.cells #[.slice a1 n1 c1,.slice a2 n2 c2,.slice a3 n3 c3] 25 (0,0))]) rfl ?_
 refine xgx (tm':=_::_::_::_) rfl ?_
 refine ro (xax (v:=.bool (false)) rfl) <| ren <| fsr <| ro (xaq (v:=.slice b m cb) rfl) <| rt (xfk Tryd.underlying22 rfl) (tm':=zq1 (zq8 _)) rfl <| ro (xaz xhv rfl (a':=⟨b1,2,none⟩) rfl) ?_
 refine rd (fun h_ H_=>xaj H_ tA23 rfl (i:=0) rfl (v:=.slice a3 n3 c3) rfl) <| rt (xfk Tryd.underlying23 rfl) (tm':=zq4 (zq8 _)) rfl <| ro (xhw rfl rfl) <| xak ?_
 by_cases cc2:((m:Nat):Int)≠((n3:Nat):Int)
 ·
  refine xdk rfl (dtt cc2) <| fsr <| ro (xax (v:=.bool (false)) rfl) <| xak ?_
  refine xew Tryd.func31 rfl (vs:=[.bool (false)]) (fun h_ H_=>⟨.bool (false),_,rfl,rfl,rfl⟩) (v:=.bool (false)) rfl ?_
  exact fun h_ H_=>K _ _ ⟨by first | (rw [decide_eq_true (p:=DivI t d) ⟨by have hl:=D.len;omega,fun i hi=>h1 i (by have hl:=D.len;omega),fun i hi=>h2 i (by have hl:=D.len;omega)⟩]) | (rw [decide_eq_false (p:=DivI t d) (fun z=>by have z1:=z.len;have hl:=D.len;first | omega | (have z3:=z.pos k (by omega);omega) | (have z3:=z.at_ l (by omega);unfold DivAt at z3;omega))]),H_.kept⟩
 ·
  refine xcv rfl (dff cc2) <| xdq <| xej <| fsr <| rt (xax (v:=.int .i64 0) rfl) (tm':=zq2 (zq4 _)) rfl <| xak ?_
  refine xek ?_
  refine xiv (m₀:=m-0) (fun m_ tm_ h_=>∃ (k:Nat),m_=m-k∧(∃ y3:Nat→Value,tm_=(.agg #[.slice a1 n1 c1,.slice a2 n2 c2,.slice a3 n3 c3]::.slice b m cb::.pointer (some ⟨b1,0,none⟩)::undef::(y3 4)::.int .i64 (((k:Nat):Int))::undef::.slice b m cb::.int .i64 (((m:Nat):Int))::.pointer (some ⟨b1,2,none⟩)::.slice a3 n3 c3::.int .i64 (((n3:Nat):Int))::.bool (decide (((m:Nat):Int)≠((n3:Nat):Int)))::(y3 13)::(y3 14)::(y3 15)::(y3 16)::(y3 17)::(y3 18)::(y3 19)::(y3 20)::(y3 21)::(y3 22)::(y3 23)::(y3 24)::zu16 (zu16 (zu16 []))))∧(k≤m)∧(∀ i,i<k→0≤d.getD i 0∧d.getD i 0≤9)∧St h [] p h_ ([(b1,.cells #[.slice a1 n1 c1,.slice a2 n2 c2,.slice a3 n3 c3] 25 (0,0))])) (fun h_ H_=>⟨0,rfl,(y_of rfl),Nat.zero_le _,(fun i hi=>absurd hi (Nat.not_lt_zero i)),H_⟩) ?_
  intro m_ tm_ IH4
  refine xij fun k=>xdz fun hm_=>xdz fun ht_=>xdz fun hk=>xdz fun h1=>?_
  subst hm_;obtain ⟨y3,ht_⟩:=ht_;subst ht_
  refine xej <| fsr <| ro (xaq (v:=.int .i64 (((k:Nat):Int))) rfl) <| ro (xaq (v:=.slice b m cb) rfl) <| rt (xfk Tryd.underlying22 rfl) (tm':=zq16 _) rfl <| ro (xgw rfl rfl) ?_
  refine xak ?_
  by_cases cc5:((k:Nat):Int)<((m:Nat):Int)
  ·
   refine xdk rfl (dtt cc5) <| xdq <| xej <| xek <| fsr <| ro (xaq (v:=.slice b m cb) rfl) ?_
   refine rt (xaq (v:=.int .i64 (((k:Nat):Int))) rfl) (tm':=zq1 (zq4 (zq16 _))) rfl ?_
   refine ro (xcz (i:=k) Tryd.underlying22 tS3 (xkq b m cb (D.ne (by omega))) rfl (by omega)) ?_
   refine rd (fun h_ H_=>xbv H_ tA3 rfl (v:=.int .i64 (d.getD k 0)) (D.get (by omega))) ?_
   refine xcx mn (first:=[]) (cap:=[]) rfl rfl fC79 (fun h_ H_=>c79 md _ (d.getD k 0) (0) (9)) (tm':=zq8 (zq16 _)) rfl ?_
   refine ro (xgz rfl) <| xak ?_
   by_cases cc6:0≤d.getD k 0∧d.getD k 0≤9
   ·
    refine xcv rfl (xev (dtt cc6)) <| xdq <| xeq <| xbq <| ro (xaq (v:=.int .i64 (((k:Nat):Int))) rfl) ?_
    refine rt (xfx rfl rfl (n:=((k+1:Nat):Int)) (wr (by omega))) (tm':=zq1 (zq2 (zq16 _))) rfl ?_
    refine ro (xax (v:=.int .i64 (((k+1:Nat):Int))) rfl) <| xak ?_
    exact fun h_ H_=>IH4 _ _ (by omega) h_ ⟨k+1,rfl,(y_of rfl),(by omega),(xqw h1 (by omega)),H_⟩
   ·
    refine xdk rfl (xgv (dff cc6)) <| fsr <| ro (xax (v:=.bool (false)) rfl) <| xak ?_
    refine xew Tryd.func31 rfl (vs:=[.bool (false)]) (fun h_ H_=>⟨.bool (false),_,rfl,rfl,rfl⟩) (v:=.bool (false)) rfl ?_
    exact fun h_ H_=>K _ _ ⟨by first | (rw [decide_eq_true (p:=DivI t d) ⟨by have hl:=D.len;omega,fun i hi=>h1 i (by have hl:=D.len;omega),fun i hi=>h2 i (by have hl:=D.len;omega)⟩]) | (rw [decide_eq_false (p:=DivI t d) (fun z=>by have z1:=z.len;have hl:=D.len;first | omega | (have z3:=z.pos k (by omega);omega) | (have z3:=z.at_ l (by omega);unfold DivAt at z3;omega))]),H_.kept⟩
  ·
   refine xcv rfl (dff cc5) <| xiq rfl <| xej <| fsr <| rt (xax (v:=.int .i64 0) rfl) (tm':=zq1 (zq2 (zq4 _))) rfl <| xak ?_
   refine xek ?_
   refine xiv (m₀:=m-0) (fun m_ tm_ h_=>∃ (l:Nat),m_=m-l∧(∃ y7:Nat→Value,tm_=[.agg #[.slice a1 n1 c1,.slice a2 n2 c2,.slice a3 n3 c3],.slice b m cb,.pointer (some ⟨b1,0,none⟩),undef,(y7 4),.int .i64 (((k:Nat):Int)),.int .i64 (((l:Nat):Int)),.slice b m cb,.int .i64 (((m:Nat):Int)),.pointer (some ⟨b1,2,none⟩),.slice a3 n3 c3,.int .i64 (((n3:Nat):Int)),.bool (decide (((m:Nat):Int)≠((n3:Nat):Int))),.int .i64 (((k:Nat):Int)),.slice b m cb,.int .i64 (((m:Nat):Int)),.bool (decide (((k:Nat):Int)<((m:Nat):Int))),(y3 17),(y3 18),(y3 19),(y3 20),(y3 21),(y3 22),(y3 23),(y3 24),(y7 25),(y7 26),(y7 27),(y7 28),(y7 29),(y7 30),(y7 31),(y7 32),(y7 33),(y7 34),(y7 35),(y7 36),(y7 37),(y7 38),(y7 39),(y7 40),(y7 41),(y7 42),(y7 43),(y7 44),(y7 45),(y7 46),(y7 47),(y7 48),(y7 49),(y7 50),(y7 51),(y7 52),(y7 53),(y7 54),(y7 55),(y7 56),(y7 57),(y7 58),(y7 59),(y7 60),(y7 61),(y7 62),(y7 63),(y7 64),(y7 65),(y7 66),(y7 67),(y7 68),(y7 69),(y7 70),(y7 71),(y7 72)])∧(l≤m)∧(∀ i,i<l→DivAt t d i)∧St h [] p h_ ([(b1,.cells #[.slice a1 n1 c1,.slice a2 n2 c2,.slice a3 n3 c3] 25 (0,0))])) (fun h_ H_=>⟨0,rfl,(y_of rfl),Nat.zero_le _,(fun i hi=>absurd hi (Nat.not_lt_zero i)),H_⟩) ?_
   intro m_ tm_ IH8
   refine xij fun l=>xdz fun hm_=>xdz fun ht_=>xdz fun hl=>xdz fun h2=>?_
   subst hm_;obtain ⟨y7,ht_⟩:=ht_;subst ht_
   have hwl:=fun z_:l<m=>hw l (by omega)
   refine xej <| fsr <| ro (xaq (v:=.int .i64 (((l:Nat):Int))) rfl) <| ro (xaq (v:=.slice b m cb) rfl) <| rt (xfk Tryd.underlying22 rfl) (tm':=zq4 (zq8 (zq16 _))) rfl <| ro (xgw rfl rfl) ?_
   refine xak ?_
   by_cases cc9:((l:Nat):Int)<((m:Nat):Int)
   ·
    refine xdk rfl (dtt cc9) <| xdq <| xej <| xek <| xej ?_
    by_cases cc10:t.hs.getD ((((t.wy.getD l wz).1)).toNat) 0<drawI t d d.length ((t.wy.getD l wz).1)
    ·
     refine xfw 40 [[],[],[],[2],[],[2,3,4],[2,3,4,5],[2,3,4,5,6],[0,1,2,3,4,5,6,7],[],[9],[],[11],[],[11,12,13],[11,12,13,14],[11,12,13,14,15],[9,10,11,12,13,14,15,16],[9,10,11,12,13,14,15,16,17],[0,1,2,3,4,5,6,7,9,10,11,12,13,14,15,16,17,18],[0,1,2,3,4,5,6,7,8,9,10,11,12,13,14,15,16,17,18,19],[],[],[],[23],[],[23,24,25],[23,24,25,26],[23,24,25,26,27],[21,22,23,24,25,26,27,28],[],[30],[],[32],[0,1,2,3,4,5,6,7,8,9,10,11,12,13,14,15,16,17,18,19],[0,1,2,3,4,5,6,7,8,9,10,11,12,13,14,15,16,17,18,19,32,33,34],[0,1,2,3,4,5,6,7,8,9,10,11,12,13,14,15,16,17,18,19,32,33,34,35],[0,1,2,3,4,5,6,7,8,9,10,11,12,13,14,15,16,17,18,19,32,33,34,35,36],[0,1,2,3,4,5,6,7,8,9,10,11,12,13,14,15,16,17,18,19,30,31,32,33,34,35,36,37],[0,1,2,3,4,5,6,7,8,9,10,11,12,13,14,15,16,17,18,19,30,31,32,33,34,35,36,37,38],[0,1,2,3,4,5,6,7,8,9,10,11,12,13,14,15,16,17,18,19,21,22,23,24,25,26,27,28,29,30,31,32,33,34,35,36,37,38,39],[]] xlq (by kernel_rfl) (Nat.le_of_ble_eq_true rfl) ?_
     refine wd (fun h_ H_=>xav H_ tA25 tS25 rfl (i:=0) rfl (vs:=[.slice a1 n1 c1,.slice a2 n2 c2,.slice a3 n3 c3]) rfl rfl) <| wt (xaq (v:=.slice b m cb) rfl) (tm':=zq1 (zq32 _)) rfl <| wo (xaz xhv rfl (a':=⟨b1,2,none⟩) rfl) ?_
     refine xbz mn (fun h_ H_=>xaj H_ tA23 rfl (i:=0) rfl (v:=.slice a3 n3 c3) rfl) (tm':=zq1 (zq2 (zq32 _))) rfl ?_
     refine wo (xaq (v:=.int .i64 (((l:Nat):Int))) rfl) ?_
     refine wt (xcz (i:=l) Tryd.underlying23 tS43 (xkq a3 n3 c3 (T.y.ne (by omega))) rfl (by omega)) (tm':=zq1 (zq4 (zq32 _))) rfl ?_
     refine wo (xaz xoj rfl (a':=(adr a3).add (l*2)) rfl) ?_
     refine xbz mn (fun h_ H_=>xbv H_ tA3 rfl (v:=.int .i64 ((t.wy.getD l wz).1)) (T.y.ho (by omega))) (tm':=zq1 (zq2 (zq4 (zq32 _)))) rfl ?_
     refine xik mn (first:=[]) (cap:=[]) rfl rfl fC34 (fun h_ H_=>(c34 md _ _ H_.pe _ _ _ _ _ _ _ _ _ t (show TownP _ _ _ _ _ _ _ t from ⟨T.h,T.w,T.y⟩) (by omega) _ _ _ _ D (by omega) (fun i hi=>by have z_:=h1 i (by omega);unfold dv;omega) ((t.wy.getD l wz).1)).mono fun v_ h2_ ⟨e_,k_⟩=>⟨e_,H_.call k_⟩) rfl ?_
     refine wt (xaz xmz rfl (a':=⟨b1,0,none⟩) rfl) (tm':=zq1 (zq8 (zq32 _))) rfl <| wd (fun h_ H_=>xaj H_ tA22 rfl (i:=0) rfl (v:=.slice a1 n1 c1) rfl) <| wt (xaz xhv rfl (a':=⟨b1,2,none⟩) rfl) (tm':=zq1 (zq2 (zq8 (zq32 _)))) rfl <| wd (fun h_ H_=>xaj H_ tA23 rfl (i:=0) rfl (v:=.slice a3 n3 c3) rfl) <| wt (xaq (v:=.int .i64 (((l:Nat):Int))) rfl) (tm':=zq1 (zq4 (zq8 (zq32 _)))) rfl ?_
     refine wo (xcz (i:=l) Tryd.underlying23 tS43 (xkq a3 n3 c3 (T.y.ne (by omega))) rfl (by omega)) ?_
     refine wt (xaz xoj rfl (a':=(adr a3).add (l*2)) rfl) (tm':=zq1 (zq2 (zq4 (zq8 (zq32 _))))) rfl ?_
     refine wd (fun h_ H_=>xbv H_ tA3 rfl (v:=.int .i64 ((t.wy.getD l wz).1)) (T.y.ho (by omega))) ?_
     refine wt (xlx Tryd.underlying22 tS3 (xkq a1 n1 c1 (T.h.ne (by omega))) rfl (by omega) (by omega) (a':=(adr a1).add (((((t.wy.getD l wz).1)).toNat)*1)) rfl) (tm':=zq1 (zq8 (zq32 (zq32 [])))) rfl ?_
     refine wd (fun h_ H_=>xbv H_ tA3 rfl (v:=.int .i64 (t.hs.getD ((((t.wy.getD l wz).1)).toNat) 0)) (T.h.get (by omega))) ?_
     refine wt (xix rfl rfl) (tm':=zq1 (zq8 (zq32 (zq32 [])))) rfl <| wo (xaq (v:=.bool (decide (t.hs.getD ((((t.wy.getD l wz).1)).toNat) 0<drawI t d d.length ((t.wy.getD l wz).1)))) rfl) <| xdv (mo rfl rfl (dtt cc10)) (tm':=zq1 (zq8 (zq32 (zq32 [])))) rfl <| wp (mo rfl rfl (dtt cc10)) <| xdv (mo rfl rfl (dtt cc10)) (tm':=zq1 (zq8 (zq32 (zq32 [])))) rfl <| wp (mo rfl rfl (dtt cc10)) ?_
     refine xdv (mo rfl rfl (dtt cc10)) (tm':=zq1 (zq8 (zq32 (zq32 [])))) rfl <| wp (mo rfl rfl (dtt cc10)) <| xdv (mo rfl rfl (dtt cc10)) (tm':=zq1 (zq8 (zq32 (zq32 [])))) rfl <| wp (mo rfl rfl (dtt cc10)) <| xdv (mo rfl rfl (dtt cc10)) (tm':=zq1 (zq8 (zq32 (zq32 [])))) rfl <| wp (mo rfl rfl (dtt cc10)) ?_
     refine xdv (mo rfl rfl (dtt cc10)) (tm':=zq1 (zq8 (zq32 (zq32 [])))) rfl <| wp (mo rfl rfl (dtt cc10)) <| xdv (mo rfl rfl (dtt cc10)) (tm':=zq1 (zq8 (zq32 (zq32 [])))) rfl <| wp (mo rfl rfl (dtt cc10)) <| xdv (mo rfl rfl (dtt cc10)) (tm':=zq1 (zq8 (zq32 (zq32 [])))) rfl <| wp (mo rfl rfl (dtt cc10)) ?_
     refine xdv (mo rfl rfl (dtt cc10)) (tm':=zq1 (zq8 (zq32 (zq32 [])))) rfl <| wp (mo rfl rfl (dtt cc10)) <| xdv (mo rfl rfl (dtt cc10)) (tm':=zq1 (zq8 (zq32 (zq32 [])))) rfl ?_
     refine xiz rfl ?_
     refine xfq (mo rfl rfl (dtt cc10)) (tm':=zq1 (zq8 (zq32 (zq32 [])))) rfl <| ro (xbj rfl (dtt cc10) (v:=.bool (true)) rfl) <| xak <| xdk rfl rfl <| fsr <| ro (xax (v:=.bool (false)) rfl) ?_
     refine xak ?_
     refine xew Tryd.func31 rfl (vs:=[.bool (false)]) (fun h_ H_=>⟨.bool (false),_,rfl,rfl,rfl⟩) (v:=.bool (false)) rfl ?_
     exact fun h_ H_=>K _ _ ⟨by first | (rw [decide_eq_true (p:=DivI t d) ⟨by have hl:=D.len;omega,fun i hi=>h1 i (by have hl:=D.len;omega),fun i hi=>h2 i (by have hl:=D.len;omega)⟩]) | (rw [decide_eq_false (p:=DivI t d) (fun z=>by have z1:=z.len;have hl:=D.len;first | omega | (have z3:=z.pos k (by omega);omega) | (have z3:=z.at_ l (by omega);unfold DivAt at z3;omega))]),H_.kept⟩
    ·
     refine xfw 40 [[],[],[],[2],[],[2,3,4],[2,3,4,5],[2,3,4,5,6],[0,1,2,3,4,5,6,7],[],[9],[],[11],[],[11,12,13],[11,12,13,14],[11,12,13,14,15],[9,10,11,12,13,14,15,16],[9,10,11,12,13,14,15,16,17],[0,1,2,3,4,5,6,7,9,10,11,12,13,14,15,16,17,18],[0,1,2,3,4,5,6,7,8,9,10,11,12,13,14,15,16,17,18,19],[],[],[],[23],[],[23,24,25],[23,24,25,26],[23,24,25,26,27],[21,22,23,24,25,26,27,28],[],[30],[],[32],[0,1,2,3,4,5,6,7,8,9,10,11,12,13,14,15,16,17,18,19],[0,1,2,3,4,5,6,7,8,9,10,11,12,13,14,15,16,17,18,19,32,33,34],[0,1,2,3,4,5,6,7,8,9,10,11,12,13,14,15,16,17,18,19,32,33,34,35],[0,1,2,3,4,5,6,7,8,9,10,11,12,13,14,15,16,17,18,19,32,33,34,35,36],[0,1,2,3,4,5,6,7,8,9,10,11,12,13,14,15,16,17,18,19,30,31,32,33,34,35,36,37],[0,1,2,3,4,5,6,7,8,9,10,11,12,13,14,15,16,17,18,19,30,31,32,33,34,35,36,37,38],[0,1,2,3,4,5,6,7,8,9,10,11,12,13,14,15,16,17,18,19,21,22,23,24,25,26,27,28,29,30,31,32,33,34,35,36,37,38,39],[]] xlq (by kernel_rfl) (Nat.le_of_ble_eq_true rfl) ?_
     refine xbz mn (fun h_ H_=>xav H_ tA25 tS25 rfl (i:=0) rfl (vs:=[.slice a1 n1 c1,.slice a2 n2 c2,.slice a3 n3 c3]) rfl rfl) (tm':=zq32 _) rfl ?_
     refine wo (xaq (v:=.slice b m cb) rfl) <| wt (xaz xhv rfl (a':=⟨b1,2,none⟩) rfl) (tm':=zq2 (zq32 _)) rfl <| wd (fun h_ H_=>xaj H_ tA23 rfl (i:=0) rfl (v:=.slice a3 n3 c3) rfl) <| wt (xaq (v:=.int .i64 (((l:Nat):Int))) rfl) (tm':=zq4 (zq32 _)) rfl ?_
     refine wo (xcz (i:=l) Tryd.underlying23 tS43 (xkq a3 n3 c3 (T.y.ne (by omega))) rfl (by omega)) ?_
     refine wt (xaz xoj rfl (a':=(adr a3).add (l*2)) rfl) (tm':=zq2 (zq4 (zq32 _))) rfl ?_
     refine wd (fun h_ H_=>xbv H_ tA3 rfl (v:=.int .i64 ((t.wy.getD l wz).1)) (T.y.ho (by omega))) ?_
     refine xik mn (first:=[]) (cap:=[]) rfl rfl fC34 (fun h_ H_=>(c34 md _ _ H_.pe _ _ _ _ _ _ _ _ _ t (show TownP _ _ _ _ _ _ _ t from ⟨T.h,T.w,T.y⟩) (by omega) _ _ _ _ D (by omega) (fun i hi=>by have z_:=h1 i (by omega);unfold dv;omega) ((t.wy.getD l wz).1)).mono fun v_ h2_ ⟨e_,k_⟩=>⟨e_,H_.call k_⟩) (tm':=zq8 (zq32 _)) rfl ?_
     refine wo (xaz xmz rfl (a':=⟨b1,0,none⟩) rfl) ?_
     refine xbz mn (fun h_ H_=>xaj H_ tA22 rfl (i:=0) rfl (v:=.slice a1 n1 c1) rfl) (tm':=zq2 (zq8 (zq32 _))) rfl ?_
     refine wo (xaz xhv rfl (a':=⟨b1,2,none⟩) rfl) ?_
     refine xbz mn (fun h_ H_=>xaj H_ tA23 rfl (i:=0) rfl (v:=.slice a3 n3 c3) rfl) (tm':=zq4 (zq8 (zq32 _))) rfl ?_
     refine wo (xaq (v:=.int .i64 (((l:Nat):Int))) rfl) ?_
     refine wt (xcz (i:=l) Tryd.underlying23 tS43 (xkq a3 n3 c3 (T.y.ne (by omega))) rfl (by omega)) (tm':=zq2 (zq4 (zq8 (zq32 _)))) rfl ?_
     refine wo (xaz xoj rfl (a':=(adr a3).add (l*2)) rfl) ?_
     refine xbz mn (fun h_ H_=>xbv H_ tA3 rfl (v:=.int .i64 ((t.wy.getD l wz).1)) (T.y.ho (by omega))) (tm':=zq16 (zq32 _)) rfl ?_
     refine wo (xlx Tryd.underlying22 tS3 (xkq a1 n1 c1 (T.h.ne (by omega))) rfl (by omega) (by omega) (a':=(adr a1).add (((((t.wy.getD l wz).1)).toNat)*1)) rfl) ?_
     refine xbz mn (fun h_ H_=>xbv H_ tA3 rfl (v:=.int .i64 (t.hs.getD ((((t.wy.getD l wz).1)).toNat) 0)) (T.h.get (by omega))) (tm':=zq1 (zq8 (zq32 (zq32 [])))) rfl ?_
     refine wo (xix rfl rfl) <| wt (xaq (v:=.bool (decide (t.hs.getD ((((t.wy.getD l wz).1)).toNat) 0<drawI t d d.length ((t.wy.getD l wz).1)))) rfl) (tm':=zq1 (zq8 (zq32 (zq32 [])))) rfl ?_
     refine xbz (ms rfl rfl (dff cc10)) (fun h_ H_=>xav H_ tA25 tS25 rfl (i:=0) rfl (vs:=[.slice a1 n1 c1,.slice a2 n2 c2,.slice a3 n3 c3]) rfl rfl) rfl ?_
     refine xbz (ms rfl rfl (dff cc10)) (fun h_ H_=>xaq (v:=.slice b m cb) rfl) (tm':=zq1 (zq8 (zq32 (zq32 [])))) rfl ?_
     refine xbz (ms rfl rfl (dff cc10)) (fun h_ H_=>xaz xhv rfl (a':=⟨b1,2,none⟩) rfl) rfl ?_
     refine xbz (ms rfl rfl (dff cc10)) (fun h_ H_=>xaj H_ tA23 rfl (i:=0) rfl (v:=.slice a3 n3 c3) rfl) (tm':=zq1 (zq8 (zq32 (zq32 [])))) rfl ?_
     refine xbz (ms rfl rfl (dff cc10)) (fun h_ H_=>xaq (v:=.int .i64 (((l:Nat):Int))) rfl) rfl ?_
     refine xbz (ms rfl rfl (dff cc10)) (fun h_ H_=>xcz (i:=l) Tryd.underlying23 tS43 (xkq a3 n3 c3 (T.y.ne (by omega))) rfl (by omega)) (tm':=zq1 (zq8 (zq32 (zq32 [])))) rfl ?_
     refine xbz (ms rfl rfl (dff cc10)) (fun h_ H_=>xaz xpk rfl (a':=((adr a3).add (l*2)).add 1) rfl) rfl ?_
     refine xbz (ms rfl rfl (dff cc10)) (fun h_ H_=>xbv H_ tA3 rfl (v:=.int .i64 ((t.wy.getD l wz).2)) (T.y.we (by omega))) (tm':=zq1 (zq8 (zq32 (zq32 [])))) rfl ?_
     refine xik (ms rfl rfl (dff cc10)) (first:=[]) (cap:=[]) rfl rfl fC62 (fun h_ H_=>(c62 md _ _ H_.pe _ _ _ _ _ _ _ _ _ t (show TownP _ _ _ _ _ _ _ t from ⟨T.h,T.w,T.y⟩) (by omega) _ _ _ _ D (by omega) (fun i hi=>by have z_:=h1 i (by omega);unfold dv;omega) ((t.wy.getD l wz).2)).mono fun v_ h2_ ⟨e_,k_⟩=>⟨e_,H_.call k_⟩) rfl ?_
     refine xbz (ms rfl rfl (dff cc10)) (fun h_ H_=>xaz xnj rfl (a':=⟨b1,1,none⟩) rfl) (tm':=zq1 (zq8 (zq32 (zq32 [])))) rfl ?_
     refine xbz (ms rfl rfl (dff cc10)) (fun h_ H_=>xaj H_ tA22 rfl (i:=0) rfl (v:=.slice a2 n2 c2) rfl) rfl ?_
     refine xbz (ms rfl rfl (dff cc10)) (fun h_ H_=>xaz xhv rfl (a':=⟨b1,2,none⟩) rfl) (tm':=zq1 (zq8 (zq32 (zq32 [])))) rfl ?_
     refine xbz (ms rfl rfl (dff cc10)) (fun h_ H_=>xaj H_ tA23 rfl (i:=0) rfl (v:=.slice a3 n3 c3) rfl) rfl ?_
     refine xbz (ms rfl rfl (dff cc10)) (fun h_ H_=>xaq (v:=.int .i64 (((l:Nat):Int))) rfl) (tm':=zq1 (zq8 (zq32 (zq32 [])))) rfl ?_
     refine xbz (ms rfl rfl (dff cc10)) (fun h_ H_=>xcz (i:=l) Tryd.underlying23 tS43 (xkq a3 n3 c3 (T.y.ne (by omega))) rfl (by omega)) rfl ?_
     refine xbz (ms rfl rfl (dff cc10)) (fun h_ H_=>xaz xpk rfl (a':=((adr a3).add (l*2)).add 1) rfl) (tm':=zq1 (zq8 (zq32 (zq32 [])))) rfl ?_
     refine xbz (ms rfl rfl (dff cc10)) (fun h_ H_=>xbv H_ tA3 rfl (v:=.int .i64 ((t.wy.getD l wz).2)) (T.y.we (by omega))) rfl ?_
     refine xbz (ms rfl rfl (dff cc10)) (fun h_ H_=>xlx Tryd.underlying22 tS3 (xkq a2 n2 c2 (T.w.ne (by omega))) rfl (by omega) (by omega) (a':=(adr a2).add (((((t.wy.getD l wz).2)).toNat)*1)) rfl) (tm':=zq1 (zq8 (zq32 (zq32 [])))) rfl ?_
     refine xbz (ms rfl rfl (dff cc10)) (fun h_ H_=>xbv H_ tA3 rfl (v:=.int .i64 (t.ws.getD ((((t.wy.getD l wz).2)).toNat) 0)) (T.w.get (by omega))) rfl ?_
     refine xiz rfl ?_
     refine xaw (ms rfl rfl (dff cc10)) (fun h_ H_=>xix rfl rfl) rfl ?_
     refine ro (xcq rfl (dff cc10) (v:=.bool (decide (t.ws.getD ((((t.wy.getD l wz).2)).toNat) 0<giveI t d d.length ((t.wy.getD l wz).2)))) rfl) <| xak ?_
     by_cases cc11:t.ws.getD ((((t.wy.getD l wz).2)).toNat) 0<giveI t d d.length ((t.wy.getD l wz).2)
     ·
      refine xdk rfl (dtt cc11) <| fsr <| rt (xax (v:=.bool (false)) rfl) (tm':=zq1 (zq4 _)) rfl <| xak ?_
      refine xew Tryd.func31 rfl (vs:=[.bool (false)]) (fun h_ H_=>⟨.bool (false),_,rfl,rfl,rfl⟩) (v:=.bool (false)) rfl ?_
      exact fun h_ H_=>K _ _ ⟨by first | (rw [decide_eq_true (p:=DivI t d) ⟨by have hl:=D.len;omega,fun i hi=>h1 i (by have hl:=D.len;omega),fun i hi=>h2 i (by have hl:=D.len;omega)⟩]) | (rw [decide_eq_false (p:=DivI t d) (fun z=>by have z1:=z.len;have hl:=D.len;first | omega | (have z3:=z.pos k (by omega);omega) | (have z3:=z.at_ l (by omega);unfold DivAt at z3;omega))]),H_.kept⟩
     ·
      refine xcv rfl (dff cc11) <| xdq <| xeq <| xbq <| ro (xaq (v:=.int .i64 (((l:Nat):Int))) rfl) ?_
      refine ro (xfx rfl rfl (n:=((l+1:Nat):Int)) (wr (by omega))) ?_
      refine rt (xax (v:=.int .i64 (((l+1:Nat):Int))) rfl) (tm':=zq1 (zq2 (zq4 _))) rfl <| xak ?_
      exact fun h_ H_=>IH8 _ _ (by omega) h_ ⟨l+1,rfl,(y_of rfl),(by omega),(xqw h2 ⟨by omega,by omega⟩),H_⟩
   ·
    refine xcv rfl (dff cc9) <| xiq rfl <| fsr <| ro (xax (v:=.bool (true)) rfl) <| xak ?_
    refine xew Tryd.func31 rfl (vs:=[.bool (true)]) (fun h_ H_=>⟨.bool (true),_,rfl,rfl,rfl⟩) (v:=.bool (true)) rfl ?_
    exact fun h_ H_=>K _ _ ⟨by first | (rw [decide_eq_true (p:=DivI t d) ⟨by have hl:=D.len;omega,fun i hi=>h1 i (by have hl:=D.len;omega),fun i hi=>h2 i (by have hl:=D.len;omega)⟩]) | (rw [decide_eq_false (p:=DivI t d) (fun z=>by have z1:=z.len;have hl:=D.len;first | omega | (have z3:=z.pos k (by omega);omega) | (have z3:=z.at_ l (by omega);unfold DivAt at z3;omega))]),H_.kept⟩
end Go.Proofs.YtalfgojocdonhaaDoor
namespace Go.Proofs.YtalfgojocdonhaaDoor
open Go.X Go.X.Flow Go.Conc
set_option maxRecDepth 10000
set_option synthInstance.maxSize 2000

set_option maxHeartbeats 2000000
theorem c29 (md:Md) (h:Heap) (p:PHeap) (hp:Per p h) (a:Option Addr) (n c:Nat) (xs:List Int) (A:Ints p a n xs) (hn:n≤100∧n≤c) (z:Int):CallsX Tryd.prog md 29 #[.slice a n c,.int .i64 (z)] h fun v h'=>∃ w X,v=w∧OwnS 3 1 w (ics (put xs z)) X∧New h h' X:=by
 refine xcw (Φ:=fun h_=>St h [] p h_ []) Tryd.func29 rfl (tm:=zq32 []) rfl ?_ (St.start h _ hp)
 intro c₀ cs Stop K
 have hl:=A.len
 refine fsr <| ro (xax (v:=.slice none 0 0) rfl) <| ren <| xbq <| ro (xax (v:=.int .i64 0) rfl) <| ren ?_
 refine xek ?_
 refine xiv (m₀:=n-0) (fun m_ tm_ h_=>∃ (k:Nat),m_=n-k∧(∃ y1:Nat→Value,tm_=(.slice a n c::.int .i64 (z)::undef::undef::.slice none 0 0::.int .i64 (((k:Nat):Int))::(y1 6)::(y1 7)::(y1 8)::(y1 9)::(y1 10)::(y1 11)::(y1 12)::(y1 13)::(y1 14)::(y1 15)::(y1 16)::(y1 17)::(y1 18)::(y1 19)::zu4 (zu8 [])))∧(k≤n)∧(∀ i,i<k→z≤xs.getD i 0)∧St h [] p h_ ([])) (fun h_ H_=>⟨0,rfl,(y_of rfl),Nat.zero_le _,(fun i hi=>absurd hi (Nat.not_lt_zero i)),H_⟩) ?_
 intro m_ tm_ IH2
 refine xij fun k=>xdz fun hm_=>xdz fun ht_=>xdz fun hk=>xdz fun hs=>?_
 subst hm_;obtain ⟨y1,ht_⟩:=ht_;subst ht_
 refine xej <| fsr <| rt (xaq (v:=.int .i64 (((k:Nat):Int))) rfl) (tm':=zq1 (zq2 (zq4 _))) rfl <| ro (xaq (v:=.slice a n c) rfl) <| ro (xfk Tryd.underlying22 rfl) <| rt (xgw rfl rfl) (tm':=zq2 (zq8 _)) rfl ?_
 refine ro (xaq (v:=.bool (decide (((k:Nat):Int)<((n:Nat):Int)))) rfl) ?_
 by_cases cc3:((k:Nat):Int)<((n:Nat):Int)
 ·
  refine xaw (ms rfl rfl (dtt cc3)) (fun h_ H_=>xaq (v:=.slice a n c) rfl) rfl ?_
  refine xaw (ms rfl rfl (dtt cc3)) (fun h_ H_=>xaq (v:=.int .i64 (((k:Nat):Int))) rfl) (tm':=zq1 (zq4 (zq8 _))) rfl ?_
  refine xaw (ms rfl rfl (dtt cc3)) (fun h_ H_=>xcz (i:=k) Tryd.underlying22 tS3 (xkq a n c (A.ne (by omega))) rfl (by omega)) rfl ?_
  refine xaw (ms rfl rfl (dtt cc3)) (fun h_ H_=>xbv H_ tA3 rfl (v:=.int .i64 (xs.getD k 0)) (A.get (by omega))) rfl ?_
  refine xaw (ms rfl rfl (dtt cc3)) (fun h_ H_=>xaq (v:=.int .i64 (z)) rfl) (tm':=zq16 _) rfl ?_
  refine xaw (ms rfl rfl (dtt cc3)) (fun h_ H_=>xuj rfl rfl) rfl ?_
  refine ro (xbj rfl (dtt cc3) (v:=.bool (decide (z≤xs.getD k 0))) rfl) <| xak ?_
  by_cases cc4:z≤xs.getD k 0
  ·
   refine xdk rfl (dtt cc4) <| xdq <| xek <| xbq <| rt (xaq (v:=.int .i64 (((k:Nat):Int))) rfl) (tm':=zq1 (zq2 (zq16 _))) rfl ?_
   refine ro (xfx rfl rfl (n:=((k+1:Nat):Int)) (wr (by omega))) ?_
   refine ro (xax (v:=.int .i64 (((k+1:Nat):Int))) rfl) <| xak <| xeq ?_
   exact fun h_ H_=>IH2 _ _ (by omega) h_ ⟨k+1,rfl,(y_of rfl),(by omega),(xqw hs (by omega)),H_⟩
  ·
   refine xcv rfl (dff cc4) <| xiq rfl <| xej ?_
   refine ybx (xnq (C:=[]) (A:=([]:Pcs)) 11 [[],[],[],[1,2],[0,1,2,3],[],[5],[0,1,2,3,4,5,6],[],[],[8,9],[],[]] [] [7] [1,2,3,5,8,9,10] (fun _=>[]) (fun i_=>match i_ with | 4=>[0] | 7=>[4,6] | _=>[]) (fun i_=>match i_ with | 0=>[] | 1=>[] | 2=>[] | 3=>[1,2] | 4=>[0,3] | 5=>[] | 6=>[5] | 7=>[4,6] | 8=>[] | 9=>[] | 10=>[8,9] | _=>[]) (fun i_ val_ pc_ v_ x_=>match i_ with | 0=>OwnS 3 1 v_ [] x_ | 1=>v_= .slice a n c∧x_=[] | 2=>v_= .int .i64 (((k:Nat):Int))∧x_=[] | 3=>v_= .slice (cutA a c 0 1) k c∧x_=[] | 4=>OwnS 3 1 v_ ([]++((xs.take k).map fun x=>[Value.int .i64 x])) x_ | 5=>v_= .int .i64 (z)∧x_=[] | 6=>OwnS 3 1 v_ [[.int .i64 (z)]] x_ | 7=>OwnS 3 1 v_ (([]++((xs.take k).map fun x=>[Value.int .i64 x]))++[[.int .i64 (z)]]) x_ | 8=>v_= .slice a n c∧x_=[] | 9=>v_= .int .i64 (((k:Nat):Int))∧x_=[] | 10=>v_= .slice (cutA a c k 1) (n-k) (c-k)∧x_=[] | _=>True) (fun val5=>[.slice a n c,.int .i64 (z),undef,undef,.slice none 0 0,.int .i64 (((k:Nat):Int)),.int .i64 (((k:Nat):Int)),.slice a n c,.int .i64 (((n:Nat):Int)),.bool (decide (((k:Nat):Int)<((n:Nat):Int))),.bool (decide (((k:Nat):Int)<((n:Nat):Int))),.slice a n c,.int .i64 (((k:Nat):Int)),.pointer (some ((adr a).add (k*1))),.int .i64 (xs.getD k 0),.int .i64 (z),.bool (decide (z≤xs.getD k 0)),.bool (decide (z≤xs.getD k 0)),(y1 18),(y1 19),(val5 0),(val5 1),(val5 2),(val5 3),(val5 4),(val5 5),(val5 6),(val5 7),(val5 8),(val5 9),(val5 10),undef]) xlq (by kernel_rfl) (Nat.le_of_ble_eq_true rfl) (by kernel_rfl) (by kernel_rfl) (by kernel_rfl) (fun _ _=>⟨fun _ _ h=>h.2,⟨fun _ _ h=>h.2,⟨fun _ _ h=>h.2,⟨fun _ _ h=>h.2,⟨fun _ _ h=>h.2,⟨fun _ _ h=>h.2,⟨fun _ _ h=>h.2,trivial⟩⟩⟩⟩⟩⟩⟩) (fun _=>by kernel_rfl) (by kernel_rfl) ?_ ?_) (fun h_ H_=>St.swap (A:=([]:Pcs)) (U:=[]) H_)
   ·
    refine xbx rfl (xez ?_) ?_
    ·
     intro val5 pc6 hQ_ hX_
     obtain ⟨q_,hq0_⟩: ∃ q_:Value→Pcs→Prop,q_=(fun v_ x_=>OwnS 3 1 v_ [] x_):=⟨_,rfl⟩
     refine ⟨(zq32 []),[],q_,rfl,rfl,(fun _ _ z_=>by subst hq0_;exact z_),?_⟩
     subst hq0_
     exact xoz mn Tryd.underlying22 tS3 tZ3 (Nat.le_of_ble_eq_true rfl) (vs:=[]) rfl rfl (es:=[]) rfl rfl rfl fun _ _ o_=>o_
    refine xbx rfl (xez ?_) ?_
    ·
     intro val5 pc6 hQ_ hX_
     obtain ⟨q_,hq0_⟩: ∃ q_:Value→Pcs→Prop,q_=(fun v_ x_=>v_= .slice a n c∧x_=[]):=⟨_,rfl⟩
     refine ⟨(zq32 []),[],q_,rfl,rfl,(fun _ _ z_=>by subst hq0_;exact z_),?_⟩
     subst hq0_
     exact xdw mn (fun _ h_ H_=>xaq (v:=.slice a n c) rfl) ⟨rfl,rfl⟩
    refine xbx rfl (xez ?_) ?_
    ·
     intro val5 pc6 hQ_ hX_
     obtain ⟨q_,hq0_⟩: ∃ q_:Value→Pcs→Prop,q_=(fun v_ x_=>v_= .int .i64 (((k:Nat):Int))∧x_=[]):=⟨_,rfl⟩
     refine ⟨(zq32 []),[],q_,rfl,rfl,(fun _ _ z_=>by subst hq0_;exact z_),?_⟩
     subst hq0_
     exact xdw mn (fun _ h_ H_=>xaq (v:=.int .i64 (((k:Nat):Int))) rfl) ⟨rfl,rfl⟩
    refine xbx rfl (xez ?_) ?_
    ·
     intro val5 pc6 hQ_ hX_
     have e1_:val5 1= .slice a n c:=(hQ_ 1 rfl).1
     have e2_:val5 2= .int .i64 (((k:Nat):Int)):=(hQ_ 2 rfl).1
     obtain ⟨q_,hq0_⟩: ∃ q_:Value→Pcs→Prop,q_=(fun v_ x_=>v_= .slice (cutA a c 0 1) k c∧x_=[]):=⟨_,rfl⟩
     refine ⟨(zq32 []),[],q_,(by rw [e1_,e2_]),rfl,(fun _ _ z_=>by subst hq0_;exact z_),?_⟩
     subst hq0_
     exact xdw mn (fun _ h_ H_=>ylz Tryd.underlying22 tS3 rfl (.none _) (.nat (z:=k) _ rfl) (by omega) (by omega)) ⟨rfl,rfl⟩
    refine xbx rfl (xez ?_) ?_
    ·
     intro val5 pc6 hQ_ hX_
     have q0_:OwnS 3 1 (val5 0) [] (pc6 0):=hQ_ 0 rfl
     have e3_:val5 3= .slice (cutA a c 0 1) k c:=(hQ_ 3 rfl).1
     obtain ⟨q_,hq0_⟩: ∃ q_:Value→Pcs→Prop,q_=(fun v_ x_=>OwnS 3 1 v_ ([]++((xs.take k).map fun x=>[Value.int .i64 x])) x_):=⟨_,rfl⟩
     refine ⟨(zq32 []),((pc6 0)++[]),q_,(by rw [e3_]),rfl,(fun _ _ z_=>by subst hq0_;exact z_),?_⟩
     subst hq0_
     exact xuw mn Tryd.underlying22 tS3 tZ3 rfl tB3 Tryd.underlying22 rfl rfl q0_ (Ints.pre A (by omega) (by omega)) (xsv _) (by first | omega | (simp;omega) | simp) (by decide) (by decide) fun _ _ o_=>o_
    refine xbx rfl (xez ?_) ?_
    ·
     intro val5 pc6 hQ_ hX_
     obtain ⟨q_,hq0_⟩: ∃ q_:Value→Pcs→Prop,q_=(fun v_ x_=>v_= .int .i64 (z)∧x_=[]):=⟨_,rfl⟩
     refine ⟨(zq32 []),[],q_,rfl,rfl,(fun _ _ z_=>by subst hq0_;exact z_),?_⟩
     subst hq0_
     exact xdw mn (fun _ h_ H_=>xaq (v:=.int .i64 (z)) rfl) ⟨rfl,rfl⟩
    refine xbx rfl (xez ?_) ?_
    ·
     intro val5 pc6 hQ_ hX_
     have e5_:val5 5= .int .i64 (z):=(hQ_ 5 rfl).1
     obtain ⟨q_,hq0_⟩: ∃ q_:Value→Pcs→Prop,q_=(fun v_ x_=>OwnS 3 1 v_ [[.int .i64 (z)]] x_):=⟨_,rfl⟩
     refine ⟨(zq32 []),[],q_,(by rw [e5_]),rfl,(fun _ _ z_=>by subst hq0_;exact z_),?_⟩
     subst hq0_
     exact xoz mn Tryd.underlying22 tS3 tZ3 (Nat.le_of_ble_eq_true rfl) (vs:=[(0,.int .i64 (z))]) rfl rfl (es:=[[.int .i64 (z)]]) rfl rfl rfl fun _ _ o_=>o_
    refine xbx rfl (xez ?_) ?_
    ·
     intro val5 pc6 hQ_ hX_
     have q4_:OwnS 3 1 (val5 4) ([]++((xs.take k).map fun x=>[Value.int .i64 x])) (pc6 4):=hQ_ 4 rfl
     have q6_:OwnS 3 1 (val5 6) [[.int .i64 (z)]] (pc6 6):=hQ_ 6 rfl
     obtain ⟨q_,hq0_⟩: ∃ q_:Value→Pcs→Prop,q_=(fun v_ x_=>OwnS 3 1 v_ (([]++((xs.take k).map fun x=>[Value.int .i64 x]))++[[.int .i64 (z)]]) x_):=⟨_,rfl⟩
     refine ⟨(zq32 []),((pc6 4)++((pc6 6)++[])),q_,rfl,rfl,(fun _ _ z_=>by subst hq0_;exact z_),?_⟩
     subst hq0_
     exact zav mn Tryd.underlying22 tS3 tZ3 rfl tB3 Tryd.underlying22 rfl rfl q4_ q6_ (xxv rfl) (by first | omega | (simp;omega) | simp) (by decide) fun _ _ o_=>o_
    refine xbx rfl (xez ?_) ?_
    ·
     intro val5 pc6 hQ_ hX_
     obtain ⟨q_,hq0_⟩: ∃ q_:Value→Pcs→Prop,q_=(fun v_ x_=>v_= .slice a n c∧x_=[]):=⟨_,rfl⟩
     refine ⟨(zq32 []),[],q_,rfl,rfl,(fun _ _ z_=>by subst hq0_;exact z_),?_⟩
     subst hq0_
     exact xdw mn (fun _ h_ H_=>xaq (v:=.slice a n c) rfl) ⟨rfl,rfl⟩
    refine xbx rfl (xez ?_) ?_
    ·
     intro val5 pc6 hQ_ hX_
     obtain ⟨q_,hq0_⟩: ∃ q_:Value→Pcs→Prop,q_=(fun v_ x_=>v_= .int .i64 (((k:Nat):Int))∧x_=[]):=⟨_,rfl⟩
     refine ⟨(zq32 []),[],q_,rfl,rfl,(fun _ _ z_=>by subst hq0_;exact z_),?_⟩
     subst hq0_
     exact xdw mn (fun _ h_ H_=>xaq (v:=.int .i64 (((k:Nat):Int))) rfl) ⟨rfl,rfl⟩
    refine xbx rfl (xez ?_) ?_
    ·
     intro val5 pc6 hQ_ hX_
     have e8_:val5 8= .slice a n c:=(hQ_ 8 rfl).1
     have e9_:val5 9= .int .i64 (((k:Nat):Int)):=(hQ_ 9 rfl).1
     obtain ⟨q_,hq0_⟩: ∃ q_:Value→Pcs→Prop,q_=(fun v_ x_=>v_= .slice (cutA a c k 1) (n-k) (c-k)∧x_=[]):=⟨_,rfl⟩
     refine ⟨(zq32 []),[],q_,(by rw [e8_,e9_]),rfl,(fun _ _ z_=>by subst hq0_;exact z_),?_⟩
     subst hq0_
     exact xdw mn (fun _ h_ H_=>ylz Tryd.underlying22 tS3 rfl (.nat (z:=k) _ rfl) (.none _) (by omega) (by omega)) ⟨rfl,rfl⟩
    exact xmw rfl
   intro val5 pc6 hQ_ hX_
   have e1_:val5 1= .slice a n c:=(hQ_ 1 (by decide)).1
   have e2_:val5 2= .int .i64 (((k:Nat):Int)):=(hQ_ 2 (by decide)).1
   have e3_:val5 3= .slice (cutA a c 0 1) k c:=(hQ_ 3 (by decide)).1
   have e5_:val5 5= .int .i64 (z):=(hQ_ 5 (by decide)).1
   have q7_:OwnS 3 1 (val5 7) (([]++((xs.take k).map fun x=>[Value.int .i64 x]))++[[.int .i64 (z)]]) (pc6 7):=hQ_ 7 (by decide)
   have e8_:val5 8= .slice a n c:=(hQ_ 8 (by decide)).1
   have e9_:val5 9= .int .i64 (((k:Nat):Int)):=(hQ_ 9 (by decide)).1
   have e10_:val5 10= .slice (cutA a c k 1) (n-k) (c-k):=(hQ_ 10 (by decide)).1
   clear hQ_ hX_
   refine yax (Φ:=fun h_=>St h [] p h_ (([]:Pcs)++(pc6 7++[]))) ?_ (fun h_ H_=>H_.swap')
   refine xgx (tm':=(zq32 [])) (by rw [e1_,e2_,e3_,e5_,e8_,e9_,e10_]) ?_
   have o12:=q7_
   refine yaz ([]:Pcs) (pc6 7) mn Tryd.underlying22 tS3 tZ3 rfl tB3 Tryd.underlying22 rfl rfl o12 (Ints.suf A (by omega) (by omega)) (xsv _) (by first | omega | (simp;omega) | simp) (by decide) (by decide) fun v13 X14 o15=>?_
   refine xgx (tm':=zq32 []) rfl ?_
   refine ro (xax (v:=v13) rfl) <| xak ?_
   refine xew Tryd.func29 rfl (vs:=[v13]) (fun h_ H_=>⟨v13,_,rfl,rfl,rfl⟩) (v:=v13) rfl ?_
   have hpt:=wlk (k:=k) (xs:=xs) (z:=z) (by omega) hs (by first | (left;omega) | (right;omega))
   exact fun h_ H_=>K _ _ ⟨_,_,rfl,(o15.as (by rw [hpt];simp [ics])),by simpa using H_.dropA.new⟩
 ·
  refine rp (mo rfl rfl (dff cc3)) <| xfq (mo rfl rfl (dff cc3)) (tm':=zq1 (zq4 (zq8 _))) rfl <| rp (mo rfl rfl (dff cc3)) <| rp (mo rfl rfl (dff cc3)) <| xfq (mo rfl rfl (dff cc3)) (tm':=zq16 _) rfl <| rp (mo rfl rfl (dff cc3)) ?_
  refine ro (xcq rfl (dff cc3) (v:=.bool (false)) rfl) <| xak <| xcv rfl rfl <| xiq rfl <| xej ?_
  refine ybx (xnq (C:=[]) (A:=([]:Pcs)) 11 [[],[],[],[1,2],[0,1,2,3],[],[5],[0,1,2,3,4,5,6],[],[],[8,9],[],[]] [] [7] [1,2,3,5,8,9,10] (fun _=>[]) (fun i_=>match i_ with | 4=>[0] | 7=>[4,6] | _=>[]) (fun i_=>match i_ with | 0=>[] | 1=>[] | 2=>[] | 3=>[1,2] | 4=>[0,3] | 5=>[] | 6=>[5] | 7=>[4,6] | 8=>[] | 9=>[] | 10=>[8,9] | _=>[]) (fun i_ val_ pc_ v_ x_=>match i_ with | 0=>OwnS 3 1 v_ [] x_ | 1=>v_= .slice a n c∧x_=[] | 2=>v_= .int .i64 (((k:Nat):Int))∧x_=[] | 3=>v_= .slice (cutA a c 0 1) k c∧x_=[] | 4=>OwnS 3 1 v_ ([]++((xs.take k).map fun x=>[Value.int .i64 x])) x_ | 5=>v_= .int .i64 (z)∧x_=[] | 6=>OwnS 3 1 v_ [[.int .i64 (z)]] x_ | 7=>OwnS 3 1 v_ (([]++((xs.take k).map fun x=>[Value.int .i64 x]))++[[.int .i64 (z)]]) x_ | 8=>v_= .slice a n c∧x_=[] | 9=>v_= .int .i64 (((k:Nat):Int))∧x_=[] | 10=>v_= .slice (cutA a c k 1) (n-k) (c-k)∧x_=[] | _=>True) (fun val16=>[.slice a n c,.int .i64 (z),undef,undef,.slice none 0 0,.int .i64 (((k:Nat):Int)),.int .i64 (((k:Nat):Int)),.slice a n c,.int .i64 (((n:Nat):Int)),.bool (decide (((k:Nat):Int)<((n:Nat):Int))),.bool (decide (((k:Nat):Int)<((n:Nat):Int))),undef,undef,undef,undef,undef,undef,.bool (false),(y1 18),(y1 19),(val16 0),(val16 1),(val16 2),(val16 3),(val16 4),(val16 5),(val16 6),(val16 7),(val16 8),(val16 9),(val16 10),undef]) xlq (by kernel_rfl) (Nat.le_of_ble_eq_true rfl) (by kernel_rfl) (by kernel_rfl) (by kernel_rfl) (fun _ _=>⟨fun _ _ h=>h.2,⟨fun _ _ h=>h.2,⟨fun _ _ h=>h.2,⟨fun _ _ h=>h.2,⟨fun _ _ h=>h.2,⟨fun _ _ h=>h.2,⟨fun _ _ h=>h.2,trivial⟩⟩⟩⟩⟩⟩⟩) (fun _=>by kernel_rfl) (by kernel_rfl) ?_ ?_) (fun h_ H_=>St.swap (A:=([]:Pcs)) (U:=[]) H_)
  ·
   refine xbx rfl (xez ?_) ?_
   ·
    intro val16 pc17 hQ_ hX_
    obtain ⟨q_,hq0_⟩: ∃ q_:Value→Pcs→Prop,q_=(fun v_ x_=>OwnS 3 1 v_ [] x_):=⟨_,rfl⟩
    refine ⟨(zq32 []),[],q_,rfl,rfl,(fun _ _ z_=>by subst hq0_;exact z_),?_⟩
    subst hq0_
    exact xoz mn Tryd.underlying22 tS3 tZ3 (Nat.le_of_ble_eq_true rfl) (vs:=[]) rfl rfl (es:=[]) rfl rfl rfl fun _ _ o_=>o_
   refine xbx rfl (xez ?_) ?_
   ·
    intro val16 pc17 hQ_ hX_
    obtain ⟨q_,hq0_⟩: ∃ q_:Value→Pcs→Prop,q_=(fun v_ x_=>v_= .slice a n c∧x_=[]):=⟨_,rfl⟩
    refine ⟨(zq32 []),[],q_,rfl,rfl,(fun _ _ z_=>by subst hq0_;exact z_),?_⟩
    subst hq0_
    exact xdw mn (fun _ h_ H_=>xaq (v:=.slice a n c) rfl) ⟨rfl,rfl⟩
   refine xbx rfl (xez ?_) ?_
   ·
    intro val16 pc17 hQ_ hX_
    obtain ⟨q_,hq0_⟩: ∃ q_:Value→Pcs→Prop,q_=(fun v_ x_=>v_= .int .i64 (((k:Nat):Int))∧x_=[]):=⟨_,rfl⟩
    refine ⟨(zq32 []),[],q_,rfl,rfl,(fun _ _ z_=>by subst hq0_;exact z_),?_⟩
    subst hq0_
    exact xdw mn (fun _ h_ H_=>xaq (v:=.int .i64 (((k:Nat):Int))) rfl) ⟨rfl,rfl⟩
   refine xbx rfl (xez ?_) ?_
   ·
    intro val16 pc17 hQ_ hX_
    have e1_:val16 1= .slice a n c:=(hQ_ 1 rfl).1
    have e2_:val16 2= .int .i64 (((k:Nat):Int)):=(hQ_ 2 rfl).1
    obtain ⟨q_,hq0_⟩: ∃ q_:Value→Pcs→Prop,q_=(fun v_ x_=>v_= .slice (cutA a c 0 1) k c∧x_=[]):=⟨_,rfl⟩
    refine ⟨(zq32 []),[],q_,(by rw [e1_,e2_]),rfl,(fun _ _ z_=>by subst hq0_;exact z_),?_⟩
    subst hq0_
    exact xdw mn (fun _ h_ H_=>ylz Tryd.underlying22 tS3 rfl (.none _) (.nat (z:=k) _ rfl) (by omega) (by omega)) ⟨rfl,rfl⟩
   refine xbx rfl (xez ?_) ?_
   ·
    intro val16 pc17 hQ_ hX_
    have q0_:OwnS 3 1 (val16 0) [] (pc17 0):=hQ_ 0 rfl
    have e3_:val16 3= .slice (cutA a c 0 1) k c:=(hQ_ 3 rfl).1
    obtain ⟨q_,hq0_⟩: ∃ q_:Value→Pcs→Prop,q_=(fun v_ x_=>OwnS 3 1 v_ ([]++((xs.take k).map fun x=>[Value.int .i64 x])) x_):=⟨_,rfl⟩
    refine ⟨(zq32 []),((pc17 0)++[]),q_,(by rw [e3_]),rfl,(fun _ _ z_=>by subst hq0_;exact z_),?_⟩
    subst hq0_
    exact xuw mn Tryd.underlying22 tS3 tZ3 rfl tB3 Tryd.underlying22 rfl rfl q0_ (Ints.pre A (by omega) (by omega)) (xsv _) (by first | omega | (simp;omega) | simp) (by decide) (by decide) fun _ _ o_=>o_
   refine xbx rfl (xez ?_) ?_
   ·
    intro val16 pc17 hQ_ hX_
    obtain ⟨q_,hq0_⟩: ∃ q_:Value→Pcs→Prop,q_=(fun v_ x_=>v_= .int .i64 (z)∧x_=[]):=⟨_,rfl⟩
    refine ⟨(zq32 []),[],q_,rfl,rfl,(fun _ _ z_=>by subst hq0_;exact z_),?_⟩
    subst hq0_
    exact xdw mn (fun _ h_ H_=>xaq (v:=.int .i64 (z)) rfl) ⟨rfl,rfl⟩
   refine xbx rfl (xez ?_) ?_
   ·
    intro val16 pc17 hQ_ hX_
    have e5_:val16 5= .int .i64 (z):=(hQ_ 5 rfl).1
    obtain ⟨q_,hq0_⟩: ∃ q_:Value→Pcs→Prop,q_=(fun v_ x_=>OwnS 3 1 v_ [[.int .i64 (z)]] x_):=⟨_,rfl⟩
    refine ⟨(zq32 []),[],q_,(by rw [e5_]),rfl,(fun _ _ z_=>by subst hq0_;exact z_),?_⟩
    subst hq0_
    exact xoz mn Tryd.underlying22 tS3 tZ3 (Nat.le_of_ble_eq_true rfl) (vs:=[(0,.int .i64 (z))]) rfl rfl (es:=[[.int .i64 (z)]]) rfl rfl rfl fun _ _ o_=>o_
   refine xbx rfl (xez ?_) ?_
   ·
    intro val16 pc17 hQ_ hX_
    have q4_:OwnS 3 1 (val16 4) ([]++((xs.take k).map fun x=>[Value.int .i64 x])) (pc17 4):=hQ_ 4 rfl
    have q6_:OwnS 3 1 (val16 6) [[.int .i64 (z)]] (pc17 6):=hQ_ 6 rfl
    obtain ⟨q_,hq0_⟩: ∃ q_:Value→Pcs→Prop,q_=(fun v_ x_=>OwnS 3 1 v_ (([]++((xs.take k).map fun x=>[Value.int .i64 x]))++[[.int .i64 (z)]]) x_):=⟨_,rfl⟩
    refine ⟨(zq32 []),((pc17 4)++((pc17 6)++[])),q_,rfl,rfl,(fun _ _ z_=>by subst hq0_;exact z_),?_⟩
    subst hq0_
    exact zav mn Tryd.underlying22 tS3 tZ3 rfl tB3 Tryd.underlying22 rfl rfl q4_ q6_ (xxv rfl) (by first | omega | (simp;omega) | simp) (by decide) fun _ _ o_=>o_
   refine xbx rfl (xez ?_) ?_
   ·
    intro val16 pc17 hQ_ hX_
    obtain ⟨q_,hq0_⟩: ∃ q_:Value→Pcs→Prop,q_=(fun v_ x_=>v_= .slice a n c∧x_=[]):=⟨_,rfl⟩
    refine ⟨(zq32 []),[],q_,rfl,rfl,(fun _ _ z_=>by subst hq0_;exact z_),?_⟩
    subst hq0_
    exact xdw mn (fun _ h_ H_=>xaq (v:=.slice a n c) rfl) ⟨rfl,rfl⟩
   refine xbx rfl (xez ?_) ?_
   ·
    intro val16 pc17 hQ_ hX_
    obtain ⟨q_,hq0_⟩: ∃ q_:Value→Pcs→Prop,q_=(fun v_ x_=>v_= .int .i64 (((k:Nat):Int))∧x_=[]):=⟨_,rfl⟩
    refine ⟨(zq32 []),[],q_,rfl,rfl,(fun _ _ z_=>by subst hq0_;exact z_),?_⟩
    subst hq0_
    exact xdw mn (fun _ h_ H_=>xaq (v:=.int .i64 (((k:Nat):Int))) rfl) ⟨rfl,rfl⟩
   refine xbx rfl (xez ?_) ?_
   ·
    intro val16 pc17 hQ_ hX_
    have e8_:val16 8= .slice a n c:=(hQ_ 8 rfl).1
    have e9_:val16 9= .int .i64 (((k:Nat):Int)):=(hQ_ 9 rfl).1
    obtain ⟨q_,hq0_⟩: ∃ q_:Value→Pcs→Prop,q_=(fun v_ x_=>v_= .slice (cutA a c k 1) (n-k) (c-k)∧x_=[]):=⟨_,rfl⟩
    refine ⟨(zq32 []),[],q_,(by rw [e8_,e9_]),rfl,(fun _ _ z_=>by subst hq0_;exact z_),?_⟩
    subst hq0_
    exact xdw mn (fun _ h_ H_=>ylz Tryd.underlying22 tS3 rfl (.nat (z:=k) _ rfl) (.none _) (by omega) (by omega)) ⟨rfl,rfl⟩
   exact xmw rfl
  intro val16 pc17 hQ_ hX_
  have e1_:val16 1= .slice a n c:=(hQ_ 1 (by decide)).1
  have e2_:val16 2= .int .i64 (((k:Nat):Int)):=(hQ_ 2 (by decide)).1
  have e3_:val16 3= .slice (cutA a c 0 1) k c:=(hQ_ 3 (by decide)).1
  have e5_:val16 5= .int .i64 (z):=(hQ_ 5 (by decide)).1
  have q7_:OwnS 3 1 (val16 7) (([]++((xs.take k).map fun x=>[Value.int .i64 x]))++[[.int .i64 (z)]]) (pc17 7):=hQ_ 7 (by decide)
  have e8_:val16 8= .slice a n c:=(hQ_ 8 (by decide)).1
  have e9_:val16 9= .int .i64 (((k:Nat):Int)):=(hQ_ 9 (by decide)).1
  have e10_:val16 10= .slice (cutA a c k 1) (n-k) (c-k):=(hQ_ 10 (by decide)).1
  clear hQ_ hX_
  refine yax (Φ:=fun h_=>St h [] p h_ (([]:Pcs)++(pc17 7++[]))) ?_ (fun h_ H_=>H_.swap')
  refine xgx (tm':=(zq32 [])) (by rw [e1_,e2_,e3_,e5_,e8_,e9_,e10_]) ?_
  have o23:=q7_
  refine yaz ([]:Pcs) (pc17 7) mn Tryd.underlying22 tS3 tZ3 rfl tB3 Tryd.underlying22 rfl rfl o23 (Ints.suf A (by omega) (by omega)) (xsv _) (by first | omega | (simp;omega) | simp) (by decide) (by decide) fun v24 X25 o26=>?_
  refine xgx (tm':=zq32 []) rfl ?_
  refine ro (xax (v:=v24) rfl) <| xak ?_
  refine xew Tryd.func29 rfl (vs:=[v24]) (fun h_ H_=>⟨v24,_,rfl,rfl,rfl⟩) (v:=v24) rfl ?_
  have hpt:=wlk (k:=k) (xs:=xs) (z:=z) (by omega) hs (by first | (left;omega) | (right;omega))
  exact fun h_ H_=>K _ _ ⟨_,_,rfl,(o26.as (by rw [hpt];simp [ics])),by simpa using H_.dropA.new⟩
end Go.Proofs.YtalfgojocdonhaaDoor
namespace Go.Proofs.YtalfgojocdonhaaDoor
open Go.X Go.X.Flow Go.Conc
set_option maxRecDepth 10000
set_option synthInstance.maxSize 2000

set_option maxHeartbeats 2000000
theorem c45 (md:Md) (h:Heap) (p:PHeap) (hp:Per p h) (a1:Option Addr) (n1 c1:Nat) (a2:Option Addr) (n2 c2:Nat) (a3:Option Addr) (n3 c3:Nat) (t:Tn) (T:TownP p a1 n1 a2 n2 a3 n3 t) (hn:n1≤40∧n2≤40∧n3≤41) (b:Option Addr) (m cb:Nat) (d:List Int) (D:Ints p b m d) (hm:m=n3) (hd: ∀ i,i<m→0≤dv d i∧dv d i≤1000) (hw:WOk t) (hh: ∀ i,i<n1→ -100≤t.hs.getD i 0∧t.hs.getD i 0≤100):CallsX Tryd.prog md 45 #[.agg #[.slice a1 n1 c1,.slice a2 n2 c2,.slice a3 n3 c3],.slice b m cb] h fun v h'=>∃ w X,v=w∧OwnS 3 1 w (ics (lacks t d)) X∧New h h' X:=by
 refine xcw (Φ:=fun h_=>St h [] p h_ []) Tryd.func45 rfl (tm:=zq1 (zq2 (zq8 (zq16 [])))) rfl ?_ (St.start h _ hp)
 intro c₀ cs Stop K
 have eH:=T.nH
 have eW:=T.nW
 have eM:=T.m
 refine fsr ?_
 refine xiw mn (v:=.agg #[.slice a1 n1 c1,.slice a2 n2 c2,.slice a3 n3 c3]) rfl fun b1=>xcj (L':=[(b1,.cells #[.slice a1 n1 c1,.slice a2 n2 c2,.slice a3 n3 c3] 25 (0,0))]) rfl ?_
 refine ro (xax (v:=.slice none 0 0) rfl) <| ren <| xbq <| rt (xax (v:=.slice none 0 0) rfl) (tm':=zq2 (zq4 _)) rfl <| ren <| fsr ?_
 refine ro (xax (v:=.int .i64 0) rfl) <| xak <| xek ?_
 refine xiv (m₀:=n1-0) (fun m_ tm_ h_=>∃ (k:Nat) (w:Value) (X1:Pcs),m_=n1-k∧(∃ y2:Nat→Value,tm_=[.agg #[.slice a1 n1 c1,.slice a2 n2 c2,.slice a3 n3 c3],.slice b m cb,.pointer (some ⟨b1,0,none⟩),undef,.slice none 0 0,w,.int .i64 (((k:Nat):Int)),(y2 7),(y2 8),(y2 9),(y2 10),(y2 11),(y2 12),(y2 13),(y2 14),(y2 15),(y2 16),(y2 17),(y2 18),(y2 19),(y2 20),(y2 21),(y2 22),(y2 23),(y2 24),(y2 25),undef])∧(k≤n1)∧(OwnS 3 1 w (ics (lacksK t d k)) X1)∧St h [] p h_ (([(b1,.cells #[.slice a1 n1 c1,.slice a2 n2 c2,.slice a3 n3 c3] 25 (0,0))]:Pcs)++(X1++[]))) (fun h_ H_=>⟨0,(.slice none 0 0),[],rfl,(y_of rfl),Nat.zero_le _,(OwnS.empty _ _),H_⟩) ?_
 intro m_ tm_ IH3
 refine xij fun k=>xij fun w=>xij fun X1=>xdz fun hm_=>xdz fun ht_=>xdz fun hk=>xdz fun o1=>?_
 subst hm_;obtain ⟨y2,ht_⟩:=ht_;subst ht_
 have hlm:d.length=t.m:=by have:=D.len;omega
 have hb_:0≤drawI t d d.length ((k:Nat):Int)∧drawI t d d.length ((k:Nat):Int)≤1000*d.length:=ynz fun i hi=>hd i (by omega)
 have hhk:=fun z_:k<n1=>hh k z_
 refine xej <| fsr <| ro (xaq (v:=.int .i64 (((k:Nat):Int))) rfl) <| rt (xaz xmz rfl (a':=⟨b1,0,none⟩) rfl) (tm':=zq1 (zq8 _)) rfl <| rd (fun h_ H_=>xaj H_ tA22 rfl (i:=0) rfl (v:=.slice a1 n1 c1) rfl) <| ro (xfk Tryd.underlying22 rfl) ?_
 refine rt (xgw rfl rfl) (tm':=zq4 (zq8 _)) rfl <| xak ?_
 by_cases cc4:((k:Nat):Int)<((n1:Nat):Int)
 ·
  refine xdk rfl (dtt cc4) <| xdq <| xej <| xek ?_
  refine xfw 11 [[],[],[1],[],[1,2,3],[1,2,3,4],[],[],[],[6,7,8],[1,2,3,4,5,6,7,8],[],[]] xlq (by kernel_rfl) (Nat.le_of_ble_eq_true rfl) ?_
  refine wt (xaq (v:=w) rfl) (tm':=zq1 (zq2 (zq4 (zq8 _)))) rfl <| wo (xaz xmz rfl (a':=⟨b1,0,none⟩) rfl) ?_
  refine xbz mn (fun h_ H_=>xaj H_ tA22 rfl (i:=0) rfl (v:=.slice a1 n1 c1) rfl) (tm':=zq1 (zq16 _)) rfl ?_
  refine wo (xaq (v:=.int .i64 (((k:Nat):Int))) rfl) ?_
  refine wt (xcz (i:=k) Tryd.underlying22 tS3 (xkq a1 n1 c1 (T.h.ne (by omega))) rfl (by omega)) (tm':=zq1 (zq2 (zq8 (zq16 [])))) rfl ?_
  refine wd (fun h_ H_=>xbv H_ tA3 rfl (v:=.int .i64 (t.hs.getD k 0)) (T.h.get (by omega))) ?_
  refine xbz mn (fun h_ H_=>xav H_ tA25 tS25 rfl (i:=0) rfl (vs:=[.slice a1 n1 c1,.slice a2 n2 c2,.slice a3 n3 c3]) rfl rfl) (tm':=zq1 (zq2 (zq8 (zq16 [])))) rfl ?_
  refine wo (xaq (v:=.slice b m cb) rfl) <| wt (xaq (v:=.int .i64 (((k:Nat):Int))) rfl) (tm':=zq1 (zq2 (zq8 (zq16 [])))) rfl ?_
  refine xik mn (first:=[]) (cap:=[]) rfl rfl fC34 (fun h_ H_=>(c34 md _ _ H_.pe _ _ _ _ _ _ _ _ _ t (show TownP _ _ _ _ _ _ _ t from ⟨T.h,T.w,T.y⟩) (by omega) _ _ _ _ D (by omega) hd (((k:Nat):Int))).mono fun v_ h2_ ⟨e_,k_⟩=>⟨e_,H_.call k_⟩) rfl ?_
  refine wt (xkw rfl rfl (wr (by have z_:=hhk (by omega);omega))) (tm':=zq1 (zq2 (zq8 (zq16 [])))) rfl ?_
  refine xiz rfl ?_
  refine xjq mn (first:=[]) (cap:=[]) rfl rfl fC29 (R:=fun v_ h_=>∃ w5:Value,∃ X6:Pcs,v_=w5∧(OwnS 3 1 w5 (ics (put (lacksK t d k) ((t.hs.getD k 0)-(drawI t d d.length (((k:Nat):Int)))))) X6)∧St h [] p h_ (([(b1,.cells #[.slice a1 n1 c1,.slice a2 n2 c2,.slice a3 n3 c3] 25 (0,0))]:Pcs)++(X6++(X1++[])))) (fun h_ H_=>(show CallsX Tryd.prog md 29 #[w,.int .i64 ((t.hs.getD k 0)-(drawI t d d.length (((k:Nat):Int))))] h_ (fun v_ h2_=>∃ w_ Y_,v_=w_∧OwnS 3 1 w_ (ics (put (lacksK t d k) ((t.hs.getD k 0)-(drawI t d d.length (((k:Nat):Int)))))) Y_∧New h_ h2_ Y_) from ygw (n:=(lacksK t d k).length) o1 (xck _) H_ (fun x_ h_=>by simp [h_]) fun p_ a_ c_ hp_ _ hv_ D_=>by rw [hv_];exact c29 md _ _ hp_ _ _ _ (lacksK t d k) (show Ints _ _ _ (lacksK t d k) from D_) ⟨(by rw [zbz];omega),OwnS.room o1 (by decide) hv_⟩ ((t.hs.getD k 0)-(drawI t d d.length (((k:Nat):Int))))).mono fun v_ h2_ ⟨w5,X6,e_,o7,N_⟩=>⟨w5,X6,e_,o7,H_.callNA N_⟩) fun v_=>?_
  refine xfv fun w5=>xfv fun X6=>xfz fun ev_=>xfz fun o7=>?_
  have ev_:=ev_.symm;subst ev_
  refine xcj (L':=([(b1,.cells #[.slice a1 n1 c1,.slice a2 n2 c2,.slice a3 n3 c3] 25 (0,0))]:Pcs)++(X6++(X1++[]))) rfl ?_
  refine xgx (tm':=zq1 (zq2 (zq8 (zq16 [])))) rfl ?_
  refine ro (xax (v:=w5) rfl) <| xak <| xeq <| xbq <| ro (xaq (v:=.int .i64 (((k:Nat):Int))) rfl) ?_
  refine rt (xfx rfl rfl (n:=((k+1:Nat):Int)) (wr (by omega))) (tm':=zq2 (zq4 (zq8 _))) rfl ?_
  refine ro (xax (v:=.int .i64 (((k+1:Nat):Int))) rfl) <| xak ?_
  refine xgj (List.Perm.append_left _ (List.perm_append_comm_assoc _ _ _)) ?_
  refine xkv (L':=([(b1,.cells #[.slice a1 n1 c1,.slice a2 n2 c2,.slice a3 n3 c3] 25 (0,0))]:Pcs)++(X1++(X6++[]))) rfl ?_
  exact fun h_ H_=>IH3 _ _ (by omega) h_ ⟨k+1,w5,X6,rfl,(y_of rfl),(by omega),(o7.as (congrArg ics ((congrArg (Flow.put _) (vix hw hlm k)).trans (ywv t d k)))),H_.dropX⟩
 ·
  refine xcv rfl (dff cc4) <| xiq rfl <| fsr <| ro (xaq (v:=w) rfl) <| rt (xax (v:=w) rfl) (tm':=zq1 (zq4 _)) rfl <| xak ?_
  refine xew Tryd.func45 rfl (vs:=[w]) (fun h_ H_=>⟨w,_,rfl,rfl,rfl⟩) (v:=w) rfl ?_
  have hkn:k=t.nH:=by omega
  subst hkn
  exact fun h_ H_=>K _ _ ⟨_,_,rfl,o1,by simpa using H_.dropA.new⟩
end Go.Proofs.YtalfgojocdonhaaDoor
namespace Go.X.Flow
open Go.X

def swp (ys:List Int) (j:Nat):List Int:=(ys.set j (ys.getD (j-1) 0)).set (j-1) (ys.getD j 0)
theorem zvv: ∀ {j:Nat} {ys:List Int},0<j→j<ys.length→(swp ys j).Perm ys
  | 0,_,h,_=>absurd h (by omega)
  | 1,[],_,h=>by simp at h
  | 1,[_],_,h=>by simp at h
  | 1,a::b::l,_,_=>by
    have:swp (a::b::l) 1=b::a::l:=rfl
    rw [this];exact .swap ..
  | j+2,[],_,h=>by simp at h
  | j+2,a::l,_,h=>by
    have e:swp (a::l) (j+2)=a::swp l (j+1):=rfl
    rw [e];exact (zvv (j:=j+1) (by omega) (by simp at h;omega)).cons a
theorem zvw {ys:List Int} {j q:Nat} (h0:0<j) (h:j<ys.length):(swp ys j).getD q 0=if q=j-1 then ys.getD j 0 else if q=j then ys.getD (j-1) 0 else ys.getD q 0:=by
  unfold swp
  rw [yrv (by rw [List.length_set];omega),yrv h]
  by_cases c:q=j-1
  · rw [if_pos c.symm,if_pos c]
  · rw [if_neg (Ne.symm c),if_neg c]
    by_cases c2:q=j
    · rw [if_pos c2.symm,if_pos c2]
    · rw [if_neg (Ne.symm c2),if_neg c2]
def Float (ys:List Int) (i j:Nat):Prop:=∀ p q,p<q→q≤i→q≠j→ys.getD q 0≤ys.getD p 0
def SortTo (ys:List Int) (i:Nat):Prop:=∀ p q,p<q→q<i→ys.getD q 0≤ys.getD p 0
theorem zsw {ys i} (h:SortTo ys i):Float ys i i:=fun p q a b c=>h p q a (by omega)
theorem wfx {ys:List Int} {i j:Nat} (h:Float ys i j) (h0:0<j) (hi:j≤i) (hl:i<ys.length) (lt:ys.getD (j-1) 0<ys.getD j 0):Float (swp ys j) i (j-1):=fun p q a b c=>by
  rw [zvw h0 (by omega),zvw h0 (by omega),if_neg c]
  by_cases e:q=j
  · rw [if_pos e]
    by_cases f:p=j-1
    · rw [if_pos f];omega
    · rw [if_neg f,if_neg (by omega)];exact h p (j-1) (by omega) (by omega) (by omega)
  · rw [if_neg e]
    by_cases f:p=j-1
    · rw [if_pos f];exact h j q (by omega) b e
    · rw [if_neg f]
      by_cases f2:p=j
      · rw [if_pos f2];exact h (j-1) q (by omega) b e
      · rw [if_neg f2];exact h p q a b e
theorem znj {ys:List Int} {i j:Nat} (h:Float ys i j) (hi:j≤i) (e:j=0∨ys.getD j 0≤ys.getD (j-1) 0):SortTo ys (i+1):=fun p q a b=>by
  by_cases c:q=j
  · subst c
    by_cases f:p=q-1
    · subst f;omega
    · have:=h p (q-1) (by omega) (by omega) (by omega);omega
  · exact h p q a (by omega) c
theorem wtv {ys xs:List Int} {i:Nat} (h:SortTo ys i) (hi:ys.length≤i) (p:ys.Perm xs):ys=srt xs:=by
  refine (vdq (List.pairwise_iff_getElem.2 fun a b ha hb hab=>?_) p).symm
  have:=h a b hab (by omega)
  rwa [xuq hb,xuq ha] at this
theorem ztv {x y:Int}:cmpI y x<0↔y<x:=by unfold cmpI;(repeat' split) <;> omega
end Go.X.Flow
namespace Go.X
open Go.Conc

def SW3 (F:Nat→Oper→List Value→Value→Prop):Nat→List Oper→List Value→List Value→Prop
  | _,[],tm,tm'=>tm=tm'
  | i,o::rest,tm,tm'=>∃ v,F i o tm v∧SW3 F (i+1) rest (putl tm o.dst v) tm'

theorem zjj {F:Nat→Oper→List Value→Value→Prop}: ∀ {rest:List Oper} {b:Nat} {tm tmF:List Value},SW3 F b rest tm tmF→
    (∀ (i j:Nat) (o o':Oper) (d:Nat),rest[i]?=some o→rest[j]?=some o'→o.dst=some d→o'.dst=some d→i=j)→
    tmF.length=tm.length∧(∀ x,(∀ (j:Nat) (o:Oper),rest[j]?=some o→o.dst≠some x)→tmF[x]?=tm[x]?)∧
    ∀ (i:Nat) (o:Oper),rest[i]?=some o→ ∃ tmi v,F (b+i) o tmi v∧tmi.length=tm.length∧(∀ x,(∃ (j:Nat) (o':Oper),j<i∧rest[j]?=some o'∧o'.dst=some x)→tmi[x]?=tmF[x]?)∧
      (∀ x,(∀ (j:Nat) (o':Oper),j<i→rest[j]?=some o'→o'.dst≠some x)→tmi[x]?=tm[x]?)∧ ∀ x,o.dst=some x→tmF[x]?=(putl tmi o.dst v)[x]?
  | [],b,tm,tmF,h,_=>by
    subst h
    exact ⟨rfl,fun _ _=>rfl,fun i o hi=>by simp at hi⟩
  | o₀::rest,b,tm,tmF,h,hd=>by
    obtain ⟨v,ht,hs⟩:=h
    obtain ⟨h1,h2,h3⟩:=zjj hs fun i j o o' d hi hj ho ho'=>by
      have:=hd (i+1) (j+1) o o' d (by simpa using hi) (by simpa using hj) ho ho'
      omega
    have hfresh: ∀ x,o₀.dst=some x→ ∀ (j:Nat) (o:Oper),rest[j]?=some o→o.dst≠some x:=fun x hx j o hj ho=>by
      have:=hd 0 (j+1) o₀ o x rfl (by simpa using hj) hx ho
      omega
    have hF0: ∀ x,o₀.dst=some x→tmF[x]?=(putl tm o₀.dst v)[x]?:=fun x hx=>h2 x (hfresh x hx)
    refine ⟨by rw [h1,xrq],fun x hx=>?_,fun i o hi=>?_⟩
    · rw [h2 x fun j o hj=>hx (j+1) o (by simpa using hj),xwz (hx 0 o₀ rfl)]
    · cases i with
      | zero=>
        simp at hi;subst hi
        refine ⟨tm,v,ht,rfl,fun x hx=>?_,fun _ _=>rfl,hF0⟩
        obtain ⟨j,_,hj,_⟩:=hx
        omega
      | succ i=>
        obtain ⟨tmi,v',t1,t2,t3,t4,t5⟩:=h3 i o (by simpa using hi)
        refine ⟨tmi,v',by rw [show b+(i+1)=b+1+i from by omega];exact t1,by rw [t2,xrq],fun x hx=>?_,fun x hx=>?_,t5⟩
        · obtain ⟨j,o',hj,ho',hx'⟩:=hx
          cases j with
          | zero=>
            simp at ho';subst ho'
            rw [t4 x fun j o' _ hj'=>hfresh x hx' j o' hj',hF0 x hx']
          | succ j=>exact t3 x ⟨j,o',by omega,by simpa using ho',hx'⟩
        · rw [t4 x fun j o' hj ho'=>hx (j+1) o' (by omega) (by simpa using ho'),xwz (hx 0 o₀ (by omega) rfl)]

def afterI (cl:List (List Nat)) (ops:List Oper) (s i:Nat):Bool:=match ops[s]? with
  | some os=>behind cl os i
  | none=>false

def Op3 (P:Program) (md:Md) (ops:List Oper) (cl:List (List Nat)) (s:Nat) (Base0 Base1:Heap→Prop) (i:Nat) (o:Oper) (tm:List Value) (v:Value):Prop:=
  noDefer o.op=true∧((i=s∧Met ops tm o true∧ ∀ h,Base0 h→(v=undef∧wpS P (execOp (evl tm) o) h fun n h'=>n= .skip∧Base1 h')∨
      ∀ (c:Frame) (cs:List Frame) (Stop:Goroutine→Heap→Prop),(∀ v' h',v'=v∧Base1 h'→Reach P md (G (c.finish v') cs) h' Stop)→wpS P (execOp (evl tm) o) h (Upon P md c cs Stop))∨
    (i≠s∧Met ops tm o true∧(behind cl o s=false→OpTo P md tm o Base0 v)∧(afterI cl ops s i=false→OpTo P md tm o Base1 v))∨
    (i≠s∧Met ops tm o false∧v=undef))

section
variable {P:Program} {md:Md} {Base0 Base1:Heap→Prop} {ops:List Oper} {m s:Nat} {cl:List (List Nat)} {f:FuncId} {r:Rd} {df:List Deferred} {k:List Item} {cs:List Frame} {Stop:Goroutine→Heap→Prop} {tm tmF:List Value}

theorem wpv [Stb Base0] [Stb Base1] {id:Nat} (m s:Nat) (cl:List (List Nat)) (hmix:P.follows .mixedOrders=true) (hst:stable ops m cl=true) (hm:m≤ops.length) (hsm:s<m) (sw:SW3 (Op3 P md ops cl s Base0 Base1) 0 (ops.take m) tm tmF)
    (n:RL P md f r df k cs Stop ops (ops.drop m) tmF Base1):RS P md (G (FL f r tm df (.code (.region id ops.toArray true)::k)) cs) Base0 Stop:=by
  refine zex fun t=>?_
  unfold Region.schedule
  rw [hmix]
  simp only [Bool.true_or,if_true]
  obtain ⟨so,e,hord⟩:=ywq hst hm t
  rw [e]
  have hget: ∀ {i:Nat} {o:Oper},i<m→ops[i]?=some o→(ops.take m)[i]?=some o:=fun hi ho=>by rw [List.getElem?_take,if_pos hi];exact ho
  have hget': ∀ {i:Nat} {o:Oper},(ops.take m)[i]?=some o→i<m∧ops[i]?=some o:=fun ho=>by
    rw [List.getElem?_take] at ho
    split at ho
    · exact ⟨by assumption,ho⟩
    · cases ho
  have hdist: ∀ (i j:Nat) (o o':Oper) (d:Nat),(ops.take m)[i]?=some o→(ops.take m)[j]?=some o'→o.dst=some d→o'.dst=some d→i=j:=fun i j o o' d hi hj ho ho'=>by
    obtain ⟨hi,hio⟩:=hget' hi
    obtain ⟨hj,hjo⟩:=hget' hj
    exact (((xlz hst hio).2.2 hi).2 j o' d hj hjo ho').1.resolve_right fun hne=>hne ho
  obtain ⟨hlen,hrest,hturn⟩:=zjj sw hdist
  have stb: ∀ b:Bool,Stb (if b=true then Base1 else Base0):=fun b=>by cases b <;> simp only [Bool.false_eq_true,if_false,if_true] <;> infer_instance
  have main: ∀ (so:List Nat) (l:Array Bool) (tmc:List Value),Ord ops m l so→l.size=ops.length→tmc.length=tm.length→
      (∀ x,(∃ (j:Nat) (o:Oper),j<m∧l.getD j false=true∧ops[j]?=some o∧o.dst=some x)→tmc[x]?=tmF[x]?)→
      (∀ x,(∀ (j:Nat) (o:Oper),j<m→l.getD j false=true→ops[j]?=some o→o.dst≠some x)→tmc[x]?=tm[x]?)→
      (∀ (k:Nat) (o:Oper),l.getD k false=true→ops[k]?=some o→ ∀ x∈preds o,l.getD x false=true)→
      RS P md (G (FL f r tmc df (.inRegion ops.toArray (so++List.range' m (ops.length-m))::k)) cs) (if l.getD s false=true then Base1 else Base0) Stop:=by
    intro so
    induction so with
    | nil=>
      intro l tmc hord _ hl h1 h2 _
      cases hord with
      | nil hall=>
      have:tmc=tmF:=by
        refine List.ext_getElem? fun x=>?_
        by_cases hx: ∃ (j:Nat) (o:Oper),j<m∧ops[j]?=some o∧o.dst=some x
        · obtain ⟨j,o,hj,ho,hd⟩:=hx
          exact h1 x ⟨j,o,hj,hall j hj,ho,hd⟩
        · rw [h2 x fun j o hj _ ho hd=>hx ⟨j,o,hj,ho,hd⟩]
          exact (hrest x fun j o hjo hd=>hx ⟨j,o,(hget' hjo).1,(hget' hjo).2,hd⟩).symm
      subst this
      rw [List.nil_append,if_pos (hall s hsm)]
      have:=n (ops.take m) (List.take_append_drop m ops).symm
      rw [List.length_take,Nat.min_eq_left hm,List.length_drop] at this
      exact this
    | cons i so ih=>
      intro l tmc hord hsz hl h1 h2 hpc
      cases hord with
      | @cons _ _ _ o hi ho hn hp hs=>
      have hil:=(List.getElem?_eq_some_iff.1 ho).1
      have hlooks:=((xlz hst ho).2.2 hi)
      obtain ⟨tmi,v,ht,t2,t3,t4,t5⟩:=hturn i o (hget hi ho)
      rw [Nat.zero_add] at ht
      have hni:l.getD i false=false:=by rw [← yhx (by omega)];exact hn
      have hself:(l.setIfInBounds i true).getD i false=true:=by simp [Array.getD,hsz,hil]
      have hag: ∀ x∈looks ops o,tmc[x]?=tmi[x]?:=by
        intro x hx
        by_cases hw: ∃ (j:Nat) (o':Oper),j<m∧ops[j]?=some o'∧o'.dst=some x
        · obtain ⟨j,o',hj,ho',hd⟩:=hw
          have hpj:=(hlooks.2 j o' x hj ho' hd).2 hx
          rw [h1 x ⟨j,o',hj,hp j hpj,ho',hd⟩,t3 x ⟨j,o',(xlz hst ho).1 j hpj,hget hj ho',hd⟩]
        · rw [h2 x fun j o' hj _ ho' hd=>hw ⟨j,o',hj,ho',hd⟩,t4 x fun j o' _ ho' hd=>hw ⟨j,o',(hget' ho').1,(hget' ho').2,hd⟩]
      have next:RS P md (G (FL f r (putl tmc o.dst v) df (.inRegion ops.toArray (so++List.range' m (ops.length-m))::k)) cs) (if (l.setIfInBounds i true).getD s false=true then Base1 else Base0) Stop:=by
        refine ih (l.setIfInBounds i true) _ hs (by simpa using hsz) (by rw [xrq];exact hl) (fun x hx=>?_) (fun x hx=>?_) (fun k' o' hd ho' y hy=>?_)
        · obtain ⟨j,o',hj,hlj,ho',hd⟩:=hx
          by_cases e:i=j
          · subst e
            rw [ho] at ho';cases ho'
            rw [t5 x hd,hd]
            simp only [putl]
            by_cases hxl:x<tm.length
            · rw [List.getElem?_set_self (by rw [hl];exact hxl),List.getElem?_set_self (by rw [t2];exact hxl)]
            · rw [List.getElem?_eq_none (by rw [List.length_set,hl];exact Nat.le_of_not_lt hxl),List.getElem?_eq_none (by rw [List.length_set,t2];exact Nat.le_of_not_lt hxl)]
          · have hne:o.dst≠some x:=(hlooks.2 j o' x hj ho' hd).1.resolve_left e
            rw [getD_set_ne false e] at hlj
            rw [xwz hne]
            exact h1 x ⟨j,o',hj,hlj,ho',hd⟩
        · have hne:o.dst≠some x:=hx i o hi hself ho
          rw [xwz hne]
          refine h2 x fun j o' hj hlj ho'=>hx j o' hj ?_ ho'
          by_cases e:i=j
          · subst e;exact hself
          · rw [getD_set_ne false e];exact hlj
        · have hy2:l.getD y false=true:=by
            by_cases e:i=k'
            · subst e;rw [ho] at ho';cases ho';exact hp y hy
            · rw [getD_set_ne false e] at hd;exact hpc k' o' hd ho' y hy
          by_cases e':i=y
          · subst e';exact hself
          · rw [getD_set_ne false e'];exact hy2
      have ho2:ops.toArray[i]?=some o:=by simpa using ho
      have hnd:=ht.1
      rcases ht.2 with ⟨his,hmet,hop⟩ | ⟨his,hmet,hx0,hx1⟩ | ⟨his,hmet,hv⟩
      ·
        subst his
        rw [hni]
        have:=stb false
        rw [if_pos hself] at next
        refine zkk ho2 (xmx (ywz hag hmet)) ymw (.inr (by revert hnd;cases o.op <;> simp [noDefer])) fun h hb=>?_
        rw [xqk,zgj (ops:=ops) hlooks.1 hag]
        rcases hop h (by simpa using hb) with ⟨hv,hx⟩ | hx
        · refine xmq hx fun n' h' ⟨e',hb'⟩=>?_
          subst e'
          show Reach P md (G ((F (B f r) tmc.toArray df _).finish undef) cs) h' Stop
          rw [xkk ho2,xkj,← hv]
          exact next h' hb'
        · refine hx _ _ _ fun v' h' ⟨e2,hb'⟩=>?_
          subst e2
          rw [xkk ho2,xkj]
          exact next h' hb'
      · rw [getD_set_ne false his] at next
        have hexd:OpTo P md tmi o (if l.getD s false=true then Base1 else Base0) v:=by
          by_cases hls:l.getD s false=true
          · rw [if_pos hls]
            refine hx1 ?_
            refine Bool.eq_false_iff.2 fun hbe=>?_
            unfold afterI at hbe
            split at hbe
            · rename_i os hos
              have:=xuv hst hsz hpc s os i (fun x hx=>⟨(xlz hst hos).1 x hx,hpc s os hls hos x hx⟩) hbe
              rw [hni] at this;cases this
            · cases hbe
          · rw [if_neg hls]
            refine hx0 ?_
            refine Bool.eq_false_iff.2 fun hbe=>?_
            exact hls (xuv hst hsz hpc i o s (fun x hx=>⟨(xlz hst ho).1 x hx,hp x hx⟩) hbe)
        have:=stb (l.getD s false)
        refine zkk ho2 (xmx (ywz hag hmet)) ymw (.inr (by revert hnd;cases o.op <;> simp [noDefer])) fun h hb=>?_
        rw [xqk,zgj (ops:=ops) hlooks.1 hag]
        rcases hexd h hb with hx | ⟨g,args,hx,hc⟩ | hx
        · refine xmq hx fun n' h' ⟨v',e',e2,hb'⟩=>?_
          subst e';subst e2
          show Reach P md (G ((F (B f r) tmc.toArray df _).finish v') cs) h' Stop
          rw [xkk ho2,xkj]
          exact next h' hb'
        · refine xmq hx fun n' h' ⟨e',e2⟩=>?_
          subst e';subst e2
          refine hc _ _ _ fun v' h' ⟨e2,hb'⟩=>?_
          subst e2
          rw [xkk ho2,xkj]
          exact next h' hb'
        · refine hx _ _ _ fun v' h' ⟨e2,hb'⟩=>?_
          subst e2
          rw [xkk ho2,xkj]
          exact next h' hb'
      · rw [getD_set_ne false his] at next
        have:=stb (l.getD s false)
        refine zeq ho2 (xmx (ywz hag hmet)) ?_
        rw [xkj,← hv]
        exact next
  have:=main so _ tm hord (by simp) rfl (fun x hx=>by obtain ⟨j,o,hj,hl,_⟩:=hx;simp [Array.getD] at hl) (fun _ _=>rfl) (fun k _ hl=>by simp [Array.getD] at hl)
  rw [if_neg (by simp [Array.getD])] at this
  exact this

def SWR3 (P:Program) (md:Md) (f:FuncId) (r:Rd) (df:List Deferred) (k:List Item) (cs:List Frame) (Stop:Goroutine→Heap→Prop) (cl:List (List Nat)) (s:Nat) (Base0 Base1:Heap→Prop) (ops full:List Oper) (i:Nat) (rest:List Oper) (tm:List Value):Prop:=
  ∃ tmF,SW3 (Op3 P md ops cl s Base0 Base1) i rest tm tmF∧RL P md f r df k cs Stop ops full tmF Base1
theorem ykw [Stb Base0] [Stb Base1] {id:Nat} (m s:Nat) (cl:List (List Nat)) (hmix:P.follows .mixedOrders=true) (hst:stable ops m cl=true) (hm:m≤ops.length) (hsm:s<m)
    (sw:SWR3 P md f r df k cs Stop cl s Base0 Base1 ops (ops.drop m) 0 (ops.take m) tm):RS P md (G (FL f r tm df (.code (.region id ops.toArray true)::k)) cs) Base0 Stop:=by
  obtain ⟨tmF,h,n⟩:=sw
  exact wpv m s cl hmix hst hm hsm h n
variable {full rest:List Oper} {i:Nat} {tm':List Value} {o:Oper} {v:Value}
theorem zdx (e:rest=[]) (n:RL P md f r df k cs Stop ops full tm Base1):SWR3 P md f r df k cs Stop cl s Base0 Base1 ops full i rest tm:=by subst e;exact ⟨tm,rfl,n⟩
theorem xdj {Base:Heap→Prop} (hx: ∀ h,Base h→Exd P tm o h v):OpTo P md tm o Base v:=fun h hb=>.inl (xmq (hx h hb) fun _ _ ⟨v',e1,e2,e3⟩=>⟨v',e1,e2,by rw [e3];exact hb⟩)
theorem xtw {Base:Heap→Prop} {args:List Operand} {ats:Array TypeId} {d:Option Tmp} {ty:TypeId} {pos:String} {aft:Array Edge} {gd:Option (Nat × Bool)} {x:Operand} {g:FuncId} {first cap vs:List Value}
    (hx:evl tm x= .func (.func g) first.toArray cap.toArray) (hvs:first++(args.map (evl tm)++cap)=vs) (hg:callable P g=true) (hc: ∀ h,Base h→CallsX P md g vs.toArray h fun v' h'=>v'=v∧Base h'):
    OpTo P md tm ⟨d,.call ⟨.value x,args.toArray,ats⟩,ty,pos,aft,gd⟩ Base v:=fun h hb=>.inr (.inl ⟨g,vs.toArray,yqw hx hvs hg,hc h hb⟩)
theorem yaw (hm:Met ops tm o true) (h0:OpTo P md tm o Base0 v) (h1:OpTo P md tm o Base1 v) (ht:putl tm o.dst v=tm') (n:SWR3 P md f r df k cs Stop cl s Base0 Base1 ops full (i+1) rest tm')
    (hi:i≠s:=by exact Nat.ne_of_beq_eq_false rfl) (hd:noDefer o.op=true:=by rfl):SWR3 P md f r df k cs Stop cl s Base0 Base1 ops full i (o::rest) tm:=by
  obtain ⟨tmF,h,n⟩:=n
  exact ⟨tmF,⟨v,⟨hd,.inr (.inl ⟨hi,hm,fun _=>h0,fun _=>h1⟩)⟩,by rw [ht];exact h⟩,n⟩
theorem xgq (hm:Met ops tm o true) (hb:afterI cl ops s i=true) (h0:OpTo P md tm o Base0 v) (ht:putl tm o.dst v=tm') (n:SWR3 P md f r df k cs Stop cl s Base0 Base1 ops full (i+1) rest tm')
    (hi:i≠s:=by exact Nat.ne_of_beq_eq_false rfl) (hd:noDefer o.op=true:=by rfl):SWR3 P md f r df k cs Stop cl s Base0 Base1 ops full i (o::rest) tm:=by
  obtain ⟨tmF,h,n⟩:=n
  exact ⟨tmF,⟨v,⟨hd,.inr (.inl ⟨hi,hm,fun _=>h0,fun e=>by rw [hb] at e;cases e⟩)⟩,by rw [ht];exact h⟩,n⟩
theorem xhq (hm:Met ops tm o true) (hb:behind cl o s=true) (h1:OpTo P md tm o Base1 v) (ht:putl tm o.dst v=tm') (n:SWR3 P md f r df k cs Stop cl s Base0 Base1 ops full (i+1) rest tm')
    (hi:i≠s:=by exact Nat.ne_of_beq_eq_false rfl) (hd:noDefer o.op=true:=by rfl):SWR3 P md f r df k cs Stop cl s Base0 Base1 ops full i (o::rest) tm:=by
  obtain ⟨tmF,h,n⟩:=n
  exact ⟨tmF,⟨v,⟨hd,.inr (.inl ⟨hi,hm,(fun e=>by rw [hb] at e;cases e),fun _=>h1⟩)⟩,by rw [ht];exact h⟩,n⟩
theorem xnz (hm:Met ops tm o false) (ht:putl tm o.dst undef=tm') (n:SWR3 P md f r df k cs Stop cl s Base0 Base1 ops full (i+1) rest tm')
    (hi:i≠s:=by exact Nat.ne_of_beq_eq_false rfl) (hd:noDefer o.op=true:=by rfl):SWR3 P md f r df k cs Stop cl s Base0 Base1 ops full i (o::rest) tm:=by
  obtain ⟨tmF,h,n⟩:=n
  exact ⟨tmF,⟨undef,⟨hd,.inr (.inr ⟨hi,hm,rfl⟩)⟩,by rw [ht];exact h⟩,n⟩
theorem zjz (hi:i=s) (hm:Met ops tm o true) (hx: ∀ h,Base0 h→wpS P (execOp (evl tm) o) h fun n h'=>n= .skip∧Base1 h') (ht:putl tm o.dst undef=tm')
    (n:SWR3 P md f r df k cs Stop cl s Base0 Base1 ops full (i+1) rest tm') (hd:noDefer o.op=true:=by rfl):SWR3 P md f r df k cs Stop cl s Base0 Base1 ops full i (o::rest) tm:=by
  obtain ⟨tmF,h,n⟩:=n
  exact ⟨tmF,⟨undef,⟨hd,.inl ⟨hi,hm,fun h hb=>.inl ⟨rfl,hx h hb⟩⟩⟩,by rw [ht];exact h⟩,n⟩
theorem zjk {args:List Operand} {ats:Array TypeId} {d:Option Tmp} {ty:TypeId} {pos:String} {aft:Array Edge} {gd:Option (Nat × Bool)} {x:Operand} {fv:Value} {vs:List Value}
    (hi:i=s) (hm:Met ops tm ⟨d,.call ⟨.value x,args.toArray,ats⟩,ty,pos,aft,gd⟩ true) (hx:evl tm x=fv) (hvs:args.map (evl tm)=vs) (hc: ∀ h,Base0 h→CallV P md fv vs h fun v' h'=>v'=v∧Base1 h') (ht:putl tm d v=tm')
    (n:SWR3 P md f r df k cs Stop cl s Base0 Base1 ops full (i+1) rest tm'):SWR3 P md f r df k cs Stop cl s Base0 Base1 ops full i (⟨d,.call ⟨.value x,args.toArray,ats⟩,ty,pos,aft,gd⟩::rest) tm:=by
  obtain ⟨tmF,h,n⟩:=n
  refine ⟨tmF,⟨v,⟨rfl,.inl ⟨hi,hm,fun h hb=>.inr fun c cs Stop z=>?_⟩⟩,by rw [ht];exact h⟩,n⟩
  have:=hc h hb c cs Stop z
  simp only [execOp,resolve,hx,List.map_toArray,hvs]
  exact this
end

section
variable {P:Program} {tm:List Value} {h₀:Heap} {B₀:List Nat} {p:PHeap} {A X C:Pcs} {T:TypeId} {w:Nat} {v:Value} {es:List (List Value)} {ty:TypeId} {pos:String} {aft:Array Edge} {gd:Option (Nat × Bool)} {h:Heap}
theorem ziv {T':TypeId} {x y:Operand} {i j:Nat} {e:List Value} {u:Value} {a:Addr} (o:OwnS T w v es X) (hs:sizeT P T'=some 1) (hx:evl tm x= .pointer (some a)) (ha:((adrV v).add (i*w)).add j=a)
    (hy:evl tm y=u) (hv:u.cells=#[u]∧isOne u=true) (hi:es[i]?=some e) (hj:j<e.length) (s:St h₀ B₀ p h (A++(X++C))):
    wpS P (execOp (evl tm) ⟨none,.store T' x y,ty,pos,aft,gd⟩) h fun n h'=>n= .skip∧ ∃ X',OwnS T w v (es.set i (e.set j u)) X'∧St h₀ B₀ p h' (A++(X'++C)):=by
  have hil:=(List.getElem?_eq_some_iff.1 hi).1
  obtain ⟨b,cs',cap,rs,e1,e2,e3,e4,ec⟩:=o.has hil
  have hlt:i*w+j<es.flatten.length:=(List.getElem?_eq_some_iff.1 (xpx o.1 hi (List.getElem?_eq_getElem hj))).1
  have he:e.length=w:=o.1 e (List.mem_of_getElem? hi)
  subst e1;subst e2;subst ha
  have e5:cs'.set (i*w+j) u=(es.set i (e.set j u)).flatten++rs:=by
    rw [e3,List.set_append_left _ _ hlt,ybk o.1 hi hj]
  have o':OwnS T w (.slice (some ⟨b,0,none⟩) es.length cap) (es.set i (e.set j u)) [(b,.cells (cs'.set (i*w+j) u).toArray T (0,0))]:=by
    refine ⟨fun z hz=>?_,.inr ⟨b,cs'.set (i*w+j) u,cap,rs,by simp,rfl,e5,by simpa using e4,ec⟩⟩
    rcases List.mem_or_eq_of_mem_set hz with h | h
    · exact o.1 z h
    · subst h;simpa using he
  have hx':evl tm x= .pointer (some ⟨b,i*w+j,none⟩):=by
    rw [hx];simp only [adrV];rw [xoq,xoq,Nat.zero_add]
  have hL:(A++([(b,Obj.cells (List.toArray cs') T (0,0))]++C))[A.length]?=some (b,.cells cs'.toArray T (0,0)):=by rw [List.getElem?_append_right (Nat.le_refl _)];simp
  simp only [execOp,hx',hy]
  refine xbk ?_
  unfold Instr.storeAt
  refine xbk (xbw ?_)
  unfold storeVar
  refine xbk (xnk hs ?_)
  rw [if_neg (by rw [hv.1];simp)]
  refine xqz s hL (by rw [hv.1];show _+0+1≤_;rw [e3,List.length_append];omega) (fun u' hu=>by rw [hv.1] at hu;simp at hu;subst hu;exact hv.2) fun h' s'=>?_
  refine xbw ⟨rfl,_,o',?_⟩
  have e6:(A++([(b,Obj.cells (List.toArray cs') T (0,0))]++C)).set A.length (b,.cells (setl cs' (i*w+j) u.cells.toList).toArray T (0,0))=A++([(b,.cells (cs'.set (i*w+j) u).toArray T (0,0))]++C):=by
    rw [List.set_append_right _ _ (Nat.le_refl _),hv.1];simp [setl]
  rw [Nat.add_zero,e6] at s'
  exact s'
end
end Go.X
namespace Go.Proofs.YtalfgojocdonhaaDoor
open Go.X Go.X.Flow Go.Conc
set_option maxRecDepth 10000
set_option synthInstance.maxSize 2000

set_option maxHeartbeats 2000000
theorem c104 (md:Md) (h:Heap) (x y:Int):CallsX Tryd.prog md 104 #[.int .i64 (x),.int .i64 (y)] h fun v h'=>v= .int .i64 (cmpI y x)∧Keep h h':=by
 refine xcw (Φ:=fun h_=>St h [] (fun _=>none) h_ []) Tryd.func104 rfl (tm:=zq8 []) rfl ?_ (St.start h _ (fun _ _ e=>by cases e))
 intro c₀ cs Stop K
 refine fsr <| ro (xax (v:=.int .i64 0) rfl) <| ren <| xbq <| ro (xaq (v:=.int .i64 (y)) rfl) <| rt (xaq (v:=.int .i64 (x)) rfl) (tm':=zq8 []) rfl ?_
 refine xcx mn (first:=[]) (cap:=[]) rfl rfl wzk (fun h_ H_=>c101 md _ (y) (x)) rfl ?_
 refine ro (xax (v:=.int .i64 (cmpI (y) (x))) rfl) <| xak ?_
 refine xew Tryd.func104 rfl (vs:=[.int .i64 (cmpI (y) (x))]) (fun h_ H_=>⟨.int .i64 (cmpI (y) (x)),_,rfl,rfl,rfl⟩) (v:=.int .i64 (cmpI (y) (x))) rfl ?_
 exact fun h_ H_=>K _ _ ⟨rfl,H_.kept⟩
theorem c115 (md:Md) (h h₀:Heap) (B₀:List Nat) (p:PHeap) (w:Value) (xs:List Int) (X₀ C₀:Pcs) (o₀:OwnS 3 1 w (ics xs) X₀) (n:Nat) (hn:n=xs.length∧n≤12) (fv:Value) (hf: ∀ x y h,CallV Tryd.prog md fv [.int .i64 x,.int .i64 y] h fun v h'=>v= .int .i64 (cmpI y x)∧Keep h h') (s₀:St h₀ B₀ p h (([]:Pcs)++(X₀++(C₀++[])))):CallsX Tryd.prog md 115 #[w,.int .i64 (0),.int .i64 (((n:Nat):Int)),fv] h fun _ h'=>∃ X',OwnS 3 1 w (ics (srt xs)) X'∧St h₀ B₀ p h' (X'++(C₀++[])):=by
 refine xcw (Φ:=fun h_=>St h₀ B₀ p h_ (([]:Pcs)++(X₀++(C₀++[])))) Tryd.func115 rfl (tm:=zq1 (zq4 (zq16 (zq32 [])))) rfl ?_ s₀
 intro c₀ cs Stop K
 refine fsr <| rt (xaq (v:=.int .i64 (0)) rfl) (tm':=zq1 (zq2 (zq8 _))) rfl ?_
 refine ro (xfx rfl rfl (wr (by omega))) ?_
 refine ro (xax (v:=.int .i64 (0+1)) rfl) <| xak <| xek ?_
 refine xiv (m₀:=n-1) (fun m_ tm_ h_=>∃ (i:Nat) (ys:List Int) (X1:Pcs),m_=n-i∧(∃ y1:Nat→Value,tm_=[w,.int .i64 (0),.int .i64 (((n:Nat):Int)),fv,undef,undef,undef,undef,.int .i64 (((i:Nat):Int)),(y1 9),.int .i64 (0),.int .i64 (0+1),(y1 12),(y1 13),(y1 14),(y1 15),(y1 16),(y1 17),(y1 18),(y1 19),(y1 20),(y1 21),(y1 22),(y1 23),(y1 24),(y1 25),(y1 26),(y1 27),(y1 28),(y1 29),(y1 30),(y1 31),(y1 32),(y1 33),(y1 34),(y1 35),(y1 36),(y1 37),(y1 38),(y1 39),(y1 40),(y1 41),(y1 42),(y1 43),(y1 44),(y1 45),(y1 46),(y1 47),(y1 48),(y1 49),(y1 50),(y1 51),(y1 52)])∧(1≤i)∧(OwnS 3 1 w (ics ys) X1)∧(ys.Perm xs)∧(SortTo ys i)∧St h₀ B₀ p h_ (([]:Pcs)++(X1++(C₀++[])))) (fun h_ H_=>⟨1,xs,X₀,rfl,(y_of rfl),Nat.le_refl _,o₀,(.refl _),(fun p q a b=>absurd a (by omega)),H_⟩) ?_
 intro m_ tm_ IH2
 refine xij fun i=>xij fun ys=>xij fun X1=>xdz fun hm_=>xdz fun ht_=>xdz fun hi=>xdz fun o1=>xdz fun hp=>xdz fun hs=>?_
 subst hm_;obtain ⟨y1,ht_⟩:=ht_;subst ht_
 have hly:ys.length=n:=hp.length_eq.trans hn.1.symm
 refine xej <| fsr <| rt (xaq (v:=.int .i64 (((i:Nat):Int))) rfl) (tm':=zq1 (zq4 (zq8 _))) rfl <| ro (xaq (v:=.int .i64 (((n:Nat):Int))) rfl) <| ro (xgw rfl rfl) <| xak ?_
 by_cases cc3:((i:Nat):Int)<((n:Nat):Int)
 ·
  refine xdk rfl (dtt cc3) <| xdq <| xej <| xek <| fsr <| rt (xaq (v:=.int .i64 (((i:Nat):Int))) rfl) (tm':=zq2 (zq16 _)) rfl ?_
  refine ro (xax (v:=.int .i64 (((i:Nat):Int))) rfl) <| xak <| xek ?_
  refine xiv (m₀:=i+1) (fun m_ tm_ h_=>∃ (j:Nat) (zs:List Int) (X2:Pcs),m_=j+1∧(∃ y4:Nat→Value,tm_=[w,.int .i64 (0),.int .i64 (((n:Nat):Int)),fv,undef,undef,undef,undef,.int .i64 (((i:Nat):Int)),.int .i64 (((j:Nat):Int)),.int .i64 (0),.int .i64 (0+1),.int .i64 (((i:Nat):Int)),.int .i64 (((n:Nat):Int)),.bool (decide (((i:Nat):Int)<((n:Nat):Int))),(y1 15),(y1 16),.int .i64 (((i:Nat):Int)),(y4 18),(y4 19),(y4 20),(y4 21),(y4 22),(y4 23),(y4 24),(y4 25),(y4 26),(y4 27),(y4 28),(y4 29),(y4 30),(y4 31),(y4 32),(y4 33),(y4 34),(y4 35),(y4 36),(y4 37),(y4 38),(y4 39),(y4 40),(y4 41),(y4 42),(y4 43),(y4 44),(y4 45),(y4 46),(y4 47),(y4 48),(y4 49),(y4 50),(y4 51),(y4 52)])∧(j≤i)∧(OwnS 3 1 w (ics zs) X2)∧(zs.Perm xs)∧(Float zs i j)∧St h₀ B₀ p h_ (([]:Pcs)++(X2++(C₀++[])))) (fun h_ H_=>⟨i,ys,X1,rfl,(y_of rfl),Nat.le_refl _,o1,hp,(zsw hs),H_⟩) ?_
  intro m_ tm_ IH5
  refine xij fun j=>xij fun zs=>xij fun X2=>xdz fun hm_=>xdz fun ht_=>xdz fun hj=>xdz fun o2=>xdz fun hq=>xdz fun hf2=>?_
  subst hm_;obtain ⟨y4,ht_⟩:=ht_;subst ht_
  have hlz:zs.length=n:=hq.length_eq.trans hn.1.symm
  refine xej <| xej ?_
  by_cases cc6:0<((j:Nat):Int)
  ·
   refine xfw 14 [[],[],[0,1],[0,1,2],[],[],[],[5,6],[5,6,7],[],[0,1,2],[0,1,2,10],[0,1,2,9,10,11],[0,1,2,9,10,11,12],[0,1,2,4,5,6,7,8,9,10,11,12,13],[0,1,2,4,5,6,7,8,9,10,11,12,13,14],[]] xlq (by kernel_rfl) (Nat.le_of_ble_eq_true rfl) ?_
   refine wt (xaq (v:=.int .i64 (((j:Nat):Int))) rfl) (tm':=zq1 (zq2 (zq16 _))) rfl <| wo (xaq (v:=.int .i64 (0)) rfl) <| wt (xix rfl rfl) (tm':=zq1 (zq4 (zq16 _))) rfl <| wo (xaq (v:=.bool (decide (0<((j:Nat):Int)))) rfl) ?_
   refine xbz (ms rfl rfl (dtt cc6)) (fun h_ H_=>xaq (v:=fv) rfl) (tm':=zq1 (zq2 (zq4 (zq16 _)))) rfl ?_
   refine xbz (ms rfl rfl (dtt cc6)) (fun h_ H_=>xaq (v:=w) rfl) rfl ?_
   refine xbz (ms rfl rfl (dtt cc6)) (fun h_ H_=>xaq (v:=.int .i64 (((j:Nat):Int))) rfl) (tm':=zq1 (zq8 (zq16 _))) rfl ?_
   refine xbz (ms rfl rfl (dtt cc6)) (fun h_ H_=>xhz o2 Tryd.underlying22 tS3 rfl rfl (by rw [(xck _)];first | omega | (simp only [List.length_set];omega))) rfl ?_
   refine xbz (ms rfl rfl (dtt cc6)) (fun h_ H_=>xnx (A:=([]:Pcs)) (i:=j) (j:=0) (e:=[.int .i64 (zs.getD j 0)]) o2 H_ tA3 rfl rfl (xpj (by first | omega | (rw [leftK_length];omega) | (simp only [List.length_set];omega))) (u:=.int .i64 (zs.getD j 0)) rfl) (tm':=zq1 (zq2 (zq8 (zq16 _)))) rfl ?_
   refine xbz (ms rfl rfl (dtt cc6)) (fun h_ H_=>xaq (v:=w) rfl) rfl ?_
   refine xbz (ms rfl rfl (dtt cc6)) (fun h_ H_=>xaq (v:=.int .i64 (((j:Nat):Int))) rfl) (tm':=zq1 (zq4 (zq8 (zq16 _)))) rfl ?_
   refine xbz (ms rfl rfl (dtt cc6)) (fun h_ H_=>xkw rfl rfl (n:=((j-1:Nat):Int)) (by rw [show ((j:Nat):Int)-1=((j-1:Nat):Int) from by omega];exact wr (by omega))) rfl ?_
   refine xbz (ms rfl rfl (dtt cc6)) (fun h_ H_=>xhz o2 Tryd.underlying22 tS3 rfl rfl (by rw [(xck _)];first | omega | (simp only [List.length_set];omega))) (tm':=zq1 (zq2 (zq4 (zq8 (zq16 _))))) rfl ?_
   refine xbz (ms rfl rfl (dtt cc6)) (fun h_ H_=>xnx (A:=([]:Pcs)) (i:=j-1) (j:=0) (e:=[.int .i64 (zs.getD (j-1) 0)]) o2 H_ tA3 rfl rfl (xpj (by first | omega | (rw [leftK_length];omega) | (simp only [List.length_set];omega))) (u:=.int .i64 (zs.getD (j-1) 0)) rfl) rfl ?_
   refine xiz rfl ?_
   refine yuj (ms rfl rfl (dtt cc6)) rfl (vs:=[.int .i64 (zs.getD j 0),.int .i64 (zs.getD (j-1) 0)]) rfl (fun h_ H_=>hf _ _ h_) rfl ?_
   refine xaw (ms rfl rfl (dtt cc6)) (fun h_ H_=>xgw rfl rfl) (tm':=zq2 (zq32 _)) rfl ?_
   refine ro (xbj rfl (dtt cc6) (v:=.bool (decide (cmpI (zs.getD (j-1) 0) (zs.getD j 0)<0))) rfl) <| xak ?_
   by_cases cc7:cmpI (zs.getD (j-1) 0) (zs.getD j 0)<0
   ·
    refine xdk rfl (dtt cc7) <| xdq <| xej <| xek ?_
    refine ykw (Base1:=fun h_=>∃ X3_,OwnS 3 1 w ((ics zs).set j ([.int .i64 (zs.getD j 0)].set 0 (.int .i64 (zs.getD (j-1) 0)))) X3_∧St h₀ B₀ p h_ (([]:Pcs)++(X3_++(C₀++[])))) 16 15 [[],[],[],[],[3],[],[],[6],[5,6,7],[5,6,7,8],[],[],[10,11],[10,11,12],[0,1,5,6,7,8,9,10,11,12,13],[0,1,5,6,7,8,9,10,11,12,13,14],[0,1,2,3,4,5,6,7,8,9,10,11,12,13,14,15],[0,1,2,3,4,5,6,7,8,9,10,11,12,13,14,15,16]] xlq (by kernel_rfl) (Nat.le_of_ble_eq_true rfl) (Nat.le_of_ble_eq_true rfl) ?_
    refine xgq mn (by kernel_rfl) (xdj fun h_ H_=>xaq (v:=w) rfl) rfl ?_
    refine xgq mn (by kernel_rfl) (xdj fun h_ H_=>xaq (v:=.int .i64 (((j:Nat):Int))) rfl) (tm':=zq1 (zq4 (zq16 (zq32 [])))) rfl ?_
    refine yaw mn (xdj fun h_ H_=>xaq (v:=w) rfl) (xdj fun h_ ⟨X3_,o3_,H_⟩=>xaq (v:=w) rfl) rfl ?_
    refine yaw mn (xdj fun h_ H_=>xaq (v:=.int .i64 (((j:Nat):Int))) rfl) (xdj fun h_ ⟨X3_,o3_,H_⟩=>xaq (v:=.int .i64 (((j:Nat):Int))) rfl) (tm':=zq1 (zq4 (zq16 (zq32 [])))) rfl ?_
    refine yaw mn (xdj fun h_ H_=>xkw rfl rfl (n:=((j-1:Nat):Int)) (by rw [show ((j:Nat):Int)-1=((j-1:Nat):Int) from by omega];exact wr (by omega))) (xdj fun h_ ⟨X3_,o3_,H_⟩=>xkw rfl rfl (n:=((j-1:Nat):Int)) (by rw [show ((j:Nat):Int)-1=((j-1:Nat):Int) from by omega];exact wr (by omega))) rfl ?_
    refine xgq mn (by kernel_rfl) (xdj fun h_ H_=>xaq (v:=w) rfl) (tm':=zq1 (zq4 (zq16 (zq32 [])))) rfl ?_
    refine xgq mn (by kernel_rfl) (xdj fun h_ H_=>xaq (v:=.int .i64 (((j:Nat):Int))) rfl) rfl ?_
    refine xgq mn (by kernel_rfl) (xdj fun h_ H_=>xkw rfl rfl (n:=((j-1:Nat):Int)) (by rw [show ((j:Nat):Int)-1=((j-1:Nat):Int) from by omega];exact wr (by omega))) (tm':=zq1 (zq4 (zq16 (zq32 [])))) rfl ?_
    refine xgq mn (by kernel_rfl) (xdj fun h_ H_=>xhz o2 Tryd.underlying22 tS3 rfl rfl (by rw [(xck _)];first | omega | (simp only [List.length_set];omega))) rfl ?_
    refine xgq mn (by kernel_rfl) (xdj fun h_ H_=>xnx (A:=([]:Pcs)) (i:=j-1) (j:=0) (e:=[.int .i64 (zs.getD (j-1) 0)]) o2 H_ tA3 rfl rfl (xpj (by first | omega | (rw [leftK_length];omega) | (simp only [List.length_set];omega))) (u:=.int .i64 (zs.getD (j-1) 0)) rfl) (tm':=zq1 (zq4 (zq16 (zq32 [])))) rfl ?_
    refine xgq mn (by kernel_rfl) (xdj fun h_ H_=>xaq (v:=w) rfl) rfl ?_
    refine xgq mn (by kernel_rfl) (xdj fun h_ H_=>xaq (v:=.int .i64 (((j:Nat):Int))) rfl) (tm':=zq1 (zq4 (zq16 (zq32 [])))) rfl ?_
    refine xgq mn (by kernel_rfl) (xdj fun h_ H_=>xhz o2 Tryd.underlying22 tS3 rfl rfl (by rw [(xck _)];first | omega | (simp only [List.length_set];omega))) rfl ?_
    refine xgq mn (by kernel_rfl) (xdj fun h_ H_=>xnx (A:=([]:Pcs)) (i:=j) (j:=0) (e:=[.int .i64 (zs.getD j 0)]) o2 H_ tA3 rfl rfl (xpj (by first | omega | (rw [leftK_length];omega) | (simp only [List.length_set];omega))) (u:=.int .i64 (zs.getD j 0)) rfl) (tm':=zq1 (zq4 (zq16 (zq32 [])))) rfl ?_
    refine xgq mn (by kernel_rfl) (xdj fun h_ H_=>xhz o2 Tryd.underlying22 tS3 rfl rfl (by rw [(xck _)];first | omega | (simp only [List.length_set];omega))) rfl ?_
    refine zjz rfl mn (fun h_ H_=>ziv (A:=([]:Pcs)) (i:=j) (j:=0) (e:=[.int .i64 (zs.getD j 0)]) (u:=.int .i64 (zs.getD (j-1) 0)) o2 tS3 rfl rfl rfl ⟨rfl,rfl⟩ (xpj (by first | omega | (rw [leftK_length];omega) | (simp only [List.length_set];omega))) (Nat.succ_le_iff.1 (Nat.le_of_ble_eq_true rfl)) H_) rfl ?_
    refine zdx rfl (xfv fun X8=>xfz fun o9=>?_)
    have o10:OwnS 3 1 w (ics (zs.set j (zs.getD (j-1) 0))) X8:=o9.as xwj
    refine ro (xhz o10 Tryd.underlying22 tS3 rfl rfl (by rw [(xck _)];first | omega | (simp only [List.length_set];omega))) ?_
    refine xsz (A:=([]:Pcs)) (i:=j-1) (j:=0) (e:=[.int .i64 ((zs.set j (zs.getD (j-1) 0)).getD (j-1) 0)]) (u:=.int .i64 (zs.getD j 0)) o10 mn tS3 rfl rfl rfl ⟨rfl,rfl⟩ (xpj (by first | omega | (rw [leftK_length];omega) | (simp only [List.length_set];omega))) (Nat.succ_le_iff.1 (Nat.le_of_ble_eq_true rfl)) fun X11 o12=>?_
    have o13:OwnS 3 1 w (ics ((zs.set j (zs.getD (j-1) 0)).set (j-1) (zs.getD j 0))) X11:=o12.as xwj
    refine xak <| xeq <| xbq <| rt (xaq (v:=.int .i64 (((j:Nat):Int))) rfl) (tm':=zq1 (zq4 (zq16 (zq32 [])))) rfl ?_
    refine ro (xkw rfl rfl (n:=((j-1:Nat):Int)) (by rw [show ((j:Nat):Int)-1=((j-1:Nat):Int) from by omega];exact wr (by omega))) ?_
    refine ro (xax (v:=.int .i64 (((j-1:Nat):Int))) rfl) <| xak ?_
    exact fun h_ H_=>IH5 _ _ (by omega) h_ ⟨j-1,(swp zs j),X11,rfl,(y_of rfl),(by omega),(o13.as (show _=ics (swp zs j) from rfl)),((zvv (by omega) (by omega)).trans hq),(wfx hf2 (by omega) (by omega) (by omega) (by have z_:=ztv.1 ‹cmpI _ _<0›;exact z_)),H_⟩
   ·
    refine xcv rfl (dff cc7) <| xiq rfl <| xeq <| xbq <| rt (xaq (v:=.int .i64 (((i:Nat):Int))) rfl) (tm':=zq16 _) rfl ?_
    refine ro (xfx rfl rfl (n:=((i+1:Nat):Int)) (wr (by omega))) ?_
    refine ro (xax (v:=.int .i64 (((i+1:Nat):Int))) rfl) <| xak ?_
    exact fun h_ H_=>IH2 _ _ (by omega) h_ ⟨i+1,zs,X2,rfl,(y_of rfl),(by omega),o2,hq,(znj hf2 (by omega) (by first | exact .inl (by omega) | exact .inr (by have z_:=mt ztv.2 ‹¬ cmpI _ _<0›;omega))),H_⟩
  ·
   refine xfw 14 [[],[],[0,1],[0,1,2],[],[],[],[5,6],[5,6,7],[],[0,1,2],[0,1,2,10],[0,1,2,9,10,11],[0,1,2,9,10,11,12],[0,1,2,4,5,6,7,8,9,10,11,12,13],[0,1,2,4,5,6,7,8,9,10,11,12,13,14],[]] xlq (by kernel_rfl) (Nat.le_of_ble_eq_true rfl) ?_
   refine wo (xaq (v:=.int .i64 (((j:Nat):Int))) rfl) <| wt (xaq (v:=.int .i64 (0)) rfl) (tm':=zq4 (zq16 _)) rfl <| wo (xix rfl rfl) <| wt (xaq (v:=.bool (decide (0<((j:Nat):Int)))) rfl) (tm':=zq2 (zq4 (zq16 _))) rfl <| wp (mo rfl rfl (dff cc6)) <| xdv (mo rfl rfl (dff cc6)) (tm':=zq8 (zq16 _)) rfl ?_
   refine wp (mo rfl rfl (dff cc6)) <| xdv (mo rfl rfl (dff cc6)) (tm':=zq2 (zq8 (zq16 _))) rfl <| wp (mo rfl rfl (dff cc6)) <| xdv (mo rfl rfl (dff cc6)) (tm':=zq4 (zq8 (zq16 _))) rfl <| wp (mo rfl rfl (dff cc6)) <| xdv (mo rfl rfl (dff cc6)) (tm':=zq2 (zq4 (zq8 (zq16 _)))) rfl ?_
   refine wp (mo rfl rfl (dff cc6)) <| xdv (mo rfl rfl (dff cc6)) (tm':=zq32 _) rfl ?_
   refine xiz rfl ?_
   refine rp (mo rfl rfl (dff cc6)) <| xfq (mo rfl rfl (dff cc6)) (tm':=zq2 (zq32 _)) rfl <| ro (xcq rfl (dff cc6) (v:=.bool (false)) rfl) <| xak <| xcv rfl rfl <| xiq rfl ?_
   refine xeq <| xbq <| ro (xaq (v:=.int .i64 (((i:Nat):Int))) rfl) ?_
   refine rt (xfx rfl rfl (n:=((i+1:Nat):Int)) (wr (by omega))) (tm':=zq1 (zq16 _)) rfl ?_
   refine ro (xax (v:=.int .i64 (((i+1:Nat):Int))) rfl) <| xak ?_
   exact fun h_ H_=>IH2 _ _ (by omega) h_ ⟨i+1,zs,X2,rfl,(y_of rfl),(by omega),o2,hq,(znj hf2 (by omega) (by first | exact .inl (by omega) | exact .inr (by have z_:=mt ztv.2 ‹¬ cmpI _ _<0›;omega))),H_⟩
 ·
  refine xcv rfl (dff cc3) <| xiq rfl ?_
  refine ztx Tryd.func115 rfl (vs:=[]) (fun h_ H_=>rfl) (v:=.tuple #[]) rfl ?_
  exact fun h_ H_=>K _ _ ⟨_,o1.as (by rw [wtv hs (by omega) hp]),by simpa using H_⟩
end Go.Proofs.YtalfgojocdonhaaDoor
namespace Go.Proofs.YtalfgojocdonhaaDoor
open Go.X Go.X.Flow Go.Conc
set_option maxRecDepth 10000
set_option synthInstance.maxSize 2000

set_option maxHeartbeats 1000000
theorem c111 (md:Md) (h h₀:Heap) (B₀:List Nat) (p:PHeap) (w:Value) (xs:List Int) (X₀ C₀:Pcs) (o₀:OwnS 3 1 w (ics xs) X₀) (n:Nat) (hn:n=xs.length∧n≤12) (lim:Int) (_hlim:True) (fv:Value) (hf: ∀ x y h,CallV Tryd.prog md fv [.int .i64 x,.int .i64 y] h fun v h'=>v= .int .i64 (cmpI y x)∧Keep h h') (s₀:St h₀ B₀ p h (([]:Pcs)++(X₀++(C₀++[])))):CallsX Tryd.prog md 111 #[w,.int .i64 (0),.int .i64 (((n:Nat):Int)),.int .i64 (lim),fv] h fun _ h'=>∃ X',OwnS 3 1 w (ics (srt xs)) X'∧St h₀ B₀ p h' (X'++(C₀++[])):=by
 refine xcw (Φ:=fun h_=>St h₀ B₀ p h_ (([]:Pcs)++(X₀++(C₀++[])))) Tryd.func111 rfl (tm:=zq4 (zq16 (zq32 (zq32 (zq32 (zq32 [])))))) rfl ?_ s₀
 intro c₀ cs Stop K
 refine fsr <| ro (xax (v:=.bool (true)) rfl) <| ren <| xbq <| ro (xax (v:=.bool (true)) rfl) <| xak ?_
 refine xek ?_
 refine wyj ?_
 refine xek <| fsr <| rt (xaq (v:=.int .i64 (((n:Nat):Int))) rfl) (tm':=zq2 (zq4 (zq16 _))) rfl <| ro (xaq (v:=.int .i64 (0)) rfl) ?_
 refine ro (xkw rfl rfl (wr (by omega))) ?_
 refine rt (xax (v:=.int .i64 (((n:Nat):Int)-0)) rfl) (tm':=zq1 (zq4 (zq8 _))) rfl <| ren <| fsr <| ro (xaq (v:=.int .i64 (((n:Nat):Int)-0)) rfl) <| ro (yhz rfl rfl) <| xak ?_
 refine xdk rfl (decide_eq_true (by omega)) ?_
 refine fsr <| rt (xaq (v:=w) rfl) (tm':=zq1 (zq2 (zq8 (zq16 _)))) rfl <| ro (xaq (v:=.int .i64 (0)) rfl) <| ro (xaq (v:=.int .i64 (((n:Nat):Int))) rfl) <| rt (xaq (v:=fv) rfl) (tm':=zq2 (zq4 (zq8 (zq16 _)))) rfl ?_
 refine xjq mn (first:=[]) (cap:=[]) rfl rfl fC115 (R:=fun _ h_=>∃ X1:Pcs,OwnS 3 1 w (ics (srt xs)) X1∧St h₀ B₀ p h_ (([]:Pcs)++(X1++(C₀++[])))) (fun h_ H_=>(c115 md _ _ _ _ w xs _ _ o₀ n (hn) fv hf (H_.lentTo)).mono fun v_ h2_ ⟨X_,o_,N_⟩=>⟨X_,o_,N_.lentBack⟩) fun v3=>?_
 refine xfv fun X1=>xfz fun o2=>?_
 refine xak ?_
 refine xew Tryd.func111 rfl (vs:=[]) (fun h_ H_=>rfl) (v:=.tuple #[]) rfl ?_
 exact fun h_ H_=>K _ _ ⟨_,o2,by simpa using H_⟩
theorem c124 (md:Md) (h:Heap) (n:Nat) (hn:n≤12):CallsX Tryd.prog md 124 #[.int .u64 (((n:Nat):Int))] h fun v h'=>∃ k:Int,v= .int .i64 k∧New h h' []:=by
 refine xcw (Φ:=fun h_=>St h [] (fun _=>none) h_ []) Tryd.func124 rfl (tm:=zq1 (zq8 (zq16 []))) rfl ?_ (St.start h _ (fun _ _ e=>by cases e))
 intro c₀ cs Stop K
 refine fsr <| ro (xax (v:=.int .i64 0) rfl) <| ren <| fsr <| rt (xaq (v:=.int .u64 (((n:Nat):Int))) rfl) (tm':=zq4 _) rfl <| ro (xuj rfl rfl) ?_
 refine xak ?_
 refine xcv rfl (decide_eq_false (by omega)) ?_
 refine xdq <| xej <| fsr <| ro (xaq (v:=.int .u64 (((n:Nat):Int))) rfl) <| rt (xuj rfl rfl) (tm':=zq1 (zq8 _)) rfl <| xak ?_
 refine xcv rfl (decide_eq_false (by omega)) ?_
 refine xdq <| xej <| fsr <| ro (xaq (v:=.int .u64 (((n:Nat):Int))) rfl) <| ro (xuj rfl rfl) <| xak ?_
 refine xcv rfl (decide_eq_false (by omega)) ?_
 refine xdq <| fsr <| rt (xaq (v:=.int .i64 0) rfl) (tm':=zq1 (zq8 (zq16 []))) rfl <| ro (xaq (v:=.int .u64 (((n:Nat):Int))) rfl) ?_
 refine ro (ysz ⟨_,Tryd.underlying110⟩ Tryd.underlying5 rfl (n:=((n:Nat):Int)) (wr8 (by omega))) ?_
 refine rt (ztk (l:=([0,1,2,2,3,3,3,3,4,4,4,4,4,4,4,4,5,5,5,5,5,5,5,5,5,5,5,5,5,5,5,5,6,6,6,6,6,6,6,6,6,6,6,6,6,6,6,6,6,6,6,6,6,6,6,6,6,6,6,6,6,6,6,6,7,7,7,7,7,7,7,7,7,7,7,7,7,7,7,7,7,7,7,7,7,7,7,7,7,7,7,7,7,7,7,7,7,7,7,7,7,7,7,7,7,7,7,7,7,7,7,7,7,7,7,7,7,7,7,7,7,7,7,7,7,7,7,7,8,8,8,8,8,8,8,8,8,8,8,8,8,8,8,8,8,8,8,8,8,8,8,8,8,8,8,8,8,8,8,8,8,8,8,8,8,8,8,8,8,8,8,8,8,8,8,8,8,8,8,8,8,8,8,8,8,8,8,8,8,8,8,8,8,8,8,8,8,8,8,8,8,8,8,8,8,8,8,8,8,8,8,8,8,8,8,8,8,8,8,8,8,8,8,8,8,8,8,8,8,8,8,8,8,8,8,8,8,8,8,8,8,8,8,8,8,8,8,8,8,8,8,8,8,8,8,8]:List UInt8)) (i:=n) Tryd.underlying9 rfl rfl (Nat.lt_of_le_of_lt hn (Nat.le_of_ble_eq_true rfl))) (tm':=zq1 (zq8 (zq16 []))) rfl <| ro (ysz ⟨_,Tryd.underlying5⟩ Tryd.underlying3 rfl (n:=(((([0,1,2,2,3,3,3,3,4,4,4,4,4,4,4,4,5,5,5,5,5,5,5,5,5,5,5,5,5,5,5,5,6,6,6,6,6,6,6,6,6,6,6,6,6,6,6,6,6,6,6,6,6,6,6,6,6,6,6,6,6,6,6,6,7,7,7,7,7,7,7,7,7,7,7,7,7,7,7,7,7,7,7,7,7,7,7,7,7,7,7,7,7,7,7,7,7,7,7,7,7,7,7,7,7,7,7,7,7,7,7,7,7,7,7,7,7,7,7,7,7,7,7,7,7,7,7,7,8,8,8,8,8,8,8,8,8,8,8,8,8,8,8,8,8,8,8,8,8,8,8,8,8,8,8,8,8,8,8,8,8,8,8,8,8,8,8,8,8,8,8,8,8,8,8,8,8,8,8,8,8,8,8,8,8,8,8,8,8,8,8,8,8,8,8,8,8,8,8,8,8,8,8,8,8,8,8,8,8,8,8,8,8,8,8,8,8,8,8,8,8,8,8,8,8,8,8,8,8,8,8,8,8,8,8,8,8,8,8,8,8,8,8,8,8,8,8,8,8,8,8,8,8,8,8,8]:List UInt8).getD n 0).toNat:Nat):Int)) (wrB _)) <| ro (xfx rfl rfl (wr (zbyte _))) <| rt (xax (v:=.int .i64 (0+(((([0,1,2,2,3,3,3,3,4,4,4,4,4,4,4,4,5,5,5,5,5,5,5,5,5,5,5,5,5,5,5,5,6,6,6,6,6,6,6,6,6,6,6,6,6,6,6,6,6,6,6,6,6,6,6,6,6,6,6,6,6,6,6,6,7,7,7,7,7,7,7,7,7,7,7,7,7,7,7,7,7,7,7,7,7,7,7,7,7,7,7,7,7,7,7,7,7,7,7,7,7,7,7,7,7,7,7,7,7,7,7,7,7,7,7,7,7,7,7,7,7,7,7,7,7,7,7,7,8,8,8,8,8,8,8,8,8,8,8,8,8,8,8,8,8,8,8,8,8,8,8,8,8,8,8,8,8,8,8,8,8,8,8,8,8,8,8,8,8,8,8,8,8,8,8,8,8,8,8,8,8,8,8,8,8,8,8,8,8,8,8,8,8,8,8,8,8,8,8,8,8,8,8,8,8,8,8,8,8,8,8,8,8,8,8,8,8,8,8,8,8,8,8,8,8,8,8,8,8,8,8,8,8,8,8,8,8,8,8,8,8,8,8,8,8,8,8,8,8,8,8,8,8,8,8,8]:List UInt8).getD n 0).toNat:Nat):Int))) rfl) (tm':=_::_::_::_) rfl <| xak ?_
 refine xew Tryd.func124 rfl (vs:=[.int .i64 (0+(((([0,1,2,2,3,3,3,3,4,4,4,4,4,4,4,4,5,5,5,5,5,5,5,5,5,5,5,5,5,5,5,5,6,6,6,6,6,6,6,6,6,6,6,6,6,6,6,6,6,6,6,6,6,6,6,6,6,6,6,6,6,6,6,6,7,7,7,7,7,7,7,7,7,7,7,7,7,7,7,7,7,7,7,7,7,7,7,7,7,7,7,7,7,7,7,7,7,7,7,7,7,7,7,7,7,7,7,7,7,7,7,7,7,7,7,7,7,7,7,7,7,7,7,7,7,7,7,7,8,8,8,8,8,8,8,8,8,8,8,8,8,8,8,8,8,8,8,8,8,8,8,8,8,8,8,8,8,8,8,8,8,8,8,8,8,8,8,8,8,8,8,8,8,8,8,8,8,8,8,8,8,8,8,8,8,8,8,8,8,8,8,8,8,8,8,8,8,8,8,8,8,8,8,8,8,8,8,8,8,8,8,8,8,8,8,8,8,8,8,8,8,8,8,8,8,8,8,8,8,8,8,8,8,8,8,8,8,8,8,8,8,8,8,8,8,8,8,8,8,8,8,8,8,8,8,8]:List UInt8).getD n 0).toNat:Nat):Int))]) (fun h_ H_=>⟨.int .i64 (0+(((([0,1,2,2,3,3,3,3,4,4,4,4,4,4,4,4,5,5,5,5,5,5,5,5,5,5,5,5,5,5,5,5,6,6,6,6,6,6,6,6,6,6,6,6,6,6,6,6,6,6,6,6,6,6,6,6,6,6,6,6,6,6,6,6,7,7,7,7,7,7,7,7,7,7,7,7,7,7,7,7,7,7,7,7,7,7,7,7,7,7,7,7,7,7,7,7,7,7,7,7,7,7,7,7,7,7,7,7,7,7,7,7,7,7,7,7,7,7,7,7,7,7,7,7,7,7,7,7,8,8,8,8,8,8,8,8,8,8,8,8,8,8,8,8,8,8,8,8,8,8,8,8,8,8,8,8,8,8,8,8,8,8,8,8,8,8,8,8,8,8,8,8,8,8,8,8,8,8,8,8,8,8,8,8,8,8,8,8,8,8,8,8,8,8,8,8,8,8,8,8,8,8,8,8,8,8,8,8,8,8,8,8,8,8,8,8,8,8,8,8,8,8,8,8,8,8,8,8,8,8,8,8,8,8,8,8,8,8,8,8,8,8,8,8,8,8,8,8,8,8,8,8,8,8,8,8]:List UInt8).getD n 0).toNat:Nat):Int)),_,rfl,rfl,rfl⟩) (v:=.int .i64 (0+(((([0,1,2,2,3,3,3,3,4,4,4,4,4,4,4,4,5,5,5,5,5,5,5,5,5,5,5,5,5,5,5,5,6,6,6,6,6,6,6,6,6,6,6,6,6,6,6,6,6,6,6,6,6,6,6,6,6,6,6,6,6,6,6,6,7,7,7,7,7,7,7,7,7,7,7,7,7,7,7,7,7,7,7,7,7,7,7,7,7,7,7,7,7,7,7,7,7,7,7,7,7,7,7,7,7,7,7,7,7,7,7,7,7,7,7,7,7,7,7,7,7,7,7,7,7,7,7,7,8,8,8,8,8,8,8,8,8,8,8,8,8,8,8,8,8,8,8,8,8,8,8,8,8,8,8,8,8,8,8,8,8,8,8,8,8,8,8,8,8,8,8,8,8,8,8,8,8,8,8,8,8,8,8,8,8,8,8,8,8,8,8,8,8,8,8,8,8,8,8,8,8,8,8,8,8,8,8,8,8,8,8,8,8,8,8,8,8,8,8,8,8,8,8,8,8,8,8,8,8,8,8,8,8,8,8,8,8,8,8,8,8,8,8,8,8,8,8,8,8,8,8,8,8,8,8,8]:List UInt8).getD n 0).toNat:Nat):Int))) rfl ?_
 exact fun h_ H_=>K _ _ ⟨_,rfl,H_.new⟩
theorem c112 (md:Md) (h:Heap) (n:Nat) (hn:n≤12):CallsX Tryd.prog md 112 #[.int .u64 (((n:Nat):Int))] h fun v h'=>∃ k:Int,v= .int .i64 k∧New h h' []:=by
 refine xcw (Φ:=fun h_=>St h [] (fun _=>none) h_ []) Tryd.func112 rfl (tm:=zq8 []) rfl ?_ (St.start h _ (fun _ _ e=>by cases e))
 intro c₀ cs Stop K
 refine fsr <| ro (xax (v:=.int .i64 0) rfl) <| ren <| xcv rfl rfl <| xdq <| fsr ?_
 refine ro (xaq (v:=.int .u64 (((n:Nat):Int))) rfl) ?_
 refine xcj (L':=([]:Pcs)++[]) rfl ?_
 refine xjq mn (first:=[]) (cap:=[]) rfl rfl fC124 (R:=fun v_ h_=>∃ n1:Int,v_= .int .i64 (n1)∧St h [] (fun _=>none) h_ (([]:Pcs)++([]++[]))) (fun h_ H_=>(c124 md _ n (by omega)).mono fun v_ h2_ ⟨n1,e_,N_⟩=>⟨n1,e_,H_.callNA N_⟩) fun v_=>?_
 refine xfv fun n1=>xfz fun ev_=>  ?_
 have ev_:=ev_.symm;subst ev_
 refine xcj (L':=[]) (by simp) ?_
 refine xgx (tm':=zq8 []) rfl ?_
 refine ro (xax (v:=.int .i64 (n1)) rfl) <| xak ?_
 refine xew Tryd.func112 rfl (vs:=[.int .i64 (n1)]) (fun h_ H_=>⟨.int .i64 (n1),_,rfl,rfl,rfl⟩) (v:=.int .i64 (n1)) rfl ?_
 exact fun h_ H_=>K _ _ ⟨_,rfl,H_.new⟩
theorem c103 (md:Md) (h h₀:Heap) (B₀:List Nat) (p:PHeap) (w:Value) (xs:List Int) (X₀ C₀:Pcs) (o₀:OwnS 3 1 w (ics xs) X₀) (n:Nat) (hn:n=xs.length∧n≤12) (fv:Value) (hf: ∀ x y h,CallV Tryd.prog md fv [.int .i64 x,.int .i64 y] h fun v h'=>v= .int .i64 (cmpI y x)∧Keep h h') (s₀:St h₀ B₀ p h (([]:Pcs)++(X₀++(C₀++[])))):CallsX Tryd.prog md 103 #[w,fv] h fun _ h'=>∃ X',OwnS 3 1 w (ics (srt xs)) X'∧St h₀ B₀ p h' (X'++(C₀++[])):=by
 refine xcw (Φ:=fun h_=>St h₀ B₀ p h_ (([]:Pcs)++(X₀++(C₀++[])))) Tryd.func103 rfl (tm:=zq2 (zq4 (zq8 []))) rfl ?_ s₀
 intro c₀ cs Stop K
 refine fsr <| ro (xaq (v:=w) rfl) <| rt (xuz o₀ (xck _) Tryd.underlying22 rfl) (tm':=zq1 (zq2 (zq4 _))) rfl <| ro (xax (v:=.int .i64 (((xs.length:Nat):Int))) rfl) <| xak <| xbq ?_
 refine ro (xaq (v:=w) rfl) <| rt (xaq (v:=.int .i64 (((xs.length:Nat):Int))) rfl) (tm':=zq1 (zq8 _)) rfl <| ro (xaq (v:=.int .i64 (((xs.length:Nat):Int))) rfl) ?_
 refine ro (ysz ⟨_,Tryd.underlying3⟩ Tryd.underlying78 rfl (n:=((xs.length:Nat):Int)) (wrU (by omega))) ?_
 refine xjq mn (first:=[]) (cap:=[]) rfl rfl fC112 (R:=fun v_ h_=>∃ n1:Int,v_= .int .i64 (n1)∧St h₀ B₀ p h_ (([]:Pcs)++([]++(X₀++(C₀++[]))))) (fun h_ H_=>(c112 md _ xs.length (by omega)).mono fun v_ h2_ ⟨n1,e_,N_⟩=>⟨n1,e_,H_.callNA N_⟩) fun v_=>?_
 refine xfv fun n1=>xfz fun ev_=>  ?_
 have ev_:=ev_.symm;subst ev_
 refine xcj (L':=([]:Pcs)++(X₀++(C₀++[]))) (by simp) ?_
 refine xgx (tm':=zq2 (zq4 (zq8 []))) rfl ?_
 refine ro (xaq (v:=fv) rfl) ?_
 refine xjq mn (first:=[]) (cap:=[]) rfl rfl fC111 (R:=fun _ h_=>∃ X2:Pcs,OwnS 3 1 w (ics (srt xs)) X2∧St h₀ B₀ p h_ (([]:Pcs)++(X2++(C₀++[])))) (fun h_ H_=>(c111 md _ _ _ _ w xs _ _ o₀ xs.length (⟨rfl,by omega⟩) (n1) trivial fv hf (H_.lentTo)).mono fun v_ h2_ ⟨X_,o_,N_⟩=>⟨X_,o_,N_.lentBack⟩) fun v4=>?_
 refine xfv fun X2=>xfz fun o3=>?_
 refine xak ?_
 refine ztx Tryd.func103 rfl (vs:=[]) (fun h_ H_=>rfl) (v:=.tuple #[]) rfl ?_
 exact fun h_ H_=>K _ _ ⟨_,o3,by simpa using H_⟩
theorem c91 (md:Md) (h h₀:Heap) (B₀:List Nat) (p:PHeap) (w:Value) (xs:List Int) (X₀ C₀:Pcs) (o₀:OwnS 3 1 w (ics xs) X₀) (n:Nat) (hn:n=xs.length∧n≤12) (s₀:St h₀ B₀ p h (([]:Pcs)++(X₀++(C₀++[])))):CallsX Tryd.prog md 91 #[w] h fun v_ h'=>∃ X',v_=w∧OwnS 3 1 w (ics (srt xs)) X'∧St h₀ B₀ p h' (X'++(C₀++[])):=by
 refine xcw (Φ:=fun h_=>St h₀ B₀ p h_ (([]:Pcs)++(X₀++(C₀++[])))) Tryd.func91 rfl (tm:=zq2 (zq4 [])) rfl ?_ s₀
 intro c₀ cs Stop K
 refine fsr <| rt (xax (v:=.slice none 0 0) rfl) (tm':=_::_::_::_) rfl <| ren <| xbq <| ro (xaq (v:=w) rfl) ?_
 refine xjq mn (first:=[]) (cap:=[]) rfl rfl fC103 (R:=fun _ h_=>∃ X1:Pcs,OwnS 3 1 w (ics (srt xs)) X1∧St h₀ B₀ p h_ (([]:Pcs)++(X1++(C₀++[])))) (fun h_ H_=>(c103 md _ _ _ _ w xs _ _ o₀ (xs.length) (⟨rfl,by omega⟩) (.func (.func 104) #[] #[]) (fun _ _ _=>xzv fC104 (c104 md _ _ _)) (H_.lentTo)).mono fun v_ h2_ ⟨X_,o_,N_⟩=>⟨X_,o_,N_.lentBack⟩) fun v3=>?_
 refine xfv fun X1=>xfz fun o2=>?_
 refine ren <| xbq <| rt (xaq (v:=w) rfl) (tm':=zq2 (zq4 [])) rfl <| ro (xax (v:=w) rfl) <| xak ?_
 refine xew Tryd.func91 rfl (vs:=[w]) (fun h_ H_=>⟨w,_,rfl,rfl,rfl⟩) (v:=w) rfl ?_
 exact fun h_ H_=>K _ _ ⟨_,rfl,o2,by simpa using H_⟩
end Go.Proofs.YtalfgojocdonhaaDoor
