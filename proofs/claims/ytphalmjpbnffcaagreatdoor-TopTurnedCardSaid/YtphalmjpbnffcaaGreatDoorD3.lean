/-
  Part of proofs about cords and rosters in a file: a lone run, and what it computes. No condition.
-/
import Derived.Test.YtphalmjpbnffcaaGreatDoorD1
import Derived.Test.YtphalmjpbnffcaaGreatDoorD2
namespace Go.Proofs.YtphalmjpbnffcaaGreatDoor
open Go.X Go.X.Kn Go.Conc
set_option maxRecDepth 10000
set_option synthInstance.maxSize 2000

set_option maxHeartbeats 2000000
theorem c45 (md:Md) (h:Heap) (p:PHeap) (hp:Per p h) (z:Int) (hz:2≤z∧z≤10) (e:Option Addr) (m ce:Nat) (l:List Int) (S:Ints p e m l) (hm:m≤4) (hd: ∀ i,i<m→0≤l.getD i 0∧l.getD i 0≤z-1):CallsX Tryz.prog md 45 #[.int .i64 (z),.slice e m ce] h fun v h'=>v= .int .i64 (numJ z l l.length)∧Keep h h':=by
 refine xbv (Φ:=fun h_=>St h [] p h_ []) Tryz.func45 rfl (tm:=zq1 (zq4 (zq16 []))) rfl ?_ (St.start h _ hp)
 intro c₀ cs Stop K
 have hs:=S.len
 refine fsr <| ro (xaq (v:=.int .i64 0) rfl) <| ren <| xav <| ro (xaq (v:=.int .i64 0) rfl) <| ren ?_
 refine fsr <| rt (xax (v:=.slice e m ce) rfl) (tm':=zq1 (zq8 _)) rfl <| ro (xfj Tryz.underlying26 rfl) <| ro (xax (v:=.int .i64 0) rfl) <| xak <| xeq ?_
 refine xhk (m₀:=m-0) (fun m_ tm_ h_=>∃ (j:Nat) (s:Int),m_=m-j∧(∃ y1:Nat→Value,tm_=[.int .i64 (z),.slice e m ce,undef,undef,.int .i64 0,.int .i64 (s),undef,(y1 7),.slice e m ce,.int .i64 (((m:Nat):Int)),.int .i64 (((j:Nat):Int)),(y1 11),(y1 12),(y1 13),(y1 14),(y1 15),(y1 16),(y1 17),(y1 18),(y1 19),undef])∧(j≤m)∧(s=numJ z l j)∧St h [] p h_ ([])) (fun h_ H_=>⟨0,0,rfl,(y_of rfl),Nat.zero_le _,rfl,H_⟩) ?_
 intro m_ tm_ IH2
 refine xhq fun j=>xhq fun s=>xdj fun hm_=>xdj fun ht_=>xdj fun hj=>xdj fun hs_=>?_
 subst hm_;obtain ⟨y1,ht_⟩:=ht_;subst ht_
 have hd1_:=yzj hz (l:=l) (j:=j) (by omega) (fun i hi=>hd i (by omega))
 have hd2_:=wnx hz (l:=l) (j:=j) (by omega) (fun i hi=>hd i (by omega))
 rw [← hs_] at hd1_ hd2_
 refine fsr <| rt (xfk rfl rfl) (tm':=zq4 (zq8 _)) rfl <| ren ?_
 by_cases cc3:((j:Nat):Int)<((m:Nat):Int)
 ·
  refine xcx rfl (dtt cc3) <| xdz <| xbj <| xeq <| fsr ?_
  refine ro (xdx (i:=j) Tryz.underlying26 tS3 (xlx e m ce (S.ne (by omega))) rfl (by omega)) ?_
  refine rd (fun h_ H_=>xdk H_ tA3 rfl (v:=.int .i64 (l.getD j 0)) (S.get (by omega))) ?_
  refine rt (xaq (v:=.int .i64 (l.getD j 0)) rfl) (tm':=zq8 _) rfl <| xak <| xav <| ro (xax (v:=.int .i64 (s)) rfl) <| ro (xax (v:=.int .i64 (z)) rfl) ?_
  refine rt (xwk rfl rfl (wr (by first | omega | (have z_:=hd j (by omega);omega)))) (tm':=zq1 (zq4 (zq16 []))) rfl ?_
  refine ro (xax (v:=.int .i64 (l.getD j 0)) rfl) ?_
  refine ro (xev rfl rfl (wr (by first | omega | (have z_:=hd j (by omega);omega)))) ?_
  refine rt (xaq (v:=.int .i64 ((s*z)+(l.getD j 0))) rfl) (tm':=zq2 (zq4 _)) rfl <| xak <| xex <| xav ?_
  refine ro (xev rfl rfl (n:=((j+1:Nat):Int)) (wr (by omega))) ?_
  refine ro (xax (v:=.int .i64 (((j+1:Nat):Int))) rfl) <| xak ?_
  exact fun h_ H_=>IH2 _ _ (by omega) h_ ⟨j+1,(s*z)+(l.getD j 0),rfl,(y_of rfl),(by omega),(by rw [numJ,← hs_]),H_⟩
 ·
  refine xcv rfl (dff cc3) <| xgk rfl <| fsr <| rt (xax (v:=.int .i64 (s)) rfl) (tm':=zq1 (zq4 (zq16 []))) rfl <| ro (xaq (v:=.int .i64 (s)) rfl) <| xak ?_
  refine xcj Tryz.func45 rfl (vs:=[.int .i64 (s)]) (fun h_ H_=>⟨.int .i64 (s),_,rfl,rfl,rfl⟩) (v:=.int .i64 (s)) rfl ?_
  have ej_:j=l.length:=by omega
  exact fun h_ H_=>K _ _ ⟨by rw [hs_,ej_],H_.kept⟩
theorem c15 (md:Md) (h:Heap) (p:PHeap) (hp:Per p h) (a:Option Addr) (ca:Nat) (A:Nat→Option Addr) (C:Nat→Nat) (b:Option Addr) (cb:Nat) (k:Bk) (B:BookP p a k.cords.length A C b k.top.length k) (hn:k.cords.length≤40∧k.top.length≤40∧ ∀ l∈k.cords,l.length≤40) (hb:2≤k.base∧k.base≤10) (e:Option Addr) (m ce:Nat) (l:List Int) (S:Ints p e m l) (hm:m≤2 ^ 40):CallsX Tryz.prog md 15 #[.agg #[.int .i64 (k.base),.int .i64 (k.places),.slice a k.cords.length ca,.slice b k.top.length cb],.slice e m ce] h fun v h'=>v= .tuple #[.int .i64 (rdK k l),.int .i64 (askK k (decide (digK k l)))]∧Keep h h':=by
 refine xbv (Φ:=fun h_=>St h [] p h_ []) Tryz.func15 rfl (tm:=zq1 (zq2 (zq16 []))) rfl ?_ (St.start h _ hp)
 intro c₀ cs Stop K
 have hs:=S.len
 refine fsr ?_
 refine xjq mn (v:=.agg #[.int .i64 (k.base),.int .i64 (k.places),.slice a k.cords.length ca,.slice b k.top.length cb]) rfl fun b1=>xcz (L':=[(b1,.cells #[.int .i64 (k.base),.int .i64 (k.places),.slice a k.cords.length ca,.slice b k.top.length cb] 25 (0,0))]) rfl ?_
 refine rt (xaq (v:=.int .i64 0) rfl) (tm':=zq1 (zq4 _)) rfl <| ro (xaq (v:=.int .i64 0) rfl) <| ren <| xbj ?_
 refine xhw 4 [[],[],[],[1,2],[],[]] mixed (by kernel_rfl) (Nat.le_of_ble_eq_true rfl) ?_
 refine wd (fun h_ H_=>xbk H_ tA25 tS25 rfl (i:=0) rfl (vs:=[.int .i64 (k.base),.int .i64 (k.places),.slice a k.cords.length ca,.slice b k.top.length cb]) rfl rfl) ?_
 refine xfq mn (fun h_ H_=>xbk H_ tA25 tS25 rfl (i:=0) rfl (vs:=[.int .i64 (k.base),.int .i64 (k.places),.slice a k.cords.length ca,.slice b k.top.length cb]) rfl rfl) (tm':=zq1 (zq8 _)) rfl ?_
 refine wo (xax (v:=.slice e m ce) rfl) ?_
 refine xox mn (first:=[]) (cap:=[]) rfl rfl fC44 (fun h_ H_=>(c44 md _ _ H_.pe _ _ _ _ _ _ k (show BookP _ _ _ _ _ _ _ k from ⟨B.t,B.u⟩) _ _ _ _ S (by omega) hb).mono fun v_ h2_ ⟨e_,k_⟩=>⟨e_,H_.call k_⟩) (tm':=zq1 (zq2 (zq8 _))) rfl ?_
 refine xlq rfl ?_
 refine xcw mn (first:=[]) (cap:=[]) rfl rfl fC34 (fun h_ H_=>c34 md _ _ H_.pe _ _ _ _ _ _ k (show BookP _ _ _ _ _ _ _ k from ⟨B.t,B.u⟩) hn (decide (digK k l))) (tm':=zq4 (zq8 _)) rfl ?_
 refine ro (xaq (v:=.int .i64 (askK k (decide (digK k l)))) rfl) <| ren <| xav <| ro (xax (v:=.int .i64 (askK k (decide (digK k l)))) rfl) <| rt (xgw rfl rfl) (tm':=zq1 (zq2 (zq16 []))) rfl <| xak ?_
 by_cases cc2:askK k (decide (digK k l))≠0
 ·
  refine xcx rfl (dtt cc2) <| fsr <| ro (xax (v:=.int .i64 (askK k (decide (digK k l)))) rfl) <| ro (xaq (v:=.int .i64 0) rfl) <| rt (xaq (v:=.int .i64 (askK k (decide (digK k l)))) rfl) (tm':=zq2 (zq4 _)) rfl <| xak ?_
  refine xcj Tryz.func15 rfl (vs:=[.int .i64 0,.int .i64 (askK k (decide (digK k l)))]) (fun h_ H_=>⟨.int .i64 0,_,rfl,rfl,⟨.int .i64 (askK k (decide (digK k l))),_,rfl,rfl,rfl⟩⟩) (v:=.tuple #[.int .i64 0,.int .i64 (askK k (decide (digK k l)))]) rfl ?_
  exact fun h_ H_=>K _ _ ⟨by rw [rdK,if_neg (fun z_=>by have y_:=wsk (k:=k) (b:=decide (digK k l)) ‹_›;first | exact y_ z_.1 (decide_eq_true z_.2) )],H_.kept⟩
 ·
  refine xcv rfl (dff cc2) <| xdz <| xbj ?_
  obtain ⟨hc_,hq_⟩:=wpv (show askK k (decide (digK k l))=0 by omega)
  have hd_:=of_decide_eq_true hq_
  have hl_:=hd_.1
  have hp_:=(waj hc_).2.1
  refine xav <| ro (xaw ygj rfl (a':=⟨b1,0,none⟩) rfl) <| rd (fun h_ H_=>xbx H_ tA3 rfl (i:=0) rfl (v:=.int .i64 (k.base)) rfl) <| rt (xax (v:=.slice e m ce) rfl) (tm':=zq1 (zq2 (zq16 []))) rfl ?_
  refine xcw mn (first:=[]) (cap:=[]) rfl rfl fC45 (fun h_ H_=>c45 md _ _ H_.pe _ hb _ _ _ _ S (by omega) (fun i hi=>wpk (hd_.2 _ (xmw (by omega))))) rfl ?_
  refine ro (xaq (v:=.int .i64 (numJ k.base l l.length)) rfl) <| rt (xaq (v:=.int .i64 0) rfl) (tm':=zq2 (zq4 _)) rfl <| xak ?_
  refine xcj Tryz.func15 rfl (vs:=[.int .i64 (numJ k.base l l.length),.int .i64 0]) (fun h_ H_=>⟨.int .i64 (numJ k.base l l.length),_,rfl,rfl,⟨.int .i64 0,_,rfl,rfl,rfl⟩⟩) (v:=.tuple #[.int .i64 (numJ k.base l l.length),.int .i64 0]) rfl ?_
  exact fun h_ H_=>K _ _ ⟨by rw [rdK,if_pos ⟨hc_,hd_⟩,show askK k (decide (digK k l))=0 by omega],H_.kept⟩
theorem c9 (md:Md) (h:Heap) (p:PHeap) (hp:Per p h) (a:Option Addr) (ca:Nat) (A:Nat→Option Addr) (C:Nat→Nat) (b:Option Addr) (cb:Nat) (k:Bk) (_B:BookP p a k.cords.length A C b k.top.length k) (hk:bookB k):CallsX Tryz.prog md 9 #[.agg #[.int .i64 (k.base),.int .i64 (k.places),.slice a k.cords.length ca,.slice b k.top.length cb]] h fun v h'=>v= .int .i64 (k.base ^ k.places.toNat)∧Keep h h':=by
 refine xbv (Φ:=fun h_=>St h [] p h_ []) Tryz.func9 rfl (tm:=zq16 []) rfl ?_ (St.start h _ hp)
 intro c₀ cs Stop K
 have hb:=hk.1
 have hp2:=hk.2.1
 refine fsr ?_
 refine xjq mn (v:=.agg #[.int .i64 (k.base),.int .i64 (k.places),.slice a k.cords.length ca,.slice b k.top.length cb]) rfl fun b1=>xcz (L':=[(b1,.cells #[.int .i64 (k.base),.int .i64 (k.places),.slice a k.cords.length ca,.slice b k.top.length cb] 25 (0,0))]) rfl ?_
 refine ro (xaq (v:=.int .i64 0) rfl) <| ren <| xav <| rt (xaq (v:=.int .i64 1) rfl) (tm':=zq4 _) rfl <| ren <| fsr ?_
 refine ro (xaq (v:=.int .i64 0) rfl) <| xak <| xeq ?_
 refine xhk (m₀:=k.places.toNat-0) (fun m_ tm_ h_=>∃ (j:Nat) (s:Int),m_=k.places.toNat-j∧(∃ y2:Nat→Value,tm_=[.agg #[.int .i64 (k.base),.int .i64 (k.places),.slice a k.cords.length ca,.slice b k.top.length cb],.pointer (some ⟨b1,0,none⟩),.int .i64 0,.int .i64 (s),.int .i64 (((j:Nat):Int)),(y2 5),(y2 6),(y2 7),(y2 8),(y2 9),(y2 10),(y2 11),(y2 12),(y2 13),(y2 14),undef])∧(j≤k.places.toNat)∧(s=k.base ^ j)∧St h [] p h_ ([(b1,.cells #[.int .i64 (k.base),.int .i64 (k.places),.slice a k.cords.length ca,.slice b k.top.length cb] 25 (0,0))])) (fun h_ H_=>⟨0,1,rfl,(y_of rfl),Nat.zero_le _,(Int.pow_zero _).symm,H_⟩) ?_
 intro m_ tm_ IH3
 refine xhq fun j=>xhq fun s=>xdj fun hm_=>xdj fun ht_=>xdj fun hj=>xdj fun hs_=>?_
 subst hm_;obtain ⟨y2,ht_⟩:=ht_;subst ht_
 have hd1_:=zvz hb (j:=j) (by omega)
 have hd2_:=yzv hd1_ (show 1≤k.base∧k.base≤10 by omega)
 rw [← hs_] at hd1_ hd2_
 refine xbj <| fsr <| ro (xax (v:=.int .i64 (((j:Nat):Int))) rfl) <| rt (xaw ypx rfl (a':=⟨b1,1,none⟩) rfl) (tm':=zq1 (zq2 (zq4 _))) rfl <| rd (fun h_ H_=>xbx H_ tA3 rfl (i:=0) rfl (v:=.int .i64 (k.places)) rfl) <| ro (xfk rfl rfl) ?_
 refine xak ?_
 by_cases cc4:((j:Nat):Int)<k.places
 ·
  refine xcx rfl (dtt cc4) <| xdz <| xbj <| xeq <| xav <| rt (xax (v:=.int .i64 (s)) rfl) (tm':=zq16 []) rfl ?_
  refine ro (xaw ygj rfl (a':=⟨b1,0,none⟩) rfl) <| rd (fun h_ H_=>xbx H_ tA3 rfl (i:=0) rfl (v:=.int .i64 (k.base)) rfl) ?_
  refine rt (xwk rfl rfl (wr (by omega))) (tm':=zq16 []) rfl ?_
  refine ro (xaq (v:=.int .i64 (s*k.base)) rfl) <| xak <| xex <| xav <| ro (xax (v:=.int .i64 (((j:Nat):Int))) rfl) ?_
  refine rt (xev rfl rfl (n:=((j+1:Nat):Int)) (wr (by omega))) (tm':=zq16 []) rfl ?_
  refine ro (xaq (v:=.int .i64 (((j+1:Nat):Int))) rfl) <| xak ?_
  exact fun h_ H_=>IH3 _ _ (by omega) h_ ⟨j+1,s*k.base,rfl,(y_of rfl),(by omega),(by rw [Int.pow_succ,← hs_]),H_⟩
 ·
  refine xcv rfl (dff cc4) <| xgk rfl <| fsr <| ro (xax (v:=.int .i64 (s)) rfl) <| rt (xaq (v:=.int .i64 (s)) rfl) (tm':=_::_::_::_) rfl <| xak ?_
  refine xcj Tryz.func9 rfl (vs:=[.int .i64 (s)]) (fun h_ H_=>⟨.int .i64 (s),_,rfl,rfl,rfl⟩) (v:=.int .i64 (s)) rfl ?_
  have ej_:j=k.places.toNat:=by omega
  exact fun h_ H_=>K _ _ ⟨by rw [hs_,ej_],H_.kept⟩
theorem c5 (md:Md) (h:Heap) (p:PHeap) (hp:Per p h) (a:Option Addr) (ca:Nat) (A:Nat→Option Addr) (C:Nat→Nat) (b:Option Addr) (cb:Nat) (k:Bk) (B:BookP p a k.cords.length A C b k.top.length k) (hl:k.cords.length≤9223372036854775807∧k.top.length≤9223372036854775807):CallsX Tryz.prog md 5 #[.agg #[.int .i64 (k.base),.int .i64 (k.places),.slice a k.cords.length ca,.slice b k.top.length cb]] h fun v h'=>∃ x:Bool,v= .bool x∧(x=false→ ¬ bigK k)∧New h h' []:=by
 refine xbv (Φ:=fun h_=>St h [] p h_ []) Tryz.func5 rfl (tm:=zq1 (zq2 (zq4 (zq16 (zq32 []))))) rfl ?_ (St.start h _ hp)
 intro c₀ cs Stop K
 refine fsr ?_
 refine xjq mn (v:=.agg #[.int .i64 (k.base),.int .i64 (k.places),.slice a k.cords.length ca,.slice b k.top.length cb]) rfl fun b1=>xcz (L':=[(b1,.cells #[.int .i64 (k.base),.int .i64 (k.places),.slice a k.cords.length ca,.slice b k.top.length cb] 25 (0,0))]) rfl ?_
 refine ro (xaq (v:=.bool (false)) rfl) <| ren <| fsr ?_
 refine xaj mn (fun h_ H_=>xbk H_ tA25 tS25 rfl (i:=0) rfl (vs:=[.int .i64 (k.base),.int .i64 (k.places),.slice a k.cords.length ca,.slice b k.top.length cb]) rfl rfl) (tm':=zq1 (zq2 (zq4 _))) rfl ?_
 refine xcw mn (first:=[]) (cap:=[]) rfl rfl fC29 (fun h_ H_=>c29 md _ _ H_.pe _ _ _ _ _ _ k (show BookP _ _ _ _ _ _ _ k from ⟨B.t,B.u⟩) hl) rfl ?_
 refine xak ?_
 by_cases cc2:bigK k
 ·
  refine xcx rfl (dtt cc2) <| fsr <| ro (xaq (v:=.bool (true)) rfl) <| xak ?_
  refine xcj Tryz.func5 rfl (vs:=[.bool (true)]) (fun h_ H_=>⟨.bool (true),_,rfl,rfl,rfl⟩) (v:=.bool (true)) rfl ?_
  exact fun h_ H_=>K _ _ ⟨_,rfl,(fun z_=>by first | exact absurd z_ (by decide) | assumption),(H_.sub (List.nil_sublist _)).new⟩
 ·
  refine xcv rfl (dff cc2) <| xdz <| xbj <| xbj ?_
  have hn:=wvj ‹¬ bigK k›
  refine xav ?_
  refine xaj mn (fun h_ H_=>xbk H_ tA25 tS25 rfl (i:=0) rfl (vs:=[.int .i64 (k.base),.int .i64 (k.places),.slice a k.cords.length ca,.slice b k.top.length cb]) rfl rfl) (tm':=zq1 (zq8 _)) rfl ?_
  refine xcw mn (first:=[]) (cap:=[]) rfl rfl fC6 (fun h_ H_=>c6 md _ _ H_.pe _ _ _ _ _ _ k (show BookP _ _ _ _ _ _ _ k from ⟨B.t,B.u⟩) hn) rfl ?_
  refine ro (xgw rfl rfl) <| xak ?_
  by_cases cc3:chkK k≠0
  ·
   refine xcx rfl (dtt cc3) <| fsr <| rt (xaq (v:=.bool (false)) rfl) (tm':=_::_::_::_) rfl <| xak ?_
   refine xcj Tryz.func5 rfl (vs:=[.bool (false)]) (fun h_ H_=>⟨.bool (false),_,rfl,rfl,rfl⟩) (v:=.bool (false)) rfl ?_
   exact fun h_ H_=>K _ _ ⟨_,rfl,(fun z_=>by first | exact absurd z_ (by decide) | assumption),(H_.sub (List.nil_sublist _)).new⟩
  ·
   refine xcv rfl (dff cc3) <| xdz <| xbj ?_
   have hk:=waj (k:=k) (by omega)
   have hb:=hk.1
   have hp4_:=hk.2.1
   have hpw_:=zvz hb (j:=k.places.toNat) (by omega)
   refine xav <| ro (xaq (v:=.int .i64 1) rfl) <| ren <| fsr <| ro (xaq (v:=.int .i64 0) rfl) <| xak ?_
   refine xeq ?_
   refine xhk (m₀:=k.cords.length-0) (fun m_ tm_ h_=>∃ (i:Nat) (s:Int),m_=k.cords.length-i∧(∃ y4:Nat→Value,tm_=[.agg #[.int .i64 (k.base),.int .i64 (k.places),.slice a k.cords.length ca,.slice b k.top.length cb],.pointer (some ⟨b1,0,none⟩),(y4 2),.int .i64 (s),.int .i64 (((i:Nat):Int)),(y4 5),.agg #[.int .i64 (k.base),.int .i64 (k.places),.slice a k.cords.length ca,.slice b k.top.length cb],.bool (decide (bigK k)),.agg #[.int .i64 (k.base),.int .i64 (k.places),.slice a k.cords.length ca,.slice b k.top.length cb],.int .i64 (chkK k),.bool (decide (chkK k≠0)),(y4 11),(y4 12),(y4 13),(y4 14),(y4 15),(y4 16),(y4 17),(y4 18),(y4 19),(y4 20),(y4 21),(y4 22),(y4 23),(y4 24),(y4 25),(y4 26),(y4 27),(y4 28),(y4 29),(y4 30),(y4 31),(y4 32),(y4 33),(y4 34),(y4 35),(y4 36),(y4 37),(y4 38),(y4 39),(y4 40),(y4 41),(y4 42),(y4 43),(y4 44),(y4 45),(y4 46),(y4 47),(y4 48),(y4 49),(y4 50),(y4 51),undef,undef,undef])∧(i≤k.cords.length)∧(1≤s∧s≤400)∧St h [] p h_ ([(b1,.cells #[.int .i64 (k.base),.int .i64 (k.places),.slice a k.cords.length ca,.slice b k.top.length cb] 25 (0,0))])) (fun h_ H_=>⟨0,1,rfl,(y_of rfl),Nat.zero_le _,(by decide),H_⟩) ?_
   intro m_ tm_ IH5
   refine xhq fun i=>xhq fun s=>xdj fun hm_=>xdj fun ht_=>xdj fun hi=>xdj fun hs_=>?_
   subst hm_;obtain ⟨y4,ht_⟩:=ht_;subst ht_
   refine xbj <| fsr <| rt (xax (v:=.int .i64 (((i:Nat):Int))) rfl) (tm':=zq4 (zq8 _)) rfl <| ro (xaw xxj rfl (a':=⟨b1,2,none⟩) rfl) <| rd (fun h_ H_=>xbx H_ tA22 rfl (i:=0) rfl (v:=.slice a k.cords.length ca) rfl) <| rt (xfj Tryz.underlying22 rfl) (tm':=zq1 (zq2 (zq4 (zq8 _)))) rfl ?_
   refine ro (xfk rfl rfl) <| xak ?_
   by_cases cc6:((i:Nat):Int)<((k.cords.length:Nat):Int)
   ·
    refine xcx rfl (dtt cc6) <| xdz <| xbj <| xeq <| fsr <| ro (xaq (v:=.int .i64 0) rfl) ?_
    refine xak <| xeq ?_
    refine xhk (m₀:=(k.cords.getD i []).length-0) (fun m_ tm_ h_=>∃ (q:Nat) (s2:Int),m_=(k.cords.getD i []).length-q∧(∃ y7:Nat→Value,tm_=[.agg #[.int .i64 (k.base),.int .i64 (k.places),.slice a k.cords.length ca,.slice b k.top.length cb],.pointer (some ⟨b1,0,none⟩),(y7 2),.int .i64 (s2),.int .i64 (((i:Nat):Int)),.int .i64 (((q:Nat):Int)),.agg #[.int .i64 (k.base),.int .i64 (k.places),.slice a k.cords.length ca,.slice b k.top.length cb],.bool (decide (bigK k)),.agg #[.int .i64 (k.base),.int .i64 (k.places),.slice a k.cords.length ca,.slice b k.top.length cb],.int .i64 (chkK k),.bool (decide (chkK k≠0)),.int .i64 (((i:Nat):Int)),.pointer (some ⟨b1,2,none⟩),.slice a k.cords.length ca,.int .i64 (((k.cords.length:Nat):Int)),.bool (decide (((i:Nat):Int)<((k.cords.length:Nat):Int))),(y4 16),(y4 17),(y7 18),(y7 19),(y7 20),(y7 21),(y7 22),(y7 23),(y7 24),(y7 25),(y7 26),(y7 27),(y7 28),(y7 29),(y7 30),(y7 31),(y7 32),(y7 33),(y7 34),(y7 35),(y7 36),(y7 37),(y7 38),(y7 39),(y7 40),(y7 41),(y7 42),(y7 43),(y7 44),(y7 45),(y7 46),(y7 47),(y7 48),(y7 49),(y7 50),(y7 51),undef,undef,undef])∧(q≤(k.cords.getD i []).length)∧(1≤s2∧s2≤400)∧St h [] p h_ ([(b1,.cells #[.int .i64 (k.base),.int .i64 (k.places),.slice a k.cords.length ca,.slice b k.top.length cb] 25 (0,0))])) (fun h_ H_=>⟨0,s,rfl,(y_of rfl),Nat.zero_le _,hs_,H_⟩) ?_
    intro m_ tm_ IH8
    refine xhq fun q=>xhq fun s2=>xdj fun hm_=>xdj fun ht_=>xdj fun hq=>xdj fun hs2_=>?_
    subst hm_;obtain ⟨y7,ht_⟩:=ht_;subst ht_
    have hc40_:=hn.2.2 _ (xmw (d:=[]) (l:=k.cords) (i:=i) (by omega))
    refine xbj <| fsr <| rt (xax (v:=.int .i64 (((q:Nat):Int))) rfl) (tm':=zq1 (zq2 (zq16 _))) rfl <| ro (xaw xxj rfl (a':=⟨b1,2,none⟩) rfl) <| rd (fun h_ H_=>xbx H_ tA22 rfl (i:=0) rfl (v:=.slice a k.cords.length ca) rfl) <| rt (xax (v:=.int .i64 (((i:Nat):Int))) rfl) (tm':=zq2 (zq4 (zq16 _))) rfl ?_
    refine ro (xdx (i:=i) Tryz.underlying22 tS23 (xlx a k.cords.length ca (B.t.ne (by omega))) rfl (by omega)) ?_
    refine rd (fun h_ H_=>xdk H_ tA23 rfl (v:=.slice (A i) ((k.cords.getD i []).length) (C i)) (B.t.cell _ (by omega))) ?_
    refine rt (xfj Tryz.underlying23 rfl) (tm':=zq1 (zq8 (zq16 _))) rfl <| ro (xfk rfl rfl) <| xak ?_
    by_cases cc9:((q:Nat):Int)<(((k.cords.getD i []).length:Nat):Int)
    ·
     refine xcx rfl (dtt cc9) <| xdz <| xbj <| xeq <| xbj ?_
     refine xhw 21 [[],[],[1],[],[1,2,3],[1,2,3,4],[],[1,2,3,4,5,6],[1,2,3,4,5,6,7],[1,2,3,4,5,6,7,8],[],[10],[],[10,11,12],[10,11,12,13],[],[10,11,12,13,14,15],[10,11,12,13,14,15,16],[10,11,12,13,14,15,16,17],[1,2,3,4,5,6,7,8,9,10,11,12,13,14,15,16,17,18],[1,2,3,4,5,6,7,8,9,10,11,12,13,14,15,16,17,18,19],[],[]] mixed (by kernel_rfl) (Nat.le_of_ble_eq_true rfl) ?_
     refine wo (xax (v:=.int .i64 (s2)) rfl) <| wt (xaw xxj rfl (a':=⟨b1,2,none⟩) rfl) (tm':=zq2 (zq4 (zq8 (zq16 _)))) rfl <| wd (fun h_ H_=>xbx H_ tA22 rfl (i:=0) rfl (v:=.slice a k.cords.length ca) rfl) <| wt (xax (v:=.int .i64 (((i:Nat):Int))) rfl) (tm':=zq32 _) rfl ?_
     refine wo (xdx (i:=i) Tryz.underlying22 tS23 (xlx a k.cords.length ca (B.t.ne (by omega))) rfl (by omega)) ?_
     refine xfq mn (fun h_ H_=>xdk H_ tA23 rfl (v:=.slice (A i) ((k.cords.getD i []).length) (C i)) (B.t.cell _ (by omega))) (tm':=zq2 (zq32 _)) rfl ?_
     refine wo (xax (v:=.int .i64 (((q:Nat):Int))) rfl) ?_
     refine wt (xdx (i:=q) Tryz.underlying23 tS68 (xlx (A i) ((k.cords.getD i []).length) (C i) ((B.t.sps _ (by omega)).ne (by omega))) rfl (by omega)) (tm':=zq4 (zq32 _)) rfl ?_
     refine wo (xaw ypq rfl (a':=((adr (A i)).add (q*2)).add 1) rfl) ?_
     refine xfq mn (fun h_ H_=>xdk H_ tA3 rfl (v:=.int .i64 (((k.cords.getD i []).getD q spz).2)) ((B.t.sps _ (by omega)).hi (by omega))) (tm':=zq1 (zq2 (zq4 (zq16 (zq32 []))))) rfl ?_
     refine wo (xaw xxj rfl (a':=⟨b1,2,none⟩) rfl) ?_
     refine xfq mn (fun h_ H_=>xbx H_ tA22 rfl (i:=0) rfl (v:=.slice a k.cords.length ca) rfl) (tm':=zq1 (zq2 (zq4 (zq16 (zq32 []))))) rfl ?_
     refine wo (xax (v:=.int .i64 (((i:Nat):Int))) rfl) ?_
     refine wt (xdx (i:=i) Tryz.underlying22 tS23 (xlx a k.cords.length ca (B.t.ne (by omega))) rfl (by omega)) (tm':=zq1 (zq2 (zq4 (zq16 (zq32 []))))) rfl ?_
     refine wd (fun h_ H_=>xdk H_ tA23 rfl (v:=.slice (A i) ((k.cords.getD i []).length) (C i)) (B.t.cell _ (by omega))) ?_
     refine wt (xax (v:=.int .i64 (((q:Nat):Int))) rfl) (tm':=zq1 (zq2 (zq4 (zq16 (zq32 []))))) rfl ?_
     refine wo (xdx (i:=q) Tryz.underlying23 tS68 (xlx (A i) ((k.cords.getD i []).length) (C i) ((B.t.sps _ (by omega)).ne (by omega))) rfl (by omega)) ?_
     refine wt (xaw zsx rfl (a':=(adr (A i)).add (q*2)) rfl) (tm':=zq1 (zq2 (zq4 (zq16 (zq32 []))))) rfl ?_
     refine wd (fun h_ H_=>xdk H_ tA3 rfl (v:=.int .i64 (((k.cords.getD i []).getD q spz).1)) ((B.t.sps _ (by omega)).lo (by omega))) ?_
     refine wt (xlv rfl rfl (wr (by have z_:=wcz hk (i:=i) (p:=q) (by omega) (by omega);have y_:=yzv (f:=((k.cords.getD i []).getD q spz).2-((k.cords.getD i []).getD q spz).1+1) hs2_ (by omega);omega))) (tm':=zq1 (zq2 (zq4 (zq16 (zq32 []))))) rfl ?_
     refine wo (xev rfl rfl (wr (by have z_:=wcz hk (i:=i) (p:=q) (by omega) (by omega);have y_:=yzv (f:=((k.cords.getD i []).getD q spz).2-((k.cords.getD i []).getD q spz).1+1) hs2_ (by omega);omega))) ?_
     refine xlq rfl ?_
     refine ro (xwk rfl rfl (wr (by have z_:=wcz hk (i:=i) (p:=q) (by omega) (by omega);have y_:=yzv (f:=((k.cords.getD i []).getD q spz).2-((k.cords.getD i []).getD q spz).1+1) hs2_ (by omega);omega))) ?_
     refine rt (xaq (v:=.int .i64 (s2*(((((k.cords.getD i []).getD q spz).2)-(((k.cords.getD i []).getD q spz).1))+1))) rfl) (tm':=zq4 _) rfl <| ren <| xav <| ro (xax (v:=.int .i64 (s2*(((((k.cords.getD i []).getD q spz).2)-(((k.cords.getD i []).getD q spz).1))+1))) rfl) <| ro (xjx rfl rfl) <| xak ?_
     by_cases cc10:400<s2*(((((k.cords.getD i []).getD q spz).2)-(((k.cords.getD i []).getD q spz).1))+1)
     ·
      refine xcx rfl (dtt cc10) <| fsr <| rt (xaq (v:=.bool (true)) rfl) (tm':=_::_::_::_) rfl <| xak ?_
      refine xcj Tryz.func5 rfl (vs:=[.bool (true)]) (fun h_ H_=>⟨.bool (true),_,rfl,rfl,rfl⟩) (v:=.bool (true)) rfl ?_
      exact fun h_ H_=>K _ _ ⟨_,rfl,(fun z_=>by first | exact absurd z_ (by decide) | assumption),(H_.sub (List.nil_sublist _)).new⟩
     ·
      refine xcv rfl (dff cc10) <| xdz <| xex <| xav <| ro (xax (v:=.int .i64 (((q:Nat):Int))) rfl) ?_
      refine ro (xev rfl rfl (n:=((q+1:Nat):Int)) (wr (by omega))) ?_
      refine rt (xaq (v:=.int .i64 (((q+1:Nat):Int))) rfl) (tm':=zq2 (zq4 _)) rfl <| xak ?_
      exact fun h_ H_=>IH8 _ _ (by omega) h_ ⟨q+1,s2*(((((k.cords.getD i []).getD q spz).2)-(((k.cords.getD i []).getD q spz).1))+1),rfl,(y_of rfl),(by omega),(by have z_:=wcz hk (i:=i) (p:=q) (by omega) (by omega);have y_:=yzv (f:=((k.cords.getD i []).getD q spz).2-((k.cords.getD i []).getD q spz).1+1) hs2_ (by omega);omega),H_⟩
    ·
     refine xcv rfl (dff cc9) <| xgk rfl <| xex <| xav <| ro (xax (v:=.int .i64 (((i:Nat):Int))) rfl) ?_
     refine ro (xev rfl rfl (n:=((i+1:Nat):Int)) (wr (by omega))) ?_
     refine rt (xaq (v:=.int .i64 (((i+1:Nat):Int))) rfl) (tm':=zq1 (zq4 _)) rfl <| xak ?_
     exact fun h_ H_=>IH5 _ _ (by omega) h_ ⟨i+1,s2,rfl,(y_of rfl),(by omega),(by omega),H_⟩
   ·
    refine xcv rfl (dff cc6) <| xgk rfl <| fsr <| rd (fun h_ H_=>xbk H_ tA25 tS25 rfl (i:=0) rfl (vs:=[.int .i64 (k.base),.int .i64 (k.places),.slice a k.cords.length ca,.slice b k.top.length cb]) rfl rfl) ?_
    refine xcw mn (first:=[]) (cap:=[]) rfl rfl fC9 (fun h_ H_=>c9 md _ _ H_.pe _ _ _ _ _ _ k (show BookP _ _ _ _ _ _ _ k from ⟨B.t,B.u⟩) hk) rfl ?_
    refine rt (xjx rfl rfl) (tm':=zq1 (zq2 (zq4 (zq16 (zq32 []))))) rfl <| ro (xaq (v:=.bool (decide (1000<k.base ^ k.places.toNat))) rfl) <| xak ?_
    refine xcj Tryz.func5 rfl (vs:=[.bool (decide (1000<k.base ^ k.places.toNat))]) (fun h_ H_=>⟨.bool (decide (1000<k.base ^ k.places.toNat)),_,rfl,rfl,rfl⟩) (v:=.bool (decide (1000<k.base ^ k.places.toNat))) rfl ?_
    exact fun h_ H_=>K _ _ ⟨_,rfl,(fun z_=>by first | exact absurd z_ (by decide) | assumption),(H_.sub (List.nil_sublist _)).new⟩
end Go.Proofs.YtphalmjpbnffcaaGreatDoor
namespace Go.Proofs.YtphalmjpbnffcaaGreatDoor
open Go.X Go.X.Kn Go.Conc
set_option maxRecDepth 10000
set_option synthInstance.maxSize 2000

set_option maxHeartbeats 2000000
theorem c12 (md:Md) (h:Heap) (d:Int) (hd:0≤d∧d≤9):CallsX Tryz.prog md 12 #[.int .i64 (d)] h fun v h'=>v=sv [UInt8.ofNat (48+d).toNat]∧Keep h h':=by
 refine xbv (Φ:=fun h_=>St h [] (fun _=>none) h_ []) Tryz.func12 rfl (tm:=zq1 (zq2 (zq4 (zq16 [])))) rfl ?_ (St.start h _ (fun _ _ e=>by cases e))
 intro c₀ cs Stop K
 refine fsr <| ro (xaq (v:=sv ([]:List UInt8)) rfl) <| ren <| fsr <| ro (xax (v:=.int .i64 (d)) rfl) <| rt (xfk rfl rfl) (tm':=zq1 (zq4 _)) rfl ?_
 refine xak ?_
 refine xcv rfl (decide_eq_false (by omega)) ?_
 refine xdz <| xbj <| fsr <| ro (xax (v:=.int .i64 (d)) rfl) <| ro (xfk rfl rfl) <| xak ?_
 refine xcx rfl (decide_eq_true (by omega)) ?_
 refine fsr <| rt (xax (v:=.int .i64 (d)) rfl) (tm':=zq4 (zq8 _)) rfl ?_
 refine ro (xev rfl rfl (wr (by omega))) ?_
 refine ro (xoz ⟨_,Tryz.underlying3⟩ Tryz.underlying5 rfl (n:=48+d) (wr8 (by omega))) ?_
 refine xcz (L':=([]:Pcs)++[]) rfl ?_
 refine xhv ([]:Pcs) mn Tryz.underlying47 tS5 tZ5 (Nat.le_of_ble_eq_true rfl) (vs:=[(0,.int .u8 (48+d))]) rfl rfl (es:=[[.int .u8 (48+d)]]) rfl rfl rfl fun v1 X2 o3=>?_
 refine xfz (tm':=zq1 (zq2 (zq4 (zq8 _)))) rfl ?_
 refine rd (fun h_ H_=>xvj (A:=([]:Pcs)) (o3.as (zmk (by omega) (by omega))) H_ Tryz.underlying47 Tryz.underlying9 Tryz.underlying5 rfl) ?_
 refine ro (xaq (v:=sv ([UInt8.ofNat (48+d).toNat])) rfl) <| xak ?_
 refine xcj Tryz.func12 rfl (vs:=[sv ([UInt8.ofNat (48+d).toNat])]) (fun h_ H_=>⟨sv ([UInt8.ofNat (48+d).toNat]),_,rfl,rfl,rfl⟩) (v:=sv ([UInt8.ofNat (48+d).toNat])) rfl ?_
 exact fun h_ H_=>K _ _ ⟨rfl,H_.kept⟩
theorem c28 (md:Md) (h:Heap) (p:PHeap) (hp:Per p h) (a b:Option Addr) (m n c d:Nat) (xs ys:List Int) (A:Ints p a m xs) (B:Ints p b n ys) (hm:m≤2 ^ 40):CallsX Tryz.prog md 28 #[.slice a m c,.slice b n d] h fun v h'=>v= .bool (decide (xs=ys))∧Keep h h':=by
 refine xbv (Φ:=fun h_=>St h [] p h_ []) Tryz.func28 rfl (tm:=zq2 (zq8 (zq16 []))) rfl ?_ (St.start h _ hp)
 intro c₀ cs Stop K
 refine fsr <| rt (xaq (v:=.bool (false)) rfl) (tm':=zq1 (zq4 _)) rfl <| ren <| fsr <| ro (xax (v:=.slice a m c) rfl) <| ro (xfj Tryz.underlying26 rfl) ?_
 refine rt (xax (v:=.slice b n d) rfl) (tm':=zq1 (zq8 _)) rfl <| ro (xfj Tryz.underlying26 rfl) <| ro (xgw rfl rfl) <| xak ?_
 by_cases cc1:((m:Nat):Int)≠((n:Nat):Int)
 ·
  refine xcx rfl (dtt cc1) <| fsr <| rt (xaq (v:=.bool (false)) rfl) (tm':=zq1 (zq4 _)) rfl <| xak ?_
  refine xcj Tryz.func28 rfl (vs:=[.bool (false)]) (fun h_ H_=>⟨.bool (false),_,rfl,rfl,rfl⟩) (v:=.bool (false)) rfl ?_
  exact fun h_ H_=>K _ _ ⟨by first | exact zez A.len B.len (by omega) | exact ysj ‹_› | exact ysz A.len B.len (by omega) (by omega) hs,H_.kept⟩
 ·
  refine xcv rfl (dff cc1) <| xdz <| xbj <| fsr <| ro (xaq (v:=.int .i64 0) rfl) <| xak ?_
  refine xeq ?_
  refine xhk (m₀:=m-0) (fun m_ tm_ h_=>∃ (k:Nat),m_=m-k∧(∃ y2:Nat→Value,tm_=[.slice a m c,.slice b n d,undef,undef,(y2 4),.int .i64 (((k:Nat):Int)),.slice a m c,.int .i64 (((m:Nat):Int)),.slice b n d,.int .i64 (((n:Nat):Int)),.bool (decide (((m:Nat):Int)≠((n:Nat):Int))),(y2 11),(y2 12),(y2 13),(y2 14),(y2 15),(y2 16),(y2 17),(y2 18),(y2 19),(y2 20),(y2 21),(y2 22),(y2 23),(y2 24),(y2 25)])∧(k≤m)∧(∀ i,i<k→xs.getD i 0=ys.getD i 0)∧St h [] p h_ ([])) (fun h_ H_=>⟨0,rfl,(y_of rfl),Nat.zero_le _,(fun i hi=>absurd hi (Nat.not_lt_zero i)),H_⟩) ?_
  intro m_ tm_ IH3
  refine xhq fun k=>xdj fun hm_=>xdj fun ht_=>xdj fun hk=>xdj fun hs=>?_
  subst hm_;obtain ⟨y2,ht_⟩:=ht_;subst ht_
  refine xbj <| fsr <| ro (xax (v:=.int .i64 (((k:Nat):Int))) rfl) <| rt (xax (v:=.slice a m c) rfl) (tm':=zq1 (zq4 (zq8 _))) rfl <| ro (xfj Tryz.underlying26 rfl) <| ro (xfk rfl rfl) ?_
  refine xak ?_
  by_cases cc4:((k:Nat):Int)<((m:Nat):Int)
  ·
   refine xcx rfl (dtt cc4) <| xdz <| xbj <| xeq <| xbj ?_
   refine xhw 8 [[],[],[0,1],[0,1,2],[],[],[4,5],[4,5,6],[]] mixed (by kernel_rfl) (Nat.le_of_ble_eq_true rfl) ?_
   refine wt (xax (v:=.slice a m c) rfl) (tm':=zq2 (zq8 (zq16 []))) rfl <| wo (xax (v:=.int .i64 (((k:Nat):Int))) rfl) ?_
   refine wt (xdx (i:=k) Tryz.underlying26 tS3 (xlx a m c (A.ne (by omega))) rfl (by omega)) (tm':=zq2 (zq8 (zq16 []))) rfl ?_
   refine wd (fun h_ H_=>xdk H_ tA3 rfl (v:=.int .i64 (xs.getD k 0)) (A.get (by omega))) ?_
   refine wt (xax (v:=.slice b n d) rfl) (tm':=zq2 (zq8 (zq16 []))) rfl <| wo (xax (v:=.int .i64 (((k:Nat):Int))) rfl) ?_
   refine wt (xdx (i:=k) Tryz.underlying26 tS3 (xlx b n d (B.ne (by omega))) rfl (by omega)) (tm':=zq2 (zq8 (zq16 []))) rfl ?_
   refine wd (fun h_ H_=>xdk H_ tA3 rfl (v:=.int .i64 (ys.getD k 0)) (B.get (by omega))) ?_
   refine xlq rfl ?_
   refine ro (xgw rfl rfl) <| xak ?_
   by_cases cc5:xs.getD k 0≠ys.getD k 0
   ·
    refine xcx rfl (dtt cc5) <| fsr <| rt (xaq (v:=.bool (false)) rfl) (tm':=zq1 (zq4 _)) rfl <| xak ?_
    refine xcj Tryz.func28 rfl (vs:=[.bool (false)]) (fun h_ H_=>⟨.bool (false),_,rfl,rfl,rfl⟩) (v:=.bool (false)) rfl ?_
    exact fun h_ H_=>K _ _ ⟨by first | exact zez A.len B.len (by omega) | exact ysj ‹_› | exact ysz A.len B.len (by omega) (by omega) hs,H_.kept⟩
   ·
    refine xcv rfl (dff cc5) <| xdz <| xex <| xav <| ro (xax (v:=.int .i64 (((k:Nat):Int))) rfl) ?_
    refine ro (xev rfl rfl (n:=((k+1:Nat):Int)) (wr (by omega))) ?_
    refine rt (xaq (v:=.int .i64 (((k+1:Nat):Int))) rfl) (tm':=zq2 (zq4 _)) rfl <| xak ?_
    exact fun h_ H_=>IH3 _ _ (by omega) h_ ⟨k+1,rfl,(y_of rfl),(by omega),(ztz hs (by omega)),H_⟩
  ·
   refine xcv rfl (dff cc4) <| xgk rfl <| fsr <| ro (xaq (v:=.bool (true)) rfl) <| xak ?_
   refine xcj Tryz.func28 rfl (vs:=[.bool (true)]) (fun h_ H_=>⟨.bool (true),_,rfl,rfl,rfl⟩) (v:=.bool (true)) rfl ?_
   exact fun h_ H_=>K _ _ ⟨by first | exact zez A.len B.len (by omega) | exact ysj ‹_› | exact ysz A.len B.len (by omega) (by omega) hs,H_.kept⟩
end Go.Proofs.YtphalmjpbnffcaaGreatDoor
namespace Go.Proofs.YtphalmjpbnffcaaGreatDoor
open Go.X Go.X.Cent Go.Conc
set_option maxRecDepth 10000

theorem c64 (h:Heap) (p:PHeap) (hp:Per p h) (a:Option Addr) (n c:Nat) (ts:List By) (T:Strs p a n ts) (hn:n≤60) (ht: ∀ t∈ts,t.length≤200):CallsX Tryz.prog .lone 64 #[.slice a n c] h fun v h'=>v=sv (wholeB ts)∧Keep h h':=by
  refine xbv (Φ:=fun h_=>St h [] p h_ []) Tryz.func64 rfl (tm:=[_,_,_,_,_,_,_,_,_,_,_,_,_,_,_,_,_]) rfl ?_ (St.start h _ hp)
  intro c₀ cs Stop K
  refine xbj ?_
  refine xav ?_
  refine xaj (xaz rfl) (fun h_ H_=>xaq (v:=sv ([]:List UInt8)) rfl) rfl ?_
  refine xak ?_
  refine xbj ?_
  refine xav ?_
  refine xjj (xaz rfl) wpw rfl fun b1=>xcz (L':=[(b1,.cells #[.pointer none,.slice none 0 0] 108 (0,0))]) rfl ?_
  refine xak ?_
  refine xbj ?_
  refine xbj ?_
  refine xav ?_
  refine xaj (xaz rfl) (fun h_ H_=>xax (v:=.slice a n c) rfl) (tm':=_::_::_::_::_::_::_::_) rfl ?_
  refine xaj (xaz rfl) (fun h_ H_=>xfj Tryz.underlying33 rfl) rfl ?_
  refine xaj (xaz rfl) (fun h_ H_=>xax (v:=.int .i64 0) rfl) rfl ?_
  refine xak ?_
  refine xeq ?_
  refine xhk (m₀:=n-0) (fun m_ tm_ h_=>∃ (k:Nat) (X:Pcs),m_=n-k∧(∃ y2:Nat→Value,tm_=[.slice a n c,undef,sv ([]:List UInt8),.pointer (some ⟨b1,0,none⟩),undef,(y2 5),.slice a n c,.int .i64 (((n:Nat):Int)),.int .i64 (((k:Nat):Int)),(y2 9),(y2 10),(y2 11),(y2 12),(y2 13),(y2 14),(y2 15),undef])∧(k≤n)∧(Bld b1 (wholeB (ts.take k)) X)∧St h [] p h_ (([]:Pcs)++(X++[]))) (fun h_ H_=>⟨0,[(b1,.cells #[.pointer none,.slice none 0 0] 108 (0,0))],rfl,(y_of rfl),Nat.zero_le _,Bld.new _,H_⟩) ?_
  intro m_ tm_ IH3
  refine xhq fun k=>xhq fun X=>xdj fun hm_=>xdj fun ht_=>xdj fun hk=>xdj fun B=>?_
  subst hm_;obtain ⟨y2,ht_⟩:=ht_;subst ht_
  have hl:=T.len
  have hw:=yow (ts:=ts.take k) (m:=200) (fun t z=>ht t (List.mem_of_mem_take z))
  have ht1:k<n→(ts.getD k []).length≤200:=fun z=>ht _ (wfw (by omega))
  have hq:(ts.take k).length≤60:=by rw [List.length_take];omega
  have hq2:=Nat.mul_le_mul_right 201 hq
  refine xbj ?_
  refine xav ?_
  refine xaj (xaz rfl) (fun h_ H_=>xfk rfl rfl) (tm':=_::_::_::_::_::_::_::_::_::_::_) rfl ?_
  refine xak ?_
  refine xbj ?_
  by_cases cc4:((k:Nat):Int)<((n:Nat):Int)
  · refine xcx rfl (decide_eq_true cc4) ?_
    refine xdz ?_
    refine xbj ?_
    refine xeq ?_
    refine xbj ?_
    refine xav ?_
    refine xaj (xaz rfl) (fun h_ H_=>xdx (i:=k) Tryz.underlying33 tS9 (xlx a n c (T.ne (by omega))) rfl (by omega)) rfl ?_
    refine xaj (xaz rfl) (fun h_ H_=>xdk H_ tA9 rfl (v:=sv (ts.getD k [])) (T.get (by omega))) rfl ?_
    refine xaj (xaz rfl) (fun h_ H_=>xaq (v:=sv (ts.getD k [])) rfl) (tm':=_::_::_::_::_::_::_) rfl ?_
    refine xak ?_
    refine xbj ?_
    refine xav ?_
    refine xaj (xaz rfl) (fun h_ H_=>xax (v:=sv (ts.getD k [])) rfl) rfl ?_
    refine xgv (xaz rfl) (first:=[]) (cap:=[]) rfl rfl fC92 (fun h_ H_=>wpq B H_ (by first | omega | (rw [List.length_append];omega)) (ts.getD k []) (by omega)) ?_
    refine fun v_=>xez fun ev_=>xgx fun X5=>xez fun B6=>?_
    subst ev_
    refine xak ?_
    refine xav ?_
    refine xgv (xaz rfl) (first:=[]) (cap:=[]) rfl rfl fC65 (fun h_ H_=>yvw B6 H_ (by first | omega | (rw [List.length_append];omega)) 10) ?_
    refine fun v_=>xez fun ev_=>xgx fun X7=>xez fun B8=>?_
    subst ev_
    refine xfz (tm':=[_,_,_,_,_,_,_,_,_,_,_,_,_,_,_,_,_]) rfl ?_
    refine xak ?_
    refine xex ?_
    refine xav ?_
    refine xaj (xaz rfl) (fun h_ H_=>xev rfl rfl (n:=((k+1:Nat):Int)) (wr (by omega))) rfl ?_
    refine xaj (xaz rfl) (fun h_ H_=>xax (v:=.int .i64 (((k+1:Nat):Int))) rfl) rfl ?_
    refine xak ?_
    exact fun h_ H_=>IH3 _ _ (by omega) h_ ⟨k+1,X7,rfl,(y_of rfl),(by omega),(by have e_:=zdq (ts:=ts) (k:=k) (by omega);rw [e_];exact B8),H_⟩
  · refine xcv rfl (decide_eq_false cc4) ?_
    refine xgk rfl ?_
    refine xbj ?_
    refine xav ?_
    refine xgv (xaz rfl) (first:=[]) (cap:=[]) rfl rfl fC66 (fun h_ H_=>c66 B H_) ?_
    refine fun v_=>xez fun ev_=>?_
    subst ev_
    refine wmq (fun h_ k_=>(⟨fun b_ hb_ _=>k_.keep b_ hb_,k_.size,fun b_ o_ e_=>(k_.keep b_ (xmk (hp b_ o_ e_))).trans (hp b_ o_ e_),by simp,by simp⟩:St h [] p h_ [])) ?_
    refine xfz (tm':=[_,_,_,_,_,_,_,_,_,_,_,_,_,_,_,_,_]) rfl ?_
    refine xaj (xaz rfl) (fun h_ H_=>xaq (v:=sv (wholeB (ts.take k))) rfl) rfl ?_
    refine xak ?_
    refine xcj Tryz.func64 rfl (vs:=[sv (wholeB (ts.take k))]) (fun h_ H_=>⟨sv (wholeB (ts.take k)),_,rfl,rfl,rfl⟩) (v:=sv (wholeB (ts.take k))) rfl ?_
    obtain rfl:k=n:=by omega
    exact fun h_ H_=>K _ _ ⟨by rw [← hl,List.take_length],H_.kept⟩
theorem c40 (h:Heap) (ht:Tab h) (l:By) (hl:l.length≤4096):CallsX Tryz.prog .lone 40 #[sv l] h fun v h'=>v=sv (sealB l)∧Keep h h':=by
  refine xbv (Φ:=fun h_=>St h [] (fun _=>none) h_ []) Tryz.func40 rfl (tm:=[_,_,_,_,_,_,_,_,_,_,_,_,_,_,_,_]) rfl ?_ (St.start h _ (fun _ _ e=>by cases e))
  intro c₀ cs Stop K
  have hq:=zak (n:=total l % 9973) (by omega)
  refine xbj ?_
  refine xav ?_
  refine xaj (xaz rfl) (fun h_ H_=>xaq (v:=sv ([]:List UInt8)) rfl) rfl ?_
  refine xak ?_
  refine xbj ?_
  refine xav ?_
  refine xaj (xaz rfl) (fun h_ H_=>xax (v:=sv l) rfl) (tm':=_::_::_::_::_::_) rfl ?_
  refine xcw (xaz rfl) (first:=[]) (cap:=[]) rfl rfl fC69 (fun h_ H_=>c69 .lone _ l (by omega)) rfl ?_
  refine xcw (xaz rfl) (first:=[]) (cap:=[]) rfl rfl fC68 (fun h_ H_=>c68 _ (ht.keep H_.kept) (((total l % 9973:Nat):Int)) (by omega) (by omega)) rfl ?_
  refine xaj (xaz rfl) (fun h_ H_=>xaq (v:=sv (Lib.itoa (((total l % 9973:Nat):Int)))) rfl) (tm':=_::_::_::_::_) rfl ?_
  refine xak ?_
  refine xbj ?_
  refine xav ?_
  refine xaj (xaz rfl) (fun h_ H_=>xax (v:=sv l) rfl) rfl ?_
  refine xaj (xaz rfl) (fun h_ H_=>xsq (l:=l) (m:=([61]:List UInt8)) rfl rfl (by first | omega | (simp only [List.length_singleton];omega) | (simp only [List.length_append,List.length_singleton,Lib.repeatL_length];omega))) rfl ?_
  refine xaj (xaz rfl) (fun h_ H_=>xax (v:=sv (Lib.itoa (((total l % 9973:Nat):Int)))) rfl) (tm':=_::_::_::_::_::_::_::_::_::_::_) rfl ?_
  refine xaj (xaz rfl) (fun h_ H_=>xkz (l:=Lib.itoa (((total l % 9973:Nat):Int))) Tryz.underlying9 rfl) rfl ?_
  refine xaj (xaz rfl) (fun h_ H_=>xlv rfl rfl (wr (by first | omega | (simp only [List.length_singleton];omega) | (simp only [List.length_append,List.length_singleton,Lib.repeatL_length];omega)))) rfl ?_
  refine xcw (xaz rfl) (first:=[]) (cap:=[]) rfl rfl fC70 (fun h_ H_=>c70i _ ([48]:List UInt8) (4-(((Lib.itoa (((total l % 9973:Nat):Int))).length:Nat):Int)) (by omega) (by omega) (by simp)) (tm':=[_,_,_,_,_,_,_,_,_,_,_,_,_,_,_,_]) rfl ?_
  refine xaj (xaz rfl) (fun h_ H_=>xsq (l:=l++([61]:List UInt8)) (m:=Lib.repeatL ([48]:List UInt8) (4-(((Lib.itoa (((total l % 9973:Nat):Int))).length:Nat):Int)).toNat) rfl rfl (by first | omega | (simp only [List.length_singleton];omega) | (simp only [List.length_append,List.length_singleton,Lib.repeatL_length];omega))) rfl ?_
  refine xaj (xaz rfl) (fun h_ H_=>xax (v:=sv (Lib.itoa (((total l % 9973:Nat):Int)))) rfl) rfl ?_
  refine xaj (xaz rfl) (fun h_ H_=>xsq (l:=(l++([61]:List UInt8))++(Lib.repeatL ([48]:List UInt8) (4-(((Lib.itoa (((total l % 9973:Nat):Int))).length:Nat):Int)).toNat)) (m:=Lib.itoa (((total l % 9973:Nat):Int))) rfl rfl (by first | omega | (simp only [List.length_singleton];omega) | (simp only [List.length_append,List.length_singleton,Lib.repeatL_length];omega))) (tm':=[_,_,_,_,_,_,_,_,_,_,_,_,_,_,_,_]) rfl ?_
  refine xaj (xaz rfl) (fun h_ H_=>xaq (v:=sv (((l++([61]:List UInt8))++(Lib.repeatL ([48]:List UInt8) (4-(((Lib.itoa (((total l % 9973:Nat):Int))).length:Nat):Int)).toNat))++(Lib.itoa (((total l % 9973:Nat):Int))))) rfl) rfl ?_
  refine xak ?_
  refine xcj Tryz.func40 rfl (vs:=[sv (((l++([61]:List UInt8))++(Lib.repeatL ([48]:List UInt8) (4-(((Lib.itoa (((total l % 9973:Nat):Int))).length:Nat):Int)).toNat))++(Lib.itoa (((total l % 9973:Nat):Int))))]) (fun h_ H_=>⟨sv (((l++([61]:List UInt8))++(Lib.repeatL ([48]:List UInt8) (4-(((Lib.itoa (((total l % 9973:Nat):Int))).length:Nat):Int)).toNat))++(Lib.itoa (((total l % 9973:Nat):Int)))),_,rfl,rfl,rfl⟩) (v:=sv (((l++([61]:List UInt8))++(Lib.repeatL ([48]:List UInt8) (4-(((Lib.itoa (((total l % 9973:Nat):Int))).length:Nat):Int)).toNat))++(Lib.itoa (((total l % 9973:Nat):Int))))) rfl ?_
  exact fun h_ H_=>K _ _ ⟨congrArg sv (zqk l),H_.kept⟩
end Go.Proofs.YtphalmjpbnffcaaGreatDoor
namespace Go.Proofs.YtphalmjpbnffcaaGreatDoor
open Go.X Go.X.Cent Go.Conc
set_option maxRecDepth 10000
set_option synthInstance.maxSize 2000
set_option synthInstance.maxHeartbeats 400000

end Go.Proofs.YtphalmjpbnffcaaGreatDoor
namespace Go.Proofs.YtphalmjpbnffcaaGreatDoor
open Go.X Go.X.Cent Go.Conc
set_option maxRecDepth 10000

theorem c62 (h:Heap) (t:By) (hn:t.length≤2 ^ 60):CallsX Tryz.prog .lone 62 #[sv t] h fun v h'=>v= .bool (decide (isText t))∧Keep h h':=by
  refine xbv (Φ:=fun h_=>St h [] (fun _=>none) h_ []) Tryz.func62 rfl (tm:=[_,_,_,_,_,_,_,_,_,_,_,_,_,_,_,_,_,_,_,_,_,_]) rfl ?_ (St.start h _ (fun _ _ e=>by cases e))
  intro c₀ cs Stop K
  refine xbj ?_
  refine xav ?_
  refine xaj (xaz rfl) (fun h_ H_=>xaq (v:=.bool (false)) rfl) rfl ?_
  refine xak ?_
  refine xbj ?_
  refine xbj ?_
  refine xav ?_
  refine xaj (xaz rfl) (fun h_ H_=>xax (v:=sv t) rfl) rfl ?_
  refine yzq (xaz rfl) Tryz.underlying9 Tryz.underlying47 Tryz.underlying5 (l:=t) rfl fun p1 a2 cp3 le4 D5 _=>?_
  refine xfz (tm':=_::_::_::_::_::_::_::_) rfl ?_
  refine xaj (xaz rfl) (fun h_ H_=>xfj Tryz.underlying47 rfl) rfl ?_
  refine xaj (xaz rfl) (fun h_ H_=>xax (v:=.int .i64 0) rfl) rfl ?_
  refine xak ?_
  refine xeq ?_
  refine xhk (m₀:=t.length-0) (fun m_ tm_ h_=>∃ (k:Nat),m_=t.length-k∧(∃ y6:Nat→Value,tm_=[sv t,undef,(y6 2),undef,(y6 4),sv t,.slice a2 t.length cp3,.int .i64 (((t.length:Nat):Int)),.int .i64 (((k:Nat):Int)),(y6 9),(y6 10),(y6 11),(y6 12),(y6 13),(y6 14),(y6 15),(y6 16),(y6 17),(y6 18),undef,undef,undef])∧(k≤t.length)∧(∀ i,i<k→32≤(t.getD i 0).toNat∧(t.getD i 0).toNat≤125)∧St h [] p1 h_ ([])) (fun h_ H_=>⟨0,rfl,(y_of rfl),Nat.zero_le _,(fun i hi=>absurd hi (Nat.not_lt_zero i)),H_⟩) ?_
  intro m_ tm_ IH7
  refine xhq fun k=>xdj fun hm_=>xdj fun ht_=>xdj fun hk=>xdj fun hs=>?_
  subst hm_;obtain ⟨y6,ht_⟩:=ht_;subst ht_
  refine xbj ?_
  refine xav ?_
  refine xaj (xaz rfl) (fun h_ H_=>xfk rfl rfl) (tm':=_::_::_::_::_::_::_::_::_::_::_) rfl ?_
  refine xak ?_
  refine xbj ?_
  by_cases cc8:((k:Nat):Int)<((t.length:Nat):Int)
  · refine xcx rfl (decide_eq_true cc8) ?_
    refine xdz ?_
    refine xbj ?_
    refine xeq ?_
    refine xbj ?_
    refine xav ?_
    refine xaj (xaz rfl) (fun h_ H_=>xdx (i:=k) Tryz.underlying47 tS5 (xlx a2 t.length cp3 (D5.ne (by omega))) rfl (by omega)) rfl ?_
    refine xaj (xaz rfl) (fun h_ H_=>xdk H_ tA5 rfl (v:=.int .u8 ((((t.getD k 0).toNat:Nat):Int))) (D5.get (by omega))) rfl ?_
    refine xaj (xaz rfl) (fun h_ H_=>xaq (v:=.int .u8 ((((t.getD k 0).toNat:Nat):Int))) rfl) (tm':=_::_::_::_::_::_) rfl ?_
    refine xak ?_
    refine xbj ?_
    refine xav ?_
    refine xaj (xaz rfl) (fun h_ H_=>xax (v:=.int .u8 ((((t.getD k 0).toNat:Nat):Int))) rfl) rfl ?_
    refine xaj (xaz rfl) (fun h_ H_=>xfk rfl rfl) rfl ?_
    refine xaj (xaz rfl) (fun h_ H_=>xax (v:=.bool (decide ((((t.getD k 0).toNat:Nat):Int)<32))) rfl) (tm':=[_,_,_,_,_,_,_,_,_,_,_,_,_,_,_,_,_,_,_,_,_,_]) rfl ?_
    by_cases cc9:(((t.getD k 0).toNat:Nat):Int)<32
    · refine xck (xhx rfl rfl (decide_eq_true cc9)) rfl ?_
      refine xck (xhx rfl rfl (decide_eq_true cc9)) rfl ?_
      refine xaj (xaz rfl) (fun h_ H_=>xbw rfl (decide_eq_true cc9) (v:=.bool (true)) rfl) (tm':=[_,_,_,_,_,_,_,_,_,_,_,_,_,_,_,_,_,_,_,_,_,_]) rfl ?_
      refine xak ?_
      refine xcx rfl rfl ?_
      refine xbj ?_
      refine xav ?_
      refine xaj (xaz rfl) (fun h_ H_=>xaq (v:=.bool (false)) rfl) rfl ?_
      refine xak ?_
      refine xcj Tryz.func62 rfl (vs:=[.bool (false)]) (fun h_ H_=>⟨.bool (false),_,rfl,rfl,rfl⟩) (v:=.bool (false)) rfl ?_
      exact fun h_ H_=>K _ _ ⟨by first | rw [decide_eq_false (yrz (k:=k) (by omega) ‹_›)] | rw [decide_eq_false (ykz (k:=k) (by omega) ‹_›)] | rw [yrj (by omega) hs],H_.kept⟩
    · refine xaj (xhz rfl rfl (decide_eq_false cc9)) (fun h_ H_=>xax (v:=.int .u8 ((((t.getD k 0).toNat:Nat):Int))) rfl) rfl ?_
      refine xaj (xhz rfl rfl (decide_eq_false cc9)) (fun h_ H_=>xjx rfl rfl) (tm':=[_,_,_,_,_,_,_,_,_,_,_,_,_,_,_,_,_,_,_,_,_,_]) rfl ?_
      refine xaj (xaz rfl) (fun h_ H_=>xdq rfl (decide_eq_false cc9) (v:=.bool (decide (125<(((t.getD k 0).toNat:Nat):Int)))) rfl) rfl ?_
      refine xak ?_
      by_cases cc10:125<(((t.getD k 0).toNat:Nat):Int)
      · refine xcx rfl (decide_eq_true cc10) ?_
        refine xbj ?_
        refine xav ?_
        refine xaj (xaz rfl) (fun h_ H_=>xaq (v:=.bool (false)) rfl) rfl ?_
        refine xak ?_
        refine xcj Tryz.func62 rfl (vs:=[.bool (false)]) (fun h_ H_=>⟨.bool (false),_,rfl,rfl,rfl⟩) (v:=.bool (false)) rfl ?_
        exact fun h_ H_=>K _ _ ⟨by first | rw [decide_eq_false (yrz (k:=k) (by omega) ‹_›)] | rw [decide_eq_false (ykz (k:=k) (by omega) ‹_›)] | rw [yrj (by omega) hs],H_.kept⟩
      · refine xcv rfl (decide_eq_false cc10) ?_
        refine xdz ?_
        refine xex ?_
        refine xav ?_
        refine xaj (xaz rfl) (fun h_ H_=>xev rfl rfl (n:=((k+1:Nat):Int)) (wr (by omega))) (tm':=[_,_,_,_,_,_,_,_,_,_,_,_,_,_,_,_,_,_,_,_,_,_]) rfl ?_
        refine xaj (xaz rfl) (fun h_ H_=>xax (v:=.int .i64 (((k+1:Nat):Int))) rfl) rfl ?_
        refine xak ?_
        exact fun h_ H_=>IH7 _ _ (by omega) h_ ⟨k+1,rfl,(y_of rfl),(by omega),(ykx hs (by omega)),H_⟩
  · refine xcv rfl (decide_eq_false cc8) ?_
    refine xgk rfl ?_
    refine xbj ?_
    refine xav ?_
    refine xaj (xaz rfl) (fun h_ H_=>xax (v:=sv t) rfl) rfl ?_
    refine xaj (xaz rfl) (fun h_ H_=>xkz (l:=t) Tryz.underlying9 rfl) (tm':=[_,_,_,_,_,_,_,_,_,_,_,_,_,_,_,_,_,_,_,_,_,_]) rfl ?_
    refine xaj (xaz rfl) (fun h_ H_=>xyk rfl rfl) rfl ?_
    refine xaj (xaz rfl) (fun h_ H_=>xaq (v:=.bool (decide (((t.length:Nat):Int)≤40))) rfl) rfl ?_
    refine xak ?_
    refine xcj Tryz.func62 rfl (vs:=[.bool (decide (((t.length:Nat):Int)≤40))]) (fun h_ H_=>⟨.bool (decide (((t.length:Nat):Int)≤40)),_,rfl,rfl,rfl⟩) (v:=.bool (decide (((t.length:Nat):Int)≤40))) rfl ?_
    exact fun h_ H_=>K _ _ ⟨by first | rw [decide_eq_false (yrz (k:=k) (by omega) ‹_›)] | rw [decide_eq_false (ykz (k:=k) (by omega) ‹_›)] | rw [yrj (by omega) hs],H_.kept⟩
end Go.Proofs.YtphalmjpbnffcaaGreatDoor
namespace Go.Proofs.YtphalmjpbnffcaaGreatDoor
open Go.X Go.X.Cent Go.Conc
set_option maxRecDepth 10000

theorem c61 (h:Heap) (t:By) (ht:t.length≤2 ^ 60):CallsX Tryz.prog .lone 61 #[sv t] h fun v h'=>v= .bool (badT t)∧Keep h h':=by
  refine xbv (Φ:=fun h_=>St h [] (fun _=>none) h_ []) Tryz.func61 rfl (tm:=[_,_,_,_,_,_]) rfl ?_ (St.start h _ (fun _ _ e=>by cases e))
  intro c₀ cs Stop K
  refine xbj ?_
  refine xav ?_
  refine xaj (xaz rfl) (fun h_ H_=>xaq (v:=.bool (false)) rfl) rfl ?_
  refine xak ?_
  refine xbj ?_
  refine xav ?_
  refine xaj (xaz rfl) (fun h_ H_=>xax (v:=sv t) rfl) rfl ?_
  refine xcw (xaz rfl) (first:=[]) (cap:=[]) rfl rfl fC62 (fun h_ H_=>c62 _ t (by omega)) (tm':=[_,_,_,_,_,_]) rfl ?_
  refine xaj (xaz rfl) (fun h_ H_=>xfw rfl) rfl ?_
  refine xaj (xaz rfl) (fun h_ H_=>xaq (v:=.bool (!(decide (isText t)))) rfl) rfl ?_
  refine xak ?_
  refine xcj Tryz.func61 rfl (vs:=[.bool (!(decide (isText t)))]) (fun h_ H_=>⟨.bool (!(decide (isText t))),_,rfl,rfl,rfl⟩) (v:=.bool (!(decide (isText t)))) rfl ?_
  exact fun h_ H_=>K _ _ ⟨rfl,H_.kept⟩
theorem c90 (h:Heap) (p:PHeap) (hp:Per p h) (fv:Value) (a:Option Addr) (n c:Nat) (ts:List By) (T:Strs p a n ts) (hn:n≤2 ^ 60) (q:By→Bool) (hf: ∀ h,Per p h→ ∀ i,i<n→CallV Tryz.prog .lone fv [sv (ts.getD i [])] h fun v h'=>v= .bool (q (ts.getD i []))∧Keep h h'):CallsX Tryz.prog .lone 90 #[.slice a n c,fv] h fun v h'=>v= .int .i64 (idxT q ts)∧Keep h h':=by
  refine xbv (Φ:=fun h_=>St h [] p h_ []) Tryz.func90 rfl (tm:=[_,_,_,_,_,_,_,_,_,_,_,_,_,_,_,_,_,_,_]) rfl ?_ (St.start h _ hp)
  intro c₀ cs Stop K
  refine xbj ?_
  refine xav ?_
  refine xaj (xaz rfl) (fun h_ H_=>xaq (v:=.int .i64 0) rfl) (tm':=_::_::_::_::_::_) rfl ?_
  refine xak ?_
  refine xbj ?_
  refine xbj ?_
  refine xav ?_
  refine xaj (xaz rfl) (fun h_ H_=>xax (v:=.slice a n c) rfl) rfl ?_
  refine xaj (xaz rfl) (fun h_ H_=>xfj Tryz.underlying33 rfl) rfl ?_
  refine xaj (xaz rfl) (fun h_ H_=>xax (v:=.int .i64 0) rfl) (tm':=_::_::_::_::_::_::_::_::_::_) rfl ?_
  refine xak ?_
  refine xeq ?_
  refine xhk (m₀:=n-0) (fun m_ tm_ h_=>∃ (k:Nat),m_=n-k∧(∃ y1:Nat→Value,tm_=[.slice a n c,fv,undef,undef,(y1 4),(y1 5),.slice a n c,.int .i64 (((n:Nat):Int)),.int .i64 (((k:Nat):Int)),(y1 9),(y1 10),(y1 11),(y1 12),(y1 13),(y1 14),(y1 15),(y1 16),(y1 17),(y1 18)])∧(k≤n)∧(∀ i,i<k→q (ts.getD i [])=false)∧St h [] p h_ ([])) (fun h_ H_=>⟨0,rfl,(y_of rfl),Nat.zero_le _,(fun i hi=>absurd hi (Nat.not_lt_zero i)),H_⟩) ?_
  intro m_ tm_ IH2
  refine xhq fun k=>xdj fun hm_=>xdj fun ht_=>xdj fun hk=>xdj fun hs=>?_
  subst hm_;obtain ⟨y1,ht_⟩:=ht_;subst ht_
  refine xbj ?_
  refine xav ?_
  refine xaj (xaz rfl) (fun h_ H_=>xfk rfl rfl) rfl ?_
  refine xak ?_
  refine xbj ?_
  by_cases cc3:((k:Nat):Int)<((n:Nat):Int)
  · refine xcx rfl (decide_eq_true cc3) ?_
    refine xdz ?_
    refine xbj ?_
    refine xeq ?_
    refine xbj ?_
    refine xav ?_
    refine xaj (xaz rfl) (fun h_ H_=>xax (v:=.int .i64 (((k:Nat):Int))) rfl) rfl ?_
    refine xaj (xaz rfl) (fun h_ H_=>xaq (v:=.int .i64 (((k:Nat):Int))) rfl) (tm':=_::_::_::_::_::_::_) rfl ?_
    refine xak ?_
    refine xbj ?_
    refine xav ?_
    refine xaj (xaz rfl) (fun h_ H_=>xax (v:=fv) rfl) rfl ?_
    refine xaj (xaz rfl) (fun h_ H_=>xax (v:=.slice a n c) rfl) rfl ?_
    refine xaj (xaz rfl) (fun h_ H_=>xax (v:=.int .i64 (((k:Nat):Int))) rfl) (tm':=[_,_,_,_,_,_,_,_,_,_,_,_,_,_,_,_,_,_,_]) rfl ?_
    refine xaj (xaz rfl) (fun h_ H_=>xdx (i:=k) Tryz.underlying33 tS9 (xlx a n c (T.ne (by omega))) rfl (by omega)) rfl ?_
    refine xaj (xaz rfl) (fun h_ H_=>xdk H_ tA9 rfl (v:=sv (ts.getD k [])) (T.get (by omega))) rfl ?_
    refine xyx (xaz rfl) rfl (vs:=[sv (ts.getD k [])]) rfl (fun h_ H_=>hf h_ H_.per k (show k<n by omega)) (tm':=[_,_,_,_,_,_,_,_,_,_,_,_,_,_,_,_,_,_,_]) rfl ?_
    refine xak ?_
    rcases xtx ((q (ts.getD k []))) with cc4 | cc4
    · refine xcx rfl cc4 ?_
      refine xbj ?_
      refine xav ?_
      refine xaj (xaz rfl) (fun h_ H_=>xax (v:=.int .i64 (((k:Nat):Int))) rfl) rfl ?_
      refine xaj (xaz rfl) (fun h_ H_=>xaq (v:=.int .i64 (((k:Nat):Int))) rfl) rfl ?_
      refine xak ?_
      refine xcj Tryz.func90 rfl (vs:=[.int .i64 (((k:Nat):Int))]) (fun h_ H_=>⟨.int .i64 (((k:Nat):Int)),_,rfl,rfl,rfl⟩) (v:=.int .i64 (((k:Nat):Int))) rfl ?_
      have hl:=T.len
      exact fun h_ H_=>K _ _ ⟨by first | (rw [ymq (k:=k) (by omega) ‹_› hs]) | (rw [ymx (fun i hi=>hs i (by omega))]),H_.kept⟩
    · refine xcv rfl cc4 ?_
      refine xdz ?_
      refine xex ?_
      refine xav ?_
      refine xaj (xaz rfl) (fun h_ H_=>xev rfl rfl (n:=((k+1:Nat):Int)) (wr (by omega))) (tm':=[_,_,_,_,_,_,_,_,_,_,_,_,_,_,_,_,_,_,_]) rfl ?_
      refine xaj (xaz rfl) (fun h_ H_=>xax (v:=.int .i64 (((k+1:Nat):Int))) rfl) rfl ?_
      refine xak ?_
      exact fun h_ H_=>IH2 _ _ (by omega) h_ ⟨k+1,rfl,(y_of rfl),(by omega),(ykx hs ‹_›),H_⟩
  · refine xcv rfl (decide_eq_false cc3) ?_
    refine xgk rfl ?_
    refine xbj ?_
    refine xav ?_
    refine xaj (xaz rfl) (fun h_ H_=>xaq (v:=.int .i64 (-1)) rfl) rfl ?_
    refine xak ?_
    refine xcj Tryz.func90 rfl (vs:=[.int .i64 (-1)]) (fun h_ H_=>⟨.int .i64 (-1),_,rfl,rfl,rfl⟩) (v:=.int .i64 (-1)) rfl ?_
    have hl:=T.len
    exact fun h_ H_=>K _ _ ⟨by first | (rw [ymq (k:=k) (by omega) ‹_› hs]) | (rw [ymx (fun i hi=>hs i (by omega))]),H_.kept⟩
theorem c60 (h:Heap) (p:PHeap) (hp:Per p h) (fv:Value) (a:Option Addr) (n c:Nat) (ts:List By) (T:Strs p a n ts) (hn:n≤2 ^ 60) (q:By→Bool) (hf: ∀ h,Per p h→ ∀ i,i<n→CallV Tryz.prog .lone fv [sv (ts.getD i [])] h fun v h'=>v= .bool (q (ts.getD i []))∧Keep h h'):CallsX Tryz.prog .lone 60 #[.slice a n c,fv] h fun v h'=>v= .bool (decide (0≤idxT q ts))∧Keep h h':=by
  refine xbv (Φ:=fun h_=>St h [] p h_ []) Tryz.func60 rfl (tm:=[_,_,_,_,_,_,_,_,_]) rfl ?_ (St.start h _ hp)
  intro c₀ cs Stop K
  refine xbj ?_
  refine xav ?_
  refine xaj (xaz rfl) (fun h_ H_=>xaq (v:=.bool (false)) rfl) (tm':=_::_::_::_::_::_) rfl ?_
  refine xak ?_
  refine xbj ?_
  refine xav ?_
  refine xaj (xaz rfl) (fun h_ H_=>xax (v:=.slice a n c) rfl) rfl ?_
  refine xaj (xaz rfl) (fun h_ H_=>xax (v:=fv) rfl) rfl ?_
  refine xcw (xaz rfl) (first:=[]) (cap:=[]) rfl rfl fC90 (fun h_ H_=>c90 _ _ (fun b_ o_ e_=>H_.per b_ o_ e_) fv _ _ _ _ T (by omega) q hf) (tm':=[_,_,_,_,_,_,_,_,_]) rfl ?_
  refine xaj (xaz rfl) (fun h_ H_=>xuq rfl rfl) rfl ?_
  refine xaj (xaz rfl) (fun h_ H_=>xaq (v:=.bool (decide (0≤idxT q ts))) rfl) rfl ?_
  refine xak ?_
  refine xcj Tryz.func60 rfl (vs:=[.bool (decide (0≤idxT q ts))]) (fun h_ H_=>⟨.bool (decide (0≤idxT q ts)),_,rfl,rfl,rfl⟩) (v:=.bool (decide (0≤idxT q ts))) rfl ?_
  exact fun h_ H_=>K _ _ ⟨rfl,H_.kept⟩
theorem c37 (h:Heap) (p:PHeap) (hp:Per p h) (a:Option Addr) (n c:Nat) (ts:List By) (T:Strs p a n ts) (hn:n≤2 ^ 60) (ht: ∀ i,i<n→(ts.getD i []).length≤2 ^ 60):CallsX Tryz.prog .lone 37 #[.slice a n c] h fun v h'=>v= .int .i64 (chkT ts)∧Keep h h':=by
  refine xbv (Φ:=fun h_=>St h [] p h_ []) Tryz.func37 rfl (tm:=[_,_,_,_,_,_,_,_]) rfl ?_ (St.start h _ hp)
  intro c₀ cs Stop K
  refine xbj ?_
  refine xav ?_
  refine xaj (xaz rfl) (fun h_ H_=>xaq (v:=.int .i64 0) rfl) (tm':=_::_::_::_) rfl ?_
  refine xak ?_
  refine xbj ?_
  refine xbj ?_
  refine xav ?_
  refine xaj (xaz rfl) (fun h_ H_=>xax (v:=.slice a n c) rfl) rfl ?_
  refine xaj (xaz rfl) (fun h_ H_=>xfj Tryz.underlying33 rfl) rfl ?_
  refine xaj (xaz rfl) (fun h_ H_=>xjx rfl rfl) (tm':=[_,_,_,_,_,_,_,_]) rfl ?_
  refine xak ?_
  by_cases cc1:20<((n:Nat):Int)
  · refine xcx rfl (decide_eq_true cc1) ?_
    refine xbj ?_
    refine xav ?_
    refine xaj (xaz rfl) (fun h_ H_=>xaq (v:=.int .i64 2) rfl) rfl ?_
    refine xak ?_
    refine xcj Tryz.func37 rfl (vs:=[.int .i64 2]) (fun h_ H_=>⟨.int .i64 2,_,rfl,rfl,rfl⟩) (v:=.int .i64 2) rfl ?_
    have hl:=T.len
    exact fun h_ H_=>K _ _ ⟨by unfold chkT;first | (rw [if_pos (by omega)]) | (rw [if_neg (by omega),if_pos ‹_›]) | (rw [if_neg (by omega),if_neg ‹_›]),H_.kept⟩
  · refine xcv rfl (decide_eq_false cc1) ?_
    refine xdz ?_
    refine xbj ?_
    refine xbj ?_
    refine xav ?_
    refine xaj (xaz rfl) (fun h_ H_=>xax (v:=.slice a n c) rfl) rfl ?_
    refine xcw (xaz rfl) (first:=[]) (cap:=[]) rfl rfl fC60 (fun h_ H_=>c60 _ _ (fun b_ o_ e_=>H_.per b_ o_ e_) (.func (.func 61) #[] #[]) _ _ _ _ T (by omega) badT (fun h_ hp_ i_ hi_=>xxz fC61 (c61 _ _ (ht i_ hi_)))) (tm':=[_,_,_,_,_,_,_,_]) rfl ?_
    refine xak ?_
    by_cases cc2:0≤idxT badT ts
    · refine xcx rfl (decide_eq_true cc2) ?_
      refine xbj ?_
      refine xav ?_
      refine xaj (xaz rfl) (fun h_ H_=>xaq (v:=.int .i64 1) rfl) rfl ?_
      refine xak ?_
      refine xcj Tryz.func37 rfl (vs:=[.int .i64 1]) (fun h_ H_=>⟨.int .i64 1,_,rfl,rfl,rfl⟩) (v:=.int .i64 1) rfl ?_
      have hl:=T.len
      exact fun h_ H_=>K _ _ ⟨by unfold chkT;first | (rw [if_pos (by omega)]) | (rw [if_neg (by omega),if_pos ‹_›]) | (rw [if_neg (by omega),if_neg ‹_›]),H_.kept⟩
    · refine xcv rfl (decide_eq_false cc2) ?_
      refine xdz ?_
      refine xbj ?_
      refine xav ?_
      refine xaj (xaz rfl) (fun h_ H_=>xaq (v:=.int .i64 0) rfl) rfl ?_
      refine xak ?_
      refine xcj Tryz.func37 rfl (vs:=[.int .i64 0]) (fun h_ H_=>⟨.int .i64 0,_,rfl,rfl,rfl⟩) (v:=.int .i64 0) rfl ?_
      have hl:=T.len
      exact fun h_ H_=>K _ _ ⟨by unfold chkT;first | (rw [if_pos (by omega)]) | (rw [if_neg (by omega),if_pos ‹_›]) | (rw [if_neg (by omega),if_neg ‹_›]),H_.kept⟩
end Go.Proofs.YtphalmjpbnffcaaGreatDoor
namespace Go.Proofs.YtphalmjpbnffcaaGreatDoor
open Go.X Go.X.Cent Go.Conc
set_option maxRecDepth 10000
set_option synthInstance.maxSize 2000
set_option synthInstance.maxHeartbeats 400000

theorem c91 (md:Md) (h h₀:Heap) (B₀:List Nat) (p:PHeap) (yv:Value) (bS:Nat) (s:By) (E:List Pie) (X₀:Pcs) (hs:s.length≤2 ^ 30) (I:List Pie→Pcs→Prop) (hE₀:encS [[]] s=E) (hI0:I [] X₀)
    (hy: ∀ out x h A X,out++[x] <+: E→I out X→St h₀ B₀ p h (A++(X++[]))→CallV Tryz.prog md yv [.agg #[.int .i64 x.1,.int .i64 x.2]] h fun v h'=>∃ X',v= .bool true∧I (out++[x]) X'∧St h₀ B₀ p h' (A++(X'++[]))) (s₀:St h₀ B₀ p h (([(bS,.cells #[sv s] 9 (0,0))]:Pcs)++(X₀++[]))):CallsX Tryz.prog md 91 #[yv,.pointer (some ⟨bS,0,none⟩)] h fun _ h'=>∃ X',I E X'∧St h₀ B₀ p h' X':=by
  refine xbv (Φ:=fun h_=>St h₀ B₀ p h_ (([(bS,.cells #[sv s] 9 (0,0))]:Pcs)++(X₀++[]))) Tryz.func91 rfl (tm:=[_,_,_,_,_,_,_,_,_,_,_,_,_,_,_,_,_,_,_,_,_,_,_,_,_,_,_,_,_,_,_,_,_,_,_,_,_,_,_,_,_,_,_,_,_,_,_,_,_,_,_,_,_,_,_,_,_,_,_,_]) rfl ?_ s₀
  intro c₀ cs Stop K
  refine xbj ?_
  refine xav ?_
  refine ypw (xaz rfl) fun b1=>xcz (L':=([(b1,.map #[] 0),(bS,.cells #[sv s] 9 (0,0))]:Pcs)++(X₀++[])) rfl ?_
  refine yyw (z:=0) (key:=([]:List UInt8)) (.inr rfl) (xaz rfl) Tryz.underlying145 Tryz.underlying9 (i:=0) rfl MapO.nil rfl rfl rfl rfl fun ob2 o3=>xcz (L':=([(b1,ob2),(bS,.cells #[sv s] 9 (0,0))]:Pcs)++(X₀++[])) rfl ?_
  refine xaj (xaz rfl) (fun h_ H_=>xax (v:=.map (some b1)) rfl) rfl ?_
  refine xaj (xaz rfl) (fun h_ H_=>xaq (v:=.map (some b1)) rfl) (tm':=_::_::_::_::_) rfl ?_
  refine xak ?_
  refine xeq ?_
  refine xhk (m₀:=s.length) (fun m_ tm_ h_=>∃ (ph:List By) (rest:By) (out:List Pie) (X:Pcs) (o:Obj),m_=rest.length∧(∃ y4:Nat→Value,tm_=[yv,.pointer (some ⟨bS,0,none⟩),undef,.map (some b1),(y4 4),(y4 5),(y4 6),(y4 7),.map (some b1),.map (some b1),(y4 10),(y4 11),(y4 12),(y4 13),(y4 14),(y4 15),(y4 16),(y4 17),(y4 18),(y4 19),(y4 20),(y4 21),(y4 22),(y4 23),(y4 24),(y4 25),(y4 26),(y4 27),(y4 28),(y4 29),(y4 30),(y4 31),(y4 32),(y4 33),(y4 34),(y4 35),(y4 36),(y4 37),(y4 38),(y4 39),(y4 40),(y4 41),(y4 42),(y4 43),(y4 44),(y4 45),(y4 46),(y4 47),(y4 48),(y4 49),(y4 50),(y4 51),(y4 52),(y4 53),(y4 54),(y4 55),(y4 56),(y4 57),(y4 58),(y4 59)])∧(out++encS ph rest=E)∧(Phr ph)∧(MapO (mapFrom 0 ph) o)∧(I out X)∧(rest.length≤2 ^ 30)∧St h₀ B₀ p h_ (([(b1,o),(bS,.cells #[sv rest] 9 (0,0))]:Pcs)++(X++[]))) (fun h_ H_=>⟨[[]],s,[],X₀,_,rfl,(y_of rfl),hE₀,Phr.one,o3,hI0,hs,H_⟩) ?_
  intro m_ tm_ IH5
  refine xhq fun ph=>xhq fun rest=>xhq fun out=>xhq fun X=>xhq fun o=>xdj fun hm_=>xdj fun ht_=>xdj fun hE=>xdj fun hP=>xdj fun hM=>xdj fun hI=>xdj fun hr=>?_
  subst hm_;obtain ⟨y4,ht_⟩:=ht_;subst ht_
  refine xbj ?_
  refine xbj ?_
  refine xav ?_
  refine xaj (xaz rfl) (fun h_ H_=>xbx H_ tA9 rfl (i:=1) rfl (v:=sv rest) rfl) rfl ?_
  refine xaj (xaz rfl) (fun h_ H_=>xzj (l:=rest) (m:=([]:List UInt8)) rfl rfl) rfl ?_
  refine xak ?_
  by_cases cc6:rest=([]:List UInt8)
  · refine xcv rfl (xej (decide_eq_true cc6)) ?_
    refine xgk rfl ?_
    refine woq Tryz.func91 rfl (vs:=[]) (fun h_ H_=>rfl) (v:=.tuple #[]) rfl ?_
    have hr0:rest=[]:=‹rest=[]›
    obtain rfl:out=E:=by rw [hr0,yuw,List.append_nil] at hE;exact hE
    exact fun h_ H_=>K _ _ ⟨_,hI,by simpa using H_.dropA⟩
  · refine xcx rfl (xek (decide_eq_false cc6)) ?_
    refine xdz ?_
    refine xeq ?_
    refine xbj ?_
    have hne:=List.length_pos_iff.2 ‹¬ rest=[]›
    refine xav ?_
    refine xaj (xaz rfl) (fun h_ H_=>xaq (v:=.int .i64 0) rfl) (tm':=_::_::_::_::_::_) rfl ?_
    refine xak ?_
    refine xbj ?_
    refine xeq ?_
    refine xhk (m₀:=rest.length-0) (fun m_ tm_ h_=>∃ (k:Nat),m_=rest.length-k∧(∃ y7:Nat→Value,tm_=[yv,.pointer (some ⟨bS,0,none⟩),undef,.map (some b1),.int .i64 (((k:Nat):Int)),(y7 5),(y7 6),(y4 7),.map (some b1),.map (some b1),sv rest,.bool (!decide (rest=([]:List UInt8))),(y7 12),(y7 13),(y7 14),(y7 15),(y7 16),(y7 17),(y7 18),(y7 19),(y7 20),(y7 21),(y7 22),(y7 23),(y7 24),(y7 25),(y7 26),(y7 27),(y7 28),(y4 29),(y4 30),(y4 31),(y4 32),(y4 33),(y4 34),(y4 35),(y4 36),(y4 37),(y4 38),(y4 39),(y4 40),(y4 41),(y4 42),(y4 43),(y4 44),(y4 45),(y4 46),(y4 47),(y4 48),(y4 49),(y4 50),(y4 51),(y4 52),(y4 53),(y4 54),(y4 55),(y4 56),(y4 57),(y4 58),(y4 59)])∧(k≤rest.length)∧(∀ i,i≤k→rest.take i∈ph)∧St h₀ B₀ p h_ (([(b1,o),(bS,.cells #[sv rest] 9 (0,0))]:Pcs)++(X++[]))) (fun h_ H_=>⟨0,rfl,(y_of rfl),Nat.zero_le _,(fun i hi=>by obtain rfl:i=0:=(by omega);simpa using hP.mem),H_⟩) ?_
    intro m_ tm_ IH8
    refine xhq fun k=>xdj fun hm_=>xdj fun ht_=>xdj fun hk=>xdj fun hpk=>?_
    subst hm_;obtain ⟨y7,ht_⟩:=ht_;subst ht_
    refine xbj ?_
    refine xbj ?_
    refine xav ?_
    refine xaj (xaz rfl) (fun h_ H_=>xax (v:=.int .i64 (((k:Nat):Int))) rfl) rfl ?_
    refine xaj (xaz rfl) (fun h_ H_=>xbx H_ tA9 rfl (i:=1) rfl (v:=sv rest) rfl) rfl ?_
    refine xaj (xaz rfl) (fun h_ H_=>xkz (l:=rest) Tryz.underlying9 rfl) (tm':=_::_::_::_::_::_::_::_::_::_::_::_::_::_::_::_) rfl ?_
    refine xaj (xaz rfl) (fun h_ H_=>xfk rfl rfl) rfl ?_
    refine xak ?_
    by_cases cc9:((k:Nat):Int)<((rest.length:Nat):Int)
    · refine xcx rfl (decide_eq_true cc9) ?_
      refine xdz ?_
      refine xeq ?_
      refine xbj ?_
      refine xbj ?_
      refine xav ?_
      refine xaj (xaz rfl) (fun h_ H_=>xax (v:=.map (some b1)) rfl) rfl ?_
      refine xaj (xaz rfl) (fun h_ H_=>xbx H_ tA9 rfl (i:=1) rfl (v:=sv rest) rfl) (tm':=_::_::_::_::_::_::_::_::_::_::_::_::_::_::_::_::_::_::_::_) rfl ?_
      refine xaj (xaz rfl) (fun h_ H_=>xax (v:=.int .i64 (((k:Nat):Int))) rfl) rfl ?_
      refine xaj (xaz rfl) (fun h_ H_=>xev rfl rfl (n:=((k+1:Nat):Int)) (wr (by omega))) rfl ?_
      refine xaj (xaz rfl) (fun h_ H_=>xvz (l:=rest) (r:=k+1) Tryz.underlying9 rfl (.nat (z:=k+1) _ rfl) (by omega)) (tm':=_::_::_::_::_::_::_::_::_::_::_::_::_::_::_::_::_::_::_::_::_::_::_) rfl ?_
      refine xaj (xaz rfl) (fun h_ H_=>yfz H_ (i:=0) rfl hM Tryz.underlying145 Tryz.underlying9 tZ3 rfl rfl (v:=.tuple #[.int .i64 ((findM (mapFrom 0 ph) (rest.take (k+1))).getD 0),.bool ((findM (mapFrom 0 ph) (rest.take (k+1))).isSome)]) rfl) rfl ?_
      refine xaj (xaz rfl) (fun h_ H_=>xax (v:=.tuple #[.int .i64 ((findM (mapFrom 0 ph) (rest.take (k+1))).getD 0),.bool ((findM (mapFrom 0 ph) (rest.take (k+1))).isSome)]) rfl) rfl ?_
      refine xaj (xaz rfl) (fun h_ H_=>xdw rfl (v:=.int .i64 ((findM (mapFrom 0 ph) (rest.take (k+1))).getD 0)) rfl) (tm':=_::_::_::_::_::_::_::_::_::_::_::_::_::_::_::_::_::_::_::_::_::_::_::_::_) rfl ?_
      refine xaj (xaz rfl) (fun h_ H_=>xdw rfl (v:=.bool ((findM (mapFrom 0 ph) (rest.take (k+1))).isSome)) rfl) rfl ?_
      refine xaj (xaz rfl) (fun h_ H_=>xaq (v:=.int .i64 ((findM (mapFrom 0 ph) (rest.take (k+1))).getD 0)) rfl) rfl ?_
      refine xaj (xaz rfl) (fun h_ H_=>xaq (v:=.bool ((findM (mapFrom 0 ph) (rest.take (k+1))).isSome)) rfl) (tm':=_::_::_::_::_::_::_::_) rfl ?_
      refine xak ?_
      refine xbj ?_
      refine xav ?_
      refine xaj (xaz rfl) (fun h_ H_=>xax (v:=.bool ((findM (mapFrom 0 ph) (rest.take (k+1))).isSome)) rfl) rfl ?_
      refine xaj (xaz rfl) (fun h_ H_=>xfw rfl) rfl ?_
      refine xak ?_
      rcases xtx ((findM (mapFrom 0 ph) (rest.take (k+1))).isSome) with cc10 | cc10
      · refine xcv rfl (xej cc10) ?_
        refine xdz ?_
        refine xav ?_
        refine xaj (xaz rfl) (fun h_ H_=>xax (v:=.int .i64 (((k:Nat):Int))) rfl) (tm':=_::_::_::_::_::_::_::_::_::_::_::_::_::_::_::_::_::_::_::_::_::_::_::_::_::_::_::_::_) rfl ?_
        refine xaj (xaz rfl) (fun h_ H_=>xev rfl rfl (n:=((k+1:Nat):Int)) (wr (by omega))) rfl ?_
        refine xaj (xaz rfl) (fun h_ H_=>xaq (v:=.int .i64 (((k+1:Nat):Int))) rfl) rfl ?_
        refine xak ?_
        refine xex ?_
        exact fun h_ H_=>IH8 _ _ (by omega) h_ ⟨k+1,rfl,(y_of rfl),(by omega),(wbk hpk (nfS ‹_›)),H_⟩
      · refine xcx rfl (xek cc10) ?_
        refine xgk rfl ?_
        refine xbj ?_
        have hlp:lp ph rest=k:=zkx hP.mem hk hpk (by first | exact fun hl_=>absurd hl_ (by omega) | exact fun _=>nf ‹_›)
        refine xav ?_
        refine xaj (xaz rfl) (fun h_ H_=>xax (v:=.map (some b1)) rfl) (tm':=_::_::_::_::_::_::_::_::_::_::_::_::_::_::_::_::_::_::_::_::_::_::_::_::_::_::_::_::_::_::_) rfl ?_
        refine xaj (xaz rfl) (fun h_ H_=>xbx H_ tA9 rfl (i:=1) rfl (v:=sv rest) rfl) rfl ?_
        refine xaj (xaz rfl) (fun h_ H_=>xax (v:=.int .i64 (((k:Nat):Int))) rfl) rfl ?_
        refine xaj (xaz rfl) (fun h_ H_=>xvz (l:=rest) (r:=k) Tryz.underlying9 rfl (.nat (z:=k) _ rfl) (by omega)) (tm':=_::_::_::_::_::_::_::_::_::_::_::_::_::_::_::_::_::_::_::_::_::_::_::_::_::_::_::_::_::_::_::_::_::_) rfl ?_
        refine xaj (xaz rfl) (fun h_ H_=>yfz H_ (i:=0) rfl hM Tryz.underlying145 Tryz.underlying9 tZ3 rfl rfl (v:=.int .i64 ((findM (mapFrom 0 ph) (rest.take k)).getD 0)) rfl) rfl ?_
        refine xaj (xaz rfl) (fun h_ H_=>xlj yck wjz (vs:=[(0,.int .i64 ((findM (mapFrom 0 ph) (rest.take k)).getD 0)),(1,.int .i64 (-1))]) rfl (cells:=#[.int .i64 ((findM (mapFrom 0 ph) (rest.take k)).getD 0),.int .i64 (-1)]) rfl) rfl ?_
        refine xjj (xaz rfl) yck rfl fun b11=>xcz (L':=([(b11,.cells #[.int .i64 0,.int .i64 0] 112 (0,0)),(b1,o),(bS,.cells #[sv rest] 9 (0,0))]:Pcs)++(X++[])) rfl ?_
        refine xfz (tm':=_::_::_::_::_::_::_::_::_) rfl ?_
        refine xfv (xaz rfl) xxw rfl (v:=.agg #[.int .i64 ((findM (mapFrom 0 ph) (rest.take k)).getD 0),.int .i64 (-1)]) rfl (i:=0) rfl rfl rfl (Nat.le_of_ble_eq_true rfl) (cs2:=[.int .i64 ((findM (mapFrom 0 ph) (rest.take k)).getD 0),.int .i64 (-1)]) rfl (xcz (L':=([(b11,.cells #[.int .i64 ((findM (mapFrom 0 ph) (rest.take k)).getD 0),.int .i64 (-1)] 112 (0,0)),(b1,o),(bS,.cells #[sv rest] 9 (0,0))]:Pcs)++(X++[])) rfl ?_)
        refine xak ?_
        refine xbj ?_
        refine xbj ?_
        refine xav ?_
        refine xaj (xaz rfl) (fun h_ H_=>xax (v:=.int .i64 (((k:Nat):Int))) rfl) rfl ?_
        refine xaj (xaz rfl) (fun h_ H_=>xbx H_ tA9 rfl (i:=2) rfl (v:=sv rest) rfl) rfl ?_
        refine xaj (xaz rfl) (fun h_ H_=>xkz (l:=rest) Tryz.underlying9 rfl) (tm':=_::_::_::_::_::_::_::_::_::_::_::_::_::_::_::_::_::_::_::_::_::_::_::_::_::_::_::_::_::_::_::_::_::_::_::_::_::_::_) rfl ?_
        refine xaj (xaz rfl) (fun h_ H_=>xfk rfl rfl) rfl ?_
        refine xak ?_
        refine xcx rfl (decide_eq_true cc9) ?_
        refine xbj ?_
        refine xav ?_
        refine xaj (xaz rfl) (fun h_ H_=>xbx H_ tA9 rfl (i:=2) rfl (v:=sv rest) rfl) rfl ?_
        refine xaj (xaz rfl) (fun h_ H_=>xax (v:=.int .i64 (((k:Nat):Int))) rfl) (tm':=[_,_,_,_,_,_,_,_,_,_,_,_,_,_,_,_,_,_,_,_,_,_,_,_,_,_,_,_,_,_,_,_,_,_,_,_,_,_,_,_,_,_,_,_,_,_,_,_,_,_,_,_,_,_,_,_,_,_,_,_]) rfl ?_
        refine xaj (xaz rfl) (fun h_ H_=>xiq (l:=rest) (i:=k) Tryz.underlying9 rfl rfl (by omega)) rfl ?_
        refine xaj (xaz rfl) (fun h_ H_=>xoz ⟨_,Tryz.underlying5⟩ Tryz.underlying3 rfl (n:=(((rest.getD k 0).toNat:Nat):Int)) (wrB _)) rfl ?_
        refine xaj (xaz rfl) (fun h_ H_=>xaw ybz rfl (a':=⟨b11,1,none⟩) rfl) (tm':=[_,_,_,_,_,_,_,_,_,_,_,_,_,_,_,_,_,_,_,_,_,_,_,_,_,_,_,_,_,_,_,_,_,_,_,_,_,_,_,_,_,_,_,_,_,_,_,_,_,_,_,_,_,_,_,_,_,_,_,_]) rfl ?_
        refine xfv (xaz rfl) tS3 rfl (v:=.int .i64 ((((rest.getD k 0).toNat:Nat):Int))) rfl (i:=0) rfl rfl rfl (Nat.le_of_ble_eq_true rfl) (cs2:=[.int .i64 ((findM (mapFrom 0 ph) (rest.take k)).getD 0),.int .i64 ((((rest.getD k 0).toNat:Nat):Int))]) rfl (xcz (L':=([(b11,.cells #[.int .i64 ((findM (mapFrom 0 ph) (rest.take k)).getD 0),.int .i64 ((((rest.getD k 0).toNat:Nat):Int))] 112 (0,0)),(b1,o),(bS,.cells #[sv rest] 9 (0,0))]:Pcs)++(X++[])) rfl ?_)
        refine xak ?_
        refine xbj ?_
        refine xhw 7 [] mixed (by kernel_rfl) (Nat.le_of_ble_eq_true rfl) ?_
        refine xfq (xaz rfl) (fun h_ H_=>xax (v:=.map (some b1)) rfl) rfl ?_
        refine xfq (xaz rfl) (fun h_ H_=>xbx H_ tA9 rfl (i:=2) rfl (v:=sv rest) rfl) (tm':=[_,_,_,_,_,_,_,_,_,_,_,_,_,_,_,_,_,_,_,_,_,_,_,_,_,_,_,_,_,_,_,_,_,_,_,_,_,_,_,_,_,_,_,_,_,_,_,_,_,_,_,_,_,_,_,_,_,_,_,_]) rfl ?_
        refine xfq (xaz rfl) (fun h_ H_=>xax (v:=.int .i64 (((k:Nat):Int))) rfl) rfl ?_
        refine xfq (xaz rfl) (fun h_ H_=>xev rfl rfl (n:=((k+1:Nat):Int)) (wr (by omega))) (tm':=[_,_,_,_,_,_,_,_,_,_,_,_,_,_,_,_,_,_,_,_,_,_,_,_,_,_,_,_,_,_,_,_,_,_,_,_,_,_,_,_,_,_,_,_,_,_,_,_,_,_,_,_,_,_,_,_,_,_,_,_]) rfl ?_
        refine xfq (xaz rfl) (fun h_ H_=>xvz (l:=rest) (r:=k+1) Tryz.underlying9 rfl (.nat (z:=k+1) _ rfl) (by omega)) rfl ?_
        refine xfq (xaz rfl) (fun h_ H_=>xax (v:=.map (some b1)) rfl) (tm':=[_,_,_,_,_,_,_,_,_,_,_,_,_,_,_,_,_,_,_,_,_,_,_,_,_,_,_,_,_,_,_,_,_,_,_,_,_,_,_,_,_,_,_,_,_,_,_,_,_,_,_,_,_,_,_,_,_,_,_,_]) rfl ?_
        refine xfq (xaz rfl) (fun h_ H_=>whx H_ (i:=1) rfl hM Tryz.underlying145 rfl) rfl ?_
        refine xlq rfl ?_
        refine yyw (z:=(((mapFrom 0 ph).length:Nat):Int)) (key:=rest.take (k+1)) (.inl rfl) (xaz rfl) Tryz.underlying145 Tryz.underlying9 (i:=1) rfl hM rfl rfl rfl (nfN ‹_›) fun ob12 o13=>xcz (L':=([(b11,.cells #[.int .i64 ((findM (mapFrom 0 ph) (rest.take k)).getD 0),.int .i64 ((((rest.getD k 0).toNat:Nat):Int))] 112 (0,0)),(b1,ob12),(bS,.cells #[sv rest] 9 (0,0))]:Pcs)++(X++[])) rfl ?_
        refine xak ?_
        refine xav ?_
        refine xaj (xaz rfl) (fun h_ H_=>xax (v:=.int .i64 (((k:Nat):Int))) rfl) rfl ?_
        refine xaj (xaz rfl) (fun h_ H_=>xev rfl rfl (n:=((k+1:Nat):Int)) (wr (by omega))) (tm':=[_,_,_,_,_,_,_,_,_,_,_,_,_,_,_,_,_,_,_,_,_,_,_,_,_,_,_,_,_,_,_,_,_,_,_,_,_,_,_,_,_,_,_,_,_,_,_,_,_,_,_,_,_,_,_,_,_,_,_,_]) rfl ?_
        refine xaj (xaz rfl) (fun h_ H_=>xaq (v:=.int .i64 (((k+1:Nat):Int))) rfl) rfl ?_
        refine xak ?_
        refine xbj ?_
        have hx:=zzk hlp hP.mem (show k<rest.length by omega)
        refine xav ?_
        refine xaj (xaz rfl) (fun h_ H_=>xbx H_ tA9 rfl (i:=2) rfl (v:=sv rest) rfl) rfl ?_
        refine xaj (xaz rfl) (fun h_ H_=>xax (v:=.int .i64 (((k+1:Nat):Int))) rfl) (tm':=[_,_,_,_,_,_,_,_,_,_,_,_,_,_,_,_,_,_,_,_,_,_,_,_,_,_,_,_,_,_,_,_,_,_,_,_,_,_,_,_,_,_,_,_,_,_,_,_,_,_,_,_,_,_,_,_,_,_,_,_]) rfl ?_
        refine xaj (xaz rfl) (fun h_ H_=>xvk (l:=rest) (a:=k+1) Tryz.underlying9 rfl (.nat (z:=k+1) _ rfl) (by omega)) rfl ?_
        refine xfv (xaz rfl) tS9 rfl (v:=sv (rest.drop (k+1))) rfl (i:=2) rfl rfl rfl (Nat.le_of_ble_eq_true rfl) (cs2:=[sv (rest.drop (k+1))]) rfl (xcz (L':=([(b11,.cells #[.int .i64 ((findM (mapFrom 0 ph) (rest.take k)).getD 0),.int .i64 ((((rest.getD k 0).toNat:Nat):Int))] 112 (0,0)),(b1,ob12),(bS,.cells #[sv (rest.drop (k+1))] 9 (0,0))]:Pcs)++(X++[])) rfl ?_)
        refine xak ?_
        refine xbj ?_
        refine xav ?_
        refine xaj (xaz rfl) (fun h_ H_=>xax (v:=yv) rfl) rfl ?_
        refine xaj (xaz rfl) (fun h_ H_=>xbk H_ zov xxw rfl (i:=0) rfl (vs:=[.int .i64 ((findM (mapFrom 0 ph) (rest.take k)).getD 0),.int .i64 ((((rest.getD k 0).toNat:Nat):Int))]) rfl rfl) (tm':=[_,_,_,_,_,_,_,_,_,_,_,_,_,_,_,_,_,_,_,_,_,_,_,_,_,_,_,_,_,_,_,_,_,_,_,_,_,_,_,_,_,_,_,_,_,_,_,_,_,_,_,_,_,_,_,_,_,_,_,_]) rfl ?_
        refine ytz (xaz rfl) rfl (vs:=[.agg #[.int .i64 ((findM (mapFrom 0 ph) (rest.take k)).getD 0),.int .i64 ((((rest.getD k 0).toNat:Nat):Int))]]) rfl (R:=fun v_ h_=>∃ X_,v_= .bool true∧I (out++[((findM (mapFrom 0 ph) (rest.take k)).getD 0,(((rest.getD k 0).toNat:Nat):Int))]) X_∧St h₀ B₀ p h_ (([(b11,.cells #[.int .i64 ((findM (mapFrom 0 ph) (rest.take k)).getD 0),.int .i64 ((((rest.getD k 0).toNat:Nat):Int))] 112 (0,0)),(b1,ob12),(bS,.cells #[sv (rest.drop (k+1))] 9 (0,0))]:Pcs)++(X_++[]))) (fun h_ H_=>hy out ((findM (mapFrom 0 ph) (rest.take k)).getD 0,(((rest.getD k 0).toNat:Nat):Int)) h_ _ _ (hE ▸ hx ▸ zvx _ _ _) hI H_) fun v_=>?_
        refine xgx fun X14=>xez fun ev_=>xez fun hI15=>?_
        subst ev_
        refine xaj (xaz rfl) (fun h_ H_=>xfw rfl) rfl ?_
        refine xak ?_
        refine xcv rfl (xej rfl) ?_
        refine xdz ?_
        refine xex ?_
        exact fun h_ H_=>IH5 _ _ (by simp only [List.length_drop];omega) h_ ⟨(ph++[rest.take (k+1)]),(rest.drop (k+1)),(out++[((findM (mapFrom 0 ph) (rest.take k)).getD 0,(((rest.getD k 0).toNat:Nat):Int))]),X14,_,rfl,(y_of rfl),(by rw [List.append_assoc,List.singleton_append,← hx];exact hE),(by have h_:=hP.snoc (s:=rest) (by omega);rwa [hlp] at h_),(zwj o13),hI15,(by simp only [List.length_drop];omega),H_.drop⟩
    · refine xcv rfl (decide_eq_false cc9) ?_
      refine xgk rfl ?_
      refine xbj ?_
      have hlp:lp ph rest=k:=zkx hP.mem hk hpk (by first | exact fun hl_=>absurd hl_ (by omega) | exact fun _=>nf ‹_›)
      refine xav ?_
      refine xaj (xaz rfl) (fun h_ H_=>xax (v:=.map (some b1)) rfl) (tm':=_::_::_::_::_::_::_::_::_::_::_::_::_::_::_::_::_::_::_::_::_::_::_::_::_::_::_::_::_::_::_) rfl ?_
      refine xaj (xaz rfl) (fun h_ H_=>xbx H_ tA9 rfl (i:=1) rfl (v:=sv rest) rfl) rfl ?_
      refine xaj (xaz rfl) (fun h_ H_=>xax (v:=.int .i64 (((k:Nat):Int))) rfl) rfl ?_
      refine xaj (xaz rfl) (fun h_ H_=>xvz (l:=rest) (r:=k) Tryz.underlying9 rfl (.nat (z:=k) _ rfl) (by omega)) (tm':=_::_::_::_::_::_::_::_::_::_::_::_::_::_::_::_::_::_::_::_::_::_::_::_::_::_::_::_::_::_::_::_::_::_) rfl ?_
      refine xaj (xaz rfl) (fun h_ H_=>yfz H_ (i:=0) rfl hM Tryz.underlying145 Tryz.underlying9 tZ3 rfl rfl (v:=.int .i64 ((findM (mapFrom 0 ph) (rest.take k)).getD 0)) rfl) rfl ?_
      refine xaj (xaz rfl) (fun h_ H_=>xlj yck wjz (vs:=[(0,.int .i64 ((findM (mapFrom 0 ph) (rest.take k)).getD 0)),(1,.int .i64 (-1))]) rfl (cells:=#[.int .i64 ((findM (mapFrom 0 ph) (rest.take k)).getD 0),.int .i64 (-1)]) rfl) rfl ?_
      refine xjj (xaz rfl) yck rfl fun b16=>xcz (L':=([(b16,.cells #[.int .i64 0,.int .i64 0] 112 (0,0)),(b1,o),(bS,.cells #[sv rest] 9 (0,0))]:Pcs)++(X++[])) rfl ?_
      refine xfz (tm':=_::_::_::_::_::_::_::_::_) rfl ?_
      refine xfv (xaz rfl) xxw rfl (v:=.agg #[.int .i64 ((findM (mapFrom 0 ph) (rest.take k)).getD 0),.int .i64 (-1)]) rfl (i:=0) rfl rfl rfl (Nat.le_of_ble_eq_true rfl) (cs2:=[.int .i64 ((findM (mapFrom 0 ph) (rest.take k)).getD 0),.int .i64 (-1)]) rfl (xcz (L':=([(b16,.cells #[.int .i64 ((findM (mapFrom 0 ph) (rest.take k)).getD 0),.int .i64 (-1)] 112 (0,0)),(b1,o),(bS,.cells #[sv rest] 9 (0,0))]:Pcs)++(X++[])) rfl ?_)
      refine xak ?_
      refine xbj ?_
      refine xbj ?_
      refine xav ?_
      refine xaj (xaz rfl) (fun h_ H_=>xax (v:=.int .i64 (((k:Nat):Int))) rfl) rfl ?_
      refine xaj (xaz rfl) (fun h_ H_=>xbx H_ tA9 rfl (i:=2) rfl (v:=sv rest) rfl) rfl ?_
      refine xaj (xaz rfl) (fun h_ H_=>xkz (l:=rest) Tryz.underlying9 rfl) (tm':=_::_::_::_::_::_::_::_::_::_::_::_::_::_::_::_::_::_::_::_::_::_::_::_::_::_::_::_::_::_::_::_::_::_::_::_::_::_::_) rfl ?_
      refine xaj (xaz rfl) (fun h_ H_=>xfk rfl rfl) rfl ?_
      refine xak ?_
      refine xcv rfl (decide_eq_false cc9) ?_
      refine xdz ?_
      refine xbj ?_
      have hx:=waq hlp hP.mem (List.length_pos_iff.1 hne) (show ¬ k<rest.length by omega)
      refine xav ?_
      refine xaj (xaz rfl) (fun h_ H_=>xbx H_ tA9 rfl (i:=2) rfl (v:=sv rest) rfl) rfl ?_
      refine xaj (xaz rfl) (fun h_ H_=>xax (v:=.int .i64 (((k:Nat):Int))) rfl) (tm':=[_,_,_,_,_,_,_,_,_,_,_,_,_,_,_,_,_,_,_,_,_,_,_,_,_,_,_,_,_,_,_,_,_,_,_,_,_,_,_,_,_,_,_,_,_,_,_,_,_,_,_,_,_,_,_,_,_,_,_,_]) rfl ?_
      refine xaj (xaz rfl) (fun h_ H_=>xvk (l:=rest) (a:=k) Tryz.underlying9 rfl (.nat (z:=k) _ rfl) (by omega)) rfl ?_
      refine xfv (xaz rfl) tS9 rfl (v:=sv (rest.drop k)) rfl (i:=2) rfl rfl rfl (Nat.le_of_ble_eq_true rfl) (cs2:=[sv (rest.drop k)]) rfl (xcz (L':=([(b16,.cells #[.int .i64 ((findM (mapFrom 0 ph) (rest.take k)).getD 0),.int .i64 (-1)] 112 (0,0)),(b1,o),(bS,.cells #[sv (rest.drop k)] 9 (0,0))]:Pcs)++(X++[])) rfl ?_)
      refine xak ?_
      refine xbj ?_
      refine xav ?_
      refine xaj (xaz rfl) (fun h_ H_=>xax (v:=yv) rfl) rfl ?_
      refine xaj (xaz rfl) (fun h_ H_=>xbk H_ zov xxw rfl (i:=0) rfl (vs:=[.int .i64 ((findM (mapFrom 0 ph) (rest.take k)).getD 0),.int .i64 (-1)]) rfl rfl) (tm':=[_,_,_,_,_,_,_,_,_,_,_,_,_,_,_,_,_,_,_,_,_,_,_,_,_,_,_,_,_,_,_,_,_,_,_,_,_,_,_,_,_,_,_,_,_,_,_,_,_,_,_,_,_,_,_,_,_,_,_,_]) rfl ?_
      refine ytz (xaz rfl) rfl (vs:=[.agg #[.int .i64 ((findM (mapFrom 0 ph) (rest.take k)).getD 0),.int .i64 (-1)]]) rfl (R:=fun v_ h_=>∃ X_,v_= .bool true∧I (out++[((findM (mapFrom 0 ph) (rest.take k)).getD 0,(-1))]) X_∧St h₀ B₀ p h_ (([(b16,.cells #[.int .i64 ((findM (mapFrom 0 ph) (rest.take k)).getD 0),.int .i64 (-1)] 112 (0,0)),(b1,o),(bS,.cells #[sv (rest.drop k)] 9 (0,0))]:Pcs)++(X_++[]))) (fun h_ H_=>hy out ((findM (mapFrom 0 ph) (rest.take k)).getD 0,(-1)) h_ _ _ (hE ▸ hx ▸ zvx _ _ _) hI H_) fun v_=>?_
      refine xgx fun X17=>xez fun ev_=>xez fun hI18=>?_
      subst ev_
      refine xaj (xaz rfl) (fun h_ H_=>xfw rfl) rfl ?_
      refine xak ?_
      refine xcv rfl (xej rfl) ?_
      refine xdz ?_
      refine xex ?_
      exact fun h_ H_=>IH5 _ _ (by simp only [List.length_drop];omega) h_ ⟨ph,(rest.drop k),(out++[((findM (mapFrom 0 ph) (rest.take k)).getD 0,(-1))]),X17,_,rfl,(y_of rfl),(by rw [List.append_assoc,List.singleton_append,← hx];exact hE),hP,hM,hI18,(by simp only [List.length_drop];omega),H_.drop⟩
end Go.Proofs.YtphalmjpbnffcaaGreatDoor
namespace Go.Proofs.YtphalmjpbnffcaaGreatDoor
open Go.X Go.X.Cent Go.Conc
set_option maxRecDepth 10000
set_option synthInstance.maxSize 2000
set_option synthInstance.maxHeartbeats 400000

theorem c63 (md:Md) (h:Heap) (s:By):CallsX Tryz.prog md 63 #[sv s] h fun v h'=>∃ b:Nat,v= .func (.func 91) #[] #[.pointer (some ⟨b,0,none⟩)]∧New h h' [(b,.cells #[sv s] 9 (0,0))]:=by
  refine xbv (Φ:=fun h_=>St h [] (fun _=>none) h_ []) Tryz.func63 rfl (tm:=[_,_,_,_]) rfl ?_ (St.start h _ (fun _ _ e=>by cases e))
  intro c₀ cs Stop K
  refine xbj ?_
  refine xav ?_
  refine xjq (xaz rfl) (v:=sv s) rfl fun b1=>xcz (L':=[(b1,.cells #[sv s] 9 (0,0))]) rfl ?_
  refine xfz (tm':=_::_::_) rfl ?_
  refine xaj (xaz rfl) (fun h_ H_=>xaq (v:=.nilFunc) rfl) rfl ?_
  refine xak ?_
  refine xbj ?_
  refine xav ?_
  refine xaj (xaz rfl) (fun h_ H_=>xrx (a:=[]) (b:=[.pointer (some ⟨b1,0,none⟩)]) rfl rfl) rfl ?_
  refine xaj (xaz rfl) (fun h_ H_=>xaq (v:=.func (.func 91) #[] #[.pointer (some ⟨b1,0,none⟩)]) rfl) (tm':=[_,_,_,_]) rfl ?_
  refine xak ?_
  refine xcj Tryz.func63 rfl (vs:=[.func (.func 91) #[] #[.pointer (some ⟨b1,0,none⟩)]]) (fun h_ H_=>⟨.func (.func 91) #[] #[.pointer (some ⟨b1,0,none⟩)],_,rfl,rfl,rfl⟩) (v:=.func (.func 91) #[] #[.pointer (some ⟨b1,0,none⟩)]) rfl ?_
  exact fun h_ H_=>K _ _ ⟨_,rfl,H_.new⟩
end Go.Proofs.YtphalmjpbnffcaaGreatDoor
namespace Go.Proofs.YtphalmjpbnffcaaGreatDoor
open Go.X Go.X.Cent Go.Conc
set_option maxRecDepth 10000
set_option synthInstance.maxSize 2000
set_option synthInstance.maxHeartbeats 400000

theorem c38 (h:Heap) (p:PHeap) (hp:Per p h) (htab:Tab h) (a:Option Addr) (n c:Nat) (ts:List By) (T:Strs p a n ts) (hn:n≤20) (ht: ∀ t∈ts,t.length≤40):CallsX Tryz.prog .lone 38 #[.slice a n c] h fun v h'=>v=sv (fileB ts)∧Keep h h':=by
  refine xbv (Φ:=fun h_=>St h [] p h_ []) Tryz.func38 rfl (tm:=[_,_,_,_,_,_,_,_,_,_,_,_,_,_,_,_,_,_,_,_,_,_,_,_,_,_,_,_,_,_,_,_,_,_]) rfl ?_ (St.start h _ hp)
  intro c₀ cs Stop K
  have hl:=T.len
  have hws:=yjw (ts:=ts) (by omega) ht
  have hw200: ∀ t∈ts,t.length≤200:=fun t z=>by have:=ht t z;omega
  refine xbj ?_
  refine xav ?_
  refine xaj (xaz rfl) (fun h_ H_=>xaq (v:=sv ([]:List UInt8)) rfl) rfl ?_
  refine xak ?_
  refine xbj ?_
  refine xav ?_
  refine xjj (xaz rfl) wpw rfl fun b1=>xcz (L':=[(b1,.cells #[.pointer none,.slice none 0 0] 108 (0,0))]) rfl ?_
  refine xfz (tm':=_::_::_::_::_) rfl ?_
  refine xak ?_
  refine xbj ?_
  refine xbj ?_
  refine xav ?_
  refine xaj (xaz rfl) (fun h_ H_=>xax (v:=.slice a n c) rfl) rfl ?_
  refine xcw (xaz rfl) (first:=[]) (cap:=[]) rfl rfl fC64 (fun h_ H_=>c64 _ _ (fun b_ o_ e_=>H_.per b_ o_ e_) a n _ _ T (by omega) hw200) rfl ?_
  refine xgv (xaz rfl) (first:=[]) (cap:=[]) rfl rfl fC63 (R:=fun v_ h_=>∃ bs2:Nat,v_= .func (.func 91) #[] #[.pointer (some ⟨bs2,0,none⟩)]∧St h [] p h_ ([(bs2,.cells #[sv (wholeB ts)] 9 (0,0)),(b1,.cells #[.pointer none,.slice none 0 0] 108 (0,0))])) (fun h_ H_=>(c63 .lone _ (wholeB ts)).mono fun v_ h2_ ⟨bs2,e_,N_⟩=>⟨bs2,e_,H_.callN N_⟩) fun v_=>?_
  refine xgx fun bs2=>xez fun ev_=>?_
  have ev_:=ev_.symm;subst ev_
  refine xfz (tm':=_::_::_::_::_::_::_::_::_) rfl ?_
  refine xak ?_
  refine xeq ?_
  refine wgz (R:=fun r_ l_ lp_ _ h_=>∃ X_,(∃ X:Pcs,X_=([(l_,.loop lp_),(r_,.deferred (some []))]:Pcs)++(X++[])∧(Bld b1 (filP (encS [[]] (wholeB ts))) X))∧St h [] p h_ X_) ?_ ?_
  · intro r_ l_ lp_ h_ hlp_ s_
    show CallV _ .lone (.func (.func 91) ([]:List Value).toArray ([.pointer (some ⟨bs2,0,none⟩)]:List Value).toArray) _ h_ _
    refine xxz fC91 ?_
    refine c91 _ _ _ _ _ (.func (.yield l_) #[] #[]) bs2 (wholeB ts) (encS [[]] (wholeB ts)) _ (by omega) (fun rd_ X_=>∃ X:Pcs,X_=([(l_,.loop lp_),(r_,.deferred (some []))]:Pcs)++(X++[])∧(Bld b1 (filP rd_) X)) rfl ⟨_,rfl,(Bld.new _)⟩ ?_ (St.lend s_ (i:=2) rfl rfl)
    intro rd_ x_ h_ Z_ X_ hi_ hI_ s_
    obtain ⟨X,rfl,B⟩:=hI_
    refine zhq (Φ:=fun h_=>St h [] p h_ (([(l_,.loop lp_),(r_,.deferred (some []))]:Pcs)++(X++(Z_++[])))) (s_.rot.at (i:=0) rfl) hlp_ rfl (tm':=[.slice a n c,undef,sv ([]:List UInt8),.pointer (some ⟨b1,0,none⟩),undef,.slice a n c,sv (wholeB ts),.func (.func 91) #[] #[.pointer (some ⟨bs2,0,none⟩)],.agg #[.int .i64 (x_.1),.int .i64 (x_.2)],undef,undef,undef,undef,undef,undef,undef,undef,undef,undef,undef,undef,undef,undef,undef,undef,undef,undef,undef,undef,undef,undef,undef,undef,undef]) rfl ?_ (by simpa using s_.rot)
    intro c₁ cs₁ Stop₁ K₁
    have hi2:=wmv hi_
    have hi3:=yvq (ph:=[[]]) (s:=wholeB ts)
    have hi4:=zmq (wmk hi_)
    have hi5:=yik rd_
    refine xav ?_
    refine xjj (xaz rfl) yck rfl fun b3=>xcz (L':=([(b3,.cells #[.int .i64 0,.int .i64 0] 112 (0,0)),(l_,.loop lp_),(r_,.deferred (some []))]:Pcs)++(X++(Z_++[]))) rfl ?_
    refine xfv (xaz rfl) xxw rfl (v:=.agg #[.int .i64 (x_.1),.int .i64 (x_.2)]) rfl (i:=0) rfl rfl rfl (Nat.le_of_ble_eq_true rfl) (cs2:=[.int .i64 (x_.1),.int .i64 (x_.2)]) rfl (xcz (L':=([(b3,.cells #[.int .i64 (x_.1),.int .i64 (x_.2)] 112 (0,0)),(l_,.loop lp_),(r_,.deferred (some []))]:Pcs)++(X++(Z_++[]))) rfl ?_)
    refine xak ?_
    refine wgk (i:=1) rfl (by rw [hlp_];rfl) ?_
    refine xrq (L':=([(b3,.cells #[.int .i64 (x_.1),.int .i64 (x_.2)] 112 (0,0)),(l_,.loop { lp_ with state:=.busy }),(r_,.deferred (some []))]:Pcs)++(X++(Z_++[]))) rfl ?_
    refine xeq ?_
    refine xbj ?_
    refine xav ?_
    refine xaj (xaz rfl) (fun h_ H_=>xaw yrw rfl (a':=⟨b3,0,none⟩) rfl) rfl ?_
    refine xaj (xaz rfl) (fun h_ H_=>xbx H_ tA3 rfl (i:=0) rfl (v:=.int .i64 (x_.1)) rfl) (tm':=_::_::_::_::_::_::_::_::_::_::_::_) rfl ?_
    refine xaj (xaz rfl) (fun h_ H_=>woz rfl rfl (by decide) (n:=x_.1 / 26) ((congrArg _ (Int.tdiv_eq_ediv_of_nonneg (by omega))).trans (wr (by omega)))) rfl ?_
    refine xaj (xaz rfl) (fun h_ H_=>xoz ⟨_,Tryz.underlying3⟩ Tryz.underlying5 rfl (n:=x_.1 / 26) (wr8 (by omega))) rfl ?_
    refine xaj (xaz rfl) (fun h_ H_=>xev rfl rfl (wr8 (by omega))) (tm':=_::_::_::_::_::_::_::_::_::_::_::_::_::_::_) rfl ?_
    refine xgv (xaz rfl) (first:=[]) (cap:=[]) rfl rfl fC65 (fun h_ H_=>ynw B H_ (by first | omega | (simp only [List.length_append,List.length_singleton];omega)) (65+(x_.1 / 26)) (by omega) (by omega)) ?_
    refine fun v_=>xez fun ev_=>xgx fun X4=>xez fun B5=>?_
    subst ev_
    refine xak ?_
    refine xbj ?_
    refine xav ?_
    refine xaj (xaz rfl) (fun h_ H_=>xaw yrw rfl (a':=⟨b3,0,none⟩) rfl) rfl ?_
    refine xaj (xaz rfl) (fun h_ H_=>xbx H_ tA3 rfl (i:=0) rfl (v:=.int .i64 (x_.1)) rfl) (tm':=_::_::_::_::_::_::_::_::_::_::_::_::_::_::_::_::_::_) rfl ?_
    refine xaj (xaz rfl) (fun h_ H_=>zzx rfl rfl (by decide) (n:=x_.1 % 26) (Int.tmod_eq_emod_of_nonneg (by omega))) rfl ?_
    refine xaj (xaz rfl) (fun h_ H_=>xoz ⟨_,Tryz.underlying3⟩ Tryz.underlying5 rfl (n:=x_.1 % 26) (wr8 (by omega))) rfl ?_
    refine xaj (xaz rfl) (fun h_ H_=>xev rfl rfl (wr8 (by omega))) (tm':=_::_::_::_::_::_::_::_::_::_::_::_::_::_::_::_::_::_::_::_::_) rfl ?_
    refine xgv (xaz rfl) (first:=[]) (cap:=[]) rfl rfl fC65 (fun h_ H_=>ynw B5 H_ (by first | omega | (simp only [List.length_append,List.length_singleton];omega)) (65+(x_.1 % 26)) (by omega) (by omega)) ?_
    refine fun v_=>xez fun ev_=>xgx fun X6=>xez fun B7=>?_
    subst ev_
    refine xak ?_
    refine xbj ?_
    refine xav ?_
    refine xaj (xaz rfl) (fun h_ H_=>xaw ybz rfl (a':=⟨b3,1,none⟩) rfl) rfl ?_
    refine xaj (xaz rfl) (fun h_ H_=>xbx H_ tA3 rfl (i:=0) rfl (v:=.int .i64 (x_.2)) rfl) (tm':=[_,_,_,_,_,_,_,_,_,_,_,_,_,_,_,_,_,_,_,_,_,_,_,_,_,_,_,_,_,_,_,_,_,_]) rfl ?_
    refine xak ?_
    refine xeq ?_
    refine xbj ?_
    refine xav ?_
    refine xaj (xaz rfl) (fun h_ H_=>xmj rfl rfl) rfl ?_
    refine xaj (xaz rfl) (fun h_ H_=>xaq (v:=.bool (decide (x_.2=(-1)))) rfl) rfl ?_
    refine xak ?_
    by_cases cc8:x_.2=(-1)
    · refine xcx rfl (decide_eq_true cc8) ?_
      refine xdz ?_
      refine xex ?_
      refine xex ?_
      refine zgx (i:=1) rfl (lp':=lp_) (by rw [hlp_];rfl) ?_
      refine xrq (L':=([(b3,.cells #[.int .i64 (x_.1),.int .i64 (x_.2)] 112 (0,0)),(l_,.loop lp_),(r_,.deferred (some []))]:Pcs)++(X6++(Z_++[]))) rfl ?_
      exact fun h_ H_=>K₁ _ _ ⟨([(l_,.loop lp_),(r_,.deferred (some []))]:Pcs)++(X6++[]),rfl,⟨X6,rfl,(B7.as (by first | exact yux ‹_› | exact yuz ‹_› | exact yuj ‹_› ‹_›))⟩,St.rot' (by simpa using (H_.drop))⟩
    · refine xcv rfl (decide_eq_false cc8) ?_
      refine xbj ?_
      refine xav ?_
      refine xaj (xaz rfl) (fun h_ H_=>xmj rfl rfl) (tm':=[_,_,_,_,_,_,_,_,_,_,_,_,_,_,_,_,_,_,_,_,_,_,_,_,_,_,_,_,_,_,_,_,_,_]) rfl ?_
      refine xaj (xaz rfl) (fun h_ H_=>xaq (v:=.bool (decide (x_.2=10))) rfl) rfl ?_
      refine xak ?_
      by_cases cc9:x_.2=10
      · refine xcx rfl (decide_eq_true cc9) ?_
        refine xav ?_
        refine xgv (xaz rfl) (first:=[]) (cap:=[]) rfl rfl fC65 (fun h_ H_=>yvw B7 H_ (by first | omega | (simp only [List.length_append,List.length_singleton];omega)) 126) ?_
        refine fun v_=>xez fun ev_=>xgx fun X10=>xez fun B11=>?_
        subst ev_
        refine xak ?_
        refine xex ?_
        refine xex ?_
        refine zgx (i:=1) rfl (lp':=lp_) (by rw [hlp_];rfl) ?_
        refine xrq (L':=([(b3,.cells #[.int .i64 (x_.1),.int .i64 (x_.2)] 112 (0,0)),(l_,.loop lp_),(r_,.deferred (some []))]:Pcs)++(X10++(Z_++[]))) rfl ?_
        exact fun h_ H_=>K₁ _ _ ⟨([(l_,.loop lp_),(r_,.deferred (some []))]:Pcs)++(X10++[]),rfl,⟨X10,rfl,(B11.as (by first | exact yux ‹_› | exact yuz ‹_› | exact yuj ‹_› ‹_›))⟩,St.rot' (by simpa using (H_.drop))⟩
      · refine xcv rfl (decide_eq_false cc9) ?_
        refine xav ?_
        refine xaj (xaz rfl) (fun h_ H_=>xaw ybz rfl (a':=⟨b3,1,none⟩) rfl) (tm':=[_,_,_,_,_,_,_,_,_,_,_,_,_,_,_,_,_,_,_,_,_,_,_,_,_,_,_,_,_,_,_,_,_,_]) rfl ?_
        refine xaj (xaz rfl) (fun h_ H_=>xbx H_ tA3 rfl (i:=0) rfl (v:=.int .i64 (x_.2)) rfl) rfl ?_
        refine xaj (xaz rfl) (fun h_ H_=>xoz ⟨_,Tryz.underlying3⟩ Tryz.underlying5 rfl (n:=x_.2) (wr8 (by omega))) rfl ?_
        refine xgv (xaz rfl) (first:=[]) (cap:=[]) rfl rfl fC65 (fun h_ H_=>ynw B7 H_ (by first | omega | (simp only [List.length_append,List.length_singleton];omega)) (x_.2) (by omega) (by omega)) ?_
        refine fun v_=>xez fun ev_=>xgx fun X12=>xez fun B13=>?_
        subst ev_
        refine xfz (tm':=[_,_,_,_,_,_,_,_,_,_,_,_,_,_,_,_,_,_,_,_,_,_,_,_,_,_,_,_,_,_,_,_,_,_]) rfl ?_
        refine xak ?_
        refine xex ?_
        refine xex ?_
        refine zgx (i:=1) rfl (lp':=lp_) (by rw [hlp_];rfl) ?_
        refine xrq (L':=([(b3,.cells #[.int .i64 (x_.1),.int .i64 (x_.2)] 112 (0,0)),(l_,.loop lp_),(r_,.deferred (some []))]:Pcs)++(X12++(Z_++[]))) rfl ?_
        exact fun h_ H_=>K₁ _ _ ⟨([(l_,.loop lp_),(r_,.deferred (some []))]:Pcs)++(X12++[]),rfl,⟨X12,rfl,(B13.as (by first | exact yux ‹_› | exact yuz ‹_› | exact yuj ‹_› ‹_›))⟩,St.rot' (by simpa using (H_.drop))⟩
  · intro r_ l_ lp_ v_ hlp_
    refine xhq fun X_=>xdj fun hIJ_=>?_
    obtain ⟨X,rfl,B⟩:=hIJ_
    · refine zqz (i:=0) rfl (by rw [hlp_];simp [loopOf]) (by rw [hlp_];rfl) ?_
      refine xrq (L':=([(l_,.loop { lp_ with state:=.exhausted }),(r_,.deferred (some []))]:Pcs)++(X++[])) rfl ?_
      have hi3:=yvq (ph:=[[]]) (s:=wholeB ts)
      have hi5:=yik (encS [[]] (wholeB ts))
      refine xex ?_
      refine xbj ?_
      refine xav ?_
      refine xgv (xaz rfl) (first:=[]) (cap:=[]) rfl rfl fC66 (fun h_ H_=>c66k B hp (fun x hx c z e=>by simp at hx;rcases hx with rfl | rfl <;> cases e) (H_.perm (List.perm_append_comm_assoc _ _ _))) ?_
      refine fun v_=>xez fun ev_=>?_
      subst ev_
      refine xcz (L':=[(l_,.loop { lp_ with state:=.exhausted }),(r_,.deferred (some []))]) rfl ?_
      refine xcw (xaz rfl) (first:=[]) (cap:=[]) rfl rfl fC40 (fun h_ H_=>c40 _ (htab.keep H_.kept) (filP (encS [[]] (wholeB ts))) (by omega)) rfl ?_
      refine xaj (xaz rfl) (fun h_ H_=>xaq (v:=sv (sealB (filP (encS [[]] (wholeB ts))))) rfl) (tm':=_::_::_::_) rfl ?_
      refine xak ?_
      refine wnw (i:=1) Tryz.func38 rfl rfl (vs:=[sv (sealB (filP (encS [[]] (wholeB ts))))]) (fun h_ H_=>⟨sv (sealB (filP (encS [[]] (wholeB ts)))),_,rfl,rfl,rfl⟩) (v:=sv (sealB (filP (encS [[]] (wholeB ts))))) rfl ?_
      refine xrq (L':=[(l_,.loop { lp_ with state:=.exhausted }),(r_,.deferred none)]) rfl ?_
      exact fun h_ H_=>K _ _ ⟨rfl,H_.kept⟩
end Go.Proofs.YtphalmjpbnffcaaGreatDoor
namespace Go.Proofs.YtphalmjpbnffcaaGreatDoor
open Go.X Go.X.Cent Go.Conc
set_option maxRecDepth 10000
set_option synthInstance.maxSize 2000
set_option synthInstance.maxHeartbeats 400000

theorem c41 (md:Md) (h:Heap) (p:PHeap) (hp:Per p h) (a:Option Addr) (n c:Nat) (xs:List Pie) (D:Pies p a n xs) (hn:n≤1000) (hx: ∀ x∈xs,0≤x.1∧ -1≤x.2∧x.2≤255):CallsX Tryz.prog md 41 #[.slice a n c] h fun v h'=>∃ w X,v= .tuple #[sv ((rdTo [] xs).getD []).flatten,w,.bool (rdTo [] xs).isSome]∧OwnS 9 1 w (scs ((rdTo [] xs).getD [])) X∧New h h' X:=by
  refine xbv (Φ:=fun h_=>St h [] p h_ []) Tryz.func41 rfl (tm:=[_,_,_,_,_,_,_,_,_,_,_,_,_,_,_,_,_,_,_,_,_,_,_,_,_,_,_,_,_,_,_,_,_,_,_,_,_,_,_,_,_,_,_,_,_,_,_,_,_,_,_,_]) rfl ?_ (St.start h _ hp)
  intro c₀ cs Stop K
  have hl:=D.len
  refine xbj ?_
  refine xav ?_
  refine xaj (xaz rfl) (fun h_ H_=>xaq (v:=sv ([]:List UInt8)) rfl) rfl ?_
  refine xaj (xaz rfl) (fun h_ H_=>xaq (v:=.slice none 0 0) rfl) rfl ?_
  refine xaj (xaz rfl) (fun h_ H_=>xaq (v:=.bool (false)) rfl) (tm':=_::_::_::_::_::_) rfl ?_
  refine xak ?_
  refine xbj ?_
  refine xav ?_
  refine xcz (L':=([]:Pcs)++[]) rfl ?_
  refine xhv ([]:Pcs) (xaz rfl) Tryz.underlying33 tS9 tZ9 (Nat.le_of_ble_eq_true rfl) (vs:=[(0,sv ([]:List UInt8))]) rfl rfl (es:=[[sv ([]:List UInt8)]]) rfl rfl rfl fun v1 X2 o3=>?_
  refine xaj (xaz rfl) (fun h_ H_=>xaq (v:=v1) rfl) rfl ?_
  refine xak ?_
  refine xbj ?_
  refine xbj ?_
  refine xav ?_
  refine xaj (xaz rfl) (fun h_ H_=>xax (v:=.slice a n c) rfl) (tm':=_::_::_::_::_::_::_::_::_::_::_::_) rfl ?_
  refine xaj (xaz rfl) (fun h_ H_=>xfj Tryz.underlying79 rfl) rfl ?_
  refine xaj (xaz rfl) (fun h_ H_=>xax (v:=.int .i64 0) rfl) rfl ?_
  refine xak ?_
  refine xeq ?_
  refine xhk (m₀:=n-0) (fun m_ tm_ h_=>∃ (k:Nat) (e:List By) (w1:Value) (X1:Pcs) (w2:Value) (X2:Pcs) (al:By),m_=n-k∧(∃ y4:Nat→Value,tm_=[.slice a n c,undef,sv al,w2,(y4 4),w1,undef,(y4 7),(y4 8),v1,.slice a n c,.int .i64 (((n:Nat):Int)),.int .i64 (((k:Nat):Int)),(y4 13),(y4 14),(y4 15),(y4 16),(y4 17),(y4 18),(y4 19),(y4 20),(y4 21),(y4 22),(y4 23),(y4 24),(y4 25),(y4 26),(y4 27),(y4 28),(y4 29),(y4 30),(y4 31),(y4 32),(y4 33),(y4 34),(y4 35),(y4 36),(y4 37),(y4 38),(y4 39),(y4 40),(y4 41),(y4 42),(y4 43),(y4 44),(y4 45),(y4 46),(y4 47),(y4 48),(y4 49),undef,undef])∧(k≤n)∧(e.length=k∧(∀ t∈e,t.length≤k)∧al.length≤k*1001∧al=e.flatten)∧(rdTo e (xs.drop k)=rdTo [] xs)∧(OwnS 9 1 w1 (scs ([]::e)) X1)∧(OwnS 9 1 w2 (scs e) X2)∧St h [] p h_ (([]:Pcs)++(X1++(X2++[])))) (fun h_ H_=>⟨0,[],v1,X2,(.slice none 0 0),[],[],rfl,(y_of rfl),Nat.zero_le _,⟨rfl,by simp,by simp,rfl⟩,rfl,o3,(OwnS.empty _ _),H_⟩) ?_
  intro m_ tm_ IH5
  refine xhq fun k=>xhq fun e=>xhq fun w1=>xhq fun X1=>xhq fun w2=>xhq fun X2=>xhq fun al=>xdj fun hm_=>xdj fun ht_=>xdj fun hk=>xdj fun hq=>xdj fun hR=>xdj fun o1=>xdj fun o2=>?_
  subst hm_;obtain ⟨y4,ht_⟩:=ht_;subst ht_
  obtain ⟨he,hm,hf,hal⟩:=hq
  refine xbj ?_
  refine xav ?_
  refine xaj (xaz rfl) (fun h_ H_=>xfk rfl rfl) (tm':=_::_::_::_::_::_::_::_::_::_::_::_::_::_::_) rfl ?_
  refine xak ?_
  refine xbj ?_
  by_cases cc6:((k:Nat):Int)<((n:Nat):Int)
  · refine xcx rfl (decide_eq_true cc6) ?_
    refine xdz ?_
    refine xbj ?_
    refine xeq ?_
    refine xbj ?_
    have hxk:=hx _ (gmem (d:=pz) (show k<xs.length by omega))
    have hpl:=wik (i:=(xs.getD k pz).1.toNat) hm
    refine xav ?_
    refine xaj (xaz rfl) (fun h_ H_=>xdx (i:=k) Tryz.underlying79 xxw (xlx a n c (D.ne (by omega))) rfl (by omega)) rfl ?_
    refine xaj (xaz rfl) (fun h_ H_=>xiw H_ zov xxw rfl (vs:=[.int .i64 ((xs.getD k pz).1),.int .i64 ((xs.getD k pz).2)]) rfl (D.all (by omega))) rfl ?_
    refine xjj (xaz rfl) yck rfl fun b7=>xcz (L':=([(b7,.cells #[.int .i64 0,.int .i64 0] 112 (0,0))]:Pcs)++(X1++(X2++[]))) rfl ?_
    refine xfz (tm':=_::_::_::_::_::_::_::_::_) rfl ?_
    refine xfv (xaz rfl) xxw rfl (v:=.agg #[.int .i64 ((xs.getD k pz).1),.int .i64 ((xs.getD k pz).2)]) rfl (i:=0) rfl rfl rfl (Nat.le_of_ble_eq_true rfl) (cs2:=[.int .i64 ((xs.getD k pz).1),.int .i64 ((xs.getD k pz).2)]) rfl (xcz (L':=([(b7,.cells #[.int .i64 ((xs.getD k pz).1),.int .i64 ((xs.getD k pz).2)] 112 (0,0))]:Pcs)++(X1++(X2++[]))) rfl ?_)
    refine xak ?_
    refine xbj ?_
    refine xbj ?_
    refine xav ?_
    refine xaj (xaz rfl) (fun h_ H_=>xaw yrw rfl (a':=⟨b7,0,none⟩) rfl) rfl ?_
    refine xaj (xaz rfl) (fun h_ H_=>xbx H_ tA3 rfl (i:=0) rfl (v:=.int .i64 ((xs.getD k pz).1)) rfl) rfl ?_
    refine xaj (xaz rfl) (fun h_ H_=>xax (v:=w1) rfl) (tm':=_::_::_::_::_::_::_::_::_::_::_::_::_::_::_::_::_::_::_::_) rfl ?_
    refine xaj (xaz rfl) (fun h_ H_=>yiw o1 (ygk he) Tryz.underlying33 rfl) rfl ?_
    refine xaj (xaz rfl) (fun h_ H_=>xuq rfl rfl) rfl ?_
    refine xak ?_
    by_cases cc8:((k+1:Nat):Int)≤(xs.getD k pz).1
    · refine xcx rfl (decide_eq_true cc8) ?_
      refine xbj ?_
      refine xav ?_
      refine xaj (xaz rfl) (fun h_ H_=>xaq (v:=sv ([]:List UInt8)) rfl) (tm':=_::_::_::_) rfl ?_
      refine xaj (xaz rfl) (fun h_ H_=>xaq (v:=.slice none 0 0) rfl) rfl ?_
      refine xaj (xaz rfl) (fun h_ H_=>xaq (v:=.bool (false)) rfl) rfl ?_
      refine xak ?_
      refine xcj Tryz.func41 rfl (vs:=[sv ([]:List UInt8),.slice none 0 0,.bool (false)]) (fun h_ H_=>⟨sv ([]:List UInt8),_,rfl,rfl,⟨.slice none 0 0,_,rfl,rfl,⟨.bool (false),_,rfl,rfl,rfl⟩⟩⟩) (v:=.tuple #[sv ([]:List UInt8),.slice none 0 0,.bool (false)]) rfl ?_
      have hN:rdTo [] xs=none:=hR.symm.trans (by first | exact zuv he (by omega) ‹_› | exact zfz he (by omega) ‹_› (by omega) ‹_› | exact absurd ‹([]::e).getD (xs.getD k pz).1.toNat []++[UInt8.ofNat (xs.getD k pz).2.toNat]=[]› (by simp))
      exact fun h_ H_=>K _ _ ⟨.slice none 0 0,[],by rw [hN];rfl,by rw [hN];exact OwnS.empty _ _,(H_.sub (List.nil_sublist _)).new⟩
    · refine xcv rfl (decide_eq_false cc8) ?_
      refine xdz ?_
      refine xbj ?_
      refine xav ?_
      refine xaj (xaz rfl) (fun h_ H_=>xax (v:=w1) rfl) (tm':=_::_::_::_::_::_::_::_::_::_::_::_::_::_::_::_::_::_::_::_::_::_::_) rfl ?_
      refine xaj (xaz rfl) (fun h_ H_=>xaw yrw rfl (a':=⟨b7,0,none⟩) rfl) rfl ?_
      refine xaj (xaz rfl) (fun h_ H_=>xbx H_ tA3 rfl (i:=0) rfl (v:=.int .i64 ((xs.getD k pz).1)) rfl) rfl ?_
      refine xaj (xaz rfl) (fun h_ H_=>xmz o1 Tryz.underlying33 tS9 rfl rfl (by omega) (by rw [(ygk he)];omega)) (tm':=_::_::_::_::_::_::_::_::_::_::_::_::_::_::_::_::_::_::_::_::_::_::_::_::_::_) rfl ?_
      refine xaj (xaz rfl) (fun h_ H_=>xtq (A:=([(b7,.cells #[.int .i64 ((xs.getD k pz).1),.int .i64 ((xs.getD k pz).2)] 112 (0,0))]:Pcs)) (i:=(((xs.getD k pz).1)).toNat) (j:=0) (e:=[sv (([]::e).getD ((((xs.getD k pz).1)).toNat) [])]) o1 H_ tA9 rfl rfl (zij (by simp only [List.length_cons];omega)) (u:=sv (([]::e).getD ((((xs.getD k pz).1)).toNat) [])) rfl) rfl ?_
      refine xaj (xaz rfl) (fun h_ H_=>xaq (v:=sv (([]::e).getD ((((xs.getD k pz).1)).toNat) [])) rfl) rfl ?_
      refine xak ?_
      refine xbj ?_
      refine xbj ?_
      refine xav ?_
      refine xaj (xaz rfl) (fun h_ H_=>xaw ybz rfl (a':=⟨b7,1,none⟩) rfl) (tm':=_::_::_::_::_::_::_::_::_::_::_::_::_::_::_::_::_::_::_::_::_::_::_::_::_::_::_::_) rfl ?_
      refine xaj (xaz rfl) (fun h_ H_=>xbx H_ tA3 rfl (i:=0) rfl (v:=.int .i64 ((xs.getD k pz).2)) rfl) rfl ?_
      refine xaj (xaz rfl) (fun h_ H_=>xgw rfl rfl) rfl ?_
      refine xak ?_
      by_cases cc9:(xs.getD k pz).2≠(-1)
      · refine xcx rfl (decide_eq_true cc9) ?_
        refine xav ?_
        refine xaj (xaz rfl) (fun h_ H_=>xax (v:=sv (([]::e).getD ((((xs.getD k pz).1)).toNat) [])) rfl) (tm':=_::_::_::_::_::_::_::_::_::_::_::_::_::_::_::_::_::_::_::_::_::_::_::_::_::_::_::_::_::_::_) rfl ?_
        refine xaj (xaz rfl) (fun h_ H_=>xaw ybz rfl (a':=⟨b7,1,none⟩) rfl) rfl ?_
        refine xaj (xaz rfl) (fun h_ H_=>xbx H_ tA3 rfl (i:=0) rfl (v:=.int .i64 ((xs.getD k pz).2)) rfl) rfl ?_
        refine xaj (xaz rfl) (fun h_ H_=>xoz ⟨_,Tryz.underlying3⟩ Tryz.underlying5 rfl (n:=(xs.getD k pz).2) (wr8 (by first | omega | (simp only [List.length_singleton];omega)))) (tm':=_::_::_::_::_::_::_::_::_::_::_::_::_::_::_::_::_::_::_::_::_::_::_::_::_::_::_::_::_::_::_::_::_::_) rfl ?_
        refine xhv ([(b7,.cells #[.int .i64 ((xs.getD k pz).1),.int .i64 ((xs.getD k pz).2)] 112 (0,0))]:Pcs) (xaz rfl) Tryz.underlying47 tS5 tZ5 (Nat.le_of_ble_eq_true rfl) (vs:=[(0,.int .u8 ((xs.getD k pz).2))]) rfl rfl (es:=[[.int .u8 ((xs.getD k pz).2)]]) rfl rfl rfl fun v10 X11 o12=>?_
        refine xaj (xaz rfl) (fun h_ H_=>xvj (A:=([(b7,.cells #[.int .i64 ((xs.getD k pz).1),.int .i64 ((xs.getD k pz).2)] 112 (0,0))]:Pcs)) (o12.as (zmk (by omega) (by omega))) H_ Tryz.underlying47 Tryz.underlying9 Tryz.underlying5 rfl) rfl ?_
        refine xaj (xaz rfl) (fun h_ H_=>xsq (l:=([]::e).getD ((((xs.getD k pz).1)).toNat) []) (m:=[UInt8.ofNat (xs.getD k pz).2.toNat]) rfl rfl (by first | omega | (simp only [List.length_singleton];omega))) (tm':=[_,_,_,_,_,_,_,_,_,_,_,_,_,_,_,_,_,_,_,_,_,_,_,_,_,_,_,_,_,_,_,_,_,_,_,_,_,_,_,_,_,_,_,_,_,_,_,_,_,_,_,_]) rfl ?_
        refine xaj (xaz rfl) (fun h_ H_=>xaq (v:=sv ((([]::e).getD ((((xs.getD k pz).1)).toNat) [])++([UInt8.ofNat (xs.getD k pz).2.toNat]))) rfl) rfl ?_
        refine xak ?_
        refine xbj ?_
        refine xbj ?_
        refine xav ?_
        refine xaj (xaz rfl) (fun h_ H_=>xax (v:=sv ((([]::e).getD ((((xs.getD k pz).1)).toNat) [])++([UInt8.ofNat (xs.getD k pz).2.toNat]))) rfl) rfl ?_
        refine xaj (xaz rfl) (fun h_ H_=>yuv (l:=(([]::e).getD ((((xs.getD k pz).1)).toNat) [])++([UInt8.ofNat (xs.getD k pz).2.toNat])) (m:=([]:List UInt8)) rfl rfl) (tm':=[_,_,_,_,_,_,_,_,_,_,_,_,_,_,_,_,_,_,_,_,_,_,_,_,_,_,_,_,_,_,_,_,_,_,_,_,_,_,_,_,_,_,_,_,_,_,_,_,_,_,_,_]) rfl ?_
        refine xak ?_
        by_cases cc13:(([]::e).getD ((((xs.getD k pz).1)).toNat) [])++([UInt8.ofNat (xs.getD k pz).2.toNat])=([]:List UInt8)
        · refine xcx rfl (decide_eq_true cc13) ?_
          refine xbj ?_
          refine xav ?_
          refine xaj (xaz rfl) (fun h_ H_=>xaq (v:=sv ([]:List UInt8)) rfl) rfl ?_
          refine xaj (xaz rfl) (fun h_ H_=>xaq (v:=.slice none 0 0) rfl) rfl ?_
          refine xaj (xaz rfl) (fun h_ H_=>xaq (v:=.bool (false)) rfl) (tm':=_::_::_::_::_::_) rfl ?_
          refine xak ?_
          refine xcj Tryz.func41 rfl (vs:=[sv ([]:List UInt8),.slice none 0 0,.bool (false)]) (fun h_ H_=>⟨sv ([]:List UInt8),_,rfl,rfl,⟨.slice none 0 0,_,rfl,rfl,⟨.bool (false),_,rfl,rfl,rfl⟩⟩⟩) (v:=.tuple #[sv ([]:List UInt8),.slice none 0 0,.bool (false)]) rfl ?_
          have hN:rdTo [] xs=none:=hR.symm.trans (by first | exact zuv he (by omega) ‹_› | exact zfz he (by omega) ‹_› (by omega) ‹_› | exact absurd ‹([]::e).getD (xs.getD k pz).1.toNat []++[UInt8.ofNat (xs.getD k pz).2.toNat]=[]› (by simp))
          exact fun h_ H_=>K _ _ ⟨.slice none 0 0,[],by rw [hN];rfl,by rw [hN];exact OwnS.empty _ _,(H_.sub (List.nil_sublist _)).new⟩
        · refine xcv rfl (decide_eq_false cc13) ?_
          refine xdz ?_
          refine xbj ?_
          refine xav ?_
          refine xaj (xaz rfl) (fun h_ H_=>xax (v:=w1) rfl) rfl ?_
          refine xaj (xaz rfl) (fun h_ H_=>xax (v:=sv ((([]::e).getD ((((xs.getD k pz).1)).toNat) [])++([UInt8.ofNat (xs.getD k pz).2.toNat]))) rfl) rfl ?_
          refine xhv ([(b7,.cells #[.int .i64 ((xs.getD k pz).1),.int .i64 ((xs.getD k pz).2)] 112 (0,0))]:Pcs) (xaz rfl) Tryz.underlying33 tS9 tZ9 (Nat.le_of_ble_eq_true rfl) (vs:=[(0,sv ((([]::e).getD ((((xs.getD k pz).1)).toNat) [])++([UInt8.ofNat (xs.getD k pz).2.toNat])))]) rfl rfl (es:=[[sv ((([]::e).getD ((((xs.getD k pz).1)).toNat) [])++([UInt8.ofNat (xs.getD k pz).2.toNat]))]]) rfl rfl rfl fun v14 X15 o16=>?_
          refine xfz (tm':=[_,_,_,_,_,_,_,_,_,_,_,_,_,_,_,_,_,_,_,_,_,_,_,_,_,_,_,_,_,_,_,_,_,_,_,_,_,_,_,_,_,_,_,_,_,_,_,_,_,_,_,_]) rfl ?_
          refine xjw (List.Perm.append_left _ (List.Perm.append_left _ (List.perm_append_comm_assoc _ _ _))) ?_
          refine xjw (List.Perm.append_left _ (List.perm_append_comm_assoc _ _ _)) ?_
          refine xcz (L':=([(b7,.cells #[.int .i64 ((xs.getD k pz).1),.int .i64 ((xs.getD k pz).2)] 112 (0,0))]:Pcs)++(X1++(X15++(X11++(X2++[]))))) rfl ?_
          refine xkw ([(b7,.cells #[.int .i64 ((xs.getD k pz).1),.int .i64 ((xs.getD k pz).2)] 112 (0,0))]:Pcs) X1 X15 (xaz rfl) Tryz.underlying33 tS9 tZ9 rfl tB9 Tryz.underlying33 rfl rfl o1 o16 (xrk rfl) (by rw [xgq];simp only [List.length_cons,List.length_nil];omega) (by decide) fun v17 X18 o19=>?_
          refine xaj (xaz rfl) (fun h_ H_=>xax (v:=w2) rfl) rfl ?_
          refine xaj (xaz rfl) (fun h_ H_=>xax (v:=sv ((([]::e).getD ((((xs.getD k pz).1)).toNat) [])++([UInt8.ofNat (xs.getD k pz).2.toNat]))) rfl) (tm':=[_,_,_,_,_,_,_,_,_,_,_,_,_,_,_,_,_,_,_,_,_,_,_,_,_,_,_,_,_,_,_,_,_,_,_,_,_,_,_,_,_,_,_,_,_,_,_,_,_,_,_,_]) rfl ?_
          refine xhv ([(b7,.cells #[.int .i64 ((xs.getD k pz).1),.int .i64 ((xs.getD k pz).2)] 112 (0,0))]:Pcs) (xaz rfl) Tryz.underlying33 tS9 tZ9 (Nat.le_of_ble_eq_true rfl) (vs:=[(0,sv ((([]::e).getD ((((xs.getD k pz).1)).toNat) [])++([UInt8.ofNat (xs.getD k pz).2.toNat])))]) rfl rfl (es:=[[sv ((([]::e).getD ((((xs.getD k pz).1)).toNat) [])++([UInt8.ofNat (xs.getD k pz).2.toNat]))]]) rfl rfl rfl fun v20 X21 o22=>?_
          refine xjw (List.Perm.append_left _ (List.Perm.append_left _ (List.Perm.append_left _ (List.perm_append_comm_assoc _ _ _)))) ?_
          refine xjw (List.Perm.append_left _ (List.Perm.append_left _ (List.perm_append_comm_assoc _ _ _))) ?_
          refine xjw (List.Perm.append_left _ (List.perm_append_comm_assoc _ _ _)) ?_
          refine xcz (L':=([(b7,.cells #[.int .i64 ((xs.getD k pz).1),.int .i64 ((xs.getD k pz).2)] 112 (0,0))]:Pcs)++(X2++(X21++(X18++(X11++[]))))) rfl ?_
          refine xkw ([(b7,.cells #[.int .i64 ((xs.getD k pz).1),.int .i64 ((xs.getD k pz).2)] 112 (0,0))]:Pcs) X2 X21 (xaz rfl) Tryz.underlying33 tS9 tZ9 rfl tB9 Tryz.underlying33 rfl rfl o2 o22 (xrk rfl) (by rw [xgq];simp only [List.length_cons,List.length_nil];omega) (by decide) fun v23 X24 o25=>?_
          refine xaj (xaz rfl) (fun h_ H_=>xaq (v:=v17) rfl) (tm':=_::_::_::_::_::_::_) rfl ?_
          refine xaj (xaz rfl) (fun h_ H_=>xaq (v:=v23) rfl) rfl ?_
          refine xak ?_
          refine xav ?_
          refine xaj (xaz rfl) (fun h_ H_=>xax (v:=sv al) rfl) rfl ?_
          refine xaj (xaz rfl) (fun h_ H_=>xax (v:=sv ((([]::e).getD ((((xs.getD k pz).1)).toNat) [])++([UInt8.ofNat (xs.getD k pz).2.toNat]))) rfl) (tm':=[_,_,_,_,_,_,_,_,_,_,_,_,_,_,_,_,_,_,_,_,_,_,_,_,_,_,_,_,_,_,_,_,_,_,_,_,_,_,_,_,_,_,_,_,_,_,_,_,_,_,_,_]) rfl ?_
          refine xaj (xaz rfl) (fun h_ H_=>xsq (l:=al) (m:=(([]::e).getD ((((xs.getD k pz).1)).toNat) [])++([UInt8.ofNat (xs.getD k pz).2.toNat])) rfl rfl (by first | omega | (simp only [List.length_append,List.length_singleton];omega))) rfl ?_
          refine xaj (xaz rfl) (fun h_ H_=>xaq (v:=sv (al++((([]::e).getD ((((xs.getD k pz).1)).toNat) [])++([UInt8.ofNat (xs.getD k pz).2.toNat])))) rfl) rfl ?_
          refine xak ?_
          refine xex ?_
          refine xav ?_
          refine xaj (xaz rfl) (fun h_ H_=>xev rfl rfl (n:=((k+1:Nat):Int)) (wr (by omega))) (tm':=[_,_,_,_,_,_,_,_,_,_,_,_,_,_,_,_,_,_,_,_,_,_,_,_,_,_,_,_,_,_,_,_,_,_,_,_,_,_,_,_,_,_,_,_,_,_,_,_,_,_,_,_]) rfl ?_
          refine xaj (xaz rfl) (fun h_ H_=>xax (v:=.int .i64 (((k+1:Nat):Int))) rfl) rfl ?_
          refine xak ?_
          refine xqk (List.Perm.append_left _ (List.Perm.append_left _ (List.perm_append_comm_assoc _ _ _))) ?_
          refine xqk (List.Perm.append_left _ (List.perm_append_comm_assoc _ _ _)) ?_
          refine xqk (List.Perm.append_left _ (List.Perm.append_left _ (List.perm_append_comm_assoc _ _ _))) ?_
          refine xrq (L':=([(b7,.cells #[.int .i64 ((xs.getD k pz).1),.int .i64 ((xs.getD k pz).2)] 112 (0,0))]:Pcs)++(X11++(X18++(X24++[])))) rfl ?_
          exact fun h_ H_=>IH5 _ _ (by omega) h_ ⟨k+1,(e++[((([]::e).getD ((((xs.getD k pz).1)).toNat) [])++([UInt8.ofNat (xs.getD k pz).2.toNat]))]),v17,X18,v23,X24,al++((([]::e).getD ((((xs.getD k pz).1)).toNat) [])++([UInt8.ofNat (xs.getD k pz).2.toNat])),rfl,(y_of rfl),(by omega),⟨by rw [List.length_append,he];rfl,ywj hm (by simp only [List.length_append,List.length_singleton];omega),by rw [List.length_append];simp only [List.length_append,List.length_singleton];omega,by rw [zbx,hal]⟩,((wex he (by omega) ‹_› (by omega)).symm.trans hR),(o19.as (yyj _ _)),(o25.as (ysx _ _)),H_.dropX.drop⟩
      · refine xcv rfl (decide_eq_false cc9) ?_
        refine xdz ?_
        refine xbj ?_
        refine xbj ?_
        refine xav ?_
        refine xaj (xaz rfl) (fun h_ H_=>xax (v:=sv (([]::e).getD ((((xs.getD k pz).1)).toNat) [])) rfl) rfl ?_
        refine xaj (xaz rfl) (fun h_ H_=>yuv (l:=([]::e).getD ((((xs.getD k pz).1)).toNat) []) (m:=([]:List UInt8)) rfl rfl) (tm':=[_,_,_,_,_,_,_,_,_,_,_,_,_,_,_,_,_,_,_,_,_,_,_,_,_,_,_,_,_,_,_,_,_,_,_,_,_,_,_,_,_,_,_,_,_,_,_,_,_,_,_,_]) rfl ?_
        refine xak ?_
        by_cases cc26:([]::e).getD ((((xs.getD k pz).1)).toNat) []=([]:List UInt8)
        · refine xcx rfl (decide_eq_true cc26) ?_
          refine xbj ?_
          refine xav ?_
          refine xaj (xaz rfl) (fun h_ H_=>xaq (v:=sv ([]:List UInt8)) rfl) rfl ?_
          refine xaj (xaz rfl) (fun h_ H_=>xaq (v:=.slice none 0 0) rfl) rfl ?_
          refine xaj (xaz rfl) (fun h_ H_=>xaq (v:=.bool (false)) rfl) (tm':=_::_::_::_::_::_) rfl ?_
          refine xak ?_
          refine xcj Tryz.func41 rfl (vs:=[sv ([]:List UInt8),.slice none 0 0,.bool (false)]) (fun h_ H_=>⟨sv ([]:List UInt8),_,rfl,rfl,⟨.slice none 0 0,_,rfl,rfl,⟨.bool (false),_,rfl,rfl,rfl⟩⟩⟩) (v:=.tuple #[sv ([]:List UInt8),.slice none 0 0,.bool (false)]) rfl ?_
          have hN:rdTo [] xs=none:=hR.symm.trans (by first | exact zuv he (by omega) ‹_› | exact zfz he (by omega) ‹_› (by omega) ‹_› | exact absurd ‹([]::e).getD (xs.getD k pz).1.toNat []++[UInt8.ofNat (xs.getD k pz).2.toNat]=[]› (by simp))
          exact fun h_ H_=>K _ _ ⟨.slice none 0 0,[],by rw [hN];rfl,by rw [hN];exact OwnS.empty _ _,(H_.sub (List.nil_sublist _)).new⟩
        · refine xcv rfl (decide_eq_false cc26) ?_
          refine xdz ?_
          refine xbj ?_
          refine xav ?_
          refine xaj (xaz rfl) (fun h_ H_=>xax (v:=w1) rfl) rfl ?_
          refine xaj (xaz rfl) (fun h_ H_=>xax (v:=sv (([]::e).getD ((((xs.getD k pz).1)).toNat) [])) rfl) rfl ?_
          refine xhv ([(b7,.cells #[.int .i64 ((xs.getD k pz).1),.int .i64 ((xs.getD k pz).2)] 112 (0,0))]:Pcs) (xaz rfl) Tryz.underlying33 tS9 tZ9 (Nat.le_of_ble_eq_true rfl) (vs:=[(0,sv (([]::e).getD ((((xs.getD k pz).1)).toNat) []))]) rfl rfl (es:=[[sv (([]::e).getD ((((xs.getD k pz).1)).toNat) [])]]) rfl rfl rfl fun v27 X28 o29=>?_
          refine xfz (tm':=[_,_,_,_,_,_,_,_,_,_,_,_,_,_,_,_,_,_,_,_,_,_,_,_,_,_,_,_,_,_,_,_,_,_,_,_,_,_,_,_,_,_,_,_,_,_,_,_,_,_,_,_]) rfl ?_
          refine xjw (List.Perm.append_left _ (List.perm_append_comm_assoc _ _ _)) ?_
          refine xcz (L':=([(b7,.cells #[.int .i64 ((xs.getD k pz).1),.int .i64 ((xs.getD k pz).2)] 112 (0,0))]:Pcs)++(X1++(X28++(X2++[])))) rfl ?_
          refine xkw ([(b7,.cells #[.int .i64 ((xs.getD k pz).1),.int .i64 ((xs.getD k pz).2)] 112 (0,0))]:Pcs) X1 X28 (xaz rfl) Tryz.underlying33 tS9 tZ9 rfl tB9 Tryz.underlying33 rfl rfl o1 o29 (xrk rfl) (by rw [xgq];simp only [List.length_cons,List.length_nil];omega) (by decide) fun v30 X31 o32=>?_
          refine xaj (xaz rfl) (fun h_ H_=>xax (v:=w2) rfl) rfl ?_
          refine xaj (xaz rfl) (fun h_ H_=>xax (v:=sv (([]::e).getD ((((xs.getD k pz).1)).toNat) [])) rfl) (tm':=[_,_,_,_,_,_,_,_,_,_,_,_,_,_,_,_,_,_,_,_,_,_,_,_,_,_,_,_,_,_,_,_,_,_,_,_,_,_,_,_,_,_,_,_,_,_,_,_,_,_,_,_]) rfl ?_
          refine xhv ([(b7,.cells #[.int .i64 ((xs.getD k pz).1),.int .i64 ((xs.getD k pz).2)] 112 (0,0))]:Pcs) (xaz rfl) Tryz.underlying33 tS9 tZ9 (Nat.le_of_ble_eq_true rfl) (vs:=[(0,sv (([]::e).getD ((((xs.getD k pz).1)).toNat) []))]) rfl rfl (es:=[[sv (([]::e).getD ((((xs.getD k pz).1)).toNat) [])]]) rfl rfl rfl fun v33 X34 o35=>?_
          refine xjw (List.Perm.append_left _ (List.Perm.append_left _ (List.perm_append_comm_assoc _ _ _))) ?_
          refine xjw (List.Perm.append_left _ (List.perm_append_comm_assoc _ _ _)) ?_
          refine xcz (L':=([(b7,.cells #[.int .i64 ((xs.getD k pz).1),.int .i64 ((xs.getD k pz).2)] 112 (0,0))]:Pcs)++(X2++(X34++(X31++[])))) rfl ?_
          refine xkw ([(b7,.cells #[.int .i64 ((xs.getD k pz).1),.int .i64 ((xs.getD k pz).2)] 112 (0,0))]:Pcs) X2 X34 (xaz rfl) Tryz.underlying33 tS9 tZ9 rfl tB9 Tryz.underlying33 rfl rfl o2 o35 (xrk rfl) (by rw [xgq];simp only [List.length_cons,List.length_nil];omega) (by decide) fun v36 X37 o38=>?_
          refine xaj (xaz rfl) (fun h_ H_=>xaq (v:=v30) rfl) (tm':=_::_::_::_::_::_::_) rfl ?_
          refine xaj (xaz rfl) (fun h_ H_=>xaq (v:=v36) rfl) rfl ?_
          refine xak ?_
          refine xav ?_
          refine xaj (xaz rfl) (fun h_ H_=>xax (v:=sv al) rfl) rfl ?_
          refine xaj (xaz rfl) (fun h_ H_=>xax (v:=sv (([]::e).getD ((((xs.getD k pz).1)).toNat) [])) rfl) (tm':=[_,_,_,_,_,_,_,_,_,_,_,_,_,_,_,_,_,_,_,_,_,_,_,_,_,_,_,_,_,_,_,_,_,_,_,_,_,_,_,_,_,_,_,_,_,_,_,_,_,_,_,_]) rfl ?_
          refine xaj (xaz rfl) (fun h_ H_=>xsq (l:=al) (m:=([]::e).getD ((((xs.getD k pz).1)).toNat) []) rfl rfl (by first | omega | (simp only [List.length_append,List.length_singleton];omega))) rfl ?_
          refine xaj (xaz rfl) (fun h_ H_=>xaq (v:=sv (al++(([]::e).getD ((((xs.getD k pz).1)).toNat) []))) rfl) rfl ?_
          refine xak ?_
          refine xex ?_
          refine xav ?_
          refine xaj (xaz rfl) (fun h_ H_=>xev rfl rfl (n:=((k+1:Nat):Int)) (wr (by omega))) (tm':=[_,_,_,_,_,_,_,_,_,_,_,_,_,_,_,_,_,_,_,_,_,_,_,_,_,_,_,_,_,_,_,_,_,_,_,_,_,_,_,_,_,_,_,_,_,_,_,_,_,_,_,_]) rfl ?_
          refine xaj (xaz rfl) (fun h_ H_=>xax (v:=.int .i64 (((k+1:Nat):Int))) rfl) rfl ?_
          refine xak ?_
          refine xqk (List.Perm.append_left _ (List.perm_append_comm_assoc _ _ _)) ?_
          refine xrq (L':=([(b7,.cells #[.int .i64 ((xs.getD k pz).1),.int .i64 ((xs.getD k pz).2)] 112 (0,0))]:Pcs)++(X31++(X37++[]))) rfl ?_
          exact fun h_ H_=>IH5 _ _ (by omega) h_ ⟨k+1,(e++[(([]::e).getD ((((xs.getD k pz).1)).toNat) [])]),v30,X31,v36,X37,al++(([]::e).getD ((((xs.getD k pz).1)).toNat) []),rfl,(y_of rfl),(by omega),⟨by rw [List.length_append,he];rfl,ywj hm (by omega),by rw [List.length_append];omega,by rw [zbx,hal]⟩,((wez he (by omega) ‹_› (by omega) ‹_›).symm.trans hR),(o32.as (yyj _ _)),(o38.as (ysx _ _)),H_.drop⟩
  · refine xcv rfl (decide_eq_false cc6) ?_
    refine xgk rfl ?_
    refine xbj ?_
    refine xav ?_
    refine xaj (xaz rfl) (fun h_ H_=>xax (v:=sv al) rfl) rfl ?_
    refine xaj (xaz rfl) (fun h_ H_=>xax (v:=w2) rfl) (tm':=[_,_,_,_,_,_,_,_,_,_,_,_,_,_,_,_,_,_,_,_,_,_,_,_,_,_,_,_,_,_,_,_,_,_,_,_,_,_,_,_,_,_,_,_,_,_,_,_,_,_,_,_]) rfl ?_
    refine xaj (xaz rfl) (fun h_ H_=>xaq (v:=sv al) rfl) rfl ?_
    refine xaj (xaz rfl) (fun h_ H_=>xaq (v:=w2) rfl) rfl ?_
    refine xaj (xaz rfl) (fun h_ H_=>xaq (v:=.bool (true)) rfl) (tm':=_::_::_::_::_::_) rfl ?_
    refine xak ?_
    refine xcj Tryz.func41 rfl (vs:=[sv al,w2,.bool (true)]) (fun h_ H_=>⟨sv al,_,rfl,rfl,⟨w2,_,rfl,rfl,⟨.bool (true),_,rfl,rfl,rfl⟩⟩⟩) (v:=.tuple #[sv al,w2,.bool (true)]) rfl ?_
    have hS:=wrz (by omega) hR
    exact fun h_ H_=>K _ _ ⟨_,_,by rw [hS,hal];rfl,by rw [hS];exact o2,by simpa using H_.dropA.dropA.new⟩
end Go.Proofs.YtphalmjpbnffcaaGreatDoor
namespace Go.Proofs.YtphalmjpbnffcaaGreatDoor
open Go.X Go.X.Cent Go.Conc
theorem c41o (md:Md) {v:Value} {xs:List Pie} {X L:Pcs} {p:PHeap} {h₀ h:Heap} {B₀:List Nat} (o:OwnS 112 2 v (pies xs) X) (s:St h₀ B₀ p h L) (hX: ∀ x∈X,x∈L) (hn:xs.length≤1000) (hx: ∀ x∈xs,0≤x.1∧ -1≤x.2∧x.2≤255):
    CallsX Tryz.prog md 41 #[v] h fun v h'=>∃ w X,v= .tuple #[sv ((rdTo [] xs).getD []).flatten,w,.bool (rdTo [] xs).isSome]∧OwnS 9 1 w (scs ((rdTo [] xs).getD [])) X∧New h h' X:=
  yfq o (xwz _) s hX fun p' a cap hp' _ hv D=>by
    subst hv
    exact c41 md h p' hp' a _ cap xs D hn hx
end Go.Proofs.YtphalmjpbnffcaaGreatDoor
namespace Go.Proofs.YtphalmjpbnffcaaGreatDoor
open Go.X Go.X.Cent Go.Conc
set_option maxRecDepth 10000
set_option synthInstance.maxSize 2000
set_option synthInstance.maxHeartbeats 400000

set_option maxHeartbeats 4000000
theorem c39 (h:Heap) (s:By) (hs:s.length≤2 ^ 60):CallsX Tryz.prog .lone 39 #[sv s] h fun v h'=>∃ w X,v= .tuple #[w,.bool (formB s).isSome]∧OwnS 112 2 w (pies ((formB s).getD [])) X∧New h h' X:=by
  refine xbv (Φ:=fun h_=>St h [] (fun _=>none) h_ []) Tryz.func39 rfl (tm:=[_,_,_,_,_,_,_,_,_,_,_,_,_,_,_,_,_,_,_,_,_,_,_,_,_,_,_,_,_,_,_,_,_,_,_,_,_,_,_,_,_,_,_,_,_,_,_,_,_,_,_,_,_,_,_,_,_,_,_,_,_,_,_,_,_,_,_,_,_,_,_,_,_,_,_,_,_,_,_,_,_,_,_,_,_,_,_,_,_,_,_,_,_,_,_,_,_,_,_,_,_,_]) rfl ?_ (St.start h _ (fun _ _ e=>by cases e))
  intro c₀ cs Stop K
  have e5:(((s.length:Nat):Int)-5).toNat=s.length-5:=by omega
  have e4:5≤s.length→(((s.length:Nat):Int)-5+1).toNat=s.length-4:=by omega
  refine xbj ?_
  refine xav ?_
  refine xaj (xaz rfl) (fun h_ H_=>xaq (v:=.slice none 0 0) rfl) rfl ?_
  refine xaj (xaz rfl) (fun h_ H_=>xaq (v:=.bool (false)) rfl) rfl ?_
  refine xak ?_
  refine xbj ?_
  refine xav ?_
  refine xaj (xaz rfl) (fun h_ H_=>xax (v:=sv s) rfl) (tm':=_::_::_::_::_::_::_::_::_::_::_::_::_) rfl ?_
  refine xaj (xaz rfl) (fun h_ H_=>xkz (l:=s) Tryz.underlying9 rfl) rfl ?_
  refine xaj (xaz rfl) (fun h_ H_=>xlv rfl rfl (wr (by omega))) rfl ?_
  refine xaj (xaz rfl) (fun h_ H_=>xaq (v:=.int .i64 (((s.length:Nat):Int)-5)) rfl) (tm':=_::_::_::_::_::_) rfl ?_
  refine xak ?_
  refine xbj ?_
  refine xbj ?_
  refine xav ?_
  refine xaj (xaz rfl) (fun h_ H_=>xax (v:=sv s) rfl) rfl ?_
  refine xaj (xaz rfl) (fun h_ H_=>xkz (l:=s) Tryz.underlying9 rfl) rfl ?_
  refine xaj (xaz rfl) (fun h_ H_=>xjx rfl rfl) (tm':=_::_::_::_::_::_::_::_::_::_::_::_::_::_::_::_::_::_) rfl ?_
  refine xaj (xaz rfl) (fun h_ H_=>xax (v:=.bool (decide (1400<((s.length:Nat):Int)))) rfl) rfl ?_
  by_cases cc1:1400<((s.length:Nat):Int)
  · refine xck (xhx rfl rfl (decide_eq_true cc1)) rfl ?_
    refine xck (xhx rfl rfl (decide_eq_true cc1)) (tm':=_::_::_::_::_::_::_::_::_::_::_::_::_::_::_::_::_::_::_::_::_) rfl ?_
    refine xaj (xaz rfl) (fun h_ H_=>xbw rfl (decide_eq_true cc1) (v:=.bool (true)) rfl) rfl ?_
    refine xaj (xaz rfl) (fun h_ H_=>xax (v:=.bool (true)) rfl) rfl ?_
    refine xck (xhx rfl rfl rfl) (tm':=_::_::_::_::_::_::_::_::_::_::_::_::_::_::_::_::_::_::_::_::_::_::_::_) rfl ?_
    refine xck (xhx rfl rfl rfl) rfl ?_
    refine xck (xhx rfl rfl rfl) rfl ?_
    refine xck (xhx rfl rfl rfl) (tm':=_::_::_::_::_::_::_::_::_::_::_::_::_::_::_::_::_::_::_::_::_::_::_::_::_::_::_) rfl ?_
    refine xaj (xaz rfl) (fun h_ H_=>xbw rfl rfl (v:=.bool (true)) rfl) rfl ?_
    refine xak ?_
    refine xcx rfl rfl ?_
    refine xbj ?_
    refine xav ?_
    refine xaj (xaz rfl) (fun h_ H_=>xaq (v:=.slice none 0 0) rfl) rfl ?_
    refine xaj (xaz rfl) (fun h_ H_=>xaq (v:=.bool (false)) rfl) (tm':=_::_::_::_::_) rfl ?_
    refine xak ?_
    refine xcj Tryz.func39 rfl (vs:=[.slice none 0 0,.bool (false)]) (fun h_ H_=>⟨.slice none 0 0,_,rfl,rfl,⟨.bool (false),_,rfl,rfl,rfl⟩⟩) (v:=.tuple #[.slice none 0 0,.bool (false)]) rfl ?_
    have hN:formB s=none:=by rw [formB,if_pos];first | exact .inl (by omega) | exact .inr (.inl (by omega)) | exact .inr (.inr (by rw [← e5];omega))
    exact fun h_ H_=>K _ _ ⟨.slice none 0 0,[],by rw [hN];rfl,by rw [hN];exact OwnS.empty _ _,(H_.sub (List.nil_sublist _)).new⟩
  · refine xaj (xhz rfl rfl (decide_eq_false cc1)) (fun h_ H_=>xax (v:=.int .i64 (((s.length:Nat):Int)-5)) rfl) rfl ?_
    refine xaj (xhz rfl rfl (decide_eq_false cc1)) (fun h_ H_=>xfk rfl rfl) rfl ?_
    refine xaj (xaz rfl) (fun h_ H_=>xdq rfl (decide_eq_false cc1) (v:=.bool (decide (((s.length:Nat):Int)-5<0))) rfl) (tm':=_::_::_::_::_::_::_::_::_::_::_::_::_::_::_::_::_::_::_::_::_::_) rfl ?_
    refine xaj (xaz rfl) (fun h_ H_=>xax (v:=.bool (decide (((s.length:Nat):Int)-5<0))) rfl) rfl ?_
    by_cases cc2:((s.length:Nat):Int)-5<0
    · refine xck (xhx rfl rfl (decide_eq_true cc2)) rfl ?_
      refine xck (xhx rfl rfl (decide_eq_true cc2)) (tm':=_::_::_::_::_::_::_::_::_::_::_::_::_::_::_::_::_::_::_::_::_::_::_::_::_) rfl ?_
      refine xck (xhx rfl rfl (decide_eq_true cc2)) rfl ?_
      refine xck (xhx rfl rfl (decide_eq_true cc2)) rfl ?_
      refine xaj (xaz rfl) (fun h_ H_=>xbw rfl (decide_eq_true cc2) (v:=.bool (true)) rfl) (tm':=_::_::_::_::_::_::_::_::_::_::_::_::_::_::_::_::_::_::_::_::_::_::_::_::_::_::_::_) rfl ?_
      refine xak ?_
      refine xcx rfl rfl ?_
      refine xbj ?_
      refine xav ?_
      refine xaj (xaz rfl) (fun h_ H_=>xaq (v:=.slice none 0 0) rfl) rfl ?_
      refine xaj (xaz rfl) (fun h_ H_=>xaq (v:=.bool (false)) rfl) rfl ?_
      refine xak ?_
      refine xcj Tryz.func39 rfl (vs:=[.slice none 0 0,.bool (false)]) (fun h_ H_=>⟨.slice none 0 0,_,rfl,rfl,⟨.bool (false),_,rfl,rfl,rfl⟩⟩) (v:=.tuple #[.slice none 0 0,.bool (false)]) rfl ?_
      have hN:formB s=none:=by rw [formB,if_pos];first | exact .inl (by omega) | exact .inr (.inl (by omega)) | exact .inr (.inr (by rw [← e5];omega))
      exact fun h_ H_=>K _ _ ⟨.slice none 0 0,[],by rw [hN];rfl,by rw [hN];exact OwnS.empty _ _,(H_.sub (List.nil_sublist _)).new⟩
    · refine xaj (xhz rfl rfl (decide_eq_false cc2)) (fun h_ H_=>xax (v:=sv s) rfl) (tm':=_::_::_::_::_::_::_::_::_::_::_::_::_::_::_::_::_::_::_::_::_::_::_::_) rfl ?_
      refine xaj (xhz rfl rfl (decide_eq_false cc2)) (fun h_ H_=>xax (v:=.int .i64 (((s.length:Nat):Int)-5)) rfl) rfl ?_
      refine xaj (xhz rfl rfl (decide_eq_false cc2)) (fun h_ H_=>yqz (l:=s) (i:=((s.length:Nat):Int)-5) Tryz.underlying9 rfl rfl (by omega) (by omega)) rfl ?_
      refine xaj (xhz rfl rfl (decide_eq_false cc2)) (fun h_ H_=>xgw rfl rfl) (tm':=_::_::_::_::_::_::_::_::_::_::_::_::_::_::_::_::_::_::_::_::_::_::_::_::_::_::_) rfl ?_
      refine xaj (xaz rfl) (fun h_ H_=>xdq rfl (decide_eq_false cc2) (v:=.bool (decide ((((s.getD (((s.length:Nat):Int)-5).toNat 0).toNat:Nat):Int)≠61))) rfl) rfl ?_
      refine xak ?_
      by_cases cc3:(((s.getD (((s.length:Nat):Int)-5).toNat 0).toNat:Nat):Int)≠61
      · refine xcx rfl (decide_eq_true cc3) ?_
        refine xbj ?_
        refine xav ?_
        refine xaj (xaz rfl) (fun h_ H_=>xaq (v:=.slice none 0 0) rfl) rfl ?_
        refine xaj (xaz rfl) (fun h_ H_=>xaq (v:=.bool (false)) rfl) (tm':=_::_::_::_::_) rfl ?_
        refine xak ?_
        refine xcj Tryz.func39 rfl (vs:=[.slice none 0 0,.bool (false)]) (fun h_ H_=>⟨.slice none 0 0,_,rfl,rfl,⟨.bool (false),_,rfl,rfl,rfl⟩⟩) (v:=.tuple #[.slice none 0 0,.bool (false)]) rfl ?_
        have hN:formB s=none:=by rw [formB,if_pos];first | exact .inl (by omega) | exact .inr (.inl (by omega)) | exact .inr (.inr (by rw [← e5];omega))
        exact fun h_ H_=>K _ _ ⟨.slice none 0 0,[],by rw [hN];rfl,by rw [hN];exact OwnS.empty _ _,(H_.sub (List.nil_sublist _)).new⟩
      · refine xcv rfl (decide_eq_false cc3) ?_
        refine xdz ?_
        refine xbj ?_
        refine xbj ?_
        have e4:=e4 (by omega)
        have hdl:(s.drop (((s.length:Nat):Int)-5+1).toNat).length≤5:=by rw [List.length_drop];omega
        have hf1: ¬ (1400<s.length∨s.length<5∨(s.getD (s.length-5) 0).toNat≠61):=by rw [← e5];omega
        refine xav ?_
        refine xaj (xaz rfl) (fun h_ H_=>xax (v:=sv s) rfl) rfl ?_
        refine xaj (xaz rfl) (fun h_ H_=>xax (v:=.int .i64 (((s.length:Nat):Int)-5)) rfl) rfl ?_
        refine xaj (xaz rfl) (fun h_ H_=>xev rfl rfl (wr (by omega))) (tm':=_::_::_::_::_::_::_::_::_::_::_::_::_::_::_::_::_::_::_::_::_::_::_::_::_::_::_::_::_::_::_) rfl ?_
        refine xaj (xaz rfl) (fun h_ H_=>xvk (l:=s) (a:=(((((s.length:Nat):Int)-5)+1)).toNat) Tryz.underlying9 rfl (.some _ rfl (by omega)) (by omega)) rfl ?_
        refine yzq (xaz rfl) Tryz.underlying9 Tryz.underlying47 Tryz.underlying5 (l:=s.drop ((((((s.length:Nat):Int)-5)+1)).toNat)) rfl fun p4 a5 cp6 le7 D8 _=>?_
        refine xaj (xaz rfl) (fun h_ H_=>xfj Tryz.underlying47 rfl) (tm':=_::_::_::_::_::_::_::_::_::_::_::_::_::_::_::_::_::_::_::_::_::_::_::_::_::_::_::_::_::_::_::_::_::_) rfl ?_
        refine xaj (xaz rfl) (fun h_ H_=>xax (v:=.int .i64 0) rfl) rfl ?_
        refine xak ?_
        refine xeq ?_
        refine xhk (m₀:=(s.drop (((s.length:Nat):Int)-5+1).toNat).length-0) (fun m_ tm_ h_=>∃ (k:Nat),m_=(s.drop (((s.length:Nat):Int)-5+1).toNat).length-k∧(∃ y9:Nat→Value,tm_=[sv s,undef,(y9 2),(y9 3),.int .i64 (((s.length:Nat):Int)-5),undef,(y9 6),undef,undef,undef,undef,sv s,.int .i64 (((s.length:Nat):Int)),.int .i64 (((s.length:Nat):Int)-5),sv s,.int .i64 (((s.length:Nat):Int)),.bool (decide (1400<((s.length:Nat):Int))),.bool (decide (1400<((s.length:Nat):Int))),.int .i64 (((s.length:Nat):Int)-5),.bool (decide (((s.length:Nat):Int)-5<0)),.bool (decide (((s.length:Nat):Int)-5<0)),.bool (decide (((s.length:Nat):Int)-5<0)),sv s,.int .i64 (((s.length:Nat):Int)-5),.int .u8 ((((s.getD (((s.length:Nat):Int)-5).toNat 0).toNat:Nat):Int)),.bool (decide ((((s.getD (((s.length:Nat):Int)-5).toNat 0).toNat:Nat):Int)≠61)),.bool (decide ((((s.getD (((s.length:Nat):Int)-5).toNat 0).toNat:Nat):Int)≠61)),sv s,.int .i64 (((s.length:Nat):Int)-5),.int .i64 ((((s.length:Nat):Int)-5)+1),sv (s.drop ((((((s.length:Nat):Int)-5)+1)).toNat)),.slice a5 ((s.drop ((((((s.length:Nat):Int)-5)+1)).toNat)).length) cp6,.int .i64 ((((s.drop ((((((s.length:Nat):Int)-5)+1)).toNat)).length:Nat):Int)),.int .i64 (((k:Nat):Int)),(y9 34),(y9 35),(y9 36),(y9 37),(y9 38),(y9 39),(y9 40),(y9 41),(y9 42),(y9 43),undef,undef,undef,undef,undef,undef,undef,undef,undef,undef,undef,undef,undef,undef,undef,undef,undef,undef,undef,undef,undef,undef,undef,undef,undef,undef,undef,undef,undef,undef,undef,undef,undef,undef,undef,undef,undef,undef,undef,undef,undef,undef,undef,undef,undef,undef,undef,undef,undef,undef,undef,undef,undef,undef,undef,undef,undef,undef])∧(k≤(s.drop (((s.length:Nat):Int)-5+1).toNat).length)∧(∀ i,i<k→48≤((s.drop (((s.length:Nat):Int)-5+1).toNat).getD i 0).toNat∧((s.drop (((s.length:Nat):Int)-5+1).toNat).getD i 0).toNat≤57)∧St h [] p4 h_ ([])) (fun h_ H_=>⟨0,rfl,(y_of rfl),Nat.zero_le _,(fun i hi=>absurd hi (Nat.not_lt_zero i)),H_⟩) ?_
        intro m_ tm_ IH10
        refine xhq fun k=>xdj fun hm_=>xdj fun ht_=>xdj fun hk=>xdj fun hd=>?_
        subst hm_;obtain ⟨y9,ht_⟩:=ht_;subst ht_
        refine xbj ?_
        refine xav ?_
        refine xaj (xaz rfl) (fun h_ H_=>xfk rfl rfl) rfl ?_
        refine xak ?_
        refine xbj ?_
        by_cases cc11:((k:Nat):Int)<(((s.drop ((((((s.length:Nat):Int)-5)+1)).toNat)).length:Nat):Int)
        · refine xcx rfl (decide_eq_true cc11) ?_
          refine xdz ?_
          refine xbj ?_
          refine xeq ?_
          refine xbj ?_
          refine xav ?_
          refine xaj (xaz rfl) (fun h_ H_=>xdx (i:=k) Tryz.underlying47 tS5 (xlx a5 ((s.drop ((((((s.length:Nat):Int)-5)+1)).toNat)).length) cp6 (D8.ne (by omega))) rfl (by omega)) (tm':=_::_::_::_::_::_::_::_::_::_::_::_::_::_::_::_::_::_::_::_::_::_::_::_::_::_::_::_::_::_::_::_::_::_::_::_::_) rfl ?_
          refine xaj (xaz rfl) (fun h_ H_=>xdk H_ tA5 rfl (v:=.int .u8 (((((s.drop ((((((s.length:Nat):Int)-5)+1)).toNat)).getD k 0).toNat:Nat):Int))) (D8.get (by omega))) rfl ?_
          refine xaj (xaz rfl) (fun h_ H_=>xaq (v:=.int .u8 (((((s.drop ((((((s.length:Nat):Int)-5)+1)).toNat)).getD k 0).toNat:Nat):Int))) rfl) rfl ?_
          refine xak ?_
          refine xbj ?_
          refine xav ?_
          refine xaj (xaz rfl) (fun h_ H_=>xax (v:=.int .u8 (((((s.drop ((((((s.length:Nat):Int)-5)+1)).toNat)).getD k 0).toNat:Nat):Int))) rfl) (tm':=_::_::_::_::_::_::_::_::_::_::_::_::_::_::_::_::_::_::_::_::_::_::_::_::_::_::_::_::_::_::_::_::_::_::_::_::_::_::_) rfl ?_
          refine xaj (xaz rfl) (fun h_ H_=>xfk rfl rfl) rfl ?_
          refine xaj (xaz rfl) (fun h_ H_=>xax (v:=.bool (decide (((((s.drop ((((((s.length:Nat):Int)-5)+1)).toNat)).getD k 0).toNat:Nat):Int)<48))) rfl) rfl ?_
          by_cases cc12:((((s.drop ((((((s.length:Nat):Int)-5)+1)).toNat)).getD k 0).toNat:Nat):Int)<48
          · refine xck (xhx rfl rfl (decide_eq_true cc12)) (tm':=_::_::_::_::_::_::_::_::_::_::_::_::_::_::_::_::_::_::_::_::_::_::_::_::_::_::_::_::_::_::_::_::_::_::_::_::_::_::_::_::_::_) rfl ?_
            refine xck (xhx rfl rfl (decide_eq_true cc12)) rfl ?_
            refine xaj (xaz rfl) (fun h_ H_=>xbw rfl (decide_eq_true cc12) (v:=.bool (true)) rfl) rfl ?_
            refine xak ?_
            refine xcx rfl rfl ?_
            refine xbj ?_
            refine xav ?_
            refine xaj (xaz rfl) (fun h_ H_=>xaq (v:=.slice none 0 0) rfl) (tm':=_::_::_::_) rfl ?_
            refine xaj (xaz rfl) (fun h_ H_=>xaq (v:=.bool (false)) rfl) rfl ?_
            refine xak ?_
            refine xcj Tryz.func39 rfl (vs:=[.slice none 0 0,.bool (false)]) (fun h_ H_=>⟨.slice none 0 0,_,rfl,rfl,⟨.bool (false),_,rfl,rfl,rfl⟩⟩) (v:=.tuple #[.slice none 0 0,.bool (false)]) rfl ?_
            have hN:formB s=none:=by rw [formB,if_neg hf1,if_pos ⟨(s.drop (s.length-4)).getD k 0,gmem (by rw [← e4];omega),by rw [← e4];omega⟩]
            exact fun h_ H_=>K _ _ ⟨.slice none 0 0,[],by rw [hN];rfl,by rw [hN];exact OwnS.empty _ _,(H_.sub (List.nil_sublist _)).new⟩
          · refine xaj (xhz rfl rfl (decide_eq_false cc12)) (fun h_ H_=>xax (v:=.int .u8 (((((s.drop ((((((s.length:Nat):Int)-5)+1)).toNat)).getD k 0).toNat:Nat):Int))) rfl) rfl ?_
            refine xaj (xhz rfl rfl (decide_eq_false cc12)) (fun h_ H_=>xjx rfl rfl) (tm':=_::_::_::_::_::_::_::_::_::_::_::_::_::_::_::_::_::_::_::_::_::_::_::_::_::_::_::_::_::_::_::_::_::_::_::_::_::_::_::_::_::_::_) rfl ?_
            refine xaj (xaz rfl) (fun h_ H_=>xdq rfl (decide_eq_false cc12) (v:=.bool (decide (57<((((s.drop ((((((s.length:Nat):Int)-5)+1)).toNat)).getD k 0).toNat:Nat):Int)))) rfl) rfl ?_
            refine xak ?_
            by_cases cc13:57<((((s.drop ((((((s.length:Nat):Int)-5)+1)).toNat)).getD k 0).toNat:Nat):Int)
            · refine xcx rfl (decide_eq_true cc13) ?_
              refine xbj ?_
              refine xav ?_
              refine xaj (xaz rfl) (fun h_ H_=>xaq (v:=.slice none 0 0) rfl) rfl ?_
              refine xaj (xaz rfl) (fun h_ H_=>xaq (v:=.bool (false)) rfl) (tm':=_::_::_::_::_) rfl ?_
              refine xak ?_
              refine xcj Tryz.func39 rfl (vs:=[.slice none 0 0,.bool (false)]) (fun h_ H_=>⟨.slice none 0 0,_,rfl,rfl,⟨.bool (false),_,rfl,rfl,rfl⟩⟩) (v:=.tuple #[.slice none 0 0,.bool (false)]) rfl ?_
              have hN:formB s=none:=by rw [formB,if_neg hf1,if_pos ⟨(s.drop (s.length-4)).getD k 0,gmem (by rw [← e4];omega),by rw [← e4];omega⟩]
              exact fun h_ H_=>K _ _ ⟨.slice none 0 0,[],by rw [hN];rfl,by rw [hN];exact OwnS.empty _ _,(H_.sub (List.nil_sublist _)).new⟩
            · refine xcv rfl (decide_eq_false cc13) ?_
              refine xdz ?_
              refine xex ?_
              refine xav ?_
              refine xaj (xaz rfl) (fun h_ H_=>xev rfl rfl (n:=((k+1:Nat):Int)) (wr (by omega))) rfl ?_
              refine xaj (xaz rfl) (fun h_ H_=>xax (v:=.int .i64 (((k+1:Nat):Int))) rfl) rfl ?_
              refine xak ?_
              exact fun h_ H_=>IH10 _ _ (by omega) h_ ⟨k+1,rfl,(y_of rfl),(by omega),(ykx hd (by omega)),H_⟩
        · refine xcv rfl (decide_eq_false cc11) ?_
          refine xgk rfl ?_
          refine xbj ?_
          have hf2: ¬ ∃ c∈s.drop (s.length-4),c.toNat<48∨57<c.toNat:=by
            rintro ⟨c,hc,hz⟩
            have hd':=hd
            rw [e4] at hd'
            have hk3:(s.drop (s.length-4)).length≤k:=by rw [← e4];omega
            have hq:=gall (d:=0) (P:=fun c:UInt8=>48≤c.toNat∧c.toNat≤57) (fun i hi=>hd' i (by omega)) c hc
            omega
          refine xav ?_
          refine xaj (xaz rfl) (fun h_ H_=>xaq (v:=.slice none 0 0) rfl) (tm':=_::_::_::_::_::_::_::_::_) rfl ?_
          refine xak ?_
          refine xbj ?_
          refine xbj ?_
          refine xav ?_
          refine xaj (xaz rfl) (fun h_ H_=>xax (v:=sv s) rfl) rfl ?_
          refine xaj (xaz rfl) (fun h_ H_=>xax (v:=.int .i64 (((s.length:Nat):Int)-5)) rfl) rfl ?_
          refine xaj (xaz rfl) (fun h_ H_=>xvz (l:=s) (r:=((((s.length:Nat):Int)-5)).toNat) Tryz.underlying9 rfl (.some _ rfl (by omega)) (by omega)) (tm':=_::_::_::_::_::_::_::_::_::_::_::_::_::_::_::_::_::_::_::_::_::_::_::_::_::_::_::_::_::_::_::_::_::_::_::_::_::_::_::_::_::_::_::_::_::_::_::_) rfl ?_
          refine xaj (xaz rfl) (fun h_ H_=>xaq (v:=sv (s.take (((((s.length:Nat):Int)-5)).toNat))) rfl) rfl ?_
          refine xak ?_
          refine xeq ?_
          refine xhk (m₀:=_) (fun m_ tm_ h_=>∃ (out:List Pie) (rest:By) (w1:Value) (X1:Pcs),m_=rest.length∧(∃ y14:Nat→Value,tm_=[sv s,undef,(y14 2),(y14 3),.int .i64 (((s.length:Nat):Int)-5),undef,(y9 6),w1,sv rest,(y14 9),(y14 10),sv s,.int .i64 (((s.length:Nat):Int)),.int .i64 (((s.length:Nat):Int)-5),sv s,.int .i64 (((s.length:Nat):Int)),.bool (decide (1400<((s.length:Nat):Int))),.bool (decide (1400<((s.length:Nat):Int))),.int .i64 (((s.length:Nat):Int)-5),.bool (decide (((s.length:Nat):Int)-5<0)),.bool (decide (((s.length:Nat):Int)-5<0)),.bool (decide (((s.length:Nat):Int)-5<0)),sv s,.int .i64 (((s.length:Nat):Int)-5),.int .u8 ((((s.getD (((s.length:Nat):Int)-5).toNat 0).toNat:Nat):Int)),.bool (decide ((((s.getD (((s.length:Nat):Int)-5).toNat 0).toNat:Nat):Int)≠61)),.bool (decide ((((s.getD (((s.length:Nat):Int)-5).toNat 0).toNat:Nat):Int)≠61)),sv s,.int .i64 (((s.length:Nat):Int)-5),.int .i64 ((((s.length:Nat):Int)-5)+1),sv (s.drop ((((((s.length:Nat):Int)-5)+1)).toNat)),.slice a5 ((s.drop ((((((s.length:Nat):Int)-5)+1)).toNat)).length) cp6,.int .i64 ((((s.drop ((((((s.length:Nat):Int)-5)+1)).toNat)).length:Nat):Int)),.int .i64 (((k:Nat):Int)),.bool (decide (((k:Nat):Int)<(((s.drop ((((((s.length:Nat):Int)-5)+1)).toNat)).length:Nat):Int))),(y9 35),(y9 36),(y9 37),(y9 38),(y9 39),(y9 40),(y9 41),(y9 42),(y9 43),sv s,.int .i64 (((s.length:Nat):Int)-5),sv (s.take (((((s.length:Nat):Int)-5)).toNat)),(y14 47),(y14 48),(y14 49),(y14 50),(y14 51),(y14 52),(y14 53),(y14 54),(y14 55),(y14 56),(y14 57),(y14 58),(y14 59),(y14 60),(y14 61),(y14 62),(y14 63),(y14 64),(y14 65),(y14 66),(y14 67),(y14 68),(y14 69),(y14 70),(y14 71),(y14 72),(y14 73),(y14 74),(y14 75),(y14 76),(y14 77),(y14 78),(y14 79),(y14 80),(y14 81),(y14 82),(y14 83),(y14 84),(y14 85),(y14 86),(y14 87),(y14 88),(y14 89),(y14 90),(y14 91),(y14 92),(y14 93),(y14 94),(y14 95),(y14 96),(y14 97),(y14 98),(y14 99),(y14 100),undef])∧(2*out.length+rest.length≤1400)∧(prsS out rest=prsS [] (s.take (s.length-5)))∧(OwnS 112 2 w1 (pies out) X1)∧St h [] p4 h_ (([]:Pcs)++(X1++[]))) (fun h_ H_=>⟨[],_,(.slice none 0 0),[],rfl,(y_of rfl),(by simp only [List.length_nil,List.length_take];omega),(by rw [e5]),(OwnS.empty _ _),H_⟩) ?_
          intro m_ tm_ IH15
          refine xhq fun out=>xhq fun rest=>xhq fun w1=>xhq fun X1=>xdj fun hm_=>xdj fun ht_=>xdj fun hb=>xdj fun hR=>xdj fun o1=>?_
          subst hm_;obtain ⟨y14,ht_⟩:=ht_;subst ht_
          refine xbj ?_
          refine xbj ?_
          refine xav ?_
          refine xaj (xaz rfl) (fun h_ H_=>xax (v:=sv rest) rfl) rfl ?_
          refine xaj (xaz rfl) (fun h_ H_=>xzj (l:=rest) (m:=([]:List UInt8)) rfl rfl) (tm':=_::_::_::_::_::_::_::_::_::_::_::_::_::_::_::_::_::_::_::_::_::_::_::_::_::_::_::_::_::_::_::_::_::_::_::_::_::_::_::_::_::_::_::_::_::_::_::_::_::_) rfl ?_
          refine xak ?_
          by_cases cc16:rest=([]:List UInt8)
          · refine xcv rfl (xej (decide_eq_true cc16)) ?_
            refine xgk rfl ?_
            refine xbj ?_
            refine xav ?_
            refine xaj (xaz rfl) (fun h_ H_=>xax (v:=w1) rfl) rfl ?_
            refine xaj (xaz rfl) (fun h_ H_=>xaq (v:=w1) rfl) rfl ?_
            refine xaj (xaz rfl) (fun h_ H_=>xaq (v:=.bool (true)) rfl) (tm':=_::_::_::_::_) rfl ?_
            refine xak ?_
            refine xcj Tryz.func39 rfl (vs:=[w1,.bool (true)]) (fun h_ H_=>⟨w1,_,rfl,rfl,⟨.bool (true),_,rfl,rfl,rfl⟩⟩) (v:=.tuple #[w1,.bool (true)]) rfl ?_
            have hr0:rest=[]:=‹rest=[]›
            have hS:formB s=some out:=by rw [formB,if_neg hf1,if_neg hf2,← hR,hr0,wmj]
            exact fun h_ H_=>K _ _ ⟨_,_,by rw [hS];rfl,by rw [hS];exact o1,by simpa using H_.dropA.new⟩
          · refine xcx rfl (xek (decide_eq_false cc16)) ?_
            refine xdz ?_
            refine xeq ?_
            refine xbj ?_
            refine xbj ?_
            have hne:=List.length_pos_iff.2 ‹¬ rest=[]›
            refine xav ?_
            refine xaj (xaz rfl) (fun h_ H_=>xax (v:=sv rest) rfl) rfl ?_
            refine xaj (xaz rfl) (fun h_ H_=>xkz (l:=rest) Tryz.underlying9 rfl) rfl ?_
            refine xaj (xaz rfl) (fun h_ H_=>xfk rfl rfl) (tm':=_::_::_::_::_::_::_::_::_::_::_::_::_::_::_::_::_::_::_::_::_::_::_::_::_::_::_::_::_::_::_::_::_::_::_::_::_::_::_::_::_::_::_::_::_::_::_::_::_::_::_::_::_) rfl ?_
            refine xaj (xaz rfl) (fun h_ H_=>xax (v:=.bool (decide (((rest.length:Nat):Int)<2))) rfl) rfl ?_
            by_cases cc17:((rest.length:Nat):Int)<2
            · refine xck (xhx rfl rfl (decide_eq_true cc17)) rfl ?_
              refine xck (xhx rfl rfl (decide_eq_true cc17)) (tm':=_::_::_::_::_::_::_::_::_::_::_::_::_::_::_::_::_::_::_::_::_::_::_::_::_::_::_::_::_::_::_::_::_::_::_::_::_::_::_::_::_::_::_::_::_::_::_::_::_::_::_::_::_::_::_::_) rfl ?_
              refine xck (xhx rfl rfl (decide_eq_true cc17)) rfl ?_
              refine xck (xhx rfl rfl (decide_eq_true cc17)) rfl ?_
              refine xaj (xaz rfl) (fun h_ H_=>xbw rfl (decide_eq_true cc17) (v:=.bool (true)) rfl) (tm':=_::_::_::_::_::_::_::_::_::_::_::_::_::_::_::_::_::_::_::_::_::_::_::_::_::_::_::_::_::_::_::_::_::_::_::_::_::_::_::_::_::_::_::_::_::_::_::_::_::_::_::_::_::_::_::_::_::_::_) rfl ?_
              refine xaj (xaz rfl) (fun h_ H_=>xax (v:=.bool (true)) rfl) rfl ?_
              refine xck (xhx rfl rfl rfl) rfl ?_
              refine xck (xhx rfl rfl rfl) (tm':=_::_::_::_::_::_::_::_::_::_::_::_::_::_::_::_::_::_::_::_::_::_::_::_::_::_::_::_::_::_::_::_::_::_::_::_::_::_::_::_::_::_::_::_::_::_::_::_::_::_::_::_::_::_::_::_::_::_::_::_::_::_) rfl ?_
              refine xck (xhx rfl rfl rfl) rfl ?_
              refine xck (xhx rfl rfl rfl) rfl ?_
              refine xaj (xaz rfl) (fun h_ H_=>xbw rfl rfl (v:=.bool (true)) rfl) (tm':=_::_::_::_::_::_::_::_::_::_::_::_::_::_::_::_::_::_::_::_::_::_::_::_::_::_::_::_::_::_::_::_::_::_::_::_::_::_::_::_::_::_::_::_::_::_::_::_::_::_::_::_::_::_::_::_::_::_::_::_::_::_::_::_::_) rfl ?_
              refine xak ?_
              refine xcx rfl rfl ?_
              refine xbj ?_
              refine xav ?_
              refine xaj (xaz rfl) (fun h_ H_=>xaq (v:=.slice none 0 0) rfl) rfl ?_
              refine xaj (xaz rfl) (fun h_ H_=>xaq (v:=.bool (false)) rfl) rfl ?_
              refine xak ?_
              refine xcj Tryz.func39 rfl (vs:=[.slice none 0 0,.bool (false)]) (fun h_ H_=>⟨.slice none 0 0,_,rfl,rfl,⟨.bool (false),_,rfl,rfl,rfl⟩⟩) (v:=.tuple #[.slice none 0 0,.bool (false)]) rfl ?_
              have hN:formB s=none:=by
                rw [formB,if_neg hf1,if_neg hf2,← hR]
                refine ydq (List.length_pos_iff.1 hne) ?_
                first | exact xok (.inl (by omega)) | exact xok (.inr (.inl (by assumption))) | exact xok (.inr (.inr (by assumption))) | (rw [hp2,if_neg ‹_›,if_neg (by omega),if_pos (by omega)])
              exact fun h_ H_=>K _ _ ⟨.slice none 0 0,[],by rw [hN];rfl,by rw [hN];exact OwnS.empty _ _,(H_.sub (List.nil_sublist _)).new⟩
            · refine xaj (xhz rfl rfl (decide_eq_false cc17)) (fun h_ H_=>xax (v:=sv rest) rfl) (tm':=_::_::_::_::_::_::_::_::_::_::_::_::_::_::_::_::_::_::_::_::_::_::_::_::_::_::_::_::_::_::_::_::_::_::_::_::_::_::_::_::_::_::_::_::_::_::_::_::_::_::_::_::_::_::_) rfl ?_
              refine xaj (xhz rfl rfl (decide_eq_false cc17)) (fun h_ H_=>xiq (l:=rest) (i:=0) Tryz.underlying9 rfl rfl (by omega)) rfl ?_
              refine xcw (xhz rfl rfl (decide_eq_false cc17)) (first:=[]) (cap:=[]) rfl rfl fC67 (fun h_ H_=>c67 .lone _ ((((rest.getD 0 0).toNat:Nat):Int))) rfl ?_
              refine xaj (xhz rfl rfl (decide_eq_false cc17)) (fun h_ H_=>xfw rfl) (tm':=_::_::_::_::_::_::_::_::_::_::_::_::_::_::_::_::_::_::_::_::_::_::_::_::_::_::_::_::_::_::_::_::_::_::_::_::_::_::_::_::_::_::_::_::_::_::_::_::_::_::_::_::_::_::_::_::_::_) rfl ?_
              refine xaj (xaz rfl) (fun h_ H_=>xdq rfl (decide_eq_false cc17) (v:=.bool (!(decide (65≤(((rest.getD 0 0).toNat:Nat):Int)∧(((rest.getD 0 0).toNat:Nat):Int)≤90)))) rfl) rfl ?_
              refine xaj (xaz rfl) (fun h_ H_=>xax (v:=.bool (!(decide (65≤(((rest.getD 0 0).toNat:Nat):Int)∧(((rest.getD 0 0).toNat:Nat):Int)≤90)))) rfl) rfl ?_
              by_cases cc18:65≤(((rest.getD 0 0).toNat:Nat):Int)∧(((rest.getD 0 0).toNat:Nat):Int)≤90
              · refine xaj (xhz rfl rfl (xej (decide_eq_true cc18))) (fun h_ H_=>xax (v:=sv rest) rfl) (tm':=_::_::_::_::_::_::_::_::_::_::_::_::_::_::_::_::_::_::_::_::_::_::_::_::_::_::_::_::_::_::_::_::_::_::_::_::_::_::_::_::_::_::_::_::_::_::_::_::_::_::_::_::_::_::_::_::_::_::_::_::_) rfl ?_
                refine xaj (xhz rfl rfl (xej (decide_eq_true cc18))) (fun h_ H_=>xiq (l:=rest) (i:=1) Tryz.underlying9 rfl rfl (by omega)) rfl ?_
                refine xcw (xhz rfl rfl (xej (decide_eq_true cc18))) (first:=[]) (cap:=[]) rfl rfl fC67 (fun h_ H_=>c67 .lone _ ((((rest.getD 1 0).toNat:Nat):Int))) rfl ?_
                refine xaj (xhz rfl rfl (xej (decide_eq_true cc18))) (fun h_ H_=>xfw rfl) (tm':=_::_::_::_::_::_::_::_::_::_::_::_::_::_::_::_::_::_::_::_::_::_::_::_::_::_::_::_::_::_::_::_::_::_::_::_::_::_::_::_::_::_::_::_::_::_::_::_::_::_::_::_::_::_::_::_::_::_::_::_::_::_::_::_) rfl ?_
                refine xaj (xaz rfl) (fun h_ H_=>xdq rfl (xej (decide_eq_true cc18)) (v:=.bool (!(decide (65≤(((rest.getD 1 0).toNat:Nat):Int)∧(((rest.getD 1 0).toNat:Nat):Int)≤90)))) rfl) rfl ?_
                refine xak ?_
                by_cases cc19:65≤(((rest.getD 1 0).toNat:Nat):Int)∧(((rest.getD 1 0).toNat:Nat):Int)≤90
                · refine xcv rfl (xej (decide_eq_true cc19)) ?_
                  refine xdz ?_
                  refine xbj ?_
                  have hp2:=wij (s:=rest) (by omega) (by assumption) (by assumption)
                  obtain ⟨Gb22,hG11_⟩:=sk1 (fun (v_:Value) (x_:Pcs) (b22:Nat)=>v_= .pointer (some ⟨b22,0,none⟩)∧x_=(([(b22,.cells #[.int .i64 0,.int .i64 0] 112 (0,0))]:Pcs)++[]))
                  refine yoj (xqq (C:=[]) (A:=([]:Pcs)) 12 [] [12] [12,11] [0,1,2,3,4,5,6,7,8,9,10] (fun i_=>match i_ with | 12=>X1 | _=>[]) (fun _=>[]) (fun i_=>match i_ with | 0=>[] | 1=>[0] | 2=>[1] | 3=>[2] | 4=>[3] | 5=>[] | 6=>[5] | 7=>[6] | 8=>[7] | 9=>[4,8] | 10=>[9] | 11=>[] | _=>[]) (fun i_ val_ pc_ v_ x_=>match i_ with | 0=>v_=sv rest∧x_=[] | 1=>v_= .int .u8 ((((rest.getD 0 0).toNat:Nat):Int))∧x_=[] | 2=>v_= .int .u8 ((((rest.getD 0 0).toNat:Nat):Int)-65)∧x_=[] | 3=>v_= .int .i64 ((((rest.getD 0 0).toNat:Nat):Int)-65)∧x_=[] | 4=>v_= .int .i64 (((((rest.getD 0 0).toNat:Nat):Int)-65)*26)∧x_=[] | 5=>v_=sv rest∧x_=[] | 6=>v_= .int .u8 ((((rest.getD 1 0).toNat:Nat):Int))∧x_=[] | 7=>v_= .int .u8 ((((rest.getD 1 0).toNat:Nat):Int)-65)∧x_=[] | 8=>v_= .int .i64 ((((rest.getD 1 0).toNat:Nat):Int)-65)∧x_=[] | 9=>v_= .int .i64 ((((((rest.getD 0 0).toNat:Nat):Int)-65)*26)+((((rest.getD 1 0).toNat:Nat):Int)-65))∧x_=[] | 10=>v_= .agg #[.int .i64 ((((((rest.getD 0 0).toNat:Nat):Int)-65)*26)+((((rest.getD 1 0).toNat:Nat):Int)-65)),.int .i64 (-1)]∧x_=[] | 11=>∃ b22:Nat,v_= .pointer (some ⟨b22,0,none⟩)∧x_=(([(b22,.cells #[.int .i64 0,.int .i64 0] 112 (0,0))]:Pcs)++[]) | _=>True) (fun val20=>[sv s,undef,(y14 2),(y14 3),.int .i64 (((s.length:Nat):Int)-5),undef,(y9 6),w1,sv rest,(val20 11),(y14 10),sv s,.int .i64 (((s.length:Nat):Int)),.int .i64 (((s.length:Nat):Int)-5),sv s,.int .i64 (((s.length:Nat):Int)),.bool (decide (1400<((s.length:Nat):Int))),.bool (decide (1400<((s.length:Nat):Int))),.int .i64 (((s.length:Nat):Int)-5),.bool (decide (((s.length:Nat):Int)-5<0)),.bool (decide (((s.length:Nat):Int)-5<0)),.bool (decide (((s.length:Nat):Int)-5<0)),sv s,.int .i64 (((s.length:Nat):Int)-5),.int .u8 ((((s.getD (((s.length:Nat):Int)-5).toNat 0).toNat:Nat):Int)),.bool (decide ((((s.getD (((s.length:Nat):Int)-5).toNat 0).toNat:Nat):Int)≠61)),.bool (decide ((((s.getD (((s.length:Nat):Int)-5).toNat 0).toNat:Nat):Int)≠61)),sv s,.int .i64 (((s.length:Nat):Int)-5),.int .i64 ((((s.length:Nat):Int)-5)+1),sv (s.drop ((((((s.length:Nat):Int)-5)+1)).toNat)),.slice a5 ((s.drop ((((((s.length:Nat):Int)-5)+1)).toNat)).length) cp6,.int .i64 ((((s.drop ((((((s.length:Nat):Int)-5)+1)).toNat)).length:Nat):Int)),.int .i64 (((k:Nat):Int)),.bool (decide (((k:Nat):Int)<(((s.drop ((((((s.length:Nat):Int)-5)+1)).toNat)).length:Nat):Int))),(y9 35),(y9 36),(y9 37),(y9 38),(y9 39),(y9 40),(y9 41),(y9 42),(y9 43),sv s,.int .i64 (((s.length:Nat):Int)-5),sv (s.take (((((s.length:Nat):Int)-5)).toNat)),sv rest,.bool (!decide (rest=([]:List UInt8))),sv rest,.int .i64 (((rest.length:Nat):Int)),.bool (decide (((rest.length:Nat):Int)<2)),.bool (decide (((rest.length:Nat):Int)<2)),sv rest,.int .u8 ((((rest.getD 0 0).toNat:Nat):Int)),.bool (decide (65≤(((rest.getD 0 0).toNat:Nat):Int)∧(((rest.getD 0 0).toNat:Nat):Int)≤90)),.bool (!(decide (65≤(((rest.getD 0 0).toNat:Nat):Int)∧(((rest.getD 0 0).toNat:Nat):Int)≤90))),.bool (!(decide (65≤(((rest.getD 0 0).toNat:Nat):Int)∧(((rest.getD 0 0).toNat:Nat):Int)≤90))),.bool (!(decide (65≤(((rest.getD 0 0).toNat:Nat):Int)∧(((rest.getD 0 0).toNat:Nat):Int)≤90))),sv rest,.int .u8 ((((rest.getD 1 0).toNat:Nat):Int)),.bool (decide (65≤(((rest.getD 1 0).toNat:Nat):Int)∧(((rest.getD 1 0).toNat:Nat):Int)≤90)),.bool (!(decide (65≤(((rest.getD 1 0).toNat:Nat):Int)∧(((rest.getD 1 0).toNat:Nat):Int)≤90))),.bool (!(decide (65≤(((rest.getD 1 0).toNat:Nat):Int)∧(((rest.getD 1 0).toNat:Nat):Int)≤90))),(val20 0),(val20 1),(val20 2),(val20 3),(val20 4),(val20 5),(val20 6),(val20 7),(val20 8),(val20 9),(val20 10),(y14 75),(y14 76),(y14 77),(y14 78),(y14 79),(y14 80),(y14 81),(y14 82),(y14 83),(y14 84),(y14 85),(y14 86),(y14 87),(y14 88),(y14 89),(y14 90),(y14 91),(y14 92),(y14 93),(y14 94),(y14 95),(y14 96),(y14 97),(y14 98),(y14 99),(y14 100),undef]) mixed (by kernel_rfl) (Nat.le_of_ble_eq_true rfl) (by kernel_rfl) (by kernel_rfl) (by kernel_rfl) (fun _ _=>⟨fun _ _ h=>h.2,⟨fun _ _ h=>h.2,⟨fun _ _ h=>h.2,⟨fun _ _ h=>h.2,⟨fun _ _ h=>h.2,⟨fun _ _ h=>h.2,⟨fun _ _ h=>h.2,⟨fun _ _ h=>h.2,⟨fun _ _ h=>h.2,⟨fun _ _ h=>h.2,⟨fun _ _ h=>h.2,trivial⟩⟩⟩⟩⟩⟩⟩⟩⟩⟩⟩) (fun _=>by kernel_rfl) (by kernel_rfl) ?_ ?_) (fun h_ H_=>St.swap (A:=([]:Pcs)) (U:=(X1++[])) H_)
                  · refine xcq rfl (xew ?_) ?_
                    · intro val20 pc21 hQ_ hX_
                      obtain ⟨q_,hq0_⟩: ∃ q_:Value→Pcs→Prop,q_=(fun v_ x_=>v_=sv rest∧x_=[]):=⟨_,rfl⟩
                      refine ⟨[sv s,undef,(y14 2),(y14 3),.int .i64 (((s.length:Nat):Int)-5),undef,(y9 6),w1,sv rest,(val20 11),(y14 10),sv s,.int .i64 (((s.length:Nat):Int)),.int .i64 (((s.length:Nat):Int)-5),sv s,.int .i64 (((s.length:Nat):Int)),.bool (decide (1400<((s.length:Nat):Int))),.bool (decide (1400<((s.length:Nat):Int))),.int .i64 (((s.length:Nat):Int)-5),.bool (decide (((s.length:Nat):Int)-5<0)),.bool (decide (((s.length:Nat):Int)-5<0)),.bool (decide (((s.length:Nat):Int)-5<0)),sv s,.int .i64 (((s.length:Nat):Int)-5),.int .u8 ((((s.getD (((s.length:Nat):Int)-5).toNat 0).toNat:Nat):Int)),.bool (decide ((((s.getD (((s.length:Nat):Int)-5).toNat 0).toNat:Nat):Int)≠61)),.bool (decide ((((s.getD (((s.length:Nat):Int)-5).toNat 0).toNat:Nat):Int)≠61)),sv s,.int .i64 (((s.length:Nat):Int)-5),.int .i64 ((((s.length:Nat):Int)-5)+1),sv (s.drop ((((((s.length:Nat):Int)-5)+1)).toNat)),.slice a5 ((s.drop ((((((s.length:Nat):Int)-5)+1)).toNat)).length) cp6,.int .i64 ((((s.drop ((((((s.length:Nat):Int)-5)+1)).toNat)).length:Nat):Int)),.int .i64 (((k:Nat):Int)),.bool (decide (((k:Nat):Int)<(((s.drop ((((((s.length:Nat):Int)-5)+1)).toNat)).length:Nat):Int))),(y9 35),(y9 36),(y9 37),(y9 38),(y9 39),(y9 40),(y9 41),(y9 42),(y9 43),sv s,.int .i64 (((s.length:Nat):Int)-5),sv (s.take (((((s.length:Nat):Int)-5)).toNat)),sv rest,.bool (!decide (rest=([]:List UInt8))),sv rest,.int .i64 (((rest.length:Nat):Int)),.bool (decide (((rest.length:Nat):Int)<2)),.bool (decide (((rest.length:Nat):Int)<2)),sv rest,.int .u8 ((((rest.getD 0 0).toNat:Nat):Int)),.bool (decide (65≤(((rest.getD 0 0).toNat:Nat):Int)∧(((rest.getD 0 0).toNat:Nat):Int)≤90)),.bool (!(decide (65≤(((rest.getD 0 0).toNat:Nat):Int)∧(((rest.getD 0 0).toNat:Nat):Int)≤90))),.bool (!(decide (65≤(((rest.getD 0 0).toNat:Nat):Int)∧(((rest.getD 0 0).toNat:Nat):Int)≤90))),.bool (!(decide (65≤(((rest.getD 0 0).toNat:Nat):Int)∧(((rest.getD 0 0).toNat:Nat):Int)≤90))),sv rest,.int .u8 ((((rest.getD 1 0).toNat:Nat):Int)),.bool (decide (65≤(((rest.getD 1 0).toNat:Nat):Int)∧(((rest.getD 1 0).toNat:Nat):Int)≤90)),.bool (!(decide (65≤(((rest.getD 1 0).toNat:Nat):Int)∧(((rest.getD 1 0).toNat:Nat):Int)≤90))),.bool (!(decide (65≤(((rest.getD 1 0).toNat:Nat):Int)∧(((rest.getD 1 0).toNat:Nat):Int)≤90))),(val20 0),(val20 1),(val20 2),(val20 3),(val20 4),(val20 5),(val20 6),(val20 7),(val20 8),(val20 9),(val20 10),(y14 75),(y14 76),(y14 77),(y14 78),(y14 79),(y14 80),(y14 81),(y14 82),(y14 83),(y14 84),(y14 85),(y14 86),(y14 87),(y14 88),(y14 89),(y14 90),(y14 91),(y14 92),(y14 93),(y14 94),(y14 95),(y14 96),(y14 97),(y14 98),(y14 99),(y14 100),undef],[],q_,rfl,rfl,(fun _ _ z_=>by subst hq0_;exact z_),?_⟩
                      subst hq0_
                      exact xfx (xaz rfl) (fun _ h_ H_=>xax (v:=sv rest) rfl) ⟨rfl,rfl⟩
                    refine xcq rfl (xew ?_) ?_
                    · intro val20 pc21 hQ_ hX_
                      have e0_:val20 0=sv rest:=(hQ_ 0 rfl).1
                      obtain ⟨q_,hq0_⟩: ∃ q_:Value→Pcs→Prop,q_=(fun v_ x_=>v_= .int .u8 ((((rest.getD 0 0).toNat:Nat):Int))∧x_=[]):=⟨_,rfl⟩
                      refine ⟨[sv s,undef,(y14 2),(y14 3),.int .i64 (((s.length:Nat):Int)-5),undef,(y9 6),w1,sv rest,(val20 11),(y14 10),sv s,.int .i64 (((s.length:Nat):Int)),.int .i64 (((s.length:Nat):Int)-5),sv s,.int .i64 (((s.length:Nat):Int)),.bool (decide (1400<((s.length:Nat):Int))),.bool (decide (1400<((s.length:Nat):Int))),.int .i64 (((s.length:Nat):Int)-5),.bool (decide (((s.length:Nat):Int)-5<0)),.bool (decide (((s.length:Nat):Int)-5<0)),.bool (decide (((s.length:Nat):Int)-5<0)),sv s,.int .i64 (((s.length:Nat):Int)-5),.int .u8 ((((s.getD (((s.length:Nat):Int)-5).toNat 0).toNat:Nat):Int)),.bool (decide ((((s.getD (((s.length:Nat):Int)-5).toNat 0).toNat:Nat):Int)≠61)),.bool (decide ((((s.getD (((s.length:Nat):Int)-5).toNat 0).toNat:Nat):Int)≠61)),sv s,.int .i64 (((s.length:Nat):Int)-5),.int .i64 ((((s.length:Nat):Int)-5)+1),sv (s.drop ((((((s.length:Nat):Int)-5)+1)).toNat)),.slice a5 ((s.drop ((((((s.length:Nat):Int)-5)+1)).toNat)).length) cp6,.int .i64 ((((s.drop ((((((s.length:Nat):Int)-5)+1)).toNat)).length:Nat):Int)),.int .i64 (((k:Nat):Int)),.bool (decide (((k:Nat):Int)<(((s.drop ((((((s.length:Nat):Int)-5)+1)).toNat)).length:Nat):Int))),(y9 35),(y9 36),(y9 37),(y9 38),(y9 39),(y9 40),(y9 41),(y9 42),(y9 43),sv s,.int .i64 (((s.length:Nat):Int)-5),sv (s.take (((((s.length:Nat):Int)-5)).toNat)),sv rest,.bool (!decide (rest=([]:List UInt8))),sv rest,.int .i64 (((rest.length:Nat):Int)),.bool (decide (((rest.length:Nat):Int)<2)),.bool (decide (((rest.length:Nat):Int)<2)),sv rest,.int .u8 ((((rest.getD 0 0).toNat:Nat):Int)),.bool (decide (65≤(((rest.getD 0 0).toNat:Nat):Int)∧(((rest.getD 0 0).toNat:Nat):Int)≤90)),.bool (!(decide (65≤(((rest.getD 0 0).toNat:Nat):Int)∧(((rest.getD 0 0).toNat:Nat):Int)≤90))),.bool (!(decide (65≤(((rest.getD 0 0).toNat:Nat):Int)∧(((rest.getD 0 0).toNat:Nat):Int)≤90))),.bool (!(decide (65≤(((rest.getD 0 0).toNat:Nat):Int)∧(((rest.getD 0 0).toNat:Nat):Int)≤90))),sv rest,.int .u8 ((((rest.getD 1 0).toNat:Nat):Int)),.bool (decide (65≤(((rest.getD 1 0).toNat:Nat):Int)∧(((rest.getD 1 0).toNat:Nat):Int)≤90)),.bool (!(decide (65≤(((rest.getD 1 0).toNat:Nat):Int)∧(((rest.getD 1 0).toNat:Nat):Int)≤90))),.bool (!(decide (65≤(((rest.getD 1 0).toNat:Nat):Int)∧(((rest.getD 1 0).toNat:Nat):Int)≤90))),sv rest,(val20 1),(val20 2),(val20 3),(val20 4),(val20 5),(val20 6),(val20 7),(val20 8),(val20 9),(val20 10),(y14 75),(y14 76),(y14 77),(y14 78),(y14 79),(y14 80),(y14 81),(y14 82),(y14 83),(y14 84),(y14 85),(y14 86),(y14 87),(y14 88),(y14 89),(y14 90),(y14 91),(y14 92),(y14 93),(y14 94),(y14 95),(y14 96),(y14 97),(y14 98),(y14 99),(y14 100),undef],[],q_,(by simp only [e0_]),rfl,(fun _ _ z_=>by subst hq0_;exact z_),?_⟩
                      subst hq0_
                      exact xfx (xaz rfl) (fun _ h_ H_=>xiq (l:=rest) (i:=0) Tryz.underlying9 rfl rfl (by omega)) ⟨rfl,rfl⟩
                    refine xcq rfl (xew ?_) ?_
                    · intro val20 pc21 hQ_ hX_
                      have e1_:val20 1= .int .u8 ((((rest.getD 0 0).toNat:Nat):Int)):=(hQ_ 1 rfl).1
                      obtain ⟨q_,hq0_⟩: ∃ q_:Value→Pcs→Prop,q_=(fun v_ x_=>v_= .int .u8 ((((rest.getD 0 0).toNat:Nat):Int)-65)∧x_=[]):=⟨_,rfl⟩
                      refine ⟨[sv s,undef,(y14 2),(y14 3),.int .i64 (((s.length:Nat):Int)-5),undef,(y9 6),w1,sv rest,(val20 11),(y14 10),sv s,.int .i64 (((s.length:Nat):Int)),.int .i64 (((s.length:Nat):Int)-5),sv s,.int .i64 (((s.length:Nat):Int)),.bool (decide (1400<((s.length:Nat):Int))),.bool (decide (1400<((s.length:Nat):Int))),.int .i64 (((s.length:Nat):Int)-5),.bool (decide (((s.length:Nat):Int)-5<0)),.bool (decide (((s.length:Nat):Int)-5<0)),.bool (decide (((s.length:Nat):Int)-5<0)),sv s,.int .i64 (((s.length:Nat):Int)-5),.int .u8 ((((s.getD (((s.length:Nat):Int)-5).toNat 0).toNat:Nat):Int)),.bool (decide ((((s.getD (((s.length:Nat):Int)-5).toNat 0).toNat:Nat):Int)≠61)),.bool (decide ((((s.getD (((s.length:Nat):Int)-5).toNat 0).toNat:Nat):Int)≠61)),sv s,.int .i64 (((s.length:Nat):Int)-5),.int .i64 ((((s.length:Nat):Int)-5)+1),sv (s.drop ((((((s.length:Nat):Int)-5)+1)).toNat)),.slice a5 ((s.drop ((((((s.length:Nat):Int)-5)+1)).toNat)).length) cp6,.int .i64 ((((s.drop ((((((s.length:Nat):Int)-5)+1)).toNat)).length:Nat):Int)),.int .i64 (((k:Nat):Int)),.bool (decide (((k:Nat):Int)<(((s.drop ((((((s.length:Nat):Int)-5)+1)).toNat)).length:Nat):Int))),(y9 35),(y9 36),(y9 37),(y9 38),(y9 39),(y9 40),(y9 41),(y9 42),(y9 43),sv s,.int .i64 (((s.length:Nat):Int)-5),sv (s.take (((((s.length:Nat):Int)-5)).toNat)),sv rest,.bool (!decide (rest=([]:List UInt8))),sv rest,.int .i64 (((rest.length:Nat):Int)),.bool (decide (((rest.length:Nat):Int)<2)),.bool (decide (((rest.length:Nat):Int)<2)),sv rest,.int .u8 ((((rest.getD 0 0).toNat:Nat):Int)),.bool (decide (65≤(((rest.getD 0 0).toNat:Nat):Int)∧(((rest.getD 0 0).toNat:Nat):Int)≤90)),.bool (!(decide (65≤(((rest.getD 0 0).toNat:Nat):Int)∧(((rest.getD 0 0).toNat:Nat):Int)≤90))),.bool (!(decide (65≤(((rest.getD 0 0).toNat:Nat):Int)∧(((rest.getD 0 0).toNat:Nat):Int)≤90))),.bool (!(decide (65≤(((rest.getD 0 0).toNat:Nat):Int)∧(((rest.getD 0 0).toNat:Nat):Int)≤90))),sv rest,.int .u8 ((((rest.getD 1 0).toNat:Nat):Int)),.bool (decide (65≤(((rest.getD 1 0).toNat:Nat):Int)∧(((rest.getD 1 0).toNat:Nat):Int)≤90)),.bool (!(decide (65≤(((rest.getD 1 0).toNat:Nat):Int)∧(((rest.getD 1 0).toNat:Nat):Int)≤90))),.bool (!(decide (65≤(((rest.getD 1 0).toNat:Nat):Int)∧(((rest.getD 1 0).toNat:Nat):Int)≤90))),(val20 0),.int .u8 ((((rest.getD 0 0).toNat:Nat):Int)),(val20 2),(val20 3),(val20 4),(val20 5),(val20 6),(val20 7),(val20 8),(val20 9),(val20 10),(y14 75),(y14 76),(y14 77),(y14 78),(y14 79),(y14 80),(y14 81),(y14 82),(y14 83),(y14 84),(y14 85),(y14 86),(y14 87),(y14 88),(y14 89),(y14 90),(y14 91),(y14 92),(y14 93),(y14 94),(y14 95),(y14 96),(y14 97),(y14 98),(y14 99),(y14 100),undef],[],q_,(by simp only [e1_]),rfl,(fun _ _ z_=>by subst hq0_;exact z_),?_⟩
                      subst hq0_
                      exact xfx (xaz rfl) (fun _ h_ H_=>xlv rfl rfl (wr8 (by omega))) ⟨rfl,rfl⟩
                    refine xcq rfl (xew ?_) ?_
                    · intro val20 pc21 hQ_ hX_
                      have e2_:val20 2= .int .u8 ((((rest.getD 0 0).toNat:Nat):Int)-65):=(hQ_ 2 rfl).1
                      obtain ⟨q_,hq0_⟩: ∃ q_:Value→Pcs→Prop,q_=(fun v_ x_=>v_= .int .i64 ((((rest.getD 0 0).toNat:Nat):Int)-65)∧x_=[]):=⟨_,rfl⟩
                      refine ⟨[sv s,undef,(y14 2),(y14 3),.int .i64 (((s.length:Nat):Int)-5),undef,(y9 6),w1,sv rest,(val20 11),(y14 10),sv s,.int .i64 (((s.length:Nat):Int)),.int .i64 (((s.length:Nat):Int)-5),sv s,.int .i64 (((s.length:Nat):Int)),.bool (decide (1400<((s.length:Nat):Int))),.bool (decide (1400<((s.length:Nat):Int))),.int .i64 (((s.length:Nat):Int)-5),.bool (decide (((s.length:Nat):Int)-5<0)),.bool (decide (((s.length:Nat):Int)-5<0)),.bool (decide (((s.length:Nat):Int)-5<0)),sv s,.int .i64 (((s.length:Nat):Int)-5),.int .u8 ((((s.getD (((s.length:Nat):Int)-5).toNat 0).toNat:Nat):Int)),.bool (decide ((((s.getD (((s.length:Nat):Int)-5).toNat 0).toNat:Nat):Int)≠61)),.bool (decide ((((s.getD (((s.length:Nat):Int)-5).toNat 0).toNat:Nat):Int)≠61)),sv s,.int .i64 (((s.length:Nat):Int)-5),.int .i64 ((((s.length:Nat):Int)-5)+1),sv (s.drop ((((((s.length:Nat):Int)-5)+1)).toNat)),.slice a5 ((s.drop ((((((s.length:Nat):Int)-5)+1)).toNat)).length) cp6,.int .i64 ((((s.drop ((((((s.length:Nat):Int)-5)+1)).toNat)).length:Nat):Int)),.int .i64 (((k:Nat):Int)),.bool (decide (((k:Nat):Int)<(((s.drop ((((((s.length:Nat):Int)-5)+1)).toNat)).length:Nat):Int))),(y9 35),(y9 36),(y9 37),(y9 38),(y9 39),(y9 40),(y9 41),(y9 42),(y9 43),sv s,.int .i64 (((s.length:Nat):Int)-5),sv (s.take (((((s.length:Nat):Int)-5)).toNat)),sv rest,.bool (!decide (rest=([]:List UInt8))),sv rest,.int .i64 (((rest.length:Nat):Int)),.bool (decide (((rest.length:Nat):Int)<2)),.bool (decide (((rest.length:Nat):Int)<2)),sv rest,.int .u8 ((((rest.getD 0 0).toNat:Nat):Int)),.bool (decide (65≤(((rest.getD 0 0).toNat:Nat):Int)∧(((rest.getD 0 0).toNat:Nat):Int)≤90)),.bool (!(decide (65≤(((rest.getD 0 0).toNat:Nat):Int)∧(((rest.getD 0 0).toNat:Nat):Int)≤90))),.bool (!(decide (65≤(((rest.getD 0 0).toNat:Nat):Int)∧(((rest.getD 0 0).toNat:Nat):Int)≤90))),.bool (!(decide (65≤(((rest.getD 0 0).toNat:Nat):Int)∧(((rest.getD 0 0).toNat:Nat):Int)≤90))),sv rest,.int .u8 ((((rest.getD 1 0).toNat:Nat):Int)),.bool (decide (65≤(((rest.getD 1 0).toNat:Nat):Int)∧(((rest.getD 1 0).toNat:Nat):Int)≤90)),.bool (!(decide (65≤(((rest.getD 1 0).toNat:Nat):Int)∧(((rest.getD 1 0).toNat:Nat):Int)≤90))),.bool (!(decide (65≤(((rest.getD 1 0).toNat:Nat):Int)∧(((rest.getD 1 0).toNat:Nat):Int)≤90))),(val20 0),(val20 1),.int .u8 ((((rest.getD 0 0).toNat:Nat):Int)-65),(val20 3),(val20 4),(val20 5),(val20 6),(val20 7),(val20 8),(val20 9),(val20 10),(y14 75),(y14 76),(y14 77),(y14 78),(y14 79),(y14 80),(y14 81),(y14 82),(y14 83),(y14 84),(y14 85),(y14 86),(y14 87),(y14 88),(y14 89),(y14 90),(y14 91),(y14 92),(y14 93),(y14 94),(y14 95),(y14 96),(y14 97),(y14 98),(y14 99),(y14 100),undef],[],q_,(by simp only [e2_]),rfl,(fun _ _ z_=>by subst hq0_;exact z_),?_⟩
                      subst hq0_
                      exact xfx (xaz rfl) (fun _ h_ H_=>xoz ⟨_,Tryz.underlying5⟩ Tryz.underlying3 rfl (n:=(((rest.getD 0 0).toNat:Nat):Int)-65) (wr (by omega))) ⟨rfl,rfl⟩
                    refine xcq rfl (xew ?_) ?_
                    · intro val20 pc21 hQ_ hX_
                      have e3_:val20 3= .int .i64 ((((rest.getD 0 0).toNat:Nat):Int)-65):=(hQ_ 3 rfl).1
                      obtain ⟨q_,hq0_⟩: ∃ q_:Value→Pcs→Prop,q_=(fun v_ x_=>v_= .int .i64 (((((rest.getD 0 0).toNat:Nat):Int)-65)*26)∧x_=[]):=⟨_,rfl⟩
                      refine ⟨[sv s,undef,(y14 2),(y14 3),.int .i64 (((s.length:Nat):Int)-5),undef,(y9 6),w1,sv rest,(val20 11),(y14 10),sv s,.int .i64 (((s.length:Nat):Int)),.int .i64 (((s.length:Nat):Int)-5),sv s,.int .i64 (((s.length:Nat):Int)),.bool (decide (1400<((s.length:Nat):Int))),.bool (decide (1400<((s.length:Nat):Int))),.int .i64 (((s.length:Nat):Int)-5),.bool (decide (((s.length:Nat):Int)-5<0)),.bool (decide (((s.length:Nat):Int)-5<0)),.bool (decide (((s.length:Nat):Int)-5<0)),sv s,.int .i64 (((s.length:Nat):Int)-5),.int .u8 ((((s.getD (((s.length:Nat):Int)-5).toNat 0).toNat:Nat):Int)),.bool (decide ((((s.getD (((s.length:Nat):Int)-5).toNat 0).toNat:Nat):Int)≠61)),.bool (decide ((((s.getD (((s.length:Nat):Int)-5).toNat 0).toNat:Nat):Int)≠61)),sv s,.int .i64 (((s.length:Nat):Int)-5),.int .i64 ((((s.length:Nat):Int)-5)+1),sv (s.drop ((((((s.length:Nat):Int)-5)+1)).toNat)),.slice a5 ((s.drop ((((((s.length:Nat):Int)-5)+1)).toNat)).length) cp6,.int .i64 ((((s.drop ((((((s.length:Nat):Int)-5)+1)).toNat)).length:Nat):Int)),.int .i64 (((k:Nat):Int)),.bool (decide (((k:Nat):Int)<(((s.drop ((((((s.length:Nat):Int)-5)+1)).toNat)).length:Nat):Int))),(y9 35),(y9 36),(y9 37),(y9 38),(y9 39),(y9 40),(y9 41),(y9 42),(y9 43),sv s,.int .i64 (((s.length:Nat):Int)-5),sv (s.take (((((s.length:Nat):Int)-5)).toNat)),sv rest,.bool (!decide (rest=([]:List UInt8))),sv rest,.int .i64 (((rest.length:Nat):Int)),.bool (decide (((rest.length:Nat):Int)<2)),.bool (decide (((rest.length:Nat):Int)<2)),sv rest,.int .u8 ((((rest.getD 0 0).toNat:Nat):Int)),.bool (decide (65≤(((rest.getD 0 0).toNat:Nat):Int)∧(((rest.getD 0 0).toNat:Nat):Int)≤90)),.bool (!(decide (65≤(((rest.getD 0 0).toNat:Nat):Int)∧(((rest.getD 0 0).toNat:Nat):Int)≤90))),.bool (!(decide (65≤(((rest.getD 0 0).toNat:Nat):Int)∧(((rest.getD 0 0).toNat:Nat):Int)≤90))),.bool (!(decide (65≤(((rest.getD 0 0).toNat:Nat):Int)∧(((rest.getD 0 0).toNat:Nat):Int)≤90))),sv rest,.int .u8 ((((rest.getD 1 0).toNat:Nat):Int)),.bool (decide (65≤(((rest.getD 1 0).toNat:Nat):Int)∧(((rest.getD 1 0).toNat:Nat):Int)≤90)),.bool (!(decide (65≤(((rest.getD 1 0).toNat:Nat):Int)∧(((rest.getD 1 0).toNat:Nat):Int)≤90))),.bool (!(decide (65≤(((rest.getD 1 0).toNat:Nat):Int)∧(((rest.getD 1 0).toNat:Nat):Int)≤90))),(val20 0),(val20 1),(val20 2),.int .i64 ((((rest.getD 0 0).toNat:Nat):Int)-65),(val20 4),(val20 5),(val20 6),(val20 7),(val20 8),(val20 9),(val20 10),(y14 75),(y14 76),(y14 77),(y14 78),(y14 79),(y14 80),(y14 81),(y14 82),(y14 83),(y14 84),(y14 85),(y14 86),(y14 87),(y14 88),(y14 89),(y14 90),(y14 91),(y14 92),(y14 93),(y14 94),(y14 95),(y14 96),(y14 97),(y14 98),(y14 99),(y14 100),undef],[],q_,(by simp only [e3_]),rfl,(fun _ _ z_=>by subst hq0_;exact z_),?_⟩
                      subst hq0_
                      exact xfx (xaz rfl) (fun _ h_ H_=>xwk rfl rfl (wr (by omega))) ⟨rfl,rfl⟩
                    refine xcq rfl (xew ?_) ?_
                    · intro val20 pc21 hQ_ hX_
                      obtain ⟨q_,hq0_⟩: ∃ q_:Value→Pcs→Prop,q_=(fun v_ x_=>v_=sv rest∧x_=[]):=⟨_,rfl⟩
                      refine ⟨[sv s,undef,(y14 2),(y14 3),.int .i64 (((s.length:Nat):Int)-5),undef,(y9 6),w1,sv rest,(val20 11),(y14 10),sv s,.int .i64 (((s.length:Nat):Int)),.int .i64 (((s.length:Nat):Int)-5),sv s,.int .i64 (((s.length:Nat):Int)),.bool (decide (1400<((s.length:Nat):Int))),.bool (decide (1400<((s.length:Nat):Int))),.int .i64 (((s.length:Nat):Int)-5),.bool (decide (((s.length:Nat):Int)-5<0)),.bool (decide (((s.length:Nat):Int)-5<0)),.bool (decide (((s.length:Nat):Int)-5<0)),sv s,.int .i64 (((s.length:Nat):Int)-5),.int .u8 ((((s.getD (((s.length:Nat):Int)-5).toNat 0).toNat:Nat):Int)),.bool (decide ((((s.getD (((s.length:Nat):Int)-5).toNat 0).toNat:Nat):Int)≠61)),.bool (decide ((((s.getD (((s.length:Nat):Int)-5).toNat 0).toNat:Nat):Int)≠61)),sv s,.int .i64 (((s.length:Nat):Int)-5),.int .i64 ((((s.length:Nat):Int)-5)+1),sv (s.drop ((((((s.length:Nat):Int)-5)+1)).toNat)),.slice a5 ((s.drop ((((((s.length:Nat):Int)-5)+1)).toNat)).length) cp6,.int .i64 ((((s.drop ((((((s.length:Nat):Int)-5)+1)).toNat)).length:Nat):Int)),.int .i64 (((k:Nat):Int)),.bool (decide (((k:Nat):Int)<(((s.drop ((((((s.length:Nat):Int)-5)+1)).toNat)).length:Nat):Int))),(y9 35),(y9 36),(y9 37),(y9 38),(y9 39),(y9 40),(y9 41),(y9 42),(y9 43),sv s,.int .i64 (((s.length:Nat):Int)-5),sv (s.take (((((s.length:Nat):Int)-5)).toNat)),sv rest,.bool (!decide (rest=([]:List UInt8))),sv rest,.int .i64 (((rest.length:Nat):Int)),.bool (decide (((rest.length:Nat):Int)<2)),.bool (decide (((rest.length:Nat):Int)<2)),sv rest,.int .u8 ((((rest.getD 0 0).toNat:Nat):Int)),.bool (decide (65≤(((rest.getD 0 0).toNat:Nat):Int)∧(((rest.getD 0 0).toNat:Nat):Int)≤90)),.bool (!(decide (65≤(((rest.getD 0 0).toNat:Nat):Int)∧(((rest.getD 0 0).toNat:Nat):Int)≤90))),.bool (!(decide (65≤(((rest.getD 0 0).toNat:Nat):Int)∧(((rest.getD 0 0).toNat:Nat):Int)≤90))),.bool (!(decide (65≤(((rest.getD 0 0).toNat:Nat):Int)∧(((rest.getD 0 0).toNat:Nat):Int)≤90))),sv rest,.int .u8 ((((rest.getD 1 0).toNat:Nat):Int)),.bool (decide (65≤(((rest.getD 1 0).toNat:Nat):Int)∧(((rest.getD 1 0).toNat:Nat):Int)≤90)),.bool (!(decide (65≤(((rest.getD 1 0).toNat:Nat):Int)∧(((rest.getD 1 0).toNat:Nat):Int)≤90))),.bool (!(decide (65≤(((rest.getD 1 0).toNat:Nat):Int)∧(((rest.getD 1 0).toNat:Nat):Int)≤90))),(val20 0),(val20 1),(val20 2),(val20 3),(val20 4),(val20 5),(val20 6),(val20 7),(val20 8),(val20 9),(val20 10),(y14 75),(y14 76),(y14 77),(y14 78),(y14 79),(y14 80),(y14 81),(y14 82),(y14 83),(y14 84),(y14 85),(y14 86),(y14 87),(y14 88),(y14 89),(y14 90),(y14 91),(y14 92),(y14 93),(y14 94),(y14 95),(y14 96),(y14 97),(y14 98),(y14 99),(y14 100),undef],[],q_,rfl,rfl,(fun _ _ z_=>by subst hq0_;exact z_),?_⟩
                      subst hq0_
                      exact xfx (xaz rfl) (fun _ h_ H_=>xax (v:=sv rest) rfl) ⟨rfl,rfl⟩
                    refine xcq rfl (xew ?_) ?_
                    · intro val20 pc21 hQ_ hX_
                      have e5_:val20 5=sv rest:=(hQ_ 5 rfl).1
                      obtain ⟨q_,hq0_⟩: ∃ q_:Value→Pcs→Prop,q_=(fun v_ x_=>v_= .int .u8 ((((rest.getD 1 0).toNat:Nat):Int))∧x_=[]):=⟨_,rfl⟩
                      refine ⟨[sv s,undef,(y14 2),(y14 3),.int .i64 (((s.length:Nat):Int)-5),undef,(y9 6),w1,sv rest,(val20 11),(y14 10),sv s,.int .i64 (((s.length:Nat):Int)),.int .i64 (((s.length:Nat):Int)-5),sv s,.int .i64 (((s.length:Nat):Int)),.bool (decide (1400<((s.length:Nat):Int))),.bool (decide (1400<((s.length:Nat):Int))),.int .i64 (((s.length:Nat):Int)-5),.bool (decide (((s.length:Nat):Int)-5<0)),.bool (decide (((s.length:Nat):Int)-5<0)),.bool (decide (((s.length:Nat):Int)-5<0)),sv s,.int .i64 (((s.length:Nat):Int)-5),.int .u8 ((((s.getD (((s.length:Nat):Int)-5).toNat 0).toNat:Nat):Int)),.bool (decide ((((s.getD (((s.length:Nat):Int)-5).toNat 0).toNat:Nat):Int)≠61)),.bool (decide ((((s.getD (((s.length:Nat):Int)-5).toNat 0).toNat:Nat):Int)≠61)),sv s,.int .i64 (((s.length:Nat):Int)-5),.int .i64 ((((s.length:Nat):Int)-5)+1),sv (s.drop ((((((s.length:Nat):Int)-5)+1)).toNat)),.slice a5 ((s.drop ((((((s.length:Nat):Int)-5)+1)).toNat)).length) cp6,.int .i64 ((((s.drop ((((((s.length:Nat):Int)-5)+1)).toNat)).length:Nat):Int)),.int .i64 (((k:Nat):Int)),.bool (decide (((k:Nat):Int)<(((s.drop ((((((s.length:Nat):Int)-5)+1)).toNat)).length:Nat):Int))),(y9 35),(y9 36),(y9 37),(y9 38),(y9 39),(y9 40),(y9 41),(y9 42),(y9 43),sv s,.int .i64 (((s.length:Nat):Int)-5),sv (s.take (((((s.length:Nat):Int)-5)).toNat)),sv rest,.bool (!decide (rest=([]:List UInt8))),sv rest,.int .i64 (((rest.length:Nat):Int)),.bool (decide (((rest.length:Nat):Int)<2)),.bool (decide (((rest.length:Nat):Int)<2)),sv rest,.int .u8 ((((rest.getD 0 0).toNat:Nat):Int)),.bool (decide (65≤(((rest.getD 0 0).toNat:Nat):Int)∧(((rest.getD 0 0).toNat:Nat):Int)≤90)),.bool (!(decide (65≤(((rest.getD 0 0).toNat:Nat):Int)∧(((rest.getD 0 0).toNat:Nat):Int)≤90))),.bool (!(decide (65≤(((rest.getD 0 0).toNat:Nat):Int)∧(((rest.getD 0 0).toNat:Nat):Int)≤90))),.bool (!(decide (65≤(((rest.getD 0 0).toNat:Nat):Int)∧(((rest.getD 0 0).toNat:Nat):Int)≤90))),sv rest,.int .u8 ((((rest.getD 1 0).toNat:Nat):Int)),.bool (decide (65≤(((rest.getD 1 0).toNat:Nat):Int)∧(((rest.getD 1 0).toNat:Nat):Int)≤90)),.bool (!(decide (65≤(((rest.getD 1 0).toNat:Nat):Int)∧(((rest.getD 1 0).toNat:Nat):Int)≤90))),.bool (!(decide (65≤(((rest.getD 1 0).toNat:Nat):Int)∧(((rest.getD 1 0).toNat:Nat):Int)≤90))),(val20 0),(val20 1),(val20 2),(val20 3),(val20 4),sv rest,(val20 6),(val20 7),(val20 8),(val20 9),(val20 10),(y14 75),(y14 76),(y14 77),(y14 78),(y14 79),(y14 80),(y14 81),(y14 82),(y14 83),(y14 84),(y14 85),(y14 86),(y14 87),(y14 88),(y14 89),(y14 90),(y14 91),(y14 92),(y14 93),(y14 94),(y14 95),(y14 96),(y14 97),(y14 98),(y14 99),(y14 100),undef],[],q_,(by simp only [e5_]),rfl,(fun _ _ z_=>by subst hq0_;exact z_),?_⟩
                      subst hq0_
                      exact xfx (xaz rfl) (fun _ h_ H_=>xiq (l:=rest) (i:=1) Tryz.underlying9 rfl rfl (by omega)) ⟨rfl,rfl⟩
                    refine xcq rfl (xew ?_) ?_
                    · intro val20 pc21 hQ_ hX_
                      have e6_:val20 6= .int .u8 ((((rest.getD 1 0).toNat:Nat):Int)):=(hQ_ 6 rfl).1
                      obtain ⟨q_,hq0_⟩: ∃ q_:Value→Pcs→Prop,q_=(fun v_ x_=>v_= .int .u8 ((((rest.getD 1 0).toNat:Nat):Int)-65)∧x_=[]):=⟨_,rfl⟩
                      refine ⟨[sv s,undef,(y14 2),(y14 3),.int .i64 (((s.length:Nat):Int)-5),undef,(y9 6),w1,sv rest,(val20 11),(y14 10),sv s,.int .i64 (((s.length:Nat):Int)),.int .i64 (((s.length:Nat):Int)-5),sv s,.int .i64 (((s.length:Nat):Int)),.bool (decide (1400<((s.length:Nat):Int))),.bool (decide (1400<((s.length:Nat):Int))),.int .i64 (((s.length:Nat):Int)-5),.bool (decide (((s.length:Nat):Int)-5<0)),.bool (decide (((s.length:Nat):Int)-5<0)),.bool (decide (((s.length:Nat):Int)-5<0)),sv s,.int .i64 (((s.length:Nat):Int)-5),.int .u8 ((((s.getD (((s.length:Nat):Int)-5).toNat 0).toNat:Nat):Int)),.bool (decide ((((s.getD (((s.length:Nat):Int)-5).toNat 0).toNat:Nat):Int)≠61)),.bool (decide ((((s.getD (((s.length:Nat):Int)-5).toNat 0).toNat:Nat):Int)≠61)),sv s,.int .i64 (((s.length:Nat):Int)-5),.int .i64 ((((s.length:Nat):Int)-5)+1),sv (s.drop ((((((s.length:Nat):Int)-5)+1)).toNat)),.slice a5 ((s.drop ((((((s.length:Nat):Int)-5)+1)).toNat)).length) cp6,.int .i64 ((((s.drop ((((((s.length:Nat):Int)-5)+1)).toNat)).length:Nat):Int)),.int .i64 (((k:Nat):Int)),.bool (decide (((k:Nat):Int)<(((s.drop ((((((s.length:Nat):Int)-5)+1)).toNat)).length:Nat):Int))),(y9 35),(y9 36),(y9 37),(y9 38),(y9 39),(y9 40),(y9 41),(y9 42),(y9 43),sv s,.int .i64 (((s.length:Nat):Int)-5),sv (s.take (((((s.length:Nat):Int)-5)).toNat)),sv rest,.bool (!decide (rest=([]:List UInt8))),sv rest,.int .i64 (((rest.length:Nat):Int)),.bool (decide (((rest.length:Nat):Int)<2)),.bool (decide (((rest.length:Nat):Int)<2)),sv rest,.int .u8 ((((rest.getD 0 0).toNat:Nat):Int)),.bool (decide (65≤(((rest.getD 0 0).toNat:Nat):Int)∧(((rest.getD 0 0).toNat:Nat):Int)≤90)),.bool (!(decide (65≤(((rest.getD 0 0).toNat:Nat):Int)∧(((rest.getD 0 0).toNat:Nat):Int)≤90))),.bool (!(decide (65≤(((rest.getD 0 0).toNat:Nat):Int)∧(((rest.getD 0 0).toNat:Nat):Int)≤90))),.bool (!(decide (65≤(((rest.getD 0 0).toNat:Nat):Int)∧(((rest.getD 0 0).toNat:Nat):Int)≤90))),sv rest,.int .u8 ((((rest.getD 1 0).toNat:Nat):Int)),.bool (decide (65≤(((rest.getD 1 0).toNat:Nat):Int)∧(((rest.getD 1 0).toNat:Nat):Int)≤90)),.bool (!(decide (65≤(((rest.getD 1 0).toNat:Nat):Int)∧(((rest.getD 1 0).toNat:Nat):Int)≤90))),.bool (!(decide (65≤(((rest.getD 1 0).toNat:Nat):Int)∧(((rest.getD 1 0).toNat:Nat):Int)≤90))),(val20 0),(val20 1),(val20 2),(val20 3),(val20 4),(val20 5),.int .u8 ((((rest.getD 1 0).toNat:Nat):Int)),(val20 7),(val20 8),(val20 9),(val20 10),(y14 75),(y14 76),(y14 77),(y14 78),(y14 79),(y14 80),(y14 81),(y14 82),(y14 83),(y14 84),(y14 85),(y14 86),(y14 87),(y14 88),(y14 89),(y14 90),(y14 91),(y14 92),(y14 93),(y14 94),(y14 95),(y14 96),(y14 97),(y14 98),(y14 99),(y14 100),undef],[],q_,(by simp only [e6_]),rfl,(fun _ _ z_=>by subst hq0_;exact z_),?_⟩
                      subst hq0_
                      exact xfx (xaz rfl) (fun _ h_ H_=>xlv rfl rfl (wr8 (by omega))) ⟨rfl,rfl⟩
                    refine xcq rfl (xew ?_) ?_
                    · intro val20 pc21 hQ_ hX_
                      have e7_:val20 7= .int .u8 ((((rest.getD 1 0).toNat:Nat):Int)-65):=(hQ_ 7 rfl).1
                      obtain ⟨q_,hq0_⟩: ∃ q_:Value→Pcs→Prop,q_=(fun v_ x_=>v_= .int .i64 ((((rest.getD 1 0).toNat:Nat):Int)-65)∧x_=[]):=⟨_,rfl⟩
                      refine ⟨[sv s,undef,(y14 2),(y14 3),.int .i64 (((s.length:Nat):Int)-5),undef,(y9 6),w1,sv rest,(val20 11),(y14 10),sv s,.int .i64 (((s.length:Nat):Int)),.int .i64 (((s.length:Nat):Int)-5),sv s,.int .i64 (((s.length:Nat):Int)),.bool (decide (1400<((s.length:Nat):Int))),.bool (decide (1400<((s.length:Nat):Int))),.int .i64 (((s.length:Nat):Int)-5),.bool (decide (((s.length:Nat):Int)-5<0)),.bool (decide (((s.length:Nat):Int)-5<0)),.bool (decide (((s.length:Nat):Int)-5<0)),sv s,.int .i64 (((s.length:Nat):Int)-5),.int .u8 ((((s.getD (((s.length:Nat):Int)-5).toNat 0).toNat:Nat):Int)),.bool (decide ((((s.getD (((s.length:Nat):Int)-5).toNat 0).toNat:Nat):Int)≠61)),.bool (decide ((((s.getD (((s.length:Nat):Int)-5).toNat 0).toNat:Nat):Int)≠61)),sv s,.int .i64 (((s.length:Nat):Int)-5),.int .i64 ((((s.length:Nat):Int)-5)+1),sv (s.drop ((((((s.length:Nat):Int)-5)+1)).toNat)),.slice a5 ((s.drop ((((((s.length:Nat):Int)-5)+1)).toNat)).length) cp6,.int .i64 ((((s.drop ((((((s.length:Nat):Int)-5)+1)).toNat)).length:Nat):Int)),.int .i64 (((k:Nat):Int)),.bool (decide (((k:Nat):Int)<(((s.drop ((((((s.length:Nat):Int)-5)+1)).toNat)).length:Nat):Int))),(y9 35),(y9 36),(y9 37),(y9 38),(y9 39),(y9 40),(y9 41),(y9 42),(y9 43),sv s,.int .i64 (((s.length:Nat):Int)-5),sv (s.take (((((s.length:Nat):Int)-5)).toNat)),sv rest,.bool (!decide (rest=([]:List UInt8))),sv rest,.int .i64 (((rest.length:Nat):Int)),.bool (decide (((rest.length:Nat):Int)<2)),.bool (decide (((rest.length:Nat):Int)<2)),sv rest,.int .u8 ((((rest.getD 0 0).toNat:Nat):Int)),.bool (decide (65≤(((rest.getD 0 0).toNat:Nat):Int)∧(((rest.getD 0 0).toNat:Nat):Int)≤90)),.bool (!(decide (65≤(((rest.getD 0 0).toNat:Nat):Int)∧(((rest.getD 0 0).toNat:Nat):Int)≤90))),.bool (!(decide (65≤(((rest.getD 0 0).toNat:Nat):Int)∧(((rest.getD 0 0).toNat:Nat):Int)≤90))),.bool (!(decide (65≤(((rest.getD 0 0).toNat:Nat):Int)∧(((rest.getD 0 0).toNat:Nat):Int)≤90))),sv rest,.int .u8 ((((rest.getD 1 0).toNat:Nat):Int)),.bool (decide (65≤(((rest.getD 1 0).toNat:Nat):Int)∧(((rest.getD 1 0).toNat:Nat):Int)≤90)),.bool (!(decide (65≤(((rest.getD 1 0).toNat:Nat):Int)∧(((rest.getD 1 0).toNat:Nat):Int)≤90))),.bool (!(decide (65≤(((rest.getD 1 0).toNat:Nat):Int)∧(((rest.getD 1 0).toNat:Nat):Int)≤90))),(val20 0),(val20 1),(val20 2),(val20 3),(val20 4),(val20 5),(val20 6),.int .u8 ((((rest.getD 1 0).toNat:Nat):Int)-65),(val20 8),(val20 9),(val20 10),(y14 75),(y14 76),(y14 77),(y14 78),(y14 79),(y14 80),(y14 81),(y14 82),(y14 83),(y14 84),(y14 85),(y14 86),(y14 87),(y14 88),(y14 89),(y14 90),(y14 91),(y14 92),(y14 93),(y14 94),(y14 95),(y14 96),(y14 97),(y14 98),(y14 99),(y14 100),undef],[],q_,(by simp only [e7_]),rfl,(fun _ _ z_=>by subst hq0_;exact z_),?_⟩
                      subst hq0_
                      exact xfx (xaz rfl) (fun _ h_ H_=>xoz ⟨_,Tryz.underlying5⟩ Tryz.underlying3 rfl (n:=(((rest.getD 1 0).toNat:Nat):Int)-65) (wr (by omega))) ⟨rfl,rfl⟩
                    refine xcq rfl (xew ?_) ?_
                    · intro val20 pc21 hQ_ hX_
                      have e4_:val20 4= .int .i64 (((((rest.getD 0 0).toNat:Nat):Int)-65)*26):=(hQ_ 4 rfl).1
                      have e8_:val20 8= .int .i64 ((((rest.getD 1 0).toNat:Nat):Int)-65):=(hQ_ 8 rfl).1
                      obtain ⟨q_,hq0_⟩: ∃ q_:Value→Pcs→Prop,q_=(fun v_ x_=>v_= .int .i64 ((((((rest.getD 0 0).toNat:Nat):Int)-65)*26)+((((rest.getD 1 0).toNat:Nat):Int)-65))∧x_=[]):=⟨_,rfl⟩
                      refine ⟨[sv s,undef,(y14 2),(y14 3),.int .i64 (((s.length:Nat):Int)-5),undef,(y9 6),w1,sv rest,(val20 11),(y14 10),sv s,.int .i64 (((s.length:Nat):Int)),.int .i64 (((s.length:Nat):Int)-5),sv s,.int .i64 (((s.length:Nat):Int)),.bool (decide (1400<((s.length:Nat):Int))),.bool (decide (1400<((s.length:Nat):Int))),.int .i64 (((s.length:Nat):Int)-5),.bool (decide (((s.length:Nat):Int)-5<0)),.bool (decide (((s.length:Nat):Int)-5<0)),.bool (decide (((s.length:Nat):Int)-5<0)),sv s,.int .i64 (((s.length:Nat):Int)-5),.int .u8 ((((s.getD (((s.length:Nat):Int)-5).toNat 0).toNat:Nat):Int)),.bool (decide ((((s.getD (((s.length:Nat):Int)-5).toNat 0).toNat:Nat):Int)≠61)),.bool (decide ((((s.getD (((s.length:Nat):Int)-5).toNat 0).toNat:Nat):Int)≠61)),sv s,.int .i64 (((s.length:Nat):Int)-5),.int .i64 ((((s.length:Nat):Int)-5)+1),sv (s.drop ((((((s.length:Nat):Int)-5)+1)).toNat)),.slice a5 ((s.drop ((((((s.length:Nat):Int)-5)+1)).toNat)).length) cp6,.int .i64 ((((s.drop ((((((s.length:Nat):Int)-5)+1)).toNat)).length:Nat):Int)),.int .i64 (((k:Nat):Int)),.bool (decide (((k:Nat):Int)<(((s.drop ((((((s.length:Nat):Int)-5)+1)).toNat)).length:Nat):Int))),(y9 35),(y9 36),(y9 37),(y9 38),(y9 39),(y9 40),(y9 41),(y9 42),(y9 43),sv s,.int .i64 (((s.length:Nat):Int)-5),sv (s.take (((((s.length:Nat):Int)-5)).toNat)),sv rest,.bool (!decide (rest=([]:List UInt8))),sv rest,.int .i64 (((rest.length:Nat):Int)),.bool (decide (((rest.length:Nat):Int)<2)),.bool (decide (((rest.length:Nat):Int)<2)),sv rest,.int .u8 ((((rest.getD 0 0).toNat:Nat):Int)),.bool (decide (65≤(((rest.getD 0 0).toNat:Nat):Int)∧(((rest.getD 0 0).toNat:Nat):Int)≤90)),.bool (!(decide (65≤(((rest.getD 0 0).toNat:Nat):Int)∧(((rest.getD 0 0).toNat:Nat):Int)≤90))),.bool (!(decide (65≤(((rest.getD 0 0).toNat:Nat):Int)∧(((rest.getD 0 0).toNat:Nat):Int)≤90))),.bool (!(decide (65≤(((rest.getD 0 0).toNat:Nat):Int)∧(((rest.getD 0 0).toNat:Nat):Int)≤90))),sv rest,.int .u8 ((((rest.getD 1 0).toNat:Nat):Int)),.bool (decide (65≤(((rest.getD 1 0).toNat:Nat):Int)∧(((rest.getD 1 0).toNat:Nat):Int)≤90)),.bool (!(decide (65≤(((rest.getD 1 0).toNat:Nat):Int)∧(((rest.getD 1 0).toNat:Nat):Int)≤90))),.bool (!(decide (65≤(((rest.getD 1 0).toNat:Nat):Int)∧(((rest.getD 1 0).toNat:Nat):Int)≤90))),(val20 0),(val20 1),(val20 2),(val20 3),.int .i64 (((((rest.getD 0 0).toNat:Nat):Int)-65)*26),(val20 5),(val20 6),(val20 7),.int .i64 ((((rest.getD 1 0).toNat:Nat):Int)-65),(val20 9),(val20 10),(y14 75),(y14 76),(y14 77),(y14 78),(y14 79),(y14 80),(y14 81),(y14 82),(y14 83),(y14 84),(y14 85),(y14 86),(y14 87),(y14 88),(y14 89),(y14 90),(y14 91),(y14 92),(y14 93),(y14 94),(y14 95),(y14 96),(y14 97),(y14 98),(y14 99),(y14 100),undef],[],q_,(by simp only [e4_,e8_]),rfl,(fun _ _ z_=>by subst hq0_;exact z_),?_⟩
                      subst hq0_
                      exact xfx (xaz rfl) (fun _ h_ H_=>xev rfl rfl (wr (by omega))) ⟨rfl,rfl⟩
                    refine xcq rfl (xew ?_) ?_
                    · intro val20 pc21 hQ_ hX_
                      have e9_:val20 9= .int .i64 ((((((rest.getD 0 0).toNat:Nat):Int)-65)*26)+((((rest.getD 1 0).toNat:Nat):Int)-65)):=(hQ_ 9 rfl).1
                      obtain ⟨q_,hq0_⟩: ∃ q_:Value→Pcs→Prop,q_=(fun v_ x_=>v_= .agg #[.int .i64 ((((((rest.getD 0 0).toNat:Nat):Int)-65)*26)+((((rest.getD 1 0).toNat:Nat):Int)-65)),.int .i64 (-1)]∧x_=[]):=⟨_,rfl⟩
                      refine ⟨[sv s,undef,(y14 2),(y14 3),.int .i64 (((s.length:Nat):Int)-5),undef,(y9 6),w1,sv rest,(val20 11),(y14 10),sv s,.int .i64 (((s.length:Nat):Int)),.int .i64 (((s.length:Nat):Int)-5),sv s,.int .i64 (((s.length:Nat):Int)),.bool (decide (1400<((s.length:Nat):Int))),.bool (decide (1400<((s.length:Nat):Int))),.int .i64 (((s.length:Nat):Int)-5),.bool (decide (((s.length:Nat):Int)-5<0)),.bool (decide (((s.length:Nat):Int)-5<0)),.bool (decide (((s.length:Nat):Int)-5<0)),sv s,.int .i64 (((s.length:Nat):Int)-5),.int .u8 ((((s.getD (((s.length:Nat):Int)-5).toNat 0).toNat:Nat):Int)),.bool (decide ((((s.getD (((s.length:Nat):Int)-5).toNat 0).toNat:Nat):Int)≠61)),.bool (decide ((((s.getD (((s.length:Nat):Int)-5).toNat 0).toNat:Nat):Int)≠61)),sv s,.int .i64 (((s.length:Nat):Int)-5),.int .i64 ((((s.length:Nat):Int)-5)+1),sv (s.drop ((((((s.length:Nat):Int)-5)+1)).toNat)),.slice a5 ((s.drop ((((((s.length:Nat):Int)-5)+1)).toNat)).length) cp6,.int .i64 ((((s.drop ((((((s.length:Nat):Int)-5)+1)).toNat)).length:Nat):Int)),.int .i64 (((k:Nat):Int)),.bool (decide (((k:Nat):Int)<(((s.drop ((((((s.length:Nat):Int)-5)+1)).toNat)).length:Nat):Int))),(y9 35),(y9 36),(y9 37),(y9 38),(y9 39),(y9 40),(y9 41),(y9 42),(y9 43),sv s,.int .i64 (((s.length:Nat):Int)-5),sv (s.take (((((s.length:Nat):Int)-5)).toNat)),sv rest,.bool (!decide (rest=([]:List UInt8))),sv rest,.int .i64 (((rest.length:Nat):Int)),.bool (decide (((rest.length:Nat):Int)<2)),.bool (decide (((rest.length:Nat):Int)<2)),sv rest,.int .u8 ((((rest.getD 0 0).toNat:Nat):Int)),.bool (decide (65≤(((rest.getD 0 0).toNat:Nat):Int)∧(((rest.getD 0 0).toNat:Nat):Int)≤90)),.bool (!(decide (65≤(((rest.getD 0 0).toNat:Nat):Int)∧(((rest.getD 0 0).toNat:Nat):Int)≤90))),.bool (!(decide (65≤(((rest.getD 0 0).toNat:Nat):Int)∧(((rest.getD 0 0).toNat:Nat):Int)≤90))),.bool (!(decide (65≤(((rest.getD 0 0).toNat:Nat):Int)∧(((rest.getD 0 0).toNat:Nat):Int)≤90))),sv rest,.int .u8 ((((rest.getD 1 0).toNat:Nat):Int)),.bool (decide (65≤(((rest.getD 1 0).toNat:Nat):Int)∧(((rest.getD 1 0).toNat:Nat):Int)≤90)),.bool (!(decide (65≤(((rest.getD 1 0).toNat:Nat):Int)∧(((rest.getD 1 0).toNat:Nat):Int)≤90))),.bool (!(decide (65≤(((rest.getD 1 0).toNat:Nat):Int)∧(((rest.getD 1 0).toNat:Nat):Int)≤90))),(val20 0),(val20 1),(val20 2),(val20 3),(val20 4),(val20 5),(val20 6),(val20 7),(val20 8),.int .i64 ((((((rest.getD 0 0).toNat:Nat):Int)-65)*26)+((((rest.getD 1 0).toNat:Nat):Int)-65)),(val20 10),(y14 75),(y14 76),(y14 77),(y14 78),(y14 79),(y14 80),(y14 81),(y14 82),(y14 83),(y14 84),(y14 85),(y14 86),(y14 87),(y14 88),(y14 89),(y14 90),(y14 91),(y14 92),(y14 93),(y14 94),(y14 95),(y14 96),(y14 97),(y14 98),(y14 99),(y14 100),undef],[],q_,(by simp only [e9_]),rfl,(fun _ _ z_=>by subst hq0_;exact z_),?_⟩
                      subst hq0_
                      exact xfx (xaz rfl) (fun _ h_ H_=>xlj yck wjz (vs:=[(0,.int .i64 ((((((rest.getD 0 0).toNat:Nat):Int)-65)*26)+((((rest.getD 1 0).toNat:Nat):Int)-65))),(1,.int .i64 (-1))]) rfl (cells:=#[.int .i64 ((((((rest.getD 0 0).toNat:Nat):Int)-65)*26)+((((rest.getD 1 0).toNat:Nat):Int)-65)),.int .i64 (-1)]) rfl) ⟨rfl,rfl⟩
                    refine xcq rfl (xew ?_) ?_
                    · intro val20 pc21 hQ_ hX_
                      obtain ⟨q_,hq0_⟩: ∃ q_:Value→Pcs→Prop,q_=(fun v_ x_=>∃ b22:Nat,v_= .pointer (some ⟨b22,0,none⟩)∧x_=(([(b22,.cells #[.int .i64 0,.int .i64 0] 112 (0,0))]:Pcs)++[])):=⟨_,rfl⟩
                      refine ⟨[sv s,undef,(y14 2),(y14 3),.int .i64 (((s.length:Nat):Int)-5),undef,(y9 6),w1,sv rest,(val20 11),(y14 10),sv s,.int .i64 (((s.length:Nat):Int)),.int .i64 (((s.length:Nat):Int)-5),sv s,.int .i64 (((s.length:Nat):Int)),.bool (decide (1400<((s.length:Nat):Int))),.bool (decide (1400<((s.length:Nat):Int))),.int .i64 (((s.length:Nat):Int)-5),.bool (decide (((s.length:Nat):Int)-5<0)),.bool (decide (((s.length:Nat):Int)-5<0)),.bool (decide (((s.length:Nat):Int)-5<0)),sv s,.int .i64 (((s.length:Nat):Int)-5),.int .u8 ((((s.getD (((s.length:Nat):Int)-5).toNat 0).toNat:Nat):Int)),.bool (decide ((((s.getD (((s.length:Nat):Int)-5).toNat 0).toNat:Nat):Int)≠61)),.bool (decide ((((s.getD (((s.length:Nat):Int)-5).toNat 0).toNat:Nat):Int)≠61)),sv s,.int .i64 (((s.length:Nat):Int)-5),.int .i64 ((((s.length:Nat):Int)-5)+1),sv (s.drop ((((((s.length:Nat):Int)-5)+1)).toNat)),.slice a5 ((s.drop ((((((s.length:Nat):Int)-5)+1)).toNat)).length) cp6,.int .i64 ((((s.drop ((((((s.length:Nat):Int)-5)+1)).toNat)).length:Nat):Int)),.int .i64 (((k:Nat):Int)),.bool (decide (((k:Nat):Int)<(((s.drop ((((((s.length:Nat):Int)-5)+1)).toNat)).length:Nat):Int))),(y9 35),(y9 36),(y9 37),(y9 38),(y9 39),(y9 40),(y9 41),(y9 42),(y9 43),sv s,.int .i64 (((s.length:Nat):Int)-5),sv (s.take (((((s.length:Nat):Int)-5)).toNat)),sv rest,.bool (!decide (rest=([]:List UInt8))),sv rest,.int .i64 (((rest.length:Nat):Int)),.bool (decide (((rest.length:Nat):Int)<2)),.bool (decide (((rest.length:Nat):Int)<2)),sv rest,.int .u8 ((((rest.getD 0 0).toNat:Nat):Int)),.bool (decide (65≤(((rest.getD 0 0).toNat:Nat):Int)∧(((rest.getD 0 0).toNat:Nat):Int)≤90)),.bool (!(decide (65≤(((rest.getD 0 0).toNat:Nat):Int)∧(((rest.getD 0 0).toNat:Nat):Int)≤90))),.bool (!(decide (65≤(((rest.getD 0 0).toNat:Nat):Int)∧(((rest.getD 0 0).toNat:Nat):Int)≤90))),.bool (!(decide (65≤(((rest.getD 0 0).toNat:Nat):Int)∧(((rest.getD 0 0).toNat:Nat):Int)≤90))),sv rest,.int .u8 ((((rest.getD 1 0).toNat:Nat):Int)),.bool (decide (65≤(((rest.getD 1 0).toNat:Nat):Int)∧(((rest.getD 1 0).toNat:Nat):Int)≤90)),.bool (!(decide (65≤(((rest.getD 1 0).toNat:Nat):Int)∧(((rest.getD 1 0).toNat:Nat):Int)≤90))),.bool (!(decide (65≤(((rest.getD 1 0).toNat:Nat):Int)∧(((rest.getD 1 0).toNat:Nat):Int)≤90))),(val20 0),(val20 1),(val20 2),(val20 3),(val20 4),(val20 5),(val20 6),(val20 7),(val20 8),(val20 9),(val20 10),(y14 75),(y14 76),(y14 77),(y14 78),(y14 79),(y14 80),(y14 81),(y14 82),(y14 83),(y14 84),(y14 85),(y14 86),(y14 87),(y14 88),(y14 89),(y14 90),(y14 91),(y14 92),(y14 93),(y14 94),(y14 95),(y14 96),(y14 97),(y14 98),(y14 99),(y14 100),undef],[],q_,rfl,rfl,(fun _ _ z_=>by subst hq0_;exact z_),?_⟩
                      subst hq0_
                      exact ydx (xaz rfl) yck rfl fun b_=>⟨b_,rfl,rfl⟩
                    exact xpk rfl
                  intro val20 pc21 hQ_ hX_
                  have e0_:val20 0=sv rest:=(hQ_ 0 (by decide)).1
                  have e1_:val20 1= .int .u8 ((((rest.getD 0 0).toNat:Nat):Int)):=(hQ_ 1 (by decide)).1
                  have e2_:val20 2= .int .u8 ((((rest.getD 0 0).toNat:Nat):Int)-65):=(hQ_ 2 (by decide)).1
                  have e3_:val20 3= .int .i64 ((((rest.getD 0 0).toNat:Nat):Int)-65):=(hQ_ 3 (by decide)).1
                  have e4_:val20 4= .int .i64 (((((rest.getD 0 0).toNat:Nat):Int)-65)*26):=(hQ_ 4 (by decide)).1
                  have e5_:val20 5=sv rest:=(hQ_ 5 (by decide)).1
                  have e6_:val20 6= .int .u8 ((((rest.getD 1 0).toNat:Nat):Int)):=(hQ_ 6 (by decide)).1
                  have e7_:val20 7= .int .u8 ((((rest.getD 1 0).toNat:Nat):Int)-65):=(hQ_ 7 (by decide)).1
                  have e8_:val20 8= .int .i64 ((((rest.getD 1 0).toNat:Nat):Int)-65):=(hQ_ 8 (by decide)).1
                  have e9_:val20 9= .int .i64 ((((((rest.getD 0 0).toNat:Nat):Int)-65)*26)+((((rest.getD 1 0).toNat:Nat):Int)-65)):=(hQ_ 9 (by decide)).1
                  have e10_:val20 10= .agg #[.int .i64 ((((((rest.getD 0 0).toNat:Nat):Int)-65)*26)+((((rest.getD 1 0).toNat:Nat):Int)-65)),.int .i64 (-1)]:=(hQ_ 10 (by decide)).1
                  obtain ⟨e11_,x11_⟩:=hG11_ _ _ (hQ_ 11 (by decide))
                  have x12_:pc21 12=X1:=hX_ 12 (by decide)
                  clear hQ_ hX_
                  generalize Gb22 (val20 11) (pc21 11)=b22 at*
                  refine yok (Φ:=fun h_=>St h [] p4 h_ (([]:Pcs)++(pc21 12++(pc21 11++[])))) ?_ (fun h_ H_=>H_.swap')
                  rw [x12_,x11_]
                  refine xcz (L':=([]:Pcs)++(X1++(([(b22,.cells #[.int .i64 0,.int .i64 0] 112 (0,0))]:Pcs)++[]))) (by simp) ?_
                  refine xfz (tm':=[sv s,undef,(y14 2),(y14 3),.int .i64 (((s.length:Nat):Int)-5),undef,(y9 6),w1,sv rest,.pointer (some ⟨b22,0,none⟩),(y14 10),sv s,.int .i64 (((s.length:Nat):Int)),.int .i64 (((s.length:Nat):Int)-5),sv s,.int .i64 (((s.length:Nat):Int)),.bool (decide (1400<((s.length:Nat):Int))),.bool (decide (1400<((s.length:Nat):Int))),.int .i64 (((s.length:Nat):Int)-5),.bool (decide (((s.length:Nat):Int)-5<0)),.bool (decide (((s.length:Nat):Int)-5<0)),.bool (decide (((s.length:Nat):Int)-5<0)),sv s,.int .i64 (((s.length:Nat):Int)-5),.int .u8 ((((s.getD (((s.length:Nat):Int)-5).toNat 0).toNat:Nat):Int)),.bool (decide ((((s.getD (((s.length:Nat):Int)-5).toNat 0).toNat:Nat):Int)≠61)),.bool (decide ((((s.getD (((s.length:Nat):Int)-5).toNat 0).toNat:Nat):Int)≠61)),sv s,.int .i64 (((s.length:Nat):Int)-5),.int .i64 ((((s.length:Nat):Int)-5)+1),sv (s.drop ((((((s.length:Nat):Int)-5)+1)).toNat)),.slice a5 ((s.drop ((((((s.length:Nat):Int)-5)+1)).toNat)).length) cp6,.int .i64 ((((s.drop ((((((s.length:Nat):Int)-5)+1)).toNat)).length:Nat):Int)),.int .i64 (((k:Nat):Int)),.bool (decide (((k:Nat):Int)<(((s.drop ((((((s.length:Nat):Int)-5)+1)).toNat)).length:Nat):Int))),(y9 35),(y9 36),(y9 37),(y9 38),(y9 39),(y9 40),(y9 41),(y9 42),(y9 43),sv s,.int .i64 (((s.length:Nat):Int)-5),sv (s.take (((((s.length:Nat):Int)-5)).toNat)),sv rest,.bool (!decide (rest=([]:List UInt8))),sv rest,.int .i64 (((rest.length:Nat):Int)),.bool (decide (((rest.length:Nat):Int)<2)),.bool (decide (((rest.length:Nat):Int)<2)),sv rest,.int .u8 ((((rest.getD 0 0).toNat:Nat):Int)),.bool (decide (65≤(((rest.getD 0 0).toNat:Nat):Int)∧(((rest.getD 0 0).toNat:Nat):Int)≤90)),.bool (!(decide (65≤(((rest.getD 0 0).toNat:Nat):Int)∧(((rest.getD 0 0).toNat:Nat):Int)≤90))),.bool (!(decide (65≤(((rest.getD 0 0).toNat:Nat):Int)∧(((rest.getD 0 0).toNat:Nat):Int)≤90))),.bool (!(decide (65≤(((rest.getD 0 0).toNat:Nat):Int)∧(((rest.getD 0 0).toNat:Nat):Int)≤90))),sv rest,.int .u8 ((((rest.getD 1 0).toNat:Nat):Int)),.bool (decide (65≤(((rest.getD 1 0).toNat:Nat):Int)∧(((rest.getD 1 0).toNat:Nat):Int)≤90)),.bool (!(decide (65≤(((rest.getD 1 0).toNat:Nat):Int)∧(((rest.getD 1 0).toNat:Nat):Int)≤90))),.bool (!(decide (65≤(((rest.getD 1 0).toNat:Nat):Int)∧(((rest.getD 1 0).toNat:Nat):Int)≤90))),sv rest,.int .u8 ((((rest.getD 0 0).toNat:Nat):Int)),.int .u8 ((((rest.getD 0 0).toNat:Nat):Int)-65),.int .i64 ((((rest.getD 0 0).toNat:Nat):Int)-65),.int .i64 (((((rest.getD 0 0).toNat:Nat):Int)-65)*26),sv rest,.int .u8 ((((rest.getD 1 0).toNat:Nat):Int)),.int .u8 ((((rest.getD 1 0).toNat:Nat):Int)-65),.int .i64 ((((rest.getD 1 0).toNat:Nat):Int)-65),.int .i64 ((((((rest.getD 0 0).toNat:Nat):Int)-65)*26)+((((rest.getD 1 0).toNat:Nat):Int)-65)),.agg #[.int .i64 ((((((rest.getD 0 0).toNat:Nat):Int)-65)*26)+((((rest.getD 1 0).toNat:Nat):Int)-65)),.int .i64 (-1)],(y14 75),(y14 76),(y14 77),(y14 78),(y14 79),(y14 80),(y14 81),(y14 82),(y14 83),(y14 84),(y14 85),(y14 86),(y14 87),(y14 88),(y14 89),(y14 90),(y14 91),(y14 92),(y14 93),(y14 94),(y14 95),(y14 96),(y14 97),(y14 98),(y14 99),(y14 100),undef]) (by simp only [e0_,e1_,e2_,e3_,e4_,e5_,e6_,e7_,e8_,e9_,e10_,e11_]) ?_
                  refine xcz (L':=([]:Pcs)++(X1++(([(b22,.cells #[.int .i64 0,.int .i64 0] 112 (0,0))]:Pcs)++[]))) rfl ?_
                  refine xjw (List.Perm.append_left _ (List.perm_append_comm_assoc _ _ _)) ?_
                  refine xcz (L':=([]:Pcs)++(([(b22,.cells #[.int .i64 0,.int .i64 0] 112 (0,0))]:Pcs)++(X1++[]))) rfl ?_
                  refine xjw (List.perm_append_comm_assoc ([]:Pcs) ([(b22,.cells #[.int .i64 0,.int .i64 0] 112 (0,0))]:Pcs) _) ?_
                  refine xcz (L':=([(b22,.cells #[.int .i64 0,.int .i64 0] 112 (0,0))]:Pcs)++(X1++[])) rfl ?_
                  refine xfv (xaz rfl) xxw rfl (v:=.agg #[.int .i64 ((((((rest.getD 0 0).toNat:Nat):Int)-65)*26)+((((rest.getD 1 0).toNat:Nat):Int)-65)),.int .i64 (-1)]) rfl (i:=0) rfl rfl rfl (Nat.le_of_ble_eq_true rfl) (cs2:=[.int .i64 ((((((rest.getD 0 0).toNat:Nat):Int)-65)*26)+((((rest.getD 1 0).toNat:Nat):Int)-65)),.int .i64 (-1)]) rfl (xcz (L':=([(b22,.cells #[.int .i64 ((((((rest.getD 0 0).toNat:Nat):Int)-65)*26)+((((rest.getD 1 0).toNat:Nat):Int)-65)),.int .i64 (-1)] 112 (0,0))]:Pcs)++(X1++[])) rfl ?_)
                  refine xak ?_
                  refine xbj ?_
                  refine xav ?_
                  refine xaj (xaz rfl) (fun h_ H_=>xax (v:=sv rest) rfl) rfl ?_
                  refine xaj (xaz rfl) (fun h_ H_=>xvk (l:=rest) (a:=2) Tryz.underlying9 rfl (.nat (z:=2) _ rfl) (by omega)) rfl ?_
                  refine xaj (xaz rfl) (fun h_ H_=>xaq (v:=sv (rest.drop 2)) rfl) (tm':=_::_::_::_::_::_::_::_::_::_) rfl ?_
                  refine xak ?_
                  refine xbj ?_
                  refine xbj ?_
                  refine xav ?_
                  refine xaj (xaz rfl) (fun h_ H_=>xax (v:=sv (rest.drop 2)) rfl) rfl ?_
                  refine xaj (xaz rfl) (fun h_ H_=>xzj (l:=rest.drop 2) (m:=([]:List UInt8)) rfl rfl) rfl ?_
                  refine xak ?_
                  by_cases cc25:rest.drop 2=([]:List UInt8)
                  · refine xcv rfl (xej (decide_eq_true cc25)) ?_
                    refine xdz ?_
                    refine xav ?_
                    refine xaj (xaz rfl) (fun h_ H_=>xax (v:=w1) rfl) (tm':=[_,_,_,_,_,_,_,_,_,_,_,_,_,_,_,_,_,_,_,_,_,_,_,_,_,_,_,_,_,_,_,_,_,_,_,_,_,_,_,_,_,_,_,_,_,_,_,_,_,_,_,_,_,_,_,_,_,_,_,_,_,_,_,_,_,_,_,_,_,_,_,_,_,_,_,_,_,_,_,_,_,_,_,_,_,_,_,_,_,_,_,_,_,_,_,_,_,_,_,_,_,_]) rfl ?_
                    refine xaj (xaz rfl) (fun h_ H_=>xbk H_ zov xxw rfl (i:=0) rfl (vs:=[.int .i64 ((((((rest.getD 0 0).toNat:Nat):Int)-65)*26)+((((rest.getD 1 0).toNat:Nat):Int)-65)),.int .i64 (-1)]) rfl rfl) rfl ?_
                    refine xhv ([(b22,.cells #[.int .i64 ((((((rest.getD 0 0).toNat:Nat):Int)-65)*26)+((((rest.getD 1 0).toNat:Nat):Int)-65)),.int .i64 (-1)] 112 (0,0))]:Pcs) (xaz rfl) Tryz.underlying79 xxw yck (Nat.le_of_ble_eq_true rfl) (vs:=[(0,.agg #[.int .i64 ((((((rest.getD 0 0).toNat:Nat):Int)-65)*26)+((((rest.getD 1 0).toNat:Nat):Int)-65)),.int .i64 (-1)])]) rfl rfl (es:=[[.int .i64 ((((((rest.getD 0 0).toNat:Nat):Int)-65)*26)+((((rest.getD 1 0).toNat:Nat):Int)-65)),.int .i64 (-1)]]) rfl rfl rfl fun v26 X27 o28=>?_
                    refine xjw (List.Perm.append_left _ (List.perm_append_comm_assoc _ _ _)) ?_
                    refine xcz (L':=([(b22,.cells #[.int .i64 ((((((rest.getD 0 0).toNat:Nat):Int)-65)*26)+((((rest.getD 1 0).toNat:Nat):Int)-65)),.int .i64 (-1)] 112 (0,0))]:Pcs)++(X1++(X27++[]))) rfl ?_
                    refine xkw ([(b22,.cells #[.int .i64 ((((((rest.getD 0 0).toNat:Nat):Int)-65)*26)+((((rest.getD 1 0).toNat:Nat):Int)-65)),.int .i64 (-1)] 112 (0,0))]:Pcs) X1 X27 (xaz rfl) Tryz.underlying79 xxw yck rfl wjk Tryz.underlying79 rfl rfl o1 o28 (xrk rfl) (by rw [xwz];simp only [List.length_cons,List.length_nil];omega) (by decide) fun v29 X30 o31=>?_
                    refine xfz (tm':=[_,_,_,_,_,_,_,_,_,_,_,_,_,_,_,_,_,_,_,_,_,_,_,_,_,_,_,_,_,_,_,_,_,_,_,_,_,_,_,_,_,_,_,_,_,_,_,_,_,_,_,_,_,_,_,_,_,_,_,_,_,_,_,_,_,_,_,_,_,_,_,_,_,_,_,_,_,_,_,_,_,_,_,_,_,_,_,_,_,_,_,_,_,_,_,_,_,_,_,_,_,_]) rfl ?_
                    refine xaj (xaz rfl) (fun h_ H_=>xaq (v:=v29) rfl) rfl ?_
                    refine xak ?_
                    refine xex ?_
                    exact fun h_ H_=>IH15 _ _ (by simp only [List.length_drop];omega) h_ ⟨(out++[((((((rest.getD 0 0).toNat:Nat):Int)-65)*26)+((((rest.getD 1 0).toNat:Nat):Int)-65),(-1))]),(rest.drop 2),v29,X30,rfl,(y_of rfl),(by rw [List.length_append];simp only [List.length_drop,List.length_singleton];omega),(by rw [← hR];exact (yiq (by rw [hp2,if_pos ‹_›];rfl)).symm),(o31.as (ylz out ((((((rest.getD 0 0).toNat:Nat):Int)-65)*26)+((((rest.getD 1 0).toNat:Nat):Int)-65),(-1)))),H_.drop⟩
                  · refine xcx rfl (xek (decide_eq_false cc25)) ?_
                    refine xbj ?_
                    refine xbj ?_
                    have hne2:=List.length_pos_iff.2 ‹¬ rest.drop 2=[]›
                    have hne3:3≤rest.length:=by rw [List.length_drop] at hne2;omega
                    refine xav ?_
                    refine xaj (xaz rfl) (fun h_ H_=>xax (v:=sv (rest.drop 2)) rfl) rfl ?_
                    refine xaj (xaz rfl) (fun h_ H_=>xiq (l:=rest.drop 2) (i:=0) Tryz.underlying9 rfl rfl (by omega)) (tm':=[_,_,_,_,_,_,_,_,_,_,_,_,_,_,_,_,_,_,_,_,_,_,_,_,_,_,_,_,_,_,_,_,_,_,_,_,_,_,_,_,_,_,_,_,_,_,_,_,_,_,_,_,_,_,_,_,_,_,_,_,_,_,_,_,_,_,_,_,_,_,_,_,_,_,_,_,_,_,_,_,_,_,_,_,_,_,_,_,_,_,_,_,_,_,_,_,_,_,_,_,_,_]) rfl ?_
                    refine xaj (xaz rfl) (fun h_ H_=>xaq (v:=.int .u8 (((((rest.drop 2).getD 0 0).toNat:Nat):Int))) rfl) rfl ?_
                    refine xak ?_
                    refine xeq ?_
                    refine xbj ?_
                    refine xav ?_
                    refine xaj (xaz rfl) (fun h_ H_=>xax (v:=.int .u8 (((((rest.drop 2).getD 0 0).toNat:Nat):Int))) rfl) rfl ?_
                    refine xaj (xaz rfl) (fun h_ H_=>xmj rfl rfl) (tm':=[_,_,_,_,_,_,_,_,_,_,_,_,_,_,_,_,_,_,_,_,_,_,_,_,_,_,_,_,_,_,_,_,_,_,_,_,_,_,_,_,_,_,_,_,_,_,_,_,_,_,_,_,_,_,_,_,_,_,_,_,_,_,_,_,_,_,_,_,_,_,_,_,_,_,_,_,_,_,_,_,_,_,_,_,_,_,_,_,_,_,_,_,_,_,_,_,_,_,_,_,_,_]) rfl ?_
                    refine xaj (xaz rfl) (fun h_ H_=>xaq (v:=.bool (decide (((((rest.drop 2).getD 0 0).toNat:Nat):Int)=126))) rfl) rfl ?_
                    refine xak ?_
                    by_cases cc32:((((rest.drop 2).getD 0 0).toNat:Nat):Int)=126
                    · refine xcx rfl (decide_eq_true cc32) ?_
                      refine xav ?_
                      refine xaj (xaz rfl) (fun h_ H_=>xaw ybz rfl (a':=⟨b22,1,none⟩) rfl) rfl ?_
                      refine xfv (xaz rfl) tS3 rfl (v:=.int .i64 10) rfl (i:=0) rfl rfl rfl (Nat.le_of_ble_eq_true rfl) (cs2:=[.int .i64 ((((((rest.getD 0 0).toNat:Nat):Int)-65)*26)+((((rest.getD 1 0).toNat:Nat):Int)-65)),.int .i64 10]) rfl (xcz (L':=([(b22,.cells #[.int .i64 ((((((rest.getD 0 0).toNat:Nat):Int)-65)*26)+((((rest.getD 1 0).toNat:Nat):Int)-65)),.int .i64 10] 112 (0,0))]:Pcs)++(X1++[])) rfl ?_)
                      refine xak ?_
                      refine xex ?_
                      refine xav ?_
                      refine xaj (xaz rfl) (fun h_ H_=>xax (v:=sv (rest.drop 2)) rfl) (tm':=[_,_,_,_,_,_,_,_,_,_,_,_,_,_,_,_,_,_,_,_,_,_,_,_,_,_,_,_,_,_,_,_,_,_,_,_,_,_,_,_,_,_,_,_,_,_,_,_,_,_,_,_,_,_,_,_,_,_,_,_,_,_,_,_,_,_,_,_,_,_,_,_,_,_,_,_,_,_,_,_,_,_,_,_,_,_,_,_,_,_,_,_,_,_,_,_,_,_,_,_,_,_]) rfl ?_
                      refine xaj (xaz rfl) (fun h_ H_=>xvk (l:=rest.drop 2) (a:=1) Tryz.underlying9 rfl (.nat (z:=1) _ rfl) (by omega)) rfl ?_
                      refine xaj (xaz rfl) (fun h_ H_=>xaq (v:=sv ((rest.drop 2).drop 1)) rfl) rfl ?_
                      refine xak ?_
                      refine xav ?_
                      refine xaj (xaz rfl) (fun h_ H_=>xax (v:=w1) rfl) (tm':=[_,_,_,_,_,_,_,_,_,_,_,_,_,_,_,_,_,_,_,_,_,_,_,_,_,_,_,_,_,_,_,_,_,_,_,_,_,_,_,_,_,_,_,_,_,_,_,_,_,_,_,_,_,_,_,_,_,_,_,_,_,_,_,_,_,_,_,_,_,_,_,_,_,_,_,_,_,_,_,_,_,_,_,_,_,_,_,_,_,_,_,_,_,_,_,_,_,_,_,_,_,_]) rfl ?_
                      refine xaj (xaz rfl) (fun h_ H_=>xbk H_ zov xxw rfl (i:=0) rfl (vs:=[.int .i64 ((((((rest.getD 0 0).toNat:Nat):Int)-65)*26)+((((rest.getD 1 0).toNat:Nat):Int)-65)),.int .i64 10]) rfl rfl) rfl ?_
                      refine xhv ([(b22,.cells #[.int .i64 ((((((rest.getD 0 0).toNat:Nat):Int)-65)*26)+((((rest.getD 1 0).toNat:Nat):Int)-65)),.int .i64 10] 112 (0,0))]:Pcs) (xaz rfl) Tryz.underlying79 xxw yck (Nat.le_of_ble_eq_true rfl) (vs:=[(0,.agg #[.int .i64 ((((((rest.getD 0 0).toNat:Nat):Int)-65)*26)+((((rest.getD 1 0).toNat:Nat):Int)-65)),.int .i64 10])]) rfl rfl (es:=[[.int .i64 ((((((rest.getD 0 0).toNat:Nat):Int)-65)*26)+((((rest.getD 1 0).toNat:Nat):Int)-65)),.int .i64 10]]) rfl rfl rfl fun v33 X34 o35=>?_
                      refine xjw (List.Perm.append_left _ (List.perm_append_comm_assoc _ _ _)) ?_
                      refine xcz (L':=([(b22,.cells #[.int .i64 ((((((rest.getD 0 0).toNat:Nat):Int)-65)*26)+((((rest.getD 1 0).toNat:Nat):Int)-65)),.int .i64 10] 112 (0,0))]:Pcs)++(X1++(X34++[]))) rfl ?_
                      refine xkw ([(b22,.cells #[.int .i64 ((((((rest.getD 0 0).toNat:Nat):Int)-65)*26)+((((rest.getD 1 0).toNat:Nat):Int)-65)),.int .i64 10] 112 (0,0))]:Pcs) X1 X34 (xaz rfl) Tryz.underlying79 xxw yck rfl wjk Tryz.underlying79 rfl rfl o1 o35 (xrk rfl) (by rw [xwz];simp only [List.length_cons,List.length_nil];omega) (by decide) fun v36 X37 o38=>?_
                      refine xfz (tm':=[_,_,_,_,_,_,_,_,_,_,_,_,_,_,_,_,_,_,_,_,_,_,_,_,_,_,_,_,_,_,_,_,_,_,_,_,_,_,_,_,_,_,_,_,_,_,_,_,_,_,_,_,_,_,_,_,_,_,_,_,_,_,_,_,_,_,_,_,_,_,_,_,_,_,_,_,_,_,_,_,_,_,_,_,_,_,_,_,_,_,_,_,_,_,_,_,_,_,_,_,_,_]) rfl ?_
                      refine xaj (xaz rfl) (fun h_ H_=>xaq (v:=v36) rfl) rfl ?_
                      refine xak ?_
                      refine xex ?_
                      exact fun h_ H_=>IH15 _ _ (by simp only [List.length_drop];omega) h_ ⟨(out++[((((((rest.getD 0 0).toNat:Nat):Int)-65)*26)+((((rest.getD 1 0).toNat:Nat):Int)-65),10)]),((rest.drop 2).drop 1),v36,X37,rfl,(y_of rfl),(by rw [List.length_append];simp only [List.length_drop,List.length_singleton];omega),(by rw [← hR];exact (yiq (by rw [hp2,if_neg ‹_›,if_pos (by omega)];rfl)).symm),(o38.as (ylz out ((((((rest.getD 0 0).toNat:Nat):Int)-65)*26)+((((rest.getD 1 0).toNat:Nat):Int)-65),10))),H_.drop⟩
                    · refine xcv rfl (decide_eq_false cc32) ?_
                      refine xbj ?_
                      refine xav ?_
                      refine xaj (xaz rfl) (fun h_ H_=>xax (v:=.int .u8 (((((rest.drop 2).getD 0 0).toNat:Nat):Int))) rfl) rfl ?_
                      refine xaj (xaz rfl) (fun h_ H_=>xfk rfl rfl) (tm':=[_,_,_,_,_,_,_,_,_,_,_,_,_,_,_,_,_,_,_,_,_,_,_,_,_,_,_,_,_,_,_,_,_,_,_,_,_,_,_,_,_,_,_,_,_,_,_,_,_,_,_,_,_,_,_,_,_,_,_,_,_,_,_,_,_,_,_,_,_,_,_,_,_,_,_,_,_,_,_,_,_,_,_,_,_,_,_,_,_,_,_,_,_,_,_,_,_,_,_,_,_,_]) rfl ?_
                      refine xaj (xaz rfl) (fun h_ H_=>xax (v:=.bool (decide (((((rest.drop 2).getD 0 0).toNat:Nat):Int)<32))) rfl) rfl ?_
                      by_cases cc39:((((rest.drop 2).getD 0 0).toNat:Nat):Int)<32
                      · refine xck (xhx rfl rfl (decide_eq_true cc39)) rfl ?_
                        refine xck (xhx rfl rfl (decide_eq_true cc39)) (tm':=[_,_,_,_,_,_,_,_,_,_,_,_,_,_,_,_,_,_,_,_,_,_,_,_,_,_,_,_,_,_,_,_,_,_,_,_,_,_,_,_,_,_,_,_,_,_,_,_,_,_,_,_,_,_,_,_,_,_,_,_,_,_,_,_,_,_,_,_,_,_,_,_,_,_,_,_,_,_,_,_,_,_,_,_,_,_,_,_,_,_,_,_,_,_,_,_,_,_,_,_,_,_]) rfl ?_
                        refine xaj (xaz rfl) (fun h_ H_=>xbw rfl (decide_eq_true cc39) (v:=.bool (true)) rfl) rfl ?_
                        refine xaj (xaz rfl) (fun h_ H_=>xaq (v:=.bool (true)) rfl) rfl ?_
                        refine xak ?_
                        refine xcx rfl rfl ?_
                        refine xbj ?_
                        refine xav ?_
                        refine xaj (xaz rfl) (fun h_ H_=>xaq (v:=.slice none 0 0) rfl) (tm':=_::_::_::_) rfl ?_
                        refine xaj (xaz rfl) (fun h_ H_=>xaq (v:=.bool (false)) rfl) rfl ?_
                        refine xak ?_
                        refine xcj Tryz.func39 rfl (vs:=[.slice none 0 0,.bool (false)]) (fun h_ H_=>⟨.slice none 0 0,_,rfl,rfl,⟨.bool (false),_,rfl,rfl,rfl⟩⟩) (v:=.tuple #[.slice none 0 0,.bool (false)]) rfl ?_
                        have hN:formB s=none:=by
                          rw [formB,if_neg hf1,if_neg hf2,← hR]
                          refine ydq (List.length_pos_iff.1 hne) ?_
                          first | exact xok (.inl (by omega)) | exact xok (.inr (.inl (by assumption))) | exact xok (.inr (.inr (by assumption))) | (rw [hp2,if_neg ‹_›,if_neg (by omega),if_pos (by omega)])
                        exact fun h_ H_=>K _ _ ⟨.slice none 0 0,[],by rw [hN];rfl,by rw [hN];exact OwnS.empty _ _,(H_.sub (List.nil_sublist _)).new⟩
                      · refine xaj (xhz rfl rfl (decide_eq_false cc39)) (fun h_ H_=>xax (v:=.int .u8 (((((rest.drop 2).getD 0 0).toNat:Nat):Int))) rfl) rfl ?_
                        refine xaj (xhz rfl rfl (decide_eq_false cc39)) (fun h_ H_=>xjx rfl rfl) (tm':=[_,_,_,_,_,_,_,_,_,_,_,_,_,_,_,_,_,_,_,_,_,_,_,_,_,_,_,_,_,_,_,_,_,_,_,_,_,_,_,_,_,_,_,_,_,_,_,_,_,_,_,_,_,_,_,_,_,_,_,_,_,_,_,_,_,_,_,_,_,_,_,_,_,_,_,_,_,_,_,_,_,_,_,_,_,_,_,_,_,_,_,_,_,_,_,_,_,_,_,_,_,_]) rfl ?_
                        refine xaj (xaz rfl) (fun h_ H_=>xdq rfl (decide_eq_false cc39) (v:=.bool (decide (125<((((rest.drop 2).getD 0 0).toNat:Nat):Int)))) rfl) rfl ?_
                        refine xaj (xaz rfl) (fun h_ H_=>xaq (v:=.bool (decide (125<((((rest.drop 2).getD 0 0).toNat:Nat):Int)))) rfl) rfl ?_
                        refine xak ?_
                        by_cases cc40:125<((((rest.drop 2).getD 0 0).toNat:Nat):Int)
                        · refine xcx rfl (decide_eq_true cc40) ?_
                          refine xbj ?_
                          refine xav ?_
                          refine xaj (xaz rfl) (fun h_ H_=>xaq (v:=.slice none 0 0) rfl) (tm':=_::_::_::_) rfl ?_
                          refine xaj (xaz rfl) (fun h_ H_=>xaq (v:=.bool (false)) rfl) rfl ?_
                          refine xak ?_
                          refine xcj Tryz.func39 rfl (vs:=[.slice none 0 0,.bool (false)]) (fun h_ H_=>⟨.slice none 0 0,_,rfl,rfl,⟨.bool (false),_,rfl,rfl,rfl⟩⟩) (v:=.tuple #[.slice none 0 0,.bool (false)]) rfl ?_
                          have hN:formB s=none:=by
                            rw [formB,if_neg hf1,if_neg hf2,← hR]
                            refine ydq (List.length_pos_iff.1 hne) ?_
                            first | exact xok (.inl (by omega)) | exact xok (.inr (.inl (by assumption))) | exact xok (.inr (.inr (by assumption))) | (rw [hp2,if_neg ‹_›,if_neg (by omega),if_pos (by omega)])
                          exact fun h_ H_=>K _ _ ⟨.slice none 0 0,[],by rw [hN];rfl,by rw [hN];exact OwnS.empty _ _,(H_.sub (List.nil_sublist _)).new⟩
                        · refine xcv rfl (decide_eq_false cc40) ?_
                          refine xav ?_
                          refine xaj (xaz rfl) (fun h_ H_=>xax (v:=.int .u8 (((((rest.drop 2).getD 0 0).toNat:Nat):Int))) rfl) rfl ?_
                          refine xaj (xaz rfl) (fun h_ H_=>xoz ⟨_,Tryz.underlying5⟩ Tryz.underlying3 rfl (n:=((((rest.drop 2).getD 0 0).toNat:Nat):Int)) (wrB _)) (tm':=[_,_,_,_,_,_,_,_,_,_,_,_,_,_,_,_,_,_,_,_,_,_,_,_,_,_,_,_,_,_,_,_,_,_,_,_,_,_,_,_,_,_,_,_,_,_,_,_,_,_,_,_,_,_,_,_,_,_,_,_,_,_,_,_,_,_,_,_,_,_,_,_,_,_,_,_,_,_,_,_,_,_,_,_,_,_,_,_,_,_,_,_,_,_,_,_,_,_,_,_,_,_]) rfl ?_
                          refine xaj (xaz rfl) (fun h_ H_=>xaw ybz rfl (a':=⟨b22,1,none⟩) rfl) rfl ?_
                          refine xfv (xaz rfl) tS3 rfl (v:=.int .i64 (((((rest.drop 2).getD 0 0).toNat:Nat):Int))) rfl (i:=0) rfl rfl rfl (Nat.le_of_ble_eq_true rfl) (cs2:=[.int .i64 ((((((rest.getD 0 0).toNat:Nat):Int)-65)*26)+((((rest.getD 1 0).toNat:Nat):Int)-65)),.int .i64 (((((rest.drop 2).getD 0 0).toNat:Nat):Int))]) rfl (xcz (L':=([(b22,.cells #[.int .i64 ((((((rest.getD 0 0).toNat:Nat):Int)-65)*26)+((((rest.getD 1 0).toNat:Nat):Int)-65)),.int .i64 (((((rest.drop 2).getD 0 0).toNat:Nat):Int))] 112 (0,0))]:Pcs)++(X1++[])) rfl ?_)
                          refine xak ?_
                          refine xex ?_
                          refine xav ?_
                          refine xaj (xaz rfl) (fun h_ H_=>xax (v:=sv (rest.drop 2)) rfl) rfl ?_
                          refine xaj (xaz rfl) (fun h_ H_=>xvk (l:=rest.drop 2) (a:=1) Tryz.underlying9 rfl (.nat (z:=1) _ rfl) (by omega)) (tm':=[_,_,_,_,_,_,_,_,_,_,_,_,_,_,_,_,_,_,_,_,_,_,_,_,_,_,_,_,_,_,_,_,_,_,_,_,_,_,_,_,_,_,_,_,_,_,_,_,_,_,_,_,_,_,_,_,_,_,_,_,_,_,_,_,_,_,_,_,_,_,_,_,_,_,_,_,_,_,_,_,_,_,_,_,_,_,_,_,_,_,_,_,_,_,_,_,_,_,_,_,_,_]) rfl ?_
                          refine xaj (xaz rfl) (fun h_ H_=>xaq (v:=sv ((rest.drop 2).drop 1)) rfl) rfl ?_
                          refine xak ?_
                          refine xav ?_
                          refine xaj (xaz rfl) (fun h_ H_=>xax (v:=w1) rfl) rfl ?_
                          refine xaj (xaz rfl) (fun h_ H_=>xbk H_ zov xxw rfl (i:=0) rfl (vs:=[.int .i64 ((((((rest.getD 0 0).toNat:Nat):Int)-65)*26)+((((rest.getD 1 0).toNat:Nat):Int)-65)),.int .i64 (((((rest.drop 2).getD 0 0).toNat:Nat):Int))]) rfl rfl) (tm':=[_,_,_,_,_,_,_,_,_,_,_,_,_,_,_,_,_,_,_,_,_,_,_,_,_,_,_,_,_,_,_,_,_,_,_,_,_,_,_,_,_,_,_,_,_,_,_,_,_,_,_,_,_,_,_,_,_,_,_,_,_,_,_,_,_,_,_,_,_,_,_,_,_,_,_,_,_,_,_,_,_,_,_,_,_,_,_,_,_,_,_,_,_,_,_,_,_,_,_,_,_,_]) rfl ?_
                          refine xhv ([(b22,.cells #[.int .i64 ((((((rest.getD 0 0).toNat:Nat):Int)-65)*26)+((((rest.getD 1 0).toNat:Nat):Int)-65)),.int .i64 (((((rest.drop 2).getD 0 0).toNat:Nat):Int))] 112 (0,0))]:Pcs) (xaz rfl) Tryz.underlying79 xxw yck (Nat.le_of_ble_eq_true rfl) (vs:=[(0,.agg #[.int .i64 ((((((rest.getD 0 0).toNat:Nat):Int)-65)*26)+((((rest.getD 1 0).toNat:Nat):Int)-65)),.int .i64 (((((rest.drop 2).getD 0 0).toNat:Nat):Int))])]) rfl rfl (es:=[[.int .i64 ((((((rest.getD 0 0).toNat:Nat):Int)-65)*26)+((((rest.getD 1 0).toNat:Nat):Int)-65)),.int .i64 (((((rest.drop 2).getD 0 0).toNat:Nat):Int))]]) rfl rfl rfl fun v41 X42 o43=>?_
                          refine xjw (List.Perm.append_left _ (List.perm_append_comm_assoc _ _ _)) ?_
                          refine xcz (L':=([(b22,.cells #[.int .i64 ((((((rest.getD 0 0).toNat:Nat):Int)-65)*26)+((((rest.getD 1 0).toNat:Nat):Int)-65)),.int .i64 (((((rest.drop 2).getD 0 0).toNat:Nat):Int))] 112 (0,0))]:Pcs)++(X1++(X42++[]))) rfl ?_
                          refine xkw ([(b22,.cells #[.int .i64 ((((((rest.getD 0 0).toNat:Nat):Int)-65)*26)+((((rest.getD 1 0).toNat:Nat):Int)-65)),.int .i64 (((((rest.drop 2).getD 0 0).toNat:Nat):Int))] 112 (0,0))]:Pcs) X1 X42 (xaz rfl) Tryz.underlying79 xxw yck rfl wjk Tryz.underlying79 rfl rfl o1 o43 (xrk rfl) (by rw [xwz];simp only [List.length_cons,List.length_nil];omega) (by decide) fun v44 X45 o46=>?_
                          refine xaj (xaz rfl) (fun h_ H_=>xaq (v:=v44) rfl) (tm':=_::_::_::_::_::_::_::_::_) rfl ?_
                          refine xak ?_
                          refine xex ?_
                          exact fun h_ H_=>IH15 _ _ (by simp only [List.length_drop];omega) h_ ⟨(out++[((((((rest.getD 0 0).toNat:Nat):Int)-65)*26)+((((rest.getD 1 0).toNat:Nat):Int)-65),((((rest.drop 2).getD 0 0).toNat:Nat):Int))]),((rest.drop 2).drop 1),v44,X45,rfl,(y_of rfl),(by rw [List.length_append];simp only [List.length_drop,List.length_singleton];omega),(by rw [← hR];exact (yiq (by rw [hp2,if_neg ‹_›,if_neg (by omega),if_neg (by omega)];rfl)).symm),(o46.as (ylz out ((((((rest.getD 0 0).toNat:Nat):Int)-65)*26)+((((rest.getD 1 0).toNat:Nat):Int)-65),((((rest.drop 2).getD 0 0).toNat:Nat):Int)))),H_.drop⟩
                · refine xcx rfl (xek (decide_eq_false cc19)) ?_
                  refine xbj ?_
                  refine xav ?_
                  refine xaj (xaz rfl) (fun h_ H_=>xaq (v:=.slice none 0 0) rfl) rfl ?_
                  refine xaj (xaz rfl) (fun h_ H_=>xaq (v:=.bool (false)) rfl) rfl ?_
                  refine xak ?_
                  refine xcj Tryz.func39 rfl (vs:=[.slice none 0 0,.bool (false)]) (fun h_ H_=>⟨.slice none 0 0,_,rfl,rfl,⟨.bool (false),_,rfl,rfl,rfl⟩⟩) (v:=.tuple #[.slice none 0 0,.bool (false)]) rfl ?_
                  have hN:formB s=none:=by
                    rw [formB,if_neg hf1,if_neg hf2,← hR]
                    refine ydq (List.length_pos_iff.1 hne) ?_
                    first | exact xok (.inl (by omega)) | exact xok (.inr (.inl (by assumption))) | exact xok (.inr (.inr (by assumption))) | (rw [hp2,if_neg ‹_›,if_neg (by omega),if_pos (by omega)])
                  exact fun h_ H_=>K _ _ ⟨.slice none 0 0,[],by rw [hN];rfl,by rw [hN];exact OwnS.empty _ _,(H_.sub (List.nil_sublist _)).new⟩
              · refine xck (xhx rfl rfl (xek (decide_eq_false cc18))) (tm':=_::_::_::_::_::_::_::_::_::_::_::_::_::_::_::_::_::_::_::_::_::_::_::_::_::_::_::_::_::_::_::_::_::_::_::_::_::_::_::_::_::_::_::_::_::_::_::_::_::_::_::_::_::_::_::_::_::_::_::_::_) rfl ?_
                refine xck (xhx rfl rfl (xek (decide_eq_false cc18))) rfl ?_
                refine xck (xhx rfl rfl (xek (decide_eq_false cc18))) rfl ?_
                refine xck (xhx rfl rfl (xek (decide_eq_false cc18))) (tm':=_::_::_::_::_::_::_::_::_::_::_::_::_::_::_::_::_::_::_::_::_::_::_::_::_::_::_::_::_::_::_::_::_::_::_::_::_::_::_::_::_::_::_::_::_::_::_::_::_::_::_::_::_::_::_::_::_::_::_::_::_::_::_::_) rfl ?_
                refine xaj (xaz rfl) (fun h_ H_=>xbw rfl (xek (decide_eq_false cc18)) (v:=.bool (true)) rfl) rfl ?_
                refine xak ?_
                refine xcx rfl rfl ?_
                refine xbj ?_
                refine xav ?_
                refine xaj (xaz rfl) (fun h_ H_=>xaq (v:=.slice none 0 0) rfl) rfl ?_
                refine xaj (xaz rfl) (fun h_ H_=>xaq (v:=.bool (false)) rfl) (tm':=_::_::_::_::_) rfl ?_
                refine xak ?_
                refine xcj Tryz.func39 rfl (vs:=[.slice none 0 0,.bool (false)]) (fun h_ H_=>⟨.slice none 0 0,_,rfl,rfl,⟨.bool (false),_,rfl,rfl,rfl⟩⟩) (v:=.tuple #[.slice none 0 0,.bool (false)]) rfl ?_
                have hN:formB s=none:=by
                  rw [formB,if_neg hf1,if_neg hf2,← hR]
                  refine ydq (List.length_pos_iff.1 hne) ?_
                  first | exact xok (.inl (by omega)) | exact xok (.inr (.inl (by assumption))) | exact xok (.inr (.inr (by assumption))) | (rw [hp2,if_neg ‹_›,if_neg (by omega),if_pos (by omega)])
                exact fun h_ H_=>K _ _ ⟨.slice none 0 0,[],by rw [hN];rfl,by rw [hN];exact OwnS.empty _ _,(H_.sub (List.nil_sublist _)).new⟩
end Go.Proofs.YtphalmjpbnffcaaGreatDoor
namespace Go.Proofs.YtphalmjpbnffcaaGreatDoor
open Go.X Go.X.Cent Go.Conc
set_option maxRecDepth 10000
set_option synthInstance.maxSize 2000
set_option synthInstance.maxHeartbeats 400000

theorem c42 (h:Heap) (l:By) (c:UInt8) (hl:l.length<4294967281):CallsX Tryz.prog .lone 42 #[sv l,sv ([c])] h fun v h'=>∃ w X,v=w∧OwnS 9 1 w (scs (cutAfter c l)) X∧New h h' X:=by
  refine xbv (Φ:=fun h_=>St h [] (fun _=>none) h_ []) Tryz.func42 rfl (tm:=[_,_,_,_,_,_,_,_,_,_]) rfl ?_ (St.start h _ (fun _ _ e=>by cases e))
  intro c₀ cs Stop K
  refine xbj ?_
  refine xav ?_
  refine xaj (xaz rfl) (fun h_ H_=>xaq (v:=.slice none 0 0) rfl) rfl ?_
  refine xak ?_
  refine xbj ?_
  refine xav ?_
  refine xaj (xaz rfl) (fun h_ H_=>xax (v:=sv l) rfl) rfl ?_
  refine xaj (xaz rfl) (fun h_ H_=>xax (v:=sv ([c])) rfl) (tm':=[_,_,_,_,_,_,_,_,_,_]) rfl ?_
  refine xaj (xaz rfl) (fun h_ H_=>xax (v:=sv ([c])) rfl) rfl ?_
  refine xaj (xaz rfl) (fun h_ H_=>xkz (l:=[c]) Tryz.underlying9 rfl) rfl ?_
  refine xcz (L':=([]:Pcs)++[]) rfl ?_
  refine xgv (xaz rfl) (first:=[]) (cap:=[]) rfl rfl fC71 (R:=fun v_ h_=>∃ w1:Value,∃ X2:Pcs,v_=w1∧(OwnS 9 1 w1 (scs (cutAfter c l)) X2)∧St h [] (fun _=>none) h_ (([]:Pcs)++(X2++[]))) (fun h_ H_=>(c71 _ l c (by omega)).mono fun v_ h2_ ⟨w1,X2,e_,o3,N_⟩=>⟨w1,X2,e_,o3,H_.callNA N_⟩) fun v_=>?_
  refine xgx fun w1=>xgx fun X2=>xez fun ev_=>xez fun o3=>?_
  have ev_:=ev_.symm;subst ev_
  refine xcz (L':=([]:Pcs)++(X2++[])) rfl ?_
  refine xfz (tm':=[_,_,_,_,_,_,_,_,_,_]) rfl ?_
  refine xaj (xaz rfl) (fun h_ H_=>xaq (v:=w1) rfl) rfl ?_
  refine xak ?_
  refine xcj Tryz.func42 rfl (vs:=[w1]) (fun h_ H_=>⟨w1,_,rfl,rfl,rfl⟩) (v:=w1) rfl ?_
  exact fun h_ H_=>K _ _ ⟨_,_,rfl,o3,by simpa using H_.new⟩
end Go.Proofs.YtphalmjpbnffcaaGreatDoor
namespace Go.Proofs.YtphalmjpbnffcaaGreatDoor
open Go.X Go.X.Cent Go.Conc
set_option maxRecDepth 10000
set_option synthInstance.maxSize 2000
set_option synthInstance.maxHeartbeats 400000

set_option maxHeartbeats 1000000
theorem c14 (h:Heap) (ht:Tab h) (s:By) (hs:s.length≤2 ^ 60):CallsX Tryz.prog .lone 14 #[sv s] h fun v h'=>∃ w X,v= .tuple #[w,.int .i64 (readB s).1]∧OwnS 9 1 w (scs (readB s).2) X∧New h h' X:=by
  refine xbv (Φ:=fun h_=>St h [] (fun _=>none) h_ []) Tryz.func14 rfl (tm:=[_,_,_,_,_,_,_,_,_,_,_,_,_,_,_,_,_,_,_,_,_,_,_,_,_,_,_,_,_,_,_,_,_,_,_,_,_,_,_,_,_,_,_,_,_,_,_,_,_,_,_,_,_,_,_,_,_,_,_,_,_,_,_,_,_,_,_,_]) rfl ?_ (St.start h _ (fun _ _ e=>by cases e))
  intro c₀ cs Stop K
  refine xbj ?_
  refine xav ?_
  refine xaj (xaz rfl) (fun h_ H_=>xaq (v:=.slice none 0 0) rfl) rfl ?_
  refine xaj (xaz rfl) (fun h_ H_=>xaq (v:=.int .i64 0) rfl) rfl ?_
  refine xak ?_
  refine xbj ?_
  refine xav ?_
  refine xaj (xaz rfl) (fun h_ H_=>xax (v:=sv s) rfl) (tm':=_::_::_::_::_::_::_::_::_::_::_::_::_) rfl ?_
  refine xcz (L':=([]:Pcs)++[]) rfl ?_
  refine xgv (xaz rfl) (first:=[]) (cap:=[]) rfl rfl fC39 (R:=fun v_ h_=>∃ w1:Value,∃ X2:Pcs,v_= .tuple #[w1,.bool ((formB s).isSome)]∧(OwnS 112 2 w1 (pies ((formB s).getD [])) X2)∧St h [] (fun _=>none) h_ (([]:Pcs)++(X2++[]))) (fun h_ H_=>(c39 _ s (by omega)).mono fun v_ h2_ ⟨w1,X2,e_,o3,N_⟩=>⟨w1,X2,e_,o3,H_.callNA N_⟩) fun v_=>?_
  refine xgx fun w1=>xgx fun X2=>xez fun ev_=>xez fun o3=>?_
  have ev_:=ev_.symm;subst ev_
  refine xcz (L':=([]:Pcs)++(X2++[])) rfl ?_
  refine xaj (xaz rfl) (fun h_ H_=>xax (v:=.tuple #[w1,.bool ((formB s).isSome)]) rfl) rfl ?_
  refine xaj (xaz rfl) (fun h_ H_=>xdw rfl (v:=w1) rfl) (tm':=_::_::_::_::_::_::_::_::_::_::_::_::_::_::_) rfl ?_
  refine xaj (xaz rfl) (fun h_ H_=>xdw rfl (v:=.bool ((formB s).isSome)) rfl) rfl ?_
  refine xaj (xaz rfl) (fun h_ H_=>xaq (v:=w1) rfl) rfl ?_
  refine xaj (xaz rfl) (fun h_ H_=>xaq (v:=.bool ((formB s).isSome)) rfl) (tm':=_::_::_::_::_::_::_) rfl ?_
  refine xak ?_
  refine xbj ?_
  refine xbj ?_
  refine xav ?_
  refine xaj (xaz rfl) (fun h_ H_=>xax (v:=.bool ((formB s).isSome)) rfl) rfl ?_
  refine xaj (xaz rfl) (fun h_ H_=>xfw rfl) rfl ?_
  refine xak ?_
  rcases xtx ((formB s).isSome) with cc4 | cc4
  · refine xcv rfl (xej cc4) ?_
    refine xdz ?_
    refine xbj ?_
    refine xbj ?_
    obtain ⟨l,hl⟩:=Option.isSome_iff_exists.1 ‹(formB s).isSome=true›
    have h5:=zbq hl
    have e5:(((s.length:Nat):Int)-5).toNat=s.length-5:=by omega
    have hx:(formB s).getD []=l:=by rw [hl];rfl
    have hfo:=zxv s
    refine xav ?_
    refine xaj (xaz rfl) (fun h_ H_=>xax (v:=sv s) rfl) (tm':=_::_::_::_::_::_::_::_::_::_::_::_::_::_::_::_::_::_::_) rfl ?_
    refine xaj (xaz rfl) (fun h_ H_=>xax (v:=sv s) rfl) rfl ?_
    refine xaj (xaz rfl) (fun h_ H_=>xkz (l:=s) Tryz.underlying9 rfl) rfl ?_
    refine xaj (xaz rfl) (fun h_ H_=>xlv rfl rfl (wr (by omega))) (tm':=_::_::_::_::_::_::_::_::_::_::_::_::_::_::_::_::_::_::_::_::_::_) rfl ?_
    refine xaj (xaz rfl) (fun h_ H_=>xvz (l:=s) (r:=((((s.length:Nat):Int)-5)).toNat) Tryz.underlying9 rfl (.some _ rfl (by omega)) (by omega)) rfl ?_
    refine xcw (xaz rfl) (first:=[]) (cap:=[]) rfl rfl fC40 (fun h_ H_=>c40 _ (ht.keep H_.kept) (s.take (((((s.length:Nat):Int)-5)).toNat)) (by rw [List.length_take];omega)) rfl ?_
    refine xaj (xaz rfl) (fun h_ H_=>xax (v:=sv s) rfl) (tm':=_::_::_::_::_::_::_::_::_::_::_::_::_::_::_::_::_::_::_::_::_::_::_::_::_) rfl ?_
    refine xaj (xaz rfl) (fun h_ H_=>xzj (l:=sealB (s.take (((((s.length:Nat):Int)-5)).toNat))) (m:=s) rfl rfl) rfl ?_
    refine xak ?_
    by_cases cc5:sealB (s.take (((((s.length:Nat):Int)-5)).toNat))=s
    · refine xcv rfl (xej (decide_eq_true cc5)) ?_
      refine xdz ?_
      refine xbj ?_
      refine xav ?_
      refine xaj (xaz rfl) (fun h_ H_=>xax (v:=w1) rfl) rfl ?_
      refine xgv (xaz rfl) (first:=[]) (cap:=[]) rfl rfl fC41 (R:=fun v_ h_=>∃ w6:Value,∃ X7:Pcs,v_= .tuple #[sv (((rdTo [] ((formB s).getD [])).getD []).flatten),w6,.bool ((rdTo [] ((formB s).getD [])).isSome)]∧(OwnS 9 1 w6 (scs ((rdTo [] ((formB s).getD [])).getD [])) X7)∧St h [] (fun _=>none) h_ (([]:Pcs)++(X7++(X2++[])))) (fun h_ H_=>(c41o .lone o3 H_ (fun x_ h_=>by simp [h_]) (by omega) (wgx s)).mono fun v_ h2_ ⟨w6,X7,e_,o8,N_⟩=>⟨w6,X7,e_,o8,H_.callNA N_⟩) fun v_=>?_
      refine xgx fun w6=>xgx fun X7=>xez fun ev_=>xez fun o8=>?_
      have ev_:=ev_.symm;subst ev_
      refine xcz (L':=([]:Pcs)++(X7++(X2++[]))) rfl ?_
      refine xfz (tm':=_::_::_::_::_::_::_::_::_::_::_::_::_::_::_::_::_::_::_::_::_::_::_::_::_::_::_::_::_) rfl ?_
      refine xaj (xaz rfl) (fun h_ H_=>xax (v:=.tuple #[sv (((rdTo [] ((formB s).getD [])).getD []).flatten),w6,.bool ((rdTo [] ((formB s).getD [])).isSome)]) rfl) rfl ?_
      refine xaj (xaz rfl) (fun h_ H_=>xdw rfl (v:=sv (((rdTo [] ((formB s).getD [])).getD []).flatten)) rfl) rfl ?_
      refine xaj (xaz rfl) (fun h_ H_=>xdw rfl (v:=w6) rfl) (tm':=_::_::_::_::_::_::_::_::_::_::_::_::_::_::_::_::_::_::_::_::_::_::_::_::_::_::_::_::_::_::_) rfl ?_
      refine xaj (xaz rfl) (fun h_ H_=>xdw rfl (v:=.bool ((rdTo [] ((formB s).getD [])).isSome)) rfl) rfl ?_
      refine xaj (xaz rfl) (fun h_ H_=>xaq (v:=sv (((rdTo [] ((formB s).getD [])).getD []).flatten)) rfl) rfl ?_
      refine xaj (xaz rfl) (fun h_ H_=>xaq (v:=w6) rfl) (tm':=_::_::_::_::_::_::_::_::_) rfl ?_
      refine xaj (xaz rfl) (fun h_ H_=>xaq (v:=.bool ((rdTo [] ((formB s).getD [])).isSome)) rfl) rfl ?_
      refine xak ?_
      refine xbj ?_
      refine xbj ?_
      refine xav ?_
      refine xaj (xaz rfl) (fun h_ H_=>xax (v:=.bool ((rdTo [] ((formB s).getD [])).isSome)) rfl) rfl ?_
      refine xaj (xaz rfl) (fun h_ H_=>xfw rfl) (tm':=_::_::_::_::_::_::_::_::_::_::_::_::_::_::_::_::_::_::_::_::_::_::_::_::_::_::_::_::_::_::_::_::_::_) rfl ?_
      refine xak ?_
      rcases xtx ((rdTo [] ((formB s).getD [])).isSome) with cc9 | cc9
      · refine xcv rfl (xej cc9) ?_
        refine xdz ?_
        refine xbj ?_
        obtain ⟨e,he⟩:=Option.isSome_iff_exists.1 ‹(rdTo [] ((formB s).getD [])).isSome=true›
        have hfl:=wmx he (by omega)
        rw [hx] at he
        have hAL:((rdTo [] ((formB s).getD [])).getD []).flatten=e.flatten:=by rw [hx,he];rfl
        have hfl2:((rdTo [] ((formB s).getD [])).getD []).flatten.length≤1000000:=by rw [hAL];exact hfl
        have hcl:=zmz (((rdTo [] ((formB s).getD [])).getD []).flatten)
        refine xav ?_
        refine xaj (xaz rfl) (fun h_ H_=>xax (v:=sv (((rdTo [] ((formB s).getD [])).getD []).flatten)) rfl) rfl ?_
        refine xhv ([]:Pcs) (xaz rfl) Tryz.underlying47 tS5 tZ5 (Nat.le_of_ble_eq_true rfl) (vs:=[(0,.int .u8 10)]) rfl rfl (es:=[[.int .u8 10]]) rfl rfl rfl fun v10 X11 o12=>?_
        refine xaj (xaz rfl) (fun h_ H_=>xvj (A:=([]:Pcs)) (o12.as (show _=bcs [10] from rfl)) H_ Tryz.underlying47 Tryz.underlying9 Tryz.underlying5 rfl) (tm':=_::_::_::_::_::_::_::_::_::_::_::_::_::_::_::_::_::_::_::_::_::_::_::_::_::_::_::_::_::_::_::_::_::_::_::_::_) rfl ?_
        refine xgv (xaz rfl) (first:=[]) (cap:=[]) rfl rfl fC42 (R:=fun v_ h_=>∃ w13:Value,∃ X14:Pcs,v_=w13∧(OwnS 9 1 w13 (scs (cutAfter 10 (((rdTo [] ((formB s).getD [])).getD []).flatten))) X14)∧St h [] (fun _=>none) h_ (([]:Pcs)++(X14++(X11++(X7++(X2++[])))))) (fun h_ H_=>(c42 _ (((rdTo [] ((formB s).getD [])).getD []).flatten) 10 (by omega)).mono fun v_ h2_ ⟨w13,X14,e_,o15,N_⟩=>⟨w13,X14,e_,o15,H_.callNA N_⟩) fun v_=>?_
        refine xgx fun w13=>xgx fun X14=>xez fun ev_=>xez fun o15=>?_
        have ev_:=ev_.symm;subst ev_
        refine xcz (L':=([]:Pcs)++(X14++(X11++(X7++(X2++[]))))) rfl ?_
        refine xaj (xaz rfl) (fun h_ H_=>xaq (v:=w13) rfl) rfl ?_
        refine xak ?_
        refine xbj ?_
        refine xav ?_
        refine xaj (xaz rfl) (fun h_ H_=>xax (v:=w13) rfl) (tm':=_::_::_::_::_::_::_::_::_::_::_::_::_::_::_::_::_::_::_::_::_::_::_::_::_::_::_::_::_::_::_::_::_::_::_::_::_::_::_) rfl ?_
        refine xaj (xaz rfl) (fun h_ H_=>xax (v:=w13) rfl) rfl ?_
        refine xaj (xaz rfl) (fun h_ H_=>yiw o15 (xgq _) Tryz.underlying33 rfl) rfl ?_
        refine xaj (xaz rfl) (fun h_ H_=>xlv rfl rfl (wr (by omega))) (tm':=_::_::_::_::_::_::_::_::_::_::_::_::_::_::_::_::_::_::_::_::_::_::_::_::_::_::_::_::_::_::_::_::_::_::_::_::_::_::_::_::_::_) rfl ?_
        refine xaj (xaz rfl) (fun h_ H_=>zzq (by decide) o15 (xgq _) Tryz.underlying33 tS9 rfl (.some _ rfl (by omega)) (by omega)) rfl ?_
        refine xaj (xaz rfl) (fun h_ H_=>xaq (v:=(tkV w13 ((((((cutAfter 10 (((rdTo [] ((formB s).getD [])).getD []).flatten)).length:Nat):Int)-1)).toNat))) rfl) rfl ?_
        refine xak ?_
        refine xbj ?_
        refine xbj ?_
        refine xqk (List.Perm.append_left _ (List.perm_append_comm_assoc _ _ _)) ?_
        refine xqk (List.Perm.append_left _ (List.Perm.append_left _ (List.perm_append_comm_assoc _ _ _))) ?_
        refine xqk (List.Perm.append_left _ (List.Perm.append_left _ (List.Perm.append_left _ (List.perm_append_comm_assoc _ _ _)))) ?_
        refine xrq (L':=([]:Pcs)++(X11++(X7++(X2++(X14++[]))))) rfl ?_
        refine yoj (Φ:=fun h_=>St h [] (fun _=>none) h_ (([]:Pcs)++(X14++[]))) ?_ (fun h_ H_=>St.dropX (A:=([]:Pcs)) (St.dropX (A:=([]:Pcs)) (St.dropX (A:=([]:Pcs)) H_)))
        refine xrq (L':=([]:Pcs)++(X14++[])) rfl ?_
        obtain ⟨TS,hTS⟩: ∃ TS,TS=(cutAfter 10 (((rdTo [] ((formB s).getD [])).getD []).flatten)).take ((((((cutAfter 10 (((rdTo [] ((formB s).getD [])).getD []).flatten)).length:Nat):Int)-1)).toNat):=⟨_,rfl⟩
        have oT:OwnS 9 1 (tkV w13 ((((((cutAfter 10 (((rdTo [] ((formB s).getD [])).getD []).flatten)).length:Nat):Int)-1)).toNat)) (scs TS) X14:=(OwnS.take o15 (k:=(((((cutAfter 10 (((rdTo [] ((formB s).getD [])).getD []).flatten)).length:Nat):Int)-1)).toNat) (by rw [(xgq _)];omega)).as (by rw [hTS,zix])
        have hT2:TS.map trim1=linesB e.flatten:=by rw [hTS,hAL,linesB];congr 2;rw [← hAL];omega
        have hTl: ∀ t∈TS,t.length≤1000000:=fun t z=>Nat.le_trans (xyv (List.mem_of_mem_take (hTS ▸ z))) hfl2
        have hTn:TS.length≤1000001:=by rw [hTS,List.length_take];omega
        clear hTS
        refine xav ?_
        refine xaj (xaz rfl) (fun h_ H_=>xax (v:=(tkV w13 ((((((cutAfter 10 (((rdTo [] ((formB s).getD [])).getD []).flatten)).length:Nat):Int)-1)).toNat))) rfl) (tm':=_::_::_::_::_::_::_::_::_::_::_::_::_::_::_::_::_::_::_::_::_::_::_::_::_::_::_::_::_::_::_::_::_::_::_::_::_::_::_::_::_::_::_::_) rfl ?_
        refine xaj (xaz rfl) (fun h_ H_=>yiw oT (xgq _) Tryz.underlying33 rfl) rfl ?_
        refine xaj (xaz rfl) (fun h_ H_=>xax (v:=.int .i64 0) rfl) rfl ?_
        refine xak ?_
        refine xeq ?_
        refine xhk (m₀:=TS.length-0) (fun m_ tm_ h_=>∃ (k:Nat) (X1:Pcs),m_=TS.length-k∧(∃ y16:Nat→Value,tm_=[sv s,undef,.slice none 0 0,.int .i64 0,w1,.bool ((rdTo [] ((formB s).getD [])).isSome),sv (((rdTo [] ((formB s).getD [])).getD []).flatten),w6,(tkV w13 ((((((cutAfter 10 (((rdTo [] ((formB s).getD [])).getD []).flatten)).length:Nat):Int)-1)).toNat)),(y16 9),.tuple #[w1,.bool ((formB s).isSome)],sv s,.tuple #[w1,.bool ((formB s).isSome)],w1,.bool ((formB s).isSome),.bool ((formB s).isSome),.bool (!((formB s).isSome)),sv s,sv s,.int .i64 (((s.length:Nat):Int)),.int .i64 (((s.length:Nat):Int)-5),sv (s.take (((((s.length:Nat):Int)-5)).toNat)),sv (sealB (s.take (((((s.length:Nat):Int)-5)).toNat))),sv s,.bool (!decide (sealB (s.take (((((s.length:Nat):Int)-5)).toNat))=s)),.tuple #[sv (((rdTo [] ((formB s).getD [])).getD []).flatten),w6,.bool ((rdTo [] ((formB s).getD [])).isSome)],w1,.tuple #[sv (((rdTo [] ((formB s).getD [])).getD []).flatten),w6,.bool ((rdTo [] ((formB s).getD [])).isSome)],sv (((rdTo [] ((formB s).getD [])).getD []).flatten),w6,.bool ((rdTo [] ((formB s).getD [])).isSome),.bool ((rdTo [] ((formB s).getD [])).isSome),.bool (!((rdTo [] ((formB s).getD [])).isSome)),sv (((rdTo [] ((formB s).getD [])).getD []).flatten),v10,sv ([10]),w13,w13,w13,.int .i64 ((((cutAfter 10 (((rdTo [] ((formB s).getD [])).getD []).flatten)).length:Nat):Int)),.int .i64 ((((cutAfter 10 (((rdTo [] ((formB s).getD [])).getD []).flatten)).length:Nat):Int)-1),(tkV w13 ((((((cutAfter 10 (((rdTo [] ((formB s).getD [])).getD []).flatten)).length:Nat):Int)-1)).toNat)),(tkV w13 ((((((cutAfter 10 (((rdTo [] ((formB s).getD [])).getD []).flatten)).length:Nat):Int)-1)).toNat)),.int .i64 (((TS.length:Nat):Int)),.int .i64 (((k:Nat):Int)),(y16 45),(y16 46),(y16 47),(y16 48),(y16 49),(y16 50),(y16 51),(y16 52),(y16 53),(y16 54),(y16 55),(y16 56),(y16 57),undef,undef,undef,undef,undef,undef,undef,undef,undef,undef])∧(k≤TS.length)∧(OwnS 9 1 (tkV w13 ((((((cutAfter 10 (((rdTo [] ((formB s).getD [])).getD []).flatten)).length:Nat):Int)-1)).toNat)) (scs (trimTo k TS)) X1)∧St h [] (fun _=>none) h_ (([]:Pcs)++(X1++[]))) (fun h_ H_=>⟨0,X14,rfl,(y_of rfl),Nat.zero_le _,(oT.as (by rw [zdz])),H_⟩) ?_
        intro m_ tm_ IH17
        refine xhq fun k=>xhq fun X1=>xdj fun hm_=>xdj fun ht_=>xdj fun hk=>xdj fun o1=>?_
        subst hm_;obtain ⟨y16,ht_⟩:=ht_;subst ht_
        refine xbj ?_
        refine xav ?_
        refine xaj (xaz rfl) (fun h_ H_=>xfk rfl rfl) (tm':=[_,_,_,_,_,_,_,_,_,_,_,_,_,_,_,_,_,_,_,_,_,_,_,_,_,_,_,_,_,_,_,_,_,_,_,_,_,_,_,_,_,_,_,_,_,_,_,_,_,_,_,_,_,_,_,_,_,_,_,_,_,_,_,_,_,_,_,_]) rfl ?_
        refine xak ?_
        refine xbj ?_
        by_cases cc18:((k:Nat):Int)<((TS.length:Nat):Int)
        · refine xcx rfl (decide_eq_true cc18) ?_
          refine xdz ?_
          refine xbj ?_
          refine xeq ?_
          refine xbj ?_
          refine xav ?_
          refine xaj (xaz rfl) (fun h_ H_=>xax (v:=.int .i64 (((k:Nat):Int))) rfl) rfl ?_
          refine xaj (xaz rfl) (fun h_ H_=>xaq (v:=.int .i64 (((k:Nat):Int))) rfl) rfl ?_
          refine xak ?_
          refine yoj (xqq (C:=[]) (A:=(([]:Pcs)++X1)) 9 [] [] [] [0,1,2,3,4,5,7,8] (fun _=>[]) (fun i_=>match i_ with | 7=>[6] | _=>[]) (fun i_=>match i_ with | 0=>[] | 1=>[] | 2=>[] | 3=>[] | 4=>[2,3] | 5=>[4] | 6=>[] | 7=>[6] | 8=>[5,7] | _=>[]) (fun i_ val_ pc_ v_ x_=>match i_ with | 0=>v_=(tkV w13 ((((((cutAfter 10 (((rdTo [] ((formB s).getD [])).getD []).flatten)).length:Nat):Int)-1)).toNat))∧x_=[] | 1=>v_= .int .i64 (((k:Nat):Int))∧x_=[] | 2=>v_=(tkV w13 ((((((cutAfter 10 (((rdTo [] ((formB s).getD [])).getD []).flatten)).length:Nat):Int)-1)).toNat))∧x_=[] | 3=>v_= .int .i64 (((k:Nat):Int))∧x_=[] | 4=>v_= .pointer (some ((adrV (tkV w13 ((((((cutAfter 10 (((rdTo [] ((formB s).getD [])).getD []).flatten)).length:Nat):Int)-1)).toNat))).add (k*1)))∧x_=[] | 5=>v_=sv (TS.getD k [])∧x_=[] | 6=>OwnS 5 1 v_ [[.int .u8 10]] x_ | 7=>v_=sv ([10])∧x_=[] | 8=>v_=sv (Lib.trimSuffix (TS.getD k []) ([10]))∧x_=[] | _=>True) (fun val19=>[sv s,undef,.slice none 0 0,.int .i64 0,w1,.bool ((rdTo [] ((formB s).getD [])).isSome),sv (((rdTo [] ((formB s).getD [])).getD []).flatten),w6,(tkV w13 ((((((cutAfter 10 (((rdTo [] ((formB s).getD [])).getD []).flatten)).length:Nat):Int)-1)).toNat)),.int .i64 (((k:Nat):Int)),.tuple #[w1,.bool ((formB s).isSome)],sv s,.tuple #[w1,.bool ((formB s).isSome)],w1,.bool ((formB s).isSome),.bool ((formB s).isSome),.bool (!((formB s).isSome)),sv s,sv s,.int .i64 (((s.length:Nat):Int)),.int .i64 (((s.length:Nat):Int)-5),sv (s.take (((((s.length:Nat):Int)-5)).toNat)),sv (sealB (s.take (((((s.length:Nat):Int)-5)).toNat))),sv s,.bool (!decide (sealB (s.take (((((s.length:Nat):Int)-5)).toNat))=s)),.tuple #[sv (((rdTo [] ((formB s).getD [])).getD []).flatten),w6,.bool ((rdTo [] ((formB s).getD [])).isSome)],w1,.tuple #[sv (((rdTo [] ((formB s).getD [])).getD []).flatten),w6,.bool ((rdTo [] ((formB s).getD [])).isSome)],sv (((rdTo [] ((formB s).getD [])).getD []).flatten),w6,.bool ((rdTo [] ((formB s).getD [])).isSome),.bool ((rdTo [] ((formB s).getD [])).isSome),.bool (!((rdTo [] ((formB s).getD [])).isSome)),sv (((rdTo [] ((formB s).getD [])).getD []).flatten),v10,sv ([10]),w13,w13,w13,.int .i64 ((((cutAfter 10 (((rdTo [] ((formB s).getD [])).getD []).flatten)).length:Nat):Int)),.int .i64 ((((cutAfter 10 (((rdTo [] ((formB s).getD [])).getD []).flatten)).length:Nat):Int)-1),(tkV w13 ((((((cutAfter 10 (((rdTo [] ((formB s).getD [])).getD []).flatten)).length:Nat):Int)-1)).toNat)),(tkV w13 ((((((cutAfter 10 (((rdTo [] ((formB s).getD [])).getD []).flatten)).length:Nat):Int)-1)).toNat)),.int .i64 (((TS.length:Nat):Int)),.int .i64 (((k:Nat):Int)),.bool (decide (((k:Nat):Int)<((TS.length:Nat):Int))),.int .i64 (((k:Nat):Int)),(val19 0),(val19 1),(val19 2),(val19 3),(val19 4),(val19 5),(val19 6),(val19 7),(val19 8),(y16 56),(y16 57),undef,undef,undef,undef,undef,undef,undef,undef,undef,undef]) mixed (by kernel_rfl) (Nat.le_of_ble_eq_true rfl) (by kernel_rfl) (by kernel_rfl) (by kernel_rfl) (fun _ _=>⟨fun _ _ h=>h.2,⟨fun _ _ h=>h.2,⟨fun _ _ h=>h.2,⟨fun _ _ h=>h.2,⟨fun _ _ h=>h.2,⟨fun _ _ h=>h.2,⟨fun _ _ h=>h.2,⟨fun _ _ h=>h.2,trivial⟩⟩⟩⟩⟩⟩⟩⟩) (fun _=>by kernel_rfl) (by kernel_rfl) ?_ ?_) (fun h_ H_=>St.swap (A:=(([]:Pcs)++X1)) (U:=[]) H_.assoc)
          · refine xcq rfl (xew ?_) ?_
            · intro val19 pc20 hQ_ hX_
              obtain ⟨q_,hq0_⟩: ∃ q_:Value→Pcs→Prop,q_=(fun v_ x_=>v_=(tkV w13 ((((((cutAfter 10 (((rdTo [] ((formB s).getD [])).getD []).flatten)).length:Nat):Int)-1)).toNat))∧x_=[]):=⟨_,rfl⟩
              refine ⟨[sv s,undef,.slice none 0 0,.int .i64 0,w1,.bool ((rdTo [] ((formB s).getD [])).isSome),sv (((rdTo [] ((formB s).getD [])).getD []).flatten),w6,(tkV w13 ((((((cutAfter 10 (((rdTo [] ((formB s).getD [])).getD []).flatten)).length:Nat):Int)-1)).toNat)),.int .i64 (((k:Nat):Int)),.tuple #[w1,.bool ((formB s).isSome)],sv s,.tuple #[w1,.bool ((formB s).isSome)],w1,.bool ((formB s).isSome),.bool ((formB s).isSome),.bool (!((formB s).isSome)),sv s,sv s,.int .i64 (((s.length:Nat):Int)),.int .i64 (((s.length:Nat):Int)-5),sv (s.take (((((s.length:Nat):Int)-5)).toNat)),sv (sealB (s.take (((((s.length:Nat):Int)-5)).toNat))),sv s,.bool (!decide (sealB (s.take (((((s.length:Nat):Int)-5)).toNat))=s)),.tuple #[sv (((rdTo [] ((formB s).getD [])).getD []).flatten),w6,.bool ((rdTo [] ((formB s).getD [])).isSome)],w1,.tuple #[sv (((rdTo [] ((formB s).getD [])).getD []).flatten),w6,.bool ((rdTo [] ((formB s).getD [])).isSome)],sv (((rdTo [] ((formB s).getD [])).getD []).flatten),w6,.bool ((rdTo [] ((formB s).getD [])).isSome),.bool ((rdTo [] ((formB s).getD [])).isSome),.bool (!((rdTo [] ((formB s).getD [])).isSome)),sv (((rdTo [] ((formB s).getD [])).getD []).flatten),v10,sv ([10]),w13,w13,w13,.int .i64 ((((cutAfter 10 (((rdTo [] ((formB s).getD [])).getD []).flatten)).length:Nat):Int)),.int .i64 ((((cutAfter 10 (((rdTo [] ((formB s).getD [])).getD []).flatten)).length:Nat):Int)-1),(tkV w13 ((((((cutAfter 10 (((rdTo [] ((formB s).getD [])).getD []).flatten)).length:Nat):Int)-1)).toNat)),(tkV w13 ((((((cutAfter 10 (((rdTo [] ((formB s).getD [])).getD []).flatten)).length:Nat):Int)-1)).toNat)),.int .i64 (((TS.length:Nat):Int)),.int .i64 (((k:Nat):Int)),.bool (decide (((k:Nat):Int)<((TS.length:Nat):Int))),.int .i64 (((k:Nat):Int)),(val19 0),(val19 1),(val19 2),(val19 3),(val19 4),(val19 5),(val19 6),(val19 7),(val19 8),(y16 56),(y16 57),undef,undef,undef,undef,undef,undef,undef,undef,undef,undef],[],q_,rfl,rfl,(fun _ _ z_=>by subst hq0_;exact z_),?_⟩
              subst hq0_
              exact xfx (xaz rfl) (fun _ h_ H_=>xax (v:=(tkV w13 ((((((cutAfter 10 (((rdTo [] ((formB s).getD [])).getD []).flatten)).length:Nat):Int)-1)).toNat))) rfl) ⟨rfl,rfl⟩
            refine xcq rfl (xew ?_) ?_
            · intro val19 pc20 hQ_ hX_
              obtain ⟨q_,hq0_⟩: ∃ q_:Value→Pcs→Prop,q_=(fun v_ x_=>v_= .int .i64 (((k:Nat):Int))∧x_=[]):=⟨_,rfl⟩
              refine ⟨[sv s,undef,.slice none 0 0,.int .i64 0,w1,.bool ((rdTo [] ((formB s).getD [])).isSome),sv (((rdTo [] ((formB s).getD [])).getD []).flatten),w6,(tkV w13 ((((((cutAfter 10 (((rdTo [] ((formB s).getD [])).getD []).flatten)).length:Nat):Int)-1)).toNat)),.int .i64 (((k:Nat):Int)),.tuple #[w1,.bool ((formB s).isSome)],sv s,.tuple #[w1,.bool ((formB s).isSome)],w1,.bool ((formB s).isSome),.bool ((formB s).isSome),.bool (!((formB s).isSome)),sv s,sv s,.int .i64 (((s.length:Nat):Int)),.int .i64 (((s.length:Nat):Int)-5),sv (s.take (((((s.length:Nat):Int)-5)).toNat)),sv (sealB (s.take (((((s.length:Nat):Int)-5)).toNat))),sv s,.bool (!decide (sealB (s.take (((((s.length:Nat):Int)-5)).toNat))=s)),.tuple #[sv (((rdTo [] ((formB s).getD [])).getD []).flatten),w6,.bool ((rdTo [] ((formB s).getD [])).isSome)],w1,.tuple #[sv (((rdTo [] ((formB s).getD [])).getD []).flatten),w6,.bool ((rdTo [] ((formB s).getD [])).isSome)],sv (((rdTo [] ((formB s).getD [])).getD []).flatten),w6,.bool ((rdTo [] ((formB s).getD [])).isSome),.bool ((rdTo [] ((formB s).getD [])).isSome),.bool (!((rdTo [] ((formB s).getD [])).isSome)),sv (((rdTo [] ((formB s).getD [])).getD []).flatten),v10,sv ([10]),w13,w13,w13,.int .i64 ((((cutAfter 10 (((rdTo [] ((formB s).getD [])).getD []).flatten)).length:Nat):Int)),.int .i64 ((((cutAfter 10 (((rdTo [] ((formB s).getD [])).getD []).flatten)).length:Nat):Int)-1),(tkV w13 ((((((cutAfter 10 (((rdTo [] ((formB s).getD [])).getD []).flatten)).length:Nat):Int)-1)).toNat)),(tkV w13 ((((((cutAfter 10 (((rdTo [] ((formB s).getD [])).getD []).flatten)).length:Nat):Int)-1)).toNat)),.int .i64 (((TS.length:Nat):Int)),.int .i64 (((k:Nat):Int)),.bool (decide (((k:Nat):Int)<((TS.length:Nat):Int))),.int .i64 (((k:Nat):Int)),(val19 0),(val19 1),(val19 2),(val19 3),(val19 4),(val19 5),(val19 6),(val19 7),(val19 8),(y16 56),(y16 57),undef,undef,undef,undef,undef,undef,undef,undef,undef,undef],[],q_,rfl,rfl,(fun _ _ z_=>by subst hq0_;exact z_),?_⟩
              subst hq0_
              exact xfx (xaz rfl) (fun _ h_ H_=>xax (v:=.int .i64 (((k:Nat):Int))) rfl) ⟨rfl,rfl⟩
            refine xcq rfl (xew ?_) ?_
            · intro val19 pc20 hQ_ hX_
              obtain ⟨q_,hq0_⟩: ∃ q_:Value→Pcs→Prop,q_=(fun v_ x_=>v_=(tkV w13 ((((((cutAfter 10 (((rdTo [] ((formB s).getD [])).getD []).flatten)).length:Nat):Int)-1)).toNat))∧x_=[]):=⟨_,rfl⟩
              refine ⟨[sv s,undef,.slice none 0 0,.int .i64 0,w1,.bool ((rdTo [] ((formB s).getD [])).isSome),sv (((rdTo [] ((formB s).getD [])).getD []).flatten),w6,(tkV w13 ((((((cutAfter 10 (((rdTo [] ((formB s).getD [])).getD []).flatten)).length:Nat):Int)-1)).toNat)),.int .i64 (((k:Nat):Int)),.tuple #[w1,.bool ((formB s).isSome)],sv s,.tuple #[w1,.bool ((formB s).isSome)],w1,.bool ((formB s).isSome),.bool ((formB s).isSome),.bool (!((formB s).isSome)),sv s,sv s,.int .i64 (((s.length:Nat):Int)),.int .i64 (((s.length:Nat):Int)-5),sv (s.take (((((s.length:Nat):Int)-5)).toNat)),sv (sealB (s.take (((((s.length:Nat):Int)-5)).toNat))),sv s,.bool (!decide (sealB (s.take (((((s.length:Nat):Int)-5)).toNat))=s)),.tuple #[sv (((rdTo [] ((formB s).getD [])).getD []).flatten),w6,.bool ((rdTo [] ((formB s).getD [])).isSome)],w1,.tuple #[sv (((rdTo [] ((formB s).getD [])).getD []).flatten),w6,.bool ((rdTo [] ((formB s).getD [])).isSome)],sv (((rdTo [] ((formB s).getD [])).getD []).flatten),w6,.bool ((rdTo [] ((formB s).getD [])).isSome),.bool ((rdTo [] ((formB s).getD [])).isSome),.bool (!((rdTo [] ((formB s).getD [])).isSome)),sv (((rdTo [] ((formB s).getD [])).getD []).flatten),v10,sv ([10]),w13,w13,w13,.int .i64 ((((cutAfter 10 (((rdTo [] ((formB s).getD [])).getD []).flatten)).length:Nat):Int)),.int .i64 ((((cutAfter 10 (((rdTo [] ((formB s).getD [])).getD []).flatten)).length:Nat):Int)-1),(tkV w13 ((((((cutAfter 10 (((rdTo [] ((formB s).getD [])).getD []).flatten)).length:Nat):Int)-1)).toNat)),(tkV w13 ((((((cutAfter 10 (((rdTo [] ((formB s).getD [])).getD []).flatten)).length:Nat):Int)-1)).toNat)),.int .i64 (((TS.length:Nat):Int)),.int .i64 (((k:Nat):Int)),.bool (decide (((k:Nat):Int)<((TS.length:Nat):Int))),.int .i64 (((k:Nat):Int)),(val19 0),(val19 1),(val19 2),(val19 3),(val19 4),(val19 5),(val19 6),(val19 7),(val19 8),(y16 56),(y16 57),undef,undef,undef,undef,undef,undef,undef,undef,undef,undef],[],q_,rfl,rfl,(fun _ _ z_=>by subst hq0_;exact z_),?_⟩
              subst hq0_
              exact xfx (xaz rfl) (fun _ h_ H_=>xax (v:=(tkV w13 ((((((cutAfter 10 (((rdTo [] ((formB s).getD [])).getD []).flatten)).length:Nat):Int)-1)).toNat))) rfl) ⟨rfl,rfl⟩
            refine xcq rfl (xew ?_) ?_
            · intro val19 pc20 hQ_ hX_
              obtain ⟨q_,hq0_⟩: ∃ q_:Value→Pcs→Prop,q_=(fun v_ x_=>v_= .int .i64 (((k:Nat):Int))∧x_=[]):=⟨_,rfl⟩
              refine ⟨[sv s,undef,.slice none 0 0,.int .i64 0,w1,.bool ((rdTo [] ((formB s).getD [])).isSome),sv (((rdTo [] ((formB s).getD [])).getD []).flatten),w6,(tkV w13 ((((((cutAfter 10 (((rdTo [] ((formB s).getD [])).getD []).flatten)).length:Nat):Int)-1)).toNat)),.int .i64 (((k:Nat):Int)),.tuple #[w1,.bool ((formB s).isSome)],sv s,.tuple #[w1,.bool ((formB s).isSome)],w1,.bool ((formB s).isSome),.bool ((formB s).isSome),.bool (!((formB s).isSome)),sv s,sv s,.int .i64 (((s.length:Nat):Int)),.int .i64 (((s.length:Nat):Int)-5),sv (s.take (((((s.length:Nat):Int)-5)).toNat)),sv (sealB (s.take (((((s.length:Nat):Int)-5)).toNat))),sv s,.bool (!decide (sealB (s.take (((((s.length:Nat):Int)-5)).toNat))=s)),.tuple #[sv (((rdTo [] ((formB s).getD [])).getD []).flatten),w6,.bool ((rdTo [] ((formB s).getD [])).isSome)],w1,.tuple #[sv (((rdTo [] ((formB s).getD [])).getD []).flatten),w6,.bool ((rdTo [] ((formB s).getD [])).isSome)],sv (((rdTo [] ((formB s).getD [])).getD []).flatten),w6,.bool ((rdTo [] ((formB s).getD [])).isSome),.bool ((rdTo [] ((formB s).getD [])).isSome),.bool (!((rdTo [] ((formB s).getD [])).isSome)),sv (((rdTo [] ((formB s).getD [])).getD []).flatten),v10,sv ([10]),w13,w13,w13,.int .i64 ((((cutAfter 10 (((rdTo [] ((formB s).getD [])).getD []).flatten)).length:Nat):Int)),.int .i64 ((((cutAfter 10 (((rdTo [] ((formB s).getD [])).getD []).flatten)).length:Nat):Int)-1),(tkV w13 ((((((cutAfter 10 (((rdTo [] ((formB s).getD [])).getD []).flatten)).length:Nat):Int)-1)).toNat)),(tkV w13 ((((((cutAfter 10 (((rdTo [] ((formB s).getD [])).getD []).flatten)).length:Nat):Int)-1)).toNat)),.int .i64 (((TS.length:Nat):Int)),.int .i64 (((k:Nat):Int)),.bool (decide (((k:Nat):Int)<((TS.length:Nat):Int))),.int .i64 (((k:Nat):Int)),(val19 0),(val19 1),(val19 2),(val19 3),(val19 4),(val19 5),(val19 6),(val19 7),(val19 8),(y16 56),(y16 57),undef,undef,undef,undef,undef,undef,undef,undef,undef,undef],[],q_,rfl,rfl,(fun _ _ z_=>by subst hq0_;exact z_),?_⟩
              subst hq0_
              exact xfx (xaz rfl) (fun _ h_ H_=>xax (v:=.int .i64 (((k:Nat):Int))) rfl) ⟨rfl,rfl⟩
            refine xcq rfl (xew ?_) ?_
            · intro val19 pc20 hQ_ hX_
              have e2_:val19 2=(tkV w13 ((((((cutAfter 10 (((rdTo [] ((formB s).getD [])).getD []).flatten)).length:Nat):Int)-1)).toNat)):=(hQ_ 2 rfl).1
              have e3_:val19 3= .int .i64 (((k:Nat):Int)):=(hQ_ 3 rfl).1
              obtain ⟨q_,hq0_⟩: ∃ q_:Value→Pcs→Prop,q_=(fun v_ x_=>v_= .pointer (some ((adrV (tkV w13 ((((((cutAfter 10 (((rdTo [] ((formB s).getD [])).getD []).flatten)).length:Nat):Int)-1)).toNat))).add (k*1)))∧x_=[]):=⟨_,rfl⟩
              refine ⟨[sv s,undef,.slice none 0 0,.int .i64 0,w1,.bool ((rdTo [] ((formB s).getD [])).isSome),sv (((rdTo [] ((formB s).getD [])).getD []).flatten),w6,(tkV w13 ((((((cutAfter 10 (((rdTo [] ((formB s).getD [])).getD []).flatten)).length:Nat):Int)-1)).toNat)),.int .i64 (((k:Nat):Int)),.tuple #[w1,.bool ((formB s).isSome)],sv s,.tuple #[w1,.bool ((formB s).isSome)],w1,.bool ((formB s).isSome),.bool ((formB s).isSome),.bool (!((formB s).isSome)),sv s,sv s,.int .i64 (((s.length:Nat):Int)),.int .i64 (((s.length:Nat):Int)-5),sv (s.take (((((s.length:Nat):Int)-5)).toNat)),sv (sealB (s.take (((((s.length:Nat):Int)-5)).toNat))),sv s,.bool (!decide (sealB (s.take (((((s.length:Nat):Int)-5)).toNat))=s)),.tuple #[sv (((rdTo [] ((formB s).getD [])).getD []).flatten),w6,.bool ((rdTo [] ((formB s).getD [])).isSome)],w1,.tuple #[sv (((rdTo [] ((formB s).getD [])).getD []).flatten),w6,.bool ((rdTo [] ((formB s).getD [])).isSome)],sv (((rdTo [] ((formB s).getD [])).getD []).flatten),w6,.bool ((rdTo [] ((formB s).getD [])).isSome),.bool ((rdTo [] ((formB s).getD [])).isSome),.bool (!((rdTo [] ((formB s).getD [])).isSome)),sv (((rdTo [] ((formB s).getD [])).getD []).flatten),v10,sv ([10]),w13,w13,w13,.int .i64 ((((cutAfter 10 (((rdTo [] ((formB s).getD [])).getD []).flatten)).length:Nat):Int)),.int .i64 ((((cutAfter 10 (((rdTo [] ((formB s).getD [])).getD []).flatten)).length:Nat):Int)-1),(tkV w13 ((((((cutAfter 10 (((rdTo [] ((formB s).getD [])).getD []).flatten)).length:Nat):Int)-1)).toNat)),(tkV w13 ((((((cutAfter 10 (((rdTo [] ((formB s).getD [])).getD []).flatten)).length:Nat):Int)-1)).toNat)),.int .i64 (((TS.length:Nat):Int)),.int .i64 (((k:Nat):Int)),.bool (decide (((k:Nat):Int)<((TS.length:Nat):Int))),.int .i64 (((k:Nat):Int)),(val19 0),(val19 1),(tkV w13 ((((((cutAfter 10 (((rdTo [] ((formB s).getD [])).getD []).flatten)).length:Nat):Int)-1)).toNat)),.int .i64 (((k:Nat):Int)),(val19 4),(val19 5),(val19 6),(val19 7),(val19 8),(y16 56),(y16 57),undef,undef,undef,undef,undef,undef,undef,undef,undef,undef],[],q_,(by simp only [e2_,e3_]),rfl,(fun _ _ z_=>by subst hq0_;exact z_),?_⟩
              subst hq0_
              exact xfx (xaz rfl) (fun _ h_ H_=>xnj o1 Tryz.underlying33 tS9 rfl rfl (by rw [((xgq _).trans (yex _ _))];omega)) ⟨rfl,rfl⟩
            refine xcq rfl (xew ?_) ?_
            · intro val19 pc20 hQ_ hX_
              have e4_:val19 4= .pointer (some ((adrV (tkV w13 ((((((cutAfter 10 (((rdTo [] ((formB s).getD [])).getD []).flatten)).length:Nat):Int)-1)).toNat))).add (k*1))):=(hQ_ 4 rfl).1
              obtain ⟨q_,hq0_⟩: ∃ q_:Value→Pcs→Prop,q_=(fun v_ x_=>v_=sv (TS.getD k [])∧x_=[]):=⟨_,rfl⟩
              refine ⟨[sv s,undef,.slice none 0 0,.int .i64 0,w1,.bool ((rdTo [] ((formB s).getD [])).isSome),sv (((rdTo [] ((formB s).getD [])).getD []).flatten),w6,(tkV w13 ((((((cutAfter 10 (((rdTo [] ((formB s).getD [])).getD []).flatten)).length:Nat):Int)-1)).toNat)),.int .i64 (((k:Nat):Int)),.tuple #[w1,.bool ((formB s).isSome)],sv s,.tuple #[w1,.bool ((formB s).isSome)],w1,.bool ((formB s).isSome),.bool ((formB s).isSome),.bool (!((formB s).isSome)),sv s,sv s,.int .i64 (((s.length:Nat):Int)),.int .i64 (((s.length:Nat):Int)-5),sv (s.take (((((s.length:Nat):Int)-5)).toNat)),sv (sealB (s.take (((((s.length:Nat):Int)-5)).toNat))),sv s,.bool (!decide (sealB (s.take (((((s.length:Nat):Int)-5)).toNat))=s)),.tuple #[sv (((rdTo [] ((formB s).getD [])).getD []).flatten),w6,.bool ((rdTo [] ((formB s).getD [])).isSome)],w1,.tuple #[sv (((rdTo [] ((formB s).getD [])).getD []).flatten),w6,.bool ((rdTo [] ((formB s).getD [])).isSome)],sv (((rdTo [] ((formB s).getD [])).getD []).flatten),w6,.bool ((rdTo [] ((formB s).getD [])).isSome),.bool ((rdTo [] ((formB s).getD [])).isSome),.bool (!((rdTo [] ((formB s).getD [])).isSome)),sv (((rdTo [] ((formB s).getD [])).getD []).flatten),v10,sv ([10]),w13,w13,w13,.int .i64 ((((cutAfter 10 (((rdTo [] ((formB s).getD [])).getD []).flatten)).length:Nat):Int)),.int .i64 ((((cutAfter 10 (((rdTo [] ((formB s).getD [])).getD []).flatten)).length:Nat):Int)-1),(tkV w13 ((((((cutAfter 10 (((rdTo [] ((formB s).getD [])).getD []).flatten)).length:Nat):Int)-1)).toNat)),(tkV w13 ((((((cutAfter 10 (((rdTo [] ((formB s).getD [])).getD []).flatten)).length:Nat):Int)-1)).toNat)),.int .i64 (((TS.length:Nat):Int)),.int .i64 (((k:Nat):Int)),.bool (decide (((k:Nat):Int)<((TS.length:Nat):Int))),.int .i64 (((k:Nat):Int)),(val19 0),(val19 1),(val19 2),(val19 3),.pointer (some ((adrV (tkV w13 ((((((cutAfter 10 (((rdTo [] ((formB s).getD [])).getD []).flatten)).length:Nat):Int)-1)).toNat))).add (k*1))),(val19 5),(val19 6),(val19 7),(val19 8),(y16 56),(y16 57),undef,undef,undef,undef,undef,undef,undef,undef,undef,undef],[],q_,(by simp only [e4_]),rfl,(fun _ _ z_=>by subst hq0_;exact z_),?_⟩
              subst hq0_
              exact xfx (xaz rfl) (fun _ h_ H_=>ymw (i:=k) (j:=0) (e:=[sv (TS.getD k [])]) o1 H_ (fun x_ h_=>by simp [h_]) tA9 rfl rfl (ztx (by omega)) (u:=sv (TS.getD k [])) rfl) ⟨rfl,rfl⟩
            refine xcq rfl (xew ?_) ?_
            · intro val19 pc20 hQ_ hX_
              obtain ⟨q_,hq0_⟩: ∃ q_:Value→Pcs→Prop,q_=(fun v_ x_=>OwnS 5 1 v_ [[.int .u8 10]] x_):=⟨_,rfl⟩
              refine ⟨[sv s,undef,.slice none 0 0,.int .i64 0,w1,.bool ((rdTo [] ((formB s).getD [])).isSome),sv (((rdTo [] ((formB s).getD [])).getD []).flatten),w6,(tkV w13 ((((((cutAfter 10 (((rdTo [] ((formB s).getD [])).getD []).flatten)).length:Nat):Int)-1)).toNat)),.int .i64 (((k:Nat):Int)),.tuple #[w1,.bool ((formB s).isSome)],sv s,.tuple #[w1,.bool ((formB s).isSome)],w1,.bool ((formB s).isSome),.bool ((formB s).isSome),.bool (!((formB s).isSome)),sv s,sv s,.int .i64 (((s.length:Nat):Int)),.int .i64 (((s.length:Nat):Int)-5),sv (s.take (((((s.length:Nat):Int)-5)).toNat)),sv (sealB (s.take (((((s.length:Nat):Int)-5)).toNat))),sv s,.bool (!decide (sealB (s.take (((((s.length:Nat):Int)-5)).toNat))=s)),.tuple #[sv (((rdTo [] ((formB s).getD [])).getD []).flatten),w6,.bool ((rdTo [] ((formB s).getD [])).isSome)],w1,.tuple #[sv (((rdTo [] ((formB s).getD [])).getD []).flatten),w6,.bool ((rdTo [] ((formB s).getD [])).isSome)],sv (((rdTo [] ((formB s).getD [])).getD []).flatten),w6,.bool ((rdTo [] ((formB s).getD [])).isSome),.bool ((rdTo [] ((formB s).getD [])).isSome),.bool (!((rdTo [] ((formB s).getD [])).isSome)),sv (((rdTo [] ((formB s).getD [])).getD []).flatten),v10,sv ([10]),w13,w13,w13,.int .i64 ((((cutAfter 10 (((rdTo [] ((formB s).getD [])).getD []).flatten)).length:Nat):Int)),.int .i64 ((((cutAfter 10 (((rdTo [] ((formB s).getD [])).getD []).flatten)).length:Nat):Int)-1),(tkV w13 ((((((cutAfter 10 (((rdTo [] ((formB s).getD [])).getD []).flatten)).length:Nat):Int)-1)).toNat)),(tkV w13 ((((((cutAfter 10 (((rdTo [] ((formB s).getD [])).getD []).flatten)).length:Nat):Int)-1)).toNat)),.int .i64 (((TS.length:Nat):Int)),.int .i64 (((k:Nat):Int)),.bool (decide (((k:Nat):Int)<((TS.length:Nat):Int))),.int .i64 (((k:Nat):Int)),(val19 0),(val19 1),(val19 2),(val19 3),(val19 4),(val19 5),(val19 6),(val19 7),(val19 8),(y16 56),(y16 57),undef,undef,undef,undef,undef,undef,undef,undef,undef,undef],[],q_,rfl,rfl,(fun _ _ z_=>by subst hq0_;exact z_),?_⟩
              subst hq0_
              exact xsz (xaz rfl) Tryz.underlying47 tS5 tZ5 (Nat.le_of_ble_eq_true rfl) (vs:=[(0,.int .u8 10)]) rfl rfl (es:=[[.int .u8 10]]) rfl rfl rfl fun _ _ o_=>o_
            refine xcq rfl (xew ?_) ?_
            · intro val19 pc20 hQ_ hX_
              have q6_:OwnS 5 1 (val19 6) [[.int .u8 10]] (pc20 6):=hQ_ 6 rfl
              obtain ⟨q_,hq0_⟩: ∃ q_:Value→Pcs→Prop,q_=(fun v_ x_=>v_=sv ([10])∧x_=[]):=⟨_,rfl⟩
              refine ⟨[sv s,undef,.slice none 0 0,.int .i64 0,w1,.bool ((rdTo [] ((formB s).getD [])).isSome),sv (((rdTo [] ((formB s).getD [])).getD []).flatten),w6,(tkV w13 ((((((cutAfter 10 (((rdTo [] ((formB s).getD [])).getD []).flatten)).length:Nat):Int)-1)).toNat)),.int .i64 (((k:Nat):Int)),.tuple #[w1,.bool ((formB s).isSome)],sv s,.tuple #[w1,.bool ((formB s).isSome)],w1,.bool ((formB s).isSome),.bool ((formB s).isSome),.bool (!((formB s).isSome)),sv s,sv s,.int .i64 (((s.length:Nat):Int)),.int .i64 (((s.length:Nat):Int)-5),sv (s.take (((((s.length:Nat):Int)-5)).toNat)),sv (sealB (s.take (((((s.length:Nat):Int)-5)).toNat))),sv s,.bool (!decide (sealB (s.take (((((s.length:Nat):Int)-5)).toNat))=s)),.tuple #[sv (((rdTo [] ((formB s).getD [])).getD []).flatten),w6,.bool ((rdTo [] ((formB s).getD [])).isSome)],w1,.tuple #[sv (((rdTo [] ((formB s).getD [])).getD []).flatten),w6,.bool ((rdTo [] ((formB s).getD [])).isSome)],sv (((rdTo [] ((formB s).getD [])).getD []).flatten),w6,.bool ((rdTo [] ((formB s).getD [])).isSome),.bool ((rdTo [] ((formB s).getD [])).isSome),.bool (!((rdTo [] ((formB s).getD [])).isSome)),sv (((rdTo [] ((formB s).getD [])).getD []).flatten),v10,sv ([10]),w13,w13,w13,.int .i64 ((((cutAfter 10 (((rdTo [] ((formB s).getD [])).getD []).flatten)).length:Nat):Int)),.int .i64 ((((cutAfter 10 (((rdTo [] ((formB s).getD [])).getD []).flatten)).length:Nat):Int)-1),(tkV w13 ((((((cutAfter 10 (((rdTo [] ((formB s).getD [])).getD []).flatten)).length:Nat):Int)-1)).toNat)),(tkV w13 ((((((cutAfter 10 (((rdTo [] ((formB s).getD [])).getD []).flatten)).length:Nat):Int)-1)).toNat)),.int .i64 (((TS.length:Nat):Int)),.int .i64 (((k:Nat):Int)),.bool (decide (((k:Nat):Int)<((TS.length:Nat):Int))),.int .i64 (((k:Nat):Int)),(val19 0),(val19 1),(val19 2),(val19 3),(val19 4),(val19 5),(val19 6),(val19 7),(val19 8),(y16 56),(y16 57),undef,undef,undef,undef,undef,undef,undef,undef,undef,undef],((pc20 6)++[]),q_,rfl,rfl,(fun _ _ z_=>by subst hq0_;exact z_),?_⟩
              subst hq0_
              exact zvw (xaz rfl) (fun _ h_ H_=>xvj (A:=([]:Pcs)) (q6_.as (show _=bcs [10] from rfl)) (St.one1 H_) Tryz.underlying47 Tryz.underlying9 Tryz.underlying5 rfl) ⟨rfl,rfl⟩
            refine xcq rfl (xew ?_) ?_
            · intro val19 pc20 hQ_ hX_
              have e5_:val19 5=sv (TS.getD k []):=(hQ_ 5 rfl).1
              have e7_:val19 7=sv ([10]):=(hQ_ 7 rfl).1
              obtain ⟨q_,hq0_⟩: ∃ q_:Value→Pcs→Prop,q_=(fun v_ x_=>v_=sv (Lib.trimSuffix (TS.getD k []) ([10]))∧x_=[]):=⟨_,rfl⟩
              refine ⟨[sv s,undef,.slice none 0 0,.int .i64 0,w1,.bool ((rdTo [] ((formB s).getD [])).isSome),sv (((rdTo [] ((formB s).getD [])).getD []).flatten),w6,(tkV w13 ((((((cutAfter 10 (((rdTo [] ((formB s).getD [])).getD []).flatten)).length:Nat):Int)-1)).toNat)),.int .i64 (((k:Nat):Int)),.tuple #[w1,.bool ((formB s).isSome)],sv s,.tuple #[w1,.bool ((formB s).isSome)],w1,.bool ((formB s).isSome),.bool ((formB s).isSome),.bool (!((formB s).isSome)),sv s,sv s,.int .i64 (((s.length:Nat):Int)),.int .i64 (((s.length:Nat):Int)-5),sv (s.take (((((s.length:Nat):Int)-5)).toNat)),sv (sealB (s.take (((((s.length:Nat):Int)-5)).toNat))),sv s,.bool (!decide (sealB (s.take (((((s.length:Nat):Int)-5)).toNat))=s)),.tuple #[sv (((rdTo [] ((formB s).getD [])).getD []).flatten),w6,.bool ((rdTo [] ((formB s).getD [])).isSome)],w1,.tuple #[sv (((rdTo [] ((formB s).getD [])).getD []).flatten),w6,.bool ((rdTo [] ((formB s).getD [])).isSome)],sv (((rdTo [] ((formB s).getD [])).getD []).flatten),w6,.bool ((rdTo [] ((formB s).getD [])).isSome),.bool ((rdTo [] ((formB s).getD [])).isSome),.bool (!((rdTo [] ((formB s).getD [])).isSome)),sv (((rdTo [] ((formB s).getD [])).getD []).flatten),v10,sv ([10]),w13,w13,w13,.int .i64 ((((cutAfter 10 (((rdTo [] ((formB s).getD [])).getD []).flatten)).length:Nat):Int)),.int .i64 ((((cutAfter 10 (((rdTo [] ((formB s).getD [])).getD []).flatten)).length:Nat):Int)-1),(tkV w13 ((((((cutAfter 10 (((rdTo [] ((formB s).getD [])).getD []).flatten)).length:Nat):Int)-1)).toNat)),(tkV w13 ((((((cutAfter 10 (((rdTo [] ((formB s).getD [])).getD []).flatten)).length:Nat):Int)-1)).toNat)),.int .i64 (((TS.length:Nat):Int)),.int .i64 (((k:Nat):Int)),.bool (decide (((k:Nat):Int)<((TS.length:Nat):Int))),.int .i64 (((k:Nat):Int)),(val19 0),(val19 1),(val19 2),(val19 3),(val19 4),sv (TS.getD k []),(val19 6),sv ([10]),(val19 8),(y16 56),(y16 57),undef,undef,undef,undef,undef,undef,undef,undef,undef,undef],[],q_,(by simp only [e5_,e7_]),rfl,(fun _ _ z_=>by subst hq0_;exact z_),?_⟩
              subst hq0_
              exact yix (xaz rfl) (first:=[]) (cap:=[]) rfl rfl fC43 (fun _ h_ H_=>(c43 _ (TS.getD k []) ([10]) (by have z_:=hTl _ (gmem (d:=[]) (show k<TS.length by omega));omega)).mono fun v_ h2_ ⟨e_,k_⟩=>⟨[],⟨e_,rfl⟩,H_.call k_⟩)
            exact xpk rfl
          intro val19 pc20 hQ_ hX_
          have e0_:val19 0=(tkV w13 ((((((cutAfter 10 (((rdTo [] ((formB s).getD [])).getD []).flatten)).length:Nat):Int)-1)).toNat)):=(hQ_ 0 (by decide)).1
          have e1_:val19 1= .int .i64 (((k:Nat):Int)):=(hQ_ 1 (by decide)).1
          have e2_:val19 2=(tkV w13 ((((((cutAfter 10 (((rdTo [] ((formB s).getD [])).getD []).flatten)).length:Nat):Int)-1)).toNat)):=(hQ_ 2 (by decide)).1
          have e3_:val19 3= .int .i64 (((k:Nat):Int)):=(hQ_ 3 (by decide)).1
          have e4_:val19 4= .pointer (some ((adrV (tkV w13 ((((((cutAfter 10 (((rdTo [] ((formB s).getD [])).getD []).flatten)).length:Nat):Int)-1)).toNat))).add (k*1))):=(hQ_ 4 (by decide)).1
          have e5_:val19 5=sv (TS.getD k []):=(hQ_ 5 (by decide)).1
          have e7_:val19 7=sv ([10]):=(hQ_ 7 (by decide)).1
          have e8_:val19 8=sv (Lib.trimSuffix (TS.getD k []) ([10])):=(hQ_ 8 (by decide)).1
          clear hQ_ hX_
          refine yok (Φ:=fun h_=>St h [] (fun _=>none) h_ (([]:Pcs)++(X1++([])))) ?_ (fun h_ H_=>(St.swap' (A:=(([]:Pcs)++X1)) H_).assoc')
          refine xfz (tm':=[sv s,undef,.slice none 0 0,.int .i64 0,w1,.bool ((rdTo [] ((formB s).getD [])).isSome),sv (((rdTo [] ((formB s).getD [])).getD []).flatten),w6,(tkV w13 ((((((cutAfter 10 (((rdTo [] ((formB s).getD [])).getD []).flatten)).length:Nat):Int)-1)).toNat)),.int .i64 (((k:Nat):Int)),.tuple #[w1,.bool ((formB s).isSome)],sv s,.tuple #[w1,.bool ((formB s).isSome)],w1,.bool ((formB s).isSome),.bool ((formB s).isSome),.bool (!((formB s).isSome)),sv s,sv s,.int .i64 (((s.length:Nat):Int)),.int .i64 (((s.length:Nat):Int)-5),sv (s.take (((((s.length:Nat):Int)-5)).toNat)),sv (sealB (s.take (((((s.length:Nat):Int)-5)).toNat))),sv s,.bool (!decide (sealB (s.take (((((s.length:Nat):Int)-5)).toNat))=s)),.tuple #[sv (((rdTo [] ((formB s).getD [])).getD []).flatten),w6,.bool ((rdTo [] ((formB s).getD [])).isSome)],w1,.tuple #[sv (((rdTo [] ((formB s).getD [])).getD []).flatten),w6,.bool ((rdTo [] ((formB s).getD [])).isSome)],sv (((rdTo [] ((formB s).getD [])).getD []).flatten),w6,.bool ((rdTo [] ((formB s).getD [])).isSome),.bool ((rdTo [] ((formB s).getD [])).isSome),.bool (!((rdTo [] ((formB s).getD [])).isSome)),sv (((rdTo [] ((formB s).getD [])).getD []).flatten),v10,sv ([10]),w13,w13,w13,.int .i64 ((((cutAfter 10 (((rdTo [] ((formB s).getD [])).getD []).flatten)).length:Nat):Int)),.int .i64 ((((cutAfter 10 (((rdTo [] ((formB s).getD [])).getD []).flatten)).length:Nat):Int)-1),(tkV w13 ((((((cutAfter 10 (((rdTo [] ((formB s).getD [])).getD []).flatten)).length:Nat):Int)-1)).toNat)),(tkV w13 ((((((cutAfter 10 (((rdTo [] ((formB s).getD [])).getD []).flatten)).length:Nat):Int)-1)).toNat)),.int .i64 (((TS.length:Nat):Int)),.int .i64 (((k:Nat):Int)),.bool (decide (((k:Nat):Int)<((TS.length:Nat):Int))),.int .i64 (((k:Nat):Int)),(tkV w13 ((((((cutAfter 10 (((rdTo [] ((formB s).getD [])).getD []).flatten)).length:Nat):Int)-1)).toNat)),.int .i64 (((k:Nat):Int)),(tkV w13 ((((((cutAfter 10 (((rdTo [] ((formB s).getD [])).getD []).flatten)).length:Nat):Int)-1)).toNat)),.int .i64 (((k:Nat):Int)),.pointer (some ((adrV (tkV w13 ((((((cutAfter 10 (((rdTo [] ((formB s).getD [])).getD []).flatten)).length:Nat):Int)-1)).toNat))).add (k*1))),sv (TS.getD k []),(val19 6),sv ([10]),sv (Lib.trimSuffix (TS.getD k []) ([10])),(y16 56),(y16 57),undef,undef,undef,undef,undef,undef,undef,undef,undef,undef]) (by simp only [e0_,e1_,e2_,e3_,e4_,e5_,e7_,e8_]) ?_
          refine xaj (xaz rfl) (fun h_ H_=>xnj o1 Tryz.underlying33 tS9 rfl rfl (by rw [((xgq _).trans (yex _ _))];omega)) (tm':=[_,_,_,_,_,_,_,_,_,_,_,_,_,_,_,_,_,_,_,_,_,_,_,_,_,_,_,_,_,_,_,_,_,_,_,_,_,_,_,_,_,_,_,_,_,_,_,_,_,_,_,_,_,_,_,_,_,_,_,_,_,_,_,_,_,_,_,_]) rfl ?_
          refine xuw (A:=([]:Pcs)) (i:=k) (j:=0) (e:=[sv (TS.getD k [])]) (u:=sv (Lib.trimSuffix (TS.getD k []) ([10]))) o1 (xaz rfl) tS9 rfl rfl rfl ⟨rfl,rfl⟩ (ztx (by omega)) (Nat.succ_le_iff.1 (Nat.le_of_ble_eq_true rfl)) fun X24 o25=>?_
          refine xak ?_
          refine xex ?_
          refine xav ?_
          refine xaj (xaz rfl) (fun h_ H_=>xev rfl rfl (n:=((k+1:Nat):Int)) (wr (by omega))) rfl ?_
          refine xaj (xaz rfl) (fun h_ H_=>xax (v:=.int .i64 (((k+1:Nat):Int))) rfl) rfl ?_
          refine xak ?_
          exact fun h_ H_=>IH17 _ _ (by omega) h_ ⟨k+1,X24,rfl,(y_of rfl),(by omega),(o25.as (zox (by omega))),H_⟩
        · refine xcv rfl (decide_eq_false cc18) ?_
          refine xgk rfl ?_
          refine xbj ?_
          refine xbj ?_
          have oL:OwnS 9 1 (tkV w13 ((((((cutAfter 10 (((rdTo [] ((formB s).getD [])).getD []).flatten)).length:Nat):Int)-1)).toNat)) (scs (linesB e.flatten)) X1:=o1.as (by rw [zoz (by omega),hT2])
          have hLn:(linesB e.flatten).length≤1000000:=Nat.le_trans (zgq _) hfl
          refine xav ?_
          refine xaj (xaz rfl) (fun h_ H_=>xax (v:=(tkV w13 ((((((cutAfter 10 (((rdTo [] ((formB s).getD [])).getD []).flatten)).length:Nat):Int)-1)).toNat))) rfl) (tm':=[_,_,_,_,_,_,_,_,_,_,_,_,_,_,_,_,_,_,_,_,_,_,_,_,_,_,_,_,_,_,_,_,_,_,_,_,_,_,_,_,_,_,_,_,_,_,_,_,_,_,_,_,_,_,_,_,_,_,_,_,_,_,_,_,_,_,_,_]) rfl ?_
          refine xcw (xaz rfl) (first:=[]) (cap:=[]) rfl rfl fC37 (fun h_ H_=>yfq (n:=(linesB e.flatten).length) oL (xgq _) H_ (fun x_ h_=>by simp [h_]) fun p_ a_ c_ hp_ _ hv_ D_=>by rw [hv_];exact c37 _ _ hp_ a_ _ c_ _ D_ (by omega) (fun i_ hi_=>Nat.le_trans (zwv (gmem hi_)) (by omega))) rfl ?_
          refine xaj (xaz rfl) (fun h_ H_=>xgw rfl rfl) rfl ?_
          refine xaj (xaz rfl) (fun h_ H_=>xax (v:=.bool (decide (chkT (linesB e.flatten)≠0))) rfl) (tm':=[_,_,_,_,_,_,_,_,_,_,_,_,_,_,_,_,_,_,_,_,_,_,_,_,_,_,_,_,_,_,_,_,_,_,_,_,_,_,_,_,_,_,_,_,_,_,_,_,_,_,_,_,_,_,_,_,_,_,_,_,_,_,_,_,_,_,_,_]) rfl ?_
          by_cases cc26:chkT (linesB e.flatten)≠0
          · refine xck (xhx rfl rfl (decide_eq_true cc26)) rfl ?_
            refine xck (xhx rfl rfl (decide_eq_true cc26)) rfl ?_
            refine xck (xhx rfl rfl (decide_eq_true cc26)) (tm':=[_,_,_,_,_,_,_,_,_,_,_,_,_,_,_,_,_,_,_,_,_,_,_,_,_,_,_,_,_,_,_,_,_,_,_,_,_,_,_,_,_,_,_,_,_,_,_,_,_,_,_,_,_,_,_,_,_,_,_,_,_,_,_,_,_,_,_,_]) rfl ?_
            refine xck (xhx rfl rfl (decide_eq_true cc26)) rfl ?_
            refine xaj (xaz rfl) (fun h_ H_=>xbw rfl (decide_eq_true cc26) (v:=.bool (true)) rfl) rfl ?_
            refine xak ?_
            refine xcx rfl rfl ?_
            refine xbj ?_
            refine xav ?_
            refine xaj (xaz rfl) (fun h_ H_=>xaq (v:=.slice none 0 0) rfl) (tm':=_::_::_::_) rfl ?_
            refine xaj (xaz rfl) (fun h_ H_=>xaq (v:=.int .i64 142) rfl) rfl ?_
            refine xak ?_
            refine xcj Tryz.func14 rfl (vs:=[.slice none 0 0,.int .i64 142]) (fun h_ H_=>⟨.slice none 0 0,_,rfl,rfl,⟨.int .i64 142,_,rfl,rfl,rfl⟩⟩) (v:=.tuple #[.slice none 0 0,.int .i64 142]) rfl ?_
            have hN:readB s=(142,[]):=by simp only [readB,hl];rw [if_neg (by rw [← e5];exact fun z=>z ‹_›),he];simp only [];rw [if_pos (by first | exact .inl ‹_› | exact .inr ‹_›)]
            exact fun h_ H_=>K _ _ ⟨.slice none 0 0,[],by rw [hN],by rw [hN];exact OwnS.empty _ _,(H_.sub (List.nil_sublist _)).new⟩
          · refine xaj (xhz rfl rfl (decide_eq_false cc26)) (fun h_ H_=>xax (v:=(tkV w13 ((((((cutAfter 10 (((rdTo [] ((formB s).getD [])).getD []).flatten)).length:Nat):Int)-1)).toNat))) rfl) rfl ?_
            refine xcw (xhz rfl rfl (decide_eq_false cc26)) (first:=[]) (cap:=[]) rfl rfl fC38 (fun h_ H_=>yfq (n:=(linesB e.flatten).length) oL (xgq _) H_ (fun x_ h_=>by simp [h_]) fun p_ a_ c_ hp_ _ hv_ D_=>by rw [hv_];exact c38 _ _ hp_ (ht.keep H_.kept) a_ _ c_ _ D_ (by have g_:=xtv (Decidable.not_not.1 ‹¬ chkT (linesB e.flatten)≠0›);exact (g_.1)) (by have g_:=xtv (Decidable.not_not.1 ‹¬ chkT (linesB e.flatten)≠0›);exact (fun t z=>(g_.2 t z).1))) (tm':=[_,_,_,_,_,_,_,_,_,_,_,_,_,_,_,_,_,_,_,_,_,_,_,_,_,_,_,_,_,_,_,_,_,_,_,_,_,_,_,_,_,_,_,_,_,_,_,_,_,_,_,_,_,_,_,_,_,_,_,_,_,_,_,_,_,_,_,_]) rfl ?_
            refine xaj (xhz rfl rfl (decide_eq_false cc26)) (fun h_ H_=>xax (v:=sv s) rfl) rfl ?_
            refine xaj (xhz rfl rfl (decide_eq_false cc26)) (fun h_ H_=>xzj (l:=fileB (linesB e.flatten)) (m:=s) rfl rfl) rfl ?_
            refine xaj (xaz rfl) (fun h_ H_=>xdq rfl (decide_eq_false cc26) (v:=.bool (!decide (fileB (linesB e.flatten)=s))) rfl) (tm':=[_,_,_,_,_,_,_,_,_,_,_,_,_,_,_,_,_,_,_,_,_,_,_,_,_,_,_,_,_,_,_,_,_,_,_,_,_,_,_,_,_,_,_,_,_,_,_,_,_,_,_,_,_,_,_,_,_,_,_,_,_,_,_,_,_,_,_,_]) rfl ?_
            refine xak ?_
            by_cases cc27:fileB (linesB e.flatten)=s
            · refine xcv rfl (xej (decide_eq_true cc27)) ?_
              refine xdz ?_
              refine xbj ?_
              refine xav ?_
              refine xaj (xaz rfl) (fun h_ H_=>xax (v:=(tkV w13 ((((((cutAfter 10 (((rdTo [] ((formB s).getD [])).getD []).flatten)).length:Nat):Int)-1)).toNat))) rfl) rfl ?_
              refine xaj (xaz rfl) (fun h_ H_=>xaq (v:=(tkV w13 ((((((cutAfter 10 (((rdTo [] ((formB s).getD [])).getD []).flatten)).length:Nat):Int)-1)).toNat))) rfl) rfl ?_
              refine xaj (xaz rfl) (fun h_ H_=>xaq (v:=.int .i64 0) rfl) (tm':=_::_::_::_::_) rfl ?_
              refine xak ?_
              refine xcj Tryz.func14 rfl (vs:=[(tkV w13 ((((((cutAfter 10 (((rdTo [] ((formB s).getD [])).getD []).flatten)).length:Nat):Int)-1)).toNat)),.int .i64 0]) (fun h_ H_=>⟨(tkV w13 ((((((cutAfter 10 (((rdTo [] ((formB s).getD [])).getD []).flatten)).length:Nat):Int)-1)).toNat)),_,rfl,rfl,⟨.int .i64 0,_,rfl,rfl,rfl⟩⟩) (v:=.tuple #[(tkV w13 ((((((cutAfter 10 (((rdTo [] ((formB s).getD [])).getD []).flatten)).length:Nat):Int)-1)).toNat)),.int .i64 0]) rfl ?_
              have hN:readB s=(0,linesB e.flatten):=by simp only [readB,hl];rw [if_neg (by rw [← e5];exact fun z=>z ‹_›),he];simp only [];rw [if_neg (fun z=>z.elim (fun y=>‹¬ chkT (linesB e.flatten)≠0› y) (fun y=>y ‹_›))]
              exact fun h_ H_=>K _ _ ⟨_,_,by rw [hN],by rw [hN];exact oL,by simpa using H_.new⟩
            · refine xcx rfl (xek (decide_eq_false cc27)) ?_
              refine xbj ?_
              refine xav ?_
              refine xaj (xaz rfl) (fun h_ H_=>xaq (v:=.slice none 0 0) rfl) rfl ?_
              refine xaj (xaz rfl) (fun h_ H_=>xaq (v:=.int .i64 142) rfl) rfl ?_
              refine xak ?_
              refine xcj Tryz.func14 rfl (vs:=[.slice none 0 0,.int .i64 142]) (fun h_ H_=>⟨.slice none 0 0,_,rfl,rfl,⟨.int .i64 142,_,rfl,rfl,rfl⟩⟩) (v:=.tuple #[.slice none 0 0,.int .i64 142]) rfl ?_
              have hN:readB s=(142,[]):=by simp only [readB,hl];rw [if_neg (by rw [← e5];exact fun z=>z ‹_›),he];simp only [];rw [if_pos (by first | exact .inl ‹_› | exact .inr ‹_›)]
              exact fun h_ H_=>K _ _ ⟨.slice none 0 0,[],by rw [hN],by rw [hN];exact OwnS.empty _ _,(H_.sub (List.nil_sublist _)).new⟩
      · refine xcx rfl (xek cc9) ?_
        refine xbj ?_
        refine xav ?_
        refine xaj (xaz rfl) (fun h_ H_=>xaq (v:=.slice none 0 0) rfl) (tm':=_::_::_::_) rfl ?_
        refine xaj (xaz rfl) (fun h_ H_=>xaq (v:=.int .i64 142) rfl) rfl ?_
        refine xak ?_
        refine xcj Tryz.func14 rfl (vs:=[.slice none 0 0,.int .i64 142]) (fun h_ H_=>⟨.slice none 0 0,_,rfl,rfl,⟨.int .i64 142,_,rfl,rfl,rfl⟩⟩) (v:=.tuple #[.slice none 0 0,.int .i64 142]) rfl ?_
        have hR:rdTo [] l=none:=by rw [← hx];exact Option.isNone_iff_eq_none.1 (by rw [← Option.not_isSome,‹(rdTo [] ((formB s).getD [])).isSome=false›];rfl)
        have hN:readB s=(142,[]):=by simp only [readB,hl];rw [if_neg (by rw [← e5];exact fun z=>z ‹_›),hR]
        exact fun h_ H_=>K _ _ ⟨.slice none 0 0,[],by rw [hN],by rw [hN];exact OwnS.empty _ _,(H_.sub (List.nil_sublist _)).new⟩
    · refine xcx rfl (xek (decide_eq_false cc5)) ?_
      refine xbj ?_
      refine xav ?_
      refine xaj (xaz rfl) (fun h_ H_=>xaq (v:=.slice none 0 0) rfl) rfl ?_
      refine xaj (xaz rfl) (fun h_ H_=>xaq (v:=.int .i64 141) rfl) (tm':=_::_::_::_::_) rfl ?_
      refine xak ?_
      refine xcj Tryz.func14 rfl (vs:=[.slice none 0 0,.int .i64 141]) (fun h_ H_=>⟨.slice none 0 0,_,rfl,rfl,⟨.int .i64 141,_,rfl,rfl,rfl⟩⟩) (v:=.tuple #[.slice none 0 0,.int .i64 141]) rfl ?_
      have hN:readB s=(141,[]):=by simp only [readB,hl];rw [if_pos (by rw [← e5];assumption)]
      exact fun h_ H_=>K _ _ ⟨.slice none 0 0,[],by rw [hN],by rw [hN];exact OwnS.empty _ _,(H_.sub (List.nil_sublist _)).new⟩
  · refine xcx rfl (xek cc4) ?_
    refine xbj ?_
    refine xav ?_
    refine xaj (xaz rfl) (fun h_ H_=>xaq (v:=.slice none 0 0) rfl) rfl ?_
    refine xaj (xaz rfl) (fun h_ H_=>xaq (v:=.int .i64 140) rfl) rfl ?_
    refine xak ?_
    refine xcj Tryz.func14 rfl (vs:=[.slice none 0 0,.int .i64 140]) (fun h_ H_=>⟨.slice none 0 0,_,rfl,rfl,⟨.int .i64 140,_,rfl,rfl,rfl⟩⟩) (v:=.tuple #[.slice none 0 0,.int .i64 140]) rfl ?_
    have hN:readB s=(140,[]):=by simp only [readB,zxw ‹_›]
    exact fun h_ H_=>K _ _ ⟨.slice none 0 0,[],by rw [hN],by rw [hN];exact OwnS.empty _ _,(H_.sub (List.nil_sublist _)).new⟩
end Go.Proofs.YtphalmjpbnffcaaGreatDoor
namespace Go.Proofs.YtphalmjpbnffcaaGreatDoor
open Go.X Go.X.Cent Go.Conc
set_option maxRecDepth 10000
set_option synthInstance.maxSize 2000
set_option synthInstance.maxHeartbeats 400000

set_option maxHeartbeats 1000000
theorem c13 (h:Heap) (p:PHeap) (hp:Per p h) (htab:Tab h) (a:Option Addr) (n c:Nat) (ts:List By) (T:Strs p a n ts) (hn:n≤2 ^ 60) (ht: ∀ i,i<n→(ts.getD i []).length≤2 ^ 60):CallsX Tryz.prog .lone 13 #[.slice a n c] h fun v h'=>v= .tuple #[sv (writeB ts).1,.int .i64 (writeB ts).2]∧Keep h h':=by
  refine xbv (Φ:=fun h_=>St h [] p h_ []) Tryz.func13 rfl (tm:=[_,_,_,_,_,_,_,_,_,_,_,_]) rfl ?_ (St.start h _ hp)
  intro c₀ cs Stop K
  refine xbj ?_
  refine xav ?_
  refine xaj (xaz rfl) (fun h_ H_=>xaq (v:=sv ([]:List UInt8)) rfl) rfl ?_
  refine xaj (xaz rfl) (fun h_ H_=>xaq (v:=.int .i64 0) rfl) rfl ?_
  refine xak ?_
  refine xbj ?_
  refine xbj ?_
  refine xav ?_
  refine xaj (xaz rfl) (fun h_ H_=>xax (v:=.slice a n c) rfl) (tm':=_::_::_::_::_::_::_) rfl ?_
  refine xcw (xaz rfl) (first:=[]) (cap:=[]) rfl rfl fC37 (fun h_ H_=>c37 _ _ (fun b_ o_ e_=>H_.per b_ o_ e_) a n _ _ T (by omega) (fun i_ h_=>ht i_ h_)) rfl ?_
  refine xaj (xaz rfl) (fun h_ H_=>xaq (v:=.int .i64 (chkT ts)) rfl) rfl ?_
  refine xak ?_
  refine xbj ?_
  refine xav ?_
  refine xaj (xaz rfl) (fun h_ H_=>xax (v:=.int .i64 (chkT ts)) rfl) (tm':=_::_::_::_::_::_::_::_::_) rfl ?_
  refine xaj (xaz rfl) (fun h_ H_=>xgw rfl rfl) rfl ?_
  refine xak ?_
  by_cases cc1:chkT ts≠0
  · refine xcx rfl (decide_eq_true cc1) ?_
    refine xbj ?_
    refine xav ?_
    refine xaj (xaz rfl) (fun h_ H_=>xax (v:=.int .i64 (chkT ts)) rfl) rfl ?_
    refine xaj (xaz rfl) (fun h_ H_=>xaq (v:=sv ([]:List UInt8)) rfl) (tm':=_::_::_::_) rfl ?_
    refine xaj (xaz rfl) (fun h_ H_=>xaq (v:=.int .i64 (chkT ts)) rfl) rfl ?_
    refine xak ?_
    refine xcj Tryz.func13 rfl (vs:=[sv ([]:List UInt8),.int .i64 (chkT ts)]) (fun h_ H_=>⟨sv ([]:List UInt8),_,rfl,rfl,⟨.int .i64 (chkT ts),_,rfl,rfl,rfl⟩⟩) (v:=.tuple #[sv ([]:List UInt8),.int .i64 (chkT ts)]) rfl ?_
    exact fun h_ H_=>K _ _ ⟨by rw [writeB,if_pos ‹_›],H_.kept⟩
  · refine xcv rfl (decide_eq_false cc1) ?_
    refine xdz ?_
    refine xbj ?_
    obtain ⟨hw40,hw200,hw820,hts20,hen,hem⟩:=wfv ‹¬ chkT ts≠0›
    have hl:=T.len
    refine xav ?_
    refine xaj (xaz rfl) (fun h_ H_=>xax (v:=.slice a n c) rfl) rfl ?_
    refine xcw (xaz rfl) (first:=[]) (cap:=[]) rfl rfl fC38 (fun h_ H_=>c38 _ _ (fun b_ o_ e_=>H_.per b_ o_ e_) (htab.keep H_.kept) a n _ _ T (by omega) hw40) (tm':=[_,_,_,_,_,_,_,_,_,_,_,_]) rfl ?_
    refine xaj (xaz rfl) (fun h_ H_=>xaq (v:=sv (fileB ts)) rfl) rfl ?_
    refine xaj (xaz rfl) (fun h_ H_=>xaq (v:=.int .i64 0) rfl) rfl ?_
    refine xak ?_
    refine xcj Tryz.func13 rfl (vs:=[sv (fileB ts),.int .i64 0]) (fun h_ H_=>⟨sv (fileB ts),_,rfl,rfl,⟨.int .i64 0,_,rfl,rfl,rfl⟩⟩) (v:=.tuple #[sv (fileB ts),.int .i64 0]) rfl ?_
    exact fun h_ H_=>K _ _ ⟨by rw [writeB,if_neg ‹_›],H_.kept⟩
theorem c23 (h:Heap) (htab:Tab h) (s t:By) (hs:s.length≤2 ^ 60) (ht:t.length≤2 ^ 60):CallsX Tryz.prog .lone 23 #[sv s,sv t] h fun v h'=>v= .tuple #[sv (addB s t).1,.int .i64 (addB s t).2]∧Keep h h':=by
  refine xbv (Φ:=fun h_=>St h [] (fun _=>none) h_ []) Tryz.func23 rfl (tm:=[_,_,_,_,_,_,_,_,_,_,_,_,_,_,_,_,_,_,_,_,_,_,_]) rfl ?_ (St.start h _ (fun _ _ e=>by cases e))
  intro c₀ cs Stop K
  refine xbj ?_
  refine xav ?_
  refine xaj (xaz rfl) (fun h_ H_=>xaq (v:=sv ([]:List UInt8)) rfl) rfl ?_
  refine xaj (xaz rfl) (fun h_ H_=>xaq (v:=.int .i64 0) rfl) rfl ?_
  refine xak ?_
  refine xbj ?_
  refine xav ?_
  refine xaj (xaz rfl) (fun h_ H_=>xax (v:=sv s) rfl) (tm':=_::_::_::_::_::_::_::_::_::_::_) rfl ?_
  refine xcz (L':=([]:Pcs)++[]) rfl ?_
  refine xgv (xaz rfl) (first:=[]) (cap:=[]) rfl rfl fC14 (R:=fun v_ h_=>∃ w1:Value,∃ X2:Pcs,v_= .tuple #[w1,.int .i64 ((readB s).1)]∧(OwnS 9 1 w1 (scs (readB s).2) X2)∧St h [] (fun _=>none) h_ (([]:Pcs)++(X2++[]))) (fun h_ H_=>(c14 _ (htab.keep H_.kept) s (by omega)).mono fun v_ h2_ ⟨w1,X2,e_,o3,N_⟩=>⟨w1,X2,e_,o3,H_.callNA N_⟩) fun v_=>?_
  refine xgx fun w1=>xgx fun X2=>xez fun ev_=>xez fun o3=>?_
  have ev_:=ev_.symm;subst ev_
  refine xcz (L':=([]:Pcs)++(X2++[])) rfl ?_
  refine xaj (xaz rfl) (fun h_ H_=>xax (v:=.tuple #[w1,.int .i64 ((readB s).1)]) rfl) rfl ?_
  refine xaj (xaz rfl) (fun h_ H_=>xdw rfl (v:=w1) rfl) (tm':=_::_::_::_::_::_::_::_::_::_::_::_::_) rfl ?_
  refine xaj (xaz rfl) (fun h_ H_=>xdw rfl (v:=.int .i64 ((readB s).1)) rfl) rfl ?_
  refine xaj (xaz rfl) (fun h_ H_=>xaq (v:=w1) rfl) rfl ?_
  refine xaj (xaz rfl) (fun h_ H_=>xaq (v:=.int .i64 ((readB s).1)) rfl) (tm':=_::_::_::_::_::_::_::_::_) rfl ?_
  refine xak ?_
  refine xbj ?_
  refine xbj ?_
  refine xav ?_
  refine xaj (xaz rfl) (fun h_ H_=>xax (v:=.int .i64 ((readB s).1)) rfl) rfl ?_
  refine xaj (xaz rfl) (fun h_ H_=>xgw rfl rfl) rfl ?_
  refine xak ?_
  by_cases cc4:(readB s).1≠0
  · refine xcx rfl (decide_eq_true cc4) ?_
    refine xbj ?_
    refine xav ?_
    refine xaj (xaz rfl) (fun h_ H_=>xax (v:=.int .i64 ((readB s).1)) rfl) (tm':=[_,_,_,_,_,_,_,_,_,_,_,_,_,_,_,_,_,_,_,_,_,_,_]) rfl ?_
    refine xaj (xaz rfl) (fun h_ H_=>xaq (v:=sv ([]:List UInt8)) rfl) rfl ?_
    refine xaj (xaz rfl) (fun h_ H_=>xaq (v:=.int .i64 ((readB s).1)) rfl) rfl ?_
    refine xak ?_
    refine xcj Tryz.func23 rfl (vs:=[sv ([]:List UInt8),.int .i64 ((readB s).1)]) (fun h_ H_=>⟨sv ([]:List UInt8),_,rfl,rfl,⟨.int .i64 ((readB s).1),_,rfl,rfl,rfl⟩⟩) (v:=.tuple #[sv ([]:List UInt8),.int .i64 ((readB s).1)]) rfl ?_
    exact fun h_ H_=>K _ _ ⟨by rw [addB,if_pos ‹_›],H_.kept⟩
  · refine xcv rfl (decide_eq_false cc4) ?_
    refine xdz ?_
    refine xbj ?_
    have hok:=zuj (s:=s) (Decidable.not_not.1 ‹_›)
    have hrl:=hok.1
    refine xav ?_
    refine xaj (xaz rfl) (fun h_ H_=>xax (v:=w1) rfl) (tm':=[_,_,_,_,_,_,_,_,_,_,_,_,_,_,_,_,_,_,_,_,_,_,_]) rfl ?_
    refine xaj (xaz rfl) (fun h_ H_=>xax (v:=sv t) rfl) rfl ?_
    refine xhv ([]:Pcs) (xaz rfl) Tryz.underlying33 tS9 tZ9 (Nat.le_of_ble_eq_true rfl) (vs:=[(0,sv t)]) rfl rfl (es:=[[sv t]]) rfl rfl rfl fun v5 X6 o7=>?_
    refine xjw (List.Perm.append_left _ (List.perm_append_comm_assoc _ _ _)) ?_
    refine xcz (L':=([]:Pcs)++(X2++(X6++[]))) rfl ?_
    refine xkw ([]:Pcs) X2 X6 (xaz rfl) Tryz.underlying33 tS9 tZ9 rfl tB9 Tryz.underlying33 rfl rfl o3 o7 (xrk rfl) (by rw [xgq];simp only [List.length_cons,List.length_nil];omega) (by decide) fun v8 X9 o10=>?_
    have o11:OwnS 9 1 v8 (scs ((readB s).2++[t])) X9:=o10.as (ysx _ _)
    refine xfz (tm':=[_,_,_,_,_,_,_,_,_,_,_,_,_,_,_,_,_,_,_,_,_,_,_]) rfl ?_
    refine xcw (xaz rfl) (first:=[]) (cap:=[]) rfl rfl fC13 (fun h_ H_=>yfq (n:=((readB s).2++[t]).length) o11 (xgq _) H_ (fun x_ h_=>by simp [h_]) fun p_ a_ c_ hp_ _ hv_ D_=>by rw [hv_];exact c13 _ _ hp_ (htab.keep H_.kept) a_ _ c_ _ D_ (by rw [List.length_append,List.length_singleton];omega) (zuz hok ht)) rfl ?_
    refine xaj (xaz rfl) (fun h_ H_=>xdw rfl (v:=sv ((writeB ((readB s).2++[t])).1)) rfl) rfl ?_
    refine xaj (xaz rfl) (fun h_ H_=>xdw rfl (v:=.int .i64 ((writeB ((readB s).2++[t])).2)) rfl) (tm':=[_,_,_,_,_,_,_,_,_,_,_,_,_,_,_,_,_,_,_,_,_,_,_]) rfl ?_
    refine xaj (xaz rfl) (fun h_ H_=>xaq (v:=sv ((writeB ((readB s).2++[t])).1)) rfl) rfl ?_
    refine xaj (xaz rfl) (fun h_ H_=>xaq (v:=.int .i64 ((writeB ((readB s).2++[t])).2)) rfl) rfl ?_
    refine xak ?_
    refine xcj Tryz.func23 rfl (vs:=[sv ((writeB ((readB s).2++[t])).1),.int .i64 ((writeB ((readB s).2++[t])).2)]) (fun h_ H_=>⟨sv ((writeB ((readB s).2++[t])).1),_,rfl,rfl,⟨.int .i64 ((writeB ((readB s).2++[t])).2),_,rfl,rfl,rfl⟩⟩) (v:=.tuple #[sv ((writeB ((readB s).2++[t])).1),.int .i64 ((writeB ((readB s).2++[t])).2)]) rfl ?_
    exact fun h_ H_=>K _ _ ⟨by rw [addB,if_neg ‹_›],H_.kept⟩
end Go.Proofs.YtphalmjpbnffcaaGreatDoor
