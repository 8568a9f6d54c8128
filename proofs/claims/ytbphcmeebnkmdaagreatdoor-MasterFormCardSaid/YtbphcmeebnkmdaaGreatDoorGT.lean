/-
  Part of proofs about a town's master: a calculus for walks beside goroutines that are only leaving, and the walks. No condition.
-/
import Derived.Test.YtbphcmeebnkmdaaGreatDoorGS
namespace Go.Proofs.YtbphcmeebnkmdaaGreatDoor
open Go.X Go.X.Flow Go.Conc
set_option maxRecDepth 10000
theorem c101 (md:Md) (h:Heap) (p:PHeap) (hp:Per p h) (n lo hi:Int):CallsX Tryz.prog md 101 #[.int .i64 n,.int .i64 lo,.int .i64 hi] h fun v h'=>v= .bool (decide (lo<=n/\n<=hi))/\Keep h h':=by
 refine xeq hp Tryz.func101 fun _ _ _ K=>?_
 refine aw ?_
 exact xdq Tryz.func101 rfl rfl fun _ H_=>K _ _ ⟨congrArg _ (bpe Iff.rfl),H_.kept⟩
theorem c100 (md:Md) (h:Heap) (p:PHeap) (hp:Per p h) (n:Int):CallsX Tryz.prog md 100 #[.int .i64 n] h fun v h'=>v= .bool (badN 9 n)/\Keep h h':=by
 refine xeq hp Tryz.func100 fun _ _ _ K=>?_
 refine aw ?_
 refine xoq rfl rfl (fun _ pe=>c101 md _ _ pe _ _ _) ?_
 refine aw ?_
 exact xdq Tryz.func100 rfl rfl fun _ H_=>K _ _ ⟨rfl,H_.kept⟩
theorem c102 (md:Md) (h:Heap) (p:PHeap) (hp:Per p h) (n:Int):CallsX Tryz.prog md 102 #[.int .i64 n] h fun v h'=>v= .bool (badN 20 n)/\Keep h h':=by
 refine xeq hp Tryz.func102 fun _ _ _ K=>?_
 refine aw ?_
 refine xoq rfl rfl (fun _ pe=>c101 md _ _ pe _ _ _) ?_
 refine aw ?_
 exact xdq Tryz.func102 rfl rfl fun _ H_=>K _ _ ⟨rfl,H_.kept⟩
theorem c239 (md:Md) (h:Heap) (p:PHeap) (hp:Per p h) (n:Int):CallsX Tryz.prog md 239 #[.int .i64 n] h fun v h'=>v= .bool false/\Keep h h':=by
 refine xeq hp Tryz.func239 fun _ _ _ K=>?_
 refine aw ?_
 exact xdq Tryz.func239 rfl rfl fun _ H_=>K _ _ ⟨congrArg _ (decide_eq_false fun z=>z rfl),H_.kept⟩
theorem c190 (md:Md) (h:Heap) (p:PHeap) (hp:Per p h) (x y:Int):CallsX Tryz.prog md 190 #[.int .i64 x,.int .i64 y] h fun v h'=>v= .int .i64 (cmpI x y)/\Keep h h':=by
 refine xeq hp Tryz.func190 fun _ _ _ K=>?_
 refine aw ?_
 refine xoq rfl rfl (fun _ pe=>c239 md _ _ pe _) ?_
 refine aw ?_
 refine xoq rfl rfl (fun _ pe=>c239 md _ _ pe _) ?_
 refine aw ?_
 refine xhq rfl (fun cc=>absurd cc (fun z=>z)) (fun cc=>?_)
 refine aw ?_
 refine xhq rfl (fun cc=>absurd cc (fun z=>z)) (fun cc=>?_)
 refine aw ?_
 refine xhq rfl (fun cd=>?_) (fun cd=>?_)
 ·refine aw ?_
  exact xdq Tryz.func190 rfl rfl fun _ H_=>K _ _ ⟨by rw [cmpI,if_pos cd];rfl,H_.kept⟩
 refine aw ?_
 refine xhq rfl (fun ce=>?_) (fun ce=>?_)
 ·refine aw ?_
  exact xdq Tryz.func190 rfl rfl fun _ H_=>K _ _ ⟨by rw [cmpI,if_neg cd,if_pos ce];rfl,H_.kept⟩
 refine aw ?_
 exact xdq Tryz.func190 rfl rfl fun _ H_=>K _ _ ⟨by rw [cmpI,if_neg cd,if_neg ce];rfl,H_.kept⟩
theorem c189 (md:Md) (h:Heap) (p:PHeap) (hp:Per p h) (a:Option Addr) (n c:Nat) (xs:List Int) (S:Ints p a n xs) (hn:n<=2 ^ 40):CallsX Tryz.prog md 189 #[.slice a n c] h fun v h'=>v= .int .i64 (orI xs)/\Keep h h':=by
 have hl:=S.len
 refine xeq hp Tryz.func189 fun _ _ _ K=>?_
 refine aw ?_
 refine xaz (fun m l=>∃ j:Nat,m=n-j/\l=[(3,none,.int .i64 0),(6,none,.slice a n c),(7,none,.int .i64 n),(8,none,.int .i64 j)]/\j<=n/\ ∀ i,i<j->xs.getD i 0=0) ⟨0,rfl,rfl,Nat.zero_le _,by omega⟩ sb ?_
 rintro _ _ IH ⟨j,rfl,rfl,hj,h1⟩
 refine aw ?_
 refine xhq rfl (fun cc=>?_) (fun cc=>?_)
 ·refine aw ?_
  refine xhq rfl (fun ce=>?_) (fun ce=>?_)
  ·refine aw ?_
   exact xdq Tryz.func189 rfl rfl fun _ H_=>K _ _ ⟨by rw [ycc (k:=j) (by omega) h1 ce];rfl,H_.kept⟩
  ·refine aw ?_
   exact xqq (IH _ (by omega) ⟨j+1,rfl,rfl,by omega,upto_st h1 (Classical.not_not.1 ce)⟩)
 refine aw ?_
 exact xdq Tryz.func189 rfl rfl fun _ H_=>K _ _ ⟨by rw [xr9 fun i hi=>h1 i (by omega)];rfl,H_.kept⟩
theorem c105 (md:Md) (h:Heap) (p:PHeap) (hp:Per p h) (a b c d:Int):CallsX Tryz.prog md 105 #[.agg #[.int .i64 a,.int .i64 b],.agg #[.int .i64 c,.int .i64 d]] h fun v h'=>v= .int .i64 (ordW a b c d)/\Keep h h':=by
 refine xeq hp Tryz.func105 fun _ _ _ K=>?_
 refine aw ?_
 refine xjq rfl fun b1=>?_
 refine xjq rfl fun b2=>?_
 refine aw ?_
 refine xix [] R9 ?_
 refine ae ?_
 refine xkv rfl rfl rfl (fun _ pe=>c190 md _ _ pe _ _) ?_
 refine ae ?_
 refine xoq rfl rfl (fun _ pe=>c190 md _ _ pe _ _) ?_
 refine xjz rfl fun v Y o=>?_
 have o:OwnS 3 1 v [[.int .i64 (cmpI a c)],[.int .i64 (cmpI b d)]] Y:=o
 refine xqx o (m:=2) rfl (by decide) fun p' b3 c3 g e3 hc3 F=>?_
 subst e3
 refine xoq rfl rfl (fun _ pe=>c189 md _ _ pe _ _ _ [cmpI a c,cmpI b d] F (by decide)) ?_
 refine aw ?_
 exact xdq Tryz.func105 rfl rfl fun _ H_=>K _ _ ⟨rfl,H_.kept⟩
theorem c103 (md:Md) (h:Heap) (p:PHeap) (hp:Per p h) (a1 a2 a3:Option Addr) (n1 n2 n3 c1 c2 c3:Nat) (hn:n1<=2 ^ 40) (x:Int):
  CallsX Tryz.prog md 103 #[.agg #[.slice a1 n1 c1,.slice a2 n2 c2,.slice a3 n3 c3],.int .i64 x] h fun v h'=>v= .bool (decide (0<=x/\x<=(n1:Int)-1))/\Keep h h':=by
 refine xeq hp Tryz.func103 fun _ _ _ K=>?_
 refine aw ?_
 refine xjq rfl fun b1=>?_
 refine aw ?_
 refine xoq rfl rfl (fun _ pe=>c101 md _ _ pe _ _ _) ?_
 refine aw ?_
 exact xdq Tryz.func103 rfl rfl fun _ H_=>K _ _ ⟨rfl,H_.kept⟩
theorem c104 (md:Md) (h:Heap) (p:PHeap) (hp:Per p h) (a1 a2 a3:Option Addr) (n1 n2 n3 c1 c2 c3:Nat) (hn:n2<=2 ^ 40) (x:Int):
  CallsX Tryz.prog md 104 #[.agg #[.slice a1 n1 c1,.slice a2 n2 c2,.slice a3 n3 c3],.int .i64 x] h fun v h'=>v= .bool (decide (0<=x/\x<=(n2:Int)-1))/\Keep h h':=by
 refine xeq hp Tryz.func104 fun _ _ _ K=>?_
 refine aw ?_
 refine xjq rfl fun b1=>?_
 refine aw ?_
 refine xoq rfl rfl (fun _ pe=>c101 md _ _ pe _ _ _) ?_
 refine aw ?_
 exact xdq Tryz.func104 rfl rfl fun _ H_=>K _ _ ⟨rfl,H_.kept⟩
theorem xq6 {t:Tn} {j:Nat}:((¬ (0<=(t.wy.getD j wz).1/\(t.wy.getD j wz).1<=(t.nH:Int)-1)\/ ¬ (0<=(t.wy.getD j wz).2/\(t.wy.getD j wz).2<=(t.nW:Int)-1))\/(0<(j:Int)/\0<=ordW (t.wy.getD ((j:Int)-1).toNat wz).1 (t.wy.getD ((j:Int)-1).toNat wz).2 (t.wy.getD j wz).1 (t.wy.getD j wz).2))<-> ¬ YOk t j:=by
 unfold YOk
 rw [ysk]
 constructor
 ·rintro ((z | z) | ⟨z1,z2⟩) ⟨y1,y2,y3⟩
  ·exact z y1
  ·exact z y2
  ·exact z2 (y3 (by omega))
 ·intro z
  refine Classical.byContradiction fun n=>z ?_
  have n1:=not_or.1 n
  have n2:=not_or.1 n1.1
  exact ⟨Classical.not_not.1 n2.1,Classical.not_not.1 n2.2,fun h0=>Classical.not_not.1 fun b=>n1.2 ⟨by omega,b⟩⟩
theorem c55 (md:Md) (h:Heap) (p:PHeap) (hp:Per p h) (a1 a2 a3:Option Addr) (c1 c2 c3:Nat) (t:Tn) (T:TownP p a1 t.nH a2 t.nW a3 t.m t) (hn:t.nH<=2 ^ 30/\t.nW<=2 ^ 30/\t.m<=2 ^ 30):
  CallsX Tryz.prog md 55 #[.agg #[.slice a1 t.nH c1,.slice a2 t.nW c2,.slice a3 t.m c3]] h fun v h'=>v= .int .i64 (chkB t)/\Keep h h':=by
 have Th:=T.h
 have Tw:=T.w
 refine xeq hp Tryz.func55 fun _ _ _ K=>?_
 refine aw ?_
 refine xjq rfl fun b1=>?_
 refine aw ?_
 refine xhq rfl (fun cc=>?_) (fun cc=>?_)
 ·refine aw ?_
  exact xdq Tryz.func55 rfl rfl fun _ H_=>K _ _ ⟨by rw [chkB_no fun z=>by have:=z.1;have:=z.2.nh;have:=z.2.nw;omega];rfl,H_.kept⟩
 refine aw ?_
 refine xoq rfl rfl (fun _ pe=>c99 md _ _ pe _ _ _ _ _ T.h (by omega) (badN 9) fun _ pe _ _=>xkq (by kernel_rfl) (c100 md _ _ pe _)) ?_
 refine aw ?_
 refine xex rfl rfl rfl sdt (fun _ _ pe=>c99 md _ _ pe _ _ _ _ _ T.w (by omega) (badN 20) fun _ pe _ _=>xkq (by kernel_rfl) (c102 md _ _ pe _)) ?_
 refine aw ?_
 refine xhq rfl (fun cd=>?_) (fun cd=>?_)
 ·refine aw ?_
  exact xdq Tryz.func55 rfl rfl fun _ H_=>K _ _ ⟨by rw [chkB_no fun z=>cd.elim (fun y=>yrz y z.2.h) (fun y=>yrz y z.2.w)];rfl,H_.kept⟩
 refine aw ?_
 refine xrq (fun m l p_ L_=>∃ (j:Nat) (A:List Pcs),m=t.m-j/\l=[(1,none,.pointer (some ⟨b1,0,none⟩)),(30,none,.slice a3 t.m c3),(31,none,.int .i64 t.m),(32,none,.int .i64 j)]/\p_=p/\L_=[[(b1,.cells #[.slice a1 t.nH c1,.slice a2 t.nW c2,.slice a3 t.m c3] 28 (0,0))]]/\j<=t.m/\ ∀ i,i<j->YOk t i) ⟨0,[],rfl,rfl,rfl,rfl,Nat.zero_le _,by omega⟩ sb ?_
 rintro _ _ _ _ IH ⟨j,A,rfl,rfl,rfl,rfl,hj,h1⟩
 refine aw ?_
 refine xhq rfl (fun ce=>?_) (fun ce=>?_)
 ·refine aw ?_
  refine xf5 rfl rfl (by omega) (T.y.ne (by omega)) ?_
  refine xav rfl (T.y.all (by omega)) ?_
  refine xiq fun b2=>?_
  refine aw ?_
  refine xix [] R23 ?_
  refine ae ?_
  refine xkv rfl rfl rfl (fun _ pe=>c103 md _ _ pe _ _ _ _ _ _ _ _ _ (by omega) _) ?_
  refine ae ?_
  refine xlk rfl rfl rfl rfl sdt (fun _ _ pe=>c104 md _ _ pe _ _ _ _ _ _ _ _ _ (by omega) _) ?_
  refine ae ?_
  refine xrc rfl rfl rfl rfl sdt sdt (gd2 fun _ hq=>⟨by omega,T.y.ne (by omega)⟩) ?_
  refine xlw rfl rfl rfl sdt (gd2 fun _ hq=>T.y.all (by omega)) ?_
  refine ae ?_
  refine xex rfl rfl rfl sdt (fun _ _ pe=>c105 md _ _ pe _ _ _ _) ?_
  refine aw ?_
  refine xhq rfl (fun cf=>?_) (fun cf=>?_)
  ·refine aw ?_
   exact xdq Tryz.func55 rfl rfl fun _ H_=>K _ _ ⟨by rw [chkB_no fun z=>xq6.1 cf (z.2.y j (by omega))];rfl,H_.kept⟩
  refine aw ?_
  exact xqq (IH _ _ _ (by omega) ⟨j+1,[],rfl,rfl,rfl,rfl,by omega,upto_st h1 (Classical.not_not.1 fun z=>cf (xq6.2 z))⟩)
 refine aw ?_
 have e1:t.hs.length=t.nH:=rfl
 have e2:t.ws.length=t.nW:=rfl
 exact xdq Tryz.func55 rfl rfl fun _ H_=>K _ _ ⟨by rw [chkB_yes (by omega) ⟨by omega,by omega,fun i hi=>xr4 (fun z=>cd (.inl z)) i hi,fun i hi=>xr4 (fun z=>cd (.inr z)) i hi,fun i hi=>h1 i (by omega)⟩];rfl,H_.kept⟩
theorem c207 (md:Md) (h:Heap) (p:PHeap) (hp:Per p h) (a1 a2 a3:Option Addr) (c1 c2 c3:Nat) (t:Tn) (T:TownP p a1 t.nH a2 t.nW a3 t.m t) (hn:t.nH<=2 ^ 30/\t.nW<=2 ^ 30/\t.m<=2 ^ 30) (b:Bool):
  CallsX Tryz.prog md 207 #[.agg #[.slice a1 t.nH c1,.slice a2 t.nW c2,.slice a3 t.m c3],.bool b] h fun v h'=>v= .int .i64 (askB t b)/\Keep h h':=by
 refine xeq hp Tryz.func207 fun _ _ _ K=>?_
 refine aw ?_
 refine xjq rfl fun b1=>?_
 refine aw ?_
 refine xoq rfl rfl (fun _ pe=>c55 md _ _ pe _ _ _ _ _ _ t T hn) ?_
 refine aw ?_
 refine xhq rfl (fun cc=>?_) (fun cc=>?_)
 ·refine aw ?_
  have e:chkB t=30:=by rcases xnf t with z | z;exact absurd z.1 cc;exact z.1
  exact xdq Tryz.func207 rfl rfl fun _ H_=>K _ _ ⟨by rw [askB,if_neg cc,e];rfl,H_.kept⟩
 have cc:=Classical.not_not.1 cc
 refine aw ?_
 refine xhq rfl (fun cd=>?_) (fun cd=>?_)
 ·refine aw ?_
  exact xdq Tryz.func207 rfl rfl fun _ H_=>K _ _ ⟨by rw [askB,if_pos cc,if_neg cd];rfl,H_.kept⟩
 refine aw ?_
 exact xdq Tryz.func207 rfl rfl fun _ H_=>K _ _ ⟨by rw [askB,if_pos cc,if_pos (Classical.not_not.1 cd)];rfl,H_.kept⟩
theorem xkp (xs:List Int): ∀ u∈(ics xs).flatten,isOne u=true:=ynq xs
theorem c67 (md:Md) (h:Heap) (p:PHeap) (hp:Per p h) (a:Option Addr) (n c:Nat) (xs:List Int) (S:Ints p a n xs) (hn:n<=2 ^ 20):
  CallsX Tryz.prog md 67 #[.slice a n c] h fun v h'=>∃ Y,OwnS 3 1 v (ics xs) Y/\New h h' Y:=by
 have hl:=S.len
 refine xeq hp Tryz.func67 fun _ _ _ K=>?_
 refine aw ?_
 refine xas rfl ?_
 refine aw ?_
 refine xhq rfl (fun cc=>?_) (fun cc=>?_)
 ·refine aw ?_
  have e:xs=[]:=by
   by_cases h0:0<n
   ·rw [S.ne h0] at cc;cases cc
   ·exact List.eq_nil_of_length_eq_zero (by omega)
  subst e
  refine xec 3 1 fun o=>?_
  exact xdq Tryz.func67 rfl rfl fun _ H_=>K _ _ ⟨_,o,newR H_⟩
 refine aw ?_
 refine xjz rfl fun v Y o=>?_
 refine aw ?_
 refine xlh rfl rfl o S (xkp xs) (by simp [chs];omega) (fun v' Y' o'=>?_)
 refine aw ?_
 exact xdq Tryz.func67 rfl rfl fun _ H_=>K _ _ ⟨_,o',newR H_⟩
theorem c202 (md:Md) (h:Heap) (p:PHeap) (hp:Per p h) (a:Option Addr) (n c:Nat) (xs:List Int) (S:Ints p a n xs) (hn:n<=100) (hx: ∀ i,i<n->0<=xs.getD i 0/\xs.getD i 0<=1000):
  CallsX Tryz.prog md 202 #[.slice a n c] h fun v h'=>v= .int .i64 (sm n (dv xs))/\Keep h h':=by
 refine xeq hp Tryz.func202 fun _ _ _ K=>?_
 refine aw ?_
 refine xaz (fun m l=>∃ j:Nat,m=n-j/\l=[(3,none,.int .i64 (sm j (dv xs))),(6,none,.slice a n c),(7,none,.int .i64 n),(8,none,.int .i64 j)]/\j<=n/\0<=sm j (dv xs)/\sm j (dv xs)<=1000*j) ⟨0,rfl,rfl,Nat.zero_le _,by simp [sm],by simp [sm]⟩ sb ?_
 rintro _ _ IH ⟨j,rfl,rfl,hj,h0,h1⟩
 refine aw ?_
 refine xhq rfl (fun cc=>?_) (fun cc=>?_)
 ·have hj2:=hx j (by omega)
  refine aw ?_
  exact xqq (IH _ (by omega) ⟨j+1,rfl,rfl,by omega,by rw [sm];unfold dv;unfold dv at h0;omega,by rw [sm];unfold dv;unfold dv at h1;omega⟩)
 obtain rfl:j=n:=by omega
 refine aw ?_
 exact xdq Tryz.func202 rfl rfl fun _ H_=>K _ _ ⟨rfl,H_.kept⟩
theorem yhq {vs:List Int} {g:Nat->Nat} {d:List Int} {j:Nat} {z:Int} (hz:z.toNat=g j) (hg:g j<vs.length) (x:Int) (hx:x=(leftK vs g d j).getD (g j) 0-dv d j):(ics (leftK vs g d j)).set z.toNat (setl [.int .i64 ((leftK vs g d j).getD (g j) 0)] 0 [.int .i64 x])=ics (leftK vs g d (j+1)):=by
 subst hx
 rw [hz,<- xr5 hg]
 exact ics_set
theorem c209 (md:Md) (h:Heap) (p:PHeap) (hp:Per p h) (a1 a2 a3:Option Addr) (c1 c2 c3:Nat) (t:Tn) (T:TownP p a1 t.nH a2 t.nW a3 t.m t) (b:Option Addr) (m cb:Nat) (d:List Int) (D:Ints p b m d) (hn:t.nH<=40/\t.nW<=40) (hm:m<=t.m/\t.m<=13) (hd: ∀ i,i<m->0<=dv d i/\dv d i<=20) (hh: ∀ i,i<t.nH-> -100<=t.hs.getD i 0/\t.hs.getD i 0<=100)
  (hw: ∀ i,i<t.nW-> -100<=t.ws.getD i 0/\t.ws.getD i 0<=100) (hy: ∀ i,i<t.m->(0<=(t.wy.getD i wz).1/\(t.wy.getD i wz).1.toNat<t.nH)/\0<=(t.wy.getD i wz).2/\(t.wy.getD i wz).2.toNat<t.nW):
  CallsX Tryz.prog md 209 #[.agg #[.slice a1 t.nH c1,.slice a2 t.nW c2,.slice a3 t.m c3],.slice b m cb] h fun v h'=>∃ Y,(∃ w1 w2 Y1 Y2,v= .tuple #[w1,w2]/\OwnS 3 1 w1 (ics (leftK t.hs t.wh d m)) Y1/\OwnS 3 1 w2 (ics (leftK t.ws t.ww d m)) Y2/\Y=Y1++Y2)/\New h h' Y:=by
 have hlh:t.hs.length=t.nH:=rfl
 have hlw:t.ws.length=t.nW:=rfl
 refine xeq hp Tryz.func209 fun _ _ _ K=>?_
 refine aw ?_
 refine xjq rfl fun b1=>?_
 refine aw ?_
 refine xix [2] [0,1,3,4,2] ?_
 refine ae ?_
 refine xmw rfl rfl rfl (fun _ pe=>c67 md _ _ pe _ _ _ _ T.h (by omega)) fun v1 Y1 o1=>?_
 refine ae ?_
 refine xxj rfl rfl (fun _ pe=>c67 md _ _ pe _ _ _ _ T.w (by omega)) fun v2 Y2 o2=>?_
 refine aw ?_
 refine xrq (fun m_ l p_ L_=>∃ (j:Nat) (Z1 Z2:Pcs),m_=m-j/\l=[(2,none,.pointer (some ⟨b1,0,none⟩)),(4,none,v1),(5,none,v2),(14,none,.slice b m cb),(15,none,.int .i64 m),(16,none,.int .i64 j)]/\p_=p/\L_=[Z2,[(b1,.cells #[.slice a1 t.nH c1,.slice a2 t.nW c2,.slice a3 t.m c3] 28 (0,0))],Z1]/\j<=m/\
  OwnS 3 1 v1 (ics (leftK t.hs t.wh d j)) Z1/\OwnS 3 1 v2 (ics (leftK t.ws t.ww d j)) Z2) ⟨0,Y1,Y2,rfl,rfl,rfl,rfl,Nat.zero_le _,by rw [xtm];exact o1,by rw [xtm];exact o2⟩ sb ?_
 rintro _ _ _ _ IH ⟨j,Z1,Z2,rfl,rfl,rfl,rfl,hj,o1,o2⟩
 refine aw ?_
 refine xhq rfl (fun cc=>?_) (fun cc=>?_)
 ·have hyj:=hy j (by omega)
  have hdj:=hd j (by omega)
  have e1:(t.wy.getD j wz).1.toNat=t.wh j:=rfl
  have e2:(t.wy.getD j wz).2.toNat=t.ww j:=rfl
  have hb1:=xyh (g:=t.wh) (d:=d) (k:=j) (h:=t.wh j) (fun i hi=>hd i (by omega))
  have hb2:=xyh (g:=t.ww) (d:=d) (k:=j) (h:=t.ww j) (fun i hi=>hd i (by omega))
  have g1:=xok (vs:=t.hs) (g:=t.wh) (d:=d) (k:=j) (h:=t.wh j) (by omega)
  have g2:=xok (vs:=t.ws) (g:=t.ww) (d:=d) (k:=j) (h:=t.ww j) (by omega)
  have hh1:=hh (t.wh j) (by omega)
  have hw1:=hw (t.ww j) (by omega)
  have i1:(ics (leftK t.hs t.wh d j))[(t.wy.getD j wz).1.toNat]?=some [.int .i64 ((leftK t.hs t.wh d j).getD (t.wh j) 0)]:=ics_at (by rw [xtx];omega)
  have i2:(ics (leftK t.ws t.ww d j))[(t.wy.getD j wz).2.toNat]?=some [.int .i64 ((leftK t.ws t.ww d j).getD (t.ww j) 0)]:=ics_at (by rw [xtx];omega)
  have hdj2:dv d j=d.getD j 0:=rfl
  refine aw ?_
  refine xf5 rfl rfl (by omega) (T.y.ne (by omega)) ?_
  refine aw ?_
  refine xkk rfl (T.y.at (by omega) (j:=0) rfl) ?_
  refine xsv rfl rfl o1 (by omega) (by rw [xmq,xtx];omega) ?_
  refine xhh rfl o1 xmx i1 rfl ?_
  refine aw ?_
  refine xsv rfl rfl o1 (by omega) (by rw [xmq,xtx];omega) ?_
  refine xyk (j:=0) rfl rfl o1 xmx rfl rfl rfl i1 (Nat.le_refl _) fun Z1' o1'=>?_
  refine aw ?_
  refine xf5 rfl rfl (by omega) (T.y.ne (by omega)) ?_
  refine aw ?_
  refine xkk rfl (T.y.at (by omega) (j:=1) rfl) ?_
  refine xsv rfl rfl o2 (by omega) (by rw [xmq,xtx];omega) ?_
  refine xhh rfl o2 xmx i2 rfl ?_
  refine aw ?_
  refine xsv rfl rfl o2 (by omega) (by rw [xmq,xtx];omega) ?_
  refine xyk (j:=0) rfl rfl o2 xmx rfl rfl rfl i2 (Nat.le_refl _) fun Z2' o2'=>?_
  refine aw ?_
  exact xqq (IH _ _ _ (by omega) ⟨j+1,Z1',Z2',rfl,rfl,rfl,rfl,by omega,o1'.as (yhq e1 (by omega) _ rfl),o2'.as (yhq e2 (by omega) _ rfl)⟩)
 obtain rfl:j=m:=by omega
 refine aw ?_
 exact xdq Tryz.func209 rfl rfl fun _ H_=>K _ _ ⟨_,⟨_,_,_,_,rfl,o1,o2,rfl⟩,ywm H_⟩
theorem c284 (md:Md) (h:Heap) (p:PHeap) (hp:Per p h) (x y:Int):CallsX Tryz.prog md 284 #[.int .i64 x,.int .i64 y] h fun v h'=>v= .int .i64 (cmpI y x)/\Keep h h':=by
 refine xeq hp Tryz.func284 fun _ _ _ K=>?_
 refine aw ?_
 refine xoq rfl rfl (fun _ pe=>c190 md _ _ pe _ _) ?_
 refine aw ?_
 exact xdq Tryz.func284 rfl rfl fun _ H_=>K _ _ ⟨rfl,H_.kept⟩
theorem c340 (md:Md) {h h₀:Heap} {B₀:List Nat} {p:PHeap} (w:Value) (xs:List Int) {X₀ C₀:Pcs} (o₀:OwnS 3 1 w (ics xs) X₀) (n:Nat) (hn:n=xs.length/\n<=12) (fv:Value) (hf: ∀ h,Per p h-> ∀ x y,CallV Tryz.prog md fv [.int .i64 x,.int .i64 y] h fun v h'=>v= .int .i64 (cmpI y x)/\Keep h h')
  (s₀:St h₀ B₀ p h (X₀++C₀)):CallsX Tryz.prog md 340 #[w,.int .i64 0,.int .i64 (n:Nat),fv] h fun _ h'=>∃ X',OwnS 3 1 w (ics (srt xs)) X'/\St h₀ B₀ p h' (X'++C₀):=by
 refine xcj s₀ Tryz.func340 fun _ _ _ K=>?_
 refine aw ?_
 refine xrq (fun m_ l p_ L_=>∃ (i:Nat) (ys:List Int) (Z:Pcs),m_=n-i/\l=[(0,none,w),(1,none,.int .i64 0),(2,none,.int .i64 n),(3,none,fv),(8,none,.int .i64 (i:Nat))]/\p_=p/\L_=[Z,C₀]/\1<=i/\OwnS 3 1 w (ics ys) Z/\ys.Perm xs/\SortTo ys i) ⟨1,xs,X₀,rfl,rfl,rfl,rfl,Nat.le_refl _,o₀,.refl _,fun p q a b=>absurd a (by omega)⟩ sb ?_
 rintro _ _ p _ IH ⟨i,ys,Z,rfl,rfl,rfl,rfl,hi,o,hp,hs⟩
 have hly:ys.length=n:=hp.length_eq.trans hn.1.symm
 refine aw ?_
 refine xhq rfl (fun cc=>?_) (fun cc=>?_)
 ·refine aw ?_
  refine xrq (fun m_ l p_ L_=>∃ (j:Nat) (zs:List Int) (Z:Pcs),m_=j+1/\l=[(0,none,w),(1,none,.int .i64 0),(2,none,.int .i64 n),(3,none,fv),(8,none,.int .i64 (i:Nat)),(9,none,.int .i64 (j:Nat))]/\p_=p/\L_=[Z,C₀]/\j<=i/\OwnS 3 1 w (ics zs) Z/\zs.Perm xs/\Float zs i j) ⟨i,ys,Z,rfl,rfl,rfl,rfl,Nat.le_refl _,o,hp,xr0 hs⟩ sb ?_
  rintro _ _ p _ IHj ⟨j,zs,Z2,rfl,rfl,rfl,rfl,hj,o2,hq,hf2⟩
  have hlz:zs.length=n:=hq.length_eq.trans hn.1.symm
  have e1:(ics zs)[((j:Int)-1).toNat]?=some [.int .i64 (zs.getD ((j:Int)-1).toNat 0)]:=ics_at (by omega)
  have e0:(ics zs)[j]?=some [.int .i64 (zs.getD j 0)]:=ics_at (by omega)
  refine aw ?_
  refine xix [] R14 ?_
  refine ae ?_
  refine xek rfl rfl rfl rfl sdt sdt o2 (by rw [xmq];omega) ?_
  refine xiv rfl rfl rfl sdt o2 xmx (ics_at (by omega)) rfl ?_
  refine ae ?_
  refine xbf rfl rfl rfl rfl sdt sdt o2 (gd2 fun _ hq=>by rw [xmq];omega) ?_
  refine xiv rfl rfl rfl sdt o2 xmx e1 rfl ?_
  refine ae ?_
  refine xj8 rfl rfl sdt rfl sdt (xkx fun _ pe=>hf _ pe _ _) ?_
  refine aw ?_
  refine xhq rfl (fun cd=>?_) (fun cd=>?_)
  ·obtain ⟨j',rfl⟩: ∃ j',j=j'+1:=⟨j-1,by omega⟩
   rw [show (((j'+1:Nat):Int)-1).toNat=j' by omega] at*
   refine aw ?_
   refine xr2 [15] R16 Z2 ?_
   refine ae ?_
   refine xbf rfl rfl rfl rfl sdt sdt o2 (xkx (by rw [xmq];omega)) ?_
   rw [show (((j'+1:Nat):Int)-1).toNat=j' by omega]
   refine xb1 rfl rfl rfl sdt o2 xmx e1 rfl ?_
   refine ae ?_
   refine xek rfl rfl rfl rfl sdt sdt o2 (by rw [xmq];omega) ?_
   refine xb1 rfl rfl rfl sdt o2 xmx e0 rfl ?_
   refine xek rfl rfl rfl rfl sdt sdt o2 (by rw [xmq];omega) ?_
   refine ync (j:=0) rfl rfl rfl o2 xmx rfl rfl rfl e0 (Nat.le_refl _) fun Z3 o3=>?_
   refine ae ?_
   refine xsv rfl rfl o3 (by omega) (by rw [List.length_set,xmq];omega) ?_
   rw [show (((j'+1:Nat):Int)-1).toNat=j' by omega]
   refine xyk (j:=0) (e:=[.int .i64 (zs.getD j' 0)]) rfl rfl o3 xmx rfl rfl rfl (by rw [List.getElem?_set_ne (by omega)];exact e1) (Nat.le_refl _) fun Z4 o4=>?_
   refine aw ?_
   rw [show ((j'+1:Nat):Int)-1=(j':Nat) by omega]
   exact xqq (IHj _ _ _ (by omega) ⟨j',swp zs (j'+1),Z4,rfl,rfl,rfl,rfl,by omega,o4.as (ycd rfl),(xu1 (by omega) (by omega)).trans hq,xw5 hf2 (by omega) (by omega) (by omega) (yhz.1 cd.2)⟩)
  ·refine aw ?_
   exact xqq (IH _ _ _ (by omega) ⟨i+1,zs,Z2,rfl,rfl,rfl,rfl,by omega,o2,hq,yvq hf2 (by omega) (by
    by_cases h0:j=0
    ·exact .inl h0
    ·right
     have:=fun z=>cd ⟨by omega,z⟩
     rw [show ((j:Int)-1).toNat=j-1 by omega] at this
     have:=mt yhz.2 this
     omega)⟩)
 have e:ys=srt xs:=ynj hs (by omega) hp
 subst e
 refine aw ?_
 exact xcb Tryz.func340 rfl fun _ H_=>K _ _ ⟨_,o,xqf H_⟩
theorem c329 (md:Md) {h h₀:Heap} {B₀:List Nat} {p:PHeap} (w:Value) (xs:List Int) {X₀ C₀:Pcs} (o₀:OwnS 3 1 w (ics xs) X₀) (n:Nat) (hn:n=xs.length/\n<=12) (k:Int) (fv:Value) (hf: ∀ h,Per p h-> ∀ x y,CallV Tryz.prog md fv [.int .i64 x,.int .i64 y] h fun v h'=>v= .int .i64 (cmpI y x)/\Keep h h')
  (s₀:St h₀ B₀ p h (X₀++C₀)):CallsX Tryz.prog md 329 #[w,.int .i64 0,.int .i64 (n:Nat),.int .i64 k,fv] h fun _ h'=>∃ X',OwnS 3 1 w (ics (srt xs)) X'/\St h₀ B₀ p h' (X'++C₀):=by
 refine xcj s₀ Tryz.func329 fun _ _ _ K=>?_
 refine aw ?_
 refine xaz (fun m l=>m=0/\l=[(0,none,w),(1,none,.int .i64 0),(2,none,.int .i64 n),(3,none,.int .i64 k),(4,none,fv),(10,none,.bool true),(11,none,.bool true)]) ⟨rfl,rfl⟩ sb ?_
 rintro _ _ IH ⟨rfl,rfl⟩
 refine aw ?_
 refine xhq rfl (fun cc=>?_) (fun cc=>absurd (by omega) cc)
 refine aw ?_
 refine xkh X₀ rfl rfl (fun h C s=>c340 md w xs o₀ n hn fv hf s) fun v Y' o'=>?_
 refine aw ?_
 refine xdq Tryz.func329 rfl rfl fun _ H_=>K _ _ ⟨_,o',xqf H_⟩
theorem c319 (md:Md) (h:Heap) (p:PHeap) (hp:Per p h) (n:Nat) (hn:n<=12):CallsX Tryz.prog md 319 #[.int .u64 (n:Nat)] h fun v h'=>∃ Y,((∃ k:Int,v= .int .i64 k)/\Y=[])/\New h h' Y:=by
 refine xeq hp Tryz.func319 fun _ _ _ K=>?_
 refine aw ?_
 refine xhq rfl (fun cc=>absurd cc (by omega)) (fun cc=>?_)
 refine aw ?_
 refine xhq rfl (fun cc=>absurd cc (by omega)) (fun cc=>?_)
 refine aw ?_
 refine xhq rfl (fun cc=>absurd cc (by omega)) (fun cc=>?_)
 refine aw ?_
 refine xzj (k':=.u8) ⟨_,Tryz.underlying283⟩ (by kernel_rfl) rfl (wr8 (by omega)) ?_
 refine xyj rfl rfl rfl sdt sdt (xkx ⟨by omega,by simp;omega⟩) ?_
 refine xzj (k':=.i64) ⟨_,Tryz.underlying5⟩ Tryz.underlying3 rfl (wrB _) ?_
 refine xzk rfl rfl ⟨by rw [Int.zero_add];exact wrB _,trivial⟩ ?_
 refine aw ?_
 exact xdq Tryz.func319 rfl rfl fun _ H_=>K _ _ ⟨[],⟨⟨_,rfl⟩,rfl⟩,(H_.sub (List.nil_sublist _)).new⟩
theorem c330 (md:Md) (h:Heap) (p:PHeap) (hp:Per p h) (n:Nat) (hn:n<=12):CallsX Tryz.prog md 330 #[.int .u64 (n:Nat)] h fun v h'=>∃ Y,((∃ k:Int,v= .int .i64 k)/\Y=[])/\New h h' Y:=by
 refine xeq hp Tryz.func330 fun _ _ _ K=>?_
 refine aw ?_
 refine xhq rfl (fun cc=>absurd cc (fun z=>z)) (fun cc=>?_)
 refine aw ?_
 refine xxj rfl rfl (fun _ pe=>c319 md _ _ pe n hn) ?_
 rintro _ _ ⟨⟨k,rfl⟩,rfl⟩
 refine aw ?_
 exact xdq Tryz.func330 rfl rfl fun _ H_=>K _ _ ⟨[],⟨⟨_,rfl⟩,rfl⟩,(H_.sub (List.nil_sublist _)).new⟩
theorem c283 (md:Md) {h h₀:Heap} {B₀:List Nat} {p:PHeap} (w:Value) (xs:List Int) {X₀ C₀:Pcs} (o₀:OwnS 3 1 w (ics xs) X₀) (hn:xs.length<=12) (fv:Value) (hf: ∀ h,Per p h-> ∀ x y,CallV Tryz.prog md fv [.int .i64 x,.int .i64 y] h fun v h'=>v= .int .i64 (cmpI y x)/\Keep h h')
  (s₀:St h₀ B₀ p h (X₀++C₀)):CallsX Tryz.prog md 283 #[w,fv] h fun _ h'=>∃ X',OwnS 3 1 w (ics (srt xs)) X'/\St h₀ B₀ p h' (X'++C₀):=by
 refine xcj s₀ Tryz.func283 fun _ _ _ K=>?_
 refine aw ?_
 refine xsn rfl rfl sdt o₀ (xmq xs) ?_
 refine aw ?_
 refine xzj (k':=.u64) ⟨_,Tryz.underlying3⟩ (by kernel_rfl) rfl (wrU0 (by omega)) ?_
 refine xxj rfl rfl (fun _ pe=>c330 md _ _ pe xs.length hn) ?_
 rintro _ _ ⟨⟨k,rfl⟩,rfl⟩
 refine aw ?_
 refine xkh X₀ rfl rfl (fun h C s=>c329 md w xs o₀ xs.length ⟨rfl,hn⟩ k fv hf s) fun v Y' o'=>?_
 refine aw ?_
 exact xcb Tryz.func283 rfl fun _ H_=>K _ _ ⟨_,o',xqf H_⟩
theorem c249 (md:Md) {h h₀:Heap} {B₀:List Nat} {p:PHeap} (w:Value) (xs:List Int) {X₀ C₀:Pcs} (o₀:OwnS 3 1 w (ics xs) X₀) (hn:xs.length<=12)
  (s₀:St h₀ B₀ p h (X₀++C₀)):CallsX Tryz.prog md 249 #[w] h fun v h'=>∃ X',(v=w/\OwnS 3 1 w (ics (srt xs)) X')/\St h₀ B₀ p h' (X'++C₀):=by
 refine xcj s₀ Tryz.func249 fun _ _ _ K=>?_
 refine aw ?_
 refine xkh X₀ rfl rfl (fun h C s=>c283 md w xs o₀ hn _ (fun _ pe x y=>xkq (by kernel_rfl) (c284 md _ _ pe x y)) s) fun v Y' o'=>?_
 refine aw ?_
 exact xdq Tryz.func249 rfl rfl fun _ H_=>K _ _ ⟨_,⟨rfl,o'⟩,xqf H_⟩
end Go.Proofs.YtbphcmeebnkmdaaGreatDoor
namespace Go.X.Flow
open Go.X Go.X.Bf
theorem ymn {t:Tn} {d:List Int} (O:OkT t) (Dv:Div t d) {i:Nat} (hi:i<t.m):0<=dv d i/\dv d i<=9:=by
 have h1:=O.y i hi
 have h2:dv d i<=draw t d (t.wh i):=by
  have:=xj7 (f:=fun k=>if t.wh k=t.wh i then dv d k else 0) (k:=t.m) (fun k hk=>by have:=Dv.pos k hk;split <;> omega) hi
  simpa [draw] using this
 have h3:=Dv.hs _ h1.1;have h4:=O.h _ h1.1;have h5:=Dv.pos i hi
 omega
theorem ymq {t:Tn} {d:List Int} (O:OkT t) (Dv:Div t d) {h:Nat} (hh:h<t.nH):0<=lack t d h/\lack t d h<=9:=by
 have h1:=Dv.hs h hh;have h2:=O.h h hh;have h3:=xqc Dv h
 unfold lack;omega
theorem ydn {t:Tn} {d:List Int} (O:OkT t) (Dv:Div t d) {x:Nat} (hx:x<t.nW):0<=has t d x/\has t d x<=21:=by
 have h1:=Dv.ws x hx;have h2:=O.w x hx;have h3:=xp0 Dv x
 unfold has;omega
end Go.X.Flow
namespace Go.Proofs.YtbphcmeebnkmdaaGreatDoor
open Go.X Go.X.Flow Go.Conc
set_option maxRecDepth 10000
abbrev R62:List Nat:=[0,1,2,3,4,5,6,7,8,9,10,11,12,13,14,15,16,17,18,19,20,21,22,23,24,25,26,27,28,29,30,31,32,33,34,35,36,37,38,39,40,41,42,43,44,45,46,47,48,49,50,51,52,53,54,55,56,57,58,59,60,61]
theorem wrN {n:Int} (h: -1000000<=n/\n<=1000000):IntKind.i64.wrap (0-n)= -n:=by rw [Int.zero_sub];exact wrZ (by omega)
theorem yiq (md:Md) (h:Heap) (p:PHeap) (hp:Per p h) (a1 a2 a3:Option Addr) (c1 c2 c3:Nat) (t:Tn) (T:TownP p a1 t.nH a2 t.nW a3 t.m t) (O:OkT t) (b:Option Addr) (cb:Nat) (d:List Int) (D:Ints p b t.m d) (Dv:Div t d):
  CallsX Tryz.prog md 209 #[.agg #[.slice a1 t.nH c1,.slice a2 t.nW c2,.slice a3 t.m c3],.slice b t.m cb] h fun v h'=>∃ Y,(∃ w1 w2 Y1 Y2,v= .tuple #[w1,w2]/\OwnS 3 1 w1 (ics (lackL t d)) Y1/\OwnS 3 1 w2 (ics (hasL t d)) Y2/\Y=Y1++Y2)/\New h h' Y:=by
 have o1:=O.nh;have o2:=O.nw;have o3:=O.nm
 refine c209 md h p hp a1 a2 a3 c1 c2 c3 t T b t.m cb d D ⟨by omega,by omega⟩ ⟨Nat.le_refl _,o3⟩ (fun i hi=>by have:=ymn O Dv hi;omega) (fun i hi=>?_) (fun i hi=>?_) (fun i hi=>?_)
 ·have:=O.h i hi;unfold Tn.hv at this;omega
 ·have:=O.w i hi;unfold Tn.wv at this;omega
 ·have h1:=O.y i hi;have h2:=O.yp i hi;unfold Tn.wh Tn.ww at h1;exact ⟨⟨h2.1,h1.1⟩,h2.2,h1.2⟩
theorem c327 (md:Md) (h:Heap) (p:PHeap) (hp:Per p h) (q:Prop) [Decidable q] (v1 v2 v3 v4 v5 v7:Value) (s:Int) (bB bt:Nat) (z1 z2:Nat × Nat) (T1 T2:TypeId) (hB:p bB=some (.cells #[.pointer (some ⟨bt,0,none⟩)] T1 z1)) (hb:p bt=some (.cells #[v1,v2,v3,v4,v5,.int .i64 s,v7] T2 z2)):
  CallsX Tryz.prog md 327 #[.bool (decide q),.pointer (some ⟨bB,0,none⟩)] h fun v h'=>v= .int .i64 (if q then s else 0)/\Keep h h':=by
 refine xeq hp Tryz.func327 fun _ _ _ K=>?_
 refine ax ?_
 refine xhq rfl (fun cc=>?_) (fun cc=>?_)
 ·refine ax ?_
  exact xdq Tryz.func327 rfl rfl fun _ H_=>K _ _ ⟨by rw [if_pos cc];rfl,H_.kept⟩
 refine ax ?_
 exact xdq Tryz.func327 rfl rfl fun _ H_=>K _ _ ⟨by rw [if_neg cc];rfl,H_.kept⟩
theorem c328 (md:Md) (h:Heap) (p:PHeap) (hp:Per p h) (z:Int) (x:Nat) (e:z=x) (hx:x<=10):CallsX Tryz.prog md 328 #[.int .i64 z] h fun v h'=>v= .int .i64 (dear x)/\Keep h h':=by
 subst e
 refine xeq hp Tryz.func328 fun _ _ _ K=>?_
 refine ax ?_
 refine xaz (fun m l=>∃ j:Nat,m=x-j/\l=[(3,none,.int .i64 (dear j)),(4,none,.int .i64 (x:Nat)),(5,none,.int .i64 (j:Nat))]/\j<=x) ⟨0,rfl,rfl,Nat.zero_le _⟩ sb ?_
 rintro _ _ IH ⟨j,rfl,rfl,hj⟩
 have hd:=xxp (x:=j) (by omega)
 refine ax ?_
 refine xhq rfl (fun cc=>?_) (fun cc=>?_)
 ·refine ax ?_
  rw [show dear j*7=dear (j+1) by rw [xhv];omega]
  exact xqq (IH _ (by omega) ⟨j+1,rfl,rfl,by omega⟩)
 obtain rfl:j=x:=by omega
 refine ax ?_
 exact xdq Tryz.func328 rfl rfl fun _ H_=>K _ _ ⟨rfl,H_.kept⟩
set_option maxHeartbeats 8000000 in
theorem c282 (md:Md) {h h₀:Heap} {B₀:List Nat} {p:PHeap} {X₀ C₀:Pcs} (a1 a2 a3:Option Addr) (c1 c2 c3:Nat) (t:Tn) (T:TownP p a1 t.nH a2 t.nW a3 t.m t) (O:OkT t) (wi:Wi) (b:Option Addr) (cb:Nat) (d:List Int) (D:Ints p b t.m d) (Dv:Div t d) (S:Sg wi) (bt:Nat) (T2:TypeId) (z2:Nat × Nat)
  (hb:p bt=some (.cells #[.slice a1 t.nH c1,.slice a2 t.nW c2,.slice a3 t.m c3,.int .i64 wi.house,.int .i64 wi.well,.int .i64 wi.sign,.slice b t.m cb] T2 z2)) (yv:Value) (I:List Bf.Arc->Pcs->Prop) (hI0:I [] X₀)
  (hy: ∀ out x,out++[x] <+: arcsL t wi d-> ∀ p' h X C,PLe p p'->I out X->St h₀ B₀ p' h (X++C)->CallV Tryz.prog md yv [arcV x] h fun v h'=>∃ X',(v= .bool true/\I (out++[x]) X')/\St h₀ B₀ p' h' (X'++C)) (s₀:St h₀ B₀ p h (X₀++C₀)):
  CallsX Tryz.prog md 282 #[.pointer (some ⟨bt,0,none⟩),yv] h fun _ h'=>∃ X',I (arcsL t wi d) X'/\St h₀ B₀ p h' (X'++C₀):=by
 have oH:=O.nh
 have oW:=O.nw
 have oM:=O.nm
 have sg:=S
 refine xcj s₀ Tryz.func282 fun _ _ _ K=>?_
 refine ax ?_
 refine xjq rfl fun b1=>?_
 refine xyv (b:=b1) fun p1 le hB=>?_
 have T:=TownP.mono T le
 have D:=D.mono le
 have hb:=le _ _ hb
 have hB1:p1 b1=some (.cells #[.pointer (some ⟨bt,0,none⟩)] _ (0,0)):=hB
 refine ax ?_
 refine xix [8] R13 ?_
 refine ex ?_
 refine xmw rfl rfl rfl (fun _ pe=>yiq md _ _ pe _ _ _ _ _ _ t T O _ _ d D Dv) ?_
 rintro _ _ ⟨w1,w2,Y1,Y2,rfl,o1,o2,rfl⟩
 refine ex ?_
 refine xzc Y1 Y2 ?_
 refine ax ?_
 refine xsn rfl rfl sdt o2 (by rw [xmq,xpg]) ?_
 refine ax ?_
 refine xrq (fun m_ l p_ L_=>∃ (k:Nat) (Z:Pcs),m_=t.nW-k/\l=[(1,none,yv),(2,none,.pointer (some ⟨b1,0,none⟩)),(4,none,w1),(5,none,w2),(6,none,.int .i64 (t.nW:Nat)),(7,none,.int .i64 (t.nW+t.nH)),(8,none,.int .i64 (t.nW+t.nH+1)),(9,none,.func (.func 327) #[] #[.pointer (some ⟨b1,0,none⟩)]),(45,none,w2),(46,none,.int .i64 (t.nW:Nat)),(47,none,.int .i64 (k:Nat))]/\p_=p1/\L_=[Y1,Y2,Z,C₀]/\k<=t.nW/\I (outW t wi d k) Z) ⟨0,X₀,rfl,rfl,rfl,rfl,Nat.zero_le _,hI0⟩ sb ?_
 rintro _ _ p1 _ IH ⟨k,Z,rfl,rfl,rfl,rfl,hk,hI⟩
 refine ax ?_
 refine xhq rfl (fun cc=>?_) (fun cc=>?_)
 ·have hbd:=ydn O Dv (x:=k) (by omega)
  have hbw:=S.bw k
  have Tw:=T.w
  refine ax ?_
  refine xnv rfl rfl o2 (by rw [xmq,xpg];omega) ?_
  refine xhh rfl o2 xmx (yqq (by omega)) rfl ?_
  refine ax ?_
  refine xj8 rfl rfl sdu rfl sdu (xkx fun _ pe=>(xkq (by kernel_rfl) (c327 md _ _ pe ((k:Int)=wi.well) _ _ _ _ _ _ wi.sign b1 bt _ _ _ _ hB1 hb)).mono fun v h' e=>⟨e.1.trans (show _=Value.int .i64 (bw wi k) from rfl),e.2⟩) ?_
  refine xzk rfl rfl (gd2 fun h _=>⟨h,wrN (by omega),trivial⟩) ?_
  refine ax ?_
  refine xtn Z rfl rfl sdu rfl sdu (v:=.bool true) (Q:=fun Z'=>I (outW t wi d k++[⟨t.sp,k,-bw wi k,-1,0⟩]) Z') (fun c1 h C s=>?_) (fun Z1 hq1 hn1=>?_)
  ·have e:=xrf (a:=(t.nW:Int)+t.nH) (b:=k) (c:=-bw wi k) (w:=-1) (m:=0) (x:=⟨t.sp,k,-bw wi k,-1,0⟩) rfl rfl rfl rfl rfl
   have y:=hy _ _ (yom (by omega) (of_decide_eq_true c1)) _ _ _ _ le hI s
   rw [<- e] at y
   exact y
  obtain ⟨u1,hu1,hI1⟩: ∃ u1,(u1=if 0<has t d k then outW t wi d k++[⟨t.sp,k,-bw wi k,-1,0⟩] else outW t wi d k)/\I u1 Z1:=by
   by_cases c1:0<has t d k
   ·exact ⟨_,rfl,by rw [if_pos c1];exact hq1 (decide_eq_true c1)⟩
   ·exact ⟨_,rfl,by rw [if_neg c1,hn1 (decide_eq_false c1)];exact hI⟩
  refine ax ?_
  refine xj8 rfl rfl sdu rfl sdu (xkx fun _ pe=>(xkq (by kernel_rfl) (c327 md _ _ pe ((k:Int)=wi.well) _ _ _ _ _ _ wi.sign b1 bt _ _ _ _ hB1 hb)).mono fun v h' e=>⟨e.1.trans (show _=Value.int .i64 (bw wi k) from rfl),e.2⟩) ?_
  refine ax ?_
  refine xtn Z1 rfl rfl sdu rfl sdu (v:=.bool true) (Q:=fun Z'=>I (u1++[⟨k,t.sp,bw wi k,-1,0⟩]) Z') (fun c2 h C s=>?_) (fun Z2 hq2 hn2=>?_)
  ·have e:=xrf (a:=k) (b:=(t.nW:Int)+t.nH) (c:=bw wi k) (w:=-1) (m:=0) (x:=⟨k,t.sp,bw wi k,-1,0⟩) rfl rfl rfl rfl rfl
   have c2:has t d k<t.wv k:=of_decide_eq_true (andR c2)
   have y:=hy u1 ⟨k,t.sp,bw wi k,-1,0⟩ (by
    subst hu1
    split
    ·rename_i c1;exact ynm (by omega) c1 c2
    ·rename_i c1;exact ymm (by omega) c1 c2) _ _ _ _ le hI1 s
   rw [<- e] at y
   exact y
  have hI2:I (outW t wi d (k+1)) Z2:=by
   by_cases c2:has t d k<t.wv k
   ·have y:=hq2 (by show (!(decide (0<has t d k) && !true) && decide (has t d k<t.wv k))=true;rw [decide_eq_true c2];simp)
    subst hu1
    by_cases c1:0<has t d k
    ·rw [if_pos c1,W_tt c1 c2] at y;exact y
    ·rw [if_neg c1,W_ft c1 c2] at y;exact y
   ·rw [hn2 (by show (!(decide (0<has t d k) && !true) && decide (has t d k<t.wv k))=false;rw [decide_eq_false c2];simp)]
    subst hu1
    by_cases c1:0<has t d k
    ·rw [if_pos c1,W_tf c1 c2] at hI1;exact hI1
    ·rw [if_neg c1,W_ff c1 c2] at hI1;exact hI1
  refine ax ?_
  refine xhq rfl (fun cd=>absurd cd (by simp)) (fun cd=>?_)
  refine ax ?_
  exact xqq (IH _ _ _ (by omega) ⟨k+1,Z2,rfl,rfl,rfl,rfl,by omega,hI2⟩)
 obtain rfl:k=t.nW:=by omega
 refine ax ?_
 refine xsn rfl rfl sdt o1 (by rw [xmq,xeb]) ?_
 refine ax ?_
 refine xrq (fun m_ l p_ L_=>∃ (k:Nat) (Z:Pcs),m_=t.nH-k/\l=[(1,none,yv),(2,none,.pointer (some ⟨b1,0,none⟩)),(6,none,.int .i64 (t.nW:Nat)),(8,none,.int .i64 (t.nW+t.nH+1)),(9,none,.func (.func 327) #[] #[.pointer (some ⟨b1,0,none⟩)]),(102,none,w1),(103,none,.int .i64 (t.nH:Nat)),(104,none,.int .i64 (k:Nat))]/\p_=p1/\L_=[Y1,Y2,Z,C₀]/\k<=t.nH/\I (outH t wi d k) Z) ⟨0,Z,rfl,rfl,rfl,rfl,Nat.zero_le _,by rw [xp9];exact hI⟩ sb ?_
 clear IH
 rintro _ _ p1 _ IH ⟨k,Z,rfl,rfl,rfl,rfl,hk,hI⟩
 refine ax ?_
 refine xhq rfl (fun cc=>?_) (fun cc=>?_)
 ·have hbd:=ymq O Dv (h:=k) (by omega)
  have hbw:=S.bh k
  have Th:=T.h
  have d0:=xxp (x:=(lack t d k).toNat) (by omega)
  have d1:=xxp (x:=(lack t d k).toNat-1) (by omega)
  have d2:=xxp (x:=(lack t d k).toNat+1) (by omega)
  refine ax ?_
  refine xnv rfl rfl o1 (by rw [xmq,xeb];omega) ?_
  refine xhh rfl o1 xmx (xk3 (by omega)) rfl ?_
  refine ax ?_
  refine xr2 [25] R62 Z ?_
  refine ex ?_
  refine xlk rfl rfl rfl rfl sdu (gd2 fun _ hq _ pe=>c328 md _ _ pe _ ((lack t d k).toNat-1) (by omega) (by omega)) ?_
  refine ex ?_
  refine xlk rfl rfl rfl rfl sdu (gd2 fun _ hq _ pe=>c328 md _ _ pe _ (lack t d k).toNat (by omega) (by omega)) ?_
  refine ex ?_
  refine xn4 rfl rfl rfl sdu rfl sdu (xkx fun _ pe=>(xkq (by kernel_rfl) (c327 md _ _ pe ((k:Int)=wi.house) _ _ _ _ _ _ wi.sign b1 bt _ _ _ _ hB1 hb)).mono fun v h' e=>⟨e.1.trans (show _=Value.int .i64 (bh wi k) from rfl),e.2⟩) ?_
  refine ex ?_
  refine yjh Z rfl rfl rfl sdu rfl sdu (v:=.bool true) (Q:=fun Z'=>I (outH t wi d k++[⟨t.nW+k,t.si,dear ((lack t d k).toNat-1)-dear (lack t d k).toNat-bh wi k,-1,0⟩]) Z') (fun c1 h C s=>?_) (fun Z1 hq1 hn1=>?_)
  ·have e:=xrf (a:=(t.nW:Int)+k) (b:=(t.nW:Int)+t.nH+1) (c:=dear ((lack t d k).toNat-1)-dear (lack t d k).toNat-bh wi k) (w:=-1) (m:=0) (x:=⟨t.nW+k,t.si,dear ((lack t d k).toNat-1)-dear (lack t d k).toNat-bh wi k,-1,0⟩) rfl rfl rfl rfl rfl
   have y:=hy _ _ (yrm (by omega) (of_decide_eq_true c1)) _ _ _ _ le hI s
   rw [<- e] at y
   exact y
  obtain ⟨u1,hu1,hI1⟩: ∃ u1,(u1=if 0<lack t d k then outH t wi d k++[⟨t.nW+k,t.si,dear ((lack t d k).toNat-1)-dear (lack t d k).toNat-bh wi k,-1,0⟩] else outH t wi d k)/\I u1 Z1:=by
   by_cases c1:0<lack t d k
   ·exact ⟨_,rfl,by rw [if_pos c1];exact hq1 (decide_eq_true c1)⟩
   ·exact ⟨_,rfl,by rw [if_neg c1,hn1 (decide_eq_false c1)];exact hI⟩
  refine ex ?_
  refine xlk rfl rfl rfl rfl sdu (gd2 fun _ hq _ pe=>c328 md _ _ pe _ ((lack t d k).toNat+1) (by omega) (by omega)) ?_
  refine ex ?_
  refine xlk rfl rfl rfl rfl sdu (gd2 fun _ hq _ pe=>c328 md _ _ pe _ (lack t d k).toNat (by omega) (by omega)) ?_
  refine ex ?_
  refine xn4 rfl rfl rfl sdu rfl sdu (xkx fun _ pe=>(xkq (by kernel_rfl) (c327 md _ _ pe ((k:Int)=wi.house) _ _ _ _ _ _ wi.sign b1 bt _ _ _ _ hB1 hb)).mono fun v h' e=>⟨e.1.trans (show _=Value.int .i64 (bh wi k) from rfl),e.2⟩) ?_
  refine ex ?_
  refine xtn Z1 rfl rfl sdu rfl sdu (v:=.bool true) (Q:=fun Z'=>I (u1++[⟨t.si,t.nW+k,dear ((lack t d k).toNat+1)-dear (lack t d k).toNat+bh wi k,-1,0⟩]) Z') (fun c2 h C s=>?_) (fun Z2 hq2 hn2=>?_)
  ·have e:=xrf (a:=(t.nW:Int)+t.nH+1) (b:=(t.nW:Int)+k) (c:=dear ((lack t d k).toNat+1)-dear (lack t d k).toNat+bh wi k) (w:=-1) (m:=0) (x:=⟨t.si,t.nW+k,dear ((lack t d k).toNat+1)-dear (lack t d k).toNat+bh wi k,-1,0⟩) rfl rfl rfl rfl rfl
   have c2:lack t d k<t.hv k:=of_decide_eq_true (andR c2)
   have y:=hy u1 ⟨t.si,t.nW+k,dear ((lack t d k).toNat+1)-dear (lack t d k).toNat+bh wi k,-1,0⟩ (by
    subst hu1
    split
    ·rename_i c1;exact yqm (by omega) c1 c2
    ·rename_i c1;exact ypm (by omega) c1 c2) _ _ _ _ le hI1 s
   rw [<- e] at y
   exact y
  have hI2:I (outH t wi d (k+1)) Z2:=by
   by_cases c2:lack t d k<t.hv k
   ·have y:=hq2 (by show (!(decide (0<lack t d k) && !true) && decide (lack t d k<t.hv k))=true;rw [decide_eq_true c2];simp)
    subst hu1
    by_cases c1:0<lack t d k
    ·rw [if_pos c1,H_tt c1 c2] at y;exact y
    ·rw [if_neg c1,H_ft c1 c2] at y;exact y
   ·rw [hn2 (by show (!(decide (0<lack t d k) && !true) && decide (lack t d k<t.hv k))=false;rw [decide_eq_false c2];simp)]
    subst hu1
    by_cases c1:0<lack t d k
    ·rw [if_pos c1,H_tf c1 c2] at hI1;exact hI1
    ·rw [if_neg c1,H_ff c1 c2] at hI1;exact hI1
  refine ax ?_
  refine xhq rfl (fun cd=>absurd cd (by simp)) (fun cd=>?_)
  refine ax ?_
  exact xqq (IH _ _ _ (by omega) ⟨k+1,Z2,rfl,rfl,rfl,rfl,by omega,hI2⟩)
 obtain rfl:k=t.nH:=by omega
 refine ax ?_
 refine xrq (fun m_ l p_ L_=>∃ (k:Nat) (Z:Pcs),m_=t.m-k/\l=[(1,none,yv),(2,none,.pointer (some ⟨b1,0,none⟩)),(6,none,.int .i64 (t.nW:Nat)),(180,none,.slice a3 t.m c3),(181,none,.int .i64 (t.m:Nat)),(182,none,.int .i64 (k:Nat))]/\p_=p1/\L_=[Y1,Y2,Z,C₀]/\k<=t.m/\I (outY t wi d k) Z) ⟨0,Z,rfl,rfl,rfl,rfl,Nat.zero_le _,by rw [xo9];exact hI⟩ sb ?_
 clear IH
 rintro _ _ p1 _ IH ⟨k,Z,rfl,rfl,rfl,rfl,hk,hI⟩
 refine ax ?_
 refine xhq rfl (fun cc=>?_) (fun cc=>?_)
 ·have Ty:=T.y
  have hyp:=O.yp k (by omega)
  have hyi:=O.y k (by omega)
  refine ax ?_
  refine xav rfl (Wys.allN Ty (by omega) hyp) ?_
  refine xiq fun b2=>?_
  refine ax ?_
  refine ywb Z rfl rfl (Q:=fun v Z'=>v= .bool true/\I (outY t wi d k++[⟨t.ww k,t.nW+t.wh k,0,k,1⟩]) Z') (fun h C s=>?_) (fun v1 Z1 ⟨e1,hI1⟩=>?_)
  ·have e:=xrf (a:=t.ww k) (b:=(t.nW:Int)+t.wh k) (c:=0) (w:=k) (m:=1) (x:=⟨t.ww k,t.nW+t.wh k,0,k,1⟩) rfl rfl rfl rfl rfl
   have y:=hy _ _ (ylm (by omega)) _ _ _ _ le hI s
   rw [<- e] at y
   exact y
  subst e1
  refine ax ?_
  refine xtn Z1 rfl rfl sdu rfl sdu (v:=.bool true) (Q:=fun Z'=>I (outY t wi d k++[⟨t.ww k,t.nW+t.wh k,0,k,1⟩]++[⟨t.nW+t.wh k,t.ww k,0,k,-1⟩]) Z') (fun c2 h C s=>?_) (fun Z2 hq2 hn2=>?_)
  ·have e:=xrf (a:=(t.nW:Int)+t.wh k) (b:=t.ww k) (c:=0) (w:=k) (m:=-1) (x:=⟨t.nW+t.wh k,t.ww k,0,k,-1⟩) rfl rfl rfl rfl rfl
   have c2:0<dv d k:=of_decide_eq_true (andR c2)
   have y:=hy _ _ (ykm (by omega) c2) _ _ _ _ le hI1 s
   rw [<- e] at y
   exact y
  have hI2:I (outY t wi d (k+1)) Z2:=by
   by_cases c2:0<dv d k
   ·have y:=hq2 (by show (!!true && decide (0<dv d k))=true;rw [decide_eq_true c2];rfl)
    rw [Y_t c2] at y;exact y
   ·rw [hn2 (by show (!!true && decide (0<dv d k))=false;rw [decide_eq_false c2];rfl)]
    rw [Y_f c2] at hI1;exact hI1
  refine ax ?_
  refine xhq rfl (fun cd=>absurd cd (by simp)) (fun cd=>?_)
  refine ax ?_
  exact xqq (IH _ _ _ (by omega) ⟨k+1,Z2,rfl,rfl,rfl,rfl,by omega,hI2⟩)
 obtain rfl:k=t.m:=by omega
 refine ax ?_
 exact xcb (f:=282) rfl rfl fun _ H_=>K _ _ ⟨Z,yqf ▸ hI,(xqf H_).forget le⟩
end Go.Proofs.YtbphcmeebnkmdaaGreatDoor
namespace Go.X.Flow
open Go.X Go.X.Bf
end Go.X.Flow
namespace Go.Proofs.YtbphcmeebnkmdaaGreatDoor
open Go.X Go.X.Flow Go.Conc
open Go.X.Bf (sweeps lab0 rel a0 far Chain)
set_option maxRecDepth 20000
set_option synthInstance.maxSize 2000
section
variable {md:Md} {p:PHeap}
theorem ymh {a1 a2 a3:Option Addr} {c1 c2 c3:Nat} {t:Tn} (T:TownP p a1 t.nH a2 t.nW a3 t.m t) (O:OkT t) (wi:Wi) {b:Option Addr} {cb:Nat} {d:List Int} (D:Ints p b t.m d) (Dv:Div t d) (S:Sg wi) {bt:Nat} {T2:TypeId} {z2:Nat × Nat}
  (hb:p bt=some (.cells #[.slice a1 t.nH c1,.slice a2 t.nW c2,.slice a3 t.m c3,.int .i64 wi.house,.int .i64 wi.well,.int .i64 wi.sign,.slice b t.m cb] T2 z2)):IterC Tryz.prog md p (.func (.func 282) #[.pointer (some ⟨bt,0,none⟩)] #[]) ((arcsL t wi d).map fun x=>[arcV x]):=by
 intro h h₀ B₀ p' X₀ C₀ yv I le h0 hy s
 refine xkq (first:=[.pointer (some ⟨bt,0,none⟩)]) (cap:=[]) (by kernel_rfl) ((c282 md a1 a2 a3 c1 c2 c3 t (TownP.mono T le) O wi b cb d (D.mono le) Dv S bt T2 z2 (le _ _ hb) yv (fun out X=>I out.length X) h0 (fun out x hp p'' h X C le2 hI s'=>?_) s).mono fun _ _ ⟨X',q,s'⟩=>⟨X',by rw [List.length_map];exact q,s'⟩)
 have hl:=hp.length_le
 simp only [List.length_append,List.length_singleton] at hl
 have e:((arcsL t wi d).map fun x=>[arcV x]).getD out.length []=[arcV x]:=by
  obtain ⟨r,hr⟩:=hp
  rw [<- hr];simp [List.getD_eq_getElem?_getD]
 have z:=hy out.length (by rw [List.length_map];omega) p'' h X C le2 hI s'
 rw [e] at z
 rw [List.length_append,List.length_singleton]
 exact z
end
set_option maxHeartbeats 8000000 in
theorem c248 (md:Md) {h:Heap} {p:PHeap} (hp:Per p h) (a1 a2 a3:Option Addr) (c1 c2 c3:Nat) (t:Tn) (T:TownP p a1 t.nH a2 t.nW a3 t.m t) (O:OkT t) (wi:Wi) (b:Option Addr) (cb:Nat) (d:List Int) (D:Ints p b t.m d) (Dv:Div t d) (S:Sg wi) (bt:Nat) (T2:TypeId) (z2:Nat × Nat)
    (hb:p bt=some (.cells #[.slice a1 t.nH c1,.slice a2 t.nW c2,.slice a3 t.m c3,.int .i64 wi.house,.int .i64 wi.well,.int .i64 wi.sign,.slice b t.m cb] T2 z2)) (G:Flow.Good t wi d):
    CallsX Tryz.prog md 248 #[.pointer (some ⟨bt,0,none⟩)] h fun v h'=>∃ w Y,(v= .tuple #[w,.int .i64 (costL t wi d)]/\OwnS 276 5 w (acs (pathL t wi d)) Y)/\New h h' Y:=by
  have oH:=O.nh
  have oW:=O.nw
  have oM:=O.nm
  refine xeq hp Tryz.func248 fun c₀ cs Stop K=>?_
  refine ax ?_
  refine xix [] R12 ?_
  refine ex ?_
  refine ax ?_
  refine xow (l':=[(0,none,.pointer (some ⟨bt,0,none⟩)),(4,none,.int .i64 ((t.nW+t.nH+2:Nat):Int))]) ?_ ⟨rfl,rfl,trivial⟩
  refine xo2 7 [1,3,5,6] [0,2] [1,3,4,5,6] (fun i=>match i with | 6=>[4] | _=>[]) (fun i=>match i with | 1=>[0] | 3=>[2] | 6=>[0,1,4,5] | _=>[])
    (fun i val _ v x=>match i with
      | 0=>v= .int .i64 ((t.nW+t.nH+2:Nat):Int)/\x=[]
      | 1=>OwnS 3 1 v (List.replicate (t.nW+t.nH+2) [.int .i64 0]) x
      | 2=>v= .int .i64 ((t.nW+t.nH+2:Nat):Int)/\x=[]
      | 3=>OwnS 276 5 v (List.replicate (t.nW+t.nH+2) [.int .i64 0,.int .i64 0,.int .i64 0,.int .i64 0,.int .i64 0]) x
      | 4=>∃ b:Nat,v= .pointer (some ⟨b,0,none⟩)/\x=[(b,.cells #[.slice none 0 0] 23 (0,0))]
      | 5=>∃ b:Nat,v= .pointer (some ⟨b,0,none⟩)/\x=[(b,.cells #[.slice none 0 0] 272 (0,0))]
      | 6=>∃ b:Nat,val 4= .pointer (some ⟨b,0,none⟩)/\x=[(b,.cells #[val 1] 23 (0,0))]
      | _=>True) (fun i hi val piece hq=>?_) (fun val piece j hj v x q=>?_) (fun val piece hq=>?_)
  · match i,hi with
    | 0,_=>
      refine ex ?_
      exact xmz ⟨⟨_,rfl⟩,fun v e=>⟨xux e,rfl⟩⟩
    | 1,_=>
      have e0:val 0= .int .i64 ((t.nW+t.nH+2:Nat):Int):=(hq 0 rfl).1
      refine yeh (n:=t.nW+t.nH+2) (zc:=[.int .i64 0]) rfl (by show some ([],val 0)=_;rw [e0]) (by show some ([],val 0)=_;rw [e0]) (by omega) fun v Y o=>?_
      exact xmz ⟨⟨_,rfl⟩,fun v' e=>by
        have e':=xux e
        subst e'
        show OwnS _ _ _ _ ([Y]++[]).flatten
        simpa using o⟩
    | 2,_=>
      refine ex ?_
      exact xmz ⟨⟨_,rfl⟩,fun v e=>⟨xux e,rfl⟩⟩
    | 3,_=>
      have e0:val 2= .int .i64 ((t.nW+t.nH+2:Nat):Int):=(hq 2 rfl).1
      refine yeh (n:=t.nW+t.nH+2) (zc:=[.int .i64 0,.int .i64 0,.int .i64 0,.int .i64 0,.int .i64 0]) rfl (by show some ([],val 2)=_;rw [e0]) (by show some ([],val 2)=_;rw [e0]) (by omega) fun v Y o=>?_
      exact xmz ⟨⟨_,rfl⟩,fun v' e=>by
        have e':=xux e
        subst e'
        show OwnS _ _ _ _ ([Y]++[]).flatten
        simpa using o⟩
    | 4,_=>
      refine xbt rfl fun b4=>?_
      exact xmz ⟨⟨_,rfl⟩,fun v e=>⟨b4,xux e,rfl⟩⟩
    | 5,_=>
      refine xbt rfl fun b4=>?_
      exact xmz ⟨⟨_,rfl⟩,fun v e=>⟨b4,xux e,rfl⟩⟩
    | 6,_=>
      obtain ⟨b4,e4,x4⟩:=hq 4 rfl
      have o1:OwnS 3 1 (val 1) (List.replicate (t.nW+t.nH+2) [.int .i64 0]) (piece 1):=hq 1 rfl
      obtain ⟨a,cap,e1,_⟩:=o1.val
      show DE _ _ _ _ _ _ _ _ _ [piece 4]
      rw [x4]
      refine xil (cs:=[.slice none 0 0]) (v:=.slice a _ cap) rfl (by show some ([],val 4)=_;rw [e4]) (by show some ([],val 1)=_;rw [e1]) ?_
      exact xmz ⟨⟨undef,rfl⟩,fun v' e=>⟨b4,e4,by
        show [(b4,Obj.cells _ _ _)]=[(b4,Obj.cells #[val 1] _ _)]
        rw [e1];rfl⟩⟩
  · simp only [List.mem_cons,List.not_mem_nil,or_false] at hj
    rcases hj with rfl | rfl
    · exact q.2
    · exact q.2
  have e0:val 0= .int .i64 ((t.nW+t.nH+2:Nat):Int):=(hq 0 (by decide)).1
  have o1:OwnS 3 1 (val 1) (List.replicate (t.nW+t.nH+2) [.int .i64 0]) (piece 1):=hq 1 (by decide)
  have o2:OwnS 276 5 (val 3) (List.replicate (t.nW+t.nH+2) [.int .i64 0,.int .i64 0,.int .i64 0,.int .i64 0,.int .i64 0]) (piece 3):=hq 3 (by decide)
  obtain ⟨b4,e4,x4⟩:=hq 4 (by decide)
  obtain ⟨b5,e5,x5⟩:=hq 5 (by decide)
  obtain ⟨b6,f6,z6⟩:=hq 6 (by decide)
  have e6:val 4= .pointer (some ⟨b6,0,none⟩):=f6
  rw [e4] at e6
  cases e6
  have x6:piece 6=[(b4,.cells #[val 1] 23 (0,0))]:=z6
  refine xlm (l':=[(0,none,.pointer (some ⟨bt,0,none⟩)),(4,none,.int .i64 ((t.nW+t.nH+2:Nat):Int)),(5,none,.pointer (some ⟨b4,0,none⟩)),(6,none,.pointer (some ⟨b5,0,none⟩)),(28,none,val 3)]) ?_ ⟨rfl,rfl,by show some (none,val 4)=_;rw [e4],by show some (none,val 5)=_;rw [e5],rfl,trivial⟩
  show RO _ _ _ _ _ _ [piece 1,piece 3,piece 5,piece 6]
  rw [x5,x6]
  clear hq e0 x4 x5 x6 e4 e5 f6 z6
  generalize val 1=v1 at*
  generalize val 3=v2 at*
  generalize piece 1=Y1 at*
  generalize piece 3=Y2 at*
  clear val piece
  obtain ⟨s1,m1,rfl,-⟩:=o1.val
  obtain ⟨s2,m2,rfl,-⟩:=o2.val
  rw [List.length_replicate] at o1 o2 ⊢
  rw [List.length_replicate]
  obtain ⟨N,hN⟩: ∃ N,N=t.nW+t.nH+2:=⟨_,rfl⟩
  rw [<- hN] at o1 o2 ⊢
  have o1:=o1.as ((xv8 N).trans (show _=ics (fillK 0 N) by simp [fillK]))
  have o2:=o2.as (ygf N)
  refine ax ?_
  refine xrq (fun m_ l p_ L_=>∃ (k:Nat) (Y:Pcs),m_=N-k/\l=[(0,none,.pointer (some ⟨bt,0,none⟩)),(4,none,.int .i64 (N:Nat)),(5,none,.pointer (some ⟨b4,0,none⟩)),(6,none,.pointer (some ⟨b5,0,none⟩)),(30,none,.int .i64 (N:Nat)),(31,none,.int .i64 (k:Nat))]/\p_=p/\L_=[[(b5,.cells #[.slice s2 N m2] 272 (0,0))],Y,Y2,[(b4,.cells #[.slice s1 N m1] 23 (0,0))]]/\k<=N/\OwnS 3 1 (.slice s1 N m1) (ics (fillK k N)) Y) ⟨0,Y1,rfl,rfl,rfl,rfl,Nat.zero_le _,o1⟩ sb ?_
  clear o1
  rintro _ _ p _ IH ⟨k,Y,rfl,rfl,rfl,rfl,hk,o1⟩
  refine ax ?_
  refine xhq rfl (fun cc=>?_) (fun cc=>?_)
  · refine ax ?_
    refine xnv rfl rfl o1 (by rw [xmq,xrd (by omega)];omega) ?_
    refine xyk rfl rfl o1 xmx rfl rfl rfl (ics_at (by rw [xrd (by omega)];omega)) (Nat.le_refl _) fun Y' o'=>?_
    have o':=o'.as (Eq.trans (b:=ics ((fillK k N).set k 1152921504606846976)) ics_set (by rw [xa6 (by omega)]))
    refine ax ?_
    exact xqq (IH _ _ _ (by omega) ⟨k+1,Y',rfl,rfl,rfl,rfl,by omega,o'⟩)
  obtain rfl:N=k:=by omega
  refine ax ?_
  refine xnv (i:=N-2) rfl (by show some ([],Value.int .i64 _)=_;rw [show (N:Int)-2=((N-2:Nat):Int) by omega]) o1 (by rw [xmq,xrd (by omega)];omega) ?_
  refine xyk rfl rfl o1 xmx rfl rfl rfl (ics_at (by rw [xrd (by omega)];omega)) (Nat.le_refl _) fun Y' o'=>?_
  have hsp:t.sp=N-2:=by unfold Tn.sp;omega
  have o':=o'.as (Eq.trans (b:=ics ((fillK N N).set (N-2) 0)) ics_set (show _=ics (sweeps (arcsL t wi d) 0 (lab0 N t.sp)).c by rw [yyq,<- hsp];rfl))
  have o2:=o2.as (show _=acs (sweeps (arcsL t wi d) 0 (lab0 N t.sp)).b from rfl)
  refine ax ?_
  refine xzv (LL':=[marksP [],Y',[(b5,.cells #[.slice s2 N m2] 272 (0,0))],Y2,[(b4,.cells #[.slice s1 N m1] 23 (0,0))]]) ?_ (fun h s=>by simpa [marksP] using s)
  refine yik (rs₀:=[]) rfl (fun m_ rs l p_ L_=>∃ (j:Nat) (Y1 Y2:Pcs),m_=N-j/\l=[(0,none,.pointer (some ⟨bt,0,none⟩)),(4,none,.int .i64 (N:Nat)),(5,none,.pointer (some ⟨b4,0,none⟩)),(6,none,.pointer (some ⟨b5,0,none⟩)),(42,none,.int .i64 (N:Nat)),(43,none,.int .i64 (j:Nat))]/\p_=p/\L_=[marksP rs,Y1,[(b5,.cells #[.slice s2 N m2] 272 (0,0))],Y2,[(b4,.cells #[.slice s1 N m1] 23 (0,0))]]/\j<=N/\OwnS 3 1 (.slice s1 N m1) (ics (sweeps (arcsL t wi d) j (lab0 N t.sp)).c) Y1/\OwnS 276 5 (.slice s2 N m2) (acs (sweeps (arcsL t wi d) j (lab0 N t.sp)).b) Y2/\LabB (sweeps (arcsL t wi d) j (lab0 N t.sp)) (48*j)) ⟨0,Y',Y2,rfl,rfl,rfl,rfl,Nat.zero_le _,o',o2,LabB.start⟩ sb ?_
  clear IH o1 o2 o'
  rintro _ rs _ p _ IH ⟨j,Y1,Y2,rfl,rfl,rfl,rfl,hj,o1,o2,hlb⟩
  refine ax ?_
  refine xhq rfl (fun cc=>?_) (fun cc=>?_)
  · refine ax ?_
    refine xn2 (fun i L=>∃ Y1 Y2,L=[marksP rs,Y1,[(b5,.cells #[.slice s2 N m2] 272 (0,0))],Y2,[(b4,.cells #[.slice s1 N m1] 23 (0,0))]]/\OwnS 3 1 (.slice s1 N m1) (ics (((arcsL t wi d).take i).foldl rel (sweeps (arcsL t wi d) j (lab0 N t.sp))).c) Y1/\OwnS 276 5 (.slice s2 N m2) (acs (((arcsL t wi d).take i).foldl rel (sweeps (arcsL t wi d) j (lab0 N t.sp))).b) Y2/\LabB (((arcsL t wi d).take i).foldl rel (sweeps (arcsL t wi d) j (lab0 N t.sp))) (48*j+i)) rfl (ymh T O wi D Dv S hb) ⟨Y1,Y2,rfl,o1,o2,hlb⟩ ?_ ?_ rfl (fun i hi=>by rw [List.length_map] at hi;simp [List.getD_eq_getElem?_getD,hi])
    · intro lo lp i _ p' C c₁ cs₁ Stop₁ hi le ⟨Y1,Y2,e,q1,q2,hb_⟩ hrd nx
      subst e
      rw [List.length_map] at hi
      obtain ⟨x,hx⟩: ∃ x,x=(arcsL t wi d)[i]:=⟨_,rfl⟩
      have e:((arcsL t wi d).map fun x=>[arcV x]).getD i []=[arcV x]:=by simp [List.getD_eq_getElem?_getD,hi,hx]
      rw [e]
      obtain ⟨U,hU⟩: ∃ U,U=((arcsL t wi d).take i).foldl rel (sweeps (arcsL t wi d) j (lab0 N t.sp)):=⟨_,rfl⟩
      have eU:((arcsL t wi d).take (i+1)).foldl rel (sweeps (arcsL t wi d) j (lab0 N t.sp))=rel U x:=by rw [hU,hx,List.take_succ_eq_append_getElem hi,yuq]
      have lc:U.c.length=N:=by rw [hU];exact lenc
      have lb:U.b.length=N:=by rw [hU];exact lenb
      rw [<- hU] at q1 q2 hb_
      have hm_:x∈arcsL t wi d:=by rw [hx];exact List.getElem_mem hi
      have hn_:=xac O.y x hm_
      have hcC_:=xrg O.toOk S Dv x hm_
      have hc_:=hcC_
      have h48_:=xs4 (w:=wi) (d:=d) O.toOk
      have eC_:cC=40353607001:=by decide
      rw [eC_] at hc_
      simp only [nN] at hn_
      have hB:Go.X.Bf.L U x.fr<1152921504606846976-> -30000000000000<=Go.X.Bf.L U x.fr/\Go.X.Bf.L U x.fr<=30000000000000:=fun c=>by
        have z:=hb_ x.fr c;omega
      clear hU hx e
      show RE _ _ ((47,none,.agg #[.int .i64 ((x.fr:Nat):Int),.int .i64 ((x.to:Nat):Int),.int .i64 x.cost,.int .i64 x.way,.int .i64 x.more])::_) _ _
      refine ax ?_
      refine xiq fun b8=>?_
      refine ax ?_
      dsimp only at nx ⊢
      refine xzn hrd ?_
      refine ax ?_
      refine xix [] R20 ?_
      refine ex ?_
      refine xek rfl rfl rfl rfl sdt sdt q1 (by rw [xmq];omega) ?_
      refine ex ?_
      refine xiv rfl rfl rfl sdt q1 xmx (xbg (by omega)) rfl ?_
      refine ex ?_
      refine xek rfl rfl rfl rfl sdu sdu q1 (by rw [xmq];omega) ?_
      refine ex ?_
      refine xiv rfl rfl rfl sdu q1 xmx (xbg (by omega)) rfl ?_
      refine ex ?_
      refine xek rfl rfl rfl rfl sdu sdu q1 (by rw [xmq];omega) ?_
      refine ex ?_
      refine xiv rfl rfl rfl sdu q1 xmx (xbg (by omega)) rfl ?_
      refine ex ?_
      refine ax ?_
      refine xhq rfl (fun c2=>?_) (fun c2=>?_)
      · have c3:Go.X.Bf.L U x.fr<1152921504606846976/\Go.X.Bf.L U x.fr+x.cost<Go.X.Bf.L U x.to:=by simpa using c2
        refine xr2 [16] R17 Y1 ?_
        refine ex ?_
        refine xek rfl rfl rfl rfl sdt sdt q1 (by rw [xmq];omega) ?_
        refine ex ?_
        refine xb1 rfl rfl rfl sdt q1 xmx (xbg (by omega)) rfl ?_
        refine ex ?_
        refine xek rfl rfl rfl rfl sdt sdt q1 (by rw [xmq];omega) ?_
        refine ync rfl rfl rfl q1 xmx rfl rfl rfl (xbg (by omega)) (Nat.le_refl _) fun Y3 o3=>?_
        refine ex ?_
        have o3:=o3.as (Eq.trans (b:=ics (U.c.set x.to (Go.X.Bf.L U x.fr+x.cost))) ics_set (show _=ics (rel U x).c by rw [xw8 c3.1 c3.2]))
        refine ax ?_
        refine xnv rfl rfl q2 (by rw [xpk];omega) ?_
        refine xyk rfl rfl q2 xmx rfl rfl rfl (xf1 (by omega)) (Nat.le_refl _) fun Y4 o4=>?_
        have o4:=o4.as (Eq.trans (b:=acs (U.b.set x.to x)) (yuh (x:=x)) (show _=acs (rel U x).b by rw [xw8 c3.1 c3.2]))
        refine ax ?_
        exact xqq (nx [] _ ⟨Y3,Y4,rfl,by rw [eU];exact o3,by rw [eU];exact o4,by rw [eU];exact LabB.step hb_ (by omega) hcC_⟩)
      · have c3: ¬ Go.X.Bf.L U x.fr<1152921504606846976\/ ¬ Go.X.Bf.L U x.fr+x.cost<Go.X.Bf.L U x.to:=by
          by_cases c:Go.X.Bf.L U x.fr<1152921504606846976
          · exact .inr fun z=>c2 (by simp [c,z])
          · exact .inl c
        have eR:rel U x=U:=c3.elim yif yhf
        refine ax ?_
        exact xqq (nx [] _ ⟨Y1,Y2,rfl,by rw [eU,eR];exact q1,by rw [eU,eR];exact q2,by rw [eU,];exact LabB.step hb_ (by omega) hcC_⟩)
    · intro r _ ⟨Y1,Y2,e,q1,q2,hb_⟩
      subst e
      rw [List.length_map,List.take_length] at q1 q2 hb_
      dsimp only
      refine ax ?_
      refine ylf (rs:=rs) ?_
      have h48_:=xs4 (w:=wi) (d:=d) O.toOk
      exact xqq (IH (r::rs) _ _ _ (by omega) ⟨j+1,Y1,Y2,rfl,rfl,rfl,rfl,by omega,q1,q2,LabB.mono hb_ (by omega)⟩)
  obtain rfl:N=j:=by omega
  have hB:sweeps (arcsL t wi d) N (lab0 N t.sp)=bf t wi d:=by rw [hN];rfl
  rw [hB] at o1 o2
  clear IH hlb hB
  have hbl:(bf t wi d).c.length=N:=by rw [hN];exact yph
  have hbb:(bf t wi d).b.length=N:=by rw [hN];exact yqh
  refine ax ?_
  refine yjl 276 5 fun o9=>?_
  refine xnv (i:=N-1) rfl (by show some ([],Value.int .i64 _)=_;rw [show (N:Int)-1=((N-1:Nat):Int) by omega]) o1 (by rw [xmq];omega) ?_
  refine xhh rfl o1 xmx (xbg (by omega)) rfl ?_
  refine ax ?_
  have hsi:Go.X.Bf.L (bf t wi d) (N-1)=costL t wi d:=by rw [hN];rfl
  rw [hsi]
  refine xhq rfl (fun c3=>?_) (fun c3=>?_)
  · have hcf:costL t wi d<far:=by rw [xsd];exact c3
    have hw_:=(G.find O.toOk S).way hcf
    have hpl:=xw2 O.toOk S G
    refine ax ?_
    refine xow (l':=[(4,none,.int .i64 (N:Nat)),(5,none,.pointer (some ⟨b4,0,none⟩)),(6,none,.pointer (some ⟨b5,0,none⟩)),(9,none,.slice none 0 0),(10,none,.int .i64 ((N-1:Nat):Int))]) ?_ ⟨rfl,rfl,rfl,rfl,by show some (none,Value.int .i64 _)=_;rw [show (N:Int)-1=((N-1:Nat):Int) by omega],trivial⟩
    refine xrq (fun m_ l p_ L_=>∃ (n:Nat) (acc r:List Go.X.Bf.Arc) (w:Value) (Y:Pcs),m_=r.length/\l=[(4,none,.int .i64 (N:Nat)),(5,none,.pointer (some ⟨b4,0,none⟩)),(6,none,.pointer (some ⟨b5,0,none⟩)),(9,none,w),(10,none,.int .i64 (n:Nat))]/\p_=p/\L_=[Y,marksP rs,Y1,[(b5,.cells #[.slice s2 N m2] 272 (0,0))],Y2,[(b4,.cells #[.slice s1 N m1] 23 (0,0))]]/\n<N/\Chain (bf t wi d) t.sp n r/\acc++r=pathL t wi d/\(∀ a∈r,a∈arcsL t wi d)/\OwnS 276 5 w (acs acc) Y) ⟨N-1,[],pathL t wi d,.slice none 0 0,[],rfl,rfl,rfl,rfl,by omega,(show N-1=t.si by unfold Tn.si;omega) ▸ hw_.2.1,rfl,fun a ha=>(hw_.2.2.2 a ha).1,o9⟩ sb ?_
    clear o9
    rintro _ _ p _ IH ⟨n,acc,r,w,Y,rfl,rfl,rfl,rfl,hn6,hC,hP,hr,o3⟩
    have hla:=congrArg List.length hP
    simp only [List.length_append] at hla
    refine ax ?_
    refine xhq rfl (fun c4=>?_) (fun c4=>?_)
    · obtain ⟨r',hr_,hC'⟩:=Chain.cases' hC (show n≠t.sp by rw [hsp];intro e;apply c4;omega)
      subst hr_
      simp only [List.length_cons] at hla
      refine ax ?_
      refine xnv rfl rfl o2 (by rw [xpk];omega) ?_
      refine yyd rfl o2 rfl (xf1 (by omega)) ?_
      refine ax ?_
      refine xjz rfl fun v4 Y4 o4=>?_
      have o4:OwnS 276 5 v4 (acs [Go.X.Bf.B (bf t wi d) n]) Y4:=o4
      refine ax ?_
      refine xmh rfl rfl o3 o4 (xl0 rfl) (by rw [xpk,xpk];simp only [List.length_singleton];omega) fun v5 Y5 o5=>?_
      have o5:=o5.as (yfb acc (Go.X.Bf.B (bf t wi d) n))
      refine ax ?_
      refine xnv rfl rfl o2 (by rw [xpk];omega) ?_
      refine ax ?_
      refine xhh rfl o2 (j:=0) rfl (xf1 (by omega)) rfl ?_
      refine ax ?_
      have z_:=xac O.y _ (hr _ (List.mem_cons_self ..))
      simp only [nN] at z_
      exact xqq (IH _ _ _ (by simp) ⟨(Go.X.Bf.B (bf t wi d) n).fr,acc++[Go.X.Bf.B (bf t wi d) n],r',v5,Y5,rfl,rfl,rfl,rfl,by omega,hC',by rw [List.append_assoc];exact hP,fun a ha=>hr a (List.mem_cons_of_mem _ ha),o5⟩)
    have hrn:=Chain.nil' hC (show n=t.sp by rw [hsp];apply Classical.byContradiction;intro z;apply c4;omega)
    subst hrn
    rw [List.append_nil] at hP
    rw [hP] at o3
    refine ax ?_
    refine xix [] R7 ?_
    refine ex ?_
    refine xek (j:=N-1) rfl rfl rfl (by show some (_,Value.int .i64 _)=_;rw [show (N:Int)-1=((N-1:Nat):Int) by omega]) sdt sdt o1 (by rw [xmq];omega) ?_
    refine xiv rfl rfl rfl sdt o1 xmx (xbg (by omega)) rfl ?_
    refine ex ?_
    refine ax ?_
    dsimp only
    rw [hsi]
    exact xxn (rs:=rs) (vs:=[w,.int .i64 (costL t wi d)]) Tryz.func248 rfl rsv fun _ H_=>K _ _ ⟨w,Y,⟨rfl,o3⟩,newR H_⟩
  · refine ax ?_
    refine xix [] R7 ?_
    refine ex ?_
    refine xek (j:=N-1) rfl rfl rfl (by show some (_,Value.int .i64 _)=_;rw [show (N:Int)-1=((N-1:Nat):Int) by omega]) sdt sdt o1 (by rw [xmq];omega) ?_
    refine xiv rfl rfl rfl sdt o1 xmx (xbg (by omega)) rfl ?_
    refine ex ?_
    refine ax ?_
    dsimp only
    rw [hsi]
    have o9:=o9.as (show _=acs (pathL t wi d) by rw [pathL,if_neg (fun z=>c3 (by rw [xsd] at z;exact z))];rfl)
    exact xxn (rs:=rs) (vs:=[.slice none 0 0,.int .i64 (costL t wi d)]) Tryz.func248 rfl rsv fun _ H_=>K _ _ ⟨.slice none 0 0,[],⟨rfl,o9⟩,newR H_⟩
end Go.Proofs.YtbphcmeebnkmdaaGreatDoor
namespace Go.Proofs.YtbphcmeebnkmdaaGreatDoor
open Go.X Go.X.Flow Go.Conc
open Go.X.Bf (a0)
set_option maxRecDepth 20000
set_option synthInstance.maxSize 2000
set_option maxHeartbeats 8000000 in
theorem c203 (md:Md) {h:Heap} {p:PHeap} (hp:Per p h) (a1 a2 a3:Option Addr) (c1 c2 c3:Nat) (t:Tn) (T:TownP p a1 t.nH a2 t.nW a3 t.m t) (O:OkT t) (wi:Wi) (S:Sg wi):
  CallsX Tryz.prog md 203 #[.agg #[.slice a1 t.nH c1,.slice a2 t.nW c2,.slice a3 t.m c3],.agg #[.int .i64 wi.house,.int .i64 wi.well,.int .i64 wi.sign]] h fun v h'=>∃ Y,OwnS 3 1 v (ics (fairP t wi)) Y/\New h h' Y:=by
 have oH:=O.nh
 have oW:=O.nw
 have oM:=O.nm
 refine xeq hp Tryz.func203 fun _ _ _ K=>?_
 refine ax ?_
 refine xjq rfl fun b1=>?_
 refine ax ?_
 refine xjq rfl fun b2=>?_
 refine ax ?_
 refine xix [5] R6 ?_
 refine ex ?_
 refine yeh (n:=t.m) (zc:=[.int .i64 0]) rfl rfl rfl (by omega) fun v Y o=>?_
 obtain ⟨a9,c9,rfl,-⟩:=o.val
 rw [List.length_replicate] at o ⊢
 have o:=o.as (xv8 _)
 refine ex ?_
 refine ax ?_
 refine xjq rfl fun b5=>?_
 refine ax ?_
 refine xzv (LL':=[[(b5,.cells #[.slice a1 t.nH c1,.slice a2 t.nW c2,.slice a3 t.m c3,.int .i64 wi.house,.int .i64 wi.well,.int .i64 wi.sign,.slice a9 t.m c9] 271 (0,0))],Y]) ?_ (fun h s=>s.sub (List.Sublist.cons_cons _ (List.Sublist.cons _ (List.Sublist.cons _ (List.Sublist.refl _)))))
 refine xrq (fun m_ l p_ L_=>∃ (n:Nat) (d:List Int) (Y:Pcs),m_=n/\l=[(5,none,.pointer (some ⟨b5,0,none⟩))]/\p_=p/\L_=[[(b5,.cells #[.slice a1 t.nH c1,.slice a2 t.nW c2,.slice a3 t.m c3,.int .i64 wi.house,.int .i64 wi.well,.int .i64 wi.sign,.slice a9 t.m c9] 271 (0,0))],Y]/\Flow.Good t wi d/\sm t.nH t.hv-tot t d<(n:Int)+1/\fairF t wi (n+1) d=fairP t wi/\OwnS 3 1 (.slice a9 t.m c9) (ics d) Y) ⟨(sm t.nH t.hv).toNat,List.replicate t.m 0,Y,rfl,rfl,rfl,rfl,Flow.Good.start O.toOk S,xb6 O.toOk,rfl,o⟩ sb ?_
 clear o
 rintro n _ p _ IH ⟨_,d,Y,rfl,rfl,rfl,rfl,hG,hN,hF,o1⟩
 have hlx:=hG.div.len
 have hb9:=yqn hG.div (fun i hi=>ymn O hG.div hi)
 refine ax ?_
 refine ydf (Q:=fun v Y=>∃ w,v= .tuple #[w,.int .i64 (costL t wi d)]/\OwnS 276 5 w (acs (pathL t wi d)) Y) (first:=[]) rfl rfl (fun h s=>(yhv (n:=t.m) o1 (by rw [xmq];exact hlx) s (fun x h=>by simp [h]) (bt:=b5) (ob:=.cells #[.slice a1 t.nH c1,.slice a2 t.nW c2,.slice a3 t.m c3,.int .i64 wi.house,.int .i64 wi.well,.int .i64 wi.sign,.slice a9 t.m c9] 271 (0,0)) (by simp) fun p_ a_ c_ hp_ le_ hv_ D_ hb_=>c248 md hp_ a1 a2 a3 c1 c2 c3 t (TownP.mono T le_) O wi a_ c_ d D_ hG.div S b5 _ _ (hv_ ▸ hb_) hG).mono fun v h' ⟨w,Y,q,n⟩=>⟨Y,⟨w,q⟩,n⟩) ?_
 rintro _ Y2 ⟨w,rfl,o2⟩
 refine ax ?_
 refine xhq rfl (fun cc=>?_) (fun cc=>?_)
 ·refine ax ?_
  exact xdq Tryz.func203 rfl rfl fun _ H_=>K _ _ ⟨Y,o1.as (by rw [<- hF,xc6 cc]),newR H_⟩
 obtain ⟨n',hn_,hG',hn',hF'⟩:=ybx O.toOk S hG cc hN hF
 have hcf:costL t wi d<Go.X.Bf.far:=by rw [xsd];omega
 have hw_:=(hG.find O.toOk S).way hcf
 have hpl:=xw2 O.toOk S hG
 have hmo:=fun a ha=>(ywz (hw_.2.2.2 a ha).1).2
 have hwy:=fun a ha=>(ywz (hw_.2.2.2 a ha).1).1
 refine ax ?_
 refine xzw o2 (xpk _) fun p1 a19 cp le ev D2=>?_
 subst ev
 refine ax ?_
 refine xrq (fun m_ l p_ L_=>∃ (k:Nat) (Y:Pcs),m_=(pathL t wi d).length-k/\l=[(5,none,.pointer (some ⟨b5,0,none⟩)),(29,none,.slice a19 (pathL t wi d).length cp),(30,none,.int .i64 ((pathL t wi d).length:Nat)),(31,none,.int .i64 (k:Nat))]/\p_=p1/\L_=[[(b5,.cells #[.slice a1 t.nH c1,.slice a2 t.nW c2,.slice a3 t.m c3,.int .i64 wi.house,.int .i64 wi.well,.int .i64 wi.sign,.slice a9 t.m c9] 271 (0,0))],Y]/\k<=(pathL t wi d).length/\OwnS 3 1 (.slice a9 t.m c9) (ics (augK d (pathL t wi d) k)) Y) ⟨0,Y,rfl,rfl,rfl,rfl,Nat.zero_le _,by rw [xgt];exact o1⟩ sb ?_
 clear o1 o2
 rintro _ _ p1 _ IH2 ⟨k,Y,rfl,rfl,rfl,rfl,hk,o2⟩
 have hlk:(augK d (pathL t wi d) k).length=t.m:=augK_len.trans hG.div.len
 have hbk:=yuz hmo hb9 k hk
 have D3:Arcs p1 a19 (pathL t wi d).length (pathL t wi d):=D2
 refine ax ?_
 refine xhq rfl (fun cd=>?_) (fun cd=>?_)
 ·have z1:=hwy _ (xnp (show k<(pathL t wi d).length by omega))
  have z2:=hmo _ (xnp (show k<(pathL t wi d).length by omega))
  have z3:=hbk ((pathL t wi d).getD k a0).way.toNat
  refine ax ?_
  refine xav rfl (D3.all (by omega)) ?_
  refine xiq fun b9=>?_
  refine ax ?_
  refine xhq rfl (fun ce=>?_) (fun ce=>?_)
  ·refine xix [] R10 ?_
   refine ex ?_
   refine xbf rfl rfl rfl rfl sdt sdt o2 (xkx ⟨ce,by rw [xmq,hlk];omega⟩) ?_
   refine xiv rfl rfl rfl sdt o2 xmx (ics_at (by rw [hlk];omega)) rfl ?_
   refine ex ?_
   refine ax ?_
   refine xsv rfl rfl o2 ce (by rw [xmq,hlk];omega) ?_
   refine xyk rfl rfl o2 xmx rfl rfl rfl (ics_at (by rw [hlk];omega)) (Nat.le_refl _) fun Y3 o3=>?_
   have o3:=o3.as (Eq.trans (b:=ics ((augK d (pathL t wi d) k).set ((pathL t wi d).getD k a0).way.toNat ((augK d (pathL t wi d) k).getD ((pathL t wi d).getD k a0).way.toNat 0+((pathL t wi d).getD k a0).more))) ics_set (congrArg ics (ydb (by omega) ce)))
   refine ax ?_
   exact xqq (IH2 _ _ _ (by omega) ⟨k+1,Y3,rfl,rfl,rfl,rfl,by omega,o3⟩)
  ·refine ax ?_
   exact xqq (IH2 _ _ _ (by omega) ⟨k+1,Y,rfl,rfl,rfl,rfl,by omega,o2.as (congrArg ics (ysh (by omega) ce))⟩)
 refine ax ?_
 refine xcv le ?_
 exact xqq (IH _ _ _ (by omega) ⟨n',aug d (pathL t wi d),Y,rfl,rfl,rfl,rfl,hG',hn',hF',o2.as (by rw [yeb (by omega)])⟩)
end Go.Proofs.YtbphcmeebnkmdaaGreatDoor
namespace Go.Proofs.YtbphcmeebnkmdaaGreatDoor
open Go.X Go.X.Flow Go.Conc
set_option maxRecDepth 20000
set_option synthInstance.maxSize 2000
theorem xxh (md:Md) {h h₀:Heap} {B₀:List Nat} {p:PHeap} {L X:Pcs} {a1 a2 a3:Option Addr} {c1 c2 c3:Nat} {t:Tn} (T:TownP p a1 t.nH a2 t.nW a3 t.m t) (O:OkT t) {w:Value} {d:List Int} (Dv:Div t d) (o:OwnS 3 1 w (ics d) X) (s:St h₀ B₀ p h (X++L)):
  CallsX Tryz.prog md 209 #[.agg #[.slice a1 t.nH c1,.slice a2 t.nW c2,.slice a3 t.m c3],w] h fun v h'=>∃ Y,(∃ w1 w2 Y1 Y2,v= .tuple #[w1,w2]/\OwnS 3 1 w1 (ics (lackL t d)) Y1/\OwnS 3 1 w2 (ics (hasL t d)) Y2/\Y=Y1++Y2)/\New h h' Y:=
 ywf (n:=t.m) o (by rw [xmq];exact Dv.len) s (fun x hx=>List.mem_append_left _ hx) fun p' a cap hp le hv D=>by
  subst hv
  exact yiq md h p' hp a1 a2 a3 c1 c2 c3 t (TownP.mono T le) O a cap d D Dv
theorem c205 (md:Md) {h:Heap} {p:PHeap} (hp:Per p h) (a1 a2 a3:Option Addr) (c1 c2 c3:Nat) (t:Tn) (T:TownP p a1 t.nH a2 t.nW a3 t.m t) (O:OkT t) {tN:TypeId} {z:Nat × Nat} (hG:p 0=some (.cells #[.int .i64 (-1),.int .i64 (-1),.int .i64 0] tN z)):
  CallsX Tryz.prog md 205 #[.agg #[.slice a1 t.nH c1,.slice a2 t.nW c2,.slice a3 t.m c3]] h fun v h'=>∃ Y,OwnS 3 1 v (ics (LK t)) Y/\New h h' Y:=by
 have oH:=O.nh
 refine xeq hp Tryz.func205 fun _ _ _ K=>?_
 refine ax ?_
 refine xjq rfl fun b1=>?_
 refine ax ?_
 refine xix [3,4] R9 ?_
 refine ex ?_
 refine xmw rfl rfl rfl (fun _ pe=>c203 md pe _ _ _ _ _ _ t T O none0 xpc) ?_
 intro v Y o
 refine yfz Y rfl rfl rfl (fun h L s=>xxh md T O (xbw O.toOk xpc).div o s) ?_
 rintro _ _ ⟨w1,w2,Y1,Y2,rfl,o1,o2,rfl⟩
 refine ex ?_
 refine ax ?_
 refine xzc Y1 Y2 ?_
 refine ax ?_
 refine xkh Y1 rfl rfl (fun h C s=>c249 md w1 _ o1 (by rw [xeb];omega) s) ?_
 rintro _ Y3 ⟨rfl,o3⟩
 refine ax ?_
 exact xdq Tryz.func205 rfl rfl fun _ H_=>K _ _ ⟨Y3,o3,newR H_⟩
theorem c121 (md:Md) {h:Heap} {p:PHeap} (hp:Per p h) (a1 a2 a3:Option Addr) (c1 c2 c3:Nat) (t:Tn) (T:TownP p a1 t.nH a2 t.nW a3 t.m t) (hn:t.nH<=2 ^ 30/\t.nW<=2 ^ 30/\t.m<=2 ^ 30) {tN:TypeId} {z:Nat × Nat} (hG:p 0=some (.cells #[.int .i64 (-1),.int .i64 (-1),.int .i64 0] tN z)):
  CallsX Tryz.prog md 121 #[.agg #[.slice a1 t.nH c1,.slice a2 t.nW c2,.slice a3 t.m c3]] h fun v h'=>v= .tuple #[.int .i64 (mostC t),.int .i64 (chkB t)]/\Keep h h':=by
 refine xeq hp Tryz.func121 fun _ _ _ K=>?_
 refine ax ?_
 refine xjq rfl fun b1=>?_
 refine ax ?_
 refine xoq rfl rfl (fun _ pe=>c55 md _ _ pe _ _ _ _ _ _ t T hn) ?_
 refine ax ?_
 refine xhq rfl (fun cc=>?_) (fun cc=>?_)
 ·refine ax ?_
  exact xdq Tryz.func121 rfl rfl fun _ H_=>K _ _ ⟨by rw [mostC,if_neg cc];rfl,H_.kept⟩
 have cc:=Classical.not_not.1 cc
 have O:OkT t:=xrm cc
 have oM:=O.nm
 refine ax ?_
 refine xxj rfl rfl (fun _ pe=>c203 md pe _ _ _ _ _ _ t T O none0 xpc) ?_
 intro v Y o
 refine xzw o (by rw [xmq,ycx]) fun p1 a n le ev D=>?_
 subst ev
 refine xoq rfl rfl (fun _ pe=>c202 md _ _ pe _ _ _ (fairP t none0) D (by omega) (fun i hi=>by have z_:=xqg O xpc i hi;omega)) ?_
 refine ax ?_
 exact xdq Tryz.func121 rfl rfl fun _ H_=>K _ _ ⟨by rw [mostC,if_pos cc,cc];rfl,H_.kept⟩
theorem c124 (md:Md) {h:Heap} {p:PHeap} (hp:Per p h) (a1 a2 a3:Option Addr) (c1 c2 c3:Nat) (t:Tn) (T:TownP p a1 t.nH a2 t.nW a3 t.m t) (hn:t.nH<=2 ^ 30/\t.nW<=2 ^ 30/\t.m<=2 ^ 30) {tN:TypeId} {z:Nat × Nat} (hG:p 0=some (.cells #[.int .i64 (-1),.int .i64 (-1),.int .i64 0] tN z)):
  CallsX Tryz.prog md 124 #[.agg #[.slice a1 t.nH c1,.slice a2 t.nW c2,.slice a3 t.m c3]] h fun v h'=>∃ Y,(∃ w,v= .tuple #[w,.int .i64 (chkB t)]/\OwnS 3 1 w (ics (LKc t)) Y)/\New h h' Y:=by
 refine xeq hp Tryz.func124 fun _ _ _ K=>?_
 refine ax ?_
 refine xjq rfl fun b1=>?_
 refine ax ?_
 refine xoq rfl rfl (fun _ pe=>c55 md _ _ pe _ _ _ _ _ _ t T hn) ?_
 refine ax ?_
 refine xhq rfl (fun cc=>?_) (fun cc=>?_)
 ·refine ax ?_
  refine xzv (LL':=[[]]) ?_ (fun h s=>s.sub (List.nil_sublist _))
  exact xdq Tryz.func124 rfl rfl fun _ H_=>K _ _ ⟨[],⟨.slice none 0 0,rfl,(OwnS.empty _ _).as (by rw [LKc,if_neg cc];rfl)⟩,newR H_⟩
 have cc:=Classical.not_not.1 cc
 have O:OkT t:=xrm cc
 refine ax ?_
 refine xxj rfl rfl (fun _ pe=>c205 md pe _ _ _ _ _ _ t T O hG) ?_
 intro v Y o
 refine ax ?_
 exact xdq Tryz.func124 rfl rfl fun _ H_=>K _ _ ⟨Y,⟨v,by rw [cc];rfl,o.as (by rw [LKc,if_pos cc])⟩,newR H_⟩
theorem c208 (md:Md) {h:Heap} {p:PHeap} (hp:Per p h) (a1 a2 a3:Option Addr) (c1 c2 c3:Nat) (t:Tn) (T:TownP p a1 t.nH a2 t.nW a3 t.m t) (O:OkT t) (z s:Int) (S:Sg ⟨z,-1,s⟩) (hz:0<=z/\z.toNat<t.nH) (bT bZ:Nat) (T1 T2:TypeId) (q1 q2:Nat × Nat)
  (hT:p bT=some (.cells #[.slice a1 t.nH c1,.slice a2 t.nW c2,.slice a3 t.m c3] T1 q1)) (hZ:p bZ=some (.cells #[.int .i64 z] T2 q2)):
  CallsX Tryz.prog md 208 #[.int .i64 s,.pointer (some ⟨bT,0,none⟩),.pointer (some ⟨bZ,0,none⟩)] h fun v h'=>v= .int .i64 (drawV t z s)/\Keep h h':=by
 have oH:=O.nh
 refine xeq hp Tryz.func208 fun _ _ _ K=>?_
 refine ax ?_
 refine xix [5,6] R11 ?_
 refine ex ?_
 refine xmw rfl rfl rfl (fun _ pe=>c203 md pe _ _ _ _ _ _ t T O ⟨z,-1,s⟩ S) ?_
 intro v Y o
 have Dv:=(xbw O.toOk S).div
 refine yfz Y rfl rfl rfl (fun h L s=>xxh md T O Dv o s) ?_
 rintro _ _ ⟨w1,w2,Y1,Y2,rfl,o1,o2,rfl⟩
 refine ex ?_
 refine ax ?_
 refine xov Y1 Y2 ?_
 have Th:=T.h
 have hb1:=ymq O Dv (h:=z.toNat) hz.2
 have hb2:0<=t.hs.getD z.toNat 0/\t.hs.getD z.toNat 0<=9:=O.h z.toNat hz.2
 refine xix [] R9 ?_
 refine ex ?_
 refine xrc rfl rfl rfl rfl sdt sdt (xkx ⟨⟨hz.1,by omega⟩,Sl.ne Th (by omega)⟩) ?_
 refine xrv rfl rfl rfl sdt (xkx (Ints.get Th hz.2)) ?_
 refine ex ?_
 refine xbf (z:=z) rfl rfl rfl rfl sdt sdt o1 (xkx ⟨hz.1,by have e:=xeb (t:=t) (d:=fairP t ⟨z,-1,s⟩);rw [xmq];omega⟩) ?_
 refine xiv rfl rfl rfl sdt o1 xmx (xk3 (d:=fairP t ⟨z,-1,s⟩) hz.2) rfl ?_
 refine ex ?_
 refine ax ?_
 have e:t.hv z.toNat-lack t (fairP t ⟨z,-1,s⟩) z.toNat=drawV t z s:=by unfold lack drawV;omega
 refine xdq Tryz.func208 rfl rfl fun _ H_=>K _ _ ⟨?_,H_.kept⟩
 exact congrArg (Value.int .i64) e
theorem c210 (md:Md) {h:Heap} {p:PHeap} (hp:Per p h) (a1 a2 a3:Option Addr) (c1 c2 c3:Nat) (t:Tn) (T:TownP p a1 t.nH a2 t.nW a3 t.m t) (O:OkT t) (z s:Int) (S:Sg ⟨-1,z,s⟩) (hz:0<=z/\z.toNat<t.nW) (bT bZ:Nat) (T1 T2:TypeId) (q1 q2:Nat × Nat)
  (hT:p bT=some (.cells #[.slice a1 t.nH c1,.slice a2 t.nW c2,.slice a3 t.m c3] T1 q1)) (hZ:p bZ=some (.cells #[.int .i64 z] T2 q2)):
  CallsX Tryz.prog md 210 #[.int .i64 s,.pointer (some ⟨bT,0,none⟩),.pointer (some ⟨bZ,0,none⟩)] h fun v h'=>v= .int .i64 (restV t z s)/\Keep h h':=by
 refine xeq hp Tryz.func210 fun _ _ _ K=>?_
 refine ax ?_
 refine xix [5,6] R11 ?_
 refine ex ?_
 refine xmw rfl rfl rfl (fun _ pe=>c203 md pe _ _ _ _ _ _ t T O ⟨-1,z,s⟩ S) ?_
 intro v Y o
 have Dv:=(xbw O.toOk S).div
 refine yfz Y rfl rfl rfl (fun h L s=>xxh md T O Dv o s) ?_
 rintro _ _ ⟨w1,w2,Y1,Y2,rfl,o1,o2,rfl⟩
 refine ex ?_
 refine ax ?_
 refine xzc Y1 Y2 ?_
 refine xsv rfl rfl o2 hz.1 (by rw [xmq,xpg];exact hz.2) ?_
 refine xhh rfl o2 xmx (yqq hz.2) rfl ?_
 refine ax ?_
 exact xdq Tryz.func210 rfl rfl fun _ H_=>K _ _ ⟨rfl,H_.kept⟩
theorem c127 (md:Md) {h:Heap} {p:PHeap} (hp:Per p h) (a1 a2 a3:Option Addr) (c1 c2 c3:Nat) (t:Tn) (T:TownP p a1 t.nH a2 t.nW a3 t.m t) (hn:t.nH<=2 ^ 30/\t.nW<=2 ^ 30/\t.m<=2 ^ 30) (z:Int):
  CallsX Tryz.prog md 127 #[.agg #[.slice a1 t.nH c1,.slice a2 t.nW c2,.slice a3 t.m c3],.int .i64 z] h fun v h'=>v= .tuple #[.agg #[.int .i64 (houseC t z (-1)),.int .i64 (houseC t z 1)],.int .i64 (askB t (decide (0<=z/\z<=(t.nH:Int)-1)))]/\Keep h h':=by
 refine xeq hp Tryz.func127 fun _ _ _ K=>?_
 refine ax ?_
 refine xjq rfl fun b2=>?_
 refine ax ?_
 refine xjq rfl fun b3=>?_
 refine ax ?_
 refine xiq fun b4=>?_
 refine ax ?_
 refine xix [] R4 ?_
 refine ex ?_
 refine xlk rfl rfl rfl rfl trivial (fun _ pe=>c103 md _ _ pe a1 a2 a3 t.nH t.nW t.m c1 c2 c3 (by omega) z) ?_
 refine ex ?_
 refine xoq rfl rfl (fun _ pe=>c207 md _ _ pe _ _ _ _ _ _ t T hn (decide (0<=z/\z<=(t.nH:Int)-1))) ?_
 refine ax ?_
 refine xhq rfl (fun cc=>?_) (fun cc=>?_)
 ·refine ax ?_
  exact xyq Tryz.func127 rfl (xhx rfl (.tmp rfl .nil)) fun _ H_=>K _ _ ⟨by rw [houseC,if_neg cc,houseC,if_neg cc];rfl,H_.kept⟩
 have cc:=Classical.not_not.1 cc
 have O:OkT t:=xrm (xen cc).1
 have hz:=of_decide_eq_true (xen cc).2
 have oH:=O.nh
 refine ax ?_
 refine xyv (b:=b2) fun p1 le1 h1=>?_
 refine xyv (b:=b3) fun p2 le2 h2=>?_
 have h1:=le2 _ _ h1
 have T2:=TownP.mono T (le1.trans le2)
 refine xul rfl rfl (fun _ pe=>xkq (by kernel_rfl) (c208 md pe _ _ _ _ _ _ t T2 O z (-1) ⟨(by decide:(-1:Int)<= -1),(by decide:(-1:Int)<=1)⟩ ⟨hz.1,by omega⟩ b2 b3 _ _ _ _ h1 h2)) ?_
 refine ax ?_
 refine xul rfl rfl (fun _ pe=>xkq (by kernel_rfl) (c208 md pe _ _ _ _ _ _ t T2 O z 1 ⟨(by decide:(-1:Int)<=1),(by decide:(1:Int)<=1)⟩ ⟨hz.1,by omega⟩ b2 b3 _ _ _ _ h1 h2)) ?_
 refine ax ?_
 exact xyq Tryz.func127 rfl (xhx rfl (.tmp rfl .nil)) fun _ H_=>K _ _ ⟨by rw [houseC,if_pos cc,houseC,if_pos cc,cc];rfl,H_.kept⟩
theorem c129 (md:Md) {h:Heap} {p:PHeap} (hp:Per p h) (a1 a2 a3:Option Addr) (c1 c2 c3:Nat) (t:Tn) (T:TownP p a1 t.nH a2 t.nW a3 t.m t) (hn:t.nH<=2 ^ 30/\t.nW<=2 ^ 30/\t.m<=2 ^ 30) (z:Int):
  CallsX Tryz.prog md 129 #[.agg #[.slice a1 t.nH c1,.slice a2 t.nW c2,.slice a3 t.m c3],.int .i64 z] h fun v h'=>v= .tuple #[.int .i64 (dryC t z),.int .i64 (askB t (decide (0<=z/\z<=(t.nW:Int)-1)))]/\Keep h h':=by
 refine xeq hp Tryz.func129 fun _ _ _ K=>?_
 refine ax ?_
 refine xjq rfl fun b2=>?_
 refine ax ?_
 refine xjq rfl fun b3=>?_
 refine ax ?_
 refine xix [] R4 ?_
 refine ex ?_
 refine xlk rfl rfl rfl rfl trivial (fun _ pe=>c104 md _ _ pe a1 a2 a3 t.nH t.nW t.m c1 c2 c3 (by omega) z) ?_
 refine ex ?_
 refine xoq rfl rfl (fun _ pe=>c207 md _ _ pe _ _ _ _ _ _ t T hn (decide (0<=z/\z<=(t.nW:Int)-1))) ?_
 refine ax ?_
 refine xhq rfl (fun cc=>?_) (fun cc=>?_)
 ·refine ax ?_
  exact xdq Tryz.func129 rfl rfl fun _ H_=>K _ _ ⟨by rw [dryC,if_neg cc];rfl,H_.kept⟩
 have cc:=Classical.not_not.1 cc
 have O:OkT t:=xrm (xen cc).1
 have hz:=of_decide_eq_true (xen cc).2
 have oW:=O.nw
 refine ax ?_
 refine xyv (b:=b2) fun p1 le1 h1=>?_
 refine xyv (b:=b3) fun p2 le2 h2=>?_
 have h1:=le2 _ _ h1
 have T2:=TownP.mono T (le1.trans le2)
 refine xul rfl rfl (fun _ pe=>xkq (by kernel_rfl) (c210 md pe _ _ _ _ _ _ t T2 O z (-1) ⟨(by decide:(-1:Int)<= -1),(by decide:(-1:Int)<=1)⟩ ⟨hz.1,by omega⟩ b2 b3 _ _ _ _ h1 h2)) ?_
 refine ax ?_
 refine xhq rfl (fun cd=>?_) (fun cd=>?_)
 ·refine ax ?_
  exact xdq Tryz.func129 rfl rfl fun _ H_=>K _ _ ⟨by rw [dryC,if_pos cc,dryV,if_pos cd,cc];rfl,H_.kept⟩
 refine ax ?_
 refine xul rfl rfl (fun _ pe=>xkq (by kernel_rfl) (c210 md pe _ _ _ _ _ _ t T2 O z 1 ⟨(by decide:(-1:Int)<=1),(by decide:(1:Int)<=1)⟩ ⟨hz.1,by omega⟩ b2 b3 _ _ _ _ h1 h2)) ?_
 refine ax ?_
 refine xhq rfl (fun ce=>?_) (fun ce=>?_)
 ·refine ax ?_
  exact xdq Tryz.func129 rfl rfl fun _ H_=>K _ _ ⟨by rw [dryC,if_pos cc,dryV,if_neg cd,if_pos ce,cc];rfl,H_.kept⟩
 refine ax ?_
 exact xdq Tryz.func129 rfl rfl fun _ H_=>K _ _ ⟨by rw [dryC,if_pos cc,dryV,if_neg cd,if_neg ce,cc];rfl,H_.kept⟩
end Go.Proofs.YtbphcmeebnkmdaaGreatDoor
namespace Go.X.Flow
open Go.X
theorem yxh {p:PHeap} {b:Nat} {t:TypeId} {z:Nat × Nat} (N:p b=some (.cells (tab64.map fun n=>Value.int .u8 ((n:Nat):Int)).toArray t z)) {i:Nat} (h:i<64):pcell p ((⟨b,0,none⟩:Addr).add (i*1))=some (.int .u8 ((tab64.getD i 0:Nat):Int)):=by
 have hl:tab64.length=64:=by decide
 unfold pcell
 rw [xjx,N]
 simp only [Option.isSome_none,Bool.false_eq_true,if_false,Nat.zero_add,Nat.mul_one,List.getElem?_toArray,List.getElem?_map]
 rw [List.getD_eq_getElem?_getD,List.getElem?_eq_getElem (by omega)];rfl
end Go.X.Flow
namespace Go.Proofs.YtbphcmeebnkmdaaGreatDoor
open Go.X Go.X.Flow Go.Conc
set_option maxRecDepth 20000
set_option synthInstance.maxSize 2000
theorem c286 (md:Md) (h:Heap) (p:PHeap) (hp:Per p h) (x:Nat) (hx:0<x/\x<64) {tT:TypeId} {zT:Nat × Nat} (Z:p 7=some (.cells (tab64.map fun n=>Value.int .u8 ((n:Nat):Int)).toArray tT zT)):
  CallsX Tryz.prog md 286 #[.int .u64 (x:Nat)] h fun v h'=>v= .int .i64 ((tzN x:Nat):Int)/\Keep h h':=by
 have tb:=yij (tzF x)
 refine xeq hp Tryz.func286 fun _ _ _ K=>?_
 refine ax ?_
 refine xhq rfl (fun cc=>absurd cc (by omega)) (fun cc=>?_)
 refine ax ?_
 refine yrb (a:=x) rfl (by omega) ?_
 refine xo8 (a:=x) (b:=18446744073709551616-x) rfl rfl rfl trivial trivial (by omega) ?_
 refine ynl (a:=x &&& (18446744073709551616-x)) (b:=285870213051353865) rfl rfl ?_
 refine xmm (a:=(x &&& (18446744073709551616-x))*285870213051353865 % 18446744073709551616) (s:=58) rfl rfl rfl trivial trivial (show _<=64 from by omega) ?_
 refine xd8 (len:=64) (e:=5) (i:=tzF x) (c:=⟨7,0,none⟩) (by kernel_rfl) rfl rfl (yib x) ?_
 refine xkk rfl (yxh Z (yib x)) ?_
 refine xzj (k':=.i64) ⟨_,Tryz.underlying5⟩ Tryz.underlying3 rfl (wrZ (by omega)) ?_
 refine ax ?_
 exact xdq Tryz.func286 rfl rfl fun _ H_=>K _ _ ⟨rfl,H_.kept⟩
theorem c250 (md:Md) (h:Heap) (p:PHeap) (hp:Per p h) (x:Nat) (hx:0<x/\x<64) {tT:TypeId} {zT:Nat × Nat} (Z:p 7=some (.cells (tab64.map fun n=>Value.int .u8 ((n:Nat):Int)).toArray tT zT)):
  CallsX Tryz.prog md 250 #[.int .u64 (x:Nat)] h fun v h'=>v= .int .i64 ((tzN x:Nat):Int)/\Keep h h':=by
 refine xeq hp Tryz.func250 fun _ _ _ K=>?_
 refine ax ?_
 refine xhq rfl (fun cc=>absurd cc (fun z=>z)) (fun cc=>?_)
 refine ax ?_
 refine xoq rfl rfl (fun _ pe=>c286 md _ _ pe x hx Z) ?_
 refine ax ?_
 exact xdq Tryz.func250 rfl rfl fun _ H_=>K _ _ ⟨rfl,H_.kept⟩
theorem c211 (md:Md) (h:Heap) (p:PHeap) (hp:Per p h) (g:Nat) (hg:g<64) {tT:TypeId} {zT:Nat × Nat} (Z:p 7=some (.cells (tab64.map fun n=>Value.int .u8 ((n:Nat):Int)).toArray tT zT)):
  CallsX Tryz.prog md 211 #[.int .u64 (g:Nat)] h fun v h'=>∃ Y,OwnS 3 1 v (ics (LG g)) Y/\New h h' Y:=by
 refine xeq hp Tryz.func211 fun _ _ _ K=>?_
 refine ax ?_
 refine xzv (LL':=[[]]) ?_ (fun h s=>s)
 refine xrq (fun m_ l p_ L_=>∃ (n q:Nat) (acc:List Int) (w:Value) (Y:Pcs),m_=q+1/\l=[(0,none,.int .u64 (q:Nat)),(3,none,w)]/\p_=p/\L_=[Y]/\q<64/\popL n q=true/\acc++listG n q=LG g/\OwnS 3 1 w (ics acc) Y) ⟨6,g,[],.slice none 0 0,[],rfl,rfl,rfl,rfl,hg,pop6 g hg,rfl,OwnS.empty _ _⟩ sb ?_
 rintro _ _ p _ IH ⟨n,q,acc,w,Y,rfl,rfl,rfl,rfl,hq,hpl,hl,o1⟩
 have hlen:acc.length<=6:=by have z:=congrArg List.length hl;simp only [List.length_append] at z;have z2:=xit g hg;omega
 refine ax ?_
 refine xhq rfl (fun cc=>?_) (fun cc=>?_)
 ·have hq0: ¬ q=0:=by omega
  obtain ⟨n',rfl⟩: ∃ n',n=n'+1:=by
   cases n with
   | zero=>exact absurd (xi9 hpl) hq0
   | succ n'=>exact ⟨n',rfl⟩
  have z:=Nat.and_le_right (n:=q) (m:=q-1)
  refine ax ?_
  refine xoq rfl rfl (fun _ pe=>c250 md _ _ pe q (by omega) Z) ?_
  refine xjz rfl fun v2 Y2 o2=>?_
  have o2:OwnS 3 1 v2 [[.int .i64 ((tzN q:Nat):Int)]] Y2:=o2
  refine xmh rfl rfl o1 o2 (xl0 rfl) (by rw [xmq];simp only [List.length_singleton];omega) fun v3 Y3 o3=>?_
  have o3:OwnS 3 1 v3 (ics (acc++[((tzN q:Nat):Int)])) Y3:=o3.as (ypv _ _)
  refine ax ?_
  refine xo8 (ss':=[]) (a:=q) (b:=q-1) rfl rfl (by show some ([],Value.int .u64 _)=_;rw [show ((q:Nat):Int)-1=((q-1:Nat):Int) by omega]) trivial trivial (by omega) ?_
  refine ax ?_
  exact xqq (IH _ _ _ (by omega) ⟨n',q &&& (q-1),acc++[((tzN q:Nat):Int)],v3,Y3,rfl,rfl,rfl,rfl,by omega,xj9 hpl hq0,by rw [List.append_assoc,List.singleton_append,<- xp5 hq0];exact hl,o3⟩)
 have hq0:q=0:=by omega
 subst hq0
 rw [xo5,List.append_nil] at hl
 refine ax ?_
 exact xdq Tryz.func211 rfl rfl fun _ H_=>K _ _ ⟨Y,o1.as (by rw [hl]),newR H_⟩
theorem c213 (md:Md) (h:Heap) (p:PHeap) (hp:Per p h) (a b:Option Addr) (m n c d:Nat) (xs ys:List Int) (A:Ints p a m xs) (B:Ints p b n ys) (hm:m<=100/\n<=100):
  CallsX Tryz.prog md 213 #[.slice a m c,.slice b n d] h fun v h'=>v= .int .i64 (cmpL xs ys)/\Keep h h':=by
 have hl1:=A.len
 have hl2:=B.len
 refine xeq hp Tryz.func213 fun _ _ _ K=>?_
 refine ax ?_
 refine xaz (fun m_ l=>∃ k:Nat,m_=m-k/\l=[(0,none,.slice a m c),(1,none,.slice b n d),(9,none,.slice a m c),(10,none,.int .i64 (m:Nat)),(11,none,.int .i64 (k:Nat))]/\(k<=m/\k<=n)/\cmpL (xs.drop k) (ys.drop k)=cmpL xs ys) ⟨0,rfl,rfl,⟨Nat.zero_le _,Nat.zero_le _⟩,by simp⟩ sb ?_
 rintro _ _ IH ⟨k,rfl,rfl,hk,hc⟩
 refine ax ?_
 refine xhq rfl (fun cc=>?_) (fun cc=>?_)
 ·refine ax ?_
  refine xhq rfl (fun cd=>?_) (fun cd=>?_)
  ·refine ax ?_
   exact xdq Tryz.func213 rfl rfl fun _ H_=>K _ _ ⟨congrArg (Value.int .i64) (by rw [<- hc];exact (yiz (by omega) (by omega)).symm),H_.kept⟩
  refine ax ?_
  refine xoq rfl rfl (fun _ pe=>c190 md _ _ pe (xs.getD k 0) (ys.getD k 0)) ?_
  refine ax ?_
  refine xhq rfl (fun ce=>?_) (fun ce=>?_)
  ·refine ax ?_
   exact xdq Tryz.func213 rfl rfl fun _ H_=>K _ _ ⟨congrArg (Value.int .i64) (by rw [<- hc,xct (by omega) (by omega),if_neg ce]),H_.kept⟩
  refine ax ?_
  exact xqq (IH _ (by omega) ⟨k+1,rfl,rfl,by omega,by rw [<- hc,xct (k:=k) (by omega) (by omega),if_pos (by omega)]⟩)
 refine ax ?_
 refine xhq rfl (fun cd=>?_) (fun cd=>?_)
 ·refine ax ?_
  exact xdq Tryz.func213 rfl rfl fun _ H_=>K _ _ ⟨congrArg (Value.int .i64) (by rw [<- hc];exact (yjz (by omega) (by omega)).symm),H_.kept⟩
 refine ax ?_
 exact xdq Tryz.func213 rfl rfl fun _ H_=>K _ _ ⟨congrArg (Value.int .i64) (by rw [<- hc];exact (ytw (by omega) (by omega)).symm),H_.kept⟩
end Go.Proofs.YtbphcmeebnkmdaaGreatDoor
namespace Go.X.Flow
end Go.X.Flow
namespace Go.Proofs.YtbphcmeebnkmdaaGreatDoor
open Go.X Go.X.Flow Go.Conc
set_option maxRecDepth 20000
set_option synthInstance.maxSize 2000
theorem c153 (md:Md) (h:Heap) (p:PHeap) (hp:Per p h) (fv:Value) (a:Option Addr) (n c:Nat) (xs:List FWay) (S:Wys p a n xs) (hn:n<=2 ^ 40) (q:FWay->Bool)
  (hf: ∀ h,Per p h-> ∀ i,i<n->CallV Tryz.prog md fv [.agg #[.int .i64 (xs.getD i wz).1,.int .i64 (xs.getD i wz).2]] h fun v h'=>v= .bool (q (xs.getD i wz))/\Keep h h'):
  CallsX Tryz.prog md 153 #[.slice a n c,fv] h fun v h'=>v= .int .i64 (idxA q xs)/\Keep h h':=by
 have hl:=S.len
 refine xeq hp Tryz.func153 fun _ _ _ K=>?_
 refine ax ?_
 refine xaz (fun m l=>∃ j:Nat,m=n-j/\l=[(0,none,.slice a n c),(1,none,fv),(7,none,.int .i64 n),(8,none,.int .i64 j)]/\j<=n/\ ∀ i,i<j->q (xs.getD i wz)=false) ⟨0,rfl,rfl,Nat.zero_le _,by omega⟩ sb ?_
 rintro _ _ IH ⟨j,rfl,rfl,hj,h1⟩
 refine ax ?_
 refine xhq rfl (fun cc=>?_) (fun cc=>?_)
 ·refine ax ?_
  refine xav rfl (S.all (by omega)) ?_
  refine xul rfl rfl (fun h_ pe=>hf h_ pe j (by omega)) ?_
  refine ax ?_
  refine xhq rfl (fun ce=>?_) (fun ce=>?_)
  ·refine ax ?_
   exact xdq Tryz.func153 rfl rfl fun h_ H_=>K _ _ ⟨by rw [idxA_some (z:=wz) (k:=j) (by omega) ce h1];rfl,H_.kept⟩
  ·refine ax ?_
   exact xqq (IH _ (by omega) ⟨j+1,rfl,rfl,by omega,upto_st h1 (by simpa using ce)⟩)
 refine ax ?_
 exact xdq Tryz.func153 rfl rfl fun h_ H_=>K _ _ ⟨by rw [idxA_none (z:=wz) (fun i hi=>h1 i (by omega))];rfl,H_.kept⟩
theorem c252 (md:Md) (h:Heap) (p:PHeap) (hp:Per p h) (fv:Value) (a:Option Addr) (n c:Nat) (xs:List FWay) (S:Wys p a n xs) (hn:n<=2 ^ 40) (q:FWay->Bool)
  (hf: ∀ h,Per p h-> ∀ i,i<n->CallV Tryz.prog md fv [.agg #[.int .i64 (xs.getD i wz).1,.int .i64 (xs.getD i wz).2]] h fun v h'=>v= .bool (q (xs.getD i wz))/\Keep h h'):
  CallsX Tryz.prog md 252 #[.slice a n c,fv] h fun v h'=>v= .bool (decide (0<=idxA q xs))/\Keep h h':=by
 refine xeq hp Tryz.func252 fun _ _ _ K=>?_
 refine ax ?_
 refine xoq rfl rfl (fun _ pe=>c153 md _ _ pe fv _ _ _ xs S hn q hf) ?_
 refine ax ?_
 exact xdq Tryz.func252 rfl rfl fun _ H_=>K _ _ ⟨rfl,H_.kept⟩
theorem c251 (md:Md) (h:Heap) (p:PHeap) (hp:Per p h) (x y gg w:Nat) (hx:x<=63) (hg:gg<64) (bW bG:Nat) (T1 T2:TypeId) (q1 q2:Nat × Nat) (hW:p bW=some (.cells #[.int .i64 (w:Nat)] T1 q1)) (hG:p bG=some (.cells #[.int .u64 (gg:Nat)] T2 q2)):
  CallsX Tryz.prog md 251 #[.agg #[.int .i64 (x:Nat),.int .i64 (y:Nat)],.pointer (some ⟨bW,0,none⟩),.pointer (some ⟨bG,0,none⟩)] h fun v h'=>v= .bool (shq gg w ((x:Int),(y:Int)))/\Keep h h':=by
 refine xeq hp Tryz.func251 fun _ _ _ K=>?_
 refine ax ?_
 refine xjq rfl fun b3=>?_
 refine ax ?_
 refine xmm (a:=gg) (s:=x) rfl rfl rfl sdu sdu (show _<=64 by omega) ?_
 refine xo8 (a:=gg / 2 ^ x) (b:=1) rfl rfl rfl sdu sdu ⟨Nat.lt_of_le_of_lt (Nat.div_le_self _ _) (by omega),by omega⟩ ?_
 refine ax ?_
 refine xdq Tryz.func251 rfl rfl fun _ H_=>K _ _ ⟨?_,H_.kept⟩
 refine congrArg Value.bool ?_
 simp only [shq,Int.toNat_natCast]
 rw [Bool.eq_iff_iff]
 simp only [Bool.and_eq_true,decide_eq_true_eq]
 omega
theorem yjp (md:Md) {h:Heap} {p:PHeap} (hp:Per p h) {g w:Nat} {x:FWay} (hx:0<=x.1/\x.1<=63/\0<=x.2) (hg:g<64) {bW bG:Nat} {T1 T2:TypeId} {q1 q2:Nat × Nat} (hW:p bW=some (.cells #[.int .i64 (w:Nat)] T1 q1)) (hG:p bG=some (.cells #[.int .u64 (g:Nat)] T2 q2)):
  CallsX Tryz.prog md 251 #[.agg #[.int .i64 x.1,.int .i64 x.2],.pointer (some ⟨bW,0,none⟩),.pointer (some ⟨bG,0,none⟩)] h fun v h'=>v= .bool (shq g w x)/\Keep h h':=by
 obtain ⟨a,b⟩:=x
 obtain ⟨a,rfl⟩:=Int.eq_ofNat_of_zero_le hx.1
 obtain ⟨b,rfl⟩:=Int.eq_ofNat_of_zero_le hx.2.2
 exact c251 md h p hp a b g w (by have:=hx.2.1;simp only at this;omega) hg bW bG _ _ _ _ hW hG
theorem c212 (md:Md) (h:Heap) (p:PHeap) (hp:Per p h) (a1 a2 a3:Option Addr) (c1 c2 c3:Nat) (t:Tn) (T:TownP p a1 t.nH a2 t.nW a3 t.m t) (O:OkT t) (g:Nat) (hgk:g<2 ^ t.nH) {tT:TypeId} {zT:Nat × Nat} (Z:p 7=some (.cells (tab64.map fun n=>Value.int .u8 ((n:Nat):Int)).toArray tT zT)):
  CallsX Tryz.prog md 212 #[.int .u64 (g:Nat),.agg #[.slice a1 t.nH c1,.slice a2 t.nW c2,.slice a3 t.m c3]] h fun v h'=>v= .bool (decide (0<shortN t g))/\Keep h h':=by
 have oH:=O.nh
 have oW:=O.nw
 have oM:=O.nm
 have hg64:g<64:=by have z:=ybc O.toOk;omega
 have hl6:=xit g hg64
 refine xeq hp Tryz.func212 fun _ _ _ K=>?_
 refine ax ?_
 refine xjq rfl fun b1=>?_
 refine ax ?_
 refine xjq rfl fun b3=>?_
 refine xyv (b:=b1) fun p1 le1 h1=>?_
 refine xyv (b:=b3) fun p2 le2 h3=>?_
 have h1:p2 b1=some (.cells #[.int .u64 (g:Nat)] _ (0,0)):=le2 _ _ h1
 have h3:p2 b3=some (.cells #[.slice a1 t.nH c1,.slice a2 t.nW c2,.slice a3 t.m c3] _ (0,0)):=h3
 have T:=TownP.mono T (le1.trans le2)
 have Z2:=le2 _ _ (le1 _ _ Z)
 clear Z
 refine ax ?_
 refine xxj rfl rfl (fun _ pe=>c211 md _ _ pe g hg64 Z2) ?_
 clear Z2
 intro v Y o
 refine xzw o (xmq _) fun p3 a n le3 ev D=>?_
 subst ev
 have T:=TownP.mono T le3
 have h1:=le3 _ _ h1
 have h3:=le3 _ _ h3
 have Th:=T.h
 have Tw:=T.w
 have D:Ints p3 a (LG g).length (LG g):=D
 refine ax ?_
 refine xaz (fun m_ l=>∃ k:Nat,m_=(LG g).length-k/\l=[(2,none,.pointer (some ⟨b1,0,none⟩)),(3,none,.pointer (some ⟨b3,0,none⟩)),(5,none,.int .i64 (wantG t g k)),(12,none,.slice a (LG g).length n),(13,none,.int .i64 ((LG g).length:Nat)),(14,none,.int .i64 (k:Nat))]/\k<=(LG g).length) ⟨0,rfl,rfl,Nat.zero_le _⟩ sb ?_
 rintro _ _ IH ⟨k,rfl,rfl,hk⟩
 have hwb:=ybj O.toOk hgk hk
 refine ax ?_
 refine xhq rfl (fun cc=>?_) (fun cc=>?_)
 ·have hlb:=yvh O.nh hgk k (by omega)
  have hvb:0<=t.hs.getD ((LG g).getD k 0).toNat 0/\t.hs.getD ((LG g).getD k 0).toNat 0<=9:=O.h _ (by omega)
  refine aw ?_
  refine xzr rfl rfl hlb.1 hlb.2 (Sl.ne Th (by omega)) ?_
  refine xkk rfl (Ints.get Th (by omega)) ?_
  refine ax ?_
  exact xqq (IH _ (by omega) ⟨k+1,rfl,rfl,by omega⟩)
 obtain rfl:k=(LG g).length:=by omega
 refine ax ?_
 refine xrq (fun m_ l p_ L_=>∃ (w:Nat) (s:Int),m_=t.nW-w/\l=[(2,none,.pointer (some ⟨b1,0,none⟩)),(3,none,.pointer (some ⟨b3,0,none⟩)),(5,none,.int .i64 s),(27,none,.slice a2 t.nW c2),(28,none,.int .i64 (t.nW:Nat)),(29,none,.int .i64 (w:Nat))]/\p_=p3/\L_=[]/\w<=t.nW/\s=wantG t g (LG g).length-reachG t g w) ⟨0,wantG t g (LG g).length,rfl,rfl,rfl,rfl,Nat.zero_le _,by simp [reachG,sm]⟩ sb ?_
 clear IH
 rintro _ _ p3 _ IH ⟨w,s,rfl,rfl,rfl,rfl,hw,hs⟩
 have hrb:=xhs O.toOk (g:=g) hw
 refine ax ?_
 refine xhq rfl (fun cc=>?_) (fun cc=>?_)
 ·have hwv:0<=t.ws.getD w 0/\t.ws.getD w 0<=21:=O.w w (by omega)
  refine ax ?_
  refine xiq fun b8=>?_
  refine ax ?_
  refine xyv (b:=b8) fun p4 le4 h8=>?_
  have T4:=TownP.mono T le4
  refine xoq rfl rfl (fun _ pe=>c252 md _ _ pe _ _ _ _ t.wy T4.y (by omega) (shq g w) (fun h_ pe i hi=>xkq (by kernel_rfl) (yjp md pe (ygp O hi) hg64 h8 (le4 _ _ h1)))) ?_
  refine ax ?_
  refine xhq rfl (fun ce=>?_) (fun ce=>?_)
  ·refine ax ?_
   refine xcv le4 ?_
   exact xqq (IH _ _ _ (by omega) ⟨w+1,s-t.ws.getD w 0,rfl,rfl,rfl,rfl,by omega,by rw [xj5 ce,hs];show _=_-(_+t.ws.getD w 0);omega⟩)
  ·refine ax ?_
   refine xcv le4 ?_
   exact xqq (IH _ _ _ (by omega) ⟨w+1,s,rfl,rfl,rfl,rfl,by omega,by rw [xz8 ce,hs]⟩)
 obtain rfl:w=t.nW:=by omega
 refine ax ?_
 refine xdq Tryz.func212 rfl rfl fun h_ H_=>K _ _ ⟨?_,H_.kept⟩
 rw [hs];rfl
end Go.Proofs.YtbphcmeebnkmdaaGreatDoor
namespace Go.X.Flow
theorem xdh {t:Tn}: ∀ {k:Nat},k<=64->(shortF t k).length<=6
  | 0,_=>by simp [shortF]
  | k+1,h=>by
    rw [shortF]
    split
    · exact xit k (by omega)
    · exact xdh (by omega)
end Go.X.Flow
namespace Go.Proofs.YtbphcmeebnkmdaaGreatDoor
open Go.X Go.X.Flow Go.Conc
set_option maxRecDepth 20000
set_option synthInstance.maxSize 2000
set_option maxHeartbeats 1000000 in
theorem c131 (md:Md) {h:Heap} {p:PHeap} (hp:Per p h) (a1 a2 a3:Option Addr) (c1 c2 c3:Nat) (t:Tn) (T:TownP p a1 t.nH a2 t.nW a3 t.m t) (hn:t.nH<=2 ^ 30/\t.nW<=2 ^ 30/\t.m<=2 ^ 30) {tT:TypeId} {zT:Nat × Nat} (Z:p 7=some (.cells (tab64.map fun n=>Value.int .u8 ((n:Nat):Int)).toArray tT zT)):
    CallsX Tryz.prog md 131 #[.agg #[.slice a1 t.nH c1,.slice a2 t.nW c2,.slice a3 t.m c3]] h fun v h'=>∃ Y,(∃ w,v= .tuple #[w,.int .i64 (shortE t)]/\OwnS 3 1 w (ics (shortC t)) Y)/\New h h' Y:=by
  obtain ⟨tab,htab⟩: ∃ tab,tab=tab64:=⟨_,rfl⟩
  rw [<- htab] at Z
  refine xeq hp Tryz.func131 fun _ _ _ K=>?_
  refine ax ?_
  refine xjq rfl fun b1=>?_
  refine ax ?_
  refine xoq rfl rfl (fun _ pe=>c55 md _ _ pe _ _ _ _ _ _ t T hn) ?_
  refine ax ?_
  refine xhq rfl (fun cc=>?_) (fun cc=>?_)
  · refine ax ?_
    refine xzv (LL':=[[]]) ?_ (fun h s=>s.sub (List.nil_sublist _))
    exact xdq Tryz.func131 rfl rfl fun _ H_=>K _ _ ⟨[],⟨.slice none 0 0,by rw [xl7 cc];rfl,(OwnS.empty _ _).as (by rw [xm7 cc];rfl)⟩,newR H_⟩
  have cc:=Classical.not_not.1 cc
  have O:OkT t:=xrm cc
  have oH:=O.nh
  have hp64:=ybc O.toOk
  refine ax ?_
  refine ygl (s:=t.nH) rfl rfl (by omega) ?_
  refine xyv (b:=b1) fun p1 le1 h1=>?_
  have T:=TownP.mono T le1
  have Z:=le1 _ _ Z
  refine ax ?_
  refine xzv (LL':=[[]]) ?_ (fun h s=>s)
  refine xrq (fun m_ l p_ L_=>∃ (k:Nat) (w:Value) (Y:Pcs),m_=2 ^ t.nH-k/\l=[(1,none,.pointer (some ⟨b1,0,none⟩)),(5,none,w),(16,none,.int .u64 ((2 ^ t.nH:Nat):Int)),(17,none,.int .u64 (k:Nat))]/\p_=p1/\L_=[Y]/\k<=2 ^ t.nH/\OwnS 3 1 w (ics (shortF t k)) Y/\(shortF t k=[]->w= .slice none 0 0)) ⟨0,.slice none 0 0,[],rfl,rfl,rfl,rfl,Nat.zero_le _,OwnS.empty _ _,fun _=>rfl⟩ sb ?_
  rintro _ _ p1 _ IH ⟨k,w,Y,rfl,rfl,rfl,rfl,hk,o1,hw⟩
  refine ax ?_
  refine xhq rfl (fun cd=>?_) (fun cd=>?_)
  · have hk2:k<2 ^ t.nH:=by omega
    have hk64:k<64:=by omega
    have hlL:=xit k hk64
    have hlF:(shortF t k).length<=6:=xdh (by omega)
    refine ax ?_
    refine xxj rfl rfl (fun _ pe=>c211 md _ _ pe k hk64 (by rw [<- htab];exact Z)) ?_
    intro v7 Y7 o7
    obtain ⟨a7,c7,rfl,-⟩:=o7.val
    rw [xmq] at o7 ⊢
    obtain ⟨a5,c5,rfl,hne⟩:=o1.val
    rw [xmq] at o1 hw ⊢
    refine ax ?_
    by_cases hs:0<shortN t k
    · refine xoq (v:=.bool true) rfl rfl (fun _ pe=>(c212 md _ _ pe _ _ _ _ _ _ t T O k hk2 (by rw [<- htab];exact Z)).mono fun v h' e=>⟨e.1.trans (by rw [decide_eq_true hs]),e.2⟩) ?_
      by_cases hb:shortF t k=[]
      · have e:=hw hb
        injection e with e1 e2 e3
        subst e1
        refine ax ?_
        refine xih rfl rfl sdu ?_
        refine ax ?_
        refine xgh (.int .i64 0) rfl ?_
        refine xgh (.int .i64 0) rfl ?_
        refine xgh (.int .i64 0) rfl ?_
        refine ax ?_
        refine xhq rfl (fun ce=>?_) (fun ce=>absurd (by simp) ce)
        refine ax ?_
        exact xqq (IH _ _ _ (by omega) ⟨k+1,_,Y7,rfl,rfl,rfl,rfl,by omega,o7.as (by rw [xsb hs (.inl hb)]),fun z=>absurd (by rw [<- xsb hs (.inl hb)];exact z) (xqr O.toOk hs)⟩)
      · have hl5:0<(shortF t k).length:=List.length_pos_iff.2 hb
        cases a5 with
        | none=>exact absurd (hne (by rw [xmq];exact hl5)) (by simp)
        | some ad=>
          refine ax ?_
          refine xih rfl rfl sdu ?_
          refine ax ?_
          refine yul (v:=.int .i64 (cmpL (LG k) (shortF t k))) rfl rfl trivial rfl (by simp [AllP]) (fun h s=>ypp o7 (xmq _) o1 (xmq _) s (by simp) fun p' a cap a' cap' hp' le e e' S S'=>by
            cases e;cases e'
            exact c213 md h p' hp' _ _ _ _ _ _ (LG k) (shortF t k) S S' ⟨by omega,by omega⟩) ?_
          refine ax ?_
          refine xm8 rfl rfl (by simp [AllP]) fun v8 Y8 o8=>?_
          have o8:OwnS 3 1 v8 (ics [((LG k).length:Int)-((shortF t k).length:Int),cmpL (LG k) (shortF t k)]) Y8:=o8
          refine xzw (m:=2) o8 rfl fun p2 a8 c8 le ev D=>?_
          subst ev
          refine xex (g:=some true) rfl rfl rfl (fun _=>by simp [AllP]) (fun _ _ pe=>c189 md _ _ pe _ _ _ _ D (by omega)) ?_
          refine ax ?_
          refine xhq rfl (fun ce=>?_) (fun ce=>?_)
          · have hpr:prec (LG k) (shortF t k):=by simpa using ce
            refine ax ?_
            refine xcv le ?_
            exact xqq (IH _ _ _ (by omega) ⟨k+1,_,Y7,rfl,rfl,rfl,rfl,by omega,o7.as (by rw [xsb hs (.inr hpr)]),fun z=>absurd (by rw [<- xsb hs (.inr hpr)];exact z) (xqr O.toOk hs)⟩)
          · have hpr: ¬ prec (LG k) (shortF t k):=fun z=>ce (by simpa using z)
            refine ax ?_
            refine xcv le ?_
            exact xqq (IH _ _ _ (by omega) ⟨k+1,_,Y,rfl,rfl,rfl,rfl,by omega,o1.as (by rw [xjm hb hpr]),fun z=>absurd (by rw [<- xjm hb hpr];exact z) hb⟩)
    · refine xoq (v:=.bool false) rfl rfl (fun _ pe=>(c212 md _ _ pe _ _ _ _ _ _ t T O k hk2 (by rw [<- htab];exact Z)).mono fun v h' e=>⟨e.1.trans (by rw [decide_eq_false hs]),e.2⟩) ?_
      refine ax ?_
      refine xih rfl rfl sdu ?_
      refine ax ?_
      refine xgh (.int .i64 0) rfl ?_
      refine xgh (.int .i64 0) rfl ?_
      refine xgh (.int .i64 0) rfl ?_
      refine ax ?_
      refine xhq rfl (fun ce=>absurd ce (by simp)) (fun ce=>?_)
      refine ax ?_
      exact xqq (IH _ _ _ (by omega) ⟨k+1,_,Y,rfl,rfl,rfl,rfl,by omega,o1.as (by rw [xkm hs]),fun z=>hw (by rw [<- xkm hs];exact z)⟩)
  have hke:k=2 ^ t.nH:=by omega
  have eP:shortF t k=shortP t:=by rw [hke];rfl
  rw [eP] at o1 hw
  obtain ⟨a5,c5,rfl,hne⟩:=o1.val
  rw [xmq] at o1 hw ⊢
  by_cases hb:shortP t=[]
  · have e:=hw hb
    injection e with e1 e2 e3
    subst e1
    refine ax ?_
    refine xih rfl rfl trivial ?_
    refine ax ?_
    refine xhq rfl (fun ce=>?_) (fun ce=>absurd (by simp) ce)
    refine ax ?_
    refine xzv (LL':=[[]]) ?_ (fun h s=>s.sub (List.nil_sublist _))
    exact xdq Tryz.func131 rfl rfl fun _ H_=>K _ _ ⟨[],⟨.slice none 0 0,by rw [yqj cc hb];rfl,(OwnS.empty _ _).as (by rw [xhf cc,hb];rfl)⟩,newR H_⟩
  · cases a5 with
    | none=>exact absurd (hne (by rw [xmq];exact List.length_pos_iff.2 hb)) (by simp)
    | some ad=>
      refine ax ?_
      refine xih rfl rfl trivial ?_
      refine ax ?_
      refine xhq rfl (fun ce=>absurd ce (by simp)) (fun ce=>?_)
      refine ax ?_
      exact xdq Tryz.func131 rfl rfl fun _ H_=>K _ _ ⟨Y,⟨_,by rw [yrj cc hb];rfl,o1.as (by rw [xhf cc])⟩,newR H_⟩
end Go.Proofs.YtbphcmeebnkmdaaGreatDoor
