/-
  Part of proofs about a town's master: a calculus for walks beside goroutines that are only leaving, and the walks. No condition.
-/
import Derived.Test.YtjcakmlipohaeaaGreatDoorGS
set_option maxRecDepth 20000
set_option synthInstance.maxSize 2000
namespace Go.Proofs.YtjcakmlipohaeaaGreatDoor
open Go.Proofs.Tryz
open Go.X Go.X.Flow Go.Conc
theorem c108(md:Md)(h:Heap)(p:PHeap)(hp:Per p h)(n lo hi:Int):CallsX prog md 108 #[.int .i64 n,.int .i64 lo,.int .i64 hi] h fun v h'=>v=.bool (decide (lo<=n/\n<=hi))/\Keep h h':=by
 refine xax hp func108 fun _ _ _ K=>?_
 refine aw ?_
 exact K.r rfl rfl fun _ H_=>⟨congrArg _ (bpe Iff.rfl),H_.kept⟩
theorem c107(md:Md)(h:Heap)(p:PHeap)(hp:Per p h)(n:Int):CallsX prog md 107 #[.int .i64 n] h fun v h'=>v=.bool (badN 9 n)/\Keep h h':=by
 refine xax hp func107 fun _ _ _ K=>?_
 refine aw ?_
 refine xlq rfl rfl (fun _ pe=>c108 md _ _ pe _ _ _) ?_
 refine aw ?_
 exact K.r rfl rfl fun _ H_=>⟨rfl,H_.kept⟩
theorem c109(md:Md)(h:Heap)(p:PHeap)(hp:Per p h)(n:Int):CallsX prog md 109 #[.int .i64 n] h fun v h'=>v=.bool (badN 20 n)/\Keep h h':=by
 refine xax hp func109 fun _ _ _ K=>?_
 refine aw ?_
 refine xlq rfl rfl (fun _ pe=>c108 md _ _ pe _ _ _) ?_
 refine aw ?_
 exact K.r rfl rfl fun _ H_=>⟨rfl,H_.kept⟩
theorem c226(md:Md)(h:Heap)(p:PHeap)(hp:Per p h)(n:Int):CallsX prog md 226 #[.int .i64 n] h fun v h'=>v=.bool false/\Keep h h':=by
 refine xax hp func226 fun _ _ _ K=>?_
 refine aw ?_
 exact K.r rfl rfl fun _ H_=>⟨congrArg _ (decide_eq_false fun z=>z rfl),H_.kept⟩
theorem c135(md:Md)(h:Heap)(p:PHeap)(hp:Per p h)(x y:Int):CallsX prog md 135 #[.int .i64 x,.int .i64 y] h fun v h'=>v=.int .i64 (cmpI x y)/\Keep h h':=by
 refine xax hp func135 fun _ _ _ K=>?_
 refine aw ?_
 refine xlq rfl rfl (fun _ pe=>c226 md _ _ pe _) ?_
 refine aw ?_
 refine xlq rfl rfl (fun _ pe=>c226 md _ _ pe _) ?_
 refine aw ?_
 refine xiq rfl (fun cc=>absurd cc (fun z=>z)) (fun cc=>?_)
 refine aw ?_
 refine xiq rfl (fun cc=>absurd cc (fun z=>z)) (fun cc=>?_)
 refine aw ?_
 refine xiq rfl (fun cd=>?_) (fun cd=>?_)
 ·refine aw ?_
  exact K.r rfl rfl fun _ H_=>⟨by rw[cmpI,if_pos cd];rfl,H_.kept⟩
 refine aw ?_
 refine xiq rfl (fun ce=>?_) (fun ce=>?_)
 ·refine aw ?_
  exact K.r rfl rfl fun _ H_=>⟨by rw[cmpI,if_neg cd,if_pos ce];rfl,H_.kept⟩
 refine aw ?_
 exact K.r rfl rfl fun _ H_=>⟨by rw[cmpI,if_neg cd,if_neg ce];rfl,H_.kept⟩
theorem c76(md:Md)(h:Heap)(p:PHeap)(hp:Per p h)(a:Option Addr)(n c:Nat)(xs:List Int)(S:Ints p a n xs)(hn:n<=2^40):CallsX prog md 76 #[.slice a n c] h fun v h'=>v=.int .i64 (orI xs)/\Keep h h':=by
 have hl:=S.len
 refine xax hp func76 fun _ _ _ K=>?_
 refine aw ?_
 refine xbz (fun m l=>∃j:Nat,m=n-j/\l=[(3,none,.int .i64 0),(6,none,.slice a n c),(7,none,.int .i64 n),(8,none,.int .i64 j)]/\j<=n/\ ∀i,i<j->xs.getD i 0=0) ⟨0,rfl,rfl,Nat.zero_le _,om⟩ sb ?_
 rintro _ _ IH ⟨j,rfl,rfl,hj,h1⟩
 refine aw ?_
 refine xiq rfl (fun cc=>?_) (fun cc=>?_)
 ·refine aw ?_
  refine xiq rfl (fun ce=>?_) (fun ce=>?_)
  ·refine aw ?_
   exact K.r rfl rfl fun _ H_=>⟨by rw[ypf (k:=j) om h1 ce];rfl,H_.kept⟩
  ·refine aw ?_
   exact xnq (IH _ om ⟨j+1,rfl,rfl,om,upto_st h1 (Classical.not_not.1 ce)⟩)
 refine aw ?_
 exact K.r rfl rfl fun _ H_=>⟨by rw[ywx fun i hi=>h1 i om];rfl,H_.kept⟩
theorem c110(md:Md)(h:Heap)(p:PHeap)(hp:Per p h)(a b c d:Int):CallsX prog md 110 #[.agg #[.int .i64 a,.int .i64 b],.agg #[.int .i64 c,.int .i64 d]] h fun v h'=>v=.int .i64 (ordW a b c d)/\Keep h h':=by
 refine xax hp func110 fun _ _ _ K=>?_
 refine aw ?_
 refine xjq rfl fun b1=>?_
 refine xjq rfl fun b2=>?_
 refine aw ?_
 refine xjx [] R9 ?_
 refine ae ?_
 refine xiz rfl rfl rfl (fun _ pe=>c135 md _ _ pe _ _) ?_
 refine ae ?_
 refine xlq rfl rfl (fun _ pe=>c135 md _ _ pe _ _) ?_
 refine xdz rfl fun v Y o=>?_
 have o:OwnS 3 1 v [[.int .i64 (cmpI a c)],[.int .i64 (cmpI b d)]] Y:=o
 refine xbx o (m:=2) rfl (by decide) fun p' b3 c3 g e3 hc3 F=>?_
 subst e3
 refine xlq rfl rfl (fun _ pe=>c76 md _ _ pe _ _ _ [cmpI a c,cmpI b d] F (by decide)) ?_
 refine aw ?_
 exact K.r rfl rfl fun _ H_=>⟨rfl,H_.kept⟩
theorem c69(md:Md)(h:Heap)(p:PHeap)(hp:Per p h)(a1 a2 a3:Option Addr)(n1 n2 n3 c1 c2 c3:Nat)(hn:n1<=2^40)(x:Int):
 CallsX prog md 69 #[.agg #[.slice a1 n1 c1,.slice a2 n2 c2,.slice a3 n3 c3],.int .i64 x] h fun v h'=>v=.bool (decide (0<=x/\x<=(n1:Int)-1))/\Keep h h':=by
 refine xax hp func69 fun _ _ _ K=>?_
 refine aw ?_
 refine xjq rfl fun b1=>?_
 refine aw ?_
 refine xlq rfl rfl (fun _ pe=>c108 md _ _ pe _ _ _) ?_
 refine aw ?_
 exact K.r rfl rfl fun _ H_=>⟨rfl,H_.kept⟩
theorem c72(md:Md)(h:Heap)(p:PHeap)(hp:Per p h)(a1 a2 a3:Option Addr)(n1 n2 n3 c1 c2 c3:Nat)(hn:n2<=2^40)(x:Int):
 CallsX prog md 72 #[.agg #[.slice a1 n1 c1,.slice a2 n2 c2,.slice a3 n3 c3],.int .i64 x] h fun v h'=>v=.bool (decide (0<=x/\x<=(n2:Int)-1))/\Keep h h':=by
 refine xax hp func72 fun _ _ _ K=>?_
 refine aw ?_
 refine xjq rfl fun b1=>?_
 refine aw ?_
 refine xlq rfl rfl (fun _ pe=>c108 md _ _ pe _ _ _) ?_
 refine aw ?_
 exact K.r rfl rfl fun _ H_=>⟨rfl,H_.kept⟩
theorem xx8{t:Tn}{j:Nat}:((¬ (0<=(t.wy.getD j wz).1/\(t.wy.getD j wz).1<=(t.nH:Int)-1)\/ ¬ (0<=(t.wy.getD j wz).2/\(t.wy.getD j wz).2<=(t.nW:Int)-1))\/(0<(j:Int)/\0<=ordW (t.wy.getD ((j:Int)-1).toNat wz).1 (t.wy.getD ((j:Int)-1).toNat wz).2 (t.wy.getD j wz).1 (t.wy.getD j wz).2))<-> ¬ YOk t j:=by
 unfold YOk
 rw[yfb]
 constructor
 ·rintro((z|z)|⟨z1,z2⟩) ⟨y1,y2,y3⟩
  ·exact z y1
  ·exact z y2
  ·exact z2 (y3 om)
 ·intro z
  refine Classical.byContradiction fun n=>z ?_
  have n1:=not_or.1 n
  have n2:=not_or.1 n1.1
  exact⟨Classical.not_not.1 n2.1,Classical.not_not.1 n2.2,fun h0=>Classical.not_not.1 fun b=>n1.2 ⟨om,b⟩⟩
theorem c53(md:Md)(h:Heap)(p:PHeap)(hp:Per p h)(a1 a2 a3:Option Addr)(c1 c2 c3:Nat)(t:Tn)(T:TownP p a1 t.nH a2 t.nW a3 t.m t)(hn:t.nH<=2^30/\t.nW<=2^30/\t.m<=2^30):
 CallsX prog md 53 #[.agg #[.slice a1 t.nH c1,.slice a2 t.nW c2,.slice a3 t.m c3]] h fun v h'=>v=.int .i64 (chkB t)/\Keep h h':=by
 have Th:=T.h
 have Tw:=T.w
 refine xax hp func53 fun _ _ _ K=>?_
 refine aw ?_
 refine xjq rfl fun b1=>?_
 refine aw ?_
 refine xiq rfl (fun cc=>?_) (fun cc=>?_)
 ·refine aw ?_
  exact K.r rfl rfl fun _ H_=>⟨by rw[chkB_no fun z=>by have:=z.1;have:=z.2.nh;have:=z.2.nw;omega];rfl,H_.kept⟩
 refine aw ?_
 refine xlq rfl rfl (fun _ pe=>c106 md _ _ pe _ _ _ _ _ T.h om (badN 9) fun _ pe _ _=>xgq (by kernel_rfl) (c107 md _ _ pe _)) ?_
 refine aw ?_
 refine xvq rfl rfl rfl sdt (fun _ _ pe=>c106 md _ _ pe _ _ _ _ _ T.w om (badN 20) fun _ pe _ _=>xgq (by kernel_rfl) (c109 md _ _ pe _)) ?_
 refine aw ?_
 refine xiq rfl (fun cd=>?_) (fun cd=>?_)
 ·refine aw ?_
  exact K.r rfl rfl fun _ H_=>⟨by rw[chkB_no fun z=>cd.elim (fun y=>yfv y z.2.h) (fun y=>yfv y z.2.w)];rfl,H_.kept⟩
 refine aw ?_
 refine xpq (fun m l p_ L_=>∃(j:Nat)(A:List Pcs),m=t.m-j/\l=[(1,none,.pointer (some ⟨b1,0,none⟩)),(30,none,.slice a3 t.m c3),(31,none,.int .i64 t.m),(32,none,.int .i64 j)]/\p_=p/\L_=[[(b1,.cells #[.slice a1 t.nH c1,.slice a2 t.nW c2,.slice a3 t.m c3] 28 (0,0))]]/\j<=t.m/\ ∀i,i<j->YOk t i) ⟨0,[],rfl,rfl,rfl,rfl,Nat.zero_le _,om⟩ sb ?_
 rintro _ _ _ _ IH ⟨j,A,rfl,rfl,rfl,rfl,hj,h1⟩
 refine aw ?_
 refine xiq rfl (fun ce=>?_) (fun ce=>?_)
 ·refine aw ?_
  refine xm7 rfl rfl om (T.y.ne om) ?_
  refine xqk rfl (T.y.all om) ?_
  refine xtq fun b2=>?_
  refine aw ?_
  refine xjx [] R23 ?_
  refine ae ?_
  refine xiz rfl rfl rfl (fun _ pe=>c69 md _ _ pe _ _ _ _ _ _ _ _ _ om _) ?_
  refine ae ?_
  refine xak rfl rfl rfl rfl sdt (fun _ _ pe=>c72 md _ _ pe _ _ _ _ _ _ _ _ _ om _) ?_
  refine ae ?_
  refine xsj rfl rfl rfl rfl sdt sdt (gd2 fun _ hq=>⟨om,T.y.ne om⟩) ?_
  refine xbb rfl rfl rfl sdt (gd2 fun _ hq=>T.y.all om) ?_
  refine ae ?_
  refine xvq rfl rfl rfl sdt (fun _ _ pe=>c110 md _ _ pe _ _ _ _) ?_
  refine aw ?_
  refine xiq rfl (fun cf=>?_) (fun cf=>?_)
  ·refine aw ?_
   exact K.r rfl rfl fun _ H_=>⟨by rw[chkB_no fun z=>xx8.1 cf (z.2.y j om)];rfl,H_.kept⟩
  refine aw ?_
  exact xnq (IH _ _ _ om ⟨j+1,[],rfl,rfl,rfl,rfl,om,upto_st h1 (Classical.not_not.1 fun z=>cf (xx8.2 z))⟩)
 refine aw ?_
 have e1:t.hs.length=t.nH:=rfl
 have e2:t.ws.length=t.nW:=rfl
 exact K.r rfl rfl fun _ H_=>⟨by rw[chkB_yes om ⟨om,om,fun i hi=>xt6 (fun z=>cd (.inl z)) i hi,fun i hi=>xt6 (fun z=>cd (.inr z)) i hi,fun i hi=>h1 i om⟩];rfl,H_.kept⟩
theorem c68(md:Md)(h:Heap)(p:PHeap)(hp:Per p h)(a1 a2 a3:Option Addr)(c1 c2 c3:Nat)(t:Tn)(T:TownP p a1 t.nH a2 t.nW a3 t.m t)(hn:t.nH<=2^30/\t.nW<=2^30/\t.m<=2^30)(b:Bool):
 CallsX prog md 68 #[.agg #[.slice a1 t.nH c1,.slice a2 t.nW c2,.slice a3 t.m c3],.bool b] h fun v h'=>v=.int .i64 (askB t b)/\Keep h h':=by
 refine xax hp func68 fun _ _ _ K=>?_
 refine aw ?_
 refine xjq rfl fun b1=>?_
 refine aw ?_
 refine xlq rfl rfl (fun _ pe=>c53 md _ _ pe _ _ _ _ _ _ t T hn) ?_
 refine aw ?_
 refine xiq rfl (fun cc=>?_) (fun cc=>?_)
 ·refine aw ?_
  have e:chkB t=30:=by rcases chkB_cases t with z|z;exact absurd z.1 cc;exact z.1
  exact K.r rfl rfl fun _ H_=>⟨by rw[askB,if_neg cc,e];rfl,H_.kept⟩
 have cc:=Classical.not_not.1 cc
 refine aw ?_
 refine xiq rfl (fun cd=>?_) (fun cd=>?_)
 ·refine aw ?_
  exact K.r rfl rfl fun _ H_=>⟨by rw[askB,if_pos cc,if_neg cd];rfl,H_.kept⟩
 refine aw ?_
 exact K.r rfl rfl fun _ H_=>⟨by rw[askB,if_pos cc,if_pos (Classical.not_not.1 cd)];rfl,H_.kept⟩
theorem xfs(xs:List Int):∀u∈(ics xs).flatten,isOne u=true:=yxz xs
theorem c128(md:Md)(h:Heap)(p:PHeap)(hp:Per p h)(a:Option Addr)(n c:Nat)(xs:List Int)(S:Ints p a n xs)(hn:n<=2^20):
 CallsX prog md 128 #[.slice a n c] h fun v h'=>∃Y,OwnS 3 1 v (ics xs) Y/\New h h' Y:=by
 have hl:=S.len
 refine xax hp func128 fun _ _ _ K=>?_
 refine aw ?_
 refine xut rfl ?_
 refine aw ?_
 refine xiq rfl (fun cc=>?_) (fun cc=>?_)
 ·refine aw ?_
  have e:xs=[]:=by
   by_cases h0:0<n
   ·rw[S.ne h0]at cc;cases cc
   ·exact List.eq_nil_of_length_eq_zero om
  subst e
  refine xfb 3 1 fun o=>?_
  exact K.r rfl rfl fun _ H_=>⟨_,o,newR H_⟩
 refine aw ?_
 refine xdz rfl fun v Y o=>?_
 refine aw ?_
 refine xhh rfl rfl o S (xfs xs) (by simp[chs];omega) (fun v' Y' o'=>?_)
 refine aw ?_
 exact K.r rfl rfl fun _ H_=>⟨_,o',newR H_⟩
theorem c54(md:Md)(h:Heap)(p:PHeap)(hp:Per p h)(a:Option Addr)(n c:Nat)(xs:List Int)(S:Ints p a n xs)(hn:n<=100)(hx:∀i,i<n->0<=xs.getD i 0/\xs.getD i 0<=1000):
 CallsX prog md 54 #[.slice a n c] h fun v h'=>v=.int .i64 (sm n (dv xs))/\Keep h h':=by
 refine xax hp func54 fun _ _ _ K=>?_
 refine aw ?_
 refine xbz (fun m l=>∃j:Nat,m=n-j/\l=[(3,none,.int .i64 (sm j (dv xs))),(6,none,.slice a n c),(7,none,.int .i64 n),(8,none,.int .i64 j)]/\j<=n/\0<=sm j (dv xs)/\sm j (dv xs)<=1000*j) ⟨0,rfl,rfl,Nat.zero_le _,by simp[sm],by simp[sm]⟩ sb ?_
 rintro _ _ IH ⟨j,rfl,rfl,hj,h0,h1⟩
 refine aw ?_
 refine xiq rfl (fun cc=>?_) (fun cc=>?_)
 ·have hj2:=hx j om
  refine aw ?_
  exact xnq (IH _ om ⟨j+1,rfl,rfl,om,by rw[sm];unfold dv;unfold dv at h0;omega,by rw[sm];unfold dv;unfold dv at h1;omega⟩)
 obtain rfl:j=n:=om
 refine aw ?_
 exact K.r rfl rfl fun _ H_=>⟨rfl,H_.kept⟩
theorem ymz{vs:List Int}{g:Nat->Nat}{d:List Int}{j:Nat}{z:Int}(hz:z.toNat=g j)(hg:g j<vs.length)(x:Int)(hx:x=(leftK vs g d j).getD (g j) 0-dv d j):(ics (leftK vs g d j)).set z.toNat (setl [.int .i64 ((leftK vs g d j).getD (g j) 0)] 0 [.int .i64 x])=ics (leftK vs g d (j+1)):=by
 subst hx
 rw[hz,<- xy7 hg]
 exact ics_set
theorem c71(md:Md)(h:Heap)(p:PHeap)(hp:Per p h)(a1 a2 a3:Option Addr)(c1 c2 c3:Nat)(t:Tn)(T:TownP p a1 t.nH a2 t.nW a3 t.m t)(b:Option Addr)(m cb:Nat)(d:List Int)(D:Ints p b m d)(hn:t.nH<=40/\t.nW<=40)(hm:m<=t.m/\t.m<=13)(hd:∀i,i<m->0<=dv d i/\dv d i<=20)(hh:∀i,i<t.nH-> -100<=t.hs.getD i 0/\t.hs.getD i 0<=100)
 (hw:∀i,i<t.nW-> -100<=t.ws.getD i 0/\t.ws.getD i 0<=100)(hy:∀i,i<t.m->(0<=(t.wy.getD i wz).1/\(t.wy.getD i wz).1.toNat<t.nH)/\0<=(t.wy.getD i wz).2/\(t.wy.getD i wz).2.toNat<t.nW):
 CallsX prog md 71 #[.agg #[.slice a1 t.nH c1,.slice a2 t.nW c2,.slice a3 t.m c3],.slice b m cb] h fun v h'=>∃Y,(∃w1 w2 Y1 Y2,v=.tuple #[w1,w2]/\OwnS 3 1 w1 (ics (leftK t.hs t.wh d m)) Y1/\OwnS 3 1 w2 (ics (leftK t.ws t.ww d m)) Y2/\Y=Y1++Y2)/\New h h' Y:=by
 have hlh:t.hs.length=t.nH:=rfl
 have hlw:t.ws.length=t.nW:=rfl
 refine xax hp func71 fun _ _ _ K=>?_
 refine aw ?_
 refine xjq rfl fun b1=>?_
 refine aw ?_
 refine xjx [2] [0,1,3,4,2] ?_
 refine ae ?_
 refine xqv rfl rfl rfl (fun _ pe=>c128 md _ _ pe _ _ _ _ T.h om) fun v1 Y1 o1=>?_
 refine ae ?_
 refine xck rfl rfl (fun _ pe=>c128 md _ _ pe _ _ _ _ T.w om) fun v2 Y2 o2=>?_
 refine aw ?_
 refine xpq (fun m_ l p_ L_=>∃(j:Nat)(Z1 Z2:Pcs),m_=m-j/\l=[(2,none,.pointer (some ⟨b1,0,none⟩)),(4,none,v1),(5,none,v2),(14,none,.slice b m cb),(15,none,.int .i64 m),(16,none,.int .i64 j)]/\p_=p/\L_=[Z2,[(b1,.cells #[.slice a1 t.nH c1,.slice a2 t.nW c2,.slice a3 t.m c3] 28 (0,0))],Z1]/\j<=m/\
  OwnS 3 1 v1 (ics (leftK t.hs t.wh d j)) Z1/\OwnS 3 1 v2 (ics (leftK t.ws t.ww d j)) Z2) ⟨0,Y1,Y2,rfl,rfl,rfl,rfl,Nat.zero_le _,by rw[xgp];exact o1,by rw[xgp];exact o2⟩ sb ?_
 rintro _ _ _ _ IH ⟨j,Z1,Z2,rfl,rfl,rfl,rfl,hj,o1,o2⟩
 refine aw ?_
 refine xiq rfl (fun cc=>?_) (fun cc=>?_)
 ·have hyj:=hy j om
  have hdj:=hd j om
  have e1:(t.wy.getD j wz).1.toNat=t.wh j:=rfl
  have e2:(t.wy.getD j wz).2.toNat=t.ww j:=rfl
  have hb1:=xkm (g:=t.wh) (d:=d) (k:=j) (h:=t.wh j) (fun i hi=>hd i om)
  have hb2:=xkm (g:=t.ww) (d:=d) (k:=j) (h:=t.ww j) (fun i hi=>hd i om)
  have g1:=xzk (vs:=t.hs) (g:=t.wh) (d:=d) (k:=j) (h:=t.wh j) om
  have g2:=xzk (vs:=t.ws) (g:=t.ww) (d:=d) (k:=j) (h:=t.ww j) om
  have hh1:=hh (t.wh j) om
  have hw1:=hw (t.ww j) om
  have i1:(ics (leftK t.hs t.wh d j))[(t.wy.getD j wz).1.toNat]?=some [.int .i64 ((leftK t.hs t.wh d j).getD (t.wh j) 0)]:=ics_at (by rw[xxx];omega)
  have i2:(ics (leftK t.ws t.ww d j))[(t.wy.getD j wz).2.toNat]?=some [.int .i64 ((leftK t.ws t.ww d j).getD (t.ww j) 0)]:=ics_at (by rw[xxx];omega)
  have hdj2:dv d j=d.getD j 0:=rfl
  refine aw ?_
  refine xm7 rfl rfl om (T.y.ne om) ?_
  refine aw ?_
  refine xvk rfl (T.y.at om (j:=0) rfl) ?_
  refine xuw rfl rfl o1 om (by rw[xkq,xxx];omega) ?_
  refine xgh rfl o1 xox i1 rfl ?_
  refine aw ?_
  refine xuw rfl rfl o1 om (by rw[xkq,xxx];omega) ?_
  refine xjv (j:=0) rfl rfl o1 xox rfl rfl rfl i1 (Nat.le_refl _) fun Z1' o1'=>?_
  refine aw ?_
  refine xm7 rfl rfl om (T.y.ne om) ?_
  refine aw ?_
  refine xvk rfl (T.y.at om (j:=1) rfl) ?_
  refine xuw rfl rfl o2 om (by rw[xkq,xxx];omega) ?_
  refine xgh rfl o2 xox i2 rfl ?_
  refine aw ?_
  refine xuw rfl rfl o2 om (by rw[xkq,xxx];omega) ?_
  refine xjv (j:=0) rfl rfl o2 xox rfl rfl rfl i2 (Nat.le_refl _) fun Z2' o2'=>?_
  refine aw ?_
  exact xnq (IH _ _ _ om ⟨j+1,Z1',Z2',rfl,rfl,rfl,rfl,om,o1'.as (ymz e1 om _ rfl),o2'.as (ymz e2 om _ rfl)⟩)
 obtain rfl:j=m:=om
 refine aw ?_
 exact K.r rfl rfl fun _ H_=>⟨_,⟨_,_,_,_,rfl,o1,o2,rfl⟩,ymr H_⟩
theorem c223(md:Md)(h:Heap)(p:PHeap)(hp:Per p h)(x y:Int):CallsX prog md 223 #[.int .i64 x,.int .i64 y] h fun v h'=>v=.int .i64 (cmpI y x)/\Keep h h':=by
 refine xax hp func223 fun _ _ _ K=>?_
 refine aw ?_
 refine xlq rfl rfl (fun _ pe=>c135 md _ _ pe _ _) ?_
 refine aw ?_
 exact K.r rfl rfl fun _ H_=>⟨rfl,H_.kept⟩
theorem c317(md:Md){h h₀:Heap}{B₀:List Nat}{p:PHeap}(w:Value)(xs:List Int){X₀ C₀:Pcs}(o₀:OwnS 3 1 w (ics xs) X₀)(n:Nat)(hn:n=xs.length/\n<=12)(fv:Value)(hf:∀h,Per p h-> ∀x y,CallV prog md fv [.int .i64 x,.int .i64 y] h fun v h'=>v=.int .i64 (cmpI y x)/\Keep h h')
 (s₀:St h₀ B₀ p h (X₀++C₀)):CallsX prog md 317 #[w,.int .i64 0,.int .i64 (n:Nat),fv] h fun _ h'=>∃X',OwnS 3 1 w (ics (srt xs)) X'/\St h₀ B₀ p h' (X'++C₀):=by
 refine xcj s₀ func317 fun _ _ _ K=>?_
 refine aw ?_
 refine xpq (fun m_ l p_ L_=>∃(i:Nat)(ys:List Int)(Z:Pcs),m_=n-i/\l=[(0,none,w),(1,none,.int .i64 0),(2,none,.int .i64 n),(3,none,fv),(8,none,.int .i64 (i:Nat))]/\p_=p/\L_=[Z,C₀]/\1<=i/\OwnS 3 1 w (ics ys) Z/\ys.Perm xs/\SortTo ys i) ⟨1,xs,X₀,rfl,rfl,rfl,rfl,Nat.le_refl _,o₀,.refl _,fun p q a b=>absurd a om⟩ sb ?_
 rintro _ _ p _ IH ⟨i,ys,Z,rfl,rfl,rfl,rfl,hi,o,hp,hs⟩
 have hly:ys.length=n:=hp.length_eq.trans hn.1.symm
 refine aw ?_
 refine xiq rfl (fun cc=>?_) (fun cc=>?_)
 ·refine aw ?_
  refine xpq (fun m_ l p_ L_=>∃(j:Nat)(zs:List Int)(Z:Pcs),m_=j+1/\l=[(0,none,w),(1,none,.int .i64 0),(2,none,.int .i64 n),(3,none,fv),(8,none,.int .i64 (i:Nat)),(9,none,.int .i64 (j:Nat))]/\p_=p/\L_=[Z,C₀]/\j<=i/\OwnS 3 1 w (ics zs) Z/\zs.Perm xs/\Float zs i j) ⟨i,ys,Z,rfl,rfl,rfl,rfl,Nat.le_refl _,o,hp,xq2 hs⟩ sb ?_
  rintro _ _ p _ IHj ⟨j,zs,Z2,rfl,rfl,rfl,rfl,hj,o2,hq,hf2⟩
  have hlz:zs.length=n:=hq.length_eq.trans hn.1.symm
  have e1:(ics zs)[((j:Int)-1).toNat]?=some [.int .i64 (zs.getD ((j:Int)-1).toNat 0)]:=ics_at om
  have e0:(ics zs)[j]?=some [.int .i64 (zs.getD j 0)]:=ics_at om
  refine aw ?_
  refine xjx [] R14 ?_
  refine ae ?_
  refine xkk rfl rfl rfl rfl sdt sdt o2 (by rw[xkq];omega) ?_
  refine xcw rfl rfl rfl sdt o2 xox (ics_at om) rfl ?_
  refine ae ?_
  refine xel rfl rfl rfl rfl sdt sdt o2 (gd2 fun _ hq=>by rw[xkq];omega) ?_
  refine xcw rfl rfl rfl sdt o2 xox e1 rfl ?_
  refine ae ?_
  refine ysq rfl rfl sdt rfl sdt (xpx fun _ pe=>hf _ pe _ _) ?_
  refine aw ?_
  refine xiq rfl (fun cd=>?_) (fun cd=>?_)
  ·obtain⟨j',rfl⟩:∃j',j=j'+1:=⟨j-1,om⟩
   rw[show(((j'+1:Nat):Int)-1).toNat=j' by omega]at*
   refine aw ?_
   refine xp4 [15] R16 Z2 ?_
   refine ae ?_
   refine xel rfl rfl rfl rfl sdt sdt o2 (xpx (by rw[xkq];omega)) ?_
   rw[show(((j'+1:Nat):Int)-1).toNat=j' by omega]
   refine xb3 rfl rfl rfl sdt o2 xox e1 rfl ?_
   refine ae ?_
   refine xkk rfl rfl rfl rfl sdt sdt o2 (by rw[xkq];omega) ?_
   refine xb3 rfl rfl rfl sdt o2 xox e0 rfl ?_
   refine xkk rfl rfl rfl rfl sdt sdt o2 (by rw[xkq];omega) ?_
   refine ybg (j:=0) rfl rfl rfl o2 xox rfl rfl rfl e0 (Nat.le_refl _) fun Z3 o3=>?_
   refine ae ?_
   refine xuw rfl rfl o3 om (by rw[List.length_set,xkq];omega) ?_
   rw[show(((j'+1:Nat):Int)-1).toNat=j' by omega]
   refine xjv (j:=0) (e:=[.int .i64 (zs.getD j' 0)]) rfl rfl o3 xox rfl rfl rfl (by rw[List.getElem?_set_ne om];exact e1) (Nat.le_refl _) fun Z4 o4=>?_
   refine aw ?_
   rw[show((j'+1:Nat):Int)-1=(j':Nat) by omega]
   exact xnq (IHj _ _ _ om ⟨j',swp zs (j'+1),Z4,rfl,rfl,rfl,rfl,om,o4.as (ypg rfl),(xr3 om om).trans hq,xf8 hf2 om om om (ywk.1 cd.2)⟩)
  ·refine aw ?_
   exact xnq (IH _ _ _ om ⟨i+1,zs,Z2,rfl,rfl,rfl,rfl,om,o2,hq,yfj hf2 om (by
    by_cases h0:j=0
    ·exact .inl h0
    ·right
     have:=fun z=>cd ⟨om,z⟩
     rw[show((j:Int)-1).toNat=j-1 by omega]at this
     have:=mt ywk.2 this
     omega)⟩)
 have e:ys=srt xs:=ycw hs om hp
 subst e
 refine aw ?_
 exact xtb func317 rfl fun _ H_=>K _ _ ⟨_,o,xwg H_⟩
theorem c289(md:Md){h h₀:Heap}{B₀:List Nat}{p:PHeap}(w:Value)(xs:List Int){X₀ C₀:Pcs}(o₀:OwnS 3 1 w (ics xs) X₀)(n:Nat)(hn:n=xs.length/\n<=12)(k:Int)(fv:Value)(hf:∀h,Per p h-> ∀x y,CallV prog md fv [.int .i64 x,.int .i64 y] h fun v h'=>v=.int .i64 (cmpI y x)/\Keep h h')
 (s₀:St h₀ B₀ p h (X₀++C₀)):CallsX prog md 289 #[w,.int .i64 0,.int .i64 (n:Nat),.int .i64 k,fv] h fun _ h'=>∃X',OwnS 3 1 w (ics (srt xs)) X'/\St h₀ B₀ p h' (X'++C₀):=by
 refine xcj s₀ func289 fun _ _ _ K=>?_
 refine aw ?_
 refine xbz (fun m l=>m=0/\l=[(0,none,w),(1,none,.int .i64 0),(2,none,.int .i64 n),(3,none,.int .i64 k),(4,none,fv),(10,none,.bool true),(11,none,.bool true)]) ⟨rfl,rfl⟩ sb ?_
 rintro _ _ IH ⟨rfl,rfl⟩
 refine aw ?_
 refine xiq rfl (fun cc=>?_) (fun cc=>absurd om cc)
 refine aw ?_
 refine xyl X₀ rfl rfl (fun h C s=>c317 md w xs o₀ n hn fv hf s) fun v Y' o'=>?_
 refine aw ?_
 refine xqq func289 rfl rfl fun _ H_=>K _ _ ⟨_,o',xwg H_⟩
theorem c326(md:Md)(h:Heap)(p:PHeap)(hp:Per p h)(n:Nat)(hn:n<=12):CallsX prog md 326 #[.int .u64 (n:Nat)] h fun v h'=>∃Y,((∃k:Int,v=.int .i64 k)/\Y=[])/\New h h' Y:=by
 refine xax hp func326 fun _ _ _ K=>?_
 refine aw ?_
 refine xiq rfl (fun cc=>absurd cc om) (fun cc=>?_)
 refine aw ?_
 refine xiq rfl (fun cc=>absurd cc om) (fun cc=>?_)
 refine aw ?_
 refine xiq rfl (fun cc=>absurd cc om) (fun cc=>?_)
 refine aw ?_
 refine xdk (k':=.u8) ⟨_,underlying213⟩ (by kernel_rfl) rfl (wr8 om) ?_
 refine xxc rfl rfl rfl sdt sdt (xpx ⟨om,by simp;omega⟩) ?_
 refine xdk (k':=.i64) ⟨_,underlying5⟩ underlying3 rfl (wrB _) ?_
 refine xyv rfl rfl ⟨by rw[Int.zero_add];exact wrB _,trivial⟩ ?_
 refine aw ?_
 exact K.r rfl rfl fun _ H_=>⟨[],⟨⟨_,rfl⟩,rfl⟩,(H_.sub (List.nil_sublist _)).new⟩
theorem c290(md:Md)(h:Heap)(p:PHeap)(hp:Per p h)(n:Nat)(hn:n<=12):CallsX prog md 290 #[.int .u64 (n:Nat)] h fun v h'=>∃Y,((∃k:Int,v=.int .i64 k)/\Y=[])/\New h h' Y:=by
 refine xax hp func290 fun _ _ _ K=>?_
 refine aw ?_
 refine xiq rfl (fun cc=>absurd cc (fun z=>z)) (fun cc=>?_)
 refine aw ?_
 refine xck rfl rfl (fun _ pe=>c326 md _ _ pe n hn) ?_
 rintro _ _ ⟨⟨k,rfl⟩,rfl⟩
 refine aw ?_
 exact K.r rfl rfl fun _ H_=>⟨[],⟨⟨_,rfl⟩,rfl⟩,(H_.sub (List.nil_sublist _)).new⟩
theorem c222(md:Md){h h₀:Heap}{B₀:List Nat}{p:PHeap}(w:Value)(xs:List Int){X₀ C₀:Pcs}(o₀:OwnS 3 1 w (ics xs) X₀)(hn:xs.length<=12)(fv:Value)(hf:∀h,Per p h-> ∀x y,CallV prog md fv [.int .i64 x,.int .i64 y] h fun v h'=>v=.int .i64 (cmpI y x)/\Keep h h')
 (s₀:St h₀ B₀ p h (X₀++C₀)):CallsX prog md 222 #[w,fv] h fun _ h'=>∃X',OwnS 3 1 w (ics (srt xs)) X'/\St h₀ B₀ p h' (X'++C₀):=by
 refine xcj s₀ func222 fun _ _ _ K=>?_
 refine aw ?_
 refine xul rfl rfl sdt o₀ (xkq xs) ?_
 refine aw ?_
 refine xdk (k':=.u64) ⟨_,underlying3⟩ (by kernel_rfl) rfl (wrU0 om) ?_
 refine xck rfl rfl (fun _ pe=>c290 md _ _ pe xs.length hn) ?_
 rintro _ _ ⟨⟨k,rfl⟩,rfl⟩
 refine aw ?_
 refine xyl X₀ rfl rfl (fun h C s=>c289 md w xs o₀ xs.length ⟨rfl,hn⟩ k fv hf s) fun v Y' o'=>?_
 refine aw ?_
 exact xtb func222 rfl fun _ H_=>K _ _ ⟨_,o',xwg H_⟩
theorem c131(md:Md){h h₀:Heap}{B₀:List Nat}{p:PHeap}(w:Value)(xs:List Int){X₀ C₀:Pcs}(o₀:OwnS 3 1 w (ics xs) X₀)(hn:xs.length<=12)
 (s₀:St h₀ B₀ p h (X₀++C₀)):CallsX prog md 131 #[w] h fun v h'=>∃X',(v=w/\OwnS 3 1 w (ics (srt xs)) X')/\St h₀ B₀ p h' (X'++C₀):=by
 refine xcj s₀ func131 fun _ _ _ K=>?_
 refine aw ?_
 refine xyl X₀ rfl rfl (fun h C s=>c222 md w xs o₀ hn _ (fun _ pe x y=>xgq (by kernel_rfl) (c223 md _ _ pe x y)) s) fun v Y' o'=>?_
 refine aw ?_
 exact xqq func131 rfl rfl fun _ H_=>K _ _ ⟨_,⟨rfl,o'⟩,xwg H_⟩
end Go.Proofs.YtjcakmlipohaeaaGreatDoor
namespace Go.X.Flow
open Go.X Go.X.Bf
theorem yds{t:Tn}{d:List Int}(O:OkT t)(Dv:Div t d){i:Nat}(hi:i<t.m):0<=dv d i/\dv d i<=9:=by
 have h1:=O.y i hi
 have h2:dv d i<=draw t d (t.wh i):=by
  have:=xr9 (f:=fun k=>if t.wh k=t.wh i then dv d k else 0) (k:=t.m) (fun k hk=>by have:=Dv.pos k hk;split<;>omega) hi
  simpa[draw]using this
 have h3:=Dv.hs _ h1.1;have h4:=O.h _ h1.1;have h5:=Dv.pos i hi
 omega
theorem yqz{t:Tn}{d:List Int}(O:OkT t)(Dv:Div t d){h:Nat}(hh:h<t.nH):0<=lack t d h/\lack t d h<=9:=by
 have h1:=Dv.hs h hh;have h2:=O.h h hh;have h3:=xpd Dv h
 unfold lack;omega
theorem ysr{t:Tn}{d:List Int}(O:OkT t)(Dv:Div t d){x:Nat}(hx:x<t.nW):0<=has t d x/\has t d x<=21:=by
 have h1:=Dv.ws x hx;have h2:=O.w x hx;have h3:=xo2 Dv x
 unfold has;omega
end Go.X.Flow
namespace Go.Proofs.YtjcakmlipohaeaaGreatDoor
open Go.Proofs.Tryz
open Go.X Go.X.Flow Go.Conc
abbrev R62:List Nat:=[0,1,2,3,4,5,6,7,8,9,10,11,12,13,14,15,16,17,18,19,20,21,22,23,24,25,26,27,28,29,30,31,32,33,34,35,36,37,38,39,40,41,42,43,44,45,46,47,48,49,50,51,52,53,54,55,56,57,58,59,60,61]
theorem wrN{n:Int}(h: -1000000<=n/\n<=1000000):IntKind.i64.wrap (0-n)= -n:=by rw[Int.zero_sub];exact wrZ om
theorem ynz(md:Md)(h:Heap)(p:PHeap)(hp:Per p h)(a1 a2 a3:Option Addr)(c1 c2 c3:Nat)(t:Tn)(T:TownP p a1 t.nH a2 t.nW a3 t.m t)(O:OkT t)(b:Option Addr)(cb:Nat)(d:List Int)(D:Ints p b t.m d)(Dv:Div t d):
 CallsX prog md 71 #[.agg #[.slice a1 t.nH c1,.slice a2 t.nW c2,.slice a3 t.m c3],.slice b t.m cb] h fun v h'=>∃Y,(∃w1 w2 Y1 Y2,v=.tuple #[w1,w2]/\OwnS 3 1 w1 (ics (lackL t d)) Y1/\OwnS 3 1 w2 (ics (hasL t d)) Y2/\Y=Y1++Y2)/\New h h' Y:=by
 have o1:=O.nh;have o2:=O.nw;have o3:=O.nm
 refine c71 md h p hp a1 a2 a3 c1 c2 c3 t T b t.m cb d D ⟨om,om⟩ ⟨Nat.le_refl _,o3⟩ (fun i hi=>by have:=yds O Dv hi;omega) (fun i hi=>?_) (fun i hi=>?_) (fun i hi=>?_)
 ·have:=O.h i hi;unfold Tn.hv at this;omega
 ·have:=O.w i hi;unfold Tn.wv at this;omega
 ·have h1:=O.y i hi;have h2:=O.yp i hi;unfold Tn.wh Tn.ww at h1;exact⟨⟨h2.1,h1.1⟩,h2.2,h1.2⟩
theorem c275(md:Md)(h:Heap)(p:PHeap)(hp:Per p h)(q:Prop)[Decidable q](v1 v2 v3 v4 v5 v7:Value)(s:Int)(bB bt:Nat)(z1 z2:Nat×Nat)(T1 T2:TypeId)(hB:p bB=some (.cells #[.pointer (some ⟨bt,0,none⟩)] T1 z1))(hb:p bt=some (.cells #[v1,v2,v3,v4,v5,.int .i64 s,v7] T2 z2)):
 CallsX prog md 275 #[.bool (decide q),.pointer (some ⟨bB,0,none⟩)] h fun v h'=>v=.int .i64 (if q then s else 0)/\Keep h h':=by
 refine xfq hp func275 fun _ _ _ K=>?_
 refine xiq rfl (fun cc=>?_) (fun cc=>?_)
 ·refine ax ?_
  exact K.r rfl rfl fun _ H_=>⟨by rw[if_pos cc];rfl,H_.kept⟩
 refine ax ?_
 exact K.r rfl rfl fun _ H_=>⟨by rw[if_neg cc];rfl,H_.kept⟩
theorem c276(md:Md)(h:Heap)(p:PHeap)(hp:Per p h)(z:Int)(x:Nat)(e:z=x)(hx:x<=10):CallsX prog md 276 #[.int .i64 z] h fun v h'=>v=.int .i64 (dear x)/\Keep h h':=by
 subst e
 refine xfq hp func276 fun _ _ _ K=>?_
 refine xbz (fun m l=>∃j:Nat,m=x-j/\l=[(3,none,.int .i64 (dear j)),(4,none,.int .i64 (x:Nat)),(5,none,.int .i64 (j:Nat))]/\j<=x) ⟨0,rfl,rfl,Nat.zero_le _⟩ sb ?_
 rintro _ _ IH ⟨j,rfl,rfl,hj⟩
 have hd:=xts (x:=j) om
 refine cq (fun cc=>?_) (fun cc=>?_)
 ·refine ax ?_
  rw[show dear j*7=dear (j+1) by rw[xov];omega]
  exact xnq (IH _ om ⟨j+1,rfl,rfl,om⟩)
 obtain rfl:j=x:=om
 refine ax ?_
 exact K.r rfl rfl fun _ H_=>⟨rfl,H_.kept⟩
set_option maxHeartbeats 8000000 in
theorem c176(md:Md){h h₀:Heap}{B₀:List Nat}{p:PHeap}{X₀ C₀:Pcs}(a1 a2 a3:Option Addr)(c1 c2 c3:Nat)(t:Tn)(T:TownP p a1 t.nH a2 t.nW a3 t.m t)(O:OkT t)(wi:Wi)(b:Option Addr)(cb:Nat)(d:List Int)(D:Ints p b t.m d)(Dv:Div t d)(S:Sg wi)(bt:Nat)(T2:TypeId)(z2:Nat×Nat)
 (hb:p bt=some (.cells #[.slice a1 t.nH c1,.slice a2 t.nW c2,.slice a3 t.m c3,.int .i64 wi.house,.int .i64 wi.well,.int .i64 wi.sign,.slice b t.m cb] T2 z2))(yv:Value)(I:List Bf.Arc->Pcs->Prop)(hI0:I [] X₀)
 (hy:∀out x,out++[x] <+: arcsL t wi d-> ∀p' h X C,PLe p p'->I out X->St h₀ B₀ p' h (X++C)->CallV prog md yv [arcV x] h fun v h'=>∃X',(v=.bool true/\I (out++[x]) X')/\St h₀ B₀ p' h' (X'++C))(s₀:St h₀ B₀ p h (X₀++C₀)):
 CallsX prog md 176 #[.pointer (some ⟨bt,0,none⟩),yv] h fun _ h'=>∃X',I (arcsL t wi d) X'/\St h₀ B₀ p h' (X'++C₀):=by
 have oH:=O.nh
 have oW:=O.nw
 have oM:=O.nm
 have sg:=S
 refine xcj s₀ func176 fun _ _ _ K=>?_
 refine bq fun b1=>?_
 refine xfw (b:=b1) fun p1 le hB=>?_
 have T:=TownP.mono T le
 have D:=D.mono le
 have hb:=le _ _ hb
 have hB1:p1 b1=some (.cells #[.pointer (some ⟨bt,0,none⟩)] _ (0,0)):=hB
 refine ax ?_
 refine xjx [8] R13 ?_
 refine ex ?_
 refine xqv rfl rfl rfl (fun _ pe=>ynz md _ _ pe _ _ _ _ _ _ t T O _ _ d D Dv) ?_
 rintro _ _ ⟨w1,w2,Y1,Y2,rfl,o1,o2,rfl⟩
 refine ex ?_
 refine xaf Y1 Y2 ?_
 refine ax ?_
 refine xul rfl rfl sdt o2 (by rw[xkq,xdl]) ?_
 refine ax ?_
 refine xpq (fun m_ l p_ L_=>∃(k:Nat)(Z:Pcs),m_=t.nW-k/\l=[(1,none,yv),(2,none,.pointer (some ⟨b1,0,none⟩)),(4,none,w1),(5,none,w2),(6,none,.int .i64 (t.nW:Nat)),(7,none,.int .i64 (t.nW+t.nH)),(8,none,.int .i64 (t.nW+t.nH+1)),(9,none,.func (.func 275) #[] #[.pointer (some ⟨b1,0,none⟩)]),(45,none,w2),(46,none,.int .i64 (t.nW:Nat)),(47,none,.int .i64 (k:Nat))]/\p_=p1/\L_=[Y1,Y2,Z,C₀]/\k<=t.nW/\I (outW t wi d k) Z) ⟨0,X₀,rfl,rfl,rfl,rfl,Nat.zero_le _,hI0⟩ sb ?_
 rintro _ _ p1 _ IH ⟨k,Z,rfl,rfl,rfl,rfl,hk,hI⟩
 refine cq (fun cc=>?_) (fun cc=>?_)
 ·have hbd:=ysr O Dv (x:=k) om
  have hbw:=S.bw k
  have Tw:=T.w
  refine ax ?_
  refine xuk rfl rfl o2 (by rw[xkq,xdl];omega) ?_
  refine xgh rfl o2 xox (ybj om) rfl ?_
  refine ax ?_
  refine ysq rfl rfl sdu rfl sdu (xpx fun _ pe=>(xgq (by kernel_rfl) (c275 md _ _ pe ((k:Int)=wi.well) _ _ _ _ _ _ wi.sign b1 bt _ _ _ _ hB1 hb)).mono fun v h' e=>⟨e.1.trans (show _=Value.int .i64 (bw wi k) from rfl),e.2⟩) ?_
  refine xyv rfl rfl (gd2 fun h _=>⟨h,wrN om,trivial⟩) ?_
  refine ax ?_
  refine xlr Z rfl rfl sdu rfl sdu (v:=.bool true) (Q:=fun Z'=>I (outW t wi d k++[⟨t.sp,k,-bw wi k,-1,0⟩]) Z') (fun c1 h C s=>?_) (fun Z1 hq1 hn1=>?_)
  ·have e:=xxg (a:=(t.nW:Int)+t.nH) (b:=k) (c:=-bw wi k) (w:=-1) (m:=0) (x:=⟨t.sp,k,-bw wi k,-1,0⟩) rfl rfl rfl rfl rfl
   have y:=hy _ _ (yfr om (of_decide_eq_true c1)) _ _ _ _ le hI s
   rw[<- e]at y
   exact y
  obtain⟨u1,hu1,hI1⟩:∃u1,(u1=if 0<has t d k then outW t wi d k++[⟨t.sp,k,-bw wi k,-1,0⟩]else outW t wi d k)/\I u1 Z1:=by
   by_cases c1:0<has t d k
   ·exact⟨_,rfl,by rw[if_pos c1];exact hq1 (decide_eq_true c1)⟩
   ·exact⟨_,rfl,by rw[if_neg c1,hn1 (decide_eq_false c1)];exact hI⟩
  refine ax ?_
  refine ysq rfl rfl sdu rfl sdu (xpx fun _ pe=>(xgq (by kernel_rfl) (c275 md _ _ pe ((k:Int)=wi.well) _ _ _ _ _ _ wi.sign b1 bt _ _ _ _ hB1 hb)).mono fun v h' e=>⟨e.1.trans (show _=Value.int .i64 (bw wi k) from rfl),e.2⟩) ?_
  refine ax ?_
  refine xlr Z1 rfl rfl sdu rfl sdu (v:=.bool true) (Q:=fun Z'=>I (u1++[⟨k,t.sp,bw wi k,-1,0⟩]) Z') (fun c2 h C s=>?_) (fun Z2 hq2 hn2=>?_)
  ·have e:=xxg (a:=k) (b:=(t.nW:Int)+t.nH) (c:=bw wi k) (w:=-1) (m:=0) (x:=⟨k,t.sp,bw wi k,-1,0⟩) rfl rfl rfl rfl rfl
   have c2:has t d k<t.wv k:=of_decide_eq_true (andR c2)
   have y:=hy u1 ⟨k,t.sp,bw wi k,-1,0⟩ (by
    subst hu1
    split
    ·rename_i c1;exact yer om c1 c2
    ·rename_i c1;exact ydr om c1 c2) _ _ _ _ le hI1 s
   rw[<- e]at y
   exact y
  have hI2:I (outW t wi d (k+1)) Z2:=by
   by_cases c2:has t d k<t.wv k
   ·have y:=hq2 (by show(!(decide (0<has t d k)&&!true)&&decide (has t d k<t.wv k))=true;rw[decide_eq_true c2];simp)
    subst hu1
    by_cases c1:0<has t d k
    ·rw[if_pos c1,W_tt c1 c2]at y;exact y
    ·rw[if_neg c1,W_ft c1 c2]at y;exact y
   ·rw[hn2 (by show(!(decide (0<has t d k)&&!true)&&decide (has t d k<t.wv k))=false;rw[decide_eq_false c2];simp)]
    subst hu1
    by_cases c1:0<has t d k
    ·rw[if_pos c1,W_tf c1 c2]at hI1;exact hI1
    ·rw[if_neg c1,W_ff c1 c2]at hI1;exact hI1
  refine ax ?_
  refine xiq rfl (fun cd=>absurd cd (by simp)) (fun cd=>?_)
  refine ax ?_
  exact xnq (IH _ _ _ om ⟨k+1,Z2,rfl,rfl,rfl,rfl,om,hI2⟩)
 obtain rfl:k=t.nW:=om
 refine ax ?_
 refine xul rfl rfl sdt o1 (by rw[xkq,xwb]) ?_
 refine ax ?_
 refine xpq (fun m_ l p_ L_=>∃(k:Nat)(Z:Pcs),m_=t.nH-k/\l=[(1,none,yv),(2,none,.pointer (some ⟨b1,0,none⟩)),(6,none,.int .i64 (t.nW:Nat)),(8,none,.int .i64 (t.nW+t.nH+1)),(9,none,.func (.func 275) #[] #[.pointer (some ⟨b1,0,none⟩)]),(102,none,w1),(103,none,.int .i64 (t.nH:Nat)),(104,none,.int .i64 (k:Nat))]/\p_=p1/\L_=[Y1,Y2,Z,C₀]/\k<=t.nH/\I (outH t wi d k) Z) ⟨0,Z,rfl,rfl,rfl,rfl,Nat.zero_le _,by rw[yux];exact hI⟩ sb ?_
 clear IH
 rintro _ _ p1 _ IH ⟨k,Z,rfl,rfl,rfl,rfl,hk,hI⟩
 refine cq (fun cc=>?_) (fun cc=>?_)
 ·have hbd:=yqz O Dv (h:=k) om
  have hbw:=S.bh k
  have Th:=T.h
  have d0:=xts (x:=(lack t d k).toNat) om
  have d1:=xts (x:=(lack t d k).toNat-1) om
  have d2:=xts (x:=(lack t d k).toNat+1) om
  refine ax ?_
  refine xuk rfl rfl o1 (by rw[xkq,xwb];omega) ?_
  refine xgh rfl o1 xox (xm5 om) rfl ?_
  refine ax ?_
  refine xp4 [25] R62 Z ?_
  refine ex ?_
  refine xak rfl rfl rfl rfl sdu (gd2 fun _ hq _ pe=>c276 md _ _ pe _ ((lack t d k).toNat-1) om om) ?_
  refine ex ?_
  refine xak rfl rfl rfl rfl sdu (gd2 fun _ hq _ pe=>c276 md _ _ pe _ (lack t d k).toNat om om) ?_
  refine ex ?_
  refine xq6 rfl rfl rfl sdu rfl sdu (xpx fun _ pe=>(xgq (by kernel_rfl) (c275 md _ _ pe ((k:Int)=wi.house) _ _ _ _ _ _ wi.sign b1 bt _ _ _ _ hB1 hb)).mono fun v h' e=>⟨e.1.trans (show _=Value.int .i64 (bh wi k) from rfl),e.2⟩) ?_
  refine ex ?_
  refine yvm Z rfl rfl rfl sdu rfl sdu (v:=.bool true) (Q:=fun Z'=>I (outH t wi d k++[⟨t.nW+k,t.si,dear ((lack t d k).toNat-1)-dear (lack t d k).toNat-bh wi k,-1,0⟩]) Z') (fun c1 h C s=>?_) (fun Z1 hq1 hn1=>?_)
  ·have e:=xxg (a:=(t.nW:Int)+k) (b:=(t.nW:Int)+t.nH+1) (c:=dear ((lack t d k).toNat-1)-dear (lack t d k).toNat-bh wi k) (w:=-1) (m:=0) (x:=⟨t.nW+k,t.si,dear ((lack t d k).toNat-1)-dear (lack t d k).toNat-bh wi k,-1,0⟩) rfl rfl rfl rfl rfl
   have y:=hy _ _ (yir om (of_decide_eq_true c1)) _ _ _ _ le hI s
   rw[<- e]at y
   exact y
  obtain⟨u1,hu1,hI1⟩:∃u1,(u1=if 0<lack t d k then outH t wi d k++[⟨t.nW+k,t.si,dear ((lack t d k).toNat-1)-dear (lack t d k).toNat-bh wi k,-1,0⟩]else outH t wi d k)/\I u1 Z1:=by
   by_cases c1:0<lack t d k
   ·exact⟨_,rfl,by rw[if_pos c1];exact hq1 (decide_eq_true c1)⟩
   ·exact⟨_,rfl,by rw[if_neg c1,hn1 (decide_eq_false c1)];exact hI⟩
  refine ex ?_
  refine xak rfl rfl rfl rfl sdu (gd2 fun _ hq _ pe=>c276 md _ _ pe _ ((lack t d k).toNat+1) om om) ?_
  refine ex ?_
  refine xak rfl rfl rfl rfl sdu (gd2 fun _ hq _ pe=>c276 md _ _ pe _ (lack t d k).toNat om om) ?_
  refine ex ?_
  refine xq6 rfl rfl rfl sdu rfl sdu (xpx fun _ pe=>(xgq (by kernel_rfl) (c275 md _ _ pe ((k:Int)=wi.house) _ _ _ _ _ _ wi.sign b1 bt _ _ _ _ hB1 hb)).mono fun v h' e=>⟨e.1.trans (show _=Value.int .i64 (bh wi k) from rfl),e.2⟩) ?_
  refine ex ?_
  refine xlr Z1 rfl rfl sdu rfl sdu (v:=.bool true) (Q:=fun Z'=>I (u1++[⟨t.si,t.nW+k,dear ((lack t d k).toNat+1)-dear (lack t d k).toNat+bh wi k,-1,0⟩]) Z') (fun c2 h C s=>?_) (fun Z2 hq2 hn2=>?_)
  ·have e:=xxg (a:=(t.nW:Int)+t.nH+1) (b:=(t.nW:Int)+k) (c:=dear ((lack t d k).toNat+1)-dear (lack t d k).toNat+bh wi k) (w:=-1) (m:=0) (x:=⟨t.si,t.nW+k,dear ((lack t d k).toNat+1)-dear (lack t d k).toNat+bh wi k,-1,0⟩) rfl rfl rfl rfl rfl
   have c2:lack t d k<t.hv k:=of_decide_eq_true (andR c2)
   have y:=hy u1 ⟨t.si,t.nW+k,dear ((lack t d k).toNat+1)-dear (lack t d k).toNat+bh wi k,-1,0⟩ (by
    subst hu1
    split
    ·rename_i c1;exact yhr om c1 c2
    ·rename_i c1;exact ygr om c1 c2) _ _ _ _ le hI1 s
   rw[<- e]at y
   exact y
  have hI2:I (outH t wi d (k+1)) Z2:=by
   by_cases c2:lack t d k<t.hv k
   ·have y:=hq2 (by show(!(decide (0<lack t d k)&&!true)&&decide (lack t d k<t.hv k))=true;rw[decide_eq_true c2];simp)
    subst hu1
    by_cases c1:0<lack t d k
    ·rw[if_pos c1,H_tt c1 c2]at y;exact y
    ·rw[if_neg c1,H_ft c1 c2]at y;exact y
   ·rw[hn2 (by show(!(decide (0<lack t d k)&&!true)&&decide (lack t d k<t.hv k))=false;rw[decide_eq_false c2];simp)]
    subst hu1
    by_cases c1:0<lack t d k
    ·rw[if_pos c1,H_tf c1 c2]at hI1;exact hI1
    ·rw[if_neg c1,H_ff c1 c2]at hI1;exact hI1
  refine ax ?_
  refine xiq rfl (fun cd=>absurd cd (by simp)) (fun cd=>?_)
  refine ax ?_
  exact xnq (IH _ _ _ om ⟨k+1,Z2,rfl,rfl,rfl,rfl,om,hI2⟩)
 obtain rfl:k=t.nH:=om
 refine ax ?_
 refine xpq (fun m_ l p_ L_=>∃(k:Nat)(Z:Pcs),m_=t.m-k/\l=[(1,none,yv),(2,none,.pointer (some ⟨b1,0,none⟩)),(6,none,.int .i64 (t.nW:Nat)),(180,none,.slice a3 t.m c3),(181,none,.int .i64 (t.m:Nat)),(182,none,.int .i64 (k:Nat))]/\p_=p1/\L_=[Y1,Y2,Z,C₀]/\k<=t.m/\I (outY t wi d k) Z) ⟨0,Z,rfl,rfl,rfl,rfl,Nat.zero_le _,by rw[ytx];exact hI⟩ sb ?_
 clear IH
 rintro _ _ p1 _ IH ⟨k,Z,rfl,rfl,rfl,rfl,hk,hI⟩
 refine cq (fun cc=>?_) (fun cc=>?_)
 ·have Ty:=T.y
  have hyp:=O.yp k om
  have hyi:=O.y k om
  refine ax ?_
  refine xqk rfl (Wys.allN Ty om hyp) ?_
  refine xtq fun b2=>?_
  refine ax ?_
  refine yjf Z rfl rfl (Q:=fun v Z'=>v=.bool true/\I (outY t wi d k++[⟨t.ww k,t.nW+t.wh k,0,k,1⟩]) Z') (fun h C s=>?_) (fun v1 Z1⟨e1,hI1⟩=>?_)
  ·have e:=xxg (a:=t.ww k) (b:=(t.nW:Int)+t.wh k) (c:=0) (w:=k) (m:=1) (x:=⟨t.ww k,t.nW+t.wh k,0,k,1⟩) rfl rfl rfl rfl rfl
   have y:=hy _ _ (ycr om) _ _ _ _ le hI s
   rw[<- e]at y
   exact y
  subst e1
  refine ax ?_
  refine xlr Z1 rfl rfl sdu rfl sdu (v:=.bool true) (Q:=fun Z'=>I (outY t wi d k++[⟨t.ww k,t.nW+t.wh k,0,k,1⟩]++[⟨t.nW+t.wh k,t.ww k,0,k,-1⟩]) Z') (fun c2 h C s=>?_) (fun Z2 hq2 hn2=>?_)
  ·have e:=xxg (a:=(t.nW:Int)+t.wh k) (b:=t.ww k) (c:=0) (w:=k) (m:=-1) (x:=⟨t.nW+t.wh k,t.ww k,0,k,-1⟩) rfl rfl rfl rfl rfl
   have c2:0<dv d k:=of_decide_eq_true (andR c2)
   have y:=hy _ _ (ybr om c2) _ _ _ _ le hI1 s
   rw[<- e]at y
   exact y
  have hI2:I (outY t wi d (k+1)) Z2:=by
   by_cases c2:0<dv d k
   ·have y:=hq2 (by show(!!true&&decide (0<dv d k))=true;rw[decide_eq_true c2];rfl)
    rw[Y_t c2]at y;exact y
   ·rw[hn2 (by show(!!true&&decide (0<dv d k))=false;rw[decide_eq_false c2];rfl)]
    rw[Y_f c2]at hI1;exact hI1
  refine ax ?_
  refine xiq rfl (fun cd=>absurd cd (by simp)) (fun cd=>?_)
  refine ax ?_
  exact xnq (IH _ _ _ om ⟨k+1,Z2,rfl,rfl,rfl,rfl,om,hI2⟩)
 obtain rfl:k=t.m:=om
 refine ax ?_
 exact xtb (f:=176) rfl rfl fun _ H_=>K _ _ ⟨Z,ydl ▸ hI,(xwg H_).forget le⟩
end Go.Proofs.YtjcakmlipohaeaaGreatDoor
namespace Go.X.Flow
open Go.X Go.X.Bf
end Go.X.Flow
namespace Go.Proofs.YtjcakmlipohaeaaGreatDoor
open Go.Proofs.Tryz
open Go.X Go.X.Flow Go.Conc
open Go.X.Bf (sweeps lab0 rel a0 far Chain)
section
variable{md:Md}{p:PHeap}
theorem yzm{a1 a2 a3:Option Addr}{c1 c2 c3:Nat}{t:Tn}(T:TownP p a1 t.nH a2 t.nW a3 t.m t)(O:OkT t)(wi:Wi){b:Option Addr}{cb:Nat}{d:List Int}(D:Ints p b t.m d)(Dv:Div t d)(S:Sg wi){bt:Nat}{T2:TypeId}{z2:Nat×Nat}
 (hb:p bt=some (.cells #[.slice a1 t.nH c1,.slice a2 t.nW c2,.slice a3 t.m c3,.int .i64 wi.house,.int .i64 wi.well,.int .i64 wi.sign,.slice b t.m cb] T2 z2)):IterC prog md p (.func (.func 176) #[.pointer (some ⟨bt,0,none⟩)] #[]) ((arcsL t wi d).map fun x=>[arcV x]):=by
 intro h h₀ B₀ p' X₀ C₀ yv I le h0 hy s
 refine xgq (first:=[.pointer (some ⟨bt,0,none⟩)]) (cap:=[]) (by kernel_rfl) ((c176 md a1 a2 a3 c1 c2 c3 t (TownP.mono T le) O wi b cb d (D.mono le) Dv S bt T2 z2 (le _ _ hb) yv (fun out X=>I out.length X) h0 (fun out x hp p'' h X C le2 hI s'=>?_) s).mono fun _ _⟨X',q,s'⟩=>⟨X',by rw[List.length_map];exact q,s'⟩)
 have hl:=hp.length_le
 simp only[List.length_append,List.length_singleton]at hl
 have e:((arcsL t wi d).map fun x=>[arcV x]).getD out.length []=[arcV x]:=by
  obtain⟨r,hr⟩:=hp
  rw[<- hr];simp[List.getD_eq_getElem?_getD]
 have z:=hy out.length (by rw[List.length_map];omega) p'' h X C le2 hI s'
 rw[e]at z
 rw[List.length_append,List.length_singleton]
 exact z
end
set_option maxHeartbeats 8000000 in
theorem c111(md:Md){h:Heap}{p:PHeap}(hp:Per p h)(a1 a2 a3:Option Addr)(c1 c2 c3:Nat)(t:Tn)(T:TownP p a1 t.nH a2 t.nW a3 t.m t)(O:OkT t)(wi:Wi)(b:Option Addr)(cb:Nat)(d:List Int)(D:Ints p b t.m d)(Dv:Div t d)(S:Sg wi)(bt:Nat)(T2:TypeId)(z2:Nat×Nat)
 (hb:p bt=some (.cells #[.slice a1 t.nH c1,.slice a2 t.nW c2,.slice a3 t.m c3,.int .i64 wi.house,.int .i64 wi.well,.int .i64 wi.sign,.slice b t.m cb] T2 z2))(G:Flow.Good t wi d):
 CallsX prog md 111 #[.pointer (some ⟨bt,0,none⟩)] h fun v h'=>∃w Y,(v=.tuple #[w,.int .i64 (costL t wi d)]/\OwnS 183 5 w (acs (pathL t wi d)) Y)/\New h h' Y:=by
 have oH:=O.nh
 have oW:=O.nw
 have oM:=O.nm
 refine xez hp func111 fun c₀ cs Stop K=>?_
 refine ax ?_
 refine xjx [] R12 ?_
 refine ex ?_
 refine ax ?_
 refine xih (l':=[(0,none,.pointer (some ⟨bt,0,none⟩)),(4,none,.int .i64 ((t.nW+t.nH+2:Nat):Int))]) ?_ ⟨rfl,rfl,trivial⟩
 refine xap 7 [1,3,5,6] [0,2] [1,3,4,5,6] (fun i=>match i with|6=>[4]|_=>[]) (fun i=>match i with|1=>[0]|3=>[2]|6=>[0,1,4,5]|_=>[])
  (fun i val _ v x=>match i with
   |0=>v=.int .i64 ((t.nW+t.nH+2:Nat):Int)/\x=[]
   |1=>OwnS 3 1 v (List.replicate (t.nW+t.nH+2) [.int .i64 0]) x
   |2=>v=.int .i64 ((t.nW+t.nH+2:Nat):Int)/\x=[]
   |3=>OwnS 183 5 v (List.replicate (t.nW+t.nH+2) [.int .i64 0,.int .i64 0,.int .i64 0,.int .i64 0,.int .i64 0]) x
   |4=>∃b:Nat,v=.pointer (some ⟨b,0,none⟩)/\x=[(b,.cells #[.slice none 0 0] 23 (0,0))]
   |5=>∃b:Nat,v=.pointer (some ⟨b,0,none⟩)/\x=[(b,.cells #[.slice none 0 0] 179 (0,0))]
   |6=>∃b:Nat,val 4=.pointer (some ⟨b,0,none⟩)/\x=[(b,.cells #[val 1] 23 (0,0))]
   |_=>True) (fun i hi val piece hq=>?_) (fun val piece j hj v x q=>?_) (fun val piece hq=>?_)
 ·match i,hi with
  |0,_=>
    refine ex ?_
    exact xmx ⟨⟨_,rfl⟩,fun v e=>⟨xrq e,rfl⟩⟩
  |1,_=>
    have e0:val 0=.int .i64 ((t.nW+t.nH+2:Nat):Int):=(hq 0 rfl).1
    refine yqm (n:=t.nW+t.nH+2) (zc:=[.int .i64 0]) rfl (by show some ([],val 0)=_;rw[e0]) (by show some ([],val 0)=_;rw[e0]) om fun v Y o=>?_
    exact xmx ⟨⟨_,rfl⟩,fun v' e=>by
     have e':=xrq e
     subst e'
     show OwnS _ _ _ _ ([Y]++[]).flatten
     simpa using o⟩
  |2,_=>
    refine ex ?_
    exact xmx ⟨⟨_,rfl⟩,fun v e=>⟨xrq e,rfl⟩⟩
  |3,_=>
    have e0:val 2=.int .i64 ((t.nW+t.nH+2:Nat):Int):=(hq 2 rfl).1
    refine yqm (n:=t.nW+t.nH+2) (zc:=[.int .i64 0,.int .i64 0,.int .i64 0,.int .i64 0,.int .i64 0]) rfl (by show some ([],val 2)=_;rw[e0]) (by show some ([],val 2)=_;rw[e0]) om fun v Y o=>?_
    exact xmx ⟨⟨_,rfl⟩,fun v' e=>by
     have e':=xrq e
     subst e'
     show OwnS _ _ _ _ ([Y]++[]).flatten
     simpa using o⟩
  |4,_=>
    refine xus rfl fun b4=>?_
    exact xmx ⟨⟨_,rfl⟩,fun v e=>⟨b4,xrq e,rfl⟩⟩
  |5,_=>
    refine xus rfl fun b4=>?_
    exact xmx ⟨⟨_,rfl⟩,fun v e=>⟨b4,xrq e,rfl⟩⟩
  |6,_=>
    obtain⟨b4,e4,x4⟩:=hq 4 rfl
    have o1:OwnS 3 1 (val 1) (List.replicate (t.nW+t.nH+2) [.int .i64 0]) (piece 1):=hq 1 rfl
    obtain⟨a,cap,e1,_⟩:=o1.val
    show DE _ _ _ _ _ _ _ _ _ [piece 4]
    rw[x4]
    refine xuh (cs:=[.slice none 0 0]) (v:=.slice a _ cap) rfl (by show some ([],val 4)=_;rw[e4]) (by show some ([],val 1)=_;rw[e1]) ?_
    exact xmx ⟨⟨undef,rfl⟩,fun v' e=>⟨b4,e4,by
     show [(b4,Obj.cells _ _ _)]=[(b4,Obj.cells #[val 1] _ _)]
     rw[e1];rfl⟩⟩
 ·simp only[List.mem_cons,List.not_mem_nil,or_false]at hj
  rcases hj with rfl|rfl
  ·exact q.2
  ·exact q.2
 have e0:val 0=.int .i64 ((t.nW+t.nH+2:Nat):Int):=(hq 0 (by decide)).1
 have o1:OwnS 3 1 (val 1) (List.replicate (t.nW+t.nH+2) [.int .i64 0]) (piece 1):=hq 1 (by decide)
 have o2:OwnS 183 5 (val 3) (List.replicate (t.nW+t.nH+2) [.int .i64 0,.int .i64 0,.int .i64 0,.int .i64 0,.int .i64 0]) (piece 3):=hq 3 (by decide)
 obtain⟨b4,e4,x4⟩:=hq 4 (by decide)
 obtain⟨b5,e5,x5⟩:=hq 5 (by decide)
 obtain⟨b6,f6,z6⟩:=hq 6 (by decide)
 have e6:val 4=.pointer (some ⟨b6,0,none⟩):=f6
 rw[e4]at e6
 cases e6
 have x6:piece 6=[(b4,.cells #[val 1] 23 (0,0))]:=z6
 refine xzd (l':=[(0,none,.pointer (some ⟨bt,0,none⟩)),(4,none,.int .i64 ((t.nW+t.nH+2:Nat):Int)),(5,none,.pointer (some ⟨b4,0,none⟩)),(6,none,.pointer (some ⟨b5,0,none⟩)),(28,none,val 3)]) ?_ ⟨rfl,rfl,by show some (none,val 4)=_;rw[e4],by show some (none,val 5)=_;rw[e5],rfl,trivial⟩
 show RO _ _ _ _ _ _ [piece 1,piece 3,piece 5,piece 6]
 rw[x5,x6]
 clear hq e0 x4 x5 x6 e4 e5 f6 z6
 generalize val 1=v1 at*
 generalize val 3=v2 at*
 generalize piece 1=Y1 at*
 generalize piece 3=Y2 at*
 clear val piece
 obtain⟨s1,m1,rfl,-⟩:=o1.val
 obtain⟨s2,m2,rfl,-⟩:=o2.val
 rw[List.length_replicate]at o1 o2⊢
 rw[List.length_replicate]
 obtain⟨N,hN⟩:∃N,N=t.nW+t.nH+2:=⟨_,rfl⟩
 rw[<- hN]at o1 o2⊢
 have o1:=o1.as ((ydx N).trans (show _=ics (fillK 0 N) by simp[fillK]))
 have o2:=o2.as (yth N)
 refine ax ?_
 refine xpq (fun m_ l p_ L_=>∃(k:Nat)(Y:Pcs),m_=N-k/\l=[(0,none,.pointer (some ⟨bt,0,none⟩)),(4,none,.int .i64 (N:Nat)),(5,none,.pointer (some ⟨b4,0,none⟩)),(6,none,.pointer (some ⟨b5,0,none⟩)),(30,none,.int .i64 (N:Nat)),(31,none,.int .i64 (k:Nat))]/\p_=p/\L_=[[(b5,.cells #[.slice s2 N m2] 179 (0,0))],Y,Y2,[(b4,.cells #[.slice s1 N m1] 23 (0,0))]]/\k<=N/\OwnS 3 1 (.slice s1 N m1) (ics (fillK k N)) Y) ⟨0,Y1,rfl,rfl,rfl,rfl,Nat.zero_le _,o1⟩ sb ?_
 clear o1
 rintro _ _ p _ IH ⟨k,Y,rfl,rfl,rfl,rfl,hk,o1⟩
 refine cq (fun cc=>?_) (fun cc=>?_)
 ·refine ax ?_
  refine xuk rfl rfl o1 (by rw[xkq,xpf om];omega) ?_
  refine xjv rfl rfl o1 xox rfl rfl rfl (ics_at (by rw[xpf om];omega)) (Nat.le_refl _) fun Y' o'=>?_
  have o':=o'.as (Eq.trans (b:=ics ((fillK k N).set k 1152921504606846976)) ics_set (by rw[xj8 om]))
  refine ax ?_
  exact xnq (IH _ _ _ om ⟨k+1,Y',rfl,rfl,rfl,rfl,om,o'⟩)
 obtain rfl:N=k:=om
 refine ax ?_
 refine xuk (i:=N-2) rfl (by show some ([],Value.int .i64 _)=_;rw[show(N:Int)-2=((N-2:Nat):Int) by omega]) o1 (by rw[xkq,xpf om];omega) ?_
 refine xjv rfl rfl o1 xox rfl rfl rfl (ics_at (by rw[xpf om];omega)) (Nat.le_refl _) fun Y' o'=>?_
 have hsp:t.sp=N-2:=by unfold Tn.sp;omega
 have o':=o'.as (Eq.trans (b:=ics ((fillK N N).set (N-2) 0)) ics_set (show _=ics (sweeps (arcsL t wi d) 0 (lab0 N t.sp)).c by rw[yij,<- hsp];rfl))
 have o2:=o2.as (show _=acs (sweeps (arcsL t wi d) 0 (lab0 N t.sp)).b from rfl)
 refine ax ?_
 refine xhw (LL':=[marksP [],Y',[(b5,.cells #[.slice s2 N m2] 179 (0,0))],Y2,[(b4,.cells #[.slice s1 N m1] 23 (0,0))]]) ?_ (fun h s=>by simpa[marksP]using s)
 refine yww (rs₀:=[]) rfl (fun m_ rs l p_ L_=>∃(j:Nat)(Y1 Y2:Pcs),m_=N-j/\l=[(0,none,.pointer (some ⟨bt,0,none⟩)),(4,none,.int .i64 (N:Nat)),(5,none,.pointer (some ⟨b4,0,none⟩)),(6,none,.pointer (some ⟨b5,0,none⟩)),(42,none,.int .i64 (N:Nat)),(43,none,.int .i64 (j:Nat))]/\p_=p/\L_=[marksP rs,Y1,[(b5,.cells #[.slice s2 N m2] 179 (0,0))],Y2,[(b4,.cells #[.slice s1 N m1] 23 (0,0))]]/\j<=N/\OwnS 3 1 (.slice s1 N m1) (ics (sweeps (arcsL t wi d) j (lab0 N t.sp)).c) Y1/\OwnS 183 5 (.slice s2 N m2) (acs (sweeps (arcsL t wi d) j (lab0 N t.sp)).b) Y2/\LabB (sweeps (arcsL t wi d) j (lab0 N t.sp)) (48*j)) ⟨0,Y',Y2,rfl,rfl,rfl,rfl,Nat.zero_le _,o',o2,LabB.start⟩ sb ?_
 clear IH o1 o2 o'
 rintro _ rs _ p _ IH ⟨j,Y1,Y2,rfl,rfl,rfl,rfl,hj,o1,o2,hlb⟩
 refine cq (fun cc=>?_) (fun cc=>?_)
 ·refine ax ?_
  refine xm4 (fun i L=>∃Y1 Y2,L=[marksP rs,Y1,[(b5,.cells #[.slice s2 N m2] 179 (0,0))],Y2,[(b4,.cells #[.slice s1 N m1] 23 (0,0))]]/\OwnS 3 1 (.slice s1 N m1) (ics (((arcsL t wi d).take i).foldl rel (sweeps (arcsL t wi d) j (lab0 N t.sp))).c) Y1/\OwnS 183 5 (.slice s2 N m2) (acs (((arcsL t wi d).take i).foldl rel (sweeps (arcsL t wi d) j (lab0 N t.sp))).b) Y2/\LabB (((arcsL t wi d).take i).foldl rel (sweeps (arcsL t wi d) j (lab0 N t.sp))) (48*j+i)) rfl (yzm T O wi D Dv S hb) ⟨Y1,Y2,rfl,o1,o2,hlb⟩ ?_ ?_ rfl (fun i hi=>by rw[List.length_map]at hi;simp[List.getD_eq_getElem?_getD,hi])
  ·intro lo lp i _ p' C c₁ cs₁ Stop₁ hi le ⟨Y1,Y2,e,q1,q2,hb_⟩ hrd nx
   subst e
   rw[List.length_map]at hi
   obtain⟨x,hx⟩:∃x,x=(arcsL t wi d)[i]:=⟨_,rfl⟩
   have e:((arcsL t wi d).map fun x=>[arcV x]).getD i []=[arcV x]:=by simp[List.getD_eq_getElem?_getD,hi,hx]
   rw[e]
   obtain⟨U,hU⟩:∃U,U=((arcsL t wi d).take i).foldl rel (sweeps (arcsL t wi d) j (lab0 N t.sp)):=⟨_,rfl⟩
   have eU:((arcsL t wi d).take (i+1)).foldl rel (sweeps (arcsL t wi d) j (lab0 N t.sp))=rel U x:=by rw[hU,hx,List.take_succ_eq_append_getElem hi,yej]
   have lc:U.c.length=N:=by rw[hU];exact lenc
   have lb:U.b.length=N:=by rw[hU];exact lenb
   rw[<- hU]at q1 q2 hb_
   have hm_:x∈arcsL t wi d:=by rw[hx];exact List.getElem_mem hi
   have hn_:=xqc O.y x hm_
   have hcC_:=xfl O.toOk S Dv x hm_
   have hc_:=hcC_
   have h48_:=xv6 (w:=wi) (d:=d) O.toOk
   have eC_:cC=40353607001:=by decide
   rw[eC_]at hc_
   simp only[nN]at hn_
   have hB:Go.X.Bf.L U x.fr<1152921504606846976-> -30000000000000<=Go.X.Bf.L U x.fr/\Go.X.Bf.L U x.fr<=30000000000000:=fun c=>by
    have z:=hb_ x.fr c;omega
   clear hU hx e
   show RE _ _ ((47,none,.agg #[.int .i64 ((x.fr:Nat):Int),.int .i64 ((x.to:Nat):Int),.int .i64 x.cost,.int .i64 x.way,.int .i64 x.more])::_) _ _
   refine lq fun b8=>?_
   refine ax ?_
   dsimp only at nx⊢
   refine xrr hrd ?_
   refine ax ?_
   refine xjx [] R20 ?_
   refine ex ?_
   refine xkk rfl rfl rfl rfl sdt sdt q1 (by rw[xkq];omega) ?_
   refine ex ?_
   refine xcw rfl rfl rfl sdt q1 xox (xlh om) rfl ?_
   refine ex ?_
   refine xkk rfl rfl rfl rfl sdu sdu q1 (by rw[xkq];omega) ?_
   refine ex ?_
   refine xcw rfl rfl rfl sdu q1 xox (xlh om) rfl ?_
   refine ex ?_
   refine xkk rfl rfl rfl rfl sdu sdu q1 (by rw[xkq];omega) ?_
   refine ex ?_
   refine xcw rfl rfl rfl sdu q1 xox (xlh om) rfl ?_
   refine ex ?_
   refine cq (fun c2=>?_) (fun c2=>?_)
   ·have c3:Go.X.Bf.L U x.fr<1152921504606846976/\Go.X.Bf.L U x.fr+x.cost<Go.X.Bf.L U x.to:=by simpa using c2
    refine xp4 [16] R17 Y1 ?_
    refine ex ?_
    refine xkk rfl rfl rfl rfl sdt sdt q1 (by rw[xkq];omega) ?_
    refine ex ?_
    refine xb3 rfl rfl rfl sdt q1 xox (xlh om) rfl ?_
    refine ex ?_
    refine xkk rfl rfl rfl rfl sdt sdt q1 (by rw[xkq];omega) ?_
    refine ybg rfl rfl rfl q1 xox rfl rfl rfl (xlh om) (Nat.le_refl _) fun Y3 o3=>?_
    refine ex ?_
    have o3:=o3.as (Eq.trans (b:=ics (U.c.set x.to (Go.X.Bf.L U x.fr+x.cost))) ics_set (show _=ics (rel U x).c by rw[yex c3.1 c3.2]))
    refine ax ?_
    refine xuk rfl rfl q2 (by rw[xav];omega) ?_
    refine xjv rfl rfl q2 xox rfl rfl rfl (xe3 om) (Nat.le_refl _) fun Y4 o4=>?_
    have o4:=o4.as (Eq.trans (b:=acs (U.b.set x.to x)) (yin (x:=x)) (show _=acs (rel U x).b by rw[yex c3.1 c3.2]))
    refine ax ?_
    exact xnq (nx [] _ ⟨Y3,Y4,rfl,by rw[eU];exact o3,by rw[eU];exact o4,by rw[eU];exact LabB.step hb_ om hcC_⟩)
   ·have c3:¬ Go.X.Bf.L U x.fr<1152921504606846976\/ ¬ Go.X.Bf.L U x.fr+x.cost<Go.X.Bf.L U x.to:=by
     by_cases c:Go.X.Bf.L U x.fr<1152921504606846976
     ·exact .inr fun z=>c2 (by simp[c,z])
     ·exact .inl c
    have eR:rel U x=U:=c3.elim yvh yuh
    refine ax ?_
    exact xnq (nx [] _ ⟨Y1,Y2,rfl,by rw[eU,eR];exact q1,by rw[eU,eR];exact q2,by rw[eU,];exact LabB.step hb_ om hcC_⟩)
  ·intro r _ ⟨Y1,Y2,e,q1,q2,hb_⟩
   subst e
   rw[List.length_map,List.take_length]at q1 q2 hb_
   dsimp only
   refine ax ?_
   refine yxh (rs:=rs) ?_
   have h48_:=xv6 (w:=wi) (d:=d) O.toOk
   exact xnq (IH (r::rs) _ _ _ om ⟨j+1,Y1,Y2,rfl,rfl,rfl,rfl,om,q1,q2,LabB.mono hb_ om⟩)
 obtain rfl:N=j:=om
 have hB:sweeps (arcsL t wi d) N (lab0 N t.sp)=bf t wi d:=by rw[hN];rfl
 rw[hB]at o1 o2
 clear IH hlb hB
 have hbl:(bf t wi d).c.length=N:=by rw[hN];exact ycn
 have hbb:(bf t wi d).b.length=N:=by rw[hN];exact ydn
 refine ax ?_
 refine ybp 183 5 fun o9=>?_
 refine xuk (i:=N-1) rfl (by show some ([],Value.int .i64 _)=_;rw[show(N:Int)-1=((N-1:Nat):Int) by omega]) o1 (by rw[xkq];omega) ?_
 refine xgh rfl o1 xox (xlh om) rfl ?_
 refine ax ?_
 have hsi:Go.X.Bf.L (bf t wi d) (N-1)=costL t wi d:=by rw[hN];rfl
 rw[hsi]
 refine xiq rfl (fun c3=>?_) (fun c3=>?_)
 ·have hcf:costL t wi d<far:=by rw[xqf];exact c3
  have hw_:=(G.find O.toOk S).way hcf
  have hpl:=xu4 O.toOk S G
  refine ax ?_
  refine xih (l':=[(4,none,.int .i64 (N:Nat)),(5,none,.pointer (some ⟨b4,0,none⟩)),(6,none,.pointer (some ⟨b5,0,none⟩)),(9,none,.slice none 0 0),(10,none,.int .i64 ((N-1:Nat):Int))]) ?_ ⟨rfl,rfl,rfl,rfl,by show some (none,Value.int .i64 _)=_;rw[show(N:Int)-1=((N-1:Nat):Int) by omega],trivial⟩
  refine xpq (fun m_ l p_ L_=>∃(n:Nat)(acc r:List Go.X.Bf.Arc)(w:Value)(Y:Pcs),m_=r.length/\l=[(4,none,.int .i64 (N:Nat)),(5,none,.pointer (some ⟨b4,0,none⟩)),(6,none,.pointer (some ⟨b5,0,none⟩)),(9,none,w),(10,none,.int .i64 (n:Nat))]/\p_=p/\L_=[Y,marksP rs,Y1,[(b5,.cells #[.slice s2 N m2] 179 (0,0))],Y2,[(b4,.cells #[.slice s1 N m1] 23 (0,0))]]/\n<N/\Chain (bf t wi d) t.sp n r/\acc++r=pathL t wi d/\(∀a∈r,a∈arcsL t wi d)/\OwnS 183 5 w (acs acc) Y) ⟨N-1,[],pathL t wi d,.slice none 0 0,[],rfl,rfl,rfl,rfl,om,(show N-1=t.si by unfold Tn.si;omega) ▸ hw_.2.1,rfl,fun a ha=>(hw_.2.2.2 a ha).1,o9⟩ sb ?_
  clear o9
  rintro _ _ p _ IH ⟨n,acc,r,w,Y,rfl,rfl,rfl,rfl,hn6,hC,hP,hr,o3⟩
  have hla:=congrArg List.length hP
  simp only[List.length_append]at hla
  refine cq (fun c4=>?_) (fun c4=>?_)
  ·obtain⟨r',hr_,hC'⟩:=Chain.cases' hC (show n≠t.sp by rw[hsp];intro e;apply c4;omega)
   subst hr_
   simp only[List.length_cons]at hla
   refine ax ?_
   refine xuk rfl rfl o2 (by rw[xav];omega) ?_
   refine ymh rfl o2 rfl (xe3 om) ?_
   refine ax ?_
   refine xdz rfl fun v4 Y4 o4=>?_
   have o4:OwnS 183 5 v4 (acs [Go.X.Bf.B (bf t wi d) n]) Y4:=o4
   refine ax ?_
   refine xcf rfl rfl o3 o4 (xl2 rfl) (by rw[xav,xav];simp only[List.length_singleton];omega) fun v5 Y5 o5=>?_
   have o5:=o5.as (ytd acc (Go.X.Bf.B (bf t wi d) n))
   refine ax ?_
   refine xuk rfl rfl o2 (by rw[xav];omega) ?_
   refine ax ?_
   refine xgh rfl o2 (j:=0) rfl (xe3 om) rfl ?_
   refine ax ?_
   have z_:=xqc O.y _ (hr _ (List.mem_cons_self ..))
   simp only[nN]at z_
   exact xnq (IH _ _ _ (by simp) ⟨(Go.X.Bf.B (bf t wi d) n).fr,acc++[Go.X.Bf.B (bf t wi d) n],r',v5,Y5,rfl,rfl,rfl,rfl,om,hC',by rw[List.append_assoc];exact hP,fun a ha=>hr a (List.mem_cons_of_mem _ ha),o5⟩)
  have hrn:=Chain.nil' hC (show n=t.sp by rw[hsp];apply Classical.byContradiction;intro z;apply c4;omega)
  subst hrn
  rw[List.append_nil]at hP
  rw[hP]at o3
  refine ax ?_
  refine xjx [] R7 ?_
  refine ex ?_
  refine xkk (j:=N-1) rfl rfl rfl (by show some (_,Value.int .i64 _)=_;rw[show(N:Int)-1=((N-1:Nat):Int) by omega]) sdt sdt o1 (by rw[xkq];omega) ?_
  refine xcw rfl rfl rfl sdt o1 xox (xlh om) rfl ?_
  refine ex ?_
  refine ax ?_
  dsimp only
  rw[hsi]
  exact xpr (rs:=rs) (vs:=[w,.int .i64 (costL t wi d)]) func111 rfl rsv fun _ H_=>K _ _ ⟨w,Y,⟨rfl,o3⟩,newR H_⟩
 ·refine ax ?_
  refine xjx [] R7 ?_
  refine ex ?_
  refine xkk (j:=N-1) rfl rfl rfl (by show some (_,Value.int .i64 _)=_;rw[show(N:Int)-1=((N-1:Nat):Int) by omega]) sdt sdt o1 (by rw[xkq];omega) ?_
  refine xcw rfl rfl rfl sdt o1 xox (xlh om) rfl ?_
  refine ex ?_
  refine ax ?_
  dsimp only
  rw[hsi]
  have o9:=o9.as (show _=acs (pathL t wi d) by rw[pathL,if_neg (fun z=>c3 (by rw[xqf]at z;exact z))];rfl)
  exact xpr (rs:=rs) (vs:=[.slice none 0 0,.int .i64 (costL t wi d)]) func111 rfl rsv fun _ H_=>K _ _ ⟨.slice none 0 0,[],⟨rfl,o9⟩,newR H_⟩
end Go.Proofs.YtjcakmlipohaeaaGreatDoor
namespace Go.Proofs.YtjcakmlipohaeaaGreatDoor
open Go.Proofs.Tryz
open Go.X Go.X.Flow Go.Conc
open Go.X.Bf (a0)
set_option maxHeartbeats 8000000 in
theorem c55(md:Md){h:Heap}{p:PHeap}(hp:Per p h)(a1 a2 a3:Option Addr)(c1 c2 c3:Nat)(t:Tn)(T:TownP p a1 t.nH a2 t.nW a3 t.m t)(O:OkT t)(wi:Wi)(S:Sg wi):
 CallsX prog md 55 #[.agg #[.slice a1 t.nH c1,.slice a2 t.nW c2,.slice a3 t.m c3],.agg #[.int .i64 wi.house,.int .i64 wi.well,.int .i64 wi.sign]] h fun v h'=>∃Y,OwnS 3 1 v (ics (fairP t wi)) Y/\New h h' Y:=by
 have oH:=O.nh
 have oW:=O.nw
 have oM:=O.nm
 refine xfq hp func55 fun _ _ _ K=>?_
 refine xjq rfl fun b1=>?_
 refine bq fun b2=>?_
 refine ax ?_
 refine xjx [5] R6 ?_
 refine ex ?_
 refine yqm (n:=t.m) (zc:=[.int .i64 0]) rfl rfl rfl om fun v Y o=>?_
 obtain⟨a9,c9,rfl,-⟩:=o.val
 rw[List.length_replicate]at o⊢
 have o:=o.as (ydx _)
 refine ex ?_
 refine bq fun b5=>?_
 refine ax ?_
 refine xhw (LL':=[[(b5,.cells #[.slice a1 t.nH c1,.slice a2 t.nW c2,.slice a3 t.m c3,.int .i64 wi.house,.int .i64 wi.well,.int .i64 wi.sign,.slice a9 t.m c9] 178 (0,0))],Y]) ?_ (fun h s=>s.sub (List.Sublist.cons_cons _ (List.Sublist.cons _ (List.Sublist.cons _ (List.Sublist.refl _)))))
 refine xpq (fun m_ l p_ L_=>∃(n:Nat)(d:List Int)(Y:Pcs),m_=n/\l=[(5,none,.pointer (some ⟨b5,0,none⟩))]/\p_=p/\L_=[[(b5,.cells #[.slice a1 t.nH c1,.slice a2 t.nW c2,.slice a3 t.m c3,.int .i64 wi.house,.int .i64 wi.well,.int .i64 wi.sign,.slice a9 t.m c9] 178 (0,0))],Y]/\Flow.Good t wi d/\sm t.nH t.hv-tot t d<(n:Int)+1/\fairF t wi (n+1) d=fairP t wi/\OwnS 3 1 (.slice a9 t.m c9) (ics d) Y) ⟨(sm t.nH t.hv).toNat,List.replicate t.m 0,Y,rfl,rfl,rfl,rfl,Flow.Good.start O.toOk S,xk8 O.toOk,rfl,o⟩ sb ?_
 clear o
 rintro n _ p _ IH ⟨_,d,Y,rfl,rfl,rfl,rfl,hG,hN,hF,o1⟩
 have hlx:=hG.div.len
 have hb9:=yis hG.div (fun i hi=>yds O hG.div hi)
 refine ax ?_
 refine xwl (Q:=fun v Y=>∃w,v=.tuple #[w,.int .i64 (costL t wi d)]/\OwnS 183 5 w (acs (pathL t wi d)) Y) (first:=[]) rfl rfl (fun h s=>(yrb (n:=t.m) o1 (by rw[xkq];exact hlx) s (fun x h=>by simp[h]) (bt:=b5) (ob:=.cells #[.slice a1 t.nH c1,.slice a2 t.nW c2,.slice a3 t.m c3,.int .i64 wi.house,.int .i64 wi.well,.int .i64 wi.sign,.slice a9 t.m c9] 178 (0,0)) (by simp) fun p_ a_ c_ hp_ le_ hv_ D_ hb_=>c111 md hp_ a1 a2 a3 c1 c2 c3 t (TownP.mono T le_) O wi a_ c_ d D_ hG.div S b5 _ _ (hv_ ▸ hb_) hG).mono fun v h'⟨w,Y,q,n⟩=>⟨Y,⟨w,q⟩,n⟩) ?_
 rintro _ Y2 ⟨w,rfl,o2⟩
 refine cq (fun cc=>?_) (fun cc=>?_)
 ·refine ax ?_
  exact K.r rfl rfl fun _ H_=>⟨Y,o1.as (by rw[<- hF,xl8 cc]),newR H_⟩
 obtain⟨n',hn_,hG',hn',hF'⟩:=ylj O.toOk S hG cc hN hF
 have hcf:costL t wi d<Go.X.Bf.far:=by rw[xqf];omega
 have hw_:=(hG.find O.toOk S).way hcf
 have hpl:=xu4 O.toOk S hG
 have hmo:=fun a ha=>(ykv (hw_.2.2.2 a ha).1).2
 have hwy:=fun a ha=>(ykv (hw_.2.2.2 a ha).1).1
 refine ax ?_
 refine xrb o2 (xav _) fun p1 a19 cp le ev D2=>?_
 subst ev
 refine ax ?_
 refine xpq (fun m_ l p_ L_=>∃(k:Nat)(Y:Pcs),m_=(pathL t wi d).length-k/\l=[(5,none,.pointer (some ⟨b5,0,none⟩)),(29,none,.slice a19 (pathL t wi d).length cp),(30,none,.int .i64 ((pathL t wi d).length:Nat)),(31,none,.int .i64 (k:Nat))]/\p_=p1/\L_=[[(b5,.cells #[.slice a1 t.nH c1,.slice a2 t.nW c2,.slice a3 t.m c3,.int .i64 wi.house,.int .i64 wi.well,.int .i64 wi.sign,.slice a9 t.m c9] 178 (0,0))],Y]/\k<=(pathL t wi d).length/\OwnS 3 1 (.slice a9 t.m c9) (ics (augK d (pathL t wi d) k)) Y) ⟨0,Y,rfl,rfl,rfl,rfl,Nat.zero_le _,by rw[xa1];exact o1⟩ sb ?_
 clear o1 o2
 rintro _ _ p1 _ IH2 ⟨k,Y,rfl,rfl,rfl,rfl,hk,o2⟩
 have hlk:(augK d (pathL t wi d) k).length=t.m:=augK_len.trans hG.div.len
 have hbk:=yiv hmo hb9 k hk
 have D3:Arcs p1 a19 (pathL t wi d).length (pathL t wi d):=D2
 refine cq (fun cd=>?_) (fun cd=>?_)
 ·have z1:=hwy _ (xis (show k<(pathL t wi d).length by omega))
  have z2:=hmo _ (xis (show k<(pathL t wi d).length by omega))
  have z3:=hbk ((pathL t wi d).getD k a0).way.toNat
  refine ax ?_
  refine xqk rfl (D3.all om) ?_
  refine xtq fun b9=>?_
  refine cq (fun ce=>?_) (fun ce=>?_)
  ·refine xjx [] R10 ?_
   refine ex ?_
   refine xel rfl rfl rfl rfl sdt sdt o2 (xpx ⟨ce,by rw[xkq,hlk];omega⟩) ?_
   refine xcw rfl rfl rfl sdt o2 xox (ics_at (by rw[hlk];omega)) rfl ?_
   refine ex ?_
   refine ax ?_
   refine xuw rfl rfl o2 ce (by rw[xkq,hlk];omega) ?_
   refine xjv rfl rfl o2 xox rfl rfl rfl (ics_at (by rw[hlk];omega)) (Nat.le_refl _) fun Y3 o3=>?_
   have o3:=o3.as (Eq.trans (b:=ics ((augK d (pathL t wi d) k).set ((pathL t wi d).getD k a0).way.toNat ((augK d (pathL t wi d) k).getD ((pathL t wi d).getD k a0).way.toNat 0+((pathL t wi d).getD k a0).more))) ics_set (congrArg ics (yod om ce)))
   refine ax ?_
   exact xnq (IH2 _ _ _ om ⟨k+1,Y3,rfl,rfl,rfl,rfl,om,o3⟩)
  ·refine ax ?_
   exact xnq (IH2 _ _ _ om ⟨k+1,Y,rfl,rfl,rfl,rfl,om,o2.as (congrArg ics (yfn om ce))⟩)
 refine ax ?_
 refine xkv le ?_
 exact xnq (IH _ _ _ om ⟨n',aug d (pathL t wi d),Y,rfl,rfl,rfl,rfl,hG',hn',hF',o2.as (by rw[ypd om])⟩)
end Go.Proofs.YtjcakmlipohaeaaGreatDoor
namespace Go.Proofs.YtjcakmlipohaeaaGreatDoor
open Go.Proofs.Tryz
open Go.X Go.X.Flow Go.Conc
theorem xjm(md:Md){h h₀:Heap}{B₀:List Nat}{p:PHeap}{L X:Pcs}{a1 a2 a3:Option Addr}{c1 c2 c3:Nat}{t:Tn}(T:TownP p a1 t.nH a2 t.nW a3 t.m t)(O:OkT t){w:Value}{d:List Int}(Dv:Div t d)(o:OwnS 3 1 w (ics d) X)(s:St h₀ B₀ p h (X++L)):
 CallsX prog md 71 #[.agg #[.slice a1 t.nH c1,.slice a2 t.nW c2,.slice a3 t.m c3],w] h fun v h'=>∃Y,(∃w1 w2 Y1 Y2,v=.tuple #[w1,w2]/\OwnS 3 1 w1 (ics (lackL t d)) Y1/\OwnS 3 1 w2 (ics (hasL t d)) Y2/\Y=Y1++Y2)/\New h h' Y:=
 yil (n:=t.m) o (by rw[xkq];exact Dv.len) s (fun x hx=>List.mem_append_left _ hx) fun p' a cap hp le hv D=>by
  subst hv
  exact ynz md h p' hp a1 a2 a3 c1 c2 c3 t (TownP.mono T le) O a cap d D Dv
theorem c67(md:Md){h:Heap}{p:PHeap}(hp:Per p h)(a1 a2 a3:Option Addr)(c1 c2 c3:Nat)(t:Tn)(T:TownP p a1 t.nH a2 t.nW a3 t.m t)(O:OkT t){tN:TypeId}{z:Nat×Nat}(hG:p 0=some (.cells #[.int .i64 (-1),.int .i64 (-1),.int .i64 0] tN z)):
 CallsX prog md 67 #[.agg #[.slice a1 t.nH c1,.slice a2 t.nW c2,.slice a3 t.m c3]] h fun v h'=>∃Y,OwnS 3 1 v (ics (LK t)) Y/\New h h' Y:=by
 have oH:=O.nh
 refine xfq hp func67 fun _ _ _ K=>?_
 refine xjq rfl fun b1=>?_
 refine ax ?_
 refine xjx [3,4] R9 ?_
 refine ex ?_
 refine xqv rfl rfl rfl (fun _ pe=>c55 md pe _ _ _ _ _ _ t T O none0 xvb) ?_
 intro v Y o
 refine xbg Y rfl rfl rfl (fun h L s=>xjm md T O (xkw O.toOk xvb).div o s) ?_
 rintro _ _ ⟨w1,w2,Y1,Y2,rfl,o1,o2,rfl⟩
 refine ex ?_
 refine ax ?_
 refine xaf Y1 Y2 ?_
 refine ax ?_
 refine xyl Y1 rfl rfl (fun h C s=>c131 md w1 _ o1 (by rw[xwb];omega) s) ?_
 rintro _ Y3 ⟨rfl,o3⟩
 refine ax ?_
 exact K.r rfl rfl fun _ H_=>⟨Y3,o3,newR H_⟩
theorem c13(md:Md){h:Heap}{p:PHeap}(hp:Per p h)(a1 a2 a3:Option Addr)(c1 c2 c3:Nat)(t:Tn)(T:TownP p a1 t.nH a2 t.nW a3 t.m t)(hn:t.nH<=2^30/\t.nW<=2^30/\t.m<=2^30){tN:TypeId}{z:Nat×Nat}(hG:p 0=some (.cells #[.int .i64 (-1),.int .i64 (-1),.int .i64 0] tN z)):
 CallsX prog md 13 #[.agg #[.slice a1 t.nH c1,.slice a2 t.nW c2,.slice a3 t.m c3]] h fun v h'=>v=.tuple #[.int .i64 (mostC t),.int .i64 (chkB t)]/\Keep h h':=by
 refine xfq hp func13 fun _ _ _ K=>?_
 refine xjq rfl fun b1=>?_
 refine ax ?_
 refine xlq rfl rfl (fun _ pe=>c53 md _ _ pe _ _ _ _ _ _ t T hn) ?_
 refine cq (fun cc=>?_) (fun cc=>?_)
 ·refine ax ?_
  exact K.r rfl rfl fun _ H_=>⟨by rw[mostC,if_neg cc];rfl,H_.kept⟩
 have cc:=Classical.not_not.1 cc
 have O:OkT t:=xgm cc
 have oM:=O.nm
 refine ax ?_
 refine xck rfl rfl (fun _ pe=>c55 md pe _ _ _ _ _ _ t T O none0 xvb) ?_
 intro v Y o
 refine xrb o (by rw[xkq,ymj]) fun p1 a n le ev D=>?_
 subst ev
 refine xlq rfl rfl (fun _ pe=>c54 md _ _ pe _ _ _ (fairP t none0) D om (fun i hi=>by have z_:=xrf O xvb i hi;omega)) ?_
 refine ax ?_
 exact K.r rfl rfl fun _ H_=>⟨by rw[mostC,if_pos cc,cc];rfl,H_.kept⟩
theorem c26(md:Md){h:Heap}{p:PHeap}(hp:Per p h)(a1 a2 a3:Option Addr)(c1 c2 c3:Nat)(t:Tn)(T:TownP p a1 t.nH a2 t.nW a3 t.m t)(hn:t.nH<=2^30/\t.nW<=2^30/\t.m<=2^30){tN:TypeId}{z:Nat×Nat}(hG:p 0=some (.cells #[.int .i64 (-1),.int .i64 (-1),.int .i64 0] tN z)):
 CallsX prog md 26 #[.agg #[.slice a1 t.nH c1,.slice a2 t.nW c2,.slice a3 t.m c3]] h fun v h'=>∃Y,(∃w,v=.tuple #[w,.int .i64 (chkB t)]/\OwnS 3 1 w (ics (LKc t)) Y)/\New h h' Y:=by
 refine xfq hp func26 fun _ _ _ K=>?_
 refine xjq rfl fun b1=>?_
 refine ax ?_
 refine xlq rfl rfl (fun _ pe=>c53 md _ _ pe _ _ _ _ _ _ t T hn) ?_
 refine cq (fun cc=>?_) (fun cc=>?_)
 ·refine ax ?_
  refine xhw (LL':=[[]]) ?_ (fun h s=>s.sub (List.nil_sublist _))
  exact K.r rfl rfl fun _ H_=>⟨[],⟨.slice none 0 0,rfl,(OwnS.empty _ _).as (by rw[LKc,if_neg cc];rfl)⟩,newR H_⟩
 have cc:=Classical.not_not.1 cc
 have O:OkT t:=xgm cc
 refine ax ?_
 refine xck rfl rfl (fun _ pe=>c67 md pe _ _ _ _ _ _ t T O hG) ?_
 intro v Y o
 refine ax ?_
 exact K.r rfl rfl fun _ H_=>⟨Y,⟨v,by rw[cc];rfl,o.as (by rw[LKc,if_pos cc])⟩,newR H_⟩
theorem c70(md:Md){h:Heap}{p:PHeap}(hp:Per p h)(a1 a2 a3:Option Addr)(c1 c2 c3:Nat)(t:Tn)(T:TownP p a1 t.nH a2 t.nW a3 t.m t)(O:OkT t)(z s:Int)(S:Sg ⟨z,-1,s⟩)(hz:0<=z/\z.toNat<t.nH)(bT bZ:Nat)(T1 T2:TypeId)(q1 q2:Nat×Nat)
 (hT:p bT=some (.cells #[.slice a1 t.nH c1,.slice a2 t.nW c2,.slice a3 t.m c3] T1 q1))(hZ:p bZ=some (.cells #[.int .i64 z] T2 q2)):
 CallsX prog md 70 #[.int .i64 s,.pointer (some ⟨bT,0,none⟩),.pointer (some ⟨bZ,0,none⟩)] h fun v h'=>v=.int .i64 (drawV t z s)/\Keep h h':=by
 have oH:=O.nh
 refine xez hp func70 fun _ _ _ K=>?_
 refine ax ?_
 refine xjx [5,6] R11 ?_
 refine ex ?_
 refine xqv rfl rfl rfl (fun _ pe=>c55 md pe _ _ _ _ _ _ t T O ⟨z,-1,s⟩ S) ?_
 intro v Y o
 have Dv:=(xkw O.toOk S).div
 refine xbg Y rfl rfl rfl (fun h L s=>xjm md T O Dv o s) ?_
 rintro _ _ ⟨w1,w2,Y1,Y2,rfl,o1,o2,rfl⟩
 refine ex ?_
 refine ax ?_
 refine xwk Y1 Y2 ?_
 have Th:=T.h
 have hb1:=yqz O Dv (h:=z.toNat) hz.2
 have hb2:0<=t.hs.getD z.toNat 0/\t.hs.getD z.toNat 0<=9:=O.h z.toNat hz.2
 refine xjx [] R9 ?_
 refine ex ?_
 refine xsj rfl rfl rfl rfl sdt sdt (xpx ⟨⟨hz.1,om⟩,Sl.ne Th om⟩) ?_
 refine xdj rfl rfl rfl sdt (xpx (Ints.get Th hz.2)) ?_
 refine ex ?_
 refine xel (z:=z) rfl rfl rfl rfl sdt sdt o1 (xpx ⟨hz.1,by have e:=xwb (t:=t) (d:=fairP t ⟨z,-1,s⟩);rw[xkq];omega⟩) ?_
 refine xcw rfl rfl rfl sdt o1 xox (xm5 (d:=fairP t ⟨z,-1,s⟩) hz.2) rfl ?_
 refine ex ?_
 refine ax ?_
 have e:t.hv z.toNat-lack t (fairP t ⟨z,-1,s⟩) z.toNat=drawV t z s:=by unfold lack drawV;omega
 refine xqq func70 rfl rfl fun _ H_=>K _ _ ⟨?_,H_.kept⟩
 exact congrArg (Value.int .i64) e
theorem c73(md:Md){h:Heap}{p:PHeap}(hp:Per p h)(a1 a2 a3:Option Addr)(c1 c2 c3:Nat)(t:Tn)(T:TownP p a1 t.nH a2 t.nW a3 t.m t)(O:OkT t)(z s:Int)(S:Sg ⟨-1,z,s⟩)(hz:0<=z/\z.toNat<t.nW)(bT bZ:Nat)(T1 T2:TypeId)(q1 q2:Nat×Nat)
 (hT:p bT=some (.cells #[.slice a1 t.nH c1,.slice a2 t.nW c2,.slice a3 t.m c3] T1 q1))(hZ:p bZ=some (.cells #[.int .i64 z] T2 q2)):
 CallsX prog md 73 #[.int .i64 s,.pointer (some ⟨bT,0,none⟩),.pointer (some ⟨bZ,0,none⟩)] h fun v h'=>v=.int .i64 (restV t z s)/\Keep h h':=by
 refine xfq hp func73 fun _ _ _ K=>?_
 refine xjx [5,6] R11 ?_
 refine ex ?_
 refine xqv rfl rfl rfl (fun _ pe=>c55 md pe _ _ _ _ _ _ t T O ⟨-1,z,s⟩ S) ?_
 intro v Y o
 have Dv:=(xkw O.toOk S).div
 refine xbg Y rfl rfl rfl (fun h L s=>xjm md T O Dv o s) ?_
 rintro _ _ ⟨w1,w2,Y1,Y2,rfl,o1,o2,rfl⟩
 refine ex ?_
 refine ax ?_
 refine xaf Y1 Y2 ?_
 refine xuw rfl rfl o2 hz.1 (by rw[xkq,xdl];exact hz.2) ?_
 refine xgh rfl o2 xox (ybj hz.2) rfl ?_
 refine ax ?_
 exact K.r rfl rfl fun _ H_=>⟨rfl,H_.kept⟩
theorem c28(md:Md){h:Heap}{p:PHeap}(hp:Per p h)(a1 a2 a3:Option Addr)(c1 c2 c3:Nat)(t:Tn)(T:TownP p a1 t.nH a2 t.nW a3 t.m t)(hn:t.nH<=2^30/\t.nW<=2^30/\t.m<=2^30)(z:Int):
 CallsX prog md 28 #[.agg #[.slice a1 t.nH c1,.slice a2 t.nW c2,.slice a3 t.m c3],.int .i64 z] h fun v h'=>v=.tuple #[.agg #[.int .i64 (houseC t z (-1)),.int .i64 (houseC t z 1)],.int .i64 (askB t (decide (0<=z/\z<=(t.nH:Int)-1)))]/\Keep h h':=by
 refine xfq hp func28 fun _ _ _ K=>?_
 refine xjq rfl fun b2=>?_
 refine bq fun b3=>?_
 refine lq fun b4=>?_
 refine ax ?_
 refine xjx [] R4 ?_
 refine ex ?_
 refine xak rfl rfl rfl rfl trivial (fun _ pe=>c69 md _ _ pe a1 a2 a3 t.nH t.nW t.m c1 c2 c3 om z) ?_
 refine ex ?_
 refine xlq rfl rfl (fun _ pe=>c68 md _ _ pe _ _ _ _ _ _ t T hn (decide (0<=z/\z<=(t.nH:Int)-1))) ?_
 refine cq (fun cc=>?_) (fun cc=>?_)
 ·refine ax ?_
  exact K.e rfl (xqx rfl (.tmp rfl .nil)) fun _ H_=>⟨by rw[houseC,if_neg cc,houseC,if_neg cc];rfl,H_.kept⟩
 have cc:=Classical.not_not.1 cc
 have O:OkT t:=xgm (xvp cc).1
 have hz:=of_decide_eq_true (xvp cc).2
 have oH:=O.nh
 refine ax ?_
 refine xfw (b:=b2) fun p1 le1 h1=>?_
 refine xfw (b:=b3) fun p2 le2 h2=>?_
 have h1:=le2 _ _ h1
 have T2:=TownP.mono T (le1.trans le2)
 refine xhn rfl rfl (fun _ pe=>xgq (by kernel_rfl) (c70 md pe _ _ _ _ _ _ t T2 O z (-1) ⟨(by decide:(-1:Int)<= -1),(by decide:(-1:Int)<=1)⟩ ⟨hz.1,om⟩ b2 b3 _ _ _ _ h1 h2)) ?_
 refine ax ?_
 refine xhn rfl rfl (fun _ pe=>xgq (by kernel_rfl) (c70 md pe _ _ _ _ _ _ t T2 O z 1 ⟨(by decide:(-1:Int)<=1),(by decide:(1:Int)<=1)⟩ ⟨hz.1,om⟩ b2 b3 _ _ _ _ h1 h2)) ?_
 refine ax ?_
 exact K.e rfl (xqx rfl (.tmp rfl .nil)) fun _ H_=>⟨by rw[houseC,if_pos cc,houseC,if_pos cc,cc];rfl,H_.kept⟩
theorem c29(md:Md){h:Heap}{p:PHeap}(hp:Per p h)(a1 a2 a3:Option Addr)(c1 c2 c3:Nat)(t:Tn)(T:TownP p a1 t.nH a2 t.nW a3 t.m t)(hn:t.nH<=2^30/\t.nW<=2^30/\t.m<=2^30)(z:Int):
 CallsX prog md 29 #[.agg #[.slice a1 t.nH c1,.slice a2 t.nW c2,.slice a3 t.m c3],.int .i64 z] h fun v h'=>v=.tuple #[.int .i64 (dryC t z),.int .i64 (askB t (decide (0<=z/\z<=(t.nW:Int)-1)))]/\Keep h h':=by
 refine xfq hp func29 fun _ _ _ K=>?_
 refine xjq rfl fun b2=>?_
 refine bq fun b3=>?_
 refine ax ?_
 refine xjx [] R4 ?_
 refine ex ?_
 refine xak rfl rfl rfl rfl trivial (fun _ pe=>c72 md _ _ pe a1 a2 a3 t.nH t.nW t.m c1 c2 c3 om z) ?_
 refine ex ?_
 refine xlq rfl rfl (fun _ pe=>c68 md _ _ pe _ _ _ _ _ _ t T hn (decide (0<=z/\z<=(t.nW:Int)-1))) ?_
 refine cq (fun cc=>?_) (fun cc=>?_)
 ·refine ax ?_
  exact K.r rfl rfl fun _ H_=>⟨by rw[dryC,if_neg cc];rfl,H_.kept⟩
 have cc:=Classical.not_not.1 cc
 have O:OkT t:=xgm (xvp cc).1
 have hz:=of_decide_eq_true (xvp cc).2
 have oW:=O.nw
 refine ax ?_
 refine xfw (b:=b2) fun p1 le1 h1=>?_
 refine xfw (b:=b3) fun p2 le2 h2=>?_
 have h1:=le2 _ _ h1
 have T2:=TownP.mono T (le1.trans le2)
 refine xhn rfl rfl (fun _ pe=>xgq (by kernel_rfl) (c73 md pe _ _ _ _ _ _ t T2 O z (-1) ⟨(by decide:(-1:Int)<= -1),(by decide:(-1:Int)<=1)⟩ ⟨hz.1,om⟩ b2 b3 _ _ _ _ h1 h2)) ?_
 refine cq (fun cd=>?_) (fun cd=>?_)
 ·refine ax ?_
  exact K.r rfl rfl fun _ H_=>⟨by rw[dryC,if_pos cc,dryV,if_pos cd,cc];rfl,H_.kept⟩
 refine ax ?_
 refine xhn rfl rfl (fun _ pe=>xgq (by kernel_rfl) (c73 md pe _ _ _ _ _ _ t T2 O z 1 ⟨(by decide:(-1:Int)<=1),(by decide:(1:Int)<=1)⟩ ⟨hz.1,om⟩ b2 b3 _ _ _ _ h1 h2)) ?_
 refine cq (fun ce=>?_) (fun ce=>?_)
 ·refine ax ?_
  exact K.r rfl rfl fun _ H_=>⟨by rw[dryC,if_pos cc,dryV,if_neg cd,if_pos ce,cc];rfl,H_.kept⟩
 refine ax ?_
 exact K.r rfl rfl fun _ H_=>⟨by rw[dryC,if_pos cc,dryV,if_neg cd,if_neg ce,cc];rfl,H_.kept⟩
end Go.Proofs.YtjcakmlipohaeaaGreatDoor
namespace Go.X.Flow
open Go.X
theorem ynn{p:PHeap}{b:Nat}{t:TypeId}{z:Nat×Nat}(N:p b=some (.cells (tab64.map fun n=>Value.int .u8 ((n:Nat):Int)).toArray t z)){i:Nat}(h:i<64):pcell p ((⟨b,0,none⟩:Addr).add (i*1))=some (.int .u8 ((tab64.getD i 0:Nat):Int)):=by
 have hl:tab64.length=64:=by decide
 unfold pcell
 rw[xrx,N]
 simp only[Option.isSome_none,Bool.false_eq_true,if_false,Nat.zero_add,Nat.mul_one,List.getElem?_toArray,List.getElem?_map]
 rw[List.getD_eq_getElem?_getD,List.getElem?_eq_getElem om];rfl
end Go.X.Flow
namespace Go.Proofs.YtjcakmlipohaeaaGreatDoor
open Go.Proofs.Tryz
open Go.X Go.X.Flow Go.Conc
theorem c225(md:Md)(h:Heap)(p:PHeap)(hp:Per p h)(x:Nat)(hx:0<x/\x<64){tT:TypeId}{zT:Nat×Nat}(Z:p 3=some (.cells (tab64.map fun n=>Value.int .u8 ((n:Nat):Int)).toArray tT zT)):
 CallsX prog md 225 #[.int .u64 (x:Nat)] h fun v h'=>v=.int .i64 ((tzN x:Nat):Int)/\Keep h h':=by
 have tb:=yxv (tzF x)
 refine xfq hp func225 fun _ _ _ K=>?_
 refine xiq rfl (fun cc=>absurd cc om) (fun cc=>?_)
 refine ax ?_
 refine yff (a:=x) rfl om ?_
 refine ywq (a:=x) (b:=18446744073709551616-x) rfl rfl rfl trivial trivial om ?_
 refine yfp (a:=x &&& (18446744073709551616-x)) (b:=285870213051353865) rfl rfl ?_
 refine xyn (a:=(x &&& (18446744073709551616-x))*285870213051353865%18446744073709551616) (s:=58) rfl rfl rfl trivial trivial (show _<=64 from by omega) ?_
 refine ymq (len:=64) (e:=5) (i:=tzF x) (c:=⟨3,0,none⟩) (by kernel_rfl) rfl rfl (ywd x) ?_
 refine xvk rfl (ynn Z (ywd x)) ?_
 refine xdk (k':=.i64) ⟨_,underlying5⟩ underlying3 rfl (wrZ om) ?_
 refine ax ?_
 exact K.r rfl rfl fun _ H_=>⟨rfl,H_.kept⟩
theorem c132(md:Md)(h:Heap)(p:PHeap)(hp:Per p h)(x:Nat)(hx:0<x/\x<64){tT:TypeId}{zT:Nat×Nat}(Z:p 3=some (.cells (tab64.map fun n=>Value.int .u8 ((n:Nat):Int)).toArray tT zT)):
 CallsX prog md 132 #[.int .u64 (x:Nat)] h fun v h'=>v=.int .i64 ((tzN x:Nat):Int)/\Keep h h':=by
 refine xfq hp func132 fun _ _ _ K=>?_
 refine xiq rfl (fun cc=>absurd cc (fun z=>z)) (fun cc=>?_)
 refine ax ?_
 refine xlq rfl rfl (fun _ pe=>c225 md _ _ pe x hx Z) ?_
 refine ax ?_
 exact K.r rfl rfl fun _ H_=>⟨rfl,H_.kept⟩
theorem c74(md:Md)(h:Heap)(p:PHeap)(hp:Per p h)(g:Nat)(hg:g<64){tT:TypeId}{zT:Nat×Nat}(Z:p 3=some (.cells (tab64.map fun n=>Value.int .u8 ((n:Nat):Int)).toArray tT zT)):
 CallsX prog md 74 #[.int .u64 (g:Nat)] h fun v h'=>∃Y,OwnS 3 1 v (ics (LG g)) Y/\New h h' Y:=by
 refine xfq hp func74 fun _ _ _ K=>?_
 refine xhw (LL':=[[]]) ?_ (fun h s=>s)
 refine xpq (fun m_ l p_ L_=>∃(n q:Nat)(acc:List Int)(w:Value)(Y:Pcs),m_=q+1/\l=[(0,none,.int .u64 (q:Nat)),(3,none,w)]/\p_=p/\L_=[Y]/\q<64/\popL n q=true/\acc++listG n q=LG g/\OwnS 3 1 w (ics acc) Y) ⟨6,g,[],.slice none 0 0,[],rfl,rfl,rfl,rfl,hg,pop6 g hg,rfl,OwnS.empty _ _⟩ sb ?_
 rintro _ _ p _ IH ⟨n,q,acc,w,Y,rfl,rfl,rfl,rfl,hq,hpl,hl,o1⟩
 have hlen:acc.length<=6:=by have z:=congrArg List.length hl;simp only[List.length_append]at z;have z2:=xf1 g hg;omega
 refine cq (fun cc=>?_) (fun cc=>?_)
 ·have hq0:¬ q=0:=om
  obtain⟨n',rfl⟩:∃n',n=n'+1:=by
   cases n with
   |zero=>exact absurd (ynx hpl) hq0
   |succ n'=>exact⟨n',rfl⟩
  have z:=Nat.and_le_right (n:=q) (m:=q-1)
  refine ax ?_
  refine xlq rfl rfl (fun _ pe=>c132 md _ _ pe q om Z) ?_
  refine xdz rfl fun v2 Y2 o2=>?_
  have o2:OwnS 3 1 v2 [[.int .i64 ((tzN q:Nat):Int)]] Y2:=o2
  refine xcf rfl rfl o1 o2 (xl2 rfl) (by rw[xkq];simp only[List.length_singleton];omega) fun v3 Y3 o3=>?_
  have o3:OwnS 3 1 v3 (ics (acc++[((tzN q:Nat):Int)])) Y3:=o3.as (yxb _ _)
  refine ax ?_
  refine ywq (ss':=[]) (a:=q) (b:=q-1) rfl rfl (by show some ([],Value.int .u64 _)=_;rw[show((q:Nat):Int)-1=((q-1:Nat):Int) by omega]) trivial trivial om ?_
  refine ax ?_
  exact xnq (IH _ _ _ om ⟨n',q &&& (q-1),acc++[((tzN q:Nat):Int)],v3,Y3,rfl,rfl,rfl,rfl,om,yox hpl hq0,by rw[List.append_assoc,List.singleton_append,<- xw7 hq0];exact hl,o3⟩)
 have hq0:q=0:=om
 subst hq0
 rw[xv7,List.append_nil]at hl
 refine ax ?_
 exact K.r rfl rfl fun _ H_=>⟨Y,o1.as (by rw[hl]),newR H_⟩
theorem c77(md:Md)(h:Heap)(p:PHeap)(hp:Per p h)(a b:Option Addr)(m n c d:Nat)(xs ys:List Int)(A:Ints p a m xs)(B:Ints p b n ys)(hm:m<=100/\n<=100):
 CallsX prog md 77 #[.slice a m c,.slice b n d] h fun v h'=>v=.int .i64 (cmpL xs ys)/\Keep h h':=by
 have hl1:=A.len
 have hl2:=B.len
 refine xfq hp func77 fun _ _ _ K=>?_
 refine xbz (fun m_ l=>∃k:Nat,m_=m-k/\l=[(0,none,.slice a m c),(1,none,.slice b n d),(9,none,.slice a m c),(10,none,.int .i64 (m:Nat)),(11,none,.int .i64 (k:Nat))]/\(k<=m/\k<=n)/\cmpL (xs.drop k) (ys.drop k)=cmpL xs ys) ⟨0,rfl,rfl,⟨Nat.zero_le _,Nat.zero_le _⟩,by simp⟩ sb ?_
 rintro _ _ IH ⟨k,rfl,rfl,hk,hc⟩
 refine cq (fun cc=>?_) (fun cc=>?_)
 ·refine cq (fun cd=>?_) (fun cd=>?_)
  ·refine ax ?_
   exact K.r rfl rfl fun _ H_=>⟨congrArg (Value.int .i64) (by rw[<- hc];exact(yxk om om).symm),H_.kept⟩
  refine ax ?_
  refine xlq rfl rfl (fun _ pe=>c135 md _ _ pe (xs.getD k 0) (ys.getD k 0)) ?_
  refine cq (fun ce=>?_) (fun ce=>?_)
  ·refine ax ?_
   exact K.r rfl rfl fun _ H_=>⟨congrArg (Value.int .i64) (by rw[<- hc,xw0 om om,if_neg ce]),H_.kept⟩
  refine ax ?_
  exact xnq (IH _ om ⟨k+1,rfl,rfl,om,by rw[<- hc,xw0 (k:=k) om om,if_pos om]⟩)
 refine cq (fun cd=>?_) (fun cd=>?_)
 ·refine ax ?_
  exact K.r rfl rfl fun _ H_=>⟨congrArg (Value.int .i64) (by rw[<- hc];exact(yyk om om).symm),H_.kept⟩
 refine ax ?_
 exact K.r rfl rfl fun _ H_=>⟨congrArg (Value.int .i64) (by rw[<- hc];exact(ydd om om).symm),H_.kept⟩
end Go.Proofs.YtjcakmlipohaeaaGreatDoor
namespace Go.X.Flow
end Go.X.Flow
namespace Go.Proofs.YtjcakmlipohaeaaGreatDoor
open Go.Proofs.Tryz
open Go.X Go.X.Flow Go.Conc
theorem c214(md:Md)(h:Heap)(p:PHeap)(hp:Per p h)(fv:Value)(a:Option Addr)(n c:Nat)(xs:List FWay)(S:Wys p a n xs)(hn:n<=2^40)(q:FWay->Bool)
 (hf:∀h,Per p h-> ∀i,i<n->CallV prog md fv [.agg #[.int .i64 (xs.getD i wz).1,.int .i64 (xs.getD i wz).2]] h fun v h'=>v=.bool (q (xs.getD i wz))/\Keep h h'):
 CallsX prog md 214 #[.slice a n c,fv] h fun v h'=>v=.int .i64 (idxA q xs)/\Keep h h':=by
 have hl:=S.len
 refine xfq hp func214 fun _ _ _ K=>?_
 refine xbz (fun m l=>∃j:Nat,m=n-j/\l=[(0,none,.slice a n c),(1,none,fv),(7,none,.int .i64 n),(8,none,.int .i64 j)]/\j<=n/\ ∀i,i<j->q (xs.getD i wz)=false) ⟨0,rfl,rfl,Nat.zero_le _,om⟩ sb ?_
 rintro _ _ IH ⟨j,rfl,rfl,hj,h1⟩
 refine cq (fun cc=>?_) (fun cc=>?_)
 ·refine ax ?_
  refine xqk rfl (S.all om) ?_
  refine xhn rfl rfl (fun h_ pe=>hf h_ pe j om) ?_
  refine cq (fun ce=>?_) (fun ce=>?_)
  ·refine ax ?_
   exact K.r rfl rfl fun h_ H_=>⟨by rw[idxA_some (z:=wz) (k:=j) om ce h1];rfl,H_.kept⟩
  ·refine ax ?_
   exact xnq (IH _ om ⟨j+1,rfl,rfl,om,upto_st h1 (by simpa using ce)⟩)
 refine ax ?_
 exact K.r rfl rfl fun h_ H_=>⟨by rw[idxA_none (z:=wz) (fun i hi=>h1 i om)];rfl,H_.kept⟩
theorem c134(md:Md)(h:Heap)(p:PHeap)(hp:Per p h)(fv:Value)(a:Option Addr)(n c:Nat)(xs:List FWay)(S:Wys p a n xs)(hn:n<=2^40)(q:FWay->Bool)
 (hf:∀h,Per p h-> ∀i,i<n->CallV prog md fv [.agg #[.int .i64 (xs.getD i wz).1,.int .i64 (xs.getD i wz).2]] h fun v h'=>v=.bool (q (xs.getD i wz))/\Keep h h'):
 CallsX prog md 134 #[.slice a n c,fv] h fun v h'=>v=.bool (decide (0<=idxA q xs))/\Keep h h':=by
 refine xfq hp func134 fun _ _ _ K=>?_
 refine xlq rfl rfl (fun _ pe=>c214 md _ _ pe fv _ _ _ xs S hn q hf) ?_
 refine ax ?_
 exact K.r rfl rfl fun _ H_=>⟨rfl,H_.kept⟩
theorem c133(md:Md)(h:Heap)(p:PHeap)(hp:Per p h)(x y gg w:Nat)(hx:x<=63)(hg:gg<64)(bW bG:Nat)(T1 T2:TypeId)(q1 q2:Nat×Nat)(hW:p bW=some (.cells #[.int .i64 (w:Nat)] T1 q1))(hG:p bG=some (.cells #[.int .u64 (gg:Nat)] T2 q2)):
 CallsX prog md 133 #[.agg #[.int .i64 (x:Nat),.int .i64 (y:Nat)],.pointer (some ⟨bW,0,none⟩),.pointer (some ⟨bG,0,none⟩)] h fun v h'=>v=.bool (shq gg w ((x:Int),(y:Int)))/\Keep h h':=by
 refine xez hp func133 fun _ _ _ K=>?_
 refine bq fun b3=>?_
 refine ax ?_
 refine xyn (a:=gg) (s:=x) rfl rfl rfl sdu sdu (show _<=64 by omega) ?_
 refine ywq (a:=gg / 2^x) (b:=1) rfl rfl rfl sdu sdu ⟨Nat.lt_of_le_of_lt (Nat.div_le_self _ _) om,om⟩ ?_
 refine ax ?_
 refine xqq func133 rfl rfl fun _ H_=>K _ _ ⟨?_,H_.kept⟩
 refine congrArg Value.bool ?_
 simp only[shq,Int.toNat_natCast]
 rw[Bool.eq_iff_iff]
 simp only[Bool.and_eq_true,decide_eq_true_eq]
 omega
theorem ydt(md:Md){h:Heap}{p:PHeap}(hp:Per p h){g w:Nat}{x:FWay}(hx:0<=x.1/\x.1<=63/\0<=x.2)(hg:g<64){bW bG:Nat}{T1 T2:TypeId}{q1 q2:Nat×Nat}(hW:p bW=some (.cells #[.int .i64 (w:Nat)] T1 q1))(hG:p bG=some (.cells #[.int .u64 (g:Nat)] T2 q2)):
 CallsX prog md 133 #[.agg #[.int .i64 x.1,.int .i64 x.2],.pointer (some ⟨bW,0,none⟩),.pointer (some ⟨bG,0,none⟩)] h fun v h'=>v=.bool (shq g w x)/\Keep h h':=by
 obtain⟨a,b⟩:=x
 obtain⟨a,rfl⟩:=Int.eq_ofNat_of_zero_le hx.1
 obtain⟨b,rfl⟩:=Int.eq_ofNat_of_zero_le hx.2.2
 exact c133 md h p hp a b g w (by have:=hx.2.1;simp only at this;omega) hg bW bG _ _ _ _ hW hG
theorem c75(md:Md)(h:Heap)(p:PHeap)(hp:Per p h)(a1 a2 a3:Option Addr)(c1 c2 c3:Nat)(t:Tn)(T:TownP p a1 t.nH a2 t.nW a3 t.m t)(O:OkT t)(g:Nat)(hgk:g<2^t.nH){tT:TypeId}{zT:Nat×Nat}(Z:p 3=some (.cells (tab64.map fun n=>Value.int .u8 ((n:Nat):Int)).toArray tT zT)):
 CallsX prog md 75 #[.int .u64 (g:Nat),.agg #[.slice a1 t.nH c1,.slice a2 t.nW c2,.slice a3 t.m c3]] h fun v h'=>v=.bool (decide (0<shortN t g))/\Keep h h':=by
 have oH:=O.nh
 have oW:=O.nw
 have oM:=O.nm
 have hg64:g<64:=by have z:=yof O.toOk;omega
 have hl6:=xf1 g hg64
 refine xez hp func75 fun _ _ _ K=>?_
 refine bq fun b1=>?_
 refine bq fun b3=>?_
 refine xfw (b:=b1) fun p1 le1 h1=>?_
 refine xfw (b:=b3) fun p2 le2 h3=>?_
 have h1:p2 b1=some (.cells #[.int .u64 (g:Nat)] _ (0,0)):=le2 _ _ h1
 have h3:p2 b3=some (.cells #[.slice a1 t.nH c1,.slice a2 t.nW c2,.slice a3 t.m c3] _ (0,0)):=h3
 have T:=TownP.mono T (le1.trans le2)
 have Z2:=le2 _ _ (le1 _ _ Z)
 clear Z
 refine ax ?_
 refine xck rfl rfl (fun _ pe=>c74 md _ _ pe g hg64 Z2) ?_
 clear Z2
 intro v Y o
 refine xrb o (xkq _) fun p3 a n le3 ev D=>?_
 subst ev
 have T:=TownP.mono T le3
 have h1:=le3 _ _ h1
 have h3:=le3 _ _ h3
 have Th:=T.h
 have Tw:=T.w
 have D:Ints p3 a (LG g).length (LG g):=D
 refine ax ?_
 refine xbz (fun m_ l=>∃k:Nat,m_=(LG g).length-k/\l=[(2,none,.pointer (some ⟨b1,0,none⟩)),(3,none,.pointer (some ⟨b3,0,none⟩)),(5,none,.int .i64 (wantG t g k)),(12,none,.slice a (LG g).length n),(13,none,.int .i64 ((LG g).length:Nat)),(14,none,.int .i64 (k:Nat))]/\k<=(LG g).length) ⟨0,rfl,rfl,Nat.zero_le _⟩ sb ?_
 rintro _ _ IH ⟨k,rfl,rfl,hk⟩
 have hwb:=ypv O.toOk hgk hk
 refine cq (fun cc=>?_) (fun cc=>?_)
 ·have hlb:=yjn O.nh hgk k om
  have hvb:0<=t.hs.getD ((LG g).getD k 0).toNat 0/\t.hs.getD ((LG g).getD k 0).toNat 0<=9:=O.h _ om
  refine aw ?_
  refine xh4 rfl rfl hlb.1 hlb.2 (Sl.ne Th om) ?_
  refine xvk rfl (Ints.get Th om) ?_
  refine ax ?_
  exact xnq (IH _ om ⟨k+1,rfl,rfl,om⟩)
 obtain rfl:k=(LG g).length:=om
 refine ax ?_
 refine xpq (fun m_ l p_ L_=>∃(w:Nat)(s:Int),m_=t.nW-w/\l=[(2,none,.pointer (some ⟨b1,0,none⟩)),(3,none,.pointer (some ⟨b3,0,none⟩)),(5,none,.int .i64 s),(27,none,.slice a2 t.nW c2),(28,none,.int .i64 (t.nW:Nat)),(29,none,.int .i64 (w:Nat))]/\p_=p3/\L_=[]/\w<=t.nW/\s=wantG t g (LG g).length-reachG t g w) ⟨0,wantG t g (LG g).length,rfl,rfl,rfl,rfl,Nat.zero_le _,by simp[reachG,sm]⟩ sb ?_
 clear IH
 rintro _ _ p3 _ IH ⟨w,s,rfl,rfl,rfl,rfl,hw,hs⟩
 have hrb:=xc0 O.toOk (g:=g) hw
 refine cq (fun cc=>?_) (fun cc=>?_)
 ·have hwv:0<=t.ws.getD w 0/\t.ws.getD w 0<=21:=O.w w om
  refine lq fun b8=>?_
  refine ax ?_
  refine xfw (b:=b8) fun p4 le4 h8=>?_
  have T4:=TownP.mono T le4
  refine xlq rfl rfl (fun _ pe=>c134 md _ _ pe _ _ _ _ t.wy T4.y om (shq g w) (fun h_ pe i hi=>xgq (by kernel_rfl) (ydt md pe (yat O hi) hg64 h8 (le4 _ _ h1)))) ?_
  refine cq (fun ce=>?_) (fun ce=>?_)
  ·refine ax ?_
   refine xkv le4 ?_
   exact xnq (IH _ _ _ om ⟨w+1,s-t.ws.getD w 0,rfl,rfl,rfl,rfl,om,by rw[xq7 ce,hs];show _=_-(_+t.ws.getD w 0);omega⟩)
  ·refine ax ?_
   refine xkv le4 ?_
   exact xnq (IH _ _ _ om ⟨w+1,s,rfl,rfl,rfl,rfl,om,by rw[yhx ce,hs]⟩)
 obtain rfl:w=t.nW:=om
 refine ax ?_
 refine xqq func75 rfl rfl fun h_ H_=>K _ _ ⟨?_,H_.kept⟩
 rw[hs];rfl
end Go.Proofs.YtjcakmlipohaeaaGreatDoor
namespace Go.X.Flow
theorem xrl{t:Tn}:∀{k:Nat},k<=64->(shortF t k).length<=6
 |0,_=>by simp[shortF]
 |k+1,h=>by
   rw[shortF]
   split
   ·exact xf1 k om
   ·exact xrl om
end Go.X.Flow
namespace Go.Proofs.YtjcakmlipohaeaaGreatDoor
open Go.Proofs.Tryz
open Go.X Go.X.Flow Go.Conc
set_option maxHeartbeats 1000000 in
theorem c30(md:Md){h:Heap}{p:PHeap}(hp:Per p h)(a1 a2 a3:Option Addr)(c1 c2 c3:Nat)(t:Tn)(T:TownP p a1 t.nH a2 t.nW a3 t.m t)(hn:t.nH<=2^30/\t.nW<=2^30/\t.m<=2^30){tT:TypeId}{zT:Nat×Nat}(Z:p 3=some (.cells (tab64.map fun n=>Value.int .u8 ((n:Nat):Int)).toArray tT zT)):
 CallsX prog md 30 #[.agg #[.slice a1 t.nH c1,.slice a2 t.nW c2,.slice a3 t.m c3]] h fun v h'=>∃Y,(∃w,v=.tuple #[w,.int .i64 (shortE t)]/\OwnS 3 1 w (ics (shortC t)) Y)/\New h h' Y:=by
 obtain⟨tab,htab⟩:∃tab,tab=tab64:=⟨_,rfl⟩
 rw[<- htab]at Z
 refine xfq hp func30 fun _ _ _ K=>?_
 refine xjq rfl fun b1=>?_
 refine ax ?_
 refine xlq rfl rfl (fun _ pe=>c53 md _ _ pe _ _ _ _ _ _ t T hn) ?_
 refine cq (fun cc=>?_) (fun cc=>?_)
 ·refine ax ?_
  refine xhw (LL':=[[]]) ?_ (fun h s=>s.sub (List.nil_sublist _))
  exact K.r rfl rfl fun _ H_=>⟨[],⟨.slice none 0 0,by rw[xu9 cc];rfl,(OwnS.empty _ _).as (by rw[xv9 cc];rfl)⟩,newR H_⟩
 have cc:=Classical.not_not.1 cc
 have O:OkT t:=xgm cc
 have oH:=O.nh
 have hp64:=yof O.toOk
 refine ax ?_
 refine yxn (s:=t.nH) rfl rfl om ?_
 refine xfw (b:=b1) fun p1 le1 h1=>?_
 have T:=TownP.mono T le1
 have Z:=le1 _ _ Z
 refine ax ?_
 refine xhw (LL':=[[]]) ?_ (fun h s=>s)
 refine xpq (fun m_ l p_ L_=>∃(k:Nat)(w:Value)(Y:Pcs),m_=2^t.nH-k/\l=[(1,none,.pointer (some ⟨b1,0,none⟩)),(5,none,w),(16,none,.int .u64 ((2^t.nH:Nat):Int)),(17,none,.int .u64 (k:Nat))]/\p_=p1/\L_=[Y]/\k<=2^t.nH/\OwnS 3 1 w (ics (shortF t k)) Y/\(shortF t k=[]->w=.slice none 0 0)) ⟨0,.slice none 0 0,[],rfl,rfl,rfl,rfl,Nat.zero_le _,OwnS.empty _ _,fun _=>rfl⟩ sb ?_
 rintro _ _ p1 _ IH ⟨k,w,Y,rfl,rfl,rfl,rfl,hk,o1,hw⟩
 refine cq (fun cd=>?_) (fun cd=>?_)
 ·have hk2:k<2^t.nH:=om
  have hk64:k<64:=om
  have hlL:=xf1 k hk64
  have hlF:(shortF t k).length<=6:=xrl om
  refine ax ?_
  refine xck rfl rfl (fun _ pe=>c74 md _ _ pe k hk64 (by rw[<- htab];exact Z)) ?_
  intro v7 Y7 o7
  obtain⟨a7,c7,rfl,-⟩:=o7.val
  rw[xkq]at o7⊢
  obtain⟨a5,c5,rfl,hne⟩:=o1.val
  rw[xkq]at o1 hw⊢
  refine ax ?_
  by_cases hs:0<shortN t k
  ·refine xlq (v:=.bool true) rfl rfl (fun _ pe=>(c75 md _ _ pe _ _ _ _ _ _ t T O k hk2 (by rw[<- htab];exact Z)).mono fun v h' e=>⟨e.1.trans (by rw[decide_eq_true hs]),e.2⟩) ?_
   by_cases hb:shortF t k=[]
   ·have e:=hw hb
    injection e with e1 e2 e3
    subst e1
    refine ax ?_
    refine xvl rfl rfl sdu ?_
    refine ax ?_
    refine xkg (.int .i64 0) rfl ?_
    refine xkg (.int .i64 0) rfl ?_
    refine xkg (.int .i64 0) rfl ?_
    refine ax ?_
    refine xiq rfl (fun ce=>?_) (fun ce=>absurd (by simp) ce)
    refine ax ?_
    exact xnq (IH _ _ _ om ⟨k+1,_,Y7,rfl,rfl,rfl,rfl,om,o7.as (by rw[xic hs (.inl hb)]),fun z=>absurd (by rw[<- xic hs (.inl hb)];exact z) (xlt O.toOk hs)⟩)
   ·have hl5:0<(shortF t k).length:=List.length_pos_iff.2 hb
    cases a5 with
    |none=>exact absurd (hne (by rw[xkq];exact hl5)) (by simp)
    |some ad=>
      refine ax ?_
      refine xvl rfl rfl sdu ?_
      refine ax ?_
      refine ymp (v:=.int .i64 (cmpL (LG k) (shortF t k))) rfl rfl trivial rfl (by simp[AllP]) (fun h s=>ymt o7 (xkq _) o1 (xkq _) s (by simp) fun p' a cap a' cap' hp' le e e' S S'=>by
       cases e;cases e'
       exact c77 md h p' hp' _ _ _ _ _ _ (LG k) (shortF t k) S S' ⟨om,om⟩) ?_
      refine ax ?_
      refine xwt rfl rfl (by simp[AllP]) fun v8 Y8 o8=>?_
      have o8:OwnS 3 1 v8 (ics [((LG k).length:Int)-((shortF t k).length:Int),cmpL (LG k) (shortF t k)]) Y8:=o8
      refine xrb (m:=2) o8 rfl fun p2 a8 c8 le ev D=>?_
      subst ev
      refine xvq (g:=some true) rfl rfl rfl (fun _=>by simp[AllP]) (fun _ _ pe=>c76 md _ _ pe _ _ _ _ D om) ?_
      refine cq (fun ce=>?_) (fun ce=>?_)
      ·have hpr:prec (LG k) (shortF t k):=by simpa using ce
       refine ax ?_
       refine xkv le ?_
       exact xnq (IH _ _ _ om ⟨k+1,_,Y7,rfl,rfl,rfl,rfl,om,o7.as (by rw[xic hs (.inr hpr)]),fun z=>absurd (by rw[<- xic hs (.inr hpr)];exact z) (xlt O.toOk hs)⟩)
      ·have hpr:¬ prec (LG k) (shortF t k):=fun z=>ce (by simpa using z)
       refine ax ?_
       refine xkv le ?_
       exact xnq (IH _ _ _ om ⟨k+1,_,Y,rfl,rfl,rfl,rfl,om,o1.as (by rw[xvn hb hpr]),fun z=>absurd (by rw[<- xvn hb hpr];exact z) hb⟩)
  ·refine xlq (v:=.bool false) rfl rfl (fun _ pe=>(c75 md _ _ pe _ _ _ _ _ _ t T O k hk2 (by rw[<- htab];exact Z)).mono fun v h' e=>⟨e.1.trans (by rw[decide_eq_false hs]),e.2⟩) ?_
   refine ax ?_
   refine xvl rfl rfl sdu ?_
   refine ax ?_
   refine xkg (.int .i64 0) rfl ?_
   refine xkg (.int .i64 0) rfl ?_
   refine xkg (.int .i64 0) rfl ?_
   refine ax ?_
   refine xiq rfl (fun ce=>absurd ce (by simp)) (fun ce=>?_)
   refine ax ?_
   exact xnq (IH _ _ _ om ⟨k+1,_,Y,rfl,rfl,rfl,rfl,om,o1.as (by rw[xwn hs]),fun z=>hw (by rw[<- xwn hs];exact z)⟩)
 have hke:k=2^t.nH:=om
 have eP:shortF t k=shortP t:=by rw[hke];rfl
 rw[eP]at o1 hw
 obtain⟨a5,c5,rfl,hne⟩:=o1.val
 rw[xkq]at o1 hw⊢
 by_cases hb:shortP t=[]
 ·have e:=hw hb
  injection e with e1 e2 e3
  subst e1
  refine ax ?_
  refine xvl rfl rfl trivial ?_
  refine ax ?_
  refine xiq rfl (fun ce=>?_) (fun ce=>absurd (by simp) ce)
  refine ax ?_
  refine xhw (LL':=[[]]) ?_ (fun h s=>s.sub (List.nil_sublist _))
  exact K.r rfl rfl fun _ H_=>⟨[],⟨.slice none 0 0,by rw[yew cc hb];rfl,(OwnS.empty _ _).as (by rw[xhg cc,hb];rfl)⟩,newR H_⟩
 ·cases a5 with
  |none=>exact absurd (hne (by rw[xkq];exact List.length_pos_iff.2 hb)) (by simp)
  |some ad=>
    refine ax ?_
    refine xvl rfl rfl trivial ?_
    refine ax ?_
    refine xiq rfl (fun ce=>absurd ce (by simp)) (fun ce=>?_)
    refine ax ?_
    exact K.r rfl rfl fun _ H_=>⟨Y,⟨_,by rw[yfw cc hb];rfl,o1.as (by rw[xhg cc])⟩,newR H_⟩
end Go.Proofs.YtjcakmlipohaeaaGreatDoor
