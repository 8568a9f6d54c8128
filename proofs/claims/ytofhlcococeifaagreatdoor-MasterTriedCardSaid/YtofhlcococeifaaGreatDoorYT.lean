/-
  Part of proofs about a town's master: a calculus for Bc beside goroutines that are only leaving, and the Bc. No condition.
-/
import Derived.Test.YtofhlcococeifaaGreatDoorYS
set_option maxHeartbeats 8000000
set_option maxRecDepth 20000
set_option synthInstance.maxSize 2000
namespace Go.X.Flow
open Go.X Go.X.Bf
variable{d:List Int}{i:Nat}{z:Nat×Nat}{t:Tn}
theorem yx0(O:OkT t)(H:Div t d)(hi:i<t.m):0<=dv d i/\dv d i<=9:=by
 have M:=O.y i hi;have h2:dv d i<=draw t d (t.wh i):=by
  have:=yaz (f:=fun k=>if t.wh k=t.wh i then dv d k else 0) (k:=t.m) (fun k V=>by have:=H.pos k V;split<;>omega) hi;simpa[draw]using this
 have h3:=H.hs _ M.1;have h4:=O.h _ M.1;have h5:=H.pos i hi
 omega
theorem yqk(O:OkT t)(M:Div t d){h:Nat}(H:h<t.nH):0<=As t d h/\As t d h<=9:=by
 have h1:=M.hs h H;have h2:=O.h h H;have V:=xaw M h
 unfold As;omega
theorem yn0(O:OkT t)(M:Div t d){x:Nat}(H:x<t.nW):0<=has t d x/\has t d x<=21:=by
 have h1:=M.ws x H;have h2:=O.w x H;have V:=xsd M x
 unfold has;omega
open Go.X
variable{p:Ab}
theorem yls{b:Nat}{t:TypeId}(N:p b=some (.cells (Dy.map fun n=>Value.int .u8 ((n:Nat):Int)).toArray t z))(h:i<64):Aw p ((⟨b,0,none⟩:Addr).add (i*1))=some (.int .u8 ((Dy.getD i 0:Nat):Int)):=by
 have H:Dy.length=64:=by decide
 unfold Aw;rw[xox,N];simp only[Option.isSome_none,Bool.false_eq_true,if_false,Nat.zero_add,Nat.mul_one,List.getElem?_toArray,List.getElem?_map];rw[List.getD_eq_getElem?_getD,List.getElem?_eq_getElem om];rfl
theorem xum{t:Tn}:∀{k:Nat},k<=64->(Bb t k).length<=6
 |0,_=>by simp[Bb]
 |k+1,h=>by
   rw[Bb];split
   ·exact xr2 k om
   ·exact xum om
end Go.X.Flow
namespace Go.Proofs.YtofhlcococeifaaGreatDoor
open Go.Proofs.Tryz
open Go.X Go.X.Flow Go.Conc
variable{h z9:Heap}{n:Int}{d vs xs:List Int}{zz:List Nat}{md:Md}{c1 c2 c3 j:Nat}{g:Nat->Nat}{q1 q2 z z2:Nat×Nat}{a1 a2 a3 b:Option Addr}{p:Ab}{q7 zx:Pcs}{t:Tn}{T1 T2 tN tT:TypeId}{fv w:Value}
theorem ytg{lo hi:Int}:Dc prog md p 104 #[.J n,.J lo,.J hi] (.bool (decide (lo<=n/\n<=hi))):=by
 refine xlq func104 fun K=>?_;refine K.q ?_;exact congrArg _ (bpe Iff.rfl)
theorem yv9:Dc prog md p 103 #[.J n] (.bool (Nr 9 n)):=by
 refine xlq func103 fun K=>?_;refine cdq ytg ?_;exact K.q rfl
theorem yu9:Dc prog md p 105 #[.J n] (.bool (Nr 20 n)):=by
 refine xlq func105 fun K=>?_;refine cdq ytg ?_;exact K.q rfl
theorem yr1:Dc prog md p 242 #[.J n] (.bool false):=by
 refine xlq func242 fun K=>?_;refine K.q ?_;exact congrArg _ (decide_eq_false fun z=>z rfl)
theorem yqg(x y:Int):Dc prog md p 193 #[.J x,.J y] (.J (G4 x y)):=by
 refine xlq func193 fun K=>?_;refine cdq yr1 ?_;refine cdq yr1 ?_;refine ax ?_;refine xcx rfl (fun H=>absurd H (fun z=>z)) (fun H=>?_);refine ax ?_;refine xcx rfl (fun H=>absurd H (fun z=>z)) (fun H=>?_);refine cq (fun M=>?_) (fun M=>?_)
 ·refine K.q ?_;rw[G4,if_pos M];rfl
 refine cq (fun O=>?_) (fun O=>?_)
 ·refine K.q ?_;rw[G4,if_neg M,if_pos O];rfl
 refine K.q ?_;rw[G4,if_neg M,if_neg O];rfl
theorem yj2{a:Option Addr}{n c:Nat}(xs:List Int)(S:Ax p a n xs)(hn:n<=2^40):Dc prog md p 192 #[.slice a n c] (.J (orI xs)):=by
 have hl:=S.len;refine xlq func192 fun K=>?_;refine xnq (fun m l=>∃j:Nat,m=n-j/\l=[(3,none,.J 0),(6,none,.slice a n c),(7,none,.J n),(8,none,.J j)]/\j<=n/\ ∀i,i<j->xs.getD i 0=0) ⟨0,rfl,rfl,Nat.zero_le _,om⟩ sb ?_;rintro _ _ V ⟨j,rfl,rfl,hj,H⟩;refine cq (fun O=>?_) (fun O=>?_)
 ·refine cq (fun M=>?_) (fun M=>?_)
  ·refine K.q ?_;rw[yth (k:=j) om H M];rfl
  ·exact bkq (V _ om ⟨j+1,rfl,rfl,om,Dt H (Classical.not_not.1 M)⟩)
 refine K.q ?_;rw[ysj fun i hi=>H i om];rfl
theorem yt9{a b c d:Int}:Dc prog md p 108 #[.agg #[.J a,.J b],.agg #[.J c,.J d]] (.J (Pq a b c d)):=by
 refine xkq func108 fun K b1=>?_;refine bq fun b2=>?_;refine drq [] R9 ?_;refine xzz rfl rfl rfl (yqg _ _) ?_;refine ex ?_;refine cdq (yqg _ _) ?_;refine xxx rfl fun v Y o=>?_;have o:Aa 3 1 v [[.J (G4 a c)],[.J (G4 b d)]] Y:=o;refine xzq o (m:=2) rfl d_ fun p' O c3 g M H F=>?_;subst M;refine xpx rfl rfl (yj2 [G4 a c,G4 b d] F d_) ?_;exact K.q rfl
theorem yw2(H O M c1 c2 c3:Nat)(hn:H<=2^40)(x:Int):Dc prog md p 106 #[.agg #[.slice a1 H c1,.slice a2 O c2,.slice a3 M c3],.J x] (.bool (decide (0<=x/\x<=(H:Int)-1))):=by
 refine xkq func106 fun K b1=>?_;refine cdq ytg ?_;exact K.q rfl
theorem yv2(O H M c1 c2 c3:Nat)(hn:H<=2^40)(x:Int):Dc prog md p 107 #[.agg #[.slice a1 O c1,.slice a2 H c2,.slice a3 M c3],.J x] (.bool (decide (0<=x/\x<=(H:Int)-1))):=by
 refine xkq func107 fun K b1=>?_;refine cdq ytg ?_;exact K.q rfl
theorem yxq:((¬ (0<=(t.wy.getD j wz).1/\(t.wy.getD j wz).1<=(t.nH:Int)-1)\/ ¬ (0<=(t.wy.getD j wz).2/\(t.wy.getD j wz).2<=(t.nW:Int)-1))\/(0<(j:Int)/\0<=Pq (t.wy.getD ((j:Int)-1).toNat wz).1 (t.wy.getD ((j:Int)-1).toNat wz).2 (t.wy.getD j wz).1 (t.wy.getD j wz).2))<-> ¬ YOk t j:=by
 unfold YOk;rw[yfd];constructor
 ·rintro((z|z)|⟨z1,z2⟩) ⟨y1,y2,y3⟩
  ·exact z y1
  ·exact z y2
  ·exact z2 (y3 om)
 ·intro z;refine Classical.byContradiction fun n=>z ?_;have M:=not_or.1 n;have H:=not_or.1 M.1;exact⟨Classical.not_not.1 H.1,Classical.not_not.1 H.2,fun O=>Classical.not_not.1 fun b=>M.2 ⟨om,b⟩⟩
theorem cf56(t:Tn)(T:Al p a1 t.nH a2 t.nW a3 t.m t)(hn:t.nH<=2^30/\t.nW<=2^30/\t.m<=2^30):Dc prog md p 56 #[.agg #[.slice a1 t.nH c1,.slice a2 t.nW c2,.slice a3 t.m c3]] (.J (Et t)):=by
 have Th:=T.h;have Tw:=T.w;refine xkq func56 fun K b1=>?_;refine cq (fun cc=>?_) (fun cc=>?_)
 ·refine K.q ?_;rw[Fq fun z=>by have:=z.1;have:=z.2.nh;have:=z.2.nw;omega];rfl
 refine ax ?_;refine xpx rfl rfl (fun _ H=>ynr H T.h om (Nr 9) fun _ H _ _=>xgq k_ (yv9 _ H)) ?_;refine ax ?_;refine xqz rfl rfl rfl sdt (fun _ _ H=>ynr H T.w om (Nr 20) fun _ H _ _=>xgq k_ (yu9 _ H)) ?_;refine cq (fun M=>?_) (fun M=>?_)
 ·refine K.q ?_;rw[Fq fun z=>M.elim (fun y=>yww y z.2.h) (fun y=>yww y z.2.w)];rfl
 refine ax ?_;refine xhq (fun m l p_ L_=>∃(j:Nat)(A:List Pcs),m=t.m-j/\l=[(1,none,w_ b1 0),(30,none,.slice a3 t.m c3),(31,none,.J t.m),(32,none,.J j)]/\p_=p/\L_=[[(b1,.cells #[.slice a1 t.nH c1,.slice a2 t.nW c2,.slice a3 t.m c3] 28 (0,0))]]/\j<=t.m/\ ∀i,i<j->YOk t i) ⟨0,[],rfl,rfl,rfl,rfl,Nat.zero_le _,om⟩ sb ?_;rintro _ _ _ _ IH ⟨j,A,rfl,rfl,rfl,rfl,hj,V⟩;refine cq (fun ce=>?_) (fun ce=>?_)
 ·refine ax ?_;refine ro_y rfl (y_ia rfl rfl om (T.y.ne om)) ?_;refine ro_y rfl (xmj rfl (T.y.all om)) ?_;refine xfx fun b2=>?_;refine drq [] R23 ?_;refine xzz rfl rfl rfl (yw2 _ _ _ _ _ _ om _) ?_;refine ex ?_;refine xhv rfl rfl rfl rfl sdt (fun _=>yv2 _ _ _ _ _ _ om _) ?_;refine ex ?_;refine de_y rfl rfl (xfv rfl rfl sdt sdt (gd2 fun _ hq=>⟨om,T.y.ne om⟩)) ?_;refine de_y rfl rfl (xud rfl sdt (gd2 fun _ hq=>T.y.all om)) ?_;refine ex ?_;refine cgq (fun _=>yt9) ?_;refine cq (fun O=>?_) (fun O=>?_)
  ·refine K.q ?_;rw[Fq fun z=>yxq.1 O (z.2.y j om)];rfl
  exact bkq (IH _ _ _ om ⟨j+1,[],rfl,rfl,rfl,rfl,om,Dt V (Classical.not_not.1 fun z=>O (yxq.2 z))⟩)
 refine ax ?_;have e1:t.hs.length=t.nH:=rfl;have e2:t.ws.length=t.nW:=rfl;refine K.q ?_;rw[Cw om ⟨om,om,fun i hi=>xm8 (fun z=>M (.inl z)) i hi,fun i hi=>xm8 (fun z=>M (.inr z)) i hi,fun i hi=>V i om⟩];rfl
theorem yc2(t:Tn)(T:Al p a1 t.nH a2 t.nW a3 t.m t)(hn:t.nH<=2^30/\t.nW<=2^30/\t.m<=2^30)(b:Bool):Dc prog md p 210 #[.agg #[.slice a1 t.nH c1,.slice a2 t.nW c2,.slice a3 t.m c3],.bool b] (.J (Lq t b)):=by
 refine xkq func210 fun K b1=>?_;refine cdq (cf56 t T hn) ?_;refine cq (fun H=>?_) (fun H=>?_)
 ·refine ax ?_;have e:Et t=30:=by rcases xkh t with z|z;exact absurd z.1 H;exact z.1
  refine K.q ?_;rw[Lq,if_neg H,e];rfl
 have H:=Classical.not_not.1 H;refine cq (fun M=>?_) (fun M=>?_)
 ·refine K.q ?_;rw[Lq,if_pos H,if_neg M];rfl
 refine K.q ?_;rw[Lq,if_pos H,if_pos (Classical.not_not.1 M)];rfl
theorem xev(xs:List Int):∀u∈(ics xs).flatten,Bj u=true:=xzv xs
theorem cf68{a:Option Addr}{n c:Nat}(S:Ax p a n xs)(hn:n<=2^20):Nc prog md p 68 #[.slice a n c] (fun v Y=>Aa 3 1 v (ics xs) Y):=by
 have hl:=S.len;refine xlq func68 fun K=>?_;refine ro_y rfl (ydx rfl) ?_;refine cq (fun M=>?_) (fun M=>?_)
 ·refine ax ?_;have e:xs=[]:=by
   by_cases O:0<n
   ·rw[S.ne O]at M;cases M
   ·exact List.eq_nil_of_length_eq_zero om
  subst e;refine xjj 3 1 fun o=>?_;exact K.r rfl rfl fun _ H=>⟨_,o,Eu H⟩
 refine ax ?_;refine xxx rfl fun v Y o=>?_;refine ax ?_;refine xiw rfl rfl o S (xev xs) (by simp[chs];omega) (fun v' Y' V=>?_);refine ax ?_;exact K.r rfl rfl fun _ H=>⟨_,V,Eu H⟩
theorem ye7{a:Option Addr}{n c:Nat}(xs:List Int)(S:Ax p a n xs)(hn:n<=100)(H:∀i,i<n->0<=xs.getD i 0/\xs.getD i 0<=1000):Dc prog md p 205 #[.slice a n c] (.J (sm n (dv xs))):=by
 refine xlq func205 fun K=>?_;refine xnq (fun m l=>∃j:Nat,m=n-j/\l=[(3,none,.J (sm j (dv xs))),(6,none,.slice a n c),(7,none,.J n),(8,none,.J j)]/\j<=n/\0<=sm j (dv xs)/\sm j (dv xs)<=1000*j) ⟨0,rfl,rfl,Nat.zero_le _,by simp[sm],by simp[sm]⟩ sb ?_;rintro _ _ IH ⟨j,rfl,rfl,hj,O,M⟩;refine cq (fun V=>?_) (fun V=>?_)
 ·have a2:=H j om;exact bkq (IH _ om ⟨j+1,rfl,rfl,om,by rw[sm];unfold dv;unfold dv at O;omega,by rw[sm];unfold dv;unfold dv at M;omega⟩)
 obtain rfl:j=n:=om;exact K.q rfl
theorem ykk{z:Int}(O:z.toNat=g j)(H:g j<vs.length){x:Int}(M:x=(D8 vs g d j).getD (g j) 0-dv d j):(ics (D8 vs g d j)).set z.toNat (Ce [.J ((D8 vs g d j).getD (g j) 0)] 0 [.J x])=ics (D8 vs g d (j+1)):=by
 subst M;rw[O,<- xw9 H];exact Co
theorem yc7(c1 c2 c3:Nat)(t:Tn)(T:Al p a1 t.nH a2 t.nW a3 t.m t)(m cb:Nat)(d:List Int)(D:Ax p b m d)(hn:t.nH<=40/\t.nW<=40)(hm:m<=t.m/\t.m<=13)(hd:∀i,i<m->0<=dv d i/\dv d i<=20)(hh:∀i,i<t.nH-> -100<=t.hs.getD i 0/\t.hs.getD i 0<=100)(hw:∀i,i<t.nW-> -100<=t.ws.getD i 0/\t.ws.getD i 0<=100)(hy:∀i,i<t.m->(0<=(t.wy.getD i wz).1/\(t.wy.getD i wz).1.toNat<t.nH)/\0<=(t.wy.getD i wz).2/\(t.wy.getD i wz).2.toNat<t.nW):Nc prog md p 212 #[.agg #[.slice a1 t.nH c1,.slice a2 t.nW c2,.slice a3 t.m c3],.slice b m cb] (fun v Y=>(∃w1 w2 O V,v=.tuple #[w1,w2]/\Aa 3 1 w1 (ics (D8 t.hs t.wh d m)) O/\Aa 3 1 w2 (ics (D8 t.ws t.ww d m)) V/\Y=O++V)):=by
 intro h hp;have b0:t.hs.length=t.nH:=rfl;have b6:t.ws.length=t.nW:=rfl;refine xtq hp func212 fun K b1=>?_;refine drq [2] [0,1,3,4,2] ?_;refine xuk rfl rfl rfl (cf68 T.h om) fun v1 O M=>?_;refine ex ?_;refine xjb rfl rfl (cf68 T.w om) fun v2 V H=>?_;refine ax ?_
 refine xhq (fun m_ l p_ L_=>∃(j:Nat)(Z1 Z2:Pcs),m_=m-j/\l=[(2,none,w_ b1 0),(4,none,v1),(5,none,v2),(14,none,.slice b m cb),(15,none,.J m),(16,none,.J j)]/\p_=p/\L_=[Z2,[(b1,.cells #[.slice a1 t.nH c1,.slice a2 t.nW c2,.slice a3 t.m c3] 28 (0,0))],Z1]/\j<=m/\
  Aa 3 1 v1 (ics (D8 t.hs t.wh d j)) Z1/\Aa 3 1 v2 (ics (D8 t.ws t.ww d j)) Z2) ⟨0,O,V,rfl,rfl,rfl,rfl,Nat.zero_le _,by rw[xnr];exact M,by rw[xnr];exact H⟩ sb ?_
 rintro _ _ _ _ IH ⟨j,Z1,Z2,rfl,rfl,rfl,rfl,hj,M,H⟩;refine cq (fun cc=>?_) (fun cc=>?_)
 ·have b5:=hy j om;have b7:=hd j om;have e1:(t.wy.getD j wz).1.toNat=t.wh j:=rfl;have e2:(t.wy.getD j wz).2.toNat=t.ww j:=rfl;have b8:=xln (g:=t.wh) (d:=d) (k:=j) (h:=t.wh j) (fun i hi=>hd i om);have b3:=xln (g:=t.ww) (d:=d) (k:=j) (h:=t.ww j) (fun i hi=>hd i om);have g1:=xkv (vs:=t.hs) (g:=t.wh) (d:=d) (k:=j) (h:=t.wh j) om;have g2:=xkv (vs:=t.ws) (g:=t.ww) (d:=d) (k:=j) (h:=t.ww j) om;have a9:=hh (t.wh j) om;have b4:=hw (t.ww j) om;have i1:(ics (D8 t.hs t.wh d j))[(t.wy.getD j wz).1.toNat]?=some [.J ((D8 t.hs t.wh d j).getD (t.wh j) 0)]:=Cm (by rw[xvx];omega);have i2:(ics (D8 t.ws t.ww d j))[(t.wy.getD j wz).2.toNat]?=some [.J ((D8 t.ws t.ww d j).getD (t.ww j) 0)]:=Cm (by rw[xvx];omega);have a8:dv d j=d.getD j 0:=rfl;refine ax ?_;refine ro_y rfl (y_ia rfl rfl om (T.y.ne om)) ?_;refine ax ?_;refine ro_y rfl (y_lp rfl (T.y.at om (j:=0) rfl)) ?_;refine xcv rfl rfl M om (by rw[Ae,xvx];omega) ?_;refine xyh rfl M xnx i1 rfl ?_;refine ax ?_;refine xcv rfl rfl M om (by rw[Ae,xvx];omega) ?_;refine xkk (j:=0) rfl rfl M xnx rfl rfl rfl i1 (Nat.le_refl _) fun a5 a6=>?_;refine ax ?_;refine ro_y rfl (y_ia rfl rfl om (T.y.ne om)) ?_;refine ax ?_;refine ro_y rfl (y_lp rfl (T.y.at om (j:=1) rfl)) ?_;refine xcv rfl rfl H om (by rw[Ae,xvx];omega) ?_;refine xyh rfl H xnx i2 rfl ?_;refine ax ?_;refine xcv rfl rfl H om (by rw[Ae,xvx];omega) ?_;refine xkk (j:=0) rfl rfl H xnx rfl rfl rfl i2 (Nat.le_refl _) fun a7 a4=>?_;exact bkq (IH _ _ _ om ⟨j+1,a5,a7,rfl,rfl,rfl,rfl,om,a6.as (ykk e1 om rfl),a4.as (ykk e2 om rfl)⟩)
 obtain rfl:j=m:=om;refine ax ?_;exact K.r rfl rfl fun _ H_=>⟨_,⟨_,_,_,_,rfl,M,H,rfl⟩,ye0 H_⟩
theorem yl5(x y:Int):Dc prog md p 287 #[.J x,.J y] (.J (G4 y x)):=by
 refine xlq func287 fun K=>?_;refine cdq (yqg _ _) ?_;exact K.q rfl
theorem yp4(w:Value)(xs:List Int)(a2:Aa 3 1 w (ics xs) q7)(n:Nat)(hn:n=xs.length/\n<=12)(fv:Value)(hf:∀h,Per p h-> ∀x y,Be prog md fv [.J x,.J y] h fun v h'=>v=.J (G4 y x)/\Av h h')
 (V:St z9 zz p h (q7++zx)):Ac prog md 343 #[w,.J 0,.J (n:Nat),fv] h fun _ h'=>∃X',Aa 3 1 w (ics (srt xs)) X'/\St z9 zz p h' (X'++zx):=by
 refine xpj V func343 fun _ _ _ K=>?_;refine ax ?_;refine xhq (fun m_ l p_ L_=>∃(i:Nat)(O:List Int)(Z:Pcs),m_=n-i/\l=[(0,none,w),(1,none,.J 0),(2,none,.J n),(3,none,fv),(8,none,.J (i:Nat))]/\p_=p/\L_=[Z,zx]/\1<=i/\Aa 3 1 w (ics O) Z/\O.Perm xs/\Lg O i) ⟨1,xs,q7,rfl,rfl,rfl,rfl,Nat.le_refl _,a2,.refl _,fun p q a b=>absurd a om⟩ sb ?_;rintro _ _ p _ IH ⟨i,O,Z,rfl,rfl,rfl,rfl,hi,o,hp,hs⟩;have a6:O.length=n:=hp.length_eq.trans hn.1.symm;refine cq (fun cc=>?_) (fun cc=>?_)
 ·refine ax ?_;refine xhq (fun m_ l p_ L_=>∃(j:Nat)(zs:List Int)(Z:Pcs),m_=j+1/\l=[(0,none,w),(1,none,.J 0),(2,none,.J n),(3,none,fv),(8,none,.J (i:Nat)),(9,none,.J (j:Nat))]/\p_=p/\L_=[Z,zx]/\j<=i/\Aa 3 1 w (ics zs) Z/\zs.Perm xs/\Float zs i j) ⟨i,O,Z,rfl,rfl,rfl,rfl,Nat.le_refl _,o,hp,xz3 hs⟩ sb ?_;rintro _ _ p _ a4 ⟨j,zs,Z2,rfl,rfl,rfl,rfl,hj,M,hq,a3⟩;have a5:zs.length=n:=hq.length_eq.trans hn.1.symm;have e1:(ics zs)[((j:Int)-1).toNat]?=some [.J (zs.getD ((j:Int)-1).toNat 0)]:=Cm om;have e0:(ics zs)[j]?=some [.J (zs.getD j 0)]:=Cm om;refine drq [] R14 ?_;refine de_y rfl rfl (xew rfl rfl sdt sdt M (by rw[Ae];omega)) ?_;refine de_y rfl rfl (xgb rfl sdt M xnx (Cm om) rfl) ?_;refine ex ?_;refine de_y rfl rfl (xgm rfl rfl sdt sdt M (gd2 fun _ hq=>by rw[Ae];omega)) ?_;refine de_y rfl rfl (xgb rfl sdt M xnx e1 rfl) ?_;refine ex ?_;refine yoz rfl rfl sdt rfl sdt (xgz fun _ pe=>hf _ pe _ _) ?_;refine cq (fun cd=>?_) (fun cd=>?_)
  ·obtain⟨H,rfl⟩:∃H,j=H+1:=⟨j-1,om⟩
   rw[show(((H+1:Nat):Int)-1).toNat=H by omega]at*;refine ax ?_;refine xf6 [15] R16 Z2 ?_;refine ex ?_;refine de_y rfl rfl (xgm rfl rfl sdt sdt M (xgz (by rw[Ae];omega))) ?_;rw[show(((H+1:Nat):Int)-1).toNat=H by omega];refine xi4 rfl rfl rfl sdt M xnx e1 rfl ?_;refine ex ?_;refine de_y rfl rfl (xew rfl rfl sdt sdt M (by rw[Ae];omega)) ?_;refine xi4 rfl rfl rfl sdt M xnx e0 rfl ?_;refine de_y rfl rfl (xew rfl rfl sdt sdt M (by rw[Ae];omega)) ?_;refine yfl (j:=0) rfl rfl rfl M xnx rfl rfl rfl e0 (Nat.le_refl _) fun Z3 o3=>?_;refine ex ?_;refine xcv rfl rfl o3 om (by rw[List.length_set,Ae];omega) ?_;rw[show(((H+1:Nat):Int)-1).toNat=H by omega];refine xkk (j:=0) (e:=[.J (zs.getD H 0)]) rfl rfl o3 xnx rfl rfl rfl (by rw[List.getElem?_set_ne om];exact e1) (Nat.le_refl _) fun Z4 o4=>?_;refine ax ?_;rw[show((H+1:Nat):Int)-1=(H:Nat) by omega];exact bkq (a4 _ _ _ om ⟨H,swp zs (H+1),Z4,rfl,rfl,rfl,rfl,om,o4.as (ybm rfl),(xf5 om om).trans hq,ybq a3 om om om (ymw.1 cd.2)⟩)
  ·exact bkq (IH _ _ _ om ⟨i+1,zs,Z2,rfl,rfl,rfl,rfl,om,M,hq,yev a3 om (by
    by_cases h0:j=0
    ·exact .inl h0
    ·right;have:=fun z=>cd ⟨om,z⟩;rw[show((j:Int)-1).toNat=j-1 by omega]at this;have:=mt ymw.2 this;omega)⟩)
 have e:O=srt xs:=yzb hs om hp;subst e;refine ax ?_;exact xvb func343 rfl fun _ H_=>K _ _ ⟨_,o,xoh H_⟩
theorem yt4(w:Value)(xs:List Int)(H:Aa 3 1 w (ics xs) q7)(n:Nat)(hn:n=xs.length/\n<=12)(k:Int)(fv:Value)(hf:∀h,Per p h-> ∀x y,Be prog md fv [.J x,.J y] h fun v O=>v=.J (G4 y x)/\Av h O)
 (M:St z9 zz p h (q7++zx)):Ac prog md 332 #[w,.J 0,.J (n:Nat),.J k,fv] h fun _ O=>∃V,Aa 3 1 w (ics (srt xs)) V/\St z9 zz p O (V++zx):=by
 refine xpj M func332 fun _ _ _ K=>?_;refine ax ?_;refine xnq (fun m l=>m=0/\l=[(0,none,w),(1,none,.J 0),(2,none,.J n),(3,none,.J k),(4,none,fv),(10,none,.bool true),(11,none,.bool true)]) ⟨rfl,rfl⟩ sb ?_;rintro _ _ IH ⟨rfl,rfl⟩;refine ax ?_;refine xcx rfl (fun cc=>?_) (fun cc=>absurd om cc);refine ax ?_;refine xxm q7 rfl rfl (fun h C s=>yp4 w xs H n hn fv hf s) fun v Y' o'=>?_;refine ax ?_;refine xsq func332 rfl rfl fun _ H_=>K _ _ ⟨_,o',xoh H_⟩
theorem ya5(n:Nat)(hn:n<=12):Nc prog md p 322 #[.int .u64 (n:Nat)] (fun v Y=>((∃k:Int,v=.J k)/\Y=[])):=by
 refine xlq func322 fun K=>?_;refine xcx rfl (fun H=>absurd H om) (fun H=>?_);refine ax ?_;refine xcx rfl (fun H=>absurd H om) (fun H=>?_);refine ax ?_;refine xcx rfl (fun H=>absurd H om) (fun H=>?_);refine ax ?_;refine ro_y rfl (xib ⟨_,underlying286⟩ k_ rfl (wr8 om) (k':=.u8)) ?_;refine ro_y rfl (xej rfl rfl sdt sdt (xgz ⟨om,by simp;omega⟩)) ?_;refine ro_y rfl (xib ⟨_,underlying5⟩ underlying3 rfl wrB (k':=.i64)) ?_;refine ro_y rfl (y_pv rfl ⟨by rw[Int.zero_add];exact wrB,trivial⟩) ?_;refine ax ?_;exact K.r rfl rfl fun _ M=>⟨[],⟨⟨_,rfl⟩,rfl⟩,(M.sub (List.nil_sublist _)).new⟩
theorem ys4(n:Nat)(hn:n<=12):Nc prog md p 333 #[.int .u64 (n:Nat)] (fun v Y=>((∃k:Int,v=.J k)/\Y=[])):=by
 refine xlq func333 fun K=>?_;refine xcx rfl (fun H=>absurd H (fun z=>z)) (fun H=>?_);refine coq (ya5 n hn) ?_;rintro _ _ ⟨⟨k,rfl⟩,rfl⟩;refine ax ?_;exact K.r rfl rfl fun _ M=>⟨[],⟨⟨_,rfl⟩,rfl⟩,(M.sub (List.nil_sublist _)).new⟩
theorem ym5(w:Value)(xs:List Int)(H:Aa 3 1 w (ics xs) q7)(hn:xs.length<=12)(hf:∀h,Per p h-> ∀x y,Be prog md fv [.J x,.J y] h fun v O=>v=.J (G4 y x)/\Av h O)
 (M:St z9 zz p h (q7++zx)):Ac prog md 286 #[w,fv] h fun _ O=>∃V,Aa 3 1 w (ics (srt xs)) V/\St z9 zz p O (V++zx):=by
 refine xpj M func286 fun _ _ _ K=>?_;refine ax ?_;refine ro_y rfl (xzt rfl sdt H (Ae xs)) ?_;refine ax ?_;refine ro_y rfl (xib ⟨_,underlying3⟩ k_ rfl (Om om) (k':=.u64)) ?_;refine coq (ys4 xs.length hn) ?_;rintro _ _ ⟨⟨k,rfl⟩,rfl⟩;refine ax ?_;refine xxm q7 rfl rfl (fun h C s=>yt4 w xs H xs.length ⟨rfl,hn⟩ k fv hf s) fun v Y' o'=>?_;refine ax ?_;exact xvb func286 rfl fun _ H_=>K _ _ ⟨_,o',xoh H_⟩
theorem yf6(w:Value)(H:Aa 3 1 w (ics xs) q7)(hn:xs.length<=12)
 (M:St z9 zz p h (q7++zx)):Ac prog md 252 #[w] h fun v h'=>∃O,(v=w/\Aa 3 1 w (ics (srt xs)) O)/\St z9 zz p h' (O++zx):=by
 refine xpj M func252 fun _ _ _ K=>?_;refine ax ?_;refine xxm q7 rfl rfl (fun h C s=>ym5 w xs H hn (fun _ pe x y=>xgq k_ (yl5 x y _ pe)) s) fun v Y' o'=>?_;refine ax ?_;exact xsq func252 rfl rfl fun _ V=>K _ _ ⟨_,⟨rfl,o'⟩,xoh V⟩
abbrev R62:List Nat:=[0,1,2,3,4,5,6,7,8,9,10,11,12,13,14,15,16,17,18,19,20,21,22,23,24,25,26,27,28,29,30,31,32,33,34,35,36,37,38,39,40,41,42,43,44,45,46,47,48,49,50,51,52,53,54,55,56,57,58,59,60,61]
theorem wrN(h: -1000000<=n/\n<=1000000):IntKind.i64.wrap (0-n)= -n:=by rw[Int.zero_sub];exact wrZ om
theorem ylk(c1 c2 c3:Nat)(t:Tn)(T:Al p a1 t.nH a2 t.nW a3 t.m t)(O:OkT t)(M:Nat)(d:List Int)(D:Ax p b t.m d)(Dv:Div t d):Nc prog md p 212 #[.agg #[.slice a1 t.nH c1,.slice a2 t.nW c2,.slice a3 t.m c3],.slice b t.m M] (fun v Y=>(∃w1 w2 V Y2,v=.tuple #[w1,w2]/\Aa 3 1 w1 (ics (G0 t d)) V/\Aa 3 1 w2 (ics (N4 t d)) Y2/\Y=V++Y2)):=by
 intro h hp;have o1:=O.nh;have o2:=O.nw;have o3:=O.nm
 refine yc7 c1 c2 c3 t T t.m M d D ⟨om,om⟩ ⟨Nat.le_refl _,o3⟩ (fun i hi=>by have:=yx0 O Dv hi;omega) (fun i hi=>?_) (fun i hi=>?_) (fun i hi=>?_) h hp
 ·have:=O.h i hi;unfold Tn.hv at this;omega
 ·have:=O.w i hi;unfold Tn.wv at this;omega
 ·have H:=O.y i hi;have h2:=O.yp i hi;unfold Tn.wh Tn.ww at H;exact⟨⟨h2.1,H.1⟩,h2.2,H.2⟩
theorem ylg(q:Prop)[Decidable q]{V v2 v3 O v5 v7:Value}(s:Int)(M bt:Nat){z1:Nat×Nat}(hB:p M=some (.cells #[w_ bt 0] T1 z1))(hb:p bt=some (.cells #[V,v2,v3,O,v5,.J s,v7] T2 z2)):Dc prog md p 330 #[.bool (decide q),w_ M 0] (.J (if q then s else 0)):=by
 refine xlq func330 fun K=>?_;refine cq (fun H=>?_) (fun H=>?_)
 ·refine K.q ?_;rw[if_pos H];rfl
 refine K.q ?_;rw[if_neg H];rfl
theorem ykg{z:Int}(x:Nat)(e:z=x)(V:x<=10):Dc prog md p 331 #[.J z] (.J (Bi x)):=by
 subst e;refine xlq func331 fun K=>?_;refine xnq (fun m l=>∃j:Nat,m=x-j/\l=[(3,none,.J (Bi j)),(4,none,.J (x:Nat)),(5,none,.J (j:Nat))]/\j<=x) ⟨0,rfl,rfl,Nat.zero_le _⟩ sb ?_;rintro _ _ H ⟨j,rfl,rfl,hj⟩;have O:=xrt (x:=j) om;refine cq (fun M=>?_) (fun M=>?_)
 ·refine ax ?_;rw[show Bi j*7=Bi (j+1) by rw[xcj];omega];exact bkq (H _ om ⟨j+1,rfl,rfl,om⟩)
 obtain rfl:j=x:=om;exact K.q rfl
theorem yn5(c1 c2 c3:Nat)(t:Tn)(T:Al p a1 t.nH a2 t.nW a3 t.m t)(O:OkT t)(H:Wi)(cb:Nat)(d:List Int)(D:Ax p b t.m d)(Dv:Div t d)(S:Sg H)(bt:Nat)(T2:TypeId)(z2:Nat×Nat)
 (hb:p bt=some (.cells #[.slice a1 t.nH c1,.slice a2 t.nW c2,.slice a3 t.m c3,.J H.Ew,.J H.Kp,.J H.sign,.slice b t.m cb] T2 z2))(yv:Value)(I:List Bf.Arc->Pcs->Prop)(b7:I [] q7)
 (hy:∀a9 x,a9++[x] <+: Bh t H d-> ∀p' h X C,PLe p p'->I a9 X->St z9 zz p' h (X++C)->Be prog md yv [N3 x] h fun v h'=>∃X',(v=.bool true/\I (a9++[x]) X')/\St z9 zz p' h' (X'++C))(b3:St z9 zz p h (q7++zx)):
 Ac prog md 285 #[w_ bt 0,yv] h fun _ h'=>∃X',I (Bh t H d) X'/\St z9 zz p h' (X'++zx):=by
 have oH:=O.nh;have oW:=O.nw;have oM:=O.nm;have sg:=S;refine xpj b3 func285 fun _ _ _ K=>?_;refine bq fun b1=>?_;refine xqw (b:=b1) fun p1 le hB=>?_;have T:=Al.mono T le;have D:=D.mono le;have hb:=le _ _ hb;have a7:p1 b1=some (.cells #[w_ bt 0] _ (0,0)):=hB;refine drq [8] R13 ?_;refine xuk rfl rfl rfl (ylk _ _ _ t T O _ d D Dv) ?_;rintro _ _ ⟨w1,w2,Y1,Y2,rfl,o1,o2,rfl⟩;refine ex ?_;refine xqc Y1 Y2 ?_;refine ax ?_;refine ro_y rfl (xzt rfl sdt o2 (by rw[Ae,xzl])) ?_;refine ax ?_;refine xhq (fun m_ l p_ L_=>∃(k:Nat)(Z:Pcs),m_=t.nW-k/\l=[(1,none,yv),(2,none,w_ b1 0),(4,none,w1),(5,none,w2),(6,none,.J (t.nW:Nat)),(7,none,.J (t.nW+t.nH)),(8,none,.J (t.nW+t.nH+1)),(9,none,.func (.func 330) #[] #[w_ b1 0]),(45,none,w2),(46,none,.J (t.nW:Nat)),(47,none,.J (k:Nat))]/\p_=p1/\L_=[Y1,Y2,Z,zx]/\k<=t.nW/\I (Fr t H d k) Z) ⟨0,q7,rfl,rfl,rfl,rfl,Nat.zero_le _,b7⟩ sb ?_;rintro _ _ p1 _ IH ⟨k,Z,rfl,rfl,rfl,rfl,hk,hI⟩;refine cq (fun cc=>?_) (fun cc=>?_)
 ·have b4:=yn0 O Dv (x:=k) om;have b5:=S.bw k;have Tw:=T.w;refine ax ?_;refine ro_y rfl (xkb rfl rfl o2 (by rw[Ae,xzl];omega)) ?_;refine xyh rfl o2 xnx (yvk om) rfl ?_;refine ax ?_;refine yoz rfl rfl sdu rfl sdu (xgz fun _ pe=>(xgq k_ (ylg ((k:Int)=H.Kp) H.sign b1 bt a7 hb _ pe)).mono fun v h' e=>⟨e.1.trans (show _=Value.J (bw H k) from rfl),e.2⟩) ?_;refine ro_y rfl (y_pv rfl (gd2 fun h _=>⟨h,wrN om,trivial⟩)) ?_;refine ax ?_;refine xns Z rfl rfl sdu rfl sdu (v:=.bool true) (Q:=fun Z'=>I (Fr t H d k++[⟨t.sp,k,-bw H k,-1,0⟩]) Z') (fun c1 h C s=>?_) (fun Z1 b0 a8=>?_)
  ·have e:=xph (a:=(t.nW:Int)+t.nH) (b:=k) (c:=-bw H k) (w:=-1) (m:=0) (x:=⟨t.sp,k,-bw H k,-1,0⟩) rfl rfl rfl rfl rfl;have y:=hy _ _ (yvt om (of_decide_eq_true c1)) _ _ _ _ le hI s;rw[<- e]at y;exact y
  obtain⟨u1,V,M⟩:∃u1,(u1=if 0<has t d k then Fr t H d k++[⟨t.sp,k,-bw H k,-1,0⟩]else Fr t H d k)/\I u1 Z1:=by
   by_cases c1:0<has t d k
   ·exact⟨_,rfl,by rw[if_pos c1];exact b0 (decide_eq_true c1)⟩
   ·exact⟨_,rfl,by rw[if_neg c1,a8 (decide_eq_false c1)];exact hI⟩
  refine ax ?_;refine yoz rfl rfl sdu rfl sdu (xgz fun _ pe=>(xgq k_ (ylg ((k:Int)=H.Kp) H.sign b1 bt a7 hb _ pe)).mono fun v h' e=>⟨e.1.trans (show _=Value.J (bw H k) from rfl),e.2⟩) ?_;refine ax ?_;refine xns Z1 rfl rfl sdu rfl sdu (v:=.bool true) (Q:=fun Z'=>I (u1++[⟨k,t.sp,bw H k,-1,0⟩]) Z') (fun c2 h C s=>?_) (fun Z2 a6 a5=>?_)
  ·have e:=xph (a:=k) (b:=(t.nW:Int)+t.nH) (c:=bw H k) (w:=-1) (m:=0) (x:=⟨k,t.sp,bw H k,-1,0⟩) rfl rfl rfl rfl rfl;have c2:has t d k<t.wv k:=of_decide_eq_true (P5 c2);have y:=hy u1 ⟨k,t.sp,bw H k,-1,0⟩ (by
    subst V;split
    ·rename_i c1;exact yut om c1 c2
    ·rename_i c1;exact ytt om c1 c2) _ _ _ _ le M s
   rw[<- e]at y;exact y
  have a4:I (Fr t H d (k+1)) Z2:=by
   by_cases c2:has t d k<t.wv k
   ·have y:=a6 (by show(!(decide (0<has t d k)&&!true)&&decide (has t d k<t.wv k))=true;rw[decide_eq_true c2];simp);subst V;by_cases c1:0<has t d k
    ·rw[if_pos c1,Qk c1 c2]at y;exact y
    ·rw[if_neg c1,Qe c1 c2]at y;exact y
   ·rw[a5 (by show(!(decide (0<has t d k)&&!true)&&decide (has t d k<t.wv k))=false;rw[decide_eq_false c2];simp)];subst V;by_cases c1:0<has t d k
    ·rw[if_pos c1,Q0 c1 c2]at M;exact M
    ·rw[if_neg c1,Qw c1 c2]at M;exact M
  refine ax ?_;refine xcx rfl (fun cd=>absurd cd s_) (fun cd=>?_);exact bkq (IH _ _ _ om ⟨k+1,Z2,rfl,rfl,rfl,rfl,om,a4⟩)
 obtain rfl:k=t.nW:=om;refine ax ?_;refine ro_y rfl (xzt rfl sdt o1 (by rw[Ae,xac])) ?_;refine ax ?_;refine xhq (fun m_ l p_ L_=>∃(k:Nat)(Z:Pcs),m_=t.nH-k/\l=[(1,none,yv),(2,none,w_ b1 0),(6,none,.J (t.nW:Nat)),(8,none,.J (t.nW+t.nH+1)),(9,none,.func (.func 330) #[] #[w_ b1 0]),(102,none,w1),(103,none,.J (t.nH:Nat)),(104,none,.J (k:Nat))]/\p_=p1/\L_=[Y1,Y2,Z,zx]/\k<=t.nH/\I (Ff t H d k) Z) ⟨0,Z,rfl,rfl,rfl,rfl,Nat.zero_le _,by rw[yqj];exact hI⟩ sb ?_;clear IH;rintro _ _ p1 _ IH ⟨k,Z,rfl,rfl,rfl,rfl,hk,hI⟩;refine cq (fun cc=>?_) (fun cc=>?_)
 ·have b4:=yqk O Dv (h:=k) om;have b5:=S.bh k;have Th:=T.h;have d0:=xrt (x:=(As t d k).toNat) om;have d1:=xrt (x:=(As t d k).toNat-1) om;have d2:=xrt (x:=(As t d k).toNat+1) om;refine ax ?_;refine ro_y rfl (xkb rfl rfl o1 (by rw[Ae,xac];omega)) ?_;refine xyh rfl o1 xnx (xf7 om) rfl ?_;refine ax ?_;refine xf6 [25] R62 Z ?_;refine ex ?_;refine xhv rfl rfl rfl rfl sdu (gd2 fun _ hq=>ykg ((As t d k).toNat-1) om om) ?_;refine ex ?_;refine xhv rfl rfl rfl rfl sdu (gd2 fun _ hq=>ykg (As t d k).toNat om om) ?_;refine ex ?_;refine xk8 rfl rfl rfl sdu rfl sdu (xgz fun _ pe=>(xgq k_ (ylg ((k:Int)=H.Ew) H.sign b1 bt a7 hb _ pe)).mono fun v h' e=>⟨e.1.trans (show _=Value.J (bh H k) from rfl),e.2⟩) ?_;refine ex ?_;refine ydr Z rfl rfl rfl sdu rfl sdu (v:=.bool true) (Q:=fun Z'=>I (Ff t H d k++[⟨t.nW+k,t.si,Bi ((As t d k).toNat-1)-Bi (As t d k).toNat-bh H k,-1,0⟩]) Z') (fun c1 h C s=>?_) (fun Z1 b0 a8=>?_)
  ·have e:=xph (a:=(t.nW:Int)+k) (b:=(t.nW:Int)+t.nH+1) (c:=Bi ((As t d k).toNat-1)-Bi (As t d k).toNat-bh H k) (w:=-1) (m:=0) (x:=⟨t.nW+k,t.si,Bi ((As t d k).toNat-1)-Bi (As t d k).toNat-bh H k,-1,0⟩) rfl rfl rfl rfl rfl;have y:=hy _ _ (yyt om (of_decide_eq_true c1)) _ _ _ _ le hI s;rw[<- e]at y;exact y
  obtain⟨u1,V,M⟩:∃u1,(u1=if 0<As t d k then Ff t H d k++[⟨t.nW+k,t.si,Bi ((As t d k).toNat-1)-Bi (As t d k).toNat-bh H k,-1,0⟩]else Ff t H d k)/\I u1 Z1:=by
   by_cases c1:0<As t d k
   ·exact⟨_,rfl,by rw[if_pos c1];exact b0 (decide_eq_true c1)⟩
   ·exact⟨_,rfl,by rw[if_neg c1,a8 (decide_eq_false c1)];exact hI⟩
  refine ex ?_;refine xhv rfl rfl rfl rfl sdu (gd2 fun _ hq=>ykg ((As t d k).toNat+1) om om) ?_;refine ex ?_;refine xhv rfl rfl rfl rfl sdu (gd2 fun _ hq=>ykg (As t d k).toNat om om) ?_;refine ex ?_;refine xk8 rfl rfl rfl sdu rfl sdu (xgz fun _ pe=>(xgq k_ (ylg ((k:Int)=H.Ew) H.sign b1 bt a7 hb _ pe)).mono fun v h' e=>⟨e.1.trans (show _=Value.J (bh H k) from rfl),e.2⟩) ?_;refine ex ?_;refine xns Z1 rfl rfl sdu rfl sdu (v:=.bool true) (Q:=fun Z'=>I (u1++[⟨t.si,t.nW+k,Bi ((As t d k).toNat+1)-Bi (As t d k).toNat+bh H k,-1,0⟩]) Z') (fun c2 h C s=>?_) (fun Z2 a6 a5=>?_)
  ·have e:=xph (a:=(t.nW:Int)+t.nH+1) (b:=(t.nW:Int)+k) (c:=Bi ((As t d k).toNat+1)-Bi (As t d k).toNat+bh H k) (w:=-1) (m:=0) (x:=⟨t.si,t.nW+k,Bi ((As t d k).toNat+1)-Bi (As t d k).toNat+bh H k,-1,0⟩) rfl rfl rfl rfl rfl;have c2:As t d k<t.hv k:=of_decide_eq_true (P5 c2);have y:=hy u1 ⟨t.si,t.nW+k,Bi ((As t d k).toNat+1)-Bi (As t d k).toNat+bh H k,-1,0⟩ (by
    subst V;split
    ·rename_i c1;exact yxt om c1 c2
    ·rename_i c1;exact ywt om c1 c2) _ _ _ _ le M s
   rw[<- e]at y;exact y
  have a4:I (Ff t H d (k+1)) Z2:=by
   by_cases c2:As t d k<t.hv k
   ·have y:=a6 (by show(!(decide (0<As t d k)&&!true)&&decide (As t d k<t.hv k))=true;rw[decide_eq_true c2];simp);subst V;by_cases c1:0<As t d k
    ·rw[if_pos c1,Qv c1 c2]at y;exact y
    ·rw[if_neg c1,Qt c1 c2]at y;exact y
   ·rw[a5 (by show(!(decide (0<As t d k)&&!true)&&decide (As t d k<t.hv k))=false;rw[decide_eq_false c2];simp)];subst V;by_cases c1:0<As t d k
    ·rw[if_pos c1,Q3 c1 c2]at M;exact M
    ·rw[if_neg c1,Q1 c1 c2]at M;exact M
  refine ax ?_;refine xcx rfl (fun cd=>absurd cd s_) (fun cd=>?_);exact bkq (IH _ _ _ om ⟨k+1,Z2,rfl,rfl,rfl,rfl,om,a4⟩)
 obtain rfl:k=t.nH:=om;refine ax ?_;refine xhq (fun m_ l p_ L_=>∃(k:Nat)(Z:Pcs),m_=t.m-k/\l=[(1,none,yv),(2,none,w_ b1 0),(6,none,.J (t.nW:Nat)),(180,none,.slice a3 t.m c3),(181,none,.J (t.m:Nat)),(182,none,.J (k:Nat))]/\p_=p1/\L_=[Y1,Y2,Z,zx]/\k<=t.m/\I (Hc t H d k) Z) ⟨0,Z,rfl,rfl,rfl,rfl,Nat.zero_le _,by rw[ypj];exact hI⟩ sb ?_;clear IH;rintro _ _ p1 _ IH ⟨k,Z,rfl,rfl,rfl,rfl,hk,hI⟩;refine cq (fun cc=>?_) (fun cc=>?_)
 ·have Ty:=T.y;have b6:=O.yp k om;have b8:=O.y k om;refine ax ?_;refine ro_y rfl (xmj rfl (Wys.Qg Ty om b6)) ?_;refine xfx fun b2=>?_;refine ax ?_;refine ynh Z rfl rfl (Q:=fun v Z'=>v=.bool true/\I (Hc t H d k++[⟨t.ww k,t.nW+t.wh k,0,k,1⟩]) Z') (fun h C s=>?_) (fun v1 Z1⟨e1,M⟩=>?_)
  ·have e:=xph (a:=t.ww k) (b:=(t.nW:Int)+t.wh k) (c:=0) (w:=k) (m:=1) (x:=⟨t.ww k,t.nW+t.wh k,0,k,1⟩) rfl rfl rfl rfl rfl;have y:=hy _ _ (yst om) _ _ _ _ le hI s;rw[<- e]at y;exact y
  subst e1;refine ax ?_;refine xns Z1 rfl rfl sdu rfl sdu (v:=.bool true) (Q:=fun Z'=>I (Hc t H d k++[⟨t.ww k,t.nW+t.wh k,0,k,1⟩]++[⟨t.nW+t.wh k,t.ww k,0,k,-1⟩]) Z') (fun c2 h C s=>?_) (fun Z2 a6 a5=>?_)
  ·have e:=xph (a:=(t.nW:Int)+t.wh k) (b:=t.ww k) (c:=0) (w:=k) (m:=-1) (x:=⟨t.nW+t.wh k,t.ww k,0,k,-1⟩) rfl rfl rfl rfl rfl;have c2:0<dv d k:=of_decide_eq_true (P5 c2);have y:=hy _ _ (yrt om c2) _ _ _ _ le M s;rw[<- e]at y;exact y
  have a4:I (Hc t H d (k+1)) Z2:=by
   by_cases c2:0<dv d k
   ·have y:=a6 (by show(!!true&&decide (0<dv d k))=true;rw[decide_eq_true c2];rfl);rw[Y_t c2]at y;exact y
   ·rw[a5 (by show(!!true&&decide (0<dv d k))=false;rw[decide_eq_false c2];rfl)];rw[Y_f c2]at M;exact M
  refine ax ?_;refine xcx rfl (fun cd=>absurd cd s_) (fun cd=>?_);exact bkq (IH _ _ _ om ⟨k+1,Z2,rfl,rfl,rfl,rfl,om,a4⟩)
 obtain rfl:k=t.m:=om;refine ax ?_;exact xvb (f:=285) rfl rfl fun _ H_=>K _ _ ⟨Z,ykn ▸ hI,(xoh H_).forget le⟩
open Go.X.Bf (Bu Fa rel a0 far E0)
theorem yor(T:Al p a1 t.nH a2 t.nW a3 t.m t)(O:OkT t)(M:Wi){cb:Nat}(D:Ax p b t.m d)(Dv:Div t d)(S:Sg M){bt:Nat}
 (hb:p bt=some (.cells #[.slice a1 t.nH c1,.slice a2 t.nW c2,.slice a3 t.m c3,.J M.Ew,.J M.Kp,.J M.sign,.slice b t.m cb] T2 z2)):Oi prog md p (.func (.func 285) #[w_ bt 0] #[]) ((Bh t M d).map fun x=>[N3 x]):=by
 intro h z9 zz p' q7 zx yv I le h0 hy s;refine xgq (first:=[w_ bt 0]) (cap:=[]) k_ ((yn5 c1 c2 c3 t (Al.mono T le) O M cb d (D.mono le) Dv S bt T2 z2 (le _ _ hb) yv (fun H X=>I H.length X) h0 (fun H x hp a5 h X C a4 hI V=>?_) s).mono fun _ _⟨X',q,V⟩=>⟨X',by rw[List.length_map];exact q,V⟩);have hl:=hp.length_le;simp only[List.length_append,List.length_singleton]at hl;have e:((Bh t M d).map fun x=>[N3 x]).getD H.length []=[N3 x]:=by
  obtain⟨r,hr⟩:=hp;rw[<- hr];simp[List.getD_eq_getElem?_getD]
 have z:=hy H.length (by rw[List.length_map];omega) a5 h X C a4 hI V;rw[e]at z;rw[List.length_append,List.length_singleton];exact z
theorem yg6(hp:Per p h)(c1 c2 c3:Nat)(t:Tn)(T:Al p a1 t.nH a2 t.nW a3 t.m t)(O:OkT t)(H:Wi)(cb:Nat)(d:List Int)(D:Ax p b t.m d)(Dv:Div t d)(S:Sg H)(bt:Nat)
 (hb:p bt=some (.cells #[.slice a1 t.nH c1,.slice a2 t.nW c2,.slice a3 t.m c3,.J H.Ew,.J H.Kp,.J H.sign,.slice b t.m cb] T2 z2))(G:Flow.Good t H d):
 Ac prog md 251 #[w_ bt 0] h fun v h'=>∃w Y,(v=.tuple #[w,.J (D6 t H d)]/\Aa 279 5 w (acs (Br t H d)) Y)/\New h h' Y:=by
 have oH:=O.nh;have oW:=O.nw;have oM:=O.nm;refine xhz hp func251 fun zq cs Stop K=>?_;refine drq [] R12 ?_;refine ax ?_;refine xbx (l':=[(0,none,w_ bt 0),(4,none,.J ((t.nW+t.nH+2:Nat):Int))]) ?_ ⟨rfl,rfl,trivial⟩
 refine xzh 7 [1,3,5,6] [0,2] [1,3,4,5,6] (fun i=>match i with|6=>[4]|_=>[]) (fun i=>match i with|1=>[0]|3=>[2]|6=>[0,1,4,5]|_=>[])
  (fun i val _ v x=>match i with
   |0=>v=.J ((t.nW+t.nH+2:Nat):Int)/\x=[]
   |1=>Aa 3 1 v (List.replicate (t.nW+t.nH+2) [.J 0]) x
   |2=>v=.J ((t.nW+t.nH+2:Nat):Int)/\x=[]
   |3=>Aa 279 5 v (List.replicate (t.nW+t.nH+2) [.J 0,.J 0,.J 0,.J 0,.J 0]) x
   |4=>∃b:Nat,v=w_ b 0/\x=[(b,.cells #[.slice none 0 0] 23 (0,0))]
   |5=>∃b:Nat,v=w_ b 0/\x=[(b,.cells #[.slice none 0 0] 275 (0,0))]
   |6=>∃b:Nat,val 4=w_ b 0/\x=[(b,.cells #[val 1] 23 (0,0))]
   |_=>True) (fun i hi val piece hq=>?_) (fun val piece j hj v x q=>?_) (fun val piece hq=>?_)
 ·match i,hi with
  |0,_=>
    exact det
  |1,_=>
    have e0:val 0=.J ((t.nW+t.nH+2:Nat):Int):=(hq 0 rfl).1;refine ycr (n:=t.nW+t.nH+2) (zc:=[.J 0]) rfl (by show some ([],val 0)=_;rw[e0]) (by show some ([],val 0)=_;rw[e0]) om fun v Y o=>?_;exact xuq ⟨⟨_,rfl⟩,fun v' e=>by
     have e':=xmq e;subst e';show Aa _ _ _ _ ([Y]++[]).flatten;simpa using o⟩
  |2,_=>
    exact det
  |3,_=>
    have e0:val 2=.J ((t.nW+t.nH+2:Nat):Int):=(hq 2 rfl).1;refine ycr (n:=t.nW+t.nH+2) (zc:=[.J 0,.J 0,.J 0,.J 0,.J 0]) rfl (by show some ([],val 2)=_;rw[e0]) (by show some ([],val 2)=_;rw[e0]) om fun v Y o=>?_;exact xuq ⟨⟨_,rfl⟩,fun v' e=>by
     have e':=xmq e;subst e';show Aa _ _ _ _ ([Y]++[]).flatten;simpa using o⟩
  |4,_=>
    refine xec rfl fun V=>?_;exact xuq ⟨⟨_,rfl⟩,fun v e=>⟨V,xmq e,rfl⟩⟩
  |5,_=>
    refine xec rfl fun V=>?_;exact xuq ⟨⟨_,rfl⟩,fun v e=>⟨V,xmq e,rfl⟩⟩
  |6,_=>
    obtain⟨V,e4,x4⟩:=hq 4 rfl;have M:Aa 3 1 (val 1) (List.replicate (t.nW+t.nH+2) [.J 0]) (piece 1):=hq 1 rfl;obtain⟨a,cap,e1,_⟩:=M.val;show DE _ _ _ _ _ _ _ _ _ [piece 4];rw[x4];refine xbd (cs:=[.slice none 0 0]) (v:=.slice a _ cap) rfl (by show some ([],val 4)=_;rw[e4]) (by show some ([],val 1)=_;rw[e1]) ?_;exact xuq ⟨⟨undef,rfl⟩,fun v' e=>⟨V,e4,by
     show [(V,Obj.cells _ _ _)]=[(V,Obj.cells #[val 1] _ _)]
     rw[e1];rfl⟩⟩
 ·simp only[List.mem_cons,List.not_mem_nil,or_false]at hj;rcases hj with rfl|rfl
  ·exact q.2
  ·exact q.2
 have e0:val 0=.J ((t.nW+t.nH+2:Nat):Int):=(hq 0 d_).1;have M:Aa 3 1 (val 1) (List.replicate (t.nW+t.nH+2) [.J 0]) (piece 1):=hq 1 d_;have o2:Aa 279 5 (val 3) (List.replicate (t.nW+t.nH+2) [.J 0,.J 0,.J 0,.J 0,.J 0]) (piece 3):=hq 3 d_;obtain⟨V,e4,x4⟩:=hq 4 d_;obtain⟨b5,e5,x5⟩:=hq 5 d_;obtain⟨b6,f6,z6⟩:=hq 6 d_;have e6:val 4=w_ b6 0:=f6;rw[e4]at e6;cases e6;have x6:piece 6=[(V,.cells #[val 1] 23 (0,0))]:=z6;refine xdk (l':=[(0,none,w_ bt 0),(4,none,.J ((t.nW+t.nH+2:Nat):Int)),(5,none,w_ V 0),(6,none,w_ b5 0),(28,none,val 3)]) ?_ ⟨rfl,rfl,by show some (none,val 4)=_;rw[e4],by show some (none,val 5)=_;rw[e5],rfl,trivial⟩;show RO _ _ _ _ _ _ [piece 1,piece 3,piece 5,piece 6];rw[x5,x6];clear hq e0 x4 x5 x6 e4 e5 f6 z6;generalize val 1=v1 at*;generalize val 3=v2 at*;generalize piece 1=Y1 at*;generalize piece 3=Y2 at*;clear val piece;obtain⟨s1,m1,rfl,-⟩:=M.val;obtain⟨s2,m2,rfl,-⟩:=o2.val;rw[List.length_replicate]at M o2⊢;rw[List.length_replicate];obtain⟨N,hN⟩:∃N,N=t.nW+t.nH+2:=⟨_,rfl⟩
 rw[<- hN]at M o2⊢;have M:=M.as ((yxz N).trans (show _=ics (F8 0 N) by simp[F8]));have o2:=o2.as (ywm N);refine ax ?_;refine xhq (fun m_ l p_ L_=>∃(k:Nat)(Y:Pcs),m_=N-k/\l=[(0,none,w_ bt 0),(4,none,.J (N:Nat)),(5,none,w_ V 0),(6,none,w_ b5 0),(30,none,.J (N:Nat)),(31,none,.J (k:Nat))]/\p_=p/\L_=[[(b5,.cells #[.slice s2 N m2] 275 (0,0))],Y,Y2,[(V,.cells #[.slice s1 N m1] 23 (0,0))]]/\k<=N/\Aa 3 1 (.slice s1 N m1) (ics (F8 k N)) Y) ⟨0,Y1,rfl,rfl,rfl,rfl,Nat.zero_le _,M⟩ sb ?_;clear M;rintro _ _ p _ IH ⟨k,Y,rfl,rfl,rfl,rfl,hk,M⟩;refine cq (fun cc=>?_) (fun cc=>?_)
 ·refine ax ?_;refine ro_y rfl (xkb rfl rfl M (by rw[Ae,xhg om];omega)) ?_;refine xkk rfl rfl M xnx rfl rfl rfl (Cm (by rw[xhg om];omega)) (Nat.le_refl _) fun Y' o'=>?_;have o':=o'.as (Eq.trans (b:=ics ((F8 k N).set k 1152921504606846976)) Co (by rw[yfq om]));exact bkq (IH _ _ _ om ⟨k+1,Y',rfl,rfl,rfl,rfl,om,o'⟩)
 obtain rfl:N=k:=om;refine ax ?_;refine ro_y rfl (xkb rfl (by show some ([],Value.J _)=_;rw[show(N:Int)-2=((N-2:Nat):Int) by omega]) M (by rw[Ae,xhg om];omega) (i:=N-2)) ?_;refine xkk rfl rfl M xnx rfl rfl rfl (Cm (by rw[xhg om];omega)) (Nat.le_refl _) fun Y' o'=>?_;have a7:t.sp=N-2:=by unfold Tn.sp;omega
 have o':=o'.as (Eq.trans (b:=ics ((F8 N N).set (N-2) 0)) Co (show _=ics (Bu (Bh t H d) 0 (Fa N t.sp)).c by rw[yhv,<- a7];rfl));have o2:=o2.as (show _=acs (Bu (Bh t H d) 0 (Fa N t.sp)).b from rfl);refine ax ?_;refine xhk (LL':=[Dg [],Y',[(b5,.cells #[.slice s2 N m2] 275 (0,0))],Y2,[(V,.cells #[.slice s1 N m1] 23 (0,0))]]) ?_ (fun h s=>by simpa[Dg]using s);refine yuc (rs₀:=[]) rfl (fun m_ rs l p_ L_=>∃(j:Nat)(Y1 Y2:Pcs),m_=N-j/\l=[(0,none,w_ bt 0),(4,none,.J (N:Nat)),(5,none,w_ V 0),(6,none,w_ b5 0),(42,none,.J (N:Nat)),(43,none,.J (j:Nat))]/\p_=p/\L_=[Dg rs,Y1,[(b5,.cells #[.slice s2 N m2] 275 (0,0))],Y2,[(V,.cells #[.slice s1 N m1] 23 (0,0))]]/\j<=N/\Aa 3 1 (.slice s1 N m1) (ics (Bu (Bh t H d) j (Fa N t.sp)).c) Y1/\Aa 279 5 (.slice s2 N m2) (acs (Bu (Bh t H d) j (Fa N t.sp)).b) Y2/\Ld (Bu (Bh t H d) j (Fa N t.sp)) (48*j)) ⟨0,Y',Y2,rfl,rfl,rfl,rfl,Nat.zero_le _,o',o2,Ld.start⟩ sb ?_;clear IH M o2 o';rintro _ rs _ p _ IH ⟨j,Y1,Y2,rfl,rfl,rfl,rfl,hj,M,o2,a8⟩;refine cq (fun cc=>?_) (fun cc=>?_)
 ·refine ax ?_;refine xc6 (fun i L=>∃Y1 Y2,L=[Dg rs,Y1,[(b5,.cells #[.slice s2 N m2] 275 (0,0))],Y2,[(V,.cells #[.slice s1 N m1] 23 (0,0))]]/\Aa 3 1 (.slice s1 N m1) (ics (((Bh t H d).take i).foldl rel (Bu (Bh t H d) j (Fa N t.sp))).c) Y1/\Aa 279 5 (.slice s2 N m2) (acs (((Bh t H d).take i).foldl rel (Bu (Bh t H d) j (Fa N t.sp))).b) Y2/\Ld (((Bh t H d).take i).foldl rel (Bu (Bh t H d) j (Fa N t.sp))) (48*j+i)) rfl (yor T O H D Dv S hb) ⟨Y1,Y2,rfl,M,o2,a8⟩ ?_ ?_ rfl (fun i hi=>by rw[List.length_map]at hi;simp[List.getD_eq_getElem?_getD,hi])
  ·intro lo lp i _ p' C d8 c9 b0 hi le ⟨Y1,Y2,e,q1,q2,a4⟩ d6 nx;subst e;rw[List.length_map]at hi;obtain⟨x,hx⟩:∃x,x=(Bh t H d)[i]:=⟨_,rfl⟩
   have e:((Bh t H d).map fun x=>[N3 x]).getD i []=[N3 x]:=by simp[List.getD_eq_getElem?_getD,hi,hx]
   rw[e];obtain⟨U,hU⟩:∃U,U=((Bh t H d).take i).foldl rel (Bu (Bh t H d) j (Fa N t.sp)):=⟨_,rfl⟩
   have eU:((Bh t H d).take (i+1)).foldl rel (Bu (Bh t H d) j (Fa N t.sp))=rel U x:=by rw[hU,hx,List.take_succ_eq_append_getElem hi,ydv]
   have lc:U.c.length=N:=by rw[hU];exact Q2
   have lb:U.b.length=N:=by rw[hU];exact Qp
   rw[<- hU]at q1 q2 a4;have b9:x∈Bh t H d:=by rw[hx];exact List.getElem_mem hi
   have c5:=xxc O.y x b9;have a5:=xem O.toOk S Dv x b9;have c8:=a5;have b7:=xo8 (w:=H) (d:=d) O.toOk;have d7:cC=40353607001:=by decide
   rw[d7]at c8;simp only[nN]at c5;have hB:Go.X.Bf.L U x.fr<1152921504606846976-> -30000000000000<=Go.X.Bf.L U x.fr/\Go.X.Bf.L U x.fr<=30000000000000:=fun c=>by
    have z:=a4 x.fr c;omega
   clear hU hx e;show RE _ _ ((47,none,.agg #[.J ((x.fr:Nat):Int),.J ((x.to:Nat):Int),.J x.cost,.J x.way,.J x.more])::_) _ _;refine lq fun b8=>?_;refine ax ?_;dsimp only at nx⊢;refine xts d6 ?_;refine drq [] R20 ?_;refine de_y rfl rfl (xew rfl rfl sdt sdt q1 (by rw[Ae];omega)) ?_;refine ex ?_;refine de_y rfl rfl (xgb rfl sdt q1 xnx (xcl om) rfl) ?_;refine ex ?_;refine de_y rfl rfl (xew rfl rfl sdu sdu q1 (by rw[Ae];omega)) ?_;refine ex ?_;refine de_y rfl rfl (xgb rfl sdu q1 xnx (xcl om) rfl) ?_;refine ex ?_;refine de_y rfl rfl (xew rfl rfl sdu sdu q1 (by rw[Ae];omega)) ?_;refine ex ?_;refine de_y rfl rfl (xgb rfl sdu q1 xnx (xcl om) rfl) ?_;refine ex ?_;refine cq (fun c2=>?_) (fun c2=>?_)
   ·have c3:Go.X.Bf.L U x.fr<1152921504606846976/\Go.X.Bf.L U x.fr+x.cost<Go.X.Bf.L U x.to:=by simpa using c2
    refine xf6 [16] R17 Y1 ?_;refine ex ?_;refine de_y rfl rfl (xew rfl rfl sdt sdt q1 (by rw[Ae];omega)) ?_;refine ex ?_;refine xi4 rfl rfl rfl sdt q1 xnx (xcl om) rfl ?_;refine ex ?_;refine de_y rfl rfl (xew rfl rfl sdt sdt q1 (by rw[Ae];omega)) ?_;refine yfl rfl rfl rfl q1 xnx rfl rfl rfl (xcl om) (Nat.le_refl _) fun Y3 o3=>?_;refine ex ?_;have o3:=o3.as (Eq.trans (b:=ics (U.c.set x.to (Go.X.Bf.L U x.fr+x.cost))) Co (show _=ics (rel U x).c by rw[yyz c3.1 c3.2]));refine ax ?_;refine ro_y rfl (xkb rfl rfl q2 (by rw[xmv];omega)) ?_;refine xkk rfl rfl q2 xnx rfl rfl rfl (xp4 om) (Nat.le_refl _) fun Y4 o4=>?_;have o4:=o4.as (Eq.trans (b:=acs (U.b.set x.to x)) (yxr (x:=x)) (show _=acs (rel U x).b by rw[yyz c3.1 c3.2]));exact bkq (nx [] _ ⟨Y3,Y4,rfl,by rw[eU];exact o3,by rw[eU];exact o4,by rw[eU];exact Ld.step a4 om a5⟩)
   ·have c3:¬ Go.X.Bf.L U x.fr<1152921504606846976\/ ¬ Go.X.Bf.L U x.fr+x.cost<Go.X.Bf.L U x.to:=by
     by_cases c:Go.X.Bf.L U x.fr<1152921504606846976
     ·exact .inr fun z=>c2 (by simp[c,z])
     ·exact .inl c
    have eR:rel U x=U:=c3.elim yym yxm;exact bkq (nx [] _ ⟨Y1,Y2,rfl,by rw[eU,eR];exact q1,by rw[eU,eR];exact q2,by rw[eU,];exact Ld.step a4 om a5⟩)
  ·intro r _ ⟨Y1,Y2,e,q1,q2,a4⟩;subst e;rw[List.length_map,List.take_length]at q1 q2 a4;dsimp only;refine ax ?_;refine ybn (rs:=rs) ?_;have b7:=xo8 (w:=H) (d:=d) O.toOk;exact bkq (IH (r::rs) _ _ _ om ⟨j+1,Y1,Y2,rfl,rfl,rfl,rfl,om,q1,q2,Ld.mono a4 om⟩)
 obtain rfl:N=j:=om;have hB:Bu (Bh t H d) N (Fa N t.sp)=bf t H d:=by rw[hN];rfl
 rw[hB]at M o2;clear IH a8 hB;have d9:(bf t H d).c.length=N:=by rw[hN];exact yrr
 have e7:(bf t H d).b.length=N:=by rw[hN];exact ysr
 refine ax ?_;refine yvs 279 5 fun o9=>?_;refine ro_y rfl (xkb rfl (by show some ([],Value.J _)=_;rw[show(N:Int)-1=((N-1:Nat):Int) by omega]) M (by rw[Ae];omega) (i:=N-1)) ?_;refine xyh rfl M xnx (xcl om) rfl ?_;refine ax ?_;have a6:Go.X.Bf.L (bf t H d) (N-1)=D6 t H d:=by rw[hN];rfl
 rw[a6];refine cq (fun c3=>?_) (fun c3=>?_)
 ·have d0:D6 t H d<far:=by rw[xig];exact c3
  have a9:=(G.find O.toOk S).way d0;have e3:=xl6 O.toOk S G;refine ax ?_;refine xbx (l':=[(4,none,.J (N:Nat)),(5,none,w_ V 0),(6,none,w_ b5 0),(9,none,.slice none 0 0),(10,none,.J ((N-1:Nat):Int))]) ?_ ⟨rfl,rfl,rfl,rfl,by show some (none,Value.J _)=_;rw[show(N:Int)-1=((N-1:Nat):Int) by omega],trivial⟩;refine xhq (fun m_ l p_ L_=>∃(n:Nat)(acc r:List Go.X.Bf.Arc)(w:Value)(Y:Pcs),m_=r.length/\l=[(4,none,.J (N:Nat)),(5,none,w_ V 0),(6,none,w_ b5 0),(9,none,w),(10,none,.J (n:Nat))]/\p_=p/\L_=[Y,Dg rs,Y1,[(b5,.cells #[.slice s2 N m2] 275 (0,0))],Y2,[(V,.cells #[.slice s1 N m1] 23 (0,0))]]/\n<N/\E0 (bf t H d) t.sp n r/\acc++r=Br t H d/\(∀a∈r,a∈Bh t H d)/\Aa 279 5 w (acs acc) Y) ⟨N-1,[],Br t H d,.slice none 0 0,[],rfl,rfl,rfl,rfl,om,(show N-1=t.si by unfold Tn.si;omega) ▸ a9.2.1,rfl,fun a ha=>(a9.2.2.2 a ha).1,o9⟩ sb ?_;clear o9;rintro _ _ p _ IH ⟨n,acc,r,w,Y,rfl,rfl,rfl,rfl,e2,hC,hP,hr,o3⟩;have b3:=congrArg List.length hP;simp only[List.length_append]at b3;refine cq (fun c4=>?_) (fun c4=>?_)
  ·obtain⟨r',c6,c7⟩:=E0.Oy hC (show n≠t.sp by rw[a7];intro e;apply c4;omega);subst c6;simp only[List.length_cons]at b3;refine ax ?_;refine ro_y rfl (xkb rfl rfl o2 (by rw[xmv];omega)) ?_;refine ysm rfl o2 rfl (xp4 om) ?_;refine ax ?_;refine xxx rfl fun v4 Y4 o4=>?_;have o4:Aa 279 5 v4 (acs [Go.X.Bf.B (bf t H d) n]) Y4:=o4;refine ax ?_;refine xiv rfl rfl o3 o4 (xu3 rfl) (by rw[xmv,xmv];simp only[List.length_singleton];omega) fun v5 Y5 o5=>?_;have o5:=o5.as (yzg acc (Go.X.Bf.B (bf t H d) n));refine ax ?_;refine ro_y rfl (xkb rfl rfl o2 (by rw[xmv];omega)) ?_;refine ax ?_;refine xyh rfl o2 (j:=0) rfl (xp4 om) rfl ?_;refine ax ?_;have z_:=xxc O.y _ (hr _ (List.mem_cons_self ..));simp only[nN]at z_;exact bkq (IH _ _ _ s_ ⟨(Go.X.Bf.B (bf t H d) n).fr,acc++[Go.X.Bf.B (bf t H d) n],r',v5,Y5,rfl,rfl,rfl,rfl,om,c7,by rw[List.append_assoc];exact hP,fun a ha=>hr a (List.mem_cons_of_mem _ ha),o5⟩)
  have d5:=E0.Ql hC (show n=t.sp by rw[a7];apply Classical.byContradiction;intro z;apply c4;omega);subst d5;rw[List.append_nil]at hP;rw[hP]at o3;refine drq [] R7 ?_;refine de_y rfl rfl (xew rfl (by show some (_,Value.J _)=_;rw[show(N:Int)-1=((N-1:Nat):Int) by omega]) sdt sdt M (by rw[Ae];omega) (j:=N-1)) ?_;refine de_y rfl rfl (xgb rfl sdt M xnx (xcl om) rfl) ?_;refine xa ?_;dsimp only;rw[a6];exact xqs (rs:=rs) (vs:=[w,.J (D6 t H d)]) func251 rfl rsv fun _ H_=>K _ _ ⟨w,Y,⟨rfl,o3⟩,Eu H_⟩
 ·refine drq [] R7 ?_;refine de_y rfl rfl (xew rfl (by show some (_,Value.J _)=_;rw[show(N:Int)-1=((N-1:Nat):Int) by omega]) sdt sdt M (by rw[Ae];omega) (j:=N-1)) ?_;refine de_y rfl rfl (xgb rfl sdt M xnx (xcl om) rfl) ?_;refine xa ?_;dsimp only;rw[a6];have o9:=o9.as (show _=acs (Br t H d) by rw[Br,if_neg (fun z=>c3 (by rw[xig]at z;exact z))];rfl);exact xqs (rs:=rs) (vs:=[.slice none 0 0,.J (D6 t H d)]) func251 rfl rsv fun _ H_=>K _ _ ⟨.slice none 0 0,[],⟨rfl,o9⟩,Eu H_⟩
open Go.X.Bf (a0)
theorem ypg(hp:Per p h)(t:Tn)(T:Al p a1 t.nH a2 t.nW a3 t.m t)(O:OkT t)(H:Wi)(S:Sg H):
 Ac prog md 206 #[.agg #[.slice a1 t.nH c1,.slice a2 t.nW c2,.slice a3 t.m c3],.agg #[.J H.Ew,.J H.Kp,.J H.sign]] h fun v h'=>∃Y,Aa 3 1 v (ics (C6 t H)) Y/\New h h' Y:=by
 have oH:=O.nh;have oW:=O.nw;have oM:=O.nm;refine xtq hp func206 fun K b1=>?_;refine bq fun b2=>?_;refine drq [5] R6 ?_;refine ycr (n:=t.m) (zc:=[.J 0]) rfl rfl rfl om fun v Y o=>?_;obtain⟨a9,c9,rfl,-⟩:=o.val;rw[List.length_replicate]at o⊢;have o:=o.as (yxz _);refine ex ?_;refine bq fun b5=>?_;refine ax ?_;refine xhk (LL':=[[(b5,.cells #[.slice a1 t.nH c1,.slice a2 t.nW c2,.slice a3 t.m c3,.J H.Ew,.J H.Kp,.J H.sign,.slice a9 t.m c9] 274 (0,0))],Y]) ?_ (fun h s=>s.sub (List.Sublist.cons_cons _ (List.Sublist.cons _ (List.Sublist.cons _ (List.Sublist.refl _)))));refine xhq (fun m_ l p_ L_=>∃(n:Nat)(d:List Int)(Y:Pcs),m_=n/\l=[(5,none,w_ b5 0)]/\p_=p/\L_=[[(b5,.cells #[.slice a1 t.nH c1,.slice a2 t.nW c2,.slice a3 t.m c3,.J H.Ew,.J H.Kp,.J H.sign,.slice a9 t.m c9] 274 (0,0))],Y]/\Flow.Good t H d/\sm t.nH t.hv-tot t d<(n:Int)+1/\Fi t H (n+1) d=C6 t H/\Aa 3 1 (.slice a9 t.m c9) (ics d) Y) ⟨(sm t.nH t.hv).toNat,List.replicate t.m 0,Y,rfl,rfl,rfl,rfl,Flow.Good.start O.toOk S,ygq O.toOk,rfl,o⟩ sb ?_;clear o;rintro n _ p _ IH ⟨_,d,Y,rfl,rfl,rfl,rfl,M,hN,hF,o1⟩;have b8:=M.div.len;have c6:=yb1 M.div (fun i hi=>yx0 O M.div hi);refine ax ?_;refine ytm (Q:=fun v Y=>∃w,v=.tuple #[w,.J (D6 t H d)]/\Aa 279 5 w (acs (Br t H d)) Y) (first:=[]) rfl rfl (fun h s=>(yrd (n:=t.m) o1 (by rw[Ae];exact b8) s (fun x h=>by simp[h]) (bt:=b5) (ob:=.cells #[.slice a1 t.nH c1,.slice a2 t.nW c2,.slice a3 t.m c3,.J H.Ew,.J H.Kp,.J H.sign,.slice a9 t.m c9] 274 (0,0)) s_ fun p_ a_ c_ b0 a8 b6 D_ c8=>yg6 b0 c1 c2 c3 t (Al.mono T a8) O H c_ d D_ M.div S b5 (b6 ▸ c8) M).mono fun v h'⟨w,Y,q,n⟩=>⟨Y,⟨w,q⟩,n⟩) ?_;rintro _ Y2 ⟨w,rfl,o2⟩;refine cq (fun cc=>?_) (fun cc=>?_)
 ·refine ax ?_;exact K.r rfl rfl fun _ H_=>⟨Y,o1.as (by rw[<- hF,yhq cc]),Eu H_⟩
 obtain⟨n',d0,b7,c4,b3⟩:=yjv O.toOk S M cc hN hF;have b4:D6 t H d<Go.X.Bf.far:=by rw[xig];omega
 have a5:=(M.find O.toOk S).way b4;have d5:=xl6 O.toOk S M;have a6:=fun a ha=>(ybb (a5.2.2.2 a ha).1).2;have c7:=fun a ha=>(ybb (a5.2.2.2 a ha).1).1;refine ax ?_;refine xsb o2 (xmv _) fun p1 a4 cp le ev D2=>?_;subst ev;refine ax ?_;refine xhq (fun m_ l p_ L_=>∃(k:Nat)(Y:Pcs),m_=(Br t H d).length-k/\l=[(5,none,w_ b5 0),(29,none,.slice a4 (Br t H d).length cp),(30,none,.J ((Br t H d).length:Nat)),(31,none,.J (k:Nat))]/\p_=p1/\L_=[[(b5,.cells #[.slice a1 t.nH c1,.slice a2 t.nW c2,.slice a3 t.m c3,.J H.Ew,.J H.Kp,.J H.sign,.slice a9 t.m c9] 274 (0,0))],Y]/\k<=(Br t H d).length/\Aa 3 1 (.slice a9 t.m c9) (ics (G5 d (Br t H d) k)) Y) ⟨0,Y,rfl,rfl,rfl,rfl,Nat.zero_le _,by rw[xo2];exact o1⟩ sb ?_;clear o1 o2;rintro _ _ p1 _ a7 ⟨k,Y,rfl,rfl,rfl,rfl,hk,o2⟩;have V:(G5 d (Br t H d) k).length=t.m:=Nf.trans M.div.len;have c5:=yyw a6 c6 k hk;have D3:Mv p1 a4 (Br t H d).length (Br t H d):=D2;refine cq (fun cd=>?_) (fun cd=>?_)
 ·have z1:=c7 _ (xjt (show k<(Br t H d).length by omega));have z2:=a6 _ (xjt (show k<(Br t H d).length by omega));have z3:=c5 ((Br t H d).getD k a0).way.toNat;refine ax ?_;refine ro_y rfl (xmj rfl (D3.all om)) ?_;refine xfx fun b9=>?_;refine cq (fun ce=>?_) (fun ce=>?_)
  ·refine xrs [] R10 ?_;refine ex ?_;refine de_y rfl rfl (xgm rfl rfl sdt sdt o2 (xgz ⟨ce,by rw[Ae,V];omega⟩)) ?_;refine de_y rfl rfl (xgb rfl sdt o2 xnx (Cm (by rw[V];omega)) rfl) ?_;refine xa ?_;refine xcv rfl rfl o2 ce (by rw[Ae,V];omega) ?_;refine xkk rfl rfl o2 xnx rfl rfl rfl (Cm (by rw[V];omega)) (Nat.le_refl _) fun Y3 o3=>?_;have o3:=o3.as (Eq.trans (b:=ics ((G5 d (Br t H d) k).set ((Br t H d).getD k a0).way.toNat ((G5 d (Br t H d) k).getD ((Br t H d).getD k a0).way.toNat 0+((Br t H d).getD k a0).more))) Co (congrArg ics (ywg om ce)));exact bkq (a7 _ _ _ om ⟨k+1,Y3,rfl,rfl,rfl,rfl,om,o3⟩)
  ·exact bkq (a7 _ _ _ om ⟨k+1,Y,rfl,rfl,rfl,rfl,om,o2.as (congrArg ics (yur om ce))⟩)
 refine ax ?_;refine xtv le ?_;exact bkq (IH _ _ _ om ⟨n',aug d (Br t H d),Y,rfl,rfl,rfl,rfl,b7,c4,b3,o2.as (by rw[yxg om])⟩)
theorem xkn{L X:Pcs}(T:Al p a1 t.nH a2 t.nW a3 t.m t)(O:OkT t)(V:Div t d)(o:Aa 3 1 w (ics d) X)(s:St z9 zz p h (X++L)):
 Ac prog md 212 #[.agg #[.slice a1 t.nH c1,.slice a2 t.nW c2,.slice a3 t.m c3],w] h fun v h'=>∃Y,(∃w1 w2 H M,v=.tuple #[w1,w2]/\Aa 3 1 w1 (ics (G0 t d)) H/\Aa 3 1 w2 (ics (N4 t d)) M/\Y=H++M)/\New h h' Y:=
 yqn (n:=t.m) o (by rw[Ae];exact V.len) s (fun x hx=>List.mem_append_left _ hx) fun p' a cap hp le hv D=>by
  subst hv;exact ylk c1 c2 c3 t (Al.mono T le) O cap d D V h hp
theorem yd7(hp:Per p h)(t:Tn)(T:Al p a1 t.nH a2 t.nW a3 t.m t)(O:OkT t)(hG:p 0=some (.cells #[.J (-1),.J (-1),.J 0] tN z)):
 Ac prog md 208 #[.agg #[.slice a1 t.nH c1,.slice a2 t.nW c2,.slice a3 t.m c3]] h fun v h'=>∃Y,Aa 3 1 v (ics (LK t)) Y/\New h h' Y:=by
 have oH:=O.nh;refine xtq hp func208 fun K b1=>?_;refine drq [3,4] R9 ?_;refine xuk rfl rfl rfl (fun _ pe=>ypg pe t T O H0 xnd) ?_;intro v Y o;refine ylw Y rfl rfl rfl (fun h L s=>xkn T O (xsw O.toOk xnd).div o s) ?_;rintro _ _ ⟨w1,w2,H,Y2,rfl,V,o2,rfl⟩;refine xa ?_;refine xqc H Y2 ?_;refine ax ?_;refine xxm H rfl rfl (fun h C s=>yf6 w1 V (by rw[xac];omega) s) ?_;rintro _ M ⟨rfl,o3⟩;refine ax ?_;exact K.r rfl rfl fun _ H_=>⟨M,o3,Eu H_⟩
theorem yh9(hp:Per p h)(t:Tn)(T:Al p a1 t.nH a2 t.nW a3 t.m t)(hn:t.nH<=2^30/\t.nW<=2^30/\t.m<=2^30)(hG:p 0=some (.cells #[.J (-1),.J (-1),.J 0] tN z)):
 Ac prog md 124 #[.agg #[.slice a1 t.nH c1,.slice a2 t.nW c2,.slice a3 t.m c3]] h fun v V=>v=.tuple #[.J (Gk t),.J (Et t)]/\Av h V:=by
 refine xtq hp func124 fun K b1=>?_;refine cdq (cf56 t T hn) ?_;refine cq (fun H=>?_) (fun H=>?_)
 ·refine K.q ?_;rw[Gk,if_neg H];rfl
 have H:=Classical.not_not.1 H;have O:OkT t:=xkr H;have oM:=O.nm;refine coq (fun _ M=>ypg M t T O H0 xnd) ?_;intro v Y o;refine xsb o (by rw[Ae,ykv]) fun p1 a n le ev D=>?_;subst ev;refine xpx rfl rfl (ye7 (C6 t H0) D om (fun i hi=>by have z_:=xcm O xnd i hi;omega)) ?_;refine K.q ?_;rw[Gk,if_pos H,H];rfl
theorem yf9(hp:Per p h)(t:Tn)(T:Al p a1 t.nH a2 t.nW a3 t.m t)(hn:t.nH<=2^30/\t.nW<=2^30/\t.m<=2^30)(hG:p 0=some (.cells #[.J (-1),.J (-1),.J 0] tN z)):
 Ac prog md 127 #[.agg #[.slice a1 t.nH c1,.slice a2 t.nW c2,.slice a3 t.m c3]] h fun v h'=>∃Y,(∃w,v=.tuple #[w,.J (Et t)]/\Aa 3 1 w (ics (LKc t)) Y)/\New h h' Y:=by
 refine xtq hp func127 fun K b1=>?_;refine cdq (cf56 t T hn) ?_;refine cq (fun H=>?_) (fun H=>?_)
 ·refine ax ?_;refine xhk (LL':=[[]]) ?_ (fun h s=>s.sub (List.nil_sublist _));exact K.r rfl rfl fun _ M=>⟨[],⟨.slice none 0 0,rfl,(Aa.empty _ _).as (by rw[LKc,if_neg H];rfl)⟩,Eu M⟩
 have H:=Classical.not_not.1 H;have O:OkT t:=xkr H;refine coq (fun _ V=>yd7 V t T O hG) ?_;intro v Y o;refine ax ?_;exact K.r rfl rfl fun _ M=>⟨Y,⟨v,by rw[H];rfl,o.as (by rw[LKc,if_pos H])⟩,Eu M⟩
theorem yb2(hp:Per p h)(t:Tn)(T:Al p a1 t.nH a2 t.nW a3 t.m t)(O:OkT t)(z s:Int)(S:Sg ⟨z,-1,s⟩)(H:0<=z/\z.toNat<t.nH)(V M:Nat)
 (hT:p V=some (.cells #[.slice a1 t.nH c1,.slice a2 t.nW c2,.slice a3 t.m c3] T1 q1))(hZ:p M=some (.cells #[.J z] T2 q2)):
 Ac prog md 211 #[.J s,w_ V 0,w_ M 0] h fun v h'=>v=.J (Lw t z s)/\Av h h':=by
 have oH:=O.nh;refine xhz hp func211 fun _ _ _ K=>?_;refine drq [5,6] R11 ?_;refine xuk rfl rfl rfl (fun _ pe=>ypg pe t T O ⟨z,-1,s⟩ S) ?_;intro v Y o;have Dv:=(xsw O.toOk S).div;refine ylw Y rfl rfl rfl (fun h L s=>xkn T O Dv o s) ?_;rintro _ _ ⟨w1,w2,Y1,Y2,rfl,o1,o2,rfl⟩;refine xa ?_;refine xrz Y1 Y2 ?_;have Th:=T.h;have a5:=yqk O Dv (h:=z.toNat) H.2;have a4:0<=t.hs.getD z.toNat 0/\t.hs.getD z.toNat 0<=9:=O.h z.toNat H.2;refine xrs [] R9 ?_;refine ex ?_;refine de_y rfl rfl (xfv rfl rfl sdt sdt (xgz ⟨⟨H.1,om⟩,Sl.ne Th om⟩)) ?_;refine de_y rfl rfl (xdj rfl sdt (xgz (Ax.get Th H.2))) ?_;refine ex ?_;refine de_y rfl rfl (xgm rfl rfl sdt sdt o1 (xgz ⟨H.1,by have e:=xac (t:=t) (d:=C6 t ⟨z,-1,s⟩);rw[Ae];omega⟩) (z:=z)) ?_;refine de_y rfl rfl (xgb rfl sdt o1 xnx (xf7 (d:=C6 t ⟨z,-1,s⟩) H.2) rfl) ?_;refine xa ?_;have e:t.hv z.toNat-As t (C6 t ⟨z,-1,s⟩) z.toNat=Lw t z s:=by unfold As Lw;omega
 refine xsq func211 rfl rfl fun _ H_=>K _ _ ⟨?_,H_.kept⟩;exact congrArg (Value.int .i64) e
theorem ya2(hp:Per p h)(t:Tn)(T:Al p a1 t.nH a2 t.nW a3 t.m t)(O:OkT t)(z s:Int)(S:Sg ⟨-1,z,s⟩)(H:0<=z/\z.toNat<t.nW)(bT V:Nat)
 (hT:p bT=some (.cells #[.slice a1 t.nH c1,.slice a2 t.nW c2,.slice a3 t.m c3] T1 q1))(hZ:p V=some (.cells #[.J z] T2 q2)):
 Ac prog md 213 #[.J s,w_ bT 0,w_ V 0] h fun v h'=>v=.J (Oj t z s)/\Av h h':=by
 refine xaz hp func213 fun K=>?_;refine xrs [5,6] R11 ?_;refine ex ?_;refine xuk rfl rfl rfl (fun _ pe=>ypg pe t T O ⟨-1,z,s⟩ S) ?_;intro v Y o;have Dv:=(xsw O.toOk S).div;refine ylw Y rfl rfl rfl (fun h L s=>xkn T O Dv o s) ?_;rintro _ _ ⟨w1,w2,Y1,Y2,rfl,o1,M,rfl⟩;refine xa ?_;refine xqc Y1 Y2 ?_;refine xcv rfl rfl M H.1 (by rw[Ae,xzl];exact H.2) ?_;refine xyh rfl M xnx (yvk H.2) rfl ?_;exact K.q rfl
theorem yd9(hp:Per p h)(t:Tn)(T:Al p a1 t.nH a2 t.nW a3 t.m t)(hn:t.nH<=2^30/\t.nW<=2^30/\t.m<=2^30)(z:Int):
 Ac prog md 130 #[.agg #[.slice a1 t.nH c1,.slice a2 t.nW c2,.slice a3 t.m c3],.J z] h fun v h'=>v=.tuple #[.agg #[.J (Eg t z (-1)),.J (Eg t z 1)],.J (Lq t (decide (0<=z/\z<=(t.nH:Int)-1)))]/\Av h h':=by
 refine xtq hp func130 fun K b2=>?_;refine bq fun b3=>?_;refine lq fun b4=>?_;refine drq [] R4 ?_;refine xhv rfl rfl rfl rfl trivial (yw2 t.nH t.nW t.m c1 c2 c3 om z) ?_;refine ex ?_;refine cdq (yc2 t T hn (decide (0<=z/\z<=(t.nH:Int)-1))) ?_;refine cq (fun H=>?_) (fun H=>?_)
 ·refine ax ?_;exact K.e rfl (xpq rfl (.tmp rfl .nil)) fun _ H_=>⟨by rw[Eg,if_neg H,Eg,if_neg H];rfl,H_.kept⟩
 have H:=Classical.not_not.1 H;have O:OkT t:=xkr (xvr H).1;have hz:=of_decide_eq_true (xvr H).2;have oH:=O.nh;refine ax ?_;refine xqw (b:=b2) fun p1 a4 V=>?_;refine xqw (b:=b3) fun p2 M h2=>?_;have V:=M _ _ V;have T2:=Al.mono T (a4.trans M);refine xjp rfl rfl (fun _ pe=>xgq k_ (yb2 pe t T2 O z (-1) ⟨(by decide:(-1:Int)<= -1),(by decide:(-1:Int)<=1)⟩ ⟨hz.1,om⟩ b2 b3 V h2)) ?_;refine ax ?_;refine xjp rfl rfl (fun _ pe=>xgq k_ (yb2 pe t T2 O z 1 ⟨(by decide:(-1:Int)<=1),(by decide:(1:Int)<=1)⟩ ⟨hz.1,om⟩ b2 b3 V h2)) ?_;refine ax ?_;exact K.e rfl (xpq rfl (.tmp rfl .nil)) fun _ H_=>⟨by rw[Eg,if_pos H,Eg,if_pos H,H];rfl,H_.kept⟩
theorem yb9(hp:Per p h)(t:Tn)(T:Al p a1 t.nH a2 t.nW a3 t.m t)(hn:t.nH<=2^30/\t.nW<=2^30/\t.m<=2^30)(z:Int):
 Ac prog md 132 #[.agg #[.slice a1 t.nH c1,.slice a2 t.nW c2,.slice a3 t.m c3],.J z] h fun v h'=>v=.tuple #[.J (Nb t z),.J (Lq t (decide (0<=z/\z<=(t.nW:Int)-1)))]/\Av h h':=by
 refine xtq hp func132 fun K b2=>?_;refine bq fun b3=>?_;refine drq [] R4 ?_;refine xhv rfl rfl rfl rfl trivial (yv2 t.nH t.nW t.m c1 c2 c3 om z) ?_;refine ex ?_;refine cdq (yc2 t T hn (decide (0<=z/\z<=(t.nW:Int)-1))) ?_;refine cq (fun H=>?_) (fun H=>?_)
 ·refine K.q ?_;rw[Nb,if_neg H];rfl
 have H:=Classical.not_not.1 H;have O:OkT t:=xkr (xvr H).1;have hz:=of_decide_eq_true (xvr H).2;have oW:=O.nw;refine ax ?_;refine xqw (b:=b2) fun p1 a4 V=>?_;refine xqw (b:=b3) fun p2 M h2=>?_;have V:=M _ _ V;have T2:=Al.mono T (a4.trans M);refine xjp rfl rfl (fun _ pe=>xgq k_ (ya2 pe t T2 O z (-1) ⟨(by decide:(-1:Int)<= -1),(by decide:(-1:Int)<=1)⟩ ⟨hz.1,om⟩ b2 b3 V h2)) ?_;refine cq (fun cd=>?_) (fun cd=>?_)
 ·refine K.q ?_;rw[Nb,if_pos H,Pd,if_pos cd,H];rfl
 refine ax ?_;refine xjp rfl rfl (fun _ pe=>xgq k_ (ya2 pe t T2 O z 1 ⟨(by decide:(-1:Int)<=1),(by decide:(1:Int)<=1)⟩ ⟨hz.1,om⟩ b2 b3 V h2)) ?_;refine cq (fun ce=>?_) (fun ce=>?_)
 ·refine K.q ?_;rw[Nb,if_pos H,Pd,if_neg cd,if_pos ce,H];rfl
 refine K.q ?_;rw[Nb,if_pos H,Pd,if_neg cd,if_neg ce,H];rfl
theorem yk5(x:Nat)(M:0<x/\x<64){zT:Nat×Nat}(Z:p 7=some (.cells (Dy.map fun n=>Value.int .u8 ((n:Nat):Int)).toArray tT zT)):Dc prog md p 289 #[.int .u64 (x:Nat)] (.J ((tzN x:Nat):Int)):=by
 have O:=yub (tzF x);refine xlq func289 fun K=>?_;refine xcx rfl (fun H=>absurd H om) (fun H=>?_);refine ax ?_;refine ro_y rfl (ycs rfl om (a:=x)) ?_;refine ro_y rfl (ytl rfl rfl trivial trivial om (a:=x) (b:=18446744073709551616-x)) ?_;refine ro_y rfl (yi3 rfl rfl (a:=x &&& (18446744073709551616-x)) (b:=285870213051353865)) ?_;refine ro_y rfl (xr8 rfl rfl trivial trivial (show _<=64 from by omega) (a:=(x &&& (18446744073709551616-x))*285870213051353865%18446744073709551616) (s:=58)) ?_;refine ro_y rfl (yql k_ rfl rfl (yhh x) (len:=64) (e:=5) (i:=tzF x) (c:=⟨7,0,none⟩)) ?_;refine ro_y rfl (y_lp rfl (yls Z (yhh x))) ?_;refine ro_y rfl (xib ⟨_,underlying5⟩ underlying3 rfl (wrZ om) (k':=.i64)) ?_;exact K.q rfl
theorem ye6(x:Nat)(M:0<x/\x<64){zT:Nat×Nat}(Z:p 7=some (.cells (Dy.map fun n=>Value.int .u8 ((n:Nat):Int)).toArray tT zT)):Dc prog md p 253 #[.int .u64 (x:Nat)] (.J ((tzN x:Nat):Int)):=by
 refine xlq func253 fun K=>?_;refine xcx rfl (fun H=>absurd H (fun z=>z)) (fun H=>?_);refine cdq (yk5 x M Z) ?_;exact K.q rfl
theorem yz1(g:Nat)(hg:g<64){zT:Nat×Nat}(Z:p 7=some (.cells (Dy.map fun n=>Value.int .u8 ((n:Nat):Int)).toArray tT zT)):Nc prog md p 214 #[.int .u64 (g:Nat)] (fun v Y=>Aa 3 1 v (ics (LG g)) Y):=by
 intro h hp;refine xaz hp func214 fun K=>?_;refine xhk (LL':=[[]]) ?_ (fun h s=>s);refine xhq (fun m_ l p_ L_=>∃(n q:Nat)(acc:List Int)(w:Value)(Y:Pcs),m_=q+1/\l=[(0,none,.int .u64 (q:Nat)),(3,none,w)]/\p_=p/\L_=[Y]/\q<64/\Np n q=true/\acc++Kv n q=LG g/\Aa 3 1 w (ics acc) Y) ⟨6,g,[],.slice none 0 0,[],rfl,rfl,rfl,rfl,hg,Qx g hg,rfl,Aa.empty _ _⟩ sb ?_;rintro _ _ p _ IH ⟨n,q,acc,w,Y,rfl,rfl,rfl,rfl,hq,M,O,o1⟩;have hlen:acc.length<=6:=by have z:=congrArg List.length O;simp only[List.length_append]at z;have z2:=xr2 g hg;omega
 refine cq (fun cc=>?_) (fun cc=>?_)
 ·have H:¬ q=0:=om;obtain⟨n',rfl⟩:∃n',n=n'+1:=by
   cases n with
   |zero=>exact absurd (yjj M) H
   |succ n'=>exact⟨n',rfl⟩
  have z:=Nat.and_le_right (n:=q) (m:=q-1);refine ax ?_;refine xpx rfl rfl (ye6 q om Z) ?_;refine xxx rfl fun v2 Y2 V=>?_;have V:Aa 3 1 v2 [[.J ((tzN q:Nat):Int)]] Y2:=V;refine xiv rfl rfl o1 V (xu3 rfl) (by rw[Ae];simp only[List.length_singleton];omega) fun v3 Y3 o3=>?_;have o3:Aa 3 1 v3 (ics (acc++[((tzN q:Nat):Int)])) Y3:=o3.as (yyd);refine ax ?_;refine ro_y rfl (ytl rfl (by show some ([],Value.int .u64 _)=_;rw[show((q:Nat):Int)-1=((q-1:Nat):Int) by omega]) trivial trivial om (ss':=[]) (a:=q) (b:=q-1)) ?_;exact bkq (IH _ _ _ om ⟨n',q &&& (q-1),acc++[((tzN q:Nat):Int)],v3,Y3,rfl,rfl,rfl,rfl,om,ykj M H,by rw[List.append_assoc,List.singleton_append,<- xu9 H];exact O,o3⟩)
 have H:q=0:=om;subst H;rw[xt9,List.append_nil]at O;refine ax ?_;exact K.r rfl rfl fun _ H_=>⟨Y,o1.as (by rw[O]),Eu H_⟩
theorem yb7{a:Option Addr}{m n c d:Nat}(xs H:List Int)(A:Ax p a m xs)(B:Ax p b n H)(hm:m<=100/\n<=100):Dc prog md p 216 #[.slice a m c,.slice b n d] (.J (cmpL xs H)):=by
 have a2:=A.len;have V:=B.len;refine xlq func216 fun K=>?_;refine xnq (fun m_ l=>∃k:Nat,m_=m-k/\l=[(0,none,.slice a m c),(1,none,.slice b n d),(9,none,.slice a m c),(10,none,.J (m:Nat)),(11,none,.J (k:Nat))]/\(k<=m/\k<=n)/\cmpL (xs.drop k) (H.drop k)=cmpL xs H) ⟨0,rfl,rfl,⟨Nat.zero_le _,Nat.zero_le _⟩,s_⟩ sb ?_;rintro _ _ IH ⟨k,rfl,rfl,hk,hc⟩;refine cq (fun cc=>?_) (fun cc=>?_)
 ·refine cq (fun M=>?_) (fun M=>?_)
  ·refine K.q ?_;exact congrArg (Value.int .i64) (by rw[<- hc];exact(ynw om om).symm)
  refine cdq (yqg (xs.getD k 0) (H.getD k 0)) ?_;refine cq (fun O=>?_) (fun O=>?_)
  ·refine K.q ?_;exact congrArg (Value.int .i64) (by rw[<- hc,xk2 om om,if_neg O])
  exact bkq (IH _ om ⟨k+1,rfl,rfl,om,by rw[<- hc,xk2 (k:=k) om om,if_pos om]⟩)
 refine cq (fun M=>?_) (fun M=>?_)
 ·refine K.q ?_;exact congrArg (Value.int .i64) (by rw[<- hc];exact(yow om om).symm)
 refine K.q ?_;exact congrArg (Value.int .i64) (by rw[<- hc];exact(yhg om om).symm)
theorem ys2(hp:Per p h)(fv:Value){a:Option Addr}{n c:Nat}(xs:List Cl)(S:Wys p a n xs)(hn:n<=2^40)(q:Cl->Bool)
 (hf:∀h,Per p h-> ∀i,i<n->Be prog md fv [.agg #[.J (xs.getD i wz).1,.J (xs.getD i wz).2]] h fun v O=>v=.bool (q (xs.getD i wz))/\Av h O):
 Ac prog md 156 #[.slice a n c,fv] h fun v O=>v=.J (Dn q xs)/\Av h O:=by
 have hl:=S.len;refine xaz hp func156 fun K=>?_;refine xnq (fun m l=>∃j:Nat,m=n-j/\l=[(0,none,.slice a n c),(1,none,fv),(7,none,.J n),(8,none,.J j)]/\j<=n/\ ∀i,i<j->q (xs.getD i wz)=false) ⟨0,rfl,rfl,Nat.zero_le _,om⟩ sb ?_;rintro _ _ IH ⟨j,rfl,rfl,hj,H⟩;refine cq (fun V=>?_) (fun V=>?_)
 ·refine ax ?_;refine ro_y rfl (xmj rfl (S.all om)) ?_;refine xjp rfl rfl (fun h_ pe=>hf h_ pe j om) ?_;refine cq (fun M=>?_) (fun M=>?_)
  ·refine K.q ?_;rw[Df (z:=wz) (k:=j) om M H];rfl
  ·exact bkq (IH _ om ⟨j+1,rfl,rfl,om,Dt H (by simpa using M)⟩)
 refine K.q ?_;rw[De (z:=wz) (fun i hi=>H i om)];rfl
theorem yc6(O:Per p h){a:Option Addr}{n c:Nat}(xs:List Cl)(S:Wys p a n xs)(hn:n<=2^40)(q:Cl->Bool)
 (hf:∀h,Per p h-> ∀i,i<n->Be prog md fv [.agg #[.J (xs.getD i wz).1,.J (xs.getD i wz).2]] h fun v H=>v=.bool (q (xs.getD i wz))/\Av h H):
 Ac prog md 255 #[.slice a n c,fv] h fun v H=>v=.bool (decide (0<=Dn q xs))/\Av h H:=by
 refine xaz O func255 fun K=>?_;refine cdq (fun _ M=>ys2 M fv xs S hn q hf) ?_;exact K.q rfl
theorem yd6(x y H w:Nat)(hx:x<=63)(hg:H<64)(O M:Nat)(hW:p O=some (.cells #[.J (w:Nat)] T1 q1))(hG:p M=some (.cells #[.int .u64 (H:Nat)] T2 q2)):Dc prog md p 254 #[.agg #[.J (x:Nat),.J (y:Nat)],w_ O 0,w_ M 0] (.bool (shq H w ((x:Int),(y:Int)))):=by
 intro h V;refine xhz V func254 fun _ _ _ K=>?_;refine bq fun b3=>?_;refine ax ?_;refine ro_y rfl (xr8 rfl rfl sdu sdu (show _<=64 by omega) (a:=H) (s:=x)) ?_;refine ro_y rfl (ytl rfl rfl sdu sdu ⟨Nat.lt_of_le_of_lt (Nat.div_le_self _ _) om,om⟩ (a:=H / 2^x) (b:=1)) ?_;refine ax ?_;refine xsq func254 rfl rfl fun _ H_=>K _ _ ⟨?_,H_.kept⟩;refine congrArg Value.bool ?_;simp only[shq,Int.toNat_natCast];rw[Bool.eq_iff_iff];simp only[Bool.and_eq_true,decide_eq_true_eq];omega
theorem yq3(hp:Per p h){g w:Nat}{x:Cl}(H:0<=x.1/\x.1<=63/\0<=x.2)(hg:g<64){O M:Nat}(hW:p O=some (.cells #[.J (w:Nat)] T1 q1))(V:p M=some (.cells #[.int .u64 (g:Nat)] T2 q2)):
 Ac prog md 254 #[.agg #[.J x.1,.J x.2],w_ O 0,w_ M 0] h fun v h'=>v=.bool (shq g w x)/\Av h h':=by
 obtain⟨a,b⟩:=x;obtain⟨a,rfl⟩:=Int.eq_ofNat_of_zero_le H.1;obtain⟨b,rfl⟩:=Int.eq_ofNat_of_zero_le H.2.2;exact yd6 a b g w (by have:=H.2.1;simp only at this;omega) hg O M hW V h hp
theorem yy1(t:Tn)(T:Al p a1 t.nH a2 t.nW a3 t.m t)(O:OkT t)(g:Nat)(a6:g<2^t.nH){zT:Nat×Nat}(Z:p 7=some (.cells (Dy.map fun n=>Value.int .u8 ((n:Nat):Int)).toArray tT zT)):Dc prog md p 215 #[.int .u64 (g:Nat),.agg #[.slice a1 t.nH c1,.slice a2 t.nW c2,.slice a3 t.m c3]] (.bool (decide (0<Gr t g))):=by
 intro h hp;have oH:=O.nh;have oW:=O.nw;have oM:=O.nm;have H:g<64:=by have z:=ysh O.toOk;omega
 have a8:=xr2 g H;refine xhz hp func215 fun _ _ _ K=>?_;refine bq fun b1=>?_;refine bq fun b3=>?_;refine xqw (b:=b1) fun p1 a7 h1=>?_;refine xqw (b:=b3) fun p2 a4 h3=>?_;have h1:p2 b1=some (.cells #[.int .u64 (g:Nat)] _ (0,0)):=a4 _ _ h1;have h3:p2 b3=some (.cells #[.slice a1 t.nH c1,.slice a2 t.nW c2,.slice a3 t.m c3] _ (0,0)):=h3;have T:=Al.mono T (a7.trans a4);have Z2:=a4 _ _ (a7 _ _ Z);clear Z;refine coq (yz1 g H Z2) ?_;clear Z2;intro v Y o;refine xsb o (Ae _) fun p3 a n V ev D=>?_;subst ev;have T:=Al.mono T V;have h1:=V _ _ h1;have h3:=V _ _ h3;have Th:=T.h;have Tw:=T.w;have D:Ax p3 a (LG g).length (LG g):=D;refine ax ?_;refine xnq (fun m_ l=>∃k:Nat,m_=(LG g).length-k/\l=[(2,none,w_ b1 0),(3,none,w_ b3 0),(5,none,.J (Gw t g k)),(12,none,.slice a (LG g).length n),(13,none,.J ((LG g).length:Nat)),(14,none,.J (k:Nat))]/\k<=(LG g).length) ⟨0,rfl,rfl,Nat.zero_le _⟩ sb ?_;rintro _ _ IH ⟨k,rfl,rfl,hk⟩;have a9:=yhb O.toOk a6 hk;refine cq (fun cc=>?_) (fun cc=>?_)
 ·have a5:=yyr O.nh a6 k om;have b0:0<=t.hs.getD ((LG g).getD k 0).toNat 0/\t.hs.getD ((LG g).getD k 0).toNat 0<=9:=O.h _ om
  repeat (first|refine ro_y rfl (y_pv rfl sdt) ?_|refine ymh ?_|refine xg6 ?_|refine xgr ?_|refine ycj ?_|refine yrh ?_|refine xb6 ?_ rfl|refine ro_y rfl (y_ld rfl sdt) ?_|refine ro_y rfl (y_fb rfl sdt) ?_|refine ro_y rfl (y_fa rfl sdt) ?_|refine ro_y rfl (xdj rfl sdt (xgz (xp3 ‹_› rfl))) ?_|refine ro_y rfl (y_ia rfl rfl om (Sl.ne ‹_› om)) ?_|refine ro_y rfl (y_lp rfl (Ax.get ‹_› om)) ?_|refine ro_y rfl (ypl rfl sdt) ?_)
  refine ro_y rfl (xed rfl rfl a5.1 a5.2 (Sl.ne Th om)) ?_;refine ro_y rfl (y_lp rfl (Ax.get Th om)) ?_;exact bkq (IH _ om ⟨k+1,rfl,rfl,om⟩)
 obtain rfl:k=(LG g).length:=om;refine ax ?_;refine xhq (fun m_ l p_ L_=>∃(w:Nat)(s:Int),m_=t.nW-w/\l=[(2,none,w_ b1 0),(3,none,w_ b3 0),(5,none,.J s),(27,none,.slice a2 t.nW c2),(28,none,.J (t.nW:Nat)),(29,none,.J (w:Nat))]/\p_=p3/\L_=[]/\w<=t.nW/\s=Gw t g (LG g).length-C4 t g w) ⟨0,Gw t g (LG g).length,rfl,rfl,rfl,rfl,Nat.zero_le _,by simp[C4,sm]⟩ sb ?_;clear IH;rintro _ _ p3 _ IH ⟨w,s,rfl,rfl,rfl,rfl,hw,hs⟩;have b4:=xf1 O.toOk (g:=g) hw;refine cq (fun cc=>?_) (fun cc=>?_)
 ·have b5:0<=t.ws.getD w 0/\t.ws.getD w 0<=21:=O.w w om;refine lq fun b8=>?_;refine ax ?_;refine xqw (b:=b8) fun p4 M h8=>?_;have T4:=Al.mono T M;refine xpx rfl rfl (fun _ pe=>yc6 pe t.wy T4.y om (shq g w) (fun h_ pe i hi=>xgq k_ (yq3 pe (yn3 O hi) H h8 (M _ _ h1)))) ?_;refine cq (fun ce=>?_) (fun ce=>?_)
  ·refine ax ?_;refine xtv M ?_;exact bkq (IH _ _ _ om ⟨w+1,s-t.ws.getD w 0,rfl,rfl,rfl,rfl,om,by rw[xk9 ce,hs];show _=_-(_+t.ws.getD w 0);omega⟩)
  ·refine ax ?_;refine xtv M ?_;exact bkq (IH _ _ _ om ⟨w+1,s,rfl,rfl,rfl,rfl,om,by rw[ybj ce,hs]⟩)
 obtain rfl:w=t.nW:=om;refine ax ?_;refine xsq func215 rfl rfl fun h_ H_=>K _ _ ⟨?_,H_.kept⟩;rw[hs];rfl
theorem yz8(hp:Per p h)(t:Tn)(T:Al p a1 t.nH a2 t.nW a3 t.m t)(hn:t.nH<=2^30/\t.nW<=2^30/\t.m<=2^30){zT:Nat×Nat}(Z:p 7=some (.cells (Dy.map fun n=>Value.int .u8 ((n:Nat):Int)).toArray tT zT)):
 Ac prog md 134 #[.agg #[.slice a1 t.nH c1,.slice a2 t.nW c2,.slice a3 t.m c3]] h fun v h'=>∃Y,(∃w,v=.tuple #[w,.J (F5 t)]/\Aa 3 1 w (ics (Gp t)) Y)/\New h h' Y:=by
 obtain⟨b4,M⟩:∃b4,b4=Dy:=⟨_,rfl⟩
 rw[<- M]at Z;refine xtq hp func134 fun K b1=>?_;refine cdq (cf56 t T hn) ?_;refine cq (fun cc=>?_) (fun cc=>?_)
 ·refine ax ?_;refine xhk (LL':=[[]]) ?_ (fun h s=>s.sub (List.nil_sublist _));exact K.r rfl rfl fun _ H_=>⟨[],⟨.slice none 0 0,by rw[ycz cc];rfl,(Aa.empty _ _).as (by rw[ydz cc];rfl)⟩,Eu H_⟩
 have cc:=Classical.not_not.1 cc;have O:OkT t:=xkr cc;have oH:=O.nh;have b8:=ysh O.toOk;refine ax ?_;refine ro_y rfl (yd3 rfl rfl om (s:=t.nH)) ?_;refine xqw (b:=b1) fun p1 b0 h1=>?_;have T:=Al.mono T b0;have Z:=b0 _ _ Z;refine ax ?_;refine xhk (LL':=[[]]) ?_ (fun h s=>s);refine xhq (fun m_ l p_ L_=>∃(k:Nat)(w:Value)(Y:Pcs),m_=2^t.nH-k/\l=[(1,none,w_ b1 0),(5,none,w),(16,none,.int .u64 ((2^t.nH:Nat):Int)),(17,none,.int .u64 (k:Nat))]/\p_=p1/\L_=[Y]/\k<=2^t.nH/\Aa 3 1 w (ics (Bb t k)) Y/\(Bb t k=[]->w=.slice none 0 0)) ⟨0,.slice none 0 0,[],rfl,rfl,rfl,rfl,Nat.zero_le _,Aa.empty _ _,fun _=>rfl⟩ sb ?_;rintro _ _ p1 _ IH ⟨k,w,Y,rfl,rfl,rfl,rfl,hk,o1,hw⟩;refine cq (fun cd=>?_) (fun cd=>?_)
 ·have b3:k<2^t.nH:=om;have a6:k<64:=om;have c6:=xr2 k a6;have c4:(Bb t k).length<=6:=xum om;refine ax ?_;refine xjb rfl rfl (yz1 k a6 (by rw[<- M];exact Z)) ?_;intro v7 Y7 o7;obtain⟨a7,c7,rfl,-⟩:=o7.val;rw[Ae]at o7⊢;obtain⟨a5,c5,rfl,a9⟩:=o1.val;rw[Ae]at o1 hw⊢;refine ax ?_;by_cases hs:0<Gr t k
  ·refine xpx (v:=.bool true) rfl rfl (fun _ pe=>(yy1 t T O k b3 (by rw[<- M];exact Z) _ pe).mono fun v h' e=>⟨e.1.trans (by rw[decide_eq_true hs]),e.2⟩) ?_;by_cases V:Bb t k=[]
   ·have e:=hw V;injection e with e1 e2 e3;subst e1;refine ax ?_;refine ro_y rfl (xa0 rfl sdu) ?_;refine ax ?_;refine xff (.J 0) rfl ?_;refine xff (.J 0) rfl ?_;refine xff (.J 0) rfl ?_;refine ax ?_;refine xcx rfl (fun H=>?_) (fun H=>absurd s_ H);exact bkq (IH _ _ _ om ⟨k+1,_,Y7,rfl,rfl,rfl,rfl,om,o7.as (by rw[xoc hs (.inl V)]),fun z=>absurd (by rw[<- xoc hs (.inl V)];exact z) (xp0 O.toOk hs)⟩)
   ·have b7:0<(Bb t k).length:=List.length_pos_iff.2 V;cases a5 with
    |none=>exact absurd (a9 (by rw[Ae];exact b7)) s_
    |some ad=>
      refine ax ?_;refine ro_y rfl (xa0 rfl sdu) ?_;refine ax ?_;refine yet (v:=.J (cmpL (LG k) (Bb t k))) rfl rfl trivial rfl (by simp[Bl]) (fun h s=>yz3 o7 (Ae _) o1 (Ae _) s s_ fun p' a cap a' b9 b5 le e e' S S'=>by
       cases e;cases e';exact yb7 (LG k) (Bb t k) S S' ⟨om,om⟩ h b5) ?_
      refine ax ?_;refine xy0 rfl rfl (by simp[Bl]) fun v8 Y8 o8=>?_;have o8:Aa 3 1 v8 (ics [((LG k).length:Int)-((Bb t k).length:Int),cmpL (LG k) (Bb t k)]) Y8:=o8;refine xsb (m:=2) o8 rfl fun p2 a8 c8 le ev D=>?_;subst ev;refine xqz (g:=some true) rfl rfl rfl (fun _=>by simp[Bl]) (fun _=>yj2 _ D om) ?_;refine cq (fun H=>?_) (fun H=>?_)
      ·have a4:prec (LG k) (Bb t k):=by simpa using H
       refine ax ?_;refine xtv le ?_;exact bkq (IH _ _ _ om ⟨k+1,_,Y7,rfl,rfl,rfl,rfl,om,o7.as (by rw[xoc hs (.inr a4)]),fun z=>absurd (by rw[<- xoc hs (.inr a4)];exact z) (xp0 O.toOk hs)⟩)
      ·have a4:¬ prec (LG k) (Bb t k):=fun z=>H (by simpa using z);refine ax ?_;refine xtv le ?_;exact bkq (IH _ _ _ om ⟨k+1,_,Y,rfl,rfl,rfl,rfl,om,o1.as (by rw[xbr V a4]),fun z=>absurd (by rw[<- xbr V a4];exact z) V⟩)
  ·refine xpx (v:=.bool false) rfl rfl (fun _ pe=>(yy1 t T O k b3 (by rw[<- M];exact Z) _ pe).mono fun v h' e=>⟨e.1.trans (by rw[decide_eq_false hs]),e.2⟩) ?_;refine ax ?_;refine ro_y rfl (xa0 rfl sdu) ?_;refine ax ?_;refine xff (.J 0) rfl ?_;refine xff (.J 0) rfl ?_;refine xff (.J 0) rfl ?_;refine ax ?_;refine xcx rfl (fun H=>absurd H s_) (fun H=>?_);exact bkq (IH _ _ _ om ⟨k+1,_,Y,rfl,rfl,rfl,rfl,om,o1.as (by rw[xcr hs]),fun z=>hw (by rw[<- xcr hs];exact z)⟩)
 have b6:k=2^t.nH:=om;have eP:Bb t k=Ga t:=by rw[b6];rfl
 rw[eP]at o1 hw;obtain⟨a5,c5,rfl,a9⟩:=o1.val;rw[Ae]at o1 hw⊢;by_cases V:Ga t=[]
 ·have e:=hw V;injection e with e1 e2 e3;subst e1;refine ax ?_;refine ro_y rfl (xa0 rfl trivial) ?_;refine ax ?_;refine xcx rfl (fun H=>?_) (fun H=>absurd s_ H);refine ax ?_;refine xhk (LL':=[[]]) ?_ (fun h s=>s.sub (List.nil_sublist _));exact K.r rfl rfl fun _ H_=>⟨[],⟨.slice none 0 0,by rw[ydc cc V];rfl,(Aa.empty _ _).as (by rw[xxg cc,V];rfl)⟩,Eu H_⟩
 ·cases a5 with
  |none=>exact absurd (a9 (by rw[Ae];exact List.length_pos_iff.2 V)) s_
  |some ad=>
    refine ax ?_;refine ro_y rfl (xa0 rfl trivial) ?_;refine ax ?_;refine xcx rfl (fun H=>absurd H s_) (fun H=>?_);refine ax ?_;exact K.r rfl rfl fun _ H_=>⟨Y,⟨_,by rw[yec cc V];rfl,o1.as (by rw[xxg cc])⟩,Eu H_⟩
end Go.Proofs.YtofhlcococeifaaGreatDoor
