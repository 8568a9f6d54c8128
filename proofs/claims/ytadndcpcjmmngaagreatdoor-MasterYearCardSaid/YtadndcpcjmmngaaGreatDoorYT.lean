/-
  Part of proofs about a town's master: a calculus for Bj beside goroutines that are only leaving, and the Bj. No condition.
-/
import Derived.Test.YtadndcpcjmmngaaGreatDoorYS
set_option maxHeartbeats 8000000
set_option maxRecDepth 20000
set_option synthInstance.maxSize 2000
namespace Go.X.Flow
open Go.X Go.X.Bf
variable{d:List Int}{i:Nat}{z:Nat×Nat}{t:Tn}
theorem yjt(O:OkT t)(H:Div t d)(hi:i<t.m):0<=dv d i/\dv d i<=9:=by
 have M:=O.y i hi;have h2:dv d i<=draw t d (t.wh i):=by
  have:=yvq (f:=fun k=>if t.wh k=t.wh i then dv d k else 0) (k:=t.m) (fun k V=>by have:=H.pos k V;split<;>omega) hi;simpa[draw]using this
 have h3:=H.hs _ M.1;have h4:=O.h _ M.1;have h5:=H.pos i hi
 omega
theorem yhj(O:OkT t)(H:Div t d){h:Nat}(M:h<t.nH):0<=Al t d h/\Al t d h<=9:=by
 have h1:=H.hs h M;have h2:=O.h h M;have V:=xrk H h
 unfold Al;omega
theorem yat(O:OkT t)(H:Div t d){x:Nat}(M:x<t.nW):0<=has t d x/\has t d x<=21:=by
 have h1:=H.ws x M;have h2:=O.w x M;have V:=xxw H x
 unfold has;omega
open Go.X
variable{p:Aa}
theorem ytp{b:Nat}{t:TypeId}(N:p b=some (.cells (Dz.map fun n=>Value.int .u8 ((n:Nat):Int)).toArray t z))(h:i<64):Au p ((⟨b,0,none⟩:Addr).add (i*1))=some (.int .u8 ((Dz.getD i 0:Nat):Int)):=by
 have H:Dz.length=64:=by decide
 unfold Au;rw[xnx,N];simp only[Option.isSome_none,Bool.false_eq_true,if_false,Nat.zero_add,Nat.mul_one,List.getElem?_toArray,List.getElem?_map];rw[List.getD_eq_getElem?_getD,List.getElem?_eq_getElem om];rfl
theorem xsl{t:Tn}:∀{k:Nat},k<=64->(Ax t k).length<=6
 |0,_=>by simp[Ax]
 |k+1,h=>by
   rw[Ax];split
   ·exact xn1 k om
   ·exact xsl om
end Go.X.Flow
namespace Go.Proofs.YtadndcpcjmmngaaGreatDoor
open Go.Proofs.Tryz
open Go.X Go.X.Flow Go.Conc
variable{h z9:Heap}{n:Int}{d vs xs:List Int}{zz:List Nat}{md:Md}{c1 c2 c3 j:Nat}{g:Nat->Nat}{q1 q2 z z2:Nat×Nat}{a1 a2 a3 b:Option Addr}{p:Aa}{q7 zx:Pcs}{t:Tn}{T1 T2 tN tT:TypeId}{fv w:Value}
theorem cf96{lo hi:Int}:Dc prog md p 96 #[.J n,.J lo,.J hi] (.bool (decide (lo<=n/\n<=hi))):=by
 refine xlq func96 fun K=>?_;refine K.q ?_;exact congrArg _ (bpe Iff.rfl)
theorem cf95:Dc prog md p 95 #[.J n] (.bool (Ng 9 n)):=by
 refine xlq func95 fun K=>?_;refine cdq cf96 ?_;exact K.q rfl
theorem cf97:Dc prog md p 97 #[.J n] (.bool (Ng 20 n)):=by
 refine xlq func97 fun K=>?_;refine cdq cf96 ?_;exact K.q rfl
theorem yf0:Dc prog md p 234 #[.J n] (.bool false):=by
 refine xlq func234 fun K=>?_;refine K.q ?_;exact congrArg _ (decide_eq_false fun z=>z rfl)
theorem yff(x y:Int):Dc prog md p 185 #[.J x,.J y] (.J (Gt x y)):=by
 refine xlq func185 fun K=>?_;refine cdq yf0 ?_;refine cdq yf0 ?_;refine ax ?_;refine xjx rfl (fun H=>absurd H (fun z=>z)) (fun H=>?_);refine ax ?_;refine xjx rfl (fun H=>absurd H (fun z=>z)) (fun H=>?_);refine cq (fun M=>?_) (fun M=>?_)
 ·refine K.q ?_;rw[Gt,if_pos M];rfl
 refine cq (fun O=>?_) (fun O=>?_)
 ·refine K.q ?_;rw[Gt,if_neg M,if_pos O];rfl
 refine K.q ?_;rw[Gt,if_neg M,if_neg O];rfl
theorem yx0{a:Option Addr}{n c:Nat}(xs:List Int)(S:Ar p a n xs)(hn:n<=2^40):Dc prog md p 184 #[.slice a n c] (.J (orI xs)):=by
 have hl:=S.len;refine xlq func184 fun K=>?_;refine xnq (fun m l=>∃j:Nat,m=n-j/\l=[(3,none,.J 0),(6,none,.slice a n c),(7,none,.J n),(8,none,.J j)]/\j<=n/\ ∀i,i<j->xs.getD i 0=0) ⟨0,rfl,rfl,Nat.zero_le _,om⟩ sb ?_;rintro _ _ V ⟨j,rfl,rfl,hj,M⟩;refine cq (fun O=>?_) (fun O=>?_)
 ·refine cq (fun H=>?_) (fun H=>?_)
  ·refine K.q ?_;rw[yhg (k:=j) om M H];rfl
  ·exact bkq (V _ om ⟨j+1,rfl,rfl,om,Dr M (Classical.not_not.1 H)⟩)
 refine K.q ?_;rw[ynz fun i hi=>M i om];rfl
theorem yl8{a b c d:Int}:Dc prog md p 100 #[.agg #[.J a,.J b],.agg #[.J c,.J d]] (.J (O1 a b c d)):=by
 refine xkq func100 fun K b1=>?_;refine bq fun b2=>?_;refine drq [] R9 ?_;refine xaj rfl rfl rfl (yff _ _) ?_;refine ex ?_;refine cdq (yff _ _) ?_;refine xtx rfl fun v Y o=>?_;have o:Ab 3 1 v [[.J (Gt a c)],[.J (Gt b d)]] Y:=o;refine xhx o (m:=2) rfl d_ fun p' O c3 g M H F=>?_;subst M;refine xrx rfl rfl (yx0 [Gt a c,Gt b d] F d_) ?_;exact K.q rfl
theorem cf98(H O M c1 c2 c3:Nat)(hn:H<=2^40)(x:Int):Dc prog md p 98 #[.agg #[.slice a1 H c1,.slice a2 O c2,.slice a3 M c3],.J x] (.bool (decide (0<=x/\x<=(H:Int)-1))):=by
 refine xkq func98 fun K b1=>?_;refine cdq cf96 ?_;exact K.q rfl
theorem cf99(M H O c1 c2 c3:Nat)(hn:H<=2^40)(x:Int):Dc prog md p 99 #[.agg #[.slice a1 M c1,.slice a2 H c2,.slice a3 O c3],.J x] (.bool (decide (0<=x/\x<=(H:Int)-1))):=by
 refine xkq func99 fun K b1=>?_;refine cdq cf96 ?_;exact K.q rfl
theorem xr9:((¬ (0<=(t.wy.getD j wz).1/\(t.wy.getD j wz).1<=(t.nH:Int)-1)\/ ¬ (0<=(t.wy.getD j wz).2/\(t.wy.getD j wz).2<=(t.nW:Int)-1))\/(0<(j:Int)/\0<=O1 (t.wy.getD ((j:Int)-1).toNat wz).1 (t.wy.getD ((j:Int)-1).toNat wz).2 (t.wy.getD j wz).1 (t.wy.getD j wz).2))<-> ¬ YOk t j:=by
 unfold YOk;rw[yrb];constructor
 ·rintro((z|z)|⟨z1,z2⟩) ⟨y1,y2,y3⟩
  ·exact z y1
  ·exact z y2
  ·exact z2 (y3 om)
 ·intro z;refine Classical.byContradiction fun n=>z ?_;have M:=not_or.1 n;have H:=not_or.1 M.1;exact⟨Classical.not_not.1 H.1,Classical.not_not.1 H.2,fun O=>Classical.not_not.1 fun b=>M.2 ⟨om,b⟩⟩
theorem cf50(t:Tn)(T:Am p a1 t.nH a2 t.nW a3 t.m t)(hn:t.nH<=2^30/\t.nW<=2^30/\t.m<=2^30):Dc prog md p 50 #[.agg #[.slice a1 t.nH c1,.slice a2 t.nW c2,.slice a3 t.m c3]] (.J (C6 t)):=by
 have Th:=T.h;have Tw:=T.w;refine xkq func50 fun K b1=>?_;refine cq (fun cc=>?_) (fun cc=>?_)
 ·refine K.q ?_;rw[Fr fun z=>by have:=z.1;have:=z.2.nh;have:=z.2.nw;omega];rfl
 refine ax ?_;refine xrx rfl rfl (fun _ H=>cf94 H T.h om (Ng 9) fun _ H _ _=>xgq k_ (cf95 _ H)) ?_;refine ax ?_;refine xxj rfl rfl rfl sdt (fun _ _ H=>cf94 H T.w om (Ng 20) fun _ H _ _=>xgq k_ (cf97 _ H)) ?_;refine cq (fun M=>?_) (fun M=>?_)
 ·refine K.q ?_;rw[Fr fun z=>M.elim (fun y=>ymv y z.2.h) (fun y=>ymv y z.2.w)];rfl
 refine ax ?_;refine xjq (fun m l p_ L_=>∃(j:Nat)(A:List Pcs),m=t.m-j/\l=[(1,none,w_ b1 0),(30,none,.slice a3 t.m c3),(31,none,.J t.m),(32,none,.J j)]/\p_=p/\L_=[[(b1,.cells #[.slice a1 t.nH c1,.slice a2 t.nW c2,.slice a3 t.m c3] 28 (0,0))]]/\j<=t.m/\ ∀i,i<j->YOk t i) ⟨0,[],rfl,rfl,rfl,rfl,Nat.zero_le _,om⟩ sb ?_;rintro _ _ _ _ IH ⟨j,A,rfl,rfl,rfl,rfl,hj,V⟩;refine cq (fun ce=>?_) (fun ce=>?_)
 ·refine ax ?_;refine ro_y rfl (y_ia rfl rfl om (T.y.ne om)) ?_;refine ro_y rfl (xlk rfl (T.y.all om)) ?_;refine xbx fun b2=>?_;refine drq [] R23 ?_;refine xaj rfl rfl rfl (cf98 _ _ _ _ _ _ om _) ?_;refine ex ?_;refine xxk rfl rfl rfl rfl sdt (fun _=>cf99 _ _ _ _ _ _ om _) ?_;refine ex ?_;refine de_y rfl rfl (xkz rfl rfl sdt sdt (gd2 fun _ hq=>⟨om,T.y.ne om⟩)) ?_;refine de_y rfl rfl (xzc rfl sdt (gd2 fun _ hq=>T.y.all om)) ?_;refine ex ?_;refine cgq (fun _=>yl8) ?_;refine cq (fun O=>?_) (fun O=>?_)
  ·refine K.q ?_;rw[Fr fun z=>xr9.1 O (z.2.y j om)];rfl
  exact bkq (IH _ _ _ om ⟨j+1,[],rfl,rfl,rfl,rfl,om,Dr V (Classical.not_not.1 fun z=>O (xr9.2 z))⟩)
 refine ax ?_;have e1:t.hs.length=t.nH:=rfl;have e2:t.ws.length=t.nW:=rfl;refine K.q ?_;rw[Cf om ⟨om,om,fun i hi=>xi7 (fun z=>M (.inl z)) i hi,fun i hi=>xi7 (fun z=>M (.inr z)) i hi,fun i hi=>V i om⟩];rfl
theorem yq0(t:Tn)(T:Am p a1 t.nH a2 t.nW a3 t.m t)(hn:t.nH<=2^30/\t.nW<=2^30/\t.m<=2^30)(b:Bool):Dc prog md p 202 #[.agg #[.slice a1 t.nH c1,.slice a2 t.nW c2,.slice a3 t.m c3],.bool b] (.J (Ht t b)):=by
 refine xkq func202 fun K b1=>?_;refine cdq (cf50 t T hn) ?_;refine cq (fun H=>?_) (fun H=>?_)
 ·refine ax ?_;have e:C6 t=30:=by rcases xog t with z|z;exact absurd z.1 H;exact z.1
  refine K.q ?_;rw[Ht,if_neg H,e];rfl
 have H:=Classical.not_not.1 H;refine cq (fun M=>?_) (fun M=>?_)
 ·refine K.q ?_;rw[Ht,if_pos H,if_neg M];rfl
 refine K.q ?_;rw[Ht,if_pos H,if_pos (Classical.not_not.1 M)];rfl
theorem xcv(xs:List Int):∀u∈(ics xs).flatten,Be u=true:=xtv xs
theorem cf62{a:Option Addr}{n c:Nat}(S:Ar p a n xs)(hn:n<=2^20):Nc prog md p 62 #[.slice a n c] (fun v Y=>Ab 3 1 v (ics xs) Y):=by
 have hl:=S.len;refine xlq func62 fun K=>?_;refine ro_y rfl (xx9 rfl) ?_;refine cq (fun H=>?_) (fun H=>?_)
 ·refine ax ?_;have e:xs=[]:=by
   by_cases O:0<n
   ·rw[S.ne O]at H;cases H
   ·exact List.eq_nil_of_length_eq_zero om
  subst e;refine xyj 3 1 fun o=>?_;exact K.r rfl rfl fun _ M=>⟨_,o,El M⟩
 refine ax ?_;refine xtx rfl fun v Y o=>?_;refine ax ?_;refine xmw rfl rfl o S (xcv xs) (by simp[chs];omega) (fun v' Y' V=>?_);refine ax ?_;exact K.r rfl rfl fun _ M=>⟨_,V,El M⟩
theorem yw5{a:Option Addr}{n c:Nat}(xs:List Int)(S:Ar p a n xs)(hn:n<=100)(M:∀i,i<n->0<=xs.getD i 0/\xs.getD i 0<=1000):Dc prog md p 197 #[.slice a n c] (.J (sm n (dv xs))):=by
 refine xlq func197 fun K=>?_;refine xnq (fun m l=>∃j:Nat,m=n-j/\l=[(3,none,.J (sm j (dv xs))),(6,none,.slice a n c),(7,none,.J n),(8,none,.J j)]/\j<=n/\0<=sm j (dv xs)/\sm j (dv xs)<=1000*j) ⟨0,rfl,rfl,Nat.zero_le _,by simp[sm],by simp[sm]⟩ sb ?_;rintro _ _ IH ⟨j,rfl,rfl,hj,H,h1⟩;refine cq (fun V=>?_) (fun V=>?_)
 ·have O:=M j om;exact bkq (IH _ om ⟨j+1,rfl,rfl,om,by rw[sm];unfold dv;unfold dv at H;omega,by rw[sm];unfold dv;unfold dv at h1;omega⟩)
 obtain rfl:j=n:=om;exact K.q rfl
theorem yej{z:Int}(M:z.toNat=g j)(H:g j<vs.length){x:Int}(O:x=(Dw vs g d j).getD (g j) 0-dv d j):(ics (Dw vs g d j)).set z.toNat (Ce [.J ((Dw vs g d j).getD (g j) 0)] 0 [.J x])=ics (Dw vs g d (j+1)):=by
 subst O;rw[M,<- xm8 H];exact Ck
theorem yu5(c1 c2 c3:Nat)(t:Tn)(T:Am p a1 t.nH a2 t.nW a3 t.m t)(m cb:Nat)(d:List Int)(D:Ar p b m d)(hn:t.nH<=40/\t.nW<=40)(hm:m<=t.m/\t.m<=13)(hd:∀i,i<m->0<=dv d i/\dv d i<=20)(hh:∀i,i<t.nH-> -100<=t.hs.getD i 0/\t.hs.getD i 0<=100)(hw:∀i,i<t.nW-> -100<=t.ws.getD i 0/\t.ws.getD i 0<=100)(hy:∀i,i<t.m->(0<=(t.wy.getD i wz).1/\(t.wy.getD i wz).1.toNat<t.nH)/\0<=(t.wy.getD i wz).2/\(t.wy.getD i wz).2.toNat<t.nW):Nc prog md p 204 #[.agg #[.slice a1 t.nH c1,.slice a2 t.nW c2,.slice a3 t.m c3],.slice b m cb] (fun v Y=>(∃w1 w2 V O,v=.tuple #[w1,w2]/\Ab 3 1 w1 (ics (Dw t.hs t.wh d m)) V/\Ab 3 1 w2 (ics (Dw t.ws t.ww d m)) O/\Y=V++O)):=by
 intro h hp;have b4:t.hs.length=t.nH:=rfl;have b3:t.ws.length=t.nW:=rfl;refine xsq hp func204 fun K b1=>?_;refine drq [2] [0,1,3,4,2] ?_;refine xsk rfl rfl rfl (cf62 T.h om) fun v1 V H=>?_;refine ex ?_;refine xeb rfl rfl (cf62 T.w om) fun v2 O M=>?_;refine ax ?_
 refine xjq (fun m_ l p_ L_=>∃(j:Nat)(Z1 Z2:Pcs),m_=m-j/\l=[(2,none,w_ b1 0),(4,none,v1),(5,none,v2),(14,none,.slice b m cb),(15,none,.J m),(16,none,.J j)]/\p_=p/\L_=[Z2,[(b1,.cells #[.slice a1 t.nH c1,.slice a2 t.nW c2,.slice a3 t.m c3] 28 (0,0))],Z1]/\j<=m/\
  Ab 3 1 v1 (ics (Dw t.hs t.wh d j)) Z1/\Ab 3 1 v2 (ics (Dw t.ws t.ww d j)) Z2) ⟨0,V,O,rfl,rfl,rfl,rfl,Nat.zero_le _,by rw[xup];exact H,by rw[xup];exact M⟩ sb ?_
 rintro _ _ _ _ IH ⟨j,Z1,Z2,rfl,rfl,rfl,rfl,hj,H,M⟩;refine cq (fun cc=>?_) (fun cc=>?_)
 ·have b5:=hy j om;have b6:=hd j om;have e1:(t.wy.getD j wz).1.toNat=t.wh j:=rfl;have e2:(t.wy.getD j wz).2.toNat=t.ww j:=rfl;have b0:=xlm (g:=t.wh) (d:=d) (k:=j) (h:=t.wh j) (fun i hi=>hd i om);have b7:=xlm (g:=t.ww) (d:=d) (k:=j) (h:=t.ww j) (fun i hi=>hd i om);have g1:=xfv (vs:=t.hs) (g:=t.wh) (d:=d) (k:=j) (h:=t.wh j) om;have g2:=xfv (vs:=t.ws) (g:=t.ww) (d:=d) (k:=j) (h:=t.ww j) om;have a9:=hh (t.wh j) om;have b8:=hw (t.ww j) om;have i1:(ics (Dw t.hs t.wh d j))[(t.wy.getD j wz).1.toNat]?=some [.J ((Dw t.hs t.wh d j).getD (t.wh j) 0)]:=Co (by rw[xux];omega);have i2:(ics (Dw t.ws t.ww d j))[(t.wy.getD j wz).2.toNat]?=some [.J ((Dw t.ws t.ww d j).getD (t.ww j) 0)]:=Co (by rw[xux];omega);have a8:dv d j=d.getD j 0:=rfl;refine ax ?_;refine ro_y rfl (y_ia rfl rfl om (T.y.ne om)) ?_;refine ax ?_;refine ro_y rfl (y_lp rfl (T.y.at om (j:=0) rfl)) ?_;refine xav rfl rfl H om (by rw[Ae,xux];omega) ?_;refine xbh rfl H xmx i1 rfl ?_;refine ax ?_;refine xav rfl rfl H om (by rw[Ae,xux];omega) ?_;refine xck (j:=0) rfl rfl H xmx rfl rfl rfl i1 (Nat.le_refl _) fun a7 a4=>?_;refine ax ?_;refine ro_y rfl (y_ia rfl rfl om (T.y.ne om)) ?_;refine ax ?_;refine ro_y rfl (y_lp rfl (T.y.at om (j:=1) rfl)) ?_;refine xav rfl rfl M om (by rw[Ae,xux];omega) ?_;refine xbh rfl M xmx i2 rfl ?_;refine ax ?_;refine xav rfl rfl M om (by rw[Ae,xux];omega) ?_;refine xck (j:=0) rfl rfl M xmx rfl rfl rfl i2 (Nat.le_refl _) fun a5 a6=>?_;exact bkq (IH _ _ _ om ⟨j+1,a7,a5,rfl,rfl,rfl,rfl,om,a4.as (yej e1 om rfl),a6.as (yej e2 om rfl)⟩)
 obtain rfl:j=m:=om;refine ax ?_;exact K.r rfl rfl fun _ H_=>⟨_,⟨_,_,_,_,rfl,H,M,rfl⟩,yqs H_⟩
theorem yd4(x y:Int):Dc prog md p 279 #[.J x,.J y] (.J (Gt y x)):=by
 refine xlq func279 fun K=>?_;refine cdq (yff _ _) ?_;exact K.q rfl
theorem yh3(w:Value)(xs:List Int)(V:Ab 3 1 w (ics xs) q7)(n:Nat)(hn:n=xs.length/\n<=12)(fv:Value)(hf:∀h,Per p h-> ∀x y,Ay prog md fv [.J x,.J y] h fun v h'=>v=.J (Gt y x)/\As h h')
 (a2:St z9 zz p h (q7++zx)):Ac prog md 335 #[w,.J 0,.J (n:Nat),fv] h fun _ h'=>∃X',Ab 3 1 w (ics (srt xs)) X'/\St z9 zz p h' (X'++zx):=by
 refine xjj a2 func335 fun _ _ _ K=>?_;refine ax ?_;refine xjq (fun m_ l p_ L_=>∃(i:Nat)(O:List Int)(Z:Pcs),m_=n-i/\l=[(0,none,w),(1,none,.J 0),(2,none,.J n),(3,none,fv),(8,none,.J (i:Nat))]/\p_=p/\L_=[Z,zx]/\1<=i/\Ab 3 1 w (ics O) Z/\O.Perm xs/\Kw O i) ⟨1,xs,q7,rfl,rfl,rfl,rfl,Nat.le_refl _,V,.refl _,fun p q a b=>absurd a om⟩ sb ?_;rintro _ _ p _ IH ⟨i,O,Z,rfl,rfl,rfl,rfl,hi,o,hp,hs⟩;have a5:O.length=n:=hp.length_eq.trans hn.1.symm;refine cq (fun cc=>?_) (fun cc=>?_)
 ·refine ax ?_;refine xjq (fun m_ l p_ L_=>∃(j:Nat)(zs:List Int)(Z:Pcs),m_=j+1/\l=[(0,none,w),(1,none,.J 0),(2,none,.J n),(3,none,fv),(8,none,.J (i:Nat)),(9,none,.J (j:Nat))]/\p_=p/\L_=[Z,zx]/\j<=i/\Ab 3 1 w (ics zs) Z/\zs.Perm xs/\Float zs i j) ⟨i,O,Z,rfl,rfl,rfl,rfl,Nat.le_refl _,o,hp,xz2 hs⟩ sb ?_;rintro _ _ p _ a4 ⟨j,zs,Z2,rfl,rfl,rfl,rfl,hj,M,hq,a3⟩;have a6:zs.length=n:=hq.length_eq.trans hn.1.symm;have e1:(ics zs)[((j:Int)-1).toNat]?=some [.J (zs.getD ((j:Int)-1).toNat 0)]:=Co om;have e0:(ics zs)[j]?=some [.J (zs.getD j 0)]:=Co om;refine drq [] R14 ?_;refine de_y rfl rfl (xxv rfl rfl sdt sdt M (by rw[Ae];omega)) ?_;refine de_y rfl rfl (xcb rfl sdt M xmx (Co om) rfl) ?_;refine ex ?_;refine de_y rfl rfl (xhl rfl rfl sdt sdt M (gd2 fun _ hq=>by rw[Ae];omega)) ?_;refine de_y rfl rfl (xcb rfl sdt M xmx e1 rfl) ?_;refine ex ?_;refine yix rfl rfl sdt rfl sdt (xdz fun _ pe=>hf _ pe _ _) ?_;refine cq (fun cd=>?_) (fun cd=>?_)
  ·obtain⟨H,rfl⟩:∃H,j=H+1:=⟨j-1,om⟩
   rw[show(((H+1:Nat):Int)-1).toNat=H by omega]at*;refine ax ?_;refine xb5 [15] R16 Z2 ?_;refine ex ?_;refine de_y rfl rfl (xhl rfl rfl sdt sdt M (xdz (by rw[Ae];omega))) ?_;rw[show(((H+1:Nat):Int)-1).toNat=H by omega];refine xi3 rfl rfl rfl sdt M xmx e1 rfl ?_;refine ex ?_;refine de_y rfl rfl (xxv rfl rfl sdt sdt M (by rw[Ae];omega)) ?_;refine xi3 rfl rfl rfl sdt M xmx e0 rfl ?_;refine de_y rfl rfl (xxv rfl rfl sdt sdt M (by rw[Ae];omega)) ?_;refine ytg (j:=0) rfl rfl rfl M xmx rfl rfl rfl e0 (Nat.le_refl _) fun Z3 o3=>?_;refine ex ?_;refine xav rfl rfl o3 om (by rw[List.length_set,Ae];omega) ?_;rw[show(((H+1:Nat):Int)-1).toNat=H by omega];refine xck (j:=0) (e:=[.J (zs.getD H 0)]) rfl rfl o3 xmx rfl rfl rfl (by rw[List.getElem?_set_ne om];exact e1) (Nat.le_refl _) fun Z4 o4=>?_;refine ax ?_;rw[show((H+1:Nat):Int)-1=(H:Nat) by omega];exact bkq (a4 _ _ _ om ⟨H,swp zs (H+1),Z4,rfl,rfl,rfl,rfl,om,o4.as (yoh rfl),(xd4 om om).trans hq,xr8 a3 om om om (ycv.1 cd.2)⟩)
  ·exact bkq (IH _ _ _ om ⟨i+1,zs,Z2,rfl,rfl,rfl,rfl,om,M,hq,yrj a3 om (by
    by_cases h0:j=0
    ·exact .inl h0
    ·right;have:=fun z=>cd ⟨om,z⟩;rw[show((j:Int)-1).toNat=j-1 by omega]at this;have:=mt ycv.2 this;omega)⟩)
 have e:O=srt xs:=ykw hs om hp;subst e;refine ax ?_;exact xob func335 rfl fun _ H_=>K _ _ ⟨_,o,xrg H_⟩
theorem yl3(w:Value)(xs:List Int)(H:Ab 3 1 w (ics xs) q7)(n:Nat)(hn:n=xs.length/\n<=12)(k:Int)(fv:Value)(hf:∀h,Per p h-> ∀x y,Ay prog md fv [.J x,.J y] h fun v O=>v=.J (Gt y x)/\As h O)
 (M:St z9 zz p h (q7++zx)):Ac prog md 324 #[w,.J 0,.J (n:Nat),.J k,fv] h fun _ O=>∃V,Ab 3 1 w (ics (srt xs)) V/\St z9 zz p O (V++zx):=by
 refine xjj M func324 fun _ _ _ K=>?_;refine ax ?_;refine xnq (fun m l=>m=0/\l=[(0,none,w),(1,none,.J 0),(2,none,.J n),(3,none,.J k),(4,none,fv),(10,none,.bool true),(11,none,.bool true)]) ⟨rfl,rfl⟩ sb ?_;rintro _ _ IH ⟨rfl,rfl⟩;refine ax ?_;refine xjx rfl (fun cc=>?_) (fun cc=>absurd om cc);refine ax ?_;refine xwl q7 rfl rfl (fun h C s=>yh3 w xs H n hn fv hf s) fun v Y' o'=>?_;refine ax ?_;refine xrq func324 rfl rfl fun _ H_=>K _ _ ⟨_,o',xrg H_⟩
theorem ys3(n:Nat)(hn:n<=12):Nc prog md p 314 #[.int .u64 (n:Nat)] (fun v Y=>((∃k:Int,v=.J k)/\Y=[])):=by
 refine xlq func314 fun K=>?_;refine xjx rfl (fun H=>absurd H om) (fun H=>?_);refine ax ?_;refine xjx rfl (fun H=>absurd H om) (fun H=>?_);refine ax ?_;refine xjx rfl (fun H=>absurd H om) (fun H=>?_);refine ax ?_;refine ro_y rfl (xdb ⟨_,underlying279⟩ k_ rfl (wr8 om) (k':=.u8)) ?_;refine ro_y rfl (xzz rfl rfl sdt sdt (xdz ⟨om,by simp;omega⟩)) ?_;refine ro_y rfl (xdb ⟨_,underlying5⟩ underlying3 rfl wrB (k':=.i64)) ?_;refine ro_y rfl (y_pv rfl ⟨by rw[Int.zero_add];exact wrB,trivial⟩) ?_;refine ax ?_;exact K.r rfl rfl fun _ M=>⟨[],⟨⟨_,rfl⟩,rfl⟩,(M.sub (List.nil_sublist _)).new⟩
theorem yk3(n:Nat)(hn:n<=12):Nc prog md p 325 #[.int .u64 (n:Nat)] (fun v Y=>((∃k:Int,v=.J k)/\Y=[])):=by
 refine xlq func325 fun K=>?_;refine xjx rfl (fun H=>absurd H (fun z=>z)) (fun H=>?_);refine coq (ys3 n hn) ?_;rintro _ _ ⟨⟨k,rfl⟩,rfl⟩;refine ax ?_;exact K.r rfl rfl fun _ M=>⟨[],⟨⟨_,rfl⟩,rfl⟩,(M.sub (List.nil_sublist _)).new⟩
theorem ye4(w:Value)(xs:List Int)(H:Ab 3 1 w (ics xs) q7)(hn:xs.length<=12)(hf:∀h,Per p h-> ∀x y,Ay prog md fv [.J x,.J y] h fun v O=>v=.J (Gt y x)/\As h O)
 (M:St z9 zz p h (q7++zx)):Ac prog md 278 #[w,fv] h fun _ O=>∃V,Ab 3 1 w (ics (srt xs)) V/\St z9 zz p O (V++zx):=by
 refine xjj M func278 fun _ _ _ K=>?_;refine ax ?_;refine ro_y rfl (xzs rfl sdt H (Ae xs)) ?_;refine ax ?_;refine ro_y rfl (xdb ⟨_,underlying3⟩ k_ rfl (Nz om) (k':=.u64)) ?_;refine coq (yk3 xs.length hn) ?_;rintro _ _ ⟨⟨k,rfl⟩,rfl⟩;refine ax ?_;refine xwl q7 rfl rfl (fun h C s=>yl3 w xs H xs.length ⟨rfl,hn⟩ k fv hf s) fun v Y' o'=>?_;refine ax ?_;exact xob func278 rfl fun _ H_=>K _ _ ⟨_,o',xrg H_⟩
theorem yx4(w:Value)(H:Ab 3 1 w (ics xs) q7)(hn:xs.length<=12)
 (M:St z9 zz p h (q7++zx)):Ac prog md 244 #[w] h fun v h'=>∃O,(v=w/\Ab 3 1 w (ics (srt xs)) O)/\St z9 zz p h' (O++zx):=by
 refine xjj M func244 fun _ _ _ K=>?_;refine ax ?_;refine xwl q7 rfl rfl (fun h C s=>ye4 w xs H hn (fun _ V x y=>xgq k_ (yd4 x y _ V)) s) fun v Y' o'=>?_;refine ax ?_;exact xrq func244 rfl rfl fun _ H_=>K _ _ ⟨_,⟨rfl,o'⟩,xrg H_⟩
abbrev R62:List Nat:=[0,1,2,3,4,5,6,7,8,9,10,11,12,13,14,15,16,17,18,19,20,21,22,23,24,25,26,27,28,29,30,31,32,33,34,35,36,37,38,39,40,41,42,43,44,45,46,47,48,49,50,51,52,53,54,55,56,57,58,59,60,61]
theorem wrN(h: -1000000<=n/\n<=1000000):IntKind.i64.wrap (0-n)= -n:=by rw[Int.zero_sub];exact wrZ om
theorem yfj(c1 c2 c3:Nat)(t:Tn)(T:Am p a1 t.nH a2 t.nW a3 t.m t)(O:OkT t)(cb:Nat)(d:List Int)(D:Ar p b t.m d)(Dv:Div t d):Nc prog md p 204 #[.agg #[.slice a1 t.nH c1,.slice a2 t.nW c2,.slice a3 t.m c3],.slice b t.m cb] (fun v Y=>(∃w1 w2 Y1 M,v=.tuple #[w1,w2]/\Ab 3 1 w1 (ics (Gd t d)) Y1/\Ab 3 1 w2 (ics (Nq t d)) M/\Y=Y1++M)):=by
 intro h hp;have o1:=O.nh;have o2:=O.nw;have o3:=O.nm
 refine yu5 c1 c2 c3 t T t.m cb d D ⟨om,om⟩ ⟨Nat.le_refl _,o3⟩ (fun i hi=>by have:=yjt O Dv hi;omega) (fun i hi=>?_) (fun i hi=>?_) (fun i hi=>?_) h hp
 ·have:=O.h i hi;unfold Tn.hv at this;omega
 ·have:=O.w i hi;unfold Tn.wv at this;omega
 ·have H:=O.y i hi;have V:=O.yp i hi;unfold Tn.wh Tn.ww at H;exact⟨⟨V.1,H.1⟩,V.2,H.2⟩
theorem yaf(q:Prop)[Decidable q]{V v2 v3 v4 O v7:Value}(s:Int)(M bt:Nat){z1:Nat×Nat}(hB:p M=some (.cells #[w_ bt 0] T1 z1))(hb:p bt=some (.cells #[V,v2,v3,v4,O,.J s,v7] T2 z2)):Dc prog md p 322 #[.bool (decide q),w_ M 0] (.J (if q then s else 0)):=by
 refine xlq func322 fun K=>?_;refine cq (fun H=>?_) (fun H=>?_)
 ·refine K.q ?_;rw[if_pos H];rfl
 refine K.q ?_;rw[if_neg H];rfl
theorem yzd{z:Int}(x:Nat)(e:z=x)(hx:x<=10):Dc prog md p 323 #[.J z] (.J (A0 x)):=by
 subst e;refine xlq func323 fun K=>?_;refine xnq (fun m l=>∃j:Nat,m=x-j/\l=[(3,none,.J (A0 j)),(4,none,.J (x:Nat)),(5,none,.J (j:Nat))]/\j<=x) ⟨0,rfl,rfl,Nat.zero_le _⟩ sb ?_;rintro _ _ M ⟨j,rfl,rfl,V⟩;have O:=xrs (x:=j) om;refine cq (fun H=>?_) (fun H=>?_)
 ·refine ax ?_;rw[show A0 j*7=A0 (j+1) by rw[xuz];omega];exact bkq (M _ om ⟨j+1,rfl,rfl,om⟩)
 obtain rfl:j=x:=om;exact K.q rfl
theorem yf4(c1 c2 c3:Nat)(t:Tn)(T:Am p a1 t.nH a2 t.nW a3 t.m t)(O:OkT t)(H:Wi)(cb:Nat)(d:List Int)(D:Ar p b t.m d)(Dv:Div t d)(S:Sg H)(bt:Nat)(T2:TypeId)(z2:Nat×Nat)
 (hb:p bt=some (.cells #[.slice a1 t.nH c1,.slice a2 t.nW c2,.slice a3 t.m c3,.J H.Er,.J H.Kf,.J H.sign,.slice b t.m cb] T2 z2))(yv:Value)(I:List Bf.Arc->Pcs->Prop)(b5:I [] q7)
 (hy:∀a8 x,a8++[x] <+: Az t H d-> ∀p' h X C,PLe p p'->I a8 X->St z9 zz p' h (X++C)->Ay prog md yv [Nm x] h fun v h'=>∃X',(v=.bool true/\I (a8++[x]) X')/\St z9 zz p' h' (X'++C))(b3:St z9 zz p h (q7++zx)):
 Ac prog md 277 #[w_ bt 0,yv] h fun _ h'=>∃X',I (Az t H d) X'/\St z9 zz p h' (X'++zx):=by
 have oH:=O.nh;have oW:=O.nw;have oM:=O.nm;have sg:=S;refine xjj b3 func277 fun _ _ _ K=>?_;refine bq fun b1=>?_;refine xlw (b:=b1) fun p1 le hB=>?_;have T:=Am.mono T le;have D:=D.mono le;have hb:=le _ _ hb;have a7:p1 b1=some (.cells #[w_ bt 0] _ (0,0)):=hB;refine drq [8] R13 ?_;refine xsk rfl rfl rfl (yfj _ _ _ t T O _ d D Dv) ?_;rintro _ _ ⟨w1,w2,Y1,Y2,rfl,o1,o2,rfl⟩;refine ex ?_;refine xbc Y1 Y2 ?_;refine ax ?_;refine ro_y rfl (xzs rfl sdt o2 (by rw[Ae,xdl])) ?_;refine ax ?_;refine xjq (fun m_ l p_ L_=>∃(k:Nat)(Z:Pcs),m_=t.nW-k/\l=[(1,none,yv),(2,none,w_ b1 0),(4,none,w1),(5,none,w2),(6,none,.J (t.nW:Nat)),(7,none,.J (t.nW+t.nH)),(8,none,.J (t.nW+t.nH+1)),(9,none,.func (.func 322) #[] #[w_ b1 0]),(45,none,w2),(46,none,.J (t.nW:Nat)),(47,none,.J (k:Nat))]/\p_=p1/\L_=[Y1,Y2,Z,zx]/\k<=t.nW/\I (Fv t H d k) Z) ⟨0,q7,rfl,rfl,rfl,rfl,Nat.zero_le _,b5⟩ sb ?_;rintro _ _ p1 _ IH ⟨k,Z,rfl,rfl,rfl,rfl,hk,hI⟩;refine cq (fun cc=>?_) (fun cc=>?_)
 ·have b7:=yat O Dv (x:=k) om;have b4:=S.bw k;have Tw:=T.w;refine ax ?_;refine ro_y rfl (xfb rfl rfl o2 (by rw[Ae,xdl];omega)) ?_;refine xbh rfl o2 xmx (ymj om) rfl ?_;refine ax ?_;refine yix rfl rfl sdu rfl sdu (xdz fun _ pe=>(xgq k_ (yaf ((k:Int)=H.Kf) H.sign b1 bt a7 hb _ pe)).mono fun v h' e=>⟨e.1.trans (show _=Value.J (bw H k) from rfl),e.2⟩) ?_;refine ro_y rfl (y_pv rfl (gd2 fun h _=>⟨h,wrN om,trivial⟩)) ?_;refine ax ?_;refine xmr Z rfl rfl sdu rfl sdu (v:=.bool true) (Q:=fun Z'=>I (Fv t H d k++[⟨t.sp,k,-bw H k,-1,0⟩]) Z') (fun c1 h C s=>?_) (fun Z1 a9 b0=>?_)
  ·have e:=xsg (a:=(t.nW:Int)+t.nH) (b:=k) (c:=-bw H k) (w:=-1) (m:=0) (x:=⟨t.sp,k,-bw H k,-1,0⟩) rfl rfl rfl rfl rfl;have y:=hy _ _ (yhs om (of_decide_eq_true c1)) _ _ _ _ le hI s;rw[<- e]at y;exact y
  obtain⟨u1,V,M⟩:∃u1,(u1=if 0<has t d k then Fv t H d k++[⟨t.sp,k,-bw H k,-1,0⟩]else Fv t H d k)/\I u1 Z1:=by
   by_cases c1:0<has t d k
   ·exact⟨_,rfl,by rw[if_pos c1];exact a9 (decide_eq_true c1)⟩
   ·exact⟨_,rfl,by rw[if_neg c1,b0 (decide_eq_false c1)];exact hI⟩
  refine ax ?_;refine yix rfl rfl sdu rfl sdu (xdz fun _ pe=>(xgq k_ (yaf ((k:Int)=H.Kf) H.sign b1 bt a7 hb _ pe)).mono fun v h' e=>⟨e.1.trans (show _=Value.J (bw H k) from rfl),e.2⟩) ?_;refine ax ?_;refine xmr Z1 rfl rfl sdu rfl sdu (v:=.bool true) (Q:=fun Z'=>I (u1++[⟨k,t.sp,bw H k,-1,0⟩]) Z') (fun c2 h C s=>?_) (fun Z2 a6 a4=>?_)
  ·have e:=xsg (a:=k) (b:=(t.nW:Int)+t.nH) (c:=bw H k) (w:=-1) (m:=0) (x:=⟨k,t.sp,bw H k,-1,0⟩) rfl rfl rfl rfl rfl;have c2:has t d k<t.wv k:=of_decide_eq_true (Pg c2);have y:=hy u1 ⟨k,t.sp,bw H k,-1,0⟩ (by
    subst V;split
    ·rename_i c1;exact ygs om c1 c2
    ·rename_i c1;exact yfs om c1 c2) _ _ _ _ le M s
   rw[<- e]at y;exact y
  have a5:I (Fv t H d (k+1)) Z2:=by
   by_cases c2:has t d k<t.wv k
   ·have y:=a6 (by show(!(decide (0<has t d k)&&!true)&&decide (has t d k<t.wv k))=true;rw[decide_eq_true c2];simp);subst V;by_cases c1:0<has t d k
    ·rw[if_pos c1,P0 c1 c2]at y;exact y
    ·rw[if_neg c1,Qb c1 c2]at y;exact y
   ·rw[a4 (by show(!(decide (0<has t d k)&&!true)&&decide (has t d k<t.wv k))=false;rw[decide_eq_false c2];simp)];subst V;by_cases c1:0<has t d k
    ·rw[if_pos c1,Pv c1 c2]at M;exact M
    ·rw[if_neg c1,Pz c1 c2]at M;exact M
  refine ax ?_;refine xjx rfl (fun cd=>absurd cd s_) (fun cd=>?_);exact bkq (IH _ _ _ om ⟨k+1,Z2,rfl,rfl,rfl,rfl,om,a5⟩)
 obtain rfl:k=t.nW:=om;refine ax ?_;refine ro_y rfl (xzs rfl sdt o1 (by rw[Ae,xqb])) ?_;refine ax ?_;refine xjq (fun m_ l p_ L_=>∃(k:Nat)(Z:Pcs),m_=t.nH-k/\l=[(1,none,yv),(2,none,w_ b1 0),(6,none,.J (t.nW:Nat)),(8,none,.J (t.nW+t.nH+1)),(9,none,.func (.func 322) #[] #[w_ b1 0]),(102,none,w1),(103,none,.J (t.nH:Nat)),(104,none,.J (k:Nat))]/\p_=p1/\L_=[Y1,Y2,Z,zx]/\k<=t.nH/\I (E9 t H d k) Z) ⟨0,Z,rfl,rfl,rfl,rfl,Nat.zero_le _,by rw[ymz];exact hI⟩ sb ?_;clear IH;rintro _ _ p1 _ IH ⟨k,Z,rfl,rfl,rfl,rfl,hk,hI⟩;refine cq (fun cc=>?_) (fun cc=>?_)
 ·have b7:=yhj O Dv (h:=k) om;have b4:=S.bh k;have Th:=T.h;have d0:=xrs (x:=(Al t d k).toNat) om;have d1:=xrs (x:=(Al t d k).toNat-1) om;have d2:=xrs (x:=(Al t d k).toNat+1) om;refine ax ?_;refine ro_y rfl (xfb rfl rfl o1 (by rw[Ae,xqb];omega)) ?_;refine xbh rfl o1 xmx (xb6 om) rfl ?_;refine ax ?_;refine xb5 [25] R62 Z ?_;refine ex ?_;refine xxk rfl rfl rfl rfl sdu (gd2 fun _ hq=>yzd ((Al t d k).toNat-1) om om) ?_;refine ex ?_;refine xxk rfl rfl rfl rfl sdu (gd2 fun _ hq=>yzd (Al t d k).toNat om om) ?_;refine ex ?_;refine xe7 rfl rfl rfl sdu rfl sdu (xdz fun _ pe=>(xgq k_ (yaf ((k:Int)=H.Er) H.sign b1 bt a7 hb _ pe)).mono fun v h' e=>⟨e.1.trans (show _=Value.J (bh H k) from rfl),e.2⟩) ?_;refine ex ?_;refine ymn Z rfl rfl rfl sdu rfl sdu (v:=.bool true) (Q:=fun Z'=>I (E9 t H d k++[⟨t.nW+k,t.si,A0 ((Al t d k).toNat-1)-A0 (Al t d k).toNat-bh H k,-1,0⟩]) Z') (fun c1 h C s=>?_) (fun Z1 a9 b0=>?_)
  ·have e:=xsg (a:=(t.nW:Int)+k) (b:=(t.nW:Int)+t.nH+1) (c:=A0 ((Al t d k).toNat-1)-A0 (Al t d k).toNat-bh H k) (w:=-1) (m:=0) (x:=⟨t.nW+k,t.si,A0 ((Al t d k).toNat-1)-A0 (Al t d k).toNat-bh H k,-1,0⟩) rfl rfl rfl rfl rfl;have y:=hy _ _ (yks om (of_decide_eq_true c1)) _ _ _ _ le hI s;rw[<- e]at y;exact y
  obtain⟨u1,V,M⟩:∃u1,(u1=if 0<Al t d k then E9 t H d k++[⟨t.nW+k,t.si,A0 ((Al t d k).toNat-1)-A0 (Al t d k).toNat-bh H k,-1,0⟩]else E9 t H d k)/\I u1 Z1:=by
   by_cases c1:0<Al t d k
   ·exact⟨_,rfl,by rw[if_pos c1];exact a9 (decide_eq_true c1)⟩
   ·exact⟨_,rfl,by rw[if_neg c1,b0 (decide_eq_false c1)];exact hI⟩
  refine ex ?_;refine xxk rfl rfl rfl rfl sdu (gd2 fun _ hq=>yzd ((Al t d k).toNat+1) om om) ?_;refine ex ?_;refine xxk rfl rfl rfl rfl sdu (gd2 fun _ hq=>yzd (Al t d k).toNat om om) ?_;refine ex ?_;refine xe7 rfl rfl rfl sdu rfl sdu (xdz fun _ pe=>(xgq k_ (yaf ((k:Int)=H.Er) H.sign b1 bt a7 hb _ pe)).mono fun v h' e=>⟨e.1.trans (show _=Value.J (bh H k) from rfl),e.2⟩) ?_;refine ex ?_;refine xmr Z1 rfl rfl sdu rfl sdu (v:=.bool true) (Q:=fun Z'=>I (u1++[⟨t.si,t.nW+k,A0 ((Al t d k).toNat+1)-A0 (Al t d k).toNat+bh H k,-1,0⟩]) Z') (fun c2 h C s=>?_) (fun Z2 a6 a4=>?_)
  ·have e:=xsg (a:=(t.nW:Int)+t.nH+1) (b:=(t.nW:Int)+k) (c:=A0 ((Al t d k).toNat+1)-A0 (Al t d k).toNat+bh H k) (w:=-1) (m:=0) (x:=⟨t.si,t.nW+k,A0 ((Al t d k).toNat+1)-A0 (Al t d k).toNat+bh H k,-1,0⟩) rfl rfl rfl rfl rfl;have c2:Al t d k<t.hv k:=of_decide_eq_true (Pg c2);have y:=hy u1 ⟨t.si,t.nW+k,A0 ((Al t d k).toNat+1)-A0 (Al t d k).toNat+bh H k,-1,0⟩ (by
    subst V;split
    ·rename_i c1;exact yjs om c1 c2
    ·rename_i c1;exact yis om c1 c2) _ _ _ _ le M s
   rw[<- e]at y;exact y
  have a5:I (E9 t H d (k+1)) Z2:=by
   by_cases c2:Al t d k<t.hv k
   ·have y:=a6 (by show(!(decide (0<Al t d k)&&!true)&&decide (Al t d k<t.hv k))=true;rw[decide_eq_true c2];simp);subst V;by_cases c1:0<Al t d k
    ·rw[if_pos c1,Qh c1 c2]at y;exact y
    ·rw[if_neg c1,P5 c1 c2]at y;exact y
   ·rw[a4 (by show(!(decide (0<Al t d k)&&!true)&&decide (Al t d k<t.hv k))=false;rw[decide_eq_false c2];simp)];subst V;by_cases c1:0<Al t d k
    ·rw[if_pos c1,Qa c1 c2]at M;exact M
    ·rw[if_neg c1,Px c1 c2]at M;exact M
  refine ax ?_;refine xjx rfl (fun cd=>absurd cd s_) (fun cd=>?_);exact bkq (IH _ _ _ om ⟨k+1,Z2,rfl,rfl,rfl,rfl,om,a5⟩)
 obtain rfl:k=t.nH:=om;refine ax ?_;refine xjq (fun m_ l p_ L_=>∃(k:Nat)(Z:Pcs),m_=t.m-k/\l=[(1,none,yv),(2,none,w_ b1 0),(6,none,.J (t.nW:Nat)),(180,none,.slice a3 t.m c3),(181,none,.J (t.m:Nat)),(182,none,.J (k:Nat))]/\p_=p1/\L_=[Y1,Y2,Z,zx]/\k<=t.m/\I (G3 t H d k) Z) ⟨0,Z,rfl,rfl,rfl,rfl,Nat.zero_le _,by rw[ylz];exact hI⟩ sb ?_;clear IH;rintro _ _ p1 _ IH ⟨k,Z,rfl,rfl,rfl,rfl,hk,hI⟩;refine cq (fun cc=>?_) (fun cc=>?_)
 ·have Ty:=T.y;have b6:=O.yp k om;have b8:=O.y k om;refine ax ?_;refine ro_y rfl (xlk rfl (Wys.Qe Ty om b6)) ?_;refine xbx fun b2=>?_;refine ax ?_;refine ycg Z rfl rfl (Q:=fun v Z'=>v=.bool true/\I (G3 t H d k++[⟨t.ww k,t.nW+t.wh k,0,k,1⟩]) Z') (fun h C s=>?_) (fun v1 Z1⟨e1,M⟩=>?_)
  ·have e:=xsg (a:=t.ww k) (b:=(t.nW:Int)+t.wh k) (c:=0) (w:=k) (m:=1) (x:=⟨t.ww k,t.nW+t.wh k,0,k,1⟩) rfl rfl rfl rfl rfl;have y:=hy _ _ (yes om) _ _ _ _ le hI s;rw[<- e]at y;exact y
  subst e1;refine ax ?_;refine xmr Z1 rfl rfl sdu rfl sdu (v:=.bool true) (Q:=fun Z'=>I (G3 t H d k++[⟨t.ww k,t.nW+t.wh k,0,k,1⟩]++[⟨t.nW+t.wh k,t.ww k,0,k,-1⟩]) Z') (fun c2 h C s=>?_) (fun Z2 a6 a4=>?_)
  ·have e:=xsg (a:=(t.nW:Int)+t.wh k) (b:=t.ww k) (c:=0) (w:=k) (m:=-1) (x:=⟨t.nW+t.wh k,t.ww k,0,k,-1⟩) rfl rfl rfl rfl rfl;have c2:0<dv d k:=of_decide_eq_true (Pg c2);have y:=hy _ _ (yds om c2) _ _ _ _ le M s;rw[<- e]at y;exact y
  have a5:I (G3 t H d (k+1)) Z2:=by
   by_cases c2:0<dv d k
   ·have y:=a6 (by show(!!true&&decide (0<dv d k))=true;rw[decide_eq_true c2];rfl);rw[Y_t c2]at y;exact y
   ·rw[a4 (by show(!!true&&decide (0<dv d k))=false;rw[decide_eq_false c2];rfl)];rw[Y_f c2]at M;exact M
  refine ax ?_;refine xjx rfl (fun cd=>absurd cd s_) (fun cd=>?_);exact bkq (IH _ _ _ om ⟨k+1,Z2,rfl,rfl,rfl,rfl,om,a5⟩)
 obtain rfl:k=t.m:=om;refine ax ?_;exact xob (f:=277) rfl rfl fun _ H_=>K _ _ ⟨Z,yul ▸ hI,(xrg H_).forget le⟩
open Go.X.Bf (Bo E8 rel a0 far En)
theorem ywn(T:Am p a1 t.nH a2 t.nW a3 t.m t)(O:OkT t)(M:Wi){cb:Nat}(D:Ar p b t.m d)(Dv:Div t d)(S:Sg M){bt:Nat}
 (hb:p bt=some (.cells #[.slice a1 t.nH c1,.slice a2 t.nW c2,.slice a3 t.m c3,.J M.Er,.J M.Kf,.J M.sign,.slice b t.m cb] T2 z2)):Nr prog md p (.func (.func 277) #[w_ bt 0] #[]) ((Az t M d).map fun x=>[Nm x]):=by
 intro h z9 zz p' q7 zx yv I le h0 hy s;refine xgq (first:=[w_ bt 0]) (cap:=[]) k_ ((yf4 c1 c2 c3 t (Am.mono T le) O M cb d (D.mono le) Dv S bt T2 z2 (le _ _ hb) yv (fun H X=>I H.length X) h0 (fun H x hp V h X C a4 hI s'=>?_) s).mono fun _ _⟨X',q,s'⟩=>⟨X',by rw[List.length_map];exact q,s'⟩);have hl:=hp.length_le;simp only[List.length_append,List.length_singleton]at hl;have e:((Az t M d).map fun x=>[Nm x]).getD H.length []=[Nm x]:=by
  obtain⟨r,hr⟩:=hp;rw[<- hr];simp[List.getD_eq_getElem?_getD]
 have z:=hy H.length (by rw[List.length_map];omega) V h X C a4 hI s';rw[e]at z;rw[List.length_append,List.length_singleton];exact z
theorem yy4(hp:Per p h)(c1 c2 c3:Nat)(t:Tn)(T:Am p a1 t.nH a2 t.nW a3 t.m t)(O:OkT t)(H:Wi)(cb:Nat)(d:List Int)(D:Ar p b t.m d)(Dv:Div t d)(S:Sg H)(bt:Nat)
 (hb:p bt=some (.cells #[.slice a1 t.nH c1,.slice a2 t.nW c2,.slice a3 t.m c3,.J H.Er,.J H.Kf,.J H.sign,.slice b t.m cb] T2 z2))(G:Flow.Good t H d):
 Ac prog md 243 #[w_ bt 0] h fun v h'=>∃w Y,(v=.tuple #[w,.J (Du t H d)]/\Ab 272 5 w (acs (Bh t H d)) Y)/\New h h' Y:=by
 have oH:=O.nh;have oW:=O.nw;have oM:=O.nm;refine xez hp func243 fun zq cs Stop K=>?_;refine drq [] R12 ?_;refine ax ?_;refine xgx (l':=[(0,none,w_ bt 0),(4,none,.J ((t.nW+t.nH+2:Nat):Int))]) ?_ ⟨rfl,rfl,trivial⟩
 refine xqd 7 [1,3,5,6] [0,2] [1,3,4,5,6] (fun i=>match i with|6=>[4]|_=>[]) (fun i=>match i with|1=>[0]|3=>[2]|6=>[0,1,4,5]|_=>[])
  (fun i val _ v x=>match i with
   |0=>v=.J ((t.nW+t.nH+2:Nat):Int)/\x=[]
   |1=>Ab 3 1 v (List.replicate (t.nW+t.nH+2) [.J 0]) x
   |2=>v=.J ((t.nW+t.nH+2:Nat):Int)/\x=[]
   |3=>Ab 272 5 v (List.replicate (t.nW+t.nH+2) [.J 0,.J 0,.J 0,.J 0,.J 0]) x
   |4=>∃b:Nat,v=w_ b 0/\x=[(b,.cells #[.slice none 0 0] 23 (0,0))]
   |5=>∃b:Nat,v=w_ b 0/\x=[(b,.cells #[.slice none 0 0] 268 (0,0))]
   |6=>∃b:Nat,val 4=w_ b 0/\x=[(b,.cells #[val 1] 23 (0,0))]
   |_=>True) (fun i hi val piece hq=>?_) (fun val piece j hj v x q=>?_) (fun val piece hq=>?_)
 ·match i,hi with
  |0,_=>
    exact det
  |1,_=>
    have e0:val 0=.J ((t.nW+t.nH+2:Nat):Int):=(hq 0 rfl).1;refine yln (n:=t.nW+t.nH+2) (zc:=[.J 0]) rfl (by show some ([],val 0)=_;rw[e0]) (by show some ([],val 0)=_;rw[e0]) om fun v Y o=>?_;exact xjz ⟨⟨_,rfl⟩,fun v' e=>by
     have e':=xqx e;subst e';show Ab _ _ _ _ ([Y]++[]).flatten;simpa using o⟩
  |2,_=>
    exact det
  |3,_=>
    have e0:val 2=.J ((t.nW+t.nH+2:Nat):Int):=(hq 2 rfl).1;refine yln (n:=t.nW+t.nH+2) (zc:=[.J 0,.J 0,.J 0,.J 0,.J 0]) rfl (by show some ([],val 2)=_;rw[e0]) (by show some ([],val 2)=_;rw[e0]) om fun v Y o=>?_;exact xjz ⟨⟨_,rfl⟩,fun v' e=>by
     have e':=xqx e;subst e';show Ab _ _ _ _ ([Y]++[]).flatten;simpa using o⟩
  |4,_=>
    refine xph rfl fun V=>?_;exact xjz ⟨⟨_,rfl⟩,fun v e=>⟨V,xqx e,rfl⟩⟩
  |5,_=>
    refine xph rfl fun V=>?_;exact xjz ⟨⟨_,rfl⟩,fun v e=>⟨V,xqx e,rfl⟩⟩
  |6,_=>
    obtain⟨V,e4,x4⟩:=hq 4 rfl;have M:Ab 3 1 (val 1) (List.replicate (t.nW+t.nH+2) [.J 0]) (piece 1):=hq 1 rfl;obtain⟨a,cap,e1,_⟩:=M.val;show DE _ _ _ _ _ _ _ _ _ [piece 4];rw[x4];refine xfn (cs:=[.slice none 0 0]) (v:=.slice a _ cap) rfl (by show some ([],val 4)=_;rw[e4]) (by show some ([],val 1)=_;rw[e1]) ?_;exact xjz ⟨⟨undef,rfl⟩,fun v' e=>⟨V,e4,by
     show [(V,Obj.cells _ _ _)]=[(V,Obj.cells #[val 1] _ _)]
     rw[e1];rfl⟩⟩
 ·simp only[List.mem_cons,List.not_mem_nil,or_false]at hj;rcases hj with rfl|rfl
  ·exact q.2
  ·exact q.2
 have e0:val 0=.J ((t.nW+t.nH+2:Nat):Int):=(hq 0 d_).1;have M:Ab 3 1 (val 1) (List.replicate (t.nW+t.nH+2) [.J 0]) (piece 1):=hq 1 d_;have o2:Ab 272 5 (val 3) (List.replicate (t.nW+t.nH+2) [.J 0,.J 0,.J 0,.J 0,.J 0]) (piece 3):=hq 3 d_;obtain⟨V,e4,x4⟩:=hq 4 d_;obtain⟨b5,e5,x5⟩:=hq 5 d_;obtain⟨b6,f6,z6⟩:=hq 6 d_;have e6:val 4=w_ b6 0:=f6;rw[e4]at e6;cases e6;have x6:piece 6=[(V,.cells #[val 1] 23 (0,0))]:=z6;refine xkw (l':=[(0,none,w_ bt 0),(4,none,.J ((t.nW+t.nH+2:Nat):Int)),(5,none,w_ V 0),(6,none,w_ b5 0),(28,none,val 3)]) ?_ ⟨rfl,rfl,by show some (none,val 4)=_;rw[e4],by show some (none,val 5)=_;rw[e5],rfl,trivial⟩;show RO _ _ _ _ _ _ [piece 1,piece 3,piece 5,piece 6];rw[x5,x6];clear hq e0 x4 x5 x6 e4 e5 f6 z6;generalize val 1=v1 at*;generalize val 3=v2 at*;generalize piece 1=Y1 at*;generalize piece 3=Y2 at*;clear val piece;obtain⟨s1,m1,rfl,-⟩:=M.val;obtain⟨s2,m2,rfl,-⟩:=o2.val;rw[List.length_replicate]at M o2⊢;rw[List.length_replicate];obtain⟨N,hN⟩:∃N,N=t.nW+t.nH+2:=⟨_,rfl⟩
 rw[<- hN]at M o2⊢;have M:=M.as ((ytx N).trans (show _=ics (Fz 0 N) by simp[Fz]));have o2:=o2.as (yjl N);refine ax ?_;refine xjq (fun m_ l p_ L_=>∃(k:Nat)(Y:Pcs),m_=N-k/\l=[(0,none,w_ bt 0),(4,none,.J (N:Nat)),(5,none,w_ V 0),(6,none,w_ b5 0),(30,none,.J (N:Nat)),(31,none,.J (k:Nat))]/\p_=p/\L_=[[(b5,.cells #[.slice s2 N m2] 268 (0,0))],Y,Y2,[(V,.cells #[.slice s1 N m1] 23 (0,0))]]/\k<=N/\Ab 3 1 (.slice s1 N m1) (ics (Fz k N)) Y) ⟨0,Y1,rfl,rfl,rfl,rfl,Nat.zero_le _,M⟩ sb ?_;clear M;rintro _ _ p _ IH ⟨k,Y,rfl,rfl,rfl,rfl,hk,M⟩;refine cq (fun cc=>?_) (fun cc=>?_)
 ·refine ax ?_;refine ro_y rfl (xfb rfl rfl M (by rw[Ae,xgf om];omega)) ?_;refine xck rfl rfl M xmx rfl rfl rfl (Co (by rw[xgf om];omega)) (Nat.le_refl _) fun Y' o'=>?_;have o':=o'.as (Eq.trans (b:=ics ((Fz k N).set k 1152921504606846976)) Ck (by rw[xv8 om]));exact bkq (IH _ _ _ om ⟨k+1,Y',rfl,rfl,rfl,rfl,om,o'⟩)
 obtain rfl:N=k:=om;refine ax ?_;refine ro_y rfl (xfb rfl (by show some ([],Value.J _)=_;rw[show(N:Int)-2=((N-2:Nat):Int) by omega]) M (by rw[Ae,xgf om];omega) (i:=N-2)) ?_;refine xck rfl rfl M xmx rfl rfl rfl (Co (by rw[xgf om];omega)) (Nat.le_refl _) fun Y' o'=>?_;have a7:t.sp=N-2:=by unfold Tn.sp;omega
 have o':=o'.as (Eq.trans (b:=ics ((Fz N N).set (N-2) 0)) Ck (show _=ics (Bo (Az t H d) 0 (E8 N t.sp)).c by rw[ytj,<- a7];rfl));have o2:=o2.as (show _=acs (Bo (Az t H d) 0 (E8 N t.sp)).b from rfl);refine ax ?_;refine xfk (LL':=[C8 [],Y',[(b5,.cells #[.slice s2 N m2] 268 (0,0))],Y2,[(V,.cells #[.slice s1 N m1] 23 (0,0))]]) ?_ (fun h s=>by simpa[C8]using s);refine ygb (rs₀:=[]) rfl (fun m_ rs l p_ L_=>∃(j:Nat)(Y1 Y2:Pcs),m_=N-j/\l=[(0,none,w_ bt 0),(4,none,.J (N:Nat)),(5,none,w_ V 0),(6,none,w_ b5 0),(42,none,.J (N:Nat)),(43,none,.J (j:Nat))]/\p_=p/\L_=[C8 rs,Y1,[(b5,.cells #[.slice s2 N m2] 268 (0,0))],Y2,[(V,.cells #[.slice s1 N m1] 23 (0,0))]]/\j<=N/\Ab 3 1 (.slice s1 N m1) (ics (Bo (Az t H d) j (E8 N t.sp)).c) Y1/\Ab 272 5 (.slice s2 N m2) (acs (Bo (Az t H d) j (E8 N t.sp)).b) Y2/\K0 (Bo (Az t H d) j (E8 N t.sp)) (48*j)) ⟨0,Y',Y2,rfl,rfl,rfl,rfl,Nat.zero_le _,o',o2,K0.start⟩ sb ?_;clear IH M o2 o';rintro _ rs _ p _ IH ⟨j,Y1,Y2,rfl,rfl,rfl,rfl,hj,M,o2,b7⟩;refine cq (fun cc=>?_) (fun cc=>?_)
 ·refine ax ?_;refine xy4 (fun i L=>∃Y1 Y2,L=[C8 rs,Y1,[(b5,.cells #[.slice s2 N m2] 268 (0,0))],Y2,[(V,.cells #[.slice s1 N m1] 23 (0,0))]]/\Ab 3 1 (.slice s1 N m1) (ics (((Az t H d).take i).foldl rel (Bo (Az t H d) j (E8 N t.sp))).c) Y1/\Ab 272 5 (.slice s2 N m2) (acs (((Az t H d).take i).foldl rel (Bo (Az t H d) j (E8 N t.sp))).b) Y2/\K0 (((Az t H d).take i).foldl rel (Bo (Az t H d) j (E8 N t.sp))) (48*j+i)) rfl (ywn T O H D Dv S hb) ⟨Y1,Y2,rfl,M,o2,b7⟩ ?_ ?_ rfl (fun i hi=>by rw[List.length_map]at hi;simp[List.getD_eq_getElem?_getD,hi])
  ·intro lo lp i _ p' C d8 d6 b3 hi le ⟨Y1,Y2,e,q1,q2,a4⟩ c5 nx;subst e;rw[List.length_map]at hi;obtain⟨x,hx⟩:∃x,x=(Az t H d)[i]:=⟨_,rfl⟩
   have e:((Az t H d).map fun x=>[Nm x]).getD i []=[Nm x]:=by simp[List.getD_eq_getElem?_getD,hi,hx]
   rw[e];obtain⟨U,hU⟩:∃U,U=((Az t H d).take i).foldl rel (Bo (Az t H d) j (E8 N t.sp)):=⟨_,rfl⟩
   have eU:((Az t H d).take (i+1)).foldl rel (Bo (Az t H d) j (E8 N t.sp))=rel U x:=by rw[hU,hx,List.take_succ_eq_append_getElem hi,yqj]
   have lc:U.c.length=N:=by rw[hU];exact Py
   have lb:U.b.length=N:=by rw[hU];exact P4
   rw[<- hU]at q1 q2 a4;have a8:x∈Az t H d:=by rw[hx];exact List.getElem_mem hi
   have c6:=xhc O.y x a8;have a5:=xfl O.toOk S Dv x a8;have c8:=a5;have b0:=xl7 (w:=H) (d:=d) O.toOk;have d5:cC=40353607001:=by decide
   rw[d5]at c8;simp only[nN]at c6;have hB:Go.X.Bf.L U x.fr<1152921504606846976-> -30000000000000<=Go.X.Bf.L U x.fr/\Go.X.Bf.L U x.fr<=30000000000000:=fun c=>by
    have z:=a4 x.fr c;omega
   clear hU hx e;show RE _ _ ((47,none,.agg #[.J ((x.fr:Nat):Int),.J ((x.to:Nat):Int),.J x.cost,.J x.way,.J x.more])::_) _ _;refine lq fun b8=>?_;refine ax ?_;dsimp only at nx⊢;refine xqr c5 ?_;refine drq [] R20 ?_;refine de_y rfl rfl (xxv rfl rfl sdt sdt q1 (by rw[Ae];omega)) ?_;refine ex ?_;refine de_y rfl rfl (xcb rfl sdt q1 xmx (xeh om) rfl) ?_;refine ex ?_;refine de_y rfl rfl (xxv rfl rfl sdu sdu q1 (by rw[Ae];omega)) ?_;refine ex ?_;refine de_y rfl rfl (xcb rfl sdu q1 xmx (xeh om) rfl) ?_;refine ex ?_;refine de_y rfl rfl (xxv rfl rfl sdu sdu q1 (by rw[Ae];omega)) ?_;refine ex ?_;refine de_y rfl rfl (xcb rfl sdu q1 xmx (xeh om) rfl) ?_;refine ex ?_;refine cq (fun c2=>?_) (fun c2=>?_)
   ·have c3:Go.X.Bf.L U x.fr<1152921504606846976/\Go.X.Bf.L U x.fr+x.cost<Go.X.Bf.L U x.to:=by simpa using c2
    refine xb5 [16] R17 Y1 ?_;refine ex ?_;refine de_y rfl rfl (xxv rfl rfl sdt sdt q1 (by rw[Ae];omega)) ?_;refine ex ?_;refine xi3 rfl rfl rfl sdt q1 xmx (xeh om) rfl ?_;refine ex ?_;refine de_y rfl rfl (xxv rfl rfl sdt sdt q1 (by rw[Ae];omega)) ?_;refine ytg rfl rfl rfl q1 xmx rfl rfl rfl (xeh om) (Nat.le_refl _) fun Y3 o3=>?_;refine ex ?_;have o3:=o3.as (Eq.trans (b:=ics (U.c.set x.to (Go.X.Bf.L U x.fr+x.cost))) Ck (show _=ics (rel U x).c by rw[yux c3.1 c3.2]));refine ax ?_;refine ro_y rfl (xfb rfl rfl q2 (by rw[xgv];omega)) ?_;refine xck rfl rfl q2 xmx rfl rfl rfl (xo3 om) (Nat.le_refl _) fun Y4 o4=>?_;have o4:=o4.as (Eq.trans (b:=acs (U.b.set x.to x)) (yep (x:=x)) (show _=acs (rel U x).b by rw[yux c3.1 c3.2]));exact bkq (nx [] _ ⟨Y3,Y4,rfl,by rw[eU];exact o3,by rw[eU];exact o4,by rw[eU];exact K0.step a4 om a5⟩)
   ·have c3:¬ Go.X.Bf.L U x.fr<1152921504606846976\/ ¬ Go.X.Bf.L U x.fr+x.cost<Go.X.Bf.L U x.to:=by
     by_cases c:Go.X.Bf.L U x.fr<1152921504606846976
     ·exact .inr fun z=>c2 (by simp[c,z])
     ·exact .inl c
    have eR:rel U x=U:=c3.elim yll ykl;exact bkq (nx [] _ ⟨Y1,Y2,rfl,by rw[eU,eR];exact q1,by rw[eU,eR];exact q2,by rw[eU,];exact K0.step a4 om a5⟩)
  ·intro r _ ⟨Y1,Y2,e,q1,q2,a4⟩;subst e;rw[List.length_map,List.take_length]at q1 q2 a4;dsimp only;refine ax ?_;refine yol (rs:=rs) ?_;have b0:=xl7 (w:=H) (d:=d) O.toOk;exact bkq (IH (r::rs) _ _ _ om ⟨j+1,Y1,Y2,rfl,rfl,rfl,rfl,om,q1,q2,K0.mono a4 om⟩)
 obtain rfl:N=j:=om;have hB:Bo (Az t H d) N (E8 N t.sp)=bf t H d:=by rw[hN];rfl
 rw[hB]at M o2;clear IH b7 hB;have e7:(bf t H d).c.length=N:=by rw[hN];exact yzn
 have d9:(bf t H d).b.length=N:=by rw[hN];exact yap
 refine ax ?_;refine yfr 272 5 fun o9=>?_;refine ro_y rfl (xfb rfl (by show some ([],Value.J _)=_;rw[show(N:Int)-1=((N-1:Nat):Int) by omega]) M (by rw[Ae];omega) (i:=N-1)) ?_;refine xbh rfl M xmx (xeh om) rfl ?_;refine ax ?_;have a6:Go.X.Bf.L (bf t H d) (N-1)=Du t H d:=by rw[hN];rfl
 rw[a6];refine cq (fun c3=>?_) (fun c3=>?_)
 ·have d7:Du t H d<far:=by rw[xhf];exact c3
  have a9:=(G.find O.toOk S).way d7;have e2:=xi5 O.toOk S G;refine ax ?_;refine xgx (l':=[(4,none,.J (N:Nat)),(5,none,w_ V 0),(6,none,w_ b5 0),(9,none,.slice none 0 0),(10,none,.J ((N-1:Nat):Int))]) ?_ ⟨rfl,rfl,rfl,rfl,by show some (none,Value.J _)=_;rw[show(N:Int)-1=((N-1:Nat):Int) by omega],trivial⟩;refine xjq (fun m_ l p_ L_=>∃(n:Nat)(acc r:List Go.X.Bf.Arc)(w:Value)(Y:Pcs),m_=r.length/\l=[(4,none,.J (N:Nat)),(5,none,w_ V 0),(6,none,w_ b5 0),(9,none,w),(10,none,.J (n:Nat))]/\p_=p/\L_=[Y,C8 rs,Y1,[(b5,.cells #[.slice s2 N m2] 268 (0,0))],Y2,[(V,.cells #[.slice s1 N m1] 23 (0,0))]]/\n<N/\En (bf t H d) t.sp n r/\acc++r=Bh t H d/\(∀a∈r,a∈Az t H d)/\Ab 272 5 w (acs acc) Y) ⟨N-1,[],Bh t H d,.slice none 0 0,[],rfl,rfl,rfl,rfl,om,(show N-1=t.si by unfold Tn.si;omega) ▸ a9.2.1,rfl,fun a ha=>(a9.2.2.2 a ha).1,o9⟩ sb ?_;clear o9;rintro _ _ p _ IH ⟨n,acc,r,w,Y,rfl,rfl,rfl,rfl,e3,hC,hP,hr,o3⟩;have b9:=congrArg List.length hP;simp only[List.length_append]at b9;refine cq (fun c4=>?_) (fun c4=>?_)
  ·obtain⟨r',c7,c9⟩:=En.Ou hC (show n≠t.sp by rw[a7];intro e;apply c4;omega);subst c7;simp only[List.length_cons]at b9;refine ax ?_;refine ro_y rfl (xfb rfl rfl o2 (by rw[xgv];omega)) ?_;refine ygl rfl o2 rfl (xo3 om) ?_;refine ax ?_;refine xtx rfl fun v4 Y4 o4=>?_;have o4:Ab 272 5 v4 (acs [Go.X.Bf.B (bf t H d) n]) Y4:=o4;refine ax ?_;refine xbv rfl rfl o3 o4 (xt2 rfl) (by rw[xgv,xgv];simp only[List.length_singleton];omega) fun v5 Y5 o5=>?_;have o5:=o5.as (ymf acc (Go.X.Bf.B (bf t H d) n));refine ax ?_;refine ro_y rfl (xfb rfl rfl o2 (by rw[xgv];omega)) ?_;refine ax ?_;refine xbh rfl o2 (j:=0) rfl (xo3 om) rfl ?_;refine ax ?_;have z_:=xhc O.y _ (hr _ (List.mem_cons_self ..));simp only[nN]at z_;exact bkq (IH _ _ _ s_ ⟨(Go.X.Bf.B (bf t H d) n).fr,acc++[Go.X.Bf.B (bf t H d) n],r',v5,Y5,rfl,rfl,rfl,rfl,om,c9,by rw[List.append_assoc];exact hP,fun a ha=>hr a (List.mem_cons_of_mem _ ha),o5⟩)
  have d0:=En.Qc hC (show n=t.sp by rw[a7];apply Classical.byContradiction;intro z;apply c4;omega);subst d0;rw[List.append_nil]at hP;rw[hP]at o3;refine drq [] R7 ?_;refine de_y rfl rfl (xxv rfl (by show some (_,Value.J _)=_;rw[show(N:Int)-1=((N-1:Nat):Int) by omega]) sdt sdt M (by rw[Ae];omega) (j:=N-1)) ?_;refine de_y rfl rfl (xcb rfl sdt M xmx (xeh om) rfl) ?_;refine xa ?_;dsimp only;rw[a6];exact xpr (rs:=rs) (vs:=[w,.J (Du t H d)]) func243 rfl rsv fun _ H_=>K _ _ ⟨w,Y,⟨rfl,o3⟩,El H_⟩
 ·refine drq [] R7 ?_;refine de_y rfl rfl (xxv rfl (by show some (_,Value.J _)=_;rw[show(N:Int)-1=((N-1:Nat):Int) by omega]) sdt sdt M (by rw[Ae];omega) (j:=N-1)) ?_;refine de_y rfl rfl (xcb rfl sdt M xmx (xeh om) rfl) ?_;refine xa ?_;dsimp only;rw[a6];have o9:=o9.as (show _=acs (Bh t H d) by rw[Bh,if_neg (fun z=>c3 (by rw[xhf]at z;exact z))];rfl);exact xpr (rs:=rs) (vs:=[.slice none 0 0,.J (Du t H d)]) func243 rfl rsv fun _ H_=>K _ _ ⟨.slice none 0 0,[],⟨rfl,o9⟩,El H_⟩
open Go.X.Bf (a0)
theorem yef(hp:Per p h)(t:Tn)(T:Am p a1 t.nH a2 t.nW a3 t.m t)(O:OkT t)(H:Wi)(S:Sg H):
 Ac prog md 198 #[.agg #[.slice a1 t.nH c1,.slice a2 t.nW c2,.slice a3 t.m c3],.agg #[.J H.Er,.J H.Kf,.J H.sign]] h fun v h'=>∃Y,Ab 3 1 v (ics (Bz t H)) Y/\New h h' Y:=by
 have oH:=O.nh;have oW:=O.nw;have oM:=O.nm;refine xsq hp func198 fun K b1=>?_;refine bq fun b2=>?_;refine drq [5] R6 ?_;refine yln (n:=t.m) (zc:=[.J 0]) rfl rfl rfl om fun v Y o=>?_;obtain⟨a9,c9,rfl,-⟩:=o.val;rw[List.length_replicate]at o⊢;have o:=o.as (ytx _);refine ex ?_;refine bq fun b5=>?_;refine ax ?_;refine xfk (LL':=[[(b5,.cells #[.slice a1 t.nH c1,.slice a2 t.nW c2,.slice a3 t.m c3,.J H.Er,.J H.Kf,.J H.sign,.slice a9 t.m c9] 267 (0,0))],Y]) ?_ (fun h s=>s.sub (List.Sublist.cons_cons _ (List.Sublist.cons _ (List.Sublist.cons _ (List.Sublist.refl _)))));refine xjq (fun m_ l p_ L_=>∃(n:Nat)(d:List Int)(Y:Pcs),m_=n/\l=[(5,none,w_ b5 0)]/\p_=p/\L_=[[(b5,.cells #[.slice a1 t.nH c1,.slice a2 t.nW c2,.slice a3 t.m c3,.J H.Er,.J H.Kf,.J H.sign,.slice a9 t.m c9] 267 (0,0))],Y]/\Flow.Good t H d/\sm t.nH t.hv-tot t d<(n:Int)+1/\Fi t H (n+1) d=Bz t H/\Ab 3 1 (.slice a9 t.m c9) (ics d) Y) ⟨(sm t.nH t.hv).toNat,List.replicate t.m 0,Y,rfl,rfl,rfl,rfl,Flow.Good.start O.toOk S,xw8 O.toOk,rfl,o⟩ sb ?_;clear o;rintro n _ p _ IH ⟨_,d,Y,rfl,rfl,rfl,rfl,hG,hN,hF,o1⟩;have c5:=hG.div.len;have a8:=yot hG.div (fun i hi=>yjt O hG.div hi);refine ax ?_;refine xzt (Q:=fun v Y=>∃w,v=.tuple #[w,.J (Du t H d)]/\Ab 272 5 w (acs (Bh t H d)) Y) (first:=[]) rfl rfl (fun h s=>(ydc (n:=t.m) o1 (by rw[Ae];exact c5) s (fun x h=>by simp[h]) (bt:=b5) (ob:=.cells #[.slice a1 t.nH c1,.slice a2 t.nW c2,.slice a3 t.m c3,.J H.Er,.J H.Kf,.J H.sign,.slice a9 t.m c9] 267 (0,0)) s_ fun p_ a_ c_ b6 c4 c8 D_ b3=>yy4 b6 c1 c2 c3 t (Am.mono T c4) O H c_ d D_ hG.div S b5 (c8 ▸ b3) hG).mono fun v h'⟨w,Y,q,n⟩=>⟨Y,⟨w,q⟩,n⟩) ?_;rintro _ Y2 ⟨w,rfl,M⟩;refine cq (fun cc=>?_) (fun cc=>?_)
 ·refine ax ?_;exact K.r rfl rfl fun _ H_=>⟨Y,o1.as (by rw[<- hF,xx8 cc]),El H_⟩
 obtain⟨n',d0,b0,b8,c6⟩:=yvj O.toOk S hG cc hN hF;have b7:Du t H d<Go.X.Bf.far:=by rw[xhf];omega
 have a5:=(hG.find O.toOk S).way b7;have d5:=xi5 O.toOk S hG;have a7:=fun a ha=>(yrv (a5.2.2.2 a ha).1).2;have c7:=fun a ha=>(yrv (a5.2.2.2 a ha).1).1;refine ax ?_;refine xlb M (xgv _) fun p1 a6 cp le ev D2=>?_;subst ev;refine ax ?_;refine xjq (fun m_ l p_ L_=>∃(k:Nat)(Y:Pcs),m_=(Bh t H d).length-k/\l=[(5,none,w_ b5 0),(29,none,.slice a6 (Bh t H d).length cp),(30,none,.J ((Bh t H d).length:Nat)),(31,none,.J (k:Nat))]/\p_=p1/\L_=[[(b5,.cells #[.slice a1 t.nH c1,.slice a2 t.nW c2,.slice a3 t.m c3,.J H.Er,.J H.Kf,.J H.sign,.slice a9 t.m c9] 267 (0,0))],Y]/\k<=(Bh t H d).length/\Ab 3 1 (.slice a9 t.m c9) (ics (Gw d (Bh t H d) k)) Y) ⟨0,Y,rfl,rfl,rfl,rfl,Nat.zero_le _,by rw[xl1];exact o1⟩ sb ?_;clear o1 M;rintro _ _ p1 _ a4 ⟨k,Y,rfl,rfl,rfl,rfl,hk,M⟩;have V:(Gw d (Bh t H d) k).length=t.m:=Mr.trans hG.div.len;have b4:=yov a7 a8 k hk;have D3:Mf p1 a6 (Bh t H d).length (Bh t H d):=D2;refine cq (fun cd=>?_) (fun cd=>?_)
 ·have z1:=c7 _ (xhs (show k<(Bh t H d).length by omega));have z2:=a7 _ (xhs (show k<(Bh t H d).length by omega));have z3:=b4 ((Bh t H d).getD k a0).way.toNat;refine ax ?_;refine ro_y rfl (xlk rfl (D3.all om)) ?_;refine xbx fun b9=>?_;refine cq (fun ce=>?_) (fun ce=>?_)
  ·refine xl2 [] R10 ?_;refine ex ?_;refine de_y rfl rfl (xhl rfl rfl sdt sdt M (xdz ⟨ce,by rw[Ae,V];omega⟩)) ?_;refine de_y rfl rfl (xcb rfl sdt M xmx (Co (by rw[V];omega)) rfl) ?_;refine xa ?_;refine xav rfl rfl M ce (by rw[Ae,V];omega) ?_;refine xck rfl rfl M xmx rfl rfl rfl (Co (by rw[V];omega)) (Nat.le_refl _) fun Y3 o3=>?_;have o3:=o3.as (Eq.trans (b:=ics ((Gw d (Bh t H d) k).set ((Bh t H d).getD k a0).way.toNat ((Gw d (Bh t H d) k).getD ((Bh t H d).getD k a0).way.toNat 0+((Bh t H d).getD k a0).more))) Ck (congrArg ics (ykf om ce)));exact bkq (a4 _ _ _ om ⟨k+1,Y3,rfl,rfl,rfl,rfl,om,o3⟩)
  ·exact bkq (a4 _ _ _ om ⟨k+1,Y,rfl,rfl,rfl,rfl,om,M.as (congrArg ics (ycp om ce))⟩)
 refine ax ?_;refine xov le ?_;exact bkq (IH _ _ _ om ⟨n',aug d (Bh t H d),Y,rfl,rfl,rfl,rfl,b0,b8,c6,M.as (by rw[ylf om])⟩)
theorem xkm{L X:Pcs}(T:Am p a1 t.nH a2 t.nW a3 t.m t)(O:OkT t)(H:Div t d)(o:Ab 3 1 w (ics d) X)(s:St z9 zz p h (X++L)):
 Ac prog md 204 #[.agg #[.slice a1 t.nH c1,.slice a2 t.nW c2,.slice a3 t.m c3],w] h fun v h'=>∃Y,(∃w1 w2 V M,v=.tuple #[w1,w2]/\Ab 3 1 w1 (ics (Gd t d)) V/\Ab 3 1 w2 (ics (Nq t d)) M/\Y=V++M)/\New h h' Y:=
 yam (n:=t.m) o (by rw[Ae];exact H.len) s (fun x hx=>List.mem_append_left _ hx) fun p' a cap hp le hv D=>by
  subst hv;exact yfj c1 c2 c3 t (Am.mono T le) O cap d D H h hp
theorem yv5(hp:Per p h)(t:Tn)(T:Am p a1 t.nH a2 t.nW a3 t.m t)(O:OkT t)(hG:p 0=some (.cells #[.J (-1),.J (-1),.J 0] tN z)):
 Ac prog md 200 #[.agg #[.slice a1 t.nH c1,.slice a2 t.nW c2,.slice a3 t.m c3]] h fun v h'=>∃Y,Ab 3 1 v (ics (LK t)) Y/\New h h' Y:=by
 have oH:=O.nh;refine xsq hp func200 fun K b1=>?_;refine drq [3,4] R9 ?_;refine xsk rfl rfl rfl (fun _ pe=>yef pe t T O Dm xhk) ?_;intro v Y o;refine ybv Y rfl rfl rfl (fun h L s=>xkm T O (xyz O.toOk xhk).div o s) ?_;rintro _ _ ⟨w1,w2,H,V,rfl,M,o2,rfl⟩;refine xa ?_;refine xbc H V ?_;refine ax ?_;refine xwl H rfl rfl (fun h C s=>yx4 w1 M (by rw[xqb];omega) s) ?_;rintro _ Y3 ⟨rfl,o3⟩;refine ax ?_;exact K.r rfl rfl fun _ H_=>⟨Y3,o3,El H_⟩
theorem yz7(V:Per p h)(t:Tn)(T:Am p a1 t.nH a2 t.nW a3 t.m t)(hn:t.nH<=2^30/\t.nW<=2^30/\t.m<=2^30)(hG:p 0=some (.cells #[.J (-1),.J (-1),.J 0] tN z)):
 Ac prog md 116 #[.agg #[.slice a1 t.nH c1,.slice a2 t.nW c2,.slice a3 t.m c3]] h fun v h'=>v=.tuple #[.J (Cc t),.J (C6 t)]/\As h h':=by
 refine xsq V func116 fun K b1=>?_;refine cdq (cf50 t T hn) ?_;refine cq (fun H=>?_) (fun H=>?_)
 ·refine K.q ?_;rw[Cc,if_neg H];rfl
 have H:=Classical.not_not.1 H;have O:OkT t:=xfm H;have oM:=O.nm;refine coq (fun _ M=>yef M t T O Dm xhk) ?_;intro v Y o;refine xlb o (by rw[Ae,ywj]) fun p1 a n le ev D=>?_;subst ev;refine xrx rfl rfl (yw5 (Bz t Dm) D om (fun i hi=>by have z_:=xif O xhk i hi;omega)) ?_;refine K.q ?_;rw[Cc,if_pos H,H];rfl
theorem yx7(hp:Per p h)(t:Tn)(T:Am p a1 t.nH a2 t.nW a3 t.m t)(hn:t.nH<=2^30/\t.nW<=2^30/\t.m<=2^30)(hG:p 0=some (.cells #[.J (-1),.J (-1),.J 0] tN z)):
 Ac prog md 119 #[.agg #[.slice a1 t.nH c1,.slice a2 t.nW c2,.slice a3 t.m c3]] h fun v h'=>∃Y,(∃w,v=.tuple #[w,.J (C6 t)]/\Ab 3 1 w (ics (LKc t)) Y)/\New h h' Y:=by
 refine xsq hp func119 fun K b1=>?_;refine cdq (cf50 t T hn) ?_;refine cq (fun H=>?_) (fun H=>?_)
 ·refine ax ?_;refine xfk (LL':=[[]]) ?_ (fun h s=>s.sub (List.nil_sublist _));exact K.r rfl rfl fun _ M=>⟨[],⟨.slice none 0 0,rfl,(Ab.empty _ _).as (by rw[LKc,if_neg H];rfl)⟩,El M⟩
 have H:=Classical.not_not.1 H;have O:OkT t:=xfm H;refine coq (fun _ V=>yv5 V t T O hG) ?_;intro v Y o;refine ax ?_;exact K.r rfl rfl fun _ M=>⟨Y,⟨v,by rw[H];rfl,o.as (by rw[LKc,if_pos H])⟩,El M⟩
theorem yp0(hp:Per p h)(t:Tn)(T:Am p a1 t.nH a2 t.nW a3 t.m t)(O:OkT t)(z s:Int)(S:Sg ⟨z,-1,s⟩)(H:0<=z/\z.toNat<t.nH)(bT bZ:Nat)
 (hT:p bT=some (.cells #[.slice a1 t.nH c1,.slice a2 t.nW c2,.slice a3 t.m c3] T1 q1))(hZ:p bZ=some (.cells #[.J z] T2 q2)):
 Ac prog md 203 #[.J s,w_ bT 0,w_ bZ 0] h fun v h'=>v=.J (L8 t z s)/\As h h':=by
 have oH:=O.nh;refine xez hp func203 fun _ _ _ K=>?_;refine drq [5,6] R11 ?_;refine xsk rfl rfl rfl (fun _ pe=>yef pe t T O ⟨z,-1,s⟩ S) ?_;intro v Y o;have Dv:=(xyz O.toOk S).div;refine ybv Y rfl rfl rfl (fun h L s=>xkm T O Dv o s) ?_;rintro _ _ ⟨w1,w2,Y1,Y2,rfl,M,o2,rfl⟩;refine xa ?_;refine xqz Y1 Y2 ?_;have V:=T.h;have a5:=yhj O Dv (h:=z.toNat) H.2;have a4:0<=t.hs.getD z.toNat 0/\t.hs.getD z.toNat 0<=9:=O.h z.toNat H.2;refine xl2 [] R9 ?_;refine ex ?_;refine de_y rfl rfl (xkz rfl rfl sdt sdt (xdz ⟨⟨H.1,om⟩,Sl.ne V om⟩)) ?_;refine de_y rfl rfl (xoz rfl sdt (xdz (Ar.get V H.2))) ?_;refine ex ?_;refine de_y rfl rfl (xhl rfl rfl sdt sdt M (xdz ⟨H.1,by have e:=xqb (t:=t) (d:=Bz t ⟨z,-1,s⟩);rw[Ae];omega⟩) (z:=z)) ?_;refine de_y rfl rfl (xcb rfl sdt M xmx (xb6 (d:=Bz t ⟨z,-1,s⟩) H.2) rfl) ?_;refine xa ?_;have e:t.hv z.toNat-Al t (Bz t ⟨z,-1,s⟩) z.toNat=L8 t z s:=by unfold Al L8;omega
 refine xrq func203 rfl rfl fun _ H_=>K _ _ ⟨?_,H_.kept⟩;exact congrArg (Value.int .i64) e
theorem yo0(hp:Per p h)(t:Tn)(T:Am p a1 t.nH a2 t.nW a3 t.m t)(O:OkT t)(z s:Int)(S:Sg ⟨-1,z,s⟩)(H:0<=z/\z.toNat<t.nW)(M bZ:Nat)
 (hT:p M=some (.cells #[.slice a1 t.nH c1,.slice a2 t.nW c2,.slice a3 t.m c3] T1 q1))(hZ:p bZ=some (.cells #[.J z] T2 q2)):
 Ac prog md 205 #[.J s,w_ M 0,w_ bZ 0] h fun v h'=>v=.J (Nt t z s)/\As h h':=by
 refine xxx hp func205 fun K=>?_;refine xl2 [5,6] R11 ?_;refine ex ?_;refine xsk rfl rfl rfl (fun _ pe=>yef pe t T O ⟨-1,z,s⟩ S) ?_;intro v Y o;have Dv:=(xyz O.toOk S).div;refine ybv Y rfl rfl rfl (fun h L s=>xkm T O Dv o s) ?_;rintro _ _ ⟨w1,w2,Y1,Y2,rfl,o1,V,rfl⟩;refine xa ?_;refine xbc Y1 Y2 ?_;refine xav rfl rfl V H.1 (by rw[Ae,xdl];exact H.2) ?_;refine xbh rfl V xmx (ymj H.2) rfl ?_;exact K.q rfl
theorem yv7(hp:Per p h)(t:Tn)(T:Am p a1 t.nH a2 t.nW a3 t.m t)(hn:t.nH<=2^30/\t.nW<=2^30/\t.m<=2^30)(z:Int):
 Ac prog md 122 #[.agg #[.slice a1 t.nH c1,.slice a2 t.nW c2,.slice a3 t.m c3],.J z] h fun v h'=>v=.tuple #[.agg #[.J (C2 t z (-1)),.J (C2 t z 1)],.J (Ht t (decide (0<=z/\z<=(t.nH:Int)-1)))]/\As h h':=by
 refine xsq hp func122 fun K b2=>?_;refine bq fun b3=>?_;refine lq fun b4=>?_;refine drq [] R4 ?_;refine xxk rfl rfl rfl rfl trivial (cf98 t.nH t.nW t.m c1 c2 c3 om z) ?_;refine ex ?_;refine cdq (yq0 t T hn (decide (0<=z/\z<=(t.nH:Int)-1))) ?_;refine cq (fun H=>?_) (fun H=>?_)
 ·refine ax ?_;exact K.e rfl (xoq rfl (.tmp rfl .nil)) fun _ H_=>⟨by rw[C2,if_neg H,C2,if_neg H];rfl,H_.kept⟩
 have H:=Classical.not_not.1 H;have O:OkT t:=xfm (xcr H).1;have hz:=of_decide_eq_true (xcr H).2;have oH:=O.nh;refine ax ?_;refine xlw (b:=b2) fun p1 a4 V=>?_;refine xlw (b:=b3) fun p2 M h2=>?_;have V:=M _ _ V;have T2:=Am.mono T (a4.trans M);refine xqn rfl rfl (fun _ pe=>xgq k_ (yp0 pe t T2 O z (-1) ⟨(by decide:(-1:Int)<= -1),(by decide:(-1:Int)<=1)⟩ ⟨hz.1,om⟩ b2 b3 V h2)) ?_;refine ax ?_;refine xqn rfl rfl (fun _ pe=>xgq k_ (yp0 pe t T2 O z 1 ⟨(by decide:(-1:Int)<=1),(by decide:(1:Int)<=1)⟩ ⟨hz.1,om⟩ b2 b3 V h2)) ?_;refine ax ?_;exact K.e rfl (xoq rfl (.tmp rfl .nil)) fun _ H_=>⟨by rw[C2,if_pos H,C2,if_pos H,H];rfl,H_.kept⟩
theorem yt7(hp:Per p h)(t:Tn)(T:Am p a1 t.nH a2 t.nW a3 t.m t)(hn:t.nH<=2^30/\t.nW<=2^30/\t.m<=2^30)(z:Int):
 Ac prog md 124 #[.agg #[.slice a1 t.nH c1,.slice a2 t.nW c2,.slice a3 t.m c3],.J z] h fun v h'=>v=.tuple #[.J (Ls t z),.J (Ht t (decide (0<=z/\z<=(t.nW:Int)-1)))]/\As h h':=by
 refine xsq hp func124 fun K b2=>?_;refine bq fun b3=>?_;refine drq [] R4 ?_;refine xxk rfl rfl rfl rfl trivial (cf99 t.nH t.nW t.m c1 c2 c3 om z) ?_;refine ex ?_;refine cdq (yq0 t T hn (decide (0<=z/\z<=(t.nW:Int)-1))) ?_;refine cq (fun H=>?_) (fun H=>?_)
 ·refine K.q ?_;rw[Ls,if_neg H];rfl
 have H:=Classical.not_not.1 H;have O:OkT t:=xfm (xcr H).1;have hz:=of_decide_eq_true (xcr H).2;have oW:=O.nw;refine ax ?_;refine xlw (b:=b2) fun p1 a4 h1=>?_;refine xlw (b:=b3) fun p2 M h2=>?_;have h1:=M _ _ h1;have T2:=Am.mono T (a4.trans M);refine xqn rfl rfl (fun _ pe=>xgq k_ (yo0 pe t T2 O z (-1) ⟨(by decide:(-1:Int)<= -1),(by decide:(-1:Int)<=1)⟩ ⟨hz.1,om⟩ b2 b3 h1 h2)) ?_;refine cq (fun V=>?_) (fun V=>?_)
 ·refine K.q ?_;rw[Ls,if_pos H,On,if_pos V,H];rfl
 refine ax ?_;refine xqn rfl rfl (fun _ pe=>xgq k_ (yo0 pe t T2 O z 1 ⟨(by decide:(-1:Int)<=1),(by decide:(1:Int)<=1)⟩ ⟨hz.1,om⟩ b2 b3 h1 h2)) ?_;refine cq (fun ce=>?_) (fun ce=>?_)
 ·refine K.q ?_;rw[Ls,if_pos H,On,if_neg V,if_pos ce,H];rfl
 refine K.q ?_;rw[Ls,if_pos H,On,if_neg V,if_neg ce,H];rfl
theorem yc4(x:Nat)(O:0<x/\x<64){zT:Nat×Nat}(Z:p 7=some (.cells (Dz.map fun n=>Value.int .u8 ((n:Nat):Int)).toArray tT zT)):Dc prog md p 281 #[.int .u64 (x:Nat)] (.J ((tzN x:Nat):Int)):=by
 have M:=yhw (tzF x);refine xlq func281 fun K=>?_;refine xjx rfl (fun H=>absurd H om) (fun H=>?_);refine ax ?_;refine ro_y rfl (yjp rfl om (a:=x)) ?_;refine ro_y rfl (yhh rfl rfl trivial trivial om (a:=x) (b:=18446744073709551616-x)) ?_;refine ro_y rfl (yu1 rfl rfl (a:=x &&& (18446744073709551616-x)) (b:=285870213051353865)) ?_;refine ro_y rfl (xo7 rfl rfl trivial trivial (show _<=64 from by omega) (a:=(x &&& (18446744073709551616-x))*285870213051353865%18446744073709551616) (s:=58)) ?_;refine ro_y rfl (yeh k_ rfl rfl (yvf x) (len:=64) (e:=5) (i:=tzF x) (c:=⟨7,0,none⟩)) ?_;refine ro_y rfl (y_lp rfl (ytp Z (yvf x))) ?_;refine ro_y rfl (xdb ⟨_,underlying5⟩ underlying3 rfl (wrZ om) (k':=.i64)) ?_;exact K.q rfl
theorem yw4(x:Nat)(M:0<x/\x<64){zT:Nat×Nat}(Z:p 7=some (.cells (Dz.map fun n=>Value.int .u8 ((n:Nat):Int)).toArray tT zT)):Dc prog md p 245 #[.int .u64 (x:Nat)] (.J ((tzN x:Nat):Int)):=by
 refine xlq func245 fun K=>?_;refine xjx rfl (fun H=>absurd H (fun z=>z)) (fun H=>?_);refine cdq (yc4 x M Z) ?_;exact K.q rfl
theorem yn0(g:Nat)(hg:g<64){zT:Nat×Nat}(Z:p 7=some (.cells (Dz.map fun n=>Value.int .u8 ((n:Nat):Int)).toArray tT zT)):Nc prog md p 206 #[.int .u64 (g:Nat)] (fun v Y=>Ab 3 1 v (ics (LG g)) Y):=by
 intro h hp;refine xxx hp func206 fun K=>?_;refine xfk (LL':=[[]]) ?_ (fun h s=>s);refine xjq (fun m_ l p_ L_=>∃(n q:Nat)(acc:List Int)(w:Value)(Y:Pcs),m_=q+1/\l=[(0,none,.int .u64 (q:Nat)),(3,none,w)]/\p_=p/\L_=[Y]/\q<64/\Nd n q=true/\acc++Kk n q=LG g/\Ab 3 1 w (ics acc) Y) ⟨6,g,[],.slice none 0 0,[],rfl,rfl,rfl,rfl,hg,Pw g hg,rfl,Ab.empty _ _⟩ sb ?_;rintro _ _ p _ IH ⟨n,q,acc,w,Y,rfl,rfl,rfl,rfl,hq,M,O,o1⟩;have hlen:acc.length<=6:=by have z:=congrArg List.length O;simp only[List.length_append]at z;have z2:=xn1 g hg;omega
 refine cq (fun cc=>?_) (fun cc=>?_)
 ·have H:¬ q=0:=om;obtain⟨n',rfl⟩:∃n',n=n'+1:=by
   cases n with
   |zero=>exact absurd (yfz M) H
   |succ n'=>exact⟨n',rfl⟩
  have z:=Nat.and_le_right (n:=q) (m:=q-1);refine ax ?_;refine xrx rfl rfl (yw4 q om Z) ?_;refine xtx rfl fun v2 Y2 V=>?_;have V:Ab 3 1 v2 [[.J ((tzN q:Nat):Int)]] Y2:=V;refine xbv rfl rfl o1 V (xt2 rfl) (by rw[Ae];simp only[List.length_singleton];omega) fun v3 Y3 o3=>?_;have o3:Ab 3 1 v3 (ics (acc++[((tzN q:Nat):Int)])) Y3:=o3.as (ykc);refine ax ?_;refine ro_y rfl (yhh rfl (by show some ([],Value.int .u64 _)=_;rw[show((q:Nat):Int)-1=((q-1:Nat):Int) by omega]) trivial trivial om (ss':=[]) (a:=q) (b:=q-1)) ?_;exact bkq (IH _ _ _ om ⟨n',q &&& (q-1),acc++[((tzN q:Nat):Int)],v3,Y3,rfl,rfl,rfl,rfl,om,ygz M H,by rw[List.append_assoc,List.singleton_append,<- xk8 H];exact O,o3⟩)
 have H:q=0:=om;subst H;rw[xj8,List.append_nil]at O;refine ax ?_;exact K.r rfl rfl fun _ H_=>⟨Y,o1.as (by rw[O]),El H_⟩
theorem yt5{a:Option Addr}{m n c d:Nat}(xs H:List Int)(A:Ar p a m xs)(B:Ar p b n H)(hm:m<=100/\n<=100):Dc prog md p 208 #[.slice a m c,.slice b n d] (.J (cmpL xs H)):=by
 have a2:=A.len;have V:=B.len;refine xlq func208 fun K=>?_;refine xnq (fun m_ l=>∃k:Nat,m_=m-k/\l=[(0,none,.slice a m c),(1,none,.slice b n d),(9,none,.slice a m c),(10,none,.J (m:Nat)),(11,none,.J (k:Nat))]/\(k<=m/\k<=n)/\cmpL (xs.drop k) (H.drop k)=cmpL xs H) ⟨0,rfl,rfl,⟨Nat.zero_le _,Nat.zero_le _⟩,s_⟩ sb ?_;rintro _ _ IH ⟨k,rfl,rfl,hk,hc⟩;refine cq (fun cc=>?_) (fun cc=>?_)
 ·refine cq (fun M=>?_) (fun M=>?_)
  ·refine K.q ?_;exact congrArg (Value.int .i64) (by rw[<- hc];exact(ydv om om).symm)
  refine cdq (yff (xs.getD k 0) (H.getD k 0)) ?_;refine cq (fun O=>?_) (fun O=>?_)
  ·refine K.q ?_;exact congrArg (Value.int .i64) (by rw[<- hc,xh1 om om,if_neg O])
  exact bkq (IH _ om ⟨k+1,rfl,rfl,om,by rw[<- hc,xh1 (k:=k) om om,if_pos om]⟩)
 refine cq (fun M=>?_) (fun M=>?_)
 ·refine K.q ?_;exact congrArg (Value.int .i64) (by rw[<- hc];exact(yev om om).symm)
 refine K.q ?_;exact congrArg (Value.int .i64) (by rw[<- hc];exact(ywd om om).symm)
theorem yg1(hp:Per p h)(fv:Value){a:Option Addr}{n c:Nat}(xs:List Ch)(S:Wys p a n xs)(hn:n<=2^40)(q:Ch->Bool)
 (hf:∀h,Per p h-> ∀i,i<n->Ay prog md fv [.agg #[.J (xs.getD i wz).1,.J (xs.getD i wz).2]] h fun v O=>v=.bool (q (xs.getD i wz))/\As h O):
 Ac prog md 148 #[.slice a n c,fv] h fun v O=>v=.J (Cp q xs)/\As h O:=by
 have hl:=S.len;refine xxx hp func148 fun K=>?_;refine xnq (fun m l=>∃j:Nat,m=n-j/\l=[(0,none,.slice a n c),(1,none,fv),(7,none,.J n),(8,none,.J j)]/\j<=n/\ ∀i,i<j->q (xs.getD i wz)=false) ⟨0,rfl,rfl,Nat.zero_le _,om⟩ sb ?_;rintro _ _ IH ⟨j,rfl,rfl,hj,M⟩;refine cq (fun cc=>?_) (fun cc=>?_)
 ·refine ax ?_;refine ro_y rfl (xlk rfl (S.all om)) ?_;refine xqn rfl rfl (fun h_ V=>hf h_ V j om) ?_;refine cq (fun H=>?_) (fun H=>?_)
  ·refine K.q ?_;rw[Df (z:=wz) (k:=j) om H M];rfl
  ·exact bkq (IH _ om ⟨j+1,rfl,rfl,om,Dr M (by simpa using H)⟩)
 refine K.q ?_;rw[Da (z:=wz) (fun i hi=>M i om)];rfl
theorem yu4(O:Per p h){a:Option Addr}{n c:Nat}(xs:List Ch)(S:Wys p a n xs)(hn:n<=2^40)(q:Ch->Bool)
 (hf:∀h,Per p h-> ∀i,i<n->Ay prog md fv [.agg #[.J (xs.getD i wz).1,.J (xs.getD i wz).2]] h fun v H=>v=.bool (q (xs.getD i wz))/\As h H):
 Ac prog md 247 #[.slice a n c,fv] h fun v H=>v=.bool (decide (0<=Cp q xs))/\As h H:=by
 refine xxx O func247 fun K=>?_;refine cdq (fun _ M=>yg1 M fv xs S hn q hf) ?_;exact K.q rfl
theorem yv4(x y H w:Nat)(hx:x<=63)(hg:H<64)(O M:Nat)(hW:p O=some (.cells #[.J (w:Nat)] T1 q1))(hG:p M=some (.cells #[.int .u64 (H:Nat)] T2 q2)):Dc prog md p 246 #[.agg #[.J (x:Nat),.J (y:Nat)],w_ O 0,w_ M 0] (.bool (shq H w ((x:Int),(y:Int)))):=by
 intro h V;refine xez V func246 fun _ _ _ K=>?_;refine bq fun b3=>?_;refine ax ?_;refine ro_y rfl (xo7 rfl rfl sdu sdu (show _<=64 by omega) (a:=H) (s:=x)) ?_;refine ro_y rfl (yhh rfl rfl sdu sdu ⟨Nat.lt_of_le_of_lt (Nat.div_le_self _ _) om,om⟩ (a:=H / 2^x) (b:=1)) ?_;refine ax ?_;refine xrq func246 rfl rfl fun _ H_=>K _ _ ⟨?_,H_.kept⟩;refine congrArg Value.bool ?_;simp only[shq,Int.toNat_natCast];rw[Bool.eq_iff_iff];simp only[Bool.and_eq_true,decide_eq_true_eq];omega
theorem yf2(hp:Per p h){g w:Nat}{x:Ch}(M:0<=x.1/\x.1<=63/\0<=x.2)(V:g<64){O H:Nat}(hW:p O=some (.cells #[.J (w:Nat)] T1 q1))(hG:p H=some (.cells #[.int .u64 (g:Nat)] T2 q2)):
 Ac prog md 246 #[.agg #[.J x.1,.J x.2],w_ O 0,w_ H 0] h fun v h'=>v=.bool (shq g w x)/\As h h':=by
 obtain⟨a,b⟩:=x;obtain⟨a,rfl⟩:=Int.eq_ofNat_of_zero_le M.1;obtain⟨b,rfl⟩:=Int.eq_ofNat_of_zero_le M.2.2;exact yv4 a b g w (by have:=M.2.1;simp only at this;omega) V O H hW hG h hp
theorem ym0(t:Tn)(T:Am p a1 t.nH a2 t.nW a3 t.m t)(O:OkT t)(g:Nat)(a7:g<2^t.nH){zT:Nat×Nat}(Z:p 7=some (.cells (Dz.map fun n=>Value.int .u8 ((n:Nat):Int)).toArray tT zT)):Dc prog md p 207 #[.int .u64 (g:Nat),.agg #[.slice a1 t.nH c1,.slice a2 t.nW c2,.slice a3 t.m c3]] (.bool (decide (0<Gj t g))):=by
 intro h hp;have oH:=O.nh;have oW:=O.nw;have oM:=O.nm;have H:g<64:=by have z:=ygg O.toOk;omega
 have b4:=xn1 g H;refine xez hp func207 fun _ _ _ K=>?_;refine bq fun b1=>?_;refine bq fun b3=>?_;refine xlw (b:=b1) fun p1 a6 h1=>?_;refine xlw (b:=b3) fun p2 V h3=>?_;have h1:p2 b1=some (.cells #[.int .u64 (g:Nat)] _ (0,0)):=V _ _ h1;have h3:p2 b3=some (.cells #[.slice a1 t.nH c1,.slice a2 t.nW c2,.slice a3 t.m c3] _ (0,0)):=h3;have T:=Am.mono T (a6.trans V);have Z2:=V _ _ (a6 _ _ Z);clear Z;refine coq (yn0 g H Z2) ?_;clear Z2;intro v Y o;refine xlb o (Ae _) fun p3 a n a4 ev D=>?_;subst ev;have T:=Am.mono T a4;have h1:=a4 _ _ h1;have h3:=a4 _ _ h3;have Th:=T.h;have Tw:=T.w;have D:Ar p3 a (LG g).length (LG g):=D;refine ax ?_;refine xnq (fun m_ l=>∃k:Nat,m_=(LG g).length-k/\l=[(2,none,w_ b1 0),(3,none,w_ b3 0),(5,none,.J (Gu t g k)),(12,none,.slice a (LG g).length n),(13,none,.J ((LG g).length:Nat)),(14,none,.J (k:Nat))]/\k<=(LG g).length) ⟨0,rfl,rfl,Nat.zero_le _⟩ sb ?_;rintro _ _ IH ⟨k,rfl,rfl,hk⟩;have a9:=yxv O.toOk a7 hk;refine cq (fun cc=>?_) (fun cc=>?_)
 ·have a5:=yfp O.nh a7 k om;have b0:0<=t.hs.getD ((LG g).getD k 0).toNat 0/\t.hs.getD ((LG g).getD k 0).toNat 0<=9:=O.h _ om
  repeat (first|refine ro_y rfl (y_pv rfl sdt) ?_|refine ybg ?_|refine xc5 ?_|refine xop ?_|refine yyx ?_|refine yfg ?_|refine xx4 ?_ rfl|refine ro_y rfl (y_ld rfl sdt) ?_|refine ro_y rfl (y_fb rfl sdt) ?_|refine ro_y rfl (y_fa rfl sdt) ?_|refine ro_y rfl (xoz rfl sdt (xdz (xp2 ‹_› rfl))) ?_|refine ro_y rfl (y_ia rfl rfl om (Sl.ne ‹_› om)) ?_|refine ro_y rfl (y_lp rfl (Ar.get ‹_› om)) ?_|refine ro_y rfl (ydh rfl sdt) ?_)
  refine ro_y rfl (xpc rfl rfl a5.1 a5.2 (Sl.ne Th om)) ?_;refine ro_y rfl (y_lp rfl (Ar.get Th om)) ?_;exact bkq (IH _ om ⟨k+1,rfl,rfl,om⟩)
 obtain rfl:k=(LG g).length:=om;refine ax ?_;refine xjq (fun m_ l p_ L_=>∃(w:Nat)(s:Int),m_=t.nW-w/\l=[(2,none,w_ b1 0),(3,none,w_ b3 0),(5,none,.J s),(27,none,.slice a2 t.nW c2),(28,none,.J (t.nW:Nat)),(29,none,.J (w:Nat))]/\p_=p3/\L_=[]/\w<=t.nW/\s=Gu t g (LG g).length-C1 t g w) ⟨0,Gu t g (LG g).length,rfl,rfl,rfl,rfl,Nat.zero_le _,by simp[C1,sm]⟩ sb ?_;clear IH;rintro _ _ p3 _ IH ⟨w,s,rfl,rfl,rfl,rfl,hw,hs⟩;have b5:=xf0 O.toOk (g:=g) hw;refine cq (fun cc=>?_) (fun cc=>?_)
 ·have a8:0<=t.ws.getD w 0/\t.ws.getD w 0<=21:=O.w w om;refine lq fun b8=>?_;refine ax ?_;refine xlw (b:=b8) fun p4 M h8=>?_;have T4:=Am.mono T M;refine xrx rfl rfl (fun _ pe=>yu4 pe t.wy T4.y om (shq g w) (fun h_ pe i hi=>xgq k_ (yf2 pe (ya2 O hi) H h8 (M _ _ h1)))) ?_;refine cq (fun ce=>?_) (fun ce=>?_)
  ·refine ax ?_;refine xov M ?_;exact bkq (IH _ _ _ om ⟨w+1,s-t.ws.getD w 0,rfl,rfl,rfl,rfl,om,by rw[xd8 ce,hs];show _=_-(_+t.ws.getD w 0);omega⟩)
  ·refine ax ?_;refine xov M ?_;exact bkq (IH _ _ _ om ⟨w+1,s,rfl,rfl,rfl,rfl,om,by rw[yxx ce,hs]⟩)
 obtain rfl:w=t.nW:=om;refine ax ?_;refine xrq func207 rfl rfl fun h_ H_=>K _ _ ⟨?_,H_.kept⟩;rw[hs];rfl
theorem yr7(hp:Per p h)(t:Tn)(T:Am p a1 t.nH a2 t.nW a3 t.m t)(hn:t.nH<=2^30/\t.nW<=2^30/\t.m<=2^30){zT:Nat×Nat}(Z:p 7=some (.cells (Dz.map fun n=>Value.int .u8 ((n:Nat):Int)).toArray tT zT)):
 Ac prog md 126 #[.agg #[.slice a1 t.nH c1,.slice a2 t.nW c2,.slice a3 t.m c3]] h fun v h'=>∃Y,(∃w,v=.tuple #[w,.J (Ev t)]/\Ab 3 1 w (ics (Fg t)) Y)/\New h h' Y:=by
 obtain⟨b0,M⟩:∃b0,b0=Dz:=⟨_,rfl⟩
 rw[<- M]at Z;refine xsq hp func126 fun K b1=>?_;refine cdq (cf50 t T hn) ?_;refine cq (fun cc=>?_) (fun cc=>?_)
 ·refine ax ?_;refine xfk (LL':=[[]]) ?_ (fun h s=>s.sub (List.nil_sublist _));exact K.r rfl rfl fun _ H_=>⟨[],⟨.slice none 0 0,by rw[yyq cc];rfl,(Ab.empty _ _).as (by rw[yzq cc];rfl)⟩,El H_⟩
 have cc:=Classical.not_not.1 cc;have O:OkT t:=xfm cc;have oH:=O.nh;have b8:=ygg O.toOk;refine ax ?_;refine ro_y rfl (yq1 rfl rfl om (s:=t.nH)) ?_;refine xlw (b:=b1) fun p1 b4 h1=>?_;have T:=Am.mono T b4;have Z:=b4 _ _ Z;refine ax ?_;refine xfk (LL':=[[]]) ?_ (fun h s=>s);refine xjq (fun m_ l p_ L_=>∃(k:Nat)(w:Value)(Y:Pcs),m_=2^t.nH-k/\l=[(1,none,w_ b1 0),(5,none,w),(16,none,.int .u64 ((2^t.nH:Nat):Int)),(17,none,.int .u64 (k:Nat))]/\p_=p1/\L_=[Y]/\k<=2^t.nH/\Ab 3 1 w (ics (Ax t k)) Y/\(Ax t k=[]->w=.slice none 0 0)) ⟨0,.slice none 0 0,[],rfl,rfl,rfl,rfl,Nat.zero_le _,Ab.empty _ _,fun _=>rfl⟩ sb ?_;rintro _ _ p1 _ IH ⟨k,w,Y,rfl,rfl,rfl,rfl,hk,o1,hw⟩;refine cq (fun cd=>?_) (fun cd=>?_)
 ·have b3:k<2^t.nH:=om;have a6:k<64:=om;have c6:=xn1 k a6;have c4:(Ax t k).length<=6:=xsl om;refine ax ?_;refine xeb rfl rfl (yn0 k a6 (by rw[<- M];exact Z)) ?_;intro v7 Y7 o7;obtain⟨a7,c7,rfl,-⟩:=o7.val;rw[Ae]at o7⊢;obtain⟨a5,c5,rfl,a9⟩:=o1.val;rw[Ae]at o1 hw⊢;refine ax ?_;by_cases hs:0<Gj t k
  ·refine xrx (v:=.bool true) rfl rfl (fun _ pe=>(ym0 t T O k b3 (by rw[<- M];exact Z) _ pe).mono fun v h' e=>⟨e.1.trans (by rw[decide_eq_true hs]),e.2⟩) ?_;by_cases V:Ax t k=[]
   ·have e:=hw V;injection e with e1 e2 e3;subst e1;refine ax ?_;refine ro_y rfl (xat rfl sdu) ?_;refine ax ?_;refine xvl (.J 0) rfl ?_;refine xvl (.J 0) rfl ?_;refine xvl (.J 0) rfl ?_;refine ax ?_;refine xjx rfl (fun H=>?_) (fun H=>absurd s_ H);exact bkq (IH _ _ _ om ⟨k+1,_,Y7,rfl,rfl,rfl,rfl,om,o7.as (by rw[xac hs (.inl V)]),fun z=>absurd (by rw[<- xac hs (.inl V)];exact z) (xot O.toOk hs)⟩)
   ·have b5:0<(Ax t k).length:=List.length_pos_iff.2 V;cases a5 with
    |none=>exact absurd (a9 (by rw[Ae];exact b5)) s_
    |some ad=>
      refine ax ?_;refine ro_y rfl (xat rfl sdu) ?_;refine ax ?_;refine yor (v:=.J (cmpL (LG k) (Ax t k))) rfl rfl trivial rfl (by simp[Bb]) (fun h s=>yp2 o7 (Ae _) o1 (Ae _) s s_ fun p' a cap a' b9 b6 le e e' S S'=>by
       cases e;cases e';exact yt5 (LG k) (Ax t k) S S' ⟨om,om⟩ h b6) ?_
      refine ax ?_;refine ylx rfl rfl (by simp[Bb]) fun v8 Y8 o8=>?_;have o8:Ab 3 1 v8 (ics [((LG k).length:Int)-((Ax t k).length:Int),cmpL (LG k) (Ax t k)]) Y8:=o8;refine xlb (m:=2) o8 rfl fun p2 a8 c8 le ev D=>?_;subst ev;refine xxj (g:=some true) rfl rfl rfl (fun _=>by simp[Bb]) (fun _=>yx0 _ D om) ?_;refine cq (fun H=>?_) (fun H=>?_)
      ·have a4:prec (LG k) (Ax t k):=by simpa using H
       refine ax ?_;refine xov le ?_;exact bkq (IH _ _ _ om ⟨k+1,_,Y7,rfl,rfl,rfl,rfl,om,o7.as (by rw[xac hs (.inr a4)]),fun z=>absurd (by rw[<- xac hs (.inr a4)];exact z) (xot O.toOk hs)⟩)
      ·have a4:¬ prec (LG k) (Ax t k):=fun z=>H (by simpa using z);refine ax ?_;refine xov le ?_;exact bkq (IH _ _ _ om ⟨k+1,_,Y,rfl,rfl,rfl,rfl,om,o1.as (by rw[xkp V a4]),fun z=>absurd (by rw[<- xkp V a4];exact z) V⟩)
  ·refine xrx (v:=.bool false) rfl rfl (fun _ pe=>(ym0 t T O k b3 (by rw[<- M];exact Z) _ pe).mono fun v h' e=>⟨e.1.trans (by rw[decide_eq_false hs]),e.2⟩) ?_;refine ax ?_;refine ro_y rfl (xat rfl sdu) ?_;refine ax ?_;refine xvl (.J 0) rfl ?_;refine xvl (.J 0) rfl ?_;refine xvl (.J 0) rfl ?_;refine ax ?_;refine xjx rfl (fun H=>absurd H s_) (fun H=>?_);exact bkq (IH _ _ _ om ⟨k+1,_,Y,rfl,rfl,rfl,rfl,om,o1.as (by rw[xlp hs]),fun z=>hw (by rw[<- xlp hs];exact z)⟩)
 have b7:k=2^t.nH:=om;have eP:Ax t k=Gc t:=by rw[b7];rfl
 rw[eP]at o1 hw;obtain⟨a5,c5,rfl,a9⟩:=o1.val;rw[Ae]at o1 hw⊢;by_cases V:Gc t=[]
 ·have e:=hw V;injection e with e1 e2 e3;subst e1;refine ax ?_;refine ro_y rfl (xat rfl trivial) ?_;refine ax ?_;refine xjx rfl (fun H=>?_) (fun H=>absurd s_ H);refine ax ?_;refine xfk (LL':=[[]]) ?_ (fun h s=>s.sub (List.nil_sublist _));exact K.r rfl rfl fun _ H_=>⟨[],⟨.slice none 0 0,by rw[ynw cc V];rfl,(Ab.empty _ _).as (by rw[xcg cc,V];rfl)⟩,El H_⟩
 ·cases a5 with
  |none=>exact absurd (a9 (by rw[Ae];exact List.length_pos_iff.2 V)) s_
  |some ad=>
    refine ax ?_;refine ro_y rfl (xat rfl trivial) ?_;refine ax ?_;refine xjx rfl (fun H=>absurd H s_) (fun H=>?_);refine ax ?_;exact K.r rfl rfl fun _ H_=>⟨Y,⟨_,by rw[yow cc V];rfl,o1.as (by rw[xcg cc])⟩,El H_⟩
end Go.Proofs.YtadndcpcjmmngaaGreatDoor
