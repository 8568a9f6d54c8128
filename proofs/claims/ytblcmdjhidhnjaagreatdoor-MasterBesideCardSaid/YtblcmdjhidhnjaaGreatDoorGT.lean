/-
  Part of proofs about a town's master: a calculus for Be beside goroutines that are only leaving, and the Be. No condition.
-/
import Derived.Test.YtblcmdjhidhnjaaGreatDoorGS
set_option maxRecDepth 20000
set_option synthInstance.maxSize 2000
namespace Go.X.Flow
open Go.X Go.X.Bf
theorem ywp{t:Tn}{d:List Int}(O:OkT t)(H:Div t d){i:Nat}(hi:i<t.m):0<=dv d i/\dv d i<=9:=by
 have M:=O.y i hi;have h2:dv d i<=draw t d (t.wh i):=by
  have:=xv8 (f:=fun k=>if t.wh k=t.wh i then dv d k else 0) (k:=t.m) (fun k V=>by have:=H.pos k V;split<;>omega) hi;simpa[draw]using this
 have h3:=H.hs _ M.1;have h4:=O.h _ M.1;have h5:=H.pos i hi
 omega
theorem yux{t:Tn}{d:List Int}(O:OkT t)(H:Div t d){h:Nat}(M:h<t.nH):0<=Au t d h/\Au t d h<=9:=by
 have h1:=H.hs h M;have h2:=O.h h M;have V:=xdd H h
 unfold Au;omega
theorem yop{t:Tn}{d:List Int}(O:OkT t)(H:Div t d){x:Nat}(M:x<t.nW):0<=has t d x/\has t d x<=21:=by
 have h1:=H.ws x M;have h2:=O.w x M;have V:=xt1 H x
 unfold has;omega
open Go.X
theorem yhm{p:Ab}{b:Nat}{t:TypeId}{z:Nat×Nat}(N:p b=some (.cells (Dz.map fun n=>Value.int .u8 ((n:Nat):Int)).toArray t z)){i:Nat}(h:i<64):At p ((⟨b,0,none⟩:Addr).add (i*1))=some (.int .u8 ((Dz.getD i 0:Nat):Int)):=by
 have H:Dz.length=64:=by decide
 unfold At;rw[xsx,N];simp only[Option.isSome_none,Bool.false_eq_true,if_false,Nat.zero_add,Nat.mul_one,List.getElem?_toArray,List.getElem?_map];rw[List.getD_eq_getElem?_getD,List.getElem?_eq_getElem om];rfl
theorem xbl{t:Tn}:∀{k:Nat},k<=64->(Ay t k).length<=6
 |0,_=>by simp[Ay]
 |k+1,h=>by
   rw[Ay];split
   ·exact xh0 k om
   ·exact xbl om
end Go.X.Flow
namespace Go.Proofs.YtblcmdjhidhnjaaGreatDoor
open Go.Proofs.Tryz
open Go.X Go.X.Flow Go.Conc
section
variable{md:Md}{p:Ab}
theorem c73{h:Heap}(M:Per p h){n lo hi:Int}:Aa prog md 73 #[.J n,.J lo,.J hi] h fun v O=>v=.bool (decide (lo<=n/\n<=hi))/\Af h O:=by
 refine xex M func73 fun _ _ _ K=>?_;refine aw ?_;exact K.r rfl rfl fun _ H=>⟨congrArg _ (bpe Iff.rfl),H.kept⟩
theorem c72{h:Heap}(M:Per p h){n:Int}:Aa prog md 72 #[.J n] h fun v O=>v=.bool (Nd 9 n)/\Af h O:=by
 refine xex M func72 fun _ _ _ K=>?_;refine aw ?_;refine xiq rfl rfl (fun _ V=>c73 V) ?_;refine aw ?_;exact K.r rfl rfl fun _ H=>⟨rfl,H.kept⟩
theorem c74{h:Heap}(M:Per p h){n:Int}:Aa prog md 74 #[.J n] h fun v O=>v=.bool (Nd 20 n)/\Af h O:=by
 refine xex M func74 fun _ _ _ K=>?_;refine aw ?_;refine xiq rfl rfl (fun _ V=>c73 V) ?_;refine aw ?_;exact K.r rfl rfl fun _ H=>⟨rfl,H.kept⟩
theorem Q9{h:Heap}(M:Per p h){n:Int}:Aa prog md 226 #[.J n] h fun v O=>v=.bool false/\Af h O:=by
 refine xex M func226 fun _ _ _ K=>?_;refine aw ?_;exact K.r rfl rfl fun _ H=>⟨congrArg _ (decide_eq_false fun z=>z rfl),H.kept⟩
theorem Pb{h:Heap}(hp:Per p h)(x y:Int):Aa prog md 162 #[.J x,.J y] h fun v h'=>v=.J (Gj x y)/\Af h h':=by
 refine xex hp func162 fun _ _ _ K=>?_;refine aw ?_;refine xiq rfl rfl (fun _ pe=>Q9 pe) ?_;refine aw ?_;refine xiq rfl rfl (fun _ pe=>Q9 pe) ?_;refine aw ?_;refine xlq rfl (fun M=>absurd M (fun z=>z)) (fun M=>?_);refine aw ?_;refine xlq rfl (fun M=>absurd M (fun z=>z)) (fun M=>?_);refine aw ?_;refine xlq rfl (fun O=>?_) (fun O=>?_)
 ·refine aw ?_;exact K.r rfl rfl fun _ H=>⟨by rw[Gj,if_pos O];rfl,H.kept⟩
 refine aw ?_;refine xlq rfl (fun V=>?_) (fun V=>?_)
 ·refine aw ?_;exact K.r rfl rfl fun _ H=>⟨by rw[Gj,if_neg O,if_pos V];rfl,H.kept⟩
 refine aw ?_;exact K.r rfl rfl fun _ H=>⟨by rw[Gj,if_neg O,if_neg V];rfl,H.kept⟩
theorem Qa{h:Heap}(hp:Per p h){a:Option Addr}{n c:Nat}(xs:List Int)(S:As p a n xs)(hn:n<=2^40):Aa prog md 161 #[.slice a n c] h fun v h'=>v=.J (orI xs)/\Af h h':=by
 have hl:=S.len;refine xex hp func161 fun _ _ _ K=>?_;refine aw ?_;refine xsq (fun m l=>∃j:Nat,m=n-j/\l=[(3,none,.J 0),(6,none,.slice a n c),(7,none,.J n),(8,none,.J j)]/\j<=n/\ ∀i,i<j->xs.getD i 0=0) ⟨0,rfl,rfl,Nat.zero_le _,om⟩ sb ?_;rintro _ _ IH ⟨j,rfl,rfl,hj,O⟩;refine aw ?_;refine xlq rfl (fun V=>?_) (fun V=>?_)
 ·refine aw ?_;refine xlq rfl (fun M=>?_) (fun M=>?_)
  ·refine aw ?_;exact K.r rfl rfl fun _ H=>⟨by rw[yad (k:=j) om O M];rfl,H.kept⟩
  ·refine aw ?_;exact xhq (IH _ om ⟨j+1,rfl,rfl,om,C3 O (Classical.not_not.1 M)⟩)
 refine aw ?_;exact K.r rfl rfl fun _ H=>⟨by rw[yyq fun i hi=>O i om];rfl,H.kept⟩
theorem c77{h:Heap}(hp:Per p h){a b c d:Int}:Aa prog md 77 #[.agg #[.J a,.J b],.agg #[.J c,.J d]] h fun v V=>v=.J (Pa a b c d)/\Af h V:=by
 refine xex hp func77 fun _ _ _ K=>?_;refine aw ?_;refine xgq rfl fun b1=>?_;refine xgq rfl fun b2=>?_;refine aw ?_;refine xqq [] R9 ?_;refine ae ?_;refine xvz rfl rfl rfl (fun _ H=>Pb H _ _) ?_;refine ae ?_;refine xiq rfl rfl (fun _ H=>Pb H _ _) ?_;refine xbz rfl fun v Y o=>?_;have o:Ac 3 1 v [[.J (Gj a c)],[.J (Gj b d)]] Y:=o;refine xpx o (m:=2) rfl d_ fun p' b3 c3 g e3 O F=>?_;subst e3;refine xiq rfl rfl (fun _ H=>Qa H [Gj a c,Gj b d] F d_) ?_;refine aw ?_;exact K.r rfl rfl fun _ M=>⟨rfl,M.kept⟩
theorem c75{h:Heap}(hp:Per p h){a1 a2 a3:Option Addr}(H n2 O c1 c2 c3:Nat)(hn:H<=2^40)(x:Int):
 Aa prog md 75 #[.agg #[.slice a1 H c1,.slice a2 n2 c2,.slice a3 O c3],.J x] h fun v V=>v=.bool (decide (0<=x/\x<=(H:Int)-1))/\Af h V:=by
 refine xex hp func75 fun _ _ _ K=>?_;refine aw ?_;refine xgq rfl fun b1=>?_;refine aw ?_;refine xiq rfl rfl (fun _ pe=>c73 pe) ?_;refine aw ?_;exact K.r rfl rfl fun _ M=>⟨rfl,M.kept⟩
theorem c76{h:Heap}(hp:Per p h){a1 a2 a3:Option Addr}(V H O c1 c2 c3:Nat)(hn:H<=2^40)(x:Int):
 Aa prog md 76 #[.agg #[.slice a1 V c1,.slice a2 H c2,.slice a3 O c3],.J x] h fun v h'=>v=.bool (decide (0<=x/\x<=(H:Int)-1))/\Af h h':=by
 refine xex hp func76 fun _ _ _ K=>?_;refine aw ?_;refine xgq rfl fun b1=>?_;refine aw ?_;refine xiq rfl rfl (fun _ pe=>c73 pe) ?_;refine aw ?_;exact K.r rfl rfl fun _ M=>⟨rfl,M.kept⟩
theorem xa8{t:Tn}{j:Nat}:((¬ (0<=(t.wy.getD j wz).1/\(t.wy.getD j wz).1<=(t.nH:Int)-1)\/ ¬ (0<=(t.wy.getD j wz).2/\(t.wy.getD j wz).2<=(t.nW:Int)-1))\/(0<(j:Int)/\0<=Pa (t.wy.getD ((j:Int)-1).toNat wz).1 (t.wy.getD ((j:Int)-1).toNat wz).2 (t.wy.getD j wz).1 (t.wy.getD j wz).2))<-> ¬ YOk t j:=by
 unfold YOk;rw[yxv];constructor
 ·rintro((z|z)|⟨z1,z2⟩) ⟨y1,y2,y3⟩
  ·exact z y1
  ·exact z y2
  ·exact z2 (y3 om)
 ·intro z;refine Classical.byContradiction fun n=>z ?_;have H:=not_or.1 n;have M:=not_or.1 H.1;exact⟨Classical.not_not.1 M.1,Classical.not_not.1 M.2,fun O=>Classical.not_not.1 fun b=>H.2 ⟨om,b⟩⟩
theorem c40{h:Heap}(hp:Per p h){a1 a2 a3:Option Addr}{c1 c2 c3:Nat}(t:Tn)(T:Ao p a1 t.nH a2 t.nW a3 t.m t)(hn:t.nH<=2^30/\t.nW<=2^30/\t.m<=2^30):
 Aa prog md 40 #[.agg #[.slice a1 t.nH c1,.slice a2 t.nW c2,.slice a3 t.m c3]] h fun v h'=>v=.J (D5 t)/\Af h h':=by
 have Th:=T.h;have Tw:=T.w;refine xex hp func40 fun _ _ _ K=>?_;refine aw ?_;refine xgq rfl fun b1=>?_;refine aw ?_;refine xlq rfl (fun cc=>?_) (fun cc=>?_)
 ·refine aw ?_;exact K.r rfl rfl fun _ M=>⟨by rw[Fj fun z=>by have:=z.1;have:=z.2.nh;have:=z.2.nw;omega];rfl,M.kept⟩
 refine aw ?_;refine xiq rfl rfl (fun _ H=>c71 H T.h om (Nd 9) fun _ H _ _=>xkq k_ (c72 H)) ?_;refine aw ?_;refine xfx rfl rfl rfl sdt (fun _ _ H=>c71 H T.w om (Nd 20) fun _ H _ _=>xkq k_ (c74 H)) ?_;refine aw ?_;refine xlq rfl (fun O=>?_) (fun O=>?_)
 ·refine aw ?_;exact K.r rfl rfl fun _ M=>⟨by rw[Fj fun z=>O.elim (fun y=>yak y z.2.h) (fun y=>yak y z.2.w)];rfl,M.kept⟩
 refine aw ?_;refine xmq (fun m l p_ L_=>∃(j:Nat)(A:List Pcs),m=t.m-j/\l=[(1,none,w_ b1 0),(30,none,.slice a3 t.m c3),(31,none,.J t.m),(32,none,.J j)]/\p_=p/\L_=[[(b1,.cells #[.slice a1 t.nH c1,.slice a2 t.nW c2,.slice a3 t.m c3] 28 (0,0))]]/\j<=t.m/\ ∀i,i<j->YOk t i) ⟨0,[],rfl,rfl,rfl,rfl,Nat.zero_le _,om⟩ sb ?_;rintro _ _ _ _ IH ⟨j,A,rfl,rfl,rfl,rfl,hj,h1⟩;refine aw ?_;refine xlq rfl (fun ce=>?_) (fun ce=>?_)
 ·refine aw ?_;refine xo6 rfl rfl om (T.y.ne om) ?_;refine xfk rfl (T.y.all om) ?_;refine xyq fun b2=>?_;refine aw ?_;refine xqq [] R23 ?_;refine ae ?_;refine xvz rfl rfl rfl (fun _ H=>c75 H _ _ _ _ _ _ om _) ?_;refine ae ?_;refine xbv rfl rfl rfl rfl sdt (fun _ _ H=>c76 H _ _ _ _ _ _ om _) ?_;refine ae ?_;refine xtk rfl rfl rfl rfl sdt sdt (gd2 fun _ hq=>⟨om,T.y.ne om⟩) ?_;refine xkw rfl rfl rfl sdt (gd2 fun _ hq=>T.y.all om) ?_;refine ae ?_;refine xfx rfl rfl rfl sdt (fun _ _ H=>c77 H) ?_;refine aw ?_;refine xlq rfl (fun V=>?_) (fun V=>?_)
  ·refine aw ?_;exact K.r rfl rfl fun _ M=>⟨by rw[Fj fun z=>xa8.1 V (z.2.y j om)];rfl,M.kept⟩
  refine aw ?_;exact xhq (IH _ _ _ om ⟨j+1,[],rfl,rfl,rfl,rfl,om,C3 h1 (Classical.not_not.1 fun z=>V (xa8.2 z))⟩)
 refine aw ?_;have e1:t.hs.length=t.nH:=rfl;have e2:t.ws.length=t.nW:=rfl;exact K.r rfl rfl fun _ M=>⟨by rw[Cj om ⟨om,om,fun i hi=>xz5 (fun z=>O (.inl z)) i hi,fun i hi=>xz5 (fun z=>O (.inr z)) i hi,fun i hi=>h1 i om⟩];rfl,M.kept⟩
theorem Qz{h:Heap}(hp:Per p h){a1 a2 a3:Option Addr}{c1 c2 c3:Nat}(t:Tn)(T:Ao p a1 t.nH a2 t.nW a3 t.m t)(hn:t.nH<=2^30/\t.nW<=2^30/\t.m<=2^30)(b:Bool):
 Aa prog md 179 #[.agg #[.slice a1 t.nH c1,.slice a2 t.nW c2,.slice a3 t.m c3],.bool b] h fun v V=>v=.J (K0 t b)/\Af h V:=by
 refine xex hp func179 fun _ _ _ K=>?_;refine aw ?_;refine xgq rfl fun b1=>?_;refine aw ?_;refine xiq rfl rfl (fun _ pe=>c40 pe t T hn) ?_;refine aw ?_;refine xlq rfl (fun H=>?_) (fun H=>?_)
 ·refine aw ?_;have e:D5 t=30:=by rcases xcg t with z|z;exact absurd z.1 H;exact z.1
  exact K.r rfl rfl fun _ M=>⟨by rw[K0,if_neg H,e];rfl,M.kept⟩
 have H:=Classical.not_not.1 H;refine aw ?_;refine xlq rfl (fun O=>?_) (fun O=>?_)
 ·refine aw ?_;exact K.r rfl rfl fun _ M=>⟨by rw[K0,if_pos H,if_neg O];rfl,M.kept⟩
 refine aw ?_;exact K.r rfl rfl fun _ M=>⟨by rw[K0,if_pos H,if_pos (Classical.not_not.1 O)];rfl,M.kept⟩
theorem xdv(xs:List Int):∀u∈(ics xs).flatten,A7 u=true:=xyv xs
theorem c52{h:Heap}(hp:Per p h){a:Option Addr}{n c:Nat}{xs:List Int}(S:As p a n xs)(hn:n<=2^20):
 Aa prog md 52 #[.slice a n c] h fun v O=>∃Y,Ac 3 1 v (ics xs) Y/\New h O Y:=by
 have hl:=S.len;refine xex hp func52 fun _ _ _ K=>?_;refine aw ?_;refine xvs rfl ?_;refine aw ?_;refine xlq rfl (fun M=>?_) (fun M=>?_)
 ·refine aw ?_;have e:xs=[]:=by
   by_cases V:0<n
   ·rw[S.ne V]at M;cases M
   ·exact List.eq_nil_of_length_eq_zero om
  subst e;refine xzj 3 1 fun o=>?_;exact K.r rfl rfl fun _ H=>⟨_,o,D6 H⟩
 refine aw ?_;refine xbz rfl fun v Y o=>?_;refine aw ?_;refine xow rfl rfl o S (xdv xs) (by simp[chs];omega) (fun v' Y' o'=>?_);refine aw ?_;exact K.r rfl rfl fun _ H=>⟨_,o',D6 H⟩
theorem Sv{h:Heap}(hp:Per p h){a:Option Addr}{n c:Nat}(xs:List Int)(S:As p a n xs)(hn:n<=100)(hx:∀i,i<n->0<=xs.getD i 0/\xs.getD i 0<=1000):
 Aa prog md 174 #[.slice a n c] h fun v O=>v=.J (sm n (dv xs))/\Af h O:=by
 refine xex hp func174 fun _ _ _ K=>?_;refine aw ?_;refine xsq (fun m l=>∃j:Nat,m=n-j/\l=[(3,none,.J (sm j (dv xs))),(6,none,.slice a n c),(7,none,.J n),(8,none,.J j)]/\j<=n/\0<=sm j (dv xs)/\sm j (dv xs)<=1000*j) ⟨0,rfl,rfl,Nat.zero_le _,by simp[sm],by simp[sm]⟩ sb ?_;rintro _ _ IH ⟨j,rfl,rfl,hj,V,h1⟩;refine aw ?_;refine xlq rfl (fun M=>?_) (fun M=>?_)
 ·have a4:=hx j om;refine aw ?_;exact xhq (IH _ om ⟨j+1,rfl,rfl,om,by rw[sm];unfold dv;unfold dv at V;omega,by rw[sm];unfold dv;unfold dv at h1;omega⟩)
 obtain rfl:j=n:=om;refine aw ?_;exact K.r rfl rfl fun _ H=>⟨rfl,H.kept⟩
theorem ypx{vs:List Int}{g:Nat->Nat}{d:List Int}{j:Nat}{z:Int}(H:z.toNat=g j)(M:g j<vs.length){x:Int}(O:x=(Di vs g d j).getD (g j) 0-dv d j):(ics (Di vs g d j)).set z.toNat (B6 [.J ((Di vs g d j).getD (g j) 0)] 0 [.J x])=ics (Di vs g d (j+1)):=by
 subst O;rw[H,<- xa7 M];exact Ce
theorem Vs{h:Heap}(hp:Per p h){a1 a2 a3:Option Addr}(c1 c2 c3:Nat)(t:Tn)(T:Ao p a1 t.nH a2 t.nW a3 t.m t){b:Option Addr}(m cb:Nat)(d:List Int)(D:As p b m d)(hn:t.nH<=40/\t.nW<=40)(hm:m<=t.m/\t.m<=13)(hd:∀i,i<m->0<=dv d i/\dv d i<=20)(hh:∀i,i<t.nH-> -100<=t.hs.getD i 0/\t.hs.getD i 0<=100)
 (hw:∀i,i<t.nW-> -100<=t.ws.getD i 0/\t.ws.getD i 0<=100)(hy:∀i,i<t.m->(0<=(t.wy.getD i wz).1/\(t.wy.getD i wz).1.toNat<t.nH)/\0<=(t.wy.getD i wz).2/\(t.wy.getD i wz).2.toNat<t.nW):
 Aa prog md 181 #[.agg #[.slice a1 t.nH c1,.slice a2 t.nW c2,.slice a3 t.m c3],.slice b m cb] h fun v h'=>∃Y,(∃w1 w2 V O,v=.tuple #[w1,w2]/\Ac 3 1 w1 (ics (Di t.hs t.wh d m)) V/\Ac 3 1 w2 (ics (Di t.ws t.ww d m)) O/\Y=V++O)/\New h h' Y:=by
 have a9:t.hs.length=t.nH:=rfl;have b0:t.ws.length=t.nW:=rfl;refine xex hp func181 fun _ _ _ K=>?_;refine aw ?_;refine xgq rfl fun b1=>?_;refine aw ?_;refine xqq [2] [0,1,3,4,2] ?_;refine ae ?_;refine xuk rfl rfl rfl (fun _ pe=>c52 pe T.h om) fun v1 V H=>?_;refine ae ?_;refine xdj rfl rfl (fun _ pe=>c52 pe T.w om) fun v2 O M=>?_;refine aw ?_
 refine xmq (fun m_ l p_ L_=>∃(j:Nat)(Z1 Z2:Pcs),m_=m-j/\l=[(2,none,w_ b1 0),(4,none,v1),(5,none,v2),(14,none,.slice b m cb),(15,none,.J m),(16,none,.J j)]/\p_=p/\L_=[Z2,[(b1,.cells #[.slice a1 t.nH c1,.slice a2 t.nW c2,.slice a3 t.m c3] 28 (0,0))],Z1]/\j<=m/\
  Ac 3 1 v1 (ics (Di t.hs t.wh d j)) Z1/\Ac 3 1 v2 (ics (Di t.ws t.ww d j)) Z2) ⟨0,V,O,rfl,rfl,rfl,rfl,Nat.zero_le _,by rw[xvn];exact H,by rw[xvn];exact M⟩ sb ?_
 rintro _ _ _ _ IH ⟨j,Z1,Z2,rfl,rfl,rfl,rfl,hj,H,M⟩;refine aw ?_;refine xlq rfl (fun cc=>?_) (fun cc=>?_)
 ·have b8:=hy j om;have b6:=hd j om;have e1:(t.wy.getD j wz).1.toNat=t.wh j:=rfl;have e2:(t.wy.getD j wz).2.toNat=t.ww j:=rfl;have b4:=xvl (g:=t.wh) (d:=d) (k:=j) (h:=t.wh j) (fun i hi=>hd i om);have b5:=xvl (g:=t.ww) (d:=d) (k:=j) (h:=t.ww j) (fun i hi=>hd i om);have g1:=xiv (vs:=t.hs) (g:=t.wh) (d:=d) (k:=j) (h:=t.wh j) om;have g2:=xiv (vs:=t.ws) (g:=t.ww) (d:=d) (k:=j) (h:=t.ww j) om;have b3:=hh (t.wh j) om;have b7:=hw (t.ww j) om;have i1:(ics (Di t.hs t.wh d j))[(t.wy.getD j wz).1.toNat]?=some [.J ((Di t.hs t.wh d j).getD (t.wh j) 0)]:=Cg (by rw[xyx];omega);have i2:(ics (Di t.ws t.ww d j))[(t.wy.getD j wz).2.toNat]?=some [.J ((Di t.ws t.ww d j).getD (t.ww j) 0)]:=Cg (by rw[xyx];omega);have a8:dv d j=d.getD j 0:=rfl;refine aw ?_;refine xo6 rfl rfl om (T.y.ne om) ?_;refine aw ?_;refine xoz rfl (T.y.at om (j:=0) rfl) ?_;refine xcv rfl rfl H om (by rw[Ae,xyx];omega) ?_;refine xog rfl H xrx i1 rfl ?_;refine aw ?_;refine xcv rfl rfl H om (by rw[Ae,xyx];omega) ?_;refine xek (j:=0) rfl rfl H xrx rfl rfl rfl i1 (Nat.le_refl _) fun a4 a6=>?_;refine aw ?_;refine xo6 rfl rfl om (T.y.ne om) ?_;refine aw ?_;refine xoz rfl (T.y.at om (j:=1) rfl) ?_;refine xcv rfl rfl M om (by rw[Ae,xyx];omega) ?_;refine xog rfl M xrx i2 rfl ?_;refine aw ?_;refine xcv rfl rfl M om (by rw[Ae,xyx];omega) ?_;refine xek (j:=0) rfl rfl M xrx rfl rfl rfl i2 (Nat.le_refl _) fun a5 a7=>?_;refine aw ?_;exact xhq (IH _ _ _ om ⟨j+1,a4,a5,rfl,rfl,rfl,rfl,om,a6.as (ypx e1 om rfl),a7.as (ypx e2 om rfl)⟩)
 obtain rfl:j=m:=om;refine aw ?_;exact K.r rfl rfl fun _ H_=>⟨_,⟨_,_,_,_,rfl,H,M,rfl⟩,ygp H_⟩
theorem Sc{h:Heap}(M:Per p h)(x y:Int):Aa prog md 277 #[.J x,.J y] h fun v O=>v=.J (Gj y x)/\Af h O:=by
 refine xex M func277 fun _ _ _ K=>?_;refine aw ?_;refine xiq rfl rfl (fun _ V=>Pb V _ _) ?_;refine aw ?_;exact K.r rfl rfl fun _ H=>⟨rfl,H.kept⟩
theorem Us{h z9:Heap}{zz:List Nat}(w:Value)(xs:List Int){q7 zx:Pcs}(V:Ac 3 1 w (ics xs) q7)(n:Nat)(hn:n=xs.length/\n<=12)(fv:Value)(hf:∀h,Per p h-> ∀x y,Az prog md fv [.J x,.J y] h fun v h'=>v=.J (Gj y x)/\Af h h')
 (a4:St z9 zz p h (q7++zx)):Aa prog md 338 #[w,.J 0,.J (n:Nat),fv] h fun _ h'=>∃X',Ac 3 1 w (ics (srt xs)) X'/\St z9 zz p h' (X'++zx):=by
 refine xkj a4 func338 fun _ _ _ K=>?_;refine aw ?_;refine xmq (fun m_ l p_ L_=>∃(i:Nat)(O:List Int)(Z:Pcs),m_=n-i/\l=[(0,none,w),(1,none,.J 0),(2,none,.J n),(3,none,fv),(8,none,.J (i:Nat))]/\p_=p/\L_=[Z,zx]/\1<=i/\Ac 3 1 w (ics O) Z/\O.Perm xs/\Ku O i) ⟨1,xs,q7,rfl,rfl,rfl,rfl,Nat.le_refl _,V,.refl _,fun p q a b=>absurd a om⟩ sb ?_;rintro _ _ p _ IH ⟨i,O,Z,rfl,rfl,rfl,rfl,hi,o,hp,hs⟩;have a7:O.length=n:=hp.length_eq.trans hn.1.symm;refine aw ?_;refine xlq rfl (fun cc=>?_) (fun cc=>?_)
 ·refine aw ?_;refine xmq (fun m_ l p_ L_=>∃(j:Nat)(zs:List Int)(Z:Pcs),m_=j+1/\l=[(0,none,w),(1,none,.J 0),(2,none,.J n),(3,none,fv),(8,none,.J (i:Nat)),(9,none,.J (j:Nat))]/\p_=p/\L_=[Z,zx]/\j<=i/\Ac 3 1 w (ics zs) Z/\zs.Perm xs/\Float zs i j) ⟨i,O,Z,rfl,rfl,rfl,rfl,Nat.le_refl _,o,hp,xv1 hs⟩ sb ?_;rintro _ _ p _ a6 ⟨j,zs,Z2,rfl,rfl,rfl,rfl,hj,M,hq,a5⟩;have a8:zs.length=n:=hq.length_eq.trans hn.1.symm;have e1:(ics zs)[((j:Int)-1).toNat]?=some [.J (zs.getD ((j:Int)-1).toNat 0)]:=Cg om;have e0:(ics zs)[j]?=some [.J (zs.getD j 0)]:=Cg om;refine aw ?_;refine xqq [] R14 ?_;refine ae ?_;refine xlk rfl rfl rfl rfl sdt sdt M (by rw[Ae];omega) ?_;refine xev rfl rfl rfl sdt M xrx (Cg om) rfl ?_;refine ae ?_;refine xof rfl rfl rfl rfl sdt sdt M (gd2 fun _ hq=>by rw[Ae];omega) ?_;refine xev rfl rfl rfl sdt M xrx e1 rfl ?_;refine ae ?_;refine xv9 rfl rfl sdt rfl sdt (xtx fun _ pe=>hf _ pe _ _) ?_;refine aw ?_;refine xlq rfl (fun cd=>?_) (fun cd=>?_)
  ·obtain⟨H,rfl⟩:∃H,j=H+1:=⟨j-1,om⟩
   rw[show(((H+1:Nat):Int)-1).toNat=H by omega]at*;refine aw ?_;refine xw3 [15] R16 Z2 ?_;refine ae ?_;refine xof rfl rfl rfl rfl sdt sdt M (xtx (by rw[Ae];omega)) ?_;rw[show(((H+1:Nat):Int)-1).toNat=H by omega];refine xd2 rfl rfl rfl sdt M xrx e1 rfl ?_;refine ae ?_;refine xlk rfl rfl rfl rfl sdt sdt M (by rw[Ae];omega) ?_;refine xd2 rfl rfl rfl sdt M xrx e0 rfl ?_;refine xlk rfl rfl rfl rfl sdt sdt M (by rw[Ae];omega) ?_;refine yod (j:=0) rfl rfl rfl M xrx rfl rfl rfl e0 (Nat.le_refl _) fun Z3 o3=>?_;refine ae ?_;refine xcv rfl rfl o3 om (by rw[List.length_set,Ae];omega) ?_;rw[show(((H+1:Nat):Int)-1).toNat=H by omega];refine xek (j:=0) (e:=[.J (zs.getD H 0)]) rfl rfl o3 xrx rfl rfl rfl (by rw[List.getElem?_set_ne om];exact e1) (Nat.le_refl _) fun Z4 o4=>?_;refine aw ?_;rw[show((H+1:Nat):Int)-1=(H:Nat) by omega];exact xhq (a6 _ _ _ om ⟨H,swp zs (H+1),Z4,rfl,rfl,rfl,rfl,om,o4.as (yff rfl),(xy2 om om).trans hq,xf7 a5 om om om (ypj.1 cd.2)⟩)
  ·refine aw ?_;exact xhq (IH _ _ _ om ⟨i+1,zs,Z2,rfl,rfl,rfl,rfl,om,M,hq,ydz a5 om (by
    by_cases h0:j=0
    ·exact .inl h0
    ·right;have:=fun z=>cd ⟨om,z⟩;rw[show((j:Int)-1).toNat=j-1 by omega]at this;have:=mt ypj.2 this;omega)⟩)
 have e:O=srt xs:=yuk hs om hp;subst e;refine aw ?_;exact xrb func338 rfl fun _ H_=>K _ _ ⟨_,o,xfg H_⟩
theorem c326{h z9:Heap}{zz:List Nat}(w:Value)(xs:List Int){q7 zx:Pcs}(H:Ac 3 1 w (ics xs) q7)(n:Nat)(hn:n=xs.length/\n<=12)(k:Int)(O:Value)(hf:∀h,Per p h-> ∀x y,Az prog md O [.J x,.J y] h fun v V=>v=.J (Gj y x)/\Af h V)
 (M:St z9 zz p h (q7++zx)):Aa prog md 326 #[w,.J 0,.J (n:Nat),.J k,O] h fun _ V=>∃X',Ac 3 1 w (ics (srt xs)) X'/\St z9 zz p V (X'++zx):=by
 refine xkj M func326 fun _ _ _ K=>?_;refine aw ?_;refine xsq (fun m l=>m=0/\l=[(0,none,w),(1,none,.J 0),(2,none,.J n),(3,none,.J k),(4,none,O),(10,none,.bool true),(11,none,.bool true)]) ⟨rfl,rfl⟩ sb ?_;rintro _ _ IH ⟨rfl,rfl⟩;refine aw ?_;refine xlq rfl (fun cc=>?_) (fun cc=>absurd om cc);refine aw ?_;refine xjl q7 rfl rfl (fun h C s=>Us w xs H n hn O hf s) fun v Y' o'=>?_;refine aw ?_;refine xxq func326 rfl rfl fun _ H_=>K _ _ ⟨_,o',xfg H_⟩
theorem c316{h:Heap}(O:Per p h)(n:Nat)(hn:n<=12):Aa prog md 316 #[.int .u64 (n:Nat)] h fun v V=>∃Y,((∃k:Int,v=.J k)/\Y=[])/\New h V Y:=by
 refine xex O func316 fun _ _ _ K=>?_;refine aw ?_;refine xlq rfl (fun H=>absurd H om) (fun H=>?_);refine aw ?_;refine xlq rfl (fun H=>absurd H om) (fun H=>?_);refine aw ?_;refine xlq rfl (fun H=>absurd H om) (fun H=>?_);refine aw ?_;refine xnk (k':=.u8) ⟨_,underlying273⟩ k_ rfl (wr8 om) ?_;refine xmk rfl rfl rfl sdt sdt (xtx ⟨om,by simp;omega⟩) ?_;refine xnk (k':=.i64) ⟨_,underlying5⟩ underlying3 rfl (wrB) ?_;refine xrv rfl rfl ⟨by rw[Int.zero_add];exact wrB,trivial⟩ ?_;refine aw ?_;exact K.r rfl rfl fun _ M=>⟨[],⟨⟨_,rfl⟩,rfl⟩,(M.sub (List.nil_sublist _)).new⟩
theorem Sa{h:Heap}(O:Per p h)(n:Nat)(hn:n<=12):Aa prog md 327 #[.int .u64 (n:Nat)] h fun v V=>∃Y,((∃k:Int,v=.J k)/\Y=[])/\New h V Y:=by
 refine xex O func327 fun _ _ _ K=>?_;refine aw ?_;refine xlq rfl (fun H=>absurd H (fun z=>z)) (fun H=>?_);refine aw ?_;refine xdj rfl rfl (fun _ pe=>c316 pe n hn) ?_;rintro _ _ ⟨⟨k,rfl⟩,rfl⟩;refine aw ?_;exact K.r rfl rfl fun _ M=>⟨[],⟨⟨_,rfl⟩,rfl⟩,(M.sub (List.nil_sublist _)).new⟩
theorem Ti{h z9:Heap}{zz:List Nat}(w:Value)(xs:List Int){q7 zx:Pcs}(H:Ac 3 1 w (ics xs) q7)(hn:xs.length<=12){V:Value}(hf:∀h,Per p h-> ∀x y,Az prog md V [.J x,.J y] h fun v O=>v=.J (Gj y x)/\Af h O)
 (M:St z9 zz p h (q7++zx)):Aa prog md 276 #[w,V] h fun _ O=>∃X',Ac 3 1 w (ics (srt xs)) X'/\St z9 zz p O (X'++zx):=by
 refine xkj M func276 fun _ _ _ K=>?_;refine aw ?_;refine xfl rfl rfl sdt H (Ae xs) ?_;refine aw ?_;refine xnk (k':=.u64) ⟨_,underlying3⟩ k_ rfl (N9 om) ?_;refine xdj rfl rfl (fun _ pe=>Sa pe xs.length hn) ?_;rintro _ _ ⟨⟨k,rfl⟩,rfl⟩;refine aw ?_;refine xjl q7 rfl rfl (fun h C s=>c326 w xs H xs.length ⟨rfl,hn⟩ k V hf s) fun v Y' o'=>?_;refine aw ?_;exact xrb func276 rfl fun _ H_=>K _ _ ⟨_,o',xfg H_⟩
theorem Rt{h z9:Heap}{zz:List Nat}(w:Value){xs:List Int}{O zx:Pcs}(H:Ac 3 1 w (ics xs) O)(hn:xs.length<=12)
 (M:St z9 zz p h (O++zx)):Aa prog md 236 #[w] h fun v h'=>∃V,(v=w/\Ac 3 1 w (ics (srt xs)) V)/\St z9 zz p h' (V++zx):=by
 refine xkj M func236 fun _ _ _ K=>?_;refine aw ?_;refine xjl O rfl rfl (fun h C s=>Ti w xs H hn (fun _ pe x y=>xkq k_ (Sc pe x y)) s) fun v Y' o'=>?_;refine aw ?_;exact xxq func236 rfl rfl fun _ H_=>K _ _ ⟨_,⟨rfl,o'⟩,xfg H_⟩
end
abbrev R62:List Nat:=[0,1,2,3,4,5,6,7,8,9,10,11,12,13,14,15,16,17,18,19,20,21,22,23,24,25,26,27,28,29,30,31,32,33,34,35,36,37,38,39,40,41,42,43,44,45,46,47,48,49,50,51,52,53,54,55,56,57,58,59,60,61]
theorem wrN{n:Int}(h: -1000000<=n/\n<=1000000):IntKind.i64.wrap (0-n)= -n:=by rw[Int.zero_sub];exact wrZ om
theorem yqx{md:Md}{h:Heap}{p:Ab}(hp:Per p h){a1 a2 a3:Option Addr}(c1 c2 c3:Nat)(t:Tn)(T:Ao p a1 t.nH a2 t.nW a3 t.m t)(O:OkT t){b:Option Addr}(M:Nat)(d:List Int)(D:As p b t.m d)(Dv:Div t d):
 Aa prog md 181 #[.agg #[.slice a1 t.nH c1,.slice a2 t.nW c2,.slice a3 t.m c3],.slice b t.m M] h fun v h'=>∃Y,(∃w1 w2 V Y2,v=.tuple #[w1,w2]/\Ac 3 1 w1 (ics (Gl t d)) V/\Ac 3 1 w2 (ics (Nn t d)) Y2/\Y=V++Y2)/\New h h' Y:=by
 have o1:=O.nh;have o2:=O.nw;have o3:=O.nm
 refine Vs hp c1 c2 c3 t T t.m M d D ⟨om,om⟩ ⟨Nat.le_refl _,o3⟩ (fun i hi=>by have:=ywp O Dv hi;omega) (fun i hi=>?_) (fun i hi=>?_) (fun i hi=>?_)
 ·have:=O.h i hi;unfold Tn.hv at this;omega
 ·have:=O.w i hi;unfold Tn.wv at this;omega
 ·have H:=O.y i hi;have h2:=O.yp i hi;unfold Tn.wh Tn.ww at H;exact⟨⟨h2.1,H.1⟩,h2.2,H.2⟩
theorem O3{md:Md}{h:Heap}{p:Ab}(hp:Per p h)(q:Prop)[Decidable q]{v1 v2 v3 v4 v5 v7:Value}(s:Int)(O bt:Nat){V z2:Nat×Nat}{T1 T2:TypeId}(hB:p O=some (.cells #[w_ bt 0] T1 V))(hb:p bt=some (.cells #[v1,v2,v3,v4,v5,.J s,v7] T2 z2)):
 Aa prog md 324 #[.bool (decide q),w_ O 0] h fun v h'=>v=.J (if q then s else 0)/\Af h h':=by
 refine xdq hp func324 fun _ _ _ K=>?_;refine xlq rfl (fun M=>?_) (fun M=>?_)
 ·refine ax ?_;exact K.r rfl rfl fun _ H=>⟨by rw[if_pos M];rfl,H.kept⟩
 refine ax ?_;exact K.r rfl rfl fun _ H=>⟨by rw[if_neg M];rfl,H.kept⟩
theorem c325{md:Md}{h:Heap}{p:Ab}(hp:Per p h){z:Int}(x:Nat)(e:z=x)(hx:x<=10):Aa prog md 325 #[.J z] h fun v V=>v=.J (B5 x)/\Af h V:=by
 subst e;refine xdq hp func325 fun _ _ _ K=>?_;refine xsq (fun m l=>∃j:Nat,m=x-j/\l=[(3,none,.J (B5 j)),(4,none,.J (x:Nat)),(5,none,.J (j:Nat))]/\j<=x) ⟨0,rfl,rfl,Nat.zero_le _⟩ sb ?_;rintro _ _ O ⟨j,rfl,rfl,hj⟩;have hd:=xwr (x:=j) om;refine cq (fun M=>?_) (fun M=>?_)
 ·refine ax ?_;rw[show B5 j*7=B5 (j+1) by rw[xaw];omega];exact xhq (O _ om ⟨j+1,rfl,rfl,om⟩)
 obtain rfl:j=x:=om;refine ax ?_;exact K.r rfl rfl fun _ H=>⟨rfl,H.kept⟩
set_option maxHeartbeats 8000000 in
theorem Rn{md:Md}{h z9:Heap}{zz:List Nat}{p:Ab}{q7 zx:Pcs}{a1 a2 a3:Option Addr}(c1 c2 c3:Nat)(t:Tn)(T:Ao p a1 t.nH a2 t.nW a3 t.m t)(O:OkT t)(H:Wi){b:Option Addr}(cb:Nat)(d:List Int)(D:As p b t.m d)(Dv:Div t d)(S:Sg H)(bt:Nat)(T2:TypeId)(z2:Nat×Nat)
 (hb:p bt=some (.cells #[.slice a1 t.nH c1,.slice a2 t.nW c2,.slice a3 t.m c3,.J H.D9,.J H.Hx,.J H.sign,.slice b t.m cb] T2 z2))(yv:Value)(I:List Bf.Arc->Pcs->Prop)(b5:I [] q7)
 (hy:∀a9 x,a9++[x] <+: A0 t H d-> ∀p' h X C,PLe p p'->I a9 X->St z9 zz p' h (X++C)->Az prog md yv [Nf x] h fun v h'=>∃X',(v=.bool true/\I (a9++[x]) X')/\St z9 zz p' h' (X'++C))(b4:St z9 zz p h (q7++zx)):
 Aa prog md 275 #[w_ bt 0,yv] h fun _ h'=>∃X',I (A0 t H d) X'/\St z9 zz p h' (X'++zx):=by
 have oH:=O.nh;have oW:=O.nw;have oM:=O.nm;have sg:=S;refine xkj b4 func275 fun _ _ _ K=>?_;refine bq fun b1=>?_;refine xnw (b:=b1) fun p1 le hB=>?_;have T:=Ao.mono T le;have D:=D.mono le;have hb:=le _ _ hb;have a8:p1 b1=some (.cells #[w_ bt 0] _ (0,0)):=hB;refine ax ?_;refine xqq [8] R13 ?_;refine ex ?_;refine xuk rfl rfl rfl (fun _ V=>yqx V _ _ _ t T O _ d D Dv) ?_;rintro _ _ ⟨w1,w2,Y1,Y2,rfl,o1,o2,rfl⟩;refine ex ?_;refine xcc Y1 Y2 ?_;refine ax ?_;refine xfl rfl rfl sdt o2 (by rw[Ae,xoh]) ?_;refine ax ?_;refine xmq (fun m_ l p_ L_=>∃(k:Nat)(Z:Pcs),m_=t.nW-k/\l=[(1,none,yv),(2,none,w_ b1 0),(4,none,w1),(5,none,w2),(6,none,.J (t.nW:Nat)),(7,none,.J (t.nW+t.nH)),(8,none,.J (t.nW+t.nH+1)),(9,none,.func (.func 324) #[] #[w_ b1 0]),(45,none,w2),(46,none,.J (t.nW:Nat)),(47,none,.J (k:Nat))]/\p_=p1/\L_=[Y1,Y2,Z,zx]/\k<=t.nW/\I (Fh t H d k) Z) ⟨0,q7,rfl,rfl,rfl,rfl,Nat.zero_le _,b5⟩ sb ?_;rintro _ _ p1 _ IH ⟨k,Z,rfl,rfl,rfl,rfl,hk,hI⟩;refine cq (fun cc=>?_) (fun cc=>?_)
 ·have b6:=yop O Dv (x:=k) om;have b8:=S.bw k;have Tw:=T.w;refine ax ?_;refine xzk rfl rfl o2 (by rw[Ae,xoh];omega) ?_;refine xog rfl o2 xrx (yyx om) rfl ?_;refine ax ?_;refine xv9 rfl rfl sdu rfl sdu (xtx fun _ V=>(xkq k_ (O3 V ((k:Int)=H.Hx) H.sign b1 bt a8 hb)).mono fun v h' e=>⟨e.1.trans (show _=Value.J (bw H k) from rfl),e.2⟩) ?_;refine xrv rfl rfl (gd2 fun h _=>⟨h,wrN om,trivial⟩) ?_;refine ax ?_;refine xtp Z rfl rfl sdu rfl sdu (v:=.bool true) (Q:=fun Z'=>I (Fh t H d k++[⟨t.sp,k,-bw H k,-1,0⟩]) Z') (fun c1 h C s=>?_) (fun Z1 b0 b3=>?_)
  ·have e:=xgg (a:=(t.nW:Int)+t.nH) (b:=k) (c:=-bw H k) (w:=-1) (m:=0) (x:=⟨t.sp,k,-bw H k,-1,0⟩) rfl rfl rfl rfl rfl;have y:=hy _ _ (yzn om (of_decide_eq_true c1)) _ _ _ _ le hI s;rw[<- e]at y;exact y
  obtain⟨u1,a4,M⟩:∃u1,(u1=if 0<has t d k then Fh t H d k++[⟨t.sp,k,-bw H k,-1,0⟩]else Fh t H d k)/\I u1 Z1:=by
   by_cases c1:0<has t d k
   ·exact⟨_,rfl,by rw[if_pos c1];exact b0 (decide_eq_true c1)⟩
   ·exact⟨_,rfl,by rw[if_neg c1,b3 (decide_eq_false c1)];exact hI⟩
  refine ax ?_;refine xv9 rfl rfl sdu rfl sdu (xtx fun _ V=>(xkq k_ (O3 V ((k:Int)=H.Hx) H.sign b1 bt a8 hb)).mono fun v h' e=>⟨e.1.trans (show _=Value.J (bw H k) from rfl),e.2⟩) ?_;refine ax ?_;refine xtp Z1 rfl rfl sdu rfl sdu (v:=.bool true) (Q:=fun Z'=>I (u1++[⟨k,t.sp,bw H k,-1,0⟩]) Z') (fun c2 h C s=>?_) (fun Z2 a6 a5=>?_)
  ·have e:=xgg (a:=k) (b:=(t.nW:Int)+t.nH) (c:=bw H k) (w:=-1) (m:=0) (x:=⟨k,t.sp,bw H k,-1,0⟩) rfl rfl rfl rfl rfl;have c2:has t d k<t.wv k:=of_decide_eq_true (P7 c2);have y:=hy u1 ⟨k,t.sp,bw H k,-1,0⟩ (by
    subst a4;split
    ·rename_i c1;exact yyn om c1 c2
    ·rename_i c1;exact yxn om c1 c2) _ _ _ _ le M s
   rw[<- e]at y;exact y
  have a7:I (Fh t H d (k+1)) Z2:=by
   by_cases c2:has t d k<t.wv k
   ·have y:=a6 (by show(!(decide (0<has t d k)&&!true)&&decide (has t d k<t.wv k))=true;rw[decide_eq_true c2];simp);subst a4;by_cases c1:0<has t d k
    ·rw[if_pos c1,V1 c1 c2]at y;exact y
    ·rw[if_neg c1,Rz c1 c2]at y;exact y
   ·rw[a5 (by show(!(decide (0<has t d k)&&!true)&&decide (has t d k<t.wv k))=false;rw[decide_eq_false c2];simp)];subst a4;by_cases c1:0<has t d k
    ·rw[if_pos c1,Ud c1 c2]at M;exact M
    ·rw[if_neg c1,R1 c1 c2]at M;exact M
  refine ax ?_;refine xlq rfl (fun cd=>absurd cd s_) (fun cd=>?_);refine ax ?_;exact xhq (IH _ _ _ om ⟨k+1,Z2,rfl,rfl,rfl,rfl,om,a7⟩)
 obtain rfl:k=t.nW:=om;refine ax ?_;refine xfl rfl rfl sdt o1 (by rw[Ae,xtb]) ?_;refine ax ?_;refine xmq (fun m_ l p_ L_=>∃(k:Nat)(Z:Pcs),m_=t.nH-k/\l=[(1,none,yv),(2,none,w_ b1 0),(6,none,.J (t.nW:Nat)),(8,none,.J (t.nW+t.nH+1)),(9,none,.func (.func 324) #[] #[w_ b1 0]),(102,none,w1),(103,none,.J (t.nH:Nat)),(104,none,.J (k:Nat))]/\p_=p1/\L_=[Y1,Y2,Z,zx]/\k<=t.nH/\I (Ez t H d k) Z) ⟨0,Z,rfl,rfl,rfl,rfl,Nat.zero_le _,by rw[yxq];exact hI⟩ sb ?_;clear IH;rintro _ _ p1 _ IH ⟨k,Z,rfl,rfl,rfl,rfl,hk,hI⟩;refine cq (fun cc=>?_) (fun cc=>?_)
 ·have b6:=yux O Dv (h:=k) om;have b8:=S.bh k;have Th:=T.h;have d0:=xwr (x:=(Au t d k).toNat) om;have d1:=xwr (x:=(Au t d k).toNat-1) om;have d2:=xwr (x:=(Au t d k).toNat+1) om;refine ax ?_;refine xzk rfl rfl o1 (by rw[Ae,xtb];omega) ?_;refine xog rfl o1 xrx (xs4 om) rfl ?_;refine ax ?_;refine xw3 [25] R62 Z ?_;refine ex ?_;refine xbv rfl rfl rfl rfl sdu (gd2 fun _ hq _ V=>c325 V ((Au t d k).toNat-1) om om) ?_;refine ex ?_;refine xbv rfl rfl rfl rfl sdu (gd2 fun _ hq _ V=>c325 V (Au t d k).toNat om om) ?_;refine ex ?_;refine xu5 rfl rfl rfl sdu rfl sdu (xtx fun _ V=>(xkq k_ (O3 V ((k:Int)=H.D9) H.sign b1 bt a8 hb)).mono fun v h' e=>⟨e.1.trans (show _=Value.J (bh H k) from rfl),e.2⟩) ?_;refine ex ?_;refine yul Z rfl rfl rfl sdu rfl sdu (v:=.bool true) (Q:=fun Z'=>I (Ez t H d k++[⟨t.nW+k,t.si,B5 ((Au t d k).toNat-1)-B5 (Au t d k).toNat-bh H k,-1,0⟩]) Z') (fun c1 h C s=>?_) (fun Z1 b0 b3=>?_)
  ·have e:=xgg (a:=(t.nW:Int)+k) (b:=(t.nW:Int)+t.nH+1) (c:=B5 ((Au t d k).toNat-1)-B5 (Au t d k).toNat-bh H k) (w:=-1) (m:=0) (x:=⟨t.nW+k,t.si,B5 ((Au t d k).toNat-1)-B5 (Au t d k).toNat-bh H k,-1,0⟩) rfl rfl rfl rfl rfl;have y:=hy _ _ (ycp om (of_decide_eq_true c1)) _ _ _ _ le hI s;rw[<- e]at y;exact y
  obtain⟨u1,a4,M⟩:∃u1,(u1=if 0<Au t d k then Ez t H d k++[⟨t.nW+k,t.si,B5 ((Au t d k).toNat-1)-B5 (Au t d k).toNat-bh H k,-1,0⟩]else Ez t H d k)/\I u1 Z1:=by
   by_cases c1:0<Au t d k
   ·exact⟨_,rfl,by rw[if_pos c1];exact b0 (decide_eq_true c1)⟩
   ·exact⟨_,rfl,by rw[if_neg c1,b3 (decide_eq_false c1)];exact hI⟩
  refine ex ?_;refine xbv rfl rfl rfl rfl sdu (gd2 fun _ hq _ V=>c325 V ((Au t d k).toNat+1) om om) ?_;refine ex ?_;refine xbv rfl rfl rfl rfl sdu (gd2 fun _ hq _ V=>c325 V (Au t d k).toNat om om) ?_;refine ex ?_;refine xu5 rfl rfl rfl sdu rfl sdu (xtx fun _ V=>(xkq k_ (O3 V ((k:Int)=H.D9) H.sign b1 bt a8 hb)).mono fun v h' e=>⟨e.1.trans (show _=Value.J (bh H k) from rfl),e.2⟩) ?_;refine ex ?_;refine xtp Z1 rfl rfl sdu rfl sdu (v:=.bool true) (Q:=fun Z'=>I (u1++[⟨t.si,t.nW+k,B5 ((Au t d k).toNat+1)-B5 (Au t d k).toNat+bh H k,-1,0⟩]) Z') (fun c2 h C s=>?_) (fun Z2 a6 a5=>?_)
  ·have e:=xgg (a:=(t.nW:Int)+t.nH+1) (b:=(t.nW:Int)+k) (c:=B5 ((Au t d k).toNat+1)-B5 (Au t d k).toNat+bh H k) (w:=-1) (m:=0) (x:=⟨t.si,t.nW+k,B5 ((Au t d k).toNat+1)-B5 (Au t d k).toNat+bh H k,-1,0⟩) rfl rfl rfl rfl rfl;have c2:Au t d k<t.hv k:=of_decide_eq_true (P7 c2);have y:=hy u1 ⟨t.si,t.nW+k,B5 ((Au t d k).toNat+1)-B5 (Au t d k).toNat+bh H k,-1,0⟩ (by
    subst a4;split
    ·rename_i c1;exact ybp om c1 c2
    ·rename_i c1;exact yap om c1 c2) _ _ _ _ le M s
   rw[<- e]at y;exact y
  have a7:I (Ez t H d (k+1)) Z2:=by
   by_cases c2:Au t d k<t.hv k
   ·have y:=a6 (by show(!(decide (0<Au t d k)&&!true)&&decide (Au t d k<t.hv k))=true;rw[decide_eq_true c2];simp);subst a4;by_cases c1:0<Au t d k
    ·rw[if_pos c1,Tv c1 c2]at y;exact y
    ·rw[if_neg c1,Tc c1 c2]at y;exact y
   ·rw[a5 (by show(!(decide (0<Au t d k)&&!true)&&decide (Au t d k<t.hv k))=false;rw[decide_eq_false c2];simp)];subst a4;by_cases c1:0<Au t d k
    ·rw[if_pos c1,Ub c1 c2]at M;exact M
    ·rw[if_neg c1,Ri c1 c2]at M;exact M
  refine ax ?_;refine xlq rfl (fun cd=>absurd cd s_) (fun cd=>?_);refine ax ?_;exact xhq (IH _ _ _ om ⟨k+1,Z2,rfl,rfl,rfl,rfl,om,a7⟩)
 obtain rfl:k=t.nH:=om;refine ax ?_;refine xmq (fun m_ l p_ L_=>∃(k:Nat)(Z:Pcs),m_=t.m-k/\l=[(1,none,yv),(2,none,w_ b1 0),(6,none,.J (t.nW:Nat)),(180,none,.slice a3 t.m c3),(181,none,.J (t.m:Nat)),(182,none,.J (k:Nat))]/\p_=p1/\L_=[Y1,Y2,Z,zx]/\k<=t.m/\I (Gt t H d k) Z) ⟨0,Z,rfl,rfl,rfl,rfl,Nat.zero_le _,by rw[ywq];exact hI⟩ sb ?_;clear IH;rintro _ _ p1 _ IH ⟨k,Z,rfl,rfl,rfl,rfl,hk,hI⟩;refine cq (fun cc=>?_) (fun cc=>?_)
 ·have Ty:=T.y;have b7:=O.yp k om;have b9:=O.y k om;refine ax ?_;refine xfk rfl (Wys.Re Ty om b7) ?_;refine xyq fun b2=>?_;refine ax ?_;refine ywc Z rfl rfl (Q:=fun v Z'=>v=.bool true/\I (Gt t H d k++[⟨t.ww k,t.nW+t.wh k,0,k,1⟩]) Z') (fun h C s=>?_) (fun v1 Z1⟨e1,M⟩=>?_)
  ·have e:=xgg (a:=t.ww k) (b:=(t.nW:Int)+t.wh k) (c:=0) (w:=k) (m:=1) (x:=⟨t.ww k,t.nW+t.wh k,0,k,1⟩) rfl rfl rfl rfl rfl;have y:=hy _ _ (ywn om) _ _ _ _ le hI s;rw[<- e]at y;exact y
  subst e1;refine ax ?_;refine xtp Z1 rfl rfl sdu rfl sdu (v:=.bool true) (Q:=fun Z'=>I (Gt t H d k++[⟨t.ww k,t.nW+t.wh k,0,k,1⟩]++[⟨t.nW+t.wh k,t.ww k,0,k,-1⟩]) Z') (fun c2 h C s=>?_) (fun Z2 a6 a5=>?_)
  ·have e:=xgg (a:=(t.nW:Int)+t.wh k) (b:=t.ww k) (c:=0) (w:=k) (m:=-1) (x:=⟨t.nW+t.wh k,t.ww k,0,k,-1⟩) rfl rfl rfl rfl rfl;have c2:0<dv d k:=of_decide_eq_true (P7 c2);have y:=hy _ _ (yvn om c2) _ _ _ _ le M s;rw[<- e]at y;exact y
  have a7:I (Gt t H d (k+1)) Z2:=by
   by_cases c2:0<dv d k
   ·have y:=a6 (by show(!!true&&decide (0<dv d k))=true;rw[decide_eq_true c2];rfl);rw[Y_t c2]at y;exact y
   ·rw[a5 (by show(!!true&&decide (0<dv d k))=false;rw[decide_eq_false c2];rfl)];rw[Y_f c2]at M;exact M
  refine ax ?_;refine xlq rfl (fun cd=>absurd cd s_) (fun cd=>?_);refine ax ?_;exact xhq (IH _ _ _ om ⟨k+1,Z2,rfl,rfl,rfl,rfl,om,a7⟩)
 obtain rfl:k=t.m:=om;refine ax ?_;exact xrb (f:=275) rfl rfl fun _ H_=>K _ _ ⟨Z,yvg ▸ hI,(xfg H_).forget le⟩
open Go.X.Bf (Bg Et rel a0 far Ed)
section
variable{md:Md}{p:Ab}
theorem ywl{a1 a2 a3:Option Addr}{c1 c2 c3:Nat}{t:Tn}(T:Ao p a1 t.nH a2 t.nW a3 t.m t)(O:OkT t)(M:Wi){b:Option Addr}{cb:Nat}{d:List Int}(D:As p b t.m d)(Dv:Div t d)(S:Sg M){bt:Nat}{T2:TypeId}{z2:Nat×Nat}
 (hb:p bt=some (.cells #[.slice a1 t.nH c1,.slice a2 t.nW c2,.slice a3 t.m c3,.J M.D9,.J M.Hx,.J M.sign,.slice b t.m cb] T2 z2)):Nr prog md p (.func (.func 275) #[w_ bt 0] #[]) ((A0 t M d).map fun x=>[Nf x]):=by
 intro h z9 zz p' q7 zx yv I le h0 hy s;refine xkq (first:=[w_ bt 0]) (cap:=[]) k_ ((Rn c1 c2 c3 t (Ao.mono T le) O M cb d (D.mono le) Dv S bt T2 z2 (le _ _ hb) yv (fun H X=>I H.length X) h0 (fun H x hp a4 h X C V hI s'=>?_) s).mono fun _ _⟨X',q,s'⟩=>⟨X',by rw[List.length_map];exact q,s'⟩);have hl:=hp.length_le;simp only[List.length_append,List.length_singleton]at hl;have e:((A0 t M d).map fun x=>[Nf x]).getD H.length []=[Nf x]:=by
  obtain⟨r,hr⟩:=hp;rw[<- hr];simp[List.getD_eq_getElem?_getD]
 have z:=hy H.length (by rw[List.length_map];omega) a4 h X C V hI s';rw[e]at z;rw[List.length_append,List.length_singleton];exact z
end
set_option maxHeartbeats 8000000 in
theorem Wn{md:Md}{h:Heap}{p:Ab}(hp:Per p h){a1 a2 a3:Option Addr}(c1 c2 c3:Nat)(t:Tn)(T:Ao p a1 t.nH a2 t.nW a3 t.m t)(O:OkT t)(H:Wi){b:Option Addr}(cb:Nat)(d:List Int)(D:As p b t.m d)(Dv:Div t d)(S:Sg H)(bt:Nat){T2:TypeId}{z2:Nat×Nat}
 (hb:p bt=some (.cells #[.slice a1 t.nH c1,.slice a2 t.nW c2,.slice a3 t.m c3,.J H.D9,.J H.Hx,.J H.sign,.slice b t.m cb] T2 z2))(G:Flow.Good t H d):
 Aa prog md 235 #[w_ bt 0] h fun v h'=>∃w Y,(v=.tuple #[w,.J (Dg t H d)]/\Ac 266 5 w (acs (A9 t H d)) Y)/\New h h' Y:=by
 have oH:=O.nh;have oW:=O.nw;have oM:=O.nm;refine xfz hp func235 fun zq cs Stop K=>?_;refine ax ?_;refine xqq [] R12 ?_;refine ex ?_;refine ax ?_;refine xox (l':=[(0,none,w_ bt 0),(4,none,.J ((t.nW+t.nH+2:Nat):Int))]) ?_ ⟨rfl,rfl,trivial⟩
 refine xpg 7 [1,3,5,6] [0,2] [1,3,4,5,6] (fun i=>match i with|6=>[4]|_=>[]) (fun i=>match i with|1=>[0]|3=>[2]|6=>[0,1,4,5]|_=>[])
  (fun i val _ v x=>match i with
   |0=>v=.J ((t.nW+t.nH+2:Nat):Int)/\x=[]
   |1=>Ac 3 1 v (List.replicate (t.nW+t.nH+2) [.J 0]) x
   |2=>v=.J ((t.nW+t.nH+2:Nat):Int)/\x=[]
   |3=>Ac 266 5 v (List.replicate (t.nW+t.nH+2) [.J 0,.J 0,.J 0,.J 0,.J 0]) x
   |4=>∃b:Nat,v=w_ b 0/\x=[(b,.cells #[.slice none 0 0] 23 (0,0))]
   |5=>∃b:Nat,v=w_ b 0/\x=[(b,.cells #[.slice none 0 0] 262 (0,0))]
   |6=>∃b:Nat,val 4=w_ b 0/\x=[(b,.cells #[val 1] 23 (0,0))]
   |_=>True) (fun i hi val piece hq=>?_) (fun val piece j hj v x q=>?_) (fun val piece hq=>?_)
 ·match i,hi with
  |0,_=>
    refine ex ?_;exact xzq ⟨⟨_,rfl⟩,fun v e=>⟨xpq e,rfl⟩⟩
  |1,_=>
    have e0:val 0=.J ((t.nW+t.nH+2:Nat):Int):=(hq 0 rfl).1;refine ypl (n:=t.nW+t.nH+2) (zc:=[.J 0]) rfl (by show some ([],val 0)=_;rw[e0]) (by show some ([],val 0)=_;rw[e0]) om fun v Y o=>?_;exact xzq ⟨⟨_,rfl⟩,fun v' e=>by
     have e':=xpq e;subst e';show Ac _ _ _ _ ([Y]++[]).flatten;simpa using o⟩
  |2,_=>
    refine ex ?_;exact xzq ⟨⟨_,rfl⟩,fun v e=>⟨xpq e,rfl⟩⟩
  |3,_=>
    have e0:val 2=.J ((t.nW+t.nH+2:Nat):Int):=(hq 2 rfl).1;refine ypl (n:=t.nW+t.nH+2) (zc:=[.J 0,.J 0,.J 0,.J 0,.J 0]) rfl (by show some ([],val 2)=_;rw[e0]) (by show some ([],val 2)=_;rw[e0]) om fun v Y o=>?_;exact xzq ⟨⟨_,rfl⟩,fun v' e=>by
     have e':=xpq e;subst e';show Ac _ _ _ _ ([Y]++[]).flatten;simpa using o⟩
  |4,_=>
    refine xdh rfl fun V=>?_;exact xzq ⟨⟨_,rfl⟩,fun v e=>⟨V,xpq e,rfl⟩⟩
  |5,_=>
    refine xdh rfl fun V=>?_;exact xzq ⟨⟨_,rfl⟩,fun v e=>⟨V,xpq e,rfl⟩⟩
  |6,_=>
    obtain⟨V,e4,x4⟩:=hq 4 rfl;have M:Ac 3 1 (val 1) (List.replicate (t.nW+t.nH+2) [.J 0]) (piece 1):=hq 1 rfl;obtain⟨a,cap,e1,_⟩:=M.val;show DE _ _ _ _ _ _ _ _ _ [piece 4];rw[x4];refine xch (cs:=[.slice none 0 0]) (v:=.slice a _ cap) rfl (by show some ([],val 4)=_;rw[e4]) (by show some ([],val 1)=_;rw[e1]) ?_;exact xzq ⟨⟨undef,rfl⟩,fun v' e=>⟨V,e4,by
     show [(V,Obj.cells _ _ _)]=[(V,Obj.cells #[val 1] _ _)]
     rw[e1];rfl⟩⟩
 ·simp only[List.mem_cons,List.not_mem_nil,or_false]at hj;rcases hj with rfl|rfl
  ·exact q.2
  ·exact q.2
 have e0:val 0=.J ((t.nW+t.nH+2:Nat):Int):=(hq 0 d_).1;have M:Ac 3 1 (val 1) (List.replicate (t.nW+t.nH+2) [.J 0]) (piece 1):=hq 1 d_;have o2:Ac 266 5 (val 3) (List.replicate (t.nW+t.nH+2) [.J 0,.J 0,.J 0,.J 0,.J 0]) (piece 3):=hq 3 d_;obtain⟨V,e4,x4⟩:=hq 4 d_;obtain⟨b5,e5,x5⟩:=hq 5 d_;obtain⟨b6,f6,z6⟩:=hq 6 d_;have e6:val 4=w_ b6 0:=f6;rw[e4]at e6;cases e6;have x6:piece 6=[(V,.cells #[val 1] 23 (0,0))]:=z6;refine xgb (l':=[(0,none,w_ bt 0),(4,none,.J ((t.nW+t.nH+2:Nat):Int)),(5,none,w_ V 0),(6,none,w_ b5 0),(28,none,val 3)]) ?_ ⟨rfl,rfl,by show some (none,val 4)=_;rw[e4],by show some (none,val 5)=_;rw[e5],rfl,trivial⟩;show RO _ _ _ _ _ _ [piece 1,piece 3,piece 5,piece 6];rw[x5,x6];clear hq e0 x4 x5 x6 e4 e5 f6 z6;generalize val 1=v1 at*;generalize val 3=v2 at*;generalize piece 1=Y1 at*;generalize piece 3=Y2 at*;clear val piece;obtain⟨s1,m1,rfl,-⟩:=M.val;obtain⟨s2,m2,rfl,-⟩:=o2.val;rw[List.length_replicate]at M o2⊢;rw[List.length_replicate];obtain⟨N,hN⟩:∃N,N=t.nW+t.nH+2:=⟨_,rfl⟩
 rw[<- hN]at M o2⊢;have M:=M.as ((ygq N).trans (show _=ics (Fs 0 N) by simp[Fs]));have o2:=o2.as (yjg N);refine ax ?_;refine xmq (fun m_ l p_ L_=>∃(k:Nat)(Y:Pcs),m_=N-k/\l=[(0,none,w_ bt 0),(4,none,.J (N:Nat)),(5,none,w_ V 0),(6,none,w_ b5 0),(30,none,.J (N:Nat)),(31,none,.J (k:Nat))]/\p_=p/\L_=[[(b5,.cells #[.slice s2 N m2] 262 (0,0))],Y,Y2,[(V,.cells #[.slice s1 N m1] 23 (0,0))]]/\k<=N/\Ac 3 1 (.slice s1 N m1) (ics (Fs k N)) Y) ⟨0,Y1,rfl,rfl,rfl,rfl,Nat.zero_le _,M⟩ sb ?_;clear M;rintro _ _ p _ IH ⟨k,Y,rfl,rfl,rfl,rfl,hk,M⟩;refine cq (fun cc=>?_) (fun cc=>?_)
 ·refine ax ?_;refine xzk rfl rfl M (by rw[Ae,xdf om];omega) ?_;refine xek rfl rfl M xrx rfl rfl rfl (Cg (by rw[xdf om];omega)) (Nat.le_refl _) fun Y' o'=>?_;have o':=o'.as (Eq.trans (b:=ics ((Fs k N).set k 1152921504606846976)) Ce (by rw[xj7 om]));refine ax ?_;exact xhq (IH _ _ _ om ⟨k+1,Y',rfl,rfl,rfl,rfl,om,o'⟩)
 obtain rfl:N=k:=om;refine ax ?_;refine xzk (i:=N-2) rfl (by show some ([],Value.J _)=_;rw[show(N:Int)-2=((N-2:Nat):Int) by omega]) M (by rw[Ae,xdf om];omega) ?_;refine xek rfl rfl M xrx rfl rfl rfl (Cg (by rw[xdf om];omega)) (Nat.le_refl _) fun Y' o'=>?_;have a7:t.sp=N-2:=by unfold Tn.sp;omega
 have o':=o'.as (Eq.trans (b:=ics ((Fs N N).set (N-2) 0)) Ce (show _=ics (Bg (A0 t H d) 0 (Et N t.sp)).c by rw[yfz,<- a7];rfl));have o2:=o2.as (show _=acs (Bg (A0 t H d) 0 (Et N t.sp)).b from rfl);refine ax ?_;refine xik (LL':=[Cv [],Y',[(b5,.cells #[.slice s2 N m2] 262 (0,0))],Y2,[(V,.cells #[.slice s1 N m1] 23 (0,0))]]) ?_ (fun h s=>by simpa[Cv]using s);refine yov (rs₀:=[]) rfl (fun m_ rs l p_ L_=>∃(j:Nat)(Y1 Y2:Pcs),m_=N-j/\l=[(0,none,w_ bt 0),(4,none,.J (N:Nat)),(5,none,w_ V 0),(6,none,w_ b5 0),(42,none,.J (N:Nat)),(43,none,.J (j:Nat))]/\p_=p/\L_=[Cv rs,Y1,[(b5,.cells #[.slice s2 N m2] 262 (0,0))],Y2,[(V,.cells #[.slice s1 N m1] 23 (0,0))]]/\j<=N/\Ac 3 1 (.slice s1 N m1) (ics (Bg (A0 t H d) j (Et N t.sp)).c) Y1/\Ac 266 5 (.slice s2 N m2) (acs (Bg (A0 t H d) j (Et N t.sp)).b) Y2/\Kp (Bg (A0 t H d) j (Et N t.sp)) (48*j)) ⟨0,Y',Y2,rfl,rfl,rfl,rfl,Nat.zero_le _,o',o2,Kp.start⟩ sb ?_;clear IH M o2 o';rintro _ rs _ p _ IH ⟨j,Y1,Y2,rfl,rfl,rfl,rfl,hj,M,o2,a8⟩;refine cq (fun cc=>?_) (fun cc=>?_)
 ·refine ax ?_;refine xt3 (fun i L=>∃Y1 Y2,L=[Cv rs,Y1,[(b5,.cells #[.slice s2 N m2] 262 (0,0))],Y2,[(V,.cells #[.slice s1 N m1] 23 (0,0))]]/\Ac 3 1 (.slice s1 N m1) (ics (((A0 t H d).take i).foldl rel (Bg (A0 t H d) j (Et N t.sp))).c) Y1/\Ac 266 5 (.slice s2 N m2) (acs (((A0 t H d).take i).foldl rel (Bg (A0 t H d) j (Et N t.sp))).b) Y2/\Kp (((A0 t H d).take i).foldl rel (Bg (A0 t H d) j (Et N t.sp))) (48*j+i)) rfl (ywl T O H D Dv S hb) ⟨Y1,Y2,rfl,M,o2,a8⟩ ?_ ?_ rfl (fun i hi=>by rw[List.length_map]at hi;simp[List.getD_eq_getElem?_getD,hi])
  ·intro lo lp i _ p' C e8 d6 b9 hi le ⟨Y1,Y2,e,q1,q2,a4⟩ d7 nx;subst e;rw[List.length_map]at hi;obtain⟨x,hx⟩:∃x,x=(A0 t H d)[i]:=⟨_,rfl⟩
   have e:((A0 t H d).map fun x=>[Nf x]).getD i []=[Nf x]:=by simp[List.getD_eq_getElem?_getD,hi,hx]
   rw[e];obtain⟨U,hU⟩:∃U,U=((A0 t H d).take i).foldl rel (Bg (A0 t H d) j (Et N t.sp)):=⟨_,rfl⟩
   have eU:((A0 t H d).take (i+1)).foldl rel (Bg (A0 t H d) j (Et N t.sp))=rel U x:=by rw[hU,hx,List.take_succ_eq_append_getElem hi,ycz]
   have lc:U.c.length=N:=by rw[hU];exact Uw
   have lb:U.b.length=N:=by rw[hU];exact Ve
   rw[<- hU]at q1 q2 a4;have b3:x∈A0 t H d:=by rw[hx];exact List.getElem_mem hi
   have d5:=xlc O.y x b3;have a5:=xqh O.toOk S Dv x b3;have d8:=a5;have b7:=xb6 (w:=H) (d:=d) O.toOk;have e7:cC=40353607001:=by decide
   rw[e7]at d8;simp only[nN]at d5;have hB:Go.X.Bf.L U x.fr<1152921504606846976-> -30000000000000<=Go.X.Bf.L U x.fr/\Go.X.Bf.L U x.fr<=30000000000000:=fun c=>by
    have z:=a4 x.fr c;omega
   clear hU hx e;show RE _ _ ((47,none,.agg #[.J ((x.fr:Nat):Int),.J ((x.to:Nat):Int),.J x.cost,.J x.way,.J x.more])::_) _ _;refine lq fun b8=>?_;refine ax ?_;dsimp only at nx⊢;refine xzp d7 ?_;refine ax ?_;refine xqq [] R20 ?_;refine ex ?_;refine xlk rfl rfl rfl rfl sdt sdt q1 (by rw[Ae];omega) ?_;refine ex ?_;refine xev rfl rfl rfl sdt q1 xrx (xsg om) rfl ?_;refine ex ?_;refine xlk rfl rfl rfl rfl sdu sdu q1 (by rw[Ae];omega) ?_;refine ex ?_;refine xev rfl rfl rfl sdu q1 xrx (xsg om) rfl ?_;refine ex ?_;refine xlk rfl rfl rfl rfl sdu sdu q1 (by rw[Ae];omega) ?_;refine ex ?_;refine xev rfl rfl rfl sdu q1 xrx (xsg om) rfl ?_;refine ex ?_;refine cq (fun c2=>?_) (fun c2=>?_)
   ·have c3:Go.X.Bf.L U x.fr<1152921504606846976/\Go.X.Bf.L U x.fr+x.cost<Go.X.Bf.L U x.to:=by simpa using c2
    refine xw3 [16] R17 Y1 ?_;refine ex ?_;refine xlk rfl rfl rfl rfl sdt sdt q1 (by rw[Ae];omega) ?_;refine ex ?_;refine xd2 rfl rfl rfl sdt q1 xrx (xsg om) rfl ?_;refine ex ?_;refine xlk rfl rfl rfl rfl sdt sdt q1 (by rw[Ae];omega) ?_;refine yod rfl rfl rfl q1 xrx rfl rfl rfl (xsg om) (Nat.le_refl _) fun Y3 o3=>?_;refine ex ?_;have o3:=o3.as (Eq.trans (b:=ics (U.c.set x.to (Go.X.Bf.L U x.fr+x.cost))) Ce (show _=ics (rel U x).c by rw[yhq c3.1 c3.2]));refine ax ?_;refine xzk rfl rfl q2 (by rw[xjv];omega) ?_;refine xek rfl rfl q2 xrx rfl rfl rfl (xh2 om) (Nat.le_refl _) fun Y4 o4=>?_;have o4:=o4.as (Eq.trans (b:=acs (U.b.set x.to x)) (yem (x:=x)) (show _=acs (rel U x).b by rw[yhq c3.1 c3.2]));refine ax ?_;exact xhq (nx [] _ ⟨Y3,Y4,rfl,by rw[eU];exact o3,by rw[eU];exact o4,by rw[eU];exact Kp.step a4 om a5⟩)
   ·have c3:¬ Go.X.Bf.L U x.fr<1152921504606846976\/ ¬ Go.X.Bf.L U x.fr+x.cost<Go.X.Bf.L U x.to:=by
     by_cases c:Go.X.Bf.L U x.fr<1152921504606846976
     ·exact .inr fun z=>c2 (by simp[c,z])
     ·exact .inl c
    have eR:rel U x=U:=c3.elim ylg ykg;refine ax ?_;exact xhq (nx [] _ ⟨Y1,Y2,rfl,by rw[eU,eR];exact q1,by rw[eU,eR];exact q2,by rw[eU,];exact Kp.step a4 om a5⟩)
  ·intro r _ ⟨Y1,Y2,e,q1,q2,a4⟩;subst e;rw[List.length_map,List.take_length]at q1 q2 a4;dsimp only;refine ax ?_;refine yog (rs:=rs) ?_;have b7:=xb6 (w:=H) (d:=d) O.toOk;exact xhq (IH (r::rs) _ _ _ om ⟨j+1,Y1,Y2,rfl,rfl,rfl,rfl,om,q1,q2,Kp.mono a4 om⟩)
 obtain rfl:N=j:=om;have hB:Bg (A0 t H d) N (Et N t.sp)=bf t H d:=by rw[hN];rfl
 rw[hB]at M o2;clear IH a8 hB;have f2:(bf t H d).c.length=N:=by rw[hN];exact yzl
 have f1:(bf t H d).b.length=N:=by rw[hN];exact yam
 refine ax ?_;refine ysm 266 5 fun o9=>?_;refine xzk (i:=N-1) rfl (by show some ([],Value.J _)=_;rw[show(N:Int)-1=((N-1:Nat):Int) by omega]) M (by rw[Ae];omega) ?_;refine xog rfl M xrx (xsg om) rfl ?_;refine ax ?_;have a6:Go.X.Bf.L (bf t H d) (N-1)=Dg t H d:=by rw[hN];rfl
 rw[a6];refine xlq rfl (fun c3=>?_) (fun c3=>?_)
 ·have d9:Dg t H d<far:=by rw[xef];exact c3
  have a9:=(G.find O.toOk S).way d9;have f0:=xb4 O.toOk S G;refine ax ?_;refine xox (l':=[(4,none,.J (N:Nat)),(5,none,w_ V 0),(6,none,w_ b5 0),(9,none,.slice none 0 0),(10,none,.J ((N-1:Nat):Int))]) ?_ ⟨rfl,rfl,rfl,rfl,by show some (none,Value.J _)=_;rw[show(N:Int)-1=((N-1:Nat):Int) by omega],trivial⟩;refine xmq (fun m_ l p_ L_=>∃(n:Nat)(acc r:List Go.X.Bf.Arc)(w:Value)(Y:Pcs),m_=r.length/\l=[(4,none,.J (N:Nat)),(5,none,w_ V 0),(6,none,w_ b5 0),(9,none,w),(10,none,.J (n:Nat))]/\p_=p/\L_=[Y,Cv rs,Y1,[(b5,.cells #[.slice s2 N m2] 262 (0,0))],Y2,[(V,.cells #[.slice s1 N m1] 23 (0,0))]]/\n<N/\Ed (bf t H d) t.sp n r/\acc++r=A9 t H d/\(∀a∈r,a∈A0 t H d)/\Ac 266 5 w (acs acc) Y) ⟨N-1,[],A9 t H d,.slice none 0 0,[],rfl,rfl,rfl,rfl,om,(show N-1=t.si by unfold Tn.si;omega) ▸ a9.2.1,rfl,fun a ha=>(a9.2.2.2 a ha).1,o9⟩ sb ?_;clear o9;rintro _ _ p _ IH ⟨n,acc,r,w,Y,rfl,rfl,rfl,rfl,e9,hC,hP,hr,o3⟩;have b0:=congrArg List.length hP;simp only[List.length_append]at b0;refine cq (fun c4=>?_) (fun c4=>?_)
  ·obtain⟨r',e2,d0⟩:=Ed.Ol hC (show n≠t.sp by rw[a7];intro e;apply c4;omega);subst e2;simp only[List.length_cons]at b0;refine ax ?_;refine xzk rfl rfl o2 (by rw[xjv];omega) ?_;refine ybg rfl o2 rfl (xh2 om) ?_;refine ax ?_;refine xbz rfl fun v4 Y4 o4=>?_;have o4:Ac 266 5 v4 (acs [Go.X.Bf.B (bf t H d) n]) Y4:=o4;refine ax ?_;refine xfv rfl rfl o3 o4 (xn1 rfl) (by rw[xjv,xjv];simp only[List.length_singleton];omega) fun v5 Y5 o5=>?_;have o5:=o5.as (ygc acc (Go.X.Bf.B (bf t H d) n));refine ax ?_;refine xzk rfl rfl o2 (by rw[xjv];omega) ?_;refine ax ?_;refine xog rfl o2 (j:=0) rfl (xh2 om) rfl ?_;refine ax ?_;have z_:=xlc O.y _ (hr _ (List.mem_cons_self ..));simp only[nN]at z_;exact xhq (IH _ _ _ s_ ⟨(Go.X.Bf.B (bf t H d) n).fr,acc++[Go.X.Bf.B (bf t H d) n],r',v5,Y5,rfl,rfl,rfl,rfl,om,d0,by rw[List.append_assoc];exact hP,fun a ha=>hr a (List.mem_cons_of_mem _ ha),o5⟩)
  have e3:=Ed.Vb hC (show n=t.sp by rw[a7];apply Classical.byContradiction;intro z;apply c4;omega);subst e3;rw[List.append_nil]at hP;rw[hP]at o3;refine ax ?_;refine xqq [] R7 ?_;refine ex ?_;refine xlk (j:=N-1) rfl rfl rfl (by show some (_,Value.J _)=_;rw[show(N:Int)-1=((N-1:Nat):Int) by omega]) sdt sdt M (by rw[Ae];omega) ?_;refine xev rfl rfl rfl sdt M xrx (xsg om) rfl ?_;refine ex ?_;refine ax ?_;dsimp only;rw[a6];exact xxp (rs:=rs) (vs:=[w,.J (Dg t H d)]) func235 rfl rsv fun _ H_=>K _ _ ⟨w,Y,⟨rfl,o3⟩,D6 H_⟩
 ·refine ax ?_;refine xqq [] R7 ?_;refine ex ?_;refine xlk (j:=N-1) rfl rfl rfl (by show some (_,Value.J _)=_;rw[show(N:Int)-1=((N-1:Nat):Int) by omega]) sdt sdt M (by rw[Ae];omega) ?_;refine xev rfl rfl rfl sdt M xrx (xsg om) rfl ?_;refine ex ?_;refine ax ?_;dsimp only;rw[a6];have o9:=o9.as (show _=acs (A9 t H d) by rw[A9,if_neg (fun z=>c3 (by rw[xef]at z;exact z))];rfl);exact xxp (rs:=rs) (vs:=[.slice none 0 0,.J (Dg t H d)]) func235 rfl rsv fun _ H_=>K _ _ ⟨.slice none 0 0,[],⟨rfl,o9⟩,D6 H_⟩
open Go.X.Bf (a0)
set_option maxHeartbeats 8000000 in
theorem O6{md:Md}{h:Heap}{p:Ab}(hp:Per p h){a1 a2 a3:Option Addr}{c1 c2 c3:Nat}(t:Tn)(T:Ao p a1 t.nH a2 t.nW a3 t.m t)(O:OkT t)(H:Wi)(S:Sg H):
 Aa prog md 175 #[.agg #[.slice a1 t.nH c1,.slice a2 t.nW c2,.slice a3 t.m c3],.agg #[.J H.D9,.J H.Hx,.J H.sign]] h fun v h'=>∃Y,Ac 3 1 v (ics (Cr t H)) Y/\New h h' Y:=by
 have oH:=O.nh;have oW:=O.nw;have oM:=O.nm;refine xdq hp func175 fun _ _ _ K=>?_;refine xgq rfl fun b1=>?_;refine bq fun b2=>?_;refine ax ?_;refine xqq [5] R6 ?_;refine ex ?_;refine ypl (n:=t.m) (zc:=[.J 0]) rfl rfl rfl om fun v Y o=>?_;obtain⟨a9,c9,rfl,-⟩:=o.val;rw[List.length_replicate]at o⊢;have o:=o.as (ygq _);refine ex ?_;refine bq fun b5=>?_;refine ax ?_;refine xik (LL':=[[(b5,.cells #[.slice a1 t.nH c1,.slice a2 t.nW c2,.slice a3 t.m c3,.J H.D9,.J H.Hx,.J H.sign,.slice a9 t.m c9] 261 (0,0))],Y]) ?_ (fun h s=>s.sub (List.Sublist.cons_cons _ (List.Sublist.cons _ (List.Sublist.cons _ (List.Sublist.refl _)))));refine xmq (fun m_ l p_ L_=>∃(n:Nat)(d:List Int)(Y:Pcs),m_=n/\l=[(5,none,w_ b5 0)]/\p_=p/\L_=[[(b5,.cells #[.slice a1 t.nH c1,.slice a2 t.nW c2,.slice a3 t.m c3,.J H.D9,.J H.Hx,.J H.sign,.slice a9 t.m c9] 261 (0,0))],Y]/\Flow.Good t H d/\sm t.nH t.hv-tot t d<(n:Int)+1/\E4 t H (n+1) d=Cr t H/\Ac 3 1 (.slice a9 t.m c9) (ics d) Y) ⟨(sm t.nH t.hv).toNat,List.replicate t.m 0,Y,rfl,rfl,rfl,rfl,Flow.Good.start O.toOk S,xk7 O.toOk,rfl,o⟩ sb ?_;clear o;rintro n _ p _ IH ⟨_,d,Y,rfl,rfl,rfl,rfl,M,hN,hF,o1⟩;have d9:=M.div.len;have b7:=yzp M.div (fun i hi=>ywp O M.div hi);refine ax ?_;refine ygg (Q:=fun v Y=>∃w,v=.tuple #[w,.J (Dg t H d)]/\Ac 266 5 w (acs (A9 t H d)) Y) (first:=[]) rfl rfl (fun h s=>(ykw (n:=t.m) o1 (by rw[Ae];exact d9) s (fun x h=>by simp[h]) (bt:=b5) (ob:=.cells #[.slice a1 t.nH c1,.slice a2 t.nW c2,.slice a3 t.m c3,.J H.D9,.J H.Hx,.J H.sign,.slice a9 t.m c9] 261 (0,0)) s_ fun p_ a_ c_ d0 b6 d6 D_ b3=>Wn d0 c1 c2 c3 t (Ao.mono T b6) O H c_ d D_ M.div S b5 (d6 ▸ b3) M).mono fun v h'⟨w,Y,q,n⟩=>⟨Y,⟨w,q⟩,n⟩) ?_;rintro _ Y2 ⟨w,rfl,V⟩;refine cq (fun cc=>?_) (fun cc=>?_)
 ·refine ax ?_;exact K.r rfl rfl fun _ H_=>⟨Y,o1.as (by rw[<- hF,xl7 cc]),D6 H_⟩
 obtain⟨n',e0,b0,b4,d7⟩:=yhz O.toOk S M cc hN hF;have d8:Dg t H d<Go.X.Bf.far:=by rw[xef];omega
 have a5:=(M.find O.toOk S).way d8;have e1:=xb4 O.toOk S M;have a6:=fun a ha=>(ydk (a5.2.2.2 a ha).1).2;have d5:=fun a ha=>(ydk (a5.2.2.2 a ha).1).1;refine ax ?_;refine xpb V (xjv _) fun p1 a8 cp le ev D2=>?_;subst ev;refine ax ?_;refine xmq (fun m_ l p_ L_=>∃(k:Nat)(Y:Pcs),m_=(A9 t H d).length-k/\l=[(5,none,w_ b5 0),(29,none,.slice a8 (A9 t H d).length cp),(30,none,.J ((A9 t H d).length:Nat)),(31,none,.J (k:Nat))]/\p_=p1/\L_=[[(b5,.cells #[.slice a1 t.nH c1,.slice a2 t.nW c2,.slice a3 t.m c3,.J H.D9,.J H.Hx,.J H.sign,.slice a9 t.m c9] 261 (0,0))],Y]/\k<=(A9 t H d).length/\Ac 3 1 (.slice a9 t.m c9) (ics (Gk d (A9 t H d) k)) Y) ⟨0,Y,rfl,rfl,rfl,rfl,Nat.zero_le _,by rw[xf0];exact o1⟩ sb ?_;clear o1 V;rintro _ _ p1 _ a7 ⟨k,Y,rfl,rfl,rfl,rfl,hk,V⟩;have a4:(Gk d (A9 t H d) k).length=t.m:=Mr.trans M.div.len;have b8:=yck a6 b7 k hk;have D3:Nl p1 a8 (A9 t H d).length (A9 t H d):=D2;refine cq (fun cd=>?_) (fun cd=>?_)
 ·have z1:=d5 _ (xnr (show k<(A9 t H d).length by omega));have z2:=a6 _ (xnr (show k<(A9 t H d).length by omega));have z3:=b8 ((A9 t H d).getD k a0).way.toNat;refine ax ?_;refine xfk rfl (D3.all om) ?_;refine xyq fun b9=>?_;refine cq (fun ce=>?_) (fun ce=>?_)
  ·refine xqq [] R10 ?_;refine ex ?_;refine xof rfl rfl rfl rfl sdt sdt V (xtx ⟨ce,by rw[Ae,a4];omega⟩) ?_;refine xev rfl rfl rfl sdt V xrx (Cg (by rw[a4];omega)) rfl ?_;refine ex ?_;refine ax ?_;refine xcv rfl rfl V ce (by rw[Ae,a4];omega) ?_;refine xek rfl rfl V xrx rfl rfl rfl (Cg (by rw[a4];omega)) (Nat.le_refl _) fun Y3 o3=>?_;have o3:=o3.as (Eq.trans (b:=ics ((Gk d (A9 t H d) k).set ((A9 t H d).getD k a0).way.toNat ((Gk d (A9 t H d) k).getD ((A9 t H d).getD k a0).way.toNat 0+((A9 t H d).getD k a0).more))) Ce (congrArg ics (ydc om ce)));refine ax ?_;exact xhq (a7 _ _ _ om ⟨k+1,Y3,rfl,rfl,rfl,rfl,om,o3⟩)
  ·refine ax ?_;exact xhq (a7 _ _ _ om ⟨k+1,Y,rfl,rfl,rfl,rfl,om,V.as (congrArg ics (ycm om ce))⟩)
 refine ax ?_;refine xtv le ?_;exact xhq (IH _ _ _ om ⟨n',aug d (A9 t H d),Y,rfl,rfl,rfl,rfl,b0,b4,d7,V.as (by rw[yec om])⟩)
section
variable{md:Md}{c1 c2 c3:Nat}{a1 a2 a3:Option Addr}{p:Ab}
theorem xul{h z9:Heap}{zz:List Nat}{L X:Pcs}{t:Tn}(T:Ao p a1 t.nH a2 t.nW a3 t.m t)(O:OkT t){w:Value}{d:List Int}(H:Div t d)(o:Ac 3 1 w (ics d) X)(s:St z9 zz p h (X++L)):
 Aa prog md 181 #[.agg #[.slice a1 t.nH c1,.slice a2 t.nW c2,.slice a3 t.m c3],w] h fun v h'=>∃Y,(∃w1 w2 M V,v=.tuple #[w1,w2]/\Ac 3 1 w1 (ics (Gl t d)) M/\Ac 3 1 w2 (ics (Nn t d)) V/\Y=M++V)/\New h h' Y:=
 yeh (n:=t.m) o (by rw[Ae];exact H.len) s (fun x hx=>List.mem_append_left _ hx) fun p' a cap hp le hv D=>by
  subst hv;exact yqx hp c1 c2 c3 t (Ao.mono T le) O cap d D H
theorem Tx{h:Heap}(hp:Per p h)(t:Tn)(T:Ao p a1 t.nH a2 t.nW a3 t.m t)(O:OkT t){tN:TypeId}{z:Nat×Nat}(hG:p 0=some (.cells #[.J (-1),.J (-1),.J 0] tN z)):
 Aa prog md 177 #[.agg #[.slice a1 t.nH c1,.slice a2 t.nW c2,.slice a3 t.m c3]] h fun v h'=>∃Y,Ac 3 1 v (ics (LK t)) Y/\New h h' Y:=by
 have oH:=O.nh;refine xdq hp func177 fun _ _ _ K=>?_;refine xgq rfl fun b1=>?_;refine ax ?_;refine xqq [3,4] R9 ?_;refine ex ?_;refine xuk rfl rfl rfl (fun _ pe=>O6 pe t T O Hw xbd) ?_;intro v Y o;refine yoj Y rfl rfl rfl (fun h L s=>xul T O (xrw O.toOk xbd).div o s) ?_;rintro _ _ ⟨w1,w2,H,Y2,rfl,o1,o2,rfl⟩;refine ex ?_;refine ax ?_;refine xcc H Y2 ?_;refine ax ?_;refine xjl H rfl rfl (fun h C s=>Rt w1 o1 (by rw[xtb];omega) s) ?_;rintro _ V ⟨rfl,o3⟩;refine ax ?_;exact K.r rfl rfl fun _ M=>⟨V,o3,D6 M⟩
theorem c93{h:Heap}(hp:Per p h)(t:Tn)(T:Ao p a1 t.nH a2 t.nW a3 t.m t)(hn:t.nH<=2^30/\t.nW<=2^30/\t.m<=2^30){tN:TypeId}{z:Nat×Nat}(hG:p 0=some (.cells #[.J (-1),.J (-1),.J 0] tN z)):
 Aa prog md 93 #[.agg #[.slice a1 t.nH c1,.slice a2 t.nW c2,.slice a3 t.m c3]] h fun v h'=>v=.tuple #[.J (Fx t),.J (D5 t)]/\Af h h':=by
 refine xdq hp func93 fun _ _ _ K=>?_;refine xgq rfl fun b1=>?_;refine ax ?_;refine xiq rfl rfl (fun _ M=>c40 M t T hn) ?_;refine cq (fun H=>?_) (fun H=>?_)
 ·refine ax ?_;exact K.r rfl rfl fun _ V=>⟨by rw[Fx,if_neg H];rfl,V.kept⟩
 have H:=Classical.not_not.1 H;have O:OkT t:=xtn H;have oM:=O.nm;refine ax ?_;refine xdj rfl rfl (fun _ M=>O6 M t T O Hw xbd) ?_;intro v Y o;refine xpb o (by rw[Ae,yiz]) fun p1 a n le ev D=>?_;subst ev;refine xiq rfl rfl (fun _ M=>Sv M (Cr t Hw) D om (fun i hi=>by have z_:=xph O xbd i hi;omega)) ?_;refine ax ?_;exact K.r rfl rfl fun _ V=>⟨by rw[Fx,if_pos H,H];rfl,V.kept⟩
theorem c96{h:Heap}(hp:Per p h)(t:Tn)(T:Ao p a1 t.nH a2 t.nW a3 t.m t)(hn:t.nH<=2^30/\t.nW<=2^30/\t.m<=2^30){tN:TypeId}{z:Nat×Nat}(hG:p 0=some (.cells #[.J (-1),.J (-1),.J 0] tN z)):
 Aa prog md 96 #[.agg #[.slice a1 t.nH c1,.slice a2 t.nW c2,.slice a3 t.m c3]] h fun v h'=>∃Y,(∃w,v=.tuple #[w,.J (D5 t)]/\Ac 3 1 w (ics (LKc t)) Y)/\New h h' Y:=by
 refine xdq hp func96 fun _ _ _ K=>?_;refine xgq rfl fun b1=>?_;refine ax ?_;refine xiq rfl rfl (fun _ V=>c40 V t T hn) ?_;refine cq (fun H=>?_) (fun H=>?_)
 ·refine ax ?_;refine xik (LL':=[[]]) ?_ (fun h s=>s.sub (List.nil_sublist _));exact K.r rfl rfl fun _ M=>⟨[],⟨.slice none 0 0,rfl,(Ac.empty _ _).as (by rw[LKc,if_neg H];rfl)⟩,D6 M⟩
 have H:=Classical.not_not.1 H;have O:OkT t:=xtn H;refine ax ?_;refine xdj rfl rfl (fun _ V=>Tx V t T O hG) ?_;intro v Y o;refine ax ?_;exact K.r rfl rfl fun _ M=>⟨Y,⟨v,by rw[H];rfl,o.as (by rw[LKc,if_pos H])⟩,D6 M⟩
theorem Q8{h:Heap}(hp:Per p h)(t:Tn)(T:Ao p a1 t.nH a2 t.nW a3 t.m t)(O:OkT t)(z s:Int)(S:Sg ⟨z,-1,s⟩)(H:0<=z/\z.toNat<t.nH)(bT M:Nat){T1 T2:TypeId}{q1 q2:Nat×Nat}
 (hT:p bT=some (.cells #[.slice a1 t.nH c1,.slice a2 t.nW c2,.slice a3 t.m c3] T1 q1))(hZ:p M=some (.cells #[.J z] T2 q2)):
 Aa prog md 180 #[.J s,w_ bT 0,w_ M 0] h fun v h'=>v=.J (Ly t z s)/\Af h h':=by
 have oH:=O.nh;refine xfz hp func180 fun _ _ _ K=>?_;refine ax ?_;refine xqq [5,6] R11 ?_;refine ex ?_;refine xuk rfl rfl rfl (fun _ pe=>O6 pe t T O ⟨z,-1,s⟩ S) ?_;intro v Y o;have V:=(xrw O.toOk S).div;refine yoj Y rfl rfl rfl (fun h L s=>xul T O V o s) ?_;rintro _ _ ⟨w1,w2,Y1,Y2,rfl,o1,o2,rfl⟩;refine ex ?_;refine ax ?_;refine xpz Y1 Y2 ?_;have Th:=T.h;have a4:=yux O V (h:=z.toNat) H.2;have a5:0<=t.hs.getD z.toNat 0/\t.hs.getD z.toNat 0<=9:=O.h z.toNat H.2;refine xqq [] R9 ?_;refine ex ?_;refine xtk rfl rfl rfl rfl sdt sdt (xtx ⟨⟨H.1,om⟩,Sl.ne Th om⟩) ?_;refine xak rfl rfl rfl sdt (xtx (As.get Th H.2)) ?_;refine ex ?_;refine xof (z:=z) rfl rfl rfl rfl sdt sdt o1 (xtx ⟨H.1,by have e:=xtb (t:=t) (d:=Cr t ⟨z,-1,s⟩);rw[Ae];omega⟩) ?_;refine xev rfl rfl rfl sdt o1 xrx (xs4 (d:=Cr t ⟨z,-1,s⟩) H.2) rfl ?_;refine ex ?_;refine ax ?_;have e:t.hv z.toNat-Au t (Cr t ⟨z,-1,s⟩) z.toNat=Ly t z s:=by unfold Au Ly;omega
 refine xxq func180 rfl rfl fun _ H_=>K _ _ ⟨?_,H_.kept⟩;exact congrArg (Value.int .i64) e
theorem Qy{h:Heap}(hp:Per p h)(t:Tn)(T:Ao p a1 t.nH a2 t.nW a3 t.m t)(O:OkT t)(z s:Int)(S:Sg ⟨-1,z,s⟩)(H:0<=z/\z.toNat<t.nW)(bT M:Nat){T1 T2:TypeId}{q1 q2:Nat×Nat}
 (hT:p bT=some (.cells #[.slice a1 t.nH c1,.slice a2 t.nW c2,.slice a3 t.m c3] T1 q1))(hZ:p M=some (.cells #[.J z] T2 q2)):
 Aa prog md 182 #[.J s,w_ bT 0,w_ M 0] h fun v h'=>v=.J (Ni t z s)/\Af h h':=by
 refine xdq hp func182 fun _ _ _ K=>?_;refine xqq [5,6] R11 ?_;refine ex ?_;refine xuk rfl rfl rfl (fun _ pe=>O6 pe t T O ⟨-1,z,s⟩ S) ?_;intro v Y o;have Dv:=(xrw O.toOk S).div;refine yoj Y rfl rfl rfl (fun h L s=>xul T O Dv o s) ?_;rintro _ _ ⟨w1,w2,Y1,Y2,rfl,o1,V,rfl⟩;refine ex ?_;refine ax ?_;refine xcc Y1 Y2 ?_;refine xcv rfl rfl V H.1 (by rw[Ae,xoh];exact H.2) ?_;refine xog rfl V xrx (yyx H.2) rfl ?_;refine ax ?_;exact K.r rfl rfl fun _ H_=>⟨rfl,H_.kept⟩
theorem c99{h:Heap}(hp:Per p h)(t:Tn)(T:Ao p a1 t.nH a2 t.nW a3 t.m t)(hn:t.nH<=2^30/\t.nW<=2^30/\t.m<=2^30)(z:Int):
 Aa prog md 99 #[.agg #[.slice a1 t.nH c1,.slice a2 t.nW c2,.slice a3 t.m c3],.J z] h fun v h'=>v=.tuple #[.agg #[.J (Do t z (-1)),.J (Do t z 1)],.J (K0 t (decide (0<=z/\z<=(t.nH:Int)-1)))]/\Af h h':=by
 refine xdq hp func99 fun _ _ _ K=>?_;refine xgq rfl fun b2=>?_;refine bq fun b3=>?_;refine lq fun b4=>?_;refine ax ?_;refine xqq [] R4 ?_;refine ex ?_;refine xbv rfl rfl rfl rfl trivial (fun _ M=>c75 M t.nH t.nW t.m c1 c2 c3 om z) ?_;refine ex ?_;refine xiq rfl rfl (fun _ M=>Qz M t T hn (decide (0<=z/\z<=(t.nH:Int)-1))) ?_;refine cq (fun H=>?_) (fun H=>?_)
 ·refine ax ?_;exact K.e rfl (xtq rfl (.tmp rfl .nil)) fun _ H_=>⟨by rw[Do,if_neg H,Do,if_neg H];rfl,H_.kept⟩
 have H:=Classical.not_not.1 H;have O:OkT t:=xtn (xfp H).1;have hz:=of_decide_eq_true (xfp H).2;have oH:=O.nh;refine ax ?_;refine xnw (b:=b2) fun p1 a4 h1=>?_;refine xnw (b:=b3) fun p2 V h2=>?_;have h1:=V _ _ h1;have T2:=Ao.mono T (a4.trans V);refine xsm rfl rfl (fun _ M=>xkq k_ (Q8 M t T2 O z (-1) ⟨(by decide:(-1:Int)<= -1),(by decide:(-1:Int)<=1)⟩ ⟨hz.1,om⟩ b2 b3 h1 h2)) ?_;refine ax ?_;refine xsm rfl rfl (fun _ M=>xkq k_ (Q8 M t T2 O z 1 ⟨(by decide:(-1:Int)<=1),(by decide:(1:Int)<=1)⟩ ⟨hz.1,om⟩ b2 b3 h1 h2)) ?_;refine ax ?_;exact K.e rfl (xtq rfl (.tmp rfl .nil)) fun _ H_=>⟨by rw[Do,if_pos H,Do,if_pos H,H];rfl,H_.kept⟩
theorem Wo{h:Heap}(hp:Per p h)(t:Tn)(T:Ao p a1 t.nH a2 t.nW a3 t.m t)(hn:t.nH<=2^30/\t.nW<=2^30/\t.m<=2^30)(z:Int):
 Aa prog md 101 #[.agg #[.slice a1 t.nH c1,.slice a2 t.nW c2,.slice a3 t.m c3],.J z] h fun v h'=>v=.tuple #[.J (M2 t z),.J (K0 t (decide (0<=z/\z<=(t.nW:Int)-1)))]/\Af h h':=by
 refine xdq hp func101 fun _ _ _ K=>?_;refine xgq rfl fun b2=>?_;refine bq fun b3=>?_;refine ax ?_;refine xqq [] R4 ?_;refine ex ?_;refine xbv rfl rfl rfl rfl trivial (fun _ V=>c76 V t.nH t.nW t.m c1 c2 c3 om z) ?_;refine ex ?_;refine xiq rfl rfl (fun _ V=>Qz V t T hn (decide (0<=z/\z<=(t.nW:Int)-1))) ?_;refine cq (fun H=>?_) (fun H=>?_)
 ·refine ax ?_;exact K.r rfl rfl fun _ M=>⟨by rw[M2,if_neg H];rfl,M.kept⟩
 have H:=Classical.not_not.1 H;have O:OkT t:=xtn (xfp H).1;have hz:=of_decide_eq_true (xfp H).2;have oW:=O.nw;refine ax ?_;refine xnw (b:=b2) fun p1 a5 h1=>?_;refine xnw (b:=b3) fun p2 a4 h2=>?_;have h1:=a4 _ _ h1;have T2:=Ao.mono T (a5.trans a4);refine xsm rfl rfl (fun _ V=>xkq k_ (Qy V t T2 O z (-1) ⟨(by decide:(-1:Int)<= -1),(by decide:(-1:Int)<=1)⟩ ⟨hz.1,om⟩ b2 b3 h1 h2)) ?_;refine cq (fun cd=>?_) (fun cd=>?_)
 ·refine ax ?_;exact K.r rfl rfl fun _ M=>⟨by rw[M2,if_pos H,Oj,if_pos cd,H];rfl,M.kept⟩
 refine ax ?_;refine xsm rfl rfl (fun _ V=>xkq k_ (Qy V t T2 O z 1 ⟨(by decide:(-1:Int)<=1),(by decide:(1:Int)<=1)⟩ ⟨hz.1,om⟩ b2 b3 h1 h2)) ?_;refine cq (fun ce=>?_) (fun ce=>?_)
 ·refine ax ?_;exact K.r rfl rfl fun _ M=>⟨by rw[M2,if_pos H,Oj,if_neg cd,if_pos ce,H];rfl,M.kept⟩
 refine ax ?_;exact K.r rfl rfl fun _ M=>⟨by rw[M2,if_pos H,Oj,if_neg cd,if_neg ce,H];rfl,M.kept⟩
end
theorem Ro{md:Md}{h:Heap}{p:Ab}(O:Per p h)(x:Nat)(hx:0<x/\x<64){V:TypeId}{zT:Nat×Nat}(Z:p 7=some (.cells (Dz.map fun n=>Value.int .u8 ((n:Nat):Int)).toArray V zT)):
 Aa prog md 279 #[.int .u64 (x:Nat)] h fun v h'=>v=.J ((tzN x:Nat):Int)/\Af h h':=by
 have tb:=ypk (tzF x);refine xdq O func279 fun _ _ _ K=>?_;refine xlq rfl (fun H=>absurd H om) (fun H=>?_);refine ax ?_;refine ysc (a:=x) rfl om ?_;refine xz9 (a:=x) (b:=18446744073709551616-x) rfl rfl rfl trivial trivial om ?_;refine ywm (a:=x &&& (18446744073709551616-x)) (b:=285870213051353865) rfl rfl ?_;refine xmn (a:=(x &&& (18446744073709551616-x))*285870213051353865%18446744073709551616) (s:=58) rfl rfl rfl trivial trivial (show _<=64 from by omega) ?_;refine xp9 (len:=64) (e:=5) (i:=tzF x) (c:=⟨7,0,none⟩) k_ rfl rfl (yjc x) ?_;refine xoz rfl (yhm Z (yjc x)) ?_;refine xnk (k':=.i64) ⟨_,underlying5⟩ underlying3 rfl (wrZ om) ?_;refine ax ?_;exact K.r rfl rfl fun _ M=>⟨rfl,M.kept⟩
theorem Uf{md:Md}{h:Heap}{p:Ab}(hp:Per p h)(x:Nat)(hx:0<x/\x<64){O:TypeId}{zT:Nat×Nat}(Z:p 7=some (.cells (Dz.map fun n=>Value.int .u8 ((n:Nat):Int)).toArray O zT)):
 Aa prog md 237 #[.int .u64 (x:Nat)] h fun v V=>v=.J ((tzN x:Nat):Int)/\Af h V:=by
 refine xdq hp func237 fun _ _ _ K=>?_;refine xlq rfl (fun H=>absurd H (fun z=>z)) (fun H=>?_);refine ax ?_;refine xiq rfl rfl (fun _ pe=>Ro pe x hx Z) ?_;refine ax ?_;exact K.r rfl rfl fun _ M=>⟨rfl,M.kept⟩
theorem Qt{md:Md}{h:Heap}{p:Ab}(hp:Per p h)(g:Nat)(V:g<64){tT:TypeId}{zT:Nat×Nat}(Z:p 7=some (.cells (Dz.map fun n=>Value.int .u8 ((n:Nat):Int)).toArray tT zT)):
 Aa prog md 183 #[.int .u64 (g:Nat)] h fun v h'=>∃Y,Ac 3 1 v (ics (LG g)) Y/\New h h' Y:=by
 refine xdq hp func183 fun _ _ _ K=>?_;refine xik (LL':=[[]]) ?_ (fun h s=>s);refine xmq (fun m_ l p_ L_=>∃(n q:Nat)(acc:List Int)(w:Value)(Y:Pcs),m_=q+1/\l=[(0,none,.int .u64 (q:Nat)),(3,none,w)]/\p_=p/\L_=[Y]/\q<64/\M7 n q=true/\acc++H4 n q=LG g/\Ac 3 1 w (ics acc) Y) ⟨6,g,[],.slice none 0 0,[],rfl,rfl,rfl,rfl,V,U1 g V,rfl,Ac.empty _ _⟩ sb ?_;rintro _ _ p _ IH ⟨n,q,acc,w,Y,rfl,rfl,rfl,rfl,hq,M,O,o1⟩;have hlen:acc.length<=6:=by have z:=congrArg List.length O;simp only[List.length_append]at z;have z2:=xh0 g V;omega
 refine cq (fun cc=>?_) (fun cc=>?_)
 ·have H:¬ q=0:=om;obtain⟨n',rfl⟩:∃n',n=n'+1:=by
   cases n with
   |zero=>exact absurd (yqq M) H
   |succ n'=>exact⟨n',rfl⟩
  have z:=Nat.and_le_right (n:=q) (m:=q-1);refine ax ?_;refine xiq rfl rfl (fun _ pe=>Uf pe q om Z) ?_;refine xbz rfl fun v2 Y2 o2=>?_;have o2:Ac 3 1 v2 [[.J ((tzN q:Nat):Int)]] Y2:=o2;refine xfv rfl rfl o1 o2 (xn1 rfl) (by rw[Ae];simp only[List.length_singleton];omega) fun v3 Y3 o3=>?_;have o3:Ac 3 1 v3 (ics (acc++[((tzN q:Nat):Int)])) Y3:=o3.as (ysw);refine ax ?_;refine xz9 (ss':=[]) (a:=q) (b:=q-1) rfl rfl (by show some ([],Value.int .u64 _)=_;rw[show((q:Nat):Int)-1=((q-1:Nat):Int) by omega]) trivial trivial om ?_;refine ax ?_;exact xhq (IH _ _ _ om ⟨n',q &&& (q-1),acc++[((tzN q:Nat):Int)],v3,Y3,rfl,rfl,rfl,rfl,om,yrq M H,by rw[List.append_assoc,List.singleton_append,<- xy6 H];exact O,o3⟩)
 have H:q=0:=om;subst H;rw[xx6,List.append_nil]at O;refine ax ?_;exact K.r rfl rfl fun _ H_=>⟨Y,o1.as (by rw[O]),D6 H_⟩
theorem Vo{md:Md}{h:Heap}{p:Ab}(hp:Per p h){a b:Option Addr}{m n c d:Nat}(xs M:List Int)(A:As p a m xs)(B:As p b n M)(hm:m<=100/\n<=100):
 Aa prog md 185 #[.slice a m c,.slice b n d] h fun v h'=>v=.J (cmpL xs M)/\Af h h':=by
 have a4:=A.len;have a5:=B.len;refine xdq hp func185 fun _ _ _ K=>?_;refine xsq (fun m_ l=>∃k:Nat,m_=m-k/\l=[(0,none,.slice a m c),(1,none,.slice b n d),(9,none,.slice a m c),(10,none,.J (m:Nat)),(11,none,.J (k:Nat))]/\(k<=m/\k<=n)/\cmpL (xs.drop k) (M.drop k)=cmpL xs M) ⟨0,rfl,rfl,⟨Nat.zero_le _,Nat.zero_le _⟩,s_⟩ sb ?_;rintro _ _ IH ⟨k,rfl,rfl,hk,hc⟩;refine cq (fun cc=>?_) (fun cc=>?_)
 ·refine cq (fun O=>?_) (fun O=>?_)
  ·refine ax ?_;exact K.r rfl rfl fun _ H=>⟨congrArg (Value.int .i64) (by rw[<- hc];exact(yqj om om).symm),H.kept⟩
  refine ax ?_;refine xiq rfl rfl (fun _ pe=>Pb pe (xs.getD k 0) (M.getD k 0)) ?_;refine cq (fun V=>?_) (fun V=>?_)
  ·refine ax ?_;exact K.r rfl rfl fun _ H=>⟨congrArg (Value.int .i64) (by rw[<- hc,xb0 om om,if_neg V]),H.kept⟩
  refine ax ?_;exact xhq (IH _ om ⟨k+1,rfl,rfl,om,by rw[<- hc,xb0 (k:=k) om om,if_pos om]⟩)
 refine cq (fun O=>?_) (fun O=>?_)
 ·refine ax ?_;exact K.r rfl rfl fun _ H=>⟨congrArg (Value.int .i64) (by rw[<- hc];exact(yrj om om).symm),H.kept⟩
 refine ax ?_;exact K.r rfl rfl fun _ H=>⟨congrArg (Value.int .i64) (by rw[<- hc];exact(yxb om om).symm),H.kept⟩
theorem Q6{md:Md}{h:Heap}{p:Ab}(hp:Per p h)(fv:Value){a:Option Addr}{n c:Nat}(xs:List Cc)(S:Wys p a n xs)(hn:n<=2^40)(q:Cc->Bool)
 (hf:∀h,Per p h-> ∀i,i<n->Az prog md fv [.agg #[.J (xs.getD i wz).1,.J (xs.getD i wz).2]] h fun v V=>v=.bool (q (xs.getD i wz))/\Af h V):
 Aa prog md 125 #[.slice a n c,fv] h fun v V=>v=.J (C2 q xs)/\Af h V:=by
 have hl:=S.len;refine xdq hp func125 fun _ _ _ K=>?_;refine xsq (fun m l=>∃j:Nat,m=n-j/\l=[(0,none,.slice a n c),(1,none,fv),(7,none,.J n),(8,none,.J j)]/\j<=n/\ ∀i,i<j->q (xs.getD i wz)=false) ⟨0,rfl,rfl,Nat.zero_le _,om⟩ sb ?_;rintro _ _ IH ⟨j,rfl,rfl,hj,h1⟩;refine cq (fun cc=>?_) (fun cc=>?_)
 ·refine ax ?_;refine xfk rfl (S.all om) ?_;refine xsm rfl rfl (fun M pe=>hf M pe j om) ?_;refine cq (fun O=>?_) (fun O=>?_)
  ·refine ax ?_;exact K.r rfl rfl fun M H=>⟨by rw[Cu (z:=wz) (k:=j) om O h1];rfl,H.kept⟩
  ·refine ax ?_;exact xhq (IH _ om ⟨j+1,rfl,rfl,om,C3 h1 (by simpa using O)⟩)
 refine ax ?_;exact K.r rfl rfl fun M H=>⟨by rw[Cs (z:=wz) (fun i hi=>h1 i om)];rfl,H.kept⟩
theorem Sb{md:Md}{h:Heap}{p:Ab}(V:Per p h){M:Value}{a:Option Addr}{n c:Nat}(xs:List Cc)(S:Wys p a n xs)(hn:n<=2^40)(q:Cc->Bool)
 (hf:∀h,Per p h-> ∀i,i<n->Az prog md M [.agg #[.J (xs.getD i wz).1,.J (xs.getD i wz).2]] h fun v H=>v=.bool (q (xs.getD i wz))/\Af h H):
 Aa prog md 239 #[.slice a n c,M] h fun v H=>v=.bool (decide (0<=C2 q xs))/\Af h H:=by
 refine xdq V func239 fun _ _ _ K=>?_;refine xiq rfl rfl (fun _ pe=>Q6 pe M xs S hn q hf) ?_;refine ax ?_;exact K.r rfl rfl fun _ O=>⟨rfl,O.kept⟩
theorem Tr{md:Md}{h:Heap}{p:Ab}(hp:Per p h)(x y H w:Nat)(hx:x<=63)(hg:H<64)(M O:Nat){T1 T2:TypeId}{q1 q2:Nat×Nat}(hW:p M=some (.cells #[.J (w:Nat)] T1 q1))(hG:p O=some (.cells #[.int .u64 (H:Nat)] T2 q2)):
 Aa prog md 238 #[.agg #[.J (x:Nat),.J (y:Nat)],w_ M 0,w_ O 0] h fun v h'=>v=.bool (shq H w ((x:Int),(y:Int)))/\Af h h':=by
 refine xfz hp func238 fun _ _ _ K=>?_;refine bq fun b3=>?_;refine ax ?_;refine xmn (a:=H) (s:=x) rfl rfl rfl sdu sdu (show _<=64 by omega) ?_;refine xz9 (a:=H / 2^x) (b:=1) rfl rfl rfl sdu sdu ⟨Nat.lt_of_le_of_lt (Nat.div_le_self _ _) om,om⟩ ?_;refine ax ?_;refine xxq func238 rfl rfl fun _ V=>K _ _ ⟨?_,V.kept⟩;refine congrArg Value.bool ?_;simp only[shq,Int.toNat_natCast];rw[Bool.eq_iff_iff];simp only[Bool.and_eq_true,decide_eq_true_eq];omega
theorem yvr{md:Md}{h:Heap}{p:Ab}(hp:Per p h){g w:Nat}{x:Cc}(M:0<=x.1/\x.1<=63/\0<=x.2)(V:g<64){H O:Nat}{T1 T2:TypeId}{q1 q2:Nat×Nat}(hW:p H=some (.cells #[.J (w:Nat)] T1 q1))(hG:p O=some (.cells #[.int .u64 (g:Nat)] T2 q2)):
 Aa prog md 238 #[.agg #[.J x.1,.J x.2],w_ H 0,w_ O 0] h fun v h'=>v=.bool (shq g w x)/\Af h h':=by
 obtain⟨a,b⟩:=x;obtain⟨a,rfl⟩:=Int.eq_ofNat_of_zero_le M.1;obtain⟨b,rfl⟩:=Int.eq_ofNat_of_zero_le M.2.2;exact Tr hp a b g w (by have:=M.2.1;simp only at this;omega) V H O hW hG
theorem Qp{md:Md}{h:Heap}{p:Ab}(hp:Per p h){a1 a2 a3:Option Addr}{c1 c2 c3:Nat}(t:Tn)(T:Ao p a1 t.nH a2 t.nW a3 t.m t)(O:OkT t)(g:Nat)(a5:g<2^t.nH){tT:TypeId}{zT:Nat×Nat}(Z:p 7=some (.cells (Dz.map fun n=>Value.int .u8 ((n:Nat):Int)).toArray tT zT)):
 Aa prog md 184 #[.int .u64 (g:Nat),.agg #[.slice a1 t.nH c1,.slice a2 t.nW c2,.slice a3 t.m c3]] h fun v h'=>v=.bool (decide (0<Fy t g))/\Af h h':=by
 have oH:=O.nh;have oW:=O.nw;have oM:=O.nm;have H:g<64:=by have z:=yzc O.toOk;omega
 have a9:=xh0 g H;refine xfz hp func184 fun _ _ _ K=>?_;refine bq fun b1=>?_;refine bq fun b3=>?_;refine xnw (b:=b1) fun p1 a6 h1=>?_;refine xnw (b:=b3) fun p2 V h3=>?_;have h1:p2 b1=some (.cells #[.int .u64 (g:Nat)] _ (0,0)):=V _ _ h1;have h3:p2 b3=some (.cells #[.slice a1 t.nH c1,.slice a2 t.nW c2,.slice a3 t.m c3] _ (0,0)):=h3;have T:=Ao.mono T (a6.trans V);have Z2:=V _ _ (a6 _ _ Z);clear Z;refine ax ?_;refine xdj rfl rfl (fun _ pe=>Qt pe g H Z2) ?_;clear Z2;intro v Y o;refine xpb o (Ae _) fun p3 a n a4 ev D=>?_;subst ev;have T:=Ao.mono T a4;have h1:=a4 _ _ h1;have h3:=a4 _ _ h3;have Th:=T.h;have Tw:=T.w;have D:As p3 a (LG g).length (LG g):=D;refine ax ?_;refine xsq (fun m_ l=>∃k:Nat,m_=(LG g).length-k/\l=[(2,none,w_ b1 0),(3,none,w_ b3 0),(5,none,.J (Ge t g k)),(12,none,.slice a (LG g).length n),(13,none,.J ((LG g).length:Nat)),(14,none,.J (k:Nat))]/\k<=(LG g).length) ⟨0,rfl,rfl,Nat.zero_le _⟩ sb ?_;rintro _ _ IH ⟨k,rfl,rfl,hk⟩;have b0:=yhk O.toOk a5 hk;refine cq (fun cc=>?_) (fun cc=>?_)
 ·have a7:=yfm O.nh a5 k om;have b4:0<=t.hs.getD ((LG g).getD k 0).toNat 0/\t.hs.getD ((LG g).getD k 0).toNat 0<=9:=O.h _ om;refine aw ?_;refine xgl rfl rfl a7.1 a7.2 (Sl.ne Th om) ?_;refine xoz rfl (As.get Th om) ?_;refine ax ?_;exact xhq (IH _ om ⟨k+1,rfl,rfl,om⟩)
 obtain rfl:k=(LG g).length:=om;refine ax ?_;refine xmq (fun m_ l p_ L_=>∃(w:Nat)(s:Int),m_=t.nW-w/\l=[(2,none,w_ b1 0),(3,none,w_ b3 0),(5,none,.J s),(27,none,.slice a2 t.nW c2),(28,none,.J (t.nW:Nat)),(29,none,.J (w:Nat))]/\p_=p3/\L_=[]/\w<=t.nW/\s=Ge t g (LG g).length-Cp t g w) ⟨0,Ge t g (LG g).length,rfl,rfl,rfl,rfl,Nat.zero_le _,by simp[Cp,sm]⟩ sb ?_;clear IH;rintro _ _ p3 _ IH ⟨w,s,rfl,rfl,rfl,rfl,hw,hs⟩;have a8:=xet O.toOk (g:=g) hw;refine cq (fun cc=>?_) (fun cc=>?_)
 ·have b5:0<=t.ws.getD w 0/\t.ws.getD w 0<=21:=O.w w om;refine lq fun b8=>?_;refine ax ?_;refine xnw (b:=b8) fun p4 M h8=>?_;have T4:=Ao.mono T M;refine xiq rfl rfl (fun _ pe=>Sb pe t.wy T4.y om (shq g w) (fun h_ pe i hi=>xkq k_ (yvr pe (ysr O hi) H h8 (M _ _ h1)))) ?_;refine cq (fun ce=>?_) (fun ce=>?_)
  ·refine ax ?_;refine xtv M ?_;exact xhq (IH _ _ _ om ⟨w+1,s-t.ws.getD w 0,rfl,rfl,rfl,rfl,om,by rw[xs6 ce,hs];show _=_-(_+t.ws.getD w 0);omega⟩)
  ·refine ax ?_;refine xtv M ?_;exact xhq (IH _ _ _ om ⟨w+1,s,rfl,rfl,rfl,rfl,om,by rw[ylq ce,hs]⟩)
 obtain rfl:w=t.nW:=om;refine ax ?_;refine xxq func184 rfl rfl fun h_ H_=>K _ _ ⟨?_,H_.kept⟩;rw[hs];rfl
set_option maxHeartbeats 1000000 in
theorem Wm{md:Md}{h:Heap}{p:Ab}(hp:Per p h){a1 a2 a3:Option Addr}{c1 c2 c3:Nat}(t:Tn)(T:Ao p a1 t.nH a2 t.nW a3 t.m t)(hn:t.nH<=2^30/\t.nW<=2^30/\t.m<=2^30){tT:TypeId}{zT:Nat×Nat}(Z:p 7=some (.cells (Dz.map fun n=>Value.int .u8 ((n:Nat):Int)).toArray tT zT)):
 Aa prog md 103 #[.agg #[.slice a1 t.nH c1,.slice a2 t.nW c2,.slice a3 t.m c3]] h fun v h'=>∃Y,(∃w,v=.tuple #[w,.J (Fl t)]/\Ac 3 1 w (ics (F8 t)) Y)/\New h h' Y:=by
 obtain⟨b4,M⟩:∃b4,b4=Dz:=⟨_,rfl⟩
 rw[<- M]at Z;refine xdq hp func103 fun _ _ _ K=>?_;refine xgq rfl fun b1=>?_;refine ax ?_;refine xiq rfl rfl (fun _ pe=>c40 pe t T hn) ?_;refine cq (fun cc=>?_) (fun cc=>?_)
 ·refine ax ?_;refine xik (LL':=[[]]) ?_ (fun h s=>s.sub (List.nil_sublist _));exact K.r rfl rfl fun _ H_=>⟨[],⟨.slice none 0 0,by rw[xx8 cc];rfl,(Ac.empty _ _).as (by rw[xy8 cc];rfl)⟩,D6 H_⟩
 have cc:=Classical.not_not.1 cc;have O:OkT t:=xtn cc;have oH:=O.nh;have b8:=yzc O.toOk;refine ax ?_;refine ypm (s:=t.nH) rfl rfl om ?_;refine xnw (b:=b1) fun p1 b0 h1=>?_;have T:=Ao.mono T b0;have Z:=b0 _ _ Z;refine ax ?_;refine xik (LL':=[[]]) ?_ (fun h s=>s);refine xmq (fun m_ l p_ L_=>∃(k:Nat)(w:Value)(Y:Pcs),m_=2^t.nH-k/\l=[(1,none,w_ b1 0),(5,none,w),(16,none,.int .u64 ((2^t.nH:Nat):Int)),(17,none,.int .u64 (k:Nat))]/\p_=p1/\L_=[Y]/\k<=2^t.nH/\Ac 3 1 w (ics (Ay t k)) Y/\(Ay t k=[]->w=.slice none 0 0)) ⟨0,.slice none 0 0,[],rfl,rfl,rfl,rfl,Nat.zero_le _,Ac.empty _ _,fun _=>rfl⟩ sb ?_;rintro _ _ p1 _ IH ⟨k,w,Y,rfl,rfl,rfl,rfl,hk,o1,hw⟩;refine cq (fun cd=>?_) (fun cd=>?_)
 ·have b3:k<2^t.nH:=om;have a6:k<64:=om;have d5:=xh0 k a6;have d0:(Ay t k).length<=6:=xbl om;refine ax ?_;refine xdj rfl rfl (fun _ pe=>Qt pe k a6 (by rw[<- M];exact Z)) ?_;intro v7 Y7 o7;obtain⟨a7,c7,rfl,-⟩:=o7.val;rw[Ae]at o7⊢;obtain⟨a5,c5,rfl,a9⟩:=o1.val;rw[Ae]at o1 hw⊢;refine ax ?_;by_cases hs:0<Fy t k
  ·refine xiq (v:=.bool true) rfl rfl (fun _ pe=>(Qp pe t T O k b3 (by rw[<- M];exact Z)).mono fun v h' e=>⟨e.1.trans (by rw[decide_eq_true hs]),e.2⟩) ?_;by_cases V:Ay t k=[]
   ·have e:=hw V;injection e with e1 e2 e3;subst e1;refine ax ?_;refine xhl rfl rfl sdu ?_;refine ax ?_;refine xob (.J 0) rfl ?_;refine xob (.J 0) rfl ?_;refine xob (.J 0) rfl ?_;refine ax ?_;refine xlq rfl (fun H=>?_) (fun H=>absurd s_ H);refine ax ?_;exact xhq (IH _ _ _ om ⟨k+1,_,Y7,rfl,rfl,rfl,rfl,om,o7.as (by rw[xbc hs (.inl V)]),fun z=>absurd (by rw[<- xbc hs (.inl V)];exact z) (xms O.toOk hs)⟩)
   ·have b5:0<(Ay t k).length:=List.length_pos_iff.2 V;cases a5 with
    |none=>exact absurd (a9 (by rw[Ae];exact b5)) s_
    |some ad=>
      refine ax ?_;refine xhl rfl rfl sdu ?_;refine ax ?_;refine yfn (v:=.J (cmpL (LG k) (Ay t k))) rfl rfl trivial rfl (by simp[Ax]) (fun h s=>yes o7 (Ae _) o1 (Ae _) s s_ fun p' a cap a' b9 b6 le e e' S S'=>by
       cases e;cases e';exact Vo b6 (LG k) (Ay t k) S S' ⟨om,om⟩) ?_
      refine ax ?_;refine xys rfl rfl (by simp[Ax]) fun v8 Y8 o8=>?_;have o8:Ac 3 1 v8 (ics [((LG k).length:Int)-((Ay t k).length:Int),cmpL (LG k) (Ay t k)]) Y8:=o8;refine xpb (m:=2) o8 rfl fun p2 a8 c8 le ev D=>?_;subst ev;refine xfx (g:=some true) rfl rfl rfl (fun _=>by simp[Ax]) (fun _ _ pe=>Qa pe _ D om) ?_;refine cq (fun H=>?_) (fun H=>?_)
      ·have a4:prec (LG k) (Ay t k):=by simpa using H
       refine ax ?_;refine xtv le ?_;exact xhq (IH _ _ _ om ⟨k+1,_,Y7,rfl,rfl,rfl,rfl,om,o7.as (by rw[xbc hs (.inr a4)]),fun z=>absurd (by rw[<- xbc hs (.inr a4)];exact z) (xms O.toOk hs)⟩)
      ·have a4:¬ prec (LG k) (Ay t k):=fun z=>H (by simpa using z);refine ax ?_;refine xtv le ?_;exact xhq (IH _ _ _ om ⟨k+1,_,Y,rfl,rfl,rfl,rfl,om,o1.as (by rw[xjn V a4]),fun z=>absurd (by rw[<- xjn V a4];exact z) V⟩)
  ·refine xiq (v:=.bool false) rfl rfl (fun _ pe=>(Qp pe t T O k b3 (by rw[<- M];exact Z)).mono fun v h' e=>⟨e.1.trans (by rw[decide_eq_false hs]),e.2⟩) ?_;refine ax ?_;refine xhl rfl rfl sdu ?_;refine ax ?_;refine xob (.J 0) rfl ?_;refine xob (.J 0) rfl ?_;refine xob (.J 0) rfl ?_;refine ax ?_;refine xlq rfl (fun H=>absurd H s_) (fun H=>?_);refine ax ?_;exact xhq (IH _ _ _ om ⟨k+1,_,Y,rfl,rfl,rfl,rfl,om,o1.as (by rw[xkn hs]),fun z=>hw (by rw[<- xkn hs];exact z)⟩)
 have b7:k=2^t.nH:=om;have eP:Ay t k=Fw t:=by rw[b7];rfl
 rw[eP]at o1 hw;obtain⟨a5,c5,rfl,a9⟩:=o1.val;rw[Ae]at o1 hw⊢;by_cases V:Fw t=[]
 ·have e:=hw V;injection e with e1 e2 e3;subst e1;refine ax ?_;refine xhl rfl rfl trivial ?_;refine ax ?_;refine xlq rfl (fun H=>?_) (fun H=>absurd s_ H);refine ax ?_;refine xik (LL':=[[]]) ?_ (fun h s=>s.sub (List.nil_sublist _));exact K.r rfl rfl fun _ H_=>⟨[],⟨.slice none 0 0,by rw[yxk cc V];rfl,(Ac.empty _ _).as (by rw[xtf cc,V];rfl)⟩,D6 H_⟩
 ·cases a5 with
  |none=>exact absurd (a9 (by rw[Ae];exact List.length_pos_iff.2 V)) s_
  |some ad=>
    refine ax ?_;refine xhl rfl rfl trivial ?_;refine ax ?_;refine xlq rfl (fun H=>absurd H s_) (fun H=>?_);refine ax ?_;exact K.r rfl rfl fun _ H_=>⟨Y,⟨_,by rw[yyk cc V];rfl,o1.as (by rw[xtf cc])⟩,D6 H_⟩
end Go.Proofs.YtblcmdjhidhnjaaGreatDoor
