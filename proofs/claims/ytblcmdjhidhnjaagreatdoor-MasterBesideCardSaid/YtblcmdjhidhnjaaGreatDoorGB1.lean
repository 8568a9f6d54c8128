/-
  Part of proofs about a town's master: a calculus for Be beside goroutines that are only leaving, and the Be. No condition.
-/
import Derived.Test.YtblcmdjhidhnjaaGreatDoorGA
import Derived.Lib.UnsafeStr
namespace Go.X
open Go.Conc
abbrev Env:=List (Nat×Option Bool×Value)
def cv:Option Bool->Value->Value
 |none,v=>v
 |some c,v=>bif c then v else undef
def lk:Env->Nat->Option (Option Bool×Value)
 |[],_=>none
 |(j,x)::l,i=>bif Nat.beq j i then some x else lk l i
def B1(tm:List Value)(l:Env):Prop:=∀i g v,lk l i=some (g,v)->tm[i]?=some (cv g v)
theorem B1.set{tm:List Value}{l:Env}{d:Nat}{g:Option Bool}{v:Value}(E:B1 tm l)(H:d<tm.length):B1 (tm.set d (cv g v)) ((d,g,v)::l):=by
 intro i g' v' h;unfold lk at h;by_cases e:d=i
 ·subst e;rw[show Nat.beq d d=true from Nat.beq_refl d]at h;cases h;rw[List.getElem?_set_self H]
 ·rw[show Nat.beq d i=false from by rw[Bool.eq_false_iff];intro z;exact e (Nat.eq_of_beq_eq_true z)]at h;rw[List.getElem?_set_ne e];exact E i g' v' h
def Ax:List Prop->Prop
 |[]=>True
 |p::ps=>p/\Ax ps
theorem xfb{a b:List Prop}(h:Ax (a++b)):Ax a/\Ax b:=by
 induction a with
 |nil=>exact⟨trivial,h⟩
 |cons x a ih=>exact⟨⟨h.1,(ih h.2).1⟩,(ih h.2).2⟩
def evS(l:Env):Operand->Option (List Prop×Value)
 |.tmp t=>match lk l t with
   |some (none,v)=>some ([],v)
   |some (some c,v)=>some ([c=true],v)
   |none=>none
 |.const v=>some ([],v)
 |.global g=>some ([],w_ g 0)
 |.func f=>some ([],.func (.func f) #[] #[])
theorem xeq{tm:List Value}{l:Env}{x:Operand}{ss:List Prop}{v:Value}(E:B1 tm l)(h:evS l x=some (ss,v))(hs:Ax ss):evl tm x=v:=by
 cases x with
 |tmp t=>
   simp only[evS]at h;cases e:lk l t with
   |none=>rw[e]at h;cases h
   |some q=>
     obtain⟨g,u⟩:=q;have H:=E t g u e;rw[e]at h;cases g with
     |none=>
       cases h;simp[evl,List.getD_eq_getElem?_getD,H,cv]
     |some c=>
       cases h;have hc:c=true:=hs.1;subst hc;simp[evl,List.getD_eq_getElem?_getD,H,cv]
 |const u=>simp[evS]at h;simp[evl,h.2]
 |global g=>simp[evS]at h;simp[evl,h.2]
 |func g=>simp[evS]at h;simp[evl,h.2]
def C9(l:Env):List Operand->Option (List Prop×List Value)
 |[]=>some ([],[])
 |x::xs=>match evS l x with
   |some (s,v)=>match C9 l xs with
     |some (ss,vs)=>some (s++ss,v::vs)
     |none=>none
   |none=>none
theorem xnx{tm:List Value}{l:Env}(E:B1 tm l):∀{xs:List Operand}{ss:List Prop}{vs:List Value},C9 l xs=some (ss,vs)->Ax ss->xs.map (evl tm)=vs
 |[],ss,vs,h,_=>by simp[C9]at h;simp[h.2]
 |x::xs,ss,vs,h,hs=>by
   unfold C9 at h;split at h
   ·rename_i s v e1;split at h
    ·rename_i ss' H e2;cases h;have a:=xfb hs;rw[List.map_cons,xeq E e1 a.1,xnx E e2 a.2]
    ·cases h
   ·cases h
def pvI(k:IntKind)(a b:Int):BinOp->Option (List Prop×Value)
 |.add=>some ([k.wrap (a+b)=a+b],.int k (a+b))
 |.sub=>some ([k.wrap (a-b)=a-b],.int k (a-b))
 |.mul=>some ([k.wrap (a*b)=a*b],.int k (a*b))
 |.lss=>some ([],.bool (decide (a<b)))
 |.leq=>some ([],.bool (decide (a<=b)))
 |.gtr=>some ([],.bool (decide (b<a)))
 |.geq=>some ([],.bool (decide (b<=a)))
 |.eql=>some ([],.bool (decide (a=b)))
 |.neq=>some ([],.bool (decide (a≠b)))
 |_=>none
def Pr(k k':IntKind):Bool:=decide (k=k')
def pvB(op:BinOp)(s H:List Prop):Value->Value->Option (List Prop×Value)
 |.int k a,.int k' b=>match Pr k k' with
   |true=>match pvI k a b op with
     |some (ss,v)=>some (s++(H++ss),v)
     |none=>none
   |false=>none
 |_,_=>none
def pvP(l:Env)(a b:Operand)(s:List Prop)(x:Bool):Option (List Prop×Value):=
 match a,b with
 |.const (.bool true),y=>match evS l y with
   |some (s',.bool y)=>some (s++[x=false->Ax s'],.bool (x||y))
   |_=>none
 |y,.const (.bool false)=>match evS l y with
   |some (s',.bool y)=>some (s++[x=true->Ax s'],.bool (x&&y))
   |_=>none
 |_,_=>none
def pv(l:Env):Op->Option (List Prop×Value)
 |.move x=>evS l x
 |.assign x=>evS l x
 |.binOp op _ x y _=>match evS l x with
   |some (s,a)=>match evS l y with
     |some (s',b)=>pvB op s s' a b
     |none=>none
   |none=>none
 |.unOp .not _ x=>match evS l x with
   |some (s,.bool b)=>some (s,.bool (!b))
   |_=>none
 |.unOp .neg _ x=>match evS l x with
   |some (s,.int k a)=>some (s++[k.wrap (0-a)= -a],.int k (-a))
   |_=>none
 |.extract x i=>match evS l x with
   |some (s,.tuple vs)=>match vs[i]? with
     |some v=>some (s,v)
     |none=>none
   |_=>none
 |.pick c a b=>match evS l c with
   |some (s,.bool x)=>pvP l a b s x
   |_=>none
 |_=>none
section
variable{P:Program}{tm:List Value}{h:Heap}{d:Option Tmp}{ty:TypeId}{pos:String}{aft:Array Edge}{gd:Option (Nat×Bool)}{l:Env}
theorem yun{op:BinOp}{T T':TypeId}{x y:Operand}{k:IntKind}{a b:Int}{ss:List Prop}{v:Value}(hv:pvI k a b op=some (ss,v))(hs:Ax ss)(M:evl tm x=.int k a)(H:evl tm y=.int k b):
 Exd P tm ⟨d,.binOp op T x y T',ty,pos,aft,gd⟩ h v:=by
 cases op<;>simp only[pvI,Option.some.injEq,Prod.mk.injEq,reduceCtorEq]at hv<;>obtain⟨rfl,rfl⟩:=hv
 ·exact ysz M H hs.1
 ·exact ykz M H hs.1
 ·exact ylz M H hs.1
 ·exact yel M H
 ·exact ywh M H
 ·exact yal M H
 ·exact ybl M H
 ·exact ycl M H
 ·exact ydl M H
theorem ytn{op:Op}{ss:List Prop}{v:Value}(E:B1 tm l)(hv:pv l op=some (ss,v))(hs:Ax ss):Exd P tm ⟨d,op,ty,pos,aft,gd⟩ h v:=by
 cases op<;>simp only[pv,reduceCtorEq]at hv
 case move x=>exact ylb (xeq E hv hs)
 case assign x=>exact xq7 (xeq E hv hs)
 case binOp op T x y T'=>
  split at hv
  ·rename_i s a e1;split at hv
   ·rename_i H b e2;unfold pvB at hv;split at hv
    ·rename_i k a k' b;split at hv
     ·rename_i V;obtain rfl:k=k':=of_decide_eq_true V;split at hv
      ·rename_i ss' v' O;cases hv;have z:=xfb hs;have M:=xfb z.2;exact yun O M.2 (xeq E e1 z.1) (xeq E e2 M.1)
      ·cases hv
     ·cases hv
    ·cases hv
   ·cases hv
  ·cases hv
 case unOp op T x=>
  cases op<;>simp only[reduceCtorEq]at hv
  ·split at hv
   ·rename_i s k a e1;cases hv;have z:=xfb hs;exact xx1 (xeq E e1 z.1) z.2.1
   ·cases hv
  ·split at hv
   ·rename_i s b e1;cases hv;exact yvh (xeq E e1 hs)
   ·cases hv
 case extract x i=>
  split at hv
  ·rename_i s vs e1;split at hv
   ·rename_i u e2;cases hv;exact xfm (xeq E e1 hs) e2
   ·cases hv
  ·cases hv
 case pick c a b=>
  split at hv
  ·rename_i s x e1;unfold pvP at hv;split at hv
   ·split at hv
    ·rename_i H y e2;cases hv;have z:=xfb hs;cases x with
     |true=>exact xap (xeq E e1 z.1) rfl rfl
     |false=>exact xbp (xeq E e1 z.1) rfl (xeq E e2 (z.2.1 rfl))
    ·cases hv
   ·split at hv
    ·rename_i H y e2;cases hv;have z:=xfb hs;cases x with
     |true=>exact xap (xeq E e1 z.1) rfl ((xeq E e2 (z.2.1 rfl)).trans s_)
     |false=>exact xbp (xeq E e1 z.1) rfl rfl
    ·cases hv
   ·cases hv
  ·cases hv
end
structure Cx where
 P:Program
 md:Md
 f:FuncId
 r:Rd
 n:Nat
 df:List Deferred
 cs:List Frame
 Stop:Goroutine->Heap->Prop
 z9:Heap
 zz:List Nat
structure RE(X:Cx)(k:List Item)(l:Env)(p:Ab)(LL:List Pcs):Prop where
 run:∀tm:List Value,tm.length=X.n->B1 tm l->RS X.P X.md (G (FL X.f X.r tm X.df k) X.cs) (fun h=>St X.z9 X.zz p h LL.flatten) X.Stop
def okD(n:Nat):List Oper->Bool
 |[]=>true
 |o::os=>match o.dst with
   |some d=>Nat.blt d n&&okD n os
   |none=>okD n os
structure RO(X:Cx)(k:List Item)(ops rest:List Oper)(l:Env)(p:Ab)(LL:List Pcs):Prop where
 run:okD X.n rest=true-> ∀tm:List Value,tm.length=X.n->B1 tm l->RL X.P X.md X.f X.r X.df k X.cs X.Stop ops rest tm (fun h=>St X.z9 X.zz p h LL.flatten)
def gdc(ops:List Oper)(l:Env):Option (Nat×Bool)->Option (Option Bool)
 |none=>some none
 |some (j,w)=>match ops[j]? with
   |some o=>match o.dst with
     |some d=>match lk l d with
       |some (none,.bool b)=>match w with
         |true=>some (some b)
         |false=>some (some (!b))
       |some (some c,.bool b)=>match w with
         |true=>some (some (c&&b))
         |false=>some (some (c&&!b))
       |_=>none
     |none=>none
   |none=>none
def Av:Option Bool->Prop->Prop
 |none,p=>p
 |some c,p=>c=true->p
def ent:Option Tmp->Option Bool->Value->Env->Env
 |some d,g,v,l=>(d,g,v)::l
 |none,_,_,l=>l
theorem xjq{n:Nat}{o:Oper}{os:List Oper}(h:okD n (o::os)=true):okD n os=true/\ ∀d,o.dst=some d->d<n:=by
 unfold okD at h;split at h
 ·rename_i d e;simp only[Bool.and_eq_true]at h;exact⟨h.2,fun M H=>by rw[e]at H;cases H;exact Nat.le_of_ble_eq_true h.1⟩
 ·rename_i e;exact⟨h,fun M H=>by rw[e]at H;cases H⟩
theorem B1.ent{tm:List Value}{l:Env}{d:Option Tmp}{g:Option Bool}{v:Value}{n:Nat}(E:B1 tm l)(hn:tm.length=n)(H:∀i,d=some i->i<n):B1 (Cm tm d (cv g v)) (ent d g v l):=by
 cases d with
 |none=>exact E
 |some d=>exact E.set (by rw[hn];exact H d rfl)
theorem Aw{tm:List Value}{d:Option Tmp}{v:Value}:(Cm tm d v).length=tm.length:=by cases d<;>simp[Cm]
theorem xzv{ops:List Oper}{tm:List Value}{l:Env}{o:Oper}{g:Option Bool}(E:B1 tm l)(h:gdc ops l o.guard=some g):
 (g=none/\Met ops tm o true)\/ ∃c,g=some c/\Met ops tm o c:=by
 cases H:o.guard with
 |none=>
   rw[H]at h;simp only[gdc]at h;cases h;exact .inl ⟨rfl,xrq H⟩
 |some q=>
   obtain⟨j,w⟩:=q;rw[H]at h;simp only[gdc]at h;right;split at h
   ·rename_i o' ho;split at h
    ·rename_i d hd;split at h
     ·rename_i b V;have O:=E _ _ _ V;have M:Ej ops tm j=some b:=by unfold Ej;simp[ho,hd,O,cv]
      cases w<;>exact⟨_,(Option.some.inj h).symm,by cases b<;>simp[Met,H,M]⟩
     ·rename_i c b V;have O:=E _ _ _ V;cases c with
      |true=>
        have M:Ej ops tm j=some b:=by unfold Ej;simp[ho,hd,O,cv]
        cases w<;>exact⟨_,(Option.some.inj h).symm,by cases b<;>simp[Met,H,M]⟩
      |false=>
        have M:Ej ops tm j=none:=by unfold Ej;simp[ho,hd,O,cv,undef]
        cases w<;>exact⟨_,(Option.some.inj h).symm,by simp[Met,H,M]⟩
     ·cases h
    ·cases h
   ·cases h
section
variable{X:Cx}{k:List Item}{ops rest:List Oper}{l:Env}{p:Ab}{LL:List Pcs}{g:Option Bool}{v:Value}{d:Option Tmp}{op:Op}{ty:TypeId}{pos:String}{aft:Array Edge}{gd:Option (Nat×Bool)}
theorem xjx(hg:gdc ops l gd=some g)(O:Bh op=true)(V:Av g (∀tm h,B1 tm l->St X.z9 X.zz p h LL.flatten->Exd X.P tm ⟨d,op,ty,pos,aft,gd⟩ h v))
 (n:RO X k ops rest (ent d g v l) p LL):RO X k ops (⟨d,op,ty,pos,aft,gd⟩::rest) l p LL:=by
 constructor;intro ok tm ht E;have H:=xjq ok;have go:∀u,u=cv g v->RL X.P X.md X.f X.r X.df k X.cs X.Stop ops rest (Cm tm d u) (fun h=>St X.z9 X.zz p h LL.flatten):=fun u e=>by
  subst e;exact n.run H.1 _ (Aw.trans ht) (E.ent ht H.2)
 rcases xzv (o:=⟨d,op,ty,pos,aft,gd⟩) E hg with⟨rfl,M⟩|⟨c,rfl,M⟩
 ·exact yyc M (fun h s=>V tm h E s) rfl (go _ rfl) O
 ·cases c with
  |true=>exact yyc M (fun h s=>V rfl tm h E s) rfl (go _ rfl) O
  |false=>exact xqb M rfl (go _ rfl)
theorem xuq{g:Option Bool}{p q:Prop}(h:Av g p)(i:p->q):Av g q:=by
 cases g with
 |none=>exact i h
 |some c=>exact fun hc=>i (h hc)
theorem xqn{op:Op}{q:List Prop×Value}(h:pv l op=some q):Bh op=true:=by cases op<;>first|rfl|(simp[pv]at h)
theorem xrv{ss:List Prop}(H:gdc ops l gd=some g)(hv:pv l op=some (ss,v))(hs:Av g (Ax ss))(n:RO X k ops rest (ent d g v l) p LL):RO X k ops (⟨d,op,ty,pos,aft,gd⟩::rest) l p LL:=
 xjx H (xqn hv) (xuq hs fun a _ _ E _=>ytn E hv a) n
theorem xwp{id:Nat}{os:List Oper}(n:RO X k os os l p LL)(M:okD X.n os=true):RE X (.code (.region id os.toArray false)::k) l p LL:=
 ⟨fun tm H E=>yjv (n.run M tm H E)⟩
theorem xu9(n:RE X k l p LL):RO X k ops [] l p LL:=⟨fun _ tm H E=>ymn (n.run tm H E)⟩
theorem ymq{x y:Code}(n:RE X (.code x::.code y::k) l p LL):RE X (.code (.seq x y)::k) l p LL:=⟨fun tm H E=>yqp (n.run tm H E)⟩
theorem xd1(n:RE X k l p LL):RE X (.code .skip::k) l p LL:=⟨fun tm H E=>yjh (n.run tm H E)⟩
theorem xwf{id:Nat}(n:RE X k l p LL):RE X (.inBlock id::k) l p LL:=⟨fun tm H E=>xh7 (n.run tm H E)⟩
theorem xyp{id:Nat}{c:Code}(n:RE X (.code c::.inBlock id::k) l p LL):RE X (.code (.block id c)::k) l p LL:=⟨fun tm H E=>yzw (n.run tm H E)⟩
theorem xg1{id:Nat}{k':List Item}(M:exitTo id k=some k')(n:RE X k' l p LL):RE X (.code (.exit id)::k) l p LL:=⟨fun tm H E=>yph M (n.run tm H E)⟩
class BP(x:Bool)(q:outParam Prop):Prop where
 iff:x=true<->q
instance{q:Prop}[Decidable q]:BP (decide q) q:=⟨s_⟩
instance:BP true True:=⟨s_⟩
instance:BP false False:=⟨s_⟩
instance{x y:Bool}{a b:Prop}[i:BP x a][j:BP y b]:BP (x||y) (a\/b):=⟨by rw[<- i.iff,<- j.iff];simp⟩
instance{x y:Bool}{a b:Prop}[i:BP x a][j:BP y b]:BP (x&&y) (a/\b):=⟨by rw[<- i.iff,<- j.iff];simp⟩
instance{x:Bool}{a:Prop}[i:BP x a]:BP (!x) (¬ a):=⟨by rw[<- i.iff];simp⟩
instance(priority:=low){x:Bool}:BP x (x=true):=⟨Iff.rfl⟩
theorem xlq{c:Operand}{a b:Code}{x:Bool}{q:Prop}(hc:evS l c=some ([],.bool x))[i:BP x q](O:q->RE X (.code a::k) l p LL)(M:¬ q->RE X (.code b::k) l p LL):RE X (.code (.cond c a b)::k) l p LL:=
 ⟨fun tm H E=>yis (xeq E hc trivial) (fun e=>(O (i.iff.1 e)).run tm H E) (fun e=>(M (fun z=>by rw[i.iff.2 z]at e;cases e)).run tm H E)⟩
def Mz(l l':Env):Prop:=match l' with
 |[]=>True
 |(i,x)::l'=>lk l i=some x/\Mz l l'
theorem Mz.ok{tm:List Value}{l:Env}:∀{l':Env},Mz l l'->B1 tm l->B1 tm l'
 |[],_,_=>fun i g v h=>by cases h
 |(j,x)::l',s,E=>fun i g v h=>by
   unfold lk at h;cases e:Nat.beq j i with
   |true=>
     rw[e]at h;obtain rfl:=Nat.eq_of_beq_eq_true e;cases h;exact E _ _ _ s.1
   |false=>rw[e]at h;exact s.2.ok E i g v h
theorem xox{l':Env}(n:RE X k l' p LL)(s:Mz l l'):RE X k l p LL:=⟨fun tm H E=>n.run tm H (s.ok E)⟩
theorem xik{p':Ab}{LL':List Pcs}(n:RE X k l p' LL')(h:∀h,St X.z9 X.zz p h LL.flatten->St X.z9 X.zz p' h LL'.flatten):RE X k l p LL:=⟨fun tm H E=>xuf (n.run tm H E) h⟩
theorem xmq{c:Code}{m₀:Nat}(I:Nat->Env->Ab->List Pcs->Prop){l':Env}(start:I m₀ l' p LL)(s:Mz l l')
 (H:∀m l p LL,(∀{m'}l' p' LL',m'<m->I m' l' p' LL'->RE X (.inLoop c::k) l' p' LL')->I m l p LL->RE X (.code c::.inLoop c::k) l p LL):RE X (.code (.loop c)::k) l p LL:=by
 constructor;intro tm ht E;refine ynh (m₀:=m₀) (fun m tm' h=>∃l p LL,(tm'.length=X.n/\B1 tm' l/\I m l p LL)/\St X.z9 X.zz p h LL.flatten) (fun h y=>⟨l',p,LL,⟨ht,s.ok E,start⟩,y⟩) ?_;intro m tm' ih;refine xn6 fun l1=>xn6 fun p1=>xn6 fun V=>ync fun⟨h1,h2,h3⟩=>?_;exact(H m l1 p1 V (fun{m'}l' p' LL' lt i=>⟨fun O M E2 h y=>ih m' O lt h ⟨l',p',LL',⟨M,E2,i⟩,y⟩⟩) h3).run tm' h1 h2
theorem xsq{c:Code}{m₀:Nat}(I:Nat->Env->Prop){l':Env}(start:I m₀ l')(s:Mz l l')
 (H:∀m l,(∀{m'}l',m'<m->I m' l'->RE X (.inLoop c::k) l' p LL)->I m l->RE X (.code c::.inLoop c::k) l p LL):RE X (.code (.loop c)::k) l p LL:=
 xmq (fun m l p' L'=>I m l/\p'=p/\L'=LL) ⟨start,rfl,rfl⟩ s fun m l _ _ M⟨i,e1,e2⟩=>by subst e1;subst e2;exact H m l (fun l' lt i=>M l' _ _ lt ⟨i,rfl,rfl⟩) i
structure Hid(K:Prop):Prop where
 out:K
theorem sb{p:Prop}(h:p:=by repeat (first|exact trivial|refine⟨rfl,?_⟩)):p:=h
theorem gd2{c:Bool}{q p:Prop}[i:BP c q](h:c=true->q->p):Av (some c) p:=fun e=>h e (i.iff.1 e)
theorem Og{a b:Bool}(h:(a&&b)=true):a=true:=by cases a<;>simp_all
theorem P7{a b:Bool}(h:(a&&b)=true):b=true:=by cases a<;>simp_all
def nth:List Value->Nat->Option Value
 |[],_=>none
 |v::_,0=>some v
 |_::l,i+1=>nth l i
theorem xsl:∀{l:List Value}{i:Nat}{v:Value},nth l i=some v->l[i]?=some v
 |[],_,_,h=>by cases h
 |_::_,0,_,h=>h
 |_::l,_+1,_,h=>xsl (l:=l) h
end
class Bx(LL:List Pcs)(b:Nat)(o:outParam Obj)(LR:outParam (List Pcs)):Prop where h:LL.flatten.Perm ((b,o)::LR.flatten)
instance(priority:=high){LL:List Pcs}{b:Nat}{o:Obj}:Bx ([(b,o)]::LL) b o LL:=⟨List.Perm.refl _⟩
instance{LL LR:List Pcs}{X:Pcs}{b:Nat}{o:Obj}[i:Bx LL b o LR]:Bx (X::LL) b o (X::LR):=
 ⟨(List.Perm.append_left X i.h).trans s_⟩
class Rm(LL:List Pcs)(Y:Pcs)(LR:outParam (List Pcs)):Prop where h:LL.flatten.Perm (Y++LR.flatten)
instance(priority:=high){LL:List Pcs}{Y:Pcs}:Rm (Y::LL) Y LL:=⟨List.Perm.refl _⟩
instance{LL LR:List Pcs}{X Y:Pcs}[i:Rm LL Y LR]:Rm (X::LL) Y (X::LR):=
 ⟨(List.Perm.append_left X i.h).trans (by simpa[<- List.append_assoc]using List.Perm.append_right LR.flatten (List.perm_append_comm (l₁:=X) (l₂:=Y)))⟩
inductive RmI:List Pcs->Pcs->List Pcs->Prop
 |head {LL:List Pcs} {Y Y':Pcs} (e:Y=Y'):RmI (Y::LL) Y' LL
 |tail {LL LR:List Pcs} {X Y:Pcs} (i:RmI LL Y LR):RmI (X::LL) Y (X::LR)
theorem RmI.ok{LL LR:List Pcs}{Y:Pcs}(i:RmI LL Y LR):LL.flatten.Perm (Y++LR.flatten):=by
 induction i with
 |head e=>subst e;exact List.Perm.refl _
 |@tail LL LR X Y i ih=>exact(List.Perm.append_left X ih).trans (by simpa[<- List.append_assoc]using List.Perm.append_right LR.flatten (List.perm_append_comm (l₁:=X) (l₂:=Y)))
inductive Me:List Pcs->List Pcs->Prop
 |nil {LL:List Pcs}:Me LL []
 |cons {LL LR LL':List Pcs} {Y:Pcs} (i:RmI LL Y LR) (s:Me LR LL'):Me LL (Y::LL')
theorem Me.ok{LL LL':List Pcs}(s:Me LL LL'):∃R,LL.flatten.Perm (LL'.flatten++R):=by
 induction s with
 |@nil LL=>exact⟨LL.flatten,List.Perm.refl _⟩
 |@cons LL LR LL' Y i s ih=>
   obtain⟨R,h⟩:=ih;exact⟨R,i.ok.trans (by rw[List.flatten_cons,List.append_assoc];exact List.Perm.append_left Y h)⟩
theorem sl{p:Prop}(h:p:=by repeat (first|exact Me.nil|apply Me.cons|exact RmI.head rfl|apply RmI.tail)):p:=h
section
variable{z9 h:Heap}{zz:List Nat}{p:Ab}{LL LR:List Pcs}{b:Nat}{o:Obj}{Y:Pcs}
theorem St.bx(i:Bx LL b o LR)(s:St z9 zz p h LL.flatten):St z9 zz p h ((b,o)::LR.flatten):=s.perm i.h
theorem St.rm(i:Rm LL Y LR)(s:St z9 zz p h LL.flatten):St z9 zz p h (Y++LR.flatten):=s.perm i.h
end
theorem xhq{X:Cx}{k:List Item}{l l':Env}{p:Ab}{LL LL':List Pcs}(n:RE X k l' p LL')(s:Mz l l':=by repeat (first|exact trivial|refine⟨rfl,?_⟩))(i:Me LL LL':=by repeat (first|exact Me.nil|apply Me.cons|exact RmI.head rfl|apply RmI.tail)):RE X k l p LL:=
 xox (xik n fun _ y=>by
  obtain⟨R,e⟩:=i.ok;exact(y.perm e).sub (List.sublist_append_left _ _)) s
section
variable{X:Cx}{k:List Item}{ops rest:List Oper}{l:Env}{p:Ab}{LL LR:List Pcs}{g:Option Bool}{d:Option Tmp}{ty:TypeId}{pos:String}{aft:Array Edge}{gd:Option (Nat×Bool)}{ss ss':List Prop}{x y:Operand}
theorem xwz{g:Option Bool}{p q r:Prop}(h:Av g p)(h':Av g q)(i:p->q->r):Av g r:=by
 cases g with
 |none=>exact i h h'
 |some c=>exact fun hc=>i (h hc) (h' hc)
theorem xz0{t:TypeId}{b off:Nat}{cs:Array Value}{T:TypeId}{z:Nat×Nat}{u:Value}(H:gdc ops l gd=some g)(M:evS l x=some (ss,w_ b off))(hs:Av g (Ax ss))[a:Bw X.P t false][m:Bx LL b (.cells cs T z) LR]
 (n:RO X k ops rest (ent d g u l) p LL)(hv:nth cs.toList off=some u:=by rfl):RO X k ops (⟨d,.load t x,ty,pos,aft,gd⟩::rest) l p LL:=
 xjx H rfl (xuq hs fun hs _ _ E s=>xwb (i:=0) (s.bx m) a.h (xeq E M hs) rfl (by rw[<- Array.getElem?_toList];exact xsl hv)) n
theorem xl9{t:TypeId}{b off nn:Nat}{cs:Array Value}{T:TypeId}{z:Nat×Nat}(H:gdc ops l gd=some g)(M:evS l x=some (ss,w_ b off))(hs:Av g (Ax ss))[a:Bw X.P t true][sz:Ai X.P t nn][m:Bx LL b (.cells cs T z) LR]
 (n:RO X k ops rest (ent d g (.agg ((cs.toList.drop off).take nn).toArray) l) p LL)(hn:((cs.toList.drop off).take nn).length=nn:=by rfl):RO X k ops (⟨d,.load t x,ty,pos,aft,gd⟩::rest) l p LL:=
 xjx H rfl (xuq hs fun hs _ _ E s=>xcb (i:=0) (s.bx m) a.h sz.h (xeq E M hs) rfl rfl hn) n
theorem xhb{t:TypeId}{a:Addr}{u:Value}(H:gdc ops l gd=some g)(M:evS l x=some (ss,.pointer (some a)))(hs:Av g (Ax ss))(hv:Av g (At p a=some u))[ag:Bw X.P t false]
 (n:RO X k ops rest (ent d g u l) p LL):RO X k ops (⟨d,.load t x,ty,pos,aft,gd⟩::rest) l p LL:=
 xjx H rfl (xwz hs hv fun hs hv _ _ E s=>xvb s ag.h (xeq E M hs) hv) n
theorem xad{t:TypeId}{a:Addr}{nn:Nat}{vs:List Value}(H:gdc ops l gd=some g)(M:evS l x=some (ss,.pointer (some a)))(hs:Av g (Ax ss))(hv:Av g (∀j v,vs[j]?=some v->At p (a.add j)=some v))[ag:Bw X.P t true][sz:Ai X.P t nn]
 (n:RO X k ops rest (ent d g (.agg vs.toArray) l) p LL)(hn:vs.length=nn:=by rfl):RO X k ops (⟨d,.load t x,ty,pos,aft,gd⟩::rest) l p LL:=
 xjx H rfl (xwz hs hv fun hs hv _ _ E s=>xbb s ag.h sz.h (xeq E M hs) hn hv) n
theorem yeg{s:TypeId}{i H nn:Nat}{a:Addr}(M:gdc ops l gd=some g)(O:evS l x=some (ss,.pointer (some a)))(hs:Av g (Ax ss))[f:Bt X.P s i H nn](n:RO X k ops rest (ent d g (.pointer (some (a.add H))) l) p LL):
 RO X k ops (⟨d,.fieldAddr s x i,ty,pos,aft,gd⟩::rest) l p LL:=
 xjx M rfl (xuq hs fun hs _ _ E _=>xgv f.h (xeq E O hs) rfl) n
theorem xk9{t e:TypeId}{a:Option Addr}{m c:Nat}(H:gdc ops l gd=some g)(M:evS l x=some (ss,.slice a m c))(hs:Av g (Ax ss))[f:Bv X.P t e](n:RO X k ops rest (ent d g (.J m) l) p LL):
 RO X k ops (⟨d,.call ⟨.builtin .len,#[x],#[t]⟩,ty,pos,aft,gd⟩::rest) l p LL:=
 xjx H rfl (xuq hs fun hs _ _ E _=>xy1 f.h (xeq E M hs)) n
theorem xo9{t e:TypeId}{a:Option Addr}{m c w i:Nat}{V:IntKind}(O:gdc ops l gd=some g)(hx:evS l x=some (ss,.slice a m c))(M:evS l y=some (ss',.int V (i:Nat)))(hs:Av g (Ax ss))(H:Av g (Ax ss'))(hi:Av g (i<m/\a=some (adr a)))
 [f:Bv X.P t e][sz:Ai X.P e w](n:RO X k ops rest (ent d g (.pointer (some ((adr a).add (i*w)))) l) p LL):RO X k ops (⟨d,.indexAddr t x y,ty,pos,aft,gd⟩::rest) l p LL:=
 xjx O rfl (xwz hi (xwz hs H And.intro) fun hi hs _ _ E _=>xxk f.h sz.h ((xeq E hx hs.1).trans (xs0 m c hi.2)) (xeq E M hs.2) hi.1) n
theorem xo6{t e:TypeId}{a:Option Addr}{m c w i:Nat}{V:IntKind}(O:evS l x=some ([],.slice a m c))(M:evS l y=some ([],.int V (i:Nat)))(hi:i<m)(H:a=some (adr a))
 [f:Bv X.P t e][sz:Ai X.P e w](n:RO X k ops rest (ent d none (.pointer (some ((adr a).add (i*w)))) l) p LL):RO X k ops (⟨d,.indexAddr t x y,ty,pos,aft,none⟩::rest) l p LL:=
 xo9 (g:=none) rfl O M trivial trivial ⟨hi,H⟩ n
theorem xoz{t:TypeId}{a:Addr}{u:Value}(H:evS l x=some ([],.pointer (some a)))(hv:At p a=some u)[ag:Bw X.P t false](n:RO X k ops rest (ent d none u l) p LL):RO X k ops (⟨d,.load t x,ty,pos,aft,none⟩::rest) l p LL:=
 xhb (g:=none) rfl H trivial hv n
theorem xfk{t:TypeId}{a:Addr}{nn:Nat}{vs:List Value}(H:evS l x=some ([],.pointer (some a)))(hv:∀j v,vs[j]?=some v->At p (a.add j)=some v)[ag:Bw X.P t true][sz:Ai X.P t nn]
 (n:RO X k ops rest (ent d none (.agg vs.toArray) l) p LL)(hn:vs.length=nn:=by rfl):RO X k ops (⟨d,.load t x,ty,pos,aft,none⟩::rest) l p LL:=
 xad (g:=none) rfl H trivial hv n hn
theorem xgq{dd:Nat}{T:TypeId}{v:Value}(O:evS l x=some ([],v))(n:∀b,RO X k ops rest ((dd,none,w_ b 0)::l) p ([(b,.cells v.cells T (0,0))]::LL)):
 RO X k ops (⟨some dd,.box T x,ty,pos,aft,none⟩::rest) l p LL:=⟨fun M tm H E=>
 ynn (xrq rfl) (xeq E O trivial) fun b=>(n b).run (xjq M).1 _ (by simp[H]) (E.set (g:=none) (H ▸ (xjq M).2 dd rfl))⟩
theorem xyq{dd:Nat}{T:TypeId}{z:Value}[i:A5 X.P T z](n:∀b,RO X k ops rest ((dd,none,w_ b 0)::l) p ([(b,.cells z.cells T (0,0))]::LL)):
 RO X k ops (⟨some dd,.alloc T,ty,pos,aft,none⟩::rest) l p LL:=⟨fun M tm H E=>
 ynv (xrq rfl) i.h rfl fun b=>(n b).run (xjq M).1 _ (by simp[H]) (E.set (g:=none) (H ▸ (xjq M).2 dd rfl))⟩
theorem xnc{T T':TypeId}{b off H:Nat}{cs:List Value}{v:Value}(hx:evS l x=some ([],w_ b off))(M:evS l y=some ([],v))[sz:Ai X.P T H][m:Bx LL b (.cells cs.toArray T' (0,0)) LR]
 (n:RO X k ops rest l p ([(b,.cells (B6 cs off v.cells.toList).toArray T' (0,0))]::LR))(hv:v.cells.size=H:=by rfl)(h1:v.cells.toList.all A7=true:=by rfl)(hlen:off+v.cells.size<=cs.length:=by exact Nat.le_of_ble_eq_true rfl):
 RO X k ops (⟨none,.store T x y,ty,pos,aft,none⟩::rest) l p LL:=⟨fun V tm O E=>
 xa1 (xq3 (i:=0) (xrq rfl) sz.h (xeq E hx trivial) (xeq E M trivial) rfl hv h1 hlen rfl (n.run (xjq V).1 tm O E)) fun _ s=>s.bx m⟩
theorem xfx{args:List Operand}{ats:Array TypeId}{ff:FuncId}{first cap vs:List Value}{v:Value}(hg:gdc ops l gd=some g)
 (hx:evS l x=some ([],.func (.func ff) first.toArray cap.toArray))(V:C9 l args=some (ss,vs))(hs:Av g (Ax ss))(hc:Av g (∀h,Per p h->Aa X.P X.md ff (first++(vs++cap)).toArray h fun v' h'=>v'=v/\Af h h'))(n:RO X k ops rest (ent d g v l) p LL)(hf:Am X.P ff=true:=by kernel_rfl):
 RO X k ops (⟨d,.call ⟨.value x,args.toArray,ats⟩,ty,pos,aft,gd⟩::rest) l p LL:=by
 constructor;intro ok tm ht E;have M:=xjq ok;have go:∀u,u=cv g v->RL X.P X.md X.f X.r X.df k X.cs X.Stop ops rest (Cm tm d u) (fun h=>St X.z9 X.zz p h LL.flatten):=fun u e=>by
  subst e;exact n.run M.1 _ (Aw.trans ht) (E.ent ht M.2)
 have O:Met ops tm ⟨d,.call ⟨.value x,args.toArray,ats⟩,ty,pos,aft,gd⟩ true->Ax ss->(∀h,Per p h->Aa X.P X.md ff (first++(vs++cap)).toArray h fun v' h'=>v'=v/\Af h h')->v=cv g v->
  RL X.P X.md X.f X.r X.df k X.cs X.Stop ops (⟨d,.call ⟨.value x,args.toArray,ats⟩,ty,pos,aft,gd⟩::rest) tm (fun h=>St X.z9 X.zz p h LL.flatten):=fun H hs hc e=>
  xr3 H (xeq E hx trivial) (by rw[xnx E V hs]) hf (fun h s=>hc h fun b o e=>s.per b o e) rfl (go _ e)
 rcases xzv (o:=⟨d,.call ⟨.value x,args.toArray,ats⟩,ty,pos,aft,gd⟩) E hg with⟨rfl,H⟩|⟨c,rfl,H⟩
 ·exact O H hs hc rfl
 ·cases c with
  |true=>exact O H (hs rfl) (hc rfl) rfl
  |false=>exact xqb H rfl (go _ rfl)
theorem xiq{args:List Operand}{ats:Array TypeId}{ff:FuncId}{first cap vs:List Value}{v:Value}(M:evS l x=some ([],.func (.func ff) first.toArray cap.toArray))(H:C9 l args=some ([],vs))
 (hc:∀h,Per p h->Aa X.P X.md ff (first++(vs++cap)).toArray h fun v' h'=>v'=v/\Af h h')(n:RO X k ops rest (ent d none v l) p LL)(hf:Am X.P ff=true:=by kernel_rfl):
 RO X k ops (⟨d,.call ⟨.value x,args.toArray,ats⟩,ty,pos,aft,none⟩::rest) l p LL:=xfx (g:=none) rfl M H trivial hc n hf
def Gn:Nat->List Value->Env
 |_,[]=>[]
 |i,v::vs=>(i,none,v)::Gn (i+1) vs
theorem xjc:∀{vs:List Value}{i j:Nat}{g:Option Bool}{v:Value},lk (Gn i vs) j=some (g,v)->g=none/\ ∃m,j=i+m/\vs[m]?=some v
 |[],i,j,g,v,h=>by cases h
 |u::vs,i,j,g,v,h=>by
   unfold Gn lk at h;cases e:Nat.beq i j with
   |true=>rw[e]at h;cases h;exact⟨rfl,0,(Nat.eq_of_beq_eq_true e).symm,rfl⟩
   |false=>
     rw[e]at h;obtain⟨rfl,m,rfl,H⟩:=xjc h;exact⟨rfl,m+1,om,H⟩
theorem xfz{P:Program}{md:Md}{f:FuncId}{fn:Func}{c:Code}{args:List Value}{R:Value->Heap->Prop}{h:Heap}{p:Ab}(V:Per p h)(hf:P.funcs[f]?=some fn)
 (x:∀(zq:Frame)(cs:List Frame)(Stop:Goroutine->Heap->Prop),(∀v h',R v h'->Reach P md (G (zq.finish v) cs) h' Stop)->RE ⟨P,md,f,.none,fn.ntmps,[],zq::cs,Stop,h,[]⟩ [.code c] (Gn 0 args) p [])
 (O:fn.body=some c:=by rfl)(hn:Nat.ble args.length fn.ntmps=true:=by rfl):Aa P md f args.toArray h R:=
 xed (Φ:=fun h'=>St h [] p h' []) hf O rfl (fun zq cs Stop K=>(x zq cs Stop K).run _ (by have:=Nat.le_of_ble_eq_true hn;simp;omega) fun i g v M=>by
  obtain⟨rfl,m,rfl,H⟩:=xjc M;rw[Nat.zero_add,List.getElem?_append_left (by simpa using(List.getElem?_eq_some_iff.1 H).1)];simpa[cv]using H) (St.start h p V)
def N8(l:Env):List ResultVar->Option (List Value)
 |[]=>some []
 |.tmp t::rs=>match lk l t with
   |some (none,v)=>match N8 l rs with
     |some vs=>some (v::vs)
     |none=>none
   |_=>none
 |_::_=>none
theorem xb1{P:Program}{tm:List Value}{l:Env}{h:Heap}(E:B1 tm l):∀{rs:List ResultVar}{vs:List Value},N8 l rs=some vs->Res P h tm rs vs
 |[],vs,e=>by cases e;exact rfl
 |.tmp t::rs,vs,e=>by
   unfold N8 at e;split at e
   ·rename_i v O;split at e
    ·rename_i H M;cases e;exact⟨v,H,rfl,by simp[List.getD_eq_getElem?_getD,E _ _ _ O,cv],xb1 E M⟩
    ·cases e
   ·cases e
 |.cell _ _::rs,vs,e=>by cases e
theorem xxq{P:Program}{md:Md}{f:FuncId}{nn:Nat}{zq:Frame}{cs:List Frame}{Stop:Goroutine->Heap->Prop}{z9:Heap}{zz:List Nat}{fn:Func}{rs:List ResultVar}{vs:List Value}(hf:P.funcs[f]?=some fn)(H:fn.results=rs.toArray)(hv:N8 l rs=some vs)
 (x:∀h,St z9 zz p h LL.flatten->Reach P md (G (zq.finish (Fq vs)) cs) h Stop):RE ⟨P,md,f,.none,nn,[],zq::cs,Stop,z9,zz⟩ (.code .ret::k) l p LL:=
 ⟨fun _ _ E=>yhd hf H (fun _ _=>xb1 E hv) rfl x⟩
end
section
variable{X:Cx}{k:List Item}{ops rest:List Oper}{l:Env}{p:Ab}{LL LR LR2:List Pcs}{g:Option Bool}{d:Option Tmp}{dd:Nat}{ty:TypeId}{pos:String}{aft:Array Edge}{gd:Option (Nat×Bool)}{ss ss':List Prop}{x y:Operand}{T:TypeId}{w:Nat}{v:Value}{es news:List (List Value)}{Y Z:Pcs}
theorem xup{p':Ab}{LL':List Pcs}(n:RO X k ops rest l p' LL')(h:∀h,St X.z9 X.zz p h LL.flatten->St X.z9 X.zz p' h LL'.flatten):RO X k ops rest l p LL:=⟨fun H tm M E=>xa1 (n.run H tm M E) h⟩
theorem xhw{o:Oper}{n:Nat}(H:okD n (o::rest)=true)(h:o.dst=some dd):dd<n:=(xjq H).2 dd h
theorem xdj{args:List Operand}{ats:Array TypeId}{ff:FuncId}{first cap vs:List Value}{Q:Value->Pcs->Prop}(V:evS l x=some ([],.func (.func ff) first.toArray cap.toArray))(H:C9 l args=some ([],vs))
 (hc:∀h,Per p h->Aa X.P X.md ff (first++(vs++cap)).toArray h fun v' h'=>∃Y,Q v' Y/\New h h' Y)(n:∀v Y,Q v Y->RO X k ops rest (ent d none v l) p (Y::LL))(hf:Am X.P ff=true:=by kernel_rfl):
 RO X k ops (⟨d,.call ⟨.value x,args.toArray,ats⟩,ty,pos,aft,none⟩::rest) l p LL:=⟨fun O tm M E=>
 xsv (R:=fun v h=>∃Y,Q v Y/\St X.z9 X.zz p h (Y++LL.flatten)) (xrq rfl) (xeq E V trivial) (by rw[xnx E H trivial]) hf (fun h s=>(hc h fun b o e=>s.per b o e).mono fun _ _⟨Y,q,nn⟩=>⟨Y,q,s.K3 nn⟩)
  fun v=>xgk fun Y=>xcz fun q=>(n v Y q).run (xjq O).1 _ (Aw.trans M) (E.ent (g:=none) M (xjq O).2)⟩
theorem xpb{m:Nat}(o:Ac T w v es Y)(hn:es.length=m)[i:Rm LL Y LR](n:∀p' a cap,PLe p p'->v=.slice a m cap->Sl p' a m w es->RO X k ops rest l p' LR):RO X k ops rest l p LL:=⟨fun O tm H E=>
 xa1 (ylv (A:=[]) o hn fun p' a cap e1 e2 M=>(n p' a cap e1 e2 M).run O tm H E) fun _ s=>s.rm i⟩
theorem ypg{m:Nat}(o:Ac T w v es Y)(hn:es.length=m)[i:Rm LL Y LR](n:∀p' a cap,PLe p p'->v=.slice a m cap->Sl p' a m w es->RE X k l p' LR):RE X k l p LL:=⟨fun tm H E=>by
 subst hn;exact xuf (ycv (A:=[]) o fun p' a cap e1 e2 M=>(n p' a cap e1 e2 M).run tm H E) fun _ s=>s.rm i⟩
theorem xnw{b:Nat}{ob:Obj}[i:Bx LL b ob LR](n:∀p',PLe p p'->p' b=some ob->RO X k ops rest l p' LR):RO X k ops rest l p LL:=⟨fun O tm V E H e h s=>by
 have M:=(s.bx i).last;exact(n (Gv p b ob) M.1 xav).run O tm V E H e h M.2⟩
def Mp(l:Env):List (Nat×Operand)->Option (List (Nat×Value))
 |[]=>some []
 |(i,x)::xs=>match evS l x with
   |some ([],v)=>match Mp l xs with
     |some vs=>some ((i,v)::vs)
     |none=>none
   |_=>none
theorem xgm{tm:List Value}(E:B1 tm l):∀{xs:List (Nat×Operand)}{vs:List (Nat×Value)},Mp l xs=some vs->(xs.map fun(i,x)=>(i,evl tm x))=vs
 |[],vs,h=>by cases h;rfl
 |(i,x)::xs,vs,h=>by
   unfold Mp at h;split at h
   ·rename_i v e1;split at h
    ·rename_i H e2;cases h;rw[List.map_cons,xgm E e2];simp only[xeq E e1 trivial]
    ·cases h
   ·cases h
def chs(w:Nat):Nat->List Value->List (List Value)
 |0,_=>[]
 |n+1,l=>l.take w::chs w n (l.drop w)
theorem xbz{V eT:TypeId}{n:Nat}{parts:List (Nat×Operand)}{vs:List (Nat×Value)}{z:Value}{cells:Array Value}(H:Mp l parts=some vs)[hT:Bv X.P V eT][hs:Ai X.P eT w][hz:A5 X.P eT z]
 (nx:∀v Y,Ac eT w v (chs w n cells.toList) Y->RO X k ops rest ((dd,none,v)::l) p (Y::LL))
 (hf:Instr.fill (fun i=>some (i*w,w)) ((List.range (n*w)).map (z.cells[· % z.cells.size]!)).toArray vs=some cells:=by rfl)(hc:cells=(chs w n cells.toList).flatten.toArray:=by rfl)(hw:((chs w n cells.toList).all fun e=>e.length==w)=true:=by rfl)
 (hn:(chs w n cells.toList).length=n:=by rfl)(M:n*w<=2^24:=by exact Nat.le_of_ble_eq_true rfl):RO X k ops (⟨some dd,.buildSlice V n parts.toArray,ty,pos,aft,none⟩::rest) l p LL:=⟨fun ok tm O E=>
 xct (A:=[]) (C:=LL.flatten) (xrq rfl) hT.h hs.h hz.h M (xgm E H) hf hc hw hn fun v Y o=>(nx v Y o).run (xjq ok).1 _ (by simp[O]) (E.set (g:=none) (O ▸ xhw ok rfl))⟩
theorem xfv{sT xT eT eX:TypeId}{by':Nat}{x' z:Value}(hx:evS l x=some ([],v))(hy:evS l y=some ([],x'))(o1:Ac eT w v es Y)(o2:Ac eT w x' news Z)(h1:∀u∈news.flatten,A7 u=true)(H:(es.length+news.length)*by'<=2^45)
 [i1:Rm LL Y LR][i2:Rm LR Z LR2][hT:Bv X.P sT eT][hs:Ai X.P eT w][hz:A5 X.P eT z][hb:ByC X.P eT by'][hX:Bv X.P xT eX](nx:∀v' M,Ac eT w v' (es++news) M->RO X k ops rest ((dd,none,v')::l) p (M::LR2))
 (O:z.cells.size=w:=by rfl)(V:0<by'/\by'<=2^20:=by decide):RO X k ops (⟨some dd,.call ⟨.builtin .append,#[x,y],#[sT,xT]⟩,ty,pos,aft,none⟩::rest) l p LL:=⟨fun ok tm ht E=>
 xa1 (xr6 [] Y Z (C:=LR2.flatten) (xrq rfl) hT.h hs.h hz.h O hb.h hX.h (xeq E hx trivial) (xeq E hy trivial) o1 o2 h1 H V fun v' M o=>(nx v' M o).run (xjq ok).1 _ (by simp[ht]) (E.set (g:=none) (ht ▸ xhw ok rfl)))
  fun _ s=>(s.rm i1).perm (List.Perm.append_left Y i2.h)⟩
theorem xow{sT xT eT eX:TypeId}{by' n cap:Nat}{a:Option Addr}{z:Value}(hx:evS l x=some ([],v))(hy:evS l y=some ([],.slice a n cap))(o1:Ac eT w v es Y)(o2:Sl p a n w news)(h1:∀u∈news.flatten,A7 u=true)(H:(es.length+n)*by'<=2^45)
 [i1:Rm LL Y LR][hT:Bv X.P sT eT][hs:Ai X.P eT w][hz:A5 X.P eT z][hb:ByC X.P eT by'][hX:Bv X.P xT eX](nx:∀v' M,Ac eT w v' (es++news) M->RO X k ops rest ((dd,none,v')::l) p (M::LR))
 (V:z.cells.size=w:=by rfl)(a2:0<by'/\by'<=2^20:=by decide)(O:0<w:=by decide):RO X k ops (⟨some dd,.call ⟨.builtin .append,#[x,y],#[sT,xT]⟩,ty,pos,aft,none⟩::rest) l p LL:=⟨fun ok tm ht E=>
 xa1 (xq6 [] Y (C:=LR.flatten) (xrq rfl) hT.h hs.h hz.h V hb.h hX.h (xeq E hx trivial) (xeq E hy trivial) o1 o2 h1 H a2 O fun v' M o=>(nx v' M o).run (xjq ok).1 _ (by simp[ht]) (E.set (g:=none) (ht ▸ xhw ok rfl))) fun _ s=>s.rm i1⟩
theorem ysm(T w:Nat)(n:Ac T w (.slice none 0 0) [] []->RO X k ops rest l p ([]::LL)):RO X k ops rest l p LL:=xup (n (Ac.empty T w)) fun _ s=>s
theorem xzj(T w:Nat)(n:Ac T w (.slice none 0 0) [] []->RE X k l p ([]::LL)):RE X k l p LL:=xik (n (Ac.empty T w)) fun _ s=>s
theorem xfl{t e:TypeId}{m:Nat}(H:gdc ops l gd=some g)(M:evS l x=some (ss,v))(hs:Av g (Ax ss))(o:Ac T w v es Y)(hn:es.length=m)[f:Bv X.P t e](n:RO X k ops rest (ent d g (.J m) l) p LL):RO X k ops (⟨d,.call ⟨.builtin .len,#[x],#[t]⟩,ty,pos,aft,gd⟩::rest) l p LL:=
 xjx H rfl (xuq hs fun hs _ _ E _=>yob o hn f.h (xeq E M hs)) n
theorem xzk{t e:TypeId}{i:Nat}(M:evS l x=some ([],v))(H:evS l y=some ([],.J (i:Nat)))(o:Ac T w v es Y)(hi:i<es.length)[f:Bv X.P t e][sz:Ai X.P e w](n:RO X k ops rest (ent d none (.pointer (some ((El v).add (i*w)))) l) p LL):
 RO X k ops (⟨d,.indexAddr t x y,ty,pos,aft,none⟩::rest) l p LL:=xjx (g:=none) rfl rfl (fun _ _ E _=>xic o f.h sz.h (xeq E M trivial) (xeq E H trivial) hi) n
theorem xog{t:TypeId}{i j:Nat}{e:List Value}{u:Value}{a:Addr}(M:evS l x=some ([],.pointer (some a)))(o:Ac T w v es Y)(H:((El v).add (i*w)).add j=a)(hi:es[i]?=some e)(O:e[j]?=some u)[ag:Bw X.P t false][ii:Rm LL Y LR]
 (n:RO X k ops rest (ent d none u l) p LL):RO X k ops (⟨d,.load t x,ty,pos,aft,none⟩::rest) l p LL:=xjx (g:=none) rfl rfl (fun _ _ E s=>ynz (A:=[]) o (s.rm ii) ag.h (xeq E M trivial) H hi O) n
theorem xek{T':TypeId}{i j H:Nat}{e vs:List Value}{u:Value}{a:Addr}(hx:evS l x=some ([],.pointer (some a)))(V:evS l y=some ([],u))(o:Ac T w v es Y)(O:((El v).add (i*w)).add j=a)(hu:u.cells=vs.toArray)(hn:vs.length=H)(h1:vs.all A7=true)(hi:es[i]?=some e)(hj:j+vs.length<=e.length)
 [sz:Ai X.P T' H][ii:Rm LL Y LR](n:∀M,Ac T w v (es.set i (B6 e j vs)) M->RO X k ops rest l p (M::LR)):RO X k ops (⟨none,.store T' x y,ty,pos,aft,none⟩::rest) l p LL:=⟨fun ok tm ht E=>
 xa1 (xp6 (A:=[]) o (xrq rfl) sz.h (xeq E hx trivial) O (xeq E V trivial) hu hn h1 hi hj fun M o'=>(n M o').run (xjq ok).1 tm ht E) fun _ s=>s.rm ii⟩
theorem yzf{fn:Fn}{first cap:List Operand}{a b:List Value}(H:C9 l first=some ([],a))(M:C9 l cap=some ([],b))(n:RO X k ops rest (ent d none (.func fn a.toArray b.toArray) l) p LL):RO X k ops (⟨d,.makeFunc fn first.toArray cap.toArray,ty,pos,aft,none⟩::rest) l p LL:=
 xjx (g:=none) rfl rfl (fun _ _ E _=>xug (xnx E H trivial) (xnx E M trivial)) n
end
def Kh(P:Program)(md:Md)(ops:List Oper)(z9:Heap)(zz:List Nat)(p:Ab)(LF:Pcs)(o:Oper)(tm:List Value)(u:Value):Prop:=
 Bh o.op=true/\((Met ops tm o true/\ ∀C:Pcs,Nb P md tm o (fun h=>St z9 zz p h (LF++C)) u)\/(Met ops tm o false/\u=undef))
def Kk(P:Program)(md:Md)(ops:List Oper)(z9:Heap)(zz:List Nat)(p:Ab)(LF C:Pcs)(o:Oper)(tm:List Value)(u:Value):Prop:=
 Bh o.op=true/\((Met ops tm o true/\Nb P md tm o (fun h=>St z9 zz p h (LF++C)) u)\/(Met ops tm o false/\u=undef))
theorem Kh.a{P:Program}{md:Md}{ops:List Oper}{z9:Heap}{zz:List Nat}{p:Ab}{LF C:Pcs}{o:Oper}{tm:List Value}{u:Value}(x:Kh P md ops z9 zz p LF o tm u):Kk P md ops z9 zz p LF C o tm u:=
 ⟨x.1,x.2.imp (fun a=>⟨a.1,a.2 C⟩) id⟩
inductive Bhd (ops:List Oper):Nat->Nat->Prop
 |one {e i:Nat} {o:Oper} (ho:ops[e]?=some o) (h:i∈Bq o):Bhd ops e i
 |step {e k i:Nat} {o:Oper} (ho:ops[e]?=some o) (h:k∈Bq o) (b:Bhd ops k i):Bhd ops e i
def Pg(ops:List Oper)(i:Nat):Nat->Nat->Bool
 |0,_=>false
 |f+1,e=>match ops[e]? with
   |some o=>(Bq o).contains i||(Bq o).any fun k=>Pg ops i f k
   |none=>false
theorem yxj{ops:List Oper}{i:Nat}:∀{f e:Nat},Pg ops i f e=true->Bhd ops e i
 |0,_,h=>by cases h
 |f+1,e,h=>by
   unfold Pg at h;split at h
   ·rename_i o H;simp only[Bool.or_eq_true,List.contains_eq_mem,decide_eq_true_eq,List.any_eq_true]at h;rcases h with h|⟨k,hk,h⟩
    ·exact .one H h
    ·exact .step H hk (yxj h)
   ·cases h
def N3(ops:List Oper)(effs todo:List Nat)(i:Nat):Bool:=todo.all fun e=>!effs.contains e||Pg ops i 3 e
theorem ytg{ops:List Oper}{effs todo:List Nat}{i:Nat}(h:N3 ops effs todo i=true):∀e∈todo,e∈effs->Bhd ops e i:=fun e he hf=>by
 have:=List.all_eq_true.1 h e he;simp only[Bool.or_eq_true,Bool.not_eq_true',List.contains_eq_mem,decide_eq_false_iff_not]at this;exact yxj (this.resolve_left fun z=>z hf)
def Hm(P:Program)(md:Md)(ops:List Oper)(z9:Heap)(zz:List Nat)(p:Ab)(LF:Pcs)(effs:List Nat)(C:Pcs)(todo:List Nat)(j:Nat)(o:Oper)(tm:List Value)(u:Value):Prop:=
 Kh P md ops z9 zz p LF o tm u\/(Kk P md ops z9 zz p LF C o tm u/\ ∀e∈todo,e∈effs->Bhd ops e j)
def G5(P:Program)(md:Md)(tm:List Value)(o:Oper)(h:Heap)(R:Value->Heap->Prop):Prop:=
 Exv P tm o h R\/(∃g args,(wpS P (execOp (evl tm) o) h fun n h'=>n=.enter g args/\h'=h)/\Aa P md g args h R)\/
  ∀(c:Frame)(cs:List Frame)(Stop:Goroutine->Heap->Prop),(∀v h',R v h'->Reach P md (G (c.finish v) cs) h' Stop)->wpS P (execOp (evl tm) o) h (N7 P md c cs Stop)
inductive DR (P:Program) (md:Md) (ops:List Oper) (n:Nat) (z9:Heap) (zz:List Nat) (p:Ab) (LF:Pcs) (effs:List Nat) (K:Env->List Pcs->Prop):List Nat->Env->List Pcs->Prop
 |nil {l:Env} {LL:List Pcs} (k:K l LL):DR P md ops n z9 zz p LF effs K [] l LL
 |det {i:Nat} {todo:List Nat} {o:Oper} {l:Env} {LL:List Pcs} {g:Option Bool} {v:Value} (ho:ops[i]?=some o) (h:∀tm,tm.length=n->B1 tm l->Kh P md ops z9 zz p LF o tm (cv g v))
  (nx:DR P md ops n z9 zz p LF effs K todo (ent o.dst g v l) LL):DR P md ops n z9 zz p LF effs K (i::todo) l LL
 |pin {i:Nat} {todo:List Nat} {o:Oper} {l:Env} {LL:List Pcs} {g:Option Bool} {v:Value} (ho:ops[i]?=some o) (hb:∀e∈todo,e∈effs->Bhd ops e i) (h:∀tm,tm.length=n->B1 tm l-> ∀C,Kk P md ops z9 zz p LF (LL.flatten++C) o tm (cv g v))
  (nx:DR P md ops n z9 zz p LF effs K todo (ent o.dst g v l) LL):DR P md ops n z9 zz p LF effs K (i::todo) l LL
 |Ny {i:Nat} {todo:List Nat} {o:Oper} {l:Env} {LL LR:List Pcs} {U:Pcs} {g:Option Bool} {Q:Value->Pcs->Prop} (ho:ops[i]?=some o) (he:i∈effs) (hr:LL.flatten.Perm (U++LR.flatten))
  (h:∀tm,tm.length=n->B1 tm l->Bh o.op=true/\((Met ops tm o true/\ ∀(C:Pcs)h,St z9 zz p h (U++(LF++C))->G5 P md tm o h fun v h'=>∃u x,v=cv g u/\Q u x/\St z9 zz p h' (x++(LF++C)))\/(Met ops tm o false/\ ∃u,cv g u=undef/\Q u U)))
  (nx:∀v x,Q v x->DR P md ops n z9 zz p LF effs K todo (ent o.dst g v l) (x::LR)):DR P md ops n z9 zz p LF effs K (i::todo) l LL
theorem G5.mono{P:Program}{md:Md}{tm:List Value}{o:Oper}{h:Heap}{R H:Value->Heap->Prop}(x:G5 P md tm o h R)(y:∀v h,R v h->H v h):G5 P md tm o h H:=
 x.imp (fun a=>xix a fun _ _⟨v,e,r⟩=>⟨v,e,y _ _ r⟩) (·.imp (fun⟨g,args,a,b⟩=>⟨g,args,a,b.mono y⟩) fun a c cs Stop z=>a c cs Stop fun v h' r=>z v h' (y v h' r))
theorem DR.eff{P:Program}{md:Md}{ops:List Oper}{n:Nat}{z9:Heap}{zz:List Nat}{p:Ab}{LF:Pcs}{effs:List Nat}{K:Env->List Pcs->Prop}{i:Nat}{todo:List Nat}{o:Oper}{l:Env}{LL LR:List Pcs}{U:Pcs}{Q:Value->Pcs->Prop}(M:ops[i]?=some o)(he:i∈effs)(hr:LL.flatten.Perm (U++LR.flatten))
 (h:∀tm,tm.length=n->B1 tm l->Bh o.op=true/\Met ops tm o true/\ ∀(C:Pcs)h,St z9 zz p h (U++(LF++C))->G5 P md tm o h fun v h'=>∃x,Q v x/\St z9 zz p h' (x++(LF++C)))
 (O:∀v x,Q v x->DR P md ops n z9 zz p LF effs K todo (ent o.dst none v l) (x::LR)):DR P md ops n z9 zz p LF effs K (i::todo) l LL:=
 .Ny (g:=none) M he hr (fun tm H E=>⟨(h tm H E).1,.inl ⟨(h tm H E).2.1,fun C V s=>((h tm H E).2.2 C V s).mono fun v _⟨x,q,s⟩=>⟨v,x,rfl,q,s⟩⟩⟩) O
def Ea(ops:List Oper)(cl:List (List Nat))(effs:List Nat):List Nat->List Nat->Bool
 |_,[]=>true
 |done,i::todo=>(match ops[i]? with
   |some o=>(Bq o).all (fun x=>done.contains x)&&done.all (fun e=>!effs.contains e||behind cl o e)
   |none=>false)&&!done.contains i&&Ea ops cl effs (i::done) todo
theorem xcn{P:Program}{md:Md}{ops:List Oper}{z9:Heap}{zz:List Nat}{p:Ab}{LF:Pcs}{o:Oper}{tm tm':List Value}{u:Value}(hs:Hg o.op=true)(h:∀t∈looks ops o,tm'[t]?=tm[t]?)(x:Kh P md ops z9 zz p LF o tm u):
 Kh P md ops z9 zz p LF o tm' u:=by
 obtain⟨H,a|a⟩:=x
 ·refine⟨H,.inl ⟨xrg h a.1,fun C=>?_⟩⟩;have:=a.2 C;unfold Nb Ex at this⊢;rw[xsr hs h];exact this
 ·exact⟨H,.inr ⟨xrg h a.1,a.2⟩⟩
theorem xp0{P:Program}{md:Md}{ops:List Oper}{z9:Heap}{zz:List Nat}{p:Ab}{LF C:Pcs}{o:Oper}{tm tm':List Value}{u:Value}(hs:Hg o.op=true)(h:∀t∈looks ops o,tm'[t]?=tm[t]?)(x:Kk P md ops z9 zz p LF C o tm u):
 Kk P md ops z9 zz p LF C o tm' u:=by
 obtain⟨H,a|a⟩:=x
 ·refine⟨H,.inl ⟨xrg h a.1,?_⟩⟩;have:=a.2;unfold Nb Ex at this⊢;rw[xsr hs h];exact this
 ·exact⟨H,.inr ⟨xrg h a.1,a.2⟩⟩
theorem xzc{P:Program}{md:Md}{ops:List Oper}{z9:Heap}{zz:List Nat}{p:Ab}{LF:Pcs}{effs:List Nat}{C:Pcs}{todo:List Nat}{j:Nat}{o:Oper}{tm tm':List Value}{u:Value}(hs:Hg o.op=true)(h:∀t∈looks ops o,tm'[t]?=tm[t]?)(x:Hm P md ops z9 zz p LF effs C todo j o tm u):
 Hm P md ops z9 zz p LF effs C todo j o tm' u:=x.imp (xcn hs h) fun y=>⟨xp0 hs h y.1,y.2⟩
theorem xn8{P:Program}{md:Md}{ops:List Oper}{z9:Heap}{zz:List Nat}{p:Ab}{LF:Pcs}{effs:List Nat}{C:Pcs}{todo:List Nat}{i j:Nat}{o:Oper}{tm:List Value}{u:Value}(x:Hm P md ops z9 zz p LF effs C (i::todo) j o tm u):
 Hm P md ops z9 zz p LF effs C todo j o tm u:=x.imp id fun y=>⟨y.1,fun e he=>y.2 e (by simp[he])⟩
theorem Hm.a{P:Program}{md:Md}{ops:List Oper}{z9:Heap}{zz:List Nat}{p:Ab}{LF:Pcs}{effs:List Nat}{C:Pcs}{todo:List Nat}{j:Nat}{o:Oper}{tm:List Value}{u:Value}(x:Hm P md ops z9 zz p LF effs C todo j o tm u):Kk P md ops z9 zz p LF C o tm u:=x.elim Kh.a fun y=>y.1
theorem xkh{tm:List Value}{d:Nat}{v:Value}{x:Option Tmp}(M:x=some d)(H:d<tm.length):(Cm tm x v)[d]?=some v:=by subst M;exact List.getElem?_set_self H
section
variable{P:Program}{md:Md}{ops:List Oper}{m:Nat}{n:Nat}{z9:Heap}{zz:List Nat}{p:Ab}{LF:Pcs}{effs:List Nat}{f:FuncId}{r:Rd}{df:List Deferred}{k:List Item}{cs:List Frame}{Stop:Goroutine->Heap->Prop}{cl:List (List Nat)}
structure Way(P:Program)(md:Md)(ops:List Oper)(m n:Nat)(z9:Heap)(zz:List Nat)(p:Ab)(LF:Pcs)(effs:List Nat)(C:Pcs)(lex:Array Bool)(tmc tmv:List Value)(done todo:List Nat):Prop where
 size:lex.size=ops.length
 lc:tmc.length=n
 lv:tmv.length=n
 pend:∀j<m,lex.getD j false=false->j∉todo-> ∃o,ops[j]?=some o/\ ∃u,Hm P md ops z9 zz p LF effs C todo j o tmv u/\ ∀d,o.dst=some d->tmv[d]?=some u
 Kz:∀j∈todo,lex.getD j false=false
 same:∀t,(∀(j:Nat)(o:Oper),j<m->ops[j]?=some o->o.dst=some t->lex.getD j false=true)->tmc[t]?=tmv[t]?
 back:∀j<m,j∉todo-> ∀o,ops[j]?=some o-> ∀x∈Bq o,x∉todo
 all:∀j<m,j∈done\/j∈todo
 Nh:∀j∈todo,j∉done
 Oh:∀(j:Nat)(o:Oper),lex.getD j false=true->ops[j]?=some o-> ∀x∈Bq o,lex.getD x false=true
theorem ynx(H:Bp ops m cl=true){i:Nat}{o:Oper}{d:Nat}(hi:i<m)(M:ops[i]?=some o)(V:o.dst=some d):d∉looks ops o:=fun O=>
 Nat.lt_irrefl i ((xcx H M).1 i (((xcx H M).2.2 hi).2 i o d hi M V |>.2 O))
theorem Way.Ov{C:Pcs}(a2:Bp ops m cl=true){O:Array Bool}{H M:List Value}{done todo:List Nat}(W:Way P md ops m n z9 zz p LF effs C O H M done todo){i:Nat}{o:Oper}(hi:i<m)(ho:ops[i]?=some o)(hp:∀j∈Bq o,O.getD j false=true):
 ∀t∈looks ops o,H[t]?=M[t]?:=fun t ht=>W.same t fun j o' hj V hd=>hp j (((xcx a2 ho).2.2 hi).2 j o' t hj V hd |>.2 ht)
theorem Way.adv{C:Pcs}(a2:Bp ops m cl=true){a6:Array Bool}{a4 V:List Value}{done todo:List Nat}{i:Nat}{o:Oper}{u:Value}(hi:i<m)(ho:ops[i]?=some o)(hd:∀d,o.dst=some d->d<n)(a7:i∉todo)(b0:∀x∈Bq o,x∉todo)
 (W:Way P md ops m n z9 zz p LF effs C a6 a4 V done (i::todo))(hT:Hm P md ops z9 zz p LF effs C todo i o V u):Way P md ops m n z9 zz p LF effs C a6 a4 (Cm V o.dst u) (i::done) todo:=by
 have a3:=fun{j:Nat}{oj:Oper}(M:j<m)(H:ops[j]?=some oj)(O:j∉i::todo)(t:Nat)(ht:t∈looks ops oj)=>show(Cm V o.dst u)[t]?=V[t]? from by
  by_cases e:o.dst=some t
  ·have:i∈Bq oj:=((xcx a2 H).2.2 M).2 i o t hi ho e |>.2 ht;exact absurd List.mem_cons_self (W.back j M O oj H i this)
  ·exact xqk e
 refine⟨W.size,W.lc,by rw[xrk];exact W.lv,fun j M hl O=>?_,fun j M=>W.Kz j (by simp[M]),fun t ht=>?_,fun j M O oj H x hx=>?_,fun j M=>?_,fun j M=>?_,W.Oh⟩
 ·by_cases e:j=i
  ·subst e;refine⟨o,ho,u,xzc ((xcx a2 ho).2.2 hi).1 (fun t ht=>?_) hT,fun d e=>xkh e (by rw[W.lv];exact hd d e)⟩;exact xqk fun e=>ynx a2 hi ho e ht
  ·obtain⟨oj,H,uj,h1,h2⟩:=W.pend j M hl (by simp[e,O]);refine⟨oj,H,uj,xzc ((xcx a2 H).2.2 M).1 (a3 M H (by simp[e,O])) (xn8 h1),fun d a5=>?_⟩;rw[xqk fun e'=>((((xcx a2 H).2.2 M).2 i o d hi ho e').1.resolve_right fun z=>z a5).symm ▸ e <| rfl];exact h2 d a5
 ·have a9:o.dst≠some t:=fun e=>by
   have:=W.Kz i List.mem_cons_self;rw[ht i o hi ho e]at this;cases this
  rw[xqk a9];exact W.same t ht
 ·by_cases e:j=i
  ·subst e;rw[ho]at H;cases H;exact b0 x hx
  ·exact fun a8=>W.back j M (by simp[e,O]) oj H x hx (by simp[a8])
 ·rcases W.all j M with a|a
  ·exact .inl (by simp[a])
  ·rcases List.mem_cons.1 a with rfl|a
   ·exact .inl s_
   ·exact .inr a
 ·intro h;rcases List.mem_cons.1 h with rfl|h
  ·exact a7 M
  ·exact W.Nh j (by simp[M]) h
theorem yav{i:Nat}{rest:List Nat}{o:Oper}{O:List Value}{u:Value}{C:Pcs}(ho:ops[i]?=some o)(hT:Kk P md ops z9 zz p LF C o O u)
 (next:RS P md (G (FL f r (Cm O o.dst u) df (.inRegion ops.toArray rest::k)) cs) (fun h=>St z9 zz p h (LF++C)) Stop):RS P md (G (FL f r O df (.inRegion ops.toArray (i::rest)::k)) cs) (fun h=>St z9 zz p h (LF++C)) Stop:=by
 have H:ops.toArray[i]?=some o:=by simpa using ho
 obtain⟨a2,⟨hm,a3⟩|⟨hm,rfl⟩⟩:=hT
 ·refine xrp H (xbx hm) xvw (.inr (by revert a2;cases o.op<;>simp[Bh])) fun h hb=>?_;rw[xez];rcases a3 h hb with hx|⟨g,args,hx,hc⟩|hx
  ·refine xix hx fun n' h'⟨v',V,e2,M⟩=>?_;subst V;subst e2;show Reach P md (G ((F (B f r) O.toArray df _).finish v') cs) h' Stop;rw[xgx H,xdx];exact next h' M
  ·refine xix hx fun n' h'⟨V,e2⟩=>?_;subst V;subst e2;refine hc _ _ _ fun v' h'⟨e2,M⟩=>?_;subst e2;rw[xgx H,xdx];exact next h' M
  ·refine hx _ _ _ fun v' h'⟨e2,M⟩=>?_;subst e2;rw[xgx H,xdx];exact next h' M
 ·refine xqp H (xbx hm) ?_;rw[xdx];exact next
theorem ymf{i:Nat}{rest:List Nat}{o:Oper}{H:List Value}{U C:Pcs}{Q:Value->Pcs->Prop}(ho:ops[i]?=some o)(a2:Bh o.op=true)(hm:Met ops H o true)
 (he:∀h,St z9 zz p h (U++(LF++C))->G5 P md H o h fun v h'=>∃x,Q v x/\St z9 zz p h' (x++(LF++C)))
 (next:∀v x,Q v x->RS P md (G (FL f r (Cm H o.dst v) df (.inRegion ops.toArray rest::k)) cs) (fun h=>St z9 zz p h (x++(LF++C))) Stop):RS P md (G (FL f r H df (.inRegion ops.toArray (i::rest)::k)) cs) (fun h=>St z9 zz p h (U++(LF++C))) Stop:=by
 have O:ops.toArray[i]?=some o:=by simpa using ho
 refine xrp O (xbx hm) xvw (.inr (by revert a2;cases o.op<;>simp[Bh])) fun h hb=>?_;rw[xez];rcases he h hb with hx|⟨g,args,hx,hc⟩|hx
 ·refine xix hx fun n' h'⟨v',e',x,V,M⟩=>?_;rcases e' with rfl|⟨rfl,rfl⟩
  ·show Reach P md (G ((F (B f r) H.toArray df _).finish v') cs) h' Stop;rw[xgx O,xdx];exact next v' x V h' M
  ·show Reach P md (G ((F (B f r) H.toArray df _).finish undef) cs) h' Stop;rw[xgx O,xdx];exact next undef x V h' M
 ·refine xix hx fun n' h'⟨e',e2⟩=>?_;subst e';subst e2;refine hc _ _ _ fun v' h'⟨x,V,M⟩=>?_;rw[xgx O,xdx];exact next v' x V h' M
 ·refine hx _ _ _ fun v' h'⟨x,V,M⟩=>?_;rw[xgx O,xdx];exact next v' x V h' M
theorem xxl{l:Array Bool}{i:Nat}(h:i<l.size):(l.setIfInBounds i true).getD i false=true:=by simp[Array.getD,h]
theorem xw5{H:Array Bool}{i:Nat}{o:Oper}(V:i<H.size)(ho:ops[i]?=some o)(hp:∀x∈Bq o,H.getD x false=true)(c:∀(j:Nat)(o:Oper),H.getD j false=true->ops[j]?=some o-> ∀x∈Bq o,H.getD x false=true):
 ∀(j:Nat)(O:Oper),(H.setIfInBounds i true).getD j false=true->ops[j]?=some O-> ∀x∈Bq O,(H.setIfInBounds i true).getD x false=true:=fun j O hj M x hx=>by
 have:H.getD x false=true:=by
  by_cases e:i=j
  ·subst e;rw[ho]at M;cases M;exact hp x hx
  ·rw[getD_set_ne false e]at hj;exact c j O hj M x hx
 by_cases e:i=x
 ·subst e;exact xxl V
 ·rwa[getD_set_ne false e]
theorem Way.step{C:Pcs}{H:Array Bool}{a3 M:List Value}{done todo:List Nat}{i:Nat}{o:Oper}{u:Value}(ho:ops[i]?=some o)(hd:∀d,o.dst=some d->d<n)(a6:i∉todo)(hp:∀x∈Bq o,H.getD x false=true)
 (hu:∀d,o.dst=some d->M[d]?=some u)(W:Way P md ops m n z9 zz p LF effs C H a3 M done todo):Way P md ops m n z9 zz p LF effs C (H.setIfInBounds i true) (Cm a3 o.dst u) M done todo:=by
 have a2:i<H.size:=by rw[W.size];exact(List.getElem?_eq_some_iff.1 ho).1
 refine⟨by simpa using W.size,by rw[xrk];exact W.lc,W.lv,fun j V hl a5=>?_,fun j V=>?_,fun t ht=>?_,W.back,W.all,W.Nh,xw5 a2 ho hp W.Oh⟩
 ·by_cases e:i=j
  ·subst e;rw[xxl a2]at hl;cases hl
  ·rw[getD_set_ne false e]at hl;exact W.pend j V hl a5
 ·rw[getD_set_ne false (show i≠j from fun e=>a6 (by rw[e];exact V))];exact W.Kz j V
 ·by_cases e:o.dst=some t
  ·rw[xkh e (by rw[W.lc];exact hd t e),hu t e]
  ·rw[xqk e];refine W.same t fun j oj V O a4=>?_;have:=ht j oj V O a4;by_cases e':i=j
   ·subst e';rw[ho]at O;cases O;exact absurd a4 e
   ·rwa[getD_set_ne false e']at this
theorem yyl{H:Array Bool}(M:∀(j:Nat)(o:Oper),H.getD j false=true->ops[j]?=some o-> ∀x∈Bq o,H.getD x false=true){e j:Nat}(b:Bhd ops e j):(∀o,ops[e]?=some o-> ∀x∈Bq o,H.getD x false=true)->H.getD j false=true:=by
 induction b with
 |one ho h=>exact fun c=>c _ ho _ h
 |step ho h _ ih=>exact fun c=>ih fun o' O x V=>M _ o' (c _ ho _ h) O x V
theorem Way.act{C:Pcs}(C':Pcs)(a4:Bp ops m cl=true){a3:Array Bool}{a8 a2:List Value}{done todo:List Nat}{i:Nat}{o:Oper}{v:Value}(he:i∈effs)(hi:i<m)(ho:ops[i]?=some o)(hd:∀d,o.dst=some d->d<n)(a6:i∉todo)(b3:∀x∈Bq o,x∉todo)(hp:∀x∈Bq o,a3.getD x false=true)
 (W:Way P md ops m n z9 zz p LF effs C a3 a8 a2 done (i::todo)):Way P md ops m n z9 zz p LF effs C' (a3.setIfInBounds i true) (Cm a8 o.dst v) (Cm a2 o.dst v) (i::done) todo:=by
 have a5:i<a3.size:=by rw[W.size];exact(List.getElem?_eq_some_iff.1 ho).1
 have b0:∀{j:Nat}{oj:Oper},j<m->ops[j]?=some oj->j∉i::todo-> ∀t∈looks ops oj,(Cm a2 o.dst v)[t]?=a2[t]?:=fun{j oj}M H O t ht=>by
  by_cases e:o.dst=some t
  ·exact absurd List.mem_cons_self (W.back j M O oj H i (((xcx a4 H).2.2 M).2 i o t hi ho e |>.2 ht))
  ·exact xqk e
 refine⟨by simpa using W.size,by rw[xrk];exact W.lc,by rw[xrk];exact W.lv,fun j M hl O=>?_,fun j M=>?_,fun t ht=>?_,fun j M O oj H x hx=>?_,fun j M=>?_,fun j M=>?_,xw5 a5 ho hp W.Oh⟩
 ·have e:i≠j:=fun e=>by subst e;rw[xxl a5]at hl;cases hl
  rw[getD_set_ne false e]at hl;obtain⟨oj,H,uj,h1,h2⟩:=W.pend j M hl (by simp[Ne.symm e,O]);have h1:=h1.resolve_right fun y=>by
   have:=yyl W.Oh (y.2 i s_ he) fun o' a7 x hx=>by rw[ho]at a7;cases a7;exact hp x hx
   rw[hl]at this;cases this
  refine⟨oj,H,uj,.inl (xcn ((xcx a4 H).2.2 M).1 (b0 M H (by simp[Ne.symm e,O])) h1),fun d V=>?_⟩;rw[xqk fun e'=>e (((((xcx a4 H).2.2 M).2 i o d hi ho e').1.resolve_right fun z=>z V)).symm];exact h2 d V
 ·rw[getD_set_ne false (show i≠j from fun e=>a6 (by rw[e];exact M))];exact W.Kz j (by simp[M])
 ·by_cases e:o.dst=some t
  ·rw[xkh e (by rw[W.lc];exact hd t e),xkh e (by rw[W.lv];exact hd t e)]
  ·rw[xqk e,xqk e];refine W.same t fun j oj M H V=>?_;have:=ht j oj M H V;by_cases e':i=j
   ·subst e';rw[ho]at H;cases H;exact absurd V e
   ·rwa[getD_set_ne false e']at this
 ·by_cases e:j=i
  ·subst e;rw[ho]at H;cases H;exact b3 x hx
  ·exact fun a9=>W.back j M (by simp[e,O]) oj H x hx (by simp[a9])
 ·rcases W.all j M with a|a
  ·exact .inl (by simp[a])
  ·rcases List.mem_cons.1 a with rfl|a
   ·exact .inl s_
   ·exact .inr a
 ·intro h;rcases List.mem_cons.1 h with rfl|h
  ·exact a6 M
  ·exact W.Nh j (by simp[M]) h
theorem xpw{done todo:List Nat}{i:Nat}(h:Ea ops cl effs done (i::todo)=true):∃o,ops[i]?=some o/\(∀x∈Bq o,x∈done)/\(∀e∈done,e∈effs->behind cl o e=true)/\i∉done/\Ea ops cl effs (i::done) todo=true:=by
 unfold Ea at h;simp only[Bool.and_eq_true]at h;obtain⟨⟨H,M⟩,O⟩:=h;split at H
 ·rename_i o V;simp only[Bool.and_eq_true,List.all_eq_true,Bool.or_eq_true,Bool.not_eq_true',List.contains_eq_mem,decide_eq_true_eq,decide_eq_false_iff_not]at H M;exact⟨o,V,H.1,fun e he hf=>(H.2 e he).resolve_left fun z=>z hf,by simpa using M,O⟩
 ·cases H
theorem xrl:∀{todo done:List Nat}{e:Nat},Ea ops cl effs done todo=true->e∈done->e∈effs-> ∀j∈todo,∀o,ops[j]?=some o->behind cl o e=true
 |[],_,_,_,_,_,j,hj,_,_=>by simp at hj
 |i::todo,done,e,h,he,hf,j,hj,o,ho=>by
   obtain⟨V,H,_,M,_,O⟩:=xpw h;rcases List.mem_cons.1 hj with rfl|hj
   ·rw[ho]at H;cases H;exact M e he hf
   ·exact xrl O (by simp[he]) hf j hj o ho
theorem xwj:∀{todo done:List Nat},Ea ops cl effs done todo=true-> ∀j∈todo,j∉done
 |[],_,_,j,hj=>by simp at hj
 |i::todo,done,h,j,hj=>by
   obtain⟨_,_,_,_,H,M⟩:=xpw h;rcases List.mem_cons.1 hj with rfl|hj
   ·exact H
   ·exact fun z=>xwj M j hj (by simp[z])
theorem xt7(V:Bp ops m cl=true)(a4:∀(i:Nat)(o:Oper)(d:Nat),ops[i]?=some o->o.dst=some d->d<n){K:Env->List Pcs->Prop}
 (hK:∀l LL tm,K l LL->tm.length=n->B1 tm l->RS P md (G (FL f r tm df (.inRegion ops.toArray (List.range' m (ops.length-m))::k)) cs) (fun h=>St z9 zz p h (LF++LL.flatten)) Stop)
 {todo:List Nat}{l:Env}{LL:List Pcs}(D:DR P md ops n z9 zz p LF effs K todo l LL):∀(s:List Nat)(lex:Array Bool)(tmc tmv:List Value)(done:List Nat),Ord ops m lex s->Way P md ops m n z9 zz p LF effs LL.flatten lex tmc tmv done todo->B1 tmv l->Ea ops cl effs done todo=true->(∀i∈todo,i<m)->
  RS P md (G (FL f r tmc df (.inRegion ops.toArray (s++List.range' m (ops.length-m))::k)) cs) (fun h=>St z9 zz p h (LF++LL.flatten)) Stop:=by
 have pend:∀{i:Nat}{s:List Nat}{o:Oper}{lex:Array Bool}{tmc tmv:List Value}{done todo:List Nat}{C:Pcs},i<m->ops[i]?=some o->lex.getD i true=false->(∀x∈Bq o,lex.getD x false=true)->i∉todo->Way P md ops m n z9 zz p LF effs C lex tmc tmv done todo->
  (∀O,Way P md ops m n z9 zz p LF effs C (lex.setIfInBounds i true) O tmv done todo->RS P md (G (FL f r O df (.inRegion ops.toArray (s++List.range' m (ops.length-m))::k)) cs) (fun h=>St z9 zz p h (LF++C)) Stop)->
  RS P md (G (FL f r tmc df (.inRegion ops.toArray (i::s++List.range' m (ops.length-m))::k)) cs) (fun h=>St z9 zz p h (LF++C)) Stop:=fun{i s o lex tmc tmv done todo C}hi ho hn hp hit W nx=>by
  have a9:lex.getD i false=false:=by rw[<- xcd (by rw[W.size];exact(List.getElem?_eq_some_iff.1 ho).1)];exact hn
  obtain⟨o',M,u,hT,hu⟩:=W.pend i hi a9 hit;rw[ho]at M;cases M;exact yav ho (xzc ((xcx V ho).2.2 hi).1 (W.Ov V hi ho hp) hT).a (nx _ (W.step ho (fun d=>a4 i o d ho) hit hp hu))
 induction D with
 |@nil l LL kk=>
   intro s
   induction s with
   |nil=>
     intro lex tmc tmv done H W E _ _;cases H with
     |nil hall=>
     have:tmc=tmv:=List.ext_getElem? fun t=>W.same t fun j _ hj _ _=>hall j hj;subst this;exact hK l LL tmc kk W.lc E
   |cons i s ih=>
     intro lex tmc tmv done H W E ok lt;cases H with
     |@cons _ _ _ o hi ho hn hp hs=>exact pend hi ho hn hp s_ W fun O W'=>ih _ O tmv done hs W' E ok lt
 |@det i todo o l LL g v ho h nx ih=>
   intro s lex tmc tmv done H W E ok lt;obtain⟨o',M,h1,h2,h3,h4⟩:=xpw ok;rw[ho]at M;cases M;have hi:=lt i s_;have a5:i∉todo:=fun z=>xwj h4 i z s_;exact ih s lex tmc (Cm tmv o.dst (cv g v)) (i::done) H (W.adv V hi ho (fun d=>a4 i o d ho) a5 (fun x hx z=>xwj h4 x z (by simp[h1 x hx])) (.inl (h tmv W.lv E))) (E.ent W.lv fun d=>a4 i o d ho) h4 fun j hj=>lt j (by simp[hj])
 |@pin i todo o l LL g v ho hb h nx ih=>
   intro s lex tmc tmv done H W E ok lt;obtain⟨o',M,h1,h2,h3,h4⟩:=xpw ok;rw[ho]at M;cases M;have hi:=lt i s_;have a5:i∉todo:=fun z=>xwj h4 i z s_;exact ih s lex tmc (Cm tmv o.dst (cv g v)) (i::done) H (W.adv V hi ho (fun d=>a4 i o d ho) a5 (fun x hx z=>xwj h4 x z (by simp[h1 x hx])) (.inr ⟨by have:=h tmv W.lv E [];rwa[List.append_nil]at this,hb⟩)) (E.ent W.lv fun d=>a4 i o d ho) h4 fun j hj=>lt j (by simp[hj])
 |@Ny e todo o l LL LR U g Q ho he hr h nx ih=>
   intro s
   induction s with
   |nil=>
     intro lex tmc tmv done H W E ok lt;cases H with
     |nil hall=>exact absurd ((W.Kz e s_).symm.trans (hall e (lt e s_))) s_
   |cons i s ihs=>
     intro lex tmc tmv done H W E ok lt;cases H with
     |@cons _ _ _ oi hi hoi hn hp hs=>
     obtain⟨o',M,h1,h2,h3,h4⟩:=xpw ok;rw[ho]at M;cases M;have a5:e∉todo:=fun z=>xwj h4 e z s_;by_cases ie:i=e
     ·subst ie;rw[ho]at hoi;cases hoi;obtain⟨a1,hh⟩:=h tmv W.lv E;have a6:=W.Ov V hi ho hp;have b0:=((xcx V ho).2.2 hi).1;have key:∀u x,Q u x->RS P md (G (FL f r (Cm tmc o.dst (cv g u)) df (.inRegion ops.toArray (s++List.range' m (ops.length-m))::k)) cs) (fun h=>St z9 zz p h (x++(LF++LR.flatten))) Stop:=fun u x hq=>by
       refine xuf (ih u x hq s _ _ (Cm tmv o.dst (cv g u)) (i::done) hs (W.act _ V he hi ho (fun d=>a4 i o d ho) a5 (fun x hx z=>xwj h4 x z (by simp[h1 x hx])) hp) (E.ent (g:=g) W.lv fun d=>a4 i o d ho) h4 fun j hj=>lt j (by simp[hj])) fun h y=>y.perm ?_;rw[List.flatten_cons,<- List.append_assoc,<- List.append_assoc];exact List.Perm.append_right _ List.perm_append_comm
      have a7:(LF++LL.flatten).Perm (U++(LF++LR.flatten)):=by
       refine(List.Perm.append_left LF hr).trans ?_;rw[<- List.append_assoc,<- List.append_assoc];exact List.Perm.append_right _ List.perm_append_comm
      rcases hh with⟨a2,a3⟩|⟨a2,u,hu,hq⟩
      ·refine xuf (ymf (LF:=LF) (U:=U) (C:=LR.flatten) (Q:=fun v x=>∃u,v=cv g u/\Q u x) ho a1 (xrg a6 a2) (fun h y=>?_) fun v x⟨u,e,hq⟩=>by subst e;exact key u x hq) fun h y=>y.perm a7;have:=(a3 LR.flatten h y).mono fun v h'(⟨u,x,e,q,z⟩:∃ u x,v=cv g u/\Q u x/\St z9 zz p h' (x++(LF++LR.flatten)))=>(⟨x,⟨u,e,q⟩,z⟩:∃x,(∃u,v=cv g u/\Q u x)/\St z9 zz p h' (x++(LF++LR.flatten)))
       unfold G5 Exv at this⊢;rw[xsr b0 a6];exact this
      ·have a8:ops.toArray[i]?=some o:=by simpa using ho
       refine xuf (xqp a8 (xbx (xrg a6 a2)) ?_) fun h y=>y.perm a7;rw[xdx,<- hu];exact key u U hq
     ·by_cases it:i∈todo
      ·have hb:=xrl h4 (e:=e) s_ he i it oi hoi;have:=xhv V W.size W.Oh ops.length oi e (fun x hx=>⟨Nat.lt_trans ((xcx V hoi).1 x hx) (List.getElem?_eq_some_iff.1 hoi).1,hp x hx⟩) hb;rw[W.Kz e s_]at this;cases this
      ·exact pend hi hoi hn hp (by simp[ie,it]) W fun O W'=>ihs _ O tmv done hs W' E ok lt
theorem xqd{X:Cx}{id:Nat}{l:Env}{LL L0 L1:List Pcs}(hL:L1.flatten.Perm (LL.flatten++L0.flatten))(m:Nat)(cl:List (List Nat))(effs H:List Nat)(a5:X.P.follows .mixedOrders=true)(ok:okD X.n ops=true)
 (D:DR X.P X.md ops X.n X.z9 X.zz p LL.flatten effs (fun l' LL'=>RO X k ops (ops.drop m) l' p (LL++LL')) H l L0)
 (a4:Bp ops m cl=true:=by rfl)(hm:Nat.ble m ops.length=true:=by rfl)(a6:Ea ops cl effs [] H=true:=by rfl)(a3:((List.range m).all fun i=>H.contains i)=true:=by rfl)(b0:(H.all fun i=>Nat.blt i m)=true:=by rfl):
 RE X (.code (.region id ops.toArray true)::k) l p L1:=by
 constructor;intro tm ht E;have a8:∀{os:List Oper},okD X.n os=true-> ∀o∈os,∀d,o.dst=some d->d<X.n:=fun{os}=>by
  induction os with
  |nil=>intro _ o ho;simp at ho
  |cons o os ih=>
    intro h o' V d hd;rcases List.mem_cons.1 V with rfl|V
    ·exact(xjq h).2 d hd
    ·exact ih (xjq h).1 o' V d hd
 have O:∀{os:List Oper}(j:Nat),okD X.n os=true->okD X.n (os.drop j)=true:=fun{os}=>by
  induction os with
  |nil=>intro j h;cases j<;>exact h
  |cons o os ih=>
    intro j h;cases j with
    |zero=>exact h
    |succ j=>exact ih j (xjq h).1
 have hm:=Nat.le_of_ble_eq_true hm;refine xj3 fun t=>?_;unfold Region.schedule;rw[a5];simp only[Bool.true_or,if_true];obtain⟨s,e,a7⟩:=xjt a4 hm t;rw[e];have M:∀j<m,j∈H:=fun j hj=>by
  have:=List.all_eq_true.1 a3 j (List.mem_range.2 hj);simpa using this
 have:=xt7 (f:=X.f) (r:=X.r) (df:=X.df) (k:=k) (cs:=X.cs) (Stop:=X.Stop) (m:=m) a4 (fun i o d ho hd=>a8 ok o (List.mem_of_getElem? ho) d hd) (fun l' LL' tm' K a9 E'=>by
  have z:=K.run (O m ok) tm' a9 E' (ops.take m) (List.take_append_drop m ops).symm;rw[List.length_take,Nat.min_eq_left hm,List.length_drop,List.flatten_append]at z;exact z) D s _ tm tm [] a7 ⟨s_,ht,ht,fun j hj _ a2=>absurd (M j hj) a2,fun j _=>by simp[Array.getD],fun _ _=>rfl,fun j hj a2=>absurd (M j hj) a2,fun j hj=>.inr (M j hj),fun j _=>by simp,fun j o h=>by simp[Array.getD]at h⟩ E a6 (fun i hi=>Nat.lt_of_lt_of_le (Nat.le_of_ble_eq_true (List.all_eq_true.1 b0 i hi)) (Nat.le_refl _))
 intro h y;exact this h (y.perm hL)
theorem xu3{X:Cx}{id:Nat}{l:Env}{LL:List Pcs}(m:Nat)(cl:List (List Nat))(effs H:List Nat)(M:X.P.follows .mixedOrders=true)(ok:okD X.n ops=true)
 (D:DR X.P X.md ops X.n X.z9 X.zz p LL.flatten effs (fun l' LL'=>RO X k ops (ops.drop m) l' p (LL++LL')) H l [])
 (a3:Bp ops m cl=true:=by rfl)(hm:Nat.ble m ops.length=true:=by rfl)(V:Ea ops cl effs [] H=true:=by rfl)(O:((List.range m).all fun i=>H.contains i)=true:=by rfl)(a2:(H.all fun i=>Nat.blt i m)=true:=by rfl):
 RE X (.code (.region id ops.toArray true)::k) l p LL:=xqd s_ m cl effs H M ok D a3 hm V O a2
end
inductive Ks where
 |drop (m:Nat)
 |to (K:Env->List Pcs->Prop)
def Ks.k(X:Cx)(k:List Item)(ops:List Oper)(p:Ab)(LF:List Pcs):Ks->Env->List Pcs->Prop
 |.drop m=>fun l' LL'=>RO X k ops (ops.drop m) l' p (LF++LL')
 |.to K=>K
structure DE(X:Cx)(k:List Item)(ops:List Oper)(m:Ks)(p:Ab)(LF:List Pcs)(effs:List Nat)(todo:List Nat)(l:Env)(LL:List Pcs):Prop where
 run:DR X.P X.md ops X.n X.z9 X.zz p LF.flatten effs (m.k X k ops p LF) todo l LL
class Pi(A B:List Pcs)(C:outParam (List Pcs)):Prop where h:A++B=C
instance{B:List Pcs}:Pi [] B B:=⟨rfl⟩
instance{A B C:List Pcs}{X:Pcs}[i:Pi A B C]:Pi (X::A) B (X::C):=⟨by rw[List.cons_append,i.h]⟩
section
variable{X:Cx}{k:List Item}{ops:List Oper}{m:Ks}{l:Env}{p:Ab}{LF LL LR L3:List Pcs}{effs todo:List Nat}{g:Option Bool}{d:Option Tmp}{op:Op}{ty:TypeId}{pos:String}{aft:Array Edge}{gd:Option (Nat×Bool)}{ss ss':List Prop}{x y:Operand}{i:Nat}{v:Value}
theorem xjw{id:Nat}(m:Nat)(cl:List (List Nat))(effs H:List Nat)(D:DE X k ops (.drop m) p LL effs H l [])(V:X.P.follows .mixedOrders=true:=by kernel_rfl)(ok:okD X.n ops=true:=by rfl)
 (a2:Bp ops m cl=true:=by rfl)(hm:Nat.ble m ops.length=true:=by rfl)(O:Ea ops cl effs [] H=true:=by rfl)(M:((List.range m).all fun i=>H.contains i)=true:=by rfl)(a3:(H.all fun i=>Nat.blt i m)=true:=by rfl):
 RE X (.code (.region id ops.toArray true)::k) l p LL:=xu3 m cl effs H V ok D.run a2 hm O M a3
theorem yhj{H:Nat}{os:List Oper}[a:Pi LF LL L3](n:RO X k ops os l p L3)(M:ops.drop H=os:=by rfl):DE X k ops (.drop H) p LF effs [] l LL:=⟨.nil (show RO X k ops (ops.drop H) l p (LF++LL) from by rw[a.h,M];exact n)⟩
theorem xzq{K:Env->List Pcs->Prop}(n:K l LL):DE X k ops (.to K) p LF effs [] l LL:=⟨.nil n⟩
theorem xmh{P:Program}{md:Md}{tm:List Value}{o:Oper}{B:Heap->Prop}{v:Value}(h:∀h,B h->Exd P tm o h v):Nb P md tm o B v:=fun M H=>.inl (xix (h M H) fun _ _⟨v',e1,e2,O⟩=>⟨v',e1,e2,by rw[O];exact H⟩)
theorem xuz(ho:ops[i]?=some ⟨d,op,ty,pos,aft,gd⟩)(O:gdc ops l gd=some g)(V:Bh op=true)(M:Av g (∀tm h C,B1 tm l->St X.z9 X.zz p h (LF.flatten++C)->Exd X.P tm ⟨d,op,ty,pos,aft,gd⟩ h v))
 (n:DE X k ops m p LF effs todo (ent d g v l) LL):DE X k ops m p LF effs (i::todo) l LL:=⟨.det ho (fun tm _ E=>⟨V,by
  rcases xzv (o:=⟨d,op,ty,pos,aft,gd⟩) E O with⟨rfl,H⟩|⟨c,rfl,H⟩
  ·exact .inl ⟨H,fun C=>xmh fun h y=>M tm h C E y⟩
  ·cases c with
   |true=>exact .inl ⟨H,fun C=>xmh fun h y=>M rfl tm h C E y⟩
   |false=>exact .inr ⟨H,rfl⟩⟩) n.run⟩
theorem xmf(M:ops[i]?=some ⟨d,op,ty,pos,aft,gd⟩)(H:gdc ops l gd=some g)(hv:pv l op=some (ss,v))(hs:Av g (Ax ss))(n:DE X k ops m p LF effs todo (ent d g v l) LL):DE X k ops m p LF effs (i::todo) l LL:=
 xuz M H (xqn hv) (xuq hs fun a _ _ _ E _=>ytn E hv a) n
theorem xlh{LF LR:List Pcs}{b:Nat}{o:Obj}{C:Pcs}(i:Bx LF b o LR):(LF.flatten++C).Perm ((b,o)::(LR.flatten++C)):=List.Perm.append_right C i.h
theorem xnf{t:TypeId}{b off:Nat}{cs:Array Value}{T:TypeId}{z:Nat×Nat}{u:Value}(O:ops[i]?=some ⟨d,.load t x,ty,pos,aft,gd⟩)(H:gdc ops l gd=some g)(M:evS l x=some (ss,w_ b off))(hs:Av g (Ax ss))[a:Bw X.P t false][mm:Bx LF b (.cells cs T z) LR]
 (n:DE X k ops m p LF effs todo (ent d g u l) LL)(hv:nth cs.toList off=some u:=by rfl):DE X k ops m p LF effs (i::todo) l LL:=
 xuz O H rfl (xuq hs fun hs _ _ _ E s=>xwb (i:=0) (s.perm (xlh mm)) a.h (xeq E M hs) rfl (by rw[<- Array.getElem?_toList];exact xsl hv)) n
theorem xdp{t:TypeId}{b off nn:Nat}{cs:Array Value}{T:TypeId}{z:Nat×Nat}(O:ops[i]?=some ⟨d,.load t x,ty,pos,aft,gd⟩)(H:gdc ops l gd=some g)(M:evS l x=some (ss,w_ b off))(hs:Av g (Ax ss))[a:Bw X.P t true][sz:Ai X.P t nn][mm:Bx LF b (.cells cs T z) LR]
 (n:DE X k ops m p LF effs todo (ent d g (.agg ((cs.toList.drop off).take nn).toArray) l) LL)(hn:((cs.toList.drop off).take nn).length=nn:=by rfl):DE X k ops m p LF effs (i::todo) l LL:=
 xuz O H rfl (xuq hs fun hs _ _ _ E s=>xcb (i:=0) (s.perm (xlh mm)) a.h sz.h (xeq E M hs) rfl rfl hn) n
theorem xgj{t:TypeId}{a:Addr}{u:Value}(M:ops[i]?=some ⟨d,.load t x,ty,pos,aft,none⟩)(H:evS l x=some ([],.pointer (some a)))(hv:At p a=some u)[ag:Bw X.P t false](n:DE X k ops m p LF effs todo (ent d none u l) LL):DE X k ops m p LF effs (i::todo) l LL:=
 xuz (g:=none) M rfl rfl (fun _ _ _ E s=>xvb s ag.h (xeq E H trivial) hv) n
theorem ytl{s:TypeId}{j H nn:Nat}{a:Addr}(V:ops[i]?=some ⟨d,.fieldAddr s x j,ty,pos,aft,gd⟩)(M:gdc ops l gd=some g)(O:evS l x=some (ss,.pointer (some a)))(hs:Av g (Ax ss))[f:Bt X.P s j H nn](n:DE X k ops m p LF effs todo (ent d g (.pointer (some (a.add H))) l) LL):DE X k ops m p LF effs (i::todo) l LL:=
 xuz V M rfl (xuq hs fun hs _ _ _ E _=>xgv f.h (xeq E O hs) rfl) n
theorem ykj{t e:TypeId}{a:Option Addr}{q c:Nat}(O:ops[i]?=some ⟨d,.call ⟨.builtin .len,#[x],#[t]⟩,ty,pos,aft,gd⟩)(H:gdc ops l gd=some g)(M:evS l x=some (ss,.slice a q c))(hs:Av g (Ax ss))[f:Bv X.P t e](n:DE X k ops m p LF effs todo (ent d g (.J q) l) LL):DE X k ops m p LF effs (i::todo) l LL:=
 xuz O H rfl (xuq hs fun hs _ _ _ E _=>xy1 f.h (xeq E M hs)) n
theorem yrl{t e:TypeId}{a:Option Addr}{q c w j:Nat}{kk:IntKind}(V:ops[i]?=some ⟨d,.indexAddr t x y,ty,pos,aft,none⟩)(O:evS l x=some ([],.slice a q c))(M:evS l y=some ([],.int kk (j:Nat)))(hi:j<q)(H:a=some (adr a))
 [f:Bv X.P t e][sz:Ai X.P e w](n:DE X k ops m p LF effs todo (ent d none (.pointer (some ((adr a).add (j*w)))) l) LL):DE X k ops m p LF effs (i::todo) l LL:=
 xuz (g:=none) V rfl rfl (fun _ _ _ E _=>xxk f.h sz.h ((xeq E O trivial).trans (xs0 q c H)) (xeq E M trivial) hi) n
theorem xbv{args:List Operand}{ats:Array TypeId}{ff:FuncId}{first cap vs:List Value}(ho:ops[i]?=some ⟨d,.call ⟨.value x,args.toArray,ats⟩,ty,pos,aft,gd⟩)(V:gdc ops l gd=some g)
 (hx:evS l x=some ([],.func (.func ff) first.toArray cap.toArray))(O:C9 l args=some (ss,vs))(hs:Av g (Ax ss))(hc:Av g (∀h,Per p h->Aa X.P X.md ff (first++(vs++cap)).toArray h fun v' h'=>v'=v/\Af h h'))(n:DE X k ops m p LF effs todo (ent d g v l) LL)(hf:Am X.P ff=true:=by kernel_rfl):
 DE X k ops m p LF effs (i::todo) l LL:=⟨.det ho (fun tm _ E=>⟨rfl,by
  have H:Ax ss->(∀h,Per p h->Aa X.P X.md ff (first++(vs++cap)).toArray h fun v' h'=>v'=v/\Af h h')-> ∀C:Pcs,Nb X.P X.md tm ⟨d,.call ⟨.value x,args.toArray,ats⟩,ty,pos,aft,gd⟩ (fun h=>St X.z9 X.zz p h (LF.flatten++C)) v:=fun hs hc C h s=>
   .inr (.inl ⟨ff,_,xww (xeq E hx trivial) (by rw[xnx E O hs]) hf,(hc h fun b o e=>s.per b o e).mono fun _ _⟨e,kk⟩=>⟨e,s.call kk⟩⟩)
  rcases xzv (o:=⟨d,.call ⟨.value x,args.toArray,ats⟩,ty,pos,aft,gd⟩) E V with⟨rfl,M⟩|⟨c,rfl,M⟩
  ·exact .inl ⟨M,H hs hc⟩
  ·cases c with
   |true=>exact .inl ⟨M,H (hs rfl) (hc rfl)⟩
   |false=>exact .inr ⟨M,rfl⟩⟩) n.run⟩
theorem xvz{args:List Operand}{ats:Array TypeId}{ff:FuncId}{first cap vs:List Value}(O:ops[i]?=some ⟨d,.call ⟨.value x,args.toArray,ats⟩,ty,pos,aft,none⟩)
 (M:evS l x=some ([],.func (.func ff) first.toArray cap.toArray))(H:C9 l args=some ([],vs))(hc:∀h,Per p h->Aa X.P X.md ff (first++(vs++cap)).toArray h fun v' h'=>v'=v/\Af h h')(n:DE X k ops m p LF effs todo (ent d none v l) LL)(hf:Am X.P ff=true:=by kernel_rfl):
 DE X k ops m p LF effs (i::todo) l LL:=xbv (g:=none) O rfl M H trivial hc n hf
theorem xuk{args:List Operand}{ats:Array TypeId}{ff:FuncId}{first cap vs:List Value}{Q:Value->Pcs->Prop}(M:ops[i]?=some ⟨d,.call ⟨.value x,args.toArray,ats⟩,ty,pos,aft,none⟩)
 (O:evS l x=some ([],.func (.func ff) first.toArray cap.toArray))(H:C9 l args=some ([],vs))(hc:∀h,Per p h->Aa X.P X.md ff (first++(vs++cap)).toArray h fun v' h'=>∃Y,Q v' Y/\New h h' Y)(n:∀v Y,Q v Y->DE X k ops m p LF effs todo (ent d none v l) (Y::LL))
 (he:effs.contains i=true:=by rfl)(hf:Am X.P ff=true:=by kernel_rfl):DE X k ops m p LF effs (i::todo) l LL:=
 ⟨.eff (U:=[]) (LR:=LL) (Q:=Q) M (by simpa using he) (List.Perm.refl _) (fun _ _ E=>⟨rfl,xrq rfl,fun C h s=>.inr <| .inl ⟨ff,_,xww (xeq E O trivial) (by rw[xnx E H trivial]) hf,(hc h fun b o e=>s.per b o e).mono fun _ _⟨Y,q,nn⟩=>⟨Y,q,s.K3 nn⟩⟩⟩) fun v Y q=>(n v Y q).run⟩
end
section
variable{X:Cx}{k:List Item}{ops rest:List Oper}{l:Env}{p:Ab}{LL LR:List Pcs}{g:Option Bool}{d:Option Tmp}{ty:TypeId}{pos:String}{aft:Array Edge}{gd:Option (Nat×Bool)}{ss:List Prop}{x:Operand}{v fv:Value}
theorem ybn{args:List Operand}{ats:Array TypeId}{vs:List Value}(hg:gdc ops l gd=some g)(hx:evS l x=some ([],fv))(V:C9 l args=some (ss,vs))(hs:Av g (Ax ss))(hc:Av g (∀h,Per p h->Az X.P X.md fv vs h fun v' h'=>v'=v/\Af h h'))(n:RO X k ops rest (ent d g v l) p LL):
 RO X k ops (⟨d,.call ⟨.value x,args.toArray,ats⟩,ty,pos,aft,gd⟩::rest) l p LL:=by
 constructor;intro ok tm ht E;have M:=xjq ok;have go:∀u,u=cv g v->RL X.P X.md X.f X.r X.df k X.cs X.Stop ops rest (Cm tm d u) (fun h=>St X.z9 X.zz p h LL.flatten):=fun u e=>by
  subst e;exact n.run M.1 _ (Aw.trans ht) (E.ent ht M.2)
 have O:Met ops tm ⟨d,.call ⟨.value x,args.toArray,ats⟩,ty,pos,aft,gd⟩ true->Ax ss->(∀h,Per p h->Az X.P X.md fv vs h fun v' h'=>v'=v/\Af h h')->v=cv g v->
  RL X.P X.md X.f X.r X.df k X.cs X.Stop ops (⟨d,.call ⟨.value x,args.toArray,ats⟩,ty,pos,aft,gd⟩::rest) tm (fun h=>St X.z9 X.zz p h LL.flatten):=fun H hs hc e=>
  xbt H (xeq E hx trivial) (xnx E V hs) (fun h s=>hc h fun b o e=>s.per b o e) rfl (go _ e)
 rcases xzv (o:=⟨d,.call ⟨.value x,args.toArray,ats⟩,ty,pos,aft,gd⟩) E hg with⟨rfl,H⟩|⟨c,rfl,H⟩
 ·exact O H hs hc rfl
 ·cases c with
  |true=>exact O H (hs rfl) (hc rfl) rfl
  |false=>exact xqb H rfl (go _ rfl)
theorem xsm{args:List Operand}{ats:Array TypeId}{vs:List Value}(M:evS l x=some ([],fv))(H:C9 l args=some ([],vs))(hc:∀h,Per p h->Az X.P X.md fv vs h fun v' h'=>v'=v/\Af h h')(n:RO X k ops rest (ent d none v l) p LL):
 RO X k ops (⟨d,.call ⟨.value x,args.toArray,ats⟩,ty,pos,aft,none⟩::rest) l p LL:=ybn (g:=none) rfl M H trivial hc n
end
inductive Ef (P:Program) (l:Env) (LL:List Pcs):List ResultVar->List Value->Prop
 |nil:Ef P l LL [] []
 |tmp {t:Tmp} {v:Value} {rs:List ResultVar} {vs:List Value} (h:lk l t=some (none,v)) (r:Ef P l LL rs vs):Ef P l LL (.tmp t::rs) (v::vs)
 |cell1 {a:Tmp} {T:TypeId} {b off:Nat} {cs:Array Value} {T':TypeId} {z:Nat×Nat} {LR:List Pcs} {v:Value} {rs:List ResultVar} {vs:List Value} (h:lk l a=some (none,w_ b off)) (i:Bw P T false) (m:Bx LL b (.cells cs T' z) LR) (hv:nth cs.toList off=some v) (r:Ef P l LL rs vs):
  Ef P l LL (.cell a T::rs) (v::vs)
 |Oq {a:Tmp} {T:TypeId} {b off n:Nat} {cs:Array Value} {T':TypeId} {z:Nat×Nat} {LR:List Pcs} {rs:List ResultVar} {vs:List Value} (h:lk l a=some (none,w_ b off)) (i:Bw P T true) (s:Ai P T n) (m:Bx LL b (.cells cs T' z) LR) (hn:((cs.toList.drop off).take n).length=n)
  (r:Ef P l LL rs vs):Ef P l LL (.cell a T::rs) (.agg ((cs.toList.drop off).take n).toArray::vs)
theorem xor{tm:List Value}{l:Env}{t:Nat}{v:Value}(E:B1 tm l)(h:lk l t=some (none,v)):tm.getD t undef=v:=by simp[List.getD_eq_getElem?_getD,E _ _ _ h,cv]
theorem yeq{P:Program}{tm:List Value}{l:Env}{LL:List Pcs}{z9 h:Heap}{zz:List Nat}{p:Ab}{rs:List ResultVar}{vs:List Value}(E:B1 tm l)(s:St z9 zz p h LL.flatten)(r:Ef P l LL rs vs):Res P h tm rs vs:=by
 induction r with
 |nil=>exact rfl
 |tmp h1 _ ih=>exact⟨_,_,rfl,xor E h1,ih⟩
 |cell1 h1 i m hv _ ih=>
   refine⟨_,_,rfl,?_,ih⟩;rw[xor E h1];exact xbq (xcq (xjg i.h ((s.bx m).Ff (i:=0) rfl (by rw[<- Array.getElem?_toList];exact xsl hv)) ⟨rfl,rfl⟩))
 |Oq h1 i sz m hn _ ih=>
   refine⟨_,_,rfl,?_,ih⟩;rw[xor E h1];refine xbq (xcq (xig i.h sz.h hn (fun j u H=>?_) ⟨rfl,rfl⟩));rw[xsx];refine(s.bx m).Ff (i:=0) rfl ?_;rw[List.getElem?_take]at H;split at H
   ·rw[List.getElem?_drop]at H;simpa using H
   ·cases H
theorem xgz{P:Program}{md:Md}{f:FuncId}{nn:Nat}{zq:Frame}{cs:List Frame}{Stop:Goroutine->Heap->Prop}{z9:Heap}{zz:List Nat}{p:Ab}{LL:List Pcs}{l:Env}{k:List Item}{fn:Func}{rs:List ResultVar}{vs:List Value}(hf:P.funcs[f]?=some fn)(H:fn.results=rs.toArray)
 (hv:Ef P l LL rs vs)(x:∀h,St z9 zz p h LL.flatten->Reach P md (G (zq.finish (Fq vs)) cs) h Stop):RE ⟨P,md,f,.none,nn,[],zq::cs,Stop,z9,zz⟩ (.code .ret::k) l p LL:=
 ⟨fun _ _ E=>yhd hf H (fun _ s=>yeq E s hv) rfl x⟩
theorem xdt{P:Program}{l:Env}{LL LR:List Pcs}{a:Tmp}{T:TypeId}{b off:Nat}{cs:Array Value}{T':TypeId}{z:Nat×Nat}{v:Value}{rs:List ResultVar}{vs:List Value}(h:lk l a=some (none,w_ b off))(r:Ef P l LL rs vs)[i:Bw P T false][m:Bx LL b (.cells cs T' z) LR]
 (hv:nth cs.toList off=some v:=by rfl):Ef P l LL (.cell a T::rs) (v::vs):=.cell1 h i m hv r
theorem xtq{P:Program}{l:Env}{LL LR:List Pcs}{a:Tmp}{T:TypeId}{b off n:Nat}{cs:Array Value}{T':TypeId}{z:Nat×Nat}{rs:List ResultVar}{vs:List Value}(h:lk l a=some (none,w_ b off))(r:Ef P l LL rs vs)[i:Bw P T true][s:Ai P T n][m:Bx LL b (.cells cs T' z) LR]
 (hn:((cs.toList.drop off).take n).length=n:=by rfl):Ef P l LL (.cell a T::rs) (.agg ((cs.toList.drop off).take n).toArray::vs):=.Oq h i s m hn r
theorem rsv{p:Prop}(h:p:=by repeat (first|exact Ef.nil|refine Ef.tmp rfl ?_|refine xdt rfl ?_|refine xtq rfl ?_)):p:=h
def Ns:List (Nat×Nat)->Nat->Option (Nat×Nat)
 |[],_=>none
 |x::_,0=>some x
 |_::xs,i+1=>Ns xs i
theorem yex:∀{l:List (Nat×Nat)}{i:Nat}{x:Nat×Nat},Ns l i=some x->l[i]?=some x
 |[],_,_,h=>by cases h
 |_::_,0,_,h=>h
 |_::xs,i+1,_,h=>yex (l:=xs) h
def Fe(pl:List (Nat×Nat)):List Value->List (Nat×Value)->Option (List Value)
 |cs,[]=>some cs
 |cs,x::rest=>
   match Ns pl x.1 with
   |none=>none
   |some q=>match Nat.beq x.2.cells.toList.length q.2&&Nat.ble (q.1+q.2) cs.length with
     |true=>Fe pl (B6 cs q.1 x.2.cells.toList) rest
     |false=>none
theorem xj2{off:Nat}:∀{l:List Value}{k:Nat}{cs:Array Value},((l.zipIdx k).foldl (fun cs(c,j)=>cs.setIfInBounds (off+j) c) cs).toList=B6 cs.toList (off+k) l
 |[],_,_=>rfl
 |c::l,k,cs=>by
   rw[List.zipIdx_cons,List.foldl_cons,xj2,Array.toList_setIfInBounds];rfl
theorem xhc{pl:List (Nat×Nat)}:∀{vs:List (Nat×Value)}{cs r:List Value},Fe pl cs vs=some r->Instr.fill (fun i=>pl[i]?) cs.toArray vs=some r.toArray
 |[],cs,r,h=>by unfold Fe at h;cases h;rfl
 |(i,v)::vs,cs,r,h=>by
   rw[Fe]at h;cases M:Ns pl i with
   |none=>simp only[M]at h;cases h
   |some q=>
     obtain⟨off,size⟩:=q;simp only[M]at h;cases H:Nat.beq v.cells.toList.length size&&Nat.ble (off+size) cs.length with
     |false=>rw[H]at h;cases h
     |true=>
       rw[H]at h;simp only[Bool.and_eq_true,Nat.beq_eq,Nat.ble_eq,Array.length_toList]at H;have O:pl[i]?=some (off,size):=yex M;have e:v.cells.zipIdx.foldl (fun cs(c,j)=>cs.setIfInBounds (off+j) c) cs.toArray=(B6 cs off v.cells.toList).toArray:=by
        apply Array.toList_inj.1;rw[<- Array.foldl_toList,Array.toList_zipIdx,xj2];rfl
       unfold Instr.fill;simp only[O];rw[if_neg (by simp[H.1];omega),e];exact xhc h
section
variable{X:Cx}{k:List Item}{ops rest:List Oper}{m:Ks}{l:Env}{p:Ab}{LF LL LR:List Pcs}{effs todo:List Nat}{g:Option Bool}{d:Option Tmp}{ty:TypeId}{pos:String}{aft:Array Edge}{gd:Option (Nat×Bool)}{ss ss':List Prop}{x y:Operand}{i:Nat}{v:Value}
theorem yjd{P:Program}{tm:List Value}{h:Heap}{t:TypeId}{j o:Nat}{cs:Array Value}[f:FiC P t j o](O:evl tm x=.agg cs)(hv:nth cs.toList o=some v):Exd P tm ⟨d,.field t x j,ty,pos,aft,gd⟩ h v:=by
 obtain⟨fs,fd,h1,M,H,V⟩:=f.h;exact ypz h1 M rfl H V O (by rw[<- Array.getElem?_toList];exact xsl hv)
theorem ycg{t:TypeId}{j o:Nat}{cs:Array Value}(H:gdc ops l gd=some g)(M:evS l x=some (ss,.agg cs))(hs:Av g (Ax ss))[f:FiC X.P t j o](n:RO X k ops rest (ent d g v l) p LL)(hv:nth cs.toList o=some v:=by rfl):RO X k ops (⟨d,.field t x j,ty,pos,aft,gd⟩::rest) l p LL:=
 xjx H rfl (xuq hs fun hs _ _ E _=>yjd (xeq E M hs) hv) n
theorem ysl{t:TypeId}{j o:Nat}{cs:Array Value}(O:ops[i]?=some ⟨d,.field t x j,ty,pos,aft,gd⟩)(H:gdc ops l gd=some g)(M:evS l x=some (ss,.agg cs))(hs:Av g (Ax ss))[f:FiC X.P t j o](n:DE X k ops m p LF effs todo (ent d g v l) LL)(hv:nth cs.toList o=some v:=by rfl):DE X k ops m p LF effs (i::todo) l LL:=
 xuz O H rfl (xuq hs fun hs _ _ _ E _=>yjd (xeq E M hs) hv) n
theorem ydg{s:TypeId}{j H nn b off:Nat}(M:gdc ops l gd=some g)(O:evS l x=some (ss,w_ b off))(hs:Av g (Ax ss))[f:Bt X.P s j H nn](n:RO X k ops rest (ent d g (.pointer (some ⟨b,off+H,none⟩)) l) p LL):
 RO X k ops (⟨d,.fieldAddr s x j,ty,pos,aft,gd⟩::rest) l p LL:=xjx M rfl (xuq hs fun hs _ _ E _=>xgv f.h (xeq E O hs) (xsx _ _ _)) n
theorem ymj{s:TypeId}{j H nn b off:Nat}(V:ops[i]?=some ⟨d,.fieldAddr s x j,ty,pos,aft,gd⟩)(M:gdc ops l gd=some g)(O:evS l x=some (ss,w_ b off))(hs:Av g (Ax ss))[f:Bt X.P s j H nn](n:DE X k ops m p LF effs todo (ent d g (.pointer (some ⟨b,off+H,none⟩)) l) LL):
 DE X k ops m p LF effs (i::todo) l LL:=xuz V M rfl (xuq hs fun hs _ _ _ E _=>xgv f.h (xeq E O hs) (xsx _ _ _)) n
theorem xh9{ats:Array TypeId}{M k':IntKind}{a b:Int}(V:gdc ops l gd=some g)(hx:evS l x=some (ss,.int M a))(O:evS l y=some (ss',.int k' b))(hs:Av g (Ax ss))(H:Av g (Ax ss'))(n:RO X k ops rest (ent d g (.int M (min a b)) l) p LL):RO X k ops (⟨d,.call ⟨.builtin .min,#[x,y],ats⟩,ty,pos,aft,gd⟩::rest) l p LL:=
 xjx V rfl (xwz hs H fun hs H _ _ E _=>ymz (xeq E hx hs) (xeq E O H)) n
theorem xi9{ats:Array TypeId}{M k':IntKind}{a b:Int}(V:gdc ops l gd=some g)(hx:evS l x=some (ss,.int M a))(O:evS l y=some (ss',.int k' b))(hs:Av g (Ax ss))(H:Av g (Ax ss'))(n:RO X k ops rest (ent d g (.int M (max a b)) l) p LL):RO X k ops (⟨d,.call ⟨.builtin .max,#[x,y],ats⟩,ty,pos,aft,gd⟩::rest) l p LL:=
 xjx V rfl (xwz hs H fun hs H _ _ E _=>yzh (xeq E hx hs) (xeq E O H)) n
theorem yij{ats:Array TypeId}{M k':IntKind}{a b:Int}(ho:ops[i]?=some ⟨d,.call ⟨.builtin .min,#[x,y],ats⟩,ty,pos,aft,gd⟩)(V:gdc ops l gd=some g)(hx:evS l x=some (ss,.int M a))(O:evS l y=some (ss',.int k' b))(hs:Av g (Ax ss))(H:Av g (Ax ss'))
 (n:DE X k ops m p LF effs todo (ent d g (.int M (min a b)) l) LL):DE X k ops m p LF effs (i::todo) l LL:=xuz ho V rfl (xwz hs H fun hs H _ _ _ E _=>ymz (xeq E hx hs) (xeq E O H)) n
theorem xgl{t e:TypeId}{a:Option Addr}{q c w:Nat}{j:Int}{kk:IntKind}(O:evS l x=some ([],.slice a q c))(M:evS l y=some ([],.int kk j))(V:0<=j)(hi:j<q)(H:a=some (adr a))[f:Bv X.P t e][sz:Ai X.P e w]
 (n:RO X k ops rest (ent d none (.pointer (some ((adr a).add (j.toNat*w)))) l) p LL):RO X k ops (⟨d,.indexAddr t x y,ty,pos,aft,none⟩::rest) l p LL:=
 xjx (g:=none) rfl rfl (fun _ _ E _=>xjk f.h sz.h ((xeq E O trivial).trans (xs0 q c H)) (xeq E M trivial) V hi rfl) n
theorem xrc{t e:TypeId}{a:Option Addr}{q c w:Nat}{j:Int}{kk:IntKind}(V:ops[i]?=some ⟨d,.indexAddr t x y,ty,pos,aft,none⟩)(O:evS l x=some ([],.slice a q c))(M:evS l y=some ([],.int kk j))(h0:0<=j)(hi:j<q)(H:a=some (adr a))[f:Bv X.P t e][sz:Ai X.P e w]
 (n:DE X k ops m p LF effs todo (ent d none (.pointer (some ((adr a).add (j.toNat*w)))) l) LL):DE X k ops m p LF effs (i::todo) l LL:=
 xuz (g:=none) V rfl rfl (fun _ _ _ E _=>xjk f.h sz.h ((xeq E O trivial).trans (xs0 q c H)) (xeq E M trivial) h0 hi rfl) n
theorem xbw{t:TypeId}{a:Addr}{nn:Nat}{vs:List Value}(M:ops[i]?=some ⟨d,.load t x,ty,pos,aft,none⟩)(H:evS l x=some ([],.pointer (some a)))(hv:∀j v,vs[j]?=some v->At p (a.add j)=some v)[ag:Bw X.P t true][sz:Ai X.P t nn](n:DE X k ops m p LF effs todo (ent d none (.agg vs.toArray) l) LL)(hn:vs.length=nn:=by rfl):DE X k ops m p LF effs (i::todo) l LL:=
 xuz (g:=none) M rfl rfl (fun _ _ _ E s=>xbb s ag.h sz.h (xeq E H trivial) hn hv) n
theorem xy9{t:TypeId}{parts:List (Nat×Operand)}{z:Value}{pl:List (Nat×Nat)}{cells:List Value}{vs:List (Nat×Value)}(H:Mp l parts=some vs)[hz:A5 X.P t z][hp:PlC X.P t pl](n:RO X k ops rest (ent d none (.agg cells.toArray) l) p LL)
 (hf:Fe pl z.cells.toList vs=some cells:=by rfl):RO X k ops (⟨d,.build t parts.toArray,ty,pos,aft,none⟩::rest) l p LL:=xjx (g:=none) rfl rfl (fun _ _ E _=>xjf hz.h hp.h (xgm E H) (xhc hf)) n
theorem xv5{t:TypeId}{parts:List (Nat×Operand)}{z:Value}{pl:List (Nat×Nat)}{cells:List Value}{vs:List (Nat×Value)}(M:ops[i]?=some ⟨d,.build t parts.toArray,ty,pos,aft,none⟩)(H:Mp l parts=some vs)[hz:A5 X.P t z][hp:PlC X.P t pl](n:DE X k ops m p LF effs todo (ent d none (.agg cells.toArray) l) LL)
 (hf:Fe pl z.cells.toList vs=some cells:=by rfl):DE X k ops m p LF effs (i::todo) l LL:=xuz (g:=none) M rfl rfl (fun _ _ _ E _=>xjf hz.h hp.h (xgm E H) (xhc hf)) n
theorem yql{fn:Fn}{first cap:List Operand}{a b:List Value}(M:ops[i]?=some ⟨d,.makeFunc fn first.toArray cap.toArray,ty,pos,aft,none⟩)(H:C9 l first=some ([],a))(O:C9 l cap=some ([],b))(n:DE X k ops m p LF effs todo (ent d none (.func fn a.toArray b.toArray) l) LL):DE X k ops m p LF effs (i::todo) l LL:=
 xuz (g:=none) M rfl rfl (fun _ _ _ E _=>xug (xnx E H trivial) (xnx E O trivial)) n
end
theorem N9{n:Int}(h:0<=n/\n<=18446744073709551615):IntKind.u64.wrap n=n:=by
 obtain⟨H,M⟩:=h;unfold IntKind.wrap;simp[IntKind.signed,IntKind.bits];omega
theorem bpe{x:Bool}{q P:Prop}[i:BP x q][Decidable P](h:q<->P):x=decide P:=by
 cases x
 ·exact(decide_eq_false fun z=>by have:=i.iff.2 (h.2 z);cases this).symm
 ·exact(decide_eq_true (h.1 (i.iff.1 rfl))).symm
theorem bpn{x:Bool}{q P:Prop}[i:BP x q][Decidable P](h:q<-> ¬ P):x= !decide P:=(bpe (P:=¬ P) h).trans s_
theorem xtx{g:Option Bool}{q:Prop}(h:q):Av g q:=by
 cases g with
 |none=>exact h
 |some c=>exact fun _=>h
theorem xql{p:Ab}{b off:Nat}{cs:Array Value}{T:TypeId}{z:Nat×Nat}{v:Value}(h:p b=some (.cells cs T z))(hv:nth cs.toList off=some v):At p ⟨b,off,none⟩=some v:=by
 unfold At;rw[h];simp only[Option.isSome_none,Bool.false_eq_true,if_false];rw[<- Array.getElem?_toList];exact xsl hv
theorem xyz{p:Ab}{b off n:Nat}{cs:Array Value}{T:TypeId}{z:Nat×Nat}(h:p b=some (.cells cs T z)):∀j v,((cs.toList.drop off).take n)[j]?=some v->At p ((⟨b,off,none⟩:Addr).add j)=some v:=fun j v H=>by
 rw[xsx];unfold At;rw[h];simp only[Option.isSome_none,Bool.false_eq_true,if_false];rw[<- Array.getElem?_toList];rw[List.getElem?_take]at H;split at H
 ·rw[List.getElem?_drop]at H;exact H
 ·cases H
theorem sdt{p:Prop}(h:p:=by
 first
  |exact trivial
  |exact⟨wrZ om,trivial⟩
  |exact⟨fun e=>⟨ybs e,trivial⟩,trivial⟩
  |exact⟨fun e=>⟨e,trivial⟩,trivial⟩
  |exact⟨fun _=>trivial,trivial⟩
  |exact⟨N9 om,trivial⟩
  |exact gd2 fun h q=>by first
    |exact trivial
    |exact⟨h,trivial⟩
    |exact⟨h,h,trivial⟩
    |exact⟨wrZ om,trivial⟩
    |exact⟨h,wrZ om,trivial⟩
    |exact⟨h,h,wrZ om,trivial⟩
    |exact⟨Og h,trivial⟩
    |exact⟨Og h,Og h,trivial⟩
    |exact⟨Og (Og h),trivial⟩
    |exact⟨h,fun e=>⟨by rw[h,e];rfl,trivial⟩,trivial⟩
    |exact⟨h,fun _=>trivial,trivial⟩
    |exact⟨h,fun _=>⟨h,trivial⟩,trivial⟩
    |exact⟨fun e=>⟨by rw[h,e];rfl,trivial⟩,trivial⟩
    |(refine⟨?_,?_⟩<;>simp_all[Ax])):p:=h
theorem au{Q K:Prop}(k:K)(h:Hid K->Q:=by
 intro k
 repeat (first
  |refine xrv rfl rfl sdt ?_
  |refine xu9 ?_
  |refine ymq ?_
  |refine xwp ?_ rfl
  |refine xz0 rfl rfl sdt ?_
  |refine ydg rfl rfl sdt ?_
  |refine yeg rfl rfl sdt ?_
  |refine xhb rfl rfl sdt (xtx (xql ‹_› rfl)) ?_
  |refine xk9 rfl rfl sdt ?_
  |refine xo6 rfl rfl (by omega) (Sl.ne ‹_› (by omega)) ?_
  |refine xoz rfl (As.get ‹_› (by omega)) ?_
  |refine xd1 ?_
  |refine xyp ?_
  |refine xwf ?_
  |refine xg1 rfl ?_
  |refine xl9 rfl rfl sdt ?_
  |refine xad rfl rfl sdt (xtx (xyz ‹_›)) ?_
  |refine xnc rfl rfl ?_
  |refine ycg rfl rfl sdt ?_
  |refine xh9 rfl rfl rfl sdt sdt ?_
  |refine xi9 rfl rfl rfl sdt sdt ?_
  |refine yzf rfl rfl ?_
  |refine xy9 rfl ?_)
 exact k.out):Q:=h ⟨k⟩
theorem ad{Q K:Prop}(k:K)(h:Hid K->Q:=by
 intro k
 repeat (first
  |refine xmf rfl rfl rfl sdt ?_
  |refine yhj ?_
  |refine xnf rfl rfl rfl sdt ?_
  |refine ymj rfl rfl rfl sdt ?_
  |refine ytl rfl rfl rfl sdt ?_
  |refine ykj rfl rfl rfl sdt ?_
  |refine yrl rfl rfl rfl (by omega) (Sl.ne ‹_› (by omega)) ?_
  |refine xgj rfl rfl (As.get ‹_› (by omega)) ?_
  |refine xdp rfl rfl rfl sdt ?_
  |refine ysl rfl rfl rfl sdt ?_
  |refine xv5 rfl rfl ?_
  |refine yql rfl rfl rfl ?_
  |refine yij rfl rfl rfl rfl sdt sdt ?_)
 exact k.out):Q:=h ⟨k⟩
section
variable{X:Cx}{k:List Item}{ops rest:List Oper}{m:Ks}{l:Env}{p:Ab}{LF LL LR:List Pcs}{effs todo:List Nat}{g:Option Bool}{d:Option Tmp}{ty:TypeId}{pos:String}{aft:Array Edge}{gd:Option (Nat×Bool)}{ss ss':List Prop}{x y:Operand}{i:Nat}{v:Value}
theorem xvs{T T' e:TypeId}{a:Option Addr}{n c:Nat}(H:evS l x=some ([],.slice a n c))[f:Bv X.P T e](M:RO X k ops rest (ent d none (.bool (decide (a=none))) l) p LL):
 RO X k ops (⟨d,.binOp .eql T x (.const (.slice none 0 0)) T',ty,pos,aft,none⟩::rest) l p LL:=
 xjx (g:=none) rfl rfl (fun _ _ E _=>show Exd _ _ _ _ (.bool (decide (a=none))) from(show a.isNone=decide (a=none) by cases a<;>simp) ▸ xvt f.h (xeq E H trivial)) M
theorem xnk{M H:TypeId}{k1 k':IntKind}{a:Int}(hs:∃t,X.P.underlying M=some t)(O:X.P.underlying H=some (.int k'))(V:evS l x=some ([],.int k1 a))(hn:k'.wrap a=a)(n:RO X k ops rest (ent d none (.int k' a) l) p LL):
 RO X k ops (⟨d,.convert M H x,ty,pos,aft,none⟩::rest) l p LL:=xjx (g:=none) rfl rfl (fun _ _ E _=>xj5 hs O (xeq E V trivial) hn) n
theorem yag{T T':TypeId}{a:Int}(H:evS l x=some ([],.int .u64 a))(h:0<=a/\a<4294967296)(n:RO X k ops rest (ent d none (.int .u64 a) l) p LL):
 RO X k ops (⟨d,.binOp .and T x (.const (.int .u64 4294967295)) T',ty,pos,aft,none⟩::rest) l p LL:=xjx (g:=none) rfl rfl (fun tm h' E _=>by
 have e:a=((a.toNat:Nat):Int):=om;have e2:a.toNat &&& 4294967295=a.toNat:=by
  rw[show(4294967295:Nat)=2^32-1 from rfl,Nat.and_two_pow_sub_one_eq_mod];omega
 have z:=xl5 (d:=d) (T:=T) (T':=T') (ty:=ty) (pos:=pos) (aft:=aft) (gd:=none) (P:=X.P) (h:=h') (tm:=tm) ((xeq E H trivial).trans (by rw[<- e])) (show evl _ (.const (.int .u64 4294967295))=.int .u64 ((4294967295:Nat):Int) from rfl) om d_;rw[e2,<- e]at z;exact z) n
theorem xq9{T T':TypeId}{k1 k2:IntKind}{a:Int}(H:evS l x=some ([],.int k1 a))(h:0<=a/\a<4294967296)(n:RO X k ops rest (ent d none (.int k1 0) l) p LL)(M:32<=k1.bits:=by decide):
 RO X k ops (⟨d,.binOp .shr T x (.const (.int k2 32)) T',ty,pos,aft,none⟩::rest) l p LL:=xjx (g:=none) rfl rfl (fun tm h' E _=>by
 have e:a=((a.toNat:Nat):Int):=om;have e2:a.toNat / 2^32=0:=Nat.div_eq_of_lt om;have z:=xf5 (d:=d) (T:=T) (T':=T') (ty:=ty) (pos:=pos) (aft:=aft) (gd:=none) (P:=X.P) (h:=h') (tm:=tm) ((xeq E H trivial).trans (by rw[<- e])) (show evl _ (.const (.int k2 32))=.int k2 ((32:Nat):Int) from rfl) M;rw[e2]at z;exact z) n
theorem yyf{dd:Nat}{sT eT:TypeId}{n w by':Nat}{z:Value}{zc:List Value}(hx:evS l x=some ([],.J ((n:Nat):Int)))(hy:evS l y=some ([],.J ((n:Nat):Int)))(hn:n<=1000)[hT:Bv X.P sT eT][hs:Ai X.P eT w][hz:A5 X.P eT z][hb:ByC X.P eT by']
 (nx:∀v Y,Ac eT w v (List.replicate n zc) Y->RO X k ops rest ((dd,none,v)::l) p (Y::LL))(M:z.cells=zc.toArray:=by rfl)(H:zc.length=w:=by rfl)(hw:0<w/\w<=100:=by decide)(O:by'<=2^20:=by decide):
 RO X k ops (⟨some dd,.makeSlice sT x y,ty,pos,aft,none⟩::rest) l p LL:=⟨fun ok tm V E=>
 xmj (K:=fun v h'=>∃Y,Ac eT w v (List.replicate n zc) Y/\St X.z9 X.zz p h' (Y++LL.flatten)) (xrq rfl) rfl (fun h s=>xm5 hT.h hs.h hz.h M H hw.1 hw.2 hb.h (xeq E hx trivial) (xeq E hy trivial) hn O s)
  fun v=>xgk fun Y=>xcz fun o=>(nx v Y o).run (xjq ok).1 _ (by simp[Cm,V]) (E.set (g:=none) (V ▸ xhw ok rfl))⟩
theorem D6{z9 h:Heap}{Y:Pcs}[i:Rm LL Y LR](s:St z9 [] p h LL.flatten):New z9 h Y:=((s.rm i).sub (List.sublist_append_left _ _)).new
end
section
variable{P:Program}{z9 h:Heap}{zz:List Nat}{p:Ab}{C:Pcs}
theorem xkb{dT xT eT T ty:TypeId}{w off n m dl dc:Nat}{v x:Value}{es news:List (List Value)}{Y:Pcs}{K:Value->Heap->Prop}(hT:P.underlying dT=some (.slice eT))(hs:Bi P eT=some w)(o:Ac T w v es Y)(s:St z9 zz p h (Y++C))(a2:0<es.length)
 (hn:Nat.min m dl=n)(hlen:∀K:Nat->Heap->Prop,K m h->wpS P (Builtin.lenOf x) h K)(hc:∀K:Array Value->Heap->Prop,K news.flatten.toArray h->wpS P (Builtin.firstCells w n x) h K)(hl:news.length=n)(hw:∀e∈news,e.length=w)(h1:∀u∈news.flatten,A7 u=true)(ho:off+n<=es.length)
 (k:∀h' Y',Ac T w v (es.take off++(news++es.drop (off+n))) Y'->St z9 zz p h' (Y'++C)->K (.J ((n:Nat):Int)) h'):
 wpS P (Builtin.copy_ #[dT,xT] ty #[.slice (some ((El v).add (off*w))) dl dc,x]) h K:=by
 obtain⟨H,⟨rfl,rfl,rfl⟩|⟨b,cs,cap,rest,rfl,rfl,a3,a6,V⟩⟩:=o
 ·exact absurd a2 s_
 unfold Builtin.copy_;simp only[List.getElem?_toArray,List.getElem?_cons_zero,List.getElem?_cons_succ];refine xbq (xfq hT ?_);simp only;refine xbq (hlen _ ?_);refine xbq (xax hs ?_);rw[hn];refine xbq (hc _ ?_);simp only;refine xbq ?_;have O:news.flatten.length=n*w:=by rw[xnq hw,hl]
 have a8:es.flatten.length=es.length*w:=xnq H;have a4:(es.take off).flatten.length=off*w:=by rw[xnq fun e he=>H e (List.mem_of_mem_take he),List.length_take,Nat.min_eq_left om]
 have b0:off*w+n*w<=es.length*w:=by rw[<- Nat.add_mul];exact Nat.mul_le_mul_right _ ho
 have a5:off*w+news.flatten.length<=cs.length:=by rw[a3,List.length_append,a8,O];omega
 have a7:((El (.slice (some ⟨b,0,none⟩) es.length cap)).add (off*w))=⟨b,off*w,none⟩:=by
  show(⟨b,0,none⟩:Addr).add (off*w)=_;rw[xsx,Nat.zero_add]
 rw[a7];refine xnz (i:=0) (cs:=cs) s rfl (by simpa using a5) (fun u hu=>h1 u (by simpa using hu)) fun h' s'=>?_;simp only[goInt];refine xcq ?_;have hk:es.drop (off+n)=(es.drop off).drop n:=by rw[List.drop_drop]
 have a9:((es.drop off).take n).flatten.length=n*w:=by
  rw[xnq fun e he=>H e (List.mem_of_mem_drop (List.mem_of_mem_take he)),List.length_take,List.length_drop,Nat.min_eq_left om]
 have e1:cs=(es.take off).flatten++((es.drop off).flatten++rest):=by
  rw[<- List.append_assoc,<- List.flatten_append,List.take_append_drop,a3]
 have e2:B6 cs (off*w) news.flatten=(es.take off++(news++es.drop (off+n))).flatten++rest:=by
  rw[e1,<- a4,xqv (by rw[O,List.length_append,xnq fun e he=>H e (List.mem_of_mem_drop he),List.length_drop];have:n*w<=(es.length-off)*w:=Nat.mul_le_mul_right _ om;omega)];have e3:((es.drop off).flatten++rest).drop news.flatten.length=(es.drop (off+n)).flatten++rest:=by
   have e4:(es.drop off).flatten=((es.drop off).take n).flatten++(es.drop (off+n)).flatten:=by rw[<- List.flatten_append,hk,List.take_append_drop]
   rw[e4,List.append_assoc,O,<- a9,List.drop_left]
  rw[e3];simp
 have M:(es.take off++(news++es.drop (off+n))).length=es.length:=by simp;omega
 refine k h' [(b,.cells (B6 cs (off*w) news.flatten).toArray T (0,0))] ⟨fun e he=>?_,.inr ⟨b,_,cap,rest,by rw[M],rfl,e2,by rw[xzx];exact a6,V⟩⟩ (by simpa using s');simp only[List.mem_append]at he;rcases he with he|he|he
 ·exact H e (List.mem_of_mem_take he)
 ·exact hw e he
 ·exact H e (List.mem_of_mem_drop he)
end
section
variable{X:Cx}{k:List Item}{ops rest:List Oper}{m:Ks}{l:Env}{p:Ab}{LF LL LR L3:List Pcs}{effs todo:List Nat}{g:Option Bool}{d:Option Tmp}{dd:Nat}{ty:TypeId}{pos:String}{aft:Array Edge}{gd:Option (Nat×Bool)}{ss ss':List Prop}{x y:Operand}{i:Nat}{v:Value}{T:TypeId}{w:Nat}{es news:List (List Value)}{Y:Pcs}
theorem Ac.at0(o:Ac T w v es Y)(h:0<es.length)(a2:0<w):∃b cap,v=.slice (some ⟨b,0,none⟩) es.length cap/\es.length<=cap/\ ∀n,n<=es.length->Ac T w (.slice (some ⟨b,0,none⟩) n cap) (es.take n) Y:=by
 obtain⟨H,⟨rfl,rfl,rfl⟩|⟨b,cs,cap,rest,rfl,rfl,V,O,M⟩⟩:=o
 ·exact absurd h s_
 refine⟨b,cap,rfl,?_,fun n hn=>⟨fun e he=>H e (List.mem_of_mem_take he),.inr ⟨b,cs,cap,(es.drop n).flatten++rest,by rw[List.length_take,Nat.min_eq_left hn],rfl,by rw[V,<- List.append_assoc,<- List.flatten_append,List.take_append_drop],O,M⟩⟩⟩;have:=congrArg List.length V;rw[List.length_append,xnq H,O]at this;exact Nat.le_of_mul_le_mul_right om a2
theorem ycn{dT xT eT:TypeId}{n c:Nat}{a:Option Addr}(hx:evS l x=some ([],v))(hy:evS l y=some ([],.slice a n c))(o:Ac T w v es Y)(S:Sl p a n w news)(O:0<es.length)(hn:n<=es.length)(h1:∀u∈news.flatten,A7 u=true)[i1:Rm LL Y LR][hT:Bv X.P dT eT][hs:Ai X.P eT w]
 (nx:∀M,Ac T w v (news++es.drop n) M->RO X k ops rest ((dd,none,.J ((n:Nat):Int))::l) p (M::LR))(V:0<w:=by decide):RO X k ops (⟨some dd,.call ⟨.builtin .copy,#[x,y],#[dT,xT]⟩,ty,pos,aft,none⟩::rest) l p LL:=⟨fun ok tm ht E=>by
 obtain⟨b,cap,hv,a4,_⟩:=o.at0 O V;refine xmj (K:=fun v' h'=>v'=.J ((n:Nat):Int)/\ ∃M,Ac T w v (news++es.drop n) M/\St X.z9 X.zz p h' (M++LR.flatten)) (xrq rfl) rfl (fun h s=>?_) fun v'=>xcz fun e=>by
  subst e;exact xgk fun M=>xcz fun o'=>(nx M o').run (xjq ok).1 _ (by simp[Cm,ht]) (E.set (g:=none) (ht ▸ xhw ok rfl))
 unfold Ex;simp only[execOp,resolve];refine xbq (xcq ?_);simp only[invoke,builtin];refine xbq ?_;have a3:=xeq E hy trivial;have a2:=xeq E hx trivial;have e:(#[x,y]:Array Operand).map (evl tm)=#[.slice (some ((El v).add (0*w))) es.length cap,.slice a n c]:=by
  simp only[List.map_toArray,List.map_cons,List.map_nil,a2,a3];rw[hv];show _=#[Value.slice (some ((⟨b,0,none⟩:Addr).add (0*w))) es.length cap,_];rw[xsx,Nat.zero_mul]
 rw[e];have H:=xrf (P:=X.P) (cap:=c) (s.rm i1) V S;refine xkb hT.h hs.h o (s.rm i1) O (Nat.min_eq_left hn) H.lenOf H.cells H.len H.wid h1 om fun h' M o' s'=>?_;exact xcq ⟨_,rfl,rfl,M,by simpa using o',s'⟩⟩
theorem xsc{a:Addr}{c j w:Nat}(h:j<c):Ft (some a) c j w=some (a.add (j*w)):=by unfold Ft;rw[if_neg om];rfl
theorem Ox{a:Addr}{w:Nat}:a.add (0*w)=a:=by rw[Nat.zero_mul];cases a;rfl
theorem ydr{t e:TypeId}{q c j:Nat}{a:Addr}{kk:IntKind}(V:ops[i]?=some ⟨d,.slice t x (some y) none none,ty,pos,aft,none⟩)(O:evS l x=some ([],.slice (some a) q c))(M:evS l y=some ([],.int kk (j:Nat)))(H:j<c/\j<=q/\q<=c)[f:Bv X.P t e][sz:Ai X.P e w]
 (n:DE X k ops m p LF effs todo (ent d none (.slice (some (a.add (j*w))) (q-j) (c-j)) l) LL):DE X k ops m p LF effs (i::todo) l LL:=
 xuz (g:=none) V rfl rfl (fun _ _ _ E _=>xsc H.1 ▸ xsw f.h sz.h (xeq E O trivial) (.nat 0 (xeq E M trivial)) (.none q) H.2.1 H.2.2) n
theorem ycr{t e:TypeId}{q c j:Nat}{a:Addr}{kk:IntKind}(V:ops[i]?=some ⟨d,.slice t x none (some y) none,ty,pos,aft,none⟩)(O:evS l x=some ([],.slice (some a) q c))(M:evS l y=some ([],.int kk (j:Nat)))(H:0<c/\j<=c)[f:Bv X.P t e][sz:Ai X.P e w]
 (n:DE X k ops m p LF effs todo (ent d none (.slice (some a) j c) l) LL):DE X k ops m p LF effs (i::todo) l LL:=
 xuz (g:=none) V rfl rfl (fun tm h' _ E _=>by
  have z:=xsw (tm:=tm) (h:=h') (d:=d) (ty:=ty) (pos:=pos) (aft:=aft) (gd:=none) f.h sz.h (xeq E O trivial) (.none 0) (.nat q (xeq E M trivial)) (Nat.zero_le j) H.2;rw[xsc H.1,Ox]at z;exact z) n
theorem xv3{id:Nat}(m:Nat)(cl:List (List Nat))(effs H:List Nat)(Y:Pcs)[i:Rm LL Y LR](D:DE X k ops (.drop m) p LR effs H l [Y])(V:X.P.follows .mixedOrders=true:=by kernel_rfl)(ok:okD X.n ops=true:=by rfl)
 (a2:Bp ops m cl=true:=by rfl)(hm:Nat.ble m ops.length=true:=by rfl)(O:Ea ops cl effs [] H=true:=by rfl)(M:((List.range m).all fun i=>H.contains i)=true:=by rfl)(a3:(H.all fun i=>Nat.blt i m)=true:=by rfl):
 RE X (.code (.region id ops.toArray true)::k) l p LL:=xqd (by simpa using i.h.trans List.perm_append_comm) m cl effs H V ok D.run a2 hm O M a3
theorem yhr{dT xT eT:TypeId}{off n m' dl dc c' b cap N:Nat}(hN:es.length=N)(ho:ops[i]?=some ⟨d,.call ⟨.builtin .copy,#[x,y],#[dT,xT]⟩,ty,pos,aft,none⟩)(o:Ac T w (.slice (some ⟨b,0,none⟩) N cap) es Y)(hx:evS l x=some ([],.slice (some ((⟨b,0,none⟩:Addr).add (off*w))) dl dc))
 (hy:evS l y=some ([],.slice (some ⟨b,0,none⟩) m' c'))(H:0<N)(a5:0<w)(hn:Nat.min m' dl=n)(O:n<=N)(V:off+n<=N)(h1:∀u∈es.flatten,A7 u=true)[i1:Rm LL Y LR][hT:Bv X.P dT eT][hs:Ai X.P eT w]
 (nx:∀M,Ac T w (.slice (some ⟨b,0,none⟩) N cap) (es.take off++(es.take n++es.drop (off+n))) M->DE X k ops m p LF effs todo (ent d none (.J ((n:Nat):Int)) l) (M::LR))(he:effs.contains i=true:=by rfl):DE X k ops m p LF effs (i::todo) l LL:=by
 subst hN;exact⟨.eff (U:=Y) (LR:=LR) (Q:=fun v' M=>v'=.J ((n:Nat):Int)/\Ac T w (.slice (some ⟨b,0,none⟩) es.length cap) (es.take off++(es.take n++es.drop (off+n))) M) ho (by simpa using he) i1.h (fun tm ht E=>⟨rfl,xrq rfl,fun C h s=>.inl (by
  unfold Exv;simp only[execOp,resolve];refine xbq (xcq ?_);simp only[invoke,builtin];refine xbq ?_;have a6:=xeq E hy trivial;have a3:=xeq E hx trivial;have e:(#[x,y]:Array Operand).map (evl tm)=#[.slice (some ((El (.slice (some ⟨b,0,none⟩) es.length cap)).add (off*w))) dl dc,.slice (some ⟨b,0,none⟩) m' c']:=by
   simp only[List.map_toArray,List.map_cons,List.map_nil,a3,a6];rfl
  rw[e];obtain⟨b',a7,hv,_,a2⟩:=o.at0 H a5;cases hv;have a4:=xgh (P:=X.P) (L₁:=[]) (L₂:=LF.flatten++C) (a2 n O) s;refine xkb (m:=m') (news:=es.take n) hT.h hs.h o s H hn (fun K hK=>xcq hK) (fun K hK=>?_) (by simp;omega) (fun e he=>o.1 e (List.mem_of_mem_take he)) (fun u hu=>h1 u ?_) V fun h' M o' s'=>?_
  ·have:=a4.cells K hK;rw[List.length_take,Nat.min_eq_left O]at this;exact this
  ·obtain⟨e,h2,h3⟩:=List.mem_flatten.1 hu;exact List.mem_flatten.2 ⟨e,List.mem_of_mem_take h2,h3⟩
  ·exact xcq ⟨_,.inl rfl,M,⟨rfl,o'⟩,s'⟩)⟩) fun v' M⟨e,o'⟩=>by subst e;exact(nx M o').run⟩
end
section
variable{X:Cx}{k:List Item}{ops rest:List Oper}{m:Ks}{l:Env}{p:Ab}{LF LL LR L3:List Pcs}{effs todo:List Nat}{g:Option Bool}{d:Option Tmp}{dd:Nat}{ty:TypeId}{pos:String}{aft:Array Edge}{gd:Option (Nat×Bool)}{ss ss':List Prop}{x y:Operand}{i:Nat}{v:Value}{T T':TypeId}{xs ys:Array Value}{q:Bool}
theorem yzm(O:evS l x=some ([],.agg xs))(H:evS l y=some ([],.agg ys))(e:∀h(K:Bool->Heap->Prop),K q h->wpS X.P (Op.equalIn (9999+1) T (.agg xs) (.agg ys)) h K)(n:RO X k ops rest (ent d none (.bool q) l) p LL)(M:X.P.eqGuardType X.P.depth T=false:=by kernel_rfl):
 RO X k ops (⟨d,.binOp .eql T x y T',ty,pos,aft,none⟩::rest) l p LL:=xjx (g:=none) rfl rfl (fun _ _ E _=>xwt M e (xeq E O trivial) (xeq E H trivial)) n
theorem ynj(V:ops[i]?=some ⟨d,.binOp .eql T x y T',ty,pos,aft,none⟩)(O:evS l x=some ([],.agg xs))(H:evS l y=some ([],.agg ys))(e:∀h(K:Bool->Heap->Prop),K q h->wpS X.P (Op.equalIn (9999+1) T (.agg xs) (.agg ys)) h K)(n:DE X k ops m p LF effs todo (ent d none (.bool q) l) LL)
 (M:X.P.eqGuardType X.P.depth T=false:=by kernel_rfl):DE X k ops m p LF effs (i::todo) l LL:=xuz (g:=none) V rfl rfl (fun _ _ _ E _=>xwt M e (xeq E O trivial) (xeq E H trivial)) n
theorem yjs{P:Program}{dd:Nat}{f1 f2 f3:Field}{a b c a' b' c':Int}(h1:P.underlying f1.type=some (.int .i64))(h2:P.underlying f2.type=some (.int .i64))(h3:P.underlying f3.type=some (.int .i64))(o1:f1.offset=0)(o2:f2.offset=1)(o3:f3.offset=2)
 (m1 : f1.name ≠ "_")(m2 : f2.name ≠ "_")(m3 : f3.name ≠ "_")(g1 : Gd P f1.type = some false)(g2 : Gd P f2.type = some false)(g3 : Gd P f3.type = some false):
 Ou P (dd+1) #[.J a,.J b,.J c] #[.J a',.J b',.J c'] [f1,f2,f3] (decide (a=a'/\b=b'/\c=c')):=by
 refine⟨m1,_,_,decide (a=a'),fun h K k=>xkz g1 (by rw[o1];rfl) k,fun h K k=>xkz g1 (by rw[o1];rfl) k,fun h K k=>xmv h1 k,?_⟩;by_cases e1:a=a'
 ·refine .inr ⟨decide_eq_true e1,m2,_,_,decide (b=b'),fun h K k=>xkz g2 (by rw[o2];rfl) k,fun h K k=>xkz g2 (by rw[o2];rfl) k,fun h K k=>xmv h2 k,?_⟩;by_cases e2:b=b'
  ·refine .inr ⟨decide_eq_true e2,m3,_,_,decide (c=c'),fun h K k=>xkz g3 (by rw[o3];rfl) k,fun h K k=>xkz g3 (by rw[o3];rfl) k,fun h K k=>xmv h3 k,?_⟩;by_cases e3:c=c'
   ·exact .inr ⟨decide_eq_true e3,decide_eq_true ⟨e1,e2,e3⟩⟩
   ·exact .inl ⟨decide_eq_false e3,decide_eq_false fun x=>e3 x.2.2⟩
  ·exact .inl ⟨decide_eq_false e2,decide_eq_false fun x=>e2 x.2.1⟩
 ·exact .inl ⟨decide_eq_false e1,decide_eq_false fun x=>e1 x.1⟩
end
section
variable{X:Cx}{k:List Item}{ops rest:List Oper}{m:Ks}{l:Env}{p:Ab}{LF LL LR L3:List Pcs}{effs todo:List Nat}{g:Option Bool}{d:Option Tmp}{dd:Nat}{ty:TypeId}{pos:String}{aft:Array Edge}{gd:Option (Nat×Bool)}{ss ss':List Prop}{x y:Operand}{i:Nat}{v:Value}{T T' t:TypeId}{a b:List UInt8}
theorem xj9(M:gdc ops l gd=some g)(O:evS l x=some (ss,sv a))(hs:Av g (Ax ss))(n:RO X k ops rest (ent d g (.J ((a.length:Nat):Int)) l) p LL)(H:X.P.underlying t=some .string:=by kernel_rfl):
 RO X k ops (⟨d,.call ⟨.builtin .len,#[x],#[t]⟩,ty,pos,aft,gd⟩::rest) l p LL:=xjx M rfl (xuq hs fun hs _ _ E _=>xh5 H (xeq E O hs)) n
theorem yuc(O:gdc ops l gd=some g)(hx:evS l x=some (ss,sv a))(M:evS l y=some (ss',sv b))(hs:Av g (Ax ss))(H:Av g (Ax ss'))(n:RO X k ops rest (ent d g (.bool (decide (a=b))) l) p LL):
 RO X k ops (⟨d,.binOp .eql T x y T',ty,pos,aft,gd⟩::rest) l p LL:=xjx O rfl (xwz hs H fun h1 V _ _ E _=>xi5 (xeq E hx h1) (xeq E M V)) n
theorem ytc(O:gdc ops l gd=some g)(hx:evS l x=some (ss,sv a))(M:evS l y=some (ss',sv b))(hs:Av g (Ax ss))(H:Av g (Ax ss'))(n:RO X k ops rest (ent d g (.bool (!decide (a=b))) l) p LL):
 RO X k ops (⟨d,.binOp .neq T x y T',ty,pos,aft,gd⟩::rest) l p LL:=xjx O rfl (xwz hs H fun h1 V _ _ E _=>ygb (xeq E hx h1) (xeq E M V)) n
theorem xmd(M:evS l x=some ([],sv a))(H:evS l y=some ([],sv b))(O:a.length+b.length<=1000000)(n:RO X k ops rest (ent d none (sv (a++b)) l) p LL):
 RO X k ops (⟨d,.binOp .add T x y T',ty,pos,aft,none⟩::rest) l p LL:=xjx (g:=none) rfl rfl (fun _ _ E _=>xk5 (xeq E M trivial) (xeq E H trivial) om) n
theorem xmk{kk:IntKind}{j:Int}(V:gdc ops l gd=some g)(hx:evS l x=some (ss,sv a))(O:evS l y=some (ss',.int kk j))(hs:Av g (Ax ss))(M:Av g (Ax ss'))(H:Av g (0<=j/\j<a.length))(n:RO X k ops rest (ent d g (.int .u8 ((a.getD j.toNat 0).toNat:Nat)) l) p LL)
 (ht:X.P.underlying t=some .string:=by kernel_rfl):RO X k ops (⟨d,.index t x y,ty,pos,aft,gd⟩::rest) l p LL:=
 xjx V rfl (xwz H (xwz hs M And.intro) fun H hs _ _ E _=>xcp ht (xeq E hx hs.1) (xeq E O hs.2) H.1 H.2) n
theorem xdc{kk:IntKind}{j:Nat}(V:gdc ops l gd=some g)(hx:evS l x=some (ss,sv a))(O:evS l y=some (ss',.int kk ((j:Nat):Int)))(hs:Av g (Ax ss))(M:Av g (Ax ss'))(H:Av g (j<=a.length))(n:RO X k ops rest (ent d g (sv (a.drop j)) l) p LL)
 (ht:X.P.underlying t=some .string:=by kernel_rfl):RO X k ops (⟨d,.slice t x (some y) none none,ty,pos,aft,gd⟩::rest) l p LL:=
 xjx V rfl (xwz H (xwz hs M And.intro) fun H hs _ _ E _=>yrz ht (xeq E hx hs.1) (.nat _ (xeq E O hs.2)) H) n
theorem xm3{kk:IntKind}{j:Nat}(V:gdc ops l gd=some g)(hx:evS l x=some (ss,sv a))(O:evS l y=some (ss',.int kk ((j:Nat):Int)))(hs:Av g (Ax ss))(M:Av g (Ax ss'))(H:Av g (j<=a.length))(n:RO X k ops rest (ent d g (sv (a.take j)) l) p LL)
 (ht:X.P.underlying t=some .string:=by kernel_rfl):RO X k ops (⟨d,.slice t x none (some y) none,ty,pos,aft,gd⟩::rest) l p LL:=
 xjx V rfl (xwz H (xwz hs M And.intro) fun H hs _ _ E _=>yjz ht (xeq E hx hs.1) (.nat _ (xeq E O hs.2)) H) n
theorem yjj(V:ops[i]?=some ⟨d,.call ⟨.builtin .len,#[x],#[t]⟩,ty,pos,aft,gd⟩)(H:gdc ops l gd=some g)(M:evS l x=some (ss,sv a))(hs:Av g (Ax ss))(n:DE X k ops m p LF effs todo (ent d g (.J ((a.length:Nat):Int)) l) LL)(O:X.P.underlying t=some .string:=by kernel_rfl):
 DE X k ops m p LF effs (i::todo) l LL:=xuz V H rfl (xuq hs fun hs _ _ _ E _=>xh5 O (xeq E M hs)) n
theorem yrd(ho:ops[i]?=some ⟨d,.binOp .eql T x y T',ty,pos,aft,gd⟩)(O:gdc ops l gd=some g)(hx:evS l x=some (ss,sv a))(M:evS l y=some (ss',sv b))(hs:Av g (Ax ss))(H:Av g (Ax ss'))(n:DE X k ops m p LF effs todo (ent d g (.bool (decide (a=b))) l) LL):
 DE X k ops m p LF effs (i::todo) l LL:=xuz ho O rfl (xwz hs H fun h1 V _ _ _ E _=>xi5 (xeq E hx h1) (xeq E M V)) n
theorem ysd(H:ops[i]?=some ⟨d,.binOp .add T x y T',ty,pos,aft,none⟩)(O:evS l x=some ([],sv a))(M:evS l y=some ([],sv b))(V:a.length+b.length<=1000000)(n:DE X k ops m p LF effs todo (ent d none (sv (a++b)) l) LL):
 DE X k ops m p LF effs (i::todo) l LL:=xuz (g:=none) H rfl rfl (fun _ _ _ E _=>xk5 (xeq E O trivial) (xeq E M trivial) om) n
theorem xkk{kk:IntKind}{j:Int}(ho:ops[i]?=some ⟨d,.index t x y,ty,pos,aft,gd⟩)(V:gdc ops l gd=some g)(hx:evS l x=some (ss,sv a))(O:evS l y=some (ss',.int kk j))(hs:Av g (Ax ss))(M:Av g (Ax ss'))(H:Av g (0<=j/\j<a.length))
 (n:DE X k ops m p LF effs todo (ent d g (.int .u8 ((a.getD j.toNat 0).toNat:Nat)) l) LL)(ht:X.P.underlying t=some .string:=by kernel_rfl):DE X k ops m p LF effs (i::todo) l LL:=
 xuz ho V rfl (xwz H (xwz hs M And.intro) fun H hs _ _ _ E _=>xcp ht (xeq E hx hs.1) (xeq E O hs.2) H.1 H.2) n
end
structure PG(N:Nat)(B:List Nat)(p p':Ab):Prop where
 le:PLe p p'
 old:∀c,c<N->c∉B->p' c=p c
theorem PG.refl(N:Nat)(B:List Nat)(p:Ab):PG N B p p:=⟨.refl p,fun _ _ _=>rfl⟩
theorem PG.trans{N:Nat}{B:List Nat}{p q r:Ab}(x:PG N B p q)(y:PG N B q r):PG N B p r:=⟨x.le.trans y.le,fun c h n=>(y.old c h n).trans (x.old c h n)⟩
def Ar(p:Ab)(h:Heap)(Q:Value->Ab->Prop)(v:Value)(h':Heap):Prop:=∃p',PG h.size [] p p'/\Q v p'/\Af h h'/\Per p' h'
def Cz(p:Ab)(h:Heap)(b:Nat)(Q:Value->Ab->Obj->Prop)(v:Value)(h':Heap):Prop:=∃p' H,PG h.size [b] p p'/\Q v p' H/\St h [b] p' h' [(b,H)]
section
variable{z9 h h':Heap}{zz:List Nat}{p p':Ab}{L:Pcs}
theorem St.pg(s:St z9 zz p h L){b:Nat}{o:Obj}(M:(b,o)∈L):PG z9.size zz p (Gv p b o):=by
 have H:=s.own _ M;refine⟨xcr H.2.1,fun c hc hn=>?_⟩;unfold Gv;rw[if_neg];intro e;subst e;rcases H.2.2 with z|z
 ·simp only at z;omega
 ·exact hn z
theorem St.M0(s:St z9 zz p h L)(g:PG h.size [] p p')(k:Af h h')(q:Per p' h'):St z9 zz p' h' L/\PG z9.size zz p p':=
 ⟨(s.call k).grow g.le q fun x H=>(g.old x.1 (xmx (s.own x H).1) s_).trans (s.own x H).2.1,g.le,fun c hc _=>g.old c (Nat.lt_of_lt_of_le hc s.size) s_⟩
theorem St.M1{b:Nat}{o o':Obj}(s:St z9 zz p h ((b,o)::L))(g:PG h.size [b] p p')(t:St h [b] p' h' [(b,o')]):St z9 zz p' h' ((b,o')::L)/\PG z9.size zz p p':=by
 have hb:=s.own (b,o) s_;have V:=t.own (b,o') s_;have O:∀c,c<z9.size->c∉zz->c≠b:=fun c hc hn e=>by
  subst e;rcases hb.2.2 with z|z
  ·simp only at z;omega
  ·exact hn z
 have a2:∀x∈L,x.1≠b:=fun x M e=>by
  have:=s.nod;simp only[List.map_cons,List.nodup_cons]at this;exact this.1 (e ▸ List.mem_map_of_mem M)
 have lt:∀{c:Nat}{q:Obj},h[c]?=some q->c<h.size:=fun e=>xmx e;refine⟨⟨fun c hc hn=>?_,Nat.le_trans s.size t.size,t.per,fun x M=>?_,by simpa using s.nod⟩,g.le,fun c hc hn=>g.old c (Nat.lt_of_lt_of_le hc s.size) (by simpa using O c hc hn)⟩
 ·exact(t.Cq c (Nat.lt_of_lt_of_le hc s.size) (by simpa using O c hc hn)).trans (s.Cq c hc hn)
 ·rcases List.mem_cons.1 M with rfl|M
  ·exact⟨V.1,V.2.1,hb.2.2⟩
  ·have H:=s.own x (List.mem_cons_of_mem _ M);have n1:x.1∉[b]:=by simpa using a2 x M
   exact⟨(t.Cq x.1 (lt H.1) n1).trans H.1,(g.old x.1 (lt H.1) n1).trans H.2.1,H.2.2⟩
theorem Ac.Oi{T:TypeId}{w:Nat}{v:Value}{es:List (List Value)}{Y:Pcs}(o:Ac T w v es Y)(hw:0<w)(s:St z9 zz p h (Y++L)):
 ∃p' a cap,PG z9.size zz p p'/\v=.slice a es.length cap/\es.length<=cap/\Sl p' a es.length w es/\St z9 zz p' h L:=by
 have oo:=o;have rm:=fun{a:Option Addr}{m cap:Nat}(e:v=.slice a m cap)=>o.room hw e;obtain⟨V,⟨rfl,rfl,rfl⟩|⟨b,cs,cap,rest,rfl,rfl,a2,hlen,O⟩⟩:=o
 ·exact⟨p,none,0,.refl _ _ _,rfl,Nat.le_refl _,.nil _ _ _,s⟩
 ·have M:St z9 zz p h ((b,.cells (List.toArray cs) T (0,0))::L):=s;obtain⟨a,H,e,sl⟩:=oo.inP (p:=Gv p b (.cells (List.toArray cs) T (0,0))) (fun x hx=>by rw[List.mem_singleton.1 hx];exact xav);exact⟨_,a,H,M.pg s_,e,rm e,sl,M.last.2⟩
end
section
variable{X:Cx}{k:List Item}{ops rest:List Oper}{l:Env}{p:Ab}{LL LR:List Pcs}{d:Option Tmp}{ty:TypeId}{pos:String}{aft:Array Edge}{x:Operand}{T:TypeId}{w:Nat}{v:Value}{es:List (List Value)}{Y:Pcs}{b:Nat}{o:Obj}
theorem xpx{m:Nat}(o:Ac T w v es Y)(hn:es.length=m)(hw:0<w)[i:Rm LL Y LR](n:∀p' a cap,PG X.z9.size X.zz p p'->v=.slice a m cap->m<=cap->Sl p' a m w es->RO X k ops rest l p' LR):RO X k ops rest l p LL:=⟨fun V tm O E H e h s=>by
 subst hn;obtain⟨p',a,cap,g,e1,e2,sl,M⟩:=o.Oi hw (s.rm i);exact(n p' a cap g e1 e2 sl).run V tm O E H e h M⟩
theorem xoq{m:Nat}(o:Ac T w v es Y)(hn:es.length=m)(hw:0<w)[i:Rm LL Y LR](n:∀p' a cap,PG X.z9.size X.zz p p'->v=.slice a m cap->m<=cap->Sl p' a m w es->RE X k l p' LR):RE X k l p LL:=⟨fun tm M E h s=>by
 subst hn;obtain⟨p',a,cap,g,e1,e2,sl,H⟩:=o.Oi hw (s.rm i);exact(n p' a cap g e1 e2 sl).run tm M E h H⟩
theorem xx0{b:Nat}{ob:Obj}[i:Bx LL b ob LR](n:∀p',PG X.z9.size X.zz p p'->p' b=some ob->RO X k ops rest l p' LR):RO X k ops rest l p LL:=⟨fun M tm O E H e h s=>
 (n (Gv p b ob) ((s.bx i).pg s_) xav).run M tm O E H e h (s.bx i).last.2⟩
theorem xf1{b:Nat}{ob:Obj}[i:Bx LL b ob LR](n:∀p',PG X.z9.size X.zz p p'->p' b=some ob->RE X k l p' LR):RE X k l p LL:=⟨fun tm H E h s=>
 (n (Gv p b ob) ((s.bx i).pg s_) xav).run tm H E h (s.bx i).last.2⟩
theorem xvx{args:List Operand}{ats:Array TypeId}{ff:FuncId}{first cap vs:List Value}{Q:Value->Ab->Prop}(hx:evS l x=some ([],.func (.func ff) first.toArray cap.toArray))(H:C9 l args=some ([],vs))
 (hc:∀h,Per p h->Aa X.P X.md ff (first++(vs++cap)).toArray h (Ar p h Q))(n:∀v p',PG X.z9.size X.zz p p'->Q v p'->RO X k ops rest (ent d none v l) p' LL)(hf:Am X.P ff=true:=by kernel_rfl):
 RO X k ops (⟨d,.call ⟨.value x,args.toArray,ats⟩,ty,pos,aft,none⟩::rest) l p LL:=⟨fun O tm M E=>
 xsv (R:=fun v h=>∃p',(PG X.z9.size X.zz p p'/\Q v p')/\St X.z9 X.zz p' h LL.flatten) (xrq rfl) (xeq E hx trivial) (by rw[xnx E H trivial]) hf
  (fun h s=>(hc h fun b o e=>s.per b o e).mono fun _ _⟨p',g,q,V,pp⟩=>⟨p',⟨(s.M0 g V pp).2,q⟩,(s.M0 g V pp).1⟩)
  fun v=>xgk fun p'=>xcz fun q=>(n v p' q.1 q.2).run (xjq O).1 _ (Aw.trans M) (E.ent (g:=none) M (xjq O).2)⟩
theorem xws{args:List Operand}{ats:Array TypeId}{ff:FuncId}{first cap vs:List Value}{Q:Value->Ab->Obj->Prop}[i:Bx LL b o LR](hx:evS l x=some ([],.func (.func ff) first.toArray cap.toArray))(M:C9 l args=some ([],vs))
 (hc:∀h,Per p h->h[b]?=some o->p b=none->Aa X.P X.md ff (first++(vs++cap)).toArray h (Cz p h b Q))(n:∀v p' H,PG X.z9.size X.zz p p'->Q v p' H->RO X k ops rest (ent d none v l) p' ([(b,H)]::LR))(hf:Am X.P ff=true:=by kernel_rfl):
 RO X k ops (⟨d,.call ⟨.value x,args.toArray,ats⟩,ty,pos,aft,none⟩::rest) l p LL:=⟨fun V tm O E=>
 xsv (R:=fun v h=>∃p' H,(PG X.z9.size X.zz p p'/\Q v p' H)/\St X.z9 X.zz p' h ((b,H)::LR.flatten)) (xrq rfl) (xeq E hx trivial) (by rw[xnx E M trivial]) hf
  (fun h s=>(hc h (fun b o e=>s.per b o e) ((s.bx i).own (b,o) s_).1 ((s.bx i).own (b,o) s_).2.1).mono fun _ _⟨p',H,g,q,t⟩=>⟨p',H,⟨((s.bx i).M1 g t).2,q⟩,((s.bx i).M1 g t).1⟩)
  fun v=>xgk fun p'=>xgk fun H=>xcz fun q=>(n v p' H q.1 q.2).run (xjq V).1 _ (Aw.trans O) (E.ent (g:=none) O (xjq V).2)⟩
theorem yan{args:List Operand}{ats:Array TypeId}{vs:List Value}{fv:Value}{Q:Value->Ab->Obj->Prop}[i:Bx LL b o LR](hx:evS l x=some ([],fv))(M:C9 l args=some ([],vs))
 (hc:∀h,Per p h->h[b]?=some o->p b=none->Az X.P X.md fv vs h (Cz p h b Q))(n:∀v p' H,PG X.z9.size X.zz p p'->Q v p' H->RO X k ops rest (ent d none v l) p' ([(b,H)]::LR)):
 RO X k ops (⟨d,.call ⟨.value x,args.toArray,ats⟩,ty,pos,aft,none⟩::rest) l p LL:=⟨fun V _ O E=>
 xnd (R:=fun v h=>∃p' H,(PG X.z9.size X.zz p p'/\Q v p' H)/\St X.z9 X.zz p' h ((b,H)::LR.flatten)) (xrq rfl) (xeq E hx trivial) (xnx E M trivial)
  (fun h s=>(hc h (fun b o e=>s.per b o e) ((s.bx i).own (b,o) s_).1 ((s.bx i).own (b,o) s_).2.1).mono fun _ _⟨p',H,g,q,t⟩=>⟨p',H,⟨((s.bx i).M1 g t).2,q⟩,((s.bx i).M1 g t).1⟩)
  fun v=>xgk fun p'=>xgk fun H=>xcz fun q=>(n v p' H q.1 q.2).run (xjq V).1 _ (Aw.trans O) (E.ent (g:=none) O (xjq V).2)⟩
theorem xp3{args:List Operand}{ats:Array TypeId}{vs:List Value}{fv:Value}{Q:Value->Ab->Prop}(hx:evS l x=some ([],fv))(H:C9 l args=some ([],vs))
 (hc:∀h,Per p h->Az X.P X.md fv vs h (Ar p h Q))(n:∀v p',PG X.z9.size X.zz p p'->Q v p'->RO X k ops rest (ent d none v l) p' LL):
 RO X k ops (⟨d,.call ⟨.value x,args.toArray,ats⟩,ty,pos,aft,none⟩::rest) l p LL:=⟨fun O _ M E=>
 xnd (R:=fun v h=>∃p',(PG X.z9.size X.zz p p'/\Q v p')/\St X.z9 X.zz p' h LL.flatten) (xrq rfl) (xeq E hx trivial) (xnx E H trivial)
  (fun h s=>(hc h fun b o e=>s.per b o e).mono fun _ _⟨p',g,q,V,pp⟩=>⟨p',⟨(s.M0 g V pp).2,q⟩,(s.M0 g V pp).1⟩)
  fun v=>xgk fun p'=>xcz fun q=>(n v p' q.1 q.2).run (xjq O).1 _ (Aw.trans M) (E.ent (g:=none) M (xjq O).2)⟩
end
theorem xmz{P:Program}{md:Md}{f:FuncId}{fn:Func}{c:Code}{args:List Value}{R:Value->Heap->Prop}{h:Heap}{p:Ab}{b:Nat}{o:Obj}(hp:Per p h)(hb:h[b]?=some o)(H:p b=none)(hf:P.funcs[f]?=some fn)
 (x:∀(zq:Frame)(cs:List Frame)(Stop:Goroutine->Heap->Prop),(∀v h',R v h'->Reach P md (G (zq.finish v) cs) h' Stop)->RE ⟨P,md,f,.none,fn.ntmps,[],zq::cs,Stop,h,[b]⟩ [.code c] (Gn 0 args) p [[(b,o)]])
 (M:fn.body=some c:=by rfl)(hn:Nat.ble args.length fn.ntmps=true:=by rfl):Aa P md f args.toArray h R:=
 xed (Φ:=fun h'=>St h [b] p h' [(b,o)]) hf M rfl (fun zq cs Stop K=>(x zq cs Stop K).run _ (by have:=Nat.le_of_ble_eq_true hn;simp;omega) fun i g v V=>by
  obtain⟨rfl,m,rfl,O⟩:=xjc V;rw[Nat.zero_add,List.getElem?_append_left (by simpa using(List.getElem?_eq_some_iff.1 O).1)];simpa[cv]using O) ⟨fun _ _ _=>rfl,Nat.le_refl _,hp,fun x hx=>by obtain rfl:=List.mem_singleton.1 hx;exact⟨hb,H,.inr s_⟩,s_⟩
theorem xlj{z9 h:Heap}{b:Nat}{p p':Ab}{LL LR:List Pcs}{o:Obj}{Q:Value->Ab->Obj->Prop}{v:Value}[i:Bx LL b o LR](s:St z9 [b] p' h LL.flatten)(g:PG z9.size [b] p p')(q:Q v p' o):Cz p z9 b Q v h:=
 ⟨p',o,g,q,(s.bx i).sub s_⟩
theorem xwq{z9 h:Heap}{p p':Ab}{L:Pcs}{Q:Value->Ab->Prop}{v:Value}(s:St z9 [] p' h L)(g:PG z9.size [] p p')(q:Q v p'):Ar p z9 Q v h:=⟨p',g,q,s.kept,s.per⟩
section
variable{X:Cx}{k:List Item}{ops rest:List Oper}{m:Ks}{l:Env}{p:Ab}{LF LL LR L3:List Pcs}{effs todo:List Nat}{g:Option Bool}{d:Option Tmp}{dd:Nat}{ty:TypeId}{pos:String}{aft:Array Edge}{gd:Option (Nat×Bool)}{ss ss':List Prop}{x y:Operand}{i:Nat}{v fv:Value}{T T' t:TypeId}
theorem xdh{z:Value}(H:ops[i]?=some ⟨some dd,.alloc T,ty,pos,aft,none⟩)[iz:A5 X.P T z](n:∀b,DE X k ops m p LF effs todo ((dd,none,w_ b 0)::l) ([(b,.cells z.cells T (0,0))]::LL))(he:effs.contains i=true:=by rfl):DE X k ops m p LF effs (i::todo) l LL:=
 ⟨.eff (U:=[]) (LR:=LL) (Q:=fun v x=>∃b,v=w_ b 0/\x=[(b,.cells z.cells T (0,0))]) H (by simpa using he) (List.Perm.refl _) (fun _ _ E=>⟨rfl,xrq rfl,fun C h s=>.inl (by
  unfold Exv;simp only[execOp];refine xbq ?_;unfold Instr.alloc;refine xbq (xaz iz.h ?_);simp only;unfold newVar;refine xbq (xqz ?_);refine xcq ?_;exact xcq ⟨_,.inl rfl,_,⟨_,rfl,rfl⟩,s.push _⟩)⟩) fun v x⟨b,e1,e2⟩=>by subst e1;subst e2;exact(n b).run⟩
theorem xu5{args:List Operand}{ats:Array TypeId}{vs:List Value}(ho:ops[i]?=some ⟨d,.call ⟨.value x,args.toArray,ats⟩,ty,pos,aft,gd⟩)(hg:gdc ops l gd=some g)(hx:evS l x=some (ss',fv))(H:Av g (Ax ss'))(V:C9 l args=some (ss,vs))(hs:Av g (Ax ss))
 (hc:Av g (∀h,Per p h->Az X.P X.md fv vs h fun v' h'=>v'=v/\Af h h'))(n:DE X k ops m p LF effs todo (ent d g v l) LL):DE X k ops m p LF effs (i::todo) l LL:=⟨.det ho (fun tm _ E=>⟨rfl,by
  have M:Ax ss'->Ax ss->(∀h,Per p h->Az X.P X.md fv vs h fun v' h'=>v'=v/\Af h h')-> ∀C:Pcs,Nb X.P X.md tm ⟨d,.call ⟨.value x,args.toArray,ats⟩,ty,pos,aft,gd⟩ (fun h=>St X.z9 X.zz p h (LF.flatten++C)) v:=fun H hs hc C h s=>
   .inr (.inr (fun c cs Stop z=>by
    simp only[execOp,resolve,xeq E hx H,List.map_toArray,xnx E V hs];exact hc h (fun b o e=>s.per b o e) c cs Stop fun v' h'⟨e,kk⟩=>z v' h' ⟨e,s.call kk⟩))
  rcases xzv (o:=⟨d,.call ⟨.value x,args.toArray,ats⟩,ty,pos,aft,gd⟩) E hg with⟨rfl,O⟩|⟨c,rfl,O⟩
  ·exact .inl ⟨O,M H hs hc⟩
  ·cases c with
   |true=>exact .inl ⟨O,M (H rfl) (hs rfl) (hc rfl)⟩
   |false=>exact .inr ⟨O,rfl⟩⟩) n.run⟩
theorem xkw{a:Addr}{nn:Nat}{vs:List Value}(O:ops[i]?=some ⟨d,.load t x,ty,pos,aft,gd⟩)(H:gdc ops l gd=some g)(M:evS l x=some (ss,.pointer (some a)))(hs:Av g (Ax ss))(hv:Av g (∀j v,vs[j]?=some v->At p (a.add j)=some v))[ag:Bw X.P t true][sz:Ai X.P t nn]
 (n:DE X k ops m p LF effs todo (ent d g (.agg vs.toArray) l) LL)(hn:vs.length=nn:=by rfl):DE X k ops m p LF effs (i::todo) l LL:=
 xuz O H rfl (xwz hs hv fun hs hv _ _ _ E s=>xbb s ag.h sz.h (xeq E M hs) hn hv) n
theorem xak{a:Addr}{u:Value}(O:ops[i]?=some ⟨d,.load t x,ty,pos,aft,gd⟩)(H:gdc ops l gd=some g)(M:evS l x=some (ss,.pointer (some a)))(hs:Av g (Ax ss))(hv:Av g (At p a=some u))[ag:Bw X.P t false]
 (n:DE X k ops m p LF effs todo (ent d g u l) LL):DE X k ops m p LF effs (i::todo) l LL:=
 xuz O H rfl (xwz hs hv fun hs hv _ _ _ E s=>xvb s ag.h (xeq E M hs) hv) n
theorem yqd{e:TypeId}{a:Option Addr}{q c w j:Nat}{kk:IntKind}(V:ops[i]?=some ⟨d,.indexAddr t x y,ty,pos,aft,gd⟩)(O:gdc ops l gd=some g)(hx:evS l x=some (ss,.slice a q c))(M:evS l y=some (ss',.int kk (j:Nat)))(hs:Av g (Ax ss))(H:Av g (Ax ss'))(hi:Av g (j<q/\a=some (adr a)))
 [f:Bv X.P t e][sz:Ai X.P e w](n:DE X k ops m p LF effs todo (ent d g (.pointer (some ((adr a).add (j*w)))) l) LL):DE X k ops m p LF effs (i::todo) l LL:=
 xuz V O rfl (xwz hi (xwz hs H And.intro) fun hi hs _ _ _ E _=>xxk f.h sz.h ((xeq E hx hs.1).trans (xs0 q c hi.2)) (xeq E M hs.2) hi.1) n
theorem xlk{e:TypeId}{w j:Nat}{es:List (List Value)}{Y:Pcs}(V:ops[i]?=some ⟨d,.indexAddr t x y,ty,pos,aft,gd⟩)(O:gdc ops l gd=some g)(hx:evS l x=some (ss,v))(M:evS l y=some (ss',.J (j:Nat)))(hs:Av g (Ax ss))(H:Av g (Ax ss'))(o:Ac T w v es Y)(hj:j<es.length)
 [f:Bv X.P t e][sz:Ai X.P e w](n:DE X k ops m p LF effs todo (ent d g (.pointer (some ((El v).add (j*w)))) l) LL):DE X k ops m p LF effs (i::todo) l LL:=
 xuz V O rfl (xwz hs H fun hs H _ _ _ E _=>xic o f.h sz.h (xeq E hx hs) (xeq E M H) hj) n
theorem xtd{z9 h:Heap}{zz:List Nat}{w j:Nat}{es:List (List Value)}{Y L:Pcs}(o:Ac T w v es Y)(s:St z9 zz p h (Y++L)){e:List Value}{q:Nat}{u:Value}(O:es[j]?=some e)(V:e[q]?=some u):cell? h (((El v).add (j*w)).add q)=some u:=by
 obtain⟨hw,⟨rfl,rfl,rfl⟩|⟨b,cs,cap,rest,rfl,rfl,H,hlen,M⟩⟩:=o
 ·cases O
 ·show cell? h (((⟨b,0,none⟩:Addr).add (j*w)).add q)=_;rw[xsx,xsx];refine s.Ff (i:=0) rfl ?_;have:=xej hw O V;rw[List.getElem?_toArray,H,Nat.zero_add,List.getElem?_append_left (List.getElem?_eq_some_iff.1 this).1];exact this
theorem xs5{w j nn:Nat}{es:List (List Value)}{e:List Value}{Y:Pcs}{a:Addr}(O:ops[i]?=some ⟨d,.load t x,ty,pos,aft,gd⟩)(M:gdc ops l gd=some g)(hx:evS l x=some (ss,.pointer (some a)))(hs:Av g (Ax ss))(o:Ac T w v es Y)(H:((El v).add (j*w))=a)(V:es[j]?=some e)
 [ag:Bw X.P t true][sz:Ai X.P t nn][ii:Rm LF Y LR](n:DE X k ops m p LF effs todo (ent d g (.agg e.toArray) l) LL)(hn:e.length=nn:=by rfl):DE X k ops m p LF effs (i::todo) l LL:=
 xuz O M rfl (xuq hs fun hs _ h C E s=>xhf ag.h sz.h hn (xeq E hx hs) fun q u hq=>by
  subst H;exact xtd o ((s.perm (List.Perm.append_right C ii.h)).perm (by rw[List.append_assoc])) V hq) n
theorem xev{w j q:Nat}{es:List (List Value)}{e:List Value}{u:Value}{Y:Pcs}{a:Addr}(O:ops[i]?=some ⟨d,.load t x,ty,pos,aft,gd⟩)(M:gdc ops l gd=some g)(hx:evS l x=some (ss,.pointer (some a)))(hs:Av g (Ax ss))(o:Ac T w v es Y)(H:((El v).add (j*w)).add q=a)(hj:es[j]?=some e)(V:e[q]?=some u)
 [ag:Bw X.P t false][ii:Rm LF Y LR](n:DE X k ops m p LF effs todo (ent d g u l) LL):DE X k ops m p LF effs (i::todo) l LL:=
 xuz O M rfl (xuq hs fun hs _ h C E s=>xif ag.h (xeq E hx hs) (by
  subst H;exact xtd o ((s.perm (List.Perm.append_right C ii.h)).perm (by rw[List.append_assoc])) hj V)) n
theorem ybg{w j nn:Nat}{es:List (List Value)}{e:List Value}{Y:Pcs}{a:Addr}(V:evS l x=some ([],.pointer (some a)))(o:Ac T w v es Y)(H:((El v).add (j*w))=a)(O:es[j]?=some e)
 [ag:Bw X.P t true][sz:Ai X.P t nn][ii:Rm LL Y LR](n:RO X k ops rest (ent d none (.agg e.toArray) l) p LL)(hn:e.length=nn:=by rfl):RO X k ops (⟨d,.load t x,ty,pos,aft,none⟩::rest) l p LL:=
 xjx (g:=none) rfl rfl (fun _ h E s=>xhf ag.h sz.h hn (xeq E V trivial) fun q u M=>by
  subst H;exact xtd o (s.rm ii) O M) n
end
section
variable{P:Program}{h:Heap}{z9:Heap}{zz:List Nat}{p:Ab}{C A:Pcs}
theorem xl0{sT xT eT eX ty:TypeId}{w m n by':Nat}{a:Option Addr}{x z:Value}{es news:List (List Value)}{K:Value->Heap->Prop}(hT:P.underlying sT=some (.slice eT))(hs:Bi P eT=some w)(hz:Dx P eT=some z)(b3:z.cells.size=w)(a7:0<w)
 (H:Dh P eT=some by')(hx:P.underlying xT=some (.slice eX))(d:Sl p a n w es)(s:St z9 zz p h C)
 (hlen:∀K:Nat->Heap->Prop,K m h->wpS P (Builtin.lenOf x) h K)(a4:∀K:Array Value->Heap->Prop,K news.flatten.toArray h->wpS P (Builtin.firstCells w m x) h K)
 (hm:news.length=m)(b5:0<m)(hw:∀e∈news,e.length=w)(M:(n+m)*by'<=2^45)(V:0<by'/\by'<=2^20)
 (nx:∀v' X' h',Ac eT w v' (es++news) X'->St z9 zz p h' (X'++C)->K v' h'):wpS P (Builtin.append_ #[sT,xT] ty #[.slice a n n,x]) h K:=by
 obtain⟨i,hi,b0⟩:∃i,P.info? eT=some i/\i.bytes=by':=by
  unfold Dh at H;cases hi:P.info? eT with
  |none=>rw[hi]at H;cases H
  |some i=>rw[hi]at H;exact⟨i,rfl,by simpa using H⟩
 have hn:=d.len;have a2:=d.wid;have a9:=xnq hw;have O:∀e∈es++news,e.length=w:=fun e he=>(List.mem_append.1 he).elim (a2 e) (hw e);have a8:n+m<=2^45:=Nat.le_trans (Nat.le_mul_of_pos_right _ V.1) M;have a3:=(xrf (P:=P) (cap:=n) s a7 d).cells;unfold Builtin.append_;simp only[List.getElem?_toArray,List.getElem?_cons_zero,List.getElem?_cons_succ];refine xbq (xfq hT ?_);simp only;refine xbq (xax hs ?_);refine xbq (xfq hx ?_);refine xbq (xix (K:=fun zr h'=>zr=false/\h'=h) (xcq ⟨rfl,rfl⟩) fun zr h'⟨ez,eh⟩=>?_);subst ez;have eh:=eh.symm;subst eh;simp only[Bool.false_eq_true,if_false,Bool.not_false,if_true];refine xbq (hlen _ ?_);rw[if_neg (show ¬ n+m<=n by omega)];refine xbq (xqx hi ?_);rw[if_neg (by
  intro hh;have:(IntKind.i64.max:Int)=9223372036854775807:=by decide
  rw[this]at hh;omega)]
 refine xbq (xqx hi ?_);rw[b0,if_neg (by have:=xo1 (by':=by') (by omega:n<n+m) M V.2;omega)];refine xbq ?_;show wpS P (choose _) h _;simp only[choose,wpS,Question.forced,Bool.false_eq_true,if_false,Question.cut];intro t;generalize b6:n+m+t%(2^63-(n+m))=nc;have b4:n+m<=nc:=om;have a5:nc<=9223372036854775807:=by
  have:=Nat.mod_lt t (show 0<2^63-(n+m) by omega);omega
 refine xbq (xqx hi ?_);refine xbq ?_;have a6:∀(b:Nat)(K:Unit->Heap->Prop),K () h->wpS P (askRoom b) h K:=by
  intro b K hK;unfold askRoom;split
  ·exact⟨rfl,hK⟩
  ·exact xcq hK
 refine a6 _ _ ?_;refine xbq (a3 _ ?_);refine xbq (a4 _ ?_);refine xbq (xaz hz ?_);refine xbq (xqz ?_);refine xcq (nx _ [(h.size,.cells (List.toArray (es.flatten++news.flatten++(Builtin.zeroCells z.cells (nc-(n+m))).toList)) eT (0,0))] _ ⟨O,.inr ⟨h.size,_,nc,(Builtin.zeroCells z.cells (nc-(n+m))).toList,?_,rfl,s_,?_,fun _=>a5⟩⟩ ?_)
 ·simp[hm,hn]
 ·simp only[List.length_append,xnq a2,a9,hm,hn,xsj,b3];rw[<- Nat.add_mul,<- Nat.add_mul];congr 1;omega
 ·have s1:=s.push (.cells (List.toArray (es.flatten++news.flatten++(Builtin.zeroCells z.cells (nc-(n+m))).toList)) eT (0,0));have e1:(List.toArray es.flatten++List.toArray news.flatten++Builtin.zeroCells z.cells (nc-(n+m)))=List.toArray (es.flatten++news.flatten++(Builtin.zeroCells z.cells (nc-(n+m))).toList):=by
   apply Array.ext';simp
  rw[e1];exact s1
end
section
variable{X:Cx}{k:List Item}{ops rest:List Oper}{m:Ks}{l:Env}{p:Ab}{LF LL LR L3:List Pcs}{effs todo:List Nat}{d:Option Tmp}{dd:Nat}{ty:TypeId}{pos:String}{aft:Array Edge}{gd:Option (Nat×Bool)}{g:Option Bool}{ss ss':List Prop}{x y y2:Operand}{i:Nat}{v:Value}{T T' t:TypeId}{w:Nat}{es news:List (List Value)}{Y Z:Pcs}
theorem yrc{e:TypeId}{n c:Nat}{a:Option Addr}(O:evS l x=some ([],.slice a n c))(M:evS l y=some ([],.J ((n:Nat):Int)))(H:evS l y2=some ([],.J ((n:Nat):Int)))(hc:n<=c)[f:Bv X.P t e][sz:Ai X.P e w]
 (V:RO X k ops rest (ent d none (.slice a n n) l) p LL):RO X k ops (⟨d,.slice t x none (some y) (some y2),ty,pos,aft,none⟩::rest) l p LL:=
 xjx (g:=none) rfl rfl (fun _ _ E _=>xzn f.h sz.h (xeq E O trivial) (xeq E M trivial) (xeq E H trivial) hc) V
theorem ygj{e:TypeId}{n c:Nat}{a:Option Addr}(V:ops[i]?=some ⟨d,.slice t x none (some y) (some y2),ty,pos,aft,none⟩)(O:evS l x=some ([],.slice a n c))(M:evS l y=some ([],.J ((n:Nat):Int)))(H:evS l y2=some ([],.J ((n:Nat):Int)))(hc:n<=c)[f:Bv X.P t e][sz:Ai X.P e w]
 (nx:DE X k ops m p LF effs todo (ent d none (.slice a n n) l) LL):DE X k ops m p LF effs (i::todo) l LL:=
 xuz (g:=none) V rfl rfl (fun _ _ _ E _=>xzn f.h sz.h (xeq E O trivial) (xeq E M trivial) (xeq E H trivial) hc) nx
theorem xld{e:TypeId}{q c j:Nat}{a:Option Addr}{kk:IntKind}(M:evS l x=some ([],.slice a q c))(H:evS l y=some ([],.int kk ((j:Nat):Int)))(V:j<=c)[f:Bv X.P t e][sz:Ai X.P e w]
 (O:RO X k ops rest (ent d none (.slice a j c) l) p LL):RO X k ops (⟨d,.slice t x none (some y) none,ty,pos,aft,none⟩::rest) l p LL:=
 xjx (g:=none) rfl rfl (fun tm h' E _=>by
  have z:=xsw (tm:=tm) (h:=h') (d:=d) (ty:=ty) (pos:=pos) (aft:=aft) (gd:=none) f.h sz.h (xeq E M trivial) (.none 0) (.nat q (xeq E H trivial)) (Nat.zero_le j) V;rw[xv7,Nat.sub_zero,Nat.sub_zero]at z;exact z) O
theorem xts{e:TypeId}{q c j:Nat}{a:Option Addr}{kk:IntKind}(O:evS l x=some ([],.slice a q c))(M:evS l y=some ([],.int kk ((j:Nat):Int)))(H:j<=q/\q<=c)[f:Bv X.P t e][sz:Ai X.P e w]
 (V:RO X k ops rest (ent d none (.slice (Ft a c j w) (q-j) (c-j)) l) p LL):RO X k ops (⟨d,.slice t x (some y) none none,ty,pos,aft,none⟩::rest) l p LL:=
 xjx (g:=none) rfl rfl (fun _ _ E _=>xsw f.h sz.h (xeq E O trivial) (.nat 0 (xeq E M trivial)) (.none q) H.1 H.2) V
theorem xwg{e:TypeId}{q c j:Nat}{a:Option Addr}{kk:IntKind}(V:ops[i]?=some ⟨d,.slice t x (some y) none none,ty,pos,aft,none⟩)(O:evS l x=some ([],.slice a q c))(M:evS l y=some ([],.int kk ((j:Nat):Int)))(H:j<=q/\q<=c)[f:Bv X.P t e][sz:Ai X.P e w]
 (nx:DE X k ops m p LF effs todo (ent d none (.slice (Ft a c j w) (q-j) (c-j)) l) LL):DE X k ops m p LF effs (i::todo) l LL:=
 xuz (g:=none) V rfl rfl (fun _ _ _ E _=>xsw f.h sz.h (xeq E O trivial) (.nat 0 (xeq E M trivial)) (.none q) H.1 H.2) nx
theorem xzs{sT xT eT eX:TypeId}{by' n:Nat}{a:Option Addr}{x' z:Value}(hx:evS l x=some ([],.slice a n n))(hy:evS l y=some ([],x'))(S:Sl p a n w es)(o2:Ac eT w x' news Z)(V:0<news.length)(O:(n+news.length)*by'<=2^45)
 [i2:Rm LL Z LR][hT:Bv X.P sT eT][hs:Ai X.P eT w][hz:A5 X.P eT z][hb:ByC X.P eT by'][hX:Bv X.P xT eX](nx:∀v' M,Ac eT w v' (es++news) M->RO X k ops rest ((dd,none,v')::l) p (M::LR))
 (a2:z.cells.size=w:=by rfl)(a3:0<by'/\by'<=2^20:=by decide)(a4:0<w:=by decide):RO X k ops (⟨some dd,.call ⟨.builtin .append,#[x,y],#[sT,xT]⟩,ty,pos,aft,none⟩::rest) l p LL:=⟨fun ok tm ht E=>
 xmj (K:=fun v' h'=>∃M,Ac eT w v' (es++news) M/\St X.z9 X.zz p h' (M++LR.flatten)) (xrq rfl) rfl (fun h s=>by
  have s2:=s.rm i2;have H:=xgh (P:=X.P) (L₁:=[]) (L₂:=LR.flatten) o2 s2;unfold Ex;simp only[execOp,resolve];refine xbq (xcq ?_);simp only[invoke,builtin];refine xbq ?_;have e:(#[x,y]:Array Operand).map (evl tm)=#[.slice a n n,x']:=by simp[xeq E hx trivial,xeq E hy trivial]
  rw[e];refine xl0 hT.h hs.h hz.h a2 a4 hb.h hX.h S s2 H.lenOf H.cells H.len V H.wid O a3 fun v' X' h' o' s'=>?_;exact xcq ⟨v',rfl,X',o',s'.sub (List.Sublist.append_left (List.sublist_append_right _ _) _)⟩) fun v'=>xgk fun M=>xcz fun o'=>(nx v' M o').run (xjq ok).1 _ (by simp[Cm,ht]) (E.set (g:=none) (ht ▸ xhw ok rfl))⟩
theorem xvk{O eT:TypeId}{n:Nat}{parts:List (Nat×Operand)}{vs:List (Nat×Value)}{z:Value}{cells:Array Value}(ho:ops[i]?=some ⟨some dd,.buildSlice O n parts.toArray,ty,pos,aft,none⟩)(H:Mp l parts=some vs)[hT:Bv X.P O eT][hs:Ai X.P eT w][hz:A5 X.P eT z]
 (nx:∀v Y,Ac eT w v (chs w n cells.toList) Y->DE X k ops m p LF effs todo ((dd,none,v)::l) (Y::LL))(he:effs.contains i=true:=by rfl)
 (hf:Instr.fill (fun i=>some (i*w,w)) ((List.range (n*w)).map (z.cells[· % z.cells.size]!)).toArray vs=some cells:=by rfl)(hc:cells=(chs w n cells.toList).flatten.toArray:=by rfl)(hw:((chs w n cells.toList).all fun e=>e.length==w)=true:=by rfl)
 (hn:(chs w n cells.toList).length=n:=by rfl)(M:n*w<=2^24:=by exact Nat.le_of_ble_eq_true rfl):DE X k ops m p LF effs (i::todo) l LL:=
 ⟨.eff (U:=[]) (LR:=LL) (Q:=fun v Y=>Ac eT w v (chs w n cells.toList) Y) ho (by simpa using he) (List.Perm.refl _) (fun _ _ E=>⟨rfl,xrq rfl,fun C h s=>.inl
  (Ex.exv (xn5 hT.h hs.h hz.h M (xgm E H) hf hc hw hn (show St _ _ _ _ (LF.flatten++C) from s) fun _ Y _ o V=>⟨Y,o,V⟩))⟩) fun v Y o=>(nx v Y o).run⟩
end
section
variable{X:Cx}{k:List Item}{ops rest:List Oper}{m:Ks}{l:Env}{p:Ab}{LF LL LR L3:List Pcs}{effs todo:List Nat}{d:Option Tmp}{dd:Nat}{ty:TypeId}{pos:String}{aft:Array Edge}{gd:Option (Nat×Bool)}{g:Option Bool}{ss ss':List Prop}{x y:Operand}{i:Nat}{v:Value}{T T' t:TypeId}
theorem yvm{a:Addr}(H:gdc ops l gd=some g)(M:evS l x=some (ss,.pointer (some a)))(hs:Av g (Ax ss))(n:RO X k ops rest (ent d g (.pointer (some a)) l) p LL):RO X k ops (⟨d,.nilCheck x,ty,pos,aft,gd⟩::rest) l p LL:=
 xjx H rfl (xuq hs fun hs _ _ E _=>xtg (xeq E M hs)) n
theorem yol{a:Addr}(O:ops[i]?=some ⟨d,.nilCheck x,ty,pos,aft,gd⟩)(H:gdc ops l gd=some g)(M:evS l x=some (ss,.pointer (some a)))(hs:Av g (Ax ss))(n:DE X k ops m p LF effs todo (ent d g (.pointer (some a)) l) LL):DE X k ops m p LF effs (i::todo) l LL:=
 xuz O H rfl (xuq hs fun hs _ _ _ E _=>xtg (xeq E M hs)) n
theorem xch{b off H:Nat}{cs:List Value}(V:ops[i]?=some ⟨none,.store T x y,ty,pos,aft,none⟩)(hx:evS l x=some ([],w_ b off))(O:evS l y=some ([],v))[sz:Ai X.P T H][mm:Bx LL b (.cells cs.toArray T' (0,0)) LR]
 (n:DE X k ops m p LF effs todo l ([(b,.cells (B6 cs off v.cells.toList).toArray T' (0,0))]::LR))(he:effs.contains i=true:=by rfl)(hv:v.cells.size=H:=by rfl)(h1:v.cells.toList.all A7=true:=by rfl)(hlen:off+v.cells.size<=cs.length:=by exact Nat.le_of_ble_eq_true rfl):DE X k ops m p LF effs (i::todo) l LL:=
 ⟨.eff (U:=[(b,.cells cs.toArray T' (0,0))]) (LR:=LR) (Q:=fun _ x=>x=[(b,.cells (B6 cs off v.cells.toList).toArray T' (0,0))]) V (by simpa using he) (by simpa using mm.h) (fun tm _ E=>⟨rfl,xrq rfl,fun C h s=>.inl (by
  unfold Exv;simp only[execOp,xeq E hx trivial,xeq E O trivial];refine xbq ?_;unfold Instr.storeAt;refine xbq (xcq ?_);unfold storeVar;refine xbq (xax sz.h ?_);rw[if_neg (by simpa using hv)];refine xnz (i:=0) s rfl (by simpa using hlen) (fun u hu=>List.all_eq_true.1 h1 u hu) fun h' M=>?_;refine xcq ⟨_,.inr ⟨rfl,rfl⟩,_,rfl,?_⟩;rw[Nat.add_zero]at M;exact M)⟩) fun v x e=>by subst e;exact n.run⟩
theorem yrv{id:Nat}(m:Nat)(cl:List (List Nat))(effs H:List Nat)(b:Nat){o:Obj}[i:Bx LL b o LR](D:DE X k ops (.drop m) p LR effs H l [[(b,o)]])(V:X.P.follows .mixedOrders=true:=by kernel_rfl)(ok:okD X.n ops=true:=by rfl)
 (a2:Bp ops m cl=true:=by rfl)(hm:Nat.ble m ops.length=true:=by rfl)(O:Ea ops cl effs [] H=true:=by rfl)(M:((List.range m).all fun i=>H.contains i)=true:=by rfl)(a3:(H.all fun i=>Nat.blt i m)=true:=by rfl):
 RE X (.code (.region id ops.toArray true)::k) l p LL:=xqd (L0:=[[(b,o)]]) (i.h.trans (by simpa using(List.perm_append_comm (l₁:=[(b,o)]) (l₂:=LR.flatten)))) m cl effs H V ok D.run a2 hm O M a3
theorem xpl{id:Nat}(m:Nat)(cl:List (List Nat))(effs H:List Nat)(b b':Nat){o o':Obj}[i:Bx LL b o LR][j:Bx LR b' o' L3](D:DE X k ops (.drop m) p L3 effs H l [[(b,o)],[(b',o')]])(M:X.P.follows .mixedOrders=true:=by kernel_rfl)(ok:okD X.n ops=true:=by rfl)
 (a3:Bp ops m cl=true:=by rfl)(hm:Nat.ble m ops.length=true:=by rfl)(V:Ea ops cl effs [] H=true:=by rfl)(O:((List.range m).all fun i=>H.contains i)=true:=by rfl)(a2:(H.all fun i=>Nat.blt i m)=true:=by rfl):
 RE X (.code (.region id ops.toArray true)::k) l p LL:=xqd (L0:=[[(b,o)],[(b',o')]]) ((i.h.trans (List.Perm.cons _ j.h)).trans (by simpa using(List.perm_append_comm (l₁:=[(b,o),(b',o')]) (l₂:=L3.flatten)))) m cl effs H M ok D.run a3 hm V O a2
end
theorem aw{Q K:Prop}(k:K)(h:Hid K->Q:=by
 intro k
 repeat (first
  |refine xrv rfl rfl sdt ?_
  |refine xu9 ?_
  |refine ymq ?_
  |refine xwp ?_ rfl
  |refine xz0 rfl rfl sdt ?_
  |refine ydg rfl rfl sdt ?_
  |refine yeg rfl rfl sdt ?_
  |refine xhb rfl rfl sdt (xtx (xql ‹_› rfl)) ?_
  |refine xk9 rfl rfl sdt ?_
  |refine xo6 rfl rfl (by omega) (Sl.ne ‹_› (by omega)) ?_
  |refine xoz rfl (As.get ‹_› (by omega)) ?_
  |refine xd1 ?_
  |refine xyp ?_
  |refine xwf ?_
  |refine xg1 rfl ?_
  |refine xl9 rfl rfl sdt ?_
  |refine xad rfl rfl sdt (xtx (xyz ‹_›)) ?_
  |refine xnc rfl rfl ?_
  |refine ycg rfl rfl sdt ?_
  |refine xh9 rfl rfl rfl sdt sdt ?_
  |refine xi9 rfl rfl rfl sdt sdt ?_
  |refine yzf rfl rfl ?_
  |refine xy9 rfl ?_
  |refine yvm rfl rfl sdt ?_
  |refine xgl rfl rfl (by decide) (by omega) (Sl.ne ‹_› (by omega)) ?_
  |refine yuc rfl rfl rfl sdt sdt ?_
  |refine ytc rfl rfl rfl sdt sdt ?_
  |refine xj9 rfl rfl sdt ?_)
 exact k.out):Q:=h ⟨k⟩
theorem ae{Q K:Prop}(k:K)(h:Hid K->Q:=by
 intro k
 repeat (first
  |refine xmf rfl rfl rfl sdt ?_
  |refine yhj ?_
  |refine xnf rfl rfl rfl sdt ?_
  |refine ymj rfl rfl rfl sdt ?_
  |refine ytl rfl rfl rfl sdt ?_
  |refine ykj rfl rfl rfl sdt ?_
  |refine yrl rfl rfl rfl (by omega) (Sl.ne ‹_› (by omega)) ?_
  |refine xgj rfl rfl (As.get ‹_› (by omega)) ?_
  |refine xdp rfl rfl rfl sdt ?_
  |refine ysl rfl rfl rfl sdt ?_
  |refine xv5 rfl rfl ?_
  |refine yql rfl rfl rfl ?_
  |refine yij rfl rfl rfl rfl sdt sdt ?_
  |refine yol rfl rfl rfl sdt ?_
  |refine xrc rfl rfl rfl (by decide) (by omega) (Sl.ne ‹_› (by omega)) ?_
  |refine xak rfl rfl rfl sdt (xtx (xql ‹_› rfl)) ?_
  |refine xkw rfl rfl rfl sdt (xtx (xyz ‹_›)) ?_
  |refine yrd rfl rfl rfl rfl sdt sdt ?_
  |refine yjj rfl rfl rfl sdt ?_
  |refine xch rfl rfl rfl ?_)
 exact k.out):Q:=h ⟨k⟩
section
variable{X:Cx}{k:List Item}{ops rest:List Oper}{m:Ks}{l:Env}{p:Ab}{LF LL LR L3:List Pcs}{effs todo:List Nat}{d:Option Tmp}{dd:Nat}{ty:TypeId}{pos:String}{aft:Array Edge}{gd:Option (Nat×Bool)}{g:Option Bool}{ss ss':List Prop}{x y:Operand}{i:Nat}{v:Value}{T T' t:TypeId}{w:Nat}{es:List (List Value)}{Y:Pcs}
theorem xtk{e:TypeId}{a:Option Addr}{q c:Nat}{j:Int}{kk:IntKind}(V:ops[i]?=some ⟨d,.indexAddr t x y,ty,pos,aft,gd⟩)(O:gdc ops l gd=some g)(hx:evS l x=some (ss,.slice a q c))(M:evS l y=some (ss',.int kk j))(hs:Av g (Ax ss))(H:Av g (Ax ss'))(hi:Av g ((0<=j/\j<q)/\a=some (adr a)))
 [f:Bv X.P t e][sz:Ai X.P e w](n:DE X k ops m p LF effs todo (ent d g (.pointer (some ((adr a).add (j.toNat*w)))) l) LL):DE X k ops m p LF effs (i::todo) l LL:=
 xuz V O rfl (xwz hi (xwz hs H And.intro) fun hi hs _ _ _ E _=>xjk f.h sz.h ((xeq E hx hs.1).trans (xs0 q c hi.2)) (xeq E M hs.2) hi.1.1 hi.1.2 rfl) n
theorem xn9{e:TypeId}{a:Option Addr}{q c:Nat}{j:Int}{kk:IntKind}(O:gdc ops l gd=some g)(V:evS l x=some (ss,.slice a q c))(M:evS l y=some (ss',.int kk j))(hs:Av g (Ax ss))(H:Av g (Ax ss'))(hi:Av g ((0<=j/\j<q)/\a=some (adr a)))
 [f:Bv X.P t e][sz:Ai X.P e w](n:RO X k ops rest (ent d g (.pointer (some ((adr a).add (j.toNat*w)))) l) p LL):RO X k ops (⟨d,.indexAddr t x y,ty,pos,aft,gd⟩::rest) l p LL:=
 xjx O rfl (xwz hi (xwz hs H And.intro) fun hi hs _ _ E _=>xjk f.h sz.h ((xeq E V hs.1).trans (xs0 q c hi.2)) (xeq E M hs.2) hi.1.1 hi.1.2 rfl) n
theorem xcv{e:TypeId}{j:Int}(M:evS l x=some ([],v))(H:evS l y=some ([],.J j))(o:Ac T w v es Y)(V:0<=j)(O:j.toNat<es.length)[f:Bv X.P t e][sz:Ai X.P e w](n:RO X k ops rest (ent d none (.pointer (some ((El v).add (j.toNat*w)))) l) p LL):
 RO X k ops (⟨d,.indexAddr t x y,ty,pos,aft,none⟩::rest) l p LL:=by
 have e:j=((j.toNat:Nat):Int):=om;exact xjx (g:=none) rfl rfl (fun _ _ E _=>xic o f.h sz.h (xeq E M trivial) ((xeq E H trivial).trans (by rw[<- e])) O) n
end
def clo(ops:List Oper):List (List Nat):=ops.foldl (fun acc o=>acc++[(Bq o++(Bq o).flatMap fun k=>acc.getD k []).eraseDups]) []
section
variable{X:Cx}{k:List Item}{ops rest:List Oper}{m:Ks}{l:Env}{p:Ab}{LF LL LR L3:List Pcs}{effs todo:List Nat}
theorem xqq{id:Nat}(effs H:List Nat)(D:DE X k ops (.drop H.length) p LL effs H l [])(V:X.P.follows .mixedOrders=true:=by kernel_rfl)(ok:okD X.n ops=true:=by rfl)
 (a3:Bp ops H.length (clo ops)=true:=by kernel_rfl)(hm:Nat.ble H.length ops.length=true:=by kernel_rfl)(O:Ea ops (clo ops) effs [] H=true:=by kernel_rfl)(M:((List.range H.length).all fun i=>H.contains i)=true:=by kernel_rfl)(a2:(H.all fun i=>Nat.blt i H.length)=true:=by kernel_rfl):
 RE X (.code (.region id ops.toArray true)::k) l p LL:=xu3 H.length (clo ops) effs H V ok D.run a3 hm O M a2
theorem xuv{id:Nat}(effs H:List Nat)(b:Nat){o:Obj}[i:Bx LL b o LR](D:DE X k ops (.drop H.length) p LR effs H l [[(b,o)]])(V:X.P.follows .mixedOrders=true:=by kernel_rfl)(ok:okD X.n ops=true:=by rfl)
 (a2:Bp ops H.length (clo ops)=true:=by kernel_rfl)(hm:Nat.ble H.length ops.length=true:=by kernel_rfl)(O:Ea ops (clo ops) effs [] H=true:=by kernel_rfl)(M:((List.range H.length).all fun i=>H.contains i)=true:=by kernel_rfl)(a3:(H.all fun i=>Nat.blt i H.length)=true:=by kernel_rfl):
 RE X (.code (.region id ops.toArray true)::k) l p LL:=yrv H.length (clo ops) effs H b D V ok a2 hm O M a3
theorem xw3{id:Nat}(effs H:List Nat)(Y:Pcs)[i:Rm LL Y LR](D:DE X k ops (.drop H.length) p LR effs H l [Y])(V:X.P.follows .mixedOrders=true:=by kernel_rfl)(ok:okD X.n ops=true:=by rfl)
 (a3:Bp ops H.length (clo ops)=true:=by kernel_rfl)(hm:Nat.ble H.length ops.length=true:=by kernel_rfl)(O:Ea ops (clo ops) effs [] H=true:=by kernel_rfl)(M:((List.range H.length).all fun i=>H.contains i)=true:=by kernel_rfl)(a2:(H.all fun i=>Nat.blt i H.length)=true:=by kernel_rfl):
 RE X (.code (.region id ops.toArray true)::k) l p LL:=xv3 H.length (clo ops) effs H Y D V ok a3 hm O M a2
end
abbrev R3:List Nat:=[0,1,2]
abbrev R4:List Nat:=[0,1,2,3]
abbrev R5:List Nat:=[0,1,2,3,4]
abbrev R6:List Nat:=[0,1,2,3,4,5]
abbrev R7:List Nat:=[0,1,2,3,4,5,6]
abbrev R8:List Nat:=[0,1,2,3,4,5,6,7]
abbrev R9:List Nat:=[0,1,2,3,4,5,6,7,8]
abbrev R10:List Nat:=[0,1,2,3,4,5,6,7,8,9]
abbrev R11:List Nat:=[0,1,2,3,4,5,6,7,8,9,10]
abbrev R12:List Nat:=[0,1,2,3,4,5,6,7,8,9,10,11]
abbrev R13:List Nat:=[0,1,2,3,4,5,6,7,8,9,10,11,12]
abbrev R14:List Nat:=[0,1,2,3,4,5,6,7,8,9,10,11,12,13]
abbrev R15:List Nat:=[0,1,2,3,4,5,6,7,8,9,10,11,12,13,14]
abbrev R16:List Nat:=[0,1,2,3,4,5,6,7,8,9,10,11,12,13,14,15]
abbrev R17:List Nat:=[0,1,2,3,4,5,6,7,8,9,10,11,12,13,14,15,16]
abbrev R18:List Nat:=[0,1,2,3,4,5,6,7,8,9,10,11,12,13,14,15,16,17]
abbrev R19:List Nat:=[0,1,2,3,4,5,6,7,8,9,10,11,12,13,14,15,16,17,18]
abbrev R20:List Nat:=[0,1,2,3,4,5,6,7,8,9,10,11,12,13,14,15,16,17,18,19]
abbrev R21:List Nat:=[0,1,2,3,4,5,6,7,8,9,10,11,12,13,14,15,16,17,18,19,20]
abbrev R23:List Nat:=[0,1,2,3,4,5,6,7,8,9,10,11,12,13,14,15,16,17,18,19,20,21,22]
abbrev R24:List Nat:=[0,1,2,3,4,5,6,7,8,9,10,11,12,13,14,15,16,17,18,19,20,21,22,23]
abbrev R25:List Nat:=[0,1,2,3,4,5,6,7,8,9,10,11,12,13,14,15,16,17,18,19,20,21,22,23,24]
theorem Ac.stN{T:TypeId}{w:Nat}{v:Value}{es:List (List Value)}{X:Pcs}{i j:Nat}{e vs:List Value}(o:Ac T w v es X)(hi:es[i]?=some e)(hj:j+vs.length<=e.length):
 ∃b cs off,X=[(b,.cells (List.toArray cs) T (0,0))]/\((El v).add (i*w)).add j=⟨b,off,none⟩/\off+vs.length<=cs.length/\Ac T w v (es.set i (B6 e j vs)) [(b,.cells (B6 cs off vs).toArray T (0,0))]:=by
 have H:=(List.getElem?_eq_some_iff.1 hi).1;obtain⟨b,cs',cap,rs,e1,e2,O,e4,ec⟩:=o.has H;have he:e.length=w:=o.1 e (List.mem_of_getElem? hi);have a2:es.flatten.length=es.length*w:=xnq o.1;have M:(i+1)*w<=es.length*w:=Nat.mul_le_mul_right _ H;rw[Nat.add_mul,Nat.one_mul]at M;subst e1;subst e2;have e5:B6 cs' (i*w+j) vs=(es.set i (B6 e j vs)).flatten++rs:=by
  rw[O,<- xub o.1 hi hj];have:∀(vs l:List Value)(m:Nat),m+vs.length<=l.length->B6 (l++rs) m vs=B6 l m vs++rs:=by
   intro vs
   induction vs with
   |nil=>intro l m _;rfl
   |cons v vs ih=>
     intro l m hl;simp only[List.length_cons]at hl;simp only[B6];rw[List.set_append_left _ _ om,ih _ _ (by simp;omega)]
  exact this vs _ _ om
 refine⟨b,cs',i*w+j,rfl,by simp only[El];rw[xsx,xsx,Nat.zero_add],by rw[O,List.length_append];omega,fun z V=>?_,.inr ⟨b,B6 cs' (i*w+j) vs,cap,rs,s_,rfl,e5,by rw[xzx];exact e4,ec⟩⟩;rcases List.mem_or_eq_of_mem_set V with h|h
 ·exact o.1 z h
 ·subst h;rw[xzx];exact he
section
variable{X:Cx}{k:List Item}{ops rest:List Oper}{m:Ks}{l:Env}{p:Ab}{LF LL LR L3:List Pcs}{effs todo:List Nat}{d:Option Tmp}{op:Op}{ty:TypeId}{pos:String}{aft:Array Edge}{gd:Option (Nat×Bool)}{g:Option Bool}{ss ss':List Prop}{x y:Operand}{i:Nat}{v:Value}{T T' t:TypeId}{w:Nat}{es:List (List Value)}{Y:Pcs}
theorem xt5(ho:ops[i]?=some ⟨d,op,ty,pos,aft,gd⟩)(O:gdc ops l gd=some g)(V:Bh op=true)(M:Av g (∀tm h,B1 tm l->St X.z9 X.zz p h (LF.flatten++LL.flatten)->Exd X.P tm ⟨d,op,ty,pos,aft,gd⟩ h v))
 (n:DE X k ops m p LF effs todo (ent d g v l) LL)(hb:N3 ops effs todo i=true):DE X k ops m p LF effs (i::todo) l LL:=⟨.pin ho (ytg hb) (fun tm _ E C=>⟨V,by
  have sb:∀{h},St X.z9 X.zz p h (LF.flatten++(LL.flatten++C))->St X.z9 X.zz p h (LF.flatten++LL.flatten):=fun y=>y.sub (List.Sublist.append_left (List.sublist_append_left _ _) _);rcases xzv (o:=⟨d,op,ty,pos,aft,gd⟩) E O with⟨rfl,H⟩|⟨c,rfl,H⟩
  ·exact .inl ⟨H,xmh fun h y=>M tm h E (sb y)⟩
  ·cases c with
   |true=>exact .inl ⟨H,xmh fun h y=>M rfl tm h E (sb y)⟩
   |false=>exact .inr ⟨H,rfl⟩⟩) n.run⟩
theorem xd2{j q:Nat}{e:List Value}{u:Value}{a:Addr}(O:ops[i]?=some ⟨d,.load t x,ty,pos,aft,gd⟩)(M:gdc ops l gd=some g)(hx:evS l x=some (ss,.pointer (some a)))(hs:Av g (Ax ss))(o:Ac T w v es Y)(H:((El v).add (j*w)).add q=a)(hj:es[j]?=some e)(V:e[q]?=some u)
 [ag:Bw X.P t false][ii:Rm LL Y LR](n:DE X k ops m p LF effs todo (ent d g u l) LL)(hb:N3 ops effs todo i=true:=by kernel_rfl):DE X k ops m p LF effs (i::todo) l LL:=
 xt5 O M rfl (xuq hs fun hs _ h E s=>xif ag.h (xeq E hx hs) (by
  subst H;exact xtd (L:=LR.flatten++LF.flatten) o (s.perm ((List.perm_append_comm.trans (List.Perm.append_right _ ii.h)).trans (by rw[List.append_assoc]))) hj V)) n hb
theorem yod{O j M:Nat}{e vs:List Value}{u:Value}{a:Addr}(ho:ops[i]?=some ⟨none,.store T' x y,ty,pos,aft,none⟩)(hx:evS l x=some ([],.pointer (some a)))(hy:evS l y=some ([],u))(o:Ac T w v es Y)(ha:((El v).add (O*w)).add j=a)(hu:u.cells=vs.toArray)(hn:vs.length=M)(h1:vs.all A7=true)(hi:es[O]?=some e)(hj:j+vs.length<=e.length)
 [sz:Ai X.P T' M][ii:Rm LL Y LR](nx:∀H,Ac T w v (es.set O (B6 e j vs)) H->DE X k ops m p LF effs todo l (H::LR))(he:effs.contains i=true:=by rfl):DE X k ops m p LF effs (i::todo) l LL:=
 ⟨.eff (U:=Y) (LR:=LR) (Q:=fun _ H=>Ac T w v (es.set O (B6 e j vs)) H) ho (by simpa using he) ii.h (fun tm _ E=>⟨rfl,xrq rfl,fun C h s=>.inl (by
  obtain⟨b,cs,off,e1,e2,e3,V⟩:=o.stN hi hj;subst e1;unfold Exv;simp only[execOp,xeq E hx trivial,xeq E hy trivial];rw[<- ha,e2];refine xbq ?_;unfold Instr.storeAt;refine xbq (xcq ?_);unfold storeVar;refine xbq (xax sz.h ?_);rw[if_neg (by rw[hu];simpa using hn),hu];refine xnz (i:=0) s rfl (by simpa using e3) (fun z hz=>List.all_eq_true.1 h1 z hz) fun h' s'=>?_;refine xcq ⟨_,.inr ⟨rfl,rfl⟩,_,V,?_⟩;rw[Nat.add_zero]at s';exact s')⟩) fun v' H V=>(nx H V).run⟩
end
section
variable{X:Cx}{k:List Item}{ops rest:List Oper}{l:Env}{p:Ab}{LL LR L3:List Pcs}{d:Option Tmp}{ty:TypeId}{pos:String}{aft:Array Edge}{x:Operand}{fv:Value}{Y Z:Pcs}
theorem xjl{args:List Operand}{ats:Array TypeId}{ff:FuncId}{first cap vs:List Value}{Q:Value->Pcs->Prop}(Y:Pcs)[i:Rm LL Y LR](hx:evS l x=some ([],.func (.func ff) first.toArray cap.toArray))(M:C9 l args=some ([],vs))
 (hc:∀h C,St X.z9 X.zz p h (Y++C)->Aa X.P X.md ff (first++(vs++cap)).toArray h fun v h'=>∃H,Q v H/\St X.z9 X.zz p h' (H++C))(n:∀v H,Q v H->RO X k ops rest (ent d none v l) p (H::LR))(hf:Am X.P ff=true:=by kernel_rfl):
 RO X k ops (⟨d,.call ⟨.value x,args.toArray,ats⟩,ty,pos,aft,none⟩::rest) l p LL:=⟨fun V tm O E=>
 xsv (R:=fun v h=>∃H,Q v H/\St X.z9 X.zz p h (H++LR.flatten)) (xrq rfl) (xeq E hx trivial) (by rw[xnx E M trivial]) hf (fun h s=>hc h _ (s.rm i))
  fun v=>xgk fun H=>xcz fun q=>(n v H q).run (xjq V).1 _ (Aw.trans O) (E.ent (g:=none) O (xjq V).2)⟩
theorem ywc{args:List Operand}{ats:Array TypeId}{vs:List Value}{Q:Value->Pcs->Prop}(Y:Pcs)[i:Rm LL Y LR](hx:evS l x=some ([],fv))(M:C9 l args=some ([],vs))
 (hc:∀h C,St X.z9 X.zz p h (Y++C)->Az X.P X.md fv vs h fun v h'=>∃H,Q v H/\St X.z9 X.zz p h' (H++C))(n:∀v H,Q v H->RO X k ops rest (ent d none v l) p (H::LR)):
 RO X k ops (⟨d,.call ⟨.value x,args.toArray,ats⟩,ty,pos,aft,none⟩::rest) l p LL:=⟨fun V _ O E=>
 xnd (R:=fun v h=>∃H,Q v H/\St X.z9 X.zz p h (H++LR.flatten)) (xrq rfl) (xeq E hx trivial) (xnx E M trivial) (fun h s=>hc h _ (s.rm i))
  fun v=>xgk fun H=>xcz fun q=>(n v H q).run (xjq V).1 _ (Aw.trans O) (E.ent (g:=none) O (xjq V).2)⟩
theorem ygp{z9 h:Heap}[i:Rm LL Y LR][j:Rm LR Z L3](s:St z9 [] p h LL.flatten):New z9 h (Y++Z):=
 (((s.rm i).perm (List.Perm.append_left Y j.h)).sub (by rw[<- List.append_assoc];exact List.sublist_append_left _ _)).new
end
theorem xkj{P:Program}{md:Md}{f:FuncId}{fn:Func}{c:Code}{args:List Value}{R:Value->Heap->Prop}{h z9:Heap}{zz:List Nat}{p:Ab}{Y C:Pcs}(s:St z9 zz p h (Y++C))(hf:P.funcs[f]?=some fn)
 (x:∀(zq:Frame)(cs:List Frame)(Stop:Goroutine->Heap->Prop),(∀v h',R v h'->Reach P md (G (zq.finish v) cs) h' Stop)->RE ⟨P,md,f,.none,fn.ntmps,[],zq::cs,Stop,z9,zz⟩ [.code c] (Gn 0 args) p [Y,C])
 (H:fn.body=some c:=by rfl)(hn:Nat.ble args.length fn.ntmps=true:=by rfl):Aa P md f args.toArray h R:=
 xed (Φ:=fun h'=>St z9 zz p h' [Y,C].flatten) hf H rfl (fun zq cs Stop K=>(x zq cs Stop K).run _ (by have:=Nat.le_of_ble_eq_true hn;simp;omega) fun i g v O=>by
  obtain⟨rfl,m,rfl,M⟩:=xjc O;rw[Nat.zero_add,List.getElem?_append_left (by simpa using(List.getElem?_eq_some_iff.1 M).1)];simpa[cv]using M) (by simpa using s)
theorem xfg{z9 h:Heap}{zz:List Nat}{p:Ab}{LL LR L3:List Pcs}{Y C:Pcs}[i:Rm LL Y LR][j:Rm LR C L3](s:St z9 zz p h LL.flatten):St z9 zz p h (Y++C):=
 ((s.rm i).perm (List.Perm.append_left Y j.h)).sub (by rw[<- List.append_assoc];exact List.sublist_append_left _ _)
theorem xrx{a:Addr}{j w:Nat}:(a.add (j*w)).add 0=a.add (j*w):=by unfold Addr.add;cases a.spot<;>rfl
theorem xrb{P:Program}{md:Md}{f:FuncId}{nn:Nat}{zq:Frame}{cs:List Frame}{Stop:Goroutine->Heap->Prop}{z9:Heap}{zz:List Nat}{fn:Func}{p:Ab}{LL:List Pcs}{l:Env}(hf:P.funcs[f]?=some fn)(H:fn.results=#[])
 (x:∀h,St z9 zz p h LL.flatten->Reach P md (G (zq.finish (.tuple #[])) cs) h Stop):RE ⟨P,md,f,.none,nn,[],zq::cs,Stop,z9,zz⟩ [] l p LL:=
 ⟨fun _ _ _=>yoh (rs:=[]) (vs:=[]) hf H (fun _ _=>rfl) rfl x⟩
section
variable{X:Cx}{k:List Item}{ops rest:List Oper}{m:Ks}{l:Env}{p:Ab}{LF LL LR L3:List Pcs}{effs todo:List Nat}{d:Option Tmp}{op:Op}{ty:TypeId}{pos:String}{aft:Array Edge}{gd:Option (Nat×Bool)}{g:Option Bool}{ss ss':List Prop}{x y:Operand}{i:Nat}{v fv:Value}{T T' t:TypeId}{w:Nat}{es:List (List Value)}{Y:Pcs}
theorem xof{e:TypeId}{z:Int}(ho:ops[i]?=some ⟨d,.indexAddr t x y,ty,pos,aft,gd⟩)(V:gdc ops l gd=some g)(hx:evS l x=some (ss,v))(O:evS l y=some (ss',.J z))(hs:Av g (Ax ss))(M:Av g (Ax ss'))(o:Ac T w v es Y)(H:Av g (0<=z/\z.toNat<es.length))
 [f:Bv X.P t e][sz:Ai X.P e w](n:DE X k ops m p LF effs todo (ent d g (.pointer (some ((El v).add (z.toNat*w)))) l) LL):DE X k ops m p LF effs (i::todo) l LL:=
 xuz ho V rfl (xwz H (xwz hs M And.intro) fun H hs _ _ _ E _=>xz1 o f.h sz.h (xeq E hx hs.1) (xeq E O hs.2) H.1 H.2) n
theorem xv9{args:List Operand}{ats:Array TypeId}{vs:List Value}(hg:gdc ops l gd=some g)(hx:evS l x=some (ss',fv))(H:Av g (Ax ss'))(a2:C9 l args=some (ss,vs))(hs:Av g (Ax ss))(hc:Av g (∀h,Per p h->Az X.P X.md fv vs h fun v' h'=>v'=v/\Af h h'))(n:RO X k ops rest (ent d g v l) p LL):
 RO X k ops (⟨d,.call ⟨.value x,args.toArray,ats⟩,ty,pos,aft,gd⟩::rest) l p LL:=by
 constructor;intro ok tm ht E;have O:=xjq ok;have go:∀u,u=cv g v->RL X.P X.md X.f X.r X.df k X.cs X.Stop ops rest (Cm tm d u) (fun h=>St X.z9 X.zz p h LL.flatten):=fun u e=>by
  subst e;exact n.run O.1 _ (Aw.trans ht) (E.ent ht O.2)
 have V:Met ops tm ⟨d,.call ⟨.value x,args.toArray,ats⟩,ty,pos,aft,gd⟩ true->Ax ss'->Ax ss->(∀h,Per p h->Az X.P X.md fv vs h fun v' h'=>v'=v/\Af h h')->v=cv g v->
  RL X.P X.md X.f X.r X.df k X.cs X.Stop ops (⟨d,.call ⟨.value x,args.toArray,ats⟩,ty,pos,aft,gd⟩::rest) tm (fun h=>St X.z9 X.zz p h LL.flatten):=fun M H hs hc e=>
  xbt M (xeq E hx H) (xnx E a2 hs) (fun h s=>hc h fun b o e=>s.per b o e) rfl (go _ e)
 rcases xzv (o:=⟨d,.call ⟨.value x,args.toArray,ats⟩,ty,pos,aft,gd⟩) E hg with⟨rfl,M⟩|⟨c,rfl,M⟩
 ·exact V M H hs hc rfl
 ·cases c with
  |true=>exact V M (H rfl) (hs rfl) (hc rfl) rfl
  |false=>exact xqb M rfl (go _ rfl)
end
section
variable{X:Cx}{k:List Item}{ops rest:List Oper}{m:Ks}{l:Env}{p:Ab}{LF LL LR L3:List Pcs}{effs todo:List Nat}{d:Option Tmp}{ty:TypeId}{pos:String}{aft:Array Edge}{gd:Option (Nat×Bool)}{ss ss':List Prop}{x:Operand}{i:Nat}{v fv:Value}
theorem xtp{args:List Operand}{ats:Array TypeId}{vs:List Value}{c:Bool}{Q:Pcs->Prop}(Y:Pcs)[i:Rm LL Y LR](hg:gdc ops l gd=some (some c))(hx:evS l x=some (ss',fv))(V:Av (some c) (Ax ss'))(a2:C9 l args=some (ss,vs))(hs:Av (some c) (Ax ss))
 (hc:c=true-> ∀h C,St X.z9 X.zz p h (Y++C)->Az X.P X.md fv vs h fun v' h'=>∃H,(v'=v/\Q H)/\St X.z9 X.zz p h' (H++C))(n:∀H,(c=true->Q H)->(c=false->H=Y)->RO X k ops rest (ent d (some c) v l) p (H::LR)):
 RO X k ops (⟨d,.call ⟨.value x,args.toArray,ats⟩,ty,pos,aft,gd⟩::rest) l p LL:=by
 constructor;intro ok tm O E;have M:=xjq ok;rcases xzv (o:=⟨d,.call ⟨.value x,args.toArray,ats⟩,ty,pos,aft,gd⟩) E hg with⟨e,_⟩|⟨c',e,hm⟩
 ·cases e
 ·cases e;cases c with
  |true=>
    refine xnd (R:=fun v' h=>∃H,(v'=v/\Q H)/\St X.z9 X.zz p h (H++LR.flatten)) hm (xeq E hx (V rfl)) (xnx E a2 (hs rfl)) (fun h s=>hc rfl h _ (s.rm i)) fun v'=>xgk fun H=>xcz fun⟨e,q⟩=>?_;subst e;exact(n H (fun _=>q) (fun z=>by cases z)).run M.1 _ (Aw.trans O) (E.ent (g:=some true) O M.2)
  |false=>
    refine xa1 (xqb hm rfl ((n Y (fun z=>by cases z) (fun _=>rfl)).run M.1 _ (Aw.trans O) (E.ent (g:=some false) (v:=v) O M.2))) fun _ s=>s.rm i
theorem yul{args:List Operand}{ats:Array TypeId}{vs:List Value}{c:Bool}{Q:Pcs->Prop}(Y:Pcs)[ii:Rm LL Y LR](ho:ops[i]?=some ⟨d,.call ⟨.value x,args.toArray,ats⟩,ty,pos,aft,gd⟩)(hg:gdc ops l gd=some (some c))(hx:evS l x=some (ss',fv))(O:Av (some c) (Ax ss'))(M:C9 l args=some (ss,vs))(hs:Av (some c) (Ax ss))
 (hc:c=true-> ∀h C,St X.z9 X.zz p h (Y++C)->Az X.P X.md fv vs h fun v' h'=>∃H,(v'=v/\Q H)/\St X.z9 X.zz p h' (H++C))(n:∀H,(c=true->Q H)->(c=false->H=Y)->DE X k ops m p LF effs todo (ent d (some c) v l) (H::LR))(he:effs.contains i=true:=by rfl):
 DE X k ops m p LF effs (i::todo) l LL:=
 ⟨.Ny (U:=Y) (g:=some c) (Q:=fun u x=>u=v/\(c=true->Q x)/\(c=false->x=Y)) ho (by simpa using he) ii.h (fun tm _ E=>⟨rfl,by
  rcases xzv (o:=⟨d,.call ⟨.value x,args.toArray,ats⟩,ty,pos,aft,gd⟩) E hg with⟨e,_⟩|⟨c',e,V⟩
  ·cases e
  ·cases e;cases c with
   |true=>
     refine .inl ⟨V,fun C h s=>.inr (.inr fun c cs Stop z=>?_)⟩;simp only[execOp,resolve,xeq E hx (O rfl),List.map_toArray,xnx E M (hs rfl)];exact hc rfl h _ s c cs Stop fun v' h'⟨H,⟨e,q⟩,s'⟩=>z v' h' ⟨v,H,e,⟨rfl,fun _=>q,fun z=>by cases z⟩,s'⟩
   |false=>exact .inr ⟨V,v,rfl,rfl,(fun z=>by cases z),fun _=>rfl⟩⟩) fun u x⟨e,q1,q2⟩=>by subst e;exact(n x q1 q2).run⟩
end
def Gf(ops:List Oper)(val:Nat->Value):Nat->Env->Env
 |0,l=>l
 |m+1,l=>ent ((ops[m]?).bind (·.dst)) none (val m) (Gf ops val m l)
theorem xim{ops:List Oper}{val:Nat->Value}{tm:List Value}{l:Env}{n:Nat}(E:B1 tm l)(hn:tm.length=n)(O:okD n ops=true):∀m,B1 (Fu ops val m tm) (Gf ops val m l)
 |0=>E
 |m+1=>by
   refine(xim E hn O m).ent (g:=none) (n:=n) (by rw[xfj,hn]) fun i hi=>?_;cases M:ops[m]? with
   |none=>rw[M]at hi;cases hi
   |some o=>
     rw[M]at hi;have:∀{os:List Oper},okD n os=true-> ∀o∈os,∀d,o.dst=some d->d<n:=fun{os}=>by
      induction os with
      |nil=>intro _ o M;simp at M
      |cons o os ih=>
        intro h V H d O;rcases List.mem_cons.1 H with rfl|H
        ·exact(xjq h).2 d O
        ·exact ih (xjq h).1 V H d O
     exact this O o (List.mem_of_getElem? M) i hi
def Rg(X:Cx)(k:List Item)(ops:List Oper)(M:Nat)(l:Env)(p:Ab)(LL:List Pcs)(effs:List Nat)(H anc:Nat->List Nat)(Q:Nat->(Nat->Value)->(Nat->Pcs)->Value->Pcs->Prop)(i:Nat):Prop:=
 ∀val piece,(∀j,(anc i).contains j=true->Qr anc Q val piece j (val j) (piece j))->
  DE X k ops (.to fun l' LL'=>(∃v,l'=ent ((ops[i]?).bind (·.dst)) none v (Gf ops val M l))/\ ∀v,l'=ent ((ops[i]?).bind (·.dst)) none v (Gf ops val M l)->Qr anc Q val piece i v LL'.flatten) p LL effs [i] (Gf ops val M l) ((H i).map piece)
theorem yxz{d:Tmp}{g:Option Bool}{u v:Value}{l:Env}(h:ent (some d) g u l=ent (some d) none v l):g=none/\u=v:=by
 simp only[ent,List.cons.injEq,Prod.mk.injEq,true_and,and_true]at h;exact h
def Pk(ops:List Oper)(m:Nat):Bool:=(ops.take m).all fun o=>o.guard.isNone&&Bh o.op
theorem yld{P:Program}{md:Md}{ops:List Oper}{n:Nat}{z9:Heap}{zz:List Nat}{p:Ab}{LF:Pcs}{effs:List Nat}{i:Nat}{l:Env}{L0:List Pcs}{o:Oper}{R:Value->Pcs->Prop}(ho:ops[i]?=some o)(hg:o.guard=none)
 (D:DR P md ops n z9 zz p LF effs (fun l' LL'=>(∃v,l'=ent o.dst none v l)/\ ∀v,l'=ent o.dst none v l->R v LL'.flatten) [i] l L0){tm:List Value}(ht:tm.length=n)(E:B1 tm l)(C:Pcs){h:Heap}(s:St z9 zz p h (L0.flatten++(LF++C))):
 G5 P md tm o h fun v h'=>∃x,R v x/\St z9 zz p h' (x++(LF++C)):=by
 have mt:∀{tm},¬ Met ops tm o false:=fun z=>by unfold Met at z;rw[hg]at z;cases z
 have O:∀{g u}{LL':List Pcs},((∃v,ent o.dst g u l=ent o.dst none v l)/\ ∀v,ent o.dst g u l=ent o.dst none v l->R v LL'.flatten)->R (cv g u) LL'.flatten:=fun{g u LL'}⟨⟨v,e⟩,k⟩=>by
  cases hd:o.dst with
  |none=>rw[hd]at k;exact k _ rfl
  |some d=>rw[hd]at e k;obtain⟨rfl,rfl⟩:=yxz e;exact k _ rfl
 have val:∀{u},R u L0.flatten->Nb P md tm o (fun h=>St z9 zz p h (LF++(L0.flatten++C))) u->G5 P md tm o h fun v h'=>∃x,R v x/\St z9 zz p h' (x++(LF++C)):=fun{u}hR M=>by
  have H:∀{h'},St z9 zz p h' (LF++(L0.flatten++C))->St z9 zz p h' (L0.flatten++(LF++C)):=fun y=>y.perm (List.perm_append_comm_assoc _ _ _);rcases M h (s.perm (List.perm_append_comm_assoc _ _ _))with y|⟨g,args,y,z⟩|y
  ·exact .inl (xix y fun _ _⟨v',e,e2,V⟩=>⟨v',.inl e,_,e2 ▸ hR,H V⟩)
  ·exact .inr (.inl ⟨g,args,y,z.mono fun v' h'⟨e,V⟩=>⟨_,e ▸ hR,H V⟩⟩)
  ·exact .inr (.inr fun c cs Stop z=>y c cs Stop fun v' h'⟨e,V⟩=>z v' h' ⟨_,e ▸ hR,H V⟩)
 cases D with
 |det ho' hh nx=>
   rw[ho]at ho';cases ho';cases nx with
   |nil kk=>
     obtain⟨_,⟨_,M⟩|⟨hm,_⟩⟩:=hh tm ht E
     ·exact val (O kk) (M _)
     ·exact absurd hm mt
 |pin ho' _ hh nx=>
   rw[ho]at ho';cases ho';cases nx with
   |nil kk=>
     obtain⟨_,⟨_,M⟩|⟨hm,_⟩⟩:=hh tm ht E C
     ·exact val (O kk) M
     ·exact absurd hm mt
 |@Ny _ _ _ _ _ LR U g Q ho' _ hr hh nx=>
   rw[ho]at ho';cases ho';obtain⟨_,⟨_,he⟩|⟨hm,_⟩⟩:=hh tm ht E
   ·have a2:(L0.flatten++(LF++C)).Perm (U++(LF++(LR.flatten++C))):=by
     refine(List.Perm.append_right _ hr).trans ?_;rw[List.append_assoc];exact List.Perm.append_left U (List.perm_append_comm_assoc _ _ _)
    refine(he (LR.flatten++C) h (s.perm a2)).mono fun v h'⟨u,x,e,q,V⟩=>⟨(x::LR).flatten,?_,V.perm ?_⟩
    ·subst e;cases nx u x q with
     |nil kk=>exact O kk
    ·rw[List.flatten_cons,List.append_assoc];exact List.Perm.append_left x (List.perm_append_comm_assoc _ _ _)
   ·exact absurd hm mt
theorem xgr{F:Nat->Oper->Prop}:∀{l:List Oper}{b:Nat},(∀i o,l[i]?=some o->Bh o.op=true/\F (b+i) o)->Kb F b l
 |[],_,_=>trivial
 |o::l,b,h=>⟨h 0 o rfl,xgr fun i M H=>by have:=h (i+1) M (by simpa using H);rwa[Nat.add_assoc,Nat.add_comm 1 i]⟩
theorem yyz{Q:Nat->Value->Pcs->Prop}:∀{l:List Nat},(∀j∈l,∀v x,Q j v x->x=[])->Emp Q l
 |[],_=>trivial
 |j::l,h=>⟨h j s_,yyz fun i hi=>h i (by simp[hi])⟩
theorem xgc{piece:Nat->Pcs}:∀{l:List Nat},l.flatMap piece=(l.map piece).flatten
 |[]=>rfl
 |j::l=>by simp[List.flatMap]
theorem xpg{X:Cx}{k:List Item}{ops:List Oper}{l:Env}{p:Ab}{LL:List Pcs}{id:Nat}(M:Nat)(fin O effs:List Nat)(a2 anc:Nat->List Nat)(Q:Nat->(Nat->Value)->(Nat->Pcs)->Value->Pcs->Prop)
 (x:∀i,i<M->Rg X k ops M l p LL effs a2 anc Q i)(a5:∀val piece,∀j∈O,∀v x,Qr anc Q val piece j v x->x=[])(n:∀val piece,(∀j<M,Qr anc Q val piece j (val j) (piece j))->RO X k ops (ops.drop M) (Gf ops val M l) p (fin.map piece++LL))
 (a4:X.P.follows .mixedOrders=true:=by kernel_rfl)(ok:okD X.n ops=true:=by rfl)(a8:Bp ops M (clo ops)=true:=by kernel_rfl)(hm:Nat.ble M ops.length=true:=by kernel_rfl)(hk:Ky ops M [] a2 (fin++O)=true:=by kernel_rfl)(V:(O.all fun j=>decide (j<M))=true:=by kernel_rfl)(a3:K2 ops M (clo ops) anc=true:=by kernel_rfl)(b3:Pk ops M=true:=by kernel_rfl):
 RE X (.code (.region id ops.toArray true)::k) l p LL:=by
 constructor;intro tm ht E;have a6:=Nat.le_of_ble_eq_true hm;have H:∀{os:List Oper}(j:Nat),okD X.n os=true->okD X.n (os.drop j)=true:=fun{os}=>by
  induction os with
  |nil=>intro j h;cases j<;>exact h
  |cons o os ih=>
    intro j h;cases j with
    |zero=>exact h
    |succ j=>exact ih j (xjq h).1
 have a9:∀{os:List Oper},okD X.n os=true->(os.all fun o=>match o.dst with|some d=>decide (d<tm.length)|none=>true)=true:=fun{os}=>by
  induction os with
  |nil=>intro _;rfl
  |cons o os ih=>
    intro h;rw[List.all_cons,ih (xjq h).1,Bool.and_true];split
    ·rename_i d hd;exact decide_eq_true (ht ▸ (xjq h).2 d hd)
    ·rfl
 have:=xst (P:=X.P) (md:=X.md) (ops:=ops) (f:=X.f) (r:=X.r) (df:=X.df) (k:=k) (cs:=X.cs) (Stop:=X.Stop) (tm:=tm) (z9:=X.z9) (zz:=X.zz) (p:=p) (A:=LL.flatten) (C:=[]) (rid:=id) M (clo ops) [] fin O (fun _=>[]) a2 anc Q (fun val=>Fu ops val M tm) a4 a8 a6 hk V a3 (fun val piece=>yyz (a5 val piece)) (fun _=>rfl) (a9 ok)
  (xgr fun i o ho=>by
   rw[List.getElem?_take]at ho;split at ho
   ·rename_i hi;have hg:=List.all_eq_true.1 b3 o (List.mem_of_getElem? (by rw[List.getElem?_take,if_pos hi];exact ho));simp only[Bool.and_eq_true,Option.isNone_iff_eq_none]at hg;rw[Nat.zero_add];refine⟨hg.2,fun val piece hQ _=>.inl ⟨xrq hg.1,fun C h s=>?_⟩⟩;have D:=(x i hi val piece hQ).run;have a7:(ops[i]?).bind (·.dst)=o.dst:=by rw[ho];rfl
    rw[a7]at D;exact yld (R:=Qr anc Q val piece i) ho hg.1 D ((xfj ops val tm M).trans ht) (xim E ht ok M) C (by rw[<- xgc];exact s)
   ·cases ho)
  (fun val piece hQ _=>by
   have z:=(n val piece hQ).run (H M ok) _ ((xfj ops val tm M).trans ht) (xim E ht ok M);rw[List.flatten_append,<- xgc]at z;intro b0 e h s;exact z b0 e h (by simpa using s))
 intro h s;exact this h (by simpa using s)
def Nr(P:Program)(md:Md)(p:Ab)(fv:Value)(xs:List (List Value)):Prop:=∀(h z9:Heap)(zz:List Nat)(p':Ab)(V O:Pcs)(yv:Value)(I:Nat->Pcs->Prop),PLe p p'->I 0 V->
 (∀i,i<xs.length-> ∀(H:Ab)h X C,PLe p' H->I i X->St z9 zz H h (X++C)->Az P md yv (xs.getD i []) h fun v h'=>∃M,(v=.bool true/\I (i+1) M)/\St z9 zz H h' (M++C))->
 St z9 zz p' h (V++O)->Az P md fv [yv] h fun _ h'=>∃M,I xs.length M/\St z9 zz p' h' (M++O)
def Mj(P:Program)(md:Md)(p:Ab)(fv:Value)(xs:List (List Value)):Prop:=∀(h z9:Heap)(zz:List Nat)(p':Ab)(V O:Pcs)(yv:Value)(I:Nat->Pcs->Prop)(Ex:Pcs->Prop),PLe p p'->I 0 V->
 (∀i,i<xs.length-> ∀(M:Ab)h X C,PLe p' M->I i X->St z9 zz M h (X++C)->Az P md yv (xs.getD i []) h fun v h'=>∃H,((v=.bool true/\I (i+1) H)\/(v=.bool false/\Ex H))/\St z9 zz M h' (H++C))->
 St z9 zz p' h (V++O)->Az P md fv [yv] h fun _ h'=>∃H,(I xs.length H\/Ex H)/\St z9 zz p' h' (H++O)
theorem Mj.c{P:Program}{md:Md}{p:Ab}{fv:Value}{xs:List (List Value)}(x:Mj P md p fv xs):Nr P md p fv xs:=fun h z9 zz p' q7 zx yv I V h0 hy s=>
 (x h z9 zz p' q7 zx yv I (fun _=>False) V h0 (fun i hi O h X C V hI s=>(hy i hi O h X C V hI s).mono fun _ _⟨H,q,M⟩=>⟨H,.inl q,M⟩) s).mono fun _ _⟨H,q,M⟩=>⟨H,q.elim id fun z=>z.elim,M⟩
def Nw:List Tmp->List Value->Env->Env
 |q::qs,v::vs,l=>Nw qs vs ((q,none,v)::l)
 |_,_,l=>l
theorem xj0:∀{H:List Tmp}{vs:List Value}{tm:List Value}{l:Env},B1 tm l->(∀q∈H,q<tm.length)->B1 ((H.zip vs).foldl (fun tm q=>tm.set q.1 q.2) tm) (Nw H vs l)
 |[],vs,tm,l,E,_=>by simpa[Nw]using E
 |q::H,[],tm,l,E,_=>by simpa[Nw]using E
 |q::H,v::vs,tm,l,E,h=>by
   rw[List.zip_cons_cons,List.foldl_cons,Nw];exact xj0 (E.set (g:=none) (h q s_)) fun r M=>by rw[List.length_set];exact h r (by simp[M])
theorem xi0:∀{l:List (Nat×Value)}{tm:List Value},(l.foldl (fun tm q=>tm.set q.1 q.2) tm).length=tm.length
 |[],_=>rfl
 |q::l,tm=>by rw[List.foldl_cons,xi0,List.length_set]
section
variable{X:Cx}{k:List Item}{l:Env}{p:Ab}{LL LR L3:List Pcs}{P:Program}{md:Md}{f:FuncId}{n:Nat}{c:Frame}{cs:List Frame}{Stop:Goroutine->Heap->Prop}{z9:Heap}{zz:List Nat}{lo:Nat}{lp:Loop}
theorem xzp[i:Bx LL lo (.loop lp) LR](M:lp.state=.ready)(x:RE ⟨P,md,f,.some lo,n,[],cs,Stop,z9,zz⟩ k l p ([(lo,.loop {lp with state:=.busy})]::LR)):RE ⟨P,md,f,.some lo,n,[],cs,Stop,z9,zz⟩ (.beginRound::k) l p LL:=
 ⟨fun tm H E=>xuf (yab (i:=0) (L:=(lo,.loop lp)::LR.flatten) rfl M (by have:=x.run tm H E;simpa using this)) fun _ s=>s.bx i⟩
theorem ynq[i:Bx LL lo (.loop lp) LR](x:∀h,St z9 zz p h ((lo,.loop {lp with state:=.ready,pending:=none})::LR.flatten)->Reach P md (G (c.finish (.bool true)) cs) h Stop):RE ⟨P,md,f,.some lo,n,[],c::cs,Stop,z9,zz⟩ [] l p LL:=
 ⟨fun _ _ _=>xuf (ymh (i:=0) (L:=(lo,.loop lp)::LR.flatten) rfl rfl (by intro h s;exact x h (by simpa using s))) fun _ s=>s.bx i⟩
theorem ymg[i:Bx LL lo (.loop lp) LR](x:∀h,St z9 zz p h ((lo,.loop {lp with state:=.done,pending:=some .ret})::LR.flatten)->Reach P md (G (c.finish (.bool false)) cs) h Stop):RE ⟨P,md,f,.some lo,n,[],c::cs,Stop,z9,zz⟩ (.code .ret::k) l p LL:=
 ⟨fun _ _ _=>xuf (ykh (i:=0) (L:=(lo,.loop lp)::LR.flatten) rfl rfl (by intro h s;exact x h (by simpa using s))) fun _ s=>s.bx i⟩
theorem xt3{a4:Operand}{fv:Value}{H:List Tmp}{M V:Code}{xs:List (List Value)}(J:Nat->List Pcs->Prop)(hx:evS l a4=some ([],fv))(a8:Nr X.P X.md p fv xs)(start:J 0 LL)
 (round:∀(lo:Nat)(lp:Loop)(i:Nat)(LL':List Pcs)(p':Ab)(C:Pcs)(c:Frame)(cs:List Frame)(Stop:Goroutine->Heap->Prop),i<xs.length->PLe p p'->J i LL'->lp.state=.ready->
  (∀a2 O,J (i+1) O->RE ⟨X.P,X.md,X.f,.some lo,X.n,[],c::cs,Stop,X.z9,X.zz⟩ [] a2 p' ([(lo,.loop {lp with state:=.busy})]::C::O))->
  RE ⟨X.P,X.md,X.f,.some lo,X.n,[],c::cs,Stop,X.z9,X.zz⟩ [.code M,.beginRound,.code V] (Nw H (xs.getD i []) l) p' ([(lo,.loop lp)]::C::LL'))
 (nx:∀(r:Nat)(LL':List Pcs),J xs.length LL'->RE {X with df:=mark r::X.df} k l p ([(r,.deferred (some []))]::LL'))
 (hr:X.r.round=none:=by rfl)(hlen:∀i,i<xs.length->(xs.getD i []).length=H.length)(a9:(H.all fun q=>decide (q<X.n))=true:=by rfl):RE X (.code (.rangeFunc a4 H.toArray M V)::k) l p LL:=by
 constructor;intro tm ht E;have a6:∀q∈H,q<tm.length:=fun q hq=>by have:=List.all_eq_true.1 a9 q hq;rw[ht];simpa using this
 refine xb5 (R:=fun r lo lp _ h'=>lp=Fm X.f tm H.toArray M V r/\ ∃LL',J xs.length LL'/\St X.z9 X.zz p h' ((lo,.loop lp)::(r,.deferred (some []))::LL'.flatten)) (fun r lo lp h e s=>?_) (fun r lo lp v e=>?_) hr
 ·rw[xeq E hx trivial];refine(a8 h X.z9 X.zz p ((lo,.loop lp)::LL.flatten) [(r,.deferred (some []))] (.func (.yield lo) #[] #[]) (fun i Z=>∃LL',Z=(lo,.loop lp)::LL'.flatten/\J i LL') (.refl p) ⟨LL,rfl,start⟩ (fun i hi a5 h' Z C le⟨LL',e2,hJ⟩s'=>?_) (s.perm (by simpa using(List.perm_append_singleton (r,Obj.deferred (some [])) LL.flatten).symm))).mono fun v h'⟨Z,⟨LL',e2,hJ⟩,s'⟩=>⟨e,LL',hJ,?_⟩
  ·subst e2;refine xlm (tm':=(H.zip (xs.getD i [])).foldl (fun tm q=>tm.set q.1 q.2) tm) ((s'.own (lo,.loop lp) s_).1) e (hlen i hi) rfl (Φ:=fun h=>St X.z9 X.zz a5 h ([(lo,.loop lp)]::C::LL').flatten) (fun c cs Stop K=>?_) (s'.perm (by simpa using List.Perm.cons (lo,Obj.loop lp) (List.perm_append_comm (l₁:=LL'.flatten) (l₂:=C))));refine(round lo lp i LL' a5 C c cs Stop hi le hJ (by rw[e];rfl) fun a2 O a7=>?_).run _ (by rw[xi0];exact ht) (xj0 E a6);refine ynq (lp:={lp with state:=.busy}) fun h1 s1=>K _ _ ⟨_,⟨rfl,O,rfl,a7⟩,s1.perm ?_⟩;have e3:({ {lp with state:=.busy}with state:=.ready,pending:=none}:Loop)=lp:=by rw[e];rfl
   rw[e3];simpa using List.Perm.cons (lo,Obj.loop lp) (List.perm_append_comm (l₁:=C) (l₂:=O.flatten))
  ·subst e2;exact s'.perm s_
 ·intro h ⟨_,LL',hJ,s⟩;have a3:lp.state=.ready/\lp.pending=none:=by rw[e];exact⟨rfl,rfl⟩
  refine xyn (i:=0) (L:=(lo,.loop lp)::(r,.deferred (some []))::LL'.flatten) rfl (by rw[a3.1];exact fun z=>by cases z) a3.2 (xuf ((nx r LL' hJ).run tm ht E) fun h s=>?_) h s;have:=s.sub (List.sublist_cons_self _ _);simpa using this
theorem yov{c:Code}{m₀:Nat}{rs₀:List Nat}(V:X.df=Ek rs₀)(I:Nat->List Nat->Env->Ab->List Pcs->Prop){l':Env}(start:I m₀ rs₀ l' p LL)(s:Mz l l')
 (H:∀m rs l p LL,(∀{m'}rs' l' p' LL',m'<m->I m' rs' l' p' LL'->RE {X with df:=Ek rs' } (.inLoop c::k) l' p' LL')->I m rs l p LL->RE {X with df:=Ek rs} (.code c::.inLoop c::k) l p LL):RE X (.code (.loop c)::k) l p LL:=by
 constructor;intro tm ht E;rw[V];refine yww (m₀:=m₀) (fun m rs tm' h=>∃l p LL,(tm'.length=X.n/\B1 tm' l/\I m rs l p LL)/\St X.z9 X.zz p h LL.flatten) (fun h y=>⟨l',p,LL,⟨ht,s.ok E,start⟩,y⟩) ?_;intro m rs tm' ih;refine xn6 fun l1=>xn6 fun p1=>xn6 fun L1=>ync fun⟨h1,h2,h3⟩=>?_;exact(H m rs l1 p1 L1 (fun{m'}rs' l' p' LL' lt i=>⟨fun O M E2 h y=>ih m' rs' O lt h ⟨l',p',LL',⟨M,E2,i⟩,y⟩⟩) h3).run tm' h1 h2
theorem yog{r:Nat}{rs:List Nat}[i:Rm LL (Cv rs) LR](n:RE X k l p (Cv (r::rs)::LR)):RE X k l p ([(r,.deferred (some []))]::LL):=xik n fun _ s=>s.perm (by simpa[Cv]using i.h)
theorem xxp{rs:List Nat}{fn:Func}{H:List ResultVar}{vs:List Value}[i:Rm LL (Cv rs) LR](hf:P.funcs[f]?=some fn)(M:fn.results=H.toArray)(hv:Ef P l LR H vs)
 (x:∀h,St z9 zz p h LR.flatten->Reach P md (G (c.finish (Fq vs)) cs) h Stop):RE ⟨P,md,f,.none,n,Ek rs,c::cs,Stop,z9,zz⟩ (.code .ret::k) l p LL:=
 ⟨fun _ _ E=>xuf (yvw hf M (fun _ s=>yeq E s hv) rfl x) fun _ s=>s.rm i⟩
end
def N5(l:Env):List (Nat×Operand)->Option (List Prop×List (Nat×Value))
 |[]=>some ([],[])
 |(i,x)::xs=>match evS l x with
   |some (s,v)=>match N5 l xs with
     |some (ss,vs)=>some (s++ss,(i,v)::vs)
     |none=>none
   |none=>none
theorem xur{l:Env}{tm:List Value}(E:B1 tm l):∀{xs:List (Nat×Operand)}{ss:List Prop}{vs:List (Nat×Value)},N5 l xs=some (ss,vs)->Ax ss->(xs.map fun(i,x)=>(i,evl tm x))=vs
 |[],ss,vs,h,_=>by cases h;rfl
 |(i,x)::xs,ss,vs,h,hs=>by
   unfold N5 at h;split at h
   ·rename_i s v e1;split at h
    ·rename_i ss' H e2;cases h;have a:=xfb hs;rw[List.map_cons,xur E e2 a.2];simp only[xeq E e1 a.1]
    ·cases h
   ·cases h
section
variable{X:Cx}{k:List Item}{ops rest:List Oper}{m:Ks}{l:Env}{p:Ab}{LF LL LR L3:List Pcs}{effs todo:List Nat}{d:Option Tmp}{ty:TypeId}{pos:String}{aft:Array Edge}{gd:Option (Nat×Bool)}{g:Option Bool}{ss ss':List Prop}{x:Operand}{i:Nat}{t:TypeId}{Y Z:Pcs}
theorem yin{parts:List (Nat×Operand)}{z:Value}{pl:List (Nat×Nat)}{cells:List Value}{vs:List (Nat×Value)}(M:gdc ops l gd=some g)(H:N5 l parts=some (ss,vs))(hs:Av g (Ax ss))[hz:A5 X.P t z][hp:PlC X.P t pl](n:RO X k ops rest (ent d g (.agg cells.toArray) l) p LL)
 (hf:Fe pl z.cells.toList vs=some cells:=by rfl):RO X k ops (⟨d,.build t parts.toArray,ty,pos,aft,gd⟩::rest) l p LL:=xjx M rfl (xuq hs fun hs _ _ E _=>xjf hz.h hp.h (xur E H hs) (xhc hf)) n
theorem ylr{parts:List (Nat×Operand)}{z:Value}{pl:List (Nat×Nat)}{cells:List Value}{vs:List (Nat×Value)}(O:ops[i]?=some ⟨d,.build t parts.toArray,ty,pos,aft,gd⟩)(M:gdc ops l gd=some g)(H:N5 l parts=some (ss,vs))(hs:Av g (Ax ss))[hz:A5 X.P t z][hp:PlC X.P t pl](n:DE X k ops m p LF effs todo (ent d g (.agg cells.toArray) l) LL)
 (hf:Fe pl z.cells.toList vs=some cells:=by rfl):DE X k ops m p LF effs (i::todo) l LL:=xuz O M rfl (xuq hs fun hs _ _ _ E _=>xjf hz.h hp.h (xur E H hs) (xhc hf)) n
theorem xcc(Y Z:Pcs)[ii:Rm LL (Y++Z) LR](n:RO X k ops rest l p (Y::Z::LR)):RO X k ops rest l p LL:=xup n fun _ s=>by have:=s.rm ii;simpa using this
theorem xpz(Y Z:Pcs)[ii:Rm LL (Y++Z) LR](n:RE X k l p (Y::Z::LR)):RE X k l p LL:=xik n fun _ s=>by have:=s.rm ii;simpa using this
end
theorem sdu{p:Prop}(h:p:=by
 first
  |exact sdt
  |exact fun h=>⟨h,trivial⟩
  |exact fun h=>⟨h,h,trivial⟩
  |exact fun h=>⟨h,h,h,trivial⟩
  |exact fun h=>⟨h,h,h,h,trivial⟩
  |exact fun h=>⟨h,h,h,h,h,trivial⟩
  |exact fun h=>⟨h,h,h,h,h,h,trivial⟩
  |exact fun h=>by simp_all[Ax]):p:=h
section
variable{X:Cx}{k:List Item}{ops rest:List Oper}{m:Ks}{l:Env}{p:Ab}{LF LL LR L3:List Pcs}{effs todo:List Nat}{d:Option Tmp}{ty:TypeId}{pos:String}{aft:Array Edge}{gd:Option (Nat×Bool)}{g:Option Bool}{ss:List Prop}{x:Operand}{i:Nat}{t T:TypeId}{b off nn:Nat}{cs:Array Value}{z:Nat×Nat}
theorem yxm(H:gdc ops l gd=some g)(M:evS l x=some (ss,w_ b off))(hs:Av g (Ax ss))(O:p b=some (.cells cs T z))[ag:Bw X.P t true][sz:Ai X.P t nn](n:RO X k ops rest (ent d g (.agg ((cs.toList.drop off).take nn).toArray) l) p LL)
 (hn:((cs.toList.drop off).take nn).length=nn:=by rfl):RO X k ops (⟨d,.load t x,ty,pos,aft,gd⟩::rest) l p LL:=xad H M hs (xtx (xyz O)) n hn
theorem yfr(H:ops[i]?=some ⟨d,.load t x,ty,pos,aft,gd⟩)(M:gdc ops l gd=some g)(O:evS l x=some (ss,w_ b off))(hs:Av g (Ax ss))(V:p b=some (.cells cs T z))[ag:Bw X.P t true][sz:Ai X.P t nn](n:DE X k ops m p LF effs todo (ent d g (.agg ((cs.toList.drop off).take nn).toArray) l) LL)
 (hn:((cs.toList.drop off).take nn).length=nn:=by rfl):DE X k ops m p LF effs (i::todo) l LL:=xkw H M O hs (xtx (xyz V)) n hn
end
theorem ax{Q K:Prop}(k:K)(h:Hid K->Q:=by
 intro k
 repeat (first
  |refine xrv rfl rfl sdt ?_
  |refine xu9 ?_
  |refine ymq ?_
  |refine xwp ?_ rfl
  |refine xz0 rfl rfl sdt ?_
  |refine ydg rfl rfl sdt ?_
  |refine yeg rfl rfl sdt ?_
  |refine xhb rfl rfl sdt (xtx (xql ‹_› rfl)) ?_
  |refine xk9 rfl rfl sdt ?_
  |refine xo6 rfl rfl (by omega) (Sl.ne ‹_› (by omega)) ?_
  |refine xoz rfl (As.get ‹_› (by omega)) ?_
  |refine xd1 ?_
  |refine xyp ?_
  |refine xwf ?_
  |refine xg1 rfl ?_
  |refine xl9 rfl rfl sdt ?_
  |refine xad rfl rfl sdt (xtx (xyz ‹_›)) ?_
  |refine xnc rfl rfl ?_
  |refine ycg rfl rfl sdt ?_
  |refine xh9 rfl rfl rfl sdt sdt ?_
  |refine xi9 rfl rfl rfl sdt sdt ?_
  |refine yzf rfl rfl ?_
  |refine xy9 rfl ?_
  |refine yvm rfl rfl sdt ?_
  |refine xgl rfl rfl (by decide) (by omega) (Sl.ne ‹_› (by omega)) ?_
  |refine yuc rfl rfl rfl sdt sdt ?_
  |refine ytc rfl rfl rfl sdt sdt ?_
  |refine xj9 rfl rfl sdt ?_
  |refine yxm rfl rfl sdt ‹_› ?_
  |refine yin rfl rfl sdu ?_
  |refine xo9 rfl rfl rfl sdu sdu (xtx ⟨by omega,Sl.ne ‹_› (by omega)⟩) ?_
  |refine xhb rfl rfl sdt (xtx (As.get ‹_› (by omega))) ?_)
 exact k.out):Q:=h ⟨k⟩
theorem ex{Q K:Prop}(k:K)(h:Hid K->Q:=by
 intro k
 repeat (first
  |refine xmf rfl rfl rfl sdt ?_
  |refine yhj ?_
  |refine xnf rfl rfl rfl sdt ?_
  |refine ymj rfl rfl rfl sdt ?_
  |refine ytl rfl rfl rfl sdt ?_
  |refine ykj rfl rfl rfl sdt ?_
  |refine yrl rfl rfl rfl (by omega) (Sl.ne ‹_› (by omega)) ?_
  |refine xgj rfl rfl (As.get ‹_› (by omega)) ?_
  |refine xdp rfl rfl rfl sdt ?_
  |refine ysl rfl rfl rfl sdt ?_
  |refine xv5 rfl rfl ?_
  |refine yql rfl rfl rfl ?_
  |refine yij rfl rfl rfl rfl sdt sdt ?_
  |refine yol rfl rfl rfl sdt ?_
  |refine xrc rfl rfl rfl (by decide) (by omega) (Sl.ne ‹_› (by omega)) ?_
  |refine xak rfl rfl rfl sdt (xtx (xql ‹_› rfl)) ?_
  |refine xkw rfl rfl rfl sdt (xtx (xyz ‹_›)) ?_
  |refine yrd rfl rfl rfl rfl sdt sdt ?_
  |refine yjj rfl rfl rfl sdt ?_
  |refine yfr rfl rfl rfl sdt ‹_› ?_
  |refine ylr rfl rfl rfl sdu ?_
  |refine yqd rfl rfl rfl rfl sdu sdu (xtx ⟨by omega,Sl.ne ‹_› (by omega)⟩) ?_
  |refine xak rfl rfl rfl sdt (xtx (As.get ‹_› (by omega))) ?_
  |refine xch rfl rfl rfl ?_)
 exact k.out):Q:=h ⟨k⟩
section
variable{X:Cx}{k:List Item}{ops rest:List Oper}{m:Ks}{l:Env}{p:Ab}{LF LL LR L3:List Pcs}{effs todo:List Nat}{ty:TypeId}{pos:String}{aft:Array Edge}{x y:Operand}{i:Nat}
theorem ypl{dd:Nat}{V eT:TypeId}{n w by':Nat}{z:Value}{zc:List Value}(ho:ops[i]?=some ⟨some dd,.makeSlice V x y,ty,pos,aft,none⟩)(hx:evS l x=some ([],.J ((n:Nat):Int)))(hy:evS l y=some ([],.J ((n:Nat):Int)))(hn:n<=1000)[hT:Bv X.P V eT][hs:Ai X.P eT w][hz:A5 X.P eT z][hb:ByC X.P eT by']
 (nx:∀v Y,Ac eT w v (List.replicate n zc) Y->DE X k ops m p LF effs todo ((dd,none,v)::l) (Y::LL))(he:effs.contains i=true:=by rfl)(M:z.cells=zc.toArray:=by rfl)(H:zc.length=w:=by rfl)(hw:0<w/\w<=100:=by decide)(O:by'<=2^20:=by decide):DE X k ops m p LF effs (i::todo) l LL:=
 ⟨.eff (U:=[]) (LR:=LL) (Q:=fun v Y=>Ac eT w v (List.replicate n zc) Y) ho (by simpa using he) (List.Perm.refl _) (fun _ _ E=>⟨rfl,xrq rfl,fun C h s=>.inl (xix (xm5 (dd:=some dd) (ty:=ty) (pos:=pos) (aft:=aft) (gd:=none) hT.h hs.h hz.h M H hw.1 hw.2 hb.h (xeq E hx trivial) (xeq E hy trivial) hn O s) fun _ _⟨v,e,z⟩=>⟨v,.inl e,z⟩)⟩) fun v Y o=>(nx v Y o).run⟩
theorem xgb{l':Env}(n:RO X k ops rest l' p LL)(s:Mz l l'):RO X k ops rest l p LL:=⟨fun ok tm H E=>n.run ok tm H (s.ok E)⟩
theorem xpq{d:Tmp}{u v:Value}{l:Env}(h:(d,none,u)::l=ent (some d) none v l):v=u:=((yxz (g:=none) h).2).symm
theorem ygg{args:List Operand}{ats:Array TypeId}{ff:FuncId}{first cap vs:List Value}{d:Option Tmp}{Q:Value->Pcs->Prop}(V:evS l x=some ([],.func (.func ff) first.toArray cap.toArray))(H:C9 l args=some ([],vs))
 (hc:∀h,St X.z9 X.zz p h LL.flatten->Aa X.P X.md ff (first++(vs++cap)).toArray h fun v' h'=>∃Y,Q v' Y/\New h h' Y)(n:∀v Y,Q v Y->RO X k ops rest (ent d none v l) p (Y::LL))(hf:Am X.P ff=true:=by kernel_rfl):
 RO X k ops (⟨d,.call ⟨.value x,args.toArray,ats⟩,ty,pos,aft,none⟩::rest) l p LL:=⟨fun O tm M E=>
 xsv (R:=fun v h=>∃Y,Q v Y/\St X.z9 X.zz p h (Y++LL.flatten)) (xrq rfl) (xeq E V trivial) (by rw[xnx E H trivial]) hf (fun h s=>(hc h s).mono fun _ _⟨Y,q,nn⟩=>⟨Y,q,s.K3 nn⟩)
  fun v=>xgk fun Y=>xcz fun q=>(n v Y q).run (xjq O).1 _ (Aw.trans M) (E.ent (g:=none) M (xjq O).2)⟩
theorem yoj{args:List Operand}{ats:Array TypeId}{ff:FuncId}{first cap vs:List Value}{d:Option Tmp}{Q:Value->Pcs->Prop}(Y:Pcs)[ii:Rm LL Y LR](M:ops[i]?=some ⟨d,.call ⟨.value x,args.toArray,ats⟩,ty,pos,aft,none⟩)
 (O:evS l x=some ([],.func (.func ff) first.toArray cap.toArray))(H:C9 l args=some ([],vs))(hc:∀h L,St X.z9 X.zz p h (Y++L)->Aa X.P X.md ff (first++(vs++cap)).toArray h fun v' h'=>∃Z,Q v' Z/\New h h' Z)(n:∀v Z,Q v Z->DE X k ops m p LF effs todo (ent d none v l) (Z::LR))
 (he:effs.contains i=true:=by rfl)(hf:Am X.P ff=true:=by kernel_rfl):DE X k ops m p LF effs (i::todo) l LL:=
 ⟨.eff (U:=Y) (LR:=LR) (Q:=Q) M (by simpa using he) ii.h (fun _ _ E=>⟨rfl,xrq rfl,fun C h s=>.inr <| .inl ⟨ff,_,xww (xeq E O trivial) (by rw[xnx E H trivial]) hf,(hc h _ s).mono fun _ _⟨Z,q,nn⟩=>⟨Z,q,(s.K3 nn).sub (List.Sublist.append_left (List.sublist_append_right _ _) _)⟩⟩⟩) fun v Z q=>(n v Z q).run⟩
theorem xtv{H:Ab}(M:PLe H p)(n:RE X k l H LL):RE X k l p LL:=xik n fun _ s=>s.forget M
end
section
variable{X:Cx}{k:List Item}{ops rest:List Oper}{l:Env}{p:Ab}{LL:List Pcs}{ty:TypeId}{pos:String}{aft:Array Edge}{gd:Option (Nat×Bool)}{g:Option Bool}{d:Option Tmp}{ss ss':List Prop}{x y:Operand}{T T':TypeId}{a b s:Nat}{k1 k2:IntKind}
theorem xz9(O:gdc ops l gd=some g)(V:evS l x=some (ss,.int .u64 ((a:Nat):Int)))(M:evS l y=some (ss',.int .u64 ((b:Nat):Int)))(hs:Av g (Ax ss))(H:Av g (Ax ss'))(h:a<18446744073709551616/\b<18446744073709551616)(n:RO X k ops rest (ent d g (.int .u64 ((a &&& b:Nat):Int)) l) p LL):
 RO X k ops (⟨d,.binOp .and T x y T',ty,pos,aft,gd⟩::rest) l p LL:=xjx O rfl (xwz hs H fun hs H _ _ E _=>xl5 (xeq E V hs) (xeq E M H) h.1 h.2) n
theorem xmn(O:gdc ops l gd=some g)(V:evS l x=some (ss,.int k1 ((a:Nat):Int)))(M:evS l y=some (ss',.int k2 ((s:Nat):Int)))(hs:Av g (Ax ss))(H:Av g (Ax ss'))(h:s<=k1.bits)(n:RO X k ops rest (ent d g (.int k1 ((a / 2^s:Nat):Int)) l) p LL):
 RO X k ops (⟨d,.binOp .shr T x y T',ty,pos,aft,gd⟩::rest) l p LL:=xjx O rfl (xwz hs H fun hs H _ _ E _=>xf5 (xeq E V hs) (xeq E M H) h) n
theorem ypm(M:evS l x=some ([],.int .u64 1))(H:evS l y=some ([],.int k2 ((s:Nat):Int)))(h:s<=63)(n:RO X k ops rest (ent d none (.int .u64 ((2^s:Nat):Int)) l) p LL):
 RO X k ops (⟨d,.binOp .shl T x y T',ty,pos,aft,none⟩::rest) l p LL:=xjx (g:=none) rfl rfl (fun _ _ E _=>yeb (xeq E M trivial) (xeq E H trivial) h) n
theorem ywm(M:evS l x=some ([],.int .u64 ((a:Nat):Int)))(H:evS l y=some ([],.int .u64 ((b:Nat):Int)))(n:RO X k ops rest (ent d none (.int .u64 ((a*b%18446744073709551616:Nat):Int)) l) p LL):
 RO X k ops (⟨d,.binOp .mul T x y T',ty,pos,aft,none⟩::rest) l p LL:=xjx (g:=none) rfl rfl (fun _ _ E _=>ykb (xeq E M trivial) (xeq E H trivial)) n
theorem ysc(H:evS l x=some ([],.int .u64 ((a:Nat):Int)))(h:0<a/\a<18446744073709551616)(n:RO X k ops rest (ent d none (.int .u64 ((18446744073709551616-a:Nat):Int)) l) p LL):
 RO X k ops (⟨d,.unOp .neg T x,ty,pos,aft,none⟩::rest) l p LL:=xjx (g:=none) rfl rfl (fun _ _ E _=>yhb (xeq E H trivial) h.1 h.2) n
theorem xp9{t e:TypeId}{w len i:Nat}{c:Addr}(O:X.P.underlying t=some (.array len e))(M:evS l x=some ([],.pointer (some c)))(H:evS l y=some ([],.int k1 ((i:Nat):Int)))(h:i<len)[sz:Ai X.P e w](n:RO X k ops rest (ent d none (.pointer (some (c.add (i*w)))) l) p LL):
 RO X k ops (⟨d,.indexAddr t x y,ty,pos,aft,none⟩::rest) l p LL:=xjx (g:=none) rfl rfl (fun _ _ E _=>xvg O sz.h (xeq E M trivial) (xeq E H trivial) h) n
end
section
variable{X:Cx}{k:List Item}{ops rest:List Oper}{l:Env}{p:Ab}{LL LR:List Pcs}{ty:TypeId}{pos:String}{aft:Array Edge}{gd:Option (Nat×Bool)}{g:Option Bool}{d:Option Tmp}{dd:Nat}{ss ss':List Prop}{x y:Operand}{w:Nat}
theorem xob{op:Op}(v:Value)(V:gdc ops l gd=some (some false))(n:RO X k ops rest (ent d (some false) v l) p LL):RO X k ops (⟨d,op,ty,pos,aft,gd⟩::rest) l p LL:=by
 constructor;intro ok tm M E;have H:=xjq ok;rcases xzv (o:=⟨d,op,ty,pos,aft,gd⟩) E V with⟨e,_⟩|⟨c',e,O⟩
 ·cases e
 ·cases e;exact xqb O rfl (n.run H.1 _ (Aw.trans M) (E.ent (g:=some false) M H.2))
theorem xys{M eT:TypeId}{n:Nat}{parts:List (Nat×Operand)}{vs:List (Nat×Value)}{z:Value}{cells:Array Value}(hg:gdc ops l gd=some (some true))(O:N5 l parts=some (ss,vs))(H:Ax ss)[hT:Bv X.P M eT][hs:Ai X.P eT w][hz:A5 X.P eT z]
 (nx:∀v Y,Ac eT w v (chs w n cells.toList) Y->RO X k ops rest ((dd,none,v)::l) p (Y::LL))
 (hf:Instr.fill (fun i=>some (i*w,w)) ((List.range (n*w)).map (z.cells[· % z.cells.size]!)).toArray vs=some cells:=by rfl)(hc:cells=(chs w n cells.toList).flatten.toArray:=by rfl)(hw:((chs w n cells.toList).all fun e=>e.length==w)=true:=by rfl)
 (hn:(chs w n cells.toList).length=n:=by rfl)(V:n*w<=2^24:=by exact Nat.le_of_ble_eq_true rfl):RO X k ops (⟨some dd,.buildSlice M n parts.toArray,ty,pos,aft,gd⟩::rest) l p LL:=by
 constructor;intro ok tm ht E;rcases xzv (o:=⟨some dd,.buildSlice M n parts.toArray,ty,pos,aft,gd⟩) E hg with⟨e,_⟩|⟨c',e,hm⟩
 ·cases e
 ·cases e;exact xct (A:=[]) (C:=LL.flatten) hm hT.h hs.h hz.h V (xur E O H) hf hc hw hn fun v Y o=>(nx v Y o).run (xjq ok).1 _ (by simp[ht]) (E.set (g:=none) (ht ▸ xhw ok rfl))
theorem yfn{args:List Operand}{ats:Array TypeId}{ff:FuncId}{first cap vs:List Value}{v:Value}(hg:gdc ops l gd=some (some true))
 (hx:evS l x=some (ss',.func (.func ff) first.toArray cap.toArray))(M:Ax ss')(O:C9 l args=some (ss,vs))(hs:Ax ss)(hc:∀h,St X.z9 X.zz p h LL.flatten->Aa X.P X.md ff (first++(vs++cap)).toArray h fun v' h'=>v'=v/\Af h h')(n:RO X k ops rest (ent d none v l) p LL)(hf:Am X.P ff=true:=by kernel_rfl):
 RO X k ops (⟨d,.call ⟨.value x,args.toArray,ats⟩,ty,pos,aft,gd⟩::rest) l p LL:=by
 constructor;intro ok tm V E;have H:=xjq ok;rcases xzv (o:=⟨d,.call ⟨.value x,args.toArray,ats⟩,ty,pos,aft,gd⟩) E hg with⟨e,_⟩|⟨c',e,hm⟩
 ·cases e
 ·cases e;exact xr3 hm (xeq E hx M) (by rw[xnx E O hs]) hf hc rfl (n.run H.1 _ (Aw.trans V) (E.ent (g:=none) V H.2))
theorem xhl{T T' e:TypeId}{a:Option Addr}{n c:Nat}(H:gdc ops l gd=some g)(M:evS l x=some (ss,.slice a n c))(hs:Av g (Ax ss))[f:Bv X.P T e](O:RO X k ops rest (ent d g (.bool a.isNone) l) p LL):
 RO X k ops (⟨d,.binOp .eql T x (.const (.slice none 0 0)) T',ty,pos,aft,gd⟩::rest) l p LL:=
 xjx H rfl (xuq hs fun hs _ _ E _=>xvt f.h (xeq E M hs)) O
end
section
variable{X:Cx}{k:List Item}{l:Env}{p:Ab}{LL LR L3:List Pcs}
theorem yoq{a5:Operand}{fv:Value}{H:List Tmp}{O V:Code}{xs:List (List Value)}(J:Nat->List Pcs->Prop)(Jx:List Pcs->Prop)(hx:evS l a5=some ([],fv))(a8:Mj X.P X.md p fv xs)(start:J 0 LL)
 (round:∀(lo:Nat)(lp:Loop)(i:Nat)(LL':List Pcs)(p':Ab)(C:Pcs)(c:Frame)(cs:List Frame)(Stop:Goroutine->Heap->Prop),i<xs.length->PLe p p'->J i LL'->lp.state=.ready->
  (∀a2 M,J (i+1) M->RE ⟨X.P,X.md,X.f,.some lo,X.n,[],c::cs,Stop,X.z9,X.zz⟩ [] a2 p' ([(lo,.loop {lp with state:=.busy})]::C::M))->
  (∀k' a2 M,Jx M->RE ⟨X.P,X.md,X.f,.some lo,X.n,[],c::cs,Stop,X.z9,X.zz⟩ (.code .ret::k') a2 p' ([(lo,.loop {lp with state:=.busy})]::C::M))->
  RE ⟨X.P,X.md,X.f,.some lo,X.n,[],c::cs,Stop,X.z9,X.zz⟩ [.code O,.beginRound,.code V] (Nw H (xs.getD i []) l) p' ([(lo,.loop lp)]::C::LL'))
 (nx:∀(r:Nat)(LL':List Pcs),J xs.length LL'->RE {X with df:=mark r::X.df} k l p ([(r,.deferred (some []))]::LL'))
 (nr:∀(r:Nat)(LL':List Pcs),Jx LL'->RE {X with df:=mark r::X.df} (.code .ret::k) l p ([(r,.deferred (some []))]::LL'))
 (hr:X.r.round=none:=by rfl)(hlen:∀i,i<xs.length->(xs.getD i []).length=H.length)(a9:(H.all fun q=>decide (q<X.n))=true:=by rfl):RE X (.code (.rangeFunc a5 H.toArray O V)::k) l p LL:=by
 constructor;intro tm ht E;have a7:∀q∈H,q<tm.length:=fun q hq=>by have:=List.all_eq_true.1 a9 q hq;rw[ht];simpa using this
 refine xb5 (R:=fun r lo lp _ h'=>(lp=Fm X.f tm H.toArray O V r/\ ∃LL',J xs.length LL'/\St X.z9 X.zz p h' ((lo,.loop lp)::(r,.deferred (some []))::LL'.flatten))\/
  (lp=Fm X.f tm H.toArray O V r/\ ∃LL',Jx LL'/\St X.z9 X.zz p h' ((lo,.loop {lp with state:=.done,pending:=some .ret})::(r,.deferred (some []))::LL'.flatten))) (fun r lo lp h e s=>?_) (fun r lo lp v e=>?_) hr
 ·rw[xeq E hx trivial];refine(a8 h X.z9 X.zz p ((lo,.loop lp)::LL.flatten) [(r,.deferred (some []))] (.func (.yield lo) #[] #[]) (fun i Z=>∃LL',Z=(lo,.loop lp)::LL'.flatten/\J i LL') (fun Z=>∃LL',Z=(lo,.loop {lp with state:=.done,pending:=some .ret})::LL'.flatten/\Jx LL') (.refl p) ⟨LL,rfl,start⟩ (fun i hi a6 h' Z C le⟨LL',e2,hJ⟩s'=>?_) (s.perm (by simpa using(List.perm_append_singleton (r,Obj.deferred (some [])) LL.flatten).symm))).mono fun v h'⟨Z,q,s'⟩=>?_
  ·subst e2;refine xlm (tm':=(H.zip (xs.getD i [])).foldl (fun tm q=>tm.set q.1 q.2) tm) ((s'.own (lo,.loop lp) s_).1) e (hlen i hi) rfl (Φ:=fun h=>St X.z9 X.zz a6 h ([(lo,.loop lp)]::C::LL').flatten) (fun c cs Stop K=>?_) (s'.perm (by simpa using List.Perm.cons (lo,Obj.loop lp) (List.perm_append_comm (l₁:=LL'.flatten) (l₂:=C))));refine(round lo lp i LL' a6 C c cs Stop hi le hJ (by rw[e];rfl) (fun a2 M a3=>?_) (fun k' a2 M a3=>?_)).run _ (by rw[xi0];exact ht) (xj0 E a7)
   ·refine ynq (lp:={lp with state:=.busy}) fun h1 s1=>K _ _ ⟨_,.inl ⟨rfl,M,rfl,a3⟩,s1.perm ?_⟩;have e3:({ {lp with state:=.busy}with state:=.ready,pending:=none}:Loop)=lp:=by rw[e];rfl
    rw[e3];simpa using List.Perm.cons (lo,Obj.loop lp) (List.perm_append_comm (l₁:=C) (l₂:=M.flatten))
   ·refine ymg (lp:={lp with state:=.busy}) fun h1 s1=>K _ _ ⟨_,.inr ⟨rfl,M,rfl,a3⟩,s1.perm ?_⟩;simpa using List.Perm.cons (lo,Obj.loop {lp with state:=.done,pending:=some .ret}) (List.perm_append_comm (l₁:=C) (l₂:=M.flatten))
  ·rcases q with⟨LL',e2,hJ⟩|⟨LL',e2,hJ⟩
   ·subst e2;exact .inl ⟨e,LL',hJ,s'.perm s_⟩
   ·subst e2;exact .inr ⟨e,LL',hJ,s'.perm s_⟩
 ·intro h q;rcases q with⟨_,LL',hJ,s⟩|⟨_,LL',hJ,s⟩
  ·have a4:lp.state=.ready/\lp.pending=none:=by rw[e];exact⟨rfl,rfl⟩
   refine xyn (i:=0) (L:=(lo,.loop lp)::(r,.deferred (some []))::LL'.flatten) rfl (by rw[a4.1];exact fun z=>by cases z) a4.2 (xuf ((nx r LL' hJ).run tm ht E) fun h s=>?_) h s;have:=s.sub (List.sublist_cons_self _ _);simpa using this
  ·refine xi7 (lp:={lp with state:=.done,pending:=some .ret}) (i:=0) (L:=(lo,.loop {lp with state:=.done,pending:=some .ret})::(r,.deferred (some []))::LL'.flatten) rfl (fun z=>by cases z) rfl (xuf ((nr r LL' hJ).run tm ht E) fun h s=>?_) h s;have:=s.sub (List.sublist_cons_self _ _);simpa using this
end
theorem xhp{P:Program}{h:Heap}{H old:Nat}{e:TypeId}{K:Nat->Heap->Prop}(x:∀c,H<=c->K c h):wpS P (choose (.appendCap H old e)) h K:=by
 simp only[choose,wpS,Question.forced,Bool.false_eq_true,if_false,Question.cut];exact fun t=>x _ om
theorem xrj(l:List UInt8):(bcs l).flatten=l.map fun b=>Value.int .u8 ((b.toNat:Nat):Int):=by
 induction l with
 |nil=>rfl
 |cons a l ih=>simp only[bcs]at ih⊢;simp[ih]
section
variable{P:Program}{md:Md}{f:FuncId}{r:Rd}{df:List Deferred}{k:List Item}{cs:List Frame}{Stop:Goroutine->Heap->Prop}{ops rest:List Oper}{tm:List Value}
 {z9:Heap}{zz:List Nat}{p:Ab}{L:Pcs}{ty:TypeId}{pos:String}{aft:Array Edge}{gd:Option (Nat×Bool)}
theorem ydq{dd:Nat}{a2 V e:TypeId}{x:Operand}{l:List UInt8}(hm:Met ops tm ⟨some dd,.convert a2 V x,ty,pos,aft,gd⟩ true)(hs:P.underlying a2=some .string)(hd:P.underlying V=some (.slice e))(he:P.underlying e=some (.int .u8))(hx:evl tm x=sv l)(h0:0<l.length)
 (n:∀b cap H z,((bcs l).flatten++H).length=cap->RL P md f r df k cs Stop ops rest (tm.set dd (.slice (some ⟨b,0,none⟩) l.length cap)) (fun h=>St z9 zz p h ((b,.cells ((bcs l).flatten++H).toArray e z)::L))):
 RL P md f r df k cs Stop ops (⟨some dd,.convert a2 V x,ty,pos,aft,gd⟩::rest) tm (fun h=>St z9 zz p h L):=by
 refine xmj (K:=fun v h=>∃b cap H z,((bcs l).flatten++H).length=cap/\v=.slice (some ⟨b,0,none⟩) l.length cap/\St z9 zz p h ((b,.cells ((bcs l).flatten++H).toArray e z)::L)) hm rfl (fun h s=>?_)
  fun v=>xgk fun b=>xgk fun cap=>xgk fun H=>xgk fun z=>xcz fun h1=>xcz fun h2=>by subst h2;exact n b cap H z h1
 unfold Ex;simp only[execOp,hx,sv];refine xbq ?_;unfold convert;refine xbq (xfq hs ?_);refine xbq (xfq hd ?_);simp only;refine xbq (xfq he ?_);simp only[Conv.stringToBytes];refine xbq (xhp fun cap a3=>?_);rw[xcw]at a3;have ec:(bs l).data.map (fun b=>Value.int .u8 ((b.toNat:Nat):Int))++Array.replicate (cap-(bs l).size) (Value.int .u8 0)=((bcs l).flatten++List.replicate (cap-l.length) (Value.int .u8 0)).toArray:=by
  apply Array.ext';rw[xrj,xcw];simp[bs]
 rw[ec];have el:((bcs l).flatten++List.replicate (cap-l.length) (Value.int .u8 0)).length=cap:=by
  rw[xrj,List.length_append,List.length_map,List.length_replicate];omega
 generalize a4:(bcs l).flatten++List.replicate (cap-l.length) (Value.int .u8 0)=cs at el⊢;refine xbq (xqz ?_);have M:(h.push (.cells cs.toArray e))[h.size]?=some (.cells cs.toArray e (0,0)):=by simp
 have O:0<cs.toArray.size:=by simp only[List.size_toArray];omega
 refine xbq ?_;unfold markStringish;refine xbq ?_;simp only[shape,wpS,M];refine⟨O,?_⟩;simp only[freeze,wpS];refine⟨⟨_,_,_,M,O,?_⟩,?_⟩
 ·intro z;have:=(Prod.mk.inj z).2;omega
 refine⟨_,rfl,h.size,cap,List.replicate (cap-l.length) (Value.int .u8 0),(cap,cap+1),by rw[a4];exact el,by rw[xcw],?_⟩;rw[a4];have nw:New h (Bz (h.push (.cells cs.toArray e)) ⟨h.size,cs.toArray.size,none⟩ 1) [(h.size,.cells cs.toArray e (cap,cap+1))]:=by
  refine⟨⟨by simp[Bz],fun b hb=>?_⟩,fun x hx=>?_,s_⟩
  ·simp only[Bz];rw[if_neg d_,Array.getElem?_modify,if_neg om,Array.getElem?_push,if_neg om]
  ·rw[List.mem_singleton.1 hx];refine⟨?_,Nat.le_refl _⟩;simp only[Bz];rw[if_neg d_,Array.getElem?_modify,if_pos rfl,M];simp[el]
 exact s.K3 nw
end
section
variable{X:Cx}{k:List Item}{ops rest:List Oper}{m:Ks}{l:Env}{p:Ab}{LF LL LR L3:List Pcs}{effs todo:List Nat}{g:Option Bool}{d:Option Tmp}{dd:Nat}{ty:TypeId}{pos:String}{aft:Array Edge}{gd:Option (Nat×Bool)}{ss ss':List Prop}{x y:Operand}{i:Nat}{v:Value}{T T' t:TypeId}{a:List UInt8}
theorem yhn{O M e:TypeId}(hx:evS l x=some ([],sv a))(h0:0<a.length)(hs:X.P.underlying O=some .string)[hd:Bv X.P M e](he:X.P.underlying e=some (.int .u8))
 (n:∀p' c cap,PG X.z9.size X.zz p p'->Nq p' c a.length a->a.length<=cap->RO X k ops rest ((dd,none,.slice c a.length cap)::l) p' LL):RO X k ops (⟨some dd,.convert O M x,ty,pos,aft,none⟩::rest) l p LL:=⟨fun ok tm ht E=>
 ydq (xrq rfl) hs hd.h he (xeq E hx trivial) h0 fun b cap V z H=>fun a2 e1 h s=>by
  have hw:∀e∈bcs a,e.length=1:=fun e he=>by
   obtain⟨x,_,rfl⟩:=List.mem_map.1 he;rfl
  have a3:=xnq hw;refine(n _ (some ⟨b,0,none⟩) cap (s.pg s_) ⟨by simp[bcs],hw,fun _=>rfl,fun i e' hi j x hj=>?_⟩ (by rw[<- H,List.length_append,a3,xbk];omega)).run (xjq ok).1 _ (by simp[ht]) (E.set (g:=none) (ht ▸ xhw ok rfl)) a2 e1 h s.last.2;show At _ (((⟨b,0,none⟩:Addr).add (i*1)).add j)=_;rw[xsx,xsx];unfold At;simp only[xav,Option.isSome_none,Bool.false_eq_true,if_false,List.getElem?_toArray,Nat.zero_add];have:=xej hw hi hj;rw[List.getElem?_append_left (List.getElem?_eq_some_iff.1 this).1];exact this⟩
theorem xn7{P:Program}{h z9:Heap}{zz:List Nat}{L:Pcs}{tm:List Value}{M H e:TypeId}{q b off c:Nat}{cs:Array Value}{z:Nat×Nat}(s:St z9 zz p h L)(hL:L[q]?=some (b,.cells cs T z))(hs:P.underlying M=some (.slice e))(V:P.underlying H=some .string)(he:P.underlying e=some (.int .u8))(hx:evl tm x=.slice (some ⟨b,off,none⟩) a.length c)
 (hc:∀j v,(bcs a).flatten[j]?=some v->cs[off+j]?=some v):Exd P tm ⟨d,.convert M H x,ty,pos,aft,gd⟩ h (sv a):=by
 refine xtz (s:=convert M H (.slice (some ⟨b,off,none⟩) a.length c)) (by simp only[execOp,hx]) ?_;unfold convert;refine xbq (xfq hs ?_);refine xbq (xfq V ?_);simp only;refine xbq (xfq he ?_);simp only[Conv.bytesToString];refine xbq (xlz (vs:=(bcs a).flatten) (by rw[xrj];simp) (fun j u O=>?_) ?_)
 ·rw[xsx];exact s.Ff hL (hc j u O)
 ·rw[xrj];simp only[List.forIn_toArray];refine xbq ?_;exact xkg (fun n r K k=>xcq k) a [] _ (xcq ⟨rfl,rfl⟩)
theorem xw0{M H e:TypeId}{b off c:Nat}{cs:Array Value}{z:Nat×Nat}(V:evS l x=some ([],.slice (some ⟨b,off,none⟩) a.length c))(hc:∀j v,(bcs a).flatten[j]?=some v->cs[off+j]?=some v)[hs:Bv X.P M e][ii:Bx LL b (.cells cs T z) LR](n:RO X k ops rest (ent d none (sv a) l) p LL)
 (O:X.P.underlying H=some .string:=by kernel_rfl)(he:X.P.underlying e=some (.int .u8):=by kernel_rfl):RO X k ops (⟨d,.convert M H x,ty,pos,aft,none⟩::rest) l p LL:=
 xjx (g:=none) rfl rfl (fun _ _ E s=>xn7 (q:=0) (s.bx ii) rfl hs.h O he (xeq E V trivial) hc) n
theorem xng{k1:IntKind}{c:Int}{u:Nat}(b:Nat)(M:evS l x=some ([],.int k1 ((u:Nat):Int)))(H:evS l y=some ([],.int k1 c))(hc:c=((b:Nat):Int))(O:0<b)(hw:k1.wrap ((u / b:Nat):Int)=((u / b:Nat):Int))(n:RO X k ops rest (ent d none (.int k1 ((u / b:Nat):Int)) l) p LL):
 RO X k ops (⟨d,.binOp .quo T x y T',ty,pos,aft,none⟩::rest) l p LL:=by
 subst hc;refine xjx (g:=none) rfl rfl (fun _ _ E _=>yuh (xeq E M trivial) (xeq E H trivial) om ?_) n;rw[show((u:Nat):Int).tdiv ((b:Nat):Int)=((u / b:Nat):Int) from rfl];exact hw
theorem xmg{k1:IntKind}{c:Int}{u:Nat}(b:Nat)(M:evS l x=some ([],.int k1 ((u:Nat):Int)))(H:evS l y=some ([],.int k1 c))(hc:c=((b:Nat):Int))(O:0<b)(n:RO X k ops rest (ent d none (.int k1 ((u%b:Nat):Int)) l) p LL):
 RO X k ops (⟨d,.binOp .rem T x y T',ty,pos,aft,none⟩::rest) l p LL:=by
 subst hc;exact xjx (g:=none) rfl rfl (fun _ _ E _=>yth (xeq E M trivial) (xeq E H trivial) om rfl) n
theorem xil{M H:TypeId}{k1 k':IntKind}{z:Int}(w:Int)(V:evS l x=some ([],.int k1 z))(hn:k'.wrap z=w)(n:RO X k ops rest (ent d none (.int k' w) l) p LL)(O:X.P.underlying H=some (.int k'):=by kernel_rfl)(hs:∃t,X.P.underlying M=some t:=by exact⟨_,by kernel_rfl⟩):
 RO X k ops (⟨d,.convert M H x,ty,pos,aft,none⟩::rest) l p LL:=xjx (g:=none) rfl rfl (fun _ _ E _=>xj5 hs O (xeq E V trivial) hn) n
theorem yqz{P : Program}{h : Heap}{tm : List Value}{gf : FuncId}{fn : Func}{e : Array Value -> Sem Value}{args : List Operand}{ats : Array TypeId}{vs : List Value}(hf : P.funcs[gf]? = some fn)(hname : (fn.name == "runtime.NumGoroutine") = false)(hb : fn.body.isNone = true)(hn : Extern.findNext fn = none)(he : Extern.find fn = some e)
 (hx:evl tm x=.func (.func gf) #[] #[])(hvs:args.map (evl tm)=vs)(hv:wpS P (e vs.toArray) h fun v' h'=>v'=v/\h'=h):Exd P tm ⟨d,.call ⟨.value x,args.toArray,ats⟩,ty,pos,aft,gd⟩ h v:=by
 unfold Exd Ex;simp only[execOp];refine xbq ?_;unfold resolve;simp only[hx,Deferred.ofValue];refine xcq ?_;simp only[invoke];unfold callFunc;refine xbq ?_;show wpS P program h _;simp only[program,wpS];rw[hf];simp only[hname,hb,Bool.false_eq_true,if_false,if_true];refine xbq ?_;refine⟨rfl,?_⟩;simp only[wpS,hn,he];refine xbq (xix (K:=fun v' h'=>v'=v/\h'=h) ?_ fun v' h'⟨e1,e2⟩=>xcq ⟨v',rfl,e1,e2⟩);have ea:((#[]:Array Value)++args.toArray.map (evl tm)++#[])=vs.toArray:=by rw[<- hvs];simp
 rw[ea];exact hv
theorem xr9{gf:FuncId}{fn:Func}{e:Array Value->Sem Value}{args:List Operand}{ats:Array TypeId}{vs:List Value}(hf:X.P.funcs[gf]?=some fn)(he:Extern.find fn=some e)(hx:evS l x=some ([],.func (.func gf) #[] #[]))(hvs:C9 l args=some ([],vs))(hv:∀h,wpS X.P (e vs.toArray) h fun v' h'=>v'=v/\h'=h)(n:RO X k ops rest (ent d none v l) p LL)
 (hname : (fn.name == "runtime.NumGoroutine") = false := by kernel_rfl)(hb : fn.body.isNone = true := by kernel_rfl)(hn : Extern.findNext fn = none := by kernel_rfl): RO X k ops (⟨d, .call ⟨.value x, args.toArray, ats⟩, ty, pos, aft, none⟩ :: rest) l p LL :=
 xjx (g:=none) rfl rfl (fun _ h' E _=>yqz hf hname hb hn he (xeq E hx trivial) (xnx E hvs trivial) (hv h')) n
def Mq:TypeDesc->Bool
 |.interface _=>true
 |_=>false
theorem yup{P:Program}{h:Heap}{tm:List Value}{D:TypeDesc}(H:P.underlying T=some D)(M:Mq D=false)(O:evl tm x=v):Exd P tm ⟨d,.makeInterface T x,ty,pos,aft,gd⟩ h (.iface T v):=by
 refine xtz (s:=Instr.makeInterface T v) (by simp only[execOp,O]) ?_;unfold Instr.makeInterface;refine xbq (xfq H ?_);split
 ·cases M
 ·exact xcq ⟨rfl,rfl⟩
theorem xib{D:TypeDesc}(H:gdc ops l gd=some g)(M:evS l x=some (ss,v))(hs:Av g (Ax ss))(V:X.P.underlying T=some D)(n:RO X k ops rest (ent d g (.iface T v) l) p LL)(O:Mq D=false:=by rfl):RO X k ops (⟨d,.makeInterface T x,ty,pos,aft,gd⟩::rest) l p LL:=
 xjx H rfl (xuq hs fun hs _ _ E _=>yup V O (xeq E M hs)) n
end
section
variable{P:Program}{h z9:Heap}{zz:List Nat}{p:Ab}{L:Pcs}{tm:List Value}{d:Option Tmp}{ty:TypeId}{pos:String}{aft:Array Edge}{gd:Option (Nat×Bool)}{x y:Operand}{T T':TypeId}
def E6:Value->Bool
 |.nilIface=>true
 |_=>false
theorem yrb{M:Array (String×TypeId)}{v:Value}(O:P.underlying T=some (.interface M))(H:evl tm x=v)(hv:v=.nilIface\/ ∃t u,v=.iface t u):Exd P tm ⟨d,.binOp .eql T x (.const .nilIface) T',ty,pos,aft,gd⟩ h (.bool (E6 v)):=by
 refine xxx H rfl (fun K z=>?_) ?_
 ·unfold eqGuard;rw[if_neg d_];rcases hv with rfl|⟨t,u,rfl⟩
  ·simp only[evl,Bool.or_true,if_true];exact xcq z
  ·exact xcq z
 ·simp only[evl];have e:binOp .eql T v .nilIface=(do pure (.bool (<- Op.equal T v .nilIface))):=by rcases hv with rfl|⟨t,u,rfl⟩<;>rfl
  rw[e];simp only[Op.equal,Op.maxDepth];refine xbq ?_;rw[show(10000:Nat)=9999+1 from rfl];unfold Op.equalIn;refine xbq (xfq O ?_);rcases hv with rfl|⟨t,u,rfl⟩<;>exact xcq (xcq ⟨rfl,rfl⟩)
theorem yjb{M:Array (String×TypeId)}{v:Value}(O:P.underlying T=some (.interface M))(H:evl tm x=v)(hv:v=.nilIface\/ ∃t u,v=.iface t u):Exd P tm ⟨d,.binOp .neq T x (.const .nilIface) T',ty,pos,aft,gd⟩ h (.bool (!E6 v)):=by
 refine xxx H rfl (fun K z=>?_) ?_
 ·unfold eqGuard;rw[if_neg d_];rcases hv with rfl|⟨t,u,rfl⟩
  ·simp only[evl,Bool.or_true,if_true];exact xcq z
  ·exact xcq z
 ·simp only[evl];have e:binOp .neq T v .nilIface=(do pure (.bool (!(<- Op.equal T v .nilIface)))):=by rcases hv with rfl|⟨t,u,rfl⟩<;>rfl
  rw[e];simp only[Op.equal,Op.maxDepth];refine xbq ?_;rw[show(10000:Nat)=9999+1 from rfl];unfold Op.equalIn;refine xbq (xfq O ?_);rcases hv with rfl|⟨t,u,rfl⟩<;>exact xcq (xcq ⟨rfl,rfl⟩)
theorem xzm{M:Array (String×TypeId)}{H:TypeId}{k:IntKind}{a b:Int}(O:P.underlying T=some (.interface M))(hi:(P.info? H).map TypeInfo.comparable=some true)(he:P.underlying H=some (.int k)):
 wpS P (Op.equal T (.iface H (.int k a)) (.iface H (.int k b))) h fun v h'=>v=decide (a=b)/\h'=h:=by
 obtain⟨V,hi,hc⟩:=Option.map_eq_some_iff.1 hi;simp only[Op.equal,Op.maxDepth];rw[show(10000:Nat)=9998+1+1 from rfl];unfold Op.equalIn;refine xbq (xfq O ?_);simp only[ne_eq,not_true_eq_false,if_false];refine xbq (xqx hi ?_);simp only[hc,Bool.not_true,Bool.false_eq_true,if_false];unfold Op.equalIn;refine xbq (xfq he ?_);simp only[if_true];exact xcq ⟨Pd a b,rfl⟩
theorem yqb{V:Array (String×TypeId)}{H:TypeId}{k:IntKind}{a b:Int}(hT:P.underlying T=some (.interface V))(hi:(P.info? H).map TypeInfo.comparable=some true)(he:P.underlying H=some (.int k))(O:evl tm x=.iface H (.int k a))(M:evl tm y=.iface H (.int k b)):
 Exd P tm ⟨d,.binOp .eql T x y T',ty,pos,aft,gd⟩ h (.bool (decide (a=b))):=by
 refine xxx O M (fun K z=>?_) ?_
 ·unfold eqGuard;rw[if_neg d_];exact xcq z
 ·show wpS P (do pure (Value.bool (<- Op.equal T (.iface H (.int k a)) (.iface H (.int k b))))) h _;exact xbq (xix (xzm hT hi he) fun v h'⟨e1,e2⟩=>xcq ⟨by rw[e1],e2⟩)
theorem yib{V:Array (String×TypeId)}{H:TypeId}{k:IntKind}{a b:Int}(hT:P.underlying T=some (.interface V))(hi:(P.info? H).map TypeInfo.comparable=some true)(he:P.underlying H=some (.int k))(O:evl tm x=.iface H (.int k a))(M:evl tm y=.iface H (.int k b)):
 Exd P tm ⟨d,.binOp .neq T x y T',ty,pos,aft,gd⟩ h (.bool (!decide (a=b))):=by
 refine xxx O M (fun K z=>?_) ?_
 ·unfold eqGuard;rw[if_neg d_];exact xcq z
 ·show wpS P (do pure (Value.bool (!(<- Op.equal T (.iface H (.int k a)) (.iface H (.int k b)))))) h _;exact xbq (xix (xzm hT hi he) fun v h'⟨e1,e2⟩=>xcq ⟨by rw[e1],e2⟩)
def Gr:Value->Bool
 |.nilFunc=>true
 |_=>false
theorem yfl{F1 F2 F3}{v:Value}(M:P.underlying T=some (.func F1 F2 F3))(H:evl tm x=v)(hv:v=.nilFunc\/ ∃f a b,v=.func f a b):Exd P tm ⟨d,.binOp .eql T x (.const .nilFunc) T',ty,pos,aft,gd⟩ h (.bool (Gr v)):=by
 refine xxx H rfl (fun K z=>?_) ?_
 ·unfold eqGuard;rw[if_neg d_];rcases hv with rfl|⟨f,a,b,rfl⟩<;>exact xcq z
 ·simp only[evl];have e:binOp .eql T v .nilFunc=(do pure (.bool (<- Op.equal T v .nilFunc))):=by rcases hv with rfl|⟨f,a,b,rfl⟩<;>rfl
  rw[e];simp only[Op.equal,Op.maxDepth];refine xbq ?_;rw[show(10000:Nat)=9999+1 from rfl];unfold Op.equalIn;refine xbq (xfq M ?_);rcases hv with rfl|⟨f,a,b,rfl⟩<;>exact xcq (xcq ⟨rfl,rfl⟩)
theorem yyh{F1 F2 F3}{v:Value}(M:P.underlying T=some (.func F1 F2 F3))(H:evl tm x=v)(hv:v=.nilFunc\/ ∃f a b,v=.func f a b):Exd P tm ⟨d,.binOp .neq T x (.const .nilFunc) T',ty,pos,aft,gd⟩ h (.bool (!Gr v)):=by
 refine xxx H rfl (fun K z=>?_) ?_
 ·unfold eqGuard;rw[if_neg d_];rcases hv with rfl|⟨f,a,b,rfl⟩<;>exact xcq z
 ·simp only[evl];have e:binOp .neq T v .nilFunc=(do pure (.bool (!(<- Op.equal T v .nilFunc)))):=by rcases hv with rfl|⟨f,a,b,rfl⟩<;>rfl
  rw[e];simp only[Op.equal,Op.maxDepth];refine xbq ?_;rw[show(10000:Nat)=9999+1 from rfl];unfold Op.equalIn;refine xbq (xfq M ?_);rcases hv with rfl|⟨f,a,b,rfl⟩<;>exact xcq (xcq ⟨rfl,rfl⟩)
theorem yfb{a b:Nat}(V:evl tm x=.int .u8 ((a:Nat):Int))(O:evl tm y=.int .u8 ((b:Nat):Int))(H:a<256)(M:b<256):Exd P tm ⟨d,.binOp .or T x y T',ty,pos,aft,gd⟩ h (.int .u8 ((a ||| b:Nat):Int)):=
 xxx V O (fun K z=>xhx rfl z) (by
  simp only[binOp,ne_eq,not_true_eq_false,if_false,Op.intBits];refine xcq ⟨?_,rfl⟩;have e:((BitVec.ofInt IntKind.u8.bits ((a:Nat):Int)) ||| (BitVec.ofInt IntKind.u8.bits ((b:Nat):Int))).toNat=a ||| b:=by
   rw[BitVec.toNat_or,BitVec.ofInt_natCast,BitVec.ofInt_natCast,BitVec.toNat_ofNat,BitVec.toNat_ofNat,Nat.mod_eq_of_lt (show a<2^IntKind.u8.bits from H),Nat.mod_eq_of_lt (show b<2^IntKind.u8.bits from M)]
  have lt:a ||| b<2^8:=Nat.or_lt_two_pow H M;rw[e,wr8 ⟨om,om⟩])
theorem ydb{k k':IntKind}{a w:Int}{s:Nat}(M:evl tm x=.int k a)(H:evl tm y=.int k' ((s:Nat):Int))(hn:k.wrap (a*2^min s k.bits)=w):Exd P tm ⟨d,.binOp .shl T x y T',ty,pos,aft,gd⟩ h (.int k w):=
 xxx M H (fun K z=>xhx rfl z) (by
  simp only[binOp,Op.shift];rw[if_neg om];exact xcq ⟨by rw[Int.toNat_natCast,hn],rfl⟩)
theorem St.frz{i b n:Nat}{c:Array Value}{e:TypeId}(s:St z9 zz p h L)(H:L[i]?=some (b,.cells c e (0,0)))(hn:0<n):St z9 zz p (Bz h ⟨b,0,none⟩ n) (L.set i (b,.cells c e (0,n))):=by
 have M:=s.at H;refine s.Nz H ?_ ?_ fun c hc=>?_
 ·unfold Bz;rw[if_neg om,Array.getElem?_modify,if_pos rfl,M];simp
 ·unfold Bz;rw[if_neg om];simp
 ·unfold Bz;rw[if_neg om,Array.getElem?_modify,if_neg (Ne.symm hc)]
theorem xfd:∀(l:List UInt8)(a:Addr)(acc:List UInt8){K:ByteArray->Heap->Prop},(∀j v,(bcs l).flatten[j]?=some v->cell? h (a.add j)=some v)->K (bs (acc++l)) h->wpS P (loadBytes a (bs acc) l.length) h K
 |[],a,acc,K,_,k=>by rw[List.append_nil]at k;exact xcq k
 |b::l,a,acc,K,hc,k=>by
   have H:=hc 0 (.int .u8 ((b.toNat:Nat):Int)) rfl;have O:a.add 0=a:=by unfold Addr.add;cases a with|mk bl o sp=>cases sp<;>rfl
   rw[O]at H;rw[List.length_cons];unfold loadBytes;refine xbq ⟨rfl,_,H,?_⟩;have e:(bs acc).push (((b.toNat:Nat):Int)).toNat.toUInt8=bs (acc++[b]):=by
    apply ByteArray.ext;simp[bs]
   simp only[wpS,e];refine xfd l (a.add 1) (acc++[b]) (fun j v M=>?_) (by rw[List.append_assoc];exact k);have e1:(a.add 1).add j=a.add (j+1):=by
    cases a with|mk bl o sp=>cases sp<;>simp[Addr.add,Nat.add_comm,Nat.add_left_comm]
   rw[e1];exact hc (j+1) v M
theorem ysp{b i:Nat}{cs:Array Value}{e pt t2:TypeId}{l:List UInt8}{K:Value->Heap->Prop}(s:St z9 zz p h L)(hL:L[i]?=some (b,.cells cs e (0,0)))(hp:P.underlying pt=some (.pointer e))(hc1:P.cellsOf e=1)(h0:0<l.length)(hl:l.length<=1000000)
 (hx:evl tm x=w_ b 0)(hy:evl tm y=.J ((l.length:Nat):Int))(hcs:∀(j:Nat)(v:Value),(bcs l).flatten[j]?=some v->cs[j]?=some v)(n:∀h',St z9 zz p h' (L.set i (b,.cells cs e (0,l.length)))->K (sv l) h'):
 Ex P tm ⟨d,.call ⟨.builtin .unsafeString,#[x,y],#[pt,t2]⟩,ty,pos,aft,gd⟩ h K:=by
 have hlen:(bcs l).flatten.length=l.length:=by rw[xrj];simp
 have hsz:l.length<=cs.size:=by
  have:=hcs (l.length-1) ((bcs l).flatten[l.length-1]'om) (List.getElem?_eq_getElem om);have:=(Array.getElem?_eq_some_iff.1 this).1;omega
 have hb:=s.at hL;unfold Ex;simp only[execOp,resolve];refine xbq (xcq ?_);simp only[invoke,builtin];refine xbq ?_;have ea:(#[x,y]:Array Operand).map (evl tm)=#[w_ b 0,.J ((l.length:Nat):Int)]:=by simp[hx,hy]
 rw[ea];show wpS P (do
  let n <- asInt (.J ((l.length:Nat):Int))
  let some pt := (#[pt, t2] : Array TypeId)[0]? | stuck "unsafe.String: no argument types"
  if n < 0 then runtimePanic (.error "unsafe.String: len out of range")
  if n > IntKind.i64.max then unsupported (.unsafePointer "String: a length above the largest int")
  if n=0 then pure (Value.string .empty)
  else if <- variablesAt ⟨b,0,none⟩ (<- elemOf pt) n.toNat then do
   let s <- loadBytes ⟨b,0,none⟩ .empty n.toNat
   freeze ⟨b,0,none⟩ n.toNat
   pure (Value.string s)
  else unsupported (.unsafePointer "String: not so many bytes at ptr")) h _
 refine xbq (xcq ?_);simp only[List.getElem?_toArray,List.getElem?_cons_zero];rw[if_neg (show ¬ ((l.length:Nat):Int)<0 by omega)];rw[if_neg (show ¬ ((l.length:Nat):Int)>IntKind.i64.max by show ¬ ((l.length:Nat):Int)>9223372036854775807;omega)];rw[if_neg (show ¬ ((l.length:Nat):Int)=0 by omega),Int.toNat_natCast];refine xbq ?_;unfold elemOf;refine xbq (xfq hp (xcq ?_));unfold variablesAt;refine xbq ?_;refine xbq ?_;show wpS P program h _;simp only[program,wpS];refine xbq ?_;simp only[shape,wpS,hb];refine⟨om,?_⟩;rw[Lib.liesAt_bytes hc1 _ _ (by rw[hc1,Nat.div_one];exact hsz)];refine xcq ?_;simp only[if_true];refine xbq ?_;have eb:ByteArray.empty=bs []:=rfl;rw[eb];refine xfd l _ [] (fun j v hj=>?_) ?_
 ·rw[xsx,Nat.zero_add];exact s.Ff hL (hcs j v hj)
 refine xbq ?_;simp only[freeze,wpS];refine⟨⟨_,_,_,hb,om,fun z=>?_⟩,?_⟩
 ·have:=(Prod.mk.inj z).2;omega
 exact⟨_,rfl,n _ (s.frz hL h0)⟩
end
section
variable{X:Cx}{k:List Item}{ops rest:List Oper}{l:Env}{p:Ab}{LL LR:List Pcs}{g:Option Bool}{d:Option Tmp}{dd:Nat}{ty:TypeId}{pos:String}{aft:Array Edge}{gd:Option (Nat×Bool)}{ss ss':List Prop}{x y:Operand}{v:Value}{T T' t:TypeId}{a:List UInt8}{Y:Pcs}
theorem yfg{O:Array (String×TypeId)}(H:gdc ops l gd=some g)(M:evS l x=some (ss,v))(hs:Av g (Ax ss))(hv:v=.nilIface\/ ∃t u,v=.iface t u)(V:X.P.underlying T=some (.interface O))(n:RO X k ops rest (ent d g (.bool (E6 v)) l) p LL):RO X k ops (⟨d,.binOp .eql T x (.const .nilIface) T',ty,pos,aft,gd⟩::rest) l p LL:=
 xjx H rfl (xuq hs fun hs _ _ E _=>yrb V (xeq E M hs) hv) n
theorem xy0{O:Array (String×TypeId)}(H:gdc ops l gd=some g)(M:evS l x=some (ss,v))(hs:Av g (Ax ss))(hv:v=.nilIface\/ ∃t u,v=.iface t u)(V:X.P.underlying T=some (.interface O))(n:RO X k ops rest (ent d g (.bool (!E6 v)) l) p LL):RO X k ops (⟨d,.binOp .neq T x (.const .nilIface) T',ty,pos,aft,gd⟩::rest) l p LL:=
 xjx H rfl (xuq hs fun hs _ _ E _=>yjb V (xeq E M hs) hv) n
theorem xt9{ms:Array (String×TypeId)}{M:TypeId}{k1:IntKind}{b c:Int}(V:gdc ops l gd=some g)(hx:evS l x=some (ss,.iface M (.int k1 b)))(O:evS l y=some (ss',.iface M (.int k1 c)))(hs:Av g (Ax ss))(H:Av g (Ax ss'))(hT:X.P.underlying T=some (.interface ms))(hi:(X.P.info? M).map TypeInfo.comparable=some true)(he:X.P.underlying M=some (.int k1))
 (n:RO X k ops rest (ent d g (.bool (decide (b=c))) l) p LL):RO X k ops (⟨d,.binOp .eql T x y T',ty,pos,aft,gd⟩::rest) l p LL:=xjx V rfl (xwz hs H fun hs H _ _ E _=>yqb hT hi he (xeq E hx hs) (xeq E O H)) n
theorem yxf{ms:Array (String×TypeId)}{M:TypeId}{k1:IntKind}{b c:Int}(V:gdc ops l gd=some g)(hx:evS l x=some (ss,.iface M (.int k1 b)))(O:evS l y=some (ss',.iface M (.int k1 c)))(hs:Av g (Ax ss))(H:Av g (Ax ss'))(hT:X.P.underlying T=some (.interface ms))(hi:(X.P.info? M).map TypeInfo.comparable=some true)(he:X.P.underlying M=some (.int k1))
 (n:RO X k ops rest (ent d g (.bool (!decide (b=c))) l) p LL):RO X k ops (⟨d,.binOp .neq T x y T',ty,pos,aft,gd⟩::rest) l p LL:=xjx V rfl (xwz hs H fun hs H _ _ E _=>yib hT hi he (xeq E hx hs) (xeq E O H)) n
theorem yvc{F1 F2 F3}(H:gdc ops l gd=some g)(M:evS l x=some (ss,v))(hs:Av g (Ax ss))(hv:v=.nilFunc\/ ∃f a b,v=.func f a b)(O:X.P.underlying T=some (.func F1 F2 F3))(n:RO X k ops rest (ent d g (.bool (Gr v)) l) p LL):RO X k ops (⟨d,.binOp .eql T x (.const .nilFunc) T',ty,pos,aft,gd⟩::rest) l p LL:=
 xjx H rfl (xuq hs fun hs _ _ E _=>yfl O (xeq E M hs) hv) n
theorem yum{F1 F2 F3}(H:gdc ops l gd=some g)(M:evS l x=some (ss,v))(hs:Av g (Ax ss))(hv:v=.nilFunc\/ ∃f a b,v=.func f a b)(O:X.P.underlying T=some (.func F1 F2 F3))(n:RO X k ops rest (ent d g (.bool (!Gr v)) l) p LL):RO X k ops (⟨d,.binOp .neq T x (.const .nilFunc) T',ty,pos,aft,gd⟩::rest) l p LL:=
 xjx H rfl (xuq hs fun hs _ _ E _=>yyh O (xeq E M hs) hv) n
theorem ykn{k1:IntKind}{a b:Int}(w:Int)(M:evS l x=some ([],.int k1 a))(H:evS l y=some ([],.int k1 b))(hn:k1.wrap (a+b)=w)(n:RO X k ops rest (ent d none (.int k1 w) l) p LL):RO X k ops (⟨d,.binOp .add T x y T',ty,pos,aft,none⟩::rest) l p LL:=
 xjx (g:=none) rfl rfl (fun _ _ E _=>ysz (xeq E M trivial) (xeq E H trivial) hn) n
theorem ypc{k1:IntKind}{a b:Int}(w:Int)(M:evS l x=some ([],.int k1 a))(H:evS l y=some ([],.int k1 b))(hn:k1.wrap (a-b)=w)(n:RO X k ops rest (ent d none (.int k1 w) l) p LL):RO X k ops (⟨d,.binOp .sub T x y T',ty,pos,aft,none⟩::rest) l p LL:=
 xjx (g:=none) rfl rfl (fun _ _ E _=>ykz (xeq E M trivial) (xeq E H trivial) hn) n
theorem xn3{k1:IntKind}{a:Int}(w:Int)(H:evS l x=some ([],.int k1 a))(hn:k1.wrap (0-a)=w)(n:RO X k ops rest (ent d none (.int k1 w) l) p LL):RO X k ops (⟨d,.unOp .neg T x,ty,pos,aft,none⟩::rest) l p LL:=
 xjx (g:=none) rfl rfl (fun _ _ E _=>xx1 (xeq E H trivial) hn) n
theorem yqc{k1 k2:IntKind}{a w:Int}{s:Nat}(M:evS l x=some ([],.int k1 a))(H:evS l y=some ([],.int k2 ((s:Nat):Int)))(hn:k1.wrap (a*2^min s k1.bits)=w)(n:RO X k ops rest (ent d none (.int k1 w) l) p LL):RO X k ops (⟨d,.binOp .shl T x y T',ty,pos,aft,none⟩::rest) l p LL:=
 xjx (g:=none) rfl rfl (fun _ _ E _=>ydb (xeq E M trivial) (xeq E H trivial) hn) n
theorem yrm{a b:Nat}(O:evS l x=some ([],.int .u8 ((a:Nat):Int)))(M:evS l y=some ([],.int .u8 ((b:Nat):Int)))(H:a<256)(V:b<256)(n:RO X k ops rest (ent d none (.int .u8 ((a ||| b:Nat):Int)) l) p LL):RO X k ops (⟨d,.binOp .or T x y T',ty,pos,aft,none⟩::rest) l p LL:=
 xjx (g:=none) rfl rfl (fun _ _ E _=>yfb (xeq E O trivial) (xeq E M trivial) H V) n
theorem xrz{args:List Operand}{ats:Array TypeId}{ff:FuncId}{first cap vs:List Value}{Q:Value->Prop}(hx:evS l x=some ([],.func (.func ff) first.toArray cap.toArray))(H:C9 l args=some ([],vs))
 (hc:∀h,Per p h->Aa X.P X.md ff (first++(vs++cap)).toArray h fun v' h'=>Q v'/\Af h h')(n:∀v,Q v->RO X k ops rest (ent d none v l) p LL)(hf:Am X.P ff=true:=by kernel_rfl):
 RO X k ops (⟨d,.call ⟨.value x,args.toArray,ats⟩,ty,pos,aft,none⟩::rest) l p LL:=⟨fun O tm M E=>
 xsv (R:=fun v h=>Q v/\St X.z9 X.zz p h LL.flatten) (xrq rfl) (xeq E hx trivial) (by rw[xnx E H trivial]) hf
  (fun h s=>(hc h fun b o e=>s.per b o e).mono fun _ _⟨q,V⟩=>⟨q,s.call V⟩)
  fun v=>xcz fun q=>(n v q).run (xjq O).1 _ (Aw.trans M) (E.ent (g:=none) M (xjq O).2)⟩
theorem Ar.Cq{p:Ab}{h h':Heap}{Q:Value->Ab->Prop}{v:Value}(x:Ar p h Q v h'):(∃p',Q v p')/\Af h h':=by
 obtain⟨p',_,q,H,_⟩:=x;exact⟨⟨p',q⟩,H⟩
theorem yhv{dT xT eT:TypeId}{es:List (List Value)}(hx:evS l x=some ([],v))(hy:evS l y=some ([],sv a))(o:Ac eT 1 v es Y)(hn:es.length=a.length)(a2:0<a.length)[i1:Rm LL Y LR][hT:Bv X.P dT eT][hs:Ai X.P eT 1]
 (nx:∀H,Ac eT 1 v (bcs a) H->RO X k ops rest ((dd,none,.J ((a.length:Nat):Int))::l) p (H::LR)):RO X k ops (⟨some dd,.call ⟨.builtin .copy,#[x,y],#[dT,xT]⟩,ty,pos,aft,none⟩::rest) l p LL:=⟨fun ok tm ht E=>by
 obtain⟨b,cap,hv,a3,_⟩:=o.at0 om d_;refine xmj (K:=fun v' h'=>v'=.J ((a.length:Nat):Int)/\ ∃H,Ac eT 1 v (bcs a) H/\St X.z9 X.zz p h' (H++LR.flatten)) (xrq rfl) rfl (fun h s=>?_) fun v'=>xcz fun e=>by
  subst e;exact xgk fun H=>xcz fun V=>(nx H V).run (xjq ok).1 _ (by simp[Cm,ht]) (E.set (g:=none) (ht ▸ xhw ok rfl))
 unfold Ex;simp only[execOp,resolve];refine xbq (xcq ?_);simp only[invoke,builtin];refine xbq ?_;have O:=xeq E hy trivial;have M:=xeq E hx trivial;have e:(#[x,y]:Array Operand).map (evl tm)=#[.slice (some ((El v).add (0*1))) es.length cap,.string (bs a)]:=by
  simp only[List.map_toArray,List.map_cons,List.map_nil,M,O];rw[hv];show _=#[Value.slice (some ((⟨b,0,none⟩:Addr).add (0*1))) es.length cap,_];rw[xsx,Nat.zero_mul];rfl
 rw[e];have hf:∀K:Array Value->Heap->Prop,K (bcs a).flatten.toArray h->wpS X.P (Builtin.firstCells 1 a.length (.string (bs a))) h K:=fun K k=>by
  have e2:(((bs a).extract 0 a.length).data.map fun b=>Value.int .u8 ((b.toNat:Nat):Int))=(bcs a).flatten.toArray:=by
   rw[xrj,xdg];apply Array.ext';simp[bs]
  show wpS X.P (pure _) h K;rw[e2];exact xcq k
 have hl:∀K:Nat->Heap->Prop,K a.length h->wpS X.P (Builtin.lenOf (.string (bs a))) h K:=fun K k=>by
  show wpS X.P (pure _) h K;rw[xcw];exact xcq k
 have h1:∀u∈(bcs a).flatten,A7 u=true:=fun u hu=>by
  rw[xrj]at hu;obtain⟨b,_,rfl⟩:=List.mem_map.1 hu;rfl
 refine xkb hT.h hs.h o (s.rm i1) om (show Nat.min a.length es.length=a.length from by rw[hn];exact Nat.min_self _) hl hf (xbk a) (fun e he=>by obtain⟨_,_,rfl⟩:=List.mem_map.1 he;rfl) h1 om fun h' H V s'=>?_;exact xcq ⟨_,rfl,rfl,H,by have o2:=V.as (es':=bcs a) (by simp[hn,List.drop_of_length_le]);exact o2,s'⟩⟩
theorem ynm{pt t2 eT:TypeId}(o:Ac eT 1 v (bcs a) Y)(M:0<a.length)(hl:a.length<=1000000)(hx:evS l x=some ([],.pointer (some (El v))))(hy:evS l y=some ([],.J ((a.length:Nat):Int)))(hp:X.P.underlying pt=some (.pointer eT))(V:X.P.cellsOf eT=1)[i1:Rm LL Y LR]
 (n:RO X k ops rest ((dd,none,sv a)::l) p LR):RO X k ops (⟨some dd,.call ⟨.builtin .unsafeString,#[x,y],#[pt,t2]⟩,ty,pos,aft,none⟩::rest) l p LL:=⟨fun ok tm ht E=>by
 obtain⟨hw,⟨_,H,_⟩|⟨b,cs,cap,O,rfl,rfl,a2,_,_⟩⟩:=o
 ·rw[<- xbk,H]at M;cases M
 refine xmj (K:=fun v' h'=>v'=sv a/\St X.z9 X.zz p h' LR.flatten) (xrq rfl) rfl (fun h s=>?_) fun v'=>xcz fun e=>by
  subst e;exact n.run (xjq ok).1 _ (by simp[Cm,ht]) (E.set (g:=none) (ht ▸ xhw ok rfl))
 refine ysp (i:=0) (s.rm i1) rfl hp V M hl (xeq E hx trivial) (xeq E hy trivial) (fun j u hj=>?_) fun h' s'=>⟨rfl,s'.sub (List.sublist_cons_self _ _)⟩
 rw[List.getElem?_toArray,a2,List.getElem?_append_left (List.getElem?_eq_some_iff.1 hj).1];exact hj⟩
end
theorem ytd{w:Nat}:∀(m:Nat)(l:List Value),l.length=m*w-> ∃zs:List (List Value),zs.length=m/\(∀e∈zs,e.length=w)/\zs.flatten=l
 |0,l,h=>⟨[],rfl,s_,(List.eq_nil_of_length_eq_zero (by simpa using h)).symm⟩
 |m+1,l,h=>by
   rw[Nat.succ_mul]at h;obtain⟨zs,O,M,H⟩:=ytd (w:=w) m (l.drop w) (by rw[List.length_drop];omega);refine⟨l.take w::zs,by simp[O],fun e he=>?_,by simp[H]⟩;rcases List.mem_cons.1 he with rfl|he
   ·rw[List.length_take];omega
   ·exact M e he
section
variable{P:Program}{h:Heap}{z9:Heap}{zz:List Nat}{p:Ab}{C A:Pcs}
theorem xk0{sT xT eT ty:TypeId}{w m n c by':Nat}{a:Option Addr}{z:Value}{es:List (List Value)}{K:Value->Heap->Prop}(hT:P.underlying sT=some (.slice eT))(hs:Bi P eT=some w)(hz:Dx P eT=some z)(a6:z.cells.size=w)(a3:0<w)
 (M:Dh P eT=some by')(hx:P.underlying xT=some (.int .i64))(d:Sl p a n w es)(s:St z9 zz p h C)(hc:c<n+m)
 (a8:0<m)(H:(n+m)*by'<=2^45)(V:0<by'/\by'<=2^20)
 (nx:∀v' X' h' zs,zs.length=m->Ac eT w v' (es++zs) X'->St z9 zz p h' (X'++C)->K v' h'):wpS P (Builtin.append_ #[sT,xT] ty #[.slice a n c,.J ((m:Nat):Int)]) h K:=by
 obtain⟨i,hi,a5⟩:∃i,P.info? eT=some i/\i.bytes=by':=by
  unfold Dh at M;cases hi:P.info? eT with
  |none=>rw[hi]at M;cases M
  |some i=>rw[hi]at M;exact⟨i,rfl,by simpa using M⟩
 have hn:=d.len;have a2:=d.wid;have b0:n+m<=2^45:=Nat.le_trans (Nat.le_mul_of_pos_right _ V.1) H;have b6:m*by'<=2^45:=Nat.le_trans (Nat.mul_le_mul_right _ (Nat.le_add_left m n)) H;have a4:=(xrf (P:=P) (cap:=c) s a3 d).cells;unfold Builtin.append_;simp only[List.getElem?_toArray,List.getElem?_cons_zero,List.getElem?_cons_succ];refine xbq (xfq hT ?_);simp only;refine xbq (xax hs ?_);refine xbq (xfq hx ?_);refine xbq (xix (K:=fun zr h'=>zr=true/\h'=h) (xcq ⟨rfl,rfl⟩) fun zr h'⟨ez,eh⟩=>?_);subst ez;have eh:=eh.symm;subst eh;simp only[if_true,Bool.not_true,Bool.false_eq_true,if_false,asInt];refine xbq (xcq ?_);rw[wrZ om,if_neg om];refine xbq (xqx hi ?_);have b3:((m:Nat):Int)*(i.bytes:Int)=((m*by':Nat):Int):=by rw[a5];exact(Int.natCast_mul _ _).symm
 rw[b3,if_neg om];refine xbq (xcq ?_);rw[Int.toNat_natCast,if_neg (show ¬ n+m<=c by omega)];refine xbq (xqx hi ?_);rw[if_neg (by
  intro hh;have:(IntKind.i64.max:Int)=9223372036854775807:=by decide
  rw[this]at hh;omega)]
 refine xbq (xqx hi ?_);rw[a5,if_neg (by have:=xo1 (by':=by') hc H V.2;omega)];refine xbq ?_;show wpS P (choose _) h _;simp only[choose,wpS,Question.forced,Bool.false_eq_true,if_false,Question.cut];intro t;generalize b5:n+m+t%(2^63-(n+m))=nc;have b4:n+m<=nc:=om;have a7:nc<=9223372036854775807:=by
  have:=Nat.mod_lt t (show 0<2^63-(n+m) by omega);omega
 refine xbq (xqx hi ?_);refine xbq ?_;have a9:∀(b:Nat)(K:Unit->Heap->Prop),K () h->wpS P (askRoom b) h K:=by
  intro b K hK;unfold askRoom;split
  ·exact⟨rfl,hK⟩
  ·exact xcq hK
 refine a9 _ _ ?_;refine xbq (a4 _ ?_);rw[if_neg (Nat.ne_of_gt (Nat.mul_pos a8 a3))];refine xbq (xbq (xaz hz (xcq ?_)));refine xbq (xaz hz ?_);refine xbq (xqz ?_);obtain⟨zs,z1,z2,z3⟩:=ytd (w:=w) m (Builtin.zeroCells z.cells m).toList (by rw[xsj,a6]);have O:∀e∈es++zs,e.length=w:=fun e he=>(List.mem_append.1 he).elim (a2 e) (z2 e);refine xcq (nx _ [(h.size,.cells (List.toArray (es.flatten++zs.flatten++(Builtin.zeroCells z.cells (nc-(n+m))).toList)) eT (0,0))] _ zs z1 ⟨O,.inr ⟨h.size,_,nc,(Builtin.zeroCells z.cells (nc-(n+m))).toList,?_,rfl,s_,?_,fun _=>a7⟩⟩ ?_)
 ·simp[z1,hn]
 ·simp only[List.length_append,xnq a2,xnq z2,z1,hn,xsj,a6];rw[<- Nat.add_mul,<- Nat.add_mul];congr 1;omega
 ·have s1:=s.push (.cells (List.toArray (es.flatten++zs.flatten++(Builtin.zeroCells z.cells (nc-(n+m))).toList)) eT (0,0));have e1:(List.toArray es.flatten++Builtin.zeroCells z.cells m++Builtin.zeroCells z.cells (nc-(n+m)))=List.toArray (es.flatten++zs.flatten++(Builtin.zeroCells z.cells (nc-(n+m))).toList):=by
   apply Array.ext';simp[z3]
  rw[e1];exact s1
theorem yhf{w j n c c2:Nat}{T:TypeId}{b N cap:Nat}{es:List (List Value)}{Y L₁ L₂:Pcs}(o:Ac T w (.slice (some ⟨b,0,none⟩) N cap) es Y)(s:St z9 zz p h (L₁++(Y++L₂)))(hj:j+n<=es.length):∀K:Array Value->Heap->Prop,K ((es.drop j).take n).flatten.toArray h->wpS P (Builtin.firstCells w n (.slice (some ⟨b,j*w,none⟩) c c2)) h K:=by
 obtain⟨hw,⟨e,-,-⟩|⟨b,cs,cap,rest,e,rfl,O,hlen,V⟩⟩:=o
 ·cases e
 injection e with e1 e2 e3;cases e1;intro K hK;show wpS P (loadCells ⟨b,j*w,none⟩ (n*w)) h K;have H:∀e∈(es.drop j).take n,e.length=w:=fun e he=>hw e (List.mem_of_mem_drop (List.mem_of_mem_take he));have M:((es.drop j).take n).length=n:=by rw[List.length_take,List.length_drop];omega
 refine xlz (by rw[xnq H,M]) (fun q u hq=>?_) hK;rw[xsx];refine s.Ff (i:=L₁.length) (cs:=cs.toArray) (T:=T) (z:=(0,0)) ?_ ?_
 ·rw[List.getElem?_append_right (Nat.le_refl _)];simp
 have et:(es.take j).flatten.length=j*w:=by rw[xnq fun e he=>hw e (List.mem_of_mem_take he),List.length_take,Nat.min_eq_left om]
 have ec:cs=(es.take j).flatten++(((es.drop j).take n).flatten++(((es.drop j).drop n).flatten++rest)):=by
  rw[O];simp only[<- List.append_assoc,<- List.flatten_append];congr 1;rw[List.append_assoc,List.take_append_drop,List.take_append_drop]
 rw[List.getElem?_toArray,ec,List.getElem?_append_right om,et,Nat.add_sub_cancel_left,List.getElem?_append_left (List.getElem?_eq_some_iff.1 hq).1];exact hq
theorem Ac.more{T:TypeId}{w b n cap:Nat}{es:List (List Value)}{Y:Pcs}(o:Ac T w (.slice (some ⟨b,0,none⟩) n cap) es Y)(hc:n<cap):∃e,Ac T w (.slice (some ⟨b,0,none⟩) (n+1) cap) (es++[e]) Y:=by
 obtain⟨hw,⟨e,-,-⟩|⟨b,cs,cap,rest,e,rfl,M,hlen,H⟩⟩:=o
 ·cases e
 injection e with e1 e2 e3;cases e1;subst e2 e3;have O:=congrArg List.length M;rw[List.length_append,xnq hw,hlen]at O;have V:(es.length+1)*w<=cap*w:=Nat.mul_le_mul_right _ hc;rw[Nat.succ_mul]at V;refine⟨rest.take w,fun e he=>?_,.inr ⟨b,cs,cap,rest.drop w,s_,rfl,by rw[M];simp[List.append_assoc],hlen,H⟩⟩;rcases List.mem_append.1 he with he|he
 ·exact hw e he
 ·rw[List.mem_singleton.1 he,List.length_take];omega
end
section
variable{P:Program}{h:Heap}{a b:Addr}{c1 c2:Array Value}{e1 e2:TypeId}
theorem xgd{c:Array Value}{e:TypeId}{K:Bool->Heap->Prop}(H:h[a.block]?=some (.cells c e (0,0)))(hc:0<c.size)(k:K false h):wpS P (frozen a) h K:=
 ⟨⟨c,e,_,H,hc⟩,fun _=>k,fun n=>absurd (.inr ⟨c,e,H,hc⟩) n⟩
theorem xok{c:Array Value}{e:TypeId}{z:Nat×Nat}{r:Nat}{K:Option (TypeId×Nat)->Heap->Prop}(H:h[r]?=some (.cells c e z))(hc:0<c.size)(k:K (some (e,c.size)) h):wpS P (shape r) h K:=by
 show wpS P (.shape r .pure) h K;rw[wpS,H];exact⟨hc,k⟩
theorem xxm{c:Array Value}{e:TypeId}{z:Nat×Nat}{K:Unit->Heap->Prop}(H:h[a.block]?=some (.cells c e z))(hc:0<c.size)(k:K () h):wpS P (noView a) h K:=by
 unfold noView;refine xbq ?_;unfold viewAt;refine xbq (xok H hc ?_);simp only[Option.isSome_some,if_true];exact xcq k
theorem xk2{c:Array Value}{e:TypeId}{K:Bool->Heap->Prop}(H:h[a.block]?=some (.cells c e (0,0)))(hc:0<c.size)(k:K false h):wpS P (stringish a) h K:=by
 unfold stringish;refine xbq (xgd H hc ?_);simp only[Bool.false_eq_true,if_false];refine xbq (xok H hc ?_);exact xgd H hc k
theorem xes{tS tR eT:TypeId}{w la ca lb cb:Nat}{K:Value->Heap->Prop}(ht:P.underlying tS=some (.slice eT))(hs:Bi P eT=some w)(H:a.block≠b.block)(O:h[a.block]?=some (.cells c1 e1 (0,0)))(h1:0<c1.size)(V:h[b.block]?=some (.cells c2 e2 (0,0)))(M:0<c2.size)(k:K (.bool false) h):
 wpS P (Extern.SlicesOverlaps.overlaps #[tS,tS] #[tR] #[.slice (some a) la ca,.slice (some b) lb cb]) h K:=by
 show wpS P (underlying tS >>= _) h K;refine xbq (xfq ht ?_);show wpS P (sizeOf eT >>= _) h K;refine xbq (xax hs ?_);dsimp only;by_cases h0:la=0\/lb=0\/w=0
 ·rw[if_pos h0];exact xcq k
 rw[if_neg h0];refine xbq (xgd O h1 ?_);refine xbq (xgd V M ?_);simp only[Bool.and_false,Bool.false_eq_true,if_false];rw[if_pos (by simpa using H)];refine xbq (xxm O h1 ?_);refine xbq (xxm V M ?_);unfold mayBeOne;refine xbq (xbq (xk2 O h1 (xbq (xk2 V M ?_))));refine xbq (xbq (xok O h1 (xcq ?_)));refine xbq (xbq (xok V M (xcq (xcq ?_))));simp only[Bool.false_and,Bool.or_self,Bool.false_eq_true,if_false];have e:(a.block==b.block)=false:=by simpa using H
 rw[e];exact xcq k
end
section
variable{X:Cx}{k:List Item}{ops rest:List Oper}{m:Ks}{l:Env}{p:Ab}{LF LL LR L3:List Pcs}{effs todo:List Nat}{d:Option Tmp}{dd:Nat}{ty:TypeId}{pos:String}{aft:Array Edge}{gd:Option (Nat×Bool)}{g:Option Bool}{ss ss':List Prop}{x y y2:Operand}{i:Nat}{v:Value}{T T' t:TypeId}{w:Nat}{es news:List (List Value)}{Y Z:Pcs}
theorem yqm{gf:FuncId}{fn:Func}{tS tR eT:TypeId}{ats:Array TypeId}{la ca lb cb i j b1 b2 o1 o2:Nat}{cs1 cs2:Array Value}{e1 e2:TypeId}{sp1 sp2:Option Nat}(hf:X.P.funcs[gf]?=some fn)(he:Extern.find fn=some (Extern.SlicesOverlaps.overlaps #[tS,tS] #[tR]))(hx:evS l x=some ([],.func (.func gf) #[] #[]))
 (hy:evS l y=some ([],.slice (some ⟨b1,o1,sp1⟩) la ca))(hy2:evS l y2=some ([],.slice (some ⟨b2,o2,sp2⟩) lb cb))(hL1:LL.flatten[i]?=some (b1,.cells cs1 e1 (0,0)))(h1:0<cs1.size)(hL2:LL.flatten[j]?=some (b2,.cells cs2 e2 (0,0)))(h2:0<cs2.size)(hne:i≠j)[hT:Bv X.P tS eT][hs:Ai X.P eT w](n:RO X k ops rest (ent d none (.bool false) l) p LL)
 (hname : (fn.name == "runtime.NumGoroutine") = false := by kernel_rfl)(hb : fn.body.isNone = true := by kernel_rfl)(hn : Extern.findNext fn = none := by kernel_rfl): RO X k ops (⟨d, .call ⟨.value x, #[y, y2], ats⟩, ty, pos, aft, none⟩ :: rest) l p LL :=
 xjx (g:=none) rfl rfl (fun _ h' E s=>yqz (args:=[y,y2]) hf hname hb hn he (xeq E hx trivial) (by simp only[List.map_cons,List.map_nil,xeq E hy trivial,xeq E hy2 trivial];rfl) (xes hT.h hs.h (fun e=>hne (by
  obtain⟨l1,q1⟩:=List.getElem?_eq_some_iff.1 hL1;obtain⟨l2,q2⟩:=List.getElem?_eq_some_iff.1 hL2;have nd:=List.pairwise_iff_getElem.1 s.nod;have e:b1=b2:=e;refine Classical.byContradiction fun q=>?_;rcases Nat.lt_or_gt_of_ne q with q|q
  ·exact nd i j (by rw[List.length_map];exact l1) (by rw[List.length_map];exact l2) q (by rw[List.getElem_map,List.getElem_map,q1,q2];exact e)
  ·exact nd j i (by rw[List.length_map];exact l2) (by rw[List.length_map];exact l1) q (by rw[List.getElem_map,List.getElem_map,q1,q2];exact e.symm))) (s.at hL1) h1 (s.at hL2) h2 ⟨rfl,rfl⟩)) n
theorem yjn{sT xT eT:TypeId}{by' q m c:Nat}{a:Option Addr}{z:Value}(hx:evS l x=some ([],.slice a q c))(hy:evS l y=some ([],.J ((m:Nat):Int)))(S:Sl p a q w es)(hc:c<q+m)(V:0<m)(M:(q+m)*by'<=2^45)
 [hT:Bv X.P sT eT][hs:Ai X.P eT w][hz:A5 X.P eT z][hb:ByC X.P eT by'](nx:∀v' H zs,zs.length=m->Ac eT w v' (es++zs) H->RO X k ops rest ((dd,none,v')::l) p (H::LL))
 (a2:z.cells.size=w:=by rfl)(a4:0<by'/\by'<=2^20:=by decide)(a5:0<w:=by decide)(hX:X.P.underlying xT=some (.int .i64):=by kernel_rfl):RO X k ops (⟨some dd,.call ⟨.builtin .append,#[x,y],#[sT,xT]⟩,ty,pos,aft,none⟩::rest) l p LL:=⟨fun ok tm ht E=>
 xmj (K:=fun v' h'=>∃H zs,(zs.length=m/\Ac eT w v' (es++zs) H)/\St X.z9 X.zz p h' (H++LL.flatten)) (xrq rfl) rfl (fun h s=>by
  unfold Ex;simp only[execOp,resolve];refine xbq (xcq ?_);simp only[invoke,builtin];refine xbq ?_;have e:(#[x,y]:Array Operand).map (evl tm)=#[.slice a q c,.J ((m:Nat):Int)]:=by
   simp only[List.map_toArray,List.map_cons,List.map_nil,xeq E hx trivial,xeq E hy trivial]
  rw[e];refine xk0 hT.h hs.h hz.h a2 a5 hb.h hX S s hc V M a4 fun v' H h' zs a3 O s'=>?_;exact xcq ⟨v',rfl,H,zs,⟨a3,O⟩,s'⟩) fun v'=>xgk fun H=>xgk fun zs=>xcz fun O=>(nx v' H zs O.1 O.2).run (xjq ok).1 _ (by simp[Cm,ht]) (E.set (g:=none) (ht ▸ xhw ok rfl))⟩
theorem xx9{dT xT eT:TypeId}{q c off dl dc N cap b:Nat}{a:Option Addr}(hx:evS l x=some ([],.slice (some ⟨b,off*w,none⟩) dl dc))(hy:evS l y=some ([],.slice a q c))(o:Ac T w (.slice (some ⟨b,0,none⟩) N cap) es Y)(S:Sl p a q w news)(hN:es.length=N)(V:0<N)(hq:q<=dl)(O:off+q<=N)(h1:∀u∈news.flatten,A7 u=true)[i1:Rm LL Y LR][hT:Bv X.P dT eT][hs:Ai X.P eT w]
 (nx:∀M,Ac T w (.slice (some ⟨b,0,none⟩) N cap) (es.take off++(news++es.drop (off+q))) M->RO X k ops rest ((dd,none,.J ((q:Nat):Int))::l) p (M::LR))(a2:0<w:=by decide):RO X k ops (⟨some dd,.call ⟨.builtin .copy,#[x,y],#[dT,xT]⟩,ty,pos,aft,none⟩::rest) l p LL:=⟨fun ok tm ht E=>by
 subst hN;refine xmj (K:=fun v' h'=>v'=.J ((q:Nat):Int)/\ ∃M,Ac T w (.slice (some ⟨b,0,none⟩) es.length cap) (es.take off++(news++es.drop (off+q))) M/\St X.z9 X.zz p h' (M++LR.flatten)) (xrq rfl) rfl (fun h s=>?_) fun v'=>xcz fun e=>by
  subst e;exact xgk fun M=>xcz fun o'=>(nx M o').run (xjq ok).1 _ (by simp[Cm,ht]) (E.set (g:=none) (ht ▸ xhw ok rfl))
 unfold Ex;simp only[execOp,resolve];refine xbq (xcq ?_);simp only[invoke,builtin];refine xbq ?_;have e:(#[x,y]:Array Operand).map (evl tm)=#[.slice (some ((El (.slice (some ⟨b,0,none⟩) es.length cap)).add (off*w))) dl dc,.slice a q c]:=by
  simp only[List.map_toArray,List.map_cons,List.map_nil,xeq E hx trivial,xeq E hy trivial];show _=#[Value.slice (some ((⟨b,0,none⟩:Addr).add (off*w))) dl dc,_];rw[xsx,Nat.zero_add]
 rw[e];have H:=xrf (P:=X.P) (cap:=c) (s.rm i1) a2 S;refine xkb hT.h hs.h o (s.rm i1) V (Nat.min_eq_left hq) H.lenOf H.cells H.len H.wid h1 O fun h' M o' s'=>?_;exact xcq ⟨_,rfl,rfl,M,o',s'⟩⟩
theorem ydn{dT xT eT:TypeId}{q off j dl dc sl sc N cap b:Nat}(hx:evS l x=some ([],.slice (some ⟨b,off*w,none⟩) dl dc))(hy:evS l y=some ([],.slice (some ⟨b,j*w,none⟩) sl sc))(o:Ac T w (.slice (some ⟨b,0,none⟩) N cap) es Y)(hN:es.length=N)(O:0<N)(hq:Nat.min sl dl=q)(M:off+q<=N)(hj:j+q<=N)(h1:∀u∈((es.drop j).take q).flatten,A7 u=true)[i1:Rm LL Y LR][hT:Bv X.P dT eT][hs:Ai X.P eT w]
 (nx:∀H,Ac T w (.slice (some ⟨b,0,none⟩) N cap) (es.take off++((es.drop j).take q++es.drop (off+q))) H->RO X k ops rest ((dd,none,.J ((q:Nat):Int))::l) p (H::LR)):RO X k ops (⟨some dd,.call ⟨.builtin .copy,#[x,y],#[dT,xT]⟩,ty,pos,aft,none⟩::rest) l p LL:=⟨fun ok tm ht E=>by
 subst hN;refine xmj (K:=fun v' h'=>v'=.J ((q:Nat):Int)/\ ∃H,Ac T w (.slice (some ⟨b,0,none⟩) es.length cap) (es.take off++((es.drop j).take q++es.drop (off+q))) H/\St X.z9 X.zz p h' (H++LR.flatten)) (xrq rfl) rfl (fun h s=>?_) fun v'=>xcz fun e=>by
  subst e;exact xgk fun H=>xcz fun o'=>(nx H o').run (xjq ok).1 _ (by simp[Cm,ht]) (E.set (g:=none) (ht ▸ xhw ok rfl))
 unfold Ex;simp only[execOp,resolve];refine xbq (xcq ?_);simp only[invoke,builtin];refine xbq ?_;have e:(#[x,y]:Array Operand).map (evl tm)=#[.slice (some ((El (.slice (some ⟨b,0,none⟩) es.length cap)).add (off*w))) dl dc,.slice (some ⟨b,j*w,none⟩) sl sc]:=by
  simp only[List.map_toArray,List.map_cons,List.map_nil,xeq E hx trivial,xeq E hy trivial];show _=#[Value.slice (some ((⟨b,0,none⟩:Addr).add (off*w))) dl dc,_];rw[xsx,Nat.zero_add]
 rw[e];have V:∀e∈(es.drop j).take q,e.length=w:=fun e he=>o.1 e (List.mem_of_mem_drop (List.mem_of_mem_take he));refine xkb (m:=sl) hT.h hs.h o (s.rm i1) O hq (fun K hK=>xcq hK) (yhf (L₁:=[]) o (s.rm i1) hj) (by rw[List.length_take,List.length_drop];omega) V h1 M fun h' H o' s'=>?_;exact xcq ⟨_,rfl,rfl,H,o',s'⟩⟩
end
section
variable{X:Cx}{k:List Item}{ops rest:List Oper}{m:Ks}{l:Env}{p:Ab}{LF LL LR L3:List Pcs}{effs todo:List Nat}{d:Option Tmp}{dd:Nat}{ty:TypeId}{pos:String}{aft:Array Edge}{gd:Option (Nat×Bool)}{x y y2:Operand}{i:Nat}{v:Value}{t:TypeId}{Y Z:Pcs}
theorem ygl{P:Program}{h:Heap}{tm:List Value}{e:TypeId}{a:Option Addr}{n c:Nat}(M:P.underlying t=some (.slice e))(H:evl tm x=.slice a n c):
 Exd P tm ⟨d,.call {callee:=.builtin .cap,args:=#[x],argTypes:=#[t]},ty,pos,aft,gd⟩ h (.J c):=by
 refine xsk (s:=Builtin.cap_ #[t] ty #[.slice a n c]) (fun cs=>by simp only[builtin,List.map_toArray,List.map_cons,List.map_nil,H]) ?_;simp only[Builtin.cap_];refine xbq (xfq M ?_);exact xcq ⟨rfl,rfl⟩
theorem ygn{e:TypeId}{a:Option Addr}{q c:Nat}(H:evS l x=some ([],.slice a q c))[f:Bv X.P t e](n:RO X k ops rest (ent d none (.J ((c:Nat):Int)) l) p LL):
 RO X k ops (⟨d,.call ⟨.builtin .cap,#[x],#[t]⟩,ty,pos,aft,none⟩::rest) l p LL:=xjx (g:=none) rfl rfl (fun _ _ E _=>ygl f.h (xeq E H trivial)) n
theorem Ac.blk{T:TypeId}{w b n cap:Nat}{es:List (List Value)}{Y:Pcs}(o:Ac T w (.slice (some ⟨b,0,none⟩) n cap) es Y):∃cs:Array Value,Y=[(b,.cells cs T (0,0))]/\cs.size=cap*w:=by
 obtain⟨hw,⟨e,-,-⟩|⟨b,cs,cap,rest,e,rfl,M,hlen,H⟩⟩:=o
 ·cases e
 injection e with e1 e2 e3;cases e1;subst e3;exact⟨_,rfl,by simpa using hlen⟩
theorem yjr{args:List Operand}{ats:Array TypeId}{ff:FuncId}{first cap vs:List Value}{Q:Value->Pcs->Prop}(Y Z:Pcs)[ii:Rm LL Y L3][jj:Rm L3 Z LR](O:ops[i]?=some ⟨d,.call ⟨.value x,args.toArray,ats⟩,ty,pos,aft,none⟩)
 (V:evS l x=some ([],.func (.func ff) first.toArray cap.toArray))(M:C9 l args=some ([],vs))(hc:∀h C,St X.z9 X.zz p h ((Y++Z)++C)->Aa X.P X.md ff (first++(vs++cap)).toArray h fun v' h'=>∃H,Q v' H/\St X.z9 X.zz p h' (H++C))(n:∀v H,Q v H->DE X k ops m p LF effs todo (ent d none v l) (H::LR))
 (he:effs.contains i=true:=by rfl)(hf:Am X.P ff=true:=by kernel_rfl):DE X k ops m p LF effs (i::todo) l LL:=
 ⟨.eff (U:=Y++Z) (LR:=LR) (Q:=Q) O (by simpa using he) (by simpa[List.append_assoc]using ii.h.trans (List.Perm.append_left Y jj.h)) (fun _ _ E=>⟨rfl,xrq rfl,fun C h s=>.inr <| .inl ⟨ff,_,xww (xeq E V trivial) (by rw[xnx E M trivial]) hf,hc h _ s⟩⟩) fun v H q=>(n v H q).run⟩
end
section
variable{X:Cx}{k:List Item}{ops rest:List Oper}{l:Env}{p:Ab}{LL:List Pcs}{d:Option Tmp}{ty:TypeId}{pos:String}{aft:Array Edge}{gd:Option (Nat×Bool)}{x y y2:Operand}{t:TypeId}{w:Nat}
theorem xw1{P:Program}{h:Heap}{tm:List Value}{e:TypeId}{z:Operand}{n j c:Nat}{k k':IntKind}{a:Option Addr}(H:P.underlying t=some (.slice e))(hs:Bi P e=some w)(hx:evl tm x=.slice a n c)
 (O:evl tm y=.int k ((j:Nat):Int))(M:evl tm z=.int k' ((j:Nat):Int))(h2:j<=c):Exd P tm ⟨d,.slice t x none (some y) (some z),ty,pos,aft,gd⟩ h (.slice a j j):=by
 refine xtz (s:=Instr.sliceAt t (.slice a n c) none (some (.int k ((j:Nat):Int))) (some (.int k' ((j:Nat):Int)))) (by simp only[execOp,hx,O,M,Option.map_none,Option.map_some]) ?_;unfold Instr.sliceAt;refine xbq (xfq H ?_);simp only;unfold Instr.slice;refine xbq (xfq H ?_);simp only;refine xbq (xix (K:=fun q h'=>q=(0,j,j)/\h'=h) ?_ fun q h'⟨eq,V⟩=>?_)
 ·unfold Instr.sliceBounds;refine xbq (xhz (Int.natCast_nonneg _) om ?_);rw[Int.toNat_natCast];simp only;refine xbq (xhz (Int.natCast_nonneg _) om ?_);rw[Int.toNat_natCast];exact xbq (xcq (xcq ⟨rfl,rfl⟩))
 ·subst eq;subst V;simp only;refine xbq (xax hs ?_);refine xcq ⟨?_,rfl⟩;have:=xv7 a j w;unfold Ft at this;rw[this,Nat.sub_zero]
theorem ywf{e:TypeId}{n j c:Nat}{a:Option Addr}{k1 k2:IntKind}(O:evS l x=some ([],.slice a n c))(M:evS l y=some ([],.int k1 ((j:Nat):Int)))(H:evS l y2=some ([],.int k2 ((j:Nat):Int)))(hc:j<=c)[f:Bv X.P t e][sz:Ai X.P e w]
 (V:RO X k ops rest (ent d none (.slice a j j) l) p LL):RO X k ops (⟨d,.slice t x none (some y) (some y2),ty,pos,aft,none⟩::rest) l p LL:=
 xjx (g:=none) rfl rfl (fun _ _ E _=>xw1 f.h sz.h (xeq E O trivial) (xeq E M trivial) (xeq E H trivial) hc) V
end
end Go.X
